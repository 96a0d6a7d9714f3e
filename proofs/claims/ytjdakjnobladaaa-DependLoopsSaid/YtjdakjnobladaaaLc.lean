/-
  Dependence: the next element, the order, and that something is always ready.
-/
import Derived.Test.YtjdakjnobladaaaLb
namespace Go.Proofs.Ytjdakjnobladaaa
open Go Go.Pv
set_option linter.all false
theorem alive_ok : law07_alive = some true := by kernel_rfl
theorem few_ok (n : Int) : law07_few n = some (decide (n ≤ 24)) := rfl
theorem same_ok (a : List Int) (ha : a.length < 1000) : law07_same a a = some true := by
  unfold law07_same
  refine ok_eq (ok_brn (fun h => absurd rfl h) fun _ => ?_)
  refine ok_for1 0 a.length (fun _ => True) 0 rfl (Nat.zero_le _) (by omega) trivial ?_ ?_
  · intro i k hi _ hk
    unfold law07_same_l1
    exact ok_brd (fun _ => ok_ixL i rfl hi (ok_ixL i rfl hi (ok_brn (fun h => absurd rfl h) fun _ => hk trivial))) fun h => absurd (show (i : Int) < (a.length : Int) by omega) h
  · intro k _
    unfold law07_same_l1
    exact ok_brd (fun h => absurd h (by show ¬ (a.length : Int) < (a.length : Int); omega)) fun _ => ok_some rfl

/-! ### the next -/
def stF (stamps : List Int) (i : Int) : Int := (stamps[i.toNat]?).getD 0
theorem stamp_ok (stamps : List Int) (i : Int) (h : 0 ≤ i) : depend_stamp stamps i = some (stF stamps i) := by
  obtain ⟨a, rfl⟩ := Int.eq_ofNat_of_zero_le h
  unfold depend_stamp stF
  refine ok_eq (ok_brd (fun h => ?_) fun h => ?_)
  · have ha : a < stamps.length := by unfold lenI at h; omega
    exact ok_ixL a rfl ha (ok_some (by simp [ha]))
  · have ha : stamps.length ≤ a := by unfold lenI at h; omega
    exact ok_some (by simp [List.getElem?_eq_none ha])
theorem stamp2_ok (stamps : List Int) (i : Int) (h : 0 ≤ i) : r07_stamp stamps i = some (stF stamps i) := stamp_ok stamps i h
def nx (stamps : List Int) (b x : Int) : Int := if b < 0 ∨ stF stamps x < stF stamps b ∨ (stF stamps x = stF stamps b ∧ x < b) then x else b
def nextF (stamps : List Int) (r : List Int) : Int := r.foldl (nx stamps) (-1)
theorem nextF_take (stamps r : List Int) (i : Nat) (hi : i < r.length) : nextF stamps (r.take (i + 1)) = nx stamps (nextF stamps (r.take i)) r[i] := by
  rw [take_succ_get r i hi]; unfold nextF; rw [List.foldl_append]; rfl
def before (stamps : List Int) (x y : Int) : Prop := stF stamps x < stF stamps y ∨ (stF stamps x = stF stamps y ∧ x ≤ y)
theorem nextF_spec (stamps : List Int) : ∀ (r : List Int) (b : Int), (∀ x ∈ r, 0 ≤ x) → (b = -1 ∨ 0 ≤ b) →
    (r.foldl (nx stamps) b = b ∨ r.foldl (nx stamps) b ∈ r) ∧ (0 ≤ b ∨ r ≠ [] → 0 ≤ r.foldl (nx stamps) b) ∧ (0 ≤ b → before stamps (r.foldl (nx stamps) b) b) ∧ ∀ x ∈ r, before stamps (r.foldl (nx stamps) b) x
  | [], b, _, _ => by
    refine ⟨.inl rfl, fun h => h.elim id fun h => absurd rfl h, fun _ => .inr ⟨rfl, Int.le_refl _⟩, by simp⟩
  | y :: r, b, h0, hb => by
    have hy := h0 y (by simp)
    have hn : 0 ≤ nx stamps b y := by unfold nx; split <;> omega
    obtain ⟨h1, h2, h3, h4⟩ := nextF_spec stamps r (nx stamps b y) (fun x hx => h0 x (by simp [hx])) (.inr hn)
    have h3' := h3 hn
    have hm : (nx stamps b y = b ∨ nx stamps b y = y) := by unfold nx; split <;> simp
    simp only [List.foldl_cons]
    generalize r.foldl (nx stamps) (nx stamps b y) = q at *
    have hxy : before stamps (nx stamps b y) y ∧ (0 ≤ b → before stamps (nx stamps b y) b) := by
      unfold nx before; split
      · rename_i h; exact ⟨.inr ⟨rfl, Int.le_refl _⟩, fun hb => by omega⟩
      · rename_i h; exact ⟨by omega, fun _ => .inr ⟨rfl, Int.le_refl _⟩⟩
    refine ⟨?_, fun _ => h2 (.inl hn), fun hb => ?_, fun x hx => ?_⟩
    · rcases h1 with h1 | h1
      · rcases hm with hm | hm
        · exact .inl (h1.trans hm)
        · exact .inr (by rw [h1, hm]; simp)
      · exact .inr (by simp [h1])
    · have := hxy.2 hb; unfold before at *; omega
    · rcases List.mem_cons.1 hx with rfl | hx
      · have := hxy.1; unfold before at *; omega
      · exact h4 x hx
theorem nextF_mem (stamps r : List Int) (h0 : ∀ x ∈ r, 0 ≤ x) (h : r ≠ []) : nextF stamps r ∈ r ∧ 0 ≤ nextF stamps r := by
  obtain ⟨h1, h2, _, _⟩ := nextF_spec stamps r (-1) h0 (.inl rfl)
  have := h2 (.inr h)
  refine ⟨h1.resolve_left fun e => ?_, this⟩
  rw [e] at this; omega
theorem nextF_min (stamps r : List Int) (h0 : ∀ x ∈ r, 0 ≤ x) (x : Int) (hx : x ∈ r) : before stamps (nextF stamps r) x := (nextF_spec stamps r (-1) h0 (.inl rfl)).2.2.2 x hx
theorem nextF_pos (stamps r : List Int) (h0 : ∀ x ∈ r, 0 ≤ x) : nextF stamps r = -1 ∨ 0 ≤ nextF stamps r := by
  cases r with
  | nil => exact .inl rfl
  | cons y r => exact .inr (nextF_mem stamps _ h0 (by simp)).2
theorem ready_sub (l : List Int) (needs : List (List Bool)) (x : Int) (h : x ∈ readyF l needs) : x ∈ l := (List.mem_filter.1 h).1
theorem ready_len (l : List Int) (needs : List (List Bool)) : (readyF l needs).length ≤ l.length := List.length_filter_le _ _
theorem next_ok (left stamps : List Int) (needs : List (List Bool)) (hl : left.length ≤ 24) : depend_Next left stamps needs = some (nextF stamps (readyF (elF left) needs)) := by
  unfold depend_Next
  refine ok_eq (ok_bnde (ready_ok left needs hl) ?_)
  have h0 : ∀ x ∈ readyF (elF left) needs, 0 ≤ x := fun x hx => ((el_mem left x).1 (ready_sub _ _ _ hx)).2
  have hlen : (readyF (elF left) needs).length ≤ 24 := Nat.le_trans (ready_len _ _) (Nat.le_trans (el_len left) hl)
  generalize readyF (elF left) needs = r at *
  refine ok_forr 0 r.length (fun n b => b = nextF stamps (r.take n)) 0 rfl (Nat.zero_le _) (by omega) rfl ?_ ?_
  · rintro a b k ha hI hk
    have hb : b = -1 ∨ 0 ≤ b := by rw [hI]; exact nextF_pos stamps _ fun x hx => h0 x (List.mem_of_mem_take hx)
    have hx := h0 _ (List.getElem_mem ha)
    unfold depend_Next_l1
    refine ok_brd (fun _ => ok_jn (fun s => s = nx stamps b r[a]) ?_ fun s hs => hk s (by rw [nextF_take stamps r a ha, ← hI]; exact hs)) fun h => absurd (show (a : Int) < (r.length : Int) by omega) h
    intro k6 h6
    refine ok_ixL a rfl ha (ok_brd (fun h => h6 _ (by unfold nx; rw [if_pos (.inl h)])) fun h => ?_)
    simp only at h
    refine ok_bnde (stamp_ok _ _ hx) (ok_bnde (stamp_ok _ _ (by show 0 ≤ b; omega)) ?_)
    refine ok_jn (fun s => s = decide (stF stamps r[a] < stF stamps b ∨ (stF stamps r[a] = stF stamps b ∧ r[a] < b))) ?_ ?_
    · intro k12 h12
      refine ok_brd (fun h2 => h12 _ (by simp [show stF stamps r[a] < stF stamps b from h2])) fun h2 => ok_brd (fun h3 => h12 _ ?_) fun h3 => h12 _ ?_
      · simp [show ¬ stF stamps r[a] < stF stamps b from h2, show stF stamps r[a] = stF stamps b from h3]
      · simp [show ¬ stF stamps r[a] < stF stamps b from h2, show ¬ stF stamps r[a] = stF stamps b from h3]
    · rintro s rfl
      refine ok_brd (fun h2 => h6 _ (by unfold nx; rw [if_pos (.inr h2)])) fun h2 => h6 _ (by unfold nx; rw [if_neg (by rintro (h3 | h3); · exact h h3
                                                                                                                        · exact h2 h3)])
  · rintro b k hI
    unfold depend_Next_l1
    rw [take_all] at hI
    refine ok_brd (fun h => absurd h (by show ¬ (r.length : Int) < (r.length : Int); omega)) fun _ => ok_some hI
theorem next2_ok (left stamps : List Int) (needs : List (List Bool)) (hl : left.length ≤ 24) : r07_Next left stamps needs = some (nextF stamps (readyF (elF left) needs)) := by
  unfold r07_Next
  refine ok_eq (ok_bnde (ready2_ok left needs hl) ?_)
  have h0 : ∀ x ∈ readyF (elF left) needs, 0 ≤ x := fun x hx => ((el_mem left x).1 (ready_sub _ _ _ hx)).2
  have hlen : (readyF (elF left) needs).length ≤ 24 := Nat.le_trans (ready_len _ _) (Nat.le_trans (el_len left) hl)
  generalize readyF (elF left) needs = r at *
  refine ok_forr 0 r.length (fun n b => b = nextF stamps (r.take n)) 0 rfl (Nat.zero_le _) (by omega) rfl ?_ ?_
  · rintro a b k ha hI hk
    have hb : b = -1 ∨ 0 ≤ b := by rw [hI]; exact nextF_pos stamps _ fun x hx => h0 x (List.mem_of_mem_take hx)
    have hx := h0 _ (List.getElem_mem ha)
    unfold r07_Next_l1
    refine ok_brd (fun _ => ok_jn (fun s => s = nx stamps b r[a]) ?_ fun s hs => hk s (by rw [nextF_take stamps r a ha, ← hI]; exact hs)) fun h => absurd (show (a : Int) < (r.length : Int) by omega) h
    intro k6 h6
    refine ok_ixL a rfl ha (ok_bnde (stamp2_ok _ _ hx) ?_)
    refine ok_jn (fun s => s = decide (b < 0 ∨ stF stamps r[a] < stF stamps b ∨ (stF stamps r[a] = stF stamps b ∧ r[a] < b))) ?_ ?_
    · intro k11 h11
      refine ok_brd (fun h => h11 _ (by simp [show b < 0 from h])) fun h => ?_
      simp only at h
      refine ok_bnde (stamp2_ok _ _ (by show 0 ≤ b; omega)) (ok_brd (fun h2 => h11 _ (by simp [show stF stamps r[a] < stF stamps b from h2])) fun h2 => ok_bnde (stamp2_ok _ _ (by show 0 ≤ b; omega)) (ok_brd (fun h3 => ok_ixL a rfl ha (h11 _ ?_)) fun h3 => h11 _ ?_))
      · simp [h, show ¬ stF stamps r[a] < stF stamps b from h2, show stF stamps r[a] = stF stamps b from h3]
      · simp [h, show ¬ stF stamps r[a] < stF stamps b from h2, show ¬ stF stamps r[a] = stF stamps b from h3]
    · rintro s rfl
      refine ok_brd (fun h2 => ok_ixL a rfl ha (h6 _ (by unfold nx; rw [if_pos h2]))) fun h2 => h6 _ (by unfold nx; rw [if_neg h2])
  · rintro b k hI
    unfold r07_Next_l1
    rw [take_all] at hI
    refine ok_brd (fun h => absurd h (by show ¬ (r.length : Int) < (r.length : Int); omega)) fun _ => ok_some hI

/-! ### something is ready -/
open Classical in
theorem ready_ne (l : List Int) (needs : List (List Bool)) (hn : l.Nodup) (hl : l ≠ []) : readyF l needs ≠ [] := by
  let m : Int → Nat := fun i => (l.filter fun y => decide (y = i ∨ TC l needs i y)).length
  have hex : ∃ n, ∃ i, i ∈ l ∧ m i = n := by
    cases l with
    | nil => exact absurd rfl hl
    | cons x l => exact ⟨_, x, by simp, rfl⟩
  obtain ⟨n, ⟨i, hi, hin⟩, hmin⟩ : ∃ n, (∃ i, i ∈ l ∧ m i = n) ∧ ∀ k, k < n → ¬ ∃ i, i ∈ l ∧ m i = k := by
    obtain ⟨n, h⟩ := hex
    revert h
    induction n using Nat.strongRecOn with
    | ind n ih =>
      intro h
      by_cases h' : ∃ k, k < n ∧ ∃ i, i ∈ l ∧ m i = k
      · obtain ⟨k, hk, h2⟩ := h'; exact ih k hk h2
      · exact ⟨n, h, fun k hk h2 => h' ⟨k, hk, h2⟩⟩
  have hr : rdyB l needs i = true := by
    unfold rdyB
    rw [Bool.not_eq_true', List.any_eq_false]
    intro j hj hb
    unfold blkB at hb
    simp only [ne_eq, Bool.and_eq_true, decide_eq_true_eq, Bool.not_eq_true'] at hb
    obtain ⟨hne, hnd, hntc⟩ := hb
    have hntc' : ¬ TC l needs j i := by rw [← tcB_iff]; simp [hntc]
    refine hmin (m j) ?_ ⟨j, hj, rfl⟩
    rw [← hin]
    have hsub : ∀ x ∈ i :: l.filter (fun y => decide (y = j ∨ TC l needs j y)), x ∈ l.filter (fun y => decide (y = i ∨ TC l needs i y)) := by
      intro x hx
      rcases List.mem_cons.1 hx with rfl | hx
      · simp [hi]
      · simp only [List.mem_filter, decide_eq_true_eq] at hx ⊢
        refine ⟨hx.1, .inr ?_⟩
        rcases hx.2 with rfl | h2
        · exact .one _ _ hi hj hnd
        · exact .step _ _ _ hi hj hnd h2
    have := nodup_len _ _ ?_ hsub
    · simp only [List.length_cons] at this; show (l.filter _).length < (l.filter _).length; omega
    · rw [List.nodup_cons]
      refine ⟨fun hx => ?_, List.Pairwise.filter _ hn⟩
      simp only [List.mem_filter, decide_eq_true_eq] at hx
      rcases hx.2 with h2 | h2
      · exact hne h2.symm
      · exact hntc' h2
  intro h
  have : i ∈ readyF l needs := List.mem_filter.2 ⟨hi, hr⟩
  rw [h] at this; cases this

/-! ### the order -/
noncomputable def ordF (stamps : List Int) (needs : List (List Bool)) : Nat → List Int → List Int
  | 0, _ => []
  | n + 1, l => nextF stamps (readyF l needs) :: ordF stamps needs n (l.filter fun x => !decide (x = nextF stamps (readyF l needs)))
structure Elems (l : List Int) : Prop where
  nd : l.Nodup
  pos : ∀ x ∈ l, 0 ≤ x
  len : l.length ≤ 24
theorem Elems.next {l : List Int} (h : Elems l) (stamps : List Int) (needs : List (List Bool)) (hl : l ≠ []) : nextF stamps (readyF l needs) ∈ readyF l needs :=
  (nextF_mem stamps _ (fun x hx => h.pos x (ready_sub _ _ _ hx)) (ready_ne l needs h.nd hl)).1
theorem filter_ne_len : ∀ (l : List Int) (y : Int), l.Nodup → y ∈ l → (l.filter fun x => !decide (x = y)).length + 1 = l.length
  | [], y, _, h => by cases h
  | x :: l, y, hn, h => by
    rw [List.nodup_cons] at hn
    by_cases e : x = y
    · subst e
      have : l.filter (fun z => !decide (z = x)) = l := List.filter_eq_self.2 fun z hz => by
        have : z ≠ x := fun e => hn.1 (e ▸ hz)
        simp [this]
      simp [this]
    · have h2 : y ∈ l := by rcases List.mem_cons.1 h with h | h; exact absurd h.symm e; exact h
      have := filter_ne_len l y hn.2 h2
      simp [e]; simpa using this
theorem Elems.rest {l : List Int} (h : Elems l) (y : Int) : Elems (l.filter fun x => !decide (x = y)) :=
  ⟨List.Pairwise.filter _ h.nd, fun x hx => h.pos x (List.mem_filter.1 hx).1, Nat.le_trans (List.length_filter_le _ _) h.len⟩
theorem ordF_len (stamps : List Int) (needs : List (List Bool)) : ∀ (n : Nat) (l : List Int), (ordF stamps needs n l).length = n
  | 0, _ => rfl
  | n + 1, l => by simp [ordF, ordF_len stamps needs n]
theorem ordF_mem (stamps : List Int) (needs : List (List Bool)) : ∀ (n : Nat) (l : List Int), Elems l → l.length = n → (ordF stamps needs n l).Nodup ∧ ∀ x, x ∈ ordF stamps needs n l ↔ x ∈ l
  | 0, l, _, h => by
    have : l = [] := List.length_eq_zero_iff.1 h
    subst this; simp [ordF]
  | n + 1, l, hE, h => by
    have hne : l ≠ [] := by intro e; subst e; cases h
    have hy := ready_sub _ _ _ (hE.next stamps needs hne)
    have hlen := filter_ne_len l _ hE.nd hy
    obtain ⟨h1, h2⟩ := ordF_mem stamps needs n _ (hE.rest (nextF stamps (readyF l needs))) (by omega)
    simp only [ordF]
    refine ⟨List.nodup_cons.2 ⟨fun hx => ?_, h1⟩, fun x => ?_⟩
    · have := (h2 _).1 hx
      rw [List.mem_filter] at this; simp at this
    · rw [List.mem_cons, h2, List.mem_filter]
      constructor
      · rintro (rfl | h)
        · exact hy
        · exact h.1
      · intro hx
        by_cases e : x = nextF stamps (readyF l needs)
        · exact .inl e
        · exact .inr ⟨hx, by simp [e]⟩
theorem ordF_drop (stamps : List Int) (needs : List (List Bool)) : ∀ (n : Nat) (l : List Int) (i : Nat), Elems l → l.length = n → i ≤ n → ∃ l', Elems l' ∧ l'.length = n - i ∧ (∀ x ∈ l', x ∈ l) ∧ (ordF stamps needs n l).drop i = ordF stamps needs (n - i) l'
  | n, l, 0, hE, h, _ => ⟨l, hE, h, fun _ h => h, rfl⟩
  | 0, l, i + 1, hE, h, hi => by omega
  | n + 1, l, i + 1, hE, h, hi => by
    have hne : l ≠ [] := by intro e; subst e; cases h
    have hy := ready_sub _ _ _ (hE.next stamps needs hne)
    have hlen := filter_ne_len l _ hE.nd hy
    obtain ⟨l', h1, h2, h3, h4⟩ := ordF_drop stamps needs n _ i (hE.rest (nextF stamps (readyF l needs))) (by omega) (by omega)
    refine ⟨l', h1, by omega, fun x hx => (List.mem_filter.1 (h3 x hx)).1, ?_⟩
    simp only [ordF, List.drop_succ_cons]
    rw [h4]; congr 1; omega
def rng (n : Nat) : List Int := (List.range n).map fun (i : Nat) => (i : Int)
theorem rng_len (n : Nat) : (rng n).length = n := by simp [rng]
theorem rng_mem (n : Nat) (x : Int) : x ∈ rng n ↔ 0 ≤ x ∧ x < n := by
  unfold rng; simp only [List.mem_map, List.mem_range]
  constructor
  · rintro ⟨a, h, rfl⟩; omega
  · rintro ⟨h1, h2⟩; exact ⟨x.toNat, by omega, by omega⟩
theorem rng_succ (n : Nat) : rng (n + 1) = rng n ++ [(n : Int)] := by simp [rng, List.range_succ]
theorem rng_nodup (n : Nat) : (rng n).Nodup := by
  unfold rng
  refine List.Pairwise.map _ (fun a b h e => ?_) List.nodup_range
  exact h (Int.ofNat.inj e)
theorem rng_elems {n : Nat} (h : n ≤ 24) : Elems (rng n) := ⟨rng_nodup n, fun x hx => ((rng_mem n x).1 hx).1, by rw [rng_len]; exact h⟩
theorem delete_ok (s : List Int) (f : Int → Option Bool) (p : Int → Bool) (hs : s.length < 1000) (hf : ∀ x ∈ s, f x = some (p x)) : slices_DeleteFunc_int s f = some (s.filter fun x => !p x) := by
  unfold slices_DeleteFunc_int
  refine ok_eq (ok_bnd (indexF_ok s f p hs hf) ?_)
  rintro r (⟨h, rfl⟩ | ⟨n, rfl, h1, x, h2, h3⟩)
  · refine ok_brd (fun _ => ok_some ?_) fun h => absurd rfl h
    exact (List.filter_eq_self.2 fun x hx => by simp [h x hx]).symm
  · rw [List.getElem?_eq_some_iff] at h2
    obtain ⟨hn, e⟩ := h2
    refine ok_brd (fun h => absurd h (by omega)) fun _ => ?_
    rw [addI_nat (by omega)]
    refine ok_loop (fun st => ∃ i j : Nat, st.1 = (i : Int) ∧ st.2.1 = (j : Int) ∧ i ≤ j ∧ j ≤ s.length ∧ st.2.2.length = s.length ∧ st.2.2.take i = (s.take j).filter (fun x => !p x) ∧ st.2.2.drop j = s.drop j) (fun st => 1000 - st.2.1.toNat)
      ⟨n, n + 1, rfl, rfl, by omega, by omega, rfl, ?_, rfl⟩ (by show 1000 - _ < 18446744073709551616; omega) ?_
    · rw [take_succ_get s n hn, List.filter_append, List.filter_eq_self.2 (fun x hx => by simp [h1 x hx])]
      rw [e]; simp [h3]
    rintro ⟨i', j', s'⟩ k ⟨i, j, e1, e2, hij, hj, hl, ht, hd⟩ hk
    simp only at e1 e2 hl ht hd; subst e1 e2
    unfold slices_DeleteFunc_int_l1
    refine ok_brd (fun h => ?_) fun h => ?_
    · have hj2 : j < s.length := by simp only [lenI] at h; omega
      have hj3 : j < s'.length := by omega
      have hi3 : i < s'.length := by omega
      have hget : s'[j] = s[j] := by
        have : (s'.drop j)[0]? = (s.drop j)[0]? := by rw [hd]
        simp only [List.getElem?_drop, Nat.add_zero, List.getElem?_eq_getElem hj3, List.getElem?_eq_getElem hj2] at this
        exact Option.some.inj this
      have hts : (s.take (j + 1)).filter (fun x => !p x) = s'.take i ++ (if p s[j] = true then [] else [s[j]]) := by
        rw [take_succ_get s j hj2, List.filter_append, ht]; congr 1
        by_cases h : p s[j] = true <;> simp [h]
      have hd2 : ∀ m : Nat, s'.drop (j + 1 + m) = s.drop (j + 1 + m) := by
        intro m
        have : (s'.drop j).drop (1 + m) = (s.drop j).drop (1 + m) := by rw [hd]
        rw [List.drop_drop, List.drop_drop] at this
        rw [show j + 1 + m = j + (1 + m) by omega]; exact this
      refine ok_jn (fun u => ∃ i2 : Nat, u.1 = (i2 : Int) ∧ i2 ≤ j + 1 ∧ u.2.length = s.length ∧ u.2.take i2 = (s.take (j + 1)).filter (fun x => !p x) ∧ u.2.drop (j + 1) = s.drop (j + 1)) ?_ ?_
      · intro k6 h6
        refine ok_ixO j rfl hj3 (ok_get hj3 ?_)
        rw [hget]
        refine ok_bnde (hf _ (List.getElem_mem hj2)) (ok_br (fun h => ?_) fun h => ?_)
        · have hp : p s[j] = false := by cases hh : p s[j] <;> simp_all
          refine ok_ixO i rfl hi3 (ok_get hi3 ?_)
          refine h6 _ ⟨i + 1, addI_nat (by omega), by omega, by simp [hl], ?_, ?_⟩
          · simp only
            rw [hts, take_succ_get _ i (by simp; exact hi3)]
            simp only [List.take_set, List.getElem_set_self, hp, Bool.false_eq_true, if_false]
            rw [List.set_eq_of_length_le (by simp; omega)]
          · simp only
            rw [List.drop_set_of_lt (by omega)]
            exact hd2 0
        · have hp : p s[j] = true := by cases hh : p s[j] <;> simp_all
          refine h6 _ ⟨i, rfl, by omega, hl, ?_, hd2 0⟩
          rw [hts]; simp [hp]
      · rintro ⟨u1, u2⟩ ⟨i2, e, h1, h2, h3, h4⟩
        simp only at e h2 h3 h4; subst e
        refine hk _ ⟨i2, j + 1, rfl, addI_nat (by omega), h1, by omega, h2, h3, h4⟩ ?_
        simp only; rw [addI_nat (by omega)]; simp only [Int.toNat_natCast]; omega
    · have hjn : j = s.length := by simp only [lenI] at h; omega
      subst hjn
      refine ok_slc (i := i) (j := s'.length) rfl rfl (by omega) (by show s'.length ≤ s'.length; omega) (ok_lt (ok_slc (i := 0) (j := i) rfl rfl (by omega) (by show i ≤ s'.length; omega) (ok_some ?_)))
      simp only [Nat.zero_add, Nat.sub_zero]
      rw [take_all] at ht
      unfold subL splL
      rw [← ht]
      simp only [List.drop_zero, List.append_assoc]
      rw [List.take_append_of_le_length (by simp; omega), List.take_take]; simp
end Go.Proofs.Ytjdakjnobladaaa
