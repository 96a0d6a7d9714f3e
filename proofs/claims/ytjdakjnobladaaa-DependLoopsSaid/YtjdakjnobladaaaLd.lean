/-
  Dependence: the six laws as plain facts.
-/
import Derived.Test.YtjdakjnobladaaaLc
namespace Go.Proofs.Ytjdakjnobladaaa
open Go Go.Pv
set_option linter.all false
theorem few_le {l : List Int} (h : (decide (lenI l ≤ 24) == false) = false) : l.length ≤ 24 := by
  by_cases h2 : lenI l ≤ 24
  · unfold lenI at h2; omega
  · rw [decide_eq_false h2] at h; cases h
theorem order_ok (stamps : List Int) (needs : List (List Bool)) (hl : stamps.length ≤ 24) : depend_Order stamps needs = some (ordF stamps needs stamps.length (rng stamps.length)) := by
  unfold depend_Order
  refine ok_eq (ok_for 0 stamps.length (fun n t => t = rng n) 0 rfl (Nat.zero_le _) (by omega) rfl ?_ ?_)
  · rintro a t k ha hI hk
    have hlt : t.length ≤ 24 := by rw [hI, rng_len]; omega
    unfold depend_Order_l2
    refine ok_brd (fun _ => ok_room (by show (2 * (t.length + 1) + 192) * 8 ≤ _; omega) (by show t.length + 1 ≤ _; omega) (hk _ ?_)) fun h => absurd (show (a : Int) < (stamps.length : Int) by omega) h
    rw [rng_succ, hI]
  · rintro t k hI
    unfold depend_Order_l2
    refine ok_brd (fun h => absurd h (by show ¬ (stamps.length : Int) < (stamps.length : Int); omega)) fun _ => ?_
    refine ok_loop (fun s => Elems s.1 ∧ s.2.length + s.1.length = stamps.length ∧ s.2 ++ ordF stamps needs s.1.length s.1 = ordF stamps needs stamps.length (rng stamps.length)) (fun s => s.1.length) ?_ ?_ ?_
    · subst hI; exact ⟨rng_elems hl, by simp [rng_len], by simp [rng_len]⟩
    · subst hI; show (rng stamps.length).length < 18446744073709551616; rw [rng_len]; omega
    rintro ⟨l, o⟩ k ⟨hE, hlen, ho⟩ hk
    simp only at hE hlen ho
    have hl24 := hE.len
    unfold depend_Order_l1
    refine ok_brd (fun h => ?_) fun h => ?_
    · have hne : l ≠ [] := by intro e; subst e; exact absurd h (by show ¬ (0 : Int) < ((0 : Nat) : Int); omega)
      refine ok_bnde (next_ok l stamps needs hl24) ?_
      rw [el_self l hE.nd hE.pos]
      have hy := ready_sub _ _ _ (hE.next stamps needs hne)
      have hfl := filter_ne_len l _ hE.nd hy
      refine ok_room (by show (2 * (o.length + 1) + 192) * 8 ≤ _; omega) (by show o.length + 1 ≤ _; omega) (ok_bnde (delete_ok l _ (fun x => decide (x = nextF stamps (readyF l needs))) (by omega) fun x _ => rfl) (hk _ ⟨hE.rest _, ?_, ?_⟩ ?_))
      · simp only [List.length_append, List.length_singleton]; omega
      · simp only
        rw [← ho, ← hfl]
        simp [ordF]
      · simp only; omega
    · have hne : l = [] := by
        cases l with
        | nil => rfl
        | cons x l => exact absurd (show (0 : Int) < ((l.length + 1 : Nat) : Int) by omega) h
      subst hne
      refine ok_some ?_
      rw [← ho]; simp [ordF]
theorem order2_ok (stamps : List Int) (needs : List (List Bool)) (hl : stamps.length ≤ 24) : r07_Order stamps needs = some (ordF stamps needs stamps.length (rng stamps.length)) := by
  unfold r07_Order
  refine ok_eq (ok_for 0 stamps.length (fun n t => t = rng n) 0 rfl (Nat.zero_le _) (by omega) rfl ?_ ?_)
  · rintro a t k ha hI hk
    have hlt : t.length ≤ 24 := by rw [hI, rng_len]; omega
    unfold r07_Order_l3
    refine ok_brd (fun _ => ok_room (by show (2 * (t.length + 1) + 192) * 8 ≤ _; omega) (by show t.length + 1 ≤ _; omega) (hk _ ?_)) fun h => absurd (show (a : Int) < (stamps.length : Int) by omega) h
    rw [rng_succ, hI]
  · rintro t k hI
    unfold r07_Order_l3
    refine ok_brd (fun h => absurd h (by show ¬ (stamps.length : Int) < (stamps.length : Int); omega)) fun _ => ?_
    refine ok_for 0 stamps.length (fun n s => Elems s.1 ∧ s.2.length = n ∧ n + s.1.length = stamps.length ∧ s.2 ++ ordF stamps needs s.1.length s.1 = ordF stamps needs stamps.length (rng stamps.length)) 0 rfl (Nat.zero_le _) (by omega) ?_ ?_ ?_
    · subst hI; exact ⟨rng_elems hl, rfl, by simp [rng_len], by simp [rng_len]⟩
    · rintro a ⟨l, o⟩ k ha ⟨hE, ho1, hlen, ho⟩ hk
      simp only at hE hlen ho ho1
      have hl24 := hE.len
      have hne : l ≠ [] := by intro e; subst e; simp at hlen; omega
      unfold r07_Order_l2
      refine ok_brd (fun _ => ok_bnde (next2_ok l stamps needs hl24) ?_) fun h => absurd (show (a : Int) < (stamps.length : Int) by omega) h
      rw [el_self l hE.nd hE.pos]
      have hy := ready_sub _ _ _ (hE.next stamps needs hne)
      generalize hyy : nextF stamps (readyF l needs) = y at *
      have hfl := filter_ne_len l _ hE.nd hy
      refine ok_room (by show (2 * (o.length + 1) + 192) * 8 ≤ _; omega) (by show o.length + 1 ≤ _; omega) ?_
      refine ok_for 0 l.length (fun n u => u = (l.take n).filter fun x => !decide (x = y)) 0 rfl (Nat.zero_le _) (by omega) (by simp) ?_ ?_
      · rintro b u k9 hb hu hk9
        have hlu : u.length ≤ 24 := by have := List.length_filter_le (fun x => !decide (x = y)) (l.take b); rw [← hu] at this; simp at this; omega
        have hs : (l.take (b + 1)).filter (fun x => !decide (x = y)) = u ++ (if l[b] = y then [] else [l[b]]) := by
          rw [take_succ_get l b hb, List.filter_append, ← hu]; congr 1
          by_cases h : l[b] = y <;> simp [h]
        unfold r07_Order_l1
        refine ok_brd (fun _ => ok_jn (fun s => s = (l.take (b + 1)).filter (fun x => !decide (x = y))) ?_ fun s hs => hk9 s hs) fun h => absurd (show (b : Int) < (l.length : Int) by omega) h
        intro k12 h12
        refine ok_ixO b rfl hb (ok_get hb (ok_brn (fun h => ?_) fun h => ?_))
        · refine ok_ixO b rfl hb (ok_get hb (ok_room (by show (2 * (u.length + 1) + 192) * 8 ≤ _; omega) (by show u.length + 1 ≤ _; omega) (h12 _ ?_)))
          rw [hs, if_neg h]
        · refine h12 _ ?_
          rw [hs, if_pos h]; simp
      · rintro u k9 hu
        rw [take_all] at hu
        unfold r07_Order_l1
        refine ok_brd (fun h => absurd h (by show ¬ (l.length : Int) < (l.length : Int); omega)) fun _ => ?_
        subst hu
        refine hk _ ⟨hE.rest _, ?_, ?_, ?_⟩
        · simp [ho1]
        · simp only; omega
        · simp only
          rw [← ho, ← hfl]
          simp only [ordF, hyy, List.append_assoc, List.singleton_append]
    · rintro ⟨l, o⟩ k ⟨hE, ho1, hlen, ho⟩
      simp only at hE hlen ho ho1
      have hne : l = [] := List.length_eq_zero_iff.1 (by omega)
      subst hne
      unfold r07_Order_l2
      refine ok_brd (fun h => absurd h (by show ¬ (stamps.length : Int) < (stamps.length : Int); omega)) fun _ => ok_some ?_
      rw [← ho]; simp [ordF]

theorem DependReady_true (left : List Int) (needs : List (List Bool)) : law07_DependReady left needs = some true := by
  unfold law07_DependReady
  refine ok_eq (ok_bnde (few_ok _) (ok_br (fun _ => ok_some rfl) fun h => ?_))
  have hl : left.length ≤ 24 := few_le h
  refine ok_bnde alive_ok (ok_bnde (ready_ok left needs hl) (ok_bnde (ready2_ok left needs hl) (ok_bnde (same_ok _ ?_) (ok_some rfl))))
  have := ready_len (elF left) needs
  have := el_len left
  omega
theorem DependNext_true (left stamps : List Int) (needs : List (List Bool)) : law07_DependNext left stamps needs = some true := by
  unfold law07_DependNext
  refine ok_eq (ok_bnde (few_ok _) (ok_br (fun _ => ok_some rfl) fun h => ?_))
  have hl : left.length ≤ 24 := few_le h
  exact ok_bnde alive_ok (ok_bnde (next_ok left stamps needs hl) (ok_bnde (next2_ok left stamps needs hl) (ok_some (by simp))))
theorem DependOrder_true (stamps : List Int) (needs : List (List Bool)) : law07_DependOrder stamps needs = some true := by
  unfold law07_DependOrder
  refine ok_eq (ok_bnde (few_ok _) (ok_br (fun _ => ok_some rfl) fun h => ?_))
  have hl : stamps.length ≤ 24 := few_le h
  refine ok_bnde alive_ok (ok_bnde (order_ok stamps needs hl) (ok_bnde (order2_ok stamps needs hl) (ok_bnde (same_ok _ ?_) (ok_some rfl))))
  rw [ordF_len]; omega

/-! ### places of the order -/
theorem tc_mem {l l' : List Int} {needs : List (List Bool)} (h : ∀ x, x ∈ l ↔ x ∈ l') (i j : Int) : tcB l needs i j = tcB l' needs i j := by
  rw [Bool.eq_iff_iff, tcB_iff, tcB_iff]
  exact ⟨fun t => t.congr fun x hx => (h x).1 hx, fun t => t.congr fun x hx => (h x).2 hx⟩
theorem rdy_mem {l l' : List Int} {needs : List (List Bool)} (h : ∀ x, x ∈ l ↔ x ∈ l') (i : Int) : rdyB l needs i = rdyB l' needs i := by
  unfold rdyB; congr 1
  rw [Bool.eq_iff_iff, List.any_eq_true, List.any_eq_true]
  unfold blkB
  simp only [tc_mem h, h]
theorem ready_mem {l l' : List Int} {needs : List (List Bool)} (h : ∀ x, x ∈ l ↔ x ∈ l') (i : Int) : i ∈ readyF l needs ↔ i ∈ readyF l' needs := by
  unfold readyF; rw [List.mem_filter, List.mem_filter, h, rdy_mem h]
/-- what stands at a place of the order -/
theorem ord_at (stamps : List Int) (needs : List (List Bool)) (n i : Nat) (hn : n ≤ 24) (hi : i < n) (O : List Int) (hO : O = ordF stamps needs n (rng n)) :
    ∃ (h : i < O.length), Elems (O.drop i) ∧ O.drop i ≠ [] ∧ O[i] ∈ readyF (O.drop i) needs ∧ (∀ x ∈ readyF (O.drop i) needs, before stamps O[i] x) ∧ (∀ x ∈ O.drop i, 0 ≤ x ∧ x < n) ∧ O[i] ∉ O.take i := by
  have hlen : O.length = n := by rw [hO, ordF_len]
  have hE := rng_elems hn
  obtain ⟨hnd, hmem⟩ := ordF_mem stamps needs n (rng n) hE (rng_len n)
  rw [← hO] at hnd hmem
  have hi' : i < O.length := by omega
  obtain ⟨l', h1, h2, h3, h4⟩ := ordF_drop stamps needs n (rng n) i hE (rng_len n) (by omega)
  rw [← hO] at h4
  obtain ⟨hm1, hm2⟩ := ordF_mem stamps needs (n - i) l' h1 h2
  rw [← h4] at hm1 hm2
  have hne' : l' ≠ [] := by intro e; subst e; simp at h2; omega
  obtain ⟨m, hm⟩ : ∃ m, n - i = m + 1 := ⟨n - i - 1, by omega⟩
  have hOi : O[i] = nextF stamps (readyF l' needs) := by
    have : (O.drop i)[0]? = some (nextF stamps (readyF l' needs)) := by rw [h4, hm]; rfl
    rw [List.getElem?_drop] at this
    simp only [Nat.add_zero, List.getElem?_eq_getElem hi'] at this
    exact Option.some.inj this
  refine ⟨hi', ⟨hm1, fun x hx => h1.pos x ((hm2 x).1 hx), ?_⟩, ?_, ?_, ?_, ?_, ?_⟩
  · simp; omega
  · intro e
    have : (O.drop i).length = 0 := by rw [e]; rfl
    simp at this; omega
  · rw [hOi, ready_mem hm2]; exact h1.next stamps needs hne'
  · intro x hx
    rw [hOi]; exact nextF_min stamps _ (fun x hx => h1.pos x (ready_sub _ _ _ hx)) x ((ready_mem hm2 x).1 hx)
  · intro x hx; exact (rng_mem n x).1 (h3 x ((hm2 x).1 hx))
  · intro hx
    obtain ⟨j, hj, e⟩ := List.getElem_of_mem hx
    rw [List.getElem_take] at e
    have hj2 : j < i := by simp at hj; omega
    have := (List.getElem_inj hnd).1 e
    omega
theorem drop_sub (O : List Int) (i : Nat) : subL O i (O.length - i) = O.drop i := by
  unfold subL; rw [List.take_of_length_le (by simp)]
theorem DependAll_true (stamps : List Int) (needs : List (List Bool)) : law07_DependAll stamps needs = some true := by
  unfold law07_DependAll
  refine ok_eq (ok_bnde (few_ok _) (ok_br (fun _ => ok_bnde alive_ok (ok_some rfl)) fun h => ?_))
  have hl : stamps.length ≤ 24 := few_le h
  refine ok_bnde (order_ok stamps needs hl) ?_
  generalize hO : ordF stamps needs stamps.length (rng stamps.length) = O
  have hlen : O.length = stamps.length := by rw [← hO, ordF_len]
  refine ok_brn (fun h => absurd (show ((O.length : Nat) : Int) = (stamps.length : Nat) by rw [hlen]) h) fun _ => ?_
  refine ok_mks (n := stamps.length) rfl rfl (by omega) (by omega) (ok_lt ?_)
  refine ok_for 0 O.length (fun n t => t.length = stamps.length ∧ ∀ (j : Nat), t[j]? = some true → (j : Int) ∈ O.take n) 0 rfl (Nat.zero_le _) (by omega) ⟨by simp, fun j hj => ?_⟩ ?_ ?_
  · rw [List.getElem?_replicate] at hj; split at hj <;> cases hj
  · rintro i t k hi ⟨ht, hd⟩ hk
    obtain ⟨_, h1, h2, h3, h4, h5, h6⟩ := ord_at stamps needs stamps.length i hl (by omega) O hO.symm
    have hmem : O[i] ∈ O.drop i := ready_sub _ _ _ h3
    obtain ⟨h50, h51⟩ := h5 _ hmem
    obtain ⟨j, hj⟩ := Int.eq_ofNat_of_zero_le h50
    have hjt : j < t.length := by omega
    unfold law07_DependAll_l1
    refine ok_brd (fun _ => ok_ixL i rfl hi (ok_jn (fun s => s = false) ?_ ?_)) fun h => absurd (show (i : Int) < (O.length : Int) by omega) h
    · intro k11 h11
      refine ok_brd (fun h => absurd h (by omega)) fun _ => ok_brd (fun h => absurd h (by simp only [lenI]; omega)) fun _ => ?_
      refine ok_ixO j hj hjt (ok_get hjt (ok_br (fun h => ?_) fun _ => ?_))
      · have := hd j (by rw [List.getElem?_eq_getElem hjt]; exact congrArg some h)
        rw [← hj] at this; exact absurd this h6
      · refine ok_slc (i := i) (j := O.length) rfl rfl (by omega) (by omega) ?_
        simp only
        rw [drop_sub]
        refine ok_bnde (ready_ok _ _ h1.len) (h11 _ ?_)
        rw [el_self _ h1.nd h1.pos]
        have := ready_ne (O.drop i) needs h1.nd h2
        refine decide_eq_false fun h => this (List.length_eq_zero_iff.1 ?_)
        unfold lenI at h; omega
    · rintro s rfl
      refine ok_br (fun h => by cases h) fun _ => ok_ixO j hj hjt (ok_lt (ok_get hjt (hk _ ⟨by simp [ht], fun m hm => ?_⟩)))
      rw [take_succ_get O i hi]
      by_cases e : j = m
      · subst e; rw [← hj]; exact List.mem_append_right _ (List.mem_singleton.2 rfl)
      · simp only at hm
        rw [List.getElem?_set_ne e] at hm
        exact List.mem_append_left _ (hd m hm)
  · rintro t k _
    unfold law07_DependAll_l1
    exact ok_brd (fun h => absurd h (by show ¬ (O.length : Int) < (O.length : Int); omega)) fun _ => ok_bnde alive_ok (ok_some rfl)

/-! ### without loops -/
theorem acyc {l : List Int} {N : List (List Bool)} (hN : ∀ x y, nd N x y = true → x < y) {i j : Int} (h : TC l N i j) : i < j := by
  induction h with
  | one _ _ _ _ h => exact hN _ _ h
  | step _ _ _ _ _ h _ ih => have := hN _ _ h; omega
theorem acyc_rdy {l : List Int} {N : List (List Bool)} (hN : ∀ x y, nd N x y = true → x < y) {i : Int} (h : i ∈ readyF l N) (j : Int) (hj : j ∈ l) : nd N i j = false := by
  have h2 := (List.mem_filter.1 h).2
  cases hb : nd N i j with
  | false => rfl
  | true =>
    exfalso
    have hlt := hN _ _ hb
    unfold rdyB at h2
    rw [Bool.not_eq_true', List.any_eq_false] at h2
    refine h2 j hj ?_
    unfold blkB
    have : tcB l N j i = false := by
      cases ht : tcB l N j i with
      | false => rfl
      | true => have := acyc hN (tcB_iff.1 ht); omega
    rw [hb, this]
    simp; omega
theorem nd_of {N : List (List Bool)} {x y : Int} (h : nd N x y = true) : ∃ a b : Nat, x = (a : Int) ∧ y = (b : Int) ∧ ∃ row, N[a]? = some row ∧ row[b]? = some true := by
  unfold nd at h
  simp only [Bool.and_eq_true, decide_eq_true_eq] at h
  obtain ⟨h1, h2, h3⟩ := h
  refine ⟨x.toNat, y.toNat, by omega, by omega, ?_⟩
  cases hr : N[x.toNat]? with
  | none => rw [hr] at h3; cases h3
  | some row =>
    rw [hr] at h3
    refine ⟨row, rfl, ?_⟩
    cases hv : row[y.toNat]? with
    | none => simp [hv] at h3
    | some v => simp [hv] at h3; rw [h3]
theorem nd_at {N : List (List Bool)} {a b : Nat} {row : List Bool} {v : Bool} (h1 : N[a]? = some row) (h2 : row[b]? = some v) : nd N (a : Int) (b : Int) = v := by
  unfold nd; simp [h1, h2]
theorem DependOrders_true (stamps : List Int) (needs : List (List Bool)) : law07_DependOrders stamps needs = some true := by
  unfold law07_DependOrders
  refine ok_eq (ok_bnde (few_ok _) (ok_br (fun _ => ok_bnde alive_ok (ok_some rfl)) fun h => ?_))
  have hl : stamps.length ≤ 24 := few_le h
  refine ok_for 0 stamps.length (fun n (R : List (List Bool)) => R.length = n ∧ ∀ (c : Nat) (row : List Bool), R[c]? = some row → ∀ (b : Nat), row[b]? = some true → c < b) 0 rfl (Nat.zero_le _) (by omega) ⟨rfl, fun c row h => by cases h⟩ ?_ ?_
  · rintro a R k ha ⟨hR, hg⟩ hk
    unfold law07_DependOrders_l5
    refine ok_brd (fun _ => ok_mks (n := stamps.length) rfl rfl (by omega) (by omega) (ok_lt ?_)) fun h => absurd (show (a : Int) < (stamps.length : Int) by omega) h
    rw [addI_nat (by omega)]
    refine ok_for (a + 1) stamps.length (fun n (t : List (List Bool) × List Bool) => a < n ∧ t.1 = R ∧ t.2.length = stamps.length ∧ ∀ (b : Nat), t.2[b]? = some true → a < b) _ rfl (by omega) (by omega) ⟨by omega, rfl, by simp, fun b hb => ?_⟩ ?_ ?_
    · simp only at hb; rw [List.getElem?_replicate] at hb; split at hb <;> cases hb
    · rintro b ⟨R', row⟩ k' hb ⟨hab, e, h1, h2⟩ hk'
      simp only at e h1 h2; subst e
      have hbr : b < row.length := by omega
      unfold law07_DependOrders_l1
      refine ok_brd (fun _ => ok_bnde (lneed_ok _ _ _) (ok_ixO b rfl hbr (ok_get hbr (hk' _ ⟨by omega, rfl, by simp [h1], fun c hc => ?_⟩)))) fun h => absurd (show (b : Int) < (stamps.length : Int) by omega) h
      simp only at hc
      by_cases e : b = c
      · subst e; exact hab
      · rw [List.getElem?_set_ne e] at hc; exact h2 c hc
    · rintro ⟨R', row⟩ k' ⟨_, e, h1, h2⟩
      simp only at e h1 h2; subst e
      unfold law07_DependOrders_l1
      refine ok_brd (fun h => absurd h (by show ¬ (stamps.length : Int) < (stamps.length : Int); omega)) fun _ => ok_room (by show (2 * (R'.length + 1) + 192) * 24 ≤ _; omega) (by show R'.length + 1 ≤ _; omega) (hk _ ⟨by simp [hR], fun c row' hc b hb => ?_⟩)
      simp only at hc
      by_cases hcl : c < R'.length
      · rw [List.getElem?_append_left hcl] at hc; exact hg c row' hc b hb
      · rw [List.getElem?_append_right (by omega)] at hc
        have hc0 : c = R'.length := by
          rcases Nat.lt_or_ge (c - R'.length) 1 with h | h
          · omega
          · rw [List.getElem?_eq_none (by simpa using h)] at hc; cases hc
        subst hc0
        simp only [Nat.sub_self] at hc
        cases hc
        have := h2 b hb; omega
  · rintro N k ⟨hR, hg⟩
    unfold law07_DependOrders_l5
    refine ok_brd (fun h => absurd h (by show ¬ (stamps.length : Int) < (stamps.length : Int); omega)) fun _ => ?_
    have hN : ∀ x y, nd N x y = true → x < y := by
      intro x y h
      obtain ⟨a, b, rfl, rfl, row, h1, h2⟩ := nd_of h
      have := hg a row h1 b h2; omega
    refine ok_bnde (order_ok stamps N hl) ?_
    generalize hO : ordF stamps N stamps.length (rng stamps.length) = O
    have hlen : O.length = stamps.length := by rw [← hO, ordF_len]
    refine ok_brn (fun h => absurd (show ((O.length : Nat) : Int) = (stamps.length : Nat) by rw [hlen]) h) fun _ => ?_
    refine ok_for1 0 O.length (fun _ => True) 0 rfl (Nat.zero_le _) (by omega) trivial ?_ ?_
    · rintro i k16 hi _ hk16
      obtain ⟨_, h1, h2, h3, h4, h5, h6⟩ := ord_at stamps N stamps.length i hl (by omega) O hO.symm
      have hmem : O[i] ∈ O.drop i := ready_sub _ _ _ h3
      obtain ⟨h50, h51⟩ := h5 _ hmem
      obtain ⟨p, hp⟩ := Int.eq_ofNat_of_zero_le h50
      have hps : p < stamps.length := by omega
      unfold law07_DependOrders_l4
      refine ok_brd (fun _ => ok_ixL i rfl hi ?_) fun h => absurd (show (i : Int) < (O.length : Int) by omega) h
      refine ok_slc (i := i + 1) (j := O.length) (addI_nat (by omega)) rfl (by omega) (by omega) ?_
      have hsub : ∀ m, (subL O (i + 1) (O.length - (i + 1)))[m]? = O[i + 1 + m]? := by intro m; rw [drop_sub, List.getElem?_drop]
      have hsl : (subL O (i + 1) (O.length - (i + 1))).length = O.length - (i + 1) := by rw [drop_sub]; simp
      refine ok_for1 0 (O.length - (i + 1)) (fun _ => True) 0 rfl (Nat.zero_le _) (by omega) trivial ?_ ?_
      · rintro m k21 hm _ hk21
        unfold law07_DependOrders_l3
        refine ok_brd (fun _ => ok_ixL m rfl (by simp only; omega) (ok_bnde (lneed_ok _ _ _) (ok_br (fun h => ?_) fun _ => hk21 trivial))) fun h => absurd (show (m : Int) < lenI (subL O (i + 1) (O.length - (i + 1))) by unfold lenI; rw [hsl]; omega) h
        exfalso
        have hz : (subL O (i + 1) (O.length - (i + 1)))[m]'(by omega) ∈ O.drop i := by
          have h7 := hsub m
          rw [List.getElem?_eq_getElem (by omega)] at h7
          have : (O.drop i)[1 + m]? = some ((subL O (i + 1) (O.length - (i + 1)))[m]'(by omega)) := by rw [List.getElem?_drop, h7]; congr 1; omega
          exact List.mem_of_getElem? this
        have := acyc_rdy hN h3 _ hz
        simp only at h
        rw [this] at h; cases h
      · rintro k21 _
        unfold law07_DependOrders_l3
        refine ok_brd (fun h => absurd h (by simp only [lenI]; rw [hsl]; omega)) fun _ => ?_
        refine ok_slc (i := i) (j := O.length) rfl rfl (by omega) (by omega) ?_
        simp only
        rw [drop_sub]
        refine ok_bnde (ready_ok _ _ h1.len) ?_
        rw [el_self _ h1.nd h1.pos]
        have hrl := ready_len (O.drop i) N
        have hrl2 := h1.len
        generalize hr : readyF (O.drop i) N = r at *
        refine ok_for1 0 r.length (fun _ => True) 0 rfl (Nat.zero_le _) (by omega) trivial ?_ ?_
        · rintro m k28 hm _ hk28
          have hx : r[m] ∈ r := List.getElem_mem hm
          have hb := h4 _ hx
          obtain ⟨h60, h61⟩ := h5 _ (ready_sub _ N _ (by rw [hr]; exact hx))
          obtain ⟨q, hq⟩ := Int.eq_ofNat_of_zero_le h60
          have hqs : q < stamps.length := by omega
          have e1 : stF stamps r[m] = stamps[q] := by unfold stF; rw [hq]; simp [hqs]
          have e2 : stF stamps O[i] = stamps[p] := by unfold stF; rw [hp]; simp [hps]
          unfold law07_DependOrders_l2
          refine ok_brd (fun _ => ok_ixL m rfl hm (ok_jn (fun s => s = false) ?_ ?_)) fun h => absurd (show (m : Int) < (r.length : Int) by omega) h
          · intro k32 h32
            unfold before at hb
            rw [e1, e2] at hb
            refine ok_brd (fun h => absurd h (by omega)) fun _ => ok_brd (fun h => absurd h (by simp only [lenI]; omega)) fun _ => ok_brd (fun h => absurd h (by omega)) fun _ => ok_brd (fun h => absurd h (by simp only [lenI]; omega)) fun _ => ?_
            refine ok_ixL q hq hqs (ok_ixL p hp hps (ok_brd (fun h => absurd h (by omega)) fun _ => ?_))
            refine ok_ixL q hq hqs (ok_ixL p hp hps (ok_brd (fun h => h32 _ ?_) fun _ => h32 _ rfl))
            rw [decide_eq_false_iff_not]; omega
          · rintro s rfl
            exact ok_br (fun h => by cases h) fun _ => hk28 trivial
        · rintro k28 _
          unfold law07_DependOrders_l2
          exact ok_brd (fun h => absurd h (by show ¬ (r.length : Int) < (r.length : Int); omega)) fun _ => hk16 trivial
    · rintro k16 _
      unfold law07_DependOrders_l4
      exact ok_brd (fun h => absurd h (by show ¬ (O.length : Int) < (O.length : Int); omega)) fun _ => ok_bnde alive_ok (ok_some rfl)
/-! ### loops -/
theorem nd_nil (x y : Int) : nd [] x y = false := by unfold nd; simp
theorem ready_free {l : List Int} (x : Int) : x ∈ readyF l [] ↔ x ∈ l := by
  unfold readyF
  rw [List.mem_filter]
  refine ⟨fun h => h.1, fun h => ⟨h, ?_⟩⟩
  unfold rdyB
  rw [Bool.not_eq_true', List.any_eq_false]
  intro j _
  unfold blkB; simp [nd_nil]
theorem DependLoops_true (stamps : List Int) : law07_DependLoops stamps = some true := by
  unfold law07_DependLoops
  refine ok_eq (ok_bnde (few_ok _) (ok_br (fun _ => ok_bnde alive_ok (ok_some rfl)) fun h => ?_))
  have hl : stamps.length ≤ 24 := few_le h
  refine ok_for 0 stamps.length (fun n (t : List (List Bool) × List Int) => t.2 = rng n ∧ t.1.length = n ∧ ∀ (a : Nat), a < n → nd t.1 (a : Int) (((a + 1) % stamps.length : Nat) : Int) = true) 0 rfl (Nat.zero_le _) (by omega) ⟨rfl, rfl, fun a h => by omega⟩ ?_ ?_
  · rintro a ⟨R, l⟩ k ha ⟨e, hR, hg⟩ hk
    simp only at e hR hg
    have hlt : l.length ≤ 24 := by rw [e, rng_len]; omega
    unfold law07_DependLoops_l2
    refine ok_brd (fun _ => ok_mks (n := stamps.length) rfl rfl (by omega) (by omega) (ok_lt ?_)) fun h => absurd (show (a : Int) < (stamps.length : Int) by omega) h
    have hd : divO .rem .i64 (addI (a : Int) 1) (lenI stamps) = some (((a + 1) % stamps.length : Nat) : Int) := by
      rw [addI_nat (by omega)]
      unfold divO
      rw [decide_eq_false (show ¬ lenI stamps = 0 by unfold lenI; omega)]
      show some (Int.tmod _ _) = _
      unfold lenI
      rw [Int.tmod_eq_emod_of_nonneg (by omega)]; simp
    have hm : (a + 1) % stamps.length < stamps.length := Nat.mod_lt _ (by omega)
    refine ok_bnde hd (ok_ixO _ rfl hm (ok_lt (ok_get (by simpa using hm) (ok_room (by show (2 * (R.length + 1) + 192) * 24 ≤ _; omega) (by show R.length + 1 ≤ _; omega) (ok_room (by show (2 * (l.length + 1) + 192) * 8 ≤ _; omega) (by show l.length + 1 ≤ _; omega) (hk _ ⟨?_, by simp [hR], fun c hc => ?_⟩))))))
    · rw [rng_succ, e]
    · simp only
      by_cases hca : c = a
      · subst hca
        exact nd_at (row := (List.replicate stamps.length false).set ((c + 1) % stamps.length) true) (by rw [← hR]; simp) (by simp [hm])
      · obtain ⟨a', b', e1, e2, row, h1, h2⟩ := nd_of (hg c (by omega))
        have e1' : c = a' := by omega
        rw [e2]
        subst e1'
        refine nd_at (row := row) ?_ h2
        rw [List.getElem?_append_left]
        · exact h1
        · omega
  · rintro ⟨N, l⟩ k ⟨e, hR, hg⟩
    simp only at e hR hg; subst e
    unfold law07_DependLoops_l2
    refine ok_brd (fun h => absurd h (by show ¬ (stamps.length : Int) < (stamps.length : Int); omega)) fun _ => ?_
    simp only
    have hE := rng_elems hl
    refine ok_bnde (ready_ok _ _ hE.len) ?_
    rw [el_self _ hE.nd hE.pos]
    have hall : readyF (rng stamps.length) N = rng stamps.length := by
      have hmm : ∀ m : Nat, m % stamps.length < stamps.length ∨ stamps.length = 0 := fun m => by
        rcases Nat.eq_zero_or_pos stamps.length with h | h
        · exact .inr h
        · exact .inl (Nat.mod_lt _ h)
      have step : ∀ (d a : Nat), a < stamps.length → TC (rng stamps.length) N (a : Int) (((a + 1 + d) % stamps.length : Nat) : Int) := by
        intro d
        induction d with
        | zero =>
          intro a ha
          exact .one _ _ ((rng_mem _ _).2 ⟨by omega, by omega⟩) ((rng_mem _ _).2 ⟨by omega, by have := Nat.mod_lt (a + 1) (show stamps.length > 0 by omega); show (((a + 1) % stamps.length : Nat) : Int) < _; omega⟩) (hg a ha)
        | succ d ih =>
          intro a ha
          have hm := Nat.mod_lt (a + 1) (show stamps.length > 0 by omega)
          have h1 := ih ((a + 1) % stamps.length) hm
          have h2 : ((a + 1) % stamps.length + 1 + d) % stamps.length = (a + 1 + (d + 1)) % stamps.length := by
            rw [show (a + 1) % stamps.length + 1 + d = (a + 1) % stamps.length + (1 + d) by omega, Nat.mod_add_mod]; congr 1; omega
          rw [h2] at h1
          exact .step _ _ _ ((rng_mem _ _).2 ⟨by omega, by omega⟩) h1.l (hg a ha) h1
      refine List.filter_eq_self.2 fun x hx => ?_
      unfold rdyB
      rw [Bool.not_eq_true', List.any_eq_false]
      intro j hj
      obtain ⟨h1, h2⟩ := (rng_mem _ _).1 hx
      obtain ⟨h3, h4⟩ := (rng_mem _ _).1 hj
      obtain ⟨a, rfl⟩ := Int.eq_ofNat_of_zero_le h1
      obtain ⟨b, rfl⟩ := Int.eq_ofNat_of_zero_le h3
      have := step (a + stamps.length - (b + 1)) b (by omega)
      rw [show b + 1 + (a + stamps.length - (b + 1)) = a + stamps.length by omega, Nat.add_mod_right, Nat.mod_eq_of_lt (by omega)] at this
      unfold blkB
      rw [tcB_iff.2 this]; simp
    rw [hall]
    refine ok_bnde (same_ok _ (by rw [rng_len]; omega)) (ok_br (fun h => by cases h) fun _ => ok_bnde (order_ok stamps [] hl) ?_)
    generalize hO : ordF stamps [] stamps.length (rng stamps.length) = O
    have hlen : O.length = stamps.length := by rw [← hO, ordF_len]
    have hend : Ok (fun r => r = true) (bnd law07_alive fun y27 => br y27 (some (decide (lenI O = lenI stamps))) (some false)) :=
      ok_bnde alive_ok (ok_br (fun _ => ok_some (by unfold lenI; rw [hlen]; simp)) fun h => by cases h)
    by_cases h0 : O.length = 0
    · show Ok _ (loopK _ 18446744073709551616 1)
      have : loopK (law07_DependLoops_l1 stamps O) 18446744073709551616 1 = law07_DependLoops_l1 stamps O 1 (loopK (law07_DependLoops_l1 stamps O) 18446744073709551615) := rfl
      rw [this]
      unfold law07_DependLoops_l1
      exact ok_brd (fun h => absurd h (by unfold lenI; omega)) fun _ => hend
    refine ok_for1 1 O.length (fun n => 0 < n) 1 rfl (by omega) (by omega) (by omega) ?_ ?_
    · rintro i' k hi hpos hk
      obtain ⟨i, rfl⟩ : ∃ i, i' = i + 1 := ⟨i' - 1, by omega⟩
      obtain ⟨hi1, h1, h2, h3, h4, h5, h6⟩ := ord_at stamps [] stamps.length i hl (by omega) O hO.symm
      obtain ⟨_, g1, g2, g3, g4, g5, g6⟩ := ord_at stamps [] stamps.length (i + 1) hl (by omega) O hO.symm
      have m1 : O[i] ∈ O.drop i := ready_sub _ _ _ h3
      have m2 : O[i + 1] ∈ O.drop (i + 1) := ready_sub _ _ _ g3
      have m3 : O[i + 1] ∈ O.drop i := by
        have : (O.drop i)[1]? = some O[i + 1] := by rw [List.getElem?_drop, List.getElem?_eq_getElem (by omega)]
        exact List.mem_of_getElem? this
      have hne : O[i] ≠ O[i + 1] := fun e => g6 (by rw [← e, take_succ_get O i hi1]; exact List.mem_append_right _ (List.mem_singleton.2 rfl))
      have hb := h4 _ ((ready_free _).2 m3)
      obtain ⟨a1, a2⟩ := h5 _ m1
      obtain ⟨b1, b2⟩ := h5 _ m3
      obtain ⟨p, hp⟩ := Int.eq_ofNat_of_zero_le a1
      obtain ⟨q, hq⟩ := Int.eq_ofNat_of_zero_le b1
      have hps : p < stamps.length := by omega
      have hqs : q < stamps.length := by omega
      have e1 : stF stamps O[i] = stamps[p] := by unfold stF; rw [hp]; simp [hps]
      have e2 : stF stamps O[i + 1] = stamps[q] := by unfold stF; rw [hq]; simp [hqs]
      unfold law07_DependLoops_l1
      refine ok_brd (fun _ => ?_) fun h => absurd (show ((i + 1 : Nat) : Int) < (O.length : Int) by omega) h
      have hs : subI ((i + 1 : Nat) : Int) 1 = (i : Int) := by
        show IntKind.i64.wrap (((i + 1 : Nat) : Int) - 1) = _
        rw [wrap_in (by omega) (by omega)]; omega
      refine ok_ixL i hs hi1 (ok_ixL (i + 1) rfl (by omega) (ok_jn (fun s => s = false) ?_ ?_))
      · intro k21 h21
        unfold before at hb
        rw [e1, e2] at hb
        refine ok_brd (fun h => absurd h (by omega)) fun _ => ok_brd (fun h => absurd h (by omega)) fun _ => ok_brd (fun h => absurd h (by unfold lenI; omega)) fun _ => ok_brd (fun h => absurd h (by unfold lenI; omega)) fun _ => ?_
        refine ok_ixL p hp hps (ok_ixL q hq hqs (ok_brd (fun h => absurd h (by omega)) fun _ => ?_))
        refine ok_ixL p hp hps (ok_ixL q hq hqs (ok_brd (fun h => h21 _ ?_) fun _ => h21 _ rfl))
        refine decide_eq_false fun h7 => hne ?_
        rcases hb with hb | hb
        · omega
        · exact Int.le_antisymm hb.2 h7
      · rintro s rfl
        exact ok_br (fun h => by cases h) fun _ => hk (by omega)
    · rintro k _
      unfold law07_DependLoops_l1
      exact ok_brd (fun h => absurd h (by show ¬ (O.length : Int) < (O.length : Int); omega)) fun _ => hend
end Go.Proofs.Ytjdakjnobladaaa
