/-
  The greatest X that can be paid: the program's and the reference's halving come to the same.
-/
import Derived.Test.YtlelpgnmmbbfaaaPvTot
import Derived.Test.YtlelpgnmmbbfaaaWF
namespace Go.Proofs.Ytlelpgnmmbbfaaa
open Go Go.Pv
set_option linter.all false
def colN (c : Arr5 Int) : Nat → Int
  | 0 => c.a0 | 1 => c.a1 | 2 => c.a2 | 3 => c.a3 | _ => c.a4
def poolN (p : Arr6 Int) : Nat → Int
  | 0 => p.a0 | 1 => p.a1 | 2 => p.a2 | 3 => p.a3 | 4 => p.a4 | _ => p.a5
def isC (c : GCost) : Prop := (0 ≤ c.generic ∧ c.generic ≤ 99 ∧ 0 ≤ c.x ∧ c.x ≤ 2) ∧ ∀ j, j < 5 → 0 ≤ colN c.color j ∧ colN c.color j ≤ 9
def whole (p : Arr6 Int) : Prop := ∀ j, j < 6 → 0 ≤ poolN p j ∧ poolN p j ≤ 1000000
def canF (p : Arr6 Int) (c : GCost) (x : Int) : Prop := isC c ∧ whole p ∧ 0 ≤ x ∧ x ≤ 1000000 ∧
  (c.color.a0 ≤ p.a1 ∧ c.color.a1 ≤ p.a2 ∧ c.color.a2 ≤ p.a3 ∧ c.color.a3 ≤ p.a4 ∧ c.color.a4 ≤ p.a5) ∧
  c.generic + c.x * x ≤ p.a0 + (p.a1 - c.color.a0) + (p.a2 - c.color.a1) + (p.a3 - c.color.a2) + (p.a4 - c.color.a3) + (p.a5 - c.color.a4)
theorem ok_seln {ρ : Type} {Q : ρ → Prop} {n m : Nat} {k : Nat → Option ρ} (h : n < m) (hk : Ok Q (k n)) : Ok Q (sel (n : Int) m k) := ok_sel (by omega) (by omega) fun j hj => by
  have : j = n := by omega
  rw [this]; exact hk
theorem five {i : Nat} (h : i < 5) : i = 0 ∨ i = 1 ∨ i = 2 ∨ i = 3 ∨ i = 4 := by omega
theorem six {i : Nat} (h : i < 6) : i = 0 ∨ i = 1 ∨ i = 2 ∨ i = 3 ∨ i = 4 ∨ i = 5 := by omega
theorem mana_Is_ok (c : GCost) : Ok (fun r => r = true ↔ isC c) (mana_Is c) := by
  unfold mana_Is
  refine ok_for1 0 5 (fun n => ∀ j, j < n → 0 ≤ colN c.color j ∧ colN c.color j ≤ 9) 0 rfl (by omega) (by omega) (fun j h => by omega) ?_ ?_
  · intro i k hi hI hk
    unfold mana_Is_l1
    refine ok_brd (fun _ => ok_jn (fun s => s = colN c.color i) ?_ ?_) fun h => absurd (show (i : Int) < 5 by omega) h
    · intro k4 h4
      rcases five hi with rfl | rfl | rfl | rfl | rfl <;> exact ok_seln (by omega) (h4 _ rfl)
    · rintro s rfl
      refine ok_jn (fun s => s = decide (colN c.color i < 0 ∨ 9 < colN c.color i)) ?_ ?_
      · intro k7 h7
        exact ok_brd (fun h => h7 _ (by simp [h])) fun h => h7 _ (by simp [h])
      · rintro s rfl
        refine ok_brd (fun h => ok_some ?_) fun h => hk fun j hj => ?_
        · refine ⟨fun h => (by cases h), fun hC => ?_⟩
          have := hC.2 i hi; omega
        · by_cases e : j = i
          · subst e; omega
          · exact hI j (by omega)
  · intro k hI
    unfold mana_Is_l1
    refine ok_brd (fun h => absurd h (by omega)) fun _ => ok_brd (fun h1 => ok_brd (fun h2 => ok_brd (fun h3 => ok_some ?_) fun h => ok_some ?_) fun h => ok_some ?_) fun h => ok_some ?_
    · rw [decide_eq_true_iff]
      exact ⟨fun h4 => ⟨⟨h1, h2, h3, h4⟩, hI⟩, fun hC => hC.1.2.2.2⟩
    all_goals exact ⟨fun h => (by cases h), fun hC => by have := hC.1; omega⟩
theorem mana_Whole_ok (p : Arr6 Int) : Ok (fun r => r = true ↔ whole p) (mana_Whole p) := by
  unfold mana_Whole
  refine ok_for1 0 6 (fun n => ∀ j, j < n → 0 ≤ poolN p j ∧ poolN p j ≤ 1000000) 0 rfl (by omega) (by omega) (fun j h => by omega) ?_ ?_
  · intro i k hi hI hk
    unfold mana_Whole_l1
    refine ok_brd (fun _ => ok_jn (fun s => s = poolN p i) ?_ ?_) fun h => absurd (show (i : Int) < 6 by omega) h
    · intro k4 h4
      rcases six hi with rfl | rfl | rfl | rfl | rfl | rfl <;> exact ok_seln (by omega) (h4 _ rfl)
    · rintro s rfl
      refine ok_jn (fun s => s = decide (poolN p i < 0 ∨ 1000000 < poolN p i)) ?_ ?_
      · intro k7 h7
        exact ok_brd (fun h => h7 _ (by simp [h])) fun h => h7 _ (by simp [h])
      · rintro s rfl
        refine ok_brd (fun h => ok_some ?_) fun h => hk fun j hj => ?_
        · refine ⟨fun h => (by cases h), fun hC => ?_⟩
          have := hC i hi; omega
        · by_cases e : j = i
          · subst e; omega
          · exact hI j (by omega)
  · intro k hI
    unfold mana_Whole_l1
    exact ok_brd (fun h => absurd h (by omega)) fun _ => ok_some ⟨fun _ => hI, fun _ => rfl⟩
theorem r08_Is_ok (c : GCost) : Ok (fun r => r = true ↔ isC c) (r08_Is c) := by
  unfold r08_Is
  refine ok_jn (fun s => s = decide (c.generic < 0 ∨ 99 < c.generic ∨ c.x < 0 ∨ 2 < c.x)) ?_ ?_
  · intro k2 h2
    exact ok_brd (fun h => h2 _ (by simp [h])) fun a => ok_brd (fun h => h2 _ (by simp [h])) fun b => ok_brd (fun h => h2 _ (by simp [h])) fun d => h2 _ (by simp [a, b, d])
  · rintro s rfl
    refine ok_brd (fun h => ok_some ⟨fun h => (by cases h), fun hC => by have := hC.1; omega⟩) fun h0 => ?_
    refine ok_for1 0 5 (fun n => ∀ j, j < n → 0 ≤ colN c.color j ∧ colN c.color j ≤ 9) 0 rfl (by omega) (by omega) (fun j h => by omega) ?_ ?_
    · intro i k hi hI hk
      unfold r08_Is_l1
      refine ok_brd (fun _ => ok_jn (fun s => s = decide (colN c.color i < 0 ∨ 9 < colN c.color i)) ?_ ?_) fun h => absurd (show (i : Int) < 5 by omega) h
      · intro k6 h6
        rcases five hi with rfl | rfl | rfl | rfl | rfl <;>
          exact ok_seln (by omega) (ok_brd (fun h => h6 _ (by simp only [colN]; simp [h])) fun h => ok_seln (by omega) (h6 _ (by simp only [colN]; simp [h])))
      · rintro s rfl
        refine ok_brd (fun h => ok_some ?_) fun h => hk fun j hj => ?_
        · refine ⟨fun h => (by cases h), fun hC => ?_⟩
          have := hC.2 i hi; omega
        · by_cases e : j = i
          · subst e; omega
          · exact hI j (by omega)
    · intro k hI
      unfold r08_Is_l1
      exact ok_brd (fun h => absurd h (by omega)) fun _ => ok_some ⟨fun _ => ⟨by omega, hI⟩, fun _ => rfl⟩
theorem r08_Whole_ok (p : Arr6 Int) : Ok (fun r => r = true ↔ whole p) (r08_Whole p) := by
  unfold r08_Whole
  refine ok_for1 0 6 (fun n => ∀ j, j < n → 0 ≤ poolN p j ∧ poolN p j ≤ 1000000) 0 rfl (by omega) (by omega) (fun j h => by omega) ?_ ?_
  · intro i k hi hI hk
    unfold r08_Whole_l1
    refine ok_brd (fun _ => ok_jn (fun s => s = decide (poolN p i < 0 ∨ 1000000 < poolN p i)) ?_ ?_) fun h => absurd (show (i : Int) < 6 by omega) h
    · intro k6 h6
      rcases six hi with rfl | rfl | rfl | rfl | rfl | rfl <;>
        exact ok_seln (by omega) (ok_brd (fun h => h6 _ (by simp only [poolN]; simp [h])) fun h => ok_seln (by omega) (h6 _ (by simp only [poolN]; simp [h])))
    · rintro s rfl
      refine ok_brd (fun h => ok_some ?_) fun h => hk fun j hj => ?_
      · refine ⟨fun h => (by cases h), fun hC => ?_⟩
        have := hC i hi; omega
      · by_cases e : j = i
        · subst e; omega
        · exact hI j (by omega)
  · intro k hI
    unfold r08_Whole_l1
    exact ok_brd (fun h => absurd h (by omega)) fun _ => ok_some ⟨fun _ => hI, fun _ => rfl⟩
/-- a part of a payment -/
theorem minI {r n : Int} (hr : 0 ≤ r ∧ r ≤ 1000000) (hn : 0 ≤ n ∧ n ≤ 9000000) : ∃ m, (if r < n then r else n) = m ∧ subI r m = r - m ∧ subI n m = n - m ∧ 0 ≤ m ∧ m ≤ r ∧ m ≤ n ∧ (m = r ∨ m = n) := by
  refine ⟨_, rfl, ?_⟩
  by_cases h : r < n
  · rw [if_pos h]
    exact ⟨subI_eq (by omega) (by omega), subI_eq (by omega) (by omega), by omega, by omega, by omega, .inl rfl⟩
  · rw [if_neg h]
    exact ⟨subI_eq (by omega) (by omega), subI_eq (by omega) (by omega), by omega, by omega, by omega, .inr rfl⟩
theorem need_ok {c : GCost} {x : Int} (hC : isC c) (hx : 0 ≤ x ∧ x ≤ 1000000) : addI c.generic (mulI c.x x) = c.generic + c.x * x ∧ 0 ≤ c.x * x ∧ c.x * x ≤ 2000000 := by
  obtain ⟨⟨h1, h2, h3, h4⟩, _⟩ := hC
  have h5 : 0 ≤ c.x * x ∧ c.x * x ≤ 2000000 := by
    have : c.x = 0 ∨ c.x = 1 ∨ c.x = 2 := by omega
    rcases this with e | e | e <;> rw [e] <;> omega
  refine ⟨?_, h5⟩
  rw [mulI_eq (by omega) (by omega), addI_eq (by omega) (by omega)]
def subP (p : Arr6 Int) (c : Arr5 Int) (n : Nat) : Arr6 Int := ⟨p.a0, if 0 < n then p.a1 - c.a0 else p.a1, if 1 < n then p.a2 - c.a1 else p.a2, if 2 < n then p.a3 - c.a2 else p.a3, if 3 < n then p.a4 - c.a3 else p.a4, if 4 < n then p.a5 - c.a4 else p.a5⟩
theorem mana_Pay_ok (p : Arr6 Int) (c : GCost) (x : Int) : Ok (fun r => r.2 = 0 ↔ canF p c x) (mana_Pay p c x) := by
  unfold mana_Pay
  refine ok_jn (fun s => s = true ↔ ¬ (isC c ∧ whole p ∧ 0 ≤ x ∧ x ≤ 1000000)) ?_ ?_
  · intro k2 h2
    refine ok_bnd (mana_Is_ok c) fun y3 e3 => ok_br (fun h => h2 _ ?_) fun h => ?_
    · have : ¬ isC c := by rw [← e3]; simp at h; simp [h]
      simp [this]
    have hC : isC c := e3.1 (by simpa using h)
    refine ok_bnd (mana_Whole_ok p) fun y4 e4 => ok_br (fun h => h2 _ ?_) fun h => ?_
    · have : ¬ whole p := by rw [← e4]; simp at h; simp [h]
      simp [this]
    have hW : whole p := e4.1 (by simpa using h)
    refine ok_brd (fun h => h2 _ ?_) fun h => h2 _ ?_
    · simp; intro _ _ h3; omega
    · rw [decide_eq_true_iff]; constructor
      · intro h4 h5; omega
      · intro h4; exact Classical.byContradiction fun h5 => h4 ⟨hC, hW, by omega, by omega⟩
  · intro s hs
    refine ok_br (fun h => ok_some ?_) fun h => ?_
    · have := hs.1 h
      refine ⟨fun h => (by cases h), fun hC => absurd ⟨hC.1, hC.2.1, hC.2.2.1, hC.2.2.2.1⟩ this⟩
    obtain ⟨hC, hW, hx0, hx1⟩ : isC c ∧ whole p ∧ 0 ≤ x ∧ x ≤ 1000000 := Classical.byContradiction fun hn => by rw [hs.2 hn] at h; cases h
    obtain ⟨hneed, hm0, hm1⟩ := need_ok hC ⟨hx0, hx1⟩
    have c0 := hC.2 0 (by omega); have c1 := hC.2 1 (by omega); have c2 := hC.2 2 (by omega); have c3 := hC.2 3 (by omega); have c4 := hC.2 4 (by omega)
    have w0 := hW 0 (by omega); have w1 := hW 1 (by omega); have w2 := hW 2 (by omega); have w3 := hW 3 (by omega); have w4 := hW 4 (by omega); have w5 := hW 5 (by omega)
    simp only [colN, poolN] at c0 c1 c2 c3 c4 w0 w1 w2 w3 w4 w5
    obtain ⟨g0, g1, g2, g3⟩ := hC.1
    refine ok_jn (fun s => s = true → (p.a0 = 0 ∧ p.a1 = 0 ∧ p.a2 = 0 ∧ p.a3 = 0 ∧ p.a4 = 0 ∧ p.a5 = 0) ∧ c.generic = 0 ∧ c.x = 0 ∧ c.color.a0 = 0 ∧ c.color.a1 = 0 ∧ c.color.a2 = 0 ∧ c.color.a3 = 0 ∧ c.color.a4 = 0) ?_ ?_
    · intro k6 h6
      refine ok_lte fun v7 e7 => ok_br (fun h7 => ok_lte fun v8 e8 => h6 _ fun h8 => ?_) fun _ => h6 _ fun h => by cases h
      rw [e7] at h7; rw [e8] at h8
      simp only [Bool.and_eq_true, decide_eq_true_eq, and_true] at h7 h8
      exact ⟨h7, h8⟩
    · intro s hs
      refine ok_br (fun h => ok_some ?_) fun _ => ?_
      · obtain ⟨⟨e0, e1, e2, e3, e4, e5⟩, f0, f1, f2, f3, f4, f5, f6⟩ := hs h
        refine ⟨fun _ => ⟨hC, hW, hx0, hx1, by omega, ?_⟩, fun _ => rfl⟩
        rw [f1]; omega
      · refine ok_forr 0 5 (fun n t => t = subP p c.color n ∧ ∀ j, j < n → colN c.color j ≤ poolN p (j + 1)) 0 rfl (by omega) (by omega) ⟨rfl, fun j h => by omega⟩ ?_ ?_
        · rintro i t k hi ⟨rfl, hI⟩ hk
          have hsum := addI_nat (n := i) (by omega)
          unfold mana_Pay_l1
          simp only [hsum] at hk ⊢
          refine ok_brd (fun _ => ok_jn (fun s => s = colN c.color i) ?_ ?_) fun h => absurd (show (i : Int) < 5 by omega) h
          · intro k4 h4
            rcases five hi with rfl | rfl | rfl | rfl | rfl <;> exact ok_seln (by omega) (h4 _ rfl)
          · rintro s rfl
            refine ok_jn (fun s => s = subP p c.color (i + 1)) ?_ ?_
            · intro k15 h15
              rcases five hi with rfl | rfl | rfl | rfl | rfl
              all_goals
                refine ok_seln (by omega) (ok_seln (by omega) (h15 _ ?_))
                simp only [subP, colN]
                rw [subI_eq (by simp; omega) (by simp; omega)]
                simp
            · rintro s rfl
              refine ok_jn (fun s => s = decide (poolN p (i + 1) < colN c.color i)) ?_ ?_
              · intro k24 h24
                rcases five hi with rfl | rfl | rfl | rfl | rfl
                all_goals
                  refine ok_seln (by omega) (h24 _ ?_)
                  simp only [subP, colN, poolN]
                  congr 1
                  simp
                  omega
              · rintro s rfl
                refine ok_brd (fun h => ok_some ?_) fun h => hk _ ⟨rfl, fun j hj => ?_⟩
                · refine ⟨fun h => (by cases h), fun hF => ?_⟩
                  have hcols := hF.2.2.2.2.1
                  rcases five hi with rfl | rfl | rfl | rfl | rfl <;> (simp only [poolN, colN] at h; omega)
                · by_cases e : j = i
                  · subst e; omega
                  · exact hI j (by omega)
        · rintro t k ⟨rfl, hI⟩
          have i0 := hI 0 (by omega); have i1 := hI 1 (by omega); have i2 := hI 2 (by omega); have i3 := hI 3 (by omega); have i4 := hI 4 (by omega)
          simp only [colN, poolN] at i0 i1 i2 i3 i4
          unfold mana_Pay_l1
          refine ok_brd (fun h => absurd h (by omega)) fun _ => ?_
          simp only [hneed, subP, Nat.reduceLT, if_true]
          obtain ⟨m0, e0, s0, t0, b0⟩ := minI (r := p.a0) (n := c.generic + c.x * x) (by omega) (by omega)
          rw [e0, s0, t0]
          refine ok_lte fun v26 _ => ok_lte fun v27 h27 => ?_
          obtain ⟨m1, e1, s1, t1, b1⟩ := minI (r := p.a1 - c.color.a0) (n := v27) (by omega) (by omega)
          rw [e1, t1]
          obtain ⟨m2, e2, s2, t2, b2⟩ := minI (r := p.a2 - c.color.a1) (n := v27 - m1) (by omega) (by omega)
          rw [e2, s2, t2]
          refine ok_lte fun v28 _ => ok_lte fun v29 h29 => ?_
          obtain ⟨m3, e3, s3, t3, b3⟩ := minI (r := p.a3 - c.color.a2) (n := v29) (by omega) (by omega)
          rw [e3, t3]
          obtain ⟨m4, e4, s4, t4, b4⟩ := minI (r := p.a4 - c.color.a3) (n := v29 - m3) (by omega) (by omega)
          rw [e4, s4, t4]
          refine ok_lte fun v30 _ => ok_lte fun v31 h31 => ?_
          obtain ⟨m5, e5, s5, t5, b5⟩ := minI (r := p.a5 - c.color.a4) (n := v31) (by omega) (by omega)
          rw [e5, t5]
          refine ok_lte fun v32 h32 => ok_br (fun h => ok_some ?_) fun h => ok_some ?_
          · rw [h32, decide_eq_true_iff] at h
            refine ⟨fun h => (by cases h), fun hF => ?_⟩
            have := hF.2.2.2.2.2; omega
          · rw [h32, decide_eq_false_iff_not] at h
            exact ⟨fun _ => ⟨hC, hW, hx0, hx1, by omega, by omega⟩, fun _ => rfl⟩
theorem r08_Pay_ok (p : Arr6 Int) (c : GCost) (x : Int) : Ok (fun r => r.2 = 0 ↔ canF p c x) (r08_Pay p c x) := by
  unfold r08_Pay
  refine ok_jn (fun s => s = true ↔ ¬ (isC c ∧ whole p ∧ 0 ≤ x ∧ x ≤ 1000000)) ?_ ?_
  · intro k2 h2
    refine ok_bnd (r08_Is_ok c) fun y3 e3 => ok_br (fun h => h2 _ ?_) fun h => ?_
    · have : ¬ isC c := by rw [← e3]; simp at h; simp [h]
      simp [this]
    have hC : isC c := e3.1 (by simpa using h)
    refine ok_bnd (r08_Whole_ok p) fun y4 e4 => ok_br (fun h => h2 _ ?_) fun h => ?_
    · have : ¬ whole p := by rw [← e4]; simp at h; simp [h]
      simp [this]
    have hW : whole p := e4.1 (by simpa using h)
    refine ok_brd (fun h => h2 _ ?_) fun h => h2 _ ?_
    · simp; intro _ _ h3; omega
    · rw [decide_eq_true_iff]; constructor
      · intro h4 h5; omega
      · intro h4; exact Classical.byContradiction fun h5 => h4 ⟨hC, hW, by omega, by omega⟩
  · intro s hs
    refine ok_br (fun h => ok_some ?_) fun h => ?_
    · have := hs.1 h
      refine ⟨fun h => (by cases h), fun hC => absurd ⟨hC.1, hC.2.1, hC.2.2.1, hC.2.2.2.1⟩ this⟩
    obtain ⟨hC, hW, hx0, hx1⟩ : isC c ∧ whole p ∧ 0 ≤ x ∧ x ≤ 1000000 := Classical.byContradiction fun hn => by rw [hs.2 hn] at h; cases h
    obtain ⟨hneed, hm0, hm1⟩ := need_ok hC ⟨hx0, hx1⟩
    have c0 := hC.2 0 (by omega); have c1 := hC.2 1 (by omega); have c2 := hC.2 2 (by omega); have c3 := hC.2 3 (by omega); have c4 := hC.2 4 (by omega)
    have w0 := hW 0 (by omega); have w1 := hW 1 (by omega); have w2 := hW 2 (by omega); have w3 := hW 3 (by omega); have w4 := hW 4 (by omega); have w5 := hW 5 (by omega)
    simp only [colN, poolN] at c0 c1 c2 c3 c4 w0 w1 w2 w3 w4 w5
    obtain ⟨g0, g1, g2, g3⟩ := hC.1
    have bad : (p.a1 < c.color.a0 ∨ p.a2 < c.color.a1 ∨ p.a3 < c.color.a2 ∨ p.a4 < c.color.a3 ∨ p.a5 < c.color.a4) → Ok (fun r => r.2 = 0 ↔ canF p c x) (some ((zArr6I, 12) : Arr6 Int × Int)) := fun hb =>
      ok_some ⟨fun h => (by cases h), fun hF => by have := hF.2.2.2.2.1; omega⟩
    have s1 := subI_eq (a := p.a1) (b := c.color.a0) (by omega) (by omega)
    have s2 := subI_eq (a := p.a2) (b := c.color.a1) (by omega) (by omega)
    have s3 := subI_eq (a := p.a3) (b := c.color.a2) (by omega) (by omega)
    have s4 := subI_eq (a := p.a4) (b := c.color.a3) (by omega) (by omega)
    have s5 := subI_eq (a := p.a5) (b := c.color.a4) (by omega) (by omega)
    rw [hneed, s1, s2, s3, s4, s5]
    have a1 := addI_eq (a := p.a0) (b := p.a1 - c.color.a0) (by omega) (by omega)
    have a2 := addI_eq (a := p.a0 + (p.a1 - c.color.a0)) (b := p.a2 - c.color.a1) (by omega) (by omega)
    refine ok_brd (fun h => bad (by omega)) fun h1 => ok_brd (fun h => bad (by omega)) fun h2 => ok_lte fun v5 e5 => ?_
    rw [a1, a2] at e5
    have a3 := addI_eq (a := v5) (b := p.a3 - c.color.a2) (by omega) (by omega)
    have a4 := addI_eq (a := v5 + (p.a3 - c.color.a2)) (b := p.a4 - c.color.a3) (by omega) (by omega)
    refine ok_brd (fun h => bad (by omega)) fun h3 => ok_brd (fun h => bad (by omega)) fun h4 => ok_lte fun v6 e6 => ?_
    rw [a3, a4] at e6
    have a5 := addI_eq (a := v6) (b := p.a5 - c.color.a4) (by omega) (by omega)
    refine ok_brd (fun h => bad (by omega)) fun h5 => ok_lte fun v7 e7 => ?_
    rw [a5] at e7
    refine ok_br (fun h => ok_some ?_) fun h => ?_
    · rw [e7, decide_eq_true_iff] at h
      exact ⟨fun h => (by cases h), fun hF => by have := hF.2.2.2.2.2; omega⟩
    · rw [e7, decide_eq_false_iff_not] at h
      iterate 12 refine ok_lte fun _ _ => ?_
      exact ok_some ⟨fun _ => ⟨hC, hW, hx0, hx1, by omega, by omega⟩, fun _ => rfl⟩

/-! ### halving -/
/-- what the greatest X is -/
def MostS (p : Arr6 Int) (c : GCost) (r : Int) : Prop :=
  (¬ canF p c 0 ∧ r = -1) ∨ (canF p c 0 ∧ c.x = 0 ∧ r = 0) ∨ (canF p c 0 ∧ c.x ≠ 0 ∧ canF p c r ∧ ∀ y, r < y → y ≤ 1000000 → ¬ canF p c y)
theorem MostS.one {p : Arr6 Int} {c : GCost} {r s : Int} (h : MostS p c r) (k : MostS p c s) : r = s := by
  rcases h with ⟨h1, h2⟩ | ⟨h1, h2, h3⟩ | ⟨h1, h2, h3, h4⟩ <;> rcases k with ⟨k1, k2⟩ | ⟨k1, k2, k3⟩ | ⟨k1, k2, k3, k4⟩
  · omega
  · exact absurd k1 h1
  · exact absurd k1 h1
  · exact absurd h1 k1
  · omega
  · exact absurd h2 k2
  · exact absurd h1 k1
  · exact absurd k2 h2
  · rcases Int.lt_trichotomy r s with h | h | h
    · exact absurd k3 (h4 s h k3.2.2.2.1)
    · exact h
    · exact absurd h3 (k4 r h h3.2.2.2.1)
theorem can_mono {p : Arr6 Int} {c : GCost} {x y : Int} (h : canF p c y) (h0 : 0 ≤ x) (hxy : x ≤ y) : canF p c x := by
  obtain ⟨hC, hW, h1, h2, h3, h4⟩ := h
  refine ⟨hC, hW, h0, by omega, h3, ?_⟩
  have h5 : c.x * x ≤ c.x * y := Int.mul_le_mul_of_nonneg_left hxy hC.1.2.2.1
  omega
theorem mana_CanPay_ok (p : Arr6 Int) (c : GCost) (x : Int) : Ok (fun r => r = true ↔ canF p c x) (mana_CanPay p c x) := by
  unfold mana_CanPay
  refine ok_bnd (mana_Pay_ok p c x) fun y hy => ok_some ?_
  rw [decide_eq_true_iff]; exact hy
theorem r08_CanPay_ok (p : Arr6 Int) (c : GCost) (x : Int) : Ok (fun r => r = true ↔ canF p c x) (r08_CanPay p c x) := by
  unfold r08_CanPay
  refine ok_bnd (r08_Pay_ok p c x) fun y hy => ok_some ?_
  rw [decide_eq_true_iff]; exact hy
theorem cost_MostX_1_ok (p : Arr6 Int) (c : GCost) (x : Int) : Ok (fun r => r = true ↔ canF p c x) (cost_MostX_1 x p c) := by
  unfold cost_MostX_1
  exact ok_bnd (mana_CanPay_ok p c x) fun y hy => ok_some hy
theorem half {a : Int} (h0 : 0 ≤ a) (h1 : a ≤ 9000000) : IntKind.i64.wrap (a.tdiv 2) = a / 2 := by
  rw [Int.tdiv_eq_ediv_of_nonneg h0, wrap_in (by omega) (by omega)]
theorem MostX_ok (p : Arr6 Int) (c : GCost) : Ok (MostS p c) (cost_MostX p c) := by
  unfold cost_MostX
  refine ok_bnd (cost_MostX_1_ok p c 0) fun y1 h1 => ok_br (fun h => ok_some (.inl ⟨by rw [← h1]; simp at h; simp [h], rfl⟩)) fun h => ?_
  have h0 : canF p c 0 := h1.1 (by simpa using h)
  refine ok_brd (fun h => ok_some (.inr (.inl ⟨h0, h, rfl⟩))) fun hx => ?_
  refine ok_loop (fun s => 0 ≤ s.1 ∧ s.1 ≤ s.2 ∧ s.2 ≤ 1000000 ∧ canF p c s.1 ∧ ∀ y, s.2 < y → y ≤ 1000000 → ¬ canF p c y) (fun s => (s.2 - s.1).toNat) ⟨by decide, by decide, by decide, h0, fun y h1 h2 => by simp only at h1; omega⟩ (by show _ < 18446744073709551616; decide) ?_
  rintro ⟨lo, hi⟩ k ⟨i1, i2, i3, i4, i5⟩ hk
  simp only at i1 i2 i3 i4 i5
  unfold cost_MostX_l1
  refine ok_brd (fun h => ?_) fun h => ok_some (.inr (.inr ⟨h0, hx, i4, fun y h1 h2 => i5 y (by simp only at h h1; omega) h2⟩))
  simp only at h ⊢
  have s1 := subI_eq (a := hi) (b := lo) (by omega) (by omega)
  refine ok_divquo (by decide) fun x4 hx4 => ?_
  rw [s1, half (by omega) (by omega)] at hx4
  have s2 := subI_eq (a := hi) (b := x4) (by omega) (by omega)
  rw [s2]
  refine ok_bnd (cost_MostX_1_ok p c (hi - x4)) fun y5 h5 => ok_br (fun h => ?_) fun h => ?_
  · exact hk (hi - x4, hi) ⟨by simp only; omega, by simp only; omega, i3, h5.1 h, i5⟩ (by simp only; omega)
  · have s3 := subI_eq (a := hi - x4) (b := 1) (by omega) (by omega)
    rw [s3]
    refine hk (lo, hi - x4 - 1) ⟨i1, by simp only; omega, by simp only; omega, i4, fun y g1 g2 g3 => ?_⟩ (by simp only; omega)
    simp only at g1
    have := h5.2 (can_mono g3 (by omega) (by omega))
    rw [h] at this; cases this
theorem MostX2_ok (p : Arr6 Int) (c : GCost) : Ok (MostS p c) (r39_MostX p c) := by
  unfold r39_MostX
  refine ok_bnd (r08_CanPay_ok p c 0) fun y1 h1 => ok_br (fun h => ok_some (.inl ⟨by rw [← h1]; simp at h; simp [h], rfl⟩)) fun h => ?_
  have h0 : canF p c 0 := h1.1 (by simpa using h)
  refine ok_brd (fun h => ok_some (.inr (.inl ⟨h0, h, rfl⟩))) fun hx => ?_
  refine ok_loop (fun s => 0 ≤ s.1 ∧ s.1 ≤ s.2 ∧ s.2 ≤ 1000000 ∧ canF p c s.1 ∧ ∀ y, s.2 < y → y ≤ 1000000 → ¬ canF p c y) (fun s => (s.2 - s.1).toNat) ⟨by decide, by decide, by decide, h0, fun y h1 h2 => by simp only at h1; omega⟩ (by show _ < 18446744073709551616; decide) ?_
  rintro ⟨lo, hi⟩ k ⟨i1, i2, i3, i4, i5⟩ hk
  simp only at i1 i2 i3 i4 i5
  unfold r39_MostX_l1
  refine ok_brd (fun h => ?_) fun h => ok_some (.inr (.inr ⟨h0, hx, i4, fun y h1 h2 => i5 y (by simp only at h h1; omega) h2⟩))
  simp only at h ⊢
  have s1 := addI_eq (a := lo) (b := hi) (by omega) (by omega)
  have s2 := addI_eq (a := lo + hi) (b := 1) (by omega) (by omega)
  refine ok_divquo (by decide) fun x4 hx4 => ?_
  rw [s1, s2, half (by omega) (by omega)] at hx4
  refine ok_bnd (r08_CanPay_ok p c x4) fun y5 h5 => ok_br (fun h => ?_) fun h => ?_
  · exact hk (x4, hi) ⟨by simp only; omega, by simp only; omega, i3, h5.1 h, i5⟩ (by simp only; omega)
  · have s3 := subI_eq (a := x4) (b := 1) (by omega) (by omega)
    rw [s3]
    refine hk (lo, x4 - 1) ⟨i1, by simp only; omega, by simp only; omega, i4, fun y g1 g2 g3 => ?_⟩ (by simp only; omega)
    simp only at g1
    have := h5.2 (can_mono g3 (by omega) (by omega))
    rw [h] at this; cases this
theorem alive_ok : law39_alive = some true := by kernel_rfl
theorem CostMost_true (p : Arr6 Int) (c : GCost) : law39_CostMost p c = some true := by
  unfold law39_CostMost
  refine ok_eq (ok_bnde alive_ok (ok_br (fun _ => ok_bnd (MostX_ok p c) fun y2 h2 => ok_bnd (MostX2_ok p c) fun y3 h3 => ok_some ?_) fun h => by cases h))
  rw [h2.one h3]; simp
end Go.Proofs.Ytlelpgnmmbbfaaa
