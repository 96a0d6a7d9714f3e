/-
  Pv, part 32: laws of the translated texts: what ends well, and with which answer.
-/
import Derived.Test.YtlelpgnmmbbfaaaPvDec
namespace Go.Pv
open Go
set_option linter.all false
section
variable {α β σ τ ρ : Type}
/-- it ends, and its answer is as said -/
def Ok (Q : ρ → Prop) (o : Option ρ) : Prop := ∃ r, o = some r ∧ Q r
theorem ok_some {Q : ρ → Prop} {x : ρ} (h : Q x) : Ok Q (some x) := ⟨x, rfl, h⟩
theorem ok_mono {Q R : ρ → Prop} {o : Option ρ} (h : Ok Q o) (hm : ∀ r, Q r → R r) : Ok R o := let ⟨r, e, q⟩ := h; ⟨r, e, hm r q⟩
theorem ok_eq {c : ρ} {o : Option ρ} (h : Ok (fun r => r = c) o) : o = some c := by obtain ⟨r, e, q⟩ := h; subst q; exact e
theorem ok_of {c : ρ} {o : Option ρ} {Q : ρ → Prop} (h : o = some c) (q : Q c) : Ok Q o := ⟨c, h, q⟩
theorem ok_br {Q : ρ → Prop} {c : Bool} {a b : Option ρ} (h1 : c = true → Ok Q a) (h2 : c = false → Ok Q b) : Ok Q (br c a b) := by
  cases c with
  | true => exact h1 rfl
  | false => exact h2 rfl
theorem ok_brd {Q : ρ → Prop} {p : Prop} [Decidable p] {a b : Option ρ} (h1 : p → Ok Q a) (h2 : ¬p → Ok Q b) : Ok Q (br (decide p) a b) :=
  ok_br (fun h => h1 (of_decide_eq_true h)) (fun h => h2 (of_decide_eq_false h))
theorem ok_brn {Q : ρ → Prop} {p : Prop} [Decidable p] {a b : Option ρ} (h1 : ¬p → Ok Q a) (h2 : p → Ok Q b) : Ok Q (br (!decide p) a b) :=
  ok_br (fun h => h1 (by simpa using h)) (fun h => h2 (by simpa using h))
theorem ok_bnd {Q : ρ → Prop} {R : α → Prop} {o : Option α} {k : α → Option ρ} (h : Ok R o) (hk : ∀ x, R x → Ok Q (k x)) : Ok Q (bnd o k) := by
  obtain ⟨x, e, q⟩ := h
  rw [e]; exact hk x q
theorem ok_bnde {Q : ρ → Prop} {o : Option α} {x : α} {k : α → Option ρ} (h : o = some x) (hk : Ok Q (k x)) : Ok Q (bnd o k) := by
  rw [h]; exact hk
theorem ok_lt {Q : ρ → Prop} {x : α} {k : α → Option ρ} (hk : Ok Q (k x)) : Ok Q (lt x k) := hk
theorem ok_jn {Q : ρ → Prop} (J : σ → Prop) {rest : σ → Option ρ} {body : (σ → Option ρ) → Option ρ} (h1 : ∀ k, (∀ s, J s → Ok Q (k s)) → Ok Q (body k)) (h2 : ∀ s, J s → Ok Q (rest s)) : Ok Q (jn rest body) := h1 rest h2
theorem ok_room {Q : ρ → Prop} {n b : Nat} {k : Option ρ} (h1 : (2 * n + 192) * b ≤ 140737488355328) (h2 : n ≤ 4611686018427387904) (hk : Ok Q k) : Ok Q (roomO n b k) := by
  unfold roomO
  rw [Nat.ble_eq_true_of_le h1, Nat.ble_eq_true_of_le h2]; exact hk
theorem ixL_some {l : List α} {i : Int} {x : α} : ixL l i = some x ↔ 0 ≤ i ∧ l[i.toNat]? = some x := by
  cases i with
  | ofNat j => simp [ixL]
  | negSucc j => simp [ixL]
theorem ixL_nat (l : List α) (n : Nat) : ixL l (n : Int) = l[n]? := rfl
theorem ok_ixL {Q : ρ → Prop} {l : List α} {i : Int} {k : α → Option ρ} (n : Nat) (hi : i = (n : Int)) (hn : n < l.length) (hk : Ok Q (k (l[n]))) : Ok Q (bnd (ixL l i) k) := by
  subst hi
  rw [ixL_nat, List.getElem?_eq_getElem hn]; exact hk
theorem ok_ixO {Q : ρ → Prop} {m : Nat} {i : Int} {k : Nat → Option ρ} (n : Nat) (hi : i = (n : Int)) (hn : n < m) (hk : Ok Q (k n)) : Ok Q (bnd (ixO m i) k) := by
  subst hi
  show Ok Q (bnd (bif Nat.blt n m then some n else none) k)
  have : Nat.blt n m = true := by rw [Nat.blt_eq]; exact hn
  rw [this]; exact hk
theorem ok_get {Q : ρ → Prop} {l : List α} {n : Nat} {k : α → Option ρ} (hn : n < l.length) (hk : Ok Q (k (l[n]))) : Ok Q (bnd (l[n]?) k) := by
  rw [List.getElem?_eq_getElem hn]; exact hk
theorem ok_mks {Q : ρ → Prop} {n : Nat} {a m : Int} {b : Nat} {k : Nat → Option ρ} (hn : a = (n : Int)) (hm : m = (n : Int)) (h0 : 0 < b) (hb : b * n ≤ 140737488355328) (hk : Ok Q (k n)) : Ok Q (bnd (mksO a m b) k) := by
  subst hn hm
  have h1 : n ≤ b * n := Nat.le_mul_of_pos_left n h0
  have h2 : (b : Int) * (n : Int) ≤ 140737488355328 := by rw [← Int.natCast_mul]; exact Int.ofNat_le.2 hb
  have : mksO (n : Int) (n : Int) b = some n := by
    unfold mksO
    rw [decide_eq_true (show 0 ≤ (n : Int) ∧ (n : Int) ≤ (n : Int) ∧ (b : Int) * (n : Int) ≤ 140737488355328 ∧ (n : Int) ≤ 9223372036854775807 from ⟨by omega, by omega, h2, by omega⟩)]
    rfl
  rw [this]; exact hk
theorem ok_slc {Q : ρ → Prop} {a b : Int} {n i j : Nat} {k : Nat × Nat → Option ρ} (ha : a = (i : Int)) (hb : b = (j : Int)) (hij : i ≤ j) (hj : j ≤ n) (hk : Ok Q (k (i, j))) : Ok Q (bnd (slcO n a b) k) := by
  subst ha hb
  have : slcO n (i : Int) (j : Int) = some (i, j) := by
    unfold slcO
    rw [decide_eq_true (show 0 ≤ (i : Int) ∧ (i : Int) ≤ (j : Int) ∧ (j : Int) ≤ (n : Int) from ⟨by omega, by omega, by omega⟩)]
    rfl
  rw [this]; exact hk
theorem wrap_in {n : Int} (h1 : -9223372036854775808 ≤ n) (h2 : n < 9223372036854775808) : IntKind.i64.wrap n = n := by rw [IntKind.wrap_i64]; omega
theorem addI_eq {a b : Int} (h1 : -9223372036854775808 ≤ a + b) (h2 : a + b < 9223372036854775808) : addI a b = a + b := by
  show IntKind.i64.wrap (a + b) = a + b
  exact wrap_in h1 h2
theorem addI_nat {n : Nat} (h : n < 4611686018427387904) : addI (n : Int) 1 = ((n + 1 : Nat) : Int) := by
  rw [addI_eq (by omega) (by omega)]; rfl
theorem ok_loop {Q : ρ → Prop} {step : σ → (σ → Option ρ) → Option ρ} {s0 : σ} (Inv : σ → Prop) (μ : σ → Nat) (h0 : Inv s0) (hμ : μ s0 < fuel)
    (h : ∀ s k, Inv s → (∀ s', Inv s' → μ s' < μ s → Ok Q (k s')) → Ok Q (step s k)) : Ok Q (loopF step s0) := by
  have key : ∀ n s, Inv s → μ s < n → Ok Q (loopK step n s) := by
    intro n
    induction n with
    | zero => intro s _ h; omega
    | succ n ih => intro s hs hn; exact h s _ hs fun s' hs' hl => ih s' hs' (by omega)
  exact key fuel s0 h0 hμ
/-- a count from a to n, beside a state -/
theorem ok_for {Q : ρ → Prop} {step : Int × τ → (Int × τ → Option ρ) → Option ρ} {t0 : τ} (a n : Nat) (Inv : Nat → τ → Prop) (i0 : Int) (hi0 : i0 = (a : Int)) (ha : a ≤ n) (hn : n < 4611686018427387904) (h0 : Inv a t0)
    (h : ∀ i t k, i < n → Inv i t → (∀ t', Inv (i + 1) t' → Ok Q (k (addI (i : Int) 1, t'))) → Ok Q (step ((i : Int), t) k))
    (he : ∀ t k, Inv n t → Ok Q (step ((n : Int), t) k)) : Ok Q (loopF step (i0, t0)) := by
  subst hi0
  refine ok_loop (fun s => ∃ i : Nat, s.1 = (i : Int) ∧ i ≤ n ∧ Inv i s.2) (fun s => n - s.1.toNat) ⟨a, rfl, ha, h0⟩ (by show n - _ < 18446744073709551616; omega) ?_
  rintro ⟨i', t⟩ k ⟨i, e, hi, hI⟩ hk
  simp only at e hI; subst e
  by_cases h' : i = n
  · subst h'; exact he t k hI
  · refine h i t k (by omega) hI fun t' ht' => hk _ ⟨i + 1, addI_nat (by omega), by omega, ht'⟩ ?_
    rw [addI_nat (by omega)]
    simp only [Int.toNat_natCast]; omega
/-- a count alone -/
theorem ok_for1 {Q : ρ → Prop} {step : Int → (Int → Option ρ) → Option ρ} (a n : Nat) (Inv : Nat → Prop) (i0 : Int) (hi0 : i0 = (a : Int)) (ha : a ≤ n) (hn : n < 4611686018427387904) (h0 : Inv a)
    (h : ∀ i k, i < n → Inv i → (Inv (i + 1) → Ok Q (k (addI (i : Int) 1))) → Ok Q (step (i : Int) k))
    (he : ∀ k, Inv n → Ok Q (step (n : Int) k)) : Ok Q (loopF step i0) := by
  subst hi0
  refine ok_loop (fun s => ∃ i : Nat, s = (i : Int) ∧ i ≤ n ∧ Inv i) (fun s => n - s.toNat) ⟨a, rfl, ha, h0⟩ (by show n - _ < 18446744073709551616; omega) ?_
  rintro i' k ⟨i, e, hi, hI⟩ hk
  subst e
  by_cases h' : i = n
  · subst h'; exact he k hI
  · refine h i k (by omega) hI fun ht' => hk _ ⟨i + 1, addI_nat (by omega), by omega, ht'⟩ ?_
    rw [addI_nat (by omega)]
    simp only [Int.toNat_natCast]; omega
/-- a count behind a state -/
theorem ok_forr {Q : ρ → Prop} {step : τ × Int → (τ × Int → Option ρ) → Option ρ} {t0 : τ} (a n : Nat) (Inv : Nat → τ → Prop) (i0 : Int) (hi0 : i0 = (a : Int)) (ha : a ≤ n) (hn : n < 4611686018427387904) (h0 : Inv a t0)
    (h : ∀ i t k, i < n → Inv i t → (∀ t', Inv (i + 1) t' → Ok Q (k (t', addI (i : Int) 1))) → Ok Q (step (t, (i : Int)) k))
    (he : ∀ t k, Inv n t → Ok Q (step (t, (n : Int)) k)) : Ok Q (loopF step (t0, i0)) := by
  subst hi0
  refine ok_loop (fun s => ∃ i : Nat, s.2 = (i : Int) ∧ i ≤ n ∧ Inv i s.1) (fun s => n - s.2.toNat) ⟨a, rfl, ha, h0⟩ (by show n - _ < 18446744073709551616; omega) ?_
  rintro ⟨t, i'⟩ k ⟨i, e, hi, hI⟩ hk
  simp only at e hI; subst e
  by_cases h' : i = n
  · subst h'; exact he t k hI
  · refine h i t k (by omega) hI fun t' ht' => hk _ ⟨i + 1, addI_nat (by omega), by omega, ht'⟩ ?_
    rw [addI_nat (by omega)]
    simp only [Int.toNat_natCast]; omega
/-- two loops side by side -/
theorem loop_rel {σ' : Type} {step : σ → (σ → Option ρ) → Option ρ} {step' : σ' → (σ' → Option ρ) → Option ρ} (R : σ → σ' → Prop) {s : σ} {s' : σ'} (h0 : R s s')
    (h : ∀ s s' k k', R s s' → (∀ t t', R t t' → k t = k' t') → step s k = step' s' k') : loopF step s = loopF step' s' := by
  have key : ∀ n s s', R s s' → loopK step n s = loopK step' n s' := by
    intro n
    induction n with
    | zero => intros; rfl
    | succ n ih => intro s s' hs; exact h s s' _ _ hs ih
  exact key fuel s s' h0
end
end Go.Pv
