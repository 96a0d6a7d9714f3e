/-
  Pv, part 20c: regions whose order is drawn: the proof that every order comes to the same.
-/
import Derived.Test.YtlelpgnmmbbfaaaPvDraw2
namespace Go.Pv
open Go
set_option linter.all false

section
variable {P : Program} {T : Tab}

/-- what the trace says of the blocks -/
structure Facts (P : Program) (T : Tab) (all : Array Oper) (rs : List Rec) (st : St) (nx nxf : Nat) : Prop where
  len : rs.length = all.size
  old : ∀ b, lkS st b ≠ none → b < nx
  ids : ∀ (i : Nat) (r : Rec), rs[i]? = some r → r.big = true → r.id = nxAt rs nx i ∧ nx ≤ r.id ∧ r.id + 32 ≤ nxf
  small : ∀ (i : Nat) (r : Rec), rs[i]? = some r → r.big = false → r.δ = []
  cls : ∀ (i : Nat) (o : Oper) (r : Rec), all[i]? = some o → rs[i]? = some r → r.big = true → (clsO T o.op = 1 ∧ (∃ x, r.δ = [(r.id, some x)]) ∧ r.lk = noLk) ∨ (clsO T o.op = 2 ∧ (∀ b, keysD r.δ b → b < r.id + 32) ∧ r.lk = lkS (stAt rs st i))
  looks : ∀ (i : Nat) (o : Oper) (r : Rec), all[i]? = some o → rs[i]? = some r → r.wb = true → ∀ b x, r.lk b = some x → lkS (stAt rs st i) b = some x ∧ (clsO T o.op = 2 ∨ clsO T o.op = 3) ∧
    (clsO T o.op = 3 → ∀ (k : Nat) (rk : Rec) (ok : Oper), k < i → rs[k]? = some rk → all[k]? = some ok → rk.big = true → clsO T ok.op = 1 → rk.id = b → ∃ m om, k < m ∧ m < i ∧ all[m]? = some om ∧ clsO T om.op = 2)

theorem ids_lt {rs : List Rec} {nx i k : Nat} {r r' : Rec} (hik : i < k) (hr : rs[i]? = some r) (hb : r.big = true) (h : r.id = nxAt rs nx i) (h' : r'.id = nxAt rs nx k) : r.id + 32 ≤ r'.id := by
  have h1 := nxAt_succ rs nx i r hr
  rw [hb] at h1
  have h2 := nxAt_mono (rs := rs) (n := nx) (show i + 1 ≤ k by omega)
  rw [h1] at h2
  simp only [bump] at h2
  omega

theorem keys_below {P : Program} {T : Tab} {all : Array Oper} : ∀ (l : List Oper) (rs : List Rec) {p : List PV} {st : St} {nx : Nat} {pend : List Nat} {f : List PV} {stf : St} {nxf : Nat}, ChD P T all l rs p st nx pend f stf nxf → (∀ b, lkS st b ≠ none → b < nx) → ∀ i b, lkS (stAt rs st i) b ≠ none → b < nxAt rs nx i
  | l, rs, _, _, _, _, _, _, _, _, h0, 0, b, hb => by simp only [stAt, nxAt] at hb ⊢; exact h0 b hb
  | [], [], _, _, _, _, _, _, _, _, h0, i + 1, b, hb => h0 b hb
  | o :: l, r :: rs, _, st, nx, _, _, _, _, h, h0, i + 1, b, hb => by
    simp only [stAt, nxAt] at hb ⊢
    refine keys_below l rs h.2 (fun c hc => ?_) i b hb
    rw [lk_applyD] at hc
    rcases h.1.cls with ⟨h1, h2, _⟩ | ⟨_, h1, h2, _, ⟨x, h3⟩, _⟩ | ⟨_, h1, h2, _, h3, _⟩
    · rw [h2] at hc
      rw [h1]; exact h0 c hc
    · rw [h1]
      rw [h3] at hc
      simp only [lastD, bump] at hc ⊢
      by_cases hn : nx = c
      · omega
      · rw [if_neg hn] at hc
        have := h0 c hc; omega
    · rw [h1]
      simp only [bump]
      by_cases hl : lastD r.δ c = none
      · rw [hl] at hc; have := h0 c hc; omega
      · exact h3 c (lastD_keys _ _ hl)
  | [], _ :: _, _, _, _, _, _, _, _, h, _, _, _, _ => h.elim
  | _ :: _, [], _, _, _, _, _, _, _, h, _, _, _, _ => h.elim

theorem pend_spec {P : Program} {T : Tab} {all : Array Oper} : ∀ (l : List Oper) (rs : List Rec) {p : List PV} {st : St} {nx : Nat} {pend : List Nat} {f : List PV} {stf : St} {nxf : Nat}, ChD P T all l rs p st nx pend f stf nxf →
    ∀ i, (∀ k rk ok, k < i → rs[k]? = some rk → l[k]? = some ok → rk.big = true → clsO T ok.op = 1 → rk.id ∈ pendAt T l rs pend i ∨ ∃ m om, k < m ∧ m < i ∧ l[m]? = some om ∧ clsO T om.op = 2) ∧
      (∀ b, b ∈ pend → b ∈ pendAt T l rs pend i ∨ ∃ m om, m < i ∧ l[m]? = some om ∧ clsO T om.op = 2)
  | l, rs, _, _, _, _, _, _, _, _, 0 => by simp only [pendAt]; exact ⟨fun k rk ok h => by omega, fun b hb => .inl hb⟩
  | [], [], _, _, _, _, _, _, _, _, i + 1 => ⟨fun k rk ok _ h => by simp at h, fun b hb => .inl hb⟩
  | o :: l, r :: rs, _, _, _, pend, _, _, _, h, i + 1 => by
    obtain ⟨h1, h2⟩ := pend_spec l rs h.2 i
    simp only [pendAt]
    have lift : (∃ m om, m < i ∧ l[m]? = some om ∧ clsO T om.op = 2) → ∃ m om, 0 < m ∧ m < i + 1 ∧ (o :: l)[m]? = some om ∧ clsO T om.op = 2 := by
      rintro ⟨m, om, h3, h4, h5⟩
      exact ⟨m + 1, om, by omega, by omega, by simpa using h4, h5⟩
    have two : clsO T o.op = 2 → ∃ m om, m < i + 1 ∧ (o :: l)[m]? = some om ∧ clsO T om.op = 2 := fun h => ⟨0, o, by omega, rfl, h⟩
    refine ⟨fun k rk ok hk hr ho hb hc => ?_, fun b hb => ?_⟩
    · cases k with
      | zero =>
        simp at hr ho; subst hr; subst ho
        have hm : r.id ∈ pendN T o r pend := by
          unfold pendN; rw [hb]; simp [hc]
        rcases h2 r.id hm with h3 | h3
        · exact .inl h3
        · exact .inr (lift h3)
      | succ k =>
        rcases h1 k rk ok (by omega) (by simpa using hr) (by simpa using ho) hb hc with h3 | ⟨m, om, h3, h4, h5, h6⟩
        · exact .inl h3
        · exact .inr ⟨m + 1, om, by omega, by omega, by simpa using h5, h6⟩
    · by_cases hp : b ∈ pendN T o r pend
      · rcases h2 b hp with h3 | h3
        · exact .inl h3
        · obtain ⟨m, om, _, h4, h5, h6⟩ := lift h3
          exact .inr ⟨m, om, h4, h5, h6⟩
      · refine .inr (two ?_)
        rcases h.1.cls with ⟨h3, _⟩ | ⟨_, h3, _, h4, _⟩ | ⟨_, h3, _, h4, _⟩
        · exfalso; apply hp; unfold pendN; rw [h3]; exact hb
        · exfalso; apply hp; unfold pendN; rw [h3]; simp [h4, hb]
        · exact h4
  | [], _ :: _, _, _, _, _, _, _, _, h, _ => h.elim
  | _ :: _, [], _, _, _, _, _, _, _, h, _ => h.elim

theorem facts_of {all : Array Oper} {rs : List Rec} {p : List PV} {st : St} {nx : Nat} {f : List PV} {stf : St} {nxf : Nat} (h : ChD P T all all.toList rs p st nx [] f stf nxf) (h0 : ∀ b, lkS st b ≠ none → b < nx) : Facts P T all rs st nx nxf := by
  have hl := (ChD.len _ _ h).1
  have hnf := (ChD.fin _ _ h).2
  have get : ∀ i r, rs[i]? = some r → ∃ o q, all[i]? = some o ∧ StepOK P T all o r q (stAt rs st i) (nxAt rs nx i) (pendAt T all.toList rs [] i) := by
    intro i r hr
    have hlt : i < rs.length := by
      by_cases hh : i < rs.length
      · exact hh
      · rw [List.getElem?_eq_none (Nat.le_of_not_lt hh)] at hr; cases hr
    have hlt' : i < all.toList.length := by omega
    obtain ⟨r', q, a0, _, a2, _⟩ := ChD.get _ _ h i _ (List.getElem?_eq_getElem hlt')
    rw [hr] at a0; cases a0
    exact ⟨_, q, by rw [← Array.getElem?_toList]; exact List.getElem?_eq_getElem hlt', a2⟩
  refine ⟨by simpa using hl, h0, fun i r hr hb => ?_, fun i r hr hb => ?_, fun i o r ho hr hb => ?_, fun i o r ho hr hw b x hb => ?_⟩
  · obtain ⟨o, q, _, hs⟩ := get i r hr
    have hid : r.id = nxAt rs nx i := by
      rcases hs.cls with ⟨h1, _⟩ | ⟨_, _, h1, _⟩ | ⟨_, _, h1, _⟩
      · rw [hb] at h1; cases h1
      · exact h1
      · exact h1
    refine ⟨hid, by rw [hid]; exact nxAt_start _ _ _, ?_⟩
    have hlt : i < rs.length := by
      by_cases hh : i < rs.length
      · exact hh
      · rw [List.getElem?_eq_none (Nat.le_of_not_lt hh)] at hr; cases hr
    have h2 := nxAt_mono (rs := rs) (n := nx) (show i + 1 ≤ rs.length by omega)
    rw [nxAt_succ _ _ _ _ hr, hb, ← hnf] at h2
    simp only [bump] at h2
    omega
  · obtain ⟨o, q, _, hs⟩ := get i r hr
    rcases hs.cls with ⟨_, h1, _⟩ | ⟨_, h1, _⟩ | ⟨_, h1, _⟩
    · exact h1
    · rw [hb] at h1; cases h1
    · rw [hb] at h1; cases h1
  · obtain ⟨o', q, ho', hs⟩ := get i r hr
    rw [ho] at ho'; cases ho'
    rcases hs.cls with ⟨h1, _⟩ | ⟨_, _, h1, h2, ⟨x, h3⟩, h4⟩ | ⟨_, _, h1, h2, h3, h4⟩
    · rw [hb] at h1; cases h1
    · exact .inl ⟨h2, ⟨x, by rw [h3, h1]⟩, h4⟩
    · exact .inr ⟨h2, by rw [h1]; exact h3, h4⟩
  · obtain ⟨o', q, ho', hs⟩ := get i r hr
    rw [ho] at ho'; cases ho'
    rcases hs.cls with ⟨_, _, h3⟩ | ⟨_, _, _, _, _, h4⟩ | ⟨_, _, _, h2, _, h4⟩
    · obtain ⟨c1, c2, c3⟩ := h3 hw b x hb
      refine ⟨c3, .inr c1, fun _ k rk ok hk hrk hok hbk hck hid => ?_⟩
      rcases (pend_spec _ _ h i).1 k rk ok hk hrk (by simpa using hok) hbk hck with h5 | ⟨m, om, h5, h6, h7, h8⟩
      · rw [hid] at h5; exact absurd h5 c2
      · exact ⟨m, om, h5, h6, by simpa using h7, h8⟩
    · rw [h4] at hb; cases hb
    · rw [h4] at hb
      exact ⟨hb, .inl h2, fun h => by rw [h2] at h; cases h⟩

theorem lenNs0_eq : ∀ l : List Oper, lenNs0 l = l.length
  | [] => rfl
  | _ :: l => by simp [lenNs0, lenNs0_eq l]
theorem allIn_spec {l : List Nat} : ∀ n, allIn l n = true → ∀ k, k < n → k ∈ l
  | 0, _, k, h => by omega
  | n + 1, h, k, hk => by
    simp only [allIn, Bool.and_eq_true] at h
    rcases Nat.lt_or_ge k n with h' | h'
    · exact allIn_spec n h.2 k h'
    · rw [show k = n by omega]; exact (hasN_iff _ _).1 h.1
/-- all stand before the last -/
theorem lastOK_spec {all : Array Oper} (h : lastOK all = true) {i k : Nat} (hi : i + 1 = all.size) (hk : k < i) : Bef all k i := by
  unfold lastOK at h
  split at h
  · cases h
  · rename_i o l e
    have hl : l.length = i := by
      have : all.toList.length = i + 1 := by simpa using hi.symm
      rw [e] at this; simpa using this
    rw [lenNs0_eq, hl] at h
    exact befs_sound all.toList [] (fun k o h => by simpa using h) (fun i b hb => by simp [getLL] at hb) i k (allIn_spec _ h _ hk)
theorem FinD.get {all : Array Oper} {K : Env → Prop} : ∀ (l : List Oper) (rs : List Rec) {st : St} {f : List PV} {stf : St} {nxf : Nat}, FinD P T all K l rs st f stf nxf → (∀ (i : Nat) (r : Rec), rs[i]? = some r → r.nd = false) ∧ K ⟨f, stf, nxf⟩ ∨
    ∃ (i : Nat) (o : Oper) (r : Rec), i + 1 = l.length ∧ i + 1 = rs.length ∧ l[i]? = some o ∧ rs[i]? = some r ∧ r.nd = true ∧ (∀ (k : Nat) (r' : Rec), k ≠ i → rs[k]? = some r' → r'.nd = false) ∧ lastOK all = true ∧ nxf = r.id + 32 ∧
      opE T (Sig.std P T) o.op r.er (lkS (stAt rs st i)) r.id (fun v δ => bif ltD (r.id + 32) δ then K ⟨putT r.er o.dst v, applyD δ (stAt rs st i), r.id + 32⟩ else False)
  | [], [], _, _, _, _, h => .inl ⟨fun i r h => by simp at h, h⟩
  | [], r :: rs, _, _, _, _, h => h.elim
  | o :: l, [], _, _, _, _, h => h.elim
  | o :: l, r :: rs, st, f, stf, nxf, h => by
    cases hn : r.nd with
    | true =>
      obtain ⟨rfl, rfl, h1, h2, h3⟩ := h.1 hn
      exact .inr ⟨0, o, r, rfl, rfl, rfl, rfl, hn, fun k r' hk hr => by cases k with | zero => exact absurd rfl hk | succ k => simp at hr, h1, h2, h3⟩
    | false =>
      rcases FinD.get l rs (h.2 hn) with ⟨h1, h2⟩ | ⟨i, o', r', a1, a2, a3, a4, a5, a6, a7, a8, a9⟩
      · exact .inl ⟨fun i r' hr => by cases i with | zero => simp at hr; rw [← hr]; exact hn | succ i => exact h1 i r' (by simpa using hr), h2⟩
      · exact .inr ⟨i + 1, o', r', by simp [a1], by simp [a2], by simpa using a3, by simpa using a4, a5, fun k r2 hk hr => by cases k with | zero => simp at hr; rw [← hr]; exact hn | succ k => exact a6 k r2 (by omega) (by simpa using hr), a7, a8, by simpa [stAt] using a9⟩

/-- what holds while the operations of a set are done -/
def Stage {T : Tab} (C : Ctx T) (all : Array Oper) (rs : List Rec) (st : St) (n : Nat) (p f : List PV) (listed : Array Bool) (a : Act) (w : World) : Prop :=
  a.defers = [] ∧ ∃ Y σ ps stx, SW C w Y σ ps a.tmps.toList stx n ∧ ps.length = p.length ∧
    (∀ j o t, all[j]? = some o → o.dst = some t → listed.getD j true = true → Eqv (getL ps t) (getL f t)) ∧
    (∀ t, (∀ j o, all[j]? = some o → o.dst = some t → listed.getD j true = false) → Eqv (getL ps t) (getL p t)) ∧
    (∀ b, lkS stx b = orS st b (lst rs (fun k => listed.getD k true) 0 b)) ∧
    (∀ j r, rs[j]? = some r → listed.getD j true = false → r.big = true → ∀ b, r.id ≤ b → b < r.id + 32 → σ b = none)

theorem stage_step (hT : TabOK P T) (hW : PWf P) {KE : Env → Prop} {C : Ctx T} {all : Array Oper} {rs : List Rec} {st : St} {nx n : Nat} {p f : List PV} {stf : St} (hchk : drawOK T all = true) (hch : ChD P T all all.toList rs p st nx [] f stf n) (hF : Facts P T all rs st nx n) (hpas : T.pas ≤ nx) {listed : Array Bool} {a : Act} {w : World}
    (hsz : listed.size = all.size) (hclosed : ∀ j o, all[j]? = some o → listed.getD j true = true → ∀ e ∈ o.after, Region.binds .any e = true → listed.getD e.on true = true)
    (hkeys : ∀ i b, lkS (stAt rs st i) b ≠ none → b < nxAt rs nx i)
    (hs : Stage C all rs st n p f listed a w) {i : Nat} (hr : i ∈ Region.ready .any all listed) {Q : Exit → Act → World → Prop} {K : Act → World → Prop}
    (hND : ∀ o r, all[i]? = some o → rs[i]? = some r → r.nd = true → i + 1 = all.size ∧ lastOK all = true ∧ n = r.id + 32 ∧ opE T (Sig.std P T) o.op r.er (lkS (stAt rs st i)) r.id (fun v δ => bif ltD (r.id + 32) δ then KE ⟨putT r.er o.dst v, applyD δ (stAt rs st i), r.id + 32⟩ else False))
    (hEnd : ∀ a' w' E, (∀ k, (listed.setIfInBounds i true).getD k true = true) → ActRep C E a' w' → KE E → K a' w')
    (hK : (∀ r, rs[i]? = some r → r.nd = false) → ∀ a' w', Stage C all rs st n p f (listed.setIfInBounds i true) a' w' → K a' w') : wpOp P all Q i K a w := by
  obtain ⟨hun, o, ho, hall⟩ := mem_ready.1 hr
  obtain ⟨hd, Y, σ, ps, stx, H, hlen, hdone, hrest, hst, hfree⟩ := hs
  have hL : all.toList[i]? = some o := by simpa using ho
  have hilt : i < listed.size := by
    rcases Nat.lt_or_ge i listed.size with h | h
    · exact h
    · simp [Array.getElem?_eq_none h] at hun
  obtain ⟨r, q, hri, qlen, hS, h6, h7, h8⟩ := hch.get _ _ i o hL
  have hspec := drawOK_spec hchk ho
  have flen := (hch.len _ _).2
  have hall' : ∀ e ∈ o.after, Region.binds .any e = true → listed.getD e.on true = true := by
    intro e he hb
    have := hall e he hb
    rcases Nat.lt_or_ge e.on listed.size with h | h
    · simp [h] at this ⊢; exact this
    · simp [Array.getElem?_eq_none h]
  have befIn : ∀ k, Bef all k i → listed.getD k true = true := fun k h => h.ready hclosed o ho hall'
  have befOut : ∀ k, Bef all i k → listed.getD k true = false := fun k h => by
    cases hk : listed.getD k true with
    | false => rfl
    | true => have := h.listed hclosed hk; rw [hun] at this; cases this
  -- what is looked at is right
  have look0 : ∀ t ∈ o.looksAt all, Eqv (getL ps t) (getL q t) := by
    intro t ht
    by_cases hex : ∃ j pj, all[j]? = some pj ∧ j ≠ i ∧ pj.dst = some t
    · obtain ⟨j, pj, hj, hne, hdst⟩ := hex
      obtain ⟨hdd, hor⟩ := hspec.2 j pj hj hne t hdst
      have uniq : ∀ k pk, all[k]? = some pk → pk.dst = some t → k = j := by
        intro k pk hk hkd
        by_cases hkj : k = j
        · exact hkj
        · exact absurd hkd ((drawOK_spec hchk hk).2 j pj hj (Ne.symm hkj) t hdst).1
      rcases hor ht with ⟨e, he, hb, heq⟩ | ⟨e, he, hb, heq⟩
      · have hlj : listed.getD j true = true := by
          have := hall' e he hb
          rwa [heq] at this
        have hji : j < i := by rw [← heq]; exact hspec.1 e he hb
        have hf := hdone j pj t hj hdst hlj
        have := h7 t fun k pk hk hpk hkd => by
          have := uniq k pk (by simpa using hpk) hkd
          omega
        exact hf.trans this.symm
      · have hij : i < j := by rw [← heq]; exact (drawOK_spec hchk hj).1 e he hb
        have hju : listed.getD j true = false := by
          cases hlj : listed.getD j true with
          | false => rfl
          | true =>
            have := hclosed j pj hj hlj e he hb
            rw [heq, hun] at this; cases this
        have hp := hrest t fun k pk hk hkd => by
          rw [uniq k pk hk hkd]; exact hju
        have := h6 t fun k pk hk hpk hkd => by
          have := uniq k pk (by simpa using hpk) hkd
          omega
        exact hp.trans this
    · have hp := hrest t fun k pk hk hkd => by
        by_cases hki : k = i
        · rw [hki]; exact hun
        · exact absurd ⟨k, pk, hk, hki, hkd⟩ hex
      have := h6 t fun k pk hk hpk hkd => hex ⟨k, pk, by simpa using hpk, by omega, hkd⟩
      exact hp.trans this
  have look : ∀ t ∈ o.looksAt all, Eqv (getL ps t) (getL r.e1 t) ∧ Eqv (getL ps t) (getL r.er t) := fun t ht => ⟨(look0 t ht).trans (hS.e1.2 t), (look0 t ht).trans (hS.er.2 t)⟩
  -- operations that touch the same block
  have big_of : ∀ (k : Nat) (rk : Rec), rs[k]? = some rk → ∀ b, lastD rk.δ b ≠ none → rk.big = true := by
    intro k rk hrk b hb
    cases hbig : rk.big with
    | true => rfl
    | false => rw [hF.small k rk hrk hbig] at hb; exact absurd rfl hb
  have oper : ∀ (k : Nat) (rk : Rec), rs[k]? = some rk → ∃ ok, all[k]? = some ok := by
    intro k rk hrk
    have : k < all.size := by
      rw [← hF.len]
      by_cases hh : k < rs.length
      · exact hh
      · rw [List.getElem?_eq_none (Nat.le_of_not_lt hh)] at hrk; cases hrk
    exact ⟨_, Array.getElem?_eq_getElem this⟩
  -- the blocks that are looked at are as in the text
  have hlk : r.wb = true → ∀ b x, r.lk b = some x → lkS stx b = some x := by
    intro hw b x hb
    obtain ⟨c1, c2, c3⟩ := hF.looks i o r ho hri hw b x hb
    rw [hst b, ← c1, lk_stAt rs st i 0 b]
    congr 1
    refine lst_agree _ _ _ _ _ fun k rk hrk hkb => ?_
    rw [Nat.zero_add, Nat.zero_add]
    have hbig := big_of k rk hrk b hkb
    obtain ⟨ok, hok⟩ := oper k rk hrk
    rcases Nat.lt_trichotomy k i with hki | hki | hki
    · simp only [hki, decide_true]
      rcases hF.cls k ok rk hok hrk hbig with ⟨d1, ⟨y, d2⟩, _⟩ | ⟨d1, d2, _⟩
      · have hidb : rk.id = b := by
          rw [d2] at hkb
          simp only [lastD] at hkb
          by_cases hh : rk.id = b
          · exact hh
          · rw [if_neg hh] at hkb; exact absurd rfl hkb
        rcases c2 with c2 | c2
        · exact befIn k (clash_bef hchk hki hok ho (by rw [d1, c2]; rfl))
        · obtain ⟨m, om, e1, e2, e3, e4⟩ := c3 c2 k rk ok hki hrk hok hbig d1 hidb
          exact befIn k (.trans (clash_bef hchk e1 hok e3 (by rw [d1, e4]; rfl)) (clash_bef hchk e2 e3 ho (by rw [c2, e4]; rfl)))
      · exact befIn k (clash_bef hchk hki hok ho (by rw [d1]; rcases c2 with c2 | c2 <;> rw [c2] <;> rfl))
    · subst hki
      simp only [Nat.lt_irrefl, decide_false]
      exact hun
    · have : ¬ k < i := by omega
      simp only [this, decide_false]
      rcases hF.cls k ok rk hok hrk hbig with ⟨d1, ⟨y, d2⟩, _⟩ | ⟨d1, d2, _⟩
      · have hidb : rk.id = b := by
          rw [d2] at hkb
          simp only [lastD] at hkb
          by_cases hh : rk.id = b
          · exact hh
          · rw [if_neg hh] at hkb; exact absurd rfl hkb
        have h1 := hkeys i b (by rw [c1]; simp)
        have h2 := (hF.ids k rk hrk hbig).1
        have h3 := nxAt_mono (rs := rs) (n := nx) (show i ≤ k by omega)
        omega
      · exact befOut k (clash_bef hchk hki ho hok (by rw [d1]; rcases c2 with c2 | c2 <;> rw [c2] <;> rfl))
  -- the blocks after the operation
  have lastOut : ∀ b, lastD r.δ b ≠ none → ∀ (k : Nat) (rk : Rec), i < k → rs[k]? = some rk → listed.getD k true = true → lastD rk.δ b = none := by
    intro b hb k rk hik hrk hlk
    by_cases hkb : lastD rk.δ b = none
    · exact hkb
    · exfalso
      have hbi := big_of i r hri b hb
      have hbk := big_of k rk hrk b hkb
      obtain ⟨ok, hok⟩ := oper k rk hrk
      have no : clash (clsO T o.op) (clsO T ok.op) = true → False := fun hc => by
        have := befOut k (clash_bef hchk hik ho hok hc)
        rw [hlk] at this; cases this
      rcases hF.cls i o r ho hri hbi with ⟨d1, ⟨y, d2⟩, _⟩ | ⟨d1, d2, _⟩
      · rcases hF.cls k ok rk hok hrk hbk with ⟨g1, ⟨z, g2⟩, _⟩ | ⟨g1, _⟩
        · have e1 : r.id = b := by
            rw [d2] at hb; simp only [lastD] at hb
            by_cases hh : r.id = b
            · exact hh
            · rw [if_neg hh] at hb; exact absurd rfl hb
          have e2 : rk.id = b := by
            rw [g2] at hkb; simp only [lastD] at hkb
            by_cases hh : rk.id = b
            · exact hh
            · rw [if_neg hh] at hkb; exact absurd rfl hkb
          have := ids_lt hik hri hbi (hF.ids i r hri hbi).1 (hF.ids k rk hrk hbk).1
          omega
        · exact no (by rw [d1, g1]; rfl)
      · rcases hF.cls k ok rk hok hrk hbk with ⟨g1, ⟨z, g2⟩, _⟩ | ⟨g1, _⟩
        · have e2 : rk.id = b := by
            rw [g2] at hkb; simp only [lastD] at hkb
            by_cases hh : rk.id = b
            · exact hh
            · rw [if_neg hh] at hkb; exact absurd rfl hkb
          have h1 := d2 b (lastD_keys _ _ hb)
          have := ids_lt hik hri hbi (hF.ids i r hri hbi).1 (hF.ids k rk hrk hbk).1
          omega
        · exact no (by rw [d1, g1]; rfl)
  have setD : ∀ k, (listed.setIfInBounds i true).getD k true = (if k = i then true else listed.getD k true) := by
    intro k
    by_cases hki : k = i
    · subst hki; simp [hilt]
    · rw [if_neg hki]; exact getD_set_ne true (Ne.symm hki)
  have newSt : ∀ stn : St, (∀ b, lkS stn b = (match lastD r.δ b with | some x => x | none => lkS stx b)) → ∀ b, lkS stn b = orS st b (lst rs (fun k => (listed.setIfInBounds i true).getD k true) 0 b) := by
    intro stn hstn b
    rw [hstn b]
    cases hb : lastD r.δ b with
    | none =>
      rw [hst b]
      congr 1
      refine lst_agree _ _ _ _ _ fun k rk hrk hkb => ?_
      rw [Nat.zero_add, setD]
      by_cases hki : k = i
      · subst hki; rw [hri] at hrk; cases hrk; exact absurd hb hkb
      · rw [if_neg hki]
    | some x =>
      rw [lst_last rs _ 0 i b r x hri (by rw [Nat.zero_add, setD, if_pos rfl]) hb fun k rk hik hrk hlk => ?_]
      · rfl
      · rw [Nat.zero_add, setD, if_neg (by omega)] at hlk
        exact lastOut b (by rw [hb]; simp) k rk hik hrk hlk
  -- the stage after a result
  have after : r.nd = false → ∀ cv w' Y' σ' qs stn, EqvL ps qs → SW C w' Y' σ' qs a.tmps.toList stn n → (∀ b, lkS stn b = (match lastD r.δ b with | some x => x | none => lkS stx b)) → (∀ (j : Nat) (rj : Rec), j ≠ i → rs[j]? = some rj → rj.big = true → ∀ b, rj.id ≤ b → b < rj.id + 32 → σ b = none → σ' b = none) → Rep w' Y' σ' r.v cv → K (a.put o.dst cv) w' := by
    intro hnd0 cv w' Y' σ' qs stn hq H' hstn hfr hv
    refine hK (fun r' hr' => by rw [hri] at hr'; cases hr'; exact hnd0) _ _ ⟨by rw [put_defers]; exact hd, Y', σ', putT qs o.dst r.v, stn, H'.putT hv o.dst, by rw [putT_length, ← hq.1, hlen], ?_, ?_, newSt stn hstn, ?_⟩
    · intro j oj t hj hdst hlj
      rw [set_listed hun] at hlj
      by_cases hji : j = i
      · subst hji
        rw [ho] at hj; cases hj
        by_cases hlt : t < qs.length
        · rw [hdst]
          simp only [putT, getL_setL]
          rw [if_pos ⟨trivial, hlt⟩]
          refine h8 t hdst (by rw [← hlen, hq.1]; exact hlt) fun k pk hk hpk hkd => ?_
          exact absurd hdst ((drawOK_spec hchk ho).2 k pk (by simpa using hpk) (by omega) t hkd).1
        · rw [getL_ge (by rw [putT_length]; exact Nat.le_of_not_lt hlt), getL_ge (by rw [flen, ← hlen, hq.1]; exact Nat.le_of_not_lt hlt)]; exact Eqv.refl _
      · have hne := (hspec.2 j oj hj hji t hdst).1
        rw [putT_ne hne]
        rcases hlj with h | h
        · exact absurd h hji
        · exact (hq.2 t).symm.trans (hdone j oj t hj hdst h)
    · intro t ht
      have hne : o.dst ≠ some t := fun e => by
        have := ht i o ho e
        rw [(set_listed hun).2 (.inl rfl)] at this; cases this
      rw [putT_ne hne]
      refine (hq.2 t).symm.trans (hrest t fun k pk hk hkd => ?_)
      have := ht k pk hk hkd
      cases hlk : listed.getD k true with
      | false => rfl
      | true => rw [(set_listed hun).2 (.inr hlk)] at this; cases this
    · intro j rj hrj hlj hbj
      rw [setD] at hlj
      by_cases hji : j = i
      · rw [if_pos hji] at hlj; cases hlj
      · rw [if_neg hji] at hlj
        exact fun b hb1 hb2 => hfr j rj hji hrj hbj b hb1 hb2 (hfree j rj hrj hlj hbj b hb1 hb2)
  have q1 := patch_eqv (sl := o.looksAt all) (er := r.e1) (ps := ps) fun t ht => (look t ht).1
  have q2 := patch_eqv (sl := o.looksAt all) (er := r.er) (ps := ps) fun t ht => (look t ht).2
  have l1 : r.e1.length = ps.length := by rw [← hS.e1.1, hlen]; assumption
  have l2 : r.er.length = ps.length := by rw [← hS.er.1, hlen]; assumption
  have hwb := hS.gd C _ Y σ a w stx n (patch_looks l1) (H.vals' (H.vals.eqv q1)) hd
  unfold wpOp
  simp only [ho]
  cases hw : r.wb with
  | true =>
    rw [hw] at hwb
    rw [if_pos hwb]
    cases hnd : r.nd with
    | true =>
      obtain ⟨g1, g2, g3, g4⟩ := hND o r ho hri hnd
      have hoth : ∀ k, k ≠ i → listed.getD k true = true := fun k hk => by
        rcases Nat.lt_or_ge k i with h | h
        · exact befIn k (lastOK_spec g2 g1 h)
        · have : listed[k]? = none := Array.getElem?_eq_none (by omega)
          simp [this]
      have hq : EqvL ps q := ⟨by rw [hlen]; exact qlen.symm, fun t => by
        by_cases hex : ∃ j pj, all[j]? = some pj ∧ j ≠ i ∧ pj.dst = some t
        · obtain ⟨j, pj, hj, hne, hdst⟩ := hex
          have hf := hdone j pj t hj hdst (hoth j hne)
          have := h7 t fun k pk hk hpk hkd => by
            have hki : k = i := by
              have : k < all.size := by
                by_cases hh : k < all.size
                · exact hh
                · rw [Array.getElem?_toList, Array.getElem?_eq_none (Nat.le_of_not_lt hh)] at hpk; cases hpk
              omega
            subst hki
            rw [hL] at hpk; cases hpk
            exact (hspec.2 j pj hj hne t hdst).1 hkd
          exact hf.trans this.symm
        · have hp := hrest t fun k pk hk hkd => by
            by_cases hki : k = i
            · rw [hki]; exact hun
            · exact absurd ⟨k, pk, hk, hki, hkd⟩ hex
          have := h6 t fun k pk hk hpk hkd => hex ⟨k, pk, by simpa using hpk, by omega, hkd⟩
          exact hp.trans this⟩
      have H1 : SW C w Y σ r.er a.tmps.toList (stAt rs st i) n := (H.vals' (H.vals.eqv (hq.trans hS.er))).ext fun b x hb => by
        rw [hst b, ← hb, lk_stAt rs st i 0 b]
        congr 1
        refine lst_agree _ _ _ _ _ fun k rk hrk _ => ?_
        rw [Nat.zero_add, Nat.zero_add]
        by_cases hki : k = i
        · subst hki; rw [hun]; simp
        · rw [hoth k hki]
          have : k < all.size := by
            rw [← hF.len]
            by_cases hh : k < rs.length
            · exact hh
            · rw [List.getElem?_eq_none (Nat.le_of_not_lt hh)] at hrk; cases hrk
          simp; omega
      have hb := (hS.ndw hnd).2
      obtain ⟨i1, i2, i3⟩ := hF.ids i r hri hb
      obtain ⟨v', δ', cv, w', Y', σ', hk, hrun, H', hv, hoff⟩ := opE_res hT hW H1 (fun b x h => h) ⟨hfree i r hri hun hb r.id (Nat.le_refl _) (by omega), Nat.le_trans hpas i2⟩ g4
      cases hlt : ltD (r.id + 32) δ' with
      | false => rw [hlt] at hk; exact hk.elim
      | true =>
        rw [hlt] at hk
        have hn : nextI δ' n r.id ≤ n := by cases δ' <;> simp [nextI] <;> omega
        have := hEnd (a.put o.dst cv) w' _ (fun k => by
          rw [setD]; by_cases hki : k = i
          · rw [if_pos hki]
          · rw [if_neg hki]; exact hoth k hki) ⟨⟨Y', σ', by rw [← g3]; exact (H'.mono hn).putT hv o.dst⟩, by rw [put_defers]; exact hd⟩ hk
        refine .inl ?_
        unfold Oper.wp
        rcases hrun with hrun | ⟨hrun, rfl⟩
        · rw [hrun]; exact this
        · rw [hrun]; exact this
    | false =>
    refine .inl (hS.sem hw hnd C _ Y σ a w stx n (patch_looks l2) (H.vals' (H.vals.eqv q2)) hd (hlk hw) (fun hb => ?_) K Q fun cv w' Y' σ' H' hoff hsame hv => ?_)
    · obtain ⟨g1, g2, g3⟩ := hF.ids i r hri hb
      exact ⟨hfree i r hri hun hb, Nat.le_trans hpas g2, g3⟩
    · refine after hnd cv w' Y' σ' _ _ q2 H' (fun b => lk_applyD _ _ _) (fun j rj hji hrj hbj b hb1 hb2 hn => ?_) hv
      cases hb : r.big with
      | false => rw [hsame hb]; exact hn
      | true =>
        rw [hoff _ ?_]; · exact hn
        have e1 := (hF.ids i r hri hb).1
        have e2 := (hF.ids j rj hrj hbj).1
        rcases Nat.lt_or_ge i j with hij | hij
        · have := ids_lt hij hri hb e1 e2; omega
        · have := ids_lt (show j < i by omega) hrj hbj e2 e1; omega
  | false =>
    rw [hw] at hwb
    rw [if_neg (by rw [hwb]; simp)]
    have hδ : r.δ = [] := by
      rcases hS.cls with ⟨_, h, _⟩ | ⟨h, _⟩ | ⟨h, _⟩
      · exact h
      · rw [hw] at h; cases h
      · rw [hw] at h; cases h
    refine after (by cases h : r.nd with | false => rfl | true => rw [(hS.ndw h).1] at hw; cases hw) _ w Y σ ps stx (EqvL.refl _) H (fun b => by rw [hδ]; rfl) (fun _ _ _ _ _ _ _ _ h => h) (by rw [hS.skip hw]; simp [Rep])

theorem ready_nil_all {all : Array Oper} (hchk : drawOK T all = true) {listed : Array Bool} (hsz : listed.size = all.size) (hr : Region.ready .any all listed = []) : ∀ j, listed.getD j true = true := by
  intro j
  induction j using Nat.strongRecOn with
  | _ j ih =>
    cases h : listed.getD j true with
    | true => rfl
    | false =>
      have hlt : j < listed.size := by
        rcases Nat.lt_or_ge j listed.size with h' | h'
        · exact h'
        · simp [Array.getElem?_eq_none h'] at h
      have hj : all[j]? = some all[j] := Array.getElem?_eq_getElem (by omega)
      have : j ∈ Region.ready .any all listed := mem_ready.2 ⟨h, _, hj, fun e he hb => by
        have hlt' := (drawOK_spec hchk hj).1 e he hb
        have := ih e.on hlt'
        have h2 : e.on < listed.size := by omega
        simp [h2] at this ⊢; exact this⟩
      rw [hr] at this; cases this

theorem count_set {listed : Array Bool} {i k : Nat} (hi : listed.getD i true = false) (h : listed.toList.count false = k + 1) : (listed.setIfInBounds i true).toList.count false = k := by
  have hlt : i < listed.size := by
    rcases Nat.lt_or_ge i listed.size with h' | h'
    · exact h'
    · simp [Array.getElem?_eq_none h'] at hi
  have hget : listed[i] = false := by simpa [hlt] using hi
  rw [Array.toList_setIfInBounds, List.count_set (by simpa using hlt)]
  simp [hget, h]


theorem draw_any (hT : TabOK P T) (hW : PWf P) {KE : Env → Prop} {C : Ctx T} {all : Array Oper} {rs : List Rec} {st : St} {nx n : Nat} {p f : List PV} {stf : St} (hchk : drawOK T all = true) (hch : ChD P T all all.toList rs p st nx [] f stf n) (hF : Facts P T all rs st nx n) (hpas : T.pas ≤ nx) (hkeys : ∀ i b, lkS (stAt rs st i) b ≠ none → b < nxAt rs nx i) {Q : Exit → Act → World → Prop}
    (hfin : FinD P T all KE all.toList rs st f stf n)
    (hQ : ∀ E a w, ActRep C E a w → KE E → Q .normal a w) : ∀ (fuel : Nat) (listed : Array Bool) (a : Act) (w : World), listed.size = all.size → listed.toList.count false = fuel →
      (∀ j o, all[j]? = some o → listed.getD j true = true → ∀ e ∈ o.after, Region.binds .any e = true → listed.getD e.on true = true) →
      (∀ (j : Nat) (r : Rec), rs[j]? = some r → r.nd = true → listed.getD j true = false) →
      Stage C all rs st n p f listed a w → wpAny P .any all Q fuel listed a w := by
  have hgetF := hfin.get
  have fin : ∀ (listed : Array Bool) (a : Act) (w : World), listed.size = all.size → (∀ (j : Nat) (r : Rec), rs[j]? = some r → r.nd = true → listed.getD j true = false) → Stage C all rs st n p f listed a w → Region.ready .any all listed = [] → Q .normal a w := by
    intro listed a w hsz hu hs hr
    have hl := ready_nil_all hchk hsz hr
    have hKE : KE ⟨f, stf, n⟩ := by
      rcases hgetF with ⟨_, h⟩ | ⟨i, o, r, _, _, _, h4, h5, _⟩
      · exact h
      · have := hu i r h4 h5; rw [hl i] at this; cases this
    obtain ⟨hd, Y, σ, ps, stx, H, hlen, hdone, hrest, hst, _⟩ := hs
    have H1 : SW C w Y σ f a.tmps.toList stx n := H.vals' (H.vals.eqv ⟨by rw [hlen, (hch.len _ _).2], fun t => ?_⟩)
    · refine hQ _ a w ⟨⟨Y, σ, H1.ext fun b x hb => ?_⟩, hd⟩ hKE
      rw [hst b, ← hb, (hch.fin _ _).1, lk_stAt rs st rs.length 0 b]
      congr 1
      refine lst_agree _ _ _ _ _ fun k rk hrk _ => ?_
      rw [Nat.zero_add, Nat.zero_add, hl k]
      have : k < rs.length := by
        by_cases hh : k < rs.length
        · exact hh
        · rw [List.getElem?_eq_none (Nat.le_of_not_lt hh)] at hrk; cases hrk
      simp [this]
    · by_cases hex : ∃ (j : Nat) (o : Oper), all[j]? = some o ∧ o.dst = some t
      · obtain ⟨j, o, hj, hdst⟩ := hex
        exact hdone j o t hj hdst (hl j)
      · refine (hrest t fun j o hj hdst => absurd ⟨j, o, hj, hdst⟩ hex).trans (hch.keep _ _ fun o ho hdst => ?_)
        obtain ⟨j, hj⟩ := List.getElem?_of_mem ho
        exact hex ⟨j, o, by simpa using hj, hdst⟩
  intro fuel
  induction fuel with
  | zero =>
    intro listed a w hsz hc hclosed hu hs
    have hr : Region.ready .any all listed = [] := by
      rw [List.eq_nil_iff_forall_not_mem]
      intro i hi
      have hun := (mem_ready.1 hi).1
      have hlt : i < listed.size := by
        rcases Nat.lt_or_ge i listed.size with h' | h'
        · exact h'
        · simp [Array.getElem?_eq_none h'] at hun
      have hget : listed[i] = false := by simpa [hlt] using hun
      have hm : false ∈ listed.toList := by rw [← hget]; simp
      exact (List.count_eq_zero.1 hc) hm
    exact ⟨hr, fin listed a w hsz hu hs hr⟩
  | succ fuel ih =>
    intro listed a w hsz hc hclosed hu hs
    refine ⟨fin listed a w hsz hu hs, fun i hi => ?_⟩
    have hun := (mem_ready.1 hi).1
    refine stage_step hT hW (KE := KE) hchk hch hF hpas hsz hclosed hkeys hs hi (fun o r ho hr hn => ?_) (fun a' w' E hall hA hE => ?_) fun hnd a' w' hs' => ih _ a' w' (by simpa using hsz) (count_set hun hc) ?_ (fun j r hj hn => ?_) hs'
    · rcases hgetF with ⟨h, _⟩ | ⟨i', o', r', a1, a2, a3, a4, a5, a6, a7, a8, a9⟩
      · rw [h i r hr] at hn; cases hn
      · have hii : i = i' := by
          by_cases hh : i = i'
          · exact hh
          · rw [a6 i r hh hr] at hn; cases hn
        subst hii
        rw [hr] at a4; cases a4
        rw [Array.getElem?_toList, ho] at a3; cases a3
        exact ⟨by simpa using a1, a7, a8, a9⟩
    · have hrn : Region.ready .any all (listed.setIfInBounds i true) = [] := by
        rw [List.eq_nil_iff_forall_not_mem]
        intro k hk
        have := (mem_ready.1 hk).1
        rw [hall k] at this; cases this
      cases fuel with
      | zero => exact ⟨hrn, hQ E a' w' hA hE⟩
      | succ fuel => exact ⟨fun _ => hQ E a' w' hA hE, fun k hk => by rw [hrn] at hk; cases hk⟩
    rotate_left
    · by_cases hji : j = i
      · subst hji; rw [hnd r hj] at hn; cases hn
      · rw [getD_set_ne true (Ne.symm hji)]; exact hu j r hj hn
    intro j o hj hlj e he hb
    rw [set_listed hun] at hlj ⊢
    rcases hlj with h | h
    · subst h
      obtain ⟨_, o', ho', hall⟩ := mem_ready.1 hi
      rw [hj] at ho'; cases ho'
      have := hall e he hb
      refine .inr ?_
      rcases Nat.lt_or_ge e.on listed.size with h' | h'
      · simp [h'] at this ⊢; exact this
      · simp [Array.getElem?_eq_none h'] at this
    · exact .inr (hclosed j o hj h e he hb)

theorem ltS_spec {n : Nat} : ∀ (st : St), ltS n st = true → ∀ b, lkS st b ≠ none → b < n
  | [], _, b, h => absurd rfl h
  | (c, x) :: st, h, b, hb => by
    simp only [ltS, Bool.and_eq_true, Nat.blt_eq] at h
    simp only [lkS] at hb
    by_cases hc : c = b
    · rw [← hc]; exact h.1
    · rw [beqN hc] at hb; exact ltS_spec st h.2 b hb

theorem draw_sound (hT : TabOK P T) (hW : PWf P) {id : Nat} {l : Array Oper} {E : Env} {K : Env → Prop} (hchk : drawOK T l = true) (hlt : ltS E.next E.st = true) (h : opsD T (Sig.std P T) l l.toList [] E K) :
    ∀ (C : Ctx T) a w, ActRep C E a w → ∀ Q : Exit → Act → World → Prop, (∀ E' a' w', ActRep C E' a' w' → K E' → Q .normal a' w') → (Code.region id l true).wp P Q a w := by
  intro C a w hA Q hQ
  obtain ⟨rs, f, stf, nxf, hch, hK⟩ := opsD_chain hT hW _ _ _ _ h
  obtain ⟨⟨Y, σ, H⟩, hd⟩ := hA
  have hlt := ltS_spec _ hlt
  have hF := facts_of hch hlt
  have hle : E.next ≤ nxf := by rw [(hch.fin _ _).2]; exact nxAt_start _ _ _
  have hrep : ∀ j, j < l.size → (Array.replicate l.size false).getD j true = false := fun j hj => by simp [hj]
  have hno : ∀ j o, l[j]? = some o → (Array.replicate l.size false).getD j true = true → False := by
    intro j o hj hlj
    have hlt : j < l.size := by
      rcases Nat.lt_or_ge j l.size with h' | h'
      · exact h'
      · simp [Array.getElem?_eq_none h'] at hj
    rw [hrep j hlt] at hlj; cases hlj
  refine wp_region_any hW.mixed (draw_any hT hW hchk hch hF H.fix.1 (keys_below _ _ hch hlt) (C := C) hK (fun E a' w' hA' hE => hQ _ a' w' hA' hE) l.size _ a _ (by simp) ?_ ?_ (fun j r hr hn => hrep j ?_) ?_)
  · simp
  · intro j o hj hlj; exact (hno j o hj hlj).elim
  · rw [← hF.len]
    by_cases hh : j < rs.length
    · exact hh
    · rw [List.getElem?_eq_none (Nat.le_of_not_lt hh)] at hr; cases hr
  · refine ⟨hd, Y, σ, E.tmps, E.st, (H.drawn _).mono hle, rfl, ?_, fun t _ => Eqv.refl _, fun b => ?_, fun j r hr _ hb => ?_⟩
    · intro j o t hj hdst hlj; exact (hno j o hj hlj).elim
    · rw [lst_none _ _ _ _ fun k r hr hD => ?_]; · rfl
      rw [Nat.zero_add] at hD
      have : k < l.size := by
        rw [← hF.len]
        by_cases hh : k < rs.length
        · exact hh
        · rw [List.getElem?_eq_none (Nat.le_of_not_lt hh)] at hr; cases hr
      rw [hrep k this] at hD; cases hD
    · exact fun b hb1 _ => H.next b (Nat.le_trans (hF.ids j r hr hb).2.1 hb1)
end
end Go.Pv
