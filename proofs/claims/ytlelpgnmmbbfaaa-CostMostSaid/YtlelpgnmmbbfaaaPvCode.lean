/-
  Pv, part 19: pieces of code do what the interpreter says.
-/
import Derived.Test.YtlelpgnmmbbfaaaPvCan
namespace Go.Pv
open Go
set_option linter.all false

/-- the program is well formed: its types are known down to their parts -/
structure PWf (P : Program) : Prop where
  und : UndOK P
  flds : ∀ t fs, t < P.types.size → P.underlying t = some (.struct fs) → ∀ f ∈ fs.toList, P.info? f.type ≠ none
  elem : ∀ t k e, t < P.types.size → P.underlying t = some (.array k e) → P.info? e ≠ none
  mixed : P.follows .mixedOrders = true

theorem build_ok {T : Tab} {S : Sig} {t : TypeId} {parts : Array (Nat × Operand)} {ps : List PV} {lk : Nat → Option Blk} {id : Nat} {K : PV → Dl → Prop} (h : opE T S (.build t parts) ps lk id K) : (T t).ok = true := by
  simp only [opE] at h
  split at h
  · rename_i e; rw [e]
  · rename_i e; rw [e]
  · exact h.elim

section
variable {P : Program} {T : Tab} (hT : TabOK P T) (hW : PWf P) {C : Ctx T} {o : Oper} {a : Act} {w : World} {Y : Nat → Prop} {σ : Sg} {ps : List PV} {st : St} {n id : Nat} {K : PV → Dl → Prop} {lk : Nat → Option Blk}
  (H : SW C w Y σ ps a.tmps.toList st n) (hlk : ∀ b x, lk b = some x → lkS st b = some x) (hid : σ id = none ∧ T.pas ≤ id)

include hT hW H hlk hid in
theorem opE_res (h : opE T (Sig.std P T) o.op ps lk id K) : Res P C o a w σ ps st n id K := by
  cases ho : o.op with
  | move x => rw [ho] at h; exact op_move H ho h
  | assign x => rw [ho] at h; exact op_assign H ho h
  | pick c x y => rw [ho] at h; exact op_pick H ho h
  | alloc t => rw [ho] at h; exact op_alloc hT H hid ho h
  | box t x => rw [ho] at h; exact op_box H hid ho h
  | build t parts => rw [ho] at h; exact op_build hT H ho (fun fs hu => hW.flds t fs (hT t (build_ok h)).2 hu) (fun k e hu => hW.elem t k e (hT t (build_ok h)).2 hu) h
  | buildSlice t len parts => rw [ho] at h; exact op_buildSlice hT H hlk hid ho h
  | load t x => rw [ho] at h; exact op_load hT H hlk ho h
  | store t x y => rw [ho] at h; exact op_store hT H hlk hid ho h
  | nilCheck x => rw [ho] at h; exact op_nilCheck H ho h
  | binOp op t x y u => rw [ho] at h; exact op_binOp hT H hW.und ho h
  | unOp op t x =>
    rw [ho] at h
    cases op with
    | not => exact op_unNot H ho h
    | neg => exact op_unNeg H ho h
    | _ => exact (by simp [opE] at h)
  | convert s d x => rw [ho] at h; exact op_convert hT H hlk ho h
  | makeFunc fn first cap =>
    rw [ho] at h
    cases fn with
    | func f => exact op_makeFunc H ho h
    | _ => exact (by simp [opE] at h)
  | makeSlice t x y => rw [ho] at h; exact op_makeSlice hT H hid ho h
  | slice t x lo hi mx => rw [ho] at h; exact op_slice hT H hlk ho hid h
  | fieldAddr t x f => rw [ho] at h; exact op_fieldAddr hT H ho h
  | field t x f => rw [ho] at h; exact op_field hT H hW.und ho h
  | indexAddr t x i => rw [ho] at h; exact op_indexAddr hT H hlk ho h
  | index t x i => rw [ho] at h; exact op_index hT H hW.und ho h
  | extract t i => rw [ho] at h; exact op_extract H ho h
  | call c =>
    rw [ho] at h
    obtain ⟨callee, args, ts⟩ := c
    cases callee with
    | builtin b =>
      cases b with
      | len => exact op_len hT H ho h
      | min => exact op_min hT H ho h
      | max => exact op_max hT H ho h
      | append => exact op_append hT H hlk hid ho h
      | clear => exact op_clear hT H hlk hid ho h
      | _ => exact (by simp [opE] at h)
    | _ => exact (by simp [opE] at h)
  | _ => rw [ho] at h; exact (by simp [opE] at h)
end

theorem RepL.setSame {w : World} {Y : Nat → Prop} {σ : Sg} {p : PV} : ∀ (ps : List PV) (vs : List Value) (t : Nat), RepL w Y σ ps vs → Rep w Y σ p (vs.getD t Go.undef) → RepL w Y σ (setL ps t p) vs
  | [], vs, t, h, _ => by simpa [setL] using h
  | q :: ps, vs, 0, h, hp => by
    unfold RepL at h; obtain ⟨v, vs', rfl, h1, h2⟩ := h
    simp only [setL]; unfold RepL; exact ⟨v, vs', rfl, by simpa using hp, h2⟩
  | q :: ps, vs, t + 1, h, hp => by
    unfold RepL at h; obtain ⟨v, vs', rfl, h1, h2⟩ := h
    simp only [setL]; unfold RepL; exact ⟨v, vs', rfl, h1, RepL.setSame ps vs' t h2 (by simpa using hp)⟩

theorem SW.setSame {T : Tab} {C : Ctx T} {w : World} {Y : Nat → Prop} {σ : Sg} {ps : List PV} {vs : List Value} {st : St} {n : Nat} (H : SW C w Y σ ps vs st n) {d : Nat} {b : Bool} (hb : getL ps d = .sb b) (c : Bool) (hc : b = c) : SW C w Y σ (setL ps d (.bool c)) vs st n := by
  refine (H.vals' ?_)
  refine RepL.setSame _ _ _ H.vals ?_
  have := H.vals.get _ _ d
  rw [hb] at this
  rw [rep_sb this, hc]
  simp [Rep]
/-- the same values, a temporary known better -/
theorem ActRep.setSame {T : Tab} {C : Ctx T} {E : Env} {a : Act} {w : World} (h : ActRep C E a w) {d : Nat} {b : Bool} (hb : getL E.tmps d = .sb b) (c : Bool) (hc : b = c) : ActRep C (putE E (some d) (.bool c)) a w := by
  obtain ⟨⟨Y, σ, H⟩, hd⟩ := h
  refine ⟨⟨Y, σ, (H.vals' ?_)⟩, hd⟩
  refine RepL.setSame _ _ _ H.vals ?_
  have := H.vals.get _ _ d
  rw [hb] at this
  rw [rep_sb this, hc]
  simp [Rep]

theorem ActRep.put {T : Tab} {C : Ctx T} {w : World} {Y : Nat → Prop} {σ : Sg} {a : Act} {ps : List PV} {st : St} {n : Nat} (H : SW C w Y σ ps a.tmps.toList st n) (hd : a.defers = []) {v : PV} {cv : Value} (hv : Rep w Y σ v cv) (d : Option Nat) :
    ActRep C (putE ⟨ps, st, n⟩ d v) (a.put d cv) w := by
  cases d with
  | none => exact ⟨⟨Y, σ, H⟩, hd⟩
  | some d =>
    refine ⟨⟨Y, σ, (H.vals' ?_)⟩, hd⟩
    simp only [Act.put, putE, Array.toList_setIfInBounds]
    exact RepL.set hv _ _ _ H.vals

/-- one operation -/
def OpT (P : Program) (T : Tab) (o : Oper) (E : Env) (K : Env → Prop) : Prop :=
  ∀ (C : Ctx T) a w, ActRep C E a w → ∀ next Q, (∀ E' a' w', ActRep C E' a' w' → K E' → next a' w') → o.wp P a w next Q

theorem opE_OpT {P : Program} {T : Tab} (hT : TabOK P T) (hW : PWf P) {o : Oper} {E : Env} {K : Env → Prop}
    (h : opE T (Sig.std P T) o.op E.tmps (lkS E.st) E.next fun v δ => K (putE ⟨E.tmps, applyD δ E.st, nextD δ E.next⟩ o.dst v)) : OpT P T o E K := by
  intro C a w hA next Q hnext
  obtain ⟨⟨Y, σ, H⟩, hd⟩ := hA
  obtain ⟨v, δ, cv, w', Y', σ', hK, hrun, H', hv, _⟩ := opE_res hT hW H (fun _ _ h => h) ⟨H.next _ (Nat.le_refl _), H.fix.1⟩ h
  have hn : nextI δ E.next E.next = nextD δ E.next := by cases δ <;> simp [nextI, nextD]
  rw [hn] at H'
  have := hnext _ _ _ (ActRep.put H' hd hv o.dst) hK
  unfold Oper.wp
  rcases hrun with hrun | ⟨hrun, rfl⟩
  · rw [hrun]; exact this
  · rw [hrun]; exact this

theorem stepO_OpT {P : Program} {T : Tab} (hT : TabOK P T) (hW : PWf P) {o : Oper} {E : Env} {K : Env → Prop} (h : stepO T (Sig.std P T) o E K) : OpT P T o E K := by
  unfold stepO at h
  split at h
  · -- a call
    rename_i f args ts ho
    split at h
    · rename_i k caps hf
      intro C a w hA next Q hnext
      obtain ⟨⟨Y, σ, H⟩, hd⟩ := hA
      have hfv := ev_rep H f
      rw [hf] at hfv
      unfold Rep at hfv
      obtain ⟨cs, ef, hcs⟩ := hfv
      have hargs := evA_rep H args.toList
      have hall := RepL.app _ _ _ _ hargs hcs
      obtain ⟨hent, hcall⟩ := callE_sound h C Y σ w a.tmps.toList _ H hall
      unfold Oper.wp
      have hrun : (execOp a.eval o).run P w = .ok (.enter k (args.toList.map a.eval ++ cs).toArray) w := by
        have hmap : args.map a.eval = (args.toList.map a.eval).toArray := by apply Array.ext'; simp
        simp only [execOp, ho, resolve, ef, Deferred.ofValue, Sem.run_bind, Sem.run_pure, Result.andThen, invoke, hmap]
        have : (#[] ++ (args.toList.map a.eval).toArray ++ cs.toArray) = (args.toList.map a.eval ++ cs).toArray := by apply Array.ext'; simp
        rw [this]
        exact hent
      rw [hrun]
      refine Calls.mono hcall fun e w' hh => ?_
      obtain ⟨cv, v, E', Y', σ', rfl, hK, H', hv⟩ := hh
      exact hnext _ _ _ (ActRep.put H' hd hv o.dst) hK
    · exact h.elim
  · split at h
    · rename_i c x y ho
      split at h
      · rename_i t hc
        obtain ⟨ht, hf⟩ := h
        intro C a w hA next Q hnext
        obtain ⟨⟨Y, σ, H⟩, hd⟩ := hA
        have hcv := H.vals.get _ _ c
        rw [hc] at hcv
        have hcv := rep_sb hcv
        have hcv' : a.eval (.tmp c) = .bool t := by
          rw [← hcv]; simp [Act.eval, Array.getD_eq_getD_getElem?, List.getD_eq_getElem?_getD]
        have hrun : (execOp a.eval o).run P w = .ok (.value (if t then a.eval x else a.eval y)) w := by
          simp [execOp, ho, hcv', asBool]
        unfold Oper.wp
        rw [hrun]
        cases t with
        | true => exact hnext _ _ _ (ActRep.put (H.setSame hc true rfl) hd (v := evL T E.tmps x) (ev_rep H x) o.dst) (ht rfl)
        | false => exact hnext _ _ _ (ActRep.put (H.setSame hc false rfl) hd (v := evL T E.tmps y) (ev_rep H y) o.dst) (hf rfl)
      · exact opE_OpT hT hW (by rw [ho]; exact h)
    · exact opE_OpT hT hW h

/-- a guard, and what stands behind it -/
theorem gd_sound {P : Program} {T : Tab} {all : Array Oper} {o : Oper} {E : Env} {run skip : Env → Prop} (h : gd (Sig.std P T) all o.guard E run skip) {T : Tab} {C : Ctx T} {a : Act} {w : World} (hA : ActRep C E a w) :
    ∃ E', ActRep C E' a w ∧ ((Region.wanted o (yielded all a.tmps) = true ∧ run E') ∨ (Region.wanted o (yielded all a.tmps) = false ∧ skip E')) := by
  unfold gd at h
  split at h
  · rename_i hg
    exact ⟨E, hA, .inl ⟨by simp [Region.wanted, hg], h⟩⟩
  · rename_i j want hg
    split at h
    · rename_i oj hj
      split at h
      · rename_i d hd
        have hval : ∀ b, a.tmps.toList.getD d Go.undef = .bool b → yielded all a.tmps j = some b := by
          intro b hb
          rw [List.getD_eq_getElem?_getD] at hb
          unfold yielded
          simp only [hj, Option.bind_some, hd]
          cases hx : a.tmps[d]? with
          | none => rw [Array.getElem?_toList, hx] at hb; cases hb
          | some v => rw [Array.getElem?_toList, hx] at hb; simp at hb; subst hb; rfl
        have hundef : a.tmps.toList.getD d Go.undef = Go.undef → yielded all a.tmps j = none := by
          intro hb
          rw [List.getD_eq_getElem?_getD] at hb
          unfold yielded
          simp only [hj, Option.bind_some, hd]
          cases hx : a.tmps[d]? with
          | none => rfl
          | some v => rw [Array.getElem?_toList, hx] at hb; simp at hb; subst hb; rfl
        have wantb : ∀ b, yielded all a.tmps j = some b → Region.wanted o (yielded all a.tmps) = (b == want) := by
          intro b hb; simp [Region.wanted, hg, hb]
        have hA' := hA
        obtain ⟨⟨Y, σ, H⟩, hdef⟩ := hA'
        have hg2 := H.vals.get _ _ d
        split at h
        · rename_i e; rw [e] at hg2
          have hw := wantb true (hval true (rep_bool hg2))
          refine ⟨E, hA, ?_⟩
          rw [hw]
          cases want with
          | true => exact .inl ⟨rfl, h⟩
          | false => exact .inr ⟨rfl, h⟩
        · rename_i e; rw [e] at hg2
          have hw := wantb false (hval false (rep_bool hg2))
          refine ⟨E, hA, ?_⟩
          rw [hw]
          cases want with
          | true => exact .inr ⟨rfl, h⟩
          | false => exact .inl ⟨rfl, h⟩
        · rename_i b e
          have hg3 := hg2
          rw [e] at hg3
          have hw := wantb b (hval b (rep_sb hg3))
          obtain ⟨h1, h2⟩ := h
          refine ⟨putE E (some d) (.bool b), ⟨⟨Y, σ, H.setSame e b rfl⟩, hdef⟩, ?_⟩
          rw [hw]
          cases b with
          | true =>
            have h1 := h1 rfl
            cases want with
            | true => exact .inl ⟨rfl, h1⟩
            | false => exact .inr ⟨rfl, h1⟩
          | false =>
            have h2 := h2 rfl
            cases want with
            | true => exact .inr ⟨rfl, h2⟩
            | false => exact .inl ⟨rfl, h2⟩
        · rename_i e; rw [e] at hg2
          have hy := hundef (by unfold Rep at hg2; exact hg2)
          exact ⟨E, hA, .inr ⟨by simp [Region.wanted, hg, hy], h⟩⟩
        · exact h.elim
      · exact h.elim
    · exact h.elim

theorem opsE_sound {P : Program} {T : Tab} (hT : TabOK P T) (hW : PWf P) {all : Array Oper} {Q : Exit → Act → World → Prop} {C : Ctx T} : ∀ (l : List Oper) (E : Env) (K : Env → Prop), opsE T (Sig.std P T) all l E K →
    ∀ a w, ActRep C E a w → (∀ E' a' w', ActRep C E' a' w' → K E' → Q .normal a' w') → wpList P all Q l a w
  | [], E, K, h, a, w, hA, hQ => hQ E a w hA h
  | o :: l, E, K, h, a, w, hA, hQ => by
    simp only [opsE] at h
    obtain ⟨E', hA', hh⟩ := gd_sound h hA
    unfold wpList
    rcases hh with ⟨hw, hh⟩ | ⟨hw, hh⟩
    · rw [if_pos hw]
      refine .inl (stepO_OpT hT hW hh C a w hA' _ _ fun E2 a2 w2 hA2 hK2 => ?_)
      exact opsE_sound hT hW l E2 K hK2 a2 w2 hA2 hQ
    · rw [if_neg (by rw [hw]; simp)]
      obtain ⟨⟨Y, σ, H⟩, hd⟩ := hA'
      exact opsE_sound hT hW l _ K hh _ w (ActRep.put H hd (v := .undef) (cv := Go.undef) (by simp [Rep]) o.dst) hQ

end Go.Pv
