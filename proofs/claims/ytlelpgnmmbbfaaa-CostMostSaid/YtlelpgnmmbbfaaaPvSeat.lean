/-
  Pv, part 23: what a seat has to show of its program; the leaves of a walk.
-/
import Derived.Test.YtlelpgnmmbbfaaaPvFn
namespace Go.Pv
open Go
set_option linter.all false

def lkT : List (Nat × TI) → Nat → TI
  | [], _ => .bad
  | (k, i) :: l, t => bif Nat.beq k t then i else lkT l t
def madeT (P : Program) : List (Nat × TI) → List TI
  | [] => []
  | (k, _) :: l => (bif Nat.blt k P.types.size then mkTI P k else .bad) :: madeT P l
def infosT : List (Nat × TI) → List TI
  | [] => []
  | (_, i) :: l => i :: infosT l
def mkTab (l : List (Nat × TI)) (gl : Nat → Option (List PV)) (pas : Nat) (cut : List Nat) (nar : Nat) (own : List (List (Nat × Bool))) (dcl : List (Nat × Nat)) : Tab := ⟨lkT l, gl, pas, cut, nar, own, dcl⟩
theorem tabOK_of {P : Program} {gl : Nat → Option (List PV)} {pas : Nat} {cut : List Nat} {nar : Nat} {own : List (List (Nat × Bool))} {dcl : List (Nat × Nat)} : ∀ (l : List (Nat × TI)), madeT P l = infosT l → TabOK P (mkTab l gl pas cut nar own dcl)
  | [], _ => fun t h => by simp [mkTab, lkT, TI.bad] at h
  | (k, i) :: l, h => fun t hk => by
    have ih := tabOK_of (P := P) (gl := gl) (pas := pas) (cut := cut) (nar := nar) (own := own) (dcl := dcl) l
    simp only [mkTab] at hk ih ⊢
    simp only [madeT, infosT, List.cons.injEq] at h
    simp only [lkT] at hk ⊢
    cases e : Nat.beq k t with
    | true =>
      rw [e] at hk
      simp only [cond_true] at hk ⊢
      have e := Nat.eq_of_beq_eq_true e
      subst e
      cases hb : Nat.blt k P.types.size with
      | true => rw [hb] at h; rw [Nat.blt_eq] at hb; exact ⟨h.1.symm, hb⟩
      | false => rw [hb] at h; rw [← h.1] at hk; simp [TI.bad] at hk
    | false =>
      rw [e] at hk
      simp only [cond_false] at hk ⊢
      exact ih h.2 t hk

def wfOne (P : Program) (t : TypeId) : Bool :=
  match P.underlying t with
  | none => false
  | some (.struct fs) => fs.toList.all fun f => (P.info? f.type).isSome
  | some (.array _ e) => (P.info? e).isSome
  | some _ => true
def wfUp (P : Program) : Nat → Bool
  | 0 => true
  | n + 1 => wfOne P n && wfUp P n
theorem wfUp_spec {P : Program} : ∀ n, wfUp P n = true → ∀ t, t < n → wfOne P t = true
  | 0, _, t, h => by omega
  | n + 1, h, t, ht => by
    simp only [wfUp, Bool.and_eq_true] at h
    by_cases e : t = n
    · rw [e]; exact h.1
    · exact wfUp_spec n h.2 t (by omega)
theorem reckon_und {info : TypeId → Option TypeInfo} {d : TypeDesc} {i : TypeInfo} (h : Made.reckon info d = some i) : ∀ n u, i.desc ≠ .named n u := by
  intro n u hn
  cases d <;> simp only [Made.reckon, Option.bind_eq_bind, Option.pure_def] at h
  case pointer e =>
    obtain ⟨j, _, h⟩ := Option.bind_eq_some_iff.1 h
    split at h
    · cases h
    · split at h
      · cases h
      · obtain ⟨s, _, h⟩ := Option.bind_eq_some_iff.1 h; cases h; cases hn
    · obtain ⟨s, _, h⟩ := Option.bind_eq_some_iff.1 h; cases h; cases hn
  case struct fs =>
    unfold Made.reckonStruct at h
    simp only [Option.bind_eq_bind, Option.pure_def] at h
    obtain ⟨x, _, h⟩ := Option.bind_eq_some_iff.1 h
    split at h <;> (cases h; cases hn)
  all_goals first
    | (cases h; done)
    | (obtain ⟨s, _, h⟩ := Option.bind_eq_some_iff.1 h; cases h; cases hn; done)
    | (obtain ⟨s, _, h⟩ := Option.bind_eq_some_iff.1 h
       obtain ⟨s, _, h⟩ := Option.bind_eq_some_iff.1 h; cases h; cases hn; done)
    | (obtain ⟨s, _, h⟩ := Option.bind_eq_some_iff.1 h
       obtain ⟨s, _, h⟩ := Option.bind_eq_some_iff.1 h
       obtain ⟨s, _, h⟩ := Option.bind_eq_some_iff.1 h
       obtain ⟨s, _, h⟩ := Option.bind_eq_some_iff.1 h; cases h; cases hn; done)
theorem wf_of {P : Program} (h : wfUp P P.types.size = true) (hm : P.follows .mixedOrders = true) : PWf P := by
  have key : ∀ t, t < P.types.size → wfOne P t = true := wfUp_spec _ h
  refine ⟨?_, ?_, ?_, hm⟩
  · intro t ht
    by_cases hlt : t < P.types.size
    · have := key t hlt
      unfold wfOne at this
      cases hu : P.underlying t with
      | none => rw [hu] at this; cases this
      | some d => exact ⟨d, rfl⟩
    · cases hi : P.info? t with
      | none => exact absurd hi ht
      | some i =>
        have hi' := hi
        unfold Tables.info? at hi'
        rw [if_neg hlt, show Made.depth = 99 + 1 from rfl, Made.infoAt, if_neg hlt] at hi'
        obtain ⟨d, _, hd⟩ := Option.bind_eq_some_iff.1 hi'
        have hne := reckon_und hd
        refine ⟨i.desc, ?_⟩
        unfold Program.underlying
        rw [hi]
        split
        · rename_i n u e; cases e; exact absurd rfl (hne _ _)
        · rename_i e; cases e; rfl
        · rename_i e; cases e
  · intro t fs hlt hu f hf
    have := key t hlt
    unfold wfOne at this
    rw [hu] at this
    have := List.all_eq_true.1 this f hf
    intro e; rw [e] at this; cases this
  · intro t k e hlt hu
    have := key t hlt
    unfold wfOne at this
    rw [hu] at this
    simp only at this
    intro e; rw [e] at this; cases this

/-- a function that returns one value, from its body's reading: the symbols and the goal stay variables -/
theorem fn_of {P : Program} {T : Tab} (hT : TabOK P T) (hp : T.pas = 0) (hW : PWf P) {k : Nat} {fn : Func} {c : Code} (hf : P.funcs[k]? = some fn) (hb : fn.body = some c)
    (hcall : ∀ args w, (callFunc k args).run P w = .ok (.enter k args) w) {args : List PV} {v : PV} {m : Nat} (hm : fn.ntmps - args.length = m)
    (h : ∀ S R, S = Sig.std P T → (∀ u, u = v → R u) → pwp T S c (retQ T S fn.results.toList R) ⟨appL args (undefs m), [], 0⟩) : Fn P T.gl k args (fun u => u = v) :=
  fn_of_body hT hp hW hf hb hcall hm fun S hS => h S _ hS fun _ h => h
theorem fnS_of {P : Program} {T : Tab} (hT : TabOK P T) (hW : PWf P) {k : Nat} {fn : Func} {c : Code} (hf : P.funcs[k]? = some fn) (hb : fn.body = some c)
    (hcall : ∀ args w, (callFunc k args).run P w = .ok (.enter k args) w) {args : List PV} {st : St} {v : PV} {st1 : St} {n1 : Nat} {m : Nat} (hm : fn.ntmps - args.length = m)
    (h : ∀ S R, S = Sig.std P T → (∀ u s n, u = v → s = st1 → n = n1 → R u s n) → pwp T S c (retSQ T S fn.results.toList R) ⟨appL args (undefs m), st, T.pas⟩) : FnS P T.gl k args st T.pas (fun u s n => u = v ∧ s = st1 ∧ n = n1) :=
  fnS_of_body hT hW hf hb hcall hm fun S hS => h S _ hS fun _ _ _ h1 h2 h3 => ⟨h1, h2, h3⟩

/-! ### leaves -/
section
variable {P : Program} {T : Tab} {S : Sig} (hS : S = Sig.std P T)
include hS
theorem l_br {b : Bool} {t f : Unit → Prop} (h1 : b = true → t ()) (h2 : b = false → f ()) : S.br b t f := by subst hS; exact ⟨h1, h2⟩
theorem l_brT {b : Bool} {t f : Unit → Prop} (hb : b = true) (h : t ()) : S.br b t f := by subst hS; exact ⟨fun _ => h, fun e => (by rw [hb] at e; cases e)⟩
theorem l_brF {b : Bool} {t f : Unit → Prop} (hb : b = false) (h : f ()) : S.br b t f := by subst hS; exact ⟨fun e => (by rw [hb] at e; cases e), fun _ => h⟩
theorem l_callq {k : Nat} {args : List PV} {K : PV → Prop} {v : PV} (hF : Fn P T.gl k args (fun u => u = v)) (h : K v) : S.callq k args K := by subst hS; exact ⟨v, hF, h⟩
theorem l_callq_b {k : Nat} {args : List PV} {K : PV → Prop} {b : Bool} (hF : Fn P T.gl k args (fun u => u = .sb b)) (h : ∀ c, c = b → K (.sb c)) : S.callq k args K := by subst hS; exact ⟨_, hF, h _ rfl⟩
theorem l_callq_i {k : Nat} {args : List PV} {K : PV → Prop} {i : IntKind} {n : Int} (hF : Fn P T.gl k args (fun u => u = .si i n)) (h : ∀ c, c = n → K (.si i c)) : S.callq k args K := by subst hS; exact ⟨_, hF, h _ rfl⟩
/-- a pure call whose result is made a variable -/
theorem l_callg {α : Type} (f : α → PV) {x : α} {k : Nat} {args : List PV} {K : PV → Prop} (hF : Fn P T.gl k args (fun u => u = f x)) (h : ∀ y, y = x → K (f y)) : S.callq k args K := by subst hS; exact ⟨_, hF, h _ rfl⟩
/-- the same, the variable known already -/
theorem l_callE {α : Type} (f : α → PV) {x y : α} {k : Nat} {args : List PV} {K : PV → Prop} (hF : Fn P T.gl k args (fun u => u = f x)) (hy : y = x) (h : K (f y)) : S.callq k args K := by subst hS; subst hy; exact ⟨_, hF, h⟩
theorem l_callf {k : Nat} {args : List PV} {K : PV → Prop} {v : PV} (hF : Fn P T.gl k args (fun u => u = v)) (hf : flatV 6 v = true) (h : K v) : S.callf k args K := by subst hS; exact ⟨v, hF, hf, h⟩
theorem l_callfg {α : Type} (f : α → PV) {x : α} {k : Nat} {args : List PV} {K : PV → Prop} (hF : Fn P T.gl k args (fun u => u = f x)) (hf : ∀ y, flatV 6 (f y) = true) (h : ∀ y, y = x → K (f y)) : S.callf k args K := by subst hS; exact ⟨_, hF, hf x, h x rfl⟩
/-- own blocks are lent for the call's time; what comes back holds no reference -/
theorem l_callL {k : Nat} {args bs as : List PV} {E : Env} {free : Option (List PV)} {ρ : List Nat} {st0 : St} {K : PV → Env → Prop} {v : PV} (hF : Fn P T.gl k bs (fun u => u = v)) (hf : flatV 6 v = true) (h : K v E) : S.call k args E (some bs) free ρ as st0 K := by
  subst hS; exact .inl ⟨bs, v, rfl, hF, hf, h⟩
/-- the same, what comes back made a variable -/
theorem l_callLg {α : Type} (f : α → PV) {x : α} {k : Nat} {args bs as : List PV} {E : Env} {free : Option (List PV)} {ρ : List Nat} {st0 : St} {K : PV → Env → Prop} (hF : Fn P T.gl k bs (fun u => u = f x)) (hf : ∀ y, flatV 6 (f y) = true) (h : ∀ y, y = x → K (f y) E) : S.call k args E (some bs) free ρ as st0 K := by
  subst hS; exact .inl ⟨bs, _, rfl, hF, hf x, h x rfl⟩
/-- own blocks are frozen for good -/
theorem l_callF {k : Nat} {args bs as : List PV} {E : Env} {lend : Option (List PV)} {ρ : List Nat} {st0 : St} {K : PV → Env → Prop} {v : PV} (hF : Fn P T.gl k bs (fun u => u = v)) (h : K v ⟨E.tmps, roS E.st ρ, E.next⟩) : S.call k args E lend (some bs) ρ as st0 K := by
  subst hS; exact .inr (.inl ⟨bs, v, rfl, hF, h⟩)
/-- own blocks are handed over -/
theorem l_callS {k : Nat} {args as : List PV} {E : Env} {lend free : Option (List PV)} {ρ : List Nat} {st0 : St} {m : Nat} {K : PV → Env → Prop} {v : PV} {st1 : St} {n1 : Nat} (hF : FnS P T.gl k as st0 m (fun u s n => u = v ∧ s = st1 ∧ n = n1)) (hm : m = lenNs ρ) (h1 : nodN ρ = true) (h2 : ltN E.next ρ = true) (h0 : noNar st0 = true)
    (h : K (renV (bakN ρ E.next) 8 v) (bakE ρ E st1 n1)) : S.call k args E lend free ρ as st0 K := by
  subst hS; subst hm; exact .inr (.inr (.inl ⟨v, st1, n1, h1, h2, h0, hF, h⟩))
theorem l_room {n bytes : Nat} {p : Prop} (h1 : (2 * n + 192) * bytes ≤ 140737488355328) (h2 : n ≤ 4611686018427387904) (h : p) : S.room n bytes p := by subst hS; exact ⟨h1, h2, h⟩
theorem l_nu {K : Hdr → Prop} (h : ∀ x, K x) : S.nu K := by subst hS; exact h
theorem l_same {x y : Hdr} {p : Prop} (e : x = y) (h : p) : S.same x y p := by subst hS; exact ⟨e, h⟩
theorem l_order {l : Array Oper} {p : Prop} (hd : drawOK T l = true) (h : p) : S.order l p := by subst hS; exact ⟨hd, h⟩
theorem l_last {l : Array Oper} {p : Prop} (hd : lastOK l = true) (h : p) : S.last l p := by subst hS; exact ⟨hd, h⟩
theorem l_idx {es : List (List PV)} {i : Int} {K : List PV → Prop} {j : Nat} {row : List PV} (hi : i = (j : Int)) (hr : es[j]? = some row) (h : K row) : S.idx es i K := by subst hS; exact ⟨j, row, hi, hr, h⟩
theorem l_ix {n : Nat} {i : Int} {K : Nat → Prop} {j : Nat} (hi : i = (j : Int)) (hr : j < n) (h : K j) : S.ix n i K := by subst hS; exact ⟨j, hi, hr, h⟩
theorem l_row {rows : List (List PV)} {j : Nat} {K : List PV → Prop} {row : List PV} (hr : rows[j]? = some row) (h : K row) : S.row rows j K := by subst hS; exact ⟨row, hr, h⟩
theorem l_seq {A : Post → Prop} {B : Env → Prop} {Q : Post} (h : A (seqQ B Q)) : S.seq A B Q := by subst hS; exact ⟨_, h, fun n E h => ⟨E, Ent.refl E, h⟩⟩
/-- the ways meet again -/
theorem l_cut {A : Post → Prop} {B : Env → Prop} {Q : Post} {ι : Type} (keep : List Nat) (F : ι → Env) (h : A (seqQ (fun E => ∃ i, canE T.pas keep E = F i) Q)) (h2 : ∀ i, B (F i)) : S.seq A B Q := by
  subst hS
  refine ⟨_, h, fun n E h => ?_⟩
  cases n with
  | zero =>
    obtain ⟨i, hi⟩ := h
    exact ⟨_, ent_canE keep E, by show B _; rw [hi]; exact h2 i⟩
  | succ n => exact ⟨E, Ent.refl E, h⟩
end
end Go.Pv
