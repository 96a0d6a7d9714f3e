/-
  Pv, part 3: what the symbols of a walk stand for; the leaves of a walk.
-/
import Derived.Test.YtlelpgnmmbbfaaaPvRep
namespace Go.Pv
open Go
set_option linter.all false

def ActRep {T : Tab} (C : Ctx T) (E : Env) (a : Act) (w : World) : Prop := EnvRep C E a.tmps.toList w ∧ a.defers = []

def lift {T : Tab} (C : Ctx T) (Q : Post) : Exit → Act → World → Prop
  | .normal, a, w => ∃ E, ActRep C E a w ∧ Q 0 E
  | .ret, a, w => ∃ E, ActRep C E a w ∧ Q 1 E
  | .exit n, a, w => ∃ E, ActRep C E a w ∧ Q (n + 2) E
  | _, _, _ => False

/-- a piece of code, from an abstract state -/
def TripleC (P : Program) (T : Tab) (c : Code) (Q : Post) (E : Env) : Prop := ∀ (C : Ctx T) a w, ActRep C E a w → c.wp P (lift C Q) a w

/-- a call, from an abstract state -/
def CallT (P : Program) (T : Tab) (k : Nat) (args : List PV) (E : Env) (K : PV → Env → Prop) : Prop :=
  ∀ (C : Ctx T) (Y : Nat → Prop) (σ : Sg) (w : World) (vs cargs : List Value), SW C w Y σ E.tmps vs E.st E.next → RepL w Y σ args cargs →
    (callFunc k cargs.toArray).run P w = .ok (.enter k cargs.toArray) w ∧
    Calls P k cargs.toArray w fun e w' => ∃ cv v E' Y' σ', e = .returned cv ∧ K v E' ∧ SW C w' Y' σ' E'.tmps vs E'.st E'.next ∧ Rep w' Y' σ' v cv

/-- what a function does with pure arguments -/
def Fn (P : Program) (G : Nat → Option (List PV)) (k : Nat) (args : List PV) (R : PV → Prop) : Prop :=
  ∀ (w : World) (Y : Nat → Prop) (cargs : List Value), Glob G w Y → (∀ b, Y b → b < w.heap.size) → RepL w Y noSg args cargs →
    (callFunc k cargs.toArray).run P w = .ok (.enter k cargs.toArray) w ∧
    Calls P k cargs.toArray w fun e w' => ∃ cv v, e = .returned cv ∧ R v ∧ Rep w' Y noSg v cv ∧ Chg w w'

/-- the blocks of a store -/
def InSt (σ : Sg) (st : St) (k : Nat) : Prop := ∃ b x l, lkS st b = some x ∧ σ b = some l ∧ l.cb = k

/-- where a function begins to which blocks are handed over -/
def ctxS (T : Tab) (w : World) (Y : Nat → Prop) (σ : Sg) (st : St) : Ctx T := ⟨w, fun k => Y k ∧ ¬ InSt σ st k, InSt σ st, fun k => Y k ∧ InSt σ st k, σ⟩

/-- what a function does with blocks that are handed over: the names below n -/
def FnS (P : Program) (G : Nat → Option (List PV)) (k : Nat) (args : List PV) (st : St) (n : Nat) (R : PV → St → Nat → Prop) : Prop :=
  ∀ (w : World) (Y : Nat → Prop) (σ : Sg) (cargs : List Value), Glob G w Y → (∀ b, Y b → b < w.heap.size) → (∀ b, n ≤ b → σ b = none) → RepL w Y σ args cargs → StRep w Y σ st → noNar st = true →
    (callFunc k cargs.toArray).run P w = .ok (.enter k cargs.toArray) w ∧
    Calls P k cargs.toArray w fun e w' => ∃ cv v st' n' Y' σ', e = .returned cv ∧ R v st' n' ∧ SW (ctxS ⟨fun _ => .bad, G, n, [], 0, [], []⟩ w Y σ st) w' Y' σ' [v] [cv] st' n'

/-- what stands for E stands for F -/
def Ent (T : Tab) (E F : Env) : Prop := ∀ (C : Ctx T) a w, ActRep C E a w → ActRep C F a w
theorem Ent.refl {T : Tab} (E : Env) : Ent T E E := fun _ _ _ h => h

/-- a row's own slice, read alone from now on -/
def fzC : PV → PV
  | .ow _ sz es => .sl sz es false
  | v => v
def byteR : List PV → Option Int
  | [.si .u8 n] => some n
  | [.int .u8 n] => some n
  | _ => none
def Sig.std (P : Program) (T : Tab) : Sig where
  bin := stdBin
  cmp := stdCmp
  conv k n := k.wrap n
  neg k n := k.wrap (0 - n)
  beq a b := a == b
  band a b := a && b
  scmp := stdScmp
  slen s := (s.size : Int)
  smin a b := if b < a then b else a
  smax a b := if b > a then b else a
  len es := (es.length : Int)
  nint n := (n : Int)
  nadd a b := a + b
  nsub a b := a - b
  app a b := a ++ b
  sub rows r n := (rows.drop r).take n
  spl rows r new := rows.take r ++ new ++ rows.drop (r + new.length)
  rset rows i r := rows.set i r
  rep n r := List.replicate n r
  lenN es := es.length
  br b t f := (b = true → t ()) ∧ (b = false → f ())
  call k args E lend free ρ as st0 K :=
    (∃ bs v, lend = some bs ∧ Fn P T.gl k bs (fun u => u = v) ∧ flatV 6 v = true ∧ K v E) ∨
    (∃ bs v, free = some bs ∧ Fn P T.gl k bs (fun u => u = v) ∧ K v ⟨E.tmps, roS E.st ρ, E.next⟩) ∨
    (∃ v st1 n1, nodN ρ = true ∧ ltN E.next ρ = true ∧ noNar st0 = true ∧ FnS P T.gl k as st0 (lenNs ρ) (fun u st n => u = v ∧ st = st1 ∧ n = n1) ∧ K (renV (bakN ρ E.next) 8 v) (bakE ρ E st1 n1)) ∨
    CallT P T k args E K
  callq k args K := ∃ v, Fn P T.gl k args (fun u => u = v) ∧ K v
  callp k args as bs E K := (∃ v, Fn P T.gl k as (fun u => u = v) ∧ K v E) ∨ (∃ v st1 n1, FnS P T.gl k bs [] 0 (fun u st n => u = v ∧ st = st1 ∧ n = n1) ∧ K (renV (bakN [] E.next) 8 v) (bakE [] E st1 n1)) ∨ CallT P T k args E K
  callf k args K := ∃ v, Fn P T.gl k args (fun u => u = v) ∧ flatV 6 v = true ∧ K v
  callm k as K := ∃ v x, FnS P T.gl k as [] 0 (fun u st n => u = v ∧ st = [(0, some x)] ∧ n = 1) ∧ K v x
  callw k as st0 ρ K := ∃ v st1 n1, noNar st0 = true ∧ FnS P T.gl k as st0 (lenNs ρ) (fun u st n => u = v ∧ st = st1 ∧ n = n1) ∧ K v st1 n1
  loop c Q E := TripleC P T (.loop c) Q E
  seq A B Q := ∃ Q', A Q' ∧ ∀ n E, Q' n E → ∃ F, Ent T E F ∧ seqQ B Q n F
  idx es i K := ∃ (j : Nat) (row : List PV), i = (j : Int) ∧ es[j]? = some row ∧ K row
  ix n i K := ∃ j : Nat, i = (j : Int) ∧ j < n ∧ K j
  row rows j K := ∃ row, rows[j]? = some row ∧ K row
  sidx s i K := ∃ (j : Nat) (c : UInt8), i = (j : Int) ∧ s[j]? = some c ∧ K (c.toNat : Int)
  div op k a b K := b ≠ 0 ∧ K (match op with | .quo => k.wrap (a.tdiv b) | _ => a.tmod b)
  shf op k a y K := 0 ≤ y ∧ K (match op with | .shl => k.wrap (a * 2 ^ (min y.toNat k.bits)) | _ => a.fdiv (2 ^ (min y.toNat k.bits)))
  scat a b K := a.size + b.size ≤ 4611686018427387904 ∧ K (a ++ b)
  mks n m bytes K := ∃ j : Nat, n = (j : Int) ∧ n ≤ m ∧ (bytes : Int) * m ≤ 140737488355328 ∧ m ≤ 9223372036854775807 ∧ K j
  room n bytes K := (2 * n + 192) * bytes ≤ 140737488355328 ∧ n ≤ 4611686018427387904 ∧ K
  slc len a b K := ∃ i j : Nat, a = (i : Int) ∧ b = (j : Int) ∧ i ≤ j ∧ j ≤ len ∧ K i j
  sslc s a b K := ∃ i j : Nat, a = (i : Int) ∧ b = (j : Int) ∧ i ≤ j ∧ j ≤ s.size ∧ K (s.extract i j)
  nilq es K := ∀ b : Bool, (b = true → es = []) → K b
  toS t rows K := (∃ e, P.underlying t = some (.slice e) ∧ P.underlying e = some (.int .u8)) ∧ ∃ s : ByteArray, rows.map byteR = s.data.toList.map (fun c => some (c.toNat : Int)) ∧ K s
  wk cs K := ∃ cs', cs'.length = cs.length ∧ (allCell cs = true → allCell cs' = true) ∧ (∀ (w : World) (Y : Nat → Prop) (σ : Sg) (vs : List Value), RepL w Y σ cs vs → RepL w Y σ cs' vs) ∧ K cs'
  order l p := drawOK T l = true ∧ p
  last l p := lastOK l = true ∧ p
  nu K := ∀ h, K h
  same h h' p := h = h' ∧ p
  fz rows := rows.map fun row => row.map fzC
theorem wkC_std {P : Program} {T : Tab} {cs : List PV} {K : List PV → Prop} (h : wkC (Sig.std P T) cs K) : ∃ cs', cs'.length = cs.length ∧ (allCell cs = true → allCell cs' = true) ∧ (∀ (w : World) (Y : Nat → Prop) (σ : Sg) (vs : List Value), RepL w Y σ cs vs → RepL w Y σ cs' vs) ∧ K cs' ∧ ∀ K' : List PV → Prop, K' cs' → wkC (Sig.std P T) cs K' := by
  unfold wkC at h ⊢
  cases hb : anyLit cs with
  | true =>
    rw [hb] at h
    simp only
    obtain ⟨cs', h1, h2, h3, h4⟩ := h
    exact ⟨cs', h1, h2, h3, h4, fun K' hk => ⟨cs', h1, h2, h3, hk⟩⟩
  | false =>
    rw [hb] at h
    simp only
    exact ⟨cs, rfl, fun h => h, fun _ _ _ _ h => h, h, fun K' hk => hk⟩
theorem owC_rep {w : World} {Y : Nat → Prop} {σ : Sg} (n : Nat) (p : PV) (v : Value) (h : Rep w Y σ p v) : Rep w Y σ (owC n p) v := by
  unfold owC
  split
  · split
    · split
      · unfold Rep at h ⊢
        obtain ⟨a, len, cap, e, hl, hc, _, _⟩ := h
        have hl : len = 0 := by simpa using hl
        subst hl
        exact .inr ⟨rfl, a, cap, e⟩
      · exact h
    · exact h
  · exact h
theorem owZ_rep {w : World} {Y : Nat → Prop} {σ : Sg} (n : Nat) : ∀ (ps : List PV) (vs : List Value), RepL w Y σ ps vs → RepL w Y σ (owZ n ps) vs
  | [], vs, h => h
  | p :: ps, vs, h => by
    unfold RepL at h
    obtain ⟨v, vs', e, h1, h2⟩ := h
    unfold owZ RepL
    exact ⟨v, vs', e, owC_rep n p v h1, owZ_rep n ps vs' h2⟩
theorem owZ_len (n : Nat) : ∀ ps : List PV, (owZ n ps).length = ps.length
  | [] => rfl
  | p :: ps => by simp [owZ, owZ_len n ps]
theorem owC_cell (n : Nat) (p : PV) : isCell (owC n p) = isCell p := by
  unfold owC
  split
  · split
    · split <;> rfl
    · rfl
  · rfl
theorem owZ_cell (n : Nat) : ∀ ps : List PV, allCell (owZ n ps) = allCell ps
  | [] => rfl
  | p :: ps => by simp [owZ, allCell, owZ_cell n ps, owC_cell]
theorem owZ_empty {n : Nat} {h : Hdr} {sz : Nat} {es : List (List PV)} : ∀ {ps : List PV}, (∀ h sz es, PV.ow h sz es ∉ ps) → ∀ c : Nat, (owZ n ps)[c]? = some (.ow h sz es) → es = []
  | [], _, c, e => by simp [owZ] at e
  | p :: ps, hno, 0, e => by
    simp only [owZ, List.getElem?_cons_zero, Option.some.injEq] at e
    unfold owC at e
    split at e
    · split at e
      · split at e
        · cases e; rfl
        · cases e
      · cases e
    · subst e
      exact absurd (List.mem_cons_self) (hno h sz es)
  | p :: ps, hno, c + 1, e => by
    simp only [owZ, List.getElem?_cons_succ] at e
    exact owZ_empty (fun h sz es hm => hno h sz es (List.mem_cons_of_mem _ hm)) c e
theorem wkN_std {P : Program} {T : Tab} {nar : Nat} {cs : List PV} {K : List PV → Prop} (h : wkN (Sig.std P T) nar cs K) : ∃ cs', cs'.length = cs.length ∧ (allCell cs = true → allCell cs' = true) ∧ (∀ (w : World) (Y : Nat → Prop) (σ : Sg) (vs : List Value), RepL w Y σ cs vs → RepL w Y σ cs' vs) ∧ K cs' ∧ (∀ n, nar = n + 1 → hasSl cs = true → cs' = owZ n cs) ∧ ∀ K' : List PV → Prop, K' cs' → wkN (Sig.std P T) nar cs K' := by
  unfold wkN at h ⊢
  cases nar with
  | zero =>
    obtain ⟨cs', h1, h2, h3, h4, h5⟩ := wkC_std h
    exact ⟨cs', h1, h2, h3, h4, (fun n h => by omega), h5⟩
  | succ n =>
    cases hs : hasSl cs with
    | true =>
      simp only [hs] at h ⊢
      exact ⟨owZ n cs, owZ_len n cs, fun h => by rw [owZ_cell]; exact h, fun _ _ _ _ h => owZ_rep n _ _ h, h, fun m hm _ => by rw [show m = n by omega], fun K' hk => hk⟩
    | false =>
      simp only [hs] at h ⊢
      obtain ⟨cs', h1, h2, h3, h4, h5⟩ := wkC_std h
      exact ⟨cs', h1, h2, h3, h4, (fun m hm h => by cases h), h5⟩
end Go.Pv
