/-
  Pv, part 3: what the symbols of a walk stand for; the leaves of a walk.
-/
import Derived.Test.YtkejjohamlimeaaDoorPvRep
namespace Go.Pv
open Go
set_option linter.all false

def ActRep {T : Tab} (C : Ctx T) (E : Env) (a : Act) (w : World) : Prop := EnvRep C E a.tmps.toList w ∧ a.defers = []

def lift {T : Tab} (C : Ctx T) (Q : Post) : Exit → Act → World → Prop
  | .normal, a, w => ∃ E, ActRep C E a w ∧ Q 0 E
  | .ret, a, w => ∃ E, ActRep C E a w ∧ Q 1 E
  | .exit n, a, w => ∃ E, ActRep C E a w ∧ Q (n + 2) E
  | _, _, _ => False

/-- a piece of code, from an abstract state -/
def TripleC (P : Program) (T : Tab) (c : Code) (Q : Post) (E : Env) : Prop := ∀ (C : Ctx T) a w, ActRep C E a w → c.wp P (lift C Q) a w

/-- a call, from an abstract state -/
def CallT (P : Program) (T : Tab) (k : Nat) (args : List PV) (E : Env) (K : PV → Env → Prop) : Prop :=
  ∀ (C : Ctx T) (Y : Nat → Prop) (σ : Sg) (w : World) (vs cargs : List Value), SW C w Y σ E.tmps vs E.st E.next → RepL w Y σ args cargs →
    (callFunc k cargs.toArray).run P w = .ok (.enter k cargs.toArray) w ∧
    Calls P k cargs.toArray w fun e w' => ∃ cv v E' Y' σ', e = .returned cv ∧ K v E' ∧ SW C w' Y' σ' E'.tmps vs E'.st E'.next ∧ Rep w' Y' σ' v cv

/-- what a function does with pure arguments -/
def Fn (P : Program) (G : Nat → Option (List PV)) (k : Nat) (args : List PV) (R : PV → Prop) : Prop :=
  ∀ (w : World) (Y : Nat → Prop) (cargs : List Value), Glob G w Y → (∀ b, Y b → b < w.heap.size) → RepL w Y noSg args cargs →
    (callFunc k cargs.toArray).run P w = .ok (.enter k cargs.toArray) w ∧
    Calls P k cargs.toArray w fun e w' => ∃ cv v, e = .returned cv ∧ R v ∧ Rep w' Y noSg v cv ∧ Chg w w'

/-- the blocks of a store -/
def InSt (σ : Sg) (st : St) (k : Nat) : Prop := ∃ b x l, lkS st b = some x ∧ σ b = some l ∧ l.cb = k

/-- where a function begins to which blocks are handed over -/
def ctxS (T : Tab) (w : World) (Y : Nat → Prop) (σ : Sg) (st : St) : Ctx T := ⟨w, fun k => Y k ∧ ¬ InSt σ st k, InSt σ st, fun k => Y k ∧ InSt σ st k, σ⟩

/-- what a function does with blocks that are handed over: the names below n -/
def FnS (P : Program) (G : Nat → Option (List PV)) (k : Nat) (args : List PV) (st : St) (n : Nat) (R : PV → St → Nat → Prop) : Prop :=
  ∀ (w : World) (Y : Nat → Prop) (σ : Sg) (cargs : List Value), Glob G w Y → (∀ b, Y b → b < w.heap.size) → (∀ b, n ≤ b → σ b = none) → RepL w Y σ args cargs → StRep w Y σ st →
    (callFunc k cargs.toArray).run P w = .ok (.enter k cargs.toArray) w ∧
    Calls P k cargs.toArray w fun e w' => ∃ cv v st' n' Y' σ', e = .returned cv ∧ R v st' n' ∧ SW (ctxS ⟨fun _ => .bad, G, n, false⟩ w Y σ st) w' Y' σ' [v] [cv] st' n'

/-- what stands for E stands for F -/
def Ent (T : Tab) (E F : Env) : Prop := ∀ (C : Ctx T) a w, ActRep C E a w → ActRep C F a w
theorem Ent.refl {T : Tab} (E : Env) : Ent T E E := fun _ _ _ h => h

def Sig.std (P : Program) (T : Tab) : Sig where
  bin := stdBin
  cmp := stdCmp
  conv k n := k.wrap n
  neg k n := k.wrap (0 - n)
  beq a b := a == b
  band a b := a && b
  scmp := stdScmp
  slen s := (s.size : Int)
  smin a b := if b < a then b else a
  smax a b := if b > a then b else a
  len es := (es.length : Int)
  nint n := (n : Int)
  nadd a b := a + b
  nsub a b := a - b
  app a b := a ++ b
  sub rows r n := (rows.drop r).take n
  spl rows r new := rows.take r ++ new ++ rows.drop (r + new.length)
  rset rows i r := rows.set i r
  rep n r := List.replicate n r
  lenN es := es.length
  br b t f := (b = true → t ()) ∧ (b = false → f ())
  call k args E lend free ρ as st0 K :=
    (∃ bs v, lend = some bs ∧ Fn P T.gl k bs (fun u => u = v) ∧ flatV 6 v = true ∧ K v E) ∨
    (∃ bs v, free = some bs ∧ Fn P T.gl k bs (fun u => u = v) ∧ K v ⟨E.tmps, roS E.st ρ, E.next⟩) ∨
    (∃ v st1 n1, nodN ρ = true ∧ ltN E.next ρ = true ∧ FnS P T.gl k as st0 (lenNs ρ) (fun u st n => u = v ∧ st = st1 ∧ n = n1) ∧ K (renV (bakN ρ E.next) 8 v) (bakE ρ E st1 n1)) ∨
    CallT P T k args E K
  callq k args K := ∃ v, Fn P T.gl k args (fun u => u = v) ∧ K v
  callf k args K := ∃ v, Fn P T.gl k args (fun u => u = v) ∧ flatV 6 v = true ∧ K v
  loop c Q E := TripleC P T (.loop c) Q E
  seq A B Q := ∃ Q', A Q' ∧ ∀ n E, Q' n E → ∃ F, Ent T E F ∧ seqQ B Q n F
  idx es i K := ∃ (j : Nat) (row : List PV), i = (j : Int) ∧ es[j]? = some row ∧ K row
  ix n i K := ∃ j : Nat, i = (j : Int) ∧ j < n ∧ K j
  row rows j K := ∃ row, rows[j]? = some row ∧ K row
  sidx s i K := ∃ (j : Nat) (c : UInt8), i = (j : Int) ∧ s[j]? = some c ∧ K (c.toNat : Int)
  div op k a b K := b ≠ 0 ∧ K (match op with | .quo => k.wrap (a.tdiv b) | _ => a.tmod b)
  shf op k a y K := 0 ≤ y ∧ K (match op with | .shl => k.wrap (a * 2 ^ (min y.toNat k.bits)) | _ => a.fdiv (2 ^ (min y.toNat k.bits)))
  scat a b K := a.size + b.size ≤ 4611686018427387904 ∧ K (a ++ b)
  mks n m bytes K := ∃ j : Nat, n = (j : Int) ∧ n ≤ m ∧ (bytes : Int) * m ≤ 140737488355328 ∧ m ≤ 9223372036854775807 ∧ K j
  room n bytes K := (2 * n + 192) * bytes ≤ 140737488355328 ∧ n ≤ 4611686018427387904 ∧ K
  slc len a b K := ∃ i j : Nat, a = (i : Int) ∧ b = (j : Int) ∧ i ≤ j ∧ j ≤ len ∧ K i j
  sslc s a b K := ∃ i j : Nat, a = (i : Int) ∧ b = (j : Int) ∧ i ≤ j ∧ j ≤ s.size ∧ K (s.extract i j)
  nilq es K := ∀ b : Bool, (b = true → es = []) → K b
  order l p := drawOK l = true ∧ p
end Go.Pv
