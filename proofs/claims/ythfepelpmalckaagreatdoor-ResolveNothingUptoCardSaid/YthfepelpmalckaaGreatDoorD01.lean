import Derived.WalkKit
import Derived.Test.YthfepelpmalckaaGreatDoorD00
set_option linter.all false
namespace Go.Pv
open Go
inductive Tr (α:Type) where
 | e
 | n (v:α) (l r:Tr α)
abbrev Sb:=Tr (Option Blk)
abbrev Rs:=Option (PV × Dl)
structure EV where
 tm:Tr PV
 n:Nat
 st:Sb
 nx:Nat
abbrev Oe:=Option EV
abbrev Oc:=Option (Nat × EV)
abbrev CallV:=Nat→List PV→Sb→Nat→Option (PV × Sb × Nat)
inductive Nm where
 | no
 | one (b:Nat)
 | var (b:Nat)
 | many (l:List PV)
noncomputable def getP:Tr PV→Nat→PV:=fun t k=>Tr.rec (motive:=fun _=>Nat→PV) (fun _=>PV.undef) (fun v _ _ gl gr k=>Nat.rec (motive:=fun _=>PV) v (fun m _=>Bool.rec (motive:=fun _=>PV) (gr (Nat.div m 2)) (gl (Nat.div m 2)) (Nat.beq (Nat.mod m 2) 0)) k) t k
noncomputable def getB:Sb→Nat→Option Blk:=fun t k=>Tr.rec (motive:=fun _=>Nat→Option Blk) (fun _=>none) (fun v _ _ gl gr k=>Nat.rec (motive:=fun _=>Option Blk) v (fun m _=>Bool.rec (motive:=fun _=>Option Blk) (gr (Nat.div m 2)) (gl (Nat.div m 2)) (Nat.beq (Nat.mod m 2) 0)) k) t k
noncomputable def setP:PV→Nat→Tr PV→Tr PV:=fun x k t=>Nat.rec (motive:=fun _=>PV→Nat→Tr PV→Tr PV) (fun _ _ t=>t)
 (fun _ ih x k t=>Tr.rec (motive:=fun _=>Tr PV)
  (Nat.rec (motive:=fun _=>Tr PV) (Tr.n x Tr.e Tr.e) (fun m _=>Bool.rec (motive:=fun _=>Tr PV) (Tr.n PV.undef Tr.e (ih x (Nat.div m 2) Tr.e)) (Tr.n PV.undef (ih x (Nat.div m 2) Tr.e) Tr.e) (Nat.beq (Nat.mod m 2) 0)) k)
  (fun v l r _ _=>Nat.rec (motive:=fun _=>Tr PV) (Tr.n x l r) (fun m _=>Bool.rec (motive:=fun _=>Tr PV) (Tr.n v l (ih x (Nat.div m 2) r)) (Tr.n v (ih x (Nat.div m 2) l) r) (Nat.beq (Nat.mod m 2) 0)) k) t) (Nat.succ k) x k t
noncomputable def setB:Option Blk→Nat→Sb→Sb:=fun x k t=>Nat.rec (motive:=fun _=>Option Blk→Nat→Sb→Sb) (fun _ _ t=>t)
 (fun _ ih x k t=>Tr.rec (motive:=fun _=>Sb)
  (Nat.rec (motive:=fun _=>Sb) (Tr.n x Tr.e Tr.e) (fun m _=>Bool.rec (motive:=fun _=>Sb) (Tr.n none Tr.e (ih x (Nat.div m 2) Tr.e)) (Tr.n none (ih x (Nat.div m 2) Tr.e) Tr.e) (Nat.beq (Nat.mod m 2) 0)) k)
  (fun v l r _ _=>Nat.rec (motive:=fun _=>Sb) (Tr.n x l r) (fun m _=>Bool.rec (motive:=fun _=>Sb) (Tr.n v l (ih x (Nat.div m 2) r)) (Tr.n v (ih x (Nat.div m 2) l) r) (Nat.beq (Nat.mod m 2) 0)) k) t) (Nat.succ k) x k t
noncomputable def intK:PV→(IntKind→Int→Rs)→Rs:=fun v=>PV.rec (motive_1:=fun _=>(IntKind→Int→Rs)→Rs) (motive_2:=fun _=>Unit) (motive_3:=fun _=>Unit)
 (fun _ _=>none)
 (fun _ _=>none)
 (fun k n K=>K k n)
 (fun _ _ _=>none)
 (fun _ _=>none)
 (fun _ _ _=>none)
 (fun _ _ _=>none)
 (fun _ _ _ _ _=>none)
 (fun _ _ _ _=>none)
 (fun _ _ _=>none)
 (fun _ _ _ _=>none)
 (fun _ _ _=>none)
 (fun _ _ _ _ _=>none)
 (fun _ _ _ _ _ _ _=>none)
 (fun _ _ _ _ _ _ _ _=>none)
 (fun _=>none)
 (fun _ _ _ _=>none)
 (fun _=>none)
 (fun _ _=>none)
 (fun _=>none)
 (fun _=>none)
 () (fun _ _ _ _=>()) () (fun _ _ _ _=>()) v
noncomputable def intE:PV→(IntKind→Int→Rs)→Rs→Rs:=fun v=>PV.rec (motive_1:=fun _=>(IntKind→Int→Rs)→Rs→Rs) (motive_2:=fun _=>Unit) (motive_3:=fun _=>Unit)
 (fun _ _ D=>D)
 (fun _ _ D=>D)
 (fun k n K _=>K k n)
 (fun _ _ _ D=>D)
 (fun _ _ D=>D)
 (fun _ _ _ D=>D)
 (fun _ _ _ D=>D)
 (fun _ _ _ _ _ D=>D)
 (fun _ _ _ _ D=>D)
 (fun _ _ _ D=>D)
 (fun _ _ _ _ D=>D)
 (fun _ _ _ D=>D)
 (fun _ _ _ _ _ D=>D)
 (fun _ _ _ _ _ _ _ D=>D)
 (fun _ _ _ _ _ _ _ _ D=>D)
 (fun _ D=>D)
 (fun _ _ _ _ D=>D)
 (fun _ D=>D)
 (fun _ _ D=>D)
 (fun _ D=>D)
 (fun _ D=>D)
 () (fun _ _ _ _=>()) () (fun _ _ _ _=>()) v
noncomputable def bolK:PV→Rs→Rs→Rs:=fun v=>PV.rec (motive_1:=fun _=>Rs→Rs→Rs) (motive_2:=fun _=>Unit) (motive_3:=fun _=>Unit)
 (fun b X Y=>Bool.rec (motive:=fun _=>Rs) Y X b)
 (fun _ _ _=>none)
 (fun _ _ _ _=>none)
 (fun _ _ _ _=>none)
 (fun _ _ _=>none)
 (fun _ _ _ _=>none)
 (fun _ _ _ _=>none)
 (fun _ _ _ _ _ _=>none)
 (fun _ _ _ _ _=>none)
 (fun _ _ _ _=>none)
 (fun _ _ _ _ _=>none)
 (fun _ _ _ _=>none)
 (fun _ _ _ _ _ _=>none)
 (fun _ _ _ _ _ _ _ _=>none)
 (fun _ _ _ _ _ _ _ _ _=>none)
 (fun _ _=>none)
 (fun _ _ _ _ _=>none)
 (fun _ _=>none)
 (fun _ _ _=>none)
 (fun _ _=>none)
 (fun _ _=>none)
 () (fun _ _ _ _=>()) () (fun _ _ _ _=>()) v
noncomputable def bolE:PV→Oc→Oc→Oc:=fun v=>PV.rec (motive_1:=fun _=>Oc→Oc→Oc) (motive_2:=fun _=>Unit) (motive_3:=fun _=>Unit)
 (fun b X Y=>Bool.rec (motive:=fun _=>Oc) Y X b)
 (fun _ _ _=>none)
 (fun _ _ _ _=>none)
 (fun _ _ _ _=>none)
 (fun _ _ _=>none)
 (fun _ _ _ _=>none)
 (fun _ _ _ _=>none)
 (fun _ _ _ _ _ _=>none)
 (fun _ _ _ _ _=>none)
 (fun _ _ _ _=>none)
 (fun _ _ _ _ _=>none)
 (fun _ _ _ _=>none)
 (fun _ _ _ _ _ _=>none)
 (fun _ _ _ _ _ _ _ _=>none)
 (fun _ _ _ _ _ _ _ _ _=>none)
 (fun _ _=>none)
 (fun _ _ _ _ _=>none)
 (fun _ _=>none)
 (fun _ _ _=>none)
 (fun _ _=>none)
 (fun _ _=>none)
 () (fun _ _ _ _=>()) () (fun _ _ _ _=>()) v
noncomputable def adrK:PV→(Nat→Nat→Rs)→(Nat→Nat→Nat→Rs)→(List PV→Rs)→Rs:=fun v=>PV.rec (motive_1:=fun _=>(Nat→Nat→Rs)→(Nat→Nat→Nat→Rs)→(List PV→Rs)→Rs) (motive_2:=fun _=>Unit) (motive_3:=fun _=>Unit)
 (fun _ _ _ _=>none)
 (fun _ _ _ _=>none)
 (fun _ _ _ _ _=>none)
 (fun _ _ _ _ _=>none)
 (fun _ _ _ _=>none)
 (fun _ _ _ _ _=>none)
 (fun _ _ _ _ _=>none)
 (fun _ _ _ _ _ _ _=>none)
 (fun _ _ _ _ _ _=>none)
 (fun b c K1 _ _=>K1 b c)
 (fun b r c _ K2 _=>K2 b r c)
 (fun cs _ _ _ K3=>K3 cs)
 (fun _ _ _ _ _ _ _=>none)
 (fun _ _ _ _ _ _ _ _ _=>none)
 (fun _ _ _ _ _ _ _ _ _ _=>none)
 (fun _ _ _=>none)
 (fun _ _ _ _ _ _=>none)
 (fun _ _ _=>none)
 (fun _ _ _ _=>none)
 (fun _ _ _=>none)
 (fun _ _ _=>none)
 () (fun _ _ _ _=>()) () (fun _ _ _ _=>()) v
noncomputable def nckK:PV→Rs:=fun v=>PV.rec (motive_1:=fun _=>Rs) (motive_2:=fun _=>Unit) (motive_3:=fun _=>Unit)
 (fun _=>none)
 (fun _=>none)
 (fun _ _=>none)
 (fun _ _=>none)
 (fun _=>none)
 (fun _ _=>none)
 (fun _ _=>none)
 (fun _ _ _ _=>none)
 (fun _ _ _=>none)
 (fun b c=>some (PV.lv b c,[]))
 (fun b r c=>some (PV.lp b r c,[]))
 (fun cs _=>some (PV.pp cs,[]))
 (fun _ _ _ _=>none)
 (fun _ _ _ _ _ _=>none)
 (fun _ _ _ _ _ _ _=>none)
 (none)
 (fun f caps _=>some (PV.fn f caps,[]))
 (none)
 (fun _=>none)
 (none)
 (none)
 () (fun _ _ _ _=>()) () (fun _ _ _ _=>()) v
noncomputable def slcK:PV→(Nat→List (List PV)→Bool→Rs)→(Nat→Nat→Nat→Rs)→(ByteArray→Rs)→Rs:=fun v=>PV.rec (motive_1:=fun _=>(Nat→List (List PV)→Bool→Rs)→(Nat→Nat→Nat→Rs)→(ByteArray→Rs)→Rs) (motive_2:=fun _=>Unit) (motive_3:=fun _=>Unit)
 (fun _ _ _ _=>none)
 (fun _ _ _ _=>none)
 (fun _ _ _ _ _=>none)
 (fun _ _ _ _ _=>none)
 (fun s _ _ K3=>K3 s)
 (fun _ _ _ _ _=>none)
 (fun _ _ _ _ _=>none)
 (fun sz es full _ K1 _ _=>K1 sz es full)
 (fun b r n _ K2 _=>K2 b r n)
 (fun _ _ _ _ _=>none)
 (fun _ _ _ _ _ _=>none)
 (fun _ _ _ _ _=>none)
 (fun _ _ _ _ _ _ _=>none)
 (fun _ _ _ _ _ _ _ _ _=>none)
 (fun _ _ _ _ _ _ _ _ _ _=>none)
 (fun _ _ _=>none)
 (fun _ _ _ _ _ _=>none)
 (fun _ _ _=>none)
 (fun _ _ _ _=>none)
 (fun _ _ _=>none)
 (fun _ _ _=>none)
 () (fun _ _ _ _=>()) () (fun _ _ _ _=>()) v
noncomputable def aggK:PV→(List PV→Rs)→Rs:=fun v=>PV.rec (motive_1:=fun _=>(List PV→Rs)→Rs) (motive_2:=fun _=>Unit) (motive_3:=fun _=>Unit)
 (fun _ _=>none)
 (fun _ _=>none)
 (fun _ _ _=>none)
 (fun _ _ _=>none)
 (fun _ _=>none)
 (fun cs _ K=>K cs)
 (fun _ _ _=>none)
 (fun _ _ _ _ _=>none)
 (fun _ _ _ _=>none)
 (fun _ _ _=>none)
 (fun _ _ _ _=>none)
 (fun _ _ _=>none)
 (fun _ _ _ _ _=>none)
 (fun _ _ _ _ _ _ _=>none)
 (fun _ _ _ _ _ _ _ _=>none)
 (fun _=>none)
 (fun _ _ _ _=>none)
 (fun _=>none)
 (fun _ _=>none)
 (fun _=>none)
 (fun _=>none)
 () (fun _ _ _ _=>()) () (fun _ _ _ _=>()) v
noncomputable def tupK:PV→(List PV→Rs)→Rs:=fun v=>PV.rec (motive_1:=fun _=>(List PV→Rs)→Rs) (motive_2:=fun _=>Unit) (motive_3:=fun _=>Unit)
 (fun _ _=>none)
 (fun _ _=>none)
 (fun _ _ _=>none)
 (fun _ _ _=>none)
 (fun _ _=>none)
 (fun _ _ _=>none)
 (fun vs _ K=>K vs)
 (fun _ _ _ _ _=>none)
 (fun _ _ _ _=>none)
 (fun _ _ _=>none)
 (fun _ _ _ _=>none)
 (fun _ _ _=>none)
 (fun _ _ _ _ _=>none)
 (fun _ _ _ _ _ _ _=>none)
 (fun _ _ _ _ _ _ _ _=>none)
 (fun _=>none)
 (fun _ _ _ _=>none)
 (fun _=>none)
 (fun _ _=>none)
 (fun _=>none)
 (fun _=>none)
 () (fun _ _ _ _=>()) () (fun _ _ _ _=>()) v
noncomputable def celK:PV→(List PV→Rs)→Rs:=fun v=>PV.rec (motive_1:=fun _=>(List PV→Rs)→Rs) (motive_2:=fun _=>Unit) (motive_3:=fun _=>Unit)
 (fun b K=>K [PV.bool b])
 (fun _ _=>none)
 (fun k n K=>K [PV.int k n])
 (fun _ _ _=>none)
 (fun s K=>K [PV.str s])
 (fun cs _ K=>K cs)
 (fun _ _ _=>none)
 (fun sz es full _ K=>K [PV.sl sz es full])
 (fun b r n K=>K [PV.os b r n])
 (fun b c K=>K [PV.lv b c])
 (fun b r c K=>K [PV.lp b r c])
 (fun cs _ K=>K [PV.pp cs])
 (fun _ _ _ _ _=>none)
 (fun _ _ _ _ _ _ _=>none)
 (fun _ _ _ _ _ _ _ _=>none)
 (fun K=>K [PV.nilp])
 (fun f caps _ K=>K [PV.fn f caps])
 (fun K=>K [PV.nilf])
 (fun _ _=>none)
 (fun _=>none)
 (fun _=>none)
 () (fun _ _ _ _=>()) () (fun _ _ _ _=>()) v
noncomputable def fnE:PV→(Nat→List PV→Option (PV × Sb × Nat))→Option (PV × Sb × Nat):=fun v=>PV.rec (motive_1:=fun _=>(Nat→List PV→Option (PV × Sb × Nat))→Option (PV × Sb × Nat)) (motive_2:=fun _=>Unit) (motive_3:=fun _=>Unit)
 (fun _ _=>none)
 (fun _ _=>none)
 (fun _ _ _=>none)
 (fun _ _ _=>none)
 (fun _ _=>none)
 (fun _ _ _=>none)
 (fun _ _ _=>none)
 (fun _ _ _ _ _=>none)
 (fun _ _ _ _=>none)
 (fun _ _ _=>none)
 (fun _ _ _ _=>none)
 (fun _ _ _=>none)
 (fun _ _ _ _ _=>none)
 (fun _ _ _ _ _ _ _=>none)
 (fun _ _ _ _ _ _ _ _=>none)
 (fun _=>none)
 (fun f caps _ K=>K f caps)
 (fun _=>none)
 (fun _ _=>none)
 (fun _=>none)
 (fun _=>none)
 () (fun _ _ _ _=>()) () (fun _ _ _ _=>()) v
noncomputable def isPur:PV→Bool:=fun v=>PV.rec (motive_1:=fun _=>Bool) (motive_2:=fun _=>Unit) (motive_3:=fun _=>Unit)
 (fun _=>true)
 (fun _=>true)
 (fun _ _=>true)
 (fun _ _=>true)
 (fun _=>true)
 (fun _ _=>false)
 (fun _ _=>false)
 (fun _ _ _ _=>true)
 (fun _ _ _=>false)
 (fun _ _=>false)
 (fun _ _ _=>false)
 (fun _ _=>true)
 (fun _ _ _ _=>false)
 (fun _ _ _ _ _ _=>false)
 (fun _ _ _ _ _ _ _=>false)
 (true)
 (fun _ caps _=>List.rec (motive:=fun _=>Bool) true (fun _ _ _=>false) caps)
 (true)
 (fun _=>false)
 (false)
 (false)
 () (fun _ _ _ _=>()) () (fun _ _ _ _=>()) v
noncomputable def isCel:PV→Bool:=fun v=>PV.rec (motive_1:=fun _=>Bool) (motive_2:=fun _=>Unit) (motive_3:=fun _=>Unit)
 (fun _=>true)
 (fun _=>true)
 (fun _ _=>true)
 (fun _ _=>true)
 (fun _=>true)
 (fun _ _=>false)
 (fun _ _=>false)
 (fun _ _ _ _=>true)
 (fun _ _ _=>true)
 (fun _ _=>true)
 (fun _ _ _=>true)
 (fun _ _=>true)
 (fun _ _ _ _=>true)
 (fun _ _ _ _ _ _=>true)
 (fun _ _ _ _ _ _ _=>true)
 (true)
 (fun _ _ _=>true)
 (true)
 (fun _=>true)
 (false)
 (false)
 () (fun _ _ _ _=>()) () (fun _ _ _ _=>()) v
noncomputable def gdK:PV→Bool→Option Bool:=fun v=>PV.rec (motive_1:=fun _=>Bool→Option Bool) (motive_2:=fun _=>Unit) (motive_3:=fun _=>Unit)
 (fun b w=>some (Bool.rec (motive:=fun _=>Bool) (Bool.rec (motive:=fun _=>Bool) true false w) w b))
 (fun _ _=>none)
 (fun _ _ _=>none)
 (fun _ _ _=>none)
 (fun _ _=>none)
 (fun _ _ _=>none)
 (fun _ _ _=>none)
 (fun _ _ _ _ _=>none)
 (fun _ _ _ _=>none)
 (fun _ _ _=>none)
 (fun _ _ _ _=>none)
 (fun _ _ _=>none)
 (fun _ _ _ _ _=>none)
 (fun _ _ _ _ _ _ _=>none)
 (fun _ _ _ _ _ _ _ _=>none)
 (fun _=>none)
 (fun _ _ _ _=>none)
 (fun _=>none)
 (fun _ _=>none)
 (fun _=>none)
 (fun _=>some false)
 () (fun _ _ _ _=>()) () (fun _ _ _ _=>()) v
noncomputable def nmL:PV→(List Nat→List Nat):=fun v=>PV.rec (motive_1:=fun _=>(List Nat→List Nat)) (motive_2:=fun _=>(List Nat→List Nat)) (motive_3:=fun _=>Unit)
 (fun _=>fun acc=>acc)
 (fun _=>fun acc=>acc)
 (fun _ _=>fun acc=>acc)
 (fun _ _=>fun acc=>acc)
 (fun _=>fun acc=>acc)
 (fun _ ih=>ih)
 (fun _ ih=>ih)
 (fun _ _ _ _=>fun acc=>acc)
 (fun b _ _=>fun acc=>b::acc)
 (fun b _=>fun acc=>b::acc)
 (fun b _ _=>fun acc=>b::acc)
 (fun _ _=>fun acc=>acc)
 (fun _ _ _ _=>fun acc=>acc)
 (fun _ _ _ _ _ _=>fun acc=>acc)
 (fun _ _ _ _ _ _ _=>fun acc=>acc)
 (fun acc=>acc)
 (fun _ _ ih=>ih)
 (fun acc=>acc)
 (fun _=>fun acc=>acc)
 (fun acc=>acc)
 (fun acc=>acc)
 (fun acc=>acc) (fun _ _ x ih acc=>ih (x acc)) () (fun _ _ _ _=>()) v
noncomputable def allN (p:Nat→Bool):PV→Bool:=fun v=>PV.rec (motive_1:=fun _=>Bool) (motive_2:=fun _=>Bool) (motive_3:=fun _=>Unit)
 (fun _=>true)
 (fun _=>true)
 (fun _ _=>true)
 (fun _ _=>true)
 (fun _=>true)
 (fun _ ih=>ih)
 (fun _ ih=>ih)
 (fun _ _ _ _=>true)
 (fun b _ _=>p b)
 (fun b _=>p b)
 (fun b _ _=>p b)
 (fun _ _=>true)
 (fun _ _ _ _=>false)
 (fun _ _ _ _ _ _=>false)
 (fun _ _ _ _ _ _ _=>false)
 (true)
 (fun _ _ ih=>ih)
 (true)
 (fun _=>false)
 (true)
 (true)
 true (fun _ _ x ih=>Bool.rec (motive:=fun _=>Bool) false ih x) () (fun _ _ _ _=>()) v
noncomputable def okK:TI→(Bool→Nat→Option (List PV)→Option (List Nat)→TK→Rs)→Rs:=fun t K=>TI.rec (motive:=fun _=>Rs) (fun ok agg size zero plain kind=>Bool.rec (motive:=fun _=>Rs) none (K agg size zero plain kind) ok) t
noncomputable def stcK:TK→(List FI→Rs)→Rs:=fun t=>TK.rec (motive:=fun _=>(List FI→Rs)→Rs) (fun _=>none) (fun _=>none) (fun _=>none) (fun _ _=>none) (fun fs K=>K fs) (fun _ _ _ _=>none) (fun _ _ _ _=>none) (fun _ _ _=>none) t
noncomputable def sliK:TK→(Nat→Nat→Option (List PV)→Rs)→Rs:=fun t=>TK.rec (motive:=fun _=>(Nat→Nat→Option (List PV)→Rs)→Rs) (fun _=>none) (fun _=>none) (fun _=>none) (fun _ _=>none) (fun _ _=>none) (fun _ _ _ _=>none) (fun sz bytes zero K=>K sz bytes zero) (fun _ _ _=>none) t
noncomputable def intT:TK→(IntKind→Rs)→Rs:=fun t=>TK.rec (motive:=fun _=>(IntKind→Rs)→Rs) (fun _=>none) (fun _=>none) (fun _=>none) (fun k K=>K k) (fun _ _=>none) (fun _ _ _ _=>none) (fun _ _ _ _=>none) (fun _ _ _=>none) t
noncomputable def strT:TK→Rs→Rs:=fun t=>TK.rec (motive:=fun _=>Rs→Rs) (fun _=>none) (fun K=>K) (fun _=>none) (fun _ _=>none) (fun _ _=>none) (fun _ _ _ _=>none) (fun _ _ _ _=>none) (fun _ _ _=>none) t
noncomputable def ixT:TK→(Nat→Nat→Option (List PV)→Rs)→(Nat→Nat→Bool→Rs)→Rs→Rs:=fun t=>TK.rec (motive:=fun _=>(Nat→Nat→Option (List PV)→Rs)→(Nat→Nat→Bool→Rs)→Rs→Rs) (fun _ _ _=>none) (fun _ _ K=>K) (fun _ _ _=>none) (fun _ _ _ _=>none) (fun _ _ _ _=>none) (fun n sz agg _ K _=>K n sz agg) (fun sz bytes zero K _ _=>K sz bytes zero) (fun _ _ _ _ _=>none) t
noncomputable def varK:Option Blk→(Bool→List PV→Rs)→Rs:=fun x=>Option.rec (motive:=fun _=>(Bool→List PV→Rs)→Rs) (fun _=>none) (fun x=>Blk.rec (motive:=fun _=>(Bool→List PV→Rs)→Rs) (fun ro row K=>K ro row) (fun _ _ _ _=>none) (fun _ _ _=>none) (fun _ _=>none) x) x
noncomputable def arrK:Option Blk→(Bool→Nat→List (List PV)→Rs)→Rs:=fun x=>Option.rec (motive:=fun _=>(Bool→Nat→List (List PV)→Rs)→Rs) (fun _=>none) (fun x=>Blk.rec (motive:=fun _=>(Bool→Nat→List (List PV)→Rs)→Rs) (fun _ _ _=>none) (fun ro sz rows K=>K ro sz rows) (fun _ _ _=>none) (fun _ _=>none) x) x
noncomputable def ifK (b:Bool) (x:Rs):Rs:=Bool.rec (motive:=fun _=>Rs) none x b
noncomputable def optK:Option (List PV)→(List PV→Rs)→Rs:=fun x K=>Option.rec (motive:=fun _=>Rs) none (fun z=>K z) x
noncomputable def fldK:List FI→Nat→(Nat→Nat→Bool→Rs)→Rs:=fun l n=>List.rec (motive:=fun _=>Nat→(Nat→Nat→Bool→Rs)→Rs) (fun _ _=>none) (fun x _ ih n=>Nat.rec (motive:=fun _=>(Nat→Nat→Bool→Rs)→Rs) (fun K=>FI.rec (motive:=fun _=>Rs) (fun off size agg=>K off size agg) x) (fun m _=>ih m) n) l n
noncomputable def rowK:List (List PV)→Nat→(List PV→Rs)→Rs:=fun l n=>List.rec (motive:=fun _=>Nat→(List PV→Rs)→Rs) (fun _ _=>none) (fun x _ ih n=>Nat.rec (motive:=fun _=>(List PV→Rs)→Rs) (fun K=>K x) (fun m _=>ih m) n) l n
noncomputable def natK:Int→(Nat→Rs)→Rs:=fun n K=>Int.rec (motive:=fun _=>Rs) (fun m=>K m) (fun _=>none) n
noncomputable def lenR:List PV→Nat:=fun l=>List.rec (motive:=fun _=>Nat) 0 (fun _ _ ih=>Nat.succ ih) l
noncomputable def lenRR:List (List PV)→Nat:=fun l=>List.rec (motive:=fun _=>Nat) 0 (fun _ _ ih=>Nat.succ ih) l
noncomputable def dropR:Nat→List PV→List PV:=fun n l=>Nat.rec (motive:=fun _=>List PV→List PV) (fun l=>l) (fun _ ih l=>List.rec (motive:=fun _=>List PV) [] (fun _ t _=>ih t) l) n l
noncomputable def takeR:Nat→List PV→List PV:=fun n l=>Nat.rec (motive:=fun _=>List PV→List PV) (fun _=>[]) (fun _ ih l=>List.rec (motive:=fun _=>List PV) [] (fun x t _=>x::ih t) l) n l
noncomputable def dropRR:Nat→List (List PV)→List (List PV):=fun n l=>Nat.rec (motive:=fun _=>List (List PV)→List (List PV)) (fun l=>l) (fun _ ih l=>List.rec (motive:=fun _=>List (List PV)) [] (fun _ t _=>ih t) l) n l
noncomputable def takeRR:Nat→List (List PV)→List (List PV):=fun n l=>Nat.rec (motive:=fun _=>List (List PV)→List (List PV)) (fun _=>[]) (fun _ ih l=>List.rec (motive:=fun _=>List (List PV)) [] (fun x t _=>x::ih t) l) n l
noncomputable def appRR:List (List PV)→List (List PV)→List (List PV):=fun l m=>List.rec (motive:=fun _=>List (List PV)) m (fun x _ ih=>x::ih) l
noncomputable def appR:List PV→List PV→List PV:=fun l m=>List.rec (motive:=fun _=>List PV) m (fun x _ ih=>x::ih) l
noncomputable def setRR:List (List PV)→Nat→List PV→List (List PV):=fun l n v=>List.rec (motive:=fun _=>Nat→List PV→List (List PV)) (fun _ _=>[]) (fun x l ih n v=>Nat.rec (motive:=fun _=>List (List PV)) (v::l) (fun m _=>x::ih m v) n) l n v
noncomputable def ovrR:List PV→List PV→List PV:=fun cs row=>List.rec (motive:=fun _=>List PV→List PV) (fun row=>row) (fun x _ ih row=>List.rec (motive:=fun _=>List PV) [] (fun _ t _=>x::ih t) row) cs row
noncomputable def splR:Nat→List PV→List PV→List PV:=fun c cs row=>Nat.rec (motive:=fun _=>List PV→List PV→List PV) (fun cs row=>ovrR cs row) (fun _ ih cs row=>List.rec (motive:=fun _=>List PV) [] (fun x t _=>x::ih cs t) row) c cs row
noncomputable def allB (f:PV→Bool):List PV→Bool:=fun l=>List.rec (motive:=fun _=>Bool) true (fun x _ ih=>Bool.rec (motive:=fun _=>Bool) false ih (f x)) l
noncomputable def chkR:Nat→Nat→List PV→List (List PV):=fun n sz l=>Nat.rec (motive:=fun _=>Nat→List PV→List (List PV)) (fun _ _=>[]) (fun _ ih sz l=>takeR sz l::ih sz (dropR sz l)) n sz l
noncomputable def repR:Nat→List PV→List PV:=fun n l=>Nat.rec (motive:=fun _=>List PV→List PV) (fun _=>[]) (fun _ ih l=>appR l (ih l)) n l
noncomputable def repRR:Nat→List PV→List (List PV):=fun n l=>Nat.rec (motive:=fun _=>List PV→List (List PV)) (fun _=>[]) (fun _ ih l=>l::ih l) n l
noncomputable def kN:IntKind→Nat:=fun k=>IntKind.rec (motive:=fun _=>Nat) 0 1 2 3 4 5 6 7 k
noncomputable def kEq (a b:IntKind):Bool:=Nat.beq (kN a) (kN b)
noncomputable def zSub:Nat→Nat→Int:=fun m n=>Nat.rec (motive:=fun _=>Int) (Int.ofNat (Nat.sub m n)) (fun k _=>Int.negSucc k) (Nat.sub n m)
noncomputable def zAdd:Int→Int→Int:=fun a b=>Int.rec (motive:=fun _=>Int→Int) (fun m b=>Int.rec (motive:=fun _=>Int) (fun n=>Int.ofNat (Nat.add m n)) (fun n=>zSub m (Nat.succ n)) b) (fun m b=>Int.rec (motive:=fun _=>Int) (fun n=>zSub n (Nat.succ m)) (fun n=>Int.negSucc (Nat.succ (Nat.add m n))) b) a b
noncomputable def zNeg:Int→Int:=fun a=>Int.rec (motive:=fun _=>Int) (fun m=>Nat.rec (motive:=fun _=>Int) (Int.ofNat 0) (fun k _=>Int.negSucc k) m) (fun m=>Int.ofNat (Nat.succ m)) a
noncomputable def ltI:Int→Int→Bool:=fun a b=>Int.rec (motive:=fun _=>Int→Bool) (fun m b=>Int.rec (motive:=fun _=>Bool) (fun n=>Nat.ble (Nat.succ m) n) (fun _=>false) b) (fun m b=>Int.rec (motive:=fun _=>Bool) (fun _=>true) (fun n=>Nat.ble (Nat.succ n) m) b) a b
noncomputable def eqI:Int→Int→Bool:=fun a b=>Int.rec (motive:=fun _=>Int→Bool) (fun m b=>Int.rec (motive:=fun _=>Bool) (fun n=>Nat.beq m n) (fun _=>false) b) (fun m b=>Int.rec (motive:=fun _=>Bool) (fun _=>false) (fun n=>Nat.beq m n) b) a b
noncomputable def notB:Bool→Bool:=fun b=>Bool.rec (motive:=fun _=>Bool) true false b
noncomputable def half:IntKind→Nat:=fun k=>IntKind.rec (motive:=fun _=>Nat) 128 32768 2147483648 9223372036854775808 256 65536 4294967296 18446744073709551616 k
noncomputable def negOk:IntKind→Nat:=fun k=>IntKind.rec (motive:=fun _=>Nat) 128 32768 2147483648 9223372036854775808 0 0 0 0 k
noncomputable def wrapI (k:IntKind):Int→Int:=fun n=>Int.rec (motive:=fun _=>Int) (fun m=>Bool.rec (motive:=fun _=>Int) (k.wrap (Int.ofNat m)) (Int.ofNat m) (Nat.ble (Nat.succ m) (half k))) (fun m=>Bool.rec (motive:=fun _=>Int) (k.wrap (Int.negSucc m)) (Int.negSucc m) (Nat.ble (Nat.succ m) (negOk k))) n
noncomputable def fzI (n:Int) (K:Int→Rs):Rs:=Int.rec (motive:=fun _=>Rs) (fun m=>Nat.rec (motive:=fun _=>Rs) (K (Int.ofNat 0)) (fun j _=>K (Int.ofNat (Nat.succ j))) m) (fun m=>K (Int.negSucc m)) n
noncomputable def okI (k:IntKind) (n:Int):Rs:=fzI n fun n=>some (PV.int k n,[])
noncomputable def okB (b:Bool):Rs:=some (PV.bool b,[])
abbrev BinF:=IntKind→Int→IntKind→Int→Rs
noncomputable def sameK (f:IntKind→Int→Int→Rs):BinF:=fun k a k' b=>ifK (kEq k k') (f k a b)
noncomputable def binI:BinOp→BinF:=fun op=>BinOp.rec (motive:=fun _=>BinF)
 (sameK fun k a b=>okI k (wrapI k (zAdd a b)))
 (sameK fun k a b=>okI k (wrapI k (zAdd a (zNeg b))))
 (sameK fun k a b=>okI k (wrapI k (Int.mul a b)))
 (sameK fun k a b=>ifK (notB (eqI b (Int.ofNat 0))) (okI k (k.wrap (a.tdiv b))))
 (sameK fun k a b=>ifK (notB (eqI b (Int.ofNat 0))) (okI k (a.tmod b)))
 (sameK fun k a b=>okI k (stdBin .and k a b))
 (sameK fun k a b=>okI k (stdBin .or k a b))
 (sameK fun k a b=>okI k (stdBin .xor k a b))
 (fun k a _ b=>ifK (notB (ltI b (Int.ofNat 0))) (okI k (k.wrap (a * 2 ^ (min b.toNat k.bits)))))
 (fun k a _ b=>ifK (notB (ltI b (Int.ofNat 0))) (okI k (a.fdiv (2 ^ (min b.toNat k.bits)))))
 (sameK fun k a b=>okI k (stdBin .andNot k a b))
 (sameK fun _ a b=>okB (eqI a b))
 (sameK fun _ a b=>okB (notB (eqI a b)))
 (sameK fun _ a b=>okB (ltI a b))
 (sameK fun _ a b=>okB (notB (ltI b a)))
 (sameK fun _ a b=>okB (ltI b a))
 (sameK fun _ a b=>okB (notB (ltI a b))) op
noncomputable def eqB:List UInt8→List UInt8→Bool
 | [],[]=>true
 | a::l,b::m=>(match Nat.beq a.toNat b.toNat with | true=>eqB l m | false=>false)
 | _,_=>false
noncomputable def eqS (a b:ByteArray):Bool:=eqB a.data.toList b.data.toList
noncomputable def eqC1:Nat→PV→PV→Option Bool
 | 0,.int k a,.int k' b=>bif kEq k k' then some (eqI a b) else none
 | 1,.bool a,.bool b=>some (match a with | true=>b | false=>!b)
 | 2,.str a,.str b=>some (eqS a b)
 | _,_,_=>none
noncomputable def eqCs1:List Nat→List PV→List PV→Option Bool
 | [],[],[]=>some true
 | k::ks,x::xs,y::ys =>
  match eqC1 k x y with
  | none=>none
  | some b=>(match eqCs1 ks xs ys with | none=>none | some c=>some (match b with | true=>c | false=>false))
 | _,_,_=>none
noncomputable def eqlR (op:BinOp) (b:Bool):Rs :=
 bif isEql op then some (.bool b,[]) else bif isNeq op then some (.bool (!b),[]) else none
noncomputable def binR (t:TI) (op:BinOp) (x y:PV):Rs :=
 match x,y with
 | .str a,.str b=>eqlR op (eqS a b)
 | .agg xs,.agg ys =>
  (match t with
  | { ok:=true,agg:=true,plain:=some ks,.. }=>(match eqCs1 ks xs ys with
   | some b=>eqlR op b
   | none=>none)
  | _=>none)
 | .bool a,.bool b=>(match t with
    | { ok:=true,agg:=false,plain:=some [1],.. }=>eqlR op (match a with | true=>b | false=>!b)
    | _=>none)
 | x,y=>(match t with
    | { ok:=true,kind:=.ptr,.. } =>
     bif isNilP x && isNilP y then eqlR op true
     else bif (isNilP x && isPtrP y) || (isPtrP x && isNilP y) then eqlR op false
     else none
    | _=>none)
noncomputable def binV (t:TI) (op:BinOp) (x y:PV):Rs :=
 okK t fun _ _ _ _ _=>intE x (fun k a=>intK y fun k' b=>binI op k a k' b) (binR t op x y)
noncomputable def nilV (t:TI) (op:BinOp) (x:PV):Rs :=
 okK t fun _ _ _ _ kind=>sliK kind fun _ _ _=>slcK x
  (fun _ es _=>List.rec (motive:=fun _=>Rs) none (fun _ _ _=>eqlR op false) es)
  (fun _ _ n=>Nat.rec (motive:=fun _=>Rs) none (fun _ _=>eqlR op false) n)
  (fun _=>none)
noncomputable def nthK:List PV→Nat→Rs:=fun l n=>List.rec (motive:=fun _=>Nat→Rs) (fun _=>none) (fun x _ ih n=>Nat.rec (motive:=fun _=>Rs) (some (x,[])) (fun m _=>ih m) n) l n
noncomputable def load1 (agg:Bool) (size:Nat) (row:List PV) (c:Nat):Rs :=
 Bool.rec (motive:=fun _=>Rs) (nthK row c) (ifK (Nat.ble (Nat.add c size) (lenR row)) (some (PV.agg (takeR size (dropR c row)),[]))) agg
noncomputable def stoK (size:Nat) (row:List PV) (c:Nat) (cs:List PV) (K:List PV→Rs):Rs :=
 ifK (Nat.beq (lenR cs) size) (ifK (Nat.ble (Nat.add c size) (lenR row)) (K (splR c cs row)))
noncomputable def pur1 (lk:Nat→Option Blk):List PV→Option (List PV × Dl)
 | []=>some ([],[])
 | v::vs=>match pur1 lk vs with
  | none=>none
  | some (vs',δ)=>match v with
   | .os b r n=>(match lk b with
    | some (.arr _ sz rows)=>some (.sl sz (takeRR n (dropRR r rows)) false::vs',(b,some (.arr true sz rows))::δ)
    | _=>none)
   | .lv _ _ | .lp _ _ _ | .fn _ (_::_) | .agg _ | .tup _ | .top | .undef | .ow _ _ _ | .bo _ _ _ _ _ _ | .np _ _ _ _ _ _ _ | .mp _=>none
   | v=>some (v::vs',δ)
noncomputable def purK (lk:Nat→Option Blk) (cs:List PV) (K:List PV→Dl→Rs):Rs :=
 Bool.rec (motive:=fun _=>Rs) (Option.rec (motive:=fun _=>Rs) none (fun p=>Prod.rec (motive:=fun _=>Rs) (fun cs δ=>K cs δ) p) (pur1 lk cs)) (K cs []) (allB isPur cs)
noncomputable def memB (b:Nat):Dl→Bool:=fun δ=>List.rec (motive:=fun _=>Bool) false (fun x _ ih=>Bool.rec (motive:=fun _=>Bool) ih true (Nat.beq x.1 b)) δ
noncomputable def appD:Dl→Dl→Dl:=fun l m=>List.rec (motive:=fun _=>Dl) m (fun x _ ih=>x::ih) l
noncomputable def one (v:PV):Rs:=some (v,[])
noncomputable def v_alloc (t:TI) (id:Nat):Rs:=okK t fun _ _ zero _ _=>optK zero fun z=>some (PV.lv id 0,[(id,some (Blk.var false z))])
noncomputable def v_box (x:PV) (id:Nat):Rs:=celK x fun cs=>some (PV.lv id 0,[(id,some (Blk.var false cs))])
noncomputable def v_fieldAddr (t:TI) (x:PV) (f:Nat):Rs :=
 okK t fun _ _ _ _ kind=>stcK kind fun fs=>fldK fs f fun off size _=>ifK (isPos size) (adrK x (fun b c=>some (PV.lv b (Nat.add c off),[])) (fun b r c=>some (PV.lp b r (Nat.add c off),[])) (fun cs=>ifK (Nat.ble off (lenR cs)) (some (PV.pp (dropR off cs),[]))))
noncomputable def v_field (t:TI) (x:PV) (f:Nat):Rs :=
 okK t fun _ _ _ _ kind=>stcK kind fun fs=>fldK fs f fun off size agg=>ifK (isPos size) (aggK x fun cs=>load1 agg size cs off)
noncomputable def v_load (t:TI) (x:PV) (lk:Nat→Option Blk):Rs :=
 okK t fun agg size _ _ _=>adrK x (fun b c=>varK (lk b) fun _ row=>load1 agg size row c) (fun b r c=>arrK (lk b) fun _ _ rows=>rowK rows r fun row=>load1 agg size row c) (fun cs=>load1 agg size cs 0)
noncomputable def v_store (t:TI) (x y:PV) (lk:Nat→Option Blk):Rs :=
 okK t fun _ size _ _ _=>adrK x
  (fun b c=>varK (lk b) fun ro row=>ifK (notB ro) (celK y fun cs=>ifK (allB isCel cs) (stoK size row c cs fun row'=>some (PV.undef,[(b,some (Blk.var false row'))]))))
  (fun b r c=>arrK (lk b) fun ro sz rows=>ifK (notB ro) (celK y fun cs=>purK lk cs fun cs δ=>ifK (notB (memB b δ)) (rowK rows r fun row=>stoK size row c cs fun row'=>some (PV.undef,appD δ [(b,some (Blk.arr false sz (setRR rows r row')))]))))
  (fun _=>none)
noncomputable def v_not (x:PV):Rs:=bolK x (some (PV.bool false,[])) (some (PV.bool true,[]))
noncomputable def v_neg (x:PV):Rs:=intK x fun k n=>okI k (wrapI k (zNeg n))
noncomputable def v_convert (s d:TI) (x:PV):Rs:=okK s fun _ _ _ _ _=>okK d fun _ _ _ _ kind=>intT kind fun k=>intK x fun _ n=>okI k (wrapI k n)
noncomputable def v_indexAddr (t:TI) (x i:PV) (lk:Nat→Option Blk):Rs :=
 okK t fun _ _ _ _ kind=>intK i fun _ n=>natK n fun j=>ixT kind
  (fun esz _ _=>ifK (isPos esz) (slcK x (fun sz es _=>ifK (Nat.beq sz esz) (rowK es j fun row=>some (PV.pp row,[])))
   (fun b r len=>arrK (lk b) fun _ sz _=>ifK (Nat.beq sz esz) (ifK (Nat.ble (Nat.succ j) len) (some (PV.lp b (Nat.add r j) 0,[])))) (fun _=>none)))
  (fun len esz _=>ifK (isPos esz) (ifK (Nat.ble (Nat.succ j) len) (adrK x (fun b c=>some (PV.lv b (Nat.add c (Nat.mul j esz)),[])) (fun b r c=>some (PV.lp b r (Nat.add c (Nat.mul j esz)),[])) (fun cs=>ifK (Nat.ble (Nat.mul j esz) (lenR cs)) (some (PV.pp (dropR (Nat.mul j esz) cs),[]))))))
  none
noncomputable def nthU:List UInt8→Nat→Rs:=fun l n=>List.rec (motive:=fun _=>Nat→Rs) (fun _=>none) (fun x _ ih n=>Nat.rec (motive:=fun _=>Rs) (okI .u8 (Int.ofNat x.toNat)) (fun m _=>ih m) n) l n
noncomputable def v_index (t:TI) (x i:PV):Rs :=
 okK t fun _ _ _ _ kind=>intK i fun _ n=>natK n fun j=>ixT kind (fun _ _ _=>none)
  (fun len esz agg=>ifK (isPos esz) (ifK (Nat.ble (Nat.succ j) len) (aggK x fun cs=>load1 agg esz cs (Nat.mul j esz))))
  (slcK x (fun _ _ _=>none) (fun _ _ _=>none) (fun s=>nthU s.data.toList j))
noncomputable def v_extract (x:PV) (i:Nat):Rs:=tupK x fun vs=>nthK vs i
abbrev Plc:=Nat→(Nat→Nat→Rs)→Rs
noncomputable def filK (ev:Operand→PV) (len:Nat) (place:Plc):List (Nat × Operand)→List PV→(List PV→Rs)→Rs:=fun parts=>List.rec (motive:=fun _=>List PV→(List PV→Rs)→Rs) (fun cells K=>K cells)
 (fun p _ ih cells K=>place p.1 fun off size=>celK (ev p.2) fun cs=>ifK (Nat.beq (lenR cs) size) (ifK (Nat.ble (Nat.add off size) len) (ih (splR off cs cells) K))) parts
noncomputable def v_build (t:TI) (ev:Operand→PV) (parts:Array (Nat × Operand)):Rs :=
 okK t fun _ _ zero _ kind=>optK zero fun z=>TK.rec (motive:=fun _=>Rs) none none none (fun _=>none)
  (fun fs=>filK ev (lenR z) (fun i K=>fldK fs i fun off size _=>K off size) parts.toList z fun cs=>some (PV.agg cs,[]))
  (fun _ esz _=>filK ev (lenR z) (fun i K=>K (Nat.mul i esz) esz) parts.toList z fun cs=>some (PV.agg cs,[]))
  (fun _ _ _=>none) (fun _ _=>none) kind
noncomputable def v_buildSlice (t:TI) (len:Nat) (ev:Operand→PV) (parts:Array (Nat × Operand)) (lk:Nat→Option Blk) (id:Nat):Rs :=
 okK t fun _ _ _ _ kind=>sliK kind fun esz _ zero=>optK zero fun z=>ifK (isPos esz) (ifK (Nat.beq (lenR z) esz) (ifK (Nat.ble (Nat.mul len esz) 16777216)
  (filK ev (Nat.mul len esz) (fun i K=>K (Nat.mul i esz) esz) parts.toList (repR len z) fun cs=>purK lk cs fun cs δ=>some (PV.os id 0 len,appD δ [(id,some (Blk.arr false esz (chkR len esz cs)))]))))
noncomputable def evA1 (ev:Operand→PV):List Operand→List PV:=fun l=>List.rec (motive:=fun _=>List PV) [] (fun x _ ih=>ev x::ih) l
noncomputable def v_makeFunc (f:Fn) (first:Array Operand) (ev:Operand→PV) (captured:Array Operand):Rs :=
 match f,first.toList with
 | .func f,[]=>some (PV.fn f (evA1 ev captured.toList),[])
 | _,_=>none
noncomputable def v_makeSlice (t:TI) (x y:PV) (id:Nat):Rs :=
 okK t fun _ _ _ _ kind=>sliK kind fun esz bytes zero=>optK zero fun z=>intK x fun _ n=>natK n fun n=>intK y fun _ m=>natK m fun m =>
  ifK (isPos esz) (ifK (Nat.beq (lenR z) esz) (ifK (allB isCel z) (ifK (Nat.ble n m) (ifK (Nat.ble (Nat.mul bytes m) 140737488355328) (ifK (Nat.ble m 9223372036854775807) (some (PV.os id 0 n,[(id,some (Blk.arr false esz (repRR n z)))])))))))
noncomputable def bndK (d:Nat) (x:Option PV) (K:Nat→Rs):Rs:=Option.rec (motive:=fun _=>Rs) (K d) (fun v=>intK v fun _ n=>natK n K) x
noncomputable def zeroK (lo hi:Option PV) (m:PV) (x:Rs):Rs:=Option.rec (motive:=fun _=>Rs) (Option.rec (motive:=fun _=>Rs) none (fun h=>intK h fun _ a=>natK a fun a=>intK m fun _ b=>natK b fun b=>ifK (Nat.beq a 0) (ifK (Nat.beq b 0) x)) hi) (fun _=>none) lo
noncomputable def v_slice (t:TI) (x:PV) (lo hi mx:Option PV) (lk:Nat→Option Blk):Rs :=
 Option.rec (motive:=fun _=>Rs)
  (okK t fun _ _ _ _ kind=>sliK kind fun esz _ _=>ifK (isPos esz) (slcK x
   (fun sz es full=>ifK (Nat.beq sz esz) (bndK 0 lo fun a=>bndK (lenRR es) hi fun b=>ifK (Nat.ble a b) (ifK (Nat.ble b (lenRR es)) (some (PV.sl sz (takeRR (Nat.sub b a) (dropRR a es)) (Option.rec (motive:=fun _=>Bool) full (fun _=>false) hi),[])))))
   (fun b r n=>arrK (lk b) fun _ sz _=>ifK (Nat.beq sz esz) (bndK 0 lo fun a=>bndK n hi fun c=>ifK (Nat.ble a c) (ifK (Nat.ble c n) (some (PV.os b (Nat.add r a) (Nat.sub c a),[])))))
   (fun _=>none)))
  (fun m=>okK t fun _ _ _ _ kind=>sliK kind fun esz _ _=>ifK (isPos esz) (slcK x (fun _ _ _=>zeroK lo hi m (some (PV.sl esz [] true,[]))) (fun _ _ _=>zeroK lo hi m (some (PV.sl esz [] true,[]))) (fun _=>none))) mx
noncomputable def v_len (t:TI) (x:PV):Rs:=okK t fun _ _ _ _ kind=>slcK x (fun _ es _=>sliK kind fun _ _ _=>okI .i64 (Int.ofNat (lenRR es))) (fun _ _ n=>sliK kind fun _ _ _=>okI .i64 (Int.ofNat n)) (fun s=>strT kind (okI .i64 (Int.ofNat s.data.toList.length)))
noncomputable def v_min (x y:PV):Rs:=intK x fun k a=>intK y fun k' b=>ifK (kEq k k') (okI k (Bool.rec (motive:=fun _=>Int) a b (ltI b a)))
noncomputable def v_max (x y:PV):Rs:=intK x fun k a=>intK y fun k' b=>ifK (kEq k k') (okI k (Bool.rec (motive:=fun _=>Int) a b (ltI a b)))
noncomputable def rowsK (esz:Nat) (lk:Nat→Option Blk) (x:PV) (K:List (List PV)→Rs):Rs:=slcK x
 (fun sz es _=>Bool.rec (motive:=fun _=>Rs) (List.rec (motive:=fun _=>Rs) (K []) (fun _ _ _=>none) es) (K es) (Nat.beq sz esz))
 (fun b r n=>arrK (lk b) fun _ sz rows=>ifK (Nat.beq sz esz) (K (takeRR n (dropRR r rows)))) (fun _=>none)
noncomputable def roomK (n bytes:Nat) (x:Rs):Rs:=ifK (Nat.ble (Nat.mul (Nat.add (Nat.mul 2 n) 192) bytes) 140737488355328) (ifK (Nat.ble n 4611686018427387904) x)
noncomputable def v_append (t u:TI) (s x:PV) (lk:Nat→Option Blk) (id:Nat):Rs :=
 okK t fun _ _ _ _ kind=>sliK kind fun esz bytes zero=>optK zero fun z=>okK u fun _ _ _ _ kind'=>sliK kind' fun _ _ _=>ifK (isPos esz) (ifK (Nat.beq (lenR z) esz) (rowsK esz lk x fun new=>slcK s
  (fun _ es full=>ifK full (List.rec (motive:=fun _=>Rs) (roomK (lenRR new) bytes (some (PV.os id 0 (lenRR new),[(id,some (Blk.arr false esz new))]))) (fun _ _ _=>none) es))
  (fun b r n=>arrK (lk b) fun ro sz rows=>ifK (notB ro) (ifK (Nat.beq sz esz) (roomK (Nat.add n (lenRR new)) bytes (some (PV.os id 0 (Nat.add n (lenRR new)),[(b,none),(id,some (Blk.arr false sz (appRR (takeRR n (dropRR r rows)) new)))])))))
  (fun _=>none)))
noncomputable def v_clear (t:TI) (x:PV) (lk:Nat→Option Blk):Rs :=
 okK t fun _ _ _ _ kind=>sliK kind fun esz _ zero=>optK zero fun z=>slcK x (fun _ _ _=>none)
  (fun b r n=>arrK (lk b) fun ro sz rows=>ifK (notB ro) (ifK (Nat.beq sz esz) (ifK (Nat.beq (lenR z) sz) (ifK (isPos sz) (ifK (allB isCel z) (some (PV.tup [],[(b,some (Blk.arr false sz (appRR (takeRR r rows) (appRR (repRR n z) (dropRR (Nat.add r n) rows)))))])))))))
  (fun _=>none)
noncomputable def v_callB (ti:TypeId→TI) (b:Builtin) (args:List PV) (ts:List TypeId) (lk:Nat→Option Blk) (id:Nat):Rs :=
 match b,args,ts with
 | .len,[x],[t]=>v_len (ti t) x
 | .min,[x,y],_=>v_min x y
 | .max,[x,y],_=>v_max x y
 | .append,[s,x],t::u::_=>v_append (ti t) (ti u) s x lk id
 | .clear,[x],t::_=>v_clear (ti t) x lk
 | _,_,_=>none
noncomputable def evV:Tr PV→Operand→PV:=fun tm x=>Operand.rec (motive:=fun _=>Tr PV→PV) (fun t tm=>getP tm t) (fun v _=>ofVal v) (fun _ _=>PV.top) (fun f _=>PV.fn f []) x tm
noncomputable def putT1:Tr PV→Nat→Option Nat→PV→Tr PV:=fun tm n dst v=>Option.rec (motive:=fun _=>Tr PV) tm (fun d=>Bool.rec (motive:=fun _=>Tr PV) tm (setP v d tm) (Nat.ble (Nat.succ d) n)) dst
noncomputable def noN:Option Blk→Option Blk:=fun x=>Option.rec (motive:=fun _=>Option Blk) none (fun x=>Blk.rec (motive:=fun _=>Option Blk) (fun ro row=>some (Blk.var ro row)) (fun ro sz rows=>some (Blk.arr ro sz rows)) (fun _ _=>none) (fun rows=>some (Blk.map rows)) x) x
noncomputable def applB:Dl→Sb→Sb:=fun δ st=>List.rec (motive:=fun _=>Sb→Sb) (fun st=>st) (fun x _ ih st=>ih (setB (noN x.2) x.1 st)) δ st
noncomputable def keysR:Dl→List Nat:=fun δ=>List.rec (motive:=fun _=>List Nat) [] (fun x _ ih=>x.1::ih) δ
noncomputable def allR (f:Nat→Bool):List Nat→Bool:=fun l=>List.rec (motive:=fun _=>Bool) true (fun x _ ih=>Bool.rec (motive:=fun _=>Bool) false ih (f x)) l
noncomputable def fin:Rs→Tr PV→Nat→Sb→Nat→Option Nat→Oe:=fun r tm n st nx dst=>Option.rec (motive:=fun _=>Oe) none (fun p=>Prod.rec (motive:=fun _=>Oe) (fun v δ=>List.rec (motive:=fun _=>Oe) (some ⟨putT1 tm n dst v,n,st,nx⟩) (fun _ _ _=>Bool.rec (motive:=fun _=>Oe) none (Nat.rec (motive:=fun _=>Oe) (some ⟨putT1 tm n dst v,n,applB δ st,1⟩) (fun m _=>some ⟨putT1 tm n dst v,n,applB δ st,Nat.succ (Nat.succ m)⟩) nx) (allR (fun b=>Nat.ble b nx) (keysR δ))) δ) p) r
noncomputable def fin2:Option (PV × Sb × Nat)→Tr PV→Nat→Option Nat→Oe:=fun r tm n dst=>Option.rec (motive:=fun _=>Oe) none (fun p=>Prod.rec (motive:=fun _=>Oe) (fun v q=>Prod.rec (motive:=fun _=>Oe) (fun st nx=>some ⟨putT1 tm n dst v,n,st,nx⟩) q) p) r
abbrev Disp:=(TypeId→TI)→(Operand→PV)→(Nat→Option Blk)→Nat→Rs
noncomputable def noD:Disp:=fun _ _ _ _=>none
noncomputable def opV:Op→Disp:=fun o=>Op.rec (motive:=fun _=>Disp)
 (fun x _ ev _ _=>some (ev x,[]))
 (fun x _ ev _ _=>some (ev x,[]))
 (fun c a b _ ev _ _=>bolK (ev c) (some (ev a,[])) (some (ev b,[])))
 (fun t ti _ _ id=>v_alloc (ti t) id)
 (fun _ x _ ev _ id=>v_box (ev x) id)
 (fun t parts ti ev _ _=>v_build (ti t) ev parts)
 (fun t len parts ti ev lk id=>v_buildSlice (ti t) len ev parts lk id)
 (fun _ _ _ _=>noD)
 (fun t x ti ev lk _=>v_load (ti t) (ev x) lk)
 (fun t x y ti ev lk _=>v_store (ti t) (ev x) (ev y) lk)
 (fun _=>noD) (fun _=>noD)
 (fun x _ ev _ _=>nckK (ev x))
 (fun op t x y _ ti ev _ _=>Bool.rec (motive:=fun _=>Rs) (binV (ti t) op (ev x) (ev y)) (nilV (ti t) op (ev x)) (nilC y))
 (fun op _ x _ ev _ _=>UnOp.rec (motive:=fun _=>Rs) (v_neg (ev x)) none (v_not (ev x)) none op)
 (fun s d x ti ev _ _=>v_convert (ti s) (ti d) (ev x))
 (fun _ _=>noD) (fun _ _=>noD)
 (fun f first cap _ ev _ _=>v_makeFunc f first ev cap)
 (fun _ _=>noD) (fun _ _=>noD)
 (fun t x y ti ev _ id=>v_makeSlice (ti t) (ev x) (ev y) id)
 (fun t x lo hi mx ti ev lk _=>v_slice (ti t) (ev x) (Option.rec (motive:=fun _=>Option PV) none (fun x=>some (ev x)) lo) (Option.rec (motive:=fun _=>Option PV) none (fun x=>some (ev x)) hi) (Option.rec (motive:=fun _=>Option PV) none (fun x=>some (ev x)) mx) lk)
 (fun t x f ti ev _ _=>v_fieldAddr (ti t) (ev x) f)
 (fun t x f ti ev _ _=>v_field (ti t) (ev x) f)
 (fun t x i ti ev lk _=>v_indexAddr (ti t) (ev x) (ev i) lk)
 (fun t x i ti ev _ _=>v_index (ti t) (ev x) (ev i))
 (fun _ _ _ _=>noD) (fun _ _ _ _=>noD) (fun _ _ _=>noD) (fun _ _ _ _=>noD) (fun _ _=>noD) (fun _ _=>noD) (fun _=>noD) (fun _ _ _ _=>noD)
 (fun x i _ ev _ _=>v_extract (ev x) i)
 (fun c ti ev lk id=>Call.rec (motive:=fun _=>Rs) (fun callee args ts=>Callee.rec (motive:=fun _=>Rs) (fun _=>none) (fun _ _=>none) (fun b=>v_callB ti b (evA1 ev args.toList) ts.toList lk id) callee) c)
 (fun _=>noD) (fun _=>noD) (fun _=>noD) (fun _ _=>noD) (fun _ _ _=>noD) (fun _ _=>noD) o
abbrev CallR:=Option (PV × Sb × Nat)
noncomputable def isCall:Op→Option (Operand × Array Operand):=fun o=>Op.rec (motive:=fun _=>Option (Operand × Array Operand))
 (fun _=>none) (fun _=>none) (fun _ _ _=>none) (fun _=>none) (fun _ _=>none) (fun _ _=>none) (fun _ _ _=>none) (fun _ _ _ _=>none) (fun _ _=>none) (fun _ _ _=>none) (fun _=>none) (fun _=>none) (fun _=>none) (fun _ _ _ _ _=>none) (fun _ _ _=>none) (fun _ _ _=>none) (fun _ _=>none) (fun _ _=>none) (fun _ _ _=>none) (fun _ _=>none) (fun _ _=>none) (fun _ _ _=>none) (fun _ _ _ _ _=>none) (fun _ _ _=>none) (fun _ _ _=>none) (fun _ _ _=>none) (fun _ _ _=>none) (fun _ _ _ _=>none) (fun _ _ _ _=>none) (fun _ _ _=>none) (fun _ _ _ _=>none) (fun _ _=>none) (fun _ _=>none) (fun _=>none) (fun _ _ _ _=>none) (fun _ _=>none)
 (fun c=>Call.rec (motive:=fun _=>Option (Operand × Array Operand)) (fun callee args _=>Callee.rec (motive:=fun _=>Option (Operand × Array Operand)) (fun f=>some (f,args)) (fun _ _=>none) (fun _=>none) callee) c)
 (fun _=>none) (fun _=>none) (fun _=>none) (fun _ _=>none) (fun _ _ _=>none) (fun _ _=>none) o
noncomputable def stepV (ti:TypeId→TI) (call:CallV) (o:Oper) (tm:Tr PV) (n:Nat) (st:Sb) (nx:Nat):Oe :=
 Option.rec (motive:=fun _=>Oe) (fin (opV o.op ti (evV tm) (getB st) nx) tm n st nx o.dst)
  (fun p=>Prod.rec (motive:=fun _=>Oe) (fun f args=>fin2 (fnE (evV tm f) fun k caps=>call k (appR (evA1 (evV tm) args.toList) caps) st nx) tm n o.dst) p) (isCall o.op)
noncomputable def nthO:List Oper→Nat→Option Oper:=fun l n=>List.rec (motive:=fun _=>Nat→Option Oper) (fun _=>none) (fun x _ ih n=>Nat.rec (motive:=fun _=>Option Oper) (some x) (fun m _=>ih m) n) l n
noncomputable def gdV (all:List Oper) (g:Option (Nat × Bool)) (tm:Tr PV):Option Bool :=
 Option.rec (motive:=fun _=>Option Bool) (some true) (fun p=>Prod.rec (motive:=fun _=>Option Bool) (fun j want=>Option.rec (motive:=fun _=>Option Bool) none (fun o=>Option.rec (motive:=fun _=>Option Bool) none (fun d=>gdK (getP tm d) want) o.dst) (nthO all j)) p) g
noncomputable def opsV (ti:TypeId→TI) (call:CallV) (all:List Oper) (l:List Oper) (E:EV):Oe :=
 List.rec (motive:=fun _=>EV→Oe) (fun E=>some E) (fun o _ ih E=>EV.rec (motive:=fun _=>Oe) (fun tm n st nx=>Option.rec (motive:=fun _=>Oe) none
  (fun g=>Bool.rec (motive:=fun _=>Oe) (ih ⟨putT1 tm n o.dst PV.undef,n,st,nx⟩) (Option.rec (motive:=fun _=>Oe) none (fun E'=>ih E') (stepV ti call o tm n st nx)) g) (gdV all o.guard tm)) E) l E
noncomputable def hasR:List Nat→Nat→Bool:=fun l b=>List.rec (motive:=fun _=>Bool) false (fun c _ ih=>Bool.rec (motive:=fun _=>Bool) ih true (Nat.beq c b)) l
noncomputable def meets:List Nat→List Nat→Bool:=fun l m=>List.rec (motive:=fun _=>Bool) false (fun c _ ih=>Bool.rec (motive:=fun _=>Bool) ih true (hasR m c)) l
noncomputable def nmLs:List PV→List Nat→List Nat:=fun l=>List.rec (motive:=fun _=>List Nat→List Nat) (fun acc=>acc) (fun x _ ih acc=>ih (nmL x acc)) l
noncomputable def rowN:Option Blk→List Nat:=fun x=>Option.rec (motive:=fun _=>List Nat) [] (fun x=>Blk.rec (motive:=fun _=>List Nat) (fun _ row=>nmLs row []) (fun _ _ _=>[]) (fun _ _=>[]) (fun _=>[]) x) x
noncomputable def rch (lk:Nat→Option Blk) (d:Nat):List Nat→List Nat→List Nat:=Nat.rec (motive:=fun _=>List Nat→List Nat→List Nat) (fun _ acc=>acc)
 (fun _ ih ns acc=>List.rec (motive:=fun _=>List Nat→List Nat) (fun acc=>acc) (fun b _ go acc=>go (Bool.rec (motive:=fun _=>List Nat) (ih (rowN (lk b)) (b::acc)) acc (hasR acc b))) ns acc) d
noncomputable def allNs (p:Nat→Bool):List PV→Bool:=fun l=>List.rec (motive:=fun _=>Bool) true (fun x _ ih=>Bool.rec (motive:=fun _=>Bool) false ih (allN p x)) l
noncomputable def allNB (p:Nat→Bool):Option Blk→Bool:=fun x=>Option.rec (motive:=fun _=>Bool) true (fun x=>Blk.rec (motive:=fun _=>Bool) (fun _ row=>allNs p row) (fun _ _ _=>true) (fun _ _=>false) (fun _=>false) x) x
noncomputable def filR (f:Nat→Bool):List Nat→List Nat:=fun l=>List.rec (motive:=fun _=>List Nat) [] (fun x _ ih=>Bool.rec (motive:=fun _=>List Nat) ih (x::ih) (f x)) l
noncomputable def lk1 (R:List Nat) (st:Sb) (b:Nat):Option Blk:=Bool.rec (motive:=fun _=>Option Blk) none (getB st b) (hasR R b)
noncomputable def subT (st:Sb):List Nat→Sb:=fun l=>List.rec (motive:=fun _=>Sb) Tr.e (fun b _ ih=>setB (getB st b) b ih) l
noncomputable def eqP:Nat→PV→PV→Bool
 | 0,_,_=>false
 | d+1,x,y =>
  match x,y with
  | .bool a,.bool b=>(match a with | true=>b | false=>!b)
  | .int k a,.int k' b=>kEq k k' && eqI a b
  | .str a,.str b=>eqS a b
  | .nilp,.nilp=>true
  | .nilf,.nilf=>true
  | .undef,.undef=>true
  | .os b r n,.os b' r' n'=>Nat.beq b b' && (Nat.beq r r' && Nat.beq n n')
  | .lv b c,.lv b' c'=>Nat.beq b b' && Nat.beq c c'
  | .lp b r c,.lp b' r' c'=>Nat.beq b b' && (Nat.beq r r' && Nat.beq c c')
  | .sl z es f,.sl z' es' f'=>Nat.beq z z' && ((match f with | true=>f' | false=>!f') && eqRows (eqP d) es es')
  | .pp cs,.pp cs'=>eqRow (eqP d) cs cs'
  | .agg cs,.agg cs'=>eqRow (eqP d) cs cs'
  | .fn k cs,.fn k' cs'=>Nat.beq k k' && eqRow (eqP d) cs cs'
  | _,_=>false
where
 eqRow (f:PV→PV→Bool):List PV→List PV→Bool
  | [],[]=>true
  | x::xs,y::ys=>f x y && eqRow f xs ys
  | _,_=>false
 eqRows (f:PV→PV→Bool):List (List PV)→List (List PV)→Bool
  | [],[]=>true
  | x::xs,y::ys=>eqRow f x y && eqRows f xs ys
  | _,_=>false
noncomputable def eqBk (x y:Option Blk):Bool :=
 match x,y with
 | some (.var ro row),some (.var ro' row')=>(match ro with | true=>ro' | false=>!ro') && eqP.eqRow (eqP 8) row row'
 | some (.arr ro sz rows),some (.arr ro' sz' rows')=>(match ro with | true=>ro' | false=>!ro') && (Nat.beq sz sz' && eqP.eqRows (eqP 8) rows rows')
 | _,_=>false
abbrev Tc:=List Nat × List Nat × List Nat
noncomputable def addrN (v:PV):List Nat:=nmL v []
noncomputable def rdO (o:Op) (ev:Operand→PV):List Nat :=
 match o with
 | .load _ x=>addrN (ev x)
 | .store _ x y=>nmL (ev x) (addrN (ev y))
 | .indexAddr _ x _=>addrN (ev x)
 | .slice _ x _ _ _=>addrN (ev x)
 | .buildSlice _ _ parts=>nmLs (evA1 ev (parts.toList.map fun p=>p.2)) []
 | .call { callee:=.builtin _,args,argTypes:=_ }=>nmLs (evA1 ev args.toList) []
 | _=>[]
abbrev Of:=Option (EV × Tc)
noncomputable def finF (r:Rs) (R:List Nat) (tm:Tr PV) (n:Nat) (st:Sb) (nx:Nat) (dst:Option Nat):Of :=
 match r with
 | some (v,δ)=>(match allR (fun b=>Bool.rec (motive:=fun _=>Bool) (Option.rec (motive:=fun _=>Bool) false (fun _=>true) (getB st b)) true (Nat.beq b nx)) (keysR δ) with
  | true=>some (⟨putT1 tm n dst v,n,applB δ st,Nat.succ nx⟩,R,keysR δ,keysR δ)
  | false=>none)
 | none=>none
noncomputable def callF (call:CallV) (k:Nat) (args:List PV) (tm:Tr PV) (n:Nat) (st:Sb) (nx:Nat) (dst:Option Nat):Of :=
 match rch (getB st) 8 (nmLs args []) [] with
 | ρ=>match allR (fun b=>Nat.ble (Nat.succ b) nx) ρ && (allNs (hasR ρ) args && allR (fun b=>allNB (hasR ρ) (getB st b)) ρ) with
  | true=>(match call k args (subT st ρ) nx with
   | some (v,st1,nx1)=>(match Nat.ble nx nx1,appN (filR (fun b=>Option.rec (motive:=fun _=>Bool) false (fun _=>true) (getB st b)) ρ) (filR (fun b=>Bool.rec (motive:=fun _=>Bool) false (Nat.ble (Nat.succ b) nx1) (Nat.ble nx b)) (rch (getB st1) 8 (nmL v ρ) [])) with
    | true,S=>some (⟨putT1 tm n dst v,n,applB (S.map fun b=>(b,getB st1 b)) st,nx1⟩,ρ,S,filR (fun b=>notB (eqBk (getB st1 b) (getB st b))) S)
    | false,_=>none)
   | none=>none)
  | false=>none
noncomputable def stepF (ti:TypeId→TI) (call:CallV) (o:Oper) (tm:Tr PV) (n:Nat) (st:Sb) (nx:Nat):Of :=
 match isCall o.op with
 | none=>(match rdO o.op (evV tm) with
  | R=>finF (opV o.op ti (evV tm) (lk1 R st) nx) R tm n st nx o.dst)
 | some (f,args)=>(match evV tm f with
  | .fn k caps=>callF call k (appR (evA1 (evV tm) args.toList) caps) tm n st nx o.dst
  | _=>none)
noncomputable def consF (tc:Tc) (r:Option (EV × List Tc)):Option (EV × List Tc) :=
 match r with
 | some (E,l)=>some (E,tc::l)
 | none=>none
noncomputable def opsF (ti:TypeId→TI) (call:CallV) (all:List Oper) (l:List Oper) (E:EV):Option (EV × List Tc) :=
 List.rec (motive:=fun _=>EV→Option (EV × List Tc)) (fun E=>some (E,[])) (fun o _ ih E=>EV.rec (motive:=fun _=>Option (EV × List Tc)) (fun tm n st nx=>Option.rec (motive:=fun _=>Option (EV × List Tc)) none
  (fun g=>Bool.rec (motive:=fun _=>Option (EV × List Tc)) (consF ([],[],[]) (ih ⟨putT1 tm n o.dst PV.undef,n,st,nx⟩)) (Option.rec (motive:=fun _=>Option (EV × List Tc)) none (fun p=>Prod.rec (motive:=fun _=>Option (EV × List Tc)) (fun E' tc=>consF tc (ih E')) p) (stepF ti call o tm n st nx)) g) (gdV all o.guard tm)) E) l E
noncomputable def pairT (B:List (List Nat)) (i k:Nat) (x y:Tc):Bool :=
 match meets x.2.1 y.1 || (meets x.2.1 y.2.1 || meets y.2.1 x.1) with
 | false=>true
 | true=>hasR (getLL B k) i || notB (meets x.2.2 y.1 || (meets x.2.2 y.2.2 || meets y.2.2 x.1))
noncomputable def oneT (B:List (List Nat)) (i:Nat) (x:Tc):List Tc→Nat→Bool
 | [],_=>true
 | y::l,k=>pairT B i k x y && oneT B i x l (k+1)
noncomputable def chkT (B:List (List Nat)):List Tc→Nat→Bool
 | [],_=>true
 | x::l,i=>oneT B i x l (i+1) && chkT B l (i+1)
noncomputable def regF (all:Array Oper) (r:Option (EV × List Tc)):Oc :=
 match r with
 | some (E,tr)=>(match chkAll all all.toList 0 && chkT (befs all.toList []) tr 0 with
  | true=>some (0,E)
  | false=>none)
 | none=>none
noncomputable def iterV (f:EV→Oc) (n:Nat) (E:EV):Oc :=
 Nat.rec (motive:=fun _=>EV→Oc) (fun _=>none) (fun _ ih E=>Option.rec (motive:=fun _=>Oc) none (fun p=>Prod.rec (motive:=fun _=>Oc) (fun n E'=>Nat.rec (motive:=fun _=>Oc) (ih E') (fun m _=>some (Nat.succ m,E')) n) p) (f E)) n E
noncomputable def rangeV (call:CallV) (f:Operand) (E:EV):Oc :=
 EV.rec (motive:=fun _=>Oc) (fun tm n st nx=>Option.rec (motive:=fun _=>Oc) none (fun p=>Prod.rec (motive:=fun _=>Oc) (fun _ q=>Prod.rec (motive:=fun _=>Oc) (fun st nx=>some (0,⟨tm,n,st,nx⟩)) q) p) (fnE (evV tm f) fun k caps=>call k (PV.top::caps) st nx)) E
noncomputable def blkV (id:Nat) (r:Oc):Oc :=
 Option.rec (motive:=fun _=>Oc) none (fun p=>Prod.rec (motive:=fun _=>Oc) (fun n E=>Nat.rec (motive:=fun _=>Oc) (some (0,E)) (fun m _=>Nat.rec (motive:=fun _=>Oc) (some (1,E)) (fun k _=>Bool.rec (motive:=fun _=>Oc) (some (Nat.succ (Nat.succ k),E)) (some (0,E)) (Nat.beq k id)) m) n) p) r
noncomputable def seqV (r:Oc) (f:EV→Oc):Oc :=
 Option.rec (motive:=fun _=>Oc) none (fun p=>Prod.rec (motive:=fun _=>Oc) (fun n E=>Nat.rec (motive:=fun _=>Oc) (f E) (fun m _=>some (Nat.succ m,E)) n) p) r
noncomputable def regV (r:Oe):Oc:=Option.rec (motive:=fun _=>Oc) none (fun E=>some (0,E)) r
noncomputable def condV (c:Operand) (E:EV) (x y:Oc):Oc:=EV.rec (motive:=fun _=>Oc) (fun tm _ _ _=>bolE (evV tm c) x y) E
noncomputable def codeV (ti:TypeId→TI) (call:CallV) (c:Code) (E:EV):Oc :=
 Code.rec (motive:=fun _=>EV→Oc)
  (fun E=>some (0,E))
  (fun _ l dr E=>Bool.rec (motive:=fun _=>Oc) (regV (opsV ti call l.toList l.toList E)) (regF l (opsF ti call l.toList l.toList E)) dr)
  (fun _ _ f g E=>seqV (f E) g)
  (fun c _ _ f g E=>condV c E (f E) (g E))
  (fun id _ f E=>blkV id (f E))
  (fun _ f E=>iterV f 100000 E)
  (fun f _ _ _ _ _ E=>rangeV call f E)
  (fun n E=>some (Nat.succ (Nat.succ n),E))
  (fun _ f E=>f E)
  (fun _ E=>some (0,E))
  (fun _ _=>none)
  (fun E=>some (1,E))
  (fun _ _=>none) c E
noncomputable def resK (ti:TypeId→TI) (E:EV):ResultVar→(PV→Option (PV × Sb × Nat))→Option (PV × Sb × Nat):=fun r K=>ResultVar.rec (motive:=fun _=>Option (PV × Sb × Nat)) (fun t=>K (getP E.tm t))
 (fun a t=>Option.rec (motive:=fun _=>Option (PV × Sb × Nat)) none (fun p=>K p.1) (adrK (getP E.tm a) (fun b c=>v_load (ti t) (PV.lv b c) (getB E.st)) (fun _ _ _=>none) (fun _=>none))) r
noncomputable def resV (ti:TypeId→TI) (E:EV):List ResultVar→List PV→Option (PV × Sb × Nat):=fun rs=>List.rec (motive:=fun _=>List PV→Option (PV × Sb × Nat)) (fun acc=>some (retOne acc,E.st,E.nx))
 (fun r _ ih acc=>resK ti E r fun v=>ih (appR acc [v])) rs
noncomputable def argT:List PV→Nat→Tr PV→Tr PV:=fun l=>List.rec (motive:=fun _=>Nat→Tr PV→Tr PV) (fun _ t=>t) (fun x _ ih k t=>ih (Nat.succ k) (setP x k t)) l
noncomputable def clnV (cl:Bool) (args:List PV) (st:Sb) (nx:Nat) (X:CallR):CallR :=
 Bool.rec (motive:=fun _=>CallR) X
  (match args with
  | [.sl _ [] _]=>some (PV.sl 0 [] true,st,nx)
  | [.os _ _ 0]=>some (PV.sl 0 [] true,st,nx)
  | _=>X) cl
noncomputable def runV (ti:TypeId→TI) (F:Nat→Option (Bool × Func)):Nat→CallV:=fun fuel=>Nat.rec (motive:=fun _=>CallV) (fun _ _ _ _=>none)
 (fun _ ih k args st nx=>Option.rec (motive:=fun _=>CallR) none (fun p=>Prod.rec (motive:=fun _=>CallR) (fun cl fn=>clnV cl args st nx (Option.rec (motive:=fun _=>CallR) none
  (fun c=>Option.rec (motive:=fun _=>CallR) none (fun p=>Prod.rec (motive:=fun _=>CallR) (fun n E=>Bool.rec (motive:=fun _=>CallR) none (resV ti E fn.results.toList []) (Nat.ble n 1)) p)
   (codeV ti ih c ⟨argT args 0 Tr.e,Nat.max (lenR args) fn.ntmps,st,nx⟩)) fn.body)) p) (F k)) fuel
def okV:Option (PV × Sb × Nat)→Bool
 | some (.bool true,_,_)=>true
 | _=>false
noncomputable def lkP:List Func→Nat→Option Func:=fun l n=>List.rec (motive:=fun _=>Nat→Option Func) (fun _=>none) (fun x _ ih n=>Nat.rec (motive:=fun _=>Option Func) (some x) (fun m _=>ih m) n) l n
noncomputable def fnsV (l:List Func) (cl:List Nat):Nat→Option (Bool × Func):=fun k=>Option.rec (motive:=fun _=>Option (Bool × Func)) none (fun f=>some (hasR cl k,f)) (lkP l k)
end Go.Pv
namespace Go.Pv
open Go
def ActRep {T:Tab} (C:Ctx T) (E:Env) (a:Act) (w:World):Prop:=EnvRep C E a.tmps.toList w∧a.defers=[]
def lift {T:Tab} (C:Ctx T) (Q:Post):Exit→Act→World→Prop
 | .normal,a,w=>∃ E,ActRep C E a w∧Q 0 E
 | .ret,a,w=>∃ E,ActRep C E a w∧Q 1 E
 | .exit n,a,w=>∃ E,ActRep C E a w∧Q (n+2) E
 | _,_,_=>False
def TripleC (P:Program) (T:Tab) (c:Code) (Q:Post) (E:Env):Prop:=∀ (C:Ctx T) a w,ActRep C E a w→c.wp P (lift C Q) a w
def CallT (P:Program) (T:Tab) (k:Nat) (args:List PV) (E:Env) (K:PV→Env→Prop):Prop :=
 ∀ (C:Ctx T) (Y:Nat→Prop) (σ:Sg) (w:World) (vs cargs:List Value),SW C w Y σ E.tmps vs E.st E.next→RepL w Y σ args cargs →
  (callFunc k cargs.toArray).run P w=.ok (.enter k cargs.toArray) w ∧
  Calls P k cargs.toArray w fun e w'=>∃ cv v E' Y' σ',e=.returned cv∧K v E'∧SW C w' Y' σ' E'.tmps vs E'.st E'.next∧Rep w' Y' σ' v cv
def Fn (P:Program) (G:Nat→Option (List PV)) (k:Nat) (args:List PV) (R:PV→Prop):Prop :=
 ∀ (w:World) (Y:Nat→Prop) (cargs:List Value),Glob G w Y→(∀ b,Y b→b<w.heap.size)→RepL w Y noSg args cargs →
  (callFunc k cargs.toArray).run P w=.ok (.enter k cargs.toArray) w ∧
  Calls P k cargs.toArray w fun e w'=>∃ cv v,e=.returned cv∧R v∧Rep w' Y noSg v cv∧Chg w w'
def InSt (σ:Sg) (st:St) (k:Nat):Prop:=∃ b x l,lkS st b=some x∧σ b=some l∧l.cb=k
def ctxS (T:Tab) (w:World) (Y:Nat→Prop) (σ:Sg) (st:St):Ctx T:=⟨w,fun k=>Y k∧¬ InSt σ st k,InSt σ st,fun k=>Y k∧InSt σ st k,σ⟩
def FnS (P:Program) (G:Nat→Option (List PV)) (k:Nat) (args:List PV) (st:St) (n:Nat) (R:PV→St→Nat→Prop):Prop :=
 ∀ (w:World) (Y:Nat→Prop) (σ:Sg) (cargs:List Value),Glob G w Y→(∀ b,Y b→b<w.heap.size)→(∀ b,n≤b→σ b=none)→RepL w Y σ args cargs→StRep w Y σ st→noNar st=true →
  (callFunc k cargs.toArray).run P w=.ok (.enter k cargs.toArray) w ∧
  Calls P k cargs.toArray w fun e w'=>∃ cv v st' n' Y' σ',e=.returned cv∧R v st' n'∧SW (ctxS ⟨fun _=>.bad,G,n,[],0,[],[]⟩ w Y σ st) w' Y' σ' [v] [cv] st' n'
def Ent (T:Tab) (E F:Env):Prop:=∀ (C:Ctx T) a w,ActRep C E a w→ActRep C F a w
theorem Ent.refl {T:Tab} (E:Env):Ent T E E:=fun _ _ _ h=>h
def fzC:PV→PV
 | .ow _ sz es=>.sl sz es false
 | v=>v
def byteR:List PV→Option Int
 | [.si .u8 n]=>some n
 | [.int .u8 n]=>some n
 | _=>none
noncomputable def findM:List (List PV)→Int→Option (List PV)
 | (.si _ k::cs)::l,n=>if k=n then some cs else findM l n
 | _::l,n=>findM l n
 | [],_=>none
def setM:List (List PV)→Int→List PV→List (List PV)
 | (.si t k::cs)::l,n,xs=>if k=n then (.si t n::xs)::l else (.si t k::cs)::setM l n xs
 | r::l,n,xs=>r::setM l n xs
 | [],n,xs=>[.si .i64 n::xs]
def Sig.std (P:Program) (T:Tab):Sig where
 bin:=stdBin
 cmp:=stdCmp
 conv k n:=k.wrap n
 neg k n:=k.wrap (0 - n)
 beq a b:=a == b
 band a b:=a && b
 scmp:=stdScmp
 slen s:=(s.size:Int)
 smin a b:=if b<a then b else a
 smax a b:=if b > a then b else a
 len es:=(es.length:Int)
 nint n:=(n:Int)
 nadd a b:=a+b
 nsub a b:=a - b
 app a b:=a ++ b
 sub rows r n:=(rows.drop r).take n
 spl rows r new:=rows.take r ++ new ++ rows.drop (r+new.length)
 rset rows i r:=rows.set i r
 rep n r:=List.replicate n r
 lenN es:=es.length
 br b t f:=(b=true→t ())∧(b=false→f ())
 call k args E lend free ρ as st0 K :=
  (∃ bs v,lend=some bs∧Fn P T.gl k bs (fun u=>u=v)∧flatV 6 v=true∧K v E) ∨
  (∃ bs v,free=some bs∧Fn P T.gl k bs (fun u=>u=v)∧K v ⟨E.tmps,roS E.st ρ,E.next⟩) ∨
  (∃ v st1 n1,nodN ρ=true∧ltN E.next ρ=true∧noNar st0=true∧FnS P T.gl k as st0 (lenNs ρ) (fun u st n=>u=v∧st=st1∧n=n1)∧K (renV (bakN ρ E.next) 8 v) (bakE ρ E st1 n1)) ∨
  CallT P T k args E K
 callq k args K:=∃ v,Fn P T.gl k args (fun u=>u=v)∧K v
 callp k args as bs E K:=(∃ v,Fn P T.gl k as (fun u=>u=v)∧K v E)∨(∃ v st1 n1,FnS P T.gl k bs [] 0 (fun u st n=>u=v∧st=st1∧n=n1)∧K (renV (bakN [] E.next) 8 v) (bakE [] E st1 n1))∨CallT P T k args E K
 callf k args K:=∃ v,Fn P T.gl k args (fun u=>u=v)∧flatV 6 v=true∧K v
 callm k as K:=∃ v x,FnS P T.gl k as [] 0 (fun u st n=>u=v∧st=[(0,some x)]∧n=1)∧K v x
 callw k as st0 ρ K:=∃ v st1 n1,noNar st0=true∧FnS P T.gl k as st0 (lenNs ρ) (fun u st n=>u=v∧st=st1∧n=n1)∧K v st1 n1
 loop c Q E:=TripleC P T (.loop c) Q E
 seq A B Q:=∃ Q',A Q'∧∀ n E,Q' n E→∃ F,Ent T E F∧seqQ B Q n F
 idx es i K:=∃ (j:Nat) (row:List PV),i=(j:Int)∧es[j]?=some row∧K row
 ix n i K:=∃ j:Nat,i=(j:Int)∧j<n∧K j
 row rows j K:=∃ row,rows[j]?=some row∧K row
 sidx s i K:=∃ (j:Nat) (c:UInt8),i=(j:Int)∧s[j]?=some c∧K (c.toNat:Int)
 div op k a b K:=b ≠ 0∧K (match op with | .quo=>k.wrap (a.tdiv b) | _=>a.tmod b)
 shf op k a y K:=0≤y∧K (match op with | .shl=>k.wrap (a * 2 ^ (min y.toNat k.bits)) | _=>a.fdiv (2 ^ (min y.toNat k.bits)))
 scat a b K:=a.size+b.size≤4611686018427387904∧K (a ++ b)
 mks n m bytes K:=∃ j:Nat,n=(j:Int)∧n≤m∧(bytes:Int) * m≤140737488355328∧m≤9223372036854775807∧K j
 room n bytes K:=(2 * n+192) * bytes≤140737488355328∧n≤4611686018427387904∧K
 slc len a b K:=∃ i j:Nat,a=(i:Int)∧b=(j:Int)∧i≤j∧j≤len∧K i j
 sslc s a b K:=∃ i j:Nat,a=(i:Int)∧b=(j:Int)∧i≤j∧j≤s.size∧K (s.extract i j)
 nilq es K:=∀ b:Bool,(b=true→es=[])→K b
 toS t rows K:=(∃ e,P.underlying t=some (.slice e)∧P.underlying e=some (.int .u8))∧∃ s:ByteArray,rows.map byteR=s.data.toList.map (fun c=>some (c.toNat:Int))∧K s
 wk cs K:=∃ cs',cs'.length=cs.length∧(allCell cs=true→allCell cs'=true)∧(∀ (w:World) (Y:Nat→Prop) (σ:Sg) (vs:List Value),RepL w Y σ cs vs→RepL w Y σ cs' vs)∧K cs'
 order l p:=drawOK T l=true∧p
 last l p:=lastOK l=true∧p
 ordF l tr p:=(chkAll l l.toList 0 && chkT (befs l.toList []) tr 0)=true∧p
 nu K:=∀ h,K h
 same h h' p:=h=h'∧p
 fz rows:=rows.map fun row=>row.map fzC
 mget rows n z K:=(∀ cs,findM rows n=some cs→K cs true)∧(findM rows n=none→∃ cs,(∀ (w:World) (Y:Nat→Prop) (σ:Sg) (vs:List Value),RepL w Y σ z vs→RepL w Y σ cs vs)∧K cs false)
 mset rows n cs:=setM rows n cs
theorem wkC_std {P:Program} {T:Tab} {cs:List PV} {K:List PV→Prop} (h:wkC (Sig.std P T) cs K):∃ cs',cs'.length=cs.length∧(allCell cs=true→allCell cs'=true)∧(∀ (w:World) (Y:Nat→Prop) (σ:Sg) (vs:List Value),RepL w Y σ cs vs→RepL w Y σ cs' vs)∧K cs'∧∀ K' : List PV→Prop,K' cs'→wkC (Sig.std P T) cs K':=by
 unfold wkC at h ⊢
 cases hb:anyLit cs with
 | true =>
  rw [hb] at h
  simp only
  obtain ⟨cs',h1,h2,h3,h4⟩:=h
  exact ⟨cs',h1,h2,h3,h4,fun K' hk=>⟨cs',h1,h2,h3,hk⟩⟩
 | false =>
  rw [hb] at h
  simp only
  exact ⟨cs,rfl,fun h=>h,fun _ _ _ _ h=>h,h,fun K' hk=>hk⟩
theorem owC_rep {w:World} {Y:Nat→Prop} {σ:Sg} (n:Nat) (p:PV) (v:Value) (h:Rep w Y σ p v):Rep w Y σ (owC n p) v:=by
 unfold owC
 split
 ·split
  ·split
   ·unfold Rep at h ⊢
    obtain ⟨a,len,cap,e,hl,hc,_,_⟩:=h
    have hl:len=0:=by simpa using hl
    subst hl
    exact .inr ⟨rfl,a,cap,e⟩
   ·exact h
  ·exact h
 ·exact h
theorem owZ_rep {w:World} {Y:Nat→Prop} {σ:Sg} (n:Nat):∀ (ps:List PV) (vs:List Value),RepL w Y σ ps vs→RepL w Y σ (owZ n ps) vs
 | [],vs,h=>h
 | p::ps,vs,h=>by
  unfold RepL at h
  obtain ⟨v,vs',e,h1,h2⟩:=h
  unfold owZ RepL
  exact ⟨v,vs',e,owC_rep n p v h1,owZ_rep n ps vs' h2⟩
theorem owZ_len (n:Nat):∀ ps:List PV,(owZ n ps).length=ps.length
 | []=>rfl
 | p::ps=>by simp [owZ,owZ_len n ps]
theorem owC_cell (n:Nat) (p:PV):isCell (owC n p)=isCell p:=by
 unfold owC
 split
 ·split
  ·split <;> rfl
  ·rfl
 ·rfl
theorem owZ_cell (n:Nat):∀ ps:List PV,allCell (owZ n ps)=allCell ps
 | []=>rfl
 | p::ps=>by simp [owZ,allCell,owZ_cell n ps,owC_cell]
theorem owZ_empty {n:Nat} {h:Hdr} {sz:Nat} {es:List (List PV)}:∀ {ps:List PV},(∀ h sz es,PV.ow h sz es ∉ ps)→∀ c:Nat,(owZ n ps)[c]?=some (.ow h sz es)→es=[]
 | [],_,c,e=>by simp [owZ] at e
 | p::ps,hno,0,e=>by
  simp only [owZ,List.getElem?_cons_zero,Option.some.injEq] at e
  unfold owC at e
  split at e
  ·split at e
   ·split at e
    ·cases e; rfl
    ·cases e
   ·cases e
  ·subst e
   exact absurd (List.mem_cons_self) (hno h sz es)
 | p::ps,hno,c+1,e=>by
  simp only [owZ,List.getElem?_cons_succ] at e
  exact owZ_empty (fun h sz es hm=>hno h sz es (List.mem_cons_of_mem _ hm)) c e
theorem wkN_std {P:Program} {T:Tab} {nar:Nat} {cs:List PV} {K:List PV→Prop} (h:wkN (Sig.std P T) nar cs K):∃ cs',cs'.length=cs.length∧(allCell cs=true→allCell cs'=true)∧(∀ (w:World) (Y:Nat→Prop) (σ:Sg) (vs:List Value),RepL w Y σ cs vs→RepL w Y σ cs' vs)∧K cs'∧(∀ n,nar=n+1→hasSl cs=true→cs'=owZ n cs)∧∀ K' : List PV→Prop,K' cs'→wkN (Sig.std P T) nar cs K':=by
 unfold wkN at h ⊢
 cases nar with
 | zero =>
  obtain ⟨cs',h1,h2,h3,h4,h5⟩:=wkC_std h
  exact ⟨cs',h1,h2,h3,h4,(fun n h=>by omega),h5⟩
 | succ n =>
  cases hs:hasSl cs with
  | true =>
   simp only [hs] at h ⊢
   exact ⟨owZ n cs,owZ_len n cs,fun h=>by rw [owZ_cell]; exact h,fun _ _ _ _ h=>owZ_rep n _ _ h,h,fun m hm _=>by rw [show m=n by omega],fun K' hk=>hk⟩
  | false =>
   simp only [hs] at h ⊢
   obtain ⟨cs',h1,h2,h3,h4,h5⟩:=wkC_std h
   exact ⟨cs',h1,h2,h3,h4,(fun m hm h=>by cases h),h5⟩
end Go.Pv
namespace Go.Pv
open Go
theorem ofCell_rep (w:World) (Y:Nat→Prop) (σ:Sg) (v:Value):Rep w Y σ (ofCell v) v:=by
 unfold ofCell
 split
 case h_5=>unfold Rep; exact ⟨none,0,0,rfl,rfl,Nat.le_refl _,fun _=>rfl,.inl rfl⟩
 all_goals simp [Rep]
theorem ofCells_rep (w:World) (Y:Nat→Prop) (σ:Sg):∀ vs:List Value,RepL w Y σ (ofCells vs) vs
 | []=>by simp [ofCells,RepL]
 | v::vs=>by simp only [ofCells]; unfold RepL; exact ⟨v,vs,rfl,ofCell_rep w Y σ v,ofCells_rep w Y σ vs⟩
theorem ofVal_rep (w:World) (Y:Nat→Prop) (σ:Sg) (v:Value):Rep w Y σ (ofVal v) v:=by
 unfold ofVal
 split
 ·unfold Rep; exact ⟨_,by simp,ofCells_rep w Y σ _⟩
 ·exact ofCell_rep w Y σ v
theorem ev_rep {T:Tab} {C:Ctx T} {w:World} {Y:Nat→Prop} {σ:Sg} {ps:List PV} {a:Act} {st:St} {n:Nat} (h:SW C w Y σ ps a.tmps.toList st n) (x:Operand):Rep w Y σ (evL T ps x) (a.eval x):=by
 cases x with
 | tmp t =>
  have:=h.vals.get ps _ t
  simpa [evL,Act.eval,Array.getD_eq_getD_getElem?,List.getD_eq_getElem?_getD] using this
 | const v=>exact ofVal_rep w Y σ v
 | global g =>
  simp only [evL]
  split
  ·rename_i cs hg; exact Rep.keep _ ⟨fun _ _ _=>rfl,fun _ _ h=>h,Nat.le_refl _,fun _ _ h=>by cases h⟩ _ (h.glob g cs hg)
  ·simp [Rep]
 | func f=>simp only [evL,Act.eval]; unfold Rep; exact ⟨[],rfl,by simp [RepL]⟩
theorem evA_rep {T:Tab} {C:Ctx T} {w:World} {Y:Nat→Prop} {σ:Sg} {ps:List PV} {a:Act} {st:St} {n:Nat} (h:SW C w Y σ ps a.tmps.toList st n):∀ l:List Operand,RepL w Y σ (evA T ps l) (l.map a.eval)
 | []=>by simp [evA,RepL]
 | x::l=>by simp only [evA,List.map_cons]; unfold RepL; exact ⟨_,_,rfl,ev_rep h x,evA_rep h l⟩
def nextI:Dl→Nat→Nat→Nat
 | [],n,_=>n
 | _::_,n,id=>max n (id+1)
def Res {T:Tab} (P:Program) (C:Ctx T) (o:Oper) (a:Act) (w:World) (σ:Sg) (ps:List PV) (st:St) (n id:Nat) (K:PV→Dl→Prop):Prop :=
 ∃ v δ cv w' Y' σ',K v δ∧((execOp a.eval o).run P w=.ok (.value cv) w'∨((execOp a.eval o).run P w=.ok .skip w'∧cv=Go.undef)) ∧
  SW C w' Y' σ' ps a.tmps.toList (applyD δ st) (nextI δ n id)∧Rep w' Y' σ' v cv∧Off id σ σ'
theorem Res.quiet {T:Tab} {P:Program} {C:Ctx T} {o:Oper} {a:Act} {w:World} {Y:Nat→Prop} {σ:Sg} {ps:List PV} {st:St} {n id:Nat} {K:PV→Dl→Prop}
  (H:SW C w Y σ ps a.tmps.toList st n) {v:PV} {cv:Value} (hr:(execOp a.eval o).run P w=.ok (.value cv) w) (hv:Rep w Y σ v cv) (hK:K v []):Res P C o a w σ ps st n id K :=
 ⟨v,[],cv,w,Y,σ,hK,.inl hr,H,hv,Off.refl _ _⟩
theorem rep_bool {w:World} {Y:Nat→Prop} {σ:Sg} {b:Bool} {v:Value} (h:Rep w Y σ (.bool b) v):v=.bool b:=by unfold Rep at h; exact h
theorem rep_sb {w:World} {Y:Nat→Prop} {σ:Sg} {b:Bool} {v:Value} (h:Rep w Y σ (.sb b) v):v=.bool b:=by unfold Rep at h; exact h
theorem rep_int {w:World} {Y:Nat→Prop} {σ:Sg} {k:IntKind} {n:Int} {v:Value} (h:Rep w Y σ (.int k n) v):v=.int k n:=by unfold Rep at h; exact h
theorem rep_si {w:World} {Y:Nat→Prop} {σ:Sg} {k:IntKind} {n:Int} {v:Value} (h:Rep w Y σ (.si k n) v):v=.int k n:=by unfold Rep at h; exact h
theorem rep_str {w:World} {Y:Nat→Prop} {σ:Sg} {s:ByteArray} {v:Value} (h:Rep w Y σ (.str s) v):v=.string s:=by unfold Rep at h; exact h
theorem rep_intV {w:World} {Y:Nat→Prop} {σ:Sg} {p:PV} {k:IntKind} {n:Int} {v:Value} (h:Rep w Y σ p v) (e:intV p=some (k,n)):v=.int k n:=by
 unfold intV at e
 split at e <;> simp at e <;> obtain ⟨rfl,rfl⟩:=e
 ·exact rep_int h
 ·exact rep_si h
theorem rep_boolV {w:World} {Y:Nat→Prop} {σ:Sg} {p:PV} {b:Bool} {v:Value} (h:Rep w Y σ p v) (e:boolV p=some b):v=.bool b:=by
 unfold boolV at e
 split at e <;> simp at e <;> subst e
 ·exact rep_bool h
 ·exact rep_sb h
theorem kindEq_eq {k k' : IntKind} (h:kindEq k k'=true):k=k':=by cases k <;> cases k' <;> simp_all [kindEq]
section
variable {P:Program} {T:Tab} (hT:TabOK P T) {C:Ctx T} {o:Oper} {a:Act} {w:World} {Y:Nat→Prop} {σ:Sg} {ps:List PV} {st:St} {n id:Nat} {K:PV→Dl→Prop} {lk:Nat→Option Blk}
 (H:SW C w Y σ ps a.tmps.toList st n) (hlk:∀ b x,lk b=some x→lkS st b=some x) (hid:σ id=none∧T.pas≤id)
include H
theorem op_move {x:Operand} (ho:o.op=.move x) (h:opE T (Sig.std P T) (.move x) ps lk id K):Res P C o a w σ ps st n id K:=by
 refine Res.quiet H (cv:=a.eval x) ?_ (ev_rep H x) h
 simp [execOp,ho]
theorem op_assign {x:Operand} (ho:o.op=.assign x) (h:opE T (Sig.std P T) (.assign x) ps lk id K):Res P C o a w σ ps st n id K:=by
 refine Res.quiet H (cv:=a.eval x) ?_ (ev_rep H x) h
 simp [execOp,ho]
theorem op_pick {c x y:Operand} (ho:o.op=.pick c x y) (h:opE T (Sig.std P T) (.pick c x y) ps lk id K):Res P C o a w σ ps st n id K:=by
 have hc:=ev_rep H c
 simp only [opE] at h
 split at h
 ·rename_i e; rw [e] at hc; have hc:=rep_bool hc
  refine Res.quiet H (cv:=a.eval x) ?_ (ev_rep H x) h
  simp [execOp,ho,hc,asBool]
 ·rename_i e; rw [e] at hc; have hc:=rep_bool hc
  refine Res.quiet H (cv:=a.eval y) ?_ (ev_rep H y) h
  simp [execOp,ho,hc,asBool]
 ·exact h.elim
theorem op_nilCheck {x:Operand} (ho:o.op=.nilCheck x) (h:opE T (Sig.std P T) (.nilCheck x) ps lk id K):Res P C o a w σ ps st n id K:=by
 have hc:=ev_rep H x
 simp only [opE] at h
 split at h
 ·rename_i e; rw [e] at hc
  have hc':=hc; unfold Rep at hc'; obtain ⟨l,_,e'⟩:=hc'
  refine Res.quiet H (cv:=a.eval x) ?_ hc h
  rw [e']; simp [execOp,ho,e']
 ·rename_i e; rw [e] at hc
  have hc':=hc; unfold Rep at hc'; obtain ⟨l,_,e'⟩:=hc'
  refine Res.quiet H (cv:=a.eval x) ?_ hc h
  rw [e']; simp [execOp,ho,e']
 ·rename_i e; rw [e] at hc
  have hc':=hc; unfold Rep at hc'; obtain ⟨b,o',e',_⟩:=hc'
  refine Res.quiet H (cv:=a.eval x) ?_ hc h
  rw [e']; simp [execOp,ho,e']
 ·rename_i e; rw [e] at hc
  have e':=hc; unfold Rep at e'
  refine Res.quiet H (cv:=a.eval x) ?_ hc h
  rw [e']; simp [execOp,ho,e']
 ·rename_i e; rw [e] at hc
  have hc':=hc; unfold Rep at hc'; obtain ⟨vs,e',_⟩:=hc'
  refine Res.quiet H (cv:=a.eval x) ?_ hc h
  rw [e']; simp [execOp,ho,e']
 ·exact h.elim
theorem op_unNot {t:TypeId} {x:Operand} (ho:o.op=.unOp .not t x) (h:opE T (Sig.std P T) (.unOp .not t x) ps lk id K):Res P C o a w σ ps st n id K:=by
 have hc:=ev_rep H x
 simp only [opE] at h
 split at h
 ·rename_i e; rw [e] at hc; have hc:=rep_bool hc
  refine Res.quiet H (cv:=.bool false) ?_ (by simp [Rep]) h
  simp [execOp,ho,hc,Op.unary]
 ·rename_i e; rw [e] at hc; have hc:=rep_bool hc
  refine Res.quiet H (cv:=.bool true) ?_ (by simp [Rep]) h
  simp [execOp,ho,hc,Op.unary]
 ·rename_i b e; rw [e] at hc; have hc:=rep_sb hc
  refine Res.quiet H (cv:=.bool (!b)) ?_ (by simp [Rep,Sig.std]) h
  simp [execOp,ho,hc,Op.unary]
 ·exact h.elim
theorem op_unNeg {t:TypeId} {x:Operand} (ho:o.op=.unOp .neg t x) (h:opE T (Sig.std P T) (.unOp .neg t x) ps lk id K):Res P C o a w σ ps st n id K:=by
 have hc:=ev_rep H x
 simp only [opE] at h
 split at h
 ·rename_i k m e; rw [e] at hc; have hc:=rep_int hc
  refine Res.quiet H (cv:=.int k (k.wrap (0 - m))) ?_ (by simp [Rep]) h
  simp [execOp,ho,hc,Op.unary,Op.intArith]
 ·rename_i k m e; rw [e] at hc; have hc:=rep_si hc
  refine Res.quiet H (cv:=.int k (k.wrap (0 - m))) ?_ (by simp [Rep,Sig.std]) h
  simp [execOp,ho,hc,Op.unary,Op.intArith]
 ·exact h.elim
theorem op_extract {t:Operand} {i:Nat} (ho:o.op=.extract t i) (h:opE T (Sig.std P T) (.extract t i) ps lk id K):Res P C o a w σ ps st n id K:=by
 have hc:=ev_rep H t
 simp only [opE] at h
 split at h
 ·rename_i vs e; rw [e] at hc
  unfold Rep at hc; obtain ⟨us,e',hr⟩:=hc
  cases hb:Nat.blt i (lenL vs) with
  | false=>rw [hb] at h; exact h.elim
  | true =>
   rw [hb] at h
   have hi:i<us.length:=by rw [RepL.length _ _ hr]; simpa [Nat.blt_eq] using hb
   have hg:=hr.get _ _ i
   rw [List.getD_eq_getElem?_getD,List.getElem?_eq_getElem hi] at hg
   refine Res.quiet H (cv:=us[i]) ?_ hg h
   simp [execOp,ho,e',Instr.extract,hi]
 ·exact h.elim
end
end Go.Pv
namespace Go.Pv
open Go
theorem tab_open {P:Program} {T:Tab} (hT:TabOK P T) {t:TypeId} {x:TI} (h:T t=x) (ok:x.ok=true) :
  ∃ i d,P.info? t=some i∧P.underlying t=some d∧x=mkTI P t∧x.agg=isAggT P t∧x.size=i.size∧x.zero=zeroT P t ∧
   x.plain=(if P.eqGuardType P.depth t then none else plainT P 20 t) ∧
   x.kind=(match d with
    | .struct fs=>TK.struct (fs.toList.map fun f=>{ off:=f.offset,size:=P.cellsOf f.type,agg:=isAggT P f.type })
    | .array n e=>.arr n (P.cellsOf e) (isAggT P e)
    | .slice e=>.slice (P.cellsOf e) (P.bytesOf e) (zeroT P e)
    | .int k=>.int k
    | .string=>.str
    | .pointer _=>.ptr
    | .map k e=>mapTK P k e
    | _=>.oth):=by
 have e:=(hT t (by rw [h]; exact ok)).1
 rw [h] at e
 subst h
 unfold mkTI at e
 split at e
 ·rename_i i d h1 h2
  rw [e]
  refine ⟨i,d,h1,h2,?_,rfl,rfl,rfl,rfl,rfl⟩
  unfold mkTI; rw [h1,h2]
 ·rw [e] at ok; simp [TI.bad] at ok
theorem tab_struct {P:Program} {T:Tab} (hT:TabOK P T) {t:TypeId} {agg:Bool} {plain:Option (List Nat)} {size:Nat} {z:Option (List PV)} {fs:List FI}
  (h:T t=⟨true,agg,size,z,plain,.struct fs⟩):∃ fl,P.underlying t=some (.struct fl)∧fs=(fl.toList.map fun f=>{ off:=f.offset,size:=P.cellsOf f.type,agg:=isAggT P f.type })∧z=zeroT P t:=by
 obtain ⟨i,d,h1,h2,h3,h4,h5,h6,h7,h8⟩:=tab_open hT h rfl
 cases d <;> simp at h8
 case map k e=>unfold mapTK at h8; split at h8 <;> cases h8
 rename_i fl
 exact ⟨fl,h2,h8,h6⟩
theorem tab_slice {P:Program} {T:Tab} (hT:TabOK P T) {t:TypeId} {agg:Bool} {plain:Option (List Nat)} {size sz bytes:Nat} {z z' : Option (List PV)}
  (h:T t=⟨true,agg,size,z,plain,.slice sz bytes z'⟩):∃ e,P.underlying t=some (.slice e)∧sz=P.cellsOf e∧bytes=P.bytesOf e∧z'=zeroT P e:=by
 obtain ⟨i,d,h1,h2,h3,h4,h5,h6,h7,h8⟩:=tab_open hT h rfl
 cases d <;> simp at h8
 case map k e=>unfold mapTK at h8; split at h8 <;> cases h8
 rename_i e
 exact ⟨e,h2,h8.1,h8.2.1,h8.2.2⟩
theorem tab_arr {P:Program} {T:Tab} (hT:TabOK P T) {t:TypeId} {agg ag:Bool} {plain:Option (List Nat)} {size n sz:Nat} {z:Option (List PV)}
  (h:T t=⟨true,agg,size,z,plain,.arr n sz ag⟩):∃ e,P.underlying t=some (.array n e)∧sz=P.cellsOf e∧ag=isAggT P e∧z=zeroT P t:=by
 obtain ⟨i,d,h1,h2,h3,h4,h5,h6,h7,h8⟩:=tab_open hT h rfl
 cases d <;> simp at h8
 case map k e=>unfold mapTK at h8; split at h8 <;> cases h8
 rename_i m e
 obtain ⟨rfl,h8⟩:=h8
 exact ⟨e,h2,h8.1,h8.2,h6⟩
theorem tab_int {P:Program} {T:Tab} (hT:TabOK P T) {t:TypeId} {agg:Bool} {plain:Option (List Nat)} {size:Nat} {z:Option (List PV)} {k:IntKind}
  (h:T t=⟨true,agg,size,z,plain,.int k⟩):P.underlying t=some (.int k):=by
 obtain ⟨i,d,h1,h2,h3,h4,h5,h6,h7,h8⟩:=tab_open hT h rfl
 cases d <;> simp at h8
 case map k e=>unfold mapTK at h8; split at h8 <;> cases h8
 subst h8; exact h2
theorem tab_str {P:Program} {T:Tab} (hT:TabOK P T) {t:TypeId} {agg:Bool} {plain:Option (List Nat)} {size:Nat} {z:Option (List PV)}
  (h:T t=⟨true,agg,size,z,plain,.str⟩):P.underlying t=some .string:=by
 obtain ⟨i,d,h1,h2,h3,h4,h5,h6,h7,h8⟩:=tab_open hT h rfl
 cases d <;> simp at h8
 case map k e=>unfold mapTK at h8; split at h8 <;> cases h8
 exact h2
theorem tab_ptr {P:Program} {T:Tab} (hT:TabOK P T) {t:TypeId} {agg:Bool} {plain:Option (List Nat)} {size:Nat} {z:Option (List PV)}
  (h:T t=⟨true,agg,size,z,plain,.ptr⟩):∃ e,P.underlying t=some (.pointer e):=by
 obtain ⟨i,d,h1,h2,h3,h4,h5,h6,h7,h8⟩:=tab_open hT h rfl
 cases d <;> simp at h8
 case map k e=>unfold mapTK at h8; split at h8 <;> cases h8
 exact ⟨_,h2⟩
theorem tab_size {P:Program} {T:Tab} (hT:TabOK P T) {t:TypeId} {agg:Bool} {plain:Option (List Nat)} {size:Nat} {z:Option (List PV)} {k:TK}
  (h:T t=⟨true,agg,size,z,plain,k⟩):P.info? t ≠ none∧size=P.cellsOf t∧agg=isAggT P t∧∃ d,P.underlying t=some d:=by
 obtain ⟨i,d,h1,h2,h3,h4,h5,h6,h7,h8⟩:=tab_open hT h rfl
 refine ⟨by rw [h1]; simp,?_,h4,d,h2⟩
 simp [Program.cellsOf,h1]; exact h5
theorem fieldOf_eq:∀ (l:List FI) (n:Nat),fieldOf l n=l[n]?
 | [],n=>by simp [fieldOf]
 | f::l,0=>by simp [fieldOf]
 | f::l,n+1=>by simp [fieldOf,fieldOf_eq l n]
theorem run_sizeOf {P:Program} {w:World} {t:TypeId} (h:P.info? t ≠ none):(sizeOf t).run P w=.ok (P.cellsOf t) w:=by
 cases hi:P.info? t with
 | none=>exact absurd hi h
 | some i=>simp [sizeOf,typeInfo,program,Sem.run,Result.andThen,hi,Program.cellsOf]
theorem run_isAgg {P:Program} {w:World} {t:TypeId} {d:TypeDesc} (h:P.underlying t=some d):(isAgg t).run P w=.ok (isAggT P t) w:=by
 have hu:(underlying t).run P w=.ok d w:=by simp [underlying,program,Sem.run,Result.andThen,h]
 simp only [isAgg,isAggT,h,Sem.run_bind,hu,Result.andThen]
 cases d <;> simp
theorem run_und {P:Program} {w:World} {t:TypeId} {d:TypeDesc} (h:P.underlying t=some d):(underlying t).run P w=.ok d w:=by
 simp [underlying,program,Sem.run,Result.andThen,h]
theorem info_of_pos {P:Program} {t:TypeId} (h:isPos (P.cellsOf t)=true):P.info? t ≠ none:=by
 intro h0
 have:P.cellsOf t=0:=by simp [Program.cellsOf,h0]
 rw [this] at h; simp [isPos] at h
theorem load_run {P:Program} {w:World} {x:Addr} {v:Value} (h:w.cell? x=some v):(load x).run P w=.ok v w:=by
 simp [load,Sem.run,h]
theorem addr_add (b o n:Nat):(⟨b,o,none⟩:Addr).add n=⟨b,o+n,none⟩:=by
 unfold Addr.add
 split <;> simp [*]
theorem loadCells_run {P:Program} {w:World} {b o:Nat}:∀ (vs:List Value) (i:Nat) (acc:Array Value),(∀ j v,vs[j]?=some v→w.cell? ⟨b,o+(i+j),none⟩=some v) →
  (loadCellsFrom ⟨b,o,none⟩ i vs.length acc).run P w=.ok (acc ++ vs.toArray) w
 | [],i,acc,_=>by simp [loadCellsFrom]
 | v::vs,i,acc,h=>by
  have h0:=h 0 v rfl
  simp only [List.length_cons,loadCellsFrom,Sem.run_bind,addr_add]
  rw [load_run (by simpa using h0)]
  simp only [Result.andThen]
  rw [loadCells_run vs (i+1) (acc.push v) (fun j u hu=>by
   have:=h (j+1) u (by simpa using hu)
   rw [show i+1+j=i+(j+1) by omega]; exact this)]
  simp
section
variable {P:Program} {T:Tab} (hT:TabOK P T) {C:Ctx T} {o:Oper} {a:Act} {w:World} {Y:Nat→Prop} {σ:Sg} {ps:List PV} {st:St} {n id:Nat} {K:PV→Dl→Prop} {lk:Nat→Option Blk}
 (H:SW C w Y σ ps a.tmps.toList st n) (hlk:∀ b x,lk b=some x→lkS st b=some x) (hid:σ id=none∧T.pas≤id)
include hT H in
theorem op_fieldAddr {t:TypeId} {x:Operand} {f:Nat} (ho:o.op=.fieldAddr t x f) (h:opE T (Sig.std P T) (.fieldAddr t x f) ps lk id K):Res P C o a w σ ps st n id K:=by
 have hc:=ev_rep H x
 simp only [opE] at h
 split at h
 ·rename_i fs e
  obtain ⟨fl,hu,rfl,_⟩:=tab_struct hT e
  split at h
  ·rename_i fd hf
   rw [fieldOf_eq,List.getElem?_map] at hf
   cases hg:fl.toList[f]? with
   | none=>simp [hg] at hf
   | some g =>
    simp [hg] at hf
    subst hf
    have hg' : fl[f]?=some g:=by simpa using hg
    cases hp:isPos (P.cellsOf g.type) with
    | false=>simp only [hp] at h; exact h.elim
    | true =>
     simp only [hp] at h
     have hpos:P.cellsOf g.type ≠ 0:=by intro h0; rw [h0] at hp; simp [isPos] at hp
     have hinfo:P.info? g.type ≠ none:=by intro h0; apply hpos; simp [Program.cellsOf,h0]
     have run:∀ b off,a.eval x=.pointer (some ⟨b,off,none⟩)→(execOp a.eval o).run P w=.ok (.value (.pointer (some ⟨b,off+g.offset,none⟩))) w:=by
      intro b off hx
      simp [execOp,ho,Instr.fieldAt,run_und hu,hg',hx,Instr.sureAddr,fieldPlace,run_sizeOf hinfo,hpos,addr_add]
     split at h
     ·rename_i b c e; rw [e] at hc
      unfold Rep at hc; obtain ⟨l,hs,e'⟩:=hc
      refine Res.quiet H (run _ _ e') ?_ h
      unfold Rep; exact ⟨l,hs,by rw [Nat.add_assoc]⟩
     ·rename_i b r c e; rw [e] at hc
      unfold Rep at hc; obtain ⟨l,hs,e'⟩:=hc
      refine Res.quiet H (run _ _ e') ?_ h
      unfold Rep; exact ⟨l,hs,by rw [Nat.add_assoc]⟩
     ·rename_i b r c hh sz j k e; rw [e] at hc
      unfold Rep at hc
      refine Res.quiet H (run _ _ hc) ?_ h
      unfold Rep; rw [Nat.add_assoc]
     ·rename_i cs e; rw [e] at hc
      cases hb:Nat.ble g.offset (lenL cs) with
      | false=>simp only [hb] at h; exact h.elim
      | true =>
       simp only [hb] at h
       unfold Rep at hc; obtain ⟨b,o',e',hy,hr⟩:=hc
       refine Res.quiet H (run _ _ e') ?_ h
       unfold Rep; rw [dropL_eq]; exact ⟨b,_,rfl,hy,hr.drop _ _ _⟩
     ·exact h.elim
  ·exact h.elim
 ·exact h.elim
theorem loadVar_rep {P:Program} {w:World} {Y:Nat→Prop} {σ:Sg} {t:TypeId} {b o' c:Nat} {row:List PV} {agg:Bool} {size:Nat} {K:PV→Prop}
  (hinfo:P.info? t ≠ none) (hsize:size=P.cellsOf t) (hagg:agg=isAggT P t) (hund:∃ d,P.underlying t=some d)
  (hr:RepC w Y σ b row o') (h:loadRow agg size row c K) :
  ∃ v cv,K v∧(loadVar t ⟨b,o'+c,none⟩).run P w=.ok cv w∧Rep w Y σ v cv:=by
 obtain ⟨d,hu⟩:=hund
 unfold loadRow at h
 cases agg with
 | true =>
  simp only [cond_true] at h
  cases hb:Nat.ble (c+size) (lenL row) with
  | false=>simp only [hb,cond_false] at h
  | true =>
   simp only [hb,cond_true,takeL_eq,dropL_eq] at h
   have hle:c+size≤row.length:=by simpa using Nat.le_of_ble_eq_true hb
   have hr2:=(hr.drop c _ _).take size _ _
   obtain ⟨vs,hv,hcell⟩:=hr2.vals
   refine ⟨_,.agg vs.toArray,h,?_,by unfold Rep; exact ⟨vs,rfl,hv⟩⟩
   have hlen:vs.length=P.cellsOf t:=by
    rw [RepL.length _ _ hv]; simp; omega
   simp only [loadVar,Sem.run_bind,run_isAgg hu,← hagg,Result.andThen,if_true,run_sizeOf hinfo,loadCells]
   rw [← hlen,loadCells_run vs 0 #[] (fun j v hj=>by simpa using hcell j v hj)]
   simp
 | false =>
  simp only [cond_false] at h
  cases hb:Nat.blt c (lenL row) with
  | false=>simp only [hb,cond_false] at h
  | true =>
   simp only [hb,cond_true] at h
   have hlt:c<row.length:=by simpa [Nat.blt_eq] using hb
   obtain ⟨v,hv,hrep⟩:=hr.get _ _ c hlt
   refine ⟨_,v,h,?_,hrep⟩
   simp only [loadVar,Sem.run_bind,run_isAgg hu,← hagg,Result.andThen]
   simp only [Bool.false_eq_true,if_false]
   exact load_run hv
theorem BlkRep.of_lk {T:Tab} {C:Ctx T} {w:World} {Y:Nat→Prop} {σ:Sg} {ps:List PV} {vs:List Value} {st:St} {n:Nat} (H:SW C w Y σ ps vs st n) {lk:Nat→Option Blk}
  (hlk:∀ b x,lk b=some x→lkS st b=some x) {b:Nat} {x:Blk} {l:Loc} (h:lk b=some x) (hs:σ b=some l):BlkRep w Y σ l x:=by
 rcases H.store.blk b x (hlk _ _ h) with ⟨l',hs',hb⟩ | ⟨hs',_⟩
 ·rw [hs] at hs'; cases hs'; exact hb
 ·rw [hs] at hs'; cases hs'
theorem rep_noSg {w:World} {Y:Nat→Prop} {σ:Sg} {p:PV} {v:Value} (h:Rep w Y noSg p v):Rep w Y σ p v :=
 Rep.keep p ⟨fun _ _ _=>rfl,fun _ _ h=>h,Nat.le_refl _,fun _ _ h=>by cases h⟩ v h
theorem getD_some {o:Option PV} {h:Hdr} {sz:Nat} {es:List (List PV)} (e:o.getD .undef=.ow h sz es):o=some (.ow h sz es):=by
 cases o with
 | none=>cases e
 | some x=>simp at e; rw [e]
theorem borV_rep {P:Program} {T:Tab} {w:World} {Y:Nat→Prop} {σ:Sg} (b r c:Nat) {p:PV} {v:Value} (h:Rep w Y σ p v):Rep w Y σ (borV (Sig.std P T) b r c p) v:=by
 unfold borV
 split
 ·rename_i hh sz es
  unfold Rep at h ⊢
  simp only [Sig.std]
  rcases h with ⟨h1,h2,h3⟩ | ⟨h1,h2⟩
  ·exact .inl ⟨by simpa using h1,h2,h3⟩
  ·exact .inr ⟨by rw [h1]; rfl,h2⟩
 ·exact h
theorem borL_rep {P:Program} {T:Tab} {w:World} {Y:Nat→Prop} {σ:Sg} {bb:Nat} (b r:Nat):∀ (ps:List PV) (c o:Nat),RepC w Y σ bb ps o→RepC w Y σ bb (borL (Sig.std P T) b r c ps) o
 | [],c,o,h=>by simpa [borL] using h
 | p::ps,c,o,h=>by
  unfold RepC at h; obtain ⟨⟨v,h1,h2⟩,h3⟩:=h
  simp only [borL]; unfold RepC; exact ⟨⟨v,h1,borV_rep b r c h2⟩,borL_rep b r ps (c+1) (o+1) h3⟩
include hT H hlk in
theorem op_load {t:TypeId} {x:Operand} (ho:o.op=.load t x) (h:opE T (Sig.std P T) (.load t x) ps lk id K):Res P C o a w σ ps st n id K:=by
 have hc:=ev_rep H x
 simp only [opE] at h
 split at h
 ·rename_i agg size z plain kind e
  obtain ⟨hinfo,hsize,hagg,hund⟩:=tab_size hT e
  have fin:∀ (σ' : Sg) (b o' c:Nat) (row:List PV),a.eval x=.pointer (some ⟨b,o'+c,none⟩)→RepC w Y σ' b row o'→(∀ p v,Rep w Y σ' p v→Rep w Y σ p v) →
    loadRow agg size row c (fun v=>K v [])→Res P C o a w σ ps st n id K:=by
   intro σ' b o' c row hx hr hσ hl
   obtain ⟨v,cv,hK,hrun,hrep⟩:=loadVar_rep hinfo hsize hagg hund hr hl
   refine Res.quiet H (cv:=cv) ?_ (hσ _ _ hrep) hK
   simp [execOp,ho,hx,Instr.loadAt,Instr.sureAddr,hrun]
  split at h
  ·rename_i b c e; rw [e] at hc
   unfold Rep at hc; obtain ⟨l,hs,e'⟩:=hc
   split at h
   ·rename_i ro row hb
    have hB:=BlkRep.of_lk H hlk hb hs
    unfold BlkRep at hB
    exact fin σ _ _ _ _ e' hB.2.2.2.1 (fun _ _ h=>h) h
   ·exact h.elim
  ·rename_i b r c e; rw [e] at hc
   unfold Rep at hc; obtain ⟨l,hs,e'⟩:=hc
   split at h
   ·rename_i ro sz rows hb
    have hB:=BlkRep.of_lk H hlk hb hs
    unfold BlkRep at hB
    obtain ⟨row,hrow,h⟩:=h
    have:=RepR.row _ _ _ _ hB.2.2.2.2.1 hrow
    rw [← hB.2.1] at this
    exact fin noSg _ _ _ _ e' this.2 (fun _ _ h=>rep_noSg h) h
   ·rename_i sz rows hb
    have hB:=BlkRep.of_lk H hlk hb hs
    unfold BlkRep at hB
    obtain ⟨row,hrow,h⟩:=h
    have:=RepR.row _ _ _ _ hB.2.2.2.2.1 hrow
    rw [← hB.2.1] at this
    exact fin noSg _ _ _ _ e' (borL_rep b r row 0 _ this.2) (fun _ _ h=>rep_noSg h) h
   ·exact h.elim
  ·rename_i b r c hh sz j k e; rw [e] at hc
   unfold Rep at hc
   split at h
   ·rename_i sz0 rows hb
    obtain ⟨row,hrow,h⟩:=h
    split at h
    ·rename_i h' sz' es ec
     cases hs:Nat.beq sz' sz with
     | false=>rw [hs] at h; exact h.elim
     | true =>
      rw [hs] at h
      simp only [cond_true] at h
      have hs:=Nat.eq_of_beq_eq_true hs
      subst hs
      obtain ⟨he,er,her,h⟩:=h
      subst he
      have hN:=H.nest.rep b r c hh sz' es ⟨sz0,rows,row,hlk _ _ hb,hrow,by rw [getL_eq,List.getD_eq_getElem?_getD] at ec; exact getD_some ec,by rintro rfl; simp at her⟩
      exact fin noSg _ _ _ _ hc (RepR.row _ _ _ _ hN.rows her).2 (fun _ _ h=>rep_noSg h) h
    ·exact h.elim
   ·exact h.elim
  ·rename_i cs e; rw [e] at hc
   unfold Rep at hc; obtain ⟨b,o',e',hy,hr⟩:=hc
   exact fin noSg b o' 0 cs (by simpa using e') hr (fun _ _ h=>rep_noSg h) h
  ·exact h.elim
 ·exact h.elim
end
end Go.Pv
namespace Go.Pv
open Go
theorem beqN {b c:Nat} (h:¬ b=c):Nat.beq b c=false:=by
 cases e:Nat.beq b c with
 | false=>rfl
 | true=>exact absurd (Nat.eq_of_beq_eq_true e) h
theorem lkS_inS (st:St) (b:Nat) (x:Option Blk) (c:Nat):lkS (inS st b x) c=if b=c then x else lkS st c:=by
 induction st with
 | nil =>
  by_cases h:b=c
  ·simp [inS,lkS,h]
  ·have:Nat.beq b c=false:=beqN h
   simp [inS,lkS,this,h]
 | cons p st ih =>
  obtain ⟨b',y⟩:=p
  by_cases h:b'=b
  ·subst h
   by_cases h2:b'=c
   ·subst h2; simp [inS,lkS]
   ·have:Nat.beq b' c=false:=beqN h2
    simp [inS,lkS,this,h2]
  ·have h0:Nat.beq b' b=false:=beqN h
   simp only [inS,h0,cond_false,lkS]
   by_cases h2:b'=c
   ·subst h2; simp; intro e; exact absurd e.symm h
   ·have:Nat.beq b' c=false:=beqN h2
    simp only [this,cond_false,ih]
theorem BlkRep.keep {w w' : World} {Y Y' : Nat→Prop} {σ σ' : Sg} {l:Loc} {x:Blk} (K:Keep w w' Y Y' σ σ') (hb:w'.heap[l.cb]?=w.heap[l.cb]?) (hY:Y' l.cb ↔ Y l.cb)
  (h:BlkRep w Y σ l x):BlkRep w' Y' σ' l x:=by
 cases x with
 | var ro row =>
  unfold BlkRep at h ⊢
  obtain ⟨⟨arr,ty,h1,h2⟩,h3,h4,h5,h6,h7⟩:=h
  exact ⟨⟨arr,ty,by rw [hb]; exact h1,h2⟩,h3,h4,RepC.keep row K (fun _=>hb) _ h5,fun e=>hY.2 (h6 e),fun e hy=>h7 e (hY.1 hy)⟩
 | arr ro sz rows =>
  unfold BlkRep at h ⊢
  obtain ⟨⟨arr,ty,h1,h2⟩,h3,h4,h5,h6,h7,h8⟩:=h
  exact ⟨⟨arr,ty,by rw [hb]; exact h1,h2⟩,h3,h4,h5,RepR.keep rows K.none (fun _=>hb) _ h6,fun e=>hY.2 (h7 e),fun e hy=>h8 e (hY.1 hy)⟩
 | map rows =>
  unfold BlkRep at h ⊢
  obtain ⟨⟨es,ck,h1,h2⟩,h3⟩:=h
  exact ⟨⟨es,ck,by rw [hb]; exact h1,MapRep.keep K.none _ _ h2⟩,hY.2 h3⟩
 | nar sz rows =>
  unfold BlkRep at h ⊢
  obtain ⟨⟨arr,ty,h1,h2⟩,h3,h4,h5,h6,h7⟩:=h
  exact ⟨⟨arr,ty,by rw [hb]; exact h1,h2⟩,h3,h4,h5,RepR.keep rows K.none (fun _=>hb) _ h6,hY.2 h7⟩
theorem BlkRep.lt {w:World} {Y:Nat→Prop} {σ:Sg} {l:Loc} {x:Blk} (h:BlkRep w Y σ l x):l.cb<w.heap.size:=by
 have:∃ o,w.heap[l.cb]?=some o:=by
  cases x <;> (unfold BlkRep at h; first | (obtain ⟨⟨⟨arr,ty,h1,_⟩⟩,_⟩:=h; exact ⟨_,h1⟩) | (obtain ⟨⟨es,ck,h1,_⟩,_⟩:=h; exact ⟨_,h1⟩))
 obtain ⟨o,h1⟩:=this
 by_cases hb:l.cb<w.heap.size
 ·exact hb
 ·simp [Array.getElem?_eq_none (Nat.le_of_not_lt hb)] at h1
theorem SW.drop {T:Tab} {C:Ctx T} {w:World} {Y:Nat→Prop} {σ:Sg} {ps:List PV} {vs:List Value} {st:St} {n:Nat} (H:SW C w Y σ ps vs st n) (b:Nat):SW C w Y σ ps vs (inS st b none) n:=by
 have sub:∀ c x,lkS (inS st b none) c=some x→lkS st c=some x:=by
  intro c x h
  rw [lkS_inS] at h
  by_cases hb:b=c
  ·rw [if_pos hb] at h; cases h
  ·rw [if_neg hb] at h; exact h
 refine ⟨H.vals,⟨fun c x h=>H.store.blk c x (sub c x h),fun c c' x x' l l' h h'=>H.store.inj c c' x x' l l' (sub _ _ h) (sub _ _ h')⟩,H.next,H.yold,H.y0,H.c0,H.yshr,H.chg,fun c x l h=>H.own c x l (sub _ _ h),H.glob,H.fix,H.nest.sub sub⟩
theorem SW.ext {T:Tab} {C:Ctx T} {w:World} {Y:Nat→Prop} {σ:Sg} {ps:List PV} {vs:List Value} {st st' : St} {n:Nat} (H:SW C w Y σ ps vs st n) (h:∀ b x,lkS st' b=some x→lkS st b=some x):SW C w Y σ ps vs st' n :=
 ⟨H.vals,⟨fun c x e=>H.store.blk c x (h c x e),fun c c' x x' l l' e e'=>H.store.inj c c' x x' l l' (h _ _ e) (h _ _ e')⟩,H.next,H.yold,H.y0,H.c0,H.yshr,H.chg,fun c x l e=>H.own c x l (h _ _ e),H.glob,H.fix,H.nest.sub h⟩
theorem SW.update {T:Tab} {C:Ctx T} {w w' : World} {Y:Nat→Prop} {σ:Sg} {ps:List PV} {vs:List Value} {st:St} {n:Nat} (H:SW C w Y σ ps vs st n)
  {b:Nat} {x x' : Blk} {l:Loc} (hx:lkS st b=some x) (hl:σ b=some l) (hm:Y l.cb)
  (hos:w'.os=w.os) (htape:w'.tape=w.tape) (hout:w'.output=w.output) (hsize:w'.heap.size=w.heap.size)
  (hother:∀ k,k ≠ l.cb→w'.heap[k]?=w.heap[k]?) (hnar:∀ sz rows,x' ≠ .nar sz rows) (hnew:(∀ p v,Rep w Y σ p v→Rep w' Y σ p v)→BlkRep w' Y σ l x'):SW C w' Y σ ps vs (inS st b (some x')) n:=by
 have K:Keep w w' Y Y σ σ:=⟨fun k _ hk=>hother k (fun e=>hk (e ▸ hm)),fun _ _ h=>h,Nat.le_of_eq hsize.symm,SgLe.refl _⟩
 have own:=H.own b x l hx hl
 refine ⟨RepL.keep _ K _ H.vals,⟨?_,?_⟩,H.next,fun k hk=>by rw [hsize]; exact H.yold k hk,H.y0,H.c0,H.yshr,?_,?_,H.glob.keep K.none,H.fix,?_⟩
 ·intro c y h
  rw [lkS_inS] at h
  by_cases hc:b=c
  ·rw [if_pos hc] at h; cases h; subst hc
   exact .inl ⟨l,hl,hnew fun p v hp=>Rep.keep p K v hp⟩
  ·rw [if_neg hc] at h
   rcases H.store.blk c y h with ⟨l',hl',hb⟩ | hn
   ·refine .inl ⟨l',hl',BlkRep.keep K (hother _ fun e=>hc ?_) Iff.rfl hb⟩
    exact (H.store.inj c b y x l' l h hx hl' hl e).symm
   ·exact .inr hn
 ·intro c c' y y' l1 l2 h h' h1 h2 e
  have old:∀ d z,lkS (inS st b (some x')) d=some z→∃ z',lkS st d=some z':=by
   intro d z hd
   rw [lkS_inS] at hd
   by_cases hc:b=d
   ·subst hc; exact ⟨x,hx⟩
   ·rw [if_neg hc] at hd; exact ⟨z,hd⟩
  obtain ⟨z,hz⟩:=old _ _ h
  obtain ⟨z',hz'⟩:=old _ _ h'
  exact H.store.inj c c' z z' l1 l2 hz hz' h1 h2 e
 ·refine ⟨by rw [hos]; exact H.chg.os,by rw [htape]; exact H.chg.tape,by rw [hout]; exact H.chg.output,by rw [hsize]; exact H.chg.size,fun k hk hM=>?_⟩
  have hne:k ≠ l.cb:=fun e=>by
   subst e
   have h1:=H.away hx hl
   rcases H.yshr _ hm hk with h2 | h2
   ·exact h1 h2
   ·exact hM h2
  rw [hother k hne]; exact H.chg.block k hk hM
 ·intro c y l' h h1
  rw [lkS_inS] at h
  by_cases hc:b=c
  ·subst hc; rw [hl] at h1; cases h1; exact own
  ·rw [if_neg hc] at h; exact H.own c y l' h h1
 ·have back:∀ {c r k h sz es},OwAt (inS st b (some x')) c r k h sz es→OwAt st c r k h sz es:=by
   rintro c r k h sz es ⟨sz0,rows,row,h1,h2⟩
   rw [lkS_inS] at h1
   by_cases hc:b=c
   ·rw [if_pos hc] at h1; exact absurd (Option.some.inj h1) (hnar _ _)
   ·rw [if_neg hc] at h1; exact ⟨sz0,rows,row,h1,h2⟩
  refine H.nest.keep K.none (fun _ _ _ _ _ _ k=>back k) (fun c r k h sz es hk=>hother _ (H.nest.sep _ _ _ _ _ _ _ _ _ (back hk) hx hl).symm) (fun c r k h sz es hk=>(H.nest.rep _ _ _ _ _ _ (back hk)).own) fun c r k h sz es b' y l' hk hy hl'=>?_
  rw [lkS_inS] at hy
  by_cases hc:b=b'
  ·subst hc; rw [hl] at hl'; cases hl'; exact H.nest.sep _ _ _ _ _ _ _ _ _ (back hk) hx hl
  ·rw [if_neg hc] at hy; exact H.nest.sep _ _ _ _ _ _ _ _ _ (back hk) hy hl'
theorem SW.allocO {T:Tab} {C:Ctx T} {w:World} {Y:Nat→Prop} {σ:Sg} {ps:List PV} {vs:List Value} {st:St} {n id:Nat} (H:SW C w Y σ ps vs st n) (hid:σ id=none∧T.pas≤id)
  (ob:Obj) (l:Loc) (hcb:l.cb=w.heap.size) (x:Blk) (hnar:∀ sz rows,x=.nar sz rows→∀ (r:Nat) (row:List PV) (c:Nat) (h:Hdr) (sz' : Nat) (es:List (List PV)),rows[r]?=some row→row[c]?=some (PV.ow h sz' es)→es=[])
  (hx:∀ w' Y' σ',(∀ p v,Rep w Y σ p v→Rep w' Y' σ' p v)→Y' l.cb→w'.heap[l.cb]?=some ob→(∀ p v,Rep w Y noSg p v→Rep w' Y' noSg p v)→BlkRep w' Y' σ' l x) :
  ∃ Y' σ',SW C (w.alloc ob) Y' σ' ps vs (inS st id (some x)) (max n (id+1))∧σ' id=some l∧SgLe σ σ'∧(∀ p v,Rep w Y σ p v→Rep (w.alloc ob) Y' σ' p v)∧Off id σ σ':=by
 have hfree:=hid.1
 have heap:(w.alloc ob).heap=w.heap.push ob:=rfl
 have hnew:(w.alloc ob).heap[l.cb]?=some ob:=by rw [heap,hcb]; simp
 have hold:∀ k,k<w.heap.size→(w.alloc ob).heap[k]?=w.heap[k]?:=by
  intro k hk; rw [heap,Array.getElem?_push,if_neg (by omega)]
 let Y' : Nat→Prop:=fun k=>Y k∨k=w.heap.size
 let σ' : Sg:=fun b=>if b=id then some l else σ b
 have hsg:SgLe σ σ':=by
  intro b m h
  show (if b=id then some l else σ b)=some m
  by_cases hb:b=id
  ·subst hb; rw [hfree] at h; cases h
  ·rw [if_neg hb]; exact h
 have hsz:(w.alloc ob).heap.size=w.heap.size+1:=by rw [heap]; simp
 have K:Keep w (w.alloc ob) Y Y' σ σ' :=
  ⟨fun k hk _=>hold k hk,fun k hk h=>h.resolve_right (by omega),by omega,hsg⟩
 refine ⟨Y',σ',⟨RepL.keep _ K _ H.vals,⟨?_,?_⟩,?_,?_,fun k hk=>.inl (H.y0 k hk),H.c0,?_,?_,?_,H.glob.keep K.none,⟨by have:=H.fix.1; omega,fun b hb=>by show (if b=id then some l else σ b)=_; rw [if_neg (by omega)]; exact H.fix.2 b hb⟩,?_⟩,by simp [σ'],hsg,fun p v hp=>Rep.keep p K v hp,fun b hb=>by show (if b=id then some l else σ b)=_; rw [if_neg hb]⟩
 ·intro c y h
  rw [lkS_inS] at h
  by_cases hc:id=c
  ·rw [if_pos hc] at h; cases h; subst hc
   exact .inl ⟨l,by simp [σ'],hx _ Y' σ' (fun p v hp=>Rep.keep p K v hp) (.inr hcb) hnew (fun p v hp=>Rep.keep p K.none v hp)⟩
  ·rw [if_neg hc] at h
   have hc' : c ≠ id:=fun e=>hc e.symm
   rcases H.store.blk c y h with ⟨l',hl',hb⟩ | ⟨hn,hx'⟩
   ·have hlt:=hb.lt
    exact .inl ⟨l',hsg _ _ hl',BlkRep.keep K (hold _ hlt) ⟨fun h=>h.resolve_right (by omega),.inl⟩ hb⟩
   ·exact .inr ⟨by simp [σ',hc',hn],hx'⟩
 ·intro c c' y y' l1 l2 h h' h1 h2 e
  rw [lkS_inS] at h h'
  by_cases hc:id=c <;> by_cases hc' : id=c'
  ·omega
  ·exfalso
   rw [if_neg hc'] at h'
   subst hc
   simp [σ'] at h1; subst h1
   have h2' : σ c'=some l2:=by simpa [σ',show c' ≠ id from fun e=>hc' e.symm] using h2
   rcases H.store.blk c' y' h' with ⟨l',hl',hb⟩ | ⟨hn,_⟩
   ·rw [h2'] at hl'; cases hl'; have:=hb.lt; omega
   ·rw [h2'] at hn; cases hn
  ·exfalso
   rw [if_neg hc] at h
   subst hc'
   simp [σ'] at h2; subst h2
   have h1' : σ c=some l1:=by simpa [σ',show c ≠ id from fun e=>hc e.symm] using h1
   rcases H.store.blk c y h with ⟨l',hl',hb⟩ | ⟨hn,_⟩
   ·rw [h1'] at hl'; cases hl'; have:=hb.lt; omega
   ·rw [h1'] at hn; cases hn
  ·rw [if_neg hc] at h; rw [if_neg hc'] at h'
   have h1' : σ c=some l1:=by simpa [σ',show c ≠ id from fun e=>hc e.symm] using h1
   have h2' : σ c'=some l2:=by simpa [σ',show c' ≠ id from fun e=>hc' e.symm] using h2
   exact H.store.inj c c' y y' l1 l2 h h' h1' h2' e
 ·intro b hb
  show (if b=id then some l else σ b)=none
  rw [if_neg (by omega)]; exact H.next b (by omega)
 ·intro k hk
  rcases hk with hk | hk
  ·have:=H.yold k hk; omega
  ·omega
 ·intro k hk hlt
  rcases hk with hk | hk
  ·exact H.yshr k hk hlt
  ·have:=H.chg.size; omega
 ·refine ⟨H.chg.os,H.chg.tape,H.chg.output,by have:=H.chg.size; omega,fun k hk hM=>?_⟩
  rw [hold k (by have:=H.chg.size; omega)]; exact H.chg.block k hk hM
 ·intro c y l' h h1
  rw [lkS_inS] at h
  by_cases hc:id=c
  ·subst hc; simp [σ'] at h1; subst h1; rw [hcb]; exact .inl H.chg.size
  ·rw [if_neg hc] at h
   exact H.own c y l' h (by simpa [σ',show c ≠ id from fun e=>hc e.symm] using h1)
 ·have back:∀ {c r k h sz es},OwAt (inS st id (some x)) c r k h sz es→OwAt st c r k h sz es:=by
   rintro c r k h sz es ⟨sz0,rows,row,h1,h2,h3⟩
   rw [lkS_inS] at h1
   by_cases hc:id=c
   ·rw [if_pos hc] at h1; exact absurd (hnar _ _ (Option.some.inj h1) _ _ _ _ _ _ h2 h3.1) h3.2
   ·rw [if_neg hc] at h1; exact ⟨sz0,rows,row,h1,h2,h3⟩
  refine H.nest.keep K.none (fun _ _ _ _ _ _ k=>back k) (fun c r k h sz es hk=>hold _ (H.nest.rep _ _ _ _ _ _ (back hk)).lt) (fun c r k h sz es hk=>.inl (H.nest.rep _ _ _ _ _ _ (back hk)).own) fun c r k h sz es b' y l' hk hy hl'=>?_
  have hlt:=(H.nest.rep _ _ _ _ _ _ (back hk)).lt
  rw [lkS_inS] at hy
  by_cases hc:id=b'
  ·subst hc; simp [σ'] at hl'; subst hl'; omega
  ·rw [if_neg hc] at hy
   exact H.nest.sep _ _ _ _ _ _ _ _ _ (back hk) hy (by simpa [σ',show b' ≠ id from fun e=>hc e.symm] using hl')
theorem SW.alloc {T:Tab} {C:Ctx T} {w:World} {Y:Nat→Prop} {σ:Sg} {ps:List PV} {vs:List Value} {st:St} {n id:Nat} (H:SW C w Y σ ps vs st n) (hid:σ id=none∧T.pas≤id)
  (arr:Array Value) (ty:TypeId) (l:Loc) (hcb:l.cb=w.heap.size) (x:Blk) (hnar:∀ sz rows,x=.nar sz rows→∀ (r:Nat) (row:List PV) (c:Nat) (h:Hdr) (sz' : Nat) (es:List (List PV)),rows[r]?=some row→row[c]?=some (PV.ow h sz' es)→es=[])
  (hx:∀ w' Y' σ',(∀ p v,Rep w Y σ p v→Rep w' Y' σ' p v)→Y' l.cb→w'.heap[l.cb]?=some (.cells arr ty (0,0))→(∀ p v,Rep w Y noSg p v→Rep w' Y' noSg p v)→BlkRep w' Y' σ' l x) :
  ∃ Y' σ',SW C (w.alloc (.cells arr ty)) Y' σ' ps vs (inS st id (some x)) (max n (id+1))∧σ' id=some l∧SgLe σ σ'∧(∀ p v,Rep w Y σ p v→Rep (w.alloc (.cells arr ty)) Y' σ' p v)∧Off id σ σ' :=
 H.allocO hid (.cells arr ty) l hcb x hnar hx
theorem SW.freeze {T:Tab} {C:Ctx T} {w:World} {Y:Nat→Prop} {σ:Sg} {ps:List PV} {vs:List Value} {st:St} {n:Nat} (H:SW C w Y σ ps vs st n) {b:Nat} {x x' : Blk}
  (hx:lkS st b=some x) (hx' : (∃ ro row,x=.var ro row∧x'=.var true row)∨(∃ ro sz rows,x=.arr ro sz rows∧x'=.arr true sz rows)) :
  ∃ Y',SW C w Y' σ ps vs (inS st b (some x')) n∧(∀ l,σ b=some l→¬ Y' l.cb)∧(∀ k,Y' k→Y k):=by
 let Y' : Nat→Prop:=fun k=>Y k∧∀ l,σ b=some l→k ≠ l.cb
 have K:Keep w w Y Y' σ σ:=⟨fun _ _ _=>rfl,fun _ _ h=>h.1,Nat.le_refl _,SgLe.refl _⟩
 refine ⟨Y',⟨RepL.keep _ K _ H.vals,⟨?_,?_⟩,H.next,fun k hk=>H.yold k hk.1,?_,H.c0,fun k hk=>H.yshr k hk.1,H.chg,?_,H.glob.keep K.none,H.fix,?_⟩,fun l hl h=>h.2 l hl rfl,fun _ h=>h.1⟩
 ·intro c y h
  rw [lkS_inS] at h
  by_cases hc:b=c
  ·rw [if_pos hc] at h; cases h; subst hc
   rcases H.store.blk b x hx with ⟨l,hl,hb⟩ | ⟨hn,ro,sz,he⟩
   ·refine .inl ⟨l,hl,?_⟩
    rcases hx' with ⟨ro,row,rfl,rfl⟩ | ⟨ro,sz,rows,rfl,rfl⟩
    ·unfold BlkRep at hb ⊢
     exact ⟨hb.1,hb.2.1,hb.2.2.1,RepC.keep row K (fun _=>rfl) _ hb.2.2.2.1,fun e=>(by cases e),fun _ h=>h.2 l hl rfl⟩
    ·unfold BlkRep at hb ⊢
     exact ⟨hb.1,hb.2.1,hb.2.2.1,hb.2.2.2.1,RepR.keep rows K.none (fun _=>rfl) _ hb.2.2.2.2.1,fun e=>(by cases e),fun _ h=>h.2 l hl rfl⟩
   ·rcases hx' with ⟨ro',row,rfl,rfl⟩ | ⟨ro',sz',rows,rfl,rfl⟩
    ·cases he
    ·cases he; exact .inr ⟨hn,true,sz,rfl⟩
  ·rw [if_neg hc] at h
   rcases H.store.blk c y h with ⟨l',hl',hb⟩ | hn
   ·refine .inl ⟨l',hl',BlkRep.keep K rfl ⟨fun h=>h.1,fun h=>⟨h,fun l hl e=>hc ?_⟩⟩ hb⟩
    exact (H.store.inj c b y x l' l ‹_› hx hl' hl e).symm
   ·exact .inr hn
 ·intro c c' y y' l1 l2 h h' h1 h2 e
  have old:∀ d z,lkS (inS st b (some x')) d=some z→∃ z',lkS st d=some z':=by
   intro d z hd
   rw [lkS_inS] at hd
   by_cases hc:b=d
   ·subst hc; exact ⟨x,hx⟩
   ·rw [if_neg hc] at hd; exact ⟨z,hd⟩
  obtain ⟨z,hz⟩:=old _ _ h
  obtain ⟨z',hz'⟩:=old _ _ h'
  exact H.store.inj c c' z z' l1 l2 hz hz' h1 h2 e
 ·intro k hk
  refine ⟨H.y0 k hk,fun l hl e=>?_⟩
  exact H.away hx hl (e ▸ hk)
 ·intro c y l' h h1
  rw [lkS_inS] at h
  by_cases hc:b=c
  ·subst hc; exact H.own b x l' hx h1
  ·rw [if_neg hc] at h; exact H.own c y l' h h1
 ·have back:∀ {c r k h sz es},OwAt (inS st b (some x')) c r k h sz es→OwAt st c r k h sz es:=by
   rintro c r k h sz es ⟨sz0,rows,row,h1,h2⟩
   rw [lkS_inS] at h1
   by_cases hc:b=c
   ·rw [if_pos hc] at h1
    rcases hx' with ⟨_,_,_,e⟩ | ⟨_,_,_,_,e⟩ <;> (rw [e] at h1; cases h1)
   ·rw [if_neg hc] at h1; exact ⟨sz0,rows,row,h1,h2⟩
  refine H.nest.keep K.none (fun _ _ _ _ _ _ k=>back k) (fun _ _ _ _ _ _ _=>rfl) (fun c r k h sz es hk=>⟨(H.nest.rep _ _ _ _ _ _ (back hk)).own,fun l hl e=>H.nest.sep _ _ _ _ _ _ _ _ _ (back hk) hx hl e.symm⟩) fun c r k h sz es b' y l' hk hy hl'=>?_
  rw [lkS_inS] at hy
  by_cases hc:b=b'
  ·subst hc; exact H.nest.sep _ _ _ _ _ _ _ _ _ (back hk) hx hl'
  ·rw [if_neg hc] at hy; exact H.nest.sep _ _ _ _ _ _ _ _ _ (back hk) hy hl'
end Go.Pv
namespace Go.Pv
open Go
def oneC:Value→Bool
 | .agg _ | .tuple _=>false
 | _=>true
theorem oneCell_of {w:World} {Y:Nat→Prop} {σ:Sg} {p:PV} {v:Value} (hp:isCell p=true) (h:Rep w Y σ p v):oneC v=true:=by
 cases p <;> simp [isCell] at hp <;> unfold Rep at h
 case sl=>obtain ⟨_,_,_,e,_⟩:=h; subst e; rfl
 case os =>
  rcases h with ⟨_,_,_,e,_⟩ | ⟨_,_,e⟩ <;> subst e <;> rfl
 case lv=>obtain ⟨_,_,e⟩:=h; subst e; rfl
 case lp=>obtain ⟨_,_,e⟩:=h; subst e; rfl
 case mp=>obtain ⟨_,_,e⟩:=h; subst e; rfl
 case pp=>obtain ⟨_,_,e,_⟩:=h; subst e; rfl
 case fn=>obtain ⟨_,e,_⟩:=h; subst e; rfl
 case ow=>rcases h with ⟨_,e,_⟩ | ⟨_,_,_,e⟩ <;> subst e <;> rfl
 case bo=>rcases h with ⟨_,e,_⟩ | ⟨_,_,_,e⟩ <;> subst e <;> rfl
 all_goals (subst h; rfl)
theorem cells_of_oneCell {v:Value} (h:oneC v=true):v.cells=#[v]:=by
 cases v <;> simp [oneC] at h <;> rfl
theorem allCell_one {w:World} {Y:Nat→Prop} {σ:Sg}:∀ (ps:List PV) (vs:List Value),allCell ps=true→RepL w Y σ ps vs→∀ v∈vs,oneC v=true
 | [],vs,_,h=>by unfold RepL at h; subst h; simp
 | p::ps,vs,ha,h=>by
  unfold RepL at h; obtain ⟨v,vs',rfl,h1,h2⟩:=h
  simp [allCell] at ha
  intro u hu
  rcases List.mem_cons.1 hu with rfl | hu
  ·exact oneCell_of ha.1 h1
  ·exact allCell_one ps vs' ha.2 h2 u hu
theorem cells_rep {w:World} {Y:Nat→Prop} {σ:Sg} {p:PV} {v:Value} (h:Rep w Y σ p v) (ha:allCell (cellsV p)=true) :
  ∃ vs:List Value,v.cells=vs.toArray∧RepL w Y σ (cellsV p) vs∧∀ u∈vs,oneC u=true:=by
 cases p
 case agg cs =>
  simp only [cellsV] at ha ⊢
  unfold Rep at h; obtain ⟨vs,e,hr⟩:=h
  subst e
  exact ⟨vs,rfl,hr,allCell_one _ _ ha hr⟩
 all_goals
  simp only [cellsV,allCell,Bool.and_true] at ha ⊢
  have h1:=oneCell_of ha h
  refine ⟨[v],by rw [cells_of_oneCell h1],by unfold RepL; exact ⟨v,[],rfl,h,by simp [RepL]⟩,by simp [h1]⟩
theorem store_run {P:Program} {w:World} {x:Addr} {v u:Value} (hv:oneC v=true) (hc:w.cell? x=some u) (hf:w.frozen? x=false) :
  (store x v).run P w=.ok () (w.setCell x v):=by
 unfold store
 cases v <;> simp [oneC] at hv <;> simp [Sem.run,hc,hf]
theorem setCell_block {w:World} {b o:Nat} {arr:Array Value} {ty:TypeId} (h:w.heap[b]?=some (.cells arr ty (0,0))) (v:Value) :
  (w.setCell ⟨b,o,none⟩ v).heap[b]?=some (.cells (arr.setIfInBounds o v) ty (0,0)):=by
 simp [World.setCell,Array.getElem?_modify,h]
theorem cell_of_block {w:World} {b o:Nat} {arr:Array Value} {ty:TypeId} (h:w.heap[b]?=some (.cells arr ty (0,0))):w.cell? ⟨b,o,none⟩=arr[o]?:=by
 simp [World.cell?,h]
theorem frozen_of_block {w:World} {b o:Nat} {arr:Array Value} {ty:TypeId} (h:w.heap[b]?=some (.cells arr ty (0,0))):w.frozen? ⟨b,o,none⟩=false:=by
 simp [World.frozen?,h]
structure Wrote (w w' : World) (b o:Nat) (arr:Array Value) (ty:TypeId) (vs:List Value):Prop where
 os:w'.os=w.os
 tape:w'.tape=w.tape
 output:w'.output=w.output
 size:w'.heap.size=w.heap.size
 other:∀ k,k ≠ b→w'.heap[k]?=w.heap[k]?
 blk:∃ arr' : Array Value,w'.heap[b]?=some (.cells arr' ty (0,0))∧arr'.size=arr.size∧∀ j,arr'[j]?=if o≤j∧j<o+vs.length then vs[j - o]? else arr[j]?
theorem storeCells_run {P:Program} {b o:Nat} {ty:TypeId}:∀ (vs:List Value) (i:Nat) (w:World) (arr:Array Value),w.heap[b]?=some (.cells arr ty (0,0))→o+i+vs.length≤arr.size→(∀ v∈vs,oneC v=true) →
  ∃ w',(storeCells ⟨b,o,none⟩ vs i).run P w=.ok () w'∧Wrote w w' b (o+i) arr ty vs
 | [],i,w,arr,h,_,_=>⟨w,by simp [storeCells],rfl,rfl,rfl,rfl,fun _ _=>rfl,arr,h,rfl,fun j=>by simp; intro h1 h2; omega⟩
 | v::vs,i,w,arr,h,hle,hone=>by
  have hlt:o+i<arr.size:=by simp at hle; omega
  have hc:w.cell? ⟨b,o+i,none⟩=some arr[o+i]:=by rw [cell_of_block h]; simp [hlt]
  have hrun:=store_run (P:=P) (hone v (by simp)) hc (frozen_of_block h)
  obtain ⟨w',hr,hw⟩:=storeCells_run (P:=P) (o:=o) vs (i+1) (w.setCell ⟨b,o+i,none⟩ v) (arr.setIfInBounds (o+i) v) (setCell_block h v) (by simp at hle ⊢; omega) (fun u hu=>hone u (by simp [hu]))
  refine ⟨w',?_,?_⟩
  ·simp only [storeCells,Sem.run_bind,addr_add,hrun,Result.andThen]
   exact hr
  ·obtain ⟨arr',h1,h2,h3⟩:=hw.blk
   refine ⟨hw.os,hw.tape,hw.output,?_,fun k hk=>?_,arr',h1,by simpa using h2,fun j=>?_⟩
   ·rw [hw.size]; simp [World.setCell]
   ·rw [hw.other k hk]; simp only [World.setCell,Array.getElem?_modify]; rw [if_neg (by omega)]
   ·rw [h3 j]
    simp only [List.length_cons]
    by_cases h4:j=o+i
    ·subst h4
     rw [if_neg (by omega),if_pos (by omega)]
     simp [hlt]
    ·by_cases h5:o+(i+1)≤j∧j<o+(i+1)+vs.length
     ·rw [if_pos h5,if_pos (by omega)]
      rw [show j - (o+i)=(j - (o+(i+1)))+1 by omega]; simp
     ·rw [if_neg h5,if_neg (by omega)]
      rw [Array.getElem?_setIfInBounds]
      rw [if_neg (by omega)]
theorem writeL_len:∀ (vs l:List PV) (c:Nat),(writeL l c vs).length=l.length
 | [],l,c=>by cases l <;> simp [writeL]
 | v::vs,[],c=>by simpa [writeL,setL] using writeL_len vs [] (c+1)
 | v::vs,x::l,c=>by rw [writeL,writeL_len vs,setL_eq]; simp
theorem writeL_get:∀ (vs l:List PV) (c j:Nat),c+vs.length≤l.length→(writeL l c vs)[j]?=if c≤j∧j<c+vs.length then vs[j - c]? else l[j]?
 | [],l,c,j,_=>by
  have:writeL l c []=l:=by cases l <;> simp [writeL]
  rw [this]; simp; intro h1 h2; omega
 | v::vs,[],c,j,h=>by simp at h
 | v::vs,x::l,c,j,h=>by
  rw [writeL,writeL_get vs _ (c+1) j (by rw [setL_eq]; simp at h ⊢; omega),setL_eq]
  simp only [List.length_cons]
  by_cases h4:j=c
  ·subst h4
   rw [if_neg (by omega),if_pos (by omega)]
   simp at h
   rw [List.getElem?_set]; simp; omega
  ·by_cases h5:c+1≤j∧j<c+1+vs.length
   ·rw [if_pos h5,if_pos (by omega),show j - c=(j - (c+1))+1 by omega]; simp
   ·rw [if_neg h5,if_neg (by omega),List.getElem?_set_ne (by omega)]
theorem RepC.iff {w:World} {Y:Nat→Prop} {σ:Sg} {b:Nat}:∀ (ps:List PV) (o:Nat),RepC w Y σ b ps o ↔ ∀ i p,ps[i]?=some p→∃ v,w.cell? ⟨b,o+i,none⟩=some v∧Rep w Y σ p v
 | [],o=>by simp [RepC]
 | q::ps,o=>by
  unfold RepC
  rw [RepC.iff ps (o+1)]
  constructor
  ·rintro ⟨h1,h2⟩ i p hi
   cases i with
   | zero=>simp at hi; subst hi; simpa using h1
   | succ i=>rw [show o+(i+1)=o+1+i by omega]; exact h2 i p (by simpa using hi)
  ·intro h
   refine ⟨by simpa using h 0 q rfl,fun i p hi=>?_⟩
   rw [show o+1+i=o+(i+1) by omega]; exact h (i+1) p (by simpa using hi)
theorem RepL.get? {w:World} {Y:Nat→Prop} {σ:Sg}:∀ {ps:List PV} {vs:List Value} {i:Nat} {p:PV},RepL w Y σ ps vs→ps[i]?=some p→∃ v,vs[i]?=some v∧Rep w Y σ p v
 | [],_,_,_,_,hi=>by simp at hi
 | q::ps,vs,0,p,h,hi=>by
  unfold RepL at h; obtain ⟨v,vs',rfl,h1,_⟩:=h
  simp at hi; subst hi; exact ⟨v,rfl,h1⟩
 | q::ps,vs,i+1,p,h,hi=>by
  unfold RepL at h; obtain ⟨v,vs',rfl,_,h2⟩:=h
  simpa using RepL.get? h2 (by simpa using hi)
theorem Wrote.rep {w w' : World} {Y:Nat→Prop} {σ:Sg} {b o:Nat} {arr:Array Value} {ty:TypeId} {vs:List Value} {cs row:List PV} {c:Nat} (W:Wrote w w' b (o+c) arr ty vs)
  (hb:w.heap[b]?=some (.cells arr ty (0,0))) (hrow:RepC w Y σ b row o) (hcs:RepL w Y σ cs vs) (hle:c+cs.length≤row.length) (hk:∀ p v,Rep w Y σ p v→Rep w' Y σ p v):RepC w' Y σ b (writeL row c cs) o:=by
 obtain ⟨arr',h1,h2,h3⟩:=W.blk
 have hl:=hcs.length
 rw [RepC.iff] at hrow ⊢
 intro i p hi
 rw [writeL_get _ _ _ _ hle] at hi
 rw [cell_of_block h1,h3]
 by_cases h4:c≤i∧i<c+cs.length
 ·rw [if_pos h4] at hi
  rw [if_pos (by omega)]
  obtain ⟨v,hv,hr⟩:=hcs.get? hi
  exact ⟨v,by rw [← hv]; congr 1; omega,hk _ _ hr⟩
 ·rw [if_neg h4] at hi
  rw [if_neg (by omega)]
  obtain ⟨v,hv,hr⟩:=hrow i p hi
  rw [cell_of_block hb] at hv
  exact ⟨v,hv,hk _ _ hr⟩
theorem storeVar_run {P:Program} {w:World} {t:TypeId} {b o size:Nat} {v:Value} {vs:List Value} {arr:Array Value} {ty:TypeId} (hinfo:P.info? t ≠ none) (hsize:size=P.cellsOf t)
  (hv:v.cells=vs.toArray) (hlen:vs.length=size) (hb:w.heap[b]?=some (.cells arr ty (0,0))) (hle:o+vs.length≤arr.size) (hone:∀ u∈vs,oneC u=true) :
  ∃ w',(storeVar t ⟨b,o,none⟩ v).run P w=.ok () w'∧Wrote w w' b o arr ty vs:=by
 obtain ⟨w',hr,hw⟩:=storeCells_run (P:=P) (o:=o) vs 0 w arr hb (by simpa using hle) hone
 refine ⟨w',?_,by simpa using hw⟩
 simp only [storeVar,Sem.run_bind,run_sizeOf hinfo,Result.andThen]
 rw [if_neg (by rw [hv]; simp; omega)]
 simp only [hv]
 exact hr
section
variable {P:Program} {T:Tab} (hT:TabOK P T) {C:Ctx T} {o:Oper} {a:Act} {w:World} {Y:Nat→Prop} {σ:Sg} {ps:List PV} {st:St} {n id:Nat} {K:PV→Dl→Prop} {lk:Nat→Option Blk}
 (H:SW C w Y σ ps a.tmps.toList st n) (hlk:∀ b x,lk b=some x→lkS st b=some x) (hid:σ id=none∧T.pas≤id)
theorem storeVar_var {vs:List Value} (H:SW C w Y σ ps vs st n) {t:TypeId} {b c size:Nat} {l:Loc} {row:List PV} {p:PV} {v:Value} {K:List PV→Prop}
  (hinfo:P.info? t ≠ none) (hsize:size=P.cellsOf t) (hst:lkS st b=some (.var false row)) (hl:σ b=some l) (hv:Rep w Y σ p v) (h:storeRow size row c p K) :
  ∃ row' w',K row'∧(storeVar t ⟨l.cb,l.co+c,none⟩ v).run P w=.ok () w'∧SW C w' Y σ ps vs (inS st b (some (.var false row'))) n:=by
 unfold storeRow at h
 cases hb:(allCell (cellsV p) && Nat.beq (lenL (cellsV p)) size && Nat.ble (c+lenL (cellsV p)) (lenL row)) with
 | false=>rw [hb] at h; exact h.elim
 | true =>
  rw [hb] at h
  simp only [Bool.and_eq_true,lenL_eq] at hb
  obtain ⟨⟨h1,h2⟩,h3⟩:=hb
  have h2:=Nat.eq_of_beq_eq_true h2
  have h3:=Nat.le_of_ble_eq_true h3
  obtain ⟨vs',hvs,hr,hone⟩:=cells_rep hv h1
  have hlen:=hr.length
  have hB:BlkRep w Y σ l (.var false row):=by
   rcases H.store.blk b _ hst with ⟨l',hl',hB⟩ | ⟨hn,_⟩
   ·rw [hl] at hl'; cases hl'; exact hB
   ·rw [hl] at hn; cases hn
  unfold BlkRep at hB
  obtain ⟨⟨arr,ty,ha,has⟩,hsz,hle,hrow,hm,hr0⟩:=hB
  obtain ⟨w',hrun,W⟩:=storeVar_run (P:=P) (o:=l.co+c) hinfo hsize hvs (by omega) ha (by omega) hone
  refine ⟨_,w',h,hrun,SW.update H hst hl (hm rfl) W.os W.tape W.output W.size W.other (fun _ _ e=>by cases e) fun hk=>?_⟩
  obtain ⟨arr',h4,h5,h6⟩:=W.blk
  unfold BlkRep
  exact ⟨⟨arr',ty,h4,by omega⟩,by rw [writeL_len]; exact hsz,by rw [writeL_len]; exact hle,W.rep ha hrow hr (by omega) hk,hm,hr0⟩
end
end Go.Pv
