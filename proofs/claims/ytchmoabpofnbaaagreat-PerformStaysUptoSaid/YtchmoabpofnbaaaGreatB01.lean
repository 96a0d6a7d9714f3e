import Derived.WalkKit
import Derived.Test.YtchmoabpofnbaaaGreatB00
set_option linter.all false
namespace Go.Pv
open Go
inductive Tr (α:Type) where
 | e
 | n (v:α) (l r:Tr α)
abbrev Sb:=Tr (Option jq)
abbrev Rs:=Option (PV×Dl)
structure EV where
 tm:Tr PV
 n:Nat
 st:Sb
 nx:Nat
abbrev Oe:=Option EV
abbrev Oc:=Option (Nat×EV)
abbrev zZ:=Nat->List PV->Sb->Nat->Option (PV×Sb×Nat)
inductive Nm where
 | no
 | one (b:Nat)
 | var (b:Nat)
 | many (l:List PV)
noncomputable def mZ:Tr PV->Nat->PV:=λt k=>Tr.rec (motive:=λ_=>Nat->PV) (λ_=>PV.undef) (λv _ _ gl gr k=>Nat.rec (motive:=λ_=>PV) v (λm _=>Bool.rec (motive:=λ_=>PV) (gr (Nat.div m 2)) (gl (Nat.div m 2)) (Nat.beq (Nat.mod m 2) 0)) k) t k
noncomputable def jr:Sb->Nat->Option jq:=λt k=>Tr.rec (motive:=λ_=>Nat->Option jq) (λ_=>none) (λv _ _ gl gr k=>Nat.rec (motive:=λ_=>Option jq) v (λm _=>Bool.rec (motive:=λ_=>Option jq) (gr (Nat.div m 2)) (gl (Nat.div m 2)) (Nat.beq (Nat.mod m 2) 0)) k) t k
noncomputable def Zp:PV->Nat->Tr PV->Tr PV:=λx k t=>Nat.rec (motive:=λ_=>PV->Nat->Tr PV->Tr PV) (λ_ _ t=>t)
 (λ_ ih x k t=>Tr.rec (motive:=λ_=>Tr PV)
  (Nat.rec (motive:=λ_=>Tr PV) (Tr.n x Tr.e Tr.e) (λm _=>Bool.rec (motive:=λ_=>Tr PV) (Tr.n PV.undef Tr.e (ih x (Nat.div m 2) Tr.e)) (Tr.n PV.undef (ih x (Nat.div m 2) Tr.e) Tr.e) (Nat.beq (Nat.mod m 2) 0)) k)
  (λv l r _ _=>Nat.rec (motive:=λ_=>Tr PV) (Tr.n x l r) (λm _=>Bool.rec (motive:=λ_=>Tr PV) (Tr.n v l (ih x (Nat.div m 2) r)) (Tr.n v (ih x (Nat.div m 2) l) r) (Nat.beq (Nat.mod m 2) 0)) k) t) (Nat.succ k) x k t
noncomputable def setB:Option jq->Nat->Sb->Sb:=λx k t=>Nat.rec (motive:=λ_=>Option jq->Nat->Sb->Sb) (λ_ _ t=>t)
 (λ_ ih x k t=>Tr.rec (motive:=λ_=>Sb)
  (Nat.rec (motive:=λ_=>Sb) (Tr.n x Tr.e Tr.e) (λm _=>Bool.rec (motive:=λ_=>Sb) (Tr.n none Tr.e (ih x (Nat.div m 2) Tr.e)) (Tr.n none (ih x (Nat.div m 2) Tr.e) Tr.e) (Nat.beq (Nat.mod m 2) 0)) k)
  (λv l r _ _=>Nat.rec (motive:=λ_=>Sb) (Tr.n x l r) (λm _=>Bool.rec (motive:=λ_=>Sb) (Tr.n v l (ih x (Nat.div m 2) r)) (Tr.n v (ih x (Nat.div m 2) l) r) (Nat.beq (Nat.mod m 2) 0)) k) t) (Nat.succ k) x k t
noncomputable def Jj:PV->(IntKind->Int->Rs)->Rs:=λv=>PV.rec (motive_1:=λ_=>(IntKind->Int->Rs)->Rs) (motive_2:=λ_=>Unit) (motive_3:=λ_=>Unit)
 (λ_ _=>none)
 (λ_ _=>none)
 (λk n K=>K k n)
 (λ_ _ _=>none)
 (λ_ _=>none)
 (λ_ _ _=>none)
 (λ_ _ _=>none)
 (λ_ _ _ _ _=>none)
 (λ_ _ _ _=>none)
 (λ_ _ _=>none)
 (λ_ _ _ _=>none)
 (λ_ _ _=>none)
 (λ_ _ _ _ _=>none)
 (λ_ _ _ _ _ _ _=>none)
 (λ_ _ _ _ _ _ _ _=>none)
 (λ_=>none)
 (λ_ _ _ _=>none)
 (λ_=>none)
 (λ_ _=>none)
 (λ_=>none)
 (λ_=>none)
 () (λ_ _ _ _=>()) () (λ_ _ _ _=>()) v
noncomputable def ajo:PV->(IntKind->Int->Rs)->Rs->Rs:=λv=>PV.rec (motive_1:=λ_=>(IntKind->Int->Rs)->Rs->Rs) (motive_2:=λ_=>Unit) (motive_3:=λ_=>Unit)
 (λ_ _ D=>D)
 (λ_ _ D=>D)
 (λk n K _=>K k n)
 (λ_ _ _ D=>D)
 (λ_ _ D=>D)
 (λ_ _ _ D=>D)
 (λ_ _ _ D=>D)
 (λ_ _ _ _ _ D=>D)
 (λ_ _ _ _ D=>D)
 (λ_ _ _ D=>D)
 (λ_ _ _ _ D=>D)
 (λ_ _ _ D=>D)
 (λ_ _ _ _ _ D=>D)
 (λ_ _ _ _ _ _ _ D=>D)
 (λ_ _ _ _ _ _ _ _ D=>D)
 (λ_ D=>D)
 (λ_ _ _ _ D=>D)
 (λ_ D=>D)
 (λ_ _ D=>D)
 (λ_ D=>D)
 (λ_ D=>D)
 () (λ_ _ _ _=>()) () (λ_ _ _ _=>()) v
noncomputable def afr:PV->Rs->Rs->Rs:=λv=>PV.rec (motive_1:=λ_=>Rs->Rs->Rs) (motive_2:=λ_=>Unit) (motive_3:=λ_=>Unit)
 (λb X Y=>Bool.rec (motive:=λ_=>Rs) Y X b)
 (λ_ _ _=>none)
 (λ_ _ _ _=>none)
 (λ_ _ _ _=>none)
 (λ_ _ _=>none)
 (λ_ _ _ _=>none)
 (λ_ _ _ _=>none)
 (λ_ _ _ _ _ _=>none)
 (λ_ _ _ _ _=>none)
 (λ_ _ _ _=>none)
 (λ_ _ _ _ _=>none)
 (λ_ _ _ _=>none)
 (λ_ _ _ _ _ _=>none)
 (λ_ _ _ _ _ _ _ _=>none)
 (λ_ _ _ _ _ _ _ _ _=>none)
 (λ_ _=>none)
 (λ_ _ _ _ _=>none)
 (λ_ _=>none)
 (λ_ _ _=>none)
 (λ_ _=>none)
 (λ_ _=>none)
 () (λ_ _ _ _=>()) () (λ_ _ _ _=>()) v
noncomputable def afs:PV->Oc->Oc->Oc:=λv=>PV.rec (motive_1:=λ_=>Oc->Oc->Oc) (motive_2:=λ_=>Unit) (motive_3:=λ_=>Unit)
 (λb X Y=>Bool.rec (motive:=λ_=>Oc) Y X b)
 (λ_ _ _=>none)
 (λ_ _ _ _=>none)
 (λ_ _ _ _=>none)
 (λ_ _ _=>none)
 (λ_ _ _ _=>none)
 (λ_ _ _ _=>none)
 (λ_ _ _ _ _ _=>none)
 (λ_ _ _ _ _=>none)
 (λ_ _ _ _=>none)
 (λ_ _ _ _ _=>none)
 (λ_ _ _ _=>none)
 (λ_ _ _ _ _ _=>none)
 (λ_ _ _ _ _ _ _ _=>none)
 (λ_ _ _ _ _ _ _ _ _=>none)
 (λ_ _=>none)
 (λ_ _ _ _ _=>none)
 (λ_ _=>none)
 (λ_ _ _=>none)
 (λ_ _=>none)
 (λ_ _=>none)
 () (λ_ _ _ _=>()) () (λ_ _ _ _=>()) v
noncomputable def XH:PV->(Nat->Nat->Rs)->(Nat->Nat->Nat->Rs)->(List PV->Rs)->Rs:=λv=>PV.rec (motive_1:=λ_=>(Nat->Nat->Rs)->(Nat->Nat->Nat->Rs)->(List PV->Rs)->Rs) (motive_2:=λ_=>Unit) (motive_3:=λ_=>Unit)
 (λ_ _ _ _=>none)
 (λ_ _ _ _=>none)
 (λ_ _ _ _ _=>none)
 (λ_ _ _ _ _=>none)
 (λ_ _ _ _=>none)
 (λ_ _ _ _ _=>none)
 (λ_ _ _ _ _=>none)
 (λ_ _ _ _ _ _ _=>none)
 (λ_ _ _ _ _ _=>none)
 (λb c K1 _ _=>K1 b c)
 (λb r c _ K2 _=>K2 b r c)
 (λcs _ _ _ K3=>K3 cs)
 (λ_ _ _ _ _ _ _=>none)
 (λ_ _ _ _ _ _ _ _ _=>none)
 (λ_ _ _ _ _ _ _ _ _ _=>none)
 (λ_ _ _=>none)
 (λ_ _ _ _ _ _=>none)
 (λ_ _ _=>none)
 (λ_ _ _ _=>none)
 (λ_ _ _=>none)
 (λ_ _ _=>none)
 () (λ_ _ _ _=>()) () (λ_ _ _ _=>()) v
noncomputable def ajp:PV->Rs:=λv=>PV.rec (motive_1:=λ_=>Rs) (motive_2:=λ_=>Unit) (motive_3:=λ_=>Unit)
 (λ_=>none)
 (λ_=>none)
 (λ_ _=>none)
 (λ_ _=>none)
 (λ_=>none)
 (λ_ _=>none)
 (λ_ _=>none)
 (λ_ _ _ _=>none)
 (λ_ _ _=>none)
 (λb c=>some (PV.lv b c,[]))
 (λb r c=>some (PV.lp b r c,[]))
 (λcs _=>some (PV.pp cs,[]))
 (λ_ _ _ _=>none)
 (λ_ _ _ _ _ _=>none)
 (λ_ _ _ _ _ _ _=>none)
 (none)
 (λf caps _=>some (PV.fn f caps,[]))
 (none)
 (λ_=>none)
 (none)
 (none)
 () (λ_ _ _ _=>()) () (λ_ _ _ _=>()) v
noncomputable def QK:PV->(Nat->List (List PV)->Bool->Rs)->(Nat->Nat->Nat->Rs)->(ByteArray->Rs)->Rs:=λv=>PV.rec (motive_1:=λ_=>(Nat->List (List PV)->Bool->Rs)->(Nat->Nat->Nat->Rs)->(ByteArray->Rs)->Rs) (motive_2:=λ_=>Unit) (motive_3:=λ_=>Unit)
 (λ_ _ _ _=>none)
 (λ_ _ _ _=>none)
 (λ_ _ _ _ _=>none)
 (λ_ _ _ _ _=>none)
 (λs _ _ K3=>K3 s)
 (λ_ _ _ _ _=>none)
 (λ_ _ _ _ _=>none)
 (λsz es full _ K1 _ _=>K1 sz es full)
 (λb r n _ K2 _=>K2 b r n)
 (λ_ _ _ _ _=>none)
 (λ_ _ _ _ _ _=>none)
 (λ_ _ _ _ _=>none)
 (λ_ _ _ _ _ _ _=>none)
 (λ_ _ _ _ _ _ _ _ _=>none)
 (λ_ _ _ _ _ _ _ _ _ _=>none)
 (λ_ _ _=>none)
 (λ_ _ _ _ _ _=>none)
 (λ_ _ _=>none)
 (λ_ _ _ _=>none)
 (λ_ _ _=>none)
 (λ_ _ _=>none)
 () (λ_ _ _ _=>()) () (λ_ _ _ _=>()) v
noncomputable def ahi:PV->(List PV->Rs)->Rs:=λv=>PV.rec (motive_1:=λ_=>(List PV->Rs)->Rs) (motive_2:=λ_=>Unit) (motive_3:=λ_=>Unit)
 (λ_ _=>none)
 (λ_ _=>none)
 (λ_ _ _=>none)
 (λ_ _ _=>none)
 (λ_ _=>none)
 (λcs _ K=>K cs)
 (λ_ _ _=>none)
 (λ_ _ _ _ _=>none)
 (λ_ _ _ _=>none)
 (λ_ _ _=>none)
 (λ_ _ _ _=>none)
 (λ_ _ _=>none)
 (λ_ _ _ _ _=>none)
 (λ_ _ _ _ _ _ _=>none)
 (λ_ _ _ _ _ _ _ _=>none)
 (λ_=>none)
 (λ_ _ _ _=>none)
 (λ_=>none)
 (λ_ _=>none)
 (λ_=>none)
 (λ_=>none)
 () (λ_ _ _ _=>()) () (λ_ _ _ _=>()) v
noncomputable def ajq:PV->(List PV->Rs)->Rs:=λv=>PV.rec (motive_1:=λ_=>(List PV->Rs)->Rs) (motive_2:=λ_=>Unit) (motive_3:=λ_=>Unit)
 (λ_ _=>none)
 (λ_ _=>none)
 (λ_ _ _=>none)
 (λ_ _ _=>none)
 (λ_ _=>none)
 (λ_ _ _=>none)
 (λvs _ K=>K vs)
 (λ_ _ _ _ _=>none)
 (λ_ _ _ _=>none)
 (λ_ _ _=>none)
 (λ_ _ _ _=>none)
 (λ_ _ _=>none)
 (λ_ _ _ _ _=>none)
 (λ_ _ _ _ _ _ _=>none)
 (λ_ _ _ _ _ _ _ _=>none)
 (λ_=>none)
 (λ_ _ _ _=>none)
 (λ_=>none)
 (λ_ _=>none)
 (λ_=>none)
 (λ_=>none)
 () (λ_ _ _ _=>()) () (λ_ _ _ _=>()) v
noncomputable def ab1:PV->(List PV->Rs)->Rs:=λv=>PV.rec (motive_1:=λ_=>(List PV->Rs)->Rs) (motive_2:=λ_=>Unit) (motive_3:=λ_=>Unit)
 (λb K=>K [PV.bool b])
 (λ_ _=>none)
 (λk n K=>K [PV.int k n])
 (λ_ _ _=>none)
 (λs K=>K [PV.str s])
 (λcs _ K=>K cs)
 (λ_ _ _=>none)
 (λsz es full _ K=>K [PV.sl sz es full])
 (λb r n K=>K [PV.os b r n])
 (λb c K=>K [PV.lv b c])
 (λb r c K=>K [PV.lp b r c])
 (λcs _ K=>K [PV.pp cs])
 (λ_ _ _ _ _=>none)
 (λ_ _ _ _ _ _ _=>none)
 (λ_ _ _ _ _ _ _ _=>none)
 (λK=>K [PV.Bv])
 (λf caps _ K=>K [PV.fn f caps])
 (λK=>K [PV.LP])
 (λ_ _=>none)
 (λ_=>none)
 (λ_=>none)
 () (λ_ _ _ _=>()) () (λ_ _ _ _=>()) v
noncomputable def fnE:PV->(Nat->List PV->Option (PV×Sb×Nat))->Option (PV×Sb×Nat):=λv=>PV.rec (motive_1:=λ_=>(Nat->List PV->Option (PV×Sb×Nat))->Option (PV×Sb×Nat)) (motive_2:=λ_=>Unit) (motive_3:=λ_=>Unit)
 (λ_ _=>none)
 (λ_ _=>none)
 (λ_ _ _=>none)
 (λ_ _ _=>none)
 (λ_ _=>none)
 (λ_ _ _=>none)
 (λ_ _ _=>none)
 (λ_ _ _ _ _=>none)
 (λ_ _ _ _=>none)
 (λ_ _ _=>none)
 (λ_ _ _ _=>none)
 (λ_ _ _=>none)
 (λ_ _ _ _ _=>none)
 (λ_ _ _ _ _ _ _=>none)
 (λ_ _ _ _ _ _ _ _=>none)
 (λ_=>none)
 (λf caps _ K=>K f caps)
 (λ_=>none)
 (λ_ _=>none)
 (λ_=>none)
 (λ_=>none)
 () (λ_ _ _ _=>()) () (λ_ _ _ _=>()) v
noncomputable def adb:PV->Bool:=λv=>PV.rec (motive_1:=λ_=>Bool) (motive_2:=λ_=>Unit) (motive_3:=λ_=>Unit)
 (λ_=>true)
 (λ_=>true)
 (λ_ _=>true)
 (λ_ _=>true)
 (λ_=>true)
 (λ_ _=>false)
 (λ_ _=>false)
 (λ_ _ _ _=>true)
 (λ_ _ _=>false)
 (λ_ _=>false)
 (λ_ _ _=>false)
 (λ_ _=>true)
 (λ_ _ _ _=>false)
 (λ_ _ _ _ _ _=>false)
 (λ_ _ _ _ _ _ _=>false)
 (true)
 (λ_ caps _=>List.rec (motive:=λ_=>Bool) true (λ_ _ _=>false) caps)
 (true)
 (λ_=>false)
 (false)
 (false)
 () (λ_ _ _ _=>()) () (λ_ _ _ _=>()) v
noncomputable def RD:PV->Bool:=λv=>PV.rec (motive_1:=λ_=>Bool) (motive_2:=λ_=>Unit) (motive_3:=λ_=>Unit)
 (λ_=>true)
 (λ_=>true)
 (λ_ _=>true)
 (λ_ _=>true)
 (λ_=>true)
 (λ_ _=>false)
 (λ_ _=>false)
 (λ_ _ _ _=>true)
 (λ_ _ _=>true)
 (λ_ _=>true)
 (λ_ _ _=>true)
 (λ_ _=>true)
 (λ_ _ _ _=>true)
 (λ_ _ _ _ _ _=>true)
 (λ_ _ _ _ _ _ _=>true)
 (true)
 (λ_ _ _=>true)
 (true)
 (λ_=>true)
 (false)
 (false)
 () (λ_ _ _ _=>()) () (λ_ _ _ _=>()) v
noncomputable def gdK:PV->Bool->Option Bool:=λv=>PV.rec (motive_1:=λ_=>Bool->Option Bool) (motive_2:=λ_=>Unit) (motive_3:=λ_=>Unit)
 (λb w=>some (Bool.rec (motive:=λ_=>Bool) (Bool.rec (motive:=λ_=>Bool) true false w) w b))
 (λ_ _=>none)
 (λ_ _ _=>none)
 (λ_ _ _=>none)
 (λ_ _=>none)
 (λ_ _ _=>none)
 (λ_ _ _=>none)
 (λ_ _ _ _ _=>none)
 (λ_ _ _ _=>none)
 (λ_ _ _=>none)
 (λ_ _ _ _=>none)
 (λ_ _ _=>none)
 (λ_ _ _ _ _=>none)
 (λ_ _ _ _ _ _ _=>none)
 (λ_ _ _ _ _ _ _ _=>none)
 (λ_=>none)
 (λ_ _ _ _=>none)
 (λ_=>none)
 (λ_ _=>none)
 (λ_=>none)
 (λ_=>some false)
 () (λ_ _ _ _=>()) () (λ_ _ _ _=>()) v
noncomputable def nmL:PV->(List Nat->List Nat):=λv=>PV.rec (motive_1:=λ_=>(List Nat->List Nat)) (motive_2:=λ_=>(List Nat->List Nat)) (motive_3:=λ_=>Unit)
 (λ_=>λacc=>acc)
 (λ_=>λacc=>acc)
 (λ_ _=>λacc=>acc)
 (λ_ _=>λacc=>acc)
 (λ_=>λacc=>acc)
 (λ_ ih=>ih)
 (λ_ ih=>ih)
 (λ_ _ _ _=>λacc=>acc)
 (λb _ _=>λacc=>b::acc)
 (λb _=>λacc=>b::acc)
 (λb _ _=>λacc=>b::acc)
 (λ_ _=>λacc=>acc)
 (λ_ _ _ _=>λacc=>acc)
 (λ_ _ _ _ _ _=>λacc=>acc)
 (λ_ _ _ _ _ _ _=>λacc=>acc)
 (λacc=>acc)
 (λ_ _ ih=>ih)
 (λacc=>acc)
 (λ_=>λacc=>acc)
 (λacc=>acc)
 (λacc=>acc)
 (λacc=>acc) (λ_ _ x ih acc=>ih (x acc)) () (λ_ _ _ _=>()) v
noncomputable def QL (p:Nat->Bool):PV->Bool:=λv=>PV.rec (motive_1:=λ_=>Bool) (motive_2:=λ_=>Bool) (motive_3:=λ_=>Unit)
 (λ_=>true)
 (λ_=>true)
 (λ_ _=>true)
 (λ_ _=>true)
 (λ_=>true)
 (λ_ ih=>ih)
 (λ_ ih=>ih)
 (λ_ _ _ _=>true)
 (λb _ _=>p b)
 (λb _=>p b)
 (λb _ _=>p b)
 (λ_ _=>true)
 (λ_ _ _ _=>false)
 (λ_ _ _ _ _ _=>false)
 (λ_ _ _ _ _ _ _=>false)
 (true)
 (λ_ _ ih=>ih)
 (true)
 (λ_=>false)
 (true)
 (true)
 true (λ_ _ x ih=>Bool.rec (motive:=λ_=>Bool) false ih x) () (λ_ _ _ _=>()) v
noncomputable def okK:TI->(Bool->Nat->Option (List PV)->Option (List Nat)->TK->Rs)->Rs:=λt K=>TI.rec (motive:=λ_=>Rs) (λok agg size zero plain kind=>Bool.rec (motive:=λ_=>Rs) none (K agg size zero plain kind) ok) t
noncomputable def ahj:TK->(List FI->Rs)->Rs:=λt=>TK.rec (motive:=λ_=>(List FI->Rs)->Rs) (λ_=>none) (λ_=>none) (λ_=>none) (λ_ _=>none) (λfs K=>K fs) (λ_ _ _ _=>none) (λ_ _ _ _=>none) (λ_ _ _=>none) t
noncomputable def O6:TK->(Nat->Nat->Option (List PV)->Rs)->Rs:=λt=>TK.rec (motive:=λ_=>(Nat->Nat->Option (List PV)->Rs)->Rs) (λ_=>none) (λ_=>none) (λ_=>none) (λ_ _=>none) (λ_ _=>none) (λ_ _ _ _=>none) (λsz bytes zero K=>K sz bytes zero) (λ_ _ _=>none) t
noncomputable def ajr:TK->(IntKind->Rs)->Rs:=λt=>TK.rec (motive:=λ_=>(IntKind->Rs)->Rs) (λ_=>none) (λ_=>none) (λ_=>none) (λk K=>K k) (λ_ _=>none) (λ_ _ _ _=>none) (λ_ _ _ _=>none) (λ_ _ _=>none) t
noncomputable def ajs:TK->Rs->Rs:=λt=>TK.rec (motive:=λ_=>Rs->Rs) (λ_=>none) (λK=>K) (λ_=>none) (λ_ _=>none) (λ_ _=>none) (λ_ _ _ _=>none) (λ_ _ _ _=>none) (λ_ _ _=>none) t
noncomputable def ixT:TK->(Nat->Nat->Option (List PV)->Rs)->(Nat->Nat->Bool->Rs)->Rs->Rs:=λt=>TK.rec (motive:=λ_=>(Nat->Nat->Option (List PV)->Rs)->(Nat->Nat->Bool->Rs)->Rs->Rs) (λ_ _ _=>none) (λ_ _ K=>K) (λ_ _ _=>none) (λ_ _ _ _=>none) (λ_ _ _ _=>none) (λn sz agg _ K _=>K n sz agg) (λsz bytes zero K _ _=>K sz bytes zero) (λ_ _ _ _ _=>none) t
noncomputable def aft:Option jq->(Bool->List PV->Rs)->Rs:=λx=>Option.rec (motive:=λ_=>(Bool->List PV->Rs)->Rs) (λ_=>none) (λx=>jq.rec (motive:=λ_=>(Bool->List PV->Rs)->Rs) (λro row K=>K ro row) (λ_ _ _ _=>none) (λ_ _ _=>none) (λ_ _=>none) (λ_ _ _ _ _=>none) x) x
noncomputable def VQ:Option jq->(Bool->Nat->List (List PV)->Rs)->Rs:=λx=>Option.rec (motive:=λ_=>(Bool->Nat->List (List PV)->Rs)->Rs) (λ_=>none) (λx=>jq.rec (motive:=λ_=>(Bool->Nat->List (List PV)->Rs)->Rs) (λ_ _ _=>none) (λro sz rows K=>K ro sz rows) (λ_ _ _=>none) (λ_ _=>none) (λ_ _ _ _ _=>none) x) x
noncomputable def uj (b:Bool)(x:Rs):Rs:=Bool.rec (motive:=λ_=>Rs) none x b
noncomputable def Zq:Option (List PV)->(List PV->Rs)->Rs:=λx K=>Option.rec (motive:=λ_=>Rs) none (λz=>K z) x
noncomputable def afu:List FI->Nat->(Nat->Nat->Bool->Rs)->Rs:=λl n=>List.rec (motive:=λ_=>Nat->(Nat->Nat->Bool->Rs)->Rs) (λ_ _=>none) (λx _ ih n=>Nat.rec (motive:=λ_=>(Nat->Nat->Bool->Rs)->Rs) (λK=>FI.rec (motive:=λ_=>Rs) (λoff size agg=>K off size agg) x) (λm _=>ih m) n) l n
noncomputable def afv:List (List PV)->Nat->(List PV->Rs)->Rs:=λl n=>List.rec (motive:=λ_=>Nat->(List PV->Rs)->Rs) (λ_ _=>none) (λx _ ih n=>Nat.rec (motive:=λ_=>(List PV->Rs)->Rs) (λK=>K x) (λm _=>ih m) n) l n
noncomputable def RF:Int->(Nat->Rs)->Rs:=λn K=>Int.rec (motive:=λ_=>Rs) (λm=>K m) (λ_=>none) n
noncomputable def CO:List PV->Nat:=λl=>List.rec (motive:=λ_=>Nat) 0 (λ_ _ ih=>Nat.succ ih) l
noncomputable def I9:List (List PV)->Nat:=λl=>List.rec (motive:=λ_=>Nat) 0 (λ_ _ ih=>Nat.succ ih) l
noncomputable def RG:Nat->List PV->List PV:=λn l=>Nat.rec (motive:=λ_=>List PV->List PV) (λl=>l) (λ_ ih l=>List.rec (motive:=λ_=>List PV) [] (λ_ t _=>ih t) l) n l
noncomputable def XI:Nat->List PV->List PV:=λn l=>Nat.rec (motive:=λ_=>List PV->List PV) (λ_=>[]) (λ_ ih l=>List.rec (motive:=λ_=>List PV) [] (λx t _=>x::ih t) l) n l
noncomputable def Hy:Nat->List (List PV)->List (List PV):=λn l=>Nat.rec (motive:=λ_=>List (List PV)->List (List PV)) (λl=>l) (λ_ ih l=>List.rec (motive:=λ_=>List (List PV)) [] (λ_ t _=>ih t) l) n l
noncomputable def Hz:Nat->List (List PV)->List (List PV):=λn l=>Nat.rec (motive:=λ_=>List (List PV)->List (List PV)) (λ_=>[]) (λ_ ih l=>List.rec (motive:=λ_=>List (List PV)) [] (λx t _=>x::ih t) l) n l
noncomputable def RH:List (List PV)->List (List PV)->List (List PV):=λl m=>List.rec (motive:=λ_=>List (List PV)) m (λx _ ih=>x::ih) l
noncomputable def O7:List PV->List PV->List PV:=λl m=>List.rec (motive:=λ_=>List PV) m (λx _ ih=>x::ih) l
noncomputable def ade:List (List PV)->Nat->List PV->List (List PV):=λl n v=>List.rec (motive:=λ_=>Nat->List PV->List (List PV)) (λ_ _=>[]) (λx l ih n v=>Nat.rec (motive:=λ_=>List (List PV)) (v::l) (λm _=>x::ih m v) n) l n v
noncomputable def afw:List PV->List PV->List PV:=λcs row=>List.rec (motive:=λ_=>List PV->List PV) (λrow=>row) (λx _ ih row=>List.rec (motive:=λ_=>List PV) [] (λ_ t _=>x::ih t) row) cs row
noncomputable def ab2:Nat->List PV->List PV->List PV:=λc cs row=>Nat.rec (motive:=λ_=>List PV->List PV->List PV) (λcs row=>afw cs row) (λ_ ih cs row=>List.rec (motive:=λ_=>List PV) [] (λx t _=>x::ih cs t) row) c cs row
noncomputable def allB (f:PV->Bool):List PV->Bool:=λl=>List.rec (motive:=λ_=>Bool) true (λx _ ih=>Bool.rec (motive:=λ_=>Bool) false ih (f x)) l
noncomputable def ahk:Nat->Nat->List PV->List (List PV):=λn sz l=>Nat.rec (motive:=λ_=>Nat->List PV->List (List PV)) (λ_ _=>[]) (λ_ ih sz l=>XI sz l::ih sz (RG sz l)) n sz l
noncomputable def ab3:Nat->List PV->List PV:=λn l=>Nat.rec (motive:=λ_=>List PV->List PV) (λ_=>[]) (λ_ ih l=>O7 l (ih l)) n l
noncomputable def XJ:Nat->List PV->List (List PV):=λn l=>Nat.rec (motive:=λ_=>List PV->List (List PV)) (λ_=>[]) (λ_ ih l=>l::ih l) n l
noncomputable def kN:IntKind->Nat:=λk=>IntKind.rec (motive:=λ_=>Nat) 0 1 2 3 4 5 6 7 k
noncomputable def kEq (a b:IntKind):Bool:=Nat.beq (kN a) (kN b)
noncomputable def ab4:Nat->Nat->Int:=λm n=>Nat.rec (motive:=λ_=>Int) (Int.ofNat (Nat.sub m n)) (λk _=>Int.negSucc k) (Nat.sub n m)
noncomputable def adf:Int->Int->Int:=λa b=>Int.rec (motive:=λ_=>Int->Int) (λm b=>Int.rec (motive:=λ_=>Int) (λn=>Int.ofNat (Nat.add m n)) (λn=>ab4 m (Nat.succ n)) b) (λm b=>Int.rec (motive:=λ_=>Int) (λn=>ab4 n (Nat.succ m)) (λn=>Int.negSucc (Nat.succ (Nat.add m n))) b) a b
noncomputable def afx:Int->Int:=λa=>Int.rec (motive:=λ_=>Int) (λm=>Nat.rec (motive:=λ_=>Int) (Int.ofNat 0) (λk _=>Int.negSucc k) m) (λm=>Int.ofNat (Nat.succ m)) a
noncomputable def ltI:Int->Int->Bool:=λa b=>Int.rec (motive:=λ_=>Int->Bool) (λm b=>Int.rec (motive:=λ_=>Bool) (λn=>Nat.ble (Nat.succ m) n) (λ_=>false) b) (λm b=>Int.rec (motive:=λ_=>Bool) (λ_=>true) (λn=>Nat.ble (Nat.succ n) m) b) a b
noncomputable def eqI:Int->Int->Bool:=λa b=>Int.rec (motive:=λ_=>Int->Bool) (λm b=>Int.rec (motive:=λ_=>Bool) (λn=>Nat.beq m n) (λ_=>false) b) (λm b=>Int.rec (motive:=λ_=>Bool) (λ_=>false) (λn=>Nat.beq m n) b) a b
noncomputable def CP:Bool->Bool:=λb=>Bool.rec (motive:=λ_=>Bool) true false b
noncomputable def half:IntKind->Nat:=λk=>IntKind.rec (motive:=λ_=>Nat) 128 32768 2147483648 9223372036854775808 256 65536 4294967296 18446744073709551616 k
noncomputable def aaQ:IntKind->Nat:=λk=>IntKind.rec (motive:=λ_=>Nat) 128 32768 2147483648 9223372036854775808 0 0 0 0 k
noncomputable def Nl (k:IntKind):Int->Int:=λn=>Int.rec (motive:=λ_=>Int) (λm=>Bool.rec (motive:=λ_=>Int) (k.wrap (Int.ofNat m)) (Int.ofNat m) (Nat.ble (Nat.succ m) (half k))) (λm=>Bool.rec (motive:=λ_=>Int) (k.wrap (Int.negSucc m)) (Int.negSucc m) (Nat.ble (Nat.succ m) (aaQ k))) n
noncomputable def fzI (n:Int)(K:Int->Rs):Rs:=Int.rec (motive:=λ_=>Rs) (λm=>Nat.rec (motive:=λ_=>Rs) (K (Int.ofNat 0)) (λj _=>K (Int.ofNat (Nat.succ j))) m) (λm=>K (Int.negSucc m)) n
noncomputable def okI (k:IntKind)(n:Int):Rs:=fzI n λn=>some (PV.int k n,[])
noncomputable def okB (b:Bool):Rs:=some (PV.bool b,[])
abbrev ahl:=IntKind->Int->IntKind->Int->Rs
noncomputable def qp (f:IntKind->Int->Int->Rs):ahl:=λk a k' b=>uj (kEq k k') (f k a b)
noncomputable def Jd:BinOp->ahl:=λop=>BinOp.rec (motive:=λ_=>ahl)
 (qp λk a b=>okI k (Nl k (adf a b)))
 (qp λk a b=>okI k (Nl k (adf a (afx b))))
 (qp λk a b=>okI k (Nl k (Int.mul a b)))
 (qp λk a b=>uj (CP (eqI b (Int.ofNat 0))) (okI k (k.wrap (a.tdiv b))))
 (qp λk a b=>uj (CP (eqI b (Int.ofNat 0))) (okI k (a.tmod b)))
 (qp λk a b=>okI k (jS .and k a b))
 (qp λk a b=>okI k (jS .or k a b))
 (qp λk a b=>okI k (jS .xor k a b))
 (λk a _ b=>uj (CP (ltI b (Int.ofNat 0))) (okI k (k.wrap (a*2 ^ (min b.toNat k.bits)))))
 (λk a _ b=>uj (CP (ltI b (Int.ofNat 0))) (okI k (a.fdiv (2 ^ (min b.toNat k.bits)))))
 (qp λk a b=>okI k (jS .andNot k a b))
 (qp λ_ a b=>okB (eqI a b))
 (qp λ_ a b=>okB (CP (eqI a b)))
 (qp λ_ a b=>okB (ltI a b))
 (qp λ_ a b=>okB (CP (ltI b a)))
 (qp λ_ a b=>okB (ltI b a))
 (qp λ_ a b=>okB (CP (ltI a b))) op
noncomputable def eqB:List UInt8->List UInt8->Bool
 | [],[]=>true
 | a::l,b::m=>(match Nat.beq a.toNat b.toNat with|true=>eqB l m|false=>false)
 | _,_=>false
noncomputable def eqS (a b:ByteArray):Bool:=eqB a.data.toList b.data.toList
noncomputable def ahm:Nat->PV->PV->Option Bool
 | 0,.int k a,.int k' b=>bif kEq k k' then some (eqI a b) else none
 | 1,.bool a,.bool b=>some (match a with|true=>b|false=>!b)
 | 2,.str a,.str b=>some (eqS a b)
 | _,_,_=>none
noncomputable def aaR:List Nat->List PV->List PV->Option Bool
 | [],[],[]=>some true
 | k::ks,x::xs,y::ys =>
  match ahm k x y with
  | none=>none
  | some b=>(match aaR ks xs ys with|none=>none|some c=>some (match b with|true=>c|false=>false))
 | _,_,_=>none
noncomputable def VR (op:BinOp)(b:Bool):Rs :=
 bif zV op then some (.bool b,[]) else bif EL op then some (.bool (!b),[]) else none
noncomputable def ajt (t:TI)(op:BinOp)(x y:PV):Rs :=
 match x,y with
 | .str a,.str b=>VR op (eqS a b)
 | .agg xs,.agg ys =>
  (match t with
  | { ok:=true,agg:=true,plain:=some ks,.. }=>(match aaR ks xs ys with
   | some b=>VR op b
   | none=>none)
  | _=>none)
 | .bool a,.bool b=>(match t with
    | { ok:=true,agg:=false,plain:=some [1],.. }=>VR op (match a with|true=>b|false=>!b)
    | _=>none)
 | x,y=>(match t with
    | { ok:=true,kind:=.ptr,.. } =>
     bif og x&&og y then VR op true
     else bif (og x&&yI y) || (yI x&&og y) then VR op false
     else none
    | _=>none)
noncomputable def ahn (t:TI)(op:BinOp)(x y:PV):Rs :=
 okK t λ_ _ _ _ _=>ajo x (λk a=>Jj y λk' b=>Jd op k a k' b) (ajt t op x y)
noncomputable def aho (t:TI)(op:BinOp)(x:PV):Rs :=
 okK t λ_ _ _ _ kind=>O6 kind λ_ _ _=>QK x
  (λ_ es _=>List.rec (motive:=λ_=>Rs) none (λ_ _ _=>VR op false) es)
  (λ_ _ n=>Nat.rec (motive:=λ_=>Rs) none (λ_ _=>VR op false) n)
  (λ_=>none)
noncomputable def ahp:List PV->Nat->Rs:=λl n=>List.rec (motive:=λ_=>Nat->Rs) (λ_=>none) (λx _ ih n=>Nat.rec (motive:=λ_=>Rs) (some (x,[])) (λm _=>ih m) n) l n
noncomputable def RI (agg:Bool)(size:Nat)(row:List PV)(c:Nat):Rs :=
 Bool.rec (motive:=λ_=>Rs) (ahp row c) (uj (Nat.ble (Nat.add c size) (CO row)) (some (PV.agg (XI size (RG c row)),[]))) agg
noncomputable def ahq (size:Nat)(row:List PV)(c:Nat)(cs:List PV)(K:List PV->Rs):Rs :=
 uj (Nat.beq (CO cs) size) (uj (Nat.ble (Nat.add c size) (CO row)) (K (ab2 c cs row)))
noncomputable def afy (lk:Nat->Option jq):List PV->Option (List PV×Dl)
 | []=>some ([],[])
 | v::vs=>match afy lk vs with
  | none=>none
  | some (vs',δ)=>match v with
   | .os b r n=>(match lk b with
    | some (.arr _ sz rows)=>some (.sl sz (Hz n (Hy r rows)) false::vs',(b,some (.arr true sz rows))::δ)
    | _=>none)
   | .lv _ _|.lp _ _ _|.fn _ (_::_)|.agg _|.FH _|.top|.undef|.ow _ _ _|.bo _ _ _ _ _ _|.np _ _ _ _ _ _ _|.mp _=>none
   | v=>some (v::vs',δ)
noncomputable def afz (lk:Nat->Option jq)(cs:List PV)(K:List PV->Dl->Rs):Rs :=
 Bool.rec (motive:=λ_=>Rs) (Option.rec (motive:=λ_=>Rs) none (λp=>Prod.rec (motive:=λ_=>Rs) (λcs δ=>K cs δ) p) (afy lk cs)) (K cs []) (allB adb cs)
noncomputable def ahr (b:Nat):Dl->Bool:=λδ=>List.rec (motive:=λ_=>Bool) false (λx _ ih=>Bool.rec (motive:=λ_=>Bool) ih true (Nat.beq x.1 b)) δ
noncomputable def afA:Dl->Dl->Dl:=λl m=>List.rec (motive:=λ_=>Dl) m (λx _ ih=>x::ih) l
noncomputable def one (v:PV):Rs:=some (v,[])
noncomputable def aaS (t:TI)(id:Nat):Rs:=okK t λ_ _ zero _ _=>Zq zero λz=>some (PV.lv id 0,[(id,some (jq.var false z))])
noncomputable def agX (x:PV)(id:Nat):Rs:=ab1 x λcs=>some (PV.lv id 0,[(id,some (jq.var false cs))])
noncomputable def Qi (t:TI)(x:PV)(f:Nat):Rs :=
 okK t λ_ _ _ _ kind=>ahj kind λfs=>afu fs f λoff size _=>uj (jo size) (XH x (λb c=>some (PV.lv b (Nat.add c off),[])) (λb r c=>some (PV.lp b r (Nat.add c off),[])) (λcs=>uj (Nat.ble off (CO cs)) (some (PV.pp (RG off cs),[]))))
noncomputable def aaT (t:TI)(x:PV)(f:Nat):Rs :=
 okK t λ_ _ _ _ kind=>ahj kind λfs=>afu fs f λoff size agg=>uj (jo size) (ahi x λcs=>RI agg size cs off)
noncomputable def RJ (t:TI)(x:PV)(lk:Nat->Option jq):Rs :=
 okK t λagg size _ _ _=>XH x (λb c=>aft (lk b) λ_ row=>RI agg size row c) (λb r c=>VQ (lk b) λ_ _ rows=>afv rows r λrow=>RI agg size row c) (λcs=>RI agg size cs 0)
noncomputable def aaU (t:TI)(x y:PV)(lk:Nat->Option jq):Rs :=
 okK t λ_ size _ _ _=>XH x
  (λb c=>aft (lk b) λro row=>uj (CP ro) (ab1 y λcs=>uj (allB RD cs) (ahq size row c cs λrow'=>some (PV.undef,[(b,some (jq.var false row'))]))))
  (λb r c=>VQ (lk b) λro sz rows=>uj (CP ro) (ab1 y λcs=>afz lk cs λcs δ=>uj (CP (ahr b δ)) (afv rows r λrow=>ahq size row c cs λrow'=>some (PV.undef,afA δ [(b,some (jq.arr false sz (ade rows r row')))]))))
  (λ_=>none)
noncomputable def agY (x:PV):Rs:=afr x (some (PV.bool false,[])) (some (PV.bool true,[]))
noncomputable def agZ (x:PV):Rs:=Jj x λk n=>okI k (Nl k (afx n))
noncomputable def UU (s d:TI)(x:PV):Rs:=okK s λ_ _ _ _ _=>okK d λ_ _ _ _ kind=>ajr kind λk=>Jj x λ_ n=>okI k (Nl k n)
noncomputable def Qj (t:TI)(x i:PV)(lk:Nat->Option jq):Rs :=
 okK t λ_ _ _ _ kind=>Jj i λ_ n=>RF n λj=>ixT kind
  (λesz _ _=>uj (jo esz) (QK x (λsz es _=>uj (Nat.beq sz esz) (afv es j λrow=>some (PV.pp row,[])))
   (λb r len=>VQ (lk b) λ_ sz _=>uj (Nat.beq sz esz) (uj (Nat.ble (Nat.succ j) len) (some (PV.lp b (Nat.add r j) 0,[])))) (λ_=>none)))
  (λlen esz _=>uj (jo esz) (uj (Nat.ble (Nat.succ j) len) (XH x (λb c=>some (PV.lv b (Nat.add c (Nat.mul j esz)),[])) (λb r c=>some (PV.lp b r (Nat.add c (Nat.mul j esz)),[])) (λcs=>uj (Nat.ble (Nat.mul j esz) (CO cs)) (some (PV.pp (RG (Nat.mul j esz) cs),[]))))))
  none
noncomputable def aju:List UInt8->Nat->Rs:=λl n=>List.rec (motive:=λ_=>Nat->Rs) (λ_=>none) (λx _ ih n=>Nat.rec (motive:=λ_=>Rs) (okI .u8 (Int.ofNat x.toNat)) (λm _=>ih m) n) l n
noncomputable def aaV (t:TI)(x i:PV):Rs :=
 okK t λ_ _ _ _ kind=>Jj i λ_ n=>RF n λj=>ixT kind (λ_ _ _=>none)
  (λlen esz agg=>uj (jo esz) (uj (Nat.ble (Nat.succ j) len) (ahi x λcs=>RI agg esz cs (Nat.mul j esz))))
  (QK x (λ_ _ _=>none) (λ_ _ _=>none) (λs=>aju s.data.toList j))
noncomputable def UW (x:PV)(i:Nat):Rs:=ajq x λvs=>ahp vs i
abbrev Plc:=Nat->(Nat->Nat->Rs)->Rs
noncomputable def adg (ev:Operand->PV)(len:Nat)(place:Plc):List (Nat×Operand)->List PV->(List PV->Rs)->Rs:=λparts=>List.rec (motive:=λ_=>List PV->(List PV->Rs)->Rs) (λcells K=>K cells)
 (λp _ ih cells K=>place p.1 λoff size=>ab1 (ev p.2) λcs=>uj (Nat.beq (CO cs) size) (uj (Nat.ble (Nat.add off size) len) (ih (ab2 off cs cells) K))) parts
noncomputable def aaW (t:TI)(ev:Operand->PV)(parts:Array (Nat×Operand)):Rs :=
 okK t λ_ _ zero _ kind=>Zq zero λz=>TK.rec (motive:=λ_=>Rs) none none none (λ_=>none)
  (λfs=>adg ev (CO z) (λi K=>afu fs i λoff size _=>K off size) parts.toList z λcs=>some (PV.agg cs,[]))
  (λ_ esz _=>adg ev (CO z) (λi K=>K (Nat.mul i esz) esz) parts.toList z λcs=>some (PV.agg cs,[]))
  (λ_ _ _=>none) (λ_ _=>none) kind
noncomputable def Np (t:TI)(len:Nat)(ev:Operand->PV)(parts:Array (Nat×Operand))(lk:Nat->Option jq)(id:Nat):Rs :=
 okK t λ_ _ _ _ kind=>O6 kind λesz _ zero=>Zq zero λz=>uj (jo esz) (uj (Nat.beq (CO z) esz) (uj (Nat.ble (Nat.mul len esz) 16777216)
  (adg ev (Nat.mul len esz) (λi K=>K (Nat.mul i esz) esz) parts.toList (ab3 len z) λcs=>afz lk cs λcs δ=>some (PV.os id 0 len,afA δ [(id,some (jq.arr false esz (ahk len esz cs)))]))))
noncomputable def RN (ev:Operand->PV):List Operand->List PV:=λl=>List.rec (motive:=λ_=>List PV) [] (λx _ ih=>ev x::ih) l
noncomputable def LW (f:Fn)(first:Array Operand)(ev:Operand->PV)(captured:Array Operand):Rs :=
 match f,first.toList with
 | .func f,[]=>some (PV.fn f (RN ev captured.toList),[])
 | _,_=>none
noncomputable def Qk (t:TI)(x y:PV)(id:Nat):Rs :=
 okK t λ_ _ _ _ kind=>O6 kind λesz bytes zero=>Zq zero λz=>Jj x λ_ n=>RF n λn=>Jj y λ_ m=>RF m λm =>
  uj (jo esz) (uj (Nat.beq (CO z) esz) (uj (allB RD z) (uj (Nat.ble n m) (uj (Nat.ble (Nat.mul bytes m) 140737488355328) (uj (Nat.ble m 9223372036854775807) (some (PV.os id 0 n,[(id,some (jq.arr false esz (XJ n z)))])))))))
noncomputable def VS (d:Nat)(x:Option PV)(K:Nat->Rs):Rs:=Option.rec (motive:=λ_=>Rs) (K d) (λv=>Jj v λ_ n=>RF n K) x
noncomputable def XK (lo hi:Option PV)(m:PV)(x:Rs):Rs:=Option.rec (motive:=λ_=>Rs) (Option.rec (motive:=λ_=>Rs) none (λh=>Jj h λ_ a=>RF a λa=>Jj m λ_ b=>RF b λb=>uj (Nat.beq a 0) (uj (Nat.beq b 0) x)) hi) (λ_=>none) lo
noncomputable def aaX (t:TI)(x:PV)(lo hi mx:Option PV)(lk:Nat->Option jq):Rs :=
 Option.rec (motive:=λ_=>Rs)
  (okK t λ_ _ _ _ kind=>O6 kind λesz _ _=>uj (jo esz) (QK x
   (λsz es full=>uj (Nat.beq sz esz) (VS 0 lo λa=>VS (I9 es) hi λb=>uj (Nat.ble a b) (uj (Nat.ble b (I9 es)) (some (PV.sl sz (Hz (Nat.sub b a) (Hy a es)) (Option.rec (motive:=λ_=>Bool) full (λ_=>false) hi),[])))))
   (λb r n=>VQ (lk b) λ_ sz _=>uj (Nat.beq sz esz) (VS 0 lo λa=>VS n hi λc=>uj (Nat.ble a c) (uj (Nat.ble c n) (some (PV.os b (Nat.add r a) (Nat.sub c a),[])))))
   (λ_=>none)))
  (λm=>okK t λ_ _ _ _ kind=>O6 kind λesz _ _=>uj (jo esz) (QK x (λ_ _ _=>XK lo hi m (some (PV.sl esz [] true,[]))) (λ_ _ _=>XK lo hi m (some (PV.sl esz [] true,[]))) (λ_=>none))) mx
noncomputable def ajv (t:TI)(x:PV):Rs:=okK t λ_ _ _ _ kind=>QK x (λ_ es _=>O6 kind λ_ _ _=>okI .i64 (Int.ofNat (I9 es))) (λ_ _ n=>O6 kind λ_ _ _=>okI .i64 (Int.ofNat n)) (λs=>ajs kind (okI .i64 (Int.ofNat s.data.toList.length)))
noncomputable def ajw (x y:PV):Rs:=Jj x λk a=>Jj y λk' b=>uj (kEq k k') (okI k (Bool.rec (motive:=λ_=>Int) a b (ltI b a)))
noncomputable def ajx (x y:PV):Rs:=Jj x λk a=>Jj y λk' b=>uj (kEq k k') (okI k (Bool.rec (motive:=λ_=>Int) a b (ltI a b)))
noncomputable def ag0 (esz:Nat)(lk:Nat->Option jq)(x:PV)(K:List (List PV)->Rs):Rs:=QK x
 (λsz es _=>Bool.rec (motive:=λ_=>Rs) (List.rec (motive:=λ_=>Rs) (K []) (λ_ _ _=>none) es) (K es) (Nat.beq sz esz))
 (λb r n=>VQ (lk b) λ_ sz rows=>uj (Nat.beq sz esz) (K (Hz n (Hy r rows)))) (λ_=>none)
noncomputable def adh (n bytes:Nat)(x:Rs):Rs:=uj (Nat.ble (Nat.mul (Nat.add (Nat.mul 2 n) 192) bytes) 140737488355328) (uj (Nat.ble n 4611686018427387904) x)
noncomputable def adi (t u:TI)(s x:PV)(lk:Nat->Option jq)(id:Nat):Rs :=
 okK t λ_ _ _ _ kind=>O6 kind λesz bytes zero=>Zq zero λz=>okK u λ_ _ _ _ kind'=>O6 kind' λ_ _ _=>uj (jo esz) (uj (Nat.beq (CO z) esz) (ag0 esz lk x λnew=>QK s
  (λ_ es full=>uj full (List.rec (motive:=λ_=>Rs) (adh (I9 new) bytes (some (PV.os id 0 (I9 new),[(id,some (jq.arr false esz new))]))) (λ_ _ _=>none) es))
  (λb r n=>VQ (lk b) λro sz rows=>uj (CP ro) (uj (Nat.beq sz esz) (adh (Nat.add n (I9 new)) bytes (some (PV.os id 0 (Nat.add n (I9 new)),[(b,none),(id,some (jq.arr false sz (RH (Hz n (Hy r rows)) new)))])))))
  (λ_=>none)))
noncomputable def afB (t:TI)(x:PV)(lk:Nat->Option jq):Rs :=
 okK t λ_ _ _ _ kind=>O6 kind λesz _ zero=>Zq zero λz=>QK x (λ_ _ _=>none)
  (λb r n=>VQ (lk b) λro sz rows=>uj (CP ro) (uj (Nat.beq sz esz) (uj (Nat.beq (CO z) sz) (uj (jo sz) (uj (allB RD z) (some (PV.FH [],[(b,some (jq.arr false sz (RH (Hz r rows) (RH (XJ n z) (Hy (Nat.add r n) rows)))))])))))))
  (λ_=>none)
noncomputable def VT (ti:TypeId->TI)(b:Builtin)(args:List PV)(ts:List TypeId)(lk:Nat->Option jq)(id:Nat):Rs :=
 match b,args,ts with
 | .len,[x],[t]=>ajv (ti t) x
 | .min,[x,y],_=>ajw x y
 | .max,[x,y],_=>ajx x y
 | .append,[s,x],t::u::_=>adi (ti t) (ti u) s x lk id
 | .clear,[x],t::_=>afB (ti t) x lk
 | _,_,_=>none
noncomputable def evV:Tr PV->Operand->PV:=λtm x=>Operand.rec (motive:=λ_=>Tr PV->PV) (λt tm=>mZ tm t) (λv _=>Rl v) (λ_ _=>PV.top) (λf _=>PV.fn f []) x tm
noncomputable def vH:Tr PV->Nat->Option Nat->PV->Tr PV:=λtm n dst v=>Option.rec (motive:=λ_=>Tr PV) tm (λd=>Bool.rec (motive:=λ_=>Tr PV) tm (Zp v d tm) (Nat.ble (Nat.succ d) n)) dst
noncomputable def noN:Option jq->Option jq:=λx=>Option.rec (motive:=λ_=>Option jq) none (λx=>jq.rec (motive:=λ_=>Option jq) (λro row=>some (jq.var ro row)) (λro sz rows=>some (jq.arr ro sz rows)) (λ_ _=>none) (λrows=>some (jq.map rows)) (λsz rows r row=>some (jq.nor sz rows r row)) x) x
noncomputable def vI:Dl->Sb->Sb:=λδ st=>List.rec (motive:=λ_=>Sb->Sb) (λst=>st) (λx _ ih st=>ih (setB (noN x.2) x.1 st)) δ st
noncomputable def Bz:Dl->List Nat:=λδ=>List.rec (motive:=λ_=>List Nat) [] (λx _ ih=>x.1::ih) δ
noncomputable def XL (f:Nat->Bool):List Nat->Bool:=λl=>List.rec (motive:=λ_=>Bool) true (λx _ ih=>Bool.rec (motive:=λ_=>Bool) false ih (f x)) l
noncomputable def fin:Rs->Tr PV->Nat->Sb->Nat->Option Nat->Oe:=λr tm n st nx dst=>Option.rec (motive:=λ_=>Oe) none (λp=>Prod.rec (motive:=λ_=>Oe) (λv δ=>List.rec (motive:=λ_=>Oe) (some ⟨vH tm n dst v,n,st,nx⟩) (λ_ _ _=>Bool.rec (motive:=λ_=>Oe) none (Nat.rec (motive:=λ_=>Oe) (some ⟨vH tm n dst v,n,vI δ st,1⟩) (λm _=>some ⟨vH tm n dst v,n,vI δ st,Nat.succ (Nat.succ m)⟩) nx) (XL (λb=>Nat.ble b nx) (Bz δ))) δ) p) r
noncomputable def fin2:Option (PV×Sb×Nat)->Tr PV->Nat->Option Nat->Oe:=λr tm n dst=>Option.rec (motive:=λ_=>Oe) none (λp=>Prod.rec (motive:=λ_=>Oe) (λv q=>Prod.rec (motive:=λ_=>Oe) (λst nx=>some ⟨vH tm n dst v,n,st,nx⟩) q) p) r
abbrev ahs:=(TypeId->TI)->(Operand->PV)->(Nat->Option jq)->Nat->Rs
noncomputable def noD:ahs:=λ_ _ _ _=>none
noncomputable def opV:Op->ahs:=λo=>Op.rec (motive:=λ_=>ahs)
 (λx _ ev _ _=>some (ev x,[]))
 (λx _ ev _ _=>some (ev x,[]))
 (λc a b _ ev _ _=>afr (ev c) (some (ev a,[])) (some (ev b,[])))
 (λt ti _ _ id=>aaS (ti t) id)
 (λ_ x _ ev _ id=>agX (ev x) id)
 (λt parts ti ev _ _=>aaW (ti t) ev parts)
 (λt len parts ti ev lk id=>Np (ti t) len ev parts lk id)
 (λ_ _ _ _=>noD)
 (λt x ti ev lk _=>RJ (ti t) (ev x) lk)
 (λt x y ti ev lk _=>aaU (ti t) (ev x) (ev y) lk)
 (λ_=>noD) (λ_=>noD)
 (λx _ ev _ _=>ajp (ev x))
 (λop t x y _ ti ev _ _=>Bool.rec (motive:=λ_=>Rs) (ahn (ti t) op (ev x) (ev y)) (aho (ti t) op (ev x)) (Nh y))
 (λop _ x _ ev _ _=>UnOp.rec (motive:=λ_=>Rs) (agZ (ev x)) none (agY (ev x)) none op)
 (λs d x ti ev _ _=>UU (ti s) (ti d) (ev x))
 (λ_ _=>noD) (λ_ _=>noD)
 (λf first cap _ ev _ _=>LW f first ev cap)
 (λ_ _=>noD) (λ_ _=>noD)
 (λt x y ti ev _ id=>Qk (ti t) (ev x) (ev y) id)
 (λt x lo hi mx ti ev lk _=>aaX (ti t) (ev x) (Option.rec (motive:=λ_=>Option PV) none (λx=>some (ev x)) lo) (Option.rec (motive:=λ_=>Option PV) none (λx=>some (ev x)) hi) (Option.rec (motive:=λ_=>Option PV) none (λx=>some (ev x)) mx) lk)
 (λt x f ti ev _ _=>Qi (ti t) (ev x) f)
 (λt x f ti ev _ _=>aaT (ti t) (ev x) f)
 (λt x i ti ev lk _=>Qj (ti t) (ev x) (ev i) lk)
 (λt x i ti ev _ _=>aaV (ti t) (ev x) (ev i))
 (λ_ _ _ _=>noD) (λ_ _ _ _=>noD) (λ_ _ _=>noD) (λ_ _ _ _=>noD) (λ_ _=>noD) (λ_ _=>noD) (λ_=>noD) (λ_ _ _ _=>noD)
 (λx i _ ev _ _=>UW (ev x) i)
 (λc ti ev lk id=>Call.rec (motive:=λ_=>Rs) (λcallee args ts=>Callee.rec (motive:=λ_=>Rs) (λ_=>none) (λ_ _=>none) (λb=>VT ti b (RN ev args.toList) ts.toList lk id) callee) c)
 (λ_=>noD) (λ_=>noD) (λ_=>noD) (λ_ _=>noD) (λ_ _ _=>noD) (λ_ _=>noD) o
abbrev rP:=Option (PV×Sb×Nat)
noncomputable def O8:Op->Option (Operand×Array Operand):=λo=>Op.rec (motive:=λ_=>Option (Operand×Array Operand))
 (λ_=>none) (λ_=>none) (λ_ _ _=>none) (λ_=>none) (λ_ _=>none) (λ_ _=>none) (λ_ _ _=>none) (λ_ _ _ _=>none) (λ_ _=>none) (λ_ _ _=>none) (λ_=>none) (λ_=>none) (λ_=>none) (λ_ _ _ _ _=>none) (λ_ _ _=>none) (λ_ _ _=>none) (λ_ _=>none) (λ_ _=>none) (λ_ _ _=>none) (λ_ _=>none) (λ_ _=>none) (λ_ _ _=>none) (λ_ _ _ _ _=>none) (λ_ _ _=>none) (λ_ _ _=>none) (λ_ _ _=>none) (λ_ _ _=>none) (λ_ _ _ _=>none) (λ_ _ _ _=>none) (λ_ _ _=>none) (λ_ _ _ _=>none) (λ_ _=>none) (λ_ _=>none) (λ_=>none) (λ_ _ _ _=>none) (λ_ _=>none)
 (λc=>Call.rec (motive:=λ_=>Option (Operand×Array Operand)) (λcallee args _=>Callee.rec (motive:=λ_=>Option (Operand×Array Operand)) (λf=>some (f,args)) (λ_ _=>none) (λ_=>none) callee) c)
 (λ_=>none) (λ_=>none) (λ_=>none) (λ_ _=>none) (λ_ _ _=>none) (λ_ _=>none) o
noncomputable def Jk (ti:TypeId->TI)(call:zZ)(o:Oper)(tm:Tr PV)(n:Nat)(st:Sb)(nx:Nat):Oe :=
 Option.rec (motive:=λ_=>Oe) (fin (opV o.op ti (evV tm) (jr st) nx) tm n st nx o.dst)
  (λp=>Prod.rec (motive:=λ_=>Oe) (λf args=>fin2 (fnE (evV tm f) λk caps=>call k (O7 (RN (evV tm) args.toList) caps) st nx) tm n o.dst) p) (O8 o.op)
noncomputable def Zr:List Oper->Nat->Option Oper:=λl n=>List.rec (motive:=λ_=>Nat->Option Oper) (λ_=>none) (λx _ ih n=>Nat.rec (motive:=λ_=>Option Oper) (some x) (λm _=>ih m) n) l n
noncomputable def gdV (all:List Oper)(g:Option (Nat×Bool))(tm:Tr PV):Option Bool :=
 Option.rec (motive:=λ_=>Option Bool) (some true) (λp=>Prod.rec (motive:=λ_=>Option Bool) (λj want=>Option.rec (motive:=λ_=>Option Bool) none (λo=>Option.rec (motive:=λ_=>Option Bool) none (λd=>gdK (mZ tm d) want) o.dst) (Zr all j)) p) g
noncomputable def opsV (ti:TypeId->TI)(call:zZ)(all:List Oper)(l:List Oper)(E:EV):Oe :=
 List.rec (motive:=λ_=>EV->Oe) (λE=>some E) (λo _ ih E=>EV.rec (motive:=λ_=>Oe) (λtm n st nx=>Option.rec (motive:=λ_=>Oe) none
  (λg=>Bool.rec (motive:=λ_=>Oe) (ih ⟨vH tm n o.dst PV.undef,n,st,nx⟩) (Option.rec (motive:=λ_=>Oe) none (λE'=>ih E') (Jk ti call o tm n st nx)) g) (gdV all o.guard tm)) E) l E
noncomputable def FO:List Nat->Nat->Bool:=λl b=>List.rec (motive:=λ_=>Bool) false (λc _ ih=>Bool.rec (motive:=λ_=>Bool) ih true (Nat.beq c b)) l
noncomputable def meets:List Nat->List Nat->Bool:=λl m=>List.rec (motive:=λ_=>Bool) false (λc _ ih=>Bool.rec (motive:=λ_=>Bool) ih true (FO m c)) l
noncomputable def adk:List PV->List Nat->List Nat:=λl=>List.rec (motive:=λ_=>List Nat->List Nat) (λacc=>acc) (λx _ ih acc=>ih (nmL x acc)) l
noncomputable def rowN:Option jq->List Nat:=λx=>Option.rec (motive:=λ_=>List Nat) [] (λx=>jq.rec (motive:=λ_=>List Nat) (λ_ row=>adk row []) (λ_ _ _=>[]) (λ_ _=>[]) (λ_=>[]) (λ_ _ _ _=>[]) x) x
noncomputable def rch (lk:Nat->Option jq)(d:Nat):List Nat->List Nat->List Nat:=Nat.rec (motive:=λ_=>List Nat->List Nat->List Nat) (λ_ acc=>acc)
 (λ_ ih ns acc=>List.rec (motive:=λ_=>List Nat->List Nat) (λacc=>acc) (λb _ go acc=>go (Bool.rec (motive:=λ_=>List Nat) (ih (rowN (lk b)) (b::acc)) acc (FO acc b))) ns acc) d
noncomputable def Jl (p:Nat->Bool):List PV->Bool:=λl=>List.rec (motive:=λ_=>Bool) true (λx _ ih=>Bool.rec (motive:=λ_=>Bool) false ih (QL p x)) l
noncomputable def adl (p:Nat->Bool):Option jq->Bool:=λx=>Option.rec (motive:=λ_=>Bool) true (λx=>jq.rec (motive:=λ_=>Bool) (λ_ row=>Jl p row) (λ_ _ _=>true) (λ_ _=>false) (λ_=>false) (λ_ _ _ _=>false) x) x
noncomputable def O9 (f:Nat->Bool):List Nat->List Nat:=λl=>List.rec (motive:=λ_=>List Nat) [] (λx _ ih=>Bool.rec (motive:=λ_=>List Nat) ih (x::ih) (f x)) l
noncomputable def lk1 (R:List Nat)(st:Sb)(b:Nat):Option jq:=Bool.rec (motive:=λ_=>Option jq) none (jr st b) (FO R b)
noncomputable def ab5 (st:Sb):List Nat->Sb:=λl=>List.rec (motive:=λ_=>Sb) Tr.e (λb _ ih=>setB (jr st b) b ih) l
noncomputable def eqP:Nat->PV->PV->Bool
 | 0,_,_=>false
 | d+1,x,y =>
  match x,y with
  | .bool a,.bool b=>(match a with|true=>b|false=>!b)
  | .int k a,.int k' b=>kEq k k'&&eqI a b
  | .str a,.str b=>eqS a b
  | .Bv,.Bv=>true
  | .LP,.LP=>true
  | .undef,.undef=>true
  | .os b r n,.os b' r' n'=>Nat.beq b b'&&(Nat.beq r r'&&Nat.beq n n')
  | .lv b c,.lv b' c'=>Nat.beq b b'&&Nat.beq c c'
  | .lp b r c,.lp b' r' c'=>Nat.beq b b'&&(Nat.beq r r'&&Nat.beq c c')
  | .sl z es f,.sl z' es' f'=>Nat.beq z z'&&((match f with|true=>f'|false=>!f')&&eqRows (eqP d) es es')
  | .pp cs,.pp cs'=>eqRow (eqP d) cs cs'
  | .agg cs,.agg cs'=>eqRow (eqP d) cs cs'
  | .fn k cs,.fn k' cs'=>Nat.beq k k'&&eqRow (eqP d) cs cs'
  | _,_=>false
where
 eqRow (f:PV->PV->Bool):List PV->List PV->Bool
  | [],[]=>true
  | x::xs,y::ys=>f x y&&eqRow f xs ys
  | _,_=>false
 eqRows (f:PV->PV->Bool):List (List PV)->List (List PV)->Bool
  | [],[]=>true
  | x::xs,y::ys=>eqRow f x y&&eqRows f xs ys
  | _,_=>false
noncomputable def adm (x y:Option jq):Bool :=
 match x,y with
 | some (.var ro row),some (.var ro' row')=>(match ro with|true=>ro'|false=>!ro')&&eqP.eqRow (eqP 8) row row'
 | some (.arr ro sz rows),some (.arr ro' sz' rows')=>(match ro with|true=>ro'|false=>!ro')&&(Nat.beq sz sz'&&eqP.eqRows (eqP 8) rows rows')
 | _,_=>false
abbrev Tc:=List Nat×List Nat×List Nat
noncomputable def aaY (v:PV):List Nat:=nmL v []
noncomputable def rdO (o:Op)(ev:Operand->PV):List Nat :=
 match o with
 | .load _ x=>aaY (ev x)
 | .store _ x y=>nmL (ev x) (aaY (ev y))
 | .indexAddr _ x _=>aaY (ev x)
 | .slice _ x _ _ _=>aaY (ev x)
 | .buildSlice _ _ parts=>adk (RN ev (parts.toList.map λp=>p.2)) []
 | .call { callee:=.builtin _,args,argTypes:=_ }=>adk (RN ev args.toList) []
 | _=>[]
abbrev Of:=Option (EV×Tc)
noncomputable def afC (r:Rs)(R:List Nat)(tm:Tr PV)(n:Nat)(st:Sb)(nx:Nat)(dst:Option Nat):Of :=
 match r with
 | some (v,δ)=>(match XL (λb=>Bool.rec (motive:=λ_=>Bool) (Option.rec (motive:=λ_=>Bool) false (λ_=>true) (jr st b)) true (Nat.beq b nx)) (Bz δ) with
  | true=>some (⟨vH tm n dst v,n,vI δ st,Nat.succ nx⟩,R,Bz δ,Bz δ)
  | false=>none)
 | none=>none
noncomputable def adn (call:zZ)(k:Nat)(args:List PV)(tm:Tr PV)(n:Nat)(st:Sb)(nx:Nat)(dst:Option Nat):Of :=
 match rch (jr st) 8 (adk args []) [] with
 | ρ=>match XL (λb=>Nat.ble (Nat.succ b) nx) ρ&&(Jl (FO ρ) args&&XL (λb=>adl (FO ρ) (jr st b)) ρ) with
  | true=>(match call k args (ab5 st ρ) nx with
   | some (v,st1,nx1)=>(match Nat.ble nx nx1,Zj (O9 (λb=>Option.rec (motive:=λ_=>Bool) false (λ_=>true) (jr st b)) ρ) (O9 (λb=>Bool.rec (motive:=λ_=>Bool) false (Nat.ble (Nat.succ b) nx1) (Nat.ble nx b)) (rch (jr st1) 8 (nmL v ρ) [])) with
    | true,S=>some (⟨vH tm n dst v,n,vI (S.map λb=>(b,jr st1 b)) st,nx1⟩,ρ,S,O9 (λb=>CP (adm (jr st1 b) (jr st b))) S)
    | false,_=>none)
   | none=>none)
  | false=>none
noncomputable def XM (ti:TypeId->TI)(call:zZ)(o:Oper)(tm:Tr PV)(n:Nat)(st:Sb)(nx:Nat):Of :=
 match O8 o.op with
 | none=>(match rdO o.op (evV tm) with
  | R=>afC (opV o.op ti (evV tm) (lk1 R st) nx) R tm n st nx o.dst)
 | some (f,args)=>(match evV tm f with
  | .fn k caps=>adn call k (O7 (RN (evV tm) args.toList) caps) tm n st nx o.dst
  | _=>none)
noncomputable def Nq (tc:Tc)(r:Option (EV×List Tc)):Option (EV×List Tc) :=
 match r with
 | some (E,l)=>some (E,tc::l)
 | none=>none
noncomputable def Uu (ti:TypeId->TI)(call:zZ)(all:List Oper)(l:List Oper)(E:EV):Option (EV×List Tc) :=
 List.rec (motive:=λ_=>EV->Option (EV×List Tc)) (λE=>some (E,[])) (λo _ ih E=>EV.rec (motive:=λ_=>Option (EV×List Tc)) (λtm n st nx=>Option.rec (motive:=λ_=>Option (EV×List Tc)) none
  (λg=>Bool.rec (motive:=λ_=>Option (EV×List Tc)) (Nq ([],[],[]) (ih ⟨vH tm n o.dst PV.undef,n,st,nx⟩)) (Option.rec (motive:=λ_=>Option (EV×List Tc)) none (λp=>Prod.rec (motive:=λ_=>Option (EV×List Tc)) (λE' tc=>Nq tc (ih E')) p) (XM ti call o tm n st nx)) g) (gdV all o.guard tm)) E) l E
noncomputable def pairT (B:List (List Nat))(i k:Nat)(x y:Tc):Bool :=
 match meets x.2.1 y.1 || (meets x.2.1 y.2.1 || meets y.2.1 x.1) with
 | false=>true
 | true=>FO (zY B k) i || CP (meets x.2.2 y.1 || (meets x.2.2 y.2.2 || meets y.2.2 x.1))
noncomputable def ado (B:List (List Nat))(i:Nat)(x:Tc):List Tc->Nat->Bool
 | [],_=>true
 | y::l,k=>pairT B i k x y&&ado B i x l (k+1)
noncomputable def Zt (B:List (List Nat)):List Tc->Nat->Bool
 | [],_=>true
 | x::l,i=>ado B i x l (i+1)&&Zt B l (i+1)
noncomputable def Zu (all:Array Oper)(r:Option (EV×List Tc)):Oc :=
 match r with
 | some (E,tr)=>(match BX all all.toList 0&&Zt (QJ all.toList []) tr 0 with
  | true=>some (0,E)
  | false=>none)
 | none=>none
noncomputable def UX (f:EV->Oc)(n:Nat)(E:EV):Oc :=
 Nat.rec (motive:=λ_=>EV->Oc) (λ_=>none) (λ_ ih E=>Option.rec (motive:=λ_=>Oc) none (λp=>Prod.rec (motive:=λ_=>Oc) (λn E'=>Nat.rec (motive:=λ_=>Oc) (ih E') (λm _=>some (Nat.succ m,E')) n) p) (f E)) n E
noncomputable def adp (call:zZ)(f:Operand)(E:EV):Oc :=
 EV.rec (motive:=λ_=>Oc) (λtm n st nx=>Option.rec (motive:=λ_=>Oc) none (λp=>Prod.rec (motive:=λ_=>Oc) (λ_ q=>Prod.rec (motive:=λ_=>Oc) (λst nx=>some (0,⟨tm,n,st,nx⟩)) q) p) (fnE (evV tm f) λk caps=>call k (PV.top::caps) st nx)) E
noncomputable def aht (id:Nat)(r:Oc):Oc :=
 Option.rec (motive:=λ_=>Oc) none (λp=>Prod.rec (motive:=λ_=>Oc) (λn E=>Nat.rec (motive:=λ_=>Oc) (some (0,E)) (λm _=>Nat.rec (motive:=λ_=>Oc) (some (1,E)) (λk _=>Bool.rec (motive:=λ_=>Oc) (some (Nat.succ (Nat.succ k),E)) (some (0,E)) (Nat.beq k id)) m) n) p) r
noncomputable def ahu (r:Oc)(f:EV->Oc):Oc :=
 Option.rec (motive:=λ_=>Oc) none (λp=>Prod.rec (motive:=λ_=>Oc) (λn E=>Nat.rec (motive:=λ_=>Oc) (f E) (λm _=>some (Nat.succ m,E)) n) p) r
noncomputable def ahv (r:Oe):Oc:=Option.rec (motive:=λ_=>Oc) none (λE=>some (0,E)) r
noncomputable def ajy (c:Operand)(E:EV)(x y:Oc):Oc:=EV.rec (motive:=λ_=>Oc) (λtm _ _ _=>afs (evV tm c) x y) E
noncomputable def uT (ti:TypeId->TI)(call:zZ)(c:Code)(E:EV):Oc :=
 Code.rec (motive:=λ_=>EV->Oc)
  (λE=>some (0,E))
  (λ_ l dr E=>Bool.rec (motive:=λ_=>Oc) (ahv (opsV ti call l.toList l.toList E)) (Zu l (Uu ti call l.toList l.toList E)) dr)
  (λ_ _ f g E=>ahu (f E) g)
  (λc _ _ f g E=>ajy c E (f E) (g E))
  (λid _ f E=>aht id (f E))
  (λ_ f E=>UX f 100000 E)
  (λf _ _ _ _ _ E=>adp call f E)
  (λn E=>some (Nat.succ (Nat.succ n),E))
  (λ_ f E=>f E)
  (λ_ E=>some (0,E))
  (λ_ _=>none)
  (λE=>some (1,E))
  (λ_ _=>none) c E
noncomputable def ajz (ti:TypeId->TI)(E:EV):ResultVar->(PV->Option (PV×Sb×Nat))->Option (PV×Sb×Nat):=λr K=>ResultVar.rec (motive:=λ_=>Option (PV×Sb×Nat)) (λt=>K (mZ E.tm t))
 (λa t=>Option.rec (motive:=λ_=>Option (PV×Sb×Nat)) none (λp=>K p.1) (XH (mZ E.tm a) (λb c=>RJ (ti t) (PV.lv b c) (jr E.st)) (λ_ _ _=>none) (λ_=>none))) r
noncomputable def resV (ti:TypeId->TI)(E:EV):List ResultVar->List PV->Option (PV×Sb×Nat):=λrs=>List.rec (motive:=λ_=>List PV->Option (PV×Sb×Nat)) (λacc=>some (Ah acc,E.st,E.nx))
 (λr _ ih acc=>ajz ti E r λv=>ih (O7 acc [v])) rs
noncomputable def Jm:List PV->Nat->Tr PV->Tr PV:=λl=>List.rec (motive:=λ_=>Nat->Tr PV->Tr PV) (λ_ t=>t) (λx _ ih k t=>ih (Nat.succ k) (Zp x k t)) l
noncomputable def afD (cl:Bool)(args:List PV)(st:Sb)(nx:Nat)(X:rP):rP :=
 Bool.rec (motive:=λ_=>rP) X
  (match args with
  | [.sl _ [] _]=>some (PV.sl 0 [] true,st,nx)
  | [.os _ _ 0]=>some (PV.sl 0 [] true,st,nx)
  | _=>X) cl
noncomputable def XN (ti:TypeId->TI)(F:Nat->Option (Bool×Func)):Nat->zZ:=λfuel=>Nat.rec (motive:=λ_=>zZ) (λ_ _ _ _=>none)
 (λ_ ih k args st nx=>Option.rec (motive:=λ_=>rP) none (λp=>Prod.rec (motive:=λ_=>rP) (λcl fn=>afD cl args st nx (Option.rec (motive:=λ_=>rP) none
  (λc=>Option.rec (motive:=λ_=>rP) none (λp=>Prod.rec (motive:=λ_=>rP) (λn E=>Bool.rec (motive:=λ_=>rP) none (resV ti E fn.results.toList []) (Nat.ble n 1)) p)
   (uT ti ih c ⟨Jm args 0 Tr.e,Nat.max (CO args) fn.ntmps,st,nx⟩)) fn.body)) p) (F k)) fuel
def okV:Option (PV×Sb×Nat)->Bool
 | some (.bool true,_,_)=>true
 | _=>false
noncomputable def lkP:List Func->Nat->Option Func:=λl n=>List.rec (motive:=λ_=>Nat->Option Func) (λ_=>none) (λx _ ih n=>Nat.rec (motive:=λ_=>Option Func) (some x) (λm _=>ih m) n) l n
noncomputable def ahw (l:List Func)(cl:List Nat):Nat->Option (Bool×Func):=λk=>Option.rec (motive:=λ_=>Option (Bool×Func)) none (λf=>some (FO cl k,f)) (lkP l k)
end Go.Pv
namespace Go.Pv
open Go
def kC {T:Tab}(C:Ctx T)(E:Env)(a:Act)(w:World):Prop:=ahh C E a.tmps.toList w/\a.defers=[]
def lift {T:Tab}(C:Ctx T)(Q:Post):Exit->Act->World->Prop
 | .normal,a,w=>∃ E,kC C E a w/\Q 0 E
 | .ret,a,w=>∃ E,kC C E a w/\Q 1 E
 | .exit n,a,w=>∃ E,kC C E a w/\Q (n+2) E
 | _,_,_=>False
def aaZ (P:Program)(T:Tab)(c:Code)(Q:Post)(E:Env):Prop:=∀ (C:Ctx T) a w,kC C E a w->c.wp P (lift C Q) a w
def Ql (P:Program)(T:Tab)(k:Nat)(args:List PV)(E:Env)(K:PV->Env->Prop):Prop :=
 ∀ (C:Ctx T) (Y:Nat->Prop) (σ:Sg) (w:World) (vs cargs:List Value),SW C w Y σ E.tmps vs E.st E.next->gB w Y σ args cargs ->
  (callFunc k cargs.toArray).run P w=.ok (.enter k cargs.toArray) w /\
  Calls P k cargs.toArray w λe w'=>∃ cv v E' Y' σ',e=.returned cv/\K v E'/\SW C w' Y' σ' E'.tmps vs E'.st E'.next/\Rep w' Y' σ' v cv
def Fn (P:Program)(G:Nat->Option (List PV))(k:Nat)(args:List PV)(R:PV->Prop):Prop :=
 ∀ (w:World) (Y:Nat->Prop) (cargs:List Value),VP G w Y->(∀ b,Y b->b<w.heap.size)->gB w Y iQ args cargs ->
  (callFunc k cargs.toArray).run P w=.ok (.enter k cargs.toArray) w /\
  Calls P k cargs.toArray w λe w'=>∃ cv v,e=.returned cv/\R v/\Rep w' Y iQ v cv/\Chg w w'
def BZ (σ:Sg)(st:St)(k:Nat):Prop:=∃ b x l,iO st b=some x/\σ b=some l/\l.cb=k
def EJ (T:Tab)(w:World)(Y:Nat->Prop)(σ:Sg)(st:St):Ctx T:=⟨w,λk=>Y k/\¬ BZ σ st k,BZ σ st,λk=>Y k/\BZ σ st k,σ⟩
def FnS (P:Program)(G:Nat->Option (List PV))(k:Nat)(args:List PV)(st:St)(n:Nat)(R:PV->St->Nat->Prop):Prop :=
 ∀ (w:World) (Y:Nat->Prop) (σ:Sg) (cargs:List Value),VP G w Y->(∀ b,Y b->b<w.heap.size)->(∀ b,n<=b->σ b=none)->gB w Y σ args cargs->I8 w Y σ st->qM st=true ->
  (callFunc k cargs.toArray).run P w=.ok (.enter k cargs.toArray) w /\
  Calls P k cargs.toArray w λe w'=>∃ cv v st' n' Y' σ',e=.returned cv/\R v st' n'/\SW (EJ ⟨λ_=>.bad,G,n,[],0,[],[]⟩ w Y σ st) w' Y' σ' [v] [cv] st' n'
def Ent (T:Tab)(E F:Env):Prop:=∀ (C:Ctx T) a w,kC C E a w->kC C F a w
theorem Ent.refl {T:Tab}(E:Env):Ent T E E:=λ_ _ _ h=>h
def fzC:PV->PV
 | .ow _ sz es=>.sl sz es false
 | v=>v
def aa0:List PV->Option Int
 | [.si .u8 n]=>some n
 | [.int .u8 n]=>some n
 | _=>none
noncomputable def Aa:List (List PV)->Int->Option (List PV)
 | (.si _ k::cs)::l,n=>if k=n then some cs else Aa l n
 | _::l,n=>Aa l n
 | [],_=>none
def Pg:List (List PV)->Int->List PV->List (List PV)
 | (.si t k::cs)::l,n,xs=>if k=n then (.si t n::xs)::l else (.si t k::cs)::Pg l n xs
 | r::l,n,xs=>r::Pg l n xs
 | [],n,xs=>[.si .i64 n::xs]
def iK.jd (P:Program)(T:Tab):iK where
 bin:=jS
 cmp:=xQ
 conv k n:=k.wrap n
 neg k n:=k.wrap (0-n)
 beq a b:=a==b
 band a b:=a&&b
 afl:=iP
 slen s:=(s.size:Int)
 afm a b:=if b<a then b else a
 ag9 a b:=if b > a then b else a
 len es:=(es.length:Int)
 FK n:=(n:Int)
 LQ a b:=a+b
 XA a b:=a-b
 app a b:=a++b
 sub rows r n:=(rows.drop r).take n
 spl rows r new:=rows.take r++new++rows.drop (r+new.length)
 MZ rows i r:=rows.set i r
 rep n r:=List.replicate n r
 lenN es:=es.length
 br b t f:=(b=true->t ())/\(b=false->f ())
 call k args E lend free ρ as st0 K :=
  (∃ bs v,lend=some bs/\Fn P T.gl k bs (λu=>u=v)/\Gf 6 v=true/\K v E) \/
  (∃ bs v,free=some bs/\Fn P T.gl k bs (λu=>u=v)/\K v ⟨E.tmps,roS E.st ρ,E.next⟩) \/
  (∃ v st1 n1,VM ρ=true/\ltN E.next ρ=true/\qM st0=true/\FnS P T.gl k as st0 (kZ ρ) (λu st n=>u=v/\st=st1/\n=n1)/\K (Af (DU ρ E.next) 8 v) (QH ρ E st1 n1)) \/
  Ql P T k args E K
 XB k args K:=∃ v,Fn P T.gl k args (λu=>u=v)/\K v
 Rk k args as bs E K:=(∃ v,Fn P T.gl k as (λu=>u=v)/\K v E)\/(∃ v st1 n1,FnS P T.gl k bs [] 0 (λu st n=>u=v/\st=st1/\n=n1)/\K (Af (DU [] E.next) 8 v) (QH [] E st1 n1))\/Ql P T k args E K
 aaN k args K:=∃ v,Fn P T.gl k args (λu=>u=v)/\Gf 6 v=true/\K v
 agT k as K:=∃ v x,FnS P T.gl k as [] 0 (λu st n=>u=v/\st=[(0,some x)]/\n=1)/\K v x
 acZ k as st0 ρ K:=∃ v st1 n1,qM st0=true/\FnS P T.gl k as st0 (kZ ρ) (λu st n=>u=v/\st=st1/\n=n1)/\K v st1 n1
 loop c Q E:=aaZ P T (.loop c) Q E
 seq A B Q:=∃ Q',A Q'/\∀ n E,Q' n E->∃ F,Ent T E F/\Lh B Q n F
 idx es i K:=∃ (j:Nat) (row:List PV),i=(j:Int)/\es[j]?=some row/\K row
 ix n i K:=∃ j:Nat,i=(j:Int)/\j<n/\K j
 row rows j K:=∃ row,rows[j]?=some row/\K row
 aha s i K:=∃ (j:Nat) (c:UInt8),i=(j:Int)/\s[j]?=some c/\K (c.toNat:Int)
 div op k a b K:=b≠0/\K (match op with|.quo=>k.wrap (a.tdiv b)|_=>a.tmod b)
 shf op k a y K:=0<=y/\K (match op with|.shl=>k.wrap (a*2 ^ (min y.toNat k.bits))|_=>a.fdiv (2 ^ (min y.toNat k.bits)))
 ahb a b K:=a.size+b.size<=4611686018427387904/\K (a++b)
 mks n m bytes K:=∃ j:Nat,n=(j:Int)/\n<=m/\(bytes:Int)*m<=140737488355328/\m<=9223372036854775807/\K j
 room n bytes K:=(2*n+192)*bytes<=140737488355328/\n<=4611686018427387904/\K
 slc len a b K:=∃ i j:Nat,a=(i:Int)/\b=(j:Int)/\i<=j/\j<=len/\K i j
 ac0 s a b K:=∃ i j:Nat,a=(i:Int)/\b=(j:Int)/\i<=j/\j<=s.size/\K (s.extract i j)
 VJ es K:=∀ b:Bool,(b=true->es=[])->K b
 toS t rows K:=(∃ e,P.underlying t=some (.slice e)/\P.underlying e=some (.int .u8))/\∃ s:ByteArray,rows.map aa0=s.data.toList.map (λc=>some (c.toNat:Int))/\K s
 toB t b K:=(∃ e,P.underlying t=some (.slice e)/\P.underlying e=some (.int .u8))/\K (b.data.toList.map λc=>[.si .u8 (c.toNat:Int)])
 wk cs K:=∃ cs',cs'.length=cs.length/\(iE cs=true->iE cs'=true)/\(∀ (w:World) (Y:Nat->Prop) (σ:Sg) (vs:List Value),gB w Y σ cs vs->gB w Y σ cs' vs)/\K cs'
 order l p:=DV T l=true/\p
 last l p:=LU l=true/\p
 afn l tr p:=(BX l l.toList 0&&Zt (QJ l.toList []) tr 0)=true/\p
 nu K:=∀ h,K h
 same h h' p:=h=h'/\p
 fz rows:=rows.map λrow=>row.map fzC
 ahc rows n z K:=(∀ cs,Aa rows n=some cs->K cs true)/\(Aa rows n=none->∃ cs,(∀ (w:World) (Y:Nat->Prop) (σ:Sg) (vs:List Value),gB w Y σ z vs->gB w Y σ cs vs)/\K cs false)
 afo rows n cs:=Pg rows n cs
theorem yL {P:Program}{T:Tab}{cs:List PV}{K:List PV->Prop}(h:wkC (iK.jd P T) cs K):∃ U,U.length=cs.length/\(iE cs=true->iE U=true)/\(∀ (w:World) (Y:Nat->Prop) (σ:Sg) (vs:List Value),gB w Y σ cs vs->gB w Y σ U vs)/\K U/\∀ R : List PV->Prop,R U->wkC (iK.jd P T) cs R:=by
 unfold wkC at h |-
 cases hb:Rn cs with
 | true =>
  rw[hb] at h;simp only;obtain⟨U,h1,h2,J,I⟩:=h;exact⟨U,h1,h2,J,I,λR hk=>⟨U,h1,h2,J,hk⟩⟩
 | false =>
  rw[hb] at h;simp only;exact⟨cs,rfl,λh=>h,λ_ _ _ _ h=>h,h,λR hk=>hk⟩
theorem afE {w:World}{Y:Nat->Prop}{σ:Sg}(n:Nat)(p:PV)(v:Value)(h:Rep w Y σ p v):Rep w Y σ (owC n p) v:=by
 unfold owC
 split
 split
 split
 unfold Rep at h |-;obtain⟨a,len,cap,e,hl,U,_,_⟩:=h;have hl:len=0:=by simpa using hl
 subst hl;exact .inr ⟨rfl,a,cap,e⟩
 exact h
 exact h
 exact h
theorem aa1 {w:World}{Y:Nat->Prop}{σ:Sg}(n:Nat):∀ (ps:List PV) (vs:List Value),gB w Y σ ps vs->gB w Y σ (owZ n ps) vs
 | [],vs,h=>h
 | p::ps,vs,h=>by
  unfold gB at h;obtain⟨v,U,e,h1,h2⟩:=h;unfold owZ gB;exact⟨v,U,e,afE n p v h1,aa1 n ps U h2⟩
theorem aa2 (n:Nat):∀ ps:List PV,(owZ n ps).length=ps.length
 | []=>rfl
 | p::ps=>by simp[owZ,aa2 n ps]
theorem adq (n:Nat)(p:PV):sZ (owC n p)=sZ p:=by
 unfold owC
 split
 split
 split<;>rfl
 rfl
 rfl
theorem XO (n:Nat):∀ ps:List PV,iE (owZ n ps)=iE ps
 | []=>rfl
 | p::ps=>by simp[owZ,iE,XO n ps,adq]
theorem UY {n:Nat}{h:Hdr}{sz:Nat}{U:List (List PV)}:∀ {ps:List PV},(∀ h sz U,PV.ow h sz U ∉ ps)->∀ c:Nat,(owZ n ps)[c]?=some (.ow h sz U)->U=[]
 | [],_,c,e=>by simp[owZ] at e
 | p::ps,hno,0,e=>by
  simp only[owZ,List.getElem?_cons_zero,Option.some.injEq] at e;unfold owC at e
  split at e
  split at e
  split at e
  cases e;rfl
  cases e
  cases e
  subst e;exact absurd (List.mem_cons_self) (hno h sz U)
 | p::ps,hno,c+1,e=>by
  simp only[owZ,List.getElem?_cons_succ] at e;exact UY (λh sz U T=>hno h sz U (List.mem_cons_of_mem _ T)) c e
theorem aa3 {P:Program}{T:Tab}{kH:Nat}{cs:List PV}{K:List PV->Prop}(h:wkN (iK.jd P T) kH cs K):∃ U,U.length=cs.length/\(iE cs=true->iE U=true)/\(∀ (w:World) (Y:Nat->Prop) (σ:Sg) (vs:List Value),gB w Y σ cs vs->gB w Y σ U vs)/\K U/\(∀ n,kH=n+1->Qe cs=true->U=owZ n cs)/\∀ J : List PV->Prop,J U->wkN (iK.jd P T) kH cs J:=by
 unfold wkN at h |-
 cases kH with
 | zero =>
  obtain⟨U,h1,h2,I,R,h5⟩:=yL h;exact⟨U,h1,h2,I,R,(λn h=>by omega),h5⟩
 | succ n =>
  cases hs:Qe cs with
  | true =>
   simp only[hs] at h |-;exact⟨owZ n cs,aa2 n cs,λh=>by rw[XO];exact h,λ_ _ _ _ h=>aa1 n _ _ h,h,λm C _=>by rw[show m=n by omega],λJ hk=>hk⟩
  | false =>
   simp only[hs] at h |-;obtain⟨U,h1,h2,I,R,h5⟩:=yL h;exact⟨U,h1,h2,I,R,(λm C h=>by cases h),h5⟩
end Go.Pv
namespace Go.Pv
open Go
theorem LX (w:World)(Y:Nat->Prop)(σ:Sg)(v:Value):Rep w Y σ (Ht v) v:=by
 unfold Ht
 split
 case h_5=>unfold Rep;exact⟨none,0,0,rfl,rfl,Nat.le_refl _,λ_=>rfl,.inl rfl⟩
 all_goals simp[Rep]
theorem EO (w:World)(Y:Nat->Prop)(σ:Sg):∀ vs:List Value,gB w Y σ (CG vs) vs
 | []=>by simp[CG,gB]
 | v::vs=>by simp only[CG];unfold gB;exact⟨v,vs,rfl,LX w Y σ v,EO w Y σ vs⟩
theorem ab6 (w:World)(Y:Nat->Prop)(σ:Sg)(v:Value):Rep w Y σ (Rl v) v:=by
 unfold Rl
 split
 unfold Rep;exact⟨_,by simp,EO w Y σ _⟩
 exact LX w Y σ v
theorem jw {T:Tab}{C:Ctx T}{w:World}{Y:Nat->Prop}{σ:Sg}{ps:List PV}{a:Act}{st:St}{n:Nat}(h:SW C w Y σ ps a.tmps.toList st n)(x:Operand):Rep w Y σ (oD T ps x) (a.eval x):=by
 cases x with
 | tmp t =>
  have:=h.vals.get ps _ t
  simpa [oD,Act.eval,Array.getD_eq_getD_getElem?,List.getD_eq_getElem?_getD] using this
 | const v=>exact ab6 w Y σ v
 | global g =>
  simp only[oD]
  split
  rename_i cs U;exact Rep.keep _ ⟨λ_ _ _=>rfl,λ_ _ h=>h,Nat.le_refl _,λ_ _ h=>by cases h⟩ _ (h.wz g cs U)
  simp[Rep]
 | func f=>simp only[oD,Act.eval];unfold Rep;exact⟨[],rfl,by simp[gB]⟩
theorem rU {T:Tab}{C:Ctx T}{w:World}{Y:Nat->Prop}{σ:Sg}{ps:List PV}{a:Act}{st:St}{n:Nat}(h:SW C w Y σ ps a.tmps.toList st n):∀ l:List Operand,gB w Y σ (evA T ps l) (l.map a.eval)
 | []=>by simp[evA,gB]
 | x::l=>by simp only[evA,List.map_cons];unfold gB;exact⟨_,_,rfl,jw h x,rU h l⟩
def ql:Dl->Nat->Nat->Nat
 | [],n,_=>n
 | _::_,n,id=>max n (id+1)
def nY {T:Tab}(P:Program)(C:Ctx T)(o:Oper)(a:Act)(w:World)(σ:Sg)(ps:List PV)(st:St)(n id:Nat)(K:PV->Dl->Prop):Prop :=
 ∃ v δ cv w' Y' σ',K v δ/\((execOp a.eval o).run P w=.ok (.value cv) w'\/((execOp a.eval o).run P w=.ok .skip w'/\cv=Go.undef)) /\
  SW C w' Y' σ' ps a.tmps.toList (iW δ st) (ql δ n id)/\Rep w' Y' σ' v cv/\Off id σ σ'
theorem nY.quiet {T:Tab}{P:Program}{C:Ctx T}{o:Oper}{a:Act}{w:World}{Y:Nat->Prop}{σ:Sg}{ps:List PV}{st:St}{n id:Nat}{K:PV->Dl->Prop}
  (H:SW C w Y σ ps a.tmps.toList st n) {v:PV} {cv:Value} (hr:(execOp a.eval o).run P w=.ok (.value cv) w) (hv:Rep w Y σ v cv) (U:K v []):nY P C o a w σ ps st n id K :=
 ⟨v,[],cv,w,Y,σ,U,.inl hr,H,hv,Off.refl _ _⟩
theorem uk {w:World}{Y:Nat->Prop}{σ:Sg}{b:Bool}{v:Value}(h:Rep w Y σ (.bool b) v):v=.bool b:=by unfold Rep at h;exact h
theorem Jn {w:World}{Y:Nat->Prop}{σ:Sg}{b:Bool}{v:Value}(h:Rep w Y σ (.sb b) v):v=.bool b:=by unfold Rep at h;exact h
theorem tq {w:World}{Y:Nat->Prop}{σ:Sg}{k:IntKind}{n:Int}{v:Value}(h:Rep w Y σ (.int k n) v):v=.int k n:=by unfold Rep at h;exact h
theorem RP {w:World}{Y:Nat->Prop}{σ:Sg}{k:IntKind}{n:Int}{v:Value}(h:Rep w Y σ (.si k n) v):v=.int k n:=by unfold Rep at h;exact h
theorem EP {w:World}{Y:Nat->Prop}{σ:Sg}{s:ByteArray}{v:Value}(h:Rep w Y σ (.str s) v):v=.string s:=by unfold Rep at h;exact h
theorem nR {w:World}{Y:Nat->Prop}{σ:Sg}{p:PV}{k:IntKind}{n:Int}{v:Value}(h:Rep w Y σ p v)(e:ui p=some (k,n)):v=.int k n:=by
 unfold ui at e
 split at e<;>simp at e<;>obtain⟨rfl,rfl⟩:=e
 exact tq h
 exact RP h
theorem KG {w:World}{Y:Nat->Prop}{σ:Sg}{p:PV}{b:Bool}{v:Value}(h:Rep w Y σ p v)(e:Jf p=some b):v=.bool b:=by
 unfold Jf at e
 split at e<;>simp at e<;>subst e
 exact uk h
 exact Jn h
theorem Dv {k U : IntKind}(h:qm k U=true):k=U:=by cases k<;>cases U<;>simp_all[qm]
section
variable {P:Program}{T:Tab}(hT:jg P T){C:Ctx T}{o:Oper}{a:Act}{w:World}{Y:Nat->Prop}{σ:Sg}{ps:List PV}{st:St}{n id:Nat}{K:PV->Dl->Prop}{lk:Nat->Option jq}
 (H:SW C w Y σ ps a.tmps.toList st n) (hlk:∀ b x,lk b=some x->iO st b=some x) (hid:σ id=none/\T.qJ<=id)
include H
theorem afF {x:Operand}(ho:o.op=.move x)(h:jU T (iK.jd P T) (.move x) ps lk id K):nY P C o a w σ ps st n id K:=by
 refine nY.quiet H (cv:=a.eval x) ?_ (jw H x) h;simp[execOp,ho]
theorem ab7 {x:Operand}(ho:o.op=.assign x)(h:jU T (iK.jd P T) (.assign x) ps lk id K):nY P C o a w σ ps st n id K:=by
 refine nY.quiet H (cv:=a.eval x) ?_ (jw H x) h;simp[execOp,ho]
theorem afG {c x y:Operand}(ho:o.op=.pick c x y)(h:jU T (iK.jd P T) (.pick c x y) ps lk id K):nY P C o a w σ ps st n id K:=by
 have U:=jw H c;simp only[jU] at h
 split at h
 rename_i e;rw[e] at U;have U:=uk U;refine nY.quiet H (cv:=a.eval x) ?_ (jw H x) h;simp[execOp,ho,U,asBool]
 rename_i e;rw[e] at U;have U:=uk U;refine nY.quiet H (cv:=a.eval y) ?_ (jw H y) h;simp[execOp,ho,U,asBool]
 exact h.elim
theorem XP {x:Operand}(ho:o.op=.nilCheck x)(h:jU T (iK.jd P T) (.nilCheck x) ps lk id K):nY P C o a w σ ps st n id K:=by
 have R:=jw H x;simp only[jU] at h
 split at h
 rename_i e;rw[e] at R;have U:=R;unfold Rep at U;obtain⟨l,_,J⟩:=U;refine nY.quiet H (cv:=a.eval x) ?_ R h;rw[J];simp[execOp,ho,J]
 rename_i e;rw[e] at R;have U:=R;unfold Rep at U;obtain⟨l,_,J⟩:=U;refine nY.quiet H (cv:=a.eval x) ?_ R h;rw[J];simp[execOp,ho,J]
 rename_i e;rw[e] at R;have U:=R;unfold Rep at U;obtain⟨b,o',J,_⟩:=U;refine nY.quiet H (cv:=a.eval x) ?_ R h;rw[J];simp[execOp,ho,J]
 rename_i e;rw[e] at R;have J:=R;unfold Rep at J;refine nY.quiet H (cv:=a.eval x) ?_ R h;rw[J];simp[execOp,ho,J]
 rename_i e;rw[e] at R;have U:=R;unfold Rep at U;obtain⟨vs,J,_⟩:=U;refine nY.quiet H (cv:=a.eval x) ?_ R h;rw[J];simp[execOp,ho,J]
 exact h.elim
theorem adr {t:TypeId}{x:Operand}(ho:o.op=.unOp .not t x)(h:jU T (iK.jd P T) (.unOp .not t x) ps lk id K):nY P C o a w σ ps st n id K:=by
 have U:=jw H x;simp only[jU] at h
 split at h
 rename_i e;rw[e] at U;have U:=uk U;refine nY.quiet H (cv:=.bool false) ?_ bH h;simp[execOp,ho,U,Op.unary]
 rename_i e;rw[e] at U;have U:=uk U;refine nY.quiet H (cv:=.bool true) ?_ bH h;simp[execOp,ho,U,Op.unary]
 rename_i b e;rw[e] at U;have U:=Jn U;refine nY.quiet H (cv:=.bool (!b)) ?_ dB h;simp[execOp,ho,U,Op.unary]
 exact h.elim
theorem ads {t:TypeId}{x:Operand}(ho:o.op=.unOp .neg t x)(h:jU T (iK.jd P T) (.unOp .neg t x) ps lk id K):nY P C o a w σ ps st n id K:=by
 have U:=jw H x;simp only[jU] at h
 split at h
 rename_i k m e;rw[e] at U;have U:=tq U;refine nY.quiet H (cv:=.int k (k.wrap (0-m))) ?_ bH h;simp[execOp,ho,U,Op.unary,Op.intArith]
 rename_i k m e;rw[e] at U;have U:=RP U;refine nY.quiet H (cv:=.int k (k.wrap (0-m))) ?_ dB h;simp[execOp,ho,U,Op.unary,Op.intArith]
 exact h.elim
theorem Zv {t:Operand}{i:Nat}(ho:o.op=.extract t i)(h:jU T (iK.jd P T) (.extract t i) ps lk id K):nY P C o a w σ ps st n id K:=by
 have U:=jw H t;simp only[jU] at h
 split at h
 rename_i vs e;rw[e] at U;unfold Rep at U;obtain⟨us,J,hr⟩:=U
 cases hb:Nat.blt i (lG vs) with
 | false=>rw[hb] at h;exact h.elim
 | true =>
  rw[hb] at h;have hi:i<us.length:=by rw[gB.length _ _ hr];simpa [Nat.blt_eq] using hb
  have R:=hr.get _ _ i;rw[List.getD_eq_getElem?_getD,List.getElem?_eq_getElem hi] at R;refine nY.quiet H (cv:=us[i]) ?_ R h;simp[execOp,ho,J,Instr.extract,hi]
 exact h.elim
end
end Go.Pv
namespace Go.Pv
open Go
theorem um {P:Program}{T:Tab}(hT:jg P T){t:TypeId}{x:TI}(h:T t=x)(ok:x.ok=true) :
  ∃ i d,P.info? t=some i/\P.underlying t=some d/\x=ac1 P t/\x.agg=jW P t/\x.size=i.size/\x.zero=EM P t /\
   x.plain=(if P.eqGuardType P.depth t then none else vG P 20 t) /\
   x.kind=(match d with
    | .struct U=>TK.struct (U.toList.map λf=>{ off:=f.offset,size:=P.cellsOf f.type,agg:=jW P f.type })
    | .array n e=>.arr n (P.cellsOf e) (jW P e)
    | .slice e=>.slice (P.cellsOf e) (P.bytesOf e) (EM P e)
    | .int k=>.int k
    | .string=>.str
    | .pointer _=>.ptr
    | .map k e=>Nc P k e
    | _=>.oth):=by
 have e:=(hT t (by rw[h];exact ok)).1;rw[h] at e;subst h;unfold ac1 at e
 split at e
 rename_i i d h1 h2;rw[e];refine⟨i,d,h1,h2,?_,rfl,rfl,rfl,rfl,rfl⟩;unfold ac1;rw[h1,h2]
 rw[e] at ok;simp[TI.bad] at ok
theorem LY {P:Program}{T:Tab}(hT:jg P T){t:TypeId}{agg:Bool}{plain:Option (List Nat)}{size:Nat}{z:Option (List PV)}{J:List FI}
  (h:T t=⟨true,agg,size,z,plain,.struct J⟩):∃ R,P.underlying t=some (.struct R)/\J=(R.toList.map λf=>{ off:=f.offset,size:=P.cellsOf f.type,agg:=jW P f.type })/\z=EM P t:=by
 obtain⟨i,d,h1,h2,h3,C,h5,I,g,U⟩:=um hT h rfl;cases d<;>simp at U
 case map k e=>unfold Nc at U;split at U<;>cases U
 rename_i R;exact⟨R,h2,U,I⟩
theorem ku {P:Program}{T:Tab}(hT:jg P T){t:TypeId}{agg:Bool}{plain:Option (List Nat)}{size sz bytes:Nat}{z R : Option (List PV)}
  (h:T t=⟨true,agg,size,z,plain,.slice sz bytes R⟩):∃ e,P.underlying t=some (.slice e)/\sz=P.cellsOf e/\bytes=P.bytesOf e/\R=EM P e:=by
 obtain⟨i,d,h1,h2,g,J,h5,I,C,U⟩:=um hT h rfl;cases d<;>simp at U
 case map k e=>unfold Nc at U;split at U<;>cases U
 rename_i e;exact⟨e,h2,U.1,U.2.1,U.2.2⟩
theorem Nr {P:Program}{T:Tab}(hT:jg P T){t:TypeId}{agg R:Bool}{plain:Option (List Nat)}{size n sz:Nat}{z:Option (List PV)}
  (h:T t=⟨true,agg,size,z,plain,.arr n sz R⟩):∃ e,P.underlying t=some (.array n e)/\sz=P.cellsOf e/\R=jW P e/\z=EM P t:=by
 obtain⟨i,d,h1,h2,g,I,h5,J,C,U⟩:=um hT h rfl;cases d<;>simp at U
 case map k e=>unfold Nc at U;split at U<;>cases U
 rename_i m e;obtain⟨rfl,U⟩:=U;exact⟨e,h2,U.1,U.2,J⟩
theorem afH {P:Program}{T:Tab}(hT:jg P T){t:TypeId}{agg:Bool}{plain:Option (List Nat)}{size:Nat}{z:Option (List PV)}{k:IntKind}
  (h:T t=⟨true,agg,size,z,plain,.int k⟩):P.underlying t=some (.int k):=by
 obtain⟨i,d,h1,h2,C,R,h5,J,I,U⟩:=um hT h rfl;cases d<;>simp at U
 case map k e=>unfold Nc at U;split at U<;>cases U
 subst U;exact h2
theorem Ns {P:Program}{T:Tab}(hT:jg P T){t:TypeId}{agg:Bool}{plain:Option (List Nat)}{size:Nat}{z:Option (List PV)}
  (h:T t=⟨true,agg,size,z,plain,.str⟩):P.underlying t=some .string:=by
 obtain⟨i,d,h1,h2,C,R,h5,J,I,U⟩:=um hT h rfl;cases d<;>simp at U
 case map k e=>unfold Nc at U;split at U<;>cases U
 exact h2
theorem afI {P:Program}{T:Tab}(hT:jg P T){t:TypeId}{agg:Bool}{plain:Option (List Nat)}{size:Nat}{z:Option (List PV)}
  (h:T t=⟨true,agg,size,z,plain,.ptr⟩):∃ e,P.underlying t=some (.pointer e):=by
 obtain⟨i,d,h1,h2,C,R,h5,J,I,U⟩:=um hT h rfl;cases d<;>simp at U
 case map k e=>unfold Nc at U;split at U<;>cases U
 exact⟨_,h2⟩
theorem RQ {P:Program}{T:Tab}(hT:jg P T){t:TypeId}{agg:Bool}{plain:Option (List Nat)}{size:Nat}{z:Option (List PV)}{k:TK}
  (h:T t=⟨true,agg,size,z,plain,k⟩):P.info? t≠none/\size=P.cellsOf t/\agg=jW P t/\∃ d,P.underlying t=some d:=by
 obtain⟨i,d,h1,h2,C,U,h5,J,I,R⟩:=um hT h rfl;refine⟨by rw[h1];simp,?_,U,d,h2⟩;simp[Program.cellsOf,h1];exact h5
theorem HY:∀ (l:List FI) (n:Nat),CJ l n=l[n]?
 | [],n=>by simp[CJ]
 | f::l,0=>by simp[CJ]
 | f::l,n+1=>by simp[CJ,HY l n]
theorem run_sizeOf {P:Program}{w:World}{t:TypeId}(h:P.info? t≠none):(sizeOf t).run P w=.ok (P.cellsOf t) w:=by
 cases hi:P.info? t with
 | none=>exact absurd hi h
 | some i=>simp[sizeOf,typeInfo,program,Sem.run,Result.andThen,hi,Program.cellsOf]
theorem Gh {P:Program}{w:World}{t:TypeId}{d:TypeDesc}(h:P.underlying t=some d):(isAgg t).run P w=.ok (jW P t) w:=by
 have hu:(underlying t).run P w=.ok d w:=by simp[underlying,program,Sem.run,Result.andThen,h]
 simp only[isAgg,jW,h,Sem.run_bind,hu,Result.andThen];cases d<;>simp
theorem jA {P:Program}{w:World}{t:TypeId}{d:TypeDesc}(h:P.underlying t=some d):(underlying t).run P w=.ok d w:=by
 simp[underlying,program,Sem.run,Result.andThen,h]
theorem jD {P:Program}{t:TypeId}(h:jo (P.cellsOf t)=true):P.info? t≠none:=by
 intro h0;have:P.cellsOf t=0:=by simp[Program.cellsOf,h0]
 rw[this] at h;simp[jo] at h
theorem XQ {P:Program}{w:World}{x:Addr}{v:Value}(h:w.cell? x=some v):(load x).run P w=.ok v w:=by
 simp[load,Sem.run,h]
theorem addr_add (b o n:Nat):(⟨b,o,none⟩:Addr).add n=⟨b,o+n,none⟩:=by
 unfold Addr.add
 split<;>simp[*]
theorem Ba {P:Program}{w:World}{b o:Nat}:∀ (vs:List Value) (i:Nat) (acc:Array Value),(∀ j v,vs[j]?=some v->w.cell? ⟨b,o+(i+j),none⟩=some v) ->
  (loadCellsFrom ⟨b,o,none⟩ i vs.length acc).run P w=.ok (acc++vs.toArray) w
 | [],i,acc,_=>by simp[loadCellsFrom]
 | v::vs,i,acc,h=>by
  have h0:=h 0 v rfl;simp only[List.length_cons,loadCellsFrom,Sem.run_bind,addr_add];rw[XQ (by simpa using h0)];simp only[Result.andThen]
  rw[Ba vs (i+1) (acc.push v) (λj u hu=>by
   have:=h (j+1) u (by simpa using hu);rw[show i+1+j=i+(j+1) by omega];exact this)]
  simp
section
variable {P:Program}{T:Tab}(hT:jg P T){C:Ctx T}{o:Oper}{a:Act}{w:World}{Y:Nat->Prop}{σ:Sg}{ps:List PV}{st:St}{n id:Nat}{K:PV->Dl->Prop}{lk:Nat->Option jq}
 (H:SW C w Y σ ps a.tmps.toList st n) (hlk:∀ b x,lk b=some x->iO st b=some x) (hid:σ id=none/\T.qJ<=id)
include hT H in
theorem VU {t:TypeId}{x:Operand}{f:Nat}(ho:o.op=.fieldAddr t x f)(h:jU T (iK.jd P T) (.fieldAddr t x f) ps lk id K):nY P C o a w σ ps st n id K:=by
 have U:=jw H x;simp only[jU] at h
 split at h
 rename_i fs e;obtain⟨fl,hu,rfl,_⟩:=LY hT e
 split at h
 rename_i fd O;rw[HY,List.getElem?_map] at O
 cases hg:fl.toList[f]? with
 | none=>simp[hg] at O
 | some g =>
  simp[hg] at O;subst O;have hg' : fl[f]?=some g:=by simpa using hg
  cases hp:jo (P.cellsOf g.type) with
  | false=>simp only[hp] at h;exact h.elim
  | true =>
   simp only[hp] at h;have R:P.cellsOf g.type≠0:=by intro h0;rw[h0] at hp;simp[jo] at hp
   have J:P.info? g.type≠none:=by intro h0;apply R;simp[Program.cellsOf,h0]
   have run:∀ b off,a.eval x=.pointer (some ⟨b,off,none⟩)->(execOp a.eval o).run P w=.ok (.value (.pointer (some ⟨b,off+g.offset,none⟩))) w:=by
    intro b off hx;simp[execOp,ho,Instr.fieldAt,jA hu,hg',hx,Instr.sureAddr,fieldPlace,run_sizeOf J,R,addr_add]
   split at h
   rename_i b c e;rw[e] at U;unfold Rep at U;obtain⟨l,hs,I⟩:=U;refine nY.quiet H (run _ _ I) ?_ h;unfold Rep;exact⟨l,hs,by rw[Nat.add_assoc]⟩
   rename_i b r c e;rw[e] at U;unfold Rep at U;obtain⟨l,hs,I⟩:=U;refine nY.quiet H (run _ _ I) ?_ h;unfold Rep;exact⟨l,hs,by rw[Nat.add_assoc]⟩
   rename_i b r c hh sz j k e;rw[e] at U;unfold Rep at U;refine nY.quiet H (run _ _ U) ?_ h;unfold Rep;rw[Nat.add_assoc]
   rename_i cs e;rw[e] at U
   cases hb:Nat.ble g.offset (lG cs) with
   | false=>simp only[hb] at h;exact h.elim
   | true =>
    simp only[hb] at h;unfold Rep at U;obtain⟨b,o',I,hy,hr⟩:=U;refine nY.quiet H (run _ _ I) ?_ h;unfold Rep;rw[su];exact⟨b,_,rfl,hy,hr.drop _ _ _⟩
   exact h.elim
 exact h.elim
 exact h.elim
theorem Qm {P:Program}{w:World}{Y:Nat->Prop}{σ:Sg}{t:TypeId}{b o' c:Nat}{row:List PV}{agg:Bool}{size:Nat}{K:PV->Prop}
  (T:P.info? t≠none) (hsize:size=P.cellsOf t) (U:agg=jW P t) (R:∃ d,P.underlying t=some d)
  (hr:jc w Y σ b row o') (h:loadRow agg size row c K) :
  ∃ v cv,K v/\(loadVar t ⟨b,o'+c,none⟩).run P w=.ok cv w/\Rep w Y σ v cv:=by
 obtain⟨d,hu⟩:=R;unfold loadRow at h
 cases agg with
 | true =>
  simp only[cond_true] at h
  cases hb:Nat.ble (c+size) (lG row) with
  | false=>simp only[hb,cond_false] at h
  | true =>
   simp only[hb,cond_true,Gg,su] at h;have hle:c+size<=row.length:=by simpa using Nat.le_of_ble_eq_true hb
   have J:=(hr.drop c _ _).take size _ _;obtain⟨vs,hv,hcell⟩:=J.vals;refine⟨_,.agg vs.toArray,h,?_,by unfold Rep;exact⟨vs,rfl,hv⟩⟩
   have hlen:vs.length=P.cellsOf t:=by
    rw[gB.length _ _ hv];simp;omega
   simp only[loadVar,Sem.run_bind,Gh hu,<- U,Result.andThen,if_true,run_sizeOf T,loadCells];rw[<- hlen,Ba vs 0 #[] (λj v hj=>by simpa using hcell j v hj)];simp
 | false =>
  simp only[cond_false] at h
  cases hb:Nat.blt c (lG row) with
  | false=>simp only[hb,cond_false] at h
  | true =>
   simp only[hb,cond_true] at h;have I:c<row.length:=by simpa [Nat.blt_eq] using hb
   obtain⟨v,hv,hrep⟩:=hr.get _ _ c I;refine⟨_,v,h,?_,hrep⟩;simp only[loadVar,Sem.run_bind,Gh hu,<- U,Result.andThen];simp only[Bool.false_eq_true,if_false];exact XQ hv
theorem gJ.wW {T:Tab}{C:Ctx T}{w:World}{Y:Nat->Prop}{σ:Sg}{ps:List PV}{vs:List Value}{st:St}{n:Nat}(H:SW C w Y σ ps vs st n){lk:Nat->Option jq}
  (R:∀ b x,lk b=some x->iO st b=some x) {b:Nat} {x:jq} {l:Loc} (h:lk b=some x) (hs:σ b=some l):gJ w Y σ l x:=by
 rcases H.store.blk b x (R _ _ h) with ⟨l',U,hb⟩|⟨U,_⟩
 rw[hs] at U;cases U;exact hb
 rw[hs] at U;cases U
theorem Nu {w:World}{Y:Nat->Prop}{σ:Sg}{p:PV}{v:Value}(h:Rep w Y iQ p v):Rep w Y σ p v :=
 Rep.keep p ⟨λ_ _ _=>rfl,λ_ _ h=>h,Nat.le_refl _,λ_ _ h=>by cases h⟩ v h
theorem getD_some {o:Option PV}{h:Hdr}{sz:Nat}{U:List (List PV)}(e:o.getD .undef=.ow h sz U):o=some (.ow h sz U):=by
 cases o with
 | none=>cases e
 | some x=>simp at e;rw[e]
theorem adt {P:Program}{T:Tab}{w:World}{Y:Nat->Prop}{σ:Sg}(b r c:Nat){p:PV}{v:Value}(h:Rep w Y σ p v):Rep w Y σ (ahd (iK.jd P T) b r c p) v:=by
 unfold ahd
 split
 rename_i hh sz R;unfold Rep at h |-;simp only[iK.jd];rcases h with ⟨h1,h2,U⟩|⟨h1,h2⟩
 exact .inl ⟨by simpa using h1,h2,U⟩
 exact .inr ⟨by rw[h1];rfl,h2⟩
 exact h
theorem XR {P:Program}{T:Tab}{w:World}{Y:Nat->Prop}{σ:Sg}{U:Nat}(b r:Nat):∀ (ps:List PV) (c o:Nat),jc w Y σ U ps o->jc w Y σ U (ac3 (iK.jd P T) b r c ps) o
 | [],c,o,h=>by simpa [ac3] using h
 | p::ps,c,o,h=>by
  unfold jc at h;obtain⟨⟨v,h1,h2⟩,R⟩:=h;simp only[ac3];unfold jc;exact⟨⟨v,h1,adt b r c h2⟩,XR b r ps (c+1) (o+1) R⟩
include hT H hlk in
theorem afJ {t:TypeId}{x:Operand}(ho:o.op=.load t x)(h:jU T (iK.jd P T) (.load t x) ps lk id K):nY P C o a w σ ps st n id K:=by
 have R:=jw H x;simp only[jU] at h
 split at h
 rename_i agg size z plain kind e;obtain⟨J,hsize,hagg,hund⟩:=RQ hT e
 have fin:∀ (σ' : Sg) (b o' c:Nat) (row:List PV),a.eval x=.pointer (some ⟨b,o'+c,none⟩)->jc w Y σ' b row o'->(∀ p v,Rep w Y σ' p v->Rep w Y σ p v) ->
   loadRow agg size row c (λv=>K v [])->nY P C o a w σ ps st n id K:=by
  intro σ' b o' c row hx hr hσ hl;obtain⟨v,cv,hK,hrun,hrep⟩:=Qm J hsize hagg hund hr hl;refine nY.quiet H (cv:=cv) ?_ (hσ _ _ hrep) hK;simp[execOp,ho,hx,Instr.loadAt,Instr.sureAddr,hrun]
 split at h
 rename_i b c e;rw[e] at R;unfold Rep at R;obtain⟨l,hs,I⟩:=R
 split at h
 rename_i ro row hb;have hB:=gJ.wW H hlk hb hs;unfold gJ at hB;exact fin σ _ _ _ _ I hB.2.2.2.1 (λ_ _ h=>h) h
 exact h.elim
 rename_i b r c e;rw[e] at R;unfold Rep at R;obtain⟨l,hs,I⟩:=R
 split at h
 rename_i ro sz rows hb;have hB:=gJ.wW H hlk hb hs;unfold gJ at hB;obtain⟨row,U,h⟩:=h;have:=jh.row _ _ _ _ hB.2.2.2.2.1 U;rw[<- hB.2.1] at this;exact fin iQ _ _ _ _ I this.2 (λ_ _ h=>Nu h) h
 rename_i sz rows hb;have hB:=gJ.wW H hlk hb hs;unfold gJ at hB;obtain⟨row,U,h⟩:=h;have:=jh.row _ _ _ _ hB.2.2.2.2.1 U;rw[<- hB.2.1] at this;exact fin iQ _ _ _ _ I (XR b r row 0 _ this.2) (λ_ _ h=>Nu h) h
 rename_i sz rows r0 row hb;have hB:=gJ.wW H hlk hb hs;unfold gJ at hB;obtain⟨hr0,h⟩:=h;cases hr0;obtain⟨_,h2,_,_,_,_,h8,_⟩:=hB;rw[<- h2] at h8;exact fin σ _ _ _ _ I h8 (λ_ _ h=>h) h
 exact h.elim
 rename_i b r c hh sz j k e;rw[e] at R;unfold Rep at R
 split at h
 rename_i sz0 rows hb;obtain⟨row,U,h⟩:=h
 split at h
 rename_i h' sz' es ec
 cases hs:Nat.beq sz' sz with
 | false=>rw[hs] at h;exact h.elim
 | true =>
  rw[hs] at h;simp only[cond_true] at h;have hs:=Nat.eq_of_beq_eq_true hs;subst hs;obtain⟨he,er,g,h⟩:=h;subst he;have hN:=H.nest.rep b r c hh sz' es ⟨sz0,rows,row,hlk _ _ hb,U,by rw[A8,List.getD_eq_getElem?_getD] at ec;exact getD_some ec,by rintro rfl;simp at g⟩;exact fin iQ _ _ _ _ R (jh.row _ _ _ _ hN.rows g).2 (λ_ _ h=>Nu h) h
 exact h.elim
 exact h.elim
 rename_i cs e;rw[e] at R;unfold Rep at R;obtain⟨b,o',I,hy,hr⟩:=R;exact fin iQ b o' 0 cs (by simpa using I) hr (λ_ _ h=>Nu h) h
 exact h.elim
 exact h.elim
end
end Go.Pv
namespace Go.Pv
open Go
theorem Nv {b c:Nat}(h:¬ b=c):Nat.beq b c=false:=by
 cases e:Nat.beq b c with
 | false=>rfl
 | true=>exact absurd (Nat.eq_of_beq_eq_true e) h
theorem iG (st:St)(b:Nat)(x:Option jq)(c:Nat):iO (nI st b x) c=if b=c then x else iO st c:=by
 induction st with
 | nil =>
  by_cases h:b=c
  simp[nI,iO,h]
  have:Nat.beq b c=false:=Nv h;simp[nI,iO,this,h]
 | cons p st ih =>
  obtain⟨U,y⟩:=p
  by_cases h:U=b
  subst h
  by_cases h2:U=c
  subst h2;simp[nI,iO]
  have:Nat.beq U c=false:=Nv h2;simp[nI,iO,this,h2]
  have h0:Nat.beq U b=false:=Nv h;simp only[nI,h0,cond_false,iO]
  by_cases h2:U=c
  subst h2;simp;intro e;exact absurd e.symm h
  have:Nat.beq U c=false:=Nv h2;simp only[this,cond_false,ih]
theorem gJ.keep {w w' : World}{Y Y' : Nat->Prop}{σ σ' : Sg}{l:Loc}{x:jq}(K:Keep w w' Y Y' σ σ')(hb:w'.heap[l.cb]?=w.heap[l.cb]?)(I:Y' l.cb↔Y l.cb)
  (h:gJ w Y σ l x):gJ w' Y' σ' l x:=by
 cases x with
 | var ro row =>
  unfold gJ at h |-;obtain⟨⟨arr,ty,h1,h2⟩,U,J,h5,R,T⟩:=h;exact⟨⟨arr,ty,by rw[hb];exact h1,h2⟩,U,J,jc.keep row K (λ_=>hb) _ h5,λe=>I.2 (R e),λe hy=>T e (I.1 hy)⟩
 | arr ro sz rows =>
  unfold gJ at h |-;obtain⟨⟨arr,ty,h1,h2⟩,U,J,h5,R,T,C⟩:=h;exact⟨⟨arr,ty,by rw[hb];exact h1,h2⟩,U,J,h5,jh.keep rows K.none (λ_=>hb) _ R,λe=>I.2 (T e),λe hy=>C e (I.1 hy)⟩
 | map rows =>
  unfold gJ at h |-;obtain⟨⟨g,ck,h1,h2⟩,U⟩:=h;exact⟨⟨g,ck,by rw[hb];exact h1,mV.keep K.none _ _ h2⟩,I.2 U⟩
 | kH sz rows =>
  unfold gJ at h |-;obtain⟨⟨arr,ty,h1,h2⟩,U,J,h5,R,T⟩:=h;exact⟨⟨arr,ty,by rw[hb];exact h1,h2⟩,U,J,h5,jh.keep rows K.none (λ_=>hb) _ R,I.2 T⟩
 | nor sz rows r row =>
  unfold gJ at h |-;obtain⟨⟨arr,ty,h1,h2⟩,U,J,h5,R,T,C,h9⟩:=h;exact⟨⟨arr,ty,by rw[hb];exact h1,h2⟩,U,J,h5,R,λi x hx hi=>⟨(T i x hx hi).1,jc.keep x K.none (λ_=>hb) _ (T i x hx hi).2⟩,jc.keep row K (λ_=>hb) _ C,I.2 h9⟩
theorem gJ.lt {w:World}{Y:Nat->Prop}{σ:Sg}{l:Loc}{x:jq}(h:gJ w Y σ l x):l.cb<w.heap.size:=by
 have:∃ o,w.heap[l.cb]?=some o:=by
  cases x<;>(unfold gJ at h;first|(obtain⟨⟨⟨arr,ty,h1,_⟩⟩,_⟩:=h;exact⟨_,h1⟩)|(obtain⟨⟨U,T,h1,_⟩,_⟩:=h;exact⟨_,h1⟩))
 obtain⟨o,h1⟩:=this
 by_cases hb:l.cb<w.heap.size
 exact hb
 simp[Array.getElem?_eq_none (Nat.le_of_not_lt hb)] at h1
theorem SW.drop {T:Tab}{C:Ctx T}{w:World}{Y:Nat->Prop}{σ:Sg}{ps:List PV}{vs:List Value}{st:St}{n:Nat}(H:SW C w Y σ ps vs st n)(b:Nat):SW C w Y σ ps vs (nI st b none) n:=by
 have sub:∀ c x,iO (nI st b none) c=some x->iO st c=some x:=by
  intro c x h;rw[iG] at h
  by_cases hb:b=c
  rw[if_pos hb] at h;cases h
  rw[if_neg hb] at h;exact h
 refine⟨H.vals,⟨λc x h=>H.store.blk c x (sub c x h),λc R x x' l l' h U=>H.store.inj c R x x' l l' (sub _ _ h) (sub _ _ U)⟩,H.next,H.vg,H.y0,H.c0,H.vk,H.mf,λc x l h=>H.own c x l (sub _ _ h),H.wz,H.fix,H.nest.sub sub⟩
theorem SW.ext {T:Tab}{C:Ctx T}{w:World}{Y:Nat->Prop}{σ:Sg}{ps:List PV}{vs:List Value}{st st' : St}{n:Nat}(H:SW C w Y σ ps vs st n)(h:∀ b x,iO st' b=some x->iO st b=some x):SW C w Y σ ps vs st' n :=
 ⟨H.vals,⟨λc x e=>H.store.blk c x (h c x e),λc U x x' l l' e R=>H.store.inj c U x x' l l' (h _ _ e) (h _ _ R)⟩,H.next,H.vg,H.y0,H.c0,H.vk,H.mf,λc x l e=>H.own c x l (h _ _ e),H.wz,H.fix,H.nest.sub h⟩
theorem SW.update {T:Tab}{C:Ctx T}{w w' : World}{Y:Nat->Prop}{σ:Sg}{ps:List PV}{vs:List Value}{st:St}{n:Nat}(H:SW C w Y σ ps vs st n)
  {b:Nat} {x x' : jq} {l:Loc} (hx:iO st b=some x) (hl:σ b=some l) (hm:Y l.cb)
  (hos:w'.os=w.os) (I:w'.tape=w.tape) (hout:w'.output=w.output) (hsize:w'.heap.size=w.heap.size)
  (U:∀ k,k≠l.cb->w'.heap[k]?=w.heap[k]?) (hnar:∀ sz rows,x'≠.kH sz rows) (hnew:(∀ p v,Rep w Y σ p v->Rep w' Y σ p v)->gJ w' Y σ l x'):SW C w' Y σ ps vs (nI st b (some x')) n:=by
 have K:Keep w w' Y Y σ σ:=⟨λk _ hk=>U k (λe=>hk (e ▸ hm)),λ_ _ h=>h,Nat.le_of_eq hsize.symm,mg.refl _⟩;have own:=H.own b x l hx hl;refine⟨gB.keep _ K _ H.vals,⟨?_,?_⟩,H.next,λk hk=>by rw[hsize];exact H.vg k hk,H.y0,H.c0,H.vk,?_,?_,H.wz.keep K.none,H.fix,?_⟩
 intro c y h;rw[iG] at h
 by_cases R:b=c
 rw[if_pos R] at h;cases h;subst R;exact .inl ⟨l,hl,hnew λp v hp=>Rep.keep p K v hp⟩
 rw[if_neg R] at h;rcases H.store.blk c y h with ⟨l',J,hb⟩|hn
 refine .inl ⟨l',J,gJ.keep K (U _ λe=>R ?_) Iff.rfl hb⟩;exact (H.store.inj c b y x l' l h hx J hl e).symm
 exact .inr hn
 intro c c' y y' l1 l2 h h' h1 h2 e
 have old:∀ d z,iO (nI st b (some x')) d=some z->∃ z',iO st d=some z':=by
  intro d z hd;rw[iG] at hd
  by_cases R:b=d
  subst R;exact⟨x,hx⟩
  rw[if_neg R] at hd;exact⟨z,hd⟩
 obtain⟨z,hz⟩:=old _ _ h;obtain⟨z',hz'⟩:=old _ _ h';exact H.store.inj c c' z z' l1 l2 hz hz' h1 h2 e
 refine⟨by rw[hos];exact H.mf.os,by rw[I];exact H.mf.tape,by rw[hout];exact H.mf.output,by rw[hsize];exact H.mf.size,λk hk hM=>?_⟩
 have hne:k≠l.cb:=λe=>by
  subst e;have h1:=H.away hx hl;rcases H.vk _ hm hk with h2|h2
  exact h1 h2
  exact hM h2
 rw[U k hne];exact H.mf.block k hk hM
 intro c y l' h h1;rw[iG] at h
 by_cases R:b=c
 subst R;rw[hl] at h1;cases h1;exact own
 rw[if_neg R] at h;exact H.own c y l' h h1
 have back:∀ {c r k h sz g},lM (nI st b (some x')) c r k h sz g->lM st c r k h sz g:=by
  rintro c r k h sz g ⟨sz0,rows,row,h1,h2⟩
  rw[iG] at h1
  by_cases R:b=c
  rw[if_pos R] at h1;exact absurd (Option.some.inj h1) (hnar _ _)
  rw[if_neg R] at h1;exact⟨sz0,rows,row,h1,h2⟩
 refine H.nest.keep K.none (λ_ _ _ _ _ _ k=>back k) (λc r k h sz g hk=>U _ (H.nest.sep _ _ _ _ _ _ _ _ _ (back hk) hx hl).symm) (λc r k h sz g hk=>(H.nest.rep _ _ _ _ _ _ (back hk)).own) λc r k h sz g b' y l' hk hy J=>?_;rw[iG] at hy
 by_cases R:b=b'
 subst R;rw[hl] at J;cases J;exact H.nest.sep _ _ _ _ _ _ _ _ _ (back hk) hx hl
 rw[if_neg R] at hy;exact H.nest.sep _ _ _ _ _ _ _ _ _ (back hk) hy J
theorem SW.adu {T:Tab}{C:Ctx T}{w:World}{Y:Nat->Prop}{σ:Sg}{ps:List PV}{vs:List Value}{st:St}{n id:Nat}(H:SW C w Y σ ps vs st n)(hid:σ id=none/\T.qJ<=id)
  (I:Obj) (l:Loc) (hcb:l.cb=w.heap.size) (x:jq) (hnar:∀ sz rows,x=.kH sz rows->∀ (r:Nat) (row:List PV) (c:Nat) (h:Hdr) (sz' : Nat) (g:List (List PV)),rows[r]?=some row->row[c]?=some (PV.ow h sz' g)->g=[])
  (hx:∀ w' Y' σ',(∀ p v,Rep w Y σ p v->Rep w' Y' σ' p v)->Y' l.cb->w'.heap[l.cb]?=some I->(∀ p v,Rep w Y iQ p v->Rep w' Y' iQ p v)->gJ w' Y' σ' l x) :
  ∃ Y' σ',SW C (w.alloc I) Y' σ' ps vs (nI st id (some x)) (max n (id+1))/\σ' id=some l/\mg σ σ'/\(∀ p v,Rep w Y σ p v->Rep (w.alloc I) Y' σ' p v)/\Off id σ σ':=by
 have hfree:=hid.1;have heap:(w.alloc I).heap=w.heap.push I:=rfl;have hnew:(w.alloc I).heap[l.cb]?=some I:=by rw[heap,hcb];simp
 have hold:∀ k,k<w.heap.size->(w.alloc I).heap[k]?=w.heap[k]?:=by
  intro k hk;rw[heap,Array.getElem?_push,if_neg ah]
 let Y' : Nat->Prop:=λk=>Y k\/k=w.heap.size
 let σ' : Sg:=λb=>if b=id then some l else σ b
 have hsg:mg σ σ':=by
  intro b m h;show (if b=id then some l else σ b)=some m
  by_cases hb:b=id
  subst hb;rw[hfree] at h;cases h
  rw[if_neg hb];exact h
 have hsz:(w.alloc I).heap.size=w.heap.size+1:=by rw[heap];simp
 have K:Keep w (w.alloc I) Y Y' σ σ' :=
  ⟨λk hk _=>hold k hk,λk hk h=>h.resolve_right ah,by omega,hsg⟩
 refine⟨Y',σ',⟨gB.keep _ K _ H.vals,⟨?_,?_⟩,?_,?_,λk hk=>.inl (H.y0 k hk),H.c0,?_,?_,?_,H.wz.keep K.none,⟨by have:=H.fix.1;omega,λb hb=>by show (if b=id then some l else σ b)=_;rw[if_neg ah];exact H.fix.2 b hb⟩,?_⟩,by simp[σ'],hsg,λp v hp=>Rep.keep p K v hp,λb hb=>by show (if b=id then some l else σ b)=_;rw[if_neg hb]⟩
 intro c y h;rw[iG] at h
 by_cases R:id=c
 rw[if_pos R] at h;cases h;subst R;exact .inl ⟨l,by simp[σ'],hx _ Y' σ' (λp v hp=>Rep.keep p K v hp) (.inr hcb) hnew (λp v hp=>Rep.keep p K.none v hp)⟩
 rw[if_neg R] at h;have J : c≠id:=λe=>R e.symm;rcases H.store.blk c y h with ⟨l',U,hb⟩|⟨hn,hx'⟩
 have hlt:=hb.lt;exact .inl ⟨l',hsg _ _ U,gJ.keep K (hold _ hlt) ⟨λh=>h.resolve_right ah,.inl⟩ hb⟩
 exact .inr ⟨by simp[σ',J,hn],hx'⟩
 intro c c' y y' l1 l2 h h' h1 h2 e;rw[iG] at h h'
 by_cases R:id=c<;>by_cases J : id=c'
 omega
 exfalso
 rw[if_neg J] at h';subst R;simp[σ'] at h1;subst h1;have h2' : σ c'=some l2:=by simpa [σ',show c'≠id from λe=>J e.symm] using h2
 rcases H.store.blk c' y' h' with ⟨l',U,hb⟩|⟨hn,_⟩
 rw[h2'] at U;cases U;have:=hb.lt;omega
 rw[h2'] at hn;cases hn
 exfalso
 rw[if_neg R] at h;subst J;simp[σ'] at h2;subst h2;have h1' : σ c=some l1:=by simpa [σ',show c≠id from λe=>R e.symm] using h1
 rcases H.store.blk c y h with ⟨l',U,hb⟩|⟨hn,_⟩
 rw[h1'] at U;cases U;have:=hb.lt;omega
 rw[h1'] at hn;cases hn
 rw[if_neg R] at h;rw[if_neg J] at h';have h1' : σ c=some l1:=by simpa [σ',show c≠id from λe=>R e.symm] using h1
 have h2' : σ c'=some l2:=by simpa [σ',show c'≠id from λe=>J e.symm] using h2
 exact H.store.inj c c' y y' l1 l2 h h' h1' h2' e
 intro b hb;show (if b=id then some l else σ b)=none;rw[if_neg ah];exact H.next b ah
 intro k hk;rcases hk with hk|hk
 have:=H.vg k hk;omega
 omega
 intro k hk hlt;rcases hk with hk|hk
 exact H.vk k hk hlt
 have:=H.mf.size;omega
 refine⟨H.mf.os,H.mf.tape,H.mf.output,by have:=H.mf.size;omega,λk hk hM=>?_⟩;rw[hold k (by have:=H.mf.size;omega)];exact H.mf.block k hk hM
 intro c y l' h h1;rw[iG] at h
 by_cases R:id=c
 subst R;simp[σ'] at h1;subst h1;rw[hcb];exact .inl H.mf.size
 rw[if_neg R] at h;exact H.own c y l' h (by simpa [σ',show c≠id from λe=>R e.symm] using h1)
 have back:∀ {c r k h sz g},lM (nI st id (some x)) c r k h sz g->lM st c r k h sz g:=by
  rintro c r k h sz g ⟨sz0,rows,row,h1,h2,h3⟩
  rw[iG] at h1
  by_cases R:id=c
  rw[if_pos R] at h1;exact absurd (hnar _ _ (Option.some.inj h1) _ _ _ _ _ _ h2 h3.1) h3.2
  rw[if_neg R] at h1;exact⟨sz0,rows,row,h1,h2,h3⟩
 refine H.nest.keep K.none (λ_ _ _ _ _ _ k=>back k) (λc r k h sz g hk=>hold _ (H.nest.rep _ _ _ _ _ _ (back hk)).lt) (λc r k h sz g hk=>.inl (H.nest.rep _ _ _ _ _ _ (back hk)).own) λc r k h sz g b' y l' hk hy U=>?_;have hlt:=(H.nest.rep _ _ _ _ _ _ (back hk)).lt;rw[iG] at hy
 by_cases R:id=b'
 subst R;simp[σ'] at U;subst U;omega
 rw[if_neg R] at hy;exact H.nest.sep _ _ _ _ _ _ _ _ _ (back hk) hy (by simpa [σ',show b'≠id from λe=>R e.symm] using U)
theorem SW.alloc {T:Tab}{C:Ctx T}{w:World}{Y:Nat->Prop}{σ:Sg}{ps:List PV}{vs:List Value}{st:St}{n id:Nat}(H:SW C w Y σ ps vs st n)(hid:σ id=none/\T.qJ<=id)
  (arr:Array Value) (ty:TypeId) (l:Loc) (J:l.cb=w.heap.size) (x:jq) (U:∀ sz rows,x=.kH sz rows->∀ (r:Nat) (row:List PV) (c:Nat) (h:Hdr) (R : Nat) (I:List (List PV)),rows[r]?=some row->row[c]?=some (PV.ow h R I)->I=[])
  (hx:∀ w' Y' σ',(∀ p v,Rep w Y σ p v->Rep w' Y' σ' p v)->Y' l.cb->w'.heap[l.cb]?=some (.cells arr ty (0,0))->(∀ p v,Rep w Y iQ p v->Rep w' Y' iQ p v)->gJ w' Y' σ' l x) :
  ∃ Y' σ',SW C (w.alloc (.cells arr ty)) Y' σ' ps vs (nI st id (some x)) (max n (id+1))/\σ' id=some l/\mg σ σ'/\(∀ p v,Rep w Y σ p v->Rep (w.alloc (.cells arr ty)) Y' σ' p v)/\Off id σ σ' :=
 H.adu hid (.cells arr ty) l J x U hx
theorem SW.freeze {T:Tab}{C:Ctx T}{w:World}{Y:Nat->Prop}{σ:Sg}{ps:List PV}{vs:List Value}{st:St}{n:Nat}(H:SW C w Y σ ps vs st n){b:Nat}{x x' : jq}
  (hx:iO st b=some x) (J : (∃ ro row,x=.var ro row/\x'=.var true row)\/(∃ ro sz rows,x=.arr ro sz rows/\x'=.arr true sz rows)) :
  ∃ Y',SW C w Y' σ ps vs (nI st b (some x')) n/\(∀ l,σ b=some l->¬ Y' l.cb)/\(∀ k,Y' k->Y k):=by
 let Y' : Nat->Prop:=λk=>Y k/\∀ l,σ b=some l->k≠l.cb;have K:Keep w w Y Y' σ σ:=⟨λ_ _ _=>rfl,λ_ _ h=>h.1,Nat.le_refl _,mg.refl _⟩;refine⟨Y',⟨gB.keep _ K _ H.vals,⟨?_,?_⟩,H.next,λk hk=>H.vg k hk.1,?_,H.c0,λk hk=>H.vk k hk.1,H.mf,?_,H.wz.keep K.none,H.fix,?_⟩,λl hl h=>h.2 l hl rfl,λ_ h=>h.1⟩
 intro c y h;rw[iG] at h
 by_cases U:b=c
 rw[if_pos U] at h;cases h;subst U;rcases H.store.blk b x hx with ⟨l,hl,hb⟩|⟨hn,ro,sz,he⟩
 refine .inl ⟨l,hl,?_⟩;rcases J with ⟨ro,row,rfl,rfl⟩|⟨ro,sz,rows,rfl,rfl⟩
 unfold gJ at hb |-;exact⟨hb.1,hb.2.1,hb.2.2.1,jc.keep row K (λ_=>rfl) _ hb.2.2.2.1,λe=>dh,λ_ h=>h.2 l hl rfl⟩
 unfold gJ at hb |-;exact⟨hb.1,hb.2.1,hb.2.2.1,hb.2.2.2.1,jh.keep rows K.none (λ_=>rfl) _ hb.2.2.2.2.1,λe=>dh,λ_ h=>h.2 l hl rfl⟩
 rcases J with ⟨ro',row,rfl,rfl⟩|⟨ro',sz',rows,rfl,rfl⟩
 cases he
 cases he;exact .inr ⟨hn,true,sz,rfl⟩
 rw[if_neg U] at h;rcases H.store.blk c y h with ⟨l',R,hb⟩|hn
 refine .inl ⟨l',R,gJ.keep K rfl ⟨λh=>h.1,λh=>⟨h,λl hl e=>U ?_⟩⟩ hb⟩;exact (H.store.inj c b y x l' l ‹_› hx R hl e).symm
 exact .inr hn
 intro c c' y y' l1 l2 h h' h1 h2 e
 have old:∀ d z,iO (nI st b (some x')) d=some z->∃ z',iO st d=some z':=by
  intro d z hd;rw[iG] at hd
  by_cases U:b=d
  subst U;exact⟨x,hx⟩
  rw[if_neg U] at hd;exact⟨z,hd⟩
 obtain⟨z,hz⟩:=old _ _ h;obtain⟨z',g⟩:=old _ _ h';exact H.store.inj c c' z z' l1 l2 hz g h1 h2 e
 intro k hk;refine⟨H.y0 k hk,λl hl e=>?_⟩;exact H.away hx hl (e ▸ hk)
 intro c y l' h h1;rw[iG] at h
 by_cases U:b=c
 subst U;exact H.own b x l' hx h1
 rw[if_neg U] at h;exact H.own c y l' h h1
 have back:∀ {c r k h sz I},lM (nI st b (some x')) c r k h sz I->lM st c r k h sz I:=by
  rintro c r k h sz I ⟨sz0,rows,row,h1,h2⟩
  rw[iG] at h1
  by_cases U:b=c
  rw[if_pos U] at h1;rcases J with ⟨_,_,_,e⟩|⟨_,_,_,_,e⟩<;>(rw[e] at h1;cases h1)
  rw[if_neg U] at h1;exact⟨sz0,rows,row,h1,h2⟩
 refine H.nest.keep K.none (λ_ _ _ _ _ _ k=>back k) (λ_ _ _ _ _ _ _=>rfl) (λc r k h sz I hk=>⟨(H.nest.rep _ _ _ _ _ _ (back hk)).own,λl hl e=>H.nest.sep _ _ _ _ _ _ _ _ _ (back hk) hx hl e.symm⟩) λc r k h sz I b' y l' hk hy R=>?_;rw[iG] at hy
 by_cases U:b=b'
 subst U;exact H.nest.sep _ _ _ _ _ _ _ _ _ (back hk) hx R
 rw[if_neg U] at hy;exact H.nest.sep _ _ _ _ _ _ _ _ _ (back hk) hy R
theorem SW.afK {T:Tab}{C:Ctx T}{w:World}{Y:Nat->Prop}{σ:Sg}{ps:List PV}{vs:List Value}{st:St}{n:Nat}(H:SW C w Y σ ps vs st n){b sz:Nat}{rows:List (List PV)}(hx:iO st b=some (.kH sz rows)) :
  ∃ Y',SW C w Y' σ ps vs (nI st b none) n/\(∀ l,σ b=some l->¬ Y' l.cb)/\(∀ r c h U J,lM st b r c h U J->¬ Y' h.ν)/\∀ k,Y' k->Y k:=by
 let Y' : Nat->Prop:=λk=>Y k/\(∀ l,σ b=some l->k≠l.cb)/\∀ r c h U J,lM st b r c h U J->k≠h.ν;have K:Keep w w Y Y' σ σ:=⟨λ_ _ _=>rfl,λ_ _ h=>h.1,Nat.le_refl _,mg.refl _⟩
 have R : ∀ c y,iO (nI st b none) c=some y->b≠c/\iO st c=some y:=by
  intro c y h;rw[iG] at h
  by_cases g:b=c
  rw[if_pos g] at h;cases h
  rw[if_neg g] at h;exact⟨g,h⟩
 have sub:∀ {c r k h sz J},lM (nI st b none) c r k h sz J->b≠c/\lM st c r k h sz J:=by
  rintro c r k h sz J ⟨sz0,rows,row,h1,h2⟩
  obtain⟨e1,e2⟩:=R _ _ h1;exact⟨e1,sz0,rows,row,e2,h2⟩
 refine⟨Y',⟨gB.keep _ K _ H.vals,⟨?_,?_⟩,H.next,λk hk=>H.vg k hk.1,?_,H.c0,λk hk=>H.vk k hk.1,H.mf,?_,H.wz.keep K.none,H.fix,?_⟩,λl hl h=>h.2.1 l hl rfl,λr c h U J hk hh=>hh.2.2 _ _ _ _ _ hk rfl,λ_ h=>h.1⟩
 intro c y h;obtain⟨g,h⟩:=R _ _ h;rcases H.store.blk c y h with ⟨l',I,hb⟩|hn
 refine .inl ⟨l',I,gJ.keep K rfl ⟨λh=>h.1,λh0=>⟨h0,λl hl e=>g ?_,λr c' h' U J hk e=>H.nest.sep _ _ _ _ _ _ _ _ _ hk h I e⟩⟩ hb⟩;exact (H.store.inj c b y _ l' l h hx I hl e).symm
 exact .inr hn
 intro c c' y y' l1 l2 h h' h1 h2 e;exact H.store.inj c c' y y' l1 l2 (R _ _ h).2 (R _ _ h').2 h1 h2 e
 intro k hk;refine⟨H.y0 k hk,λl hl e=>H.away hx hl (e ▸ hk),λr c h U J ho e=>?_⟩;obtain⟨k1,k2⟩:=H.c0 k hk;rcases H.nest.old _ _ _ _ _ _ ho with h1|h1
 rw[<- e] at h1;omega
 rw[<- e] at h1;exact k2 h1
 intro c y l' h h1;exact H.own c y l' (R _ _ h).2 h1
 refine H.nest.keep K.none (λ_ _ _ _ _ _ k=>(sub k).2) (λ_ _ _ _ _ _ _=>rfl) (λc r k h sz J hk=>⟨(H.nest.rep _ _ _ _ _ _ (sub hk).2).own,λl hl e=>H.nest.sep _ _ _ _ _ _ _ _ _ (sub hk).2 hx hl e.symm,λr' c' h' U es' ho e=>(sub hk).1 (H.nest.one _ _ _ _ _ _ _ _ _ _ _ _ (sub hk).2 ho e).1.symm⟩) λc r k h sz J b' y l' hk hy I=>H.nest.sep _ _ _ _ _ _ _ _ _ (sub hk).2 (R _ _ hy).2 I
theorem Keep.ahx {w w' : World}{Y:Nat->Prop}{σ:Sg}(h:Chg w w'):Keep w w' Y Y σ σ:=⟨λk hk _=>h.block k hk,λ_ _ h=>h,h.size,mg.refl _⟩
theorem SW.afL {T:Tab}{C:Ctx T}{w w' : World}{Y:Nat->Prop}{σ:Sg}{ps:List PV}{vs:List Value}{st:St}{n:Nat}(H:SW C w Y σ ps vs st n)(h:Chg w w'):SW C w' Y σ ps vs st n:=by
 have K:Keep w w' Y Y σ σ:=Keep.ahx h;refine⟨gB.keep _ K _ H.vals,⟨λb x hb=>?_,H.store.inj⟩,H.next,λk hk=>Nat.lt_of_lt_of_le (H.vg k hk) h.size,H.y0,H.c0,H.vk,?_,H.own,H.wz.keep K.none,H.fix,H.nest.heap h.size h.block⟩
 rcases H.store.blk b x hb with ⟨l,hl,hB⟩|hn
 exact .inl ⟨l,hl,gJ.keep K (h.block _ hB.lt) Iff.rfl hB⟩
 exact .inr hn
 exact⟨by rw[h.os];exact H.mf.os,by rw[h.tape];exact H.mf.tape,by rw[h.output];exact H.mf.output,Nat.le_trans H.mf.size h.size,λk hk hM=>by rw[h.block k (Nat.lt_of_lt_of_le hk H.mf.size)];exact H.mf.block k hk hM⟩
end Go.Pv
namespace Go.Pv
open Go
def Ph:Value->Bool
 | .agg _|.tuple _=>false
 | _=>true
theorem RS {w:World}{Y:Nat->Prop}{σ:Sg}{p:PV}{v:Value}(hp:sZ p=true)(h:Rep w Y σ p v):Ph v=true:=by
 cases p<;>simp[sZ] at hp<;>unfold Rep at h
 case sl=>obtain⟨_,_,_,e,_⟩:=h;subst e;rfl
 case os =>
  rcases h with ⟨_,_,_,e,_⟩|⟨_,_,e⟩<;>subst e<;>rfl
 case lv=>obtain⟨_,_,e⟩:=h;subst e;rfl
 case lp=>obtain⟨_,_,e⟩:=h;subst e;rfl
 case mp=>obtain⟨_,_,e⟩:=h;subst e;rfl
 case pp=>obtain⟨_,_,e,_⟩:=h;subst e;rfl
 case fn=>obtain⟨_,e,_⟩:=h;subst e;rfl
 case ow=>rcases h with ⟨_,e,_⟩|⟨_,_,_,e⟩<;>subst e<;>rfl
 case bo=>rcases h with ⟨_,e,_⟩|⟨_,_,_,e⟩<;>subst e<;>rfl
 all_goals (subst h;rfl)
theorem Ai {v:Value}(h:Ph v=true):v.cells=#[v]:=by
 cases v<;>simp[Ph] at h<;>rfl
theorem yf {w:World}{Y:Nat->Prop}{σ:Sg}:∀ (ps:List PV) (vs:List Value),iE ps=true->gB w Y σ ps vs->∀ v∈vs,Ph v=true
 | [],vs,_,h=>by unfold gB at h;subst h;simp
 | p::ps,vs,ha,h=>by
  unfold gB at h;obtain⟨v,U,rfl,h1,h2⟩:=h;simp[iE] at ha;intro u hu;rcases List.mem_cons.1 hu with rfl|hu
  exact RS ha.1 h1
  exact yf ps U ha.2 h2 u hu
theorem Gi {w:World}{Y:Nat->Prop}{σ:Sg}{p:PV}{v:Value}(h:Rep w Y σ p v)(U:iE (jM p)=true) :
  ∃ vs:List Value,v.cells=vs.toArray/\gB w Y σ (jM p) vs/\∀ u∈vs,Ph u=true:=by
 cases p
 case agg cs =>
  simp only[jM] at U |-;unfold Rep at h;obtain⟨vs,e,hr⟩:=h;subst e;exact⟨vs,rfl,hr,yf _ _ U hr⟩
 all_goals
  simp only[jM,iE,Bool.and_true] at U |-;have h1:=RS U h;refine⟨[v],by rw[Ai h1],by unfold gB;exact⟨v,[],rfl,h,by simp[gB]⟩,by simp[h1]⟩
theorem ab8 {P:Program}{w:World}{x:Addr}{v u:Value}(hv:Ph v=true)(U:w.cell? x=some u)(O:w.frozen? x=false) :
  (store x v).run P w=.ok () (w.setCell x v):=by
 unfold store;cases v<;>simp[Ph] at hv<;>simp[Sem.run,U,O]
theorem Lp {w:World}{b o:Nat}{arr:Array Value}{ty:TypeId}(h:w.heap[b]?=some (.cells arr ty (0,0)))(v:Value) :
  (w.setCell ⟨b,o,none⟩ v).heap[b]?=some (.cells (arr.setIfInBounds o v) ty (0,0)):=by
 simp[World.setCell,Array.getElem?_modify,h]
theorem cell_of_block {w:World}{b o:Nat}{arr:Array Value}{ty:TypeId}(h:w.heap[b]?=some (.cells arr ty (0,0))):w.cell? ⟨b,o,none⟩=arr[o]?:=by
 simp[World.cell?,h]
theorem uo {w:World}{b o:Nat}{arr:Array Value}{ty:TypeId}(h:w.heap[b]?=some (.cells arr ty (0,0))):w.frozen? ⟨b,o,none⟩=false:=by
 simp[World.frozen?,h]
structure Wrote (w w' : World)(b o:Nat)(arr:Array Value)(ty:TypeId)(vs:List Value):Prop where
 os:w'.os=w.os
 tape:w'.tape=w.tape
 output:w'.output=w.output
 size:w'.heap.size=w.heap.size
 other:∀ k,k≠b->w'.heap[k]?=w.heap[k]?
 blk:∃ arr' : Array Value,w'.heap[b]?=some (.cells arr' ty (0,0))/\arr'.size=arr.size/\∀ j,arr'[j]?=if o<=j/\j<o+vs.length then vs[j-o]? else arr[j]?
theorem vJ {P:Program}{b o:Nat}{ty:TypeId}:∀ (vs:List Value) (i:Nat) (w:World) (arr:Array Value),w.heap[b]?=some (.cells arr ty (0,0))->o+i+vs.length<=arr.size->(∀ v∈vs,Ph v=true) ->
  ∃ w',(storeCells ⟨b,o,none⟩ vs i).run P w=.ok () w'/\Wrote w w' b (o+i) arr ty vs
 | [],i,w,arr,h,_,_=>⟨w,by simp[storeCells],rfl,rfl,rfl,rfl,λ_ _=>rfl,arr,h,rfl,λj=>by simp;intro h1 h2;omega⟩
 | v::vs,i,w,arr,h,hle,hone=>by
  have R:o+i<arr.size:=by simp at hle;omega
  have J:w.cell? ⟨b,o+i,none⟩=some arr[o+i]:=by rw[cell_of_block h];simp[R]
  have T:=ab8 (P:=P) (hone v aB) J (uo h);obtain⟨w',hr,U⟩:=vJ (P:=P) (o:=o) vs (i+1) (w.setCell ⟨b,o+i,none⟩ v) (arr.setIfInBounds (o+i) v) (Lp h v) (by simp at hle |-;omega) (λu hu=>hone u (by simp[hu]));refine⟨w',?_,?_⟩
  simp only[storeCells,Sem.run_bind,addr_add,T,Result.andThen];exact hr
  obtain⟨arr',h1,h2,C⟩:=U.blk;refine⟨U.os,U.tape,U.output,?_,λk hk=>?_,arr',h1,by simpa using h2,λj=>?_⟩
  rw[U.size];simp[World.setCell]
  rw[U.other k hk];simp only[World.setCell,Array.getElem?_modify];rw[if_neg ah]
  rw[C j];simp only[List.length_cons]
  by_cases I:j=o+i
  subst I;rw[if_neg ah,if_pos ah];simp[R]
  by_cases h5:o+(i+1)<=j/\j<o+(i+1)+vs.length
  rw[if_pos h5,if_pos ah];rw[show j-(o+i)=(j-(o+(i+1)))+1 by omega];simp
  rw[if_neg h5,if_neg ah];rw[Array.getElem?_setIfInBounds];rw[if_neg ah]
theorem tu:∀ (vs l:List PV) (c:Nat),(jZ l c vs).length=l.length
 | [],l,c=>by cases l<;>simp[jZ]
 | v::vs,[],c=>by simpa [jZ,qU] using tu vs [] (c+1)
 | v::vs,x::l,c=>by rw[jZ,tu vs,qK];simp
theorem H6:∀ (vs l:List PV) (c j:Nat),c+vs.length<=l.length->(jZ l c vs)[j]?=if c<=j/\j<c+vs.length then vs[j-c]? else l[j]?
 | [],l,c,j,_=>by
  have:jZ l c []=l:=by cases l<;>simp[jZ]
  rw[this];simp;intro h1 h2;omega
 | v::vs,[],c,j,h=>by simp at h
 | v::vs,x::l,c,j,h=>by
  rw[jZ,H6 vs _ (c+1) j (by rw[qK];simp at h |-;omega),qK];simp only[List.length_cons]
  by_cases U:j=c
  subst U;rw[if_neg ah,if_pos ah];simp at h;rw[List.getElem?_set];simp;omega
  by_cases h5:c+1<=j/\j<c+1+vs.length
  rw[if_pos h5,if_pos ah,show j-c=(j-(c+1))+1 by omega];simp
  rw[if_neg h5,if_neg ah,List.getElem?_set_ne ah]
theorem jc.iff {w:World}{Y:Nat->Prop}{σ:Sg}{b:Nat}:∀ (ps:List PV) (o:Nat),jc w Y σ b ps o↔∀ i p,ps[i]?=some p->∃ v,w.cell? ⟨b,o+i,none⟩=some v/\Rep w Y σ p v
 | [],o=>by simp[jc]
 | q::ps,o=>by
  unfold jc;rw[jc.iff ps (o+1)];constructor
  rintro⟨h1,h2⟩ i p hi
  cases i with
  | zero=>simp at hi;subst hi;simpa using h1
  | succ i=>rw[show o+(i+1)=o+1+i by omega];exact h2 i p cZ
  intro h;refine⟨by simpa using h 0 q rfl,λi p hi=>?_⟩;rw[show o+1+i=o+(i+1) by omega];exact h (i+1) p cZ
theorem gB.get? {w:World}{Y:Nat->Prop}{σ:Sg}:∀ {ps:List PV} {vs:List Value} {i:Nat} {p:PV},gB w Y σ ps vs->ps[i]?=some p->∃ v,vs[i]?=some v/\Rep w Y σ p v
 | [],_,_,_,_,hi=>by simp at hi
 | q::ps,vs,0,p,h,hi=>by
  unfold gB at h;obtain⟨v,U,rfl,h1,_⟩:=h;simp at hi;subst hi;exact⟨v,rfl,h1⟩
 | q::ps,vs,i+1,p,h,hi=>by
  unfold gB at h;obtain⟨v,U,rfl,_,h2⟩:=h
  simpa using gB.get? h2 cZ
theorem Wrote.rep {w w' : World}{Y:Nat->Prop}{σ:Sg}{b o:Nat}{arr:Array Value}{ty:TypeId}{vs:List Value}{cs row:List PV}{c:Nat}(W:Wrote w w' b (o+c) arr ty vs)
  (hb:w.heap[b]?=some (.cells arr ty (0,0))) (U:jc w Y σ b row o) (T:gB w Y σ cs vs) (hle:c+cs.length<=row.length) (hk:∀ p v,Rep w Y σ p v->Rep w' Y σ p v):jc w' Y σ b (jZ row c cs) o:=by
 obtain⟨arr',h1,h2,J⟩:=W.blk;have hl:=T.length;rw[jc.iff] at U |-;intro i p hi;rw[H6 _ _ _ _ hle] at hi;rw[cell_of_block h1,J]
 by_cases R:c<=i/\i<c+cs.length
 rw[if_pos R] at hi;rw[if_pos ah];obtain⟨v,hv,hr⟩:=T.get? hi;exact⟨v,by rw[<- hv];congr 1;omega,hk _ _ hr⟩
 rw[if_neg R] at hi;rw[if_neg ah];obtain⟨v,hv,hr⟩:=U i p hi;rw[cell_of_block hb] at hv;exact⟨v,hv,hk _ _ hr⟩
theorem CQ {P:Program}{w:World}{t:TypeId}{b o size:Nat}{v:Value}{vs:List Value}{arr:Array Value}{ty:TypeId}(U:P.info? t≠none)(hsize:size=P.cellsOf t)
  (hv:v.cells=vs.toArray) (hlen:vs.length=size) (hb:w.heap[b]?=some (.cells arr ty (0,0))) (hle:o+vs.length<=arr.size) (T:∀ u∈vs,Ph u=true) :
  ∃ w',(storeVar t ⟨b,o,none⟩ v).run P w=.ok () w'/\Wrote w w' b o arr ty vs:=by
 obtain⟨w',hr,R⟩:=vJ (P:=P) (o:=o) vs 0 w arr hb (by simpa using hle) T;refine⟨w',?_,by simpa using R⟩;simp only[storeVar,Sem.run_bind,run_sizeOf U,Result.andThen];rw[if_neg (by rw[hv];simp;omega)];simp only[hv];exact hr
section
variable {P:Program}{T:Tab}(hT:jg P T){C:Ctx T}{o:Oper}{a:Act}{w:World}{Y:Nat->Prop}{σ:Sg}{ps:List PV}{st:St}{n id:Nat}{K:PV->Dl->Prop}{lk:Nat->Option jq}
 (H:SW C w Y σ ps a.tmps.toList st n) (hlk:∀ b x,lk b=some x->iO st b=some x) (hid:σ id=none/\T.qJ<=id)
theorem VV {vs:List Value}(H:SW C w Y σ ps vs st n){t:TypeId}{b c size:Nat}{l:Loc}{row:List PV}{p:PV}{v:Value}{K:List PV->Prop}
  (T:P.info? t≠none) (hsize:size=P.cellsOf t) (J:iO st b=some (.var false row)) (hl:σ b=some l) (hv:Rep w Y σ p v) (h:lL size row c p K) :
  ∃ U w',K U/\(storeVar t ⟨l.cb,l.co+c,none⟩ v).run P w=.ok () w'/\SW C w' Y σ ps vs (nI st b (some (.var false U))) n:=by
 unfold lL at h
 cases hb:(iE (jM p)&&Nat.beq (lG (jM p)) size&&Nat.ble (c+lG (jM p)) (lG row)) with
 | false=>rw[hb] at h;exact h.elim
 | true =>
  rw[hb] at h;simp only[Bool.and_eq_true,kX] at hb;obtain⟨⟨h1,h2⟩,h3⟩:=hb;have h2:=Nat.eq_of_beq_eq_true h2;have h3:=Nat.le_of_ble_eq_true h3;obtain⟨vs',hvs,hr,I⟩:=Gi hv h1;have hlen:=hr.length
  have hB:gJ w Y σ l (.var false row):=by
   rcases H.store.blk b _ J with ⟨l',R,hB⟩|⟨hn,_⟩
   rw[hl] at R;cases R;exact hB
   rw[hl] at hn;cases hn
  unfold gJ at hB;obtain⟨⟨arr,ty,ha,has⟩,hsz,hle,g,hm,hr0⟩:=hB;obtain⟨w',hrun,W⟩:=CQ (P:=P) (o:=l.co+c) T hsize hvs ah ha ah I;refine⟨_,w',h,hrun,SW.update H J hl (hm rfl) W.os W.tape W.output W.size W.other (λ_ _ e=>by cases e) λhk=>?_⟩;obtain⟨arr',h4,h5,h6⟩:=W.blk;unfold gJ;exact⟨⟨arr',ty,h4,by omega⟩,by rw[tu];exact hsz,by rw[tu];exact hle,W.rep ha g hr ah hk,hm,hr0⟩
theorem VW {vs:List Value}(H:SW C w Y σ ps vs st n){t:TypeId}{b c size sz r:Nat}{l:Loc}{rows:List (List PV)}{row:List PV}{p:PV}{v:Value}{K:List PV->Prop}
  (J:P.info? t≠none) (hsize:size=P.cellsOf t) (g:iO st b=some (.nor sz rows r row)) (hl:σ b=some l) (hv:Rep w Y σ p v) (h:lL size row c p K) :
  ∃ U w',K U/\(storeVar t ⟨l.cb,l.co+r*l.sz+c,none⟩ v).run P w=.ok () w'/\SW C w' Y σ ps vs (nI st b (some (.nor sz rows r U))) n:=by
 unfold lL at h
 cases hb:(iE (jM p)&&Nat.beq (lG (jM p)) size&&Nat.ble (c+lG (jM p)) (lG row)) with
 | false=>rw[hb] at h;exact h.elim
 | true =>
  rw[hb] at h;simp only[Bool.and_eq_true,kX] at hb;obtain⟨⟨h1,h2⟩,h3⟩:=hb;have h2:=Nat.eq_of_beq_eq_true h2;have h3:=Nat.le_of_ble_eq_true h3;obtain⟨vs',hvs,hr,hone⟩:=Gi hv h1;have hlen:=hr.length
  have hB:gJ w Y σ l (.nor sz rows r row):=by
   rcases H.store.blk b _ g with ⟨l',I,hB⟩|⟨hn,_⟩
   rw[hl] at I;cases I;exact hB
   rw[hl] at hn;cases hn
  unfold gJ at hB;obtain⟨⟨arr,ty,ha,has⟩,hsz,hpos,⟨hle,hnr⟩,⟨R,hrl⟩,T,hrow,hm⟩:=hB;rw[hsz];have hbnd:(r+1)*sz<=rows.length*sz:=Nat.mul_le_mul_right sz R;rw[Nat.add_mul] at hbnd;obtain⟨w',hrun,W⟩:=CQ (P:=P) (o:=l.co+r*sz+c) J hsize hvs ah ha ah hone;refine⟨_,w',h,hrun,SW.update H g hl hm W.os W.tape W.output W.size W.other (λ_ _ e=>by cases e) λhk=>?_⟩;have K0:Keep w w' Y Y iQ iQ:=⟨λk _ hy=>W.other k (λe=>hy (e ▸ hm)),λ_ _ h=>h,Nat.le_of_eq W.size.symm,mg.refl _⟩;obtain⟨arr',h4,h5,h6⟩:=W.blk;unfold gJ;refine⟨⟨arr',ty,h4,by omega⟩,hsz,hpos,⟨hle,hnr⟩,⟨R,by rw[tu];exact hrl⟩,λi x hx hi=>⟨(T i x hx hi).1,?_⟩,W.rep ha hrow hr ah hk,hm⟩;obtain⟨⟨g1,_⟩,g2⟩:=T i x hx hi;rw[jc.iff] at g2 |-;intro k q hq;obtain⟨u,hu,hp⟩:=g2 k q hq;refine⟨u,?_,Rep.keep _ K0 _ hp⟩;rw[cell_of_block ha] at hu;rw[cell_of_block h4,h6,if_neg]
  exact hu
  have hk:k<x.length:=by
   by_cases hh:k<x.length
   exact hh
   rw[List.getElem?_eq_none (Nat.le_of_not_lt hh)] at hq;cases hq
  rcases Nat.lt_or_gt_of_ne hi with hlt|hgt
  have:=Nat.mul_le_mul_right sz (show i+1<=r from hlt);rw[Nat.add_mul] at this;omega
  have:=Nat.mul_le_mul_right sz (show r+1<=i from hgt);rw[Nat.add_mul] at this;omega
end
end Go.Pv
