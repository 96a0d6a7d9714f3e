import Derived.WalkKit
import Derived.Test.YtlacmdnhabblcaaGreatB00
set_option linter.all false
namespace Go.Pv
open Go
inductive Tr (α:Type) where
 | e
 | n (v:α) (l r:Tr α)
abbrev Sb:=Tr (Option mJ)
abbrev Rs:=Option (PV×Dl)
structure EV where
 tm:Tr PV
 n:Nat
 st:Sb
 nx:Nat
abbrev Oe:=Option EV
abbrev Oc:=Option (Nat×EV)
abbrev Dk:=Nat->List PV->Sb->Nat->Option (PV×Sb×Nat)
inductive Nm where
 | no
 | one (b:Nat)
 | var (b:Nat)
 | many (l:List PV)
noncomputable def qp:Tr PV->Nat->PV:=λt k=>Tr.rec (motive:=λ_=>Nat->PV) (λ_=>PV.undef) (λv _ _ gl gr k=>Nat.rec (motive:=λ_=>PV) v (λm _=>Bool.rec (motive:=λ_=>PV) (gr (Nat.div m 2)) (gl (Nat.div m 2)) (Nat.beq (Nat.mod m 2) 0)) k) t k
noncomputable def mF:Sb->Nat->Option mJ:=λt k=>Tr.rec (motive:=λ_=>Nat->Option mJ) (λ_=>none) (λv _ _ gl gr k=>Nat.rec (motive:=λ_=>Option mJ) v (λm _=>Bool.rec (motive:=λ_=>Option mJ) (gr (Nat.div m 2)) (gl (Nat.div m 2)) (Nat.beq (Nat.mod m 2) 0)) k) t k
noncomputable def ady:PV->Nat->Tr PV->Tr PV:=λx k t=>Nat.rec (motive:=λ_=>PV->Nat->Tr PV->Tr PV) (λ_ _ t=>t)
 (λ_ ih x k t=>Tr.rec (motive:=λ_=>Tr PV)
  (Nat.rec (motive:=λ_=>Tr PV) (Tr.n x Tr.e Tr.e) (λm _=>Bool.rec (motive:=λ_=>Tr PV) (Tr.n PV.undef Tr.e (ih x (Nat.div m 2) Tr.e)) (Tr.n PV.undef (ih x (Nat.div m 2) Tr.e) Tr.e) (Nat.beq (Nat.mod m 2) 0)) k)
  (λv l r _ _=>Nat.rec (motive:=λ_=>Tr PV) (Tr.n x l r) (λm _=>Bool.rec (motive:=λ_=>Tr PV) (Tr.n v l (ih x (Nat.div m 2) r)) (Tr.n v (ih x (Nat.div m 2) l) r) (Nat.beq (Nat.mod m 2) 0)) k) t) (Nat.succ k) x k t
noncomputable def setB:Option mJ->Nat->Sb->Sb:=λx k t=>Nat.rec (motive:=λ_=>Option mJ->Nat->Sb->Sb) (λ_ _ t=>t)
 (λ_ ih x k t=>Tr.rec (motive:=λ_=>Sb)
  (Nat.rec (motive:=λ_=>Sb) (Tr.n x Tr.e Tr.e) (λm _=>Bool.rec (motive:=λ_=>Sb) (Tr.n none Tr.e (ih x (Nat.div m 2) Tr.e)) (Tr.n none (ih x (Nat.div m 2) Tr.e) Tr.e) (Nat.beq (Nat.mod m 2) 0)) k)
  (λv l r _ _=>Nat.rec (motive:=λ_=>Sb) (Tr.n x l r) (λm _=>Bool.rec (motive:=λ_=>Sb) (Tr.n v l (ih x (Nat.div m 2) r)) (Tr.n v (ih x (Nat.div m 2) l) r) (Nat.beq (Nat.mod m 2) 0)) k) t) (Nat.succ k) x k t
noncomputable def Ov:PV->(IntKind->Int->Rs)->Rs:=λv=>PV.rec (motive_1:=λ_=>(IntKind->Int->Rs)->Rs) (motive_2:=λ_=>Unit) (motive_3:=λ_=>Unit)
 (λ_ _=>none)
 (λ_ _=>none)
 (λk n K=>K k n)
 (λ_ _ _=>none)
 (λ_ _=>none)
 (λ_ _ _=>none)
 (λ_ _ _=>none)
 (λ_ _ _ _ _=>none)
 (λ_ _ _ _=>none)
 (λ_ _ _=>none)
 (λ_ _ _ _=>none)
 (λ_ _ _=>none)
 (λ_ _ _ _ _=>none)
 (λ_ _ _ _ _ _ _=>none)
 (λ_ _ _ _ _ _ _ _=>none)
 (λ_=>none)
 (λ_ _ _ _=>none)
 (λ_=>none)
 (λ_=>none)
 (λ_=>none)
 () (λ_ _ _ _=>()) () (λ_ _ _ _=>()) v
noncomputable def anW:PV->(IntKind->Int->Rs)->Rs->Rs:=λv=>PV.rec (motive_1:=λ_=>(IntKind->Int->Rs)->Rs->Rs) (motive_2:=λ_=>Unit) (motive_3:=λ_=>Unit)
 (λ_ _ D=>D)
 (λ_ _ D=>D)
 (λk n K _=>K k n)
 (λ_ _ _ D=>D)
 (λ_ _ D=>D)
 (λ_ _ _ D=>D)
 (λ_ _ _ D=>D)
 (λ_ _ _ _ _ D=>D)
 (λ_ _ _ _ D=>D)
 (λ_ _ _ D=>D)
 (λ_ _ _ _ D=>D)
 (λ_ _ _ D=>D)
 (λ_ _ _ _ _ D=>D)
 (λ_ _ _ _ _ _ _ D=>D)
 (λ_ _ _ _ _ _ _ _ D=>D)
 (λ_ D=>D)
 (λ_ _ _ _ D=>D)
 (λ_ D=>D)
 (λ_ D=>D)
 (λ_ D=>D)
 () (λ_ _ _ _=>()) () (λ_ _ _ _=>()) v
noncomputable def ajN:PV->Rs->Rs->Rs:=λv=>PV.rec (motive_1:=λ_=>Rs->Rs->Rs) (motive_2:=λ_=>Unit) (motive_3:=λ_=>Unit)
 (λb X Y=>Bool.rec (motive:=λ_=>Rs) Y X b)
 (λ_ _ _=>none)
 (λ_ _ _ _=>none)
 (λ_ _ _ _=>none)
 (λ_ _ _=>none)
 (λ_ _ _ _=>none)
 (λ_ _ _ _=>none)
 (λ_ _ _ _ _ _=>none)
 (λ_ _ _ _ _=>none)
 (λ_ _ _ _=>none)
 (λ_ _ _ _ _=>none)
 (λ_ _ _ _=>none)
 (λ_ _ _ _ _ _=>none)
 (λ_ _ _ _ _ _ _ _=>none)
 (λ_ _ _ _ _ _ _ _ _=>none)
 (λ_ _=>none)
 (λ_ _ _ _ _=>none)
 (λ_ _=>none)
 (λ_ _=>none)
 (λ_ _=>none)
 () (λ_ _ _ _=>()) () (λ_ _ _ _=>()) v
noncomputable def ajO:PV->Oc->Oc->Oc:=λv=>PV.rec (motive_1:=λ_=>Oc->Oc->Oc) (motive_2:=λ_=>Unit) (motive_3:=λ_=>Unit)
 (λb X Y=>Bool.rec (motive:=λ_=>Oc) Y X b)
 (λ_ _ _=>none)
 (λ_ _ _ _=>none)
 (λ_ _ _ _=>none)
 (λ_ _ _=>none)
 (λ_ _ _ _=>none)
 (λ_ _ _ _=>none)
 (λ_ _ _ _ _ _=>none)
 (λ_ _ _ _ _=>none)
 (λ_ _ _ _=>none)
 (λ_ _ _ _ _=>none)
 (λ_ _ _ _=>none)
 (λ_ _ _ _ _ _=>none)
 (λ_ _ _ _ _ _ _ _=>none)
 (λ_ _ _ _ _ _ _ _ _=>none)
 (λ_ _=>none)
 (λ_ _ _ _ _=>none)
 (λ_ _=>none)
 (λ_ _=>none)
 (λ_ _=>none)
 () (λ_ _ _ _=>()) () (λ_ _ _ _=>()) v
noncomputable def abO:PV->(Nat->Nat->Rs)->(Nat->Nat->Nat->Rs)->(List PV->Rs)->Rs:=λv=>PV.rec (motive_1:=λ_=>(Nat->Nat->Rs)->(Nat->Nat->Nat->Rs)->(List PV->Rs)->Rs) (motive_2:=λ_=>Unit) (motive_3:=λ_=>Unit)
 (λ_ _ _ _=>none)
 (λ_ _ _ _=>none)
 (λ_ _ _ _ _=>none)
 (λ_ _ _ _ _=>none)
 (λ_ _ _ _=>none)
 (λ_ _ _ _ _=>none)
 (λ_ _ _ _ _=>none)
 (λ_ _ _ _ _ _ _=>none)
 (λ_ _ _ _ _ _=>none)
 (λb c K1 _ _=>K1 b c)
 (λb r c _ K2 _=>K2 b r c)
 (λcs _ _ _ K3=>K3 cs)
 (λ_ _ _ _ _ _ _=>none)
 (λ_ _ _ _ _ _ _ _ _=>none)
 (λ_ _ _ _ _ _ _ _ _ _=>none)
 (λ_ _ _=>none)
 (λ_ _ _ _ _ _=>none)
 (λ_ _ _=>none)
 (λ_ _ _=>none)
 (λ_ _ _=>none)
 () (λ_ _ _ _=>()) () (λ_ _ _ _=>()) v
noncomputable def anX:PV->Rs:=λv=>PV.rec (motive_1:=λ_=>Rs) (motive_2:=λ_=>Unit) (motive_3:=λ_=>Unit)
 (λ_=>none)
 (λ_=>none)
 (λ_ _=>none)
 (λ_ _=>none)
 (λ_=>none)
 (λ_ _=>none)
 (λ_ _=>none)
 (λ_ _ _ _=>none)
 (λ_ _ _=>none)
 (λb c=>some (PV.lv b c,[]))
 (λb r c=>some (PV.lp b r c,[]))
 (λcs _=>some (PV.pp cs,[]))
 (λ_ _ _ _=>none)
 (λ_ _ _ _ _ _=>none)
 (λ_ _ _ _ _ _ _=>none)
 (none)
 (λf caps _=>some (PV.fn f caps,[]))
 (none)
 (none)
 (none)
 () (λ_ _ _ _=>()) () (λ_ _ _ _=>()) v
noncomputable def V4:PV->(Nat->List (List PV)->Bool->Rs)->(Nat->Nat->Nat->Rs)->(ByteArray->Rs)->Rs:=λv=>PV.rec (motive_1:=λ_=>(Nat->List (List PV)->Bool->Rs)->(Nat->Nat->Nat->Rs)->(ByteArray->Rs)->Rs) (motive_2:=λ_=>Unit) (motive_3:=λ_=>Unit)
 (λ_ _ _ _=>none)
 (λ_ _ _ _=>none)
 (λ_ _ _ _ _=>none)
 (λ_ _ _ _ _=>none)
 (λs _ _ K3=>K3 s)
 (λ_ _ _ _ _=>none)
 (λ_ _ _ _ _=>none)
 (λsz es full _ K1 _ _=>K1 sz es full)
 (λb r n _ K2 _=>K2 b r n)
 (λ_ _ _ _ _=>none)
 (λ_ _ _ _ _ _=>none)
 (λ_ _ _ _ _=>none)
 (λ_ _ _ _ _ _ _=>none)
 (λ_ _ _ _ _ _ _ _ _=>none)
 (λ_ _ _ _ _ _ _ _ _ _=>none)
 (λ_ _ _=>none)
 (λ_ _ _ _ _ _=>none)
 (λ_ _ _=>none)
 (λ_ _ _=>none)
 (λ_ _ _=>none)
 () (λ_ _ _ _=>()) () (λ_ _ _ _=>()) v
noncomputable def alQ:PV->(List PV->Rs)->Rs:=λv=>PV.rec (motive_1:=λ_=>(List PV->Rs)->Rs) (motive_2:=λ_=>Unit) (motive_3:=λ_=>Unit)
 (λ_ _=>none)
 (λ_ _=>none)
 (λ_ _ _=>none)
 (λ_ _ _=>none)
 (λ_ _=>none)
 (λcs _ K=>K cs)
 (λ_ _ _=>none)
 (λ_ _ _ _ _=>none)
 (λ_ _ _ _=>none)
 (λ_ _ _=>none)
 (λ_ _ _ _=>none)
 (λ_ _ _=>none)
 (λ_ _ _ _ _=>none)
 (λ_ _ _ _ _ _ _=>none)
 (λ_ _ _ _ _ _ _ _=>none)
 (λ_=>none)
 (λ_ _ _ _=>none)
 (λ_=>none)
 (λ_=>none)
 (λ_=>none)
 () (λ_ _ _ _=>()) () (λ_ _ _ _=>()) v
noncomputable def anY:PV->(List PV->Rs)->Rs:=λv=>PV.rec (motive_1:=λ_=>(List PV->Rs)->Rs) (motive_2:=λ_=>Unit) (motive_3:=λ_=>Unit)
 (λ_ _=>none)
 (λ_ _=>none)
 (λ_ _ _=>none)
 (λ_ _ _=>none)
 (λ_ _=>none)
 (λ_ _ _=>none)
 (λvs _ K=>K vs)
 (λ_ _ _ _ _=>none)
 (λ_ _ _ _=>none)
 (λ_ _ _=>none)
 (λ_ _ _ _=>none)
 (λ_ _ _=>none)
 (λ_ _ _ _ _=>none)
 (λ_ _ _ _ _ _ _=>none)
 (λ_ _ _ _ _ _ _ _=>none)
 (λ_=>none)
 (λ_ _ _ _=>none)
 (λ_=>none)
 (λ_=>none)
 (λ_=>none)
 () (λ_ _ _ _=>()) () (λ_ _ _ _=>()) v
noncomputable def afV:PV->(List PV->Rs)->Rs:=λv=>PV.rec (motive_1:=λ_=>(List PV->Rs)->Rs) (motive_2:=λ_=>Unit) (motive_3:=λ_=>Unit)
 (λb K=>K [PV.bool b])
 (λ_ _=>none)
 (λk n K=>K [PV.int k n])
 (λ_ _ _=>none)
 (λs K=>K [PV.str s])
 (λcs _ K=>K cs)
 (λ_ _ _=>none)
 (λsz es full _ K=>K [PV.sl sz es full])
 (λb r n K=>K [PV.os b r n])
 (λb c K=>K [PV.lv b c])
 (λb r c K=>K [PV.lp b r c])
 (λcs _ K=>K [PV.pp cs])
 (λ_ _ _ _ _=>none)
 (λ_ _ _ _ _ _ _=>none)
 (λ_ _ _ _ _ _ _ _=>none)
 (λK=>K [PV.yJ])
 (λf caps _ K=>K [PV.fn f caps])
 (λK=>K [PV.RY])
 (λ_=>none)
 (λ_=>none)
 () (λ_ _ _ _=>()) () (λ_ _ _ _=>()) v
noncomputable def fnE:PV->(Nat->List PV->Option (PV×Sb×Nat))->Option (PV×Sb×Nat):=λv=>PV.rec (motive_1:=λ_=>(Nat->List PV->Option (PV×Sb×Nat))->Option (PV×Sb×Nat)) (motive_2:=λ_=>Unit) (motive_3:=λ_=>Unit)
 (λ_ _=>none)
 (λ_ _=>none)
 (λ_ _ _=>none)
 (λ_ _ _=>none)
 (λ_ _=>none)
 (λ_ _ _=>none)
 (λ_ _ _=>none)
 (λ_ _ _ _ _=>none)
 (λ_ _ _ _=>none)
 (λ_ _ _=>none)
 (λ_ _ _ _=>none)
 (λ_ _ _=>none)
 (λ_ _ _ _ _=>none)
 (λ_ _ _ _ _ _ _=>none)
 (λ_ _ _ _ _ _ _ _=>none)
 (λ_=>none)
 (λf caps _ K=>K f caps)
 (λ_=>none)
 (λ_=>none)
 (λ_=>none)
 () (λ_ _ _ _=>()) () (λ_ _ _ _=>()) v
noncomputable def ahe:PV->Bool:=λv=>PV.rec (motive_1:=λ_=>Bool) (motive_2:=λ_=>Unit) (motive_3:=λ_=>Unit)
 (λ_=>true)
 (λ_=>true)
 (λ_ _=>true)
 (λ_ _=>true)
 (λ_=>true)
 (λ_ _=>false)
 (λ_ _=>false)
 (λ_ _ _ _=>true)
 (λ_ _ _=>false)
 (λ_ _=>false)
 (λ_ _ _=>false)
 (λ_ _=>true)
 (λ_ _ _ _=>false)
 (λ_ _ _ _ _ _=>false)
 (λ_ _ _ _ _ _ _=>false)
 (true)
 (λ_ caps _=>List.rec (motive:=λ_=>Bool) true (λ_ _ _=>false) caps)
 (true)
 (false)
 (false)
 () (λ_ _ _ _=>()) () (λ_ _ _ _=>()) v
noncomputable def WW:PV->Bool:=λv=>PV.rec (motive_1:=λ_=>Bool) (motive_2:=λ_=>Unit) (motive_3:=λ_=>Unit)
 (λ_=>true)
 (λ_=>true)
 (λ_ _=>true)
 (λ_ _=>true)
 (λ_=>true)
 (λ_ _=>false)
 (λ_ _=>false)
 (λ_ _ _ _=>true)
 (λ_ _ _=>true)
 (λ_ _=>true)
 (λ_ _ _=>true)
 (λ_ _=>true)
 (λ_ _ _ _=>true)
 (λ_ _ _ _ _ _=>true)
 (λ_ _ _ _ _ _ _=>true)
 (true)
 (λ_ _ _=>true)
 (true)
 (false)
 (false)
 () (λ_ _ _ _=>()) () (λ_ _ _ _=>()) v
noncomputable def gdK:PV->Bool->Option Bool:=λv=>PV.rec (motive_1:=λ_=>Bool->Option Bool) (motive_2:=λ_=>Unit) (motive_3:=λ_=>Unit)
 (λb w=>some (Bool.rec (motive:=λ_=>Bool) (Bool.rec (motive:=λ_=>Bool) true false w) w b))
 (λ_ _=>none)
 (λ_ _ _=>none)
 (λ_ _ _=>none)
 (λ_ _=>none)
 (λ_ _ _=>none)
 (λ_ _ _=>none)
 (λ_ _ _ _ _=>none)
 (λ_ _ _ _=>none)
 (λ_ _ _=>none)
 (λ_ _ _ _=>none)
 (λ_ _ _=>none)
 (λ_ _ _ _ _=>none)
 (λ_ _ _ _ _ _ _=>none)
 (λ_ _ _ _ _ _ _ _=>none)
 (λ_=>none)
 (λ_ _ _ _=>none)
 (λ_=>none)
 (λ_=>none)
 (λ_=>some false)
 () (λ_ _ _ _=>()) () (λ_ _ _ _=>()) v
noncomputable def nmL:PV->(List Nat->List Nat):=λv=>PV.rec (motive_1:=λ_=>(List Nat->List Nat)) (motive_2:=λ_=>(List Nat->List Nat)) (motive_3:=λ_=>Unit)
 (λ_=>λacc=>acc)
 (λ_=>λacc=>acc)
 (λ_ _=>λacc=>acc)
 (λ_ _=>λacc=>acc)
 (λ_=>λacc=>acc)
 (λ_ ih=>ih)
 (λ_ ih=>ih)
 (λ_ _ _ _=>λacc=>acc)
 (λb _ _=>λacc=>b::acc)
 (λb _=>λacc=>b::acc)
 (λb _ _=>λacc=>b::acc)
 (λ_ _=>λacc=>acc)
 (λ_ _ _ _=>λacc=>acc)
 (λ_ _ _ _ _ _=>λacc=>acc)
 (λ_ _ _ _ _ _ _=>λacc=>acc)
 (λacc=>acc)
 (λ_ _ ih=>ih)
 (λacc=>acc)
 (λacc=>acc)
 (λacc=>acc)
 (λacc=>acc) (λ_ _ x ih acc=>ih (x acc)) () (λ_ _ _ _=>()) v
noncomputable def V5 (p:Nat->Bool):PV->Bool:=λv=>PV.rec (motive_1:=λ_=>Bool) (motive_2:=λ_=>Bool) (motive_3:=λ_=>Unit)
 (λ_=>true)
 (λ_=>true)
 (λ_ _=>true)
 (λ_ _=>true)
 (λ_=>true)
 (λ_ ih=>ih)
 (λ_ ih=>ih)
 (λ_ _ _ _=>true)
 (λb _ _=>p b)
 (λb _=>p b)
 (λb _ _=>p b)
 (λ_ _=>true)
 (λ_ _ _ _=>false)
 (λ_ _ _ _ _ _=>false)
 (λ_ _ _ _ _ _ _=>false)
 (true)
 (λ_ _ ih=>ih)
 (true)
 (true)
 (true)
 true (λ_ _ x ih=>Bool.rec (motive:=λ_=>Bool) false ih x) () (λ_ _ _ _=>()) v
noncomputable def okK:TI->(Bool->Nat->Option (List PV)->Option (List Nat)->TK->Rs)->Rs:=λt K=>TI.rec (motive:=λ_=>Rs) (λok agg size zero plain kind=>Bool.rec (motive:=λ_=>Rs) none (K agg size zero plain kind) ok) t
noncomputable def alR:TK->(List FI->Rs)->Rs:=λt=>TK.rec (motive:=λ_=>(List FI->Rs)->Rs) (λ_=>none) (λ_=>none) (λ_=>none) (λ_ _=>none) (λfs K=>K fs) (λ_ _ _ _=>none) (λ_ _ _ _=>none) t
noncomputable def Uz:TK->(Nat->Nat->Option (List PV)->Rs)->Rs:=λt=>TK.rec (motive:=λ_=>(Nat->Nat->Option (List PV)->Rs)->Rs) (λ_=>none) (λ_=>none) (λ_=>none) (λ_ _=>none) (λ_ _=>none) (λ_ _ _ _=>none) (λsz bytes zero K=>K sz bytes zero) t
noncomputable def anZ:TK->(IntKind->Rs)->Rs:=λt=>TK.rec (motive:=λ_=>(IntKind->Rs)->Rs) (λ_=>none) (λ_=>none) (λ_=>none) (λk K=>K k) (λ_ _=>none) (λ_ _ _ _=>none) (λ_ _ _ _=>none) t
noncomputable def an0:TK->Rs->Rs:=λt=>TK.rec (motive:=λ_=>Rs->Rs) (λ_=>none) (λK=>K) (λ_=>none) (λ_ _=>none) (λ_ _=>none) (λ_ _ _ _=>none) (λ_ _ _ _=>none) t
noncomputable def ixT:TK->(Nat->Nat->Option (List PV)->Rs)->(Nat->Nat->Bool->Rs)->Rs->Rs:=λt=>TK.rec (motive:=λ_=>(Nat->Nat->Option (List PV)->Rs)->(Nat->Nat->Bool->Rs)->Rs->Rs) (λ_ _ _=>none) (λ_ _ K=>K) (λ_ _ _=>none) (λ_ _ _ _=>none) (λ_ _ _ _=>none) (λn sz agg _ K _=>K n sz agg) (λsz bytes zero K _ _=>K sz bytes zero) t
noncomputable def ajP:Option mJ->(Bool->List PV->Rs)->Rs:=λx=>Option.rec (motive:=λ_=>(Bool->List PV->Rs)->Rs) (λ_=>none) (λx=>mJ.rec (motive:=λ_=>(Bool->List PV->Rs)->Rs) (λro row K=>K ro row) (λ_ _ _ _=>none) (λ_ _ _=>none) x) x
noncomputable def aau:Option mJ->(Bool->Nat->List (List PV)->Rs)->Rs:=λx=>Option.rec (motive:=λ_=>(Bool->Nat->List (List PV)->Rs)->Rs) (λ_=>none) (λx=>mJ.rec (motive:=λ_=>(Bool->Nat->List (List PV)->Rs)->Rs) (λ_ _ _=>none) (λro sz rows K=>K ro sz rows) (λ_ _ _=>none) x) x
noncomputable def wJ (b:Bool)(x:Rs):Rs:=Bool.rec (motive:=λ_=>Rs) none x b
noncomputable def adz:Option (List PV)->(List PV->Rs)->Rs:=λx K=>Option.rec (motive:=λ_=>Rs) none (λz=>K z) x
noncomputable def ajQ:List FI->Nat->(Nat->Nat->Bool->Rs)->Rs:=λl n=>List.rec (motive:=λ_=>Nat->(Nat->Nat->Bool->Rs)->Rs) (λ_ _=>none) (λx _ ih n=>Nat.rec (motive:=λ_=>(Nat->Nat->Bool->Rs)->Rs) (λK=>FI.rec (motive:=λ_=>Rs) (λoff size agg=>K off size agg) x) (λm _=>ih m) n) l n
noncomputable def ajR:List (List PV)->Nat->(List PV->Rs)->Rs:=λl n=>List.rec (motive:=λ_=>Nat->(List PV->Rs)->Rs) (λ_ _=>none) (λx _ ih n=>Nat.rec (motive:=λ_=>(List PV->Rs)->Rs) (λK=>K x) (λm _=>ih m) n) l n
noncomputable def WX:Int->(Nat->Rs)->Rs:=λn K=>Int.rec (motive:=λ_=>Rs) (λm=>K m) (λ_=>none) n
noncomputable def FZ:List PV->Nat:=λl=>List.rec (motive:=λ_=>Nat) 0 (λ_ _ ih=>Nat.succ ih) l
noncomputable def N9:List (List PV)->Nat:=λl=>List.rec (motive:=λ_=>Nat) 0 (λ_ _ ih=>Nat.succ ih) l
noncomputable def WY:Nat->List PV->List PV:=λn l=>Nat.rec (motive:=λ_=>List PV->List PV) (λl=>l) (λ_ ih l=>List.rec (motive:=λ_=>List PV) [] (λ_ t _=>ih t) l) n l
noncomputable def abP:Nat->List PV->List PV:=λn l=>Nat.rec (motive:=λ_=>List PV->List PV) (λ_=>[]) (λ_ ih l=>List.rec (motive:=λ_=>List PV) [] (λx t _=>x::ih t) l) n l
noncomputable def MG:Nat->List (List PV)->List (List PV):=λn l=>Nat.rec (motive:=λ_=>List (List PV)->List (List PV)) (λl=>l) (λ_ ih l=>List.rec (motive:=λ_=>List (List PV)) [] (λ_ t _=>ih t) l) n l
noncomputable def MH:Nat->List (List PV)->List (List PV):=λn l=>Nat.rec (motive:=λ_=>List (List PV)->List (List PV)) (λ_=>[]) (λ_ ih l=>List.rec (motive:=λ_=>List (List PV)) [] (λx t _=>x::ih t) l) n l
noncomputable def WZ:List (List PV)->List (List PV)->List (List PV):=λl m=>List.rec (motive:=λ_=>List (List PV)) m (λx _ ih=>x::ih) l
noncomputable def UA:List PV->List PV->List PV:=λl m=>List.rec (motive:=λ_=>List PV) m (λx _ ih=>x::ih) l
noncomputable def ahf:List (List PV)->Nat->List PV->List (List PV):=λl n v=>List.rec (motive:=λ_=>Nat->List PV->List (List PV)) (λ_ _=>[]) (λx l ih n v=>Nat.rec (motive:=λ_=>List (List PV)) (v::l) (λm _=>x::ih m v) n) l n v
noncomputable def ajS:List PV->List PV->List PV:=λcs row=>List.rec (motive:=λ_=>List PV->List PV) (λrow=>row) (λx _ ih row=>List.rec (motive:=λ_=>List PV) [] (λ_ t _=>x::ih t) row) cs row
noncomputable def afW:Nat->List PV->List PV->List PV:=λc cs row=>Nat.rec (motive:=λ_=>List PV->List PV->List PV) (λcs row=>ajS cs row) (λ_ ih cs row=>List.rec (motive:=λ_=>List PV) [] (λx t _=>x::ih cs t) row) c cs row
noncomputable def allB (f:PV->Bool):List PV->Bool:=λl=>List.rec (motive:=λ_=>Bool) true (λx _ ih=>Bool.rec (motive:=λ_=>Bool) false ih (f x)) l
noncomputable def alS:Nat->Nat->List PV->List (List PV):=λn sz l=>Nat.rec (motive:=λ_=>Nat->List PV->List (List PV)) (λ_ _=>[]) (λ_ ih sz l=>abP sz l::ih sz (WY sz l)) n sz l
noncomputable def afX:Nat->List PV->List PV:=λn l=>Nat.rec (motive:=λ_=>List PV->List PV) (λ_=>[]) (λ_ ih l=>UA l (ih l)) n l
noncomputable def abQ:Nat->List PV->List (List PV):=λn l=>Nat.rec (motive:=λ_=>List PV->List (List PV)) (λ_=>[]) (λ_ ih l=>l::ih l) n l
noncomputable def kN:IntKind->Nat:=λk=>IntKind.rec (motive:=λ_=>Nat) 0 1 2 3 4 5 6 7 k
noncomputable def kEq (a b:IntKind):Bool:=Nat.beq (kN a) (kN b)
noncomputable def afY:Nat->Nat->Int:=λm n=>Nat.rec (motive:=λ_=>Int) (Int.ofNat (Nat.sub m n)) (λk _=>Int.negSucc k) (Nat.sub n m)
noncomputable def ahg:Int->Int->Int:=λa b=>Int.rec (motive:=λ_=>Int->Int) (λm b=>Int.rec (motive:=λ_=>Int) (λn=>Int.ofNat (Nat.add m n)) (λn=>afY m (Nat.succ n)) b) (λm b=>Int.rec (motive:=λ_=>Int) (λn=>afY n (Nat.succ m)) (λn=>Int.negSucc (Nat.succ (Nat.add m n))) b) a b
noncomputable def ajT:Int->Int:=λa=>Int.rec (motive:=λ_=>Int) (λm=>Nat.rec (motive:=λ_=>Int) (Int.ofNat 0) (λk _=>Int.negSucc k) m) (λm=>Int.ofNat (Nat.succ m)) a
noncomputable def ltI:Int->Int->Bool:=λa b=>Int.rec (motive:=λ_=>Int->Bool) (λm b=>Int.rec (motive:=λ_=>Bool) (λn=>Nat.ble (Nat.succ m) n) (λ_=>false) b) (λm b=>Int.rec (motive:=λ_=>Bool) (λ_=>true) (λn=>Nat.ble (Nat.succ n) m) b) a b
noncomputable def eqI:Int->Int->Bool:=λa b=>Int.rec (motive:=λ_=>Int->Bool) (λm b=>Int.rec (motive:=λ_=>Bool) (λn=>Nat.beq m n) (λ_=>false) b) (λm b=>Int.rec (motive:=λ_=>Bool) (λ_=>false) (λn=>Nat.beq m n) b) a b
noncomputable def F5:Bool->Bool:=λb=>Bool.rec (motive:=λ_=>Bool) true false b
noncomputable def half:IntKind->Nat:=λk=>IntKind.rec (motive:=λ_=>Nat) 128 32768 2147483648 9223372036854775808 256 65536 4294967296 18446744073709551616 k
noncomputable def aeS:IntKind->Nat:=λk=>IntKind.rec (motive:=λ_=>Nat) 128 32768 2147483648 9223372036854775808 0 0 0 0 k
noncomputable def Sr (k:IntKind):Int->Int:=λn=>Int.rec (motive:=λ_=>Int) (λm=>Bool.rec (motive:=λ_=>Int) (k.wrap (Int.ofNat m)) (Int.ofNat m) (Nat.ble (Nat.succ m) (half k))) (λm=>Bool.rec (motive:=λ_=>Int) (k.wrap (Int.negSucc m)) (Int.negSucc m) (Nat.ble (Nat.succ m) (aeS k))) n
noncomputable def fzI (n:Int)(K:Int->Rs):Rs:=Int.rec (motive:=λ_=>Rs) (λm=>Nat.rec (motive:=λ_=>Rs) (K (Int.ofNat 0)) (λj _=>K (Int.ofNat (Nat.succ j))) m) (λm=>K (Int.negSucc m)) n
noncomputable def okI (k:IntKind)(n:Int):Rs:=fzI n λn=>some (PV.int k n,[])
noncomputable def okB (b:Bool):Rs:=some (PV.bool b,[])
abbrev alT:=IntKind->Int->IntKind->Int->Rs
noncomputable def tq (f:IntKind->Int->Int->Rs):alT:=λk a k' b=>wJ (kEq k k') (f k a b)
noncomputable def Ol:BinOp->alT:=λop=>BinOp.rec (motive:=λ_=>alT)
 (tq λk a b=>okI k (Sr k (ahg a b)))
 (tq λk a b=>okI k (Sr k (ahg a (ajT b))))
 (tq λk a b=>okI k (Sr k (Int.mul a b)))
 (tq λk a b=>wJ (F5 (eqI b (Int.ofNat 0))) (okI k (k.wrap (a.tdiv b))))
 (tq λk a b=>wJ (F5 (eqI b (Int.ofNat 0))) (okI k (a.tmod b)))
 (tq λk a b=>okI k (kz .and k a b))
 (tq λk a b=>okI k (kz .or k a b))
 (tq λk a b=>okI k (kz .xor k a b))
 (λk a _ b=>wJ (F5 (ltI b (Int.ofNat 0))) (okI k (k.wrap (a*2 ^ (min b.toNat k.bits)))))
 (λk a _ b=>wJ (F5 (ltI b (Int.ofNat 0))) (okI k (a.fdiv (2 ^ (min b.toNat k.bits)))))
 (tq λk a b=>okI k (kz .andNot k a b))
 (tq λ_ a b=>okB (eqI a b))
 (tq λ_ a b=>okB (F5 (eqI a b)))
 (tq λ_ a b=>okB (ltI a b))
 (tq λ_ a b=>okB (F5 (ltI b a)))
 (tq λ_ a b=>okB (ltI b a))
 (tq λ_ a b=>okB (F5 (ltI a b))) op
noncomputable def eqB:List UInt8->List UInt8->Bool
 | [],[]=>true
 | a::l,b::m=>(match Nat.beq a.toNat b.toNat with|true=>eqB l m|false=>false)
 | _,_=>false
noncomputable def eqS (a b:ByteArray):Bool:=eqB a.data.toList b.data.toList
noncomputable def alU:Nat->PV->PV->Option Bool
 | 0,.int k a,.int k' b=>bif kEq k k' then some (eqI a b) else none
 | 1,.bool a,.bool b=>some (match a with|true=>b|false=>!b)
 | 2,.str a,.str b=>some (eqS a b)
 | _,_,_=>none
noncomputable def aeT:List Nat->List PV->List PV->Option Bool
 | [],[],[]=>some true
 | k::ks,x::xs,y::ys =>
  match alU k x y with
  | none=>none
  | some b=>(match aeT ks xs ys with|none=>none|some c=>some (match b with|true=>c|false=>false))
 | _,_,_=>none
noncomputable def aav (op:BinOp)(b:Bool):Rs :=
 bif Dh op then some (.bool b,[]) else bif I8 op then some (.bool (!b),[]) else none
noncomputable def an1 (t:TI)(op:BinOp)(x y:PV):Rs :=
 match x,y with
 | .str a,.str b=>aav op (eqS a b)
 | .agg xs,.agg ys =>
  (match t with
  | { ok:=true,agg:=true,plain:=some ks,.. }=>(match aeT ks xs ys with
   | some b=>aav op b
   | none=>none)
  | _=>none)
 | .bool a,.bool b=>(match t with
    | { ok:=true,agg:=false,plain:=some [1],.. }=>aav op (match a with|true=>b|false=>!b)
    | _=>none)
 | x,y=>(match t with
    | { ok:=true,kind:=.ptr,.. } =>
     bif qN x&&qN y then aav op true
     else bif (qN x&&A8 y) || (A8 x&&qN y) then aav op false
     else none
    | _=>none)
noncomputable def alV (t:TI)(op:BinOp)(x y:PV):Rs :=
 okK t λ_ _ _ _ _=>anW x (λk a=>Ov y λk' b=>Ol op k a k' b) (an1 t op x y)
noncomputable def alW (t:TI)(op:BinOp)(x:PV):Rs :=
 okK t λ_ _ _ _ kind=>Uz kind λ_ _ _=>V4 x
  (λ_ es _=>List.rec (motive:=λ_=>Rs) none (λ_ _ _=>aav op false) es)
  (λ_ _ n=>Nat.rec (motive:=λ_=>Rs) none (λ_ _=>aav op false) n)
  (λ_=>none)
noncomputable def alX:List PV->Nat->Rs:=λl n=>List.rec (motive:=λ_=>Nat->Rs) (λ_=>none) (λx _ ih n=>Nat.rec (motive:=λ_=>Rs) (some (x,[])) (λm _=>ih m) n) l n
noncomputable def W9 (agg:Bool)(size:Nat)(row:List PV)(c:Nat):Rs :=
 Bool.rec (motive:=λ_=>Rs) (alX row c) (wJ (Nat.ble (Nat.add c size) (FZ row)) (some (PV.agg (abP size (WY c row)),[]))) agg
noncomputable def alY (size:Nat)(row:List PV)(c:Nat)(cs:List PV)(K:List PV->Rs):Rs :=
 wJ (Nat.beq (FZ cs) size) (wJ (Nat.ble (Nat.add c size) (FZ row)) (K (afW c cs row)))
noncomputable def ajU (lk:Nat->Option mJ):List PV->Option (List PV×Dl)
 | []=>some ([],[])
 | v::vs=>match ajU lk vs with
  | none=>none
  | some (vs',δ)=>match v with
   | .os b r n=>(match lk b with
    | some (.arr _ sz rows)=>some (.sl sz (MH n (MG r rows)) false::vs',(b,some (.arr true sz rows))::δ)
    | _=>none)
   | .lv _ _|.lp _ _ _|.fn _ (_::_)|.agg _|.IX _|.top|.undef|.ow _ _ _|.bo _ _ _ _ _ _|.np _ _ _ _ _ _ _=>none
   | v=>some (v::vs',δ)
noncomputable def ajV (lk:Nat->Option mJ)(cs:List PV)(K:List PV->Dl->Rs):Rs :=
 Bool.rec (motive:=λ_=>Rs) (Option.rec (motive:=λ_=>Rs) none (λp=>Prod.rec (motive:=λ_=>Rs) (λcs δ=>K cs δ) p) (ajU lk cs)) (K cs []) (allB ahe cs)
noncomputable def alZ (b:Nat):Dl->Bool:=λδ=>List.rec (motive:=λ_=>Bool) false (λx _ ih=>Bool.rec (motive:=λ_=>Bool) ih true (Nat.beq x.1 b)) δ
noncomputable def ajW:Dl->Dl->Dl:=λl m=>List.rec (motive:=λ_=>Dl) m (λx _ ih=>x::ih) l
noncomputable def one (v:PV):Rs:=some (v,[])
noncomputable def aeU (t:TI)(id:Nat):Rs:=okK t λ_ _ zero _ _=>adz zero λz=>some (PV.lv id 0,[(id,some (mJ.var false z))])
noncomputable def alq (x:PV)(id:Nat):Rs:=afV x λcs=>some (PV.lv id 0,[(id,some (mJ.var false cs))])
noncomputable def Vx (t:TI)(x:PV)(f:Nat):Rs :=
 okK t λ_ _ _ _ kind=>alR kind λfs=>ajQ fs f λoff size _=>wJ (lZ size) (abO x (λb c=>some (PV.lv b (Nat.add c off),[])) (λb r c=>some (PV.lp b r (Nat.add c off),[])) (λcs=>wJ (Nat.ble off (FZ cs)) (some (PV.pp (WY off cs),[]))))
noncomputable def aeV (t:TI)(x:PV)(f:Nat):Rs :=
 okK t λ_ _ _ _ kind=>alR kind λfs=>ajQ fs f λoff size agg=>wJ (lZ size) (alQ x λcs=>W9 agg size cs off)
noncomputable def Xa (t:TI)(x:PV)(lk:Nat->Option mJ):Rs :=
 okK t λagg size _ _ _=>abO x (λb c=>ajP (lk b) λ_ row=>W9 agg size row c) (λb r c=>aau (lk b) λ_ _ rows=>ajR rows r λrow=>W9 agg size row c) (λcs=>W9 agg size cs 0)
noncomputable def aeW (t:TI)(x y:PV)(lk:Nat->Option mJ):Rs :=
 okK t λ_ size _ _ _=>abO x
  (λb c=>ajP (lk b) λro row=>wJ (F5 ro) (afV y λcs=>wJ (allB WW cs) (alY size row c cs λrow'=>some (PV.undef,[(b,some (mJ.var false row'))]))))
  (λb r c=>aau (lk b) λro sz rows=>wJ (F5 ro) (afV y λcs=>ajV lk cs λcs δ=>wJ (F5 (alZ b δ)) (ajR rows r λrow=>alY size row c cs λrow'=>some (PV.undef,ajW δ [(b,some (mJ.arr false sz (ahf rows r row')))]))))
  (λ_=>none)
noncomputable def alr (x:PV):Rs:=ajN x (some (PV.bool false,[])) (some (PV.bool true,[]))
noncomputable def als (x:PV):Rs:=Ov x λk n=>okI k (Sr k (ajT n))
noncomputable def Zn (s d:TI)(x:PV):Rs:=okK s λ_ _ _ _ _=>okK d λ_ _ _ _ kind=>anZ kind λk=>Ov x λ_ n=>okI k (Sr k n)
noncomputable def Vy (t:TI)(x i:PV)(lk:Nat->Option mJ):Rs :=
 okK t λ_ _ _ _ kind=>Ov i λ_ n=>WX n λj=>ixT kind
  (λesz _ _=>wJ (lZ esz) (V4 x (λsz es _=>wJ (Nat.beq sz esz) (ajR es j λrow=>some (PV.pp row,[])))
   (λb r len=>aau (lk b) λ_ sz _=>wJ (Nat.beq sz esz) (wJ (Nat.ble (Nat.succ j) len) (some (PV.lp b (Nat.add r j) 0,[])))) (λ_=>none)))
  (λlen esz _=>wJ (lZ esz) (wJ (Nat.ble (Nat.succ j) len) (abO x (λb c=>some (PV.lv b (Nat.add c (Nat.mul j esz)),[])) (λb r c=>some (PV.lp b r (Nat.add c (Nat.mul j esz)),[])) (λcs=>wJ (Nat.ble (Nat.mul j esz) (FZ cs)) (some (PV.pp (WY (Nat.mul j esz) cs),[]))))))
  none
noncomputable def an2:List UInt8->Nat->Rs:=λl n=>List.rec (motive:=λ_=>Nat->Rs) (λ_=>none) (λx _ ih n=>Nat.rec (motive:=λ_=>Rs) (okI .u8 (Int.ofNat x.toNat)) (λm _=>ih m) n) l n
noncomputable def aeX (t:TI)(x i:PV):Rs :=
 okK t λ_ _ _ _ kind=>Ov i λ_ n=>WX n λj=>ixT kind (λ_ _ _=>none)
  (λlen esz agg=>wJ (lZ esz) (wJ (Nat.ble (Nat.succ j) len) (alQ x λcs=>W9 agg esz cs (Nat.mul j esz))))
  (V4 x (λ_ _ _=>none) (λ_ _ _=>none) (λs=>an2 s.data.toList j))
noncomputable def Zo (x:PV)(i:Nat):Rs:=anY x λvs=>alX vs i
abbrev Plc:=Nat->(Nat->Nat->Rs)->Rs
noncomputable def ahh (ev:Operand->PV)(len:Nat)(place:Plc):List (Nat×Operand)->List PV->(List PV->Rs)->Rs:=λparts=>List.rec (motive:=λ_=>List PV->(List PV->Rs)->Rs) (λcells K=>K cells)
 (λp _ ih cells K=>place p.1 λoff size=>afV (ev p.2) λcs=>wJ (Nat.beq (FZ cs) size) (wJ (Nat.ble (Nat.add off size) len) (ih (afW off cs cells) K))) parts
noncomputable def aeY (t:TI)(ev:Operand->PV)(parts:Array (Nat×Operand)):Rs :=
 okK t λ_ _ zero _ kind=>adz zero λz=>TK.rec (motive:=λ_=>Rs) none none none (λ_=>none)
  (λfs=>ahh ev (FZ z) (λi K=>ajQ fs i λoff size _=>K off size) parts.toList z λcs=>some (PV.agg cs,[]))
  (λ_ esz _=>ahh ev (FZ z) (λi K=>K (Nat.mul i esz) esz) parts.toList z λcs=>some (PV.agg cs,[]))
  (λ_ _ _=>none) kind
noncomputable def Su (t:TI)(len:Nat)(ev:Operand->PV)(parts:Array (Nat×Operand))(lk:Nat->Option mJ)(id:Nat):Rs :=
 okK t λ_ _ _ _ kind=>Uz kind λesz _ zero=>adz zero λz=>wJ (lZ esz) (wJ (Nat.beq (FZ z) esz) (wJ (Nat.ble (Nat.mul len esz) 16777216)
  (ahh ev (Nat.mul len esz) (λi K=>K (Nat.mul i esz) esz) parts.toList (afX len z) λcs=>ajV lk cs λcs δ=>some (PV.os id 0 len,ajW δ [(id,some (mJ.arr false esz (alS len esz cs)))]))))
noncomputable def Xb (ev:Operand->PV):List Operand->List PV:=λl=>List.rec (motive:=λ_=>List PV) [] (λx _ ih=>ev x::ih) l
noncomputable def Q4 (f:Fn)(first:Array Operand)(ev:Operand->PV)(captured:Array Operand):Rs :=
 match f,first.toList with
 | .func f,[]=>some (PV.fn f (Xb ev captured.toList),[])
 | _,_=>none
noncomputable def Vz (t:TI)(x y:PV)(id:Nat):Rs :=
 okK t λ_ _ _ _ kind=>Uz kind λesz bytes zero=>adz zero λz=>Ov x λ_ n=>WX n λn=>Ov y λ_ m=>WX m λm =>
  wJ (lZ esz) (wJ (Nat.beq (FZ z) esz) (wJ (allB WW z) (wJ (Nat.ble n m) (wJ (Nat.ble (Nat.mul bytes m) 140737488355328) (wJ (Nat.ble m 9223372036854775807) (some (PV.os id 0 n,[(id,some (mJ.arr false esz (abQ n z)))])))))))
noncomputable def aaw (d:Nat)(x:Option PV)(K:Nat->Rs):Rs:=Option.rec (motive:=λ_=>Rs) (K d) (λv=>Ov v λ_ n=>WX n K) x
noncomputable def abR (lo hi:Option PV)(m:PV)(x:Rs):Rs:=Option.rec (motive:=λ_=>Rs) (Option.rec (motive:=λ_=>Rs) none (λh=>Ov h λ_ a=>WX a λa=>Ov m λ_ b=>WX b λb=>wJ (Nat.beq a 0) (wJ (Nat.beq b 0) x)) hi) (λ_=>none) lo
noncomputable def aeZ (t:TI)(x:PV)(lo hi mx:Option PV)(lk:Nat->Option mJ):Rs :=
 Option.rec (motive:=λ_=>Rs)
  (okK t λ_ _ _ _ kind=>Uz kind λesz _ _=>wJ (lZ esz) (V4 x
   (λsz es full=>wJ (Nat.beq sz esz) (aaw 0 lo λa=>aaw (N9 es) hi λb=>wJ (Nat.ble a b) (wJ (Nat.ble b (N9 es)) (some (PV.sl sz (MH (Nat.sub b a) (MG a es)) (Option.rec (motive:=λ_=>Bool) full (λ_=>false) hi),[])))))
   (λb r n=>aau (lk b) λ_ sz _=>wJ (Nat.beq sz esz) (aaw 0 lo λa=>aaw n hi λc=>wJ (Nat.ble a c) (wJ (Nat.ble c n) (some (PV.os b (Nat.add r a) (Nat.sub c a),[])))))
   (λ_=>none)))
  (λm=>okK t λ_ _ _ _ kind=>Uz kind λesz _ _=>wJ (lZ esz) (V4 x (λ_ _ _=>abR lo hi m (some (PV.sl esz [] true,[]))) (λ_ _ _=>abR lo hi m (some (PV.sl esz [] true,[]))) (λ_=>none))) mx
noncomputable def an3 (t:TI)(x:PV):Rs:=okK t λ_ _ _ _ kind=>V4 x (λ_ es _=>Uz kind λ_ _ _=>okI .i64 (Int.ofNat (N9 es))) (λ_ _ n=>Uz kind λ_ _ _=>okI .i64 (Int.ofNat n)) (λs=>an0 kind (okI .i64 (Int.ofNat s.data.toList.length)))
noncomputable def an4 (x y:PV):Rs:=Ov x λk a=>Ov y λk' b=>wJ (kEq k k') (okI k (Bool.rec (motive:=λ_=>Int) a b (ltI b a)))
noncomputable def an5 (x y:PV):Rs:=Ov x λk a=>Ov y λk' b=>wJ (kEq k k') (okI k (Bool.rec (motive:=λ_=>Int) a b (ltI a b)))
noncomputable def alu (esz:Nat)(lk:Nat->Option mJ)(x:PV)(K:List (List PV)->Rs):Rs:=V4 x
 (λsz es _=>Bool.rec (motive:=λ_=>Rs) (List.rec (motive:=λ_=>Rs) (K []) (λ_ _ _=>none) es) (K es) (Nat.beq sz esz))
 (λb r n=>aau (lk b) λ_ sz rows=>wJ (Nat.beq sz esz) (K (MH n (MG r rows)))) (λ_=>none)
noncomputable def ahi (n bytes:Nat)(x:Rs):Rs:=wJ (Nat.ble (Nat.mul (Nat.add (Nat.mul 2 n) 192) bytes) 140737488355328) (wJ (Nat.ble n 4611686018427387904) x)
noncomputable def ahj (t u:TI)(s x:PV)(lk:Nat->Option mJ)(id:Nat):Rs :=
 okK t λ_ _ _ _ kind=>Uz kind λesz bytes zero=>adz zero λz=>okK u λ_ _ _ _ kind'=>Uz kind' λ_ _ _=>wJ (lZ esz) (wJ (Nat.beq (FZ z) esz) (alu esz lk x λnew=>V4 s
  (λ_ es full=>wJ full (List.rec (motive:=λ_=>Rs) (ahi (N9 new) bytes (some (PV.os id 0 (N9 new),[(id,some (mJ.arr false esz new))]))) (λ_ _ _=>none) es))
  (λb r n=>aau (lk b) λro sz rows=>wJ (F5 ro) (wJ (Nat.beq sz esz) (ahi (Nat.add n (N9 new)) bytes (some (PV.os id 0 (Nat.add n (N9 new)),[(b,none),(id,some (mJ.arr false sz (WZ (MH n (MG r rows)) new)))])))))
  (λ_=>none)))
noncomputable def ajX (t:TI)(x:PV)(lk:Nat->Option mJ):Rs :=
 okK t λ_ _ _ _ kind=>Uz kind λesz _ zero=>adz zero λz=>V4 x (λ_ _ _=>none)
  (λb r n=>aau (lk b) λro sz rows=>wJ (F5 ro) (wJ (Nat.beq sz esz) (wJ (Nat.beq (FZ z) sz) (wJ (lZ sz) (wJ (allB WW z) (some (PV.IX [],[(b,some (mJ.arr false sz (WZ (MH r rows) (WZ (abQ n z) (MG (Nat.add r n) rows)))))])))))))
  (λ_=>none)
noncomputable def aax (ti:TypeId->TI)(b:Builtin)(args:List PV)(ts:List TypeId)(lk:Nat->Option mJ)(id:Nat):Rs :=
 match b,args,ts with
 | .len,[x],[t]=>an3 (ti t) x
 | .min,[x,y],_=>an4 x y
 | .max,[x,y],_=>an5 x y
 | .append,[s,x],t::u::_=>ahj (ti t) (ti u) s x lk id
 | .clear,[x],t::_=>ajX (ti t) x lk
 | _,_,_=>none
noncomputable def evV:Tr PV->Operand->PV:=λtm x=>Operand.rec (motive:=λ_=>Tr PV->PV) (λt tm=>qp tm t) (λv _=>WJ v) (λ_ _=>PV.top) (λf _=>PV.fn f []) x tm
noncomputable def xJ:Tr PV->Nat->Option Nat->PV->Tr PV:=λtm n dst v=>Option.rec (motive:=λ_=>Tr PV) tm (λd=>Bool.rec (motive:=λ_=>Tr PV) tm (ady v d tm) (Nat.ble (Nat.succ d) n)) dst
noncomputable def noN:Option mJ->Option mJ:=λx=>Option.rec (motive:=λ_=>Option mJ) none (λx=>mJ.rec (motive:=λ_=>Option mJ) (λro row=>some (mJ.var ro row)) (λro sz rows=>some (mJ.arr ro sz rows)) (λ_ _=>none) x) x
noncomputable def xK:Dl->Sb->Sb:=λδ st=>List.rec (motive:=λ_=>Sb->Sb) (λst=>st) (λx _ ih st=>ih (setB (noN x.2) x.1 st)) δ st
noncomputable def ES:Dl->List Nat:=λδ=>List.rec (motive:=λ_=>List Nat) [] (λx _ ih=>x.1::ih) δ
noncomputable def abS (f:Nat->Bool):List Nat->Bool:=λl=>List.rec (motive:=λ_=>Bool) true (λx _ ih=>Bool.rec (motive:=λ_=>Bool) false ih (f x)) l
noncomputable def fin:Rs->Tr PV->Nat->Sb->Nat->Option Nat->Oe:=λr tm n st nx dst=>Option.rec (motive:=λ_=>Oe) none (λp=>Prod.rec (motive:=λ_=>Oe) (λv δ=>List.rec (motive:=λ_=>Oe) (some ⟨xJ tm n dst v,n,st,nx⟩) (λ_ _ _=>Bool.rec (motive:=λ_=>Oe) none (Nat.rec (motive:=λ_=>Oe) (some ⟨xJ tm n dst v,n,xK δ st,1⟩) (λm _=>some ⟨xJ tm n dst v,n,xK δ st,Nat.succ (Nat.succ m)⟩) nx) (abS (λb=>Nat.ble b nx) (ES δ))) δ) p) r
noncomputable def fin2:Option (PV×Sb×Nat)->Tr PV->Nat->Option Nat->Oe:=λr tm n dst=>Option.rec (motive:=λ_=>Oe) none (λp=>Prod.rec (motive:=λ_=>Oe) (λv q=>Prod.rec (motive:=λ_=>Oe) (λst nx=>some ⟨xJ tm n dst v,n,st,nx⟩) q) p) r
abbrev al0:=(TypeId->TI)->(Operand->PV)->(Nat->Option mJ)->Nat->Rs
noncomputable def noD:al0:=λ_ _ _ _=>none
noncomputable def opV:Op->al0:=λo=>Op.rec (motive:=λ_=>al0)
 (λx _ ev _ _=>some (ev x,[]))
 (λx _ ev _ _=>some (ev x,[]))
 (λc a b _ ev _ _=>ajN (ev c) (some (ev a,[])) (some (ev b,[])))
 (λt ti _ _ id=>aeU (ti t) id)
 (λ_ x _ ev _ id=>alq (ev x) id)
 (λt parts ti ev _ _=>aeY (ti t) ev parts)
 (λt len parts ti ev lk id=>Su (ti t) len ev parts lk id)
 (λ_ _ _ _=>noD)
 (λt x ti ev lk _=>Xa (ti t) (ev x) lk)
 (λt x y ti ev lk _=>aeW (ti t) (ev x) (ev y) lk)
 (λ_=>noD) (λ_=>noD)
 (λx _ ev _ _=>anX (ev x))
 (λop t x y _ ti ev _ _=>Bool.rec (motive:=λ_=>Rs) (alV (ti t) op (ev x) (ev y)) (alW (ti t) op (ev x)) (Sj y))
 (λop _ x _ ev _ _=>UnOp.rec (motive:=λ_=>Rs) (als (ev x)) none (alr (ev x)) none op)
 (λs d x ti ev _ _=>Zn (ti s) (ti d) (ev x))
 (λ_ _=>noD) (λ_ _=>noD)
 (λf first cap _ ev _ _=>Q4 f first ev cap)
 (λ_ _=>noD) (λ_ _=>noD)
 (λt x y ti ev _ id=>Vz (ti t) (ev x) (ev y) id)
 (λt x lo hi mx ti ev lk _=>aeZ (ti t) (ev x) (Option.rec (motive:=λ_=>Option PV) none (λx=>some (ev x)) lo) (Option.rec (motive:=λ_=>Option PV) none (λx=>some (ev x)) hi) (Option.rec (motive:=λ_=>Option PV) none (λx=>some (ev x)) mx) lk)
 (λt x f ti ev _ _=>Vx (ti t) (ev x) f)
 (λt x f ti ev _ _=>aeV (ti t) (ev x) f)
 (λt x i ti ev lk _=>Vy (ti t) (ev x) (ev i) lk)
 (λt x i ti ev _ _=>aeX (ti t) (ev x) (ev i))
 (λ_ _ _ _=>noD) (λ_ _ _ _=>noD) (λ_ _ _=>noD) (λ_ _ _ _=>noD) (λ_ _=>noD) (λ_ _=>noD) (λ_=>noD) (λ_ _ _ _=>noD)
 (λx i _ ev _ _=>Zo (ev x) i)
 (λc ti ev lk id=>Call.rec (motive:=λ_=>Rs) (λcallee args ts=>Callee.rec (motive:=λ_=>Rs) (λ_=>none) (λ_ _=>none) (λb=>aax ti b (Xb ev args.toList) ts.toList lk id) callee) c)
 (λ_=>noD) (λ_=>noD) (λ_=>noD) (λ_ _=>noD) (λ_ _ _=>noD) (λ_ _=>noD) o
abbrev uT:=Option (PV×Sb×Nat)
noncomputable def UB:Op->Option (Operand×Array Operand):=λo=>Op.rec (motive:=λ_=>Option (Operand×Array Operand))
 (λ_=>none) (λ_=>none) (λ_ _ _=>none) (λ_=>none) (λ_ _=>none) (λ_ _=>none) (λ_ _ _=>none) (λ_ _ _ _=>none) (λ_ _=>none) (λ_ _ _=>none) (λ_=>none) (λ_=>none) (λ_=>none) (λ_ _ _ _ _=>none) (λ_ _ _=>none) (λ_ _ _=>none) (λ_ _=>none) (λ_ _=>none) (λ_ _ _=>none) (λ_ _=>none) (λ_ _=>none) (λ_ _ _=>none) (λ_ _ _ _ _=>none) (λ_ _ _=>none) (λ_ _ _=>none) (λ_ _ _=>none) (λ_ _ _=>none) (λ_ _ _ _=>none) (λ_ _ _ _=>none) (λ_ _ _=>none) (λ_ _ _ _=>none) (λ_ _=>none) (λ_ _=>none) (λ_=>none) (λ_ _ _ _=>none) (λ_ _=>none)
 (λc=>Call.rec (motive:=λ_=>Option (Operand×Array Operand)) (λcallee args _=>Callee.rec (motive:=λ_=>Option (Operand×Array Operand)) (λf=>some (f,args)) (λ_ _=>none) (λ_=>none) callee) c)
 (λ_=>none) (λ_=>none) (λ_=>none) (λ_ _=>none) (λ_ _ _=>none) (λ_ _=>none) o
noncomputable def Ox (ti:TypeId->TI)(call:Dk)(o:Oper)(tm:Tr PV)(n:Nat)(st:Sb)(nx:Nat):Oe :=
 Option.rec (motive:=λ_=>Oe) (fin (opV o.op ti (evV tm) (mF st) nx) tm n st nx o.dst)
  (λp=>Prod.rec (motive:=λ_=>Oe) (λf args=>fin2 (fnE (evV tm f) λk caps=>call k (UA (Xb (evV tm) args.toList) caps) st nx) tm n o.dst) p) (UB o.op)
noncomputable def adA:List Oper->Nat->Option Oper:=λl n=>List.rec (motive:=λ_=>Nat->Option Oper) (λ_=>none) (λx _ ih n=>Nat.rec (motive:=λ_=>Option Oper) (some x) (λm _=>ih m) n) l n
noncomputable def gdV (all:List Oper)(g:Option (Nat×Bool))(tm:Tr PV):Option Bool :=
 Option.rec (motive:=λ_=>Option Bool) (some true) (λp=>Prod.rec (motive:=λ_=>Option Bool) (λj want=>Option.rec (motive:=λ_=>Option Bool) none (λo=>Option.rec (motive:=λ_=>Option Bool) none (λd=>gdK (qp tm d) want) o.dst) (adA all j)) p) g
noncomputable def opsV (ti:TypeId->TI)(call:Dk)(all:List Oper)(l:List Oper)(E:EV):Oe :=
 List.rec (motive:=λ_=>EV->Oe) (λE=>some E) (λo _ ih E=>EV.rec (motive:=λ_=>Oe) (λtm n st nx=>Option.rec (motive:=λ_=>Oe) none
  (λg=>Bool.rec (motive:=λ_=>Oe) (ih ⟨xJ tm n o.dst PV.undef,n,st,nx⟩) (Option.rec (motive:=λ_=>Oe) none (λE'=>ih E') (Ox ti call o tm n st nx)) g) (gdV all o.guard tm)) E) l E
noncomputable def JH:List Nat->Nat->Bool:=λl b=>List.rec (motive:=λ_=>Bool) false (λc _ ih=>Bool.rec (motive:=λ_=>Bool) ih true (Nat.beq c b)) l
noncomputable def meets:List Nat->List Nat->Bool:=λl m=>List.rec (motive:=λ_=>Bool) false (λc _ ih=>Bool.rec (motive:=λ_=>Bool) ih true (JH m c)) l
noncomputable def ahk:List PV->List Nat->List Nat:=λl=>List.rec (motive:=λ_=>List Nat->List Nat) (λacc=>acc) (λx _ ih acc=>ih (nmL x acc)) l
noncomputable def rowN:Option mJ->List Nat:=λx=>Option.rec (motive:=λ_=>List Nat) [] (λx=>mJ.rec (motive:=λ_=>List Nat) (λ_ row=>ahk row []) (λ_ _ _=>[]) (λ_ _=>[]) x) x
noncomputable def rch (lk:Nat->Option mJ)(d:Nat):List Nat->List Nat->List Nat:=Nat.rec (motive:=λ_=>List Nat->List Nat->List Nat) (λ_ acc=>acc)
 (λ_ ih ns acc=>List.rec (motive:=λ_=>List Nat->List Nat) (λacc=>acc) (λb _ go acc=>go (Bool.rec (motive:=λ_=>List Nat) (ih (rowN (lk b)) (b::acc)) acc (JH acc b))) ns acc) d
noncomputable def Oy (p:Nat->Bool):List PV->Bool:=λl=>List.rec (motive:=λ_=>Bool) true (λx _ ih=>Bool.rec (motive:=λ_=>Bool) false ih (V5 p x)) l
noncomputable def ahl (p:Nat->Bool):Option mJ->Bool:=λx=>Option.rec (motive:=λ_=>Bool) true (λx=>mJ.rec (motive:=λ_=>Bool) (λ_ row=>Oy p row) (λ_ _ _=>true) (λ_ _=>false) x) x
noncomputable def UC (f:Nat->Bool):List Nat->List Nat:=λl=>List.rec (motive:=λ_=>List Nat) [] (λx _ ih=>Bool.rec (motive:=λ_=>List Nat) ih (x::ih) (f x)) l
noncomputable def lk1 (R:List Nat)(st:Sb)(b:Nat):Option mJ:=Bool.rec (motive:=λ_=>Option mJ) none (mF st b) (JH R b)
noncomputable def afZ (st:Sb):List Nat->Sb:=λl=>List.rec (motive:=λ_=>Sb) Tr.e (λb _ ih=>setB (mF st b) b ih) l
noncomputable def eqP:Nat->PV->PV->Bool
 | 0,_,_=>false
 | d+1,x,y =>
  match x,y with
  | .bool a,.bool b=>(match a with|true=>b|false=>!b)
  | .int k a,.int k' b=>kEq k k'&&eqI a b
  | .str a,.str b=>eqS a b
  | .yJ,.yJ=>true
  | .RY,.RY=>true
  | .undef,.undef=>true
  | .os b r n,.os b' r' n'=>Nat.beq b b'&&(Nat.beq r r'&&Nat.beq n n')
  | .lv b c,.lv b' c'=>Nat.beq b b'&&Nat.beq c c'
  | .lp b r c,.lp b' r' c'=>Nat.beq b b'&&(Nat.beq r r'&&Nat.beq c c')
  | .sl z es f,.sl z' es' f'=>Nat.beq z z'&&((match f with|true=>f'|false=>!f')&&eqRows (eqP d) es es')
  | .pp cs,.pp cs'=>eqRow (eqP d) cs cs'
  | .agg cs,.agg cs'=>eqRow (eqP d) cs cs'
  | .fn k cs,.fn k' cs'=>Nat.beq k k'&&eqRow (eqP d) cs cs'
  | _,_=>false
where
 eqRow (f:PV->PV->Bool):List PV->List PV->Bool
  | [],[]=>true
  | x::xs,y::ys=>f x y&&eqRow f xs ys
  | _,_=>false
 eqRows (f:PV->PV->Bool):List (List PV)->List (List PV)->Bool
  | [],[]=>true
  | x::xs,y::ys=>eqRow f x y&&eqRows f xs ys
  | _,_=>false
noncomputable def ahm (x y:Option mJ):Bool :=
 match x,y with
 | some (.var ro row),some (.var ro' row')=>(match ro with|true=>ro'|false=>!ro')&&eqP.eqRow (eqP 8) row row'
 | some (.arr ro sz rows),some (.arr ro' sz' rows')=>(match ro with|true=>ro'|false=>!ro')&&(Nat.beq sz sz'&&eqP.eqRows (eqP 8) rows rows')
 | _,_=>false
abbrev Tc:=List Nat×List Nat×List Nat
noncomputable def ae0 (v:PV):List Nat:=nmL v []
noncomputable def rdO (o:Op)(ev:Operand->PV):List Nat :=
 match o with
 | .load _ x=>ae0 (ev x)
 | .store _ x y=>nmL (ev x) (ae0 (ev y))
 | .indexAddr _ x _=>ae0 (ev x)
 | .slice _ x _ _ _=>ae0 (ev x)
 | .buildSlice _ _ parts=>ahk (Xb ev (parts.toList.map λp=>p.2)) []
 | .call { callee:=.builtin _,args,argTypes:=_ }=>ahk (Xb ev args.toList) []
 | _=>[]
abbrev Of:=Option (EV×Tc)
noncomputable def ajY (r:Rs)(R:List Nat)(tm:Tr PV)(n:Nat)(st:Sb)(nx:Nat)(dst:Option Nat):Of :=
 match r with
 | some (v,δ)=>(match abS (λb=>Bool.rec (motive:=λ_=>Bool) (Option.rec (motive:=λ_=>Bool) false (λ_=>true) (mF st b)) true (Nat.beq b nx)) (ES δ) with
  | true=>some (⟨xJ tm n dst v,n,xK δ st,Nat.succ nx⟩,R,ES δ,ES δ)
  | false=>none)
 | none=>none
noncomputable def ahn (call:Dk)(k:Nat)(args:List PV)(tm:Tr PV)(n:Nat)(st:Sb)(nx:Nat)(dst:Option Nat):Of :=
 match rch (mF st) 8 (ahk args []) [] with
 | ρ=>match abS (λb=>Nat.ble (Nat.succ b) nx) ρ&&(Oy (JH ρ) args&&abS (λb=>ahl (JH ρ) (mF st b)) ρ) with
  | true=>(match call k args (afZ st ρ) nx with
   | some (v,st1,nx1)=>(match Nat.ble nx nx1,adu (UC (λb=>Option.rec (motive:=λ_=>Bool) false (λ_=>true) (mF st b)) ρ) (UC (λb=>Bool.rec (motive:=λ_=>Bool) false (Nat.ble (Nat.succ b) nx1) (Nat.ble nx b)) (rch (mF st1) 8 (nmL v ρ) [])) with
    | true,S=>some (⟨xJ tm n dst v,n,xK (S.map λb=>(b,mF st1 b)) st,nx1⟩,ρ,S,UC (λb=>F5 (ahm (mF st1 b) (mF st b))) S)
    | false,_=>none)
   | none=>none)
  | false=>none
noncomputable def abT (ti:TypeId->TI)(call:Dk)(o:Oper)(tm:Tr PV)(n:Nat)(st:Sb)(nx:Nat):Of :=
 match UB o.op with
 | none=>(match rdO o.op (evV tm) with
  | R=>ajY (opV o.op ti (evV tm) (lk1 R st) nx) R tm n st nx o.dst)
 | some (f,args)=>(match evV tm f with
  | .fn k caps=>ahn call k (UA (Xb (evV tm) args.toList) caps) tm n st nx o.dst
  | _=>none)
noncomputable def Sv (tc:Tc)(r:Option (EV×List Tc)):Option (EV×List Tc) :=
 match r with
 | some (E,l)=>some (E,tc::l)
 | none=>none
noncomputable def YG (ti:TypeId->TI)(call:Dk)(all:List Oper)(l:List Oper)(E:EV):Option (EV×List Tc) :=
 List.rec (motive:=λ_=>EV->Option (EV×List Tc)) (λE=>some (E,[])) (λo _ ih E=>EV.rec (motive:=λ_=>Option (EV×List Tc)) (λtm n st nx=>Option.rec (motive:=λ_=>Option (EV×List Tc)) none
  (λg=>Bool.rec (motive:=λ_=>Option (EV×List Tc)) (Sv ([],[],[]) (ih ⟨xJ tm n o.dst PV.undef,n,st,nx⟩)) (Option.rec (motive:=λ_=>Option (EV×List Tc)) none (λp=>Prod.rec (motive:=λ_=>Option (EV×List Tc)) (λE' tc=>Sv tc (ih E')) p) (abT ti call o tm n st nx)) g) (gdV all o.guard tm)) E) l E
noncomputable def pairT (B:List (List Nat))(i k:Nat)(x y:Tc):Bool :=
 match meets x.2.1 y.1 || (meets x.2.1 y.2.1 || meets y.2.1 x.1) with
 | false=>true
 | true=>JH (Dj B k) i || F5 (meets x.2.2 y.1 || (meets x.2.2 y.2.2 || meets y.2.2 x.1))
noncomputable def aho (B:List (List Nat))(i:Nat)(x:Tc):List Tc->Nat->Bool
 | [],_=>true
 | y::l,k=>pairT B i k x y&&aho B i x l (k+1)
noncomputable def adB (B:List (List Nat)):List Tc->Nat->Bool
 | [],_=>true
 | x::l,i=>aho B i x l (i+1)&&adB B l (i+1)
noncomputable def adC (all:Array Oper)(r:Option (EV×List Tc)):Oc :=
 match r with
 | some (E,tr)=>(match FD all all.toList 0&&adB (V3 all.toList []) tr 0 with
  | true=>some (0,E)
  | false=>none)
 | none=>none
noncomputable def Zp (f:EV->Oc)(n:Nat)(E:EV):Oc :=
 Nat.rec (motive:=λ_=>EV->Oc) (λ_=>none) (λ_ ih E=>Option.rec (motive:=λ_=>Oc) none (λp=>Prod.rec (motive:=λ_=>Oc) (λn E'=>Nat.rec (motive:=λ_=>Oc) (ih E') (λm _=>some (Nat.succ m,E')) n) p) (f E)) n E
noncomputable def ahp (call:Dk)(f:Operand)(E:EV):Oc :=
 EV.rec (motive:=λ_=>Oc) (λtm n st nx=>Option.rec (motive:=λ_=>Oc) none (λp=>Prod.rec (motive:=λ_=>Oc) (λ_ q=>Prod.rec (motive:=λ_=>Oc) (λst nx=>some (0,⟨tm,n,st,nx⟩)) q) p) (fnE (evV tm f) λk caps=>call k (PV.top::caps) st nx)) E
noncomputable def al1 (id:Nat)(r:Oc):Oc :=
 Option.rec (motive:=λ_=>Oc) none (λp=>Prod.rec (motive:=λ_=>Oc) (λn E=>Nat.rec (motive:=λ_=>Oc) (some (0,E)) (λm _=>Nat.rec (motive:=λ_=>Oc) (some (1,E)) (λk _=>Bool.rec (motive:=λ_=>Oc) (some (Nat.succ (Nat.succ k),E)) (some (0,E)) (Nat.beq k id)) m) n) p) r
noncomputable def al2 (r:Oc)(f:EV->Oc):Oc :=
 Option.rec (motive:=λ_=>Oc) none (λp=>Prod.rec (motive:=λ_=>Oc) (λn E=>Nat.rec (motive:=λ_=>Oc) (f E) (λm _=>some (Nat.succ m,E)) n) p) r
noncomputable def al3 (r:Oe):Oc:=Option.rec (motive:=λ_=>Oc) none (λE=>some (0,E)) r
noncomputable def an6 (c:Operand)(E:EV)(x y:Oc):Oc:=EV.rec (motive:=λ_=>Oc) (λtm _ _ _=>ajO (evV tm c) x y) E
noncomputable def xg (ti:TypeId->TI)(call:Dk)(c:Code)(E:EV):Oc :=
 Code.rec (motive:=λ_=>EV->Oc)
  (λE=>some (0,E))
  (λ_ l dr E=>Bool.rec (motive:=λ_=>Oc) (al3 (opsV ti call l.toList l.toList E)) (adC l (YG ti call l.toList l.toList E)) dr)
  (λ_ _ f g E=>al2 (f E) g)
  (λc _ _ f g E=>an6 c E (f E) (g E))
  (λid _ f E=>al1 id (f E))
  (λ_ f E=>Zp f 100000 E)
  (λf _ _ _ _ _ E=>ahp call f E)
  (λn E=>some (Nat.succ (Nat.succ n),E))
  (λ_ f E=>f E)
  (λ_ E=>some (0,E))
  (λ_ _=>none)
  (λE=>some (1,E))
  (λ_ _=>none) c E
noncomputable def an7 (ti:TypeId->TI)(E:EV):ResultVar->(PV->Option (PV×Sb×Nat))->Option (PV×Sb×Nat):=λr K=>ResultVar.rec (motive:=λ_=>Option (PV×Sb×Nat)) (λt=>K (qp E.tm t))
 (λa t=>Option.rec (motive:=λ_=>Option (PV×Sb×Nat)) none (λp=>K p.1) (abO (qp E.tm a) (λb c=>Xa (ti t) (PV.lv b c) (mF E.st)) (λ_ _ _=>none) (λ_=>none))) r
noncomputable def resV (ti:TypeId->TI)(E:EV):List ResultVar->List PV->Option (PV×Sb×Nat):=λrs=>List.rec (motive:=λ_=>List PV->Option (PV×Sb×Nat)) (λacc=>some (Dq acc,E.st,E.nx))
 (λr _ ih acc=>an7 ti E r λv=>ih (UA acc [v])) rs
noncomputable def Oz:List PV->Nat->Tr PV->Tr PV:=λl=>List.rec (motive:=λ_=>Nat->Tr PV->Tr PV) (λ_ t=>t) (λx _ ih k t=>ih (Nat.succ k) (ady x k t)) l
noncomputable def ajZ (cl:Bool)(args:List PV)(st:Sb)(nx:Nat)(X:uT):uT :=
 Bool.rec (motive:=λ_=>uT) X
  (match args with
  | [.sl _ [] _]=>some (PV.sl 0 [] true,st,nx)
  | [.os _ _ 0]=>some (PV.sl 0 [] true,st,nx)
  | _=>X) cl
noncomputable def Xc (ti:TypeId->TI)(F:Nat->Option (Bool×Func)):Nat->Dk:=λfuel=>Nat.rec (motive:=λ_=>Dk) (λ_ _ _ _=>none)
 (λ_ ih k args st nx=>Option.rec (motive:=λ_=>uT) none (λp=>Prod.rec (motive:=λ_=>uT) (λcl fn=>ajZ cl args st nx (Option.rec (motive:=λ_=>uT) none
  (λc=>Option.rec (motive:=λ_=>uT) none (λp=>Prod.rec (motive:=λ_=>uT) (λn E=>Bool.rec (motive:=λ_=>uT) none (resV ti E fn.results.toList []) (Nat.ble n 1)) p)
   (xg ti ih c ⟨Oz args 0 Tr.e,Nat.max (FZ args) fn.ntmps,st,nx⟩)) fn.body)) p) (F k)) fuel
def okV:Option (PV×Sb×Nat)->Bool
 | some (.bool true,_,_)=>true
 | _=>false
noncomputable def lkP:List Func->Nat->Option Func:=λl n=>List.rec (motive:=λ_=>Nat->Option Func) (λ_=>none) (λx _ ih n=>Nat.rec (motive:=λ_=>Option Func) (some x) (λm _=>ih m) n) l n
noncomputable def al4 (l:List Func)(cl:List Nat):Nat->Option (Bool×Func):=λk=>Option.rec (motive:=λ_=>Option (Bool×Func)) none (λf=>some (JH cl k,f)) (lkP l k)
end Go.Pv
namespace Go.Pv
open Go
def nX {T:Tab}(C:Ctx T)(E:Env)(a:Act)(w:World):Prop:=alP C E a.tmps.toList w/\a.defers=[]
def lift {T:Tab}(C:Ctx T)(Q:Post):Exit->Act->World->Prop
 | .normal,a,w=>∃ E,nX C E a w/\Q 0 E
 | .ret,a,w=>∃ E,nX C E a w/\Q 1 E
 | .exit n,a,w=>∃ E,nX C E a w/\Q (n+2) E
 | _,_,_=>False
def ae1 (P:Program)(T:Tab)(c:Code)(Q:Post)(E:Env):Prop:=∀ (C:Ctx T) a w,nX C E a w->c.wp P (lift C Q) a w
def VA (P:Program)(T:Tab)(k:Nat)(args:List PV)(E:Env)(K:PV->Env->Prop):Prop :=
 ∀ (C:Ctx T) (Y:Nat->Prop) (σ:Sg) (w:World) (vs cargs:List Value),SW C w Y σ E.tmps vs E.st E.next->jo w Y σ args cargs ->
  (callFunc k cargs.toArray).run P w=.ok (.enter k cargs.toArray) w /\
  Calls P k cargs.toArray w λe w'=>∃ cv v E' Y' σ',e=.returned cv/\K v E'/\SW C w' Y' σ' E'.tmps vs E'.st E'.next/\Rep w' Y' σ' v cv
def Fn (P:Program)(G:Nat->Option (List PV))(k:Nat)(args:List PV)(R:PV->Prop):Prop :=
 ∀ (w:World) (Y:Nat->Prop) (cargs:List Value),abN G w Y->(∀ b,Y b->b<w.heap.size)->jo w Y kX args cargs ->
  (callFunc k cargs.toArray).run P w=.ok (.enter k cargs.toArray) w /\
  Calls P k cargs.toArray w λe w'=>∃ cv v,e=.returned cv/\R v/\Rep w' Y kX v cv/\Chg w w'
def F6 (σ:Sg)(st:St)(k:Nat):Prop:=∃ b x l,kR st b=some x/\σ b=some l/\l.cb=k
def JI (T:Tab)(w:World)(Y:Nat->Prop)(σ:Sg)(st:St):Ctx T:=⟨w,λk=>Y k/\¬ F6 σ st k,F6 σ st,λk=>Y k/\F6 σ st k,σ⟩
def FW (P:Program)(G:Nat->Option (List PV))(k:Nat)(args:List PV)(st:St)(n:Nat)(R:PV->St->Nat->Prop):Prop :=
 ∀ (w:World) (Y:Nat->Prop) (σ:Sg) (cargs:List Value),abN G w Y->(∀ b,Y b->b<w.heap.size)->(∀ b,n<=b->σ b=none)->jo w Y σ args cargs->N8 w Y σ st->tY st=true ->
  (callFunc k cargs.toArray).run P w=.ok (.enter k cargs.toArray) w /\
  Calls P k cargs.toArray w λe w'=>∃ cv v st' n' Y' σ',e=.returned cv/\R v st' n'/\SW (JI ⟨λ_=>.bad,G,n,[],0,[],[]⟩ w Y σ st) w' Y' σ' [v] [cv] st' n'
def Ent (T:Tab)(E F:Env):Prop:=∀ (C:Ctx T) a w,nX C E a w->nX C F a w
theorem Ent.refl {T:Tab}(E:Env):Ent T E E:=λ_ _ _ h=>h
def fzC:PV->PV
 | .ow _ sz es=>.sl sz es false
 | v=>v
def ae2:List PV->Option Int
 | [.si .u8 n]=>some n
 | [.int .u8 n]=>some n
 | _=>none
noncomputable def kK.lM (P:Program)(T:Tab):kK where
 bin:=kz
 cmp:=zZ
 conv k n:=k.wrap n
 neg k n:=k.wrap (0-n)
 beq a b:=a==b
 band a b:=a&&b
 ajJ:=lg
 slen s:=(s.size:Int)
 Dn a b:=if b<a then b else a
 alI a b:=if b > a then b else a
 len es:=(es.length:Int)
 Kv n:=(n:Int)
 MB a b:=a+b
 abD a b:=a-b
 app a b:=a++b
 sub rows r n:=(rows.drop r).take n
 spl rows r new:=rows.take r++new++rows.drop (r+new.length)
 JF rows i r:=rows.set i r
 rep n r:=List.replicate n r
 jD es:=es.length
 br b t f:=(b=true->t ())/\(b=false->f ())
 call k args E lend free ρ as st0 K :=
  (∃ bs v,lend=some bs/\Fn P T.gl k bs (λu=>u=v)/\Ky 6 v=true/\K v E) \/
  (∃ bs v,free=some bs/\Fn P T.gl k bs (λu=>u=v)/\K v ⟨E.tmps,roS E.st ρ,E.next⟩) \/
  (∃ v st1 n1,aao ρ=true/\ltN E.next ρ=true/\tY st0=true/\FW P T.gl k as st0 (oN ρ) (λu st n=>u=v/\st=st1/\n=n1)/\K (ER (Hm ρ E.next) 8 v) (VY ρ E st1 n1)) \/
  VA P T k args E K
 abE k args K:=∃ v,Fn P T.gl k args (λu=>u=v)/\K v
 Zi k args as bs E K:=(∃ v,Fn P T.gl k as (λu=>u=v)/\K v E)\/(∃ v st1 n1,FW P T.gl k bs [] 0 (λu st n=>u=v/\st=st1/\n=n1)/\K (ER (Hm [] E.next) 8 v) (VY [] E st1 n1))\/VA P T k args E K
 aeQ k args K:=∃ v,Fn P T.gl k args (λu=>u=v)/\Ky 6 v=true/\K v
 ag3 k as K:=∃ v x,FW P T.gl k as [] 0 (λu st n=>u=v/\st=[(0,some x)]/\n=1)/\K v x
 ag4 k as st0 ρ K:=∃ v st1 n1,tY st0=true/\FW P T.gl k as st0 (oN ρ) (λu st n=>u=v/\st=st1/\n=n1)/\K v st1 n1
 loop c Q E:=ae1 P T (.loop c) Q E
 seq A B Q:=∃ Q',A Q'/\∀ n E,Q' n E->∃ F,Ent T E F/\Uy B Q n F
 idx es i K:=∃ (j:Nat) (row:List PV),i=(j:Int)/\es[j]?=some row/\K row
 ix n i K:=∃ j:Nat,i=(j:Int)/\j<n/\K j
 row rows j K:=∃ row,rows[j]?=some row/\K row
 alJ s i K:=∃ (j:Nat) (c:UInt8),i=(j:Int)/\s[j]?=some c/\K (c.toNat:Int)
 div op k a b K:=b≠0/\K (match op with|.quo=>k.wrap (a.tdiv b)|_=>a.tmod b)
 shf op k a y K:=0<=y/\K (match op with|.shl=>k.wrap (a*2 ^ (min y.toNat k.bits))|_=>a.fdiv (2 ^ (min y.toNat k.bits)))
 alK a b K:=a.size+b.size<=4611686018427387904/\K (a++b)
 mks n m bytes K:=∃ j:Nat,n=(j:Int)/\n<=m/\(bytes:Int)*m<=140737488355328/\m<=9223372036854775807/\K j
 room n bytes K:=(2*n+192)*bytes<=140737488355328/\n<=4611686018427387904/\K
 slc len a b K:=∃ i j:Nat,a=(i:Int)/\b=(j:Int)/\i<=j/\j<=len/\K i j
 ag5 s a b K:=∃ i j:Nat,a=(i:Int)/\b=(j:Int)/\i<=j/\j<=s.size/\K (s.extract i j)
 abG es K:=∀ b:Bool,(b=true->es=[])->K b
 toS t rows K:=(∃ e,P.underlying t=some (.slice e)/\P.underlying e=some (.int .u8))/\∃ s:ByteArray,rows.map ae2=s.data.toList.map (λc=>some (c.toNat:Int))/\K s
 wk cs K:=∃ cs',cs'.length=cs.length/\(jR cs=true->jR cs'=true)/\(∀ (w:World) (Y:Nat->Prop) (σ:Sg) (vs:List Value),jo w Y σ cs vs->jo w Y σ cs' vs)/\K cs'
 order l p:=Ho T l=true/\p
 last l p:=QZ l=true/\p
 ajK l tr p:=(FD l l.toList 0&&adB (V3 l.toList []) tr 0)=true/\p
 nu K:=∀ h,K h
 same h h' p:=h=h'/\p
 fz rows:=rows.map λrow=>row.map fzC
theorem F7 {P:Program}{T:Tab}{cs:List PV}{K:List PV->Prop}(h:wkC (kK.lM P T) cs K):∃ U,U.length=cs.length/\(jR cs=true->jR U=true)/\(∀ (w:World) (Y:Nat->Prop) (σ:Sg) (vs:List Value),jo w Y σ cs vs->jo w Y σ U vs)/\K U/\∀ R : List PV->Prop,R U->wkC (kK.lM P T) cs R:=by
 unfold wkC at h |-
 cases hb:WM cs with
 | true =>
  rw[hb] at h;simp only;obtain⟨U,h1,h2,J,I⟩:=h;exact⟨U,h1,h2,J,I,λR hk=>⟨U,h1,h2,J,hk⟩⟩
 | false =>
  rw[hb] at h;simp only;exact⟨cs,rfl,λh=>h,λ_ _ _ _ h=>h,h,λR hk=>hk⟩
theorem aj0 {w:World}{Y:Nat->Prop}{σ:Sg}(n:Nat)(p:PV)(v:Value)(h:Rep w Y σ p v):Rep w Y σ (owC n p) v:=by
 unfold owC
 split
 split
 split
 unfold Rep at h |-;obtain⟨a,len,cap,e,U,T,_,_⟩:=h;have U:len=0:=by simpa using U
 subst U;exact .inr ⟨rfl,a,cap,e⟩
 exact h
 exact h
 exact h
theorem ae3 {w:World}{Y:Nat->Prop}{σ:Sg}(n:Nat):∀ (ps:List PV) (vs:List Value),jo w Y σ ps vs->jo w Y σ (owZ n ps) vs
 | [],vs,h=>h
 | p::ps,vs,h=>by
  unfold jo at h;obtain⟨v,U,e,h1,h2⟩:=h;unfold owZ jo;exact⟨v,U,e,aj0 n p v h1,ae3 n ps U h2⟩
theorem ae4 (n:Nat):∀ ps:List PV,(owZ n ps).length=ps.length
 | []=>rfl
 | p::ps=>by simp[owZ,ae4 n ps]
theorem ahq (n:Nat)(p:PV):xe (owC n p)=xe p:=by
 unfold owC
 split
 split
 split<;>rfl
 rfl
 rfl
theorem abU (n:Nat):∀ ps:List PV,jR (owZ n ps)=jR ps
 | []=>rfl
 | p::ps=>by simp[owZ,jR,abU n ps,ahq]
theorem Zq {n:Nat}{h:Hdr}{sz:Nat}{U:List (List PV)}:∀ {ps:List PV},(∀ h sz U,PV.ow h sz U ∉ ps)->∀ c:Nat,(owZ n ps)[c]?=some (.ow h sz U)->U=[]
 | [],_,c,e=>by simp[owZ] at e
 | p::ps,hno,0,e=>by
  simp only[owZ,List.getElem?_cons_zero,Option.some.injEq] at e;unfold owC at e
  split at e
  split at e
  split at e
  cases e;rfl
  cases e
  cases e
  subst e;exact absurd (List.mem_cons_self) (hno h sz U)
 | p::ps,hno,c+1,e=>by
  simp only[owZ,List.getElem?_cons_succ] at e;exact Zq (λh sz U T=>hno h sz U (List.mem_cons_of_mem _ T)) c e
theorem ae5 {P:Program}{T:Tab}{pU:Nat}{cs:List PV}{K:List PV->Prop}(h:wkN (kK.lM P T) pU cs K):∃ U,U.length=cs.length/\(jR cs=true->jR U=true)/\(∀ (w:World) (Y:Nat->Prop) (σ:Sg) (vs:List Value),jo w Y σ cs vs->jo w Y σ U vs)/\K U/\(∀ n,pU=n+1->Vt cs=true->U=owZ n cs)/\∀ C : List PV->Prop,C U->wkN (kK.lM P T) pU cs C:=by
 unfold wkN at h |-
 cases pU with
 | zero =>
  obtain⟨U,h1,h2,R,J,I⟩:=F7 h;exact⟨U,h1,h2,R,J,(λn h=>by omega),I⟩
 | succ n =>
  cases hs:Vt cs with
  | true =>
   simp only[hs] at h |-;exact⟨owZ n cs,ae4 n cs,λh=>by rw[abU];exact h,λ_ _ _ _ h=>ae3 n _ _ h,h,λm g _=>by rw[show m=n by omega],λC hk=>hk⟩
  | false =>
   simp only[hs] at h |-;obtain⟨U,h1,h2,R,J,I⟩:=F7 h;exact⟨U,h1,h2,R,J,(λm g h=>by cases h),I⟩
end Go.Pv
namespace Go.Pv
open Go
theorem Q5 (w:World)(Y:Nat->Prop)(σ:Sg)(v:Value):Rep w Y σ (MC v) v:=by
 unfold MC
 split
 case h_5=>unfold Rep;exact⟨none,0,0,rfl,rfl,Nat.le_refl _,λ_=>rfl,.inl rfl⟩
 all_goals simp[Rep]
theorem OA (w:World)(Y:Nat->Prop)(σ:Sg):∀ vs:List Value,jo w Y σ (I9 vs) vs
 | []=>by simp[I9,jo]
 | v::vs=>by simp only[I9];unfold jo;exact⟨v,vs,rfl,Q5 w Y σ v,OA w Y σ vs⟩
theorem af0 (w:World)(Y:Nat->Prop)(σ:Sg)(v:Value):Rep w Y σ (WJ v) v:=by
 unfold WJ
 split
 unfold Rep;exact⟨_,by simp,OA w Y σ _⟩
 exact Q5 w Y σ v
theorem nM {T:Tab}{C:Ctx T}{w:World}{Y:Nat->Prop}{σ:Sg}{ps:List PV}{a:Act}{st:St}{n:Nat}(h:SW C w Y σ ps a.tmps.toList st n)(x:Operand):Rep w Y σ (tK T ps x) (a.eval x):=by
 cases x with
 | tmp t =>
  have:=h.vals.get ps _ t
  simpa [tK,Act.eval,Array.getD_eq_getD_getElem?,List.getD_eq_getElem?_getD] using this
 | const v=>exact af0 w Y σ v
 | global g =>
  simp only[tK]
  split
  rename_i cs U;exact Rep.keep _ ⟨λ_ _ _=>rfl,λ_ _ h=>h,Nat.le_refl _,λ_ _ h=>by cases h⟩ _ (h.zi g cs U)
  simp[Rep]
 | func f=>simp only[tK,Act.eval];unfold Rep;exact⟨[],rfl,by simp[jo]⟩
theorem yL {T:Tab}{C:Ctx T}{w:World}{Y:Nat->Prop}{σ:Sg}{ps:List PV}{a:Act}{st:St}{n:Nat}(h:SW C w Y σ ps a.tmps.toList st n):∀ l:List Operand,jo w Y σ (evA T ps l) (l.map a.eval)
 | []=>by simp[evA,jo]
 | x::l=>by simp only[evA,List.map_cons];unfold jo;exact⟨_,_,rfl,nM h x,yL h l⟩
def uk:Dl->Nat->Nat->Nat
 | [],n,_=>n
 | _::_,n,id=>max n (id+1)
def rH {T:Tab}(P:Program)(C:Ctx T)(o:Oper)(a:Act)(w:World)(σ:Sg)(ps:List PV)(st:St)(n id:Nat)(K:PV->Dl->Prop):Prop :=
 ∃ v δ cv w' Y' σ',K v δ/\((execOp a.eval o).run P w=.ok (.value cv) w'\/((execOp a.eval o).run P w=.ok .skip w'/\cv=Go.undef)) /\
  SW C w' Y' σ' ps a.tmps.toList (lh δ st) (uk δ n id)/\Rep w' Y' σ' v cv/\Off id σ σ'
theorem rH.quiet {T:Tab}{P:Program}{C:Ctx T}{o:Oper}{a:Act}{w:World}{Y:Nat->Prop}{σ:Sg}{ps:List PV}{st:St}{n id:Nat}{K:PV->Dl->Prop}
  (H:SW C w Y σ ps a.tmps.toList st n) {v:PV} {cv:Value} (hr:(execOp a.eval o).run P w=.ok (.value cv) w) (hv:Rep w Y σ v cv) (U:K v []):rH P C o a w σ ps st n id K :=
 ⟨v,[],cv,w,Y,σ,U,.inl hr,H,hv,Off.refl _ _⟩
theorem wK {w:World}{Y:Nat->Prop}{σ:Sg}{b:Bool}{v:Value}(h:Rep w Y σ (.bool b) v):v=.bool b:=by unfold Rep at h;exact h
theorem OB {w:World}{Y:Nat->Prop}{σ:Sg}{b:Bool}{v:Value}(h:Rep w Y σ (.sb b) v):v=.bool b:=by unfold Rep at h;exact h
theorem wz {w:World}{Y:Nat->Prop}{σ:Sg}{k:IntKind}{n:Int}{v:Value}(h:Rep w Y σ (.int k n) v):v=.int k n:=by unfold Rep at h;exact h
theorem Xd {w:World}{Y:Nat->Prop}{σ:Sg}{k:IntKind}{n:Int}{v:Value}(h:Rep w Y σ (.si k n) v):v=.int k n:=by unfold Rep at h;exact h
theorem MI {w:World}{Y:Nat->Prop}{σ:Sg}{s:ByteArray}{v:Value}(h:Rep w Y σ (.str s) v):v=.string s:=by unfold Rep at h;exact h
theorem rP {w:World}{Y:Nat->Prop}{σ:Sg}{p:PV}{k:IntKind}{n:Int}{v:Value}(h:Rep w Y σ p v)(e:xA p=some (k,n)):v=.int k n:=by
 unfold xA at e
 split at e<;>simp at e<;>obtain⟨rfl,rfl⟩:=e
 exact wz h
 exact Xd h
theorem Qi {w:World}{Y:Nat->Prop}{σ:Sg}{p:PV}{b:Bool}{v:Value}(h:Rep w Y σ p v)(e:Oq p=some b):v=.bool b:=by
 unfold Oq at e
 split at e<;>simp at e<;>subst e
 exact wK h
 exact OB h
theorem GM {k U : IntKind}(h:sW k U=true):k=U:=by cases k<;>cases U<;>simp_all[sW]
section
variable {P:Program}{T:Tab}(hT:lW P T){C:Ctx T}{o:Oper}{a:Act}{w:World}{Y:Nat->Prop}{σ:Sg}{ps:List PV}{st:St}{n id:Nat}{K:PV->Dl->Prop}{lk:Nat->Option mJ}
 (H:SW C w Y σ ps a.tmps.toList st n) (hlk:∀ b x,lk b=some x->kR st b=some x) (hid:σ id=none/\T.vY<=id)
include H
theorem aj1 {x:Operand}(ho:o.op=.move x)(h:nK T (kK.lM P T) (.move x) ps lk id K):rH P C o a w σ ps st n id K:=by
 refine rH.quiet H (cv:=a.eval x) ?_ (nM H x) h;simp[execOp,ho]
theorem af1 {x:Operand}(ho:o.op=.assign x)(h:nK T (kK.lM P T) (.assign x) ps lk id K):rH P C o a w σ ps st n id K:=by
 refine rH.quiet H (cv:=a.eval x) ?_ (nM H x) h;simp[execOp,ho]
theorem aj2 {c x y:Operand}(ho:o.op=.pick c x y)(h:nK T (kK.lM P T) (.pick c x y) ps lk id K):rH P C o a w σ ps st n id K:=by
 have U:=nM H c;simp only[nK] at h
 split at h
 rename_i e;rw[e] at U;have U:=wK U;refine rH.quiet H (cv:=a.eval x) ?_ (nM H x) h;simp[execOp,ho,U,asBool]
 rename_i e;rw[e] at U;have U:=wK U;refine rH.quiet H (cv:=a.eval y) ?_ (nM H y) h;simp[execOp,ho,U,asBool]
 exact h.elim
theorem abV {x:Operand}(ho:o.op=.nilCheck x)(h:nK T (kK.lM P T) (.nilCheck x) ps lk id K):rH P C o a w σ ps st n id K:=by
 have J:=nM H x;simp only[nK] at h
 split at h
 rename_i e;rw[e] at J;have U:=J;unfold Rep at U;obtain⟨l,_,R⟩:=U;refine rH.quiet H (cv:=a.eval x) ?_ J h;rw[R];simp[execOp,ho,R]
 rename_i e;rw[e] at J;have U:=J;unfold Rep at U;obtain⟨l,_,R⟩:=U;refine rH.quiet H (cv:=a.eval x) ?_ J h;rw[R];simp[execOp,ho,R]
 rename_i e;rw[e] at J;have U:=J;unfold Rep at U;obtain⟨b,I,R,_⟩:=U;refine rH.quiet H (cv:=a.eval x) ?_ J h;rw[R];simp[execOp,ho,R]
 rename_i e;rw[e] at J;have R:=J;unfold Rep at R;refine rH.quiet H (cv:=a.eval x) ?_ J h;rw[R];simp[execOp,ho,R]
 rename_i e;rw[e] at J;have U:=J;unfold Rep at U;obtain⟨vs,R,_⟩:=U;refine rH.quiet H (cv:=a.eval x) ?_ J h;rw[R];simp[execOp,ho,R]
 exact h.elim
theorem ahr {t:TypeId}{x:Operand}(ho:o.op=.unOp .not t x)(h:nK T (kK.lM P T) (.unOp .not t x) ps lk id K):rH P C o a w σ ps st n id K:=by
 have U:=nM H x;simp only[nK] at h
 split at h
 rename_i e;rw[e] at U;have U:=wK U;refine rH.quiet H (cv:=.bool false) ?_ bF h;simp[execOp,ho,U,Op.unary]
 rename_i e;rw[e] at U;have U:=wK U;refine rH.quiet H (cv:=.bool true) ?_ bF h;simp[execOp,ho,U,Op.unary]
 rename_i b e;rw[e] at U;have U:=OB U;refine rH.quiet H (cv:=.bool (!b)) ?_ dG h;simp[execOp,ho,U,Op.unary]
 exact h.elim
theorem ahs {t:TypeId}{x:Operand}(ho:o.op=.unOp .neg t x)(h:nK T (kK.lM P T) (.unOp .neg t x) ps lk id K):rH P C o a w σ ps st n id K:=by
 have U:=nM H x;simp only[nK] at h
 split at h
 rename_i k m e;rw[e] at U;have U:=wz U;refine rH.quiet H (cv:=.int k (k.wrap (0-m))) ?_ bF h;simp[execOp,ho,U,Op.unary,Op.intArith]
 rename_i k m e;rw[e] at U;have U:=Xd U;refine rH.quiet H (cv:=.int k (k.wrap (0-m))) ?_ dG h;simp[execOp,ho,U,Op.unary,Op.intArith]
 exact h.elim
theorem adD {t:Operand}{i:Nat}(ho:o.op=.extract t i)(h:nK T (kK.lM P T) (.extract t i) ps lk id K):rH P C o a w σ ps st n id K:=by
 have U:=nM H t;simp only[nK] at h
 split at h
 rename_i vs e;rw[e] at U;unfold Rep at U;obtain⟨us,J,hr⟩:=U
 cases hb:Nat.blt i (pX vs) with
 | false=>rw[hb] at h;exact h.elim
 | true =>
  rw[hb] at h;have hi:i<us.length:=by rw[jo.length _ _ hr];simpa [Nat.blt_eq] using hb
  have R:=hr.get _ _ i;rw[List.getD_eq_getElem?_getD,List.getElem?_eq_getElem hi] at R;refine rH.quiet H (cv:=us[i]) ?_ R h;simp[execOp,ho,J,Instr.extract,hi]
 exact h.elim
end
end Go.Pv
namespace Go.Pv
open Go
theorem xM {P:Program}{T:Tab}(hT:lW P T){t:TypeId}{x:TI}(h:T t=x)(ok:x.ok=true) :
  ∃ i d,P.info? t=some i/\P.underlying t=some d/\x=ag6 P t/\x.agg=nz P t/\x.size=i.size/\x.zero=Ja P t /\
   x.plain=(if P.eqGuardType P.depth t then none else xH P 20 t) /\
   x.kind=(match d with
    | .struct U=>TK.struct (U.toList.map λf=>{ off:=f.offset,size:=P.cellsOf f.type,agg:=nz P f.type })
    | .array n e=>.arr n (P.cellsOf e) (nz P e)
    | .slice e=>.slice (P.cellsOf e) (P.bytesOf e) (Ja P e)
    | .int k=>.int k
    | .string=>.str
    | .pointer _=>.ptr
    | _=>.oth):=by
 have e:=(hT t (by rw[h];exact ok)).1;rw[h] at e;subst h;unfold ag6 at e
 split at e
 rename_i i d h1 h2;rw[e];refine⟨i,d,h1,h2,?_,rfl,rfl,rfl,rfl,rfl⟩;unfold ag6;rw[h1,h2]
 rw[e] at ok;simp[TI.bad] at ok
theorem Q7 {P:Program}{T:Tab}(hT:lW P T){t:TypeId}{agg:Bool}{plain:Option (List Nat)}{size:Nat}{z:Option (List PV)}{J:List FI}
  (h:T t=⟨true,agg,size,z,plain,.struct J⟩):∃ U,P.underlying t=some (.struct U)/\J=(U.toList.map λf=>{ off:=f.offset,size:=P.cellsOf f.type,agg:=nz P f.type })/\z=Ja P t:=by
 obtain⟨i,d,h1,h2,C,g,h5,I,h7,R⟩:=xM hT h rfl;cases d<;>simp at R
 rename_i U;exact⟨U,h2,R,I⟩
theorem nZ {P:Program}{T:Tab}(hT:lW P T){t:TypeId}{agg:Bool}{plain:Option (List Nat)}{size sz bytes:Nat}{z R : Option (List PV)}
  (h:T t=⟨true,agg,size,z,plain,.slice sz bytes R⟩):∃ e,P.underlying t=some (.slice e)/\sz=P.cellsOf e/\bytes=P.bytesOf e/\R=Ja P e:=by
 obtain⟨i,d,h1,h2,J,C,h5,I,g,U⟩:=xM hT h rfl;cases d<;>simp at U
 rename_i e;exact⟨e,h2,U.1,U.2.1,U.2.2⟩
theorem Sz {P:Program}{T:Tab}(hT:lW P T){t:TypeId}{agg R:Bool}{plain:Option (List Nat)}{size n sz:Nat}{z:Option (List PV)}
  (h:T t=⟨true,agg,size,z,plain,.arr n sz R⟩):∃ e,P.underlying t=some (.array n e)/\sz=P.cellsOf e/\R=nz P e/\z=Ja P t:=by
 obtain⟨i,d,h1,h2,I,C,h5,J,g,U⟩:=xM hT h rfl;cases d<;>simp at U
 rename_i m e;obtain⟨rfl,U⟩:=U;exact⟨e,h2,U.1,U.2,J⟩
theorem aj3 {P:Program}{T:Tab}(hT:lW P T){t:TypeId}{agg:Bool}{plain:Option (List Nat)}{size:Nat}{z:Option (List PV)}{k:IntKind}
  (h:T t=⟨true,agg,size,z,plain,.int k⟩):P.underlying t=some (.int k):=by
 obtain⟨i,d,h1,h2,R,I,g,J,C,U⟩:=xM hT h rfl;cases d<;>simp at U
 subst U;exact h2
theorem Wl {P:Program}{T:Tab}(hT:lW P T){t:TypeId}{agg:Bool}{plain:Option (List Nat)}{size:Nat}{z:Option (List PV)}
  (h:T t=⟨true,agg,size,z,plain,.str⟩):P.underlying t=some .string:=by
 obtain⟨i,d,h1,h2,R,I,g,J,C,U⟩:=xM hT h rfl;cases d<;>simp at U
 exact h2
theorem aj6 {P:Program}{T:Tab}(hT:lW P T){t:TypeId}{agg:Bool}{plain:Option (List Nat)}{size:Nat}{z:Option (List PV)}
  (h:T t=⟨true,agg,size,z,plain,.ptr⟩):∃ e,P.underlying t=some (.pointer e):=by
 obtain⟨i,d,h1,h2,R,I,g,J,C,U⟩:=xM hT h rfl;cases d<;>simp at U
 exact⟨_,h2⟩
theorem Xe {P:Program}{T:Tab}(hT:lW P T){t:TypeId}{agg:Bool}{plain:Option (List Nat)}{size:Nat}{z:Option (List PV)}{k:TK}
  (h:T t=⟨true,agg,size,z,plain,k⟩):P.info? t≠none/\size=P.cellsOf t/\agg=nz P t/\∃ d,P.underlying t=some d:=by
 obtain⟨i,d,h1,h2,I,U,R,C,g,J⟩:=xM hT h rfl;refine⟨by rw[h1];simp,?_,U,d,h2⟩;simp[Program.cellsOf,h1];exact R
theorem MJ:∀ (l:List FI) (n:Nat),FY l n=l[n]?
 | [],n=>by simp[FY]
 | f::l,0=>by simp[FY]
 | f::l,n+1=>by simp[FY,MJ l n]
theorem run_sizeOf {P:Program}{w:World}{t:TypeId}(h:P.info? t≠none):(sizeOf t).run P w=.ok (P.cellsOf t) w:=by
 cases hi:P.info? t with
 | none=>exact absurd hi h
 | some i=>simp[sizeOf,typeInfo,program,Sem.run,Result.andThen,hi,Program.cellsOf]
theorem KA {P:Program}{w:World}{t:TypeId}{d:TypeDesc}(h:P.underlying t=some d):(isAgg t).run P w=.ok (nz P t) w:=by
 have hu:(underlying t).run P w=.ok d w:=by simp[underlying,program,Sem.run,Result.andThen,h]
 simp only[isAgg,nz,h,Sem.run_bind,hu,Result.andThen];cases d<;>simp
theorem nG {P:Program}{w:World}{t:TypeId}{d:TypeDesc}(h:P.underlying t=some d):(underlying t).run P w=.ok d w:=by
 simp[underlying,program,Sem.run,Result.andThen,h]
theorem ni {P:Program}{t:TypeId}(h:lZ (P.cellsOf t)=true):P.info? t≠none:=by
 intro h0;have:P.cellsOf t=0:=by simp[Program.cellsOf,h0]
 rw[this] at h;simp[lZ] at h
theorem abW {P:Program}{w:World}{x:Addr}{v:Value}(h:w.cell? x=some v):(load x).run P w=.ok v w:=by
 simp[load,Sem.run,h]
theorem addr_add (b o n:Nat):(⟨b,o,none⟩:Addr).add n=⟨b,o+n,none⟩:=by
 unfold Addr.add
 split<;>simp[*]
theorem Ei {P:Program}{w:World}{b o:Nat}:∀ (vs:List Value) (i:Nat) (acc:Array Value),(∀ j v,vs[j]?=some v->w.cell? ⟨b,o+(i+j),none⟩=some v) ->
  (loadCellsFrom ⟨b,o,none⟩ i vs.length acc).run P w=.ok (acc++vs.toArray) w
 | [],i,acc,_=>by simp[loadCellsFrom]
 | v::vs,i,acc,h=>by
  have h0:=h 0 v rfl;simp only[List.length_cons,loadCellsFrom,Sem.run_bind,addr_add];rw[abW (by simpa using h0)];simp only[Result.andThen]
  rw[Ei vs (i+1) (acc.push v) (λj u hu=>by
   have:=h (j+1) u (by simpa using hu);rw[show i+1+j=i+(j+1) by omega];exact this)]
  simp
section
variable {P:Program}{T:Tab}(hT:lW P T){C:Ctx T}{o:Oper}{a:Act}{w:World}{Y:Nat->Prop}{σ:Sg}{ps:List PV}{st:St}{n id:Nat}{K:PV->Dl->Prop}{lk:Nat->Option mJ}
 (H:SW C w Y σ ps a.tmps.toList st n) (hlk:∀ b x,lk b=some x->kR st b=some x) (hid:σ id=none/\T.vY<=id)
include hT H in
theorem aay {t:TypeId}{x:Operand}{f:Nat}(ho:o.op=.fieldAddr t x f)(h:nK T (kK.lM P T) (.fieldAddr t x f) ps lk id K):rH P C o a w σ ps st n id K:=by
 have U:=nM H x;simp only[nK] at h
 split at h
 rename_i fs e;obtain⟨fl,hu,rfl,_⟩:=Q7 hT e
 split at h
 rename_i fd O;rw[MJ,List.getElem?_map] at O
 cases hg:fl.toList[f]? with
 | none=>simp[hg] at O
 | some g =>
  simp[hg] at O;subst O;have hg' : fl[f]?=some g:=by simpa using hg
  cases hp:lZ (P.cellsOf g.type) with
  | false=>simp only[hp] at h;exact h.elim
  | true =>
   simp only[hp] at h;have R:P.cellsOf g.type≠0:=by intro h0;rw[h0] at hp;simp[lZ] at hp
   have J:P.info? g.type≠none:=by intro h0;apply R;simp[Program.cellsOf,h0]
   have run:∀ b off,a.eval x=.pointer (some ⟨b,off,none⟩)->(execOp a.eval o).run P w=.ok (.value (.pointer (some ⟨b,off+g.offset,none⟩))) w:=by
    intro b off hx;simp[execOp,ho,Instr.fieldAt,nG hu,hg',hx,Instr.sureAddr,fieldPlace,run_sizeOf J,R,addr_add]
   split at h
   rename_i b c e;rw[e] at U;unfold Rep at U;obtain⟨l,hs,I⟩:=U;refine rH.quiet H (run _ _ I) ?_ h;unfold Rep;exact⟨l,hs,by rw[Nat.add_assoc]⟩
   rename_i b r c e;rw[e] at U;unfold Rep at U;obtain⟨l,hs,I⟩:=U;refine rH.quiet H (run _ _ I) ?_ h;unfold Rep;exact⟨l,hs,by rw[Nat.add_assoc]⟩
   rename_i b r c hh sz j k e;rw[e] at U;unfold Rep at U;refine rH.quiet H (run _ _ U) ?_ h;unfold Rep;rw[Nat.add_assoc]
   rename_i cs e;rw[e] at U
   cases hb:Nat.ble g.offset (pX cs) with
   | false=>simp only[hb] at h;exact h.elim
   | true =>
    simp only[hb] at h;unfold Rep at U;obtain⟨b,o',I,hy,hr⟩:=U;refine rH.quiet H (run _ _ I) ?_ h;unfold Rep;rw[wI];exact⟨b,_,rfl,hy,hr.drop _ _ _⟩
   exact h.elim
 exact h.elim
 exact h.elim
theorem VB {P:Program}{w:World}{Y:Nat->Prop}{σ:Sg}{t:TypeId}{b C c:Nat}{row:List PV}{agg:Bool}{size:Nat}{K:PV->Prop}
  (T:P.info? t≠none) (hsize:size=P.cellsOf t) (U:agg=nz P t) (R:∃ d,P.underlying t=some d)
  (hr:lT w Y σ b row C) (h:loadRow agg size row c K) :
  ∃ v cv,K v/\(loadVar t ⟨b,C+c,none⟩).run P w=.ok cv w/\Rep w Y σ v cv:=by
 obtain⟨d,hu⟩:=R;unfold loadRow at h
 cases agg with
 | true =>
  simp only[cond_true] at h
  cases hb:Nat.ble (c+size) (pX row) with
  | false=>simp only[hb,cond_false] at h
  | true =>
   simp only[hb,cond_true,Kz,wI] at h;have hle:c+size<=row.length:=by simpa using Nat.le_of_ble_eq_true hb
   have I:=(hr.drop c _ _).take size _ _;obtain⟨vs,hv,hcell⟩:=I.vals;refine⟨_,.agg vs.toArray,h,?_,by unfold Rep;exact⟨vs,rfl,hv⟩⟩
   have hlen:vs.length=P.cellsOf t:=by
    rw[jo.length _ _ hv];simp;omega
   simp only[loadVar,Sem.run_bind,KA hu,<- U,Result.andThen,if_true,run_sizeOf T,loadCells];rw[<- hlen,Ei vs 0 #[] (λj v hj=>by simpa using hcell j v hj)];simp
 | false =>
  simp only[cond_false] at h
  cases hb:Nat.blt c (pX row) with
  | false=>simp only[hb,cond_false] at h
  | true =>
   simp only[hb,cond_true] at h;have J:c<row.length:=by simpa [Nat.blt_eq] using hb
   obtain⟨v,hv,hrep⟩:=hr.get _ _ c J;refine⟨_,v,h,?_,hrep⟩;simp only[loadVar,Sem.run_bind,KA hu,<- U,Result.andThen];simp only[Bool.false_eq_true,if_false];exact abW hv
theorem jH.Hq {T:Tab}{C:Ctx T}{w:World}{Y:Nat->Prop}{σ:Sg}{ps:List PV}{vs:List Value}{st:St}{n:Nat}(H:SW C w Y σ ps vs st n){lk:Nat->Option mJ}
  (R:∀ b x,lk b=some x->kR st b=some x) {b:Nat} {x:mJ} {l:Loc} (h:lk b=some x) (hs:σ b=some l):jH w Y σ l x:=by
 rcases H.store.blk b x (R _ _ h) with ⟨l',U,hb⟩|⟨U,_⟩
 rw[hs] at U;cases U;exact hb
 rw[hs] at U;cases U
theorem SA {w:World}{Y:Nat->Prop}{σ:Sg}{p:PV}{v:Value}(h:Rep w Y kX p v):Rep w Y σ p v :=
 Rep.keep p ⟨λ_ _ _=>rfl,λ_ _ h=>h,Nat.le_refl _,λ_ _ h=>by cases h⟩ v h
theorem getD_some {o:Option PV}{h:Hdr}{sz:Nat}{U:List (List PV)}(e:o.getD .undef=.ow h sz U):o=some (.ow h sz U):=by
 cases o with
 | none=>cases e
 | some x=>simp at e;rw[e]
theorem aht {P:Program}{T:Tab}{w:World}{Y:Nat->Prop}{σ:Sg}(b r c:Nat){p:PV}{v:Value}(h:Rep w Y σ p v):Rep w Y σ (alL (kK.lM P T) b r c p) v:=by
 unfold alL
 split
 rename_i hh sz R;unfold Rep at h |-;simp only[kK.lM];rcases h with ⟨h1,h2,U⟩|⟨h1,h2⟩
 exact .inl ⟨by simpa using h1,h2,U⟩
 exact .inr ⟨by rw[h1];rfl,h2⟩
 exact h
theorem abX {P:Program}{T:Tab}{w:World}{Y:Nat->Prop}{σ:Sg}{U:Nat}(b r:Nat):∀ (ps:List PV) (c o:Nat),lT w Y σ U ps o->lT w Y σ U (ag8 (kK.lM P T) b r c ps) o
 | [],c,o,h=>by simpa [ag8] using h
 | p::ps,c,o,h=>by
  unfold lT at h;obtain⟨⟨v,h1,h2⟩,R⟩:=h;simp only[ag8];unfold lT;exact⟨⟨v,h1,aht b r c h2⟩,abX b r ps (c+1) (o+1) R⟩
include hT H hlk in
theorem aj7 {t:TypeId}{x:Operand}(ho:o.op=.load t x)(h:nK T (kK.lM P T) (.load t x) ps lk id K):rH P C o a w σ ps st n id K:=by
 have R:=nM H x;simp only[nK] at h
 split at h
 rename_i agg size z plain kind e;obtain⟨J,hsize,hagg,hund⟩:=Xe hT e
 have fin:∀ (σ' : Sg) (b o' c:Nat) (row:List PV),a.eval x=.pointer (some ⟨b,o'+c,none⟩)->lT w Y σ' b row o'->(∀ p v,Rep w Y σ' p v->Rep w Y σ p v) ->
   loadRow agg size row c (λv=>K v [])->rH P C o a w σ ps st n id K:=by
  intro σ' b o' c row hx hr hσ hl;obtain⟨v,cv,hK,hrun,hrep⟩:=VB J hsize hagg hund hr hl;refine rH.quiet H (cv:=cv) ?_ (hσ _ _ hrep) hK;simp[execOp,ho,hx,Instr.loadAt,Instr.sureAddr,hrun]
 split at h
 rename_i b c e;rw[e] at R;unfold Rep at R;obtain⟨l,hs,I⟩:=R
 split at h
 rename_i ro row hb;have hB:=jH.Hq H hlk hb hs;unfold jH at hB;exact fin σ _ _ _ _ I hB.2.2.2.1 (λ_ _ h=>h) h
 exact h.elim
 rename_i b r c e;rw[e] at R;unfold Rep at R;obtain⟨l,hs,I⟩:=R
 split at h
 rename_i ro sz rows hb;have hB:=jH.Hq H hlk hb hs;unfold jH at hB;obtain⟨row,U,h⟩:=h;have:=lV.row _ _ _ _ hB.2.2.2.2.1 U;rw[<- hB.2.1] at this;exact fin kX _ _ _ _ I this.2 (λ_ _ h=>SA h) h
 rename_i sz rows hb;have hB:=jH.Hq H hlk hb hs;unfold jH at hB;obtain⟨row,U,h⟩:=h;have:=lV.row _ _ _ _ hB.2.2.2.2.1 U;rw[<- hB.2.1] at this;exact fin kX _ _ _ _ I (abX b r row 0 _ this.2) (λ_ _ h=>SA h) h
 exact h.elim
 rename_i b r c hh sz j k e;rw[e] at R;unfold Rep at R
 split at h
 rename_i sz0 rows hb;obtain⟨row,U,h⟩:=h
 split at h
 rename_i h' sz' es ec
 cases hs:Nat.beq sz' sz with
 | false=>rw[hs] at h;exact h.elim
 | true =>
  rw[hs] at h;simp only[cond_true] at h;have hs:=Nat.eq_of_beq_eq_true hs;subst hs;obtain⟨he,er,g,h⟩:=h;subst he;have hN:=H.nest.rep b r c hh sz' es ⟨sz0,rows,row,hlk _ _ hb,U,by rw[Eh,List.getD_eq_getElem?_getD] at ec;exact getD_some ec,by rintro rfl;simp at g⟩;exact fin kX _ _ _ _ R (lV.row _ _ _ _ hN.rows g).2 (λ_ _ h=>SA h) h
 exact h.elim
 exact h.elim
 rename_i cs e;rw[e] at R;unfold Rep at R;obtain⟨b,o',I,hy,hr⟩:=R;exact fin kX b o' 0 cs (by simpa using I) hr (λ_ _ h=>SA h) h
 exact h.elim
 exact h.elim
end
end Go.Pv
namespace Go.Pv
open Go
theorem SB {b c:Nat}(h:¬ b=c):Nat.beq b c=false:=by
 cases e:Nat.beq b c with
 | false=>rfl
 | true=>exact absurd (Nat.eq_of_beq_eq_true e) h
theorem kC (st:St)(b:Nat)(x:Option mJ)(c:Nat):kR (rW st b x) c=if b=c then x else kR st c:=by
 induction st with
 | nil =>
  by_cases h:b=c
  simp[rW,kR,h]
  have:Nat.beq b c=false:=SB h;simp[rW,kR,this,h]
 | cons p st ih =>
  obtain⟨U,y⟩:=p
  by_cases h:U=b
  subst h
  by_cases h2:U=c
  subst h2;simp[rW,kR]
  have:Nat.beq U c=false:=SB h2;simp[rW,kR,this,h2]
  have h0:Nat.beq U b=false:=SB h;simp only[rW,h0,cond_false,kR]
  by_cases h2:U=c
  subst h2;simp;intro e;exact absurd e.symm h
  have:Nat.beq U c=false:=SB h2;simp only[this,cond_false,ih]
theorem jH.keep {w w' : World}{Y Y' : Nat->Prop}{σ σ' : Sg}{l:Loc}{x:mJ}(K:Keep w w' Y Y' σ σ')(hb:w'.heap[l.cb]?=w.heap[l.cb]?)(C:Y' l.cb↔Y l.cb)
  (h:jH w Y σ l x):jH w' Y' σ' l x:=by
 cases x with
 | var ro row =>
  unfold jH at h |-;obtain⟨⟨arr,ty,h1,h2⟩,U,R,I,T,J⟩:=h;exact⟨⟨arr,ty,by rw[hb];exact h1,h2⟩,U,R,lT.keep row K (λ_=>hb) _ I,λe=>C.2 (T e),λe hy=>J e (C.1 hy)⟩
 | arr ro sz rows =>
  unfold jH at h |-;obtain⟨⟨arr,ty,h1,h2⟩,U,R,I,T,J,g⟩:=h;exact⟨⟨arr,ty,by rw[hb];exact h1,h2⟩,U,R,I,lV.keep rows K.none (λ_=>hb) _ T,λe=>C.2 (J e),λe hy=>g e (C.1 hy)⟩
 | pU sz rows =>
  unfold jH at h |-;obtain⟨⟨arr,ty,h1,h2⟩,U,R,I,T,J⟩:=h;exact⟨⟨arr,ty,by rw[hb];exact h1,h2⟩,U,R,I,lV.keep rows K.none (λ_=>hb) _ T,C.2 J⟩
theorem jH.lt {w:World}{Y:Nat->Prop}{σ:Sg}{l:Loc}{x:mJ}(h:jH w Y σ l x):l.cb<w.heap.size:=by
 have:At w l:=by cases x<;>(unfold jH at h;exact h.1)
 obtain⟨arr,ty,h1,_⟩:=this
 by_cases hb:l.cb<w.heap.size
 exact hb
 simp[Array.getElem?_eq_none (Nat.le_of_not_lt hb)] at h1
theorem SW.drop {T:Tab}{C:Ctx T}{w:World}{Y:Nat->Prop}{σ:Sg}{ps:List PV}{vs:List Value}{st:St}{n:Nat}(H:SW C w Y σ ps vs st n)(b:Nat):SW C w Y σ ps vs (rW st b none) n:=by
 have sub:∀ c x,kR (rW st b none) c=some x->kR st c=some x:=by
  intro c x h;rw[kC] at h
  by_cases hb:b=c
  rw[if_pos hb] at h;cases h
  rw[if_neg hb] at h;exact h
 refine⟨H.vals,⟨λc x h=>H.store.blk c x (sub c x h),λc U x x' l l' h R=>H.store.inj c U x x' l l' (sub _ _ h) (sub _ _ R)⟩,H.next,H.yK,H.y0,H.c0,H.xI,H.qh,λc x l h=>H.own c x l (sub _ _ h),H.zi,H.fix,H.nest.sub sub⟩
theorem SW.ext {T:Tab}{C:Ctx T}{w:World}{Y:Nat->Prop}{σ:Sg}{ps:List PV}{vs:List Value}{st st' : St}{n:Nat}(H:SW C w Y σ ps vs st n)(h:∀ b x,kR st' b=some x->kR st b=some x):SW C w Y σ ps vs st' n :=
 ⟨H.vals,⟨λc x e=>H.store.blk c x (h c x e),λc U x x' l l' e R=>H.store.inj c U x x' l l' (h _ _ e) (h _ _ R)⟩,H.next,H.yK,H.y0,H.c0,H.xI,H.qh,λc x l e=>H.own c x l (h _ _ e),H.zi,H.fix,H.nest.sub h⟩
theorem SW.update {T:Tab}{C:Ctx T}{w w' : World}{Y:Nat->Prop}{σ:Sg}{ps:List PV}{vs:List Value}{st:St}{n:Nat}(H:SW C w Y σ ps vs st n)
  {b:Nat} {x x' : mJ} {l:Loc} (hx:kR st b=some x) (I:σ b=some l) (hm:Y l.cb)
  (hos:w'.os=w.os) (g:w'.tape=w.tape) (hout:w'.output=w.output) (hsize:w'.heap.size=w.heap.size)
  (U:∀ k,k≠l.cb->w'.heap[k]?=w.heap[k]?) (hnar:∀ sz rows,x'≠.pU sz rows) (hnew:(∀ p v,Rep w Y σ p v->Rep w' Y σ p v)->jH w' Y σ l x'):SW C w' Y σ ps vs (rW st b (some x')) n:=by
 have K:Keep w w' Y Y σ σ:=⟨λk _ hk=>U k (λe=>hk (e ▸ hm)),λ_ _ h=>h,Nat.le_of_eq hsize.symm,qI.refl _⟩;have own:=H.own b x l hx I;refine⟨jo.keep _ K _ H.vals,⟨?_,?_⟩,H.next,λk hk=>by rw[hsize];exact H.yK k hk,H.y0,H.c0,H.xI,?_,?_,H.zi.keep K.none,H.fix,?_⟩
 intro c y h;rw[kC] at h
 by_cases R:b=c
 rw[if_pos R] at h;cases h;subst R;exact .inl ⟨l,I,hnew λp v hp=>Rep.keep p K v hp⟩
 rw[if_neg R] at h;rcases H.store.blk c y h with ⟨l',J,hb⟩|hn
 refine .inl ⟨l',J,jH.keep K (U _ λe=>R ?_) Iff.rfl hb⟩;exact (H.store.inj c b y x l' l h hx J I e).symm
 exact .inr hn
 intro c c' y y' l1 l2 h h' h1 h2 e
 have old:∀ d z,kR (rW st b (some x')) d=some z->∃ z',kR st d=some z':=by
  intro d z hd;rw[kC] at hd
  by_cases R:b=d
  subst R;exact⟨x,hx⟩
  rw[if_neg R] at hd;exact⟨z,hd⟩
 obtain⟨z,hz⟩:=old _ _ h;obtain⟨z',hz'⟩:=old _ _ h';exact H.store.inj c c' z z' l1 l2 hz hz' h1 h2 e
 refine⟨by rw[hos];exact H.qh.os,by rw[g];exact H.qh.tape,by rw[hout];exact H.qh.output,by rw[hsize];exact H.qh.size,λk hk hM=>?_⟩
 have hne:k≠l.cb:=λe=>by
  subst e;have h1:=H.away hx I;rcases H.xI _ hm hk with h2|h2
  exact h1 h2
  exact hM h2
 rw[U k hne];exact H.qh.block k hk hM
 intro c y l' h h1;rw[kC] at h
 by_cases R:b=c
 subst R;rw[I] at h1;cases h1;exact own
 rw[if_neg R] at h;exact H.own c y l' h h1
 have back:∀ {c r k h sz es},pY (rW st b (some x')) c r k h sz es->pY st c r k h sz es:=by
  rintro c r k h sz es ⟨sz0,rows,row,h1,h2⟩
  rw[kC] at h1
  by_cases R:b=c
  rw[if_pos R] at h1;exact absurd (Option.some.inj h1) (hnar _ _)
  rw[if_neg R] at h1;exact⟨sz0,rows,row,h1,h2⟩
 refine H.nest.keep K.none (λ_ _ _ _ _ _ k=>back k) (λc r k h sz es hk=>U _ (H.nest.sep _ _ _ _ _ _ _ _ _ (back hk) hx I).symm) (λc r k h sz es hk=>(H.nest.rep _ _ _ _ _ _ (back hk)).own) λc r k h sz es b' y l' hk hy J=>?_;rw[kC] at hy
 by_cases R:b=b'
 subst R;rw[I] at J;cases J;exact H.nest.sep _ _ _ _ _ _ _ _ _ (back hk) hx I
 rw[if_neg R] at hy;exact H.nest.sep _ _ _ _ _ _ _ _ _ (back hk) hy J
theorem SW.alloc {T:Tab}{C:Ctx T}{w:World}{Y:Nat->Prop}{σ:Sg}{ps:List PV}{vs:List Value}{st:St}{n id:Nat}(H:SW C w Y σ ps vs st n)(hid:σ id=none/\T.vY<=id)
  (arr:Array Value) (ty:TypeId) (l:Loc) (hcb:l.cb=w.heap.size) (x:mJ) (hnar:∀ sz rows,x=.pU sz rows->∀ (r:Nat) (row:List PV) (c:Nat) (h:Hdr) (sz' : Nat) (es:List (List PV)),rows[r]?=some row->row[c]?=some (PV.ow h sz' es)->es=[])
  (hx:∀ w' Y' σ',(∀ p v,Rep w Y σ p v->Rep w' Y' σ' p v)->Y' l.cb->w'.heap[l.cb]?=some (.cells arr ty (0,0))->(∀ p v,Rep w Y kX p v->Rep w' Y' kX p v)->jH w' Y' σ' l x) :
  ∃ Y' σ',SW C (w.alloc (.cells arr ty)) Y' σ' ps vs (rW st id (some x)) (max n (id+1))/\σ' id=some l/\qI σ σ'/\(∀ p v,Rep w Y σ p v->Rep (w.alloc (.cells arr ty)) Y' σ' p v)/\Off id σ σ':=by
 have hfree:=hid.1;have heap:(w.alloc (.cells arr ty)).heap=w.heap.push (.cells arr ty):=rfl;have hnew:(w.alloc (.cells arr ty)).heap[l.cb]?=some (.cells arr ty (0,0)):=by rw[heap,hcb];simp
 have hold:∀ k,k<w.heap.size->(w.alloc (.cells arr ty)).heap[k]?=w.heap[k]?:=by
  intro k hk;rw[heap,Array.getElem?_push,if_neg ai]
 let Y' : Nat->Prop:=λk=>Y k\/k=w.heap.size
 let σ' : Sg:=λb=>if b=id then some l else σ b
 have hsg:qI σ σ':=by
  intro b m h;show (if b=id then some l else σ b)=some m
  by_cases hb:b=id
  subst hb;rw[hfree] at h;cases h
  rw[if_neg hb];exact h
 have hsz:(w.alloc (.cells arr ty)).heap.size=w.heap.size+1:=by rw[heap];simp
 have K:Keep w (w.alloc (.cells arr ty)) Y Y' σ σ' :=
  ⟨λk hk _=>hold k hk,λk hk h=>h.resolve_right ai,by omega,hsg⟩
 refine⟨Y',σ',⟨jo.keep _ K _ H.vals,⟨?_,?_⟩,?_,?_,λk hk=>.inl (H.y0 k hk),H.c0,?_,?_,?_,H.zi.keep K.none,⟨by have:=H.fix.1;omega,λb hb=>by show (if b=id then some l else σ b)=_;rw[if_neg ai];exact H.fix.2 b hb⟩,?_⟩,by simp[σ'],hsg,λp v hp=>Rep.keep p K v hp,λb hb=>by show (if b=id then some l else σ b)=_;rw[if_neg hb]⟩
 intro c y h;rw[kC] at h
 by_cases R:id=c
 rw[if_pos R] at h;cases h;subst R;exact .inl ⟨l,by simp[σ'],hx _ Y' σ' (λp v hp=>Rep.keep p K v hp) (.inr hcb) hnew (λp v hp=>Rep.keep p K.none v hp)⟩
 rw[if_neg R] at h;have J : c≠id:=λe=>R e.symm;rcases H.store.blk c y h with ⟨l',U,hb⟩|⟨hn,hx'⟩
 have I:=hb.lt;exact .inl ⟨l',hsg _ _ U,jH.keep K (hold _ I) ⟨λh=>h.resolve_right ai,.inl⟩ hb⟩
 exact .inr ⟨by simp[σ',J,hn],hx'⟩
 intro c c' y y' l1 l2 h h' h1 h2 e;rw[kC] at h h'
 by_cases R:id=c<;>by_cases J : id=c'
 omega
 exfalso
 rw[if_neg J] at h';subst R;simp[σ'] at h1;subst h1;have g : σ c'=some l2:=by simpa [σ',show c'≠id from λe=>J e.symm] using h2
 rcases H.store.blk c' y' h' with ⟨l',U,hb⟩|⟨hn,_⟩
 rw[g] at U;cases U;have:=hb.lt;omega
 rw[g] at hn;cases hn
 exfalso
 rw[if_neg R] at h;subst J;simp[σ'] at h2;subst h2;have h1' : σ c=some l1:=by simpa [σ',show c≠id from λe=>R e.symm] using h1
 rcases H.store.blk c y h with ⟨l',U,hb⟩|⟨hn,_⟩
 rw[h1'] at U;cases U;have:=hb.lt;omega
 rw[h1'] at hn;cases hn
 rw[if_neg R] at h;rw[if_neg J] at h';have h1' : σ c=some l1:=by simpa [σ',show c≠id from λe=>R e.symm] using h1
 have g : σ c'=some l2:=by simpa [σ',show c'≠id from λe=>J e.symm] using h2
 exact H.store.inj c c' y y' l1 l2 h h' h1' g e
 intro b hb;show (if b=id then some l else σ b)=none;rw[if_neg ai];exact H.next b ai
 intro k hk;rcases hk with hk|hk
 have:=H.yK k hk;omega
 omega
 intro k hk I;rcases hk with hk|hk
 exact H.xI k hk I
 have:=H.qh.size;omega
 refine⟨H.qh.os,H.qh.tape,H.qh.output,by have:=H.qh.size;omega,λk hk hM=>?_⟩;rw[hold k (by have:=H.qh.size;omega)];exact H.qh.block k hk hM
 intro c y l' h h1;rw[kC] at h
 by_cases R:id=c
 subst R;simp[σ'] at h1;subst h1;rw[hcb];exact .inl H.qh.size
 rw[if_neg R] at h;exact H.own c y l' h (by simpa [σ',show c≠id from λe=>R e.symm] using h1)
 have back:∀ {c r k h sz es},pY (rW st id (some x)) c r k h sz es->pY st c r k h sz es:=by
  rintro c r k h sz es ⟨sz0,rows,row,h1,h2,h3⟩
  rw[kC] at h1
  by_cases R:id=c
  rw[if_pos R] at h1;exact absurd (hnar _ _ (Option.some.inj h1) _ _ _ _ _ _ h2 h3.1) h3.2
  rw[if_neg R] at h1;exact⟨sz0,rows,row,h1,h2,h3⟩
 refine H.nest.keep K.none (λ_ _ _ _ _ _ k=>back k) (λc r k h sz es hk=>hold _ (H.nest.rep _ _ _ _ _ _ (back hk)).lt) (λc r k h sz es hk=>.inl (H.nest.rep _ _ _ _ _ _ (back hk)).own) λc r k h sz es b' y l' hk hy U=>?_;have I:=(H.nest.rep _ _ _ _ _ _ (back hk)).lt;rw[kC] at hy
 by_cases R:id=b'
 subst R;simp[σ'] at U;subst U;omega
 rw[if_neg R] at hy;exact H.nest.sep _ _ _ _ _ _ _ _ _ (back hk) hy (by simpa [σ',show b'≠id from λe=>R e.symm] using U)
theorem SW.freeze {T:Tab}{C:Ctx T}{w:World}{Y:Nat->Prop}{σ:Sg}{ps:List PV}{vs:List Value}{st:St}{n:Nat}(H:SW C w Y σ ps vs st n){b:Nat}{x x' : mJ}
  (hx:kR st b=some x) (I : (∃ ro row,x=.var ro row/\x'=.var true row)\/(∃ ro sz rows,x=.arr ro sz rows/\x'=.arr true sz rows)) :
  ∃ Y',SW C w Y' σ ps vs (rW st b (some x')) n/\(∀ l,σ b=some l->¬ Y' l.cb)/\(∀ k,Y' k->Y k):=by
 let Y' : Nat->Prop:=λk=>Y k/\∀ l,σ b=some l->k≠l.cb;have K:Keep w w Y Y' σ σ:=⟨λ_ _ _=>rfl,λ_ _ h=>h.1,Nat.le_refl _,qI.refl _⟩;refine⟨Y',⟨jo.keep _ K _ H.vals,⟨?_,?_⟩,H.next,λk hk=>H.yK k hk.1,?_,H.c0,λk hk=>H.xI k hk.1,H.qh,?_,H.zi.keep K.none,H.fix,?_⟩,λl R h=>h.2 l R rfl,λ_ h=>h.1⟩
 intro c y h;rw[kC] at h
 by_cases U:b=c
 rw[if_pos U] at h;cases h;subst U;rcases H.store.blk b x hx with ⟨l,R,hb⟩|⟨hn,ro,sz,he⟩
 refine .inl ⟨l,R,?_⟩;rcases I with ⟨ro,row,rfl,rfl⟩|⟨ro,sz,rows,rfl,rfl⟩
 unfold jH at hb |-;exact⟨hb.1,hb.2.1,hb.2.2.1,lT.keep row K (λ_=>rfl) _ hb.2.2.2.1,λe=>(by cases e),λ_ h=>h.2 l R rfl⟩
 unfold jH at hb |-;exact⟨hb.1,hb.2.1,hb.2.2.1,hb.2.2.2.1,lV.keep rows K.none (λ_=>rfl) _ hb.2.2.2.2.1,λe=>(by cases e),λ_ h=>h.2 l R rfl⟩
 rcases I with ⟨ro',row,rfl,rfl⟩|⟨ro',sz',rows,rfl,rfl⟩
 cases he
 cases he;exact .inr ⟨hn,true,sz,rfl⟩
 rw[if_neg U] at h;rcases H.store.blk c y h with ⟨l',J,hb⟩|hn
 refine .inl ⟨l',J,jH.keep K rfl ⟨λh=>h.1,λh=>⟨h,λl R e=>U ?_⟩⟩ hb⟩;exact (H.store.inj c b y x l' l ‹_› hx J R e).symm
 exact .inr hn
 intro c c' y y' l1 l2 h h' h1 h2 e
 have old:∀ d z,kR (rW st b (some x')) d=some z->∃ z',kR st d=some z':=by
  intro d z hd;rw[kC] at hd
  by_cases U:b=d
  subst U;exact⟨x,hx⟩
  rw[if_neg U] at hd;exact⟨z,hd⟩
 obtain⟨z,hz⟩:=old _ _ h;obtain⟨z',hz'⟩:=old _ _ h';exact H.store.inj c c' z z' l1 l2 hz hz' h1 h2 e
 intro k hk;refine⟨H.y0 k hk,λl R e=>?_⟩;exact H.away hx R (e ▸ hk)
 intro c y l' h h1;rw[kC] at h
 by_cases U:b=c
 subst U;exact H.own b x l' hx h1
 rw[if_neg U] at h;exact H.own c y l' h h1
 have back:∀ {c r k h sz g},pY (rW st b (some x')) c r k h sz g->pY st c r k h sz g:=by
  rintro c r k h sz g ⟨sz0,rows,row,h1,h2⟩
  rw[kC] at h1
  by_cases U:b=c
  rw[if_pos U] at h1;rcases I with ⟨_,_,_,e⟩|⟨_,_,_,_,e⟩<;>(rw[e] at h1;cases h1)
  rw[if_neg U] at h1;exact⟨sz0,rows,row,h1,h2⟩
 refine H.nest.keep K.none (λ_ _ _ _ _ _ k=>back k) (λ_ _ _ _ _ _ _=>rfl) (λc r k h sz g hk=>⟨(H.nest.rep _ _ _ _ _ _ (back hk)).own,λl R e=>H.nest.sep _ _ _ _ _ _ _ _ _ (back hk) hx R e.symm⟩) λc r k h sz g b' y l' hk hy J=>?_;rw[kC] at hy
 by_cases U:b=b'
 subst U;exact H.nest.sep _ _ _ _ _ _ _ _ _ (back hk) hx J
 rw[if_neg U] at hy;exact H.nest.sep _ _ _ _ _ _ _ _ _ (back hk) hy J
end Go.Pv
namespace Go.Pv
open Go
def V6:Value->Bool
 | .agg _|.tuple _=>false
 | _=>true
theorem Xf {w:World}{Y:Nat->Prop}{σ:Sg}{p:PV}{v:Value}(U:xe p=true)(h:Rep w Y σ p v):V6 v=true:=by
 cases p<;>simp[xe] at U<;>unfold Rep at h
 case sl=>obtain⟨_,_,_,e,_⟩:=h;subst e;rfl
 case os =>
  rcases h with ⟨_,_,_,e,_⟩|⟨_,_,e⟩<;>subst e<;>rfl
 case lv=>obtain⟨_,_,e⟩:=h;subst e;rfl
 case lp=>obtain⟨_,_,e⟩:=h;subst e;rfl
 case pp=>obtain⟨_,_,e,_⟩:=h;subst e;rfl
 case fn=>obtain⟨_,e,_⟩:=h;subst e;rfl
 case ow=>rcases h with ⟨_,e,_⟩|⟨_,_,_,e⟩<;>subst e<;>rfl
 case bo=>rcases h with ⟨_,e,_⟩|⟨_,_,_,e⟩<;>subst e<;>rfl
 all_goals (subst h;rfl)
theorem Dt {v:Value}(h:V6 v=true):v.cells=#[v]:=by
 cases v<;>simp[V6] at h<;>rfl
theorem Ah {w:World}{Y:Nat->Prop}{σ:Sg}:∀ (ps:List PV) (vs:List Value),jR ps=true->jo w Y σ ps vs->∀ v∈vs,V6 v=true
 | [],vs,_,h=>by unfold jo at h;subst h;simp
 | p::ps,vs,ha,h=>by
  unfold jo at h;obtain⟨v,U,rfl,h1,h2⟩:=h;simp[jR] at ha;intro u hu;rcases List.mem_cons.1 hu with rfl|hu
  exact Xf ha.1 h1
  exact Ah ps U ha.2 h2 u hu
theorem Qj {w:World}{Y:Nat->Prop}{σ:Sg}{p:PV}{v:Value}(h:Rep w Y σ p v)(U:jR (nT p)=true) :
  ∃ vs:List Value,v.cells=vs.toArray/\jo w Y σ (nT p) vs/\∀ u∈vs,V6 u=true:=by
 cases p
 case agg cs =>
  simp only[nT] at U |-;unfold Rep at h;obtain⟨vs,e,hr⟩:=h;subst e;exact⟨vs,rfl,hr,Ah _ _ U hr⟩
 all_goals
  simp only[nT,jR,Bool.and_true] at U |-;have h1:=Xf U h;refine⟨[v],by rw[Dt h1],by unfold jo;exact⟨v,[],rfl,h,by simp[jo]⟩,by simp[h1]⟩
theorem af2 {P:Program}{w:World}{x:Addr}{v u:Value}(hv:V6 v=true)(U:w.cell? x=some u)(O:w.frozen? x=false) :
  (store x v).run P w=.ok () (w.setCell x v):=by
 unfold store;cases v<;>simp[V6] at hv<;>simp[Sem.run,U,O]
theorem YH {w:World}{b o:Nat}{arr:Array Value}{ty:TypeId}(h:w.heap[b]?=some (.cells arr ty (0,0)))(v:Value) :
  (w.setCell ⟨b,o,none⟩ v).heap[b]?=some (.cells (arr.setIfInBounds o v) ty (0,0)):=by
 simp[World.setCell,Array.getElem?_modify,h]
theorem cell_of_block {w:World}{b o:Nat}{arr:Array Value}{ty:TypeId}(h:w.heap[b]?=some (.cells arr ty (0,0))):w.cell? ⟨b,o,none⟩=arr[o]?:=by
 simp[World.cell?,h]
theorem V7 {w:World}{b o:Nat}{arr:Array Value}{ty:TypeId}(h:w.heap[b]?=some (.cells arr ty (0,0))):w.frozen? ⟨b,o,none⟩=false:=by
 simp[World.frozen?,h]
structure Wrote (w w' : World)(b o:Nat)(arr:Array Value)(ty:TypeId)(vs:List Value):Prop where
 os:w'.os=w.os
 tape:w'.tape=w.tape
 output:w'.output=w.output
 size:w'.heap.size=w.heap.size
 other:∀ k,k≠b->w'.heap[k]?=w.heap[k]?
 blk:∃ arr' : Array Value,w'.heap[b]?=some (.cells arr' ty (0,0))/\arr'.size=arr.size/\∀ j,arr'[j]?=if o<=j/\j<o+vs.length then vs[j-o]? else arr[j]?
theorem xN {P:Program}{b o:Nat}{ty:TypeId}:∀ (vs:List Value) (i:Nat) (w:World) (arr:Array Value),w.heap[b]?=some (.cells arr ty (0,0))->o+i+vs.length<=arr.size->(∀ v∈vs,V6 v=true) ->
  ∃ w',(storeCells ⟨b,o,none⟩ vs i).run P w=.ok () w'/\Wrote w w' b (o+i) arr ty vs
 | [],i,w,arr,h,_,_=>⟨w,by simp[storeCells],rfl,rfl,rfl,rfl,λ_ _=>rfl,arr,h,rfl,λj=>by simp;intro h1 h2;omega⟩
 | v::vs,i,w,arr,h,hle,hone=>by
  have T:o+i<arr.size:=by simp at hle;omega
  have hc:w.cell? ⟨b,o+i,none⟩=some arr[o+i]:=by rw[cell_of_block h];simp[T]
  have R:=af2 (P:=P) (hone v aI) hc (V7 h);obtain⟨w',hr,U⟩:=xN (P:=P) (o:=o) vs (i+1) (w.setCell ⟨b,o+i,none⟩ v) (arr.setIfInBounds (o+i) v) (YH h v) (by simp at hle |-;omega) (λu hu=>hone u (by simp[hu]));refine⟨w',?_,?_⟩
  simp only[storeCells,Sem.run_bind,addr_add,R,Result.andThen];exact hr
  obtain⟨J,h1,h2,C⟩:=U.blk;refine⟨U.os,U.tape,U.output,?_,λk hk=>?_,J,h1,by simpa using h2,λj=>?_⟩
  rw[U.size];simp[World.setCell]
  rw[U.other k hk];simp only[World.setCell,Array.getElem?_modify];rw[if_neg ai]
  rw[C j];simp only[List.length_cons]
  by_cases g:j=o+i
  subst g;rw[if_neg ai,if_pos ai];simp[T]
  by_cases I:o+(i+1)<=j/\j<o+(i+1)+vs.length
  rw[if_pos I,if_pos ai];rw[show j-(o+i)=(j-(o+(i+1)))+1 by omega];simp
  rw[if_neg I,if_neg ai];rw[Array.getElem?_setIfInBounds];rw[if_neg ai]
theorem xO:∀ (vs l:List PV) (c:Nat),(nS l c vs).length=l.length
 | [],l,c=>by cases l<;>simp[nS]
 | v::vs,[],c=>by simpa [nS,uX] using xO vs [] (c+1)
 | v::vs,x::l,c=>by rw[nS,xO vs,um];simp
theorem MK:∀ (vs l:List PV) (c j:Nat),c+vs.length<=l.length->(nS l c vs)[j]?=if c<=j/\j<c+vs.length then vs[j-c]? else l[j]?
 | [],l,c,j,_=>by
  have:nS l c []=l:=by cases l<;>simp[nS]
  rw[this];simp;intro h1 h2;omega
 | v::vs,[],c,j,h=>by simp at h
 | v::vs,x::l,c,j,h=>by
  rw[nS,MK vs _ (c+1) j (by rw[um];simp at h |-;omega),um];simp only[List.length_cons]
  by_cases T:j=c
  subst T;rw[if_neg ai,if_pos ai];simp at h;rw[List.getElem?_set];simp;omega
  by_cases U:c+1<=j/\j<c+1+vs.length
  rw[if_pos U,if_pos ai,show j-c=(j-(c+1))+1 by omega];simp
  rw[if_neg U,if_neg ai,List.getElem?_set_ne ai]
theorem lT.iff {w:World}{Y:Nat->Prop}{σ:Sg}{b:Nat}:∀ (ps:List PV) (o:Nat),lT w Y σ b ps o↔∀ i p,ps[i]?=some p->∃ v,w.cell? ⟨b,o+i,none⟩=some v/\Rep w Y σ p v
 | [],o=>by simp[lT]
 | q::ps,o=>by
  unfold lT;rw[lT.iff ps (o+1)];constructor
  rintro⟨h1,h2⟩ i p hi
  cases i with
  | zero=>simp at hi;subst hi;simpa using h1
  | succ i=>rw[show o+(i+1)=o+1+i by omega];exact h2 i p df
  intro h;refine⟨by simpa using h 0 q rfl,λi p hi=>?_⟩;rw[show o+1+i=o+(i+1) by omega];exact h (i+1) p df
theorem jo.get? {w:World}{Y:Nat->Prop}{σ:Sg}:∀ {ps:List PV} {vs:List Value} {i:Nat} {p:PV},jo w Y σ ps vs->ps[i]?=some p->∃ v,vs[i]?=some v/\Rep w Y σ p v
 | [],_,_,_,_,hi=>by simp at hi
 | q::ps,vs,0,p,h,hi=>by
  unfold jo at h;obtain⟨v,U,rfl,h1,_⟩:=h;simp at hi;subst hi;exact⟨v,rfl,h1⟩
 | q::ps,vs,i+1,p,h,hi=>by
  unfold jo at h;obtain⟨v,U,rfl,_,h2⟩:=h
  simpa using jo.get? h2 df
theorem Wrote.rep {w w' : World}{Y:Nat->Prop}{σ:Sg}{b o:Nat}{arr:Array Value}{ty:TypeId}{vs:List Value}{cs row:List PV}{c:Nat}(W:Wrote w w' b (o+c) arr ty vs)
  (hb:w.heap[b]?=some (.cells arr ty (0,0))) (U:lT w Y σ b row o) (T:jo w Y σ cs vs) (hle:c+cs.length<=row.length) (hk:∀ p v,Rep w Y σ p v->Rep w' Y σ p v):lT w' Y σ b (nS row c cs) o:=by
 obtain⟨J,h1,h2,I⟩:=W.blk;have C:=T.length;rw[lT.iff] at U |-;intro i p hi;rw[MK _ _ _ _ hle] at hi;rw[cell_of_block h1,I]
 by_cases R:c<=i/\i<c+cs.length
 rw[if_pos R] at hi;rw[if_pos ai];obtain⟨v,hv,hr⟩:=T.get? hi;exact⟨v,by rw[<- hv];congr 1;omega,hk _ _ hr⟩
 rw[if_neg R] at hi;rw[if_neg ai];obtain⟨v,hv,hr⟩:=U i p hi;rw[cell_of_block hb] at hv;exact⟨v,hv,hk _ _ hr⟩
theorem ML {P:Program}{w:World}{t:TypeId}{b o size:Nat}{v:Value}{vs:List Value}{arr:Array Value}{ty:TypeId}(U:P.info? t≠none)(hsize:size=P.cellsOf t)
  (hv:v.cells=vs.toArray) (hlen:vs.length=size) (hb:w.heap[b]?=some (.cells arr ty (0,0))) (hle:o+vs.length<=arr.size) (T:∀ u∈vs,V6 u=true) :
  ∃ w',(storeVar t ⟨b,o,none⟩ v).run P w=.ok () w'/\Wrote w w' b o arr ty vs:=by
 obtain⟨w',hr,R⟩:=xN (P:=P) (o:=o) vs 0 w arr hb (by simpa using hle) T;refine⟨w',?_,by simpa using R⟩;simp only[storeVar,Sem.run_bind,run_sizeOf U,Result.andThen];rw[if_neg (by rw[hv];simp;omega)];simp only[hv];exact hr
section
variable {P:Program}{T:Tab}(hT:lW P T){C:Ctx T}{o:Oper}{a:Act}{w:World}{Y:Nat->Prop}{σ:Sg}{ps:List PV}{st:St}{n id:Nat}{K:PV->Dl->Prop}{lk:Nat->Option mJ}
 (H:SW C w Y σ ps a.tmps.toList st n) (hlk:∀ b x,lk b=some x->kR st b=some x) (hid:σ id=none/\T.vY<=id)
theorem aaz {vs:List Value}(H:SW C w Y σ ps vs st n){t:TypeId}{b c size:Nat}{l:Loc}{row:List PV}{p:PV}{v:Value}{K:List PV->Prop}
  (T:P.info? t≠none) (hsize:size=P.cellsOf t) (R:kR st b=some (.var false row)) (hl:σ b=some l) (hv:Rep w Y σ p v) (h:qo size row c p K) :
  ∃ U w',K U/\(storeVar t ⟨l.cb,l.co+c,none⟩ v).run P w=.ok () w'/\SW C w' Y σ ps vs (rW st b (some (.var false U))) n:=by
 unfold qo at h
 cases hb:(jR (nT p)&&Nat.beq (pX (nT p)) size&&Nat.ble (c+pX (nT p)) (pX row)) with
 | false=>rw[hb] at h;exact h.elim
 | true =>
  rw[hb] at h;simp only[Bool.and_eq_true,pg] at hb;obtain⟨⟨h1,h2⟩,h3⟩:=hb;have h2:=Nat.eq_of_beq_eq_true h2;have h3:=Nat.le_of_ble_eq_true h3;obtain⟨vs',hvs,hr,g⟩:=Qj hv h1;have hlen:=hr.length
  have hB:jH w Y σ l (.var false row):=by
   rcases H.store.blk b _ R with ⟨l',I,hB⟩|⟨hn,_⟩
   rw[hl] at I;cases I;exact hB
   rw[hl] at hn;cases hn
  unfold jH at hB;obtain⟨⟨arr,ty,ha,has⟩,hsz,hle,hrow,hm,hr0⟩:=hB;obtain⟨w',J,W⟩:=ML (P:=P) (o:=l.co+c) T hsize hvs ai ha ai g;refine⟨_,w',h,J,SW.update H R hl (hm rfl) W.os W.tape W.output W.size W.other (λ_ _ e=>by cases e) λhk=>?_⟩;obtain⟨arr',h4,h5,h6⟩:=W.blk;unfold jH;exact⟨⟨arr',ty,h4,by omega⟩,by rw[xO];exact hsz,by rw[xO];exact hle,W.rep ha hrow hr ai hk,hm,hr0⟩
end
end Go.Pv
