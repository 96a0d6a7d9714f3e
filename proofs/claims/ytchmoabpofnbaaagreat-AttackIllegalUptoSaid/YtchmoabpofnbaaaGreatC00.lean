import Derived.Orders
import Derived.Tactics
import Derived.Calls
import Derived.Below
import Derived.CallsIn
import Derived.WalkKit
set_option linter.all false
namespace Go.Pv
theorem ae{p:Prop}(h:p:=by(try simp only[List.length_append,List.length_cons,List.length_nil,List.length_set,List.length_replicate,oz]);omega):p:=h
theorem af{p:Prop}(h:p:=by intro hh;first|(cases hh;done)|omega|(have hh2:=of_decide_eq_false hh;(try simp only[gJ] at hh2);omega)|(simp at hh;(try simp only[gJ] at hh);omega)):p:=h
theorem ah{p:Prop}(h:p:=by omega):p:=h
theorem ai{p:Prop}(h:p:=by(try simp only[q1]);(try simp only[q2,eO,q]);try first|rfl|simp[Ap,eI,eB,eL,eS,q]):p:=h
theorem aj{p:Prop}(h:p:=by(try simp only[q]);repeat' constructor):p:=h
theorem ak{p:Prop}(h:p:=by show _<18446744073709551616;(try simp only[List.length_append,List.length_cons,List.length_nil]);omega):p:=h
theorem au{p:Prop}(h:p:=by first|assumption|(refine⟨by omega,?_⟩;first|(intro _ _;trivial)|assumption)|(unfold lF;simp_all[IW,su])):p:=h
theorem ax{p:Prop}(h:p:=by first|assumption|(refine⟨by omega,?_⟩;first|(intro _ _;trivial)|assumption)):p:=h
theorem ay{p:Prop}(h:p:=by first|assumption|(refine⟨by omega,?_⟩;first|(intro _ _;trivial)|assumption)|(unfold mD;simp_all[IW,su])):p:=h
theorem az{p:Prop}(h:p:=by first|assumption|(show _<=1048576;(try simp only[oz,List.length_cons,List.length_nil]);omega)):p:=h
theorem aA{p:Prop}(h:p:=by first|omega|(dsimp only;omega)):p:=h
theorem aB{p:Prop}(h:p:=by(try simp only[q]);repeat' first|constructor|exact ais rfl rfl (by have lbx13:=bx13.le;have tbx13:=bx13.lt;have lbx15:=bx15.le;have tbx15:=bx15.lt;clear O bx13 bx15;cases x13;cases x15;simp only[Um,aaJ,List.length_append,List.length_take,List.length_drop,List.length_replicate] at *;omega)):p:=h
theorem aC{p:Prop}(h:p:=by simp):p:=h
theorem aF{p:Prop}(h:p:=by simp only;omega):p:=h
theorem aG{p:Prop}(h:p:=by have lbx13:=bx13.le;have tbx13:=bx13.lt;have lbx15:=bx15.le;have tbx15:=bx15.lt;clear O bx13 bx15;cases x13;cases x15;simp only[Um,aaJ,List.length_append,List.length_take,List.length_drop,List.length_replicate] at *;omega):p:=h
theorem aH{p:Prop}(h:p:=by simp[oz]):p:=h
theorem aI{p:Prop}(h:p:=by kernel_rfl):p:=h
theorem aJ{p:Prop}(h:p:=by(conv=>lhs;cbv)<;>(try simp only[q1])<;>(try simp only[q2,eO,q])<;>(try rfl)):p:=h
theorem aK{p:Prop}(h:p:=by simp only[List.length_cons,List.length_nil];omega):p:=h
theorem aN{p:Prop}(h:p:=by first|omega|(simp[oz];done)):p:=h
theorem aO{p:Prop}(h:p:=by unfold jR;exact xg (by first|omega|(dsimp only;omega)) (by first|omega|(dsimp only;omega))):p:=h
theorem aP{p:Prop}(h:p:=by first|assumption|(refine⟨by omega,?_⟩;first|(intro _ _;trivial)|assumption)|(unfold lT;simp_all[IW,su])):p:=h
theorem aQ{p:Prop}(h:p:=by first|assumption|(refine⟨by omega,?_⟩;first|(intro _ _;trivial)|assumption)|(unfold Aq;simp_all[IW,su])):p:=h
theorem aS{p:Prop}(h:p:=by show ¬ (l.length:Int)<(l.length:Int);omega):p:=h
theorem aT{p:Prop}(h:p:=by simp only[oz,List.length_cons,List.length_nil];omega):p:=h
theorem aU{p:Prop}(h:p:=by show ¬ (s.objects.length:Int)<(s.objects.length:Int);omega):p:=h
theorem aV{p:Prop}(h:p:=by simp only[oz,List.length_cons,List.length_nil] at hx;omega):p:=h
theorem aW{p:Prop}(h:p:=by(try simp only[q1])<;>(try simp only[q2,eO,q]);repeat' constructor):p:=h
theorem aX{p:Prop}(h:p:=by first|(subst_vars;assumption)|(subst_vars;omega)|simp):p:=h
theorem aY{p:Prop}(h:p:=by(try simp only[gJ]);omega):p:=h
theorem aZ{p:Prop}(h:p:=by show t.length+1<=_;omega):p:=h
theorem bf{p:Prop}(h:p:=by show(2*(t.length+1)+192)*8<=_;omega):p:=h
theorem bg{p:Prop}(h:p:=by simp;omega):p:=h
theorem bn{p:Prop}(h:p:=by first|assumption|(refine⟨by omega,?_⟩;first|(intro _ _;trivial)|assumption)|(unfold zL;simp_all[IW,su])):p:=h
theorem bu{p:Prop}(h:p:=by first|assumption|(refine⟨by omega,?_⟩;first|(intro _ _;trivial)|assumption)|(unfold oP;simp_all[IW,su])):p:=h
theorem bz{p:Prop}(h:p:=by unfold slices_Clone_string;exact xg (by first|omega|(dsimp only;omega)) (by first|omega|(dsimp only;omega))):p:=h
theorem bC{p:Prop}(h:p:=by refine⟨by simp,by omega,?_⟩;simp[oz]):p:=h
theorem bD{p:Prop}(h:p:=by first|assumption|(refine⟨by omega,?_⟩;first|(intro _ _;trivial)|assumption)|(unfold xh;simp_all[IW,su])):p:=h
theorem bF{p:Prop}(h:p:=by unfold oC;exact xg (by first|omega|(dsimp only;omega)) (by first|omega|(dsimp only;omega))):p:=h
theorem bG{p:Prop}(h:p:=by unfold Rep at h1 |-;exact h1):p:=h
theorem bH{p:Prop}(h:p:=by simp only[Op.operands,Call.operands];simp;exact .inr (by simpa using hx)):p:=h
theorem bI{p:Prop}(h:p:=by simp only;rw[lG (by omega)];simp only[Int.toNat_natCast];omega):p:=h
theorem bJ{p:Prop}(h:p:=by decide):p:=h
theorem bK{p:Prop}(h:p:=by simp only[Int.toNat_natCast];omega):p:=h
theorem bM{p:Prop}(h:p:=by unfold Rep at h1 |-;obtain⟨ws,e,hr⟩:=h1;exact⟨ws,e,by unfold gI at hr |-;exact hr⟩):p:=h
theorem bP{p:Prop}(h:p:=by unfold qc;exact xg (by first|omega|(dsimp only;omega)) (by first|omega|(dsimp only;omega))):p:=h
theorem bQ{p:Prop}(h:p:=by first|assumption|(refine⟨by omega,?_⟩;first|(intro _ _;trivial)|assumption)|(unfold pq;simp_all[IW,su])):p:=h
theorem bT{p:Prop}(h:p:=by rw[List.getElem?_append_right (by omega)];simpa using hv):p:=h
theorem bU{p:Prop}(h:p:=by simp[Rep]):p:=h
theorem bV{p:Prop}(h:p:=by(conv=>lhs;cbv)<;>(try simp only[q])<;>(try rfl)):p:=h
theorem bW{p:Prop}(h:p:=by simpa using h):p:=h
theorem bY{p:Prop}(h:p:=by simp only[Op.operands,List.mem_toArray,List.mem_map];exact⟨x,hx,rfl⟩):p:=h
theorem bZ{p:Prop}(h:p:=by first|assumption|exact SW.sz (by assumption)):p:=h
theorem cu{p:Prop}(h:p:=by simpa using hi):p:=h
theorem dh{p:Prop}(h:p:=by show ¬ (a.kR.length:Int)<(a.kR.length:Int);omega):p:=h
theorem di{p:Prop}(h:p:=by simp[jc]):p:=h
theorem dm{p:Prop}(h:p:=by simpa using hr):p:=h
theorem dn{p:Prop}(h:p:=by simpa using hoj):p:=h
theorem dw{p:Prop}(h:p:=by cases e):p:=h
theorem dA{p:Prop}(h:p:=by assumption):p:=h
theorem dB{p:Prop}(h:p:=by show ¬ (left.length:Int)<(left.length:Int);omega):p:=h
theorem dC{p:Prop}(h:p:=by simp only[jJ,uH];exact H'):p:=h
theorem dD{p:Prop}(h:p:=by simpa using hj):p:=h
theorem dF{p:Prop}(h:p:=by rw[W.don];exact hn):p:=h
theorem dG{p:Prop}(h:p:=by show ¬ (ms.length:Int)<(ms.length:Int);omega):p:=h
theorem dH{p:Prop}(h:p:=by simp[Op.operands,Call.operands]):p:=h
theorem dI{p:Prop}(h:p:=by simp[lK,hu]):p:=h
theorem dJ{p:Prop}(h:p:=by rw[XA];exact Nat.le_of_not_lt ht):p:=h
theorem dK{p:Prop}(h:p:=by rw[hvs2.1];rw[Nat.add_mul] at hbnd;omega):p:=h
theorem dL{p:Prop}(h:p:=by show ¬ (s.length:Int)<(s.length:Int);omega):p:=h
theorem dM{p:Prop}(h:p:=by simp[h]):p:=h
theorem dN{p:Prop}(h:p:=by simp[oO] at h):p:=h
theorem dO{p:Prop}(h:p:=by simp[Rep,iW.jI]):p:=h
theorem dP{p:Prop}(h:p:=by show ¬ (c.gU.length:Int)<(c.gU.length:Int);omega):p:=h
theorem dQ{p:Prop}(h:p:=by unfold jR;exact xg (by omega) (by omega)):p:=h
theorem dR{p:Prop}(h:p:=by simp only[q];try first|rfl|simp[Ap,eI,eB,eL,eS,q]):p:=h
theorem dS{p:Prop}(h:p:=by show n-_<18446744073709551616;omega):p:=h
theorem dU{p:Prop}(h:p:=by intro e;cases e):p:=h
theorem dV{p:Prop}(h:p:=by simp[Rep];rfl):p:=h
theorem dX{p:Prop}(h:p:=by simp[uH];omega):p:=h
theorem dY{p:Prop}(h:p:=by show ¬ (s.kW.length:Int)<(s.kW.length:Int);omega):p:=h
theorem dZ{p:Prop}(h:p:=by rw[run (acZ hu hinf g1 g2 g3 (by omega))];rfl):p:=h
theorem eF{p:Prop}(h:p:=by unfold gI;exact⟨_,_,rfl,hrep,by unfold gI;rfl⟩):p:=h
theorem eG{p:Prop}(h:p:=by show ¬ (f.mr.length:Int)<(f.mr.length:Int);omega):p:=h
theorem eH{p:Prop}(h:p:=by simp[Op.operands]):p:=h
theorem eP{p:Prop}(h:p:=by simpa using h1):p:=h
theorem eQ{p:Prop}(h:p:=by simpa using h2):p:=h
theorem eU{p:Prop}(h:p:=by rwa [show i+(k+1)=i+1+k by omega]):p:=h
theorem eX{p:Prop}(h:p:=by rw[iQ,if_pos rfl]):p:=h
theorem eY{p:Prop}(h:p:=by rw[d1];rcases c2 with c2|c2<;>rw[c2]<;>rfl):p:=h
theorem fA{p:Prop}(h:p:=by rw[hl];simp):p:=h
theorem fB{p:Prop}(h:p:=by rw[ho];exact h):p:=h
theorem fC{p:Prop}(h:p:=by rw[ho];intro c hc;cases hc):p:=h
theorem fD{p:Prop}(h:p:=by subst hy;simp[Op.operands]):p:=h
theorem fE{p:Prop}(h:p:=by simpa using hx):p:=h
theorem fF{p:Prop}(h:p:=by simpa using hk):p:=h
theorem fG{p:Prop}(h:p:=by rw[hbe] at g1;exact g1):p:=h
theorem fH{p:Prop}(h:p:=by simp[isQ] at hq):p:=h
theorem fJ{p:Prop}(h:p:=by exact hk4 _ trivial):p:=h
theorem fK{p:Prop}(h:p:=by exact⟨Y,σ,H,K0⟩):p:=h
theorem fM{p:Prop}(h:p:=by intro O;cbv;cases O):p:=h
theorem fO{p:Prop}(h:p:=by intro O;cbv;cases O;exact hR _ _ _ ji ji rfl):p:=h
theorem fP{p:Prop}(h:p:=by simp only[KI] at h |-;exact⟨_,_,h.2,λ_ hk=>⟨h.1,hk⟩⟩):p:=h
theorem fQ{p:Prop}(h:p:=by simp only[KI] at h |-;obtain⟨h0,j,h1,h2,h⟩:=h;exact⟨_,_,h,λ_ hk=>⟨h0,j,h1,h2,hk⟩⟩):p:=h
theorem fU{p:Prop}(h:p:=by simp only[iW.jI] at h |-;obtain⟨row,h0,h⟩:=h;obtain⟨v,h1,h2⟩:=xk h;exact⟨v,_,h1,λ_ hk=>⟨row,h0,h2 _ hk⟩⟩):p:=h
theorem fV{p:Prop}(h:p:=by exact gu (xQ _ _ _ _ _ hp O) λ_ _=>gz (λ_=>jH bf aZ (h5 _ bg)) λ_=>h5 _ (by show t.length<=i+1;omega)):p:=h
end Go.Pv
namespace Go.Pv
open Go
structure Hdr where
 ν:Nat
 o:Nat
 cap:Nat
inductive PV where
 | bool (b:Bool)
 | sb (b:Bool)
 | int (k:IntKind) (n:Int)
 | si (k:IntKind) (n:Int)
 | str (s:ByteArray)
 | agg (cs:List PV)
 | DJ (vs:List PV)
 | sl (sz:Nat) (es:List (List PV)) (full:Bool)
 | os (b r n:Nat)
 | lv (b c:Nat)
 | lp (b r c:Nat)
 | pp (cs:List PV)
 | ow (h:Hdr) (sz:Nat) (es:List (List PV))
 | bo (b r c:Nat) (h:Hdr) (sz n:Nat)
 | np (b r c:Nat) (h:Hdr) (sz j k:Nat)
 | GU
 | fn (f:Nat) (caps:List PV)
 | Un
 | mp (b:Nat)
 | yl (l:Nat)
 | hc
 | top
 | undef
 deriving Inhabited
inductive mO where
 | var (ro:Bool) (row:List PV)
 | arr (ro:Bool) (sz:Nat) (rows:List (List PV))
 | mg (sz:Nat) (rows:List (List PV))
 | map (rows:List (List PV))
 | nor (sz:Nat) (rows:List (List PV)) (r:Nat) (row:List PV)
abbrev St:=List (Nat×Option mO)
structure Env where
 tmps:List PV
 st:St
 next:Nat
structure iW where
 bin:BinOp->IntKind->Int->Int->Int
 cmp:BinOp->Int->Int->Bool
 conv:IntKind->Int->Int
 neg:IntKind->Int->Int
 beq:Bool->Bool->Bool
 band:Bool->Bool->Bool
 afY:BinOp->ByteArray->ByteArray->Bool
 slen:ByteArray->Int
 ahf:Int->Int->Int
 ahg:Int->Int->Int
 len:List (List PV)->Int
 yO:Nat->Int
 NJ:Nat->Nat->Nat
 Zh:Nat->Nat->Nat
 app:List (List PV)->List (List PV)->List (List PV)
 sub:List (List PV)->Nat->Nat->List (List PV)
 spl:List (List PV)->Nat->List (List PV)->List (List PV)
 Oc:List (List PV)->Nat->List PV->List (List PV)
 rep:Nat->List PV->List (List PV)
 gZ:List (List PV)->Nat
 br:Bool->(Unit->Prop)->(Unit->Prop)->Prop
 rng:Operand->Array Tmp->Code->Code->(Env->Prop)->Env->Prop
 ahh:Code->Code->Array Tmp->Nat->Nat->Nat->Nat->List Nat->List PV->St->Env->(Env->Prop)->Prop
 yld:Nat->List PV->Env->List Nat->List PV->St->(PV->Env->Prop)->Prop
 call:Nat->List PV->Env->Option (List PV)->Option (List PV)->List Nat->List PV->St->(PV->Env->Prop)->Prop
 Uo:Nat->List PV->(PV->Prop)->Prop
 Sl:Nat->List PV->List PV->List PV->Env->(PV->Env->Prop)->Prop
 Wp:Nat->List PV->(PV->Prop)->Prop
 adX:Nat->List PV->(PV->mO->Prop)->Prop
 Zi:Nat->List PV->St->List Nat->(PV->St->Nat->Prop)->Prop
 loop:Code->(Nat->Env->Prop)->Env->Prop
 seq:Nat->Env->((Nat->Env->Prop)->Prop)->(Env->Prop)->(Nat->Env->Prop)->Prop
 idx:List (List PV)->Int->(List PV->Prop)->Prop
 ix:Nat->Int->(Nat->Prop)->Prop
 row:List (List PV)->Nat->(List PV->Prop)->Prop
 adY:ByteArray->Int->(Int->Prop)->Prop
 div:BinOp->IntKind->Int->Int->(Int->Prop)->Prop
 shf:BinOp->IntKind->Int->Int->(Int->Prop)->Prop
 adZ:ByteArray->ByteArray->(ByteArray->Prop)->Prop
 mks:Int->Int->Nat->(Nat->Prop)->Prop
 room:Nat->Nat->Prop->Prop
 slc:Nat->Int->Int->(Nat->Nat->Prop)->Prop
 aaK:ByteArray->Int->Int->(ByteArray->Prop)->Prop
 Ur:List (List PV)->(Bool->Prop)->Prop
 toS:Nat->List (List PV)->(ByteArray->Prop)->Prop
 toB:Nat->ByteArray->(List (List PV)->Prop)->Prop
 wk:List PV->(List PV->Prop)->Prop
 order:Array Oper->Prop->Prop
 last:Array Oper->Prop->Prop
 ac0:Array Oper->List (List Nat×List Nat×List Nat)->Prop->Prop
 nu:(Hdr->Prop)->Prop
 same:Hdr->Hdr->Prop->Prop
 fz:List (List PV)->List (List PV)
 ahi:List (List PV)->Int->List PV->(List PV->Bool->Prop)->Prop
 afZ:List (List PV)->Int->List PV->List (List PV)
def jD:List PV->Nat->PV
 | [],_=>.undef
 | x::_,0=>x
 | _::l,n+1=>jD l n
def nY:List PV->Nat->PV->List PV
 | [],_,_=>[]
 | _::l,0,v=>v::l
 | x::l,n+1,v=>x::nY l n v
def oG:List PV->Nat
 | []=>0
 | _::l=>oG l+1
def Sm:Nat->List PV->List PV
 | 0,_=>[]
 | _+1,[]=>[]
 | n+1,x::l=>x::Sm n l
def FP:Nat->List PV->List PV
 | 0,l=>l
 | _+1,[]=>[]
 | n+1,_::l=>FP n l
def vk:List PV->List PV->List PV
 | [],m=>m
 | x::l,m=>x::vk l m
def mP:List PV->Nat->List PV->List PV
 | l,_,[]=>l
 | l,c,v::vs=>mP (nY l c v) (c+1) vs
def chunks (sz:Nat):Nat->List PV->List (List PV)
 | 0,_=>[]
 | n+1,l=>Sm sz l::chunks sz n (FP sz l)
def jk:St->Nat->Option mO
 | [],_=>none
 | (b,x)::l,c=>bif Nat.beq b c then x else jk l c
def oH:St->Nat->Option mO->St
 | [],b,x=>[(b,x)]
 | (b',y)::l,b,x=>bif Nat.beq b' b then(b',x)::l else(b',y)::oH l b x
def jJ:List (Nat×Option mO)->St->St
 | [],s=>s
 | (b,x)::d,s=>jJ d (oH s b x)
def Jw:Value->PV
 | .bool b=>.bool b
 | .int k n=>.int k n
 | .string s=>.str s
 | .pointer none=>.GU
 | .slice none 0 0=>.sl 0 [] true
 | .nilFunc=>.Un
 | _=>.top
def EK:List Value->List PV
 | []=>[]
 | v::vs=>Jw v::EK vs
def Wq:Value->PV
 | .agg cs=>.agg (EK cs.toList)
 | v=>Jw v
def mQ:PV->List PV
 | .agg cs=>cs
 | v=>[v]
def tu:PV->Bool
 | .agg _|.DJ _|.top|.undef=>false
 | _=>true
def iT:List PV->Bool
 | []=>true
 | v::vs=>tu v&&iT vs
def qj (E:Env):Option Nat->PV->Env
 | none,_=>E
 | some d,v=>{ E with tmps:=nY E.tmps d v }
def lK (P:Program)(t:TypeId):Bool :=
 match P.underlying t with
 | some (.struct _)|some (.array ..)=>true
 | _=>false
structure FI where
 off:Nat
 size:Nat
 agg:Bool
inductive TK where
 | oth
 | str
 | ptr
 | int (k:IntKind)
 | struct (fs:List FI)
 | arr (n sz:Nat) (agg:Bool)
 | slice (sz bytes:Nat) (zero:Option (List PV))
 | map (sz:Nat) (zero:List PV)
structure TI where
 ok:Bool
 agg:Bool
 size:Nat
 zero:Option (List PV)
 plain:Option (List Nat)
 kind:TK
def TI.bad:TI:={ ok:=false,agg:=false,size:=0,zero:=none,plain:=none,kind:=.oth }
structure Tab where
 ti:TypeId->TI
 gl:Nat->Option (List PV)
 qf:Nat
 cut:List Nat
 mg:Nat
 own:List (List (Nat×Bool))
 dcl:List (Nat×Nat)
 yl:Option (Nat×Loop×Value)
 hid:Nat->List (Nat×Nat)
instance:CoeFun Tab (λ_=>TypeId->TI):=⟨Tab.ti⟩
def sD (T:Tab)(tmps:List PV):Operand->PV
 | .tmp t=>jD tmps t
 | .const v=>Wq v
 | .func f=>.fn f []
 | .global g=>match T.gl g with|some cs=>.pp cs|none=>.top
def evO (T:Tab)(tmps:List PV):Option Operand->Option PV
 | none=>none
 | some x=>some (sD T tmps x)
def evA (T:Tab)(tmps:List PV):List Operand->List PV
 | []=>[]
 | x::l=>sD T tmps x::evA T tmps l
def lX:Nat->Bool
 | 0=>false
 | _+1=>true
def DK:PV->Option (IntKind×Int)
 | .int k n|.si k n=>some (k,n)
 | _=>none
def Ws:PV->Option Bool
 | .bool b|.sb b=>some b
 | _=>none
def EL:BinOp->Bool
 | .add|.sub|.mul|.and|.or|.xor|.andNot=>true
 | _=>false
def IX:BinOp->Bool
 | .eql|.neq|.lss|.leq|.gtr|.geq=>true
 | _=>false
def nC (op:BinOp)(k:IntKind)(a b:Int):Int :=
 match op with
 | .add=>k.wrap (a+b)
 | .sub=>k.wrap (a-b)
 | .mul=>k.wrap (a*b)
 | .and=>k.wrap ((BitVec.ofInt k.bits a &&& BitVec.ofInt k.bits b).toNat)
 | .or=>k.wrap ((BitVec.ofInt k.bits a ||| BitVec.ofInt k.bits b).toNat)
 | .xor=>k.wrap ((BitVec.ofInt k.bits a ^^^ BitVec.ofInt k.bits b).toNat)
 | .andNot=>k.wrap ((BitVec.ofInt k.bits a &&& ~~~(BitVec.ofInt k.bits b)).toNat)
 | _=>0
def Ap (op:BinOp)(a b:Int):Bool :=
 match op with
 | .eql=>decide (a=b)
 | .neq=>!decide (a=b)
 | .lss=>decide (a<b)
 | .leq=>decide (a<=b)
 | .gtr=>decide (b<a)
 | .geq=>decide (b<=a)
 | _=>false
def jc (op:BinOp)(a b:ByteArray):Bool :=
 match op with
 | .eql=>decide (a=b)
 | .neq=>!decide (a=b)
 | .lss=>Op.bytesLess a.toList b.toList
 | .leq=>Op.bytesLess a.toList b.toList || decide (a=b)
 | .gtr=>!(Op.bytesLess a.toList b.toList || decide (a=b))
 | .geq=>!Op.bytesLess a.toList b.toList
 | _=>false
def tC:IntKind->IntKind->Bool
 | .i8,.i8|.i16,.i16|.i32,.i32|.i64,.i64|.u8,.u8|.u16,.u16|.u32,.u32|.u64,.u64=>true
 | _,_=>false
def eqC (S:iW):Nat->PV->PV->Option Bool
 | 0,x,y=>match DK x,DK y with
  | some (k,a),some (k',b)=>bif tC k k' then some (S.cmp .eql a b) else none
  | _,_=>none
 | 1,x,y=>match Ws x,Ws y with
  | some a,some b=>some (S.beq a b)
  | _,_=>none
 | 2,.str a,.str b=>some (S.afY .eql a b)
 | _,_,_=>none
def aaL (S:iW):List Nat->List PV->List PV->Option Bool
 | [],[],[]=>some true
 | k::ks,x::xs,y::ys=>
  match eqC S k x y with
  | none=>none
  | some a=>match aaL S ks xs ys with
   | none=>none
   | some b=>some (S.band a b)
 | _,_,_=>none
def Zj:Nat->List Nat->List Nat
 | 0,_=>[]
 | n+1,l=>l++Zj n l
def MM (P:Program)(rec:TypeId->Option (List Nat)):List Field->Nat->Option (List Nat)
 | [],_=>some []
 | f :: fs, n=> if f.offset = n ∧ f.name ≠ "_" ∧ P.info? f.type ≠ none then
   match rec f.type with
   | some s=>if P.cellsOf f.type=s.length/\0<s.length then
     match MM P rec fs (n+s.length) with
     | some r=>some (s++r)
     | none=>none
    else none
   | none=>none
  else none
def xm (P:Program):Nat->TypeId->Option (List Nat)
 | 0,_=>none
 | d+1,t=>
  match P.underlying t with
  | some .bool=>some [1]
  | some (.int _)=>some [0]
  | some .string=>some [2]
  | some (.struct fs)=>if P.stoodInHeld t then none else MM P (xm P d) fs.toList 0
  | some (.array n e)=>match xm P d e with
   | some s=>if P.cellsOf e=s.length/\P.info? e≠none then some (Zj n s) else none
   | none=>none
  | _=>none
def isSpec:BinOp->Bool
 | .shl|.shr|.quo|.rem=>true
 | _=>false
def NL:BinOp->Bool
 | .eql=>true
 | _=>false
def NM:BinOp->Bool
 | .neq=>true
 | _=>false
def isAdd:BinOp->Bool
 | .add=>true
 | _=>false
def VN (S:iW)(op:BinOp)(k:IntKind)(a:Int)(k' : IntKind)(b:Int)(K:PV->Prop):Prop :=
 match op with
 | .shl|.shr=>S.shf op k a b λn=>K (.si k n)
 | .quo|.rem=>bif tC k k' then S.div op k a b λn=>K (.si k n) else False
 | _=>False
def KO:PV->Bool
 | .lv _ _|.lp _ _ _|.pp _|.np _ _ _ _ _ _ _=>true
 | _=>false
def Ar:PV->Bool
 | .GU=>true
 | _=>false
def eqK (S:iW)(op:BinOp)(b:Bool)(K:PV->Prop):Prop := bif NL op then K (.sb b) else bif NM op then K (.sb (S.beq b false)) else False
def eqL (op:BinOp)(b:Bool)(K:PV->Prop):Prop := bif NL op then K (.bool b) else bif NM op then(match b with|true=>K (.bool false)|false=>K (.bool true)) else False
def ad1 (T:Tab)(S:iW)(op:BinOp)(t:TypeId)(x y:PV)(K:PV->Prop):Prop :=
 match x,y with
 | .int k a,.int k' b=>
  bif isSpec op then VN S op k a k' b K
  else bif tC k k' then(bif EL op then K (.int k (nC op k a b)) else bif IX op then K (.bool (Ap op a b)) else False) else False
 | .str a,.str b=>
  bif isAdd op then S.adZ a b λc=>K (.str c)
  else bif IX op then K (.sb (S.afY op a b)) else False
 | .agg xs,.agg ys=>
  match T t with
  | { ok:=true,agg:=true,plain:=some ks,.. }=>(match aaL S ks xs ys with
   | some b=>eqK S op b K
   | _=>False)
  | _=>False
 | x,y=>
  match DK x,DK y with
  | some (k,a),some (k',b)=>
   bif isSpec op then VN S op k a k' b K
   else bif tC k k' then(bif EL op then K (.si k (S.bin op k a b)) else bif IX op then K (.sb (S.cmp op a b)) else False) else False
  | _,_=>
   match Ws x,Ws y with
   | some a,some b=>(match T t with
    | { ok:=true,agg:=false,plain:=some [1],.. }=>eqK S op (S.beq a b) K
    | _=>False)
   | _,_=>
    match T t with
    | { ok:=true,kind:=.ptr,.. }=>
     bif Ar x&&Ar y then eqL op true K
     else bif (Ar x&&KO y) || (KO x&&Ar y) then eqL op false K
     else False
    | _=>False
def IY (place:Nat->Option (Nat×Nat)):List PV->List (Nat×PV)->Option (List PV)
 | cells,[]=>some cells
 | cells,(i,v)::rest=>
  match place i with
  | none=>none
  | some (off,size)=>
   bif Nat.beq (oG (mQ v)) size&&Nat.ble (off+size) (oG cells) then IY place (mP cells off (mQ v)) rest else none
def evP (T:Tab)(tmps:List PV):List (Nat×Operand)->List (Nat×PV)
 | []=>[]
 | (i,x)::l=>(i,sD T tmps x)::evP T tmps l
def ED:List (Nat×PV)->Bool
 | []=>true
 | (_,.top)::_=>false
 | _::l=>ED l
def GZ (P:Program)(t:TypeId):Option (List PV) :=
 match P.info? t with
 | some i=>match i.zero with
  | some z=>some (mQ (Wq z))
  | none=>none
 | none=>none
def Og:Nat->List PV->List PV
 | 0,_=>[]
 | n+1,l=>vk l (Og n l)
def G5:List FI->Nat->Option FI
 | [],_=>none
 | f::_,0=>some f
 | _::l,n+1=>G5 l n
def Us (fs:List FI)(i:Nat):Option (Nat×Nat) :=
 match G5 fs i with
 | some f=>some (f.off,f.size)
 | none=>none
def XB (P:Program)(t:TypeId):Option (List PV) :=
 match P.info? t with
 | some i=>match i.zero with
  | some (.agg cs)=>some (EK cs.toList)
  | _=>none
 | none=>none
def O9 (P:Program)(k e:TypeId):TK :=
 match P.underlying k,XB P e with
 | some (.int .i64),some z=>.map (P.cellsOf e) z
 | _,_=>.oth
def ad2 (P:Program)(t:TypeId):TI :=
 match P.info? t,P.underlying t with
 | some i,some d=>
  { ok:=true,agg:=lK P t,size:=i.size,zero:=GZ P t,plain:=if P.eqGuardType P.depth t then none else xm P 20 t,kind:=match d with
    | .struct fs=>.struct (fs.toList.map λf=>{ off:=f.offset,size:=P.cellsOf f.type,agg:=lK P f.type })
    | .array n e=>.arr n (P.cellsOf e) (lK P e)
    | .slice e=>.slice (P.cellsOf e) (P.bytesOf e) (GZ P e)
    | .int k=>.int k
    | .string=>.str
    | .pointer _=>.ptr
    | .map k e=>O9 P k e
    | _=>.oth }
 | _,_=>.bad
def jq (P:Program)(T:Tab):Prop:=∀ t,(T t).ok=true->T t=ad2 P t/\t<P.types.size
abbrev Dl:=List (Nat×Option mO)
def rowsOf (S:iW)(esz:Nat)(lk:Nat->Option mO):PV->Option (List (List PV))
 | .sl sz es _=>bif Nat.beq sz esz then some es else(match es with|[]=>some []|_::_=>none)
 | .os b r n=>match lk b with
  | some (.arr _ sz rows)=>bif Nat.beq sz esz then some (S.sub rows r n) else none
  | _=>none
 | _=>none
def loadRow (agg:Bool)(size:Nat)(row:List PV)(c:Nat)(K:PV->Prop):Prop := bif agg then(bif Nat.ble (c+size) (oG row) then K (.agg (Sm size (FP c row))) else False) else(bif Nat.blt c (oG row) then K (jD row c) else False)
def oQ (size:Nat)(row:List PV)(c:Nat)(v:PV)(K:List PV->Prop):Prop := bif iT (mQ v)&&Nat.beq (oG (mQ v)) size&&Nat.ble (c+oG (mQ v)) (oG row) then K (mP row c (mQ v)) else False
def pur (S:iW)(lk:Nat->Option mO):List PV->Option (List PV×Dl)
 | []=>some ([],[])
 | v::vs=>match pur S lk vs with
  | none=>none
  | some (vs',δ)=>match v with
   | .os b r n=>(match lk b with
    | some (.arr _ sz rows)=>some (.sl sz (S.sub rows r n) false::vs',(b,some (.arr true sz rows))::δ)
    | _=>none)
   | .lv _ _|.lp _ _ _|.fn _ (_::_)|.agg _|.DJ _|.top|.undef|.ow _ _ _|.bo _ _ _ _ _ _|.np _ _ _ _ _ _ _|.mp _|.yl _|.hc=>none
   | v=>some (v::vs',δ)
def agY (_:Nat):Option mO:=none
def Sr:List PV->Bool
 | []=>false
 | .sl _ _ _::_=>true
 | _::l=>Sr l
def ad3 (mg:Nat)(esz:Nat)(z:List PV)(rows:List (List PV)):mO :=
 match mg with
 | 0=>.arr false esz rows
 | _+1=>(match Sr z with
  | true=>.mg esz rows
  | false=>.arr false esz rows)
def hd0:Hdr:=⟨0,0,0⟩
def owC (n:Nat)(v:PV):PV :=
 match v with
 | .sl _ es f=>(match f with
  | true=>(match es with
   | []=>.ow hd0 n []
   | _::_=>v)
  | false=>v)
 | v=>v
def owZ (n:Nat):List PV->List PV
 | []=>[]
 | v::l=>owC n v::owZ n l
def ahj (S:iW)(b r c:Nat):PV->PV
 | .ow h sz es=>.bo b r c h sz (S.gZ es)
 | v=>v
def ad4 (S:iW)(b r:Nat):Nat->List PV->List PV
 | _,[]=>[]
 | c,v::l=>ahj S b r c v::ad4 S b r (c+1) l
def Zk (b:Nat):Dl->Bool
 | []=>false
 | (c,_)::l=>Nat.beq c b || Zk b l
def Ut:List PV->Bool
 | []=>false
 | v::vs=>match v with
  | .int _ _=>true
  | .bool _=>true
  | .sl _ es f=>(match f with
   | true=>(match es with
    | []=>true
    | _::_=>Ut vs)
   | false=>Ut vs)
  | _=>Ut vs
def wkC (S:iW)(cs:List PV)(K:List PV->Prop):Prop :=
 match Ut cs with
 | true=>S.wk cs K
 | false=>K cs
def wkN (S:iW)(mg:Nat)(cs:List PV)(K:List PV->Prop):Prop :=
 match mg with
 | 0=>wkC S cs K
 | n+1=>(match Sr cs with
  | true=>K (owZ n cs)
  | false=>wkC S cs K)
def XC:Operand->Bool
 | .const (.slice none 0 0)=>true
 | _=>false
def oO (T:Tab)(S:iW)(o:Op)(tmps:List PV)(lk:Nat->Option mO)(id:Nat)(K:PV->Dl->Prop):Prop :=
 match o with
 | .move x|.assign x=>K (sD T tmps x) []
 | .pick c a b=>
  match sD T tmps c with
  | .bool true=>K (sD T tmps a) []
  | .bool false=>K (sD T tmps b) []
  | _=>False
 | .alloc t=>
  match T t with
  | { ok:=true,zero:=some z,.. }=>K (.lv id 0) [(id,some (.var false z))]
  | _=>False
 | .box _ x=>
  match sD T tmps x with
  | .top=>False
  | v=>K (.lv id 0) [(id,some (.var false (mQ v)))]
 | .fieldAddr t x f=>
  match T t with
  | { ok:=true,kind:=.struct fs,.. }=>(match G5 fs f with
   | some fd=>bif lX fd.size then(match sD T tmps x with
    | .lv b c=>K (.lv b (c+fd.off)) []
    | .lp b r c=>K (.lp b r (c+fd.off)) []
    | .np b r c h sz j k=>K (.np b r c h sz j (k+fd.off)) []
    | .pp cs=>bif Nat.ble fd.off (oG cs) then K (.pp (FP fd.off cs)) [] else False
    | _=>False) else False
   | none=>False)
  | _=>False
 | .field t x f=>
  match T t with
  | { ok:=true,kind:=.struct fs,.. }=>(match G5 fs f with
   | some fd=>(match sD T tmps x with
    | .agg cs=>bif lX fd.size then loadRow fd.agg fd.size cs fd.off (λv=>K v []) else False
    | _=>False)
   | none=>False)
  | _=>False
 | .load t x=>
  match T t with
  | { ok:=true,agg,size,.. }=>(match sD T tmps x with
   | .lv b c=>(match lk b with
    | some (.var _ row)=>loadRow agg size row c λv=>K v []
    | _=>False)
   | .lp b r c=>(match lk b with
    | some (.arr _ _ rows)=>S.row rows r λrow=>loadRow agg size row c λv=>K v []
    | some (.mg _ rows)=>S.row rows r λrow=>loadRow agg size (ad4 S b r 0 row) c λv=>K v []
    | some (.nor _ _ r0 row)=>S.same ⟨r,0,0⟩ ⟨r0,0,0⟩ (loadRow agg size row c λv=>K v [])
    | _=>False)
   | .np b r c h sz j k=>(match lk b with
    | some (.mg _ rows)=>S.row rows r λrow=>(match jD row c with
     | .ow h' sz' es=>bif Nat.beq sz' sz then S.same h h' (S.row es j λer=>loadRow agg size er k λv=>K v []) else False
     | _=>False)
    | _=>False)
   | .pp cs=>loadRow agg size cs 0 λv=>K v []
   | _=>False)
  | _=>False
 | .store t x y=>
  match T t with
  | { ok:=true,size,.. }=>(match sD T tmps x with
   | .lv b c=>(match lk b with
    | some (.var false row)=>oQ size row c (sD T tmps y) λrow'=>K .undef [(b,some (.var false row'))]
    | _=>False)
   | .lp b r c=>(match lk b with
    | some (.arr false sz rows)=>(match pur S lk (mQ (sD T tmps y)) with
     | some (cs,δ)=>bif Zk b δ then False else wkC S cs λcs=>S.row rows r λrow=>oQ size row c (.agg cs) λrow'=>K .undef (δ++[(b,some (.arr false sz (S.Oc rows r row')))])
     | none=>False)
    | some (.mg sz rows)=>(match sD T tmps y with
     | .os id r0 n=>(match lk id with
      | some (.arr false sz' rows')=>bif Nat.beq size 1&&Nat.beq id b then False else S.row rows r λrow=>S.nu λh=>
        oQ size row c (.ow h sz' (S.sub rows' r0 n)) λrow'=>K .undef [(id,none),(b,some (.mg sz (S.Oc rows r row')))]
      | _=>False)
     | y=>(match pur S lk (mQ y) with
      | some (cs,[])=>S.row rows r λrow=>oQ size row c (.agg cs) λrow'=>K .undef [(b,some (.mg sz (S.Oc rows r row')))]
      | _=>False))
    | some (.nor sz rows r0 row)=>S.same ⟨r,0,0⟩ ⟨r0,0,0⟩ (oQ size row c (sD T tmps y) λrow'=>K .undef [(b,some (.nor sz rows r0 row'))])
    | _=>False)
   | .np b r c h sz j k=>(match lk b with
    | some (.mg sz0 rows)=>(match pur S agY (mQ (sD T tmps y)) with
     | some (cs,[])=>wkC S cs λcs=>S.row rows r λrow=>(match jD row c with
      | .ow h' sz' es=>bif Nat.beq sz' sz then S.same h h' (S.row es j λer=>oQ size er k (.agg cs) λer' =>
        K .undef [(b,some (.mg sz0 (S.Oc rows r (nY row c (.ow h' sz' (S.Oc es j er'))))))]) else False
      | _=>False)
     | _=>False)
    | _=>False)
   | _=>False)
  | _=>False
 | .nilCheck x=>
  match sD T tmps x with
  | .lv b c=>K (.lv b c) []
  | .lp b r c=>K (.lp b r c) []
  | .pp cs=>K (.pp cs) []
  | .np b r c h sz j k=>K (.np b r c h sz j k) []
  | .fn f cs=>K (.fn f cs) []
  | _=>False
 | .binOp op t x y _=>
  match XC y with
  | true=>(match T t with
   | { ok:=true,kind:=.slice _ _ _,.. }=>(match sD T tmps x with
    | .sl _ es _=>S.Ur es λb=>eqL op b λv=>K v []
    | .os b r n=>(match lk b with
     | some (.arr _ _ rows)=>S.Ur (S.sub rows r n) λb=>eqL op b λv=>K v []
     | _=>False)
    | _=>False)
   | _=>False)
  | false=>(match T t with
   | { ok:=true,.. }=>ad1 T S op t (sD T tmps x) (sD T tmps y) λv=>K v []
   | _=>False)
 | .unOp .not _ x=>
  match sD T tmps x with
  | .bool true=>K (.bool false) []
  | .bool false=>K (.bool true) []
  | .sb b=>K (.sb (S.beq b false)) []
  | _=>False
 | .unOp .neg _ x=>
  match sD T tmps x with
  | .int k n=>K (.int k (k.wrap (0-n))) []
  | .si k n=>K (.si k (S.neg k n)) []
  | _=>False
 | .convert s d x=>
  match T s,T d with
  | { ok:=true,kind:=.slice _ _ _,.. },{ ok:=true,kind:=.str,.. }=>(match rowsOf S 1 lk (sD T tmps x) with
   | some rows=>S.toS s rows λb=>K (.str b) []
   | none=>False)
  | { ok:=true,kind:=.str,.. },{ ok:=true,kind:=.slice _ _ _,.. }=>(match sD T tmps x with
   | .str b=>S.toB d b λrows=>K (.sl 1 rows false) []
   | _=>False)
  | { ok:=true,.. },{ ok:=true,kind:=.int k,.. }=>(match sD T tmps x with
   | .int _ n=>K (.int k (k.wrap n)) []
   | .si _ n=>K (.si k (S.conv k n)) []
   | _=>False)
  | _,_=>False
 | .indexAddr t x i=>
  match T t with
  | { ok:=true,kind:=.slice esz _ _,.. }=>
   (match sD T tmps x,DK (sD T tmps i) with
   | .sl sz es _,some (_,n)=>bif lX esz&&Nat.beq sz esz then S.idx es n λrow=>K (.pp row) [] else False
   | .os b r len,some (_,n)=>(match lk b with
    | some (.arr _ sz _)=>bif lX esz&&Nat.beq sz esz then S.ix len n λj=>K (.lp b (S.NJ r j) 0) [] else False
    | some (.mg sz _)=>bif lX esz&&Nat.beq sz esz then S.ix len n λj=>K (.lp b (S.NJ r j) 0) [] else False
    | some (.nor sz _ _ _)=>bif lX esz&&Nat.beq sz esz then S.ix len n λj=>K (.lp b (S.NJ r j) 0) [] else False
    | _=>False)
   | .bo b r c h sz len,some (_,n)=>bif lX esz&&Nat.beq sz esz then S.ix len n λj=>K (.np b r c h sz j 0) [] else False
   | _,_=>False)
  | { ok:=true,kind:=.arr len esz _,.. }=>bif lX esz then
   (match sD T tmps i with
   | .int _ (.ofNat n)=>bif Nat.blt n len then(match sD T tmps x with
    | .lv b c=>K (.lv b (c+n*esz)) []
    | .lp b r c=>K (.lp b r (c+n*esz)) []
    | .pp cs=>bif Nat.ble (n*esz) (oG cs) then K (.pp (FP (n*esz) cs)) [] else False
    | _=>False) else False
   | .si _ n=>S.ix len n λj=>(match sD T tmps x with
    | .lv b c=>K (.lv b (c+j*esz)) []
    | .lp b r c=>K (.lp b r (c+j*esz)) []
    | .pp cs=>bif Nat.ble (j*esz) (oG cs) then K (.pp (FP (j*esz) cs)) [] else False
    | _=>False)
   | _=>False) else False
  | _=>False
 | .index t x i=>
  match T t,sD T tmps x,DK (sD T tmps i) with
  | { ok:=true,kind:=.str,.. },.str s,some (_,n)=>S.adY s n λc=>K (.si .u8 c) []
  | { ok:=true,kind:=.arr len esz agg,.. },.agg cs,some (_,n)=>bif lX esz then S.ix len n (λj=>loadRow agg esz cs (j*esz) λv=>K v []) else False
  | _,_,_=>False
 | .extract t i=>
  match sD T tmps t with
  | .DJ vs=>bif Nat.blt i (oG vs) then K (jD vs i) [] else False
  | _=>False
 | .build t parts=>
  match T t with
  | { ok:=true,zero:=some z,kind:=.struct fs,.. }=>
   bif ED (evP T tmps parts.toList) then(match IY (Us fs) z (evP T tmps parts.toList) with
    | some cs=>K (.agg cs) []
    | none=>False) else False
  | { ok:=true,zero:=some z,kind:=.arr _ esz _,.. }=>
   bif ED (evP T tmps parts.toList) then(match IY (λi=>some (i*esz,esz)) z (evP T tmps parts.toList) with
    | some cs=>K (.agg cs) []
    | none=>False) else False
  | _=>False
 | .buildSlice t len parts=>
  match T t with
  | { ok:=true,kind:=.slice esz _ (some z),.. }=>
    bif lX esz&&Nat.beq (oG z) esz&&Nat.ble (len*esz) 16777216&&ED (evP T tmps parts.toList) then
     (match IY (λi=>some (i*esz,esz)) (Og len z) (evP T tmps parts.toList) with
     | some cs=>(match pur S lk cs with
      | some (cs,δ)=>wkC S cs λcs=>K (.os id 0 len) (δ++[(id,some (.arr false esz (chunks esz len cs)))])
      | none=>False)
     | none=>False)
    else False
  | _=>False
 | .makeFunc (.func f) first captured=>
  match first.toList with
  | []=>K (.fn f (evA T tmps captured.toList)) []
  | _=>False
 | .makeSlice t l c=>
  match T t,DK (sD T tmps l),DK (sD T tmps c) with
  | { ok:=true,kind:=.slice esz bytes (some z),.. },some (_,n),some (_,m)=>
    bif lX esz&&Nat.beq (oG z) esz&&iT z then
     S.mks n m bytes λj=>wkN S T.mg z λz2=>K (.os id 0 j) [(id,some (ad3 T.mg esz z (S.rep j z2)))]
    else False
  | _,_,_=>False
 | .slice t x lo hi mx=>
  match T t,sD T tmps x,evO T tmps lo,evO T tmps hi,evO T tmps mx with
  | { ok:=true,kind:=.slice esz _ _,.. },.sl sz es full,l,h,none=>bif lX esz&&Nat.beq sz esz then
   (match h with
   | none=>match l with
    | none=>K (.sl sz es full) []
    | some lv=>match DK lv with
     | some (_,a)=>S.slc (S.gZ es) a (S.len es) λi j=>K (.sl sz (S.sub es i (S.Zh j i)) full) []
     | none=>False
   | some hv=>match DK hv with
    | some (_,b)=>match l with
     | none=>S.slc (S.gZ es) 0 b λi j=>K (.sl sz (S.sub es i (S.Zh j i)) false) []
     | some lv=>match DK lv with
      | some (_,a)=>S.slc (S.gZ es) a b λi j=>K (.sl sz (S.sub es i (S.Zh j i)) false) []
      | none=>False
    | none=>False) else False
  | { ok:=true,kind:=.slice esz _ _,.. },.os b r n,l,h,none=>
   (match lk b with
   | some (.arr _ sz _)=>bif lX esz&&Nat.beq sz esz then
    (match h with
    | none=>match l with
     | none=>K (.os b r n) []
     | some lv=>match DK lv with
      | some (_,a)=>S.slc n a (S.yO n) λi j=>K (.os b (S.NJ r i) (S.Zh j i)) []
      | none=>False
    | some hv=>match DK hv with
     | some (_,c)=>match l with
      | none=>S.slc n 0 c λi j=>K (.os b (S.NJ r i) (S.Zh j i)) []
      | some lv=>match DK lv with
       | some (_,a)=>S.slc n a c λi j=>K (.os b (S.NJ r i) (S.Zh j i)) []
       | none=>False
     | none=>False) else False
   | _=>False)
  | { ok:=true,kind:=.slice esz _ _,.. },.sl _ _ _,none,some (.int _ 0),some (.int _ 0)=>bif lX esz then K (.sl esz [] true) [] else False
  | { ok:=true,kind:=.slice esz _ _,.. },.os _ _ _,none,some (.int _ 0),some (.int _ 0)=>bif lX esz then K (.sl esz [] true) [] else False
  | { ok:=true,kind:=.str,.. },.str s,l,h,none=>
   (match l with
   | none=>match h with
    | none=>K (.str s) []
    | some hv=>match DK hv with
     | some (_,b)=>S.aaK s 0 b λs'=>K (.str s') []
     | none=>False
   | some lv=>match DK lv with
    | some (_,a)=>match h with
     | none=>S.aaK s a (S.slen s) λs'=>K (.str s') []
     | some hv=>match DK hv with
      | some (_,b)=>S.aaK s a b λs'=>K (.str s') []
      | none=>False
    | none=>False)
  | { ok:=true,kind:=.arr n esz _,.. },.lv b c,none,none,none=>
   (match lk b with
   | some (.var _ row)=>bif lX esz&&Nat.ble (c+n*esz) (oG row) then
     (match pur S (λ_=>none) row with
     | some _=>K (.sl esz (chunks esz n (FP c row)) true) [(b,some (.var true row))]
     | none=>False) else False
   | _=>False)
  | { ok:=true,kind:=.arr n esz _,.. },.pp cs,none,none,none=>
   bif lX esz&&iT cs&&Nat.ble (n*esz) (oG cs) then K (.sl esz (chunks esz n cs) true) [] else False
  | _,_,_,_,_=>False
 | .call { callee:=.builtin b,args,argTypes }=>
  match b,evA T tmps args.toList,argTypes.toList with
  | .len,[.str s],[t]=>(match T t with|{ ok:=true,kind:=.str,.. }=>K (.si .i64 (S.slen s)) []|_=>False)
  | .len,[.sl _ es _],[t]=>(match T t with|{ ok:=true,kind:=.slice _ _ _,.. }=>K (.si .i64 (S.len es)) []|_=>False)
  | .len,[.bo _ _ _ _ _ n],[t]=>(match T t with|{ ok:=true,kind:=.slice _ _ _,.. }=>K (.si .i64 (S.yO n)) []|_=>False)
  | .len,[.os _ _ n],[t]=>(match T t with|{ ok:=true,kind:=.slice _ _ _,.. }=>K (.si .i64 (S.yO n)) []|_=>False)
  | .min,[x,y],_=>(match x,y with
   | .int k a,.int k' b=>bif tC k k' then K (.int k (if b<a then b else a)) [] else False
   | x,y=>match DK x,DK y with
    | some (k,a),some (k',b)=>bif tC k k' then K (.si k (S.ahf a b)) [] else False
    | _,_=>False)
  | .max,[x,y],_=>(match x,y with
   | .int k a,.int k' b=>bif tC k k' then K (.int k (if a<b then b else a)) [] else False
   | x,y=>match DK x,DK y with
    | some (k,a),some (k',b)=>bif tC k k' then K (.si k (S.ahg a b)) [] else False
    | _,_=>False)
  | .append,[s,x],t::u::_=>
   (match T t,T u with
   | { ok:=true,kind:=.slice esz bytes (some z),.. },{ ok:=true,kind:=.slice _ _ _,.. }=>
    bif lX esz&&Nat.beq (oG z) esz then
     (match s,rowsOf S esz lk x with
     | .sl _ [] true,some new=>
      S.room (S.gZ new) bytes (K (.os id 0 (S.gZ new)) [(id,some (.arr false esz new))])
     | .os b r n,some new=>(match lk b with
      | some (.arr false sz rows)=>bif Nat.beq sz esz then
        S.room (S.NJ n (S.gZ new)) bytes (K (.os id 0 (S.NJ n (S.gZ new))) [(b,none),(id,some (.arr false sz (S.app (S.sub rows r n) new)))])
       else False
      | _=>False)
     | .bo b r c h sz m,some new=>(match lk b with
      | some (.mg sz0 rows)=>bif Nat.beq sz esz then
        S.row rows r λrow=>(match jD row c with
        | .ow h' sz' es=>bif Nat.beq sz' sz&&(bif Nat.beq b id then false else true) then
          S.same h h' (S.same ⟨m,0,0⟩ ⟨S.gZ es,0,0⟩ (S.room (S.NJ m (S.gZ new)) bytes
           (K (.os id 0 (S.NJ m (S.gZ new))) [(b,some (.mg sz0 (S.Oc rows r (nY row c (.bo b r c h sz m))))),(id,some (.arr false sz (S.app es new)))]))) else False
        | _=>False)
       else False
      | _=>False)
     | _,_=>False) else False
   | _,_=>False)
  | .clear,[.os b r n],t::_=>
   (match T t with
   | { ok:=true,kind:=.slice esz _ (some z),.. }=>
    (match lk b with
    | some (.arr false sz rows)=>bif Nat.beq sz esz&&Nat.beq (oG z) sz&&lX sz&&iT z then
      wkC S z λz2=>K (.DJ []) [(b,some (.arr false sz (S.spl rows r (S.rep n z2))))] else False
    | _=>False)
   | _=>False)
  | _,_,_=>False
 | _=>False
def KJ (f:PV->Option PV):List PV->Option (List PV)
 | []=>some []
 | c::cs=>match f c with
  | none=>none
  | some c=>match KJ f cs with
   | none=>none
   | some cs=>some (c::cs)
def ac1 (p:PV):PV :=
 match tu p with
 | true=>.hc
 | false=>.top
def af0 (c:Nat):PV->PV
 | .agg cs=>.agg (nY cs c (ac1 (jD cs c)))
 | .pp cs=>.pp (nY cs c (ac1 (jD cs c)))
 | v=>v
def FQ:List (Nat×Nat)->List PV->List PV
 | [],as=>as
 | (i,c)::l,as=>FQ l (nY as i (af0 c (jD as i)))
def frz (S:iW)(lk:Nat->Option mO):Nat->PV->Option PV
 | 0,_=>none
 | d+1,v=>
  match v with
  | .bool b=>some (.sb b)
  | .sb b=>some (.sb b)
  | .int k n=>some (.si k n)
  | .si k n=>some (.si k n)
  | .str s=>some (.str s)
  | .GU=>some .GU
  | .Un=>some .Un
  | .top=>some .top
  | .hc=>some .hc
  | .sl sz es _=>some (.sl sz es false)
  | .pp cs=>some (.pp cs)
  | .agg cs=>match KJ (frz S lk d) cs with|some cs=>some (.agg cs)|none=>none
  | .DJ cs=>match KJ (frz S lk d) cs with|some cs=>some (.DJ cs)|none=>none
  | .fn f cs=>match KJ (frz S lk d) cs with|some cs=>some (.fn f cs)|none=>none
  | .lv b c=>match lk b with
   | some (.var _ row)=>match KJ (frz S lk d) (FP c row) with|some cs=>some (.pp cs)|none=>none
   | _=>none
  | .os b r n=>match lk b with
   | some (.arr _ sz rows)=>some (.sl sz (S.sub rows r n) false)
   | some (.mg sz rows)=>some (.sl sz (S.fz (S.sub rows r n)) false)
   | _=>none
  | _=>none
def gd (S:iW)(all:Array Oper)(g:Option (Nat×Bool))(E:Env)(run skip:Env->Prop):Prop :=
 match g with
 | none=>run E
 | some (j,want)=>
  match all[j]? with
  | some o=>match o.dst with
   | some d=>match jD E.tmps d with
    | .bool true=>(match want with|true=>run E|false=>skip E)
    | .bool false=>(match want with|true=>skip E|false=>run E)
    | .sb b=>S.br b
      (λ_=>match want with|true=>run (qj E (some d) (.bool true))|false=>skip (qj E (some d) (.bool true)))
      (λ_=>match want with|true=>skip (qj E (some d) (.bool false))|false=>run (qj E (some d) (.bool false)))
    | .undef=>skip E
    | _=>False
   | none=>False
  | none=>False
def Su:Dl->Nat->Nat
 | [],n=>n
 | _::_,n=>n+1
def Zl (f:PV->Bool):List PV->Bool
 | []=>true
 | c::cs=>f c&&Zl f cs
def IZ:Nat->PV->Bool
 | 0,_=>false
 | d+1,v=>
  match v with
  | .bool _|.sb _|.int _ _|.si _ _|.str _|.GU|.Un=>true
  | .agg cs=>Zl (IZ d) cs
  | .DJ cs=>Zl (IZ d) cs
  | _=>false
def xe:List Nat->Nat->Bool
 | [],_=>false
 | b::l,c=>bif Nat.beq b c then true else xe l c
def DL:List Nat->Nat->Option Nat
 | [],_=>none
 | b::l,c=>bif Nat.beq b c then some 0 else match DL l c with|some i=>some (i+1)|none=>none
def ad5:List Nat->List Nat->List Nat
 | [],m=>m
 | b::l,m=>b::ad5 l m
def BU:List Nat->Nat->List Nat
 | [],c=>[c]
 | b::l,c=>b::BU l c
def KP:List Nat->Bool
 | []=>true
 | b::l=>bif xe l b then false else KP l
def ltN (n:Nat):List Nat->Bool
 | []=>true
 | b::l=>Nat.blt b n&&ltN n l
def lH:List Nat->Nat
 | []=>0
 | _::l=>lH l+1
def Wu:List Nat->Nat->Option Nat
 | [],_=>none
 | b::_,0=>some b
 | _::l,n+1=>Wu l n
def upN:Nat->Nat->List Nat
 | _,0=>[]
 | i,n+1=>i::upN (i+1) n
def Au (f:List Nat->PV->List Nat):List Nat->List PV->List Nat
 | acc,[]=>acc
 | acc,v::vs=>Au f (f acc v) vs
def Ai (f:PV->PV):List PV->List PV
 | []=>[]
 | v::vs=>f v::Ai f vs
def Ec (st:St):Nat->List Nat->PV->List Nat
 | 0,acc,_=>acc
 | d+1,acc,v=>match v with
  | .os b _ _=>bif xe acc b then acc else match jk st b with
   | some (.nor _ _ _ row)=>Au (Ec st d) (BU acc b) row
   | _=>BU acc b
  | .lp b _ _=>bif xe acc b then acc else match jk st b with
   | some (.nor _ _ _ row)=>Au (Ec st d) (BU acc b) row
   | _=>BU acc b
  | .bo b _ _ _ _ _=>bif xe acc b then acc else BU acc b
  | .np b _ _ _ _ _ _=>bif xe acc b then acc else BU acc b
  | .mp b=>bif xe acc b then acc else BU acc b
  | .lv b _=>bif xe acc b then acc else match jk st b with
   | some (.var _ row)=>Au (Ec st d) (BU acc b) row
   | _=>BU acc b
  | .agg cs=>Au (Ec st d) acc cs
  | .DJ cs=>Au (Ec st d) acc cs
  | .fn _ cs=>Au (Ec st d) acc cs
  | _=>acc
def vI (f:Nat->Option Nat):Nat->PV->PV
 | 0,_=>.top
 | d+1,v=>match v with
  | .os b r n=>match f b with|some i=>.os i r n|none=>.top
  | .lp b r c=>match f b with|some i=>.lp i r c|none=>.top
  | .lv b c=>match f b with|some i=>.lv i c|none=>.top
  | .agg cs=>.agg (Ai (vI f d) cs)
  | .DJ cs=>.DJ (Ai (vI f d) cs)
  | .fn k cs=>.fn k (Ai (vI f d) cs)
  | .bo b r c h sz n=>match f b with|some i=>.bo i r c h sz n|none=>.top
  | .np b r c h sz j k=>match f b with|some i=>.np i r c h sz j k|none=>.top
  | .mp b=>match f b with|some i=>.mp i|none=>.top
  | v=>v
def Cc (f:Nat->Option Nat):Option mO->Option mO
 | some (.var ro row)=>some (.var ro (Ai (vI f 8) row))
 | some (.nor sz rows r row)=>some (.nor sz rows r (Ai (vI f 8) row))
 | x=>x
def yD (f:Nat->Option Nat)(st:St):Nat->List Nat->St
 | _,[]=>[]
 | i,b::l=>(i,Cc f (jk st b))::yD f st (i+1) l
def NP:List Nat->Nat->List PV->List PV
 | _,_,[]=>[]
 | [],i,_::l=>.top::NP [] (i+1) l
 | k::ks,i,x::l=>bif Nat.beq k i then x::NP ks (i+1) l else .top::NP (k::ks) (i+1) l
def Sv (st:St):List Nat->List Nat->List Nat
 | acc,[]=>acc
 | acc,b::l=>match jk st b with
  | some (.var _ row)=>Sv st (Au (Ec st 8) acc row) l
  | some (.nor _ _ _ row)=>Sv st (Au (Ec st 8) acc row) l
  | _=>Sv st acc l
def Sz (m:Nat)(st:St)(vs:List PV):List Nat:=Au (Ec st 8) (Sv st (upN 0 m) (upN 0 m)) vs
def Zm (ρ:List Nat)(ts:List PV)(st:St):Env:=⟨Ai (vI (DL ρ) 8) ts,yD (DL ρ) st 0 ρ,lH ρ⟩
def GV (m:Nat)(keep:List Nat)(E:Env):Env := match NP keep 0 E.tmps with | ts=>Zm (Sz m E.st ts) ts E.st
def G6 (args:List PV)(st:St):List Nat:=Au (Ec st 8) [] args
def BQ (ρ:List Nat)(next:Nat)(i:Nat):Option Nat :=
 match Wu ρ i with
 | some b=>some b
 | none=>some (next+(i-lH ρ))
def Zn (f:Nat->Option Nat)(st1:St):Nat->List Nat->St->St
 | _,[],st=>st
 | i,b::l,st=>Zn f st1 (i+1) l (oH st b (Cc f (jk st1 i)))
def EM (ρ:List Nat)(E:Env)(st1:St)(n1:Nat):Env := ⟨E.tmps,Zn (BQ ρ E.next) st1 0 (ad5 ρ (upN E.next (n1-lH ρ))) E.st,E.next+(n1-lH ρ)⟩
def aaM (st:St)(b:Nat):Option mO :=
 match jk st b with
 | some (.var true row)=>some (.var true row)
 | some (.arr true sz rows)=>some (.arr true sz rows)
 | _=>none
def roS (st:St):List Nat->St
 | []=>st
 | b::l=>match jk st b with
  | some (.var _ row)=>roS (oH st b (some (.var true row))) l
  | some (.arr _ sz rows)=>roS (oH st b (some (.arr true sz rows))) l
  | _=>roS st l
def lY:St->Bool
 | []=>true
 | (_,some (.mg _ _))::_=>false
 | (_,some (.nor _ _ _ _))::_=>false
 | _::l=>lY l
def Uu (S:iW)(k:Nat)(args:List PV)(E:Env)(K:PV->Env->Prop):Prop :=
 match KJ (frz S (aaM E.st) 6) args with
 | some as=>S.Sl k args as (Ai (vI (DL []) 8) as) E K
 | none=>match G6 args E.st with
  | ρ=>S.call k args E (KJ (frz S (jk E.st) 6) args) (KJ (frz S (aaM (roS E.st ρ)) 6) args) ρ (Ai (vI (DL ρ) 8) args) (yD (DL ρ) E.st 0 ρ) K
def ad6 (S:iW)(k:Nat)(args:List PV)(lk:Nat->Option mO)(K:PV->Prop):Prop :=
 match KJ (frz S (λb=>match lk b with|some (.var true row)=>some (.var true row)|some (.arr true sz rows)=>some (.arr true sz rows)|_=>none) 6) args with
 | some as=>S.Uo k as K
 | none=>match KJ (frz S lk 6) args with
  | some as=>S.Wp k as K
  | none=>False
def ait (T:Tab)(t:TypeId):Bool :=
 match T t with
 | { ok:=true,kind:=.slice _ _ (some z),.. }=>Sr z
 | _=>false
def ad7:List PV->Bool
 | []=>false
 | .sl _ [] true::_=>true
 | _::l=>ad7 l
def ahk (T:Tab)(S:iW)(t:TypeId)(len:Nat)(parts:Array (Nat×Operand))(tmps:List PV)(lk:Nat->Option mO)(id:Nat)(K:PV->Dl->Prop):Prop :=
 match T t with
 | { ok:=true,kind:=.slice esz _ (some z),.. }=>
  bif lX esz&&Nat.beq (oG z) esz&&Nat.ble (len*esz) 16777216&&ED (evP T tmps parts.toList) then
   (match IY (λi=>some (i*esz,esz)) (Og len z) (evP T tmps parts.toList),len with
   | some [],0=>bif Nat.beq esz 1 then K (.os id 0 0) [(id,some (.mg 1 []))] else False
   | some [.os b r n],1=>bif Nat.beq esz 1 then(match lk b with
    | some (.arr false sz rows)=>bif Nat.beq b id then False else S.nu λh=>K (.os id 0 1) [(b,none),(id,some (.mg 1 [[.ow h sz (S.sub rows r n)]]))]
    | _=>False) else False
   | some cs,_=>(match T.mg,ad7 cs with
    | nn+1,true=>(match pur S agY cs with
     | some (cs',[])=>K (.os id 0 len) [(id,some (.mg esz (chunks esz len (owZ nn cs'))))]
     | _=>False)
    | _,_=>oO T S (.buildSlice t len parts) tmps lk id K)
   | none,_=>False)
  else False
 | _=>False
def ahl (T:Tab)(S:iW)(t u:TypeId)(b r n c:Nat)(lk:Nat->Option mO)(id:Nat)(K:PV->Dl->Prop):Prop :=
 match T t,T u with
 | { ok:=true,kind:=.slice esz bytes (some z),.. },{ ok:=true,kind:=.slice _ _ _,.. }=>
  (match lk b,lk c with
  | some (.mg sz rows),some (.mg sz' [row])=>
   bif lX esz&&Nat.beq (oG z) esz&&Nat.beq sz esz&&Nat.beq sz' esz&&(bif Nat.beq b c then false else bif Nat.beq b id then false else bif Nat.beq c id then false else true) then
    S.room (S.NJ n 1) bytes (K (.os id 0 (S.NJ n 1)) [(b,none),(c,none),(id,some (.mg sz (S.app (S.sub rows r n) [row])))])
   else False
  | _,_=>False)
 | _,_=>False
def acd (T:Tab)(S:iW)(t:TypeId)(m k x:PV)(lk:Nat->Option mO)(K:PV->Dl->Prop):Prop :=
 match T t,m,DK k with
 | { ok:=true,kind:=.map sz _,.. },.mp b,some (.i64,n)=>(match lk b with
  | some (.map rows)=>(match x with
   | .agg xs=>(match pur S lk xs with
    | some (cs,δ)=>bif Zk b δ then False else bif Nat.beq (oG cs) sz then wkC S cs λcs=>K .undef (δ++[(b,some (.map (S.afZ rows n cs)))]) else False
    | none=>False)
   | _=>False)
  | _=>False)
 | _,_,_=>False
def aaN (T:Tab)(S:iW)(t:TypeId)(m k:PV)(lk:Nat->Option mO)(K:PV->Dl->Prop):Prop :=
 match T t,m,DK k with
 | { ok:=true,kind:=.map _ z,.. },.mp b,some (.i64,n)=>(match lk b with
  | some (.map rows)=>S.ahi rows n z λcs ok=>K (.DJ [.agg cs,.sb ok]) []
  | _=>False)
 | _,_,_=>False
def aaO (T:Tab)(S:iW)(t:TypeId)(b:Nat)(lk:Nat->Option mO)(K:PV->Dl->Prop):Prop :=
 match T t with
 | { ok:=true,kind:=.map _ _,.. }=>(match lk b with
  | some (.map rows)=>K (.si .i64 (S.len rows)) []
  | _=>False)
 | _=>False
def aaP (T:Tab)(t:TypeId)(id:Nat)(K:PV->Dl->Prop):Prop :=
 match T t with
 | { ok:=true,kind:=.map _ _,.. }=>K (.mp id) [(id,some (.map []))]
 | _=>False
def opN (T:Tab)(S:iW)(o:Op)(tmps:List PV)(lk:Nat->Option mO)(id:Nat)(K:PV->Dl->Prop):Prop :=
 match T.mg with
 | 0=>oO T S o tmps lk id K
 | _+1=>match o with
  | .makeMap t none=>aaP T t id K
  | .mapUpdate t m k x=>acd T S t (sD T tmps m) (sD T tmps k) (sD T tmps x) lk K
  | .insert t m k x=>acd T S t (sD T tmps m) (sD T tmps k) (sD T tmps x) lk K
  | .lookup t m k true=>aaN T S t (sD T tmps m) (sD T tmps k) lk K
  | .call { callee:=.builtin .len,args,argTypes }=>(match evA T tmps args.toList,argTypes.toList with
   | [.mp b],[t]=>aaO T S t b lk K
   | _,_=>oO T S (.call { callee:=.builtin .len,args,argTypes }) tmps lk id K)
  | .buildSlice t len parts=>(match ait T t with
   | true=>ahk T S t len parts tmps lk id K
   | false=>oO T S (.buildSlice t len parts) tmps lk id K)
  | .call { callee:=.builtin .append,args,argTypes }=>(match evA T tmps args.toList,argTypes.toList with
   | [.os b r n,.os c 0 1],t::u::_=>(match ait T t,lk c with
    | true,some (.mg _ _)=>ahl T S t u b r n c lk id K
    | _,_=>oO T S (.call { callee:=.builtin .append,args,argTypes }) tmps lk id K)
   | _,_=>oO T S (.call { callee:=.builtin .append,args,argTypes }) tmps lk id K)
  | o=>oO T S o tmps lk id K
def ad8 (T:Tab)(S:iW)(o:Oper)(E:Env)(K:Env->Prop):Prop :=
 match o.op with
 | .call { callee:=.value f,args,argTypes:=_ }=>
  match sD T E.tmps f with
  | .fn k caps=>Uu S k (FQ (T.hid k) (vk (evA T E.tmps args.toList) caps)) E λv E=>K (qj E o.dst v)
  | .yl l=>(match G6 (.lv 0 0::evA T E.tmps args.toList) E.st with
   | ρ=>S.yld l (evA T E.tmps args.toList) E ρ (Ai (vI (DL ρ) 8) (evA T E.tmps args.toList)) (yD (DL ρ) E.st 0 ρ) λv E=>K (qj E o.dst v))
  | _=>False
 | op=>
  match op,o.dst with
  | .pick (.tmp c) a b,d=>(match jD E.tmps c with
   | .sb t=>S.br t (λ_=>K (qj (qj E (some c) (.bool true)) d (sD T E.tmps a))) (λ_=>K (qj (qj E (some c) (.bool false)) d (sD T E.tmps b)))
   | _=>oO T S (.pick (.tmp c) a b) E.tmps (jk E.st) E.next λv δ=>K (qj ⟨E.tmps,jJ δ E.st,Su δ E.next⟩ d v))
  | op,d=>opN T S op E.tmps (jk E.st) E.next λv δ=>K (qj ⟨E.tmps,jJ δ E.st,Su δ E.next⟩ d v)
def opsE (T:Tab)(S:iW)(all:Array Oper):List Oper->Env->(Env->Prop)->Prop
 | [],E,K=>K E
 | o::l,E,K=>gd S all o.guard E
   (λE=>ad8 T S o E λE=>opsE T S all l E K)
   (λE=>opsE T S all l (qj E o.dst .undef) K)
def ad9 (K:PV->Prop)(v:PV):Dl->Prop
 | []=>K v
 | _::_=>False
def isQ:Op->Bool
 | .move _|.assign _|.pick _ _ _|.fieldAddr _ _ _|.field _ _ _|.load _ _|.nilCheck _|.convert _ _ _|.indexAddr _ _ _|.slice _ _ _ _ _
 | .index _ _ _|.extract _ _|.build _ _|.makeFunc _ _ _=>true
 | .binOp _ _ _ y _=>(match XC y with|true=>false|false=>true)
 | .unOp _ _ _=>true
 | .call { callee:=.builtin .len,.. }|.call { callee:=.builtin .min,.. }|.call { callee:=.builtin .max,.. }=>true
 | _=>false
def lkC:List (Nat×Nat)->Nat->Nat
 | [],_=>3
 | (k,c)::l,f=>match Nat.beq c 9 with
  | true=>lkC l f
  | false=>bif Nat.beq k f then c else lkC l f
def lkQ:List (Nat×Nat)->Nat->Bool
 | [],_=>false
 | (k,c)::l,d=>match Nat.beq c 9 with
  | true=>bif Nat.beq k d then true else lkQ l d
  | false=>lkQ l d
def clsF (T:Tab):Operand->Nat
 | .func f=>lkC T.dcl f
 | _=>3
def Jy (T:Tab):Op->Nat
 | .alloc _=>1
 | .box _ _=>1
 | .makeSlice _ _ _=>1
 | .store _ _ _=>2
 | .slice _ _ _ _ _=>3
 | .call { callee:=.builtin .append,.. }=>2
 | .load _ _=>3
 | .indexAddr _ _ _=>3
 | .call { callee:=.value f,.. }=>clsF T f
 | .buildSlice _ _ _=>0
 | op=>bif isQ op then 0 else 4
def qtO (T:Tab)(o:Oper):Bool :=
 match o.dst with
 | some d=>(match lkQ T.dcl d with
  | true=>isQ o.op
  | false=>false)
 | none=>false
def wR (T:Tab)(o:Oper):Nat :=
 match qtO T o with
 | true=>0
 | false=>Jy T o.op
def opQ (T:Tab)(S:iW)(op:Op)(tmps:List PV)(lk:Nat->Option mO)(id:Nat)(K:PV->Prop):Prop :=
 match op with
 | .call { callee:=.value f,args,argTypes:=_ }=>
  match sD T tmps f with
  | .fn k caps=>ad6 S k (FQ (T.hid k) (vk (evA T tmps args.toList) caps)) lk K
  | _=>False
 | .buildSlice t len parts=>
  match T t with
  | { ok:=true,kind:=.slice esz _ (some z),.. }=>
    bif lX esz&&Nat.beq (oG z) esz&&Nat.ble (len*esz) 16777216&&ED (evP T tmps parts.toList) then
     (match IY (λi=>some (i*esz,esz)) (Og len z) (evP T tmps parts.toList) with
     | some cs=>(match pur S (λ_=>none) cs with
      | some (cs,[])=>wkC S cs λcs=>K (.sl esz (chunks esz len cs) true)
      | _=>False)
     | none=>False)
    else False
  | _=>False
 | op=>bif isQ op then oO T S op tmps lk id (ad9 K) else False
def Zo (T:Tab)(S:iW)(o:Oper)(lk:Nat->Option mO)(E:Env)(K:Env->Prop):Prop :=
 match o.op with
 | .pick (.tmp c) a b=>(match jD E.tmps c with
   | .sb t=>S.br t (λ_=>K (qj (qj E (some c) (.bool true)) o.dst (sD T E.tmps a))) (λ_=>K (qj (qj E (some c) (.bool false)) o.dst (sD T E.tmps b)))
   | _=>opQ T S (.pick (.tmp c) a b) E.tmps lk E.next λv=>K (qj E o.dst v))
 | op=>opQ T S op E.tmps lk E.next λv=>K (qj E o.dst v)
def ace (pend:List Nat)(lk:Nat->Option mO)(b:Nat):Option mO:=bif xe pend b then none else lk b
def Uw (_:Nat):Option mO:=none
def ltD (n:Nat):Dl->Bool
 | []=>true
 | (b,_)::l=>Nat.blt b n&&ltD n l
def dlO (f:Nat->Option Nat)(st1:St):Nat->List Nat->Dl
 | _,[]=>[]
 | i,b::l=>(b,Cc f (jk st1 i))::dlO f st1 (i+1) l
def af1 (st:St):List Nat->Bool
 | []=>true
 | b::l=>(match jk st b with|some _=>true|none=>false)&&af1 st l
def Ux (S:iW)(k:Nat)(args:List PV)(ρ:List Nat)(st:St)(id:Nat)(K:PV->Dl->Prop):Prop :=
 match ltN id ρ&&(KP ρ&&af1 st ρ) with
 | true=>S.Zi k (Ai (vI (DL ρ) 8) args) (yD (DL ρ) st 0 ρ) ρ λv st1 n1=>(match Nat.ble n1 (lH ρ+32) with
  | true=>K (vI (BQ ρ id) 8 v) (dlO (BQ ρ id) st1 0 (ad5 ρ (upN id (n1-lH ρ))))
  | false=>False)
 | false=>False
def opW (T:Tab)(S:iW)(op:Op)(tmps:List PV)(lk:Nat->Option mO)(st:St)(id:Nat)(c2:Bool)(K:PV->Dl->Prop):Prop :=
 match op with
 | .call { callee:=.value f,args,argTypes:=_ }=>
  match sD T tmps f with
  | .fn k caps=>(match c2 with
   | false=>(match KJ (frz S Uw 6) (FQ (T.hid k) (vk (evA T tmps args.toList) caps)) with
    | some as=>S.adX k (Ai (vI (DL []) 8) as) λv x=>K (vI (BQ [] id) 8 v) [(id,Cc (BQ [] id) (some x))]
    | none=>False)
   | true=>(match G6 (FQ (T.hid k) (vk (evA T tmps args.toList) caps)) st with
    | ρ=>Ux S k (FQ (T.hid k) (vk (evA T tmps args.toList) caps)) ρ st id K))
  | _=>False
 | op=>oO T S op tmps lk id K
def stepD (T:Tab)(S:iW)(o:Oper)(pend:List Nat)(E:Env)(K:List Nat->Env->Prop):Prop :=
 match wR T o with
 | 0=>Zo T S o Uw E (K pend)
 | 1=>opW T S o.op E.tmps Uw E.st E.next false λv δ=>match δ with
  | [(id,some x)]=>bif Nat.beq id E.next then K (id::pend) (qj ⟨E.tmps,oH E.st id (some x),E.next+32⟩ o.dst v) else False
  | _=>False
 | 2=>opW T S o.op E.tmps (jk E.st) E.st E.next true λv δ=>bif ltD (E.next+32) δ then K [] (qj ⟨E.tmps,jJ δ E.st,E.next+32⟩ o.dst v) else False
 | 3=>Zo T S o (ace pend (jk E.st)) E (K pend)
 | _=>False
def Uy (all:Array Oper)(i:Nat)(o:Oper)(lo:List Tmp)(j:Nat)(p:Oper):Bool :=
 Nat.beq i j || match p.dst with
 | none=>true
 | some d=>o.dst != some d&&(!lo.contains d || o.after.any (λe=>Region.binds .any e&&Nat.beq e.on j) || p.after.any (λe=>Region.binds .any e&&Nat.beq e.on i))
def Uz (all:Array Oper)(i:Nat)(o:Oper)(lo:List Tmp):List Oper->Nat->Bool
 | [],_=>true
 | p::ps,j=>Uy all i o lo j p&&Uz all i o lo ps (j+1)
def FT (all:Array Oper):List Oper->Nat->Bool
 | [],_=>true
 | o::os,i=>o.after.all (λe=>!Region.binds .any e || Nat.blt e.on i)&&Uz all i o (o.looksAt all) all.toList 0&&FT all os (i+1)
def XD (o:Oper):List Nat:=(o.after.toList.filter λe=>Region.binds .any e).map λe=>e.on
def UA:List Nat->List Nat->List Nat
 | [],m=>m
 | b::l,m=>bif xe m b then UA l m else UA l (b::m)
def BV:List (List Nat)->Nat->List Nat
 | [],_=>[]
 | x::_,0=>x
 | _::l,n+1=>BV l n
def Wv (acc:List (List Nat)):List Nat->List Nat
 | []=>[]
 | j::l=>UA (j::BV acc j) (Wv acc l)
def UB:List Oper->List (List Nat)->List (List Nat)
 | [],acc=>acc
 | o::l,acc=>UB l (acc++[Wv acc (XD o)])
def ndO (T:Tab)(ps:List PV)(lk:Nat->Option mO):Op->Bool
 | .store _ x _=>(match sD T ps x with
  | .lp b _ _=>(match lk b with|some (.mg _ _)=>true|_=>false)
  | .np _ _ _ _ _ _ _=>true
  | _=>false)
 | _=>false
def UC:List Oper->Nat
 | []=>0
 | _::l=>UC l+1
def allIn (l:List Nat):Nat->Bool
 | 0=>true
 | n+1=>xe l n&&allIn l n
def Oh (all:Array Oper):Bool:=match all.toList with
 | []=>false
 | _::l=>allIn (BV (UB all.toList []) (UC l)) (UC l)
def nilP:List Oper->Bool
 | []=>true
 | _=>false
def agZ (T:Tab)(S:iW)(all:Array Oper)(o:Oper)(last:Bool)(pend:List Nat)(K:List Nat->Env->Prop)(KE:Env->Prop)(E:Env):Prop :=
 match ndO T E.tmps (jk E.st) o.op with
 | true=>(match last with
  | true=>S.last all (oO T S o.op E.tmps (jk E.st) E.next λv δ=>bif ltD (E.next+32) δ then KE (qj ⟨E.tmps,jJ δ E.st,E.next+32⟩ o.dst v) else False)
  | false=>False)
 | false=>stepD T S o pend E K
def aaQ (T:Tab)(S:iW)(all:Array Oper):List Oper->List Nat->Env->(Env->Prop)->Prop
 | [],_,E,K=>K E
 | o::l,pend,E,K=>gd S all o.guard E
   (λE=>agZ T S all o (nilP l) pend (λpend E=>aaQ T S all l pend E K) K E)
   (λE=>aaQ T S all l pend (qj E o.dst .undef) K)
def clash (a b:Nat):Bool := (Nat.beq a 2&&(Nat.beq b 2 || Nat.beq b 3)) || (Nat.beq b 2&&(Nat.beq a 1 || Nat.beq a 3))
def ac2 (T:Tab)(bef:List Nat)(c:Nat):List Oper->Nat->Bool
 | [],_=>true
 | o::l,i=>(bif clash (wR T o) c then xe bef i else true)&&ac2 T bef c l (i+1)
def aea (T:Tab)(all:List Oper)(B:List (List Nat)):List Oper->Nat->Bool
 | [],_=>true
 | o::l,i=>ac2 T (BV B i) (wR T o) (all.take i) 0&&aea T all B l (i+1)
def aeb (T:Tab):List Oper->Bool
 | []=>false
 | o::l=>Nat.beq (wR T o) 2 || aeb T l
def FU (T:Tab)(all:Array Oper):Bool:=FT all all.toList 0&&(bif aeb T all.toList then aea T all.toList (UB all.toList []) all.toList 0 else true)
def ltS (n:Nat):St->Bool
 | []=>true
 | (b,_)::l=>Nat.blt b n&&ltS n l
def rdG (T:Tab)(ps:List PV)(o:Op):List Nat :=
 match o with
 | .load _ x=>Ec [] 8 [] (sD T ps x)
 | .store _ x y=>Au (Ec [] 8) [] [sD T ps x,sD T ps y]
 | .indexAddr _ x _=>Ec [] 8 [] (sD T ps x)
 | .slice _ x _ _ _=>Ec [] 8 [] (sD T ps x)
 | .call { callee:=.builtin _,args,argTypes:=_ }=>Au (Ec [] 8) [] (evA T ps args.toList)
 | _=>[]
def lkG (R:List Nat)(st:St)(b:Nat):Option mO:=bif xe R b then jk st b else none
def FV:Dl->List Nat
 | []=>[]
 | (b,_)::δ=>b::FV δ
def okG (st:St)(nx:Nat):Dl->Bool
 | []=>true
 | (b,x)::δ=>(match x with|some (.mg _ _)=>false|some (.map _)=>false|some (.nor _ _ _ _)=>false|_=>true)&&((Nat.beq b nx || (match jk st b with|some _=>true|none=>false))&&okG st nx δ)
def Wx:List (List Nat×List Nat×List Nat)->(List Nat×List Nat×List Nat)->List (List Nat×List Nat×List Nat)
 | [],x=>[x]
 | y::l,x=>y::Wx l x
def okH (st:St)(nx:Nat):Dl->Bool
 | []=>true
 | (b,x)::δ=>(match x with|some (.mg _ _)=>false|some (.map _)=>false|some (.nor _ _ _ _)=>false|_=>true)&&(((Nat.ble nx b&&Nat.blt b (nx+32)) || (match jk st b with|some _=>true|none=>false))&&okH st nx δ)
def Pg (T:Tab)(f:Operand)(args:Array Operand)(E:Env):List Nat :=
 match sD T E.tmps f with
 | .fn k caps=>G6 (FQ (T.hid k) (vk (evA T E.tmps args.toList) caps)) E.st
 | _=>[]
def ag0 (T:Tab)(S:iW)(o:Oper)(f:Operand)(args:Array Operand)(ts:Array TypeId)(E:Env)(K:(List Nat×List Nat×List Nat)->Env->Prop):Prop :=
 match o.guard with
 | some _=>False
 | none=>(match wR T o with
  | 2=>(match Pg T f args E with
   | R=>opW T S (.call { callee:=.value f,args:=args,argTypes:=ts }) E.tmps (jk E.st) E.st E.next true λv δ=>(match okH E.st E.next δ with
    | true=>K (R,FV δ,FV δ) (qj ⟨E.tmps,jJ δ E.st,E.next+32⟩ o.dst v)
    | false=>False))
  | 3=>(match Pg T f args E with
   | R=>opQ T S (.call { callee:=.value f,args:=args,argTypes:=ts }) E.tmps (lkG R E.st) E.next λv=>K (R,[],[]) (qj E o.dst v))
  | _=>False)
def aec (T:Tab)(S:iW)(o:Oper)(E:Env)(K:(List Nat×List Nat×List Nat)->Env->Prop):Prop :=
 match o.guard,rdG T E.tmps o.op with
 | none,R=>(match bif isQ o.op then true else(Nat.beq (Jy T o.op) 1 || Nat.beq (Jy T o.op) 2),ndO T E.tmps (lkG R E.st) o.op with
  | true,false=>oO T S o.op E.tmps (lkG R E.st) E.next λv δ=>(match okG E.st E.next δ with
   | true=>K (R,FV δ,FV δ) (qj ⟨E.tmps,jJ δ E.st,E.next+1⟩ o.dst v)
   | false=>False)
  | _,_=>False)
 | some _,_=>False
def stepG (T:Tab)(S:iW)(o:Oper)(E:Env)(K:(List Nat×List Nat×List Nat)->Env->Prop):Prop :=
 match o.op with
 | .call { callee:=.value f,args,argTypes:=ts }=>ag0 T S o f args ts E K
 | _=>aec T S o E K
def ac3 (T:Tab)(S:iW):List Oper->Env->List (List Nat×List Nat×List Nat)->(Env->List (List Nat×List Nat×List Nat)->Prop)->Prop
 | [],E,tr,K=>K E tr
 | o::l,E,tr,K=>stepG T S o E λtc E=>ac3 T S l E (Wx tr tc) K
abbrev Post:=Nat->Env->Prop
def Iw (next:Env->Prop)(Q:Post):Post
 | 0,E=>next E
 | n+1,E=>Q (n+1) E
def aiu (id:Nat)(Q:Post):Post
 | 0,E=>Q 0 E
 | 1,E=>Q 1 E
 | n+2,E=>bif Nat.beq n id then Q 0 E else Q (n+2) E
def Oi:Code->Option Nat
 | .region id _ _=>some id
 | .seq a _=>Oi a
 | .block _ b=>Oi b
 | .loop b=>Oi b
 | .scope b=>Oi b
 | _=>none
def aed (cut:List Nat)(a b:Code):Bool :=
 match cut with
 | []=>true
 | _::_=>match a with
  | .region i _ _=>(bif xe cut (2*i) then false else true)
  | _=>match Oi b with
   | some i=>(bif xe cut (2*i+1) then false else true)
   | none=>true
def aiv (a b:Code):Nat :=
 match a with
 | .region i _ _=>2*i
 | _=>match Oi b with
  | some i=>2*i+1
  | none=>0
def I4 (T:Tab)(S:iW):Code->Post->Env->Prop
 | .skip,Q,E=>Q 0 E
 | .seq a b,Q,E=>bif aed T.cut a b then I4 T S a (Iw (λE=>I4 T S b Q E) Q) E else S.seq (aiv a b) E (λQ=>I4 T S a Q E) (λE=>I4 T S b Q E) Q
 | .ret,Q,E=>Q 1 E
 | .exit n,Q,E=>Q (n+2) E
 | .block id b,Q,E=>I4 T S b (aiu id Q) E
 | .loop b,Q,E=>S.loop b Q E
 | .scope b,Q,E=>I4 T S b Q E
 | .label _,Q,E=>Q 0 E
 | .region i l true,Q,E=>bif xe T.cut (1000+i) then(bif ltS E.next E.st&&lY E.st then ac3 T S l.toList E [] (λE tr=>S.ac0 l tr (Q 0 E)) else False)
  else S.order l (bif ltS E.next E.st then aaQ T S l l.toList [] E (Q 0) else False)
 | .region _ l false,Q,E=>opsE T S l l.toList E (Q 0)
 | .cond (.tmp c) a b,Q,E=>match jD E.tmps c with
  | .bool true=>I4 T S a Q E
  | .bool false=>I4 T S b Q E
  | .sb t=>S.br t (λ_=>I4 T S a Q (qj E (some c) (.bool true))) (λ_=>I4 T S b Q (qj E (some c) (.bool false)))
  | _=>False
 | .cond (.const (.bool true)) a _,Q,E=>I4 T S a Q E
 | .cond (.const (.bool false)) _ b,Q,E=>I4 T S b Q E
 | _,_,_=>False
def ahm (T:Tab)(E:Env):ResultVar->Option PV
 | .tmp t=>some (jD E.tmps t)
 | .cell a t=>match jD E.tmps a,T t with
  | .lv b c,{ ok:=true,agg,size,.. }=>match jk E.st b with
   | some (.var _ row)=>
    bif agg then(bif Nat.ble (c+size) (oG row) then some (.agg (Sm size (FP c row))) else none)
    else(bif Nat.blt c (oG row) then some (jD row c) else none)
   | _=>none
  | _,_=>none
def UD (T:Tab)(E:Env):List ResultVar->Option (List PV)
 | []=>some []
 | r::rs=>match ahm T E r with
  | none=>none
  | some v=>match UD T E rs with
   | none=>none
   | some vs=>some (v::vs)
def Iy:List PV->PV
 | [v]=>v
 | vs=>.DJ vs
def Zp (T:Tab)(S:iW)(rs:List ResultVar)(E:Env)(R:PV->Prop):Prop :=
 match UD T E rs with
 | some vs=>(match frz S (jk E.st) 7 (Iy vs) with|some v=>R v|none=>False)
 | none=>False
def ac4 (S:iW)(v:PV)(st:St)(n:Nat):PV×St×Nat :=
 match G6 [v] st with
 | ρ=>(match roS st ρ with
  | st'=>(match frz S (aaM st') 6 v with
   | some v'=>(v',st',n)
   | none=>(v,st,n)))
def Iz (S:iW)(c:Nat×Bool)(v:PV)(st:St)(n:Nat):PV×St×Nat :=
 match c with
 | (z+1,re)=>(match v with
  | .sl _ es f=>(match f with
   | true=>(match es with
    | []=>(.os n 0 0,oH st n (some (.arr false (z+1) [])),n+1)
    | _::_=>(v,st,n))
   | false=>(v,st,n))
  | .os b r m=>(match re with
   | true=>(match jk st b with
    | some (.arr false sz rows)=>(.os n 0 m,oH (oH st b none) n (some (.arr false sz (S.sub rows r m))),n+1)
    | _=>(v,st,n))
   | false=>(v,st,n))
  | _=>(v,st,n))
 | (0,true)=>(match v with
  | .os b r m=>(match jk st b with
   | some (.mg sz rows)=>(.sl sz (S.fz (S.sub rows r m)) false,oH st b none,n)
   | _=>ac4 S v st n)
  | _=>ac4 S v st n)
 | _=>(v,st,n)
def Dc (S:iW):List (Nat×Bool)->List PV->St->Nat->List PV×St×Nat
 | z::zs,v::vs,st,n=>match Iz S z v st n with
  | (v',st',n')=>match Dc S zs vs st' n' with
   | (vs',st2,n2)=>(v'::vs',st2,n2)
 | _,vs,st,n=>(vs,st,n)
def Wy (S:iW)(zs:List (Nat×Bool))(v:PV)(st:St)(n:Nat):PV×St×Nat :=
 match v with
 | .agg cs=>match Dc S zs cs st n with|(cs',st',n')=>(.agg cs',st',n')
 | v=>match zs with
  | [z]=>Iz S z v st n
  | _=>(v,st,n)
def Oj (S:iW):List (List (Nat×Bool))->List PV->St->Nat->List PV×St×Nat
 | zs::own,v::vs,st,n=>match Wy S zs v st n with
  | (v',st',n')=>match Oj S own vs st' n' with
   | (vs',st2,n2)=>(v'::vs',st2,n2)
 | _,vs,st,n=>(vs,st,n)
def WA (S:iW)(own:List (List (Nat×Bool)))(v:PV)(st:St)(n:Nat):PV×St×Nat :=
 match v with
 | .DJ vs=>match Oj S own vs st n with|(vs',st',n')=>(.DJ vs',st',n')
 | v=>match own with
  | [zs]=>Wy S zs v st n
  | _=>(v,st,n)
def SA (T:Tab)(S:iW)(rs:List ResultVar)(E:Env)(R:PV->St->Nat->Prop):Prop :=
 match UD T E rs with
 | some vs=>(match WA S T.own (Iy vs) E.st E.next with
  | (v,st,_)=>(match Sz T.qf st [v] with
   | ρ=>R (vI (DL ρ) 8 v) (yD (DL ρ) st 0 ρ) (lH ρ)))
 | none=>False
def aee (T:Tab)(S:iW)(rs:List ResultVar)(R:PV->St->Nat->Prop):Post
 | 0,E=>SA T S rs E R
 | 1,E=>SA T S rs E R
 | _+2,_=>False
def af2 (T:Tab)(S:iW)(rs:List ResultVar)(R:PV->Prop):Post
 | 0,E=>Zp T S rs E R
 | 1,E=>Zp T S rs E R
 | _+2,_=>False
def sF:Nat->List PV
 | 0=>[]
 | n+1=>.undef::sF n
end Go.Pv
namespace Go.Pv
open Go
structure Loc where
 cb:Nat
 co:Nat
 sz:Nat
 tot:Nat
 nr:Nat
abbrev Sg:=Nat->Option Loc
def iU:Sg:=λ_=>none
def Ol:Value->Bool
 | .agg _|.tuple _=>false
 | _=>true
mutual
def Rep (w:World)(Y:Nat->Prop)(σ:Sg):PV->Value->Prop
 | .bool b,v=>v=.bool b
 | .sb b,v=>v=.bool b
 | .int k n,v=>v=.int k n
 | .si k n,v=>v=.int k n
 | .str s,v=>v=.string s
 | .agg cs,v=>∃ vs:List Value,v=.agg vs.toArray/\gI w Y σ cs vs
 | .DJ cs,v=>∃ vs:List Value,v=.tuple vs.toArray/\gI w Y σ cs vs
 | .sl sz es full,v=>∃ a len cap,v=.slice a len cap/\len=es.length/\len<=cap/\(full=true->cap=len) /\
   (es=[]\/∃ b o,a=some ⟨b,o,none⟩/\(b<w.heap.size/\¬ Y b)/\jw w Y iU b sz es o)
 | .os b r n,v=>(∃ l cap,σ b=some l/\v=.slice (some ⟨l.cb,l.co+r*l.sz,none⟩) n cap/\(n<=cap/\cap<=9223372036854775807)/\l.co+r*l.sz+cap*l.sz=l.tot/\r+n<=l.nr) \/
   (n=0/\∃ a,v=.slice a 0 0)
 | .lv b c,v=>∃ l,σ b=some l/\v=.pointer (some ⟨l.cb,l.co+c,none⟩)
 | .lp b r c,v=>∃ l,σ b=some l/\v=.pointer (some ⟨l.cb,l.co+r*l.sz+c,none⟩)
 | .pp cs,v=>∃ b o,v=.pointer (some ⟨b,o,none⟩)/\(b<w.heap.size/\¬ Y b)/\jo w Y iU b cs o
 | .ow h _ es,v=>(h.cap≠0/\v=.slice (some ⟨h.ν,h.o,none⟩) es.length h.cap/\es.length<=h.cap/\h.cap<=9223372036854775807)\/(h.cap=0/\es=[]/\∃ a,v=.slice a 0 0)
 | .bo _ _ _ h sz n,v=>(h.cap≠0/\v=.slice (some ⟨h.ν,h.o,none⟩) n h.cap/\n<=h.cap/\h.cap<=9223372036854775807)\/(h.cap=0/\n=0/\∃ a,v=.slice a 0 0)
 | .np _ _ _ h sz j k,v=>v=.pointer (some ⟨h.ν,h.o+j*sz+k,none⟩)
 | .GU,v=>v=.pointer none
 | .fn f cs,v=>∃ vs:List Value,v=.func (.func f) #[] vs.toArray/\gI w Y σ cs vs
 | .Un,v=>v=.nilFunc
 | .mp b,v=>∃ l,σ b=some l/\v=.map (some l.cb)
 | .yl l,v=>v=.func (.yield l) #[] #[]
 | .hc,v=>Ol v=true
 | .top,_=>True
 | .undef,v=>v=Go.undef
def gI (w:World)(Y:Nat->Prop)(σ:Sg):List PV->List Value->Prop
 | [],vs=>vs=[]
 | c::cs,vs=>∃ v vs',vs=v::vs'/\Rep w Y σ c v/\gI w Y σ cs vs'
def jo (w:World)(Y:Nat->Prop)(σ:Sg)(b:Nat):List PV->Nat->Prop
 | [],_=>True
 | c::cs,o=>(∃ v,w.cell? ⟨b,o,none⟩=some v/\Rep w Y σ c v)/\jo w Y σ b cs (o+1)
def jw (w:World)(Y:Nat->Prop)(σ:Sg)(b sz:Nat):List (List PV)->Nat->Prop
 | [],_=>True
 | r::rs,o=>(r.length=sz/\iT r=true)/\jo w Y σ b r o/\jw w Y σ b sz rs (o+sz)
end
def oq (σ σ' : Sg):Prop:=∀ b l,σ b=some l->σ' b=some l
def Off (id:Nat)(σ σ' : Sg):Prop:=∀ b,b≠id->σ' b=σ b
theorem Off.refl (id:Nat)(σ:Sg):Off id σ σ:=λ_ _=>rfl
theorem oq.refl (σ:Sg):oq σ σ:=λ_ _ h=>h
theorem oq.trans {a b c:Sg}(h:oq a b)(k:oq b c):oq a c:=λx l e=>k x l (h x l e)
theorem O8 {w:World}{b o:Nat}{v:Value}(h:w.cell? ⟨b,o,none⟩=some v):b<w.heap.size:=by
 unfold World.cell? at h
 by_cases U:b<w.heap.size
 exact U
 simp[Array.getElem?_eq_none (Nat.le_of_not_lt U)] at h
theorem ac5 {w w' : World}{b:Nat}(h:w'.heap[b]?=w.heap[b]?)(o:Nat):w'.cell? ⟨b,o,none⟩=w.cell? ⟨b,o,none⟩:=by
 simp only[World.cell?,h]
structure Keep (w w' : World)(Y Y' : Nat->Prop)(σ σ' : Sg):Prop where
 heap:∀ k,k<w.heap.size->¬ Y k->w'.heap[k]?=w.heap[k]?
 excl:∀ k,k<w.heap.size->Y' k->Y k
 size:w.heap.size<=w'.heap.size
 sg:oq σ σ'
theorem Keep.none {w w' : World}{Y Y' : Nat->Prop}{σ σ' : Sg}(h:Keep w w' Y Y' σ σ'):Keep w w' Y Y' iU iU:=⟨h.heap,h.excl,h.size,oq.refl _⟩
mutual
theorem Rep.keep {w w' : World}{Y Y' : Nat->Prop}:∀ (p:PV) {σ σ' : Sg} (_:Keep w w' Y Y' σ σ') (v:Value),Rep w Y σ p v->Rep w' Y' σ' p v
 | .bool _,_,_,_,_,h|.sb _,_,_,_,_,h|.int _ _,_,_,_,_,h|.si _ _,_,_,_,_,h|.str _,_,_,_,_,h
 | .ow _ _ _,_,_,_,_,h|.bo _ _ _ _ _ _,_,_,_,_,h|.np _ _ _ _ _ _ _,_,_,_,_,h
 | .GU,_,_,_,_,h|.Un,_,_,_,_,h|.hc,_,_,_,_,h|.top,_,_,_,_,h|.undef,_,_,_,_,h=>by unfold Rep at h |-;exact h
 | .agg cs,_,_,K,v,h=>by
  unfold Rep at h |-;obtain⟨vs,e,h⟩:=h;exact⟨vs,e,gI.keep cs K vs h⟩
 | .DJ cs,_,_,K,v,h=>by
  unfold Rep at h |-;obtain⟨vs,e,h⟩:=h;exact⟨vs,e,gI.keep cs K vs h⟩
 | .fn f cs,_,_,K,v,h=>by
  unfold Rep at h |-;obtain⟨vs,e,h⟩:=h;exact⟨vs,e,gI.keep cs K vs h⟩
 | .sl sz es full,_,_,K,v,h=>by
  unfold Rep at h |-;obtain⟨a,len,cap,e,hl,hc,O,h⟩:=h;refine⟨a,len,cap,e,hl,hc,O,?_⟩;rcases h with h|⟨b,o,ha,⟨hs,U⟩,h⟩
  exact .inl h
  exact .inr ⟨b,o,ha,⟨Nat.lt_of_lt_of_le hs K.size,λhy=>U (K.excl b hs hy)⟩,jw.keep es K.none (λhk=>K.heap b hk U) o h⟩
 | .os b r n,_,_,K,v,h=>by
  unfold Rep at h |-;rcases h with ⟨l,cap,hs,e,h⟩|h
  exact .inl ⟨l,cap,K.sg _ _ hs,e,h⟩
  exact .inr h
 | .lv b c,_,_,K,v,h=>by
  unfold Rep at h |-;obtain⟨l,hs,e⟩:=h;exact⟨l,K.sg _ _ hs,e⟩
 | .mp b,_,_,K,v,h=>by
  unfold Rep at h |-;obtain⟨l,hs,e⟩:=h;exact⟨l,K.sg _ _ hs,e⟩
 | .yl _,_,_,_,v,h=>by unfold Rep at h |-;exact h
 | .lp b r c,_,_,K,v,h=>by
  unfold Rep at h |-;obtain⟨l,hs,e⟩:=h;exact⟨l,K.sg _ _ hs,e⟩
 | .pp cs,_,_,K,v,h=>by
  unfold Rep at h |-;obtain⟨b,o,e,⟨hs,U⟩,h⟩:=h;exact⟨b,o,e,⟨Nat.lt_of_lt_of_le hs K.size,λhy=>U (K.excl b hs hy)⟩,jo.keep cs K.none (λhk=>K.heap b hk U) o h⟩
theorem gI.keep {w w' : World}{Y Y' : Nat->Prop}:∀ (ps:List PV) {σ σ' : Sg} (_:Keep w w' Y Y' σ σ') (vs:List Value),gI w Y σ ps vs->gI w' Y' σ' ps vs
 | [],_,_,_,_,h=>by unfold gI at h |-;exact h
 | p::ps,_,_,K,vs,h=>by
  unfold gI at h |-;obtain⟨v,U,e,h1,h2⟩:=h;exact⟨v,U,e,Rep.keep p K v h1,gI.keep ps K U h2⟩
theorem jo.keep {w w' : World}{Y Y' : Nat->Prop}{b:Nat}:∀ (ps:List PV) {σ σ' : Sg} (_:Keep w w' Y Y' σ σ') (_:b<w.heap.size->w'.heap[b]?=w.heap[b]?) (o:Nat),jo w Y σ b ps o->jo w' Y' σ' b ps o
 | [],_,_,_,_,_,_=>by unfold jo;trivial
 | p::ps,_,_,K,hb,o,h=>by
  unfold jo at h |-;obtain⟨⟨v,hc,h1⟩,h2⟩:=h;exact⟨⟨v,by rw[ac5 (hb (O8 hc))];exact hc,Rep.keep p K v h1⟩,jo.keep ps K hb (o+1) h2⟩
theorem jw.keep {w w' : World}{Y Y' : Nat->Prop}{b sz:Nat}:∀ (rs:List (List PV)) {σ σ' : Sg} (_:Keep w w' Y Y' σ σ') (_:b<w.heap.size->w'.heap[b]?=w.heap[b]?) (o:Nat),jw w Y σ b sz rs o->jw w' Y' σ' b sz rs o
 | [],_,_,_,_,_,_=>by unfold jw;trivial
 | r::rs,_,_,K,hb,o,h=>by
  unfold jw at h |-;exact⟨h.1,jo.keep r K hb o h.2.1,jw.keep rs K hb (o+sz) h.2.2⟩
end
def mO.ro:mO->Bool
 | .var ro _=>ro
 | .arr ro _ _=>ro
 | .mg _ _=>false
 | .map _=>false
 | .nor _ _ _ _=>false
structure At (w:World)(l:Loc):Prop where
 blk:∃ arr ty,w.heap[l.cb]?=some (.cells arr ty (0,0))/\arr.size=l.tot
def pG (w:World)(Y:Nat->Prop):List MapEntry->List (List PV)->Prop
 | [],rows=>rows=[]
 | e::es,rows=>∃ n cs rows',rows=(.si .i64 n::cs)::rows'/\e.key=.int .i64 n/\(∃ vs:List Value,e.val=.agg vs.toArray/\gI w Y iU cs vs)/\pG w Y es rows'
theorem pG.keep {w w' : World}{Y Y' : Nat->Prop}(K:Keep w w' Y Y' iU iU):∀ (U:List MapEntry) (rows:List (List PV)),pG w Y U rows->pG w' Y' U rows
 | [],_,h=>h
 | _::U,_,⟨n,cs,rows',h1,h2,⟨vs,h3,h4⟩,h5⟩=>⟨n,cs,rows',h1,h2,⟨vs,h3,gI.keep cs K vs h4⟩,pG.keep K U rows' h5⟩
def gW (w:World)(Y:Nat->Prop)(σ:Sg)(l:Loc):mO->Prop
 | .var ro row=>At w l/\l.sz=row.length/\l.co+row.length<=l.tot/\jo w Y σ l.cb row l.co/\(ro=false->Y l.cb)/\(ro=true->¬ Y l.cb)
 | .arr ro sz rows=>At w l/\l.sz=sz/\0<sz/\(l.co+rows.length*sz<=l.tot/\rows.length=l.nr)/\jw w Y iU l.cb sz rows l.co/\(ro=false->Y l.cb)/\(ro=true->¬ Y l.cb)
 | .map rows=>(∃ es ck,w.heap[l.cb]?=some (.map es ck)/\pG w Y es.toList rows)/\Y l.cb
 | .mg sz rows=>At w l/\l.sz=sz/\0<sz/\(l.co+rows.length*sz<=l.tot/\rows.length=l.nr)/\jw w Y iU l.cb sz rows l.co/\Y l.cb
 | .nor sz rows r row=>At w l/\l.sz=sz/\0<sz/\(l.co+rows.length*sz<=l.tot/\rows.length=l.nr)/\(r<rows.length/\row.length=sz) /\
   (∀ i x,rows[i]?=some x->i≠r->(x.length=sz/\iT x=true)/\jo w Y iU l.cb x (l.co+i*sz))/\jo w Y σ l.cb row (l.co+r*sz)/\Y l.cb
inductive Emp:mO->Prop
 | arr (ro:Bool) (sz:Nat):Emp (.arr ro sz [])
 | mg (sz:Nat):Emp (.mg sz [])
structure EE (w:World)(Y:Nat->Prop)(σ:Sg)(st:St):Prop where
 blk:∀ b x,jk st b=some x->(∃ l,σ b=some l/\gW w Y σ l x)\/(σ b=none/\Emp x)
 inj:∀ b b' x x' l l',jk st b=some x->jk st b'=some x'->σ b=some l->σ b'=some l'->l.cb=l'.cb->b=b'
def ni (st:St)(b r c:Nat)(h:Hdr)(sz:Nat)(es:List (List PV)):Prop:=∃ sz0 rows row,jk st b=some (.mg sz0 rows)/\rows[r]?=some row/\row[c]?=some (.ow h sz es)/\h.cap≠0
theorem ni.same {st st' : St}{b r c:Nat}{h:Hdr}{sz:Nat}{T:List (List PV)}(e:jk st' b=jk st b)(k:ni st' b r c h sz T):ni st b r c h sz T:=by
 obtain⟨U,rows,row,h1,h2⟩:=k;exact⟨U,rows,row,by rw[<- e];exact h1,h2⟩
theorem ni.sub {st st' : St}{b r c:Nat}{h:Hdr}{sz:Nat}{T:List (List PV)}(e:∀ x,jk st' b=some x->jk st b=some x)(k:ni st' b r c h sz T):ni st b r c h sz T:=by
 obtain⟨U,rows,row,h1,h2⟩:=k;exact⟨U,rows,row,e _ h1,h2⟩
structure XE (w:World)(Y:Nat->Prop)(h:Hdr)(sz:Nat)(es:List (List PV)):Prop where
 own:Y h.ν
 pos:0<sz
 blk:∃ arr ty,w.heap[h.ν]?=some (.cells arr ty (0,0))/\arr.size=h.o+h.cap*sz
 len:es.length<=h.cap
 rows:jw w Y iU h.ν sz es h.o
structure Ctx (T:Tab) where
 w0:World
 Y0:Nat->Prop
 L:Nat->Prop
 M:Nat->Prop
 base:Sg
 df:List Deferred
structure KL (M:Nat->Prop)(w0 w:World):Prop where
 os:w.os=w0.os
 tape:w.tape=w0.tape
 output:w.output=w0.output
 size:w0.heap.size<=w.heap.size
 block:∀ k,k<w0.heap.size->¬ M k->w.heap[k]?=w0.heap[k]?
structure Chg (w0 w:World):Prop where
 os:w.os=w0.os
 tape:w.tape=w0.tape
 output:w.output=w0.output
 size:w0.heap.size<=w.heap.size
 block:∀ k,k<w0.heap.size->w.heap[k]?=w0.heap[k]?
theorem Chg.refl (w:World):Chg w w:=⟨rfl,rfl,rfl,Nat.le_refl _,λ_ _=>rfl⟩
theorem KL.refl (M:Nat->Prop)(w:World):KL M w w:=⟨rfl,rfl,rfl,Nat.le_refl _,λ_ _ _=>rfl⟩
theorem KL.qm {M:Nat->Prop}{a b:World}(h:KL M a b)(hM:∀ k,¬ M k):Chg a b:=⟨h.os,h.tape,h.output,h.size,λk hk=>h.block k hk (hM k)⟩
theorem KL.trans {M:Nat->Prop}{a b c:World}(h:KL M a b)(k:KL M b c):KL M a c :=
 ⟨by rw[k.os,h.os],by rw[k.tape,h.tape],by rw[k.output,h.output],Nat.le_trans h.size k.size,λi hi U=>by rw[k.block i (Nat.lt_of_lt_of_le hi h.size) U,h.block i hi U]⟩
def TD (G:Nat->Option (List PV))(w:World)(Y:Nat->Prop):Prop:=∀ g cs,G g=some cs->Rep w Y iU (.pp cs) (.pointer (some ⟨g,0,none⟩))
theorem TD.keep {G:Nat->Option (List PV)}{w w' : World}{Y Y' : Nat->Prop}(h:TD G w Y)(K:Keep w w' Y Y' iU iU):TD G w' Y':=λg cs U=>Rep.keep _ K _ (h g cs U)
theorem Chg.below {a b:World}(h:Chg a b):RowKit.Below a.heap.size a b:=⟨h.os,h.tape,h.output,h.size,h.block⟩
structure Aj (w0:World)(L:Nat->Prop)(w:World)(Y:Nat->Prop)(σ:Sg)(st:St):Prop where
 rep:∀ b r c h sz es,ni st b r c h sz es->XE w Y h sz es
 old:∀ b r c h sz es,ni st b r c h sz es->w0.heap.size<=h.ν\/L h.ν
 one:∀ b r c h sz es b' r' c' h' sz' es',ni st b r c h sz es->ni st b' r' c' h' sz' es'->h.ν=h'.ν->b=b'/\r=r'/\c=c'
 sep:∀ b r c h sz es b' x l,ni st b r c h sz es->jk st b'=some x->σ b'=some l->l.cb≠h.ν
theorem XE.lt {w:World}{Y:Nat->Prop}{h:Hdr}{sz:Nat}{T:List (List PV)}(H:XE w Y h sz T):h.ν<w.heap.size:=by
 obtain⟨arr,ty,h1,_⟩:=H.blk
 by_cases U:h.ν<w.heap.size
 exact U
 simp[Array.getElem?_eq_none (Nat.le_of_not_lt U)] at h1
theorem XE.keep {w w' : World}{Y Y' : Nat->Prop}{h:Hdr}{sz:Nat}{U:List (List PV)}(H:XE w Y h sz U)(K:Keep w w' Y Y' iU iU)(T:w'.heap[h.ν]?=w.heap[h.ν]?)(J:Y h.ν->Y' h.ν):XE w' Y' h sz U :=
 ⟨J H.own,H.pos,by rw[T];exact H.blk,H.len,jw.keep U K (λ_=>T) _ H.rows⟩
theorem Aj.none {w0 w:World}{L Y:Nat->Prop}{σ:Sg}{st:St}(h:∀ b sz rows,jk st b≠some (.mg sz rows)):Aj w0 L w Y σ st:=by
 have no:∀ {b r c h sz es},ni st b r c h sz es->False:=λ⟨_,_,_,h1,_⟩=>h _ _ _ h1;exact⟨λ_ _ _ _ _ _ k=>(no k).elim,λ_ _ _ _ _ _ k=>(no k).elim,λ_ _ _ _ _ _ _ _ _ _ _ _ k=>(no k).elim,λ_ _ _ _ _ _ _ _ _ k=>(no k).elim⟩
theorem Aj.keep {w0 w w' : World}{L Y Y' : Nat->Prop}{σ σ' : Sg}{st st' : St}(H:Aj w0 L w Y σ st)(K:Keep w w' Y Y' iU iU)
  (U:∀ b r c h sz T,ni st' b r c h sz T->ni st b r c h sz T)
  (J:∀ b r c h sz T,ni st' b r c h sz T->w'.heap[h.ν]?=w.heap[h.ν]?)
  (g:∀ b r c h sz T,ni st' b r c h sz T->Y' h.ν)
  (I:∀ b r c h sz T C x l,ni st' b r c h sz T->jk st' C=some x->σ' C=some l->l.cb≠h.ν):Aj w0 L w' Y' σ' st' :=
 ⟨λb r c h sz T k=>(H.rep _ _ _ _ _ _ (U _ _ _ _ _ _ k)).keep K (J _ _ _ _ _ _ k) (λ_=>g _ _ _ _ _ _ k),
   λb r c h sz T k=>H.old _ _ _ _ _ _ (U _ _ _ _ _ _ k),
   λb r c h sz T C r' c' h' sz' es' k k' e=>H.one _ _ _ _ _ _ _ _ _ _ _ _ (U _ _ _ _ _ _ k) (U _ _ _ _ _ _ k') e,I⟩
theorem Aj.sub {w0 w:World}{L Y:Nat->Prop}{σ:Sg}{st st' : St}(H:Aj w0 L w Y σ st)(h:∀ b x,jk st' b=some x->jk st b=some x):Aj w0 L w Y σ st' :=
 H.keep ⟨λ_ _ _=>rfl,λ_ _ h=>h,Nat.le_refl _,oq.refl _⟩ (λb _ _ _ _ _ k=>k.sub (h b)) (λ_ _ _ _ _ _ _=>rfl) (λb r c J sz U k=>(H.rep _ _ _ _ _ _ (k.sub (h b))).own)
  (λb r c J sz U T x l k hx hl=>H.sep _ _ _ _ _ _ _ _ _ (k.sub (h b)) (h T x hx) hl)
theorem Aj.heap {w0 w w' : World}{L Y:Nat->Prop}{σ:Sg}{st:St}(H:Aj w0 L w Y σ st)(hs:w.heap.size<=w'.heap.size)(hh:∀ k,k<w.heap.size->w'.heap[k]?=w.heap[k]?):Aj w0 L w' Y σ st :=
 H.keep ⟨λk hk _=>hh k hk,λ_ _ h=>h,hs,oq.refl _⟩ (λ_ _ _ _ _ _ k=>k) (λ_ _ _ _ _ _ k=>hh _ (H.rep _ _ _ _ _ _ k).lt) (λ_ _ _ _ _ _ k=>(H.rep _ _ _ _ _ _ k).own) H.sep
structure SW {T:Tab}(C:Ctx T)(w:World)(Y:Nat->Prop)(σ:Sg)(ps:List PV)(vs:List Value)(st:St)(n:Nat):Prop where
 vals:gI w Y σ ps vs
 store:EE w Y σ st
 next:∀ b,n<=b->σ b=none
 vJ:∀ k,Y k->k<w.heap.size
 y0:∀ k,C.Y0 k->Y k
 c0:∀ k,C.Y0 k->k<C.w0.heap.size/\¬ C.L k
 wS:∀ k,Y k->k<C.w0.heap.size->C.Y0 k\/C.M k
 qm:KL C.M C.w0 w
 own:∀ b x l,jk st b=some x->σ b=some l->C.w0.heap.size<=l.cb\/C.L l.cb
 wU:TD T.gl w Y
 fix:T.qf<=n/\∀ b,b<T.qf->σ b=C.base b
 nest:Aj C.w0 C.L w Y σ st
theorem SW.away {T:Tab}{C:Ctx T}{w:World}{Y:Nat->Prop}{σ:Sg}{ps:List PV}{vs:List Value}{st:St}{n:Nat}(H:SW C w Y σ ps vs st n){b:Nat}{x:mO}{l:Loc}(hx:jk st b=some x)(hl:σ b=some l):¬ C.Y0 l.cb:=λh=>by
 have h1:=H.c0 _ h;rcases H.own b x l hx hl with h2|h2
 omega
 exact h1.2 h2
theorem SW.mono {T:Tab}{C:Ctx T}{w:World}{Y:Nat->Prop}{σ:Sg}{ps:List PV}{vs:List Value}{st:St}{n U : Nat}(H:SW C w Y σ ps vs st n)(h:n<=U):SW C w Y σ ps vs st U :=
 ⟨H.vals,H.store,λb J=>H.next b (Nat.le_trans h J),H.vJ,H.y0,H.c0,H.wS,H.qm,H.own,H.wU,⟨Nat.le_trans H.fix.1 h,H.fix.2⟩,H.nest⟩
theorem SW.rG {T:Tab}{C:Ctx T}{w:World}{Y:Nat->Prop}{σ:Sg}{ps U : List PV}{vs J : List Value}{st:St}{n:Nat}(H:SW C w Y σ ps vs st n)(h:gI w Y σ U J):SW C w Y σ U J st n :=
 ⟨h,H.store,H.next,H.vJ,H.y0,H.c0,H.wS,H.qm,H.own,H.wU,H.fix,H.nest⟩
def ahn {T:Tab}(C:Ctx T)(E:Env)(vs:List Value)(w:World):Prop:=∃ Y σ,SW C w Y σ E.tmps vs E.st E.next
theorem gI.get {w:World}{Y:Nat->Prop}{σ:Sg}:∀ (ps:List PV) (vs:List Value) (t:Nat),gI w Y σ ps vs->Rep w Y σ (jD ps t) (vs.getD t Go.undef)
 | [],vs,t,h=>by unfold gI at h;subst h;simp[jD,Rep]
 | p::ps,vs,0,h=>by unfold gI at h;obtain⟨v,U,rfl,h1,_⟩:=h;simpa [jD] using h1
 | p::ps,vs,t+1,h=>by
  unfold gI at h;obtain⟨v,U,rfl,_,h2⟩:=h
  simpa [jD] using gI.get ps U t h2
theorem gI.length {w:World}{Y:Nat->Prop}{σ:Sg}:∀ (ps:List PV) (vs:List Value),gI w Y σ ps vs->vs.length=ps.length
 | [],vs,h=>by unfold gI at h;subst h;rfl
 | p::ps,vs,h=>by unfold gI at h;obtain⟨v,U,rfl,_,h2⟩:=h;simp[gI.length ps U h2]
theorem gI.set {w:World}{Y:Nat->Prop}{σ:Sg}{p:PV}{v:Value}(hp:Rep w Y σ p v):∀ (ps:List PV) (vs:List Value) (t:Nat),gI w Y σ ps vs->gI w Y σ (nY ps t p) (vs.set t v)
 | [],vs,t,h=>by unfold gI at h;subst h;simp[nY,gI]
 | q::ps,vs,0,h=>by
  unfold gI at h;obtain⟨u,U,rfl,_,h2⟩:=h;simp only[nY,List.set_cons_zero];unfold gI;exact⟨v,U,rfl,hp,h2⟩
 | q::ps,vs,t+1,h=>by
  unfold gI at h;obtain⟨u,U,rfl,h1,h2⟩:=h;simp only[nY,List.set_cons_succ];unfold gI;exact⟨u,_,rfl,h1,gI.set hp ps U t h2⟩
theorem gI.app {w:World}{Y:Nat->Prop}{σ:Sg}:∀ (ps qs:List PV) (vs us:List Value),gI w Y σ ps vs->gI w Y σ qs us->gI w Y σ (vk ps qs) (vs++us)
 | [],qs,vs,us,h,k=>by unfold gI at h;subst h;simpa [vk] using k
 | p::ps,qs,vs,us,h,k=>by
  unfold gI at h;obtain⟨v,U,rfl,h1,h2⟩:=h;simp only[vk,List.cons_append];unfold gI;exact⟨v,_,rfl,h1,gI.app ps qs U us h2 k⟩
@[simp] theorem vK:∀ l,oG l=l.length
 | []=>rfl
 | _::l=>by simp[oG,vK l]
@[simp] theorem KQ:∀ n l,Sm n l=l.take n
 | 0,l=>by simp[Sm]
 | n+1,[]=>by simp[Sm]
 | n+1,x::l=>by simp[Sm,KQ n l]
@[simp] theorem yP:∀ n l,FP n l=l.drop n
 | 0,l=>by simp[FP]
 | n+1,[]=>by simp[FP]
 | n+1,x::l=>by simp[FP,yP n l]
@[simp] theorem XF:∀ l m,vk l m=l++m
 | [],m=>by simp[vk]
 | x::l,m=>by simp[vk,XF l m]
theorem rM:∀ l n v,nY l n v=l.set n v
 | [],n,v=>by simp[nY]
 | x::l,0,v=>by simp[nY]
 | x::l,n+1,v=>by simp[nY,rM l n v]
theorem Df:∀ l n,jD l n=l.getD n .undef
 | [],n=>by simp[jD]
 | x::l,0=>by simp[jD]
 | x::l,n+1=>by simpa [jD] using Df l n
theorem Om {w:World}{Y:Nat->Prop}{σ:Sg}{p:PV}{v:Value}(hp:tu p=true)(h:Rep w Y σ p v):Ol v=true:=by
 cases p<;>simp[tu] at hp<;>unfold Rep at h
 case sl=>obtain⟨_,_,_,e,_⟩:=h;subst e;rfl
 case os=>
  rcases h with ⟨_,_,_,e,_⟩|⟨_,_,e⟩<;>subst e<;>rfl
 case lv=>obtain⟨_,_,e⟩:=h;subst e;rfl
 case lp=>obtain⟨_,_,e⟩:=h;subst e;rfl
 case mp=>obtain⟨_,_,e⟩:=h;subst e;rfl
 case pp=>obtain⟨_,_,e,_⟩:=h;subst e;rfl
 case fn=>obtain⟨_,e,_⟩:=h;subst e;rfl
 case ow=>rcases h with ⟨_,e,_⟩|⟨_,_,_,e⟩<;>subst e<;>rfl
 case bo=>rcases h with ⟨_,e,_⟩|⟨_,_,_,e⟩<;>subst e<;>rfl
 case hc=>exact h
 all_goals (subst h;rfl)
theorem Zq {w:World}{Y:Nat->Prop}{σ:Sg}{p:PV}{v:Value}(h:Rep w Y σ p v):Rep w Y σ (ac1 p) v:=by
 unfold ac1
 split
 rename_i hp;unfold Rep;exact Om hp h
 simp[Rep]
theorem jo.hid {w:World}{Y:Nat->Prop}{σ:Sg}{b:Nat}:∀ (cs:List PV) (c o:Nat),jo w Y σ b cs o->jo w Y σ b (nY cs c (ac1 (jD cs c))) o
 | [],c,o,h=>by cases c<;>exact h
 | x::cs,0,o,h=>by
  unfold jo at h;simp only[nY,jD];unfold jo;obtain⟨⟨v,h1,U⟩,h2⟩:=h;exact⟨⟨v,h1,Zq U⟩,h2⟩
 | x::cs,c+1,o,h=>by
  unfold jo at h;simp only[nY,jD];unfold jo;exact⟨h.1,jo.hid cs c (o+1) h.2⟩
theorem gI.hid {w:World}{Y:Nat->Prop}{σ:Sg}:∀ (cs:List PV) (c:Nat) (vs:List Value),gI w Y σ cs vs->gI w Y σ (nY cs c (ac1 (jD cs c))) vs
 | [],c,vs,h=>by cases c<;>exact h
 | x::cs,0,vs,h=>by
  unfold gI at h;simp only[nY,jD];unfold gI;obtain⟨v,U,e,h1,h2⟩:=h;exact⟨v,U,e,Zq h1,h2⟩
 | x::cs,c+1,vs,h=>by
  unfold gI at h;simp only[nY,jD];unfold gI;obtain⟨v,U,e,h1,h2⟩:=h;exact⟨v,U,e,h1,gI.hid cs c U h2⟩
theorem aef {w:World}{Y:Nat->Prop}{σ:Sg}(c:Nat)(p:PV)(v:Value)(h:Rep w Y σ p v):Rep w Y σ (af0 c p) v:=by
 unfold af0
 split
 unfold Rep at h |-;obtain⟨vs,e,h⟩:=h;exact⟨vs,e,gI.hid _ c _ h⟩
 unfold Rep at h |-;obtain⟨b,o,e,h1,h⟩:=h;exact⟨b,o,e,h1,jo.hid _ c _ h⟩
 exact h
theorem gI.aiw {w:World}{Y:Nat->Prop}{σ:Sg}(f:PV->PV)(O:∀ p v,Rep w Y σ p v->Rep w Y σ (f p) v):∀ (ps:List PV) (i:Nat) (vs:List Value),gI w Y σ ps vs->gI w Y σ (nY ps i (f (jD ps i))) vs
 | [],i,vs,h=>by cases i<;>exact h
 | x::ps,0,vs,h=>by
  unfold gI at h;simp only[nY,jD];unfold gI;obtain⟨v,U,e,h1,h2⟩:=h;exact⟨v,U,e,O _ _ h1,h2⟩
 | x::ps,i+1,vs,h=>by
  unfold gI at h;simp only[nY,jD];unfold gI;obtain⟨v,U,e,h1,h2⟩:=h;exact⟨v,U,e,h1,gI.aiw f O ps i U h2⟩
theorem FB {w:World}{Y:Nat->Prop}{σ:Sg}:∀ (l:List (Nat×Nat)) (ps:List PV) (vs:List Value),gI w Y σ ps vs->gI w Y σ (FQ l ps) vs
 | [],ps,vs,h=>h
 | (i,c)::l,ps,vs,h=>FB l _ vs (gI.aiw (af0 c) (λp v h=>aef c p v h) ps i vs h)
theorem jo.get {w:World}{Y:Nat->Prop}{σ:Sg}{b:Nat}:∀ (ps:List PV) (o i:Nat),jo w Y σ b ps o->i<ps.length->∃ v,w.cell? ⟨b,o+i,none⟩=some v/\Rep w Y σ (jD ps i) v
 | [],_,_,_,h=>by simp at h
 | p::ps,o,0,h,_=>by unfold jo at h;simpa [jD] using h.1
 | p::ps,o,i+1,h,hi=>by
  unfold jo at h;have:=jo.get ps (o+1) i h.2 (by simpa using hi);rw[show o+(i+1)=o+1+i by omega];simpa [jD] using this
theorem jo.drop {w:World}{Y:Nat->Prop}{σ:Sg}{b:Nat}:∀ (n:Nat) (ps:List PV) (o:Nat),jo w Y σ b ps o->jo w Y σ b (ps.drop n) (o+n)
 | 0,ps,o,h=>by simpa using h
 | n+1,[],o,h=>by simp[jo]
 | n+1,p::ps,o,h=>by
  unfold jo at h;have:=jo.drop n ps (o+1) h.2;rw[show o+(n+1)=o+1+n by omega];simpa using this
theorem jo.take {w:World}{Y:Nat->Prop}{σ:Sg}{b:Nat}:∀ (n:Nat) (ps:List PV) (o:Nat),jo w Y σ b ps o->jo w Y σ b (ps.take n) o
 | 0,ps,o,h=>by simp[jo]
 | n+1,[],o,h=>by simp[jo]
 | n+1,p::ps,o,h=>by
  unfold jo at h;simp only[List.take_succ_cons];unfold jo;exact⟨h.1,jo.take n ps (o+1) h.2⟩
theorem jo.vals {w:World}{Y:Nat->Prop}{σ:Sg}{b:Nat}:∀ (ps:List PV) (o:Nat),jo w Y σ b ps o ->
  ∃ vs:List Value,gI w Y σ ps vs/\∀ i v,vs[i]?=some v->w.cell? ⟨b,o+i,none⟩=some v
 | [],o,_=>⟨[],by unfold gI;rfl,by simp⟩
 | p::ps,o,h=>by
  unfold jo at h;obtain⟨⟨v,hc,h1⟩,h2⟩:=h;obtain⟨vs,hr,hv⟩:=jo.vals ps (o+1) h2;refine⟨v::vs,by unfold gI;exact⟨v,vs,rfl,h1,hr⟩,λi u hu=>?_⟩
  cases i with
  | zero=>simp at hu;subst hu;simpa using hc
  | succ i=>rw[show o+(i+1)=o+1+i by omega];exact hv i u (by simpa using hu)
theorem jo.Jz {w:World}{Y:Nat->Prop}{σ:Sg}{b:Nat}:∀ (ps:List PV) (vs:List Value) (o:Nat),gI w Y σ ps vs->(∀ i v,vs[i]?=some v->w.cell? ⟨b,o+i,none⟩=some v)->jo w Y σ b ps o
 | [],vs,o,_,_=>by unfold jo;trivial
 | p::ps,vs,o,h,hc=>by
  unfold gI at h;obtain⟨v,U,rfl,h1,h2⟩:=h;unfold jo;refine⟨⟨v,by simpa using hc 0 v rfl,h1⟩,jo.Jz ps U (o+1) h2 λi u hu=>?_⟩;rw[show o+1+i=o+(i+1) by omega];exact hc (i+1) u (by simpa using hu)
theorem jw.row {w:World}{Y:Nat->Prop}{σ:Sg}{b sz:Nat}:∀ (rs:List (List PV)) (o i:Nat) (row:List PV),jw w Y σ b sz rs o->rs[i]?=some row->(row.length=sz/\iT row=true)/\jo w Y σ b row (o+i*sz)
 | [],_,_,_,_,h=>by simp at h
 | r::rs,o,0,row,h,hi=>by unfold jw at h;simp at hi;subst hi;exact⟨h.1,by simpa using h.2.1⟩
 | r::rs,o,i+1,row,h,hi=>by
  unfold jw at h;have:=jw.row rs (o+sz) i row h.2.2 (by simpa using hi);refine⟨this.1,?_⟩;rw[show o+(i+1)*sz=o+sz+i*sz by rw[Nat.add_mul];omega];exact this.2
theorem jw.drop {w:World}{Y:Nat->Prop}{σ:Sg}{b sz:Nat}:∀ (n:Nat) (rs:List (List PV)) (o:Nat),jw w Y σ b sz rs o->jw w Y σ b sz (rs.drop n) (o+n*sz)
 | 0,rs,o,h=>by simpa using h
 | n+1,[],o,h=>by simp[jw]
 | n+1,r::rs,o,h=>by
  unfold jw at h;have:=jw.drop n rs (o+sz) h.2.2;rw[show o+(n+1)*sz=o+sz+n*sz by rw[Nat.add_mul];omega];simpa using this
theorem jw.take {w:World}{Y:Nat->Prop}{σ:Sg}{b sz:Nat}:∀ (n:Nat) (rs:List (List PV)) (o:Nat),jw w Y σ b sz rs o->jw w Y σ b sz (rs.take n) o
 | 0,rs,o,h=>by simp[jw]
 | n+1,[],o,h=>by simp[jw]
 | n+1,r::rs,o,h=>by
  unfold jw at h;simp only[List.take_succ_cons];unfold jw;exact⟨h.1,h.2.1,jw.take n rs (o+sz) h.2.2⟩
theorem jw.app {w:World}{Y:Nat->Prop}{σ:Sg}{b sz:Nat}:∀ (rs qs:List (List PV)) (o:Nat),jw w Y σ b sz rs o->jw w Y σ b sz qs (o+rs.length*sz)->jw w Y σ b sz (rs++qs) o
 | [],qs,o,_,k=>by simpa using k
 | r::rs,qs,o,h,k=>by
  unfold jw at h;simp only[List.cons_append];unfold jw;refine⟨h.1,h.2.1,jw.app rs qs (o+sz) h.2.2 ?_⟩;rw[show o+sz+rs.length*sz=o+(r::rs).length*sz by simp[Nat.add_mul];omega];exact k
end Go.Pv
namespace Go.Pv
open Go
inductive Tr (α:Type) where
 | e
 | n (v:α) (l r:Tr α)
abbrev Sb:=Tr (Option mO)
abbrev Rs:=Option (PV×Dl)
structure EV where
 tm:Tr PV
 n:Nat
 st:Sb
 nx:Nat
abbrev Oe:=Option EV
abbrev ag1:=Nat->List PV->Sb->Nat->Option (PV×Sb×Nat)
inductive Nm where
 | no
 | one (b:Nat)
 | var (b:Nat)
 | many (l:List PV)
noncomputable def getP:Tr PV->Nat->PV:=λt k=>Tr.rec (motive:=λ_=>Nat->PV) (λ_=>PV.undef) (λv _ _ gl gr k=>Nat.rec (motive:=λ_=>PV) v (λm _=>Bool.rec (motive:=λ_=>PV) (gr (Nat.div m 2)) (gl (Nat.div m 2)) (Nat.beq (Nat.mod m 2) 0)) k) t k
noncomputable def aeg:Sb->Nat->Option mO:=λt k=>Tr.rec (motive:=λ_=>Nat->Option mO) (λ_=>none) (λv _ _ gl gr k=>Nat.rec (motive:=λ_=>Option mO) v (λm _=>Bool.rec (motive:=λ_=>Option mO) (gr (Nat.div m 2)) (gl (Nat.div m 2)) (Nat.beq (Nat.mod m 2) 0)) k) t k
noncomputable def setP:PV->Nat->Tr PV->Tr PV:=λx k t=>Nat.rec (motive:=λ_=>PV->Nat->Tr PV->Tr PV) (λ_ _ t=>t) (λ_ ih x k t=>Tr.rec (motive:=λ_=>Tr PV) (Nat.rec (motive:=λ_=>Tr PV) (Tr.n x Tr.e Tr.e) (λm _=>Bool.rec (motive:=λ_=>Tr PV) (Tr.n PV.undef Tr.e (ih x (Nat.div m 2) Tr.e)) (Tr.n PV.undef (ih x (Nat.div m 2) Tr.e) Tr.e) (Nat.beq (Nat.mod m 2) 0)) k) (λv l r _ _=>Nat.rec (motive:=λ_=>Tr PV) (Tr.n x l r) (λm _=>Bool.rec (motive:=λ_=>Tr PV) (Tr.n v l (ih x (Nat.div m 2) r)) (Tr.n v (ih x (Nat.div m 2) l) r) (Nat.beq (Nat.mod m 2) 0)) k) t) (Nat.succ k) x k t
noncomputable def setB:Option mO->Nat->Sb->Sb:=λx k t=>Nat.rec (motive:=λ_=>Option mO->Nat->Sb->Sb) (λ_ _ t=>t) (λ_ ih x k t=>Tr.rec (motive:=λ_=>Sb) (Nat.rec (motive:=λ_=>Sb) (Tr.n x Tr.e Tr.e) (λm _=>Bool.rec (motive:=λ_=>Sb) (Tr.n none Tr.e (ih x (Nat.div m 2) Tr.e)) (Tr.n none (ih x (Nat.div m 2) Tr.e) Tr.e) (Nat.beq (Nat.mod m 2) 0)) k) (λv l r _ _=>Nat.rec (motive:=λ_=>Sb) (Tr.n x l r) (λm _=>Bool.rec (motive:=λ_=>Sb) (Tr.n v l (ih x (Nat.div m 2) r)) (Tr.n v (ih x (Nat.div m 2) l) r) (Nat.beq (Nat.mod m 2) 0)) k) t) (Nat.succ k) x k t
noncomputable def appR:List PV->List PV->List PV:=λl m=>List.rec (motive:=λ_=>List PV) m (λx _ ih=>x::ih) l
noncomputable def aho:Nat->List PV->List PV:=λn l=>Nat.rec (motive:=λ_=>List PV->List PV) (λ_=>[]) (λ_ ih l=>appR l (ih l)) n l
noncomputable def notB:Bool->Bool:=λb=>Bool.rec (motive:=λ_=>Bool) true false b
noncomputable def one (v:PV):Rs:=some (v,[])
noncomputable def aeh:Tr PV->Nat->Option Nat->PV->Tr PV:=λtm n dst v=>Option.rec (motive:=λ_=>Tr PV) tm (λd=>Bool.rec (motive:=λ_=>Tr PV) tm (setP v d tm) (Nat.ble (Nat.succ d) n)) dst
noncomputable def noN:Option mO->Option mO:=λx=>Option.rec (motive:=λ_=>Option mO) none (λx=>mO.rec (motive:=λ_=>Option mO) (λro row=>some (mO.var ro row)) (λro sz rows=>some (mO.arr ro sz rows)) (λ_ _=>none) (λrows=>some (mO.map rows)) (λsz rows r row=>some (mO.nor sz rows r row)) x) x
noncomputable def ag2:Dl->Sb->Sb:=λδ st=>List.rec (motive:=λ_=>Sb->Sb) (λst=>st) (λx _ ih st=>ih (setB (noN x.2) x.1 st)) δ st
noncomputable def aix:Dl->List Nat:=λδ=>List.rec (motive:=λ_=>List Nat) [] (λx _ ih=>x.1::ih) δ
noncomputable def allR (f:Nat->Bool):List Nat->Bool:=λl=>List.rec (motive:=λ_=>Bool) true (λx _ ih=>Bool.rec (motive:=λ_=>Bool) false ih (f x)) l
noncomputable def fin:Rs->Tr PV->Nat->Sb->Nat->Option Nat->Oe:=λr tm n st nx dst=>Option.rec (motive:=λ_=>Oe) none (λp=>Prod.rec (motive:=λ_=>Oe) (λv δ=>List.rec (motive:=λ_=>Oe) (some ⟨aeh tm n dst v,n,st,nx⟩) (λ_ _ _=>Bool.rec (motive:=λ_=>Oe) none (Nat.rec (motive:=λ_=>Oe) (some ⟨aeh tm n dst v,n,ag2 δ st,1⟩) (λm _=>some ⟨aeh tm n dst v,n,ag2 δ st,Nat.succ (Nat.succ m)⟩) nx) (allR (λb=>Nat.ble b nx) (aix δ))) δ) p) r
noncomputable def VO:List Nat->Nat->Bool:=λl b=>List.rec (motive:=λ_=>Bool) false (λc _ ih=>Bool.rec (motive:=λ_=>Bool) ih true (Nat.beq c b)) l
noncomputable def meets:List Nat->List Nat->Bool:=λl m=>List.rec (motive:=λ_=>Bool) false (λc _ ih=>Bool.rec (motive:=λ_=>Bool) ih true (VO m c)) l
where
 eqRow (f:PV->PV->Bool):List PV->List PV->Bool
  | [],[]=>true
  | x::xs,y::ys=>f x y&&eqRow f xs ys
  | _,_=>false
 eqRows (f:PV->PV->Bool):List (List PV)->List (List PV)->Bool
  | [],[]=>true
  | x::xs,y::ys=>eqRow f x y&&eqRows f xs ys
  | _,_=>false
abbrev Tc:=List Nat×List Nat×List Nat
noncomputable def pairT (B:List (List Nat))(i k:Nat)(x y:Tc):Bool :=
 match meets x.2.1 y.1 || (meets x.2.1 y.2.1 || meets y.2.1 x.1) with
 | false=>true
 | true=>VO (BV B k) i || notB (meets x.2.2 y.1 || (meets x.2.2 y.2.2 || meets y.2.2 x.1))
noncomputable def aei (B:List (List Nat))(i:Nat)(x:Tc):List Tc->Nat->Bool
 | [],_=>true
 | y::l,k=>pairT B i k x y&&aei B i x l (k+1)
noncomputable def ac6 (B:List (List Nat)):List Tc->Nat->Bool
 | [],_=>true
 | x::l,i=>aei B i x l (i+1)&&ac6 B l (i+1)
end Go.Pv
namespace Go.Pv
open Go
def YOK {T:Tab}(C:Ctx T):Prop:=∀ l rc pv,T.yl=some (l,rc,pv)->C.Y0 l/\¬ C.M l/\C.w0.heap[l]?=some (.loop rc)/\0<T.qf/\∃ l0,C.base 0=some l0/\pv=.pointer (some ⟨l0.cb,l0.co,none⟩)
def DF {T:Tab}(C:Ctx T)(a:Act):Prop:=a.defers=C.df/\YOK C
theorem YOK.none {T:Tab}{C:Ctx T}(h:T.yl=none):YOK C:=λ_ _ _ e=>by rw[h] at e;cases e
theorem DF.put {T:Tab}{C:Ctx T}{a:Act}(h:DF C a)(d:Option Nat)(v:Value):DF C (a.put d v):=⟨by cases d<;>exact h.1,h.2⟩
def lL {T:Tab}(C:Ctx T)(E:Env)(a:Act)(w:World):Prop:=ahn C E a.tmps.toList w/\DF C a
def lift {T:Tab}(C:Ctx T)(Q:Post):Exit->Act->World->Prop
 | .normal,a,w=>∃ E,lL C E a w/\Q 0 E
 | .ret,a,w=>∃ E,lL C E a w/\Q 1 E
 | .exit n,a,w=>∃ E,lL C E a w/\Q (n+2) E
 | _,_,_=>False
def TR (P:Program)(T:Tab)(c:Code)(Q:Post)(E:Env):Prop:=∀ (C:Ctx T) a w,lL C E a w->c.wp P (lift C Q) a w
def SB (P:Program)(T:Tab)(k:Nat)(args:List PV)(E:Env)(K:PV->Env->Prop):Prop := ∀ (C:Ctx T) (Y:Nat->Prop) (σ:Sg) (w:World) (vs cargs:List Value),SW C w Y σ E.tmps vs E.st E.next->gI w Y σ args cargs -> (callFunc k cargs.toArray).run P w=.ok (.enter k cargs.toArray) w /\ Calls P k cargs.toArray w λe w'=>∃ cv v E' Y' σ',e=.returned cv/\K v E'/\SW C w' Y' σ' E'.tmps vs E'.st E'.next/\Rep w' Y' σ' v cv
def ahp (P:Program)(T:Tab)(l:Nat)(rc:Loop)(pv:Value)(args:List PV)(E:Env)(K:PV->Env->Prop):Prop := ∀ (C:Ctx T) (Y:Nat->Prop) (σ:Sg) (w:World) (vs cargs:List Value),SW C w Y σ E.tmps vs E.st E.next->gI w Y σ args cargs->C.Y0 l->w.heap[l]?=some (.loop rc)->Rep w Y σ (.lv 0 0) pv -> cargs.length=rc.params.size /\ RoundIn Fence.wide 0 P l rc.fn ((rc.params.zip cargs.toArray).foldl (λtmps (t,a)=>tmps.setIfInBounds t a) rc.tmps) rc.assign rc.body w λe w'=>∃ cv v E' Y' σ',e=.returned cv/\K v E'/\SW C w' Y' σ' E'.tmps vs E'.st E'.next/\Rep w' Y' σ' v cv
def marks (D:List Nat):List Deferred:=D.map λr=>{ target:=.collected r,args:=#[] }
def KR (B:Nat)(D:List Nat)(w:World)(Y:Nat->Prop):Prop:=D.Nodup/\∀ r∈D,B<=r/\Y r/\w.heap[r]?=some (.deferred (some []))
def XG {T:Tab}(C:Ctx T)(D:List Nat)(E:Env)(a:Act)(w:World):Prop := ∃ Y σ,SW C w Y σ E.tmps a.tmps.toList E.st E.next/\a.defers=marks D/\KR C.w0.heap.size D w Y
def ac7 (P:Program)(T:Tab)(g:Operand)(ps:Array Tmp)(x y:Code)(K:Env->Prop)(E:Env):Prop := ∀ (C:Ctx T) D a w,XG C D E a w->(Code.rangeFunc g ps x y).wp P (λe a' w'=>e=.normal/\∃ E' D',XG C D' E' a' w'/\K E') a w
def Fn (P:Program)(G:Nat->Option (List PV))(k:Nat)(args:List PV)(R:PV->Prop):Prop := ∀ (w:World) (Y:Nat->Prop) (cargs:List Value),TD G w Y->(∀ b,Y b->b<w.heap.size)->gI w Y iU args cargs -> (callFunc k cargs.toArray).run P w=.ok (.enter k cargs.toArray) w /\ Calls P k cargs.toArray w λe w'=>∃ cv v,e=.returned cv/\R v/\Rep w' Y iU v cv/\Chg w w'
def Ed (σ:Sg)(st:St)(k:Nat):Prop:=∃ b x l,jk st b=some x/\σ b=some l/\l.cb=k
def xR (T:Tab)(w:World)(Y:Nat->Prop)(σ:Sg)(st:St):Ctx T:=⟨w,λk=>Y k/\¬ Ed σ st k,Ed σ st,λk=>Y k/\Ed σ st k,σ,[]⟩
def FnS (P:Program)(G:Nat->Option (List PV))(k:Nat)(args:List PV)(st:St)(n:Nat)(R:PV->St->Nat->Prop):Prop := ∀ (w:World) (Y:Nat->Prop) (σ:Sg) (cargs:List Value),TD G w Y->(∀ b,Y b->b<w.heap.size)->(∀ b,n<=b->σ b=none)->gI w Y σ args cargs->EE w Y σ st->lY st=true -> (callFunc k cargs.toArray).run P w=.ok (.enter k cargs.toArray) w /\ Calls P k cargs.toArray w λe w'=>∃ cv v st' n' Y' σ',e=.returned cv/\R v st' n'/\SW (xR ⟨λ_=>.bad,G,n,[],0,[],[],none,λ_=>[]⟩ w Y σ st) w' Y' σ' [v] [cv] st' n'
def YS (P:Program)(G:Nat->Option (List PV))(l:Nat)(rc:Loop)(pv:Value)(args:List PV)(st:St)(n:Nat)(R:PV->St->Nat->Prop):Prop := ∀ (w:World) (Y:Nat->Prop) (σ:Sg) (cargs:List Value),TD G w Y->(∀ b,Y b->b<w.heap.size)->(∀ b,n<=b->σ b=none)->gI w Y σ args cargs->EE w Y σ st->lY st=true -> Y l->w.heap[l]?=some (.loop rc)->Rep w Y σ (.lv 0 0) pv -> cargs.length=rc.params.size /\ RoundIn Fence.wide 0 P l rc.fn ((rc.params.zip cargs.toArray).foldl (λtmps (t,a)=>tmps.setIfInBounds t a) rc.tmps) rc.assign rc.body w λe w'=>∃ cv u st' n' Y' σ',e=.returned cv/\R u st' n'/\SW (xR ⟨λ_=>.bad,G,n,[],0,[],[],none,λ_=>[]⟩ w Y σ st) w' Y' σ' [u] [cv] st' n'
def FnY (P:Program)(G:Nat->Option (List PV))(k:Nat)(args:List PV)(st:St)(n:Nat)(Yc:Nat->Loop->Value->Prop)(R:PV->St->Nat->Prop):Prop := ∀ (l:Nat) (rc:Loop) (pv:Value),Yc l rc pv->∀ (w:World) (Y:Nat->Prop) (σ:Sg) (cargs:List Value),TD G w Y->(∀ b,Y b->b<w.heap.size)->(∀ b,n<=b->σ b=none)->gI w Y σ (.yl l::args) cargs->EE w Y σ st->lY st=true -> Y l->w.heap[l]?=some (.loop rc)->Rep w Y σ (.lv 0 0) pv -> (callFunc k cargs.toArray).run P w=.ok (.enter k cargs.toArray) w /\ Calls P k cargs.toArray w λe w'=>∃ cv v st' n' Y' σ',e=.returned cv/\R v st' n'/\SW (xR ⟨λ_=>.bad,G,n,[],0,[],[],none,λ_=>[]⟩ w Y σ st) w' Y' σ' [v] [cv] st' n'
structure RngS (P:Program)(T:Tab)(x y:Code)(ps:Array Tmp)(t0 len k b0:Nat)(ρ:List Nat)(as:List PV)(st0:St)(E:Env)(K:Env->Prop):Prop where
 out:KP ρ=true/\ltN E.next ρ=true/\lY E.st=true/\lY st0=true/\ρ[0]?=some b0/\∃ v st1 n1 Yc,FnY P T.gl k as st0 (lH ρ) Yc (λu st n=>u=v/\st=st1/\n=n1) /\
  (∀ l rc pv,rc.assign=x->rc.body=y->rc.state=.ready->rc.pending=none->rc.params=ps->rc.tmps.toList[t0]?=some pv->rc.tmps.size=len->Yc l rc pv)/\lY (EM ρ E st1 n1).st=true/\K (EM ρ E st1 n1)
def Ent (T:Tab)(E F:Env):Prop:=∀ (C:Ctx T) a w,lL C E a w->lL C F a w
theorem Ent.refl {T:Tab}(E:Env):Ent T E E:=λ_ _ _ h=>h
def fzC:PV->PV
 | .ow _ sz es=>.sl sz es false
 | v=>v
def acf:List PV->Option Int
 | [.si .u8 n]=>some n
 | [.int .u8 n]=>some n
 | _=>none
noncomputable def BX:List (List PV)->Int->Option (List PV)
 | (.si _ k::cs)::l,n=>if k=n then some cs else BX l n
 | _::l,n=>BX l n
 | [],_=>none
def QZ:List (List PV)->Int->List PV->List (List PV)
 | (.si t k::cs)::l,n,xs=>if k=n then(.si t n::xs)::l else(.si t k::cs)::QZ l n xs
 | r::l,n,xs=>r::QZ l n xs
 | [],n,xs=>[.si .i64 n::xs]
def iW.jI (P:Program)(T:Tab):iW where
 bin:=nC
 cmp:=Ap
 conv k n:=k.wrap n
 neg k n:=k.wrap (0-n)
 beq a b:=a==b
 band a b:=a&&b
 afY:=jc
 slen s:=(s.size:Int)
 ahf a b:=if b<a then b else a
 ahg a b:=if b > a then b else a
 len es:=(es.length:Int)
 yO n:=(n:Int)
 NJ a b:=a+b
 Zh a b:=a-b
 app a b:=a++b
 sub rows r n:=(rows.drop r).take n
 spl rows r new:=rows.take r++new++rows.drop (r+new.length)
 Oc rows i r:=rows.set i r
 rep n r:=List.replicate n r
 gZ es:=es.length
 br b t f:=(b=true->t ())/\(b=false->f ())
 rng g ps x y K E:=ac7 P T g ps x y K E
 ahh x y ps t0 len k b0 ρ as st0 E K:=RngS P T x y ps t0 len k b0 ρ as st0 E K
 yld l args E ρ as st0 K:=∃ rc pv v st1 n1,T.yl=some (l,rc,pv)/\as=Ai (vI (DL ρ) 8) args/\st0=yD (DL ρ) E.st 0 ρ/\KP ρ=true/\ltN E.next ρ=true/\lY st0=true/\ρ[0]?=some 0/\YS P T.gl l rc pv as st0 (lH ρ) (λu st n=>u=v/\st=st1/\n=n1)/\K (vI (BQ ρ E.next) 8 v) (EM ρ E st1 n1)
 call k args E lend free ρ as st0 K :=
  (∃ bs v,lend=some bs/\Fn P T.gl k bs (λu=>u=v)/\IZ 6 v=true/\K v E) \/
  (∃ bs v,free=some bs/\Fn P T.gl k bs (λu=>u=v)/\K v ⟨E.tmps,roS E.st ρ,E.next⟩) \/
  (∃ v st1 n1,KP ρ=true/\ltN E.next ρ=true/\lY st0=true/\FnS P T.gl k as st0 (lH ρ) (λu st n=>u=v/\st=st1/\n=n1)/\K (vI (BQ ρ E.next) 8 v) (EM ρ E st1 n1)) \/
  SB P T k args E K
 Uo k args K:=∃ v,Fn P T.gl k args (λu=>u=v)/\K v
 Sl k args as bs E K:=(∃ v,Fn P T.gl k as (λu=>u=v)/\K v E)\/(∃ v st1 n1,FnS P T.gl k bs [] 0 (λu st n=>u=v/\st=st1/\n=n1)/\K (vI (BQ [] E.next) 8 v) (EM [] E st1 n1))\/SB P T k args E K
 Wp k args K:=∃ v,Fn P T.gl k args (λu=>u=v)/\IZ 6 v=true/\K v
 adX k as K:=∃ v x,FnS P T.gl k as [] 0 (λu st n=>u=v/\st=[(0,some x)]/\n=1)/\K v x
 Zi k as st0 ρ K:=∃ v st1 n1,lY st0=true/\FnS P T.gl k as st0 (lH ρ) (λu st n=>u=v/\st=st1/\n=n1)/\K v st1 n1
 loop c Q E:=TR P T (.loop c) Q E
 seq _ _ A B Q:=∃ Q',A Q'/\∀ n E,Q' n E->∃ F,Ent T E F/\Iw B Q n F
 idx es i K:=∃ (j:Nat) (row:List PV),i=(j:Int)/\es[j]?=some row/\K row
 ix n i K:=∃ j:Nat,i=(j:Int)/\j<n/\K j
 row rows j K:=∃ row,rows[j]?=some row/\K row
 adY s i K:=∃ (j:Nat) (c:UInt8),i=(j:Int)/\s[j]?=some c/\K (c.toNat:Int)
 div op k a b K:=b≠0/\K (match op with|.quo=>k.wrap (a.tdiv b)|_=>a.tmod b)
 shf op k a y K:=0<=y/\K (match op with|.shl=>k.wrap (a*2 ^ (min y.toNat k.bits))|_=>a.fdiv (2 ^ (min y.toNat k.bits)))
 adZ a b K:=a.size+b.size<=4611686018427387904/\K (a++b)
 mks n m bytes K:=∃ j:Nat,n=(j:Int)/\n<=m/\(bytes:Int)*m<=140737488355328/\m<=9223372036854775807/\K j
 room n bytes K:=(2*n+192)*bytes<=140737488355328/\n<=4611686018427387904/\K
 slc len a b K:=∃ i j:Nat,a=(i:Int)/\b=(j:Int)/\i<=j/\j<=len/\K i j
 aaK s a b K:=∃ i j:Nat,a=(i:Int)/\b=(j:Int)/\i<=j/\j<=s.size/\K (s.extract i j)
 Ur es K:=∀ b:Bool,(b=true->es=[])->K b
 toS t rows K:=(∃ e,P.underlying t=some (.slice e)/\P.underlying e=some (.int .u8))/\∃ s:ByteArray,rows.map acf=s.data.toList.map (λc=>some (c.toNat:Int))/\K s
 toB t b K:=(∃ e,P.underlying t=some (.slice e)/\P.underlying e=some (.int .u8))/\K (b.data.toList.map λc=>[.si .u8 (c.toNat:Int)])
 wk cs K:=∃ cs',cs'.length=cs.length/\(iT cs=true->iT cs'=true)/\(∀ (w:World) (Y:Nat->Prop) (σ:Sg) (vs:List Value),gI w Y σ cs vs->gI w Y σ cs' vs)/\K cs'
 order l p:=FU T l=true/\p
 last l p:=Oh l=true/\p
 ac0 l tr p:=(FT l l.toList 0&&ac6 (UB l.toList []) tr 0)=true/\p
 nu K:=∀ h,K h
 same h h' p:=h=h'/\p
 fz rows:=rows.map λrow=>row.map fzC
 ahi rows n z K:=(∀ cs,BX rows n=some cs->K cs true)/\(BX rows n=none->∃ cs,(∀ (w:World) (Y:Nat->Prop) (σ:Sg) (vs:List Value),gI w Y σ z vs->gI w Y σ cs vs)/\K cs false)
 afZ rows n cs:=QZ rows n cs
theorem Aw {P:Program}{T:Tab}{cs:List PV}{K:List PV->Prop}(h:wkC (iW.jI P T) cs K):∃ U,U.length=cs.length/\(iT cs=true->iT U=true)/\(∀ (w:World) (Y:Nat->Prop) (σ:Sg) (vs:List Value),gI w Y σ cs vs->gI w Y σ U vs)/\K U/\∀ J : List PV->Prop,J U->wkC (iW.jI P T) cs J:=by
 unfold wkC at h |-
 cases I:Ut cs with
 | true=>
  rw[I] at h;simp only;obtain⟨U,h1,h2,C,g⟩:=h;exact⟨U,h1,h2,C,g,λJ hk=>⟨U,h1,h2,C,hk⟩⟩
 | false=>
  rw[I] at h;simp only;exact⟨cs,rfl,λh=>h,λ_ _ _ _ h=>h,h,λJ hk=>hk⟩
theorem af4 {w:World}{Y:Nat->Prop}{σ:Sg}(n:Nat)(p:PV)(v:Value)(h:Rep w Y σ p v):Rep w Y σ (owC n p) v:=by
 unfold owC
 split
 split
 split
 unfold Rep at h |-;obtain⟨a,len,cap,e,hl,hc,O,_⟩:=h;have hl:len=0:=by simpa using hl
 subst hl;have O:=O rfl;subst O;exact .inr ⟨rfl,rfl,a,e⟩
 exact h
 exact h
 exact h
theorem XH {w:World}{Y:Nat->Prop}{σ:Sg}(n:Nat):∀ (ps:List PV) (vs:List Value),gI w Y σ ps vs->gI w Y σ (owZ n ps) vs
 | [],vs,h=>h
 | p::ps,vs,h=>by
  unfold gI at h;obtain⟨v,U,e,h1,h2⟩:=h;unfold owZ gI;exact⟨v,U,e,af4 n p v h1,XH n ps U h2⟩
theorem XI (n:Nat):∀ ps:List PV,(owZ n ps).length=ps.length
 | []=>rfl
 | p::ps=>by simp[owZ,XI n ps]
theorem aej (n:Nat)(p:PV):tu (owC n p)=tu p:=by
 unfold owC
 split
 split
 split<;>rfl
 rfl
 rfl
theorem UE (n:Nat):∀ ps:List PV,iT (owZ n ps)=iT ps
 | []=>rfl
 | p::ps=>by simp[owZ,iT,UE n ps,aej]
theorem Q3 {n:Nat}{h:Hdr}{sz:Nat}{U:List (List PV)}:∀ {ps:List PV},(∀ h sz U,PV.ow h sz U ∉ ps)->∀ c:Nat,(owZ n ps)[c]?=some (.ow h sz U)->h.cap=0
 | [],_,c,e=>by simp[owZ] at e
 | p::ps,hno,0,e=>by
  simp only[owZ,List.getElem?_cons_zero,Option.some.injEq] at e;unfold owC at e
  split at e
  split at e
  split at e
  cases e;rfl
  cases e
  cases e
  subst e;exact absurd (List.mem_cons_self) (hno h sz U)
 | p::ps,hno,c+1,e=>by
  simp only[owZ,List.getElem?_cons_succ] at e;exact Q3 (λh sz U T=>hno h sz U (List.mem_cons_of_mem _ T)) c e
theorem acg {P:Program}{T:Tab}{mg:Nat}{cs:List PV}{K:List PV->Prop}(h:wkN (iW.jI P T) mg cs K):∃ U,U.length=cs.length/\(iT cs=true->iT U=true)/\(∀ (w:World) (Y:Nat->Prop) (σ:Sg) (vs:List Value),gI w Y σ cs vs->gI w Y σ U vs)/\K U/\(∀ n,mg=n+1->Sr cs=true->U=owZ n cs)/\∀ J : List PV->Prop,J U->wkN (iW.jI P T) mg cs J:=by
 unfold wkN at h |-
 cases mg with
 | zero=>
  obtain⟨U,h1,h2,I,C,h5⟩:=Aw h;exact⟨U,h1,h2,I,C,(λn h=>by omega),h5⟩
 | succ n=>
  cases hs:Sr cs with
  | true=>
   simp only[hs] at h |-;exact⟨owZ n cs,XI n cs,λh=>by rw[UE];exact h,λ_ _ _ _ h=>XH n _ _ h,h,λm g _=>by rw[show m=n by omega],λJ hk=>hk⟩
  | false=>
   simp only[hs] at h |-;obtain⟨U,h1,h2,I,C,h5⟩:=Aw h;exact⟨U,h1,h2,I,C,(λm g h=>by cases h),h5⟩
end Go.Pv
namespace Go.Pv
open Go
theorem Oo (w:World)(Y:Nat->Prop)(σ:Sg)(v:Value):Rep w Y σ (Jw v) v:=by
 unfold Jw
 split
 case h_5=>unfold Rep;exact⟨none,0,0,rfl,rfl,Nat.le_refl _,λ_=>rfl,.inl rfl⟩
 all_goals simp[Rep]
theorem G7 (w:World)(Y:Nat->Prop)(σ:Sg):∀ vs:List Value,gI w Y σ (EK vs) vs
 | []=>by simp[EK,gI]
 | v::vs=>by simp only[EK];unfold gI;exact⟨v,vs,rfl,Oo w Y σ v,G7 w Y σ vs⟩
theorem ac8 (w:World)(Y:Nat->Prop)(σ:Sg)(v:Value):Rep w Y σ (Wq v) v:=by
 unfold Wq
 split
 unfold Rep;exact⟨_,by simp,G7 w Y σ _⟩
 exact Oo w Y σ v
theorem lD {T:Tab}{C:Ctx T}{w:World}{Y:Nat->Prop}{σ:Sg}{ps:List PV}{a:Act}{st:St}{n:Nat}(h:SW C w Y σ ps a.tmps.toList st n)(x:Operand):Rep w Y σ (sD T ps x) (a.eval x):=by
 cases x with
 | tmp t=>
  have:=h.vals.get ps _ t
  simpa [sD,Act.eval,Array.getD_eq_getD_getElem?,List.getD_eq_getElem?_getD] using this
 | const v=>exact ac8 w Y σ v
 | global g=>
  simp only[sD]
  split
  rename_i cs U;exact Rep.keep _ ⟨λ_ _ _=>rfl,λ_ _ h=>h,Nat.le_refl _,λ_ _ h=>by cases h⟩ _ (h.wU g cs U)
  simp[Rep]
 | func f=>simp only[sD,Act.eval];unfold Rep;exact⟨[],rfl,by simp[gI]⟩
theorem vM {T:Tab}{C:Ctx T}{w:World}{Y:Nat->Prop}{σ:Sg}{ps:List PV}{a:Act}{st:St}{n:Nat}(h:SW C w Y σ ps a.tmps.toList st n):∀ l:List Operand,gI w Y σ (evA T ps l) (l.map a.eval)
 | []=>by simp[evA,gI]
 | x::l=>by simp only[evA,List.map_cons];unfold gI;exact⟨_,_,rfl,lD h x,vM h l⟩
def uH:Dl->Nat->Nat->Nat
 | [],n,_=>n
 | _::_,n,id=>max n (id+1)
def qG {T:Tab}(P:Program)(C:Ctx T)(o:Oper)(a:Act)(w:World)(σ:Sg)(ps:List PV)(st:St)(n id:Nat)(K:PV->Dl->Prop):Prop := ∃ v δ cv w' Y' σ',K v δ/\((execOp a.eval o).run P w=.ok (.value cv) w'\/((execOp a.eval o).run P w=.ok .skip w'/\cv=Go.undef)) /\ SW C w' Y' σ' ps a.tmps.toList (jJ δ st) (uH δ n id)/\Rep w' Y' σ' v cv/\Off id σ σ'
theorem qG.quiet {T:Tab}{P:Program}{C:Ctx T}{o:Oper}{a:Act}{w:World}{Y:Nat->Prop}{σ:Sg}{ps:List PV}{st:St}{n id:Nat}{K:PV->Dl->Prop}
  (H:SW C w Y σ ps a.tmps.toList st n) {v:PV} {cv:Value} (hr:(execOp a.eval o).run P w=.ok (.value cv) w) (hv:Rep w Y σ v cv) (U:K v []):qG P C o a w σ ps st n id K :=
 ⟨v,[],cv,w,Y,σ,U,.inl hr,H,hv,Off.refl _ _⟩
theorem yQ {w:World}{Y:Nat->Prop}{σ:Sg}{b:Bool}{v:Value}(h:Rep w Y σ (.bool b) v):v=.bool b:=by unfold Rep at h;exact h
theorem KT {w:World}{Y:Nat->Prop}{σ:Sg}{b:Bool}{v:Value}(h:Rep w Y σ (.sb b) v):v=.bool b:=by unfold Rep at h;exact h
theorem vN {w:World}{Y:Nat->Prop}{σ:Sg}{k:IntKind}{n:Int}{v:Value}(h:Rep w Y σ (.int k n) v):v=.int k n:=by unfold Rep at h;exact h
theorem UF {w:World}{Y:Nat->Prop}{σ:Sg}{k:IntKind}{n:Int}{v:Value}(h:Rep w Y σ (.si k n) v):v=.int k n:=by unfold Rep at h;exact h
theorem G8 {w:World}{Y:Nat->Prop}{σ:Sg}{s:ByteArray}{v:Value}(h:Rep w Y σ (.str s) v):v=.string s:=by unfold Rep at h;exact h
theorem qo {w:World}{Y:Nat->Prop}{σ:Sg}{p:PV}{k:IntKind}{n:Int}{v:Value}(h:Rep w Y σ p v)(e:DK p=some (k,n)):v=.int k n:=by
 unfold DK at e
 split at e<;>simp at e<;>obtain⟨rfl,rfl⟩:=e
 exact vN h
 exact UF h
theorem MN {w:World}{Y:Nat->Prop}{σ:Sg}{p:PV}{b:Bool}{v:Value}(h:Rep w Y σ p v)(e:Ws p=some b):v=.bool b:=by
 unfold Ws at e
 split at e<;>simp at e<;>subst e
 exact yQ h
 exact KT h
theorem FC {k U : IntKind}(h:tC k U=true):k=U:=by cases k<;>cases U<;>simp_all[tC]
section
variable {P:Program}{T:Tab}(hT:jq P T){C:Ctx T}{o:Oper}{a:Act}{w:World}{Y:Nat->Prop}{σ:Sg}{ps:List PV}{st:St}{n id:Nat}{K:PV->Dl->Prop}{lk:Nat->Option mO}
 (H:SW C w Y σ ps a.tmps.toList st n) (hlk:∀ b x,lk b=some x->jk st b=some x) (hid:σ id=none/\T.qf<=id)
include H
theorem af5 {x:Operand}(ho:o.op=.move x)(h:oO T (iW.jI P T) (.move x) ps lk id K):qG P C o a w σ ps st n id K:=by
 refine qG.quiet H (cv:=a.eval x) ?_ (lD H x) h;simp[execOp,ho]
theorem ac9 {x:Operand}(ho:o.op=.assign x)(h:oO T (iW.jI P T) (.assign x) ps lk id K):qG P C o a w σ ps st n id K:=by
 refine qG.quiet H (cv:=a.eval x) ?_ (lD H x) h;simp[execOp,ho]
theorem af6 {c x y:Operand}(ho:o.op=.pick c x y)(h:oO T (iW.jI P T) (.pick c x y) ps lk id K):qG P C o a w σ ps st n id K:=by
 have hc:=lD H c;simp only[oO] at h
 split at h
 rename_i e;rw[e] at hc;have hc:=yQ hc;refine qG.quiet H (cv:=a.eval x) ?_ (lD H x) h;simp[execOp,ho,hc,asBool]
 rename_i e;rw[e] at hc;have hc:=yQ hc;refine qG.quiet H (cv:=a.eval y) ?_ (lD H y) h;simp[execOp,ho,hc,asBool]
 exact h.elim
theorem Zr {x:Operand}(ho:o.op=.nilCheck x)(h:oO T (iW.jI P T) (.nilCheck x) ps lk id K):qG P C o a w σ ps st n id K:=by
 have hc:=lD H x;simp only[oO] at h
 split at h
 rename_i e;rw[e] at hc;have U:=hc;unfold Rep at U;obtain⟨l,_,J⟩:=U;refine qG.quiet H (cv:=a.eval x) ?_ hc h;rw[J];simp[execOp,ho,J]
 rename_i e;rw[e] at hc;have U:=hc;unfold Rep at U;obtain⟨l,_,J⟩:=U;refine qG.quiet H (cv:=a.eval x) ?_ hc h;rw[J];simp[execOp,ho,J]
 rename_i e;rw[e] at hc;have U:=hc;unfold Rep at U;obtain⟨b,o',J,_⟩:=U;refine qG.quiet H (cv:=a.eval x) ?_ hc h;rw[J];simp[execOp,ho,J]
 rename_i e;rw[e] at hc;have J:=hc;unfold Rep at J;refine qG.quiet H (cv:=a.eval x) ?_ hc h;rw[J];simp[execOp,ho,J]
 rename_i e;rw[e] at hc;have U:=hc;unfold Rep at U;obtain⟨vs,J,_⟩:=U;refine qG.quiet H (cv:=a.eval x) ?_ hc h;rw[J];simp[execOp,ho,J]
 exact h.elim
theorem aek {t:TypeId}{x:Operand}(ho:o.op=.unOp .not t x)(h:oO T (iW.jI P T) (.unOp .not t x) ps lk id K):qG P C o a w σ ps st n id K:=by
 have hc:=lD H x;simp only[oO] at h
 split at h
 rename_i e;rw[e] at hc;have hc:=yQ hc;refine qG.quiet H (cv:=.bool false) ?_ (by simp[Rep]) h;simp[execOp,ho,hc,Op.unary]
 rename_i e;rw[e] at hc;have hc:=yQ hc;refine qG.quiet H (cv:=.bool true) ?_ (by simp[Rep]) h;simp[execOp,ho,hc,Op.unary]
 rename_i b e;rw[e] at hc;have hc:=KT hc;refine qG.quiet H (cv:=.bool (!b)) ?_ (by simp[Rep,iW.jI]) h;simp[execOp,ho,hc,Op.unary]
 exact h.elim
theorem ael {t:TypeId}{x:Operand}(ho:o.op=.unOp .neg t x)(h:oO T (iW.jI P T) (.unOp .neg t x) ps lk id K):qG P C o a w σ ps st n id K:=by
 have hc:=lD H x;simp only[oO] at h
 split at h
 rename_i k m e;rw[e] at hc;have hc:=vN hc;refine qG.quiet H (cv:=.int k (k.wrap (0-m))) ?_ (by simp[Rep]) h;simp[execOp,ho,hc,Op.unary,Op.intArith]
 rename_i k m e;rw[e] at hc;have hc:=UF hc;refine qG.quiet H (cv:=.int k (k.wrap (0-m))) ?_ (by simp[Rep,iW.jI]) h;simp[execOp,ho,hc,Op.unary,Op.intArith]
 exact h.elim
theorem aaR {t:Operand}{i:Nat}(ho:o.op=.extract t i)(h:oO T (iW.jI P T) (.extract t i) ps lk id K):qG P C o a w σ ps st n id K:=by
 have hc:=lD H t;simp only[oO] at h
 split at h
 rename_i vs e;rw[e] at hc;unfold Rep at hc;obtain⟨us,I,hr⟩:=hc
 cases U:Nat.blt i (oG vs) with
 | false=>rw[U] at h;exact h.elim
 | true=>
  rw[U] at h;have hi:i<us.length:=by rw[gI.length _ _ hr];simpa [Nat.blt_eq] using U
  have J:=hr.get _ _ i;rw[List.getD_eq_getElem?_getD,List.getElem?_eq_getElem hi] at J;refine qG.quiet H (cv:=us[i]) ?_ J h;simp[execOp,ho,I,Instr.extract,hi]
 exact h.elim
end
end Go.Pv
