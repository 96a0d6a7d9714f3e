import Derived.Orders
import Derived.Tactics
import Derived.Calls
import Derived.Below
import Derived.CallsIn
import Derived.WalkKit
set_option linter.all false
namespace Go.Pv
theorem ae{p:Prop}(h:p:=by omega):p:=h
theorem af{p:Prop}(h:p:=by(try simp only[q1]);(try simp only[q2,eO,q]);try first|rfl|simp[zA,eI,eB,eL,eS,q]):p:=h
theorem ah{p:Prop}(h:p:=by(try simp only[q]);repeat' constructor):p:=h
theorem ai{p:Prop}(h:p:=by(try simp only[List.length_append,List.length_cons,List.length_nil,List.length_set,List.length_replicate,vH]);omega):p:=h
theorem aj{p:Prop}(h:p:=by intro hh;first|(cases hh;done)|omega|(have hh2:=of_decide_eq_false hh;(try simp only[lenI] at hh2);omega)|(simp at hh;(try simp only[lenI] at hh);omega)):p:=h
theorem ak{p:Prop}(h:p:=by grind):p:=h
theorem au{p:Prop}(h:p:=by(try simp only[q]);repeat' first|constructor|exact ak0 rfl rfl (by have lbx13:=bx13.le;have tbx13:=bx13.lt;have lbx15:=bx15.le;have tbx15:=bx15.lt;clear U bx13 bx15;cases x13;cases x15;simp only[Az,abV,List.length_append,List.length_take,List.length_drop,List.length_replicate] at *;omega)):p:=h
theorem ax{p:Prop}(h:p:=by simp only;omega):p:=h
theorem ay{p:Prop}(h:p:=by(conv=>lhs;cbv)<;>(try simp only[q1])<;>(try simp only[q2,eO,q])<;>(try rfl)):p:=h
theorem aA{p:Prop}(h:p:=by kernel_rfl):p:=h
theorem aB{p:Prop}(h:p:=by show ¬ (l.length:Int)<(l.length:Int);omega):p:=h
theorem aC{p:Prop}(h:p:=by have lbx13:=bx13.le;have tbx13:=bx13.lt;have lbx15:=bx15.le;have tbx15:=bx15.lt;clear U bx13 bx15;cases x13;cases x15;simp only[Az,abV,List.length_append,List.length_take,List.length_drop,List.length_replicate] at *;omega):p:=h
theorem aF{p:Prop}(h:p:=by simp):p:=h
theorem aG{p:Prop}(h:p:=by simp only[List.length_cons,List.length_nil];omega):p:=h
theorem aH{p:Prop}(h:p:=by(try simp only[q1])<;>(try simp only[q2,eO,q]);repeat' constructor):p:=h
theorem aI{p:Prop}(h:p:=by simp only[vH,List.length_cons,List.length_nil];omega):p:=h
theorem aJ{p:Prop}(h:p:=by simp only[vH,List.length_cons,List.length_nil] at hx;omega):p:=h
theorem aK{p:Prop}(h:p:=by show _<18446744073709551616;(try simp only[List.length_append,List.length_cons,List.length_nil]);omega):p:=h
theorem aN{p:Prop}(h:p:=by show ¬ (s.objects.length:Int)<(s.objects.length:Int);omega):p:=h
theorem aO{p:Prop}(h:p:=by first|assumption|(show _<=1048576;(try simp only[vH,List.length_cons,List.length_nil]);omega)):p:=h
theorem aP{p:Prop}(h:p:=by unfold jo;exact rP (by grind) (by grind)):p:=h
theorem aQ{p:Prop}(h:p:=by show ¬ (f.mods.length:Int)<(f.mods.length:Int);omega):p:=h
theorem aS{p:Prop}(h:p:=by first|assumption|(refine⟨by omega,?_⟩;first|(intro _ _;trivial)|assumption)|(unfold kz;simp_all[szB,sZ])):p:=h
theorem aT{p:Prop}(h:p:=by refine⟨by simp,by omega,?_⟩;simp[vH]):p:=h
theorem aU{p:Prop}(h:p:=by decide):p:=h
theorem aV{p:Prop}(h:p:=by simp[vH]):p:=h
theorem aW{p:Prop}(h:p:=by(conv=>lhs;cbv)<;>(try simp only[q])<;>(try rfl)):p:=h
theorem aX{p:Prop}(h:p:=by unfold slices_Clone_string;exact rP (by grind) (by grind)):p:=h
theorem aY{p:Prop}(h:p:=by simp;omega):p:=h
theorem aZ{p:Prop}(h:p:=by show ¬ (c.fB.length:Int)<(c.fB.length:Int);omega):p:=h
theorem bg{p:Prop}(h:p:=by simpa using h):p:=h
theorem bn{p:Prop}(h:p:=by first|assumption|(refine⟨by omega,?_⟩;first|(intro _ _;trivial)|assumption)|(unfold jX;simp_all[szB,sZ])):p:=h
theorem bu{p:Prop}(h:p:=by show ¬ (a.jw.length:Int)<(a.jw.length:Int);omega):p:=h
theorem bz{p:Prop}(h:p:=by simp[Rep]):p:=h
theorem bC{p:Prop}(h:p:=by unfold ng;exact rP (by grind) (by grind)):p:=h
theorem bD{p:Prop}(h:p:=by simp only[Op.operands,List.mem_toArray,List.mem_map];grind):p:=h
theorem bF{p:Prop}(h:p:=by show ¬ (s.length:Int)<(s.length:Int);omega):p:=h
theorem bG{p:Prop}(h:p:=by(try simp only[jr,fD,eL,eS,q]);try first|rfl|simp[zA,eI,eB,eL,eS,q]):p:=h
theorem bH{p:Prop}(h:p:=by simpa using hi):p:=h
theorem bI{p:Prop}(h:p:=by rw[List.getElem?_append_right (by omega)];simpa using hv):p:=h
theorem bJ{p:Prop}(h:p:=by grind[Op.operands,Call.operands]):p:=h
theorem bK{p:Prop}(h:p:=by show n-_<18446744073709551616;omega):p:=h
theorem bM{p:Prop}(h:p:=by cases e):p:=h
theorem bP{p:Prop}(h:p:=by show ¬ (left.length:Int)<(left.length:Int);omega):p:=h
theorem bQ{p:Prop}(h:p:=by grind[lenI]):p:=h
theorem bT{p:Prop}(h:p:=by simp only[jf,uI];exact H'):p:=h
theorem bU{p:Prop}(h:p:=by simp[Op.operands,Call.operands]):p:=h
theorem bV{p:Prop}(h:p:=by simp[kK,hu]):p:=h
theorem bW{p:Prop}(h:p:=by rw[hvs2.1];rw[Nat.add_mul] at hbnd;omega):p:=h
theorem bY{p:Prop}(h:p:=by cases h):p:=h
theorem bZ{p:Prop}(h:p:=by unfold oW;exact rP (by grind) (by grind)):p:=h
theorem cu{p:Prop}(h:p:=by grind[addI_nat]):p:=h
theorem dh{p:Prop}(h:p:=by simp[nV] at h):p:=h
theorem di{p:Prop}(h:p:=by simp[Rep,gV.jd]):p:=h
theorem dm{p:Prop}(h:p:=by unfold jo;exact rP (by omega) (by omega)):p:=h
theorem dw{p:Prop}(h:p:=by assumption):p:=h
theorem dA{p:Prop}(h:p:=by simp only[q];try first|rfl|simp[zA,eI,eB,eL,eS,q]):p:=h
theorem dB{p:Prop}(h:p:=by show 5-_<18446744073709551616;omega):p:=h
theorem dC{p:Prop}(h:p:=by first|omega|(simp[vH];done)):p:=h
theorem dD{p:Prop}(h:p:=by simp only[Gu];simp[h]):p:=h
theorem dF{p:Prop}(h:p:=by simpa using hoj):p:=h
theorem dG{p:Prop}(h:p:=by simp[uI];omega):p:=h
theorem dH{p:Prop}(h:p:=by simp[Rep];rfl):p:=h
theorem dI{p:Prop}(h:p:=by simp[h]):p:=h
theorem dJ{p:Prop}(h:p:=by unfold eU;exact⟨_,_,rfl,hrep,by unfold eU;rfl⟩):p:=h
theorem dK{p:Prop}(h:p:=by rw[run (aek hu hinf g1 g2 g3 (by omega))];rfl):p:=h
theorem dL{p:Prop}(h:p:=by simp[Op.operands]):p:=h
theorem dM{p:Prop}(h:p:=by simpa using hj):p:=h
theorem dN{p:Prop}(h:p:=by simpa using hk):p:=h
theorem dO{p:Prop}(h:p:=by simpa using h1):p:=h
theorem dP{p:Prop}(h:p:=by simpa using h2):p:=h
theorem dQ{p:Prop}(h:p:=by rw[d1];rcases c2 with c2|c2<;>rw[c2]<;>rfl):p:=h
theorem dR{p:Prop}(h:p:=by rw[gG,if_pos rfl]):p:=h
theorem dS{p:Prop}(h:p:=by subst hy;simp[Op.operands]):p:=h
theorem dU{p:Prop}(h:p:=by simpa using hr):p:=h
theorem dV{p:Prop}(h:p:=by rw[hbe] at g1;exact g1):p:=h
theorem dX{p:Prop}(h:p:=by rw[ho];exact h):p:=h
theorem dY{p:Prop}(h:p:=by simp[lenI]):p:=h
theorem dZ{p:Prop}(h:p:=by intro U;cbv;cases U):p:=h
theorem eF{p:Prop}(h:p:=by intro U;cbv;cases U;exact hR _ _ _ gX gX rfl):p:=h
theorem eG{p:Prop}(h:p:=by simp only[UN] at h |-;obtain⟨h0,j,h1,h2,h⟩:=h;exact⟨_,_,h,λ_ hk=>⟨h0,j,h1,h2,hk⟩⟩):p:=h
end Go.Pv
namespace Go.Pv
open Go
structure Hdr where
 ν:Nat
 o:Nat
 cap:Nat
inductive PV where
 | bool (b:Bool)
 | sb (b:Bool)
 | int (k:IntKind) (n:Int)
 | si (k:IntKind) (n:Int)
 | str (s:ByteArray)
 | agg (cs:List PV)
 | Eu (vs:List PV)
 | sl (sz:Nat) (es:List (List PV)) (full:Bool)
 | os (b r n:Nat)
 | lv (b c:Nat)
 | lp (b r c:Nat)
 | pp (cs:List PV)
 | ow (h:Hdr) (sz:Nat) (es:List (List PV))
 | bo (b r c:Nat) (h:Hdr) (sz n:Nat)
 | np (b r c:Nat) (h:Hdr) (sz j k:Nat)
 | Ip
 | fn (f:Nat) (caps:List PV)
 | Vo
 | mp (b:Nat)
 | yl (l:Nat)
 | hc
 | top
 | undef
 deriving Inhabited
inductive lI where
 | var (ro:Bool) (row:List PV)
 | arr (ro:Bool) (sz:Nat) (rows:List (List PV))
 | lq (sz:Nat) (rows:List (List PV))
 | map (rows:List (List PV))
 | nor (sz:Nat) (rows:List (List PV)) (r:Nat) (row:List PV)
abbrev St:=List (Nat×Option lI)
structure Env where
 tmps:List PV
 st:St
 next:Nat
structure gV where
 bin:BinOp->IntKind->Int->Int->Int
 cmp:BinOp->Int->Int->Bool
 conv:IntKind->Int->Int
 neg:IntKind->Int->Int
 beq:Bool->Bool->Bool
 band:Bool->Bool->Bool
 ahP:BinOp->ByteArray->ByteArray->Bool
 slen:ByteArray->Int
 ajs:Int->Int->Int
 ajt:Int->Int->Int
 len:List (List PV)->Int
 yf:Nat->Int
 EX:Nat->Nat->Nat
 aax:Nat->Nat->Nat
 app:List (List PV)->List (List PV)->List (List PV)
 sub:List (List PV)->Nat->Nat->List (List PV)
 spl:List (List PV)->Nat->List (List PV)->List (List PV)
 Gv:List (List PV)->Nat->List PV->List (List PV)
 rep:Nat->List PV->List (List PV)
 fE:List (List PV)->Nat
 br:Bool->(Unit->Prop)->(Unit->Prop)->Prop
 rng:Operand->Array Tmp->Code->Code->(Env->Prop)->Env->Prop
 aju:Code->Code->Array Tmp->Nat->Nat->Nat->Nat->List Nat->List PV->St->Env->(Env->Prop)->Prop
 yld:Nat->List PV->Env->List Nat->List PV->St->(PV->Env->Prop)->Prop
 call:Nat->List PV->Env->Option (List PV)->Option (List PV)->List Nat->List PV->St->(PV->Env->Prop)->Prop
 Vp:Nat->List PV->(PV->Prop)->Prop
 Ua:Nat->List PV->List PV->List PV->Env->(PV->Env->Prop)->Prop
 XE:Nat->List PV->(PV->Prop)->Prop
 afd:Nat->List PV->(PV->lI->Prop)->Prop
 XF:Nat->List PV->St->List Nat->(PV->St->Nat->Prop)->Prop
 loop:Code->(Nat->Env->Prop)->Env->Prop
 seq:Nat->Env->((Nat->Env->Prop)->Prop)->(Env->Prop)->(Nat->Env->Prop)->Prop
 idx:List (List PV)->Int->(List PV->Prop)->Prop
 ix:Nat->Int->(Nat->Prop)->Prop
 row:List (List PV)->Nat->(List PV->Prop)->Prop
 afe:ByteArray->Int->(Int->Prop)->Prop
 div:BinOp->IntKind->Int->Int->(Int->Prop)->Prop
 shf:BinOp->IntKind->Int->Int->(Int->Prop)->Prop
 aff:ByteArray->ByteArray->(ByteArray->Prop)->Prop
 mks:Int->Int->Nat->(Nat->Prop)->Prop
 room:Nat->Nat->Prop->Prop
 slc:Nat->Int->Int->(Nat->Nat->Prop)->Prop
 abW:ByteArray->Int->Int->(ByteArray->Prop)->Prop
 Vq:List (List PV)->(Bool->Prop)->Prop
 toS:Nat->List (List PV)->(ByteArray->Prop)->Prop
 toB:Nat->ByteArray->(List (List PV)->Prop)->Prop
 wk:List PV->(List PV->Prop)->Prop
 order:Array Oper->Prop->Prop
 last:Array Oper->Prop->Prop
 ael:Array Oper->List (List Nat×List Nat×List Nat)->Prop->Prop
 nu:(Hdr->Prop)->Prop
 same:Hdr->Hdr->Prop->Prop
 fz:List (List PV)->List (List PV)
 ajv:List (List PV)->Int->List PV->(List PV->Bool->Prop)->Prop
 ahQ:List (List PV)->Int->List PV->List (List PV)
def iV:List PV->Nat->PV
 | [],_=>.undef
 | x::_,0=>x
 | _::l,n+1=>iV l n
def nC:List PV->Nat->PV->List PV
 | [],_,_=>[]
 | _::l,0,v=>v::l
 | x::l,n+1,v=>x::nC l n v
def nN:List PV->Nat
 | []=>0
 | _::l=>nN l+1
def Ub:Nat->List PV->List PV
 | 0,_=>[]
 | _+1,[]=>[]
 | n+1,x::l=>x::Ub n l
def Gw:Nat->List PV->List PV
 | 0,l=>l
 | _+1,[]=>[]
 | n+1,_::l=>Gw n l
def vw:List PV->List PV->List PV
 | [],m=>m
 | x::l,m=>x::vw l m
def lZ:List PV->Nat->List PV->List PV
 | l,_,[]=>l
 | l,c,v::vs=>lZ (nC l c v) (c+1) vs
def chunks (sz:Nat):Nat->List PV->List (List PV)
 | 0,_=>[]
 | n+1,l=>Ub sz l::chunks sz n (Gw sz l)
def iH:St->Nat->Option lI
 | [],_=>none
 | (b,x)::l,c=>bif Nat.beq b c then x else iH l c
def nD:St->Nat->Option lI->St
 | [],b,x=>[(b,x)]
 | (b',y)::l,b,x=>bif Nat.beq b' b then(b',x)::l else(b',y)::nD l b x
def jf:List (Nat×Option lI)->St->St
 | [],s=>s
 | (b,x)::d,s=>jf d (nD s b x)
def KH:Value->PV
 | .bool b=>.bool b
 | .int k n=>.int k n
 | .string s=>.str s
 | .pointer none=>.Ip
 | .slice none 0 0=>.sl 0 [] true
 | .nilFunc=>.Vo
 | _=>.top
def EY:List Value->List PV
 | []=>[]
 | v::vs=>KH v::EY vs
def XG:Value->PV
 | .agg cs=>.agg (EY cs.toList)
 | v=>KH v
def lJ:PV->List PV
 | .agg cs=>cs
 | v=>[v]
def xm:PV->Bool
 | .agg _|.Eu _|.top|.undef=>false
 | _=>true
def gW:List PV->Bool
 | []=>true
 | v::vs=>xm v&&gW vs
def pK (E:Env):Option Nat->PV->Env
 | none,_=>E
 | some d,v=>{ E with tmps:=nC E.tmps d v }
def kK (P:Program)(t:TypeId):Bool :=
 match P.underlying t with
 | some (.struct _)|some (.array ..)=>true
 | _=>false
structure FI where
 off:Nat
 size:Nat
 agg:Bool
inductive TK where
 | oth
 | str
 | ptr
 | int (k:IntKind)
 | struct (fs:List FI)
 | arr (n sz:Nat) (agg:Bool)
 | slice (sz bytes:Nat) (zero:Option (List PV))
 | map (sz:Nat) (zero:List PV)
structure TI where
 ok:Bool
 agg:Bool
 size:Nat
 zero:Option (List PV)
 plain:Option (List Nat)
 kind:TK
def TI.bad:TI:={ ok:=false,agg:=false,size:=0,zero:=none,plain:=none,kind:=.oth }
structure Tab where
 ti:TypeId->TI
 gl:Nat->Option (List PV)
 oZ:Nat
 cut:List Nat
 lq:Nat
 own:List (List (Nat×Bool))
 dcl:List (Nat×Nat)
 yl:Option (Nat×Loop×Value)
 hid:Nat->List (Nat×Nat)
instance:CoeFun Tab (λ_=>TypeId->TI):=⟨Tab.ti⟩
def rM (T:Tab)(tmps:List PV):Operand->PV
 | .tmp t=>iV tmps t
 | .const v=>XG v
 | .func f=>.fn f []
 | .global g=>match T.gl g with|some cs=>.pp cs|none=>.top
def evO (T:Tab)(tmps:List PV):Option Operand->Option PV
 | none=>none
 | some x=>some (rM T tmps x)
def evA (T:Tab)(tmps:List PV):List Operand->List PV
 | []=>[]
 | x::l=>rM T tmps x::evA T tmps l
def kR:Nat->Bool
 | 0=>false
 | _+1=>true
def Ec:PV->Option (IntKind×Int)
 | .int k n|.si k n=>some (k,n)
 | _=>none
def XH:PV->Option Bool
 | .bool b|.sb b=>some b
 | _=>none
def Iy:BinOp->Bool
 | .add|.sub|.mul|.and|.or|.xor|.andNot=>true
 | _=>false
def MN:BinOp->Bool
 | .eql|.neq|.lss|.leq|.gtr|.geq=>true
 | _=>false
def iL (op:BinOp)(k:IntKind)(a b:Int):Int :=
 match op with
 | .add=>k.wrap (a+b)
 | .sub=>k.wrap (a-b)
 | .mul=>k.wrap (a*b)
 | .and=>k.wrap ((BitVec.ofInt k.bits a &&& BitVec.ofInt k.bits b).toNat)
 | .or=>k.wrap ((BitVec.ofInt k.bits a ||| BitVec.ofInt k.bits b).toNat)
 | .xor=>k.wrap ((BitVec.ofInt k.bits a ^^^ BitVec.ofInt k.bits b).toNat)
 | .andNot=>k.wrap ((BitVec.ofInt k.bits a &&& ~~~(BitVec.ofInt k.bits b)).toNat)
 | _=>0
def zA (op:BinOp)(a b:Int):Bool :=
 match op with
 | .eql=>decide (a=b)
 | .neq=>!decide (a=b)
 | .lss=>decide (a<b)
 | .leq=>decide (a<=b)
 | .gtr=>decide (b<a)
 | .geq=>decide (b<=a)
 | _=>false
def fQ (op:BinOp)(a b:ByteArray):Bool :=
 match op with
 | .eql=>decide (a=b)
 | .neq=>!decide (a=b)
 | .lss=>Op.bytesLess a.toList b.toList
 | .leq=>Op.bytesLess a.toList b.toList || decide (a=b)
 | .gtr=>!(Op.bytesLess a.toList b.toList || decide (a=b))
 | .geq=>!Op.bytesLess a.toList b.toList
 | _=>false
def uk:IntKind->IntKind->Bool
 | .i8,.i8|.i16,.i16|.i32,.i32|.i64,.i64|.u8,.u8|.u16,.u16|.u32,.u32|.u64,.u64=>true
 | _,_=>false
def eqC (S:gV):Nat->PV->PV->Option Bool
 | 0,x,y=>match Ec x,Ec y with
  | some (k,a),some (k',b)=>bif uk k k' then some (S.cmp .eql a b) else none
  | _,_=>none
 | 1,x,y=>match XH x,XH y with
  | some a,some b=>some (S.beq a b)
  | _,_=>none
 | 2,.str a,.str b=>some (S.ahP .eql a b)
 | _,_,_=>none
def abX (S:gV):List Nat->List PV->List PV->Option Bool
 | [],[],[]=>some true
 | k::ks,x::xs,y::ys=>
  match eqC S k x y with
  | none=>none
  | some a=>match abX S ks xs ys with
   | none=>none
   | some b=>some (S.band a b)
 | _,_,_=>none
def abY:Nat->List Nat->List Nat
 | 0,_=>[]
 | n+1,l=>l++abY n l
def N9 (P:Program)(rec:TypeId->Option (List Nat)):List Field->Nat->Option (List Nat)
 | [],_=>some []
 | f :: fs, n=> if f.offset = n ∧ f.name ≠ "_" ∧ P.info? f.type ≠ none then
   match rec f.type with
   | some s=>if P.cellsOf f.type=s.length/\0<s.length then
     match N9 P rec fs (n+s.length) with
     | some r=>some (s++r)
     | none=>none
    else none
   | none=>none
  else none
def xn (P:Program):Nat->TypeId->Option (List Nat)
 | 0,_=>none
 | d+1,t=>
  match P.underlying t with
  | some .bool=>some [1]
  | some (.int _)=>some [0]
  | some .string=>some [2]
  | some (.struct fs)=>if P.stoodInHeld t then none else N9 P (xn P d) fs.toList 0
  | some (.array n e)=>match xn P d e with
   | some s=>if P.cellsOf e=s.length/\P.info? e≠none then some (abY n s) else none
   | none=>none
  | _=>none
def isSpec:BinOp->Bool
 | .shl|.shr|.quo|.rem=>true
 | _=>false
def Uc:BinOp->Bool
 | .eql=>true
 | _=>false
def Ud:BinOp->Bool
 | .neq=>true
 | _=>false
def isAdd:BinOp->Bool
 | .add=>true
 | _=>false
def Xf (S:gV)(op:BinOp)(k:IntKind)(a:Int)(k' : IntKind)(b:Int)(K:PV->Prop):Prop :=
 match op with
 | .shl|.shr=>S.shf op k a b λn=>K (.si k n)
 | .quo|.rem=>bif uk k k' then S.div op k a b λn=>K (.si k n) else False
 | _=>False
def RY:PV->Bool
 | .lv _ _|.lp _ _ _|.pp _|.np _ _ _ _ _ _ _=>true
 | _=>false
def Jq:PV->Bool
 | .Ip=>true
 | _=>false
def eqK (S:gV)(op:BinOp)(b:Bool)(K:PV->Prop):Prop := bif Uc op then K (.sb b) else bif Ud op then K (.sb (S.beq b false)) else False
def eqL (op:BinOp)(b:Bool)(K:PV->Prop):Prop := bif Uc op then K (.bool b) else bif Ud op then(match b with|true=>K (.bool false)|false=>K (.bool true)) else False
def afg (T:Tab)(S:gV)(op:BinOp)(t:TypeId)(x y:PV)(K:PV->Prop):Prop :=
 match x,y with
 | .int k a,.int k' b=>
  bif isSpec op then Xf S op k a k' b K
  else bif uk k k' then(bif Iy op then K (.int k (iL op k a b)) else bif MN op then K (.bool (zA op a b)) else False) else False
 | .str a,.str b=>
  bif isAdd op then S.aff a b λc=>K (.str c)
  else bif MN op then K (.sb (S.ahP op a b)) else False
 | .agg xs,.agg ys=>
  match T t with
  | { ok:=true,agg:=true,plain:=some ks,.. }=>(match abX S ks xs ys with
   | some b=>eqK S op b K
   | _=>False)
  | _=>False
 | x,y=>
  match Ec x,Ec y with
  | some (k,a),some (k',b)=>
   bif isSpec op then Xf S op k a k' b K
   else bif uk k k' then(bif Iy op then K (.si k (S.bin op k a b)) else bif MN op then K (.sb (S.cmp op a b)) else False) else False
  | _,_=>
   match XH x,XH y with
   | some a,some b=>(match T t with
    | { ok:=true,agg:=false,plain:=some [1],.. }=>eqK S op (S.beq a b) K
    | _=>False)
   | _,_=>
    match T t with
    | { ok:=true,kind:=.ptr,.. }=>
     bif Jq x&&Jq y then eqL op true K
     else bif (Jq x&&RY y) || (RY x&&Jq y) then eqL op false K
     else False
    | _=>False
def JR (place:Nat->Option (Nat×Nat)):List PV->List (Nat×PV)->Option (List PV)
 | cells,[]=>some cells
 | cells,(i,v)::rest=>
  match place i with
  | none=>none
  | some (off,size)=>
   bif Nat.beq (nN (lJ v)) size&&Nat.ble (off+size) (nN cells) then JR place (lZ cells off (lJ v)) rest else none
def evP (T:Tab)(tmps:List PV):List (Nat×Operand)->List (Nat×PV)
 | []=>[]
 | (i,x)::l=>(i,rM T tmps x)::evP T tmps l
def ES:List (Nat×PV)->Bool
 | []=>true
 | (_,.top)::_=>false
 | _::l=>ES l
def Iz (P:Program)(t:TypeId):Option (List PV) :=
 match P.info? t with
 | some i=>match i.zero with
  | some z=>some (lJ (XG z))
  | none=>none
 | none=>none
def Pj:Nat->List PV->List PV
 | 0,_=>[]
 | n+1,l=>vw l (Pj n l)
def IA:List FI->Nat->Option FI
 | [],_=>none
 | f::_,0=>some f
 | _::l,n+1=>IA l n
def Vr (fs:List FI)(i:Nat):Option (Nat×Nat) :=
 match IA fs i with
 | some f=>some (f.off,f.size)
 | none=>none
def YF (P:Program)(t:TypeId):Option (List PV) :=
 match P.info? t with
 | some i=>match i.zero with
  | some (.agg cs)=>some (EY cs.toList)
  | _=>none
 | none=>none
def Qj (P:Program)(k e:TypeId):TK :=
 match P.underlying k,YF P e with
 | some (.int .i64),some z=>.map (P.cellsOf e) z
 | _,_=>.oth
def afh (P:Program)(t:TypeId):TI :=
 match P.info? t,P.underlying t with
 | some i,some d=>
  { ok:=true,agg:=kK P t,size:=i.size,zero:=Iz P t,plain:=if P.eqGuardType P.depth t then none else xn P 20 t,kind:=match d with
    | .struct fs=>.struct (fs.toList.map λf=>{ off:=f.offset,size:=P.cellsOf f.type,agg:=kK P f.type })
    | .array n e=>.arr n (P.cellsOf e) (kK P e)
    | .slice e=>.slice (P.cellsOf e) (P.bytesOf e) (Iz P e)
    | .int k=>.int k
    | .string=>.str
    | .pointer _=>.ptr
    | .map k e=>Qj P k e
    | _=>.oth }
 | _,_=>.bad
def iK (P:Program)(T:Tab):Prop:=∀ t,(T t).ok=true->T t=afh P t/\t<P.types.size
abbrev Dl:=List (Nat×Option lI)
def rowsOf (S:gV)(esz:Nat)(lk:Nat->Option lI):PV->Option (List (List PV))
 | .sl sz es _=>bif Nat.beq sz esz then some es else(match es with|[]=>some []|_::_=>none)
 | .os b r n=>match lk b with
  | some (.arr _ sz rows)=>bif Nat.beq sz esz then some (S.sub rows r n) else none
  | _=>none
 | _=>none
def loadRow (agg:Bool)(size:Nat)(row:List PV)(c:Nat)(K:PV->Prop):Prop := bif agg then(bif Nat.ble (c+size) (nN row) then K (.agg (Ub size (Gw c row))) else False) else(bif Nat.blt c (nN row) then K (iV row c) else False)
def nX (size:Nat)(row:List PV)(c:Nat)(v:PV)(K:List PV->Prop):Prop := bif gW (lJ v)&&Nat.beq (nN (lJ v)) size&&Nat.ble (c+nN (lJ v)) (nN row) then K (lZ row c (lJ v)) else False
def pur (S:gV)(lk:Nat->Option lI):List PV->Option (List PV×Dl)
 | []=>some ([],[])
 | v::vs=>match pur S lk vs with
  | none=>none
  | some (vs',δ)=>match v with
   | .os b r n=>(match lk b with
    | some (.arr _ sz rows)=>some (.sl sz (S.sub rows r n) false::vs',(b,some (.arr true sz rows))::δ)
    | _=>none)
   | .lv _ _|.lp _ _ _|.fn _ (_::_)|.agg _|.Eu _|.top|.undef|.ow _ _ _|.bo _ _ _ _ _ _|.np _ _ _ _ _ _ _|.mp _|.yl _|.hc=>none
   | v=>some (v::vs',δ)
def ai1 (_:Nat):Option lI:=none
def Ue:List PV->Bool
 | []=>false
 | .sl _ _ _::_=>true
 | _::l=>Ue l
def afi (lq:Nat)(esz:Nat)(z:List PV)(rows:List (List PV)):lI :=
 match lq with
 | 0=>.arr false esz rows
 | _+1=>(match Ue z with
  | true=>.lq esz rows
  | false=>.arr false esz rows)
def hd0:Hdr:=⟨0,0,0⟩
def owC (n:Nat)(v:PV):PV :=
 match v with
 | .sl _ es f=>(match f with
  | true=>(match es with
   | []=>.ow hd0 n []
   | _::_=>v)
  | false=>v)
 | v=>v
def owZ (n:Nat):List PV->List PV
 | []=>[]
 | v::l=>owC n v::owZ n l
def ajw (S:gV)(b r c:Nat):PV->PV
 | .ow h sz es=>.bo b r c h sz (S.fE es)
 | v=>v
def afj (S:gV)(b r:Nat):Nat->List PV->List PV
 | _,[]=>[]
 | c,v::l=>ajw S b r c v::afj S b r (c+1) l
def aay (b:Nat):Dl->Bool
 | []=>false
 | (c,_)::l=>Nat.beq c b || aay b l
def Vs:List PV->Bool
 | []=>false
 | v::vs=>match v with
  | .int _ _=>true
  | .bool _=>true
  | .sl _ es f=>(match f with
   | true=>(match es with
    | []=>true
    | _::_=>Vs vs)
   | false=>Vs vs)
  | _=>Vs vs
def wkC (S:gV)(cs:List PV)(K:List PV->Prop):Prop :=
 match Vs cs with
 | true=>S.wk cs K
 | false=>K cs
def wkN (S:gV)(lq:Nat)(cs:List PV)(K:List PV->Prop):Prop :=
 match lq with
 | 0=>wkC S cs K
 | n+1=>(match Ue cs with
  | true=>K (owZ n cs)
  | false=>wkC S cs K)
def abZ:Operand->Bool
 | .const (.slice none 0 0)=>true
 | _=>false
def nV (T:Tab)(S:gV)(o:Op)(tmps:List PV)(lk:Nat->Option lI)(id:Nat)(K:PV->Dl->Prop):Prop :=
 match o with
 | .move x|.assign x=>K (rM T tmps x) []
 | .pick c a b=>
  match rM T tmps c with
  | .bool true=>K (rM T tmps a) []
  | .bool false=>K (rM T tmps b) []
  | _=>False
 | .alloc t=>
  match T t with
  | { ok:=true,zero:=some z,.. }=>K (.lv id 0) [(id,some (.var false z))]
  | _=>False
 | .box _ x=>
  match rM T tmps x with
  | .top=>False
  | v=>K (.lv id 0) [(id,some (.var false (lJ v)))]
 | .fieldAddr t x f=>
  match T t with
  | { ok:=true,kind:=.struct fs,.. }=>(match IA fs f with
   | some fd=>bif kR fd.size then(match rM T tmps x with
    | .lv b c=>K (.lv b (c+fd.off)) []
    | .lp b r c=>K (.lp b r (c+fd.off)) []
    | .np b r c h sz j k=>K (.np b r c h sz j (k+fd.off)) []
    | .pp cs=>bif Nat.ble fd.off (nN cs) then K (.pp (Gw fd.off cs)) [] else False
    | _=>False) else False
   | none=>False)
  | _=>False
 | .field t x f=>
  match T t with
  | { ok:=true,kind:=.struct fs,.. }=>(match IA fs f with
   | some fd=>(match rM T tmps x with
    | .agg cs=>bif kR fd.size then loadRow fd.agg fd.size cs fd.off (λv=>K v []) else False
    | _=>False)
   | none=>False)
  | _=>False
 | .load t x=>
  match T t with
  | { ok:=true,agg,size,.. }=>(match rM T tmps x with
   | .lv b c=>(match lk b with
    | some (.var _ row)=>loadRow agg size row c λv=>K v []
    | _=>False)
   | .lp b r c=>(match lk b with
    | some (.arr _ _ rows)=>S.row rows r λrow=>loadRow agg size row c λv=>K v []
    | some (.lq _ rows)=>S.row rows r λrow=>loadRow agg size (afj S b r 0 row) c λv=>K v []
    | some (.nor _ _ r0 row)=>S.same ⟨r,0,0⟩ ⟨r0,0,0⟩ (loadRow agg size row c λv=>K v [])
    | _=>False)
   | .np b r c h sz j k=>(match lk b with
    | some (.lq _ rows)=>S.row rows r λrow=>(match iV row c with
     | .ow h' sz' es=>bif Nat.beq sz' sz then S.same h h' (S.row es j λer=>loadRow agg size er k λv=>K v []) else False
     | _=>False)
    | _=>False)
   | .pp cs=>loadRow agg size cs 0 λv=>K v []
   | _=>False)
  | _=>False
 | .store t x y=>
  match T t with
  | { ok:=true,size,.. }=>(match rM T tmps x with
   | .lv b c=>(match lk b with
    | some (.var false row)=>nX size row c (rM T tmps y) λrow'=>K .undef [(b,some (.var false row'))]
    | _=>False)
   | .lp b r c=>(match lk b with
    | some (.arr false sz rows)=>(match pur S lk (lJ (rM T tmps y)) with
     | some (cs,δ)=>bif aay b δ then False else wkC S cs λcs=>S.row rows r λrow=>nX size row c (.agg cs) λrow'=>K .undef (δ++[(b,some (.arr false sz (S.Gv rows r row')))])
     | none=>False)
    | some (.lq sz rows)=>(match rM T tmps y with
     | .os id r0 n=>(match lk id with
      | some (.arr false sz' rows')=>bif Nat.beq size 1&&Nat.beq id b then False else S.row rows r λrow=>S.nu λh=>
        nX size row c (.ow h sz' (S.sub rows' r0 n)) λrow'=>K .undef [(id,none),(b,some (.lq sz (S.Gv rows r row')))]
      | _=>False)
     | y=>(match pur S lk (lJ y) with
      | some (cs,[])=>S.row rows r λrow=>nX size row c (.agg cs) λrow'=>K .undef [(b,some (.lq sz (S.Gv rows r row')))]
      | _=>False))
    | some (.nor sz rows r0 row)=>S.same ⟨r,0,0⟩ ⟨r0,0,0⟩ (nX size row c (rM T tmps y) λrow'=>K .undef [(b,some (.nor sz rows r0 row'))])
    | _=>False)
   | .np b r c h sz j k=>(match lk b with
    | some (.lq sz0 rows)=>(match pur S ai1 (lJ (rM T tmps y)) with
     | some (cs,[])=>wkC S cs λcs=>S.row rows r λrow=>(match iV row c with
      | .ow h' sz' es=>bif Nat.beq sz' sz then S.same h h' (S.row es j λer=>nX size er k (.agg cs) λer' =>
        K .undef [(b,some (.lq sz0 (S.Gv rows r (nC row c (.ow h' sz' (S.Gv es j er'))))))]) else False
      | _=>False)
     | _=>False)
    | _=>False)
   | _=>False)
  | _=>False
 | .nilCheck x=>
  match rM T tmps x with
  | .lv b c=>K (.lv b c) []
  | .lp b r c=>K (.lp b r c) []
  | .pp cs=>K (.pp cs) []
  | .np b r c h sz j k=>K (.np b r c h sz j k) []
  | .fn f cs=>K (.fn f cs) []
  | _=>False
 | .binOp op t x y _=>
  match abZ y with
  | true=>(match T t with
   | { ok:=true,kind:=.slice _ _ _,.. }=>(match rM T tmps x with
    | .sl _ es _=>S.Vq es λb=>eqL op b λv=>K v []
    | .os b r n=>(match lk b with
     | some (.arr _ _ rows)=>S.Vq (S.sub rows r n) λb=>eqL op b λv=>K v []
     | _=>False)
    | _=>False)
   | _=>False)
  | false=>(match T t with
   | { ok:=true,.. }=>afg T S op t (rM T tmps x) (rM T tmps y) λv=>K v []
   | _=>False)
 | .unOp .not _ x=>
  match rM T tmps x with
  | .bool true=>K (.bool false) []
  | .bool false=>K (.bool true) []
  | .sb b=>K (.sb (S.beq b false)) []
  | _=>False
 | .unOp .neg _ x=>
  match rM T tmps x with
  | .int k n=>K (.int k (k.wrap (0-n))) []
  | .si k n=>K (.si k (S.neg k n)) []
  | _=>False
 | .convert s d x=>
  match T s,T d with
  | { ok:=true,kind:=.slice _ _ _,.. },{ ok:=true,kind:=.str,.. }=>(match rowsOf S 1 lk (rM T tmps x) with
   | some rows=>S.toS s rows λb=>K (.str b) []
   | none=>False)
  | { ok:=true,kind:=.str,.. },{ ok:=true,kind:=.slice _ _ _,.. }=>(match rM T tmps x with
   | .str b=>S.toB d b λrows=>K (.sl 1 rows false) []
   | _=>False)
  | { ok:=true,.. },{ ok:=true,kind:=.int k,.. }=>(match rM T tmps x with
   | .int _ n=>K (.int k (k.wrap n)) []
   | .si _ n=>K (.si k (S.conv k n)) []
   | _=>False)
  | _,_=>False
 | .indexAddr t x i=>
  match T t with
  | { ok:=true,kind:=.slice esz _ _,.. }=>
   (match rM T tmps x,Ec (rM T tmps i) with
   | .sl sz es _,some (_,n)=>bif kR esz&&Nat.beq sz esz then S.idx es n λrow=>K (.pp row) [] else False
   | .os b r len,some (_,n)=>(match lk b with
    | some (.arr _ sz _)=>bif kR esz&&Nat.beq sz esz then S.ix len n λj=>K (.lp b (S.EX r j) 0) [] else False
    | some (.lq sz _)=>bif kR esz&&Nat.beq sz esz then S.ix len n λj=>K (.lp b (S.EX r j) 0) [] else False
    | some (.nor sz _ _ _)=>bif kR esz&&Nat.beq sz esz then S.ix len n λj=>K (.lp b (S.EX r j) 0) [] else False
    | _=>False)
   | .bo b r c h sz len,some (_,n)=>bif kR esz&&Nat.beq sz esz then S.ix len n λj=>K (.np b r c h sz j 0) [] else False
   | _,_=>False)
  | { ok:=true,kind:=.arr len esz _,.. }=>bif kR esz then
   (match rM T tmps i with
   | .int _ (.ofNat n)=>bif Nat.blt n len then(match rM T tmps x with
    | .lv b c=>K (.lv b (c+n*esz)) []
    | .lp b r c=>K (.lp b r (c+n*esz)) []
    | .pp cs=>bif Nat.ble (n*esz) (nN cs) then K (.pp (Gw (n*esz) cs)) [] else False
    | _=>False) else False
   | .si _ n=>S.ix len n λj=>(match rM T tmps x with
    | .lv b c=>K (.lv b (c+j*esz)) []
    | .lp b r c=>K (.lp b r (c+j*esz)) []
    | .pp cs=>bif Nat.ble (j*esz) (nN cs) then K (.pp (Gw (j*esz) cs)) [] else False
    | _=>False)
   | _=>False) else False
  | _=>False
 | .index t x i=>
  match T t,rM T tmps x,Ec (rM T tmps i) with
  | { ok:=true,kind:=.str,.. },.str s,some (_,n)=>S.afe s n λc=>K (.si .u8 c) []
  | { ok:=true,kind:=.arr len esz agg,.. },.agg cs,some (_,n)=>bif kR esz then S.ix len n (λj=>loadRow agg esz cs (j*esz) λv=>K v []) else False
  | _,_,_=>False
 | .extract t i=>
  match rM T tmps t with
  | .Eu vs=>bif Nat.blt i (nN vs) then K (iV vs i) [] else False
  | _=>False
 | .build t parts=>
  match T t with
  | { ok:=true,zero:=some z,kind:=.struct fs,.. }=>
   bif ES (evP T tmps parts.toList) then(match JR (Vr fs) z (evP T tmps parts.toList) with
    | some cs=>K (.agg cs) []
    | none=>False) else False
  | { ok:=true,zero:=some z,kind:=.arr _ esz _,.. }=>
   bif ES (evP T tmps parts.toList) then(match JR (λi=>some (i*esz,esz)) z (evP T tmps parts.toList) with
    | some cs=>K (.agg cs) []
    | none=>False) else False
  | _=>False
 | .buildSlice t len parts=>
  match T t with
  | { ok:=true,kind:=.slice esz _ (some z),.. }=>
    bif kR esz&&Nat.beq (nN z) esz&&Nat.ble (len*esz) 16777216&&ES (evP T tmps parts.toList) then
     (match JR (λi=>some (i*esz,esz)) (Pj len z) (evP T tmps parts.toList) with
     | some cs=>(match pur S lk cs with
      | some (cs,δ)=>wkC S cs λcs=>K (.os id 0 len) (δ++[(id,some (.arr false esz (chunks esz len cs)))])
      | none=>False)
     | none=>False)
    else False
  | _=>False
 | .makeFunc (.func f) first captured=>
  match first.toList with
  | []=>K (.fn f (evA T tmps captured.toList)) []
  | _=>False
 | .makeSlice t l c=>
  match T t,Ec (rM T tmps l),Ec (rM T tmps c) with
  | { ok:=true,kind:=.slice esz bytes (some z),.. },some (_,n),some (_,m)=>
    bif kR esz&&Nat.beq (nN z) esz&&gW z then
     S.mks n m bytes λj=>wkN S T.lq z λz2=>K (.os id 0 j) [(id,some (afi T.lq esz z (S.rep j z2)))]
    else False
  | _,_,_=>False
 | .slice t x lo hi mx=>
  match T t,rM T tmps x,evO T tmps lo,evO T tmps hi,evO T tmps mx with
  | { ok:=true,kind:=.slice esz _ _,.. },.sl sz es full,l,h,none=>bif kR esz&&Nat.beq sz esz then
   (match h with
   | none=>match l with
    | none=>K (.sl sz es full) []
    | some lv=>match Ec lv with
     | some (_,a)=>S.slc (S.fE es) a (S.len es) λi j=>K (.sl sz (S.sub es i (S.aax j i)) full) []
     | none=>False
   | some hv=>match Ec hv with
    | some (_,b)=>match l with
     | none=>S.slc (S.fE es) 0 b λi j=>K (.sl sz (S.sub es i (S.aax j i)) false) []
     | some lv=>match Ec lv with
      | some (_,a)=>S.slc (S.fE es) a b λi j=>K (.sl sz (S.sub es i (S.aax j i)) false) []
      | none=>False
    | none=>False) else False
  | { ok:=true,kind:=.slice esz _ _,.. },.os b r n,l,h,none=>
   (match lk b with
   | some (.arr _ sz _)=>bif kR esz&&Nat.beq sz esz then
    (match h with
    | none=>match l with
     | none=>K (.os b r n) []
     | some lv=>match Ec lv with
      | some (_,a)=>S.slc n a (S.yf n) λi j=>K (.os b (S.EX r i) (S.aax j i)) []
      | none=>False
    | some hv=>match Ec hv with
     | some (_,c)=>match l with
      | none=>S.slc n 0 c λi j=>K (.os b (S.EX r i) (S.aax j i)) []
      | some lv=>match Ec lv with
       | some (_,a)=>S.slc n a c λi j=>K (.os b (S.EX r i) (S.aax j i)) []
       | none=>False
     | none=>False) else False
   | _=>False)
  | { ok:=true,kind:=.slice esz _ _,.. },.sl _ _ _,none,some (.int _ 0),some (.int _ 0)=>bif kR esz then K (.sl esz [] true) [] else False
  | { ok:=true,kind:=.slice esz _ _,.. },.os _ _ _,none,some (.int _ 0),some (.int _ 0)=>bif kR esz then K (.sl esz [] true) [] else False
  | { ok:=true,kind:=.str,.. },.str s,l,h,none=>
   (match l with
   | none=>match h with
    | none=>K (.str s) []
    | some hv=>match Ec hv with
     | some (_,b)=>S.abW s 0 b λs'=>K (.str s') []
     | none=>False
   | some lv=>match Ec lv with
    | some (_,a)=>match h with
     | none=>S.abW s a (S.slen s) λs'=>K (.str s') []
     | some hv=>match Ec hv with
      | some (_,b)=>S.abW s a b λs'=>K (.str s') []
      | none=>False
    | none=>False)
  | { ok:=true,kind:=.arr n esz _,.. },.lv b c,none,none,none=>
   (match lk b with
   | some (.var _ row)=>bif kR esz&&Nat.ble (c+n*esz) (nN row) then
     (match pur S (λ_=>none) row with
     | some _=>K (.sl esz (chunks esz n (Gw c row)) true) [(b,some (.var true row))]
     | none=>False) else False
   | _=>False)
  | { ok:=true,kind:=.arr n esz _,.. },.pp cs,none,none,none=>
   bif kR esz&&gW cs&&Nat.ble (n*esz) (nN cs) then K (.sl esz (chunks esz n cs) true) [] else False
  | _,_,_,_,_=>False
 | .call { callee:=.builtin b,args,argTypes }=>
  match b,evA T tmps args.toList,argTypes.toList with
  | .len,[.str s],[t]=>(match T t with|{ ok:=true,kind:=.str,.. }=>K (.si .i64 (S.slen s)) []|_=>False)
  | .len,[.sl _ es _],[t]=>(match T t with|{ ok:=true,kind:=.slice _ _ _,.. }=>K (.si .i64 (S.len es)) []|_=>False)
  | .len,[.bo _ _ _ _ _ n],[t]=>(match T t with|{ ok:=true,kind:=.slice _ _ _,.. }=>K (.si .i64 (S.yf n)) []|_=>False)
  | .len,[.os _ _ n],[t]=>(match T t with|{ ok:=true,kind:=.slice _ _ _,.. }=>K (.si .i64 (S.yf n)) []|_=>False)
  | .min,[x,y],_=>(match x,y with
   | .int k a,.int k' b=>bif uk k k' then K (.int k (if b<a then b else a)) [] else False
   | x,y=>match Ec x,Ec y with
    | some (k,a),some (k',b)=>bif uk k k' then K (.si k (S.ajs a b)) [] else False
    | _,_=>False)
  | .max,[x,y],_=>(match x,y with
   | .int k a,.int k' b=>bif uk k k' then K (.int k (if a<b then b else a)) [] else False
   | x,y=>match Ec x,Ec y with
    | some (k,a),some (k',b)=>bif uk k k' then K (.si k (S.ajt a b)) [] else False
    | _,_=>False)
  | .append,[s,x],t::u::_=>
   (match T t,T u with
   | { ok:=true,kind:=.slice esz bytes (some z),.. },{ ok:=true,kind:=.slice _ _ _,.. }=>
    bif kR esz&&Nat.beq (nN z) esz then
     (match s,rowsOf S esz lk x with
     | .sl _ [] true,some new=>
      S.room (S.fE new) bytes (K (.os id 0 (S.fE new)) [(id,some (.arr false esz new))])
     | .os b r n,some new=>(match lk b with
      | some (.arr false sz rows)=>bif Nat.beq sz esz then
        S.room (S.EX n (S.fE new)) bytes (K (.os id 0 (S.EX n (S.fE new))) [(b,none),(id,some (.arr false sz (S.app (S.sub rows r n) new)))])
       else False
      | _=>False)
     | .bo b r c h sz m,some new=>(match lk b with
      | some (.lq sz0 rows)=>bif Nat.beq sz esz then
        S.row rows r λrow=>(match iV row c with
        | .ow h' sz' es=>bif Nat.beq sz' sz&&(bif Nat.beq b id then false else true) then
          S.same h h' (S.same ⟨m,0,0⟩ ⟨S.fE es,0,0⟩ (S.room (S.EX m (S.fE new)) bytes
           (K (.os id 0 (S.EX m (S.fE new))) [(b,some (.lq sz0 (S.Gv rows r (nC row c (.bo b r c h sz m))))),(id,some (.arr false sz (S.app es new)))]))) else False
        | _=>False)
       else False
      | _=>False)
     | _,_=>False) else False
   | _,_=>False)
  | .clear,[.os b r n],t::_=>
   (match T t with
   | { ok:=true,kind:=.slice esz _ (some z),.. }=>
    (match lk b with
    | some (.arr false sz rows)=>bif Nat.beq sz esz&&Nat.beq (nN z) sz&&kR sz&&gW z then
      wkC S z λz2=>K (.Eu []) [(b,some (.arr false sz (S.spl rows r (S.rep n z2))))] else False
    | _=>False)
   | _=>False)
  | _,_,_=>False
 | _=>False
def MK (f:PV->Option PV):List PV->Option (List PV)
 | []=>some []
 | c::cs=>match f c with
  | none=>none
  | some c=>match MK f cs with
   | none=>none
   | some cs=>some (c::cs)
def aem (p:PV):PV :=
 match xm p with
 | true=>.hc
 | false=>.top
def ahR (c:Nat):PV->PV
 | .agg cs=>.agg (nC cs c (aem (iV cs c)))
 | .pp cs=>.pp (nC cs c (aem (iV cs c)))
 | v=>v
def Gx:List (Nat×Nat)->List PV->List PV
 | [],as=>as
 | (i,c)::l,as=>Gx l (nC as i (ahR c (iV as i)))
def frz (S:gV)(lk:Nat->Option lI):Nat->PV->Option PV
 | 0,_=>none
 | d+1,v=>
  match v with
  | .bool b=>some (.sb b)
  | .sb b=>some (.sb b)
  | .int k n=>some (.si k n)
  | .si k n=>some (.si k n)
  | .str s=>some (.str s)
  | .Ip=>some .Ip
  | .Vo=>some .Vo
  | .top=>some .top
  | .hc=>some .hc
  | .sl sz es _=>some (.sl sz es false)
  | .pp cs=>some (.pp cs)
  | .agg cs=>match MK (frz S lk d) cs with|some cs=>some (.agg cs)|none=>none
  | .Eu cs=>match MK (frz S lk d) cs with|some cs=>some (.Eu cs)|none=>none
  | .fn f cs=>match MK (frz S lk d) cs with|some cs=>some (.fn f cs)|none=>none
  | .lv b c=>match lk b with
   | some (.var _ row)=>match MK (frz S lk d) (Gw c row) with|some cs=>some (.pp cs)|none=>none
   | _=>none
  | .os b r n=>match lk b with
   | some (.arr _ sz rows)=>some (.sl sz (S.sub rows r n) false)
   | some (.lq sz rows)=>some (.sl sz (S.fz (S.sub rows r n)) false)
   | _=>none
  | _=>none
def gd (S:gV)(all:Array Oper)(g:Option (Nat×Bool))(E:Env)(run skip:Env->Prop):Prop :=
 match g with
 | none=>run E
 | some (j,want)=>
  match all[j]? with
  | some o=>match o.dst with
   | some d=>match iV E.tmps d with
    | .bool true=>(match want with|true=>run E|false=>skip E)
    | .bool false=>(match want with|true=>skip E|false=>run E)
    | .sb b=>S.br b
      (λ_=>match want with|true=>run (pK E (some d) (.bool true))|false=>skip (pK E (some d) (.bool true)))
      (λ_=>match want with|true=>skip (pK E (some d) (.bool false))|false=>run (pK E (some d) (.bool false)))
    | .undef=>skip E
    | _=>False
   | none=>False
  | none=>False
def Uf:Dl->Nat->Nat
 | [],n=>n
 | _::_,n=>n+1
def aaz (f:PV->Bool):List PV->Bool
 | []=>true
 | c::cs=>f c&&aaz f cs
def JS:Nat->PV->Bool
 | 0,_=>false
 | d+1,v=>
  match v with
  | .bool _|.sb _|.int _ _|.si _ _|.str _|.Ip|.Vo=>true
  | .agg cs=>aaz (JS d) cs
  | .Eu cs=>aaz (JS d) cs
  | _=>false
def yB:List Nat->Nat->Bool
 | [],_=>false
 | b::l,c=>bif Nat.beq b c then true else yB l c
def ixN:List Nat->Nat->Option Nat
 | [],_=>none
 | b::l,c=>bif Nat.beq b c then some 0 else match ixN l c with|some i=>some (i+1)|none=>none
def afk:List Nat->List Nat->List Nat
 | [],m=>m
 | b::l,m=>b::afk l m
def CP:List Nat->Nat->List Nat
 | [],c=>[c]
 | b::l,c=>b::CP l c
def MO:List Nat->Bool
 | []=>true
 | b::l=>bif yB l b then false else MO l
def ltN (n:Nat):List Nat->Bool
 | []=>true
 | b::l=>Nat.blt b n&&ltN n l
def kU:List Nat->Nat
 | []=>0
 | _::l=>kU l+1
def XI:List Nat->Nat->Option Nat
 | [],_=>none
 | b::_,0=>some b
 | _::l,n+1=>XI l n
def upN:Nat->Nat->List Nat
 | _,0=>[]
 | i,n+1=>i::upN (i+1) n
def AA (f:List Nat->PV->List Nat):List Nat->List PV->List Nat
 | acc,[]=>acc
 | acc,v::vs=>AA f (f acc v) vs
def Ak (f:PV->PV):List PV->List PV
 | []=>[]
 | v::vs=>f v::Ak f vs
def Ey (st:St):Nat->List Nat->PV->List Nat
 | 0,acc,_=>acc
 | d+1,acc,v=>match v with
  | .os b _ _=>bif yB acc b then acc else match iH st b with
   | some (.nor _ _ _ row)=>AA (Ey st d) (CP acc b) row
   | _=>CP acc b
  | .lp b _ _=>bif yB acc b then acc else match iH st b with
   | some (.nor _ _ _ row)=>AA (Ey st d) (CP acc b) row
   | _=>CP acc b
  | .bo b _ _ _ _ _=>bif yB acc b then acc else CP acc b
  | .np b _ _ _ _ _ _=>bif yB acc b then acc else CP acc b
  | .mp b=>bif yB acc b then acc else CP acc b
  | .lv b _=>bif yB acc b then acc else match iH st b with
   | some (.var _ row)=>AA (Ey st d) (CP acc b) row
   | _=>CP acc b
  | .agg cs=>AA (Ey st d) acc cs
  | .Eu cs=>AA (Ey st d) acc cs
  | .fn _ cs=>AA (Ey st d) acc cs
  | _=>acc
def vI (f:Nat->Option Nat):Nat->PV->PV
 | 0,_=>.top
 | d+1,v=>match v with
  | .os b r n=>match f b with|some i=>.os i r n|none=>.top
  | .lp b r c=>match f b with|some i=>.lp i r c|none=>.top
  | .lv b c=>match f b with|some i=>.lv i c|none=>.top
  | .agg cs=>.agg (Ak (vI f d) cs)
  | .Eu cs=>.Eu (Ak (vI f d) cs)
  | .fn k cs=>.fn k (Ak (vI f d) cs)
  | .bo b r c h sz n=>match f b with|some i=>.bo i r c h sz n|none=>.top
  | .np b r c h sz j k=>match f b with|some i=>.np i r c h sz j k|none=>.top
  | .mp b=>match f b with|some i=>.mp i|none=>.top
  | v=>v
def Gy (f:Nat->Option Nat):Option lI->Option lI
 | some (.var ro row)=>some (.var ro (Ak (vI f 8) row))
 | some (.nor sz rows r row)=>some (.nor sz rows r (Ak (vI f 8) row))
 | x=>x
def yC (f:Nat->Option Nat)(st:St):Nat->List Nat->St
 | _,[]=>[]
 | i,b::l=>(i,Gy f (iH st b))::yC f st (i+1) l
def OX:List Nat->Nat->List PV->List PV
 | _,_,[]=>[]
 | [],i,_::l=>.top::OX [] (i+1) l
 | k::ks,i,x::l=>bif Nat.beq k i then x::OX ks (i+1) l else .top::OX (k::ks) (i+1) l
def Ug (st:St):List Nat->List Nat->List Nat
 | acc,[]=>acc
 | acc,b::l=>match iH st b with
  | some (.var _ row)=>Ug st (AA (Ey st 8) acc row) l
  | some (.nor _ _ _ row)=>Ug st (AA (Ey st 8) acc row) l
  | _=>Ug st acc l
def Uh (m:Nat)(st:St)(vs:List PV):List Nat:=AA (Ey st 8) (Ug st (upN 0 m) (upN 0 m)) vs
def aaA (ρ:List Nat)(ts:List PV)(st:St):Env:=⟨Ak (vI (ixN ρ) 8) ts,yC (ixN ρ) st 0 ρ,kU ρ⟩
def Iq (m:Nat)(keep:List Nat)(E:Env):Env := match OX keep 0 E.tmps with | ts=>aaA (Uh m E.st ts) ts E.st
def IB (args:List PV)(st:St):List Nat:=AA (Ey st 8) [] args
def CE (ρ:List Nat)(next:Nat)(i:Nat):Option Nat :=
 match XI ρ i with
 | some b=>some b
 | none=>some (next+(i-kU ρ))
def aaB (f:Nat->Option Nat)(st1:St):Nat->List Nat->St->St
 | _,[],st=>st
 | i,b::l,st=>aaB f st1 (i+1) l (nD st b (Gy f (iH st1 i)))
def EZ (ρ:List Nat)(E:Env)(st1:St)(n1:Nat):Env := ⟨E.tmps,aaB (CE ρ E.next) st1 0 (afk ρ (upN E.next (n1-kU ρ))) E.st,E.next+(n1-kU ρ)⟩
def ab1 (st:St)(b:Nat):Option lI :=
 match iH st b with
 | some (.var true row)=>some (.var true row)
 | some (.arr true sz rows)=>some (.arr true sz rows)
 | _=>none
def roS (st:St):List Nat->St
 | []=>st
 | b::l=>match iH st b with
  | some (.var _ row)=>roS (nD st b (some (.var true row))) l
  | some (.arr _ sz rows)=>roS (nD st b (some (.arr true sz rows))) l
  | _=>roS st l
def kS:St->Bool
 | []=>true
 | (_,some (.lq _ _))::_=>false
 | (_,some (.nor _ _ _ _))::_=>false
 | _::l=>kS l
def Vt (S:gV)(k:Nat)(args:List PV)(E:Env)(K:PV->Env->Prop):Prop :=
 match MK (frz S (ab1 E.st) 6) args with
 | some as=>S.Ua k args as (Ak (vI (ixN []) 8) as) E K
 | none=>match IB args E.st with
  | ρ=>S.call k args E (MK (frz S (iH E.st) 6) args) (MK (frz S (ab1 (roS E.st ρ)) 6) args) ρ (Ak (vI (ixN ρ) 8) args) (yC (ixN ρ) E.st 0 ρ) K
def afl (S:gV)(k:Nat)(args:List PV)(lk:Nat->Option lI)(K:PV->Prop):Prop :=
 match MK (frz S (λb=>match lk b with|some (.var true row)=>some (.var true row)|some (.arr true sz rows)=>some (.arr true sz rows)|_=>none) 6) args with
 | some as=>S.Vp k as K
 | none=>match MK (frz S lk 6) args with
  | some as=>S.XE k as K
  | none=>False
def ak1 (T:Tab)(t:TypeId):Bool :=
 match T t with
 | { ok:=true,kind:=.slice _ _ (some z),.. }=>Ue z
 | _=>false
def afm:List PV->Bool
 | []=>false
 | .sl _ [] true::_=>true
 | _::l=>afm l
def ajx (T:Tab)(S:gV)(t:TypeId)(len:Nat)(parts:Array (Nat×Operand))(tmps:List PV)(lk:Nat->Option lI)(id:Nat)(K:PV->Dl->Prop):Prop :=
 match T t with
 | { ok:=true,kind:=.slice esz _ (some z),.. }=>
  bif kR esz&&Nat.beq (nN z) esz&&Nat.ble (len*esz) 16777216&&ES (evP T tmps parts.toList) then
   (match JR (λi=>some (i*esz,esz)) (Pj len z) (evP T tmps parts.toList),len with
   | some [],0=>bif Nat.beq esz 1 then K (.os id 0 0) [(id,some (.lq 1 []))] else False
   | some [.os b r n],1=>bif Nat.beq esz 1 then(match lk b with
    | some (.arr false sz rows)=>bif Nat.beq b id then False else S.nu λh=>K (.os id 0 1) [(b,none),(id,some (.lq 1 [[.ow h sz (S.sub rows r n)]]))]
    | _=>False) else False
   | some cs,_=>(match T.lq,afm cs with
    | nn+1,true=>(match pur S ai1 cs with
     | some (cs',[])=>K (.os id 0 len) [(id,some (.lq esz (chunks esz len (owZ nn cs'))))]
     | _=>False)
    | _,_=>nV T S (.buildSlice t len parts) tmps lk id K)
   | none,_=>False)
  else False
 | _=>False
def ajy (T:Tab)(S:gV)(t u:TypeId)(b r n c:Nat)(lk:Nat->Option lI)(id:Nat)(K:PV->Dl->Prop):Prop :=
 match T t,T u with
 | { ok:=true,kind:=.slice esz bytes (some z),.. },{ ok:=true,kind:=.slice _ _ _,.. }=>
  (match lk b,lk c with
  | some (.lq sz rows),some (.lq sz' [row])=>
   bif kR esz&&Nat.beq (nN z) esz&&Nat.beq sz esz&&Nat.beq sz' esz&&(bif Nat.beq b c then false else bif Nat.beq b id then false else bif Nat.beq c id then false else true) then
    S.room (S.EX n 1) bytes (K (.os id 0 (S.EX n 1)) [(b,none),(c,none),(id,some (.lq sz (S.app (S.sub rows r n) [row])))])
   else False
  | _,_=>False)
 | _,_=>False
def adq (T:Tab)(S:gV)(t:TypeId)(m k x:PV)(lk:Nat->Option lI)(K:PV->Dl->Prop):Prop :=
 match T t,m,Ec k with
 | { ok:=true,kind:=.map sz _,.. },.mp b,some (.i64,n)=>(match lk b with
  | some (.map rows)=>(match x with
   | .agg xs=>(match pur S lk xs with
    | some (cs,δ)=>bif aay b δ then False else bif Nat.beq (nN cs) sz then wkC S cs λcs=>K .undef (δ++[(b,some (.map (S.ahQ rows n cs)))]) else False
    | none=>False)
   | _=>False)
  | _=>False)
 | _,_,_=>False
def ab2 (T:Tab)(S:gV)(t:TypeId)(m k:PV)(lk:Nat->Option lI)(K:PV->Dl->Prop):Prop :=
 match T t,m,Ec k with
 | { ok:=true,kind:=.map _ z,.. },.mp b,some (.i64,n)=>(match lk b with
  | some (.map rows)=>S.ajv rows n z λcs ok=>K (.Eu [.agg cs,.sb ok]) []
  | _=>False)
 | _,_,_=>False
def ab3 (T:Tab)(S:gV)(t:TypeId)(b:Nat)(lk:Nat->Option lI)(K:PV->Dl->Prop):Prop :=
 match T t with
 | { ok:=true,kind:=.map _ _,.. }=>(match lk b with
  | some (.map rows)=>K (.si .i64 (S.len rows)) []
  | _=>False)
 | _=>False
def ab4 (T:Tab)(t:TypeId)(id:Nat)(K:PV->Dl->Prop):Prop :=
 match T t with
 | { ok:=true,kind:=.map _ _,.. }=>K (.mp id) [(id,some (.map []))]
 | _=>False
def opN (T:Tab)(S:gV)(o:Op)(tmps:List PV)(lk:Nat->Option lI)(id:Nat)(K:PV->Dl->Prop):Prop :=
 match T.lq with
 | 0=>nV T S o tmps lk id K
 | _+1=>match o with
  | .makeMap t none=>ab4 T t id K
  | .mapUpdate t m k x=>adq T S t (rM T tmps m) (rM T tmps k) (rM T tmps x) lk K
  | .insert t m k x=>adq T S t (rM T tmps m) (rM T tmps k) (rM T tmps x) lk K
  | .lookup t m k true=>ab2 T S t (rM T tmps m) (rM T tmps k) lk K
  | .call { callee:=.builtin .len,args,argTypes }=>(match evA T tmps args.toList,argTypes.toList with
   | [.mp b],[t]=>ab3 T S t b lk K
   | _,_=>nV T S (.call { callee:=.builtin .len,args,argTypes }) tmps lk id K)
  | .buildSlice t len parts=>(match ak1 T t with
   | true=>ajx T S t len parts tmps lk id K
   | false=>nV T S (.buildSlice t len parts) tmps lk id K)
  | .call { callee:=.builtin .append,args,argTypes }=>(match evA T tmps args.toList,argTypes.toList with
   | [.os b r n,.os c 0 1],t::u::_=>(match ak1 T t,lk c with
    | true,some (.lq _ _)=>ajy T S t u b r n c lk id K
    | _,_=>nV T S (.call { callee:=.builtin .append,args,argTypes }) tmps lk id K)
   | _,_=>nV T S (.call { callee:=.builtin .append,args,argTypes }) tmps lk id K)
  | o=>nV T S o tmps lk id K
def afn (T:Tab)(S:gV)(o:Oper)(E:Env)(K:Env->Prop):Prop :=
 match o.op with
 | .call { callee:=.value f,args,argTypes:=_ }=>
  match rM T E.tmps f with
  | .fn k caps=>Vt S k (Gx (T.hid k) (vw (evA T E.tmps args.toList) caps)) E λv E=>K (pK E o.dst v)
  | .yl l=>(match IB (.lv 0 0::evA T E.tmps args.toList) E.st with
   | ρ=>S.yld l (evA T E.tmps args.toList) E ρ (Ak (vI (ixN ρ) 8) (evA T E.tmps args.toList)) (yC (ixN ρ) E.st 0 ρ) λv E=>K (pK E o.dst v))
  | _=>False
 | op=>
  match op,o.dst with
  | .pick (.tmp c) a b,d=>(match iV E.tmps c with
   | .sb t=>S.br t (λ_=>K (pK (pK E (some c) (.bool true)) d (rM T E.tmps a))) (λ_=>K (pK (pK E (some c) (.bool false)) d (rM T E.tmps b)))
   | _=>nV T S (.pick (.tmp c) a b) E.tmps (iH E.st) E.next λv δ=>K (pK ⟨E.tmps,jf δ E.st,Uf δ E.next⟩ d v))
  | op,d=>opN T S op E.tmps (iH E.st) E.next λv δ=>K (pK ⟨E.tmps,jf δ E.st,Uf δ E.next⟩ d v)
def opsE (T:Tab)(S:gV)(all:Array Oper):List Oper->Env->(Env->Prop)->Prop
 | [],E,K=>K E
 | o::l,E,K=>gd S all o.guard E
   (λE=>afn T S o E λE=>opsE T S all l E K)
   (λE=>opsE T S all l (pK E o.dst .undef) K)
def afo (K:PV->Prop)(v:PV):Dl->Prop
 | []=>K v
 | _::_=>False
def isQ:Op->Bool
 | .move _|.assign _|.pick _ _ _|.fieldAddr _ _ _|.field _ _ _|.load _ _|.nilCheck _|.convert _ _ _|.indexAddr _ _ _|.slice _ _ _ _ _
 | .index _ _ _|.extract _ _|.build _ _|.makeFunc _ _ _=>true
 | .binOp _ _ _ y _=>(match abZ y with|true=>false|false=>true)
 | .unOp _ _ _=>true
 | .call { callee:=.builtin .len,.. }|.call { callee:=.builtin .min,.. }|.call { callee:=.builtin .max,.. }=>true
 | _=>false
def lkC:List (Nat×Nat)->Nat->Nat
 | [],_=>3
 | (k,c)::l,f=>match Nat.beq c 9 with
  | true=>lkC l f
  | false=>bif Nat.beq k f then c else lkC l f
def lkQ:List (Nat×Nat)->Nat->Bool
 | [],_=>false
 | (k,c)::l,d=>match Nat.beq c 9 with
  | true=>bif Nat.beq k d then true else lkQ l d
  | false=>lkQ l d
def clsF (T:Tab):Operand->Nat
 | .func f=>lkC T.dcl f
 | _=>3
def KI (T:Tab):Op->Nat
 | .alloc _=>1
 | .box _ _=>1
 | .makeSlice _ _ _=>1
 | .store _ _ _=>2
 | .slice _ _ _ _ _=>3
 | .call { callee:=.builtin .append,.. }=>2
 | .load _ _=>3
 | .indexAddr _ _ _=>3
 | .call { callee:=.value f,.. }=>clsF T f
 | .buildSlice _ _ _=>0
 | op=>bif isQ op then 0 else 4
def qtO (T:Tab)(o:Oper):Bool :=
 match o.dst with
 | some d=>(match lkQ T.dcl d with
  | true=>isQ o.op
  | false=>false)
 | none=>false
def wO (T:Tab)(o:Oper):Nat :=
 match qtO T o with
 | true=>0
 | false=>KI T o.op
def opQ (T:Tab)(S:gV)(op:Op)(tmps:List PV)(lk:Nat->Option lI)(id:Nat)(K:PV->Prop):Prop :=
 match op with
 | .call { callee:=.value f,args,argTypes:=_ }=>
  match rM T tmps f with
  | .fn k caps=>afl S k (Gx (T.hid k) (vw (evA T tmps args.toList) caps)) lk K
  | _=>False
 | .buildSlice t len parts=>
  match T t with
  | { ok:=true,kind:=.slice esz _ (some z),.. }=>
    bif kR esz&&Nat.beq (nN z) esz&&Nat.ble (len*esz) 16777216&&ES (evP T tmps parts.toList) then
     (match JR (λi=>some (i*esz,esz)) (Pj len z) (evP T tmps parts.toList) with
     | some cs=>(match pur S (λ_=>none) cs with
      | some (cs,[])=>wkC S cs λcs=>K (.sl esz (chunks esz len cs) true)
      | _=>False)
     | none=>False)
    else False
  | _=>False
 | op=>bif isQ op then nV T S op tmps lk id (afo K) else False
def aaC (T:Tab)(S:gV)(o:Oper)(lk:Nat->Option lI)(E:Env)(K:Env->Prop):Prop :=
 match o.op with
 | .pick (.tmp c) a b=>(match iV E.tmps c with
   | .sb t=>S.br t (λ_=>K (pK (pK E (some c) (.bool true)) o.dst (rM T E.tmps a))) (λ_=>K (pK (pK E (some c) (.bool false)) o.dst (rM T E.tmps b)))
   | _=>opQ T S (.pick (.tmp c) a b) E.tmps lk E.next λv=>K (pK E o.dst v))
 | op=>opQ T S op E.tmps lk E.next λv=>K (pK E o.dst v)
def adr (pend:List Nat)(lk:Nat->Option lI)(b:Nat):Option lI:=bif yB pend b then none else lk b
def Xg (_:Nat):Option lI:=none
def ltD (n:Nat):Dl->Bool
 | []=>true
 | (b,_)::l=>Nat.blt b n&&ltD n l
def dlO (f:Nat->Option Nat)(st1:St):Nat->List Nat->Dl
 | _,[]=>[]
 | i,b::l=>(b,Gy f (iH st1 i))::dlO f st1 (i+1) l
def ahS (st:St):List Nat->Bool
 | []=>true
 | b::l=>(match iH st b with|some _=>true|none=>false)&&ahS st l
def Vu (S:gV)(k:Nat)(args:List PV)(ρ:List Nat)(st:St)(id:Nat)(K:PV->Dl->Prop):Prop :=
 match ltN id ρ&&(MO ρ&&ahS st ρ) with
 | true=>S.XF k (Ak (vI (ixN ρ) 8) args) (yC (ixN ρ) st 0 ρ) ρ λv st1 n1=>(match Nat.ble n1 (kU ρ+32) with
  | true=>K (vI (CE ρ id) 8 v) (dlO (CE ρ id) st1 0 (afk ρ (upN id (n1-kU ρ))))
  | false=>False)
 | false=>False
def opW (T:Tab)(S:gV)(op:Op)(tmps:List PV)(lk:Nat->Option lI)(st:St)(id:Nat)(c2:Bool)(K:PV->Dl->Prop):Prop :=
 match op with
 | .call { callee:=.value f,args,argTypes:=_ }=>
  match rM T tmps f with
  | .fn k caps=>(match c2 with
   | false=>(match MK (frz S Xg 6) (Gx (T.hid k) (vw (evA T tmps args.toList) caps)) with
    | some as=>S.afd k (Ak (vI (ixN []) 8) as) λv x=>K (vI (CE [] id) 8 v) [(id,Gy (CE [] id) (some x))]
    | none=>False)
   | true=>(match IB (Gx (T.hid k) (vw (evA T tmps args.toList) caps)) st with
    | ρ=>Vu S k (Gx (T.hid k) (vw (evA T tmps args.toList) caps)) ρ st id K))
  | _=>False
 | op=>nV T S op tmps lk id K
def stepD (T:Tab)(S:gV)(o:Oper)(pend:List Nat)(E:Env)(K:List Nat->Env->Prop):Prop :=
 match wO T o with
 | 0=>aaC T S o Xg E (K pend)
 | 1=>opW T S o.op E.tmps Xg E.st E.next false λv δ=>match δ with
  | [(id,some x)]=>bif Nat.beq id E.next then K (id::pend) (pK ⟨E.tmps,nD E.st id (some x),E.next+32⟩ o.dst v) else False
  | _=>False
 | 2=>opW T S o.op E.tmps (iH E.st) E.st E.next true λv δ=>bif ltD (E.next+32) δ then K [] (pK ⟨E.tmps,jf δ E.st,E.next+32⟩ o.dst v) else False
 | 3=>aaC T S o (adr pend (iH E.st)) E (K pend)
 | _=>False
def Vw (all:Array Oper)(i:Nat)(o:Oper)(lo:List Tmp)(j:Nat)(p:Oper):Bool :=
 Nat.beq i j || match p.dst with
 | none=>true
 | some d=>o.dst != some d&&(!lo.contains d || o.after.any (λe=>Region.binds .any e&&Nat.beq e.on j) || p.after.any (λe=>Region.binds .any e&&Nat.beq e.on i))
def Vx (all:Array Oper)(i:Nat)(o:Oper)(lo:List Tmp):List Oper->Nat->Bool
 | [],_=>true
 | p::ps,j=>Vw all i o lo j p&&Vx all i o lo ps (j+1)
def Gz (all:Array Oper):List Oper->Nat->Bool
 | [],_=>true
 | o::os,i=>o.after.all (λe=>!Region.binds .any e || Nat.blt e.on i)&&Vx all i o (o.looksAt all) all.toList 0&&Gz all os (i+1)
def YG (o:Oper):List Nat:=(o.after.toList.filter λe=>Region.binds .any e).map λe=>e.on
def Vy:List Nat->List Nat->List Nat
 | [],m=>m
 | b::l,m=>bif yB m b then Vy l m else Vy l (b::m)
def CQ:List (List Nat)->Nat->List Nat
 | [],_=>[]
 | x::_,0=>x
 | _::l,n+1=>CQ l n
def XJ (acc:List (List Nat)):List Nat->List Nat
 | []=>[]
 | j::l=>Vy (j::CQ acc j) (XJ acc l)
def Vz:List Oper->List (List Nat)->List (List Nat)
 | [],acc=>acc
 | o::l,acc=>Vz l (acc++[XJ acc (YG o)])
def ndO (T:Tab)(ps:List PV)(lk:Nat->Option lI):Op->Bool
 | .store _ x _=>(match rM T ps x with
  | .lp b _ _=>(match lk b with|some (.lq _ _)=>true|_=>false)
  | .np _ _ _ _ _ _ _=>true
  | _=>false)
 | _=>false
def VA:List Oper->Nat
 | []=>0
 | _::l=>VA l+1
def allIn (l:List Nat):Nat->Bool
 | 0=>true
 | n+1=>yB l n&&allIn l n
def Pm (all:Array Oper):Bool:=match all.toList with
 | []=>false
 | _::l=>allIn (CQ (Vz all.toList []) (VA l)) (VA l)
def nilP:List Oper->Bool
 | []=>true
 | _=>false
def ai2 (T:Tab)(S:gV)(all:Array Oper)(o:Oper)(last:Bool)(pend:List Nat)(K:List Nat->Env->Prop)(KE:Env->Prop)(E:Env):Prop :=
 match ndO T E.tmps (iH E.st) o.op with
 | true=>(match last with
  | true=>S.last all (nV T S o.op E.tmps (iH E.st) E.next λv δ=>bif ltD (E.next+32) δ then KE (pK ⟨E.tmps,jf δ E.st,E.next+32⟩ o.dst v) else False)
  | false=>False)
 | false=>stepD T S o pend E K
def ab5 (T:Tab)(S:gV)(all:Array Oper):List Oper->List Nat->Env->(Env->Prop)->Prop
 | [],_,E,K=>K E
 | o::l,pend,E,K=>gd S all o.guard E
   (λE=>ai2 T S all o (nilP l) pend (λpend E=>ab5 T S all l pend E K) K E)
   (λE=>ab5 T S all l pend (pK E o.dst .undef) K)
def clash (a b:Nat):Bool := (Nat.beq a 2&&(Nat.beq b 2 || Nat.beq b 3)) || (Nat.beq b 2&&(Nat.beq a 1 || Nat.beq a 3))
def aen (T:Tab)(bef:List Nat)(c:Nat):List Oper->Nat->Bool
 | [],_=>true
 | o::l,i=>(bif clash (wO T o) c then yB bef i else true)&&aen T bef c l (i+1)
def afp (T:Tab)(all:List Oper)(B:List (List Nat)):List Oper->Nat->Bool
 | [],_=>true
 | o::l,i=>aen T (CQ B i) (wO T o) (all.take i) 0&&afp T all B l (i+1)
def afq (T:Tab):List Oper->Bool
 | []=>false
 | o::l=>Nat.beq (wO T o) 2 || afq T l
def GG (T:Tab)(all:Array Oper):Bool:=Gz all all.toList 0&&(bif afq T all.toList then afp T all.toList (Vz all.toList []) all.toList 0 else true)
def ltS (n:Nat):St->Bool
 | []=>true
 | (b,_)::l=>Nat.blt b n&&ltS n l
def rdG (T:Tab)(ps:List PV)(o:Op):List Nat :=
 match o with
 | .load _ x=>Ey [] 8 [] (rM T ps x)
 | .store _ x y=>AA (Ey [] 8) [] [rM T ps x,rM T ps y]
 | .indexAddr _ x _=>Ey [] 8 [] (rM T ps x)
 | .slice _ x _ _ _=>Ey [] 8 [] (rM T ps x)
 | .call { callee:=.builtin _,args,argTypes:=_ }=>AA (Ey [] 8) [] (evA T ps args.toList)
 | _=>[]
def lkG (R:List Nat)(st:St)(b:Nat):Option lI:=bif yB R b then iH st b else none
def GH:Dl->List Nat
 | []=>[]
 | (b,_)::δ=>b::GH δ
def okG (st:St)(nx:Nat):Dl->Bool
 | []=>true
 | (b,x)::δ=>(match x with|some (.lq _ _)=>false|some (.map _)=>false|some (.nor _ _ _ _)=>false|_=>true)&&((Nat.beq b nx || (match iH st b with|some _=>true|none=>false))&&okG st nx δ)
def XK:List (List Nat×List Nat×List Nat)->(List Nat×List Nat×List Nat)->List (List Nat×List Nat×List Nat)
 | [],x=>[x]
 | y::l,x=>y::XK l x
def okH (st:St)(nx:Nat):Dl->Bool
 | []=>true
 | (b,x)::δ=>(match x with|some (.lq _ _)=>false|some (.map _)=>false|some (.nor _ _ _ _)=>false|_=>true)&&(((Nat.ble nx b&&Nat.blt b (nx+32)) || (match iH st b with|some _=>true|none=>false))&&okH st nx δ)
def Qk (T:Tab)(f:Operand)(args:Array Operand)(E:Env):List Nat :=
 match rM T E.tmps f with
 | .fn k caps=>IB (Gx (T.hid k) (vw (evA T E.tmps args.toList) caps)) E.st
 | _=>[]
def ai3 (T:Tab)(S:gV)(o:Oper)(f:Operand)(args:Array Operand)(ts:Array TypeId)(E:Env)(K:(List Nat×List Nat×List Nat)->Env->Prop):Prop :=
 match o.guard with
 | some _=>False
 | none=>(match wO T o with
  | 2=>(match Qk T f args E with
   | R=>opW T S (.call { callee:=.value f,args:=args,argTypes:=ts }) E.tmps (iH E.st) E.st E.next true λv δ=>(match okH E.st E.next δ with
    | true=>K (R,GH δ,GH δ) (pK ⟨E.tmps,jf δ E.st,E.next+32⟩ o.dst v)
    | false=>False))
  | 3=>(match Qk T f args E with
   | R=>opQ T S (.call { callee:=.value f,args:=args,argTypes:=ts }) E.tmps (lkG R E.st) E.next λv=>K (R,[],[]) (pK E o.dst v))
  | _=>False)
def afr (T:Tab)(S:gV)(o:Oper)(E:Env)(K:(List Nat×List Nat×List Nat)->Env->Prop):Prop :=
 match o.guard,rdG T E.tmps o.op with
 | none,R=>(match bif isQ o.op then true else(Nat.beq (KI T o.op) 1 || Nat.beq (KI T o.op) 2),ndO T E.tmps (lkG R E.st) o.op with
  | true,false=>nV T S o.op E.tmps (lkG R E.st) E.next λv δ=>(match okG E.st E.next δ with
   | true=>K (R,GH δ,GH δ) (pK ⟨E.tmps,jf δ E.st,E.next+1⟩ o.dst v)
   | false=>False)
  | _,_=>False)
 | some _,_=>False
def stepG (T:Tab)(S:gV)(o:Oper)(E:Env)(K:(List Nat×List Nat×List Nat)->Env->Prop):Prop :=
 match o.op with
 | .call { callee:=.value f,args,argTypes:=ts }=>ai3 T S o f args ts E K
 | _=>afr T S o E K
def aeo (T:Tab)(S:gV):List Oper->Env->List (List Nat×List Nat×List Nat)->(Env->List (List Nat×List Nat×List Nat)->Prop)->Prop
 | [],E,tr,K=>K E tr
 | o::l,E,tr,K=>stepG T S o E λtc E=>aeo T S l E (XK tr tc) K
abbrev Post:=Nat->Env->Prop
def Jr (next:Env->Prop)(Q:Post):Post
 | 0,E=>next E
 | n+1,E=>Q (n+1) E
def ak2 (id:Nat)(Q:Post):Post
 | 0,E=>Q 0 E
 | 1,E=>Q 1 E
 | n+2,E=>bif Nat.beq n id then Q 0 E else Q (n+2) E
def Pn:Code->Option Nat
 | .region id _ _=>some id
 | .seq a _=>Pn a
 | .block _ b=>Pn b
 | .loop b=>Pn b
 | .scope b=>Pn b
 | _=>none
def afs (cut:List Nat)(a b:Code):Bool :=
 match cut with
 | []=>true
 | _::_=>match a with
  | .region i _ _=>(bif yB cut (2*i) then false else true)
  | _=>match Pn b with
   | some i=>(bif yB cut (2*i+1) then false else true)
   | none=>true
def ak3 (a b:Code):Nat :=
 match a with
 | .region i _ _=>2*i
 | _=>match Pn b with
  | some i=>2*i+1
  | none=>0
def JU (T:Tab)(S:gV):Code->Post->Env->Prop
 | .skip,Q,E=>Q 0 E
 | .seq a b,Q,E=>bif afs T.cut a b then JU T S a (Jr (λE=>JU T S b Q E) Q) E else S.seq (ak3 a b) E (λQ=>JU T S a Q E) (λE=>JU T S b Q E) Q
 | .ret,Q,E=>Q 1 E
 | .exit n,Q,E=>Q (n+2) E
 | .block id b,Q,E=>JU T S b (ak2 id Q) E
 | .loop b,Q,E=>S.loop b Q E
 | .scope b,Q,E=>JU T S b Q E
 | .label _,Q,E=>Q 0 E
 | .region i l true,Q,E=>bif yB T.cut (1000+i) then(bif ltS E.next E.st&&kS E.st then aeo T S l.toList E [] (λE tr=>S.ael l tr (Q 0 E)) else False)
  else S.order l (bif ltS E.next E.st then ab5 T S l l.toList [] E (Q 0) else False)
 | .region _ l false,Q,E=>opsE T S l l.toList E (Q 0)
 | .cond (.tmp c) a b,Q,E=>match iV E.tmps c with
  | .bool true=>JU T S a Q E
  | .bool false=>JU T S b Q E
  | .sb t=>S.br t (λ_=>JU T S a Q (pK E (some c) (.bool true))) (λ_=>JU T S b Q (pK E (some c) (.bool false)))
  | _=>False
 | .cond (.const (.bool true)) a _,Q,E=>JU T S a Q E
 | .cond (.const (.bool false)) _ b,Q,E=>JU T S b Q E
 | _,_,_=>False
def ajz (T:Tab)(E:Env):ResultVar->Option PV
 | .tmp t=>some (iV E.tmps t)
 | .cell a t=>match iV E.tmps a,T t with
  | .lv b c,{ ok:=true,agg,size,.. }=>match iH E.st b with
   | some (.var _ row)=>
    bif agg then(bif Nat.ble (c+size) (nN row) then some (.agg (Ub size (Gw c row))) else none)
    else(bif Nat.blt c (nN row) then some (iV row c) else none)
   | _=>none
  | _,_=>none
def VB (T:Tab)(E:Env):List ResultVar->Option (List PV)
 | []=>some []
 | r::rs=>match ajz T E r with
  | none=>none
  | some v=>match VB T E rs with
   | none=>none
   | some vs=>some (v::vs)
def Js:List PV->PV
 | [v]=>v
 | vs=>.Eu vs
def aaD (T:Tab)(S:gV)(rs:List ResultVar)(E:Env)(R:PV->Prop):Prop :=
 match VB T E rs with
 | some vs=>(match frz S (iH E.st) 7 (Js vs) with|some v=>R v|none=>False)
 | none=>False
def aep (S:gV)(v:PV)(st:St)(n:Nat):PV×St×Nat :=
 match IB [v] st with
 | ρ=>(match roS st ρ with
  | st'=>(match frz S (ab1 st') 6 v with
   | some v'=>(v',st',n)
   | none=>(v,st,n)))
def Jt (S:gV)(c:Nat×Bool)(v:PV)(st:St)(n:Nat):PV×St×Nat :=
 match c with
 | (z+1,re)=>(match v with
  | .sl _ es f=>(match f with
   | true=>(match es with
    | []=>(.os n 0 0,nD st n (some (.arr false (z+1) [])),n+1)
    | _::_=>(v,st,n))
   | false=>(v,st,n))
  | .os b r m=>(match re with
   | true=>(match iH st b with
    | some (.arr false sz rows)=>(.os n 0 m,nD (nD st b none) n (some (.arr false sz (S.sub rows r m))),n+1)
    | _=>(v,st,n))
   | false=>(v,st,n))
  | _=>(v,st,n))
 | (0,true)=>(match v with
  | .os b r m=>(match iH st b with
   | some (.lq sz rows)=>(.sl sz (S.fz (S.sub rows r m)) false,nD st b none,n)
   | _=>aep S v st n)
  | _=>aep S v st n)
 | _=>(v,st,n)
def DC (S:gV):List (Nat×Bool)->List PV->St->Nat->List PV×St×Nat
 | z::zs,v::vs,st,n=>match Jt S z v st n with
  | (v',st',n')=>match DC S zs vs st' n' with
   | (vs',st2,n2)=>(v'::vs',st2,n2)
 | _,vs,st,n=>(vs,st,n)
def XL (S:gV)(zs:List (Nat×Bool))(v:PV)(st:St)(n:Nat):PV×St×Nat :=
 match v with
 | .agg cs=>match DC S zs cs st n with|(cs',st',n')=>(.agg cs',st',n')
 | v=>match zs with
  | [z]=>Jt S z v st n
  | _=>(v,st,n)
def Po (S:gV):List (List (Nat×Bool))->List PV->St->Nat->List PV×St×Nat
 | zs::own,v::vs,st,n=>match XL S zs v st n with
  | (v',st',n')=>match Po S own vs st' n' with
   | (vs',st2,n2)=>(v'::vs',st2,n2)
 | _,vs,st,n=>(vs,st,n)
def XM (S:gV)(own:List (List (Nat×Bool)))(v:PV)(st:St)(n:Nat):PV×St×Nat :=
 match v with
 | .Eu vs=>match Po S own vs st n with|(vs',st',n')=>(.Eu vs',st',n')
 | v=>match own with
  | [zs]=>XL S zs v st n
  | _=>(v,st,n)
def Ui (T:Tab)(S:gV)(rs:List ResultVar)(E:Env)(R:PV->St->Nat->Prop):Prop :=
 match VB T E rs with
 | some vs=>(match XM S T.own (Js vs) E.st E.next with
  | (v,st,_)=>(match Uh T.oZ st [v] with
   | ρ=>R (vI (ixN ρ) 8 v) (yC (ixN ρ) st 0 ρ) (kU ρ)))
 | none=>False
def aft (T:Tab)(S:gV)(rs:List ResultVar)(R:PV->St->Nat->Prop):Post
 | 0,E=>Ui T S rs E R
 | 1,E=>Ui T S rs E R
 | _+2,_=>False
def ahT (T:Tab)(S:gV)(rs:List ResultVar)(R:PV->Prop):Post
 | 0,E=>aaD T S rs E R
 | 1,E=>aaD T S rs E R
 | _+2,_=>False
def rQ:Nat->List PV
 | 0=>[]
 | n+1=>.undef::rQ n
end Go.Pv
namespace Go.Pv
open Go
structure Loc where
 cb:Nat
 co:Nat
 sz:Nat
 tot:Nat
 nr:Nat
abbrev Sg:=Nat->Option Loc
def gJ:Sg:=λ_=>none
def Pq:Value->Bool
 | .agg _|.tuple _=>false
 | _=>true
mutual
def Rep (w:World)(Y:Nat->Prop)(σ:Sg):PV->Value->Prop
 | .bool b,v=>v=.bool b
 | .sb b,v=>v=.bool b
 | .int k n,v=>v=.int k n
 | .si k n,v=>v=.int k n
 | .str s,v=>v=.string s
 | .agg cs,v=>∃ vs:List Value,v=.agg vs.toArray/\eU w Y σ cs vs
 | .Eu cs,v=>∃ vs:List Value,v=.tuple vs.toArray/\eU w Y σ cs vs
 | .sl sz es full,v=>∃ a len cap,v=.slice a len cap/\len=es.length/\len<=cap/\(full=true->cap=len) /\
   (es=[]\/∃ b o,a=some ⟨b,o,none⟩/\(b<w.heap.size/\¬ Y b)/\iQ w Y gJ b sz es o)
 | .os b r n,v=>(∃ l cap,σ b=some l/\v=.slice (some ⟨l.cb,l.co+r*l.sz,none⟩) n cap/\(n<=cap/\cap<=9223372036854775807)/\l.co+r*l.sz+cap*l.sz=l.tot/\r+n<=l.nr) \/
   (n=0/\∃ a,v=.slice a 0 0)
 | .lv b c,v=>∃ l,σ b=some l/\v=.pointer (some ⟨l.cb,l.co+c,none⟩)
 | .lp b r c,v=>∃ l,σ b=some l/\v=.pointer (some ⟨l.cb,l.co+r*l.sz+c,none⟩)
 | .pp cs,v=>∃ b o,v=.pointer (some ⟨b,o,none⟩)/\(b<w.heap.size/\¬ Y b)/\iG w Y gJ b cs o
 | .ow h _ es,v=>(h.cap≠0/\v=.slice (some ⟨h.ν,h.o,none⟩) es.length h.cap/\es.length<=h.cap/\h.cap<=9223372036854775807)\/(h.cap=0/\es=[]/\∃ a,v=.slice a 0 0)
 | .bo _ _ _ h sz n,v=>(h.cap≠0/\v=.slice (some ⟨h.ν,h.o,none⟩) n h.cap/\n<=h.cap/\h.cap<=9223372036854775807)\/(h.cap=0/\n=0/\∃ a,v=.slice a 0 0)
 | .np _ _ _ h sz j k,v=>v=.pointer (some ⟨h.ν,h.o+j*sz+k,none⟩)
 | .Ip,v=>v=.pointer none
 | .fn f cs,v=>∃ vs:List Value,v=.func (.func f) #[] vs.toArray/\eU w Y σ cs vs
 | .Vo,v=>v=.nilFunc
 | .mp b,v=>∃ l,σ b=some l/\v=.map (some l.cb)
 | .yl l,v=>v=.func (.yield l) #[] #[]
 | .hc,v=>Pq v=true
 | .top,_=>True
 | .undef,v=>v=Go.undef
def eU (w:World)(Y:Nat->Prop)(σ:Sg):List PV->List Value->Prop
 | [],vs=>vs=[]
 | c::cs,vs=>∃ v vs',vs=v::vs'/\Rep w Y σ c v/\eU w Y σ cs vs'
def iG (w:World)(Y:Nat->Prop)(σ:Sg)(b:Nat):List PV->Nat->Prop
 | [],_=>True
 | c::cs,o=>(∃ v,w.cell? ⟨b,o,none⟩=some v/\Rep w Y σ c v)/\iG w Y σ b cs (o+1)
def iQ (w:World)(Y:Nat->Prop)(σ:Sg)(b sz:Nat):List (List PV)->Nat->Prop
 | [],_=>True
 | r::rs,o=>(r.length=sz/\gW r=true)/\iG w Y σ b r o/\iQ w Y σ b sz rs (o+sz)
end
def mZ (σ σ' : Sg):Prop:=∀ b l,σ b=some l->σ' b=some l
def Off (id:Nat)(σ σ' : Sg):Prop:=∀ b,b≠id->σ' b=σ b
theorem Off.refl (id:Nat)(σ:Sg):Off id σ σ:=λ_ _=>rfl
theorem mZ.refl (σ:Sg):mZ σ σ:=λ_ _ h=>h
theorem mZ.trans {a b c:Sg}(h:mZ a b)(k:mZ b c):mZ a c:=λx l e=>k x l (h x l e)
theorem KG {w:World}{b o:Nat}{v:Value}(h:w.cell? ⟨b,o,none⟩=some v):b<w.heap.size:=by
 grind[World.cell?]
theorem aeq {w w' : World}{b:Nat}(h:w'.heap[b]?=w.heap[b]?)(o:Nat):w'.cell? ⟨b,o,none⟩=w.cell? ⟨b,o,none⟩:=by
 simp only[World.cell?,h]
structure Keep (w w' : World)(Y Y' : Nat->Prop)(σ σ' : Sg):Prop where
 heap:∀ k,k<w.heap.size->¬ Y k->w'.heap[k]?=w.heap[k]?
 excl:∀ k,k<w.heap.size->Y' k->Y k
 size:w.heap.size<=w'.heap.size
 sg:mZ σ σ'
theorem Keep.none {w w' : World}{Y Y' : Nat->Prop}{σ σ' : Sg}(h:Keep w w' Y Y' σ σ'):Keep w w' Y Y' gJ gJ:=⟨h.heap,h.excl,h.size,mZ.refl _⟩
mutual
theorem Rep.keep {w w' : World}{Y Y' : Nat->Prop}:∀ (p:PV) {σ σ' : Sg} (_:Keep w w' Y Y' σ σ') (v:Value),Rep w Y σ p v->Rep w' Y' σ' p v
 | .bool _,_,_,_,_,h|.sb _,_,_,_,_,h|.int _ _,_,_,_,_,h|.si _ _,_,_,_,_,h|.str _,_,_,_,_,h
 | .ow _ _ _,_,_,_,_,h|.bo _ _ _ _ _ _,_,_,_,_,h|.np _ _ _ _ _ _ _,_,_,_,_,h
 | .Ip,_,_,_,_,h|.Vo,_,_,_,_,h|.hc,_,_,_,_,h|.top,_,_,_,_,h|.undef,_,_,_,_,h=>by unfold Rep at h |-;exact h
 | .agg cs,_,_,K,v,h=>by
  unfold Rep at h |-;obtain⟨vs,e,h⟩:=h;exact⟨vs,e,eU.keep cs K vs h⟩
 | .Eu cs,_,_,K,v,h=>by
  unfold Rep at h |-;obtain⟨vs,e,h⟩:=h;exact⟨vs,e,eU.keep cs K vs h⟩
 | .fn f cs,_,_,K,v,h=>by
  unfold Rep at h |-;obtain⟨vs,e,h⟩:=h;exact⟨vs,e,eU.keep cs K vs h⟩
 | .sl sz es full,_,_,K,v,h=>by
  unfold Rep at h |-;obtain⟨a,len,cap,e,J,hc,U,h⟩:=h;refine⟨a,len,cap,e,J,hc,U,?_⟩;rcases h with h|⟨b,o,ha,⟨hs,T⟩,h⟩
  exact .inl h
  exact .inr ⟨b,o,ha,⟨Nat.lt_of_lt_of_le hs K.size,λhy=>T (K.excl b hs hy)⟩,iQ.keep es K.none (λhk=>K.heap b hk T) o h⟩
 | .os b r n,_,_,K,v,h=>by
  unfold Rep at h |-;rcases h with ⟨l,cap,hs,e,h⟩|h
  exact .inl ⟨l,cap,K.sg _ _ hs,e,h⟩
  exact .inr h
 | .lv b c,_,_,K,v,h=>by
  unfold Rep at h |-;obtain⟨l,hs,e⟩:=h;exact⟨l,K.sg _ _ hs,e⟩
 | .mp b,_,_,K,v,h=>by
  unfold Rep at h |-;obtain⟨l,hs,e⟩:=h;exact⟨l,K.sg _ _ hs,e⟩
 | .yl _,_,_,_,v,h=>by unfold Rep at h |-;exact h
 | .lp b r c,_,_,K,v,h=>by
  unfold Rep at h |-;obtain⟨l,hs,e⟩:=h;exact⟨l,K.sg _ _ hs,e⟩
 | .pp cs,_,_,K,v,h=>by
  unfold Rep at h |-;obtain⟨b,o,e,⟨hs,T⟩,h⟩:=h;exact⟨b,o,e,⟨Nat.lt_of_lt_of_le hs K.size,λhy=>T (K.excl b hs hy)⟩,iG.keep cs K.none (λhk=>K.heap b hk T) o h⟩
theorem eU.keep {w w' : World}{Y Y' : Nat->Prop}:∀ (ps:List PV) {σ σ' : Sg} (_:Keep w w' Y Y' σ σ') (vs:List Value),eU w Y σ ps vs->eU w' Y' σ' ps vs
 | [],_,_,_,_,h=>by unfold eU at h |-;exact h
 | p::ps,_,_,K,vs,h=>by
  unfold eU at h |-;obtain⟨v,T,e,h1,h2⟩:=h;exact⟨v,T,e,Rep.keep p K v h1,eU.keep ps K T h2⟩
theorem iG.keep {w w' : World}{Y Y' : Nat->Prop}{b:Nat}:∀ (ps:List PV) {σ σ' : Sg} (_:Keep w w' Y Y' σ σ') (_:b<w.heap.size->w'.heap[b]?=w.heap[b]?) (o:Nat),iG w Y σ b ps o->iG w' Y' σ' b ps o
 | [],_,_,_,_,_,_=>by unfold iG;trivial
 | p::ps,_,_,K,hb,o,h=>by
  unfold iG at h |-;obtain⟨⟨v,hc,h1⟩,h2⟩:=h;exact⟨⟨v,by rw[aeq (hb (KG hc))];exact hc,Rep.keep p K v h1⟩,iG.keep ps K hb (o+1) h2⟩
theorem iQ.keep {w w' : World}{Y Y' : Nat->Prop}{b sz:Nat}:∀ (rs:List (List PV)) {σ σ' : Sg} (_:Keep w w' Y Y' σ σ') (_:b<w.heap.size->w'.heap[b]?=w.heap[b]?) (o:Nat),iQ w Y σ b sz rs o->iQ w' Y' σ' b sz rs o
 | [],_,_,_,_,_,_=>by unfold iQ;trivial
 | r::rs,_,_,K,hb,o,h=>by
  unfold iQ at h |-;exact⟨h.1,iG.keep r K hb o h.2.1,iQ.keep rs K hb (o+sz) h.2.2⟩
end
def lI.ro:lI->Bool
 | .var ro _=>ro
 | .arr ro _ _=>ro
 | .lq _ _=>false
 | .map _=>false
 | .nor _ _ _ _=>false
structure At (w:World)(l:Loc):Prop where
 blk:∃ arr ty,w.heap[l.cb]?=some (.cells arr ty (0,0))/\arr.size=l.tot
def oI (w:World)(Y:Nat->Prop):List MapEntry->List (List PV)->Prop
 | [],rows=>rows=[]
 | e::es,rows=>∃ n cs rows',rows=(.si .i64 n::cs)::rows'/\e.key=.int .i64 n/\(∃ vs:List Value,e.val=.agg vs.toArray/\eU w Y gJ cs vs)/\oI w Y es rows'
theorem oI.keep {w w' : World}{Y Y' : Nat->Prop}(K:Keep w w' Y Y' gJ gJ):∀ (T:List MapEntry) (rows:List (List PV)),oI w Y T rows->oI w' Y' T rows
 | [],_,h=>h
 | _::T,_,⟨n,cs,rows',h1,h2,⟨vs,h3,h4⟩,h5⟩=>⟨n,cs,rows',h1,h2,⟨vs,h3,eU.keep cs K vs h4⟩,oI.keep K T rows' h5⟩
def fF (w:World)(Y:Nat->Prop)(σ:Sg)(l:Loc):lI->Prop
 | .var ro row=>At w l/\l.sz=row.length/\l.co+row.length<=l.tot/\iG w Y σ l.cb row l.co/\(ro=false->Y l.cb)/\(ro=true->¬ Y l.cb)
 | .arr ro sz rows=>At w l/\l.sz=sz/\0<sz/\(l.co+rows.length*sz<=l.tot/\rows.length=l.nr)/\iQ w Y gJ l.cb sz rows l.co/\(ro=false->Y l.cb)/\(ro=true->¬ Y l.cb)
 | .map rows=>(∃ es ck,w.heap[l.cb]?=some (.map es ck)/\oI w Y es.toList rows)/\Y l.cb
 | .lq sz rows=>At w l/\l.sz=sz/\0<sz/\(l.co+rows.length*sz<=l.tot/\rows.length=l.nr)/\iQ w Y gJ l.cb sz rows l.co/\Y l.cb
 | .nor sz rows r row=>At w l/\l.sz=sz/\0<sz/\(l.co+rows.length*sz<=l.tot/\rows.length=l.nr)/\(r<rows.length/\row.length=sz) /\
   (∀ i x,rows[i]?=some x->i≠r->(x.length=sz/\gW x=true)/\iG w Y gJ l.cb x (l.co+i*sz))/\iG w Y σ l.cb row (l.co+r*sz)/\Y l.cb
inductive Emp:lI->Prop
 | arr (ro:Bool) (sz:Nat):Emp (.arr ro sz [])
 | lq (sz:Nat):Emp (.lq sz [])
structure ET (w:World)(Y:Nat->Prop)(σ:Sg)(st:St):Prop where
 blk:∀ b x,iH st b=some x->(∃ l,σ b=some l/\fF w Y σ l x)\/(σ b=none/\Emp x)
 inj:∀ b b' x x' l l',iH st b=some x->iH st b'=some x'->σ b=some l->σ b'=some l'->l.cb=l'.cb->b=b'
def lU (st:St)(b r c:Nat)(h:Hdr)(sz:Nat)(es:List (List PV)):Prop:=∃ sz0 rows row,iH st b=some (.lq sz0 rows)/\rows[r]?=some row/\row[c]?=some (.ow h sz es)/\h.cap≠0
theorem lU.same {st st' : St}{b r c:Nat}{h:Hdr}{sz:Nat}{J:List (List PV)}(e:iH st' b=iH st b)(k:lU st' b r c h sz J):lU st b r c h sz J:=by
 obtain⟨T,rows,row,h1,h2⟩:=k;exact⟨T,rows,row,by grind,h2⟩
theorem lU.sub {st st' : St}{b r c:Nat}{h:Hdr}{sz:Nat}{J:List (List PV)}(e:∀ x,iH st' b=some x->iH st b=some x)(k:lU st' b r c h sz J):lU st b r c h sz J:=by
 obtain⟨T,rows,row,h1,h2⟩:=k;exact⟨T,rows,row,e _ h1,h2⟩
structure YH (w:World)(Y:Nat->Prop)(h:Hdr)(sz:Nat)(es:List (List PV)):Prop where
 own:Y h.ν
 pos:0<sz
 blk:∃ arr ty,w.heap[h.ν]?=some (.cells arr ty (0,0))/\arr.size=h.o+h.cap*sz
 len:es.length<=h.cap
 rows:iQ w Y gJ h.ν sz es h.o
structure Ctx (T:Tab) where
 w0:World
 Y0:Nat->Prop
 L:Nat->Prop
 M:Nat->Prop
 base:Sg
 df:List Deferred
structure ML (M:Nat->Prop)(w0 w:World):Prop where
 os:w.os=w0.os
 tape:w.tape=w0.tape
 output:w.output=w0.output
 size:w0.heap.size<=w.heap.size
 block:∀ k,k<w0.heap.size->¬ M k->w.heap[k]?=w0.heap[k]?
structure Chg (w0 w:World):Prop where
 os:w.os=w0.os
 tape:w.tape=w0.tape
 output:w.output=w0.output
 size:w0.heap.size<=w.heap.size
 block:∀ k,k<w0.heap.size->w.heap[k]?=w0.heap[k]?
theorem Chg.refl (w:World):Chg w w:=⟨rfl,rfl,rfl,Nat.le_refl _,λ_ _=>rfl⟩
theorem ML.refl (M:Nat->Prop)(w:World):ML M w w:=⟨rfl,rfl,rfl,Nat.le_refl _,λ_ _ _=>rfl⟩
theorem ML.pJ {M:Nat->Prop}{a b:World}(h:ML M a b)(hM:∀ k,¬ M k):Chg a b:=⟨h.os,h.tape,h.output,h.size,λk hk=>h.block k hk (hM k)⟩
theorem ML.trans {M:Nat->Prop}{a b c:World}(h:ML M a b)(k:ML M b c):ML M a c :=
 ⟨by rw[k.os,h.os],by rw[k.tape,h.tape],by rw[k.output,h.output],Nat.le_trans h.size k.size,λi hi T=>by rw[k.block i (Nat.lt_of_lt_of_le hi h.size) T,h.block i hi T]⟩
def RX (G:Nat->Option (List PV))(w:World)(Y:Nat->Prop):Prop:=∀ g cs,G g=some cs->Rep w Y gJ (.pp cs) (.pointer (some ⟨g,0,none⟩))
theorem RX.keep {G:Nat->Option (List PV)}{w w' : World}{Y Y' : Nat->Prop}(h:RX G w Y)(K:Keep w w' Y Y' gJ gJ):RX G w' Y':=λg cs T=>Rep.keep _ K _ (h g cs T)
theorem Chg.below {a b:World}(h:Chg a b):RowKit.Below a.heap.size a b:=⟨h.os,h.tape,h.output,h.size,h.block⟩
structure Am (w0:World)(L:Nat->Prop)(w:World)(Y:Nat->Prop)(σ:Sg)(st:St):Prop where
 rep:∀ b r c h sz es,lU st b r c h sz es->YH w Y h sz es
 old:∀ b r c h sz es,lU st b r c h sz es->w0.heap.size<=h.ν\/L h.ν
 one:∀ b r c h sz es b' r' c' h' sz' es',lU st b r c h sz es->lU st b' r' c' h' sz' es'->h.ν=h'.ν->b=b'/\r=r'/\c=c'
 sep:∀ b r c h sz es b' x l,lU st b r c h sz es->iH st b'=some x->σ b'=some l->l.cb≠h.ν
theorem YH.lt {w:World}{Y:Nat->Prop}{h:Hdr}{sz:Nat}{T:List (List PV)}(H:YH w Y h sz T):h.ν<w.heap.size:=by
 obtain⟨arr,ty,h1,_⟩:=H.blk
 grind
theorem YH.keep {w w' : World}{Y Y' : Nat->Prop}{h:Hdr}{sz:Nat}{T:List (List PV)}(H:YH w Y h sz T)(K:Keep w w' Y Y' gJ gJ)(J:w'.heap[h.ν]?=w.heap[h.ν]?)(I:Y h.ν->Y' h.ν):YH w' Y' h sz T :=
 ⟨I H.own,H.pos,by rw[J];exact H.blk,H.len,iQ.keep T K (λ_=>J) _ H.rows⟩
theorem Am.none {w0 w:World}{L Y:Nat->Prop}{σ:Sg}{st:St}(h:∀ b sz rows,iH st b≠some (.lq sz rows)):Am w0 L w Y σ st:=by
 have no:∀ {b r c h sz es},lU st b r c h sz es->False:=λ⟨_,_,_,h1,_⟩=>h _ _ _ h1;exact⟨λ_ _ _ _ _ _ k=>(no k).elim,λ_ _ _ _ _ _ k=>(no k).elim,λ_ _ _ _ _ _ _ _ _ _ _ _ k=>(no k).elim,λ_ _ _ _ _ _ _ _ _ k=>(no k).elim⟩
theorem Am.keep {w0 w w' : World}{L Y Y' : Nat->Prop}{σ σ' : Sg}{st st' : St}(H:Am w0 L w Y σ st)(K:Keep w w' Y Y' gJ gJ)
  (T:∀ b r c h sz J,lU st' b r c h sz J->lU st b r c h sz J)
  (I:∀ b r c h sz J,lU st' b r c h sz J->w'.heap[h.ν]?=w.heap[h.ν]?)
  (hY:∀ b r c h sz J,lU st' b r c h sz J->Y' h.ν)
  (C:∀ b r c h sz J t x l,lU st' b r c h sz J->iH st' t=some x->σ' t=some l->l.cb≠h.ν):Am w0 L w' Y' σ' st' :=
 ⟨λb r c h sz J k=>(H.rep _ _ _ _ _ _ (T _ _ _ _ _ _ k)).keep K (I _ _ _ _ _ _ k) (λ_=>hY _ _ _ _ _ _ k),
   λb r c h sz J k=>H.old _ _ _ _ _ _ (T _ _ _ _ _ _ k),
   λb r c h sz J t r' c' h' sz' es' k g e=>H.one _ _ _ _ _ _ _ _ _ _ _ _ (T _ _ _ _ _ _ k) (T _ _ _ _ _ _ g) e,C⟩
theorem Am.sub {w0 w:World}{L Y:Nat->Prop}{σ:Sg}{st st' : St}(H:Am w0 L w Y σ st)(h:∀ b x,iH st' b=some x->iH st b=some x):Am w0 L w Y σ st' :=
 H.keep ⟨λ_ _ _=>rfl,λ_ _ h=>h,Nat.le_refl _,mZ.refl _⟩ (λb _ _ _ _ _ k=>k.sub (h b)) (λ_ _ _ _ _ _ _=>rfl) (λb r c I sz C k=>(H.rep _ _ _ _ _ _ (k.sub (h b))).own)
  (λb r c I sz C T x l k hx J=>H.sep _ _ _ _ _ _ _ _ _ (k.sub (h b)) (h T x hx) J)
theorem Am.heap {w0 w w' : World}{L Y:Nat->Prop}{σ:Sg}{st:St}(H:Am w0 L w Y σ st)(hs:w.heap.size<=w'.heap.size)(hh:∀ k,k<w.heap.size->w'.heap[k]?=w.heap[k]?):Am w0 L w' Y σ st :=
 H.keep ⟨λk hk _=>hh k hk,λ_ _ h=>h,hs,mZ.refl _⟩ (λ_ _ _ _ _ _ k=>k) (λ_ _ _ _ _ _ k=>hh _ (H.rep _ _ _ _ _ _ k).lt) (λ_ _ _ _ _ _ k=>(H.rep _ _ _ _ _ _ k).own) H.sep
structure SW {T:Tab}(C:Ctx T)(w:World)(Y:Nat->Prop)(σ:Sg)(ps:List PV)(vs:List Value)(st:St)(n:Nat):Prop where
 vals:eU w Y σ ps vs
 store:ET w Y σ st
 next:∀ b,n<=b->σ b=none
 vJ:∀ k,Y k->k<w.heap.size
 y0:∀ k,C.Y0 k->Y k
 c0:∀ k,C.Y0 k->k<C.w0.heap.size/\¬ C.L k
 wP:∀ k,Y k->k<C.w0.heap.size->C.Y0 k\/C.M k
 pJ:ML C.M C.w0 w
 own:∀ b x l,iH st b=some x->σ b=some l->C.w0.heap.size<=l.cb\/C.L l.cb
 wQ:RX T.gl w Y
 fix:T.oZ<=n/\∀ b,b<T.oZ->σ b=C.base b
 nest:Am C.w0 C.L w Y σ st
theorem SW.away {T:Tab}{C:Ctx T}{w:World}{Y:Nat->Prop}{σ:Sg}{ps:List PV}{vs:List Value}{st:St}{n:Nat}(H:SW C w Y σ ps vs st n){b:Nat}{x:lI}{l:Loc}(hx:iH st b=some x)(J:σ b=some l):¬ C.Y0 l.cb:=λh=>by
 have h1:=H.c0 _ h;rcases H.own b x l hx J with h2|h2<;>grind
theorem SW.mono {T:Tab}{C:Ctx T}{w:World}{Y:Nat->Prop}{σ:Sg}{ps:List PV}{vs:List Value}{st:St}{n J : Nat}(H:SW C w Y σ ps vs st n)(h:n<=J):SW C w Y σ ps vs st J :=
 ⟨H.vals,H.store,λb I=>H.next b (Nat.le_trans h I),H.vJ,H.y0,H.c0,H.wP,H.pJ,H.own,H.wQ,⟨Nat.le_trans H.fix.1 h,H.fix.2⟩,H.nest⟩
theorem SW.qU {T:Tab}{C:Ctx T}{w:World}{Y:Nat->Prop}{σ:Sg}{ps I : List PV}{vs J : List Value}{st:St}{n:Nat}(H:SW C w Y σ ps vs st n)(h:eU w Y σ I J):SW C w Y σ I J st n :=
 ⟨h,H.store,H.next,H.vJ,H.y0,H.c0,H.wP,H.pJ,H.own,H.wQ,H.fix,H.nest⟩
def ajA {T:Tab}(C:Ctx T)(E:Env)(vs:List Value)(w:World):Prop:=∃ Y σ,SW C w Y σ E.tmps vs E.st E.next
theorem eU.get {w:World}{Y:Nat->Prop}{σ:Sg}:∀ (ps:List PV) (vs:List Value) (t:Nat),eU w Y σ ps vs->Rep w Y σ (iV ps t) (vs.getD t Go.undef)
 | [],vs,t,h=>by grind[eU,iV,Rep]
 | p::ps,vs,0,h=>by unfold eU at h;obtain⟨v,T,rfl,h1,_⟩:=h;simpa [iV] using h1
 | p::ps,vs,t+1,h=>by
  unfold eU at h;obtain⟨v,T,rfl,_,h2⟩:=h
  simpa [iV] using eU.get ps T t h2
theorem eU.length {w:World}{Y:Nat->Prop}{σ:Sg}:∀ (ps:List PV) (vs:List Value),eU w Y σ ps vs->vs.length=ps.length
 | [],vs,h=>by grind[eU]
 | p::ps,vs,h=>by unfold eU at h;obtain⟨v,T,rfl,_,h2⟩:=h;simp[eU.length ps T h2]
theorem eU.set {w:World}{Y:Nat->Prop}{σ:Sg}{p:PV}{v:Value}(J:Rep w Y σ p v):∀ (ps:List PV) (vs:List Value) (t:Nat),eU w Y σ ps vs->eU w Y σ (nC ps t p) (vs.set t v)
 | [],vs,t,h=>by grind[eU,nC]
 | q::ps,vs,0,h=>by
  unfold eU at h;obtain⟨u,T,rfl,_,h2⟩:=h;simp only[nC,List.set_cons_zero];unfold eU;grind
 | q::ps,vs,t+1,h=>by
  unfold eU at h;obtain⟨u,T,rfl,h1,h2⟩:=h;simp only[nC,List.set_cons_succ];unfold eU;exact⟨u,_,rfl,h1,eU.set J ps T t h2⟩
theorem eU.app {w:World}{Y:Nat->Prop}{σ:Sg}:∀ (ps qs:List PV) (vs us:List Value),eU w Y σ ps vs->eU w Y σ qs us->eU w Y σ (vw ps qs) (vs++us)
 | [],qs,vs,us,h,k=>by grind[eU,vw]
 | p::ps,qs,vs,us,h,k=>by
  unfold eU at h;obtain⟨v,T,rfl,h1,h2⟩:=h;simp only[vw,List.cons_append];unfold eU;exact⟨v,_,rfl,h1,eU.app ps qs T us h2 k⟩
@[simp] theorem vK:∀ l,nN l=l.length
 | []=>rfl
 | _::l=>by simp[nN,vK l]
@[simp] theorem MP:∀ n l,Ub n l=l.take n
 | 0,l=>by simp[Ub]
 | n+1,[]=>by simp[Ub]
 | n+1,x::l=>by simp[Ub,MP n l]
@[simp] theorem yL:∀ n l,Gw n l=l.drop n
 | 0,l=>by simp[Gw]
 | n+1,[]=>by simp[Gw]
 | n+1,x::l=>by simp[Gw,yL n l]
@[simp] theorem YI:∀ l m,vw l m=l++m
 | [],m=>by simp[vw]
 | x::l,m=>by simp[vw,YI l m]
theorem tq:∀ l n v,nC l n v=l.set n v
 | [],n,v=>by simp[nC]
 | x::l,0,v=>by simp[nC]
 | x::l,n+1,v=>by simp[nC,tq l n v]
theorem E5:∀ l n,iV l n=l.getD n .undef
 | [],n=>by simp[iV]
 | x::l,0=>by simp[iV]
 | x::l,n+1=>by simpa [iV] using E5 l n
theorem Px {w:World}{Y:Nat->Prop}{σ:Sg}{p:PV}{v:Value}(T:xm p=true)(h:Rep w Y σ p v):Pq v=true:=by
 cases p<;>simp[xm] at T<;>unfold Rep at h
 case sl=>obtain⟨_,_,_,e,_⟩:=h;subst e;rfl
 case os=>
  rcases h with ⟨_,_,_,e,_⟩|⟨_,_,e⟩<;>subst e<;>rfl
 case lv=>obtain⟨_,_,e⟩:=h;subst e;rfl
 case lp=>obtain⟨_,_,e⟩:=h;subst e;rfl
 case mp=>obtain⟨_,_,e⟩:=h;subst e;rfl
 case pp=>obtain⟨_,_,e,_⟩:=h;subst e;rfl
 case fn=>obtain⟨_,e,_⟩:=h;subst e;rfl
 case ow=>rcases h with ⟨_,e,_⟩|⟨_,_,_,e⟩<;>subst e<;>rfl
 case bo=>rcases h with ⟨_,e,_⟩|⟨_,_,_,e⟩<;>subst e<;>rfl
 case hc=>exact h
 all_goals (subst h;rfl)
theorem aaE {w:World}{Y:Nat->Prop}{σ:Sg}{p:PV}{v:Value}(h:Rep w Y σ p v):Rep w Y σ (aem p) v:=by
 grind[aem,Rep,Px]
theorem iG.hid {w:World}{Y:Nat->Prop}{σ:Sg}{b:Nat}:∀ (cs:List PV) (c o:Nat),iG w Y σ b cs o->iG w Y σ b (nC cs c (aem (iV cs c))) o
 | [],c,o,h=>by cases c<;>exact h
 | x::cs,0,o,h=>by
  grind[iG,nC,iV,aaE]
 | x::cs,c+1,o,h=>by
  unfold iG at h;simp only[nC,iV];unfold iG;exact⟨h.1,iG.hid cs c (o+1) h.2⟩
theorem eU.hid {w:World}{Y:Nat->Prop}{σ:Sg}:∀ (cs:List PV) (c:Nat) (vs:List Value),eU w Y σ cs vs->eU w Y σ (nC cs c (aem (iV cs c))) vs
 | [],c,vs,h=>by cases c<;>exact h
 | x::cs,0,vs,h=>by
  grind[eU,nC,iV,aaE]
 | x::cs,c+1,vs,h=>by
  unfold eU at h;simp only[nC,iV];unfold eU;obtain⟨v,T,e,h1,h2⟩:=h;exact⟨v,T,e,h1,eU.hid cs c T h2⟩
theorem afu {w:World}{Y:Nat->Prop}{σ:Sg}(c:Nat)(p:PV)(v:Value)(h:Rep w Y σ p v):Rep w Y σ (ahR c p) v:=by
 unfold ahR
 grind[Rep,eU.hid,iG.hid]
theorem eU.ak4 {w:World}{Y:Nat->Prop}{σ:Sg}(f:PV->PV)(U:∀ p v,Rep w Y σ p v->Rep w Y σ (f p) v):∀ (ps:List PV) (i:Nat) (vs:List Value),eU w Y σ ps vs->eU w Y σ (nC ps i (f (iV ps i))) vs
 | [],i,vs,h=>by cases i<;>exact h
 | x::ps,0,vs,h=>by
  grind[eU,nC,iV]
 | x::ps,i+1,vs,h=>by
  unfold eU at h;simp only[nC,iV];unfold eU;obtain⟨v,T,e,h1,h2⟩:=h;exact⟨v,T,e,h1,eU.ak4 f U ps i T h2⟩
theorem F7 {w:World}{Y:Nat->Prop}{σ:Sg}:∀ (l:List (Nat×Nat)) (ps:List PV) (vs:List Value),eU w Y σ ps vs->eU w Y σ (Gx l ps) vs
 | [],ps,vs,h=>h
 | (i,c)::l,ps,vs,h=>F7 l _ vs (eU.ak4 (ahR c) (λp v h=>afu c p v h) ps i vs h)
theorem iG.get {w:World}{Y:Nat->Prop}{σ:Sg}{b:Nat}:∀ (ps:List PV) (o i:Nat),iG w Y σ b ps o->i<ps.length->∃ v,w.cell? ⟨b,o+i,none⟩=some v/\Rep w Y σ (iV ps i) v
 | [],_,_,_,h=>by simp at h
 | p::ps,o,0,h,_=>by grind[iG,iV]
 | p::ps,o,i+1,h,hi=>by
  unfold iG at h;have:=iG.get ps (o+1) i h.2 (by simpa using hi)
  grind[iV]
theorem iG.drop {w:World}{Y:Nat->Prop}{σ:Sg}{b:Nat}:∀ (n:Nat) (ps:List PV) (o:Nat),iG w Y σ b ps o->iG w Y σ b (ps.drop n) (o+n)
 | 0,ps,o,h=>by simpa using h
 | n+1,[],o,h=>by simp[iG]
 | n+1,p::ps,o,h=>by
  unfold iG at h;have:=iG.drop n ps (o+1) h.2
  grind
theorem iG.take {w:World}{Y:Nat->Prop}{σ:Sg}{b:Nat}:∀ (n:Nat) (ps:List PV) (o:Nat),iG w Y σ b ps o->iG w Y σ b (ps.take n) o
 | 0,ps,o,h=>by simp[iG]
 | n+1,[],o,h=>by simp[iG]
 | n+1,p::ps,o,h=>by
  unfold iG at h;simp only[List.take_succ_cons];unfold iG;exact⟨h.1,iG.take n ps (o+1) h.2⟩
theorem iG.vals {w:World}{Y:Nat->Prop}{σ:Sg}{b:Nat}:∀ (ps:List PV) (o:Nat),iG w Y σ b ps o ->
  ∃ vs:List Value,eU w Y σ ps vs/\∀ i v,vs[i]?=some v->w.cell? ⟨b,o+i,none⟩=some v
 | [],o,_=>⟨[],by unfold eU;rfl,by simp⟩
 | p::ps,o,h=>by
  unfold iG at h;obtain⟨⟨v,hc,h1⟩,h2⟩:=h;obtain⟨vs,hr,hv⟩:=iG.vals ps (o+1) h2;refine⟨v::vs,by unfold eU;grind,λi u hu=>?_⟩
  grind
theorem iG.KJ {w:World}{Y:Nat->Prop}{σ:Sg}{b:Nat}:∀ (ps:List PV) (vs:List Value) (o:Nat),eU w Y σ ps vs->(∀ i v,vs[i]?=some v->w.cell? ⟨b,o+i,none⟩=some v)->iG w Y σ b ps o
 | [],vs,o,_,_=>by unfold iG;trivial
 | p::ps,vs,o,h,hc=>by
  unfold eU at h;obtain⟨v,T,rfl,h1,h2⟩:=h;unfold iG;refine⟨⟨v,by simpa using hc 0 v rfl,h1⟩,iG.KJ ps T (o+1) h2 λi u hu=>?_⟩;rw[show o+1+i=o+(i+1) by omega];simp_all
theorem iQ.row {w:World}{Y:Nat->Prop}{σ:Sg}{b sz:Nat}:∀ (rs:List (List PV)) (o i:Nat) (row:List PV),iQ w Y σ b sz rs o->rs[i]?=some row->(row.length=sz/\gW row=true)/\iG w Y σ b row (o+i*sz)
 | [],_,_,_,_,h=>by simp at h
 | r::rs,o,0,row,h,hi=>by grind[iQ]
 | r::rs,o,i+1,row,h,hi=>by
  unfold iQ at h;have:=iQ.row rs (o+sz) i row h.2.2 (by simpa using hi)
  grind
theorem iQ.drop {w:World}{Y:Nat->Prop}{σ:Sg}{b sz:Nat}:∀ (n:Nat) (rs:List (List PV)) (o:Nat),iQ w Y σ b sz rs o->iQ w Y σ b sz (rs.drop n) (o+n*sz)
 | 0,rs,o,h=>by simpa using h
 | n+1,[],o,h=>by simp[iQ]
 | n+1,r::rs,o,h=>by
  unfold iQ at h;have:=iQ.drop n rs (o+sz) h.2.2
  grind
theorem iQ.take {w:World}{Y:Nat->Prop}{σ:Sg}{b sz:Nat}:∀ (n:Nat) (rs:List (List PV)) (o:Nat),iQ w Y σ b sz rs o->iQ w Y σ b sz (rs.take n) o
 | 0,rs,o,h=>by simp[iQ]
 | n+1,[],o,h=>by simp[iQ]
 | n+1,r::rs,o,h=>by
  unfold iQ at h;simp only[List.take_succ_cons];unfold iQ;exact⟨h.1,h.2.1,iQ.take n rs (o+sz) h.2.2⟩
theorem iQ.app {w:World}{Y:Nat->Prop}{σ:Sg}{b sz:Nat}:∀ (rs qs:List (List PV)) (o:Nat),iQ w Y σ b sz rs o->iQ w Y σ b sz qs (o+rs.length*sz)->iQ w Y σ b sz (rs++qs) o
 | [],qs,o,_,k=>by simpa using k
 | r::rs,qs,o,h,k=>by
  unfold iQ at h;simp only[List.cons_append];unfold iQ;refine⟨h.1,h.2.1,iQ.app rs qs (o+sz) h.2.2 ?_⟩
  grind
end Go.Pv
namespace Go.Pv
open Go
inductive Tr (α:Type) where
 | e
 | n (v:α) (l r:Tr α)
abbrev Sb:=Tr (Option lI)
abbrev Rs:=Option (PV×Dl)
structure EV where
 tm:Tr PV
 n:Nat
 st:Sb
 nx:Nat
abbrev Oe:=Option EV
abbrev ai4:=Nat->List PV->Sb->Nat->Option (PV×Sb×Nat)
inductive Nm where
 | no
 | one (b:Nat)
 | var (b:Nat)
 | many (l:List PV)
noncomputable def getP:Tr PV->Nat->PV:=λt k=>Tr.rec (motive:=λ_=>Nat->PV) (λ_=>PV.undef) (λv _ _ gl gr k=>Nat.rec (motive:=λ_=>PV) v (λm _=>Bool.rec (motive:=λ_=>PV) (gr (Nat.div m 2)) (gl (Nat.div m 2)) (Nat.beq (Nat.mod m 2) 0)) k) t k
noncomputable def afv:Sb->Nat->Option lI:=λt k=>Tr.rec (motive:=λ_=>Nat->Option lI) (λ_=>none) (λv _ _ gl gr k=>Nat.rec (motive:=λ_=>Option lI) v (λm _=>Bool.rec (motive:=λ_=>Option lI) (gr (Nat.div m 2)) (gl (Nat.div m 2)) (Nat.beq (Nat.mod m 2) 0)) k) t k
noncomputable def setP:PV->Nat->Tr PV->Tr PV:=λx k t=>Nat.rec (motive:=λ_=>PV->Nat->Tr PV->Tr PV) (λ_ _ t=>t) (λ_ ih x k t=>Tr.rec (motive:=λ_=>Tr PV) (Nat.rec (motive:=λ_=>Tr PV) (Tr.n x Tr.e Tr.e) (λm _=>Bool.rec (motive:=λ_=>Tr PV) (Tr.n PV.undef Tr.e (ih x (Nat.div m 2) Tr.e)) (Tr.n PV.undef (ih x (Nat.div m 2) Tr.e) Tr.e) (Nat.beq (Nat.mod m 2) 0)) k) (λv l r _ _=>Nat.rec (motive:=λ_=>Tr PV) (Tr.n x l r) (λm _=>Bool.rec (motive:=λ_=>Tr PV) (Tr.n v l (ih x (Nat.div m 2) r)) (Tr.n v (ih x (Nat.div m 2) l) r) (Nat.beq (Nat.mod m 2) 0)) k) t) (Nat.succ k) x k t
noncomputable def setB:Option lI->Nat->Sb->Sb:=λx k t=>Nat.rec (motive:=λ_=>Option lI->Nat->Sb->Sb) (λ_ _ t=>t) (λ_ ih x k t=>Tr.rec (motive:=λ_=>Sb) (Nat.rec (motive:=λ_=>Sb) (Tr.n x Tr.e Tr.e) (λm _=>Bool.rec (motive:=λ_=>Sb) (Tr.n none Tr.e (ih x (Nat.div m 2) Tr.e)) (Tr.n none (ih x (Nat.div m 2) Tr.e) Tr.e) (Nat.beq (Nat.mod m 2) 0)) k) (λv l r _ _=>Nat.rec (motive:=λ_=>Sb) (Tr.n x l r) (λm _=>Bool.rec (motive:=λ_=>Sb) (Tr.n v l (ih x (Nat.div m 2) r)) (Tr.n v (ih x (Nat.div m 2) l) r) (Nat.beq (Nat.mod m 2) 0)) k) t) (Nat.succ k) x k t
noncomputable def appR:List PV->List PV->List PV:=λl m=>List.rec (motive:=λ_=>List PV) m (λx _ ih=>x::ih) l
noncomputable def ajB:Nat->List PV->List PV:=λn l=>Nat.rec (motive:=λ_=>List PV->List PV) (λ_=>[]) (λ_ ih l=>appR l (ih l)) n l
noncomputable def notB:Bool->Bool:=λb=>Bool.rec (motive:=λ_=>Bool) true false b
noncomputable def appD:Dl->Dl->Dl:=λl m=>List.rec (motive:=λ_=>Dl) m (λx _ ih=>x::ih) l
noncomputable def one (v:PV):Rs:=some (v,[])
abbrev Plc:=Nat->(Nat->Nat->Rs)->Rs
noncomputable def afw:Tr PV->Nat->Option Nat->PV->Tr PV:=λtm n dst v=>Option.rec (motive:=λ_=>Tr PV) tm (λd=>Bool.rec (motive:=λ_=>Tr PV) tm (setP v d tm) (Nat.ble (Nat.succ d) n)) dst
noncomputable def noN:Option lI->Option lI:=λx=>Option.rec (motive:=λ_=>Option lI) none (λx=>lI.rec (motive:=λ_=>Option lI) (λro row=>some (lI.var ro row)) (λro sz rows=>some (lI.arr ro sz rows)) (λ_ _=>none) (λrows=>some (lI.map rows)) (λsz rows r row=>some (lI.nor sz rows r row)) x) x
noncomputable def ai5:Dl->Sb->Sb:=λδ st=>List.rec (motive:=λ_=>Sb->Sb) (λst=>st) (λx _ ih st=>ih (setB (noN x.2) x.1 st)) δ st
noncomputable def ak5:Dl->List Nat:=λδ=>List.rec (motive:=λ_=>List Nat) [] (λx _ ih=>x.1::ih) δ
noncomputable def allR (f:Nat->Bool):List Nat->Bool:=λl=>List.rec (motive:=λ_=>Bool) true (λx _ ih=>Bool.rec (motive:=λ_=>Bool) false ih (f x)) l
noncomputable def fin:Rs->Tr PV->Nat->Sb->Nat->Option Nat->Oe:=λr tm n st nx dst=>Option.rec (motive:=λ_=>Oe) none (λp=>Prod.rec (motive:=λ_=>Oe) (λv δ=>List.rec (motive:=λ_=>Oe) (some ⟨afw tm n dst v,n,st,nx⟩) (λ_ _ _=>Bool.rec (motive:=λ_=>Oe) none (Nat.rec (motive:=λ_=>Oe) (some ⟨afw tm n dst v,n,ai5 δ st,1⟩) (λm _=>some ⟨afw tm n dst v,n,ai5 δ st,Nat.succ (Nat.succ m)⟩) nx) (allR (λb=>Nat.ble b nx) (ak5 δ))) δ) p) r
noncomputable def Xh:List Nat->Nat->Bool:=λl b=>List.rec (motive:=λ_=>Bool) false (λc _ ih=>Bool.rec (motive:=λ_=>Bool) ih true (Nat.beq c b)) l
noncomputable def meets:List Nat->List Nat->Bool:=λl m=>List.rec (motive:=λ_=>Bool) false (λc _ ih=>Bool.rec (motive:=λ_=>Bool) ih true (Xh m c)) l
where
 eqRow (f:PV->PV->Bool):List PV->List PV->Bool
  | [],[]=>true
  | x::xs,y::ys=>f x y&&eqRow f xs ys
  | _,_=>false
 eqRows (f:PV->PV->Bool):List (List PV)->List (List PV)->Bool
  | [],[]=>true
  | x::xs,y::ys=>eqRow f x y&&eqRows f xs ys
  | _,_=>false
abbrev Tc:=List Nat×List Nat×List Nat
noncomputable def pairT (B:List (List Nat))(i k:Nat)(x y:Tc):Bool :=
 match meets x.2.1 y.1 || (meets x.2.1 y.2.1 || meets y.2.1 x.1) with
 | false=>true
 | true=>Xh (CQ B k) i || notB (meets x.2.2 y.1 || (meets x.2.2 y.2.2 || meets y.2.2 x.1))
noncomputable def afx (B:List (List Nat))(i:Nat)(x:Tc):List Tc->Nat->Bool
 | [],_=>true
 | y::l,k=>pairT B i k x y&&afx B i x l (k+1)
noncomputable def aer (B:List (List Nat)):List Tc->Nat->Bool
 | [],_=>true
 | x::l,i=>afx B i x l (i+1)&&aer B l (i+1)
end Go.Pv
namespace Go.Pv
open Go
def YOK {T:Tab}(C:Ctx T):Prop:=∀ l rc pv,T.yl=some (l,rc,pv)->C.Y0 l/\¬ C.M l/\C.w0.heap[l]?=some (.loop rc)/\0<T.oZ/\∃ l0,C.base 0=some l0/\pv=.pointer (some ⟨l0.cb,l0.co,none⟩)
def DF {T:Tab}(C:Ctx T)(a:Act):Prop:=a.defers=C.df/\YOK C
theorem YOK.none {T:Tab}{C:Ctx T}(h:T.yl=none):YOK C:=λ_ _ _ e=>by grind
theorem DF.put {T:Tab}{C:Ctx T}{a:Act}(h:DF C a)(d:Option Nat)(v:Value):DF C (a.put d v):=⟨by cases d<;>exact h.1,h.2⟩
def kL {T:Tab}(C:Ctx T)(E:Env)(a:Act)(w:World):Prop:=ajA C E a.tmps.toList w/\DF C a
def lift {T:Tab}(C:Ctx T)(Q:Post):Exit->Act->World->Prop
 | .normal,a,w=>∃ E,kL C E a w/\Q 0 E
 | .ret,a,w=>∃ E,kL C E a w/\Q 1 E
 | .exit n,a,w=>∃ E,kL C E a w/\Q (n+2) E
 | _,_,_=>False
def UZ (P:Program)(T:Tab)(c:Code)(Q:Post)(E:Env):Prop:=∀ (C:Ctx T) a w,kL C E a w->c.wp P (lift C Q) a w
def Uj (P:Program)(T:Tab)(k:Nat)(args:List PV)(E:Env)(K:PV->Env->Prop):Prop := ∀ (C:Ctx T) (Y:Nat->Prop) (σ:Sg) (w:World) (vs cargs:List Value),SW C w Y σ E.tmps vs E.st E.next->eU w Y σ args cargs -> (callFunc k cargs.toArray).run P w=.ok (.enter k cargs.toArray) w /\ Calls P k cargs.toArray w λe w'=>∃ cv v E' Y' σ',e=.returned cv/\K v E'/\SW C w' Y' σ' E'.tmps vs E'.st E'.next/\Rep w' Y' σ' v cv
def ajC (P:Program)(T:Tab)(l:Nat)(rc:Loop)(pv:Value)(args:List PV)(E:Env)(K:PV->Env->Prop):Prop := ∀ (C:Ctx T) (Y:Nat->Prop) (σ:Sg) (w:World) (vs cargs:List Value),SW C w Y σ E.tmps vs E.st E.next->eU w Y σ args cargs->C.Y0 l->w.heap[l]?=some (.loop rc)->Rep w Y σ (.lv 0 0) pv -> cargs.length=rc.params.size /\ RoundIn Fence.wide 0 P l rc.fn ((rc.params.zip cargs.toArray).foldl (λtmps (t,a)=>tmps.setIfInBounds t a) rc.tmps) rc.assign rc.body w λe w'=>∃ cv v E' Y' σ',e=.returned cv/\K v E'/\SW C w' Y' σ' E'.tmps vs E'.st E'.next/\Rep w' Y' σ' v cv
def marks (D:List Nat):List Deferred:=D.map λr=>{ target:=.collected r,args:=#[] }
def MQ (B:Nat)(D:List Nat)(w:World)(Y:Nat->Prop):Prop:=D.Nodup/\∀ r∈D,B<=r/\Y r/\w.heap[r]?=some (.deferred (some []))
def YJ {T:Tab}(C:Ctx T)(D:List Nat)(E:Env)(a:Act)(w:World):Prop := ∃ Y σ,SW C w Y σ E.tmps a.tmps.toList E.st E.next/\a.defers=marks D/\MQ C.w0.heap.size D w Y
def aes (P:Program)(T:Tab)(g:Operand)(ps:Array Tmp)(x y:Code)(K:Env->Prop)(E:Env):Prop := ∀ (C:Ctx T) D a w,YJ C D E a w->(Code.rangeFunc g ps x y).wp P (λe a' w'=>e=.normal/\∃ E' D',YJ C D' E' a' w'/\K E') a w
def Fn (P:Program)(G:Nat->Option (List PV))(k:Nat)(args:List PV)(R:PV->Prop):Prop := ∀ (w:World) (Y:Nat->Prop) (cargs:List Value),RX G w Y->(∀ b,Y b->b<w.heap.size)->eU w Y gJ args cargs -> (callFunc k cargs.toArray).run P w=.ok (.enter k cargs.toArray) w /\ Calls P k cargs.toArray w λe w'=>∃ cv v,e=.returned cv/\R v/\Rep w' Y gJ v cv/\Chg w w'
def Ez (σ:Sg)(st:St)(k:Nat):Prop:=∃ b x l,iH st b=some x/\σ b=some l/\l.cb=k
def yg (T:Tab)(w:World)(Y:Nat->Prop)(σ:Sg)(st:St):Ctx T:=⟨w,λk=>Y k/\¬ Ez σ st k,Ez σ st,λk=>Y k/\Ez σ st k,σ,[]⟩
def FnS (P:Program)(G:Nat->Option (List PV))(k:Nat)(args:List PV)(st:St)(n:Nat)(R:PV->St->Nat->Prop):Prop := ∀ (w:World) (Y:Nat->Prop) (σ:Sg) (cargs:List Value),RX G w Y->(∀ b,Y b->b<w.heap.size)->(∀ b,n<=b->σ b=none)->eU w Y σ args cargs->ET w Y σ st->kS st=true -> (callFunc k cargs.toArray).run P w=.ok (.enter k cargs.toArray) w /\ Calls P k cargs.toArray w λe w'=>∃ cv v st' n' Y' σ',e=.returned cv/\R v st' n'/\SW (yg ⟨λ_=>.bad,G,n,[],0,[],[],none,λ_=>[]⟩ w Y σ st) w' Y' σ' [v] [cv] st' n'
def YS (P:Program)(G:Nat->Option (List PV))(l:Nat)(rc:Loop)(pv:Value)(args:List PV)(st:St)(n:Nat)(R:PV->St->Nat->Prop):Prop := ∀ (w:World) (Y:Nat->Prop) (σ:Sg) (cargs:List Value),RX G w Y->(∀ b,Y b->b<w.heap.size)->(∀ b,n<=b->σ b=none)->eU w Y σ args cargs->ET w Y σ st->kS st=true -> Y l->w.heap[l]?=some (.loop rc)->Rep w Y σ (.lv 0 0) pv -> cargs.length=rc.params.size /\ RoundIn Fence.wide 0 P l rc.fn ((rc.params.zip cargs.toArray).foldl (λtmps (t,a)=>tmps.setIfInBounds t a) rc.tmps) rc.assign rc.body w λe w'=>∃ cv u st' n' Y' σ',e=.returned cv/\R u st' n'/\SW (yg ⟨λ_=>.bad,G,n,[],0,[],[],none,λ_=>[]⟩ w Y σ st) w' Y' σ' [u] [cv] st' n'
def FnY (P:Program)(G:Nat->Option (List PV))(k:Nat)(args:List PV)(st:St)(n:Nat)(Yc:Nat->Loop->Value->Prop)(R:PV->St->Nat->Prop):Prop := ∀ (l:Nat) (rc:Loop) (pv:Value),Yc l rc pv->∀ (w:World) (Y:Nat->Prop) (σ:Sg) (cargs:List Value),RX G w Y->(∀ b,Y b->b<w.heap.size)->(∀ b,n<=b->σ b=none)->eU w Y σ (.yl l::args) cargs->ET w Y σ st->kS st=true -> Y l->w.heap[l]?=some (.loop rc)->Rep w Y σ (.lv 0 0) pv -> (callFunc k cargs.toArray).run P w=.ok (.enter k cargs.toArray) w /\ Calls P k cargs.toArray w λe w'=>∃ cv v st' n' Y' σ',e=.returned cv/\R v st' n'/\SW (yg ⟨λ_=>.bad,G,n,[],0,[],[],none,λ_=>[]⟩ w Y σ st) w' Y' σ' [v] [cv] st' n'
structure RngS (P:Program)(T:Tab)(x y:Code)(ps:Array Tmp)(t0 len k b0:Nat)(ρ:List Nat)(as:List PV)(st0:St)(E:Env)(K:Env->Prop):Prop where
 out:MO ρ=true/\ltN E.next ρ=true/\kS E.st=true/\kS st0=true/\ρ[0]?=some b0/\∃ v st1 n1 Yc,FnY P T.gl k as st0 (kU ρ) Yc (λu st n=>u=v/\st=st1/\n=n1) /\
  (∀ l rc pv,rc.assign=x->rc.body=y->rc.state=.ready->rc.pending=none->rc.params=ps->rc.tmps.toList[t0]?=some pv->rc.tmps.size=len->Yc l rc pv)/\kS (EZ ρ E st1 n1).st=true/\K (EZ ρ E st1 n1)
def Ent (T:Tab)(E F:Env):Prop:=∀ (C:Ctx T) a w,kL C E a w->kL C F a w
theorem Ent.refl {T:Tab}(E:Env):Ent T E E:=λ_ _ _ h=>h
def fzC:PV->PV
 | .ow _ sz es=>.sl sz es false
 | v=>v
def ads:List PV->Option Int
 | [.si .u8 n]=>some n
 | [.int .u8 n]=>some n
 | _=>none
noncomputable def CU:List (List PV)->Int->Option (List PV)
 | (.si _ k::cs)::l,n=>if k=n then some cs else CU l n
 | _::l,n=>CU l n
 | [],_=>none
def RZ:List (List PV)->Int->List PV->List (List PV)
 | (.si t k::cs)::l,n,xs=>if k=n then(.si t n::xs)::l else(.si t k::cs)::RZ l n xs
 | r::l,n,xs=>r::RZ l n xs
 | [],n,xs=>[.si .i64 n::xs]
def gV.jd (P:Program)(T:Tab):gV where
 bin:=iL
 cmp:=zA
 conv k n:=k.wrap n
 neg k n:=k.wrap (0-n)
 beq a b:=a==b
 band a b:=a&&b
 ahP:=fQ
 slen s:=(s.size:Int)
 ajs a b:=if b<a then b else a
 ajt a b:=if b > a then b else a
 len es:=(es.length:Int)
 yf n:=(n:Int)
 EX a b:=a+b
 aax a b:=a-b
 app a b:=a++b
 sub rows r n:=(rows.drop r).take n
 spl rows r new:=rows.take r++new++rows.drop (r+new.length)
 Gv rows i r:=rows.set i r
 rep n r:=List.replicate n r
 fE es:=es.length
 br b t f:=(b=true->t ())/\(b=false->f ())
 rng g ps x y K E:=aes P T g ps x y K E
 aju x y ps t0 len k b0 ρ as st0 E K:=RngS P T x y ps t0 len k b0 ρ as st0 E K
 yld l args E ρ as st0 K:=∃ rc pv v st1 n1,T.yl=some (l,rc,pv)/\as=Ak (vI (ixN ρ) 8) args/\st0=yC (ixN ρ) E.st 0 ρ/\MO ρ=true/\ltN E.next ρ=true/\kS st0=true/\ρ[0]?=some 0/\YS P T.gl l rc pv as st0 (kU ρ) (λu st n=>u=v/\st=st1/\n=n1)/\K (vI (CE ρ E.next) 8 v) (EZ ρ E st1 n1)
 call k args E lend free ρ as st0 K :=
  (∃ bs v,lend=some bs/\Fn P T.gl k bs (λu=>u=v)/\JS 6 v=true/\K v E) \/
  (∃ bs v,free=some bs/\Fn P T.gl k bs (λu=>u=v)/\K v ⟨E.tmps,roS E.st ρ,E.next⟩) \/
  (∃ v st1 n1,MO ρ=true/\ltN E.next ρ=true/\kS st0=true/\FnS P T.gl k as st0 (kU ρ) (λu st n=>u=v/\st=st1/\n=n1)/\K (vI (CE ρ E.next) 8 v) (EZ ρ E st1 n1)) \/
  Uj P T k args E K
 Vp k args K:=∃ v,Fn P T.gl k args (λu=>u=v)/\K v
 Ua k args as bs E K:=(∃ v,Fn P T.gl k as (λu=>u=v)/\K v E)\/(∃ v st1 n1,FnS P T.gl k bs [] 0 (λu st n=>u=v/\st=st1/\n=n1)/\K (vI (CE [] E.next) 8 v) (EZ [] E st1 n1))\/Uj P T k args E K
 XE k args K:=∃ v,Fn P T.gl k args (λu=>u=v)/\JS 6 v=true/\K v
 afd k as K:=∃ v x,FnS P T.gl k as [] 0 (λu st n=>u=v/\st=[(0,some x)]/\n=1)/\K v x
 XF k as st0 ρ K:=∃ v st1 n1,kS st0=true/\FnS P T.gl k as st0 (kU ρ) (λu st n=>u=v/\st=st1/\n=n1)/\K v st1 n1
 loop c Q E:=UZ P T (.loop c) Q E
 seq _ _ A B Q:=∃ Q',A Q'/\∀ n E,Q' n E->∃ F,Ent T E F/\Jr B Q n F
 idx es i K:=∃ (j:Nat) (row:List PV),i=(j:Int)/\es[j]?=some row/\K row
 ix n i K:=∃ j:Nat,i=(j:Int)/\j<n/\K j
 row rows j K:=∃ row,rows[j]?=some row/\K row
 afe s i K:=∃ (j:Nat) (c:UInt8),i=(j:Int)/\s[j]?=some c/\K (c.toNat:Int)
 div op k a b K:=b≠0/\K (match op with|.quo=>k.wrap (a.tdiv b)|_=>a.tmod b)
 shf op k a y K:=0<=y/\K (match op with|.shl=>k.wrap (a*2 ^ (min y.toNat k.bits))|_=>a.fdiv (2 ^ (min y.toNat k.bits)))
 aff a b K:=a.size+b.size<=4611686018427387904/\K (a++b)
 mks n m bytes K:=∃ j:Nat,n=(j:Int)/\n<=m/\(bytes:Int)*m<=140737488355328/\m<=9223372036854775807/\K j
 room n bytes K:=(2*n+192)*bytes<=140737488355328/\n<=4611686018427387904/\K
 slc len a b K:=∃ i j:Nat,a=(i:Int)/\b=(j:Int)/\i<=j/\j<=len/\K i j
 abW s a b K:=∃ i j:Nat,a=(i:Int)/\b=(j:Int)/\i<=j/\j<=s.size/\K (s.extract i j)
 Vq es K:=∀ b:Bool,(b=true->es=[])->K b
 toS t rows K:=(∃ e,P.underlying t=some (.slice e)/\P.underlying e=some (.int .u8))/\∃ s:ByteArray,rows.map ads=s.data.toList.map (λc=>some (c.toNat:Int))/\K s
 toB t b K:=(∃ e,P.underlying t=some (.slice e)/\P.underlying e=some (.int .u8))/\K (b.data.toList.map λc=>[.si .u8 (c.toNat:Int)])
 wk cs K:=∃ cs',cs'.length=cs.length/\(gW cs=true->gW cs'=true)/\(∀ (w:World) (Y:Nat->Prop) (σ:Sg) (vs:List Value),eU w Y σ cs vs->eU w Y σ cs' vs)/\K cs'
 order l p:=GG T l=true/\p
 last l p:=Pm l=true/\p
 ael l tr p:=(Gz l l.toList 0&&aer (Vz l.toList []) tr 0)=true/\p
 nu K:=∀ h,K h
 same h h' p:=h=h'/\p
 fz rows:=rows.map λrow=>row.map fzC
 ajv rows n z K:=(∀ cs,CU rows n=some cs->K cs true)/\(CU rows n=none->∃ cs,(∀ (w:World) (Y:Nat->Prop) (σ:Sg) (vs:List Value),eU w Y σ z vs->eU w Y σ cs vs)/\K cs false)
 ahQ rows n cs:=RZ rows n cs
theorem AB {P:Program}{T:Tab}{cs:List PV}{K:List PV->Prop}(h:wkC (gV.jd P T) cs K):∃ J,J.length=cs.length/\(gW cs=true->gW J=true)/\(∀ (w:World) (Y:Nat->Prop) (σ:Sg) (vs:List Value),eU w Y σ cs vs->eU w Y σ J vs)/\K J/\∀ I : List PV->Prop,I J->wkC (gV.jd P T) cs I:=by
 unfold wkC at h |-
 cases t:Vs cs with
 | true=>
  rw[t] at h;simp only;obtain⟨J,h1,h2,C,g⟩:=h;exact⟨J,h1,h2,C,g,λI hk=>⟨J,h1,h2,C,hk⟩⟩
 | false=>
  grind
theorem ahU {w:World}{Y:Nat->Prop}{σ:Sg}(n:Nat)(p:PV)(v:Value)(h:Rep w Y σ p v):Rep w Y σ (owC n p) v:=by
 unfold owC
 split
 split
 split
 unfold Rep at h |-;obtain⟨a,len,cap,e,T,hc,U,_⟩:=h;have T:len=0:=by simpa using T
 subst T;have U:=U rfl;subst U;exact .inr ⟨rfl,rfl,a,e⟩
 exact h
 exact h
 exact h
theorem YK {w:World}{Y:Nat->Prop}{σ:Sg}(n:Nat):∀ (ps:List PV) (vs:List Value),eU w Y σ ps vs->eU w Y σ (owZ n ps) vs
 | [],vs,h=>h
 | p::ps,vs,h=>by
  unfold eU at h;obtain⟨v,T,e,h1,h2⟩:=h;unfold owZ eU;exact⟨v,T,e,ahU n p v h1,YK n ps T h2⟩
theorem YL (n:Nat):∀ ps:List PV,(owZ n ps).length=ps.length
 | []=>rfl
 | p::ps=>by simp[owZ,YL n ps]
theorem afy (n:Nat)(p:PV):xm (owC n p)=xm p:=by
 unfold owC
 split
 split
 split<;>rfl
 rfl
 rfl
theorem VC (n:Nat):∀ ps:List PV,gW (owZ n ps)=gW ps
 | []=>rfl
 | p::ps=>by simp[owZ,gW,VC n ps,afy]
theorem Si {n:Nat}{h:Hdr}{sz:Nat}{T:List (List PV)}:∀ {ps:List PV},(∀ h sz T,PV.ow h sz T ∉ ps)->∀ c:Nat,(owZ n ps)[c]?=some (.ow h sz T)->h.cap=0
 | [],_,c,e=>by simp[owZ] at e
 | p::ps,hno,0,e=>by
  simp only[owZ,List.getElem?_cons_zero,Option.some.injEq] at e;unfold owC at e
  split at e
  split at e
  split at e
  cases e;rfl
  cases e
  cases e
  grind
 | p::ps,hno,c+1,e=>by
  simp only[owZ,List.getElem?_cons_succ] at e;exact Si (λh sz T J=>hno h sz T (List.mem_cons_of_mem _ J)) c e
theorem adt {P:Program}{T:Tab}{lq:Nat}{cs:List PV}{K:List PV->Prop}(h:wkN (gV.jd P T) lq cs K):∃ J,J.length=cs.length/\(gW cs=true->gW J=true)/\(∀ (w:World) (Y:Nat->Prop) (σ:Sg) (vs:List Value),eU w Y σ cs vs->eU w Y σ J vs)/\K J/\(∀ n,lq=n+1->Ue cs=true->J=owZ n cs)/\∀ I : List PV->Prop,I J->wkN (gV.jd P T) lq cs I:=by
 unfold wkN at h |-
 cases lq with
 | zero=>
  grind[AB]
 | succ n=>
  cases hs:Ue cs with
  | true=>
   simp only[hs] at h |-;exact⟨owZ n cs,YL n cs,λh=>by rw[VC];exact h,λ_ _ _ _ h=>YK n _ _ h,h,λm C _=>by grind,λI hk=>hk⟩
  | false=>
   grind[AB]
end Go.Pv
namespace Go.Pv
open Go
theorem Py (w:World)(Y:Nat->Prop)(σ:Sg)(v:Value):Rep w Y σ (KH v) v:=by
 unfold KH
 split
 case h_5=>unfold Rep;grind
 all_goals simp[Rep]
theorem IC (w:World)(Y:Nat->Prop)(σ:Sg):∀ vs:List Value,eU w Y σ (EY vs) vs
 | []=>by simp[EY,eU]
 | v::vs=>by simp only[EY];unfold eU;exact⟨v,vs,rfl,Py w Y σ v,IC w Y σ vs⟩
theorem aet (w:World)(Y:Nat->Prop)(σ:Sg)(v:Value):Rep w Y σ (XG v) v:=by
 unfold XG
 split<;>grind[Rep,IC,Py]
theorem kJ {T:Tab}{C:Ctx T}{w:World}{Y:Nat->Prop}{σ:Sg}{ps:List PV}{a:Act}{st:St}{n:Nat}(h:SW C w Y σ ps a.tmps.toList st n)(x:Operand):Rep w Y σ (rM T ps x) (a.eval x):=by
 cases x with
 | tmp t=>
  have:=h.vals.get ps _ t
  grind[rM,Act.eval,Array.getD_eq_getD_getElem?]
 | const v=>exact aet w Y σ v
 | global g=>
  simp only[rM]
  split
  rename_i cs J;exact Rep.keep _ ⟨λ_ _ _=>rfl,λ_ _ h=>h,Nat.le_refl _,λ_ _ h=>by cases h⟩ _ (h.wQ g cs J)
  simp[Rep]
 | func f=>simp only[rM,Act.eval];unfold Rep;exact⟨[],rfl,by simp[eU]⟩
theorem vM {T:Tab}{C:Ctx T}{w:World}{Y:Nat->Prop}{σ:Sg}{ps:List PV}{a:Act}{st:St}{n:Nat}(h:SW C w Y σ ps a.tmps.toList st n):∀ l:List Operand,eU w Y σ (evA T ps l) (l.map a.eval)
 | []=>by simp[evA,eU]
 | x::l=>by simp only[evA,List.map_cons];unfold eU;exact⟨_,_,rfl,kJ h x,vM h l⟩
def uI:Dl->Nat->Nat->Nat
 | [],n,_=>n
 | _::_,n,id=>max n (id+1)
def qh {T:Tab}(P:Program)(C:Ctx T)(o:Oper)(a:Act)(w:World)(σ:Sg)(ps:List PV)(st:St)(n id:Nat)(K:PV->Dl->Prop):Prop := ∃ v δ cv w' Y' σ',K v δ/\((execOp a.eval o).run P w=.ok (.value cv) w'\/((execOp a.eval o).run P w=.ok .skip w'/\cv=Go.undef)) /\ SW C w' Y' σ' ps a.tmps.toList (jf δ st) (uI δ n id)/\Rep w' Y' σ' v cv/\Off id σ σ'
theorem qh.quiet {T:Tab}{P:Program}{C:Ctx T}{o:Oper}{a:Act}{w:World}{Y:Nat->Prop}{σ:Sg}{ps:List PV}{st:St}{n id:Nat}{K:PV->Dl->Prop}
  (H:SW C w Y σ ps a.tmps.toList st n) {v:PV} {cv:Value} (hr:(execOp a.eval o).run P w=.ok (.value cv) w) (hv:Rep w Y σ v cv) (J:K v []):qh P C o a w σ ps st n id K :=
 ⟨v,[],cv,w,Y,σ,J,.inl hr,H,hv,Off.refl _ _⟩
theorem yM {w:World}{Y:Nat->Prop}{σ:Sg}{b:Bool}{v:Value}(h:Rep w Y σ (.bool b) v):v=.bool b:=by grind[Rep]
theorem Sj {w:World}{Y:Nat->Prop}{σ:Sg}{b:Bool}{v:Value}(h:Rep w Y σ (.sb b) v):v=.bool b:=by grind[Rep]
theorem vN {w:World}{Y:Nat->Prop}{σ:Sg}{k:IntKind}{n:Int}{v:Value}(h:Rep w Y σ (.int k n) v):v=.int k n:=by grind[Rep]
theorem VD {w:World}{Y:Nat->Prop}{σ:Sg}{k:IntKind}{n:Int}{v:Value}(h:Rep w Y σ (.si k n) v):v=.int k n:=by grind[Rep]
theorem IE {w:World}{Y:Nat->Prop}{σ:Sg}{s:ByteArray}{v:Value}(h:Rep w Y σ (.str s) v):v=.string s:=by grind[Rep]
theorem pM {w:World}{Y:Nat->Prop}{σ:Sg}{p:PV}{k:IntKind}{n:Int}{v:Value}(h:Rep w Y σ p v)(e:Ec p=some (k,n)):v=.int k n:=by
 unfold Ec at e
 split at e<;>simp at e<;>obtain⟨rfl,rfl⟩:=e
 exact vN h
 exact VD h
theorem Oa {w:World}{Y:Nat->Prop}{σ:Sg}{p:PV}{b:Bool}{v:Value}(h:Rep w Y σ p v)(e:XH p=some b):v=.bool b:=by
 unfold XH at e
 grind[yM,Sj]
theorem F8 {k T : IntKind}(h:uk k T=true):k=T:=by cases k<;>cases T<;>simp_all[uk]
section
variable {P:Program}{T:Tab}(hT:iK P T){C:Ctx T}{o:Oper}{a:Act}{w:World}{Y:Nat->Prop}{σ:Sg}{ps:List PV}{st:St}{n id:Nat}{K:PV->Dl->Prop}{lk:Nat->Option lI}
 (H:SW C w Y σ ps a.tmps.toList st n) (hlk:∀ b x,lk b=some x->iH st b=some x) (hid:σ id=none/\T.oZ<=id)
include H
theorem ahV {x:Operand}(ho:o.op=.move x)(h:nV T (gV.jd P T) (.move x) ps lk id K):qh P C o a w σ ps st n id K:=by
 refine qh.quiet H (cv:=a.eval x) ?_ (kJ H x) h;simp[execOp,ho]
theorem aeu {x:Operand}(ho:o.op=.assign x)(h:nV T (gV.jd P T) (.assign x) ps lk id K):qh P C o a w σ ps st n id K:=by
 refine qh.quiet H (cv:=a.eval x) ?_ (kJ H x) h;simp[execOp,ho]
theorem ahW {c x y:Operand}(ho:o.op=.pick c x y)(h:nV T (gV.jd P T) (.pick c x y) ps lk id K):qh P C o a w σ ps st n id K:=by
 have hc:=kJ H c;simp only[nV] at h
 split at h
 rename_i e;rw[e] at hc;have hc:=yM hc;refine qh.quiet H (cv:=a.eval x) ?_ (kJ H x) h;simp[execOp,ho,hc,asBool]
 rename_i e;rw[e] at hc;have hc:=yM hc;refine qh.quiet H (cv:=a.eval y) ?_ (kJ H y) h;simp[execOp,ho,hc,asBool]
 exact h.elim
theorem aaF {x:Operand}(ho:o.op=.nilCheck x)(h:nV T (gV.jd P T) (.nilCheck x) ps lk id K):qh P C o a w σ ps st n id K:=by
 have hc:=kJ H x;simp only[nV] at h
 split at h
 rename_i e;rw[e] at hc;have J:=hc;unfold Rep at J;obtain⟨l,_,I⟩:=J;refine qh.quiet H (cv:=a.eval x) ?_ hc h
 simp_all[execOp]
 rename_i e;rw[e] at hc;have J:=hc;unfold Rep at J;obtain⟨l,_,I⟩:=J;refine qh.quiet H (cv:=a.eval x) ?_ hc h
 simp_all[execOp]
 rename_i e;rw[e] at hc;have J:=hc;unfold Rep at J;obtain⟨b,o',I,_⟩:=J;refine qh.quiet H (cv:=a.eval x) ?_ hc h
 simp_all[execOp]
 rename_i e;rw[e] at hc;have I:=hc;unfold Rep at I;refine qh.quiet H (cv:=a.eval x) ?_ hc h
 simp_all[execOp]
 rename_i e;rw[e] at hc;have J:=hc;unfold Rep at J;obtain⟨vs,I,_⟩:=J;refine qh.quiet H (cv:=a.eval x) ?_ hc h
 simp_all[execOp]
 exact h.elim
theorem afz {t:TypeId}{x:Operand}(ho:o.op=.unOp .not t x)(h:nV T (gV.jd P T) (.unOp .not t x) ps lk id K):qh P C o a w σ ps st n id K:=by
 have hc:=kJ H x;simp only[nV] at h
 split at h
 rename_i e;rw[e] at hc;have hc:=yM hc;refine qh.quiet H (cv:=.bool false) ?_ (by simp[Rep]) h;simp[execOp,ho,hc,Op.unary]
 rename_i e;rw[e] at hc;have hc:=yM hc;refine qh.quiet H (cv:=.bool true) ?_ (by simp[Rep]) h;simp[execOp,ho,hc,Op.unary]
 rename_i b e;rw[e] at hc;have hc:=Sj hc;refine qh.quiet H (cv:=.bool (!b)) ?_ (by simp[Rep,gV.jd]) h;simp[execOp,ho,hc,Op.unary]
 exact h.elim
theorem afA {t:TypeId}{x:Operand}(ho:o.op=.unOp .neg t x)(h:nV T (gV.jd P T) (.unOp .neg t x) ps lk id K):qh P C o a w σ ps st n id K:=by
 have hc:=kJ H x;simp only[nV] at h
 split at h
 rename_i k m e;rw[e] at hc;have hc:=vN hc;refine qh.quiet H (cv:=.int k (k.wrap (0-m))) ?_ (by simp[Rep]) h;simp[execOp,ho,hc,Op.unary,Op.intArith]
 rename_i k m e;rw[e] at hc;have hc:=VD hc;refine qh.quiet H (cv:=.int k (k.wrap (0-m))) ?_ (by simp[Rep,gV.jd]) h;simp[execOp,ho,hc,Op.unary,Op.intArith]
 exact h.elim
theorem ab6 {t:Operand}{i:Nat}(ho:o.op=.extract t i)(h:nV T (gV.jd P T) (.extract t i) ps lk id K):qh P C o a w σ ps st n id K:=by
 have hc:=kJ H t;simp only[nV] at h
 split at h
 rename_i vs e;rw[e] at hc;unfold Rep at hc;obtain⟨us,g,hr⟩:=hc
 cases I:Nat.blt i (nN vs) with
 | false=>grind
 | true=>
  rw[I] at h;have hi:i<us.length:=by rw[eU.length _ _ hr];simp_all
  have J:=hr.get _ _ i;rw[List.getD_eq_getElem?_getD,List.getElem?_eq_getElem hi] at J;refine qh.quiet H (cv:=us[i]) ?_ J h;simp[execOp,ho,g,Instr.extract,hi]
 exact h.elim
end
end Go.Pv
