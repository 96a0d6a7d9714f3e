import Derived.Orders
import Derived.Tactics
import Derived.Calls
import Derived.Below
import Derived.CallsIn
import Derived.WalkKit
set_option linter.all false
namespace Go.Pv
theorem ae{p:Prop}(h:p:=by omega):p:=h
theorem af{p:Prop}(h:p:=by(try simp only[q1]);(try simp only[q2,eO,q]);try first|rfl|simp[AL,eI,eB,eL,eS,q]):p:=h
theorem ah{p:Prop}(h:p:=by(try simp only[q]);repeat' constructor):p:=h
theorem ai{p:Prop}(h:p:=by grind):p:=h
theorem aj{p:Prop}(h:p:=by simp):p:=h
theorem ak{p:Prop}(h:p:=by(try simp only[q]);repeat' first|constructor|exact amm rfl rfl (by have lbx13:=bx13.le;have tbx13:=bx13.lt;have lbx15:=bx15.le;have tbx15:=bx15.lt;clear U bx13 bx15;cases x13;cases x15;simp only[Dw,acT,List.length_append,List.length_take,List.length_drop,List.length_replicate] at *;omega)):p:=h
theorem au{p:Prop}(h:p:=by(conv=>lhs;cbv)<;>(try simp only[q1])<;>(try simp only[q2,eO,q])<;>(try rfl)):p:=h
theorem ax{p:Prop}(h:p:=by show ¬ (l.length:Int)<(l.length:Int);omega):p:=h
theorem ay{p:Prop}(h:p:=by have lbx13:=bx13.le;have tbx13:=bx13.lt;have lbx15:=bx15.le;have tbx15:=bx15.lt;clear U bx13 bx15;cases x13;cases x15;simp only[Dw,acT,List.length_append,List.length_take,List.length_drop,List.length_replicate] at *;omega):p:=h
theorem aA{p:Prop}(h:p:=by kernel_rfl):p:=h
theorem aB{p:Prop}(h:p:=by simp only;omega):p:=h
theorem aC{p:Prop}(h:p:=by(try simp only[q1])<;>(try simp only[q2,eO,q]);repeat' constructor):p:=h
theorem aF{p:Prop}(h:p:=by show ¬ (s.objects.length:Int)<(s.objects.length:Int);omega):p:=h
theorem aG{p:Prop}(h:p:=by unfold jF;exact sN (by grind) (by grind)):p:=h
theorem aH{p:Prop}(h:p:=by show ¬ (f.fP.length:Int)<(f.fP.length:Int);omega):p:=h
theorem aI{p:Prop}(h:p:=by refine⟨by simp,by omega,?_⟩;simp[uP]):p:=h
theorem aJ{p:Prop}(h:p:=by decide):p:=h
theorem aK{p:Prop}(h:p:=by simp[uP]):p:=h
theorem aN{p:Prop}(h:p:=by simpa using h):p:=h
theorem aO{p:Prop}(h:p:=by unfold slices_Clone_string;exact sN (by grind) (by grind)):p:=h
theorem aP{p:Prop}(h:p:=by show ¬ (c.fC.length:Int)<(c.fC.length:Int);omega):p:=h
theorem aQ{p:Prop}(h:p:=by show ¬ (a.jJ.length:Int)<(a.jJ.length:Int);omega):p:=h
theorem aS{p:Prop}(h:p:=by simp[Rep]):p:=h
theorem aT{p:Prop}(h:p:=by(conv=>lhs;cbv)<;>(try simp only[q])<;>(try rfl)):p:=h
theorem aU{p:Prop}(h:p:=by simp;omega):p:=h
theorem aV{p:Prop}(h:p:=by unfold nN;exact sN (by grind) (by grind)):p:=h
theorem aW{p:Prop}(h:p:=by simp only[Op.operands,List.mem_toArray,List.mem_map];grind):p:=h
theorem aX{p:Prop}(h:p:=by show _<18446744073709551616;grind):p:=h
theorem aY{p:Prop}(h:p:=by show ¬ (s.length:Int)<(s.length:Int);omega):p:=h
theorem aZ{p:Prop}(h:p:=by(try simp only[jG,fM,eL,eS,q]);try first|rfl|simp[AL,eI,eB,eL,eS,q]):p:=h
theorem bg{p:Prop}(h:p:=by simp[gp]):p:=h
theorem bn{p:Prop}(h:p:=by rw[List.getElem?_append_right (by omega)];simpa using hv):p:=h
theorem bu{p:Prop}(h:p:=by grind[Op.operands,Call.operands]):p:=h
theorem bz{p:Prop}(h:p:=by show n-_<18446744073709551616;omega):p:=h
theorem bC{p:Prop}(h:p:=by grind[uP]):p:=h
theorem bD{p:Prop}(h:p:=by cases e):p:=h
theorem bF{p:Prop}(h:p:=by show ¬ (left.length:Int)<(left.length:Int);omega):p:=h
theorem bG{p:Prop}(h:p:=by simp only[jr,ve];exact H'):p:=h
theorem bH{p:Prop}(h:p:=by simpa using hi):p:=h
theorem bI{p:Prop}(h:p:=by simp[Op.operands,Call.operands]):p:=h
theorem bJ{p:Prop}(h:p:=by rw[hvs2.1];rw[Nat.add_mul] at hbnd;omega):p:=h
theorem bK{p:Prop}(h:p:=by simp[kY,hu]):p:=h
theorem bM{p:Prop}(h:p:=by grind[eU]):p:=h
theorem bP{p:Prop}(h:p:=by unfold pY;exact sN (by grind) (by grind)):p:=h
theorem bQ{p:Prop}(h:p:=by simp[oH] at h):p:=h
theorem bT{p:Prop}(h:p:=by simp[Rep,iq.jq]):p:=h
theorem bU{p:Prop}(h:p:=by unfold jF;exact sN (by omega) (by omega)):p:=h
theorem bV{p:Prop}(h:p:=by simpa using h2):p:=h
theorem bW{p:Prop}(h:p:=by cases h):p:=h
theorem bY{p:Prop}(h:p:=by simp only[q];try first|rfl|simp[AL,eI,eB,eL,eS,q]):p:=h
theorem bZ{p:Prop}(h:p:=by show 5-_<18446744073709551616;omega):p:=h
theorem cu{p:Prop}(h:p:=by simp only[Hf];simp[h]):p:=h
theorem dh{p:Prop}(h:p:=by simpa using hoj):p:=h
theorem di{p:Prop}(h:p:=by simp[ve];omega):p:=h
theorem dm{p:Prop}(h:p:=by simp[Rep];rfl):p:=h
theorem dw{p:Prop}(h:p:=by grind[iY]):p:=h
theorem dA{p:Prop}(h:p:=by rw[run (aft hu hinf g1 g2 g3 (by omega))];rfl):p:=h
theorem dB{p:Prop}(h:p:=by unfold eQ;exact⟨_,_,rfl,hrep,by unfold eQ;rfl⟩):p:=h
theorem dC{p:Prop}(h:p:=by simp[Op.operands]):p:=h
theorem dD{p:Prop}(h:p:=by simpa using h1):p:=h
theorem dF{p:Prop}(h:p:=by rw[d1];rcases c2 with c2|c2<;>rw[c2]<;>rfl):p:=h
theorem dG{p:Prop}(h:p:=by rw[ig,if_pos rfl]):p:=h
theorem dH{p:Prop}(h:p:=by assumption):p:=h
theorem dI{p:Prop}(h:p:=by subst hM;exact iU):p:=h
theorem dJ{p:Prop}(h:p:=by subst hy;simp[Op.operands]):p:=h
theorem dK{p:Prop}(h:p:=by simpa using hj):p:=h
theorem dL{p:Prop}(h:p:=by simpa using hr):p:=h
theorem dM{p:Prop}(h:p:=by simpa using hk):p:=h
theorem dN{p:Prop}(h:p:=by rw[hbe] at g1;exact g1):p:=h
theorem dO{p:Prop}(h:p:=by rw[ho];exact h):p:=h
theorem dP{p:Prop}(h:p:=by simp[eU]):p:=h
theorem dQ{p:Prop}(h:p:=by intro U;cbv;cases U):p:=h
theorem dR{p:Prop}(h:p:=by intro U;cbv;cases U;exact hR _ _ _ iU iU rfl):p:=h
theorem dS{p:Prop}(h:p:=by simp only[Vt] at h |-;obtain⟨h0,j,h1,h2,h⟩:=h;exact⟨_,_,h,λ_ hk=>⟨h0,j,h1,h2,hk⟩⟩):p:=h
end Go.Pv
namespace Go.Pv
open Go
structure Hdr where
 ν:Nat
 o:Nat
 cap:Nat
inductive PV where
 | bool (b:Bool)
 | sb (b:Bool)
 | int (k:IntKind) (n:Int)
 | si (k:IntKind) (n:Int)
 | str (s:ByteArray)
 | agg (cs:List PV)
 | Ed (vs:List PV)
 | sl (sz:Nat) (es:List (List PV)) (full:Bool)
 | os (b r n:Nat)
 | lv (b c:Nat)
 | lp (b r c:Nat)
 | pp (cs:List PV)
 | ow (h:Hdr) (sz:Nat) (es:List (List PV))
 | bo (b r c:Nat) (h:Hdr) (sz n:Nat)
 | np (b r c:Nat) (h:Hdr) (sz j k:Nat)
 | IY
 | fn (f:Nat) (caps:List PV)
 | V5
 | mp (b:Nat)
 | yl (l:Nat)
 | hc
 | top
 | undef
 deriving Inhabited
inductive lW where
 | var (ro:Bool) (row:List PV)
 | arr (ro:Bool) (sz:Nat) (rows:List (List PV))
 | lN (sz:Nat) (rows:List (List PV))
 | map (rows:List (List PV))
 | nor (sz:Nat) (rows:List (List PV)) (r:Nat) (row:List PV)
abbrev St:=List (Nat×Option lW)
structure Env where
 tmps:List PV
 st:St
 next:Nat
structure iq where
 bin:BinOp->IntKind->Int->Int->Int
 cmp:BinOp->Int->Int->Bool
 conv:IntKind->Int->Int
 neg:IntKind->Int->Int
 beq:Bool->Bool->Bool
 band:Bool->Bool->Bool
 ajb:BinOp->ByteArray->ByteArray->Bool
 slen:ByteArray->Int
 akV:Int->Int->Int
 akW:Int->Int->Int
 len:List (List PV)->Int
 xQ:Nat->Int
 FY:Nat->Nat->Nat
 abq:Nat->Nat->Nat
 app:List (List PV)->List (List PV)->List (List PV)
 sub:List (List PV)->Nat->Nat->List (List PV)
 spl:List (List PV)->Nat->List (List PV)->List (List PV)
 Hg:List (List PV)->Nat->List PV->List (List PV)
 rep:Nat->List PV->List (List PV)
 fE:List (List PV)->Nat
 br:Bool->(Unit->Prop)->(Unit->Prop)->Prop
 rng:Operand->Array Tmp->Code->Code->(Env->Prop)->Env->Prop
 akX:Code->Code->Array Tmp->Nat->Nat->Nat->Nat->List Nat->List PV->St->Env->(Env->Prop)->Prop
 yld:Nat->List PV->Env->List Nat->List PV->St->(PV->Env->Prop)->Prop
 call:Nat->List PV->Env->Option (List PV)->Option (List PV)->List Nat->List PV->St->(PV->Env->Prop)->Prop
 V6:Nat->List PV->(PV->Prop)->Prop
 UM:Nat->List PV->List PV->List PV->Env->(PV->Env->Prop)->Prop
 Yo:Nat->List PV->(PV->Prop)->Prop
 agx:Nat->List PV->(PV->lW->Prop)->Prop
 Yp:Nat->List PV->St->List Nat->(PV->St->Nat->Prop)->Prop
 loop:Code->(Nat->Env->Prop)->Env->Prop
 seq:Nat->Env->((Nat->Env->Prop)->Prop)->(Env->Prop)->(Nat->Env->Prop)->Prop
 idx:List (List PV)->Int->(List PV->Prop)->Prop
 ix:Nat->Int->(Nat->Prop)->Prop
 row:List (List PV)->Nat->(List PV->Prop)->Prop
 agy:ByteArray->Int->(Int->Prop)->Prop
 div:BinOp->IntKind->Int->Int->(Int->Prop)->Prop
 shf:BinOp->IntKind->Int->Int->(Int->Prop)->Prop
 agz:ByteArray->ByteArray->(ByteArray->Prop)->Prop
 mks:Int->Int->Nat->(Nat->Prop)->Prop
 room:Nat->Nat->Prop->Prop
 slc:Nat->Int->Int->(Nat->Nat->Prop)->Prop
 acU:ByteArray->Int->Int->(ByteArray->Prop)->Prop
 V7:List (List PV)->(Bool->Prop)->Prop
 toS:Nat->List (List PV)->(ByteArray->Prop)->Prop
 toB:Nat->ByteArray->(List (List PV)->Prop)->Prop
 wk:List PV->(List PV->Prop)->Prop
 order:Array Oper->Prop->Prop
 last:Array Oper->Prop->Prop
 afu:Array Oper->List (List Nat×List Nat×List Nat)->Prop->Prop
 nu:(Hdr->Prop)->Prop
 same:Hdr->Hdr->Prop->Prop
 fz:List (List PV)->List (List PV)
 akY:List (List PV)->Int->List PV->(List PV->Bool->Prop)->Prop
 ajc:List (List PV)->Int->List PV->List (List PV)
def ji:List PV->Nat->PV
 | [],_=>.undef
 | x::_,0=>x
 | _::l,n+1=>ji l n
def nV:List PV->Nat->PV->List PV
 | [],_,_=>[]
 | _::l,0,v=>v::l
 | x::l,n+1,v=>x::nV l n v
def oq:List PV->Nat
 | []=>0
 | _::l=>oq l+1
def UN:Nat->List PV->List PV
 | 0,_=>[]
 | _+1,[]=>[]
 | n+1,x::l=>x::UN n l
def Hl:Nat->List PV->List PV
 | 0,l=>l
 | _+1,[]=>[]
 | n+1,_::l=>Hl n l
def vY:List PV->List PV->List PV
 | [],m=>m
 | x::l,m=>x::vY l m
def mO:List PV->Nat->List PV->List PV
 | l,_,[]=>l
 | l,c,v::vs=>mO (nV l c v) (c+1) vs
def chunks (sz:Nat):Nat->List PV->List (List PV)
 | 0,_=>[]
 | n+1,l=>UN sz l::chunks sz n (Hl sz l)
def iV:St->Nat->Option lW
 | [],_=>none
 | (b,x)::l,c=>bif Nat.beq b c then x else iV l c
def nX:St->Nat->Option lW->St
 | [],b,x=>[(b,x)]
 | (b',y)::l,b,x=>bif Nat.beq b' b then(b',x)::l else(b',y)::nX l b x
def jr:List (Nat×Option lW)->St->St
 | [],s=>s
 | (b,x)::d,s=>jr d (nX s b x)
def Lr:Value->PV
 | .bool b=>.bool b
 | .int k n=>.int k n
 | .string s=>.str s
 | .pointer none=>.IY
 | .slice none 0 0=>.sl 0 [] true
 | .nilFunc=>.V5
 | _=>.top
def FZ:List Value->List PV
 | []=>[]
 | v::vs=>Lr v::FZ vs
def Yq:Value->PV
 | .agg cs=>.agg (FZ cs.toList)
 | v=>Lr v
def lX:PV->List PV
 | .agg cs=>cs
 | v=>[v]
def xR:PV->Bool
 | .agg _|.Ed _|.top|.undef=>false
 | _=>true
def iw:List PV->Bool
 | []=>true
 | v::vs=>xR v&&iw vs
def qp (E:Env):Option Nat->PV->Env
 | none,_=>E
 | some d,v=>{ E with tmps:=nV E.tmps d v }
def kY (P:Program)(t:TypeId):Bool :=
 match P.underlying t with
 | some (.struct _)|some (.array ..)=>true
 | _=>false
structure FI where
 off:Nat
 size:Nat
 agg:Bool
inductive TK where
 | oth
 | str
 | ptr
 | int (k:IntKind)
 | struct (fs:List FI)
 | arr (n sz:Nat) (agg:Bool)
 | slice (sz bytes:Nat) (zero:Option (List PV))
 | map (sz:Nat) (zero:List PV)
structure TI where
 ok:Bool
 agg:Bool
 size:Nat
 zero:Option (List PV)
 plain:Option (List Nat)
 kind:TK
def TI.bad:TI:={ ok:=false,agg:=false,size:=0,zero:=none,plain:=none,kind:=.oth }
structure Tab where
 ti:TypeId->TI
 gl:Nat->Option (List PV)
 qc:Nat
 cut:List Nat
 lN:Nat
 own:List (List (Nat×Bool))
 dcl:List (Nat×Nat)
 yl:Option (Nat×Loop×Value)
 hid:Nat->List (Nat×Nat)
instance:CoeFun Tab (λ_=>TypeId->TI):=⟨Tab.ti⟩
def sK (T:Tab)(tmps:List PV):Operand->PV
 | .tmp t=>ji tmps t
 | .const v=>Yq v
 | .func f=>.fn f []
 | .global g=>match T.gl g with|some cs=>.pp cs|none=>.top
def evO (T:Tab)(tmps:List PV):Option Operand->Option PV
 | none=>none
 | some x=>some (sK T tmps x)
def evA (T:Tab)(tmps:List PV):List Operand->List PV
 | []=>[]
 | x::l=>sK T tmps x::evA T tmps l
def lC:Nat->Bool
 | 0=>false
 | _+1=>true
def EL:PV->Option (IntKind×Int)
 | .int k n|.si k n=>some (k,n)
 | _=>none
def Yr:PV->Option Bool
 | .bool b|.sb b=>some b
 | _=>none
def I8:BinOp->Bool
 | .add|.sub|.mul|.and|.or|.xor|.andNot=>true
 | _=>false
def NF:BinOp->Bool
 | .eql|.neq|.lss|.leq|.gtr|.geq=>true
 | _=>false
def iM (op:BinOp)(k:IntKind)(a b:Int):Int :=
 match op with
 | .add=>k.wrap (a+b)
 | .sub=>k.wrap (a-b)
 | .mul=>k.wrap (a*b)
 | .and=>k.wrap ((BitVec.ofInt k.bits a &&& BitVec.ofInt k.bits b).toNat)
 | .or=>k.wrap ((BitVec.ofInt k.bits a ||| BitVec.ofInt k.bits b).toNat)
 | .xor=>k.wrap ((BitVec.ofInt k.bits a ^^^ BitVec.ofInt k.bits b).toNat)
 | .andNot=>k.wrap ((BitVec.ofInt k.bits a &&& ~~~(BitVec.ofInt k.bits b)).toNat)
 | _=>0
def AL (op:BinOp)(a b:Int):Bool :=
 match op with
 | .eql=>decide (a=b)
 | .neq=>!decide (a=b)
 | .lss=>decide (a<b)
 | .leq=>decide (a<=b)
 | .gtr=>decide (b<a)
 | .geq=>decide (b<=a)
 | _=>false
def gp (op:BinOp)(a b:ByteArray):Bool :=
 match op with
 | .eql=>decide (a=b)
 | .neq=>!decide (a=b)
 | .lss=>Op.bytesLess a.toList b.toList
 | .leq=>Op.bytesLess a.toList b.toList || decide (a=b)
 | .gtr=>!(Op.bytesLess a.toList b.toList || decide (a=b))
 | .geq=>!Op.bytesLess a.toList b.toList
 | _=>false
def uH:IntKind->IntKind->Bool
 | .i8,.i8|.i16,.i16|.i32,.i32|.i64,.i64|.u8,.u8|.u16,.u16|.u32,.u32|.u64,.u64=>true
 | _,_=>false
def eqC (S:iq):Nat->PV->PV->Option Bool
 | 0,x,y=>match EL x,EL y with
  | some (k,a),some (k',b)=>bif uH k k' then some (S.cmp .eql a b) else none
  | _,_=>none
 | 1,x,y=>match Yr x,Yr y with
  | some a,some b=>some (S.beq a b)
  | _,_=>none
 | 2,.str a,.str b=>some (S.ajb .eql a b)
 | _,_,_=>none
def acV (S:iq):List Nat->List PV->List PV->Option Bool
 | [],[],[]=>some true
 | k::ks,x::xs,y::ys=>
  match eqC S k x y with
  | none=>none
  | some a=>match acV S ks xs ys with
   | none=>none
   | some b=>some (S.band a b)
 | _,_,_=>none
def acW:Nat->List Nat->List Nat
 | 0,_=>[]
 | n+1,l=>l++acW n l
def OX (P:Program)(rec:TypeId->Option (List Nat)):List Field->Nat->Option (List Nat)
 | [],_=>some []
 | f :: fs, n=> if f.offset = n ∧ f.name ≠ "_" ∧ P.info? f.type ≠ none then
   match rec f.type with
   | some s=>if P.cellsOf f.type=s.length/\0<s.length then
     match OX P rec fs (n+s.length) with
     | some r=>some (s++r)
     | none=>none
    else none
   | none=>none
  else none
def xU (P:Program):Nat->TypeId->Option (List Nat)
 | 0,_=>none
 | d+1,t=>
  match P.underlying t with
  | some .bool=>some [1]
  | some (.int _)=>some [0]
  | some .string=>some [2]
  | some (.struct fs)=>if P.stoodInHeld t then none else OX P (xU P d) fs.toList 0
  | some (.array n e)=>match xU P d e with
   | some s=>if P.cellsOf e=s.length/\P.info? e≠none then some (acW n s) else none
   | none=>none
  | _=>none
def isSpec:BinOp->Bool
 | .shl|.shr|.quo|.rem=>true
 | _=>false
def UO:BinOp->Bool
 | .eql=>true
 | _=>false
def UQ:BinOp->Bool
 | .neq=>true
 | _=>false
def isAdd:BinOp->Bool
 | .add=>true
 | _=>false
def XW (S:iq)(op:BinOp)(k:IntKind)(a:Int)(k' : IntKind)(b:Int)(K:PV->Prop):Prop :=
 match op with
 | .shl|.shr=>S.shf op k a b λn=>K (.si k n)
 | .quo|.rem=>bif uH k k' then S.div op k a b λn=>K (.si k n) else False
 | _=>False
def TB:PV->Bool
 | .lv _ _|.lp _ _ _|.pp _|.np _ _ _ _ _ _ _=>true
 | _=>false
def JL:PV->Bool
 | .IY=>true
 | _=>false
def eqK (S:iq)(op:BinOp)(b:Bool)(K:PV->Prop):Prop := bif UO op then K (.sb b) else bif UQ op then K (.sb (S.beq b false)) else False
def eqL (op:BinOp)(b:Bool)(K:PV->Prop):Prop := bif UO op then K (.bool b) else bif UQ op then(match b with|true=>K (.bool false)|false=>K (.bool true)) else False
def agA (T:Tab)(S:iq)(op:BinOp)(t:TypeId)(x y:PV)(K:PV->Prop):Prop :=
 match x,y with
 | .int k a,.int k' b=>
  bif isSpec op then XW S op k a k' b K
  else bif uH k k' then(bif I8 op then K (.int k (iM op k a b)) else bif NF op then K (.bool (AL op a b)) else False) else False
 | .str a,.str b=>
  bif isAdd op then S.agz a b λc=>K (.str c)
  else bif NF op then K (.sb (S.ajb op a b)) else False
 | .agg xs,.agg ys=>
  match T t with
  | { ok:=true,agg:=true,plain:=some ks,.. }=>(match acV S ks xs ys with
   | some b=>eqK S op b K
   | _=>False)
  | _=>False
 | x,y=>
  match EL x,EL y with
  | some (k,a),some (k',b)=>
   bif isSpec op then XW S op k a k' b K
   else bif uH k k' then(bif I8 op then K (.si k (S.bin op k a b)) else bif NF op then K (.sb (S.cmp op a b)) else False) else False
  | _,_=>
   match Yr x,Yr y with
   | some a,some b=>(match T t with
    | { ok:=true,agg:=false,plain:=some [1],.. }=>eqK S op (S.beq a b) K
    | _=>False)
   | _,_=>
    match T t with
    | { ok:=true,kind:=.ptr,.. }=>
     bif JL x&&JL y then eqL op true K
     else bif (JL x&&TB y) || (TB x&&JL y) then eqL op false K
     else False
    | _=>False
def Ku (place:Nat->Option (Nat×Nat)):List PV->List (Nat×PV)->Option (List PV)
 | cells,[]=>some cells
 | cells,(i,v)::rest=>
  match place i with
  | none=>none
  | some (off,size)=>
   bif Nat.beq (oq (lX v)) size&&Nat.ble (off+size) (oq cells) then Ku place (mO cells off (lX v)) rest else none
def evP (T:Tab)(tmps:List PV):List (Nat×Operand)->List (Nat×PV)
 | []=>[]
 | (i,x)::l=>(i,sK T tmps x)::evP T tmps l
def FU:List (Nat×PV)->Bool
 | []=>true
 | (_,.top)::_=>false
 | _::l=>FU l
def I9 (P:Program)(t:TypeId):Option (List PV) :=
 match P.info? t with
 | some i=>match i.zero with
  | some z=>some (lX (Yq z))
  | none=>none
 | none=>none
def Qh:Nat->List PV->List PV
 | 0,_=>[]
 | n+1,l=>vY l (Qh n l)
def Ja:List FI->Nat->Option FI
 | [],_=>none
 | f::_,0=>some f
 | _::l,n+1=>Ja l n
def V8 (fs:List FI)(i:Nat):Option (Nat×Nat) :=
 match Ja fs i with
 | some f=>some (f.off,f.size)
 | none=>none
def ZA (P:Program)(t:TypeId):Option (List PV) :=
 match P.info? t with
 | some i=>match i.zero with
  | some (.agg cs)=>some (FZ cs.toList)
  | _=>none
 | none=>none
def QY (P:Program)(k e:TypeId):TK :=
 match P.underlying k,ZA P e with
 | some (.int .i64),some z=>.map (P.cellsOf e) z
 | _,_=>.oth
def agB (P:Program)(t:TypeId):TI :=
 match P.info? t,P.underlying t with
 | some i,some d=>
  { ok:=true,agg:=kY P t,size:=i.size,zero:=I9 P t,plain:=if P.eqGuardType P.depth t then none else xU P 20 t,kind:=match d with
    | .struct fs=>.struct (fs.toList.map λf=>{ off:=f.offset,size:=P.cellsOf f.type,agg:=kY P f.type })
    | .array n e=>.arr n (P.cellsOf e) (kY P e)
    | .slice e=>.slice (P.cellsOf e) (P.bytesOf e) (I9 P e)
    | .int k=>.int k
    | .string=>.str
    | .pointer _=>.ptr
    | .map k e=>QY P k e
    | _=>.oth }
 | _,_=>.bad
def iZ (P:Program)(T:Tab):Prop:=∀ t,(T t).ok=true->T t=agB P t/\t<P.types.size
abbrev Dl:=List (Nat×Option lW)
def rowsOf (S:iq)(esz:Nat)(lk:Nat->Option lW):PV->Option (List (List PV))
 | .sl sz es _=>bif Nat.beq sz esz then some es else(match es with|[]=>some []|_::_=>none)
 | .os b r n=>match lk b with
  | some (.arr _ sz rows)=>bif Nat.beq sz esz then some (S.sub rows r n) else none
  | _=>none
 | _=>none
def loadRow (agg:Bool)(size:Nat)(row:List PV)(c:Nat)(K:PV->Prop):Prop := bif agg then(bif Nat.ble (c+size) (oq row) then K (.agg (UN size (Hl c row))) else False) else(bif Nat.blt c (oq row) then K (ji row c) else False)
def oI (size:Nat)(row:List PV)(c:Nat)(v:PV)(K:List PV->Prop):Prop := bif iw (lX v)&&Nat.beq (oq (lX v)) size&&Nat.ble (c+oq (lX v)) (oq row) then K (mO row c (lX v)) else False
def pur (S:iq)(lk:Nat->Option lW):List PV->Option (List PV×Dl)
 | []=>some ([],[])
 | v::vs=>match pur S lk vs with
  | none=>none
  | some (vs',δ)=>match v with
   | .os b r n=>(match lk b with
    | some (.arr _ sz rows)=>some (.sl sz (S.sub rows r n) false::vs',(b,some (.arr true sz rows))::δ)
    | _=>none)
   | .lv _ _|.lp _ _ _|.fn _ (_::_)|.agg _|.Ed _|.top|.undef|.ow _ _ _|.bo _ _ _ _ _ _|.np _ _ _ _ _ _ _|.mp _|.yl _|.hc=>none
   | v=>some (v::vs',δ)
def akv (_:Nat):Option lW:=none
def UR:List PV->Bool
 | []=>false
 | .sl _ _ _::_=>true
 | _::l=>UR l
def agC (lN:Nat)(esz:Nat)(z:List PV)(rows:List (List PV)):lW :=
 match lN with
 | 0=>.arr false esz rows
 | _+1=>(match UR z with
  | true=>.lN esz rows
  | false=>.arr false esz rows)
def hd0:Hdr:=⟨0,0,0⟩
def owC (n:Nat)(v:PV):PV :=
 match v with
 | .sl _ es f=>(match f with
  | true=>(match es with
   | []=>.ow hd0 n []
   | _::_=>v)
  | false=>v)
 | v=>v
def owZ (n:Nat):List PV->List PV
 | []=>[]
 | v::l=>owC n v::owZ n l
def akZ (S:iq)(b r c:Nat):PV->PV
 | .ow h sz es=>.bo b r c h sz (S.fE es)
 | v=>v
def agD (S:iq)(b r:Nat):Nat->List PV->List PV
 | _,[]=>[]
 | c,v::l=>akZ S b r c v::agD S b r (c+1) l
def abr (b:Nat):Dl->Bool
 | []=>false
 | (c,_)::l=>Nat.beq c b || abr b l
def V9:List PV->Bool
 | []=>false
 | v::vs=>match v with
  | .int _ _=>true
  | .bool _=>true
  | .sl _ es f=>(match f with
   | true=>(match es with
    | []=>true
    | _::_=>V9 vs)
   | false=>V9 vs)
  | _=>V9 vs
def wkC (S:iq)(cs:List PV)(K:List PV->Prop):Prop :=
 match V9 cs with
 | true=>S.wk cs K
 | false=>K cs
def wkN (S:iq)(lN:Nat)(cs:List PV)(K:List PV->Prop):Prop :=
 match lN with
 | 0=>wkC S cs K
 | n+1=>(match UR cs with
  | true=>K (owZ n cs)
  | false=>wkC S cs K)
def acX:Operand->Bool
 | .const (.slice none 0 0)=>true
 | _=>false
def oH (T:Tab)(S:iq)(o:Op)(tmps:List PV)(lk:Nat->Option lW)(id:Nat)(K:PV->Dl->Prop):Prop :=
 match o with
 | .move x|.assign x=>K (sK T tmps x) []
 | .pick c a b=>
  match sK T tmps c with
  | .bool true=>K (sK T tmps a) []
  | .bool false=>K (sK T tmps b) []
  | _=>False
 | .alloc t=>
  match T t with
  | { ok:=true,zero:=some z,.. }=>K (.lv id 0) [(id,some (.var false z))]
  | _=>False
 | .box _ x=>
  match sK T tmps x with
  | .top=>False
  | v=>K (.lv id 0) [(id,some (.var false (lX v)))]
 | .fieldAddr t x f=>
  match T t with
  | { ok:=true,kind:=.struct fs,.. }=>(match Ja fs f with
   | some fd=>bif lC fd.size then(match sK T tmps x with
    | .lv b c=>K (.lv b (c+fd.off)) []
    | .lp b r c=>K (.lp b r (c+fd.off)) []
    | .np b r c h sz j k=>K (.np b r c h sz j (k+fd.off)) []
    | .pp cs=>bif Nat.ble fd.off (oq cs) then K (.pp (Hl fd.off cs)) [] else False
    | _=>False) else False
   | none=>False)
  | _=>False
 | .field t x f=>
  match T t with
  | { ok:=true,kind:=.struct fs,.. }=>(match Ja fs f with
   | some fd=>(match sK T tmps x with
    | .agg cs=>bif lC fd.size then loadRow fd.agg fd.size cs fd.off (λv=>K v []) else False
    | _=>False)
   | none=>False)
  | _=>False
 | .load t x=>
  match T t with
  | { ok:=true,agg,size,.. }=>(match sK T tmps x with
   | .lv b c=>(match lk b with
    | some (.var _ row)=>loadRow agg size row c λv=>K v []
    | _=>False)
   | .lp b r c=>(match lk b with
    | some (.arr _ _ rows)=>S.row rows r λrow=>loadRow agg size row c λv=>K v []
    | some (.lN _ rows)=>S.row rows r λrow=>loadRow agg size (agD S b r 0 row) c λv=>K v []
    | some (.nor _ _ r0 row)=>S.same ⟨r,0,0⟩ ⟨r0,0,0⟩ (loadRow agg size row c λv=>K v [])
    | _=>False)
   | .np b r c h sz j k=>(match lk b with
    | some (.lN _ rows)=>S.row rows r λrow=>(match ji row c with
     | .ow h' sz' es=>bif Nat.beq sz' sz then S.same h h' (S.row es j λer=>loadRow agg size er k λv=>K v []) else False
     | _=>False)
    | _=>False)
   | .pp cs=>loadRow agg size cs 0 λv=>K v []
   | _=>False)
  | _=>False
 | .store t x y=>
  match T t with
  | { ok:=true,size,.. }=>(match sK T tmps x with
   | .lv b c=>(match lk b with
    | some (.var false row)=>oI size row c (sK T tmps y) λrow'=>K .undef [(b,some (.var false row'))]
    | _=>False)
   | .lp b r c=>(match lk b with
    | some (.arr false sz rows)=>(match pur S lk (lX (sK T tmps y)) with
     | some (cs,δ)=>bif abr b δ then False else wkC S cs λcs=>S.row rows r λrow=>oI size row c (.agg cs) λrow'=>K .undef (δ++[(b,some (.arr false sz (S.Hg rows r row')))])
     | none=>False)
    | some (.lN sz rows)=>(match sK T tmps y with
     | .os id r0 n=>(match lk id with
      | some (.arr false sz' rows')=>bif Nat.beq size 1&&Nat.beq id b then False else S.row rows r λrow=>S.nu λh=>
        oI size row c (.ow h sz' (S.sub rows' r0 n)) λrow'=>K .undef [(id,none),(b,some (.lN sz (S.Hg rows r row')))]
      | _=>False)
     | y=>(match pur S lk (lX y) with
      | some (cs,[])=>S.row rows r λrow=>oI size row c (.agg cs) λrow'=>K .undef [(b,some (.lN sz (S.Hg rows r row')))]
      | _=>False))
    | some (.nor sz rows r0 row)=>S.same ⟨r,0,0⟩ ⟨r0,0,0⟩ (oI size row c (sK T tmps y) λrow'=>K .undef [(b,some (.nor sz rows r0 row'))])
    | _=>False)
   | .np b r c h sz j k=>(match lk b with
    | some (.lN sz0 rows)=>(match pur S akv (lX (sK T tmps y)) with
     | some (cs,[])=>wkC S cs λcs=>S.row rows r λrow=>(match ji row c with
      | .ow h' sz' es=>bif Nat.beq sz' sz then S.same h h' (S.row es j λer=>oI size er k (.agg cs) λer' =>
        K .undef [(b,some (.lN sz0 (S.Hg rows r (nV row c (.ow h' sz' (S.Hg es j er'))))))]) else False
      | _=>False)
     | _=>False)
    | _=>False)
   | _=>False)
  | _=>False
 | .nilCheck x=>
  match sK T tmps x with
  | .lv b c=>K (.lv b c) []
  | .lp b r c=>K (.lp b r c) []
  | .pp cs=>K (.pp cs) []
  | .np b r c h sz j k=>K (.np b r c h sz j k) []
  | .fn f cs=>K (.fn f cs) []
  | _=>False
 | .binOp op t x y _=>
  match acX y with
  | true=>(match T t with
   | { ok:=true,kind:=.slice _ _ _,.. }=>(match sK T tmps x with
    | .sl _ es _=>S.V7 es λb=>eqL op b λv=>K v []
    | .os b r n=>(match lk b with
     | some (.arr _ _ rows)=>S.V7 (S.sub rows r n) λb=>eqL op b λv=>K v []
     | _=>False)
    | _=>False)
   | _=>False)
  | false=>(match T t with
   | { ok:=true,.. }=>agA T S op t (sK T tmps x) (sK T tmps y) λv=>K v []
   | _=>False)
 | .unOp .not _ x=>
  match sK T tmps x with
  | .bool true=>K (.bool false) []
  | .bool false=>K (.bool true) []
  | .sb b=>K (.sb (S.beq b false)) []
  | _=>False
 | .unOp .neg _ x=>
  match sK T tmps x with
  | .int k n=>K (.int k (k.wrap (0-n))) []
  | .si k n=>K (.si k (S.neg k n)) []
  | _=>False
 | .convert s d x=>
  match T s,T d with
  | { ok:=true,kind:=.slice _ _ _,.. },{ ok:=true,kind:=.str,.. }=>(match rowsOf S 1 lk (sK T tmps x) with
   | some rows=>S.toS s rows λb=>K (.str b) []
   | none=>False)
  | { ok:=true,kind:=.str,.. },{ ok:=true,kind:=.slice _ _ _,.. }=>(match sK T tmps x with
   | .str b=>S.toB d b λrows=>K (.sl 1 rows false) []
   | _=>False)
  | { ok:=true,.. },{ ok:=true,kind:=.int k,.. }=>(match sK T tmps x with
   | .int _ n=>K (.int k (k.wrap n)) []
   | .si _ n=>K (.si k (S.conv k n)) []
   | _=>False)
  | _,_=>False
 | .indexAddr t x i=>
  match T t with
  | { ok:=true,kind:=.slice esz _ _,.. }=>
   (match sK T tmps x,EL (sK T tmps i) with
   | .sl sz es _,some (_,n)=>bif lC esz&&Nat.beq sz esz then S.idx es n λrow=>K (.pp row) [] else False
   | .os b r len,some (_,n)=>(match lk b with
    | some (.arr _ sz _)=>bif lC esz&&Nat.beq sz esz then S.ix len n λj=>K (.lp b (S.FY r j) 0) [] else False
    | some (.lN sz _)=>bif lC esz&&Nat.beq sz esz then S.ix len n λj=>K (.lp b (S.FY r j) 0) [] else False
    | some (.nor sz _ _ _)=>bif lC esz&&Nat.beq sz esz then S.ix len n λj=>K (.lp b (S.FY r j) 0) [] else False
    | _=>False)
   | .bo b r c h sz len,some (_,n)=>bif lC esz&&Nat.beq sz esz then S.ix len n λj=>K (.np b r c h sz j 0) [] else False
   | _,_=>False)
  | { ok:=true,kind:=.arr len esz _,.. }=>bif lC esz then
   (match sK T tmps i with
   | .int _ (.ofNat n)=>bif Nat.blt n len then(match sK T tmps x with
    | .lv b c=>K (.lv b (c+n*esz)) []
    | .lp b r c=>K (.lp b r (c+n*esz)) []
    | .pp cs=>bif Nat.ble (n*esz) (oq cs) then K (.pp (Hl (n*esz) cs)) [] else False
    | _=>False) else False
   | .si _ n=>S.ix len n λj=>(match sK T tmps x with
    | .lv b c=>K (.lv b (c+j*esz)) []
    | .lp b r c=>K (.lp b r (c+j*esz)) []
    | .pp cs=>bif Nat.ble (j*esz) (oq cs) then K (.pp (Hl (j*esz) cs)) [] else False
    | _=>False)
   | _=>False) else False
  | _=>False
 | .index t x i=>
  match T t,sK T tmps x,EL (sK T tmps i) with
  | { ok:=true,kind:=.str,.. },.str s,some (_,n)=>S.agy s n λc=>K (.si .u8 c) []
  | { ok:=true,kind:=.arr len esz agg,.. },.agg cs,some (_,n)=>bif lC esz then S.ix len n (λj=>loadRow agg esz cs (j*esz) λv=>K v []) else False
  | _,_,_=>False
 | .extract t i=>
  match sK T tmps t with
  | .Ed vs=>bif Nat.blt i (oq vs) then K (ji vs i) [] else False
  | _=>False
 | .build t parts=>
  match T t with
  | { ok:=true,zero:=some z,kind:=.struct fs,.. }=>
   bif FU (evP T tmps parts.toList) then(match Ku (V8 fs) z (evP T tmps parts.toList) with
    | some cs=>K (.agg cs) []
    | none=>False) else False
  | { ok:=true,zero:=some z,kind:=.arr _ esz _,.. }=>
   bif FU (evP T tmps parts.toList) then(match Ku (λi=>some (i*esz,esz)) z (evP T tmps parts.toList) with
    | some cs=>K (.agg cs) []
    | none=>False) else False
  | _=>False
 | .buildSlice t len parts=>
  match T t with
  | { ok:=true,kind:=.slice esz _ (some z),.. }=>
    bif lC esz&&Nat.beq (oq z) esz&&Nat.ble (len*esz) 16777216&&FU (evP T tmps parts.toList) then
     (match Ku (λi=>some (i*esz,esz)) (Qh len z) (evP T tmps parts.toList) with
     | some cs=>(match pur S lk cs with
      | some (cs,δ)=>wkC S cs λcs=>K (.os id 0 len) (δ++[(id,some (.arr false esz (chunks esz len cs)))])
      | none=>False)
     | none=>False)
    else False
  | _=>False
 | .makeFunc (.func f) first captured=>
  match first.toList with
  | []=>K (.fn f (evA T tmps captured.toList)) []
  | _=>False
 | .makeSlice t l c=>
  match T t,EL (sK T tmps l),EL (sK T tmps c) with
  | { ok:=true,kind:=.slice esz bytes (some z),.. },some (_,n),some (_,m)=>
    bif lC esz&&Nat.beq (oq z) esz&&iw z then
     S.mks n m bytes λj=>wkN S T.lN z λz2=>K (.os id 0 j) [(id,some (agC T.lN esz z (S.rep j z2)))]
    else False
  | _,_,_=>False
 | .slice t x lo hi mx=>
  match T t,sK T tmps x,evO T tmps lo,evO T tmps hi,evO T tmps mx with
  | { ok:=true,kind:=.slice esz _ _,.. },.sl sz es full,l,h,none=>bif lC esz&&Nat.beq sz esz then
   (match h with
   | none=>match l with
    | none=>K (.sl sz es full) []
    | some lv=>match EL lv with
     | some (_,a)=>S.slc (S.fE es) a (S.len es) λi j=>K (.sl sz (S.sub es i (S.abq j i)) full) []
     | none=>False
   | some hv=>match EL hv with
    | some (_,b)=>match l with
     | none=>S.slc (S.fE es) 0 b λi j=>K (.sl sz (S.sub es i (S.abq j i)) false) []
     | some lv=>match EL lv with
      | some (_,a)=>S.slc (S.fE es) a b λi j=>K (.sl sz (S.sub es i (S.abq j i)) false) []
      | none=>False
    | none=>False) else False
  | { ok:=true,kind:=.slice esz _ _,.. },.os b r n,l,h,none=>
   (match lk b with
   | some (.arr _ sz _)=>bif lC esz&&Nat.beq sz esz then
    (match h with
    | none=>match l with
     | none=>K (.os b r n) []
     | some lv=>match EL lv with
      | some (_,a)=>S.slc n a (S.xQ n) λi j=>K (.os b (S.FY r i) (S.abq j i)) []
      | none=>False
    | some hv=>match EL hv with
     | some (_,c)=>match l with
      | none=>S.slc n 0 c λi j=>K (.os b (S.FY r i) (S.abq j i)) []
      | some lv=>match EL lv with
       | some (_,a)=>S.slc n a c λi j=>K (.os b (S.FY r i) (S.abq j i)) []
       | none=>False
     | none=>False) else False
   | _=>False)
  | { ok:=true,kind:=.slice esz _ _,.. },.sl _ _ _,none,some (.int _ 0),some (.int _ 0)=>bif lC esz then K (.sl esz [] true) [] else False
  | { ok:=true,kind:=.slice esz _ _,.. },.os _ _ _,none,some (.int _ 0),some (.int _ 0)=>bif lC esz then K (.sl esz [] true) [] else False
  | { ok:=true,kind:=.str,.. },.str s,l,h,none=>
   (match l with
   | none=>match h with
    | none=>K (.str s) []
    | some hv=>match EL hv with
     | some (_,b)=>S.acU s 0 b λs'=>K (.str s') []
     | none=>False
   | some lv=>match EL lv with
    | some (_,a)=>match h with
     | none=>S.acU s a (S.slen s) λs'=>K (.str s') []
     | some hv=>match EL hv with
      | some (_,b)=>S.acU s a b λs'=>K (.str s') []
      | none=>False
    | none=>False)
  | { ok:=true,kind:=.arr n esz _,.. },.lv b c,none,none,none=>
   (match lk b with
   | some (.var _ row)=>bif lC esz&&Nat.ble (c+n*esz) (oq row) then
     (match pur S (λ_=>none) row with
     | some _=>K (.sl esz (chunks esz n (Hl c row)) true) [(b,some (.var true row))]
     | none=>False) else False
   | _=>False)
  | { ok:=true,kind:=.arr n esz _,.. },.pp cs,none,none,none=>
   bif lC esz&&iw cs&&Nat.ble (n*esz) (oq cs) then K (.sl esz (chunks esz n cs) true) [] else False
  | _,_,_,_,_=>False
 | .call { callee:=.builtin b,args,argTypes }=>
  match b,evA T tmps args.toList,argTypes.toList with
  | .len,[.str s],[t]=>(match T t with|{ ok:=true,kind:=.str,.. }=>K (.si .i64 (S.slen s)) []|_=>False)
  | .len,[.sl _ es _],[t]=>(match T t with|{ ok:=true,kind:=.slice _ _ _,.. }=>K (.si .i64 (S.len es)) []|_=>False)
  | .len,[.bo _ _ _ _ _ n],[t]=>(match T t with|{ ok:=true,kind:=.slice _ _ _,.. }=>K (.si .i64 (S.xQ n)) []|_=>False)
  | .len,[.os _ _ n],[t]=>(match T t with|{ ok:=true,kind:=.slice _ _ _,.. }=>K (.si .i64 (S.xQ n)) []|_=>False)
  | .min,[x,y],_=>(match x,y with
   | .int k a,.int k' b=>bif uH k k' then K (.int k (if b<a then b else a)) [] else False
   | x,y=>match EL x,EL y with
    | some (k,a),some (k',b)=>bif uH k k' then K (.si k (S.akV a b)) [] else False
    | _,_=>False)
  | .max,[x,y],_=>(match x,y with
   | .int k a,.int k' b=>bif uH k k' then K (.int k (if a<b then b else a)) [] else False
   | x,y=>match EL x,EL y with
    | some (k,a),some (k',b)=>bif uH k k' then K (.si k (S.akW a b)) [] else False
    | _,_=>False)
  | .append,[s,x],t::u::_=>
   (match T t,T u with
   | { ok:=true,kind:=.slice esz bytes (some z),.. },{ ok:=true,kind:=.slice _ _ _,.. }=>
    bif lC esz&&Nat.beq (oq z) esz then
     (match s,rowsOf S esz lk x with
     | .sl _ [] true,some new=>
      S.room (S.fE new) bytes (K (.os id 0 (S.fE new)) [(id,some (.arr false esz new))])
     | .os b r n,some new=>(match lk b with
      | some (.arr false sz rows)=>bif Nat.beq sz esz then
        S.room (S.FY n (S.fE new)) bytes (K (.os id 0 (S.FY n (S.fE new))) [(b,none),(id,some (.arr false sz (S.app (S.sub rows r n) new)))])
       else False
      | _=>False)
     | .bo b r c h sz m,some new=>(match lk b with
      | some (.lN sz0 rows)=>bif Nat.beq sz esz then
        S.row rows r λrow=>(match ji row c with
        | .ow h' sz' es=>bif Nat.beq sz' sz&&(bif Nat.beq b id then false else true) then
          S.same h h' (S.same ⟨m,0,0⟩ ⟨S.fE es,0,0⟩ (S.room (S.FY m (S.fE new)) bytes
           (K (.os id 0 (S.FY m (S.fE new))) [(b,some (.lN sz0 (S.Hg rows r (nV row c (.bo b r c h sz m))))),(id,some (.arr false sz (S.app es new)))]))) else False
        | _=>False)
       else False
      | _=>False)
     | _,_=>False) else False
   | _,_=>False)
  | .clear,[.os b r n],t::_=>
   (match T t with
   | { ok:=true,kind:=.slice esz _ (some z),.. }=>
    (match lk b with
    | some (.arr false sz rows)=>bif Nat.beq sz esz&&Nat.beq (oq z) sz&&lC sz&&iw z then
      wkC S z λz2=>K (.Ed []) [(b,some (.arr false sz (S.spl rows r (S.rep n z2))))] else False
    | _=>False)
   | _=>False)
  | _,_,_=>False
 | _=>False
def Ny (f:PV->Option PV):List PV->Option (List PV)
 | []=>some []
 | c::cs=>match f c with
  | none=>none
  | some c=>match Ny f cs with
   | none=>none
   | some cs=>some (c::cs)
def afv (p:PV):PV :=
 match xR p with
 | true=>.hc
 | false=>.top
def ajd (c:Nat):PV->PV
 | .agg cs=>.agg (nV cs c (afv (ji cs c)))
 | .pp cs=>.pp (nV cs c (afv (ji cs c)))
 | v=>v
def Hm:List (Nat×Nat)->List PV->List PV
 | [],as=>as
 | (i,c)::l,as=>Hm l (nV as i (ajd c (ji as i)))
def frz (S:iq)(lk:Nat->Option lW):Nat->PV->Option PV
 | 0,_=>none
 | d+1,v=>
  match v with
  | .bool b=>some (.sb b)
  | .sb b=>some (.sb b)
  | .int k n=>some (.si k n)
  | .si k n=>some (.si k n)
  | .str s=>some (.str s)
  | .IY=>some .IY
  | .V5=>some .V5
  | .top=>some .top
  | .hc=>some .hc
  | .sl sz es _=>some (.sl sz es false)
  | .pp cs=>some (.pp cs)
  | .agg cs=>match Ny (frz S lk d) cs with|some cs=>some (.agg cs)|none=>none
  | .Ed cs=>match Ny (frz S lk d) cs with|some cs=>some (.Ed cs)|none=>none
  | .fn f cs=>match Ny (frz S lk d) cs with|some cs=>some (.fn f cs)|none=>none
  | .lv b c=>match lk b with
   | some (.var _ row)=>match Ny (frz S lk d) (Hl c row) with|some cs=>some (.pp cs)|none=>none
   | _=>none
  | .os b r n=>match lk b with
   | some (.arr _ sz rows)=>some (.sl sz (S.sub rows r n) false)
   | some (.lN sz rows)=>some (.sl sz (S.fz (S.sub rows r n)) false)
   | _=>none
  | _=>none
def gd (S:iq)(all:Array Oper)(g:Option (Nat×Bool))(E:Env)(run skip:Env->Prop):Prop :=
 match g with
 | none=>run E
 | some (j,want)=>
  match all[j]? with
  | some o=>match o.dst with
   | some d=>match ji E.tmps d with
    | .bool true=>(match want with|true=>run E|false=>skip E)
    | .bool false=>(match want with|true=>skip E|false=>run E)
    | .sb b=>S.br b
      (λ_=>match want with|true=>run (qp E (some d) (.bool true))|false=>skip (qp E (some d) (.bool true)))
      (λ_=>match want with|true=>skip (qp E (some d) (.bool false))|false=>run (qp E (some d) (.bool false)))
    | .undef=>skip E
    | _=>False
   | none=>False
  | none=>False
def UT:Dl->Nat->Nat
 | [],n=>n
 | _::_,n=>n+1
def abt (f:PV->Bool):List PV->Bool
 | []=>true
 | c::cs=>f c&&abt f cs
def Kv:Nat->PV->Bool
 | 0,_=>false
 | d+1,v=>
  match v with
  | .bool _|.sb _|.int _ _|.si _ _|.str _|.IY|.V5=>true
  | .agg cs=>abt (Kv d) cs
  | .Ed cs=>abt (Kv d) cs
  | _=>false
def zn:List Nat->Nat->Bool
 | [],_=>false
 | b::l,c=>bif Nat.beq b c then true else zn l c
def zK:List Nat->Nat->Option Nat
 | [],_=>none
 | b::l,c=>bif Nat.beq b c then some 0 else match zK l c with|some i=>some (i+1)|none=>none
def agE:List Nat->List Nat->List Nat
 | [],m=>m
 | b::l,m=>b::agE l m
def DC:List Nat->Nat->List Nat
 | [],c=>[c]
 | b::l,c=>b::DC l c
def NG:List Nat->Bool
 | []=>true
 | b::l=>bif zn l b then false else NG l
def ltN (n:Nat):List Nat->Bool
 | []=>true
 | b::l=>Nat.blt b n&&ltN n l
def lH:List Nat->Nat
 | []=>0
 | _::l=>lH l+1
def Yt:List Nat->Nat->Option Nat
 | [],_=>none
 | b::_,0=>some b
 | _::l,n+1=>Yt l n
def upN:Nat->Nat->List Nat
 | _,0=>[]
 | i,n+1=>i::upN (i+1) n
def BG (f:List Nat->PV->List Nat):List Nat->List PV->List Nat
 | acc,[]=>acc
 | acc,v::vs=>BG f (f acc v) vs
def BA (f:PV->PV):List PV->List PV
 | []=>[]
 | v::vs=>f v::BA f vs
def Fb (st:St):Nat->List Nat->PV->List Nat
 | 0,acc,_=>acc
 | d+1,acc,v=>match v with
  | .os b _ _=>bif zn acc b then acc else match iV st b with
   | some (.nor _ _ _ row)=>BG (Fb st d) (DC acc b) row
   | _=>DC acc b
  | .lp b _ _=>bif zn acc b then acc else match iV st b with
   | some (.nor _ _ _ row)=>BG (Fb st d) (DC acc b) row
   | _=>DC acc b
  | .bo b _ _ _ _ _=>bif zn acc b then acc else DC acc b
  | .np b _ _ _ _ _ _=>bif zn acc b then acc else DC acc b
  | .mp b=>bif zn acc b then acc else DC acc b
  | .lv b _=>bif zn acc b then acc else match iV st b with
   | some (.var _ row)=>BG (Fb st d) (DC acc b) row
   | _=>DC acc b
  | .agg cs=>BG (Fb st d) acc cs
  | .Ed cs=>BG (Fb st d) acc cs
  | .fn _ cs=>BG (Fb st d) acc cs
  | _=>acc
def wz (f:Nat->Option Nat):Nat->PV->PV
 | 0,_=>.top
 | d+1,v=>match v with
  | .os b r n=>match f b with|some i=>.os i r n|none=>.top
  | .lp b r c=>match f b with|some i=>.lp i r c|none=>.top
  | .lv b c=>match f b with|some i=>.lv i c|none=>.top
  | .agg cs=>.agg (BA (wz f d) cs)
  | .Ed cs=>.Ed (BA (wz f d) cs)
  | .fn k cs=>.fn k (BA (wz f d) cs)
  | .bo b r c h sz n=>match f b with|some i=>.bo i r c h sz n|none=>.top
  | .np b r c h sz j k=>match f b with|some i=>.np i r c h sz j k|none=>.top
  | .mp b=>match f b with|some i=>.mp i|none=>.top
  | v=>v
def Ho (f:Nat->Option Nat):Option lW->Option lW
 | some (.var ro row)=>some (.var ro (BA (wz f 8) row))
 | some (.nor sz rows r row)=>some (.nor sz rows r (BA (wz f 8) row))
 | x=>x
def zq (f:Nat->Option Nat)(st:St):Nat->List Nat->St
 | _,[]=>[]
 | i,b::l=>(i,Ho f (iV st b))::zq f st (i+1) l
def PY:List Nat->Nat->List PV->List PV
 | _,_,[]=>[]
 | [],i,_::l=>.top::PY [] (i+1) l
 | k::ks,i,x::l=>bif Nat.beq k i then x::PY ks (i+1) l else .top::PY (k::ks) (i+1) l
def UU (st:St):List Nat->List Nat->List Nat
 | acc,[]=>acc
 | acc,b::l=>match iV st b with
  | some (.var _ row)=>UU st (BG (Fb st 8) acc row) l
  | some (.nor _ _ _ row)=>UU st (BG (Fb st 8) acc row) l
  | _=>UU st acc l
def UW (m:Nat)(st:St)(vs:List PV):List Nat:=BG (Fb st 8) (UU st (upN 0 m) (upN 0 m)) vs
def abu (ρ:List Nat)(ts:List PV)(st:St):Env:=⟨BA (wz (zK ρ) 8) ts,zq (zK ρ) st 0 ρ,lH ρ⟩
def IZ (m:Nat)(keep:List Nat)(E:Env):Env := match PY keep 0 E.tmps with | ts=>abu (UW m E.st ts) ts E.st
def Jb (args:List PV)(st:St):List Nat:=BG (Fb st 8) [] args
def Dx (ρ:List Nat)(next:Nat)(i:Nat):Option Nat :=
 match Yt ρ i with
 | some b=>some b
 | none=>some (next+(i-lH ρ))
def abv (f:Nat->Option Nat)(st1:St):Nat->List Nat->St->St
 | _,[],st=>st
 | i,b::l,st=>abv f st1 (i+1) l (nX st b (Ho f (iV st1 i)))
def F5 (ρ:List Nat)(E:Env)(st1:St)(n1:Nat):Env := ⟨E.tmps,abv (Dx ρ E.next) st1 0 (agE ρ (upN E.next (n1-lH ρ))) E.st,E.next+(n1-lH ρ)⟩
def acY (st:St)(b:Nat):Option lW :=
 match iV st b with
 | some (.var true row)=>some (.var true row)
 | some (.arr true sz rows)=>some (.arr true sz rows)
 | _=>none
def roS (st:St):List Nat->St
 | []=>st
 | b::l=>match iV st b with
  | some (.var _ row)=>roS (nX st b (some (.var true row))) l
  | some (.arr _ sz rows)=>roS (nX st b (some (.arr true sz rows))) l
  | _=>roS st l
def lF:St->Bool
 | []=>true
 | (_,some (.lN _ _))::_=>false
 | (_,some (.nor _ _ _ _))::_=>false
 | _::l=>lF l
def We (S:iq)(k:Nat)(args:List PV)(E:Env)(K:PV->Env->Prop):Prop :=
 match Ny (frz S (acY E.st) 6) args with
 | some as=>S.UM k args as (BA (wz (zK []) 8) as) E K
 | none=>match Jb args E.st with
  | ρ=>S.call k args E (Ny (frz S (iV E.st) 6) args) (Ny (frz S (acY (roS E.st ρ)) 6) args) ρ (BA (wz (zK ρ) 8) args) (zq (zK ρ) E.st 0 ρ) K
def agF (S:iq)(k:Nat)(args:List PV)(lk:Nat->Option lW)(K:PV->Prop):Prop :=
 match Ny (frz S (λb=>match lk b with|some (.var true row)=>some (.var true row)|some (.arr true sz rows)=>some (.arr true sz rows)|_=>none) 6) args with
 | some as=>S.V6 k as K
 | none=>match Ny (frz S lk 6) args with
  | some as=>S.Yo k as K
  | none=>False
def amn (T:Tab)(t:TypeId):Bool :=
 match T t with
 | { ok:=true,kind:=.slice _ _ (some z),.. }=>UR z
 | _=>false
def agG:List PV->Bool
 | []=>false
 | .sl _ [] true::_=>true
 | _::l=>agG l
def ak0 (T:Tab)(S:iq)(t:TypeId)(len:Nat)(parts:Array (Nat×Operand))(tmps:List PV)(lk:Nat->Option lW)(id:Nat)(K:PV->Dl->Prop):Prop :=
 match T t with
 | { ok:=true,kind:=.slice esz _ (some z),.. }=>
  bif lC esz&&Nat.beq (oq z) esz&&Nat.ble (len*esz) 16777216&&FU (evP T tmps parts.toList) then
   (match Ku (λi=>some (i*esz,esz)) (Qh len z) (evP T tmps parts.toList),len with
   | some [],0=>bif Nat.beq esz 1 then K (.os id 0 0) [(id,some (.lN 1 []))] else False
   | some [.os b r n],1=>bif Nat.beq esz 1 then(match lk b with
    | some (.arr false sz rows)=>bif Nat.beq b id then False else S.nu λh=>K (.os id 0 1) [(b,none),(id,some (.lN 1 [[.ow h sz (S.sub rows r n)]]))]
    | _=>False) else False
   | some cs,_=>(match T.lN,agG cs with
    | nn+1,true=>(match pur S akv cs with
     | some (cs',[])=>K (.os id 0 len) [(id,some (.lN esz (chunks esz len (owZ nn cs'))))]
     | _=>False)
    | _,_=>oH T S (.buildSlice t len parts) tmps lk id K)
   | none,_=>False)
  else False
 | _=>False
def ak1 (T:Tab)(S:iq)(t u:TypeId)(b r n c:Nat)(lk:Nat->Option lW)(id:Nat)(K:PV->Dl->Prop):Prop :=
 match T t,T u with
 | { ok:=true,kind:=.slice esz bytes (some z),.. },{ ok:=true,kind:=.slice _ _ _,.. }=>
  (match lk b,lk c with
  | some (.lN sz rows),some (.lN sz' [row])=>
   bif lC esz&&Nat.beq (oq z) esz&&Nat.beq sz esz&&Nat.beq sz' esz&&(bif Nat.beq b c then false else bif Nat.beq b id then false else bif Nat.beq c id then false else true) then
    S.room (S.FY n 1) bytes (K (.os id 0 (S.FY n 1)) [(b,none),(c,none),(id,some (.lN sz (S.app (S.sub rows r n) [row])))])
   else False
  | _,_=>False)
 | _,_=>False
def aet (T:Tab)(S:iq)(t:TypeId)(m k x:PV)(lk:Nat->Option lW)(K:PV->Dl->Prop):Prop :=
 match T t,m,EL k with
 | { ok:=true,kind:=.map sz _,.. },.mp b,some (.i64,n)=>(match lk b with
  | some (.map rows)=>(match x with
   | .agg xs=>(match pur S lk xs with
    | some (cs,δ)=>bif abr b δ then False else bif Nat.beq (oq cs) sz then wkC S cs λcs=>K .undef (δ++[(b,some (.map (S.ajc rows n cs)))]) else False
    | none=>False)
   | _=>False)
  | _=>False)
 | _,_,_=>False
def acZ (T:Tab)(S:iq)(t:TypeId)(m k:PV)(lk:Nat->Option lW)(K:PV->Dl->Prop):Prop :=
 match T t,m,EL k with
 | { ok:=true,kind:=.map _ z,.. },.mp b,some (.i64,n)=>(match lk b with
  | some (.map rows)=>S.akY rows n z λcs ok=>K (.Ed [.agg cs,.sb ok]) []
  | _=>False)
 | _,_,_=>False
def ac0 (T:Tab)(S:iq)(t:TypeId)(b:Nat)(lk:Nat->Option lW)(K:PV->Dl->Prop):Prop :=
 match T t with
 | { ok:=true,kind:=.map _ _,.. }=>(match lk b with
  | some (.map rows)=>K (.si .i64 (S.len rows)) []
  | _=>False)
 | _=>False
def ac1 (T:Tab)(t:TypeId)(id:Nat)(K:PV->Dl->Prop):Prop :=
 match T t with
 | { ok:=true,kind:=.map _ _,.. }=>K (.mp id) [(id,some (.map []))]
 | _=>False
def opN (T:Tab)(S:iq)(o:Op)(tmps:List PV)(lk:Nat->Option lW)(id:Nat)(K:PV->Dl->Prop):Prop :=
 match T.lN with
 | 0=>oH T S o tmps lk id K
 | _+1=>match o with
  | .makeMap t none=>ac1 T t id K
  | .mapUpdate t m k x=>aet T S t (sK T tmps m) (sK T tmps k) (sK T tmps x) lk K
  | .insert t m k x=>aet T S t (sK T tmps m) (sK T tmps k) (sK T tmps x) lk K
  | .lookup t m k true=>acZ T S t (sK T tmps m) (sK T tmps k) lk K
  | .call { callee:=.builtin .len,args,argTypes }=>(match evA T tmps args.toList,argTypes.toList with
   | [.mp b],[t]=>ac0 T S t b lk K
   | _,_=>oH T S (.call { callee:=.builtin .len,args,argTypes }) tmps lk id K)
  | .buildSlice t len parts=>(match amn T t with
   | true=>ak0 T S t len parts tmps lk id K
   | false=>oH T S (.buildSlice t len parts) tmps lk id K)
  | .call { callee:=.builtin .append,args,argTypes }=>(match evA T tmps args.toList,argTypes.toList with
   | [.os b r n,.os c 0 1],t::u::_=>(match amn T t,lk c with
    | true,some (.lN _ _)=>ak1 T S t u b r n c lk id K
    | _,_=>oH T S (.call { callee:=.builtin .append,args,argTypes }) tmps lk id K)
   | _,_=>oH T S (.call { callee:=.builtin .append,args,argTypes }) tmps lk id K)
  | o=>oH T S o tmps lk id K
def agH (T:Tab)(S:iq)(o:Oper)(E:Env)(K:Env->Prop):Prop :=
 match o.op with
 | .call { callee:=.value f,args,argTypes:=_ }=>
  match sK T E.tmps f with
  | .fn k caps=>We S k (Hm (T.hid k) (vY (evA T E.tmps args.toList) caps)) E λv E=>K (qp E o.dst v)
  | .yl l=>(match Jb (.lv 0 0::evA T E.tmps args.toList) E.st with
   | ρ=>S.yld l (evA T E.tmps args.toList) E ρ (BA (wz (zK ρ) 8) (evA T E.tmps args.toList)) (zq (zK ρ) E.st 0 ρ) λv E=>K (qp E o.dst v))
  | _=>False
 | op=>
  match op,o.dst with
  | .pick (.tmp c) a b,d=>(match ji E.tmps c with
   | .sb t=>S.br t (λ_=>K (qp (qp E (some c) (.bool true)) d (sK T E.tmps a))) (λ_=>K (qp (qp E (some c) (.bool false)) d (sK T E.tmps b)))
   | _=>oH T S (.pick (.tmp c) a b) E.tmps (iV E.st) E.next λv δ=>K (qp ⟨E.tmps,jr δ E.st,UT δ E.next⟩ d v))
  | op,d=>opN T S op E.tmps (iV E.st) E.next λv δ=>K (qp ⟨E.tmps,jr δ E.st,UT δ E.next⟩ d v)
def opsE (T:Tab)(S:iq)(all:Array Oper):List Oper->Env->(Env->Prop)->Prop
 | [],E,K=>K E
 | o::l,E,K=>gd S all o.guard E
   (λE=>agH T S o E λE=>opsE T S all l E K)
   (λE=>opsE T S all l (qp E o.dst .undef) K)
def agI (K:PV->Prop)(v:PV):Dl->Prop
 | []=>K v
 | _::_=>False
def isQ:Op->Bool
 | .move _|.assign _|.pick _ _ _|.fieldAddr _ _ _|.field _ _ _|.load _ _|.nilCheck _|.convert _ _ _|.indexAddr _ _ _|.slice _ _ _ _ _
 | .index _ _ _|.extract _ _|.build _ _|.makeFunc _ _ _=>true
 | .binOp _ _ _ y _=>(match acX y with|true=>false|false=>true)
 | .unOp _ _ _=>true
 | .call { callee:=.builtin .len,.. }|.call { callee:=.builtin .min,.. }|.call { callee:=.builtin .max,.. }=>true
 | _=>false
def lkC:List (Nat×Nat)->Nat->Nat
 | [],_=>3
 | (k,c)::l,f=>match Nat.beq c 9 with
  | true=>lkC l f
  | false=>bif Nat.beq k f then c else lkC l f
def lkQ:List (Nat×Nat)->Nat->Bool
 | [],_=>false
 | (k,c)::l,d=>match Nat.beq c 9 with
  | true=>bif Nat.beq k d then true else lkQ l d
  | false=>lkQ l d
def clsF (T:Tab):Operand->Nat
 | .func f=>lkC T.dcl f
 | _=>3
def Ls (T:Tab):Op->Nat
 | .alloc _=>1
 | .box _ _=>1
 | .makeSlice _ _ _=>1
 | .store _ _ _=>2
 | .slice _ _ _ _ _=>3
 | .call { callee:=.builtin .append,.. }=>2
 | .load _ _=>3
 | .indexAddr _ _ _=>3
 | .call { callee:=.value f,.. }=>clsF T f
 | .buildSlice _ _ _=>0
 | op=>bif isQ op then 0 else 4
def qtO (T:Tab)(o:Oper):Bool :=
 match o.dst with
 | some d=>(match lkQ T.dcl d with
  | true=>isQ o.op
  | false=>false)
 | none=>false
def xC (T:Tab)(o:Oper):Nat :=
 match qtO T o with
 | true=>0
 | false=>Ls T o.op
def opQ (T:Tab)(S:iq)(op:Op)(tmps:List PV)(lk:Nat->Option lW)(id:Nat)(K:PV->Prop):Prop :=
 match op with
 | .call { callee:=.value f,args,argTypes:=_ }=>
  match sK T tmps f with
  | .fn k caps=>agF S k (Hm (T.hid k) (vY (evA T tmps args.toList) caps)) lk K
  | _=>False
 | .buildSlice t len parts=>
  match T t with
  | { ok:=true,kind:=.slice esz _ (some z),.. }=>
    bif lC esz&&Nat.beq (oq z) esz&&Nat.ble (len*esz) 16777216&&FU (evP T tmps parts.toList) then
     (match Ku (λi=>some (i*esz,esz)) (Qh len z) (evP T tmps parts.toList) with
     | some cs=>(match pur S (λ_=>none) cs with
      | some (cs,[])=>wkC S cs λcs=>K (.sl esz (chunks esz len cs) true)
      | _=>False)
     | none=>False)
    else False
  | _=>False
 | op=>bif isQ op then oH T S op tmps lk id (agI K) else False
def abw (T:Tab)(S:iq)(o:Oper)(lk:Nat->Option lW)(E:Env)(K:Env->Prop):Prop :=
 match o.op with
 | .pick (.tmp c) a b=>(match ji E.tmps c with
   | .sb t=>S.br t (λ_=>K (qp (qp E (some c) (.bool true)) o.dst (sK T E.tmps a))) (λ_=>K (qp (qp E (some c) (.bool false)) o.dst (sK T E.tmps b)))
   | _=>opQ T S (.pick (.tmp c) a b) E.tmps lk E.next λv=>K (qp E o.dst v))
 | op=>opQ T S op E.tmps lk E.next λv=>K (qp E o.dst v)
def aeu (pend:List Nat)(lk:Nat->Option lW)(b:Nat):Option lW:=bif zn pend b then none else lk b
def XX (_:Nat):Option lW:=none
def ltD (n:Nat):Dl->Bool
 | []=>true
 | (b,_)::l=>Nat.blt b n&&ltD n l
def dlO (f:Nat->Option Nat)(st1:St):Nat->List Nat->Dl
 | _,[]=>[]
 | i,b::l=>(b,Ho f (iV st1 i))::dlO f st1 (i+1) l
def aje (st:St):List Nat->Bool
 | []=>true
 | b::l=>(match iV st b with|some _=>true|none=>false)&&aje st l
def Wh (S:iq)(k:Nat)(args:List PV)(ρ:List Nat)(st:St)(id:Nat)(K:PV->Dl->Prop):Prop :=
 match ltN id ρ&&(NG ρ&&aje st ρ) with
 | true=>S.Yp k (BA (wz (zK ρ) 8) args) (zq (zK ρ) st 0 ρ) ρ λv st1 n1=>(match Nat.ble n1 (lH ρ+32) with
  | true=>K (wz (Dx ρ id) 8 v) (dlO (Dx ρ id) st1 0 (agE ρ (upN id (n1-lH ρ))))
  | false=>False)
 | false=>False
def opW (T:Tab)(S:iq)(op:Op)(tmps:List PV)(lk:Nat->Option lW)(st:St)(id:Nat)(c2:Bool)(K:PV->Dl->Prop):Prop :=
 match op with
 | .call { callee:=.value f,args,argTypes:=_ }=>
  match sK T tmps f with
  | .fn k caps=>(match c2 with
   | false=>(match Ny (frz S XX 6) (Hm (T.hid k) (vY (evA T tmps args.toList) caps)) with
    | some as=>S.agx k (BA (wz (zK []) 8) as) λv x=>K (wz (Dx [] id) 8 v) [(id,Ho (Dx [] id) (some x))]
    | none=>False)
   | true=>(match Jb (Hm (T.hid k) (vY (evA T tmps args.toList) caps)) st with
    | ρ=>Wh S k (Hm (T.hid k) (vY (evA T tmps args.toList) caps)) ρ st id K))
  | _=>False
 | op=>oH T S op tmps lk id K
def stepD (T:Tab)(S:iq)(o:Oper)(pend:List Nat)(E:Env)(K:List Nat->Env->Prop):Prop :=
 match xC T o with
 | 0=>abw T S o XX E (K pend)
 | 1=>opW T S o.op E.tmps XX E.st E.next false λv δ=>match δ with
  | [(id,some x)]=>bif Nat.beq id E.next then K (id::pend) (qp ⟨E.tmps,nX E.st id (some x),E.next+32⟩ o.dst v) else False
  | _=>False
 | 2=>opW T S o.op E.tmps (iV E.st) E.st E.next true λv δ=>bif ltD (E.next+32) δ then K [] (qp ⟨E.tmps,jr δ E.st,E.next+32⟩ o.dst v) else False
 | 3=>abw T S o (aeu pend (iV E.st)) E (K pend)
 | _=>False
def Wi (all:Array Oper)(i:Nat)(o:Oper)(lo:List Tmp)(j:Nat)(p:Oper):Bool :=
 Nat.beq i j || match p.dst with
 | none=>true
 | some d=>o.dst != some d&&(!lo.contains d || o.after.any (λe=>Region.binds .any e&&Nat.beq e.on j) || p.after.any (λe=>Region.binds .any e&&Nat.beq e.on i))
def Wj (all:Array Oper)(i:Nat)(o:Oper)(lo:List Tmp):List Oper->Nat->Bool
 | [],_=>true
 | p::ps,j=>Wi all i o lo j p&&Wj all i o lo ps (j+1)
def Hq (all:Array Oper):List Oper->Nat->Bool
 | [],_=>true
 | o::os,i=>o.after.all (λe=>!Region.binds .any e || Nat.blt e.on i)&&Wj all i o (o.looksAt all) all.toList 0&&Hq all os (i+1)
def ZB (o:Oper):List Nat:=(o.after.toList.filter λe=>Region.binds .any e).map λe=>e.on
def Wl:List Nat->List Nat->List Nat
 | [],m=>m
 | b::l,m=>bif zn m b then Wl l m else Wl l (b::m)
def DD:List (List Nat)->Nat->List Nat
 | [],_=>[]
 | x::_,0=>x
 | _::l,n+1=>DD l n
def Yu (acc:List (List Nat)):List Nat->List Nat
 | []=>[]
 | j::l=>Wl (j::DD acc j) (Yu acc l)
def Wn:List Oper->List (List Nat)->List (List Nat)
 | [],acc=>acc
 | o::l,acc=>Wn l (acc++[Yu acc (ZB o)])
def ndO (T:Tab)(ps:List PV)(lk:Nat->Option lW):Op->Bool
 | .store _ x _=>(match sK T ps x with
  | .lp b _ _=>(match lk b with|some (.lN _ _)=>true|_=>false)
  | .np _ _ _ _ _ _ _=>true
  | _=>false)
 | _=>false
def Wp:List Oper->Nat
 | []=>0
 | _::l=>Wp l+1
def allIn (l:List Nat):Nat->Bool
 | 0=>true
 | n+1=>zn l n&&allIn l n
def Qi (all:Array Oper):Bool:=match all.toList with
 | []=>false
 | _::l=>allIn (DD (Wn all.toList []) (Wp l)) (Wp l)
def nilP:List Oper->Bool
 | []=>true
 | _=>false
def akw (T:Tab)(S:iq)(all:Array Oper)(o:Oper)(last:Bool)(pend:List Nat)(K:List Nat->Env->Prop)(KE:Env->Prop)(E:Env):Prop :=
 match ndO T E.tmps (iV E.st) o.op with
 | true=>(match last with
  | true=>S.last all (oH T S o.op E.tmps (iV E.st) E.next λv δ=>bif ltD (E.next+32) δ then KE (qp ⟨E.tmps,jr δ E.st,E.next+32⟩ o.dst v) else False)
  | false=>False)
 | false=>stepD T S o pend E K
def ac2 (T:Tab)(S:iq)(all:Array Oper):List Oper->List Nat->Env->(Env->Prop)->Prop
 | [],_,E,K=>K E
 | o::l,pend,E,K=>gd S all o.guard E
   (λE=>akw T S all o (nilP l) pend (λpend E=>ac2 T S all l pend E K) K E)
   (λE=>ac2 T S all l pend (qp E o.dst .undef) K)
def clash (a b:Nat):Bool := (Nat.beq a 2&&(Nat.beq b 2 || Nat.beq b 3)) || (Nat.beq b 2&&(Nat.beq a 1 || Nat.beq a 3))
def afw (T:Tab)(bef:List Nat)(c:Nat):List Oper->Nat->Bool
 | [],_=>true
 | o::l,i=>(bif clash (xC T o) c then zn bef i else true)&&afw T bef c l (i+1)
def agJ (T:Tab)(all:List Oper)(B:List (List Nat)):List Oper->Nat->Bool
 | [],_=>true
 | o::l,i=>afw T (DD B i) (xC T o) (all.take i) 0&&agJ T all B l (i+1)
def agK (T:Tab):List Oper->Bool
 | []=>false
 | o::l=>Nat.beq (xC T o) 2 || agK T l
def Hr (T:Tab)(all:Array Oper):Bool:=Hq all all.toList 0&&(bif agK T all.toList then agJ T all.toList (Wn all.toList []) all.toList 0 else true)
def ltS (n:Nat):St->Bool
 | []=>true
 | (b,_)::l=>Nat.blt b n&&ltS n l
def rdG (T:Tab)(ps:List PV)(o:Op):List Nat :=
 match o with
 | .load _ x=>Fb [] 8 [] (sK T ps x)
 | .store _ x y=>BG (Fb [] 8) [] [sK T ps x,sK T ps y]
 | .indexAddr _ x _=>Fb [] 8 [] (sK T ps x)
 | .slice _ x _ _ _=>Fb [] 8 [] (sK T ps x)
 | .call { callee:=.builtin _,args,argTypes:=_ }=>BG (Fb [] 8) [] (evA T ps args.toList)
 | _=>[]
def lkG (R:List Nat)(st:St)(b:Nat):Option lW:=bif zn R b then iV st b else none
def Ht:Dl->List Nat
 | []=>[]
 | (b,_)::δ=>b::Ht δ
def okG (st:St)(nx:Nat):Dl->Bool
 | []=>true
 | (b,x)::δ=>(match x with|some (.lN _ _)=>false|some (.map _)=>false|some (.nor _ _ _ _)=>false|_=>true)&&((Nat.beq b nx || (match iV st b with|some _=>true|none=>false))&&okG st nx δ)
def Yv:List (List Nat×List Nat×List Nat)->(List Nat×List Nat×List Nat)->List (List Nat×List Nat×List Nat)
 | [],x=>[x]
 | y::l,x=>y::Yv l x
def okH (st:St)(nx:Nat):Dl->Bool
 | []=>true
 | (b,x)::δ=>(match x with|some (.lN _ _)=>false|some (.map _)=>false|some (.nor _ _ _ _)=>false|_=>true)&&(((Nat.ble nx b&&Nat.blt b (nx+32)) || (match iV st b with|some _=>true|none=>false))&&okH st nx δ)
def QZ (T:Tab)(f:Operand)(args:Array Operand)(E:Env):List Nat :=
 match sK T E.tmps f with
 | .fn k caps=>Jb (Hm (T.hid k) (vY (evA T E.tmps args.toList) caps)) E.st
 | _=>[]
def akx (T:Tab)(S:iq)(o:Oper)(f:Operand)(args:Array Operand)(ts:Array TypeId)(E:Env)(K:(List Nat×List Nat×List Nat)->Env->Prop):Prop :=
 match o.guard with
 | some _=>False
 | none=>(match xC T o with
  | 2=>(match QZ T f args E with
   | R=>opW T S (.call { callee:=.value f,args:=args,argTypes:=ts }) E.tmps (iV E.st) E.st E.next true λv δ=>(match okH E.st E.next δ with
    | true=>K (R,Ht δ,Ht δ) (qp ⟨E.tmps,jr δ E.st,E.next+32⟩ o.dst v)
    | false=>False))
  | 3=>(match QZ T f args E with
   | R=>opQ T S (.call { callee:=.value f,args:=args,argTypes:=ts }) E.tmps (lkG R E.st) E.next λv=>K (R,[],[]) (qp E o.dst v))
  | _=>False)
def agL (T:Tab)(S:iq)(o:Oper)(E:Env)(K:(List Nat×List Nat×List Nat)->Env->Prop):Prop :=
 match o.guard,rdG T E.tmps o.op with
 | none,R=>(match bif isQ o.op then true else(Nat.beq (Ls T o.op) 1 || Nat.beq (Ls T o.op) 2),ndO T E.tmps (lkG R E.st) o.op with
  | true,false=>oH T S o.op E.tmps (lkG R E.st) E.next λv δ=>(match okG E.st E.next δ with
   | true=>K (R,Ht δ,Ht δ) (qp ⟨E.tmps,jr δ E.st,E.next+1⟩ o.dst v)
   | false=>False)
  | _,_=>False)
 | some _,_=>False
def stepG (T:Tab)(S:iq)(o:Oper)(E:Env)(K:(List Nat×List Nat×List Nat)->Env->Prop):Prop :=
 match o.op with
 | .call { callee:=.value f,args,argTypes:=ts }=>akx T S o f args ts E K
 | _=>agL T S o E K
def afx (T:Tab)(S:iq):List Oper->Env->List (List Nat×List Nat×List Nat)->(Env->List (List Nat×List Nat×List Nat)->Prop)->Prop
 | [],E,tr,K=>K E tr
 | o::l,E,tr,K=>stepG T S o E λtc E=>afx T S l E (Yv tr tc) K
abbrev Post:=Nat->Env->Prop
def JM (next:Env->Prop)(Q:Post):Post
 | 0,E=>next E
 | n+1,E=>Q (n+1) E
def amo (id:Nat)(Q:Post):Post
 | 0,E=>Q 0 E
 | 1,E=>Q 1 E
 | n+2,E=>bif Nat.beq n id then Q 0 E else Q (n+2) E
def Qj:Code->Option Nat
 | .region id _ _=>some id
 | .seq a _=>Qj a
 | .block _ b=>Qj b
 | .loop b=>Qj b
 | .scope b=>Qj b
 | _=>none
def agM (cut:List Nat)(a b:Code):Bool :=
 match cut with
 | []=>true
 | _::_=>match a with
  | .region i _ _=>(bif zn cut (2*i) then false else true)
  | _=>match Qj b with
   | some i=>(bif zn cut (2*i+1) then false else true)
   | none=>true
def amq (a b:Code):Nat :=
 match a with
 | .region i _ _=>2*i
 | _=>match Qj b with
  | some i=>2*i+1
  | none=>0
def Kw (T:Tab)(S:iq):Code->Post->Env->Prop
 | .skip,Q,E=>Q 0 E
 | .seq a b,Q,E=>bif agM T.cut a b then Kw T S a (JM (λE=>Kw T S b Q E) Q) E else S.seq (amq a b) E (λQ=>Kw T S a Q E) (λE=>Kw T S b Q E) Q
 | .ret,Q,E=>Q 1 E
 | .exit n,Q,E=>Q (n+2) E
 | .block id b,Q,E=>Kw T S b (amo id Q) E
 | .loop b,Q,E=>S.loop b Q E
 | .scope b,Q,E=>Kw T S b Q E
 | .label _,Q,E=>Q 0 E
 | .region i l true,Q,E=>bif zn T.cut (1000+i) then(bif ltS E.next E.st&&lF E.st then afx T S l.toList E [] (λE tr=>S.afu l tr (Q 0 E)) else False)
  else S.order l (bif ltS E.next E.st then ac2 T S l l.toList [] E (Q 0) else False)
 | .region _ l false,Q,E=>opsE T S l l.toList E (Q 0)
 | .cond (.tmp c) a b,Q,E=>match ji E.tmps c with
  | .bool true=>Kw T S a Q E
  | .bool false=>Kw T S b Q E
  | .sb t=>S.br t (λ_=>Kw T S a Q (qp E (some c) (.bool true))) (λ_=>Kw T S b Q (qp E (some c) (.bool false)))
  | _=>False
 | .cond (.const (.bool true)) a _,Q,E=>Kw T S a Q E
 | .cond (.const (.bool false)) _ b,Q,E=>Kw T S b Q E
 | _,_,_=>False
def ak2 (T:Tab)(E:Env):ResultVar->Option PV
 | .tmp t=>some (ji E.tmps t)
 | .cell a t=>match ji E.tmps a,T t with
  | .lv b c,{ ok:=true,agg,size,.. }=>match iV E.st b with
   | some (.var _ row)=>
    bif agg then(bif Nat.ble (c+size) (oq row) then some (.agg (UN size (Hl c row))) else none)
    else(bif Nat.blt c (oq row) then some (ji row c) else none)
   | _=>none
  | _,_=>none
def Wq (T:Tab)(E:Env):List ResultVar->Option (List PV)
 | []=>some []
 | r::rs=>match ak2 T E r with
  | none=>none
  | some v=>match Wq T E rs with
   | none=>none
   | some vs=>some (v::vs)
def JO:List PV->PV
 | [v]=>v
 | vs=>.Ed vs
def abx (T:Tab)(S:iq)(rs:List ResultVar)(E:Env)(R:PV->Prop):Prop :=
 match Wq T E rs with
 | some vs=>(match frz S (iV E.st) 7 (JO vs) with|some v=>R v|none=>False)
 | none=>False
def afy (S:iq)(v:PV)(st:St)(n:Nat):PV×St×Nat :=
 match Jb [v] st with
 | ρ=>(match roS st ρ with
  | st'=>(match frz S (acY st') 6 v with
   | some v'=>(v',st',n)
   | none=>(v,st,n)))
def JP (S:iq)(c:Nat×Bool)(v:PV)(st:St)(n:Nat):PV×St×Nat :=
 match c with
 | (z+1,re)=>(match v with
  | .sl _ es f=>(match f with
   | true=>(match es with
    | []=>(.os n 0 0,nX st n (some (.arr false (z+1) [])),n+1)
    | _::_=>(v,st,n))
   | false=>(v,st,n))
  | .os b r m=>(match re with
   | true=>(match iV st b with
    | some (.arr false sz rows)=>(.os n 0 m,nX (nX st b none) n (some (.arr false sz (S.sub rows r m))),n+1)
    | _=>(v,st,n))
   | false=>(v,st,n))
  | _=>(v,st,n))
 | (0,true)=>(match v with
  | .os b r m=>(match iV st b with
   | some (.lN sz rows)=>(.sl sz (S.fz (S.sub rows r m)) false,nX st b none,n)
   | _=>afy S v st n)
  | _=>afy S v st n)
 | _=>(v,st,n)
def Ee (S:iq):List (Nat×Bool)->List PV->St->Nat->List PV×St×Nat
 | z::zs,v::vs,st,n=>match JP S z v st n with
  | (v',st',n')=>match Ee S zs vs st' n' with
   | (vs',st2,n2)=>(v'::vs',st2,n2)
 | _,vs,st,n=>(vs,st,n)
def Yw (S:iq)(zs:List (Nat×Bool))(v:PV)(st:St)(n:Nat):PV×St×Nat :=
 match v with
 | .agg cs=>match Ee S zs cs st n with|(cs',st',n')=>(.agg cs',st',n')
 | v=>match zs with
  | [z]=>JP S z v st n
  | _=>(v,st,n)
def Qk (S:iq):List (List (Nat×Bool))->List PV->St->Nat->List PV×St×Nat
 | zs::own,v::vs,st,n=>match Yw S zs v st n with
  | (v',st',n')=>match Qk S own vs st' n' with
   | (vs',st2,n2)=>(v'::vs',st2,n2)
 | _,vs,st,n=>(vs,st,n)
def Yx (S:iq)(own:List (List (Nat×Bool)))(v:PV)(st:St)(n:Nat):PV×St×Nat :=
 match v with
 | .Ed vs=>match Qk S own vs st n with|(vs',st',n')=>(.Ed vs',st',n')
 | v=>match own with
  | [zs]=>Yw S zs v st n
  | _=>(v,st,n)
def UX (T:Tab)(S:iq)(rs:List ResultVar)(E:Env)(R:PV->St->Nat->Prop):Prop :=
 match Wq T E rs with
 | some vs=>(match Yx S T.own (JO vs) E.st E.next with
  | (v,st,_)=>(match UW T.qc st [v] with
   | ρ=>R (wz (zK ρ) 8 v) (zq (zK ρ) st 0 ρ) (lH ρ)))
 | none=>False
def agN (T:Tab)(S:iq)(rs:List ResultVar)(R:PV->St->Nat->Prop):Post
 | 0,E=>UX T S rs E R
 | 1,E=>UX T S rs E R
 | _+2,_=>False
def ajf (T:Tab)(S:iq)(rs:List ResultVar)(R:PV->Prop):Post
 | 0,E=>abx T S rs E R
 | 1,E=>abx T S rs E R
 | _+2,_=>False
def sO:Nat->List PV
 | 0=>[]
 | n+1=>.undef::sO n
end Go.Pv
namespace Go.Pv
open Go
structure Loc where
 cb:Nat
 co:Nat
 sz:Nat
 tot:Nat
 nr:Nat
abbrev Sg:=Nat->Option Loc
def ik:Sg:=λ_=>none
def Ql:Value->Bool
 | .agg _|.tuple _=>false
 | _=>true
mutual
def Rep (w:World)(Y:Nat->Prop)(σ:Sg):PV->Value->Prop
 | .bool b,v=>v=.bool b
 | .sb b,v=>v=.bool b
 | .int k n,v=>v=.int k n
 | .si k n,v=>v=.int k n
 | .str s,v=>v=.string s
 | .agg cs,v=>∃ vs:List Value,v=.agg vs.toArray/\eQ w Y σ cs vs
 | .Ed cs,v=>∃ vs:List Value,v=.tuple vs.toArray/\eQ w Y σ cs vs
 | .sl sz es full,v=>∃ a len cap,v=.slice a len cap/\len=es.length/\len<=cap/\(full=true->cap=len) /\
   (es=[]\/∃ b o,a=some ⟨b,o,none⟩/\(b<w.heap.size/\¬ Y b)/\je w Y ik b sz es o)
 | .os b r n,v=>(∃ l cap,σ b=some l/\v=.slice (some ⟨l.cb,l.co+r*l.sz,none⟩) n cap/\(n<=cap/\cap<=9223372036854775807)/\l.co+r*l.sz+cap*l.sz=l.tot/\r+n<=l.nr) \/
   (n=0/\∃ a,v=.slice a 0 0)
 | .lv b c,v=>∃ l,σ b=some l/\v=.pointer (some ⟨l.cb,l.co+c,none⟩)
 | .lp b r c,v=>∃ l,σ b=some l/\v=.pointer (some ⟨l.cb,l.co+r*l.sz+c,none⟩)
 | .pp cs,v=>∃ b o,v=.pointer (some ⟨b,o,none⟩)/\(b<w.heap.size/\¬ Y b)/\iW w Y ik b cs o
 | .ow h _ es,v=>(h.cap≠0/\v=.slice (some ⟨h.ν,h.o,none⟩) es.length h.cap/\es.length<=h.cap/\h.cap<=9223372036854775807)\/(h.cap=0/\es=[]/\∃ a,v=.slice a 0 0)
 | .bo _ _ _ h sz n,v=>(h.cap≠0/\v=.slice (some ⟨h.ν,h.o,none⟩) n h.cap/\n<=h.cap/\h.cap<=9223372036854775807)\/(h.cap=0/\n=0/\∃ a,v=.slice a 0 0)
 | .np _ _ _ h sz j k,v=>v=.pointer (some ⟨h.ν,h.o+j*sz+k,none⟩)
 | .IY,v=>v=.pointer none
 | .fn f cs,v=>∃ vs:List Value,v=.func (.func f) #[] vs.toArray/\eQ w Y σ cs vs
 | .V5,v=>v=.nilFunc
 | .mp b,v=>∃ l,σ b=some l/\v=.map (some l.cb)
 | .yl l,v=>v=.func (.yield l) #[] #[]
 | .hc,v=>Ql v=true
 | .top,_=>True
 | .undef,v=>v=Go.undef
def eQ (w:World)(Y:Nat->Prop)(σ:Sg):List PV->List Value->Prop
 | [],vs=>vs=[]
 | c::cs,vs=>∃ v vs',vs=v::vs'/\Rep w Y σ c v/\eQ w Y σ cs vs'
def iW (w:World)(Y:Nat->Prop)(σ:Sg)(b:Nat):List PV->Nat->Prop
 | [],_=>True
 | c::cs,o=>(∃ v,w.cell? ⟨b,o,none⟩=some v/\Rep w Y σ c v)/\iW w Y σ b cs (o+1)
def je (w:World)(Y:Nat->Prop)(σ:Sg)(b sz:Nat):List (List PV)->Nat->Prop
 | [],_=>True
 | r::rs,o=>(r.length=sz/\iw r=true)/\iW w Y σ b r o/\je w Y σ b sz rs (o+sz)
end
def nK (σ σ' : Sg):Prop:=∀ b l,σ b=some l->σ' b=some l
def Off (id:Nat)(σ σ' : Sg):Prop:=∀ b,b≠id->σ' b=σ b
theorem Off.refl (id:Nat)(σ:Sg):Off id σ σ:=λ_ _=>rfl
theorem nK.refl (σ:Sg):nK σ σ:=λ_ _ h=>h
theorem nK.trans {a b c:Sg}(h:nK a b)(k:nK b c):nK a c:=λx l e=>k x l (h x l e)
theorem QX {w:World}{b o:Nat}{v:Value}(h:w.cell? ⟨b,o,none⟩=some v):b<w.heap.size:=by
 grind[World.cell?]
theorem afz {w w' : World}{b:Nat}(h:w'.heap[b]?=w.heap[b]?)(o:Nat):w'.cell? ⟨b,o,none⟩=w.cell? ⟨b,o,none⟩:=by
 simp only[World.cell?,h]
structure Keep (w w' : World)(Y Y' : Nat->Prop)(σ σ' : Sg):Prop where
 heap:∀ k,k<w.heap.size->¬ Y k->w'.heap[k]?=w.heap[k]?
 excl:∀ k,k<w.heap.size->Y' k->Y k
 size:w.heap.size<=w'.heap.size
 sg:nK σ σ'
theorem Keep.none {w w' : World}{Y Y' : Nat->Prop}{σ σ' : Sg}(h:Keep w w' Y Y' σ σ'):Keep w w' Y Y' ik ik:=⟨h.heap,h.excl,h.size,nK.refl _⟩
mutual
theorem Rep.keep {w w' : World}{Y Y' : Nat->Prop}:∀ (p:PV) {σ σ' : Sg} (_:Keep w w' Y Y' σ σ') (v:Value),Rep w Y σ p v->Rep w' Y' σ' p v
 | .bool _,_,_,_,_,h|.sb _,_,_,_,_,h|.int _ _,_,_,_,_,h|.si _ _,_,_,_,_,h|.str _,_,_,_,_,h
 | .ow _ _ _,_,_,_,_,h|.bo _ _ _ _ _ _,_,_,_,_,h|.np _ _ _ _ _ _ _,_,_,_,_,h
 | .IY,_,_,_,_,h|.V5,_,_,_,_,h|.hc,_,_,_,_,h|.top,_,_,_,_,h|.undef,_,_,_,_,h=>by unfold Rep at h |-;exact h
 | .agg cs,_,_,K,v,h=>by
  unfold Rep at h |-;obtain⟨vs,e,h⟩:=h;exact⟨vs,e,eQ.keep cs K vs h⟩
 | .Ed cs,_,_,K,v,h=>by
  unfold Rep at h |-;obtain⟨vs,e,h⟩:=h;exact⟨vs,e,eQ.keep cs K vs h⟩
 | .fn f cs,_,_,K,v,h=>by
  unfold Rep at h |-;obtain⟨vs,e,h⟩:=h;exact⟨vs,e,eQ.keep cs K vs h⟩
 | .sl sz es full,_,_,K,v,h=>by
  unfold Rep at h |-;obtain⟨a,len,cap,e,J,hc,U,h⟩:=h;refine⟨a,len,cap,e,J,hc,U,?_⟩;rcases h with h|⟨b,o,ha,⟨hs,T⟩,h⟩
  exact .inl h
  exact .inr ⟨b,o,ha,⟨Nat.lt_of_lt_of_le hs K.size,λhy=>T (K.excl b hs hy)⟩,je.keep es K.none (λhk=>K.heap b hk T) o h⟩
 | .os b r n,_,_,K,v,h=>by
  unfold Rep at h |-;rcases h with ⟨l,cap,hs,e,h⟩|h
  exact .inl ⟨l,cap,K.sg _ _ hs,e,h⟩
  exact .inr h
 | .lv b c,_,_,K,v,h=>by
  unfold Rep at h |-;obtain⟨l,hs,e⟩:=h;exact⟨l,K.sg _ _ hs,e⟩
 | .mp b,_,_,K,v,h=>by
  unfold Rep at h |-;obtain⟨l,hs,e⟩:=h;exact⟨l,K.sg _ _ hs,e⟩
 | .yl _,_,_,_,v,h=>by unfold Rep at h |-;exact h
 | .lp b r c,_,_,K,v,h=>by
  unfold Rep at h |-;obtain⟨l,hs,e⟩:=h;exact⟨l,K.sg _ _ hs,e⟩
 | .pp cs,_,_,K,v,h=>by
  unfold Rep at h |-;obtain⟨b,o,e,⟨hs,T⟩,h⟩:=h;exact⟨b,o,e,⟨Nat.lt_of_lt_of_le hs K.size,λhy=>T (K.excl b hs hy)⟩,iW.keep cs K.none (λhk=>K.heap b hk T) o h⟩
theorem eQ.keep {w w' : World}{Y Y' : Nat->Prop}:∀ (ps:List PV) {σ σ' : Sg} (_:Keep w w' Y Y' σ σ') (vs:List Value),eQ w Y σ ps vs->eQ w' Y' σ' ps vs
 | [],_,_,_,_,h=>by unfold eQ at h |-;exact h
 | p::ps,_,_,K,vs,h=>by
  unfold eQ at h |-;obtain⟨v,T,e,h1,h2⟩:=h;exact⟨v,T,e,Rep.keep p K v h1,eQ.keep ps K T h2⟩
theorem iW.keep {w w' : World}{Y Y' : Nat->Prop}{b:Nat}:∀ (ps:List PV) {σ σ' : Sg} (_:Keep w w' Y Y' σ σ') (_:b<w.heap.size->w'.heap[b]?=w.heap[b]?) (o:Nat),iW w Y σ b ps o->iW w' Y' σ' b ps o
 | [],_,_,_,_,_,_=>by unfold iW;trivial
 | p::ps,_,_,K,hb,o,h=>by
  unfold iW at h |-;obtain⟨⟨v,hc,h1⟩,h2⟩:=h;exact⟨⟨v,by rw[afz (hb (QX hc))];exact hc,Rep.keep p K v h1⟩,iW.keep ps K hb (o+1) h2⟩
theorem je.keep {w w' : World}{Y Y' : Nat->Prop}{b sz:Nat}:∀ (rs:List (List PV)) {σ σ' : Sg} (_:Keep w w' Y Y' σ σ') (_:b<w.heap.size->w'.heap[b]?=w.heap[b]?) (o:Nat),je w Y σ b sz rs o->je w' Y' σ' b sz rs o
 | [],_,_,_,_,_,_=>by unfold je;trivial
 | r::rs,_,_,K,hb,o,h=>by
  unfold je at h |-;exact⟨h.1,iW.keep r K hb o h.2.1,je.keep rs K hb (o+sz) h.2.2⟩
end
def lW.ro:lW->Bool
 | .var ro _=>ro
 | .arr ro _ _=>ro
 | .lN _ _=>false
 | .map _=>false
 | .nor _ _ _ _=>false
structure At (w:World)(l:Loc):Prop where
 blk:∃ arr ty,w.heap[l.cb]?=some (.cells arr ty (0,0))/\arr.size=l.tot
def pq (w:World)(Y:Nat->Prop):List MapEntry->List (List PV)->Prop
 | [],rows=>rows=[]
 | e::es,rows=>∃ n cs rows',rows=(.si .i64 n::cs)::rows'/\e.key=.int .i64 n/\(∃ vs:List Value,e.val=.agg vs.toArray/\eQ w Y ik cs vs)/\pq w Y es rows'
theorem pq.keep {w w' : World}{Y Y' : Nat->Prop}(K:Keep w w' Y Y' ik ik):∀ (T:List MapEntry) (rows:List (List PV)),pq w Y T rows->pq w' Y' T rows
 | [],_,h=>h
 | _::T,_,⟨n,cs,rows',h1,h2,⟨vs,h3,h4⟩,h5⟩=>⟨n,cs,rows',h1,h2,⟨vs,h3,eQ.keep cs K vs h4⟩,pq.keep K T rows' h5⟩
def fF (w:World)(Y:Nat->Prop)(σ:Sg)(l:Loc):lW->Prop
 | .var ro row=>At w l/\l.sz=row.length/\l.co+row.length<=l.tot/\iW w Y σ l.cb row l.co/\(ro=false->Y l.cb)/\(ro=true->¬ Y l.cb)
 | .arr ro sz rows=>At w l/\l.sz=sz/\0<sz/\(l.co+rows.length*sz<=l.tot/\rows.length=l.nr)/\je w Y ik l.cb sz rows l.co/\(ro=false->Y l.cb)/\(ro=true->¬ Y l.cb)
 | .map rows=>(∃ es ck,w.heap[l.cb]?=some (.map es ck)/\pq w Y es.toList rows)/\Y l.cb
 | .lN sz rows=>At w l/\l.sz=sz/\0<sz/\(l.co+rows.length*sz<=l.tot/\rows.length=l.nr)/\je w Y ik l.cb sz rows l.co/\Y l.cb
 | .nor sz rows r row=>At w l/\l.sz=sz/\0<sz/\(l.co+rows.length*sz<=l.tot/\rows.length=l.nr)/\(r<rows.length/\row.length=sz) /\
   (∀ i x,rows[i]?=some x->i≠r->(x.length=sz/\iw x=true)/\iW w Y ik l.cb x (l.co+i*sz))/\iW w Y σ l.cb row (l.co+r*sz)/\Y l.cb
inductive Emp:lW->Prop
 | arr (ro:Bool) (sz:Nat):Emp (.arr ro sz [])
 | lN (sz:Nat):Emp (.lN sz [])
structure FW (w:World)(Y:Nat->Prop)(σ:Sg)(st:St):Prop where
 blk:∀ b x,iV st b=some x->(∃ l,σ b=some l/\fF w Y σ l x)\/(σ b=none/\Emp x)
 inj:∀ b b' x x' l l',iV st b=some x->iV st b'=some x'->σ b=some l->σ b'=some l'->l.cb=l'.cb->b=b'
def mr (st:St)(b r c:Nat)(h:Hdr)(sz:Nat)(es:List (List PV)):Prop:=∃ sz0 rows row,iV st b=some (.lN sz0 rows)/\rows[r]?=some row/\row[c]?=some (.ow h sz es)/\h.cap≠0
theorem mr.same {st st' : St}{b r c:Nat}{h:Hdr}{sz:Nat}{J:List (List PV)}(e:iV st' b=iV st b)(k:mr st' b r c h sz J):mr st b r c h sz J:=by
 obtain⟨T,rows,row,h1,h2⟩:=k;exact⟨T,rows,row,by grind,h2⟩
theorem mr.sub {st st' : St}{b r c:Nat}{h:Hdr}{sz:Nat}{J:List (List PV)}(e:∀ x,iV st' b=some x->iV st b=some x)(k:mr st' b r c h sz J):mr st b r c h sz J:=by
 obtain⟨T,rows,row,h1,h2⟩:=k;exact⟨T,rows,row,e _ h1,h2⟩
structure ZC (w:World)(Y:Nat->Prop)(h:Hdr)(sz:Nat)(es:List (List PV)):Prop where
 own:Y h.ν
 pos:0<sz
 blk:∃ arr ty,w.heap[h.ν]?=some (.cells arr ty (0,0))/\arr.size=h.o+h.cap*sz
 len:es.length<=h.cap
 rows:je w Y ik h.ν sz es h.o
structure Ctx (T:Tab) where
 w0:World
 Y0:Nat->Prop
 L:Nat->Prop
 M:Nat->Prop
 base:Sg
 df:List Deferred
structure Nz (M:Nat->Prop)(w0 w:World):Prop where
 os:w.os=w0.os
 tape:w.tape=w0.tape
 output:w.output=w0.output
 size:w0.heap.size<=w.heap.size
 block:∀ k,k<w0.heap.size->¬ M k->w.heap[k]?=w0.heap[k]?
structure Chg (w0 w:World):Prop where
 os:w.os=w0.os
 tape:w.tape=w0.tape
 output:w.output=w0.output
 size:w0.heap.size<=w.heap.size
 block:∀ k,k<w0.heap.size->w.heap[k]?=w0.heap[k]?
theorem Chg.refl (w:World):Chg w w:=⟨rfl,rfl,rfl,Nat.le_refl _,λ_ _=>rfl⟩
theorem Nz.refl (M:Nat->Prop)(w:World):Nz M w w:=⟨rfl,rfl,rfl,Nat.le_refl _,λ_ _ _=>rfl⟩
theorem Nz.qo {M:Nat->Prop}{a b:World}(h:Nz M a b)(hM:∀ k,¬ M k):Chg a b:=⟨h.os,h.tape,h.output,h.size,λk hk=>h.block k hk (hM k)⟩
theorem Nz.trans {M:Nat->Prop}{a b c:World}(h:Nz M a b)(k:Nz M b c):Nz M a c :=
 ⟨by rw[k.os,h.os],by rw[k.tape,h.tape],by rw[k.output,h.output],Nat.le_trans h.size k.size,λi hi T=>by rw[k.block i (Nat.lt_of_lt_of_le hi h.size) T,h.block i hi T]⟩
def Vs (G:Nat->Option (List PV))(w:World)(Y:Nat->Prop):Prop:=∀ g cs,G g=some cs->Rep w Y ik (.pp cs) (.pointer (some ⟨g,0,none⟩))
theorem Vs.keep {G:Nat->Option (List PV)}{w w' : World}{Y Y' : Nat->Prop}(h:Vs G w Y)(K:Keep w w' Y Y' ik ik):Vs G w' Y':=λg cs T=>Rep.keep _ K _ (h g cs T)
theorem Chg.below {a b:World}(h:Chg a b):RowKit.Below a.heap.size a b:=⟨h.os,h.tape,h.output,h.size,h.block⟩
structure BB (w0:World)(L:Nat->Prop)(w:World)(Y:Nat->Prop)(σ:Sg)(st:St):Prop where
 rep:∀ b r c h sz es,mr st b r c h sz es->ZC w Y h sz es
 old:∀ b r c h sz es,mr st b r c h sz es->w0.heap.size<=h.ν\/L h.ν
 one:∀ b r c h sz es b' r' c' h' sz' es',mr st b r c h sz es->mr st b' r' c' h' sz' es'->h.ν=h'.ν->b=b'/\r=r'/\c=c'
 sep:∀ b r c h sz es b' x l,mr st b r c h sz es->iV st b'=some x->σ b'=some l->l.cb≠h.ν
theorem ZC.lt {w:World}{Y:Nat->Prop}{h:Hdr}{sz:Nat}{T:List (List PV)}(H:ZC w Y h sz T):h.ν<w.heap.size:=by
 obtain⟨arr,ty,h1,_⟩:=H.blk
 grind
theorem ZC.keep {w w' : World}{Y Y' : Nat->Prop}{h:Hdr}{sz:Nat}{T:List (List PV)}(H:ZC w Y h sz T)(K:Keep w w' Y Y' ik ik)(J:w'.heap[h.ν]?=w.heap[h.ν]?)(I:Y h.ν->Y' h.ν):ZC w' Y' h sz T :=
 ⟨I H.own,H.pos,by rw[J];exact H.blk,H.len,je.keep T K (λ_=>J) _ H.rows⟩
theorem BB.none {w0 w:World}{L Y:Nat->Prop}{σ:Sg}{st:St}(h:∀ b sz rows,iV st b≠some (.lN sz rows)):BB w0 L w Y σ st:=by
 have no:∀ {b r c h sz es},mr st b r c h sz es->False:=λ⟨_,_,_,h1,_⟩=>h _ _ _ h1;exact⟨λ_ _ _ _ _ _ k=>(no k).elim,λ_ _ _ _ _ _ k=>(no k).elim,λ_ _ _ _ _ _ _ _ _ _ _ _ k=>(no k).elim,λ_ _ _ _ _ _ _ _ _ k=>(no k).elim⟩
theorem BB.keep {w0 w w' : World}{L Y Y' : Nat->Prop}{σ σ' : Sg}{st st' : St}(H:BB w0 L w Y σ st)(K:Keep w w' Y Y' ik ik)
  (T:∀ b r c h sz J,mr st' b r c h sz J->mr st b r c h sz J)
  (I:∀ b r c h sz J,mr st' b r c h sz J->w'.heap[h.ν]?=w.heap[h.ν]?)
  (g:∀ b r c h sz J,mr st' b r c h sz J->Y' h.ν)
  (C:∀ b r c h sz J t x l,mr st' b r c h sz J->iV st' t=some x->σ' t=some l->l.cb≠h.ν):BB w0 L w' Y' σ' st' :=
 ⟨λb r c h sz J k=>(H.rep _ _ _ _ _ _ (T _ _ _ _ _ _ k)).keep K (I _ _ _ _ _ _ k) (λ_=>g _ _ _ _ _ _ k),
   λb r c h sz J k=>H.old _ _ _ _ _ _ (T _ _ _ _ _ _ k),
   λb r c h sz J t r' c' h' sz' es' k k' e=>H.one _ _ _ _ _ _ _ _ _ _ _ _ (T _ _ _ _ _ _ k) (T _ _ _ _ _ _ k') e,C⟩
theorem BB.sub {w0 w:World}{L Y:Nat->Prop}{σ:Sg}{st st' : St}(H:BB w0 L w Y σ st)(h:∀ b x,iV st' b=some x->iV st b=some x):BB w0 L w Y σ st' :=
 H.keep ⟨λ_ _ _=>rfl,λ_ _ h=>h,Nat.le_refl _,nK.refl _⟩ (λb _ _ _ _ _ k=>k.sub (h b)) (λ_ _ _ _ _ _ _=>rfl) (λb r c T sz J k=>(H.rep _ _ _ _ _ _ (k.sub (h b))).own)
  (λb r c T sz J t x l k C I=>H.sep _ _ _ _ _ _ _ _ _ (k.sub (h b)) (h t x C) I)
theorem BB.heap {w0 w w' : World}{L Y:Nat->Prop}{σ:Sg}{st:St}(H:BB w0 L w Y σ st)(hs:w.heap.size<=w'.heap.size)(T:∀ k,k<w.heap.size->w'.heap[k]?=w.heap[k]?):BB w0 L w' Y σ st :=
 H.keep ⟨λk hk _=>T k hk,λ_ _ h=>h,hs,nK.refl _⟩ (λ_ _ _ _ _ _ k=>k) (λ_ _ _ _ _ _ k=>T _ (H.rep _ _ _ _ _ _ k).lt) (λ_ _ _ _ _ _ k=>(H.rep _ _ _ _ _ _ k).own) H.sep
structure SW {T:Tab}(C:Ctx T)(w:World)(Y:Nat->Prop)(σ:Sg)(ps:List PV)(vs:List Value)(st:St)(n:Nat):Prop where
 vals:eQ w Y σ ps vs
 store:FW w Y σ st
 next:∀ b,n<=b->σ b=none
 wB:∀ k,Y k->k<w.heap.size
 y0:∀ k,C.Y0 k->Y k
 c0:∀ k,C.Y0 k->k<C.w0.heap.size/\¬ C.L k
 xE:∀ k,Y k->k<C.w0.heap.size->C.Y0 k\/C.M k
 qo:Nz C.M C.w0 w
 own:∀ b x l,iV st b=some x->σ b=some l->C.w0.heap.size<=l.cb\/C.L l.cb
 xG:Vs T.gl w Y
 fix:T.qc<=n/\∀ b,b<T.qc->σ b=C.base b
 nest:BB C.w0 C.L w Y σ st
theorem SW.away {T:Tab}{C:Ctx T}{w:World}{Y:Nat->Prop}{σ:Sg}{ps:List PV}{vs:List Value}{st:St}{n:Nat}(H:SW C w Y σ ps vs st n){b:Nat}{x:lW}{l:Loc}(I:iV st b=some x)(J:σ b=some l):¬ C.Y0 l.cb:=λh=>by
 have h1:=H.c0 _ h;rcases H.own b x l I J with h2|h2<;>grind
theorem SW.mono {T:Tab}{C:Ctx T}{w:World}{Y:Nat->Prop}{σ:Sg}{ps:List PV}{vs:List Value}{st:St}{n J : Nat}(H:SW C w Y σ ps vs st n)(h:n<=J):SW C w Y σ ps vs st J :=
 ⟨H.vals,H.store,λb I=>H.next b (Nat.le_trans h I),H.wB,H.y0,H.c0,H.xE,H.qo,H.own,H.xG,⟨Nat.le_trans H.fix.1 h,H.fix.2⟩,H.nest⟩
theorem SW.rH {T:Tab}{C:Ctx T}{w:World}{Y:Nat->Prop}{σ:Sg}{ps I : List PV}{vs J : List Value}{st:St}{n:Nat}(H:SW C w Y σ ps vs st n)(h:eQ w Y σ I J):SW C w Y σ I J st n :=
 ⟨h,H.store,H.next,H.wB,H.y0,H.c0,H.xE,H.qo,H.own,H.xG,H.fix,H.nest⟩
def ak3 {T:Tab}(C:Ctx T)(E:Env)(vs:List Value)(w:World):Prop:=∃ Y σ,SW C w Y σ E.tmps vs E.st E.next
theorem eQ.get {w:World}{Y:Nat->Prop}{σ:Sg}:∀ (ps:List PV) (vs:List Value) (t:Nat),eQ w Y σ ps vs->Rep w Y σ (ji ps t) (vs.getD t Go.undef)
 | [],vs,t,h=>by grind[eQ,ji,Rep]
 | p::ps,vs,0,h=>by unfold eQ at h;obtain⟨v,T,rfl,h1,_⟩:=h;simpa [ji] using h1
 | p::ps,vs,t+1,h=>by
  unfold eQ at h;obtain⟨v,T,rfl,_,h2⟩:=h
  simpa [ji] using eQ.get ps T t h2
theorem eQ.length {w:World}{Y:Nat->Prop}{σ:Sg}:∀ (ps:List PV) (vs:List Value),eQ w Y σ ps vs->vs.length=ps.length
 | [],vs,h=>by grind[eQ]
 | p::ps,vs,h=>by unfold eQ at h;obtain⟨v,T,rfl,_,h2⟩:=h;simp[eQ.length ps T h2]
theorem eQ.set {w:World}{Y:Nat->Prop}{σ:Sg}{p:PV}{v:Value}(J:Rep w Y σ p v):∀ (ps:List PV) (vs:List Value) (t:Nat),eQ w Y σ ps vs->eQ w Y σ (nV ps t p) (vs.set t v)
 | [],vs,t,h=>by grind[eQ,nV]
 | q::ps,vs,0,h=>by
  unfold eQ at h;obtain⟨u,T,rfl,_,h2⟩:=h;simp only[nV,List.set_cons_zero];unfold eQ;grind
 | q::ps,vs,t+1,h=>by
  unfold eQ at h;obtain⟨u,T,rfl,h1,h2⟩:=h;simp only[nV,List.set_cons_succ];unfold eQ;exact⟨u,_,rfl,h1,eQ.set J ps T t h2⟩
theorem eQ.app {w:World}{Y:Nat->Prop}{σ:Sg}:∀ (ps qs:List PV) (vs us:List Value),eQ w Y σ ps vs->eQ w Y σ qs us->eQ w Y σ (vY ps qs) (vs++us)
 | [],qs,vs,us,h,k=>by grind[eQ,vY]
 | p::ps,qs,vs,us,h,k=>by
  unfold eQ at h;obtain⟨v,T,rfl,h1,h2⟩:=h;simp only[vY,List.cons_append];unfold eQ;exact⟨v,_,rfl,h1,eQ.app ps qs T us h2 k⟩
@[simp] theorem wE:∀ l,oq l=l.length
 | []=>rfl
 | _::l=>by simp[oq,wE l]
@[simp] theorem NH:∀ n l,UN n l=l.take n
 | 0,l=>by simp[UN]
 | n+1,[]=>by simp[UN]
 | n+1,x::l=>by simp[UN,NH n l]
@[simp] theorem zL:∀ n l,Hl n l=l.drop n
 | 0,l=>by simp[Hl]
 | n+1,[]=>by simp[Hl]
 | n+1,x::l=>by simp[Hl,zL n l]
@[simp] theorem ZE:∀ l m,vY l m=l++m
 | [],m=>by simp[vY]
 | x::l,m=>by simp[vY,ZE l m]
theorem ug:∀ l n v,nV l n v=l.set n v
 | [],n,v=>by simp[nV]
 | x::l,0,v=>by simp[nV]
 | x::l,n+1,v=>by simp[nV,ug l n v]
theorem F6:∀ l n,ji l n=l.getD n .undef
 | [],n=>by simp[ji]
 | x::l,0=>by simp[ji]
 | x::l,n+1=>by simpa [ji] using F6 l n
theorem Qm {w:World}{Y:Nat->Prop}{σ:Sg}{p:PV}{v:Value}(T:xR p=true)(h:Rep w Y σ p v):Ql v=true:=by
 cases p<;>simp[xR] at T<;>unfold Rep at h
 case sl=>obtain⟨_,_,_,e,_⟩:=h;subst e;rfl
 case os=>
  rcases h with ⟨_,_,_,e,_⟩|⟨_,_,e⟩<;>subst e<;>rfl
 case lv=>obtain⟨_,_,e⟩:=h;subst e;rfl
 case lp=>obtain⟨_,_,e⟩:=h;subst e;rfl
 case mp=>obtain⟨_,_,e⟩:=h;subst e;rfl
 case pp=>obtain⟨_,_,e,_⟩:=h;subst e;rfl
 case fn=>obtain⟨_,e,_⟩:=h;subst e;rfl
 case ow=>rcases h with ⟨_,e,_⟩|⟨_,_,_,e⟩<;>subst e<;>rfl
 case bo=>rcases h with ⟨_,e,_⟩|⟨_,_,_,e⟩<;>subst e<;>rfl
 case hc=>exact h
 all_goals (subst h;rfl)
theorem aby {w:World}{Y:Nat->Prop}{σ:Sg}{p:PV}{v:Value}(h:Rep w Y σ p v):Rep w Y σ (afv p) v:=by
 grind[afv,Rep,Qm]
theorem iW.hid {w:World}{Y:Nat->Prop}{σ:Sg}{b:Nat}:∀ (cs:List PV) (c o:Nat),iW w Y σ b cs o->iW w Y σ b (nV cs c (afv (ji cs c))) o
 | [],c,o,h=>by cases c<;>exact h
 | x::cs,0,o,h=>by
  grind[iW,nV,ji,aby]
 | x::cs,c+1,o,h=>by
  unfold iW at h;simp only[nV,ji];unfold iW;exact⟨h.1,iW.hid cs c (o+1) h.2⟩
theorem eQ.hid {w:World}{Y:Nat->Prop}{σ:Sg}:∀ (cs:List PV) (c:Nat) (vs:List Value),eQ w Y σ cs vs->eQ w Y σ (nV cs c (afv (ji cs c))) vs
 | [],c,vs,h=>by cases c<;>exact h
 | x::cs,0,vs,h=>by
  grind[eQ,nV,ji,aby]
 | x::cs,c+1,vs,h=>by
  unfold eQ at h;simp only[nV,ji];unfold eQ;obtain⟨v,T,e,h1,h2⟩:=h;exact⟨v,T,e,h1,eQ.hid cs c T h2⟩
theorem agO {w:World}{Y:Nat->Prop}{σ:Sg}(c:Nat)(p:PV)(v:Value)(h:Rep w Y σ p v):Rep w Y σ (ajd c p) v:=by
 unfold ajd
 grind[Rep,eQ.hid,iW.hid]
theorem eQ.amr {w:World}{Y:Nat->Prop}{σ:Sg}(f:PV->PV)(U:∀ p v,Rep w Y σ p v->Rep w Y σ (f p) v):∀ (ps:List PV) (i:Nat) (vs:List Value),eQ w Y σ ps vs->eQ w Y σ (nV ps i (f (ji ps i))) vs
 | [],i,vs,h=>by cases i<;>exact h
 | x::ps,0,vs,h=>by
  grind[eQ,nV,ji]
 | x::ps,i+1,vs,h=>by
  unfold eQ at h;simp only[nV,ji];unfold eQ;obtain⟨v,T,e,h1,h2⟩:=h;exact⟨v,T,e,h1,eQ.amr f U ps i T h2⟩
theorem GU {w:World}{Y:Nat->Prop}{σ:Sg}:∀ (l:List (Nat×Nat)) (ps:List PV) (vs:List Value),eQ w Y σ ps vs->eQ w Y σ (Hm l ps) vs
 | [],ps,vs,h=>h
 | (i,c)::l,ps,vs,h=>GU l _ vs (eQ.amr (ajd c) (λp v h=>agO c p v h) ps i vs h)
theorem iW.get {w:World}{Y:Nat->Prop}{σ:Sg}{b:Nat}:∀ (ps:List PV) (o i:Nat),iW w Y σ b ps o->i<ps.length->∃ v,w.cell? ⟨b,o+i,none⟩=some v/\Rep w Y σ (ji ps i) v
 | [],_,_,_,h=>by simp at h
 | p::ps,o,0,h,_=>by grind[iW,ji]
 | p::ps,o,i+1,h,hi=>by
  unfold iW at h;have:=iW.get ps (o+1) i h.2 (by simpa using hi)
  grind[ji]
theorem iW.drop {w:World}{Y:Nat->Prop}{σ:Sg}{b:Nat}:∀ (n:Nat) (ps:List PV) (o:Nat),iW w Y σ b ps o->iW w Y σ b (ps.drop n) (o+n)
 | 0,ps,o,h=>by simpa using h
 | n+1,[],o,h=>by simp[iW]
 | n+1,p::ps,o,h=>by
  unfold iW at h;have:=iW.drop n ps (o+1) h.2
  grind
theorem iW.take {w:World}{Y:Nat->Prop}{σ:Sg}{b:Nat}:∀ (n:Nat) (ps:List PV) (o:Nat),iW w Y σ b ps o->iW w Y σ b (ps.take n) o
 | 0,ps,o,h=>by simp[iW]
 | n+1,[],o,h=>by simp[iW]
 | n+1,p::ps,o,h=>by
  unfold iW at h;simp only[List.take_succ_cons];unfold iW;exact⟨h.1,iW.take n ps (o+1) h.2⟩
theorem iW.vals {w:World}{Y:Nat->Prop}{σ:Sg}{b:Nat}:∀ (ps:List PV) (o:Nat),iW w Y σ b ps o ->
  ∃ vs:List Value,eQ w Y σ ps vs/\∀ i v,vs[i]?=some v->w.cell? ⟨b,o+i,none⟩=some v
 | [],o,_=>⟨[],by unfold eQ;rfl,by simp⟩
 | p::ps,o,h=>by
  unfold iW at h;obtain⟨⟨v,hc,h1⟩,h2⟩:=h;obtain⟨vs,hr,hv⟩:=iW.vals ps (o+1) h2;refine⟨v::vs,by unfold eQ;grind,λi u hu=>?_⟩
  grind
theorem iW.Lt {w:World}{Y:Nat->Prop}{σ:Sg}{b:Nat}:∀ (ps:List PV) (vs:List Value) (o:Nat),eQ w Y σ ps vs->(∀ i v,vs[i]?=some v->w.cell? ⟨b,o+i,none⟩=some v)->iW w Y σ b ps o
 | [],vs,o,_,_=>by unfold iW;trivial
 | p::ps,vs,o,h,hc=>by
  unfold eQ at h;obtain⟨v,T,rfl,h1,h2⟩:=h;unfold iW;refine⟨⟨v,by simpa using hc 0 v rfl,h1⟩,iW.Lt ps T (o+1) h2 λi u hu=>?_⟩;rw[show o+1+i=o+(i+1) by omega];simp_all
theorem je.row {w:World}{Y:Nat->Prop}{σ:Sg}{b sz:Nat}:∀ (rs:List (List PV)) (o i:Nat) (row:List PV),je w Y σ b sz rs o->rs[i]?=some row->(row.length=sz/\iw row=true)/\iW w Y σ b row (o+i*sz)
 | [],_,_,_,_,h=>by simp at h
 | r::rs,o,0,row,h,hi=>by grind[je]
 | r::rs,o,i+1,row,h,hi=>by
  unfold je at h;have:=je.row rs (o+sz) i row h.2.2 (by simpa using hi)
  grind
theorem je.drop {w:World}{Y:Nat->Prop}{σ:Sg}{b sz:Nat}:∀ (n:Nat) (rs:List (List PV)) (o:Nat),je w Y σ b sz rs o->je w Y σ b sz (rs.drop n) (o+n*sz)
 | 0,rs,o,h=>by simpa using h
 | n+1,[],o,h=>by simp[je]
 | n+1,r::rs,o,h=>by
  unfold je at h;have:=je.drop n rs (o+sz) h.2.2
  grind
theorem je.take {w:World}{Y:Nat->Prop}{σ:Sg}{b sz:Nat}:∀ (n:Nat) (rs:List (List PV)) (o:Nat),je w Y σ b sz rs o->je w Y σ b sz (rs.take n) o
 | 0,rs,o,h=>by simp[je]
 | n+1,[],o,h=>by simp[je]
 | n+1,r::rs,o,h=>by
  unfold je at h;simp only[List.take_succ_cons];unfold je;exact⟨h.1,h.2.1,je.take n rs (o+sz) h.2.2⟩
theorem je.app {w:World}{Y:Nat->Prop}{σ:Sg}{b sz:Nat}:∀ (rs qs:List (List PV)) (o:Nat),je w Y σ b sz rs o->je w Y σ b sz qs (o+rs.length*sz)->je w Y σ b sz (rs++qs) o
 | [],qs,o,_,k=>by simpa using k
 | r::rs,qs,o,h,k=>by
  unfold je at h;simp only[List.cons_append];unfold je;refine⟨h.1,h.2.1,je.app rs qs (o+sz) h.2.2 ?_⟩
  grind
end Go.Pv
namespace Go.Pv
open Go
inductive Tr (α:Type) where
 | e
 | n (v:α) (l r:Tr α)
abbrev Sb:=Tr (Option lW)
abbrev Rs:=Option (PV×Dl)
structure EV where
 tm:Tr PV
 n:Nat
 st:Sb
 nx:Nat
abbrev Oe:=Option EV
abbrev aky:=Nat->List PV->Sb->Nat->Option (PV×Sb×Nat)
inductive Nm where
 | no
 | one (b:Nat)
 | var (b:Nat)
 | many (l:List PV)
noncomputable def getP:Tr PV->Nat->PV:=λt k=>Tr.rec (motive:=λ_=>Nat->PV) (λ_=>PV.undef) (λv _ _ gl gr k=>Nat.rec (motive:=λ_=>PV) v (λm _=>Bool.rec (motive:=λ_=>PV) (gr (Nat.div m 2)) (gl (Nat.div m 2)) (Nat.beq (Nat.mod m 2) 0)) k) t k
noncomputable def agP:Sb->Nat->Option lW:=λt k=>Tr.rec (motive:=λ_=>Nat->Option lW) (λ_=>none) (λv _ _ gl gr k=>Nat.rec (motive:=λ_=>Option lW) v (λm _=>Bool.rec (motive:=λ_=>Option lW) (gr (Nat.div m 2)) (gl (Nat.div m 2)) (Nat.beq (Nat.mod m 2) 0)) k) t k
noncomputable def setP:PV->Nat->Tr PV->Tr PV:=λx k t=>Nat.rec (motive:=λ_=>PV->Nat->Tr PV->Tr PV) (λ_ _ t=>t) (λ_ ih x k t=>Tr.rec (motive:=λ_=>Tr PV) (Nat.rec (motive:=λ_=>Tr PV) (Tr.n x Tr.e Tr.e) (λm _=>Bool.rec (motive:=λ_=>Tr PV) (Tr.n PV.undef Tr.e (ih x (Nat.div m 2) Tr.e)) (Tr.n PV.undef (ih x (Nat.div m 2) Tr.e) Tr.e) (Nat.beq (Nat.mod m 2) 0)) k) (λv l r _ _=>Nat.rec (motive:=λ_=>Tr PV) (Tr.n x l r) (λm _=>Bool.rec (motive:=λ_=>Tr PV) (Tr.n v l (ih x (Nat.div m 2) r)) (Tr.n v (ih x (Nat.div m 2) l) r) (Nat.beq (Nat.mod m 2) 0)) k) t) (Nat.succ k) x k t
noncomputable def setB:Option lW->Nat->Sb->Sb:=λx k t=>Nat.rec (motive:=λ_=>Option lW->Nat->Sb->Sb) (λ_ _ t=>t) (λ_ ih x k t=>Tr.rec (motive:=λ_=>Sb) (Nat.rec (motive:=λ_=>Sb) (Tr.n x Tr.e Tr.e) (λm _=>Bool.rec (motive:=λ_=>Sb) (Tr.n none Tr.e (ih x (Nat.div m 2) Tr.e)) (Tr.n none (ih x (Nat.div m 2) Tr.e) Tr.e) (Nat.beq (Nat.mod m 2) 0)) k) (λv l r _ _=>Nat.rec (motive:=λ_=>Sb) (Tr.n x l r) (λm _=>Bool.rec (motive:=λ_=>Sb) (Tr.n v l (ih x (Nat.div m 2) r)) (Tr.n v (ih x (Nat.div m 2) l) r) (Nat.beq (Nat.mod m 2) 0)) k) t) (Nat.succ k) x k t
noncomputable def appR:List PV->List PV->List PV:=λl m=>List.rec (motive:=λ_=>List PV) m (λx _ ih=>x::ih) l
noncomputable def ak4:Nat->List PV->List PV:=λn l=>Nat.rec (motive:=λ_=>List PV->List PV) (λ_=>[]) (λ_ ih l=>appR l (ih l)) n l
noncomputable def notB:Bool->Bool:=λb=>Bool.rec (motive:=λ_=>Bool) true false b
noncomputable def Fe:Dl->Dl->Dl:=λl m=>List.rec (motive:=λ_=>Dl) m (λx _ ih=>x::ih) l
noncomputable def one (v:PV):Rs:=some (v,[])
abbrev Plc:=Nat->(Nat->Nat->Rs)->Rs
noncomputable def agQ:Tr PV->Nat->Option Nat->PV->Tr PV:=λtm n dst v=>Option.rec (motive:=λ_=>Tr PV) tm (λd=>Bool.rec (motive:=λ_=>Tr PV) tm (setP v d tm) (Nat.ble (Nat.succ d) n)) dst
noncomputable def noN:Option lW->Option lW:=λx=>Option.rec (motive:=λ_=>Option lW) none (λx=>lW.rec (motive:=λ_=>Option lW) (λro row=>some (lW.var ro row)) (λro sz rows=>some (lW.arr ro sz rows)) (λ_ _=>none) (λrows=>some (lW.map rows)) (λsz rows r row=>some (lW.nor sz rows r row)) x) x
noncomputable def akz:Dl->Sb->Sb:=λδ st=>List.rec (motive:=λ_=>Sb->Sb) (λst=>st) (λx _ ih st=>ih (setB (noN x.2) x.1 st)) δ st
noncomputable def ams:Dl->List Nat:=λδ=>List.rec (motive:=λ_=>List Nat) [] (λx _ ih=>x.1::ih) δ
noncomputable def allR (f:Nat->Bool):List Nat->Bool:=λl=>List.rec (motive:=λ_=>Bool) true (λx _ ih=>Bool.rec (motive:=λ_=>Bool) false ih (f x)) l
noncomputable def fin:Rs->Tr PV->Nat->Sb->Nat->Option Nat->Oe:=λr tm n st nx dst=>Option.rec (motive:=λ_=>Oe) none (λp=>Prod.rec (motive:=λ_=>Oe) (λv δ=>List.rec (motive:=λ_=>Oe) (some ⟨agQ tm n dst v,n,st,nx⟩) (λ_ _ _=>Bool.rec (motive:=λ_=>Oe) none (Nat.rec (motive:=λ_=>Oe) (some ⟨agQ tm n dst v,n,akz δ st,1⟩) (λm _=>some ⟨agQ tm n dst v,n,akz δ st,Nat.succ (Nat.succ m)⟩) nx) (allR (λb=>Nat.ble b nx) (ams δ))) δ) p) r
noncomputable def XY:List Nat->Nat->Bool:=λl b=>List.rec (motive:=λ_=>Bool) false (λc _ ih=>Bool.rec (motive:=λ_=>Bool) ih true (Nat.beq c b)) l
noncomputable def meets:List Nat->List Nat->Bool:=λl m=>List.rec (motive:=λ_=>Bool) false (λc _ ih=>Bool.rec (motive:=λ_=>Bool) ih true (XY m c)) l
where
 eqRow (f:PV->PV->Bool):List PV->List PV->Bool
  | [],[]=>true
  | x::xs,y::ys=>f x y&&eqRow f xs ys
  | _,_=>false
 eqRows (f:PV->PV->Bool):List (List PV)->List (List PV)->Bool
  | [],[]=>true
  | x::xs,y::ys=>eqRow f x y&&eqRows f xs ys
  | _,_=>false
abbrev Tc:=List Nat×List Nat×List Nat
noncomputable def pairT (B:List (List Nat))(i k:Nat)(x y:Tc):Bool :=
 match meets x.2.1 y.1 || (meets x.2.1 y.2.1 || meets y.2.1 x.1) with
 | false=>true
 | true=>XY (DD B k) i || notB (meets x.2.2 y.1 || (meets x.2.2 y.2.2 || meets y.2.2 x.1))
noncomputable def agR (B:List (List Nat))(i:Nat)(x:Tc):List Tc->Nat->Bool
 | [],_=>true
 | y::l,k=>pairT B i k x y&&agR B i x l (k+1)
noncomputable def afA (B:List (List Nat)):List Tc->Nat->Bool
 | [],_=>true
 | x::l,i=>agR B i x l (i+1)&&afA B l (i+1)
end Go.Pv
namespace Go.Pv
open Go
def YOK {T:Tab}(C:Ctx T):Prop:=∀ l rc pv,T.yl=some (l,rc,pv)->C.Y0 l/\¬ C.M l/\C.w0.heap[l]?=some (.loop rc)/\0<T.qc/\∃ l0,C.base 0=some l0/\pv=.pointer (some ⟨l0.cb,l0.co,none⟩)
def DF {T:Tab}(C:Ctx T)(a:Act):Prop:=a.defers=C.df/\YOK C
theorem YOK.none {T:Tab}{C:Ctx T}(h:T.yl=none):YOK C:=λ_ _ _ e=>by grind
theorem DF.put {T:Tab}{C:Ctx T}{a:Act}(h:DF C a)(d:Option Nat)(v:Value):DF C (a.put d v):=⟨by cases d<;>exact h.1,h.2⟩
def kZ {T:Tab}(C:Ctx T)(E:Env)(a:Act)(w:World):Prop:=ak3 C E a.tmps.toList w/\DF C a
def lift {T:Tab}(C:Ctx T)(Q:Post):Exit->Act->World->Prop
 | .normal,a,w=>∃ E,kZ C E a w/\Q 0 E
 | .ret,a,w=>∃ E,kZ C E a w/\Q 1 E
 | .exit n,a,w=>∃ E,kZ C E a w/\Q (n+2) E
 | _,_,_=>False
def VF (P:Program)(T:Tab)(c:Code)(Q:Post)(E:Env):Prop:=∀ (C:Ctx T) a w,kZ C E a w->c.wp P (lift C Q) a w
def UY (P:Program)(T:Tab)(k:Nat)(args:List PV)(E:Env)(K:PV->Env->Prop):Prop := ∀ (C:Ctx T) (Y:Nat->Prop) (σ:Sg) (w:World) (vs cargs:List Value),SW C w Y σ E.tmps vs E.st E.next->eQ w Y σ args cargs -> (callFunc k cargs.toArray).run P w=.ok (.enter k cargs.toArray) w /\ Calls P k cargs.toArray w λe w'=>∃ cv v E' Y' σ',e=.returned cv/\K v E'/\SW C w' Y' σ' E'.tmps vs E'.st E'.next/\Rep w' Y' σ' v cv
def ak5 (P:Program)(T:Tab)(l:Nat)(rc:Loop)(pv:Value)(args:List PV)(E:Env)(K:PV->Env->Prop):Prop := ∀ (C:Ctx T) (Y:Nat->Prop) (σ:Sg) (w:World) (vs cargs:List Value),SW C w Y σ E.tmps vs E.st E.next->eQ w Y σ args cargs->C.Y0 l->w.heap[l]?=some (.loop rc)->Rep w Y σ (.lv 0 0) pv -> cargs.length=rc.params.size /\ RoundIn Fence.wide 0 P l rc.fn ((rc.params.zip cargs.toArray).foldl (λtmps (t,a)=>tmps.setIfInBounds t a) rc.tmps) rc.assign rc.body w λe w'=>∃ cv v E' Y' σ',e=.returned cv/\K v E'/\SW C w' Y' σ' E'.tmps vs E'.st E'.next/\Rep w' Y' σ' v cv
def marks (D:List Nat):List Deferred:=D.map λr=>{ target:=.collected r,args:=#[] }
def NI (B:Nat)(D:List Nat)(w:World)(Y:Nat->Prop):Prop:=D.Nodup/\∀ r∈D,B<=r/\Y r/\w.heap[r]?=some (.deferred (some []))
def ZF {T:Tab}(C:Ctx T)(D:List Nat)(E:Env)(a:Act)(w:World):Prop := ∃ Y σ,SW C w Y σ E.tmps a.tmps.toList E.st E.next/\a.defers=marks D/\NI C.w0.heap.size D w Y
def afB (P:Program)(T:Tab)(g:Operand)(ps:Array Tmp)(x y:Code)(K:Env->Prop)(E:Env):Prop := ∀ (C:Ctx T) D a w,ZF C D E a w->(Code.rangeFunc g ps x y).wp P (λe a' w'=>e=.normal/\∃ E' D',ZF C D' E' a' w'/\K E') a w
def Fn (P:Program)(G:Nat->Option (List PV))(k:Nat)(args:List PV)(R:PV->Prop):Prop := ∀ (w:World) (Y:Nat->Prop) (cargs:List Value),Vs G w Y->(∀ b,Y b->b<w.heap.size)->eQ w Y ik args cargs -> (callFunc k cargs.toArray).run P w=.ok (.enter k cargs.toArray) w /\ Calls P k cargs.toArray w λe w'=>∃ cv v,e=.returned cv/\R v/\Rep w' Y ik v cv/\Chg w w'
def Ff (σ:Sg)(st:St)(k:Nat):Prop:=∃ b x l,iV st b=some x/\σ b=some l/\l.cb=k
def yS (T:Tab)(w:World)(Y:Nat->Prop)(σ:Sg)(st:St):Ctx T:=⟨w,λk=>Y k/\¬ Ff σ st k,Ff σ st,λk=>Y k/\Ff σ st k,σ,[]⟩
def FnS (P:Program)(G:Nat->Option (List PV))(k:Nat)(args:List PV)(st:St)(n:Nat)(R:PV->St->Nat->Prop):Prop := ∀ (w:World) (Y:Nat->Prop) (σ:Sg) (cargs:List Value),Vs G w Y->(∀ b,Y b->b<w.heap.size)->(∀ b,n<=b->σ b=none)->eQ w Y σ args cargs->FW w Y σ st->lF st=true -> (callFunc k cargs.toArray).run P w=.ok (.enter k cargs.toArray) w /\ Calls P k cargs.toArray w λe w'=>∃ cv v st' n' Y' σ',e=.returned cv/\R v st' n'/\SW (yS ⟨λ_=>.bad,G,n,[],0,[],[],none,λ_=>[]⟩ w Y σ st) w' Y' σ' [v] [cv] st' n'
def YS (P:Program)(G:Nat->Option (List PV))(l:Nat)(rc:Loop)(pv:Value)(args:List PV)(st:St)(n:Nat)(R:PV->St->Nat->Prop):Prop := ∀ (w:World) (Y:Nat->Prop) (σ:Sg) (cargs:List Value),Vs G w Y->(∀ b,Y b->b<w.heap.size)->(∀ b,n<=b->σ b=none)->eQ w Y σ args cargs->FW w Y σ st->lF st=true -> Y l->w.heap[l]?=some (.loop rc)->Rep w Y σ (.lv 0 0) pv -> cargs.length=rc.params.size /\ RoundIn Fence.wide 0 P l rc.fn ((rc.params.zip cargs.toArray).foldl (λtmps (t,a)=>tmps.setIfInBounds t a) rc.tmps) rc.assign rc.body w λe w'=>∃ cv u st' n' Y' σ',e=.returned cv/\R u st' n'/\SW (yS ⟨λ_=>.bad,G,n,[],0,[],[],none,λ_=>[]⟩ w Y σ st) w' Y' σ' [u] [cv] st' n'
def FnY (P:Program)(G:Nat->Option (List PV))(k:Nat)(args:List PV)(st:St)(n:Nat)(Yc:Nat->Loop->Value->Prop)(R:PV->St->Nat->Prop):Prop := ∀ (l:Nat) (rc:Loop) (pv:Value),Yc l rc pv->∀ (w:World) (Y:Nat->Prop) (σ:Sg) (cargs:List Value),Vs G w Y->(∀ b,Y b->b<w.heap.size)->(∀ b,n<=b->σ b=none)->eQ w Y σ (.yl l::args) cargs->FW w Y σ st->lF st=true -> Y l->w.heap[l]?=some (.loop rc)->Rep w Y σ (.lv 0 0) pv -> (callFunc k cargs.toArray).run P w=.ok (.enter k cargs.toArray) w /\ Calls P k cargs.toArray w λe w'=>∃ cv v st' n' Y' σ',e=.returned cv/\R v st' n'/\SW (yS ⟨λ_=>.bad,G,n,[],0,[],[],none,λ_=>[]⟩ w Y σ st) w' Y' σ' [v] [cv] st' n'
structure RngS (P:Program)(T:Tab)(x y:Code)(ps:Array Tmp)(t0 len k b0:Nat)(ρ:List Nat)(as:List PV)(st0:St)(E:Env)(K:Env->Prop):Prop where
 out:NG ρ=true/\ltN E.next ρ=true/\lF E.st=true/\lF st0=true/\ρ[0]?=some b0/\∃ v st1 n1 Yc,FnY P T.gl k as st0 (lH ρ) Yc (λu st n=>u=v/\st=st1/\n=n1) /\
  (∀ l rc pv,rc.assign=x->rc.body=y->rc.state=.ready->rc.pending=none->rc.params=ps->rc.tmps.toList[t0]?=some pv->rc.tmps.size=len->Yc l rc pv)/\lF (F5 ρ E st1 n1).st=true/\K (F5 ρ E st1 n1)
def Ent (T:Tab)(E F:Env):Prop:=∀ (C:Ctx T) a w,kZ C E a w->kZ C F a w
theorem Ent.refl {T:Tab}(E:Env):Ent T E E:=λ_ _ _ h=>h
def fzC:PV->PV
 | .ow _ sz es=>.sl sz es false
 | v=>v
def aev:List PV->Option Int
 | [.si .u8 n]=>some n
 | [.int .u8 n]=>some n
 | _=>none
noncomputable def DI:List (List PV)->Int->Option (List PV)
 | (.si _ k::cs)::l,n=>if k=n then some cs else DI l n
 | _::l,n=>DI l n
 | [],_=>none
def TD:List (List PV)->Int->List PV->List (List PV)
 | (.si t k::cs)::l,n,xs=>if k=n then(.si t n::xs)::l else(.si t k::cs)::TD l n xs
 | r::l,n,xs=>r::TD l n xs
 | [],n,xs=>[.si .i64 n::xs]
def iq.jq (P:Program)(T:Tab):iq where
 bin:=iM
 cmp:=AL
 conv k n:=k.wrap n
 neg k n:=k.wrap (0-n)
 beq a b:=a==b
 band a b:=a&&b
 ajb:=gp
 slen s:=(s.size:Int)
 akV a b:=if b<a then b else a
 akW a b:=if b > a then b else a
 len es:=(es.length:Int)
 xQ n:=(n:Int)
 FY a b:=a+b
 abq a b:=a-b
 app a b:=a++b
 sub rows r n:=(rows.drop r).take n
 spl rows r new:=rows.take r++new++rows.drop (r+new.length)
 Hg rows i r:=rows.set i r
 rep n r:=List.replicate n r
 fE es:=es.length
 br b t f:=(b=true->t ())/\(b=false->f ())
 rng g ps x y K E:=afB P T g ps x y K E
 akX x y ps t0 len k b0 ρ as st0 E K:=RngS P T x y ps t0 len k b0 ρ as st0 E K
 yld l args E ρ as st0 K:=∃ rc pv v st1 n1,T.yl=some (l,rc,pv)/\as=BA (wz (zK ρ) 8) args/\st0=zq (zK ρ) E.st 0 ρ/\NG ρ=true/\ltN E.next ρ=true/\lF st0=true/\ρ[0]?=some 0/\YS P T.gl l rc pv as st0 (lH ρ) (λu st n=>u=v/\st=st1/\n=n1)/\K (wz (Dx ρ E.next) 8 v) (F5 ρ E st1 n1)
 call k args E lend free ρ as st0 K :=
  (∃ bs v,lend=some bs/\Fn P T.gl k bs (λu=>u=v)/\Kv 6 v=true/\K v E) \/
  (∃ bs v,free=some bs/\Fn P T.gl k bs (λu=>u=v)/\K v ⟨E.tmps,roS E.st ρ,E.next⟩) \/
  (∃ v st1 n1,NG ρ=true/\ltN E.next ρ=true/\lF st0=true/\FnS P T.gl k as st0 (lH ρ) (λu st n=>u=v/\st=st1/\n=n1)/\K (wz (Dx ρ E.next) 8 v) (F5 ρ E st1 n1)) \/
  UY P T k args E K
 V6 k args K:=∃ v,Fn P T.gl k args (λu=>u=v)/\K v
 UM k args as bs E K:=(∃ v,Fn P T.gl k as (λu=>u=v)/\K v E)\/(∃ v st1 n1,FnS P T.gl k bs [] 0 (λu st n=>u=v/\st=st1/\n=n1)/\K (wz (Dx [] E.next) 8 v) (F5 [] E st1 n1))\/UY P T k args E K
 Yo k args K:=∃ v,Fn P T.gl k args (λu=>u=v)/\Kv 6 v=true/\K v
 agx k as K:=∃ v x,FnS P T.gl k as [] 0 (λu st n=>u=v/\st=[(0,some x)]/\n=1)/\K v x
 Yp k as st0 ρ K:=∃ v st1 n1,lF st0=true/\FnS P T.gl k as st0 (lH ρ) (λu st n=>u=v/\st=st1/\n=n1)/\K v st1 n1
 loop c Q E:=VF P T (.loop c) Q E
 seq _ _ A B Q:=∃ Q',A Q'/\∀ n E,Q' n E->∃ F,Ent T E F/\JM B Q n F
 idx es i K:=∃ (j:Nat) (row:List PV),i=(j:Int)/\es[j]?=some row/\K row
 ix n i K:=∃ j:Nat,i=(j:Int)/\j<n/\K j
 row rows j K:=∃ row,rows[j]?=some row/\K row
 agy s i K:=∃ (j:Nat) (c:UInt8),i=(j:Int)/\s[j]?=some c/\K (c.toNat:Int)
 div op k a b K:=b≠0/\K (match op with|.quo=>k.wrap (a.tdiv b)|_=>a.tmod b)
 shf op k a y K:=0<=y/\K (match op with|.shl=>k.wrap (a*2 ^ (min y.toNat k.bits))|_=>a.fdiv (2 ^ (min y.toNat k.bits)))
 agz a b K:=a.size+b.size<=4611686018427387904/\K (a++b)
 mks n m bytes K:=∃ j:Nat,n=(j:Int)/\n<=m/\(bytes:Int)*m<=140737488355328/\m<=9223372036854775807/\K j
 room n bytes K:=(2*n+192)*bytes<=140737488355328/\n<=4611686018427387904/\K
 slc len a b K:=∃ i j:Nat,a=(i:Int)/\b=(j:Int)/\i<=j/\j<=len/\K i j
 acU s a b K:=∃ i j:Nat,a=(i:Int)/\b=(j:Int)/\i<=j/\j<=s.size/\K (s.extract i j)
 V7 es K:=∀ b:Bool,(b=true->es=[])->K b
 toS t rows K:=(∃ e,P.underlying t=some (.slice e)/\P.underlying e=some (.int .u8))/\∃ s:ByteArray,rows.map aev=s.data.toList.map (λc=>some (c.toNat:Int))/\K s
 toB t b K:=(∃ e,P.underlying t=some (.slice e)/\P.underlying e=some (.int .u8))/\K (b.data.toList.map λc=>[.si .u8 (c.toNat:Int)])
 wk cs K:=∃ cs',cs'.length=cs.length/\(iw cs=true->iw cs'=true)/\(∀ (w:World) (Y:Nat->Prop) (σ:Sg) (vs:List Value),eQ w Y σ cs vs->eQ w Y σ cs' vs)/\K cs'
 order l p:=Hr T l=true/\p
 last l p:=Qi l=true/\p
 afu l tr p:=(Hq l l.toList 0&&afA (Wn l.toList []) tr 0)=true/\p
 nu K:=∀ h,K h
 same h h' p:=h=h'/\p
 fz rows:=rows.map λrow=>row.map fzC
 akY rows n z K:=(∀ cs,DI rows n=some cs->K cs true)/\(DI rows n=none->∃ cs,(∀ (w:World) (Y:Nat->Prop) (σ:Sg) (vs:List Value),eQ w Y σ z vs->eQ w Y σ cs vs)/\K cs false)
 ajc rows n cs:=TD rows n cs
theorem BH {P:Program}{T:Tab}{cs:List PV}{K:List PV->Prop}(h:wkC (iq.jq P T) cs K):∃ J,J.length=cs.length/\(iw cs=true->iw J=true)/\(∀ (w:World) (Y:Nat->Prop) (σ:Sg) (vs:List Value),eQ w Y σ cs vs->eQ w Y σ J vs)/\K J/\∀ I : List PV->Prop,I J->wkC (iq.jq P T) cs I:=by
 unfold wkC at h |-
 cases t:V9 cs with
 | true=>
  rw[t] at h;simp only;obtain⟨J,h1,h2,C,g⟩:=h;exact⟨J,h1,h2,C,g,λI hk=>⟨J,h1,h2,C,hk⟩⟩
 | false=>
  grind
theorem ajg {w:World}{Y:Nat->Prop}{σ:Sg}(n:Nat)(p:PV)(v:Value)(h:Rep w Y σ p v):Rep w Y σ (owC n p) v:=by
 unfold owC
 split
 split
 split
 unfold Rep at h |-;obtain⟨a,len,cap,e,T,hc,U,_⟩:=h;have T:len=0:=by simpa using T
 subst T;have U:=U rfl;subst U;exact .inr ⟨rfl,rfl,a,e⟩
 exact h
 exact h
 exact h
theorem ZG {w:World}{Y:Nat->Prop}{σ:Sg}(n:Nat):∀ (ps:List PV) (vs:List Value),eQ w Y σ ps vs->eQ w Y σ (owZ n ps) vs
 | [],vs,h=>h
 | p::ps,vs,h=>by
  unfold eQ at h;obtain⟨v,T,e,h1,h2⟩:=h;unfold owZ eQ;exact⟨v,T,e,ajg n p v h1,ZG n ps T h2⟩
theorem ZH (n:Nat):∀ ps:List PV,(owZ n ps).length=ps.length
 | []=>rfl
 | p::ps=>by simp[owZ,ZH n ps]
theorem agS (n:Nat)(p:PV):xR (owC n p)=xR p:=by
 unfold owC
 split
 split
 split<;>rfl
 rfl
 rfl
theorem Ws (n:Nat):∀ ps:List PV,iw (owZ n ps)=iw ps
 | []=>rfl
 | p::ps=>by simp[owZ,iw,Ws n ps,agS]
theorem TE {n:Nat}{h:Hdr}{sz:Nat}{T:List (List PV)}:∀ {ps:List PV},(∀ h sz T,PV.ow h sz T ∉ ps)->∀ c:Nat,(owZ n ps)[c]?=some (.ow h sz T)->h.cap=0
 | [],_,c,e=>by simp[owZ] at e
 | p::ps,hno,0,e=>by
  simp only[owZ,List.getElem?_cons_zero,Option.some.injEq] at e;unfold owC at e
  split at e
  split at e
  split at e
  cases e;rfl
  cases e
  cases e
  grind
 | p::ps,hno,c+1,e=>by
  simp only[owZ,List.getElem?_cons_succ] at e;exact TE (λh sz T J=>hno h sz T (List.mem_cons_of_mem _ J)) c e
theorem aew {P:Program}{T:Tab}{lN:Nat}{cs:List PV}{K:List PV->Prop}(h:wkN (iq.jq P T) lN cs K):∃ J,J.length=cs.length/\(iw cs=true->iw J=true)/\(∀ (w:World) (Y:Nat->Prop) (σ:Sg) (vs:List Value),eQ w Y σ cs vs->eQ w Y σ J vs)/\K J/\(∀ n,lN=n+1->UR cs=true->J=owZ n cs)/\∀ I : List PV->Prop,I J->wkN (iq.jq P T) lN cs I:=by
 unfold wkN at h |-
 cases lN with
 | zero=>
  grind[BH]
 | succ n=>
  cases hs:UR cs with
  | true=>
   simp only[hs] at h |-;exact⟨owZ n cs,ZH n cs,λh=>by rw[Ws];exact h,λ_ _ _ _ h=>ZG n _ _ h,h,λm C _=>by grind,λI hk=>hk⟩
  | false=>
   grind[BH]
end Go.Pv
namespace Go.Pv
open Go
theorem Qn (w:World)(Y:Nat->Prop)(σ:Sg)(v:Value):Rep w Y σ (Lr v) v:=by
 unfold Lr
 split
 case h_5=>unfold Rep;grind
 all_goals simp[Rep]
theorem Jc (w:World)(Y:Nat->Prop)(σ:Sg):∀ vs:List Value,eQ w Y σ (FZ vs) vs
 | []=>by simp[FZ,eQ]
 | v::vs=>by simp only[FZ];unfold eQ;exact⟨v,vs,rfl,Qn w Y σ v,Jc w Y σ vs⟩
theorem afC (w:World)(Y:Nat->Prop)(σ:Sg)(v:Value):Rep w Y σ (Yq v) v:=by
 unfold Yq
 split<;>grind[Rep,Jc,Qn]
theorem kW {T:Tab}{C:Ctx T}{w:World}{Y:Nat->Prop}{σ:Sg}{ps:List PV}{a:Act}{st:St}{n:Nat}(h:SW C w Y σ ps a.tmps.toList st n)(x:Operand):Rep w Y σ (sK T ps x) (a.eval x):=by
 cases x with
 | tmp t=>
  have:=h.vals.get ps _ t
  grind[sK,Act.eval,Array.getD_eq_getD_getElem?]
 | const v=>exact afC w Y σ v
 | global g=>
  simp only[sK]
  split
  rename_i cs J;exact Rep.keep _ ⟨λ_ _ _=>rfl,λ_ _ h=>h,Nat.le_refl _,λ_ _ h=>by cases h⟩ _ (h.xG g cs J)
  simp[Rep]
 | func f=>simp only[sK,Act.eval];unfold Rep;exact⟨[],rfl,by simp[eQ]⟩
theorem wF {T:Tab}{C:Ctx T}{w:World}{Y:Nat->Prop}{σ:Sg}{ps:List PV}{a:Act}{st:St}{n:Nat}(h:SW C w Y σ ps a.tmps.toList st n):∀ l:List Operand,eQ w Y σ (evA T ps l) (l.map a.eval)
 | []=>by simp[evA,eQ]
 | x::l=>by simp only[evA,List.map_cons];unfold eQ;exact⟨_,_,rfl,kW h x,wF h l⟩
def ve:Dl->Nat->Nat->Nat
 | [],n,_=>n
 | _::_,n,id=>max n (id+1)
def qL {T:Tab}(P:Program)(C:Ctx T)(o:Oper)(a:Act)(w:World)(σ:Sg)(ps:List PV)(st:St)(n id:Nat)(K:PV->Dl->Prop):Prop := ∃ v δ cv w' Y' σ',K v δ/\((execOp a.eval o).run P w=.ok (.value cv) w'\/((execOp a.eval o).run P w=.ok .skip w'/\cv=Go.undef)) /\ SW C w' Y' σ' ps a.tmps.toList (jr δ st) (ve δ n id)/\Rep w' Y' σ' v cv/\Off id σ σ'
theorem qL.quiet {T:Tab}{P:Program}{C:Ctx T}{o:Oper}{a:Act}{w:World}{Y:Nat->Prop}{σ:Sg}{ps:List PV}{st:St}{n id:Nat}{K:PV->Dl->Prop}
  (H:SW C w Y σ ps a.tmps.toList st n) {v:PV} {cv:Value} (hr:(execOp a.eval o).run P w=.ok (.value cv) w) (hv:Rep w Y σ v cv) (J:K v []):qL P C o a w σ ps st n id K :=
 ⟨v,[],cv,w,Y,σ,J,.inl hr,H,hv,Off.refl _ _⟩
theorem zM {w:World}{Y:Nat->Prop}{σ:Sg}{b:Bool}{v:Value}(h:Rep w Y σ (.bool b) v):v=.bool b:=by grind[Rep]
theorem TF {w:World}{Y:Nat->Prop}{σ:Sg}{b:Bool}{v:Value}(h:Rep w Y σ (.sb b) v):v=.bool b:=by grind[Rep]
theorem wG {w:World}{Y:Nat->Prop}{σ:Sg}{k:IntKind}{n:Int}{v:Value}(h:Rep w Y σ (.int k n) v):v=.int k n:=by grind[Rep]
theorem Wu {w:World}{Y:Nat->Prop}{σ:Sg}{k:IntKind}{n:Int}{v:Value}(h:Rep w Y σ (.si k n) v):v=.int k n:=by grind[Rep]
theorem Jd {w:World}{Y:Nat->Prop}{σ:Sg}{s:ByteArray}{v:Value}(h:Rep w Y σ (.str s) v):v=.string s:=by grind[Rep]
theorem qw {w:World}{Y:Nat->Prop}{σ:Sg}{p:PV}{k:IntKind}{n:Int}{v:Value}(h:Rep w Y σ p v)(e:EL p=some (k,n)):v=.int k n:=by
 unfold EL at e
 split at e<;>simp at e<;>obtain⟨rfl,rfl⟩:=e
 exact wG h
 exact Wu h
theorem OY {w:World}{Y:Nat->Prop}{σ:Sg}{p:PV}{b:Bool}{v:Value}(h:Rep w Y σ p v)(e:Yr p=some b):v=.bool b:=by
 unfold Yr at e
 grind[zM,TF]
theorem GV {k T : IntKind}(h:uH k T=true):k=T:=by cases k<;>cases T<;>simp_all[uH]
section
variable {P:Program}{T:Tab}(hT:iZ P T){C:Ctx T}{o:Oper}{a:Act}{w:World}{Y:Nat->Prop}{σ:Sg}{ps:List PV}{st:St}{n id:Nat}{K:PV->Dl->Prop}{lk:Nat->Option lW}
 (H:SW C w Y σ ps a.tmps.toList st n) (hlk:∀ b x,lk b=some x->iV st b=some x) (hid:σ id=none/\T.qc<=id)
include H
theorem ajh {x:Operand}(ho:o.op=.move x)(h:oH T (iq.jq P T) (.move x) ps lk id K):qL P C o a w σ ps st n id K:=by
 refine qL.quiet H (cv:=a.eval x) ?_ (kW H x) h;simp[execOp,ho]
theorem afD {x:Operand}(ho:o.op=.assign x)(h:oH T (iq.jq P T) (.assign x) ps lk id K):qL P C o a w σ ps st n id K:=by
 refine qL.quiet H (cv:=a.eval x) ?_ (kW H x) h;simp[execOp,ho]
theorem aji {c x y:Operand}(ho:o.op=.pick c x y)(h:oH T (iq.jq P T) (.pick c x y) ps lk id K):qL P C o a w σ ps st n id K:=by
 have hc:=kW H c;simp only[oH] at h
 split at h
 rename_i e;rw[e] at hc;have hc:=zM hc;refine qL.quiet H (cv:=a.eval x) ?_ (kW H x) h;simp[execOp,ho,hc,asBool]
 rename_i e;rw[e] at hc;have hc:=zM hc;refine qL.quiet H (cv:=a.eval y) ?_ (kW H y) h;simp[execOp,ho,hc,asBool]
 exact h.elim
theorem abz {x:Operand}(ho:o.op=.nilCheck x)(h:oH T (iq.jq P T) (.nilCheck x) ps lk id K):qL P C o a w σ ps st n id K:=by
 have hc:=kW H x;simp only[oH] at h
 split at h
 rename_i e;rw[e] at hc;have J:=hc;unfold Rep at J;obtain⟨l,_,I⟩:=J;refine qL.quiet H (cv:=a.eval x) ?_ hc h
 simp_all[execOp]
 rename_i e;rw[e] at hc;have J:=hc;unfold Rep at J;obtain⟨l,_,I⟩:=J;refine qL.quiet H (cv:=a.eval x) ?_ hc h
 simp_all[execOp]
 rename_i e;rw[e] at hc;have J:=hc;unfold Rep at J;obtain⟨b,o',I,_⟩:=J;refine qL.quiet H (cv:=a.eval x) ?_ hc h
 simp_all[execOp]
 rename_i e;rw[e] at hc;have I:=hc;unfold Rep at I;refine qL.quiet H (cv:=a.eval x) ?_ hc h
 simp_all[execOp]
 rename_i e;rw[e] at hc;have J:=hc;unfold Rep at J;obtain⟨vs,I,_⟩:=J;refine qL.quiet H (cv:=a.eval x) ?_ hc h
 simp_all[execOp]
 exact h.elim
theorem agT {t:TypeId}{x:Operand}(ho:o.op=.unOp .not t x)(h:oH T (iq.jq P T) (.unOp .not t x) ps lk id K):qL P C o a w σ ps st n id K:=by
 have hc:=kW H x;simp only[oH] at h
 split at h
 rename_i e;rw[e] at hc;have hc:=zM hc;refine qL.quiet H (cv:=.bool false) ?_ (by simp[Rep]) h;simp[execOp,ho,hc,Op.unary]
 rename_i e;rw[e] at hc;have hc:=zM hc;refine qL.quiet H (cv:=.bool true) ?_ (by simp[Rep]) h;simp[execOp,ho,hc,Op.unary]
 rename_i b e;rw[e] at hc;have hc:=TF hc;refine qL.quiet H (cv:=.bool (!b)) ?_ (by simp[Rep,iq.jq]) h;simp[execOp,ho,hc,Op.unary]
 exact h.elim
theorem agU {t:TypeId}{x:Operand}(ho:o.op=.unOp .neg t x)(h:oH T (iq.jq P T) (.unOp .neg t x) ps lk id K):qL P C o a w σ ps st n id K:=by
 have hc:=kW H x;simp only[oH] at h
 split at h
 rename_i k m e;rw[e] at hc;have hc:=wG hc;refine qL.quiet H (cv:=.int k (k.wrap (0-m))) ?_ (by simp[Rep]) h;simp[execOp,ho,hc,Op.unary,Op.intArith]
 rename_i k m e;rw[e] at hc;have hc:=Wu hc;refine qL.quiet H (cv:=.int k (k.wrap (0-m))) ?_ (by simp[Rep,iq.jq]) h;simp[execOp,ho,hc,Op.unary,Op.intArith]
 exact h.elim
theorem ac3 {t:Operand}{i:Nat}(ho:o.op=.extract t i)(h:oH T (iq.jq P T) (.extract t i) ps lk id K):qL P C o a w σ ps st n id K:=by
 have hc:=kW H t;simp only[oH] at h
 split at h
 rename_i vs e;rw[e] at hc;unfold Rep at hc;obtain⟨us,I,hr⟩:=hc
 cases g:Nat.blt i (oq vs) with
 | false=>grind
 | true=>
  rw[g] at h;have hi:i<us.length:=by rw[eQ.length _ _ hr];simp_all
  have J:=hr.get _ _ i;rw[List.getD_eq_getElem?_getD,List.getElem?_eq_getElem hi] at J;refine qL.quiet H (cv:=us[i]) ?_ J h;simp[execOp,ho,I,Instr.extract,hi]
 exact h.elim
end
end Go.Pv
