import Derived.Orders
import Derived.Tactics
import Derived.Calls
import Derived.Below
import Derived.WalkKit
set_option linter.all false
namespace Go.Pv
open Go
structure Hdr where
 ν:Nat
 o:Nat
 cap:Nat
inductive PV where
 | bool (b:Bool)
 | sb (b:Bool)
 | int (k:IntKind) (n:Int)
 | si (k:IntKind) (n:Int)
 | str (s:ByteArray)
 | agg (cs:List PV)
 | tup (vs:List PV)
 | sl (sz:Nat) (es:List (List PV)) (full:Bool)
 | os (b r n:Nat)
 | lv (b c:Nat)
 | lp (b r c:Nat)
 | pp (cs:List PV)
 | ow (h:Hdr) (sz:Nat) (es:List (List PV))
 | bo (b r c:Nat) (h:Hdr) (sz n:Nat)
 | np (b r c:Nat) (h:Hdr) (sz j k:Nat)
 | nilp
 | fn (f:Nat) (caps:List PV)
 | nilf
 | top
 | undef
 deriving Inhabited
inductive Blk where
 | var (ro:Bool) (row:List PV)
 | arr (ro:Bool) (sz:Nat) (rows:List (List PV))
 | nar (sz:Nat) (rows:List (List PV))
abbrev St:=List (Nat × Option Blk)
structure Env where
 tmps:List PV
 st:St
 next:Nat
structure Sig where
 bin:BinOp→IntKind→Int→Int→Int
 cmp:BinOp→Int→Int→Bool
 conv:IntKind→Int→Int
 neg:IntKind→Int→Int
 beq:Bool→Bool→Bool
 band:Bool→Bool→Bool
 scmp:BinOp→ByteArray→ByteArray→Bool
 slen:ByteArray→Int
 smin:Int→Int→Int
 smax:Int→Int→Int
 len:List (List PV)→Int
 nint:Nat→Int
 nadd:Nat→Nat→Nat
 nsub:Nat→Nat→Nat
 app:List (List PV)→List (List PV)→List (List PV)
 sub:List (List PV)→Nat→Nat→List (List PV)
 spl:List (List PV)→Nat→List (List PV)→List (List PV)
 rset:List (List PV)→Nat→List PV→List (List PV)
 rep:Nat→List PV→List (List PV)
 lenN:List (List PV)→Nat
 br:Bool→(Unit→Prop)→(Unit→Prop)→Prop
 call:Nat→List PV→Env→Option (List PV)→Option (List PV)→List Nat→List PV→St→(PV→Env→Prop)→Prop
 callq:Nat→List PV→(PV→Prop)→Prop
 callp:Nat→List PV→List PV→List PV→Env→(PV→Env→Prop)→Prop
 callf:Nat→List PV→(PV→Prop)→Prop
 callm:Nat→List PV→(PV→Blk→Prop)→Prop
 callw:Nat→List PV→St→List Nat→(PV→St→Nat→Prop)→Prop
 loop:Code→(Nat→Env→Prop)→Env→Prop
 seq:((Nat→Env→Prop)→Prop)→(Env→Prop)→(Nat→Env→Prop)→Prop
 idx:List (List PV)→Int→(List PV→Prop)→Prop
 ix:Nat→Int→(Nat→Prop)→Prop
 row:List (List PV)→Nat→(List PV→Prop)→Prop
 sidx:ByteArray→Int→(Int→Prop)→Prop
 div:BinOp→IntKind→Int→Int→(Int→Prop)→Prop
 shf:BinOp→IntKind→Int→Int→(Int→Prop)→Prop
 scat:ByteArray→ByteArray→(ByteArray→Prop)→Prop
 mks:Int→Int→Nat→(Nat→Prop)→Prop
 room:Nat→Nat→Prop→Prop
 slc:Nat→Int→Int→(Nat→Nat→Prop)→Prop
 sslc:ByteArray→Int→Int→(ByteArray→Prop)→Prop
 nilq:List (List PV)→(Bool→Prop)→Prop
 toS:Nat→List (List PV)→(ByteArray→Prop)→Prop
 wk:List PV→(List PV→Prop)→Prop
 order:Array Oper→Prop→Prop
 last:Array Oper→Prop→Prop
 nu:(Hdr→Prop)→Prop
 same:Hdr→Hdr→Prop→Prop
 fz:List (List PV)→List (List PV)
def getL:List PV→Nat→PV
 | [],_=>.undef
 | x::_,0=>x
 | _::l,n+1=>getL l n
def setL:List PV→Nat→PV→List PV
 | [],_,_=>[]
 | _::l,0,v=>v::l
 | x::l,n+1,v=>x::setL l n v
def lenL:List PV→Nat
 | []=>0
 | _::l=>lenL l+1
def takeL:Nat→List PV→List PV
 | 0,_=>[]
 | _+1,[]=>[]
 | n+1,x::l=>x::takeL n l
def dropL:Nat→List PV→List PV
 | 0,l=>l
 | _+1,[]=>[]
 | n+1,_::l=>dropL n l
def appL:List PV→List PV→List PV
 | [],m=>m
 | x::l,m=>x::appL l m
def writeL:List PV→Nat→List PV→List PV
 | l,_,[]=>l
 | l,c,v::vs=>writeL (setL l c v) (c+1) vs
def chunks (sz:Nat):Nat→List PV→List (List PV)
 | 0,_=>[]
 | n+1,l=>takeL sz l::chunks sz n (dropL sz l)
def lkS:St→Nat→Option Blk
 | [],_=>none
 | (b,x)::l,c=>bif Nat.beq b c then x else lkS l c
def inS:St→Nat→Option Blk→St
 | [],b,x=>[(b,x)]
 | (b',y)::l,b,x=>bif Nat.beq b' b then (b',x)::l else (b',y)::inS l b x
def applyD:List (Nat × Option Blk)→St→St
 | [],s=>s
 | (b,x)::d,s=>applyD d (inS s b x)
def ofCell:Value→PV
 | .bool b=>.bool b
 | .int k n=>.int k n
 | .string s=>.str s
 | .pointer none=>.nilp
 | .slice none 0 0=>.sl 0 [] true
 | .nilFunc=>.nilf
 | _=>.top
def ofCells:List Value→List PV
 | []=>[]
 | v::vs=>ofCell v::ofCells vs
def ofVal:Value→PV
 | .agg cs=>.agg (ofCells cs.toList)
 | v=>ofCell v
def cellsV:PV→List PV
 | .agg cs=>cs
 | v=>[v]
def isCell:PV→Bool
 | .agg _ | .tup _ | .top | .undef=>false
 | _=>true
def allCell:List PV→Bool
 | []=>true
 | v::vs=>isCell v && allCell vs
def putE (E:Env):Option Nat→PV→Env
 | none,_=>E
 | some d,v=>{ E with tmps:=setL E.tmps d v }
def isAggT (P:Program) (t:TypeId):Bool :=
 match P.underlying t with
 | some (.struct _) | some (.array ..)=>true
 | _=>false
structure FI where
 off:Nat
 size:Nat
 agg:Bool
inductive TK where
 | oth
 | str
 | ptr
 | int (k:IntKind)
 | struct (fs:List FI)
 | arr (n sz:Nat) (agg:Bool)
 | slice (sz bytes:Nat) (zero:Option (List PV))
structure TI where
 ok:Bool
 agg:Bool
 size:Nat
 zero:Option (List PV)
 plain:Option (List Nat)
 kind:TK
def TI.bad:TI:={ ok:=false,agg:=false,size:=0,zero:=none,plain:=none,kind:=.oth }
structure Tab where
 ti:TypeId→TI
 gl:Nat→Option (List PV)
 pas:Nat
 cut:List Nat
 nar:Nat
 own:List (List (Nat × Bool))
 dcl:List (Nat × Nat)
instance:CoeFun Tab (fun _=>TypeId→TI):=⟨Tab.ti⟩
def evL (T:Tab) (tmps:List PV):Operand→PV
 | .tmp t=>getL tmps t
 | .const v=>ofVal v
 | .func f=>.fn f []
 | .global g=>match T.gl g with | some cs=>.pp cs | none=>.top
def evO (T:Tab) (tmps:List PV):Option Operand→Option PV
 | none=>none
 | some x=>some (evL T tmps x)
def evA (T:Tab) (tmps:List PV):List Operand→List PV
 | []=>[]
 | x::l=>evL T tmps x::evA T tmps l
def isPos:Nat→Bool
 | 0=>false
 | _+1=>true
def intV:PV→Option (IntKind × Int)
 | .int k n | .si k n=>some (k,n)
 | _=>none
def boolV:PV→Option Bool
 | .bool b | .sb b=>some b
 | _=>none
def isArith:BinOp→Bool
 | .add | .sub | .mul | .and | .or | .xor | .andNot=>true
 | _=>false
def isCmp:BinOp→Bool
 | .eql | .neq | .lss | .leq | .gtr | .geq=>true
 | _=>false
def stdBin (op:BinOp) (k:IntKind) (a b:Int):Int :=
 match op with
 | .add=>k.wrap (a+b)
 | .sub=>k.wrap (a - b)
 | .mul=>k.wrap (a * b)
 | .and=>k.wrap ((BitVec.ofInt k.bits a &&& BitVec.ofInt k.bits b).toNat)
 | .or=>k.wrap ((BitVec.ofInt k.bits a ||| BitVec.ofInt k.bits b).toNat)
 | .xor=>k.wrap ((BitVec.ofInt k.bits a ^^^ BitVec.ofInt k.bits b).toNat)
 | .andNot=>k.wrap ((BitVec.ofInt k.bits a &&& ~~~(BitVec.ofInt k.bits b)).toNat)
 | _=>0
def stdCmp (op:BinOp) (a b:Int):Bool :=
 match op with
 | .eql=>decide (a=b)
 | .neq=>!decide (a=b)
 | .lss=>decide (a<b)
 | .leq=>decide (a≤b)
 | .gtr=>decide (b<a)
 | .geq=>decide (b≤a)
 | _=>false
def stdScmp (op:BinOp) (a b:ByteArray):Bool :=
 match op with
 | .eql=>decide (a=b)
 | .neq=>!decide (a=b)
 | .lss=>Op.bytesLess a.toList b.toList
 | .leq=>Op.bytesLess a.toList b.toList || decide (a=b)
 | .gtr=>!(Op.bytesLess a.toList b.toList || decide (a=b))
 | .geq=>!Op.bytesLess a.toList b.toList
 | _=>false
def kindEq:IntKind→IntKind→Bool
 | .i8,.i8 | .i16,.i16 | .i32,.i32 | .i64,.i64 | .u8,.u8 | .u16,.u16 | .u32,.u32 | .u64,.u64=>true
 | _,_=>false
def eqC (S:Sig):Nat→PV→PV→Option Bool
 | 0,x,y=>match intV x,intV y with
  | some (k,a),some (k',b)=>bif kindEq k k' then some (S.cmp .eql a b) else none
  | _,_=>none
 | 1,x,y=>match boolV x,boolV y with
  | some a,some b=>some (S.beq a b)
  | _,_=>none
 | 2,.str a,.str b=>some (S.scmp .eql a b)
 | _,_,_=>none
def eqCs (S:Sig):List Nat→List PV→List PV→Option Bool
 | [],[],[]=>some true
 | k::ks,x::xs,y::ys =>
  match eqC S k x y with
  | none=>none
  | some a=>match eqCs S ks xs ys with
   | none=>none
   | some b=>some (S.band a b)
 | _,_,_=>none
def repN:Nat→List Nat→List Nat
 | 0,_=>[]
 | n+1,l=>l ++ repN n l
def plainFs (P:Program) (rec:TypeId→Option (List Nat)):List Field→Nat→Option (List Nat)
 | [],_=>some []
 | f :: fs, n => if f.offset = n ∧ f.name ≠ "_" ∧ P.info? f.type ≠ none then
   match rec f.type with
   | some s=>if P.cellsOf f.type=s.length∧0<s.length then
     match plainFs P rec fs (n+s.length) with
     | some r=>some (s ++ r)
     | none=>none
    else none
   | none=>none
  else none
def plainT (P:Program):Nat→TypeId→Option (List Nat)
 | 0,_=>none
 | d+1,t =>
  match P.underlying t with
  | some .bool=>some [1]
  | some (.int _)=>some [0]
  | some .string=>some [2]
  | some (.struct fs)=>if P.stoodInHeld t then none else plainFs P (plainT P d) fs.toList 0
  | some (.array n e)=>match plainT P d e with
   | some s=>if P.cellsOf e=s.length∧P.info? e ≠ none then some (repN n s) else none
   | none=>none
  | _=>none
def isSpec:BinOp→Bool
 | .shl | .shr | .quo | .rem=>true
 | _=>false
def isEql:BinOp→Bool
 | .eql=>true
 | _=>false
def isNeq:BinOp→Bool
 | .neq=>true
 | _=>false
def isAdd:BinOp→Bool
 | .add=>true
 | _=>false
def binS (S:Sig) (op:BinOp) (k:IntKind) (a:Int) (k' : IntKind) (b:Int) (K:PV→Prop):Prop :=
 match op with
 | .shl | .shr=>S.shf op k a b fun n=>K (.si k n)
 | .quo | .rem=>bif kindEq k k' then S.div op k a b fun n=>K (.si k n) else False
 | _=>False
def isPtrP:PV→Bool
 | .lv _ _ | .lp _ _ _ | .pp _ | .np _ _ _ _ _ _ _=>true
 | _=>false
def isNilP:PV→Bool
 | .nilp=>true
 | _=>false
def eqK (S:Sig) (op:BinOp) (b:Bool) (K:PV→Prop):Prop :=
 bif isEql op then K (.sb b) else bif isNeq op then K (.sb (S.beq b false)) else False
def eqL (op:BinOp) (b:Bool) (K:PV→Prop):Prop :=
 bif isEql op then K (.bool b) else bif isNeq op then (match b with | true=>K (.bool false) | false=>K (.bool true)) else False
def binE (T:Tab) (S:Sig) (op:BinOp) (t:TypeId) (x y:PV) (K:PV→Prop):Prop :=
 match x,y with
 | .int k a,.int k' b =>
  bif isSpec op then binS S op k a k' b K
  else bif kindEq k k' then (bif isArith op then K (.int k (stdBin op k a b)) else bif isCmp op then K (.bool (stdCmp op a b)) else False) else False
 | .str a,.str b =>
  bif isAdd op then S.scat a b fun c=>K (.str c)
  else bif isCmp op then K (.sb (S.scmp op a b)) else False
 | .agg xs,.agg ys =>
  match T t with
  | { ok:=true,agg:=true,plain:=some ks,.. }=>(match eqCs S ks xs ys with
   | some b=>eqK S op b K
   | _=>False)
  | _=>False
 | x,y =>
  match intV x,intV y with
  | some (k,a),some (k',b) =>
   bif isSpec op then binS S op k a k' b K
   else bif kindEq k k' then (bif isArith op then K (.si k (S.bin op k a b)) else bif isCmp op then K (.sb (S.cmp op a b)) else False) else False
  | _,_ =>
   match boolV x,boolV y with
   | some a,some b=>(match T t with
    | { ok:=true,agg:=false,plain:=some [1],.. }=>eqK S op (S.beq a b) K
    | _=>False)
   | _,_ =>
    match T t with
    | { ok:=true,kind:=.ptr,.. } =>
     bif isNilP x && isNilP y then eqL op true K
     else bif (isNilP x && isPtrP y) || (isPtrP x && isNilP y) then eqL op false K
     else False
    | _=>False
def fillV (place:Nat→Option (Nat × Nat)):List PV→List (Nat × PV)→Option (List PV)
 | cells,[]=>some cells
 | cells,(i,v)::rest =>
  match place i with
  | none=>none
  | some (off,size) =>
   bif Nat.beq (lenL (cellsV v)) size && Nat.ble (off+size) (lenL cells) then fillV place (writeL cells off (cellsV v)) rest else none
def evP (T:Tab) (tmps:List PV):List (Nat × Operand)→List (Nat × PV)
 | []=>[]
 | (i,x)::l=>(i,evL T tmps x)::evP T tmps l
def noTop:List (Nat × PV)→Bool
 | []=>true
 | (_,.top)::_=>false
 | _::l=>noTop l
def zeroT (P:Program) (t:TypeId):Option (List PV) :=
 match P.info? t with
 | some i=>match i.zero with
  | some z=>some (cellsV (ofVal z))
  | none=>none
 | none=>none
def repL:Nat→List PV→List PV
 | 0,_=>[]
 | n+1,l=>appL l (repL n l)
def fieldOf:List FI→Nat→Option FI
 | [],_=>none
 | f::_,0=>some f
 | _::l,n+1=>fieldOf l n
def fldPlace (fs:List FI) (i:Nat):Option (Nat × Nat) :=
 match fieldOf fs i with
 | some f=>some (f.off,f.size)
 | none=>none
def mkTI (P:Program) (t:TypeId):TI :=
 match P.info? t,P.underlying t with
 | some i,some d =>
  { ok:=true,agg:=isAggT P t,size:=i.size,zero:=zeroT P t,plain:=if P.eqGuardType P.depth t then none else plainT P 20 t,kind:=match d with
    | .struct fs=>.struct (fs.toList.map fun f=>{ off:=f.offset,size:=P.cellsOf f.type,agg:=isAggT P f.type })
    | .array n e=>.arr n (P.cellsOf e) (isAggT P e)
    | .slice e=>.slice (P.cellsOf e) (P.bytesOf e) (zeroT P e)
    | .int k=>.int k
    | .string=>.str
    | .pointer _=>.ptr
    | _=>.oth }
 | _,_=>.bad
def TabOK (P:Program) (T:Tab):Prop:=∀ t,(T t).ok=true→T t=mkTI P t∧t<P.types.size
abbrev Dl:=List (Nat × Option Blk)
def rowsOf (S:Sig) (esz:Nat) (lk:Nat→Option Blk):PV→Option (List (List PV))
 | .sl sz es _=>bif Nat.beq sz esz then some es else (match es with | []=>some [] | _::_=>none)
 | .os b r n=>match lk b with
  | some (.arr _ sz rows)=>bif Nat.beq sz esz then some (S.sub rows r n) else none
  | _=>none
 | _=>none
def loadRow (agg:Bool) (size:Nat) (row:List PV) (c:Nat) (K:PV→Prop):Prop :=
 bif agg then
  (bif Nat.ble (c+size) (lenL row) then K (.agg (takeL size (dropL c row))) else False)
 else (bif Nat.blt c (lenL row) then K (getL row c) else False)
def storeRow (size:Nat) (row:List PV) (c:Nat) (v:PV) (K:List PV→Prop):Prop :=
 bif allCell (cellsV v) && Nat.beq (lenL (cellsV v)) size && Nat.ble (c+lenL (cellsV v)) (lenL row) then K (writeL row c (cellsV v)) else False
def pur (S:Sig) (lk:Nat→Option Blk):List PV→Option (List PV × Dl)
 | []=>some ([],[])
 | v::vs=>match pur S lk vs with
  | none=>none
  | some (vs',δ)=>match v with
   | .os b r n=>(match lk b with
    | some (.arr _ sz rows)=>some (.sl sz (S.sub rows r n) false::vs',(b,some (.arr true sz rows))::δ)
    | _=>none)
   | .lv _ _ | .lp _ _ _ | .fn _ (_::_) | .agg _ | .tup _ | .top | .undef | .ow _ _ _ | .bo _ _ _ _ _ _ | .np _ _ _ _ _ _ _=>none
   | v=>some (v::vs',δ)
def noLk0 (_:Nat):Option Blk:=none
def hasSl:List PV→Bool
 | []=>false
 | .sl _ _ _::_=>true
 | _::l=>hasSl l
def newB (nar:Nat) (esz:Nat) (z:List PV) (rows:List (List PV)):Blk :=
 match nar with
 | 0=>.arr false esz rows
 | _+1=>(match hasSl z with
  | true=>.nar esz rows
  | false=>.arr false esz rows)
def hd0:Hdr:=⟨0,0,0⟩
def owC (n:Nat) (v:PV):PV :=
 match v with
 | .sl _ es f=>(match f with
  | true=>(match es with
   | []=>.ow hd0 n []
   | _::_=>v)
  | false=>v)
 | v=>v
def owZ (n:Nat):List PV→List PV
 | []=>[]
 | v::l=>owC n v::owZ n l
def borV (S:Sig) (b r c:Nat):PV→PV
 | .ow h sz es=>.bo b r c h sz (S.lenN es)
 | v=>v
def borL (S:Sig) (b r:Nat):Nat→List PV→List PV
 | _,[]=>[]
 | c,v::l=>borV S b r c v::borL S b r (c+1) l
def memD (b:Nat):Dl→Bool
 | []=>false
 | (c,_)::l=>Nat.beq c b || memD b l
def anyLit:List PV→Bool
 | []=>false
 | v::vs=>match v with
  | .int _ _=>true
  | .bool _=>true
  | .sl _ es f=>(match f with
   | true=>(match es with
    | []=>true
    | _::_=>anyLit vs)
   | false=>anyLit vs)
  | _=>anyLit vs
def wkC (S:Sig) (cs:List PV) (K:List PV→Prop):Prop :=
 match anyLit cs with
 | true=>S.wk cs K
 | false=>K cs
def wkN (S:Sig) (nar:Nat) (cs:List PV) (K:List PV→Prop):Prop :=
 match nar with
 | 0=>wkC S cs K
 | n+1=>(match hasSl cs with
  | true=>K (owZ n cs)
  | false=>wkC S cs K)
def nilC:Operand→Bool
 | .const (.slice none 0 0)=>true
 | _=>false
def opE (T:Tab) (S:Sig) (o:Op) (tmps:List PV) (lk:Nat→Option Blk) (id:Nat) (K:PV→Dl→Prop):Prop :=
 match o with
 | .move x | .assign x=>K (evL T tmps x) []
 | .pick c a b =>
  match evL T tmps c with
  | .bool true=>K (evL T tmps a) []
  | .bool false=>K (evL T tmps b) []
  | _=>False
 | .alloc t =>
  match T t with
  | { ok:=true,zero:=some z,.. }=>K (.lv id 0) [(id,some (.var false z))]
  | _=>False
 | .box _ x =>
  match evL T tmps x with
  | .top=>False
  | v=>K (.lv id 0) [(id,some (.var false (cellsV v)))]
 | .fieldAddr t x f =>
  match T t with
  | { ok:=true,kind:=.struct fs,.. }=>(match fieldOf fs f with
   | some fd=>bif isPos fd.size then (match evL T tmps x with
    | .lv b c=>K (.lv b (c+fd.off)) []
    | .lp b r c=>K (.lp b r (c+fd.off)) []
    | .np b r c h sz j k=>K (.np b r c h sz j (k+fd.off)) []
    | .pp cs=>bif Nat.ble fd.off (lenL cs) then K (.pp (dropL fd.off cs)) [] else False
    | _=>False) else False
   | none=>False)
  | _=>False
 | .field t x f =>
  match T t with
  | { ok:=true,kind:=.struct fs,.. }=>(match fieldOf fs f with
   | some fd=>(match evL T tmps x with
    | .agg cs=>bif isPos fd.size then loadRow fd.agg fd.size cs fd.off (fun v=>K v []) else False
    | _=>False)
   | none=>False)
  | _=>False
 | .load t x =>
  match T t with
  | { ok:=true,agg,size,.. }=>(match evL T tmps x with
   | .lv b c=>(match lk b with
    | some (.var _ row)=>loadRow agg size row c fun v=>K v []
    | _=>False)
   | .lp b r c=>(match lk b with
    | some (.arr _ _ rows)=>S.row rows r fun row=>loadRow agg size row c fun v=>K v []
    | some (.nar _ rows)=>S.row rows r fun row=>loadRow agg size (borL S b r 0 row) c fun v=>K v []
    | _=>False)
   | .np b r c h sz j k=>(match lk b with
    | some (.nar _ rows)=>S.row rows r fun row=>(match getL row c with
     | .ow h' sz' es=>bif Nat.beq sz' sz then S.same h h' (S.row es j fun er=>loadRow agg size er k fun v=>K v []) else False
     | _=>False)
    | _=>False)
   | .pp cs=>loadRow agg size cs 0 fun v=>K v []
   | _=>False)
  | _=>False
 | .store t x y =>
  match T t with
  | { ok:=true,size,.. }=>(match evL T tmps x with
   | .lv b c=>(match lk b with
    | some (.var false row)=>storeRow size row c (evL T tmps y) fun row'=>K .undef [(b,some (.var false row'))]
    | _=>False)
   | .lp b r c=>(match lk b with
    | some (.arr false sz rows)=>(match pur S lk (cellsV (evL T tmps y)) with
     | some (cs,δ)=>bif memD b δ then False else wkC S cs fun cs=>S.row rows r fun row=>storeRow size row c (.agg cs) fun row'=>K .undef (δ ++ [(b,some (.arr false sz (S.rset rows r row')))])
     | none=>False)
    | some (.nar sz rows)=>(match evL T tmps y with
     | .os id r0 n=>(match lk id with
      | some (.arr false sz' rows')=>bif Nat.beq size 1 && Nat.beq id b then False else S.row rows r fun row=>S.nu fun h =>
        storeRow size row c (.ow h sz' (S.sub rows' r0 n)) fun row'=>K .undef [(id,none),(b,some (.nar sz (S.rset rows r row')))]
      | _=>False)
     | y=>(match pur S lk (cellsV y) with
      | some (cs,[])=>S.row rows r fun row=>storeRow size row c (.agg cs) fun row'=>K .undef [(b,some (.nar sz (S.rset rows r row')))]
      | _=>False))
    | _=>False)
   | .np b r c h sz j k=>(match lk b with
    | some (.nar sz0 rows)=>(match pur S noLk0 (cellsV (evL T tmps y)) with
     | some (cs,[])=>wkC S cs fun cs=>S.row rows r fun row=>(match getL row c with
      | .ow h' sz' es=>bif Nat.beq sz' sz then S.same h h' (S.row es j fun er=>storeRow size er k (.agg cs) fun er' =>
        K .undef [(b,some (.nar sz0 (S.rset rows r (setL row c (.ow h' sz' (S.rset es j er'))))))]) else False
      | _=>False)
     | _=>False)
    | _=>False)
   | _=>False)
  | _=>False
 | .nilCheck x =>
  match evL T tmps x with
  | .lv b c=>K (.lv b c) []
  | .lp b r c=>K (.lp b r c) []
  | .pp cs=>K (.pp cs) []
  | .np b r c h sz j k=>K (.np b r c h sz j k) []
  | .fn f cs=>K (.fn f cs) []
  | _=>False
 | .binOp op t x y _ =>
  match nilC y with
  | true=>(match T t with
   | { ok:=true,kind:=.slice _ _ _,.. }=>(match evL T tmps x with
    | .sl _ es _=>S.nilq es fun b=>eqL op b fun v=>K v []
    | _=>False)
   | _=>False)
  | false=>(match T t with
   | { ok:=true,.. }=>binE T S op t (evL T tmps x) (evL T tmps y) fun v=>K v []
   | _=>False)
 | .unOp .not _ x =>
  match evL T tmps x with
  | .bool true=>K (.bool false) []
  | .bool false=>K (.bool true) []
  | .sb b=>K (.sb (S.beq b false)) []
  | _=>False
 | .unOp .neg _ x =>
  match evL T tmps x with
  | .int k n=>K (.int k (k.wrap (0 - n))) []
  | .si k n=>K (.si k (S.neg k n)) []
  | _=>False
 | .convert s d x =>
  match T s,T d with
  | { ok:=true,kind:=.slice _ _ _,.. },{ ok:=true,kind:=.str,.. }=>(match rowsOf S 1 lk (evL T tmps x) with
   | some rows=>S.toS s rows fun b=>K (.str b) []
   | none=>False)
  | { ok:=true,.. },{ ok:=true,kind:=.int k,.. }=>(match evL T tmps x with
   | .int _ n=>K (.int k (k.wrap n)) []
   | .si _ n=>K (.si k (S.conv k n)) []
   | _=>False)
  | _,_=>False
 | .indexAddr t x i =>
  match T t with
  | { ok:=true,kind:=.slice esz _ _,.. } =>
   (match evL T tmps x,intV (evL T tmps i) with
   | .sl sz es _,some (_,n)=>bif isPos esz && Nat.beq sz esz then S.idx es n fun row=>K (.pp row) [] else False
   | .os b r len,some (_,n)=>(match lk b with
    | some (.arr _ sz _)=>bif isPos esz && Nat.beq sz esz then S.ix len n fun j=>K (.lp b (S.nadd r j) 0) [] else False
    | some (.nar sz _)=>bif isPos esz && Nat.beq sz esz then S.ix len n fun j=>K (.lp b (S.nadd r j) 0) [] else False
    | _=>False)
   | .bo b r c h sz len,some (_,n)=>bif isPos esz && Nat.beq sz esz then S.ix len n fun j=>K (.np b r c h sz j 0) [] else False
   | _,_=>False)
  | { ok:=true,kind:=.arr len esz _,.. }=>bif isPos esz then
   (match evL T tmps i with
   | .int _ (.ofNat n)=>bif Nat.blt n len then (match evL T tmps x with
    | .lv b c=>K (.lv b (c+n * esz)) []
    | .lp b r c=>K (.lp b r (c+n * esz)) []
    | .pp cs=>bif Nat.ble (n * esz) (lenL cs) then K (.pp (dropL (n * esz) cs)) [] else False
    | _=>False) else False
   | .si _ n=>S.ix len n fun j=>(match evL T tmps x with
    | .lv b c=>K (.lv b (c+j * esz)) []
    | .lp b r c=>K (.lp b r (c+j * esz)) []
    | .pp cs=>bif Nat.ble (j * esz) (lenL cs) then K (.pp (dropL (j * esz) cs)) [] else False
    | _=>False)
   | _=>False) else False
  | _=>False
 | .index t x i =>
  match T t,evL T tmps x,intV (evL T tmps i) with
  | { ok:=true,kind:=.str,.. },.str s,some (_,n)=>S.sidx s n fun c=>K (.si .u8 c) []
  | { ok:=true,kind:=.arr len esz agg,.. },.agg cs,some (_,n)=>bif isPos esz then S.ix len n (fun j=>loadRow agg esz cs (j * esz) fun v=>K v []) else False
  | _,_,_=>False
 | .extract t i =>
  match evL T tmps t with
  | .tup vs=>bif Nat.blt i (lenL vs) then K (getL vs i) [] else False
  | _=>False
 | .build t parts =>
  match T t with
  | { ok:=true,zero:=some z,kind:=.struct fs,.. } =>
   bif noTop (evP T tmps parts.toList) then (match fillV (fldPlace fs) z (evP T tmps parts.toList) with
    | some cs=>K (.agg cs) []
    | none=>False) else False
  | { ok:=true,zero:=some z,kind:=.arr _ esz _,.. } =>
   bif noTop (evP T tmps parts.toList) then (match fillV (fun i=>some (i * esz,esz)) z (evP T tmps parts.toList) with
    | some cs=>K (.agg cs) []
    | none=>False) else False
  | _=>False
 | .buildSlice t len parts =>
  match T t with
  | { ok:=true,kind:=.slice esz _ (some z),.. } =>
    bif isPos esz && Nat.beq (lenL z) esz && Nat.ble (len * esz) 16777216 && noTop (evP T tmps parts.toList) then
     (match fillV (fun i=>some (i * esz,esz)) (repL len z) (evP T tmps parts.toList) with
     | some cs=>(match pur S lk cs with
      | some (cs,δ)=>wkC S cs fun cs=>K (.os id 0 len) (δ ++ [(id,some (.arr false esz (chunks esz len cs)))])
      | none=>False)
     | none=>False)
    else False
  | _=>False
 | .makeFunc (.func f) first captured =>
  match first.toList with
  | []=>K (.fn f (evA T tmps captured.toList)) []
  | _=>False
 | .makeSlice t l c =>
  match T t,intV (evL T tmps l),intV (evL T tmps c) with
  | { ok:=true,kind:=.slice esz bytes (some z),.. },some (_,n),some (_,m) =>
    bif isPos esz && Nat.beq (lenL z) esz && allCell z then
     S.mks n m bytes fun j=>wkN S T.nar z fun z2=>K (.os id 0 j) [(id,some (newB T.nar esz z (S.rep j z2)))]
    else False
  | _,_,_=>False
 | .slice t x lo hi mx =>
  match T t,evL T tmps x,evO T tmps lo,evO T tmps hi,evO T tmps mx with
  | { ok:=true,kind:=.slice esz _ _,.. },.sl sz es full,l,h,none=>bif isPos esz && Nat.beq sz esz then
   (match h with
   | none=>match l with
    | none=>K (.sl sz es full) []
    | some lv=>match intV lv with
     | some (_,a)=>S.slc (S.lenN es) a (S.len es) fun i j=>K (.sl sz (S.sub es i (S.nsub j i)) full) []
     | none=>False
   | some hv=>match intV hv with
    | some (_,b)=>match l with
     | none=>S.slc (S.lenN es) 0 b fun i j=>K (.sl sz (S.sub es i (S.nsub j i)) false) []
     | some lv=>match intV lv with
      | some (_,a)=>S.slc (S.lenN es) a b fun i j=>K (.sl sz (S.sub es i (S.nsub j i)) false) []
      | none=>False
    | none=>False) else False
  | { ok:=true,kind:=.slice esz _ _,.. },.os b r n,l,h,none =>
   (match lk b with
   | some (.arr _ sz _)=>bif isPos esz && Nat.beq sz esz then
    (match h with
    | none=>match l with
     | none=>K (.os b r n) []
     | some lv=>match intV lv with
      | some (_,a)=>S.slc n a (S.nint n) fun i j=>K (.os b (S.nadd r i) (S.nsub j i)) []
      | none=>False
    | some hv=>match intV hv with
     | some (_,c)=>match l with
      | none=>S.slc n 0 c fun i j=>K (.os b (S.nadd r i) (S.nsub j i)) []
      | some lv=>match intV lv with
       | some (_,a)=>S.slc n a c fun i j=>K (.os b (S.nadd r i) (S.nsub j i)) []
       | none=>False
     | none=>False) else False
   | _=>False)
  | { ok:=true,kind:=.slice esz _ _,.. },.sl _ _ _,none,some (.int _ 0),some (.int _ 0)=>bif isPos esz then K (.sl esz [] true) [] else False
  | { ok:=true,kind:=.slice esz _ _,.. },.os _ _ _,none,some (.int _ 0),some (.int _ 0)=>bif isPos esz then K (.sl esz [] true) [] else False
  | { ok:=true,kind:=.str,.. },.str s,l,h,none =>
   (match l with
   | none=>match h with
    | none=>K (.str s) []
    | some hv=>match intV hv with
     | some (_,b)=>S.sslc s 0 b fun s'=>K (.str s') []
     | none=>False
   | some lv=>match intV lv with
    | some (_,a)=>match h with
     | none=>S.sslc s a (S.slen s) fun s'=>K (.str s') []
     | some hv=>match intV hv with
      | some (_,b)=>S.sslc s a b fun s'=>K (.str s') []
      | none=>False
    | none=>False)
  | { ok:=true,kind:=.arr n esz _,.. },.lv b c,none,none,none =>
   (match lk b with
   | some (.var _ row)=>bif isPos esz && Nat.ble (c+n * esz) (lenL row) then
     (match pur S (fun _=>none) row with
     | some _=>K (.sl esz (chunks esz n (dropL c row)) true) [(b,some (.var true row))]
     | none=>False) else False
   | _=>False)
  | { ok:=true,kind:=.arr n esz _,.. },.pp cs,none,none,none =>
   bif isPos esz && allCell cs && Nat.ble (n * esz) (lenL cs) then K (.sl esz (chunks esz n cs) true) [] else False
  | _,_,_,_,_=>False
 | .call { callee:=.builtin b,args,argTypes } =>
  match b,evA T tmps args.toList,argTypes.toList with
  | .len,[.str s],[t]=>(match T t with | { ok:=true,kind:=.str,.. }=>K (.si .i64 (S.slen s)) [] | _=>False)
  | .len,[.sl _ es _],[t]=>(match T t with | { ok:=true,kind:=.slice _ _ _,.. }=>K (.si .i64 (S.len es)) [] | _=>False)
  | .len,[.bo _ _ _ _ _ n],[t]=>(match T t with | { ok:=true,kind:=.slice _ _ _,.. }=>K (.si .i64 (S.nint n)) [] | _=>False)
  | .len,[.os _ _ n],[t]=>(match T t with | { ok:=true,kind:=.slice _ _ _,.. }=>K (.si .i64 (S.nint n)) [] | _=>False)
  | .min,[x,y],_=>(match x,y with
   | .int k a,.int k' b=>bif kindEq k k' then K (.int k (if b<a then b else a)) [] else False
   | x,y=>match intV x,intV y with
    | some (k,a),some (k',b)=>bif kindEq k k' then K (.si k (S.smin a b)) [] else False
    | _,_=>False)
  | .max,[x,y],_=>(match x,y with
   | .int k a,.int k' b=>bif kindEq k k' then K (.int k (if a<b then b else a)) [] else False
   | x,y=>match intV x,intV y with
    | some (k,a),some (k',b)=>bif kindEq k k' then K (.si k (S.smax a b)) [] else False
    | _,_=>False)
  | .append,[s,x],t::u::_ =>
   (match T t,T u with
   | { ok:=true,kind:=.slice esz bytes (some z),.. },{ ok:=true,kind:=.slice _ _ _,.. } =>
    bif isPos esz && Nat.beq (lenL z) esz then
     (match s,rowsOf S esz lk x with
     | .sl _ [] true,some new =>
      S.room (S.lenN new) bytes (K (.os id 0 (S.lenN new)) [(id,some (.arr false esz new))])
     | .os b r n,some new=>(match lk b with
      | some (.arr false sz rows)=>bif Nat.beq sz esz then
        S.room (S.nadd n (S.lenN new)) bytes (K (.os id 0 (S.nadd n (S.lenN new))) [(b,none),(id,some (.arr false sz (S.app (S.sub rows r n) new)))])
       else False
      | _=>False)
     | _,_=>False) else False
   | _,_=>False)
  | .clear,[.os b r n],t::_ =>
   (match T t with
   | { ok:=true,kind:=.slice esz _ (some z),.. } =>
    (match lk b with
    | some (.arr false sz rows)=>bif Nat.beq sz esz && Nat.beq (lenL z) sz && isPos sz && allCell z then
      wkC S z fun z2=>K (.tup []) [(b,some (.arr false sz (S.spl rows r (S.rep n z2))))] else False
    | _=>False)
   | _=>False)
  | _,_,_=>False
 | _=>False
def mapO (f:PV→Option PV):List PV→Option (List PV)
 | []=>some []
 | c::cs=>match f c with
  | none=>none
  | some c=>match mapO f cs with
   | none=>none
   | some cs=>some (c::cs)
def frz (S:Sig) (lk:Nat→Option Blk):Nat→PV→Option PV
 | 0,_=>none
 | d+1,v =>
  match v with
  | .bool b=>some (.sb b)
  | .sb b=>some (.sb b)
  | .int k n=>some (.si k n)
  | .si k n=>some (.si k n)
  | .str s=>some (.str s)
  | .nilp=>some .nilp
  | .nilf=>some .nilf
  | .sl sz es _=>some (.sl sz es false)
  | .pp cs=>some (.pp cs)
  | .agg cs=>match mapO (frz S lk d) cs with | some cs=>some (.agg cs) | none=>none
  | .tup cs=>match mapO (frz S lk d) cs with | some cs=>some (.tup cs) | none=>none
  | .fn f cs=>match mapO (frz S lk d) cs with | some cs=>some (.fn f cs) | none=>none
  | .lv b c=>match lk b with
   | some (.var _ row)=>match mapO (frz S lk d) (dropL c row) with | some cs=>some (.pp cs) | none=>none
   | _=>none
  | .os b r n=>match lk b with
   | some (.arr _ sz rows)=>some (.sl sz (S.sub rows r n) false)
   | some (.nar sz rows)=>some (.sl sz (S.fz (S.sub rows r n)) false)
   | _=>none
  | _=>none
def gd (S:Sig) (all:Array Oper) (g:Option (Nat × Bool)) (E:Env) (run skip:Env→Prop):Prop :=
 match g with
 | none=>run E
 | some (j,want) =>
  match all[j]? with
  | some o=>match o.dst with
   | some d=>match getL E.tmps d with
    | .bool true=>(match want with | true=>run E | false=>skip E)
    | .bool false=>(match want with | true=>skip E | false=>run E)
    | .sb b=>S.br b
      (fun _=>match want with | true=>run (putE E (some d) (.bool true)) | false=>skip (putE E (some d) (.bool true)))
      (fun _=>match want with | true=>skip (putE E (some d) (.bool false)) | false=>run (putE E (some d) (.bool false)))
    | .undef=>skip E
    | _=>False
   | none=>False
  | none=>False
def nextD:Dl→Nat→Nat
 | [],n=>n
 | _::_,n=>n+1
def flatL (f:PV→Bool):List PV→Bool
 | []=>true
 | c::cs=>f c && flatL f cs
def flatV:Nat→PV→Bool
 | 0,_=>false
 | d+1,v =>
  match v with
  | .bool _ | .sb _ | .int _ _ | .si _ _ | .str _ | .nilp | .nilf=>true
  | .agg cs=>flatL (flatV d) cs
  | .tup cs=>flatL (flatV d) cs
  | _=>false
def hasN:List Nat→Nat→Bool
 | [],_=>false
 | b::l,c=>bif Nat.beq b c then true else hasN l c
def ixN:List Nat→Nat→Option Nat
 | [],_=>none
 | b::l,c=>bif Nat.beq b c then some 0 else match ixN l c with | some i=>some (i+1) | none=>none
def appN:List Nat→List Nat→List Nat
 | [],m=>m
 | b::l,m=>b::appN l m
def snocN:List Nat→Nat→List Nat
 | [],c=>[c]
 | b::l,c=>b::snocN l c
def nodN:List Nat→Bool
 | []=>true
 | b::l=>bif hasN l b then false else nodN l
def ltN (n:Nat):List Nat→Bool
 | []=>true
 | b::l=>Nat.blt b n && ltN n l
def lenNs:List Nat→Nat
 | []=>0
 | _::l=>lenNs l+1
def getNs:List Nat→Nat→Option Nat
 | [],_=>none
 | b::_,0=>some b
 | _::l,n+1=>getNs l n
def upN:Nat→Nat→List Nat
 | _,0=>[]
 | i,n+1=>i::upN (i+1) n
def foldN (f:List Nat→PV→List Nat):List Nat→List PV→List Nat
 | acc,[]=>acc
 | acc,v::vs=>foldN f (f acc v) vs
def mapV (f:PV→PV):List PV→List PV
 | []=>[]
 | v::vs=>f v::mapV f vs
def namV (st:St):Nat→List Nat→PV→List Nat
 | 0,acc,_=>acc
 | d+1,acc,v=>match v with
  | .os b _ _=>bif hasN acc b then acc else snocN acc b
  | .lp b _ _=>bif hasN acc b then acc else snocN acc b
  | .bo b _ _ _ _ _=>bif hasN acc b then acc else snocN acc b
  | .np b _ _ _ _ _ _=>bif hasN acc b then acc else snocN acc b
  | .lv b _=>bif hasN acc b then acc else match lkS st b with
   | some (.var _ row)=>foldN (namV st d) (snocN acc b) row
   | _=>snocN acc b
  | .agg cs=>foldN (namV st d) acc cs
  | .tup cs=>foldN (namV st d) acc cs
  | .fn _ cs=>foldN (namV st d) acc cs
  | _=>acc
def renV (f:Nat→Option Nat):Nat→PV→PV
 | 0,_=>.top
 | d+1,v=>match v with
  | .os b r n=>match f b with | some i=>.os i r n | none=>.top
  | .lp b r c=>match f b with | some i=>.lp i r c | none=>.top
  | .lv b c=>match f b with | some i=>.lv i c | none=>.top
  | .agg cs=>.agg (mapV (renV f d) cs)
  | .tup cs=>.tup (mapV (renV f d) cs)
  | .fn k cs=>.fn k (mapV (renV f d) cs)
  | .bo b r c h sz n=>match f b with | some i=>.bo i r c h sz n | none=>.top
  | .np b r c h sz j k=>match f b with | some i=>.np i r c h sz j k | none=>.top
  | v=>v
def renB (f:Nat→Option Nat):Option Blk→Option Blk
 | some (.var ro row)=>some (.var ro (mapV (renV f 8) row))
 | x=>x
def renS (f:Nat→Option Nat) (st:St):Nat→List Nat→St
 | _,[]=>[]
 | i,b::l=>(i,renB f (lkS st b))::renS f st (i+1) l
def maskL:List Nat→Nat→List PV→List PV
 | _,_,[]=>[]
 | [],i,_::l=>.top::maskL [] (i+1) l
 | k::ks,i,x::l=>bif Nat.beq k i then x::maskL ks (i+1) l else .top::maskL (k::ks) (i+1) l
def rowsN (st:St):List Nat→List Nat→List Nat
 | acc,[]=>acc
 | acc,b::l=>match lkS st b with
  | some (.var _ row)=>rowsN st (foldN (namV st 8) acc row) l
  | _=>rowsN st acc l
def seenN (m:Nat) (st:St) (vs:List PV):List Nat:=foldN (namV st 8) (rowsN st (upN 0 m) (upN 0 m)) vs
def canR (ρ:List Nat) (ts:List PV) (st:St):Env:=⟨mapV (renV (ixN ρ) 8) ts,renS (ixN ρ) st 0 ρ,lenNs ρ⟩
def canE (m:Nat) (keep:List Nat) (E:Env):Env :=
 match maskL keep 0 E.tmps with
 | ts=>canR (seenN m E.st ts) ts E.st
def callN (args:List PV) (st:St):List Nat:=foldN (namV st 8) [] args
def bakN (ρ:List Nat) (next:Nat) (i:Nat):Option Nat :=
 match getNs ρ i with
 | some b=>some b
 | none=>some (next+(i - lenNs ρ))
def bakO (f:Nat→Option Nat) (st1:St):Nat→List Nat→St→St
 | _,[],st=>st
 | i,b::l,st=>bakO f st1 (i+1) l (inS st b (renB f (lkS st1 i)))
def bakE (ρ:List Nat) (E:Env) (st1:St) (n1:Nat):Env :=
 ⟨E.tmps,bakO (bakN ρ E.next) st1 0 (appN ρ (upN E.next (n1 - lenNs ρ))) E.st,E.next+(n1 - lenNs ρ)⟩
def lkRo (st:St) (b:Nat):Option Blk :=
 match lkS st b with
 | some (.var true row)=>some (.var true row)
 | some (.arr true sz rows)=>some (.arr true sz rows)
 | _=>none
def roS (st:St):List Nat→St
 | []=>st
 | b::l=>match lkS st b with
  | some (.var _ row)=>roS (inS st b (some (.var true row))) l
  | some (.arr _ sz rows)=>roS (inS st b (some (.arr true sz rows))) l
  | _=>roS st l
def noNar:St→Bool
 | []=>true
 | (_,some (.nar _ _))::_=>false
 | _::l=>noNar l
def callE (S:Sig) (k:Nat) (args:List PV) (E:Env) (K:PV→Env→Prop):Prop :=
 match mapO (frz S (lkRo E.st) 6) args with
 | some as=>S.callp k args as (mapV (renV (ixN []) 8) as) E K
 | none=>match callN args E.st with
  | ρ=>S.call k args E (mapO (frz S (lkS E.st) 6) args) (mapO (frz S (lkRo (roS E.st ρ)) 6) args) ρ (mapV (renV (ixN ρ) 8) args) (renS (ixN ρ) E.st 0 ρ) K
def callD (S:Sig) (k:Nat) (args:List PV) (lk:Nat→Option Blk) (K:PV→Prop):Prop :=
 match mapO (frz S (fun b=>match lk b with | some (.var true row)=>some (.var true row) | some (.arr true sz rows)=>some (.arr true sz rows) | _=>none) 6) args with
 | some as=>S.callq k as K
 | none=>match mapO (frz S lk 6) args with
  | some as=>S.callf k as K
  | none=>False
def stepO (T:Tab) (S:Sig) (o:Oper) (E:Env) (K:Env→Prop):Prop :=
 match o.op with
 | .call { callee:=.value f,args,argTypes:=_ } =>
  match evL T E.tmps f with
  | .fn k caps=>callE S k (appL (evA T E.tmps args.toList) caps) E fun v E=>K (putE E o.dst v)
  | _=>False
 | op =>
  match op,o.dst with
  | .pick (.tmp c) a b,d=>(match getL E.tmps c with
   | .sb t=>S.br t (fun _=>K (putE (putE E (some c) (.bool true)) d (evL T E.tmps a))) (fun _=>K (putE (putE E (some c) (.bool false)) d (evL T E.tmps b)))
   | _=>opE T S (.pick (.tmp c) a b) E.tmps (lkS E.st) E.next fun v δ=>K (putE ⟨E.tmps,applyD δ E.st,nextD δ E.next⟩ d v))
  | op,d=>opE T S op E.tmps (lkS E.st) E.next fun v δ=>K (putE ⟨E.tmps,applyD δ E.st,nextD δ E.next⟩ d v)
def opsE (T:Tab) (S:Sig) (all:Array Oper):List Oper→Env→(Env→Prop)→Prop
 | [],E,K=>K E
 | o::l,E,K=>gd S all o.guard E
   (fun E=>stepO T S o E fun E=>opsE T S all l E K)
   (fun E=>opsE T S all l (putE E o.dst .undef) K)
def quietK (K:PV→Prop) (v:PV):Dl→Prop
 | []=>K v
 | _::_=>False
def isQ:Op→Bool
 | .move _ | .assign _ | .pick _ _ _ | .fieldAddr _ _ _ | .field _ _ _ | .load _ _ | .nilCheck _ | .convert _ _ _ | .indexAddr _ _ _ | .slice _ _ _ _ _
 | .index _ _ _ | .extract _ _ | .build _ _ | .makeFunc _ _ _=>true
 | .binOp _ _ _ y _=>(match nilC y with | true=>false | false=>true)
 | .unOp _ _ _=>true
 | .call { callee:=.builtin .len,.. } | .call { callee:=.builtin .min,.. } | .call { callee:=.builtin .max,.. }=>true
 | _=>false
def lkC:List (Nat × Nat)→Nat→Nat
 | [],_=>3
 | (k,c)::l,f=>bif Nat.beq k f then c else lkC l f
def clsF (T:Tab):Operand→Nat
 | .func f=>lkC T.dcl f
 | _=>3
def clsO (T:Tab):Op→Nat
 | .alloc _=>1
 | .box _ _=>1
 | .makeSlice _ _ _=>1
 | .store _ _ _=>2
 | .slice _ _ _ _ _=>3
 | .call { callee:=.builtin .append,.. }=>2
 | .load _ _=>3
 | .indexAddr _ _ _=>3
 | .call { callee:=.value f,.. }=>clsF T f
 | .buildSlice _ _ _=>0
 | op=>bif isQ op then 0 else 4
def opQ (T:Tab) (S:Sig) (op:Op) (tmps:List PV) (lk:Nat→Option Blk) (id:Nat) (K:PV→Prop):Prop :=
 match op with
 | .call { callee:=.value f,args,argTypes:=_ } =>
  match evL T tmps f with
  | .fn k caps=>callD S k (appL (evA T tmps args.toList) caps) lk K
  | _=>False
 | .buildSlice t len parts =>
  match T t with
  | { ok:=true,kind:=.slice esz _ (some z),.. } =>
    bif isPos esz && Nat.beq (lenL z) esz && Nat.ble (len * esz) 16777216 && noTop (evP T tmps parts.toList) then
     (match fillV (fun i=>some (i * esz,esz)) (repL len z) (evP T tmps parts.toList) with
     | some cs=>(match pur S (fun _=>none) cs with
      | some (cs,[])=>wkC S cs fun cs=>K (.sl esz (chunks esz len cs) true)
      | _=>False)
     | none=>False)
    else False
  | _=>False
 | op=>bif isQ op then opE T S op tmps lk id (quietK K) else False
def stepQ (T:Tab) (S:Sig) (o:Oper) (lk:Nat→Option Blk) (E:Env) (K:Env→Prop):Prop :=
 match o.op with
 | .pick (.tmp c) a b=>(match getL E.tmps c with
   | .sb t=>S.br t (fun _=>K (putE (putE E (some c) (.bool true)) o.dst (evL T E.tmps a))) (fun _=>K (putE (putE E (some c) (.bool false)) o.dst (evL T E.tmps b)))
   | _=>opQ T S (.pick (.tmp c) a b) E.tmps lk E.next fun v=>K (putE E o.dst v))
 | op=>opQ T S op E.tmps lk E.next fun v=>K (putE E o.dst v)
def hideD (pend:List Nat) (lk:Nat→Option Blk) (b:Nat):Option Blk:=bif hasN pend b then none else lk b
def noLk (_:Nat):Option Blk:=none
def ltD (n:Nat):Dl→Bool
 | []=>true
 | (b,_)::l=>Nat.blt b n && ltD n l
def dlO (f:Nat→Option Nat) (st1:St):Nat→List Nat→Dl
 | _,[]=>[]
 | i,b::l=>(b,renB f (lkS st1 i))::dlO f st1 (i+1) l
def allS (st:St):List Nat→Bool
 | []=>true
 | b::l=>(match lkS st b with | some _=>true | none=>false) && allS st l
def callW2 (S:Sig) (k:Nat) (args:List PV) (ρ:List Nat) (st:St) (id:Nat) (K:PV→Dl→Prop):Prop :=
 match ltN id ρ && (nodN ρ && allS st ρ) with
 | true=>S.callw k (mapV (renV (ixN ρ) 8) args) (renS (ixN ρ) st 0 ρ) ρ fun v st1 n1=>(match Nat.ble n1 (lenNs ρ+32) with
  | true=>K (renV (bakN ρ id) 8 v) (dlO (bakN ρ id) st1 0 (appN ρ (upN id (n1 - lenNs ρ))))
  | false=>False)
 | false=>False
def opW (T:Tab) (S:Sig) (op:Op) (tmps:List PV) (lk:Nat→Option Blk) (st:St) (id:Nat) (c2:Bool) (K:PV→Dl→Prop):Prop :=
 match op with
 | .call { callee:=.value f,args,argTypes:=_ } =>
  match evL T tmps f with
  | .fn k caps=>(match c2 with
   | false=>(match mapO (frz S noLk 6) (appL (evA T tmps args.toList) caps) with
    | some as=>S.callm k (mapV (renV (ixN []) 8) as) fun v x=>K (renV (bakN [] id) 8 v) [(id,renB (bakN [] id) (some x))]
    | none=>False)
   | true=>(match callN (appL (evA T tmps args.toList) caps) st with
    | ρ=>callW2 S k (appL (evA T tmps args.toList) caps) ρ st id K))
  | _=>False
 | op=>opE T S op tmps lk id K
def stepD (T:Tab) (S:Sig) (o:Oper) (pend:List Nat) (E:Env) (K:List Nat→Env→Prop):Prop :=
 match clsO T o.op with
 | 0=>stepQ T S o noLk E (K pend)
 | 1=>opW T S o.op E.tmps noLk E.st E.next false fun v δ=>match δ with
  | [(id,some x)]=>bif Nat.beq id E.next then K (id::pend) (putE ⟨E.tmps,inS E.st id (some x),E.next+32⟩ o.dst v) else False
  | _=>False
 | 2=>opW T S o.op E.tmps (lkS E.st) E.st E.next true fun v δ=>bif ltD (E.next+32) δ then K [] (putE ⟨E.tmps,applyD δ E.st,E.next+32⟩ o.dst v) else False
 | 3=>stepQ T S o (hideD pend (lkS E.st)) E (K pend)
 | _=>False
def pairOK (all:Array Oper) (i:Nat) (o:Oper) (lo:List Tmp) (j:Nat) (p:Oper):Bool :=
 Nat.beq i j || match p.dst with
 | none=>true
 | some d=>o.dst != some d && (!lo.contains d || o.after.any (fun e=>Region.binds .any e && Nat.beq e.on j) || p.after.any (fun e=>Region.binds .any e && Nat.beq e.on i))
def chkOne (all:Array Oper) (i:Nat) (o:Oper) (lo:List Tmp):List Oper→Nat→Bool
 | [],_=>true
 | p::ps,j=>pairOK all i o lo j p && chkOne all i o lo ps (j+1)
def chkAll (all:Array Oper):List Oper→Nat→Bool
 | [],_=>true
 | o::os,i=>o.after.all (fun e=>!Region.binds .any e || Nat.blt e.on i) && chkOne all i o (o.looksAt all) all.toList 0 && chkAll all os (i+1)
def bindsOn (o:Oper):List Nat:=(o.after.toList.filter fun e=>Region.binds .any e).map fun e=>e.on
def unionN:List Nat→List Nat→List Nat
 | [],m=>m
 | b::l,m=>bif hasN m b then unionN l m else unionN l (b::m)
def getLL:List (List Nat)→Nat→List Nat
 | [],_=>[]
 | x::_,0=>x
 | _::l,n+1=>getLL l n
def befOf (acc:List (List Nat)):List Nat→List Nat
 | []=>[]
 | j::l=>unionN (j::getLL acc j) (befOf acc l)
def befs:List Oper→List (List Nat)→List (List Nat)
 | [],acc=>acc
 | o::l,acc=>befs l (acc ++ [befOf acc (bindsOn o)])
def ndO (T:Tab) (ps:List PV) (lk:Nat→Option Blk):Op→Bool
 | .store _ x _=>(match evL T ps x with
  | .lp b _ _=>(match lk b with | some (.nar _ _)=>true | _=>false)
  | .np _ _ _ _ _ _ _=>true
  | _=>false)
 | _=>false
def lenNs0:List Oper→Nat
 | []=>0
 | _::l=>lenNs0 l+1
def allIn (l:List Nat):Nat→Bool
 | 0=>true
 | n+1=>hasN l n && allIn l n
def lastOK (all:Array Oper):Bool:=match all.toList with
 | []=>false
 | _::l=>allIn (getLL (befs all.toList []) (lenNs0 l)) (lenNs0 l)
def nilP:List Oper→Bool
 | []=>true
 | _=>false
def stepL (T:Tab) (S:Sig) (all:Array Oper) (o:Oper) (last:Bool) (pend:List Nat) (K:List Nat→Env→Prop) (KE:Env→Prop) (E:Env):Prop :=
 match ndO T E.tmps (lkS E.st) o.op with
 | true=>(match last with
  | true=>S.last all (opE T S o.op E.tmps (lkS E.st) E.next fun v δ=>bif ltD (E.next+32) δ then KE (putE ⟨E.tmps,applyD δ E.st,E.next+32⟩ o.dst v) else False)
  | false=>False)
 | false=>stepD T S o pend E K
def opsD (T:Tab) (S:Sig) (all:Array Oper):List Oper→List Nat→Env→(Env→Prop)→Prop
 | [],_,E,K=>K E
 | o::l,pend,E,K=>gd S all o.guard E
   (fun E=>stepL T S all o (nilP l) pend (fun pend E=>opsD T S all l pend E K) K E)
   (fun E=>opsD T S all l pend (putE E o.dst .undef) K)
def clash (a b:Nat):Bool :=
 (Nat.beq a 2 && (Nat.beq b 2 || Nat.beq b 3)) || (Nat.beq b 2 && (Nat.beq a 1 || Nat.beq a 3))
def wOne (T:Tab) (bef:List Nat) (c:Nat):List Oper→Nat→Bool
 | [],_=>true
 | o::l,i=>(bif clash (clsO T o.op) c then hasN bef i else true) && wOne T bef c l (i+1)
def wAll (T:Tab) (all:List Oper) (B:List (List Nat)):List Oper→Nat→Bool
 | [],_=>true
 | o::l,i=>wOne T (getLL B i) (clsO T o.op) (all.take i) 0 && wAll T all B l (i+1)
def anyW (T:Tab):List Oper→Bool
 | []=>false
 | o::l=>Nat.beq (clsO T o.op) 2 || anyW T l
def drawOK (T:Tab) (all:Array Oper):Bool:=chkAll all all.toList 0 && (bif anyW T all.toList then wAll T all.toList (befs all.toList []) all.toList 0 else true)
def ltS (n:Nat):St→Bool
 | []=>true
 | (b,_)::l=>Nat.blt b n && ltS n l
abbrev Post:=Nat→Env→Prop
def seqQ (next:Env→Prop) (Q:Post):Post
 | 0,E=>next E
 | n+1,E=>Q (n+1) E
def blkQ (id:Nat) (Q:Post):Post
 | 0,E=>Q 0 E
 | 1,E=>Q 1 E
 | n+2,E=>bif Nat.beq n id then Q 0 E else Q (n+2) E
def firstR:Code→Option Nat
 | .region id _ _=>some id
 | .seq a _=>firstR a
 | .block _ b=>firstR b
 | .loop b=>firstR b
 | _=>none
def goesOn (cut:List Nat) (a b:Code):Bool :=
 match cut with
 | []=>true
 | _::_=>match a with
  | .region i _ _=>(bif hasN cut (2 * i) then false else true)
  | _=>match firstR b with
   | some i=>(bif hasN cut (2 * i+1) then false else true)
   | none=>true
def pwp (T:Tab) (S:Sig):Code→Post→Env→Prop
 | .skip,Q,E=>Q 0 E
 | .seq a b,Q,E=>bif goesOn T.cut a b then pwp T S a (seqQ (fun E=>pwp T S b Q E) Q) E else S.seq (fun Q=>pwp T S a Q E) (fun E=>pwp T S b Q E) Q
 | .ret,Q,E=>Q 1 E
 | .exit n,Q,E=>Q (n+2) E
 | .block id b,Q,E=>pwp T S b (blkQ id Q) E
 | .loop b,Q,E=>S.loop b Q E
 | .region _ l true,Q,E=>S.order l (bif ltS E.next E.st then opsD T S l l.toList [] E (Q 0) else False)
 | .region _ l false,Q,E=>opsE T S l l.toList E (Q 0)
 | .cond (.tmp c) a b,Q,E=>match getL E.tmps c with
  | .bool true=>pwp T S a Q E
  | .bool false=>pwp T S b Q E
  | .sb t=>S.br t (fun _=>pwp T S a Q (putE E (some c) (.bool true))) (fun _=>pwp T S b Q (putE E (some c) (.bool false)))
  | _=>False
 | .cond (.const (.bool true)) a _,Q,E=>pwp T S a Q E
 | .cond (.const (.bool false)) _ b,Q,E=>pwp T S b Q E
 | _,_,_=>False
def retV (T:Tab) (E:Env):ResultVar→Option PV
 | .tmp t=>some (getL E.tmps t)
 | .cell a t=>match getL E.tmps a,T t with
  | .lv b c,{ ok:=true,agg,size,.. }=>match lkS E.st b with
   | some (.var _ row) =>
    bif agg then (bif Nat.ble (c+size) (lenL row) then some (.agg (takeL size (dropL c row))) else none)
    else (bif Nat.blt c (lenL row) then some (getL row c) else none)
   | _=>none
  | _,_=>none
def retVs (T:Tab) (E:Env):List ResultVar→Option (List PV)
 | []=>some []
 | r::rs=>match retV T E r with
  | none=>none
  | some v=>match retVs T E rs with
   | none=>none
   | some vs=>some (v::vs)
def retOne:List PV→PV
 | [v]=>v
 | vs=>.tup vs
def retE (T:Tab) (S:Sig) (rs:List ResultVar) (E:Env) (R:PV→Prop):Prop :=
 match retVs T E rs with
 | some vs=>(match frz S (lkS E.st) 7 (retOne vs) with | some v=>R v | none=>False)
 | none=>False
def cvCell (S:Sig) (c:Nat × Bool) (v:PV) (st:St) (n:Nat):PV × St × Nat :=
 match c with
 | (z+1,re)=>(match v with
  | .sl _ es f=>(match f with
   | true=>(match es with
    | []=>(.os n 0 0,inS st n (some (.arr false (z+1) [])),n+1)
    | _::_=>(v,st,n))
   | false=>(v,st,n))
  | .os b r m=>(match re with
   | true=>(match lkS st b with
    | some (.arr false sz rows)=>(.os n 0 m,inS (inS st b none) n (some (.arr false sz (S.sub rows r m))),n+1)
    | _=>(v,st,n))
   | false=>(v,st,n))
  | _=>(v,st,n))
 | (0,true)=>(match callN [v] st with
  | ρ=>(match roS st ρ with
   | st'=>(match frz S (lkRo st') 6 v with
    | some v'=>(v',st',n)
    | none=>(v,st,n))))
 | _=>(v,st,n)
def cvCells (S:Sig):List (Nat × Bool)→List PV→St→Nat→List PV × St × Nat
 | z::zs,v::vs,st,n=>match cvCell S z v st n with
  | (v',st',n')=>match cvCells S zs vs st' n' with
   | (vs',st2,n2)=>(v'::vs',st2,n2)
 | _,vs,st,n=>(vs,st,n)
def cvOne (S:Sig) (zs:List (Nat × Bool)) (v:PV) (st:St) (n:Nat):PV × St × Nat :=
 match v with
 | .agg cs=>match cvCells S zs cs st n with | (cs',st',n')=>(.agg cs',st',n')
 | v=>match zs with
  | [z]=>cvCell S z v st n
  | _=>(v,st,n)
def cvOnes (S:Sig):List (List (Nat × Bool))→List PV→St→Nat→List PV × St × Nat
 | zs::own,v::vs,st,n=>match cvOne S zs v st n with
  | (v',st',n')=>match cvOnes S own vs st' n' with
   | (vs',st2,n2)=>(v'::vs',st2,n2)
 | _,vs,st,n=>(vs,st,n)
def cvRet (S:Sig) (own:List (List (Nat × Bool))) (v:PV) (st:St) (n:Nat):PV × St × Nat :=
 match v with
 | .tup vs=>match cvOnes S own vs st n with | (vs',st',n')=>(.tup vs',st',n')
 | v=>match own with
  | [zs]=>cvOne S zs v st n
  | _=>(v,st,n)
def retSE (T:Tab) (S:Sig) (rs:List ResultVar) (E:Env) (R:PV→St→Nat→Prop):Prop :=
 match retVs T E rs with
 | some vs=>(match cvRet S T.own (retOne vs) E.st E.next with
  | (v,st,_)=>(match seenN T.pas st [v] with
   | ρ=>R (renV (ixN ρ) 8 v) (renS (ixN ρ) st 0 ρ) (lenNs ρ)))
 | none=>False
def retSQ (T:Tab) (S:Sig) (rs:List ResultVar) (R:PV→St→Nat→Prop):Post
 | 0,E=>retSE T S rs E R
 | 1,E=>retSE T S rs E R
 | _+2,_=>False
def retQ (T:Tab) (S:Sig) (rs:List ResultVar) (R:PV→Prop):Post
 | 0,E=>retE T S rs E R
 | 1,E=>retE T S rs E R
 | _+2,_=>False
def undefs:Nat→List PV
 | 0=>[]
 | n+1=>.undef::undefs n
end Go.Pv
namespace Go.Pv
open Go
structure Loc where
 cb:Nat
 co:Nat
 sz:Nat
 tot:Nat
 nr:Nat
abbrev Sg:=Nat→Option Loc
def noSg:Sg:=fun _=>none
mutual
def Rep (w:World) (Y:Nat→Prop) (σ:Sg):PV→Value→Prop
 | .bool b,v=>v=.bool b
 | .sb b,v=>v=.bool b
 | .int k n,v=>v=.int k n
 | .si k n,v=>v=.int k n
 | .str s,v=>v=.string s
 | .agg cs,v=>∃ vs:List Value,v=.agg vs.toArray∧RepL w Y σ cs vs
 | .tup cs,v=>∃ vs:List Value,v=.tuple vs.toArray∧RepL w Y σ cs vs
 | .sl sz es full,v=>∃ a len cap,v=.slice a len cap∧len=es.length∧len≤cap∧(full=true→cap=len) ∧
   (es=[]∨∃ b o,a=some ⟨b,o,none⟩∧(b<w.heap.size∧¬ Y b)∧RepR w Y noSg b sz es o)
 | .os b r n,v=>(∃ l cap,σ b=some l∧v=.slice (some ⟨l.cb,l.co+r * l.sz,none⟩) n cap∧n≤cap∧l.co+r * l.sz+cap * l.sz=l.tot∧r+n≤l.nr) ∨
   (n=0∧∃ a,v=.slice a 0 0)
 | .lv b c,v=>∃ l,σ b=some l∧v=.pointer (some ⟨l.cb,l.co+c,none⟩)
 | .lp b r c,v=>∃ l,σ b=some l∧v=.pointer (some ⟨l.cb,l.co+r * l.sz+c,none⟩)
 | .pp cs,v=>∃ b o,v=.pointer (some ⟨b,o,none⟩)∧(b<w.heap.size∧¬ Y b)∧RepC w Y noSg b cs o
 | .ow h _ es,v=>(es ≠ []∧v=.slice (some ⟨h.ν,h.o,none⟩) es.length h.cap∧es.length≤h.cap)∨(es=[]∧∃ a cap,v=.slice a 0 cap)
 | .bo _ _ _ h sz n,v=>(n ≠ 0∧v=.slice (some ⟨h.ν,h.o,none⟩) n h.cap∧n≤h.cap)∨(n=0∧∃ a cap,v=.slice a 0 cap)
 | .np _ _ _ h sz j k,v=>v=.pointer (some ⟨h.ν,h.o+j * sz+k,none⟩)
 | .nilp,v=>v=.pointer none
 | .fn f cs,v=>∃ vs:List Value,v=.func (.func f) #[] vs.toArray∧RepL w Y σ cs vs
 | .nilf,v=>v=.nilFunc
 | .top,_=>True
 | .undef,v=>v=Go.undef
def RepL (w:World) (Y:Nat→Prop) (σ:Sg):List PV→List Value→Prop
 | [],vs=>vs=[]
 | c::cs,vs=>∃ v vs',vs=v::vs'∧Rep w Y σ c v∧RepL w Y σ cs vs'
def RepC (w:World) (Y:Nat→Prop) (σ:Sg) (b:Nat):List PV→Nat→Prop
 | [],_=>True
 | c::cs,o=>(∃ v,w.cell? ⟨b,o,none⟩=some v∧Rep w Y σ c v)∧RepC w Y σ b cs (o+1)
def RepR (w:World) (Y:Nat→Prop) (σ:Sg) (b sz:Nat):List (List PV)→Nat→Prop
 | [],_=>True
 | r::rs,o=>(r.length=sz∧allCell r=true)∧RepC w Y σ b r o∧RepR w Y σ b sz rs (o+sz)
end
def SgLe (σ σ' : Sg):Prop:=∀ b l,σ b=some l→σ' b=some l
def Off (id:Nat) (σ σ' : Sg):Prop:=∀ b,b ≠ id→σ' b=σ b
theorem Off.refl (id:Nat) (σ:Sg):Off id σ σ:=fun _ _=>rfl
theorem SgLe.refl (σ:Sg):SgLe σ σ:=fun _ _ h=>h
theorem SgLe.trans {a b c:Sg} (h:SgLe a b) (k:SgLe b c):SgLe a c:=fun x l e=>k x l (h x l e)
theorem heap_of_cell {w:World} {b o:Nat} {v:Value} (h:w.cell? ⟨b,o,none⟩=some v):b<w.heap.size:=by
 unfold World.cell? at h
 by_cases hb:b<w.heap.size
 ·exact hb
 ·simp [Array.getElem?_eq_none (Nat.le_of_not_lt hb)] at h
theorem cell_same {w w' : World} {b:Nat} (h:w'.heap[b]?=w.heap[b]?) (o:Nat):w'.cell? ⟨b,o,none⟩=w.cell? ⟨b,o,none⟩:=by
 simp only [World.cell?,h]
structure Keep (w w' : World) (Y Y' : Nat→Prop) (σ σ' : Sg):Prop where
 heap:∀ k,k<w.heap.size→¬ Y k→w'.heap[k]?=w.heap[k]?
 excl:∀ k,k<w.heap.size→Y' k→Y k
 size:w.heap.size≤w'.heap.size
 sg:SgLe σ σ'
theorem Keep.none {w w' : World} {Y Y' : Nat→Prop} {σ σ' : Sg} (h:Keep w w' Y Y' σ σ'):Keep w w' Y Y' noSg noSg:=⟨h.heap,h.excl,h.size,SgLe.refl _⟩
mutual
theorem Rep.keep {w w' : World} {Y Y' : Nat→Prop}:∀ (p:PV) {σ σ' : Sg} (_:Keep w w' Y Y' σ σ') (v:Value),Rep w Y σ p v→Rep w' Y' σ' p v
 | .bool _,_,_,_,_,h | .sb _,_,_,_,_,h | .int _ _,_,_,_,_,h | .si _ _,_,_,_,_,h | .str _,_,_,_,_,h
 | .ow _ _ _,_,_,_,_,h | .bo _ _ _ _ _ _,_,_,_,_,h | .np _ _ _ _ _ _ _,_,_,_,_,h
 | .nilp,_,_,_,_,h | .nilf,_,_,_,_,h | .top,_,_,_,_,h | .undef,_,_,_,_,h=>by unfold Rep at h ⊢; exact h
 | .agg cs,_,_,K,v,h=>by
  unfold Rep at h ⊢; obtain ⟨vs,e,h⟩:=h; exact ⟨vs,e,RepL.keep cs K vs h⟩
 | .tup cs,_,_,K,v,h=>by
  unfold Rep at h ⊢; obtain ⟨vs,e,h⟩:=h; exact ⟨vs,e,RepL.keep cs K vs h⟩
 | .fn f cs,_,_,K,v,h=>by
  unfold Rep at h ⊢; obtain ⟨vs,e,h⟩:=h; exact ⟨vs,e,RepL.keep cs K vs h⟩
 | .sl sz es full,_,_,K,v,h=>by
  unfold Rep at h ⊢
  obtain ⟨a,len,cap,e,hl,hc,hf,h⟩:=h
  refine ⟨a,len,cap,e,hl,hc,hf,?_⟩
  rcases h with h | ⟨b,o,ha,⟨hs,hb⟩,h⟩
  ·exact .inl h
  ·exact .inr ⟨b,o,ha,⟨Nat.lt_of_lt_of_le hs K.size,fun hy=>hb (K.excl b hs hy)⟩,RepR.keep es K.none (fun hk=>K.heap b hk hb) o h⟩
 | .os b r n,_,_,K,v,h=>by
  unfold Rep at h ⊢
  rcases h with ⟨l,cap,hs,e,h⟩ | h
  ·exact .inl ⟨l,cap,K.sg _ _ hs,e,h⟩
  ·exact .inr h
 | .lv b c,_,_,K,v,h=>by
  unfold Rep at h ⊢; obtain ⟨l,hs,e⟩:=h; exact ⟨l,K.sg _ _ hs,e⟩
 | .lp b r c,_,_,K,v,h=>by
  unfold Rep at h ⊢; obtain ⟨l,hs,e⟩:=h; exact ⟨l,K.sg _ _ hs,e⟩
 | .pp cs,_,_,K,v,h=>by
  unfold Rep at h ⊢
  obtain ⟨b,o,e,⟨hs,hb⟩,h⟩:=h
  exact ⟨b,o,e,⟨Nat.lt_of_lt_of_le hs K.size,fun hy=>hb (K.excl b hs hy)⟩,RepC.keep cs K.none (fun hk=>K.heap b hk hb) o h⟩
theorem RepL.keep {w w' : World} {Y Y' : Nat→Prop}:∀ (ps:List PV) {σ σ' : Sg} (_:Keep w w' Y Y' σ σ') (vs:List Value),RepL w Y σ ps vs→RepL w' Y' σ' ps vs
 | [],_,_,_,_,h=>by unfold RepL at h ⊢; exact h
 | p::ps,_,_,K,vs,h=>by
  unfold RepL at h ⊢
  obtain ⟨v,vs',e,h1,h2⟩:=h
  exact ⟨v,vs',e,Rep.keep p K v h1,RepL.keep ps K vs' h2⟩
theorem RepC.keep {w w' : World} {Y Y' : Nat→Prop} {b:Nat}:∀ (ps:List PV) {σ σ' : Sg} (_:Keep w w' Y Y' σ σ') (_:b<w.heap.size→w'.heap[b]?=w.heap[b]?) (o:Nat),RepC w Y σ b ps o→RepC w' Y' σ' b ps o
 | [],_,_,_,_,_,_=>by unfold RepC; trivial
 | p::ps,_,_,K,hb,o,h=>by
  unfold RepC at h ⊢
  obtain ⟨⟨v,hc,h1⟩,h2⟩:=h
  exact ⟨⟨v,by rw [cell_same (hb (heap_of_cell hc))]; exact hc,Rep.keep p K v h1⟩,RepC.keep ps K hb (o+1) h2⟩
theorem RepR.keep {w w' : World} {Y Y' : Nat→Prop} {b sz:Nat}:∀ (rs:List (List PV)) {σ σ' : Sg} (_:Keep w w' Y Y' σ σ') (_:b<w.heap.size→w'.heap[b]?=w.heap[b]?) (o:Nat),RepR w Y σ b sz rs o→RepR w' Y' σ' b sz rs o
 | [],_,_,_,_,_,_=>by unfold RepR; trivial
 | r::rs,_,_,K,hb,o,h=>by
  unfold RepR at h ⊢
  exact ⟨h.1,RepC.keep r K hb o h.2.1,RepR.keep rs K hb (o+sz) h.2.2⟩
end
def Blk.ro:Blk→Bool
 | .var ro _=>ro
 | .arr ro _ _=>ro
 | .nar _ _=>false
structure At (w:World) (l:Loc):Prop where
 blk:∃ arr ty,w.heap[l.cb]?=some (.cells arr ty (0,0))∧arr.size=l.tot
def BlkRep (w:World) (Y:Nat→Prop) (σ:Sg) (l:Loc):Blk→Prop
 | .var ro row=>At w l∧l.sz=row.length∧l.co+row.length≤l.tot∧RepC w Y σ l.cb row l.co∧(ro=false→Y l.cb)∧(ro=true→¬ Y l.cb)
 | .arr ro sz rows=>At w l∧l.sz=sz∧0<sz∧(l.co+rows.length * sz≤l.tot∧rows.length=l.nr)∧RepR w Y noSg l.cb sz rows l.co∧(ro=false→Y l.cb)∧(ro=true→¬ Y l.cb)
 | .nar sz rows=>At w l∧l.sz=sz∧0<sz∧(l.co+rows.length * sz≤l.tot∧rows.length=l.nr)∧RepR w Y noSg l.cb sz rows l.co∧Y l.cb
structure StRep (w:World) (Y:Nat→Prop) (σ:Sg) (st:St):Prop where
 blk:∀ b x,lkS st b=some x→(∃ l,σ b=some l∧BlkRep w Y σ l x)∨(σ b=none∧∃ ro sz,x=.arr ro sz [])
 inj:∀ b b' x x' l l',lkS st b=some x→lkS st b'=some x'→σ b=some l→σ b'=some l'→l.cb=l'.cb→b=b'
def OwAt (st:St) (b r c:Nat) (h:Hdr) (sz:Nat) (es:List (List PV)):Prop:=∃ sz0 rows row,lkS st b=some (.nar sz0 rows)∧rows[r]?=some row∧row[c]?=some (.ow h sz es)∧es ≠ []
theorem OwAt.same {st st' : St} {b r c:Nat} {h:Hdr} {sz:Nat} {es:List (List PV)} (e:lkS st' b=lkS st b) (k:OwAt st' b r c h sz es):OwAt st b r c h sz es:=by
 obtain ⟨sz0,rows,row,h1,h2⟩:=k
 exact ⟨sz0,rows,row,by rw [← e]; exact h1,h2⟩
theorem OwAt.sub {st st' : St} {b r c:Nat} {h:Hdr} {sz:Nat} {es:List (List PV)} (e:∀ x,lkS st' b=some x→lkS st b=some x) (k:OwAt st' b r c h sz es):OwAt st b r c h sz es:=by
 obtain ⟨sz0,rows,row,h1,h2⟩:=k
 exact ⟨sz0,rows,row,e _ h1,h2⟩
structure NRep (w:World) (Y:Nat→Prop) (h:Hdr) (sz:Nat) (es:List (List PV)):Prop where
 own:Y h.ν
 pos:0<sz
 blk:∃ arr ty,w.heap[h.ν]?=some (.cells arr ty (0,0))∧arr.size=h.o+h.cap * sz
 len:es.length≤h.cap
 rows:RepR w Y noSg h.ν sz es h.o
structure Ctx (T:Tab) where
 w0:World
 Y0:Nat→Prop
 L:Nat→Prop
 M:Nat→Prop
 base:Sg
structure ChgM (M:Nat→Prop) (w0 w:World):Prop where
 os:w.os=w0.os
 tape:w.tape=w0.tape
 output:w.output=w0.output
 size:w0.heap.size≤w.heap.size
 block:∀ k,k<w0.heap.size→¬ M k→w.heap[k]?=w0.heap[k]?
structure Chg (w0 w:World):Prop where
 os:w.os=w0.os
 tape:w.tape=w0.tape
 output:w.output=w0.output
 size:w0.heap.size≤w.heap.size
 block:∀ k,k<w0.heap.size→w.heap[k]?=w0.heap[k]?
theorem Chg.refl (w:World):Chg w w:=⟨rfl,rfl,rfl,Nat.le_refl _,fun _ _=>rfl⟩
theorem ChgM.refl (M:Nat→Prop) (w:World):ChgM M w w:=⟨rfl,rfl,rfl,Nat.le_refl _,fun _ _ _=>rfl⟩
theorem ChgM.chg {M:Nat→Prop} {a b:World} (h:ChgM M a b) (hM:∀ k,¬ M k):Chg a b:=⟨h.os,h.tape,h.output,h.size,fun k hk=>h.block k hk (hM k)⟩
theorem ChgM.trans {M:Nat→Prop} {a b c:World} (h:ChgM M a b) (k:ChgM M b c):ChgM M a c :=
 ⟨by rw [k.os,h.os],by rw [k.tape,h.tape],by rw [k.output,h.output],Nat.le_trans h.size k.size,fun i hi hm=>by rw [k.block i (Nat.lt_of_lt_of_le hi h.size) hm,h.block i hi hm]⟩
def Glob (G:Nat→Option (List PV)) (w:World) (Y:Nat→Prop):Prop:=∀ g cs,G g=some cs→Rep w Y noSg (.pp cs) (.pointer (some ⟨g,0,none⟩))
theorem Glob.keep {G:Nat→Option (List PV)} {w w' : World} {Y Y' : Nat→Prop} (h:Glob G w Y) (K:Keep w w' Y Y' noSg noSg):Glob G w' Y':=fun g cs hg=>Rep.keep _ K _ (h g cs hg)
theorem Chg.below {a b:World} (h:Chg a b):RowKit.Below a.heap.size a b:=⟨h.os,h.tape,h.output,h.size,h.block⟩
structure Nest (w0:World) (L:Nat→Prop) (w:World) (Y:Nat→Prop) (σ:Sg) (st:St):Prop where
 rep:∀ b r c h sz es,OwAt st b r c h sz es→NRep w Y h sz es
 old:∀ b r c h sz es,OwAt st b r c h sz es→w0.heap.size≤h.ν∨L h.ν
 one:∀ b r c h sz es b' r' c' h' sz' es',OwAt st b r c h sz es→OwAt st b' r' c' h' sz' es'→h.ν=h'.ν→b=b'∧r=r'∧c=c'
 sep:∀ b r c h sz es b' x l,OwAt st b r c h sz es→lkS st b'=some x→σ b'=some l→l.cb ≠ h.ν
theorem NRep.lt {w:World} {Y:Nat→Prop} {h:Hdr} {sz:Nat} {es:List (List PV)} (H:NRep w Y h sz es):h.ν<w.heap.size:=by
 obtain ⟨arr,ty,h1,_⟩:=H.blk
 by_cases hb:h.ν<w.heap.size
 ·exact hb
 ·simp [Array.getElem?_eq_none (Nat.le_of_not_lt hb)] at h1
theorem NRep.keep {w w' : World} {Y Y' : Nat→Prop} {h:Hdr} {sz:Nat} {es:List (List PV)} (H:NRep w Y h sz es) (K:Keep w w' Y Y' noSg noSg) (hb:w'.heap[h.ν]?=w.heap[h.ν]?) (hY:Y h.ν→Y' h.ν):NRep w' Y' h sz es :=
 ⟨hY H.own,H.pos,by rw [hb]; exact H.blk,H.len,RepR.keep es K (fun _=>hb) _ H.rows⟩
theorem Nest.none {w0 w:World} {L Y:Nat→Prop} {σ:Sg} {st:St} (h:∀ b sz rows,lkS st b ≠ some (.nar sz rows)):Nest w0 L w Y σ st:=by
 have no:∀ {b r c h sz es},OwAt st b r c h sz es→False:=fun ⟨_,_,_,h1,_⟩=>h _ _ _ h1
 exact ⟨fun _ _ _ _ _ _ k=>(no k).elim,fun _ _ _ _ _ _ k=>(no k).elim,fun _ _ _ _ _ _ _ _ _ _ _ _ k=>(no k).elim,fun _ _ _ _ _ _ _ _ _ k=>(no k).elim⟩
theorem Nest.keep {w0 w w' : World} {L Y Y' : Nat→Prop} {σ σ' : Sg} {st st' : St} (H:Nest w0 L w Y σ st) (K:Keep w w' Y Y' noSg noSg)
  (hsub:∀ b r c h sz es,OwAt st' b r c h sz es→OwAt st b r c h sz es)
  (hheap:∀ b r c h sz es,OwAt st' b r c h sz es→w'.heap[h.ν]?=w.heap[h.ν]?)
  (hY:∀ b r c h sz es,OwAt st' b r c h sz es→Y' h.ν)
  (hsep:∀ b r c h sz es b' x l,OwAt st' b r c h sz es→lkS st' b'=some x→σ' b'=some l→l.cb ≠ h.ν):Nest w0 L w' Y' σ' st' :=
 ⟨fun b r c h sz es k=>(H.rep _ _ _ _ _ _ (hsub _ _ _ _ _ _ k)).keep K (hheap _ _ _ _ _ _ k) (fun _=>hY _ _ _ _ _ _ k),
   fun b r c h sz es k=>H.old _ _ _ _ _ _ (hsub _ _ _ _ _ _ k),
   fun b r c h sz es b' r' c' h' sz' es' k k' e=>H.one _ _ _ _ _ _ _ _ _ _ _ _ (hsub _ _ _ _ _ _ k) (hsub _ _ _ _ _ _ k') e,hsep⟩
theorem Nest.sub {w0 w:World} {L Y:Nat→Prop} {σ:Sg} {st st' : St} (H:Nest w0 L w Y σ st) (h:∀ b x,lkS st' b=some x→lkS st b=some x):Nest w0 L w Y σ st' :=
 H.keep ⟨fun _ _ _=>rfl,fun _ _ h=>h,Nat.le_refl _,SgLe.refl _⟩ (fun b _ _ _ _ _ k=>k.sub (h b)) (fun _ _ _ _ _ _ _=>rfl) (fun b r c h' sz es k=>(H.rep _ _ _ _ _ _ (k.sub (h b))).own)
  (fun b r c h' sz es b' x l k hx hl=>H.sep _ _ _ _ _ _ _ _ _ (k.sub (h b)) (h b' x hx) hl)
theorem Nest.heap {w0 w w' : World} {L Y:Nat→Prop} {σ:Sg} {st:St} (H:Nest w0 L w Y σ st) (hs:w.heap.size≤w'.heap.size) (hh:∀ k,k<w.heap.size→w'.heap[k]?=w.heap[k]?):Nest w0 L w' Y σ st :=
 H.keep ⟨fun k hk _=>hh k hk,fun _ _ h=>h,hs,SgLe.refl _⟩ (fun _ _ _ _ _ _ k=>k) (fun _ _ _ _ _ _ k=>hh _ (H.rep _ _ _ _ _ _ k).lt) (fun _ _ _ _ _ _ k=>(H.rep _ _ _ _ _ _ k).own) H.sep
structure SW {T:Tab} (C:Ctx T) (w:World) (Y:Nat→Prop) (σ:Sg) (ps:List PV) (vs:List Value) (st:St) (n:Nat):Prop where
 vals:RepL w Y σ ps vs
 store:StRep w Y σ st
 next:∀ b,n≤b→σ b=none
 yold:∀ k,Y k→k<w.heap.size
 y0:∀ k,C.Y0 k→Y k
 c0:∀ k,C.Y0 k→k<C.w0.heap.size∧¬ C.L k
 yshr:∀ k,Y k→k<C.w0.heap.size→C.Y0 k∨C.M k
 chg:ChgM C.M C.w0 w
 own:∀ b x l,lkS st b=some x→σ b=some l→C.w0.heap.size≤l.cb∨C.L l.cb
 glob:Glob T.gl w Y
 fix:T.pas≤n∧∀ b,b<T.pas→σ b=C.base b
 nest:Nest C.w0 C.L w Y σ st
theorem SW.away {T:Tab} {C:Ctx T} {w:World} {Y:Nat→Prop} {σ:Sg} {ps:List PV} {vs:List Value} {st:St} {n:Nat} (H:SW C w Y σ ps vs st n) {b:Nat} {x:Blk} {l:Loc} (hx:lkS st b=some x) (hl:σ b=some l):¬ C.Y0 l.cb:=fun h=>by
 have h1:=H.c0 _ h
 rcases H.own b x l hx hl with h2 | h2
 ·omega
 ·exact h1.2 h2
theorem SW.mono {T:Tab} {C:Ctx T} {w:World} {Y:Nat→Prop} {σ:Sg} {ps:List PV} {vs:List Value} {st:St} {n n' : Nat} (H:SW C w Y σ ps vs st n) (h:n≤n'):SW C w Y σ ps vs st n' :=
 ⟨H.vals,H.store,fun b hb=>H.next b (Nat.le_trans h hb),H.yold,H.y0,H.c0,H.yshr,H.chg,H.own,H.glob,⟨Nat.le_trans H.fix.1 h,H.fix.2⟩,H.nest⟩
theorem SW.vals' {T:Tab} {C:Ctx T} {w:World} {Y:Nat→Prop} {σ:Sg} {ps ps' : List PV} {vs vs' : List Value} {st:St} {n:Nat} (H:SW C w Y σ ps vs st n) (h:RepL w Y σ ps' vs'):SW C w Y σ ps' vs' st n :=
 ⟨h,H.store,H.next,H.yold,H.y0,H.c0,H.yshr,H.chg,H.own,H.glob,H.fix,H.nest⟩
def EnvRep {T:Tab} (C:Ctx T) (E:Env) (vs:List Value) (w:World):Prop:=∃ Y σ,SW C w Y σ E.tmps vs E.st E.next
theorem RepL.get {w:World} {Y:Nat→Prop} {σ:Sg}:∀ (ps:List PV) (vs:List Value) (t:Nat),RepL w Y σ ps vs→Rep w Y σ (getL ps t) (vs.getD t Go.undef)
 | [],vs,t,h=>by unfold RepL at h; subst h; simp [getL,Rep]
 | p::ps,vs,0,h=>by unfold RepL at h; obtain ⟨v,vs',rfl,h1,_⟩:=h; simpa [getL] using h1
 | p::ps,vs,t+1,h=>by
  unfold RepL at h; obtain ⟨v,vs',rfl,_,h2⟩:=h
  simpa [getL] using RepL.get ps vs' t h2
theorem RepL.length {w:World} {Y:Nat→Prop} {σ:Sg}:∀ (ps:List PV) (vs:List Value),RepL w Y σ ps vs→vs.length=ps.length
 | [],vs,h=>by unfold RepL at h; subst h; rfl
 | p::ps,vs,h=>by unfold RepL at h; obtain ⟨v,vs',rfl,_,h2⟩:=h; simp [RepL.length ps vs' h2]
theorem RepL.set {w:World} {Y:Nat→Prop} {σ:Sg} {p:PV} {v:Value} (hp:Rep w Y σ p v):∀ (ps:List PV) (vs:List Value) (t:Nat),RepL w Y σ ps vs→RepL w Y σ (setL ps t p) (vs.set t v)
 | [],vs,t,h=>by unfold RepL at h; subst h; simp [setL,RepL]
 | q::ps,vs,0,h=>by
  unfold RepL at h; obtain ⟨u,vs',rfl,_,h2⟩:=h
  simp only [setL,List.set_cons_zero]; unfold RepL; exact ⟨v,vs',rfl,hp,h2⟩
 | q::ps,vs,t+1,h=>by
  unfold RepL at h; obtain ⟨u,vs',rfl,h1,h2⟩:=h
  simp only [setL,List.set_cons_succ]; unfold RepL; exact ⟨u,_,rfl,h1,RepL.set hp ps vs' t h2⟩
theorem RepL.app {w:World} {Y:Nat→Prop} {σ:Sg}:∀ (ps qs:List PV) (vs us:List Value),RepL w Y σ ps vs→RepL w Y σ qs us→RepL w Y σ (appL ps qs) (vs ++ us)
 | [],qs,vs,us,h,k=>by unfold RepL at h; subst h; simpa [appL] using k
 | p::ps,qs,vs,us,h,k=>by
  unfold RepL at h; obtain ⟨v,vs',rfl,h1,h2⟩:=h
  simp only [appL,List.cons_append]; unfold RepL; exact ⟨v,_,rfl,h1,RepL.app ps qs vs' us h2 k⟩
@[simp] theorem lenL_eq:∀ l,lenL l=l.length
 | []=>rfl
 | _::l=>by simp [lenL,lenL_eq l]
@[simp] theorem takeL_eq:∀ n l,takeL n l=l.take n
 | 0,l=>by simp [takeL]
 | n+1,[]=>by simp [takeL]
 | n+1,x::l=>by simp [takeL,takeL_eq n l]
@[simp] theorem dropL_eq:∀ n l,dropL n l=l.drop n
 | 0,l=>by simp [dropL]
 | n+1,[]=>by simp [dropL]
 | n+1,x::l=>by simp [dropL,dropL_eq n l]
@[simp] theorem appL_eq:∀ l m,appL l m=l ++ m
 | [],m=>by simp [appL]
 | x::l,m=>by simp [appL,appL_eq l m]
theorem setL_eq:∀ l n v,setL l n v=l.set n v
 | [],n,v=>by simp [setL]
 | x::l,0,v=>by simp [setL]
 | x::l,n+1,v=>by simp [setL,setL_eq l n v]
theorem getL_eq:∀ l n,getL l n=l.getD n .undef
 | [],n=>by simp [getL]
 | x::l,0=>by simp [getL]
 | x::l,n+1=>by simpa [getL] using getL_eq l n
theorem RepC.get {w:World} {Y:Nat→Prop} {σ:Sg} {b:Nat}:∀ (ps:List PV) (o i:Nat),RepC w Y σ b ps o→i<ps.length→∃ v,w.cell? ⟨b,o+i,none⟩=some v∧Rep w Y σ (getL ps i) v
 | [],_,_,_,h=>by simp at h
 | p::ps,o,0,h,_=>by unfold RepC at h; simpa [getL] using h.1
 | p::ps,o,i+1,h,hi=>by
  unfold RepC at h
  have:=RepC.get ps (o+1) i h.2 (by simpa using hi)
  rw [show o+(i+1)=o+1+i by omega]; simpa [getL] using this
theorem RepC.drop {w:World} {Y:Nat→Prop} {σ:Sg} {b:Nat}:∀ (n:Nat) (ps:List PV) (o:Nat),RepC w Y σ b ps o→RepC w Y σ b (ps.drop n) (o+n)
 | 0,ps,o,h=>by simpa using h
 | n+1,[],o,h=>by simp [RepC]
 | n+1,p::ps,o,h=>by
  unfold RepC at h
  have:=RepC.drop n ps (o+1) h.2
  rw [show o+(n+1)=o+1+n by omega]; simpa using this
theorem RepC.take {w:World} {Y:Nat→Prop} {σ:Sg} {b:Nat}:∀ (n:Nat) (ps:List PV) (o:Nat),RepC w Y σ b ps o→RepC w Y σ b (ps.take n) o
 | 0,ps,o,h=>by simp [RepC]
 | n+1,[],o,h=>by simp [RepC]
 | n+1,p::ps,o,h=>by
  unfold RepC at h
  simp only [List.take_succ_cons]; unfold RepC; exact ⟨h.1,RepC.take n ps (o+1) h.2⟩
theorem RepC.vals {w:World} {Y:Nat→Prop} {σ:Sg} {b:Nat}:∀ (ps:List PV) (o:Nat),RepC w Y σ b ps o →
  ∃ vs:List Value,RepL w Y σ ps vs∧∀ i v,vs[i]?=some v→w.cell? ⟨b,o+i,none⟩=some v
 | [],o,_=>⟨[],by unfold RepL; rfl,by simp⟩
 | p::ps,o,h=>by
  unfold RepC at h
  obtain ⟨⟨v,hc,h1⟩,h2⟩:=h
  obtain ⟨vs,hr,hv⟩:=RepC.vals ps (o+1) h2
  refine ⟨v::vs,by unfold RepL; exact ⟨v,vs,rfl,h1,hr⟩,fun i u hu=>?_⟩
  cases i with
  | zero=>simp at hu; subst hu; simpa using hc
  | succ i=>rw [show o+(i+1)=o+1+i by omega]; exact hv i u (by simpa using hu)
theorem RepC.of_vals {w:World} {Y:Nat→Prop} {σ:Sg} {b:Nat}:∀ (ps:List PV) (vs:List Value) (o:Nat),RepL w Y σ ps vs→(∀ i v,vs[i]?=some v→w.cell? ⟨b,o+i,none⟩=some v)→RepC w Y σ b ps o
 | [],vs,o,_,_=>by unfold RepC; trivial
 | p::ps,vs,o,h,hc=>by
  unfold RepL at h; obtain ⟨v,vs',rfl,h1,h2⟩:=h
  unfold RepC
  refine ⟨⟨v,by simpa using hc 0 v rfl,h1⟩,RepC.of_vals ps vs' (o+1) h2 fun i u hu=>?_⟩
  rw [show o+1+i=o+(i+1) by omega]; exact hc (i+1) u (by simpa using hu)
theorem RepR.row {w:World} {Y:Nat→Prop} {σ:Sg} {b sz:Nat}:∀ (rs:List (List PV)) (o i:Nat) (row:List PV),RepR w Y σ b sz rs o→rs[i]?=some row→(row.length=sz∧allCell row=true)∧RepC w Y σ b row (o+i * sz)
 | [],_,_,_,_,h=>by simp at h
 | r::rs,o,0,row,h,hi=>by unfold RepR at h; simp at hi; subst hi; exact ⟨h.1,by simpa using h.2.1⟩
 | r::rs,o,i+1,row,h,hi=>by
  unfold RepR at h
  have:=RepR.row rs (o+sz) i row h.2.2 (by simpa using hi)
  refine ⟨this.1,?_⟩
  rw [show o+(i+1) * sz=o+sz+i * sz by rw [Nat.add_mul]; omega]; exact this.2
theorem RepR.drop {w:World} {Y:Nat→Prop} {σ:Sg} {b sz:Nat}:∀ (n:Nat) (rs:List (List PV)) (o:Nat),RepR w Y σ b sz rs o→RepR w Y σ b sz (rs.drop n) (o+n * sz)
 | 0,rs,o,h=>by simpa using h
 | n+1,[],o,h=>by simp [RepR]
 | n+1,r::rs,o,h=>by
  unfold RepR at h
  have:=RepR.drop n rs (o+sz) h.2.2
  rw [show o+(n+1) * sz=o+sz+n * sz by rw [Nat.add_mul]; omega]; simpa using this
theorem RepR.take {w:World} {Y:Nat→Prop} {σ:Sg} {b sz:Nat}:∀ (n:Nat) (rs:List (List PV)) (o:Nat),RepR w Y σ b sz rs o→RepR w Y σ b sz (rs.take n) o
 | 0,rs,o,h=>by simp [RepR]
 | n+1,[],o,h=>by simp [RepR]
 | n+1,r::rs,o,h=>by
  unfold RepR at h
  simp only [List.take_succ_cons]; unfold RepR; exact ⟨h.1,h.2.1,RepR.take n rs (o+sz) h.2.2⟩
theorem RepR.app {w:World} {Y:Nat→Prop} {σ:Sg} {b sz:Nat}:∀ (rs qs:List (List PV)) (o:Nat),RepR w Y σ b sz rs o→RepR w Y σ b sz qs (o+rs.length * sz)→RepR w Y σ b sz (rs ++ qs) o
 | [],qs,o,_,k=>by simpa using k
 | r::rs,qs,o,h,k=>by
  unfold RepR at h
  simp only [List.cons_append]; unfold RepR
  refine ⟨h.1,h.2.1,RepR.app rs qs (o+sz) h.2.2 ?_⟩
  rw [show o+sz+rs.length * sz=o+(r::rs).length * sz by simp [Nat.add_mul]; omega]; exact k
end Go.Pv
namespace Go.Pv
open Go
def ActRep {T:Tab} (C:Ctx T) (E:Env) (a:Act) (w:World):Prop:=EnvRep C E a.tmps.toList w∧a.defers=[]
def lift {T:Tab} (C:Ctx T) (Q:Post):Exit→Act→World→Prop
 | .normal,a,w=>∃ E,ActRep C E a w∧Q 0 E
 | .ret,a,w=>∃ E,ActRep C E a w∧Q 1 E
 | .exit n,a,w=>∃ E,ActRep C E a w∧Q (n+2) E
 | _,_,_=>False
def TripleC (P:Program) (T:Tab) (c:Code) (Q:Post) (E:Env):Prop:=∀ (C:Ctx T) a w,ActRep C E a w→c.wp P (lift C Q) a w
def CallT (P:Program) (T:Tab) (k:Nat) (args:List PV) (E:Env) (K:PV→Env→Prop):Prop :=
 ∀ (C:Ctx T) (Y:Nat→Prop) (σ:Sg) (w:World) (vs cargs:List Value),SW C w Y σ E.tmps vs E.st E.next→RepL w Y σ args cargs →
  (callFunc k cargs.toArray).run P w=.ok (.enter k cargs.toArray) w ∧
  Calls P k cargs.toArray w fun e w'=>∃ cv v E' Y' σ',e=.returned cv∧K v E'∧SW C w' Y' σ' E'.tmps vs E'.st E'.next∧Rep w' Y' σ' v cv
def Fn (P:Program) (G:Nat→Option (List PV)) (k:Nat) (args:List PV) (R:PV→Prop):Prop :=
 ∀ (w:World) (Y:Nat→Prop) (cargs:List Value),Glob G w Y→(∀ b,Y b→b<w.heap.size)→RepL w Y noSg args cargs →
  (callFunc k cargs.toArray).run P w=.ok (.enter k cargs.toArray) w ∧
  Calls P k cargs.toArray w fun e w'=>∃ cv v,e=.returned cv∧R v∧Rep w' Y noSg v cv∧Chg w w'
def InSt (σ:Sg) (st:St) (k:Nat):Prop:=∃ b x l,lkS st b=some x∧σ b=some l∧l.cb=k
def ctxS (T:Tab) (w:World) (Y:Nat→Prop) (σ:Sg) (st:St):Ctx T:=⟨w,fun k=>Y k∧¬ InSt σ st k,InSt σ st,fun k=>Y k∧InSt σ st k,σ⟩
def FnS (P:Program) (G:Nat→Option (List PV)) (k:Nat) (args:List PV) (st:St) (n:Nat) (R:PV→St→Nat→Prop):Prop :=
 ∀ (w:World) (Y:Nat→Prop) (σ:Sg) (cargs:List Value),Glob G w Y→(∀ b,Y b→b<w.heap.size)→(∀ b,n≤b→σ b=none)→RepL w Y σ args cargs→StRep w Y σ st→noNar st=true →
  (callFunc k cargs.toArray).run P w=.ok (.enter k cargs.toArray) w ∧
  Calls P k cargs.toArray w fun e w'=>∃ cv v st' n' Y' σ',e=.returned cv∧R v st' n'∧SW (ctxS ⟨fun _=>.bad,G,n,[],0,[],[]⟩ w Y σ st) w' Y' σ' [v] [cv] st' n'
def Ent (T:Tab) (E F:Env):Prop:=∀ (C:Ctx T) a w,ActRep C E a w→ActRep C F a w
theorem Ent.refl {T:Tab} (E:Env):Ent T E E:=fun _ _ _ h=>h
def fzC:PV→PV
 | .ow _ sz es=>.sl sz es false
 | v=>v
def byteR:List PV→Option Int
 | [.si .u8 n]=>some n
 | [.int .u8 n]=>some n
 | _=>none
def Sig.std (P:Program) (T:Tab):Sig where
 bin:=stdBin
 cmp:=stdCmp
 conv k n:=k.wrap n
 neg k n:=k.wrap (0 - n)
 beq a b:=a == b
 band a b:=a && b
 scmp:=stdScmp
 slen s:=(s.size:Int)
 smin a b:=if b<a then b else a
 smax a b:=if b > a then b else a
 len es:=(es.length:Int)
 nint n:=(n:Int)
 nadd a b:=a+b
 nsub a b:=a - b
 app a b:=a ++ b
 sub rows r n:=(rows.drop r).take n
 spl rows r new:=rows.take r ++ new ++ rows.drop (r+new.length)
 rset rows i r:=rows.set i r
 rep n r:=List.replicate n r
 lenN es:=es.length
 br b t f:=(b=true→t ())∧(b=false→f ())
 call k args E lend free ρ as st0 K :=
  (∃ bs v,lend=some bs∧Fn P T.gl k bs (fun u=>u=v)∧flatV 6 v=true∧K v E) ∨
  (∃ bs v,free=some bs∧Fn P T.gl k bs (fun u=>u=v)∧K v ⟨E.tmps,roS E.st ρ,E.next⟩) ∨
  (∃ v st1 n1,nodN ρ=true∧ltN E.next ρ=true∧noNar st0=true∧FnS P T.gl k as st0 (lenNs ρ) (fun u st n=>u=v∧st=st1∧n=n1)∧K (renV (bakN ρ E.next) 8 v) (bakE ρ E st1 n1)) ∨
  CallT P T k args E K
 callq k args K:=∃ v,Fn P T.gl k args (fun u=>u=v)∧K v
 callp k args as bs E K:=(∃ v,Fn P T.gl k as (fun u=>u=v)∧K v E)∨(∃ v st1 n1,FnS P T.gl k bs [] 0 (fun u st n=>u=v∧st=st1∧n=n1)∧K (renV (bakN [] E.next) 8 v) (bakE [] E st1 n1))∨CallT P T k args E K
 callf k args K:=∃ v,Fn P T.gl k args (fun u=>u=v)∧flatV 6 v=true∧K v
 callm k as K:=∃ v x,FnS P T.gl k as [] 0 (fun u st n=>u=v∧st=[(0,some x)]∧n=1)∧K v x
 callw k as st0 ρ K:=∃ v st1 n1,noNar st0=true∧FnS P T.gl k as st0 (lenNs ρ) (fun u st n=>u=v∧st=st1∧n=n1)∧K v st1 n1
 loop c Q E:=TripleC P T (.loop c) Q E
 seq A B Q:=∃ Q',A Q'∧∀ n E,Q' n E→∃ F,Ent T E F∧seqQ B Q n F
 idx es i K:=∃ (j:Nat) (row:List PV),i=(j:Int)∧es[j]?=some row∧K row
 ix n i K:=∃ j:Nat,i=(j:Int)∧j<n∧K j
 row rows j K:=∃ row,rows[j]?=some row∧K row
 sidx s i K:=∃ (j:Nat) (c:UInt8),i=(j:Int)∧s[j]?=some c∧K (c.toNat:Int)
 div op k a b K:=b ≠ 0∧K (match op with | .quo=>k.wrap (a.tdiv b) | _=>a.tmod b)
 shf op k a y K:=0≤y∧K (match op with | .shl=>k.wrap (a * 2 ^ (min y.toNat k.bits)) | _=>a.fdiv (2 ^ (min y.toNat k.bits)))
 scat a b K:=a.size+b.size≤4611686018427387904∧K (a ++ b)
 mks n m bytes K:=∃ j:Nat,n=(j:Int)∧n≤m∧(bytes:Int) * m≤140737488355328∧m≤9223372036854775807∧K j
 room n bytes K:=(2 * n+192) * bytes≤140737488355328∧n≤4611686018427387904∧K
 slc len a b K:=∃ i j:Nat,a=(i:Int)∧b=(j:Int)∧i≤j∧j≤len∧K i j
 sslc s a b K:=∃ i j:Nat,a=(i:Int)∧b=(j:Int)∧i≤j∧j≤s.size∧K (s.extract i j)
 nilq es K:=∀ b:Bool,(b=true→es=[])→K b
 toS t rows K:=(∃ e,P.underlying t=some (.slice e)∧P.underlying e=some (.int .u8))∧∃ s:ByteArray,rows.map byteR=s.data.toList.map (fun c=>some (c.toNat:Int))∧K s
 wk cs K:=∃ cs',cs'.length=cs.length∧(allCell cs=true→allCell cs'=true)∧(∀ (w:World) (Y:Nat→Prop) (σ:Sg) (vs:List Value),RepL w Y σ cs vs→RepL w Y σ cs' vs)∧K cs'
 order l p:=drawOK T l=true∧p
 last l p:=lastOK l=true∧p
 nu K:=∀ h,K h
 same h h' p:=h=h'∧p
 fz rows:=rows.map fun row=>row.map fzC
theorem wkC_std {P:Program} {T:Tab} {cs:List PV} {K:List PV→Prop} (h:wkC (Sig.std P T) cs K):∃ cs',cs'.length=cs.length∧(allCell cs=true→allCell cs'=true)∧(∀ (w:World) (Y:Nat→Prop) (σ:Sg) (vs:List Value),RepL w Y σ cs vs→RepL w Y σ cs' vs)∧K cs'∧∀ K' : List PV→Prop,K' cs'→wkC (Sig.std P T) cs K':=by
 unfold wkC at h ⊢
 cases hb:anyLit cs with
 | true =>
  rw [hb] at h
  simp only
  obtain ⟨cs',h1,h2,h3,h4⟩:=h
  exact ⟨cs',h1,h2,h3,h4,fun K' hk=>⟨cs',h1,h2,h3,hk⟩⟩
 | false =>
  rw [hb] at h
  simp only
  exact ⟨cs,rfl,fun h=>h,fun _ _ _ _ h=>h,h,fun K' hk=>hk⟩
theorem owC_rep {w:World} {Y:Nat→Prop} {σ:Sg} (n:Nat) (p:PV) (v:Value) (h:Rep w Y σ p v):Rep w Y σ (owC n p) v:=by
 unfold owC
 split
 ·split
  ·split
   ·unfold Rep at h ⊢
    obtain ⟨a,len,cap,e,hl,hc,_,_⟩:=h
    have hl:len=0:=by simpa using hl
    subst hl
    exact .inr ⟨rfl,a,cap,e⟩
   ·exact h
  ·exact h
 ·exact h
theorem owZ_rep {w:World} {Y:Nat→Prop} {σ:Sg} (n:Nat):∀ (ps:List PV) (vs:List Value),RepL w Y σ ps vs→RepL w Y σ (owZ n ps) vs
 | [],vs,h=>h
 | p::ps,vs,h=>by
  unfold RepL at h
  obtain ⟨v,vs',e,h1,h2⟩:=h
  unfold owZ RepL
  exact ⟨v,vs',e,owC_rep n p v h1,owZ_rep n ps vs' h2⟩
theorem owZ_len (n:Nat):∀ ps:List PV,(owZ n ps).length=ps.length
 | []=>rfl
 | p::ps=>by simp [owZ,owZ_len n ps]
theorem owC_cell (n:Nat) (p:PV):isCell (owC n p)=isCell p:=by
 unfold owC
 split
 ·split
  ·split <;> rfl
  ·rfl
 ·rfl
theorem owZ_cell (n:Nat):∀ ps:List PV,allCell (owZ n ps)=allCell ps
 | []=>rfl
 | p::ps=>by simp [owZ,allCell,owZ_cell n ps,owC_cell]
theorem owZ_empty {n:Nat} {h:Hdr} {sz:Nat} {es:List (List PV)}:∀ {ps:List PV},(∀ h sz es,PV.ow h sz es ∉ ps)→∀ c:Nat,(owZ n ps)[c]?=some (.ow h sz es)→es=[]
 | [],_,c,e=>by simp [owZ] at e
 | p::ps,hno,0,e=>by
  simp only [owZ,List.getElem?_cons_zero,Option.some.injEq] at e
  unfold owC at e
  split at e
  ·split at e
   ·split at e
    ·cases e; rfl
    ·cases e
   ·cases e
  ·subst e
   exact absurd (List.mem_cons_self) (hno h sz es)
 | p::ps,hno,c+1,e=>by
  simp only [owZ,List.getElem?_cons_succ] at e
  exact owZ_empty (fun h sz es hm=>hno h sz es (List.mem_cons_of_mem _ hm)) c e
theorem wkN_std {P:Program} {T:Tab} {nar:Nat} {cs:List PV} {K:List PV→Prop} (h:wkN (Sig.std P T) nar cs K):∃ cs',cs'.length=cs.length∧(allCell cs=true→allCell cs'=true)∧(∀ (w:World) (Y:Nat→Prop) (σ:Sg) (vs:List Value),RepL w Y σ cs vs→RepL w Y σ cs' vs)∧K cs'∧(∀ n,nar=n+1→hasSl cs=true→cs'=owZ n cs)∧∀ K' : List PV→Prop,K' cs'→wkN (Sig.std P T) nar cs K':=by
 unfold wkN at h ⊢
 cases nar with
 | zero =>
  obtain ⟨cs',h1,h2,h3,h4,h5⟩:=wkC_std h
  exact ⟨cs',h1,h2,h3,h4,(fun n h=>by omega),h5⟩
 | succ n =>
  cases hs:hasSl cs with
  | true =>
   simp only [hs] at h ⊢
   exact ⟨owZ n cs,owZ_len n cs,fun h=>by rw [owZ_cell]; exact h,fun _ _ _ _ h=>owZ_rep n _ _ h,h,fun m hm _=>by rw [show m=n by omega],fun K' hk=>hk⟩
  | false =>
   simp only [hs] at h ⊢
   obtain ⟨cs',h1,h2,h3,h4,h5⟩:=wkC_std h
   exact ⟨cs',h1,h2,h3,h4,(fun m hm h=>by cases h),h5⟩
end Go.Pv
namespace Go.Pv
open Go
theorem ofCell_rep (w:World) (Y:Nat→Prop) (σ:Sg) (v:Value):Rep w Y σ (ofCell v) v:=by
 unfold ofCell
 split
 case h_5=>unfold Rep; exact ⟨none,0,0,rfl,rfl,Nat.le_refl _,fun _=>rfl,.inl rfl⟩
 all_goals simp [Rep]
theorem ofCells_rep (w:World) (Y:Nat→Prop) (σ:Sg):∀ vs:List Value,RepL w Y σ (ofCells vs) vs
 | []=>by simp [ofCells,RepL]
 | v::vs=>by simp only [ofCells]; unfold RepL; exact ⟨v,vs,rfl,ofCell_rep w Y σ v,ofCells_rep w Y σ vs⟩
theorem ofVal_rep (w:World) (Y:Nat→Prop) (σ:Sg) (v:Value):Rep w Y σ (ofVal v) v:=by
 unfold ofVal
 split
 ·unfold Rep; exact ⟨_,by simp,ofCells_rep w Y σ _⟩
 ·exact ofCell_rep w Y σ v
theorem ev_rep {T:Tab} {C:Ctx T} {w:World} {Y:Nat→Prop} {σ:Sg} {ps:List PV} {a:Act} {st:St} {n:Nat} (h:SW C w Y σ ps a.tmps.toList st n) (x:Operand):Rep w Y σ (evL T ps x) (a.eval x):=by
 cases x with
 | tmp t =>
  have:=h.vals.get ps _ t
  simpa [evL,Act.eval,Array.getD_eq_getD_getElem?,List.getD_eq_getElem?_getD] using this
 | const v=>exact ofVal_rep w Y σ v
 | global g =>
  simp only [evL]
  split
  ·rename_i cs hg; exact Rep.keep _ ⟨fun _ _ _=>rfl,fun _ _ h=>h,Nat.le_refl _,fun _ _ h=>by cases h⟩ _ (h.glob g cs hg)
  ·simp [Rep]
 | func f=>simp only [evL,Act.eval]; unfold Rep; exact ⟨[],rfl,by simp [RepL]⟩
theorem evA_rep {T:Tab} {C:Ctx T} {w:World} {Y:Nat→Prop} {σ:Sg} {ps:List PV} {a:Act} {st:St} {n:Nat} (h:SW C w Y σ ps a.tmps.toList st n):∀ l:List Operand,RepL w Y σ (evA T ps l) (l.map a.eval)
 | []=>by simp [evA,RepL]
 | x::l=>by simp only [evA,List.map_cons]; unfold RepL; exact ⟨_,_,rfl,ev_rep h x,evA_rep h l⟩
def nextI:Dl→Nat→Nat→Nat
 | [],n,_=>n
 | _::_,n,id=>max n (id+1)
def Res {T:Tab} (P:Program) (C:Ctx T) (o:Oper) (a:Act) (w:World) (σ:Sg) (ps:List PV) (st:St) (n id:Nat) (K:PV→Dl→Prop):Prop :=
 ∃ v δ cv w' Y' σ',K v δ∧((execOp a.eval o).run P w=.ok (.value cv) w'∨((execOp a.eval o).run P w=.ok .skip w'∧cv=Go.undef)) ∧
  SW C w' Y' σ' ps a.tmps.toList (applyD δ st) (nextI δ n id)∧Rep w' Y' σ' v cv∧Off id σ σ'
theorem Res.quiet {T:Tab} {P:Program} {C:Ctx T} {o:Oper} {a:Act} {w:World} {Y:Nat→Prop} {σ:Sg} {ps:List PV} {st:St} {n id:Nat} {K:PV→Dl→Prop}
  (H:SW C w Y σ ps a.tmps.toList st n) {v:PV} {cv:Value} (hr:(execOp a.eval o).run P w=.ok (.value cv) w) (hv:Rep w Y σ v cv) (hK:K v []):Res P C o a w σ ps st n id K :=
 ⟨v,[],cv,w,Y,σ,hK,.inl hr,H,hv,Off.refl _ _⟩
theorem rep_bool {w:World} {Y:Nat→Prop} {σ:Sg} {b:Bool} {v:Value} (h:Rep w Y σ (.bool b) v):v=.bool b:=by unfold Rep at h; exact h
theorem rep_sb {w:World} {Y:Nat→Prop} {σ:Sg} {b:Bool} {v:Value} (h:Rep w Y σ (.sb b) v):v=.bool b:=by unfold Rep at h; exact h
theorem rep_int {w:World} {Y:Nat→Prop} {σ:Sg} {k:IntKind} {n:Int} {v:Value} (h:Rep w Y σ (.int k n) v):v=.int k n:=by unfold Rep at h; exact h
theorem rep_si {w:World} {Y:Nat→Prop} {σ:Sg} {k:IntKind} {n:Int} {v:Value} (h:Rep w Y σ (.si k n) v):v=.int k n:=by unfold Rep at h; exact h
theorem rep_str {w:World} {Y:Nat→Prop} {σ:Sg} {s:ByteArray} {v:Value} (h:Rep w Y σ (.str s) v):v=.string s:=by unfold Rep at h; exact h
theorem rep_intV {w:World} {Y:Nat→Prop} {σ:Sg} {p:PV} {k:IntKind} {n:Int} {v:Value} (h:Rep w Y σ p v) (e:intV p=some (k,n)):v=.int k n:=by
 unfold intV at e
 split at e <;> simp at e <;> obtain ⟨rfl,rfl⟩:=e
 ·exact rep_int h
 ·exact rep_si h
theorem rep_boolV {w:World} {Y:Nat→Prop} {σ:Sg} {p:PV} {b:Bool} {v:Value} (h:Rep w Y σ p v) (e:boolV p=some b):v=.bool b:=by
 unfold boolV at e
 split at e <;> simp at e <;> subst e
 ·exact rep_bool h
 ·exact rep_sb h
theorem kindEq_eq {k k' : IntKind} (h:kindEq k k'=true):k=k':=by cases k <;> cases k' <;> simp_all [kindEq]
section
variable {P:Program} {T:Tab} (hT:TabOK P T) {C:Ctx T} {o:Oper} {a:Act} {w:World} {Y:Nat→Prop} {σ:Sg} {ps:List PV} {st:St} {n id:Nat} {K:PV→Dl→Prop} {lk:Nat→Option Blk}
 (H:SW C w Y σ ps a.tmps.toList st n) (hlk:∀ b x,lk b=some x→lkS st b=some x) (hid:σ id=none∧T.pas≤id)
include H
theorem op_move {x:Operand} (ho:o.op=.move x) (h:opE T (Sig.std P T) (.move x) ps lk id K):Res P C o a w σ ps st n id K:=by
 refine Res.quiet H (cv:=a.eval x) ?_ (ev_rep H x) h
 simp [execOp,ho]
theorem op_assign {x:Operand} (ho:o.op=.assign x) (h:opE T (Sig.std P T) (.assign x) ps lk id K):Res P C o a w σ ps st n id K:=by
 refine Res.quiet H (cv:=a.eval x) ?_ (ev_rep H x) h
 simp [execOp,ho]
theorem op_pick {c x y:Operand} (ho:o.op=.pick c x y) (h:opE T (Sig.std P T) (.pick c x y) ps lk id K):Res P C o a w σ ps st n id K:=by
 have hc:=ev_rep H c
 simp only [opE] at h
 split at h
 ·rename_i e; rw [e] at hc; have hc:=rep_bool hc
  refine Res.quiet H (cv:=a.eval x) ?_ (ev_rep H x) h
  simp [execOp,ho,hc,asBool]
 ·rename_i e; rw [e] at hc; have hc:=rep_bool hc
  refine Res.quiet H (cv:=a.eval y) ?_ (ev_rep H y) h
  simp [execOp,ho,hc,asBool]
 ·exact h.elim
theorem op_nilCheck {x:Operand} (ho:o.op=.nilCheck x) (h:opE T (Sig.std P T) (.nilCheck x) ps lk id K):Res P C o a w σ ps st n id K:=by
 have hc:=ev_rep H x
 simp only [opE] at h
 split at h
 ·rename_i e; rw [e] at hc
  have hc':=hc; unfold Rep at hc'; obtain ⟨l,_,e'⟩:=hc'
  refine Res.quiet H (cv:=a.eval x) ?_ hc h
  rw [e']; simp [execOp,ho,e']
 ·rename_i e; rw [e] at hc
  have hc':=hc; unfold Rep at hc'; obtain ⟨l,_,e'⟩:=hc'
  refine Res.quiet H (cv:=a.eval x) ?_ hc h
  rw [e']; simp [execOp,ho,e']
 ·rename_i e; rw [e] at hc
  have hc':=hc; unfold Rep at hc'; obtain ⟨b,o',e',_⟩:=hc'
  refine Res.quiet H (cv:=a.eval x) ?_ hc h
  rw [e']; simp [execOp,ho,e']
 ·rename_i e; rw [e] at hc
  have e':=hc; unfold Rep at e'
  refine Res.quiet H (cv:=a.eval x) ?_ hc h
  rw [e']; simp [execOp,ho,e']
 ·rename_i e; rw [e] at hc
  have hc':=hc; unfold Rep at hc'; obtain ⟨vs,e',_⟩:=hc'
  refine Res.quiet H (cv:=a.eval x) ?_ hc h
  rw [e']; simp [execOp,ho,e']
 ·exact h.elim
theorem op_unNot {t:TypeId} {x:Operand} (ho:o.op=.unOp .not t x) (h:opE T (Sig.std P T) (.unOp .not t x) ps lk id K):Res P C o a w σ ps st n id K:=by
 have hc:=ev_rep H x
 simp only [opE] at h
 split at h
 ·rename_i e; rw [e] at hc; have hc:=rep_bool hc
  refine Res.quiet H (cv:=.bool false) ?_ (by simp [Rep]) h
  simp [execOp,ho,hc,Op.unary]
 ·rename_i e; rw [e] at hc; have hc:=rep_bool hc
  refine Res.quiet H (cv:=.bool true) ?_ (by simp [Rep]) h
  simp [execOp,ho,hc,Op.unary]
 ·rename_i b e; rw [e] at hc; have hc:=rep_sb hc
  refine Res.quiet H (cv:=.bool (!b)) ?_ (by simp [Rep,Sig.std]) h
  simp [execOp,ho,hc,Op.unary]
 ·exact h.elim
theorem op_unNeg {t:TypeId} {x:Operand} (ho:o.op=.unOp .neg t x) (h:opE T (Sig.std P T) (.unOp .neg t x) ps lk id K):Res P C o a w σ ps st n id K:=by
 have hc:=ev_rep H x
 simp only [opE] at h
 split at h
 ·rename_i k m e; rw [e] at hc; have hc:=rep_int hc
  refine Res.quiet H (cv:=.int k (k.wrap (0 - m))) ?_ (by simp [Rep]) h
  simp [execOp,ho,hc,Op.unary,Op.intArith]
 ·rename_i k m e; rw [e] at hc; have hc:=rep_si hc
  refine Res.quiet H (cv:=.int k (k.wrap (0 - m))) ?_ (by simp [Rep,Sig.std]) h
  simp [execOp,ho,hc,Op.unary,Op.intArith]
 ·exact h.elim
theorem op_extract {t:Operand} {i:Nat} (ho:o.op=.extract t i) (h:opE T (Sig.std P T) (.extract t i) ps lk id K):Res P C o a w σ ps st n id K:=by
 have hc:=ev_rep H t
 simp only [opE] at h
 split at h
 ·rename_i vs e; rw [e] at hc
  unfold Rep at hc; obtain ⟨us,e',hr⟩:=hc
  cases hb:Nat.blt i (lenL vs) with
  | false=>rw [hb] at h; exact h.elim
  | true =>
   rw [hb] at h
   have hi:i<us.length:=by rw [RepL.length _ _ hr]; simpa [Nat.blt_eq] using hb
   have hg:=hr.get _ _ i
   rw [List.getD_eq_getElem?_getD,List.getElem?_eq_getElem hi] at hg
   refine Res.quiet H (cv:=us[i]) ?_ hg h
   simp [execOp,ho,e',Instr.extract,hi]
 ·exact h.elim
end
end Go.Pv
namespace Go.Pv
open Go
theorem tab_open {P:Program} {T:Tab} (hT:TabOK P T) {t:TypeId} {x:TI} (h:T t=x) (ok:x.ok=true) :
  ∃ i d,P.info? t=some i∧P.underlying t=some d∧x=mkTI P t∧x.agg=isAggT P t∧x.size=i.size∧x.zero=zeroT P t ∧
   x.plain=(if P.eqGuardType P.depth t then none else plainT P 20 t) ∧
   x.kind=(match d with
    | .struct fs=>TK.struct (fs.toList.map fun f=>{ off:=f.offset,size:=P.cellsOf f.type,agg:=isAggT P f.type })
    | .array n e=>.arr n (P.cellsOf e) (isAggT P e)
    | .slice e=>.slice (P.cellsOf e) (P.bytesOf e) (zeroT P e)
    | .int k=>.int k
    | .string=>.str
    | .pointer _=>.ptr
    | _=>.oth):=by
 have e:=(hT t (by rw [h]; exact ok)).1
 rw [h] at e
 subst h
 unfold mkTI at e
 split at e
 ·rename_i i d h1 h2
  rw [e]
  refine ⟨i,d,h1,h2,?_,rfl,rfl,rfl,rfl,rfl⟩
  unfold mkTI; rw [h1,h2]
 ·rw [e] at ok; simp [TI.bad] at ok
theorem tab_struct {P:Program} {T:Tab} (hT:TabOK P T) {t:TypeId} {agg:Bool} {plain:Option (List Nat)} {size:Nat} {z:Option (List PV)} {fs:List FI}
  (h:T t=⟨true,agg,size,z,plain,.struct fs⟩):∃ fl,P.underlying t=some (.struct fl)∧fs=(fl.toList.map fun f=>{ off:=f.offset,size:=P.cellsOf f.type,agg:=isAggT P f.type })∧z=zeroT P t:=by
 obtain ⟨i,d,h1,h2,h3,h4,h5,h6,h7,h8⟩:=tab_open hT h rfl
 cases d <;> simp at h8
 rename_i fl
 exact ⟨fl,h2,h8,h6⟩
theorem tab_slice {P:Program} {T:Tab} (hT:TabOK P T) {t:TypeId} {agg:Bool} {plain:Option (List Nat)} {size sz bytes:Nat} {z z' : Option (List PV)}
  (h:T t=⟨true,agg,size,z,plain,.slice sz bytes z'⟩):∃ e,P.underlying t=some (.slice e)∧sz=P.cellsOf e∧bytes=P.bytesOf e∧z'=zeroT P e:=by
 obtain ⟨i,d,h1,h2,h3,h4,h5,h6,h7,h8⟩:=tab_open hT h rfl
 cases d <;> simp at h8
 rename_i e
 exact ⟨e,h2,h8.1,h8.2.1,h8.2.2⟩
theorem tab_arr {P:Program} {T:Tab} (hT:TabOK P T) {t:TypeId} {agg ag:Bool} {plain:Option (List Nat)} {size n sz:Nat} {z:Option (List PV)}
  (h:T t=⟨true,agg,size,z,plain,.arr n sz ag⟩):∃ e,P.underlying t=some (.array n e)∧sz=P.cellsOf e∧ag=isAggT P e∧z=zeroT P t:=by
 obtain ⟨i,d,h1,h2,h3,h4,h5,h6,h7,h8⟩:=tab_open hT h rfl
 cases d <;> simp at h8
 rename_i m e
 obtain ⟨rfl,h8⟩:=h8
 exact ⟨e,h2,h8.1,h8.2,h6⟩
theorem tab_int {P:Program} {T:Tab} (hT:TabOK P T) {t:TypeId} {agg:Bool} {plain:Option (List Nat)} {size:Nat} {z:Option (List PV)} {k:IntKind}
  (h:T t=⟨true,agg,size,z,plain,.int k⟩):P.underlying t=some (.int k):=by
 obtain ⟨i,d,h1,h2,h3,h4,h5,h6,h7,h8⟩:=tab_open hT h rfl
 cases d <;> simp at h8
 subst h8; exact h2
theorem tab_str {P:Program} {T:Tab} (hT:TabOK P T) {t:TypeId} {agg:Bool} {plain:Option (List Nat)} {size:Nat} {z:Option (List PV)}
  (h:T t=⟨true,agg,size,z,plain,.str⟩):P.underlying t=some .string:=by
 obtain ⟨i,d,h1,h2,h3,h4,h5,h6,h7,h8⟩:=tab_open hT h rfl
 cases d <;> simp at h8
 exact h2
theorem tab_ptr {P:Program} {T:Tab} (hT:TabOK P T) {t:TypeId} {agg:Bool} {plain:Option (List Nat)} {size:Nat} {z:Option (List PV)}
  (h:T t=⟨true,agg,size,z,plain,.ptr⟩):∃ e,P.underlying t=some (.pointer e):=by
 obtain ⟨i,d,h1,h2,h3,h4,h5,h6,h7,h8⟩:=tab_open hT h rfl
 cases d <;> simp at h8
 exact ⟨_,h2⟩
theorem tab_size {P:Program} {T:Tab} (hT:TabOK P T) {t:TypeId} {agg:Bool} {plain:Option (List Nat)} {size:Nat} {z:Option (List PV)} {k:TK}
  (h:T t=⟨true,agg,size,z,plain,k⟩):P.info? t ≠ none∧size=P.cellsOf t∧agg=isAggT P t∧∃ d,P.underlying t=some d:=by
 obtain ⟨i,d,h1,h2,h3,h4,h5,h6,h7,h8⟩:=tab_open hT h rfl
 refine ⟨by rw [h1]; simp,?_,h4,d,h2⟩
 simp [Program.cellsOf,h1]; exact h5
theorem fieldOf_eq:∀ (l:List FI) (n:Nat),fieldOf l n=l[n]?
 | [],n=>by simp [fieldOf]
 | f::l,0=>by simp [fieldOf]
 | f::l,n+1=>by simp [fieldOf,fieldOf_eq l n]
theorem run_sizeOf {P:Program} {w:World} {t:TypeId} (h:P.info? t ≠ none):(sizeOf t).run P w=.ok (P.cellsOf t) w:=by
 cases hi:P.info? t with
 | none=>exact absurd hi h
 | some i=>simp [sizeOf,typeInfo,program,Sem.run,Result.andThen,hi,Program.cellsOf]
theorem run_isAgg {P:Program} {w:World} {t:TypeId} {d:TypeDesc} (h:P.underlying t=some d):(isAgg t).run P w=.ok (isAggT P t) w:=by
 have hu:(underlying t).run P w=.ok d w:=by simp [underlying,program,Sem.run,Result.andThen,h]
 simp only [isAgg,isAggT,h,Sem.run_bind,hu,Result.andThen]
 cases d <;> simp
theorem run_und {P:Program} {w:World} {t:TypeId} {d:TypeDesc} (h:P.underlying t=some d):(underlying t).run P w=.ok d w:=by
 simp [underlying,program,Sem.run,Result.andThen,h]
theorem info_of_pos {P:Program} {t:TypeId} (h:isPos (P.cellsOf t)=true):P.info? t ≠ none:=by
 intro h0
 have:P.cellsOf t=0:=by simp [Program.cellsOf,h0]
 rw [this] at h; simp [isPos] at h
theorem load_run {P:Program} {w:World} {x:Addr} {v:Value} (h:w.cell? x=some v):(load x).run P w=.ok v w:=by
 simp [load,Sem.run,h]
theorem addr_add (b o n:Nat):(⟨b,o,none⟩:Addr).add n=⟨b,o+n,none⟩:=by
 unfold Addr.add
 split <;> simp [*]
theorem loadCells_run {P:Program} {w:World} {b o:Nat}:∀ (vs:List Value) (i:Nat) (acc:Array Value),(∀ j v,vs[j]?=some v→w.cell? ⟨b,o+(i+j),none⟩=some v) →
  (loadCellsFrom ⟨b,o,none⟩ i vs.length acc).run P w=.ok (acc ++ vs.toArray) w
 | [],i,acc,_=>by simp [loadCellsFrom]
 | v::vs,i,acc,h=>by
  have h0:=h 0 v rfl
  simp only [List.length_cons,loadCellsFrom,Sem.run_bind,addr_add]
  rw [load_run (by simpa using h0)]
  simp only [Result.andThen]
  rw [loadCells_run vs (i+1) (acc.push v) (fun j u hu=>by
   have:=h (j+1) u (by simpa using hu)
   rw [show i+1+j=i+(j+1) by omega]; exact this)]
  simp
section
variable {P:Program} {T:Tab} (hT:TabOK P T) {C:Ctx T} {o:Oper} {a:Act} {w:World} {Y:Nat→Prop} {σ:Sg} {ps:List PV} {st:St} {n id:Nat} {K:PV→Dl→Prop} {lk:Nat→Option Blk}
 (H:SW C w Y σ ps a.tmps.toList st n) (hlk:∀ b x,lk b=some x→lkS st b=some x) (hid:σ id=none∧T.pas≤id)
include hT H in
theorem op_fieldAddr {t:TypeId} {x:Operand} {f:Nat} (ho:o.op=.fieldAddr t x f) (h:opE T (Sig.std P T) (.fieldAddr t x f) ps lk id K):Res P C o a w σ ps st n id K:=by
 have hc:=ev_rep H x
 simp only [opE] at h
 split at h
 ·rename_i fs e
  obtain ⟨fl,hu,rfl,_⟩:=tab_struct hT e
  split at h
  ·rename_i fd hf
   rw [fieldOf_eq,List.getElem?_map] at hf
   cases hg:fl.toList[f]? with
   | none=>simp [hg] at hf
   | some g =>
    simp [hg] at hf
    subst hf
    have hg' : fl[f]?=some g:=by simpa using hg
    cases hp:isPos (P.cellsOf g.type) with
    | false=>simp only [hp] at h; exact h.elim
    | true =>
     simp only [hp] at h
     have hpos:P.cellsOf g.type ≠ 0:=by intro h0; rw [h0] at hp; simp [isPos] at hp
     have hinfo:P.info? g.type ≠ none:=by intro h0; apply hpos; simp [Program.cellsOf,h0]
     have run:∀ b off,a.eval x=.pointer (some ⟨b,off,none⟩)→(execOp a.eval o).run P w=.ok (.value (.pointer (some ⟨b,off+g.offset,none⟩))) w:=by
      intro b off hx
      simp [execOp,ho,Instr.fieldAt,run_und hu,hg',hx,Instr.sureAddr,fieldPlace,run_sizeOf hinfo,hpos,addr_add]
     split at h
     ·rename_i b c e; rw [e] at hc
      unfold Rep at hc; obtain ⟨l,hs,e'⟩:=hc
      refine Res.quiet H (run _ _ e') ?_ h
      unfold Rep; exact ⟨l,hs,by rw [Nat.add_assoc]⟩
     ·rename_i b r c e; rw [e] at hc
      unfold Rep at hc; obtain ⟨l,hs,e'⟩:=hc
      refine Res.quiet H (run _ _ e') ?_ h
      unfold Rep; exact ⟨l,hs,by rw [Nat.add_assoc]⟩
     ·rename_i b r c hh sz j k e; rw [e] at hc
      unfold Rep at hc
      refine Res.quiet H (run _ _ hc) ?_ h
      unfold Rep; rw [Nat.add_assoc]
     ·rename_i cs e; rw [e] at hc
      cases hb:Nat.ble g.offset (lenL cs) with
      | false=>simp only [hb] at h; exact h.elim
      | true =>
       simp only [hb] at h
       unfold Rep at hc; obtain ⟨b,o',e',hy,hr⟩:=hc
       refine Res.quiet H (run _ _ e') ?_ h
       unfold Rep; rw [dropL_eq]; exact ⟨b,_,rfl,hy,hr.drop _ _ _⟩
     ·exact h.elim
  ·exact h.elim
 ·exact h.elim
theorem loadVar_rep {P:Program} {w:World} {Y:Nat→Prop} {σ:Sg} {t:TypeId} {b o' c:Nat} {row:List PV} {agg:Bool} {size:Nat} {K:PV→Prop}
  (hinfo:P.info? t ≠ none) (hsize:size=P.cellsOf t) (hagg:agg=isAggT P t) (hund:∃ d,P.underlying t=some d)
  (hr:RepC w Y σ b row o') (h:loadRow agg size row c K) :
  ∃ v cv,K v∧(loadVar t ⟨b,o'+c,none⟩).run P w=.ok cv w∧Rep w Y σ v cv:=by
 obtain ⟨d,hu⟩:=hund
 unfold loadRow at h
 cases agg with
 | true =>
  simp only [cond_true] at h
  cases hb:Nat.ble (c+size) (lenL row) with
  | false=>simp only [hb,cond_false] at h
  | true =>
   simp only [hb,cond_true,takeL_eq,dropL_eq] at h
   have hle:c+size≤row.length:=by simpa using Nat.le_of_ble_eq_true hb
   have hr2:=(hr.drop c _ _).take size _ _
   obtain ⟨vs,hv,hcell⟩:=hr2.vals
   refine ⟨_,.agg vs.toArray,h,?_,by unfold Rep; exact ⟨vs,rfl,hv⟩⟩
   have hlen:vs.length=P.cellsOf t:=by
    rw [RepL.length _ _ hv]; simp; omega
   simp only [loadVar,Sem.run_bind,run_isAgg hu,← hagg,Result.andThen,if_true,run_sizeOf hinfo,loadCells]
   rw [← hlen,loadCells_run vs 0 #[] (fun j v hj=>by simpa using hcell j v hj)]
   simp
 | false =>
  simp only [cond_false] at h
  cases hb:Nat.blt c (lenL row) with
  | false=>simp only [hb,cond_false] at h
  | true =>
   simp only [hb,cond_true] at h
   have hlt:c<row.length:=by simpa [Nat.blt_eq] using hb
   obtain ⟨v,hv,hrep⟩:=hr.get _ _ c hlt
   refine ⟨_,v,h,?_,hrep⟩
   simp only [loadVar,Sem.run_bind,run_isAgg hu,← hagg,Result.andThen]
   simp only [Bool.false_eq_true,if_false]
   exact load_run hv
theorem BlkRep.of_lk {T:Tab} {C:Ctx T} {w:World} {Y:Nat→Prop} {σ:Sg} {ps:List PV} {vs:List Value} {st:St} {n:Nat} (H:SW C w Y σ ps vs st n) {lk:Nat→Option Blk}
  (hlk:∀ b x,lk b=some x→lkS st b=some x) {b:Nat} {x:Blk} {l:Loc} (h:lk b=some x) (hs:σ b=some l):BlkRep w Y σ l x:=by
 rcases H.store.blk b x (hlk _ _ h) with ⟨l',hs',hb⟩ | ⟨hs',_⟩
 ·rw [hs] at hs'; cases hs'; exact hb
 ·rw [hs] at hs'; cases hs'
theorem rep_noSg {w:World} {Y:Nat→Prop} {σ:Sg} {p:PV} {v:Value} (h:Rep w Y noSg p v):Rep w Y σ p v :=
 Rep.keep p ⟨fun _ _ _=>rfl,fun _ _ h=>h,Nat.le_refl _,fun _ _ h=>by cases h⟩ v h
theorem getD_some {o:Option PV} {h:Hdr} {sz:Nat} {es:List (List PV)} (e:o.getD .undef=.ow h sz es):o=some (.ow h sz es):=by
 cases o with
 | none=>cases e
 | some x=>simp at e; rw [e]
theorem borV_rep {P:Program} {T:Tab} {w:World} {Y:Nat→Prop} {σ:Sg} (b r c:Nat) {p:PV} {v:Value} (h:Rep w Y σ p v):Rep w Y σ (borV (Sig.std P T) b r c p) v:=by
 unfold borV
 split
 ·rename_i hh sz es
  unfold Rep at h ⊢
  simp only [Sig.std]
  rcases h with ⟨h1,h2,h3⟩ | ⟨h1,h2⟩
  ·exact .inl ⟨by simpa using h1,h2,h3⟩
  ·exact .inr ⟨by rw [h1]; rfl,h2⟩
 ·exact h
theorem borL_rep {P:Program} {T:Tab} {w:World} {Y:Nat→Prop} {σ:Sg} {bb:Nat} (b r:Nat):∀ (ps:List PV) (c o:Nat),RepC w Y σ bb ps o→RepC w Y σ bb (borL (Sig.std P T) b r c ps) o
 | [],c,o,h=>by simpa [borL] using h
 | p::ps,c,o,h=>by
  unfold RepC at h; obtain ⟨⟨v,h1,h2⟩,h3⟩:=h
  simp only [borL]; unfold RepC; exact ⟨⟨v,h1,borV_rep b r c h2⟩,borL_rep b r ps (c+1) (o+1) h3⟩
include hT H hlk in
theorem op_load {t:TypeId} {x:Operand} (ho:o.op=.load t x) (h:opE T (Sig.std P T) (.load t x) ps lk id K):Res P C o a w σ ps st n id K:=by
 have hc:=ev_rep H x
 simp only [opE] at h
 split at h
 ·rename_i agg size z plain kind e
  obtain ⟨hinfo,hsize,hagg,hund⟩:=tab_size hT e
  have fin:∀ (σ' : Sg) (b o' c:Nat) (row:List PV),a.eval x=.pointer (some ⟨b,o'+c,none⟩)→RepC w Y σ' b row o'→(∀ p v,Rep w Y σ' p v→Rep w Y σ p v) →
    loadRow agg size row c (fun v=>K v [])→Res P C o a w σ ps st n id K:=by
   intro σ' b o' c row hx hr hσ hl
   obtain ⟨v,cv,hK,hrun,hrep⟩:=loadVar_rep hinfo hsize hagg hund hr hl
   refine Res.quiet H (cv:=cv) ?_ (hσ _ _ hrep) hK
   simp [execOp,ho,hx,Instr.loadAt,Instr.sureAddr,hrun]
  split at h
  ·rename_i b c e; rw [e] at hc
   unfold Rep at hc; obtain ⟨l,hs,e'⟩:=hc
   split at h
   ·rename_i ro row hb
    have hB:=BlkRep.of_lk H hlk hb hs
    unfold BlkRep at hB
    exact fin σ _ _ _ _ e' hB.2.2.2.1 (fun _ _ h=>h) h
   ·exact h.elim
  ·rename_i b r c e; rw [e] at hc
   unfold Rep at hc; obtain ⟨l,hs,e'⟩:=hc
   split at h
   ·rename_i ro sz rows hb
    have hB:=BlkRep.of_lk H hlk hb hs
    unfold BlkRep at hB
    obtain ⟨row,hrow,h⟩:=h
    have:=RepR.row _ _ _ _ hB.2.2.2.2.1 hrow
    rw [← hB.2.1] at this
    exact fin noSg _ _ _ _ e' this.2 (fun _ _ h=>rep_noSg h) h
   ·rename_i sz rows hb
    have hB:=BlkRep.of_lk H hlk hb hs
    unfold BlkRep at hB
    obtain ⟨row,hrow,h⟩:=h
    have:=RepR.row _ _ _ _ hB.2.2.2.2.1 hrow
    rw [← hB.2.1] at this
    exact fin noSg _ _ _ _ e' (borL_rep b r row 0 _ this.2) (fun _ _ h=>rep_noSg h) h
   ·exact h.elim
  ·rename_i b r c hh sz j k e; rw [e] at hc
   unfold Rep at hc
   split at h
   ·rename_i sz0 rows hb
    obtain ⟨row,hrow,h⟩:=h
    split at h
    ·rename_i h' sz' es ec
     cases hs:Nat.beq sz' sz with
     | false=>rw [hs] at h; exact h.elim
     | true =>
      rw [hs] at h
      simp only [cond_true] at h
      have hs:=Nat.eq_of_beq_eq_true hs
      subst hs
      obtain ⟨he,er,her,h⟩:=h
      subst he
      have hN:=H.nest.rep b r c hh sz' es ⟨sz0,rows,row,hlk _ _ hb,hrow,by rw [getL_eq,List.getD_eq_getElem?_getD] at ec; exact getD_some ec,by rintro rfl; simp at her⟩
      exact fin noSg _ _ _ _ hc (RepR.row _ _ _ _ hN.rows her).2 (fun _ _ h=>rep_noSg h) h
    ·exact h.elim
   ·exact h.elim
  ·rename_i cs e; rw [e] at hc
   unfold Rep at hc; obtain ⟨b,o',e',hy,hr⟩:=hc
   exact fin noSg b o' 0 cs (by simpa using e') hr (fun _ _ h=>rep_noSg h) h
  ·exact h.elim
 ·exact h.elim
end
end Go.Pv
namespace Go.Pv
open Go
theorem beqN {b c:Nat} (h:¬ b=c):Nat.beq b c=false:=by
 cases e:Nat.beq b c with
 | false=>rfl
 | true=>exact absurd (Nat.eq_of_beq_eq_true e) h
theorem lkS_inS (st:St) (b:Nat) (x:Option Blk) (c:Nat):lkS (inS st b x) c=if b=c then x else lkS st c:=by
 induction st with
 | nil =>
  by_cases h:b=c
  ·simp [inS,lkS,h]
  ·have:Nat.beq b c=false:=beqN h
   simp [inS,lkS,this,h]
 | cons p st ih =>
  obtain ⟨b',y⟩:=p
  by_cases h:b'=b
  ·subst h
   by_cases h2:b'=c
   ·subst h2; simp [inS,lkS]
   ·have:Nat.beq b' c=false:=beqN h2
    simp [inS,lkS,this,h2]
  ·have h0:Nat.beq b' b=false:=beqN h
   simp only [inS,h0,cond_false,lkS]
   by_cases h2:b'=c
   ·subst h2; simp; intro e; exact absurd e.symm h
   ·have:Nat.beq b' c=false:=beqN h2
    simp only [this,cond_false,ih]
theorem BlkRep.keep {w w' : World} {Y Y' : Nat→Prop} {σ σ' : Sg} {l:Loc} {x:Blk} (K:Keep w w' Y Y' σ σ') (hb:w'.heap[l.cb]?=w.heap[l.cb]?) (hY:Y' l.cb ↔ Y l.cb)
  (h:BlkRep w Y σ l x):BlkRep w' Y' σ' l x:=by
 cases x with
 | var ro row =>
  unfold BlkRep at h ⊢
  obtain ⟨⟨arr,ty,h1,h2⟩,h3,h4,h5,h6,h7⟩:=h
  exact ⟨⟨arr,ty,by rw [hb]; exact h1,h2⟩,h3,h4,RepC.keep row K (fun _=>hb) _ h5,fun e=>hY.2 (h6 e),fun e hy=>h7 e (hY.1 hy)⟩
 | arr ro sz rows =>
  unfold BlkRep at h ⊢
  obtain ⟨⟨arr,ty,h1,h2⟩,h3,h4,h5,h6,h7,h8⟩:=h
  exact ⟨⟨arr,ty,by rw [hb]; exact h1,h2⟩,h3,h4,h5,RepR.keep rows K.none (fun _=>hb) _ h6,fun e=>hY.2 (h7 e),fun e hy=>h8 e (hY.1 hy)⟩
 | nar sz rows =>
  unfold BlkRep at h ⊢
  obtain ⟨⟨arr,ty,h1,h2⟩,h3,h4,h5,h6,h7⟩:=h
  exact ⟨⟨arr,ty,by rw [hb]; exact h1,h2⟩,h3,h4,h5,RepR.keep rows K.none (fun _=>hb) _ h6,hY.2 h7⟩
theorem BlkRep.lt {w:World} {Y:Nat→Prop} {σ:Sg} {l:Loc} {x:Blk} (h:BlkRep w Y σ l x):l.cb<w.heap.size:=by
 have:At w l:=by cases x <;> (unfold BlkRep at h; exact h.1)
 obtain ⟨arr,ty,h1,_⟩:=this
 by_cases hb:l.cb<w.heap.size
 ·exact hb
 ·simp [Array.getElem?_eq_none (Nat.le_of_not_lt hb)] at h1
theorem SW.drop {T:Tab} {C:Ctx T} {w:World} {Y:Nat→Prop} {σ:Sg} {ps:List PV} {vs:List Value} {st:St} {n:Nat} (H:SW C w Y σ ps vs st n) (b:Nat):SW C w Y σ ps vs (inS st b none) n:=by
 have sub:∀ c x,lkS (inS st b none) c=some x→lkS st c=some x:=by
  intro c x h
  rw [lkS_inS] at h
  by_cases hb:b=c
  ·rw [if_pos hb] at h; cases h
  ·rw [if_neg hb] at h; exact h
 refine ⟨H.vals,⟨fun c x h=>H.store.blk c x (sub c x h),fun c c' x x' l l' h h'=>H.store.inj c c' x x' l l' (sub _ _ h) (sub _ _ h')⟩,H.next,H.yold,H.y0,H.c0,H.yshr,H.chg,fun c x l h=>H.own c x l (sub _ _ h),H.glob,H.fix,H.nest.sub sub⟩
theorem SW.ext {T:Tab} {C:Ctx T} {w:World} {Y:Nat→Prop} {σ:Sg} {ps:List PV} {vs:List Value} {st st' : St} {n:Nat} (H:SW C w Y σ ps vs st n) (h:∀ b x,lkS st' b=some x→lkS st b=some x):SW C w Y σ ps vs st' n :=
 ⟨H.vals,⟨fun c x e=>H.store.blk c x (h c x e),fun c c' x x' l l' e e'=>H.store.inj c c' x x' l l' (h _ _ e) (h _ _ e')⟩,H.next,H.yold,H.y0,H.c0,H.yshr,H.chg,fun c x l e=>H.own c x l (h _ _ e),H.glob,H.fix,H.nest.sub h⟩
theorem SW.update {T:Tab} {C:Ctx T} {w w' : World} {Y:Nat→Prop} {σ:Sg} {ps:List PV} {vs:List Value} {st:St} {n:Nat} (H:SW C w Y σ ps vs st n)
  {b:Nat} {x x' : Blk} {l:Loc} (hx:lkS st b=some x) (hl:σ b=some l) (hm:Y l.cb)
  (hos:w'.os=w.os) (htape:w'.tape=w.tape) (hout:w'.output=w.output) (hsize:w'.heap.size=w.heap.size)
  (hother:∀ k,k ≠ l.cb→w'.heap[k]?=w.heap[k]?) (hnar:∀ sz rows,x' ≠ .nar sz rows) (hnew:(∀ p v,Rep w Y σ p v→Rep w' Y σ p v)→BlkRep w' Y σ l x'):SW C w' Y σ ps vs (inS st b (some x')) n:=by
 have K:Keep w w' Y Y σ σ:=⟨fun k _ hk=>hother k (fun e=>hk (e ▸ hm)),fun _ _ h=>h,Nat.le_of_eq hsize.symm,SgLe.refl _⟩
 have own:=H.own b x l hx hl
 refine ⟨RepL.keep _ K _ H.vals,⟨?_,?_⟩,H.next,fun k hk=>by rw [hsize]; exact H.yold k hk,H.y0,H.c0,H.yshr,?_,?_,H.glob.keep K.none,H.fix,?_⟩
 ·intro c y h
  rw [lkS_inS] at h
  by_cases hc:b=c
  ·rw [if_pos hc] at h; cases h; subst hc
   exact .inl ⟨l,hl,hnew fun p v hp=>Rep.keep p K v hp⟩
  ·rw [if_neg hc] at h
   rcases H.store.blk c y h with ⟨l',hl',hb⟩ | hn
   ·refine .inl ⟨l',hl',BlkRep.keep K (hother _ fun e=>hc ?_) Iff.rfl hb⟩
    exact (H.store.inj c b y x l' l h hx hl' hl e).symm
   ·exact .inr hn
 ·intro c c' y y' l1 l2 h h' h1 h2 e
  have old:∀ d z,lkS (inS st b (some x')) d=some z→∃ z',lkS st d=some z':=by
   intro d z hd
   rw [lkS_inS] at hd
   by_cases hc:b=d
   ·subst hc; exact ⟨x,hx⟩
   ·rw [if_neg hc] at hd; exact ⟨z,hd⟩
  obtain ⟨z,hz⟩:=old _ _ h
  obtain ⟨z',hz'⟩:=old _ _ h'
  exact H.store.inj c c' z z' l1 l2 hz hz' h1 h2 e
 ·refine ⟨by rw [hos]; exact H.chg.os,by rw [htape]; exact H.chg.tape,by rw [hout]; exact H.chg.output,by rw [hsize]; exact H.chg.size,fun k hk hM=>?_⟩
  have hne:k ≠ l.cb:=fun e=>by
   subst e
   have h1:=H.away hx hl
   rcases H.yshr _ hm hk with h2 | h2
   ·exact h1 h2
   ·exact hM h2
  rw [hother k hne]; exact H.chg.block k hk hM
 ·intro c y l' h h1
  rw [lkS_inS] at h
  by_cases hc:b=c
  ·subst hc; rw [hl] at h1; cases h1; exact own
  ·rw [if_neg hc] at h; exact H.own c y l' h h1
 ·have back:∀ {c r k h sz es},OwAt (inS st b (some x')) c r k h sz es→OwAt st c r k h sz es:=by
   rintro c r k h sz es ⟨sz0,rows,row,h1,h2⟩
   rw [lkS_inS] at h1
   by_cases hc:b=c
   ·rw [if_pos hc] at h1; exact absurd (Option.some.inj h1) (hnar _ _)
   ·rw [if_neg hc] at h1; exact ⟨sz0,rows,row,h1,h2⟩
  refine H.nest.keep K.none (fun _ _ _ _ _ _ k=>back k) (fun c r k h sz es hk=>hother _ (H.nest.sep _ _ _ _ _ _ _ _ _ (back hk) hx hl).symm) (fun c r k h sz es hk=>(H.nest.rep _ _ _ _ _ _ (back hk)).own) fun c r k h sz es b' y l' hk hy hl'=>?_
  rw [lkS_inS] at hy
  by_cases hc:b=b'
  ·subst hc; rw [hl] at hl'; cases hl'; exact H.nest.sep _ _ _ _ _ _ _ _ _ (back hk) hx hl
  ·rw [if_neg hc] at hy; exact H.nest.sep _ _ _ _ _ _ _ _ _ (back hk) hy hl'
theorem SW.alloc {T:Tab} {C:Ctx T} {w:World} {Y:Nat→Prop} {σ:Sg} {ps:List PV} {vs:List Value} {st:St} {n id:Nat} (H:SW C w Y σ ps vs st n) (hid:σ id=none∧T.pas≤id)
  (arr:Array Value) (ty:TypeId) (l:Loc) (hcb:l.cb=w.heap.size) (x:Blk) (hnar:∀ sz rows,x=.nar sz rows→∀ (r:Nat) (row:List PV) (c:Nat) (h:Hdr) (sz' : Nat) (es:List (List PV)),rows[r]?=some row→row[c]?=some (PV.ow h sz' es)→es=[])
  (hx:∀ w' Y' σ',(∀ p v,Rep w Y σ p v→Rep w' Y' σ' p v)→Y' l.cb→w'.heap[l.cb]?=some (.cells arr ty (0,0))→(∀ p v,Rep w Y noSg p v→Rep w' Y' noSg p v)→BlkRep w' Y' σ' l x) :
  ∃ Y' σ',SW C (w.alloc (.cells arr ty)) Y' σ' ps vs (inS st id (some x)) (max n (id+1))∧σ' id=some l∧SgLe σ σ'∧(∀ p v,Rep w Y σ p v→Rep (w.alloc (.cells arr ty)) Y' σ' p v)∧Off id σ σ':=by
 have hfree:=hid.1
 have heap:(w.alloc (.cells arr ty)).heap=w.heap.push (.cells arr ty):=rfl
 have hnew:(w.alloc (.cells arr ty)).heap[l.cb]?=some (.cells arr ty (0,0)):=by rw [heap,hcb]; simp
 have hold:∀ k,k<w.heap.size→(w.alloc (.cells arr ty)).heap[k]?=w.heap[k]?:=by
  intro k hk; rw [heap,Array.getElem?_push,if_neg (by omega)]
 let Y' : Nat→Prop:=fun k=>Y k∨k=w.heap.size
 let σ' : Sg:=fun b=>if b=id then some l else σ b
 have hsg:SgLe σ σ':=by
  intro b m h
  show (if b=id then some l else σ b)=some m
  by_cases hb:b=id
  ·subst hb; rw [hfree] at h; cases h
  ·rw [if_neg hb]; exact h
 have hsz:(w.alloc (.cells arr ty)).heap.size=w.heap.size+1:=by rw [heap]; simp
 have K:Keep w (w.alloc (.cells arr ty)) Y Y' σ σ' :=
  ⟨fun k hk _=>hold k hk,fun k hk h=>h.resolve_right (by omega),by omega,hsg⟩
 refine ⟨Y',σ',⟨RepL.keep _ K _ H.vals,⟨?_,?_⟩,?_,?_,fun k hk=>.inl (H.y0 k hk),H.c0,?_,?_,?_,H.glob.keep K.none,⟨by have:=H.fix.1; omega,fun b hb=>by show (if b=id then some l else σ b)=_; rw [if_neg (by omega)]; exact H.fix.2 b hb⟩,?_⟩,by simp [σ'],hsg,fun p v hp=>Rep.keep p K v hp,fun b hb=>by show (if b=id then some l else σ b)=_; rw [if_neg hb]⟩
 ·intro c y h
  rw [lkS_inS] at h
  by_cases hc:id=c
  ·rw [if_pos hc] at h; cases h; subst hc
   exact .inl ⟨l,by simp [σ'],hx _ Y' σ' (fun p v hp=>Rep.keep p K v hp) (.inr hcb) hnew (fun p v hp=>Rep.keep p K.none v hp)⟩
  ·rw [if_neg hc] at h
   have hc' : c ≠ id:=fun e=>hc e.symm
   rcases H.store.blk c y h with ⟨l',hl',hb⟩ | ⟨hn,hx'⟩
   ·have hlt:=hb.lt
    exact .inl ⟨l',hsg _ _ hl',BlkRep.keep K (hold _ hlt) ⟨fun h=>h.resolve_right (by omega),.inl⟩ hb⟩
   ·exact .inr ⟨by simp [σ',hc',hn],hx'⟩
 ·intro c c' y y' l1 l2 h h' h1 h2 e
  rw [lkS_inS] at h h'
  by_cases hc:id=c <;> by_cases hc' : id=c'
  ·omega
  ·exfalso
   rw [if_neg hc'] at h'
   subst hc
   simp [σ'] at h1; subst h1
   have h2' : σ c'=some l2:=by simpa [σ',show c' ≠ id from fun e=>hc' e.symm] using h2
   rcases H.store.blk c' y' h' with ⟨l',hl',hb⟩ | ⟨hn,_⟩
   ·rw [h2'] at hl'; cases hl'; have:=hb.lt; omega
   ·rw [h2'] at hn; cases hn
  ·exfalso
   rw [if_neg hc] at h
   subst hc'
   simp [σ'] at h2; subst h2
   have h1' : σ c=some l1:=by simpa [σ',show c ≠ id from fun e=>hc e.symm] using h1
   rcases H.store.blk c y h with ⟨l',hl',hb⟩ | ⟨hn,_⟩
   ·rw [h1'] at hl'; cases hl'; have:=hb.lt; omega
   ·rw [h1'] at hn; cases hn
  ·rw [if_neg hc] at h; rw [if_neg hc'] at h'
   have h1' : σ c=some l1:=by simpa [σ',show c ≠ id from fun e=>hc e.symm] using h1
   have h2' : σ c'=some l2:=by simpa [σ',show c' ≠ id from fun e=>hc' e.symm] using h2
   exact H.store.inj c c' y y' l1 l2 h h' h1' h2' e
 ·intro b hb
  show (if b=id then some l else σ b)=none
  rw [if_neg (by omega)]; exact H.next b (by omega)
 ·intro k hk
  rcases hk with hk | hk
  ·have:=H.yold k hk; omega
  ·omega
 ·intro k hk hlt
  rcases hk with hk | hk
  ·exact H.yshr k hk hlt
  ·have:=H.chg.size; omega
 ·refine ⟨H.chg.os,H.chg.tape,H.chg.output,by have:=H.chg.size; omega,fun k hk hM=>?_⟩
  rw [hold k (by have:=H.chg.size; omega)]; exact H.chg.block k hk hM
 ·intro c y l' h h1
  rw [lkS_inS] at h
  by_cases hc:id=c
  ·subst hc; simp [σ'] at h1; subst h1; rw [hcb]; exact .inl H.chg.size
  ·rw [if_neg hc] at h
   exact H.own c y l' h (by simpa [σ',show c ≠ id from fun e=>hc e.symm] using h1)
 ·have back:∀ {c r k h sz es},OwAt (inS st id (some x)) c r k h sz es→OwAt st c r k h sz es:=by
   rintro c r k h sz es ⟨sz0,rows,row,h1,h2,h3⟩
   rw [lkS_inS] at h1
   by_cases hc:id=c
   ·rw [if_pos hc] at h1; exact absurd (hnar _ _ (Option.some.inj h1) _ _ _ _ _ _ h2 h3.1) h3.2
   ·rw [if_neg hc] at h1; exact ⟨sz0,rows,row,h1,h2,h3⟩
  refine H.nest.keep K.none (fun _ _ _ _ _ _ k=>back k) (fun c r k h sz es hk=>hold _ (H.nest.rep _ _ _ _ _ _ (back hk)).lt) (fun c r k h sz es hk=>.inl (H.nest.rep _ _ _ _ _ _ (back hk)).own) fun c r k h sz es b' y l' hk hy hl'=>?_
  have hlt:=(H.nest.rep _ _ _ _ _ _ (back hk)).lt
  rw [lkS_inS] at hy
  by_cases hc:id=b'
  ·subst hc; simp [σ'] at hl'; subst hl'; omega
  ·rw [if_neg hc] at hy
   exact H.nest.sep _ _ _ _ _ _ _ _ _ (back hk) hy (by simpa [σ',show b' ≠ id from fun e=>hc e.symm] using hl')
theorem SW.freeze {T:Tab} {C:Ctx T} {w:World} {Y:Nat→Prop} {σ:Sg} {ps:List PV} {vs:List Value} {st:St} {n:Nat} (H:SW C w Y σ ps vs st n) {b:Nat} {x x' : Blk}
  (hx:lkS st b=some x) (hx' : (∃ ro row,x=.var ro row∧x'=.var true row)∨(∃ ro sz rows,x=.arr ro sz rows∧x'=.arr true sz rows)) :
  ∃ Y',SW C w Y' σ ps vs (inS st b (some x')) n∧(∀ l,σ b=some l→¬ Y' l.cb)∧(∀ k,Y' k→Y k):=by
 let Y' : Nat→Prop:=fun k=>Y k∧∀ l,σ b=some l→k ≠ l.cb
 have K:Keep w w Y Y' σ σ:=⟨fun _ _ _=>rfl,fun _ _ h=>h.1,Nat.le_refl _,SgLe.refl _⟩
 refine ⟨Y',⟨RepL.keep _ K _ H.vals,⟨?_,?_⟩,H.next,fun k hk=>H.yold k hk.1,?_,H.c0,fun k hk=>H.yshr k hk.1,H.chg,?_,H.glob.keep K.none,H.fix,?_⟩,fun l hl h=>h.2 l hl rfl,fun _ h=>h.1⟩
 ·intro c y h
  rw [lkS_inS] at h
  by_cases hc:b=c
  ·rw [if_pos hc] at h; cases h; subst hc
   rcases H.store.blk b x hx with ⟨l,hl,hb⟩ | ⟨hn,ro,sz,he⟩
   ·refine .inl ⟨l,hl,?_⟩
    rcases hx' with ⟨ro,row,rfl,rfl⟩ | ⟨ro,sz,rows,rfl,rfl⟩
    ·unfold BlkRep at hb ⊢
     exact ⟨hb.1,hb.2.1,hb.2.2.1,RepC.keep row K (fun _=>rfl) _ hb.2.2.2.1,fun e=>(by cases e),fun _ h=>h.2 l hl rfl⟩
    ·unfold BlkRep at hb ⊢
     exact ⟨hb.1,hb.2.1,hb.2.2.1,hb.2.2.2.1,RepR.keep rows K.none (fun _=>rfl) _ hb.2.2.2.2.1,fun e=>(by cases e),fun _ h=>h.2 l hl rfl⟩
   ·rcases hx' with ⟨ro',row,rfl,rfl⟩ | ⟨ro',sz',rows,rfl,rfl⟩
    ·cases he
    ·cases he; exact .inr ⟨hn,true,sz,rfl⟩
  ·rw [if_neg hc] at h
   rcases H.store.blk c y h with ⟨l',hl',hb⟩ | hn
   ·refine .inl ⟨l',hl',BlkRep.keep K rfl ⟨fun h=>h.1,fun h=>⟨h,fun l hl e=>hc ?_⟩⟩ hb⟩
    exact (H.store.inj c b y x l' l ‹_› hx hl' hl e).symm
   ·exact .inr hn
 ·intro c c' y y' l1 l2 h h' h1 h2 e
  have old:∀ d z,lkS (inS st b (some x')) d=some z→∃ z',lkS st d=some z':=by
   intro d z hd
   rw [lkS_inS] at hd
   by_cases hc:b=d
   ·subst hc; exact ⟨x,hx⟩
   ·rw [if_neg hc] at hd; exact ⟨z,hd⟩
  obtain ⟨z,hz⟩:=old _ _ h
  obtain ⟨z',hz'⟩:=old _ _ h'
  exact H.store.inj c c' z z' l1 l2 hz hz' h1 h2 e
 ·intro k hk
  refine ⟨H.y0 k hk,fun l hl e=>?_⟩
  exact H.away hx hl (e ▸ hk)
 ·intro c y l' h h1
  rw [lkS_inS] at h
  by_cases hc:b=c
  ·subst hc; exact H.own b x l' hx h1
  ·rw [if_neg hc] at h; exact H.own c y l' h h1
 ·have back:∀ {c r k h sz es},OwAt (inS st b (some x')) c r k h sz es→OwAt st c r k h sz es:=by
   rintro c r k h sz es ⟨sz0,rows,row,h1,h2⟩
   rw [lkS_inS] at h1
   by_cases hc:b=c
   ·rw [if_pos hc] at h1
    rcases hx' with ⟨_,_,_,e⟩ | ⟨_,_,_,_,e⟩ <;> (rw [e] at h1; cases h1)
   ·rw [if_neg hc] at h1; exact ⟨sz0,rows,row,h1,h2⟩
  refine H.nest.keep K.none (fun _ _ _ _ _ _ k=>back k) (fun _ _ _ _ _ _ _=>rfl) (fun c r k h sz es hk=>⟨(H.nest.rep _ _ _ _ _ _ (back hk)).own,fun l hl e=>H.nest.sep _ _ _ _ _ _ _ _ _ (back hk) hx hl e.symm⟩) fun c r k h sz es b' y l' hk hy hl'=>?_
  rw [lkS_inS] at hy
  by_cases hc:b=b'
  ·subst hc; exact H.nest.sep _ _ _ _ _ _ _ _ _ (back hk) hx hl'
  ·rw [if_neg hc] at hy; exact H.nest.sep _ _ _ _ _ _ _ _ _ (back hk) hy hl'
end Go.Pv
