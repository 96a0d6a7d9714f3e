import Derived.Orders
import Derived.Tactics
import Derived.Calls
import Derived.Below
set_option linter.all false
namespace Go.Pv
open Go
structure Hdr where
 ν:Nat
 o:Nat
 cap:Nat
inductive PV where
 | bool (b:Bool)
 | sb (b:Bool)
 | int (k:IntKind) (n:Int)
 | si (k:IntKind) (n:Int)
 | str (s:ByteArray)
 | agg (cs:List PV)
 | tup (vs:List PV)
 | sl (sz:Nat) (es:List (List PV)) (full:Bool)
 | os (b r n:Nat)
 | lv (b c:Nat)
 | lp (b r c:Nat)
 | pp (cs:List PV)
 | ow (h:Hdr) (sz:Nat) (es:List (List PV))
 | bo (b r c:Nat) (h:Hdr) (sz n:Nat)
 | np (b r c:Nat) (h:Hdr) (sz j k:Nat)
 | nilp
 | fn (f:Nat) (caps:List PV)
 | nilf
 | mp (b:Nat)
 | top
 | undef
 deriving Inhabited
inductive Blk where
 | var (ro:Bool) (row:List PV)
 | arr (ro:Bool) (sz:Nat) (rows:List (List PV))
 | nar (sz:Nat) (rows:List (List PV))
 | map (rows:List (List PV))
abbrev St:=List (Nat × Option Blk)
structure Env where
 tmps:List PV
 st:St
 next:Nat
structure Sig where
 bin:BinOp→IntKind→Int→Int→Int
 cmp:BinOp→Int→Int→Bool
 conv:IntKind→Int→Int
 neg:IntKind→Int→Int
 beq:Bool→Bool→Bool
 band:Bool→Bool→Bool
 scmp:BinOp→ByteArray→ByteArray→Bool
 slen:ByteArray→Int
 smin:Int→Int→Int
 smax:Int→Int→Int
 len:List (List PV)→Int
 nint:Nat→Int
 nadd:Nat→Nat→Nat
 nsub:Nat→Nat→Nat
 app:List (List PV)→List (List PV)→List (List PV)
 sub:List (List PV)→Nat→Nat→List (List PV)
 spl:List (List PV)→Nat→List (List PV)→List (List PV)
 rset:List (List PV)→Nat→List PV→List (List PV)
 rep:Nat→List PV→List (List PV)
 lenN:List (List PV)→Nat
 br:Bool→(Unit→Prop)→(Unit→Prop)→Prop
 call:Nat→List PV→Env→Option (List PV)→Option (List PV)→List Nat→List PV→St→(PV→Env→Prop)→Prop
 callq:Nat→List PV→(PV→Prop)→Prop
 callp:Nat→List PV→List PV→List PV→Env→(PV→Env→Prop)→Prop
 callf:Nat→List PV→(PV→Prop)→Prop
 callm:Nat→List PV→(PV→Blk→Prop)→Prop
 callw:Nat→List PV→St→List Nat→(PV→St→Nat→Prop)→Prop
 loop:Code→(Nat→Env→Prop)→Env→Prop
 seq:((Nat→Env→Prop)→Prop)→(Env→Prop)→(Nat→Env→Prop)→Prop
 idx:List (List PV)→Int→(List PV→Prop)→Prop
 ix:Nat→Int→(Nat→Prop)→Prop
 row:List (List PV)→Nat→(List PV→Prop)→Prop
 sidx:ByteArray→Int→(Int→Prop)→Prop
 div:BinOp→IntKind→Int→Int→(Int→Prop)→Prop
 shf:BinOp→IntKind→Int→Int→(Int→Prop)→Prop
 scat:ByteArray→ByteArray→(ByteArray→Prop)→Prop
 mks:Int→Int→Nat→(Nat→Prop)→Prop
 room:Nat→Nat→Prop→Prop
 slc:Nat→Int→Int→(Nat→Nat→Prop)→Prop
 sslc:ByteArray→Int→Int→(ByteArray→Prop)→Prop
 nilq:List (List PV)→(Bool→Prop)→Prop
 toS:Nat→List (List PV)→(ByteArray→Prop)→Prop
 wk:List PV→(List PV→Prop)→Prop
 order:Array Oper→Prop→Prop
 last:Array Oper→Prop→Prop
 ordF:Array Oper→List (List Nat × List Nat × List Nat)→Prop→Prop
 nu:(Hdr→Prop)→Prop
 same:Hdr→Hdr→Prop→Prop
 fz:List (List PV)→List (List PV)
 mget:List (List PV)→Int→List PV→(List PV→Bool→Prop)→Prop
 mset:List (List PV)→Int→List PV→List (List PV)
def getL:List PV→Nat→PV
 | [],_=>.undef
 | x::_,0=>x
 | _::l,n+1=>getL l n
def setL:List PV→Nat→PV→List PV
 | [],_,_=>[]
 | _::l,0,v=>v::l
 | x::l,n+1,v=>x::setL l n v
def lenL:List PV→Nat
 | []=>0
 | _::l=>lenL l+1
def takeL:Nat→List PV→List PV
 | 0,_=>[]
 | _+1,[]=>[]
 | n+1,x::l=>x::takeL n l
def dropL:Nat→List PV→List PV
 | 0,l=>l
 | _+1,[]=>[]
 | n+1,_::l=>dropL n l
def appL:List PV→List PV→List PV
 | [],m=>m
 | x::l,m=>x::appL l m
def writeL:List PV→Nat→List PV→List PV
 | l,_,[]=>l
 | l,c,v::vs=>writeL (setL l c v) (c+1) vs
def chunks (sz:Nat):Nat→List PV→List (List PV)
 | 0,_=>[]
 | n+1,l=>takeL sz l::chunks sz n (dropL sz l)
def lkS:St→Nat→Option Blk
 | [],_=>none
 | (b,x)::l,c=>bif Nat.beq b c then x else lkS l c
def inS:St→Nat→Option Blk→St
 | [],b,x=>[(b,x)]
 | (b',y)::l,b,x=>bif Nat.beq b' b then (b',x)::l else (b',y)::inS l b x
def applyD:List (Nat × Option Blk)→St→St
 | [],s=>s
 | (b,x)::d,s=>applyD d (inS s b x)
def ofCell:Value→PV
 | .bool b=>.bool b
 | .int k n=>.int k n
 | .string s=>.str s
 | .pointer none=>.nilp
 | .slice none 0 0=>.sl 0 [] true
 | .nilFunc=>.nilf
 | _=>.top
def ofCells:List Value→List PV
 | []=>[]
 | v::vs=>ofCell v::ofCells vs
def ofVal:Value→PV
 | .agg cs=>.agg (ofCells cs.toList)
 | v=>ofCell v
def cellsV:PV→List PV
 | .agg cs=>cs
 | v=>[v]
def isCell:PV→Bool
 | .agg _ | .tup _ | .top | .undef=>false
 | _=>true
def allCell:List PV→Bool
 | []=>true
 | v::vs=>isCell v && allCell vs
def putE (E:Env):Option Nat→PV→Env
 | none,_=>E
 | some d,v=>{ E with tmps:=setL E.tmps d v }
def isAggT (P:Program) (t:TypeId):Bool :=
 match P.underlying t with
 | some (.struct _) | some (.array ..)=>true
 | _=>false
structure FI where
 off:Nat
 size:Nat
 agg:Bool
inductive TK where
 | oth
 | str
 | ptr
 | int (k:IntKind)
 | struct (fs:List FI)
 | arr (n sz:Nat) (agg:Bool)
 | slice (sz bytes:Nat) (zero:Option (List PV))
 | map (sz:Nat) (zero:List PV)
structure TI where
 ok:Bool
 agg:Bool
 size:Nat
 zero:Option (List PV)
 plain:Option (List Nat)
 kind:TK
def TI.bad:TI:={ ok:=false,agg:=false,size:=0,zero:=none,plain:=none,kind:=.oth }
structure Tab where
 ti:TypeId→TI
 gl:Nat→Option (List PV)
 pas:Nat
 cut:List Nat
 nar:Nat
 own:List (List (Nat × Bool))
 dcl:List (Nat × Nat)
instance:CoeFun Tab (fun _=>TypeId→TI):=⟨Tab.ti⟩
def evL (T:Tab) (tmps:List PV):Operand→PV
 | .tmp t=>getL tmps t
 | .const v=>ofVal v
 | .func f=>.fn f []
 | .global g=>match T.gl g with | some cs=>.pp cs | none=>.top
def evO (T:Tab) (tmps:List PV):Option Operand→Option PV
 | none=>none
 | some x=>some (evL T tmps x)
def evA (T:Tab) (tmps:List PV):List Operand→List PV
 | []=>[]
 | x::l=>evL T tmps x::evA T tmps l
def isPos:Nat→Bool
 | 0=>false
 | _+1=>true
def intV:PV→Option (IntKind × Int)
 | .int k n | .si k n=>some (k,n)
 | _=>none
def boolV:PV→Option Bool
 | .bool b | .sb b=>some b
 | _=>none
def isArith:BinOp→Bool
 | .add | .sub | .mul | .and | .or | .xor | .andNot=>true
 | _=>false
def isCmp:BinOp→Bool
 | .eql | .neq | .lss | .leq | .gtr | .geq=>true
 | _=>false
def stdBin (op:BinOp) (k:IntKind) (a b:Int):Int :=
 match op with
 | .add=>k.wrap (a+b)
 | .sub=>k.wrap (a - b)
 | .mul=>k.wrap (a * b)
 | .and=>k.wrap ((BitVec.ofInt k.bits a &&& BitVec.ofInt k.bits b).toNat)
 | .or=>k.wrap ((BitVec.ofInt k.bits a ||| BitVec.ofInt k.bits b).toNat)
 | .xor=>k.wrap ((BitVec.ofInt k.bits a ^^^ BitVec.ofInt k.bits b).toNat)
 | .andNot=>k.wrap ((BitVec.ofInt k.bits a &&& ~~~(BitVec.ofInt k.bits b)).toNat)
 | _=>0
def stdCmp (op:BinOp) (a b:Int):Bool :=
 match op with
 | .eql=>decide (a=b)
 | .neq=>!decide (a=b)
 | .lss=>decide (a<b)
 | .leq=>decide (a≤b)
 | .gtr=>decide (b<a)
 | .geq=>decide (b≤a)
 | _=>false
def stdScmp (op:BinOp) (a b:ByteArray):Bool :=
 match op with
 | .eql=>decide (a=b)
 | .neq=>!decide (a=b)
 | .lss=>Op.bytesLess a.toList b.toList
 | .leq=>Op.bytesLess a.toList b.toList || decide (a=b)
 | .gtr=>!(Op.bytesLess a.toList b.toList || decide (a=b))
 | .geq=>!Op.bytesLess a.toList b.toList
 | _=>false
def kindEq:IntKind→IntKind→Bool
 | .i8,.i8 | .i16,.i16 | .i32,.i32 | .i64,.i64 | .u8,.u8 | .u16,.u16 | .u32,.u32 | .u64,.u64=>true
 | _,_=>false
def eqC (S:Sig):Nat→PV→PV→Option Bool
 | 0,x,y=>match intV x,intV y with
  | some (k,a),some (k',b)=>bif kindEq k k' then some (S.cmp .eql a b) else none
  | _,_=>none
 | 1,x,y=>match boolV x,boolV y with
  | some a,some b=>some (S.beq a b)
  | _,_=>none
 | 2,.str a,.str b=>some (S.scmp .eql a b)
 | _,_,_=>none
def eqCs (S:Sig):List Nat→List PV→List PV→Option Bool
 | [],[],[]=>some true
 | k::ks,x::xs,y::ys =>
  match eqC S k x y with
  | none=>none
  | some a=>match eqCs S ks xs ys with
   | none=>none
   | some b=>some (S.band a b)
 | _,_,_=>none
def repN:Nat→List Nat→List Nat
 | 0,_=>[]
 | n+1,l=>l ++ repN n l
def plainFs (P:Program) (rec:TypeId→Option (List Nat)):List Field→Nat→Option (List Nat)
 | [],_=>some []
 | f :: fs, n => if f.offset = n ∧ f.name ≠ "_" ∧ P.info? f.type ≠ none then
   match rec f.type with
   | some s=>if P.cellsOf f.type=s.length∧0<s.length then
     match plainFs P rec fs (n+s.length) with
     | some r=>some (s ++ r)
     | none=>none
    else none
   | none=>none
  else none
def plainT (P:Program):Nat→TypeId→Option (List Nat)
 | 0,_=>none
 | d+1,t =>
  match P.underlying t with
  | some .bool=>some [1]
  | some (.int _)=>some [0]
  | some .string=>some [2]
  | some (.struct fs)=>if P.stoodInHeld t then none else plainFs P (plainT P d) fs.toList 0
  | some (.array n e)=>match plainT P d e with
   | some s=>if P.cellsOf e=s.length∧P.info? e ≠ none then some (repN n s) else none
   | none=>none
  | _=>none
def isSpec:BinOp→Bool
 | .shl | .shr | .quo | .rem=>true
 | _=>false
def isEql:BinOp→Bool
 | .eql=>true
 | _=>false
def isNeq:BinOp→Bool
 | .neq=>true
 | _=>false
def isAdd:BinOp→Bool
 | .add=>true
 | _=>false
def binS (S:Sig) (op:BinOp) (k:IntKind) (a:Int) (k' : IntKind) (b:Int) (K:PV→Prop):Prop :=
 match op with
 | .shl | .shr=>S.shf op k a b fun n=>K (.si k n)
 | .quo | .rem=>bif kindEq k k' then S.div op k a b fun n=>K (.si k n) else False
 | _=>False
def isPtrP:PV→Bool
 | .lv _ _ | .lp _ _ _ | .pp _ | .np _ _ _ _ _ _ _=>true
 | _=>false
def isNilP:PV→Bool
 | .nilp=>true
 | _=>false
def eqK (S:Sig) (op:BinOp) (b:Bool) (K:PV→Prop):Prop :=
 bif isEql op then K (.sb b) else bif isNeq op then K (.sb (S.beq b false)) else False
def eqL (op:BinOp) (b:Bool) (K:PV→Prop):Prop :=
 bif isEql op then K (.bool b) else bif isNeq op then (match b with | true=>K (.bool false) | false=>K (.bool true)) else False
def binE (T:Tab) (S:Sig) (op:BinOp) (t:TypeId) (x y:PV) (K:PV→Prop):Prop :=
 match x,y with
 | .int k a,.int k' b =>
  bif isSpec op then binS S op k a k' b K
  else bif kindEq k k' then (bif isArith op then K (.int k (stdBin op k a b)) else bif isCmp op then K (.bool (stdCmp op a b)) else False) else False
 | .str a,.str b =>
  bif isAdd op then S.scat a b fun c=>K (.str c)
  else bif isCmp op then K (.sb (S.scmp op a b)) else False
 | .agg xs,.agg ys =>
  match T t with
  | { ok:=true,agg:=true,plain:=some ks,.. }=>(match eqCs S ks xs ys with
   | some b=>eqK S op b K
   | _=>False)
  | _=>False
 | x,y =>
  match intV x,intV y with
  | some (k,a),some (k',b) =>
   bif isSpec op then binS S op k a k' b K
   else bif kindEq k k' then (bif isArith op then K (.si k (S.bin op k a b)) else bif isCmp op then K (.sb (S.cmp op a b)) else False) else False
  | _,_ =>
   match boolV x,boolV y with
   | some a,some b=>(match T t with
    | { ok:=true,agg:=false,plain:=some [1],.. }=>eqK S op (S.beq a b) K
    | _=>False)
   | _,_ =>
    match T t with
    | { ok:=true,kind:=.ptr,.. } =>
     bif isNilP x && isNilP y then eqL op true K
     else bif (isNilP x && isPtrP y) || (isPtrP x && isNilP y) then eqL op false K
     else False
    | _=>False
def fillV (place:Nat→Option (Nat × Nat)):List PV→List (Nat × PV)→Option (List PV)
 | cells,[]=>some cells
 | cells,(i,v)::rest =>
  match place i with
  | none=>none
  | some (off,size) =>
   bif Nat.beq (lenL (cellsV v)) size && Nat.ble (off+size) (lenL cells) then fillV place (writeL cells off (cellsV v)) rest else none
def evP (T:Tab) (tmps:List PV):List (Nat × Operand)→List (Nat × PV)
 | []=>[]
 | (i,x)::l=>(i,evL T tmps x)::evP T tmps l
def noTop:List (Nat × PV)→Bool
 | []=>true
 | (_,.top)::_=>false
 | _::l=>noTop l
def zeroT (P:Program) (t:TypeId):Option (List PV) :=
 match P.info? t with
 | some i=>match i.zero with
  | some z=>some (cellsV (ofVal z))
  | none=>none
 | none=>none
def repL:Nat→List PV→List PV
 | 0,_=>[]
 | n+1,l=>appL l (repL n l)
def fieldOf:List FI→Nat→Option FI
 | [],_=>none
 | f::_,0=>some f
 | _::l,n+1=>fieldOf l n
def fldPlace (fs:List FI) (i:Nat):Option (Nat × Nat) :=
 match fieldOf fs i with
 | some f=>some (f.off,f.size)
 | none=>none
def zeroAg (P:Program) (t:TypeId):Option (List PV) :=
 match P.info? t with
 | some i=>match i.zero with
  | some (.agg cs)=>some (ofCells cs.toList)
  | _=>none
 | none=>none
def mapTK (P:Program) (k e:TypeId):TK :=
 match P.underlying k,zeroAg P e with
 | some (.int .i64),some z=>.map (P.cellsOf e) z
 | _,_=>.oth
def mkTI (P:Program) (t:TypeId):TI :=
 match P.info? t,P.underlying t with
 | some i,some d =>
  { ok:=true,agg:=isAggT P t,size:=i.size,zero:=zeroT P t,plain:=if P.eqGuardType P.depth t then none else plainT P 20 t,kind:=match d with
    | .struct fs=>.struct (fs.toList.map fun f=>{ off:=f.offset,size:=P.cellsOf f.type,agg:=isAggT P f.type })
    | .array n e=>.arr n (P.cellsOf e) (isAggT P e)
    | .slice e=>.slice (P.cellsOf e) (P.bytesOf e) (zeroT P e)
    | .int k=>.int k
    | .string=>.str
    | .pointer _=>.ptr
    | .map k e=>mapTK P k e
    | _=>.oth }
 | _,_=>.bad
def TabOK (P:Program) (T:Tab):Prop:=∀ t,(T t).ok=true→T t=mkTI P t∧t<P.types.size
abbrev Dl:=List (Nat × Option Blk)
def rowsOf (S:Sig) (esz:Nat) (lk:Nat→Option Blk):PV→Option (List (List PV))
 | .sl sz es _=>bif Nat.beq sz esz then some es else (match es with | []=>some [] | _::_=>none)
 | .os b r n=>match lk b with
  | some (.arr _ sz rows)=>bif Nat.beq sz esz then some (S.sub rows r n) else none
  | _=>none
 | _=>none
def loadRow (agg:Bool) (size:Nat) (row:List PV) (c:Nat) (K:PV→Prop):Prop :=
 bif agg then
  (bif Nat.ble (c+size) (lenL row) then K (.agg (takeL size (dropL c row))) else False)
 else (bif Nat.blt c (lenL row) then K (getL row c) else False)
def storeRow (size:Nat) (row:List PV) (c:Nat) (v:PV) (K:List PV→Prop):Prop :=
 bif allCell (cellsV v) && Nat.beq (lenL (cellsV v)) size && Nat.ble (c+lenL (cellsV v)) (lenL row) then K (writeL row c (cellsV v)) else False
def pur (S:Sig) (lk:Nat→Option Blk):List PV→Option (List PV × Dl)
 | []=>some ([],[])
 | v::vs=>match pur S lk vs with
  | none=>none
  | some (vs',δ)=>match v with
   | .os b r n=>(match lk b with
    | some (.arr _ sz rows)=>some (.sl sz (S.sub rows r n) false::vs',(b,some (.arr true sz rows))::δ)
    | _=>none)
   | .lv _ _ | .lp _ _ _ | .fn _ (_::_) | .agg _ | .tup _ | .top | .undef | .ow _ _ _ | .bo _ _ _ _ _ _ | .np _ _ _ _ _ _ _ | .mp _=>none
   | v=>some (v::vs',δ)
def noLk0 (_:Nat):Option Blk:=none
def hasSl:List PV→Bool
 | []=>false
 | .sl _ _ _::_=>true
 | _::l=>hasSl l
def newB (nar:Nat) (esz:Nat) (z:List PV) (rows:List (List PV)):Blk :=
 match nar with
 | 0=>.arr false esz rows
 | _+1=>(match hasSl z with
  | true=>.nar esz rows
  | false=>.arr false esz rows)
def hd0:Hdr:=⟨0,0,0⟩
def owC (n:Nat) (v:PV):PV :=
 match v with
 | .sl _ es f=>(match f with
  | true=>(match es with
   | []=>.ow hd0 n []
   | _::_=>v)
  | false=>v)
 | v=>v
def owZ (n:Nat):List PV→List PV
 | []=>[]
 | v::l=>owC n v::owZ n l
def borV (S:Sig) (b r c:Nat):PV→PV
 | .ow h sz es=>.bo b r c h sz (S.lenN es)
 | v=>v
def borL (S:Sig) (b r:Nat):Nat→List PV→List PV
 | _,[]=>[]
 | c,v::l=>borV S b r c v::borL S b r (c+1) l
def memD (b:Nat):Dl→Bool
 | []=>false
 | (c,_)::l=>Nat.beq c b || memD b l
def anyLit:List PV→Bool
 | []=>false
 | v::vs=>match v with
  | .int _ _=>true
  | .bool _=>true
  | .sl _ es f=>(match f with
   | true=>(match es with
    | []=>true
    | _::_=>anyLit vs)
   | false=>anyLit vs)
  | _=>anyLit vs
def wkC (S:Sig) (cs:List PV) (K:List PV→Prop):Prop :=
 match anyLit cs with
 | true=>S.wk cs K
 | false=>K cs
def wkN (S:Sig) (nar:Nat) (cs:List PV) (K:List PV→Prop):Prop :=
 match nar with
 | 0=>wkC S cs K
 | n+1=>(match hasSl cs with
  | true=>K (owZ n cs)
  | false=>wkC S cs K)
def nilC:Operand→Bool
 | .const (.slice none 0 0)=>true
 | _=>false
def opE (T:Tab) (S:Sig) (o:Op) (tmps:List PV) (lk:Nat→Option Blk) (id:Nat) (K:PV→Dl→Prop):Prop :=
 match o with
 | .move x | .assign x=>K (evL T tmps x) []
 | .pick c a b =>
  match evL T tmps c with
  | .bool true=>K (evL T tmps a) []
  | .bool false=>K (evL T tmps b) []
  | _=>False
 | .alloc t =>
  match T t with
  | { ok:=true,zero:=some z,.. }=>K (.lv id 0) [(id,some (.var false z))]
  | _=>False
 | .box _ x =>
  match evL T tmps x with
  | .top=>False
  | v=>K (.lv id 0) [(id,some (.var false (cellsV v)))]
 | .fieldAddr t x f =>
  match T t with
  | { ok:=true,kind:=.struct fs,.. }=>(match fieldOf fs f with
   | some fd=>bif isPos fd.size then (match evL T tmps x with
    | .lv b c=>K (.lv b (c+fd.off)) []
    | .lp b r c=>K (.lp b r (c+fd.off)) []
    | .np b r c h sz j k=>K (.np b r c h sz j (k+fd.off)) []
    | .pp cs=>bif Nat.ble fd.off (lenL cs) then K (.pp (dropL fd.off cs)) [] else False
    | _=>False) else False
   | none=>False)
  | _=>False
 | .field t x f =>
  match T t with
  | { ok:=true,kind:=.struct fs,.. }=>(match fieldOf fs f with
   | some fd=>(match evL T tmps x with
    | .agg cs=>bif isPos fd.size then loadRow fd.agg fd.size cs fd.off (fun v=>K v []) else False
    | _=>False)
   | none=>False)
  | _=>False
 | .load t x =>
  match T t with
  | { ok:=true,agg,size,.. }=>(match evL T tmps x with
   | .lv b c=>(match lk b with
    | some (.var _ row)=>loadRow agg size row c fun v=>K v []
    | _=>False)
   | .lp b r c=>(match lk b with
    | some (.arr _ _ rows)=>S.row rows r fun row=>loadRow agg size row c fun v=>K v []
    | some (.nar _ rows)=>S.row rows r fun row=>loadRow agg size (borL S b r 0 row) c fun v=>K v []
    | _=>False)
   | .np b r c h sz j k=>(match lk b with
    | some (.nar _ rows)=>S.row rows r fun row=>(match getL row c with
     | .ow h' sz' es=>bif Nat.beq sz' sz then S.same h h' (S.row es j fun er=>loadRow agg size er k fun v=>K v []) else False
     | _=>False)
    | _=>False)
   | .pp cs=>loadRow agg size cs 0 fun v=>K v []
   | _=>False)
  | _=>False
 | .store t x y =>
  match T t with
  | { ok:=true,size,.. }=>(match evL T tmps x with
   | .lv b c=>(match lk b with
    | some (.var false row)=>storeRow size row c (evL T tmps y) fun row'=>K .undef [(b,some (.var false row'))]
    | _=>False)
   | .lp b r c=>(match lk b with
    | some (.arr false sz rows)=>(match pur S lk (cellsV (evL T tmps y)) with
     | some (cs,δ)=>bif memD b δ then False else wkC S cs fun cs=>S.row rows r fun row=>storeRow size row c (.agg cs) fun row'=>K .undef (δ ++ [(b,some (.arr false sz (S.rset rows r row')))])
     | none=>False)
    | some (.nar sz rows)=>(match evL T tmps y with
     | .os id r0 n=>(match lk id with
      | some (.arr false sz' rows')=>bif Nat.beq size 1 && Nat.beq id b then False else S.row rows r fun row=>S.nu fun h =>
        storeRow size row c (.ow h sz' (S.sub rows' r0 n)) fun row'=>K .undef [(id,none),(b,some (.nar sz (S.rset rows r row')))]
      | _=>False)
     | y=>(match pur S lk (cellsV y) with
      | some (cs,[])=>S.row rows r fun row=>storeRow size row c (.agg cs) fun row'=>K .undef [(b,some (.nar sz (S.rset rows r row')))]
      | _=>False))
    | _=>False)
   | .np b r c h sz j k=>(match lk b with
    | some (.nar sz0 rows)=>(match pur S noLk0 (cellsV (evL T tmps y)) with
     | some (cs,[])=>wkC S cs fun cs=>S.row rows r fun row=>(match getL row c with
      | .ow h' sz' es=>bif Nat.beq sz' sz then S.same h h' (S.row es j fun er=>storeRow size er k (.agg cs) fun er' =>
        K .undef [(b,some (.nar sz0 (S.rset rows r (setL row c (.ow h' sz' (S.rset es j er'))))))]) else False
      | _=>False)
     | _=>False)
    | _=>False)
   | _=>False)
  | _=>False
 | .nilCheck x =>
  match evL T tmps x with
  | .lv b c=>K (.lv b c) []
  | .lp b r c=>K (.lp b r c) []
  | .pp cs=>K (.pp cs) []
  | .np b r c h sz j k=>K (.np b r c h sz j k) []
  | .fn f cs=>K (.fn f cs) []
  | _=>False
 | .binOp op t x y _ =>
  match nilC y with
  | true=>(match T t with
   | { ok:=true,kind:=.slice _ _ _,.. }=>(match evL T tmps x with
    | .sl _ es _=>S.nilq es fun b=>eqL op b fun v=>K v []
    | _=>False)
   | _=>False)
  | false=>(match T t with
   | { ok:=true,.. }=>binE T S op t (evL T tmps x) (evL T tmps y) fun v=>K v []
   | _=>False)
 | .unOp .not _ x =>
  match evL T tmps x with
  | .bool true=>K (.bool false) []
  | .bool false=>K (.bool true) []
  | .sb b=>K (.sb (S.beq b false)) []
  | _=>False
 | .unOp .neg _ x =>
  match evL T tmps x with
  | .int k n=>K (.int k (k.wrap (0 - n))) []
  | .si k n=>K (.si k (S.neg k n)) []
  | _=>False
 | .convert s d x =>
  match T s,T d with
  | { ok:=true,kind:=.slice _ _ _,.. },{ ok:=true,kind:=.str,.. }=>(match rowsOf S 1 lk (evL T tmps x) with
   | some rows=>S.toS s rows fun b=>K (.str b) []
   | none=>False)
  | { ok:=true,.. },{ ok:=true,kind:=.int k,.. }=>(match evL T tmps x with
   | .int _ n=>K (.int k (k.wrap n)) []
   | .si _ n=>K (.si k (S.conv k n)) []
   | _=>False)
  | _,_=>False
 | .indexAddr t x i =>
  match T t with
  | { ok:=true,kind:=.slice esz _ _,.. } =>
   (match evL T tmps x,intV (evL T tmps i) with
   | .sl sz es _,some (_,n)=>bif isPos esz && Nat.beq sz esz then S.idx es n fun row=>K (.pp row) [] else False
   | .os b r len,some (_,n)=>(match lk b with
    | some (.arr _ sz _)=>bif isPos esz && Nat.beq sz esz then S.ix len n fun j=>K (.lp b (S.nadd r j) 0) [] else False
    | some (.nar sz _)=>bif isPos esz && Nat.beq sz esz then S.ix len n fun j=>K (.lp b (S.nadd r j) 0) [] else False
    | _=>False)
   | .bo b r c h sz len,some (_,n)=>bif isPos esz && Nat.beq sz esz then S.ix len n fun j=>K (.np b r c h sz j 0) [] else False
   | _,_=>False)
  | { ok:=true,kind:=.arr len esz _,.. }=>bif isPos esz then
   (match evL T tmps i with
   | .int _ (.ofNat n)=>bif Nat.blt n len then (match evL T tmps x with
    | .lv b c=>K (.lv b (c+n * esz)) []
    | .lp b r c=>K (.lp b r (c+n * esz)) []
    | .pp cs=>bif Nat.ble (n * esz) (lenL cs) then K (.pp (dropL (n * esz) cs)) [] else False
    | _=>False) else False
   | .si _ n=>S.ix len n fun j=>(match evL T tmps x with
    | .lv b c=>K (.lv b (c+j * esz)) []
    | .lp b r c=>K (.lp b r (c+j * esz)) []
    | .pp cs=>bif Nat.ble (j * esz) (lenL cs) then K (.pp (dropL (j * esz) cs)) [] else False
    | _=>False)
   | _=>False) else False
  | _=>False
 | .index t x i =>
  match T t,evL T tmps x,intV (evL T tmps i) with
  | { ok:=true,kind:=.str,.. },.str s,some (_,n)=>S.sidx s n fun c=>K (.si .u8 c) []
  | { ok:=true,kind:=.arr len esz agg,.. },.agg cs,some (_,n)=>bif isPos esz then S.ix len n (fun j=>loadRow agg esz cs (j * esz) fun v=>K v []) else False
  | _,_,_=>False
 | .extract t i =>
  match evL T tmps t with
  | .tup vs=>bif Nat.blt i (lenL vs) then K (getL vs i) [] else False
  | _=>False
 | .build t parts =>
  match T t with
  | { ok:=true,zero:=some z,kind:=.struct fs,.. } =>
   bif noTop (evP T tmps parts.toList) then (match fillV (fldPlace fs) z (evP T tmps parts.toList) with
    | some cs=>K (.agg cs) []
    | none=>False) else False
  | { ok:=true,zero:=some z,kind:=.arr _ esz _,.. } =>
   bif noTop (evP T tmps parts.toList) then (match fillV (fun i=>some (i * esz,esz)) z (evP T tmps parts.toList) with
    | some cs=>K (.agg cs) []
    | none=>False) else False
  | _=>False
 | .buildSlice t len parts =>
  match T t with
  | { ok:=true,kind:=.slice esz _ (some z),.. } =>
    bif isPos esz && Nat.beq (lenL z) esz && Nat.ble (len * esz) 16777216 && noTop (evP T tmps parts.toList) then
     (match fillV (fun i=>some (i * esz,esz)) (repL len z) (evP T tmps parts.toList) with
     | some cs=>(match pur S lk cs with
      | some (cs,δ)=>wkC S cs fun cs=>K (.os id 0 len) (δ ++ [(id,some (.arr false esz (chunks esz len cs)))])
      | none=>False)
     | none=>False)
    else False
  | _=>False
 | .makeFunc (.func f) first captured =>
  match first.toList with
  | []=>K (.fn f (evA T tmps captured.toList)) []
  | _=>False
 | .makeSlice t l c =>
  match T t,intV (evL T tmps l),intV (evL T tmps c) with
  | { ok:=true,kind:=.slice esz bytes (some z),.. },some (_,n),some (_,m) =>
    bif isPos esz && Nat.beq (lenL z) esz && allCell z then
     S.mks n m bytes fun j=>wkN S T.nar z fun z2=>K (.os id 0 j) [(id,some (newB T.nar esz z (S.rep j z2)))]
    else False
  | _,_,_=>False
 | .slice t x lo hi mx =>
  match T t,evL T tmps x,evO T tmps lo,evO T tmps hi,evO T tmps mx with
  | { ok:=true,kind:=.slice esz _ _,.. },.sl sz es full,l,h,none=>bif isPos esz && Nat.beq sz esz then
   (match h with
   | none=>match l with
    | none=>K (.sl sz es full) []
    | some lv=>match intV lv with
     | some (_,a)=>S.slc (S.lenN es) a (S.len es) fun i j=>K (.sl sz (S.sub es i (S.nsub j i)) full) []
     | none=>False
   | some hv=>match intV hv with
    | some (_,b)=>match l with
     | none=>S.slc (S.lenN es) 0 b fun i j=>K (.sl sz (S.sub es i (S.nsub j i)) false) []
     | some lv=>match intV lv with
      | some (_,a)=>S.slc (S.lenN es) a b fun i j=>K (.sl sz (S.sub es i (S.nsub j i)) false) []
      | none=>False
    | none=>False) else False
  | { ok:=true,kind:=.slice esz _ _,.. },.os b r n,l,h,none =>
   (match lk b with
   | some (.arr _ sz _)=>bif isPos esz && Nat.beq sz esz then
    (match h with
    | none=>match l with
     | none=>K (.os b r n) []
     | some lv=>match intV lv with
      | some (_,a)=>S.slc n a (S.nint n) fun i j=>K (.os b (S.nadd r i) (S.nsub j i)) []
      | none=>False
    | some hv=>match intV hv with
     | some (_,c)=>match l with
      | none=>S.slc n 0 c fun i j=>K (.os b (S.nadd r i) (S.nsub j i)) []
      | some lv=>match intV lv with
       | some (_,a)=>S.slc n a c fun i j=>K (.os b (S.nadd r i) (S.nsub j i)) []
       | none=>False
     | none=>False) else False
   | _=>False)
  | { ok:=true,kind:=.slice esz _ _,.. },.sl _ _ _,none,some (.int _ 0),some (.int _ 0)=>bif isPos esz then K (.sl esz [] true) [] else False
  | { ok:=true,kind:=.slice esz _ _,.. },.os _ _ _,none,some (.int _ 0),some (.int _ 0)=>bif isPos esz then K (.sl esz [] true) [] else False
  | { ok:=true,kind:=.str,.. },.str s,l,h,none =>
   (match l with
   | none=>match h with
    | none=>K (.str s) []
    | some hv=>match intV hv with
     | some (_,b)=>S.sslc s 0 b fun s'=>K (.str s') []
     | none=>False
   | some lv=>match intV lv with
    | some (_,a)=>match h with
     | none=>S.sslc s a (S.slen s) fun s'=>K (.str s') []
     | some hv=>match intV hv with
      | some (_,b)=>S.sslc s a b fun s'=>K (.str s') []
      | none=>False
    | none=>False)
  | { ok:=true,kind:=.arr n esz _,.. },.lv b c,none,none,none =>
   (match lk b with
   | some (.var _ row)=>bif isPos esz && Nat.ble (c+n * esz) (lenL row) then
     (match pur S (fun _=>none) row with
     | some _=>K (.sl esz (chunks esz n (dropL c row)) true) [(b,some (.var true row))]
     | none=>False) else False
   | _=>False)
  | { ok:=true,kind:=.arr n esz _,.. },.pp cs,none,none,none =>
   bif isPos esz && allCell cs && Nat.ble (n * esz) (lenL cs) then K (.sl esz (chunks esz n cs) true) [] else False
  | _,_,_,_,_=>False
 | .call { callee:=.builtin b,args,argTypes } =>
  match b,evA T tmps args.toList,argTypes.toList with
  | .len,[.str s],[t]=>(match T t with | { ok:=true,kind:=.str,.. }=>K (.si .i64 (S.slen s)) [] | _=>False)
  | .len,[.sl _ es _],[t]=>(match T t with | { ok:=true,kind:=.slice _ _ _,.. }=>K (.si .i64 (S.len es)) [] | _=>False)
  | .len,[.bo _ _ _ _ _ n],[t]=>(match T t with | { ok:=true,kind:=.slice _ _ _,.. }=>K (.si .i64 (S.nint n)) [] | _=>False)
  | .len,[.os _ _ n],[t]=>(match T t with | { ok:=true,kind:=.slice _ _ _,.. }=>K (.si .i64 (S.nint n)) [] | _=>False)
  | .min,[x,y],_=>(match x,y with
   | .int k a,.int k' b=>bif kindEq k k' then K (.int k (if b<a then b else a)) [] else False
   | x,y=>match intV x,intV y with
    | some (k,a),some (k',b)=>bif kindEq k k' then K (.si k (S.smin a b)) [] else False
    | _,_=>False)
  | .max,[x,y],_=>(match x,y with
   | .int k a,.int k' b=>bif kindEq k k' then K (.int k (if a<b then b else a)) [] else False
   | x,y=>match intV x,intV y with
    | some (k,a),some (k',b)=>bif kindEq k k' then K (.si k (S.smax a b)) [] else False
    | _,_=>False)
  | .append,[s,x],t::u::_ =>
   (match T t,T u with
   | { ok:=true,kind:=.slice esz bytes (some z),.. },{ ok:=true,kind:=.slice _ _ _,.. } =>
    bif isPos esz && Nat.beq (lenL z) esz then
     (match s,rowsOf S esz lk x with
     | .sl _ [] true,some new =>
      S.room (S.lenN new) bytes (K (.os id 0 (S.lenN new)) [(id,some (.arr false esz new))])
     | .os b r n,some new=>(match lk b with
      | some (.arr false sz rows)=>bif Nat.beq sz esz then
        S.room (S.nadd n (S.lenN new)) bytes (K (.os id 0 (S.nadd n (S.lenN new))) [(b,none),(id,some (.arr false sz (S.app (S.sub rows r n) new)))])
       else False
      | _=>False)
     | _,_=>False) else False
   | _,_=>False)
  | .clear,[.os b r n],t::_ =>
   (match T t with
   | { ok:=true,kind:=.slice esz _ (some z),.. } =>
    (match lk b with
    | some (.arr false sz rows)=>bif Nat.beq sz esz && Nat.beq (lenL z) sz && isPos sz && allCell z then
      wkC S z fun z2=>K (.tup []) [(b,some (.arr false sz (S.spl rows r (S.rep n z2))))] else False
    | _=>False)
   | _=>False)
  | _,_,_=>False
 | _=>False
def mapO (f:PV→Option PV):List PV→Option (List PV)
 | []=>some []
 | c::cs=>match f c with
  | none=>none
  | some c=>match mapO f cs with
   | none=>none
   | some cs=>some (c::cs)
def frz (S:Sig) (lk:Nat→Option Blk):Nat→PV→Option PV
 | 0,_=>none
 | d+1,v =>
  match v with
  | .bool b=>some (.sb b)
  | .sb b=>some (.sb b)
  | .int k n=>some (.si k n)
  | .si k n=>some (.si k n)
  | .str s=>some (.str s)
  | .nilp=>some .nilp
  | .nilf=>some .nilf
  | .sl sz es _=>some (.sl sz es false)
  | .pp cs=>some (.pp cs)
  | .agg cs=>match mapO (frz S lk d) cs with | some cs=>some (.agg cs) | none=>none
  | .tup cs=>match mapO (frz S lk d) cs with | some cs=>some (.tup cs) | none=>none
  | .fn f cs=>match mapO (frz S lk d) cs with | some cs=>some (.fn f cs) | none=>none
  | .lv b c=>match lk b with
   | some (.var _ row)=>match mapO (frz S lk d) (dropL c row) with | some cs=>some (.pp cs) | none=>none
   | _=>none
  | .os b r n=>match lk b with
   | some (.arr _ sz rows)=>some (.sl sz (S.sub rows r n) false)
   | some (.nar sz rows)=>some (.sl sz (S.fz (S.sub rows r n)) false)
   | _=>none
  | _=>none
def gd (S:Sig) (all:Array Oper) (g:Option (Nat × Bool)) (E:Env) (run skip:Env→Prop):Prop :=
 match g with
 | none=>run E
 | some (j,want) =>
  match all[j]? with
  | some o=>match o.dst with
   | some d=>match getL E.tmps d with
    | .bool true=>(match want with | true=>run E | false=>skip E)
    | .bool false=>(match want with | true=>skip E | false=>run E)
    | .sb b=>S.br b
      (fun _=>match want with | true=>run (putE E (some d) (.bool true)) | false=>skip (putE E (some d) (.bool true)))
      (fun _=>match want with | true=>skip (putE E (some d) (.bool false)) | false=>run (putE E (some d) (.bool false)))
    | .undef=>skip E
    | _=>False
   | none=>False
  | none=>False
def nextD:Dl→Nat→Nat
 | [],n=>n
 | _::_,n=>n+1
def flatL (f:PV→Bool):List PV→Bool
 | []=>true
 | c::cs=>f c && flatL f cs
def flatV:Nat→PV→Bool
 | 0,_=>false
 | d+1,v =>
  match v with
  | .bool _ | .sb _ | .int _ _ | .si _ _ | .str _ | .nilp | .nilf=>true
  | .agg cs=>flatL (flatV d) cs
  | .tup cs=>flatL (flatV d) cs
  | _=>false
def hasN:List Nat→Nat→Bool
 | [],_=>false
 | b::l,c=>bif Nat.beq b c then true else hasN l c
def ixN:List Nat→Nat→Option Nat
 | [],_=>none
 | b::l,c=>bif Nat.beq b c then some 0 else match ixN l c with | some i=>some (i+1) | none=>none
def appN:List Nat→List Nat→List Nat
 | [],m=>m
 | b::l,m=>b::appN l m
def snocN:List Nat→Nat→List Nat
 | [],c=>[c]
 | b::l,c=>b::snocN l c
def nodN:List Nat→Bool
 | []=>true
 | b::l=>bif hasN l b then false else nodN l
def ltN (n:Nat):List Nat→Bool
 | []=>true
 | b::l=>Nat.blt b n && ltN n l
def lenNs:List Nat→Nat
 | []=>0
 | _::l=>lenNs l+1
def getNs:List Nat→Nat→Option Nat
 | [],_=>none
 | b::_,0=>some b
 | _::l,n+1=>getNs l n
def upN:Nat→Nat→List Nat
 | _,0=>[]
 | i,n+1=>i::upN (i+1) n
def foldN (f:List Nat→PV→List Nat):List Nat→List PV→List Nat
 | acc,[]=>acc
 | acc,v::vs=>foldN f (f acc v) vs
def mapV (f:PV→PV):List PV→List PV
 | []=>[]
 | v::vs=>f v::mapV f vs
def namV (st:St):Nat→List Nat→PV→List Nat
 | 0,acc,_=>acc
 | d+1,acc,v=>match v with
  | .os b _ _=>bif hasN acc b then acc else snocN acc b
  | .lp b _ _=>bif hasN acc b then acc else snocN acc b
  | .bo b _ _ _ _ _=>bif hasN acc b then acc else snocN acc b
  | .np b _ _ _ _ _ _=>bif hasN acc b then acc else snocN acc b
  | .mp b=>bif hasN acc b then acc else snocN acc b
  | .lv b _=>bif hasN acc b then acc else match lkS st b with
   | some (.var _ row)=>foldN (namV st d) (snocN acc b) row
   | _=>snocN acc b
  | .agg cs=>foldN (namV st d) acc cs
  | .tup cs=>foldN (namV st d) acc cs
  | .fn _ cs=>foldN (namV st d) acc cs
  | _=>acc
def renV (f:Nat→Option Nat):Nat→PV→PV
 | 0,_=>.top
 | d+1,v=>match v with
  | .os b r n=>match f b with | some i=>.os i r n | none=>.top
  | .lp b r c=>match f b with | some i=>.lp i r c | none=>.top
  | .lv b c=>match f b with | some i=>.lv i c | none=>.top
  | .agg cs=>.agg (mapV (renV f d) cs)
  | .tup cs=>.tup (mapV (renV f d) cs)
  | .fn k cs=>.fn k (mapV (renV f d) cs)
  | .bo b r c h sz n=>match f b with | some i=>.bo i r c h sz n | none=>.top
  | .np b r c h sz j k=>match f b with | some i=>.np i r c h sz j k | none=>.top
  | .mp b=>match f b with | some i=>.mp i | none=>.top
  | v=>v
def renB (f:Nat→Option Nat):Option Blk→Option Blk
 | some (.var ro row)=>some (.var ro (mapV (renV f 8) row))
 | x=>x
def renS (f:Nat→Option Nat) (st:St):Nat→List Nat→St
 | _,[]=>[]
 | i,b::l=>(i,renB f (lkS st b))::renS f st (i+1) l
def maskL:List Nat→Nat→List PV→List PV
 | _,_,[]=>[]
 | [],i,_::l=>.top::maskL [] (i+1) l
 | k::ks,i,x::l=>bif Nat.beq k i then x::maskL ks (i+1) l else .top::maskL (k::ks) (i+1) l
def rowsN (st:St):List Nat→List Nat→List Nat
 | acc,[]=>acc
 | acc,b::l=>match lkS st b with
  | some (.var _ row)=>rowsN st (foldN (namV st 8) acc row) l
  | _=>rowsN st acc l
def seenN (m:Nat) (st:St) (vs:List PV):List Nat:=foldN (namV st 8) (rowsN st (upN 0 m) (upN 0 m)) vs
def canR (ρ:List Nat) (ts:List PV) (st:St):Env:=⟨mapV (renV (ixN ρ) 8) ts,renS (ixN ρ) st 0 ρ,lenNs ρ⟩
def canE (m:Nat) (keep:List Nat) (E:Env):Env :=
 match maskL keep 0 E.tmps with
 | ts=>canR (seenN m E.st ts) ts E.st
def callN (args:List PV) (st:St):List Nat:=foldN (namV st 8) [] args
def bakN (ρ:List Nat) (next:Nat) (i:Nat):Option Nat :=
 match getNs ρ i with
 | some b=>some b
 | none=>some (next+(i - lenNs ρ))
def bakO (f:Nat→Option Nat) (st1:St):Nat→List Nat→St→St
 | _,[],st=>st
 | i,b::l,st=>bakO f st1 (i+1) l (inS st b (renB f (lkS st1 i)))
def bakE (ρ:List Nat) (E:Env) (st1:St) (n1:Nat):Env :=
 ⟨E.tmps,bakO (bakN ρ E.next) st1 0 (appN ρ (upN E.next (n1 - lenNs ρ))) E.st,E.next+(n1 - lenNs ρ)⟩
def lkRo (st:St) (b:Nat):Option Blk :=
 match lkS st b with
 | some (.var true row)=>some (.var true row)
 | some (.arr true sz rows)=>some (.arr true sz rows)
 | _=>none
def roS (st:St):List Nat→St
 | []=>st
 | b::l=>match lkS st b with
  | some (.var _ row)=>roS (inS st b (some (.var true row))) l
  | some (.arr _ sz rows)=>roS (inS st b (some (.arr true sz rows))) l
  | _=>roS st l
def noNar:St→Bool
 | []=>true
 | (_,some (.nar _ _))::_=>false
 | _::l=>noNar l
def callE (S:Sig) (k:Nat) (args:List PV) (E:Env) (K:PV→Env→Prop):Prop :=
 match mapO (frz S (lkRo E.st) 6) args with
 | some as=>S.callp k args as (mapV (renV (ixN []) 8) as) E K
 | none=>match callN args E.st with
  | ρ=>S.call k args E (mapO (frz S (lkS E.st) 6) args) (mapO (frz S (lkRo (roS E.st ρ)) 6) args) ρ (mapV (renV (ixN ρ) 8) args) (renS (ixN ρ) E.st 0 ρ) K
def callD (S:Sig) (k:Nat) (args:List PV) (lk:Nat→Option Blk) (K:PV→Prop):Prop :=
 match mapO (frz S (fun b=>match lk b with | some (.var true row)=>some (.var true row) | some (.arr true sz rows)=>some (.arr true sz rows) | _=>none) 6) args with
 | some as=>S.callq k as K
 | none=>match mapO (frz S lk 6) args with
  | some as=>S.callf k as K
  | none=>False
def narT (T:Tab) (t:TypeId):Bool :=
 match T t with
 | { ok:=true,kind:=.slice esz _ (some z),.. }=>Nat.beq esz 1 && hasSl z
 | _=>false
def narB (T:Tab) (S:Sig) (t:TypeId) (len:Nat) (parts:Array (Nat × Operand)) (tmps:List PV) (lk:Nat→Option Blk) (id:Nat) (K:PV→Dl→Prop):Prop :=
 match T t with
 | { ok:=true,kind:=.slice esz _ (some z),.. } =>
  bif isPos esz && Nat.beq (lenL z) esz && Nat.ble (len * esz) 16777216 && noTop (evP T tmps parts.toList) && Nat.beq esz 1 then
   (match fillV (fun i=>some (i * esz,esz)) (repL len z) (evP T tmps parts.toList),len with
   | some [],0=>K (.os id 0 0) [(id,some (.nar 1 []))]
   | some [.os b r n],1=>(match lk b with
    | some (.arr false sz rows)=>bif Nat.beq b id then False else S.nu fun h=>K (.os id 0 1) [(b,none),(id,some (.nar 1 [[.ow h sz (S.sub rows r n)]]))]
    | _=>False)
   | _,_=>False)
  else False
 | _=>False
def narA (T:Tab) (S:Sig) (t u:TypeId) (b r n c:Nat) (lk:Nat→Option Blk) (id:Nat) (K:PV→Dl→Prop):Prop :=
 match T t,T u with
 | { ok:=true,kind:=.slice esz bytes (some z),.. },{ ok:=true,kind:=.slice _ _ _,.. } =>
  (match lk b,lk c with
  | some (.nar sz rows),some (.nar sz' [row]) =>
   bif isPos esz && Nat.beq (lenL z) esz && Nat.beq sz esz && Nat.beq sz' esz && (bif Nat.beq b c then false else bif Nat.beq b id then false else bif Nat.beq c id then false else true) then
    S.room (S.nadd n 1) bytes (K (.os id 0 (S.nadd n 1)) [(b,none),(c,none),(id,some (.nar sz (S.app (S.sub rows r n) [row])))])
   else False
  | _,_=>False)
 | _,_=>False
def mapUp (T:Tab) (S:Sig) (t:TypeId) (m k x:PV) (lk:Nat→Option Blk) (K:PV→Dl→Prop):Prop :=
 match T t,m,intV k with
 | { ok:=true,kind:=.map sz _,.. },.mp b,some (.i64,n)=>(match lk b with
  | some (.map rows)=>(match x with
   | .agg xs=>(match pur S lk xs with
    | some (cs,δ)=>bif memD b δ then False else bif Nat.beq (lenL cs) sz then wkC S cs fun cs=>K .undef (δ ++ [(b,some (.map (S.mset rows n cs)))]) else False
    | none=>False)
   | _=>False)
  | _=>False)
 | _,_,_=>False
def mapGet (T:Tab) (S:Sig) (t:TypeId) (m k:PV) (lk:Nat→Option Blk) (K:PV→Dl→Prop):Prop :=
 match T t,m,intV k with
 | { ok:=true,kind:=.map _ z,.. },.mp b,some (.i64,n)=>(match lk b with
  | some (.map rows)=>S.mget rows n z fun cs ok=>K (.tup [.agg cs,.sb ok]) []
  | _=>False)
 | _,_,_=>False
def mapLen (T:Tab) (S:Sig) (t:TypeId) (b:Nat) (lk:Nat→Option Blk) (K:PV→Dl→Prop):Prop :=
 match T t with
 | { ok:=true,kind:=.map _ _,.. }=>(match lk b with
  | some (.map rows)=>K (.si .i64 (S.len rows)) []
  | _=>False)
 | _=>False
def mapNew (T:Tab) (t:TypeId) (id:Nat) (K:PV→Dl→Prop):Prop :=
 match T t with
 | { ok:=true,kind:=.map _ _,.. }=>K (.mp id) [(id,some (.map []))]
 | _=>False
def opN (T:Tab) (S:Sig) (o:Op) (tmps:List PV) (lk:Nat→Option Blk) (id:Nat) (K:PV→Dl→Prop):Prop :=
 match T.nar with
 | 0=>opE T S o tmps lk id K
 | _+1=>match o with
  | .makeMap t none=>mapNew T t id K
  | .mapUpdate t m k x=>mapUp T S t (evL T tmps m) (evL T tmps k) (evL T tmps x) lk K
  | .insert t m k x=>mapUp T S t (evL T tmps m) (evL T tmps k) (evL T tmps x) lk K
  | .lookup t m k true=>mapGet T S t (evL T tmps m) (evL T tmps k) lk K
  | .call { callee:=.builtin .len,args,argTypes }=>(match evA T tmps args.toList,argTypes.toList with
   | [.mp b],[t]=>mapLen T S t b lk K
   | _,_=>opE T S (.call { callee:=.builtin .len,args,argTypes }) tmps lk id K)
  | .buildSlice t len parts=>(match narT T t with
   | true=>narB T S t len parts tmps lk id K
   | false=>opE T S (.buildSlice t len parts) tmps lk id K)
  | .call { callee:=.builtin .append,args,argTypes }=>(match evA T tmps args.toList,argTypes.toList with
   | [.os b r n,.os c 0 1],t::u::_=>(match narT T t with
    | true=>narA T S t u b r n c lk id K
    | false=>opE T S (.call { callee:=.builtin .append,args,argTypes }) tmps lk id K)
   | _,_=>opE T S (.call { callee:=.builtin .append,args,argTypes }) tmps lk id K)
  | o=>opE T S o tmps lk id K
def stepO (T:Tab) (S:Sig) (o:Oper) (E:Env) (K:Env→Prop):Prop :=
 match o.op with
 | .call { callee:=.value f,args,argTypes:=_ } =>
  match evL T E.tmps f with
  | .fn k caps=>callE S k (appL (evA T E.tmps args.toList) caps) E fun v E=>K (putE E o.dst v)
  | _=>False
 | op =>
  match op,o.dst with
  | .pick (.tmp c) a b,d=>(match getL E.tmps c with
   | .sb t=>S.br t (fun _=>K (putE (putE E (some c) (.bool true)) d (evL T E.tmps a))) (fun _=>K (putE (putE E (some c) (.bool false)) d (evL T E.tmps b)))
   | _=>opE T S (.pick (.tmp c) a b) E.tmps (lkS E.st) E.next fun v δ=>K (putE ⟨E.tmps,applyD δ E.st,nextD δ E.next⟩ d v))
  | op,d=>opN T S op E.tmps (lkS E.st) E.next fun v δ=>K (putE ⟨E.tmps,applyD δ E.st,nextD δ E.next⟩ d v)
def opsE (T:Tab) (S:Sig) (all:Array Oper):List Oper→Env→(Env→Prop)→Prop
 | [],E,K=>K E
 | o::l,E,K=>gd S all o.guard E
   (fun E=>stepO T S o E fun E=>opsE T S all l E K)
   (fun E=>opsE T S all l (putE E o.dst .undef) K)
def quietK (K:PV→Prop) (v:PV):Dl→Prop
 | []=>K v
 | _::_=>False
def isQ:Op→Bool
 | .move _ | .assign _ | .pick _ _ _ | .fieldAddr _ _ _ | .field _ _ _ | .load _ _ | .nilCheck _ | .convert _ _ _ | .indexAddr _ _ _ | .slice _ _ _ _ _
 | .index _ _ _ | .extract _ _ | .build _ _ | .makeFunc _ _ _=>true
 | .binOp _ _ _ y _=>(match nilC y with | true=>false | false=>true)
 | .unOp _ _ _=>true
 | .call { callee:=.builtin .len,.. } | .call { callee:=.builtin .min,.. } | .call { callee:=.builtin .max,.. }=>true
 | _=>false
def lkC:List (Nat × Nat)→Nat→Nat
 | [],_=>3
 | (k,c)::l,f=>match Nat.beq c 9 with
  | true=>lkC l f
  | false=>bif Nat.beq k f then c else lkC l f
def lkQ:List (Nat × Nat)→Nat→Bool
 | [],_=>false
 | (k,c)::l,d=>match Nat.beq c 9 with
  | true=>bif Nat.beq k d then true else lkQ l d
  | false=>lkQ l d
def clsF (T:Tab):Operand→Nat
 | .func f=>lkC T.dcl f
 | _=>3
def clsO (T:Tab):Op→Nat
 | .alloc _=>1
 | .box _ _=>1
 | .makeSlice _ _ _=>1
 | .store _ _ _=>2
 | .slice _ _ _ _ _=>3
 | .call { callee:=.builtin .append,.. }=>2
 | .load _ _=>3
 | .indexAddr _ _ _=>3
 | .call { callee:=.value f,.. }=>clsF T f
 | .buildSlice _ _ _=>0
 | op=>bif isQ op then 0 else 4
def qtO (T:Tab) (o:Oper):Bool :=
 match o.dst with
 | some d=>(match lkQ T.dcl d with
  | true=>isQ o.op
  | false=>false)
 | none=>false
def clsX (T:Tab) (o:Oper):Nat :=
 match qtO T o with
 | true=>0
 | false=>clsO T o.op
def opQ (T:Tab) (S:Sig) (op:Op) (tmps:List PV) (lk:Nat→Option Blk) (id:Nat) (K:PV→Prop):Prop :=
 match op with
 | .call { callee:=.value f,args,argTypes:=_ } =>
  match evL T tmps f with
  | .fn k caps=>callD S k (appL (evA T tmps args.toList) caps) lk K
  | _=>False
 | .buildSlice t len parts =>
  match T t with
  | { ok:=true,kind:=.slice esz _ (some z),.. } =>
    bif isPos esz && Nat.beq (lenL z) esz && Nat.ble (len * esz) 16777216 && noTop (evP T tmps parts.toList) then
     (match fillV (fun i=>some (i * esz,esz)) (repL len z) (evP T tmps parts.toList) with
     | some cs=>(match pur S (fun _=>none) cs with
      | some (cs,[])=>wkC S cs fun cs=>K (.sl esz (chunks esz len cs) true)
      | _=>False)
     | none=>False)
    else False
  | _=>False
 | op=>bif isQ op then opE T S op tmps lk id (quietK K) else False
def stepQ (T:Tab) (S:Sig) (o:Oper) (lk:Nat→Option Blk) (E:Env) (K:Env→Prop):Prop :=
 match o.op with
 | .pick (.tmp c) a b=>(match getL E.tmps c with
   | .sb t=>S.br t (fun _=>K (putE (putE E (some c) (.bool true)) o.dst (evL T E.tmps a))) (fun _=>K (putE (putE E (some c) (.bool false)) o.dst (evL T E.tmps b)))
   | _=>opQ T S (.pick (.tmp c) a b) E.tmps lk E.next fun v=>K (putE E o.dst v))
 | op=>opQ T S op E.tmps lk E.next fun v=>K (putE E o.dst v)
def hideD (pend:List Nat) (lk:Nat→Option Blk) (b:Nat):Option Blk:=bif hasN pend b then none else lk b
def noLk (_:Nat):Option Blk:=none
def ltD (n:Nat):Dl→Bool
 | []=>true
 | (b,_)::l=>Nat.blt b n && ltD n l
def dlO (f:Nat→Option Nat) (st1:St):Nat→List Nat→Dl
 | _,[]=>[]
 | i,b::l=>(b,renB f (lkS st1 i))::dlO f st1 (i+1) l
def allS (st:St):List Nat→Bool
 | []=>true
 | b::l=>(match lkS st b with | some _=>true | none=>false) && allS st l
def callW2 (S:Sig) (k:Nat) (args:List PV) (ρ:List Nat) (st:St) (id:Nat) (K:PV→Dl→Prop):Prop :=
 match ltN id ρ && (nodN ρ && allS st ρ) with
 | true=>S.callw k (mapV (renV (ixN ρ) 8) args) (renS (ixN ρ) st 0 ρ) ρ fun v st1 n1=>(match Nat.ble n1 (lenNs ρ+32) with
  | true=>K (renV (bakN ρ id) 8 v) (dlO (bakN ρ id) st1 0 (appN ρ (upN id (n1 - lenNs ρ))))
  | false=>False)
 | false=>False
def opW (T:Tab) (S:Sig) (op:Op) (tmps:List PV) (lk:Nat→Option Blk) (st:St) (id:Nat) (c2:Bool) (K:PV→Dl→Prop):Prop :=
 match op with
 | .call { callee:=.value f,args,argTypes:=_ } =>
  match evL T tmps f with
  | .fn k caps=>(match c2 with
   | false=>(match mapO (frz S noLk 6) (appL (evA T tmps args.toList) caps) with
    | some as=>S.callm k (mapV (renV (ixN []) 8) as) fun v x=>K (renV (bakN [] id) 8 v) [(id,renB (bakN [] id) (some x))]
    | none=>False)
   | true=>(match callN (appL (evA T tmps args.toList) caps) st with
    | ρ=>callW2 S k (appL (evA T tmps args.toList) caps) ρ st id K))
  | _=>False
 | op=>opE T S op tmps lk id K
def stepD (T:Tab) (S:Sig) (o:Oper) (pend:List Nat) (E:Env) (K:List Nat→Env→Prop):Prop :=
 match clsX T o with
 | 0=>stepQ T S o noLk E (K pend)
 | 1=>opW T S o.op E.tmps noLk E.st E.next false fun v δ=>match δ with
  | [(id,some x)]=>bif Nat.beq id E.next then K (id::pend) (putE ⟨E.tmps,inS E.st id (some x),E.next+32⟩ o.dst v) else False
  | _=>False
 | 2=>opW T S o.op E.tmps (lkS E.st) E.st E.next true fun v δ=>bif ltD (E.next+32) δ then K [] (putE ⟨E.tmps,applyD δ E.st,E.next+32⟩ o.dst v) else False
 | 3=>stepQ T S o (hideD pend (lkS E.st)) E (K pend)
 | _=>False
def pairOK (all:Array Oper) (i:Nat) (o:Oper) (lo:List Tmp) (j:Nat) (p:Oper):Bool :=
 Nat.beq i j || match p.dst with
 | none=>true
 | some d=>o.dst != some d && (!lo.contains d || o.after.any (fun e=>Region.binds .any e && Nat.beq e.on j) || p.after.any (fun e=>Region.binds .any e && Nat.beq e.on i))
def chkOne (all:Array Oper) (i:Nat) (o:Oper) (lo:List Tmp):List Oper→Nat→Bool
 | [],_=>true
 | p::ps,j=>pairOK all i o lo j p && chkOne all i o lo ps (j+1)
def chkAll (all:Array Oper):List Oper→Nat→Bool
 | [],_=>true
 | o::os,i=>o.after.all (fun e=>!Region.binds .any e || Nat.blt e.on i) && chkOne all i o (o.looksAt all) all.toList 0 && chkAll all os (i+1)
def bindsOn (o:Oper):List Nat:=(o.after.toList.filter fun e=>Region.binds .any e).map fun e=>e.on
def unionN:List Nat→List Nat→List Nat
 | [],m=>m
 | b::l,m=>bif hasN m b then unionN l m else unionN l (b::m)
def getLL:List (List Nat)→Nat→List Nat
 | [],_=>[]
 | x::_,0=>x
 | _::l,n+1=>getLL l n
def befOf (acc:List (List Nat)):List Nat→List Nat
 | []=>[]
 | j::l=>unionN (j::getLL acc j) (befOf acc l)
def befs:List Oper→List (List Nat)→List (List Nat)
 | [],acc=>acc
 | o::l,acc=>befs l (acc ++ [befOf acc (bindsOn o)])
def ndO (T:Tab) (ps:List PV) (lk:Nat→Option Blk):Op→Bool
 | .store _ x _=>(match evL T ps x with
  | .lp b _ _=>(match lk b with | some (.nar _ _)=>true | _=>false)
  | .np _ _ _ _ _ _ _=>true
  | _=>false)
 | _=>false
def lenNs0:List Oper→Nat
 | []=>0
 | _::l=>lenNs0 l+1
def allIn (l:List Nat):Nat→Bool
 | 0=>true
 | n+1=>hasN l n && allIn l n
def lastOK (all:Array Oper):Bool:=match all.toList with
 | []=>false
 | _::l=>allIn (getLL (befs all.toList []) (lenNs0 l)) (lenNs0 l)
def nilP:List Oper→Bool
 | []=>true
 | _=>false
def stepL (T:Tab) (S:Sig) (all:Array Oper) (o:Oper) (last:Bool) (pend:List Nat) (K:List Nat→Env→Prop) (KE:Env→Prop) (E:Env):Prop :=
 match ndO T E.tmps (lkS E.st) o.op with
 | true=>(match last with
  | true=>S.last all (opE T S o.op E.tmps (lkS E.st) E.next fun v δ=>bif ltD (E.next+32) δ then KE (putE ⟨E.tmps,applyD δ E.st,E.next+32⟩ o.dst v) else False)
  | false=>False)
 | false=>stepD T S o pend E K
def opsD (T:Tab) (S:Sig) (all:Array Oper):List Oper→List Nat→Env→(Env→Prop)→Prop
 | [],_,E,K=>K E
 | o::l,pend,E,K=>gd S all o.guard E
   (fun E=>stepL T S all o (nilP l) pend (fun pend E=>opsD T S all l pend E K) K E)
   (fun E=>opsD T S all l pend (putE E o.dst .undef) K)
def clash (a b:Nat):Bool :=
 (Nat.beq a 2 && (Nat.beq b 2 || Nat.beq b 3)) || (Nat.beq b 2 && (Nat.beq a 1 || Nat.beq a 3))
def wOne (T:Tab) (bef:List Nat) (c:Nat):List Oper→Nat→Bool
 | [],_=>true
 | o::l,i=>(bif clash (clsX T o) c then hasN bef i else true) && wOne T bef c l (i+1)
def wAll (T:Tab) (all:List Oper) (B:List (List Nat)):List Oper→Nat→Bool
 | [],_=>true
 | o::l,i=>wOne T (getLL B i) (clsX T o) (all.take i) 0 && wAll T all B l (i+1)
def anyW (T:Tab):List Oper→Bool
 | []=>false
 | o::l=>Nat.beq (clsX T o) 2 || anyW T l
def drawOK (T:Tab) (all:Array Oper):Bool:=chkAll all all.toList 0 && (bif anyW T all.toList then wAll T all.toList (befs all.toList []) all.toList 0 else true)
def ltS (n:Nat):St→Bool
 | []=>true
 | (b,_)::l=>Nat.blt b n && ltS n l
def rdG (T:Tab) (ps:List PV) (o:Op):List Nat :=
 match o with
 | .load _ x=>namV [] 8 [] (evL T ps x)
 | .store _ x y=>foldN (namV [] 8) [] [evL T ps x,evL T ps y]
 | .indexAddr _ x _=>namV [] 8 [] (evL T ps x)
 | .slice _ x _ _ _=>namV [] 8 [] (evL T ps x)
 | .call { callee:=.builtin _,args,argTypes:=_ }=>foldN (namV [] 8) [] (evA T ps args.toList)
 | _=>[]
def lkG (R:List Nat) (st:St) (b:Nat):Option Blk:=bif hasN R b then lkS st b else none
def keysG:Dl→List Nat
 | []=>[]
 | (b,_)::δ=>b::keysG δ
def okG (st:St) (nx:Nat):Dl→Bool
 | []=>true
 | (b,x)::δ=>(match x with | some (.nar _ _)=>false | some (.map _)=>false | _=>true) && ((Nat.beq b nx || (match lkS st b with | some _=>true | none=>false)) && okG st nx δ)
def snocT:List (List Nat × List Nat × List Nat)→(List Nat × List Nat × List Nat)→List (List Nat × List Nat × List Nat)
 | [],x=>[x]
 | y::l,x=>y::snocT l x
def stepG (T:Tab) (S:Sig) (o:Oper) (E:Env) (K:(List Nat × List Nat × List Nat)→Env→Prop):Prop :=
 match o.guard,rdG T E.tmps o.op with
 | none,R=>(match bif isQ o.op then true else (Nat.beq (clsO T o.op) 1 || Nat.beq (clsO T o.op) 2),ndO T E.tmps (lkG R E.st) o.op with
  | true,false=>opE T S o.op E.tmps (lkG R E.st) E.next fun v δ=>(match okG E.st E.next δ with
   | true=>K (R,keysG δ,keysG δ) (putE ⟨E.tmps,applyD δ E.st,E.next+1⟩ o.dst v)
   | false=>False)
  | _,_=>False)
 | some _,_=>False
def opsG (T:Tab) (S:Sig):List Oper→Env→List (List Nat × List Nat × List Nat)→(Env→List (List Nat × List Nat × List Nat)→Prop)→Prop
 | [],E,tr,K=>K E tr
 | o::l,E,tr,K=>stepG T S o E fun tc E=>opsG T S l E (snocT tr tc) K
abbrev Post:=Nat→Env→Prop
def seqQ (next:Env→Prop) (Q:Post):Post
 | 0,E=>next E
 | n+1,E=>Q (n+1) E
def blkQ (id:Nat) (Q:Post):Post
 | 0,E=>Q 0 E
 | 1,E=>Q 1 E
 | n+2,E=>bif Nat.beq n id then Q 0 E else Q (n+2) E
def firstR:Code→Option Nat
 | .region id _ _=>some id
 | .seq a _=>firstR a
 | .block _ b=>firstR b
 | .loop b=>firstR b
 | _=>none
def goesOn (cut:List Nat) (a b:Code):Bool :=
 match cut with
 | []=>true
 | _::_=>match a with
  | .region i _ _=>(bif hasN cut (2 * i) then false else true)
  | _=>match firstR b with
   | some i=>(bif hasN cut (2 * i+1) then false else true)
   | none=>true
def pwp (T:Tab) (S:Sig):Code→Post→Env→Prop
 | .skip,Q,E=>Q 0 E
 | .seq a b,Q,E=>bif goesOn T.cut a b then pwp T S a (seqQ (fun E=>pwp T S b Q E) Q) E else S.seq (fun Q=>pwp T S a Q E) (fun E=>pwp T S b Q E) Q
 | .ret,Q,E=>Q 1 E
 | .exit n,Q,E=>Q (n+2) E
 | .block id b,Q,E=>pwp T S b (blkQ id Q) E
 | .loop b,Q,E=>S.loop b Q E
 | .region i l true,Q,E=>bif hasN T.cut (1000+i) then (bif ltS E.next E.st && noNar E.st then opsG T S l.toList E [] (fun E tr=>S.ordF l tr (Q 0 E)) else False)
  else S.order l (bif ltS E.next E.st then opsD T S l l.toList [] E (Q 0) else False)
 | .region _ l false,Q,E=>opsE T S l l.toList E (Q 0)
 | .cond (.tmp c) a b,Q,E=>match getL E.tmps c with
  | .bool true=>pwp T S a Q E
  | .bool false=>pwp T S b Q E
  | .sb t=>S.br t (fun _=>pwp T S a Q (putE E (some c) (.bool true))) (fun _=>pwp T S b Q (putE E (some c) (.bool false)))
  | _=>False
 | .cond (.const (.bool true)) a _,Q,E=>pwp T S a Q E
 | .cond (.const (.bool false)) _ b,Q,E=>pwp T S b Q E
 | _,_,_=>False
def retV (T:Tab) (E:Env):ResultVar→Option PV
 | .tmp t=>some (getL E.tmps t)
 | .cell a t=>match getL E.tmps a,T t with
  | .lv b c,{ ok:=true,agg,size,.. }=>match lkS E.st b with
   | some (.var _ row) =>
    bif agg then (bif Nat.ble (c+size) (lenL row) then some (.agg (takeL size (dropL c row))) else none)
    else (bif Nat.blt c (lenL row) then some (getL row c) else none)
   | _=>none
  | _,_=>none
def retVs (T:Tab) (E:Env):List ResultVar→Option (List PV)
 | []=>some []
 | r::rs=>match retV T E r with
  | none=>none
  | some v=>match retVs T E rs with
   | none=>none
   | some vs=>some (v::vs)
def retOne:List PV→PV
 | [v]=>v
 | vs=>.tup vs
def retE (T:Tab) (S:Sig) (rs:List ResultVar) (E:Env) (R:PV→Prop):Prop :=
 match retVs T E rs with
 | some vs=>(match frz S (lkS E.st) 7 (retOne vs) with | some v=>R v | none=>False)
 | none=>False
def cvCell (S:Sig) (c:Nat × Bool) (v:PV) (st:St) (n:Nat):PV × St × Nat :=
 match c with
 | (z+1,re)=>(match v with
  | .sl _ es f=>(match f with
   | true=>(match es with
    | []=>(.os n 0 0,inS st n (some (.arr false (z+1) [])),n+1)
    | _::_=>(v,st,n))
   | false=>(v,st,n))
  | .os b r m=>(match re with
   | true=>(match lkS st b with
    | some (.arr false sz rows)=>(.os n 0 m,inS (inS st b none) n (some (.arr false sz (S.sub rows r m))),n+1)
    | _=>(v,st,n))
   | false=>(v,st,n))
  | _=>(v,st,n))
 | (0,true)=>(match callN [v] st with
  | ρ=>(match roS st ρ with
   | st'=>(match frz S (lkRo st') 6 v with
    | some v'=>(v',st',n)
    | none=>(v,st,n))))
 | _=>(v,st,n)
def cvCells (S:Sig):List (Nat × Bool)→List PV→St→Nat→List PV × St × Nat
 | z::zs,v::vs,st,n=>match cvCell S z v st n with
  | (v',st',n')=>match cvCells S zs vs st' n' with
   | (vs',st2,n2)=>(v'::vs',st2,n2)
 | _,vs,st,n=>(vs,st,n)
def cvOne (S:Sig) (zs:List (Nat × Bool)) (v:PV) (st:St) (n:Nat):PV × St × Nat :=
 match v with
 | .agg cs=>match cvCells S zs cs st n with | (cs',st',n')=>(.agg cs',st',n')
 | v=>match zs with
  | [z]=>cvCell S z v st n
  | _=>(v,st,n)
def cvOnes (S:Sig):List (List (Nat × Bool))→List PV→St→Nat→List PV × St × Nat
 | zs::own,v::vs,st,n=>match cvOne S zs v st n with
  | (v',st',n')=>match cvOnes S own vs st' n' with
   | (vs',st2,n2)=>(v'::vs',st2,n2)
 | _,vs,st,n=>(vs,st,n)
def cvRet (S:Sig) (own:List (List (Nat × Bool))) (v:PV) (st:St) (n:Nat):PV × St × Nat :=
 match v with
 | .tup vs=>match cvOnes S own vs st n with | (vs',st',n')=>(.tup vs',st',n')
 | v=>match own with
  | [zs]=>cvOne S zs v st n
  | _=>(v,st,n)
def retSE (T:Tab) (S:Sig) (rs:List ResultVar) (E:Env) (R:PV→St→Nat→Prop):Prop :=
 match retVs T E rs with
 | some vs=>(match cvRet S T.own (retOne vs) E.st E.next with
  | (v,st,_)=>(match seenN T.pas st [v] with
   | ρ=>R (renV (ixN ρ) 8 v) (renS (ixN ρ) st 0 ρ) (lenNs ρ)))
 | none=>False
def retSQ (T:Tab) (S:Sig) (rs:List ResultVar) (R:PV→St→Nat→Prop):Post
 | 0,E=>retSE T S rs E R
 | 1,E=>retSE T S rs E R
 | _+2,_=>False
def retQ (T:Tab) (S:Sig) (rs:List ResultVar) (R:PV→Prop):Post
 | 0,E=>retE T S rs E R
 | 1,E=>retE T S rs E R
 | _+2,_=>False
def undefs:Nat→List PV
 | 0=>[]
 | n+1=>.undef::undefs n
end Go.Pv
namespace Go.Pv
open Go
structure Loc where
 cb:Nat
 co:Nat
 sz:Nat
 tot:Nat
 nr:Nat
abbrev Sg:=Nat→Option Loc
def noSg:Sg:=fun _=>none
mutual
def Rep (w:World) (Y:Nat→Prop) (σ:Sg):PV→Value→Prop
 | .bool b,v=>v=.bool b
 | .sb b,v=>v=.bool b
 | .int k n,v=>v=.int k n
 | .si k n,v=>v=.int k n
 | .str s,v=>v=.string s
 | .agg cs,v=>∃ vs:List Value,v=.agg vs.toArray∧RepL w Y σ cs vs
 | .tup cs,v=>∃ vs:List Value,v=.tuple vs.toArray∧RepL w Y σ cs vs
 | .sl sz es full,v=>∃ a len cap,v=.slice a len cap∧len=es.length∧len≤cap∧(full=true→cap=len) ∧
   (es=[]∨∃ b o,a=some ⟨b,o,none⟩∧(b<w.heap.size∧¬ Y b)∧RepR w Y noSg b sz es o)
 | .os b r n,v=>(∃ l cap,σ b=some l∧v=.slice (some ⟨l.cb,l.co+r * l.sz,none⟩) n cap∧n≤cap∧l.co+r * l.sz+cap * l.sz=l.tot∧r+n≤l.nr) ∨
   (n=0∧∃ a,v=.slice a 0 0)
 | .lv b c,v=>∃ l,σ b=some l∧v=.pointer (some ⟨l.cb,l.co+c,none⟩)
 | .lp b r c,v=>∃ l,σ b=some l∧v=.pointer (some ⟨l.cb,l.co+r * l.sz+c,none⟩)
 | .pp cs,v=>∃ b o,v=.pointer (some ⟨b,o,none⟩)∧(b<w.heap.size∧¬ Y b)∧RepC w Y noSg b cs o
 | .ow h _ es,v=>(es ≠ []∧v=.slice (some ⟨h.ν,h.o,none⟩) es.length h.cap∧es.length≤h.cap)∨(es=[]∧∃ a cap,v=.slice a 0 cap)
 | .bo _ _ _ h sz n,v=>(n ≠ 0∧v=.slice (some ⟨h.ν,h.o,none⟩) n h.cap∧n≤h.cap)∨(n=0∧∃ a cap,v=.slice a 0 cap)
 | .np _ _ _ h sz j k,v=>v=.pointer (some ⟨h.ν,h.o+j * sz+k,none⟩)
 | .nilp,v=>v=.pointer none
 | .fn f cs,v=>∃ vs:List Value,v=.func (.func f) #[] vs.toArray∧RepL w Y σ cs vs
 | .nilf,v=>v=.nilFunc
 | .mp b,v=>∃ l,σ b=some l∧v=.map (some l.cb)
 | .top,_=>True
 | .undef,v=>v=Go.undef
def RepL (w:World) (Y:Nat→Prop) (σ:Sg):List PV→List Value→Prop
 | [],vs=>vs=[]
 | c::cs,vs=>∃ v vs',vs=v::vs'∧Rep w Y σ c v∧RepL w Y σ cs vs'
def RepC (w:World) (Y:Nat→Prop) (σ:Sg) (b:Nat):List PV→Nat→Prop
 | [],_=>True
 | c::cs,o=>(∃ v,w.cell? ⟨b,o,none⟩=some v∧Rep w Y σ c v)∧RepC w Y σ b cs (o+1)
def RepR (w:World) (Y:Nat→Prop) (σ:Sg) (b sz:Nat):List (List PV)→Nat→Prop
 | [],_=>True
 | r::rs,o=>(r.length=sz∧allCell r=true)∧RepC w Y σ b r o∧RepR w Y σ b sz rs (o+sz)
end
def SgLe (σ σ' : Sg):Prop:=∀ b l,σ b=some l→σ' b=some l
def Off (id:Nat) (σ σ' : Sg):Prop:=∀ b,b ≠ id→σ' b=σ b
theorem Off.refl (id:Nat) (σ:Sg):Off id σ σ:=fun _ _=>rfl
theorem SgLe.refl (σ:Sg):SgLe σ σ:=fun _ _ h=>h
theorem SgLe.trans {a b c:Sg} (h:SgLe a b) (k:SgLe b c):SgLe a c:=fun x l e=>k x l (h x l e)
theorem heap_of_cell {w:World} {b o:Nat} {v:Value} (h:w.cell? ⟨b,o,none⟩=some v):b<w.heap.size:=by
 unfold World.cell? at h
 by_cases hb:b<w.heap.size
 ·exact hb
 ·simp [Array.getElem?_eq_none (Nat.le_of_not_lt hb)] at h
theorem cell_same {w w' : World} {b:Nat} (h:w'.heap[b]?=w.heap[b]?) (o:Nat):w'.cell? ⟨b,o,none⟩=w.cell? ⟨b,o,none⟩:=by
 simp only [World.cell?,h]
structure Keep (w w' : World) (Y Y' : Nat→Prop) (σ σ' : Sg):Prop where
 heap:∀ k,k<w.heap.size→¬ Y k→w'.heap[k]?=w.heap[k]?
 excl:∀ k,k<w.heap.size→Y' k→Y k
 size:w.heap.size≤w'.heap.size
 sg:SgLe σ σ'
theorem Keep.none {w w' : World} {Y Y' : Nat→Prop} {σ σ' : Sg} (h:Keep w w' Y Y' σ σ'):Keep w w' Y Y' noSg noSg:=⟨h.heap,h.excl,h.size,SgLe.refl _⟩
mutual
theorem Rep.keep {w w' : World} {Y Y' : Nat→Prop}:∀ (p:PV) {σ σ' : Sg} (_:Keep w w' Y Y' σ σ') (v:Value),Rep w Y σ p v→Rep w' Y' σ' p v
 | .bool _,_,_,_,_,h | .sb _,_,_,_,_,h | .int _ _,_,_,_,_,h | .si _ _,_,_,_,_,h | .str _,_,_,_,_,h
 | .ow _ _ _,_,_,_,_,h | .bo _ _ _ _ _ _,_,_,_,_,h | .np _ _ _ _ _ _ _,_,_,_,_,h
 | .nilp,_,_,_,_,h | .nilf,_,_,_,_,h | .top,_,_,_,_,h | .undef,_,_,_,_,h=>by unfold Rep at h ⊢; exact h
 | .agg cs,_,_,K,v,h=>by
  unfold Rep at h ⊢; obtain ⟨vs,e,h⟩:=h; exact ⟨vs,e,RepL.keep cs K vs h⟩
 | .tup cs,_,_,K,v,h=>by
  unfold Rep at h ⊢; obtain ⟨vs,e,h⟩:=h; exact ⟨vs,e,RepL.keep cs K vs h⟩
 | .fn f cs,_,_,K,v,h=>by
  unfold Rep at h ⊢; obtain ⟨vs,e,h⟩:=h; exact ⟨vs,e,RepL.keep cs K vs h⟩
 | .sl sz es full,_,_,K,v,h=>by
  unfold Rep at h ⊢
  obtain ⟨a,len,cap,e,hl,hc,hf,h⟩:=h
  refine ⟨a,len,cap,e,hl,hc,hf,?_⟩
  rcases h with h | ⟨b,o,ha,⟨hs,hb⟩,h⟩
  ·exact .inl h
  ·exact .inr ⟨b,o,ha,⟨Nat.lt_of_lt_of_le hs K.size,fun hy=>hb (K.excl b hs hy)⟩,RepR.keep es K.none (fun hk=>K.heap b hk hb) o h⟩
 | .os b r n,_,_,K,v,h=>by
  unfold Rep at h ⊢
  rcases h with ⟨l,cap,hs,e,h⟩ | h
  ·exact .inl ⟨l,cap,K.sg _ _ hs,e,h⟩
  ·exact .inr h
 | .lv b c,_,_,K,v,h=>by
  unfold Rep at h ⊢; obtain ⟨l,hs,e⟩:=h; exact ⟨l,K.sg _ _ hs,e⟩
 | .mp b,_,_,K,v,h=>by
  unfold Rep at h ⊢; obtain ⟨l,hs,e⟩:=h; exact ⟨l,K.sg _ _ hs,e⟩
 | .lp b r c,_,_,K,v,h=>by
  unfold Rep at h ⊢; obtain ⟨l,hs,e⟩:=h; exact ⟨l,K.sg _ _ hs,e⟩
 | .pp cs,_,_,K,v,h=>by
  unfold Rep at h ⊢
  obtain ⟨b,o,e,⟨hs,hb⟩,h⟩:=h
  exact ⟨b,o,e,⟨Nat.lt_of_lt_of_le hs K.size,fun hy=>hb (K.excl b hs hy)⟩,RepC.keep cs K.none (fun hk=>K.heap b hk hb) o h⟩
theorem RepL.keep {w w' : World} {Y Y' : Nat→Prop}:∀ (ps:List PV) {σ σ' : Sg} (_:Keep w w' Y Y' σ σ') (vs:List Value),RepL w Y σ ps vs→RepL w' Y' σ' ps vs
 | [],_,_,_,_,h=>by unfold RepL at h ⊢; exact h
 | p::ps,_,_,K,vs,h=>by
  unfold RepL at h ⊢
  obtain ⟨v,vs',e,h1,h2⟩:=h
  exact ⟨v,vs',e,Rep.keep p K v h1,RepL.keep ps K vs' h2⟩
theorem RepC.keep {w w' : World} {Y Y' : Nat→Prop} {b:Nat}:∀ (ps:List PV) {σ σ' : Sg} (_:Keep w w' Y Y' σ σ') (_:b<w.heap.size→w'.heap[b]?=w.heap[b]?) (o:Nat),RepC w Y σ b ps o→RepC w' Y' σ' b ps o
 | [],_,_,_,_,_,_=>by unfold RepC; trivial
 | p::ps,_,_,K,hb,o,h=>by
  unfold RepC at h ⊢
  obtain ⟨⟨v,hc,h1⟩,h2⟩:=h
  exact ⟨⟨v,by rw [cell_same (hb (heap_of_cell hc))]; exact hc,Rep.keep p K v h1⟩,RepC.keep ps K hb (o+1) h2⟩
theorem RepR.keep {w w' : World} {Y Y' : Nat→Prop} {b sz:Nat}:∀ (rs:List (List PV)) {σ σ' : Sg} (_:Keep w w' Y Y' σ σ') (_:b<w.heap.size→w'.heap[b]?=w.heap[b]?) (o:Nat),RepR w Y σ b sz rs o→RepR w' Y' σ' b sz rs o
 | [],_,_,_,_,_,_=>by unfold RepR; trivial
 | r::rs,_,_,K,hb,o,h=>by
  unfold RepR at h ⊢
  exact ⟨h.1,RepC.keep r K hb o h.2.1,RepR.keep rs K hb (o+sz) h.2.2⟩
end
def Blk.ro:Blk→Bool
 | .var ro _=>ro
 | .arr ro _ _=>ro
 | .nar _ _=>false
 | .map _=>false
structure At (w:World) (l:Loc):Prop where
 blk:∃ arr ty,w.heap[l.cb]?=some (.cells arr ty (0,0))∧arr.size=l.tot
def MapRep (w:World) (Y:Nat→Prop):List MapEntry→List (List PV)→Prop
 | [],rows=>rows=[]
 | e::es,rows=>∃ n cs rows',rows=(.si .i64 n::cs)::rows'∧e.key=.int .i64 n∧(∃ vs:List Value,e.val=.agg vs.toArray∧RepL w Y noSg cs vs)∧MapRep w Y es rows'
theorem MapRep.keep {w w' : World} {Y Y' : Nat→Prop} (K:Keep w w' Y Y' noSg noSg):∀ (es:List MapEntry) (rows:List (List PV)),MapRep w Y es rows→MapRep w' Y' es rows
 | [],_,h=>h
 | _::es,_,⟨n,cs,rows',h1,h2,⟨vs,h3,h4⟩,h5⟩=>⟨n,cs,rows',h1,h2,⟨vs,h3,RepL.keep cs K vs h4⟩,MapRep.keep K es rows' h5⟩
def BlkRep (w:World) (Y:Nat→Prop) (σ:Sg) (l:Loc):Blk→Prop
 | .var ro row=>At w l∧l.sz=row.length∧l.co+row.length≤l.tot∧RepC w Y σ l.cb row l.co∧(ro=false→Y l.cb)∧(ro=true→¬ Y l.cb)
 | .arr ro sz rows=>At w l∧l.sz=sz∧0<sz∧(l.co+rows.length * sz≤l.tot∧rows.length=l.nr)∧RepR w Y noSg l.cb sz rows l.co∧(ro=false→Y l.cb)∧(ro=true→¬ Y l.cb)
 | .map rows=>(∃ es ck,w.heap[l.cb]?=some (.map es ck)∧MapRep w Y es.toList rows)∧Y l.cb
 | .nar sz rows=>At w l∧l.sz=sz∧0<sz∧(l.co+rows.length * sz≤l.tot∧rows.length=l.nr)∧RepR w Y noSg l.cb sz rows l.co∧Y l.cb
structure StRep (w:World) (Y:Nat→Prop) (σ:Sg) (st:St):Prop where
 blk:∀ b x,lkS st b=some x→(∃ l,σ b=some l∧BlkRep w Y σ l x)∨(σ b=none∧∃ ro sz,x=.arr ro sz [])
 inj:∀ b b' x x' l l',lkS st b=some x→lkS st b'=some x'→σ b=some l→σ b'=some l'→l.cb=l'.cb→b=b'
def OwAt (st:St) (b r c:Nat) (h:Hdr) (sz:Nat) (es:List (List PV)):Prop:=∃ sz0 rows row,lkS st b=some (.nar sz0 rows)∧rows[r]?=some row∧row[c]?=some (.ow h sz es)∧es ≠ []
theorem OwAt.same {st st' : St} {b r c:Nat} {h:Hdr} {sz:Nat} {es:List (List PV)} (e:lkS st' b=lkS st b) (k:OwAt st' b r c h sz es):OwAt st b r c h sz es:=by
 obtain ⟨sz0,rows,row,h1,h2⟩:=k
 exact ⟨sz0,rows,row,by rw [← e]; exact h1,h2⟩
theorem OwAt.sub {st st' : St} {b r c:Nat} {h:Hdr} {sz:Nat} {es:List (List PV)} (e:∀ x,lkS st' b=some x→lkS st b=some x) (k:OwAt st' b r c h sz es):OwAt st b r c h sz es:=by
 obtain ⟨sz0,rows,row,h1,h2⟩:=k
 exact ⟨sz0,rows,row,e _ h1,h2⟩
structure NRep (w:World) (Y:Nat→Prop) (h:Hdr) (sz:Nat) (es:List (List PV)):Prop where
 own:Y h.ν
 pos:0<sz
 blk:∃ arr ty,w.heap[h.ν]?=some (.cells arr ty (0,0))∧arr.size=h.o+h.cap * sz
 len:es.length≤h.cap
 rows:RepR w Y noSg h.ν sz es h.o
structure Ctx (T:Tab) where
 w0:World
 Y0:Nat→Prop
 L:Nat→Prop
 M:Nat→Prop
 base:Sg
structure ChgM (M:Nat→Prop) (w0 w:World):Prop where
 os:w.os=w0.os
 tape:w.tape=w0.tape
 output:w.output=w0.output
 size:w0.heap.size≤w.heap.size
 block:∀ k,k<w0.heap.size→¬ M k→w.heap[k]?=w0.heap[k]?
structure Chg (w0 w:World):Prop where
 os:w.os=w0.os
 tape:w.tape=w0.tape
 output:w.output=w0.output
 size:w0.heap.size≤w.heap.size
 block:∀ k,k<w0.heap.size→w.heap[k]?=w0.heap[k]?
theorem Chg.refl (w:World):Chg w w:=⟨rfl,rfl,rfl,Nat.le_refl _,fun _ _=>rfl⟩
theorem ChgM.refl (M:Nat→Prop) (w:World):ChgM M w w:=⟨rfl,rfl,rfl,Nat.le_refl _,fun _ _ _=>rfl⟩
theorem ChgM.chg {M:Nat→Prop} {a b:World} (h:ChgM M a b) (hM:∀ k,¬ M k):Chg a b:=⟨h.os,h.tape,h.output,h.size,fun k hk=>h.block k hk (hM k)⟩
theorem ChgM.trans {M:Nat→Prop} {a b c:World} (h:ChgM M a b) (k:ChgM M b c):ChgM M a c :=
 ⟨by rw [k.os,h.os],by rw [k.tape,h.tape],by rw [k.output,h.output],Nat.le_trans h.size k.size,fun i hi hm=>by rw [k.block i (Nat.lt_of_lt_of_le hi h.size) hm,h.block i hi hm]⟩
def Glob (G:Nat→Option (List PV)) (w:World) (Y:Nat→Prop):Prop:=∀ g cs,G g=some cs→Rep w Y noSg (.pp cs) (.pointer (some ⟨g,0,none⟩))
theorem Glob.keep {G:Nat→Option (List PV)} {w w' : World} {Y Y' : Nat→Prop} (h:Glob G w Y) (K:Keep w w' Y Y' noSg noSg):Glob G w' Y':=fun g cs hg=>Rep.keep _ K _ (h g cs hg)
theorem Chg.below {a b:World} (h:Chg a b):RowKit.Below a.heap.size a b:=⟨h.os,h.tape,h.output,h.size,h.block⟩
structure Nest (w0:World) (L:Nat→Prop) (w:World) (Y:Nat→Prop) (σ:Sg) (st:St):Prop where
 rep:∀ b r c h sz es,OwAt st b r c h sz es→NRep w Y h sz es
 old:∀ b r c h sz es,OwAt st b r c h sz es→w0.heap.size≤h.ν∨L h.ν
 one:∀ b r c h sz es b' r' c' h' sz' es',OwAt st b r c h sz es→OwAt st b' r' c' h' sz' es'→h.ν=h'.ν→b=b'∧r=r'∧c=c'
 sep:∀ b r c h sz es b' x l,OwAt st b r c h sz es→lkS st b'=some x→σ b'=some l→l.cb ≠ h.ν
theorem NRep.lt {w:World} {Y:Nat→Prop} {h:Hdr} {sz:Nat} {es:List (List PV)} (H:NRep w Y h sz es):h.ν<w.heap.size:=by
 obtain ⟨arr,ty,h1,_⟩:=H.blk
 by_cases hb:h.ν<w.heap.size
 ·exact hb
 ·simp [Array.getElem?_eq_none (Nat.le_of_not_lt hb)] at h1
theorem NRep.keep {w w' : World} {Y Y' : Nat→Prop} {h:Hdr} {sz:Nat} {es:List (List PV)} (H:NRep w Y h sz es) (K:Keep w w' Y Y' noSg noSg) (hb:w'.heap[h.ν]?=w.heap[h.ν]?) (hY:Y h.ν→Y' h.ν):NRep w' Y' h sz es :=
 ⟨hY H.own,H.pos,by rw [hb]; exact H.blk,H.len,RepR.keep es K (fun _=>hb) _ H.rows⟩
theorem Nest.none {w0 w:World} {L Y:Nat→Prop} {σ:Sg} {st:St} (h:∀ b sz rows,lkS st b ≠ some (.nar sz rows)):Nest w0 L w Y σ st:=by
 have no:∀ {b r c h sz es},OwAt st b r c h sz es→False:=fun ⟨_,_,_,h1,_⟩=>h _ _ _ h1
 exact ⟨fun _ _ _ _ _ _ k=>(no k).elim,fun _ _ _ _ _ _ k=>(no k).elim,fun _ _ _ _ _ _ _ _ _ _ _ _ k=>(no k).elim,fun _ _ _ _ _ _ _ _ _ k=>(no k).elim⟩
theorem Nest.keep {w0 w w' : World} {L Y Y' : Nat→Prop} {σ σ' : Sg} {st st' : St} (H:Nest w0 L w Y σ st) (K:Keep w w' Y Y' noSg noSg)
  (hsub:∀ b r c h sz es,OwAt st' b r c h sz es→OwAt st b r c h sz es)
  (hheap:∀ b r c h sz es,OwAt st' b r c h sz es→w'.heap[h.ν]?=w.heap[h.ν]?)
  (hY:∀ b r c h sz es,OwAt st' b r c h sz es→Y' h.ν)
  (hsep:∀ b r c h sz es b' x l,OwAt st' b r c h sz es→lkS st' b'=some x→σ' b'=some l→l.cb ≠ h.ν):Nest w0 L w' Y' σ' st' :=
 ⟨fun b r c h sz es k=>(H.rep _ _ _ _ _ _ (hsub _ _ _ _ _ _ k)).keep K (hheap _ _ _ _ _ _ k) (fun _=>hY _ _ _ _ _ _ k),
   fun b r c h sz es k=>H.old _ _ _ _ _ _ (hsub _ _ _ _ _ _ k),
   fun b r c h sz es b' r' c' h' sz' es' k k' e=>H.one _ _ _ _ _ _ _ _ _ _ _ _ (hsub _ _ _ _ _ _ k) (hsub _ _ _ _ _ _ k') e,hsep⟩
theorem Nest.sub {w0 w:World} {L Y:Nat→Prop} {σ:Sg} {st st' : St} (H:Nest w0 L w Y σ st) (h:∀ b x,lkS st' b=some x→lkS st b=some x):Nest w0 L w Y σ st' :=
 H.keep ⟨fun _ _ _=>rfl,fun _ _ h=>h,Nat.le_refl _,SgLe.refl _⟩ (fun b _ _ _ _ _ k=>k.sub (h b)) (fun _ _ _ _ _ _ _=>rfl) (fun b r c h' sz es k=>(H.rep _ _ _ _ _ _ (k.sub (h b))).own)
  (fun b r c h' sz es b' x l k hx hl=>H.sep _ _ _ _ _ _ _ _ _ (k.sub (h b)) (h b' x hx) hl)
theorem Nest.heap {w0 w w' : World} {L Y:Nat→Prop} {σ:Sg} {st:St} (H:Nest w0 L w Y σ st) (hs:w.heap.size≤w'.heap.size) (hh:∀ k,k<w.heap.size→w'.heap[k]?=w.heap[k]?):Nest w0 L w' Y σ st :=
 H.keep ⟨fun k hk _=>hh k hk,fun _ _ h=>h,hs,SgLe.refl _⟩ (fun _ _ _ _ _ _ k=>k) (fun _ _ _ _ _ _ k=>hh _ (H.rep _ _ _ _ _ _ k).lt) (fun _ _ _ _ _ _ k=>(H.rep _ _ _ _ _ _ k).own) H.sep
structure SW {T:Tab} (C:Ctx T) (w:World) (Y:Nat→Prop) (σ:Sg) (ps:List PV) (vs:List Value) (st:St) (n:Nat):Prop where
 vals:RepL w Y σ ps vs
 store:StRep w Y σ st
 next:∀ b,n≤b→σ b=none
 yold:∀ k,Y k→k<w.heap.size
 y0:∀ k,C.Y0 k→Y k
 c0:∀ k,C.Y0 k→k<C.w0.heap.size∧¬ C.L k
 yshr:∀ k,Y k→k<C.w0.heap.size→C.Y0 k∨C.M k
 chg:ChgM C.M C.w0 w
 own:∀ b x l,lkS st b=some x→σ b=some l→C.w0.heap.size≤l.cb∨C.L l.cb
 glob:Glob T.gl w Y
 fix:T.pas≤n∧∀ b,b<T.pas→σ b=C.base b
 nest:Nest C.w0 C.L w Y σ st
theorem SW.away {T:Tab} {C:Ctx T} {w:World} {Y:Nat→Prop} {σ:Sg} {ps:List PV} {vs:List Value} {st:St} {n:Nat} (H:SW C w Y σ ps vs st n) {b:Nat} {x:Blk} {l:Loc} (hx:lkS st b=some x) (hl:σ b=some l):¬ C.Y0 l.cb:=fun h=>by
 have h1:=H.c0 _ h
 rcases H.own b x l hx hl with h2 | h2
 ·omega
 ·exact h1.2 h2
theorem SW.mono {T:Tab} {C:Ctx T} {w:World} {Y:Nat→Prop} {σ:Sg} {ps:List PV} {vs:List Value} {st:St} {n n' : Nat} (H:SW C w Y σ ps vs st n) (h:n≤n'):SW C w Y σ ps vs st n' :=
 ⟨H.vals,H.store,fun b hb=>H.next b (Nat.le_trans h hb),H.yold,H.y0,H.c0,H.yshr,H.chg,H.own,H.glob,⟨Nat.le_trans H.fix.1 h,H.fix.2⟩,H.nest⟩
theorem SW.vals' {T:Tab} {C:Ctx T} {w:World} {Y:Nat→Prop} {σ:Sg} {ps ps' : List PV} {vs vs' : List Value} {st:St} {n:Nat} (H:SW C w Y σ ps vs st n) (h:RepL w Y σ ps' vs'):SW C w Y σ ps' vs' st n :=
 ⟨h,H.store,H.next,H.yold,H.y0,H.c0,H.yshr,H.chg,H.own,H.glob,H.fix,H.nest⟩
def EnvRep {T:Tab} (C:Ctx T) (E:Env) (vs:List Value) (w:World):Prop:=∃ Y σ,SW C w Y σ E.tmps vs E.st E.next
theorem RepL.get {w:World} {Y:Nat→Prop} {σ:Sg}:∀ (ps:List PV) (vs:List Value) (t:Nat),RepL w Y σ ps vs→Rep w Y σ (getL ps t) (vs.getD t Go.undef)
 | [],vs,t,h=>by unfold RepL at h; subst h; simp [getL,Rep]
 | p::ps,vs,0,h=>by unfold RepL at h; obtain ⟨v,vs',rfl,h1,_⟩:=h; simpa [getL] using h1
 | p::ps,vs,t+1,h=>by
  unfold RepL at h; obtain ⟨v,vs',rfl,_,h2⟩:=h
  simpa [getL] using RepL.get ps vs' t h2
theorem RepL.length {w:World} {Y:Nat→Prop} {σ:Sg}:∀ (ps:List PV) (vs:List Value),RepL w Y σ ps vs→vs.length=ps.length
 | [],vs,h=>by unfold RepL at h; subst h; rfl
 | p::ps,vs,h=>by unfold RepL at h; obtain ⟨v,vs',rfl,_,h2⟩:=h; simp [RepL.length ps vs' h2]
theorem RepL.set {w:World} {Y:Nat→Prop} {σ:Sg} {p:PV} {v:Value} (hp:Rep w Y σ p v):∀ (ps:List PV) (vs:List Value) (t:Nat),RepL w Y σ ps vs→RepL w Y σ (setL ps t p) (vs.set t v)
 | [],vs,t,h=>by unfold RepL at h; subst h; simp [setL,RepL]
 | q::ps,vs,0,h=>by
  unfold RepL at h; obtain ⟨u,vs',rfl,_,h2⟩:=h
  simp only [setL,List.set_cons_zero]; unfold RepL; exact ⟨v,vs',rfl,hp,h2⟩
 | q::ps,vs,t+1,h=>by
  unfold RepL at h; obtain ⟨u,vs',rfl,h1,h2⟩:=h
  simp only [setL,List.set_cons_succ]; unfold RepL; exact ⟨u,_,rfl,h1,RepL.set hp ps vs' t h2⟩
theorem RepL.app {w:World} {Y:Nat→Prop} {σ:Sg}:∀ (ps qs:List PV) (vs us:List Value),RepL w Y σ ps vs→RepL w Y σ qs us→RepL w Y σ (appL ps qs) (vs ++ us)
 | [],qs,vs,us,h,k=>by unfold RepL at h; subst h; simpa [appL] using k
 | p::ps,qs,vs,us,h,k=>by
  unfold RepL at h; obtain ⟨v,vs',rfl,h1,h2⟩:=h
  simp only [appL,List.cons_append]; unfold RepL; exact ⟨v,_,rfl,h1,RepL.app ps qs vs' us h2 k⟩
@[simp] theorem lenL_eq:∀ l,lenL l=l.length
 | []=>rfl
 | _::l=>by simp [lenL,lenL_eq l]
@[simp] theorem takeL_eq:∀ n l,takeL n l=l.take n
 | 0,l=>by simp [takeL]
 | n+1,[]=>by simp [takeL]
 | n+1,x::l=>by simp [takeL,takeL_eq n l]
@[simp] theorem dropL_eq:∀ n l,dropL n l=l.drop n
 | 0,l=>by simp [dropL]
 | n+1,[]=>by simp [dropL]
 | n+1,x::l=>by simp [dropL,dropL_eq n l]
@[simp] theorem appL_eq:∀ l m,appL l m=l ++ m
 | [],m=>by simp [appL]
 | x::l,m=>by simp [appL,appL_eq l m]
theorem setL_eq:∀ l n v,setL l n v=l.set n v
 | [],n,v=>by simp [setL]
 | x::l,0,v=>by simp [setL]
 | x::l,n+1,v=>by simp [setL,setL_eq l n v]
theorem getL_eq:∀ l n,getL l n=l.getD n .undef
 | [],n=>by simp [getL]
 | x::l,0=>by simp [getL]
 | x::l,n+1=>by simpa [getL] using getL_eq l n
theorem RepC.get {w:World} {Y:Nat→Prop} {σ:Sg} {b:Nat}:∀ (ps:List PV) (o i:Nat),RepC w Y σ b ps o→i<ps.length→∃ v,w.cell? ⟨b,o+i,none⟩=some v∧Rep w Y σ (getL ps i) v
 | [],_,_,_,h=>by simp at h
 | p::ps,o,0,h,_=>by unfold RepC at h; simpa [getL] using h.1
 | p::ps,o,i+1,h,hi=>by
  unfold RepC at h
  have:=RepC.get ps (o+1) i h.2 (by simpa using hi)
  rw [show o+(i+1)=o+1+i by omega]; simpa [getL] using this
theorem RepC.drop {w:World} {Y:Nat→Prop} {σ:Sg} {b:Nat}:∀ (n:Nat) (ps:List PV) (o:Nat),RepC w Y σ b ps o→RepC w Y σ b (ps.drop n) (o+n)
 | 0,ps,o,h=>by simpa using h
 | n+1,[],o,h=>by simp [RepC]
 | n+1,p::ps,o,h=>by
  unfold RepC at h
  have:=RepC.drop n ps (o+1) h.2
  rw [show o+(n+1)=o+1+n by omega]; simpa using this
theorem RepC.take {w:World} {Y:Nat→Prop} {σ:Sg} {b:Nat}:∀ (n:Nat) (ps:List PV) (o:Nat),RepC w Y σ b ps o→RepC w Y σ b (ps.take n) o
 | 0,ps,o,h=>by simp [RepC]
 | n+1,[],o,h=>by simp [RepC]
 | n+1,p::ps,o,h=>by
  unfold RepC at h
  simp only [List.take_succ_cons]; unfold RepC; exact ⟨h.1,RepC.take n ps (o+1) h.2⟩
theorem RepC.vals {w:World} {Y:Nat→Prop} {σ:Sg} {b:Nat}:∀ (ps:List PV) (o:Nat),RepC w Y σ b ps o →
  ∃ vs:List Value,RepL w Y σ ps vs∧∀ i v,vs[i]?=some v→w.cell? ⟨b,o+i,none⟩=some v
 | [],o,_=>⟨[],by unfold RepL; rfl,by simp⟩
 | p::ps,o,h=>by
  unfold RepC at h
  obtain ⟨⟨v,hc,h1⟩,h2⟩:=h
  obtain ⟨vs,hr,hv⟩:=RepC.vals ps (o+1) h2
  refine ⟨v::vs,by unfold RepL; exact ⟨v,vs,rfl,h1,hr⟩,fun i u hu=>?_⟩
  cases i with
  | zero=>simp at hu; subst hu; simpa using hc
  | succ i=>rw [show o+(i+1)=o+1+i by omega]; exact hv i u (by simpa using hu)
theorem RepC.of_vals {w:World} {Y:Nat→Prop} {σ:Sg} {b:Nat}:∀ (ps:List PV) (vs:List Value) (o:Nat),RepL w Y σ ps vs→(∀ i v,vs[i]?=some v→w.cell? ⟨b,o+i,none⟩=some v)→RepC w Y σ b ps o
 | [],vs,o,_,_=>by unfold RepC; trivial
 | p::ps,vs,o,h,hc=>by
  unfold RepL at h; obtain ⟨v,vs',rfl,h1,h2⟩:=h
  unfold RepC
  refine ⟨⟨v,by simpa using hc 0 v rfl,h1⟩,RepC.of_vals ps vs' (o+1) h2 fun i u hu=>?_⟩
  rw [show o+1+i=o+(i+1) by omega]; exact hc (i+1) u (by simpa using hu)
theorem RepR.row {w:World} {Y:Nat→Prop} {σ:Sg} {b sz:Nat}:∀ (rs:List (List PV)) (o i:Nat) (row:List PV),RepR w Y σ b sz rs o→rs[i]?=some row→(row.length=sz∧allCell row=true)∧RepC w Y σ b row (o+i * sz)
 | [],_,_,_,_,h=>by simp at h
 | r::rs,o,0,row,h,hi=>by unfold RepR at h; simp at hi; subst hi; exact ⟨h.1,by simpa using h.2.1⟩
 | r::rs,o,i+1,row,h,hi=>by
  unfold RepR at h
  have:=RepR.row rs (o+sz) i row h.2.2 (by simpa using hi)
  refine ⟨this.1,?_⟩
  rw [show o+(i+1) * sz=o+sz+i * sz by rw [Nat.add_mul]; omega]; exact this.2
theorem RepR.drop {w:World} {Y:Nat→Prop} {σ:Sg} {b sz:Nat}:∀ (n:Nat) (rs:List (List PV)) (o:Nat),RepR w Y σ b sz rs o→RepR w Y σ b sz (rs.drop n) (o+n * sz)
 | 0,rs,o,h=>by simpa using h
 | n+1,[],o,h=>by simp [RepR]
 | n+1,r::rs,o,h=>by
  unfold RepR at h
  have:=RepR.drop n rs (o+sz) h.2.2
  rw [show o+(n+1) * sz=o+sz+n * sz by rw [Nat.add_mul]; omega]; simpa using this
theorem RepR.take {w:World} {Y:Nat→Prop} {σ:Sg} {b sz:Nat}:∀ (n:Nat) (rs:List (List PV)) (o:Nat),RepR w Y σ b sz rs o→RepR w Y σ b sz (rs.take n) o
 | 0,rs,o,h=>by simp [RepR]
 | n+1,[],o,h=>by simp [RepR]
 | n+1,r::rs,o,h=>by
  unfold RepR at h
  simp only [List.take_succ_cons]; unfold RepR; exact ⟨h.1,h.2.1,RepR.take n rs (o+sz) h.2.2⟩
theorem RepR.app {w:World} {Y:Nat→Prop} {σ:Sg} {b sz:Nat}:∀ (rs qs:List (List PV)) (o:Nat),RepR w Y σ b sz rs o→RepR w Y σ b sz qs (o+rs.length * sz)→RepR w Y σ b sz (rs ++ qs) o
 | [],qs,o,_,k=>by simpa using k
 | r::rs,qs,o,h,k=>by
  unfold RepR at h
  simp only [List.cons_append]; unfold RepR
  refine ⟨h.1,h.2.1,RepR.app rs qs (o+sz) h.2.2 ?_⟩
  rw [show o+sz+rs.length * sz=o+(r::rs).length * sz by simp [Nat.add_mul]; omega]; exact k
end Go.Pv
