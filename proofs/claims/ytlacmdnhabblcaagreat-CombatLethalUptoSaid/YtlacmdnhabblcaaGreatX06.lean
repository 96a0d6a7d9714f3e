import Derived.OpenShut
import Derived.DataReads
import Derived.Carry
import Derived.Handed
import Derived.JoinedCond
import Derived.Test.YtlacmdnhabblcaaGreatX01
import Derived.Test.YtlacmdnhabblcaaGreatX05
set_option linter.all false
namespace Go.Pv
open Go
mutual
inductive Shp (P:Program):TypeId→List PV→Prop
 | int {t:TypeId} {k:IntKind} {n:Int}:P.underlying t=some (.int k)→(Lit.int k n).wf=true→Shp P t [.si k n]
 | bool {t:TypeId} {b:Bool}:P.underlying t=some .bool→Shp P t [.sb b]
 | str {t:TypeId} {s:ByteArray}:P.underlying t=some .string→s.size≤maxLen→Shp P t [.str s]
 | nilp {t e:TypeId}:P.underlying t=some (.pointer e)→Shp P t [.nilp]
 | pp {t e:TypeId} {cs:List PV}:P.underlying t=some (.pointer e)→Shp P e cs→Shp P t [.pp cs]
 | sl {t e:TypeId} {es:List (List PV)}:P.underlying t=some (.slice e)→(∀ r∈es,Shp P e r)→es.length≤maxLen→Shp P t [.sl (P.cellsOf e) es false]
 | struct {t:TypeId} {fs:Array Field} {cs:List PV}:P.underlying t=some (.struct fs)→ShpL P (fs.toList.map (·.type)) cs→Shp P t cs
 | arr {t e:TypeId} {n:Nat} {cs:List PV}:P.underlying t=some (.array n e)→ShpL P (List.replicate n e) cs→Shp P t cs
inductive ShpL (P:Program):List TypeId→List PV→Prop
 | nil:ShpL P [] []
 | cons {t:TypeId} {ts:List TypeId} {a b:List PV}:Shp P t a→ShpL P ts b→ShpL P (t::ts) (a ++ b)
end
def contig (P:Program) (ts:List TypeId):List Field→Nat→Option Nat
 | [],n=>some n
 | f::fs,n=>bif Nat.beq f.offset n && ts.contains f.type then contig P ts fs (n+P.cellsOf f.type) else none
def lay1 (P:Program) (ts:List TypeId) (t:TypeId):Bool :=
 match P.underlying t with
 | some .bool | some (.int _) | some .string=>Nat.beq (P.cellsOf t) 1
 | some (.pointer e)=>Nat.beq (P.cellsOf t) 1 && Nat.blt 0 (P.cellsOf e) && ts.contains e
 | some (.slice e)=>Nat.beq (P.cellsOf t) 1 && Nat.blt 0 (P.cellsOf e) && ts.contains e
 | some (.struct fs)=>match contig P ts fs.toList 0 with | some n=>Nat.beq n (P.cellsOf t) | none=>false
 | some (.array n e)=>Nat.beq (P.cellsOf t) (n * P.cellsOf e) && ts.contains e
 | _=>false
def layAll (P:Program) (ts:List TypeId):List TypeId→Bool
 | []=>true
 | t::l=>lay1 P ts t && layAll P ts l
theorem layAll_spec {P:Program} {ts:List TypeId}:∀ (l:List TypeId),layAll P ts l=true→∀ t∈l,lay1 P ts t=true
 | [],_,t,h=>by simp at h
 | u::l,h,t,ht=>by
  simp only [layAll,Bool.and_eq_true] at h
  rcases List.mem_cons.1 ht with rfl | ht
  ·exact h.1
  ·exact layAll_spec l h.2 t ht
section
variable {H:Type} {enc:TypeId × Value→H} {P:Program} {w:World} {base:Nat} {sp:Nat→Bool} {held:Bool}
def NoY:Nat→Prop:=fun _=>False
theorem allCell_app:∀ (a b:List PV),allCell a=true→allCell b=true→allCell (a ++ b)=true
 | [],b,_,h=>by simpa using h
 | x::a,b,h,k=>by
  simp only [allCell,Bool.and_eq_true,List.cons_append] at h ⊢
  exact ⟨h.1,allCell_app a b h.2 k⟩
mutual
theorem Shp.cells {t:TypeId} {cs:List PV}:Shp P t cs→allCell cs=true
 | .int _ _=>rfl
 | .bool _=>rfl
 | .str _ _=>rfl
 | .nilp _=>rfl
 | .pp _ _=>rfl
 | .sl _ _ _=>rfl
 | .struct _ h=>ShpL.cells h
 | .arr _ h=>ShpL.cells h
theorem ShpL.cells {ts:List TypeId} {cs:List PV}:ShpL P ts cs→allCell cs=true
 | .nil=>rfl
 | .cons h k=>allCell_app _ _ (Shp.cells h) (ShpL.cells k)
end
theorem RepL.append {Y:Nat→Prop} {σ:Sg} {a b:List PV} {vs us:List Value} (h:RepL w Y σ a vs) (k:RepL w Y σ b us):RepL w Y σ (a ++ b) (vs ++ us):=by
 have:=RepL.app a b vs us h k
 rwa [appL_eq] at this
theorem spot_of_cell {a:Addr} {v:Value} (h:w.cell? a=some v):a.spot=none:=by
 unfold World.cell? at h
 split at h
 ·split at h
  ·cases h
  ·rename_i hs
   cases hh:a.spot with
   | none=>rfl
   | some s=>rw [hh] at hs; simp at hs
 ·cases h
theorem row_of_cells {b:Nat} {o:Nat} {n:Nat} {vs:List Value} {ps:List PV} (hc:w.cells? base ⟨b,o,none⟩ n=some vs) (hr:RepL w NoY noSg ps vs):RepC w NoY noSg b ps o:=by
 obtain ⟨_,hl,hg⟩:=World.cells?_some hc
 refine RepC.of_vals _ _ _ hr fun i v hv=>?_
 have hi:i<n:=by
  rw [← hl]
  by_cases h:i<vs.length
  ·exact h
  ·rw [List.getElem?_eq_none (Nat.le_of_not_lt h)] at hv; cases hv
 have:=hg i hi
 rw [hv] at this
 unfold Addr.add at this
 by_cases h0:i=0
 ·subst h0; simpa using this
 ·rw [if_neg h0] at this; exact this
theorem addr_plus {a:Addr} (h:a.spot=none) (n:Nat):a.add n=⟨a.block,a.off+n,none⟩:=by
 unfold Addr.add
 by_cases h0:n=0
 ·subst h0; simp; cases a; simp at h; simp [h]
 ·rw [if_neg h0]
theorem first_cell {a:Addr} {n:Nat} {vs:List Value} (hn:0<n) (h:w.cells? base a n=some vs):a.spot=none∧a.block<w.heap.size:=by
 obtain ⟨_,hl,hg⟩:=World.cells?_some h
 have h0:=hg 0 hn
 have:vs[0]?=some vs[0]:=List.getElem?_eq_getElem (by omega)
 rw [this] at h0
 have ha:a.add 0=a:=by simp [Addr.add]
 rw [ha] at h0
 refine ⟨spot_of_cell h0,?_⟩
 unfold World.cell? at h0
 by_cases hb:a.block<w.heap.size
 ·exact hb
 ·simp [Array.getElem?_eq_none (Nat.le_of_not_lt hb)] at h0
inductive ShpV (P:Program) (t:TypeId):PV→Prop
 | one {p:PV}:Shp P t [p]→isAggT P t=false→ShpV P t p
 | agg {cs:List PV}:Shp P t cs→isAggT P t=true→ShpV P t (.agg cs)
end
end Go.Pv
namespace Go.Pv
open Go
inductive ShpVL (P:Program):List TypeId→List PV→Prop
 | nil:ShpVL P [] []
 | cons {t:TypeId} {ts:List TypeId} {p:PV} {ps:List PV}:ShpV P t p→ShpVL P ts ps→ShpVL P (t::ts) (p::ps)
section
variable {H:Type} {enc:TypeId × Value→H} {P:Program} {w:World} {base:Nat} {sp:Nat→Bool} {held:Bool}
theorem args_stay {W W' : World} (hl:laidOutB P=true) (hb:RowKit.Below W.heap.size W W'):∀ (params:List TypeId) (vs:List Value) (ds:List (DataW H)) (pl:List MemPlace),(∀ t∈params,P.readableRec t=true∧t<P.types.size) →
  (∀ x∈pl,x.block<W.heap.size)→DataW.TrodAll enc P W 0 (fun _=>true) true params vs ds pl→DataW.TrodAll enc P W' 0 (fun b=>decide (b<W.heap.size)) true params vs ds pl
 | [],[],[],_,_,_,h=>h
 | t::params,v::vs,d::ds,pl,hm,hlt,h=>by
  obtain ⟨p,q,h1,h2,e⟩:=h
  subst e
  exact ⟨p,q,RowKit.Below.trod hl (hm t (by simp)).1 (hm t (by simp)).2 h1 hb (fun x hx=>hlt x (by simp [hx])),args_stay hl hb params vs ds q (fun t ht=>hm t (by simp [ht])) (fun x hx=>hlt x (by simp [hx])) h2,rfl⟩
 | [],_::_,_,_,_,_,h=>h.elim
 | [],[],_::_,_,_,_,h=>h.elim
 | _::_,[],_,_,_,_,h=>h.elim
 | _::_,_::_,[],_,_,_,h=>h.elim
def lawB (P:Program) (ts params:List TypeId):Bool:=laidOutB P && layAll P ts ts && params.all fun t=>ts.contains t && P.readableRec t && Nat.blt t P.types.size
end
section
variable {P:Program} {t e:TypeId} {cs:List PV} {p:PV}
theorem Shp.inv_int {k:IntKind} (hu:P.underlying t=some (.int k)) (h:Shp P t cs):∃ n,cs=[.si k n]∧(Lit.int k n).wf=true:=by
 cases h with
 | int h1 h2=>rw [hu] at h1; cases h1; exact ⟨_,rfl,h2⟩
 | _=>simp_all
theorem Shp.inv_bool (hu:P.underlying t=some .bool) (h:Shp P t cs):∃ b,cs=[.sb b]:=by
 cases h with
 | bool h1=>exact ⟨_,rfl⟩
 | _=>simp_all
theorem Shp.inv_str (hu:P.underlying t=some .string) (h:Shp P t cs):∃ s,cs=[.str s]∧s.size≤maxLen:=by
 cases h with
 | str h1 h2=>exact ⟨_,rfl,h2⟩
 | _=>simp_all
theorem Shp.inv_slice (hu:P.underlying t=some (.slice e)) (h:Shp P t cs):∃ es,cs=[.sl (P.cellsOf e) es false]∧(∀ r∈es,Shp P e r)∧es.length≤maxLen:=by
 cases h with
 | sl h1 h2 h3=>rw [hu] at h1; cases h1; exact ⟨_,rfl,h2,h3⟩
 | _=>simp_all
theorem Shp.inv_struct {fs:Array Field} (hu:P.underlying t=some (.struct fs)) (h:Shp P t cs):ShpL P (fs.toList.map (·.type)) cs:=by
 cases h with
 | struct h1 h2=>rw [hu] at h1; cases h1; exact h2
 | _=>simp_all
theorem Shp.inv_arr {n:Nat} (hu:P.underlying t=some (.array n e)) (h:Shp P t cs):ShpL P (List.replicate n e) cs:=by
 cases h with
 | arr h1 h2=>rw [hu] at h1; cases h1; exact h2
 | _=>simp_all
theorem ShpL.inv_cons {ts:List TypeId} (h:ShpL P (t::ts) cs):∃ a b,cs=a ++ b∧Shp P t a∧ShpL P ts b:=by
 cases h with
 | cons h1 h2=>exact ⟨_,_,rfl,h1,h2⟩
theorem ShpL.inv_nil (h:ShpL P [] cs):cs=[]:=by cases h; rfl
theorem ShpV.inv_agg (ha:isAggT P t=true) (h:ShpV P t p):∃ cs,p=.agg cs∧Shp P t cs:=by
 cases h with
 | one h1 h2=>rw [ha] at h2; cases h2
 | agg h1 h2=>exact ⟨_,rfl,h1⟩
theorem ShpV.inv_one (ha:isAggT P t=false) (h:ShpV P t p):Shp P t [p]:=by
 cases h with
 | one h1 h2=>exact h1
 | agg h1 h2=>rw [ha] at h2; cases h2
theorem ShpVL.inv_cons {ts:List TypeId} {ps:List PV} (h:ShpVL P (t::ts) ps):∃ a b,ps=a::b∧ShpV P t a∧ShpVL P ts b:=by
 cases h with
 | cons h1 h2=>exact ⟨_,_,rfl,h1,h2⟩
theorem ShpVL.inv_nil {ps:List PV} (h:ShpVL P [] ps):ps=[]:=by cases h; rfl
end
end Go.Pv
namespace Go.Pv
open Go
section
variable {α β σ ρ:Type}
def br (c:Bool) (a b:Option ρ):Option ρ:=match c with | true=>a | false=>b
def bnd (o:Option α) (k:α→Option ρ):Option ρ:=match o with | none=>none | some x=>k x
def lt (x:α) (k:α→Option ρ):Option ρ:=k x
def jn (rest:σ→Option ρ) (body:(σ→Option ρ)→Option ρ):Option ρ:=body rest
def loopK (step:σ→(σ→Option ρ)→Option ρ):Nat→σ→Option ρ
 | 0,_=>none
 | n+1,s=>step s (loopK step n)
def fuel:Nat:=18446744073709551616
def loopF (step:σ→(σ→Option ρ)→Option ρ) (s:σ):Option ρ:=loopK step fuel s
def ixL (l:List α):Int→Option α
 | .ofNat j=>l[j]?
 | .negSucc _=>none
def lenI (l:List α):Int:=(l.length:Int)
def splL (l:List α) (r:Nat) (new:List α):List α:=l.take r ++ new ++ l.drop (r+new.length)
def subL (l:List α) (r n:Nat):List α:=(l.drop r).take n
def addI (a b:Int):Int:=stdBin .add .i64 a b
def subI (a b:Int):Int:=stdBin .sub .i64 a b
def mulI (a b:Int):Int:=stdBin .mul .i64 a b
def roomO (n bytes:Nat) (k:Option ρ):Option ρ:=bif Nat.ble ((2 * n+192) * bytes) 140737488355328 && Nat.ble n 4611686018427387904 then k else none
def divO (op:BinOp) (k:IntKind) (a b:Int):Option Int:=bif decide (b=0) then none else some (match op with | .quo=>k.wrap (a.tdiv b) | _=>a.tmod b)
structure SlcIn (n:Nat) (x:Nat × Nat):Prop where
 le:x.1≤x.2
 lt:x.2≤n
def bs (l:List UInt8):ByteArray:=⟨l.toArray⟩
end
structure Arr2 (α:Type) where
 a0:α
 a1:α
structure Arr3 (α:Type) where
 a0:α
 a1:α
 a2:α
structure Arr5 (α:Type) where
 a0:α
 a1:α
 a2:α
 a3:α
 a4:α
structure Arr6 (α:Type) where
 a0:α
 a1:α
 a2:α
 a3:α
 a4:α
 a5:α
def zArr2I:Arr2 Int:=⟨0,0⟩
def zArr3I:Arr3 Int:=⟨0,0,0⟩
def zArr5I:Arr5 Int:=⟨0,0,0,0,0⟩
def zArr6I:Arr6 Int:=⟨0,0,0,0,0,0⟩
structure EncM where
 m:(α:Type)→(α→List PV)→List α→List (List PV)
 n:(α:Type)→List α→Nat
 h:(Nat→Hdr)→(α:Type)→(Hdr→α→List PV)→List α→List (List PV)
 up:(Nat→Hdr)→Nat→Hdr→Nat→Hdr
def mapH {α:Type} (H:Nat→Hdr) (e:Hdr→α→List PV) (l:List α):List (List PV):=l.mapIdx fun i x=>e (H i) x
def upH (H:Nat→Hdr) (j:Nat) (h:Hdr):Nat→Hdr:=fun i=>bif Nat.beq i j then h else H i
def mapE:EncM:=⟨fun _ e l=>l.map e,fun _ l=>l.length,fun H _ e l=>mapH H e l,upH⟩
def eI (k:IntKind) (x:Int):List PV:=[.si k x]
def eB (x:Bool):List PV:=[.sb x]
def eS (x:ByteArray):List PV:=[.str x]
def eL {α:Type} (M:EncM) (sz:Nat) (e:α→List PV) (x:List α):List PV:=[.sl sz (M.m α e x) false]
def eArr3 {α:Type} (e:α→List PV) (x:Arr3 α):List PV:=e x.a0 ++ (e x.a1 ++ e x.a2)
def eArr5 {α:Type} (e:α→List PV) (x:Arr5 α):List PV:=e x.a0 ++ (e x.a1 ++ (e x.a2 ++ (e x.a3 ++ e x.a4)))
def eArr6 {α:Type} (e:α→List PV) (x:Arr6 α):List PV:=e x.a0 ++ (e x.a1 ++ (e x.a2 ++ (e x.a3 ++ (e x.a4 ++ e x.a5))))
section
variable {P:Program} {T:Tab} {S:Sig} {M:EncM} (hS:S=Sig.std P T)
theorem sf (hM:M=mapE) (hS:S=Sig.std P T) :
  S.bin=stdBin∧S.cmp=stdCmp∧(∀ k n,S.conv k n=k.wrap n)∧(∀ k n,S.neg k n=k.wrap (0 - n))∧(∀ a b,S.beq a b=(a == b))∧(∀ a b,S.band a b=(a && b))∧S.scmp=stdScmp ∧
  (∀ s,S.slen s=(s.size:Int))∧(∀ n:Nat,S.nint n=(n:Int))∧(∀ a b:Nat,S.nadd a b=a+b)∧(∀ a b:Nat,S.nsub a b=a - b)∧(∀ n:Nat,0+n=n)∧(∀ a,S.app [] a=a) ∧
  (∀ (α:Type) (e:α→List PV) (l:List α),S.len (M.m α e l)=lenI l)∧(∀ (α:Type) (e:α→List PV) (l:List α),S.lenN (M.m α e l)=l.length)∧(∀ (α:Type) (l:List α),M.n α l=l.length) ∧
  (∀ rows n,S.lenN rows=n→S.sub rows 0 n=rows)∧S.len []=0∧(∀ (α:Type) (l:List α),lenI l=(l.length:Int)) ∧
  S.smin=(fun a b=>if b<a then b else a)∧S.smax=(fun a b=>if a<b then b else a) ∧
  (∀ a b,S.lenN (S.app a b)=S.lenN a+S.lenN b)∧(∀ a j r,S.lenN (S.rset a j r)=S.lenN a)∧(∀ n r,S.lenN (S.rep n r)=n)∧S.lenN []=0∧(∀ r rows,S.lenN (r::rows)=S.lenN rows+1) ∧
  (∀ (α:Type) (e:α→List PV),M.m α e []=[])∧(∀ (α:Type) (e:α→List PV) (x:α) (l:List α),M.m α e (x::l)=e x::M.m α e l) ∧
  (∀ (α:Type) (e:α→List PV) (a b:List α),M.m α e (a ++ b)=S.app (M.m α e a) (M.m α e b)) ∧
  (∀ (α:Type) (e:α→List PV) (l:List α) (r n:Nat),M.m α e (subL l r n)=S.sub (M.m α e l) r n) ∧
  (∀ (α:Type) (e:α→List PV) (l:List α) (r:Nat) (new:List α),M.m α e (splL l r new)=S.spl (M.m α e l) r (M.m α e new)) ∧
  (∀ (α:Type) (e:α→List PV) (l:List α) (j:Nat) (x:α),M.m α e (l.set j x)=S.rset (M.m α e l) j (e x)) ∧
  (∀ (α:Type) (e:α→List PV) (n:Nat) (x:α),M.m α e (List.replicate n x)=S.rep n (e x)) ∧
  (∀ (α:Type) (a b:List α),(a ++ b).length=a.length+b.length)∧(∀ (α:Type) (l:List α) (j:Nat) (x:α),(l.set j x).length=l.length) ∧
  (∀ (α:Type) (n:Nat) (x:α),(List.replicate n x).length=n)∧(∀ (α:Type) (x:α) (l:List α),(x::l).length=l.length+1)∧(∀ (α:Type),([]:List α).length=0) ∧
  (∀ (α:Type) (e:α→List PV) (l:List α) (r n:Nat),S.len (S.sub (M.m α e l) r n)=((subL l r n).length:Int))∧(∀ (α:Type) (e:α→List PV) (l:List α) (r n:Nat),S.lenN (S.sub (M.m α e l) r n)=(subL l r n).length):=by
 subst hS hM
 refine ⟨rfl,rfl,?_⟩
 have h:∀ (α:Type) (e:α→List PV) (l:List α),List.take l.length (List.map e l)=List.map e l:=by
  intro α e l; rw [List.take_of_length_le (by simp)]
 have h2:∀ (rows:List (List PV)) (n:Nat),rows.length=n→(rows.drop 0).take n=rows:=by
  intro rows n e; subst e; simp
 refine ⟨fun _ _=>rfl,fun _ _=>rfl,fun _ _=>rfl,fun _ _=>rfl,rfl,fun _=>rfl,fun _=>rfl,fun _ _=>rfl,fun _ _=>rfl,fun n=>Nat.zero_add n,fun _=>rfl,?_,?_,?_,h2,rfl,fun _ _=>rfl,rfl,?_,?_⟩
 ·simp [Sig.std,mapE,lenI]
 ·simp [Sig.std,mapE]
 ·simp [mapE]
 ·rfl
 ·simp [Sig.std,mapE,subL,splL,List.map_take,List.map_drop,List.map_set]
mutual
inductive LeP:PV→PV→Prop
 | nil (z0:Nat) (f:Bool) (z:Nat):LeP (.sl z0 [] f) (.sl z [] false)
 | int (k:IntKind) (n:Int):LeP (.int k n) (.si k n)
 | bool (b:Bool):LeP (.bool b) (.sb b)
 | agg (ps qs:List PV):LeL ps qs→LeP (.agg ps) (.agg qs)
 | tup (ps qs:List PV):LeL ps qs→LeP (.tup ps) (.tup qs)
 | rows (z:Nat) (f:Bool) (es es' : List (List PV)):LeR es es'→LeP (.sl z es f) (.sl z es' false)
 | refl (p:PV):LeP p p
inductive LeL:List PV→List PV→Prop
 | nil:LeL [] []
 | cons (p q:PV) (ps qs:List PV):LeP p q→LeL ps qs→LeL (p::ps) (q::qs)
inductive LeR:List (List PV)→List (List PV)→Prop
 | same (es:List (List PV)):LeR es es
 | cons (r q:List PV) (rs qs:List (List PV)):LeL r q→LeR rs qs→LeR (r::rs) (q::qs)
end
theorem LeL.len:∀ {ps qs:List PV},LeL ps qs→qs.length=ps.length
 | _,_,.nil=>rfl
 | _,_,.cons p q ps qs _ h=>by simp [h.len]
theorem LeR.len:∀ {ps qs:List (List PV)},LeR ps qs→qs.length=ps.length
 | _,_,.same _=>rfl
 | _,_,.cons p q ps qs _ h=>by simp [h.len]
theorem LeP.isCell {p q:PV} (h:LeP p q):Pv.isCell p=true→Pv.isCell q=true:=by
 cases h <;> intro h <;> first | rfl | exact h | cases h
theorem LeL.allCell:∀ {ps qs:List PV},LeL ps qs→Pv.allCell ps=true→Pv.allCell qs=true
 | _,_,.nil,h=>h
 | _,_,.cons p q ps qs h1 h2,h=>by
  simp only [Pv.allCell,Bool.and_eq_true] at h ⊢
  exact ⟨h1.isCell h.1,h2.allCell h.2⟩
mutual
theorem LeP.rep {w:World} {Y:Nat→Prop} {σ:Sg}:∀ {p q:PV} (_:LeP p q) (v:Value),Rep w Y σ p v→Rep w Y σ q v
 | _,_,.nil z0 f z,v,h=>by
  unfold Rep at h ⊢
  obtain ⟨a,len,cap,e,hl,hc,_,_⟩:=h
  exact ⟨a,len,cap,e,hl,hc,(fun h=>by cases h),.inl rfl⟩
 | _,_,.int k n,v,h=>by unfold Rep at h ⊢; exact h
 | _,_,.bool b,v,h=>by unfold Rep at h ⊢; exact h
 | _,_,.agg ps qs hl,v,h=>by
  unfold Rep at h ⊢
  obtain ⟨vs,e,h⟩:=h
  exact ⟨vs,e,hl.rep vs h⟩
 | _,_,.tup ps qs hl,v,h=>by
  unfold Rep at h ⊢
  obtain ⟨vs,e,h⟩:=h
  exact ⟨vs,e,hl.rep vs h⟩
 | _,_,.rows z f es es' hr,v,h=>by
  unfold Rep at h ⊢
  obtain ⟨a,len,cap,e,hl,hc,_,h⟩:=h
  refine ⟨a,len,cap,e,by rw [hl,hr.len],hc,(fun h=>by cases h),?_⟩
  rcases h with h | ⟨b,o,h1,h2,h3⟩
  ·refine .inl (List.length_eq_zero_iff.1 ?_)
   rw [hr.len,h]; rfl
  ·exact .inr ⟨b,o,h1,h2,hr.repR o h3⟩
 | _,_,.refl p,v,h=>h
theorem LeL.rep {w:World} {Y:Nat→Prop} {σ:Sg}:∀ {ps qs:List PV} (_:LeL ps qs) (vs:List Value),RepL w Y σ ps vs→RepL w Y σ qs vs
 | _,_,.nil,vs,h=>h
 | _,_,.cons p q ps qs h1 h2,vs,h=>by
  unfold RepL at h ⊢
  obtain ⟨v,vs',e,h3,h4⟩:=h
  exact ⟨v,vs',e,h1.rep v h3,h2.rep vs' h4⟩
theorem LeL.repC {w:World} {Y:Nat→Prop} {σ:Sg} {cb:Nat}:∀ {ps qs:List PV} (_:LeL ps qs) (o:Nat),RepC w Y σ cb ps o→RepC w Y σ cb qs o
 | _,_,.nil,o,h=>h
 | _,_,.cons p q ps qs h1 h2,o,h=>by
  unfold RepC at h ⊢
  obtain ⟨⟨v,h3,h4⟩,h5⟩:=h
  exact ⟨⟨v,h3,h1.rep v h4⟩,h2.repC (o+1) h5⟩
theorem LeR.repR {w:World} {Y:Nat→Prop} {σ:Sg} {b sz:Nat}:∀ {ps qs:List (List PV)} (_:LeR ps qs) (o:Nat),RepR w Y σ b sz ps o→RepR w Y σ b sz qs o
 | _,_,.same _,o,h=>h
 | _,_,.cons p q ps qs h1 h2,o,h=>by
  unfold RepR at h ⊢
  obtain ⟨⟨h3,h4⟩,h5,h6⟩:=h
  exact ⟨⟨by rw [h1.len,h3],h1.allCell h4⟩,h1.repC o h5,h2.repR (o+sz) h6⟩
end
theorem Fn.le {G:Nat→Option (List PV)} {k:Nat} {args cargs:List PV} {R:PV→Prop} (h:Fn P G k cargs R) (hl:LeL args cargs):Fn P G k args R :=
 fun w Y vs hG hY hr=>h w Y vs hG hY (hl.rep _ hr)
theorem lp_eq {p q:PV} (h:p=q):LeP p q:=h ▸ .refl p
theorem fn_dec {P:Program} {T:Tab} (hT:TabOK P T) (hp:T.pas=0) (hW:PWf P) {k:Nat} {fn:Func} {c:Code} (hf:P.funcs[k]?=some fn) (hb:fn.body=some c)
  (hcall:∀ args w,(callFunc k args).run P w=.ok (.enter k args) w) {args:List PV} {v:PV} {m:Nat} (hm:fn.ntmps - args.length=m)
  (h:∀ S R,S=Sig.std P T→(∀ u,LeP u v→R u)→pwp T S c (retQ T S fn.results.toList R) ⟨appL args (undefs m),[],0⟩):Fn P T.gl k args (fun u=>u=v):=by
 have H:=fn_of_body hT hp hW hf hb hcall hm (R:=fun u=>LeP u v) fun S hS=>h S _ hS fun _ h=>h
 intro w Y cargs hG hY hr
 obtain ⟨h1,h2⟩:=H w Y cargs hG hY hr
 refine ⟨h1,Calls.mono h2 fun e w' hh=>?_⟩
 obtain ⟨cv,u,he,hu,hv,hc⟩:=hh
 exact ⟨cv,v,he,rfl,hu.rep _ hv,hc⟩
theorem LeL.refl:∀ ps:List PV,LeL ps ps
 | []=>.nil
 | p::ps=>.cons _ _ _ _ (.refl p) (LeL.refl ps)
inductive LeB:Option Blk→Option Blk→Prop
 | var (ro:Bool) (row row' : List PV):LeL row row'→LeB (some (.var ro row)) (some (.var ro row'))
 | refl (x:Option Blk):LeB x x
inductive LeS:St→St→Prop
 | nil:LeS [] []
 | cons (b:Nat) (x y:Option Blk) (s t:St):LeB x y→LeS s t→LeS ((b,x)::s) ((b,y)::t)
theorem LeS.refl:∀ s:St,LeS s s
 | []=>.nil
 | (b,x)::s=>.cons b x x s s (.refl x) (LeS.refl s)
theorem LeS.look:∀ {s t:St} (_:LeS s t) (b:Nat),lkS t b=lkS s b∨∃ ro row row',lkS s b=some (.var ro row)∧lkS t b=some (.var ro row')∧LeL row row'
 | _,_,.nil,b=>.inl rfl
 | _,_,.cons c x y s t h1 h2,b=>by
  simp only [lkS]
  cases Nat.beq c b with
  | true =>
   cases h1 with
   | var ro row row' h=>exact .inr ⟨ro,row,row',rfl,rfl,h⟩
   | refl x=>exact .inl rfl
  | false=>exact h2.look b
theorem LeS.stLe {s t:St} (h:LeS s t) (w:World) (Y:Nat→Prop) (σ:Sg) (b:Nat):lkS t b=lkS s b∨∃ ro row row',lkS s b=some (.var ro row)∧lkS t b=some (.var ro row')∧row'.length=row.length∧∀ cb o,RepC w Y σ cb row o→RepC w Y σ cb row' o:=by
 rcases h.look b with e | ⟨ro,row,row',e1,e2,e3⟩
 ·exact .inl e
 ·exact .inr ⟨ro,row,row',e1,e2,e3.len,fun cb o=>e3.repC o⟩
theorem LeS.rep {w:World} {Y:Nat→Prop} {σ:Sg} {s t:St} (h:LeS s t) (H:StRep w Y σ s):StRep w Y σ t:=by
 have some' : ∀ b x,lkS t b=some x→∃ y,lkS s b=some y:=by
  intro b x hx
  rcases h.look b with e | ⟨ro,row,row',e1,e2,_⟩
  ·exact ⟨x,by rw [← e]; exact hx⟩
  ·exact ⟨_,e1⟩
 refine ⟨fun b x hx=>?_,fun b b' x x' l l' hx hx' hl hl' e=>?_⟩
 ·rcases h.stLe w Y σ b with e | ⟨ro,row,row',e1,e2,e3,e4⟩
  ·exact H.blk b x (by rw [← e]; exact hx)
  ·rw [e2] at hx; cases hx
   rcases H.blk b _ e1 with ⟨l,hl,hB⟩ | ⟨_,_,_,hx⟩
   ·refine .inl ⟨l,hl,?_⟩
    unfold BlkRep at hB ⊢
    exact ⟨hB.1,by rw [e3]; exact hB.2.1,by rw [e3]; exact hB.2.2.1,e4 _ _ hB.2.2.2.1,hB.2.2.2.2⟩
   ·cases hx
 ·obtain ⟨y,hy⟩:=some' b x hx
  obtain ⟨y',hy'⟩:=some' b' x' hx'
  exact H.inj b b' y y' l l' hy hy' hl hl' e
theorem LeS.inSt {σ:Sg} {s t:St} (h:LeS s t):InSt σ t=InSt σ s:=by
 funext k
 refine propext ⟨?_,?_⟩
 ·rintro ⟨b,x,l,h1,h2⟩
  rcases h.look b with e | ⟨ro,row,row',e1,e2,_⟩
  ·exact ⟨b,x,l,by rw [← e]; exact h1,h2⟩
  ·exact ⟨b,_,l,e1,h2⟩
 ·rintro ⟨b,x,l,h1,h2⟩
  rcases h.look b with e | ⟨ro,row,row',e1,e2,_⟩
  ·exact ⟨b,x,l,by rw [e]; exact h1,h2⟩
  ·exact ⟨b,_,l,e2,h2⟩
theorem LeS.noNar:∀ {s t:St} (_:LeS s t),Pv.noNar s=true→Pv.noNar t=true
 | _,_,.nil,h=>h
 | _,_,.cons b x y s t h1 h2,h=>by
  cases h1 with
  | var ro row row' h'=>simp only [Pv.noNar] at h ⊢; exact h2.noNar h
  | refl x =>
   cases x with
   | none=>simp only [Pv.noNar] at h ⊢; exact h2.noNar h
   | some x=>cases x <;> simp only [Pv.noNar] at h ⊢ <;> first | exact h2.noNar h | exact h
theorem FnS.le {G:Nat→Option (List PV)} {k:Nat} {args cargs:List PV} {st cst:St} {n:Nat} {R:PV→St→Nat→Prop} (h:FnS P G k cargs cst n R) (hl:LeL args cargs) (hs:LeS st cst):FnS P G k args st n R:=by
 intro w Y σ vs hG hY hn hr hst hnn
 obtain ⟨h1,h2⟩:=h w Y σ vs hG hY hn (hl.rep _ hr) (hs.rep hst) (hs.noNar hnn)
 refine ⟨h1,Calls.mono h2 fun e w' hh=>?_⟩
 obtain ⟨cv,v,st',n',Y',σ',he,hR,H⟩:=hh
 refine ⟨cv,v,st',n',Y',σ',he,hR,?_⟩
 have e:ctxS ⟨fun _=>.bad,G,n,[],0,[],[]⟩ w Y σ cst=ctxS ⟨fun _=>.bad,G,n,[],0,[],[]⟩ w Y σ st:=by
  unfold ctxS; rw [hs.inSt]
 rw [e] at H
 exact H
theorem FnS.cv {P:Program} {T:Tab} {G:Nat→Option (List PV)} (cvs:List Cv) {k:Nat} {args:List PV} {st:St} {n:Nat} {v v' : PV} {st1 st1' : St} {n1 n1' : Nat} (h:FnS P G k args st n (fun u s m=>u=v∧s=st1∧m=n1)) (e:canE n [0] (cvE (Sig.std P T) cvs ⟨[v],st1,n1⟩)=⟨[v'],st1',n1'⟩):FnS P G k args st n (fun u s m=>u=v'∧s=st1'∧m=n1'):=by
 intro w Y σ vs hG hY hn hr hst hnn
 obtain ⟨h1,h2⟩:=h w Y σ vs hG hY hn hr hst hnn
 refine ⟨h1,Calls.mono h2 fun en w' hh=>?_⟩
 obtain ⟨cv,u,s,m,Y',σ',he,⟨rfl,rfl,rfl⟩,H⟩:=hh
 obtain ⟨Y1,σ1,H1,_⟩:=cvE_sw (P:=P) (T':=T) cvs ⟨[u],s,m⟩ H
 have H2:=H1.vals' (maskL_rep _ [0] 0 _ H1.vals)
 obtain ⟨g1,g2,g3⟩:=seenN_ok n (cvE (Sig.std P T) cvs ⟨[u],s,m⟩).st (maskL [0] 0 (cvE (Sig.std P T) cvs ⟨[u],s,m⟩).tmps)
 obtain ⟨σ2,H3,_⟩:=H2.canR g1 g2 g3
 have H4:SW (ctxS ⟨fun _=>.bad,G,n,[],0,[],[]⟩ w Y σ st) w' Y1 σ2 (canE n [0] (cvE (Sig.std P T) cvs ⟨[u],s,m⟩)).tmps [cv] (canE n [0] (cvE (Sig.std P T) cvs ⟨[u],s,m⟩)).st (canE n [0] (cvE (Sig.std P T) cvs ⟨[u],s,m⟩)).next:=H3
 rw [e] at H4
 exact ⟨cv,v',st1',n1',Y1,σ2,he,⟨rfl,rfl,rfl⟩,H4⟩
theorem le_eq {ps qs:List PV} (h:ps=qs):LeL ps qs:=h ▸ LeL.refl ps
variable {α β σ ρ:Type} {r:ρ}
theorem d_bnd {o:Option α} {k:α→Option ρ} (h:bnd o k=some r):∃ x,o=some x∧k x=some r:=by
 cases o with
 | none=>cases h
 | some x=>exact ⟨x,rfl,h⟩
theorem d_lt {x:α} {k:α→Option ρ} (h:lt x k=some r):k x=some r:=h
include hS
theorem d_br {c c' : Bool} {fa fb:Option ρ} {A B:Unit→Prop} (hf:br c' fa fb=some r) (e:c=c') (ha:fa=some r→A ()) (hb:fb=some r→B ()):S.br c A B:=by
 subst e
 cases c with
 | true=>exact l_brT hS rfl (ha hf)
 | false=>exact l_brF hS rfl (hb hf)
theorem d_idx (hM:M=mapE) {es:List (List PV)} {l:List α} {e:α→List PV} {i i' : Int} {k:α→Option ρ} {K:List PV→Prop} (hf:bnd (ixL l i') k=some r) (he:es=M.m α e l) (hi:i=i') (h:∀ x,k x=some r→K (e x)):S.idx es i K:=by
 subst hM he hi
 obtain ⟨x,hx,hk⟩:=d_bnd hf; clear hf
 cases i with
 | ofNat j=>exact l_idx hS (j:=j) rfl (by simp only [ixL] at hx; simp [mapE,hx]) (h x hk)
 | negSucc j=>simp [ixL] at hx
theorem d_call {k:Nat} {args:List PV} {cargs:List PV} {K:PV→Prop} {g:Option α} {v:α→PV} {kk:α→Option ρ} (hf:bnd g kk=some r) (hF:∀ y,g=some y→Fn P T.gl k cargs (fun u=>u=v y)) (ha:LeL args cargs) (h:∀ y,kk y=some r→K (v y)):S.callq k args K:=by
 obtain ⟨x,hx,hk⟩:=d_bnd hf; clear hf
 exact l_callq hS ((hF x hx).le ha) (h x hk)
theorem d_callp {k:Nat} {args as bs:List PV} {cargs:List PV} {E:Env} {K:PV→Env→Prop} {g:Option α} {v:α→PV} {kk:α→Option ρ} (hf:bnd g kk=some r) (hF:∀ y,g=some y→Fn P T.gl k cargs (fun u=>u=v y)) (ha:LeL as cargs) (h:∀ y,kk y=some r→K (v y) E):S.callp k args as bs E K:=by
 obtain ⟨x,hx,hk⟩:=d_bnd hf; clear hf
 subst hS
 exact .inl ⟨_,(hF x hx).le ha,h x hk⟩
theorem d_callS {k:Nat} {args as cargs:List PV} {E:Env} {lend free:Option (List PV)} {ρ' : List Nat} {st0 cst:St} {m:Nat} {K:PV→Env→Prop} {g:Option α} {v:α→PV} {st1:α→St} {n1:Nat} {kk:α→Option ρ} (hf:bnd g kk=some r) (hF:∀ y,g=some y→FnS P T.gl k cargs cst m (fun u st n=>u=v y∧st=st1 y∧n=n1)) (ha:LeL as cargs) (hs:LeS st0 cst) (hm:m=lenNs ρ') (h1:nodN ρ'=true) (h2:ltN E.next ρ'=true) (h0:noNar st0=true)
  (h:∀ y,kk y=some r→K (renV (bakN ρ' E.next) 8 (v y)) (bakE ρ' E (st1 y) n1)):S.call k args E lend free ρ' as st0 K:=by
 obtain ⟨x,hx,hk⟩:=d_bnd hf; clear hf
 exact l_callS hS ((hF x hx).le ha hs) hm h1 h2 h0 (h x hk)
theorem d_div {op:BinOp} {kd:IntKind} {a b a' b' : Int} {K:Int→Prop} {k:Int→Option ρ} (hf:bnd (divO op kd a' b') k=some r) (ha:a=a') (hb:b=b') (h:∀ x,k x=some r→K x):S.div op kd a b K:=by
 subst hS ha hb
 obtain ⟨x,hx,hk⟩:=d_bnd hf; clear hf
 unfold divO at hx
 by_cases h0:b=0
 ·simp [h0] at hx
 ·simp only [h0,decide_false,cond_false,Option.some.injEq] at hx
  subst hx
  exact ⟨h0,h _ hk⟩
theorem d_room {n n' b:Nat} {p:Prop} {k:Option ρ} (hf:roomO n' b k=some r) (hn:n=n') (h:k=some r→p):S.room n b p:=by
 subst hn
 unfold roomO at hf
 cases h1:Nat.ble ((2 * n+192) * b) 140737488355328 with
 | false=>rw [h1] at hf; cases hf
 | true =>
  cases h2:Nat.ble n 4611686018427387904 with
  | false=>rw [h1,h2] at hf; cases hf
  | true=>rw [h1,h2] at hf; exact l_room hS (by simpa using h1) (by simpa using h2) (h hf)
theorem d_cut {A:Post→Prop} {B:Env→Prop} {Q:Post} {rest:σ→Option ρ} {body:(σ→Option ρ)→Option ρ} (cvs:List Cv) (keep:List Nat) (F:σ→Env) (hf:jn rest body=some r)
  (h:∀ (I:σ→Env) (k:σ→Option ρ),(∀ s,I s=F s)→body k=some r→A (seqQ (fun E=>∃ s,k s=some r∧canE T.pas keep (wkE (cvE S cvs E))=I s) Q)) (h2:∀ s,rest s=some r→B (F s)):S.seq A B Q:=by
 subst hS
 refine ⟨_,h F rest (fun _=>rfl) hf,fun n E h=>?_⟩
 cases n with
 | zero =>
  obtain ⟨s,hs,he⟩:=h
  refine ⟨F s,?_,h2 s hs⟩
  rw [← he]
  exact (ent_cvE (P:=P) (T':=T) cvs E).trans ((ent_wkE _).trans (ent_canE keep _))
 | succ n=>exact ⟨E,Ent.refl E,h⟩
theorem d_loop (hT:TabOK P T) (hW:PWf P) {b:Code} {Q:Post} {E:Env} {step:σ→(σ→Option ρ)→Option ρ} {s0:σ} (cvs:List Cv) (keep:List Nat) (F:σ→Env) (hf:loopF step s0=some r) (he:canE T.pas keep (wkE (cvE S cvs E))=F s0)
  (h:∀ (I:σ→Env) (k:σ→Option ρ) (s:σ),(∀ s,I s=F s)→step s k=some r→∀ e,e=F s→pwp T S b (seqQ (fun E'=>∃ s',k s'=some r∧canE T.pas keep (wkE (cvE S cvs E'))=I s') Q) e):S.loop b Q E:=by
 subst hS
 intro C a w hA
 have key:∀ (n:Nat) (s:σ),loopK step n s=some r→∀ (C:Ctx T) a w,ActRep C (F s) a w→Code.rounds P b (lift C Q) n a w:=by
  intro n
  induction n with
  | zero=>intro s h; cases h
  | succ n ih =>
   intro s hs C a w hA
   unfold Code.rounds
   refine wp_mono (pwp_sound hT hW b _ _ (h F (loopK step n) s (fun _=>rfl) hs _ rfl) C a w hA) (lift_rounds fun E' a' w' hA' hq=>?_)
   obtain ⟨j,hj,he⟩:=hq
   exact ih j hj C a' w' (he ▸ ent_canE keep _ C a' w' (ent_wkE _ C a' w' (ent_cvE (P:=P) (T':=T) cvs E' C a' w' hA')))
 exact wp_loop_rounds fuel (key _ s0 hf C a w (he ▸ ent_canE keep _ C a w (ent_wkE _ C a w (ent_cvE (P:=P) (T':=T) cvs E C a w hA))))
end
end Go.Pv
namespace Go.Pv
open Go
section
variable {α β σ τ ρ:Type}
def Ok (Q:ρ→Prop) (o:Option ρ):Prop:=∃ r,o=some r∧Q r
theorem ok_some {Q:ρ→Prop} {x:ρ} (h:Q x):Ok Q (some x):=⟨x,rfl,h⟩
theorem ok_eq {c:ρ} {o:Option ρ} (h:Ok (fun r=>r=c) o):o=some c:=by obtain ⟨r,e,q⟩:=h; subst q; exact e
theorem ok_br {Q:ρ→Prop} {c:Bool} {a b:Option ρ} (h1:c=true→Ok Q a) (h2:c=false→Ok Q b):Ok Q (br c a b):=by
 cases c with
 | true=>exact h1 rfl
 | false=>exact h2 rfl
theorem ok_brd {Q:ρ→Prop} {p:Prop} [Decidable p] {a b:Option ρ} (h1:p→Ok Q a) (h2:¬p→Ok Q b):Ok Q (br (decide p) a b) :=
 ok_br (fun h=>h1 (of_decide_eq_true h)) (fun h=>h2 (of_decide_eq_false h))
theorem ok_bnd {Q:ρ→Prop} {R:α→Prop} {o:Option α} {k:α→Option ρ} (h:Ok R o) (hk:∀ x,R x→Ok Q (k x)):Ok Q (bnd o k):=by
 obtain ⟨x,e,q⟩:=h
 rw [e]; exact hk x q
theorem ok_bnde {Q:ρ→Prop} {o:Option α} {x:α} {k:α→Option ρ} (h:o=some x) (hk:Ok Q (k x)):Ok Q (bnd o k):=by
 rw [h]; exact hk
theorem ok_lt {Q:ρ→Prop} {x:α} {k:α→Option ρ} (hk:Ok Q (k x)):Ok Q (lt x k):=hk
theorem ok_jn {Q:ρ→Prop} (J:σ→Prop) {rest:σ→Option ρ} {body:(σ→Option ρ)→Option ρ} (h1:∀ k,(∀ s,J s→Ok Q (k s))→Ok Q (body k)) (h2:∀ s,J s→Ok Q (rest s)):Ok Q (jn rest body):=h1 rest h2
theorem ok_room {Q:ρ→Prop} {n b:Nat} {k:Option ρ} (h1:(2 * n+192) * b≤140737488355328) (h2:n≤4611686018427387904) (hk:Ok Q k):Ok Q (roomO n b k):=by
 unfold roomO
 rw [Nat.ble_eq_true_of_le h1,Nat.ble_eq_true_of_le h2]; exact hk
theorem ixL_nat (l:List α) (n:Nat):ixL l (n:Int)=l[n]?:=rfl
theorem ok_ixL {Q:ρ→Prop} {l:List α} {i:Int} {k:α→Option ρ} (n:Nat) (hi:i=(n:Int)) (hn:n<l.length) (hk:Ok Q (k (l[n]))):Ok Q (bnd (ixL l i) k):=by
 subst hi
 rw [ixL_nat,List.getElem?_eq_getElem hn]; exact hk
theorem wrap_in {n:Int} (h1 : -9223372036854775808≤n) (h2:n<9223372036854775808):IntKind.i64.wrap n=n:=by rw [IntKind.wrap_i64]; omega
theorem addI_eq {a b:Int} (h1 : -9223372036854775808≤a+b) (h2:a+b<9223372036854775808):addI a b=a+b:=by
 show IntKind.i64.wrap (a+b)=a+b
 exact wrap_in h1 h2
theorem addI_nat {n:Nat} (h:n<4611686018427387904):addI (n:Int) 1=((n+1:Nat):Int):=by
 rw [addI_eq (by omega) (by omega)]; rfl
theorem ok_loop {Q:ρ→Prop} {step:σ→(σ→Option ρ)→Option ρ} {s0:σ} (Inv:σ→Prop) (μ:σ→Nat) (h0:Inv s0) (hμ:μ s0<fuel)
  (h:∀ s k,Inv s→(∀ s',Inv s'→μ s'<μ s→Ok Q (k s'))→Ok Q (step s k)):Ok Q (loopF step s0):=by
 have key:∀ n s,Inv s→μ s<n→Ok Q (loopK step n s):=by
  intro n
  induction n with
  | zero=>intro s _ h; omega
  | succ n ih=>intro s hs hn; exact h s _ hs fun s' hs' hl=>ih s' hs' (by omega)
 exact key fuel s0 h0 hμ
theorem ok_for {Q:ρ→Prop} {step:Int × τ→(Int × τ→Option ρ)→Option ρ} {t0:τ} (a n:Nat) (Inv:Nat→τ→Prop) (i0:Int) (hi0:i0=(a:Int)) (ha:a≤n) (hn:n<4611686018427387904) (h0:Inv a t0)
  (h:∀ i t k,i<n→Inv i t→(∀ t',Inv (i+1) t'→Ok Q (k (addI (i:Int) 1,t')))→Ok Q (step ((i:Int),t) k))
  (he:∀ t k,Inv n t→Ok Q (step ((n:Int),t) k)):Ok Q (loopF step (i0,t0)):=by
 subst hi0
 refine ok_loop (fun s=>∃ i:Nat,s.1=(i:Int)∧i≤n∧Inv i s.2) (fun s=>n - s.1.toNat) ⟨a,rfl,ha,h0⟩ (by show n - _<18446744073709551616; omega) ?_
 rintro ⟨i',t⟩ k ⟨i,e,hi,hI⟩ hk
 simp only at e hI; subst e
 by_cases h' : i=n
 ·subst h'; exact he t k hI
 ·refine h i t k (by omega) hI fun t' ht'=>hk _ ⟨i+1,addI_nat (by omega),by omega,ht'⟩ ?_
  rw [addI_nat (by omega)]
  simp only [Int.toNat_natCast]; omega
theorem ok_for1 {Q:ρ→Prop} {step:Int→(Int→Option ρ)→Option ρ} (a n:Nat) (Inv:Nat→Prop) (i0:Int) (hi0:i0=(a:Int)) (ha:a≤n) (hn:n<4611686018427387904) (h0:Inv a)
  (h:∀ i k,i<n→Inv i→(Inv (i+1)→Ok Q (k (addI (i:Int) 1)))→Ok Q (step (i:Int) k))
  (he:∀ k,Inv n→Ok Q (step (n:Int) k)):Ok Q (loopF step i0):=by
 subst hi0
 refine ok_loop (fun s=>∃ i:Nat,s=(i:Int)∧i≤n∧Inv i) (fun s=>n - s.toNat) ⟨a,rfl,ha,h0⟩ (by show n - _<18446744073709551616; omega) ?_
 rintro i' k ⟨i,e,hi,hI⟩ hk
 subst e
 by_cases h' : i=n
 ·subst h'; exact he k hI
 ·refine h i k (by omega) hI fun ht'=>hk _ ⟨i+1,addI_nat (by omega),by omega,ht'⟩ ?_
  rw [addI_nat (by omega)]
  simp only [Int.toNat_natCast]; omega
theorem ok_forr {Q:ρ→Prop} {step:τ × Int→(τ × Int→Option ρ)→Option ρ} {t0:τ} (a n:Nat) (Inv:Nat→τ→Prop) (i0:Int) (hi0:i0=(a:Int)) (ha:a≤n) (hn:n<4611686018427387904) (h0:Inv a t0)
  (h:∀ i t k,i<n→Inv i t→(∀ t',Inv (i+1) t'→Ok Q (k (t',addI (i:Int) 1)))→Ok Q (step (t,(i:Int)) k))
  (he:∀ t k,Inv n t→Ok Q (step (t,(n:Int)) k)):Ok Q (loopF step (t0,i0)):=by
 subst hi0
 refine ok_loop (fun s=>∃ i:Nat,s.2=(i:Int)∧i≤n∧Inv i s.1) (fun s=>n - s.2.toNat) ⟨a,rfl,ha,h0⟩ (by show n - _<18446744073709551616; omega) ?_
 rintro ⟨t,i'⟩ k ⟨i,e,hi,hI⟩ hk
 simp only at e hI; subst e
 by_cases h' : i=n
 ·subst h'; exact he t k hI
 ·refine h i t k (by omega) hI fun t' ht'=>hk _ ⟨i+1,addI_nat (by omega),by omega,ht'⟩ ?_
  rw [addI_nat (by omega)]
  simp only [Int.toNat_natCast]; omega
theorem loop_rel {σ' : Type} {step:σ→(σ→Option ρ)→Option ρ} {step' : σ'→(σ'→Option ρ)→Option ρ} (R:σ→σ'→Prop) {s:σ} {s' : σ'} (h0:R s s')
  (h:∀ s s' k k',R s s'→(∀ t t',R t t'→k t=k' t')→step s k=step' s' k'):loopF step s=loopF step' s':=by
 have key:∀ n s s',R s s'→loopK step n s=loopK step' n s':=by
  intro n
  induction n with
  | zero=>intros; rfl
  | succ n ih=>intro s s' hs; exact h s s' _ _ hs ih
 exact key fuel s s' h0
end
end Go.Pv
namespace Go.Pv
open Go
theorem rows_of {α:Type} {enc:α→List PV} {ok:α→Prop}:∀ {es:List (List PV)},(∀ r∈es,∃ x,r=enc x∧ok x)→∃ l:List α,es=l.map enc∧(∀ x∈l,ok x)∧l.length=es.length
 | [],_=>⟨[],rfl,by simp,rfl⟩
 | r::es,h=>by
  obtain ⟨x,e,hx⟩:=h r (by simp)
  obtain ⟨l,e2,h2,h3⟩:=rows_of fun r hr=>h r (List.mem_cons_of_mem _ hr)
  refine ⟨x::l,by rw [e,e2]; rfl,fun y hy=>?_,by simp [h3]⟩
  rcases List.mem_cons.1 hy with rfl | hy
  ·exact hx
  ·exact h2 y hy
end Go.Pv
namespace Go.Pv
open Go
structure Fit {H:Type} (N:Nat) (fit:DataW H→Prop):Prop where
 str:∀ b,fit (.lit (.string b))→b.length≤N
 sl:∀ es rest,fit (.slice es rest)→es.length≤N∧∀ e∈es,fit e
 agg:∀ es,fit (.agg es)→∀ e∈es,fit e
 ptr:∀ d,fit (.ptr d)→fit d
mutual
inductive Sn (P:Program) (N:Nat):TypeId→List PV→Prop
 | int {t:TypeId} {k:IntKind} {n:Int}:P.underlying t=some (.int k)→(Lit.int k n).wf=true→Sn P N t [.si k n]
 | bool {t:TypeId} {b:Bool}:P.underlying t=some .bool→Sn P N t [.sb b]
 | str {t:TypeId} {s:ByteArray}:P.underlying t=some .string→s.size≤N→Sn P N t [.str s]
 | nilp {t e:TypeId}:P.underlying t=some (.pointer e)→Sn P N t [.nilp]
 | pp {t e:TypeId} {cs:List PV}:P.underlying t=some (.pointer e)→Sn P N e cs→Sn P N t [.pp cs]
 | sl {t e:TypeId} {es:List (List PV)}:P.underlying t=some (.slice e)→(∀ r∈es,Sn P N e r)→es.length≤N→Sn P N t [.sl (P.cellsOf e) es false]
 | struct {t:TypeId} {fs:Array Field} {cs:List PV}:P.underlying t=some (.struct fs)→SnL P N (fs.toList.map (·.type)) cs→Sn P N t cs
 | arr {t e:TypeId} {n:Nat} {cs:List PV}:P.underlying t=some (.array n e)→SnL P N (List.replicate n e) cs→Sn P N t cs
inductive SnL (P:Program) (N:Nat):List TypeId→List PV→Prop
 | nil:SnL P N [] []
 | cons {t:TypeId} {ts:List TypeId} {a b:List PV}:Sn P N t a→SnL P N ts b→SnL P N (t::ts) (a ++ b)
end
section
variable {H:Type} {enc:TypeId × Value→H} {P:Program} {w:World} {base:Nat} {sp:Nat→Bool} {held:Bool} {N:Nat} {fit:DataW H→Prop}
mutual
theorem Sn.cells {t:TypeId} {cs:List PV}:Sn P N t cs→allCell cs=true
 | .int _ _=>rfl
 | .bool _=>rfl
 | .str _ _=>rfl
 | .nilp _=>rfl
 | .pp _ _=>rfl
 | .sl _ _ _=>rfl
 | .struct _ h=>SnL.cells h
 | .arr _ h=>SnL.cells h
theorem SnL.cells {ts:List TypeId} {cs:List PV}:SnL P N ts cs→allCell cs=true
 | .nil=>rfl
 | .cons h k=>allCell_app _ _ (Sn.cells h) (SnL.cells k)
end
theorem fields_readN {ts:List TypeId} {cs:List Value} {xs:Nat→Option (DataW H × List MemPlace)} {m:Nat}
  (ih:∀ (t:TypeId) (cs:List Value) x,t∈ts→DataW.trod enc P w base sp held m t cs=some x→fit x.1→∃ ps,RepL w NoY noSg ps cs∧Sn P N t ps∧cs.length=P.cellsOf t) :
  ∀ (fs:List Field) (n k:Nat),contig P ts fs n=some cs.length→n≤cs.length →
   (∀ (i:Nat) (f:Field),fs[i]?=some f→DataW.trod enc P w base sp held m f.type ((cs.drop f.offset).take (P.cellsOf f.type))=xs (k+i)∧∃ y,xs (k+i)=some y∧fit y.1) →
   ∃ ps,RepL w NoY noSg ps (cs.drop n)∧SnL P N (fs.map (·.type)) ps
 | [],n,k,hc,hn,_=>by
  simp only [contig,Option.some.injEq] at hc
  subst hc
  exact ⟨[],by simp [RepL],.nil⟩
 | f::fs,n,k,hc,hn,hx=>by
  simp only [contig] at hc
  cases hb:(Nat.beq f.offset n && ts.contains f.type) with
  | false=>rw [hb] at hc; cases hc
  | true =>
   rw [hb] at hc
   simp only [cond_true] at hc
   simp only [Bool.and_eq_true] at hb
   have hoff:=Nat.eq_of_beq_eq_true hb.1
   obtain ⟨h1,y,h2,h3⟩:=hx 0 f rfl
   rw [h2,hoff] at h1
   obtain ⟨ps,hr,hs,hl⟩:=ih _ _ _ (by simpa using hb.2) h1 h3
   have hle:n+P.cellsOf f.type≤cs.length:=by
    rw [List.length_take,List.length_drop] at hl
    omega
   obtain ⟨qs,hr2,hs2⟩:=fields_readN ih fs (n+P.cellsOf f.type) (k+1) hc hle fun i g hg=>by
    have:=hx (i+1) g (by simpa using hg)
    rw [show k+(i+1)=k+1+i by omega] at this
    exact this
   refine ⟨ps ++ qs,?_,by simpa using SnL.cons hs hs2⟩
   have:=hr.append hr2
   rwa [← List.drop_drop,List.take_append_drop] at this
theorem elems_readN {e:TypeId} {cs:List Value} {m sz:Nat} {xs:Nat→Option (DataW H × List MemPlace)}
  (ih:∀ (cs:List Value) x,DataW.trod enc P w base sp held m e cs=some x→fit x.1→∃ ps,RepL w NoY noSg ps cs∧Sn P N e ps∧cs.length=P.cellsOf e) (hsz:sz=P.cellsOf e) :
  ∀ (k s:Nat),cs.length=(s+k) * sz→(∀ i,i<s+k→DataW.trod enc P w base sp held m e ((cs.drop (i * sz)).take sz)=xs i∧∃ y,xs i=some y∧fit y.1) →
   ∃ ps,RepL w NoY noSg ps (cs.drop (s * sz))∧SnL P N (List.replicate k e) ps
 | 0,s,hl,_=>by
  refine ⟨[],?_,.nil⟩
  rw [List.drop_eq_nil_of_le (by rw [hl]; simp)]
  simp [RepL]
 | k+1,s,hl,hx=>by
  obtain ⟨h1,y,h2,h3⟩:=hx s (by omega)
  rw [h2] at h1
  obtain ⟨ps,hr,hs,hl2⟩:=ih _ _ h1 h3
  obtain ⟨qs,hr2,hs2⟩:=elems_readN ih hsz k (s+1) (by rw [hl]; congr 1; omega) fun i hi=>hx i (by omega)
  refine ⟨ps ++ qs,?_,by rw [List.replicate_succ]; exact .cons hs hs2⟩
  have:=hr.append hr2
  rwa [show (s+1) * sz=s * sz+sz by rw [Nat.add_mul]; omega,← List.drop_drop,List.take_append_drop] at this
theorem rows_readN {e:TypeId} {m:Nat} {a:Addr} {xs:Nat→Option (DataW H × List MemPlace)} (hspot:a.spot=none)
  (ih:∀ (cs:List Value) x,DataW.trod enc P w base sp held m e cs=some x→fit x.1→∃ ps,RepL w NoY noSg ps cs∧Sn P N e ps∧cs.length=P.cellsOf e) :
  ∀ (k s:Nat),(∀ i,i<s+k→(w.cells? base (a.add (i * P.cellsOf e)) (P.cellsOf e)).bind (DataW.trod enc P w base sp held m e)=xs i∧∃ y,xs i=some y∧fit y.1) →
   ∃ es,RepR w NoY noSg a.block (P.cellsOf e) es (a.off+s * P.cellsOf e)∧(∀ r∈es,Sn P N e r)∧es.length=k
 | 0,s,_=>⟨[],by simp [RepR],by simp,rfl⟩
 | k+1,s,hx=>by
  obtain ⟨h1,y,h2,h3⟩:=hx s (by omega)
  rw [h2] at h1
  obtain ⟨vs,hv,ht⟩:=Option.bind_eq_some_iff.1 h1
  obtain ⟨ps,hr,hs,hl⟩:=ih _ _ ht h3
  obtain ⟨es,hr2,hs2,hl2⟩:=rows_readN hspot ih k (s+1) fun i hi=>hx i (by omega)
  rw [addr_plus hspot] at hv
  refine ⟨ps::es,?_,?_,by simp [hl2]⟩
  ·unfold RepR
   refine ⟨⟨by rw [← hr.length,hl],hs.cells⟩,row_of_cells hv hr,?_⟩
   rw [show a.off+s * P.cellsOf e+P.cellsOf e=a.off+(s+1) * P.cellsOf e by rw [Nat.add_mul]; omega]
   exact hr2
  ·intro r hr'
   rcases List.mem_cons.1 hr' with rfl | h
   ·exact hs
   ·exact hs2 r h
theorem trod_shpN {ts:List TypeId} (F:Fit N fit) (hts:layAll P ts ts=true):∀ (fuel:Nat) (t:TypeId) (cs:List Value) (x:DataW H × List MemPlace),t∈ts →
  DataW.trod enc P w base sp held fuel t cs=some x→fit x.1→∃ ps,RepL w NoY noSg ps cs∧Sn P N t ps∧cs.length=P.cellsOf t
 | 0,t,cs,x,_,h,_=>by simp [DataW.trod] at h
 | m+1,t,cs,x,hmem,h,hft=>by
  have hl:=layAll_spec ts hts t hmem
  have ih:=trod_shpN F hts m
  have one:∀ {p:PV} {v:Value},Rep w NoY noSg p v→RepL w NoY noSg [p] [v]:=fun h=>by unfold RepL; exact ⟨_,_,rfl,h,by unfold RepL; rfl⟩
  unfold lay1 at hl
  split at hl
  ·rename_i hu
   obtain ⟨b,rfl,_⟩:=DataW.trod_bool hu h
   exact ⟨[.sb b],one (by simp [Rep]),.bool hu,(Nat.eq_of_beq_eq_true hl).symm⟩
  ·rename_i k hu
   obtain ⟨n,rfl,_,hw⟩:=DataW.trod_int hu h
   exact ⟨[.si k n],one (by simp [Rep]),.int hu hw,(Nat.eq_of_beq_eq_true hl).symm⟩
  ·rename_i hu
   obtain ⟨s,rfl,rfl,hs⟩:=DataW.trod_string hu h
   exact ⟨[.str s],one (by simp [Rep]),.str hu (by simpa using F.str _ hft),(Nat.eq_of_beq_eq_true hl).symm⟩
  ·rename_i e hu
   simp only [Bool.and_eq_true,Nat.blt_eq] at hl
   obtain ⟨⟨h1,h2⟩,h3⟩:=hl
   have h3:e∈ts:=by simpa using h3
   have h1:=(Nat.eq_of_beq_eq_true h1).symm
   rcases DataW.trod_pointer hu h with ⟨rfl,_⟩ | ⟨a,cs',y,n,hf,rfl,rfl,hc,ht⟩
   ·exact ⟨[.nilp],one (by simp [Rep]),.nilp hu,h1⟩
   ·cases hf
    obtain ⟨ps,hr,hs,_⟩:=ih e _ _ h3 ht (F.ptr _ hft)
    obtain ⟨hsp,hlt⟩:=first_cell h2 hc
    refine ⟨[.pp ps],one ?_,.pp hu hs,h1⟩
    have ha:a=⟨a.block,a.off,none⟩:=by cases a; simp at hsp; simp [hsp]
    rw [ha] at hc
    unfold Rep
    exact ⟨a.block,a.off,by rw [← ha],⟨hlt,fun h=>h⟩,row_of_cells hc hr⟩
  ·rename_i e hu
   simp only [Bool.and_eq_true,Nat.blt_eq] at hl
   obtain ⟨⟨h1,h2⟩,h3⟩:=hl
   have h3:e∈ts:=by simpa using h3
   have h1:=(Nat.eq_of_beq_eq_true h1).symm
   rcases DataW.trod_slice hu h with ⟨rfl,_⟩ | ⟨a,len,cap,elems,rest,n,hf,rfl,rfl,_,hle,hmax,hlen,hel,_⟩
   ·refine ⟨[.sl (P.cellsOf e) [] false],one ?_,.sl hu (by simp) (by simp),h1⟩
    unfold Rep
    exact ⟨none,0,0,rfl,rfl,Nat.le_refl _,(fun h=>by cases h),.inl rfl⟩
   ·cases hf
    obtain ⟨hN,hfe⟩:=F.sl _ _ hft
    have hN:len≤N:=by simpa [hlen] using hN
    by_cases h0:len=0
    ·subst h0
     refine ⟨[.sl (P.cellsOf e) [] false],one ?_,.sl hu (by simp) (by simp),h1⟩
     unfold Rep
     exact ⟨some a,0,cap,rfl,rfl,hle,(fun h=>by cases h),.inl rfl⟩
    ·have hx:∀ i,i<len→∃ y,elems[i]?=some y∧fit y.1:=fun i hi=>⟨_,List.getElem?_eq_getElem (by omega),hfe _ (List.mem_map.2 ⟨_,List.getElem_mem _,rfl⟩)⟩
     obtain ⟨y,hy,_⟩:=hx 0 (by omega)
     have he0:=hel 0 (by omega)
     rw [hy] at he0
     obtain ⟨vs,hv,_⟩:=Option.bind_eq_some_iff.1 he0
     obtain ⟨hsp,hlt⟩:=first_cell h2 hv
     rw [Nat.zero_mul,show a.add 0=a by simp [Addr.add]] at hsp hlt
     obtain ⟨es,hr,hs,hl2⟩:=rows_readN (xs:=fun i=>elems[i]?) hsp (fun cs x hx hf=>ih e cs x h3 hx hf) len 0 fun i hi=>⟨hel i (by omega),hx i (by omega)⟩
     refine ⟨[.sl (P.cellsOf e) es false],one ?_,.sl hu hs (by rw [hl2]; omega),h1⟩
     have ha:a=⟨a.block,a.off,none⟩:=by cases a; simp at hsp; simp [hsp]
     unfold Rep
     refine ⟨some a,len,cap,rfl,hl2.symm,hle,(fun h=>by cases h),.inr ⟨a.block,a.off,by rw [← ha],⟨hlt,fun h=>h⟩,?_⟩⟩
     simpa using hr
  ·rename_i fs hu
   split at hl
   ·rename_i n hc
    obtain ⟨xs,n',hf,rfl,hcl,hxl,hx⟩:=DataW.trod_struct hu h
    cases hf
    have hn:=Nat.eq_of_beq_eq_true hl
    obtain ⟨ps,hr,hs⟩:=fields_readN (ts:=ts) (xs:=fun i=>xs[i]?) (fun t cs x=>ih t cs x) fs.toList 0 0 (by rw [hc,hn,hcl]) (Nat.zero_le _) fun i f hi=>by
     have hi' : fs[i]?=some f:=by simpa using hi
     have hlt:i<fs.size:=by
      by_cases h:i<fs.size
      ·exact h
      ·rw [Array.getElem?_eq_none (Nat.le_of_not_lt h)] at hi'; cases hi'
     refine ⟨by simpa using hx i f hi',_,by rw [Nat.zero_add]; exact List.getElem?_eq_getElem (by omega),F.agg _ hft _ (List.mem_map.2 ⟨_,List.getElem_mem _,rfl⟩)⟩
    exact ⟨ps,by simpa using hr,.struct hu hs,hcl⟩
   ·cases hl
  ·rename_i n e hu
   simp only [Bool.and_eq_true] at hl
   have h3:e∈ts:=by simpa using hl.2
   obtain ⟨xs,m',hf,rfl,hcl,hxl,hx⟩:=DataW.trod_array hu h
   cases hf
   obtain ⟨ps,hr,hs⟩:=elems_readN (xs:=fun i=>xs[i]?) (fun cs x hx hf=>ih e cs x h3 hx hf) rfl n 0 (by rw [hcl,Nat.zero_add]; exact Nat.eq_of_beq_eq_true hl.1) fun i hi=>⟨hx i (by omega),_,List.getElem?_eq_getElem (by omega),F.agg _ hft _ (List.mem_map.2 ⟨_,List.getElem_mem _,rfl⟩)⟩
   exact ⟨ps,by simpa using hr,.arr hu hs,hcl⟩
  ·cases hl
inductive SnV (P:Program) (N:Nat) (t:TypeId):PV→Prop
 | one {p:PV}:Sn P N t [p]→isAggT P t=false→SnV P N t p
 | agg {cs:List PV}:Sn P N t cs→isAggT P t=true→SnV P N t (.agg cs)
inductive SnVL (P:Program) (N:Nat):List TypeId→List PV→Prop
 | nil:SnVL P N [] []
 | cons {t:TypeId} {ts:List TypeId} {p:PV} {ps:List PV}:SnV P N t p→SnVL P N ts ps→SnVL P N (t::ts) (p::ps)
theorem value_shpN {ts:List TypeId} (F:Fit N fit) (hts:layAll P ts ts=true) {t:TypeId} (hmem:t∈ts) {v:Value} {d:DataW H} {pl:List MemPlace} {r:Reach} {b0:Nat} (hval:Value.okWide P w r b0 t v) (h:DataW.Trod enc P w base sp held t v d pl) (hft:fit d) :
  ∃ p,Rep w NoY noSg p v∧SnV P N t p:=by
 obtain ⟨fuel,h⟩:=h
 obtain ⟨ps,hr,hs,_⟩:=trod_shpN F hts fuel t _ _ hmem h hft
 have hl:=layAll_spec ts hts t hmem
 have agg:(∃ cs,v=.agg cs)→isAggT P t=true→∃ p,Rep w NoY noSg p v∧SnV P N t p:=by
  rintro ⟨cs,rfl⟩ ha
  refine ⟨.agg ps,?_,.agg hs ha⟩
  unfold Rep
  exact ⟨cs.toList,by simp,by simpa [Value.cells] using hr⟩
 have one:v.cells.toList=[v]→isAggT P t=false→∃ p,Rep w NoY noSg p v∧SnV P N t p:=by
  intro hv ha
  rw [hv] at hr
  have hlen:=hr.length
  match ps,hr,hs,hlen with
  | [p],hr,hs,_ =>
   obtain ⟨u,e,hp⟩:=evA_one hr
   cases e
   exact ⟨p,hp,.one hs ha⟩
 unfold lay1 at hl
 unfold Value.okWide at hval
 split at hl
 ·rename_i hu
  rw [hu] at hval
  obtain ⟨b,hb,_⟩:=DataW.trod_bool hu h
  refine one ?_ (by simp [isAggT,hu])
  cases v <;> simp_all [Value.cells,Cell.okWide,Cell.ok]
 ·rename_i k hu
  rw [hu] at hval
  obtain ⟨b,hb,_⟩:=DataW.trod_int hu h
  refine one ?_ (by simp [isAggT,hu])
  cases v <;> simp_all [Value.cells,Cell.okWide,Cell.ok]
 ·rename_i hu
  rw [hu] at hval
  obtain ⟨b,hb,_⟩:=DataW.trod_string hu h
  refine one ?_ (by simp [isAggT,hu])
  cases v <;> simp_all [Value.cells,Cell.okWide,Cell.ok]
 ·rename_i e hu
  rw [hu] at hval
  refine one ?_ (by simp [isAggT,hu])
  cases v <;> simp_all [Value.cells,Cell.okWide,Cell.ok]
 ·rename_i e hu
  rw [hu] at hval
  refine one ?_ (by simp [isAggT,hu])
  cases v <;> simp_all [Value.cells,Cell.okWide,Cell.ok]
 ·rename_i fs hu
  rw [hu] at hval
  obtain ⟨cs,hc,_⟩:=hval
  exact agg ⟨cs,hc⟩ (by simp [isAggT,hu])
 ·rename_i n e hu
  rw [hu] at hval
  obtain ⟨cs,hc,_⟩:=hval
  exact agg ⟨cs,hc⟩ (by simp [isAggT,hu])
 ·cases hl
theorem args_shpN {ts:List TypeId} (F:Fit N fit) (hts:layAll P ts ts=true) {r:Reach} {b0:Nat}:∀ (params:List TypeId) (vs:List Value) (ds:List (DataW H)) (pl:List MemPlace),(∀ t∈params,t∈ts) →
  (∀ (j:Nat) t v,params[j]?=some t→vs[j]?=some v→Value.okWide P w r b0 t v)→DataW.TrodAll enc P w base sp held params vs ds pl→(∀ d∈ds,fit d) →
  ∃ ps,RepL w NoY noSg ps vs∧SnVL P N params ps∧ds.length=params.length
 | [],[],[],_,_,_,_,_=>⟨[],by simp [RepL],.nil,rfl⟩
 | t::params,v::vs,d::ds,pl,hm,hval,h,hft=>by
  obtain ⟨p,q,h1,h2,_⟩:=h
  obtain ⟨x,hx,hs⟩:=value_shpN F hts (hm t (by simp)) (hval 0 t v rfl rfl) h1 (hft d (by simp))
  obtain ⟨xs,hxs,hss,hl⟩:=args_shpN F hts params vs ds q (fun t ht=>hm t (by simp [ht])) (fun j t v h1 h2=>hval (j+1) t v (by simpa using h1) (by simpa using h2)) h2 (fun d hd=>hft d (by simp [hd]))
  exact ⟨x::xs,by unfold RepL; exact ⟨v,vs,rfl,hx,hxs⟩,.cons hs hss,by simp [hl]⟩
 | [],_::_,_,_,_,_,h,_=>h.elim
 | [],[],_::_,_,_,_,h,_=>h.elim
 | _::_,[],_,_,_,_,h,_=>h.elim
 | _::_,_::_,[],_,_,_,h,_=>h.elim
theorem law_callsN (F:Fit N fit) {f:FuncId} {fn:Func} {s:ChangeSpec} {apart:Bool} {ts:List TypeId} (hB:lawB P ts fn.params.toList=true) (hvars:s.vars=[]) {tb:TypeId} (hres:fn.resultTypes=#[tb]) (hb:P.underlying tb=some .bool)
  (hspec:∀ (ds:List (DataW H)),ds.length=fn.params.toList.length→(s.fn H ds).results=[.lit (.bool true)]∧(s.fn H ds).args=ds∧(s.fn H ds).vars=[])
  {G:Nat→Option (List PV)} (hFn:∀ pvs,SnVL P N fn.params.toList pvs→Fn P G f pvs (fun u=>u=.sb true))
  (W:World) (hG:Glob G W NoY) (base:Nat) (args:Array Value) (ds gs:List (DataW H)) (before:List MemPlace)
  (hval:∀ (j:Nat) t v,fn.params[j]?=some t→args[j]?=some v→Value.okWide P W .any base t v)
  (hft:∀ d∈ds,fit d) (hW:DataW.Whole enc P fn.params.toList s.vars apart W args.toList ds gs before) :
  Calls P f args W fun e W'=>∃ v,e=.returned v∧s.post enc P fn apart true false false W args v W':=by
 unfold lawB at hB
 simp only [Bool.and_eq_true,List.all_eq_true] at hB
 obtain ⟨⟨hl,hts⟩,hp⟩:=hB
 have hp:∀ t∈fn.params.toList,t∈ts∧P.readableRec t=true∧t<P.types.size:=fun t ht=>by
  have:=hp t ht
  rw [Nat.blt_eq] at this
  exact ⟨by simpa using this.1.1,this.1.2,this.2⟩
 have hW0:=hW
 obtain ⟨pa,pv,hA,hV,hbef,_,_⟩:=hW
 obtain ⟨pvs,hr,hs,hlen⟩:=args_shpN F hts fn.params.toList args.toList ds pa (fun t ht=>(hp t ht).1) (fun j t v h1 h2=>hval j t v (by simpa using h1) (by simpa using h2)) hA hft
 obtain ⟨_,hcalls⟩:=hFn pvs hs W NoY args.toList hG (fun _ h=>h.elim) hr
 refine Calls.mono hcalls fun e W' h=>?_
 obtain ⟨cv,v,rfl,rfl,hrep,hchg⟩:=h
 have hcv:=rep_sb hrep
 subst hcv
 refine ⟨.bool true,rfl,?_⟩
 rw [hvars] at hV
 have hgs:gs=[]∧pv=[]:=by
  cases gs with
  | nil=>exact ⟨rfl,hV⟩
  | cons g gs=>exact hV.elim
 obtain ⟨rfl,rfl⟩:=hgs
 obtain ⟨s1,s2,s3⟩:=hspec ds hlen
 have hbefore:∀ p∈before,p.block<W.heap.size:=fun p hp=>by simpa using hW0.lt p hp
 unfold ChangeSpec.post
 refine ⟨ds,[],before,[],pa,[],hW0,?_,?_,?_,hchg.below.frame _,fun h=>by cases h⟩
 ·rw [List.append_nil,s1,hres]
  refine ⟨[],[],⟨1,?_⟩,rfl,rfl⟩
  simp [DataW.trod,hb,Value.cells]
 ·rw [List.append_nil,s2]
  exact args_stay hl hchg.below _ _ _ _ (fun t ht=>(hp t ht).2) (fun x hx=>hbefore x (by rw [hbef]; simp [hx])) hA
 ·rw [List.append_nil,s3,hvars]
  rfl
end
section
variable {P:Program} {N:Nat} {t e:TypeId} {cs:List PV} {p:PV}
theorem Sn.inv_int {k:IntKind} (hu:P.underlying t=some (.int k)) (h:Sn P N t cs):∃ n,cs=[.si k n]∧(Lit.int k n).wf=true:=by
 cases h with
 | int h1 h2=>rw [hu] at h1; cases h1; exact ⟨_,rfl,h2⟩
 | _=>simp_all
theorem Sn.inv_bool (hu:P.underlying t=some .bool) (h:Sn P N t cs):∃ b,cs=[.sb b]:=by
 cases h with
 | bool h1=>exact ⟨_,rfl⟩
 | _=>simp_all
theorem Sn.inv_str (hu:P.underlying t=some .string) (h:Sn P N t cs):∃ s,cs=[.str s]∧s.size≤N:=by
 cases h with
 | str h1 h2=>exact ⟨_,rfl,h2⟩
 | _=>simp_all
theorem Sn.inv_slice (hu:P.underlying t=some (.slice e)) (h:Sn P N t cs):∃ es,cs=[.sl (P.cellsOf e) es false]∧(∀ r∈es,Sn P N e r)∧es.length≤N:=by
 cases h with
 | sl h1 h2 h3=>rw [hu] at h1; cases h1; exact ⟨_,rfl,h2,h3⟩
 | _=>simp_all
theorem Sn.inv_struct {fs:Array Field} (hu:P.underlying t=some (.struct fs)) (h:Sn P N t cs):SnL P N (fs.toList.map (·.type)) cs:=by
 cases h with
 | struct h1 h2=>rw [hu] at h1; cases h1; exact h2
 | _=>simp_all
theorem Sn.inv_arr {n:Nat} (hu:P.underlying t=some (.array n e)) (h:Sn P N t cs):SnL P N (List.replicate n e) cs:=by
 cases h with
 | arr h1 h2=>rw [hu] at h1; cases h1; exact h2
 | _=>simp_all
theorem SnL.inv_cons {ts:List TypeId} (h:SnL P N (t::ts) cs):∃ a b,cs=a ++ b∧Sn P N t a∧SnL P N ts b:=by
 cases h with
 | cons h1 h2=>exact ⟨_,_,rfl,h1,h2⟩
theorem SnL.inv_nil (h:SnL P N [] cs):cs=[]:=by cases h; rfl
theorem SnV.inv_agg (ha:isAggT P t=true) (h:SnV P N t p):∃ cs,p=.agg cs∧Sn P N t cs:=by
 cases h with
 | one h1 h2=>rw [ha] at h2; cases h2
 | agg h1 h2=>exact ⟨_,rfl,h1⟩
theorem SnV.inv_one (ha:isAggT P t=false) (h:SnV P N t p):Sn P N t [p]:=by
 cases h with
 | one h1 h2=>exact h1
 | agg h1 h2=>rw [ha] at h2; cases h2
theorem SnVL.inv_cons {ts:List TypeId} {ps:List PV} (h:SnVL P N (t::ts) ps):∃ a b,ps=a::b∧SnV P N t a∧SnVL P N ts b:=by
 cases h with
 | cons h1 h2=>exact ⟨_,_,rfl,h1,h2⟩
theorem SnVL.inv_nil {ps:List PV} (h:SnVL P N [] ps):ps=[]:=by cases h; rfl
end
end Go.Pv
namespace Go.Pv
open Go
theorem half_lt {m f:Nat} (h:m<f):Nat.div m 2<f:=Nat.lt_of_le_of_lt (Nat.div_le_self m 2) h
theorem half_inj {m k:Nat} (hp:Nat.beq (Nat.mod m 2) 0=Nat.beq (Nat.mod k 2) 0) (hd:Nat.div m 2=Nat.div k 2):m=k:=by
 have h1:m / 2=k / 2:=hd
 have h2:Nat.beq (m % 2) 0=Nat.beq (k % 2) 0:=hp
 have h3:m % 2=0∨m % 2=1:=by omega
 have h4:k % 2=0∨k % 2=1:=by omega
 rcases h3 with h3 | h3 <;> rcases h4 with h4 | h4 <;> rw [h3,h4] at h2 <;> first | omega | (cases h2)
noncomputable def setPF (f:Nat):PV→Nat→Tr PV→Tr PV:=fun x k t=>Nat.rec (motive:=fun _=>PV→Nat→Tr PV→Tr PV) (fun _ _ t=>t)
 (fun _ ih x k t=>Tr.rec (motive:=fun _=>Tr PV)
  (Nat.rec (motive:=fun _=>Tr PV) (Tr.n x Tr.e Tr.e) (fun m _=>Bool.rec (motive:=fun _=>Tr PV) (Tr.n PV.undef Tr.e (ih x (Nat.div m 2) Tr.e)) (Tr.n PV.undef (ih x (Nat.div m 2) Tr.e) Tr.e) (Nat.beq (Nat.mod m 2) 0)) k)
  (fun v l r _ _=>Nat.rec (motive:=fun _=>Tr PV) (Tr.n x l r) (fun m _=>Bool.rec (motive:=fun _=>Tr PV) (Tr.n v l (ih x (Nat.div m 2) r)) (Tr.n v (ih x (Nat.div m 2) l) r) (Nat.beq (Nat.mod m 2) 0)) k) t) f x k t
theorem getP_ns (v:PV) (l r:Tr PV) (m:Nat):getP (.n v l r) (m+1)=Bool.rec (motive:=fun _=>PV) (getP r (Nat.div m 2)) (getP l (Nat.div m 2)) (Nat.beq (Nat.mod m 2) 0):=rfl
theorem getP_setPF:∀ (f k:Nat),k<f→∀ (x:PV) (t:Tr PV) (j:Nat),getP (setPF f x k t) j=if j=k then x else getP t j
 | 0,k,h,_,_,_=>by omega
 | f+1,0,_,x,t,j=>by
  cases t with
  | e =>
   show getP (Tr.n x Tr.e Tr.e) j=_
   cases j with
   | zero=>rfl
   | succ j =>
    rw [getP_ns,if_neg (by omega)]
    show _=PV.undef
    cases Nat.beq (Nat.mod j 2) 0 <;> rfl
  | n v l r =>
   show getP (Tr.n x l r) j=_
   cases j with
   | zero=>rfl
   | succ j=>rw [if_neg (by omega)]; rfl
 | f+1,k+1,h,x,t,j=>by
  have ih:=fun (t:Tr PV) (j:Nat)=>getP_setPF f (Nat.div k 2) (half_lt (by omega)) x t j
  cases t with
  | e =>
   show getP (Bool.rec (motive:=fun _=>Tr PV) (Tr.n PV.undef Tr.e (setPF f x (Nat.div k 2) Tr.e)) (Tr.n PV.undef (setPF f x (Nat.div k 2) Tr.e) Tr.e) (Nat.beq (Nat.mod k 2) 0)) j=_
   cases hb:Nat.beq (Nat.mod k 2) 0 with
   | false =>
    cases j with
    | zero=>rw [if_neg (by omega)]; rfl
    | succ j =>
     rw [getP_ns]
     cases hj:Nat.beq (Nat.mod j 2) 0 with
     | false =>
      show getP (setPF f x (Nat.div k 2) Tr.e) (Nat.div j 2)=_
      rw [ih]
      by_cases he:Nat.div j 2=Nat.div k 2
      ·rw [if_pos he,if_pos (by rw [half_inj (by rw [hb,hj]) he])]
      ·rw [if_neg he,if_neg (by intro e; apply he; rw [Nat.succ.inj e])]; rfl
     | true =>
      show getP Tr.e _=_
      rw [if_neg (by intro e; rw [Nat.succ.inj e,hb] at hj; cases hj)]; rfl
   | true =>
    cases j with
    | zero=>rw [if_neg (by omega)]; rfl
    | succ j =>
     rw [getP_ns]
     cases hj:Nat.beq (Nat.mod j 2) 0 with
     | true =>
      show getP (setPF f x (Nat.div k 2) Tr.e) (Nat.div j 2)=_
      rw [ih]
      by_cases he:Nat.div j 2=Nat.div k 2
      ·rw [if_pos he,if_pos (by rw [half_inj (by rw [hb,hj]) he])]
      ·rw [if_neg he,if_neg (by intro e; apply he; rw [Nat.succ.inj e])]; rfl
     | false =>
      show getP Tr.e _=_
      rw [if_neg (by intro e; rw [Nat.succ.inj e,hb] at hj; cases hj)]; rfl
  | n v l r =>
   show getP (Bool.rec (motive:=fun _=>Tr PV) (Tr.n v l (setPF f x (Nat.div k 2) r)) (Tr.n v (setPF f x (Nat.div k 2) l) r) (Nat.beq (Nat.mod k 2) 0)) j=_
   cases hb:Nat.beq (Nat.mod k 2) 0 with
   | false =>
    cases j with
    | zero=>rw [if_neg (by omega)]; rfl
    | succ j =>
     rw [getP_ns,getP_ns]
     cases hj:Nat.beq (Nat.mod j 2) 0 with
     | false =>
      show getP (setPF f x (Nat.div k 2) r) (Nat.div j 2)=_
      rw [ih]
      by_cases he:Nat.div j 2=Nat.div k 2
      ·rw [if_pos he,if_pos (by rw [half_inj (by rw [hb,hj]) he])]
      ·rw [if_neg he,if_neg (by intro e; apply he; rw [Nat.succ.inj e])]
     | true=>rw [if_neg (by intro e; rw [Nat.succ.inj e,hb] at hj; cases hj)]
   | true =>
    cases j with
    | zero=>rw [if_neg (by omega)]; rfl
    | succ j =>
     rw [getP_ns,getP_ns]
     cases hj:Nat.beq (Nat.mod j 2) 0 with
     | true =>
      show getP (setPF f x (Nat.div k 2) l) (Nat.div j 2)=_
      rw [ih]
      by_cases he:Nat.div j 2=Nat.div k 2
      ·rw [if_pos he,if_pos (by rw [half_inj (by rw [hb,hj]) he])]
      ·rw [if_neg he,if_neg (by intro e; apply he; rw [Nat.succ.inj e])]
     | false=>rw [if_neg (by intro e; rw [Nat.succ.inj e,hb] at hj; cases hj)]
theorem getP_setP (x:PV) (k:Nat) (t:Tr PV) (j:Nat):getP (setP x k t) j=if j=k then x else getP t j:=getP_setPF (k+1) k (by omega) x t j
noncomputable def setBF (f:Nat):Option Blk→Nat→Sb→Sb:=fun x k t=>Nat.rec (motive:=fun _=>Option Blk→Nat→Sb→Sb) (fun _ _ t=>t)
 (fun _ ih x k t=>Tr.rec (motive:=fun _=>Sb)
  (Nat.rec (motive:=fun _=>Sb) (Tr.n x Tr.e Tr.e) (fun m _=>Bool.rec (motive:=fun _=>Sb) (Tr.n none Tr.e (ih x (Nat.div m 2) Tr.e)) (Tr.n none (ih x (Nat.div m 2) Tr.e) Tr.e) (Nat.beq (Nat.mod m 2) 0)) k)
  (fun v l r _ _=>Nat.rec (motive:=fun _=>Sb) (Tr.n x l r) (fun m _=>Bool.rec (motive:=fun _=>Sb) (Tr.n v l (ih x (Nat.div m 2) r)) (Tr.n v (ih x (Nat.div m 2) l) r) (Nat.beq (Nat.mod m 2) 0)) k) t) f x k t
theorem getB_ns (v:Option Blk) (l r:Sb) (m:Nat):getB (.n v l r) (m+1)=Bool.rec (motive:=fun _=>Option Blk) (getB r (Nat.div m 2)) (getB l (Nat.div m 2)) (Nat.beq (Nat.mod m 2) 0):=rfl
theorem getB_setBF:∀ (f k:Nat),k<f→∀ (x:Option Blk) (t:Sb) (j:Nat),getB (setBF f x k t) j=if j=k then x else getB t j
 | 0,k,h,_,_,_=>by omega
 | f+1,0,_,x,t,j=>by
  cases t with
  | e =>
   show getB (Tr.n x Tr.e Tr.e) j=_
   cases j with
   | zero=>rfl
   | succ j =>
    rw [getB_ns,if_neg (by omega)]
    show _=none
    cases Nat.beq (Nat.mod j 2) 0 <;> rfl
  | n v l r =>
   show getB (Tr.n x l r) j=_
   cases j with
   | zero=>rfl
   | succ j=>rw [if_neg (by omega)]; rfl
 | f+1,k+1,h,x,t,j=>by
  have ih:=fun (t:Sb) (j:Nat)=>getB_setBF f (Nat.div k 2) (half_lt (by omega)) x t j
  cases t with
  | e =>
   show getB (Bool.rec (motive:=fun _=>Sb) (Tr.n none Tr.e (setBF f x (Nat.div k 2) Tr.e)) (Tr.n none (setBF f x (Nat.div k 2) Tr.e) Tr.e) (Nat.beq (Nat.mod k 2) 0)) j=_
   cases hb:Nat.beq (Nat.mod k 2) 0 with
   | false =>
    cases j with
    | zero=>rw [if_neg (by omega)]; rfl
    | succ j =>
     rw [getB_ns]
     cases hj:Nat.beq (Nat.mod j 2) 0 with
     | false =>
      show getB (setBF f x (Nat.div k 2) Tr.e) (Nat.div j 2)=_
      rw [ih]
      by_cases he:Nat.div j 2=Nat.div k 2
      ·rw [if_pos he,if_pos (by rw [half_inj (by rw [hb,hj]) he])]
      ·rw [if_neg he,if_neg (by intro e; apply he; rw [Nat.succ.inj e])]; rfl
     | true =>
      show getB Tr.e _=_
      rw [if_neg (by intro e; rw [Nat.succ.inj e,hb] at hj; cases hj)]; rfl
   | true =>
    cases j with
    | zero=>rw [if_neg (by omega)]; rfl
    | succ j =>
     rw [getB_ns]
     cases hj:Nat.beq (Nat.mod j 2) 0 with
     | true =>
      show getB (setBF f x (Nat.div k 2) Tr.e) (Nat.div j 2)=_
      rw [ih]
      by_cases he:Nat.div j 2=Nat.div k 2
      ·rw [if_pos he,if_pos (by rw [half_inj (by rw [hb,hj]) he])]
      ·rw [if_neg he,if_neg (by intro e; apply he; rw [Nat.succ.inj e])]; rfl
     | false =>
      show getB Tr.e _=_
      rw [if_neg (by intro e; rw [Nat.succ.inj e,hb] at hj; cases hj)]; rfl
  | n v l r =>
   show getB (Bool.rec (motive:=fun _=>Sb) (Tr.n v l (setBF f x (Nat.div k 2) r)) (Tr.n v (setBF f x (Nat.div k 2) l) r) (Nat.beq (Nat.mod k 2) 0)) j=_
   cases hb:Nat.beq (Nat.mod k 2) 0 with
   | false =>
    cases j with
    | zero=>rw [if_neg (by omega)]; rfl
    | succ j =>
     rw [getB_ns,getB_ns]
     cases hj:Nat.beq (Nat.mod j 2) 0 with
     | false =>
      show getB (setBF f x (Nat.div k 2) r) (Nat.div j 2)=_
      rw [ih]
      by_cases he:Nat.div j 2=Nat.div k 2
      ·rw [if_pos he,if_pos (by rw [half_inj (by rw [hb,hj]) he])]
      ·rw [if_neg he,if_neg (by intro e; apply he; rw [Nat.succ.inj e])]
     | true=>rw [if_neg (by intro e; rw [Nat.succ.inj e,hb] at hj; cases hj)]
   | true =>
    cases j with
    | zero=>rw [if_neg (by omega)]; rfl
    | succ j =>
     rw [getB_ns,getB_ns]
     cases hj:Nat.beq (Nat.mod j 2) 0 with
     | true =>
      show getB (setBF f x (Nat.div k 2) l) (Nat.div j 2)=_
      rw [ih]
      by_cases he:Nat.div j 2=Nat.div k 2
      ·rw [if_pos he,if_pos (by rw [half_inj (by rw [hb,hj]) he])]
      ·rw [if_neg he,if_neg (by intro e; apply he; rw [Nat.succ.inj e])]
     | false=>rw [if_neg (by intro e; rw [Nat.succ.inj e,hb] at hj; cases hj)]
theorem getB_setB (x:Option Blk) (k:Nat) (t:Sb) (j:Nat):getB (setB x k t) j=if j=k then x else getB t j:=getB_setBF (k+1) k (by omega) x t j
@[simp] theorem lenR_eq:∀ l,lenR l=l.length
 | []=>rfl
 | _::l=>by show Nat.succ (lenR l)=_; rw [lenR_eq l]; rfl
@[simp] theorem lenRR_eq:∀ l,lenRR l=l.length
 | []=>rfl
 | _::l=>by show Nat.succ (lenRR l)=_; rw [lenRR_eq l]; rfl
@[simp] theorem dropR_eq:∀ n l,dropR n l=l.drop n
 | 0,l=>rfl
 | n+1,[]=>by simp; rfl
 | n+1,x::l=>by show dropR n l=_; rw [dropR_eq n l]; simp
@[simp] theorem takeR_eq:∀ n l,takeR n l=l.take n
 | 0,l=>by simp; rfl
 | n+1,[]=>by simp; rfl
 | n+1,x::l=>by show x::takeR n l=_; rw [takeR_eq n l]; simp
@[simp] theorem dropRR_eq:∀ n l,dropRR n l=l.drop n
 | 0,l=>rfl
 | n+1,[]=>by simp; rfl
 | n+1,x::l=>by show dropRR n l=_; rw [dropRR_eq n l]; simp
@[simp] theorem takeRR_eq:∀ n l,takeRR n l=l.take n
 | 0,l=>by simp; rfl
 | n+1,[]=>by simp; rfl
 | n+1,x::l=>by show x::takeRR n l=_; rw [takeRR_eq n l]; simp
@[simp] theorem appRR_eq:∀ l m,appRR l m=l ++ m
 | [],m=>by simp; rfl
 | x::l,m=>by show x::appRR l m=_; rw [appRR_eq l m]; simp
@[simp] theorem appR_eq:∀ l m,appR l m=l ++ m
 | [],m=>by simp; rfl
 | x::l,m=>by show x::appR l m=_; rw [appR_eq l m]; simp
@[simp] theorem appD_eq:∀ l m,appD l m=l ++ m
 | [],m=>by simp; rfl
 | x::l,m=>by show x::appD l m=_; rw [appD_eq l m]; simp
@[simp] theorem setRR_eq:∀ l n v,setRR l n v=l.set n v
 | [],n,v=>by simp; rfl
 | x::l,0,v=>by simp; rfl
 | x::l,n+1,v=>by show x::setRR l n v=_; rw [setRR_eq l n v]; simp
@[simp] theorem repR_eq:∀ n l,repR n l=repL n l
 | 0,l=>rfl
 | n+1,l=>by show appR l (repR n l)=appL l (repL n l); rw [repR_eq n l]; simp
@[simp] theorem repRR_eq:∀ n l,repRR n l=List.replicate n l
 | 0,l=>by simp; rfl
 | n+1,l=>by show l::repRR n l=_; rw [repRR_eq n l]; simp [List.replicate_succ]
@[simp] theorem chkR_eq:∀ n sz l,chkR n sz l=chunks sz n l
 | 0,sz,l=>rfl
 | n+1,sz,l=>by show takeR sz l::chkR n sz (dropR sz l)=takeL sz l::chunks sz n (dropL sz l); rw [chkR_eq n]; simp
@[simp] theorem evA1_eq {T:Tab} {ps:List PV} {ev:Operand→PV} (h:∀ x,ev x=evL T ps x):∀ l,evA1 ev l=evA T ps l
 | []=>rfl
 | x::l=>by show ev x::evA1 ev l=_; rw [evA1_eq h l,h x]; rfl
theorem ovrR_get:∀ (cs row:List PV) (j:Nat),cs.length≤row.length→(ovrR cs row)[j]?=if j<cs.length then cs[j]? else row[j]?
 | [],row,j,_=>by rw [if_neg (by simp)]; rfl
 | x::cs,[],j,h=>by simp at h
 | x::cs,y::row,0,h=>by rw [if_pos (by simp)]; rfl
 | x::cs,y::row,j+1,h=>by
  show (x::ovrR cs row)[j+1]?=_
  simp only [List.getElem?_cons_succ,List.length_cons]
  rw [ovrR_get cs row j (by simpa using h)]
  by_cases hj:j<cs.length
  ·rw [if_pos hj,if_pos (by omega)]
  ·rw [if_neg hj,if_neg (by omega)]
theorem splR_get:∀ (c:Nat) (cs row:List PV) (j:Nat),c+cs.length≤row.length→(splR c cs row)[j]?=if c≤j∧j<c+cs.length then cs[j - c]? else row[j]?
 | 0,cs,row,j,h=>by
  show (ovrR cs row)[j]?=_
  rw [ovrR_get cs row j (by omega)]
  by_cases hj:j<cs.length
  ·rw [if_pos hj,if_pos (by omega)]; rfl
  ·rw [if_neg hj,if_neg (by omega)]
 | c+1,cs,[],j,h=>by simp at h
 | c+1,cs,x::row,0,h=>by rw [if_neg (by omega)]; rfl
 | c+1,cs,x::row,j+1,h=>by
  show (x::splR c cs row)[j+1]?=_
  simp only [List.getElem?_cons_succ]
  rw [splR_get c cs row j (by simp at h; omega)]
  by_cases hj:c≤j∧j<c+cs.length
  ·rw [if_pos hj,if_pos (by omega)]; congr 1; omega
  ·rw [if_neg hj,if_neg (by omega)]
theorem splR_eq {c:Nat} {cs row:List PV} (h:c+cs.length≤row.length):splR c cs row=writeL row c cs:=by
 apply List.ext_getElem?
 intro j
 rw [splR_get _ _ _ _ h,writeL_get _ _ _ _ h]
theorem ifK_inv {b:Bool} {x:Rs} {r:PV × Dl} (h:ifK b x=some r):b=true∧x=some r:=by
 cases b with
 | false=>cases h
 | true=>exact ⟨rfl,h⟩
theorem okK_inv {t:TI} {K:Bool→Nat→Option (List PV)→Option (List Nat)→TK→Rs} {r:PV × Dl} (h:okK t K=some r):∃ agg size zero plain kind,t=⟨true,agg,size,zero,plain,kind⟩∧K agg size zero plain kind=some r:=by
 obtain ⟨ok,agg,size,zero,plain,kind⟩:=t
 cases ok with
 | false=>cases h
 | true=>exact ⟨agg,size,zero,plain,kind,rfl,h⟩
theorem stcK_inv {t:TK} {K:List FI→Rs} {r:PV × Dl} (h:stcK t K=some r):∃ fs,t=.struct fs∧K fs=some r:=by
 cases t <;> first | (cases h; done) | exact ⟨_,rfl,h⟩
theorem sliK_inv {t:TK} {K:Nat→Nat→Option (List PV)→Rs} {r:PV × Dl} (h:sliK t K=some r):∃ sz bytes zero,t=.slice sz bytes zero∧K sz bytes zero=some r:=by
 cases t <;> first | (cases h; done) | exact ⟨_,_,_,rfl,h⟩
theorem intT_inv {t:TK} {K:IntKind→Rs} {r:PV × Dl} (h:intT t K=some r):∃ k,t=.int k∧K k=some r:=by
 cases t <;> first | (cases h; done) | exact ⟨_,rfl,h⟩
theorem strT_inv {t:TK} {K:Rs} {r:PV × Dl} (h:strT t K=some r):t=.str∧K=some r:=by
 cases t <;> first | (cases h; done) | exact ⟨rfl,h⟩
theorem ixT_inv {t:TK} {K1:Nat→Nat→Option (List PV)→Rs} {K2:Nat→Nat→Bool→Rs} {K3:Rs} {r:PV × Dl} (h:ixT t K1 K2 K3=some r) :
  (∃ sz bytes zero,t=.slice sz bytes zero∧K1 sz bytes zero=some r)∨(∃ n sz agg,t=.arr n sz agg∧K2 n sz agg=some r)∨(t=.str∧K3=some r):=by
 cases t <;> first | (cases h; done) | exact .inl ⟨_,_,_,rfl,h⟩ | exact .inr (.inl ⟨_,_,_,rfl,h⟩) | exact .inr (.inr ⟨rfl,h⟩)
theorem varK_inv {x:Option Blk} {K:Bool→List PV→Rs} {r:PV × Dl} (h:varK x K=some r):∃ ro row,x=some (.var ro row)∧K ro row=some r:=by
 cases x with
 | none=>cases h
 | some x=>cases x <;> first | (cases h; done) | exact ⟨_,_,rfl,h⟩
theorem arrK_inv {x:Option Blk} {K:Bool→Nat→List (List PV)→Rs} {r:PV × Dl} (h:arrK x K=some r):∃ ro sz rows,x=some (.arr ro sz rows)∧K ro sz rows=some r:=by
 cases x with
 | none=>cases h
 | some x=>cases x <;> first | (cases h; done) | exact ⟨_,_,_,rfl,h⟩
theorem optK_inv {x:Option (List PV)} {K:List PV→Rs} {r:PV × Dl} (h:optK x K=some r):∃ z,x=some z∧K z=some r:=by
 cases x with
 | none=>cases h
 | some z=>exact ⟨z,rfl,h⟩
theorem fldK_inv:∀ {l:List FI} {n:Nat} {K:Nat→Nat→Bool→Rs} {r:PV × Dl},fldK l n K=some r→∃ fd,fieldOf l n=some fd∧K fd.off fd.size fd.agg=some r
 | [],n,K,r,h=>by cases h
 | f::l,0,K,r,h=>⟨f,rfl,h⟩
 | f::l,n+1,K,r,h=>fldK_inv (l:=l) h
theorem rowK_inv:∀ {l:List (List PV)} {n:Nat} {K:List PV→Rs} {r:PV × Dl},rowK l n K=some r→∃ row,l[n]?=some row∧K row=some r
 | [],n,K,r,h=>by cases h
 | f::l,0,K,r,h=>⟨f,rfl,h⟩
 | f::l,n+1,K,r,h=>by
  obtain ⟨row,h1,h2⟩:=rowK_inv (l:=l) h
  exact ⟨row,by simpa using h1,h2⟩
theorem natK_inv {n:Int} {K:Nat→Rs} {r:PV × Dl} (h:natK n K=some r):∃ m:Nat,n=(m:Int)∧K m=some r:=by
 cases n with
 | ofNat m=>exact ⟨m,rfl,h⟩
 | negSucc m=>cases h
theorem intK_inv {v:PV} {K:IntKind→Int→Rs} {r:PV × Dl} (h:intK v K=some r):∃ k n,v=.int k n∧K k n=some r:=by
 cases v <;> first | (cases h; done) | exact ⟨_,_,rfl,h⟩
theorem intE_inv {v:PV} {K:IntKind→Int→Rs} {D:Rs} {r:PV × Dl} (h:intE v K D=some r):(∃ k n,v=.int k n∧K k n=some r)∨((∀ k n,v ≠ .int k n)∧D=some r):=by
 cases v <;> first | exact .inl ⟨_,_,rfl,h⟩ | exact .inr ⟨fun _ _ e=>by (cases e),h⟩
theorem bolK_inv {v:PV} {X Y:Rs} {r:PV × Dl} (h:bolK v X Y=some r):(v=.bool true∧X=some r)∨(v=.bool false∧Y=some r):=by
 cases v with
 | bool b=>cases b with
  | true=>exact .inl ⟨rfl,h⟩
  | false=>exact .inr ⟨rfl,h⟩
 | _=>cases h
theorem bolE_inv {v:PV} {X Y:Oc} {r:Nat × EV} (h:bolE v X Y=some r):(v=.bool true∧X=some r)∨(v=.bool false∧Y=some r):=by
 cases v with
 | bool b=>cases b with
  | true=>exact .inl ⟨rfl,h⟩
  | false=>exact .inr ⟨rfl,h⟩
 | _=>cases h
theorem adrK_inv {v:PV} {K1:Nat→Nat→Rs} {K2:Nat→Nat→Nat→Rs} {K3:List PV→Rs} {r:PV × Dl} (h:adrK v K1 K2 K3=some r) :
  (∃ b c,v=.lv b c∧K1 b c=some r)∨(∃ b i c,v=.lp b i c∧K2 b i c=some r)∨(∃ cs,v=.pp cs∧K3 cs=some r):=by
 cases v <;> first | (cases h; done) | exact .inl ⟨_,_,rfl,h⟩ | exact .inr (.inl ⟨_,_,_,rfl,h⟩) | exact .inr (.inr ⟨_,rfl,h⟩)
theorem slcK_inv {v:PV} {K1:Nat→List (List PV)→Bool→Rs} {K2:Nat→Nat→Nat→Rs} {K3:ByteArray→Rs} {r:PV × Dl} (h:slcK v K1 K2 K3=some r) :
  (∃ sz es full,v=.sl sz es full∧K1 sz es full=some r)∨(∃ b i n,v=.os b i n∧K2 b i n=some r)∨(∃ s,v=.str s∧K3 s=some r):=by
 cases v <;> first | (cases h; done) | exact .inl ⟨_,_,_,rfl,h⟩ | exact .inr (.inl ⟨_,_,_,rfl,h⟩) | exact .inr (.inr ⟨_,rfl,h⟩)
theorem aggK_inv {v:PV} {K:List PV→Rs} {r:PV × Dl} (h:aggK v K=some r):∃ cs,v=.agg cs∧K cs=some r:=by
 cases v <;> first | (cases h; done) | exact ⟨_,rfl,h⟩
theorem tupK_inv {v:PV} {K:List PV→Rs} {r:PV × Dl} (h:tupK v K=some r):∃ cs,v=.tup cs∧K cs=some r:=by
 cases v <;> first | (cases h; done) | exact ⟨_,rfl,h⟩
theorem celK_inv {v:PV} {K:List PV→Rs} {r:PV × Dl} (h:celK v K=some r):v ≠ .top∧K (cellsV v)=some r:=by
 cases v <;> first | (cases h; done) | exact ⟨by simp,h⟩
theorem fnE_inv {v:PV} {K:Nat→List PV→Option (PV × Sb × Nat)} {r:PV × Sb × Nat} (h:fnE v K=some r):∃ k caps,v=.fn k caps∧K k caps=some r:=by
 cases v <;> first | (cases h; done) | exact ⟨_,_,rfl,h⟩
theorem nthK_inv:∀ {l:List PV} {n:Nat} {v:PV} {δ:Dl},nthK l n=some (v,δ)→δ=[]∧n<l.length∧v=getL l n
 | [],n,v,δ,h=>by cases h
 | x::l,0,v,δ,h=>by
  have h:some (x,([]:Dl))=some (v,δ):=h
  cases h; exact ⟨rfl,by simp,rfl⟩
 | x::l,n+1,v,δ,h=>by
  obtain ⟨h1,h2,h3⟩:=nthK_inv (l:=l) h
  exact ⟨h1,by simpa using h2,h3⟩
theorem allB_spec {f:PV→Bool}:∀ {l:List PV},allB f l=true→∀ x∈l,f x=true
 | [],_,x,hx=>by cases hx
 | y::l,h,x,hx=>by
  have h:Bool.rec (motive:=fun _=>Bool) false (allB f l) (f y)=true:=h
  cases hy:f y with
  | false=>rw [hy] at h; cases h
  | true =>
   rw [hy] at h
   rcases List.mem_cons.1 hx with rfl | hx
   ·exact hy
   ·exact allB_spec h x hx
theorem isCel_eq (v:PV):isCel v=isCell v:=by cases v <;> rfl
theorem allCell_of:∀ {l:List PV},allB isCel l=true→allCell l=true
 | [],_=>rfl
 | y::l,h=>by
  have h1:=allB_spec h y (by simp)
  have h:Bool.rec (motive:=fun _=>Bool) false (allB isCel l) (isCel y)=true:=h
  rw [h1] at h
  simp only [allCell,Bool.and_eq_true]
  exact ⟨by rw [← isCel_eq]; exact h1,allCell_of h⟩
theorem stoK_inv {size:Nat} {row:List PV} {c:Nat} {cs:List PV} {K:List PV→Rs} {r:PV × Dl} (h:stoK size row c cs K=some r):cs.length=size∧c+cs.length≤row.length∧K (writeL row c cs)=some r:=by
 obtain ⟨h1,h⟩:=ifK_inv h
 obtain ⟨h2,h⟩:=ifK_inv h
 have h1:=Nat.eq_of_beq_eq_true h1
 have h2:=Nat.le_of_ble_eq_true h2
 simp only [lenR_eq] at h1 h2
 have h2:c+cs.length≤row.length:=by rw [h1]; exact h2
 rw [splR_eq h2] at h
 exact ⟨h1,h2,h⟩
theorem load1_inv {agg:Bool} {size:Nat} {row:List PV} {c:Nat} {v:PV} {δ:Dl} (h:load1 agg size row c=some (v,δ)):δ=[]∧∀ K:PV→Prop,K v→loadRow agg size row c K:=by
 cases agg with
 | false =>
  obtain ⟨h1,h2,h3⟩:=nthK_inv h
  refine ⟨h1,fun K hk=>?_⟩
  unfold loadRow
  simp only [cond_false,lenL_eq,bifF,Nat.blt_eq]
  exact ⟨h2,by rw [← h3]; exact hk⟩
 | true =>
  obtain ⟨h1,h2⟩:=ifK_inv h
  simp only [takeR_eq,dropR_eq,Option.some.injEq,Prod.mk.injEq] at h2
  obtain ⟨rfl,rfl⟩:=h2
  refine ⟨rfl,fun K hk=>?_⟩
  unfold loadRow
  simp only [cond_true,bifF,lenL_eq,takeL_eq,dropL_eq]
  exact ⟨by simpa using h1,hk⟩
end Go.Pv
namespace Go.Pv
open Go
def Sim (v' v:PV):Prop:=∀ w Y σ u,Rep w Y σ v' u→Rep w Y σ v u
theorem Sim.refl (v:PV):Sim v v:=fun _ _ _ _ h=>h
theorem Sim.si (k:IntKind) (n:Int):Sim (.si k n) (.int k n):=fun w Y σ u h=>by unfold Rep at h ⊢; exact h
theorem Sim.sb (b:Bool):Sim (.sb b) (.bool b):=fun w Y σ u h=>by unfold Rep at h ⊢; exact h
def KS (v:PV) (δ:Dl):PV→Dl→Prop:=fun v' δ'=>Sim v' v∧δ'=δ
theorem KS.refl (v:PV) (δ:Dl):KS v δ v δ:=⟨Sim.refl v,rfl⟩
theorem kEq_eq {a b:IntKind} (h:kEq a b=true):a=b:=by
 have h:=Nat.eq_of_beq_eq_true h
 cases a <;> cases b <;> first | rfl | (cases h)
theorem kindEq_refl (k:IntKind):kindEq k k=true:=by cases k <;> rfl
theorem eqI_eq:∀ a b:Int,eqI a b=decide (a=b)
 | .ofNat a,.ofNat b=>by
  show Nat.beq a b=_
  by_cases h:a=b
  ·subst h; simp
  ·rw [show Nat.beq a b=false from (by cases hb:Nat.beq a b with | false=>rfl | true=>exact absurd (Nat.eq_of_beq_eq_true hb) h)]; symm; rw [decide_eq_false_iff_not]; intro e; first | exact h (Int.ofNat.inj e) | exact h (Int.negSucc.inj e)
 | .negSucc a,.negSucc b=>by
  show Nat.beq a b=_
  by_cases h:a=b
  ·subst h; simp
  ·rw [show Nat.beq a b=false from (by cases hb:Nat.beq a b with | false=>rfl | true=>exact absurd (Nat.eq_of_beq_eq_true hb) h)]; symm; rw [decide_eq_false_iff_not]; intro e; first | exact h (Int.ofNat.inj e) | exact h (Int.negSucc.inj e)
 | .ofNat _,.negSucc _=>by show false=_; simp
 | .negSucc _,.ofNat _=>by show false=_; simp
theorem ltI_eq:∀ a b:Int,ltI a b=decide (a<b)
 | .ofNat a,.ofNat b=>by
  show Nat.ble (Nat.succ a) b=_
  rw [Bool.eq_iff_iff,Nat.ble_eq,decide_eq_true_iff]; exact ⟨fun h=>Int.ofNat_lt.2 h,fun h=>Int.ofNat_lt.1 h⟩
 | .negSucc a,.negSucc b=>by
  show Nat.ble (Nat.succ b) a=_
  rw [Bool.eq_iff_iff,Nat.ble_eq,decide_eq_true_iff]; omega
 | .ofNat a,.negSucc b=>by
  show false=_
  symm; rw [decide_eq_false_iff_not]
  have:(Int.ofNat a)=(a:Int):=rfl
  omega
 | .negSucc a,.ofNat b=>by
  show true=_
  symm; rw [decide_eq_true_iff]
  have:(Int.ofNat b)=(b:Int):=rfl
  omega
theorem notB_eq (b:Bool):notB b=!b:=by cases b <;> rfl
theorem zSub_eq (m n:Nat):zSub m n=(m:Int) - (n:Int):=by
 unfold zSub
 show Nat.rec (motive:=fun _=>Int) (Int.ofNat (m - n)) (fun k _=>Int.negSucc k) (n - m)=_
 rcases Nat.lt_or_ge m n with h | h
 ·obtain ⟨k,hk⟩:∃ k,n - m=k+1:=⟨n - m - 1,by omega⟩
  rw [hk]; show Int.negSucc k=_; omega
 ·rw [show n - m=0 by omega]; show Int.ofNat (m - n)=_
  have:(Int.ofNat (m - n))=((m - n:Nat):Int):=rfl
  omega
theorem zAdd_eq:∀ a b:Int,zAdd a b=a+b
 | .ofNat a,.ofNat b=>rfl
 | .ofNat a,.negSucc b=>by
  show zSub a (b+1)=_
  rw [zSub_eq]; have:(Int.ofNat a)=(a:Int):=rfl
  omega
 | .negSucc a,.ofNat b=>by
  show zSub b (a+1)=_
  rw [zSub_eq]; have:(Int.ofNat b)=(b:Int):=rfl
  omega
 | .negSucc a,.negSucc b=>rfl
theorem zNeg_eq:∀ a:Int,zNeg a=-a
 | .ofNat 0=>rfl
 | .ofNat (n+1)=>rfl
 | .negSucc n=>rfl
theorem wrap_def (k:IntKind) (n:Int):k.wrap n=if (k.signed && decide (n % 2 ^ k.bits ≥ 2 ^ (k.bits - 1)))=true then n % 2 ^ k.bits - 2 ^ k.bits else n % 2 ^ k.bits:=rfl
theorem wrap_pos (k:IntKind) (m:Nat) (h:m+1≤half k):k.wrap (m:Int)=(m:Int):=by
 rw [wrap_def]
 cases k
 case i8=>have h:m+1≤128:=h; show (if (true && decide ((m:Int) % 2 ^ 8 ≥ 2 ^ (8 - 1)))=true then (m:Int) % 2 ^ 8 - 2 ^ 8 else (m:Int) % 2 ^ 8)=_; split <;> rename_i hh <;> simp at hh <;> omega
 case i16=>have h:m+1≤32768:=h; show (if (true && decide ((m:Int) % 2 ^ 16 ≥ 2 ^ (16 - 1)))=true then (m:Int) % 2 ^ 16 - 2 ^ 16 else (m:Int) % 2 ^ 16)=_; split <;> rename_i hh <;> simp at hh <;> omega
 case i32=>have h:m+1≤2147483648:=h; show (if (true && decide ((m:Int) % 2 ^ 32 ≥ 2 ^ (32 - 1)))=true then (m:Int) % 2 ^ 32 - 2 ^ 32 else (m:Int) % 2 ^ 32)=_; split <;> rename_i hh <;> simp at hh <;> omega
 case i64=>have h:m+1≤9223372036854775808:=h; show (if (true && decide ((m:Int) % 2 ^ 64 ≥ 2 ^ (64 - 1)))=true then (m:Int) % 2 ^ 64 - 2 ^ 64 else (m:Int) % 2 ^ 64)=_; split <;> rename_i hh <;> simp at hh <;> omega
 case u8=>have h:m+1≤256:=h; show (if (false && decide ((m:Int) % 2 ^ 8 ≥ 2 ^ (8 - 1)))=true then (m:Int) % 2 ^ 8 - 2 ^ 8 else (m:Int) % 2 ^ 8)=_; split <;> rename_i hh <;> simp at hh <;> omega
 case u16=>have h:m+1≤65536:=h; show (if (false && decide ((m:Int) % 2 ^ 16 ≥ 2 ^ (16 - 1)))=true then (m:Int) % 2 ^ 16 - 2 ^ 16 else (m:Int) % 2 ^ 16)=_; split <;> rename_i hh <;> simp at hh <;> omega
 case u32=>have h:m+1≤4294967296:=h; show (if (false && decide ((m:Int) % 2 ^ 32 ≥ 2 ^ (32 - 1)))=true then (m:Int) % 2 ^ 32 - 2 ^ 32 else (m:Int) % 2 ^ 32)=_; split <;> rename_i hh <;> simp at hh <;> omega
 case u64=>have h:m+1≤18446744073709551616:=h; show (if (false && decide ((m:Int) % 2 ^ 64 ≥ 2 ^ (64 - 1)))=true then (m:Int) % 2 ^ 64 - 2 ^ 64 else (m:Int) % 2 ^ 64)=_; split <;> rename_i hh <;> simp at hh <;> omega
theorem wrap_neg (k:IntKind) (m:Nat) (h:m+1≤negOk k):k.wrap (Int.negSucc m)=Int.negSucc m:=by
 rw [wrap_def]
 cases k
 case i8=>have h:m+1≤128:=h; show (if (true && decide ((Int.negSucc m) % 2 ^ 8 ≥ 2 ^ (8 - 1)))=true then (Int.negSucc m) % 2 ^ 8 - 2 ^ 8 else (Int.negSucc m) % 2 ^ 8)=_; split <;> rename_i hh <;> simp at hh <;> omega
 case i16=>have h:m+1≤32768:=h; show (if (true && decide ((Int.negSucc m) % 2 ^ 16 ≥ 2 ^ (16 - 1)))=true then (Int.negSucc m) % 2 ^ 16 - 2 ^ 16 else (Int.negSucc m) % 2 ^ 16)=_; split <;> rename_i hh <;> simp at hh <;> omega
 case i32=>have h:m+1≤2147483648:=h; show (if (true && decide ((Int.negSucc m) % 2 ^ 32 ≥ 2 ^ (32 - 1)))=true then (Int.negSucc m) % 2 ^ 32 - 2 ^ 32 else (Int.negSucc m) % 2 ^ 32)=_; split <;> rename_i hh <;> simp at hh <;> omega
 case i64=>have h:m+1≤9223372036854775808:=h; show (if (true && decide ((Int.negSucc m) % 2 ^ 64 ≥ 2 ^ (64 - 1)))=true then (Int.negSucc m) % 2 ^ 64 - 2 ^ 64 else (Int.negSucc m) % 2 ^ 64)=_; split <;> rename_i hh <;> simp at hh <;> omega
 case u8=>have h:m+1≤0:=h; omega
 case u16=>have h:m+1≤0:=h; omega
 case u32=>have h:m+1≤0:=h; omega
 case u64=>have h:m+1≤0:=h; omega
theorem wrapI_eq (k:IntKind) (n:Int):wrapI k n=k.wrap n:=by
 cases n with
 | ofNat m =>
  show Bool.rec (motive:=fun _=>Int) (k.wrap (Int.ofNat m)) (Int.ofNat m) (Nat.ble (Nat.succ m) (half k))=_
  cases h:Nat.ble (Nat.succ m) (half k) with
  | false=>rfl
  | true=>exact (wrap_pos k m (Nat.le_of_ble_eq_true h)).symm
 | negSucc m =>
  show Bool.rec (motive:=fun _=>Int) (k.wrap (Int.negSucc m)) (Int.negSucc m) (Nat.ble (Nat.succ m) (negOk k))=_
  cases h:Nat.ble (Nat.succ m) (negOk k) with
  | false=>rfl
  | true=>exact (wrap_neg k m (Nat.le_of_ble_eq_true h)).symm
theorem fzI_eq (n:Int) (K:Int→Rs):fzI n K=K n:=by
 cases n with
 | ofNat m=>cases m <;> rfl
 | negSucc m=>rfl
theorem okI_inv {k:IntKind} {n:Int} {v:PV} {δ:Dl} (h:okI k n=some (v,δ)):v=.int k n∧δ=[]:=by
 unfold okI at h
 rw [fzI_eq] at h
 cases h; exact ⟨rfl,rfl⟩
theorem eqB_eq:∀ a b:List UInt8,eqB a b=decide (a=b)
 | [],[]=>by simp [eqB]
 | [],_::_=>by simp [eqB]
 | _::_,[]=>by simp [eqB]
 | a::l,b::m=>by
  unfold eqB
  by_cases h:a=b
  ·subst h; simp [eqB_eq l m]
  ·have:Nat.beq a.toNat b.toNat=false:=by
    cases hb:Nat.beq a.toNat b.toNat with
    | false=>rfl
    | true=>exact absurd (UInt8.toNat_inj.1 (Nat.eq_of_beq_eq_true hb)) h
   rw [this]; simp [h]
theorem eqS_eq (a b:ByteArray):eqS a b=decide (a=b):=by
 unfold eqS
 rw [eqB_eq]
 by_cases h:a=b
 ·subst h; simp
 ·rw [decide_eq_false h,decide_eq_false]
  intro e
  apply h
  cases a; cases b
  exact congrArg ByteArray.mk (Array.ext' e)
end Go.Pv
namespace Go.Pv
open Go
theorem wkC_same {P:Program} {T:Tab} {cs:List PV} {K:List PV→Prop} (h:K cs):wkC (Sig.std P T) cs K:=by
 unfold wkC
 split
 ·exact ⟨cs,rfl,fun h=>h,fun _ _ _ _ h=>h,h⟩
 ·exact h
theorem pur1_eq {P:Program} {T:Tab} {lk:Nat→Option Blk}:∀ cs:List PV,pur1 lk cs=pur (Sig.std P T) lk cs
 | []=>rfl
 | v::vs=>by
  unfold pur1 pur
  rw [pur1_eq (P:=P) (T:=T) vs]
  cases pur (Sig.std P T) lk vs with
  | none=>rfl
  | some p =>
   obtain ⟨vs',δ⟩:=p
   cases v <;> simp only [takeRR_eq,dropRR_eq] <;> rfl
theorem pur_pure {P:Program} {T:Tab} {lk:Nat→Option Blk}:∀ cs:List PV,(∀ x∈cs,isPur x=true)→pur (Sig.std P T) lk cs=some (cs,[])
 | [],_=>rfl
 | v::vs,h=>by
  unfold pur
  rw [pur_pure vs fun x hx=>h x (by simp [hx])]
  have hv:=h v (by simp)
  cases v <;> first | rfl | (cases hv; done) | skip
  rename_i f caps
  cases caps with
  | nil=>rfl
  | cons _ _=>cases hv
theorem purK_inv (P:Program) (T:Tab) {lk:Nat→Option Blk} {cs:List PV} {K:List PV→Dl→Rs} {r:PV × Dl} (h:purK lk cs K=some r):∃ cs' δ,pur (Sig.std P T) lk cs=some (cs',δ)∧K cs' δ=some r:=by
 unfold purK at h
 cases hp:allB isPur cs with
 | true =>
  rw [hp] at h
  exact ⟨cs,[],pur_pure cs (allB_spec hp),h⟩
 | false =>
  rw [hp,pur1_eq (P:=P) (T:=T)] at h
  cases hq:pur (Sig.std P T) lk cs with
  | none=>rw [hq] at h; cases h
  | some p=>rw [hq] at h; exact ⟨p.1,p.2,rfl,h⟩
theorem pur_cells {P:Program} {T:Tab} {lk:Nat→Option Blk} {cs cs' : List PV} {δ:Dl} (h:pur (Sig.std P T) lk cs=some (cs',δ)):allCell cs'=true:=(pur_cell _ _ _ h).1
theorem memB_eq (b:Nat):∀ δ:Dl,memB b δ=memD b δ
 | []=>rfl
 | (c,x)::δ=>by
  show Bool.rec (motive:=fun _=>Bool) (memB b δ) true (Nat.beq c b)=(Nat.beq c b || memD b δ)
  rw [memB_eq b δ]
  cases Nat.beq c b <;> rfl
theorem notB_inv {b:Bool} (h:notB b=true):b=false:=by cases b with | false=>rfl | true=>cases h
section
variable {P:Program} {T:Tab} {ps:List PV} {ev:Operand→PV} {lk:Nat→Option Blk} {id:Nat} {v:PV} {δ:Dl} (hev:∀ x,ev x=evL T ps x)
include hev
theorem e_pick {c a b:Operand} (h:bolK (ev c) (some (ev a,[])) (some (ev b,[]))=some (v,δ)):opE T (Sig.std P T) (.pick c a b) ps lk id (KS v δ):=by
 simp only [opE]
 rw [hev c] at h
 rcases bolK_inv h with ⟨e,h⟩ | ⟨e,h⟩ <;> cases h <;> simp only [e] <;> rw [hev] <;> exact KS.refl _ _
omit hev in
theorem e_alloc {t:TypeId} (h:v_alloc (T.ti t) id=some (v,δ)):opE T (Sig.std P T) (.alloc t) ps lk id (KS v δ):=by
 obtain ⟨agg,size,zero,plain,kind,et,h⟩:=okK_inv h
 obtain ⟨z,ez,h⟩:=optK_inv h
 simp only [opE,et,ez]
 cases h; exact KS.refl _ _
theorem e_box {t:TypeId} {x:Operand} (h:v_box (ev x) id=some (v,δ)):opE T (Sig.std P T) (.box t x) ps lk id (KS v δ):=by
 obtain ⟨h1,h⟩:=celK_inv h
 cases h
 simp only [opE]
 rw [hev] at h1 ⊢
 split
 ·exact h1 (by assumption)
 ·exact KS.refl _ _
theorem e_fieldAddr {t:TypeId} {x:Operand} {f:Nat} (h:v_fieldAddr (T.ti t) (ev x) f=some (v,δ)):opE T (Sig.std P T) (.fieldAddr t x f) ps lk id (KS v δ):=by
 obtain ⟨agg,size,zero,plain,kind,et,h⟩:=okK_inv h
 obtain ⟨fs,ek,h⟩:=stcK_inv h
 obtain ⟨fd,ef,h⟩:=fldK_inv h
 obtain ⟨hp,h⟩:=ifK_inv h
 simp only [opE,et,ek,ef,hp,cond_true]
 rw [hev] at h
 rcases adrK_inv h with ⟨b,c,e,h⟩ | ⟨b,r,c,e,h⟩ | ⟨cs,e,h⟩
 ·simp only [e]; cases h; exact KS.refl _ _
 ·simp only [e]; cases h; exact KS.refl _ _
 ·obtain ⟨hl,h⟩:=ifK_inv h
  simp only [lenR_eq] at hl
  simp only [e,lenL_eq,hl,cond_true]
  cases h
  simp only [dropR_eq,dropL_eq]; exact KS.refl _ _
theorem e_field {t:TypeId} {x:Operand} {f:Nat} (h:v_field (T.ti t) (ev x) f=some (v,δ)):opE T (Sig.std P T) (.field t x f) ps lk id (KS v δ):=by
 obtain ⟨agg,size,zero,plain,kind,et,h⟩:=okK_inv h
 obtain ⟨fs,ek,h⟩:=stcK_inv h
 obtain ⟨fd,ef,h⟩:=fldK_inv h
 obtain ⟨hp,h⟩:=ifK_inv h
 rw [hev] at h
 obtain ⟨cs,e,h⟩:=aggK_inv h
 simp only [opE,et,ek,ef,e,hp,cond_true]
 obtain ⟨rfl,hh⟩:=load1_inv h
 exact hh _ (KS.refl _ _)
theorem e_load {t:TypeId} {x:Operand} (h:v_load (T.ti t) (ev x) lk=some (v,δ)):opE T (Sig.std P T) (.load t x) ps lk id (KS v δ):=by
 obtain ⟨agg,size,zero,plain,kind,et,h⟩:=okK_inv h
 simp only [opE,et]
 rw [hev] at h
 rcases adrK_inv h with ⟨b,c,e,h⟩ | ⟨b,r,c,e,h⟩ | ⟨cs,e,h⟩
 ·obtain ⟨ro,row,eb,h⟩:=varK_inv h
  obtain ⟨rfl,hh⟩:=load1_inv h
  simp only [e,eb]
  exact hh _ (KS.refl _ _)
 ·obtain ⟨ro,sz,rows,eb,h⟩:=arrK_inv h
  obtain ⟨row,er,h⟩:=rowK_inv h
  obtain ⟨rfl,hh⟩:=load1_inv h
  simp only [e,eb]
  exact ⟨row,er,hh _ (KS.refl _ _)⟩
 ·obtain ⟨rfl,hh⟩:=load1_inv h
  simp only [e]
  exact hh _ (KS.refl _ _)
omit hev in
theorem storeRow_of {size:Nat} {row:List PV} {c:Nat} {u:PV} {K:List PV→Prop} (h1:allCell (cellsV u)=true) (h2:(cellsV u).length=size) (h3:c+(cellsV u).length≤row.length) (hk:K (writeL row c (cellsV u))):storeRow size row c u K:=by
 unfold storeRow
 rw [bifF]
 refine ⟨?_,hk⟩
 simp only [Bool.and_eq_true,lenL_eq]
 exact ⟨⟨h1,by rw [h2]; exact Nat.beq_refl _⟩,by simpa using h3⟩
theorem e_store {t:TypeId} {x y:Operand} (h:v_store (T.ti t) (ev x) (ev y) lk=some (v,δ)):opE T (Sig.std P T) (.store t x y) ps lk id (KS v δ):=by
 obtain ⟨agg,size,zero,plain,kind,et,h⟩:=okK_inv h
 simp only [opE,et]
 rw [hev,hev] at h
 rcases adrK_inv h with ⟨b,c,e,h⟩ | ⟨b,r,c,e,h⟩ | ⟨cs,e,h⟩
 ·obtain ⟨ro,row,eb,h⟩:=varK_inv h
  obtain ⟨hr,h⟩:=ifK_inv h
  have hr:=notB_inv hr
  subst hr
  obtain ⟨_,h⟩:=celK_inv h
  obtain ⟨hc,h⟩:=ifK_inv h
  obtain ⟨h1,h2,h⟩:=stoK_inv h
  simp only [e,eb]
  cases h
  exact storeRow_of (allCell_of hc) h1 h2 (KS.refl _ _)
 ·obtain ⟨ro,sz,rows,eb,h⟩:=arrK_inv h
  obtain ⟨hr,h⟩:=ifK_inv h
  have hr:=notB_inv hr
  subst hr
  obtain ⟨_,h⟩:=celK_inv h
  obtain ⟨cs',δ',hp,h⟩:=purK_inv P T h
  obtain ⟨hm,h⟩:=ifK_inv h
  have hm:=notB_inv hm
  obtain ⟨row,er,h⟩:=rowK_inv h
  obtain ⟨h1,h2,h⟩:=stoK_inv h
  simp only [e,eb,hp]
  rw [memB_eq] at hm
  rw [hm]
  cases h
  refine wkC_same ⟨row,er,storeRow_of (u:=.agg cs') (pur_cells hp) h1 h2 ?_⟩
  simp only [appD_eq,setRR_eq]
  exact KS.refl _ _
 ·cases h
theorem e_nilCheck {x:Operand} (h:nckK (ev x)=some (v,δ)):opE T (Sig.std P T) (.nilCheck x) ps lk id (KS v δ):=by
 simp only [opE]
 rw [hev] at h
 revert h
 cases evL T ps x <;> intro h <;> first | (cases h; done) | (cases h; exact KS.refl _ _)
theorem e_not {t:TypeId} {x:Operand} (h:v_not (ev x)=some (v,δ)):opE T (Sig.std P T) (.unOp .not t x) ps lk id (KS v δ):=by
 simp only [opE]
 rw [hev] at h
 rcases bolK_inv h with ⟨e,h⟩ | ⟨e,h⟩ <;> cases h <;> simp only [e] <;> exact KS.refl _ _
theorem e_neg {t:TypeId} {x:Operand} (h:v_neg (ev x)=some (v,δ)):opE T (Sig.std P T) (.unOp .neg t x) ps lk id (KS v δ):=by
 simp only [opE]
 rw [hev] at h
 obtain ⟨k,n,e,h⟩:=intK_inv h
 obtain ⟨rfl,rfl⟩:=okI_inv h
 simp only [e,wrapI_eq,zNeg_eq]
 rw [show (0:Int) - n=-n by omega]
 exact KS.refl _ _
theorem e_convert {s d:TypeId} {x:Operand} (h:v_convert (T.ti s) (T.ti d) (ev x)=some (v,δ)):opE T (Sig.std P T) (.convert s d x) ps lk id (KS v δ):=by
 obtain ⟨agg,size,zero,plain,kind,es,h⟩:=okK_inv h
 obtain ⟨agg',size',zero',plain',kind',ed,h⟩:=okK_inv h
 obtain ⟨k,ek,h⟩:=intT_inv h
 rw [hev] at h
 obtain ⟨k',n,e,h⟩:=intK_inv h
 obtain ⟨rfl,rfl⟩:=okI_inv h
 subst ek
 simp only [opE,es,ed,e,wrapI_eq]
 cases kind <;> exact KS.refl _ _
theorem e_indexAddr {t:TypeId} {x i:Operand} (h:v_indexAddr (T.ti t) (ev x) (ev i) lk=some (v,δ)):opE T (Sig.std P T) (.indexAddr t x i) ps lk id (KS v δ):=by
 obtain ⟨agg,size,zero,plain,kind,et,h⟩:=okK_inv h
 rw [hev,hev] at h
 obtain ⟨k,n,ei,h⟩:=intK_inv h
 obtain ⟨j,rfl,h⟩:=natK_inv h
 rcases ixT_inv h with ⟨esz,bytes,z,ek,h⟩ | ⟨len,esz,ag,ek,h⟩ | ⟨ek,h⟩
 ·obtain ⟨hp,h⟩:=ifK_inv h
  rcases slcK_inv h with ⟨sz,es,full,e,h⟩ | ⟨b,r,len,e,h⟩ | ⟨s,e,h⟩
  ·obtain ⟨hb,h⟩:=ifK_inv h
   obtain ⟨row,er,h⟩:=rowK_inv h
   cases h
   simp only [opE,et,ek,e,ei,intV,hp,hb,Bool.and_self,cond_true]
   exact ⟨j,row,rfl,er,KS.refl _ _⟩
  ·obtain ⟨ro,sz,rows,eb,h⟩:=arrK_inv h
   obtain ⟨hb,h⟩:=ifK_inv h
   obtain ⟨hl,h⟩:=ifK_inv h
   cases h
   simp only [opE,et,ek,e,ei,intV,eb,hp,hb,Bool.and_self,cond_true]
   exact ⟨j,rfl,Nat.le_of_ble_eq_true hl,KS.refl _ _⟩
  ·cases h
 ·obtain ⟨hp,h⟩:=ifK_inv h
  obtain ⟨hl,h⟩:=ifK_inv h
  have hl' : Nat.blt j len=true:=hl
  simp only [opE,et,ek,hp,cond_true,ei]
  show (bif Nat.blt j len then _ else False)
  simp only [hl',cond_true]
  rcases adrK_inv h with ⟨b,c,e,h⟩ | ⟨b,r,c,e,h⟩ | ⟨cs,e,h⟩
  ·simp only [e]; cases h; exact KS.refl _ _
  ·simp only [e]; cases h; exact KS.refl _ _
  ·obtain ⟨hl,h⟩:=ifK_inv h
   simp only [lenR_eq] at hl
   simp only [e,lenL_eq]
   rw [show Nat.ble (j * esz) cs.length=true from hl]
   cases h
   simp only [dropR_eq,dropL_eq]; exact KS.refl _ _
 ·cases h
omit hev in
theorem nthU_inv:∀ {l:List UInt8} {n:Nat},nthU l n=some (v,δ)→∃ c,l[n]?=some c∧v=.int .u8 (c.toNat:Int)∧δ=[]
 | [],n,h=>by cases h
 | x::l,0,h=>by
  obtain ⟨h1,h2⟩:=okI_inv (k:=.u8) (n:=Int.ofNat x.toNat) h
  exact ⟨x,rfl,h1,h2⟩
 | x::l,n+1,h=>by
  obtain ⟨c,h1,h2⟩:=nthU_inv (l:=l) h
  exact ⟨c,by simpa using h1,h2⟩
theorem e_index {t:TypeId} {x i:Operand} (h:v_index (T.ti t) (ev x) (ev i)=some (v,δ)):opE T (Sig.std P T) (.index t x i) ps lk id (KS v δ):=by
 obtain ⟨agg,size,zero,plain,kind,et,h⟩:=okK_inv h
 rw [hev,hev] at h
 obtain ⟨k,n,ei,h⟩:=intK_inv h
 obtain ⟨j,rfl,h⟩:=natK_inv h
 rcases ixT_inv h with ⟨esz,bytes,z,ek,h⟩ | ⟨len,esz,ag,ek,h⟩ | ⟨ek,h⟩
 ·cases h
 ·obtain ⟨hp,h⟩:=ifK_inv h
  obtain ⟨hl,h⟩:=ifK_inv h
  obtain ⟨cs,e,h⟩:=aggK_inv h
  obtain ⟨rfl,hh⟩:=load1_inv h
  simp only [opE,et,ek,e,ei,intV,hp,cond_true]
  exact ⟨j,rfl,Nat.le_of_ble_eq_true hl,hh _ (KS.refl _ _)⟩
 ·rcases slcK_inv h with ⟨sz,es,full,e,h⟩ | ⟨b,r,len,e,h⟩ | ⟨s,e,h⟩
  ·cases h
  ·cases h
  ·obtain ⟨c,h1,rfl,rfl⟩:=nthU_inv h
   simp only [opE,et,ek,e,ei,intV]
   refine ⟨j,c,rfl,?_,Sim.si _ _,rfl⟩
   rw [← h1,Array.getElem?_toList]
   rfl
theorem e_extract {x:Operand} {i:Nat} (h:v_extract (ev x) i=some (v,δ)):opE T (Sig.std P T) (.extract x i) ps lk id (KS v δ):=by
 simp only [opE]
 rw [hev] at h
 obtain ⟨vs,e,h⟩:=tupK_inv h
 obtain ⟨rfl,h1,rfl⟩:=nthK_inv h
 simp only [e,bifF,lenL_eq,Nat.blt_eq]
 exact ⟨h1,KS.refl _ _⟩
end
end Go.Pv
namespace Go.Pv
open Go
theorem mulLe {a b c:Nat} (h:a * b≤c):(a:Int) * (b:Int)≤(c:Int):=by
 rw [← Int.natCast_mul]; exact Int.ofNat_le.2 h
theorem isNilP_eq {x:PV} (h:isNilP x=true):x=.nilp:=by cases x <;> first | rfl | (cases h)
theorem eqlR_inv {op:BinOp} {b:Bool} {v:PV} {δ:Dl} (h:eqlR op b=some (v,δ)):(op=.eql∧v=.bool b∧δ=[])∨(op=.neq∧v=.bool (!b)∧δ=[]):=by
 cases op <;> first | (cases h; done) | (cases h; exact .inl ⟨rfl,rfl,rfl⟩) | (cases h; exact .inr ⟨rfl,rfl,rfl⟩)
theorem binI_add:binI .add=(sameK fun k a b=>okI k (wrapI k (zAdd a b))):=rfl
theorem binI_sub:binI .sub=(sameK fun k a b=>okI k (wrapI k (zAdd a (zNeg b)))):=rfl
theorem binI_mul:binI .mul=(sameK fun k a b=>okI k (wrapI k (Int.mul a b))):=rfl
theorem binI_quo:binI .quo=(sameK fun k a b=>ifK (notB (eqI b (Int.ofNat 0))) (okI k (k.wrap (a.tdiv b)))):=rfl
theorem binI_rem:binI .rem=(sameK fun k a b=>ifK (notB (eqI b (Int.ofNat 0))) (okI k (a.tmod b))):=rfl
theorem binI_and:binI .and=(sameK fun k a b=>okI k (stdBin .and k a b)):=rfl
theorem binI_or:binI .or=(sameK fun k a b=>okI k (stdBin .or k a b)):=rfl
theorem binI_xor:binI .xor=(sameK fun k a b=>okI k (stdBin .xor k a b)):=rfl
theorem binI_shl:binI .shl=(fun k a _ b=>ifK (notB (ltI b (Int.ofNat 0))) (okI k (k.wrap (a * 2 ^ (min b.toNat k.bits))))):=rfl
theorem binI_shr:binI .shr=(fun k a _ b=>ifK (notB (ltI b (Int.ofNat 0))) (okI k (a.fdiv (2 ^ (min b.toNat k.bits))))):=rfl
theorem binI_andNot:binI .andNot=(sameK fun k a b=>okI k (stdBin .andNot k a b)):=rfl
theorem binI_eql:binI .eql=(sameK fun _ a b=>okB (eqI a b)):=rfl
theorem binI_neq:binI .neq=(sameK fun _ a b=>okB (notB (eqI a b))):=rfl
theorem binI_lss:binI .lss=(sameK fun _ a b=>okB (ltI a b)):=rfl
theorem binI_leq:binI .leq=(sameK fun _ a b=>okB (notB (ltI b a))):=rfl
theorem binI_gtr:binI .gtr=(sameK fun _ a b=>okB (ltI b a)):=rfl
theorem binI_geq:binI .geq=(sameK fun _ a b=>okB (notB (ltI a b))):=rfl
theorem sameK_inv {f:IntKind→Int→Int→Rs} {k k' : IntKind} {a b:Int} {r:PV × Dl} (h:sameK f k a k' b=some r):k'=k∧f k a b=some r:=by
 obtain ⟨h1,h2⟩:=ifK_inv h
 exact ⟨(kEq_eq h1).symm,h2⟩
theorem eqC1_eq {P:Program} {T:Tab} {k:Nat} {x y:PV} {b:Bool} (h:eqC1 k x y=some b):eqC (Sig.std P T) k x y=some b:=by
 unfold eqC1 at h
 split at h
 ·rename_i k a k' c
  cases hk:kEq k k' with
  | false=>rw [hk] at h; cases h
  | true =>
   rw [hk] at h
   have:=kEq_eq hk; subst this
   simp only [cond_true,Option.some.injEq] at h
   simp only [eqC,intV,kindEq_refl,cond_true]
   rw [← h,eqI_eq]; rfl
 ·rename_i a c
  cases h
  simp only [eqC,boolV]
  cases a <;> cases c <;> rfl
 ·rename_i a c
  cases h
  simp only [eqC]
  rw [eqS_eq]; rfl
 ·cases h
theorem eqCs1_eq {P:Program} {T:Tab}:∀ {ks:List Nat} {xs ys:List PV} {b:Bool},eqCs1 ks xs ys=some b→eqCs (Sig.std P T) ks xs ys=some b
 | [],[],[],b,h=>h
 | [],[],_::_,b,h=>by cases h
 | [],_::_,_,b,h=>by cases h
 | _::_,[],_,b,h=>by cases h
 | _::_,_::_,[],b,h=>by cases h
 | k::ks,x::xs,y::ys,b,h=>by
  unfold eqCs1 at h
  split at h
  ·cases h
  ·rename_i a ha
   split at h
   ·cases h
   ·rename_i c hc
    cases h
    unfold eqCs
    rw [eqC1_eq ha]
    simp only [eqCs1_eq hc]
    cases a <;> rfl
section
variable {P:Program} {T:Tab} {ps:List PV} {ev:Operand→PV} {lk:Nat→Option Blk} {id:Nat} {v:PV} {δ:Dl} (hev:∀ x,ev x=evL T ps x)
include hev
theorem e_binOp {op:BinOp} {t u:TypeId} {x y:Operand} (hn:nilC y=false) (h:binV (T.ti t) op (ev x) (ev y)=some (v,δ)):opE T (Sig.std P T) (.binOp op t x y u) ps lk id (KS v δ):=by
 obtain ⟨agg,size,zero,plain,kind,et,h⟩:=okK_inv h
 rw [hev,hev] at h
 simp only [opE,hn,et]
 generalize evL T ps x=X at h
 generalize evL T ps y=Z at h
 rcases intE_inv h with ⟨k,a,rfl,hA⟩ | ⟨hno,h⟩
 ·obtain ⟨k',b,rfl,hB⟩:=intK_inv hA
  cases op
  case add=>rw [binI_add] at hB; obtain ⟨rfl,h1⟩:=sameK_inv hB; obtain ⟨rfl,rfl⟩:=okI_inv h1; simp only [binE,isSpec,isArith,kindEq_refl,cond_true,cond_false,wrapI_eq,zAdd_eq]; exact KS.refl _ _
  case sub=>rw [binI_sub] at hB; obtain ⟨rfl,h1⟩:=sameK_inv hB; obtain ⟨rfl,rfl⟩:=okI_inv h1; simp only [binE,isSpec,isArith,kindEq_refl,cond_true,cond_false,wrapI_eq,zAdd_eq,zNeg_eq]; exact KS.refl _ _
  case mul=>rw [binI_mul] at hB; obtain ⟨rfl,h1⟩:=sameK_inv hB; obtain ⟨rfl,rfl⟩:=okI_inv h1; simp only [binE,isSpec,isArith,kindEq_refl,cond_true,cond_false,wrapI_eq]; exact KS.refl _ _
  case and=>rw [binI_and] at hB; obtain ⟨rfl,h1⟩:=sameK_inv hB; obtain ⟨rfl,rfl⟩:=okI_inv h1; simp only [binE,isSpec,isArith,kindEq_refl,cond_true,cond_false]; exact KS.refl _ _
  case or=>rw [binI_or] at hB; obtain ⟨rfl,h1⟩:=sameK_inv hB; obtain ⟨rfl,rfl⟩:=okI_inv h1; simp only [binE,isSpec,isArith,kindEq_refl,cond_true,cond_false]; exact KS.refl _ _
  case xor=>rw [binI_xor] at hB; obtain ⟨rfl,h1⟩:=sameK_inv hB; obtain ⟨rfl,rfl⟩:=okI_inv h1; simp only [binE,isSpec,isArith,kindEq_refl,cond_true,cond_false]; exact KS.refl _ _
  case andNot=>rw [binI_andNot] at hB; obtain ⟨rfl,h1⟩:=sameK_inv hB; obtain ⟨rfl,rfl⟩:=okI_inv h1; simp only [binE,isSpec,isArith,kindEq_refl,cond_true,cond_false]; exact KS.refl _ _
  case quo =>
   rw [binI_quo] at hB
   obtain ⟨rfl,h1⟩:=sameK_inv hB; obtain ⟨hz,h2⟩:=ifK_inv h1; obtain ⟨rfl,rfl⟩:=okI_inv h2
   have hz:=notB_inv hz
   rw [eqI_eq,decide_eq_false_iff_not] at hz
   simp only [binE,isSpec,binS,kindEq_refl,cond_true]
   exact ⟨hz,Sim.si _ _,rfl⟩
  case rem =>
   rw [binI_rem] at hB
   obtain ⟨rfl,h1⟩:=sameK_inv hB; obtain ⟨hz,h2⟩:=ifK_inv h1; obtain ⟨rfl,rfl⟩:=okI_inv h2
   have hz:=notB_inv hz
   rw [eqI_eq,decide_eq_false_iff_not] at hz
   simp only [binE,isSpec,binS,kindEq_refl,cond_true]
   exact ⟨hz,Sim.si _ _,rfl⟩
  case shl =>
   rw [binI_shl] at hB
   obtain ⟨hz,h2⟩:=ifK_inv hB; obtain ⟨rfl,rfl⟩:=okI_inv h2
   have hz:=notB_inv hz
   rw [ltI_eq,decide_eq_false_iff_not] at hz
   simp only [binE,isSpec,binS,cond_true]
   exact ⟨Int.not_lt.1 hz,Sim.si _ _,rfl⟩
  case shr =>
   rw [binI_shr] at hB
   obtain ⟨hz,h2⟩:=ifK_inv hB; obtain ⟨rfl,rfl⟩:=okI_inv h2
   have hz:=notB_inv hz
   rw [ltI_eq,decide_eq_false_iff_not] at hz
   simp only [binE,isSpec,binS,cond_true]
   exact ⟨Int.not_lt.1 hz,Sim.si _ _,rfl⟩
  case eql=>rw [binI_eql] at hB; obtain ⟨rfl,h1⟩:=sameK_inv hB; cases h1; simp only [binE,isSpec,isArith,isCmp,kindEq_refl,cond_true,cond_false,eqI_eq]; exact KS.refl _ _
  case neq=>rw [binI_neq] at hB; obtain ⟨rfl,h1⟩:=sameK_inv hB; cases h1; simp only [binE,isSpec,isArith,isCmp,kindEq_refl,cond_true,cond_false,eqI_eq,notB_eq]; exact KS.refl _ _
  case lss=>rw [binI_lss] at hB; obtain ⟨rfl,h1⟩:=sameK_inv hB; cases h1; simp only [binE,isSpec,isArith,isCmp,kindEq_refl,cond_true,cond_false,ltI_eq]; exact KS.refl _ _
  case leq =>
   rw [binI_leq] at hB
   obtain ⟨rfl,h1⟩:=sameK_inv hB; cases h1; simp only [binE,isSpec,isArith,isCmp,kindEq_refl,cond_true,cond_false,ltI_eq,notB_eq]
   have:(!decide (b<a))=stdCmp .leq a b:=by
    show _=decide (a≤b)
    rw [Bool.eq_iff_iff]; simp
   rw [this]; exact KS.refl _ _
  case gtr=>rw [binI_gtr] at hB; obtain ⟨rfl,h1⟩:=sameK_inv hB; cases h1; simp only [binE,isSpec,isArith,isCmp,kindEq_refl,cond_true,cond_false,ltI_eq]; exact KS.refl _ _
  case geq =>
   rw [binI_geq] at hB
   obtain ⟨rfl,h1⟩:=sameK_inv hB; cases h1; simp only [binE,isSpec,isArith,isCmp,kindEq_refl,cond_true,cond_false,ltI_eq,notB_eq]
   have:(!decide (a<b))=stdCmp .geq a b:=by
    show _=decide (b≤a)
    rw [Bool.eq_iff_iff]; simp
   rw [this]; exact KS.refl _ _
 ·rw [et] at h
  unfold binR at h
  split at h
  ·rcases eqlR_inv h with ⟨rfl,rfl,rfl⟩ | ⟨rfl,rfl,rfl⟩
   ·simp only [binE,isAdd,isCmp,cond_true,cond_false,eqS_eq]; exact ⟨Sim.sb _,rfl⟩
   ·simp only [binE,isAdd,isCmp,cond_true,cond_false,eqS_eq]; exact ⟨Sim.sb _,rfl⟩
  ·split at h
   ·rename_i ks et'
    cases et'
    split at h
    ·rename_i b hb
     have hb:=eqCs1_eq (P:=P) (T:=T) hb
     simp only [binE,et,hb,eqK]
     rcases eqlR_inv h with ⟨rfl,rfl,rfl⟩ | ⟨rfl,rfl,rfl⟩
     ·simp only [isEql,cond_true]; exact ⟨Sim.sb _,rfl⟩
     ·simp only [isEql,isNeq,cond_true,cond_false]
      have:(Sig.std P T).beq b false=!b:=by cases b <;> rfl
      rw [this]; exact ⟨Sim.sb _,rfl⟩
    ·cases h
   ·cases h
  ·split at h
   ·rename_i a c ag sz zr pl kd et'
    cases et'
    cases a <;> cases c <;> simp only [binE,intV,boolV,et,eqK] <;> rcases eqlR_inv h with ⟨rfl,rfl,rfl⟩ | ⟨rfl,rfl,rfl⟩ <;> simp only [isEql,isNeq,cond_true,cond_false] <;> exact ⟨Sim.sb _,rfl⟩
   ·cases h
  ·split at h
   ·rename_i et'
    cases et'
    cases h1:(isNilP X && isNilP Z) with
    | true =>
     simp only [Bool.and_eq_true] at h1
     have e1:=isNilP_eq h1.1
     have e2:=isNilP_eq h1.2
     subst e1; subst e2
     simp only [isNilP,Bool.and_self,cond_true] at h
     simp only [binE,intV,boolV,et,isNilP,Bool.and_self,cond_true,eqL]
     rcases eqlR_inv h with ⟨rfl,rfl,rfl⟩ | ⟨rfl,rfl,rfl⟩
     ·simp only [isEql,cond_true]; exact KS.refl _ _
     ·simp only [isEql,isNeq,cond_true,cond_false]; exact KS.refl _ _
    | false =>
     rw [h1] at h
     cases h2:((isNilP X && isPtrP Z) || (isPtrP X && isNilP Z)) with
     | false=>rw [h2] at h; cases h
     | true =>
      rw [h2] at h
      simp only [cond_true,cond_false] at h
      have key:∀ K:PV→Prop,eqL op false K→binE T (Sig.std P T) op t X Z K:=by
       intro K hk
       simp only [Bool.or_eq_true,Bool.and_eq_true] at h2
       rcases h2 with ⟨a1,a2⟩ | ⟨a1,a2⟩
       ·have e1:=isNilP_eq a1
        subst e1
        cases Z <;> first | (cases a2; done) | (simp only [binE,intV,boolV,et,isNilP,isPtrP,Bool.and_self,Bool.and_false,Bool.false_and,Bool.or_false,Bool.or_true,Bool.true_or,cond_true,cond_false]; exact hk)
       ·have e1:=isNilP_eq a2
        subst e1
        cases X <;> first | (cases a1; done) | (simp only [binE,intV,boolV,et,isNilP,isPtrP,Bool.and_self,Bool.and_false,Bool.false_and,Bool.or_false,Bool.or_true,Bool.true_or,cond_true,cond_false]; exact hk)
      refine key _ ?_
      unfold eqL
      rcases eqlR_inv h with ⟨rfl,rfl,rfl⟩ | ⟨rfl,rfl,rfl⟩
      ·simp only [isEql,cond_true]; exact KS.refl _ _
      ·simp only [isEql,isNeq,cond_true,cond_false]; exact KS.refl _ _
   ·cases h
theorem filK_inv {len:Nat} {place:Plc} {pl:Nat→Option (Nat × Nat)} (hpl:∀ i K r,place i K=some r→∃ off size,pl i=some (off,size)∧K off size=some r) {K:List PV→Rs} {r:PV × Dl}:∀ {parts:List (Nat × Operand)} {cells:List PV},cells.length=len→filK ev len place parts cells K=some r →
  ∃ cs,fillV pl cells (evP T ps parts)=some cs∧K cs=some r∧noTop (evP T ps parts)=true
 | [],cells,hl,h=>⟨cells,rfl,h,rfl⟩
 | (i,x)::parts,cells,hl,h=>by
  have h:place i (fun off size=>celK (ev x) fun cs=>ifK (Nat.beq (lenR cs) size) (ifK (Nat.ble (Nat.add off size) len) (filK ev len place parts (splR off cs cells) K)))=some r:=h
  obtain ⟨off,size,e,h⟩:=hpl _ _ _ h
  obtain ⟨hx,h⟩:=celK_inv h
  obtain ⟨h1,h⟩:=ifK_inv h
  obtain ⟨h2,h⟩:=ifK_inv h
  have h1':=Nat.eq_of_beq_eq_true h1
  have h2':=Nat.le_of_ble_eq_true h2
  simp only [lenR_eq] at h1'
  have hle:off+(cellsV (ev x)).length≤cells.length:=by rw [h1',hl]; exact h2'
  rw [splR_eq hle] at h
  obtain ⟨cs,h3,h4,h5⟩:=filK_inv hpl (parts:=parts) (by rw [writeL_len,hl]) h
  rw [hev] at hx h3 h1'
  refine ⟨cs,?_,h4,?_⟩
  ·simp only [evP,fillV,e]
   rw [show (Nat.beq (lenL (cellsV (evL T ps x))) size && Nat.ble (off+size) (lenL cells))=true from ?_]
   ·exact h3
   ·simp only [Bool.and_eq_true,lenL_eq]
    exact ⟨by rw [h1']; exact Nat.beq_refl _,by rw [hl]; exact h2⟩
  ·simp only [evP]
   unfold noTop
   split
   ·rename_i e2; cases e2
   ·rename_i e2
    simp only [List.cons.injEq,Prod.mk.injEq] at e2
    exact absurd e2.1.2 hx
   ·rename_i e2
    simp only [List.cons.injEq] at e2
    rw [← e2.2]; exact h5
theorem e_build {t:TypeId} {parts:Array (Nat × Operand)} (h:v_build (T.ti t) ev parts=some (v,δ)):opE T (Sig.std P T) (.build t parts) ps lk id (KS v δ):=by
 obtain ⟨agg,size,zero,plain,kind,et,h⟩:=okK_inv h
 obtain ⟨z,ez,hz⟩:=optK_inv h
 subst ez
 cases kind with
 | struct fs =>
  obtain ⟨cs,h1,h2,h3⟩:=filK_inv hev (pl:=fldPlace fs) (fun i K r h=>by
   obtain ⟨fd,e,h⟩:=fldK_inv h
   exact ⟨fd.off,fd.size,by simp only [fldPlace,e],h⟩) (by simp) hz
  simp only [opE,et,h3,cond_true,h1]
  cases h2; exact KS.refl _ _
 | arr n esz ag =>
  obtain ⟨cs,h1,h2,h3⟩:=filK_inv hev (pl:=fun i=>some (i * esz,esz)) (fun i K r h=>⟨i * esz,esz,rfl,h⟩) (by simp) hz
  simp only [opE,et,h3,cond_true,h1]
  cases h2; exact KS.refl _ _
 | _=>cases hz
theorem e_buildSlice {t:TypeId} {len:Nat} {parts:Array (Nat × Operand)} (h:v_buildSlice (T.ti t) len ev parts lk id=some (v,δ)):opE T (Sig.std P T) (.buildSlice t len parts) ps lk id (KS v δ):=by
 obtain ⟨agg,size,zero,plain,kind,et,h⟩:=okK_inv h
 obtain ⟨esz,bytes,zz,ek,h1⟩:=sliK_inv h
 subst ek
 obtain ⟨z,ez,h2⟩:=optK_inv h1
 subst ez
 obtain ⟨a1,h3⟩:=ifK_inv h2
 obtain ⟨a2,h4⟩:=ifK_inv h3
 obtain ⟨a3,h⟩:=ifK_inv h4
 have hz:z.length=esz:=by simpa using Nat.eq_of_beq_eq_true a2
 obtain ⟨cs,h1,h2,h3⟩:=filK_inv hev (pl:=fun i=>some (i * esz,esz)) (fun i K r h=>⟨i * esz,esz,rfl,h⟩) (by rw [repR_eq,repL_length,hz]; rfl) h
 obtain ⟨cs',δ',hp,h2⟩:=purK_inv P T h2
 rw [repR_eq] at h1
 simp only [opE,et]
 rw [show (isPos esz && Nat.beq (lenL z) esz && Nat.ble (len * esz) 16777216 && noTop (evP T ps parts.toList))=true from ?_]
 ·simp only [cond_true,h1,hp]
  refine wkC_same ?_
  cases h2
  simp only [appD_eq,chkR_eq]; exact KS.refl _ _
 ·simp only [Bool.and_eq_true,lenL_eq]
  exact ⟨⟨⟨a1,by rw [hz]; exact Nat.beq_refl _⟩,a3⟩,h3⟩
theorem e_makeFunc {f:Go.Fn} {first cap:Array Operand} (h:v_makeFunc f first ev cap=some (v,δ)):opE T (Sig.std P T) (.makeFunc f first cap) ps lk id (KS v δ):=by
 unfold v_makeFunc at h
 split at h
 ·rename_i e
  cases h
  simp only [opE,e,evA1_eq hev]; exact KS.refl _ _
 ·cases h
theorem e_makeSlice {t:TypeId} {x y:Operand} (hnar:T.nar=0) (h:v_makeSlice (T.ti t) (ev x) (ev y) id=some (v,δ)):opE T (Sig.std P T) (.makeSlice t x y) ps lk id (KS v δ):=by
 obtain ⟨agg,size,zero,plain,kind,et,h⟩:=okK_inv h
 obtain ⟨esz,bytes,zz,ek,h1⟩:=sliK_inv h
 subst ek
 obtain ⟨z,ez,h2⟩:=optK_inv h1
 subst ez
 rw [hev,hev] at h2
 obtain ⟨k,n,e1,h3⟩:=intK_inv h2
 obtain ⟨n,rfl,h4⟩:=natK_inv h3
 obtain ⟨k',m,e2,h5⟩:=intK_inv h4
 obtain ⟨m,rfl,h⟩:=natK_inv h5
 obtain ⟨a1,h⟩:=ifK_inv h
 obtain ⟨a2,h⟩:=ifK_inv h
 obtain ⟨a3,h⟩:=ifK_inv h
 obtain ⟨a4,h⟩:=ifK_inv h
 obtain ⟨a5,h⟩:=ifK_inv h
 obtain ⟨a6,h⟩:=ifK_inv h
 simp only [opE,et,e1,e2,intV]
 rw [show (isPos esz && Nat.beq (lenL z) esz && allCell z)=true from ?_]
 ·have a4:=Nat.le_of_ble_eq_true a4
  have a5:bytes * m≤140737488355328:=Nat.le_of_ble_eq_true a5
  have a6:=Nat.le_of_ble_eq_true a6
  refine ⟨n,rfl,by omega,mulLe a5,by omega,?_⟩
  rw [hnar]
  refine wkC_same ?_
  cases h
  simp only [repRR_eq]; exact KS.refl _ _
 ·simp only [Bool.and_eq_true,lenL_eq]
  simp only [lenR_eq] at a2
  exact ⟨⟨a1,a2⟩,allCell_of a3⟩
end
end Go.Pv
namespace Go.Pv
open Go
theorem bndK_inv {d:Nat} {x:Option PV} {K:Nat→Rs} {r:PV × Dl} (h:bndK d x K=some r):(x=none∧K d=some r)∨∃ (k:IntKind) (m:Nat),x=some (.int k (m:Int))∧K m=some r:=by
 cases x with
 | none=>exact .inl ⟨rfl,h⟩
 | some v =>
  obtain ⟨k,n,rfl,h1⟩:=intK_inv (v:=v) (K:=fun _ n=>natK n K) h
  obtain ⟨m,rfl,h2⟩:=natK_inv h1
  exact .inr ⟨k,m,rfl,h2⟩
section
variable {P:Program} {T:Tab} {ps:List PV} {ev:Operand→PV} {lk:Nat→Option Blk} {id:Nat} {v:PV} {δ:Dl} (hev:∀ x,ev x=evL T ps x)
include hev
theorem evO_eq (x:Option Operand):(Option.rec (motive:=fun _=>Option PV) none (fun x=>some (ev x)) x:Option PV)=evO T ps x:=by
 cases x with
 | none=>rfl
 | some x=>show some (ev x)=some (evL T ps x); rw [hev]
theorem e_slice {t:TypeId} {x:Operand} {lo hi mx:Option Operand} (h:v_slice (T.ti t) (ev x) (Option.rec (motive:=fun _=>Option PV) none (fun x=>some (ev x)) lo) (Option.rec (motive:=fun _=>Option PV) none (fun x=>some (ev x)) hi) (Option.rec (motive:=fun _=>Option PV) none (fun x=>some (ev x)) mx) lk=some (v,δ)):opE T (Sig.std P T) (.slice t x lo hi mx) ps lk id (KS v δ):=by
 rw [evO_eq hev,evO_eq hev,evO_eq hev,hev] at h
 simp only [opE]
 generalize evO T ps lo=LO at h
 generalize evO T ps hi=HI at h
 generalize evO T ps mx=MX at h
 generalize evL T ps x=X at h
 cases MX with
 | some m =>
  have h0:(okK (T.ti t) fun _ _ _ _ kind=>sliK kind fun esz _ _=>ifK (isPos esz) (slcK X (fun _ _ _=>zeroK LO HI m (some (PV.sl esz [] true,[]))) (fun _ _ _=>zeroK LO HI m (some (PV.sl esz [] true,[]))) (fun _=>none)))=some (v,δ):=h
  obtain ⟨agg,size,zero,plain,kind,et,h1⟩:=okK_inv h0
  obtain ⟨esz,bytes,zz,ek,h2⟩:=sliK_inv h1
  subst ek
  obtain ⟨hp,h3⟩:=ifK_inv h2
  have zk:∀ {x:Rs},zeroK LO HI m x=some (v,δ)→LO=none∧(∃ k,HI=some (.int k 0))∧(∃ k,m=.int k 0)∧x=some (v,δ):=by
   intro x hx
   cases LO with
   | some _=>cases hx
   | none =>
    cases HI with
    | none=>cases hx
    | some hh =>
     have hx:(intK hh fun _ a=>natK a fun a=>intK m fun _ b=>natK b fun b=>ifK (Nat.beq a 0) (ifK (Nat.beq b 0) x))=some (v,δ):=hx
     obtain ⟨k,a,rfl,h4⟩:=intK_inv hx
     obtain ⟨a,rfl,h5⟩:=natK_inv h4
     obtain ⟨k',b,rfl,h6⟩:=intK_inv h5
     obtain ⟨b,rfl,h7⟩:=natK_inv h6
     obtain ⟨h8,h9⟩:=ifK_inv h7
     obtain ⟨h10,h11⟩:=ifK_inv h9
     have:=Nat.eq_of_beq_eq_true h8
     subst this
     have:=Nat.eq_of_beq_eq_true h10
     subst this
     exact ⟨rfl,⟨k,rfl⟩,⟨k',rfl⟩,h11⟩
  rcases slcK_inv h3 with ⟨sz,es,full,rfl,h4⟩ | ⟨b,r,n,rfl,h4⟩ | ⟨s,rfl,h4⟩
  ·obtain ⟨rfl,⟨k,rfl⟩,⟨k',rfl⟩,h5⟩:=zk h4
   cases h5
   simp only [et,hp,cond_true]; exact KS.refl _ _
  ·obtain ⟨rfl,⟨k,rfl⟩,⟨k',rfl⟩,h5⟩:=zk h4
   cases h5
   simp only [et,hp,cond_true]; exact KS.refl _ _
  ·cases h4
 | none =>
  have h0:(okK (T.ti t) fun _ _ _ _ kind=>sliK kind fun esz _ _=>ifK (isPos esz) (slcK X
   (fun sz es full=>ifK (Nat.beq sz esz) (bndK 0 LO fun a=>bndK (lenRR es) HI fun b=>ifK (Nat.ble a b) (ifK (Nat.ble b (lenRR es)) (some (PV.sl sz (takeRR (Nat.sub b a) (dropRR a es)) (Option.rec (motive:=fun _=>Bool) full (fun _=>false) HI),[])))))
   (fun b r n=>arrK (lk b) fun _ sz _=>ifK (Nat.beq sz esz) (bndK 0 LO fun a=>bndK n HI fun c=>ifK (Nat.ble a c) (ifK (Nat.ble c n) (some (PV.os b (Nat.add r a) (Nat.sub c a),[])))))
   (fun _=>none)))=some (v,δ):=h
  obtain ⟨agg,size,zero,plain,kind,et,h1⟩:=okK_inv h0
  obtain ⟨esz,bytes,zz,ek,h2⟩:=sliK_inv h1
  subst ek
  obtain ⟨hp,h3⟩:=ifK_inv h2
  rcases slcK_inv h3 with ⟨sz,es,full,rfl,h4⟩ | ⟨b,r,n,rfl,h4⟩ | ⟨s,rfl,h4⟩
  ·obtain ⟨hb,h5⟩:=ifK_inv h4
   rcases bndK_inv h5 with ⟨rfl,h6⟩ | ⟨k,a,rfl,h6⟩ <;> rcases bndK_inv h6 with ⟨rfl,h7⟩ | ⟨k',c,rfl,h7⟩ <;> obtain ⟨hx,h8⟩:=ifK_inv h7 <;> obtain ⟨hy,h9⟩:=ifK_inv h8 <;> cases h9 <;> simp only [et,hp,hb,Bool.and_self,cond_true,intV,takeRR_eq,dropRR_eq,lenRR_eq] at *
   ·have:List.take (Nat.sub es.length 0) (List.drop 0 es)=es:=by
     show List.take (es.length - 0) (List.drop 0 es)=es
     simp
    rw [this]; exact KS.refl _ _
   ·exact ⟨0,c,rfl,rfl,Nat.zero_le _,Nat.le_of_ble_eq_true hy,KS.refl _ _⟩
   ·exact ⟨a,es.length,rfl,rfl,Nat.le_of_ble_eq_true hx,Nat.le_refl _,KS.refl _ _⟩
   ·exact ⟨a,c,rfl,rfl,Nat.le_of_ble_eq_true hx,Nat.le_of_ble_eq_true hy,KS.refl _ _⟩
  ·obtain ⟨ro,sz,rows,eb,h4⟩:=arrK_inv h4
   obtain ⟨hb,h5⟩:=ifK_inv h4
   rcases bndK_inv h5 with ⟨rfl,h6⟩ | ⟨k,a,rfl,h6⟩ <;> rcases bndK_inv h6 with ⟨rfl,h7⟩ | ⟨k',c,rfl,h7⟩ <;> obtain ⟨hx,h8⟩:=ifK_inv h7 <;> obtain ⟨hy,h9⟩:=ifK_inv h8 <;> cases h9 <;> simp only [et,hp,hb,eb,Bool.and_self,cond_true,intV] at *
   ·exact KS.refl _ _
   ·exact ⟨0,c,rfl,rfl,Nat.zero_le _,Nat.le_of_ble_eq_true hy,KS.refl _ _⟩
   ·exact ⟨a,n,rfl,rfl,Nat.le_of_ble_eq_true hx,Nat.le_refl _,KS.refl _ _⟩
   ·exact ⟨a,c,rfl,rfl,Nat.le_of_ble_eq_true hx,Nat.le_of_ble_eq_true hy,KS.refl _ _⟩
  ·cases h4
theorem rowsK_inv (P:Program) {esz:Nat} {X:PV} {K:List (List PV)→Rs} {r:PV × Dl} (h:rowsK esz lk X K=some r):∃ new,rowsOf (Sig.std P T) esz lk X=some new∧K new=some r:=by
 rcases slcK_inv h with ⟨sz,es,full,rfl,h4⟩ | ⟨b,i,n,rfl,h4⟩ | ⟨s,rfl,h4⟩
 ·cases hb:Nat.beq sz esz with
  | true =>
   rw [hb] at h4
   exact ⟨es,by simp only [rowsOf,hb,cond_true],h4⟩
  | false =>
   rw [hb] at h4
   cases es with
   | nil=>exact ⟨[],by simp only [rowsOf,hb,cond_false],h4⟩
   | cons _ _=>cases h4
 ·obtain ⟨ro,sz,rows,eb,h5⟩:=arrK_inv h4
  obtain ⟨hb,h6⟩:=ifK_inv h5
  refine ⟨_,?_,h6⟩
  simp only [rowsOf,eb,hb,cond_true,takeRR_eq,dropRR_eq]; rfl
 ·cases h4
omit hev in
theorem roomK_inv {n bytes:Nat} {x:Rs} {r:PV × Dl} (h:roomK n bytes x=some r):(2 * n+192) * bytes≤140737488355328∧n≤4611686018427387904∧x=some r:=by
 obtain ⟨h1,h2⟩:=ifK_inv h
 obtain ⟨h3,h4⟩:=ifK_inv h2
 exact ⟨Nat.le_of_ble_eq_true h1,Nat.le_of_ble_eq_true h3,h4⟩
theorem e_callB {b:Builtin} {args:Array Operand} {ts:Array TypeId} (h:v_callB T.ti b (evA1 ev args.toList) ts.toList lk id=some (v,δ)):opE T (Sig.std P T) (.call { callee:=.builtin b,args:=args,argTypes:=ts }) ps lk id (KS v δ):=by
 rw [evA1_eq hev] at h
 simp only [opE]
 generalize evA T ps args.toList=A at h
 generalize ts.toList=tl at h
 unfold v_callB at h
 split at h
 ·rename_i x t
  obtain ⟨agg,size,zero,plain,kind,et,h1⟩:=okK_inv h
  rcases slcK_inv h1 with ⟨sz,es,full,rfl,h4⟩ | ⟨b,i,n,rfl,h4⟩ | ⟨s,rfl,h4⟩
  ·obtain ⟨esz,bytes,zz,rfl,h5⟩:=sliK_inv h4
   obtain ⟨rfl,rfl⟩:=okI_inv h5
   simp only [et,lenRR_eq]; exact ⟨Sim.si _ _,rfl⟩
  ·obtain ⟨esz,bytes,zz,rfl,h5⟩:=sliK_inv h4
   obtain ⟨rfl,rfl⟩:=okI_inv h5
   simp only [et]; exact ⟨Sim.si _ _,rfl⟩
  ·obtain ⟨rfl,h5⟩:=strT_inv h4
   obtain ⟨rfl,rfl⟩:=okI_inv h5
   simp only [et]
   refine ⟨?_,rfl⟩
   have:(Sig.std P T).slen s=Int.ofNat s.data.toList.length:=by
    show ((s.size:Nat):Int)=((s.data.toList.length:Nat):Int)
    rw [Array.length_toList]; rfl
   rw [this]; exact Sim.si _ _
 ·rename_i x y
  obtain ⟨k,a,rfl,h1⟩:=intK_inv h
  obtain ⟨k',c,rfl,h2⟩:=intK_inv h1
  obtain ⟨hk,h3⟩:=ifK_inv h2
  obtain ⟨rfl,rfl⟩:=okI_inv h3
  have:=kEq_eq hk
  subst this
  simp only [kindEq_refl,cond_true,ltI_eq]
  refine ⟨?_,rfl⟩
  by_cases hc:c<a
  ·rw [if_pos hc,decide_eq_true hc]; exact Sim.refl _
  ·rw [if_neg hc,decide_eq_false hc]; exact Sim.refl _
 ·rename_i x y
  obtain ⟨k,a,rfl,h1⟩:=intK_inv h
  obtain ⟨k',c,rfl,h2⟩:=intK_inv h1
  obtain ⟨hk,h3⟩:=ifK_inv h2
  obtain ⟨rfl,rfl⟩:=okI_inv h3
  have:=kEq_eq hk
  subst this
  simp only [kindEq_refl,cond_true,ltI_eq]
  refine ⟨?_,rfl⟩
  by_cases hc:a<c
  ·rw [if_pos hc,decide_eq_true hc]; exact Sim.refl _
  ·rw [if_neg hc,decide_eq_false hc]; exact Sim.refl _
 ·rename_i s x t u tl
  obtain ⟨agg,size,zero,plain,kind,et,h1⟩:=okK_inv h
  obtain ⟨esz,bytes,zz,rfl,h2⟩:=sliK_inv h1
  obtain ⟨z,rfl,h3⟩:=optK_inv h2
  obtain ⟨agg',size',zero',plain',kind',eu,h4⟩:=okK_inv h3
  obtain ⟨esz',bytes',zz',rfl,h5⟩:=sliK_inv h4
  obtain ⟨hp,h6⟩:=ifK_inv h5
  obtain ⟨hz,h7⟩:=ifK_inv h6
  obtain ⟨new,hn,h8⟩:=rowsK_inv (T:=T) hev P h7
  simp only [lenR_eq] at hz
  simp only [et,eu,lenL_eq,hp,hz,Bool.and_self,cond_true,hn]
  rcases slcK_inv h8 with ⟨sz,es,full,rfl,h9⟩ | ⟨b,i,n,rfl,h9⟩ | ⟨s,rfl,h9⟩
  ·obtain ⟨hf,h10⟩:=ifK_inv h9
   subst hf
   cases es with
   | cons _ _=>cases h10
   | nil =>
    obtain ⟨r1,r2,h11⟩:=roomK_inv (x:=some (PV.os id 0 (lenRR new),[(id,some (Blk.arr false esz new))])) h10
    cases h11
    simp only [lenRR_eq] at r1 r2
    refine ⟨r1,r2,?_⟩
    simp only [lenRR_eq]; exact KS.refl _ _
  ·obtain ⟨ro,sz,rows,eb,h10⟩:=arrK_inv h9
   obtain ⟨hr,h11⟩:=ifK_inv h10
   have hr:=notB_inv hr
   subst hr
   obtain ⟨hb,h12⟩:=ifK_inv h11
   obtain ⟨r1,r2,h13⟩:=roomK_inv h12
   cases h13
   simp only [lenRR_eq] at r1 r2
   have r1:(2 * (n+new.length)+192) * bytes≤140737488355328:=r1
   simp only [eb,hb,cond_true]
   refine ⟨r1,r2,?_⟩
   simp only [lenRR_eq,appRR_eq,takeRR_eq,dropRR_eq]; exact KS.refl _ _
  ·cases h9
 ·rename_i x t tl
  obtain ⟨agg,size,zero,plain,kind,et,h1⟩:=okK_inv h
  obtain ⟨esz,bytes,zz,rfl,h2⟩:=sliK_inv h1
  obtain ⟨z,rfl,h3⟩:=optK_inv h2
  rcases slcK_inv h3 with ⟨sz,es,full,rfl,h4⟩ | ⟨b,r,n,rfl,h4⟩ | ⟨s,rfl,h4⟩
  ·cases h4
  ·obtain ⟨ro,sz,rows,eb,h5⟩:=arrK_inv h4
   obtain ⟨hr,h6⟩:=ifK_inv h5
   have hr:=notB_inv hr
   subst hr
   obtain ⟨a1,h7⟩:=ifK_inv h6
   obtain ⟨a2,h8⟩:=ifK_inv h7
   obtain ⟨a3,h9⟩:=ifK_inv h8
   obtain ⟨a4,h10⟩:=ifK_inv h9
   cases h10
   simp only [lenR_eq] at a2
   simp only [et,eb]
   rw [show (Nat.beq sz esz && Nat.beq (lenL z) sz && isPos sz && allCell z)=true from (by simp only [Bool.and_eq_true,lenL_eq]; exact ⟨⟨⟨a1,a2⟩,a3⟩,allCell_of a4⟩)]
   simp only [cond_true]
   refine wkC_same ?_
   have:(Sig.std P T).spl rows r ((Sig.std P T).rep n z)=appRR (takeRR r rows) (appRR (repRR n z) (dropRR (Nat.add r n) rows)):=by
    show rows.take r ++ List.replicate n z ++ rows.drop (r+(List.replicate n z).length)=_
    simp only [appRR_eq,takeRR_eq,dropRR_eq,repRR_eq,List.length_replicate,List.append_assoc]; rfl
   rw [this]; exact KS.refl _ _
  ·cases h4
 ·cases h
end
end Go.Pv
