import Derived.RangeFuncLeaves
import Derived.Test.YthfepelpmalckaaGreatDoorD05
set_option linter.all false
namespace Go.Pv
open Go
theorem half_lt {m f:Nat} (h:m<f):Nat.div m 2<f:=Nat.lt_of_le_of_lt (Nat.div_le_self m 2) h
theorem half_inj {m k:Nat} (hp:Nat.beq (Nat.mod m 2) 0=Nat.beq (Nat.mod k 2) 0) (hd:Nat.div m 2=Nat.div k 2):m=k:=by
 have h1:m / 2=k / 2:=hd
 have h2:Nat.beq (m % 2) 0=Nat.beq (k % 2) 0:=hp
 have h3:m % 2=0∨m % 2=1:=by omega
 have h4:k % 2=0∨k % 2=1:=by omega
 rcases h3 with h3 | h3 <;> rcases h4 with h4 | h4 <;> rw [h3,h4] at h2 <;> first | omega | (cases h2)
noncomputable def setPF (f:Nat):PV→Nat→Tr PV→Tr PV:=fun x k t=>Nat.rec (motive:=fun _=>PV→Nat→Tr PV→Tr PV) (fun _ _ t=>t)
 (fun _ ih x k t=>Tr.rec (motive:=fun _=>Tr PV)
  (Nat.rec (motive:=fun _=>Tr PV) (Tr.n x Tr.e Tr.e) (fun m _=>Bool.rec (motive:=fun _=>Tr PV) (Tr.n PV.undef Tr.e (ih x (Nat.div m 2) Tr.e)) (Tr.n PV.undef (ih x (Nat.div m 2) Tr.e) Tr.e) (Nat.beq (Nat.mod m 2) 0)) k)
  (fun v l r _ _=>Nat.rec (motive:=fun _=>Tr PV) (Tr.n x l r) (fun m _=>Bool.rec (motive:=fun _=>Tr PV) (Tr.n v l (ih x (Nat.div m 2) r)) (Tr.n v (ih x (Nat.div m 2) l) r) (Nat.beq (Nat.mod m 2) 0)) k) t) f x k t
theorem getP_ns (v:PV) (l r:Tr PV) (m:Nat):getP (.n v l r) (m+1)=Bool.rec (motive:=fun _=>PV) (getP r (Nat.div m 2)) (getP l (Nat.div m 2)) (Nat.beq (Nat.mod m 2) 0):=rfl
theorem getP_setPF:∀ (f k:Nat),k<f→∀ (x:PV) (t:Tr PV) (j:Nat),getP (setPF f x k t) j=if j=k then x else getP t j
 | 0,k,h,_,_,_=>by omega
 | f+1,0,_,x,t,j=>by
  cases t with
  | e =>
   show getP (Tr.n x Tr.e Tr.e) j=_
   cases j with
   | zero=>rfl
   | succ j =>
    rw [getP_ns,if_neg (by omega)]
    show _=PV.undef
    cases Nat.beq (Nat.mod j 2) 0 <;> rfl
  | n v l r =>
   show getP (Tr.n x l r) j=_
   cases j with
   | zero=>rfl
   | succ j=>rw [if_neg (by omega)]; rfl
 | f+1,k+1,h,x,t,j=>by
  have ih:=fun (t:Tr PV) (j:Nat)=>getP_setPF f (Nat.div k 2) (half_lt (by omega)) x t j
  cases t with
  | e =>
   show getP (Bool.rec (motive:=fun _=>Tr PV) (Tr.n PV.undef Tr.e (setPF f x (Nat.div k 2) Tr.e)) (Tr.n PV.undef (setPF f x (Nat.div k 2) Tr.e) Tr.e) (Nat.beq (Nat.mod k 2) 0)) j=_
   cases hb:Nat.beq (Nat.mod k 2) 0 with
   | false =>
    cases j with
    | zero=>rw [if_neg (by omega)]; rfl
    | succ j =>
     rw [getP_ns]
     cases hj:Nat.beq (Nat.mod j 2) 0 with
     | false =>
      show getP (setPF f x (Nat.div k 2) Tr.e) (Nat.div j 2)=_
      rw [ih]
      by_cases he:Nat.div j 2=Nat.div k 2
      ·rw [if_pos he,if_pos (by rw [half_inj (by rw [hb,hj]) he])]
      ·rw [if_neg he,if_neg (by intro e; apply he; rw [Nat.succ.inj e])]; rfl
     | true =>
      show getP Tr.e _=_
      rw [if_neg (by intro e; rw [Nat.succ.inj e,hb] at hj; cases hj)]; rfl
   | true =>
    cases j with
    | zero=>rw [if_neg (by omega)]; rfl
    | succ j =>
     rw [getP_ns]
     cases hj:Nat.beq (Nat.mod j 2) 0 with
     | true =>
      show getP (setPF f x (Nat.div k 2) Tr.e) (Nat.div j 2)=_
      rw [ih]
      by_cases he:Nat.div j 2=Nat.div k 2
      ·rw [if_pos he,if_pos (by rw [half_inj (by rw [hb,hj]) he])]
      ·rw [if_neg he,if_neg (by intro e; apply he; rw [Nat.succ.inj e])]; rfl
     | false =>
      show getP Tr.e _=_
      rw [if_neg (by intro e; rw [Nat.succ.inj e,hb] at hj; cases hj)]; rfl
  | n v l r =>
   show getP (Bool.rec (motive:=fun _=>Tr PV) (Tr.n v l (setPF f x (Nat.div k 2) r)) (Tr.n v (setPF f x (Nat.div k 2) l) r) (Nat.beq (Nat.mod k 2) 0)) j=_
   cases hb:Nat.beq (Nat.mod k 2) 0 with
   | false =>
    cases j with
    | zero=>rw [if_neg (by omega)]; rfl
    | succ j =>
     rw [getP_ns,getP_ns]
     cases hj:Nat.beq (Nat.mod j 2) 0 with
     | false =>
      show getP (setPF f x (Nat.div k 2) r) (Nat.div j 2)=_
      rw [ih]
      by_cases he:Nat.div j 2=Nat.div k 2
      ·rw [if_pos he,if_pos (by rw [half_inj (by rw [hb,hj]) he])]
      ·rw [if_neg he,if_neg (by intro e; apply he; rw [Nat.succ.inj e])]
     | true=>rw [if_neg (by intro e; rw [Nat.succ.inj e,hb] at hj; cases hj)]
   | true =>
    cases j with
    | zero=>rw [if_neg (by omega)]; rfl
    | succ j =>
     rw [getP_ns,getP_ns]
     cases hj:Nat.beq (Nat.mod j 2) 0 with
     | true =>
      show getP (setPF f x (Nat.div k 2) l) (Nat.div j 2)=_
      rw [ih]
      by_cases he:Nat.div j 2=Nat.div k 2
      ·rw [if_pos he,if_pos (by rw [half_inj (by rw [hb,hj]) he])]
      ·rw [if_neg he,if_neg (by intro e; apply he; rw [Nat.succ.inj e])]
     | false=>rw [if_neg (by intro e; rw [Nat.succ.inj e,hb] at hj; cases hj)]
theorem getP_setP (x:PV) (k:Nat) (t:Tr PV) (j:Nat):getP (setP x k t) j=if j=k then x else getP t j:=getP_setPF (k+1) k (by omega) x t j
noncomputable def setBF (f:Nat):Option Blk→Nat→Sb→Sb:=fun x k t=>Nat.rec (motive:=fun _=>Option Blk→Nat→Sb→Sb) (fun _ _ t=>t)
 (fun _ ih x k t=>Tr.rec (motive:=fun _=>Sb)
  (Nat.rec (motive:=fun _=>Sb) (Tr.n x Tr.e Tr.e) (fun m _=>Bool.rec (motive:=fun _=>Sb) (Tr.n none Tr.e (ih x (Nat.div m 2) Tr.e)) (Tr.n none (ih x (Nat.div m 2) Tr.e) Tr.e) (Nat.beq (Nat.mod m 2) 0)) k)
  (fun v l r _ _=>Nat.rec (motive:=fun _=>Sb) (Tr.n x l r) (fun m _=>Bool.rec (motive:=fun _=>Sb) (Tr.n v l (ih x (Nat.div m 2) r)) (Tr.n v (ih x (Nat.div m 2) l) r) (Nat.beq (Nat.mod m 2) 0)) k) t) f x k t
theorem getB_ns (v:Option Blk) (l r:Sb) (m:Nat):getB (.n v l r) (m+1)=Bool.rec (motive:=fun _=>Option Blk) (getB r (Nat.div m 2)) (getB l (Nat.div m 2)) (Nat.beq (Nat.mod m 2) 0):=rfl
theorem getB_setBF:∀ (f k:Nat),k<f→∀ (x:Option Blk) (t:Sb) (j:Nat),getB (setBF f x k t) j=if j=k then x else getB t j
 | 0,k,h,_,_,_=>by omega
 | f+1,0,_,x,t,j=>by
  cases t with
  | e =>
   show getB (Tr.n x Tr.e Tr.e) j=_
   cases j with
   | zero=>rfl
   | succ j =>
    rw [getB_ns,if_neg (by omega)]
    show _=none
    cases Nat.beq (Nat.mod j 2) 0 <;> rfl
  | n v l r =>
   show getB (Tr.n x l r) j=_
   cases j with
   | zero=>rfl
   | succ j=>rw [if_neg (by omega)]; rfl
 | f+1,k+1,h,x,t,j=>by
  have ih:=fun (t:Sb) (j:Nat)=>getB_setBF f (Nat.div k 2) (half_lt (by omega)) x t j
  cases t with
  | e =>
   show getB (Bool.rec (motive:=fun _=>Sb) (Tr.n none Tr.e (setBF f x (Nat.div k 2) Tr.e)) (Tr.n none (setBF f x (Nat.div k 2) Tr.e) Tr.e) (Nat.beq (Nat.mod k 2) 0)) j=_
   cases hb:Nat.beq (Nat.mod k 2) 0 with
   | false =>
    cases j with
    | zero=>rw [if_neg (by omega)]; rfl
    | succ j =>
     rw [getB_ns]
     cases hj:Nat.beq (Nat.mod j 2) 0 with
     | false =>
      show getB (setBF f x (Nat.div k 2) Tr.e) (Nat.div j 2)=_
      rw [ih]
      by_cases he:Nat.div j 2=Nat.div k 2
      ·rw [if_pos he,if_pos (by rw [half_inj (by rw [hb,hj]) he])]
      ·rw [if_neg he,if_neg (by intro e; apply he; rw [Nat.succ.inj e])]; rfl
     | true =>
      show getB Tr.e _=_
      rw [if_neg (by intro e; rw [Nat.succ.inj e,hb] at hj; cases hj)]; rfl
   | true =>
    cases j with
    | zero=>rw [if_neg (by omega)]; rfl
    | succ j =>
     rw [getB_ns]
     cases hj:Nat.beq (Nat.mod j 2) 0 with
     | true =>
      show getB (setBF f x (Nat.div k 2) Tr.e) (Nat.div j 2)=_
      rw [ih]
      by_cases he:Nat.div j 2=Nat.div k 2
      ·rw [if_pos he,if_pos (by rw [half_inj (by rw [hb,hj]) he])]
      ·rw [if_neg he,if_neg (by intro e; apply he; rw [Nat.succ.inj e])]; rfl
     | false =>
      show getB Tr.e _=_
      rw [if_neg (by intro e; rw [Nat.succ.inj e,hb] at hj; cases hj)]; rfl
  | n v l r =>
   show getB (Bool.rec (motive:=fun _=>Sb) (Tr.n v l (setBF f x (Nat.div k 2) r)) (Tr.n v (setBF f x (Nat.div k 2) l) r) (Nat.beq (Nat.mod k 2) 0)) j=_
   cases hb:Nat.beq (Nat.mod k 2) 0 with
   | false =>
    cases j with
    | zero=>rw [if_neg (by omega)]; rfl
    | succ j =>
     rw [getB_ns,getB_ns]
     cases hj:Nat.beq (Nat.mod j 2) 0 with
     | false =>
      show getB (setBF f x (Nat.div k 2) r) (Nat.div j 2)=_
      rw [ih]
      by_cases he:Nat.div j 2=Nat.div k 2
      ·rw [if_pos he,if_pos (by rw [half_inj (by rw [hb,hj]) he])]
      ·rw [if_neg he,if_neg (by intro e; apply he; rw [Nat.succ.inj e])]
     | true=>rw [if_neg (by intro e; rw [Nat.succ.inj e,hb] at hj; cases hj)]
   | true =>
    cases j with
    | zero=>rw [if_neg (by omega)]; rfl
    | succ j =>
     rw [getB_ns,getB_ns]
     cases hj:Nat.beq (Nat.mod j 2) 0 with
     | true =>
      show getB (setBF f x (Nat.div k 2) l) (Nat.div j 2)=_
      rw [ih]
      by_cases he:Nat.div j 2=Nat.div k 2
      ·rw [if_pos he,if_pos (by rw [half_inj (by rw [hb,hj]) he])]
      ·rw [if_neg he,if_neg (by intro e; apply he; rw [Nat.succ.inj e])]
     | false=>rw [if_neg (by intro e; rw [Nat.succ.inj e,hb] at hj; cases hj)]
theorem getB_setB (x:Option Blk) (k:Nat) (t:Sb) (j:Nat):getB (setB x k t) j=if j=k then x else getB t j:=getB_setBF (k+1) k (by omega) x t j
@[simp] theorem lenR_eq:∀ l,lenR l=l.length
 | []=>rfl
 | _::l=>by show Nat.succ (lenR l)=_; rw [lenR_eq l]; rfl
@[simp] theorem lenRR_eq:∀ l,lenRR l=l.length
 | []=>rfl
 | _::l=>by show Nat.succ (lenRR l)=_; rw [lenRR_eq l]; rfl
@[simp] theorem dropR_eq:∀ n l,dropR n l=l.drop n
 | 0,l=>rfl
 | n+1,[]=>by simp; rfl
 | n+1,x::l=>by show dropR n l=_; rw [dropR_eq n l]; simp
@[simp] theorem takeR_eq:∀ n l,takeR n l=l.take n
 | 0,l=>by simp; rfl
 | n+1,[]=>by simp; rfl
 | n+1,x::l=>by show x::takeR n l=_; rw [takeR_eq n l]; simp
@[simp] theorem dropRR_eq:∀ n l,dropRR n l=l.drop n
 | 0,l=>rfl
 | n+1,[]=>by simp; rfl
 | n+1,x::l=>by show dropRR n l=_; rw [dropRR_eq n l]; simp
@[simp] theorem takeRR_eq:∀ n l,takeRR n l=l.take n
 | 0,l=>by simp; rfl
 | n+1,[]=>by simp; rfl
 | n+1,x::l=>by show x::takeRR n l=_; rw [takeRR_eq n l]; simp
@[simp] theorem appRR_eq:∀ l m,appRR l m=l ++ m
 | [],m=>by simp; rfl
 | x::l,m=>by show x::appRR l m=_; rw [appRR_eq l m]; simp
@[simp] theorem appR_eq:∀ l m,appR l m=l ++ m
 | [],m=>by simp; rfl
 | x::l,m=>by show x::appR l m=_; rw [appR_eq l m]; simp
@[simp] theorem appD_eq:∀ l m,appD l m=l ++ m
 | [],m=>by simp; rfl
 | x::l,m=>by show x::appD l m=_; rw [appD_eq l m]; simp
@[simp] theorem setRR_eq:∀ l n v,setRR l n v=l.set n v
 | [],n,v=>by simp; rfl
 | x::l,0,v=>by simp; rfl
 | x::l,n+1,v=>by show x::setRR l n v=_; rw [setRR_eq l n v]; simp
@[simp] theorem repR_eq:∀ n l,repR n l=repL n l
 | 0,l=>rfl
 | n+1,l=>by show appR l (repR n l)=appL l (repL n l); rw [repR_eq n l]; simp
@[simp] theorem repRR_eq:∀ n l,repRR n l=List.replicate n l
 | 0,l=>by simp; rfl
 | n+1,l=>by show l::repRR n l=_; rw [repRR_eq n l]; simp [List.replicate_succ]
@[simp] theorem chkR_eq:∀ n sz l,chkR n sz l=chunks sz n l
 | 0,sz,l=>rfl
 | n+1,sz,l=>by show takeR sz l::chkR n sz (dropR sz l)=takeL sz l::chunks sz n (dropL sz l); rw [chkR_eq n]; simp
@[simp] theorem evA1_eq {T:Tab} {ps:List PV} {ev:Operand→PV} (h:∀ x,ev x=evL T ps x):∀ l,evA1 ev l=evA T ps l
 | []=>rfl
 | x::l=>by show ev x::evA1 ev l=_; rw [evA1_eq h l,h x]; rfl
theorem ovrR_get:∀ (cs row:List PV) (j:Nat),cs.length≤row.length→(ovrR cs row)[j]?=if j<cs.length then cs[j]? else row[j]?
 | [],row,j,_=>by rw [if_neg (by simp)]; rfl
 | x::cs,[],j,h=>by simp at h
 | x::cs,y::row,0,h=>by rw [if_pos (by simp)]; rfl
 | x::cs,y::row,j+1,h=>by
  show (x::ovrR cs row)[j+1]?=_
  simp only [List.getElem?_cons_succ,List.length_cons]
  rw [ovrR_get cs row j (by simpa using h)]
  by_cases hj:j<cs.length
  ·rw [if_pos hj,if_pos (by omega)]
  ·rw [if_neg hj,if_neg (by omega)]
theorem splR_get:∀ (c:Nat) (cs row:List PV) (j:Nat),c+cs.length≤row.length→(splR c cs row)[j]?=if c≤j∧j<c+cs.length then cs[j - c]? else row[j]?
 | 0,cs,row,j,h=>by
  show (ovrR cs row)[j]?=_
  rw [ovrR_get cs row j (by omega)]
  by_cases hj:j<cs.length
  ·rw [if_pos hj,if_pos (by omega)]; rfl
  ·rw [if_neg hj,if_neg (by omega)]
 | c+1,cs,[],j,h=>by simp at h
 | c+1,cs,x::row,0,h=>by rw [if_neg (by omega)]; rfl
 | c+1,cs,x::row,j+1,h=>by
  show (x::splR c cs row)[j+1]?=_
  simp only [List.getElem?_cons_succ]
  rw [splR_get c cs row j (by simp at h; omega)]
  by_cases hj:c≤j∧j<c+cs.length
  ·rw [if_pos hj,if_pos (by omega)]; congr 1; omega
  ·rw [if_neg hj,if_neg (by omega)]
theorem splR_eq {c:Nat} {cs row:List PV} (h:c+cs.length≤row.length):splR c cs row=writeL row c cs:=by
 apply List.ext_getElem?
 intro j
 rw [splR_get _ _ _ _ h,writeL_get _ _ _ _ h]
theorem ifK_inv {b:Bool} {x:Rs} {r:PV × Dl} (h:ifK b x=some r):b=true∧x=some r:=by
 cases b with
 | false=>cases h
 | true=>exact ⟨rfl,h⟩
theorem okK_inv {t:TI} {K:Bool→Nat→Option (List PV)→Option (List Nat)→TK→Rs} {r:PV × Dl} (h:okK t K=some r):∃ agg size zero plain kind,t=⟨true,agg,size,zero,plain,kind⟩∧K agg size zero plain kind=some r:=by
 obtain ⟨ok,agg,size,zero,plain,kind⟩:=t
 cases ok with
 | false=>cases h
 | true=>exact ⟨agg,size,zero,plain,kind,rfl,h⟩
theorem stcK_inv {t:TK} {K:List FI→Rs} {r:PV × Dl} (h:stcK t K=some r):∃ fs,t=.struct fs∧K fs=some r:=by
 cases t <;> first | (cases h; done) | exact ⟨_,rfl,h⟩
theorem sliK_inv {t:TK} {K:Nat→Nat→Option (List PV)→Rs} {r:PV × Dl} (h:sliK t K=some r):∃ sz bytes zero,t=.slice sz bytes zero∧K sz bytes zero=some r:=by
 cases t <;> first | (cases h; done) | exact ⟨_,_,_,rfl,h⟩
theorem intT_inv {t:TK} {K:IntKind→Rs} {r:PV × Dl} (h:intT t K=some r):∃ k,t=.int k∧K k=some r:=by
 cases t <;> first | (cases h; done) | exact ⟨_,rfl,h⟩
theorem strT_inv {t:TK} {K:Rs} {r:PV × Dl} (h:strT t K=some r):t=.str∧K=some r:=by
 cases t <;> first | (cases h; done) | exact ⟨rfl,h⟩
theorem ixT_inv {t:TK} {K1:Nat→Nat→Option (List PV)→Rs} {K2:Nat→Nat→Bool→Rs} {K3:Rs} {r:PV × Dl} (h:ixT t K1 K2 K3=some r) :
  (∃ sz bytes zero,t=.slice sz bytes zero∧K1 sz bytes zero=some r)∨(∃ n sz agg,t=.arr n sz agg∧K2 n sz agg=some r)∨(t=.str∧K3=some r):=by
 cases t <;> first | (cases h; done) | exact .inl ⟨_,_,_,rfl,h⟩ | exact .inr (.inl ⟨_,_,_,rfl,h⟩) | exact .inr (.inr ⟨rfl,h⟩)
theorem varK_inv {x:Option Blk} {K:Bool→List PV→Rs} {r:PV × Dl} (h:varK x K=some r):∃ ro row,x=some (.var ro row)∧K ro row=some r:=by
 cases x with
 | none=>cases h
 | some x=>cases x <;> first | (cases h; done) | exact ⟨_,_,rfl,h⟩
theorem arrK_inv {x:Option Blk} {K:Bool→Nat→List (List PV)→Rs} {r:PV × Dl} (h:arrK x K=some r):∃ ro sz rows,x=some (.arr ro sz rows)∧K ro sz rows=some r:=by
 cases x with
 | none=>cases h
 | some x=>cases x <;> first | (cases h; done) | exact ⟨_,_,_,rfl,h⟩
theorem optK_inv {x:Option (List PV)} {K:List PV→Rs} {r:PV × Dl} (h:optK x K=some r):∃ z,x=some z∧K z=some r:=by
 cases x with
 | none=>cases h
 | some z=>exact ⟨z,rfl,h⟩
theorem fldK_inv:∀ {l:List FI} {n:Nat} {K:Nat→Nat→Bool→Rs} {r:PV × Dl},fldK l n K=some r→∃ fd,fieldOf l n=some fd∧K fd.off fd.size fd.agg=some r
 | [],n,K,r,h=>by cases h
 | f::l,0,K,r,h=>⟨f,rfl,h⟩
 | f::l,n+1,K,r,h=>fldK_inv (l:=l) h
theorem rowK_inv:∀ {l:List (List PV)} {n:Nat} {K:List PV→Rs} {r:PV × Dl},rowK l n K=some r→∃ row,l[n]?=some row∧K row=some r
 | [],n,K,r,h=>by cases h
 | f::l,0,K,r,h=>⟨f,rfl,h⟩
 | f::l,n+1,K,r,h=>by
  obtain ⟨row,h1,h2⟩:=rowK_inv (l:=l) h
  exact ⟨row,by simpa using h1,h2⟩
theorem natK_inv {n:Int} {K:Nat→Rs} {r:PV × Dl} (h:natK n K=some r):∃ m:Nat,n=(m:Int)∧K m=some r:=by
 cases n with
 | ofNat m=>exact ⟨m,rfl,h⟩
 | negSucc m=>cases h
theorem intK_inv {v:PV} {K:IntKind→Int→Rs} {r:PV × Dl} (h:intK v K=some r):∃ k n,v=.int k n∧K k n=some r:=by
 cases v <;> first | (cases h; done) | exact ⟨_,_,rfl,h⟩
theorem intE_inv {v:PV} {K:IntKind→Int→Rs} {D:Rs} {r:PV × Dl} (h:intE v K D=some r):(∃ k n,v=.int k n∧K k n=some r)∨((∀ k n,v ≠ .int k n)∧D=some r):=by
 cases v <;> first | exact .inl ⟨_,_,rfl,h⟩ | exact .inr ⟨fun _ _ e=>by (cases e),h⟩
theorem bolK_inv {v:PV} {X Y:Rs} {r:PV × Dl} (h:bolK v X Y=some r):(v=.bool true∧X=some r)∨(v=.bool false∧Y=some r):=by
 cases v with
 | bool b=>cases b with
  | true=>exact .inl ⟨rfl,h⟩
  | false=>exact .inr ⟨rfl,h⟩
 | _=>cases h
theorem bolE_inv {v:PV} {X Y:Oc} {r:Nat × EV} (h:bolE v X Y=some r):(v=.bool true∧X=some r)∨(v=.bool false∧Y=some r):=by
 cases v with
 | bool b=>cases b with
  | true=>exact .inl ⟨rfl,h⟩
  | false=>exact .inr ⟨rfl,h⟩
 | _=>cases h
theorem adrK_inv {v:PV} {K1:Nat→Nat→Rs} {K2:Nat→Nat→Nat→Rs} {K3:List PV→Rs} {r:PV × Dl} (h:adrK v K1 K2 K3=some r) :
  (∃ b c,v=.lv b c∧K1 b c=some r)∨(∃ b i c,v=.lp b i c∧K2 b i c=some r)∨(∃ cs,v=.pp cs∧K3 cs=some r):=by
 cases v <;> first | (cases h; done) | exact .inl ⟨_,_,rfl,h⟩ | exact .inr (.inl ⟨_,_,_,rfl,h⟩) | exact .inr (.inr ⟨_,rfl,h⟩)
theorem slcK_inv {v:PV} {K1:Nat→List (List PV)→Bool→Rs} {K2:Nat→Nat→Nat→Rs} {K3:ByteArray→Rs} {r:PV × Dl} (h:slcK v K1 K2 K3=some r) :
  (∃ sz es full,v=.sl sz es full∧K1 sz es full=some r)∨(∃ b i n,v=.os b i n∧K2 b i n=some r)∨(∃ s,v=.str s∧K3 s=some r):=by
 cases v <;> first | (cases h; done) | exact .inl ⟨_,_,_,rfl,h⟩ | exact .inr (.inl ⟨_,_,_,rfl,h⟩) | exact .inr (.inr ⟨_,rfl,h⟩)
theorem aggK_inv {v:PV} {K:List PV→Rs} {r:PV × Dl} (h:aggK v K=some r):∃ cs,v=.agg cs∧K cs=some r:=by
 cases v <;> first | (cases h; done) | exact ⟨_,rfl,h⟩
theorem tupK_inv {v:PV} {K:List PV→Rs} {r:PV × Dl} (h:tupK v K=some r):∃ cs,v=.tup cs∧K cs=some r:=by
 cases v <;> first | (cases h; done) | exact ⟨_,rfl,h⟩
theorem celK_inv {v:PV} {K:List PV→Rs} {r:PV × Dl} (h:celK v K=some r):v ≠ .top∧K (cellsV v)=some r:=by
 cases v <;> first | (cases h; done) | exact ⟨by simp,h⟩
theorem fnE_inv {v:PV} {K:Nat→List PV→Option (PV × Sb × Nat)} {r:PV × Sb × Nat} (h:fnE v K=some r):∃ k caps,v=.fn k caps∧K k caps=some r:=by
 cases v <;> first | (cases h; done) | exact ⟨_,_,rfl,h⟩
theorem nthK_inv:∀ {l:List PV} {n:Nat} {v:PV} {δ:Dl},nthK l n=some (v,δ)→δ=[]∧n<l.length∧v=getL l n
 | [],n,v,δ,h=>by cases h
 | x::l,0,v,δ,h=>by
  have h:some (x,([]:Dl))=some (v,δ):=h
  cases h; exact ⟨rfl,by simp,rfl⟩
 | x::l,n+1,v,δ,h=>by
  obtain ⟨h1,h2,h3⟩:=nthK_inv (l:=l) h
  exact ⟨h1,by simpa using h2,h3⟩
theorem allB_spec {f:PV→Bool}:∀ {l:List PV},allB f l=true→∀ x∈l,f x=true
 | [],_,x,hx=>by cases hx
 | y::l,h,x,hx=>by
  have h:Bool.rec (motive:=fun _=>Bool) false (allB f l) (f y)=true:=h
  cases hy:f y with
  | false=>rw [hy] at h; cases h
  | true =>
   rw [hy] at h
   rcases List.mem_cons.1 hx with rfl | hx
   ·exact hy
   ·exact allB_spec h x hx
theorem isCel_eq (v:PV):isCel v=isCell v:=by cases v <;> rfl
theorem allCell_of:∀ {l:List PV},allB isCel l=true→allCell l=true
 | [],_=>rfl
 | y::l,h=>by
  have h1:=allB_spec h y (by simp)
  have h:Bool.rec (motive:=fun _=>Bool) false (allB isCel l) (isCel y)=true:=h
  rw [h1] at h
  simp only [allCell,Bool.and_eq_true]
  exact ⟨by rw [← isCel_eq]; exact h1,allCell_of h⟩
theorem stoK_inv {size:Nat} {row:List PV} {c:Nat} {cs:List PV} {K:List PV→Rs} {r:PV × Dl} (h:stoK size row c cs K=some r):cs.length=size∧c+cs.length≤row.length∧K (writeL row c cs)=some r:=by
 obtain ⟨h1,h⟩:=ifK_inv h
 obtain ⟨h2,h⟩:=ifK_inv h
 have h1:=Nat.eq_of_beq_eq_true h1
 have h2:=Nat.le_of_ble_eq_true h2
 simp only [lenR_eq] at h1 h2
 have h2:c+cs.length≤row.length:=by rw [h1]; exact h2
 rw [splR_eq h2] at h
 exact ⟨h1,h2,h⟩
theorem load1_inv {agg:Bool} {size:Nat} {row:List PV} {c:Nat} {v:PV} {δ:Dl} (h:load1 agg size row c=some (v,δ)):δ=[]∧∀ K:PV→Prop,K v→loadRow agg size row c K:=by
 cases agg with
 | false =>
  obtain ⟨h1,h2,h3⟩:=nthK_inv h
  refine ⟨h1,fun K hk=>?_⟩
  unfold loadRow
  simp only [cond_false,lenL_eq,bifF,Nat.blt_eq]
  exact ⟨h2,by rw [← h3]; exact hk⟩
 | true =>
  obtain ⟨h1,h2⟩:=ifK_inv h
  simp only [takeR_eq,dropR_eq,Option.some.injEq,Prod.mk.injEq] at h2
  obtain ⟨rfl,rfl⟩:=h2
  refine ⟨rfl,fun K hk=>?_⟩
  unfold loadRow
  simp only [cond_true,bifF,lenL_eq,takeL_eq,dropL_eq]
  exact ⟨by simpa using h1,hk⟩
end Go.Pv
namespace Go.Pv
open Go
def Sim (v' v:PV):Prop:=∀ w Y σ u,Rep w Y σ v' u→Rep w Y σ v u
theorem Sim.refl (v:PV):Sim v v:=fun _ _ _ _ h=>h
theorem Sim.si (k:IntKind) (n:Int):Sim (.si k n) (.int k n):=fun w Y σ u h=>by unfold Rep at h ⊢; exact h
theorem Sim.sb (b:Bool):Sim (.sb b) (.bool b):=fun w Y σ u h=>by unfold Rep at h ⊢; exact h
def KS (v:PV) (δ:Dl):PV→Dl→Prop:=fun v' δ'=>Sim v' v∧δ'=δ
theorem KS.refl (v:PV) (δ:Dl):KS v δ v δ:=⟨Sim.refl v,rfl⟩
theorem kEq_eq {a b:IntKind} (h:kEq a b=true):a=b:=by
 have h:=Nat.eq_of_beq_eq_true h
 cases a <;> cases b <;> first | rfl | (cases h)
theorem kindEq_refl (k:IntKind):kindEq k k=true:=by cases k <;> rfl
theorem eqI_eq:∀ a b:Int,eqI a b=decide (a=b)
 | .ofNat a,.ofNat b=>by
  show Nat.beq a b=_
  by_cases h:a=b
  ·subst h; simp
  ·rw [show Nat.beq a b=false from (by cases hb:Nat.beq a b with | false=>rfl | true=>exact absurd (Nat.eq_of_beq_eq_true hb) h)]; symm; rw [decide_eq_false_iff_not]; intro e; first | exact h (Int.ofNat.inj e) | exact h (Int.negSucc.inj e)
 | .negSucc a,.negSucc b=>by
  show Nat.beq a b=_
  by_cases h:a=b
  ·subst h; simp
  ·rw [show Nat.beq a b=false from (by cases hb:Nat.beq a b with | false=>rfl | true=>exact absurd (Nat.eq_of_beq_eq_true hb) h)]; symm; rw [decide_eq_false_iff_not]; intro e; first | exact h (Int.ofNat.inj e) | exact h (Int.negSucc.inj e)
 | .ofNat _,.negSucc _=>by show false=_; simp
 | .negSucc _,.ofNat _=>by show false=_; simp
theorem ltI_eq:∀ a b:Int,ltI a b=decide (a<b)
 | .ofNat a,.ofNat b=>by
  show Nat.ble (Nat.succ a) b=_
  rw [Bool.eq_iff_iff,Nat.ble_eq,decide_eq_true_iff]; exact ⟨fun h=>Int.ofNat_lt.2 h,fun h=>Int.ofNat_lt.1 h⟩
 | .negSucc a,.negSucc b=>by
  show Nat.ble (Nat.succ b) a=_
  rw [Bool.eq_iff_iff,Nat.ble_eq,decide_eq_true_iff]; omega
 | .ofNat a,.negSucc b=>by
  show false=_
  symm; rw [decide_eq_false_iff_not]
  have:(Int.ofNat a)=(a:Int):=rfl
  omega
 | .negSucc a,.ofNat b=>by
  show true=_
  symm; rw [decide_eq_true_iff]
  have:(Int.ofNat b)=(b:Int):=rfl
  omega
theorem notB_eq (b:Bool):notB b=!b:=by cases b <;> rfl
theorem zSub_eq (m n:Nat):zSub m n=(m:Int) - (n:Int):=by
 unfold zSub
 show Nat.rec (motive:=fun _=>Int) (Int.ofNat (m - n)) (fun k _=>Int.negSucc k) (n - m)=_
 rcases Nat.lt_or_ge m n with h | h
 ·obtain ⟨k,hk⟩:∃ k,n - m=k+1:=⟨n - m - 1,by omega⟩
  rw [hk]; show Int.negSucc k=_; omega
 ·rw [show n - m=0 by omega]; show Int.ofNat (m - n)=_
  have:(Int.ofNat (m - n))=((m - n:Nat):Int):=rfl
  omega
theorem zAdd_eq:∀ a b:Int,zAdd a b=a+b
 | .ofNat a,.ofNat b=>rfl
 | .ofNat a,.negSucc b=>by
  show zSub a (b+1)=_
  rw [zSub_eq]; have:(Int.ofNat a)=(a:Int):=rfl
  omega
 | .negSucc a,.ofNat b=>by
  show zSub b (a+1)=_
  rw [zSub_eq]; have:(Int.ofNat b)=(b:Int):=rfl
  omega
 | .negSucc a,.negSucc b=>rfl
theorem zNeg_eq:∀ a:Int,zNeg a=-a
 | .ofNat 0=>rfl
 | .ofNat (n+1)=>rfl
 | .negSucc n=>rfl
theorem wrap_def (k:IntKind) (n:Int):k.wrap n=if (k.signed && decide (n % 2 ^ k.bits ≥ 2 ^ (k.bits - 1)))=true then n % 2 ^ k.bits - 2 ^ k.bits else n % 2 ^ k.bits:=rfl
theorem wrap_pos (k:IntKind) (m:Nat) (h:m+1≤half k):k.wrap (m:Int)=(m:Int):=by
 rw [wrap_def]
 cases k
 case i8=>have h:m+1≤128:=h; show (if (true && decide ((m:Int) % 2 ^ 8 ≥ 2 ^ (8 - 1)))=true then (m:Int) % 2 ^ 8 - 2 ^ 8 else (m:Int) % 2 ^ 8)=_; split <;> rename_i hh <;> simp at hh <;> omega
 case i16=>have h:m+1≤32768:=h; show (if (true && decide ((m:Int) % 2 ^ 16 ≥ 2 ^ (16 - 1)))=true then (m:Int) % 2 ^ 16 - 2 ^ 16 else (m:Int) % 2 ^ 16)=_; split <;> rename_i hh <;> simp at hh <;> omega
 case i32=>have h:m+1≤2147483648:=h; show (if (true && decide ((m:Int) % 2 ^ 32 ≥ 2 ^ (32 - 1)))=true then (m:Int) % 2 ^ 32 - 2 ^ 32 else (m:Int) % 2 ^ 32)=_; split <;> rename_i hh <;> simp at hh <;> omega
 case i64=>have h:m+1≤9223372036854775808:=h; show (if (true && decide ((m:Int) % 2 ^ 64 ≥ 2 ^ (64 - 1)))=true then (m:Int) % 2 ^ 64 - 2 ^ 64 else (m:Int) % 2 ^ 64)=_; split <;> rename_i hh <;> simp at hh <;> omega
 case u8=>have h:m+1≤256:=h; show (if (false && decide ((m:Int) % 2 ^ 8 ≥ 2 ^ (8 - 1)))=true then (m:Int) % 2 ^ 8 - 2 ^ 8 else (m:Int) % 2 ^ 8)=_; split <;> rename_i hh <;> simp at hh <;> omega
 case u16=>have h:m+1≤65536:=h; show (if (false && decide ((m:Int) % 2 ^ 16 ≥ 2 ^ (16 - 1)))=true then (m:Int) % 2 ^ 16 - 2 ^ 16 else (m:Int) % 2 ^ 16)=_; split <;> rename_i hh <;> simp at hh <;> omega
 case u32=>have h:m+1≤4294967296:=h; show (if (false && decide ((m:Int) % 2 ^ 32 ≥ 2 ^ (32 - 1)))=true then (m:Int) % 2 ^ 32 - 2 ^ 32 else (m:Int) % 2 ^ 32)=_; split <;> rename_i hh <;> simp at hh <;> omega
 case u64=>have h:m+1≤18446744073709551616:=h; show (if (false && decide ((m:Int) % 2 ^ 64 ≥ 2 ^ (64 - 1)))=true then (m:Int) % 2 ^ 64 - 2 ^ 64 else (m:Int) % 2 ^ 64)=_; split <;> rename_i hh <;> simp at hh <;> omega
theorem wrap_neg (k:IntKind) (m:Nat) (h:m+1≤negOk k):k.wrap (Int.negSucc m)=Int.negSucc m:=by
 rw [wrap_def]
 cases k
 case i8=>have h:m+1≤128:=h; show (if (true && decide ((Int.negSucc m) % 2 ^ 8 ≥ 2 ^ (8 - 1)))=true then (Int.negSucc m) % 2 ^ 8 - 2 ^ 8 else (Int.negSucc m) % 2 ^ 8)=_; split <;> rename_i hh <;> simp at hh <;> omega
 case i16=>have h:m+1≤32768:=h; show (if (true && decide ((Int.negSucc m) % 2 ^ 16 ≥ 2 ^ (16 - 1)))=true then (Int.negSucc m) % 2 ^ 16 - 2 ^ 16 else (Int.negSucc m) % 2 ^ 16)=_; split <;> rename_i hh <;> simp at hh <;> omega
 case i32=>have h:m+1≤2147483648:=h; show (if (true && decide ((Int.negSucc m) % 2 ^ 32 ≥ 2 ^ (32 - 1)))=true then (Int.negSucc m) % 2 ^ 32 - 2 ^ 32 else (Int.negSucc m) % 2 ^ 32)=_; split <;> rename_i hh <;> simp at hh <;> omega
 case i64=>have h:m+1≤9223372036854775808:=h; show (if (true && decide ((Int.negSucc m) % 2 ^ 64 ≥ 2 ^ (64 - 1)))=true then (Int.negSucc m) % 2 ^ 64 - 2 ^ 64 else (Int.negSucc m) % 2 ^ 64)=_; split <;> rename_i hh <;> simp at hh <;> omega
 case u8=>have h:m+1≤0:=h; omega
 case u16=>have h:m+1≤0:=h; omega
 case u32=>have h:m+1≤0:=h; omega
 case u64=>have h:m+1≤0:=h; omega
theorem wrapI_eq (k:IntKind) (n:Int):wrapI k n=k.wrap n:=by
 cases n with
 | ofNat m =>
  show Bool.rec (motive:=fun _=>Int) (k.wrap (Int.ofNat m)) (Int.ofNat m) (Nat.ble (Nat.succ m) (half k))=_
  cases h:Nat.ble (Nat.succ m) (half k) with
  | false=>rfl
  | true=>exact (wrap_pos k m (Nat.le_of_ble_eq_true h)).symm
 | negSucc m =>
  show Bool.rec (motive:=fun _=>Int) (k.wrap (Int.negSucc m)) (Int.negSucc m) (Nat.ble (Nat.succ m) (negOk k))=_
  cases h:Nat.ble (Nat.succ m) (negOk k) with
  | false=>rfl
  | true=>exact (wrap_neg k m (Nat.le_of_ble_eq_true h)).symm
theorem fzI_eq (n:Int) (K:Int→Rs):fzI n K=K n:=by
 cases n with
 | ofNat m=>cases m <;> rfl
 | negSucc m=>rfl
theorem okI_inv {k:IntKind} {n:Int} {v:PV} {δ:Dl} (h:okI k n=some (v,δ)):v=.int k n∧δ=[]:=by
 unfold okI at h
 rw [fzI_eq] at h
 cases h; exact ⟨rfl,rfl⟩
theorem eqB_eq:∀ a b:List UInt8,eqB a b=decide (a=b)
 | [],[]=>by simp [eqB]
 | [],_::_=>by simp [eqB]
 | _::_,[]=>by simp [eqB]
 | a::l,b::m=>by
  unfold eqB
  by_cases h:a=b
  ·subst h; simp [eqB_eq l m]
  ·have:Nat.beq a.toNat b.toNat=false:=by
    cases hb:Nat.beq a.toNat b.toNat with
    | false=>rfl
    | true=>exact absurd (UInt8.toNat_inj.1 (Nat.eq_of_beq_eq_true hb)) h
   rw [this]; simp [h]
theorem eqS_eq (a b:ByteArray):eqS a b=decide (a=b):=by
 unfold eqS
 rw [eqB_eq]
 by_cases h:a=b
 ·subst h; simp
 ·rw [decide_eq_false h,decide_eq_false]
  intro e
  apply h
  cases a; cases b
  exact congrArg ByteArray.mk (Array.ext' e)
end Go.Pv
namespace Go.Pv
open Go
theorem wkC_same {P:Program} {T:Tab} {cs:List PV} {K:List PV→Prop} (h:K cs):wkC (Sig.std P T) cs K:=by
 unfold wkC
 split
 ·exact ⟨cs,rfl,fun h=>h,fun _ _ _ _ h=>h,h⟩
 ·exact h
theorem pur1_eq {P:Program} {T:Tab} {lk:Nat→Option Blk}:∀ cs:List PV,pur1 lk cs=pur (Sig.std P T) lk cs
 | []=>rfl
 | v::vs=>by
  unfold pur1 pur
  rw [pur1_eq (P:=P) (T:=T) vs]
  cases pur (Sig.std P T) lk vs with
  | none=>rfl
  | some p =>
   obtain ⟨vs',δ⟩:=p
   cases v <;> simp only [takeRR_eq,dropRR_eq] <;> rfl
theorem pur_pure {P:Program} {T:Tab} {lk:Nat→Option Blk}:∀ cs:List PV,(∀ x∈cs,isPur x=true)→pur (Sig.std P T) lk cs=some (cs,[])
 | [],_=>rfl
 | v::vs,h=>by
  unfold pur
  rw [pur_pure vs fun x hx=>h x (by simp [hx])]
  have hv:=h v (by simp)
  cases v <;> first | rfl | (cases hv; done) | skip
  rename_i f caps
  cases caps with
  | nil=>rfl
  | cons _ _=>cases hv
theorem purK_inv (P:Program) (T:Tab) {lk:Nat→Option Blk} {cs:List PV} {K:List PV→Dl→Rs} {r:PV × Dl} (h:purK lk cs K=some r):∃ cs' δ,pur (Sig.std P T) lk cs=some (cs',δ)∧K cs' δ=some r:=by
 unfold purK at h
 cases hp:allB isPur cs with
 | true =>
  rw [hp] at h
  exact ⟨cs,[],pur_pure cs (allB_spec hp),h⟩
 | false =>
  rw [hp,pur1_eq (P:=P) (T:=T)] at h
  cases hq:pur (Sig.std P T) lk cs with
  | none=>rw [hq] at h; cases h
  | some p=>rw [hq] at h; exact ⟨p.1,p.2,rfl,h⟩
theorem pur_cells {P:Program} {T:Tab} {lk:Nat→Option Blk} {cs cs' : List PV} {δ:Dl} (h:pur (Sig.std P T) lk cs=some (cs',δ)):allCell cs'=true:=(pur_cell _ _ _ h).1
theorem memB_eq (b:Nat):∀ δ:Dl,memB b δ=memD b δ
 | []=>rfl
 | (c,x)::δ=>by
  show Bool.rec (motive:=fun _=>Bool) (memB b δ) true (Nat.beq c b)=(Nat.beq c b || memD b δ)
  rw [memB_eq b δ]
  cases Nat.beq c b <;> rfl
theorem notB_inv {b:Bool} (h:notB b=true):b=false:=by cases b with | false=>rfl | true=>cases h
section
variable {P:Program} {T:Tab} {ps:List PV} {ev:Operand→PV} {lk:Nat→Option Blk} {id:Nat} {v:PV} {δ:Dl} (hev:∀ x,ev x=evL T ps x)
include hev
theorem e_pick {c a b:Operand} (h:bolK (ev c) (some (ev a,[])) (some (ev b,[]))=some (v,δ)):opE T (Sig.std P T) (.pick c a b) ps lk id (KS v δ):=by
 simp only [opE]
 rw [hev c] at h
 rcases bolK_inv h with ⟨e,h⟩ | ⟨e,h⟩ <;> cases h <;> simp only [e] <;> rw [hev] <;> exact KS.refl _ _
omit hev in
theorem e_alloc {t:TypeId} (h:v_alloc (T.ti t) id=some (v,δ)):opE T (Sig.std P T) (.alloc t) ps lk id (KS v δ):=by
 obtain ⟨agg,size,zero,plain,kind,et,h⟩:=okK_inv h
 obtain ⟨z,ez,h⟩:=optK_inv h
 simp only [opE,et,ez]
 cases h; exact KS.refl _ _
theorem e_box {t:TypeId} {x:Operand} (h:v_box (ev x) id=some (v,δ)):opE T (Sig.std P T) (.box t x) ps lk id (KS v δ):=by
 obtain ⟨h1,h⟩:=celK_inv h
 cases h
 simp only [opE]
 rw [hev] at h1 ⊢
 split
 ·exact h1 (by assumption)
 ·exact KS.refl _ _
theorem e_fieldAddr {t:TypeId} {x:Operand} {f:Nat} (h:v_fieldAddr (T.ti t) (ev x) f=some (v,δ)):opE T (Sig.std P T) (.fieldAddr t x f) ps lk id (KS v δ):=by
 obtain ⟨agg,size,zero,plain,kind,et,h⟩:=okK_inv h
 obtain ⟨fs,ek,h⟩:=stcK_inv h
 obtain ⟨fd,ef,h⟩:=fldK_inv h
 obtain ⟨hp,h⟩:=ifK_inv h
 simp only [opE,et,ek,ef,hp,cond_true]
 rw [hev] at h
 rcases adrK_inv h with ⟨b,c,e,h⟩ | ⟨b,r,c,e,h⟩ | ⟨cs,e,h⟩
 ·simp only [e]; cases h; exact KS.refl _ _
 ·simp only [e]; cases h; exact KS.refl _ _
 ·obtain ⟨hl,h⟩:=ifK_inv h
  simp only [lenR_eq] at hl
  simp only [e,lenL_eq,hl,cond_true]
  cases h
  simp only [dropR_eq,dropL_eq]; exact KS.refl _ _
theorem e_field {t:TypeId} {x:Operand} {f:Nat} (h:v_field (T.ti t) (ev x) f=some (v,δ)):opE T (Sig.std P T) (.field t x f) ps lk id (KS v δ):=by
 obtain ⟨agg,size,zero,plain,kind,et,h⟩:=okK_inv h
 obtain ⟨fs,ek,h⟩:=stcK_inv h
 obtain ⟨fd,ef,h⟩:=fldK_inv h
 obtain ⟨hp,h⟩:=ifK_inv h
 rw [hev] at h
 obtain ⟨cs,e,h⟩:=aggK_inv h
 simp only [opE,et,ek,ef,e,hp,cond_true]
 obtain ⟨rfl,hh⟩:=load1_inv h
 exact hh _ (KS.refl _ _)
theorem e_load {t:TypeId} {x:Operand} (h:v_load (T.ti t) (ev x) lk=some (v,δ)):opE T (Sig.std P T) (.load t x) ps lk id (KS v δ):=by
 obtain ⟨agg,size,zero,plain,kind,et,h⟩:=okK_inv h
 simp only [opE,et]
 rw [hev] at h
 rcases adrK_inv h with ⟨b,c,e,h⟩ | ⟨b,r,c,e,h⟩ | ⟨cs,e,h⟩
 ·obtain ⟨ro,row,eb,h⟩:=varK_inv h
  obtain ⟨rfl,hh⟩:=load1_inv h
  simp only [e,eb]
  exact hh _ (KS.refl _ _)
 ·obtain ⟨ro,sz,rows,eb,h⟩:=arrK_inv h
  obtain ⟨row,er,h⟩:=rowK_inv h
  obtain ⟨rfl,hh⟩:=load1_inv h
  simp only [e,eb]
  exact ⟨row,er,hh _ (KS.refl _ _)⟩
 ·obtain ⟨rfl,hh⟩:=load1_inv h
  simp only [e]
  exact hh _ (KS.refl _ _)
omit hev in
theorem storeRow_of {size:Nat} {row:List PV} {c:Nat} {u:PV} {K:List PV→Prop} (h1:allCell (cellsV u)=true) (h2:(cellsV u).length=size) (h3:c+(cellsV u).length≤row.length) (hk:K (writeL row c (cellsV u))):storeRow size row c u K:=by
 unfold storeRow
 rw [bifF]
 refine ⟨?_,hk⟩
 simp only [Bool.and_eq_true,lenL_eq]
 exact ⟨⟨h1,by rw [h2]; exact Nat.beq_refl _⟩,by simpa using h3⟩
theorem e_store {t:TypeId} {x y:Operand} (h:v_store (T.ti t) (ev x) (ev y) lk=some (v,δ)):opE T (Sig.std P T) (.store t x y) ps lk id (KS v δ):=by
 obtain ⟨agg,size,zero,plain,kind,et,h⟩:=okK_inv h
 simp only [opE,et]
 rw [hev,hev] at h
 rcases adrK_inv h with ⟨b,c,e,h⟩ | ⟨b,r,c,e,h⟩ | ⟨cs,e,h⟩
 ·obtain ⟨ro,row,eb,h⟩:=varK_inv h
  obtain ⟨hr,h⟩:=ifK_inv h
  have hr:=notB_inv hr
  subst hr
  obtain ⟨_,h⟩:=celK_inv h
  obtain ⟨hc,h⟩:=ifK_inv h
  obtain ⟨h1,h2,h⟩:=stoK_inv h
  simp only [e,eb]
  cases h
  exact storeRow_of (allCell_of hc) h1 h2 (KS.refl _ _)
 ·obtain ⟨ro,sz,rows,eb,h⟩:=arrK_inv h
  obtain ⟨hr,h⟩:=ifK_inv h
  have hr:=notB_inv hr
  subst hr
  obtain ⟨_,h⟩:=celK_inv h
  obtain ⟨cs',δ',hp,h⟩:=purK_inv P T h
  obtain ⟨hm,h⟩:=ifK_inv h
  have hm:=notB_inv hm
  obtain ⟨row,er,h⟩:=rowK_inv h
  obtain ⟨h1,h2,h⟩:=stoK_inv h
  simp only [e,eb,hp]
  rw [memB_eq] at hm
  rw [hm]
  cases h
  refine wkC_same ⟨row,er,storeRow_of (u:=.agg cs') (pur_cells hp) h1 h2 ?_⟩
  simp only [appD_eq,setRR_eq]
  exact KS.refl _ _
 ·cases h
theorem e_nilCheck {x:Operand} (h:nckK (ev x)=some (v,δ)):opE T (Sig.std P T) (.nilCheck x) ps lk id (KS v δ):=by
 simp only [opE]
 rw [hev] at h
 revert h
 cases evL T ps x <;> intro h <;> first | (cases h; done) | (cases h; exact KS.refl _ _)
theorem e_not {t:TypeId} {x:Operand} (h:v_not (ev x)=some (v,δ)):opE T (Sig.std P T) (.unOp .not t x) ps lk id (KS v δ):=by
 simp only [opE]
 rw [hev] at h
 rcases bolK_inv h with ⟨e,h⟩ | ⟨e,h⟩ <;> cases h <;> simp only [e] <;> exact KS.refl _ _
theorem e_neg {t:TypeId} {x:Operand} (h:v_neg (ev x)=some (v,δ)):opE T (Sig.std P T) (.unOp .neg t x) ps lk id (KS v δ):=by
 simp only [opE]
 rw [hev] at h
 obtain ⟨k,n,e,h⟩:=intK_inv h
 obtain ⟨rfl,rfl⟩:=okI_inv h
 simp only [e,wrapI_eq,zNeg_eq]
 rw [show (0:Int) - n=-n by omega]
 exact KS.refl _ _
theorem e_convert {s d:TypeId} {x:Operand} (h:v_convert (T.ti s) (T.ti d) (ev x)=some (v,δ)):opE T (Sig.std P T) (.convert s d x) ps lk id (KS v δ):=by
 obtain ⟨agg,size,zero,plain,kind,es,h⟩:=okK_inv h
 obtain ⟨agg',size',zero',plain',kind',ed,h⟩:=okK_inv h
 obtain ⟨k,ek,h⟩:=intT_inv h
 rw [hev] at h
 obtain ⟨k',n,e,h⟩:=intK_inv h
 obtain ⟨rfl,rfl⟩:=okI_inv h
 subst ek
 simp only [opE,es,ed,e,wrapI_eq]
 cases kind <;> exact KS.refl _ _
theorem e_indexAddr {t:TypeId} {x i:Operand} (h:v_indexAddr (T.ti t) (ev x) (ev i) lk=some (v,δ)):opE T (Sig.std P T) (.indexAddr t x i) ps lk id (KS v δ):=by
 obtain ⟨agg,size,zero,plain,kind,et,h⟩:=okK_inv h
 rw [hev,hev] at h
 obtain ⟨k,n,ei,h⟩:=intK_inv h
 obtain ⟨j,rfl,h⟩:=natK_inv h
 rcases ixT_inv h with ⟨esz,bytes,z,ek,h⟩ | ⟨len,esz,ag,ek,h⟩ | ⟨ek,h⟩
 ·obtain ⟨hp,h⟩:=ifK_inv h
  rcases slcK_inv h with ⟨sz,es,full,e,h⟩ | ⟨b,r,len,e,h⟩ | ⟨s,e,h⟩
  ·obtain ⟨hb,h⟩:=ifK_inv h
   obtain ⟨row,er,h⟩:=rowK_inv h
   cases h
   simp only [opE,et,ek,e,ei,intV,hp,hb,Bool.and_self,cond_true]
   exact ⟨j,row,rfl,er,KS.refl _ _⟩
  ·obtain ⟨ro,sz,rows,eb,h⟩:=arrK_inv h
   obtain ⟨hb,h⟩:=ifK_inv h
   obtain ⟨hl,h⟩:=ifK_inv h
   cases h
   simp only [opE,et,ek,e,ei,intV,eb,hp,hb,Bool.and_self,cond_true]
   exact ⟨j,rfl,Nat.le_of_ble_eq_true hl,KS.refl _ _⟩
  ·cases h
 ·obtain ⟨hp,h⟩:=ifK_inv h
  obtain ⟨hl,h⟩:=ifK_inv h
  have hl' : Nat.blt j len=true:=hl
  simp only [opE,et,ek,hp,cond_true,ei]
  show (bif Nat.blt j len then _ else False)
  simp only [hl',cond_true]
  rcases adrK_inv h with ⟨b,c,e,h⟩ | ⟨b,r,c,e,h⟩ | ⟨cs,e,h⟩
  ·simp only [e]; cases h; exact KS.refl _ _
  ·simp only [e]; cases h; exact KS.refl _ _
  ·obtain ⟨hl,h⟩:=ifK_inv h
   simp only [lenR_eq] at hl
   simp only [e,lenL_eq]
   rw [show Nat.ble (j * esz) cs.length=true from hl]
   cases h
   simp only [dropR_eq,dropL_eq]; exact KS.refl _ _
 ·cases h
omit hev in
theorem nthU_inv:∀ {l:List UInt8} {n:Nat},nthU l n=some (v,δ)→∃ c,l[n]?=some c∧v=.int .u8 (c.toNat:Int)∧δ=[]
 | [],n,h=>by cases h
 | x::l,0,h=>by
  obtain ⟨h1,h2⟩:=okI_inv (k:=.u8) (n:=Int.ofNat x.toNat) h
  exact ⟨x,rfl,h1,h2⟩
 | x::l,n+1,h=>by
  obtain ⟨c,h1,h2⟩:=nthU_inv (l:=l) h
  exact ⟨c,by simpa using h1,h2⟩
theorem e_index {t:TypeId} {x i:Operand} (h:v_index (T.ti t) (ev x) (ev i)=some (v,δ)):opE T (Sig.std P T) (.index t x i) ps lk id (KS v δ):=by
 obtain ⟨agg,size,zero,plain,kind,et,h⟩:=okK_inv h
 rw [hev,hev] at h
 obtain ⟨k,n,ei,h⟩:=intK_inv h
 obtain ⟨j,rfl,h⟩:=natK_inv h
 rcases ixT_inv h with ⟨esz,bytes,z,ek,h⟩ | ⟨len,esz,ag,ek,h⟩ | ⟨ek,h⟩
 ·cases h
 ·obtain ⟨hp,h⟩:=ifK_inv h
  obtain ⟨hl,h⟩:=ifK_inv h
  obtain ⟨cs,e,h⟩:=aggK_inv h
  obtain ⟨rfl,hh⟩:=load1_inv h
  simp only [opE,et,ek,e,ei,intV,hp,cond_true]
  exact ⟨j,rfl,Nat.le_of_ble_eq_true hl,hh _ (KS.refl _ _)⟩
 ·rcases slcK_inv h with ⟨sz,es,full,e,h⟩ | ⟨b,r,len,e,h⟩ | ⟨s,e,h⟩
  ·cases h
  ·cases h
  ·obtain ⟨c,h1,rfl,rfl⟩:=nthU_inv h
   simp only [opE,et,ek,e,ei,intV]
   refine ⟨j,c,rfl,?_,Sim.si _ _,rfl⟩
   rw [← h1,Array.getElem?_toList]
   rfl
theorem e_extract {x:Operand} {i:Nat} (h:v_extract (ev x) i=some (v,δ)):opE T (Sig.std P T) (.extract x i) ps lk id (KS v δ):=by
 simp only [opE]
 rw [hev] at h
 obtain ⟨vs,e,h⟩:=tupK_inv h
 obtain ⟨rfl,h1,rfl⟩:=nthK_inv h
 simp only [e,bifF,lenL_eq,Nat.blt_eq]
 exact ⟨h1,KS.refl _ _⟩
end
end Go.Pv
namespace Go.Pv
open Go
theorem mulLe {a b c:Nat} (h:a * b≤c):(a:Int) * (b:Int)≤(c:Int):=by
 rw [← Int.natCast_mul]; exact Int.ofNat_le.2 h
theorem isNilP_eq {x:PV} (h:isNilP x=true):x=.nilp:=by cases x <;> first | rfl | (cases h)
theorem eqlR_inv {op:BinOp} {b:Bool} {v:PV} {δ:Dl} (h:eqlR op b=some (v,δ)):(op=.eql∧v=.bool b∧δ=[])∨(op=.neq∧v=.bool (!b)∧δ=[]):=by
 cases op <;> first | (cases h; done) | (cases h; exact .inl ⟨rfl,rfl,rfl⟩) | (cases h; exact .inr ⟨rfl,rfl,rfl⟩)
theorem binI_add:binI .add=(sameK fun k a b=>okI k (wrapI k (zAdd a b))):=rfl
theorem binI_sub:binI .sub=(sameK fun k a b=>okI k (wrapI k (zAdd a (zNeg b)))):=rfl
theorem binI_mul:binI .mul=(sameK fun k a b=>okI k (wrapI k (Int.mul a b))):=rfl
theorem binI_quo:binI .quo=(sameK fun k a b=>ifK (notB (eqI b (Int.ofNat 0))) (okI k (k.wrap (a.tdiv b)))):=rfl
theorem binI_rem:binI .rem=(sameK fun k a b=>ifK (notB (eqI b (Int.ofNat 0))) (okI k (a.tmod b))):=rfl
theorem binI_and:binI .and=(sameK fun k a b=>okI k (stdBin .and k a b)):=rfl
theorem binI_or:binI .or=(sameK fun k a b=>okI k (stdBin .or k a b)):=rfl
theorem binI_xor:binI .xor=(sameK fun k a b=>okI k (stdBin .xor k a b)):=rfl
theorem binI_shl:binI .shl=(fun k a _ b=>ifK (notB (ltI b (Int.ofNat 0))) (okI k (k.wrap (a * 2 ^ (min b.toNat k.bits))))):=rfl
theorem binI_shr:binI .shr=(fun k a _ b=>ifK (notB (ltI b (Int.ofNat 0))) (okI k (a.fdiv (2 ^ (min b.toNat k.bits))))):=rfl
theorem binI_andNot:binI .andNot=(sameK fun k a b=>okI k (stdBin .andNot k a b)):=rfl
theorem binI_eql:binI .eql=(sameK fun _ a b=>okB (eqI a b)):=rfl
theorem binI_neq:binI .neq=(sameK fun _ a b=>okB (notB (eqI a b))):=rfl
theorem binI_lss:binI .lss=(sameK fun _ a b=>okB (ltI a b)):=rfl
theorem binI_leq:binI .leq=(sameK fun _ a b=>okB (notB (ltI b a))):=rfl
theorem binI_gtr:binI .gtr=(sameK fun _ a b=>okB (ltI b a)):=rfl
theorem binI_geq:binI .geq=(sameK fun _ a b=>okB (notB (ltI a b))):=rfl
theorem sameK_inv {f:IntKind→Int→Int→Rs} {k k' : IntKind} {a b:Int} {r:PV × Dl} (h:sameK f k a k' b=some r):k'=k∧f k a b=some r:=by
 obtain ⟨h1,h2⟩:=ifK_inv h
 exact ⟨(kEq_eq h1).symm,h2⟩
theorem eqC1_eq {P:Program} {T:Tab} {k:Nat} {x y:PV} {b:Bool} (h:eqC1 k x y=some b):eqC (Sig.std P T) k x y=some b:=by
 unfold eqC1 at h
 split at h
 ·rename_i k a k' c
  cases hk:kEq k k' with
  | false=>rw [hk] at h; cases h
  | true =>
   rw [hk] at h
   have:=kEq_eq hk; subst this
   simp only [cond_true,Option.some.injEq] at h
   simp only [eqC,intV,kindEq_refl,cond_true]
   rw [← h,eqI_eq]; rfl
 ·rename_i a c
  cases h
  simp only [eqC,boolV]
  cases a <;> cases c <;> rfl
 ·rename_i a c
  cases h
  simp only [eqC]
  rw [eqS_eq]; rfl
 ·cases h
theorem eqCs1_eq {P:Program} {T:Tab}:∀ {ks:List Nat} {xs ys:List PV} {b:Bool},eqCs1 ks xs ys=some b→eqCs (Sig.std P T) ks xs ys=some b
 | [],[],[],b,h=>h
 | [],[],_::_,b,h=>by cases h
 | [],_::_,_,b,h=>by cases h
 | _::_,[],_,b,h=>by cases h
 | _::_,_::_,[],b,h=>by cases h
 | k::ks,x::xs,y::ys,b,h=>by
  unfold eqCs1 at h
  split at h
  ·cases h
  ·rename_i a ha
   split at h
   ·cases h
   ·rename_i c hc
    cases h
    unfold eqCs
    rw [eqC1_eq ha]
    simp only [eqCs1_eq hc]
    cases a <;> rfl
section
variable {P:Program} {T:Tab} {ps:List PV} {ev:Operand→PV} {lk:Nat→Option Blk} {id:Nat} {v:PV} {δ:Dl} (hev:∀ x,ev x=evL T ps x)
include hev
theorem e_binOp {op:BinOp} {t u:TypeId} {x y:Operand} (hn:nilC y=false) (h:binV (T.ti t) op (ev x) (ev y)=some (v,δ)):opE T (Sig.std P T) (.binOp op t x y u) ps lk id (KS v δ):=by
 obtain ⟨agg,size,zero,plain,kind,et,h⟩:=okK_inv h
 rw [hev,hev] at h
 simp only [opE,hn,et]
 generalize evL T ps x=X at h
 generalize evL T ps y=Z at h
 rcases intE_inv h with ⟨k,a,rfl,hA⟩ | ⟨hno,h⟩
 ·obtain ⟨k',b,rfl,hB⟩:=intK_inv hA
  cases op
  case add=>rw [binI_add] at hB; obtain ⟨rfl,h1⟩:=sameK_inv hB; obtain ⟨rfl,rfl⟩:=okI_inv h1; simp only [binE,isSpec,isArith,kindEq_refl,cond_true,cond_false,wrapI_eq,zAdd_eq]; exact KS.refl _ _
  case sub=>rw [binI_sub] at hB; obtain ⟨rfl,h1⟩:=sameK_inv hB; obtain ⟨rfl,rfl⟩:=okI_inv h1; simp only [binE,isSpec,isArith,kindEq_refl,cond_true,cond_false,wrapI_eq,zAdd_eq,zNeg_eq]; exact KS.refl _ _
  case mul=>rw [binI_mul] at hB; obtain ⟨rfl,h1⟩:=sameK_inv hB; obtain ⟨rfl,rfl⟩:=okI_inv h1; simp only [binE,isSpec,isArith,kindEq_refl,cond_true,cond_false,wrapI_eq]; exact KS.refl _ _
  case and=>rw [binI_and] at hB; obtain ⟨rfl,h1⟩:=sameK_inv hB; obtain ⟨rfl,rfl⟩:=okI_inv h1; simp only [binE,isSpec,isArith,kindEq_refl,cond_true,cond_false]; exact KS.refl _ _
  case or=>rw [binI_or] at hB; obtain ⟨rfl,h1⟩:=sameK_inv hB; obtain ⟨rfl,rfl⟩:=okI_inv h1; simp only [binE,isSpec,isArith,kindEq_refl,cond_true,cond_false]; exact KS.refl _ _
  case xor=>rw [binI_xor] at hB; obtain ⟨rfl,h1⟩:=sameK_inv hB; obtain ⟨rfl,rfl⟩:=okI_inv h1; simp only [binE,isSpec,isArith,kindEq_refl,cond_true,cond_false]; exact KS.refl _ _
  case andNot=>rw [binI_andNot] at hB; obtain ⟨rfl,h1⟩:=sameK_inv hB; obtain ⟨rfl,rfl⟩:=okI_inv h1; simp only [binE,isSpec,isArith,kindEq_refl,cond_true,cond_false]; exact KS.refl _ _
  case quo =>
   rw [binI_quo] at hB
   obtain ⟨rfl,h1⟩:=sameK_inv hB; obtain ⟨hz,h2⟩:=ifK_inv h1; obtain ⟨rfl,rfl⟩:=okI_inv h2
   have hz:=notB_inv hz
   rw [eqI_eq,decide_eq_false_iff_not] at hz
   simp only [binE,isSpec,binS,kindEq_refl,cond_true]
   exact ⟨hz,Sim.si _ _,rfl⟩
  case rem =>
   rw [binI_rem] at hB
   obtain ⟨rfl,h1⟩:=sameK_inv hB; obtain ⟨hz,h2⟩:=ifK_inv h1; obtain ⟨rfl,rfl⟩:=okI_inv h2
   have hz:=notB_inv hz
   rw [eqI_eq,decide_eq_false_iff_not] at hz
   simp only [binE,isSpec,binS,kindEq_refl,cond_true]
   exact ⟨hz,Sim.si _ _,rfl⟩
  case shl =>
   rw [binI_shl] at hB
   obtain ⟨hz,h2⟩:=ifK_inv hB; obtain ⟨rfl,rfl⟩:=okI_inv h2
   have hz:=notB_inv hz
   rw [ltI_eq,decide_eq_false_iff_not] at hz
   simp only [binE,isSpec,binS,cond_true]
   exact ⟨Int.not_lt.1 hz,Sim.si _ _,rfl⟩
  case shr =>
   rw [binI_shr] at hB
   obtain ⟨hz,h2⟩:=ifK_inv hB; obtain ⟨rfl,rfl⟩:=okI_inv h2
   have hz:=notB_inv hz
   rw [ltI_eq,decide_eq_false_iff_not] at hz
   simp only [binE,isSpec,binS,cond_true]
   exact ⟨Int.not_lt.1 hz,Sim.si _ _,rfl⟩
  case eql=>rw [binI_eql] at hB; obtain ⟨rfl,h1⟩:=sameK_inv hB; cases h1; simp only [binE,isSpec,isArith,isCmp,kindEq_refl,cond_true,cond_false,eqI_eq]; exact KS.refl _ _
  case neq=>rw [binI_neq] at hB; obtain ⟨rfl,h1⟩:=sameK_inv hB; cases h1; simp only [binE,isSpec,isArith,isCmp,kindEq_refl,cond_true,cond_false,eqI_eq,notB_eq]; exact KS.refl _ _
  case lss=>rw [binI_lss] at hB; obtain ⟨rfl,h1⟩:=sameK_inv hB; cases h1; simp only [binE,isSpec,isArith,isCmp,kindEq_refl,cond_true,cond_false,ltI_eq]; exact KS.refl _ _
  case leq =>
   rw [binI_leq] at hB
   obtain ⟨rfl,h1⟩:=sameK_inv hB; cases h1; simp only [binE,isSpec,isArith,isCmp,kindEq_refl,cond_true,cond_false,ltI_eq,notB_eq]
   have:(!decide (b<a))=stdCmp .leq a b:=by
    show _=decide (a≤b)
    rw [Bool.eq_iff_iff]; simp
   rw [this]; exact KS.refl _ _
  case gtr=>rw [binI_gtr] at hB; obtain ⟨rfl,h1⟩:=sameK_inv hB; cases h1; simp only [binE,isSpec,isArith,isCmp,kindEq_refl,cond_true,cond_false,ltI_eq]; exact KS.refl _ _
  case geq =>
   rw [binI_geq] at hB
   obtain ⟨rfl,h1⟩:=sameK_inv hB; cases h1; simp only [binE,isSpec,isArith,isCmp,kindEq_refl,cond_true,cond_false,ltI_eq,notB_eq]
   have:(!decide (a<b))=stdCmp .geq a b:=by
    show _=decide (b≤a)
    rw [Bool.eq_iff_iff]; simp
   rw [this]; exact KS.refl _ _
 ·rw [et] at h
  unfold binR at h
  split at h
  ·rcases eqlR_inv h with ⟨rfl,rfl,rfl⟩ | ⟨rfl,rfl,rfl⟩
   ·simp only [binE,isAdd,isCmp,cond_true,cond_false,eqS_eq]; exact ⟨Sim.sb _,rfl⟩
   ·simp only [binE,isAdd,isCmp,cond_true,cond_false,eqS_eq]; exact ⟨Sim.sb _,rfl⟩
  ·split at h
   ·rename_i ks et'
    cases et'
    split at h
    ·rename_i b hb
     have hb:=eqCs1_eq (P:=P) (T:=T) hb
     simp only [binE,et,hb,eqK]
     rcases eqlR_inv h with ⟨rfl,rfl,rfl⟩ | ⟨rfl,rfl,rfl⟩
     ·simp only [isEql,cond_true]; exact ⟨Sim.sb _,rfl⟩
     ·simp only [isEql,isNeq,cond_true,cond_false]
      have:(Sig.std P T).beq b false=!b:=by cases b <;> rfl
      rw [this]; exact ⟨Sim.sb _,rfl⟩
    ·cases h
   ·cases h
  ·split at h
   ·rename_i a c ag sz zr pl kd et'
    cases et'
    cases a <;> cases c <;> simp only [binE,intV,boolV,et,eqK] <;> rcases eqlR_inv h with ⟨rfl,rfl,rfl⟩ | ⟨rfl,rfl,rfl⟩ <;> simp only [isEql,isNeq,cond_true,cond_false] <;> exact ⟨Sim.sb _,rfl⟩
   ·cases h
  ·split at h
   ·rename_i et'
    cases et'
    cases h1:(isNilP X && isNilP Z) with
    | true =>
     simp only [Bool.and_eq_true] at h1
     have e1:=isNilP_eq h1.1
     have e2:=isNilP_eq h1.2
     subst e1; subst e2
     simp only [isNilP,Bool.and_self,cond_true] at h
     simp only [binE,intV,boolV,et,isNilP,Bool.and_self,cond_true,eqL]
     rcases eqlR_inv h with ⟨rfl,rfl,rfl⟩ | ⟨rfl,rfl,rfl⟩
     ·simp only [isEql,cond_true]; exact KS.refl _ _
     ·simp only [isEql,isNeq,cond_true,cond_false]; exact KS.refl _ _
    | false =>
     rw [h1] at h
     cases h2:((isNilP X && isPtrP Z) || (isPtrP X && isNilP Z)) with
     | false=>rw [h2] at h; cases h
     | true =>
      rw [h2] at h
      simp only [cond_true,cond_false] at h
      have key:∀ K:PV→Prop,eqL op false K→binE T (Sig.std P T) op t X Z K:=by
       intro K hk
       simp only [Bool.or_eq_true,Bool.and_eq_true] at h2
       rcases h2 with ⟨a1,a2⟩ | ⟨a1,a2⟩
       ·have e1:=isNilP_eq a1
        subst e1
        cases Z <;> first | (cases a2; done) | (simp only [binE,intV,boolV,et,isNilP,isPtrP,Bool.and_self,Bool.and_false,Bool.false_and,Bool.or_false,Bool.or_true,Bool.true_or,cond_true,cond_false]; exact hk)
       ·have e1:=isNilP_eq a2
        subst e1
        cases X <;> first | (cases a1; done) | (simp only [binE,intV,boolV,et,isNilP,isPtrP,Bool.and_self,Bool.and_false,Bool.false_and,Bool.or_false,Bool.or_true,Bool.true_or,cond_true,cond_false]; exact hk)
      refine key _ ?_
      unfold eqL
      rcases eqlR_inv h with ⟨rfl,rfl,rfl⟩ | ⟨rfl,rfl,rfl⟩
      ·simp only [isEql,cond_true]; exact KS.refl _ _
      ·simp only [isEql,isNeq,cond_true,cond_false]; exact KS.refl _ _
   ·cases h
theorem filK_inv {len:Nat} {place:Plc} {pl:Nat→Option (Nat × Nat)} (hpl:∀ i K r,place i K=some r→∃ off size,pl i=some (off,size)∧K off size=some r) {K:List PV→Rs} {r:PV × Dl}:∀ {parts:List (Nat × Operand)} {cells:List PV},cells.length=len→filK ev len place parts cells K=some r →
  ∃ cs,fillV pl cells (evP T ps parts)=some cs∧K cs=some r∧noTop (evP T ps parts)=true
 | [],cells,hl,h=>⟨cells,rfl,h,rfl⟩
 | (i,x)::parts,cells,hl,h=>by
  have h:place i (fun off size=>celK (ev x) fun cs=>ifK (Nat.beq (lenR cs) size) (ifK (Nat.ble (Nat.add off size) len) (filK ev len place parts (splR off cs cells) K)))=some r:=h
  obtain ⟨off,size,e,h⟩:=hpl _ _ _ h
  obtain ⟨hx,h⟩:=celK_inv h
  obtain ⟨h1,h⟩:=ifK_inv h
  obtain ⟨h2,h⟩:=ifK_inv h
  have h1':=Nat.eq_of_beq_eq_true h1
  have h2':=Nat.le_of_ble_eq_true h2
  simp only [lenR_eq] at h1'
  have hle:off+(cellsV (ev x)).length≤cells.length:=by rw [h1',hl]; exact h2'
  rw [splR_eq hle] at h
  obtain ⟨cs,h3,h4,h5⟩:=filK_inv hpl (parts:=parts) (by rw [writeL_len,hl]) h
  rw [hev] at hx h3 h1'
  refine ⟨cs,?_,h4,?_⟩
  ·simp only [evP,fillV,e]
   rw [show (Nat.beq (lenL (cellsV (evL T ps x))) size && Nat.ble (off+size) (lenL cells))=true from ?_]
   ·exact h3
   ·simp only [Bool.and_eq_true,lenL_eq]
    exact ⟨by rw [h1']; exact Nat.beq_refl _,by rw [hl]; exact h2⟩
  ·simp only [evP]
   unfold noTop
   split
   ·rename_i e2; cases e2
   ·rename_i e2
    simp only [List.cons.injEq,Prod.mk.injEq] at e2
    exact absurd e2.1.2 hx
   ·rename_i e2
    simp only [List.cons.injEq] at e2
    rw [← e2.2]; exact h5
theorem e_build {t:TypeId} {parts:Array (Nat × Operand)} (h:v_build (T.ti t) ev parts=some (v,δ)):opE T (Sig.std P T) (.build t parts) ps lk id (KS v δ):=by
 obtain ⟨agg,size,zero,plain,kind,et,h⟩:=okK_inv h
 obtain ⟨z,ez,hz⟩:=optK_inv h
 subst ez
 cases kind with
 | struct fs =>
  obtain ⟨cs,h1,h2,h3⟩:=filK_inv hev (pl:=fldPlace fs) (fun i K r h=>by
   obtain ⟨fd,e,h⟩:=fldK_inv h
   exact ⟨fd.off,fd.size,by simp only [fldPlace,e],h⟩) (by simp) hz
  simp only [opE,et,h3,cond_true,h1]
  cases h2; exact KS.refl _ _
 | arr n esz ag =>
  obtain ⟨cs,h1,h2,h3⟩:=filK_inv hev (pl:=fun i=>some (i * esz,esz)) (fun i K r h=>⟨i * esz,esz,rfl,h⟩) (by simp) hz
  simp only [opE,et,h3,cond_true,h1]
  cases h2; exact KS.refl _ _
 | _=>cases hz
theorem e_buildSlice {t:TypeId} {len:Nat} {parts:Array (Nat × Operand)} (h:v_buildSlice (T.ti t) len ev parts lk id=some (v,δ)):opE T (Sig.std P T) (.buildSlice t len parts) ps lk id (KS v δ):=by
 obtain ⟨agg,size,zero,plain,kind,et,h⟩:=okK_inv h
 obtain ⟨esz,bytes,zz,ek,h1⟩:=sliK_inv h
 subst ek
 obtain ⟨z,ez,h2⟩:=optK_inv h1
 subst ez
 obtain ⟨a1,h3⟩:=ifK_inv h2
 obtain ⟨a2,h4⟩:=ifK_inv h3
 obtain ⟨a3,h⟩:=ifK_inv h4
 have hz:z.length=esz:=by simpa using Nat.eq_of_beq_eq_true a2
 obtain ⟨cs,h1,h2,h3⟩:=filK_inv hev (pl:=fun i=>some (i * esz,esz)) (fun i K r h=>⟨i * esz,esz,rfl,h⟩) (by rw [repR_eq,repL_length,hz]; rfl) h
 obtain ⟨cs',δ',hp,h2⟩:=purK_inv P T h2
 rw [repR_eq] at h1
 simp only [opE,et]
 rw [show (isPos esz && Nat.beq (lenL z) esz && Nat.ble (len * esz) 16777216 && noTop (evP T ps parts.toList))=true from ?_]
 ·simp only [cond_true,h1,hp]
  refine wkC_same ?_
  cases h2
  simp only [appD_eq,chkR_eq]; exact KS.refl _ _
 ·simp only [Bool.and_eq_true,lenL_eq]
  exact ⟨⟨⟨a1,by rw [hz]; exact Nat.beq_refl _⟩,a3⟩,h3⟩
theorem e_makeFunc {f:Go.Fn} {first cap:Array Operand} (h:v_makeFunc f first ev cap=some (v,δ)):opE T (Sig.std P T) (.makeFunc f first cap) ps lk id (KS v δ):=by
 unfold v_makeFunc at h
 split at h
 ·rename_i e
  cases h
  simp only [opE,e,evA1_eq hev]; exact KS.refl _ _
 ·cases h
theorem e_makeSlice {t:TypeId} {x y:Operand} (hnar:T.nar=0) (h:v_makeSlice (T.ti t) (ev x) (ev y) id=some (v,δ)):opE T (Sig.std P T) (.makeSlice t x y) ps lk id (KS v δ):=by
 obtain ⟨agg,size,zero,plain,kind,et,h⟩:=okK_inv h
 obtain ⟨esz,bytes,zz,ek,h1⟩:=sliK_inv h
 subst ek
 obtain ⟨z,ez,h2⟩:=optK_inv h1
 subst ez
 rw [hev,hev] at h2
 obtain ⟨k,n,e1,h3⟩:=intK_inv h2
 obtain ⟨n,rfl,h4⟩:=natK_inv h3
 obtain ⟨k',m,e2,h5⟩:=intK_inv h4
 obtain ⟨m,rfl,h⟩:=natK_inv h5
 obtain ⟨a1,h⟩:=ifK_inv h
 obtain ⟨a2,h⟩:=ifK_inv h
 obtain ⟨a3,h⟩:=ifK_inv h
 obtain ⟨a4,h⟩:=ifK_inv h
 obtain ⟨a5,h⟩:=ifK_inv h
 obtain ⟨a6,h⟩:=ifK_inv h
 simp only [opE,et,e1,e2,intV]
 rw [show (isPos esz && Nat.beq (lenL z) esz && allCell z)=true from ?_]
 ·have a4:=Nat.le_of_ble_eq_true a4
  have a5:bytes * m≤140737488355328:=Nat.le_of_ble_eq_true a5
  have a6:=Nat.le_of_ble_eq_true a6
  refine ⟨n,rfl,by omega,mulLe a5,by omega,?_⟩
  rw [hnar]
  refine wkC_same ?_
  cases h
  simp only [repRR_eq]; exact KS.refl _ _
 ·simp only [Bool.and_eq_true,lenL_eq]
  simp only [lenR_eq] at a2
  exact ⟨⟨a1,a2⟩,allCell_of a3⟩
end
end Go.Pv
namespace Go.Pv
open Go
theorem bndK_inv {d:Nat} {x:Option PV} {K:Nat→Rs} {r:PV × Dl} (h:bndK d x K=some r):(x=none∧K d=some r)∨∃ (k:IntKind) (m:Nat),x=some (.int k (m:Int))∧K m=some r:=by
 cases x with
 | none=>exact .inl ⟨rfl,h⟩
 | some v =>
  obtain ⟨k,n,rfl,h1⟩:=intK_inv (v:=v) (K:=fun _ n=>natK n K) h
  obtain ⟨m,rfl,h2⟩:=natK_inv h1
  exact .inr ⟨k,m,rfl,h2⟩
section
variable {P:Program} {T:Tab} {ps:List PV} {ev:Operand→PV} {lk:Nat→Option Blk} {id:Nat} {v:PV} {δ:Dl} (hev:∀ x,ev x=evL T ps x)
include hev
theorem evO_eq (x:Option Operand):(Option.rec (motive:=fun _=>Option PV) none (fun x=>some (ev x)) x:Option PV)=evO T ps x:=by
 cases x with
 | none=>rfl
 | some x=>show some (ev x)=some (evL T ps x); rw [hev]
theorem e_slice {t:TypeId} {x:Operand} {lo hi mx:Option Operand} (h:v_slice (T.ti t) (ev x) (Option.rec (motive:=fun _=>Option PV) none (fun x=>some (ev x)) lo) (Option.rec (motive:=fun _=>Option PV) none (fun x=>some (ev x)) hi) (Option.rec (motive:=fun _=>Option PV) none (fun x=>some (ev x)) mx) lk=some (v,δ)):opE T (Sig.std P T) (.slice t x lo hi mx) ps lk id (KS v δ):=by
 rw [evO_eq hev,evO_eq hev,evO_eq hev,hev] at h
 simp only [opE]
 generalize evO T ps lo=LO at h
 generalize evO T ps hi=HI at h
 generalize evO T ps mx=MX at h
 generalize evL T ps x=X at h
 cases MX with
 | some m =>
  have h0:(okK (T.ti t) fun _ _ _ _ kind=>sliK kind fun esz _ _=>ifK (isPos esz) (slcK X (fun _ _ _=>zeroK LO HI m (some (PV.sl esz [] true,[]))) (fun _ _ _=>zeroK LO HI m (some (PV.sl esz [] true,[]))) (fun _=>none)))=some (v,δ):=h
  obtain ⟨agg,size,zero,plain,kind,et,h1⟩:=okK_inv h0
  obtain ⟨esz,bytes,zz,ek,h2⟩:=sliK_inv h1
  subst ek
  obtain ⟨hp,h3⟩:=ifK_inv h2
  have zk:∀ {x:Rs},zeroK LO HI m x=some (v,δ)→LO=none∧(∃ k,HI=some (.int k 0))∧(∃ k,m=.int k 0)∧x=some (v,δ):=by
   intro x hx
   cases LO with
   | some _=>cases hx
   | none =>
    cases HI with
    | none=>cases hx
    | some hh =>
     have hx:(intK hh fun _ a=>natK a fun a=>intK m fun _ b=>natK b fun b=>ifK (Nat.beq a 0) (ifK (Nat.beq b 0) x))=some (v,δ):=hx
     obtain ⟨k,a,rfl,h4⟩:=intK_inv hx
     obtain ⟨a,rfl,h5⟩:=natK_inv h4
     obtain ⟨k',b,rfl,h6⟩:=intK_inv h5
     obtain ⟨b,rfl,h7⟩:=natK_inv h6
     obtain ⟨h8,h9⟩:=ifK_inv h7
     obtain ⟨h10,h11⟩:=ifK_inv h9
     have:=Nat.eq_of_beq_eq_true h8
     subst this
     have:=Nat.eq_of_beq_eq_true h10
     subst this
     exact ⟨rfl,⟨k,rfl⟩,⟨k',rfl⟩,h11⟩
  rcases slcK_inv h3 with ⟨sz,es,full,rfl,h4⟩ | ⟨b,r,n,rfl,h4⟩ | ⟨s,rfl,h4⟩
  ·obtain ⟨rfl,⟨k,rfl⟩,⟨k',rfl⟩,h5⟩:=zk h4
   cases h5
   simp only [et,hp,cond_true]; exact KS.refl _ _
  ·obtain ⟨rfl,⟨k,rfl⟩,⟨k',rfl⟩,h5⟩:=zk h4
   cases h5
   simp only [et,hp,cond_true]; exact KS.refl _ _
  ·cases h4
 | none =>
  have h0:(okK (T.ti t) fun _ _ _ _ kind=>sliK kind fun esz _ _=>ifK (isPos esz) (slcK X
   (fun sz es full=>ifK (Nat.beq sz esz) (bndK 0 LO fun a=>bndK (lenRR es) HI fun b=>ifK (Nat.ble a b) (ifK (Nat.ble b (lenRR es)) (some (PV.sl sz (takeRR (Nat.sub b a) (dropRR a es)) (Option.rec (motive:=fun _=>Bool) full (fun _=>false) HI),[])))))
   (fun b r n=>arrK (lk b) fun _ sz _=>ifK (Nat.beq sz esz) (bndK 0 LO fun a=>bndK n HI fun c=>ifK (Nat.ble a c) (ifK (Nat.ble c n) (some (PV.os b (Nat.add r a) (Nat.sub c a),[])))))
   (fun _=>none)))=some (v,δ):=h
  obtain ⟨agg,size,zero,plain,kind,et,h1⟩:=okK_inv h0
  obtain ⟨esz,bytes,zz,ek,h2⟩:=sliK_inv h1
  subst ek
  obtain ⟨hp,h3⟩:=ifK_inv h2
  rcases slcK_inv h3 with ⟨sz,es,full,rfl,h4⟩ | ⟨b,r,n,rfl,h4⟩ | ⟨s,rfl,h4⟩
  ·obtain ⟨hb,h5⟩:=ifK_inv h4
   rcases bndK_inv h5 with ⟨rfl,h6⟩ | ⟨k,a,rfl,h6⟩ <;> rcases bndK_inv h6 with ⟨rfl,h7⟩ | ⟨k',c,rfl,h7⟩ <;> obtain ⟨hx,h8⟩:=ifK_inv h7 <;> obtain ⟨hy,h9⟩:=ifK_inv h8 <;> cases h9 <;> simp only [et,hp,hb,Bool.and_self,cond_true,intV,takeRR_eq,dropRR_eq,lenRR_eq] at *
   ·have:List.take (Nat.sub es.length 0) (List.drop 0 es)=es:=by
     show List.take (es.length - 0) (List.drop 0 es)=es
     simp
    rw [this]; exact KS.refl _ _
   ·exact ⟨0,c,rfl,rfl,Nat.zero_le _,Nat.le_of_ble_eq_true hy,KS.refl _ _⟩
   ·exact ⟨a,es.length,rfl,rfl,Nat.le_of_ble_eq_true hx,Nat.le_refl _,KS.refl _ _⟩
   ·exact ⟨a,c,rfl,rfl,Nat.le_of_ble_eq_true hx,Nat.le_of_ble_eq_true hy,KS.refl _ _⟩
  ·obtain ⟨ro,sz,rows,eb,h4⟩:=arrK_inv h4
   obtain ⟨hb,h5⟩:=ifK_inv h4
   rcases bndK_inv h5 with ⟨rfl,h6⟩ | ⟨k,a,rfl,h6⟩ <;> rcases bndK_inv h6 with ⟨rfl,h7⟩ | ⟨k',c,rfl,h7⟩ <;> obtain ⟨hx,h8⟩:=ifK_inv h7 <;> obtain ⟨hy,h9⟩:=ifK_inv h8 <;> cases h9 <;> simp only [et,hp,hb,eb,Bool.and_self,cond_true,intV] at *
   ·exact KS.refl _ _
   ·exact ⟨0,c,rfl,rfl,Nat.zero_le _,Nat.le_of_ble_eq_true hy,KS.refl _ _⟩
   ·exact ⟨a,n,rfl,rfl,Nat.le_of_ble_eq_true hx,Nat.le_refl _,KS.refl _ _⟩
   ·exact ⟨a,c,rfl,rfl,Nat.le_of_ble_eq_true hx,Nat.le_of_ble_eq_true hy,KS.refl _ _⟩
  ·cases h4
theorem rowsK_inv (P:Program) {esz:Nat} {X:PV} {K:List (List PV)→Rs} {r:PV × Dl} (h:rowsK esz lk X K=some r):∃ new,rowsOf (Sig.std P T) esz lk X=some new∧K new=some r:=by
 rcases slcK_inv h with ⟨sz,es,full,rfl,h4⟩ | ⟨b,i,n,rfl,h4⟩ | ⟨s,rfl,h4⟩
 ·cases hb:Nat.beq sz esz with
  | true =>
   rw [hb] at h4
   exact ⟨es,by simp only [rowsOf,hb,cond_true],h4⟩
  | false =>
   rw [hb] at h4
   cases es with
   | nil=>exact ⟨[],by simp only [rowsOf,hb,cond_false],h4⟩
   | cons _ _=>cases h4
 ·obtain ⟨ro,sz,rows,eb,h5⟩:=arrK_inv h4
  obtain ⟨hb,h6⟩:=ifK_inv h5
  refine ⟨_,?_,h6⟩
  simp only [rowsOf,eb,hb,cond_true,takeRR_eq,dropRR_eq]; rfl
 ·cases h4
omit hev in
theorem roomK_inv {n bytes:Nat} {x:Rs} {r:PV × Dl} (h:roomK n bytes x=some r):(2 * n+192) * bytes≤140737488355328∧n≤4611686018427387904∧x=some r:=by
 obtain ⟨h1,h2⟩:=ifK_inv h
 obtain ⟨h3,h4⟩:=ifK_inv h2
 exact ⟨Nat.le_of_ble_eq_true h1,Nat.le_of_ble_eq_true h3,h4⟩
theorem e_callB {b:Builtin} {args:Array Operand} {ts:Array TypeId} (h:v_callB T.ti b (evA1 ev args.toList) ts.toList lk id=some (v,δ)):opE T (Sig.std P T) (.call { callee:=.builtin b,args:=args,argTypes:=ts }) ps lk id (KS v δ):=by
 rw [evA1_eq hev] at h
 simp only [opE]
 generalize evA T ps args.toList=A at h
 generalize ts.toList=tl at h
 unfold v_callB at h
 split at h
 ·rename_i x t
  obtain ⟨agg,size,zero,plain,kind,et,h1⟩:=okK_inv h
  rcases slcK_inv h1 with ⟨sz,es,full,rfl,h4⟩ | ⟨b,i,n,rfl,h4⟩ | ⟨s,rfl,h4⟩
  ·obtain ⟨esz,bytes,zz,rfl,h5⟩:=sliK_inv h4
   obtain ⟨rfl,rfl⟩:=okI_inv h5
   simp only [et,lenRR_eq]; exact ⟨Sim.si _ _,rfl⟩
  ·obtain ⟨esz,bytes,zz,rfl,h5⟩:=sliK_inv h4
   obtain ⟨rfl,rfl⟩:=okI_inv h5
   simp only [et]; exact ⟨Sim.si _ _,rfl⟩
  ·obtain ⟨rfl,h5⟩:=strT_inv h4
   obtain ⟨rfl,rfl⟩:=okI_inv h5
   simp only [et]
   refine ⟨?_,rfl⟩
   have:(Sig.std P T).slen s=Int.ofNat s.data.toList.length:=by
    show ((s.size:Nat):Int)=((s.data.toList.length:Nat):Int)
    rw [Array.length_toList]; rfl
   rw [this]; exact Sim.si _ _
 ·rename_i x y
  obtain ⟨k,a,rfl,h1⟩:=intK_inv h
  obtain ⟨k',c,rfl,h2⟩:=intK_inv h1
  obtain ⟨hk,h3⟩:=ifK_inv h2
  obtain ⟨rfl,rfl⟩:=okI_inv h3
  have:=kEq_eq hk
  subst this
  simp only [kindEq_refl,cond_true,ltI_eq]
  refine ⟨?_,rfl⟩
  by_cases hc:c<a
  ·rw [if_pos hc,decide_eq_true hc]; exact Sim.refl _
  ·rw [if_neg hc,decide_eq_false hc]; exact Sim.refl _
 ·rename_i x y
  obtain ⟨k,a,rfl,h1⟩:=intK_inv h
  obtain ⟨k',c,rfl,h2⟩:=intK_inv h1
  obtain ⟨hk,h3⟩:=ifK_inv h2
  obtain ⟨rfl,rfl⟩:=okI_inv h3
  have:=kEq_eq hk
  subst this
  simp only [kindEq_refl,cond_true,ltI_eq]
  refine ⟨?_,rfl⟩
  by_cases hc:a<c
  ·rw [if_pos hc,decide_eq_true hc]; exact Sim.refl _
  ·rw [if_neg hc,decide_eq_false hc]; exact Sim.refl _
 ·rename_i s x t u tl
  obtain ⟨agg,size,zero,plain,kind,et,h1⟩:=okK_inv h
  obtain ⟨esz,bytes,zz,rfl,h2⟩:=sliK_inv h1
  obtain ⟨z,rfl,h3⟩:=optK_inv h2
  obtain ⟨agg',size',zero',plain',kind',eu,h4⟩:=okK_inv h3
  obtain ⟨esz',bytes',zz',rfl,h5⟩:=sliK_inv h4
  obtain ⟨hp,h6⟩:=ifK_inv h5
  obtain ⟨hz,h7⟩:=ifK_inv h6
  obtain ⟨new,hn,h8⟩:=rowsK_inv (T:=T) hev P h7
  simp only [lenR_eq] at hz
  simp only [et,eu,lenL_eq,hp,hz,Bool.and_self,cond_true,hn]
  rcases slcK_inv h8 with ⟨sz,es,full,rfl,h9⟩ | ⟨b,i,n,rfl,h9⟩ | ⟨s,rfl,h9⟩
  ·obtain ⟨hf,h10⟩:=ifK_inv h9
   subst hf
   cases es with
   | cons _ _=>cases h10
   | nil =>
    obtain ⟨r1,r2,h11⟩:=roomK_inv (x:=some (PV.os id 0 (lenRR new),[(id,some (Blk.arr false esz new))])) h10
    cases h11
    simp only [lenRR_eq] at r1 r2
    refine ⟨r1,r2,?_⟩
    simp only [lenRR_eq]; exact KS.refl _ _
  ·obtain ⟨ro,sz,rows,eb,h10⟩:=arrK_inv h9
   obtain ⟨hr,h11⟩:=ifK_inv h10
   have hr:=notB_inv hr
   subst hr
   obtain ⟨hb,h12⟩:=ifK_inv h11
   obtain ⟨r1,r2,h13⟩:=roomK_inv h12
   cases h13
   simp only [lenRR_eq] at r1 r2
   have r1:(2 * (n+new.length)+192) * bytes≤140737488355328:=r1
   simp only [eb,hb,cond_true]
   refine ⟨r1,r2,?_⟩
   simp only [lenRR_eq,appRR_eq,takeRR_eq,dropRR_eq]; exact KS.refl _ _
  ·cases h9
 ·rename_i x t tl
  obtain ⟨agg,size,zero,plain,kind,et,h1⟩:=okK_inv h
  obtain ⟨esz,bytes,zz,rfl,h2⟩:=sliK_inv h1
  obtain ⟨z,rfl,h3⟩:=optK_inv h2
  rcases slcK_inv h3 with ⟨sz,es,full,rfl,h4⟩ | ⟨b,r,n,rfl,h4⟩ | ⟨s,rfl,h4⟩
  ·cases h4
  ·obtain ⟨ro,sz,rows,eb,h5⟩:=arrK_inv h4
   obtain ⟨hr,h6⟩:=ifK_inv h5
   have hr:=notB_inv hr
   subst hr
   obtain ⟨a1,h7⟩:=ifK_inv h6
   obtain ⟨a2,h8⟩:=ifK_inv h7
   obtain ⟨a3,h9⟩:=ifK_inv h8
   obtain ⟨a4,h10⟩:=ifK_inv h9
   cases h10
   simp only [lenR_eq] at a2
   simp only [et,eb]
   rw [show (Nat.beq sz esz && Nat.beq (lenL z) sz && isPos sz && allCell z)=true from (by simp only [Bool.and_eq_true,lenL_eq]; exact ⟨⟨⟨a1,a2⟩,a3⟩,allCell_of a4⟩)]
   simp only [cond_true]
   refine wkC_same ?_
   have:(Sig.std P T).spl rows r ((Sig.std P T).rep n z)=appRR (takeRR r rows) (appRR (repRR n z) (dropRR (Nat.add r n) rows)):=by
    show rows.take r ++ List.replicate n z ++ rows.drop (r+(List.replicate n z).length)=_
    simp only [appRR_eq,takeRR_eq,dropRR_eq,repRR_eq,List.length_replicate,List.append_assoc]; rfl
   rw [this]; exact KS.refl _ _
  ·cases h4
 ·cases h
end
end Go.Pv
namespace Go.Pv
open Go
section
variable {P:Program} {T:Tab} (hT:TabOK P T) (hW:PWf P) (hnar:T.nar=0) {C:Ctx T} {o:Oper} {a:Act} {w:World} {Y:Nat→Prop} {σ:Sg} {ps:List PV} {st:St} {n id:Nat} {lk:Nat→Option Blk}
 (H:SW C w Y σ ps a.tmps.toList st n) (hlk:∀ b x,lk b=some x→lkS st b=some x) (hid:σ id=none∧T.pas≤id) {ev:Operand→PV} {v:PV} {δ:Dl}
include H in
theorem op_nilos {op:BinOp} {t u:TypeId} {x y:Operand} (hT:TabOK P T) (ho:o.op=.binOp op t x y u) (hy:nilC y=true) {b r m sz bytes:Nat} {z:Option (List PV)} {agg:Bool} {size:Nat} {zero:Option (List PV)} {plain:Option (List Nat)} (et:T.ti t=⟨true,agg,size,zero,plain,.slice sz bytes z⟩)
  (hx:evL T ps x=.os b r (m+1)) (h:eqlR op false=some (v,δ)):Res P C o a w σ ps st n id (fun v' δ'=>v'=v∧δ'=δ):=by
 have hr:=ev_rep H x
 rw [hx] at hr
 have hy':=nilC_eq hy
 subst hy'
 obtain ⟨el,hu,_⟩:=tab_slice hT et
 unfold Rep at hr
 have main:∃ ad len cap,a.eval x=.slice (some ad) len cap:=by
  rcases hr with ⟨l,cap,_,e,_⟩ | ⟨e,_⟩
  ·exact ⟨_,_,_,e⟩
  ·cases e
 obtain ⟨ad,len,cap,ev⟩:=main
 have hev:a.eval (.const (.slice none 0 0))=.slice none 0 0:=rfl
 obtain ⟨r1,r2⟩:=nilslice_run (P:=P) (w:=w) (x:=some ad) (len:=len) (cap:=cap) hu
 have n1:∀ cs,a.eval x ≠ .agg cs:=by rw [ev]; intro cs e; cases e
 have n2:a.eval x ≠ .nilIface:=by rw [ev]; intro e; cases e
 have fin:∀ {v' : PV} {cv:Value},(binOp op t (a.eval x) (a.eval (.const (.slice none 0 0)))).run P w=.ok cv w→Rep w Y σ v' cv→v'=v∧[]=δ→Res P C o a w σ ps st n id (fun v' δ'=>v'=v∧δ'=δ):=by
  intro v' cv hr hv hK
  refine Res.quiet H (cv:=cv) ?_ hv hK
  simp [execOp,ho,guard_scalar n1 n2,hr]
 rcases eqlR_inv h with ⟨rfl,rfl,rfl⟩ | ⟨rfl,rfl,rfl⟩
 ·exact fin (by rw [ev,hev]; exact r1) (by simp [Rep]) ⟨rfl,rfl⟩
 ·exact fin (by rw [ev,hev]; exact r2) (by simp [Rep]) ⟨rfl,rfl⟩
include hT hW hnar H hlk hid in
theorem opV_res {er:List PV} (hev:∀ x,ev x=evL T er x) (hl:∀ x∈o.op.operands,evL T ps x=evL T er x) (h:opV o.op T.ti ev lk id=some (v,δ)):Res P C o a w σ ps st n id (fun v' δ'=>v'=v∧δ'=δ):=by
 have go:opE T (Sig.std P T) o.op er lk id (KS v δ)→Res P C o a w σ ps st n id (fun v' δ'=>v'=v∧δ'=δ):=fun h=>by
  rw [← opE_congr hl] at h
  obtain ⟨v',δ',cv,w',Y',σ',⟨hs,rfl⟩,hrun,H',hv,hoff⟩:=opE_res hT hW H hlk hid h
  exact ⟨v,δ',cv,w',Y',σ',⟨rfl,rfl⟩,hrun,H',hs _ _ _ _ hv,hoff⟩
 cases ho:o.op with
 | move x =>
  rw [ho] at h go
  have h:some (ev x,([]:Dl))=some (v,δ):=h
  cases h
  exact go (by simp only [opE]; rw [hev]; exact KS.refl _ _)
 | assign x =>
  rw [ho] at h go
  have h:some (ev x,([]:Dl))=some (v,δ):=h
  cases h
  exact go (by simp only [opE]; rw [hev]; exact KS.refl _ _)
 | pick c x y=>rw [ho] at h go; exact go (e_pick hev h)
 | alloc t=>rw [ho] at h go; exact go (e_alloc h)
 | box t x=>rw [ho] at h go; exact go (e_box hev h)
 | build t parts=>rw [ho] at h go; exact go (e_build hev h)
 | buildSlice t len parts=>rw [ho] at h go; exact go (e_buildSlice hev h)
 | load t x=>rw [ho] at h go; exact go (e_load hev h)
 | store t x y=>rw [ho] at h go; exact go (e_store hev h)
 | nilCheck x=>rw [ho] at h go; exact go (e_nilCheck hev h)
 | binOp op t x y u =>
  rw [ho] at h go
  have h:Bool.rec (motive:=fun _=>Rs) (binV (T.ti t) op (ev x) (ev y)) (nilV (T.ti t) op (ev x)) (nilC y)=some (v,δ):=h
  cases hn:nilC y with
  | false=>rw [hn] at h; exact go (e_binOp hev hn h)
  | true =>
   rw [hn] at h
   have h:nilV (T.ti t) op (ev x)=some (v,δ):=h
   obtain ⟨agg,size,zero,plain,kind,et,h1⟩:=okK_inv h
   obtain ⟨sz,bytes,z,ek,h2⟩:=sliK_inv h1
   subst ek
   rw [hev] at h2
   rcases slcK_inv h2 with ⟨sz',es,full,e,h3⟩ | ⟨b,r,m,e,h3⟩ | ⟨s,e,h3⟩
   ·cases es with
    | nil=>cases h3
    | cons _ _ =>
     refine go ?_
     simp only [opE,hn,et,e]
     intro b hb
     cases b with
     | true=>exact absurd (hb rfl) (by simp)
     | false =>
      unfold eqL
      rcases eqlR_inv (b:=false) h3 with ⟨rfl,rfl,rfl⟩ | ⟨rfl,rfl,rfl⟩
      ·simp only [isEql,cond_true]; exact KS.refl _ _
      ·simp only [isEql,isNeq,cond_true,cond_false]; exact KS.refl _ _
   ·cases m with
    | zero=>cases h3
    | succ m=>exact op_nilos H hT ho hn et (by rw [hl x (by rw [ho]; simp [Op.operands])]; exact e) h3
   ·cases h3
 | unOp op t x =>
  rw [ho] at h go
  cases op with
  | not=>exact go (e_not hev h)
  | neg=>exact go (e_neg hev h)
  | _=>cases h
 | convert s d x=>rw [ho] at h go; exact go (e_convert hev h)
 | makeFunc fn first cap=>rw [ho] at h go; exact go (e_makeFunc hev h)
 | makeSlice t x y=>rw [ho] at h go; exact go (e_makeSlice hev hnar h)
 | slice t x lo hi mx=>rw [ho] at h go; exact go (e_slice hev h)
 | fieldAddr t x f=>rw [ho] at h go; exact go (e_fieldAddr hev h)
 | field t x f=>rw [ho] at h go; exact go (e_field hev h)
 | indexAddr t x i=>rw [ho] at h go; exact go (e_indexAddr hev h)
 | index t x i=>rw [ho] at h go; exact go (e_index hev h)
 | extract t i=>rw [ho] at h go; exact go (e_extract hev h)
 | call c =>
  rw [ho] at h go
  obtain ⟨callee,args,ts⟩:=c
  cases callee with
  | builtin b=>exact go (e_callB hev h)
  | _=>cases h
 | _=>rw [ho] at h; cases h
end
abbrev Tab.at (T:Tab) (n:Nat):Tab:={ T with pas:=n }
def NN (t:Sb):Prop:=∀ b sz rows,getB t b ≠ some (.nar sz rows)
theorem SW.rebase0 {T:Tab} {C:Ctx T} {w:World} {Y:Nat→Prop} {σ:Sg} {ps:List PV} {vs:List Value} {st:St} {n:Nat} (H:SW C w Y σ ps vs st n) (hn:∀ b sz rows,lkS st b ≠ some (.nar sz rows)):SW (ctxS (T.at n) w Y σ st) w Y σ ps vs st n :=
 ⟨H.vals,H.store,H.next,H.yold,fun _ h=>h.1,fun k h=>⟨H.yold k h.1,h.2⟩,fun k h _=>by
  by_cases hi:InSt σ st k
  ·exact .inr ⟨h,hi⟩
  ·exact .inl ⟨h,hi⟩,ChgM.refl _ w,fun b x l h1 h2=>.inr ⟨b,x,l,h1,h2,rfl⟩,H.glob,⟨Nat.le_refl _,fun _ _=>rfl⟩,Nest.none hn⟩
theorem SW.compose {T T' : Tab} {C:Ctx T} {w w' : World} {Y Y' : Nat→Prop} {σ σ' : Sg} {ps qs:List PV} {vs us:List Value} {st st' : St} {n n' : Nat} (H:SW C w Y σ ps vs st n) (hgl:T'.gl=T.gl) (hp:T'.pas=n)
  (H' : SW (ctxS T' w Y σ st) w' Y' σ' qs us st' n'):Keep w w' Y Y' σ σ'∧SW C w' Y' σ' qs us st' n':=by
 have excl:∀ k,k<w.heap.size→Y' k→Y k:=by
  intro k hk hy
  rcases H'.yshr k hy hk with h | h
  ·exact h.1
  ·exact h.1
 have hfix:∀ b,b<n→σ' b=σ b:=fun b hb=>H'.fix.2 b (by rw [hp]; exact hb)
 have hle:n≤n':=by have:=H'.fix.1; rw [hp] at this; exact this
 have K:Keep w w' Y Y' σ σ':=⟨fun k hk hy=>H'.chg.block k hk fun h=>hy h.1,excl,H'.chg.size,fun b l hl=>by
  rcases Nat.lt_or_ge b n with h | h
  ·rw [hfix b h]; exact hl
  ·rw [H.next b h] at hl; cases hl⟩
 have away:∀ k,C.Y0 k→¬ InSt σ st k:=fun k hk ⟨b,x,l,h1,h2,h3⟩=>H.away h1 h2 (h3 ▸ hk)
 have old:∀ k,(w.heap.size≤k∨InSt σ st k)→C.w0.heap.size≤k∨C.L k:=fun k h=>by
  rcases h with h | ⟨b,x,l,h1,h2,h3⟩
  ·exact .inl (Nat.le_trans H.chg.size h)
  ·rw [← h3]; exact H.own b x l h1 h2
 refine ⟨K,H'.vals,H'.store,H'.next,H'.yold,fun k hk=>H'.y0 k ⟨H.y0 k hk,away k hk⟩,H.c0,fun k hk hlt=>H.yshr k (excl k (Nat.lt_of_lt_of_le hlt H.chg.size) hk) hlt,?_,fun b x l h1 h2=>old _ (H'.own b x l h1 h2),by have:=H'.glob; rw [hgl] at this; exact this,⟨Nat.le_trans H.fix.1 hle,fun b hb=>?_⟩,?_⟩
 ·refine ⟨by rw [H'.chg.os]; exact H.chg.os,by rw [H'.chg.tape]; exact H.chg.tape,by rw [H'.chg.output]; exact H.chg.output,Nat.le_trans H.chg.size H'.chg.size,fun k hk hM=>?_⟩
  rw [H'.chg.block k (Nat.lt_of_lt_of_le hk H.chg.size) fun h=>?_]
  ·exact H.chg.block k hk hM
  ·obtain ⟨h1,h2⟩:=h
   rcases H.yshr k h1 hk with h3 | h3
   ·exact away k h3 h2
   ·exact hM h3
 ·rw [hfix b (Nat.lt_of_lt_of_le hb H.fix.1)]; exact H.fix.2 b hb
 ·exact ⟨H'.nest.rep,fun b r c h sz es k=>old _ (H'.nest.old b r c h sz es k),H'.nest.one,H'.nest.sep⟩
theorem tr_bound:∀ t:Sb,∃ N,∀ b,N≤b→getB t b=none
 | .e=>⟨0,fun b _=>rfl⟩
 | .n v l r=>by
  obtain ⟨A,hA⟩:=tr_bound l
  obtain ⟨B,hB⟩:=tr_bound r
  refine ⟨2 * (A+B)+2,fun b hb=>?_⟩
  cases b with
  | zero=>omega
  | succ m =>
   rw [getB_ns]
   have h:A+B≤m / 2:=by omega
   cases Nat.beq (Nat.mod m 2) 0 with
   | true=>exact hA _ (by show A≤m / 2; omega)
   | false=>exact hB _ (by show B≤m / 2; omega)
theorem lkS_map {f:Nat→Option Blk}:∀ (m i b:Nat),lkS ((upN i m).map fun b=>(b,f b)) b=if i≤b∧b<i+m then f b else none
 | 0,i,b=>by simp [upN,lkS]; intro h1 h2; omega
 | m+1,i,b=>by
  show (bif Nat.beq i b then f i else lkS ((upN (i+1) m).map fun b=>(b,f b)) b)=_
  by_cases h:i=b
  ·subst h; simp
  ·rw [beqN h]
   simp only [cond_false]
   rw [lkS_map m (i+1) b]
   by_cases h2:i+1≤b∧b<i+1+m
   ·rw [if_pos h2,if_pos (by omega)]
   ·rw [if_neg h2,if_neg (by omega)]
theorem stOf (t:Sb):∃ st:St,∀ b,lkS st b=getB t b:=by
 obtain ⟨N,hN⟩:=tr_bound t
 refine ⟨(upN 0 N).map fun b=>(b,getB t b),fun b=>?_⟩
 rw [lkS_map]
 by_cases h:b<N
 ·rw [if_pos (by omega)]
 ·rw [if_neg (by omega),hN b (by omega)]
end Go.Pv
namespace Go.Pv
open Go
def GT (t:Sb) (n:Nat):Prop:=NN t∧∀ b,n≤b→getB t b=none
def FnV (P:Program) (T:Tab) (k:Nat) (args:List PV) (t:Sb) (n:Nat) (v:PV) (t' : Sb) (n' : Nat):Prop :=
 GT t n→GT t' n'∧∀ (w:World) (Y:Nat→Prop) (σ:Sg) (cargs:List Value) (st:St),(∀ b,lkS st b=getB t b)→Glob T.gl w Y→(∀ b,Y b→b<w.heap.size)→(∀ b,n≤b→σ b=none)→RepL w Y σ args cargs→StRep w Y σ st →
  (callFunc k cargs.toArray).run P w=.ok (.enter k cargs.toArray) w ∧
  Calls P k cargs.toArray w fun e w'=>∃ cv Y' σ' st',e=.returned cv∧(∀ b,lkS st' b=getB t' b)∧SW (ctxS (T.at n) w Y σ st) w' Y' σ' [v] [cv] st' n'
def CallOK (P:Program) (T:Tab) (call:CallV):Prop:=∀ k args t n v t' n',call k args t n=some (v,t',n')→FnV P T k args t n v t' n'
structure EvOK {T:Tab} (C:Ctx T) (V:EV) (D:List Nat) (a:Act) (w:World):Prop where
 nn:GT V.st V.nx
 dfr:a.defers=marks D
 env:∃ ps st Y σ,(∀ i,getP V.tm i=getL ps i)∧V.n=ps.length∧(∀ b,lkS st b=getB V.st b)∧SW C w Y σ ps a.tmps.toList st V.nx∧DefOK C.w0.heap.size D w Y
theorem noN_some {x:Option Blk} {y:Blk} (h:noN x=some y):x=some y∧∀ sz rows,y ≠ .nar sz rows:=by
 cases x with
 | none=>cases h
 | some x =>
  cases x with
  | nar _ _=>cases h
  | _=>cases h; exact ⟨rfl,fun _ _ e=>by cases e⟩
theorem allR_spec {f:Nat→Bool}:∀ {l:List Nat},allR f l=true→∀ x∈l,f x=true
 | [],_,x,hx=>by cases hx
 | y::l,h,x,hx=>by
  have h:Bool.rec (motive:=fun _=>Bool) false (allR f l) (f y)=true:=h
  cases hy:f y with
  | false=>rw [hy] at h; cases h
  | true =>
   rw [hy] at h
   rcases List.mem_cons.1 hx with rfl | hx
   ·exact hy
   ·exact allR_spec h x hx
theorem applB_out:∀ (δ:Dl) (t:Sb) (b:Nat),b ∉ keysR δ→getB (applB δ t) b=getB t b
 | [],t,b,_=>rfl
 | (c,y)::δ,t,b,h=>by
  have e:keysR ((c,y)::δ)=c::keysR δ:=rfl
  rw [e,List.mem_cons,not_or] at h
  show getB (applB δ (setB (noN y) c t)) b=_
  rw [applB_out δ _ b h.2,getB_setB,if_neg h.1]
theorem applB_le:∀ (δ:Dl) (t:Sb) (st:St),(∀ b x,getB t b=some x→lkS st b=some x)→∀ b x,getB (applB δ t) b=some x→lkS (applyD δ st) b=some x
 | [],t,st,h,b,x,hx=>h b x hx
 | (c,y)::δ,t,st,h,b,x,hx=>by
  refine applB_le δ (setB (noN y) c t) (inS st c y) (fun b x hx=>?_) b x hx
  rw [getB_setB] at hx
  rw [lkS_inS]
  by_cases hc:b=c
  ·subst hc; rw [if_pos rfl] at hx ⊢; exact (noN_some hx).1
  ·rw [if_neg hc] at hx; rw [if_neg (Ne.symm hc)]; exact h b x hx
theorem applB_nn:∀ (δ:Dl) (t:Sb),NN t→NN (applB δ t)
 | [],t,h=>h
 | (c,y)::δ,t,h=>applB_nn δ (setB (noN y) c t) fun b sz rows hb=>by
  rw [getB_setB] at hb
  by_cases hc:b=c
  ·rw [if_pos hc] at hb; exact (noN_some hb).2 sz rows rfl
  ·rw [if_neg hc] at hb; exact h b sz rows hb
theorem evV_eq {T:Tab} (hgl:∀ g,T.gl g=none) {tm:Tr PV} {ps:List PV} (h:∀ i,getP tm i=getL ps i) (x:Operand):evV tm x=evL T ps x:=by
 cases x with
 | tmp t=>exact h t
 | const v=>rfl
 | global g=>simp only [evL,hgl]; rfl
 | func f=>rfl
theorem putT1_get {tm:Tr PV} {n:Nat} {ps:List PV} (h:∀ i,getP tm i=getL ps i) (hn:n=ps.length) (d:Option Nat) (v:PV):∀ i,getP (putT1 tm n d v) i=getL (putT ps d v) i:=by
 intro i
 cases d with
 | none=>exact h i
 | some d =>
  show getP (Bool.rec (motive:=fun _=>Tr PV) tm (setP v d tm) (Nat.ble (Nat.succ d) n)) i=_
  simp only [putT,getL_setL]
  cases hb:Nat.ble (Nat.succ d) n with
  | true =>
   have hb:=Nat.le_of_ble_eq_true hb
   show getP (setP v d tm) i=_
   rw [getP_setP]
   by_cases hd:i=d
   ·subst hd; rw [if_pos rfl,if_pos ⟨rfl,by omega⟩]
   ·rw [if_neg hd,if_neg (by intro e; exact hd e.1.symm)]; exact h i
  | false =>
   have hb' : ¬ Nat.succ d≤n:=fun e=>by rw [show Nat.ble (Nat.succ d) n=true by rw [Nat.ble_eq]; exact e] at hb; cases hb
   show getP tm i=_
   rw [if_neg (by intro e; apply hb'; rw [hn]; exact e.2)]; exact h i
section
variable {P:Program} {T:Tab} (hT:TabOK P T) (hW:PWf P) (hnar:T.nar=0) (hgl:∀ g,T.gl g=none) {call:CallV} (hcall:CallOK P T call)
theorem call_V {C:Ctx T} {w:World} {Y:Nat→Prop} {σ:Sg} {ps:List PV} {vs:List Value} {st:St} {n:Nat} (H:SW C w Y σ ps vs st n) {t:Sb} (hst:∀ b,lkS st b=getB t b) (hn:GT t n) {k:Nat} {args:List PV} {cargs:List Value} {v:PV} {t' : Sb} {n' : Nat}
  (hr:RepL w Y σ args cargs) (hF:FnV P T k args t n v t' n'):GT t' n'∧(callFunc k cargs.toArray).run P w=.ok (.enter k cargs.toArray) w ∧
  Calls P k cargs.toArray w fun e w'=>∃ cv Y' σ' st',e=.returned cv∧(∀ b,lkS st' b=getB t' b)∧SW C w' Y' σ' ps vs st' n'∧Rep w' Y' σ' v cv∧∀ k o,w.heap[k]?=some o→NoCells o→w'.heap[k]?=some o∧(Y k→Y' k):=by
 obtain ⟨h1,h2⟩:=hF hn
 obtain ⟨h3,h4⟩:=h2 w Y σ cargs st hst H.glob H.yold H.next hr H.store
 refine ⟨h1,h3,Calls.mono h4 fun e w' hh=>?_⟩
 obtain ⟨cv,Y',σ',st',rfl,h5,H'⟩:=hh
 obtain ⟨K,H2⟩:=H.compose (T':=T.at n) rfl rfl H'
 have hv:=H'.vals
 unfold RepL at hv
 obtain ⟨c,cs,e,h6,h7⟩:=hv
 cases e
 exact ⟨cv,Y',σ',st',rfl,h5,H2.vals' (RepL.keep _ K _ H.vals),h6,fun k o ho hc=>H'.kept H.store ho hc⟩
theorem nthO_eq:∀ (l:List Oper) (j:Nat),nthO l j=l[j]?
 | [],j=>by simp; rfl
 | x::l,0=>rfl
 | x::l,j+1=>by show nthO l j=_; rw [nthO_eq l j]; simp
theorem gdK_inv {v:PV} {want b:Bool} (h:gdK v want=some b):(∃ c,v=.bool c∧b=(c == want))∨(v=.undef∧b=false):=by
 cases v with
 | bool c=>cases h; left; exact ⟨c,rfl,by cases c <;> cases want <;> rfl⟩
 | undef=>cases h; exact .inr ⟨rfl,rfl⟩
 | _=>cases h
theorem gdV_sound (P:Program) {all:Array Oper} {o:Oper} {tm:Tr PV} {ps:List PV} {g:Bool} (htm:∀ i,getP tm i=getL ps i) (h:gdV all.toList o.guard tm=some g) {C:Ctx T} {Y:Nat→Prop} {σ:Sg} {a:Act} {w:World} {st:St} {n:Nat} (H:SW C w Y σ ps a.tmps.toList st n) :
  Region.wanted o (yielded all a.tmps)=g:=by
 have main:gd (Sig.std P T) all o.guard ⟨ps,st,n⟩ (fun _=>g=true) (fun _=>g=false):=by
  unfold gd
  cases hg:o.guard with
  | none=>rw [hg] at h; cases h; rfl
  | some p =>
   obtain ⟨j,want⟩:=p
   rw [hg] at h
   have h:Option.rec (motive:=fun _=>Option Bool) none (fun o=>Option.rec (motive:=fun _=>Option Bool) none (fun d=>gdK (getP tm d) want) o.dst) (nthO all.toList j)=some g:=h
   rw [nthO_eq,Array.getElem?_toList] at h
   simp only
   cases hj:all[j]? with
   | none=>rw [hj] at h; cases h
   | some oj =>
    rw [hj] at h
    have h:Option.rec (motive:=fun _=>Option Bool) none (fun d=>gdK (getP tm d) want) oj.dst=some g:=h
    simp only
    cases hd:oj.dst with
    | none=>rw [hd] at h; cases h
    | some d =>
     rw [hd] at h
     have h:gdK (getP tm d) want=some g:=h
     rw [htm] at h
     simp only
     rcases gdK_inv h with ⟨c,e,rfl⟩ | ⟨e,rfl⟩
     ·rw [e]; cases c <;> cases want <;> rfl
     ·rw [e]
 have:Region.wanted o (yielded all a.tmps)=Region.wanted o (yielded all ({ a with defers:=[] }:Act).tmps):=rfl
 rw [this]
 obtain ⟨E',_,hh⟩:=gd_sound main (C:=C) (a:={ a with defers:=[] }) (w:=w) ⟨⟨Y,σ,H⟩,rfl⟩
 rcases hh with ⟨h1,h2⟩ | ⟨h1,h2⟩
 ·rw [h1,h2]
 ·rw [h1,h2]
theorem fin_inv {r:Rs} {tm:Tr PV} {n:Nat} {st:Sb} {nx:Nat} {dst:Option Nat} {E:EV} (h:fin r tm n st nx dst=some E):∃ v δ,r=some (v,δ)∧E=⟨putT1 tm n dst v,n,applB δ st,nextD δ nx⟩∧∀ b∈keysR δ,b≤nx:=by
 cases r with
 | none=>cases h
 | some p =>
  obtain ⟨v,δ⟩:=p
  cases δ with
  | nil=>cases h; exact ⟨v,[],rfl,rfl,fun b hb=>by cases hb⟩
  | cons x δ =>
   have h:Bool.rec (motive:=fun _=>Oe) none (Nat.rec (motive:=fun _=>Oe) (some ⟨putT1 tm n dst v,n,applB (x::δ) st,1⟩) (fun m _=>some ⟨putT1 tm n dst v,n,applB (x::δ) st,Nat.succ (Nat.succ m)⟩) nx) (allR (fun b=>Nat.ble b nx) (keysR (x::δ)))=some E:=h
   cases hk:allR (fun b=>Nat.ble b nx) (keysR (x::δ)) with
   | false=>rw [hk] at h; cases h
   | true =>
    rw [hk] at h
    refine ⟨v,x::δ,rfl,?_,fun b hb=>Nat.le_of_ble_eq_true (allR_spec hk b hb)⟩
    cases nx with
    | zero=>cases h; rfl
    | succ m=>cases h; rfl
theorem fin2_inv {r:Option (PV × Sb × Nat)} {tm:Tr PV} {n:Nat} {dst:Option Nat} {E:EV} (h:fin2 r tm n dst=some E):∃ v t' n',r=some (v,t',n')∧E=⟨putT1 tm n dst v,n,t',n'⟩:=by
 cases r with
 | none=>cases h
 | some p =>
  obtain ⟨v,t',n'⟩:=p
  cases h
  exact ⟨v,t',n',rfl,rfl⟩
theorem isCall_inv {o:Op} {f:Operand} {args:Array Operand} (h:isCall o=some (f,args)):∃ ts,o=.call { callee:=.value f,args:=args,argTypes:=ts }:=by
 cases o with
 | call c =>
  obtain ⟨callee,args',ts⟩:=c
  cases callee with
  | value f'=>cases h; exact ⟨ts,rfl⟩
  | _=>cases h
 | _=>cases h
include hT hW hnar hgl hcall in
theorem stepV_sound {o:Oper} {tm:Tr PV} {n:Nat} {st:Sb} {nx:Nat} {V' : EV} (h:stepV T.ti call o tm n st nx=some V') {C:Ctx T} {D:List Nat} {a:Act} {w:World} (hA:EvOK C ⟨tm,n,st,nx⟩ D a w) {next:Act→World→Prop} {Q:Exit→Act→World→Prop} (hnext:∀ a' w',EvOK C V' D a' w'→next a' w'):o.wp P a w next Q:=by
 obtain ⟨hnn,hdf,ps,stl,Y,σ,htm,hn,hst,H,hD⟩:=hA
 have hst:∀ b,lkS stl b=getB st b:=hst
 have H:SW C w Y σ ps a.tmps.toList stl nx:=H
 unfold stepV at h
 cases hc:isCall o.op with
 | none =>
  rw [hc] at h
  obtain ⟨v,δ,hv,rfl,hkeys⟩:=fin_inv h
  have H2:=H.rebase0 fun b sz rows=>by rw [hst]; exact hnn.1 b sz rows
  obtain ⟨v',δ',cv,w',Y',σ',⟨rfl,rfl⟩,hrun,H',hrep,_⟩:=opV_res (P:=P) (T:=T.at nx) hT hW hnar H2 (lk:=getB st) (fun b x hx=>by rw [hst]; exact hx) ⟨H.next _ (Nat.le_refl _),Nat.le_refl _⟩ (evV_eq (T:=T.at nx) hgl htm) (fun _ _=>rfl) hv
  have hni:nextI δ' nx nx=nextD δ' nx:=by cases δ' <;> simp [nextI,nextD]
  rw [hni] at H'
  obtain ⟨K,H3⟩:=H.compose (T':=T.at nx) rfl rfl H'
  have hfin:EvOK C ⟨putT1 tm n o.dst v',n,applB δ' st,nextD δ' nx⟩ D (a.put o.dst cv) w':=by
   obtain ⟨st2,hst2⟩:=stOf (applB δ' st)
   refine ⟨⟨applB_nn δ' st hnn.1,fun b hb=>?_⟩,by rw [put_defers]; exact hdf,putT ps o.dst v',st2,Y',σ',putT1_get htm hn _ _,by rw [putT_length]; exact hn,hst2,?_,hD.step H.store H'⟩
   ·have hb:nextD δ' nx≤b:=hb
    cases δ' with
    | nil=>exact hnn.2 b hb
    | cons y δ' =>
     rw [applB_out _ _ b fun hk=>by have:=hkeys b hk; simp only [nextD] at hb; omega]
     exact hnn.2 b (by simp only [nextD] at hb; show nx≤b; omega)
   refine (H3.putT hrep o.dst).ext fun b x hx=>?_
   rw [hst2] at hx
   exact applB_le δ' st stl (fun b x hx=>by rw [hst]; exact hx) b x hx
  have:=hnext _ _ hfin
  unfold Oper.wp
  rcases hrun with hrun | ⟨hrun,rfl⟩
  ·rw [hrun]; exact this
  ·rw [hrun]; exact this
 | some p =>
  obtain ⟨f,args⟩:=p
  rw [hc] at h
  obtain ⟨v,t',n',hr,rfl⟩:=fin2_inv h
  obtain ⟨k,caps,hf,hr⟩:=fnE_inv hr
  obtain ⟨ts,ho⟩:=isCall_inv hc
  have hev:=evV_eq (T:=T) hgl htm
  rw [evA1_eq hev,appR_eq] at hr
  rw [hev] at hf
  have hfv:=ev_rep H f
  rw [hf] at hfv
  unfold Rep at hfv
  obtain ⟨cs,ef,hcs⟩:=hfv
  have hall:=RepL.app _ _ _ _ (evA_rep H args.toList) hcs
  rw [appL_eq] at hall
  obtain ⟨hn',hent,hc2⟩:=call_V H hst hnn hall (hcall _ _ _ _ _ _ _ hr)
  unfold Oper.wp
  rw [call_run ho ef hent]
  refine Calls.mono hc2 fun e w' hh=>?_
  obtain ⟨cv,Y',σ',st',rfl,hst',H',hv,hD'⟩:=hh
  exact hnext _ _ ⟨hn',by rw [put_defers]; exact hdf,putT ps o.dst v,st',Y',σ',putT1_get htm hn _ _,by rw [putT_length]; exact hn,hst',H'.putT hv o.dst,hD.1,fun r hr=>by
   obtain ⟨g0,g1,g2⟩:=hD.2 r hr
   obtain ⟨g3,g4⟩:=hD' r _ g2 ⟨fun _ _ e=>(by cases e),fun _ _ e=>(by cases e)⟩
   exact ⟨g0,g4 g1,g3⟩⟩
include hT hW hnar hgl hcall in
theorem opsV_sound {all:Array Oper} {Q:Exit→Act→World→Prop} {C:Ctx T} {D:List Nat}:∀ (l:List Oper) (V V' : EV),opsV T.ti call all.toList l V=some V' →
  ∀ a w,EvOK C V D a w→(∀ a' w',EvOK C V' D a' w'→Q .normal a' w')→wpList P all Q l a w
 | [],V,V',h,a,w,hA,hQ=>by cases h; exact hQ a w hA
 | o::l,⟨tm,n,st,nx⟩,V',h,a,w,hA,hQ=>by
  have h:Option.rec (motive:=fun _=>Oe) none
   (fun g=>Bool.rec (motive:=fun _=>Oe) (opsV T.ti call all.toList l ⟨putT1 tm n o.dst PV.undef,n,st,nx⟩) (Option.rec (motive:=fun _=>Oe) none (fun E'=>opsV T.ti call all.toList l E') (stepV T.ti call o tm n st nx)) g) (gdV all.toList o.guard tm)=some V':=h
  cases hg:gdV all.toList o.guard tm with
  | none=>rw [hg] at h; cases h
  | some g =>
   rw [hg] at h
   have hA':=hA
   obtain ⟨hnn,hdf,ps,stl,Y,σ,htm,hn,hst,H,hD⟩:=hA'
   have hw:=gdV_sound P htm hg H
   unfold wpList
   cases g with
   | true =>
    rw [if_pos hw]
    have h:Option.rec (motive:=fun _=>Oe) none (fun E'=>opsV T.ti call all.toList l E') (stepV T.ti call o tm n st nx)=some V':=h
    cases hs:stepV T.ti call o tm n st nx with
    | none=>rw [hs] at h; cases h
    | some V1 =>
     rw [hs] at h
     exact .inl (stepV_sound hT hW hnar hgl hcall hs hA fun a' w' hA2=>opsV_sound l V1 V' h a' w' hA2 hQ)
   | false =>
    rw [if_neg (by rw [hw]; simp)]
    have h:opsV T.ti call all.toList l ⟨putT1 tm n o.dst PV.undef,n,st,nx⟩=some V':=h
    refine opsV_sound l _ V' h _ w ⟨hnn,by rw [put_defers]; exact hdf,putT ps o.dst .undef,stl,Y,σ,putT1_get htm hn _ _,by rw [putT_length]; exact hn,hst,H.putT (by simp [Rep]) o.dst,hD⟩ hQ
end
end Go.Pv
namespace Go.Pv
open Go
theorem boolMatch {a b:Bool} (h:(match a with | true=>b | false=>!b)=true):a=b:=by cases a <;> cases b <;> simp_all
mutual
theorem eqP_sound:∀ (d:Nat) (x y:PV),eqP d x y=true→x=y
 | 0,x,y,h=>by simp [eqP] at h
 | d+1,x,y,h=>by
  unfold eqP at h
  split at h
  ·rw [boolMatch h]
  ·obtain ⟨h1,h2⟩:=and_tt h
   rw [eqI_eq,decide_eq_true_iff] at h2
   rw [kEq_eq h1,h2]
  ·rw [eqS_eq,decide_eq_true_iff] at h; rw [h]
  ·rfl
  ·rfl
  ·rfl
  ·obtain ⟨h1,h2⟩:=and_tt h
   obtain ⟨h2,h3⟩:=and_tt h2
   rw [Nat.eq_of_beq_eq_true h1,Nat.eq_of_beq_eq_true h2,Nat.eq_of_beq_eq_true h3]
  ·obtain ⟨h1,h2⟩:=and_tt h
   rw [Nat.eq_of_beq_eq_true h1,Nat.eq_of_beq_eq_true h2]
  ·obtain ⟨h1,h2⟩:=and_tt h
   obtain ⟨h2,h3⟩:=and_tt h2
   rw [Nat.eq_of_beq_eq_true h1,Nat.eq_of_beq_eq_true h2,Nat.eq_of_beq_eq_true h3]
  ·obtain ⟨h1,h2⟩:=and_tt h
   obtain ⟨h2,h3⟩:=and_tt h2
   rw [Nat.eq_of_beq_eq_true h1,boolMatch h2,eqRows_sound d _ _ h3]
  ·rw [eqRow_sound d _ _ h]
  ·rw [eqRow_sound d _ _ h]
  ·obtain ⟨h1,h2⟩:=and_tt h
   rw [Nat.eq_of_beq_eq_true h1,eqRow_sound d _ _ h2]
  ·cases h
theorem eqRow_sound:∀ (d:Nat) (x y:List PV),eqP.eqRow (eqP d) x y=true→x=y
 | d,[],[],_=>rfl
 | d,[],_::_,h=>by simp [eqP.eqRow] at h
 | d,_::_,[],h=>by simp [eqP.eqRow] at h
 | d,x::xs,y::ys,h=>by
  unfold eqP.eqRow at h
  obtain ⟨h1,h2⟩:=and_tt h
  rw [eqP_sound d x y h1,eqRow_sound d xs ys h2]
theorem eqRows_sound:∀ (d:Nat) (x y:List (List PV)),eqP.eqRows (eqP d) x y=true→x=y
 | d,[],[],_=>rfl
 | d,[],_::_,h=>by simp [eqP.eqRows] at h
 | d,_::_,[],h=>by simp [eqP.eqRows] at h
 | d,x::xs,y::ys,h=>by
  unfold eqP.eqRows at h
  obtain ⟨h1,h2⟩:=and_tt h
  rw [eqRow_sound d x y h1,eqRows_sound d xs ys h2]
end
theorem eqBk_sound {x y:Option Blk} (h:eqBk x y=true):x=y:=by
 unfold eqBk at h
 split at h
 ·obtain ⟨h1,h2⟩:=and_tt h
  rw [boolMatch h1,eqRow_sound _ _ _ h2]
 ·obtain ⟨h1,h2⟩:=and_tt h
  obtain ⟨h2,h3⟩:=and_tt h2
  rw [boolMatch h1,Nat.eq_of_beq_eq_true h2,eqRows_sound _ _ _ h3]
 ·cases h
theorem allN_agg (p:Nat→Bool):∀ cs:List PV,allN p (.agg cs)=allNs p cs
 | []=>rfl
 | x::cs=>by
  have e1:allN p (.agg (x::cs))=Bool.rec (motive:=fun _=>Bool) false (allN p (.agg cs)) (allN p x):=rfl
  have e2:allNs p (x::cs)=Bool.rec (motive:=fun _=>Bool) false (allNs p cs) (allN p x):=rfl
  rw [e1,e2,allN_agg p cs]
theorem allNs_cons {p:Nat→Bool} {x:PV} {cs:List PV} (h:allNs p (x::cs)=true):allN p x=true∧allNs p cs=true:=by
 have h:Bool.rec (motive:=fun _=>Bool) false (allNs p cs) (allN p x)=true:=h
 cases hx:allN p x with
 | false=>rw [hx] at h; cases h
 | true=>rw [hx] at h; exact ⟨rfl,h⟩
section
variable {p:Nat→Bool} {σ σ' : Sg} (hσ:∀ b,p b=true→σ' b=σ b) {w:World} {Y:Nat→Prop}
include hσ
mutual
theorem allN_rep:∀ (v:PV) (u:Value),allN p v=true→Rep w Y σ v u→Rep w Y σ' v u
 | .bool _,_,_,h | .sb _,_,_,h | .int _ _,_,_,h | .si _ _,_,_,h | .str _,_,_,h
 | .nilp,_,_,h | .nilf,_,_,h | .top,_,_,h | .undef,_,_,h=>by unfold Rep at h ⊢; exact h
 | .sl _ _ _,_,_,h | .pp _,_,_,h=>by unfold Rep at h ⊢; exact h
 | .ow _ _ _,_,e,_=>by cases e
 | .bo _ _ _ _ _ _,_,e,_=>by cases e
 | .np _ _ _ _ _ _ _,_,e,_=>by cases e
 | .mp _,_,e,_=>by cases e
 | .agg cs,u,e,h=>by
  rw [allN_agg] at e
  unfold Rep at h ⊢
  obtain ⟨vs,e1,h⟩:=h
  exact ⟨vs,e1,allNs_rep cs vs e h⟩
 | .tup cs,u,e,h=>by
  have e:allN p (.agg cs)=true:=e
  rw [allN_agg] at e
  unfold Rep at h ⊢
  obtain ⟨vs,e1,h⟩:=h
  exact ⟨vs,e1,allNs_rep cs vs e h⟩
 | .fn f cs,u,e,h=>by
  have e:allN p (.agg cs)=true:=e
  rw [allN_agg] at e
  unfold Rep at h ⊢
  obtain ⟨vs,e1,h⟩:=h
  exact ⟨vs,e1,allNs_rep cs vs e h⟩
 | .os b r n,u,e,h=>by
  have e:p b=true:=e
  unfold Rep at h ⊢
  rw [hσ b e]; exact h
 | .lv b c,u,e,h=>by
  have e:p b=true:=e
  unfold Rep at h ⊢
  rw [hσ b e]; exact h
 | .lp b r c,u,e,h=>by
  have e:p b=true:=e
  unfold Rep at h ⊢
  rw [hσ b e]; exact h
theorem allNs_rep:∀ (cs:List PV) (vs:List Value),allNs p cs=true→RepL w Y σ cs vs→RepL w Y σ' cs vs
 | [],vs,_,h=>by unfold RepL at h ⊢; exact h
 | x::cs,vs,e,h=>by
  obtain ⟨e1,e2⟩:=allNs_cons e
  unfold RepL at h ⊢
  obtain ⟨v,vs',e3,h1,h2⟩:=h
  exact ⟨v,vs',e3,allN_rep x v e1 h1,allNs_rep cs vs' e2 h2⟩
end
theorem allNs_repC {b:Nat}:∀ (cs:List PV) (o:Nat),allNs p cs=true→RepC w Y σ b cs o→RepC w Y σ' b cs o
 | [],o,_,h=>by unfold RepC; trivial
 | x::cs,o,e,h=>by
  obtain ⟨e1,e2⟩:=allNs_cons e
  unfold RepC at h ⊢
  obtain ⟨⟨v,h1,h2⟩,h3⟩:=h
  exact ⟨⟨v,h1,allN_rep hσ x v e1 h2⟩,allNs_repC cs (o+1) e2 h3⟩
theorem allNB_rep {l:Loc} {x:Blk} (e:allNB p (some x)=true) (h:BlkRep w Y σ l x):BlkRep w Y σ' l x:=by
 cases x with
 | var ro row =>
  have e:allNs p row=true:=e
  unfold BlkRep at h ⊢
  obtain ⟨h1,h2,h3,h4,h5⟩:=h
  exact ⟨h1,h2,h3,allNs_repC hσ row _ e h4,h5⟩
 | arr ro sz rows=>unfold BlkRep at h ⊢; exact h
 | nar sz rows=>cases e
 | map rows=>cases e
end
theorem SW.composeF {T T' : Tab} {C:Ctx T} {w w' : World} {Y Y' : Nat→Prop} {σ σc σ1:Sg} {ps qs:List PV} {vs us:List Value} {stn str st1 st' : St} {n id id1:Nat} (H:SW C w Y σ ps vs stn n) (hgl:T'.gl=T.gl) (hp:T'.pas=id)
  (hsub:∀ b x,lkS str b=some x→lkS stn b=some x∧b<id∧σc b=σ b) (hσc:∀ b l,σc b=some l→σ b=some l) (hwin:∀ b,id≤b→b<id1→σ b=none∧lkS stn b=none) (hid:T.pas≤id) (hN:id1≤n)
  (H' : SW (ctxS T' w Y σc str) w' Y' σ1 qs us st1 id1)
  (hst' : ∀ b x,lkS st' b=some x→((lkS str b ≠ none∨(id≤b∧b<id1))∧lkS st1 b=some x)∨(lkS str b=none∧lkS stn b=some x))
  (hnn:∀ b sz rows,lkS st' b ≠ some (.nar sz rows)) :
  ∃ σ',SW C w' Y' σ' ps vs st' n∧RepL w' Y' σ' qs us∧∀ b,(b<id∨id1≤b)→σ' b=σ b:=by
 have hle:id≤id1:=by have:=H'.fix.1; rw [hp] at this; exact this
 have hfix:∀ b,b<id→σ1 b=σc b:=fun b hb=>H'.fix.2 b (by rw [hp]; exact hb)
 let σn:Sg:=fun b=>if b<id∨id1≤b then σ b else σ1 b
 have hout:∀ b,(b<id∨id1≤b)→σn b=σ b:=fun b h=>if_pos h
 have hin:∀ b,id≤b→b<id1→σn b=σ1 b:=fun b h1 h2=>if_neg (by omega)
 have excl:∀ k,k<w.heap.size→Y' k→Y k:=by
  intro k hk hy
  rcases H'.yshr k hy hk with h | h
  ·exact h.1
  ·exact h.1
 have K:Keep w w' Y Y' σ σn:=⟨fun k hk hy=>H'.chg.block k hk fun h=>hy h.1,excl,H'.chg.size,fun b l hl=>by
  by_cases h:b<id∨id1≤b
  ·rw [hout b h]; exact hl
  ·rw [(hwin b (by omega) (by omega)).1] at hl; cases hl⟩
 have sg1:SgLe σ1 σn:=fun b l hl=>by
  rcases Nat.lt_or_ge b id with h | h
  ·rw [hout b (.inl h)]
   rw [hfix b h] at hl
   exact hσc b l hl
  ·rcases Nat.lt_or_ge b id1 with h2 | h2
   ·rw [hin b h h2]; exact hl
   ·rw [H'.next b h2] at hl; cases hl
 have K1:Keep w' w' Y' Y' σ1 σn:=⟨fun _ _ _=>rfl,fun _ _ h=>h,Nat.le_refl _,sg1⟩
 have inst:∀ k,InSt σc str k→∃ b y l,lkS str b ≠ none∧lkS stn b=some y∧σ b=some l∧l.cb=k:=by
  rintro k ⟨b,y,l,h1,h2,h3⟩
  exact ⟨b,y,l,by rw [h1]; simp,(hsub b y h1).1,hσc b l h2,h3⟩
 have eq1:∀ b,(lkS str b ≠ none∨(id≤b∧b<id1))→σn b=σ1 b:=by
  intro b hb
  rcases Nat.lt_or_ge b id with h | h
  ·rw [hout b (.inl h),hfix b h]
   rcases hb with hb | hb
   ·cases hs:lkS str b with
    | none=>exact absurd hs hb
    | some y=>exact (hsub b y hs).2.2.symm
   ·omega
  ·rcases hb with hb | hb
   ·cases hs:lkS str b with
    | none=>exact absurd hs hb
    | some y=>have:=(hsub b y hs).2.1; omega
   ·exact hin b hb.1 hb.2
 have eq2:∀ b x,lkS str b=none→lkS stn b=some x→σn b=σ b:=by
  intro b x _ hx
  refine hout b ?_
  rcases Nat.lt_or_ge b id with h | h
  ·exact .inl h
  ·rcases Nat.lt_or_ge b id1 with h2 | h2
   ·rw [(hwin b h h2).2] at hx; cases hx
   ·exact .inr h2
 have nin:∀ b x l,lkS str b=none→lkS stn b=some x→σ b=some l→¬ InSt σc str l.cb:=by
  intro b x l hb hx hl hi
  obtain ⟨b',y,l',h1,h2,h3,h4⟩:=inst _ hi
  have:=H.store.inj b' b y x l' l h2 hx h3 hl h4
  subst this; exact h1 hb
 have lt0:∀ b x l,lkS stn b=some x→σ b=some l→l.cb<w.heap.size:=by
  intro b x l hx hl
  rcases H.store.blk b x hx with ⟨l2,hl2,hB⟩ | ⟨hn,_⟩
  ·rw [hl] at hl2; cases hl2; exact hB.lt
  ·rw [hl] at hn; cases hn
 refine ⟨σn,⟨RepL.keep _ K _ H.vals,⟨fun b x hx=>?_,fun b b' x x' l l' hx hx' hl hl' e=>?_⟩,fun b hb=>?_,H'.yold,fun k hk=>?_,H.c0,fun k hk hlt=>?_,?_,fun b x l hx hl=>?_,by have:=H'.glob; rw [hgl] at this; exact this,?_,Nest.none hnn⟩,RepL.keep _ K1 _ H'.vals,hout⟩
 ·rcases hst' b x hx with ⟨h1,h2⟩ | ⟨h1,h2⟩
  ·rcases H'.store.blk b x h2 with ⟨l,hl,hB⟩ | ⟨hn,h3⟩
   ·exact .inl ⟨l,sg1 b l hl,BlkRep.keep K1 rfl Iff.rfl hB⟩
   ·exact .inr ⟨by rw [eq1 b h1]; exact hn,h3⟩
  ·rcases H.store.blk b x h2 with ⟨l,hl,hB⟩ | ⟨hn,h3⟩
   ·have hni:=nin b x l h1 h2 hl
    exact .inl ⟨l,K.sg b l hl,BlkRep.keep K (H'.chg.block _ hB.lt fun h=>hni h.2) ⟨excl _ hB.lt,fun h=>H'.y0 _ ⟨h,hni⟩⟩ hB⟩
   ·exact .inr ⟨by rw [eq2 b x h1 h2]; exact hn,h3⟩
 ·have side:∀ b b' x x' l l',((lkS str b ≠ none∨(id≤b∧b<id1))∧lkS st1 b=some x)→(lkS str b'=none∧lkS stn b'=some x')→σn b=some l→σn b'=some l'→l.cb=l'.cb→False:=by
   rintro b b' x x' l l' ⟨h1,h2⟩ ⟨h3,h4⟩ hl hl' e
   rw [eq1 b h1] at hl
   rw [eq2 b' x' h3 h4] at hl'
   have hlt':=lt0 b' x' l' h4 hl'
   rcases H'.own b x l h2 hl with h | h
   ·have h:w.heap.size≤l.cb:=h
    omega
   ·rw [e] at h
    exact nin b' x' l' h3 h4 hl' h
  rcases hst' b x hx with h | h <;> rcases hst' b' x' hx' with h' | h'
  ·exact H'.store.inj b b' x x' l l' h.2 h'.2 (by rw [← eq1 b h.1]; exact hl) (by rw [← eq1 b' h'.1]; exact hl') e
  ·exact (side b b' x x' l l' h h' hl hl' e).elim
  ·exact (side b' b x' x l' l h' h hl' hl e.symm).elim
  ·exact H.store.inj b b' x x' l l' h.2 h'.2 (by rw [← eq2 b x h.1 h.2]; exact hl) (by rw [← eq2 b' x' h'.1 h'.2]; exact hl') e
 ·rw [hout b (.inr (by omega))]; exact H.next b hb
 ·refine H'.y0 k ⟨H.y0 k hk,fun hi=>?_⟩
  obtain ⟨b,y,l,h1,h2,h3,rfl⟩:=inst k hi
  exact H.away h2 h3 hk
 ·exact H.yshr k (excl k (Nat.lt_of_lt_of_le hlt H.chg.size) hk) hlt
 ·refine ⟨by rw [H'.chg.os]; exact H.chg.os,by rw [H'.chg.tape]; exact H.chg.tape,by rw [H'.chg.output]; exact H.chg.output,Nat.le_trans H.chg.size H'.chg.size,fun k hk hM=>?_⟩
  rw [H'.chg.block k (Nat.lt_of_lt_of_le hk H.chg.size) fun h=>?_]
  ·exact H.chg.block k hk hM
  ·obtain ⟨h1,h2⟩:=h
   rcases H.yshr k h1 hk with h3 | h3
   ·obtain ⟨b,y,l,h4,h5,h6,rfl⟩:=inst k h2
    exact H.away h5 h6 h3
   ·exact hM h3
 ·rcases hst' b x hx with ⟨h1,h2⟩ | ⟨h1,h2⟩
  ·rw [eq1 b h1] at hl
   rcases H'.own b x l h2 hl with h | h
   ·exact .inl (Nat.le_trans H.chg.size h)
   ·obtain ⟨b',y',l',h5,h6,h7,h8⟩:=inst _ h
    rw [← h8]; exact H.own b' y' l' h6 h7
  ·rw [eq2 b x h1 h2] at hl
   exact H.own b x l h2 hl
 ·refine ⟨H.fix.1,fun b hb=>?_⟩
  rw [hout b (.inl (by omega))]; exact H.fix.2 b hb
end Go.Pv
namespace Go.Pv
open Go
noncomputable def sanD:Dl→Dl
 | []=>[]
 | (b,x)::δ=>(b,noN x)::sanD δ
theorem lastD_san:∀ (δ:Dl) (b:Nat),lastD (sanD δ) b=(lastD δ b).map noN
 | [],b=>rfl
 | (c,x)::δ,b=>by
  simp only [sanD,lastD]
  rw [lastD_san δ b]
  cases lastD δ b with
  | some y=>rfl
  | none =>
   by_cases h:c=b
   ·simp [h]
   ·simp [h]
theorem getB_applB:∀ (δ:Dl) (t:Sb) (b:Nat),getB (applB δ t) b=(match lastD (sanD δ) b with | some x=>x | none=>getB t b)
 | [],t,b=>rfl
 | (c,x)::δ,t,b=>by
  show getB (applB δ (setB (noN x) c t)) b=_
  rw [getB_applB δ]
  simp only [sanD,lastD]
  cases lastD (sanD δ) b with
  | some y=>rfl
  | none =>
   simp only
   rw [getB_setB]
   by_cases h:c=b
   ·subst h; simp
   ·rw [if_neg (Ne.symm h),if_neg h]
theorem sanD_nn (δ:Dl) (b sz:Nat) (rows:List (List PV)):lastD (sanD δ) b ≠ some (some (.nar sz rows)):=by
 rw [lastD_san]
 intro h
 cases hl:lastD δ b with
 | none=>rw [hl] at h; cases h
 | some y =>
  rw [hl] at h
  simp only [Option.map_some,Option.some.injEq] at h
  exact (noN_some h).2 sz rows rfl
theorem keysR_mem:∀ (δ:Dl) (b:Nat) (x:Option Blk),(b,x)∈δ→b∈keysR δ
 | [],b,x,h=>by cases h
 | (c,y)::δ,b,x,h=>by
  have e:keysR ((c,y)::δ)=c::keysR δ:=rfl
  rw [e]
  rcases List.mem_cons.1 h with h | h
  ·cases h; simp
  ·exact List.mem_cons_of_mem _ (keysR_mem δ b x h)
theorem sanD_none (δ:Dl) (b:Nat) (h:lastD (sanD δ) b ≠ none):b∈keysR δ:=by
 rw [lastD_san] at h
 obtain ⟨x,hx⟩:=lastD_keys δ b fun e=>h (by rw [e]; rfl)
 exact keysR_mem δ b x hx
theorem sanD_st {st:St} {δ:Dl} (b:Nat) (x:Blk) (h:lkS (applyD (sanD δ) st) b=some x):lkS (applyD δ st) b=some x:=by
 rw [lk_applyD,lastD_san] at h
 rw [lk_applyD]
 cases hl:lastD δ b with
 | none=>rw [hl] at h; exact h
 | some y =>
  rw [hl] at h
  exact (noN_some h).1
theorem lastD_map {f:Nat→Option Blk}:∀ (l:List Nat) (b:Nat),lastD (l.map fun b=>(b,f b)) b=if b∈l then some (f b) else none
 | [],b=>by simp [lastD]
 | c::l,b=>by
  simp only [List.map_cons,lastD]
  rw [lastD_map l b]
  by_cases h:b∈l
  ·rw [if_pos h,if_pos (List.mem_cons_of_mem _ h)]
  ·rw [if_neg h]
   by_cases hc:c=b
   ·subst hc; simp
   ·have hn:¬ b∈c::l:=by
     rw [List.mem_cons]
     rintro (e | e)
     ·exact hc e.symm
     ·exact h e
    rw [if_neg hn]
    simp only [if_neg hc]
section
variable {P:Program} {T:Tab} (hT:TabOK P T) (hW:PWf P) (hnar:T.nar=0) (hgl:∀ g,T.gl g=none) {call:CallV} (hcall:CallOK P T call)
include hT hW hnar hgl in
theorem opV_semF {all:Array Oper} {o:Oper} {tm:Tr PV} {er:List PV} (htm:∀ i,getP tm i=getL er i) {lk:Nat→Option Blk} {id:Nat} {v:PV} {δ:Dl} (h:opV o.op T.ti (evV tm) lk id=some (v,δ)):SemF P T all o er lk id 1 v (sanD δ):=by
 intro C ps Y σ a w st n hl H hn hlk hwin hpas hle next Q hnext
 have H2:=H.rebaseT hn
 obtain ⟨v',δ',cv,w',Y',σ',⟨rfl,rfl⟩,hrun,H',hrep,hoff⟩:=opV_res hT hW hnar H2 hlk ⟨(hwin id (Nat.le_refl _) (by omega)).1,hpas⟩ (evV_eq (T:=T) hgl htm) (tmp_looks hl) h
 have hni:nextI δ' n id≤n:=by cases δ' <;> simp [nextI] <;> omega
 have H3:=(H.composeT H').mono hni
 have:=hnext cv w' Y' σ' (applyD (sanD δ') st) (H3.ext fun b x hx=>sanD_st b x hx) (fun b=>lk_applyD _ _ _) (fun b hb=>hoff b (by omega)) hrep (fun B D hD=>hD.step H.store H')
 unfold Oper.wp
 rcases hrun with hrun | ⟨hrun,rfl⟩
 ·rw [hrun]; exact this
 ·rw [hrun]; exact this
end
end Go.Pv
namespace Go.Pv
open Go
theorem filR_mem {f:Nat→Bool}:∀ (l:List Nat) (x:Nat),x∈filR f l ↔ x∈l∧f x=true
 | [],x=>by simp [filR]
 | y::l,x=>by
  have e:filR f (y::l)=Bool.rec (motive:=fun _=>List Nat) (filR f l) (y::filR f l) (f y):=rfl
  rw [e]
  cases hy:f y with
  | false =>
   show x∈filR f l ↔ _
   rw [filR_mem l x,List.mem_cons]
   constructor
   ·rintro ⟨h1,h2⟩; exact ⟨.inr h1,h2⟩
   ·rintro ⟨rfl | h1,h2⟩
    ·rw [hy] at h2; cases h2
    ·exact ⟨h1,h2⟩
  | true =>
   show x∈y::filR f l ↔ _
   rw [List.mem_cons,filR_mem l x,List.mem_cons]
   constructor
   ·rintro (rfl | ⟨h1,h2⟩)
    ·exact ⟨.inl rfl,hy⟩
    ·exact ⟨.inr h1,h2⟩
   ·rintro ⟨rfl | h1,h2⟩
    ·exact .inl rfl
    ·exact .inr ⟨h1,h2⟩
theorem getB_subT (t:Sb):∀ (l:List Nat) (b:Nat),getB (subT t l) b=if b∈l then getB t b else none
 | [],b=>by simp; rfl
 | c::l,b=>by
  have e:subT t (c::l)=setB (getB t c) c (subT t l):=rfl
  rw [e,getB_setB,getB_subT t l b]
  by_cases h:b=c
  ·subst h; simp
  ·rw [if_neg h]
   by_cases h2:b∈l
   ·rw [if_pos h2,if_pos (List.mem_cons_of_mem _ h2)]
   ·rw [if_neg h2,if_neg (by rw [List.mem_cons]; rintro (e | e); exact h e; exact h2 e)]
theorem noN_id {x:Option Blk} (h:∀ sz rows,x ≠ some (.nar sz rows)):noN x=x:=by
 cases x with
 | none=>rfl
 | some x =>
  cases x with
  | nar sz rows=>exact absurd rfl (h sz rows)
  | _=>rfl
theorem isSome_rec {x:Option Blk}:(Option.rec (motive:=fun _=>Bool) false (fun _=>true) x:Bool)=true ↔ x ≠ none:=by
 cases x with
 | none=>simp
 | some y=>simp
theorem lk1_some {R:List Nat} {t:Sb} {b:Nat} {x:Blk} (h:lk1 R t b=some x):b∈R∧getB t b=some x:=by
 have h:Bool.rec (motive:=fun _=>Option Blk) none (getB t b) (hasR R b)=some x:=h
 cases hb:hasR R b with
 | false=>rw [hb] at h; cases h
 | true=>rw [hb] at h; exact ⟨(hasR_iff _ _).1 hb,h⟩
theorem lk1_of {R:List Nat} {t:Sb} {b:Nat} (hb:b∈R):lk1 R t b=getB t b:=by
 show Bool.rec (motive:=fun _=>Option Blk) none (getB t b) (hasR R b)=_
 rw [(hasR_iff _ _).2 hb]
section
variable {P:Program} {T:Tab} (hT:TabOK P T) (hW:PWf P) (hnar:T.nar=0) (hgl:∀ g,T.gl g=none) {call:CallV} (hcall:CallOK P T call)
include hgl hcall in
theorem callF_sem {all:Array Oper} {o:Oper} {f:Operand} {args:Array Operand} {ts:Array TypeId} (ho:o.op=.call { callee:=.value f,args:=args,argTypes:=ts }) {tm:Tr PV} {er:List PV} (htm:∀ i,getP tm i=getL er i) {k:Nat} {caps:List PV} (hf:evV tm f=.fn k caps)
  {n:Nat} {t:Sb} {id:Nat} {E' : EV} {tc:Tc} (hnt:GT t id) (h:callF call k (appR (evA1 (evV tm) args.toList) caps) tm n t id o.dst=some (E',tc)) :
  ∃ v m δ,SemF P T all o er (lk1 tc.1 t) id m v δ∧E'.tm=putT1 tm n o.dst v∧E'.n=n∧E'.nx=id+m∧(∀ st:St,(∀ b,lkS st b=getB t b)→∀ b,lkS (applyD δ st) b=getB E'.st b)∧GT E'.st E'.nx ∧
   (∀ b,lastD δ b ≠ none→(id≤b∧b<id+m)∨getB t b ≠ none)∧(∀ b sz rows,lastD δ b ≠ some (some (.nar sz rows)))∧(∀ b,lastD δ b ≠ none→b∈tc.2.2)∧(∀ b∈tc.2.2,b∈tc.2.1):=by
 unfold callF at h
 simp only at h
 generalize hρ:rch (getB t) 8 (nmLs (appR (evA1 (evV tm) args.toList) caps) []) []=ρ at h
 split at h
 ·rename_i hchk
  obtain ⟨c1,c2⟩:=and_tt hchk
  obtain ⟨c2,c3⟩:=and_tt c2
  have c1:∀ b∈ρ,b<id:=fun b hb=>Nat.le_of_ble_eq_true (allR_spec c1 b hb)
  have c3:∀ b∈ρ,allNB (hasR ρ) (getB t b)=true:=fun b hb=>allR_spec c3 b hb
  split at h
  ·rename_i v st1 id1 hc
   have hF:=hcall _ _ _ _ _ _ _ hc
   generalize hS:appN (filR (fun b=>Option.rec (motive:=fun _=>Bool) false (fun _=>true) (getB t b)) ρ) (filR (fun b=>Bool.rec (motive:=fun _=>Bool) false (Nat.ble (Nat.succ b) id1) (Nat.ble id b)) (rch (getB st1) 8 (nmL v ρ) []))=S at h
   have hle0:Nat.ble id id1=true:=by
    cases hle0:Nat.ble id id1 with
    | true=>rfl
    | false=>rw [hle0] at h; cases h
   rw [hle0] at h
   have hle:=Nat.le_of_ble_eq_true hle0
   simp only [Option.some.injEq,Prod.mk.injEq] at h
   obtain ⟨rfl,rfl⟩:=h
   have hSin:∀ b,b∈ρ→getB t b ≠ none→b∈S:=fun b h1 h2=>by
    rw [← hS,appN_eq,List.mem_append]
    exact .inl ((filR_mem _ _).2 ⟨h1,isSome_rec.2 h2⟩)
   have hSout:∀ b,b∈S→(b∈ρ∧getB t b ≠ none)∨(id≤b∧b<id1):=fun b hb=>by
    rw [← hS,appN_eq,List.mem_append] at hb
    rcases hb with hb | hb
    ·obtain ⟨h1,h2⟩:=(filR_mem _ _).1 hb
     exact .inl ⟨h1,isSome_rec.1 h2⟩
    ·obtain ⟨h1,h2⟩:=(filR_mem _ _).1 hb
     right
     cases hb2:Nat.ble id b with
     | false=>rw [hb2] at h2; cases h2
     | true =>
      rw [hb2] at h2
      exact ⟨Nat.le_of_ble_eq_true hb2,Nat.le_of_ble_eq_true h2⟩
   generalize hWd:filR (fun b=>notB (eqBk (getB st1 b) (getB t b))) S=W
   have hWS:∀ b∈W,b∈S:=fun b hb=>by rw [← hWd] at hb; exact ((filR_mem _ _).1 hb).1
   have hSW:∀ b,b∈S→b ∉ W→getB st1 b=getB t b:=fun b h1 h2=>by
    rw [← hWd,filR_mem] at h2
    refine eqBk_sound ?_
    cases he:eqBk (getB st1 b) (getB t b) with
    | true=>rfl
    | false=>exact absurd ⟨h1,by rw [he]; rfl⟩ h2
   have hsubNN:GT (subT t ρ) id:=by
    refine ⟨fun b sz rows hb=>?_,fun b hb=>?_⟩
    ·rw [getB_subT] at hb
     by_cases h:b∈ρ
     ·rw [if_pos h] at hb; exact hnt.1 b sz rows hb
     ·rw [if_neg h] at hb; cases hb
    ·rw [getB_subT]
     by_cases h:b∈ρ
     ·have:=c1 b h; omega
     ·rw [if_neg h]
   obtain ⟨⟨hn1,hn1b⟩,hF⟩:=hF hsubNN
   have lδ:∀ b,lastD (W.map fun b=>(b,getB st1 b)) b=if b∈W then some (getB st1 b) else none:=fun b=>lastD_map W b
   have hgetE:∀ b,getB (applB (S.map fun b=>(b,getB st1 b)) t) b=if b∈S then getB st1 b else getB t b:=fun b=>by
    rw [getB_applB,lastD_san,lastD_map]
    by_cases h:b∈S
    ·rw [if_pos h,if_pos h]; exact noN_id fun sz rows=>hn1 b sz rows
    ·rw [if_neg h,if_neg h]; rfl
   refine ⟨v,id1 - id,W.map fun b=>(b,getB st1 b),?_,rfl,rfl,by show id1=_; omega,fun st hst b=>?_,?_,fun b hb=>?_,fun b sz rows hb=>?_,fun b hb=>?_,hWS⟩
   ·intro C ps Y σ a w st n2 hl H hn hlk hwin hpas hle2 next Q hnext
    have hwin:∀ b,id≤b→b<id1→σ b=none∧lkS st b=none:=fun b h1 h2=>hwin b h1 (by omega)
    have hev:=tmp_looks (T:=T) hl
    rw [ho] at hev
    have hevV:=evV_eq (T:=T) hgl htm
    have hfv:=ev_rep H f
    rw [hev f (by simp [Op.operands,Call.operands]),← hevV,hf] at hfv
    unfold Rep at hfv
    obtain ⟨cs,ef,hcs⟩:=hfv
    have hargs:=evA_rep H args.toList
    rw [evA_congr (ps:=ps) (qs:=er) args.toList fun x hx=>hev x (by simp only [Op.operands,Call.operands]; simp; exact .inr (by simpa using hx))] at hargs
    have hall:=RepL.app _ _ _ _ hargs hcs
    rw [appL_eq,← evA1_eq hevV,← appR_eq] at hall
    let σc:Sg:=fun b=>if b∈ρ then σ b else none
    have hσc:∀ b,b∈ρ→σc b=σ b:=fun b hb=>if_pos hb
    have hσn:∀ b,b ∉ ρ→σc b=none:=fun b hb=>if_neg hb
    have hσp:∀ b,hasR ρ b=true→σc b=σ b:=fun b hb=>hσc b ((hasR_iff _ _).1 hb)
    have hσs:∀ b l,σc b=some l→σ b=some l:=fun b l hb=>by
     by_cases h:b∈ρ
     ·rw [← hσc b h]; exact hb
     ·rw [hσn b h] at hb; cases hb
    obtain ⟨str,hstr⟩:=stOf (subT t ρ)
    have hsub:∀ b x,lkS str b=some x→lkS st b=some x∧b<id∧σc b=σ b∧b∈ρ:=fun b x hx=>by
     rw [hstr,getB_subT] at hx
     by_cases h:b∈ρ
     ·rw [if_pos h] at hx
      exact ⟨hlk b x (by rw [lk1_of h]; exact hx),c1 b h,hσc b h,h⟩
     ·rw [if_neg h] at hx; cases hx
    have hstR:StRep w Y σc str:=by
     refine ⟨fun b x hx=>?_,fun b b' x x' l l' hx hx' hl hl' e=>?_⟩
     ·obtain ⟨h1,h2,h3,h4⟩:=hsub b x hx
      have h5:=c3 b h4
      rw [hstr,getB_subT,if_pos h4] at hx
      rw [hx] at h5
      rcases H.store.blk b x h1 with ⟨l,hl,hB⟩ | ⟨h6,h7⟩
      ·exact .inl ⟨l,by rw [h3]; exact hl,allNB_rep hσp h5 hB⟩
      ·exact .inr ⟨by rw [h3]; exact h6,h7⟩
     ·exact H.store.inj b b' x x' l l' (hsub b x hx).1 (hsub b' x' hx').1 (hσs b l hl) (hσs b' l' hl') e
    obtain ⟨hent,hcall2⟩:=hF w Y σc _ str hstr H.glob H.yold (fun b hb=>hσn b fun h=>by have:=c1 b h; omega) (allNs_rep hσp _ _ c2 hall) hstR
    unfold Oper.wp
    rw [call_run ho ef hent]
    refine Calls.mono hcall2 fun e w' hh=>?_
    obtain ⟨cv,Y',σ1,st1L,rfl,hst1,H'⟩:=hh
    obtain ⟨σ',H2,hv,hoff⟩:=SW.composeF (st':=applyD (W.map fun b=>(b,getB st1 b)) st) H (T':=T.at id) rfl rfl (fun b x hx=>by obtain ⟨h1,h2,h3,_⟩:=hsub b x hx; exact ⟨h1,h2,h3⟩) hσs hwin hpas (by omega) H' (fun b x hx=>by
     rw [lk_applyD,lδ] at hx
     by_cases hW2:b∈W
     ·rw [if_pos hW2] at hx
      simp only at hx
      left
      refine ⟨?_,by rw [hst1]; exact hx⟩
      rcases hSout b (hWS b hW2) with ⟨h1,h2⟩ | h1
      ·left; rw [hstr,getB_subT,if_pos h1]; exact h2
      ·exact .inr h1
     ·rw [if_neg hW2] at hx
      simp only at hx
      cases hs:lkS str b with
      | none=>exact .inr ⟨rfl,hx⟩
      | some y =>
       obtain ⟨h1,h2,h3,h4⟩:=hsub b y hs
       rw [hstr,getB_subT,if_pos h4] at hs
       left
       refine ⟨.inl (by simp),?_⟩
       rw [h1] at hx; cases hx
       rw [hst1,hSW b (hSin b h4 (by rw [hs]; simp)) hW2]; exact hs) (fun b sz rows hb=>by
     rw [lk_applyD,lδ] at hb
     by_cases hW2:b∈W
     ·rw [if_pos hW2] at hb; exact hn1 b sz rows hb
     ·rw [if_neg hW2] at hb; exact hn b sz rows hb)
    unfold RepL at hv
    obtain ⟨c,cs',e,h6,h7⟩:=hv
    cases e
    exact hnext cv w' Y' σ' _ H2 (fun b=>lk_applyD _ _ _) (fun b hb=>hoff b (hb.elim .inl fun h=>.inr (by omega))) h6 (fun B D hD=>hD.step hstR H')
   ·rw [lk_applyD,lδ,hst]
    show _=getB (applB (S.map fun b=>(b,getB st1 b)) t) b
    rw [hgetE]
    by_cases hW2:b∈W
    ·rw [if_pos hW2,if_pos (hWS b hW2)]
    ·rw [if_neg hW2]
     by_cases hS2:b∈S
     ·rw [if_pos hS2,hSW b hS2 hW2]
     ·rw [if_neg hS2]
   ·refine ⟨fun b sz rows hb=>?_,fun b hb=>?_⟩
    rotate_left
    ·show getB (applB (S.map fun b=>(b,getB st1 b)) t) b=none
     have hb:id1≤b:=hb
     rw [hgetE]
     by_cases hS2:b∈S
     ·rw [if_pos hS2]; exact hn1b b hb
     ·rw [if_neg hS2]; exact hnt.2 b (by omega)
    have hb:getB (applB (S.map fun b=>(b,getB st1 b)) t) b=some (.nar sz rows):=hb
    rw [hgetE] at hb
    by_cases hS2:b∈S
    ·rw [if_pos hS2] at hb; exact hn1 b sz rows hb
    ·rw [if_neg hS2] at hb; exact hnt.1 b sz rows hb
   ·rw [lδ] at hb
    by_cases hW2:b∈W
    ·rcases hSout b (hWS b hW2) with ⟨h1,h2⟩ | h1
     ·exact .inr h2
     ·exact .inl (by omega)
    ·rw [if_neg hW2] at hb; exact absurd rfl hb
   ·rw [lδ] at hb
    by_cases hW2:b∈W
    ·rw [if_pos hW2] at hb
     simp only [Option.some.injEq] at hb
     exact hn1 b sz rows hb
    ·rw [if_neg hW2] at hb; cases hb
   ·rw [lδ] at hb
    by_cases hW2:b∈W
    ·exact hW2
    ·rw [if_neg hW2] at hb; exact absurd rfl hb
  ·cases h
 ·cases h
end
end Go.Pv
