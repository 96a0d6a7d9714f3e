import Derived.RangeFuncLeaves
import Derived.Test.YtchmoabpofnbaaaGreatB05
set_option linter.all false
namespace Go.Pv
open Go
theorem aby {m f:Nat}(h:m<f):Nat.div m 2<f:=Nat.lt_of_le_of_lt (Nat.div_le_self m 2) h
theorem acY {m k:Nat}(hp:Nat.beq (Nat.mod m 2) 0=Nat.beq (Nat.mod k 2) 0)(R:Nat.div m 2=Nat.div k 2):m=k:=by
 have h1:m / 2=k / 2:=R;have h2:Nat.beq (m % 2) 0=Nat.beq (k % 2) 0:=hp;have T:m % 2=0\/m % 2=1:=by omega
 have U:k % 2=0\/k % 2=1:=by omega
 rcases T with T|T<;>rcases U with U|U<;>rw[T,U] at h2<;>first|omega|(cases h2)
noncomputable def Ol (f:Nat):PV->Nat->Tr PV->Tr PV:=λx k t=>Nat.rec (motive:=λ_=>PV->Nat->Tr PV->Tr PV) (λ_ _ t=>t)
 (λ_ ih x k t=>Tr.rec (motive:=λ_=>Tr PV)
  (Nat.rec (motive:=λ_=>Tr PV) (Tr.n x Tr.e Tr.e) (λm _=>Bool.rec (motive:=λ_=>Tr PV) (Tr.n PV.undef Tr.e (ih x (Nat.div m 2) Tr.e)) (Tr.n PV.undef (ih x (Nat.div m 2) Tr.e) Tr.e) (Nat.beq (Nat.mod m 2) 0)) k)
  (λv l r _ _=>Nat.rec (motive:=λ_=>Tr PV) (Tr.n x l r) (λm _=>Bool.rec (motive:=λ_=>Tr PV) (Tr.n v l (ih x (Nat.div m 2) r)) (Tr.n v (ih x (Nat.div m 2) l) r) (Nat.beq (Nat.mod m 2) 0)) k) t) f x k t
theorem IP (v:PV)(l r:Tr PV)(m:Nat):mZ (.n v l r) (m+1)=Bool.rec (motive:=λ_=>PV) (mZ r (Nat.div m 2)) (mZ l (Nat.div m 2)) (Nat.beq (Nat.mod m 2) 0):=rfl
theorem TG:∀ (f k:Nat),k<f->∀ (x:PV) (t:Tr PV) (j:Nat),mZ (Ol f x k t) j=if j=k then x else mZ t j
 | 0,k,h,_,_,_=>by omega
 | f+1,0,_,x,t,j=>by
  cases t with
  | e =>
   show mZ (Tr.n x Tr.e Tr.e) j=_
   cases j with
   | zero=>rfl
   | succ j =>
    rw[IP,if_neg ah];show _=PV.undef;cases Nat.beq (Nat.mod j 2) 0<;>rfl
  | n v l r =>
   show mZ (Tr.n x l r) j=_
   cases j with
   | zero=>rfl
   | succ j=>rw[if_neg ah];rfl
 | f+1,k+1,h,x,t,j=>by
  have U:=λ(t:Tr PV) (j:Nat)=>TG f (Nat.div k 2) (aby ah) x t j
  cases t with
  | e =>
   show mZ (Bool.rec (motive:=λ_=>Tr PV) (Tr.n PV.undef Tr.e (Ol f x (Nat.div k 2) Tr.e)) (Tr.n PV.undef (Ol f x (Nat.div k 2) Tr.e) Tr.e) (Nat.beq (Nat.mod k 2) 0)) j=_
   cases hb:Nat.beq (Nat.mod k 2) 0 with
   | false =>
    cases j with
    | zero=>rw[if_neg ah];rfl
    | succ j =>
     rw[IP]
     cases hj:Nat.beq (Nat.mod j 2) 0 with
     | false =>
      show mZ (Ol f x (Nat.div k 2) Tr.e) (Nat.div j 2)=_;rw[U]
      by_cases he:Nat.div j 2=Nat.div k 2
      rw[if_pos he,if_pos bJ]
      rw[if_neg he,if_neg bG];rfl
     | true =>
      show mZ Tr.e _=_;rw[if_neg bf];rfl
   | true =>
    cases j with
    | zero=>rw[if_neg ah];rfl
    | succ j =>
     rw[IP]
     cases hj:Nat.beq (Nat.mod j 2) 0 with
     | true =>
      show mZ (Ol f x (Nat.div k 2) Tr.e) (Nat.div j 2)=_;rw[U]
      by_cases he:Nat.div j 2=Nat.div k 2
      rw[if_pos he,if_pos bJ]
      rw[if_neg he,if_neg bG];rfl
     | false =>
      show mZ Tr.e _=_;rw[if_neg bf];rfl
  | n v l r =>
   show mZ (Bool.rec (motive:=λ_=>Tr PV) (Tr.n v l (Ol f x (Nat.div k 2) r)) (Tr.n v (Ol f x (Nat.div k 2) l) r) (Nat.beq (Nat.mod k 2) 0)) j=_
   cases hb:Nat.beq (Nat.mod k 2) 0 with
   | false =>
    cases j with
    | zero=>rw[if_neg ah];rfl
    | succ j =>
     rw[IP,IP]
     cases hj:Nat.beq (Nat.mod j 2) 0 with
     | false =>
      show mZ (Ol f x (Nat.div k 2) r) (Nat.div j 2)=_;rw[U]
      by_cases he:Nat.div j 2=Nat.div k 2
      rw[if_pos he,if_pos bJ]
      rw[if_neg he,if_neg bG]
     | true=>rw[if_neg bf]
   | true =>
    cases j with
    | zero=>rw[if_neg ah];rfl
    | succ j =>
     rw[IP,IP]
     cases hj:Nat.beq (Nat.mod j 2) 0 with
     | true =>
      show mZ (Ol f x (Nat.div k 2) l) (Nat.div j 2)=_;rw[U]
      by_cases he:Nat.div j 2=Nat.div k 2
      rw[if_pos he,if_pos bJ]
      rw[if_neg he,if_neg bG]
     | false=>rw[if_neg bf]
theorem PX (x:PV)(k:Nat)(t:Tr PV)(j:Nat):mZ (Zp x k t) j=if j=k then x else mZ t j:=TG (k+1) k ah x t j
noncomputable def Om (f:Nat):Option jq->Nat->Sb->Sb:=λx k t=>Nat.rec (motive:=λ_=>Option jq->Nat->Sb->Sb) (λ_ _ t=>t)
 (λ_ ih x k t=>Tr.rec (motive:=λ_=>Sb)
  (Nat.rec (motive:=λ_=>Sb) (Tr.n x Tr.e Tr.e) (λm _=>Bool.rec (motive:=λ_=>Sb) (Tr.n none Tr.e (ih x (Nat.div m 2) Tr.e)) (Tr.n none (ih x (Nat.div m 2) Tr.e) Tr.e) (Nat.beq (Nat.mod m 2) 0)) k)
  (λv l r _ _=>Nat.rec (motive:=λ_=>Sb) (Tr.n x l r) (λm _=>Bool.rec (motive:=λ_=>Sb) (Tr.n v l (ih x (Nat.div m 2) r)) (Tr.n v (ih x (Nat.div m 2) l) r) (Nat.beq (Nat.mod m 2) 0)) k) t) f x k t
theorem Fq (v:Option jq)(l r:Sb)(m:Nat):jr (.n v l r) (m+1)=Bool.rec (motive:=λ_=>Option jq) (jr r (Nat.div m 2)) (jr l (Nat.div m 2)) (Nat.beq (Nat.mod m 2) 0):=rfl
theorem TJ:∀ (f k:Nat),k<f->∀ (x:Option jq) (t:Sb) (j:Nat),jr (Om f x k t) j=if j=k then x else jr t j
 | 0,k,h,_,_,_=>by omega
 | f+1,0,_,x,t,j=>by
  cases t with
  | e =>
   show jr (Tr.n x Tr.e Tr.e) j=_
   cases j with
   | zero=>rfl
   | succ j =>
    rw[Fq,if_neg ah];show _=none;cases Nat.beq (Nat.mod j 2) 0<;>rfl
  | n v l r =>
   show jr (Tr.n x l r) j=_
   cases j with
   | zero=>rfl
   | succ j=>rw[if_neg ah];rfl
 | f+1,k+1,h,x,t,j=>by
  have U:=λ(t:Sb) (j:Nat)=>TJ f (Nat.div k 2) (aby ah) x t j
  cases t with
  | e =>
   show jr (Bool.rec (motive:=λ_=>Sb) (Tr.n none Tr.e (Om f x (Nat.div k 2) Tr.e)) (Tr.n none (Om f x (Nat.div k 2) Tr.e) Tr.e) (Nat.beq (Nat.mod k 2) 0)) j=_
   cases hb:Nat.beq (Nat.mod k 2) 0 with
   | false =>
    cases j with
    | zero=>rw[if_neg ah];rfl
    | succ j =>
     rw[Fq]
     cases hj:Nat.beq (Nat.mod j 2) 0 with
     | false =>
      show jr (Om f x (Nat.div k 2) Tr.e) (Nat.div j 2)=_;rw[U]
      by_cases he:Nat.div j 2=Nat.div k 2
      rw[if_pos he,if_pos bJ]
      rw[if_neg he,if_neg bG];rfl
     | true =>
      show jr Tr.e _=_;rw[if_neg bf];rfl
   | true =>
    cases j with
    | zero=>rw[if_neg ah];rfl
    | succ j =>
     rw[Fq]
     cases hj:Nat.beq (Nat.mod j 2) 0 with
     | true =>
      show jr (Om f x (Nat.div k 2) Tr.e) (Nat.div j 2)=_;rw[U]
      by_cases he:Nat.div j 2=Nat.div k 2
      rw[if_pos he,if_pos bJ]
      rw[if_neg he,if_neg bG];rfl
     | false =>
      show jr Tr.e _=_;rw[if_neg bf];rfl
  | n v l r =>
   show jr (Bool.rec (motive:=λ_=>Sb) (Tr.n v l (Om f x (Nat.div k 2) r)) (Tr.n v (Om f x (Nat.div k 2) l) r) (Nat.beq (Nat.mod k 2) 0)) j=_
   cases hb:Nat.beq (Nat.mod k 2) 0 with
   | false =>
    cases j with
    | zero=>rw[if_neg ah];rfl
    | succ j =>
     rw[Fq,Fq]
     cases hj:Nat.beq (Nat.mod j 2) 0 with
     | false =>
      show jr (Om f x (Nat.div k 2) r) (Nat.div j 2)=_;rw[U]
      by_cases he:Nat.div j 2=Nat.div k 2
      rw[if_pos he,if_pos bJ]
      rw[if_neg he,if_neg bG]
     | true=>rw[if_neg bf]
   | true =>
    cases j with
    | zero=>rw[if_neg ah];rfl
    | succ j =>
     rw[Fq,Fq]
     cases hj:Nat.beq (Nat.mod j 2) 0 with
     | true =>
      show jr (Om f x (Nat.div k 2) l) (Nat.div j 2)=_;rw[U]
      by_cases he:Nat.div j 2=Nat.div k 2
      rw[if_pos he,if_pos bJ]
      rw[if_neg he,if_neg bG]
     | false=>rw[if_neg bf]
theorem G8 (x:Option jq)(k:Nat)(t:Sb)(j:Nat):jr (setB x k t) j=if j=k then x else jr t j:=TJ (k+1) k ah x t j
@[simp] theorem Bo:∀ l,CO l=l.length
 | []=>rfl
 | _::l=>by show Nat.succ (CO l)=_;rw[Bo l];rfl
@[simp] theorem Et:∀ l,I9 l=l.length
 | []=>rfl
 | _::l=>by show Nat.succ (I9 l)=_;rw[Et l];rfl
@[simp] theorem J8:∀ n l,RG n l=l.drop n
 | 0,l=>rfl
 | n+1,[]=>by simp;rfl
 | n+1,x::l=>by show RG n l=_;rw[J8 n l];simp
@[simp] theorem TL:∀ n l,XI n l=l.take n
 | 0,l=>by simp;rfl
 | n+1,[]=>by simp;rfl
 | n+1,x::l=>by show x::XI n l=_;rw[TL n l];simp
@[simp] theorem DK:∀ n l,Hy n l=l.drop n
 | 0,l=>rfl
 | n+1,[]=>by simp;rfl
 | n+1,x::l=>by show Hy n l=_;rw[DK n l];simp
@[simp] theorem DL:∀ n l,Hz n l=l.take n
 | 0,l=>by simp;rfl
 | n+1,[]=>by simp;rfl
 | n+1,x::l=>by show x::Hz n l=_;rw[DL n l];simp
@[simp] theorem TM:∀ l m,RH l m=l++m
 | [],m=>by simp;rfl
 | x::l,m=>by show x::RH l m=_;rw[TM l m];simp
@[simp] theorem Rh:∀ l m,O7 l m=l++m
 | [],m=>by simp;rfl
 | x::l,m=>by show x::O7 l m=_;rw[Rh l m];simp
@[simp] theorem WM:∀ l m,afA l m=l++m
 | [],m=>by simp;rfl
 | x::l,m=>by show x::afA l m=_;rw[WM l m];simp
@[simp] theorem Yr:∀ l n v,ade l n v=l.set n v
 | [],n,v=>by simp;rfl
 | x::l,0,v=>by simp;rfl
 | x::l,n+1,v=>by show x::ade l n v=_;rw[Yr l n v];simp
@[simp] theorem WN:∀ n l,ab3 n l=Jb n l
 | 0,l=>rfl
 | n+1,l=>by show O7 l (ab3 n l)=wU l (Jb n l);rw[WN n l];simp
@[simp] theorem TN:∀ n l,XJ n l=List.replicate n l
 | 0,l=>by simp;rfl
 | n+1,l=>by show l::XJ n l=_;rw[TN n l];simp[List.replicate_succ]
@[simp] theorem abz:∀ n sz l,ahk n sz l=chunks sz n l
 | 0,sz,l=>rfl
 | n+1,sz,l=>by show XI sz l::ahk n sz (RG sz l)=Na sz l::chunks sz n (Cj sz l);rw[abz n];simp
@[simp] theorem Oo {T:Tab} {ps:List PV} {ev:Operand->PV} (h:∀ x,ev x=oD T ps x):∀ l,RN ev l=evA T ps l
 | []=>rfl
 | x::l=>by show ev x::RN ev l=_;rw[Oo h l,h x];rfl
theorem Yt:∀ (cs row:List PV) (j:Nat),cs.length<=row.length->(afw cs row)[j]?=if j<cs.length then cs[j]? else row[j]?
 | [],row,j,_=>by rw[if_neg aB];rfl
 | x::cs,[],j,h=>by simp at h
 | x::cs,y::row,0,h=>by rw[if_pos aB];rfl
 | x::cs,y::row,j+1,h=>by
  show (x::afw cs row)[j+1]?=_;simp only[List.getElem?_cons_succ,List.length_cons];rw[Yt cs row j bY]
  by_cases hj:j<cs.length
  rw[if_pos hj,if_pos ah]
  rw[if_neg hj,if_neg ah]
theorem Yu:∀ (c:Nat) (cs row:List PV) (j:Nat),c+cs.length<=row.length->(ab2 c cs row)[j]?=if c<=j/\j<c+cs.length then cs[j-c]? else row[j]?
 | 0,cs,row,j,h=>by
  show (afw cs row)[j]?=_;rw[Yt cs row j ah]
  by_cases hj:j<cs.length
  rw[if_pos hj,if_pos ah];rfl
  rw[if_neg hj,if_neg ah]
 | c+1,cs,[],j,h=>by simp at h
 | c+1,cs,x::row,0,h=>by rw[if_neg ah];rfl
 | c+1,cs,x::row,j+1,h=>by
  show (x::ab2 c cs row)[j+1]?=_;simp only[List.getElem?_cons_succ];rw[Yu c cs row j (by simp at h;omega)]
  by_cases hj:c<=j/\j<c+cs.length
  rw[if_pos hj,if_pos ah];congr 1;omega
  rw[if_neg hj,if_neg ah]
theorem abA {c:Nat}{cs row:List PV}(h:c+cs.length<=row.length):ab2 c cs row=jZ row c cs:=by
 apply List.ext_getElem?;intro j;rw[Yu _ _ _ _ h,H6 _ _ _ _ h]
theorem iU {b:Bool}{x:Rs}{r:PV×Dl}(h:uj b x=some r):b=true/\x=some r:=by
 cases b with
 | false=>cases h
 | true=>exact⟨rfl,h⟩
theorem oI {t:TI}{K:Bool->Nat->Option (List PV)->Option (List Nat)->TK->Rs}{r:PV×Dl}(h:okK t K=some r):∃ agg size zero plain kind,t=⟨true,agg,size,zero,plain,kind⟩/\K agg size zero plain kind=some r:=by
 obtain⟨ok,agg,size,zero,plain,kind⟩:=t
 cases ok with
 | false=>cases h
 | true=>exact⟨agg,size,zero,plain,kind,rfl,h⟩
theorem Yv {t:TK}{K:List FI->Rs}{r:PV×Dl}(h:ahj t K=some r):∃ U,t=.struct U/\K U=some r:=by
 cases t<;>first|(cases h;done)|exact⟨_,rfl,h⟩
theorem xu {t:TK}{K:Nat->Nat->Option (List PV)->Rs}{r:PV×Dl}(h:O6 t K=some r):∃ sz bytes zero,t=.slice sz bytes zero/\K sz bytes zero=some r:=by
 cases t<;>first|(cases h;done)|exact⟨_,_,_,rfl,h⟩
theorem aea {t:TK}{K:IntKind->Rs}{r:PV×Dl}(h:ajr t K=some r):∃ k,t=.int k/\K k=some r:=by
 cases t<;>first|(cases h;done)|exact⟨_,rfl,h⟩
theorem aeb {t:TK}{K:Rs}{r:PV×Dl}(h:ajs t K=some r):t=.str/\K=some r:=by
 cases t<;>first|(cases h;done)|exact⟨rfl,h⟩
theorem abB {t:TK}{R:Nat->Nat->Option (List PV)->Rs}{U:Nat->Nat->Bool->Rs}{T:Rs}{r:PV×Dl}(h:ixT t R U T=some r) :
  (∃ sz bytes zero,t=.slice sz bytes zero/\R sz bytes zero=some r)\/(∃ n sz agg,t=.arr n sz agg/\U n sz agg=some r)\/(t=.str/\T=some r):=by
 cases t<;>first|(cases h;done)|exact .inl ⟨_,_,_,rfl,h⟩|exact .inr (.inl ⟨_,_,_,rfl,h⟩)|exact .inr (.inr ⟨rfl,h⟩)
theorem TP {x:Option jq}{K:Bool->List PV->Rs}{r:PV×Dl}(h:aft x K=some r):∃ ro row,x=some (.var ro row)/\K ro row=some r:=by
 cases x with
 | none=>cases h
 | some x=>cases x<;>first|(cases h;done)|exact⟨_,_,rfl,h⟩
theorem Eu {x:Option jq}{K:Bool->Nat->List (List PV)->Rs}{r:PV×Dl}(h:VQ x K=some r):∃ ro sz rows,x=some (.arr ro sz rows)/\K ro sz rows=some r:=by
 cases x with
 | none=>cases h
 | some x=>cases x<;>first|(cases h;done)|exact⟨_,_,_,rfl,h⟩
theorem G9 {x:Option (List PV)}{K:List PV->Rs}{r:PV×Dl}(h:Zq x K=some r):∃ z,x=some z/\K z=some r:=by
 cases x with
 | none=>cases h
 | some z=>exact⟨z,rfl,h⟩
theorem Oq:∀ {l:List FI} {n:Nat} {K:Nat->Nat->Bool->Rs} {r:PV×Dl},afu l n K=some r->∃ fd,CJ l n=some fd/\K fd.off fd.size fd.agg=some r
 | [],n,K,r,h=>by cases h
 | f::l,0,K,r,h=>⟨f,rfl,h⟩
 | f::l,n+1,K,r,h=>Oq (l:=l) h
theorem Ot:∀ {l:List (List PV)} {n:Nat} {K:List PV->Rs} {r:PV×Dl},afv l n K=some r->∃ row,l[n]?=some row/\K row=some r
 | [],n,K,r,h=>by cases h
 | f::l,0,K,r,h=>⟨f,rfl,h⟩
 | f::l,n+1,K,r,h=>by
  obtain⟨row,h1,h2⟩:=Ot (l:=l) h;exact⟨row,by simpa using h1,h2⟩
theorem Ew {n:Int}{K:Nat->Rs}{r:PV×Dl}(h:RF n K=some r):∃ m:Nat,n=(m:Int)/\K m=some r:=by
 cases n with
 | ofNat m=>exact⟨m,rfl,h⟩
 | negSucc m=>cases h
theorem ru {v:PV}{K:IntKind->Int->Rs}{r:PV×Dl}(h:Jj v K=some r):∃ k n,v=.int k n/\K k n=some r:=by
 cases v<;>first|(cases h;done)|exact⟨_,_,rfl,h⟩
theorem aec {v:PV}{K:IntKind->Int->Rs}{D:Rs}{r:PV×Dl}(h:ajo v K D=some r):(∃ k n,v=.int k n/\K k n=some r)\/((∀ k n,v≠.int k n)/\D=some r):=by
 cases v<;>first|exact .inl ⟨_,_,rfl,h⟩|exact .inr ⟨λ_ _ e=>by (cases e),h⟩
theorem Yw {v:PV}{X Y:Rs}{r:PV×Dl}(h:afr v X Y=some r):(v=.bool true/\X=some r)\/(v=.bool false/\Y=some r):=by
 cases v with
 | bool b=>cases b with
  | true=>exact .inl ⟨rfl,h⟩
  | false=>exact .inr ⟨rfl,h⟩
 | _=>cases h
theorem Yx {v:PV}{X Y:Oc}{r:Nat×EV}(h:afs v X Y=some r):(v=.bool true/\X=some r)\/(v=.bool false/\Y=some r):=by
 cases v with
 | bool b=>cases b with
  | true=>exact .inl ⟨rfl,h⟩
  | false=>exact .inr ⟨rfl,h⟩
 | _=>cases h
theorem J9 {v:PV}{R:Nat->Nat->Rs}{T:Nat->Nat->Nat->Rs}{U:List PV->Rs}{r:PV×Dl}(h:XH v R T U=some r) :
  (∃ b c,v=.lv b c/\R b c=some r)\/(∃ b i c,v=.lp b i c/\T b i c=some r)\/(∃ cs,v=.pp cs/\U cs=some r):=by
 cases v<;>first|(cases h;done)|exact .inl ⟨_,_,rfl,h⟩|exact .inr (.inl ⟨_,_,_,rfl,h⟩)|exact .inr (.inr ⟨_,rfl,h⟩)
theorem zJ {v:PV}{J:Nat->List (List PV)->Bool->Rs}{R:Nat->Nat->Nat->Rs}{T:ByteArray->Rs}{r:PV×Dl}(h:QK v J R T=some r) :
  (∃ sz U full,v=.sl sz U full/\J sz U full=some r)\/(∃ b i n,v=.os b i n/\R b i n=some r)\/(∃ s,v=.str s/\T s=some r):=by
 cases v<;>first|(cases h;done)|exact .inl ⟨_,_,_,rfl,h⟩|exact .inr (.inl ⟨_,_,_,rfl,h⟩)|exact .inr (.inr ⟨_,rfl,h⟩)
theorem Yy {v:PV}{K:List PV->Rs}{r:PV×Dl}(h:ahi v K=some r):∃ cs,v=.agg cs/\K cs=some r:=by
 cases v<;>first|(cases h;done)|exact⟨_,rfl,h⟩
theorem aed {v:PV}{K:List PV->Rs}{r:PV×Dl}(h:ajq v K=some r):∃ cs,v=.FH cs/\K cs=some r:=by
 cases v<;>first|(cases h;done)|exact⟨_,rfl,h⟩
theorem Ou {v:PV}{K:List PV->Rs}{r:PV×Dl}(h:ab1 v K=some r):v≠.top/\K (jM v)=some r:=by
 cases v<;>first|(cases h;done)|exact⟨by simp,h⟩
theorem Ri {v:PV}{K:Nat->List PV->Option (PV×Sb×Nat)}{r:PV×Sb×Nat}(h:fnE v K=some r):∃ k U,v=.fn k U/\K k U=some r:=by
 cases v<;>first|(cases h;done)|exact⟨_,_,rfl,h⟩
theorem Ov:∀ {l:List PV} {n:Nat} {v:PV} {δ:Dl},ahp l n=some (v,δ)->δ=[]/\n<l.length/\v=iZ l n
 | [],n,v,δ,h=>by cases h
 | x::l,0,v,δ,h=>by
  have h:some (x,([]:Dl))=some (v,δ):=h;cases h;exact⟨rfl,by simp,rfl⟩
 | x::l,n+1,v,δ,h=>by
  obtain⟨h1,h2,U⟩:=Ov (l:=l) h;exact⟨h1,by simpa using h2,U⟩
theorem PY {f:PV->Bool}:∀ {l:List PV},allB f l=true->∀ x∈l,f x=true
 | [],_,x,hx=>by cases hx
 | y::l,h,x,hx=>by
  have h:Bool.rec (motive:=λ_=>Bool) false (allB f l) (f y)=true:=h
  cases hy:f y with
  | false=>rw[hy] at h;cases h
  | true =>
   rw[hy] at h;rcases List.mem_cons.1 hx with rfl|hx
   exact hy
   exact PY h x hx
theorem aee (v:PV):RD v=sZ v:=by cases v<;>rfl
theorem IQ:∀ {l:List PV},allB RD l=true->iE l=true
 | [],_=>rfl
 | y::l,h=>by
  have h1:=PY h y aB;have h:Bool.rec (motive:=λ_=>Bool) false (allB RD l) (RD y)=true:=h;rw[h1] at h;simp only[iE,Bool.and_eq_true];exact⟨by rw[<- aee];exact h1,IQ h⟩
theorem Yz {size:Nat}{row:List PV}{c:Nat}{cs:List PV}{K:List PV->Rs}{r:PV×Dl}(h:ahq size row c cs K=some r):cs.length=size/\c+cs.length<=row.length/\K (jZ row c cs)=some r:=by
 obtain⟨h1,h⟩:=iU h;obtain⟨h2,h⟩:=iU h;have h1:=Nat.eq_of_beq_eq_true h1;have h2:=Nat.le_of_ble_eq_true h2;simp only[Bo] at h1 h2;have h2:c+cs.length<=row.length:=by rw[h1];exact h2
 rw[abA h2] at h;exact⟨h1,h2,h⟩
theorem Ha {agg:Bool}{size:Nat}{row:List PV}{c:Nat}{v:PV}{δ:Dl}(h:RI agg size row c=some (v,δ)):δ=[]/\∀ K:PV->Prop,K v->loadRow agg size row c K:=by
 cases agg with
 | false =>
  obtain⟨h1,h2,U⟩:=Ov h;refine⟨h1,λK hk=>?_⟩;unfold loadRow;simp only[cond_false,kX,EI,Nat.blt_eq];exact⟨h2,by rw[<- U];exact hk⟩
 | true =>
  obtain⟨h1,h2⟩:=iU h;simp only[TL,J8,Option.some.injEq,Prod.mk.injEq] at h2;obtain⟨rfl,rfl⟩:=h2;refine⟨rfl,λK hk=>?_⟩;unfold loadRow;simp only[cond_true,EI,kX,Gg,su];exact⟨by simpa using h1,hk⟩
end Go.Pv
namespace Go.Pv
open Go
def Sim (v' v:PV):Prop:=∀ w Y σ u,Rep w Y σ v' u->Rep w Y σ v u
theorem Sim.refl (v:PV):Sim v v:=λ_ _ _ _ h=>h
theorem Sim.si (k:IntKind)(n:Int):Sim (.si k n) (.int k n):=λw Y σ u h=>by unfold Rep at h |-;exact h
theorem Sim.sb (b:Bool):Sim (.sb b) (.bool b):=λw Y σ u h=>by unfold Rep at h |-;exact h
def KS (v:PV)(δ:Dl):PV->Dl->Prop:=λv' δ'=>Sim v' v/\δ'=δ
theorem KS.refl (v:PV)(δ:Dl):KS v δ v δ:=⟨Sim.refl v,rfl⟩
theorem TQ {a b:IntKind}(h:kEq a b=true):a=b:=by
 have h:=Nat.eq_of_beq_eq_true h;cases a<;>cases b<;>first|rfl|(cases h)
theorem jX (k:IntKind):qm k k=true:=by cases k<;>rfl
theorem PZ:∀ a b:Int,eqI a b=decide (a=b)
 | .ofNat a,.ofNat b=>by
  show Nat.beq a b=_
  by_cases h:a=b
  subst h;simp
  rw[show Nat.beq a b=false from dn];symm;rw[decide_eq_false_iff_not];intro e;first|exact h (Int.ofNat.inj e)|exact h (Int.negSucc.inj e)
 | .negSucc a,.negSucc b=>by
  show Nat.beq a b=_
  by_cases h:a=b
  subst h;simp
  rw[show Nat.beq a b=false from dn];symm;rw[decide_eq_false_iff_not];intro e;first|exact h (Int.ofNat.inj e)|exact h (Int.negSucc.inj e)
 | .ofNat _,.negSucc _=>by show false=_;simp
 | .negSucc _,.ofNat _=>by show false=_;simp
theorem Ko:∀ a b:Int,ltI a b=decide (a<b)
 | .ofNat a,.ofNat b=>by
  show Nat.ble (Nat.succ a) b=_;rw[Bool.eq_iff_iff,Nat.ble_eq,decide_eq_true_iff];exact⟨λh=>Int.ofNat_lt.2 h,λh=>Int.ofNat_lt.1 h⟩
 | .negSucc a,.negSucc b=>by
  show Nat.ble (Nat.succ b) a=_;rw[Bool.eq_iff_iff,Nat.ble_eq,decide_eq_true_iff];omega
 | .ofNat a,.negSucc b=>by
  show false=_
  symm;rw[decide_eq_false_iff_not]
  have:(Int.ofNat a)=(a:Int):=rfl;omega
 | .negSucc a,.ofNat b=>by
  show true=_
  symm;rw[decide_eq_true_iff]
  have:(Int.ofNat b)=(b:Int):=rfl;omega
theorem WO (b:Bool):CP b=!b:=by cases b<;>rfl
theorem abC (m n:Nat):ab4 m n=(m:Int)-(n:Int):=by
 unfold ab4;show Nat.rec (motive:=λ_=>Int) (Int.ofNat (m-n)) (λk _=>Int.negSucc k) (n-m)=_;rcases Nat.lt_or_ge m n with h|h
 obtain⟨k,hk⟩:∃ k,n-m=k+1:=⟨n-m-1,by omega⟩;rw[hk];show Int.negSucc k=_;omega
 rw[show n-m=0 by omega];show Int.ofNat (m-n)=_;have:(Int.ofNat (m-n))=((m-n:Nat):Int):=rfl;omega
theorem abD:∀ a b:Int,adf a b=a+b
 | .ofNat a,.ofNat b=>rfl
 | .ofNat a,.negSucc b=>by
  show ab4 a (b+1)=_;rw[abC];have:(Int.ofNat a)=(a:Int):=rfl;omega
 | .negSucc a,.ofNat b=>by
  show ab4 b (a+1)=_;rw[abC];have:(Int.ofNat b)=(b:Int):=rfl;omega
 | .negSucc a,.negSucc b=>rfl
theorem abE:∀ a:Int,afx a=-a
 | .ofNat 0=>rfl
 | .ofNat (n+1)=>rfl
 | .negSucc n=>rfl
theorem YA (k:IntKind)(n:Int):k.wrap n=if (k.signed&&decide (n % 2 ^ k.bits ≥ 2 ^ (k.bits-1)))=true then n % 2 ^ k.bits-2 ^ k.bits else n % 2 ^ k.bits:=rfl
theorem aef (k:IntKind)(m:Nat)(h:m+1<=half k):k.wrap (m:Int)=(m:Int):=by
 rw[YA];cases k
 case i8=>have h:m+1<=128:=h;show (if (true&&decide ((m:Int) % 2 ^ 8 ≥ 2 ^ (8-1)))=true then (m:Int) % 2 ^ 8-2 ^ 8 else (m:Int) % 2 ^ 8)=_;split<;>rename_i hh<;>simp at hh<;>omega
 case i16=>have h:m+1<=32768:=h;show (if (true&&decide ((m:Int) % 2 ^ 16 ≥ 2 ^ (16-1)))=true then (m:Int) % 2 ^ 16-2 ^ 16 else (m:Int) % 2 ^ 16)=_;split<;>rename_i hh<;>simp at hh<;>omega
 case i32=>have h:m+1<=2147483648:=h;show (if (true&&decide ((m:Int) % 2 ^ 32 ≥ 2 ^ (32-1)))=true then (m:Int) % 2 ^ 32-2 ^ 32 else (m:Int) % 2 ^ 32)=_;split<;>rename_i hh<;>simp at hh<;>omega
 case i64=>have h:m+1<=9223372036854775808:=h;show (if (true&&decide ((m:Int) % 2 ^ 64 ≥ 2 ^ (64-1)))=true then (m:Int) % 2 ^ 64-2 ^ 64 else (m:Int) % 2 ^ 64)=_;split<;>rename_i hh<;>simp at hh<;>omega
 case u8=>have h:m+1<=256:=h;show (if (false&&decide ((m:Int) % 2 ^ 8 ≥ 2 ^ (8-1)))=true then (m:Int) % 2 ^ 8-2 ^ 8 else (m:Int) % 2 ^ 8)=_;split<;>rename_i hh<;>simp at hh<;>omega
 case u16=>have h:m+1<=65536:=h;show (if (false&&decide ((m:Int) % 2 ^ 16 ≥ 2 ^ (16-1)))=true then (m:Int) % 2 ^ 16-2 ^ 16 else (m:Int) % 2 ^ 16)=_;split<;>rename_i hh<;>simp at hh<;>omega
 case u32=>have h:m+1<=4294967296:=h;show (if (false&&decide ((m:Int) % 2 ^ 32 ≥ 2 ^ (32-1)))=true then (m:Int) % 2 ^ 32-2 ^ 32 else (m:Int) % 2 ^ 32)=_;split<;>rename_i hh<;>simp at hh<;>omega
 case u64=>have h:m+1<=18446744073709551616:=h;show (if (false&&decide ((m:Int) % 2 ^ 64 ≥ 2 ^ (64-1)))=true then (m:Int) % 2 ^ 64-2 ^ 64 else (m:Int) % 2 ^ 64)=_;split<;>rename_i hh<;>simp at hh<;>omega
theorem aeg (k:IntKind)(m:Nat)(h:m+1<=aaQ k):k.wrap (Int.negSucc m)=Int.negSucc m:=by
 rw[YA];cases k
 case i8=>have h:m+1<=128:=h;show (if (true&&decide ((Int.negSucc m) % 2 ^ 8 ≥ 2 ^ (8-1)))=true then (Int.negSucc m) % 2 ^ 8-2 ^ 8 else (Int.negSucc m) % 2 ^ 8)=_;split<;>rename_i hh<;>simp at hh<;>omega
 case i16=>have h:m+1<=32768:=h;show (if (true&&decide ((Int.negSucc m) % 2 ^ 16 ≥ 2 ^ (16-1)))=true then (Int.negSucc m) % 2 ^ 16-2 ^ 16 else (Int.negSucc m) % 2 ^ 16)=_;split<;>rename_i hh<;>simp at hh<;>omega
 case i32=>have h:m+1<=2147483648:=h;show (if (true&&decide ((Int.negSucc m) % 2 ^ 32 ≥ 2 ^ (32-1)))=true then (Int.negSucc m) % 2 ^ 32-2 ^ 32 else (Int.negSucc m) % 2 ^ 32)=_;split<;>rename_i hh<;>simp at hh<;>omega
 case i64=>have h:m+1<=9223372036854775808:=h;show (if (true&&decide ((Int.negSucc m) % 2 ^ 64 ≥ 2 ^ (64-1)))=true then (Int.negSucc m) % 2 ^ 64-2 ^ 64 else (Int.negSucc m) % 2 ^ 64)=_;split<;>rename_i hh<;>simp at hh<;>omega
 case u8=>have h:m+1<=0:=h;omega
 case u16=>have h:m+1<=0:=h;omega
 case u32=>have h:m+1<=0:=h;omega
 case u64=>have h:m+1<=0:=h;omega
theorem Kq (k:IntKind)(n:Int):Nl k n=k.wrap n:=by
 cases n with
 | ofNat m =>
  show Bool.rec (motive:=λ_=>Int) (k.wrap (Int.ofNat m)) (Int.ofNat m) (Nat.ble (Nat.succ m) (half k))=_
  cases h:Nat.ble (Nat.succ m) (half k) with
  | false=>rfl
  | true=>exact (aef k m (Nat.le_of_ble_eq_true h)).symm
 | negSucc m =>
  show Bool.rec (motive:=λ_=>Int) (k.wrap (Int.negSucc m)) (Int.negSucc m) (Nat.ble (Nat.succ m) (aaQ k))=_
  cases h:Nat.ble (Nat.succ m) (aaQ k) with
  | false=>rfl
  | true=>exact (aeg k m (Nat.le_of_ble_eq_true h)).symm
theorem ah5 (n:Int)(K:Int->Rs):fzI n K=K n:=by
 cases n with
 | ofNat m=>cases m<;>rfl
 | negSucc m=>rfl
theorem qh {k:IntKind}{n:Int}{v:PV}{δ:Dl}(h:okI k n=some (v,δ)):v=.int k n/\δ=[]:=by
 unfold okI at h;rw[ah5] at h;cases h;exact⟨rfl,rfl⟩
theorem aeh:∀ a b:List UInt8,eqB a b=decide (a=b)
 | [],[]=>by simp[eqB]
 | [],_::_=>by simp[eqB]
 | _::_,[]=>by simp[eqB]
 | a::l,b::m=>by
  unfold eqB
  by_cases h:a=b
  subst h;simp[aeh l m]
  have:Nat.beq a.toNat b.toNat=false:=by
   cases hb:Nat.beq a.toNat b.toNat with
   | false=>rfl
   | true=>exact absurd (UInt8.toNat_inj.1 (Nat.eq_of_beq_eq_true hb)) h
  rw[this];simp[h]
theorem WQ (a b:ByteArray):eqS a b=decide (a=b):=by
 unfold eqS;rw[aeh]
 by_cases h:a=b
 subst h;simp
 rw[decide_eq_false h,decide_eq_false];intro e;apply h;cases a;cases b;exact congrArg ByteArray.mk (Array.ext' e)
end Go.Pv
namespace Go.Pv
open Go
theorem Ox {P:Program}{T:Tab}{cs:List PV}{K:List PV->Prop}(h:K cs):wkC (iK.jd P T) cs K:=by
 unfold wkC
 split
 exact⟨cs,rfl,λh=>h,λ_ _ _ _ h=>h,h⟩
 exact h
theorem abG {P:Program}{T:Tab}{lk:Nat->Option jq}:∀ cs:List PV,afy lk cs=FM (iK.jd P T) lk cs
 | []=>rfl
 | v::vs=>by
  unfold afy FM;rw[abG (P:=P) (T:=T) vs]
  cases FM (iK.jd P T) lk vs with
  | none=>rfl
  | some p =>
   obtain⟨U,δ⟩:=p;cases v<;>simp only[DL,DK]<;>rfl
theorem YB {P:Program}{T:Tab}{lk:Nat->Option jq}:∀ cs:List PV,(∀ x∈cs,adb x=true)->FM (iK.jd P T) lk cs=some (cs,[])
 | [],_=>rfl
 | v::vs,h=>by
  unfold FM;rw[YB vs λx hx=>h x (by simp[hx])];have hv:=h v aB;cases v<;>first|rfl|(cases hv;done)|skip
  rename_i f U
  cases U with
  | nil=>rfl
  | cons _ _=>cases hv
theorem YC (P:Program)(T:Tab){lk:Nat->Option jq}{cs:List PV}{K:List PV->Dl->Rs}{r:PV×Dl}(h:afz lk cs K=some r):∃ U δ,FM (iK.jd P T) lk cs=some (U,δ)/\K U δ=some r:=by
 unfold afz at h
 cases hp:allB adb cs with
 | true =>
  rw[hp] at h;exact⟨cs,[],YB cs (PY hp),h⟩
 | false =>
  rw[hp,abG (P:=P) (T:=T)] at h
  cases hq:FM (iK.jd P T) lk cs with
  | none=>rw[hq] at h;cases h
  | some p=>rw[hq] at h;exact⟨p.1,p.2,rfl,h⟩
theorem acu {P:Program}{T:Tab}{lk:Nat->Option jq}{cs U : List PV}{δ:Dl}(h:FM (iK.jd P T) lk cs=some (U,δ)):iE U=true:=(Nz _ _ _ h).1
theorem abH (b:Nat):∀ δ:Dl,ahr b δ=Ut b δ
 | []=>rfl
 | (c,x)::δ=>by
  show Bool.rec (motive:=λ_=>Bool) (ahr b δ) true (Nat.beq c b)=(Nat.beq c b || Ut b δ);rw[abH b δ];cases Nat.beq c b<;>rfl
theorem zK {b:Bool}(h:CP b=true):b=false:=by cases b with|false=>rfl|true=>cases h
section
variable {P:Program}{T:Tab}{ps:List PV}{ev:Operand->PV}{lk:Nat->Option jq}{id:Nat}{v:PV}{δ:Dl}(hev:∀ x,ev x=oD T ps x)
include hev
theorem ah6 {c a b:Operand}(h:afr (ev c) (some (ev a,[])) (some (ev b,[]))=some (v,δ)):jU T (iK.jd P T) (.pick c a b) ps lk id (KS v δ):=by
 simp only[jU];rw[hev c] at h;rcases Yw h with ⟨e,h⟩|⟨e,h⟩<;>cases h<;>simp only[e]<;>rw[hev]<;>exact KS.refl _ _
omit hev in
theorem agj {t:TypeId}(h:aaS (T.ti t) id=some (v,δ)):jU T (iK.jd P T) (.alloc t) ps lk id (KS v δ):=by
 obtain⟨agg,size,zero,plain,kind,et,h⟩:=oI h;obtain⟨z,U,h⟩:=G9 h;simp only[jU,et,U];cases h;exact KS.refl _ _
theorem akg {t:TypeId}{x:Operand}(h:agX (ev x) id=some (v,δ)):jU T (iK.jd P T) (.box t x) ps lk id (KS v δ):=by
 obtain⟨h1,h⟩:=Ou h;cases h;simp only[jU];rw[hev] at h1 |-
 split
 exact h1 dR
 exact KS.refl _ _
theorem YD {t:TypeId}{x:Operand}{f:Nat}(h:Qi (T.ti t) (ev x) f=some (v,δ)):jU T (iK.jd P T) (.fieldAddr t x f) ps lk id (KS v δ):=by
 obtain⟨agg,size,zero,plain,kind,et,h⟩:=oI h;obtain⟨J,U,h⟩:=Yv h;obtain⟨fd,R,h⟩:=Oq h;obtain⟨hp,h⟩:=iU h;simp only[jU,et,U,R,hp,cond_true];rw[hev] at h;rcases J9 h with ⟨b,c,e,h⟩|⟨b,r,c,e,h⟩|⟨cs,e,h⟩
 simp only[e];cases h;exact KS.refl _ _
 simp only[e];cases h;exact KS.refl _ _
 obtain⟨hl,h⟩:=iU h;simp only[Bo] at hl;simp only[e,kX,hl,cond_true];cases h;simp only[J8,su];exact KS.refl _ _
theorem agk {t:TypeId}{x:Operand}{f:Nat}(h:aaT (T.ti t) (ev x) f=some (v,δ)):jU T (iK.jd P T) (.field t x f) ps lk id (KS v δ):=by
 obtain⟨agg,size,zero,plain,kind,et,h⟩:=oI h;obtain⟨J,U,h⟩:=Yv h;obtain⟨fd,R,h⟩:=Oq h;obtain⟨hp,h⟩:=iU h;rw[hev] at h;obtain⟨cs,e,h⟩:=Yy h;simp only[jU,et,U,R,e,hp,cond_true];obtain⟨rfl,hh⟩:=Ha h;exact hh _ (KS.refl _ _)
theorem ah7 {t:TypeId}{x:Operand}(h:RJ (T.ti t) (ev x) lk=some (v,δ)):jU T (iK.jd P T) (.load t x) ps lk id (KS v δ):=by
 obtain⟨agg,size,zero,plain,kind,et,h⟩:=oI h;simp only[jU,et];rw[hev] at h;rcases J9 h with ⟨b,c,e,h⟩|⟨b,r,c,e,h⟩|⟨cs,e,h⟩
 obtain⟨ro,row,U,h⟩:=TP h;obtain⟨rfl,hh⟩:=Ha h;simp only[e,U];exact hh _ (KS.refl _ _)
 obtain⟨ro,sz,rows,U,h⟩:=Eu h;obtain⟨row,er,h⟩:=Ot h;obtain⟨rfl,hh⟩:=Ha h;simp only[e,U];exact⟨row,er,hh _ (KS.refl _ _)⟩
 obtain⟨rfl,hh⟩:=Ha h;simp only[e];exact hh _ (KS.refl _ _)
omit hev in
theorem QA {size:Nat}{row:List PV}{c:Nat}{u:PV}{K:List PV->Prop}(h1:iE (jM u)=true)(h2:(jM u).length=size)(U:c+(jM u).length<=row.length)(hk:K (jZ row c (jM u))):lL size row c u K:=by
 unfold lL;rw[EI];refine⟨?_,hk⟩;simp only[Bool.and_eq_true,kX];exact⟨⟨h1,by rw[h2];exact Nat.beq_refl _⟩,by simpa using U⟩
theorem agl {t:TypeId}{x y:Operand}(h:aaU (T.ti t) (ev x) (ev y) lk=some (v,δ)):jU T (iK.jd P T) (.store t x y) ps lk id (KS v δ):=by
 obtain⟨agg,size,zero,plain,kind,et,h⟩:=oI h;simp only[jU,et];rw[hev,hev] at h;rcases J9 h with ⟨b,c,e,h⟩|⟨b,r,c,e,h⟩|⟨cs,e,h⟩
 obtain⟨ro,row,J,h⟩:=TP h;obtain⟨hr,h⟩:=iU h;have hr:=zK hr;subst hr;obtain⟨_,h⟩:=Ou h;obtain⟨I,h⟩:=iU h;obtain⟨h1,h2,h⟩:=Yz h;simp only[e,J];cases h;exact QA (IQ I) h1 h2 (KS.refl _ _)
 obtain⟨ro,sz,rows,J,h⟩:=Eu h;obtain⟨hr,h⟩:=iU h;have hr:=zK hr;subst hr;obtain⟨_,h⟩:=Ou h;obtain⟨R,C,hp,h⟩:=YC P T h;obtain⟨U,h⟩:=iU h;have U:=zK U;obtain⟨row,er,h⟩:=Ot h;obtain⟨h1,h2,h⟩:=Yz h;simp only[e,J,hp];rw[abH] at U;rw[U];cases h;refine Ox ⟨row,er,QA (u:=.agg R) (acu hp) h1 h2 ?_⟩;simp only[WM,Yr];exact KS.refl _ _
 cases h
theorem aac {x:Operand}(h:ajp (ev x)=some (v,δ)):jU T (iK.jd P T) (.nilCheck x) ps lk id (KS v δ):=by
 simp only[jU];rw[hev] at h;revert h;cases oD T ps x<;>intro h<;>first|(cases h;done)|(cases h;exact KS.refl _ _)
theorem akh {t:TypeId}{x:Operand}(h:agY (ev x)=some (v,δ)):jU T (iK.jd P T) (.unOp .not t x) ps lk id (KS v δ):=by
 simp only[jU];rw[hev] at h;rcases Yw h with ⟨e,h⟩|⟨e,h⟩<;>cases h<;>simp only[e]<;>exact KS.refl _ _
theorem aki {t:TypeId}{x:Operand}(h:agZ (ev x)=some (v,δ)):jU T (iK.jd P T) (.unOp .neg t x) ps lk id (KS v δ):=by
 simp only[jU];rw[hev] at h;obtain⟨k,n,e,h⟩:=ru h;obtain⟨rfl,rfl⟩:=qh h;simp only[e,Kq,abE];rw[show (0:Int)-n=-n by omega];exact KS.refl _ _
theorem acv {s d:TypeId}{x:Operand}(h:UU (T.ti s) (T.ti d) (ev x)=some (v,δ)):jU T (iK.jd P T) (.convert s d x) ps lk id (KS v δ):=by
 obtain⟨agg,size,zero,plain,kind,es,h⟩:=oI h;obtain⟨C,I,J,U,R,ed,h⟩:=oI h;obtain⟨k,g,h⟩:=aea h;rw[hev] at h;obtain⟨k',n,e,h⟩:=ru h;obtain⟨rfl,rfl⟩:=qh h;subst g;simp only[jU,es,ed,e,Kq];cases kind<;>exact KS.refl _ _
theorem YE {t:TypeId}{x i:Operand}(h:Qj (T.ti t) (ev x) (ev i) lk=some (v,δ)):jU T (iK.jd P T) (.indexAddr t x i) ps lk id (KS v δ):=by
 obtain⟨agg,size,zero,plain,kind,et,h⟩:=oI h;rw[hev,hev] at h;obtain⟨k,n,I,h⟩:=ru h;obtain⟨j,rfl,h⟩:=Ew h;rcases abB h with ⟨R,bytes,z,U,h⟩|⟨len,R,ag,U,h⟩|⟨U,h⟩
 obtain⟨hp,h⟩:=iU h;rcases zJ h with ⟨sz,g,full,e,h⟩|⟨b,r,len,e,h⟩|⟨s,e,h⟩
 obtain⟨hb,h⟩:=iU h;obtain⟨row,er,h⟩:=Ot h;cases h;simp only[jU,et,U,e,I,ui,hp,hb,Bool.and_self,cond_true];exact⟨j,row,rfl,er,KS.refl _ _⟩
 obtain⟨ro,sz,rows,C,h⟩:=Eu h;obtain⟨hb,h⟩:=iU h;obtain⟨hl,h⟩:=iU h;cases h;simp only[jU,et,U,e,I,ui,C,hp,hb,Bool.and_self,cond_true];exact⟨j,rfl,Nat.le_of_ble_eq_true hl,KS.refl _ _⟩
 cases h
 obtain⟨hp,h⟩:=iU h;obtain⟨hl,h⟩:=iU h;have J : Nat.blt j len=true:=hl;simp only[jU,et,U,hp,cond_true,I];show (bif Nat.blt j len then _ else False);simp only[J,cond_true];rcases J9 h with ⟨b,c,e,h⟩|⟨b,r,c,e,h⟩|⟨cs,e,h⟩
 simp only[e];cases h;exact KS.refl _ _
 simp only[e];cases h;exact KS.refl _ _
 obtain⟨hl,h⟩:=iU h;simp only[Bo] at hl;simp only[e,kX];rw[show Nat.ble (j*R) cs.length=true from hl];cases h;simp only[J8,su];exact KS.refl _ _
 cases h
omit hev in
theorem YF:∀ {l:List UInt8} {n:Nat},aju l n=some (v,δ)->∃ c,l[n]?=some c/\v=.int .u8 (c.toNat:Int)/\δ=[]
 | [],n,h=>by cases h
 | x::l,0,h=>by
  obtain⟨h1,h2⟩:=qh (k:=.u8) (n:=Int.ofNat x.toNat) h;exact⟨x,rfl,h1,h2⟩
 | x::l,n+1,h=>by
  obtain⟨c,h1,h2⟩:=YF (l:=l) h;exact⟨c,by simpa using h1,h2⟩
theorem agm {t:TypeId}{x i:Operand}(h:aaV (T.ti t) (ev x) (ev i)=some (v,δ)):jU T (iK.jd P T) (.index t x i) ps lk id (KS v δ):=by
 obtain⟨agg,size,zero,plain,kind,et,h⟩:=oI h;rw[hev,hev] at h;obtain⟨k,n,J,h⟩:=ru h;obtain⟨j,rfl,h⟩:=Ew h;rcases abB h with ⟨R,bytes,z,U,h⟩|⟨len,R,I,U,h⟩|⟨U,h⟩
 cases h
 obtain⟨hp,h⟩:=iU h;obtain⟨hl,h⟩:=iU h;obtain⟨cs,e,h⟩:=Yy h;obtain⟨rfl,hh⟩:=Ha h;simp only[jU,et,U,e,J,ui,hp,cond_true];exact⟨j,rfl,Nat.le_of_ble_eq_true hl,hh _ (KS.refl _ _)⟩
 rcases zJ h with ⟨sz,C,full,e,h⟩|⟨b,r,len,e,h⟩|⟨s,e,h⟩
 cases h
 cases h
 obtain⟨c,h1,rfl,rfl⟩:=YF h;simp only[jU,et,U,e,J,ui];refine⟨j,c,rfl,?_,Sim.si _ _,rfl⟩;rw[<- h1,Array.getElem?_toList];rfl
theorem acw {x:Operand}{i:Nat}(h:UW (ev x) i=some (v,δ)):jU T (iK.jd P T) (.extract x i) ps lk id (KS v δ):=by
 simp only[jU];rw[hev] at h;obtain⟨vs,e,h⟩:=aed h;obtain⟨rfl,h1,rfl⟩:=Ov h;simp only[e,EI,kX,Nat.blt_eq];exact⟨h1,KS.refl _ _⟩
end
end Go.Pv
namespace Go.Pv
open Go
theorem akj {a b c:Nat}(h:a*b<=c):(a:Int)*(b:Int)<=(c:Int):=by
 rw[<- Int.natCast_mul];exact Int.ofNat_le.2 h
theorem KZ {x:PV}(h:og x=true):x=.Bv:=by cases x<;>first|rfl|(cases h)
theorem Ey {op:BinOp}{b:Bool}{v:PV}{δ:Dl}(h:VR op b=some (v,δ)):(op=.eql/\v=.bool b/\δ=[])\/(op=.neq/\v=.bool (!b)/\δ=[]):=by
 cases op<;>first|(cases h;done)|(cases h;exact .inl ⟨rfl,rfl,rfl⟩)|(cases h;exact .inr ⟨rfl,rfl,rfl⟩)
theorem aei:Jd .add=(qp λk a b=>okI k (Nl k (adf a b))):=rfl
theorem aej:Jd .sub=(qp λk a b=>okI k (Nl k (adf a (afx b)))):=rfl
theorem aek:Jd .mul=(qp λk a b=>okI k (Nl k (Int.mul a b))):=rfl
theorem ael:Jd .quo=(qp λk a b=>uj (CP (eqI b (Int.ofNat 0))) (okI k (k.wrap (a.tdiv b)))):=rfl
theorem aem:Jd .rem=(qp λk a b=>uj (CP (eqI b (Int.ofNat 0))) (okI k (a.tmod b))):=rfl
theorem aen:Jd .and=(qp λk a b=>okI k (jS .and k a b)):=rfl
theorem agn:Jd .or=(qp λk a b=>okI k (jS .or k a b)):=rfl
theorem aeo:Jd .xor=(qp λk a b=>okI k (jS .xor k a b)):=rfl
theorem aep:Jd .shl=(λk a _ b=>uj (CP (ltI b (Int.ofNat 0))) (okI k (k.wrap (a*2 ^ (min b.toNat k.bits))))):=rfl
theorem aeq:Jd .shr=(λk a _ b=>uj (CP (ltI b (Int.ofNat 0))) (okI k (a.fdiv (2 ^ (min b.toNat k.bits))))):=rfl
theorem YG:Jd .andNot=(qp λk a b=>okI k (jS .andNot k a b)):=rfl
theorem aer:Jd .eql=(qp λ_ a b=>okB (eqI a b)):=rfl
theorem aes:Jd .neq=(qp λ_ a b=>okB (CP (eqI a b))):=rfl
theorem aet:Jd .lss=(qp λ_ a b=>okB (ltI a b)):=rfl
theorem aeu:Jd .leq=(qp λ_ a b=>okB (CP (ltI b a))):=rfl
theorem aev:Jd .gtr=(qp λ_ a b=>okB (ltI b a)):=rfl
theorem aew:Jd .geq=(qp λ_ a b=>okB (CP (ltI a b))):=rfl
theorem oC {f:IntKind->Int->Int->Rs}{k U : IntKind}{a b:Int}{r:PV×Dl}(h:qp f k a U b=some r):U=k/\f k a b=some r:=by
 obtain⟨h1,h2⟩:=iU h;exact⟨(TQ h1).symm,h2⟩
theorem agp {P:Program}{T:Tab}{k:Nat}{x y:PV}{b:Bool}(h:ahm k x y=some b):eqC (iK.jd P T) k x y=some b:=by
 unfold ahm at h
 split at h
 rename_i k a U c
 cases hk:kEq k U with
 | false=>rw[hk] at h;cases h
 | true =>
  rw[hk] at h;have:=TQ hk;subst this;simp only[cond_true,Option.some.injEq] at h;simp only[eqC,ui,jX,cond_true];rw[<- h,PZ];rfl
 rename_i a c;cases h;simp only[eqC,Jf];cases a<;>cases c<;>rfl
 rename_i a c;cases h;simp only[eqC];rw[WQ];rfl
 cases h
theorem YH {P:Program}{T:Tab}:∀ {R:List Nat} {xs U:List PV} {b:Bool},aaR R xs U=some b->VK (iK.jd P T) R xs U=some b
 | [],[],[],b,h=>h
 | [],[],_::_,b,h=>by cases h
 | [],_::_,_,b,h=>by cases h
 | _::_,[],_,b,h=>by cases h
 | _::_,_::_,[],b,h=>by cases h
 | k::R,x::xs,y::U,b,h=>by
  unfold aaR at h
  split at h
  cases h
  rename_i a I
  split at h
  cases h
  rename_i c J;cases h;unfold VK;rw[agp I];simp only[YH J];cases a<;>rfl
section
variable {P:Program}{T:Tab}{ps:List PV}{ev:Operand->PV}{lk:Nat->Option jq}{id:Nat}{v:PV}{δ:Dl}(hev:∀ x,ev x=oD T ps x)
include hev
theorem agq {op:BinOp}{t u:TypeId}{x y:Operand}(hn:Nh y=false)(h:ahn (T.ti t) op (ev x) (ev y)=some (v,δ)):jU T (iK.jd P T) (.binOp op t x y u) ps lk id (KS v δ):=by
 obtain⟨agg,size,zero,plain,kind,et,h⟩:=oI h;rw[hev,hev] at h;simp only[jU,hn,et];generalize oD T ps x=X at h;generalize oD T ps y=Z at h;rcases aec h with ⟨k,a,rfl,hA⟩|⟨I,h⟩
 obtain⟨C,b,rfl,hB⟩:=ru hA;cases op
 case add=>rw[aei] at hB;obtain⟨rfl,h1⟩:=oC hB;obtain⟨rfl,rfl⟩:=qh h1;simp only[yE,isSpec,nN,jX,cond_true,cond_false,Kq,abD];exact KS.refl _ _
 case sub=>rw[aej] at hB;obtain⟨rfl,h1⟩:=oC hB;obtain⟨rfl,rfl⟩:=qh h1;simp only[yE,isSpec,nN,jX,cond_true,cond_false,Kq,abD,abE];exact KS.refl _ _
 case mul=>rw[aek] at hB;obtain⟨rfl,h1⟩:=oC hB;obtain⟨rfl,rfl⟩:=qh h1;simp only[yE,isSpec,nN,jX,cond_true,cond_false,Kq];exact KS.refl _ _
 case and=>rw[aen] at hB;obtain⟨rfl,h1⟩:=oC hB;obtain⟨rfl,rfl⟩:=qh h1;simp only[yE,isSpec,nN,jX,cond_true,cond_false];exact KS.refl _ _
 case or=>rw[agn] at hB;obtain⟨rfl,h1⟩:=oC hB;obtain⟨rfl,rfl⟩:=qh h1;simp only[yE,isSpec,nN,jX,cond_true,cond_false];exact KS.refl _ _
 case xor=>rw[aeo] at hB;obtain⟨rfl,h1⟩:=oC hB;obtain⟨rfl,rfl⟩:=qh h1;simp only[yE,isSpec,nN,jX,cond_true,cond_false];exact KS.refl _ _
 case andNot=>rw[YG] at hB;obtain⟨rfl,h1⟩:=oC hB;obtain⟨rfl,rfl⟩:=qh h1;simp only[yE,isSpec,nN,jX,cond_true,cond_false];exact KS.refl _ _
 case quo =>
  rw[ael] at hB;obtain⟨rfl,h1⟩:=oC hB;obtain⟨U,h2⟩:=iU h1;obtain⟨rfl,rfl⟩:=qh h2;have U:=zK U;rw[PZ,decide_eq_false_iff_not] at U;simp only[yE,isSpec,Nb,jX,cond_true];exact⟨U,Sim.si _ _,rfl⟩
 case rem =>
  rw[aem] at hB;obtain⟨rfl,h1⟩:=oC hB;obtain⟨U,h2⟩:=iU h1;obtain⟨rfl,rfl⟩:=qh h2;have U:=zK U;rw[PZ,decide_eq_false_iff_not] at U;simp only[yE,isSpec,Nb,jX,cond_true];exact⟨U,Sim.si _ _,rfl⟩
 case shl =>
  rw[aep] at hB;obtain⟨U,h2⟩:=iU hB;obtain⟨rfl,rfl⟩:=qh h2;have U:=zK U;rw[Ko,decide_eq_false_iff_not] at U;simp only[yE,isSpec,Nb,cond_true];exact⟨Int.not_lt.1 U,Sim.si _ _,rfl⟩
 case shr =>
  rw[aeq] at hB;obtain⟨U,h2⟩:=iU hB;obtain⟨rfl,rfl⟩:=qh h2;have U:=zK U;rw[Ko,decide_eq_false_iff_not] at U;simp only[yE,isSpec,Nb,cond_true];exact⟨Int.not_lt.1 U,Sim.si _ _,rfl⟩
 case eql=>rw[aer] at hB;obtain⟨rfl,h1⟩:=oC hB;cases h1;simp only[yE,isSpec,nN,wV,jX,cond_true,cond_false,PZ];exact KS.refl _ _
 case neq=>rw[aes] at hB;obtain⟨rfl,h1⟩:=oC hB;cases h1;simp only[yE,isSpec,nN,wV,jX,cond_true,cond_false,PZ,WO];exact KS.refl _ _
 case lss=>rw[aet] at hB;obtain⟨rfl,h1⟩:=oC hB;cases h1;simp only[yE,isSpec,nN,wV,jX,cond_true,cond_false,Ko];exact KS.refl _ _
 case leq =>
  rw[aeu] at hB;obtain⟨rfl,h1⟩:=oC hB;cases h1;simp only[yE,isSpec,nN,wV,jX,cond_true,cond_false,Ko,WO]
  have:(!decide (b<a))=xQ .leq a b:=by
   show _=decide (a<=b);rw[Bool.eq_iff_iff];simp
  rw[this];exact KS.refl _ _
 case gtr=>rw[aev] at hB;obtain⟨rfl,h1⟩:=oC hB;cases h1;simp only[yE,isSpec,nN,wV,jX,cond_true,cond_false,Ko];exact KS.refl _ _
 case geq =>
  rw[aew] at hB;obtain⟨rfl,h1⟩:=oC hB;cases h1;simp only[yE,isSpec,nN,wV,jX,cond_true,cond_false,Ko,WO]
  have:(!decide (a<b))=xQ .geq a b:=by
   show _=decide (b<=a);rw[Bool.eq_iff_iff];simp
  rw[this];exact KS.refl _ _
 ·rw[et] at h;unfold ajt at h
  split at h
  rcases Ey h with ⟨rfl,rfl,rfl⟩|⟨rfl,rfl,rfl⟩
  simp only[yE,isAdd,wV,cond_true,cond_false,WQ];exact⟨Sim.sb _,rfl⟩
  simp only[yE,isAdd,wV,cond_true,cond_false,WQ];exact⟨Sim.sb _,rfl⟩
  split at h
  rename_i ks R;cases R
  split at h
  rename_i b hb;have hb:=YH (P:=P) (T:=T) hb;simp only[yE,et,hb,eqK];rcases Ey h with ⟨rfl,rfl,rfl⟩|⟨rfl,rfl,rfl⟩
  simp only[zV,cond_true];exact⟨Sim.sb _,rfl⟩
  simp only[zV,EL,cond_true,cond_false];have:(iK.jd P T).beq b false=!b:=by cases b<;>rfl
  rw[this];exact⟨Sim.sb _,rfl⟩
  cases h
  cases h
  split at h
  rename_i a c ag sz g pl kd R;cases R;cases a<;>cases c<;>simp only[yE,ui,Jf,et,eqK]<;>rcases Ey h with ⟨rfl,rfl,rfl⟩|⟨rfl,rfl,rfl⟩<;>simp only[zV,EL,cond_true,cond_false]<;>exact⟨Sim.sb _,rfl⟩
  cases h
  ·split at h
   ·rename_i R;cases R
    cases h1:(og X&&og Z) with
    | true =>
     simp only[Bool.and_eq_true] at h1;have e1:=KZ h1.1;have J:=KZ h1.2;subst e1;subst J;simp only[og,Bool.and_self,cond_true] at h;simp only[yE,ui,Jf,et,og,Bool.and_self,cond_true,eqL];rcases Ey h with ⟨rfl,rfl,rfl⟩|⟨rfl,rfl,rfl⟩
     simp only[zV,cond_true];exact KS.refl _ _
     exact fP
    | false =>
     rw[h1] at h
     cases h2:((og X&&yI Z) || (yI X&&og Z)) with
     | false=>rw[h2] at h;cases h
     | true =>
      rw[h2] at h;simp only[cond_true,cond_false] at h
      have key:∀ K:PV->Prop,eqL op false K->yE T (iK.jd P T) op t X Z K:=by
       intro K hk;simp only[Bool.or_eq_true,Bool.and_eq_true] at h2;rcases h2 with ⟨a1,a2⟩|⟨a1,a2⟩
       ·have e1:=KZ a1;subst e1;cases Z<;>first|(cases a2;done)|(simp only[yE,ui,Jf,et,og,yI,Bool.and_self,Bool.and_false,Bool.false_and,Bool.or_false,Bool.or_true,Bool.true_or,cond_true,cond_false];exact hk)
       ·have e1:=KZ a2;subst e1;cases X<;>first|(cases a1;done)|(simp only[yE,ui,Jf,et,og,yI,Bool.and_self,Bool.and_false,Bool.false_and,Bool.or_false,Bool.or_true,Bool.true_or,cond_true,cond_false];exact hk)
      refine key _ ?_;unfold eqL;rcases Ey h with ⟨rfl,rfl,rfl⟩|⟨rfl,rfl,rfl⟩
      simp only[zV,cond_true];exact KS.refl _ _
      exact fP
   cases h
theorem Oy {len:Nat}{place:Plc}{pl:Nat->Option (Nat×Nat)}(J:∀ i K r,place i K=some r->∃ off size,pl i=some (off,size)/\K off size=some r){K:List PV->Rs}{r:PV×Dl}:∀ {parts:List (Nat×Operand)} {cells:List PV},cells.length=len->adg ev len place parts cells K=some r ->
  ∃ cs,Cm pl cells (evP T ps parts)=some cs/\K cs=some r/\xZ (evP T ps parts)=true
 | [],cells,hl,h=>⟨cells,rfl,h,rfl⟩
 | (i,x)::parts,cells,hl,h=>by
  have h:place i (λoff size=>ab1 (ev x) λcs=>uj (Nat.beq (CO cs) size) (uj (Nat.ble (Nat.add off size) len) (adg ev len place parts (ab2 off cs cells) K)))=some r:=h;obtain⟨off,size,e,h⟩:=J _ _ _ h;obtain⟨hx,h⟩:=Ou h;obtain⟨h1,h⟩:=iU h;obtain⟨h2,h⟩:=iU h;have U:=Nat.eq_of_beq_eq_true h1;have I:=Nat.le_of_ble_eq_true h2;simp only[Bo] at U;have hle:off+(jM (ev x)).length<=cells.length:=by rw[U,hl];exact I
  rw[abA hle] at h;obtain⟨cs,C,g,h5⟩:=Oy J (parts:=parts) (by rw[tu,hl]) h;rw[hev] at hx C U;refine⟨cs,?_,g,?_⟩
  simp only[evP,Cm,e];rw[show (Nat.beq (lG (jM (oD T ps x))) size&&Nat.ble (off+size) (lG cells))=true from ?_]
  exact C
  simp only[Bool.and_eq_true,kX];exact⟨by rw[U];exact Nat.beq_refl _,by rw[hl];exact h2⟩
  simp only[evP];unfold xZ
  split
  rename_i R;cases R
  rename_i R;simp only[List.cons.injEq,Prod.mk.injEq] at R;exact absurd R.1.2 hx
  rename_i R;simp only[List.cons.injEq] at R;rw[<- R.2];exact h5
theorem agr {t:TypeId}{parts:Array (Nat×Operand)}(h:aaW (T.ti t) ev parts=some (v,δ)):jU T (iK.jd P T) (.build t parts) ps lk id (KS v δ):=by
 obtain⟨agg,size,zero,plain,kind,et,h⟩:=oI h;obtain⟨z,J,U⟩:=G9 h;subst J
 cases kind with
 | struct fs =>
  obtain⟨cs,h1,h2,R⟩:=Oy hev (pl:=Jg fs) (λi K r h=>by
   obtain⟨fd,e,h⟩:=Oq h;exact⟨fd.off,fd.size,by simp only[Jg,e],h⟩) aB U
  simp only[jU,et,R,cond_true,h1];cases h2;exact KS.refl _ _
 | arr n esz ag =>
  obtain⟨cs,h1,h2,R⟩:=Oy hev (pl:=λi=>some (i*esz,esz)) (λi K r h=>⟨i*esz,esz,rfl,h⟩) aB U;simp only[jU,et,R,cond_true,h1];cases h2;exact KS.refl _ _
 | _=>cases U
theorem WR {t:TypeId}{len:Nat}{parts:Array (Nat×Operand)}(h:Np (T.ti t) len ev parts lk id=some (v,δ)):jU T (iK.jd P T) (.buildSlice t len parts) ps lk id (KS v δ):=by
 obtain⟨agg,size,zero,plain,kind,et,h⟩:=oI h;obtain⟨U,bytes,zz,C,h1⟩:=xu h;subst C;obtain⟨z,I,h2⟩:=G9 h1;subst I;obtain⟨a1,R⟩:=iU h2;obtain⟨a2,g⟩:=iU R;obtain⟨a3,h⟩:=iU g;have J:z.length=U:=by simpa using Nat.eq_of_beq_eq_true a2
 obtain⟨cs,h1,h2,R⟩:=Oy hev (pl:=λi=>some (i*U,U)) (λi K r h=>⟨i*U,U,rfl,h⟩) (by rw[WN,vK,J];rfl) h;obtain⟨cs',δ',hp,h2⟩:=YC P T h2;rw[WN] at h1;simp only[jU,et];rw[show (jo U&&Nat.beq (lG z) U&&Nat.ble (len*U) 16777216&&xZ (evP T ps parts.toList))=true from ?_]
 simp only[cond_true,h1,hp];refine Ox ?_;cases h2;simp only[WM,abz];exact KS.refl _ _
 simp only[Bool.and_eq_true,kX];exact⟨⟨⟨a1,by rw[J];exact Nat.beq_refl _⟩,a3⟩,R⟩
theorem aad {f:Go.Fn}{first cap:Array Operand}(h:LW f first ev cap=some (v,δ)):jU T (iK.jd P T) (.makeFunc f first cap) ps lk id (KS v δ):=by
 unfold LW at h
 split at h
 rename_i e;cases h;simp only[jU,e,Oo hev];exact KS.refl _ _
 cases h
theorem YI {t:TypeId}{x y:Operand}(hnar:T.kH=0)(h:Qk (T.ti t) (ev x) (ev y) id=some (v,δ)):jU T (iK.jd P T) (.makeSlice t x y) ps lk id (KS v δ):=by
 obtain⟨agg,size,zero,plain,kind,et,h⟩:=oI h;obtain⟨U,bytes,zz,I,h1⟩:=xu h;subst I;obtain⟨z,J,h2⟩:=G9 h1;subst J;rw[hev,hev] at h2;obtain⟨k,n,e1,g⟩:=ru h2;obtain⟨n,rfl,C⟩:=Ew g;obtain⟨k',m,e2,h5⟩:=ru C;obtain⟨m,rfl,h⟩:=Ew h5;obtain⟨a1,h⟩:=iU h;obtain⟨a2,h⟩:=iU h;obtain⟨a3,h⟩:=iU h;obtain⟨a4,h⟩:=iU h;obtain⟨a5,h⟩:=iU h;obtain⟨R,h⟩:=iU h;simp only[jU,et,e1,e2,ui];rw[show (jo U&&Nat.beq (lG z) U&&iE z)=true from ?_]
 have a4:=Nat.le_of_ble_eq_true a4;have a5:bytes*m<=140737488355328:=Nat.le_of_ble_eq_true a5;have R:=Nat.le_of_ble_eq_true R;refine⟨n,rfl,by omega,akj a5,by omega,?_⟩;rw[hnar];refine Ox ?_;cases h;simp only[TN];exact KS.refl _ _
 simp only[Bool.and_eq_true,kX];simp only[Bo] at a2;exact⟨⟨a1,a2⟩,IQ a3⟩
end
end Go.Pv
namespace Go.Pv
open Go
theorem Oz {d:Nat}{x:Option PV}{K:Nat->Rs}{r:PV×Dl}(h:VS d x K=some r):(x=none/\K d=some r)\/∃ (k:IntKind) (m:Nat),x=some (.int k (m:Int))/\K m=some r:=by
 cases x with
 | none=>exact .inl ⟨rfl,h⟩
 | some v =>
  obtain⟨k,n,rfl,h1⟩:=ru (v:=v) (K:=λ_ n=>RF n K) h;obtain⟨m,rfl,h2⟩:=Ew h1;exact .inr ⟨k,m,rfl,h2⟩
section
variable {P:Program}{T:Tab}{ps:List PV}{ev:Operand->PV}{lk:Nat->Option jq}{id:Nat}{v:PV}{δ:Dl}(hev:∀ x,ev x=oD T ps x)
include hev
theorem aae (x:Option Operand):(Option.rec (motive:=λ_=>Option PV) none (λx=>some (ev x)) x:Option PV)=evO T ps x:=by
 cases x with
 | none=>rfl
 | some x=>show some (ev x)=some (oD T ps x);rw[hev]
theorem ags {t:TypeId}{x:Operand}{lo hi mx:Option Operand}(h:aaX (T.ti t) (ev x) (Option.rec (motive:=λ_=>Option PV) none (λx=>some (ev x)) lo) (Option.rec (motive:=λ_=>Option PV) none (λx=>some (ev x)) hi) (Option.rec (motive:=λ_=>Option PV) none (λx=>some (ev x)) mx) lk=some (v,δ)):jU T (iK.jd P T) (.slice t x lo hi mx) ps lk id (KS v δ):=by
 rw[aae hev,aae hev,aae hev,hev] at h;simp only[jU];generalize evO T ps lo=LO at h;generalize evO T ps hi=HI at h;generalize evO T ps mx=MX at h;generalize oD T ps x=X at h
 cases MX with
 | some m =>
  have h0:(okK (T.ti t) λ_ _ _ _ kind=>O6 kind λU _ _=>uj (jo U) (QK X (λ_ _ _=>XK LO HI m (some (PV.sl U [] true,[]))) (λ_ _ _=>XK LO HI m (some (PV.sl U [] true,[]))) (λ_=>none)))=some (v,δ):=h;obtain⟨agg,size,zero,plain,kind,et,h1⟩:=oI h0;obtain⟨U,bytes,zz,ek,h2⟩:=xu h1;subst ek;obtain⟨hp,h3⟩:=iU h2
  have zk:∀ {x:Rs},XK LO HI m x=some (v,δ)->LO=none/\(∃ k,HI=some (.int k 0))/\(∃ k,m=.int k 0)/\x=some (v,δ):=by
   intro x hx
   cases LO with
   | some _=>cases hx
   | none =>
    cases HI with
    | none=>cases hx
    | some hh =>
     have hx:(Jj hh λ_ a=>RF a λa=>Jj m λ_ b=>RF b λb=>uj (Nat.beq a 0) (uj (Nat.beq b 0) x))=some (v,δ):=hx;obtain⟨k,a,rfl,R⟩:=ru hx;obtain⟨a,rfl,h5⟩:=Ew R;obtain⟨g,b,rfl,I⟩:=ru h5;obtain⟨b,rfl,C⟩:=Ew I;obtain⟨h8,h9⟩:=iU C;obtain⟨h10,h11⟩:=iU h9;have:=Nat.eq_of_beq_eq_true h8;subst this;have:=Nat.eq_of_beq_eq_true h10;subst this;exact⟨rfl,⟨k,rfl⟩,⟨g,rfl⟩,h11⟩
  rcases zJ h3 with ⟨sz,J,full,rfl,R⟩|⟨b,r,n,rfl,R⟩|⟨s,rfl,R⟩
  obtain⟨rfl,⟨k,rfl⟩,⟨g,rfl⟩,h5⟩:=zk R;cases h5;simp only[et,hp,cond_true];exact KS.refl _ _
  obtain⟨rfl,⟨k,rfl⟩,⟨g,rfl⟩,h5⟩:=zk R;cases h5;simp only[et,hp,cond_true];exact KS.refl _ _
  cases R
 | none =>
  have h0:(okK (T.ti t) λ_ _ _ _ kind=>O6 kind λU _ _=>uj (jo U) (QK X
   (λsz J full=>uj (Nat.beq sz U) (VS 0 LO λa=>VS (I9 J) HI λb=>uj (Nat.ble a b) (uj (Nat.ble b (I9 J)) (some (PV.sl sz (Hz (Nat.sub b a) (Hy a J)) (Option.rec (motive:=λ_=>Bool) full (λ_=>false) HI),[])))))
   (λb r n=>VQ (lk b) λ_ sz _=>uj (Nat.beq sz U) (VS 0 LO λa=>VS n HI λc=>uj (Nat.ble a c) (uj (Nat.ble c n) (some (PV.os b (Nat.add r a) (Nat.sub c a),[])))))
   (λ_=>none)))=some (v,δ):=h
  obtain⟨agg,size,zero,plain,kind,et,h1⟩:=oI h0;obtain⟨U,bytes,zz,ek,h2⟩:=xu h1;subst ek;obtain⟨hp,h3⟩:=iU h2;rcases zJ h3 with ⟨sz,J,full,rfl,R⟩|⟨b,r,n,rfl,R⟩|⟨s,rfl,R⟩
  obtain⟨hb,h5⟩:=iU R;rcases Oz h5 with ⟨rfl,I⟩|⟨k,a,rfl,I⟩<;>rcases Oz I with ⟨rfl,C⟩|⟨g,c,rfl,C⟩<;>obtain⟨hx,h8⟩:=iU C<;>obtain⟨hy,h9⟩:=iU h8<;>cases h9<;>simp only[et,hp,hb,Bool.and_self,cond_true,ui,DL,DK,Et] at *
  have:List.take (Nat.sub J.length 0) (List.drop 0 J)=J:=by
   show List.take (J.length-0) (List.drop 0 J)=J;simp
  rw[this];exact KS.refl _ _
  exact⟨0,c,rfl,rfl,Nat.zero_le _,Nat.le_of_ble_eq_true hy,KS.refl _ _⟩
  exact⟨a,J.length,rfl,rfl,Nat.le_of_ble_eq_true hx,Nat.le_refl _,KS.refl _ _⟩
  exact⟨a,c,rfl,rfl,Nat.le_of_ble_eq_true hx,Nat.le_of_ble_eq_true hy,KS.refl _ _⟩
  obtain⟨ro,sz,rows,eb,R⟩:=Eu R;obtain⟨hb,h5⟩:=iU R;rcases Oz h5 with ⟨rfl,I⟩|⟨k,a,rfl,I⟩<;>rcases Oz I with ⟨rfl,C⟩|⟨g,c,rfl,C⟩<;>obtain⟨hx,h8⟩:=iU C<;>obtain⟨hy,h9⟩:=iU h8<;>cases h9<;>simp only[et,hp,hb,eb,Bool.and_self,cond_true,ui] at *
  exact KS.refl _ _
  exact⟨0,c,rfl,rfl,Nat.zero_le _,Nat.le_of_ble_eq_true hy,KS.refl _ _⟩
  exact⟨a,n,rfl,rfl,Nat.le_of_ble_eq_true hx,Nat.le_refl _,KS.refl _ _⟩
  exact⟨a,c,rfl,rfl,Nat.le_of_ble_eq_true hx,Nat.le_of_ble_eq_true hy,KS.refl _ _⟩
  cases R
theorem acx (P:Program){R:Nat}{X:PV}{K:List (List PV)->Rs}{r:PV×Dl}(h:ag0 R lk X K=some r):∃ new,rowsOf (iK.jd P T) R lk X=some new/\K new=some r:=by
 rcases zJ h with ⟨sz,J,full,rfl,U⟩|⟨b,i,n,rfl,U⟩|⟨s,rfl,U⟩
 cases hb:Nat.beq sz R with
 | true =>
  rw[hb] at U;exact⟨J,by simp only[rowsOf,hb,cond_true],U⟩
 | false =>
  rw[hb] at U
  cases J with
  | nil=>exact⟨[],by simp only[rowsOf,hb,cond_false],U⟩
  | cons _ _=>cases U
 obtain⟨ro,sz,rows,C,h5⟩:=Eu U;obtain⟨hb,I⟩:=iU h5;refine⟨_,?_,I⟩;simp only[rowsOf,C,hb,cond_true,DL,DK];rfl
 cases U
omit hev in
theorem Vs {n bytes:Nat}{x:Rs}{r:PV×Dl}(h:adh n bytes x=some r):(2*n+192)*bytes<=140737488355328/\n<=4611686018427387904/\x=some r:=by
 obtain⟨h1,h2⟩:=iU h;obtain⟨U,T⟩:=iU h2;exact⟨Nat.le_of_ble_eq_true h1,Nat.le_of_ble_eq_true U,T⟩
theorem agt {b:Builtin}{args:Array Operand}{ts:Array TypeId}(h:VT T.ti b (RN ev args.toList) ts.toList lk id=some (v,δ)):jU T (iK.jd P T) (.call { callee:=.builtin b,args:=args,argTypes:=ts }) ps lk id (KS v δ):=by
 rw[Oo hev] at h;simp only[jU];generalize evA T ps args.toList=A at h;generalize ts.toList=tl at h;unfold VT at h
 split at h
 rename_i x t;obtain⟨agg,size,zero,plain,kind,et,h1⟩:=oI h;rcases zJ h1 with ⟨sz,es,full,rfl,R⟩|⟨b,i,n,rfl,R⟩|⟨s,rfl,R⟩
 obtain⟨J,bytes,zz,rfl,h5⟩:=xu R;obtain⟨rfl,rfl⟩:=qh h5;simp only[et,Et];exact⟨Sim.si _ _,rfl⟩
 obtain⟨J,bytes,zz,rfl,h5⟩:=xu R;obtain⟨rfl,rfl⟩:=qh h5;simp only[et];exact⟨Sim.si _ _,rfl⟩
 obtain⟨rfl,h5⟩:=aeb R;obtain⟨rfl,rfl⟩:=qh h5;simp only[et];refine⟨?_,rfl⟩
 have:(iK.jd P T).slen s=Int.ofNat s.data.toList.length:=by
  show ((s.size:Nat):Int)=((s.data.toList.length:Nat):Int);rw[Array.length_toList];rfl
 rw[this];exact Sim.si _ _
 rename_i x y;obtain⟨k,a,rfl,h1⟩:=ru h;obtain⟨k',c,rfl,h2⟩:=ru h1;obtain⟨hk,C⟩:=iU h2;obtain⟨rfl,rfl⟩:=qh C;have:=TQ hk;subst this;simp only[jX,cond_true,Ko];refine⟨?_,rfl⟩
 by_cases I:c<a
 rw[if_pos I,decide_eq_true I];exact Sim.refl _
 rw[if_neg I,decide_eq_false I];exact Sim.refl _
 rename_i x y;obtain⟨k,a,rfl,h1⟩:=ru h;obtain⟨k',c,rfl,h2⟩:=ru h1;obtain⟨hk,C⟩:=iU h2;obtain⟨rfl,rfl⟩:=qh C;have:=TQ hk;subst this;simp only[jX,cond_true,Ko];refine⟨?_,rfl⟩
 by_cases I:a<c
 rw[if_pos I,decide_eq_true I];exact Sim.refl _
 rw[if_neg I,decide_eq_false I];exact Sim.refl _
 rename_i s x t u tl;obtain⟨agg,size,zero,plain,kind,et,h1⟩:=oI h;obtain⟨J,bytes,zz,rfl,h2⟩:=xu h1;obtain⟨z,rfl,C⟩:=G9 h2;obtain⟨agg',size',zero',plain',kind',eu,R⟩:=oI C;obtain⟨esz',bytes',zz',rfl,h5⟩:=xu R;obtain⟨hp,h6⟩:=iU h5;obtain⟨hz,h7⟩:=iU h6;obtain⟨new,hn,h8⟩:=acx (T:=T) hev P h7;simp only[Bo] at hz;simp only[et,eu,kX,hp,hz,Bool.and_self,cond_true,hn];rcases zJ h8 with ⟨sz,es,full,rfl,h9⟩|⟨b,i,n,rfl,h9⟩|⟨s,rfl,h9⟩
 obtain⟨O,U⟩:=iU h9;subst O
 cases es with
 | cons _ _=>cases U
 | nil =>
  obtain⟨r1,r2,g⟩:=Vs (x:=some (PV.os id 0 (I9 new),[(id,some (jq.arr false J new))])) U;cases g;simp only[Et] at r1 r2;refine⟨r1,r2,?_⟩;simp only[Et];exact KS.refl _ _
 obtain⟨ro,sz,rows,eb,U⟩:=Eu h9;obtain⟨hr,g⟩:=iU U;have hr:=zK hr;subst hr;obtain⟨hb,h12⟩:=iU g;obtain⟨r1,r2,h13⟩:=Vs h12;cases h13;simp only[Et] at r1 r2;have r1:(2*(n+new.length)+192)*bytes<=140737488355328:=r1;simp only[eb,hb,cond_true];refine⟨r1,r2,?_⟩;simp only[Et,TM,DL,DK];exact KS.refl _ _
 cases h9
 rename_i x t tl;obtain⟨agg,size,zero,plain,kind,et,h1⟩:=oI h;obtain⟨J,bytes,zz,rfl,h2⟩:=xu h1;obtain⟨z,rfl,C⟩:=G9 h2;rcases zJ C with ⟨sz,es,full,rfl,R⟩|⟨b,r,n,rfl,R⟩|⟨s,rfl,R⟩
 cases R
 obtain⟨ro,sz,rows,eb,h5⟩:=Eu R;obtain⟨hr,h6⟩:=iU h5;have hr:=zK hr;subst hr;obtain⟨a1,h7⟩:=iU h6;obtain⟨a2,h8⟩:=iU h7;obtain⟨a3,h9⟩:=iU h8;obtain⟨a4,U⟩:=iU h9;cases U;simp only[Bo] at a2;simp only[et,eb];rw[show (Nat.beq sz J&&Nat.beq (lG z) sz&&jo sz&&iE z)=true from (by simp only[Bool.and_eq_true,kX];exact⟨⟨⟨a1,a2⟩,a3⟩,IQ a4⟩)];simp only[cond_true];refine Ox ?_
 have:(iK.jd P T).spl rows r ((iK.jd P T).rep n z)=RH (Hz r rows) (RH (XJ n z) (Hy (Nat.add r n) rows)):=by
  show rows.take r++List.replicate n z++rows.drop (r+(List.replicate n z).length)=_;simp only[TM,DL,DK,TN,List.length_replicate,List.append_assoc];rfl
 rw[this];exact KS.refl _ _
 cases R
 cases h
end
end Go.Pv
namespace Go.Pv
open Go
section
variable {P:Program}{T:Tab}(hT:jg P T)(hW:CW P)(hnar:T.kH=0){C:Ctx T}{o:Oper}{a:Act}{w:World}{Y:Nat->Prop}{σ:Sg}{ps:List PV}{st:St}{n id:Nat}{lk:Nat->Option jq}
 (H:SW C w Y σ ps a.tmps.toList st n) (hlk:∀ b x,lk b=some x->iO st b=some x) (hid:σ id=none/\T.qJ<=id) {ev:Operand->PV} {v:PV} {δ:Dl}
include H in
theorem aex {op:BinOp}{t u:TypeId}{x y:Operand}(hT:jg P T)(ho:o.op=.binOp op t x y u)(hy:Nh y=true){b r m sz bytes:Nat}{z:Option (List PV)}{agg:Bool}{size:Nat}{zero:Option (List PV)}{plain:Option (List Nat)}(et:T.ti t=⟨true,agg,size,zero,plain,.slice sz bytes z⟩)
  (hx:oD T ps x=.os b r (m+1)) (h:VR op false=some (v,δ)):nY P C o a w σ ps st n id (λU I=>U=v/\I=δ):=by
 have hr:=jw H x;rw[hx] at hr;have R:=aa4 hy;subst R;obtain⟨el,hu,_⟩:=ku hT et;unfold Rep at hr
 have main:∃ J len cap,a.eval x=.slice (some J) len cap:=by
  rcases hr with ⟨l,cap,_,e,_⟩|⟨e,_⟩
  exact⟨_,_,_,e⟩
  cases e
 obtain⟨J,len,cap,ev⟩:=main;have hev:a.eval (.const (.slice none 0 0))=.slice none 0 0:=rfl;obtain⟨r1,r2⟩:=H8 (P:=P) (w:=w) (x:=some J) (len:=len) (cap:=cap) hu;have n1:∀ cs,a.eval x≠.agg cs:=by rw[ev];intro cs e;cases e
 have n2:a.eval x≠.nilIface:=by rw[ev];intro e;cases e
 have fin:∀ {U : PV} {cv:Value},(binOp op t (a.eval x) (a.eval (.const (.slice none 0 0)))).run P w=.ok cv w->Rep w Y σ U cv->U=v/\[]=δ->nY P C o a w σ ps st n id (λU I=>U=v/\I=δ):=by
  intro U cv hr hv g;refine nY.quiet H (cv:=cv) ?_ hv g;simp[execOp,ho,CS n1 n2,hr]
 rcases Ey h with ⟨rfl,rfl,rfl⟩|⟨rfl,rfl,rfl⟩
 exact fin (by rw[ev,hev];exact r1) bH ⟨rfl,rfl⟩
 exact fin (by rw[ev,hev];exact r2) bH ⟨rfl,rfl⟩
include hT hW hnar H hlk hid in
theorem abI {er:List PV}(hev:∀ x,ev x=oD T er x)(hl:∀ x∈o.op.operands,oD T ps x=oD T er x)(h:opV o.op T.ti ev lk id=some (v,δ)):nY P C o a w σ ps st n id (λg R=>g=v/\R=δ):=by
 have go:jU T (iK.jd P T) o.op er lk id (KS v δ)->nY P C o a w σ ps st n id (λg R=>g=v/\R=δ):=λh=>by
  rw[<- KN hl] at h;obtain⟨g,R,cv,w',Y',σ',⟨hs,rfl⟩,I,H',hv,J⟩:=xx hT hW H hlk hid h;exact⟨v,R,cv,w',Y',σ',⟨rfl,rfl⟩,I,H',hs _ _ _ _ hv,J⟩
 cases ho:o.op with
 | move x =>
  rw[ho] at h go;have h:some (ev x,([]:Dl))=some (v,δ):=h;cases h;exact go (by simp only[jU];rw[hev];exact KS.refl _ _)
 | assign x =>
  rw[ho] at h go;have h:some (ev x,([]:Dl))=some (v,δ):=h;cases h;exact go (by simp only[jU];rw[hev];exact KS.refl _ _)
 | pick c x y=>rw[ho] at h go;exact go (ah6 hev h)
 | alloc t=>rw[ho] at h go;exact go (agj h)
 | box t x=>rw[ho] at h go;exact go (akg hev h)
 | build t parts=>rw[ho] at h go;exact go (agr hev h)
 | buildSlice t len parts=>rw[ho] at h go;exact go (WR hev h)
 | load t x=>rw[ho] at h go;exact go (ah7 hev h)
 | store t x y=>rw[ho] at h go;exact go (agl hev h)
 | nilCheck x=>rw[ho] at h go;exact go (aac hev h)
 | binOp op t x y u =>
  rw[ho] at h go;have h:Bool.rec (motive:=λ_=>Rs) (ahn (T.ti t) op (ev x) (ev y)) (aho (T.ti t) op (ev x)) (Nh y)=some (v,δ):=h
  cases hn:Nh y with
  | false=>rw[hn] at h;exact go (agq hev hn h)
  | true =>
   rw[hn] at h;have h:aho (T.ti t) op (ev x)=some (v,δ):=h;obtain⟨agg,size,zero,plain,kind,et,h1⟩:=oI h;obtain⟨sz,bytes,z,ek,h2⟩:=xu h1;subst ek;rw[hev] at h2;rcases zJ h2 with ⟨sz',es,full,e,U⟩|⟨b,r,m,e,U⟩|⟨s,e,U⟩
   cases es with
   | nil=>cases U
   | cons _ _ =>
    refine go ?_;simp only[jU,hn,et,e];intro b hb
    cases b with
    | true=>exact absurd (hb rfl) aB
    | false =>
     unfold eqL;rcases Ey (b:=false) U with ⟨rfl,rfl,rfl⟩|⟨rfl,rfl,rfl⟩
     simp only[zV,cond_true];exact KS.refl _ _
     exact fP
   cases m with
   | zero=>cases U
   | succ m=>exact aex H hT ho hn et (by rw[hl x (by rw[ho];simp[Op.operands])];exact e) U
   cases U
 | unOp op t x =>
  rw[ho] at h go
  cases op with
  | not=>exact go (akh hev h)
  | neg=>exact go (aki hev h)
  | _=>cases h
 | convert s d x=>rw[ho] at h go;exact go (acv hev h)
 | makeFunc fn first cap=>rw[ho] at h go;exact go (aad hev h)
 | makeSlice t x y=>rw[ho] at h go;exact go (YI hev hnar h)
 | slice t x lo hi mx=>rw[ho] at h go;exact go (ags hev h)
 | fieldAddr t x f=>rw[ho] at h go;exact go (YD hev h)
 | field t x f=>rw[ho] at h go;exact go (agk hev h)
 | indexAddr t x i=>rw[ho] at h go;exact go (YE hev h)
 | index t x i=>rw[ho] at h go;exact go (agm hev h)
 | extract t i=>rw[ho] at h go;exact go (acw hev h)
 | call c =>
  rw[ho] at h go;obtain⟨callee,args,ts⟩:=c
  cases callee with
  | builtin b=>exact go (agt hev h)
  | _=>cases h
 | _=>rw[ho] at h;cases h
end
abbrev Tab.at (T:Tab) (n:Nat):Tab:={ T with qJ:=n }
def NN (t:Sb):Prop:=∀ b sz rows,jr t b≠some (.kH sz rows)
theorem SW.agu {T:Tab}{C:Ctx T}{w:World}{Y:Nat->Prop}{σ:Sg}{ps:List PV}{vs:List Value}{st:St}{n:Nat}(H:SW C w Y σ ps vs st n)(hn:∀ b sz rows,iO st b≠some (.kH sz rows)):SW (EJ (T.at n) w Y σ st) w Y σ ps vs st n :=
 ⟨H.vals,H.store,H.next,H.vg,λ_ h=>h.1,λk h=>⟨H.vg k h.1,h.2⟩,λk h _=>by
  by_cases hi:BZ σ st k
  exact .inr ⟨h,hi⟩
  exact .inl ⟨h,hi⟩,Ji.refl _ w,λb x l h1 h2=>.inr ⟨b,x,l,h1,h2,rfl⟩,H.wz,⟨Nat.le_refl _,λ_ _=>rfl⟩,yK.none hn⟩
theorem SW.compose {T T' : Tab}{C:Ctx T}{w w' : World}{Y Y' : Nat->Prop}{σ σ' : Sg}{ps qs:List PV}{vs us:List Value}{st st' : St}{n I : Nat}(H:SW C w Y σ ps vs st n)(hgl:T'.gl=T.gl)(hp:T'.qJ=n)
  (U : SW (EJ T' w Y σ st) w' Y' σ' qs us st' I):Keep w w' Y Y' σ σ'/\SW C w' Y' σ' qs us st' I:=by
 have excl:∀ k,k<w.heap.size->Y' k->Y k:=by
  intro k hk hy;rcases U.vk k hy hk with h|h
  exact h.1
  exact h.1
 have R:∀ b,b<n->σ' b=σ b:=λb hb=>U.fix.2 b (by rw[hp];exact hb);have hle:n<=I:=by have:=U.fix.1;rw[hp] at this;exact this
 have K:Keep w w' Y Y' σ σ':=⟨λk hk hy=>U.mf.block k hk λh=>hy h.1,excl,U.mf.size,λb l hl=>by
  rcases Nat.lt_or_ge b n with h|h
  rw[R b h];exact hl
  rw[H.next b h] at hl;cases hl⟩
 have away:∀ k,C.Y0 k->¬ BZ σ st k:=λk hk ⟨b,x,l,h1,h2,h3⟩=>H.away h1 h2 (h3 ▸ hk)
 have old:∀ k,(w.heap.size<=k\/BZ σ st k)->C.w0.heap.size<=k\/C.L k:=λk h=>by
  rcases h with h|⟨b,x,l,h1,h2,h3⟩
  exact fH
  rw[<- h3];exact H.own b x l h1 h2
 refine⟨K,U.vals,U.store,U.next,U.vg,λk hk=>U.y0 k ⟨H.y0 k hk,away k hk⟩,H.c0,λk hk J=>H.vk k (excl k (Nat.lt_of_lt_of_le J H.mf.size) hk) J,?_,λb x l h1 h2=>old _ (U.own b x l h1 h2),by have:=U.wz;rw[hgl] at this;exact this,⟨Nat.le_trans H.fix.1 hle,λb hb=>?_⟩,?_⟩
 refine⟨by rw[U.mf.os];exact H.mf.os,by rw[U.mf.tape];exact H.mf.tape,by rw[U.mf.output];exact H.mf.output,Nat.le_trans H.mf.size U.mf.size,λk hk hM=>?_⟩;rw[U.mf.block k (Nat.lt_of_lt_of_le hk H.mf.size) λh=>?_]
 exact H.mf.block k hk hM
 obtain⟨h1,h2⟩:=h;rcases H.vk k h1 hk with h3|h3
 exact away k h3 h2
 exact hM h3
 rw[R b (Nat.lt_of_lt_of_le hb H.fix.1)];exact H.fix.2 b hb
 exact⟨U.nest.rep,λb r c h sz g k=>old _ (U.nest.old b r c h sz g k),U.nest.one,U.nest.sep⟩
theorem TR:∀ t:Sb,∃ N,∀ b,N<=b->jr t b=none
 | .e=>⟨0,λb _=>rfl⟩
 | .n v l r=>by
  obtain⟨A,hA⟩:=TR l;obtain⟨B,hB⟩:=TR r;refine⟨2*(A+B)+2,λb hb=>?_⟩
  cases b with
  | zero=>omega
  | succ m =>
   rw[Fq];have h:A+B<=m / 2:=by omega
   cases Nat.beq (Nat.mod m 2) 0 with
   | true=>exact hA _ (by show A<=m / 2;omega)
   | false=>exact hB _ (by show B<=m / 2;omega)
theorem abJ {f:Nat->Option jq}:∀ (m i b:Nat),iO ((upN i m).map λb=>(b,f b)) b=if i<=b/\b<i+m then f b else none
 | 0,i,b=>by simp[upN,iO];intro h1 h2;omega
 | m+1,i,b=>by
  show (bif Nat.beq i b then f i else iO ((upN (i+1) m).map λb=>(b,f b)) b)=_
  by_cases h:i=b
  subst h;simp
  rw[Nv h];simp only[cond_false];rw[abJ m (i+1) b]
  by_cases h2:i+1<=b/\b<i+1+m
  rw[if_pos h2,if_pos ah]
  rw[if_neg h2,if_neg ah]
theorem agv (t:Sb):∃ st:St,∀ b,iO st b=jr t b:=by
 obtain⟨N,U⟩:=TR t;refine⟨(upN 0 N).map λb=>(b,jr t b),λb=>?_⟩;rw[abJ]
 by_cases h:b<N
 rw[if_pos ah]
 rw[if_neg ah,U b ah]
end Go.Pv
namespace Go.Pv
open Go
def GT (t:Sb)(n:Nat):Prop:=NN t/\∀ b,n<=b->jr t b=none
def FnV (P:Program)(T:Tab)(k:Nat)(args:List PV)(t:Sb)(n:Nat)(v:PV)(t' : Sb)(n' : Nat):Prop :=
 GT t n->GT t' n'/\∀ (w:World) (Y:Nat->Prop) (σ:Sg) (cargs:List Value) (st:St),(∀ b,iO st b=jr t b)->VP T.gl w Y->(∀ b,Y b->b<w.heap.size)->(∀ b,n<=b->σ b=none)->gB w Y σ args cargs->I8 w Y σ st ->
  (callFunc k cargs.toArray).run P w=.ok (.enter k cargs.toArray) w /\
  Calls P k cargs.toArray w λe w'=>∃ cv Y' σ' st',e=.returned cv/\(∀ b,iO st' b=jr t' b)/\SW (EJ (T.at n) w Y σ st) w' Y' σ' [v] [cv] st' n'
def IU (P:Program)(T:Tab)(call:zZ):Prop:=∀ k args t n v t' n',call k args t n=some (v,t',n')->FnV P T k args t n v t' n'
structure OA {T:Tab}(C:Ctx T)(V:EV)(D:List Nat)(a:Act)(w:World):Prop where
 nn:GT V.st V.nx
 dfr:a.defers=marks D
 env:∃ ps st Y σ,(∀ i,mZ V.tm i=iZ ps i)/\V.n=ps.length/\(∀ b,iO st b=jr V.st b)/\SW C w Y σ ps a.tmps.toList st V.nx/\Ls C.w0.heap.size D w Y
theorem OB {x:Option jq}{y:jq}(h:noN x=some y):x=some y/\∀ sz rows,y≠.kH sz rows:=by
 cases x with
 | none=>cases h
 | some x =>
  cases x with
  | kH _ _=>cases h
  | _=>cases h;exact⟨rfl,λ_ _ e=>by cases e⟩
theorem He {f:Nat->Bool}:∀ {l:List Nat},XL f l=true->∀ x∈l,f x=true
 | [],_,x,hx=>by cases hx
 | y::l,h,x,hx=>by
  have h:Bool.rec (motive:=λ_=>Bool) false (XL f l) (f y)=true:=h
  cases hy:f y with
  | false=>rw[hy] at h;cases h
  | true =>
   rw[hy] at h;rcases List.mem_cons.1 hx with rfl|hx
   exact hy
   exact He h x hx
theorem La:∀ (δ:Dl) (t:Sb) (b:Nat),b ∉ Bz δ->jr (vI δ t) b=jr t b
 | [],t,b,_=>rfl
 | (c,y)::δ,t,b,h=>by
  have e:Bz ((c,y)::δ)=c::Bz δ:=rfl;rw[e,List.mem_cons,not_or] at h;show jr (vI δ (setB (noN y) c t)) b=_;rw[La δ _ b h.2,G8,if_neg h.1]
theorem YJ:∀ (δ:Dl) (t:Sb) (st:St),(∀ b x,jr t b=some x->iO st b=some x)->∀ b x,jr (vI δ t) b=some x->iO (iW δ st) b=some x
 | [],t,st,h,b,x,hx=>h b x hx
 | (c,y)::δ,t,st,h,b,x,hx=>by
  refine YJ δ (setB (noN y) c t) (nI st c y) (λb x hx=>?_) b x hx;rw[G8] at hx;rw[iG]
  by_cases U:b=c
  subst U;rw[if_pos rfl] at hx |-;exact (OB hx).1
  rw[if_neg U] at hx;rw[if_neg (Ne.symm U)];exact h b x hx
theorem OC:∀ (δ:Dl) (t:Sb),NN t->NN (vI δ t)
 | [],t,h=>h
 | (c,y)::δ,t,h=>OC δ (setB (noN y) c t) λb sz rows hb=>by
  rw[G8] at hb
  by_cases U:b=c
  rw[if_pos U] at hb;exact (OB hb).2 sz rows rfl
  rw[if_neg U] at hb;exact h b sz rows hb
theorem P5 {T:Tab}(hgl:∀ g,T.gl g=none){tm:Tr PV}{ps:List PV}(h:∀ i,mZ tm i=iZ ps i)(x:Operand):evV tm x=oD T ps x:=by
 cases x with
 | tmp t=>exact h t
 | const v=>rfl
 | global g=>simp only[oD,hgl];rfl
 | func f=>rfl
theorem AU {tm:Tr PV}{n:Nat}{ps:List PV}(h:∀ i,mZ tm i=iZ ps i)(hn:n=ps.length)(d:Option Nat)(v:PV):∀ i,mZ (vH tm n d v) i=iZ (uw ps d v) i:=by
 intro i
 cases d with
 | none=>exact h i
 | some d =>
  show mZ (Bool.rec (motive:=λ_=>Tr PV) tm (Zp v d tm) (Nat.ble (Nat.succ d) n)) i=_;simp only[uw,uM]
  cases hb:Nat.ble (Nat.succ d) n with
  | true =>
   have hb:=Nat.le_of_ble_eq_true hb;show mZ (Zp v d tm) i=_;rw[PX]
   by_cases T:i=d
   subst T;rw[if_pos rfl,if_pos ⟨rfl,by omega⟩]
   rw[if_neg T,if_neg (by intro e;exact T e.1.symm)];exact h i
  | false =>
   have U : ¬ Nat.succ d<=n:=λe=>by rw[show Nat.ble (Nat.succ d) n=true by rw[Nat.ble_eq];exact e] at hb;cases hb
   show mZ tm i=_;rw[if_neg (by intro e;apply U;rw[hn];exact e.2)];exact h i
section
variable {P:Program}{T:Tab}(hT:jg P T)(hW:CW P)(hnar:T.kH=0)(hgl:∀ g,T.gl g=none){call:zZ}(hcall:IU P T call)
theorem ah8 {C:Ctx T}{w:World}{Y:Nat->Prop}{σ:Sg}{ps:List PV}{vs:List Value}{st:St}{n:Nat}(H:SW C w Y σ ps vs st n){t:Sb}(R:∀ b,iO st b=jr t b)(hn:GT t n){k:Nat}{args:List PV}{U:List Value}{v:PV}{J : Sb}{I : Nat}
  (hr:gB w Y σ args U) (hF:FnV P T k args t n v J I):GT J I/\(callFunc k U.toArray).run P w=.ok (.enter k U.toArray) w /\
  Calls P k U.toArray w λe w'=>∃ cv Y' σ' st',e=.returned cv/\(∀ b,iO st' b=jr J b)/\SW C w' Y' σ' ps vs st' I/\Rep w' Y' σ' v cv/\∀ k o,w.heap[k]?=some o->Wj o->w'.heap[k]?=some o/\(Y k->Y' k):=by
 obtain⟨h1,h2⟩:=hF hn;obtain⟨h3,h4⟩:=h2 w Y σ U st R H.wz H.vg H.next hr H.store
 refine⟨h1,h3,Calls.mono h4 λe w' hh=>?_⟩;obtain⟨cv,Y',σ',st',rfl,h5,g⟩:=hh;obtain⟨K,H2⟩:=H.compose (T':=T.at n) rfl rfl g;have hv:=g.vals;unfold gB at hv;obtain⟨c,cs,e,h6,h7⟩:=hv;cases e;exact⟨cv,Y',σ',st',rfl,h5,H2.qo (gB.keep _ K _ H.vals),h6,λk o ho hc=>g.kept H.store ho hc⟩
theorem WS:∀ (l:List Oper) (j:Nat),Zr l j=l[j]?
 | [],j=>by simp;rfl
 | x::l,0=>rfl
 | x::l,j+1=>by show Zr l j=_;rw[WS l j];simp
theorem agw {v:PV}{want b:Bool}(h:gdK v want=some b):(∃ c,v=.bool c/\b=(c==want))\/(v=.undef/\b=false):=by
 cases v with
 | bool c=>cases h;left;exact⟨c,rfl,by cases c<;>cases want<;>rfl⟩
 | undef=>cases h;exact .inr ⟨rfl,rfl⟩
 | _=>cases h
theorem Vt (P:Program){all:Array Oper}{o:Oper}{tm:Tr PV}{ps:List PV}{g:Bool}(U:∀ i,mZ tm i=iZ ps i)(h:gdV all.toList o.guard tm=some g){C:Ctx T}{Y:Nat->Prop}{σ:Sg}{a:Act}{w:World}{st:St}{n:Nat}(H:SW C w Y σ ps a.tmps.toList st n) :
  Region.wanted o (yielded all a.tmps)=g:=by
 have main:gd (iK.jd P T) all o.guard ⟨ps,st,n⟩ (λ_=>g=true) (λ_=>g=false):=by
  unfold gd
  cases J:o.guard with
  | none=>rw[J] at h;cases h;rfl
  | some p =>
   obtain⟨j,want⟩:=p;rw[J] at h;have h:Option.rec (motive:=λ_=>Option Bool) none (λo=>Option.rec (motive:=λ_=>Option Bool) none (λd=>gdK (mZ tm d) want) o.dst) (Zr all.toList j)=some g:=h;rw[WS,Array.getElem?_toList] at h;simp only
   cases hj:all[j]? with
   | none=>rw[hj] at h;cases h
   | some oj =>
    rw[hj] at h;have h:Option.rec (motive:=λ_=>Option Bool) none (λd=>gdK (mZ tm d) want) oj.dst=some g:=h;simp only
    cases R:oj.dst with
    | none=>rw[R] at h;cases h
    | some d =>
     rw[R] at h;have h:gdK (mZ tm d) want=some g:=h;rw[U] at h;simp only;rcases agw h with ⟨c,e,rfl⟩|⟨e,rfl⟩
     rw[e];cases c<;>cases want<;>rfl
     rw[e]
 have:Region.wanted o (yielded all a.tmps)=Region.wanted o (yielded all ({ a with defers:=[] }:Act).tmps):=rfl;rw[this];obtain⟨I,_,hh⟩:=Su main (C:=C) (a:={ a with defers:=[] }) (w:=w) ⟨⟨Y,σ,H⟩,rfl⟩;rcases hh with ⟨h1,h2⟩|⟨h1,h2⟩
 rw[h1,h2]
 rw[h1,h2]
theorem fin_inv {r:Rs}{tm:Tr PV}{n:Nat}{st:Sb}{nx:Nat}{dst:Option Nat}{E:EV}(h:fin r tm n st nx dst=some E):∃ v δ,r=some (v,δ)/\E=⟨vH tm n dst v,n,vI δ st,zW δ nx⟩/\∀ b∈Bz δ,b<=nx:=by
 cases r with
 | none=>cases h
 | some p =>
  obtain⟨v,δ⟩:=p
  cases δ with
  | nil=>cases h;exact⟨v,[],rfl,rfl,λb hb=>by cases hb⟩
  | cons x δ =>
   have h:Bool.rec (motive:=λ_=>Oe) none (Nat.rec (motive:=λ_=>Oe) (some ⟨vH tm n dst v,n,vI (x::δ) st,1⟩) (λm _=>some ⟨vH tm n dst v,n,vI (x::δ) st,Nat.succ (Nat.succ m)⟩) nx) (XL (λb=>Nat.ble b nx) (Bz (x::δ)))=some E:=h
   cases hk:XL (λb=>Nat.ble b nx) (Bz (x::δ)) with
   | false=>rw[hk] at h;cases h
   | true =>
    rw[hk] at h;refine⟨v,x::δ,rfl,?_,λb hb=>Nat.le_of_ble_eq_true (He hk b hb)⟩
    cases nx with
    | zero=>cases h;rfl
    | succ m=>cases h;rfl
theorem YK {r:Option (PV×Sb×Nat)}{tm:Tr PV}{n:Nat}{dst:Option Nat}{E:EV}(h:fin2 r tm n dst=some E):∃ v U T,r=some (v,U,T)/\E=⟨vH tm n dst v,n,U,T⟩:=by
 cases r with
 | none=>cases h
 | some p =>
  obtain⟨v,U,T⟩:=p;cases h;exact⟨v,U,T,rfl,rfl⟩
theorem TS {o:Op}{f:Operand}{args:Array Operand}(h:O8 o=some (f,args)):∃ ts,o=.call { callee:=.value f,args:=args,argTypes:=ts }:=by
 cases o with
 | call c =>
  obtain⟨callee,U,ts⟩:=c
  cases callee with
  | value f'=>cases h;exact⟨ts,rfl⟩
  | _=>cases h
 | _=>cases h
include hT hW hnar hgl hcall in
theorem YL {o:Oper}{tm:Tr PV}{n:Nat}{st:Sb}{nx:Nat}{V' : EV}(h:Jk T.ti call o tm n st nx=some V'){C:Ctx T}{D:List Nat}{a:Act}{w:World}(hA:OA C ⟨tm,n,st,nx⟩ D a w){next:Act->World->Prop}{Q:Exit->Act->World->Prop}(g:∀ a' w',OA C V' D a' w'->next a' w'):o.wp P a w next Q:=by
 obtain⟨J,hdf,ps,stl,Y,σ,htm,hn,R,H,hD⟩:=hA;have R:∀ b,iO stl b=jr st b:=R;have H:SW C w Y σ ps a.tmps.toList stl nx:=H;unfold Jk at h
 cases hc:O8 o.op with
 | none =>
  rw[hc] at h;obtain⟨v,δ,hv,rfl,hkeys⟩:=fin_inv h;have H2:=H.agu λb sz rows=>by rw[R];exact J.1 b sz rows
  obtain⟨v',I,cv,w',Y',σ',⟨rfl,rfl⟩,U,H',hrep,_⟩:=abI (P:=P) (T:=T.at nx) hT hW hnar H2 (lk:=jr st) (λb x hx=>by rw[R];exact hx) ⟨H.next _ (Nat.le_refl _),Nat.le_refl _⟩ (P5 (T:=T.at nx) hgl htm) (λ_ _=>rfl) hv;have hni:ql I nx nx=zW I nx:=by cases I<;>simp[ql,zW]
  rw[hni] at H';obtain⟨K,H3⟩:=H.compose (T':=T.at nx) rfl rfl H'
  have hfin:OA C ⟨vH tm n o.dst v',n,vI I st,zW I nx⟩ D (a.put o.dst cv) w':=by
   obtain⟨st2,hst2⟩:=agv (vI I st);refine⟨⟨OC I st J.1,λb hb=>?_⟩,by rw[put_defers];exact hdf,uw ps o.dst v',st2,Y',σ',AU htm hn _ _,by rw[lh];exact hn,hst2,?_,hD.step H.store H'⟩
   have hb:zW I nx<=b:=hb
   cases I with
   | nil=>exact J.2 b hb
   | cons y I =>
    rw[La _ _ b λhk=>by have:=hkeys b hk;simp only[zW] at hb;omega];exact J.2 b (by simp only[zW] at hb;show nx<=b;omega)
   refine (H3.uw hrep o.dst).ext λb x hx=>?_;rw[hst2] at hx;exact YJ I st stl (λb x hx=>by rw[R];exact hx) b x hx
  have:=g _ _ hfin;unfold Oper.wp;rcases U with U|⟨U,rfl⟩
  rw[U];exact this
  rw[U];exact this
 | some p =>
  obtain⟨f,args⟩:=p;rw[hc] at h;obtain⟨v,t',n',hr,rfl⟩:=YK h;obtain⟨k,caps,O,hr⟩:=Ri hr;obtain⟨ts,ho⟩:=TS hc;have hev:=P5 (T:=T) hgl htm;rw[Oo hev,Rh] at hr;rw[hev] at O;have hfv:=jw H f;rw[O] at hfv;unfold Rep at hfv;obtain⟨cs,ef,hcs⟩:=hfv;have hall:=gB.app _ _ _ _ (rU H args.toList) hcs;rw[KF] at hall;obtain⟨hn',hent,hc2⟩:=ah8 H R J hall (hcall _ _ _ _ _ _ _ hr);unfold Oper.wp;rw[DZ ho ef hent];refine Calls.mono hc2 λe w' hh=>?_;obtain⟨cv,Y',σ',st',rfl,hst',H',hv,hD'⟩:=hh
  exact g _ _ ⟨hn',by rw[put_defers];exact hdf,uw ps o.dst v,st',Y',σ',AU htm hn _ _,by rw[lh];exact hn,hst',H'.uw hv o.dst,hD.1,λr hr=>by
   obtain⟨g0,g1,g2⟩:=hD.2 r hr;obtain⟨g3,g4⟩:=hD' r _ g2 ⟨λ_ _ e=>dh,λ_ _ e=>dh⟩;exact⟨g0,g4 g1,g3⟩⟩
include hT hW hnar hgl hcall in
theorem MO {all:Array Oper}{Q:Exit->Act->World->Prop}{C:Ctx T}{D:List Nat}:∀ (l:List Oper) (V U : EV),opsV T.ti call all.toList l V=some U ->
  ∀ a w,OA C V D a w->(∀ J w',OA C U D J w'->Q .normal J w')->wpList P all Q l a w
 | [],V,U,h,a,w,hA,hQ=>by cases h;exact hQ a w hA
 | o::l,⟨tm,n,st,nx⟩,U,h,a,w,hA,hQ=>by
  have h:Option.rec (motive:=λ_=>Oe) none
   (λg=>Bool.rec (motive:=λ_=>Oe) (opsV T.ti call all.toList l ⟨vH tm n o.dst PV.undef,n,st,nx⟩) (Option.rec (motive:=λ_=>Oe) none (λE'=>opsV T.ti call all.toList l E') (Jk T.ti call o tm n st nx)) g) (gdV all.toList o.guard tm)=some U:=h
  cases hg:gdV all.toList o.guard tm with
  | none=>rw[hg] at h;cases h
  | some g =>
   rw[hg] at h;have I:=hA;obtain⟨hnn,hdf,ps,stl,Y,σ,R,hn,hst,H,hD⟩:=I;have hw:=Vt P R hg H;unfold wpList
   cases g with
   | true =>
    rw[if_pos hw];have h:Option.rec (motive:=λ_=>Oe) none (λE'=>opsV T.ti call all.toList l E') (Jk T.ti call o tm n st nx)=some U:=h
    cases hs:Jk T.ti call o tm n st nx with
    | none=>rw[hs] at h;cases h
    | some V1 =>
     rw[hs] at h;exact .inl (YL hT hW hnar hgl hcall hs hA λJ w' hA2=>MO l V1 U h J w' hA2 hQ)
   | false =>
    rw[if_neg (by rw[hw];simp)];have h:opsV T.ti call all.toList l ⟨vH tm n o.dst PV.undef,n,st,nx⟩=some U:=h;refine MO l _ U h _ w ⟨hnn,by rw[put_defers];exact hdf,uw ps o.dst .undef,stl,Y,σ,AU R hn _ _,by rw[lh];exact hn,hst,H.uw bH o.dst,hD⟩ hQ
end
end Go.Pv
namespace Go.Pv
open Go
theorem Lc {a b:Bool}(h:(match a with|true=>b|false=>!b)=true):a=b:=by cases a<;>cases b<;>simp_all
mutual
theorem acy:∀ (d:Nat) (x y:PV),eqP d x y=true->x=y
 | 0,x,y,h=>by simp[eqP] at h
 | d+1,x,y,h=>by
  unfold eqP at h
  split at h
  rw[Lc h]
  obtain⟨h1,h2⟩:=qP h;rw[PZ,decide_eq_true_iff] at h2;rw[TQ h1,h2]
  rw[WQ,decide_eq_true_iff] at h;rw[h]
  rfl
  rfl
  rfl
  obtain⟨h1,h2⟩:=qP h;obtain⟨h2,U⟩:=qP h2;rw[Nat.eq_of_beq_eq_true h1,Nat.eq_of_beq_eq_true h2,Nat.eq_of_beq_eq_true U]
  obtain⟨h1,h2⟩:=qP h;rw[Nat.eq_of_beq_eq_true h1,Nat.eq_of_beq_eq_true h2]
  obtain⟨h1,h2⟩:=qP h;obtain⟨h2,U⟩:=qP h2;rw[Nat.eq_of_beq_eq_true h1,Nat.eq_of_beq_eq_true h2,Nat.eq_of_beq_eq_true U]
  obtain⟨h1,h2⟩:=qP h;obtain⟨h2,U⟩:=qP h2;rw[Nat.eq_of_beq_eq_true h1,Lc h2,IV d _ _ U]
  rw[yz d _ _ h]
  rw[yz d _ _ h]
  obtain⟨h1,h2⟩:=qP h;rw[Nat.eq_of_beq_eq_true h1,yz d _ _ h2]
  cases h
theorem yz:∀ (d:Nat) (x y:List PV),eqP.eqRow (eqP d) x y=true->x=y
 | d,[],[],_=>rfl
 | d,[],_::_,h=>by simp[eqP.eqRow] at h
 | d,_::_,[],h=>by simp[eqP.eqRow] at h
 | d,x::xs,y::ys,h=>by
  unfold eqP.eqRow at h;obtain⟨h1,h2⟩:=qP h;rw[acy d x y h1,yz d xs ys h2]
theorem IV:∀ (d:Nat) (x y:List (List PV)),eqP.eqRows (eqP d) x y=true->x=y
 | d,[],[],_=>rfl
 | d,[],_::_,h=>by simp[eqP.eqRows] at h
 | d,_::_,[],h=>by simp[eqP.eqRows] at h
 | d,x::xs,y::ys,h=>by
  unfold eqP.eqRows at h;obtain⟨h1,h2⟩:=qP h;rw[yz d x y h1,IV d xs ys h2]
end
theorem aaf {x y:Option jq}(h:adm x y=true):x=y:=by
 unfold adm at h
 split at h
 obtain⟨h1,h2⟩:=qP h;rw[Lc h1,yz _ _ _ h2]
 obtain⟨h1,h2⟩:=qP h;obtain⟨h2,U⟩:=qP h2;rw[Lc h1,Nat.eq_of_beq_eq_true h2,IV _ _ _ U]
 cases h
theorem OD (p:Nat->Bool):∀ cs:List PV,QL p (.agg cs)=Jl p cs
 | []=>rfl
 | x::cs=>by
  have e1:QL p (.agg (x::cs))=Bool.rec (motive:=λ_=>Bool) false (QL p (.agg cs)) (QL p x):=rfl;have U:Jl p (x::cs)=Bool.rec (motive:=λ_=>Bool) false (Jl p cs) (QL p x):=rfl;rw[e1,U,OD p cs]
theorem TT {p:Nat->Bool}{x:PV}{cs:List PV}(h:Jl p (x::cs)=true):QL p x=true/\Jl p cs=true:=by
 have h:Bool.rec (motive:=λ_=>Bool) false (Jl p cs) (QL p x)=true:=h
 cases hx:QL p x with
 | false=>rw[hx] at h;cases h
 | true=>rw[hx] at h;exact⟨rfl,h⟩
section
variable {p:Nat->Bool}{σ σ' : Sg}(hσ:∀ b,p b=true->σ' b=σ b){w:World}{Y:Nat->Prop}
include hσ
mutual
theorem YM:∀ (v:PV) (u:Value),QL p v=true->Rep w Y σ v u->Rep w Y σ' v u
 | .bool _,_,_,h|.sb _,_,_,h|.int _ _,_,_,h|.si _ _,_,_,h|.str _,_,_,h
 | .Bv,_,_,h|.LP,_,_,h|.top,_,_,h|.undef,_,_,h=>by unfold Rep at h |-;exact h
 | .sl _ _ _,_,_,h|.pp _,_,_,h=>by unfold Rep at h |-;exact h
 | .ow _ _ _,_,e,_=>by cases e
 | .bo _ _ _ _ _ _,_,e,_=>by cases e
 | .np _ _ _ _ _ _ _,_,e,_=>by cases e
 | .mp _,_,e,_=>by cases e
 | .agg cs,u,e,h=>by
  rw[OD] at e;unfold Rep at h |-;obtain⟨vs,e1,h⟩:=h;exact⟨vs,e1,Hf cs vs e h⟩
 | .FH cs,u,e,h=>by
  have e:QL p (.agg cs)=true:=e;rw[OD] at e;unfold Rep at h |-;obtain⟨vs,e1,h⟩:=h;exact⟨vs,e1,Hf cs vs e h⟩
 | .fn f cs,u,e,h=>by
  have e:QL p (.agg cs)=true:=e;rw[OD] at e;unfold Rep at h |-;obtain⟨vs,e1,h⟩:=h;exact⟨vs,e1,Hf cs vs e h⟩
 | .os b r n,u,e,h=>by
  have e:p b=true:=e;unfold Rep at h |-;rw[hσ b e];exact h
 | .lv b c,u,e,h=>by
  have e:p b=true:=e;unfold Rep at h |-;rw[hσ b e];exact h
 | .lp b r c,u,e,h=>by
  have e:p b=true:=e;unfold Rep at h |-;rw[hσ b e];exact h
theorem Hf:∀ (cs:List PV) (vs:List Value),Jl p cs=true->gB w Y σ cs vs->gB w Y σ' cs vs
 | [],vs,_,h=>by unfold gB at h |-;exact h
 | x::cs,vs,e,h=>by
  obtain⟨e1,R⟩:=TT e;unfold gB at h |-;obtain⟨v,U,T,h1,h2⟩:=h;exact⟨v,U,T,YM x v e1 h1,Hf cs U R h2⟩
end
theorem TU {b:Nat}:∀ (cs:List PV) (o:Nat),Jl p cs=true->jc w Y σ b cs o->jc w Y σ' b cs o
 | [],o,_,h=>by unfold jc;trivial
 | x::cs,o,e,h=>by
  obtain⟨e1,U⟩:=TT e;unfold jc at h |-;obtain⟨⟨v,h1,h2⟩,T⟩:=h;exact⟨⟨v,h1,YM hσ x v e1 h2⟩,TU cs (o+1) U T⟩
theorem acz {l:Loc}{x:jq}(e:adl p (some x)=true)(h:gJ w Y σ l x):gJ w Y σ' l x:=by
 cases x with
 | var ro row =>
  have e:Jl p row=true:=e;unfold gJ at h |-;obtain⟨h1,h2,U,T,h5⟩:=h;exact⟨h1,h2,U,TU hσ row _ e T,h5⟩
 | arr ro sz rows=>unfold gJ at h |-;exact h
 | kH sz rows=>cases e
 | map rows=>cases e
 | nor sz rows r row=>cases e
end
theorem SW.aey {T T' : Tab}{C:Ctx T}{w w' : World}{Y Y' : Nat->Prop}{σ σc σ1:Sg}{ps qs:List PV}{vs us:List Value}{I str st1 st' : St}{n id U:Nat}(H:SW C w Y σ ps vs I n)(hgl:T'.gl=T.gl)(hp:T'.qJ=id)
  (hsub:∀ b x,iO str b=some x->iO I b=some x/\b<id/\σc b=σ b) (hσc:∀ b l,σc b=some l->σ b=some l) (hwin:∀ b,id<=b->b<U->σ b=none/\iO I b=none) (hid:T.qJ<=id) (hN:U<=n)
  (J : SW (EJ T' w Y σc str) w' Y' σ1 qs us st1 U)
  (hst' : ∀ b x,iO st' b=some x->((iO str b≠none\/(id<=b/\b<U))/\iO st1 b=some x)\/(iO str b=none/\iO I b=some x))
  (hnn:∀ b sz rows,iO st' b≠some (.kH sz rows)) :
  ∃ σ',SW C w' Y' σ' ps vs st' n/\gB w' Y' σ' qs us/\∀ b,(b<id\/U<=b)->σ' b=σ b:=by
 have hle:id<=U:=by have:=J.fix.1;rw[hp] at this;exact this
 have hfix:∀ b,b<id->σ1 b=σc b:=λb hb=>J.fix.2 b (by rw[hp];exact hb)
 let σn:Sg:=λb=>if b<id\/U<=b then σ b else σ1 b
 have R:∀ b,(b<id\/U<=b)->σn b=σ b:=λb h=>if_pos h;have hin:∀ b,id<=b->b<U->σn b=σ1 b:=λb h1 h2=>if_neg ah
 have excl:∀ k,k<w.heap.size->Y' k->Y k:=by
  intro k hk hy;rcases J.vk k hy hk with h|h
  exact h.1
  exact h.1
 have K:Keep w w' Y Y' σ σn:=⟨λk hk hy=>J.mf.block k hk λh=>hy h.1,excl,J.mf.size,λb l hl=>by
  by_cases h:b<id\/U<=b
  rw[R b h];exact hl
  rw[(hwin b ah ah).1] at hl;cases hl⟩
 have sg1:mg σ1 σn:=λb l hl=>by
  rcases Nat.lt_or_ge b id with h|h
  rw[R b (.inl h)];rw[hfix b h] at hl;exact hσc b l hl
  rcases Nat.lt_or_ge b U with h2|h2
  rw[hin b h h2];exact hl
  rw[J.next b h2] at hl;cases hl
 have K1:Keep w' w' Y' Y' σ1 σn:=⟨λ_ _ _=>rfl,λ_ _ h=>h,Nat.le_refl _,sg1⟩
 have inst:∀ k,BZ σc str k->∃ b y l,iO str b≠none/\iO I b=some y/\σ b=some l/\l.cb=k:=by
  rintro k ⟨b,y,l,h1,h2,h3⟩
  exact⟨b,y,l,by rw[h1];simp,(hsub b y h1).1,hσc b l h2,h3⟩
 have eq1:∀ b,(iO str b≠none\/(id<=b/\b<U))->σn b=σ1 b:=by
  intro b hb;rcases Nat.lt_or_ge b id with h|h
  rw[R b (.inl h),hfix b h];rcases hb with hb|hb
  cases hs:iO str b with
  | none=>exact absurd hs hb
  | some y=>exact (hsub b y hs).2.2.symm
  omega
  rcases hb with hb|hb
  cases hs:iO str b with
  | none=>exact absurd hs hb
  | some y=>have:=(hsub b y hs).2.1;omega
  exact hin b hb.1 hb.2
 have eq2:∀ b x,iO str b=none->iO I b=some x->σn b=σ b:=by
  intro b x _ hx;refine R b ?_;rcases Nat.lt_or_ge b id with h|h
  exact .inl h
  rcases Nat.lt_or_ge b U with h2|h2
  rw[(hwin b h h2).2] at hx;cases hx
  exact .inr h2
 have nin:∀ b x l,iO str b=none->iO I b=some x->σ b=some l->¬ BZ σc str l.cb:=by
  intro b x l hb hx hl hi;obtain⟨g,y,l',h1,h2,h3,h4⟩:=inst _ hi;have:=H.store.inj g b y x l' l h2 hx h3 hl h4;subst this;exact h1 hb
 have lt0:∀ b x l,iO I b=some x->σ b=some l->l.cb<w.heap.size:=by
  intro b x l hx hl;rcases H.store.blk b x hx with ⟨l2,hl2,hB⟩|⟨hn,_⟩
  rw[hl] at hl2;cases hl2;exact hB.lt
  rw[hl] at hn;cases hn
 refine⟨σn,⟨gB.keep _ K _ H.vals,⟨λb x hx=>?_,λb g x x' l l' hx hx' hl hl' e=>?_⟩,λb hb=>?_,J.vg,λk hk=>?_,H.c0,λk hk hlt=>?_,?_,λb x l hx hl=>?_,by have:=J.wz;rw[hgl] at this;exact this,?_,yK.none hnn⟩,gB.keep _ K1 _ J.vals,R⟩
 rcases hst' b x hx with ⟨h1,h2⟩|⟨h1,h2⟩
 rcases J.store.blk b x h2 with ⟨l,hl,hB⟩|⟨hn,h3⟩
 exact .inl ⟨l,sg1 b l hl,gJ.keep K1 rfl Iff.rfl hB⟩
 exact .inr ⟨by rw[eq1 b h1];exact hn,h3⟩
 rcases H.store.blk b x h2 with ⟨l,hl,hB⟩|⟨hn,h3⟩
 have hni:=nin b x l h1 h2 hl;exact .inl ⟨l,K.sg b l hl,gJ.keep K (J.mf.block _ hB.lt λh=>hni h.2) ⟨excl _ hB.lt,λh=>J.y0 _ ⟨h,hni⟩⟩ hB⟩
 exact .inr ⟨by rw[eq2 b x h1 h2];exact hn,h3⟩
 have side:∀ b g x x' l l',((iO str b≠none\/(id<=b/\b<U))/\iO st1 b=some x)->(iO str g=none/\iO I g=some x')->σn b=some l->σn g=some l'->l.cb=l'.cb->False:=by
  rintro b g x x' l l' ⟨h1,h2⟩ ⟨h3,h4⟩ hl hl' e
  rw[eq1 b h1] at hl;rw[eq2 g x' h3 h4] at hl';have hlt':=lt0 g x' l' h4 hl';rcases J.own b x l h2 hl with h|h
  have h:w.heap.size<=l.cb:=h;omega
  rw[e] at h;exact nin g x' l' h3 h4 hl' h
 rcases hst' b x hx with h|h<;>rcases hst' g x' hx' with h'|h'
 exact J.store.inj b g x x' l l' h.2 h'.2 (by rw[<- eq1 b h.1];exact hl) (by rw[<- eq1 g h'.1];exact hl') e
 exact (side b g x x' l l' h h' hl hl' e).elim
 exact (side g b x' x l' l h' h hl' hl e.symm).elim
 exact H.store.inj b g x x' l l' h.2 h'.2 (by rw[<- eq2 b x h.1 h.2];exact hl) (by rw[<- eq2 g x' h'.1 h'.2];exact hl') e
 rw[R b (.inr ah)];exact H.next b hb
 refine J.y0 k ⟨H.y0 k hk,λhi=>?_⟩;obtain⟨b,y,l,h1,h2,h3,rfl⟩:=inst k hi;exact H.away h2 h3 hk
 exact H.vk k (excl k (Nat.lt_of_lt_of_le hlt H.mf.size) hk) hlt
 refine⟨by rw[J.mf.os];exact H.mf.os,by rw[J.mf.tape];exact H.mf.tape,by rw[J.mf.output];exact H.mf.output,Nat.le_trans H.mf.size J.mf.size,λk hk hM=>?_⟩;rw[J.mf.block k (Nat.lt_of_lt_of_le hk H.mf.size) λh=>?_]
 exact H.mf.block k hk hM
 obtain⟨h1,h2⟩:=h;rcases H.vk k h1 hk with h3|h3
 obtain⟨b,y,l,h4,h5,h6,rfl⟩:=inst k h2;exact H.away h5 h6 h3
 exact hM h3
 rcases hst' b x hx with ⟨h1,h2⟩|⟨h1,h2⟩
 rw[eq1 b h1] at hl;rcases J.own b x l h2 hl with h|h
 exact fH
 obtain⟨g,y',l',h5,h6,h7,h8⟩:=inst _ h;rw[<- h8];exact H.own g y' l' h6 h7
 rw[eq2 b x h1 h2] at hl;exact H.own b x l h2 hl
 refine⟨H.fix.1,λb hb=>?_⟩;rw[R b (.inl ah)];exact H.fix.2 b hb
end Go.Pv
namespace Go.Pv
open Go
noncomputable def OE:Dl->Dl
 | []=>[]
 | (b,x)::δ=>(b,noN x)::OE δ
theorem Hg:∀ (δ:Dl) (b:Nat),je (OE δ) b=(je δ b).map noN
 | [],b=>rfl
 | (c,x)::δ,b=>by
  simp only[OE,je];rw[Hg δ b]
  cases je δ b with
  | some y=>rfl
  | none =>
   by_cases h:c=b
   simp[h]
   simp[h]
theorem MP:∀ (δ:Dl) (t:Sb) (b:Nat),jr (vI δ t) b=(match je (OE δ) b with|some x=>x|none=>jr t b)
 | [],t,b=>rfl
 | (c,x)::δ,t,b=>by
  show jr (vI δ (setB (noN x) c t)) b=_;rw[MP δ];simp only[OE,je]
  cases je (OE δ) b with
  | some y=>rfl
  | none =>
   simp only;rw[G8]
   by_cases h:c=b
   subst h;simp
   rw[if_neg (Ne.symm h),if_neg h]
theorem agx (δ:Dl)(b sz:Nat)(rows:List (List PV)):je (OE δ) b≠some (some (.kH sz rows)):=by
 rw[Hg];intro h
 cases hl:je δ b with
 | none=>rw[hl] at h;cases h
 | some y =>
  rw[hl] at h;simp only[Option.map_some,Option.some.injEq] at h;exact (OB h).2 sz rows rfl
theorem Vu:∀ (δ:Dl) (b:Nat) (x:Option jq),(b,x)∈δ->b∈Bz δ
 | [],b,x,h=>by cases h
 | (c,y)::δ,b,x,h=>by
  have e:Bz ((c,y)::δ)=c::Bz δ:=rfl;rw[e];rcases List.mem_cons.1 h with h|h
  cases h;simp
  exact List.mem_cons_of_mem _ (Vu δ b x h)
theorem Vw (δ:Dl)(b:Nat)(h:je (OE δ) b≠none):b∈Bz δ:=by
 rw[Hg] at h;obtain⟨x,hx⟩:=Ib δ b λe=>h (by rw[e];rfl);exact Vu δ b x hx
theorem agy {st:St}{δ:Dl}(b:Nat)(x:jq)(h:iO (iW (OE δ) st) b=some x):iO (iW δ st) b=some x:=by
 rw[mi,Hg] at h;rw[mi]
 cases hl:je δ b with
 | none=>rw[hl] at h;exact h
 | some y =>
  rw[hl] at h;exact (OB h).1
theorem P6 {f:Nat->Option jq}:∀ (l:List Nat) (b:Nat),je (l.map λb=>(b,f b)) b=if b∈l then some (f b) else none
 | [],b=>by simp[je]
 | c::l,b=>by
  simp only[List.map_cons,je];rw[P6 l b]
  by_cases h:b∈l
  rw[if_pos h,if_pos (List.mem_cons_of_mem _ h)]
  rw[if_neg h]
  by_cases U:c=b
  subst U;simp
  have hn:¬ b∈c::l:=by
   rw[List.mem_cons]
   rintro (e|e)
   exact U e.symm
   exact h e
  rw[if_neg hn];simp only[if_neg U]
section
variable {P:Program}{T:Tab}(hT:jg P T)(hW:CW P)(hnar:T.kH=0)(hgl:∀ g,T.gl g=none){call:zZ}(hcall:IU P T call)
include hT hW hnar hgl in
theorem aez {all:Array Oper}{o:Oper}{tm:Tr PV}{er:List PV}(htm:∀ i,mZ tm i=iZ er i){lk:Nat->Option jq}{id:Nat}{v:PV}{δ:Dl}(h:opV o.op T.ti (evV tm) lk id=some (v,δ)):ZL P T all o er lk id 1 v (OE δ):=by
 intro C ps Y σ a w st n hl H hn hlk I g hle next Q R
 have H2:=H.Q3 hn;obtain⟨v',δ',cv,w',Y',σ',⟨rfl,rfl⟩,U,H',hrep,J⟩:=abI hT hW hnar H2 hlk ⟨(I id (Nat.le_refl _) ah).1,g⟩ (P5 (T:=T) hgl htm) (sD hl) h;have hni:ql δ' n id<=n:=by cases δ'<;>simp[ql]<;>omega
 have H3:=(H.NP H').mono hni;have:=R cv w' Y' σ' (iW (OE δ') st) (H3.ext λb x hx=>agy b x hx) (λb=>mi _ _ _) (λb hb=>J b ah) hrep (λB D hD=>hD.step H.store H');unfold Oper.wp;rcases U with U|⟨U,rfl⟩
 rw[U];exact this
 rw[U];exact this
end
end Go.Pv
namespace Go.Pv
open Go
theorem Ez {f:Nat->Bool}:∀ (l:List Nat) (x:Nat),x∈O9 f l↔x∈l/\f x=true
 | [],x=>by simp[O9]
 | y::l,x=>by
  have e:O9 f (y::l)=Bool.rec (motive:=λ_=>List Nat) (O9 f l) (y::O9 f l) (f y):=rfl;rw[e]
  cases hy:f y with
  | false =>
   show x∈O9 f l↔_;rw[Ez l x,List.mem_cons];constructor
   rintro⟨h1,h2⟩;exact⟨.inr h1,h2⟩
   rintro⟨rfl|h1,h2⟩
   rw[hy] at h2;cases h2
   exact⟨h1,h2⟩
  | true =>
   show x∈y::O9 f l↔_;rw[List.mem_cons,Ez l x,List.mem_cons];constructor
   rintro (rfl|⟨h1,h2⟩)
   exact⟨.inl rfl,hy⟩
   exact⟨.inr h1,h2⟩
   rintro⟨rfl|h1,h2⟩
   exact .inl rfl
   exact .inr ⟨h1,h2⟩
theorem AV (t:Sb):∀ (l:List Nat) (b:Nat),jr (ab5 t l) b=if b∈l then jr t b else none
 | [],b=>by simp;rfl
 | c::l,b=>by
  have e:ab5 t (c::l)=setB (jr t c) c (ab5 t l):=rfl;rw[e,G8,AV t l b]
  by_cases h:b=c
  subst h;simp
  rw[if_neg h]
  by_cases h2:b∈l
  rw[if_pos h2,if_pos (List.mem_cons_of_mem _ h2)]
  rw[if_neg h2,if_neg (by rw[List.mem_cons];rintro (e|e);exact h e;exact h2 e)]
theorem ah9 {x:Option jq}(h:∀ sz rows,x≠some (.kH sz rows)):noN x=x:=by
 cases x with
 | none=>rfl
 | some x =>
  cases x with
  | kH sz rows=>exact absurd rfl (h sz rows)
  | _=>rfl
theorem MQ {x:Option jq}:(Option.rec (motive:=λ_=>Bool) false (λ_=>true) x:Bool)=true↔x≠none:=by
 cases x with
 | none=>simp
 | some y=>simp
theorem OG {R:List Nat}{t:Sb}{b:Nat}{x:jq}(h:lk1 R t b=some x):b∈R/\jr t b=some x:=by
 have h:Bool.rec (motive:=λ_=>Option jq) none (jr t b) (FO R b)=some x:=h
 cases hb:FO R b with
 | false=>rw[hb] at h;cases h
 | true=>rw[hb] at h;exact⟨(BB _ _).1 hb,h⟩
theorem aia {R:List Nat}{t:Sb}{b:Nat}(hb:b∈R):lk1 R t b=jr t b:=by
 show Bool.rec (motive:=λ_=>Option jq) none (jr t b) (FO R b)=_;rw[(BB _ _).2 hb]
section
variable {P:Program}{T:Tab}(hT:jg P T)(hW:CW P)(hnar:T.kH=0)(hgl:∀ g,T.gl g=none){call:zZ}(hcall:IU P T call)
include hgl hcall in
theorem acA {all:Array Oper}{o:Oper}{f:Operand}{args:Array Operand}{ts:Array TypeId}(ho:o.op=.call { callee:=.value f,args:=args,argTypes:=ts }){tm:Tr PV}{er:List PV}(htm:∀ i,mZ tm i=iZ er i){k:Nat}{caps:List PV}(O:evV tm f=.fn k caps)
  {n:Nat} {t:Sb} {id:Nat} {E' : EV} {tc:Tc} (hnt:GT t id) (h:adn call k (O7 (RN (evV tm) args.toList) caps) tm n t id o.dst=some (E',tc)) :
  ∃ v m δ,ZL P T all o er (lk1 tc.1 t) id m v δ/\E'.tm=vH tm n o.dst v/\E'.n=n/\E'.nx=id+m/\(∀ st:St,(∀ b,iO st b=jr t b)->∀ b,iO (iW δ st) b=jr E'.st b)/\GT E'.st E'.nx /\
   (∀ b,je δ b≠none->(id<=b/\b<id+m)\/jr t b≠none)/\(∀ b sz rows,je δ b≠some (some (.kH sz rows)))/\(∀ b,je δ b≠none->b∈tc.2.2)/\(∀ b∈tc.2.2,b∈tc.2.1):=by
 unfold adn at h;simp only at h;generalize hρ:rch (jr t) 8 (adk (O7 (RN (evV tm) args.toList) caps) []) []=ρ at h
 split at h
 ·rename_i hchk;obtain⟨c1,c2⟩:=qP hchk;obtain⟨c2,c3⟩:=qP c2;have c1:∀ b∈ρ,b<id:=λb hb=>Nat.le_of_ble_eq_true (He c1 b hb);have c3:∀ b∈ρ,adl (FO ρ) (jr t b)=true:=λb hb=>He c3 b hb
  split at h
  ·rename_i v st1 g hc;have hF:=hcall _ _ _ _ _ _ _ hc;generalize hS:Zj (O9 (λb=>Option.rec (motive:=λ_=>Bool) false (λ_=>true) (jr t b)) ρ) (O9 (λb=>Bool.rec (motive:=λ_=>Bool) false (Nat.ble (Nat.succ b) g) (Nat.ble id b)) (rch (jr st1) 8 (nmL v ρ) []))=S at h
   have hle0:Nat.ble id g=true:=by
    cases hle0:Nat.ble id g with
    | true=>rfl
    | false=>rw[hle0] at h;cases h
   rw[hle0] at h;have hle:=Nat.le_of_ble_eq_true hle0;simp only[Option.some.injEq,Prod.mk.injEq] at h;obtain⟨rfl,rfl⟩:=h
   have hSin:∀ b,b∈ρ->jr t b≠none->b∈S:=λb h1 h2=>by
    rw[<- hS,QU,List.mem_append];exact .inl ((Ez _ _).2 ⟨h1,MQ.2 h2⟩)
   have hSout:∀ b,b∈S->(b∈ρ/\jr t b≠none)\/(id<=b/\b<g):=λb hb=>by
    rw[<- hS,QU,List.mem_append] at hb;rcases hb with hb|hb
    obtain⟨h1,h2⟩:=(Ez _ _).1 hb;exact .inl ⟨h1,MQ.1 h2⟩
    obtain⟨h1,h2⟩:=(Ez _ _).1 hb
    right
    cases hb2:Nat.ble id b with
    | false=>rw[hb2] at h2;cases h2
    | true =>
     rw[hb2] at h2;exact⟨Nat.le_of_ble_eq_true hb2,Nat.le_of_ble_eq_true h2⟩
   generalize hWd:O9 (λb=>CP (adm (jr st1 b) (jr t b))) S=W;have hWS:∀ b∈W,b∈S:=λb hb=>by rw[<- hWd] at hb;exact ((Ez _ _).1 hb).1
   have hSW:∀ b,b∈S->b ∉ W->jr st1 b=jr t b:=λb h1 h2=>by
    rw[<- hWd,Ez] at h2;refine aaf ?_
    cases he:adm (jr st1 b) (jr t b) with
    | true=>rfl
    | false=>exact absurd ⟨h1,by rw[he];rfl⟩ h2
   have hsubNN:GT (ab5 t ρ) id:=by
    refine⟨λb sz rows hb=>?_,λb hb=>?_⟩
    rw[AV] at hb
    by_cases h:b∈ρ
    rw[if_pos h] at hb;exact hnt.1 b sz rows hb
    rw[if_neg h] at hb;cases hb
    rw[AV]
    by_cases h:b∈ρ
    have:=c1 b h;omega
    rw[if_neg h]
   obtain⟨⟨hn1,hn1b⟩,hF⟩:=hF hsubNN;have lδ:∀ b,je (W.map λb=>(b,jr st1 b)) b=if b∈W then some (jr st1 b) else none:=λb=>P6 W b
   have hgetE:∀ b,jr (vI (S.map λb=>(b,jr st1 b)) t) b=if b∈S then jr st1 b else jr t b:=λb=>by
    rw[MP,Hg,P6]
    by_cases h:b∈S
    rw[if_pos h,if_pos h];exact ah9 λsz rows=>hn1 b sz rows
    rw[if_neg h,if_neg h];rfl
   refine⟨v,g-id,W.map λb=>(b,jr st1 b),?_,rfl,rfl,by show g=_;omega,λst hst b=>?_,?_,λb hb=>?_,λb sz rows hb=>?_,λb hb=>?_,hWS⟩
   intro C ps Y σ a w st n2 hl H hn hlk hwin hpas hle2 next Q hnext
   have hwin:∀ b,id<=b->b<g->σ b=none/\iO st b=none:=λb h1 h2=>hwin b h1 ah;have hev:=sD (T:=T) hl;rw[ho] at hev;have hevV:=P5 (T:=T) hgl htm;have hfv:=jw H f;rw[hev f dw,<- hevV,O] at hfv;unfold Rep at hfv;obtain⟨cs,ef,hcs⟩:=hfv;have hargs:=rU H args.toList;rw[yg (ps:=ps) (qs:=er) args.toList λx hx=>hev x bn] at hargs;have hall:=gB.app _ _ _ _ hargs hcs;rw[KF,<- Oo hevV,<- Rh] at hall
   let σc:Sg:=λb=>if b∈ρ then σ b else none
   have hσc:∀ b,b∈ρ->σc b=σ b:=λb hb=>if_pos hb;have hσn:∀ b,b ∉ ρ->σc b=none:=λb hb=>if_neg hb;have hσp:∀ b,FO ρ b=true->σc b=σ b:=λb hb=>hσc b ((BB _ _).1 hb)
   have hσs:∀ b l,σc b=some l->σ b=some l:=λb l hb=>by
    by_cases h:b∈ρ
    rw[<- hσc b h];exact hb
    rw[hσn b h] at hb;cases hb
   obtain⟨str,I⟩:=agv (ab5 t ρ)
   have J:∀ b x,iO str b=some x->iO st b=some x/\b<id/\σc b=σ b/\b∈ρ:=λb x hx=>by
    rw[I,AV] at hx
    by_cases h:b∈ρ
    rw[if_pos h] at hx;exact⟨hlk b x (by rw[aia h];exact hx),c1 b h,hσc b h,h⟩
    rw[if_neg h] at hx;cases hx
   have hstR:I8 w Y σc str:=by
    refine⟨λb x hx=>?_,λb b' x x' l l' hx hx' hl hl' e=>?_⟩
    obtain⟨h1,h2,h3,h4⟩:=J b x hx;have h5:=c3 b h4;rw[I,AV,if_pos h4] at hx;rw[hx] at h5;rcases H.store.blk b x h1 with ⟨l,hl,hB⟩|⟨h6,h7⟩
    exact .inl ⟨l,by rw[h3];exact hl,acz hσp h5 hB⟩
    exact .inr ⟨by rw[h3];exact h6,h7⟩
    exact H.store.inj b b' x x' l l' (J b x hx).1 (J b' x' hx').1 (hσs b l hl) (hσs b' l' hl') e
   obtain⟨hent,hcall2⟩:=hF w Y σc _ str I H.wz H.vg (λb hb=>hσn b λh=>by have:=c1 b h;omega) (Hf hσp _ _ c2 hall) hstR;unfold Oper.wp;rw[DZ ho ef hent];refine Calls.mono hcall2 λe w' hh=>?_;obtain⟨cv,Y',σ1,st1L,rfl,hst1,H'⟩:=hh
   obtain⟨σ',H2,hv,hoff⟩:=SW.aey (st':=iW (W.map λb=>(b,jr st1 b)) st) H (T':=T.at id) rfl rfl (λb x hx=>by obtain⟨h1,h2,h3,_⟩:=J b x hx;exact⟨h1,h2,h3⟩) hσs hwin hpas ah H' (λb x hx=>by
    rw[mi,lδ] at hx
    by_cases U:b∈W
    rw[if_pos U] at hx;simp only at hx
    left
    refine⟨?_,by rw[hst1];exact hx⟩;rcases hSout b (hWS b U) with ⟨h1,h2⟩|h1
    left;rw[I,AV,if_pos h1];exact h2
    exact .inr h1
    rw[if_neg U] at hx;simp only at hx
    cases hs:iO str b with
    | none=>exact .inr ⟨rfl,hx⟩
    | some y =>
     obtain⟨h1,h2,h3,h4⟩:=J b y hs;rw[I,AV,if_pos h4] at hs
     left
     refine⟨.inl aB,?_⟩;rw[h1] at hx;cases hx;rw[hst1,hSW b (hSin b h4 (by rw[hs];simp)) U];exact hs) (λb sz rows hb=>by
    rw[mi,lδ] at hb
    by_cases U:b∈W
    rw[if_pos U] at hb;exact hn1 b sz rows hb
    rw[if_neg U] at hb;exact hn b sz rows hb)
   unfold gB at hv;obtain⟨c,cs',e,h6,h7⟩:=hv;cases e;exact hnext cv w' Y' σ' _ H2 (λb=>mi _ _ _) (λb hb=>hoff b (hb.elim .inl λh=>.inr ah)) h6 (λB D hD=>hD.step hstR H')
   rw[mi,lδ,hst];show _=jr (vI (S.map λb=>(b,jr st1 b)) t) b;rw[hgetE]
   by_cases U:b∈W
   rw[if_pos U,if_pos (hWS b U)]
   rw[if_neg U]
   by_cases R:b∈S
   rw[if_pos R,hSW b R U]
   rw[if_neg R]
   ·refine⟨λb sz rows hb=>?_,λb hb=>?_⟩
    rotate_left
    show jr (vI (S.map λb=>(b,jr st1 b)) t) b=none;have hb:g<=b:=hb;rw[hgetE]
    by_cases R:b∈S
    rw[if_pos R];exact hn1b b hb
    rw[if_neg R];exact hnt.2 b ah
    have hb:jr (vI (S.map λb=>(b,jr st1 b)) t) b=some (.kH sz rows):=hb;rw[hgetE] at hb
    by_cases R:b∈S
    rw[if_pos R] at hb;exact hn1 b sz rows hb
    rw[if_neg R] at hb;exact hnt.1 b sz rows hb
   rw[lδ] at hb
   by_cases U:b∈W
   rcases hSout b (hWS b U) with ⟨h1,h2⟩|h1
   exact .inr h2
   exact .inl ah
   rw[if_neg U] at hb;exact absurd rfl hb
   rw[lδ] at hb
   by_cases U:b∈W
   rw[if_pos U] at hb;simp only[Option.some.injEq] at hb;exact hn1 b sz rows hb
   rw[if_neg U] at hb;cases hb
   rw[lδ] at hb
   by_cases U:b∈W
   exact U
   rw[if_neg U] at hb;exact absurd rfl hb
  cases h
 cases h
end
end Go.Pv
