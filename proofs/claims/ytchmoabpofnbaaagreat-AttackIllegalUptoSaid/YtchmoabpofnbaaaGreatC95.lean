import Derived.Test.YtchmoabpofnbaaaGreatC11
set_option linter.all false
namespace Go.Proofs.YtchmoabpofnbaaaGreat
open Go Go.Pv
set_option maxRecDepth 100000
theorem Xo:∀ (a l:List Int),a.Nodup->(∀ x∈a,x∈l)->a.length<=l.length
 | [],_,_,_=>by simp
 | x::a,l,h,hs=>by
  have h1:x∈l:=hs x aC;rw[List.nodup_cons] at h
  have:=Xo a (l.erase x) h.2 λy hy=>by
   have U:y≠x:=λe=>h.1 (e ▸ hy);exact(List.mem_erase_of_ne U).2 (hs y (by simp[hy]))
  rw[List.length_erase_of_mem h1] at this;have:=List.length_pos_of_mem h1;simp only[List.length_cons];omega
theorem nz {α:Type}(l:List α)(n:Nat)(h:n<l.length):l.take (n+1)=l.take n++[l[n]]:=by
 rw[List.take_succ,List.getElem?_eq_getElem h];rfl
theorem zi {α:Type}(l:List α):l.take l.length=l:=List.take_of_length_le (Nat.le_refl _)
def QJ (acc:List Int)(x:Int):List Int:=if 0<=x/\x ∉ acc then acc++[x] else acc
def elF (l:List Int):List Int:=l.foldl QJ []
theorem afA (l:List Int)(i:Nat)(hi:i<l.length):elF (l.take (i+1))=QJ (elF (l.take i)) l[i]:=by
 rw[nz l i hi];unfold elF;rw[List.foldl_append];rfl
theorem acQ:∀ (l acc:List Int),(l.foldl QJ acc).length<=acc.length+l.length
 | [],acc=>by simp
 | x::l,acc=>by
  have:=acQ l (QJ acc x);simp only[List.foldl_cons,List.length_cons];have h2:(QJ acc x).length<=acc.length+1:=by unfold QJ;split<;>simp
  omega
theorem acR:∀ (l acc:List Int) (x:Int),x∈l.foldl QJ acc↔x∈acc\/(x∈l/\0<=x)
 | [],acc,x=>by simp
 | y::l,acc,x=>by
  simp only[List.foldl_cons,acR l,List.mem_cons];unfold QJ;split
  rename_i h;simp only[List.mem_append,List.mem_singleton];constructor
  rintro ((h1|h1)|h1)
  exact .inl h1
  exact .inr ⟨.inl h1,h1 ▸ h.1⟩
  exact .inr ⟨.inr h1.1,h1.2⟩
  rintro (h1|⟨h1|h1,h2⟩)
  exact .inl (.inl h1)
  exact .inl (.inr h1)
  exact .inr ⟨h1,h2⟩
  rename_i h;constructor
  rintro (h1|h1)
  exact .inl h1
  exact .inr ⟨.inr h1.1,h1.2⟩
  rintro (h1|⟨h1|h1,h2⟩)
  exact .inl h1
  subst h1;refine .inl (Classical.byContradiction λhn=>h ⟨h2,hn⟩)
  exact .inr ⟨h1,h2⟩
theorem abv (l:List Int):(elF l).length<=l.length:=by have:=acQ l [];simpa [elF] using this
theorem afB (l:List Int)(x:Int):x∈elF l↔x∈l/\0<=x:=by have:=acR l [] x;simpa [elF] using this
theorem agK (l:List Int)(h:l.Nodup)(h0:∀ x∈l,0<=x):elF l=l:=by
 have:∀ (l acc:List Int),(acc++l).Nodup->(∀ x∈l,0<=x)->l.foldl QJ acc=acc++l:=by
  intro l
  induction l with
  | nil=>intro acc _ _;simp
  | cons x l ih=>
   intro acc h h0
   have h1:x ∉ acc:=λhx=>by
    rw[List.nodup_append] at h;exact h.2.2 x hx x aC rfl
   have:QJ acc x=acc++[x]:=by unfold QJ;rw[if_pos ⟨h0 x aC,h1⟩]
   rw[List.foldl_cons,this,ih _ bW λy hy=>h0 y (by simp[hy])];simp
 exact(this l [] bW h0).trans aC
def nd (needs:List (List Bool))(i j:Int):Bool:=decide (0<=i)&&(decide (0<=j)&&((needs[i.toNat]?.bind λr=>r[j.toNat]?).getD false))
inductive TC (l:List Int) (needs:List (List Bool)):Int->Int->Prop
 | one (i j:Int):i∈l->j∈l->nd needs i j=true->TC l needs i j
 | step (i k j:Int):i∈l->k∈l->nd needs i k=true->TC l needs k j->TC l needs i j
theorem TC.r {l:List Int}{needs:List (List Bool)}{i j:Int}(h:TC l needs i j):j∈l:=by
 induction h with
 | one _ _ _ h _=>exact h
 | step _ _ _ _ _ _ _ U=>exact U
theorem TC.l {l:List Int}{needs:List (List Bool)}{i j:Int}(h:TC l needs i j):i∈l:=by
 cases h with
 | one _ _ h _ _=>exact h
 | step _ _ _ h _ _ _=>exact h
theorem TC.trans {l:List Int}{needs:List (List Bool)}{i j k:Int}(h:TC l needs i j)(h2:TC l needs j k):TC l needs i k:=by
 induction h with
 | one _ _ a b c=>exact .step _ _ _ a b c h2
 | step _ _ _ a b c _ U=>exact .step _ _ _ a b c (U h2)
theorem TC.congr {l l' : List Int}{needs:List (List Bool)}(hl:∀ x,x∈l->x∈l'){i j:Int}(h:TC l needs i j):TC l' needs i j:=by
 induction h with
 | one _ _ a b c=>exact .one _ _ (hl _ a) (hl _ b) c
 | step _ _ _ a b c _ U=>exact .step _ _ _ (hl _ a) (hl _ b) c U
open Classical in
noncomputable def tcB (l:List Int)(needs:List (List Bool))(i j:Int):Bool:=decide (TC l needs i j)
theorem acS {l:List Int}{needs:List (List Bool)}{i j:Int}:tcB l needs i j=true↔TC l needs i j:=by unfold tcB;simp
noncomputable def aak (l:List Int)(needs:List (List Bool))(i j:Int):Bool:=decide (j≠i)&&(nd needs i j&&!tcB l needs j i)
noncomputable def RP (l:List Int)(needs:List (List Bool))(i:Int):Bool:=!(l.any (aak l needs i))
noncomputable def GK (l:List Int)(needs:List (List Bool)):List Int:=l.filter (RP l needs)
def stF (stamps:List Int)(i:Int):Int:=(stamps[i.toNat]?).getD 0
def nx (stamps:List Int)(b x:Int):Int:=if b<0\/stF stamps x<stF stamps b\/(stF stamps x=stF stamps b/\x<b) then x else b
def MF (stamps:List Int)(r:List Int):Int:=r.foldl (nx stamps) (-1)
theorem abw (stamps r:List Int)(i:Nat)(hi:i<r.length):MF stamps (r.take (i+1))=nx stamps (MF stamps (r.take i)) r[i]:=by
 rw[nz r i hi];unfold MF;rw[List.foldl_append];rfl
def before (stamps:List Int)(x y:Int):Prop:=stF stamps x<stF stamps y\/(stF stamps x=stF stamps y/\x<=y)
theorem Vw (stamps:List Int):∀ (r:List Int) (b:Int),(∀ x∈r,0<=x)->(b=-1\/0<=b) ->
  (r.foldl (nx stamps) b=b\/r.foldl (nx stamps) b∈r)/\(0<=b\/r≠[]->0<=r.foldl (nx stamps) b)/\(0<=b->before stamps (r.foldl (nx stamps) b) b)/\∀ x∈r,before stamps (r.foldl (nx stamps) b) x
 | [],b,_,_=>by
  refine⟨.inl rfl,λh=>h.elim id λh=>absurd rfl h,λ_=>.inr ⟨rfl,Int.le_refl _⟩,by simp⟩
 | y::r,b,h0,J=>by
  have hy:=h0 y aC;have hn:0<=nx stamps b y:=by unfold nx;split<;>omega
  obtain⟨h1,h2,I,g⟩:=Vw stamps r (nx stamps b y) (λx hx=>h0 x (by simp[hx])) (.inr hn);have C:=I hn;have U:(nx stamps b y=b\/nx stamps b y=y):=by unfold nx;split<;>simp
  simp only[List.foldl_cons];generalize r.foldl (nx stamps) (nx stamps b y)=q at *
  have T:before stamps (nx stamps b y) y/\(0<=b->before stamps (nx stamps b y) b):=by
   unfold nx before;split
   rename_i h;exact⟨.inr ⟨rfl,Int.le_refl _⟩,λJ=>by omega⟩
   rename_i h;exact⟨by omega,λ_=>.inr ⟨rfl,Int.le_refl _⟩⟩
  refine⟨?_,λ_=>h2 (.inl hn),λJ=>?_,λx hx=>?_⟩
  rcases h1 with h1|h1
  rcases U with U|U
  exact .inl (h1.trans U)
  exact .inr (by rw[h1,U];simp)
  exact .inr (by simp[h1])
  have:=T.2 J;unfold before at *;omega
  rcases List.mem_cons.1 hx with rfl|hx
  have:=T.1;unfold before at *;omega
  exact g x hx
theorem Xp (stamps r:List Int)(h0:∀ x∈r,0<=x)(h:r≠[]):MF stamps r∈r/\0<=MF stamps r:=by
 obtain⟨h1,h2,_,_⟩:=Vw stamps r (-1) h0 (.inl rfl);have:=h2 (.inr h);refine⟨h1.resolve_left λe=>?_,this⟩;rw[e] at this;omega
theorem adA (stamps r:List Int)(h0:∀ x∈r,0<=x):MF stamps r=-1\/0<=MF stamps r:=by
 cases r with
 | nil=>exact .inl rfl
 | cons y r=>exact .inr (Xp stamps _ h0 aC).2
theorem RQ (l:List Int)(needs:List (List Bool))(x:Int)(h:x∈GK l needs):x∈l:=(List.mem_filter.1 h).1
theorem adB (l:List Int)(needs:List (List Bool)):(GK l needs).length<=l.length:=List.length_filter_le _ _
open Classical in
theorem afC (l:List Int)(needs:List (List Bool))(hn:l.Nodup)(hl:l≠[]):GK l needs≠[]:=by
 let m:Int->Nat:=λi=>(l.filter λy=>decide (y=i\/TC l needs i y)).length
 have hex:∃ n,∃ i,i∈l/\m i=n:=by
  cases l with
  | nil=>exact absurd rfl hl
  | cons x l=>exact⟨_,x,by simp,rfl⟩
 obtain⟨n,⟨i,hi,hin⟩,C⟩:∃ n,(∃ i,i∈l/\m i=n)/\∀ k,k<n->¬ ∃ i,i∈l/\m i=k:=by
  obtain⟨n,h⟩:=hex;revert h
  induction n using Nat.strongRecOn with
  | ind n ih=>
   intro h
   by_cases h' : ∃ k,k<n/\∃ i,i∈l/\m i=k
   obtain⟨k,hk,h2⟩:=h';exact ih k hk h2
   exact⟨n,h,λk hk h2=>h' ⟨k,hk,h2⟩⟩
 have hr:RP l needs i=true:=by
  unfold RP;rw[Bool.not_eq_true',List.any_eq_false];intro j hj g;unfold aak at g;simp only[ne_eq,Bool.and_eq_true,decide_eq_true_eq,Bool.not_eq_true'] at g;obtain⟨hne,J,I⟩:=g;have U : ¬ TC l needs j i:=by rw[<- acS];simp[I]
  refine C (m j) ?_ ⟨j,hj,rfl⟩;rw[<- hin]
  have T:∀ x∈i::l.filter (λy=>decide (y=j\/TC l needs j y)),x∈l.filter (λy=>decide (y=i\/TC l needs i y)):=by
   intro x hx;rcases List.mem_cons.1 hx with rfl|hx
   simp[hi]
   simp only[List.mem_filter,decide_eq_true_eq] at hx |-;refine⟨hx.1,.inr ?_⟩;rcases hx.2 with rfl|h2
   exact .one _ _ hi hj J
   exact .step _ _ _ hi hj J h2
  have:=Xo _ _ ?_ T
  simp only[List.length_cons] at this;show(l.filter _).length<(l.filter _).length;omega
  rw[List.nodup_cons];refine⟨λhx=>?_,List.Pairwise.filter _ hn⟩;simp only[List.mem_filter,decide_eq_true_eq] at hx;rcases hx.2 with h2|h2
  exact hne h2.symm
  exact U h2
 intro h;have:i∈GK l needs:=List.mem_filter.2 ⟨hi,hr⟩;rw[h] at this;cases this
theorem NY:∀ (l:List Int) (y:Int),l.Nodup->y∈l->(l.filter λx=>!decide (x=y)).length+1=l.length
 | [],y,_,h=>by cases h
 | x::l,y,hn,h=>by
  rw[List.nodup_cons] at hn
  by_cases e:x=y
  subst e
  have:l.filter (λz=>!decide (z=x))=l:=List.filter_eq_self.2 λz U=>by
   have:z≠x:=λe=>hn.1 (e ▸ U);simp[this]
  simp[this]
  have h2:y∈l:=by rcases List.mem_cons.1 h with h|h;exact absurd h.symm e;exact h
  have:=NY l y hn.2 h2;simp[e];simpa using this
theorem QK (s:List Int)(v:Int)(hs:s.length<4000000):Ok (λr=>(v ∉ s/\r=-1)\/∃ n:Nat,r=(n:Int)/\s[n]?=some v) (slices_Index_int s v):=by
 unfold slices_Index_int;refine pJ 0 s.length (λn=>v ∉ s.take n) 0 rfl (Nat.zero_le _) ah aC ?_ ?_
 intro i k hi U hk;unfold yI;refine gp (λ_=>iM i rfl hi (gp (λe=>?_) λe=>hk ?_)) λh=>absurd (show(i:Int)<(s.length:Int) by omega) h
 exact gm (.inr ⟨i,rfl,by rw[List.getElem?_eq_getElem hi,e]⟩)
 rw[nz s i hi];simp only[List.mem_append,List.mem_singleton];exact λh=>h.elim U e
 intro k U;unfold yI;refine gp (λh=>absurd h dL) λ_=>gm (.inl ⟨by rwa [zi] at U,rfl⟩)
theorem D9 (s:List Int)(v:Int)(hs:s.length<4000000):slices_Contains_int s v=some (decide (v∈s)):=by
 unfold slices_Contains_int;refine ok_eq (gu (QK s v hs) ?_)
 rintro r (⟨h,rfl⟩|⟨n,rfl,h⟩)
 exact gm dM
 have:v∈s:=List.mem_of_getElem? h;exact gm (by simp[this])
theorem aal (l:List Int)(hl:l.length<=2000000):zB l=some (elF l):=by
 unfold zB;refine ok_eq (ku 0 l.length (λn t=>t=elF (l.take n)) 0 rfl (Nat.zero_le _) ah (by simp[elF]) ?_ ?_)
 rintro i t k hi hI hk
 have hlen:t.length<=2000000:=by have:=abv (l.take i);rw[<- hI] at this;simp at this;omega
 unfold zT;refine gp (λ_=>gV (λs=>s=QJ t l[i]) ?_ λs hs=>hk s (by rw[afA l i hi,<- hI];exact hs)) λh=>absurd (show(i:Int)<(l.length:Int) by omega) h;intro k5 h5;refine iM i rfl hi (gV (λs=>s=decide (0<=l[i]/\l[i] ∉ t)) ?_ ?_)
 intro T U;refine gp (λh0=>gY (D9 t _ ah) (U _ ?_)) λh0=>U _ ?_
 by_cases hx:l[i]∈t<;>simp[hx,h0]
 simp[h0]
 rintro s rfl
 refine gp (λh=>jH bf aZ (h5 _ (by unfold QJ;rw[if_pos h]))) λh=>h5 _ (by unfold QJ;rw[if_neg h])
 rintro t k hI
 unfold zT;rw[zi] at hI;refine gp (λh=>absurd h aS) λ_=>gm hI
theorem Xq (needs:List (List Bool))(i j:Int):yZ needs i j=some (nd needs i j):=by
 unfold yZ;refine ok_eq (gp (λhi=>gp (λhj=>?_) λhj=>?_) λhi=>?_)
 obtain⟨a,rfl⟩:=Int.eq_ofNat_of_zero_le hi;obtain⟨b,rfl⟩:=Int.eq_ofNat_of_zero_le hj;unfold nd;refine gp (λh=>?_) λh=>?_
 have U:a<needs.length:=by unfold gJ at h;omega
 refine iM a rfl U (gp (λh2=>?_) λh2=>?_)
 have T:b<(needs[a]).length:=by unfold gJ at h2;omega
 exact iM a rfl U (iM b rfl T (gm (by simp[U,T])))
 have T:(needs[a]).length<=b:=by unfold gJ at h2;omega
 exact gm (by simp[U,List.getElem?_eq_none T])
 have U:needs.length<=a:=by unfold gJ at h;omega
 exact gm (by simp[List.getElem?_eq_none U])
 exact gm (by unfold nd;simp[hj])
 exact gm (by unfold nd;simp[hi])
def Fv (R:List (List Bool))(n:Nat)(g:Nat->List Bool->Prop):Prop:=R.length=n/\∀ (a:Nat) (row:List Bool),R[a]?=some row->g a row
theorem Fv.set {R:List (List Bool)}{n:Nat}{g T : Nat->List Bool->Prop}(h:Fv R n g)(a:Nat)(row:List Bool)(h1:∀ b r,b≠a->b<n->g b r->T b r)(h2:T a row):Fv (R.set a row) n T:=by
 obtain⟨hl,h⟩:=h;refine⟨by simp[hl],λb r U=>?_⟩
 by_cases e:a=b
 subst e;rw[List.getElem?_set_self'] at U
 cases hr:R[a]? with
 | none=>rw[hr] at U;cases U
 | some r0=>rw[hr] at U;cases U;exact h2
 rw[List.getElem?_set_ne e] at U;have J:b<n:=by rw[List.getElem?_eq_some_iff] at U;obtain⟨I,_⟩:=U;omega
 exact h1 b r (λh=>e h.symm) J (h b r U)
def Vx (n:Nat)(f:Nat->Bool)(row:List Bool):Prop:=row.length=n/\∀ (b:Nat) (v:Bool),row[b]?=some v->v=f b
theorem Vx.set {n:Nat}{f f' : Nat->Bool}{row:List Bool}(h:Vx n f row)(b:Nat)(h1:∀ c,c≠b->f' c=f c):Vx n f' (row.set b (f' b)):=by
 obtain⟨hl,h⟩:=h;refine⟨by simp[hl],λc v hc=>?_⟩
 by_cases e:b=c
 subst e;rw[List.getElem?_set_self'] at hc
 cases hr:row[b]? with
 | none=>rw[hr] at hc;cases hc
 | some r0=>rw[hr] at hc;cases hc;rfl
 rw[List.getElem?_set_ne e] at hc;rw[h1 c (λh=>e h.symm)];exact h c v hc
def lg (l:List Int)(a:Nat):Int:=l.getD a 0
theorem Xr {l:List Int}{a:Nat}(h:a<l.length):l[a]=lg l a:=by simp[lg,h]
theorem afD {l:List Int}{a:Nat}(h:a<l.length):lg l a∈l:=by rw[<- Xr h];exact List.getElem_mem h
def Mat (n:Nat)(f:Nat->Nat->Bool)(R:List (List Bool)):Prop:=Fv R n λa row=>Vx n (f a) row
inductive PK (e:Nat->Nat->Prop) (k:Nat):Nat->Nat->Prop
 | one (a b:Nat):e a b->PK e k a b
 | step (a c b:Nat):e a c->c<k->PK e k c b->PK e k a b
theorem PK.split {e:Nat->Nat->Prop}{k a b:Nat}(h:PK e (k+1) a b):PK e k a b\/(PK e k a k/\PK e k k b):=by
 induction h with
 | one a b h=>exact .inl (.one _ _ h)
 | step a c b h hc _ ih=>
  by_cases U:c=k
  subst U;rcases ih with ih|ih
  exact .inr ⟨.one _ _ h,ih⟩
  exact .inr ⟨.one _ _ h,ih.2⟩
  have:c<k:=by omega
  rcases ih with ih|ih
  exact .inl (.step _ _ _ h this ih)
  exact .inr ⟨.step _ _ _ h this ih.1,ih.2⟩
def edge (l:List Int)(needs:List (List Bool))(a b:Nat):Prop:=a<l.length/\b<l.length/\nd needs (lg l a) (lg l b)=true
theorem ajs {l:List Int}{needs:List (List Bool)}{i j:Int}(h:TC l needs i j):∀ a b,a<l.length->b<l.length->lg l a=i->lg l b=j->PK (edge l needs) l.length a b:=by
 induction h with
 | one i j hi hj h=>intro a b J U e1 T;subst e1 T;exact .one _ _ ⟨J,U,h⟩
 | step i k j hi hk h _ ih=>
  intro a b J U e1 T;obtain⟨c,hc,e⟩:=List.getElem_of_mem hk;rw[Xr hc] at e;subst e1 e;exact .step _ c _ ⟨J,hc,h⟩ hc (ih c b hc U rfl T)
theorem Mat.get {n:Nat}{f:Nat->Nat->Bool}{R:List (List Bool)}(h:Mat n f R){a b:Nat}(I:a<n)(J:b<n):∃ (h1:a<R.length) (h2:b<(R[a]).length),(R[a])[b]=f a b:=by
 obtain⟨hl,h⟩:=h;have h1:a<R.length:=by omega
 obtain⟨h2,T⟩:=h a _ (List.getElem?_eq_getElem h1);have U:b<(R[a]).length:=by omega
 exact⟨h1,U,T b _ (List.getElem?_eq_getElem U)⟩
def upM (f:Nat->Nat->Bool)(a b:Nat)(v:Bool)(i j:Nat):Bool:=if i=a/\j=b then v else f i j
theorem Mat.set {n:Nat}{f:Nat->Nat->Bool}{R:List (List Bool)}(h:Mat n f R){a:Nat}(b:Nat)(h1:a<R.length)(v:Bool):Mat n (upM f a b v) (R.set a ((R[a]).set b v)):=by
 have hr:=h.2 a _ (List.getElem?_eq_getElem h1);refine Fv.set h a _ (λi r hi _ hr=>?_) ?_
 have:upM f a b v i=f i:=by funext j;simp[upM,hi]
 rw[this];exact hr
 have e:v=upM f a b v a b:=by simp[upM]
 have:=Vx.set (f':=upM f a b v a) hr b (λc hc=>by simp[upM,hc]);rw[<- e] at this;exact this
theorem afE (l:List Int)(needs:List (List Bool))(hl:l.length<=2000000)(h0:∀ x∈l,0<=x) :
  Ok (λr=>r.1=l/\∃ f,Mat l.length f r.2/\∀ a b,a<l.length->b<l.length->(f a b=true↔TC l needs (lg l a) (lg l b))) (Bd l needs):=by
 unfold Bd;refine JM (n:=l.length) rfl rfl ah ah ?_;refine ku 0 l.length (λn R=>Fv R l.length λa row=>a<n->Vx l.length (λb=>nd needs (lg l a) (lg l b)) row) 0 rfl (Nat.zero_le _) ah ⟨by simp,λ_ _ _ h=>by omega⟩ ?_ ?_
 rintro a R k U hI hk
 unfold zH;refine yC (gp (λ_=>?_) λh=>absurd (show(a:Int)<gJ (List.replicate l.length ([]:List Bool)) by simp[gJ];omega) h);refine JM (n:=l.length) rfl rfl ah ah (yC ?_);have g:a<R.length:=by rw[hI.1];exact U
 refine ja a rfl g (iR g ?_);refine ku 0 l.length (λn R=>Fv R l.length λc row=>(c<a->Vx l.length (λb=>nd needs (lg l c) (lg l b)) row)/\(c=a->row.length=l.length/\∀ b v,b<n->row[b]?=some v->v=nd needs (lg l a) (lg l b))) 0 rfl (Nat.zero_le _) ah ?_ ?_ ?_
 refine Fv.set hI a _ (λb r T _ h=>⟨h,λe=>absurd e T⟩) ⟨λh=>by omega,λ_=>⟨by simp,λb v h=>by omega⟩⟩
 rintro b R' k' T hI' hk'
 unfold zC;have J : a<R'.length:=by rw[hI'.1];exact U
 have I:=(hI'.2 a _ (List.getElem?_eq_getElem J)).2 rfl;have C : b<(R'[a]).length:=by rw[I.1];exact T
 refine gp (λ_=>ja a rfl J (iR J (iM a rfl U (iM b rfl T (gY (Xq _ _ _) (ja b rfl C (iR J (iR C (hk' _ ?_))))))))) λh=>absurd (show(b:Int)<(l.length:Int) by omega) h;refine Fv.set hI' a _ (λc r hc _ h=>⟨h.1,λe=>absurd e hc⟩) ⟨λh=>by omega,λ_=>⟨by simp[I.1],λc v hc hv=>?_⟩⟩;rw[Xr U,Xr T] at hv
 by_cases e:b=c
 subst e;rw[List.getElem?_set_self C] at hv;cases hv;rfl
 rw[List.getElem?_set_ne e] at hv;exact I.2 c v ah hv
 rintro R' k' hI'
 unfold zC;refine gp (λh=>absurd h aS) λ_=>hk _ ⟨hI'.1,λc row hc h=>?_⟩;have:=hI'.2 c row hc
 by_cases e:c=a
 subst e;obtain⟨h1,h2⟩:=this.2 rfl;refine⟨h1,λb v hv=>h2 b v ?_ hv⟩;rw[List.getElem?_eq_some_iff] at hv;obtain⟨h3,_⟩:=hv;omega
 exact this.1 ah
 rintro R k hI
 unfold zH;refine yC (gp (λh=>absurd h (by simp[gJ])) λ_=>?_)
 have hM:Mat l.length (λa b=>nd needs (lg l a) (lg l b)) R:=⟨hI.1,λa row U=>hI.2 a row U (by
  rw[List.getElem?_eq_some_iff] at U;obtain⟨h3,_⟩:=U;rw[<- hI.1];exact h3)⟩
 refine ku 0 l.length (λn R=>∃ f,Mat l.length f R/\(∀ a b,a<l.length->b<l.length->f a b=true->TC l needs (lg l a) (lg l b))/\∀ a b,a<l.length->b<l.length->PK (edge l needs) n a b->f a b=true) 0 rfl (Nat.zero_le _) ah ?_ ?_ ?_
 refine⟨_,hM,λa b U T h=>.one _ _ (afD U) (afD T) h,λa b U T h=>?_⟩
 cases h with
 | one _ _ h=>exact h.2.2
 | step _ c _ _ h _=>omega
 rintro K R' k1 hK ⟨f,hM',hs,hc⟩ hk1
 unfold zG;refine gp (λ_=>?_) λh=>absurd (show(K:Int)<(l.length:Int) by omega) h
 refine ku 0 l.length (λn R=>∃ f,Mat l.length f R/\(∀ a b,a<l.length->b<l.length->f a b=true->TC l needs (lg l a) (lg l b))/\(∀ a b,a<l.length->b<l.length->PK (edge l needs) K a b->f a b=true) /\
   ∀ a b,a<n->b<l.length->PK (edge l needs) K a K->PK (edge l needs) K K b->f a b=true) 0 rfl (Nat.zero_le _) ah ⟨f,hM',hs,hc,λa b h=>by omega⟩ ?_ ?_
 rintro A R2 k2 hA ⟨f2,hM2,hs2,hc2,hd2⟩ hk2
 unfold zF;refine gp (λ_=>?_) λh=>absurd (show(A:Int)<(l.length:Int) by omega) h
 refine ku 0 l.length (λn R=>∃ f,Mat l.length f R/\(∀ a b,a<l.length->b<l.length->f a b=true->TC l needs (lg l a) (lg l b))/\(∀ a b,a<l.length->b<l.length->PK (edge l needs) K a b->f a b=true) /\
  (∀ a b,a<A->b<l.length->PK (edge l needs) K a K->PK (edge l needs) K K b->f a b=true)/\∀ b,b<n->PK (edge l needs) K A K->PK (edge l needs) K K b->f A b=true) 0 rfl (Nat.zero_le _) ah ⟨f2,hM2,hs2,hc2,hd2,λb h=>by omega⟩ ?_ ?_
 rintro B R3 k3 hB ⟨f3,hM3,hs3,hc3,hd3,he3⟩ hk3
 unfold zD;refine gp (λ_=>gV (λs=>∃ f,Mat l.length f s/\f=if f3 A K=true/\f3 K B=true then upM f3 A B true else f3) ?_ ?_) λh=>absurd (show(B:Int)<(l.length:Int) by omega) h
 intro k4 h4;obtain⟨g1,g2,g3⟩:=hM3.get hA hK;obtain⟨g4,g5,g6⟩:=hM3.get hK hB;obtain⟨_,g8,g9⟩:=hM3.get hA hB;refine gV (λs=>s=(f3 A K&&f3 K B)) ?_ ?_
 intro k5 h5;refine ja A rfl g1 (iR g1 (ja K rfl g2 (iR g1 (iR g2 ?_))));rw[g3];refine gz (λh=>?_) λh=>h5 _ dM;refine ja K rfl g4 (iR g4 (ja B rfl g5 (iR g4 (iR g5 ?_))));rw[g6];exact h5 _ dM
 rintro s rfl
 refine gz (λh=>?_) λh=>h4 _ ⟨f3,hM3,?_⟩
 rw[Bool.and_eq_true] at h;refine ja A rfl g1 (iR g1 (ja B rfl g8 (yC (iR g1 (iR g8 (h4 _ ⟨_,hM3.set B g1 true,?_⟩))))));rw[if_pos h]
 rw[if_neg];intro h2;simp[h2.1,h2.2] at h
 rintro s ⟨f4,hM4,e⟩
 have hle:∀ a b,f3 a b=true->f4 a b=true:=by
  intro a b h;rw[e];split
  unfold upM;split<;>simp[h]
  exact h
 refine hk3 _ ⟨f4,hM4,?_,λa b U T h=>hle _ _ (hc3 a b U T h),λa b U T h1 h2=>hle _ _ (hd3 a b U T h1 h2),?_⟩
 intro a b U T h;rw[e] at h
 split at h
 rename_i h2;unfold upM at h
 split at h
 rename_i h3;obtain⟨rfl,rfl⟩:=h3;exact(hs3 _ _ U hK h2.1).trans (hs3 _ _ hK T h2.2)
 exact hs3 a b U T h
 exact hs3 a b U T h
 intro b T h1 h2
 by_cases hbB:b=B
 subst hbB;rw[e,if_pos ⟨hc3 _ _ hA hK h1,hc3 _ _ hK hB h2⟩];simp[upM]
 exact hle _ _ (he3 b ah h1 h2)
 rintro R3 k3 ⟨f3,hM3,hs3,hc3,hd3,he3⟩
 unfold zD;refine gp (λh=>absurd h aS) λ_=>hk2 _ ⟨f3,hM3,hs3,hc3,λa b U T h1 h2=>?_⟩
 by_cases haA:a=A
 subst haA;exact he3 b T h1 h2
 exact hd3 a b ah T h1 h2
 rintro R2 k2 ⟨f2,hM2,hs2,hc2,hd2⟩
 unfold zF;refine gp (λh=>absurd h aS) λ_=>hk1 _ ⟨f2,hM2,hs2,λa b U T h=>?_⟩;rcases h.split with h|⟨h1,h2⟩
 exact hc2 a b U T h
 exact hd2 a b U T h1 h2
 rintro R' k1 ⟨f,hM',hs,hc⟩
 unfold zG;refine gp (λh=>absurd h aS) λ_=>gm ⟨rfl,f,hM',λa b U T=>⟨hs a b U T,λh=>hc a b U T (ajs h a b U T rfl rfl)⟩⟩
theorem adC (l:List Int)(needs:List (List Bool))(hl:l.length<=2000000)(i j:Int)(hi:i∈l)(hj:j∈l)(R:List (List Bool))(f:Nat->Nat->Bool)(hM:Mat l.length f R)(O:∀ a b,a<l.length->b<l.length->(f a b=true↔TC l needs (lg l a) (lg l b))) :
  sO i j l R=some (tcB l needs i j):=by
 unfold sO;refine ok_eq (gu (QK l i ah) ?_)
 rintro y1 (⟨h,_⟩|⟨a,rfl,T⟩)
 exact absurd hi h
 refine gu (QK l j ah) ?_
 rintro y2 (⟨h,_⟩|⟨b,rfl,U⟩)
 exact absurd hj h
 rw[List.getElem?_eq_some_iff] at T U;obtain⟨T,e1⟩:=T;obtain⟨U,J⟩:=U;refine gp (λ_=>gp (λ_=>?_) λh=>absurd ah h) λh=>absurd ah h;obtain⟨g1,g2,g3⟩:=hM.get T U;refine iM a rfl g1 (iM b rfl g2 (gm ?_));rw[g3,<- e1,<- J];have:=O a b T U;rw[<- Xr T,<- Xr U,<- acS] at this;rw[Bool.eq_iff_iff];exact this
theorem Xt (s:List Int)(f:Int->Option Bool)(p:Int->Bool)(hs:s.length<4000000)(O:∀ x∈s,f x=some (p x)):Ok (λr=>((∀ x∈s,p x=false)/\r=-1)\/∃ n:Nat,r=(n:Int)/\(∀ x∈s.take n,p x=false)/\∃ x,s[n]?=some x/\p x=true) (oW s f):=by
 unfold oW;refine pJ 0 s.length (λn=>∀ x∈s.take n,p x=false) 0 rfl (Nat.zero_le _) ah aC ?_ ?_
 intro i k hi U hk;unfold uO;refine gp (λ_=>iM i rfl hi (gY (O _ (List.getElem_mem hi)) (gz (λe=>?_) λe=>hk ?_))) λh=>absurd (show(i:Int)<(s.length:Int) by omega) h
 exact gm (.inr ⟨i,rfl,U,_,List.getElem?_eq_getElem hi,e⟩)
 intro x hx;rw[nz s i hi] at hx;rcases List.mem_append.1 hx with h|h
 exact U x h
 rw[List.mem_singleton.1 h];exact e
 intro k U;unfold uO;rw[zi] at U;refine gp (λh=>absurd h dL) λ_=>gm (.inl ⟨U,rfl⟩)
theorem YH (s:List Int)(f:Int->Option Bool)(p:Int->Bool)(hs:s.length<4000000)(O:∀ x∈s,f x=some (p x)):qO s f=some (s.any p):=by
 unfold qO;refine ok_eq (gu (Xt s f p hs O) ?_)
 rintro r (⟨h,rfl⟩|⟨n,rfl,h1,x,h2,h3⟩)
 refine gm ?_;have:s.any p=false:=by rw[List.any_eq_false];intro x hx;simp[h x hx]
 rw[this];rfl
 refine gm ?_;have:s.any p=true:=List.any_eq_true.2 ⟨x,List.mem_of_getElem? h2,h3⟩;rw[this];simp
theorem afF (left:List Int)(needs:List (List Bool))(hl:left.length<=2000000):Fg left needs=some (GK (elF left) needs):=by
 unfold Fg;have hlen:(elF left).length<=2000000:=Nat.le_trans (abv left) hl;refine ok_eq (gY (aal left hl) (gu (afE (elF left) needs hlen λx hx=>((afB left x).1 hx).2) ?_))
 rintro⟨l',R⟩ ⟨e,f,hM,O⟩
 simp only at e hM;subst e;generalize hE:elF left=l at *;refine ku 0 l.length (λn t=>t=(l.take n).filter (RP l needs)) 0 rfl (Nat.zero_le _) ah aC ?_ ?_
 rintro a t k ha hI hk
 have T:t.length<=2000000:=by have:=List.length_filter_le (RP l needs) (l.take a);rw[<- hI] at this;simp at this;omega
 have hs:(l.take (a+1)).filter (RP l needs)=t++(if RP l needs l[a]=true then [l[a]] else []):=by
  rw[nz l a ha,List.filter_append,<- hI];congr 1
  by_cases h:RP l needs l[a]=true<;>simp[h]
 unfold Es;refine gp (λ_=>gV (λs=>s=(l.take (a+1)).filter (RP l needs)) ?_ λs hs=>hk s hs) λh=>absurd (show(a:Int)<(l.length:Int) by omega) h;intro k7 U;refine iM a rfl ha (gY (YH l _ (aak l needs l[a]) ah λx hx=>?_) (gz (λh=>?_) λh=>?_))
 unfold xC;refine ok_eq (lU (λh=>gY (Xq _ _ _) (gz (λh2=>gY (adC l needs hlen x _ hx (List.getElem_mem ha) R f hM O) (gm ?_)) λh2=>gm ?_)) λh=>gm ?_)
 unfold aak;simp only[h2,ne_eq,h,not_false_eq_true,decide_true,Bool.true_and];cases tcB l needs x l[a]<;>rfl
 unfold aak;simp[h2]
 unfold aak;simp[h]
 have h2:RP l needs l[a]=true:=by unfold RP;cases hh:l.any (aak l needs l[a])<;>simp_all
 refine jH bf aZ (U _ ?_);rw[hs,if_pos h2]
 have h2:¬ RP l needs l[a]=true:=by unfold RP;cases hh:l.any (aak l needs l[a])<;>simp_all
 refine U _ ?_;rw[hs,if_neg h2];simp
 rintro t k hI
 unfold Es;rw[zi] at hI;refine gp (λh=>absurd h aS) λ_=>gm hI
theorem aam (stamps:List Int)(i:Int)(h:0<=i):Be stamps i=some (stF stamps i):=by
 obtain⟨a,rfl⟩:=Int.eq_ofNat_of_zero_le h;unfold Be stF;refine ok_eq (gp (λh=>?_) λh=>?_)
 have U:a<stamps.length:=by unfold gJ at h;omega
 exact iM a rfl U (gm (by simp[U]))
 have U:stamps.length<=a:=by unfold gJ at h;omega
 exact gm (by simp[List.getElem?_eq_none U])
theorem agL (left stamps:List Int)(needs:List (List Bool))(hl:left.length<=2000000):Ig left stamps needs=some (MF stamps (GK (elF left) needs)):=by
 unfold Ig;refine ok_eq (gY (afF left needs hl) ?_);have h0:∀ x∈GK (elF left) needs,0<=x:=λx hx=>((afB left x).1 (RQ _ _ _ hx)).2;have hlen:(GK (elF left) needs).length<=2000000:=Nat.le_trans (adB _ _) (Nat.le_trans (abv left) hl);generalize GK (elF left) needs=r at *;refine JO 0 r.length (λn b=>b=MF stamps (r.take n)) 0 rfl (Nat.zero_le _) ah rfl ?_ ?_
 rintro a b k ha hI hk
 have I:b=-1\/0<=b:=by rw[hI];exact adA stamps _ λx hx=>h0 x (List.mem_of_mem_take hx)
 have hx:=h0 _ (List.getElem_mem ha);unfold Gq;refine gp (λ_=>gV (λs=>s=nx stamps b r[a]) ?_ λs hs=>hk s (by rw[abw stamps r a ha,<- hI];exact hs)) λh=>absurd (show(a:Int)<(r.length:Int) by omega) h;intro k6 J;refine iM a rfl ha (gp (λh=>J _ (by unfold nx;rw[if_pos (.inl h)])) λh=>?_);simp only at h;refine gY (aam _ _ hx) (gY (aam _ _ (by show 0<=b;omega)) ?_);refine gV (λs=>s=decide (stF stamps r[a]<stF stamps b\/(stF stamps r[a]=stF stamps b/\r[a]<b))) ?_ ?_
 intro k12 U;refine gp (λh2=>U _ (by simp[show stF stamps r[a]<stF stamps b from h2])) λh2=>gp (λT=>U _ ?_) λT=>U _ ?_
 simp[show ¬ stF stamps r[a]<stF stamps b from h2,show stF stamps r[a]=stF stamps b from T]
 simp[show ¬ stF stamps r[a]<stF stamps b from h2,show ¬ stF stamps r[a]=stF stamps b from T]
 rintro s rfl
 refine gp (λh2=>J _ (by unfold nx;rw[if_pos (.inr h2)])) λh2=>J _ (by unfold nx;rw[if_neg (by
  rintro (T|T);· exact h T
  exact h2 T)])
 rintro b k hI
 unfold Gq;rw[zi] at hI;refine gp (λh=>absurd h (by show ¬ (r.length:Int)<(r.length:Int);omega)) λ_=>gm hI
theorem adD (s:List Int)(f:Int->Option Bool)(p:Int->Bool)(hs:s.length<4000000)(O:∀ x∈s,f x=some (p x)):qw s f=some (s.filter λx=>!p x):=by
 unfold qw;refine ok_eq (gu (Xt s f p hs O) ?_)
 rintro r (⟨h,rfl⟩|⟨n,rfl,h1,x,h2,h3⟩)
 refine gp (λ_=>gm ?_) λh=>absurd rfl h;exact(List.filter_eq_self.2 λx hx=>by simp[h x hx]).symm
 rw[List.getElem?_eq_some_iff] at h2;obtain⟨hn,e⟩:=h2;refine gp (λh=>absurd h ah) λ_=>?_;rw[lG ah]
 refine je (λst=>∃ i j:Nat,st.1=(i:Int)/\st.2.1=(j:Int)/\i<=j/\j<=s.length/\st.2.2.length=s.length/\st.2.2.take i=(s.take j).filter (λx=>!p x)/\st.2.2.drop j=s.drop j) (λst=>4000000-st.2.1.toNat)
  ⟨n,n+1,rfl,rfl,by omega,by omega,rfl,?_,rfl⟩ (by show 4000000-_<18446744073709551616;omega) ?_
 rw[nz s n hn,List.filter_append,List.filter_eq_self.2 (λx hx=>by simp[h1 x hx])];rw[e];simp[h3]
 rintro⟨i',j',U⟩ k ⟨i,j,e1,e2,hij,hj,hl,ht,hd⟩ hk
 simp only at e1 e2 hl ht hd;subst e1 e2;unfold uz;refine gp (λh=>?_) λh=>?_
 have I:j<s.length:=by simp only[gJ] at h;omega
 have J:j<U.length:=by omega
 have T:i<U.length:=by omega
 have C:U[j]=s[j]:=by
  have:(U.drop j)[0]?=(s.drop j)[0]?:=by rw[hd]
  simp only[List.getElem?_drop,Nat.add_zero,List.getElem?_eq_getElem J,List.getElem?_eq_getElem I] at this;exact Option.some.inj this
 have hts:(s.take (j+1)).filter (λx=>!p x)=U.take i++(if p s[j]=true then [] else [s[j]]):=by
  rw[nz s j I,List.filter_append,ht];congr 1
  by_cases h:p s[j]=true<;>simp[h]
 have g:∀ m:Nat,U.drop (j+1+m)=s.drop (j+1+m):=by
  intro m;have:(U.drop j).drop (1+m)=(s.drop j).drop (1+m):=by rw[hd]
  rw[List.drop_drop,List.drop_drop] at this;rw[show j+1+m=j+(1+m) by omega];exact this
 refine gV (λu=>∃ i2:Nat,u.1=(i2:Int)/\i2<=j+1/\u.2.length=s.length/\u.2.take i2=(s.take (j+1)).filter (λx=>!p x)/\u.2.drop (j+1)=s.drop (j+1)) ?_ ?_
 intro k6 h6;refine ja j rfl J (iR J ?_);rw[C];refine gY (O _ (List.getElem_mem I)) (gz (λh=>?_) λh=>?_)
 have hp:p s[j]=false:=by cases hh:p s[j]<;>simp_all
 refine ja i rfl T (iR T ?_);refine h6 _ ⟨i+1,lG ah,by omega,by simp[hl],?_,?_⟩
 simp only;rw[hts,nz _ i (by simp;exact T)];simp only[List.take_set,List.getElem_set_self,hp,Bool.false_eq_true,if_false];rw[List.set_eq_of_length_le bg]
 simp only;rw[List.drop_set_of_lt ah];exact g 0
 have hp:p s[j]=true:=by cases hh:p s[j]<;>simp_all
 refine h6 _ ⟨i,rfl,by omega,hl,?_,g 0⟩;rw[hts];simp[hp]
 rintro⟨u1,u2⟩ ⟨i2,e,h1,h2,h3,h4⟩
 simp only at e h2 h3 h4;subst e;refine hk _ ⟨i2,j+1,rfl,lG ah,h1,by omega,h2,h3,h4⟩ ?_;simp only;rw[lG ah];simp only[Int.toNat_natCast];omega
 have hjn:j=s.length:=by simp only[gJ] at h;omega
 subst hjn;refine abl (i:=i) (j:=U.length) rfl rfl ah (by show U.length<=U.length;omega) (yC (abl (i:=0) (j:=i) rfl rfl ah (by show i<=U.length;omega) (gm ?_)));simp only[Nat.zero_add,Nat.sub_zero];rw[zi] at ht;unfold Um aaJ;rw[<- ht];simp only[List.drop_zero,List.append_assoc];rw[List.take_append_of_le_length bg,List.take_take];simp
end Go.Proofs.YtchmoabpofnbaaaGreat
