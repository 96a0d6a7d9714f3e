import Derived.Test.YtchmoabpofnbaaaGreatD10
import Derived.Test.YtchmoabpofnbaaaGreatD104
set_option linter.all false
namespace Go.Proofs.YtchmoabpofnbaaaGreat
open Go Go.Pv
set_option maxRecDepth 100000
structure SL {α:Type}(N:Nat)(P:α->Prop)(l:List α):Prop where
 len:l.length=N
 all:∀ x∈l,P x
theorem SL.set {α:Type}{N:Nat}{P:α->Prop}{l:List α}(h:SL N P l)(i:Nat){x:α}(T:P x):SL N P (l.set i x):=⟨by simp[h.len],λy hy=>by
 rcases List.mem_or_eq_of_mem_set hy with hy|hy
 exact h.all y hy
 grind⟩
theorem SL.get {α:Type}{N:Nat}{P:α->Prop}{l:List α}(h:SL N P l){i:Nat}(hi:i<l.length):P l[i]:=h.all _ (List.getElem_mem hi)
theorem VU {i j:Nat}(h:i+j<4611686018427387904):jU .shr .u64 (IntKind.wrap .u64 (fK (i:Int) (j:Int))) 1=some (((i+j) / 2:Nat):Int):=by
 have e:fK (i:Int) (j:Int)=((i+j:Nat):Int):=by grind[wH]
 rw[e];have T:IntKind.wrap .u64 ((i+j:Nat):Int)=((i+j:Nat):Int):=by rw[IntKind.wrap_u64];omega
 rw[T];show some (Int.fdiv ((i+j:Nat):Int) (2 ^ (min (1:Int).toNat 64)))=_
 grind
theorem wrapN {m:Nat}(h:m<4611686018427387904):IntKind.wrap .i64 (m:Int)=(m:Int):=wrap_in ae ae
theorem addN {a b:Nat}(h:a+b<4611686018427387904):fK (a:Int) (b:Int)=((a+b:Nat):Int):=by grind[wH]
theorem Us {a b:Nat}(h:b<=a)(h2:a<4611686018427387904):rP (a:Int) (b:Int)=((a-b:Nat):Int):=by grind[EJ]
theorem ach {a:Nat}(h:1<=a)(h2:a<4611686018427387904):rP (a:Int) 1=((a-1:Nat):Int):=by grind[EJ]
section
variable {N:Nat}{P:dV->Prop}{cmp:dV->dV->Option Int}(hN:N<=1000000000000)(hc:∀ x y,Ok (λ_=>True) (cmp x y))
include hN hc
theorem Xv {l:List dV}{a b:Nat}(hl:SL N P l)(g:a<=b)(hb:b<=N):Ok (SL N P) (jg l a b cmp):=by
 unfold jg;rw[iY ae];refine kF (λs=>∃ i:Nat,s.1=(i:Int)/\a<i/\SL N P s.2) (λs=>b-s.1.toNat) ⟨a+1,rfl,by omega,hl⟩ (by show b-_<18446744073709551616;omega) ?_
 rintro⟨i',d⟩ k ⟨i,e,hi,T⟩ hk
 simp only at e T;subst e;unfold nI;refine dY (λh=>?_) λ_=>dX T;have hib:i<b:=by simpa using h
 refine kF (λs=>∃ j:Nat,s.1=(j:Int)/\a<=j/\j<=i/\SL N P s.2) (λs=>s.1.toNat) ⟨i,rfl,by omega,by omega,T⟩ (by show i<18446744073709551616;omega) ?_
 rintro⟨j',d⟩ k2 ⟨j,e,J,hji,T⟩ hk2
 simp only at e T;subst e;have hL:=T.len;unfold nH;refine gu (λc=>c=true->a<j) (λk8 t=>?_) λc C=>gq (λI=>?_) λ_=>hk _ ⟨i+1,iY ae,by omega,T⟩ dw
 refine dY (λh=>?_) λ_=>t _ λh=>by cases h
 have J:a<j:=by simpa using h
 simp only[ach (show 1<=j by omega) ae];exact iD j rfl ae (gY ae (iD (j-1) rfl ae (gY ae (fB (hc _ _) λ_ _=>t _ λ_=>J))))
 have J:=C I;simp only[ach (show 1<=j by omega) ae];refine iD (j-1) rfl ae (gY ae (iD j rfl ae (gY ae (iD j rfl ae (gY ae (iD (j-1) rfl ae (gY aU (hk2 _ ⟨j-1,rfl,by omega,by omega,?_⟩ ?_))))))))
 exact(T.set j (T.get _)).set (j-1) (T.get _)
 grind
theorem Ut {l:List dV}{a b n:Nat}(J:SL N P l)(C:a+n<=N)(I:b+n<=N):Ok (SL N P) (jk l a b n cmp):=by
 unfold jk;refine jA 0 n (λ_ d=>SL N P d) 0 rfl (Nat.zero_le _) ae J (λi d k hi T hk=>?_) λd k T=>?_
 have t:=T.len;unfold lV;simp only[addN (show a+i<4611686018427387904 by omega),addN (show b+i<4611686018427387904 by omega)];refine dY (λ_=>iD (b+i) rfl ae (gY ae (iD (a+i) rfl ae (gY ae (iD (a+i) rfl ae (gY ae (iD (b+i) rfl ae (gY aU (hk _ ?_))))))))) λh=>absurd (show(i:Int)<(n:Int) by omega) h;exact(T.set _ (T.get _)).set _ (T.get _)
 grind[lV,dY,dX]
theorem adI {l:List dV}{a m b:Nat}(g:SL N P l)(C:a<m)(hmb:m<b)(hb:b<=N):Ok (SL N P) (jZ l a m b cmp):=by
 unfold jZ;rw[Us ae ae,Us ae ae];refine kF (λs=>∃ i j:Nat,s.1=(i:Int)/\s.2.1=(j:Int)/\(0<i/\i<=m)/\(0<j/\m+j<=b)/\SL N P s.2.2) (λs=>s.1.toNat+s.2.1.toNat) ⟨m-a,b-m,rfl,rfl,by omega,by omega,g⟩ (by simp only[Int.toNat_natCast];show _<18446744073709551616;omega) ?_
 rintro⟨i',j',d⟩ k ⟨i,j,e1,I,hi,hj,J⟩ hk
 simp only at e1 I J;subst e1 I;unfold mY;refine rQ (λt=>dY (λh=>?_) λh=>?_) λhe=>?_
 have h:j<i:=by simpa using h
 simp only[Us (show i<=m by omega) ae,Us (show j<=i by omega) ae];exact fB (Ut hN hc J ae ae) λd2 T=>hk _ ⟨i-j,j,rfl,rfl,by omega,by omega,T⟩ ai
 have h:i<j:=by grind
 simp only[Us (show i<=m by omega) ae,addN (show m+j<4611686018427387904 by omega),Us (show i<=m+j by omega) ae,Us (show i<=j by omega) ae];exact fB (Ut hN hc J ae ae) λd2 T=>hk _ ⟨i,j-i,rfl,rfl,by omega,by omega,T⟩ ai
 have h:i=j:=by grind
 simp only[Us (show i<=m by omega) ae];exact fB (Ut hN hc J ae ae) λd2 T=>dX T
theorem MX:∀ (n:Nat) {l:List dV} {a m b:Nat},SL N P l->a<m->m<b->b<=N->b-a<=2 ^ n->Ok (SL N P) (iP n l a m b cmp)
 | 0,l,a,m,b,_,h1,h2,_,h3=>by grind
 | n+1,l,a,m,b,hl,h1,h2,hb,h3=>by
  have hL:=hl.len;have h3:b-a<=2*2 ^ n:=by grind
  unfold iP mM;simp only[Us (show a<=m by omega) ae,Us (show m<=b by omega) ae];refine dY (λ_=>?_) λ_=>dY (λ_=>?_) λ_=>?_
  refine kF (λs=>∃ i j:Nat,s.1=(i:Int)/\s.2=(j:Int)/\m<=i/\i<=j/\j<=b) (λs=>(s.2-s.1).toNat) ⟨m,b,rfl,rfl,by omega,by omega,by omega⟩ (by show((b:Int)-(m:Int)).toNat<18446744073709551616;omega) ?_
  rintro⟨i',j'⟩ k ⟨i,j,e1,I,hi,hij,hj⟩ hk
  simp only at e1 I;subst e1 I;unfold l7;refine dY (λh=>?_) λ_=>?_
  have h:i<j:=by simpa using h
  refine eP (VU ae) ?_;have g1:i<=(i+j) / 2:=by omega
  have g2:(i+j) / 2<j:=by omega
  generalize (i+j) / 2=c at g1 g2;simp only[wrapN (show c<4611686018427387904 by omega)];refine iD c rfl ae (gY ae (iD a rfl ae (gY ae (fB (hc _ _) λ_ _=>dY (λ_=>hk _ ⟨c+1,j,iY ae,rfl,by omega,by omega,hj⟩ ?_) λ_=>hk _ ⟨i,c,rfl,rfl,hi,by omega,by omega⟩ ?_))))
  grind[iY]
  grind
  refine kF (λs=>∃ p:Nat,s.1=(p:Int)/\SL N P s.2) (λs=>i-s.1.toNat) ⟨a,rfl,hl⟩ (by show i-_<18446744073709551616;omega) ?_
  rintro⟨p',d⟩ k3 ⟨p,e,T⟩ hk3
  simp only at e T;subst e;have hL:=T.len;unfold lZ;simp only[ach (show 1<=i by omega) ae];refine dY (λh=>?_) λ_=>dX T;have h:p<i-1:=by simpa using h
  simp only[iY (show p<4611686018427387904 by omega)];refine iD (p+1) rfl ae (gY ae (iD p rfl ae (gY ae (iD p rfl ae (gY ae (iD (p+1) rfl ae (gY aU (hk3 _ ⟨p+1,rfl,(T.set _ (T.get _)).set _ (T.get _)⟩ ?_))))))))
  grind
  refine kF (λs=>∃ i j:Nat,s.1=(i:Int)/\s.2=(j:Int)/\i<=j/\j<=m) (λs=>(s.2-s.1).toNat) ⟨a,m,rfl,rfl,by omega,by omega⟩ (by show((m:Int)-(a:Int)).toNat<18446744073709551616;omega) ?_
  rintro⟨i',j'⟩ k ⟨i,j,e1,I,hij,hj⟩ hk
  simp only at e1 I;subst e1 I;unfold mg;refine dY (λh=>?_) λ_=>?_
  have h:i<j:=by simpa using h
  refine eP (VU ae) ?_;have g1:i<=(i+j) / 2:=by omega
  have g2:(i+j) / 2<j:=by omega
  generalize (i+j) / 2=c at g1 g2;simp only[wrapN (show c<4611686018427387904 by omega)];refine iD m rfl ae (gY ae (iD c rfl ae (gY ae (fB (hc _ _) λ_ _=>gq (λ_=>hk _ ⟨c+1,j,iY ae,rfl,by omega,hj⟩ ?_) λ_=>hk _ ⟨i,c,rfl,rfl,by omega,by omega⟩ ?_))))
  grind[iY]
  grind
  refine kF (λs=>∃ p:Nat,s.1=(p:Int)/\p<=m/\SL N P s.2) (λs=>s.1.toNat) ⟨m,rfl,by omega,hl⟩ (by show m<18446744073709551616;omega) ?_
  rintro⟨p',d⟩ k3 ⟨p,e,hp,T⟩ hk3
  simp only at e T;subst e;have hL:=T.len;unfold l9;refine dY (λh=>?_) λ_=>dX T;have h:i<p:=by simpa using h
  simp only[ach (show 1<=p by omega) ae];refine iD (p-1) rfl ae (gY ae (iD p rfl ae (gY ae (iD p rfl ae (gY ae (iD (p-1) rfl ae (gY aU (hk3 _ ⟨p-1,rfl,by omega,(T.set _ (T.get _)).set _ (T.get _)⟩ ?_))))))))
  grind
  refine eP (VU ae) ?_;have q1:2*((a+b) / 2)<=a+b:=by omega
  have q2:a+b<=2*((a+b) / 2)+1:=by omega
  generalize (a+b) / 2=c at q1 q2;simp only[wrapN (show c<4611686018427387904 by omega),addN (show c+m<4611686018427387904 by omega)];refine gu (λs=>∃ i j:Nat,s.1=(i:Int)/\s.2=(j:Int)/\a<=i/\c+m<=b+i/\i<=j/\j<=c+m/\(∀ x,i<=x->x<j->x<c+m/\c+m-1-x<N/\x<N)) (λk43 h43=>?_) λs hs=>?_
  refine dY (λh=>?_) λh=>?_
  have h:c<m:=by simpa using h
  rw[Us (show b<=c+m by omega) ae];exact h43 _ ⟨c+m-b,c,rfl,rfl,by omega,by omega,by omega,by omega,λx hx0 g=>by omega⟩
  have h:m<=c:=by grind
  exact h43 _ ⟨a,m,rfl,rfl,by omega,by omega,by omega,by omega,λx hx0 g=>by omega⟩
  obtain⟨i0,j0,e1,I,g1,g2,g3,g4,g5⟩:=hs;rw[e1,I];refine kF (λs=>∃ i j:Nat,s.1=(i:Int)/\s.2=(j:Int)/\i0<=i/\i<=j/\j<=j0) (λs=>(s.2-s.1).toNat) ⟨i0,j0,rfl,rfl,by omega,g3,by omega⟩ (by show((j0:Int)-(i0:Int)).toNat<18446744073709551616;omega) ?_
  rintro⟨i',j'⟩ k ⟨i,j,e1,I,hi,hij,hj⟩ hk
  simp only at e1 I;subst e1 I;unfold mi;simp only[wrapN (show c<4611686018427387904 by omega),addN (show c+m<4611686018427387904 by omega),ach (show 1<=c+m by omega) ae];refine dY (λh=>?_) λ_=>?_
  have h:i<j:=by simpa using h
  refine eP (VU ae) ?_;have r1:i<=(i+j) / 2:=by omega
  have r2:(i+j) / 2<j:=by omega
  generalize (i+j) / 2=x at r1 r2;obtain⟨r3,r4,r5⟩:=g5 x ae ae;simp only[wrapN (show x<4611686018427387904 by omega),Us (show x<=c+m-1 by omega) ae];refine BN (iD (c+m-1-x) rfl ae (gY ae (iD x rfl ae (gY ae (fB (hc _ _) λ_ _=>gq (λ_=>hk _ ⟨x+1,j,iY ae,rfl,by omega,by omega,hj⟩ ?_) λ_=>hk _ ⟨i,x,rfl,rfl,hi,by omega,by omega⟩ ?_)))))
  grind[iY]
  grind
  simp only[Us (show i<=c+m by omega) ae];refine gu (SL N P) (λk56 h56=>?_) λd T=>?_
  refine gu (λc2=>c2=true->i<m/\m<c+m-i) (λk59 h59=>?_) λc2 t=>gq (λC=>?_) λ_=>h56 _ hl
  refine dY (λg=>h59 _ λhy=>⟨by simpa using g,by grind⟩) λ_=>h59 _ λh=>by cases h
  obtain⟨p1,p2⟩:=t C;exact fB (adI hN hc hl p1 p2 ae) λd T=>h56 _ T
  refine gu (SL N P) (λk63 h63=>?_) λd2 J=>QK λv hv=>gq (λhv2=>?_) λ_=>dX J
  refine gu (λc2=>c2=true->a<i/\i<c) (λk66 h66=>?_) λc2 t=>gq (λC=>?_) λ_=>h63 _ T
  exact dY (λg=>h66 _ λhy=>⟨by simpa using g,by grind⟩) λ_=>h66 _ λh=>by cases h
  obtain⟨p1,p2⟩:=t C;exact fB (MX n T p1 p2 ae ae) λd2 J=>h63 _ J
  rw[hv] at hv2;have p1:c<c+m-i:=by grind
  refine dY (λh=>?_) λ_=>dX J;have p2:c+m-i<b:=by simpa using h
  exact fB (MX n J p1 p2 hb ae) λd3 hd3=>dX hd3
theorem Zc {l:List dV}{a m b:Nat}(T:SL N P l)(h1:a<m)(h2:m<b)(J:b<=N):Ok (SL N P) (lL l a m b cmp) :=
 MX hN hc 70 T h1 h2 J ai
theorem adJ {l:List dV}(hl:SL N P l):Ok (SL N P) (ku l N cmp):=by
 unfold ku;refine kF (λs=>∃ i:Nat,s.1=(i:Int)/\s.2.1=((i+20:Nat):Int)/\i<=N/\SL N P s.2.2) (λs=>N-s.1.toNat) ⟨0,rfl,rfl,by omega,hl⟩ (by show N-_<18446744073709551616;omega) ?_
 rintro⟨i',j',d⟩ k ⟨i,e1,C,hi,J⟩ hk
 simp only at e1 C J;subst e1 C;unfold ni;refine dY (λh=>?_) λh=>?_
 have h:i+20<=N:=by grind
 refine fB (Xv hN hc J ae h) λd2 T=>hk _ ⟨i+20,rfl,?_,h,T⟩ ai
 grind[wH]
 refine fB (Xv hN hc J ae (Nat.le_refl N)) λd2 T=>?_;refine kF (λs=>∃ z:Nat,s.1=(z:Int)/\20<=z/\z<=2*N+20/\SL N P s.2) (λs=>2*N+20-s.1.toNat) ⟨20,rfl,by omega,by omega,T⟩ (by show 2*N+20-_<18446744073709551616;omega) ?_
 rintro⟨z',d⟩ k2 ⟨z,e,hz,t,J⟩ hk2
 simp only at e J;subst e;unfold ng;refine dY (λh=>?_) λ_=>dX J;have h:z<N:=by simpa using h
 have C:RG 2 (z:Int)=((2*z:Nat):Int):=by grind[ae3]
 have g:RG (z:Int) 2=((2*z:Nat):Int):=by grind[ae3]
 simp only[C];refine kF (λs=>∃ i:Nat,s.1=(i:Int)/\s.2.1=((i+2*z:Nat):Int)/\i<=N/\SL N P s.2.2) (λs=>N-s.1.toNat) ⟨0,rfl,by simp,by omega,J⟩ (by show N-_<18446744073709551616;omega) ?_
 rintro⟨i',j',d⟩ k3 ⟨i,f1,f2,hi,J⟩ hk3
 simp only at f1 f2 J;subst f1 f2;unfold mZ;simp only[C,g,addN (show i+z<4611686018427387904 by omega)];refine dY (λh=>?_) λh=>?_
 have h:i+2*z<=N:=by grind
 refine fB (Zc hN hc J ae ae h) λd2 T=>hk3 _ ⟨i+2*z,rfl,?_,h,T⟩ ai;show fK ((i+2*z:Nat):Int) ((2*z:Nat):Int)=_;rw[addN ae]
 have h:N<i+2*z:=by grind
 refine gu (SL N P) (λk14 I=>dY (λh2=>?_) λ_=>I _ J) λd2 T=>hk2 _ ⟨2*z,rfl,by omega,by omega,T⟩ ai;have h2:i+z<N:=by grind
 exact fB (Zc hN hc J ae h2 (Nat.le_refl N)) λd2 T=>I _ T
end
theorem ahU {P:dV->Prop}{cmp:dV->dV->Option Int}(hc:∀ x y,Ok (λ_=>True) (cmp x y)){l:List dV}(I:l.length<=1000000000000)(T:∀ x∈l,P x):Ok (SL l.length P) (jV l cmp):=by
 unfold jV;exact fB (adJ I hc ⟨rfl,T⟩) λd J=>dX J
theorem Ld:∀ (a l:List Int),a.Nodup->(∀ x∈a,x∈l)->a.length<=l.length
 | [],_,_,_=>by simp
 | x::a,l,h,hs=>by
  have h1:x∈l:=hs x aj;rw[List.nodup_cons] at h
  have:=Ld a (l.erase x) h.2 λy hy=>by
   grind
  grind
theorem gQ {α:Type}(l:List α)(n:Nat)(h:n<l.length):l.take (n+1)=l.take n++[l[n]]:=by
 simp_all
theorem oh {α:Type}(l:List α):l.take l.length=l:=List.take_of_length_le (Nat.le_refl _)
def OI (acc:List Int)(x:Int):List Int:=if 0<=x/\x ∉ acc then acc++[x] else acc
def elF (l:List Int):List Int:=l.foldl OI []
theorem aci (l:List Int)(i:Nat)(hi:i<l.length):elF (l.take (i+1))=OI (elF (l.take i)) l[i]:=by
 grind[gQ,elF]
theorem ae4:∀ (l acc:List Int),(l.foldl OI acc).length<=acc.length+l.length
 | [],acc=>by simp
 | x::l,acc=>by
  have:=ae4 l (OI acc x)
  grind[OI]
theorem Zd:∀ (l acc:List Int),acc.Nodup->(l.foldl OI acc).Nodup
 | [],acc,h=>h
 | x::l,acc,h=>by
  simp only[List.foldl_cons];refine Zd l _ ?_
  grind[OI]
theorem ae5:∀ (l acc:List Int) (x:Int),x∈l.foldl OI acc↔x∈acc\/(x∈l/\0<=x)
 | [],acc,x=>by simp
 | y::l,acc,x=>by
  simp only[List.foldl_cons,ae5 l,List.mem_cons];unfold OI;grind
theorem Uu (l:List Int):(elF l).length<=l.length:=by grind[ae4,elF]
theorem ahV (l:List Int):(elF l).Nodup:=Zd l [] aj
theorem aaD (l:List Int)(x:Int):x∈elF l↔x∈l/\0<=x:=by grind[ae5,elF]
theorem ajW (l:List Int)(h:l.Nodup)(h0:∀ x∈l,0<=x):elF l=l:=by
 have:∀ (l acc:List Int),(acc++l).Nodup->(∀ x∈l,0<=x)->l.foldl OI acc=acc++l:=by
  intro l
  induction l with
  | nil=>grind
  | cons x l ih=>
   intro acc h h0
   have h1:x ∉ acc:=λT=>by
    grind
   simp_all[OI]
 exact(this l [] aN h0).trans aj
def nd (needs:List (List Bool))(i j:Int):Bool:=decide (0<=i)&&(decide (0<=j)&&((needs[i.toNat]?.bind λr=>r[j.toNat]?).getD false))
inductive TC (l:List Int) (needs:List (List Bool)):Int->Int->Prop
 | one (i j:Int):i∈l->j∈l->nd needs i j=true->TC l needs i j
 | step (i k j:Int):i∈l->k∈l->nd needs i k=true->TC l needs k j->TC l needs i j
theorem TC.r {l:List Int}{needs:List (List Bool)}{i j:Int}(h:TC l needs i j):j∈l:=by
 induction h<;>grind
theorem TC.l {l:List Int}{needs:List (List Bool)}{i j:Int}(h:TC l needs i j):i∈l:=by
 cases h<;>grind
theorem TC.trans {l:List Int}{needs:List (List Bool)}{i j k:Int}(h:TC l needs i j)(h2:TC l needs j k):TC l needs i k:=by
 induction h with
 | one _ _ a b c=>exact .step _ _ _ a b c h2
 | step _ _ _ a b c _ T=>exact .step _ _ _ a b c (T h2)
theorem TC.congr {l l' : List Int}{needs:List (List Bool)}(T:∀ x,x∈l->x∈l'){i j:Int}(h:TC l needs i j):TC l' needs i j:=by
 induction h with
 | one _ _ a b c=>exact .one _ _ (T _ a) (T _ b) c
 | step _ _ _ a b c _ J=>exact .step _ _ _ (T _ a) (T _ b) c J
open Classical in
noncomputable def tcB (l:List Int)(needs:List (List Bool))(i j:Int):Bool:=decide (TC l needs i j)
theorem aaE {l:List Int}{needs:List (List Bool)}{i j:Int}:tcB l needs i j=true↔TC l needs i j:=by unfold tcB;simp
noncomputable def SV (l:List Int)(needs:List (List Bool))(i j:Int):Bool:=decide (j≠i)&&(nd needs i j&&!tcB l needs j i)
noncomputable def PW (l:List Int)(needs:List (List Bool))(i:Int):Bool:=!(l.any (SV l needs i))
noncomputable def yM (l:List Int)(needs:List (List Bool)):List Int:=l.filter (PW l needs)
def stF (stamps:List Int)(i:Int):Int:=(stamps[i.toNat]?).getD 0
def nx (stamps:List Int)(b x:Int):Int:=if b<0\/stF stamps x<stF stamps b\/(stF stamps x=stF stamps b/\x<b) then x else b
def JI (stamps:List Int)(r:List Int):Int:=r.foldl (nx stamps) (-1)
theorem Xw (stamps r:List Int)(i:Nat)(hi:i<r.length):JI stamps (r.take (i+1))=nx stamps (JI stamps (r.take i)) r[i]:=by
 grind[gQ,JI]
def before (stamps:List Int)(x y:Int):Prop:=stF stamps x<stF stamps y\/(stF stamps x=stF stamps y/\x<=y)
theorem Xx (stamps:List Int):∀ (r:List Int) (b:Int),(∀ x∈r,0<=x)->(b=-1\/0<=b) ->
  (r.foldl (nx stamps) b=b\/r.foldl (nx stamps) b∈r)/\(0<=b\/r≠[]->0<=r.foldl (nx stamps) b)/\(0<=b->before stamps (r.foldl (nx stamps) b) b)/\∀ x∈r,before stamps (r.foldl (nx stamps) b) x
 | [],b,_,_=>by
  refine⟨.inl rfl,λh=>h.elim id λh=>absurd rfl h,λ_=>.inr ⟨rfl,Int.le_refl _⟩,by simp⟩
 | y::r,b,h0,C=>by
  have hy:=h0 y aj;have J:0<=nx stamps b y:=by grind[nx]
  obtain⟨h1,h2,t,h4⟩:=Xx stamps r (nx stamps b y) (λx T=>h0 x (by simp[T])) (.inr J);have g:=t J;have hm:(nx stamps b y=b\/nx stamps b y=y):=by grind[nx]
  simp only[List.foldl_cons];generalize r.foldl (nx stamps) (nx stamps b y)=q at *
  have I:before stamps (nx stamps b y) y/\(0<=b->before stamps (nx stamps b y) b):=by
   unfold nx before;grind
  refine⟨?_,λ_=>h2 (.inl J),λC=>?_,λx T=>?_⟩
  grind
  grind[before]
  rcases List.mem_cons.1 T with rfl|T
  grind[before]
  exact h4 x T
theorem Ze (stamps r:List Int)(h0:∀ x∈r,0<=x)(h:r≠[]):JI stamps r∈r/\0<=JI stamps r:=by
 obtain⟨h1,h2,_,_⟩:=Xx stamps r (-1) h0 (.inl rfl);have:=h2 (.inr h);refine⟨h1.resolve_left λe=>?_,this⟩
 grind
theorem Zf (stamps r:List Int)(h0:∀ x∈r,0<=x):JI stamps r=-1\/0<=JI stamps r:=by
 cases r with
 | nil=>exact .inl rfl
 | cons y r=>grind[Ze]
theorem PO (l:List Int)(needs:List (List Bool))(x:Int)(h:x∈yM l needs):x∈l:=(List.mem_filter.1 h).1
theorem Zg (l:List Int)(needs:List (List Bool)):(yM l needs).length<=l.length:=List.length_filter_le _ _
open Classical in
theorem ahW (l:List Int)(needs:List (List Bool))(hn:l.Nodup)(hl:l≠[]):yM l needs≠[]:=by
 let m:Int->Nat:=λi=>(l.filter λy=>decide (y=i\/TC l needs i y)).length
 have hex:∃ n,∃ i,i∈l/\m i=n:=by
  cases l with
  | nil=>exact absurd rfl hl
  | cons x l=>exact⟨_,x,by simp,rfl⟩
 obtain⟨n,⟨i,hi,hin⟩,I⟩:∃ n,(∃ i,i∈l/\m i=n)/\∀ k,k<n->¬ ∃ i,i∈l/\m i=k:=by
  obtain⟨n,h⟩:=hex;revert h
  induction n using Nat.strongRecOn with
  | ind n ih=>
   intro h
   by_cases h' : ∃ k,k<n/\∃ i,i∈l/\m i=k
   obtain⟨k,hk,h2⟩:=h';exact ih k hk h2
   exact⟨n,h,λk hk h2=>h' ⟨k,hk,h2⟩⟩
 have hr:PW l needs i=true:=by
  unfold PW;rw[Bool.not_eq_true',List.any_eq_false];intro j hj hb;unfold SV at hb;simp only[ne_eq,Bool.and_eq_true,decide_eq_true_eq,Bool.not_eq_true'] at hb;obtain⟨hne,C,g⟩:=hb;have J : ¬ TC l needs j i:=by rw[<- aaE];simp[g]
  refine I (m j) ?_ ⟨j,hj,rfl⟩;rw[<- hin]
  have t:∀ x∈i::l.filter (λy=>decide (y=j\/TC l needs j y)),x∈l.filter (λy=>decide (y=i\/TC l needs i y)):=by
   intro x T;rcases List.mem_cons.1 T with rfl|T
   simp[hi]
   simp only[List.mem_filter,decide_eq_true_eq] at T |-;refine⟨T.1,.inr ?_⟩;rcases T.2 with rfl|h2
   exact .one _ _ hi hj C
   exact .step _ _ _ hi hj C h2
  have:=Ld _ _ ?_ t
  simp only[List.length_cons] at this;show(l.filter _).length<(l.filter _).length;omega
  rw[List.nodup_cons];refine⟨λT=>?_,List.Pairwise.filter _ hn⟩;simp only[List.mem_filter,decide_eq_true_eq] at T;rcases T.2 with h2|h2
  exact hne h2.symm
  exact J h2
 intro h;have:i∈yM l needs:=List.mem_filter.2 ⟨hi,hr⟩;rw[h] at this;cases this
theorem P8:∀ (l:List Int) (y:Int),l.Nodup->y∈l->(l.filter λx=>!decide (x=y)).length+1=l.length
 | [],y,_,h=>by cases h
 | x::l,y,hn,h=>by
  rw[List.nodup_cons] at hn
  by_cases e:x=y
  grind[List.filter_eq_self]
  have h2:y∈l:=by grind
  have:=P8 l y hn.2 h2
  grind
theorem SX (s:List Int)(v:Int)(hs:s.length<4000000):Ok (λr=>(v ∉ s/\r=-1)\/∃ n:Nat,r=(n:Int)/\s[n]?=some v) (slices_Index_int s v):=by
 unfold slices_Index_int;refine kM 0 s.length (λn=>v ∉ s.take n) 0 rfl (Nat.zero_le _) ae aj ?_ ?_
 intro i k hi T hk;unfold zB;refine dY (λ_=>fO i rfl hi (dY (λe=>?_) λe=>hk ?_)) λh=>absurd (show(i:Int)<(s.length:Int) by omega) h
 exact dX (.inr ⟨i,rfl,by grind⟩)
 grind[gQ]
 intro k T;unfold zB;refine dY (λh=>absurd h aY) λ_=>dX (.inl ⟨by rwa [oh] at T,rfl⟩)
theorem OJ (s:List Int)(v:Int)(hs:s.length<4000000):slices_Contains_int s v=some (decide (v∈s)):=by
 unfold slices_Contains_int;refine ok_eq (fB (SX s v hs) ?_)
 rintro r (⟨h,rfl⟩|⟨n,rfl,h⟩)
 grind[dX]
 grind[dX]
theorem acj (l:List Int)(C:l.length<=2000000):Ak l=some (elF l):=by
 unfold Ak;refine ok_eq (jA 0 l.length (λn t=>t=elF (l.take n)) 0 rfl (Nat.zero_le _) ae (by simp[elF]) ?_ ?_)
 rintro i t k hi hI hk
 have hlen:t.length<=2000000:=by grind[Uu]
 unfold AZ;refine dY (λ_=>gu (λs=>s=OI t l[i]) ?_ λs hs=>hk s (by grind[aci])) λh=>absurd (show(i:Int)<(l.length:Int) by omega) h;intro k5 T;refine fO i rfl hi (gu (λs=>s=decide (0<=l[i]/\l[i] ∉ t)) ?_ ?_)
 intro I J;refine dY (λh0=>eP (OJ t _ ae) (J _ ?_)) λh0=>J _ ?_<;>grind
 rintro s rfl
 refine dY (λh=>iJ ai ai (T _ (by simp_all[OI]))) λh=>T _ (by simp_all[OI])
 rintro t k hI
 unfold AZ;rw[oh] at hI;refine dY (λh=>absurd h ax) λ_=>dX hI
theorem Zh (needs:List (List Bool))(i j:Int):zX needs i j=some (nd needs i j):=by
 unfold zX;refine ok_eq (dY (λhi=>dY (λhj=>?_) λhj=>?_) λhi=>?_)
 obtain⟨a,rfl⟩:=Int.eq_ofNat_of_zero_le hi;obtain⟨b,rfl⟩:=Int.eq_ofNat_of_zero_le hj;unfold nd;refine dY (λh=>?_) λh=>?_
 have T:a<needs.length:=by grind[eU]
 refine fO a rfl T (dY (λh2=>?_) λh2=>?_)
 have J:b<(needs[a]).length:=by grind[eU]
 exact fO a rfl T (fO b rfl J (dX (by simp[T,J])))
 grind[eU,dX]
 grind[eU,dX]
 grind[dX,nd]
 grind[dX,nd]
def GR (R:List (List Bool))(n:Nat)(g:Nat->List Bool->Prop):Prop:=R.length=n/\∀ (a:Nat) (row:List Bool),R[a]?=some row->g a row
theorem GR.set {R:List (List Bool)}{n:Nat}{g T : Nat->List Bool->Prop}(h:GR R n g)(a:Nat)(row:List Bool)(h1:∀ b r,b≠a->b<n->g b r->T b r)(h2:T a row):GR (R.set a row) n T:=by
 obtain⟨J,h⟩:=h;refine⟨by simp[J],λb r I=>?_⟩
 grind
def Xy (n:Nat)(f:Nat->Bool)(row:List Bool):Prop:=row.length=n/\∀ (b:Nat) (v:Bool),row[b]?=some v->v=f b
theorem Xy.set {n:Nat}{f T : Nat->Bool}{row:List Bool}(h:Xy n f row)(b:Nat)(h1:∀ c,c≠b->T c=f c):Xy n T (row.set b (T b)):=by
 obtain⟨J,h⟩:=h;refine⟨by simp[J],λc v hc=>?_⟩
 grind
def lg (l:List Int)(a:Nat):Int:=l.getD a 0
theorem ack {l:List Int}{a:Nat}(h:a<l.length):l[a]=lg l a:=by simp[lg,h]
theorem ahX {l:List Int}{a:Nat}(h:a<l.length):lg l a∈l:=by rw[<- ack h];grind
def Mat (n:Nat)(f:Nat->Nat->Bool)(R:List (List Bool)):Prop:=GR R n λa row=>Xy n (f a) row
inductive PK (e:Nat->Nat->Prop) (k:Nat):Nat->Nat->Prop
 | one (a b:Nat):e a b->PK e k a b
 | step (a c b:Nat):e a c->c<k->PK e k c b->PK e k a b
theorem PK.split {e:Nat->Nat->Prop}{k a b:Nat}(h:PK e (k+1) a b):PK e k a b\/(PK e k a k/\PK e k k b):=by
 induction h with
 | one a b h=>exact .inl (.one _ _ h)
 | step a c b h hc _ ih=>
  by_cases T:c=k
  subst T;rcases ih with ih|ih
  exact .inr ⟨.one _ _ h,ih⟩
  exact .inr ⟨.one _ _ h,ih.2⟩
  have:c<k:=by omega
  rcases ih with ih|ih
  exact .inl (.step _ _ _ h this ih)
  exact .inr ⟨.step _ _ _ h this ih.1,ih.2⟩
def edge (l:List Int)(needs:List (List Bool))(a b:Nat):Prop:=a<l.length/\b<l.length/\nd needs (lg l a) (lg l b)=true
theorem amZ {l:List Int}{needs:List (List Bool)}{i j:Int}(h:TC l needs i j):∀ a b,a<l.length->b<l.length->lg l a=i->lg l b=j->PK (edge l needs) l.length a b:=by
 induction h with
 | one i j hi hj h=>intro a b J T e1 I;subst e1 I;exact .one _ _ ⟨J,T,h⟩
 | step i k j hi hk h _ ih=>
  intro a b J T e1 I;obtain⟨c,hc,e⟩:=List.getElem_of_mem hk;rw[ack hc] at e;subst e1 e;exact .step _ c _ ⟨J,hc,h⟩ hc (ih c b hc T rfl I)
theorem Mat.get {n:Nat}{f:Nat->Nat->Bool}{R:List (List Bool)}(h:Mat n f R){a b:Nat}(C:a<n)(I:b<n):∃ (h1:a<R.length) (h2:b<(R[a]).length),(R[a])[b]=f a b:=by
 obtain⟨t,h⟩:=h;have h1:a<R.length:=by omega
 obtain⟨h2,J⟩:=h a _ (List.getElem?_eq_getElem h1);have T:b<(R[a]).length:=by omega
 exact⟨h1,T,J b _ (List.getElem?_eq_getElem T)⟩
def upM (f:Nat->Nat->Bool)(a b:Nat)(v:Bool)(i j:Nat):Bool:=if i=a/\j=b then v else f i j
theorem Mat.set {n:Nat}{f:Nat->Nat->Bool}{R:List (List Bool)}(h:Mat n f R){a:Nat}(b:Nat)(h1:a<R.length)(v:Bool):Mat n (upM f a b v) (R.set a ((R[a]).set b v)):=by
 have hr:=h.2 a _ (List.getElem?_eq_getElem h1);refine GR.set h a _ (λi r hi _ hr=>?_) ?_
 have:upM f a b v i=f i:=by grind[upM]
 grind
 grind[upM,Xy.set]
theorem ahY (l:List Int)(needs:List (List Bool))(hl:l.length<=2000000)(h0:∀ x∈l,0<=x) :
  Ok (λr=>r.1=l/\∃ f,Mat l.length f r.2/\∀ a b,a<l.length->b<l.length->(f a b=true↔TC l needs (lg l a) (lg l b))) (Cm l needs):=by
 unfold Cm;refine QB (n:=l.length) rfl rfl ae ae ?_;refine jA 0 l.length (λn R=>GR R l.length λa row=>a<n->Xy l.length (λb=>nd needs (lg l a) (lg l b)) row) 0 rfl (Nat.zero_le _) ae ⟨by simp,λ_ _ _ h=>by omega⟩ ?_ ?_
 rintro a R k T hI hk
 unfold Au;refine BN (dY (λ_=>?_) λh=>absurd (show(a:Int)<eU (List.replicate l.length ([]:List Bool)) by simp[eU];omega) h);refine QB (n:=l.length) rfl rfl ae ae (BN ?_);have g:a<R.length:=by rw[hI.1];exact T
 refine iD a rfl g (gY g ?_);refine jA 0 l.length (λn R=>GR R l.length λc row=>(c<a->Xy l.length (λb=>nd needs (lg l c) (lg l b)) row)/\(c=a->row.length=l.length/\∀ b v,b<n->row[b]?=some v->v=nd needs (lg l a) (lg l b))) 0 rfl (Nat.zero_le _) ae ?_ ?_ ?_
 refine GR.set hI a _ (λb r J _ h=>⟨h,λe=>absurd e J⟩) ⟨λh=>by omega,λ_=>⟨by simp,λb v h=>by omega⟩⟩
 rintro b R' k' J hI' hk'
 unfold Am;have I : a<R'.length:=by rw[hI'.1];exact T
 have C:=(hI'.2 a _ (List.getElem?_eq_getElem I)).2 rfl;have t : b<(R'[a]).length:=by grind
 refine dY (λ_=>iD a rfl I (gY I (fO a rfl T (fO b rfl J (eP (Zh _ _ _) (iD b rfl t (gY I (gY t (hk' _ ?_))))))))) λh=>absurd (show(b:Int)<(l.length:Int) by omega) h;refine GR.set hI' a _ (λc r hc _ h=>⟨h.1,λe=>absurd e hc⟩) ⟨λh=>by omega,λ_=>⟨by simp[C.1],λc v hc hv=>?_⟩⟩
 grind[ack]
 rintro R' k' hI'
 unfold Am;refine dY (λh=>absurd h ax) λ_=>hk _ ⟨hI'.1,λc row hc h=>?_⟩;have:=hI'.2 c row hc
 by_cases e:c=a
 subst e;obtain⟨h1,h2⟩:=this.2 rfl;refine⟨h1,λb v hv=>h2 b v ?_ hv⟩
 grind
 grind
 rintro R k hI
 unfold Au;refine BN (dY (λh=>absurd h dP) λ_=>?_)
 have hM:Mat l.length (λa b=>nd needs (lg l a) (lg l b)) R:=⟨hI.1,λa row T=>hI.2 a row T (by
  rw[List.getElem?_eq_some_iff] at T;obtain⟨h3,_⟩:=T;rw[<- hI.1];exact h3)⟩
 refine jA 0 l.length (λn R=>∃ f,Mat l.length f R/\(∀ a b,a<l.length->b<l.length->f a b=true->TC l needs (lg l a) (lg l b))/\∀ a b,a<l.length->b<l.length->PK (edge l needs) n a b->f a b=true) 0 rfl (Nat.zero_le _) ae ?_ ?_ ?_
 refine⟨_,hM,λa b T J h=>.one _ _ (ahX T) (ahX J) h,λa b T J h=>?_⟩
 cases h with
 | one _ _ h=>exact h.2.2
 | step _ c _ _ h _=>omega
 rintro K R' k1 hK ⟨f,hM',hs,hc⟩ hk1
 unfold Ar;refine dY (λ_=>?_) λh=>absurd (show(K:Int)<(l.length:Int) by omega) h
 refine jA 0 l.length (λn R=>∃ f,Mat l.length f R/\(∀ a b,a<l.length->b<l.length->f a b=true->TC l needs (lg l a) (lg l b))/\(∀ a b,a<l.length->b<l.length->PK (edge l needs) K a b->f a b=true) /\
   ∀ a b,a<n->b<l.length->PK (edge l needs) K a K->PK (edge l needs) K K b->f a b=true) 0 rfl (Nat.zero_le _) ae ⟨f,hM',hs,hc,λa b h=>by omega⟩ ?_ ?_
 rintro A R2 k2 hA ⟨f2,hM2,hs2,hc2,hd2⟩ hk2
 unfold Aq;refine dY (λ_=>?_) λh=>absurd (show(A:Int)<(l.length:Int) by omega) h
 refine jA 0 l.length (λn R=>∃ f,Mat l.length f R/\(∀ a b,a<l.length->b<l.length->f a b=true->TC l needs (lg l a) (lg l b))/\(∀ a b,a<l.length->b<l.length->PK (edge l needs) K a b->f a b=true) /\
  (∀ a b,a<A->b<l.length->PK (edge l needs) K a K->PK (edge l needs) K K b->f a b=true)/\∀ b,b<n->PK (edge l needs) K A K->PK (edge l needs) K K b->f A b=true) 0 rfl (Nat.zero_le _) ae ⟨f2,hM2,hs2,hc2,hd2,λb h=>by omega⟩ ?_ ?_
 rintro B R3 k3 hB ⟨f3,hM3,hs3,hc3,hd3,he3⟩ hk3
 unfold Ap;refine dY (λ_=>gu (λs=>∃ f,Mat l.length f s/\f=if f3 A K=true/\f3 K B=true then upM f3 A B true else f3) ?_ ?_) λh=>absurd (show(B:Int)<(l.length:Int) by omega) h
 intro k4 h4;obtain⟨g1,g2,g3⟩:=hM3.get hA hK;obtain⟨g4,g5,g6⟩:=hM3.get hK hB;obtain⟨_,g8,g9⟩:=hM3.get hA hB;refine gu (λs=>s=(f3 A K&&f3 K B)) ?_ ?_
 intro k5 h5;refine iD A rfl g1 (gY g1 (iD K rfl g2 (gY g1 (gY g2 ?_))));rw[g3];refine gq (λh=>?_) λh=>h5 _ (by simp[h]);refine iD K rfl g4 (gY g4 (iD B rfl g5 (gY g4 (gY g5 ?_))))
 grind
 rintro s rfl
 refine gq (λh=>?_) λh=>h4 _ ⟨f3,hM3,?_⟩
 rw[Bool.and_eq_true] at h;refine iD A rfl g1 (gY g1 (iD B rfl g8 (BN (gY g1 (gY g8 (h4 _ ⟨_,hM3.set B g1 true,?_⟩))))));rw[if_pos h]
 grind
 rintro s ⟨f4,hM4,e⟩
 have hle:∀ a b,f3 a b=true->f4 a b=true:=by
  intro a b h;rw[e];grind[upM]
 refine hk3 _ ⟨f4,hM4,?_,λa b T J h=>hle _ _ (hc3 a b T J h),λa b T J h1 h2=>hle _ _ (hd3 a b T J h1 h2),?_⟩
 intro a b T J h;rw[e] at h
 split at h
 rename_i h2;unfold upM at h
 split at h
 rename_i h3;obtain⟨rfl,rfl⟩:=h3;exact(hs3 _ _ T hK h2.1).trans (hs3 _ _ hK J h2.2)
 grind
 grind
 intro b J h1 h2
 by_cases hbB:b=B
 simp_all[upM]
 grind
 rintro R3 k3 ⟨f3,hM3,hs3,hc3,hd3,he3⟩
 unfold Ap;refine dY (λh=>absurd h ax) λ_=>hk2 _ ⟨f3,hM3,hs3,hc3,λa b T J h1 h2=>?_⟩
 grind
 rintro R2 k2 ⟨f2,hM2,hs2,hc2,hd2⟩
 unfold Aq;refine dY (λh=>absurd h ax) λ_=>hk1 _ ⟨f2,hM2,hs2,λa b T J h=>?_⟩;rcases h.split with h|⟨h1,h2⟩<;>grind
 rintro R' k1 ⟨f,hM',hs,hc⟩
 unfold Ar;refine dY (λh=>absurd h ax) λ_=>dX ⟨rfl,f,hM',λa b T J=>⟨hs a b T J,λh=>hc a b T J (amZ h a b T J rfl rfl)⟩⟩
theorem af0 (l:List Int)(needs:List (List Bool))(C:l.length<=2000000)(i j:Int)(hi:i∈l)(hj:j∈l)(R:List (List Bool))(f:Nat->Nat->Bool)(hM:Mat l.length f R)(U:∀ a b,a<l.length->b<l.length->(f a b=true↔TC l needs (lg l a) (lg l b))) :
  tq i j l R=some (tcB l needs i j):=by
 unfold tq;refine ok_eq (fB (SX l i ae) ?_)
 rintro y1 (⟨h,_⟩|⟨a,rfl,J⟩)
 grind
 refine fB (SX l j ae) ?_
 rintro y2 (⟨h,_⟩|⟨b,rfl,T⟩)
 grind
 rw[List.getElem?_eq_some_iff] at J T;obtain⟨J,e1⟩:=J;obtain⟨T,I⟩:=T;refine dY (λ_=>dY (λ_=>?_) λh=>absurd ae h) λh=>absurd ae h;obtain⟨g1,g2,g3⟩:=hM.get J T;refine fO a rfl g1 (fO b rfl g2 (dX ?_));rw[g3,<- e1,<- I];have:=U a b J T;rw[<- ack J,<- ack T,<- aaE] at this
 grind
theorem Zi (s:List Int)(f:Int->Option Bool)(p:Int->Bool)(hs:s.length<4000000)(U:∀ x∈s,f x=some (p x)):Ok (λr=>((∀ x∈s,p x=false)/\r=-1)\/∃ n:Nat,r=(n:Int)/\(∀ x∈s.take n,p x=false)/\∃ x,s[n]?=some x/\p x=true) (oN s f):=by
 unfold oN;refine kM 0 s.length (λn=>∀ x∈s.take n,p x=false) 0 rfl (Nat.zero_le _) ae aj ?_ ?_
 intro i k hi T hk;unfold vG;refine dY (λ_=>fO i rfl hi (eP (U _ (List.getElem_mem hi)) (gq (λe=>?_) λe=>hk ?_))) λh=>absurd (show(i:Int)<(s.length:Int) by omega) h
 exact dX (.inr ⟨i,rfl,T,_,List.getElem?_eq_getElem hi,e⟩)
 grind[gQ]
 intro k T;unfold vG;rw[oh] at T;refine dY (λh=>absurd h aY) λ_=>dX (.inl ⟨T,rfl⟩)
theorem aaF (s:List Int)(f:Int->Option Bool)(p:Int->Bool)(hs:s.length<4000000)(U:∀ x∈s,f x=some (p x)):qV s f=some (s.any p):=by
 unfold qV;refine ok_eq (fB (Zi s f p hs U) ?_)
 rintro r (⟨h,rfl⟩|⟨n,rfl,h1,x,h2,h3⟩)
 grind[dX]
 grind[dX]
theorem ahZ (left:List Int)(needs:List (List Bool))(J:left.length<=2000000):GK left needs=some (yM (elF left) needs):=by
 unfold GK;have hlen:(elF left).length<=2000000:=Nat.le_trans (Uu left) J;refine ok_eq (eP (acj left J) (fB (ahY (elF left) needs hlen λx T=>((aaD left x).1 T).2) ?_))
 rintro⟨l',R⟩ ⟨e,f,hM,U⟩
 simp only at e hM;subst e;generalize hE:elF left=l at *;refine jA 0 l.length (λn t=>t=(l.take n).filter (PW l needs)) 0 rfl (Nat.zero_le _) ae aj ?_ ?_
 rintro a t k ha hI hk
 have C:t.length<=2000000:=by grind
 have hs:(l.take (a+1)).filter (PW l needs)=t++(if PW l needs l[a]=true then [l[a]] else []):=by
  grind[gQ]
 unfold FN;refine dY (λ_=>gu (λs=>s=(l.take (a+1)).filter (PW l needs)) ?_ λs hs=>hk s hs) λh=>absurd (show(a:Int)<(l.length:Int) by omega) h;intro k7 I;refine fO a rfl ha (eP (aaF l _ (SV l needs l[a]) ae λx T=>?_) (gq (λh=>?_) λh=>?_))
 unfold yE;refine ok_eq (rQ (λh=>eP (Zh _ _ _) (gq (λh2=>eP (af0 l needs hlen x _ T (List.getElem_mem ha) R f hM U) (dX ?_)) λh2=>dX ?_)) λh=>dX ?_)
 simp_all[SV]
 grind[SV]
 grind[SV]
 have h2:PW l needs l[a]=true:=by grind[PW]
 refine iJ ai ai (I _ ?_)
 grind
 simp_all[PW,if_neg]
 rintro t k hI
 unfold FN;rw[oh] at hI;refine dY (λh=>absurd h ax) λ_=>dX hI
theorem acm (stamps:List Int)(i:Int)(h:0<=i):CB stamps i=some (stF stamps i):=by
 obtain⟨a,rfl⟩:=Int.eq_ofNat_of_zero_le h;unfold CB stF;refine ok_eq (dY (λh=>?_) λh=>?_)
 have T:a<stamps.length:=by grind[eU]
 exact fO a rfl T (dX (by simp[T]))
 grind[eU,dX]
theorem ajX (left stamps:List Int)(needs:List (List Bool))(I:left.length<=2000000):JD left stamps needs=some (JI stamps (yM (elF left) needs)):=by
 unfold JD;refine ok_eq (eP (ahZ left needs I) ?_);have h0:∀ x∈yM (elF left) needs,0<=x:=λx J=>((aaD left x).1 (PO _ _ _ J)).2;have hlen:(yM (elF left) needs).length<=2000000:=Nat.le_trans (Zg _ _) (Nat.le_trans (Uu left) I);generalize yM (elF left) needs=r at *;refine BO 0 r.length (λn b=>b=JI stamps (r.take n)) 0 rfl (Nat.zero_le _) ae rfl ?_ ?_
 rintro a b k ha hI hk
 have C:b=-1\/0<=b:=by grind[Zf]
 have J:=h0 _ (List.getElem_mem ha);unfold IG;refine dY (λ_=>gu (λs=>s=nx stamps b r[a]) ?_ λs hs=>hk s (by grind[Xw])) λh=>absurd (show(a:Int)<(r.length:Int) by omega) h;intro k6 T;refine fO a rfl ha (dY (λh=>T _ (by simp_all[nx])) λh=>?_);simp only at h;refine eP (acm _ _ J) (eP (acm _ _ ai) ?_);refine gu (λs=>s=decide (stF stamps r[a]<stF stamps b\/(stF stamps r[a]=stF stamps b/\r[a]<b))) ?_ ?_
 grind[dY]
 rintro s rfl
 refine dY (λh2=>T _ (by simp_all[nx])) λh2=>T _ (by simp_all[nx,if_neg])
 rintro b k hI
 unfold IG;rw[oh] at hI;refine dY (λh=>absurd h (by show ¬ (r.length:Int)<(r.length:Int);omega)) λ_=>dX hI
theorem af1 (s:List Int)(f:Int->Option Bool)(p:Int->Bool)(hs:s.length<4000000)(U:∀ x∈s,f x=some (p x)):qA s f=some (s.filter λx=>!p x):=by
 unfold qA;refine ok_eq (fB (Zi s f p hs U) ?_)
 rintro r (⟨h,rfl⟩|⟨n,rfl,h1,x,h2,h3⟩)
 refine dY (λ_=>dX ?_) λh=>absurd rfl h
 grind[List.filter_eq_self]
 rw[List.getElem?_eq_some_iff] at h2;obtain⟨hn,e⟩:=h2;refine dY (λh=>absurd h ae) λ_=>?_;rw[iY ae]
 refine kF (λst=>∃ i j:Nat,st.1=(i:Int)/\st.2.1=(j:Int)/\i<=j/\j<=s.length/\st.2.2.length=s.length/\st.2.2.take i=(s.take j).filter (λx=>!p x)/\st.2.2.drop j=s.drop j) (λst=>4000000-st.2.1.toNat)
  ⟨n,n+1,rfl,rfl,by omega,by omega,rfl,?_,rfl⟩ (by show 4000000-_<18446744073709551616;omega) ?_
 grind[gQ,List.filter_eq_self]
 rintro⟨i',j',T⟩ k ⟨i,j,e1,e2,hij,hj,hl,ht,g⟩ hk
 simp only at e1 e2 hl ht g;subst e1 e2;unfold uM;refine dY (λh=>?_) λh=>?_
 have hj2:j<s.length:=by grind[eU]
 have C:j<T.length:=by omega
 have J:i<T.length:=by omega
 have I:T[j]=s[j]:=by
  have:(T.drop j)[0]?=(s.drop j)[0]?:=by rw[g]
  grind
 have hts:(s.take (j+1)).filter (λx=>!p x)=T.take i++(if p s[j]=true then [] else [s[j]]):=by
  grind[gQ]
 have t:∀ m:Nat,T.drop (j+1+m)=s.drop (j+1+m):=by
  intro m;have:(T.drop j).drop (1+m)=(s.drop j).drop (1+m):=by rw[g]
  grind[List.drop_drop]
 refine gu (λu=>∃ i2:Nat,u.1=(i2:Int)/\i2<=j+1/\u.2.length=s.length/\u.2.take i2=(s.take (j+1)).filter (λx=>!p x)/\u.2.drop (j+1)=s.drop (j+1)) ?_ ?_
 intro k6 h6;refine iD j rfl C (gY C ?_);rw[I];refine eP (U _ (List.getElem_mem hj2)) (gq (λh=>?_) λh=>?_)
 have hp:p s[j]=false:=by grind
 refine iD i rfl J (gY J ?_);refine h6 _ ⟨i+1,iY ae,by omega,by simp[hl],?_,?_⟩
 simp only;rw[hts,gQ _ i (by simp;exact J)];simp only[List.take_set,List.getElem_set_self,hp,Bool.false_eq_true,if_false]
 grind[List.set_eq_of_length_le]
 simp only;rw[List.drop_set_of_lt ae];exact t 0
 have hp:p s[j]=true:=by grind
 refine h6 _ ⟨i,rfl,by omega,hl,?_,t 0⟩
 grind
 rintro⟨u1,u2⟩ ⟨i2,e,h1,h2,h3,h4⟩
 simp only at e h2 h3 h4;subst e;refine hk _ ⟨i2,j+1,rfl,iY ae,h1,by omega,h2,h3,h4⟩ ?_
 grind[iY,Int.toNat_natCast]
 have hjn:j=s.length:=by grind[eU]
 subst hjn;refine Xh (i:=i) (j:=T.length) rfl rfl ae ai (BN (Xh (i:=0) (j:=i) rfl rfl ae ai (dX ?_)));simp only[Nat.zero_add,Nat.sub_zero]
 grind[Dw,acT]
end Go.Proofs.YtchmoabpofnbaaaGreat
