import Derived.Test.YtchmoabpofnbaaaGreatC10
import Derived.Test.YtchmoabpofnbaaaGreatC104
set_option linter.all false
namespace Go.Proofs.YtchmoabpofnbaaaGreat
open Go Go.Pv
set_option maxRecDepth 100000
structure SL {α:Type}(N:Nat)(P:α->Prop)(l:List α):Prop where
 len:l.length=N
 all:∀ x∈l,P x
theorem SL.set {α:Type}{N:Nat}{P:α->Prop}{l:List α}(h:SL N P l)(i:Nat){x:α}(hx:P x):SL N P (l.set i x):=⟨by simp[h.len],λy hy=>by
 rcases List.mem_or_eq_of_mem_set hy with hy|hy
 exact h.all y hy
 grind⟩
theorem SL.get {α:Type}{N:Nat}{P:α->Prop}{l:List α}(h:SL N P l){i:Nat}(hi:i<l.length):P l[i]:=h.all _ (List.getElem_mem hi)
theorem Vd {i j:Nat}(h:i+j<4611686018427387904):jF .shr .u64 (IntKind.wrap .u64 (addI (i:Int) (j:Int))) 1=some (((i+j) / 2:Nat):Int):=by
 have e:addI (i:Int) (j:Int)=((i+j:Nat):Int):=by grind[wV]
 rw[e];have T:IntKind.wrap .u64 ((i+j:Nat):Int)=((i+j:Nat):Int):=by rw[IntKind.wrap_u64];omega
 rw[T];show some (Int.fdiv ((i+j:Nat):Int) (2 ^ (min (1:Int).toNat 64)))=_
 grind
theorem wrapN {m:Nat}(h:m<4611686018427387904):IntKind.wrap .i64 (m:Int)=(m:Int):=wrap_in ae ae
theorem addN {a b:Nat}(h:a+b<4611686018427387904):addI (a:Int) (b:Int)=((a+b:Nat):Int):=by grind[wV]
theorem Tz {a b:Nat}(h:b<=a)(h2:a<4611686018427387904):qL (a:Int) (b:Int)=((a-b:Nat):Int):=by grind[Cc]
theorem abj {a:Nat}(h:1<=a)(h2:a<4611686018427387904):qL (a:Int) 1=((a-1:Nat):Int):=by grind[Cc]
section
variable {N:Nat}{P:eP->Prop}{cmp:eP->eP->Option Int}(hN:N<=1000000000000)(hc:∀ x y,Ok (λ_=>True) (cmp x y))
include hN hc
theorem WI {l:List eP}{a b:Nat}(hl:SL N P l)(hab:a<=b)(hb:b<=N):Ok (SL N P) (iU l a b cmp):=by
 unfold iU;rw[addI_nat ae];refine jQ (λs=>∃ i:Nat,s.1=(i:Int)/\a<i/\SL N P s.2) (λs=>b-s.1.toNat) ⟨a+1,rfl,by omega,hl⟩ (by show b-_<18446744073709551616;omega) ?_
 rintro⟨i',d⟩ k ⟨i,e,hi,T⟩ hk
 simp only at e T;subst e;unfold mX;refine ok_brd (λh=>?_) λ_=>ok_some T;have hib:i<b:=by simpa using h
 refine jQ (λs=>∃ j:Nat,s.1=(j:Int)/\a<=j/\j<=i/\SL N P s.2) (λs=>s.1.toNat) ⟨i,rfl,by omega,by omega,T⟩ (by show i<18446744073709551616;omega) ?_
 rintro⟨j',d⟩ k2 ⟨j,e,J,g,T⟩ hk2
 simp only at e T;subst e;have hL:=T.len;unfold mW;refine ok_jn (λc=>c=true->a<j) (λk8 t=>?_) λc C=>ok_br (λI=>?_) λ_=>hk _ ⟨i+1,addI_nat ae,by omega,T⟩ cu
 refine ok_brd (λh=>?_) λ_=>t _ λh=>by cases h
 have J:a<j:=by simpa using h
 simp only[abj (show 1<=j by omega) ae];exact gU j rfl ae (gB ae (gU (j-1) rfl ae (gB ae (fA (hc _ _) λ_ _=>t _ λ_=>J))))
 have J:=C I;simp only[abj (show 1<=j by omega) ae];refine gU (j-1) rfl ae (gB ae (gU j rfl ae (gB ae (gU j rfl ae (gB ae (gU (j-1) rfl ae (gB aY (hk2 _ ⟨j-1,rfl,by omega,by omega,?_⟩ ?_))))))))
 exact(T.set j (T.get _)).set (j-1) (T.get _)
 grind
theorem TA {l:List eP}{a b n:Nat}(J:SL N P l)(t:a+n<=N)(I:b+n<=N):Ok (SL N P) (iW l a b n cmp):=by
 unfold iW;refine iY 0 n (λ_ d=>SL N P d) 0 rfl (Nat.zero_le _) ae J (λi d k hi T hk=>?_) λd k T=>?_
 have C:=T.len;unfold lH;simp only[addN (show a+i<4611686018427387904 by omega),addN (show b+i<4611686018427387904 by omega)];refine ok_brd (λ_=>gU (b+i) rfl ae (gB ae (gU (a+i) rfl ae (gB ae (gU (a+i) rfl ae (gB ae (gU (b+i) rfl ae (gB aY (hk _ ?_))))))))) λh=>absurd (show(i:Int)<(n:Int) by omega) h;exact(T.set _ (T.get _)).set _ (T.get _)
 grind[lH,ok_brd,ok_some]
theorem acL {l:List eP}{a m b:Nat}(C:SL N P l)(g:a<m)(t:m<b)(hb:b<=N):Ok (SL N P) (jM l a m b cmp):=by
 unfold jM;rw[Tz ae ae,Tz ae ae];refine jQ (λs=>∃ i j:Nat,s.1=(i:Int)/\s.2.1=(j:Int)/\(0<i/\i<=m)/\(0<j/\m+j<=b)/\SL N P s.2.2) (λs=>s.1.toNat+s.2.1.toNat) ⟨m-a,b-m,rfl,rfl,by omega,by omega,C⟩ (by simp only[Int.toNat_natCast];show _<18446744073709551616;omega) ?_
 rintro⟨i',j',d⟩ k ⟨i,j,e1,I,hi,hj,J⟩ hk
 simp only at e1 I J;subst e1 I;unfold mF;refine qM (λhne=>ok_brd (λh=>?_) λh=>?_) λhe=>?_
 have h:j<i:=by simpa using h
 simp only[Tz (show i<=m by omega) ae,Tz (show j<=i by omega) ae];exact fA (TA hN hc J ae ae) λd2 T=>hk _ ⟨i-j,j,rfl,rfl,by omega,by omega,T⟩ ak
 have h:i<j:=by grind
 simp only[Tz (show i<=m by omega) ae,addN (show m+j<4611686018427387904 by omega),Tz (show i<=m+j by omega) ae,Tz (show i<=j by omega) ae];exact fA (TA hN hc J ae ae) λd2 T=>hk _ ⟨i,j-i,rfl,rfl,by omega,by omega,T⟩ ak
 have h:i=j:=by grind
 simp only[Tz (show i<=m by omega) ae];exact fA (TA hN hc J ae ae) λd2 T=>ok_some T
theorem L6:∀ (n:Nat) {l:List eP} {a m b:Nat},SL N P l->a<m->m<b->b<=N->b-a<=2 ^ n->Ok (SL N P) (iF n l a m b cmp)
 | 0,l,a,m,b,_,h1,h2,_,h3=>by grind
 | n+1,l,a,m,b,hl,h1,h2,hb,h3=>by
  have hL:=hl.len;have h3:b-a<=2*2 ^ n:=by grind
  unfold iF lY;simp only[Tz (show a<=m by omega) ae,Tz (show m<=b by omega) ae];refine ok_brd (λ_=>?_) λ_=>ok_brd (λ_=>?_) λ_=>?_
  refine jQ (λs=>∃ i j:Nat,s.1=(i:Int)/\s.2=(j:Int)/\m<=i/\i<=j/\j<=b) (λs=>(s.2-s.1).toNat) ⟨m,b,rfl,rfl,by omega,by omega,by omega⟩ (by show((b:Int)-(m:Int)).toNat<18446744073709551616;omega) ?_
  rintro⟨i',j'⟩ k ⟨i,j,e1,I,hi,g,hj⟩ hk
  simp only at e1 I;subst e1 I;unfold lM;refine ok_brd (λh=>?_) λ_=>?_
  have h:i<j:=by simpa using h
  refine ok_bnde (Vd ae) ?_;have g1:i<=(i+j) / 2:=by omega
  have g2:(i+j) / 2<j:=by omega
  generalize (i+j) / 2=c at g1 g2;simp only[wrapN (show c<4611686018427387904 by omega)];refine gU c rfl ae (gB ae (gU a rfl ae (gB ae (fA (hc _ _) λ_ _=>ok_brd (λ_=>hk _ ⟨c+1,j,addI_nat ae,rfl,by omega,by omega,hj⟩ ?_) λ_=>hk _ ⟨i,c,rfl,rfl,hi,by omega,by omega⟩ ?_))))
  grind[addI_nat]
  grind
  refine jQ (λs=>∃ p:Nat,s.1=(p:Int)/\SL N P s.2) (λs=>i-s.1.toNat) ⟨a,rfl,hl⟩ (by show i-_<18446744073709551616;omega) ?_
  rintro⟨p',d⟩ k3 ⟨p,e,T⟩ hk3
  simp only at e T;subst e;have hL:=T.len;unfold lL;simp only[abj (show 1<=i by omega) ae];refine ok_brd (λh=>?_) λ_=>ok_some T;have h:p<i-1:=by simpa using h
  simp only[addI_nat (show p<4611686018427387904 by omega)];refine gU (p+1) rfl ae (gB ae (gU p rfl ae (gB ae (gU p rfl ae (gB ae (gU (p+1) rfl ae (gB aY (hk3 _ ⟨p+1,rfl,(T.set _ (T.get _)).set _ (T.get _)⟩ ?_))))))))
  grind
  refine jQ (λs=>∃ i j:Nat,s.1=(i:Int)/\s.2=(j:Int)/\i<=j/\j<=m) (λs=>(s.2-s.1).toNat) ⟨a,m,rfl,rfl,by omega,by omega⟩ (by show((m:Int)-(a:Int)).toNat<18446744073709551616;omega) ?_
  rintro⟨i',j'⟩ k ⟨i,j,e1,I,g,hj⟩ hk
  simp only at e1 I;subst e1 I;unfold lQ;refine ok_brd (λh=>?_) λ_=>?_
  have h:i<j:=by simpa using h
  refine ok_bnde (Vd ae) ?_;have g1:i<=(i+j) / 2:=by omega
  have g2:(i+j) / 2<j:=by omega
  generalize (i+j) / 2=c at g1 g2;simp only[wrapN (show c<4611686018427387904 by omega)];refine gU m rfl ae (gB ae (gU c rfl ae (gB ae (fA (hc _ _) λ_ _=>ok_br (λ_=>hk _ ⟨c+1,j,addI_nat ae,rfl,by omega,hj⟩ ?_) λ_=>hk _ ⟨i,c,rfl,rfl,by omega,by omega⟩ ?_))))
  grind[addI_nat]
  grind
  refine jQ (λs=>∃ p:Nat,s.1=(p:Int)/\p<=m/\SL N P s.2) (λs=>s.1.toNat) ⟨m,rfl,by omega,hl⟩ (by show m<18446744073709551616;omega) ?_
  rintro⟨p',d⟩ k3 ⟨p,e,hp,T⟩ hk3
  simp only at e T;subst e;have hL:=T.len;unfold lN;refine ok_brd (λh=>?_) λ_=>ok_some T;have h:i<p:=by simpa using h
  simp only[abj (show 1<=p by omega) ae];refine gU (p-1) rfl ae (gB ae (gU p rfl ae (gB ae (gU p rfl ae (gB ae (gU (p-1) rfl ae (gB aY (hk3 _ ⟨p-1,rfl,by omega,(T.set _ (T.get _)).set _ (T.get _)⟩ ?_))))))))
  grind
  refine ok_bnde (Vd ae) ?_;have q1:2*((a+b) / 2)<=a+b:=by omega
  have q2:a+b<=2*((a+b) / 2)+1:=by omega
  generalize (a+b) / 2=c at q1 q2;simp only[wrapN (show c<4611686018427387904 by omega),addN (show c+m<4611686018427387904 by omega)];refine ok_jn (λs=>∃ i j:Nat,s.1=(i:Int)/\s.2=(j:Int)/\a<=i/\c+m<=b+i/\i<=j/\j<=c+m/\(∀ x,i<=x->x<j->x<c+m/\c+m-1-x<N/\x<N)) (λk43 h43=>?_) λs hs=>?_
  refine ok_brd (λh=>?_) λh=>?_
  have h:c<m:=by simpa using h
  rw[Tz (show b<=c+m by omega) ae];exact h43 _ ⟨c+m-b,c,rfl,rfl,by omega,by omega,by omega,by omega,λx hx0 hx=>by omega⟩
  have h:m<=c:=by grind
  exact h43 _ ⟨a,m,rfl,rfl,by omega,by omega,by omega,by omega,λx hx0 hx=>by omega⟩
  obtain⟨i0,j0,e1,I,g1,g2,g3,g4,g5⟩:=hs;rw[e1,I];refine jQ (λs=>∃ i j:Nat,s.1=(i:Int)/\s.2=(j:Int)/\i0<=i/\i<=j/\j<=j0) (λs=>(s.2-s.1).toNat) ⟨i0,j0,rfl,rfl,by omega,g3,by omega⟩ (by show((j0:Int)-(i0:Int)).toNat<18446744073709551616;omega) ?_
  rintro⟨i',j'⟩ k ⟨i,j,e1,I,hi,g,hj⟩ hk
  simp only at e1 I;subst e1 I;unfold lS;simp only[wrapN (show c<4611686018427387904 by omega),addN (show c+m<4611686018427387904 by omega),abj (show 1<=c+m by omega) ae];refine ok_brd (λh=>?_) λ_=>?_
  have h:i<j:=by simpa using h
  refine ok_bnde (Vd ae) ?_;have r1:i<=(i+j) / 2:=by omega
  have r2:(i+j) / 2<j:=by omega
  generalize (i+j) / 2=x at r1 r2;obtain⟨r3,r4,r5⟩:=g5 x ae ae;simp only[wrapN (show x<4611686018427387904 by omega),Tz (show x<=c+m-1 by omega) ae];refine zS (gU (c+m-1-x) rfl ae (gB ae (gU x rfl ae (gB ae (fA (hc _ _) λ_ _=>ok_br (λ_=>hk _ ⟨x+1,j,addI_nat ae,rfl,by omega,by omega,hj⟩ ?_) λ_=>hk _ ⟨i,x,rfl,rfl,hi,by omega,by omega⟩ ?_)))))
  grind[addI_nat]
  grind
  simp only[Tz (show i<=c+m by omega) ae];refine ok_jn (SL N P) (λk56 h56=>?_) λd T=>?_
  refine ok_jn (λc2=>c2=true->i<m/\m<c+m-i) (λk59 h59=>?_) λc2 t=>ok_br (λC=>?_) λ_=>h56 _ hl
  refine ok_brd (λhx=>h59 _ λhy=>⟨by simpa using hx,by grind⟩) λ_=>h59 _ λh=>by cases h
  obtain⟨p1,p2⟩:=t C;exact fA (acL hN hc hl p1 p2 ae) λd T=>h56 _ T
  refine ok_jn (SL N P) (λk63 h63=>?_) λd2 J=>P5 λv hv=>ok_br (λhv2=>?_) λ_=>ok_some J
  refine ok_jn (λc2=>c2=true->a<i/\i<c) (λk66 h66=>?_) λc2 t=>ok_br (λC=>?_) λ_=>h63 _ T
  exact ok_brd (λhx=>h66 _ λhy=>⟨by simpa using hx,by grind⟩) λ_=>h66 _ λh=>by cases h
  obtain⟨p1,p2⟩:=t C;exact fA (L6 n T p1 p2 ae ae) λd2 J=>h63 _ J
  rw[hv] at hv2;have p1:c<c+m-i:=by grind
  refine ok_brd (λh=>?_) λ_=>ok_some J;have p2:c+m-i<b:=by simpa using h
  exact fA (L6 n J p1 p2 hb ae) λd3 hd3=>ok_some hd3
theorem Yo {l:List eP}{a m b:Nat}(T:SL N P l)(h1:a<m)(h2:m<b)(J:b<=N):Ok (SL N P) (kX l a m b cmp) :=
 L6 hN hc 70 T h1 h2 J ak
theorem acM {l:List eP}(g:SL N P l):Ok (SL N P) (jO l N cmp):=by
 unfold jO;refine jQ (λs=>∃ i:Nat,s.1=(i:Int)/\s.2.1=((i+20:Nat):Int)/\i<=N/\SL N P s.2.2) (λs=>N-s.1.toNat) ⟨0,rfl,rfl,by omega,g⟩ (by show N-_<18446744073709551616;omega) ?_
 rintro⟨i',j',d⟩ k ⟨i,e1,C,hi,J⟩ hk
 simp only at e1 C J;subst e1 C;unfold mM;refine ok_brd (λh=>?_) λh=>?_
 have h:i+20<=N:=by grind
 refine fA (WI hN hc J ae h) λd2 T=>hk _ ⟨i+20,rfl,?_,h,T⟩ ak
 grind[wV]
 refine fA (WI hN hc J ae (Nat.le_refl N)) λd2 T=>?_;refine jQ (λs=>∃ z:Nat,s.1=(z:Int)/\20<=z/\z<=2*N+20/\SL N P s.2) (λs=>2*N+20-s.1.toNat) ⟨20,rfl,by omega,by omega,T⟩ (by show 2*N+20-_<18446744073709551616;omega) ?_
 rintro⟨z',d⟩ k2 ⟨z,e,hz,hz2,J⟩ hk2
 simp only at e J;subst e;unfold mJ;refine ok_brd (λh=>?_) λ_=>ok_some J;have h:z<N:=by simpa using h
 have C:QJ 2 (z:Int)=((2*z:Nat):Int):=by grind[adX]
 have t:QJ (z:Int) 2=((2*z:Nat):Int):=by grind[adX]
 simp only[C];refine jQ (λs=>∃ i:Nat,s.1=(i:Int)/\s.2.1=((i+2*z:Nat):Int)/\i<=N/\SL N P s.2.2) (λs=>N-s.1.toNat) ⟨0,rfl,by simp,by omega,J⟩ (by show N-_<18446744073709551616;omega) ?_
 rintro⟨i',j',d⟩ k3 ⟨i,f1,f2,hi,J⟩ hk3
 simp only at f1 f2 J;subst f1 f2;unfold mG;simp only[C,t,addN (show i+z<4611686018427387904 by omega)];refine ok_brd (λh=>?_) λh=>?_
 have h:i+2*z<=N:=by grind
 refine fA (Yo hN hc J ae ae h) λd2 T=>hk3 _ ⟨i+2*z,rfl,?_,h,T⟩ ak;show addI ((i+2*z:Nat):Int) ((2*z:Nat):Int)=_;rw[addN ae]
 have h:N<i+2*z:=by grind
 refine ok_jn (SL N P) (λk14 I=>ok_brd (λh2=>?_) λ_=>I _ J) λd2 T=>hk2 _ ⟨2*z,rfl,by omega,by omega,T⟩ ak;have h2:i+z<N:=by grind
 exact fA (Yo hN hc J ae h2 (Nat.le_refl N)) λd2 T=>I _ T
end
theorem agC {P:eP->Prop}{cmp:eP->eP->Option Int}(hc:∀ x y,Ok (λ_=>True) (cmp x y)){l:List eP}(T:l.length<=1000000000000)(J:∀ x∈l,P x):Ok (SL l.length P) (jH l cmp):=by
 unfold jH;exact fA (acM T hc ⟨rfl,J⟩) λd I=>ok_some I
theorem Ky:∀ (a l:List Int),a.Nodup->(∀ x∈a,x∈l)->a.length<=l.length
 | [],_,_,_=>by simp
 | x::a,l,h,hs=>by
  have h1:x∈l:=hs x aF;rw[List.nodup_cons] at h
  have:=Ky a (l.erase x) h.2 λy hy=>by
   grind
  grind
theorem take_succ_get {α:Type}(l:List α)(n:Nat)(h:n<l.length):l.take (n+1)=l.take n++[l[n]]:=by
 simp_all
theorem nM {α:Type}(l:List α):l.take l.length=l:=List.take_of_length_le (Nat.le_refl _)
def NR (acc:List Int)(x:Int):List Int:=if 0<=x/\x ∉ acc then acc++[x] else acc
def elF (l:List Int):List Int:=l.foldl NR []
theorem abk (l:List Int)(i:Nat)(hi:i<l.length):elF (l.take (i+1))=NR (elF (l.take i)) l[i]:=by
 grind[take_succ_get,elF]
theorem adY:∀ (l acc:List Int),(l.foldl NR acc).length<=acc.length+l.length
 | [],acc=>by simp
 | x::l,acc=>by
  have:=adY l (NR acc x)
  grind[NR]
theorem Yp:∀ (l acc:List Int),acc.Nodup->(l.foldl NR acc).Nodup
 | [],acc,h=>h
 | x::l,acc,h=>by
  simp only[List.foldl_cons];refine Yp l _ ?_
  grind[NR]
theorem adZ:∀ (l acc:List Int) (x:Int),x∈l.foldl NR acc↔x∈acc\/(x∈l/\0<=x)
 | [],acc,x=>by simp
 | y::l,acc,x=>by
  simp only[List.foldl_cons,adZ l,List.mem_cons];unfold NR;grind
theorem TB (l:List Int):(elF l).length<=l.length:=by grind[adY,elF]
theorem agD (l:List Int):(elF l).Nodup:=Yp l [] aF
theorem ZJ (l:List Int)(x:Int):x∈elF l↔x∈l/\0<=x:=by grind[adZ,elF]
theorem aiB (l:List Int)(h:l.Nodup)(h0:∀ x∈l,0<=x):elF l=l:=by
 have:∀ (l acc:List Int),(acc++l).Nodup->(∀ x∈l,0<=x)->l.foldl NR acc=acc++l:=by
  intro l
  induction l with
  | nil=>grind
  | cons x l ih=>
   intro acc h h0
   have h1:x ∉ acc:=λhx=>by
    grind
   simp_all[NR]
 exact(this l [] bg h0).trans aF
def nd (needs:List (List Bool))(i j:Int):Bool:=decide (0<=i)&&(decide (0<=j)&&((needs[i.toNat]?.bind λr=>r[j.toNat]?).getD false))
inductive TC (l:List Int) (needs:List (List Bool)):Int->Int->Prop
 | one (i j:Int):i∈l->j∈l->nd needs i j=true->TC l needs i j
 | step (i k j:Int):i∈l->k∈l->nd needs i k=true->TC l needs k j->TC l needs i j
theorem TC.r {l:List Int}{needs:List (List Bool)}{i j:Int}(h:TC l needs i j):j∈l:=by
 induction h<;>grind
theorem TC.l {l:List Int}{needs:List (List Bool)}{i j:Int}(h:TC l needs i j):i∈l:=by
 cases h<;>grind
theorem TC.trans {l:List Int}{needs:List (List Bool)}{i j k:Int}(h:TC l needs i j)(h2:TC l needs j k):TC l needs i k:=by
 induction h with
 | one _ _ a b c=>exact .step _ _ _ a b c h2
 | step _ _ _ a b c _ T=>exact .step _ _ _ a b c (T h2)
theorem TC.congr {l l' : List Int}{needs:List (List Bool)}(T:∀ x,x∈l->x∈l'){i j:Int}(h:TC l needs i j):TC l' needs i j:=by
 induction h with
 | one _ _ a b c=>exact .one _ _ (T _ a) (T _ b) c
 | step _ _ _ a b c _ J=>exact .step _ _ _ (T _ a) (T _ b) c J
open Classical in
noncomputable def tcB (l:List Int)(needs:List (List Bool))(i j:Int):Bool:=decide (TC l needs i j)
theorem ZK {l:List Int}{needs:List (List Bool)}{i j:Int}:tcB l needs i j=true↔TC l needs i j:=by unfold tcB;simp
noncomputable def Ru (l:List Int)(needs:List (List Bool))(i j:Int):Bool:=decide (j≠i)&&(nd needs i j&&!tcB l needs j i)
noncomputable def OV (l:List Int)(needs:List (List Bool))(i:Int):Bool:=!(l.any (Ru l needs i))
noncomputable def xU (l:List Int)(needs:List (List Bool)):List Int:=l.filter (OV l needs)
def stF (stamps:List Int)(i:Int):Int:=(stamps[i.toNat]?).getD 0
def nx (stamps:List Int)(b x:Int):Int:=if b<0\/stF stamps x<stF stamps b\/(stF stamps x=stF stamps b/\x<b) then x else b
def Jk (stamps:List Int)(r:List Int):Int:=r.foldl (nx stamps) (-1)
theorem WJ (stamps r:List Int)(i:Nat)(hi:i<r.length):Jk stamps (r.take (i+1))=nx stamps (Jk stamps (r.take i)) r[i]:=by
 grind[take_succ_get,Jk]
def before (stamps:List Int)(x y:Int):Prop:=stF stamps x<stF stamps y\/(stF stamps x=stF stamps y/\x<=y)
theorem WM (stamps:List Int):∀ (r:List Int) (b:Int),(∀ x∈r,0<=x)->(b=-1\/0<=b) ->
  (r.foldl (nx stamps) b=b\/r.foldl (nx stamps) b∈r)/\(0<=b\/r≠[]->0<=r.foldl (nx stamps) b)/\(0<=b->before stamps (r.foldl (nx stamps) b) b)/\∀ x∈r,before stamps (r.foldl (nx stamps) b) x
 | [],b,_,_=>by
  refine⟨.inl rfl,λh=>h.elim id λh=>absurd rfl h,λ_=>.inr ⟨rfl,Int.le_refl _⟩,by simp⟩
 | y::r,b,h0,I=>by
  have hy:=h0 y aF;have T:0<=nx stamps b y:=by grind[nx]
  obtain⟨h1,h2,g,t⟩:=WM stamps r (nx stamps b y) (λx hx=>h0 x (by simp[hx])) (.inr T);have C:=g T;have hm:(nx stamps b y=b\/nx stamps b y=y):=by grind[nx]
  simp only[List.foldl_cons];generalize r.foldl (nx stamps) (nx stamps b y)=q at *
  have J:before stamps (nx stamps b y) y/\(0<=b->before stamps (nx stamps b y) b):=by
   unfold nx before;grind
  refine⟨?_,λ_=>h2 (.inl T),λI=>?_,λx hx=>?_⟩
  grind
  grind[before]
  rcases List.mem_cons.1 hx with rfl|hx
  grind[before]
  exact t x hx
theorem Yq (stamps r:List Int)(h0:∀ x∈r,0<=x)(h:r≠[]):Jk stamps r∈r/\0<=Jk stamps r:=by
 obtain⟨h1,h2,_,_⟩:=WM stamps r (-1) h0 (.inl rfl);have:=h2 (.inr h);refine⟨h1.resolve_left λe=>?_,this⟩
 grind
theorem Yr (stamps r:List Int)(h0:∀ x∈r,0<=x):Jk stamps r=-1\/0<=Jk stamps r:=by
 cases r with
 | nil=>exact .inl rfl
 | cons y r=>grind[Yq]
theorem OL (l:List Int)(needs:List (List Bool))(x:Int)(h:x∈xU l needs):x∈l:=(List.mem_filter.1 h).1
theorem Yt (l:List Int)(needs:List (List Bool)):(xU l needs).length<=l.length:=List.length_filter_le _ _
open Classical in
theorem agE (l:List Int)(needs:List (List Bool))(hn:l.Nodup)(hl:l≠[]):xU l needs≠[]:=by
 let m:Int->Nat:=λi=>(l.filter λy=>decide (y=i\/TC l needs i y)).length
 have hex:∃ n,∃ i,i∈l/\m i=n:=by
  cases l with
  | nil=>exact absurd rfl hl
  | cons x l=>exact⟨_,x,by simp,rfl⟩
 obtain⟨n,⟨i,hi,hin⟩,C⟩:∃ n,(∃ i,i∈l/\m i=n)/\∀ k,k<n->¬ ∃ i,i∈l/\m i=k:=by
  obtain⟨n,h⟩:=hex;revert h
  induction n using Nat.strongRecOn with
  | ind n ih=>
   intro h
   by_cases h' : ∃ k,k<n/\∃ i,i∈l/\m i=k
   obtain⟨k,hk,h2⟩:=h';exact ih k hk h2
   exact⟨n,h,λk hk h2=>h' ⟨k,hk,h2⟩⟩
 have hr:OV l needs i=true:=by
  unfold OV;rw[Bool.not_eq_true',List.any_eq_false];intro j hj g;unfold Ru at g;simp only[ne_eq,Bool.and_eq_true,decide_eq_true_eq,Bool.not_eq_true'] at g;obtain⟨hne,t,J⟩:=g;have T : ¬ TC l needs j i:=by rw[<- ZK];simp[J]
  refine C (m j) ?_ ⟨j,hj,rfl⟩;rw[<- hin]
  have I:∀ x∈i::l.filter (λy=>decide (y=j\/TC l needs j y)),x∈l.filter (λy=>decide (y=i\/TC l needs i y)):=by
   intro x hx;rcases List.mem_cons.1 hx with rfl|hx
   simp[hi]
   simp only[List.mem_filter,decide_eq_true_eq] at hx |-;refine⟨hx.1,.inr ?_⟩;rcases hx.2 with rfl|h2
   exact .one _ _ hi hj t
   exact .step _ _ _ hi hj t h2
  have:=Ky _ _ ?_ I
  simp only[List.length_cons] at this;show(l.filter _).length<(l.filter _).length;omega
  rw[List.nodup_cons];refine⟨λhx=>?_,List.Pairwise.filter _ hn⟩;simp only[List.mem_filter,decide_eq_true_eq] at hx;rcases hx.2 with h2|h2
  exact hne h2.symm
  exact T h2
 intro h;have:i∈xU l needs:=List.mem_filter.2 ⟨hi,hr⟩;rw[h] at this;cases this
theorem O4:∀ (l:List Int) (y:Int),l.Nodup->y∈l->(l.filter λx=>!decide (x=y)).length+1=l.length
 | [],y,_,h=>by cases h
 | x::l,y,hn,h=>by
  rw[List.nodup_cons] at hn
  by_cases e:x=y
  grind[List.filter_eq_self]
  have h2:y∈l:=by grind
  have:=O4 l y hn.2 h2
  grind
theorem Rw (s:List Int)(v:Int)(hs:s.length<4000000):Ok (λr=>(v ∉ s/\r=-1)\/∃ n:Nat,r=(n:Int)/\s[n]?=some v) (slices_Index_int s v):=by
 unfold slices_Index_int;refine ok_for1 0 s.length (λn=>v ∉ s.take n) 0 rfl (Nat.zero_le _) ae aF ?_ ?_
 intro i k hi T hk;unfold yG;refine ok_brd (λ_=>ok_ixL i rfl hi (ok_brd (λe=>?_) λe=>hk ?_)) λh=>absurd (show(i:Int)<(s.length:Int) by omega) h
 exact ok_some (.inr ⟨i,rfl,by grind⟩)
 grind[take_succ_get]
 intro k T;unfold yG;refine ok_brd (λh=>absurd h bF) λ_=>ok_some (.inl ⟨by rwa [nM] at T,rfl⟩)
theorem Jl (s:List Int)(v:Int)(hs:s.length<4000000):slices_Contains_int s v=some (decide (v∈s)):=by
 unfold slices_Contains_int;refine ok_eq (fA (Rw s v hs) ?_)
 rintro r (⟨h,rfl⟩|⟨n,rfl,h⟩)
 grind[ok_some]
 grind[ok_some]
theorem abl (l:List Int)(I:l.length<=2000000):zg l=some (elF l):=by
 unfold zg;refine ok_eq (iY 0 l.length (λn t=>t=elF (l.take n)) 0 rfl (Nat.zero_le _) ae (by simp[elF]) ?_ ?_)
 rintro i t k hi hI hk
 have hlen:t.length<=2000000:=by grind[TB]
 unfold zG;refine ok_brd (λ_=>ok_jn (λs=>s=NR t l[i]) ?_ λs hs=>hk s (by grind[abk])) λh=>absurd (show(i:Int)<(l.length:Int) by omega) h;intro k5 T;refine ok_ixL i rfl hi (ok_jn (λs=>s=decide (0<=l[i]/\l[i] ∉ t)) ?_ ?_)
 intro C J;refine ok_brd (λh0=>ok_bnde (Jl t _ ae) (J _ ?_)) λh0=>J _ ?_<;>grind
 rintro s rfl
 refine ok_brd (λh=>gZ ak ak (T _ (by simp_all[NR]))) λh=>T _ (by simp_all[NR])
 rintro t k hI
 unfold zG;rw[nM] at hI;refine ok_brd (λh=>absurd h aB) λ_=>ok_some hI
theorem Yu (needs:List (List Bool))(i j:Int):yQ needs i j=some (nd needs i j):=by
 unfold yQ;refine ok_eq (ok_brd (λhi=>ok_brd (λhj=>?_) λhj=>?_) λhi=>?_)
 obtain⟨a,rfl⟩:=Int.eq_ofNat_of_zero_le hi;obtain⟨b,rfl⟩:=Int.eq_ofNat_of_zero_le hj;unfold nd;refine ok_brd (λh=>?_) λh=>?_
 have T:a<needs.length:=by grind[lenI]
 refine ok_ixL a rfl T (ok_brd (λh2=>?_) λh2=>?_)
 have J:b<(needs[a]).length:=by grind[lenI]
 exact ok_ixL a rfl T (ok_ixL b rfl J (ok_some (by simp[T,J])))
 grind[lenI,ok_some]
 grind[lenI,ok_some]
 grind[ok_some,nd]
 grind[ok_some,nd]
def F6 (R:List (List Bool))(n:Nat)(g:Nat->List Bool->Prop):Prop:=R.length=n/\∀ (a:Nat) (row:List Bool),R[a]?=some row->g a row
theorem F6.set {R:List (List Bool)}{n:Nat}{g T : Nat->List Bool->Prop}(h:F6 R n g)(a:Nat)(row:List Bool)(h1:∀ b r,b≠a->b<n->g b r->T b r)(h2:T a row):F6 (R.set a row) n T:=by
 obtain⟨J,h⟩:=h;refine⟨by simp[J],λb r I=>?_⟩
 grind
def WN (n:Nat)(f:Nat->Bool)(row:List Bool):Prop:=row.length=n/\∀ (b:Nat) (v:Bool),row[b]?=some v->v=f b
theorem WN.set {n:Nat}{f T : Nat->Bool}{row:List Bool}(h:WN n f row)(b:Nat)(h1:∀ c,c≠b->T c=f c):WN n T (row.set b (T b)):=by
 obtain⟨J,h⟩:=h;refine⟨by simp[J],λc v hc=>?_⟩
 grind
def lg (l:List Int)(a:Nat):Int:=l.getD a 0
theorem abm {l:List Int}{a:Nat}(h:a<l.length):l[a]=lg l a:=by simp[lg,h]
theorem agF {l:List Int}{a:Nat}(h:a<l.length):lg l a∈l:=by rw[<- abm h];grind
def Mat (n:Nat)(f:Nat->Nat->Bool)(R:List (List Bool)):Prop:=F6 R n λa row=>WN n (f a) row
inductive PK (e:Nat->Nat->Prop) (k:Nat):Nat->Nat->Prop
 | one (a b:Nat):e a b->PK e k a b
 | step (a c b:Nat):e a c->c<k->PK e k c b->PK e k a b
theorem PK.split {e:Nat->Nat->Prop}{k a b:Nat}(h:PK e (k+1) a b):PK e k a b\/(PK e k a k/\PK e k k b):=by
 induction h with
 | one a b h=>exact .inl (.one _ _ h)
 | step a c b h hc _ ih=>
  by_cases T:c=k
  subst T;rcases ih with ih|ih
  exact .inr ⟨.one _ _ h,ih⟩
  exact .inr ⟨.one _ _ h,ih.2⟩
  have:c<k:=by omega
  rcases ih with ih|ih
  exact .inl (.step _ _ _ h this ih)
  exact .inr ⟨.step _ _ _ h this ih.1,ih.2⟩
def edge (l:List Int)(needs:List (List Bool))(a b:Nat):Prop:=a<l.length/\b<l.length/\nd needs (lg l a) (lg l b)=true
theorem alE {l:List Int}{needs:List (List Bool)}{i j:Int}(h:TC l needs i j):∀ a b,a<l.length->b<l.length->lg l a=i->lg l b=j->PK (edge l needs) l.length a b:=by
 induction h with
 | one i j hi hj h=>intro a b J T e1 I;subst e1 I;exact .one _ _ ⟨J,T,h⟩
 | step i k j hi hk h _ ih=>
  intro a b J T e1 I;obtain⟨c,hc,e⟩:=List.getElem_of_mem hk;rw[abm hc] at e;subst e1 e;exact .step _ c _ ⟨J,hc,h⟩ hc (ih c b hc T rfl I)
theorem Mat.get {n:Nat}{f:Nat->Nat->Bool}{R:List (List Bool)}(h:Mat n f R){a b:Nat}(t:a<n)(C:b<n):∃ (h1:a<R.length) (h2:b<(R[a]).length),(R[a])[b]=f a b:=by
 obtain⟨I,h⟩:=h;have h1:a<R.length:=by omega
 obtain⟨h2,J⟩:=h a _ (List.getElem?_eq_getElem h1);have T:b<(R[a]).length:=by omega
 exact⟨h1,T,J b _ (List.getElem?_eq_getElem T)⟩
def upM (f:Nat->Nat->Bool)(a b:Nat)(v:Bool)(i j:Nat):Bool:=if i=a/\j=b then v else f i j
theorem Mat.set {n:Nat}{f:Nat->Nat->Bool}{R:List (List Bool)}(h:Mat n f R){a:Nat}(b:Nat)(h1:a<R.length)(v:Bool):Mat n (upM f a b v) (R.set a ((R[a]).set b v)):=by
 have hr:=h.2 a _ (List.getElem?_eq_getElem h1);refine F6.set h a _ (λi r hi _ hr=>?_) ?_
 have:upM f a b v i=f i:=by grind[upM]
 grind
 grind[upM,WN.set]
theorem agG (l:List Int)(needs:List (List Bool))(hl:l.length<=2000000)(h0:∀ x∈l,0<=x) :
  Ok (λr=>r.1=l/\∃ f,Mat l.length f r.2/\∀ a b,a<l.length->b<l.length->(f a b=true↔TC l needs (lg l a) (lg l b))) (Bl l needs):=by
 unfold Bl;refine PS (n:=l.length) rfl rfl ae ae ?_;refine iY 0 l.length (λn R=>F6 R l.length λa row=>a<n->WN l.length (λb=>nd needs (lg l a) (lg l b)) row) 0 rfl (Nat.zero_le _) ae ⟨by simp,λ_ _ _ h=>by omega⟩ ?_ ?_
 rintro a R k T hI hk
 unfold zn;refine zS (ok_brd (λ_=>?_) λh=>absurd (show(a:Int)<lenI (List.replicate l.length ([]:List Bool)) by simp[lenI];omega) h);refine PS (n:=l.length) rfl rfl ae ae (zS ?_);have t:a<R.length:=by rw[hI.1];exact T
 refine gU a rfl t (gB t ?_);refine iY 0 l.length (λn R=>F6 R l.length λc row=>(c<a->WN l.length (λb=>nd needs (lg l c) (lg l b)) row)/\(c=a->row.length=l.length/\∀ b v,b<n->row[b]?=some v->v=nd needs (lg l a) (lg l b))) 0 rfl (Nat.zero_le _) ae ?_ ?_ ?_
 refine F6.set hI a _ (λb r J _ h=>⟨h,λe=>absurd e J⟩) ⟨λh=>by omega,λ_=>⟨by simp,λb v h=>by omega⟩⟩
 rintro b R' k' J hI' hk'
 unfold zh;have I : a<R'.length:=by rw[hI'.1];exact T
 have g:=(hI'.2 a _ (List.getElem?_eq_getElem I)).2 rfl;have C : b<(R'[a]).length:=by grind
 refine ok_brd (λ_=>gU a rfl I (gB I (ok_ixL a rfl T (ok_ixL b rfl J (ok_bnde (Yu _ _ _) (gU b rfl C (gB I (gB C (hk' _ ?_))))))))) λh=>absurd (show(b:Int)<(l.length:Int) by omega) h;refine F6.set hI' a _ (λc r hc _ h=>⟨h.1,λe=>absurd e hc⟩) ⟨λh=>by omega,λ_=>⟨by simp[g.1],λc v hc hv=>?_⟩⟩
 grind[abm]
 rintro R' k' hI'
 unfold zh;refine ok_brd (λh=>absurd h aB) λ_=>hk _ ⟨hI'.1,λc row hc h=>?_⟩;have:=hI'.2 c row hc
 by_cases e:c=a
 subst e;obtain⟨h1,h2⟩:=this.2 rfl;refine⟨h1,λb v hv=>h2 b v ?_ hv⟩
 grind
 grind
 rintro R k hI
 unfold zn;refine zS (ok_brd (λh=>absurd h dY) λ_=>?_)
 have hM:Mat l.length (λa b=>nd needs (lg l a) (lg l b)) R:=⟨hI.1,λa row T=>hI.2 a row T (by
  rw[List.getElem?_eq_some_iff] at T;obtain⟨h3,_⟩:=T;rw[<- hI.1];exact h3)⟩
 refine iY 0 l.length (λn R=>∃ f,Mat l.length f R/\(∀ a b,a<l.length->b<l.length->f a b=true->TC l needs (lg l a) (lg l b))/\∀ a b,a<l.length->b<l.length->PK (edge l needs) n a b->f a b=true) 0 rfl (Nat.zero_le _) ae ?_ ?_ ?_
 refine⟨_,hM,λa b T J h=>.one _ _ (agF T) (agF J) h,λa b T J h=>?_⟩
 cases h with
 | one _ _ h=>exact h.2.2
 | step _ c _ _ h _=>omega
 rintro K R' k1 hK ⟨f,hM',hs,hc⟩ hk1
 unfold zl;refine ok_brd (λ_=>?_) λh=>absurd (show(K:Int)<(l.length:Int) by omega) h
 refine iY 0 l.length (λn R=>∃ f,Mat l.length f R/\(∀ a b,a<l.length->b<l.length->f a b=true->TC l needs (lg l a) (lg l b))/\(∀ a b,a<l.length->b<l.length->PK (edge l needs) K a b->f a b=true) /\
   ∀ a b,a<n->b<l.length->PK (edge l needs) K a K->PK (edge l needs) K K b->f a b=true) 0 rfl (Nat.zero_le _) ae ⟨f,hM',hs,hc,λa b h=>by omega⟩ ?_ ?_
 rintro A R2 k2 hA ⟨f2,hM2,hs2,hc2,hd2⟩ hk2
 unfold zk;refine ok_brd (λ_=>?_) λh=>absurd (show(A:Int)<(l.length:Int) by omega) h
 refine iY 0 l.length (λn R=>∃ f,Mat l.length f R/\(∀ a b,a<l.length->b<l.length->f a b=true->TC l needs (lg l a) (lg l b))/\(∀ a b,a<l.length->b<l.length->PK (edge l needs) K a b->f a b=true) /\
  (∀ a b,a<A->b<l.length->PK (edge l needs) K a K->PK (edge l needs) K K b->f a b=true)/\∀ b,b<n->PK (edge l needs) K A K->PK (edge l needs) K K b->f A b=true) 0 rfl (Nat.zero_le _) ae ⟨f2,hM2,hs2,hc2,hd2,λb h=>by omega⟩ ?_ ?_
 rintro B R3 k3 hB ⟨f3,hM3,hs3,hc3,hd3,he3⟩ hk3
 unfold zi;refine ok_brd (λ_=>ok_jn (λs=>∃ f,Mat l.length f s/\f=if f3 A K=true/\f3 K B=true then upM f3 A B true else f3) ?_ ?_) λh=>absurd (show(B:Int)<(l.length:Int) by omega) h
 intro k4 h4;obtain⟨g1,g2,g3⟩:=hM3.get hA hK;obtain⟨g4,g5,g6⟩:=hM3.get hK hB;obtain⟨_,g8,g9⟩:=hM3.get hA hB;refine ok_jn (λs=>s=(f3 A K&&f3 K B)) ?_ ?_
 intro k5 h5;refine gU A rfl g1 (gB g1 (gU K rfl g2 (gB g1 (gB g2 ?_))));rw[g3];refine ok_br (λh=>?_) λh=>h5 _ dI;refine gU K rfl g4 (gB g4 (gU B rfl g5 (gB g4 (gB g5 ?_))))
 grind
 rintro s rfl
 refine ok_br (λh=>?_) λh=>h4 _ ⟨f3,hM3,?_⟩
 rw[Bool.and_eq_true] at h;refine gU A rfl g1 (gB g1 (gU B rfl g8 (zS (gB g1 (gB g8 (h4 _ ⟨_,hM3.set B g1 true,?_⟩))))));rw[if_pos h]
 grind
 rintro s ⟨f4,hM4,e⟩
 have hle:∀ a b,f3 a b=true->f4 a b=true:=by
  intro a b h;rw[e];grind[upM]
 refine hk3 _ ⟨f4,hM4,?_,λa b T J h=>hle _ _ (hc3 a b T J h),λa b T J h1 h2=>hle _ _ (hd3 a b T J h1 h2),?_⟩
 intro a b T J h;rw[e] at h
 split at h
 rename_i h2;unfold upM at h
 split at h
 rename_i h3;obtain⟨rfl,rfl⟩:=h3;exact(hs3 _ _ T hK h2.1).trans (hs3 _ _ hK J h2.2)
 grind
 grind
 intro b J h1 h2
 by_cases hbB:b=B
 simp_all[upM]
 grind
 rintro R3 k3 ⟨f3,hM3,hs3,hc3,hd3,he3⟩
 unfold zi;refine ok_brd (λh=>absurd h aB) λ_=>hk2 _ ⟨f3,hM3,hs3,hc3,λa b T J h1 h2=>?_⟩
 grind
 rintro R2 k2 ⟨f2,hM2,hs2,hc2,hd2⟩
 unfold zk;refine ok_brd (λh=>absurd h aB) λ_=>hk1 _ ⟨f2,hM2,hs2,λa b T J h=>?_⟩;rcases h.split with h|⟨h1,h2⟩<;>grind
 rintro R' k1 ⟨f,hM',hs,hc⟩
 unfold zl;refine ok_brd (λh=>absurd h aB) λ_=>ok_some ⟨rfl,f,hM',λa b T J=>⟨hs a b T J,λh=>hc a b T J (alE h a b T J rfl rfl)⟩⟩
theorem aeR (l:List Int)(needs:List (List Bool))(C:l.length<=2000000)(i j:Int)(hi:i∈l)(hj:j∈l)(R:List (List Bool))(f:Nat->Nat->Bool)(hM:Mat l.length f R)(U:∀ a b,a<l.length->b<l.length->(f a b=true↔TC l needs (lg l a) (lg l b))) :
  rZ i j l R=some (tcB l needs i j):=by
 unfold rZ;refine ok_eq (fA (Rw l i ae) ?_)
 rintro y1 (⟨h,_⟩|⟨a,rfl,J⟩)
 grind
 refine fA (Rw l j ae) ?_
 rintro y2 (⟨h,_⟩|⟨b,rfl,T⟩)
 grind
 rw[List.getElem?_eq_some_iff] at J T;obtain⟨J,e1⟩:=J;obtain⟨T,I⟩:=T;refine ok_brd (λ_=>ok_brd (λ_=>?_) λh=>absurd ae h) λh=>absurd ae h;obtain⟨g1,g2,g3⟩:=hM.get J T;refine ok_ixL a rfl g1 (ok_ixL b rfl g2 (ok_some ?_));rw[g3,<- e1,<- I];have:=U a b J T;rw[<- abm J,<- abm T,<- ZK] at this
 grind
theorem Yv (s:List Int)(f:Int->Option Bool)(p:Int->Bool)(hs:s.length<4000000)(U:∀ x∈s,f x=some (p x)):Ok (λr=>((∀ x∈s,p x=false)/\r=-1)\/∃ n:Nat,r=(n:Int)/\(∀ x∈s.take n,p x=false)/\∃ x,s[n]?=some x/\p x=true) (nZ s f):=by
 unfold nZ;refine ok_for1 0 s.length (λn=>∀ x∈s.take n,p x=false) 0 rfl (Nat.zero_le _) ae aF ?_ ?_
 intro i k hi T hk;unfold uN;refine ok_brd (λ_=>ok_ixL i rfl hi (ok_bnde (U _ (List.getElem_mem hi)) (ok_br (λe=>?_) λe=>hk ?_))) λh=>absurd (show(i:Int)<(s.length:Int) by omega) h
 exact ok_some (.inr ⟨i,rfl,T,_,List.getElem?_eq_getElem hi,e⟩)
 grind[take_succ_get]
 intro k T;unfold uN;rw[nM] at T;refine ok_brd (λh=>absurd h bF) λ_=>ok_some (.inl ⟨T,rfl⟩)
theorem ZL (s:List Int)(f:Int->Option Bool)(p:Int->Bool)(hs:s.length<4000000)(U:∀ x∈s,f x=some (p x)):qA s f=some (s.any p):=by
 unfold qA;refine ok_eq (fA (Yv s f p hs U) ?_)
 rintro r (⟨h,rfl⟩|⟨n,rfl,h1,x,h2,h3⟩)
 grind[ok_some]
 grind[ok_some]
theorem agH (left:List Int)(needs:List (List Bool))(T:left.length<=2000000):FN left needs=some (xU (elF left) needs):=by
 unfold FN;have hlen:(elF left).length<=2000000:=Nat.le_trans (TB left) T;refine ok_eq (ok_bnde (abl left T) (fA (agG (elF left) needs hlen λx hx=>((ZJ left x).1 hx).2) ?_))
 rintro⟨l',R⟩ ⟨e,f,hM,U⟩
 simp only at e hM;subst e;generalize hE:elF left=l at *;refine iY 0 l.length (λn t=>t=(l.take n).filter (OV l needs)) 0 rfl (Nat.zero_le _) ae aF ?_ ?_
 rintro a t k ha hI hk
 have J:t.length<=2000000:=by grind
 have hs:(l.take (a+1)).filter (OV l needs)=t++(if OV l needs l[a]=true then [l[a]] else []):=by
  grind[take_succ_get]
 unfold EJ;refine ok_brd (λ_=>ok_jn (λs=>s=(l.take (a+1)).filter (OV l needs)) ?_ λs hs=>hk s hs) λh=>absurd (show(a:Int)<(l.length:Int) by omega) h;intro k7 I;refine ok_ixL a rfl ha (ok_bnde (ZL l _ (Ru l needs l[a]) ae λx hx=>?_) (ok_br (λh=>?_) λh=>?_))
 unfold xH;refine ok_eq (qM (λh=>ok_bnde (Yu _ _ _) (ok_br (λh2=>ok_bnde (aeR l needs hlen x _ hx (List.getElem_mem ha) R f hM U) (ok_some ?_)) λh2=>ok_some ?_)) λh=>ok_some ?_)
 simp_all[Ru]
 grind[Ru]
 grind[Ru]
 have h2:OV l needs l[a]=true:=by grind[OV]
 refine gZ ak ak (I _ ?_)
 grind
 simp_all[OV,if_neg]
 rintro t k hI
 unfold EJ;rw[nM] at hI;refine ok_brd (λh=>absurd h aB) λ_=>ok_some hI
theorem abn (stamps:List Int)(i:Int)(h:0<=i):Bo stamps i=some (stF stamps i):=by
 obtain⟨a,rfl⟩:=Int.eq_ofNat_of_zero_le h;unfold Bo stF;refine ok_eq (ok_brd (λh=>?_) λh=>?_)
 have T:a<stamps.length:=by grind[lenI]
 exact ok_ixL a rfl T (ok_some (by simp[T]))
 grind[lenI,ok_some]
theorem aiC (left stamps:List Int)(needs:List (List Bool))(J:left.length<=2000000):I7 left stamps needs=some (Jk stamps (xU (elF left) needs)):=by
 unfold I7;refine ok_eq (ok_bnde (agH left needs J) ?_);have h0:∀ x∈xU (elF left) needs,0<=x:=λx hx=>((ZJ left x).1 (OL _ _ _ hx)).2;have hlen:(xU (elF left) needs).length<=2000000:=Nat.le_trans (Yt _ _) (Nat.le_trans (TB left) J);generalize xU (elF left) needs=r at *;refine DN 0 r.length (λn b=>b=Jk stamps (r.take n)) 0 rfl (Nat.zero_le _) ae rfl ?_ ?_
 rintro a b k ha hI hk
 have I:b=-1\/0<=b:=by grind[Yr]
 have hx:=h0 _ (List.getElem_mem ha);unfold Hg;refine ok_brd (λ_=>ok_jn (λs=>s=nx stamps b r[a]) ?_ λs hs=>hk s (by grind[WJ])) λh=>absurd (show(a:Int)<(r.length:Int) by omega) h;intro k6 T;refine ok_ixL a rfl ha (ok_brd (λh=>T _ (by simp_all[nx])) λh=>?_);simp only at h;refine ok_bnde (abn _ _ hx) (ok_bnde (abn _ _ ak) ?_);refine ok_jn (λs=>s=decide (stF stamps r[a]<stF stamps b\/(stF stamps r[a]=stF stamps b/\r[a]<b))) ?_ ?_
 grind[ok_brd]
 rintro s rfl
 refine ok_brd (λh2=>T _ (by simp_all[nx])) λh2=>T _ (by simp_all[nx,if_neg])
 rintro b k hI
 unfold Hg;rw[nM] at hI;refine ok_brd (λh=>absurd h (by show ¬ (r.length:Int)<(r.length:Int);omega)) λ_=>ok_some hI
theorem aeS (s:List Int)(f:Int->Option Bool)(p:Int->Bool)(hs:s.length<4000000)(U:∀ x∈s,f x=some (p x)):pU s f=some (s.filter λx=>!p x):=by
 unfold pU;refine ok_eq (fA (Yv s f p hs U) ?_)
 rintro r (⟨h,rfl⟩|⟨n,rfl,h1,x,h2,h3⟩)
 refine ok_brd (λ_=>ok_some ?_) λh=>absurd rfl h
 grind[List.filter_eq_self]
 rw[List.getElem?_eq_some_iff] at h2;obtain⟨hn,e⟩:=h2;refine ok_brd (λh=>absurd h ae) λ_=>?_;rw[addI_nat ae]
 refine jQ (λst=>∃ i j:Nat,st.1=(i:Int)/\st.2.1=(j:Int)/\i<=j/\j<=s.length/\st.2.2.length=s.length/\st.2.2.take i=(s.take j).filter (λx=>!p x)/\st.2.2.drop j=s.drop j) (λst=>4000000-st.2.1.toNat)
  ⟨n,n+1,rfl,rfl,by omega,by omega,rfl,?_,rfl⟩ (by show 4000000-_<18446744073709551616;omega) ?_
 grind[take_succ_get,List.filter_eq_self]
 rintro⟨i',j',T⟩ k ⟨i,j,e1,e2,hij,hj,hl,ht,g⟩ hk
 simp only at e1 e2 hl ht g;subst e1 e2;unfold uq;refine ok_brd (λh=>?_) λh=>?_
 have hj2:j<s.length:=by grind[lenI]
 have C:j<T.length:=by omega
 have J:i<T.length:=by omega
 have I:T[j]=s[j]:=by
  have:(T.drop j)[0]?=(s.drop j)[0]?:=by rw[g]
  grind
 have hts:(s.take (j+1)).filter (λx=>!p x)=T.take i++(if p s[j]=true then [] else [s[j]]):=by
  grind[take_succ_get]
 have t:∀ m:Nat,T.drop (j+1+m)=s.drop (j+1+m):=by
  intro m;have:(T.drop j).drop (1+m)=(s.drop j).drop (1+m):=by rw[g]
  grind[List.drop_drop]
 refine ok_jn (λu=>∃ i2:Nat,u.1=(i2:Int)/\i2<=j+1/\u.2.length=s.length/\u.2.take i2=(s.take (j+1)).filter (λx=>!p x)/\u.2.drop (j+1)=s.drop (j+1)) ?_ ?_
 intro k6 h6;refine gU j rfl C (gB C ?_);rw[I];refine ok_bnde (U _ (List.getElem_mem hj2)) (ok_br (λh=>?_) λh=>?_)
 have hp:p s[j]=false:=by grind
 refine gU i rfl J (gB J ?_);refine h6 _ ⟨i+1,addI_nat ae,by omega,by simp[hl],?_,?_⟩
 simp only;rw[hts,take_succ_get _ i (by simp;exact J)];simp only[List.take_set,List.getElem_set_self,hp,Bool.false_eq_true,if_false]
 grind[List.set_eq_of_length_le]
 simp only;rw[List.drop_set_of_lt ae];exact t 0
 have hp:p s[j]=true:=by grind
 refine h6 _ ⟨i,rfl,by omega,hl,?_,t 0⟩
 grind
 rintro⟨u1,u2⟩ ⟨i2,e,h1,h2,h3,h4⟩
 simp only at e h2 h3 h4;subst e;refine hk _ ⟨i2,j+1,rfl,addI_nat ae,h1,by omega,h2,h3,h4⟩ ?_
 grind[addI_nat,Int.toNat_natCast]
 have hjn:j=s.length:=by grind[lenI]
 subst hjn;refine Wp (i:=i) (j:=T.length) rfl rfl ae ak (zS (Wp (i:=0) (j:=i) rfl rfl ae ak (ok_some ?_)));simp only[Nat.zero_add,Nat.sub_zero]
 grind[Az,abV]
end Go.Proofs.YtchmoabpofnbaaaGreat
