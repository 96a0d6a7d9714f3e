import Derived.Test.YtlacmdnhabblcaaGreatB31
import Derived.Test.YtlacmdnhabblcaaGreatB32
import Derived.Test.YtlacmdnhabblcaaGreatB68
import Derived.Test.YtlacmdnhabblcaaGreatB72
set_option linter.all false
namespace Go.Proofs.YtlacmdnhabblcaaGreat
open Go Go.Pv
set_option maxRecDepth 100000
theorem six {i:Nat}(h:i<6):i=0\/i=1\/i=2\/i=3\/i=4\/i=5:=by omega
def AU (p:rQ Int):Nat->Int
 | 0=>p.a0|1=>p.a1|2=>p.a2|3=>p.a3|4=>p.a4|_=>p.a5
def whole (p:rQ Int):Prop:=∀ j,j<6->0<=AU p j/\AU p j<=1000000
def aeF (p:rQ Int)(c:oH)(x:Int):Prop:=isC c/\whole p/\0<=x/\x<=1000000 /\
 (c.color.a0<=p.a1/\c.color.a1<=p.a2/\c.color.a2<=p.a3/\c.color.a3<=p.a4/\c.color.a4<=p.a5) /\
 c.generic+c.x*x<=p.a0+(p.a1-c.color.a0)+(p.a2-c.color.a1)+(p.a3-c.color.a2)+(p.a4-c.color.a3)+(p.a5-c.color.a4)
theorem aeG (c:oH):Ok (λr=>r=true↔isC c) (Ul c):=by
 unfold Ul;refine lH 0 5 (λn=>∀ j,j<n->0<=EP c.color j/\EP c.color j<=9) 0 rfl ai ai (λj h=>by omega) ?_ ?_
 intro i k hi hI hk;unfold NT;refine iJ (λ_=>jf (λs=>s=EP c.color i) ?_ ?_) λh=>absurd (show (i:Int)<5 by omega) h
 intro k4 U;rcases five hi with rfl|rfl|rfl|rfl|rfl<;>exact yS ai (U _ rfl)
 rintro s rfl
 refine jf (λs=>s=decide (EP c.color i<0\/9<EP c.color i)) ?_ ?_
 intro k7 T;exact iJ (λh=>T _ bu) λh=>T _ bu
 rintro s rfl
 refine iJ (λh=>iK ?_) λh=>hk λj hj=>?_
 refine⟨λh=>bJ,λhC=>?_⟩;have:=hC.2 i hi;omega
 by_cases e:j=i
 subst e;omega
 exact hI j ai
 ·intro k hI;unfold NT;refine iJ (λh=>absurd h ai) λ_=>iJ (λh1=>iJ (λh2=>iJ (λR=>iK ?_) λh=>iK ?_) λh=>iK ?_) λh=>iK ?_
  rw[decide_eq_true_iff];exact⟨λU=>⟨⟨h1,h2,R,U⟩,hI⟩,λhC=>hC.1.2.2.2⟩
  all_goals exact⟨λh=>bJ,λhC=>by have:=hC.1;omega⟩
theorem Ze (p:rQ Int):Ok (λr=>r=true↔whole p) (IJ p):=by
 unfold IJ;refine lH 0 6 (λn=>∀ j,j<n->0<=AU p j/\AU p j<=1000000) 0 rfl ai ai (λj h=>by omega) ?_ ?_
 intro i k hi hI hk;unfold EM;refine iJ (λ_=>jf (λs=>s=AU p i) ?_ ?_) λh=>absurd (show (i:Int)<6 by omega) h
 intro k4 T;rcases six hi with rfl|rfl|rfl|rfl|rfl|rfl<;>exact yS ai (T _ rfl)
 rintro s rfl
 refine jf (λs=>s=decide (AU p i<0\/1000000<AU p i)) ?_ ?_
 intro k7 U;exact iJ (λh=>U _ bu) λh=>U _ bu
 rintro s rfl
 refine iJ (λh=>iK ?_) λh=>hk λj hj=>?_
 refine⟨λh=>bJ,λhC=>?_⟩;have:=hC i hi;omega
 by_cases e:j=i
 subst e;omega
 exact hI j ai
 intro k hI;unfold EM;exact iJ (λh=>absurd h ai) λ_=>iK ⟨λ_=>hI,λ_=>rfl⟩
theorem agH (c:oH):Ok (λr=>r=true↔isC c) (FM c):=by
 unfold FM;refine jf (λs=>s=decide (c.generic<0\/99<c.generic\/c.x<0\/2<c.x)) ?_ ?_
 exact iG
 rintro s rfl
 refine iJ (λh=>iK ⟨λh=>bJ,λhC=>by have:=hC.1;omega⟩) λh0=>?_;refine lH 0 5 (λn=>∀ j,j<n->0<=EP c.color j/\EP c.color j<=9) 0 rfl ai ai (λj h=>by omega) ?_ ?_
 intro i k hi hI hk;unfold G7;refine iJ (λ_=>jf (λs=>s=decide (EP c.color i<0\/9<EP c.color i)) ?_ ?_) λh=>absurd (show (i:Int)<5 by omega) h
 intro k6 U
 rcases five hi with rfl|rfl|rfl|rfl|rfl <;>
  exact yS ai (iJ (λh=>U _ eP) λh=>yS ai (U _ eP))
 rintro s rfl
 refine iJ (λh=>iK ?_) λh=>hk λj hj=>?_
 refine⟨λh=>bJ,λhC=>?_⟩;have:=hC.2 i hi;omega
 by_cases e:j=i
 subst e;omega
 exact hI j ai
 intro k hI;unfold G7;exact iJ (λh=>absurd h ai) λ_=>iK ⟨λ_=>⟨by omega,hI⟩,λ_=>rfl⟩
theorem abx (p:rQ Int):Ok (λr=>r=true↔whole p) (Aq p):=by
 unfold Aq;refine lH 0 6 (λn=>∀ j,j<n->0<=AU p j/\AU p j<=1000000) 0 rfl ai ai (λj h=>by omega) ?_ ?_
 intro i k hi hI hk;unfold BC;refine iJ (λ_=>jf (λs=>s=decide (AU p i<0\/1000000<AU p i)) ?_ ?_) λh=>absurd (show (i:Int)<6 by omega) h
 intro k6 U
 rcases six hi with rfl|rfl|rfl|rfl|rfl|rfl <;>
  exact yS ai (iJ (λh=>U _ (by simp only[AU];simp[h])) λh=>yS ai (U _ (by simp only[AU];simp[h])))
 rintro s rfl
 refine iJ (λh=>iK ?_) λh=>hk λj hj=>?_
 refine⟨λh=>bJ,λhC=>?_⟩;have:=hC i hi;omega
 by_cases e:j=i
 subst e;omega
 exact hI j ai
 intro k hI;unfold BC;exact iJ (λh=>absurd h ai) λ_=>iK ⟨λ_=>hI,λ_=>rfl⟩
theorem agI {r n:Int}(hr:0<=r/\r<=1000000)(U:0<=n/\n<=9000000):∃ m,(if r<n then r else n)=m/\jS r m=r-m/\jS n m=n-m/\0<=m/\m<=r/\m<=n/\(m=r\/m=n):=by
 refine⟨_,rfl,?_⟩
 by_cases h:r<n
 rw[if_pos h];exact⟨qW ai ai,qW ai ai,by omega,by omega,by omega,.inl rfl⟩
 rw[if_neg h];exact⟨qW ai ai,qW ai ai,by omega,by omega,by omega,.inr rfl⟩
theorem adg {c:oH}{x:Int}(hC:isC c)(hx:0<=x/\x<=1000000):jq c.generic (zu c.x x)=c.generic+c.x*x/\0<=c.x*x/\c.x*x<=2000000:=by
 obtain⟨⟨h1,h2,R,T⟩,_⟩:=hC
 have U:0<=c.x*x/\c.x*x<=2000000:=by
  have:c.x=0\/c.x=1\/c.x=2:=by omega
  rcases this with e|e|e<;>rw[e]<;>omega
 refine⟨?_,U⟩;rw[afA ai ai,lN ai ai]
def ajv (p:rQ Int)(c:aco Int)(n:Nat):rQ Int:=⟨p.a0,if 0<n then p.a1-c.a0 else p.a1,if 1<n then p.a2-c.a1 else p.a2,if 2<n then p.a3-c.a2 else p.a3,if 3<n then p.a4-c.a3 else p.a4,if 4<n then p.a5-c.a4 else p.a5⟩
theorem adh (p:rQ Int)(c:oH)(x:Int):Ok (λr=>r.2=0↔aeF p c x) (Qa p c x):=by
 unfold Qa;refine jf (λs=>s=true↔¬ (isC c/\whole p/\0<=x/\x<=1000000)) ?_ ?_
 intro k2 h2;refine iO (aeG c) λy3 g=>iR (λh=>h2 _ ?_) λh=>?_
 have:¬ isC c:=by rw[<- g];simp at h;simp[h]
 simp[this]
 have hC:isC c:=g.1 bH;refine iO (Ze p) λy4 C=>iR (λh=>h2 _ ?_) λh=>?_
 have:¬ whole p:=by rw[<- C];simp at h;simp[h]
 simp[this]
 have hW:whole p:=C.1 bH;refine iJ (λh=>h2 _ ?_) λh=>h2 _ ?_
 simp;intro _ _ h3;omega
 rw[decide_eq_true_iff];constructor
 intro h4 h5;omega
 intro h4;exact Classical.byContradiction λh5=>h4 ⟨hC,hW,by omega,by omega⟩
 ·intro s hs;refine iR (λh=>iK ?_) λh=>?_
  have:=hs.1 h;refine⟨λh=>bJ,λhC=>absurd ⟨hC.1,hC.2.1,hC.2.2.1,hC.2.2.2.1⟩ this⟩
  obtain⟨hC,hW,U,T⟩:isC c/\whole p/\0<=x/\x<=1000000:=Classical.byContradiction λhn=>by rw[hs.2 hn] at h;cases h
  obtain⟨R,hm0,hm1⟩:=adg hC ⟨U,T⟩;have c0:=hC.2 0 ai;have c1:=hC.2 1 ai;have c2:=hC.2 2 ai;have c3:=hC.2 3 ai;have c4:=hC.2 4 ai;have w0:=hW 0 ai;have w1:=hW 1 ai;have w2:=hW 2 ai;have w3:=hW 3 ai;have w4:=hW 4 ai;have w5:=hW 5 ai;simp only[EP,AU] at c0 c1 c2 c3 c4 w0 w1 w2 w3 w4 w5;obtain⟨g0,g1,g2,g3⟩:=hC.1;refine jf (λs=>s=true->(p.a0=0/\p.a1=0/\p.a2=0/\p.a3=0/\p.a4=0/\p.a5=0)/\c.generic=0/\c.x=0/\c.color.a0=0/\c.color.a1=0/\c.color.a2=0/\c.color.a3=0/\c.color.a4=0) ?_ ?_
  intro k6 h6;refine nO λv7 e7=>iR (λh7=>nO λv8 e8=>h6 _ λh8=>?_) λ_=>h6 _ λh=>by cases h
  rw[e7] at h7;rw[e8] at h8;simp only[Bool.and_eq_true,decide_eq_true_eq,and_true] at h7 h8;exact⟨h7,h8⟩
  ·intro s hs;refine iR (λh=>iK ?_) λ_=>?_
   obtain⟨⟨e0,e1,e2,g,C,e5⟩,f0,f1,f2,f3,f4,f5,f6⟩:=hs h;refine⟨λ_=>⟨hC,hW,U,T,by omega,?_⟩,λ_=>rfl⟩;rw[f1];omega
   ·refine ve 0 5 (λn t=>t=ajv p c.color n/\∀ j,j<n->EP c.color j<=AU p (j+1)) 0 rfl ai ai ⟨rfl,λj h=>by omega⟩ ?_ ?_
    ·rintro i t k hi ⟨rfl,hI⟩ hk
     have J:=lC (n:=i) ai;unfold JD;simp only[J] at hk |-;refine iJ (λ_=>jf (λs=>s=EP c.color i) ?_ ?_) λh=>absurd (show (i:Int)<5 by omega) h
     intro k4 h4;rcases five hi with rfl|rfl|rfl|rfl|rfl<;>exact yS ai (h4 _ rfl)
     ·rintro s rfl
      refine jf (λs=>s=ajv p c.color (i+1)) ?_ ?_
      ·intro k15 h15;rcases five hi with rfl|rfl|rfl|rfl|rfl
       all_goals
        refine yS ai (yS ai (h15 _ ?_));simp only[ajv,EP];rw[qW aT aT];simp
      ·rintro s rfl
       refine jf (λs=>s=decide (AU p (i+1)<EP c.color i)) ?_ ?_
       ·intro k24 h24;rcases five hi with rfl|rfl|rfl|rfl|rfl
        all_goals
         refine yS ai (h24 _ ?_);simp only[ajv,EP,AU]
         congr 1
         simp;omega
       rintro s rfl
       refine iJ (λh=>iK ?_) λh=>hk _ ⟨rfl,λj hj=>?_⟩
       refine⟨λh=>bJ,λhF=>?_⟩;have hcols:=hF.2.2.2.2.1;rcases five hi with rfl|rfl|rfl|rfl|rfl<;>(simp only[AU,EP] at h;omega)
       by_cases e:j=i
       subst e;omega
       exact hI j ai
    rintro t k ⟨rfl,hI⟩
    have i0:=hI 0 ai;have i1:=hI 1 ai;have i2:=hI 2 ai;have i3:=hI 3 ai;have i4:=hI 4 ai;simp only[EP,AU] at i0 i1 i2 i3 i4;unfold JD;refine iJ (λh=>absurd h ai) λ_=>?_;simp only[R,ajv,Nat.reduceLT,if_true];obtain⟨m0,e0,s0,t0,b0⟩:=agI (r:=p.a0) (n:=c.generic+c.x*x) ai ai;rw[e0,s0,t0];refine nO λv26 _=>nO λv27 h27=>?_;obtain⟨m1,e1,s1,t1,b1⟩:=agI (r:=p.a1-c.color.a0) (n:=v27) ai ai;rw[e1,t1];obtain⟨m2,e2,s2,t2,b2⟩:=agI (r:=p.a2-c.color.a1) (n:=v27-m1) ai ai;rw[e2,s2,t2];refine nO λv28 _=>nO λv29 h29=>?_;obtain⟨m3,g,s3,t3,b3⟩:=agI (r:=p.a3-c.color.a2) (n:=v29) ai ai;rw[g,t3];obtain⟨m4,C,s4,t4,b4⟩:=agI (r:=p.a4-c.color.a3) (n:=v29-m3) ai ai;rw[C,s4,t4];refine nO λv30 _=>nO λv31 h31=>?_;obtain⟨m5,e5,s5,t5,b5⟩:=agI (r:=p.a5-c.color.a4) (n:=v31) ai ai;rw[e5,t5];refine nO λv32 I=>iR (λh=>iK ?_) λh=>iK ?_
    rw[I,decide_eq_true_iff] at h;refine⟨λh=>bJ,λhF=>?_⟩;have:=hF.2.2.2.2.2;omega
    rw[I,decide_eq_false_iff_not] at h;exact⟨λ_=>⟨hC,hW,U,T,by omega,by omega⟩,λ_=>rfl⟩
theorem aeH (p:rQ Int)(c:oH)(x:Int):Ok (λr=>r.2=0↔aeF p c x) (Um p c x):=by
 unfold Um;refine jf (λs=>s=true↔¬ (isC c/\whole p/\0<=x/\x<=1000000)) ?_ ?_
 intro k2 h2;refine iO (agH c) λy3 g=>iR (λh=>h2 _ ?_) λh=>?_
 have:¬ isC c:=by rw[<- g];simp at h;simp[h]
 simp[this]
 have hC:isC c:=g.1 bH;refine iO (abx p) λy4 e4=>iR (λh=>h2 _ ?_) λh=>?_
 have:¬ whole p:=by rw[<- e4];simp at h;simp[h]
 simp[this]
 have hW:whole p:=e4.1 bH;refine iJ (λh=>h2 _ ?_) λh=>h2 _ ?_
 simp;intro _ _ h3;omega
 rw[decide_eq_true_iff];constructor
 intro I C;omega
 intro I;exact Classical.byContradiction λC=>I ⟨hC,hW,by omega,by omega⟩
 ·intro s hs;refine iR (λh=>iK ?_) λh=>?_
  have:=hs.1 h;refine⟨λh=>bJ,λhC=>absurd ⟨hC.1,hC.2.1,hC.2.2.1,hC.2.2.2.1⟩ this⟩
  obtain⟨hC,hW,R,T⟩:isC c/\whole p/\0<=x/\x<=1000000:=Classical.byContradiction λhn=>by rw[hs.2 hn] at h;cases h
  obtain⟨U,hm0,hm1⟩:=adg hC ⟨R,T⟩;have c0:=hC.2 0 ai;have c1:=hC.2 1 ai;have c2:=hC.2 2 ai;have c3:=hC.2 3 ai;have c4:=hC.2 4 ai;have w0:=hW 0 ai;have w1:=hW 1 ai;have w2:=hW 2 ai;have w3:=hW 3 ai;have w4:=hW 4 ai;have w5:=hW 5 ai;simp only[EP,AU] at c0 c1 c2 c3 c4 w0 w1 w2 w3 w4 w5;obtain⟨g0,g1,g2,g3⟩:=hC.1
  have bad:(p.a1<c.color.a0\/p.a2<c.color.a1\/p.a3<c.color.a2\/p.a4<c.color.a3\/p.a5<c.color.a4)->Ok (λr=>r.2=0↔aeF p c x) (some ((Bd,12):rQ Int×Int)):=λhb =>
   iK ⟨λh=>bJ,λhF=>by have:=hF.2.2.2.2.1;omega⟩
  have s1:=qW (a:=p.a1) (b:=c.color.a0) ai ai;have s2:=qW (a:=p.a2) (b:=c.color.a1) ai ai;have s3:=qW (a:=p.a3) (b:=c.color.a2) ai ai;have s4:=qW (a:=p.a4) (b:=c.color.a3) ai ai;have s5:=qW (a:=p.a5) (b:=c.color.a4) ai ai;rw[U,s1,s2,s3,s4,s5];have a1:=lN (a:=p.a0) (b:=p.a1-c.color.a0) ai ai;have a2:=lN (a:=p.a0+(p.a1-c.color.a0)) (b:=p.a2-c.color.a1) ai ai;refine iJ (λh=>bad ai) λh1=>iJ (λh=>bad ai) λh2=>nO λv5 e5=>?_;rw[a1,a2] at e5;have a3:=lN (a:=v5) (b:=p.a3-c.color.a2) ai ai;have a4:=lN (a:=v5+(p.a3-c.color.a2)) (b:=p.a4-c.color.a3) ai ai;refine iJ (λh=>bad ai) λh3=>iJ (λh=>bad ai) λI=>nO λv6 e6=>?_;rw[a3,a4] at e6;have a5:=lN (a:=v6) (b:=p.a5-c.color.a4) ai ai;refine iJ (λh=>bad ai) λC=>nO λv7 J=>?_;rw[a5] at J;refine iR (λh=>iK ?_) λh=>?_
  rw[J,decide_eq_true_iff] at h;exact⟨λh=>bJ,λhF=>by have:=hF.2.2.2.2.2;omega⟩
  ·rw[J,decide_eq_false_iff_not] at h
   iterate 12 refine nO λ_ _=>?_
   exact iK ⟨λ_=>⟨hC,hW,R,T,by omega,by omega⟩,λ_=>rfl⟩
theorem YC (p:rQ Int)(c:oH)(x:Int):Ok (λr=>r=true↔aeF p c x) (AQ p c x):=by
 unfold AQ;refine iO (adh p c x) λy hy=>iK ?_;rw[decide_eq_true_iff];exact hy
theorem Zf (p:rQ Int)(c:oH)(x:Int):Ok (λr=>r=true↔aeF p c x) (Ec p c x):=by
 unfold Ec;refine iO (aeH p c x) λy hy=>iK ?_;rw[decide_eq_true_iff];exact hy
theorem aeI (cards:List jI)(s:iT)(U:rO mY cards)(hs:kQ s):Ok (λb=>b=true->uN cards s=some true/\aez cards s) (JB cards s):=RJ cards s U hs
def AtO (s:iT)(id:Int)(i:Nat):Prop:=∃ h:i<s.objects.length,s.objects[i].id=id
theorem aeJ (s:iT)(id:Int)(hs:kQ s):Ok (λr=>(r=-1/\∀ i,¬ AtO s id i)\/∃ i:Nat,r=(i:Int)/\AtO s id i) (jF s.objects λa0=>zI a0 id):=by
 have T:=hs.2.1.1;unfold jF;refine lH 0 s.objects.length (λn=>∀ i,i<n->¬ AtO s id i) 0 rfl (Nat.zero_le _) ai (λi h=>by omega) (λi k hi hI hk=>?_) λk hI=>?_
 unfold kG;refine iJ (λ_=>jl i rfl hi (iU (x:=decide (s.objects[i].id=id)) rfl (iJ (λe=>iK (.inr ⟨i,rfl,hi,e⟩)) λe=>hk λj hj=>?_))) λh=>absurd (show (i:Int)<(s.objects.length:Int) by omega) h
 by_cases U:j<i
 exact hI j U
 have:j=i:=by omega
 subst this;exact λh=>e h.2
 unfold kG;refine iJ (λh=>absurd h az) λ_=>iK (.inl ⟨rfl,λi h=>hI i h.1 h⟩)
theorem agJ (s:iT)(id:Int)(hs:kQ s):Ok (λr=>(r.2=false/\∀ i,¬ AtO s id i)\/∃ i:Nat,∃ h:i<s.objects.length,r=(s.objects[i],true)/\s.objects[i].id=id) (E8 s id):=by
 have T:=hs.2.1.1
 have ix:Ok (λr=>(r=-1/\∀ i,¬ AtO s id i)\/∃ i:Nat,r=(i:Int)/\AtO s id i) (DJ s id):=by
  unfold DJ;refine lH 0 s.objects.length (λn=>∀ i,i<n->¬ AtO s id i) 0 rfl (Nat.zero_le _) ai (λi h=>by omega) (λi k hi hI hk=>?_) λk hI=>?_
  unfold BD;refine iJ (λ_=>jl i rfl hi (iJ (λe=>iK (.inr ⟨i,rfl,hi,e⟩)) λe=>hk λj hj=>?_)) λh=>absurd (show (i:Int)<(s.objects.length:Int) by omega) h
  by_cases U:j<i
  exact hI j U
  have:j=i:=by omega
  subst this;exact λh=>e h.2
  unfold BD;refine iJ (λh=>absurd h az) λ_=>iK (.inl ⟨rfl,λi h=>hI i h.1 h⟩)
 unfold E8;refine iO ix ?_
 rintro r (⟨rfl,h⟩|⟨i,rfl,h1,h2⟩)
 exact iJ (λ_=>iK (.inl ⟨rfl,h⟩)) λh=>absurd ai h
 exact iJ (λh=>by omega) λ_=>jl i rfl h1 (iK (.inr ⟨i,h1,rfl,h2⟩))
theorem adi (s:iT)(T:List iM)(id:Int)(hs:kQ s)(g:T.length=s.objects.length)(hA:Asc s.objects)(i:Nat)(hi:i<s.objects.length)(e:s.objects[i].id=id):IK s T id=some (trA T i):=by
 have C:=hs.2.1.1;have U:i<T.length:=by omega
 unfold IK;refine ok_eq (lH 0 s.objects.length (λn=>n<=i) 0 rfl (Nat.zero_le _) ai (Nat.zero_le _) (λj k hj hI hk=>?_) λk hI=>by omega);unfold J9;refine jf (λb=>b=true) (λk5 I=>iJ (λ_=>I _ (decide_eq_true dR)) λh=>absurd (show (j:Int)<(s.objects.length:Int) by omega) h) λb hb=>?_;subst hb;refine oK rfl (jl j rfl hj (iJ (λJ=>jl j rfl ai (iK ?_)) λJ=>hk ?_))
 have:j=i:=hA.inj (List.getElem?_eq_getElem hj) (List.getElem?_eq_getElem hi) (by rw[J,e]);subst this;rw[trA,dif_pos U]
 by_cases R:j=i
 subst R;exact absurd e J
 omega
theorem apy (k:Int)(j:Nat)(h0:0<=k)(h1:k<9223372036854775808)(hj:j<63):decide (kz .and .i64 k ((2 ^ j:Nat):Int)=0)=!hasB k j:=by
 obtain⟨m,rfl⟩:=Int.eq_ofNat_of_zero_le h0;rw[Uf m j ai hj];unfold hasB;rw[Int.toNat_natCast]
 by_cases h:m / 2 ^ j % 2=1
 rw[if_pos h,decide_eq_true h];have:(0:Nat)<2 ^ j:=Nat.pow_pos ai;rw[decide_eq_false ai];rfl
 rw[if_neg h,decide_eq_false h];rfl
noncomputable def ajw (pl:kD)(pr:uh):Bool:=@decide (aeF pl.pool pr.og 0/\pr.life<=pl.life) (Classical.propDecidable _)
theorem Un (pl:kD)(U:uh):ajw pl U=true↔aeF pl.pool U.og 0/\U.life<=pl.life:=by unfold ajw;exact @decide_eq_true_iff _ (Classical.propDecidable _)
noncomputable def agK (o:iW)(t:iM)(p:Int)(pl:kD)(pr:uh):Bool :=
 decide (o.jQ=0)&&(decide (t.control=p)&&(!(pr.vZ&&(o.nC || (o.Df&&(hasB t.line.types 0&&!hasB t.keys 2))))&&ajw pl pr))
theorem pay1 (s:iT)(n:Nat)(J:n<s.ji.length)(R:uh):Ok (λr=>r=ajw s.ji[n] R) (bnd (kJ s.ji (n:Int)) λU=>bnd (AQ U.pool R.og 0) λy23=>br y23 (bnd (kJ s.ji (n:Int)) λT=>some (decide (R.life<=T.life))) (some false)):=by
 refine jl n rfl J (iO (YC _ _ _) λy hy=>iR (λh=>jl n rfl J (iK ?_)) λh=>iK ?_)
 have:=hy.1 h;rw[Bool.eq_iff_iff,Un,decide_eq_true_iff];exact⟨λh=>⟨this,h⟩,λh=>h.2⟩
 rw[Bool.eq_iff_iff,Un];exact⟨λh=>bJ,λh2=>by rw[hy.2 h2.1] at h;cases h⟩
theorem pay2 (s:iT)(n:Nat)(J:n<s.ji.length)(R:uh):Ok (λr=>r=ajw s.ji[n] R) (bnd (kJ s.ji (n:Int)) λU=>bnd (Ec U.pool R.og 0) λy23=>br y23 (bnd (kJ s.ji (n:Int)) λT=>some (decide (R.life<=T.life))) (some false)):=by
 refine jl n rfl J (iO (Zf _ _ _) λy hy=>iR (λh=>jl n rfl J (iK ?_)) λh=>iK ?_)
 have:=hy.1 h;rw[Bool.eq_iff_iff,Un,decide_eq_true_iff];exact⟨λh=>⟨this,h⟩,λh=>h.2⟩
 rw[Bool.eq_iff_iff,Un];exact⟨λh=>bJ,λh2=>by rw[hy.2 h2.1] at h;cases h⟩
def agL (s:iT)(T:List iM)(p id:Int)(pr:uh)(r:Bool):Prop :=
 (∀ i:Nat,∀ n:Nat,(n:Int)=p->∀ hi:i<s.objects.length,∀ hn:n<s.ji.length,s.objects[i].id=id->r=agK s.objects[i] (trA T i) p s.ji[n] pr) /\
 ((∀ i,¬ AtO s id i)->r=false)/\((p<0\/(s.ji.length:Int)<=p)->r=false)
theorem agM (s:iT)(T:List iM)(p id:Int)(I:uh)(hs:kQ s)(hT:T.length=s.objects.length)(hO:∀ t∈T,qX t)(hA:Asc s.objects):Ok (agL s T p id I) (Fv s T p id I):=by
 unfold Fv;refine iO (aeJ s id hs) λy hy=>jf (λb=>(b=true->(∀ i,¬ AtO s id i)\/(p<0\/(s.ji.length:Int)<=p))/\(b=false->(∃ i:Nat,y=(i:Int)/\AtO s id i)/\0<=p/\p<(s.ji.length:Int))) (λk3 h3=>?_) λb hb=>?_
 rcases hy with ⟨rfl,h⟩|⟨i,rfl,h⟩
 exact iJ (λ_=>h3 _ ⟨λ_=>.inl h,λh=>bJ⟩) λh=>absurd ai h
 refine iJ (λh=>by omega) λ_=>iJ (λh2=>h3 _ ⟨λ_=>.inr (.inl h2),λh=>bJ⟩) λh2=>h3 _ ⟨λh4=>.inr (.inr ?_),λh4=>⟨⟨i,rfl,h⟩,by omega,?_⟩⟩
 have:=of_decide_eq_true h4;simp only[iV] at this;exact this
 have:=of_decide_eq_false h4;simp only[iV] at this;omega
 refine iR (λh=>iK ?_) λh=>?_
 rcases hb.1 h with h1|h1
 exact⟨λi n _ hi _ e=>absurd ⟨hi,e⟩ (h1 i),λ_=>rfl,λ_=>rfl⟩
 exact⟨λi n e hi hn _=>by omega,λ_=>rfl,λ_=>rfl⟩
 obtain⟨⟨i,rfl,hi,ei⟩,hp0,hp1⟩:=hb.2 h;obtain⟨n,rfl⟩:=Int.eq_ofNat_of_zero_le hp0;have hn:n<s.ji.length:=by omega
 have C:i<T.length:=by omega
 have ht:trA T i=T[i]:=by rw[trA,dif_pos C]
 have U:=hO _ (List.getElem_mem C)
 have fin:∀ r:Bool,r=agK s.objects[i] T[i] (n:Int) s.ji[n] I->agL s T (n:Int) id I r:=λr hr=>⟨λj m hm hj hm2 e=>by
  have:j=i:=hA.inj (List.getElem?_eq_getElem hj) (List.getElem?_eq_getElem hi) (by rw[e,ei]);subst this;have:m=n:=by omega
  subst this;rw[ht];exact hr,λh=>absurd ⟨hi,ei⟩ (h i),λh=>by omega⟩
 refine WI (R:=agL s T (n:Int) id I) (jl i rfl hi (jf (λt=>t=T[i]) (λk7 h7=>iJ (λ_=>jl i rfl C (h7 _ rfl)) λh=>absurd (show (i:Int)<(T.length:Int) by omega) h) λt htt=>?_)) fin;subst htt;refine jf (λb=>b=!(decide (s.objects[i].jQ=0)&&decide (T[i].control=(n:Int)))) (λk11 h11=>lI (λh=>h11 _ bu) λh=>h11 _ bu) λb hb=>?_;subst hb;unfold agK;refine iR (λh=>iK ?_) λh=>?_
 cases h1:decide (s.objects[i].jQ=0)<;>cases h2:decide (T[i].control=(n:Int))<;>simp_all
 have hz:decide (s.objects[i].jQ=0)=true/\decide (T[i].control=(n:Int))=true:=by
  cases h1:decide (s.objects[i].jQ=0)<;>cases h2:decide (T[i].control=(n:Int))<;>simp_all
 rw[hz.1,hz.2];have e1:=apy T[i].line.types 0 U.t.1 U.t.2 ai;have e2:=apy T[i].keys 2 U.k.1 U.k.2 ai;refine jf (λ_=>(I.vZ&&(s.objects[i].nC || (s.objects[i].Df&&(hasB T[i].line.types 0&&!hasB T[i].keys 2))))=false) (λk14 g=>?_) λ_ hu=>?_
 refine iR (λh=>?_) λh=>g _ dH;refine jf (λb=>b=(s.objects[i].Df&&(hasB T[i].line.types 0&&!hasB T[i].keys 2))) (λk17 J=>?_) λb hb=>?_
 have e1' : decide (kz .and .i64 T[i].line.types 1=0)=!hasB T[i].line.types 0:=e1;have e2' : decide (kz .and .i64 T[i].keys 4=0)=!hasB T[i].keys 2:=e2;rw[e1',e2'];refine iR (λh=>iR (λh2=>J _ ?_) λh2=>J _ ?_) λh=>J _ dH
 have:hasB T[i].line.types 0=true:=by cases hh:hasB T[i].line.types 0 with|true=>rfl|false=>rw[hh] at h2;cases h2
 rw[h,this];rfl
 have:hasB T[i].line.types 0=false:=by cases hh:hasB T[i].line.types 0 with|true=>rw[hh] at h2;cases h2|false=>rfl
 rw[h,this];rfl
 subst hb;refine jf (λb=>b=(s.objects[i].nC || (s.objects[i].Df&&(hasB T[i].line.types 0&&!hasB T[i].keys 2)))) (λk20 h20=>iR (λh=>h20 _ dH) λh=>h20 _ dH) λb hb=>?_;subst hb;refine iR (λh2=>iK ?_) λh2=>g _ (by rw[h,h2];rfl);rw[h,h2];rfl
 refine WI (pay1 s n hn I) λr hr=>?_;rw[hu,hr];rfl
theorem adk (s:iT)(T:List iM)(p id:Int)(C:uh)(hs:kQ s)(hT:T.length=s.objects.length)(hO:∀ t∈T,qX t)(hA:Asc s.objects):Ok (agL s T p id C) (IL s T p id C):=by
 unfold IL;refine iO (agJ s id hs) λy hy=>?_;rcases hy with ⟨h2,h⟩|⟨i,hi,rfl,ei⟩
 refine jf (λb=>b=true) (λk3 U=>iR (λ_=>U _ rfl) λh5=>by rw[h2] at h5;cases h5) λb hb=>?_;subst hb;exact oK rfl (iK ⟨λi n _ hi _ e=>absurd ⟨hi,e⟩ (h i),λ_=>rfl,λ_=>rfl⟩)
 refine jf (λb=>(b=true->s.objects[i].jQ≠0\/(p<0\/(s.ji.length:Int)<=p))/\(b=false->s.objects[i].jQ=0/\0<=p/\p<(s.ji.length:Int))) (λk3 U=>?_) λb hb=>?_
 refine iR (λh=>by cases h) λ_=>lI (λh=>U _ ⟨λ_=>.inl h,λh=>bJ⟩) λhz=>iJ (λh2=>U _ ⟨λ_=>.inr (.inl h2),λh=>bJ⟩) λh2=>U _ ⟨λI=>.inr (.inr ?_),λI=>⟨hz,by omega,?_⟩⟩
 have:=of_decide_eq_true I;simp only[iV] at this;exact this
 have:=of_decide_eq_false I;simp only[iV] at this;omega
 have uniq:∀ j,∀ hj:j<s.objects.length,s.objects[j].id=id->j=i:=λj hj e=>hA.inj (List.getElem?_eq_getElem hj) (List.getElem?_eq_getElem hi) (by rw[e,ei]);refine iR (λh=>iK ?_) λh=>?_
 rcases hb.1 h with h1|h1
 refine⟨λj n _ hj _ e=>?_,λh=>absurd ⟨hi,ei⟩ (h i),λ_=>rfl⟩;have:=uniq j hj e;subst this;unfold agK;rw[decide_eq_false h1];rfl
 exact⟨λj n e hj hn _=>by omega,λ_=>rfl,λ_=>rfl⟩
 obtain⟨hz,hp0,hp1⟩:=hb.2 h;obtain⟨n,rfl⟩:=Int.eq_ofNat_of_zero_le hp0;have hn:n<s.ji.length:=by omega
 have hTi:i<T.length:=by omega
 have ht:trA T i=T[i]:=by rw[trA,dif_pos hTi]
 have J:=hO _ (List.getElem_mem hTi)
 have fin:∀ r:Bool,r=agK s.objects[i] T[i] (n:Int) s.ji[n] C->agL s T (n:Int) id C r:=λr hr=>⟨λj m hm hj hm2 e=>by
  have:=uniq j hj e;subst this;have:m=n:=by omega
  subst this;rw[ht];exact hr,λh=>absurd ⟨hi,ei⟩ (h i),λh=>by omega⟩
 refine WI (R:=agL s T (n:Int) id C) (iU (adi s T id hs hT hA i hi ei) ?_) fin;rw[ht];unfold agK;rw[decide_eq_true hz];refine lI (λh=>iK (by rw[decide_eq_false h];rfl)) λhc=>?_;rw[decide_eq_true hc];refine jf (λb=>b=(C.vZ&&(s.objects[i].nC || (s.objects[i].Df&&(hasB T[i].line.types 0&&!hasB T[i].keys 2))))) (λk7 g=>?_) λb hb=>?_
 have k1:QJ T[i].line.types 1=some (hasB T[i].line.types 0):=NJ T[i].line.types 0 J.t.1 J.t.2;have k2:QJ T[i].keys 4=some (hasB T[i].keys 2):=NJ T[i].keys 2 J.k.1 J.k.2;refine iR (λh=>iR (λh2=>g _ ?_) λh2=>iR (λU=>iU k1 (iR (λI=>iU k2 (g _ ?_)) λI=>g _ ?_)) λU=>g _ ?_) λh=>g _ dH
 rw[h,show s.objects[i].nC=true from h2];rfl
 rw[h,show s.objects[i].nC=false from h2,show s.objects[i].Df=true from U,I];cases hasB T[i].keys 2<;>rfl
 rw[h,show s.objects[i].nC=false from h2,show s.objects[i].Df=true from U,I];rfl
 rw[h,show s.objects[i].nC=false from h2,show s.objects[i].Df=false from U];rfl
 subst hb;refine iR (λh=>iK dH) λh=>?_;rw[h];refine WI (pay2 s n hn C) λr hr=>by rw[hr];rfl
theorem Zg (u:vS)(hu:VS u):CX u=some true:=by
 obtain⟨J,hs⟩:=hu;have I:JC=some true:=rfl;unfold CX;refine ok_eq (iO (aeI u.cards u.s J hs) λy hy=>iR (λ_=>iU I (iK rfl)) λh=>?_);obtain⟨R,V⟩:=hy bI;have hA:=abo u.cards u.s J hs R;refine iO (PW u.cards u.s J hs V.c V.o) λT U=>iU I (oK rfl (iO (agM u.s T u.p u.id u.price hs U.1 U.2 hA) λr1 h1=>iO (adk u.s T u.p u.id u.price hs U.1 U.2 hA) λr2 h2=>iK ?_))
 have:r1=r2:=by
  by_cases g:0<=u.p/\u.p<(u.s.ji.length:Int)
  obtain⟨n,C⟩:=Int.eq_ofNat_of_zero_le g.1
  by_cases hex:∃ i,AtO u.s u.id i
  obtain⟨i,hi,e⟩:=hex;rw[h1.1 i n C.symm hi ai e,h2.1 i n C.symm hi ai e]
  have hno:∀ i,¬ AtO u.s u.id i:=λi h=>hex ⟨i,h⟩;rw[h1.2.1 hno,h2.2.1 hno]
  have:u.p<0\/(u.s.ji.length:Int)<=u.p:=by omega
  rw[h1.2.2 this,h2.2.2 this]
 rw[this];simp
theorem sT94 {cs:List PV}(h:Sn Tryz.prog 1048576 94 cs):∃ x:vS,cs=(Ic jT) x/\ant x:=by
 have h:=h.l7 Tryz.underlying94;obtain⟨n0,b0,rfl,w0,h⟩:=h.cs ani;obtain⟨n1,C,rfl,T,h⟩:=h.cs anq;obtain⟨I,g,rfl,J,h⟩:=h.cs ru;obtain⟨n3,b3,rfl,R,h⟩:=h.cs ru;obtain⟨n4,b4,rfl,U,h⟩:=h.cs aoX;obtain rfl:=h.mO;exact⟨⟨n0,n1,I,n3,n4⟩,rfl,w0,T,J,R,U⟩
theorem sV94 {p:PV}(h:SnV Tryz.prog 1048576 94 p):∃ x:vS,p=.agg ((Ic jT) x)/\ant x:=by
 obtain⟨cs,rfl,h2⟩:=h.Wx aH;obtain⟨x,rfl,hx⟩:=sT94 h2;exact⟨x,rfl,hx⟩
end Go.Proofs.YtlacmdnhabblcaaGreat
