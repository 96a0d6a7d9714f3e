import Derived.Test.YtlacmdnhabblcaaGreatB24
import Derived.Test.YtlacmdnhabblcaaGreatB28
set_option linter.all false
namespace Go.Proofs.YtlacmdnhabblcaaGreat
open Go Go.Pv Proofs.Tryz
set_option maxRecDepth 100000
def Ku (x:iM):Prop:=Me x.name/\A7 x.line/\(rO ny) x.jO
def sH (x:jJ):Prop:=(rO (λ(_:Int)=>True)) x.objects/\oC x.filter/\(rO qZ) x.mP
theorem Ym (c:oH)  : Ok (λr=>True) (Io c):=by
 unfold Io;refine iO (DZ _ ) (λy1 h1=>?_);apply iR<;>intro h2
 exact gQ
 refine kW (λ(T:Int×Int×Int)=>0<=T.2.2/\T.2.2<=5) (λ(T:Int×Int×Int)=>(5-T.2.2).toNat) ⟨ae,ae⟩ ak (λT k3 I hk4=>?_);obtain⟨J,g⟩:=I;unfold JU;apply iJ<;>intro h5
 refine jf (λ(s5:Int)=>True) (λk6 C=>?_) (λs5 hs7=>?_)
 refine jf (λ(s8:Int)=>True) (λk9 R=>?_) (λs8 hs9=>?_)
 refine jf (λ(s11:Bool)=>True) (λk12 U=>?_) (λs11 hs11=>?_)
 refine DX ae ae (λj14 h12=>?_)
 split
 exact U _ trivial
 exact U _ trivial
 exact U _ trivial
 exact U _ trivial
 exact U _ trivial
 apply iR<;>intro h13
 exact R _ trivial
 exact R _ trivial
 exact C _ trivial
 have h14:jq T.2.2 1=T.2.2+1:=lN ai ai;exact hk4 _ ⟨ae,ae⟩ ae
 exact gQ
theorem nV (n:Int)  : Ok (λr=>-1000000<=r/\r<=1000000) (qc n):=by
 unfold qc;apply iJ<;>intro h1
 exact iK ai
 apply iJ<;>intro h2
 exact iK ai
 exact iK ai
theorem acW (a:Int)(b:Int)  : Ok (λr=>True) (Jp a b):=by
 unfold Jp;refine iO (nV _ ) (λy1 h1=>?_);refine iO (nV _ ) (λT h2=>?_);refine iO (nV _ ) (λy3 U=>?_);exact iK trivial
theorem YZ (c:UQ Int)  : Ok (λr=>True) (Lm c):=by
 unfold Lm;refine iO (acW _ _ ) (λy1 h1=>?_);exact iK trivial
theorem yz (a:Int)(b:Int)  : Ok (λr=>True) (uw a b):=by
 unfold uw;refine iO (nV _ ) (λy1 h1=>?_);refine iO (nV _ ) (λT h2=>?_);refine iO (nV _ ) (λy3 U=>?_);exact iK trivial
theorem VQ (a:Int)(b:Int)  : Ok (λr=>True) (QC a b):=by
 unfold QC;refine iO (nV _ ) (λy1 h1=>?_);refine iO (nV _ ) (λT h2=>?_);refine iO (nV _ ) (λy3 U=>?_);exact iK trivial
theorem Y4 (c:oH)(x:Int)  : Ok (λr=>True) (Lr c x):=by
 unfold Lr;refine iO (DZ _ ) (λy1 h1=>?_);apply iR<;>intro h2
 exact gQ
 refine iO (yz _ _ ) (λy3 h3=>?_);refine iO (yz _ _ ) (λy4 h4=>?_);refine iO (yz _ _ ) (λy5 h5=>?_);refine iO (yz _ _ ) (λy6 h6=>?_);refine iO (yz _ _ ) (λC h7=>?_);apply iJ<;>intro g
 refine iO (VQ _ _ ) (λy8 h9=>?_);refine iO (yz _ _ ) (λy9 T=>?_);exact iK trivial
 refine iO (VQ _ _ ) (λU I=>?_);refine iO (yz _ _ ) (λJ R=>?_);exact iK trivial
theorem acX (control:Int)(U:Int)(w:Int)  : Ok (λr=>True) (TQ control U w):=by
 unfold TQ;apply iJ<;>intro h1
 exact gQ
 refine lI (λh2=>?_) (λh2=>?_)
 exact gQ
 exact gQ
theorem abn (id:Int)(source:Int)(w:Int)  : Ok (λr=>True) (PI id source w):=by
 unfold PI;apply iJ<;>intro h1
 exact gQ
 refine lI (λh2=>?_) (λh2=>?_)
 exact gQ
 exact gQ
theorem acY (nC:Bool)(w:Int)  : Ok (λr=>True) (TR nC w):=by
 unfold TR;apply iJ<;>intro h1
 exact gQ
 refine lI (λh2=>?_) (λh2=>?_)
 exact gQ
 exact gQ
theorem rM (a:Int)(b:Int)  : Ok (λr=>True) (rq a b):=by
 unfold rq;exact iK trivial
theorem PR (l:wu)(sub:ByteArray)(T:A7 l)(U:Me sub):Ok (λr=>True) (DT l sub):=by
 unfold DT;have z1:=((T)).1;have z2:=((T)).2;have z3:sub.size<=1048576:=U;refine iO (JX _ _ dI aG) (λy1 R=>?_);exact iK trivial
theorem J5 (b:xX)(n:Int)  : Ok (λr=>True) (DU b n):=by
 unfold DU;apply iJ<;>intro h1
 exact gQ
 apply iJ<;>intro h2
 exact gQ
 apply iJ<;>intro U
 exact gQ
 apply iJ<;>intro T
 exact gQ
 exact gQ
theorem PS (t:iM)(f:lX)(U:Ku t)(J:oC f):Ok (λr=>True) (DV t f):=by
 unfold DV;have z1:t.name.size<=1048576:=(U).1;have z2:=(U).2.1;have z3:=(((U).2.1)).1;have z4:=(((U).2.1)).2;have z5:=((U).2.2).1;have z6:=((U).2.2).2;have z7:f.sub.size<=1048576:=(J);refine iO (rM _ _ ) (λy1 h8=>?_);refine jf (λ(s2:Bool)=>True) (λk3 R=>?_) (λs2 g=>?_)
 refine lI (λC=>?_) (λC=>?_)
 apply iR<;>intro h12
 refine iO (J5 _ _ ) (λy5 h13=>?_);exact R _ trivial
 exact R _ trivial
 exact R _ trivial
 apply iR<;>intro h14
 exact gQ
 refine jf (λ(s6:Bool)=>True) (λk7 T=>?_) (λs6 hs16=>?_)
 refine lI (λI=>?_) (λI=>?_)
 apply iR<;>intro h18
 refine iO (J5 _ _ ) (λy9 h19=>?_);exact T _ trivial
 exact T _ trivial
 exact T _ trivial
 apply iR<;>intro h20
 exact gQ
 refine iO (Y4 _ _ ) (λy10 h21=>?_);refine iO (J5 _ _ ) (λy11 h22=>?_);exact iK trivial
theorem VR (mask:Int)(key:Int)  : Ok (λr=>True) (yR mask key):=by
 unfold yR;exact iK trivial
theorem PT (o:iW)(t:iM)(C:Int)(source:Int)(f:lX)(U:Ku t)(J:oC f):Ok (λr=>True) (yh o t C source f):=by
 unfold yh;have z1:t.name.size<=1048576:=(U).1;have z2:=(U).2.1;have z3:=(((U).2.1)).1;have z4:=(((U).2.1)).2;have z5:=((U).2.2).1;have z6:=((U).2.2).2;have z7:f.sub.size<=1048576:=(J);refine jf (λ(s1:Bool)=>s1=false->o.jQ=f.jQ) (λk2 T=>?_) (λs1 g=>?_)
 refine iO (uP _ ay) (λy4 h10=>?_);apply iR<;>intro h11
 exact T _ af
 refine lI (λh12=>?_) (λh12=>?_)
 exact T _ af
 refine iO (acX _ _ _ ) (λy5 h13=>?_);apply iR<;>intro h14
 exact T _ af
 refine iO (abn _ _ _ ) (λy6 h15=>?_);apply iR<;>intro h16
 exact T _ af
 refine iO (acY _ _ ) (λy7 h17=>?_);exact T _ af
 apply iR<;>intro h18
 exact gQ
 have hf19:=g h18;refine jf (λ(s8:Bool)=>True) (λk9 hk20=>?_) (λs8 hs21=>?_)
 refine lI (λI=>?_) (λI=>?_)
 refine iO (rM _ _ ) (λy11 h23=>?_);apply iR<;>intro h24
 exact hk20 _ trivial
 refine iO (rM _ _ ) (λy12 h25=>?_);exact hk20 _ trivial
 refine iO (rM _ _ ) (λy13 h26=>?_);exact hk20 _ trivial
 apply iR<;>intro h27
 exact gQ
 refine jf (λ(s14:Bool)=>True) (λk15 R=>?_) (λs14 hs29=>?_)
 refine lI (λh30=>?_) (λh30=>?_)
 refine iO (rM _ _ ) (λy17 h31=>?_);apply iR<;>intro h32
 exact R _ trivial
 refine iO (rM _ _ ) (λy18 h33=>?_);exact R _ trivial
 refine iO (rM _ _ ) (λy19 h34=>?_);exact R _ trivial
 apply iR<;>intro h35
 exact gQ
 apply iR<;>intro h36
 refine iO (PR _ _ bQ aG) (λy20 h37=>?_);apply iR<;>intro h38
 exact gQ
 refine iO (VR _ _ ) (λy21 h39=>?_);apply iR<;>intro h40
 exact gQ
 refine iO (PS _ _ bP ay) (λy22 h41=>?_);exact iK trivial
 refine iO (VR _ _ ) (λy23 h42=>?_);apply iR<;>intro h43
 exact gQ
 refine iO (PS _ _ bP ay) (λy24 h44=>?_);exact iK trivial
theorem J6 (kind:Int)  : Ok (λr=>True) (wY kind):=by
 unfold wY;apply iJ<;>intro h1
 exact gQ
 apply iJ<;>intro h2
 exact gQ
 apply iJ<;>intro h3
 exact gQ
 apply iJ<;>intro h4
 exact gQ
 apply iJ<;>intro h5
 exact gQ
 apply iJ<;>intro C
 exact gQ
 apply iJ<;>intro h7
 exact gQ
 apply iJ<;>intro h8
 exact gQ
 apply iJ<;>intro g
 exact gQ
 apply iJ<;>intro T
 exact gQ
 apply iJ<;>intro I
 exact gQ
 apply iJ<;>intro R
 exact gQ
 apply iJ<;>intro U
 exact gQ
 apply iJ<;>intro J
 exact gQ
 exact gQ
theorem Y5 (s:iT)(id:Int)(U:kQ s):Ok (λr=>-1<=r/\r<(s.objects.length:Int)) (DR s id):=by
 unfold DR;have z1:=((U).1).1;have z2:=((U).1).2;have z3:=((U).2.1).1;have z4:=((U).2.2.1).1;have z5:=((U).2.2.2.1).1;have z6:=((U).2.2.2.2.1).1;have z7:=((U).2.2.2.2.1).2;have z8:=((U).2.2.2.2.2.1).1;have z9:=((U).2.2.2.2.2.1).2;have z10:=((U).2.2.2.2.2.2.1).1;have z11:=((U).2.2.2.2.2.2.1).2;have z12:=((U).2.2.2.2.2.2.2).1;refine kW (λ(T:Int)=>0<=T/\T<=(s.objects.length:Int)) (λ(T:Int)=>((s.objects.length:Int)-T).toNat) ⟨ae,ae⟩ ak (λT k2 I R=>?_);obtain⟨C,g⟩:=I;unfold Nw;apply iJ<;>intro J
 (try simp only[iV] at J)
 refine mM ae ae (λx4 h16=>?_);apply iJ<;>intro h17
 exact iK ai
 have h18:jq T 1=T+1:=lN ai ai;exact R _ ⟨ae,ae⟩ ae
 (try simp only[iV] at J)
 exact iK ai
theorem Wj (f:jJ)(stage:Int)(U:sH f):Ok (λr=>True) (Fg f stage):=by
 unfold Fg;have z1:=((U).1).1;have z2:=(U).2.1;have z3:f.filter.sub.size<=1048576:=((U).2.1);have z4:=((U).2.2).1;have z5:=((U).2.2).2;refine kW (λ(T:Int)=>0<=T/\T<=(f.mP.length:Int)) (λ(T:Int)=>((f.mP.length:Int)-T).toNat) ⟨ae,ae⟩ ak (λT k2 J C=>?_);obtain⟨I,g⟩:=J;unfold Iq;apply iJ<;>intro h8
 (try simp only[iV] at h8)
 refine mM ae ae (λR h9=>?_);have z10:qZ R:=z5 R h9;have z11:R.sub.size<=1048576:=(z10).1;have z12:=(z10).2;have z13:R.filter.sub.size<=1048576:=((z10).2);refine iO (J6 _ ) (λy5 h14=>?_);apply iJ<;>intro h15
 exact gQ
 have h16:jq T 1=T+1:=lN ai ai;exact C _ ⟨ae,ae⟩ ae
 (try simp only[iV] at h8)
 exact iK trivial
theorem Y6 (f:jJ)(stage:Int)(U:sH f):Ok (λr=>True) (Lt f stage):=by
 unfold Lt;have z1:=((U).1).1;have z2:=(U).2.1;have z3:f.filter.sub.size<=1048576:=((U).2.1);have z4:=((U).2.2).1;have z5:=((U).2.2).2;refine kW (λ(R:Int)=>0<=R/\R<=(f.mP.length:Int)) (λ(R:Int)=>((f.mP.length:Int)-R).toNat) ⟨ae,ae⟩ ak (λR k2 g hk7=>?_);obtain⟨hI6_0,hI6_1⟩:=g;unfold Ny;apply iJ<;>intro h8
 (try simp only[iV] at h8)
 refine jf (λ(s4:Bool)=>True) (λk5 J=>?_) (λs4 hs10=>?_)
 refine mM ae ae (λI h11=>?_);have z12:qZ I:=z5 I h11;have z13:I.sub.size<=1048576:=(z12).1;have z14:=(z12).2;have z15:I.filter.sub.size<=1048576:=((z12).2);apply iJ<;>intro h16
 refine mM ae ae (λC h17=>?_);have T:qZ C:=z5 C h17;have z19:C.sub.size<=1048576:=(T).1;have z20:=(T).2;have z21:C.filter.sub.size<=1048576:=((T).2);refine iO (J6 _ ) (λy9 h22=>?_);exact J _ trivial
 exact J _ trivial
 apply iR<;>intro h23
 exact gQ
 have h24:jq R 1=R+1:=lN ai ai;exact hk7 _ ⟨ae,ae⟩ ae
 (try simp only[iV] at h8)
 exact iK trivial
structure J7 (c:jI):Prop where
 types:1<=c.line.types/\c.line.types<=63
 keys:0<=c.keys/\c.keys<=131071
 akV:c.jO.length<=8
 pt:(0<=c.power/\c.power<=99)/\0<=c.jE/\c.jE<=99
theorem aiN (l:wu)(U:A7 l):Ok (λr=>r=true->1<=l.types/\l.types<=63) (JP l):=by
 obtain⟨r,e,_⟩:=Yg l U;refine⟨r,e,λh=>?_⟩;subst h
 by_cases h1:l.types<1
 exfalso
 have:JP l=some false:=by
  unfold JP;refine ok_eq (jf (λb=>b=true) (λk hk=>?_) λb hb=>by subst hb;exact iK rfl);exact iJ (λ_=>hk _ rfl) λ_=>iJ (λ_=>hk _ rfl) λ_=>iJ (λ_=>hk _ rfl) λh=>absurd h1 h
 rw[e] at this;cases this
 by_cases h2:63<l.types
 exfalso
 have:JP l=some false:=by
  unfold JP;refine ok_eq (jf (λb=>b=true) (λk hk=>?_) λb hb=>by subst hb;exact iK rfl);exact iJ (λ_=>hk _ rfl) λ_=>iJ (λ_=>hk _ rfl) λ_=>iJ (λ_=>hk _ rfl) λ_=>iJ (λ_=>hk _ rfl) λh=>absurd h2 h
 rw[e] at this;cases this
 omega
theorem aiO (k:Int):OW k=some (decide (0<=k/\k<=131071)):=by
 unfold OW;exact ok_eq (iJ (λh=>iK bu) λh=>iK bu)
theorem aiP (c:jI)(U:mY c):Ok (λr=>r=true->J7 c) (Pm c):=by
 obtain⟨r,e,_⟩:=aen c U;refine⟨r,e,λh=>?_⟩;subst h;refine Classical.byContradiction λhno=>?_
 have:Pm c=some false:=by
  unfold Pm;refine ok_eq (jf (λb=>b=false->(1<=c.line.types/\c.line.types<=63)/\(0<=c.keys/\c.keys<=131071)) (λk hk=>?_) λb hb=>?_)
  refine iO (NF _ U.1) λ_ _=>iR (λ_=>hk _ λh=>by cases h) λ_=>iO (DZ _) λ_ _=>iR (λ_=>hk _ λh=>by cases h) λ_=>?_;refine iO (aiN _ U.2.1) λy hy=>iR (λ_=>hk _ λh=>by cases h) λh1=>iU (aiO _) (iR (λ_=>hk _ λh=>by cases h) λh2=>?_);have h1:y=true:=by cases y with|true=>rfl|false=>cases h1
  have h2:0<=c.keys/\c.keys<=131071:=by
   cases J:decide (0<=c.keys/\c.keys<=131071) with
   | true=>exact of_decide_eq_true J
   | false=>rw[J] at h2;cases h2
  exact iJ (λ_=>hk _ λh=>by cases h) λ_=>hk _ λ_=>⟨hy h1,h2⟩
  refine iR (λ_=>iK rfl) λT=>?_;obtain⟨g1,g2⟩:=hb T
  have I:((0<=c.power/\c.power<=99)/\0<=c.jE/\c.jE<=99)->8<iV c.jO:=by
   intro R;refine Classical.byContradiction λh=>hno ⟨g1,g2,?_,R⟩;simp only[iV] at h;omega
  refine jf (λb=>b=true) (λk hk=>?_) λb hb=>by subst hb;exact iK rfl
  refine iJ (λ_=>hk _ rfl) λa1=>iJ (λ_=>hk _ rfl) λa2=>iJ (λ_=>hk _ rfl) λa3=>iJ (λ_=>hk _ rfl) λa4=>?_;have last:Ok (λr=>r=false) (k (decide (8<iV c.jO))):=hk _ (decide_eq_true (I ai));exact iO (LK c U) λ_ _=>iR (λ_=>lI (λ_=>hk _ rfl) λ_=>lI (λ_=>hk _ rfl) λ_=>last) λ_=>last
 rw[e] at this;cases this
theorem Vg (l:List jI)(T:rO mY l):Ok (λr=>r.2=0->∀ c∈l,J7 c) (Ap l):=by
 have hlen:=T.1;unfold Ap;refine iJ (λ_=>iK λh=>by cases h) λ_=>?_;refine lH 0 l.length (λn=>∀ c∈l.take n,J7 c) 0 rfl (Nat.zero_le _) ai aI (λi k hi hI hk=>?_) λk hI=>?_
 have hx:=T.2 _ (List.getElem_mem hi);unfold Gj;refine iJ (λ_=>jl i rfl hi (iO (aiP _ hx) λy hy=>iR (λ_=>iK λh=>by cases h) λh1=>jl i rfl hi (iO (abf l _ T hx.1) λ_ _=>iJ (λ_=>iK λh=>by cases h) λ_=>jl i rfl hi (iO (Wh l _ T hx) λ_ _=>iR (λ_=>iK λh=>by cases h) λ_=>hk λc U=>?_)))) λh=>absurd (show (i:Int)<(l.length:Int) by omega) h;rw[mr l i hi] at U;rcases List.mem_append.1 U with U|U
 exact hI c U
 rw[List.mem_singleton.1 U];exact hy (by cases y with|true=>rfl|false=>cases h1)
 unfold Gj;rw[qf] at hI;exact iJ (λh=>absurd h aB) λ_=>iK λ_=>hI
theorem alA {a b:Int}{n:Nat}(U:0<=a/\a<2 ^ n)(hb:0<=b/\b<2 ^ n)(T:n<=62):0<=kz .or .i64 a b/\kz .or .i64 a b<2 ^ n:=by
 obtain⟨x,rfl⟩:=Int.eq_ofNat_of_zero_le U.1;obtain⟨y,rfl⟩:=Int.eq_ofNat_of_zero_le hb.1;have J:(2:Nat) ^ n<=2 ^ 62:=Nat.pow_le_pow_right ai T;have e:((2:Int) ^ n)=((2 ^ n:Nat):Int):=by simp
 rw[e] at U hb |-;have hx:x<2 ^ n:=by omega
 have hy:y<2 ^ n:=by omega
 have h:kz .or .i64 (x:Int) (y:Int)=((x ||| y:Nat):Int):=by
  show IntKind.i64.wrap _=_;have R:(2:Nat) ^ 62<2 ^ 64:=by decide
  have:(BitVec.ofInt 64 (x:Int) ||| BitVec.ofInt 64 (y:Int)).toNat=x ||| y:=by
   rw[BitVec.toNat_or,BitVec.toNat_ofInt,BitVec.toNat_ofInt];rw[show (((x:Int) % ((2 ^ 64:Nat):Int)).toNat)=x by rw[Int.emod_eq_of_lt ai ai];simp];rw[show (((y:Int) % ((2 ^ 64:Nat):Int)).toNat)=y by rw[Int.emod_eq_of_lt ai ai];simp]
  have h2:x ||| y<2 ^ n:=Nat.or_lt_two_pow hx hy
  show IntKind.i64.wrap (((BitVec.ofInt 64 (x:Int) ||| BitVec.ofInt 64 (y:Int)).toNat:Nat):Int)=_;rw[this];have I:(2:Nat) ^ 62<9223372036854775808:=by decide
  exact wrap_in ai ai
 rw[h];have:=Nat.or_lt_two_pow hx hy;omega
theorem agw {a b:Int}{n:Nat}(T:0<=a/\a<2 ^ n)(R:n<=62):0<=kz .andNot .i64 a b/\kz .andNot .i64 a b<2 ^ n:=by
 obtain⟨x,rfl⟩:=Int.eq_ofNat_of_zero_le T.1;have J:(2:Nat) ^ n<=2 ^ 62:=Nat.pow_le_pow_right ai R;have e:((2:Int) ^ n)=((2 ^ n:Nat):Int):=by simp
 rw[e] at T |-;have hx:x<2 ^ n:=by omega
 have h:∃ z:Nat,z<=x/\kz .andNot .i64 (x:Int) b=(z:Int):=by
  refine⟨(BitVec.ofInt 64 (x:Int) &&& ~~~(BitVec.ofInt 64 b)).toNat,?_,?_⟩
  rw[BitVec.toNat_and,BitVec.toNat_ofInt]
  rw[show (((x:Int) % ((2 ^ 64:Nat):Int)).toNat)=x by
   have U:(2:Nat) ^ 62<2 ^ 64:=by decide
   rw[Int.emod_eq_of_lt ai ai];simp]
  exact Nat.and_le_left
  have hle:(BitVec.ofInt 64 (x:Int) &&& ~~~(BitVec.ofInt 64 b)).toNat<=x:=by
   rw[BitVec.toNat_and,BitVec.toNat_ofInt]
   rw[show (((x:Int) % ((2 ^ 64:Nat):Int)).toNat)=x by
    have U:(2:Nat) ^ 62<2 ^ 64:=by decide
    rw[Int.emod_eq_of_lt ai ai];simp]
   exact Nat.and_le_left
  have I:(2:Nat) ^ 62<9223372036854775808:=by decide
  show IntKind.i64.wrap (((BitVec.ofInt 64 (x:Int) &&& ~~~(BitVec.ofInt 64 b)).toNat:Nat):Int)=_;exact wrap_in ai ai
 obtain⟨z,h1,h2⟩:=h;rw[h2];omega
structure qX (t:iM):Prop where
 sz:Ku t
 types:0<=t.line.types/\t.line.types<=63
 keys:0<=t.keys/\t.keys<=131071
 pt:(-1000000<=t.power/\t.power<=1000000)/\-1000000<=t.jE/\t.jE<=1000000
theorem qX.t {t:iM}(h:qX t):0<=t.line.types/\t.line.types<9223372036854775808:=by have:=h.types;omega
theorem qX.k {t:iM}(h:qX t):0<=t.keys/\t.keys<9223372036854775808:=by have:=h.keys;omega
theorem Z7 (k:Int):∃ n,wY k=some n:=by obtain⟨r,e,_⟩:=J6 k;exact⟨r,e⟩
noncomputable def stg (k:Int):Int:=Classical.choose (Z7 k)
theorem aiQ (k:Int):wY k=some (stg k):=Classical.choose_spec (Z7 k)
theorem aeu (a:kF)(h:ny a):Fb a=some a:=by
 obtain⟨_,h1,_,h2,U,_⟩:=h;have q1:=h1.1;have q2:=h2.1;have J:=U.1;unfold Fb;refine ok_eq (jG ai ai (jG ai ai ?_));refine lK 0 a.nR.length (λn t=>t=a.nR.take n) 0 rfl (Nat.zero_le _) ai rfl (λi t k hi hI hk=>?_) λt k hI=>?_
 have hx:=U.2 _ (List.getElem_mem hi);have R:=hx.2.2.2.2.1;have T:t.length<=1048576:=by rw[hI,List.length_take];omega
 unfold BI;refine iJ (λ_=>jl i rfl hi (jG ai ai (jG (by show (2*(t.length+1)+192)*560<=_;omega) aX (hk _ ?_)))) λh=>absurd (show (i:Int)<(a.nR.length:Int) by omega) h;show t++[a.nR[i]]=_;rw[mr _ i hi,hI]
 unfold BI;rw[qf] at hI;refine iJ (λh=>absurd h dZ) λ_=>iK ?_;show ({ a with mP:=a.mP,specs:=a.specs,nR:=t }:kF)=a;rw[hI]
structure aoR (c:jI)(t:iM):Prop where
 name:t.name=c.name
 line:t.line=c.line
 keys:t.keys=c.keys
 akV:t.jO=c.jO
 power:t.power=c.power
 jE:t.jE=c.jE
theorem aev (c:jI)(h:mY c):Ok (aoR c) (Fe c):=by
 obtain⟨h1,h2,U⟩:=h;have R:=U.1;have q2:=h2.1;unfold Fe;refine iO (Ym c.cost) λy1 _=>jG ai ai ?_;refine lK 0 c.jO.length (λn t=>t=c.jO.take n) 0 rfl (Nat.zero_le _) ai rfl (λi t k hi hI hk=>?_) λt k hI=>?_
 have T:t.length<=1048576:=by rw[hI,List.length_take];omega
 unfold BJ;refine iJ (λ_=>jl i rfl hi (iU (aeu _ (U.2 _ (List.getElem_mem hi))) (jG (by show (2*(t.length+1)+192)*640<=_;omega) aX (hk _ ?_)))) λh=>absurd (show (i:Int)<(c.jO.length:Int) by omega) h;show t++[c.jO[i]]=_;rw[mr _ i hi,hI]
 unfold BJ;rw[qf] at hI;refine iJ (λh=>absurd h dW) λ_=>iK ⟨rfl,rfl,rfl,hI,rfl,rfl⟩
theorem zTr:qX rU:=by
 refine⟨?_,by decide,by decide,by decide⟩;simp[Ku,A7,Me,rO,rU,aaZ,oZ]
theorem alB (cards:List jI)(o:iW)(T:rO mY cards)(hv:∀ c∈cards,J7 c):Ok (λt=>qX t/\t.jO.length<=8) (U7 cards o):=by
 have hlen:=T.1;unfold U7;refine jf (λ_=>True) (λk hk=>iJ (λ_=>hk _ trivial) λ_=>hk _ trivial) λi _=>?_;refine jf (λt=>qX t/\t.jO.length<=8) (λk hk=>?_) λt ht=>?_
 refine jf (λb=>b=true->0<=i/\i<iV cards) (λk8 J=>iJ (λh=>J _ λh2=>⟨h,of_decide_eq_true h2⟩) λ_=>J _ λh=>by cases h) λb hb=>?_;refine iR (λh=>?_) λ_=>hk _ ⟨zTr,by show (0:Nat)<=8;omega⟩;obtain⟨g1,g2⟩:=hb h;simp only[iV] at g2;refine mM g1 g2 λc U=>iO (aev c (T.2 c U)) λt ht=>hk t ?_;have hv:=hv c U;have R:=T.2 c U;refine⟨⟨⟨by rw[ht.name];exact R.1,by rw[ht.line];exact R.2.1,by rw[ht.akV];exact R.2.2⟩,by rw[ht.line];have:=hv.types;omega,by rw[ht.keys];exact hv.keys,by rw[ht.power,ht.jE];have:=hv.pt;omega⟩,by rw[ht.akV];exact hv.akV⟩
 have hh:∀ x:Int,qX { t with control:=x }/\({ t with control:=x }:iM).jO.length<=8:=λx=>⟨⟨ht.1.sz,ht.1.types,ht.1.keys,ht.1.pt⟩,ht.2⟩
 exact iJ (λ_=>iK (hh _)) λ_=>iJ (λ_=>iK (hh _)) λ_=>iK (hh _)
theorem Z8 (n:Int):Am n=some (decide ((1<=n/\n<=63)/\kz .and .i64 n 6=0)):=by
 unfold Am;exact ok_eq (iJ (λh=>iJ (λh2=>iK (by simp[h,h2])) λh2=>iK (by simp[h2])) λh=>iK bu)
structure alC (m:nN):Prop where
 types:m.kind=2\/m.kind=3->1<=m.n/\m.n<=63
 keys:m.kind=8\/m.kind=9->1<=m.n/\m.n<=131071
 pt:m.kind=12->(0<=m.n/\m.n<=99)/\0<=m.m/\m.m<=99
theorem aiR (m:nN)(U:qZ m):Ok (λr=>r=true->alC m) (JQ m):=by
 obtain⟨r,e,_⟩:=RF m U;refine⟨r,e,λh=>?_⟩;subst h;refine Classical.byContradiction λhno=>?_
 have:JQ m=some false:=by
  unfold JQ;refine ok_eq (jf (λ_=>True) (λk hk=>?_) λb _=>?_)
  exact iJ (λ_=>hk _ trivial) λ_=>iJ (λ_=>hk _ trivial) λ_=>iO (TU m U) λ_ _=>uf (hk _ trivial)
  refine iR (λ_=>iK rfl) λ_=>iJ (λk2=>?_) λk2=>iJ (λk3=>?_) λk3=>?_
  refine iU (Z8 _) (iK (decide_eq_false λh=>hno ⟨λ_=>h.1,λh=>?_,λh=>?_⟩))<;>omega
  refine iU (Z8 _) (iK (decide_eq_false λh=>hno ⟨λ_=>h.1,λh=>?_,λh=>?_⟩))<;>omega
  refine iJ (λh=>?_) λk4=>iJ (λh=>?_) λk5=>iJ (λh=>?_) λk6=>iJ (λh=>?_) λk7=>iJ (λk8=>?_) λk8=>iJ (λJ=>?_) λJ=>iJ (λh=>?_) λR=>iJ (λk12=>?_) λk12=>?_
  exact ig
  exact ig
  exact ig
  exact ig
  exact iF
  exact iF
  exact ig
  exact iJ (λh1=>iJ (λh2=>iJ (λT=>iK (decide_eq_false λI=>hno ⟨λh2=>by omega,λh2=>by omega,λ_=>⟨⟨h1,h2⟩,T,I⟩⟩)) λ_=>iK rfl) λ_=>iK rfl) λ_=>iK rfl
  exact ig
 rw[e] at this;cases this
theorem agx (l:wu)(sub:ByteArray)(T:A7 l)(hs:Me sub):Ok (λr=>r.types=l.types/\A7 r) (Ir l sub):=by
 have q:=T.1;unfold Ir;refine jG ai ai (jf (λb=>b=false->iV l.subs<4) (λk hk=>?_) λb hb=>?_)
 refine iO (zF sub hs) λ_ _=>iR (λ_=>hk _ λh=>by cases h) λ_=>iO (PR l sub T hs) λ_ _=>iR (λ_=>hk _ λh=>by cases h) λ_=>hk _ λh=>?_;have:=of_decide_eq_false h;omega
 ·refine iR (λ_=>iK ⟨rfl,T⟩) λh=>?_;have J:=hb h;simp only[iV] at J
  have U:∀ r n,(zo l.subs r n).length<=l.subs.length/\∀ x∈zo l.subs r n,Me x:=λr n=>by
   unfold zo;refine⟨by rw[List.length_take,List.length_drop];omega,λx hx=>T.2 x (List.mem_of_mem_drop (List.mem_of_mem_take hx))⟩
  have fin:∀ (i:Nat),i<=l.subs.length->Ok (λ(r:wu)=>r.types=l.types/\A7 r)
    (bnd (UO l.subs.length 0 (i:Int)) λx14 =>
     jW (0+(zo l.subs (0+x14.1) (x14.2-x14.1)).length) 16 (
     jW ((zo l.subs (0+x14.1) (x14.2-x14.1)).length+([sub]).length) 16 (
     bnd (UO l.subs.length (i:Int) ((l.subs.length:Nat):Int)) λx15 =>
     jW (((zo l.subs (0+x14.1) (x14.2-x14.1))++[sub]).length+(zo l.subs (0+x15.1) (x15.2-x15.1)).length) 16 (
     some { l with subs:=(((zo l.subs (0+x14.1) (x14.2-x14.1))++[sub])++(zo l.subs (0+x15.1) (x15.2-x15.1))) })))):=λi hi=>by
   refine UU rfl rfl (Nat.zero_le _) hi ?_;obtain⟨a1,a2⟩:=U (0+0) (i-0);refine jG aF aF (jG (by show (2*(_+1)+192)*16<=_;simp only;omega) (by show _+1<=_;simp only;omega) (UU rfl rfl hi (Nat.le_refl _) ?_));obtain⟨I,R⟩:=U (0+i) (l.subs.length-i);refine jG di di (iK ⟨rfl,?_,λx hx=>?_⟩)
   simp only[List.length_append,List.length_singleton];omega
   rcases List.mem_append.1 hx with hx|hx
   rcases List.mem_append.1 hx with hx|hx
   exact a2 x hx
   rw[List.mem_singleton.1 hx];exact hs
   exact R x hx
  refine lH 0 l.subs.length (λ_=>True) 0 rfl (Nat.zero_le _) ai trivial (λi k hi _ hk=>?_) λk _=>?_
  unfold Eu;refine jf (λ_=>True) (λk2 h2=>iJ (λ_=>oJ i rfl hi (oD hi (h2 _ trivial))) λ_=>h2 _ trivial) λb _=>iR (λ_=>hk trivial) λ_=>fin i ai
  unfold Eu;refine jf (λb=>b=false) (λk2 h2=>iJ (λh=>absurd h (by show ¬ (l.subs.length:Int)<(l.subs.length:Int);omega)) λ_=>h2 _ rfl) λb hb=>?_;subst hb;exact iR (λh=>by cases h) λ_=>fin _ (Nat.le_refl _)
theorem WH (a b:Int):Ok (λr=>-1000000<=r/\r<=1000000) (uw a b):=by
 unfold uw;exact iO (nV _) λ_ _=>iO (nV _) λ_ _=>iO (nV _) λ_ h=>iK h
theorem aiS (t:iM)(m:nN)(J count:Int)(ht:qX t)(I:qZ m):Ok qX (Ls t m J count):=by
 have g:∀ {n:Int},1<=n/\n<=63->0<=kz .or .i64 t.line.types n/\kz .or .i64 t.line.types n<=63:=λ{n} h=>by
  have:=alA (n:=6) (a:=t.line.types) (b:=n) (by have:=ht.types;omega) ai ai;omega
 have o2:∀ {n:Int},1<=n/\n<=131071->0<=kz .or .i64 t.keys n/\kz .or .i64 t.keys n<=131071:=λ{n} h=>by
  have:=alA (n:=17) (a:=t.keys) (b:=n) (by have:=ht.keys;omega) ai ai;omega
 have o3:∀ {n:Int},0<=kz .andNot .i64 t.keys n/\kz .andNot .i64 t.keys n<=131071:=λ{n}=>by
  have:=agw (n:=17) (a:=t.keys) (b:=n) (by have:=ht.keys;omega) ai;omega
 have same:∀ {T : iM},T.name=t.name->T.line=t.line->T.keys=t.keys->T.jO=t.jO->((-1000000<=T.power/\T.power<=1000000)/\-1000000<=T.jE/\T.jE<=1000000)->qX T:=λ{T} h1 h2 h3 h4 h5=>⟨⟨by rw[h1];exact ht.sz.1,by rw[h2];exact ht.sz.2.1,by rw[h4];exact ht.sz.2.2⟩,by rw[h2];exact ht.types,by rw[h3];exact ht.keys,h5⟩
 have U:=ht.pt;unfold Ls;refine iO (aiR m I) λy hy=>iR (λ_=>iK ht) λR=>?_;have hv:alC m:=hy (by cases y with|true=>rfl|false=>cases R)
 refine iJ (λ_=>iK (same rfl rfl rfl rfl U)) λ_=>iJ (λk2=>iK ⟨⟨ht.sz.1,ht.sz.2.1,ht.sz.2.2⟩,by have:=hv.types (.inl k2);show 0<=m.n/\m.n<=63;omega,ht.keys,U⟩) λ_=>iJ (λk3=>iK ⟨⟨ht.sz.1,ht.sz.2.1,ht.sz.2.2⟩,g (hv.types (.inr k3)),ht.keys,U⟩) λ_ =>
  iJ (λ_=>iK ⟨⟨ht.sz.1,⟨by simp,λx hx=>?_⟩,ht.sz.2.2⟩,ht.types,ht.keys,U⟩) λ_=>iJ (λ_=>iO (agx _ _ ht.sz.2.1 I.1) λl C=>iK ⟨⟨ht.sz.1,C.2,ht.sz.2.2⟩,by show 0<=l.types/\l.types<=63;rw[C.1];exact ht.types,ht.keys,U⟩) λ_ =>
  iJ (λ_=>iK (same rfl rfl rfl rfl U)) λ_=>iJ (λ_=>iK (same rfl rfl rfl rfl U)) λ_=>iJ (λk8=>iK ⟨⟨ht.sz.1,ht.sz.2.1,ht.sz.2.2⟩,ht.types,o2 (hv.keys (.inl k8)),U⟩) λ_=>iJ (λ_=>iK ⟨⟨ht.sz.1,ht.sz.2.1,ht.sz.2.2⟩,ht.types,o3,U⟩) λ_ =>
  iJ (λ_=>iK ⟨⟨ht.sz.1,ht.sz.2.1,⟨by simp,by simp⟩⟩,ht.types,by show (0:Int)<=0/\(0:Int)<=131071;omega,U⟩) λ_=>iJ (λ_=>iO (nV _) λ_ q1=>iO (nV _) λ_ q2=>iK (same rfl rfl rfl rfl ⟨q1,q2⟩)) λ_=>iJ (λk12=>iK (same rfl rfl rfl rfl (by have:=hv.pt k12;show (-1000000<=m.n/\m.n<=1000000)/\-1000000<=m.m/\m.m<=1000000;omega))) λ_ =>
  iJ (λ_=>iO (WH _ _) λ_ q1=>iO (WH _ _) λ_ q2=>iK (same rfl rfl rfl rfl ⟨q1,q2⟩)) λ_=>iJ (λ_=>iK (same rfl rfl rfl rfl ⟨U.2,U.1⟩)) λ_=>iK ht
 rw[List.mem_singleton.1 hx];exact I.1
theorem afF (l:List Int)(n:Int)(U:l.length<=2000000):QB l n=some (decide (n∈l)):=by
 have ix:Ok (λr=>(n ∉ l/\r=-1)\/(n∈l/\0<=r)) (Lp l n):=by
  unfold Lp;refine lH 0 l.length (λi=>n ∉ l.take i) 0 rfl (Nat.zero_le _) ai aI (λi k hi hI hk=>?_) λk hI=>?_
  unfold Gn;refine iJ (λ_=>jl i rfl hi (iJ (λe=>iK (.inr ⟨e ▸ List.getElem_mem hi,by omega⟩)) λe=>hk ?_)) λh=>absurd (show (i:Int)<(l.length:Int) by omega) h;rw[mr l i hi];simp only[List.mem_append,List.mem_singleton];exact λh=>h.elim hI λh=>e h.symm
  unfold Gn;rw[qf] at hI;exact iJ (λh=>absurd h aB) λ_=>iK (.inl ⟨hI,rfl⟩)
 unfold QB;refine ok_eq (iO ix ?_)
 rintro r (⟨h,rfl⟩|⟨h,h2⟩)
 exact iK bu
 exact iK (by simp[h,h2])
theorem aew (l:List Int)(n:Int)(R:l.length<=2000000):Fj l n=some (l.filter λx=>!decide (x=n)):=by
 unfold Fj;refine ok_eq (lK 0 l.length (λi t=>t=(l.take i).filter λx=>!decide (x=n)) 0 rfl (Nat.zero_le _) ai rfl (λi t k hi hI hk=>?_) λt k hI=>?_)
 have T:t.length<=l.length:=by rw[hI];exact Nat.le_trans (List.length_filter_le _ _) aT
 have hs:(l.take (i+1)).filter (λx=>!decide (x=n))=t++(if l[i]=n then [] else [l[i]]):=by
  rw[mr l i hi,List.filter_append,<- hI];congr 1
  by_cases h:l[i]=n<;>simp[h]
 unfold BU;refine iJ (λ_=>jf (λu=>u=(l.take (i+1)).filter λx=>!decide (x=n)) (λk5 U=>?_) λu hu=>hk u hu) λh=>absurd (show (i:Int)<(l.length:Int) by omega) h;refine jl i rfl hi (lI (λh=>jl i rfl hi (jG aV aX (U _ (by rw[hs,if_neg h])))) λh=>U _ (by rw[hs,if_pos h];simp))
 unfold BU;rw[qf] at hI;exact iJ (λh=>absurd h aB) λ_=>iK hI
theorem acZ (a b:List Int)(U:a.length<=2000000):Ok (λ_=>True) (Lu a b):=by
 unfold Lu;refine lI (λ_=>iK trivial) λh=>?_;simp only[iV] at h;refine lH 0 a.length (λ_=>True) 0 rfl (Nat.zero_le _) ai trivial (λi k hi _ hk=>?_) λk _=>?_
 unfold Jr;exact iJ (λ_=>jl i rfl hi (jl i rfl ai (lI (λ_=>iK trivial) λ_=>hk trivial))) λh=>absurd (show (i:Int)<(a.length:Int) by omega) h
 unfold Jr;exact iJ (λh=>absurd h bV) λ_=>iK trivial
structure WOK (s:iT)(L:List jJ)(w:jP):Prop where
 st:w.s=s
 l:w.l=L
 all:w.all.length=s.objects.length
 tr:∀ t∈w.all,qX t
 begun:w.begun.length=L.length
 sets:w.sets.length=L.length
 am9:∀ x∈w.sets,x.length<=2048
 blank:w.blank.length=s.objects.length
structure ana (s:iT)(L:List jJ):Prop where
 hs:kQ s
 ho:s.objects.length<=2048
 len:L.length<=1100000
 f:∀ f∈L,sH f
section
variable {s:iT}{L:List jJ}(H:ana s L){w:jP}(W:WOK s L w)
include H W
theorem Yn {α:Type}{Q:α->Prop}{n:Nat}(U:n<L.length){k:jJ->Option α}(hk:∀ f,f=L[n]->sH f->Ok Q (k f)):Ok Q (bnd (kJ w.l (n:Int)) k):=by
 rw[W.l];exact jl n rfl U (hk _ rfl (H.f _ (List.getElem_mem U)))
theorem Z9 (id:Int):Ok (λr=>-1<=r/\r<(s.objects.length:Int)) (DR w.s id):=by
 rw[W.st];exact Y5 s id H.hs
theorem aex {n:Nat}(U:n<L.length):Ok (λ_=>True) (Gm w n):=by
 unfold Gm;refine Yn H W U λf _ _=>iO (Z9 H W _) λy hy=>jf (λb=>b=false->0<=y) (λk hk=>?_) λb hb=>?_
 exact Yn H W U λf2 _ _=>iR (λ_=>hk _ λh=>by cases h) λ_=>hk _ λh=>by have:=of_decide_eq_false h;omega
 refine iR (λ_=>Yn H W U λ_ _ _=>iK trivial) λh=>?_;exact mM (hb h) (by rw[W.all];exact hy.2) λ_ _=>iK trivial
theorem QF {n:Nat}(U:n<L.length):Ok (λ_=>True) (yg w n):=by
 unfold yg;refine jf (λ_=>True) (λk hk=>?_) λb _=>?_
 exact Yn H W U λf _ _=>iR (λ_=>hk _ trivial) λ_=>jl n rfl (by rw[W.begun];exact U) (hk _ trivial)
 refine iR (λ_=>iK trivial) λ_=>Yn H W U λf _ _=>iO (Z9 H W _) λy hy=>iJ (λ_=>iK trivial) λh=>?_;exact mM ai (by rw[W.blank];exact hy.2) λ_ _=>iK trivial
theorem RH {n:Nat}(T:n<L.length):Ok (λr=>r.length<=2048) (yj w n):=by
 have ho:=H.ho;unfold yj;refine jl n rfl (by rw[W.begun];exact T) (iR (λ_=>?_) λ_=>?_)
 have I:n<w.sets.length:=by rw[W.sets];exact T
 exact jl n rfl I (iK (W.am9 _ (List.getElem_mem I)))
 refine iO (QF H W T) λ_ _=>iR (λ_=>iK (Nat.zero_le _)) λ_=>Yn H W T λf O g=>?_;have R:=g.1;refine lK 0 s.objects.length (λn t=>t.length<=n) 0 rfl (Nat.zero_le _) ai (Nat.zero_le _) (λi t k hi hI hk=>?_) λt k hI=>?_
 have C:i<w.all.length:=by rw[W.all];exact hi
 have hx:=W.tr _ (List.getElem_mem C);unfold BL;rw[W.st];refine iJ (λ_=>jf (λu=>u.length<=i+1) (λk9 J=>?_) λu hu=>hk u hu) λh=>absurd (show (i:Int)<(s.objects.length:Int) by omega) h;refine jl i rfl hi (lI (λ_=>J _ gI) λ_=>jf (λ_=>True) (λk13 U=>?_) λb _=>?_)
 have obj:Ok _ (bnd (kJ w.all (i:Int)) λx19=>bnd (Gm w n) λy20=>bnd (yh s.objects[i] x19 y20 f.source f.filter) λy21=>k13 y21) :=
  jl i rfl C (iO (aex H W T) λ_ _=>iO (PT _ _ _ _ _ hx.sz g.2.1) λ_ _=>U _ trivial)
 refine iR (λ_=>iU (afF _ _ (by have:=R.1;omega)) (iR (λ_=>U _ trivial) λ_=>iR (λ_=>obj) λ_=>U _ trivial)) λ_=>iR (λ_=>obj) λ_=>U _ trivial
 exact iR (λ_=>jG aV aX (J _ aT)) λ_=>J _ gI
 unfold BL;rw[W.st];exact iJ (λh=>absurd h az) λ_=>iK (by show t.length<=2048;omega)
theorem akW (T source:Int)(f:lX)(O:oC f):Ok (λ_=>True) (PK w.s w.all T source f):=by
 have ho:=H.ho;rw[W.st];unfold PK;refine lK 0 s.objects.length (λn t=>t.length<=n) 0 rfl (Nat.zero_le _) ai (Nat.zero_le _) (λi t k hi hI hk=>?_) λt k hI=>?_
 have R:i<w.all.length:=by rw[W.all];exact hi
 have hx:=W.tr _ (List.getElem_mem R);unfold Jq;refine iJ (λ_=>jf (λu=>u.length<=i+1) (λk5 J=>?_) λu hu=>hk u hu) λh=>absurd (show (i:Int)<(s.objects.length:Int) by omega) h
 have U:Yd w.all (i:Int)=some w.all[i]:=by
  unfold Yd;refine ok_eq (iJ (λh=>by omega) λ_=>iJ (λh=>by simp only[iV] at h;omega) λ_=>jl i rfl R (iK rfl))
 refine jl i rfl hi (iU U (iO (PT _ _ _ _ _ hx.sz O) λ_ _=>iR (λ_=>jl i rfl hi (jG aV aX (J _ aT))) λ_=>J _ gI))
 unfold Jq;exact iJ (λh=>absurd h az) λ_=>iK trivial
noncomputable def cnt (st:Int)(l:List nN):Nat:=(l.filter λm=>decide (stg m.kind=st)).length
omit H W in
theorem PU (st:Int)(l:List nN)(i:Nat)(hi:i<l.length):cnt st (l.take (i+1))=cnt st (l.take i)+(if stg l[i].kind=st then 1 else 0):=by
 unfold cnt;rw[mr l i hi,List.filter_append,List.length_append]
 congr 1
 by_cases h:stg l[i].kind=st<;>simp[h]
omit H W in
theorem cnt_le (st:Int)(l:List nN)(i:Nat):cnt st (l.take i)<=cnt st l:=by
 unfold cnt
 conv=>rhs;rw[<- List.take_append_drop i l]
 rw[List.filter_append,List.length_append];omega
theorem RI {n:Nat}(T:n<L.length)(stage:Int):Ok (λr=>r.length=cnt stage (L[n]).mP) (yt w n stage):=by
 unfold yt;refine Yn H W T λf O g=>?_;subst O;have R:=g.2.2;have hml:=R.1;generalize hM:(L[n]).mP=ms at *;refine lK 0 ms.length (λi t=>t.length=cnt stage (ms.take i)) 0 rfl (Nat.zero_le _) ai rfl (λi t k hi hI hk=>?_) λt k hI=>?_
 have I:t.length<=i:=by rw[hI];exact Nat.le_trans (List.length_filter_le _ _) aT
 have hsz:=R.2 _ (List.getElem_mem hi);unfold BM;rw[hM];refine iJ (λ_=>jf (λu=>u.length=cnt stage (ms.take (i+1))) (λk6 J=>?_) λu hu=>hk u hu) λh=>absurd (show (i:Int)<(ms.length:Int) by omega) h;refine jl i rfl hi (iU (aiQ _) (lI (λh=>J _ ?_) λh=>jf (λ_=>True) (λC U=>?_) λx _=>?_))
 rw[PU stage ms i hi,if_neg h];exact hI
 refine jl i rfl hi (iJ (λ_=>iO (aex H W T) λ_ _=>jl i rfl hi (iO (akW H W _ _ _ hsz.2) λ_ _=>U _ trivial)) λ_=>U _ trivial)
 refine jG aV aX (J _ ?_);rw[PU stage ms i hi,if_pos h,List.length_append,hI];rfl
 unfold BM;rw[hM];rw[qf] at hI;exact iJ (λh=>absurd h (by show ¬ (ms.length:Int)<(ms.length:Int);omega)) λ_=>iK hI
omit H W in
theorem ac0 (t:iM)(f:jJ)(O:sH f)(stage l9:Int)(nums:List Int)(ht:qX t)(C:nums.length=cnt stage f.mP):Ok qX (BN t f stage l9 nums):=by
 have hml:=O.2.2.1;unfold BN;refine kW (λx=>∃ i:Nat,x.2.2=(i:Int)/\i<=f.mP.length/\x.2.1=(cnt stage (f.mP.take i):Int)/\qX x.1) (λx=>f.mP.length-x.2.2.toNat) ⟨0,rfl,Nat.zero_le _,rfl,ht⟩ (by show f.mP.length-_<18446744073709551616;omega) ?_
 rintro⟨u,c,ix⟩ k ⟨i,e,hi,J,hu⟩ hk
 simp only at e J hu;subst e J;have I:cnt stage (f.mP.take i)<=1048576:=Nat.le_trans (cnt_le _ _ _) (Nat.le_trans (List.length_filter_le _ _) hml);unfold FQ;refine iJ (λh=>?_) λ_=>iK hu;have U : i<f.mP.length:=by simp only[iV] at h;omega
 have hsz:=O.2.2.2 _ (List.getElem_mem U);refine jf (λx=>x.2=(cnt stage (f.mP.take (i+1)):Int)/\qX x.1) (λk5 R=>?_) λx hx=>?_
 refine jl i rfl U (iU (aiQ _) (iJ (λhs=>?_) λhs=>R _ ⟨?_,hu⟩))
 have T:cnt stage (f.mP.take i)<nums.length:=by
  have h1:=cnt_le stage f.mP (i+1);rw[PU stage f.mP i U,if_pos hs] at h1;omega
 refine jl i rfl U (jl _ rfl T (iO (aiS _ _ _ _ hu hsz) λy hy=>R _ ⟨?_,hy⟩));rw[PU stage f.mP i U,if_pos hs];exact lC ai
 rw[PU stage f.mP i U,if_neg hs];rfl
 refine hk _ ⟨i+1,lC ai,U,hx.1,hx.2⟩ ?_;show f.mP.length-(jq (i:Int) 1).toNat<f.mP.length-((i:Int)).toNat;rw[lC ai];simp only[Int.toNat_natCast];omega
theorem Yo {n:Nat}(J:n<L.length)(stage:Int):Ok (WOK s L) (Au w n stage):=by
 have ho:=H.ho;have hL:=H.len;have wa:=W.all;have wb:=W.begun;have R:=W.sets;have wbl:=W.blank;unfold Au;refine iO (QF H W J) λ_ _=>iR (λ_=>iK W) λ_=>iO (RH H W J) λy2 h2=>iO (RI H W J stage) λy3 h3=>iO (aex H W J) λy4 _=>?_;refine jG ai ai (jG ai ai (jG ai ai (jG ai ai ?_)));refine oJ n rfl ai (uf (oD ai (oJ n rfl ai (oD ai ?_))));refine lK 0 s.objects.length (λi t=>t.1.length=s.objects.length/\(∀ x∈t.1,qX x)/\t.2.length=s.objects.length) 0 rfl (Nat.zero_le _) ai ⟨wa,W.tr,wbl⟩ (λi t k hi hI hk=>?_) λt k hI=>?_
 obtain⟨t1,t2⟩:=t;obtain⟨I,i2,i3⟩:=hI;simp only at I i2 i3;have ia:i<w.all.length:=by omega
 unfold BO;rw[W.st];refine iJ (λ_=>jf (λu=>u.1.length=s.objects.length/\(∀ x∈u.1,qX x)/\u.2.length=s.objects.length) (λk14 T=>?_) λu hu=>hk u hu) λh=>absurd (show (i:Int)<(s.objects.length:Int) by omega) h;refine jl i rfl hi (iU (afF _ _ ai) (iR (λ_=>T _ ⟨I,i2,i3⟩) λ_=>jl i rfl ia (Yn H W J λf O C=>?_)));subst O;refine iO (ac0 _ _ C stage y4 y3 (W.tr _ (List.getElem_mem ia)) h3) λy20 g=>oJ i rfl (by show i<t1.length;omega) (oD (by show i<t1.length;omega) (Yn H W J λf O C=>iO (Y6 _ _ C) λ_ _=>?_))
 have U:(t1.set i y20).length=s.objects.length/\∀ x∈t1.set i y20,qX x:=⟨by simp[I],λx hx=>by
  rcases List.mem_or_eq_of_mem_set hx with hx|hx
  exact i2 x hx
  rw[hx];exact g⟩
 exact iR (λ_=>oJ i rfl (by show i<t2.length;omega) (uf (oD (by show i<t2.length;omega) (T _ ⟨U.1,U.2,by simp[i3]⟩)))) λ_=>T _ ⟨U.1,U.2,i3⟩
 obtain⟨t1,t2⟩:=t;obtain⟨I,i2,i3⟩:=hI;unfold BO;rw[W.st];refine iJ (λh=>absurd h az) λ_=>iK ⟨rfl,W.l,I,i2,by simp[wb],by simp[R],λx hx=>?_,i3⟩;rcases List.mem_or_eq_of_mem_set hx with hx|hx
 exact W.am9 x hx
 rw[hx];exact h2
theorem aiT {i j:Nat}(hi:i<L.length)(hj:j<L.length)(stage:Int):Ok (λ_=>True) (LC w i j stage):=by
 unfold LC;refine iJ (λ_=>iK trivial) λ_=>iO (Yo H W hj stage) λv V=>iO (QF H W hi) λ_ _=>iO (QF H V hi) λ_ _=>iR (λ_=>iK trivial) λ_=>iO (RH H W hi) λy4 C=>iO (RH H V hi) λR _=>iO (acZ y4 R ai) λ_ _=>iR (λ_=>iK trivial) λ_=>iO (RI H W hi stage) λU g=>iO (RI H V hi stage) λJ _=>iO (acZ U J ?_) λ_ _=>iK trivial;have T:=H.f _ (List.getElem_mem hi);have:=T.2.2.1;have I:cnt stage (L[i]).mP<=(L[i]).mP.length:=List.length_filter_le _ _;omega
theorem akX {left:List Int}(hne:left≠[])(R:left.Nodup)(hr:∀ x∈left,0<=x/\x<(L.length:Int))(hlen:left.length<=L.length)(stage:Int):Ok (λr=>r∈left) (PL w left stage):=by
 have hL:=H.len;unfold PL;refine lK 0 L.length (λi t=>t.1.length=i/\t.2.length=i/\∀ r∈t.2,r.length=L.length) 0 rfl (Nat.zero_le _) ai ⟨rfl,rfl,by simp⟩ (λi t k hi hI hk=>?_) λt k hI=>?_
 obtain⟨t1,t2⟩:=t;obtain⟨I,i2,i3⟩:=hI;simp only at I i2 i3;unfold Jv;refine iJ (λ_=>Yn H W hi λf _ _=>jG (by show (2*(t1.length+1)+192)*8<=_;omega) gz (UT (n:=L.length) (by rw[W.l];rfl) (by rw[W.l];rfl) ai ai (uf (jG (by show (2*(t2.length+1)+192)*24<=_;omega) gB (hk _ ⟨by simp[I],by simp[i2],λr hr=>?_⟩))))) λh=>absurd (show (i:Int)<iV w.l by rw[W.l];simp only[iV];omega) h;rcases List.mem_append.1 hr with hr|hr
 exact i3 r hr
 rw[List.mem_singleton.1 hr];simp
 obtain⟨stamps,rel⟩:=t;obtain⟨I,i2,i3⟩:=hI;simp only at I i2 i3;unfold Jv;refine iJ (λh=>absurd h (by rw[W.l];show ¬ (L.length:Int)<(L.length:Int);omega)) λ_=>?_
 have fin:∀ rel,Ok (λr=>r∈left) (bnd (LG left stamps rel) λy24=>some y24):=λrel=>by
  refine iU (aiL left stamps rel ai) (iK ?_);have hel:elF left=left:=akU left R λx hx=>(hr x hx).1;rw[hel];exact Vf _ _ _ (Z5 stamps _ (λx hx=>(hr x (Vf _ _ _ hx)).1) (aiM left rel R hne)).1
 refine lK 0 left.length (λ_ t=>t.length=L.length/\∀ r∈t,r.length=L.length) 0 rfl (Nat.zero_le _) ai ⟨i2,i3⟩ (λa t k ha hI hk=>?_) λt k _=>?_
 unfold Ju;refine iJ (λ_=>?_) λh=>absurd (show (a:Int)<(left.length:Int) by omega) h;refine lK 0 left.length (λ_ t=>t.length=L.length/\∀ r∈t,r.length=L.length) 0 rfl (Nat.zero_le _) ai hI (λb u k2 hb T g=>?_) λu k2 T=>?_
 obtain⟨u1,u2⟩:=T;have ga:=hr _ (List.getElem_mem ha);have gb:=hr _ (List.getElem_mem hb);obtain⟨x,hx⟩:=Int.eq_ofNat_of_zero_le ga.1;obtain⟨y,hy⟩:=Int.eq_ofNat_of_zero_le gb.1;have C:x<L.length:=by omega
 have hyl:y<L.length:=by omega
 have U:x<u.length:=by omega
 have J:(u[x]).length=L.length:=u2 _ (List.getElem_mem U);unfold Jt;refine iJ (λ_=>jl a rfl ha ?_) λh=>absurd (show (b:Int)<(left.length:Int) by omega) h;rw[hx];refine oJ x rfl U (oD U (jl b rfl hb (jl a rfl ha (jl b rfl hb ?_))));rw[hx,hy];refine iO (aiT H W C hyl stage) λv _=>oJ y rfl (by show y<(u[x]).length;omega) (oD U (oD (by show y<(u[x]).length;omega) (g _ ⟨by simp[u1],λr hr=>?_⟩)));rcases List.mem_or_eq_of_mem_set hr with hr|hr
 exact u2 r hr
 rw[hr];simp[J]
 unfold Jt;exact iJ (λh=>absurd h (by show ¬ (left.length:Int)<(left.length:Int);omega)) λ_=>hk _ T
 unfold Ju;exact iJ (λh=>absurd h (by show ¬ (left.length:Int)<(left.length:Int);omega)) λ_=>fin _
theorem aey:Ok (WOK s L) (Ff w):=by
 have ho:=H.ho;unfold Ff;refine lK 0 s.objects.length (λi t=>t.length=i/\∀ x∈t,qX x) 0 rfl (Nat.zero_le _) ai ⟨rfl,by simp⟩ (λi t k hi hI hk=>?_) λt k hI=>?_
 have J:i<w.all.length:=by rw[W.all];exact hi
 have hx:=W.tr _ (List.getElem_mem J);unfold BK;refine iJ (λ_=>jf (λu=>u.length=i+1/\∀ x∈u,qX x) (λk5 C=>?_) λu hu=>hk u hu) λh=>absurd (show (i:Int)<iV w.all by simp only[iV];omega) h;refine jl i rfl J (jl i rfl (by rw[W.st];exact hi) (jf (λp=>(-1000000<=p.1/\p.1<=1000000)/\-1000000<=p.2/\p.2<=1000000) (λg R=>?_) λp I=>?_))
 refine jf (λ_=>True) (λk13 T=>?_) λb _=>?_
 exact iJ (λ_=>wZ aQ λ_ _=>vU aQ λ_ _=>T _ trivial) λ_=>T _ trivial
 exact iR (λ_=>iO (YZ _) λ_ _=>iO (WH _ _) λ_ q1=>iO (WH _ _) λ_ q2=>R _ ⟨q1,q2⟩) λ_=>R _ hx.pt
 refine jG fE eQ (C _ ⟨by simp[hI.1],λx U=>?_⟩);rcases List.mem_append.1 U with U|U
 exact hI.2 x U
 rw[List.mem_singleton.1 U];exact⟨hx.sz,hx.types,hx.keys,I⟩
 unfold BK;refine iJ (λh=>absurd h (by show ¬ (s.objects.length:Int)<iV w.all;simp only[iV];rw[W.all];omega)) λ_=>iK ⟨W.st,W.l,hI.1,hI.2,W.begun,W.sets,W.am9,W.blank⟩
theorem AB (stage:Int):Ok (λr=>WOK s L r.1) (rJ w stage):=by
 have hL:=H.len;unfold rJ;refine jf (WOK s L) (λk hk=>iJ (λ_=>iO (aey H W) λv V=>hk v V) λ_=>hk _ W) λv V=>?_;refine lK 0 L.length (λi t=>t.Nodup/\(∀ x∈t,0<=x/\x<(i:Int))/\t.length<=i) 0 rfl (Nat.zero_le _) ai ⟨by simp,by simp,by simp⟩ (λi t k hi hI hk=>?_) λleft k hI=>?_
 obtain⟨T,i2,i3⟩:=hI;unfold Ew;refine iJ (λ_=>jf (λu=>u.Nodup/\(∀ x∈u,0<=x/\x<((i+1:Nat):Int))/\u.length<=i+1) (λk9 g=>?_) λu hu=>hk u hu) λh=>absurd (show (i:Int)<iV v.l by rw[V.l];simp only[iV];omega) h;refine Yn H V hi λf _ C=>iO (Wj _ _ C) λ_ _=>iR (λ_=>jG aV aX (g _ ⟨?_,λx hx=>?_,by simp;omega⟩)) λ_=>g _ ⟨T,λx hx=>by have:=i2 x hx;omega,by show t.length<=i+1;omega⟩
 rw[List.nodup_append];refine⟨T,by simp,λx hx y hy e=>?_⟩;rw[List.mem_singleton.1 hy] at e;have:=i2 x hx;have e:x=(i:Int):=e;omega
 rcases List.mem_append.1 hx with hx|hx
 have:=i2 x hx;omega
 have e:x=(i:Int):=List.mem_singleton.1 hx;omega
 obtain⟨T,i2,i3⟩:=hI;unfold Ew;refine iJ (λh=>absurd h (by show ¬ (L.length:Int)<iV v.l;simp only[iV];rw[V.l];omega)) λ_=>?_
 refine kW (λx=>∃ i:Nat,x.2.2.1=(i:Int)/\i<=left.length/\WOK s L x.1/\x.2.1.Nodup/\(∀ y∈x.2.1,0<=y/\y<(L.length:Int))/\x.2.1.length=left.length-i/\x.2.2.2.length=i) (λx=>left.length-x.2.2.1.toNat)
  ⟨0,rfl,Nat.zero_le _,V,T,i2,rfl,rfl⟩ (by show left.length-_<18446744073709551616;omega) ?_
 rintro⟨u,l2,ix,ord⟩ k2 ⟨i,e,hi,U,n1,R,n3,n4⟩ hk2
 simp only at e U n1 R n3 n4;subst e;unfold JV;refine iJ (λh=>?_) λ_=>iK U;have I : i<left.length:=by simp only[iV] at h;omega
 have J:l2≠[]:=λe=>by subst e;simp at n3;omega
 refine iO (akX H U J n1 R ai stage) λy hy=>?_;have gy:=R y hy;obtain⟨m,rfl⟩:=Int.eq_ofNat_of_zero_le gy.1;refine jG (by show (2*(ord.length+1)+192)*8<=_;omega) (by show ord.length+1<=_;omega) (iO (Yo H U ai stage) λu2 U2=>iU (aew l2 _ ai) ?_);have O:=QU l2 _ n1 hy;refine hk2 _ ⟨i+1,lC ai,I,U2,List.Pairwise.filter _ n1,λz C=>R z (List.mem_filter.1 C).1,by show (l2.filter _).length=_;omega,by simp[n4]⟩ ?_;show left.length-(jq (i:Int) 1).toNat<left.length-((i:Int)).toNat;rw[lC ai];simp only[Int.toNat_natCast];omega
end
theorem agy (cards:List jI)(s:iT)(hc:rO mY cards)(hs:kQ s)(hv:∀ c∈cards,J7 c)(ho:s.objects.length<=2048):Ok (ana s) (Ip cards s):=by
 have J:=hs.2.2.2.2.2.2.1;have hcl1:=J.1;unfold Ip;refine lK 0 s.objects.length (λi t=>t.length<=8*i/\∀ f∈t,sH f) 0 rfl (Nat.zero_le _) ai ⟨by simp,by simp⟩ (λi t k hi hI hk=>?_) λt k hI=>?_
 unfold Et;refine iJ (λ_=>jf (λu=>u.length<=8*(i+1)/\∀ f∈u,sH f) (λk5 h5=>?_) λu hu=>hk u hu) λh=>absurd (show (i:Int)<(s.objects.length:Int) by omega) h;refine jl i rfl hi (lI (λ_=>h5 _ ⟨by have:=hI.1;show t.length<=_;omega,hI.2⟩) λ_=>iO (alB cards _ hc hv) λtr R=>?_);have hal:=R.2;refine lK 0 tr.jO.length (λj u=>u.length<=8*i+j/\∀ f∈u,sH f) 0 rfl (Nat.zero_le _) ai hI (λj u g hj U I=>?_) λu g U=>?_
 have C:=R.1.sz.2.2.2 _ (List.getElem_mem hj);unfold Ep;refine iJ (λ_=>jf (λu=>u.length<=8*i+(j+1)/\∀ f∈u,sH f) (λk13 T=>?_) λu hu=>I u hu) λh=>absurd (show (j:Int)<(tr.jO.length:Int) by omega) h;refine jl j rfl hj (iJ (λ_=>uf (jG (by show (2*(u.length+1)+192)*224<=_;have:=U.1;omega) (by show u.length+1<=_;have:=U.1;omega) (T _ ⟨by have:=U.1;simp only[List.length_append,List.length_singleton];omega,λf O=>?_⟩))) λ_=>T _ ⟨by have:=U.1;show u.length<=_;omega,U.2⟩);rcases List.mem_append.1 O with O|O
 exact U.2 f O
 rw[List.mem_singleton.1 O];exact⟨⟨by simp,λ_ _=>trivial⟩,C.1,C.2.1⟩
 unfold Ep;refine iJ (λh=>absurd h (by show ¬ (tr.jO.length:Int)<(tr.jO.length:Int);omega)) λ_=>h5 _ ⟨by have:=U.1;show u.length<=_;omega,U.2⟩
 unfold Et;refine iJ (λh=>absurd h az) λ_=>?_;refine lK 0 s.oq.length (λi t=>t.length<=16384+i/\∀ f∈t,sH f) 0 rfl (Nat.zero_le _) ai ⟨by have:=hI.1;show t.length<=_;omega,hI.2⟩ (λi t k hi hI hk=>?_) λt k hI=>?_
 have C:=J.2 _ (List.getElem_mem hi);unfold Es;refine iJ (λ_=>jl i rfl hi (uf (jG (by show (2*(t.length+1)+192)*224<=_;have:=hI.1;omega) eQ (hk _ ⟨by have:=hI.1;simp only[List.length_append,List.length_singleton];omega,λf O=>?_⟩)))) λh=>absurd (show (i:Int)<(s.oq.length:Int) by omega) h;rcases List.mem_append.1 O with O|O
 exact hI.2 f O
 rw[List.mem_singleton.1 O];refine⟨C.1,?_,C.2⟩;simp[oC,Me,qL,oZ]
 unfold Es;exact iJ (λh=>absurd h eY) λ_=>iK ⟨hs,ho,by have:=hI.1;show t.length<=_;omega,hI.2⟩
theorem aiU (cards:List jI)(s:iT)(T:rO mY cards)(hs:kQ s)(hv:∀ c∈cards,J7 c)(ho:s.objects.length<=2048):Ok (λw=>∃ L,ana s L/\WOK s L w) (Ll cards s):=by
 unfold Ll;refine iO (agy cards s T hs hv ho) λL H=>?_;have R:=H.len;refine lK 0 s.objects.length (λi t=>t.length=i/\∀ x∈t,qX x) 0 rfl (Nat.zero_le _) ai ⟨rfl,by simp⟩ (λi t k hi hI hk=>?_) λt k hI=>?_
 unfold Gl;refine iJ (λ_=>jl i rfl hi (iO (alB cards _ T hv) λtr U=>jG fE eQ (hk _ ⟨by simp[hI.1],λx hx=>?_⟩))) λh=>absurd (show (i:Int)<(s.objects.length:Int) by omega) h;rcases List.mem_append.1 hx with hx|hx
 exact hI.2 x hx
 rw[List.mem_singleton.1 hx];exact U.1
 unfold Gl;refine iJ (λh=>absurd h az) λ_=>?_;refine UT (n:=L.length) rfl rfl ai ai (uf (UT (n:=L.length) rfl rfl ai ai (uf (UT (n:=s.objects.length) rfl rfl ai ai (uf (iK ⟨L,H,rfl,rfl,hI.1,hI.2,by simp,by simp,λx hx=>?_,by simp⟩))))));rw[(List.mem_replicate.1 hx).2];simp
theorem PW (cards:List jI)(s:iT)(T:rO mY cards)(hs:kQ s)(hv:∀ c∈cards,J7 c)(ho:s.objects.length<=2048):Ok (λr=>r.length=s.objects.length/\∀ t∈r,qX t) (zM cards s):=by
 unfold zM;refine iO (aiU cards s T hs hv ho) λw U=>?_;obtain⟨L,H,W⟩:=U;exact iO (AB H W _) λ_ W=>iO (AB H W _) λ_ W=>iO (AB H W _) λ_ W=>iO (AB H W _) λ_ W=>iO (AB H W _) λ_ W=>iO (AB H W _) λ_ W=>iO (AB H W _) λ_ W=>iO (AB H W _) λ_ W=>iK ⟨W.all,W.tr⟩
def hasB (m:Int)(j:Nat):Bool:=decide (m.toNat / 2 ^ j % 2=1)
def WQ (b:iW)(tb:iM)(ta:iM):Bool :=
 bif !hasB tb.line.types 0 || b.nC || hasB tb.keys 15 || hasB ta.keys 13 then false else !hasB ta.keys 0 || hasB tb.keys 0 || hasB tb.keys 1
structure aez (cards:List jI)(s:iT):Prop where
 c:∀ c∈cards,J7 c
 o:s.objects.length<=2048
def Asc (l:List iW):Prop:=∀ (i:Nat) (a b:iW),l[i]?=some a->l[i+1]?=some b->a.id<b.id
theorem Asc.lt {l:List iW}(h:Asc l):∀ (d i:Nat) (a b:iW),l[i]?=some a->l[i+1+d]?=some b->a.id<b.id
 | 0,i,a,b,ha,hb=>h i a b ha hb
 | d+1,i,a,b,ha,hb=>by
  have U:i+1<l.length:=by
   have:=(List.getElem?_eq_some_iff.1 hb).1;omega
  have h1:=h i a _ ha (List.getElem?_eq_getElem U);have h2:=Asc.lt h d (i+1) _ b (List.getElem?_eq_getElem U) (by rw[show i+1+1+d=i+1+(d+1) by omega];exact hb);omega
theorem Asc.inj {l:List iW}(h:Asc l){i j:Nat}{a b:iW}(U:l[i]?=some a)(hb:l[j]?=some b)(e:a.id=b.id):i=j:=by
 rcases Nat.lt_trichotomy i j with hij|hij|hij
 have:=h.lt (j-i-1) i a b U (by rw[show i+1+(j-i-1)=j by omega];exact hb);omega
 exact hij
 have:=h.lt (i-j-1) j b a hb (by rw[show j+1+(i-j-1)=i by omega];exact U);omega
noncomputable instance:DecidableEq iL:=λa b=>Classical.propDecidable _
theorem uV {α:Type}(l:List α)(n:Nat)(h:n<l.length):l.take (n+1)=l.take n++[l[n]]:=by
 rw[List.take_succ,List.getElem?_eq_getElem h];rfl
theorem takeA {α:Type}(l:List α):l.take l.length=l:=List.take_of_length_le (Nat.le_refl _)
structure anb (s:iT):Prop where
 act:0<=s.nD/\s.nD<(s.ji.length:Int)
 ext:∀ x∈s.extra,0<=x/\x<(s.ji.length:Int)
 step:0<=s.step/\s.step<=10
 turn:0<=s.turn/\s.turn<=500
 over:0<=s.over/\s.over<=2
structure aiV (cards:List jI)(s:iT):Prop where
 c:∀ c∈cards,J7 c
 o:s.objects.length<=60
 p:s.ji.length<=4
 act:0<=s.nD/\s.nD<(s.ji.length:Int)
 asc:Asc s.objects
def VS (x:vS):Prop:=rO mY x.cards/\kQ x.s
def D6 (src obj pl n:Int):iZ:=iZ.mk 1 src obj pl n 0 0 0 0 0 true false UR
def yA (t:iM)(first:Bool):Bool:=decide (0<t.power)&&(bif first then hasB t.keys 5 || hasB t.keys 6 else hasB t.keys 6 || !hasB t.keys 5)
structure KOK (k:jy):Prop where
 len:k.answers.length<=20
 each:∀ a∈k.answers,a.length<=50
 used:0<=k.used/\k.used<=(k.answers.length:Int)
def I5 (l:List Int):Int:=l.foldl (·+·) 0
def Yp (src:Int)(l:List iZ):Prop:=∀ e∈l,e.kind=1/\e.source=src/\e.Ib=true/\0<=e.amount
def Yq (l:List iZ):Int:=I5 (l.map λe=>e.amount)
theorem foldl_add (l:List Int):∀ a:Int,l.foldl (·+·) a=a+l.foldl (·+·) 0:=by
 induction l with
 | nil=>intro a;simp
 | cons x l U=>intro a;simp only[List.foldl_cons];rw[U (a+x),U (0+x)];omega
theorem ac1 (a b:List Int):I5 (a++b)=I5 a+I5 b:=by
 unfold I5;rw[List.foldl_append,foldl_add]
theorem aiW (a b:List iZ):Yq (a++b)=Yq a+Yq b:=by
 unfold Yq;rw[List.map_append,ac1]
structure aoS (f:iP)(r:List iZ×Bool×jy):Prop where
 k:KOK r.2.2
 len:r.1.length<=41
 evs:Yp f.o.id r.1
 sum:r.1=[]\/Yq r.1=f.t.power
def FC (e:iZ):Bool:=!decide (e.amount=0)
def wQ (id:Int)(l:List iZ):Int:=Yq (l.filter λe=>decide (e.source=id))
theorem LQ (id:Int)(a b:List iZ):wQ id (a++b)=wQ id a+wQ id b:=by
 unfold wQ;rw[List.filter_append,aiW]
theorem agz {id:Int}{l:List iZ}(h:Yp id l):wQ id l=Yq l:=by
 unfold wQ;rw[List.filter_eq_self.2 λe he=>decide_eq_true (h e he).2.1]
theorem Yr {src id:Int}{l:List iZ}(h:Yp src l)(U:src≠id):wQ id l=0:=by
 unfold wQ;rw[List.filter_eq_nil_iff.2 λe he=>by rw[(h e he).2.1];simpa using U];rfl
structure Part (A:iP->Prop)(f:iP)(l:List iZ):Prop where
 evs:Yp f.o.id l
 len:l.length<=41
 sum:l=[]\/(Yq l=f.t.power/\A f)
inductive Parts (A:iP->Prop):List iP->List iZ->Prop where
 | nil:Parts A [] []
 | snoc {L:List iP} {out:List iZ} {f:iP} {l:List iZ} (h:Parts A L out) (p:Part A f l):Parts A (L++[f]) (out++l)
theorem Part.none (A:iP->Prop)(f:iP):Part A f []:=⟨λe he=>(by cases he),Nat.zero_le _,.inl rfl⟩
theorem Part.one {A:iP->Prop}{f:iP}(obj pl:Int)(U:0<=f.t.power)(h:A f):Part A f [D6 f.o.id obj pl f.t.power] :=
 ⟨λe he=>by rw[List.mem_singleton.1 he];exact⟨rfl,rfl,rfl,U⟩,by simp,.inr ⟨by simp[Yq,I5,D6],h⟩⟩
theorem Parts.skip {A:iP->Prop}{L:List iP}{out:List iZ}(f:iP)(h:Parts A L out):Parts A (L++[f]) out:=by
 have:=Parts.snoc h (Part.none A f);rw[List.append_nil] at this;exact this
theorem Parts.len {A:iP->Prop}{L:List iP}{out:List iZ}(h:Parts A L out):out.length<=41*L.length:=by
 induction h with
 | nil=>exact Nat.le_refl _
 | snoc h p U=>have:=p.len;simp only[List.length_append,List.length_singleton];omega
theorem Parts.all {A:iP->Prop}{L:List iP}{out:List iZ}(h:Parts A L out):∀ e∈out,e.kind=1/\e.Ib=true/\0<=e.amount/\∃ f∈L,e.source=f.o.id:=by
 induction h with
 | nil=>intro e he;cases he
 | @snoc L out f l h p ih =>
  intro e he;rcases List.mem_append.1 he with he|he
  obtain⟨h1,h2,T,g,R,U⟩:=ih e he;exact⟨h1,h2,T,g,List.mem_append_left _ R,U⟩
  obtain⟨h1,h2,T,U⟩:=p.evs e he;exact⟨h1,T,U,f,by simp,h2⟩
theorem Parts.zero {A:iP->Prop}{L:List iP}{out:List iZ}(h:Parts A L out)(id:Int):(∀ f∈L,f.o.id≠id)->wQ id out=0:=by
 induction h with
 | nil=>intro _;rfl
 | @snoc L out f l h p ih =>
  intro U;rw[LQ,ih λg T=>U g (List.mem_append_left _ T),Yr p.evs (U f aI)];rfl
theorem Parts.one {A:iP->Prop}{L:List iP}{out:List iZ}(h:Parts A L out):List.Pairwise (λa b:iP=>a.o.id≠b.o.id) L->∀ g∈L,wQ g.o.id out=0\/(wQ g.o.id out=g.t.power/\A g):=by
 induction h with
 | nil=>intro _ g U;cases U
 | @snoc L out f l h p ih =>
  intro T g U;rw[List.pairwise_append] at T;obtain⟨h1,_,h2⟩:=T;rw[LQ];rcases List.mem_append.1 U with U|U
  rw[Yr p.evs (λe=>h2 g U f aI e.symm),Int.add_zero];exact ih h1 g U
  rw[List.mem_singleton.1 U,h.zero f.o.id λa R=>h2 a R f aI,agz p.evs,Int.zero_add];rcases p.sum with e|e
  rw[e];exact .inl rfl
  exact .inr e
def A1 (first:Bool)(f:iP):Prop:=0<=f.o.lG/\yA f.t first=true
def A2 (first:Bool)(f:iP):Prop:=f.o.blocks≠0/\yA f.t first=true
structure EvR (first:Bool)(L:List iP)(r:List iZ×Bool×jy):Prop where
 bad:r.2.1=false->r.1=[]
 good:r.2.1=true->∃ o1 o2,Parts (A1 first) L o1/\Parts (A2 first) L o2/\r.1=(o1++o2).filter FC
 k:KOK r.2.2
structure aoT (x:nI):Prop where
 o:x.s.objects.length<=40
 a:x.answers.length<=20
 e:∀ a∈x.answers,a.length<=50
 i:uN x.cards x.s=some true
 c:∀ c∈x.cards,J7 c
def Jy (x:nI):Prop:=rO mY x.cards/\kQ x.s/\rO (rO (λ(_:Int)=>True)) x.answers
end Go.Proofs.YtlacmdnhabblcaaGreat
namespace Go.Pv
theorem SnL.cs {P:Program}{N:Nat}{t:TypeId}{ts:List TypeId}{cs:List PV}(h:SnL P N (t::ts) cs){α:Type}{e:α->List PV}{ok:α->Prop}(s:∀ {c:List PV},Sn P N t c->∃ x,c=e x/\ok x):∃ x b,cs=e x++b/\ok x/\SnL P N ts b:=by
 obtain⟨a,b,rfl,k,g⟩:=h.ql;obtain⟨x,rfl,w⟩:=s k;exact⟨x,b,rfl,w,g⟩
end Go.Pv
namespace Go.Proofs.YtlacmdnhabblcaaGreat
open Go Go.Pv Proofs.Tryz
def ok9 (s:ByteArray):Prop:=s.size<=1048576
theorem sT9 {cs:List PV}(h:Sn Tryz.prog 1048576 9 cs):∃ x:ByteArray,cs=eS x/\ok9 x:=by
 obtain⟨n,e,U⟩:=h.afn underlying9;exact⟨n,e,U⟩
def ok4 (_:Bool):Prop:=True
theorem sT4 {cs:List PV}(h:Sn Tryz.prog 1048576 4 cs):∃ x:Bool,cs=eB x/\ok4 x:=by
 obtain⟨n,e⟩:=h.acn underlying4;exact⟨n,e,trivial⟩
def qY (x:Int):Prop:=(Lit.int .i64 x).wf=true
theorem ru {cs:List PV}(h:Sn Tryz.prog 1048576 3 cs):∃ x:Int,cs=(eI .i64) x/\qY x:=by
 obtain⟨n,e,U⟩:=h.aaO underlying3;exact⟨n,e,U⟩
def aoU (x:aco Int):Prop:=qY x.a0/\qY x.a1/\qY x.a2/\qY x.a3/\qY x.a4
theorem sT25 {cs:List PV}(h:Sn Tryz.prog 1048576 25 cs):∃ x:aco Int,cs=(aoh (eI .i64)) x/\aoU x:=by
 have h:=h.Wv underlying25;obtain⟨n0,b0,rfl,w0,h⟩:=h.cs ru;obtain⟨n1,C,rfl,T,h⟩:=h.cs ru;obtain⟨I,g,rfl,J,h⟩:=h.cs ru;obtain⟨n3,b3,rfl,R,h⟩:=h.cs ru;obtain⟨n4,b4,rfl,U,h⟩:=h.cs ru;obtain rfl:=h.mO;exact⟨⟨n0,n1,I,n3,n4⟩,rfl,w0,T,J,R,U⟩
def anc (x:oH):Prop:=qY x.generic/\qY x.x/\aoU x.color
theorem aoV {cs:List PV}(h:Sn Tryz.prog 1048576 27 cs):∃ x:oH,cs=(pV jT) x/\anc x:=by
 have h:=h.l7 underlying27;obtain⟨n0,b0,rfl,w0,h⟩:=h.cs ru;obtain⟨n1,J,rfl,U,h⟩:=h.cs ru;obtain⟨R,I,rfl,T,h⟩:=h.cs sT25;obtain rfl:=h.mO;exact⟨⟨n0,n1,R⟩,rfl,w0,U,T⟩
def ane (l:List ByteArray):Prop:=l.length<=1048576/\∀ x∈l,ok9 x
theorem sT28 {cs:List PV}(h:Sn Tryz.prog 1048576 28 cs):∃ x:List ByteArray,cs=[.sl 1 (jT.m ByteArray eS x) false]/\ane x:=by
 obtain⟨I,e,h1,h2⟩:=h.qB underlying28;have T:Tryz.prog.cellsOf 9=1:=by kernel_rfl
 rw[T] at e;obtain⟨l,R,U,J⟩:=vg λr hr=>sT9 (h1 r hr);exact⟨l,by rw[e,R];rfl,by omega,U⟩
def anf (x:wu):Prop:=qY x.OV/\qY x.types/\ane x.subs
theorem sT30 {cs:List PV}(h:Sn Tryz.prog 1048576 30 cs):∃ x:wu,cs=(Bh jT) x/\anf x:=by
 have h:=h.l7 underlying30;obtain⟨n0,b0,rfl,w0,h⟩:=h.cs ru;obtain⟨n1,J,rfl,U,h⟩:=h.cs ru;obtain⟨R,I,rfl,T,h⟩:=h.cs sT28;obtain rfl:=h.mO;exact⟨⟨n0,n1,R⟩,rfl,w0,U,T⟩
def afG (x:xX):Prop:=qY x.kind/\qY x.n
theorem aiX {cs:List PV}(h:Sn Tryz.prog 1048576 127 cs):∃ x:xX,cs=(Nc jT) x/\afG x:=by
 have h:=h.l7 underlying127;obtain⟨n0,b0,rfl,w0,h⟩:=h.cs ru;obtain⟨n1,T,rfl,U,h⟩:=h.cs ru;obtain rfl:=h.mO;exact⟨⟨n0,n1⟩,rfl,w0,U⟩
def QV (x:lX):Prop:=qY x.jQ/\qY x.who/\qY x.self/\qY x.types/\qY x.jU/\qY x.kU/\qY x.jL/\ok9 x.sub/\qY x.keys/\qY x.vZ/\afG x.power/\afG x.jE/\afG x.value
theorem VT {cs:List PV}(h:Sn Tryz.prog 1048576 129 cs):∃ x:lX,cs=(mW jT) x/\QV x:=by
 have h:=h.l7 underlying129;obtain⟨n0,b0,rfl,w0,h⟩:=h.cs ru;obtain⟨n1,b1,rfl,I,h⟩:=h.cs ru;obtain⟨n2,b2,rfl,w2,h⟩:=h.cs ru;obtain⟨n3,b3,rfl,g,h⟩:=h.cs ru;obtain⟨n4,b4,rfl,J,h⟩:=h.cs ru;obtain⟨n5,b5,rfl,w5,h⟩:=h.cs ru;obtain⟨n6,b6,rfl,w6,h⟩:=h.cs ru;obtain⟨n7,b7,rfl,w7,h⟩:=h.cs sT9;obtain⟨n8,b8,rfl,w8,h⟩:=h.cs ru;obtain⟨n9,b9,rfl,w9,h⟩:=h.cs ru;obtain⟨n10,b10,rfl,R,h⟩:=h.cs aiX;obtain⟨n11,C,rfl,U,h⟩:=h.cs aiX;obtain⟨n12,b12,rfl,T,h⟩:=h.cs aiX;obtain rfl:=h.mO;exact⟨⟨n0,n1,n2,n3,n4,n5,n6,n7,n8,n9,n10,n11,n12⟩,rfl,w0,I,w2,g,J,w5,w6,w7,w8,w9,R,U,T⟩
def aiY (x:nN):Prop:=qY x.kind/\qY x.n/\qY x.m/\ok9 x.sub/\QV x.filter
theorem aoW {cs:List PV}(h:Sn Tryz.prog 1048576 207 cs):∃ x:nN,cs=(rE jT) x/\aiY x:=by
 have h:=h.l7 underlying207;obtain⟨n0,b0,rfl,w0,h⟩:=h.cs ru;obtain⟨n1,C,rfl,T,h⟩:=h.cs ru;obtain⟨I,g,rfl,J,h⟩:=h.cs ru;obtain⟨n3,b3,rfl,R,h⟩:=h.cs sT9;obtain⟨n4,b4,rfl,U,h⟩:=h.cs VT;obtain rfl:=h.mO;exact⟨⟨n0,n1,I,n3,n4⟩,rfl,w0,T,J,R,U⟩
def ac2 (l:List nN):Prop:=l.length<=1048576/\∀ x∈l,aiY x
theorem aiZ {cs:List PV}(h:Sn Tryz.prog 1048576 130 cs):∃ x:List nN,cs=[.sl 20 (jT.m nN (rE jT) x) false]/\ac2 x:=by
 obtain⟨I,e,h1,h2⟩:=h.qB underlying130;have T:Tryz.prog.cellsOf 207=20:=by kernel_rfl
 rw[T] at e;obtain⟨l,R,U,J⟩:=vg λr hr=>aoW (h1 r hr);exact⟨l,by rw[e,R];rfl,by omega,U⟩
def ang (x:uh):Prop:=anc x.og/\ok4 x.vZ/\ok4 x.vO/\qY x.life
theorem aoX {cs:List PV}(h:Sn Tryz.prog 1048576 92 cs):∃ x:uh,cs=(xk jT) x/\ang x:=by
 have h:=h.l7 underlying92;obtain⟨n0,b0,rfl,w0,h⟩:=h.cs aoV;obtain⟨n1,I,rfl,U,h⟩:=h.cs sT4;obtain⟨J,C,rfl,R,h⟩:=h.cs sT4;obtain⟨n3,b3,rfl,T,h⟩:=h.cs ru;obtain rfl:=h.mO;exact⟨⟨n0,n1,J,n3⟩,rfl,w0,U,R,T⟩
def ai0 (x:xY):Prop:=qY x.when/\qY x.who/\QV x.filter
theorem aoY {cs:List PV}(h:Sn Tryz.prog 1048576 132 cs):∃ x:xY,cs=(GY jT) x/\ai0 x:=by
 have h:=h.l7 underlying132;obtain⟨n0,b0,rfl,w0,h⟩:=h.cs ru;obtain⟨n1,J,rfl,U,h⟩:=h.cs ru;obtain⟨R,I,rfl,T,h⟩:=h.cs VT;obtain rfl:=h.mO;exact⟨⟨n0,n1,R⟩,rfl,w0,U,T⟩
def ai1 (x:qM):Prop:=ok4 x.l9/\ok4 x.object/\QV x.filter
theorem aoZ {cs:List PV}(h:Sn Tryz.prog 1048576 209 cs):∃ x:qM,cs=(zl jT) x/\ai1 x:=by
 have h:=h.l7 underlying209;obtain⟨n0,b0,rfl,w0,h⟩:=h.cs sT4;obtain⟨n1,J,rfl,U,h⟩:=h.cs sT4;obtain⟨R,I,rfl,T,h⟩:=h.cs VT;obtain rfl:=h.mO;exact⟨⟨n0,n1,R⟩,rfl,w0,U,T⟩
def ai2 (l:List qM):Prop:=l.length<=1048576/\∀ x∈l,ai1 x
theorem ao0 {cs:List PV}(h:Sn Tryz.prog 1048576 133 cs):∃ x:List qM,cs=[.sl 18 (jT.m qM (zl jT) x) false]/\ai2 x:=by
 obtain⟨I,e,h1,h2⟩:=h.qB underlying133;have T:Tryz.prog.cellsOf 209=18:=by kernel_rfl
 rw[T] at e;obtain⟨l,R,U,J⟩:=vg λr hr=>aoZ (h1 r hr);exact⟨l,by rw[e,R];rfl,by omega,U⟩
def ai3 (x:X4):Prop:=qY x.kind/\qY x.n/\QV x.filter
theorem ao1 {cs:List PV}(h:Sn Tryz.prog 1048576 247 cs):∃ x:X4,cs=(VO jT) x/\ai3 x:=by
 have h:=h.l7 underlying247;obtain⟨n0,b0,rfl,w0,h⟩:=h.cs ru;obtain⟨n1,J,rfl,U,h⟩:=h.cs ru;obtain⟨R,I,rfl,T,h⟩:=h.cs VT;obtain rfl:=h.mO;exact⟨⟨n0,n1,R⟩,rfl,w0,U,T⟩
def ai4 (x:yN):Prop:=qY x.kind/\qY x.n/\qY x.counter/\QV x.filter
theorem ao2 {cs:List PV}(h:Sn Tryz.prog 1048576 249 cs):∃ x:yN,cs=(EX jT) x/\ai4 x:=by
 have h:=h.l7 underlying249;obtain⟨n0,b0,rfl,w0,h⟩:=h.cs ru;obtain⟨n1,I,rfl,U,h⟩:=h.cs ru;obtain⟨J,C,rfl,R,h⟩:=h.cs ru;obtain⟨n3,b3,rfl,T,h⟩:=h.cs VT;obtain rfl:=h.mO;exact⟨⟨n0,n1,J,n3⟩,rfl,w0,U,R,T⟩
def ai5 (x:rQ Int):Prop:=qY x.a0/\qY x.a1/\qY x.a2/\qY x.a3/\qY x.a4/\qY x.a5
theorem alD {cs:List PV}(h:Sn Tryz.prog 1048576 121 cs):∃ x:rQ Int,cs=(aoi (eI .i64)) x/\ai5 x:=by
 have h:=h.Wv underlying121;obtain⟨n0,b0,rfl,w0,h⟩:=h.cs ru;obtain⟨n1,g,rfl,T,h⟩:=h.cs ru;obtain⟨C,b2,rfl,I,h⟩:=h.cs ru;obtain⟨n3,b3,rfl,R,h⟩:=h.cs ru;obtain⟨n4,b4,rfl,U,h⟩:=h.cs ru;obtain⟨n5,b5,rfl,J,h⟩:=h.cs ru;obtain rfl:=h.mO;exact⟨⟨n0,n1,C,n3,n4,n5⟩,rfl,w0,T,I,R,U,J⟩
def ai6 (x:jX):Prop:=qY x.op/\ai3 x.ref/\ai4 x.amount/\qY x.counter/\qY x.jQ/\ok9 x.card/\QV x.filter/\ai5 x.pool/\ac2 x.mP
theorem ao3 {cs:List PV}(h:Sn Tryz.prog 1048576 251 cs):∃ x:jX,cs=(mf jT) x/\ai6 x:=by
 have h:=h.l7 underlying251;obtain⟨n0,b0,rfl,w0,h⟩:=h.cs ru;obtain⟨n1,b1,rfl,T,h⟩:=h.cs ao1;obtain⟨n2,b2,rfl,w2,h⟩:=h.cs ao2;obtain⟨n3,b3,rfl,R,h⟩:=h.cs ru;obtain⟨n4,b4,rfl,U,h⟩:=h.cs ru;obtain⟨n5,b5,rfl,g,h⟩:=h.cs sT9;obtain⟨n6,b6,rfl,J,h⟩:=h.cs VT;obtain⟨n7,b7,rfl,I,h⟩:=h.cs alD;obtain⟨n8,b8,rfl,C,h⟩:=h.cs aiZ;obtain rfl:=h.mO;exact⟨⟨n0,n1,n2,n3,n4,n5,n6,n7,n8⟩,rfl,w0,T,w2,R,U,g,J,I,C⟩
def ai7 (l:List jX):Prop:=l.length<=1048576/\∀ x∈l,ai6 x
theorem ao4 {cs:List PV}(h:Sn Tryz.prog 1048576 134 cs):∃ x:List jX,cs=[.sl 64 (jT.m jX (mf jT) x) false]/\ai7 x:=by
 obtain⟨I,e,h1,h2⟩:=h.qB underlying134;have T:Tryz.prog.cellsOf 251=64:=by kernel_rfl
 rw[T] at e;obtain⟨l,R,U,J⟩:=vg λr hr=>ao3 (h1 r hr);exact⟨l,by rw[e,R];rfl,by omega,U⟩
def ai8 (x:rf):Prop:=qY x.on/\qY x.who/\QV x.filter/\qY x.doF/\qY x.n/\qY x.jQ/\qY x.counter
theorem ao5 {cs:List PV}(h:Sn Tryz.prog 1048576 136 cs):∃ x:rf,cs=(vP jT) x/\ai8 x:=by
 have h:=h.l7 underlying136;obtain⟨n0,b0,rfl,w0,h⟩:=h.cs ru;obtain⟨n1,b1,rfl,T,h⟩:=h.cs ru;obtain⟨g,b2,rfl,C,h⟩:=h.cs VT;obtain⟨n3,b3,rfl,R,h⟩:=h.cs ru;obtain⟨n4,b4,rfl,U,h⟩:=h.cs ru;obtain⟨n5,b5,rfl,I,h⟩:=h.cs ru;obtain⟨n6,b6,rfl,J,h⟩:=h.cs ru;obtain rfl:=h.mO;exact⟨⟨n0,n1,g,n3,n4,n5,n6⟩,rfl,w0,T,C,R,U,I,J⟩
def ac3 (x:kF):Prop:=qY x.kind/\QV x.filter/\ac2 x.mP/\ang x.price/\ok4 x.slow/\ai0 x.jg/\ok4 x.may/\ai2 x.specs/\ai7 x.nR/\ai8 x.replace
theorem ai9 {cs:List PV}(h:Sn Tryz.prog 1048576 138 cs):∃ x:kF,cs=(lD jT) x/\ac3 x:=by
 have h:=h.l7 underlying138;obtain⟨n0,b0,rfl,w0,h⟩:=h.cs ru;obtain⟨n1,b1,rfl,T,h⟩:=h.cs VT;obtain⟨n2,b2,rfl,w2,h⟩:=h.cs aiZ;obtain⟨n3,b3,rfl,R,h⟩:=h.cs aoX;obtain⟨n4,b4,rfl,U,h⟩:=h.cs sT4;obtain⟨n5,b5,rfl,w5,h⟩:=h.cs aoY;obtain⟨n6,b6,rfl,J,h⟩:=h.cs sT4;obtain⟨n7,b7,rfl,I,h⟩:=h.cs ao0;obtain⟨n8,b8,rfl,C,h⟩:=h.cs ao4;obtain⟨n9,b9,rfl,g,h⟩:=h.cs ao5;obtain rfl:=h.mO;exact⟨⟨n0,n1,n2,n3,n4,n5,n6,n7,n8,n9⟩,rfl,w0,T,w2,R,U,w5,J,I,C,g⟩
def anh (l:List kF):Prop:=l.length<=1048576/\∀ x∈l,ac3 x
theorem sT31 {cs:List PV}(h:Sn Tryz.prog 1048576 31 cs):∃ x:List kF,cs=[.sl 72 (jT.m kF (lD jT) x) false]/\anh x:=by
 obtain⟨I,e,h1,h2⟩:=h.qB underlying31;have T:Tryz.prog.cellsOf 138=72:=by kernel_rfl
 rw[T] at e;obtain⟨l,R,U,J⟩:=vg λr hr=>ai9 (h1 r hr);exact⟨l,by rw[e,R];rfl,by omega,U⟩
def aja (x:jI):Prop:=ok9 x.name/\ok4 x.token/\anc x.cost/\qY x.color/\anf x.line/\qY x.power/\qY x.jE/\qY x.keys/\anh x.jO
theorem ao6 {cs:List PV}(h:Sn Tryz.prog 1048576 116 cs):∃ x:jI,cs=(lJ jT) x/\aja x:=by
 have h:=h.l7 underlying116;obtain⟨n0,b0,rfl,w0,h⟩:=h.cs sT9;obtain⟨n1,b1,rfl,T,h⟩:=h.cs sT4;obtain⟨n2,b2,rfl,w2,h⟩:=h.cs aoV;obtain⟨n3,b3,rfl,R,h⟩:=h.cs ru;obtain⟨n4,b4,rfl,U,h⟩:=h.cs sT30;obtain⟨n5,b5,rfl,g,h⟩:=h.cs ru;obtain⟨n6,b6,rfl,J,h⟩:=h.cs ru;obtain⟨n7,b7,rfl,I,h⟩:=h.cs ru;obtain⟨n8,b8,rfl,C,h⟩:=h.cs sT31;obtain rfl:=h.mO;exact⟨⟨n0,n1,n2,n3,n4,n5,n6,n7,n8⟩,rfl,w0,T,w2,R,U,g,J,I,C⟩
def ajb (l:List jI):Prop:=l.length<=1048576/\∀ x∈l,aja x
theorem ani {cs:List PV}(h:Sn Tryz.prog 1048576 39 cs):∃ x:List jI,cs=[.sl 17 (jT.m jI (lJ jT) x) false]/\ajb x:=by
 obtain⟨I,e,h1,h2⟩:=h.qB underlying39;have T:Tryz.prog.cellsOf 116=17:=by kernel_rfl
 rw[T] at e;obtain⟨l,R,U,J⟩:=vg λr hr=>ao6 (h1 r hr);exact⟨l,by rw[e,R];rfl,by omega,U⟩
def Y7 (l:List Int):Prop:=l.length<=1048576/\∀ x∈l,qY x
theorem ac4 {cs:List PV}(h:Sn Tryz.prog 1048576 42 cs):∃ x:List Int,cs=[.sl 1 (jT.m Int (eI .i64) x) false]/\Y7 x:=by
 obtain⟨I,e,h1,h2⟩:=h.qB underlying42;have T:Tryz.prog.cellsOf 3=1:=by kernel_rfl
 rw[T] at e;obtain⟨l,R,U,J⟩:=vg λr hr=>ru (h1 r hr);exact⟨l,by rw[e,R];rfl,by omega,U⟩
def ajc (x:kD):Prop:=qY x.life/\qY x.aiy/\qY x.lands/\ai5 x.pool/\ok4 x.failed/\ok4 x.lost/\Y7 x.library/\Y7 x.hand/\Y7 x.sO
theorem ao7 {cs:List PV}(h:Sn Tryz.prog 1048576 123 cs):∃ x:kD,cs=(lF jT) x/\ajc x:=by
 have h:=h.l7 underlying123;obtain⟨n0,b0,rfl,w0,h⟩:=h.cs ru;obtain⟨n1,b1,rfl,T,h⟩:=h.cs ru;obtain⟨n2,b2,rfl,w2,h⟩:=h.cs ru;obtain⟨n3,b3,rfl,R,h⟩:=h.cs alD;obtain⟨n4,b4,rfl,U,h⟩:=h.cs sT4;obtain⟨n5,b5,rfl,g,h⟩:=h.cs sT4;obtain⟨n6,b6,rfl,J,h⟩:=h.cs ac4;obtain⟨n7,b7,rfl,I,h⟩:=h.cs ac4;obtain⟨n8,b8,rfl,C,h⟩:=h.cs ac4;obtain rfl:=h.mO;exact⟨⟨n0,n1,n2,n3,n4,n5,n6,n7,n8⟩,rfl,w0,T,w2,R,U,g,J,I,C⟩
def anj (l:List kD):Prop:=l.length<=1048576/\∀ x∈l,ajc x
theorem sT40 {cs:List PV}(h:Sn Tryz.prog 1048576 40 cs):∃ x:List kD,cs=[.sl 14 (jT.m kD (lF jT) x) false]/\anj x:=by
 obtain⟨I,e,h1,h2⟩:=h.qB underlying40;have T:Tryz.prog.cellsOf 123=14:=by kernel_rfl
 rw[T] at e;obtain⟨l,R,U,J⟩:=vg λr hr=>ao7 (h1 r hr);exact⟨l,by rw[e,R];rfl,by omega,U⟩
def ank (x:UQ Int):Prop:=qY x.a0/\qY x.a1/\qY x.a2
theorem ao8 {cs:List PV}(h:Sn Tryz.prog 1048576 22 cs):∃ x:UQ Int,cs=(aog (eI .i64)) x/\ank x:=by
 have h:=h.Wv underlying22;obtain⟨n0,b0,rfl,w0,h⟩:=h.cs ru;obtain⟨n1,J,rfl,U,h⟩:=h.cs ru;obtain⟨R,I,rfl,T,h⟩:=h.cs ru;obtain rfl:=h.mO;exact⟨⟨n0,n1,R⟩,rfl,w0,U,T⟩
def ao9 (x:iW):Prop:=qY x.id/\qY x.card/\qY x.owner/\qY x.control/\qY x.jQ/\ok4 x.token/\ok4 x.nC/\ok4 x.Df/\ok4 x.deadly/\qY x.zn/\ank x.counters/\qY x.stamp/\qY x.copy/\qY x.lG/\ok4 x.blocked/\qY x.blocks/\qY x.FK
theorem sT24 {cs:List PV}(h:Sn Tryz.prog 1048576 24 cs):∃ x:iW,cs=(ja jT) x/\ao9 x:=by
 have h:=h.l7 underlying24;obtain⟨n0,b0,rfl,w0,h⟩:=h.cs ru;obtain⟨n1,b1,rfl,w1,h⟩:=h.cs ru;obtain⟨n2,b2,rfl,w2,h⟩:=h.cs ru;obtain⟨n3,b3,rfl,w3,h⟩:=h.cs ru;obtain⟨n4,b4,rfl,w4,h⟩:=h.cs ru;obtain⟨n5,b5,rfl,w5,h⟩:=h.cs sT4;obtain⟨n6,b6,rfl,w6,h⟩:=h.cs sT4;obtain⟨n7,b7,rfl,w7,h⟩:=h.cs sT4;obtain⟨n8,b8,rfl,w8,h⟩:=h.cs sT4;obtain⟨n9,b9,rfl,w9,h⟩:=h.cs ru;obtain⟨n10,b10,rfl,g,h⟩:=h.cs ao8;obtain⟨n11,b11,rfl,U,h⟩:=h.cs ru;obtain⟨n12,b12,rfl,C,h⟩:=h.cs ru;obtain⟨n13,b13,rfl,J,h⟩:=h.cs ru;obtain⟨n14,b14,rfl,I,h⟩:=h.cs sT4;obtain⟨n15,b15,rfl,R,h⟩:=h.cs ru;obtain⟨n16,b16,rfl,T,h⟩:=h.cs ru;obtain rfl:=h.mO;exact⟨⟨n0,n1,n2,n3,n4,n5,n6,n7,n8,n9,n10,n11,n12,n13,n14,n15,n16⟩,rfl,w0,w1,w2,w3,w4,w5,w6,w7,w8,w9,g,U,C,J,I,R,T⟩
def anl (l:List iW):Prop:=l.length<=1048576/\∀ x∈l,ao9 x
theorem sT41 {cs:List PV}(h:Sn Tryz.prog 1048576 41 cs):∃ x:List iW,cs=[.sl 19 (jT.m iW (ja jT) x) false]/\anl x:=by
 obtain⟨I,e,h1,h2⟩:=h.qB underlying41;have T:Tryz.prog.cellsOf 24=19:=by kernel_rfl
 rw[T] at e;obtain⟨l,R,U,J⟩:=vg λr hr=>sT24 (h1 r hr);exact⟨l,by rw[e,R];rfl,by omega,U⟩
def alE (x:rF):Prop:=qY x.object/\qY x.l9
theorem apa {cs:List PV}(h:Sn Tryz.prog 1048576 221 cs):∃ x:rF,cs=(Ia jT) x/\alE x:=by
 have h:=h.l7 underlying221;obtain⟨n0,b0,rfl,w0,h⟩:=h.cs ru;obtain⟨n1,T,rfl,U,h⟩:=h.cs ru;obtain rfl:=h.mO;exact⟨⟨n0,n1⟩,rfl,w0,U⟩
def ajd (l:List rF):Prop:=l.length<=1048576/\∀ x∈l,alE x
theorem apb {cs:List PV}(h:Sn Tryz.prog 1048576 139 cs):∃ x:List rF,cs=[.sl 2 (jT.m rF (Ia jT) x) false]/\ajd x:=by
 obtain⟨I,e,h1,h2⟩:=h.qB underlying139;have T:Tryz.prog.cellsOf 221=2:=by kernel_rfl
 rw[T] at e;obtain⟨l,R,U,J⟩:=vg λr hr=>apa (h1 r hr);exact⟨l,by rw[e,R];rfl,by omega,U⟩
def anm (x:iZ):Prop:=qY x.kind/\qY x.source/\qY x.object/\qY x.l9/\qY x.amount/\qY x.ZY/\qY x.to/\qY x.cause/\qY x.counter/\qY x.card/\ok4 x.Ib/\ok4 x.nC/\ank x.extra
theorem apc {cs:List PV}(h:Sn Tryz.prog 1048576 87 cs):∃ x:iZ,cs=(jC jT) x/\anm x:=by
 have h:=h.l7 underlying87;obtain⟨n0,b0,rfl,w0,h⟩:=h.cs ru;obtain⟨n1,b1,rfl,I,h⟩:=h.cs ru;obtain⟨n2,b2,rfl,w2,h⟩:=h.cs ru;obtain⟨n3,b3,rfl,g,h⟩:=h.cs ru;obtain⟨n4,b4,rfl,J,h⟩:=h.cs ru;obtain⟨n5,b5,rfl,w5,h⟩:=h.cs ru;obtain⟨n6,b6,rfl,w6,h⟩:=h.cs ru;obtain⟨n7,b7,rfl,w7,h⟩:=h.cs ru;obtain⟨n8,b8,rfl,w8,h⟩:=h.cs ru;obtain⟨n9,b9,rfl,w9,h⟩:=h.cs ru;obtain⟨n10,b10,rfl,R,h⟩:=h.cs sT4;obtain⟨n11,C,rfl,U,h⟩:=h.cs sT4;obtain⟨n12,b12,rfl,T,h⟩:=h.cs ao8;obtain rfl:=h.mO;exact⟨⟨n0,n1,n2,n3,n4,n5,n6,n7,n8,n9,n10,n11,n12⟩,rfl,w0,I,w2,g,J,w5,w6,w7,w8,w9,R,U,T⟩
def aje (x:ou):Prop:=qY x.id/\qY x.kind/\qY x.source/\qY x.control/\qY x.x/\ok4 x.copy/\ac3 x.jd/\ajd x.targets/\anm x.event
theorem apd {cs:List PV}(h:Sn Tryz.prog 1048576 141 cs):∃ x:ou,cs=(pM jT) x/\aje x:=by
 have h:=h.l7 underlying141;obtain⟨n0,b0,rfl,w0,h⟩:=h.cs ru;obtain⟨n1,b1,rfl,T,h⟩:=h.cs ru;obtain⟨n2,b2,rfl,w2,h⟩:=h.cs ru;obtain⟨n3,b3,rfl,R,h⟩:=h.cs ru;obtain⟨n4,b4,rfl,U,h⟩:=h.cs ru;obtain⟨n5,b5,rfl,g,h⟩:=h.cs sT4;obtain⟨n6,b6,rfl,J,h⟩:=h.cs ai9;obtain⟨n7,b7,rfl,I,h⟩:=h.cs apb;obtain⟨n8,b8,rfl,C,h⟩:=h.cs apc;obtain rfl:=h.mO;exact⟨⟨n0,n1,n2,n3,n4,n5,n6,n7,n8⟩,rfl,w0,T,w2,R,U,g,J,I,C⟩
def ann (l:List ou):Prop:=l.length<=1048576/\∀ x∈l,aje x
theorem sT43 {cs:List PV}(h:Sn Tryz.prog 1048576 43 cs):∃ x:List ou,cs=[.sl 94 (jT.m ou (pM jT) x) false]/\ann x:=by
 obtain⟨I,e,h1,h2⟩:=h.qB underlying43;have T:Tryz.prog.cellsOf 141=94:=by kernel_rfl
 rw[T] at e;obtain⟨l,R,U,J⟩:=vg λr hr=>apd (h1 r hr);exact⟨l,by rw[e,R];rfl,by omega,U⟩
def ajf (x:kT):Prop:=qY x.source/\qY x.control/\ac3 x.jd/\anm x.event
theorem ape {cs:List PV}(h:Sn Tryz.prog 1048576 144 cs):∃ x:kT,cs=(mX jT) x/\ajf x:=by
 have h:=h.l7 underlying144;obtain⟨n0,b0,rfl,w0,h⟩:=h.cs ru;obtain⟨n1,I,rfl,U,h⟩:=h.cs ru;obtain⟨J,C,rfl,R,h⟩:=h.cs ai9;obtain⟨n3,b3,rfl,T,h⟩:=h.cs apc;obtain rfl:=h.mO;exact⟨⟨n0,n1,J,n3⟩,rfl,w0,U,R,T⟩
def ano (l:List kT):Prop:=l.length<=1048576/\∀ x∈l,ajf x
theorem sT44 {cs:List PV}(h:Sn Tryz.prog 1048576 44 cs):∃ x:List kT,cs=[.sl 89 (jT.m kT (mX jT) x) false]/\ano x:=by
 obtain⟨I,e,h1,h2⟩:=h.qB underlying44;have T:Tryz.prog.cellsOf 144=89:=by kernel_rfl
 rw[T] at e;obtain⟨l,R,U,J⟩:=vg λr hr=>ape (h1 r hr);exact⟨l,by rw[e,R];rfl,by omega,U⟩
def ajg (x:pI):Prop:=qY x.stamp/\qY x.control/\qY x.source/\qY x.ad8/\Y7 x.objects/\ac2 x.mP
theorem apf {cs:List PV}(h:Sn Tryz.prog 1048576 146 cs):∃ x:pI,cs=(qQ jT) x/\ajg x:=by
 have h:=h.l7 underlying146;obtain⟨n0,b0,rfl,w0,h⟩:=h.cs ru;obtain⟨n1,g,rfl,T,h⟩:=h.cs ru;obtain⟨C,b2,rfl,I,h⟩:=h.cs ru;obtain⟨n3,b3,rfl,R,h⟩:=h.cs ru;obtain⟨n4,b4,rfl,U,h⟩:=h.cs ac4;obtain⟨n5,b5,rfl,J,h⟩:=h.cs aiZ;obtain rfl:=h.mO;exact⟨⟨n0,n1,C,n3,n4,n5⟩,rfl,w0,T,I,R,U,J⟩
def anp (l:List pI):Prop:=l.length<=1048576/\∀ x∈l,ajg x
theorem sT45 {cs:List PV}(h:Sn Tryz.prog 1048576 45 cs):∃ x:List pI,cs=[.sl 6 (jT.m pI (qQ jT) x) false]/\anp x:=by
 obtain⟨I,e,h1,h2⟩:=h.qB underlying45;have T:Tryz.prog.cellsOf 146=6:=by kernel_rfl
 rw[T] at e;obtain⟨l,R,U,J⟩:=vg λr hr=>apf (h1 r hr);exact⟨l,by rw[e,R];rfl,by omega,U⟩
def apg (x:Int):Prop:=(Lit.int .u64 x).wf=true
theorem sT46 {cs:List PV}(h:Sn Tryz.prog 1048576 46 cs):∃ x:Int,cs=(eI .u64) x/\apg x:=by
 obtain⟨n,e,U⟩:=h.aaO underlying46;exact⟨n,e,U⟩
def ajh (x:iT):Prop:=anj x.ji/\anl x.objects/\Y7 x.lq/\Y7 x.uU/\ann x.stack/\ano x.waiting/\anp x.oq/\qY x.turn/\qY x.nD/\qY x.step/\ok4 x.begun/\qY x.priority/\qY x.passes/\qY x.nextId/\qY x.nH/\apg x.seed/\Y7 x.extra/\qY x.over/\qY x.uJ
theorem anq {cs:List PV}(h:Sn Tryz.prog 1048576 48 cs):∃ x:iT,cs=(jb jT) x/\ajh x:=by
 have h:=h.l7 underlying48;obtain⟨n0,b0,rfl,w0,h⟩:=h.cs sT40;obtain⟨n1,b1,rfl,w1,h⟩:=h.cs sT41;obtain⟨n2,b2,rfl,w2,h⟩:=h.cs ac4;obtain⟨n3,b3,rfl,w3,h⟩:=h.cs ac4;obtain⟨n4,b4,rfl,w4,h⟩:=h.cs sT43;obtain⟨n5,b5,rfl,w5,h⟩:=h.cs sT44;obtain⟨n6,b6,rfl,w6,h⟩:=h.cs sT45;obtain⟨n7,b7,rfl,w7,h⟩:=h.cs ru;obtain⟨n8,b8,rfl,w8,h⟩:=h.cs ru;obtain⟨n9,b9,rfl,w9,h⟩:=h.cs ru;obtain⟨n10,b10,rfl,w10,h⟩:=h.cs sT4;obtain⟨n11,b11,rfl,U,h⟩:=h.cs ru;obtain⟨n12,b12,rfl,g,h⟩:=h.cs ru;obtain⟨n13,b13,rfl,I,h⟩:=h.cs ru;obtain⟨n14,b14,rfl,C,h⟩:=h.cs ru;obtain⟨n15,b15,rfl,J,h⟩:=h.cs sT46;obtain⟨n16,b16,rfl,T,h⟩:=h.cs ac4;obtain⟨n17,b17,rfl,R,h⟩:=h.cs ru;obtain⟨n18,b18,rfl,w18,h⟩:=h.cs ru;obtain rfl:=h.mO;exact⟨⟨n0,n1,n2,n3,n4,n5,n6,n7,n8,n9,n10,n11,n12,n13,n14,n15,n16,n17,n18⟩,rfl,w0,w1,w2,w3,w4,w5,w6,w7,w8,w9,w10,U,g,I,C,J,T,R,w18⟩
def aph (x:iL):Prop:=qY x.kind/\qY x.a/\qY x.b
def anr (l:List iL):Prop:=l.length<=1048576/\∀ x∈l,aph x
def ant (x:vS):Prop:=ajb x.cards/\ajh x.s/\qY x.p/\qY x.id/\ang x.price
def anu (l:List (List Int)):Prop:=l.length<=1048576/\∀ x∈l,Y7 x
def anv (x:nI):Prop:=ajb x.cards/\ajh x.s/\anu x.answers/\ok4 x.first
theorem z9 {x:ByteArray}(h:ok9 x):Me x:=h
theorem z28 {x:List ByteArray}(h:ane x):(rO Me) x:=⟨h.1,λy hy=>z9 (h.2 y hy)⟩
theorem z30 {x:wu}(h:anf x):A7 x:=z28 (h.2.2)
theorem ac5 {x:lX}(h:QV x):oC x:=z9 (h.2.2.2.2.2.2.2.1)
theorem z207 {x:nN}(h:aiY x):qZ x:=⟨z9 (h.2.2.2.1),ac5 (h.2.2.2.2)⟩
theorem z130 {x:List nN}(h:ac2 x):(rO qZ) x:=⟨h.1,λy hy=>z207 (h.2 y hy)⟩
theorem z132 {x:xY}(h:ai0 x):DY x:=ac5 (h.2.2)
theorem z209 {x:qM}(h:ai1 x):EE x:=ac5 (h.2.2)
theorem z133 {x:List qM}(h:ai2 x):(rO EE) x:=⟨h.1,λy hy=>z209 (h.2 y hy)⟩
theorem z247 {x:X4}(h:ai3 x):aa0 x:=ac5 (h.2.2)
theorem z249 {x:yN}(h:ai4 x):QE x:=ac5 (h.2.2.2)
theorem z251 {x:jX}(h:ai6 x):pK x:=⟨z247 (h.2.1),z249 (h.2.2.1),z9 (h.2.2.2.2.2.1),ac5 (h.2.2.2.2.2.2.1),z130 (h.2.2.2.2.2.2.2.2)⟩
theorem z134 {x:List jX}(h:ai7 x):(rO pK) x:=⟨h.1,λy hy=>z251 (h.2 y hy)⟩
theorem z136 {x:rf}(h:ai8 x):xE x:=ac5 (h.2.2.1)
theorem z138 {x:kF}(h:ac3 x):ny x:=⟨ac5 (h.2.1),z130 (h.2.2.1),z132 (h.2.2.2.2.2.1),z133 (h.2.2.2.2.2.2.2.1),z134 (h.2.2.2.2.2.2.2.2.1),z136 (h.2.2.2.2.2.2.2.2.2)⟩
theorem z31 {x:List kF}(h:anh x):(rO ny) x:=⟨h.1,λy hy=>z138 (h.2 y hy)⟩
theorem z116 {x:jI}(h:aja x):mY x:=⟨z9 (h.1),z30 (h.2.2.2.2.1),z31 (h.2.2.2.2.2.2.2.2)⟩
theorem z39 {x:List jI}(h:ajb x):(rO mY) x:=⟨h.1,λy hy=>z116 (h.2 y hy)⟩
theorem z42 {x:List Int}(h:Y7 x):(rO (λ(_:Int)=>True)) x:=⟨h.1,λy hy=>trivial⟩
theorem z123 {x:kD}(h:ajc x):AA x:=⟨z42 (h.2.2.2.2.2.2.1),z42 (h.2.2.2.2.2.2.2.1),z42 (h.2.2.2.2.2.2.2.2)⟩
theorem z40 {x:List kD}(h:anj x):(rO AA) x:=⟨h.1,λy hy=>z123 (h.2 y hy)⟩
theorem z41 {x:List iW}(h:anl x):(rO (λ(_:iW)=>True)) x:=⟨h.1,λy hy=>trivial⟩
theorem z139 {x:List rF}(h:ajd x):(rO (λ(_:rF)=>True)) x:=⟨h.1,λy hy=>trivial⟩
theorem z141 {x:ou}(h:aje x):EF x:=⟨z138 (h.2.2.2.2.2.2.1),z139 (h.2.2.2.2.2.2.2.1)⟩
theorem z43 {x:List ou}(h:ann x):(rO EF) x:=⟨h.1,λy hy=>z141 (h.2 y hy)⟩
theorem z144 {x:kT}(h:ajf x):ND x:=z138 (h.2.2.1)
theorem z44 {x:List kT}(h:ano x):(rO ND) x:=⟨h.1,λy hy=>z144 (h.2 y hy)⟩
theorem z146 {x:pI}(h:ajg x):WG x:=⟨z42 (h.2.2.2.2.1),z130 (h.2.2.2.2.2)⟩
theorem z45 {x:List pI}(h:anp x):(rO WG) x:=⟨h.1,λy hy=>z146 (h.2 y hy)⟩
theorem z48 {x:iT}(h:ajh x):kQ x:=⟨z40 (h.1),z41 (h.2.1),z42 (h.2.2.1),z42 (h.2.2.2.1),z43 (h.2.2.2.2.1),z44 (h.2.2.2.2.2.1),z45 (h.2.2.2.2.2.2.1),z42 (h.2.2.2.2.2.2.2.2.2.2.2.2.2.2.2.2.1)⟩
theorem z53 {x:List iL}(h:anr x):(rO (λ(_:iL)=>True)) x:=⟨h.1,λy hy=>trivial⟩
theorem z94 {x:vS}(h:ant x):VS x:=⟨z39 (h.1),z48 (h.2.1)⟩
theorem z71 {x:List (List Int)}(h:anu x):(rO (rO (λ(_:Int)=>True))) x:=⟨h.1,λy hy=>z42 (h.2 y hy)⟩
theorem z73 {x:nI}(h:anv x):Jy x:=⟨z39 (h.1),z48 (h.2.1),z71 (h.2.2.1)⟩
theorem ajH {p:PV}(h:SnV Tryz.prog 1048576 39 p):∃ x:List jI,p=.sl 17 (jT.m jI (lJ jT) x) false/\ajb x:=by
 obtain⟨x,e,hx⟩:=ani (h.inv_one aH);cases e;exact⟨x,rfl,hx⟩
theorem ajI {p:PV}(h:SnV Tryz.prog 1048576 48 p):∃ x:iT,p=.agg ((jb jT) x)/\ajh x:=by
 obtain⟨cs,rfl,h2⟩:=h.Wx aH;obtain⟨x,rfl,hx⟩:=anq h2;exact⟨x,rfl,hx⟩
end Go.Proofs.YtlacmdnhabblcaaGreat
