import Derived.Test.YtlacmdnhabblcaaGreatB29
set_option linter.all false
namespace Go.Proofs.YtlacmdnhabblcaaGreat
open Go Go.Pv
set_option maxRecDepth 100000
theorem aeA (cards:List jI)(s:iT)(T:(rO mY) cards)(U:kQ s):Ok (λr=>True) (uN cards s):=by
 unfold uN;have z1:=(T).1;have z2:=(T).2;have z3:=((U).1).1;have z4:=((U).1).2;have z5:=((U).2.1).1;have z6:=((U).2.2.1).1;have z7:=((U).2.2.2.1).1;have z8:=((U).2.2.2.2.1).1;have z9:=((U).2.2.2.2.1).2;have z10:=((U).2.2.2.2.2.1).1;have z11:=((U).2.2.2.2.2.1).2;have z12:=((U).2.2.2.2.2.2.1).1;have z13:=((U).2.2.2.2.2.2.1).2;have z14:=((U).2.2.2.2.2.2.2).1;refine jf (λ(s1:Bool)=>s1=false->¬(2048<(s.objects.length:Int))) (λk2 J=>?_) (λs1 hs16=>?_)
 refine iO (mV _ _ _ ) (λy4 h17=>?_);apply iR<;>intro h18
 exact J _ af
 refine iO (mV _ _ _ ) (λy5 h19=>?_);apply iR<;>intro h20
 exact J _ af
 refine iO (mV _ _ _ ) (λy6 h21=>?_);apply iR<;>intro h22
 exact J _ af
 refine iO (mV _ _ _ ) (λy7 h23=>?_);apply iR<;>intro h24
 exact J _ af
 exact J _ af
 apply iR<;>intro h25
 exact gQ
 have hf26:=hs16 h25;refine jf (λ(s8:Bool)=>s8=false->¬(500<(s.extra.length:Int))) (λk9 R=>?_) (λs8 hs28=>?_)
 refine iO (FT _ au) (λy11 h29=>?_);apply iR<;>intro h30
 exact R _ af
 refine iO (oU _ _ au) (λy12 h31=>?_);apply iR<;>intro h32
 exact R _ af
 refine iO (oU _ _ au) (λy13 h33=>?_);apply iR<;>intro h34
 exact R _ af
 refine iO (mV _ _ _ ) (λy14 h35=>?_);apply iR<;>intro h36
 exact R _ af
 apply iJ<;>intro h37
 (try simp only[iV] at h37)
 exact R _ af
 (try simp only[iV] at h37)
 refine iO (mV _ _ _ ) (λy15 h38=>?_);exact R _ af
 apply iR<;>intro h39
 exact gQ
 have hf40:=hs28 h39;refine kW (λ(C:Int)=>0<=C/\C<=(s.extra.length:Int)) (λ(C:Int)=>((s.extra.length:Int)-C).toNat) ⟨ae,ae⟩ ak (λC k17 hI41 hk42=>?_);obtain⟨hI41_0,hI41_1⟩:=hI41;unfold DN;apply iJ<;>intro g
 (try simp only[iV] at g)
 refine mM ae ae (λx19 h44=>?_);refine iO (oU _ _ au) (λy20 h45=>?_);apply iR<;>intro h46
 exact gQ
 have h47:jq C 1=C+1:=lN ai ai;exact hk42 _ ⟨ae,ae⟩ ae
 (try simp only[iV] at g)
 refine jf (λ(s21:Bool)=>True) (λk22 I=>?_) (λs21 hs49=>?_)
 apply iJ<;>intro h50
 refine iO (oU _ _ au) (λy24 h51=>?_);apply iR<;>intro h52
 exact I _ trivial
 refine lI (λh53=>?_) (λh53=>?_)
 exact I _ trivial
 exact I _ trivial
 refine lI (λh54=>?_) (λh54=>?_)
 exact I _ trivial
 exact I _ trivial
 apply iR<;>intro h55
 exact gQ
 refine iO (Oa _ _ ax au) (λy25 h56=>?_);apply iR<;>intro h57
 refine iO (J4 _ au) (λy26 h58=>?_);exact iK trivial
 exact gQ
theorem aji (cards:List jI)(s:iT)(U:rO mY cards)(hs:kQ s):Ok (λr=>r=true->s.objects.length<=2048) (uN cards s):=by
 obtain⟨r,e,_⟩:=aeA cards s U hs;refine⟨r,e,λh=>?_⟩;subst h;refine Classical.byContradiction λhno=>?_
 have:uN cards s=some false:=by
  unfold uN;refine ok_eq (jf (λb=>b=true) (λk hk=>?_) λb hb=>by subst hb;exact iK rfl);refine iO (mV _ _ _) λ_ _=>iR (λ_=>hk _ rfl) λ_=>iO (mV _ _ _) λ_ _=>iR (λ_=>hk _ rfl) λ_=>iO (mV _ _ _) λ_ _=>iR (λ_=>hk _ rfl) λ_=>iO (mV _ _ _) λ_ _=>iR (λ_=>hk _ rfl) λ_=>hk _ ?_;exact decide_eq_true dR
 rw[e] at this;cases this
theorem akY (m j:Nat):m &&& 2 ^ j=if m / 2 ^ j % 2=1 then 2 ^ j else 0:=by
 have hb:m.testBit j=decide (m / 2 ^ j % 2=1):=Nat.testBit_eq_decide_div_mod_eq;refine Nat.eq_of_testBit_eq λi=>?_;rw[Nat.testBit_and,Nat.testBit_two_pow]
 by_cases h:m / 2 ^ j % 2=1
 rw[if_pos h,Nat.testBit_two_pow]
 by_cases e:j=i
 subst e;rw[hb];simp[h]
 simp[e]
 rw[if_neg h]
 by_cases e:j=i
 subst e;rw[hb];simp[h]
 simp[e]
theorem Uf (m j:Nat)(T:m<2 ^ 63)(hj:j<63):kz .and .i64 (m:Int) ((2 ^ j:Nat):Int)=((if m / 2 ^ j % 2=1 then 2 ^ j else 0:Nat):Int):=by
 have U:2 ^ j<2 ^ 63:=Nat.pow_lt_pow_right aQ hj
 have e:(BitVec.ofInt 64 (m:Int) &&& BitVec.ofInt 64 ((2 ^ j:Nat):Int)).toNat=if m / 2 ^ j % 2=1 then 2 ^ j else 0:=by
  rw[BitVec.toNat_and,BitVec.ofInt_natCast,BitVec.ofInt_natCast,BitVec.toNat_ofNat,BitVec.toNat_ofNat,Nat.mod_eq_of_lt ai,Nat.mod_eq_of_lt ai,akY]
 show IntKind.i64.wrap (((BitVec.ofInt 64 (m:Int) &&& BitVec.ofInt 64 ((2 ^ j:Nat):Int)).toNat:Nat):Int)=_;rw[e];refine wrap_in ai ?_
 split<;>omega
theorem apj (m j:Nat)(T:m<2 ^ 63):zN (m:Int) ((2 ^ j:Nat):Int)=some (hasB m j):=by
 have R:0<2 ^ j:=Nat.two_pow_pos j;have hq:m / 2 ^ j<=m:=Nat.div_le_self _ _;unfold zN hasB;refine ok_eq (wZ ai λx hx=>vU ai λy hy=>iK ?_)
 have e1:x=((m / 2 ^ j:Nat):Int):=by
  rw[hx,<- Int.ofNat_tdiv];generalize m / 2 ^ j=z at hq;exact wrap_in ai ai
 have U:y=((m / 2 ^ j % 2:Nat):Int):=by
  rw[hy,e1];rfl
 rw[U,Int.toNat_natCast];exact decide_eq_decide.2 ai
theorem ajj (m j:Nat)(U:m<2 ^ 63)(hj:j<63):kZ (m:Int) ((2 ^ j:Nat):Int)=some (hasB m j):=by
 have T:0<2 ^ j:=Nat.two_pow_pos j;unfold kZ hasB;rw[Uf m j U hj,Int.toNat_natCast];refine congrArg some (decide_eq_decide.2 ?_)
 by_cases h:m / 2 ^ j % 2=1
 rw[if_pos h];simp[h]
 rw[if_neg h];simp only[h,iff_false];omega
theorem NJ (k:Int)(j:Nat)(h0:0<=k)(h1:k<9223372036854775808):zN k ((2 ^ j:Nat):Int)=some (hasB k j):=by
 obtain⟨m,rfl⟩:=Int.eq_ofNat_of_zero_le h0;exact apj m j ai
theorem RJ (cards:List jI)(s:iT)(T:rO mY cards)(hs:kQ s):Ok (λb=>b=true->uN cards s=some true/\aez cards s) (Ar cards s):=by
 unfold Ar;refine iO (Vg cards T) λy1 h1=>iJ (λh=>?_) λ_=>iK λh=>by cases h
 obtain⟨R,e,h2⟩:=aji cards s T hs;refine iU e (iK λU=>?_);rw[U] at e;exact⟨e,h1 h,h2 U⟩
end Go.Proofs.YtlacmdnhabblcaaGreat
