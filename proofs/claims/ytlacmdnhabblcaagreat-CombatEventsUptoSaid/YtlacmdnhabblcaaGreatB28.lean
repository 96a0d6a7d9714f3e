import Derived.Test.YtlacmdnhabblcaaGreatB27
set_option linter.all false
namespace Go.Proofs.YtlacmdnhabblcaaGreat
open Go Go.Pv
set_option maxRecDepth 100000
theorem aen (c:jI)(U:mY c):Ok (λr=>True) (Pm c):=by
 unfold Pm;have z1:c.name.size<=1048576:=(U).1;have z2:=(U).2.1;have z3:=(((U).2.1)).1;have z4:=(((U).2.1)).2;have z5:=((U).2.2).1;have z6:=((U).2.2).2;refine jf (λ(s1:Bool)=>s1=false->¬(c.color<0)/\¬(31<c.color)) (λk2 J=>?_) (λs1 hs8=>?_)
 refine iO (NF _ aG) (λy4 h9=>?_);apply iR<;>intro h10
 exact J _ af
 refine iO (DZ _ ) (λy5 h11=>?_);apply iR<;>intro h12
 exact J _ af
 refine iO (Yg _ bQ) (λy6 h13=>?_);apply iR<;>intro h14
 exact J _ af
 refine iO (Yh _ ) (λy7 h15=>?_);apply iR<;>intro h16
 exact J _ af
 apply iJ<;>intro h17
 exact J _ af
 exact J _ af
 apply iR<;>intro h18
 exact gQ
 have hf19:=hs8 h18;refine jf (λ(s8:Bool)=>s8=false->¬(99<c.power)/\¬(99<c.jE)/\¬(c.power<0)/\¬(c.jE<0)/\¬(8<(c.jO.length:Int))) (λk9 hk20=>?_) (λs8 hs21=>?_)
 apply iJ<;>intro h22
 exact gX
 apply iJ<;>intro h23
 exact gX
 apply iJ<;>intro h24
 exact gX
 apply iJ<;>intro h25
 exact gX
 refine iO (LK _ bT) (λy11 h26=>?_);apply iR<;>intro h27
 refine lI (λh28=>?_) (λh28=>?_)
 exact gX
 refine lI (λh29=>?_) (λh29=>?_)
 exact gX
 exact gX
 exact gX
 apply iR<;>intro h30
 exact gQ
 have hf31:=hs21 h30;refine kW (λ(T:Int×Int)=>0<=T.2/\T.2<=(c.jO.length:Int)) (λ(T:Int×Int)=>((c.jO.length:Int)-T.2).toNat) ⟨ae,ae⟩ ak (λT k13 hI32 g=>?_);obtain⟨hI32_0,hI32_1⟩:=hI32;unfold U4;apply iJ<;>intro h34
 (try simp only[iV] at h34)
 refine jf (λ(s15:Int)=>True) (λk16 C=>?_) (λs15 hs36=>?_)
 refine mM ae ae (λx18 h37=>?_);have z38:ny x18:=z6 x18 h37;have z39:=(z38).1;have z40:x18.filter.sub.size<=1048576:=((z38).1);have z41:=((z38).2.1).1;have z42:=((z38).2.1).2;have z43:=(z38).2.2.1;have z44:=((z38).2.2.1);have z45:x18.jg.filter.sub.size<=1048576:=(((z38).2.2.1));have z46:=((z38).2.2.2.1).1;have z47:=((z38).2.2.2.1).2;have z48:=((z38).2.2.2.2.1).1;have z49:=((z38).2.2.2.2.1).2;have z50:=(z38).2.2.2.2.2;have z51:=((z38).2.2.2.2.2);have z52:x18.replace.filter.sub.size<=1048576:=(((z38).2.2.2.2.2));refine iO (NH _ aO) (λy19 h53=>?_);apply iR<;>intro h54
 exact gQ
 refine mM ae ae (λI h55=>?_);have z56:ny I:=z6 I h55;have z57:=(z56).1;have z58:I.filter.sub.size<=1048576:=((z56).1);have z59:=((z56).2.1).1;have z60:=((z56).2.1).2;have z61:=(z56).2.2.1;have z62:=((z56).2.2.1);have z63:I.jg.filter.sub.size<=1048576:=(((z56).2.2.1));have z64:=((z56).2.2.2.1).1;have z65:=((z56).2.2.2.1).2;have z66:=((z56).2.2.2.2.1).1;have z67:=((z56).2.2.2.2.1).2;have z68:=(z56).2.2.2.2.2;have z69:=((z56).2.2.2.2.2);have z70:I.replace.filter.sub.size<=1048576:=(((z56).2.2.2.2.2));apply iJ<;>intro h71
 exact C _ trivial
 exact C _ trivial
 have h72:jq T.2 1=T.2+1:=lN ai ai;exact g _ ⟨ae,ae⟩ ae
 (try simp only[iV] at h34)
 refine iO (abe _ bT) (λy21 h73=>?_);apply iR<;>intro h74
 refine jf (λ(s22:Bool)=>True) (λk23 R=>?_) (λs22 hs76=>?_)
 apply iR<;>intro h77
 apply iJ<;>intro h78
 apply iJ<;>intro h79
 (try simp only[iV] at h79)
 exact R _ trivial
 (try simp only[iV] at h79)
 exact R _ trivial
 exact R _ trivial
 exact R _ trivial
 exact gQ
 apply iJ<;>intro h80
 apply iR<;>intro h81
 apply iJ<;>intro h82
 exact gQ
 refine nO (λv25 h83=>?_);exact iK trivial
 refine nO (λv26 h84=>?_);exact iK trivial
 exact gQ
theorem abf (l:List jI)(name:ByteArray)(T:(rO mY) l)(U:Me name):Ok (λr=>True) (Po l name):=by
 unfold Po;have z1:=(T).1;have z2:=(T).2;have z3:name.size<=1048576:=U;refine kW (λ(R:Int)=>0<=R/\R<=(l.length:Int)) (λ(R:Int)=>((l.length:Int)-R).toNat) ⟨ae,ae⟩ ak (λR k2 I g=>?_);obtain⟨C,hI4_1⟩:=I;unfold Pn;apply iJ<;>intro h6
 (try simp only[iV] at h6)
 refine mM ae ae (λJ h7=>?_);have z8:mY J:=z2 J h7;have z9:J.name.size<=1048576:=(z8).1;have z10:=(z8).2.1;have z11:=(((z8).2.1)).1;have z12:=(((z8).2.1)).2;have z13:=((z8).2.2).1;have z14:=((z8).2.2).2;apply iR<;>intro h15
 exact gQ
 have h16:jq R 1=R+1:=lN ai ai;exact g _ ⟨ae,ae⟩ ae
 (try simp only[iV] at h6)
 exact iK trivial
theorem YU (l:List jI)(name:ByteArray)(R:(rO mY) l)(T:Me name):Ok (λr=>True) (Le l name):=by
 unfold Le;have z1:=(R).1;have z2:=(R).2;have z3:name.size<=1048576:=T;refine kW (λ(J:Int)=>0<=J/\J<=(l.length:Int)) (λ(J:Int)=>((l.length:Int)-J).toNat) ⟨ae,ae⟩ ak (λJ k2 hI4 hk5=>?_);obtain⟨g,hI4_1⟩:=hI4;unfold Np;apply iJ<;>intro h6
 (try simp only[iV] at h6)
 refine jf (λ(s4:Bool)=>True) (λk5 I=>?_) (λs4 hs8=>?_)
 refine mM ae ae (λC h9=>?_);have z10:mY C:=z2 C h9;have z11:C.name.size<=1048576:=(z10).1;have z12:=(z10).2.1;have z13:=(((z10).2.1)).1;have z14:=(((z10).2.1)).2;have z15:=((z10).2.2).1;have z16:=((z10).2.2).2;apply iR<;>intro h17
 refine mM ae ae (λx8 h18=>?_);have U:mY x8:=z2 x8 h18;have z20:x8.name.size<=1048576:=(U).1;have z21:=(U).2.1;have z22:=(((U).2.1)).1;have z23:=(((U).2.1)).2;have z24:=((U).2.2).1;have z25:=((U).2.2).2;exact I _ trivial
 exact I _ trivial
 apply iR<;>intro h26
 exact gQ
 have h27:jq J 1=J+1:=lN ai ai;exact hk5 _ ⟨ae,ae⟩ ae
 (try simp only[iV] at h6)
 exact iK trivial
theorem Wh (l:List jI)(c:jI)(U:(rO mY) l)(T:mY c):Ok (λr=>True) (EZ l c):=by
 have I:(rO ny) c.jO:=T.2.2;have hla:=I.1;unfold EZ;refine lH 0 c.jO.length (λ_=>True) 0 rfl (Nat.zero_le _) ai trivial ?_ ?_
 intro i k hi _ hk;unfold BB;refine iJ (λ_=>?_) λh=>absurd (show (i:Int)<(c.jO.length:Int) by omega) h;have g:ny c.jO[i]:=I.2 _ (List.getElem_mem hi);have C:(rO pK) (c.jO[i]).nR:=g.2.2.2.2.1;have hle:=C.1;refine lH 0 (c.jO[i]).nR.length (λ_=>True) 0 rfl (Nat.zero_le _) ai trivial ?_ ?_
 intro j k5 hj _ J;unfold BA;refine jl i rfl hi (iJ (λ_=>jl i rfl hi (jl j rfl hj (jf (λ_=>True) ?_ ?_))) λh=>absurd (show (j:Int)<((c.jO[i]).nR.length:Int) by omega) h)
 intro k11 R;exact iJ (λ_=>iO (YU _ _ U (by have z:=C.2 _ (List.getElem_mem hj);exact z.2.2.1)) λ_ _=>R _ trivial) λ_=>R _ trivial
 intro s _;exact iR (λ_=>iK trivial) λ_=>J trivial
 intro k5 _;unfold BA;exact jl i rfl hi (iJ (λh=>absurd h (by show ¬ ((c.jO[i]).nR.length:Int)<((c.jO[i]).nR.length:Int);omega)) λ_=>hk trivial)
 intro k _;unfold BB;exact iJ (λh=>absurd h dW) λ_=>iK trivial
theorem YV (p:rQ Int)  : Ok (λr=>True) (Aq p):=by
 unfold Aq;refine kW (λ(U:Int)=>0<=U/\U<=6) (λ(U:Int)=>(6-U).toNat) ⟨ae,ae⟩ ak (λU k2 I T=>?_);obtain⟨R,J⟩:=I;unfold BC;apply iJ<;>intro h3
 refine jf (λ(s4:Bool)=>True) (λk5 hk4=>?_) (λs4 hs5=>?_)
 refine DX ae ae (λj7 h6=>?_)
 split
 apply iJ<;>intro h7
 exact gV
 refine DX ae ae (λj8 h8=>?_)
 split
 exact gV
 exact gV
 exact gV
 exact gV
 exact gV
 exact gV
 apply iJ<;>intro h9
 exact gV
 refine DX ae ae (λj9 h10=>?_)
 split
 exact gV
 exact gV
 exact gV
 exact gV
 exact gV
 exact gV
 apply iJ<;>intro h11
 exact gV
 refine DX ae ae (λj10 h12=>?_)
 split
 exact gV
 exact gV
 exact gV
 exact gV
 exact gV
 exact gV
 apply iJ<;>intro g
 exact gV
 refine DX ae ae (λj11 h14=>?_)
 split
 exact gV
 exact gV
 exact gV
 exact gV
 exact gV
 exact gV
 apply iJ<;>intro h15
 exact gV
 refine DX ae ae (λj12 h16=>?_)
 split
 exact gV
 exact gV
 exact gV
 exact gV
 exact gV
 exact gV
 apply iJ<;>intro h17
 exact gV
 refine DX ae ae (λj13 h18=>?_)
 split
 exact gV
 exact gV
 exact gV
 exact gV
 exact gV
 exact gV
 apply iR<;>intro h19
 exact gQ
 have C:jq U 1=U+1:=lN ai ai;exact T _ ⟨ae,ae⟩ ae
 exact gQ
theorem YW (s:iT)(id:Int)(U:kQ s):Ok (λr=>-1<=r/\r<(s.objects.length:Int)) (DJ s id):=by
 unfold DJ;have z1:=((U).1).1;have z2:=((U).1).2;have z3:=((U).2.1).1;have z4:=((U).2.2.1).1;have z5:=((U).2.2.2.1).1;have z6:=((U).2.2.2.2.1).1;have z7:=((U).2.2.2.2.1).2;have z8:=((U).2.2.2.2.2.1).1;have z9:=((U).2.2.2.2.2.1).2;have z10:=((U).2.2.2.2.2.2.1).1;have z11:=((U).2.2.2.2.2.2.1).2;have z12:=((U).2.2.2.2.2.2.2).1;refine kW (λ(T:Int)=>0<=T/\T<=(s.objects.length:Int)) (λ(T:Int)=>((s.objects.length:Int)-T).toNat) ⟨ae,ae⟩ ak (λT k2 I R=>?_);obtain⟨C,g⟩:=I;unfold BD;apply iJ<;>intro J
 (try simp only[iV] at J)
 refine mM ae ae (λx4 h16=>?_);apply iJ<;>intro h17
 exact iK ai
 have h18:jq T 1=T+1:=lN ai ai;exact R _ ⟨ae,ae⟩ ae
 (try simp only[iV] at J)
 exact iK ai
theorem abg (s:iT)(id:Int)(U:kQ s):Ok (λr=>True) (E8 s id):=by
 unfold E8;have z1:=((U).1).1;have z2:=((U).1).2;have z3:=((U).2.1).1;have z4:=((U).2.2.1).1;have z5:=((U).2.2.2.1).1;have z6:=((U).2.2.2.2.1).1;have z7:=((U).2.2.2.2.1).2;have z8:=((U).2.2.2.2.2.1).1;have z9:=((U).2.2.2.2.2.1).2;have z10:=((U).2.2.2.2.2.2.1).1;have z11:=((U).2.2.2.2.2.2.1).2;have z12:=((U).2.2.2.2.2.2.2).1;refine iO (YW _ _ au) (λy1 T=>?_);apply iJ<;>intro R
 exact gQ
 refine mM ae ae (λI J=>?_);exact iK trivial
theorem PQ (s:iT)(id:Int)(U:kQ s):Ok (λr=>True) (DK s id):=by
 unfold DK;have z1:=((U).1).1;have z2:=((U).1).2;have z3:=((U).2.1).1;have z4:=((U).2.2.1).1;have z5:=((U).2.2.2.1).1;have z6:=((U).2.2.2.2.1).1;have z7:=((U).2.2.2.2.1).2;have z8:=((U).2.2.2.2.2.1).1;have z9:=((U).2.2.2.2.2.1).2;have z10:=((U).2.2.2.2.2.2.1).1;have z11:=((U).2.2.2.2.2.2.1).2;have z12:=((U).2.2.2.2.2.2.2).1;refine iO (abg _ _ au) (λy1 T=>?_);exact iK trivial
theorem J3 (l:List Int)(n:Int)(R:(rO (λ(_:Int)=>True)) l):Ok (λr=>True) (DL l n):=by
 unfold DL;have z1:=(R).1;refine kW (λ(U:Int×Int)=>0<=U.2/\U.2<=(l.length:Int)) (λ(U:Int×Int)=>((l.length:Int)-U.2).toNat) ⟨ae,ae⟩ ak (λU k2 g C=>?_);obtain⟨I,J⟩:=g;unfold Nq;apply iJ<;>intro h4
 (try simp only[iV] at h4)
 refine jf (λ(s4:Int)=>True) (λk5 T=>?_) (λs4 hs6=>?_)
 refine mM ae ae (λx7 h7=>?_);apply iJ<;>intro h8
 exact T _ trivial
 exact T _ trivial
 have h9:jq U.2 1=U.2+1:=lN ai ai;exact C _ ⟨ae,ae⟩ ae
 (try simp only[iV] at h4)
 exact iK trivial
theorem Cf (s:iT)(l:List Int)(jQ:Int)(owner:Int)(U:kQ s)(C:(rO (λ(_:Int)=>True)) l):Ok (λr=>True) (BF s l jQ owner):=by
 unfold BF;have z1:=((U).1).1;have z2:=((U).1).2;have z3:=((U).2.1).1;have z4:=((U).2.2.1).1;have z5:=((U).2.2.2.1).1;have z6:=((U).2.2.2.2.1).1;have z7:=((U).2.2.2.2.1).2;have z8:=((U).2.2.2.2.2.1).1;have z9:=((U).2.2.2.2.2.1).2;have z10:=((U).2.2.2.2.2.2.1).1;have z11:=((U).2.2.2.2.2.2.1).2;have z12:=((U).2.2.2.2.2.2.2).1;have z13:=(C).1;refine kW (λ(R:Int)=>0<=R/\R<=(l.length:Int)) (λ(R:Int)=>((l.length:Int)-R).toNat) ⟨ae,ae⟩ ak (λR k2 hI14 I=>?_);obtain⟨hI14_0,hI14_1⟩:=hI14;unfold Pq;apply iJ<;>intro J
 (try simp only[iV] at J)
 refine mM ae ae (λx4 h17=>?_);refine iO (PQ _ _ au) (λy5 h18=>?_);refine jf (λ(s6:Bool)=>s6=false->y5.1.jQ=jQ) (λk7 T=>?_) (λs6 g=>?_)
 apply iR<;>intro h21
 exact T _ af
 refine lI (λh22=>?_) (λh22=>?_)
 exact T _ af
 apply iJ<;>intro h23
 refine lI (λh24=>?_) (λh24=>?_)
 exact T _ af
 refine mM ae ae (λx9 h25=>?_);refine iO (J3 _ _ ax) (λy10 h26=>?_);exact T _ af
 refine mM ae ae (λx11 h27=>?_);refine iO (J3 _ _ ax) (λy12 h28=>?_);exact T _ af
 apply iR<;>intro h29
 exact gQ
 have hf30:=g h29;have h31:jq R 1=R+1:=lN ai ai;exact I _ ⟨ae,ae⟩ ae
 (try simp only[iV] at J)
 exact iK trivial
theorem FT (s:iT)(U:kQ s):Ok (λr=>True) (Fa s):=by
 unfold Fa;have z1:=((U).1).1;have z2:=((U).1).2;have z3:=((U).2.1).1;have z4:=((U).2.2.1).1;have z5:=((U).2.2.2.1).1;have z6:=((U).2.2.2.2.1).1;have z7:=((U).2.2.2.2.1).2;have z8:=((U).2.2.2.2.2.1).1;have z9:=((U).2.2.2.2.2.1).2;have z10:=((U).2.2.2.2.2.2.1).1;have z11:=((U).2.2.2.2.2.2.1).2;have z12:=((U).2.2.2.2.2.2.2).1;refine iO (mV _ _ _ ) (λy1 h13=>?_);apply iR<;>intro h14
 exact gQ
 refine kW (λ(J:Int)=>0<=J/\J<=(s.ji.length:Int)) (λ(J:Int)=>((s.ji.length:Int)-J).toNat) ⟨ae,ae⟩ ak (λJ k3 g hk16=>?_);obtain⟨hI15_0,hI15_1⟩:=g;unfold Ij;apply iJ<;>intro C
 (try simp only[iV] at C)
 refine mM ae ae (λx5 h18=>?_);have I:AA x5:=z2 x5 h18;have z20:=((I).1).1;have z21:=((I).2.1).1;have z22:=((I).2.2).1;refine jf (λ(s6:Bool)=>True) (λk7 T=>?_) (λs6 hs24=>?_)
 refine iO (mV _ _ _ ) (λy9 h25=>?_);apply iR<;>intro h26
 exact T _ trivial
 refine iO (mV _ _ _ ) (λy10 h27=>?_);apply iR<;>intro h28
 exact T _ trivial
 refine iO (mV _ _ _ ) (λy11 h29=>?_);apply iR<;>intro h30
 exact T _ trivial
 refine iO (YV _ ) (λy12 h31=>?_);exact T _ trivial
 apply iR<;>intro h32
 exact gQ
 refine jf (λ(s13:Bool)=>True) (λk14 R=>?_) (λs13 hs34=>?_)
 refine iO (Cf _ _ _ _ au ax) (λy16 h35=>?_);apply iR<;>intro h36
 exact R _ trivial
 refine iO (Cf _ _ _ _ au ax) (λy17 h37=>?_);apply iR<;>intro h38
 exact R _ trivial
 refine iO (Cf _ _ _ _ au ax) (λy18 h39=>?_);exact R _ trivial
 apply iR<;>intro h40
 exact gQ
 have h41:jq J 1=J+1:=lN ai ai;exact hk16 _ ⟨ae,ae⟩ ae
 (try simp only[iV] at C)
 refine iO (Cf _ _ _ _ au ax) (λy19 h42=>?_);apply iR<;>intro h43
 refine iO (Cf _ _ _ _ au ax) (λy20 h44=>?_);exact iK trivial
 exact gQ
theorem aeo (c:UQ Int)  : Ok (λr=>True) (Yb c):=by
 unfold Yb;refine kW (λ(U:Int)=>0<=U/\U<=3) (λ(U:Int)=>(3-U).toNat) ⟨ae,ae⟩ ak (λU k2 J T=>?_);obtain⟨R,I⟩:=J;unfold U5;apply iJ<;>intro h3
 refine jf (λ(g:Bool)=>True) (λk5 hk4=>?_) (λg hs5=>?_)
 refine DX ae ae (λj7 h6=>?_)
 split
 apply iJ<;>intro h7
 exact gV
 refine DX ae ae (λj8 h8=>?_)
 split
 exact gV
 exact gV
 exact gV
 apply iJ<;>intro h9
 exact gV
 refine DX ae ae (λj9 h10=>?_)
 split
 exact gV
 exact gV
 exact gV
 apply iJ<;>intro h11
 exact gV
 refine DX ae ae (λj10 h12=>?_)
 split
 exact gV
 exact gV
 exact gV
 apply iR<;>intro C
 exact gQ
 have h14:jq U 1=U+1:=lN ai ai;exact T _ ⟨ae,ae⟩ ae
 exact gQ
theorem abh (o:iW)  : Ok (λr=>True) (Px o):=by
 unfold Px;exact iK trivial
theorem YX (o:iW)  : Ok (λr=>True) (Lh o):=by
 unfold Lh;exact iK trivial
theorem RG (o:iW)(cards:Int)(ji:Int)  : Ok (λr=>True) (Py o cards ji):=by
 unfold Py;refine jf (λ(s1:Bool)=>s1=false->¬(cards<=o.card)/\¬(o.card<0)/\¬(o.control<0)/\¬(o.id<1)/\¬(o.owner<0)/\¬(o.jQ<0)/\¬(ji<=o.control)/\¬(ji<=o.owner)/\¬(5<o.jQ)) (λk2 T=>?_) (λs1 hs2=>?_)
 apply iJ<;>intro h3
 exact T _ af
 apply iJ<;>intro h4
 exact T _ af
 apply iJ<;>intro h5
 exact T _ af
 apply iJ<;>intro h6
 exact T _ af
 apply iJ<;>intro h7
 exact T _ af
 apply iJ<;>intro h8
 exact T _ af
 apply iJ<;>intro h9
 exact T _ af
 apply iJ<;>intro h10
 exact T _ af
 exact T _ af
 apply iR<;>intro g
 exact gQ
 have hf12:=hs2 g;refine jf (λ(s4:Bool)=>s4=false->¬(1000000<o.blocks)/\¬(1000000<o.zn)/\¬(1000000<o.stamp)/\¬(o.blocks<0)/\¬(o.zn<0)/\¬(o.FK<0)/\¬(o.stamp<0)/\¬(1000000<o.FK)) (λk5 U=>?_) (λs4 J=>?_)
 apply iJ<;>intro h15
 exact U _ af
 apply iJ<;>intro h16
 exact U _ af
 apply iJ<;>intro h17
 exact U _ af
 apply iJ<;>intro h18
 exact U _ af
 apply iJ<;>intro h19
 exact U _ af
 apply iJ<;>intro h20
 exact U _ af
 apply iJ<;>intro h21
 exact U _ af
 exact U _ af
 apply iR<;>intro C
 exact gQ
 have hf23:=J C;refine jf (λ(s7:Bool)=>s7=false->¬(cards<=o.copy)/\¬(o.lG<(-1))/\¬(o.copy<(-1))/\¬(ji<=o.lG)) (λk8 R=>?_) (λs7 I=>?_)
 refine iO (aeo _ ) (λy10 h26=>?_);apply iR<;>intro h27
 exact R _ af
 apply iJ<;>intro h28
 exact R _ af
 apply iJ<;>intro h29
 exact R _ af
 apply iJ<;>intro h30
 exact R _ af
 exact R _ af
 apply iR<;>intro h31
 exact gQ
 have hf32:=I h31;apply iJ<;>intro h33
 exact gQ
 refine iO (abh _ ) (λy11 h34=>?_);refine nO (λv12 h35=>?_);apply iR<;>intro h36
 refine iO (YX _ ) (λy13 h37=>?_);refine nO (λv14 h38=>?_);apply iR<;>intro h39
 apply iR<;>intro h40
 apply iR<;>intro h41
 refine nO (λv15 h42=>?_);exact iK trivial
 exact gQ
 exact gQ
 exact gQ
 exact gQ
theorem Yk (s:iT)(id:Int)(U:kQ s):Ok (λr=>True) (Ik s id):=by
 unfold Ik;have z1:=((U).1).1;have z2:=((U).1).2;have z3:=((U).2.1).1;have z4:=((U).2.2.1).1;have z5:=((U).2.2.2.1).1;have z6:=((U).2.2.2.2.1).1;have z7:=((U).2.2.2.2.1).2;have z8:=((U).2.2.2.2.2.1).1;have z9:=((U).2.2.2.2.2.1).2;have z10:=((U).2.2.2.2.2.2.1).1;have z11:=((U).2.2.2.2.2.2.1).2;have z12:=((U).2.2.2.2.2.2.2).1;refine kW (λ(J:Int×Int)=>0<=J.2/\J.2<=(s.stack.length:Int)) (λ(J:Int×Int)=>((s.stack.length:Int)-J.2).toNat) ⟨ae,ae⟩ ak (λJ k2 C g=>?_);obtain⟨hI13_0,hI13_1⟩:=C;unfold JS;apply iJ<;>intro I
 (try simp only[iV] at I)
 refine jf (λ(s4:Int)=>True) (λk5 R=>?_) (λs4 hs17=>?_)
 refine jf (λ(s7:Bool)=>True) (λk8 T=>?_) (λs7 hs19=>?_)
 refine mM ae ae (λx10 h20=>?_);have z21:EF x10:=z7 x10 h20;have z22:=(z21).1;have z23:=((z21).1).1;have z24:x10.jd.filter.sub.size<=1048576:=(((z21).1).1);have z25:=(((z21).1).2.1).1;have z26:=(((z21).1).2.1).2;have z27:=((z21).1).2.2.1;have z28:=(((z21).1).2.2.1);have z29:x10.jd.jg.filter.sub.size<=1048576:=((((z21).1).2.2.1));have z30:=(((z21).1).2.2.2.1).1;have z31:=(((z21).1).2.2.2.1).2;have z32:=(((z21).1).2.2.2.2.1).1;have z33:=(((z21).1).2.2.2.2.1).2;have z34:=((z21).1).2.2.2.2.2;have z35:=(((z21).1).2.2.2.2.2);have z36:x10.jd.replace.filter.sub.size<=1048576:=((((z21).1).2.2.2.2.2));have z37:=((z21).2).1;apply iJ<;>intro h38
 refine mM ae ae (λx11 h39=>?_);have z40:EF x11:=z7 x11 h39;have z41:=(z40).1;have z42:=((z40).1).1;have z43:x11.jd.filter.sub.size<=1048576:=(((z40).1).1);have z44:=(((z40).1).2.1).1;have z45:=(((z40).1).2.1).2;have z46:=((z40).1).2.2.1;have z47:=(((z40).1).2.2.1);have z48:x11.jd.jg.filter.sub.size<=1048576:=((((z40).1).2.2.1));have z49:=(((z40).1).2.2.2.1).1;have z50:=(((z40).1).2.2.2.1).2;have z51:=(((z40).1).2.2.2.2.1).1;have z52:=(((z40).1).2.2.2.2.1).2;have z53:=((z40).1).2.2.2.2.2;have z54:=(((z40).1).2.2.2.2.2);have z55:x11.jd.replace.filter.sub.size<=1048576:=((((z40).1).2.2.2.2.2));have z56:=((z40).2).1;exact T _ trivial
 exact T _ trivial
 apply iR<;>intro h57
 exact R _ trivial
 exact R _ trivial
 have h58:jq J.2 1=J.2+1:=lN ai ai;exact g _ ⟨ae,ae⟩ ae
 (try simp only[iV] at I)
 exact iK trivial
theorem abj (s:iT)(jQ:Int)(l9:Int)(U:kQ s):Ok (λr=>r.length<=1048576) (Pz s jQ l9):=by
 unfold Pz;have z1:=((U).1).1;have z2:=((U).1).2;have z3:=((U).2.1).1;have z4:=((U).2.2.1).1;have z5:=((U).2.2.2.1).1;have z6:=((U).2.2.2.2.1).1;have z7:=((U).2.2.2.2.1).2;have z8:=((U).2.2.2.2.2.1).1;have z9:=((U).2.2.2.2.2.1).2;have z10:=((U).2.2.2.2.2.2.1).1;have z11:=((U).2.2.2.2.2.2.1).2;have z12:=((U).2.2.2.2.2.2.2).1;apply iJ<;>intro h13
 refine iO (Cb _ ax) (λy1 h14=>?_);exact iK aZ
 apply iJ<;>intro h15
 refine iO (Cb _ ax) (λy2 h16=>?_);exact iK aZ
 refine jf (λ(s3:Bool)=>s3=false->¬(l9<0)/\¬((s.ji.length:Int)<=l9)) (λk4 T=>?_) (λs3 R=>?_)
 apply iJ<;>intro h19
 exact T _ af
 exact T _ af
 apply iR<;>intro I
 exact iK aZ
 have hf21:=R I;apply iJ<;>intro h22
 refine mM ae ae (λx6 g=>?_);have z24:AA x6:=z2 x6 g;have z25:=((z24).1).1;have z26:=((z24).2.1).1;have z27:=((z24).2.2).1;refine iO (Cb _ ax) (λy7 h28=>?_);exact iK aZ
 apply iJ<;>intro h29
 refine mM ae ae (λx8 J=>?_);have z31:AA x8:=z2 x8 J;have z32:=((z31).1).1;have z33:=((z31).2.1).1;have z34:=((z31).2.2).1;refine iO (Cb _ ax) (λy9 h35=>?_);exact iK aZ
 apply iJ<;>intro h36
 refine mM ae ae (λx10 C=>?_);have z38:AA x10:=z2 x10 C;have z39:=((z38).1).1;have z40:=((z38).2.1).1;have z41:=((z38).2.2).1;refine iO (Cb _ ax) (λy11 h42=>?_);exact iK aZ
 exact iK aZ
theorem IA (s:iT)(o:iW)(U:kQ s):Ok (λr=>True) (Il s o):=by
 unfold Il;have z1:=((U).1).1;have z2:=((U).1).2;have z3:=((U).2.1).1;have z4:=((U).2.2.1).1;have z5:=((U).2.2.2.1).1;have z6:=((U).2.2.2.2.1).1;have z7:=((U).2.2.2.2.1).2;have z8:=((U).2.2.2.2.2.1).1;have z9:=((U).2.2.2.2.2.1).2;have z10:=((U).2.2.2.2.2.2.1).1;have z11:=((U).2.2.2.2.2.2.1).2;have z12:=((U).2.2.2.2.2.2.2).1;apply iJ<;>intro T
 refine iO (Yk _ _ au) (λy1 R=>?_);exact iK trivial
 refine iO (abj _ _ _ au) (λC J=>?_);refine iO (J3 _ _ ax) (λy3 I=>?_);exact iK trivial
theorem Oa (cards:List jI)(s:iT)(T:(rO mY) cards)(U:kQ s):Ok (λr=>True) (sG cards s):=by
 unfold sG;have z1:=(T).1;have z2:=(T).2;have z3:=((U).1).1;have z4:=((U).1).2;have z5:=((U).2.1).1;have z6:=((U).2.2.1).1;have z7:=((U).2.2.2.1).1;have z8:=((U).2.2.2.2.1).1;have z9:=((U).2.2.2.2.1).2;have z10:=((U).2.2.2.2.2.1).1;have z11:=((U).2.2.2.2.2.1).2;have z12:=((U).2.2.2.2.2.2.1).1;have z13:=((U).2.2.2.2.2.2.1).2;have z14:=((U).2.2.2.2.2.2.2).1;apply iJ<;>intro C
 (try simp only[iV] at C)
 exact iK trivial
 (try simp only[iV] at C)
 refine kW (λ(R:Int)=>0<=R/\R<=(s.objects.length:Int)) (λ(R:Int)=>((s.objects.length:Int)-R).toNat) ⟨ae,ae⟩ ak (λR k2 I J=>?_);obtain⟨hI16_0,hI16_1⟩:=I;unfold tC;apply iJ<;>intro h18
 (try simp only[iV] at h18)
 refine mM ae ae (λx4 h19=>?_);refine jf (λ(s5:Bool)=>s5=false->¬(s.nextId<=x4.id)/\¬(s.nH<=x4.stamp)) (λk6 hk20=>?_) (λs5 g=>?_)
 refine iO (RG _ _ _ ) (λy8 h22=>?_);apply iR<;>intro h23
 exact gX
 apply iJ<;>intro h24
 exact gX
 apply iJ<;>intro h25
 exact gX
 apply iJ<;>intro h26
 have h27:jS R 1=R-1:=qW bn bn;refine mM ae ae (λx9 h28=>?_);exact hk20 _ af
 exact gX
 apply iR<;>intro h29
 exact gQ
 have hf30:=g h29;refine iO (IA _ _ au) (λy10 h31=>?_);apply iR<;>intro h32
 exact gQ
 have h33:jq R 1=R+1:=lN ai ai;exact J _ ⟨ae,ae⟩ ae
 (try simp only[iV] at h18)
 exact iK trivial
theorem abk (s:iT)(x:ou)(T:kQ s)(U:EF x):Ok (λr=>True) (PH s x):=by
 unfold PH;have z1:=((T).1).1;have z2:=((T).1).2;have z3:=((T).2.1).1;have z4:=((T).2.2.1).1;have z5:=((T).2.2.2.1).1;have z6:=((T).2.2.2.2.1).1;have z7:=((T).2.2.2.2.1).2;have z8:=((T).2.2.2.2.2.1).1;have z9:=((T).2.2.2.2.2.1).2;have z10:=((T).2.2.2.2.2.2.1).1;have z11:=((T).2.2.2.2.2.2.1).2;have z12:=((T).2.2.2.2.2.2.2).1;have z13:=(U).1;have z14:=((U).1).1;have z15:x.jd.filter.sub.size<=1048576:=(((U).1).1);have z16:=(((U).1).2.1).1;have z17:=(((U).1).2.1).2;have z18:=((U).1).2.2.1;have z19:=(((U).1).2.2.1);have z20:x.jd.jg.filter.sub.size<=1048576:=((((U).1).2.2.1));have z21:=(((U).1).2.2.2.1).1;have z22:=(((U).1).2.2.2.1).2;have z23:=(((U).1).2.2.2.2.1).1;have z24:=(((U).1).2.2.2.2.1).2;have z25:=((U).1).2.2.2.2.2;have z26:=(((U).1).2.2.2.2.2);have z27:x.jd.replace.filter.sub.size<=1048576:=((((U).1).2.2.2.2.2));have z28:=((U).2).1;refine jf (λ(s1:Bool)=>s1=false->¬(4<(x.targets.length:Int))) (λk2 J=>?_) (λs1 C=>?_)
 refine iO (mV _ _ _ ) (λy4 h31=>?_);apply iR<;>intro h32
 exact J _ af
 refine iO (mV _ _ _ ) (λy5 h33=>?_);apply iR<;>intro h34
 exact J _ af
 apply iJ<;>intro I
 (try simp only[iV] at I)
 exact J _ af
 (try simp only[iV] at I)
 refine iO (oU _ _ au) (λy6 h36=>?_);exact J _ af
 apply iR<;>intro g
 exact gQ
 have hf38:=C g;refine iO (PQ _ _ au) (λy7 h39=>?_);apply iJ<;>intro h40
 refine iO (aa3 _ _ aO aa1) (λy8 h41=>?_);refine jf (λ(s9:Bool)=>True) (λk10 R=>?_) (λs9 hs43=>?_)
 apply iJ<;>intro h44
 apply iR<;>intro h45
 apply iJ<;>intro h46
 apply iR<;>intro h47
 exact R _ trivial
 refine iO (NH _ aO) (λy12 h48=>?_);exact R _ trivial
 exact R _ trivial
 exact R _ trivial
 exact R _ trivial
 exact gQ
 apply iJ<;>intro h49
 apply iR<;>intro h50
 refine iO (NH _ aO) (λy13 h51=>?_);exact iK trivial
 exact gQ
 exact gQ
theorem aep (l:List Int)(T:(rO (λ(_:Int)=>True)) l):Ok (λr=>True) (Yc l):=by
 unfold Yc;have z1:=(T).1;refine kW (λ(U:Int)=>1<=U) (λ(U:Int)=>((l.length:Int)-U).toNat) ae ak (λU k2 I R=>?_);unfold U6;apply iJ<;>intro J
 (try simp only[iV] at J)
 have h5:jS U 1=U-1:=qW bn bn;refine mM ae ae (λx4 C=>?_);refine mM ae ae (λx5 h7=>?_);apply iJ<;>intro g
 exact gQ
 have h9:jq U 1=U+1:=lN ai ai;exact R _ ae ae
 (try simp only[iV] at J)
 exact iK trivial
theorem J4 (s:iT)(U:kQ s):Ok (λr=>True) (Lj s):=by
 unfold Lj;have z1:=((U).1).1;have z2:=((U).1).2;have z3:=((U).2.1).1;have z4:=((U).2.2.1).1;have z5:=((U).2.2.2.1).1;have z6:=((U).2.2.2.2.1).1;have z7:=((U).2.2.2.2.1).2;have z8:=((U).2.2.2.2.2.1).1;have z9:=((U).2.2.2.2.2.1).2;have z10:=((U).2.2.2.2.2.2.1).1;have z11:=((U).2.2.2.2.2.2.1).2;have z12:=((U).2.2.2.2.2.2.2).1;refine jf (λ(s1:Bool)=>s1=false->¬(64<(s.stack.length:Int))/\¬(64<(s.waiting.length:Int))/\¬(64<(s.oq.length:Int))) (λk2 g=>?_) (λs1 hs14=>?_)
 apply iJ<;>intro h15
 (try simp only[iV] at h15)
 exact g _ af
 (try simp only[iV] at h15)
 apply iJ<;>intro h16
 (try simp only[iV] at h16)
 exact g _ af
 (try simp only[iV] at h16)
 exact g _ af
 apply iR<;>intro h17
 exact gQ
 have hf18:=hs14 h17;refine kW (λ(s4:Int)=>0<=s4/\s4<=(s.stack.length:Int)) (λ(s4:Int)=>((s.stack.length:Int)-s4).toNat) ⟨ae,ae⟩ ak (λs4 k5 hI19 hk20=>?_);obtain⟨hI19_0,hI19_1⟩:=hI19;unfold Nv;apply iJ<;>intro h21
 (try simp only[iV] at h21)
 refine mM ae ae (λx7 h22=>?_);have z23:EF x7:=z7 x7 h22;have z24:=(z23).1;have z25:=((z23).1).1;have z26:x7.jd.filter.sub.size<=1048576:=(((z23).1).1);have z27:=(((z23).1).2.1).1;have z28:=(((z23).1).2.1).2;have z29:=((z23).1).2.2.1;have z30:=(((z23).1).2.2.1);have z31:x7.jd.jg.filter.sub.size<=1048576:=((((z23).1).2.2.1));have z32:=(((z23).1).2.2.2.1).1;have z33:=(((z23).1).2.2.2.1).2;have z34:=(((z23).1).2.2.2.2.1).1;have z35:=(((z23).1).2.2.2.2.1).2;have z36:=((z23).1).2.2.2.2.2;have z37:=(((z23).1).2.2.2.2.2);have z38:x7.jd.replace.filter.sub.size<=1048576:=((((z23).1).2.2.2.2.2));have z39:=((z23).2).1;refine iO (abk _ _ au (by first|assumption|(refine⟨by omega,?_⟩;first|(intro _ _;trivial)|assumption)|(unfold EF;simp_all[Me,rO]))) (λy8 h40=>?_);apply iR<;>intro h41
 exact gQ
 refine kW (λ(s9:Int)=>0<=s9) (λ(s9:Int)=>(s4-s9).toNat) ae ak (λs9 k10 hI42 hk43=>?_);unfold Nr;apply iJ<;>intro h44
 refine mM ae ae (λx12 h45=>?_);have z46:EF x12:=z7 x12 h45;have z47:=(z46).1;have z48:=((z46).1).1;have z49:x12.jd.filter.sub.size<=1048576:=(((z46).1).1);have z50:=(((z46).1).2.1).1;have z51:=(((z46).1).2.1).2;have z52:=((z46).1).2.2.1;have z53:=(((z46).1).2.2.1);have z54:x12.jd.jg.filter.sub.size<=1048576:=((((z46).1).2.2.1));have z55:=(((z46).1).2.2.2.1).1;have z56:=(((z46).1).2.2.2.1).2;have z57:=(((z46).1).2.2.2.2.1).1;have z58:=(((z46).1).2.2.2.2.1).2;have z59:=((z46).1).2.2.2.2.2;have z60:=(((z46).1).2.2.2.2.2);have z61:x12.jd.replace.filter.sub.size<=1048576:=((((z46).1).2.2.2.2.2));have z62:=((z46).2).1;refine mM ae ae (λx13 h63=>?_);have z64:EF x13:=z7 x13 h63;have z65:=(z64).1;have z66:=((z64).1).1;have z67:x13.jd.filter.sub.size<=1048576:=(((z64).1).1);have z68:=(((z64).1).2.1).1;have z69:=(((z64).1).2.1).2;have z70:=((z64).1).2.2.1;have z71:=(((z64).1).2.2.1);have z72:x13.jd.jg.filter.sub.size<=1048576:=((((z64).1).2.2.1));have z73:=(((z64).1).2.2.2.1).1;have z74:=(((z64).1).2.2.2.1).2;have z75:=(((z64).1).2.2.2.2.1).1;have z76:=(((z64).1).2.2.2.2.1).2;have z77:=((z64).1).2.2.2.2.2;have z78:=(((z64).1).2.2.2.2.2);have z79:x13.jd.replace.filter.sub.size<=1048576:=((((z64).1).2.2.2.2.2));have z80:=((z64).2).1;apply iJ<;>intro h81
 exact gQ
 have h82:jq s9 1=s9+1:=lN ai ai;exact hk43 _ ae ae
 have h83:jq s4 1=s4+1:=lN ai ai;exact hk20 _ ⟨ae,ae⟩ ae
 (try simp only[iV] at h21)
 refine kW (λ(J:Int)=>0<=J/\J<=(s.waiting.length:Int)) (λ(J:Int)=>((s.waiting.length:Int)-J).toNat) ⟨ae,ae⟩ ak (λJ k15 hI84 hk85=>?_);obtain⟨hI84_0,hI84_1⟩:=hI84;unfold Nu;apply iJ<;>intro h86
 (try simp only[iV] at h86)
 refine mM ae ae (λx17 h87=>?_);have T:ND x17:=z9 x17 h87;have z89:=(T);have z90:=((T)).1;have z91:x17.jd.filter.sub.size<=1048576:=(((T)).1);have z92:=(((T)).2.1).1;have z93:=(((T)).2.1).2;have z94:=((T)).2.2.1;have z95:=(((T)).2.2.1);have z96:x17.jd.jg.filter.sub.size<=1048576:=((((T)).2.2.1));have z97:=(((T)).2.2.2.1).1;have z98:=(((T)).2.2.2.1).2;have z99:=(((T)).2.2.2.2.1).1;have z100:=(((T)).2.2.2.2.1).2;have z101:=((T)).2.2.2.2.2;have z102:=(((T)).2.2.2.2.2);have z103:x17.jd.replace.filter.sub.size<=1048576:=((((T)).2.2.2.2.2));refine jf (λ(s18:Bool)=>s18=false->x17.jd.kind=4) (λk19 I=>?_) (λs18 hs105=>?_)
 refine iO (oU _ _ au) (λy21 h106=>?_);apply iR<;>intro h107
 exact I _ af
 refine lI (λh108=>?_) (λh108=>?_)
 exact I _ af
 refine iO (NH _ aO) (λy22 h109=>?_);exact I _ af
 apply iR<;>intro h110
 exact gQ
 have hf111:=hs105 h110;have h112:jq J 1=J+1:=lN ai ai;exact hk85 _ ⟨ae,ae⟩ ae
 (try simp only[iV] at h86)
 refine kW (λ(C:Int)=>0<=C/\C<=(s.oq.length:Int)) (λ(C:Int)=>((s.oq.length:Int)-C).toNat) ⟨ae,ae⟩ ak (λC k24 hI113 hk114=>?_);obtain⟨hI113_0,hI113_1⟩:=hI113;unfold Ns;apply iJ<;>intro h115
 (try simp only[iV] at h115)
 refine mM ae ae (λx26 h116=>?_);have z117:WG x26:=z11 x26 h116;have z118:=((z117).1).1;have z119:=((z117).2).1;have z120:=((z117).2).2;refine jf (λ(s27:Bool)=>s27=false->¬(s.nH<=x26.stamp)) (λk28 R=>?_) (λs27 hs122=>?_)
 refine iO (oU _ _ au) (λy30 h123=>?_);apply iR<;>intro h124
 exact R _ af
 apply iJ<;>intro h125
 exact R _ af
 refine iO (mV _ _ _ ) (λy31 h126=>?_);apply iR<;>intro h127
 exact R _ af
 refine iO (aep _ ax) (λy32 h128=>?_);apply iR<;>intro h129
 exact R _ af
 refine iO (D5 _ ax) (λy33 h130=>?_);exact R _ af
 apply iR<;>intro h131
 exact gQ
 have hf132:=hs122 h131;have h133:jq C 1=C+1:=lN ai ai;exact hk114 _ ⟨ae,ae⟩ ae
 (try simp only[iV] at h115)
 exact iK trivial
theorem LP:∀ (a l:List Int),a.Nodup->(∀ x∈a,x∈l)->a.length<=l.length
 | [],_,_,_=>by simp
 | x::a,l,h,hs=>by
  have h1:x∈l:=hs x aI;rw[List.nodup_cons] at h
  have:=LP a (l.erase x) h.2 λy hy=>by
   have U:y≠x:=λe=>h.1 (e ▸ hy);exact (List.mem_erase_of_ne U).2 (hs y (by simp[hy]))
  rw[List.length_erase_of_mem h1] at this;have:=List.length_pos_of_mem h1;simp only[List.length_cons];omega
theorem mr {α:Type}(l:List α)(n:Nat)(h:n<l.length):l.take (n+1)=l.take n++[l[n]]:=by
 rw[List.take_succ,List.getElem?_eq_getElem h];rfl
theorem qf {α:Type}(l:List α):l.take l.length=l:=List.take_of_length_le (Nat.le_refl _)
theorem aeq (s:List Int)(v:Int)(hs:s.length<4000000):NC s v=some (decide (v∈s)):=by
 unfold NC;refine ok_eq (lH 0 s.length (λn=>v ∉ s.take n) 0 rfl (Nat.zero_le _) ai aI ?_ ?_)
 intro i k hi hI hk;unfold Nz;refine iJ (λ_=>jl i rfl hi (iJ (λe=>?_) λe=>hk ?_)) λh=>absurd (show (i:Int)<(s.length:Int) by omega) h
 have:v∈s:=e ▸ List.getElem_mem hi;exact iK (by simp[this])
 rw[mr s i hi];simp only[List.mem_append,List.mem_singleton];exact λh=>h.elim hI λh=>e h.symm
 intro k hI;unfold Nz;rw[qf] at hI;refine iJ (λh=>absurd h (by show ¬ (s.length:Int)<(s.length:Int);omega)) λ_=>iK (by simp[hI])
def QN (acc:List Int)(x:Int):List Int:=if 0<=x/\x ∉ acc then acc++[x] else acc
def elF (l:List Int):List Int:=l.foldl QN []
theorem aiI (l:List Int)(i:Nat)(hi:i<l.length):elF (l.take (i+1))=QN (elF (l.take i)) l[i]:=by
 rw[mr l i hi];unfold elF;rw[List.foldl_append];rfl
theorem afC:∀ (l acc:List Int),(l.foldl QN acc).length<=acc.length+l.length
 | [],acc=>by simp
 | x::l,acc=>by
  have:=afC l (QN acc x);simp only[List.foldl_cons,List.length_cons];have h2:(QN acc x).length<=acc.length+1:=by unfold QN;split<;>simp
  omega
theorem Z4:∀ (l acc:List Int),acc.Nodup->(l.foldl QN acc).Nodup
 | [],acc,h=>h
 | x::l,acc,h=>by
  simp only[List.foldl_cons];refine Z4 l _ ?_;unfold QN;split
  rename_i h2;rw[List.nodup_append];exact⟨h,by simp,λa U b hb e=>by simp only[List.mem_singleton] at hb;subst hb;subst e;exact h2.2 U⟩
  exact h
theorem afD:∀ (l acc:List Int) (x:Int),x∈l.foldl QN acc↔x∈acc\/(x∈l/\0<=x)
 | [],acc,x=>by simp
 | y::l,acc,x=>by
  simp only[List.foldl_cons,afD l,List.mem_cons];unfold QN;split
  rename_i h;simp only[List.mem_append,List.mem_singleton];constructor
  rintro ((h1|h1)|h1)
  exact .inl h1
  exact .inr ⟨.inl h1,h1 ▸ h.1⟩
  exact .inr ⟨.inr h1.1,h1.2⟩
  rintro (h1|⟨h1|h1,h2⟩)
  exact .inl (.inl h1)
  exact .inl (.inr h1)
  exact .inr ⟨h1,h2⟩
  rename_i h;constructor
  rintro (h1|h1)
  exact .inl h1
  exact .inr ⟨.inr h1.1,h1.2⟩
  rintro (h1|⟨h1|h1,h2⟩)
  exact .inl h1
  subst h1;refine .inl (Classical.byContradiction λU=>h ⟨h2,U⟩)
  exact .inr ⟨h1,h2⟩
theorem aer (l:List Int):(elF l).length<=l.length:=by have:=afC l [];simpa [elF] using this
theorem aiJ (l:List Int):(elF l).Nodup:=Z4 l [] aI
theorem aiK (l:List Int)(x:Int):x∈elF l↔x∈l/\0<=x:=by have:=afD l [] x;simpa [elF] using this
theorem akU (l:List Int)(h:l.Nodup)(h0:∀ x∈l,0<=x):elF l=l:=by
 have:∀ (l acc:List Int),(acc++l).Nodup->(∀ x∈l,0<=x)->l.foldl QN acc=acc++l:=by
  intro l
  induction l with
  | nil=>intro acc _ _;simp
  | cons x l ih =>
   intro acc h h0
   have h1:x ∉ acc:=λhx=>by
    rw[List.nodup_append] at h;exact h.2.2 x hx x aI rfl
   have:QN acc x=acc++[x]:=by unfold QN;rw[if_pos ⟨h0 x aI,h1⟩]
   rw[List.foldl_cons,this,ih _ bH λy hy=>h0 y (by simp[hy])];simp
 exact (this l [] bH h0).trans aI
theorem abl (l:List Int)(J:l.length<=2000000):BP l=some (elF l):=by
 unfold BP;refine ok_eq (lK 0 l.length (λn t=>t=elF (l.take n)) 0 rfl (Nat.zero_le _) ai (by simp[elF]) ?_ ?_)
 rintro i t k hi hI hk
 have hlen:t.length<=2000000:=by have:=aer (l.take i);rw[<- hI] at this;simp at this;omega
 unfold zL;refine iJ (λ_=>jf (λs=>s=QN t l[i]) ?_ λs hs=>hk s (by rw[aiI l i hi,<- hI];exact hs)) λh=>absurd (show (i:Int)<(l.length:Int) by omega) h;intro k5 T;refine jf (λs=>s=decide (0<=l[i]/\l[i] ∉ t)) ?_ ?_
 intro R U;refine jl i rfl hi (iJ (λh0=>jl i rfl hi (iU (aeq t _ ai) (U _ ?_))) λh0=>U _ ?_)
 by_cases hx:l[i]∈t<;>simp[hx,h0]
 simp[h0]
 rintro s rfl
 refine iJ (λh=>jl i rfl hi (jG aV aX (T _ (by unfold QN;rw[if_pos h])))) λh=>T _ (by unfold QN;rw[if_neg h])
 rintro t k hI
 unfold zL;rw[qf] at hI;refine iJ (λh=>absurd h aB) λ_=>iK hI
def nd (needs:List (List Bool))(i j:Int):Bool:=decide (0<=i)&&(decide (0<=j)&&((needs[i.toNat]?.bind λr=>r[j.toNat]?).getD false))
theorem abm (needs:List (List Bool))(i j:Int)(hi:0<=i)(hj:0<=j):Iu needs i j=some (nd needs i j):=by
 obtain⟨a,rfl⟩:=Int.eq_ofNat_of_zero_le hi;obtain⟨b,rfl⟩:=Int.eq_ofNat_of_zero_le hj;unfold Iu nd;refine ok_eq (iJ (λh=>?_) λh=>?_)
 have U:a<needs.length:=by unfold iV at h;omega
 refine jl a rfl U (iJ (λh2=>?_) λh2=>?_)
 have hb:b<(needs[a]).length:=by unfold iV at h2;omega
 exact jl a rfl U (jl b rfl hb (iK (by simp[U,hb])))
 have hb:(needs[a]).length<=b:=by unfold iV at h2;omega
 exact iK (by simp[U,List.getElem?_eq_none hb])
 have U:needs.length<=a:=by unfold iV at h;omega
 exact iK (by simp[List.getElem?_eq_none U])
inductive TC (l:List Int) (needs:List (List Bool)):Int->Int->Prop
 | one (i j:Int):i∈l->j∈l->nd needs i j=true->TC l needs i j
 | step (i k j:Int):i∈l->k∈l->nd needs i k=true->TC l needs k j->TC l needs i j
theorem TC.r {l:List Int}{needs:List (List Bool)}{i j:Int}(h:TC l needs i j):j∈l:=by
 induction h with
 | one _ _ _ h _=>exact h
 | step _ _ _ _ _ _ _ U=>exact U
theorem TC.l {l:List Int}{needs:List (List Bool)}{i j:Int}(h:TC l needs i j):i∈l:=by
 cases h with
 | one _ _ h _ _=>exact h
 | step _ _ _ h _ _ _=>exact h
theorem TC.trans {l:List Int}{needs:List (List Bool)}{i j k:Int}(h:TC l needs i j)(h2:TC l needs j k):TC l needs i k:=by
 induction h with
 | one _ _ a b c=>exact .step _ _ _ a b c h2
 | step _ _ _ a b c _ U=>exact .step _ _ _ a b c (U h2)
theorem TC.congr {l l' : List Int}{needs:List (List Bool)}(U:∀ x,x∈l->x∈l'){i j:Int}(h:TC l needs i j):TC l' needs i j:=by
 induction h with
 | one _ _ a b c=>exact .one _ _ (U _ a) (U _ b) c
 | step _ _ _ a b c _ T=>exact .step _ _ _ (U _ a) (U _ b) c T
theorem aes (l:List Int)(needs:List (List Bool))(i:Int)(hl:l.length<=2000000)(hn:l.Nodup)(h0:∀ x∈l,0<=x)(hi:i∈l) :
  Ok (λr=>r.length<=2000000/\∀ x,x∈r↔TC l needs i x) (Fh l needs i):=by
 unfold Fh;refine lK 0 l.length (λn t=>t=(l.take n).filter (nd needs i)) 0 rfl (Nat.zero_le _) ai aI ?_ ?_
 rintro a t k ha hI hk
 have hlen:t.length<=2000000:=by have:=List.length_filter_le (nd needs i) (l.take a);rw[<- hI] at this;simp at this;omega
 have hs:(l.take (a+1)).filter (nd needs i)=t++(if nd needs i l[a]=true then [l[a]] else []):=by
  rw[mr l a ha,List.filter_append,<- hI];congr 1
  by_cases h:nd needs i l[a]=true<;>simp[h]
 unfold BR;refine iJ (λ_=>jf (λs=>s=(l.take (a+1)).filter (nd needs i)) ?_ λs hs=>hk s hs) λh=>absurd (show (a:Int)<(l.length:Int) by omega) h;intro k5 h5;refine jl a rfl ha (iU (abm _ _ _ (h0 i hi) (h0 _ (List.getElem_mem ha))) (iR (λh=>?_) λh=>?_))
 refine jl a rfl ha (jG aV aX (h5 _ ?_));rw[hs,if_pos h]
 refine h5 _ ?_;rw[hs,if_neg bu];simp
 rintro t k hI
 rw[qf] at hI;unfold BR;refine iJ (λh=>absurd h aB) λ_=>?_
 refine kW (λs=>∃ a:Nat,s.1=(a:Int)/\a<=s.2.length/\s.2.Nodup/\(∀ x∈s.2,TC l needs i x)/\(∀ x∈l,nd needs i x=true->x∈s.2)/\∀ m y,m<a->y∈l->(∀ z,s.2[m]?=some z->nd needs z y=true->y∈s.2))
  (λs=>2000001-s.1.toNat) ⟨0,rfl,Nat.zero_le _,?_,?_,?_,λm y h=>by omega⟩ (by show 2000001-_<18446744073709551616;omega) ?_
 subst hI;exact List.Pairwise.filter _ hn
 subst hI;intro x hx;rw[List.mem_filter] at hx;exact .one _ _ hi hx.1 hx.2
 subst hI;intro x hx h;rw[List.mem_filter];exact⟨hx,h⟩
 rintro⟨a',U⟩ k ⟨a,e,ha,hnd,J,R,T⟩ hk
 simp only at e ha hnd J R T;subst e;have hlen:U.length<=2000000:=Nat.le_trans (LP U l hnd λx hx=>(J x hx).r) hl;unfold Iw;refine iJ (λh=>?_) λh=>?_
 have C:a<U.length:=by simp only[iV] at h;omega
 refine lK 0 l.length (λn (u:List Int)=>u.Nodup/\(∀ x∈u,TC l needs i x)/\(∀ (m:Nat) (z:Int),U[m]?=some z->u[m]?=some z)/\(∀ x∈U,x∈u)/\∀ y∈l.take n,nd needs U[a] y=true->y∈u) 0 rfl (Nat.zero_le _) ai ⟨hnd,J,λ_ _ h=>h,λ_ h=>h,by simp⟩ ?_ ?_
 rintro b u k' hb ⟨hu1,hu2,hu3,hu4,hu5⟩ hk'
 have hulen:u.length<=2000000:=Nat.le_trans (LP u l hu1 λx hx=>(hu2 x hx).r) hl;have hua:u[a]?=some U[a]:=hu3 a _ (List.getElem?_eq_getElem C);have I:a<u.length:=by rw[List.getElem?_eq_some_iff] at hua;exact hua.1
 have hua3:u[a]=U[a]:=by rw[List.getElem?_eq_getElem I] at hua;exact Option.some.inj hua
 unfold BQ;refine iJ (λ_=>jf (λs=>s=if nd needs U[a] l[b]=true/\l[b] ∉ u then u++[l[b]] else u) ?_ λs hs=>hk' s ?_) λh=>absurd (show (b:Int)<(l.length:Int) by omega) h
 intro k17 h17;refine jf (λs=>s=decide (nd needs U[a] l[b]=true/\l[b] ∉ u)) ?_ ?_
 intro k20 h20;refine oJ a rfl I (oD I (jl b rfl hb ?_));rw[hua3];refine iU (abm _ _ _ (h0 _ (J _ (List.getElem_mem C)).r) (h0 _ (List.getElem_mem hb))) (iR (λh=>?_) λh=>?_)
 refine jl b rfl hb (iU (aeq u _ ai) (h20 _ ?_))
 by_cases hx:l[b]∈u<;>simp[hx,h]
 exact h20 _ bu
 rintro s rfl
 refine iJ (λh=>jl b rfl hb (jG (by show (2*(u.length+1)+192)*8<=_;omega) dQ (h17 _ (by rw[if_pos h])))) λh=>h17 _ (by rw[if_neg h])
 have hb2:∀ y∈l.take (b+1),y∈l.take b\/y=l[b]:=by intro y hy;rw[mr l b hb] at hy;exact (List.mem_append.1 hy).imp id List.mem_singleton.1
 by_cases h:nd needs U[a] l[b]=true/\l[b] ∉ u
 rw[if_pos h] at hs;subst hs;refine⟨?_,?_,?_,?_,?_⟩
 rw[List.nodup_append];exact⟨hu1,by simp,λx hx y hy e=>by simp only[List.mem_singleton] at hy;subst hy;subst e;exact h.2 hx⟩
 intro x hx;simp only[List.mem_append,List.mem_singleton] at hx;rcases hx with hx|hx
 exact hu2 x hx
 subst hx;have h1:=J _ (List.getElem_mem C);exact h1.trans (.one _ _ h1.r (List.getElem_mem hb) h.1)
 intro m z hm;have:=hu3 m z hm;rw[List.getElem?_append_left]
 exact this
 rw[List.getElem?_eq_some_iff] at this;exact this.1
 intro x hx;simp[hu4 x hx]
 intro y hy hny;rcases hb2 y hy with hy|hy
 simp[hu5 y hy hny]
 simp[hy]
 rw[if_neg h] at hs;subst hs;refine⟨hu1,hu2,hu3,hu4,λy hy hny=>?_⟩;rcases hb2 y hy with hy|hy
 exact hu5 y hy hny
 subst hy;exact Classical.byContradiction λhn=>h ⟨hny,hn⟩
 rintro u k' ⟨hu1,hu2,hu3,hu4,hu5⟩
 have hulen:u.length<=2000000:=Nat.le_trans (LP u l hu1 λx hx=>(hu2 x hx).r) hl;rw[qf] at hu5;unfold BQ;have hau:a<u.length:=by have:=hu3 a _ (List.getElem?_eq_getElem C);rw[List.getElem?_eq_some_iff] at this;exact this.1
 refine iJ (λh=>absurd h aB) λ_=>?_;rw[lC ai];refine hk (_,u) ⟨a+1,rfl,hau,hu1,hu2,λx hx h=>hu4 x (R x hx h),?_⟩ (by show 2000001-(((a+1:Nat):Int)).toNat<2000001-((a:Int)).toNat;omega);intro m y hm hy z hz hzy
 by_cases hma:m=a
 subst hma;have:=hu3 m _ (List.getElem?_eq_getElem C);have g : u[m]?=some z:=hz;rw[this] at g;cases g;exact hu5 y hy hzy
 have hml:m<U.length:=by omega
 have hz2:U[m]?=some z:=by
  have h1:=hu3 m _ (List.getElem?_eq_getElem hml);have g : u[m]?=some z:=hz;rw[h1] at g;cases g;exact List.getElem?_eq_getElem hml
 exact hu4 y (T m y ai hy z hz2 hzy)
 have hae:a=U.length:=by simp only[iV] at h;omega
 refine iK ⟨hlen,λx=>⟨J x,λhx=>?_⟩⟩
 have hall:∀ z∈U,∀ y∈l,nd needs z y=true->y∈U:=by
  intro z hz y hy h;obtain⟨m,hm,rfl⟩:=List.getElem_of_mem hz;exact T m y ai hy _ (List.getElem?_eq_getElem hm) h
 have key:∀ a x,TC l needs a x->(a=i\/a∈U)->x∈U:=by
  intro a x h
  induction h with
  | one p q hp hq h =>
   rintro (rfl|h1)
   exact R _ hq h
   exact hall _ h1 _ hq h
  | step p q r hp hq h _ ih =>
   rintro (rfl|h1)
   exact ih (.inr (R _ hq h))
   exact ih (.inr (hall _ h1 _ hq h))
 exact key _ _ hx (.inl rfl)
open Classical in
noncomputable def tcB (l:List Int)(needs:List (List Bool))(i j:Int):Bool:=decide (TC l needs i j)
theorem afE {l:List Int}{needs:List (List Bool)}{i j:Int}:tcB l needs i j=true↔TC l needs i j:=by unfold tcB;simp
noncomputable def YY (l:List Int)(needs:List (List Bool))(i j:Int):Bool:=decide (j≠i)&&(nd needs i j&&!tcB l needs j i)
noncomputable def Wi (l:List Int)(needs:List (List Bool))(i:Int):Bool:=!(l.any (YY l needs i))
noncomputable def NI (l:List Int)(needs:List (List Bool)):List Int:=l.filter (Wi l needs)
theorem agt (left:List Int)(needs:List (List Bool))(hl:left.length<=2000000):LD left needs=some (NI (elF left) needs):=by
 unfold LD;have hlen:(elF left).length<=2000000:=Nat.le_trans (aer left) hl;refine ok_eq (iU (abl left hl) ?_);have h0:∀ x∈elF left,0<=x:=λx hx=>((aiK left x).1 hx).2;have J:=aiJ left;generalize hE:elF left=l at *;refine lK 0 l.length (λn t=>t=(l.take n).filter (Wi l needs)) 0 rfl (Nat.zero_le _) ai aI ?_ ?_
 rintro a t k ha hI hk
 have hlt:t.length<=2000000:=by have:=List.length_filter_le (Wi l needs) (l.take a);rw[<- hI] at this;simp at this;omega
 have hs:(l.take (a+1)).filter (Wi l needs)=t++(if Wi l needs l[a]=true then [l[a]] else []):=by
  rw[mr l a ha,List.filter_append,<- hI];congr 1
  by_cases h:Wi l needs l[a]=true<;>simp[h]
 unfold Gq;refine iJ (λ_=>jf (λs=>s=(l.take (a+1)).filter (Wi l needs)) ?_ λs hs=>hk s hs) λh=>absurd (show (a:Int)<(l.length:Int) by omega) h;intro k6 h6;refine ve 0 l.length (λn c=>c=!((l.take n).any (YY l needs l[a]))) 0 rfl (Nat.zero_le _) ai aI ?_ ?_
 rintro b c k9 hb hc hk9
 have g:(!((l.take (b+1)).any (YY l needs l[a])))=(c&&!YY l needs l[a] l[b]):=by
  rw[mr l b hb,List.any_append,hc];simp
 unfold Gp;refine iJ (λ_=>jf (λs=>s=(c&&!YY l needs l[a] l[b])) ?_ λs hs=>hk9 s (by rw[g];exact hs)) λh=>absurd (show (b:Int)<(l.length:Int) by omega) h;intro k12 I;refine jf (λs=>s=YY l needs l[a] l[b]) ?_ ?_
 intro k15 T;refine lI (λh=>?_) λh=>?_
 have U:b≠a:=by simp only at h;omega
 have C:l[b]≠l[a]:=λe=>U ((List.getElem_inj J).1 e);refine jl a rfl ha (jl b rfl hb (iU (abm _ _ _ (h0 _ (List.getElem_mem ha)) (h0 _ (List.getElem_mem hb))) (iR (λh2=>?_) λh2=>T _ (by unfold YY;simp[h2]))));refine jl b rfl hb (iO (aes l needs _ hlen J h0 (List.getElem_mem hb)) ?_)
 rintro r ⟨hr,hr2⟩
 refine jl a rfl ha (iU (aeq r _ ai) (T _ ?_))
 have hx:decide (l[a]∈r)=tcB l needs l[b] l[a]:=by
  rw[Bool.eq_iff_iff,afE,decide_eq_true_iff];exact hr2 _
 rw[hx];unfold YY;simp only[h2,ne_eq,C,not_false_eq_true,decide_true,Bool.true_and];cases tcB l needs l[b] l[a]<;>rfl
 have U:b=a:=by simp only at h;omega
 subst U;exact T _ (by unfold YY;simp)
 rintro s rfl
 refine iR (λh=>I _ bu) λh=>I _ bu
 rintro c k9 hc
 rw[qf] at hc;unfold Gp;refine iJ (λh=>absurd h aB) λ_=>?_;have R:c=Wi l needs l[a]:=hc;refine iR (λh=>?_) λh=>h6 _ ?_
 have h' : Wi l needs l[a]=true:=R ▸ h;refine jl a rfl ha (jG aV aX (h6 _ ?_));rw[hs,if_pos h']
 have h' : ¬ Wi l needs l[a]=true:=by rw[<- R];simp[show c=false from h]
 rw[hs,if_neg h'];simp
 rintro t k hI
 unfold Gq;rw[qf] at hI;refine iJ (λh=>absurd h aB) λ_=>iK hI
def stF (stamps:List Int)(i:Int):Int:=(stamps[i.toNat]?).getD 0
theorem Ve (stamps:List Int)(i:Int)(h:0<=i):DW stamps i=some (stF stamps i):=by
 obtain⟨a,rfl⟩:=Int.eq_ofNat_of_zero_le h;unfold DW stF;refine ok_eq (iJ (λh=>?_) λh=>?_)
 have U:a<stamps.length:=by unfold iV at h;omega
 exact jl a rfl U (iK (by simp[U]))
 have U:stamps.length<=a:=by unfold iV at h;omega
 exact iK (by simp[List.getElem?_eq_none U])
def nx (stamps:List Int)(b x:Int):Int:=if b<0\/stF stamps x<stF stamps b\/(stF stamps x=stF stamps b/\x<b) then x else b
def Ue (stamps:List Int)(r:List Int):Int:=r.foldl (nx stamps) (-1)
theorem aet (stamps r:List Int)(i:Nat)(hi:i<r.length):Ue stamps (r.take (i+1))=nx stamps (Ue stamps (r.take i)) r[i]:=by
 rw[mr r i hi];unfold Ue;rw[List.foldl_append];rfl
def before (stamps:List Int)(x y:Int):Prop:=stF stamps x<stF stamps y\/(stF stamps x=stF stamps y/\x<=y)
theorem Yl (stamps:List Int):∀ (r:List Int) (b:Int),(∀ x∈r,0<=x)->(b=-1\/0<=b) ->
  (r.foldl (nx stamps) b=b\/r.foldl (nx stamps) b∈r)/\(0<=b\/r≠[]->0<=r.foldl (nx stamps) b)/\(0<=b->before stamps (r.foldl (nx stamps) b) b)/\∀ x∈r,before stamps (r.foldl (nx stamps) b) x
 | [],b,_,_=>by
  refine⟨.inl rfl,λh=>h.elim id λh=>absurd rfl h,λ_=>.inr ⟨rfl,Int.le_refl _⟩,by simp⟩
 | y::r,b,h0,hb=>by
  have hy:=h0 y aI;have R:0<=nx stamps b y:=by unfold nx;split<;>omega
  obtain⟨h1,h2,I,J⟩:=Yl stamps r (nx stamps b y) (λx hx=>h0 x (by simp[hx])) (.inr R);have C:=I R;have U:(nx stamps b y=b\/nx stamps b y=y):=by unfold nx;split<;>simp
  simp only[List.foldl_cons];generalize r.foldl (nx stamps) (nx stamps b y)=q at *
  have T:before stamps (nx stamps b y) y/\(0<=b->before stamps (nx stamps b y) b):=by
   unfold nx before;split
   rename_i h;exact⟨.inr ⟨rfl,Int.le_refl _⟩,λhb=>by omega⟩
   rename_i h;exact⟨by omega,λ_=>.inr ⟨rfl,Int.le_refl _⟩⟩
  refine⟨?_,λ_=>h2 (.inl R),λhb=>?_,λx hx=>?_⟩
  rcases h1 with h1|h1
  rcases U with U|U
  exact .inl (h1.trans U)
  exact .inr (by rw[h1,U];simp)
  exact .inr (by simp[h1])
  have:=T.2 hb;unfold before at *;omega
  rcases List.mem_cons.1 hx with rfl|hx
  have:=T.1;unfold before at *;omega
  exact J x hx
theorem Z5 (stamps r:List Int)(h0:∀ x∈r,0<=x)(h:r≠[]):Ue stamps r∈r/\0<=Ue stamps r:=by
 obtain⟨h1,h2,_,_⟩:=Yl stamps r (-1) h0 (.inl rfl);have:=h2 (.inr h);refine⟨h1.resolve_left λe=>?_,this⟩;rw[e] at this;omega
theorem agu (stamps r:List Int)(h0:∀ x∈r,0<=x):Ue stamps r=-1\/0<=Ue stamps r:=by
 cases r with
 | nil=>exact .inl rfl
 | cons y r=>exact .inr (Z5 stamps _ h0 aI).2
theorem Vf (l:List Int)(needs:List (List Bool))(x:Int)(h:x∈NI l needs):x∈l:=(List.mem_filter.1 h).1
theorem agv (l:List Int)(needs:List (List Bool)):(NI l needs).length<=l.length:=List.length_filter_le _ _
theorem aiL (left stamps:List Int)(needs:List (List Bool))(R:left.length<=2000000):LG left stamps needs=some (Ue stamps (NI (elF left) needs)):=by
 unfold LG;refine ok_eq (iU (agt left needs R) ?_);have h0:∀ x∈NI (elF left) needs,0<=x:=λx hx=>((aiK left x).1 (Vf _ _ _ hx)).2;have hlen:(NI (elF left) needs).length<=2000000:=Nat.le_trans (agv _ _) (Nat.le_trans (aer left) R);generalize NI (elF left) needs=r at *;refine ve 0 r.length (λn b=>b=Ue stamps (r.take n)) 0 rfl (Nat.zero_le _) ai rfl ?_ ?_
 rintro a b k ha hI hk
 have hb:b=-1\/0<=b:=by rw[hI];exact agu stamps _ λx hx=>h0 x (List.mem_of_mem_take hx)
 have hx:=h0 _ (List.getElem_mem ha);unfold Js;refine iJ (λ_=>jf (λs=>s=nx stamps b r[a]) ?_ λs hs=>hk s (by rw[aet stamps r a ha,<- hI];exact hs)) λh=>absurd (show (a:Int)<(r.length:Int) by omega) h;intro k6 J;refine jl a rfl ha (iU (Ve _ _ hx) ?_);refine jf (λs=>s=decide (b<0\/stF stamps r[a]<stF stamps b\/(stF stamps r[a]=stF stamps b/\r[a]<b))) ?_ ?_
 intro I U;refine iJ (λh=>U _ (by simp[show b<0 from h])) λh=>?_;simp only at h;refine iU (Ve _ _ (by show 0<=b;omega)) (iJ (λh2=>U _ (by simp[show stF stamps r[a]<stF stamps b from h2])) λh2=>iU (Ve _ _ (by show 0<=b;omega)) (iJ (λT=>jl a rfl ha (U _ ?_)) λT=>U _ ?_))
 simp[h,show ¬ stF stamps r[a]<stF stamps b from h2,show stF stamps r[a]=stF stamps b from T]
 simp[h,show ¬ stF stamps r[a]<stF stamps b from h2,show ¬ stF stamps r[a]=stF stamps b from T]
 rintro s rfl
 refine iJ (λh2=>jl a rfl ha (J _ (by unfold nx;rw[if_pos h2]))) λh2=>J _ (by unfold nx;rw[if_neg h2])
 rintro b k hI
 unfold Js;rw[qf] at hI;refine iJ (λh=>absurd h (by show ¬ (r.length:Int)<(r.length:Int);omega)) λ_=>iK hI
open Classical in
theorem aiM (l:List Int)(needs:List (List Bool))(hn:l.Nodup)(hl:l≠[]):NI l needs≠[]:=by
 let m:Int->Nat:=λi=>(l.filter λy=>decide (y=i\/TC l needs i y)).length
 have hex:∃ n,∃ i,i∈l/\m i=n:=by
  cases l with
  | nil=>exact absurd rfl hl
  | cons x l=>exact⟨_,x,by simp,rfl⟩
 obtain⟨n,⟨i,hi,C⟩,J⟩:∃ n,(∃ i,i∈l/\m i=n)/\∀ k,k<n->¬ ∃ i,i∈l/\m i=k:=by
  obtain⟨n,h⟩:=hex;revert h
  induction n using Nat.strongRecOn with
  | ind n ih =>
   intro h
   by_cases h' : ∃ k,k<n/\∃ i,i∈l/\m i=k
   obtain⟨k,hk,h2⟩:=h';exact ih k hk h2
   exact⟨n,h,λk hk h2=>h' ⟨k,hk,h2⟩⟩
 have hr:Wi l needs i=true:=by
  unfold Wi;rw[Bool.not_eq_true',List.any_eq_false];intro j hj hb;unfold YY at hb;simp only[ne_eq,Bool.and_eq_true,decide_eq_true_eq,Bool.not_eq_true'] at hb;obtain⟨g,T,R⟩:=hb;have U : ¬ TC l needs j i:=by rw[<- afE];simp[R]
  refine J (m j) ?_ ⟨j,hj,rfl⟩;rw[<- C]
  have I:∀ x∈i::l.filter (λy=>decide (y=j\/TC l needs j y)),x∈l.filter (λy=>decide (y=i\/TC l needs i y)):=by
   intro x hx;rcases List.mem_cons.1 hx with rfl|hx
   simp[hi]
   simp only[List.mem_filter,decide_eq_true_eq] at hx |-;refine⟨hx.1,.inr ?_⟩;rcases hx.2 with rfl|h2
   exact .one _ _ hi hj T
   exact .step _ _ _ hi hj T h2
  have:=LP _ _ ?_ I
  simp only[List.length_cons] at this;show (l.filter _).length<(l.filter _).length;omega
  rw[List.nodup_cons];refine⟨λhx=>?_,List.Pairwise.filter _ hn⟩;simp only[List.mem_filter,decide_eq_true_eq] at hx;rcases hx.2 with h2|h2
  exact g h2.symm
  exact U h2
 intro h;have:i∈NI l needs:=List.mem_filter.2 ⟨hi,hr⟩;rw[h] at this;cases this
theorem QU:∀ (l:List Int) (y:Int),l.Nodup->y∈l->(l.filter λx=>!decide (x=y)).length+1=l.length
 | [],y,_,h=>by cases h
 | x::l,y,hn,h=>by
  rw[List.nodup_cons] at hn
  by_cases e:x=y
  subst e
  have:l.filter (λz=>!decide (z=x))=l:=List.filter_eq_self.2 λz U=>by
   have:z≠x:=λe=>hn.1 (e ▸ U);simp[this]
  simp[this]
  have h2:y∈l:=by rcases List.mem_cons.1 h with h|h;exact absurd h.symm e;exact h
  have:=QU l y hn.2 h2;simp[e];simpa using this
end Go.Proofs.YtlacmdnhabblcaaGreat
