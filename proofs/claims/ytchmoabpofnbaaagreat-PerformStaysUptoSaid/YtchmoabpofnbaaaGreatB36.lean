import Derived.Test.YtchmoabpofnbaaaGreatB35
set_option linter.all false
namespace Go.Proofs.YtchmoabpofnbaaaGreat
open Go Go.Pv
set_option maxRecDepth 100000
theorem aaC (c:GCard)(I:lT c):Ok (λr=>True) (JZ c):=by
 unfold JZ;have z1:c.name.size<=1048576:=(I).1;have z2:=(I).2.1;have z6:=((I).2.2).2;refine gU (λ(s1:Bool)=>s1=false->¬(c.color<0)/\¬(31<c.color)) (λk2 J=>gp (IY _ az) (λy4 h9=>gq (λh10=>J _ af) (λh10=>gp (IX _ ) (λy5 h11=>gq (λh12=>J _ af) (λh12=>gp (Ue _ aO) (λy6 h13=>gq (λh14=>J _ af) (λh14=>gp (Uf _ ) (λy7 h15=>gq (λh16=>J _ af) (λh16=>gm (λh17=>J _ af) (λh17=>J _ af)))))))))) (λs1 hs8=>?_);refine gq (λh18=>fZ trivial) (λh18=>?_);have hf19:=hs8 h18;refine gU (λ(s8:Bool)=>s8=false->¬(99<c.power)/\¬(99<c.ik)/\¬(c.power<0)/\¬(c.ik<0)/\¬(8<(c.abilities.length:Int))) (λk9 U=>gm (λh22=>U _ af) (λh22=>gm (λh23=>U _ af) (λh23=>gm (λh24=>U _ af) (λh24=>gm (λh25=>U _ af) (λh25=>gp (Ho _ bQ) (λy11 h26=>gq (λh27=>lN (λh28=>U _ af) (λh28=>lN (λh29=>U _ af) (λh29=>U _ af))) (λh27=>U _ af))))))) (λs8 hs21=>?_);refine gq (λh30=>fZ trivial) (λh30=>?_);have hf31:=hs21 h30;refine ji (λ(T:Int×Int)=>0<=T.2/\T.2<=(c.abilities.length:Int)) (λ(T:Int×Int)=>((c.abilities.length:Int)-T.2).toNat) ⟨ae,ae⟩ ak (λT k13 g hk33=>?_);obtain⟨hI32_0,hI32_1⟩:=g;unfold PW;apply gm<;>intro h34
 (try simp only[gK] at h34)
 refine gU (λ(s15:Int)=>True) (λk16 C=>?_) (λs15 hs36=>?_)
 refine jV ae ae (λx18 h37=>?_);have z38:kY x18:=z6 x18 h37;refine gp (I4 _ aN) (λy19 h53=>?_);refine gq (λh54=>fZ trivial) (λh54=>?_);refine jV ae ae (λx20 h55=>?_);exact gm (λh71=>C _ trivial) (λh71=>C _ trivial)
 have h72:iL T.2 1=T.2+1:=jI ah ah;exact hk33 _ ⟨ae,ae⟩ ae
 (try simp only[gK] at h34)
 refine gp (Xl _ bQ) (λy21 h73=>?_);refine gq (λh74=>?_) (λh74=>gm (λh80=>gq (λh81=>gm (λh82=>fZ trivial) (λh82=>lX (λv25 h83=>fZ trivial))) (λh81=>lX (λv26 h84=>fZ trivial))) (λh80=>fZ trivial));refine gU (λ(s22:Bool)=>True) (λk23 R=>?_) (λs22 hs76=>fZ trivial);refine gq (λh77=>?_) (λh77=>R _ trivial);refine gm (λh78=>?_) (λh78=>R _ trivial);apply gm<;>intro h79
 (try simp only[gK] at h79)
 exact R _ trivial
 (try simp only[gK] at h79)
 exact R _ trivial
theorem Xp (l:List GCard)(name:ByteArray)(R:(qL lT) l)(T:F9 name):Ok (λr=>True) (J4 l name):=by
 unfold J4;have z1:=(R).1;refine ji (λ(U:Int)=>0<=U/\U<=(l.length:Int)) (λ(U:Int)=>((l.length:Int)-U).toNat) ⟨ae,ae⟩ ak (λU k2 J hk5=>?_);obtain⟨C,g⟩:=J;unfold J3;apply gm<;>intro h6
 (try simp only[gK] at h6)
 refine jV ae ae (λx4 h7=>?_);refine gq (λI=>fZ trivial) (λI=>?_);have h16:iL U 1=U+1:=jI ah ah;exact hk5 _ ⟨ae,ae⟩ ae
 (try simp only[gK] at h6)
 exact fZ trivial
theorem UI (l:List GCard)(name:ByteArray)(T:(qL lT) l)(J:F9 name):Ok (λr=>True) (GY l name):=by
 unfold GY;have z1:=(T).1;refine ji (λ(U:Int)=>0<=U/\U<=(l.length:Int)) (λ(U:Int)=>((l.length:Int)-U).toNat) ⟨ae,ae⟩ ak (λU k2 hI4 hk5=>?_);obtain⟨I,hI4_1⟩:=hI4;unfold II;apply gm<;>intro h6
 (try simp only[gK] at h6)
 refine gU (λ(s4:Bool)=>True) (λk5 R=>?_) (λs4 hs8=>?_)
 refine jV ae ae (λx7 h9=>?_);refine gq (λC=>?_) (λC=>R _ trivial);refine jV ae ae (λx8 h18=>?_);exact R _ trivial
 refine gq (λg=>fZ trivial) (λg=>?_);have h27:iL U 1=U+1:=jI ah ah;exact hk5 _ ⟨ae,ae⟩ ae
 (try simp only[gK] at h6)
 exact fZ trivial
theorem QR (l:List GCard)(c:GCard)(U:(qL lT) l)(R:lT c):Ok (λr=>True) (BJ l c):=by
 have I:(qL kY) c.abilities:=R.2.2;have hla:=I.1;unfold BJ;refine uV 0 c.abilities.length (λ_=>True) 0 rfl (Nat.zero_le _) ah trivial ?_ ?_
 intro i k hi _ hk;unfold zh;refine gm (λ_=>?_) λh=>absurd (show (i:Int)<(c.abilities.length:Int) by omega) h;have g:kY c.abilities[i]:=I.2 _ (List.getElem_mem hi);have C:(qL l9) (c.abilities[i]).kM:=g.2.2.2.2.1;have hle:=C.1;refine uV 0 (c.abilities[i]).kM.length (λ_=>True) 0 rfl (Nat.zero_le _) ah trivial ?_ ?_
 intro j k5 hj _ J;unfold zg;refine iV i rfl hi (gm (λ_=>iV i rfl hi (iV j rfl hj (gU (λ_=>True) ?_ ?_))) λh=>absurd (show (j:Int)<((c.abilities[i]).kM.length:Int) by omega) h)
 intro k11 T;exact gm (λ_=>gp (UI _ _ U (by have z:=C.2 _ (List.getElem_mem hj);exact z.2.2.1)) λ_ _=>T _ trivial) λ_=>T _ trivial
 intro s _;exact gq (λ_=>fZ trivial) λ_=>J trivial
 intro k5 _;unfold zg;exact iV i rfl hi (gm (λh=>absurd h (by show ¬ ((c.abilities[i]).kM.length:Int)<((c.abilities[i]).kM.length:Int);omega)) λ_=>hk trivial)
 intro k _;unfold zh;exact gm (λh=>absurd h dL) λ_=>fZ trivial
theorem UJ (p:Lj Int)  : Ok (λr=>True) (Gv p):=by
 unfold Gv;refine ji (λ(U:Int)=>0<=U/\U<=6) (λ(U:Int)=>(6-U).toNat) ⟨ae,ae⟩ ak (λU k2 I hk2=>?_);obtain⟨hI1_0,J⟩:=I;unfold Ir;refine gm (λh3=>?_) (λh3=>fZ trivial);refine gU (λ(s4:Bool)=>True) (λk5 hk4=>?_) (λs4 hs5=>?_)
 refine wo ae ae (λj7 h6=>?_)
 split
 refine gm (λh7=>hk4 _ trivial) (λh7=>?_);refine wo ae ae (λj8 h8=>?_)
 split
 exact fD
 exact fD
 exact fD
 exact fD
 exact fD
 exact fD
 refine gm (λh9=>hk4 _ trivial) (λh9=>?_);refine wo ae ae (λj9 h10=>?_)
 split
 exact fD
 exact fD
 exact fD
 exact fD
 exact fD
 exact fD
 refine gm (λg=>hk4 _ trivial) (λg=>?_);refine wo ae ae (λj10 h12=>?_)
 split
 exact fD
 exact fD
 exact fD
 exact fD
 exact fD
 exact fD
 refine gm (λR=>hk4 _ trivial) (λR=>?_);refine wo ae ae (λj11 h14=>?_)
 split
 exact fD
 exact fD
 exact fD
 exact fD
 exact fD
 exact fD
 refine gm (λh15=>hk4 _ trivial) (λh15=>?_);refine wo ae ae (λj12 h16=>?_)
 split
 exact fD
 exact fD
 exact fD
 exact fD
 exact fD
 exact fD
 refine gm (λT=>hk4 _ trivial) (λT=>?_);refine wo ae ae (λj13 h18=>?_)
 split
 exact fD
 exact fD
 exact fD
 exact fD
 exact fD
 exact fD
 refine gq (λC=>fZ trivial) (λC=>?_);have h20:iL U 1=U+1:=jI ah ah;exact hk2 _ ⟨ae,ae⟩ ae
theorem UK (s:GState)(id:Int)(R:jE s):Ok (λr=>-1<=r/\r<(s.objects.length:Int)) (yu s id):=by
 unfold yu;have z3:=((R).2.1).1;refine ji (λ(U:Int)=>0<=U/\U<=(s.objects.length:Int)) (λ(U:Int)=>((s.objects.length:Int)-U).toNat) ⟨ae,ae⟩ ak (λU k2 I T=>?_);obtain⟨C,g⟩:=I;unfold yQ;apply gm<;>intro J
 (try simp only[gK] at J)
 refine jV ae ae (λx4 h16=>?_);refine gm (λh17=>fZ ah) (λh17=>?_);have h18:iL U 1=U+1:=jI ah ah;exact T _ ⟨ae,ae⟩ ae
 (try simp only[gK] at J)
 exact fZ ah
theorem I5 (s:GState)(id:Int)(T:jE s):Ok (λr=>True) (uC s id):=by
 unfold uC;exact gp (UK _ _ au) (λI J=>gm (λU=>fZ trivial) (λU=>jV ae ae (λC R=>fZ trivial)))
theorem KA (s:GState)(id:Int)(U:jE s):Ok (λr=>True) (Au s id):=by
 unfold Au;exact gp (I5 _ _ au) (λR T=>fZ trivial)
theorem F8 (l:List Int)(n:Int)(T:(qL (λ(_:Int)=>True)) l):Ok (λr=>True) (Aw l n):=by
 unfold Aw;have z1:=(T).1;refine ji (λ(U:Int×Int)=>0<=U.2/\U.2<=(l.length:Int)) (λ(U:Int×Int)=>((l.length:Int)-U.2).toNat) ⟨ae,ae⟩ ak (λU k2 g J=>?_);obtain⟨C,I⟩:=g;unfold Iu;apply gm<;>intro h4
 (try simp only[gK] at h4)
 refine gU (λ(s4:Int)=>True) (λk5 R=>jV ae ae (λx7 h7=>gm (λh8=>R _ trivial) (λh8=>R _ trivial))) (λs4 hs6=>?_);have h9:iL U.2 1=U.2+1:=jI ah ah;exact J _ ⟨ae,ae⟩ ae
 (try simp only[gK] at h4)
 exact fZ trivial
theorem zS (s:GState)(l:List Int)(iI:Int)(owner:Int)(zz_s:jE s)(I:(qL (λ(_:Int)=>True)) l):Ok (λr=>True) (yR s l iI owner):=by
 unfold yR;have z13:=(I).1;refine ji (λ(T:Int)=>0<=T/\T<=(l.length:Int)) (λ(T:Int)=>((l.length:Int)-T).toNat) ⟨ae,ae⟩ ak (λT k2 g J=>?_);obtain⟨hI14_0,hI14_1⟩:=g;unfold JC;apply gm<;>intro h16
 (try simp only[gK] at h16)
 refine jV ae ae (λx4 h17=>?_);refine gp (KA _ _ au) (λy5 h18=>?_);refine gU (λ(s6:Bool)=>s6=false->y5.1.iI=iI) (λk7 U=>gq (λh21=>U _ af) (λh21=>lN (λh22=>U _ af) (λh22=>gm (λh23=>lN (λh24=>U _ af) (λh24=>jV ae ae (λx9 h25=>gp (F8 _ _ ax) (λy10 h26=>U _ af)))) (λh23=>jV ae ae (λx11 h27=>gp (F8 _ _ ax) (λy12 h28=>U _ af)))))) (λs6 C=>?_);refine gq (λR=>fZ trivial) (λR=>?_);have hf30:=C R;have h31:iL T 1=T+1:=jI ah ah;exact J _ ⟨ae,ae⟩ ae
 (try simp only[gK] at h16)
 exact fZ trivial
theorem Ja (s:GState)(T:jE s):Ok (λr=>True) (BG s):=by
 unfold BG;have z1:=((T).1).1;have z2:=((T).1).2;have z4:=((T).2.2.1).1;have z5:=((T).2.2.2.1).1;refine gp (jC _ _ _ ) (λy1 h13=>?_);refine gq (λh14=>fZ trivial) (λh14=>?_);refine ji (λ(I:Int)=>0<=I/\I<=(s.jk.length:Int)) (λ(I:Int)=>((s.jk.length:Int)-I).toNat) ⟨ae,ae⟩ ak (λI k3 hI15 g=>?_);obtain⟨hI15_0,hI15_1⟩:=hI15;unfold Eb;apply gm<;>intro C
 (try simp only[gK] at C)
 refine jV ae ae (λx5 h18=>?_);have J:yC x5:=z2 x5 h18;have z20:=((J).1).1;have z21:=((J).2.1).1;have z22:=((J).2.2).1;refine gU (λ(s6:Bool)=>True) (λk7 U=>gp (jC _ _ _ ) (λy9 h25=>gq (λh26=>U _ trivial) (λh26=>gp (jC _ _ _ ) (λy10 h27=>gq (λh28=>U _ trivial) (λh28=>gp (jC _ _ _ ) (λy11 h29=>gq (λh30=>U _ trivial) (λh30=>gp (UJ _ ) (λy12 h31=>U _ trivial)))))))) (λs6 hs24=>?_);refine gq (λh32=>fZ trivial) (λh32=>?_);refine gU (λ(s13:Bool)=>True) (λk14 R=>gp (zS _ _ _ _ au ax) (λy16 h35=>gq (λh36=>R _ trivial) (λh36=>gp (zS _ _ _ _ au ax) (λy17 h37=>gq (λh38=>R _ trivial) (λh38=>gp (zS _ _ _ _ au ax) (λy18 h39=>R _ trivial)))))) (λs13 hs34=>?_);refine gq (λh40=>fZ trivial) (λh40=>?_);have h41:iL I 1=I+1:=jI ah ah;exact g _ ⟨ae,ae⟩ ae
 (try simp only[gK] at C)
 exact gp (zS _ _ _ _ au ax) (λy19 h42=>gq (λh43=>gp (zS _ _ _ _ au ax) (λy20 h44=>fZ trivial)) (λh43=>fZ trivial))
theorem aaD (c:NY Int)  : Ok (λr=>True) (Tm c):=by
 unfold Tm;refine ji (λ(U:Int)=>0<=U/\U<=3) (λ(U:Int)=>(3-U).toNat) ⟨ae,ae⟩ ak (λU k2 J g=>?_);obtain⟨C,R⟩:=J;unfold PQ;refine gm (λh3=>?_) (λh3=>fZ trivial);refine gU (λ(s4:Bool)=>True) (λk5 hk4=>?_) (λs4 hs5=>?_)
 refine wo ae ae (λj7 h6=>?_)
 split
 refine gm (λh7=>hk4 _ trivial) (λh7=>?_);refine wo ae ae (λj8 h8=>?_)
 split
 exact fD
 exact fD
 exact fD
 refine gm (λh9=>hk4 _ trivial) (λh9=>?_);refine wo ae ae (λj9 h10=>?_)
 split
 exact fD
 exact fD
 exact fD
 refine gm (λI=>hk4 _ trivial) (λI=>?_);refine wo ae ae (λj10 h12=>?_)
 split
 exact fD
 exact fD
 exact fD
 refine gq (λT=>fZ trivial) (λT=>?_);have h14:iL U 1=U+1:=jI ah ah;exact g _ ⟨ae,ae⟩ ae
theorem Xq (o:GObject)  : Ok (λr=>True) (JD o):=by
 unfold JD;exact fZ trivial
theorem UL (o:GObject)  : Ok (λr=>True) (Gw o):=by
 unfold Gw;exact fZ trivial
theorem Uo (o:GObject)(cards:Int)(jk:Int)  : Ok (λr=>True) (JE o cards jk):=by
 unfold JE;refine gU (λ(s1:Bool)=>s1=false->¬(cards<=o.card)/\¬(o.card<0)/\¬(o.control<0)/\¬(o.id<1)/\¬(o.owner<0)/\¬(o.iI<0)/\¬(jk<=o.control)/\¬(jk<=o.owner)/\¬(5<o.iI)) (λk2 T=>gm (λh3=>T _ af) (λh3=>gm (λh4=>T _ af) (λh4=>gm (λh5=>T _ af) (λh5=>gm (λh6=>T _ af) (λh6=>gm (λh7=>T _ af) (λh7=>gm (λh8=>T _ af) (λh8=>gm (λh9=>T _ af) (λh9=>gm (λh10=>T _ af) (λh10=>T _ af))))))))) (λs1 hs2=>?_);refine gq (λh11=>fZ trivial) (λh11=>?_);have hf12:=hs2 h11;refine gU (λ(s4:Bool)=>s4=false->¬(1000000<o.blocks)/\¬(1000000<o.Am)/\¬(1000000<o.stamp)/\¬(o.blocks<0)/\¬(o.Am<0)/\¬(o.yP<0)/\¬(o.stamp<0)/\¬(1000000<o.yP)) (λk5 U=>gm (λh15=>U _ af) (λh15=>gm (λh16=>U _ af) (λh16=>gm (λh17=>U _ af) (λh17=>gm (λh18=>U _ af) (λh18=>gm (λh19=>U _ af) (λh19=>gm (λh20=>U _ af) (λh20=>gm (λh21=>U _ af) (λh21=>U _ af)))))))) (λs4 C=>?_);refine gq (λg=>fZ trivial) (λg=>?_);have hf23:=C g;refine gU (λ(s7:Bool)=>s7=false->¬(cards<=o.copy)/\¬(o.Ap<(-1))/\¬(o.copy<(-1))/\¬(jk<=o.Ap)) (λk8 R=>gp (aaD _ ) (λy10 h26=>gq (λh27=>R _ af) (λh27=>gm (λh28=>R _ af) (λh28=>gm (λh29=>R _ af) (λh29=>gm (λh30=>R _ af) (λh30=>R _ af)))))) (λs7 J=>?_)
 refine gq (λI=>fZ trivial) (λI=>?_);have hf32:=J I;exact gm (λh33=>fZ trivial) (λh33=>gp (Xq _ ) (λy11 h34=>lX (λv12 h35=>gq (λh36=>gp (UL _ ) (λy13 h37=>lX (λv14 h38=>gq (λh39=>gq (λh40=>gq (λh41=>lX (λv15 h42=>fZ trivial)) (λh41=>fZ trivial)) (λh40=>fZ trivial)) (λh39=>fZ trivial)))) (λh36=>fZ trivial))))
theorem Ur (s:GState)(id:Int)(J:jE s):Ok (λr=>True) (Ec s id):=by
 unfold Ec;have z6:=((J).2.2.2.2.1).1;refine ji (λ(R:Int×Int)=>0<=R.2/\R.2<=(s.stack.length:Int)) (λ(R:Int×Int)=>((s.stack.length:Int)-R.2).toNat) ⟨ae,ae⟩ ak (λR k2 g I=>?_);obtain⟨hI13_0,hI13_1⟩:=g;unfold FX;apply gm<;>intro C
 (try simp only[gK] at C)
 refine gU (λ(s4:Int)=>True) (λk5 U=>?_) (λs4 hs17=>?_)
 refine gU (λ(s7:Bool)=>True) (λk8 T=>?_) (λs7 hs19=>gq (λh57=>U _ trivial) (λh57=>U _ trivial));refine jV ae ae (λx10 h20=>?_);refine gm (λh38=>?_) (λh38=>T _ trivial);refine jV ae ae (λx11 h39=>?_);exact T _ trivial
 have h58:iL R.2 1=R.2+1:=jI ah ah;exact I _ ⟨ae,ae⟩ ae
 (try simp only[gK] at C)
 exact fZ trivial
theorem Xr (s:GState)(iI:Int)(iY:Int)(U:jE s):Ok (λr=>r.length<=1048576) (JF s iI iY):=by
 unfold JF;have z2:=((U).1).2;have z4:=((U).2.2.1).1;have z5:=((U).2.2.2.1).1;refine gm (λh13=>gp (zM _ ax) (λy1 h14=>fZ aZ)) (λh13=>?_);refine gm (λC=>gp (zM _ ax) (λy2 h16=>fZ aZ)) (λC=>?_);refine gU (λ(s3:Bool)=>s3=false->¬(iY<0)/\¬((s.jk.length:Int)<=iY)) (λk4 T=>gm (λh19=>T _ af) (λh19=>T _ af)) (λs3 J=>?_);refine gq (λR=>fZ aZ) (λR=>?_);have hf21:=J R;apply gm<;>intro h22
 refine jV ae ae (λx6 I=>?_);have z24:yC x6:=z2 x6 I;have z26:=((z24).2.1).1;exact gp (zM _ ax) (λy7 h28=>fZ aZ)
 apply gm<;>intro h29
 refine jV ae ae (λx8 g=>?_);have z31:yC x8:=z2 x8 g;have z32:=((z31).1).1;exact gp (zM _ ax) (λy9 h35=>fZ aZ)
 refine gm (λh36=>?_) (λh36=>fZ aZ);refine jV ae ae (λx10 h37=>?_);have z38:yC x10:=z2 x10 h37;have z41:=((z38).2.2).1;exact gp (zM _ ax) (λy11 h42=>fZ aZ)
theorem KC (s:GState)(o:GObject)(T:jE s):Ok (λr=>True) (Ed s o):=by
 unfold Ed;exact gm (λU=>gp (Ur _ _ au) (λg R=>fZ trivial)) (λU=>gp (Xr _ _ _ au) (λC J=>gp (F8 _ _ ax) (λy3 I=>fZ trivial)))
theorem QS (cards:List GCard)(s:GState)(R:(qL lT) cards)(zz_s:jE s):Ok (λr=>True) (sV cards s):=by
 unfold sV;apply gm<;>intro h15
 (try simp only[gK] at h15)
 exact fZ trivial
 (try simp only[gK] at h15)
 refine ji (λ(T:Int)=>0<=T/\T<=(s.objects.length:Int)) (λ(T:Int)=>((s.objects.length:Int)-T).toNat) ⟨ae,ae⟩ ak (λT k2 g I=>?_);obtain⟨hI16_0,hI16_1⟩:=g;unfold vS;apply gm<;>intro h18
 (try simp only[gK] at h18)
 refine jV ae ae (λx4 h19=>?_);refine gU (λ(s5:Bool)=>s5=false->¬(s.nextId<=x4.id)/\¬(s.sG<=x4.stamp)) (λk6 U=>?_) (λs5 C=>?_)
 refine gp (Uo _ _ _ ) (λy8 h22=>?_);refine gq (λh23=>U _ af) (λh23=>?_);refine gm (λh24=>U _ af) (λh24=>?_);refine gm (λh25=>U _ af) (λh25=>?_);refine gm (λh26=>?_) (λh26=>U _ af);have h27:Cc T 1=T-1:=Fv bg bg;exact jV ae ae (λx9 h28=>U _ af)
 refine gq (λJ=>fZ trivial) (λJ=>?_);have hf30:=C J;refine gp (KC _ _ au) (λy10 h31=>?_);refine gq (λh32=>fZ trivial) (λh32=>?_);have h33:iL T 1=T+1:=jI ah ah;exact I _ ⟨ae,ae⟩ ae
 (try simp only[gK] at h18)
 exact fZ trivial
theorem Xt (s:GState)(x:uA)(zz_s:jE s)(R:IW x):Ok (λr=>True) (JX s x):=by
 unfold JX;have z13:=(R).1;refine gU (λ(s1:Bool)=>s1=false->¬(4<(x.targets.length:Int))) (λk2 T=>?_) (λs1 C=>?_)
 refine gp (jC _ _ _ ) (λy4 h31=>?_);refine gq (λh32=>T _ af) (λh32=>?_);refine gp (jC _ _ _ ) (λy5 h33=>?_);refine gq (λh34=>T _ af) (λh34=>?_);apply gm<;>intro J
 (try simp only[gK] at J)
 exact T _ af
 (try simp only[gK] at J)
 exact gp (lC _ _ au) (λy6 h36=>T _ af)
 refine gq (λI=>fZ trivial) (λI=>?_);have hf38:=C I;exact gp (KA _ _ au) (λy7 h39=>gm (λh40=>gp (Xa _ _ aN WZ) (λy8 h41=>gU (λ(s9:Bool)=>True) (λk10 U=>gm (λg=>gq (λh45=>gm (λh46=>gq (λh47=>U _ trivial) (λh47=>gp (I4 _ aN) (λy12 h48=>U _ trivial))) (λh46=>U _ trivial)) (λh45=>U _ trivial)) (λg=>U _ trivial)) (λs9 hs43=>fZ trivial))) (λh40=>gm (λh49=>gq (λh50=>gp (I4 _ aN) (λy13 h51=>fZ trivial)) (λh50=>fZ trivial)) (λh49=>fZ trivial)))
theorem aaE (l:List Int)(T:(qL (λ(_:Int)=>True)) l):Ok (λr=>True) (TA l):=by
 unfold TA;have z1:=(T).1;refine ji (λ(U:Int)=>1<=U) (λ(U:Int)=>((l.length:Int)-U).toNat) ae ak (λU k2 I R=>?_);unfold PT;apply gm<;>intro J
 (try simp only[gK] at J)
 have h5:Cc U 1=U-1:=Fv bg bg;refine jV ae ae (λx4 h6=>?_);refine jV ae ae (λx5 h7=>?_);refine gm (λC=>fZ trivial) (λC=>?_);have g:iL U 1=U+1:=jI ah ah;exact R _ ae ae
 (try simp only[gK] at J)
 exact fZ trivial
theorem LK (s:GState)(C:jE s):Ok (λr=>True) (GV s):=by
 unfold GV;have z7:=((C).2.2.2.2.1).2;have z9:=((C).2.2.2.2.2.1).2;have z11:=((C).2.2.2.2.2.2.1).2;refine gU (λ(s1:Bool)=>s1=false->¬(64<(s.stack.length:Int))/\¬(64<(s.waiting.length:Int))/\¬(64<(s.uB.length:Int))) (λk2 I=>?_) (λs1 hs14=>?_)
 apply gm<;>intro h15
 (try simp only[gK] at h15)
 exact I _ af
 (try simp only[gK] at h15)
 apply gm<;>intro h16
 (try simp only[gK] at h16)
 exact I _ af
 (try simp only[gK] at h16)
 exact I _ af
 refine gq (λh17=>fZ trivial) (λh17=>?_);have hf18:=hs14 h17;refine ji (λ(s4:Int)=>0<=s4/\s4<=(s.stack.length:Int)) (λ(s4:Int)=>((s.stack.length:Int)-s4).toNat) ⟨ae,ae⟩ ak (λs4 k5 hI19 hk20=>?_);obtain⟨hI19_0,hI19_1⟩:=hI19;unfold IG;apply gm<;>intro h21
 (try simp only[gK] at h21)
 refine jV ae ae (λx7 h22=>?_);have z23:IW x7:=z7 x7 h22;refine gp (Xt _ _ au (by first|assumption|(refine⟨by omega,?_⟩;first|(intro _ _;trivial)|assumption)|(unfold IW;simp_all[F9,qL]))) (λy8 h40=>?_);refine gq (λh41=>fZ trivial) (λh41=>?_);refine ji (λ(s9:Int)=>0<=s9) (λ(s9:Int)=>(s4-s9).toNat) ae ak (λs9 k10 hI42 hk43=>?_);unfold IB;apply gm<;>intro h44
 refine jV ae ae (λx12 h45=>?_);refine jV ae ae (λx13 h63=>?_);refine gm (λh81=>fZ trivial) (λh81=>?_);have h82:iL s9 1=s9+1:=jI ah ah;exact hk43 _ ae ae
 have h83:iL s4 1=s4+1:=jI ah ah;exact hk20 _ ⟨ae,ae⟩ ae
 (try simp only[gK] at h21)
 refine ji (λ(T:Int)=>0<=T/\T<=(s.waiting.length:Int)) (λ(T:Int)=>((s.waiting.length:Int)-T).toNat) ⟨ae,ae⟩ ak (λT k15 hI84 hk85=>?_);obtain⟨hI84_0,hI84_1⟩:=hI84;unfold IE;apply gm<;>intro h86
 (try simp only[gK] at h86)
 refine jV ae ae (λx17 h87=>?_);have z88:EE x17:=z9 x17 h87;refine gU (λ(s18:Bool)=>s18=false->x17.gz.kind=4) (λk19 R=>gp (lC _ _ au) (λy21 h106=>gq (λh107=>R _ af) (λh107=>lN (λh108=>R _ af) (λh108=>gp (I4 _ aN) (λy22 h109=>R _ af))))) (λs18 hs105=>?_);refine gq (λh110=>fZ trivial) (λh110=>?_);have hf111:=hs105 h110;have h112:iL T 1=T+1:=jI ah ah;exact hk85 _ ⟨ae,ae⟩ ae
 (try simp only[gK] at h86)
 refine ji (λ(J:Int)=>0<=J/\J<=(s.uB.length:Int)) (λ(J:Int)=>((s.uB.length:Int)-J).toNat) ⟨ae,ae⟩ ak (λJ k24 hI113 hk114=>?_);obtain⟨hI113_0,hI113_1⟩:=hI113;unfold IC;apply gm<;>intro h115
 (try simp only[gK] at h115)
 refine jV ae ae (λx26 h116=>?_);have z117:OJ x26:=z11 x26 h116;have z118:=((z117).1).1;have z119:=((z117).2).1;have z120:=((z117).2).2;refine gU (λ(s27:Bool)=>s27=false->¬(s.sG<=x26.stamp)) (λk28 U=>gp (lC _ _ au) (λy30 h123=>gq (λh124=>U _ af) (λh124=>gm (λh125=>U _ af) (λh125=>gp (jC _ _ _ ) (λy31 h126=>gq (λh127=>U _ af) (λh127=>gp (aaE _ ax) (λy32 h128=>gq (λh129=>U _ af) (λh129=>gp (AY _ ax) (λy33 h130=>U _ af))))))))) (λs27 hs122=>?_);refine gq (λg=>fZ trivial) (λg=>?_);have hf132:=hs122 g;have h133:iL J 1=J+1:=jI ah ah;exact hk114 _ ⟨ae,ae⟩ ae
 (try simp only[gK] at h115)
 exact fZ trivial
theorem aaF (cards:List GCard)(s:GState)(I:(qL lT) cards)(zz_s:jE s):Ok (λr=>True) (AP cards s):=by
 unfold AP;refine gU (λ(s1:Bool)=>s1=false->¬(2048<(s.objects.length:Int))) (λk2 T=>gp (jC _ _ _ ) (λy4 h17=>gq (λh18=>T _ af) (λh18=>gp (jC _ _ _ ) (λy5 h19=>gq (λh20=>T _ af) (λh20=>gp (jC _ _ _ ) (λy6 h21=>gq (λh22=>T _ af) (λh22=>gp (jC _ _ _ ) (λy7 h23=>gq (λh24=>T _ af) (λh24=>T _ af))))))))) (λs1 g=>?_);refine gq (λh25=>fZ trivial) (λh25=>?_);have hf26:=g h25;refine gU (λ(s8:Bool)=>s8=false->¬(500<(s.extra.length:Int))) (λk9 U=>?_) (λs8 hs28=>?_)
 refine gp (Ja _ au) (λy11 h29=>?_);refine gq (λh30=>U _ af) (λh30=>?_);refine gp (lC _ _ au) (λy12 h31=>?_);refine gq (λh32=>U _ af) (λh32=>?_);refine gp (lC _ _ au) (λy13 h33=>?_);refine gq (λh34=>U _ af) (λh34=>?_);refine gp (jC _ _ _ ) (λy14 h35=>?_);refine gq (λh36=>U _ af) (λh36=>?_);apply gm<;>intro h37
 (try simp only[gK] at h37)
 exact U _ af
 (try simp only[gK] at h37)
 exact gp (jC _ _ _ ) (λy15 h38=>U _ af)
 refine gq (λC=>fZ trivial) (λC=>?_);have hf40:=hs28 C;refine ji (λ(J:Int)=>0<=J/\J<=(s.extra.length:Int)) (λ(J:Int)=>((s.extra.length:Int)-J).toNat) ⟨ae,ae⟩ ak (λJ k17 hI41 hk42=>?_);obtain⟨hI41_0,hI41_1⟩:=hI41;unfold GX;apply gm<;>intro h43
 (try simp only[gK] at h43)
 refine jV ae ae (λx19 h44=>?_);refine gp (lC _ _ au) (λy20 h45=>?_);refine gq (λh46=>fZ trivial) (λh46=>?_);have h47:iL J 1=J+1:=jI ah ah;exact hk42 _ ⟨ae,ae⟩ ae
 (try simp only[gK] at h43)
 exact gU (λ(s21:Bool)=>True) (λk22 R=>gm (λh50=>gp (lC _ _ au) (λy24 h51=>gq (λh52=>R _ trivial) (λh52=>lN (λh53=>R _ trivial) (λh53=>R _ trivial)))) (λh50=>lN (λh54=>R _ trivial) (λh54=>R _ trivial))) (λs21 hs49=>gq (λh55=>fZ trivial) (λh55=>gp (QS _ _ ax au) (λy25 h56=>gq (λh57=>gp (LK _ au) (λy26 h58=>fZ trivial)) (λh57=>fZ trivial))))
structure Xu (c:GCard):Prop where
 types:1<=c.line.types/\c.line.types<=63
 keys:0<=c.keys/\c.keys<=131071
 agL:c.abilities.length<=8
 pt:(0<=c.power/\c.power<=99)/\0<=c.ik/\c.ik<=99
theorem aeZ (l:wO)(hl:yH l):Ok (λr=>r=true->1<=l.types/\l.types<=63) (FZ l):=by
 obtain⟨r,e,_⟩:=Ue l hl;refine⟨r,e,λh=>?_⟩;subst h
 by_cases h1:l.types<1
 exfalso
 have:FZ l=some false:=by
  unfold FZ;refine ok_eq (gU (λb=>b=true) (λk hk=>?_) λb hb=>by subst hb;exact fZ rfl);exact gm (λ_=>hk _ rfl) λ_=>gm (λ_=>hk _ rfl) λ_=>gm (λ_=>hk _ rfl) λh=>absurd h1 h
 rw[e] at this;cases this
 by_cases h2:63<l.types
 exfalso
 have:FZ l=some false:=by
  unfold FZ;refine ok_eq (gU (λb=>b=true) (λk hk=>?_) λb hb=>by subst hb;exact fZ rfl);exact gm (λ_=>hk _ rfl) λ_=>gm (λ_=>hk _ rfl) λ_=>gm (λ_=>hk _ rfl) λ_=>gm (λ_=>hk _ rfl) λh=>absurd h2 h
 rw[e] at this;cases this
 omega
theorem ae0 (k:Int):JH k=some (decide (0<=k/\k<=131071)):=by
 unfold JH;exact ok_eq (gm (λh=>fZ dJ) λh=>fZ dJ)
theorem ae1 (c:GCard)(U:lT c):Ok (λr=>r=true->Xu c) (JZ c):=by
 obtain⟨r,e,_⟩:=aaC c U;refine⟨r,e,λh=>?_⟩;subst h;refine Classical.byContradiction λT=>?_
 have:JZ c=some false:=by
  unfold JZ;refine ok_eq (gU (λb=>b=false->(1<=c.line.types/\c.line.types<=63)/\(0<=c.keys/\c.keys<=131071)) (λk hk=>?_) λb hb=>?_)
  refine gp (IY _ U.1) λ_ _=>gq (λ_=>hk _ λh=>by cases h) λ_=>gp (IX _) λ_ _=>gq (λ_=>hk _ λh=>by cases h) λ_=>?_;refine gp (aeZ _ U.2.1) λy hy=>gq (λ_=>hk _ λh=>by cases h) λh1=>iJ (ae0 _) (gq (λ_=>hk _ λh=>by cases h) λh2=>?_);have h1:y=true:=by cases y with|true=>rfl|false=>cases h1
  have h2:0<=c.keys/\c.keys<=131071:=by
   cases I:decide (0<=c.keys/\c.keys<=131071) with
   | true=>exact of_decide_eq_true I
   | false=>rw[I] at h2;cases h2
  exact gm (λ_=>hk _ λh=>by cases h) λ_=>hk _ λ_=>⟨hy h1,h2⟩
  refine gq (λ_=>fZ rfl) λJ=>?_;obtain⟨g1,g2⟩:=hb J
  have C:((0<=c.power/\c.power<=99)/\0<=c.ik/\c.ik<=99)->8<gK c.abilities:=by
   intro R;refine Classical.byContradiction λh=>T ⟨g1,g2,?_,R⟩;simp only[gK] at h;omega
  refine gU (λb=>b=true) (λk hk=>?_) λb hb=>by subst hb;exact fZ rfl
  refine gm (λ_=>hk _ rfl) λa1=>gm (λ_=>hk _ rfl) λa2=>gm (λ_=>hk _ rfl) λa3=>gm (λ_=>hk _ rfl) λa4=>?_;have last:Ok (λr=>r=false) (k (decide (8<gK c.abilities))):=hk _ (decide_eq_true (C ah));exact gp (Ho c U) λ_ _=>gq (λ_=>lN (λ_=>hk _ rfl) λ_=>lN (λ_=>hk _ rfl) λ_=>last) λ_=>last
 rw[e] at this;cases this
theorem acQ (l:List GCard)(hl:qL lT l):Ok (λr=>r.2=0->∀ c∈l,Xu c) (GZ l):=by
 have hlen:=hl.1;unfold GZ;refine gm (λ_=>fZ λh=>by cases h) λ_=>?_;refine uV 0 l.length (λn=>∀ c∈l.take n,Xu c) 0 rfl (Nat.zero_le _) ah aB (λi k hi T hk=>?_) λk T=>?_
 have hx:=hl.2 _ (List.getElem_mem hi);unfold Df;refine gm (λ_=>iV i rfl hi (gp (ae1 _ hx) λy hy=>gq (λ_=>fZ λh=>by cases h) λh1=>iV i rfl hi (gp (Xp l _ hl hx.1) λ_ _=>gm (λ_=>fZ λh=>by cases h) λ_=>iV i rfl hi (gp (QR l _ hl hx) λ_ _=>gq (λ_=>fZ λh=>by cases h) λ_=>hk λc U=>?_)))) λh=>absurd (show (i:Int)<(l.length:Int) by omega) h;rw[lF l i hi] at U;rcases List.mem_append.1 U with U|U
 exact T c U
 rw[List.mem_singleton.1 U];exact hy (by cases y with|true=>rfl|false=>cases h1)
 unfold Df;rw[zL] at T;exact gm (λh=>absurd h aX) λ_=>fZ λ_=>T
theorem ae2 (cards:List GCard)(s:GState)(T:qL lT cards)(hs:jE s):Ok (λr=>r=true->s.objects.length<=2048) (AP cards s):=by
 obtain⟨r,e,_⟩:=aaF cards s T hs;refine⟨r,e,λh=>?_⟩;subst h;refine Classical.byContradiction λU=>?_
 have:AP cards s=some false:=by
  unfold AP;refine ok_eq (gU (λb=>b=true) (λk hk=>?_) λb hb=>by subst hb;exact fZ rfl);refine gp (jC _ _ _) λ_ _=>gq (λ_=>hk _ rfl) λ_=>gp (jC _ _ _) λ_ _=>gq (λ_=>hk _ rfl) λ_=>gp (jC _ _ _) λ_ _=>gq (λ_=>hk _ rfl) λ_=>gp (jC _ _ _) λ_ _=>gq (λ_=>hk _ rfl) λ_=>hk _ ?_;exact decide_eq_true (by simp only[gK];omega)
 rw[e] at this;cases this
def Asc (l:List GObject):Prop:=∀ (i:Nat) (a b:GObject),l[i]?=some a->l[i+1]?=some b->a.id<b.id
theorem Asc.lt {l:List GObject}(h:Asc l):∀ (d i:Nat) (a b:GObject),l[i]?=some a->l[i+1+d]?=some b->a.id<b.id
 | 0,i,a,b,ha,hb=>h i a b ha hb
 | d+1,i,a,b,ha,hb=>by
  have U:i+1<l.length:=by
   have:=(List.getElem?_eq_some_iff.1 hb).1;omega
  have h1:=h i a _ ha (List.getElem?_eq_getElem U);have h2:=Asc.lt h d (i+1) _ b (List.getElem?_eq_getElem U) (by rw[show i+1+1+d=i+1+(d+1) by omega];exact hb);omega
theorem Asc.inj {l:List GObject}(h:Asc l){i j:Nat}{a b:GObject}(U:l[i]?=some a)(hb:l[j]?=some b)(e:a.id=b.id):i=j:=by
 rcases Nat.lt_trichotomy i j with hij|hij|hij
 have:=h.lt (j-i-1) i a b U (by rw[show i+1+(j-i-1)=j by omega];exact hb);omega
 exact hij
 have:=h.lt (i-j-1) j b a hb (by rw[show j+1+(i-j-1)=i by omega];exact U);omega
theorem abQ {Pr:Prop}(cards:List GCard)(s:GState)(J:qL lT cards)(hs:jE s)(R:Ok (λr=>r=true->Pr) (sV cards s))(h:AP cards s=some true):Pr:=by
 have T:=hs.2.2.2.2.2.2.2
 have:Ok (λr=>r=true->Pr) (AP cards s):=by
  unfold AP;refine gU (λ_=>True) (λk hk=>?_) λb _=>?_
  exact gp (jC _ _ _) λ_ _=>gq (λ_=>hk _ trivial) λ_=>gp (jC _ _ _) λ_ _=>gq (λ_=>hk _ trivial) λ_=>gp (jC _ _ _) λ_ _=>gq (λ_=>hk _ trivial) λ_=>gp (jC _ _ _) λ_ _=>gq (λ_=>hk _ trivial) λ_=>hk _ trivial
  refine gq (λ_=>fZ λh=>by cases h) λ_=>gU (λ_=>True) (λk hk=>?_) λb _=>?_
  exact gp (Ja s hs) λ_ _=>gq (λ_=>hk _ trivial) λ_=>gp (lC _ _ hs) λ_ _=>gq (λ_=>hk _ trivial) λ_=>gp (lC _ _ hs) λ_ _=>gq (λ_=>hk _ trivial) λ_=>gp (jC _ _ _) λ_ _=>gq (λ_=>hk _ trivial) λ_=>gm (λ_=>hk _ trivial) λ_=>gp (jC _ _ _) λ_ _=>hk _ trivial
  refine gq (λ_=>fZ λh=>by cases h) λ_=>?_;refine uV 0 s.extra.length (λ_=>True) 0 rfl (Nat.zero_le _) (by have:=T.1;omega) trivial (λi k hi _ hk=>?_) λk _=>?_
  unfold GX;exact gm (λ_=>iV i rfl hi (gp (lC _ _ hs) λ_ _=>gq (λ_=>fZ λh=>by cases h) λ_=>hk trivial)) λh=>absurd (show (i:Int)<(s.extra.length:Int) by omega) h
  unfold GX;refine gm (λh=>absurd h (by show ¬ (s.extra.length:Int)<(s.extra.length:Int);omega)) λ_=>gU (λ_=>True) (λk hk=>?_) λb _=>?_
  exact gm (λ_=>gp (lC _ _ hs) λ_ _=>gq (λ_=>hk _ trivial) λ_=>lN (λ_=>hk _ trivial) λ_=>hk _ trivial) λ_=>lN (λ_=>hk _ trivial) λ_=>hk _ trivial
  refine gq (λ_=>fZ λh=>by cases h) λ_=>gp R λy hy=>gq (λU=>gp (LK s hs) λ_ _=>fZ λ_=>hy U) λ_=>fZ λh=>by cases h
 obtain⟨r,e,hr⟩:=this;rw[h] at e;cases e;exact hr rfl
theorem agQ (o:GObject)(c p:Int):Ok (λr=>r=true->1<=o.id) (JE o c p):=by
 obtain⟨r,e,_⟩:=Uo o c p;refine⟨r,e,λh=>?_⟩;subst h;refine Classical.byContradiction λhn=>?_
 have:JE o c p=some false:=by
  unfold JE;refine ok_eq (gU (λb=>b=true) (λk hk=>gm (λ_=>hk _ rfl) λh=>absurd (show o.id<1 by omega) h) λb hb=>by subst hb;exact fZ rfl)
 rw[e] at this;cases this
theorem QF (cards:List GCard)(s:GState)(J:qL lT cards)(hs:jE s):Ok (λr=>r=true->∀ o∈s.objects,1<=o.id) (sV cards s):=by
 have hlen:=hs.2.1.1;have no:∀ {p:Prop},((true:Bool)=false->p):=λe=>by cases e
 unfold sV;refine gm (λ_=>fZ λh=>by cases h) λ_=>?_;refine uV 0 s.objects.length (λn=>∀ o∈s.objects.take n,1<=o.id) 0 rfl (Nat.zero_le _) ah aB (λi k hi R hk=>?_) λk R=>?_
 unfold vS;refine gm (λ_=>iV i rfl hi (gU (λb=>b=false->1<=s.objects[i].id) (λk6 T=>?_) λb hb=>?_)) λh=>absurd (show (i:Int)<(s.objects.length:Int) by omega) h
 refine gp (agQ _ _ _) λy hy=>gq (λ_=>T _ no) λh=>?_;have hp:=hy (by cases y with|true=>rfl|false=>cases h);refine gm (λ_=>T _ no) λ_=>gm (λ_=>T _ no) λ_=>gm (λh=>?_) λh=>T _ λ_=>hp;have U:Cc (i:Int) 1=((i-1:Nat):Int):=by rw[Fv ah ah];omega
 rw[U];exact iV (i-1) rfl ah (T _ λ_=>hp)
 refine gq (λ_=>fZ λh=>by cases h) λh=>gp (KC _ _ hs) λ_ _=>gq (λ_=>fZ λh=>by cases h) λ_=>hk λo ho=>?_;rw[lF _ i hi] at ho;rcases List.mem_append.1 ho with ho|ho
 exact R o ho
 rw[List.mem_singleton.1 ho];exact hb h
 unfold vS;rw[zL] at R;exact gm (λh=>absurd h aQ) λ_=>fZ λ_=>R
theorem EH {ρ α:Type}{Q:ρ->Prop}{step:Int->(Int->Option ρ)->Option ρ}(l:List α)(hl:l.length<=1048576)(h:∀ (i:Nat) (k:Int->Option ρ),i<l.length->Ok Q (k (iL (i:Int) 1))->Ok Q (step (i:Int) k))(he:∀ k,Ok Q (step (l.length:Int) k)):Ok Q (iF step 0) :=
 uV 0 l.length (λ_=>True) 0 rfl (Nat.zero_le _) ah trivial (λi k hi _ hk=>h i k hi (hk trivial)) λk _=>he k
theorem ai0 {e:iT}(h:l9 e):e.jY.length<=1048576:=h.2.2.2.2.1
theorem ltT {α:Type}{l:List α}{i:Nat}(h:i<l.length):decide ((i:Int)<gK l)=true:=by simp[gK];omega
theorem ltF {α:Type}{l:List α}:decide ((l.length:Int)<gK l)=false:=by simp[gK]
theorem AZ (a:List Int)(U:a.length<=1048576):vY a a=some true:=by
 unfold vY;refine ok_eq (jQ aB (EH a U (λi k hi hk=>?_) λk=>?_))
 unfold Fj;exact jK (ltT hi) (iV i rfl hi (iV i rfl hi (jQ aB hk)))
 unfold Fj;exact jQ ltF (fZ rfl)
theorem VG (a:List jv)(U:a.length<=1048576):qX a a=some true:=by
 unfold qX;refine ok_eq (jQ aB (EH a U (λi k hi hk=>?_) λk=>?_))
 unfold uF;exact jK (ltT hi) (iV i rfl hi (iV i rfl hi (wS (b:=false) di hk)))
 unfold uF;exact jQ ltF (fZ rfl)
theorem aaG (a:List jv)(U:a.length<=1048576):zH a a=some true:=by
 unfold zH;refine ok_eq (jQ aB (EH a U (λi k hi hk=>?_) λk=>?_))
 unfold xO;exact jK (ltT hi) (iV i rfl hi (iV i rfl hi (wS (b:=false) di hk)))
 unfold xO;exact jQ ltF (fZ rfl)
theorem Zb (a:iT)(U:l9 a):Ei a a=some true:=by
 unfold Ei;exact ok_eq (jK aB (wS (b:=true) di (jK rfl (wS (b:=true) di (jK rfl (jK aB (jK aB (jK di (wS (b:=true) di (jK rfl (wS (b:=true) aB (jK rfl (iJ (VG _ (ai0 U)) (fZ rfl))))))))))))))
theorem Xv (a:List iT)(U:qL l9 a):tK a a=some true:=by
 unfold tK;refine ok_eq (jQ aB (EH a U.1 (λi k hi hk=>?_) λk=>?_))
 unfold uG;exact jK (ltT hi) (iV i rfl hi (iV i rfl hi (iJ (Zb _ (U.2 _ (List.getElem_mem hi))) (jQ aB hk))))
 unfold uG;exact jQ ltF (fZ rfl)
theorem O1 (a:GAbility)(U:kY a):yZ a a=some true:=by
 have h1:a.jY.length<=1048576:=U.2.1.1;have h2:a.specs.length<=1048576:=U.2.2.2.1.1;unfold yZ;refine ok_eq (jQ aB (EH a.specs h2 (λi k hi hk=>?_) λk=>?_))
 unfold BI;exact jK (ltT hi) (iV i rfl hi (iV i rfl hi (wS (b:=false) di hk)))
 unfold BI;exact jQ ltF (jK aB (wS (b:=true) di (jK rfl (iJ (VG _ h1) (jK rfl (wS (b:=true) aB (jK rfl (jK aB (wS (b:=true) di (jK rfl (jK aB (iJ (Xv _ U.2.2.2.2.1) (jK rfl (wS (b:=true) di (fZ rfl)))))))))))))))
theorem acR (a:uA)(U:IW a):zG a a=some true:=by
 have h1:a.targets.length<=1048576:=U.2.1;unfold zG;refine ok_eq (jQ aB (EH a.targets h1 (λi k hi hk=>?_) λk=>?_))
 unfold xN;exact jK (ltT hi) (iV i rfl hi (iV i rfl hi (wS (b:=false) aB hk)))
 unfold xN;exact jQ ltF (jK aB (jK aB (jK aB (jK aB (jK aB (jK aB (iJ (O1 _ U.1) (jK rfl (wS (b:=true) aB (fZ rfl))))))))))
theorem Xw (a:mD)(U:EE a):uJ a a=some true:=by
 unfold uJ;exact ok_eq (jK aB (jK aB (iJ (O1 _ U) (jK rfl (wS (b:=true) aB (fZ rfl))))))
theorem acS (a:uX)(U:OJ a):zI a a=some true:=by
 unfold zI;exact ok_eq (jK aB (jK aB (jK aB (jK aB (iJ (AZ _ U.1.1) (iJ (aaG _ U.2.1) (fZ rfl)))))))
theorem Zc (a:oP)(U:yC a):vZ a a=some true:=by
 unfold vZ;refine ok_eq (gU (λs=>s=false) ?_ ?_)
 intro k h;exact jQ aB (jQ aB (jQ aB (wS (b:=false) aB (jQ rfl (jQ aB (h _ aB))))))
 rintro s rfl
 exact iJ (AZ _ U.1.1) (iJ (AZ _ U.2.1.1) (iJ (AZ _ U.2.2.1) (fZ rfl)))
theorem aaH (a:GState)(U:jE a):G7 a a=some true:=by
 obtain⟨p1,p2,p3,p4,p5,p6,p7,p8⟩:=U;unfold G7;refine ok_eq (gU (λs=>s=false) ?_ ?_)
 intro k h;exact jQ aB (jQ aB (jQ aB (jQ aB (h _ aB))))
 rintro s rfl
 refine jQ rfl (EH a.jk p1.1 (λi k hi hk=>?_) λk=>?_)
 unfold Dt;exact jK (ltT hi) (iV i rfl hi (iV i rfl hi (iJ (Zc _ (p1.2 _ (List.getElem_mem hi))) (jQ aB hk))))
 unfold Dt;refine jQ ltF (EH a.objects p2.1 (λi k hi hk=>?_) λk=>?_)
 unfold Dq;exact jK (ltT hi) (iV i rfl hi (iV i rfl hi (wS (b:=false) aB hk)))
 unfold Dq;refine jQ ltF (EH a.stack p5.1 (λi k hi hk=>?_) λk=>?_)
 unfold Dp;exact jK (ltT hi) (iV i rfl hi (iV i rfl hi (iJ (acR _ (p5.2 _ (List.getElem_mem hi))) (jQ aB hk))))
 unfold Dp;refine jQ ltF (EH a.waiting p6.1 (λi k hi hk=>?_) λk=>?_)
 unfold Dn;exact jK (ltT hi) (iV i rfl hi (iV i rfl hi (iJ (Xw _ (p6.2 _ (List.getElem_mem hi))) (jQ aB hk))))
 unfold Dn;refine jQ ltF (EH a.uB p7.1 (λi k hi hk=>?_) λk=>?_)
 unfold Dk;exact jK (ltT hi) (iV i rfl hi (iV i rfl hi (iJ (acS _ (p7.2 _ (List.getElem_mem hi))) (jQ aB hk))))
 unfold Dk;exact jQ ltF (fZ rfl)
theorem aaI (a:GState)(U:jE a):J7 a a=some true:=by
 unfold J7;refine ok_eq (gU (λs=>s=false) ?_ ?_)
 intro k h;exact jQ aB (jQ aB (jQ aB (jQ aB (jQ aB (jQ aB (jQ aB (jQ aB (jQ aB (jQ aB (h _ aB))))))))))
 rintro s rfl
 obtain⟨p1,p2,p3,p4,p5,p6,p7,p8⟩:=id U;exact iJ (aaH a U) (iJ (AZ _ p3.1) (iJ (AZ _ p4.1) (iJ (AZ _ p8.1) (fZ rfl))))
theorem Us (s:GState)(p:Int)(R:jE s):Ok (λr=>True) (tN s p):=by
 unfold tN;refine gm (λT=>?_) (λT=>fZ trivial);apply gm<;>intro U
 (try simp only[gK] at U)
 exact jV ae ae (λI J=>fZ trivial)
 (try simp only[gK] at U)
 exact fZ trivial
theorem qI (n:Int)  : Ok (λr=>True) (l7 n):=by
 unfold l7;exact gm (λh1=>fZ trivial) (λh1=>fZ trivial)
theorem aaJ (s:GState)(id:Int)(iI:Int)(T:jE s):Ok (λr=>True) (ML s id iI):=by
 unfold ML;exact gp (I5 _ _ au) (λJ R=>gq (λU=>fZ trivial) (λU=>fZ trivial))
theorem aaK (cards:List GCard)(s:GState)(pe:GEvent)(T:(qL lT) cards)(zz_s:jE s):Ok (λr=>True) (IJ cards s pe):=by
 unfold IJ;refine gp (I5 _ _ au) (λy1 h15=>?_);refine gU (λ(s2:Bool)=>True) (λk3 U=>gq (λh18=>U _ trivial) (λh18=>U _ trivial)) (λs2 hs17=>?_);refine gp (Us _ _ au) (λy5 h19=>?_);refine gm (λh20=>gp (qI _ ) (λy6 h21=>gq (λh22=>gq (λh23=>fZ trivial) (λh23=>gm (λh24=>fZ trivial) (λh24=>fZ trivial))) (λh22=>fZ trivial))) (λh20=>?_);refine gm (λh25=>gq (λh26=>gm (λh27=>lN (λh28=>gm (λh29=>gm (λh30=>gm (λI=>fZ trivial) (λI=>fZ trivial)) (λh30=>fZ trivial)) (λh29=>fZ trivial)) (λh28=>fZ trivial)) (λh27=>fZ trivial)) (λh26=>fZ trivial)) (λh25=>?_);refine gm (λg=>fZ trivial) (λg=>?_);refine gm (λh33=>fZ trivial) (λh33=>?_);refine gm (λh34=>fZ trivial) (λh34=>?_);refine gm (λh35=>fZ trivial) (λh35=>?_);refine gm (λh36=>gq (λh37=>gp (qI _ ) (λy7 h38=>fZ trivial)) (λh37=>fZ trivial)) (λh36=>?_);refine gm (λh39=>gq (λh40=>gp (qI _ ) (λy8 h41=>fZ trivial)) (λh40=>fZ trivial)) (λh39=>?_);refine gm (λh42=>gq (λh43=>gp (qI _ ) (λy9 h44=>fZ trivial)) (λh43=>fZ trivial)) (λh42=>?_)
 refine gm (λh45=>gq (λh46=>fZ trivial) (λh46=>fZ trivial)) (λh45=>?_);refine gm (λh47=>gq (λh48=>fZ trivial) (λh48=>fZ trivial)) (λh47=>?_);refine gm (λh49=>gq (λh50=>gm (λh51=>gm (λC=>gp (qI _ ) (λy10 h53=>fZ trivial)) (λC=>fZ trivial)) (λh51=>fZ trivial)) (λh50=>fZ trivial)) (λh49=>?_);refine gm (λh54=>gq (λh55=>gm (λh56=>gm (λh57=>gp (qI _ ) (λy11 h58=>fZ trivial)) (λh57=>fZ trivial)) (λh56=>fZ trivial)) (λh55=>fZ trivial)) (λh54=>?_);refine gm (λh59=>?_) (λh59=>gm (λh73=>gq (λh74=>gm (λh75=>fZ trivial) (λh75=>fZ trivial)) (λh74=>fZ trivial)) (λh73=>gm (λh76=>gq (λJ=>fZ trivial) (λJ=>fZ trivial)) (λh76=>gm (λh78=>gq (λh79=>gp (aaJ _ _ _ au) (λy14 h80=>fZ trivial)) (λh79=>fZ trivial)) (λh78=>fZ trivial))));refine gq (λh60=>?_) (λh60=>fZ trivial);refine gm (λh61=>?_) (λh61=>fZ trivial);apply gm<;>intro R
 (try simp only[gK] at R)
 exact jV ae ae (λx12 h63=>gq (λh71=>gp (qI _ ) (λy13 h72=>fZ trivial)) (λh71=>fZ trivial))
 (try simp only[gK] at R)
 exact fZ trivial
theorem Xx {α:Type}(o:Option α):bnd o (λy=>some y)=o:=by cases o<;>rfl
theorem ae3 (s:GState)(id:Int):Em s id=yu s id:=by
 unfold Em kz;rw[Xx];rfl
theorem find_eq (s:GState)(id:Int):yx s id=uC s id:=by
 unfold yx uC;rw[ae3]
theorem acT (s:GState)(p:Int):kS s p=tN s p:=rfl
theorem acU (U:GEvent):qc U=l7 U.amount:=rfl
theorem acV (s:GState)(p:Int):∃ b,tN s p=some b:=by
 have:Ok (λ_=>True) (tN s p):=by
  unfold tN;exact gm (λh=>gm (λh2=>jV h (by simp only[gK] at h2;exact h2) λ_ _=>fZ trivial) λ_=>fZ trivial) λ_=>fZ trivial
 exact⟨_,this.choose_spec.1⟩
theorem acW (n:Int):∃ b,l7 n=some b:=by
 have:Ok (λ_=>True) (l7 n):=by
  unfold l7;exact gm (λh=>fZ trivial) λ_=>fZ trivial
 exact⟨_,this.choose_spec.1⟩
theorem aaL (s:GState)(id:Int)(hs:s.objects.length<=1048576):Ok (λr=>r=-1\/∃ i:Nat,∃ h:i<s.objects.length,r=(i:Int)/\s.objects[i].id=id) (yu s id):=by
 unfold yu;refine uV 0 s.objects.length (λ_=>True) 0 rfl (Nat.zero_le _) ah trivial (λi k hi _ hk=>?_) λk _=>?_
 unfold yQ;exact gm (λ_=>iV i rfl hi (gm (λh=>fZ (.inr ⟨i,hi,rfl,h⟩)) λ_=>hk trivial)) λh=>absurd (show (i:Int)<(s.objects.length:Int) by omega) h
 unfold yQ;exact gm (λh=>absurd h aQ) λ_=>fZ (.inl rfl)
theorem find_spec (s:GState)(id:Int)(hs:s.objects.length<=1048576):∃ y,uC s id=some y/\(y.2=true->∃ o∈s.objects,o.id=id):=by
 have:Ok (λy:GObject×Bool=>y.2=true->∃ o∈s.objects,o.id=id) (uC s id):=by
  unfold uC;refine gp (aaL s id hs) λr hr=>gm (λ_=>fZ λh=>by cases h) λhn=>?_;rcases hr with rfl|⟨i,hi,rfl,hid⟩
  exact absurd ah hn
  exact iV i rfl hi (fZ λ_=>⟨_,List.getElem_mem hi,hid⟩)
 exact this
theorem abR {ρ:Type}{c:Bool}{a b T U : Option ρ}(h1:c=true->a=T)(h2:c=false->b=U):br c a b=br c T U:=by
 cases c with
 | true=>exact h1 rfl
 | false=>exact h2 rfl
theorem aaM {α β γ:Type}(o:Option α)(f:α->Option β)(g:β->Option γ):bnd (bnd o f) g=bnd o (λx=>bnd (f x) g):=by cases o<;>rfl
theorem Zd (cards:List GCard)(s:GState)(U:GEvent)(hs:s.objects.length<=1048576)(hp:∀ o∈s.objects,1<=o.id):zn cards s U=IJ cards s U:=by
 obtain⟨y,hy,J⟩:=find_spec s U.object hs;obtain⟨z,C,_⟩:=find_spec s U.source hs;obtain⟨lv,hl⟩:=acV s U.iY;obtain⟨am,ha⟩:=acW U.amount
 have T:y.2=true->U.object≠0:=λh e=>by
  obtain⟨o,ho,hid⟩:=J h;have:=hp o ho;omega
 have O:mX s U.object=some (y.1,y.2&&decide (y.1.iI=0)):=by
  unfold mX;rw[find_eq,hy];show br y.2 _ _=_;cases y.2<;>rfl
 have g:mX s U.source=some (z.1,z.2&&decide (z.1.iI=0)):=by
  unfold mX;rw[find_eq,C];show br z.2 _ _=_;cases z.2<;>rfl
 have R:ML s U.source 0=some (z.2&&decide (z.1.iI=0)):=by
  unfold ML;rw[C];show br z.2 _ _=_;cases z.2<;>rfl
 unfold zn IJ Ff Fg zl Bh;rw[O,g,hy,find_eq,hy,R,acT,hl,acU,ha]
 have hk:∀ (rest:Bool->Option Bool) (c:Bool),jn rest (λk3=>br y.2 (k3 c) (k3 false))=rest (y.2&&c):=by
  intro rest c;cases y.2<;>rfl
 have hb:∀ {α β:Type} (a:α) (k:α->Option β),bnd (some a) k=k a:=λ_ _=>rfl;have he:decide (y.1.iI=U.Ad)=decide (U.Ad=y.1.iI):=by simp[eq_comm]
 simp only[hb,Xx,he];rw[hk];generalize I:(y.2&&decide (y.1.iI=0))=fd;have hfo:fd=true->U.object≠0:=λh=>T (by rw[<- I] at h;simp at h;exact h.1);refine abR (λ_=>?_) (λ_=>?_)
 cases am<;>cases fd<;>cases lv<;>first|rfl|(by_cases h0:U.object=0<;>simp[bnd,br,h0]<;>simp_all)
 repeat (refine abR (λ_=>?_) (λ_=>?_);focus (cases am<;>cases fd<;>cases lv<;>rfl))
 rfl
theorem Xy (k:kV)(cards:List GCard)(s:GState)(U:GEvent)(T:qL lT cards)(hs:jE s)(hv:∀ c∈cards,c.abilities.length<=8)(ho:s.objects.length<=2048)(he:zn cards s U=some false):sS k cards s U true=some (s,U,true):=by
 unfold sS;refine ok_eq (ji (λ_=>True) (λ_=>0) trivial bU λR k2 _ _=>?_);unfold wQ;refine gp (agP cards s T hs hv ho) λall _=>?_
 have hl:nT cards s all U [] true=some []:=by
  unfold nT Dj replace_options;rw[he];rfl
 refine iJ hl (fZ ?_);rfl
theorem acX (k:kV)(cards:List GCard)(s:GState)(U:GEvent)(T:qL lT cards)(hs:jE s)(hv:∀ c∈cards,c.abilities.length<=8)(ho:s.objects.length<=2048)(he:zn cards s U=some false):vX k cards s U=some s:=by
 unfold vX zC;rw[Xx,Xy k cards s U T hs hv ho he];show jn _ _=_;show bnd (zn cards s U) _=_;rw[he];rfl
def O3 (x:qA):Prop:=(qL lT) x.cards/\jE x.s/\(qL (qL (λ(_:Int)=>True))) x.answers
theorem agR (answers:List (List Int))(h:qL (qL (λ(_:Int)=>True)) answers):Ob answers=some ⟨answers,0,Gu,false,false⟩:=by
 unfold Ob;have hl:=h.1;refine ok_eq (lq 0 answers.length (λi t=>t=answers.take i) 0 rfl (Nat.zero_le _) ah aB ?_ ?_)
 rintro i t k hi rfl hk
 have U:=(h.2 _ (List.getElem_mem hi)).1;unfold IK;refine jK (ltT hi) (iV i rfl hi (iJ (x:=answers[i]) (ok_eq (lU ah ah (fZ rfl))) (lU ?_ ?_ (hk _ (lF answers i hi).symm))))
 simp only[List.length_take,List.length_cons,List.length_nil];omega
 simp only[List.length_take,List.length_cons,List.length_nil];omega
 rintro t k rfl
 unfold IK;rw[List.take_length];exact jQ ltF (fZ rfl)
theorem O4 (p:qA)(hp:O3 p):uf p=some true:=by
 obtain⟨U,hs,ha⟩:=hp;unfold uf;refine ok_eq (gU (λb=>b=false->((∀ c∈p.cards,Xu c)/\AP p.cards p.s=some true)/\IJ p.cards p.s p.e=some false) (λk hk=>?_) λb hb=>?_)
 unfold Fe;rw[aaM];refine gp (acQ p.cards U) λy1 h1=>?_;show Ok _ (bnd (br (decide (y1.2=0)) _ _) _)
 by_cases h0:y1.2=0
 rw[decide_eq_true h0];obtain⟨J,e,h2⟩:=ae2 p.cards p.s U hs;show Ok _ (bnd (bnd (AP p.cards p.s) _) _);rw[Xx];refine iJ e (gq (λ_=>hk _ λh=>by cases h) λhy=>?_);have hy:J=true:=by cases J with|true=>rfl|false=>cases hy
 subst hy;have T:=Zd p.cards p.s p.e (by have:=h2 rfl;omega) (abQ p.cards p.s U hs (QF p.cards p.s U hs) e);obtain⟨r,hr⟩:∃ r,IJ p.cards p.s p.e=some r:=by obtain⟨r,e,_⟩:=aaK p.cards p.s p.e U hs;exact⟨r,e⟩
 refine iJ hr (hk _ λh=>⟨⟨h1 h0,e⟩,by rw[hr,h]⟩)
 rw[decide_eq_false h0];exact hk _ λh=>by cases h
 refine gq (λ_=>?_) λC=>?_
 exact fZ rfl
 obtain⟨⟨g,R⟩,I⟩:=hb C;obtain⟨J,e,h2⟩:=ae2 p.cards p.s U hs;rw[R] at e;cases e;have ho:=h2 rfl;have T:=Zd p.cards p.s p.e ah (abQ p.cards p.s U hs (QF p.cards p.s U hs) R);refine iJ (agR _ ha) (iJ (acX _ _ _ _ U hs (λc h=>(g c h).agL) ho (by rw[T,I])) ?_);refine iJ (x:=(Gu,false)) rfl (iJ (x:=true) rfl ?_);refine jK rfl (jK rfl (iJ (x:=0) rfl (jK rfl (iJ (aaI p.s hs) (fZ rfl)))))
end Go.Proofs.YtchmoabpofnbaaaGreat
