import Derived.Test.YtchmoabpofnbaaaGreatB48
set_option linter.all false
namespace Go.Proofs.YtchmoabpofnbaaaGreat
open Go Go.Pv
set_option maxRecDepth 100000
theorem aaz (c:jc)(C:mG c):Ok (λr=>True) (ND c):=by
 unfold ND;have z1:c.name.size<=1048576:=(C).1;have z2:=(C).2.1;have z6:=((C).2.2).2;refine gZ (λ(s1:Bool)=>s1=false->¬(c.color<0)/\¬(31<c.color)) (λk2 I=>gJ (Jo _ az) (λy4 h9=>gK (λh10=>I _ af) (λh10=>gJ (FO _ ) (λy5 h11=>gK (λh12=>I _ af) (λh12=>gJ (Ut _ aQ) (λy6 h13=>gK (λh14=>I _ af) (λh14=>gJ (Uu _ ) (λy7 h15=>gK (λh16=>I _ af) (λh16=>gG (λh17=>I _ af) (λh17=>I _ af)))))))))) (λs1 hs8=>?_);refine gK (λh18=>gB trivial) (λh18=>?_);have hf19:=hs8 h18;refine gZ (λ(s8:Bool)=>s8=false->¬(99<c.power)/\¬(99<c.ji)/\¬(c.power<0)/\¬(c.ji<0)/\¬(8<(c.gQ.length:Int))) (λk9 U=>gG (λh22=>U _ af) (λh22=>gG (λh23=>U _ af) (λh23=>gG (λh24=>U _ af) (λh24=>gG (λh25=>U _ af) (λh25=>gJ (IA _ bP) (λy11 h26=>gK (λh27=>lN (λh28=>U _ af) (λh28=>lN (λh29=>U _ af) (λh29=>U _ af))) (λh27=>U _ af))))))) (λs8 hs21=>?_);refine gK (λh30=>gB trivial) (λh30=>?_);have hf31:=hs21 h30;refine jg (λ(T:Int×Int)=>0<=T.2/\T.2<=(c.gQ.length:Int)) (λ(T:Int×Int)=>((c.gQ.length:Int)-T.2).toNat) ⟨ae,ae⟩ aj (λT k13 hI32 hk33=>?_);obtain⟨hI32_0,hI32_1⟩:=hI32;unfold VJ;apply gG<;>intro h34
 (try simp only[ik] at h34)
 refine gZ (λ(s15:Int)=>True) (λk16 g=>?_) (λs15 hs36=>?_)
 refine lT ae ae (λx18 h37=>?_);have z38:lL x18:=z6 x18 h37;refine gJ (Jq _ aP) (λy19 h53=>?_);refine gK (λh54=>gB trivial) (λh54=>?_);refine lT ae ae (λx20 h55=>?_);exact gG (λh71=>g _ trivial) (λh71=>g _ trivial)
 have h72:iI T.2 1=T.2+1:=kC ah ah;exact hk33 _ ⟨ae,ae⟩ ae
 (try simp only[ik] at h34)
 refine gJ (XL _ bP) (λy21 h73=>?_);refine gK (λh74=>?_) (λh74=>gG (λh80=>gK (λh81=>gG (λh82=>gB trivial) (λh82=>oh (λv25 h83=>gB trivial))) (λh81=>oh (λv26 h84=>gB trivial))) (λh80=>gB trivial));refine gZ (λ(s22:Bool)=>True) (λk23 J=>?_) (λs22 hs76=>gB trivial);refine gK (λh77=>?_) (λh77=>J _ trivial);refine gG (λh78=>?_) (λh78=>J _ trivial);apply gG<;>intro h79
 (try simp only[ik] at h79)
 exact J _ trivial
 (try simp only[ik] at h79)
 exact J _ trivial
theorem XP (l:List jc)(name:ByteArray)(J:(rM mG) l)(T:Hr name):Ok (λr=>True) (Pj l name):=by
 unfold Pj;have z1:=(J).1;refine jg (λ(U:Int)=>0<=U/\U<=(l.length:Int)) (λ(U:Int)=>((l.length:Int)-U).toNat) ⟨ae,ae⟩ aj (λU k2 I g=>?_);obtain⟨C,hI4_1⟩:=I;unfold Rk;apply gG<;>intro h6
 (try simp only[ik] at h6)
 refine lT ae ae (λx4 h7=>?_);refine gK (λh15=>gB trivial) (λh15=>?_);have h16:iI U 1=U+1:=kC ah ah;exact g _ ⟨ae,ae⟩ ae
 (try simp only[ik] at h6)
 exact gB trivial
theorem UX (l:List jc)(name:ByteArray)(T:(rM mG) l)(I:Hr name):Ok (λr=>True) (LD l name):=by
 unfold LD;have z1:=(T).1;refine jg (λ(U:Int)=>0<=U/\U<=(l.length:Int)) (λ(U:Int)=>((l.length:Int)-U).toNat) ⟨ae,ae⟩ aj (λU k2 C g=>?_);obtain⟨hI4_0,hI4_1⟩:=C;unfold Pm;apply gG<;>intro h6
 (try simp only[ik] at h6)
 refine gZ (λ(s4:Bool)=>True) (λk5 J=>?_) (λs4 hs8=>?_)
 refine lT ae ae (λx7 h9=>?_);refine gK (λh17=>?_) (λh17=>J _ trivial);refine lT ae ae (λx8 h18=>?_);exact J _ trivial
 refine gK (λh26=>gB trivial) (λh26=>?_);have h27:iI U 1=U+1:=kC ah ah;exact g _ ⟨ae,ae⟩ ae
 (try simp only[ik] at h6)
 exact gB trivial
theorem RI (l:List jc)(c:jc)(T:(rM mG) l)(U:mG c):Ok (λr=>True) (Gu l c):=by
 have C:(rM lL) c.gQ:=U.2.2;have hla:=C.1;unfold Gu;refine qi 0 c.gQ.length (λ_=>True) 0 rfl (Nat.zero_le _) ah trivial ?_ ?_
 intro i k hi _ hk;unfold Fe;refine gG (λ_=>?_) λh=>absurd (show (i:Int)<(c.gQ.length:Int) by omega) h;have zx:lL c.gQ[i]:=C.2 _ (List.getElem_mem hi);have g:(rM qo) (c.gQ[i]).jX:=zx.2.2.2.2.1;have hle:=g.1;refine qi 0 (c.gQ[i]).jX.length (λ_=>True) 0 rfl (Nat.zero_le _) ah trivial ?_ ?_
 intro j k5 hj _ I;unfold Fb;refine je i rfl hi (gG (λ_=>je i rfl hi (je j rfl hj (gZ (λ_=>True) ?_ ?_))) λh=>absurd (show (j:Int)<((c.gQ[i]).jX.length:Int) by omega) h)
 intro k11 J;exact gG (λ_=>gJ (UX _ _ T (by have z:=g.2 _ (List.getElem_mem hj);exact z.2.2.1)) λ_ _=>J _ trivial) λ_=>J _ trivial
 intro s _;exact gK (λ_=>gB trivial) λ_=>I trivial
 intro k5 _;unfold Fb;exact je i rfl hi (gG (λh=>absurd h (by show ¬ ((c.gQ[i]).jX.length:Int)<((c.gQ[i]).jX.length:Int);omega)) λ_=>hk trivial)
 intro k _;unfold Fe;exact gG (λh=>absurd h cu) λ_=>gB trivial
theorem MK (p:Qm Int)  : Ok (λr=>True) (Le p):=by
 unfold Le;refine jg (λ(U:Int)=>0<=U/\U<=6) (λ(U:Int)=>(6-U).toNat) ⟨ae,ae⟩ aj (λU k2 hI1 T=>?_);obtain⟨hI1_0,I⟩:=hI1;unfold OG;refine gG (λh3=>?_) (λh3=>gB trivial);refine gZ (λ(s4:Bool)=>True) (λk5 hk4=>?_) (λs4 hs5=>?_)
 refine wK ae ae (λj7 h6=>?_)
 split
 refine gG (λh7=>hk4 _ trivial) (λh7=>?_);refine wK ae ae (λj8 h8=>?_)
 split
 exact fM
 exact fM
 exact fM
 exact fM
 exact fM
 exact fM
 refine gG (λh9=>hk4 _ trivial) (λh9=>?_);refine wK ae ae (λj9 h10=>?_)
 split
 exact fM
 exact fM
 exact fM
 exact fM
 exact fM
 exact fM
 refine gG (λg=>hk4 _ trivial) (λg=>?_);refine wK ae ae (λj10 h12=>?_)
 split
 exact fM
 exact fM
 exact fM
 exact fM
 exact fM
 exact fM
 refine gG (λh13=>hk4 _ trivial) (λh13=>?_);refine wK ae ae (λj11 h14=>?_)
 split
 exact fM
 exact fM
 exact fM
 exact fM
 exact fM
 exact fM
 refine gG (λh15=>hk4 _ trivial) (λh15=>?_);refine wK ae ae (λj12 h16=>?_)
 split
 exact fM
 exact fM
 exact fM
 exact fM
 exact fM
 exact fM
 refine gG (λC=>hk4 _ trivial) (λC=>?_);refine wK ae ae (λj13 h18=>?_)
 split
 exact fM
 exact fM
 exact fM
 exact fM
 exact fM
 exact fM
 refine gK (λJ=>gB trivial) (λJ=>?_);have h20:iI U 1=U+1:=kC ah ah;exact T _ ⟨ae,ae⟩ ae
theorem UY (s:gW)(id:Int)(C:kZ s):Ok (λr=>-1<=r/\r<(s.objects.length:Int)) (Lh s id):=by
 unfold Lh;have z3:=((C).2.1).1;refine jg (λ(U:Int)=>0<=U/\U<=(s.objects.length:Int)) (λ(U:Int)=>((s.objects.length:Int)-U).toNat) ⟨ae,ae⟩ aj (λU k2 T J=>?_);obtain⟨g,hI13_1⟩:=T;unfold OH;apply gG<;>intro I
 (try simp only[ik] at I)
 refine lT ae ae (λx4 h16=>?_);refine gG (λh17=>gB ah) (λh17=>?_);have h18:iI U 1=U+1:=kC ah ah;exact J _ ⟨ae,ae⟩ ae
 (try simp only[ik] at I)
 exact gB ah
theorem XQ (s:gW)(id:Int)(T:kZ s):Ok (λr=>True) (OI s id):=by
 unfold OI;exact gJ (UY _ _ au) (λC I=>gG (λU=>gB trivial) (λU=>lT ae ae (λg J=>gB trivial)))
theorem KN (s:gW)(id:Int)(U:kZ s):Ok (λr=>True) (E8 s id):=by
 unfold E8;exact gJ (XQ _ _ au) (λJ T=>gB trivial)
theorem Hm (l:List Int)(n:Int)(J:(rM (λ(_:Int)=>True)) l):Ok (λr=>True) (ED l n):=by
 unfold ED;have z1:=(J).1;refine jg (λ(U:Int×Int)=>0<=U.2/\U.2<=(l.length:Int)) (λ(U:Int×Int)=>((l.length:Int)-U.2).toNat) ⟨ae,ae⟩ aj (λU k2 I C=>?_);obtain⟨hI2_0,g⟩:=I;unfold OJ;apply gG<;>intro h4
 (try simp only[ik] at h4)
 refine gZ (λ(s4:Int)=>True) (λk5 T=>lT ae ae (λx7 h7=>gG (λh8=>T _ trivial) (λh8=>T _ trivial))) (λs4 hs6=>?_);have h9:iI U.2 1=U.2+1:=kC ah ah;exact C _ ⟨ae,ae⟩ ae
 (try simp only[ik] at h4)
 exact gB trivial
theorem qp (s:gW)(l:List Int)(jB:Int)(owner:Int)(zz_s:kZ s)(zz_l:(rM (λ(_:Int)=>True)) l):Ok (λr=>True) (CX s l jB owner):=by
 unfold CX;have z13:=(zz_l).1;refine jg (λ(T:Int)=>0<=T/\T<=(l.length:Int)) (λ(T:Int)=>((l.length:Int)-T).toNat) ⟨ae,ae⟩ aj (λT k2 g C=>?_);obtain⟨hI14_0,hI14_1⟩:=g;unfold Q9;apply gG<;>intro I
 (try simp only[ik] at I)
 refine lT ae ae (λx4 h17=>?_);refine gJ (KN _ _ au) (λy5 h18=>?_);refine gZ (λ(s6:Bool)=>s6=false->y5.1.jB=jB) (λk7 U=>gK (λh21=>U _ af) (λh21=>lN (λh22=>U _ af) (λh22=>gG (λh23=>lN (λh24=>U _ af) (λh24=>lT ae ae (λx9 h25=>gJ (Hm _ _ ax) (λy10 h26=>U _ af)))) (λh23=>lT ae ae (λx11 h27=>gJ (Hm _ _ ax) (λy12 h28=>U _ af)))))) (λs6 J=>?_);refine gK (λh29=>gB trivial) (λh29=>?_);have hf30:=J h29;have h31:iI T 1=T+1:=kC ah ah;exact C _ ⟨ae,ae⟩ ae
 (try simp only[ik] at I)
 exact gB trivial
theorem JA (s:gW)(T:kZ s):Ok (λr=>True) (zu s):=by
 unfold zu;have z1:=((T).1).1;have z2:=((T).1).2;have z4:=((T).2.2.1).1;have z5:=((T).2.2.2.1).1;refine gJ (kP _ _ _ ) (λy1 h13=>?_);refine gK (λh14=>gB trivial) (λh14=>?_);refine jg (λ(C:Int)=>0<=C/\C<=(s.gU.length:Int)) (λ(C:Int)=>((s.gU.length:Int)-C).toNat) ⟨ae,ae⟩ aj (λC k3 hI15 hk16=>?_);obtain⟨hI15_0,hI15_1⟩:=hI15;unfold Ac;apply gG<;>intro g
 (try simp only[ik] at g)
 refine lT ae ae (λx5 h18=>?_);have I:zF x5:=z2 x5 h18;have z20:=((I).1).1;have z21:=((I).2.1).1;have z22:=((I).2.2).1;refine gZ (λ(s6:Bool)=>True) (λk7 U=>gJ (kP _ _ _ ) (λy9 h25=>gK (λh26=>U _ trivial) (λh26=>gJ (kP _ _ _ ) (λy10 h27=>gK (λh28=>U _ trivial) (λh28=>gJ (kP _ _ _ ) (λy11 h29=>gK (λh30=>U _ trivial) (λh30=>gJ (MK _ ) (λy12 h31=>U _ trivial)))))))) (λs6 hs24=>?_);refine gK (λh32=>gB trivial) (λh32=>?_);refine gZ (λ(s13:Bool)=>True) (λk14 J=>gJ (qp _ _ _ _ au ax) (λy16 h35=>gK (λh36=>J _ trivial) (λh36=>gJ (qp _ _ _ _ au ax) (λy17 h37=>gK (λh38=>J _ trivial) (λh38=>gJ (qp _ _ _ _ au ax) (λy18 h39=>J _ trivial)))))) (λs13 hs34=>?_);refine gK (λh40=>gB trivial) (λh40=>?_);have h41:iI C 1=C+1:=kC ah ah;exact hk16 _ ⟨ae,ae⟩ ae
 (try simp only[ik] at g)
 exact gJ (qp _ _ _ _ au ax) (λy19 h42=>gK (λh43=>gJ (qp _ _ _ _ au ax) (λy20 h44=>gB trivial)) (λh43=>gB trivial))
theorem aaA (c:Oy Int)  : Ok (λr=>True) (Xe c):=by
 unfold Xe;refine jg (λ(U:Int)=>0<=U/\U<=3) (λ(U:Int)=>(3-U).toNat) ⟨ae,ae⟩ aj (λU k2 hI1 T=>?_);obtain⟨C,J⟩:=hI1;unfold VF;refine gG (λh3=>?_) (λh3=>gB trivial);refine gZ (λ(s4:Bool)=>True) (λk5 hk4=>?_) (λs4 hs5=>?_)
 refine wK ae ae (λj7 h6=>?_)
 split
 refine gG (λh7=>hk4 _ trivial) (λh7=>?_);refine wK ae ae (λj8 h8=>?_)
 split
 exact fM
 exact fM
 exact fM
 refine gG (λh9=>hk4 _ trivial) (λh9=>?_);refine wK ae ae (λj9 h10=>?_)
 split
 exact fM
 exact fM
 exact fM
 refine gG (λI=>hk4 _ trivial) (λI=>?_);refine wK ae ae (λj10 h12=>?_)
 split
 exact fM
 exact fM
 exact fM
 refine gK (λg=>gB trivial) (λg=>?_);have h14:iI U 1=U+1:=kC ah ah;exact T _ ⟨ae,ae⟩ ae
theorem XR (o:iy)  : Ok (λr=>True) (OL o):=by
 unfold OL;exact gB trivial
theorem UZ (o:iy)  : Ok (λr=>True) (Lj o):=by
 unfold Lj;exact gB trivial
theorem NM (o:iy)(I:Int)(gU:Int)  : Ok (λr=>True) (Nw o I gU):=by
 unfold Nw;refine gZ (λ(s1:Bool)=>s1=false->¬(I<=o.card)/\¬(o.card<0)/\¬(o.control<0)/\¬(o.id<1)/\¬(o.owner<0)/\¬(o.jB<0)/\¬(gU<=o.control)/\¬(gU<=o.owner)/\¬(5<o.jB)) (λk2 T=>gG (λh3=>T _ af) (λh3=>gG (λh4=>T _ af) (λh4=>gG (λh5=>T _ af) (λh5=>gG (λh6=>T _ af) (λh6=>gG (λh7=>T _ af) (λh7=>gG (λh8=>T _ af) (λh8=>gG (λh9=>T _ af) (λh9=>gG (λh10=>T _ af) (λh10=>T _ af))))))))) (λs1 hs2=>?_);refine gK (λC=>gB trivial) (λC=>?_);have hf12:=hs2 C;refine gZ (λ(s4:Bool)=>s4=false->¬(1000000<o.blocks)/\¬(1000000<o.EX)/\¬(1000000<o.stamp)/\¬(o.blocks<0)/\¬(o.EX<0)/\¬(o.BD<0)/\¬(o.stamp<0)/\¬(1000000<o.BD)) (λk5 U=>gG (λh15=>U _ af) (λh15=>gG (λh16=>U _ af) (λh16=>gG (λh17=>U _ af) (λh17=>gG (λh18=>U _ af) (λh18=>gG (λh19=>U _ af) (λh19=>gG (λh20=>U _ af) (λh20=>gG (λh21=>U _ af) (λh21=>U _ af)))))))) (λs4 hs14=>?_);refine gK (λh22=>gB trivial) (λh22=>?_);have hf23:=hs14 h22;refine gZ (λ(s7:Bool)=>s7=false->¬(I<=o.copy)/\¬(o.Du<(-1))/\¬(o.copy<(-1))/\¬(gU<=o.Du)) (λk8 J=>gJ (aaA _ ) (λy10 h26=>gK (λh27=>J _ af) (λh27=>gG (λh28=>J _ af) (λh28=>gG (λh29=>J _ af) (λh29=>gG (λh30=>J _ af) (λh30=>J _ af)))))) (λs7 hs25=>?_)
 refine gK (λg=>gB trivial) (λg=>?_);have hf32:=hs25 g;exact gG (λh33=>gB trivial) (λh33=>gJ (XR _ ) (λy11 h34=>oh (λv12 h35=>gK (λh36=>gJ (UZ _ ) (λy13 h37=>oh (λv14 h38=>gK (λh39=>gK (λh40=>gK (λh41=>oh (λv15 h42=>gB trivial)) (λh41=>gB trivial)) (λh40=>gB trivial)) (λh39=>gB trivial)))) (λh36=>gB trivial))))
theorem UE (s:gW)(id:Int)(zz_s:kZ s):Ok (λr=>True) (Jd s id):=by
 unfold Jd;have z6:=((zz_s).2.2.2.2.1).1;refine jg (λ(J:Int×Int)=>0<=J.2/\J.2<=(s.stack.length:Int)) (λ(J:Int×Int)=>((s.stack.length:Int)-J.2).toNat) ⟨ae,ae⟩ aj (λJ k2 C I=>?_);obtain⟨hI13_0,hI13_1⟩:=C;unfold L9;apply gG<;>intro g
 (try simp only[ik] at g)
 refine gZ (λ(s4:Int)=>True) (λk5 T=>?_) (λs4 hs17=>?_)
 refine gZ (λ(s7:Bool)=>True) (λk8 U=>?_) (λs7 hs19=>gK (λh57=>T _ trivial) (λh57=>T _ trivial));refine lT ae ae (λx10 h20=>?_);refine gG (λh38=>?_) (λh38=>U _ trivial);refine lT ae ae (λx11 h39=>?_);exact U _ trivial
 have h58:iI J.2 1=J.2+1:=kC ah ah;exact I _ ⟨ae,ae⟩ ae
 (try simp only[ik] at g)
 exact gB trivial
theorem XT (s:gW)(jB:Int)(kE:Int)(U:kZ s):Ok (λr=>r.length<=1048576) (OM s jB kE):=by
 unfold OM;have z2:=((U).1).2;have z4:=((U).2.2.1).1;have z5:=((U).2.2.2.1).1;refine gG (λh13=>gJ (A7 _ ax) (λy1 h14=>gB aX)) (λh13=>?_);refine gG (λh15=>gJ (A7 _ ax) (λy2 h16=>gB aX)) (λh15=>?_);refine gZ (λ(s3:Bool)=>s3=false->¬(kE<0)/\¬((s.gU.length:Int)<=kE)) (λk4 T=>gG (λg=>T _ af) (λg=>T _ af)) (λs3 J=>?_);refine gK (λI=>gB aX) (λI=>?_);have hf21:=J I;apply gG<;>intro h22
 refine lT ae ae (λx6 C=>?_);have z24:zF x6:=z2 x6 C;have z26:=((z24).2.1).1;exact gJ (A7 _ ax) (λy7 h28=>gB aX)
 apply gG<;>intro h29
 refine lT ae ae (λx8 h30=>?_);have z31:zF x8:=z2 x8 h30;have z32:=((z31).1).1;exact gJ (A7 _ ax) (λy9 h35=>gB aX)
 refine gG (λh36=>?_) (λh36=>gB aX);refine lT ae ae (λx10 h37=>?_);have z38:zF x10:=z2 x10 h37;have z41:=((z38).2.2).1;exact gJ (A7 _ ax) (λy11 h42=>gB aX)
theorem FT (s:gW)(o:iy)(T:kZ s):Ok (λr=>True) (Je s o):=by
 unfold Je;exact gG (λU=>gJ (UE _ _ au) (λy1 I=>gB trivial)) (λU=>gJ (XT _ _ _ au) (λg C=>gJ (Hm _ _ ax) (λy3 J=>gB trivial)))
theorem JB (T:List jc)(s:gW)(I:(rM mG) T)(zz_s:kZ s):Ok (λr=>True) (tq T s):=by
 unfold tq;apply gG<;>intro h15
 (try simp only[ik] at h15)
 exact gB trivial
 (try simp only[ik] at h15)
 refine jg (λ(J:Int)=>0<=J/\J<=(s.objects.length:Int)) (λ(J:Int)=>((s.objects.length:Int)-J).toNat) ⟨ae,ae⟩ aj (λJ k2 g hk17=>?_);obtain⟨hI16_0,hI16_1⟩:=g;unfold uD;apply gG<;>intro h18
 (try simp only[ik] at h18)
 refine lT ae ae (λx4 h19=>?_);refine gZ (λ(s5:Bool)=>s5=false->¬(s.nextId<=x4.id)/\¬(s.lF<=x4.stamp)) (λk6 U=>?_) (λs5 C=>?_)
 refine gJ (NM _ _ _ ) (λy8 h22=>?_);refine gK (λh23=>U _ af) (λh23=>?_);refine gG (λh24=>U _ af) (λh24=>?_);refine gG (λh25=>U _ af) (λh25=>?_);refine gG (λh26=>?_) (λh26=>U _ af);have h27:pF J 1=J-1:=xX aY aY;exact lT ae ae (λx9 h28=>U _ af)
 refine gK (λh29=>gB trivial) (λh29=>?_);have hf30:=C h29;refine gJ (FT _ _ au) (λy10 h31=>?_);refine gK (λh32=>gB trivial) (λh32=>?_);have h33:iI J 1=J+1:=kC ah ah;exact hk17 _ ⟨ae,ae⟩ ae
 (try simp only[ik] at h18)
 exact gB trivial
theorem XU (s:gW)(x:oN)(zz_s:kZ s)(J:LM x):Ok (λr=>True) (O6 s x):=by
 unfold O6;have z13:=(J).1;refine gZ (λ(s1:Bool)=>s1=false->¬(4<(x.targets.length:Int))) (λk2 T=>?_) (λs1 C=>?_)
 refine gJ (kP _ _ _ ) (λy4 h31=>?_);refine gK (λh32=>T _ af) (λh32=>?_);refine gJ (kP _ _ _ ) (λy5 h33=>?_);refine gK (λh34=>T _ af) (λh34=>?_);apply gG<;>intro g
 (try simp only[ik] at g)
 exact T _ af
 (try simp only[ik] at g)
 exact gJ (lH _ _ au) (λy6 h36=>T _ af)
 refine gK (λI=>gB trivial) (λI=>?_);have hf38:=C I;exact gJ (KN _ _ au) (λy7 h39=>gG (λh40=>gJ (XA _ _ aP Xy) (λy8 h41=>gZ (λ(s9:Bool)=>True) (λk10 U=>gG (λh44=>gK (λh45=>gG (λh46=>gK (λh47=>U _ trivial) (λh47=>gJ (Jq _ aP) (λy12 h48=>U _ trivial))) (λh46=>U _ trivial)) (λh45=>U _ trivial)) (λh44=>U _ trivial)) (λs9 hs43=>gB trivial))) (λh40=>gG (λh49=>gK (λh50=>gJ (Jq _ aP) (λy13 h51=>gB trivial)) (λh50=>gB trivial)) (λh49=>gB trivial)))
theorem aaB (l:List Int)(T:(rM (λ(_:Int)=>True)) l):Ok (λr=>True) (Xl l):=by
 unfold Xl;have z1:=(T).1;refine jg (λ(U:Int)=>1<=U) (λ(U:Int)=>((l.length:Int)-U).toNat) ae aj (λU k2 g J=>?_);unfold VH;apply gG<;>intro I
 (try simp only[ik] at I)
 have h5:pF U 1=U-1:=xX aY aY;refine lT ae ae (λx4 h6=>?_);refine lT ae ae (λx5 h7=>?_);refine gG (λC=>gB trivial) (λC=>?_);have h9:iI U 1=U+1:=kC ah ah;exact J _ ae ae
 (try simp only[ik] at I)
 exact gB trivial
theorem Ho (s:gW)(g:kZ s):Ok (λr=>True) (LC s):=by
 unfold LC;have z7:=((g).2.2.2.2.1).2;have z9:=((g).2.2.2.2.2.1).2;have z11:=((g).2.2.2.2.2.2.1).2;refine gZ (λ(s1:Bool)=>s1=false->¬(64<(s.stack.length:Int))/\¬(64<(s.waiting.length:Int))/\¬(64<(s.mf.length:Int))) (λk2 C=>?_) (λs1 hs14=>?_)
 apply gG<;>intro h15
 (try simp only[ik] at h15)
 exact C _ af
 (try simp only[ik] at h15)
 apply gG<;>intro h16
 (try simp only[ik] at h16)
 exact C _ af
 (try simp only[ik] at h16)
 exact C _ af
 refine gK (λh17=>gB trivial) (λh17=>?_);have hf18:=hs14 h17;refine jg (λ(s4:Int)=>0<=s4/\s4<=(s.stack.length:Int)) (λ(s4:Int)=>((s.stack.length:Int)-s4).toNat) ⟨ae,ae⟩ aj (λs4 k5 hI19 hk20=>?_);obtain⟨hI19_0,hI19_1⟩:=hI19;unfold Pg;apply gG<;>intro h21
 (try simp only[ik] at h21)
 refine lT ae ae (λx7 h22=>?_);have z23:LM x7:=z7 x7 h22;refine gJ (XU _ _ au (by first|assumption|(refine⟨by omega,?_⟩;first|(intro _ _;trivial)|assumption)|(unfold LM;simp_all[Hr,rM]))) (λy8 h40=>?_);refine gK (λh41=>gB trivial) (λh41=>?_);refine jg (λ(s9:Int)=>0<=s9) (λ(s9:Int)=>(s4-s9).toNat) ae aj (λs9 k10 hI42 hk43=>?_);unfold O7;apply gG<;>intro h44
 refine lT ae ae (λx12 h45=>?_);refine lT ae ae (λx13 h63=>?_);refine gG (λh81=>gB trivial) (λh81=>?_);have h82:iI s9 1=s9+1:=kC ah ah;exact hk43 _ ae ae
 have h83:iI s4 1=s4+1:=kC ah ah;exact hk20 _ ⟨ae,ae⟩ ae
 (try simp only[ik] at h21)
 refine jg (λ(J:Int)=>0<=J/\J<=(s.waiting.length:Int)) (λ(J:Int)=>((s.waiting.length:Int)-J).toNat) ⟨ae,ae⟩ aj (λJ k15 hI84 hk85=>?_);obtain⟨hI84_0,hI84_1⟩:=hI84;unfold O9;apply gG<;>intro h86
 (try simp only[ik] at h86)
 refine lT ae ae (λx17 h87=>?_);have z88:qV x17:=z9 x17 h87;refine gZ (λ(s18:Bool)=>s18=false->x17.jM.kind=4) (λk19 T=>gJ (lH _ _ au) (λy21 h106=>gK (λh107=>T _ af) (λh107=>lN (λh108=>T _ af) (λh108=>gJ (Jq _ aP) (λy22 h109=>T _ af))))) (λs18 hs105=>?_);refine gK (λh110=>gB trivial) (λh110=>?_);have hf111:=hs105 h110;have h112:iI J 1=J+1:=kC ah ah;exact hk85 _ ⟨ae,ae⟩ ae
 (try simp only[ik] at h86)
 refine jg (λ(I:Int)=>0<=I/\I<=(s.mf.length:Int)) (λ(I:Int)=>((s.mf.length:Int)-I).toNat) ⟨ae,ae⟩ aj (λI k24 hI113 hk114=>?_);obtain⟨hI113_0,hI113_1⟩:=hI113;unfold O8;apply gG<;>intro h115
 (try simp only[ik] at h115)
 refine lT ae ae (λx26 h116=>?_);have z117:Sv x26:=z11 x26 h116;have z118:=((z117).1).1;have z119:=((z117).2).1;have z120:=((z117).2).2;refine gZ (λ(s27:Bool)=>s27=false->¬(s.lF<=x26.stamp)) (λk28 U=>gJ (lH _ _ au) (λy30 h123=>gK (λh124=>U _ af) (λh124=>gG (λh125=>U _ af) (λh125=>gJ (kP _ _ _ ) (λy31 h126=>gK (λh127=>U _ af) (λh127=>gJ (aaB _ ax) (λy32 h128=>gK (λh129=>U _ af) (λh129=>gJ (BM _ ax) (λy33 h130=>U _ af))))))))) (λs27 hs122=>?_);refine gK (λh131=>gB trivial) (λh131=>?_);have hf132:=hs122 h131;have h133:iI I 1=I+1:=kC ah ah;exact hk114 _ ⟨ae,ae⟩ ae
 (try simp only[ik] at h115)
 exact gB trivial
theorem aaC (I:List jc)(s:gW)(C:(rM mG) I)(zz_s:kZ s):Ok (λr=>True) (yg I s):=by
 unfold yg;refine gZ (λ(s1:Bool)=>s1=false->¬(2048<(s.objects.length:Int))) (λk2 J=>gJ (kP _ _ _ ) (λy4 h17=>gK (λh18=>J _ af) (λh18=>gJ (kP _ _ _ ) (λy5 h19=>gK (λh20=>J _ af) (λh20=>gJ (kP _ _ _ ) (λy6 h21=>gK (λh22=>J _ af) (λh22=>gJ (kP _ _ _ ) (λy7 h23=>gK (λh24=>J _ af) (λh24=>J _ af))))))))) (λs1 hs16=>?_);refine gK (λh25=>gB trivial) (λh25=>?_);have hf26:=hs16 h25;refine gZ (λ(s8:Bool)=>s8=false->¬(500<(s.extra.length:Int))) (λk9 U=>?_) (λs8 hs28=>?_)
 refine gJ (JA _ au) (λy11 h29=>?_);refine gK (λh30=>U _ af) (λh30=>?_);refine gJ (lH _ _ au) (λy12 h31=>?_);refine gK (λh32=>U _ af) (λh32=>?_);refine gJ (lH _ _ au) (λy13 h33=>?_);refine gK (λh34=>U _ af) (λh34=>?_);refine gJ (kP _ _ _ ) (λy14 h35=>?_);refine gK (λh36=>U _ af) (λh36=>?_);apply gG<;>intro g
 (try simp only[ik] at g)
 exact U _ af
 (try simp only[ik] at g)
 exact gJ (kP _ _ _ ) (λy15 h38=>U _ af)
 refine gK (λh39=>gB trivial) (λh39=>?_);have hf40:=hs28 h39;refine jg (λ(s16:Int)=>0<=s16/\s16<=(s.extra.length:Int)) (λ(s16:Int)=>((s.extra.length:Int)-s16).toNat) ⟨ae,ae⟩ aj (λs16 k17 hI41 hk42=>?_);obtain⟨hI41_0,hI41_1⟩:=hI41;unfold EG;apply gG<;>intro h43
 (try simp only[ik] at h43)
 refine lT ae ae (λx19 h44=>?_);refine gJ (lH _ _ au) (λy20 h45=>?_);refine gK (λh46=>gB trivial) (λh46=>?_);have h47:iI s16 1=s16+1:=kC ah ah;exact hk42 _ ⟨ae,ae⟩ ae
 (try simp only[ik] at h43)
 exact gZ (λ(s21:Bool)=>True) (λk22 T=>gG (λh50=>gJ (lH _ _ au) (λy24 h51=>gK (λh52=>T _ trivial) (λh52=>lN (λh53=>T _ trivial) (λh53=>T _ trivial)))) (λh50=>lN (λh54=>T _ trivial) (λh54=>T _ trivial))) (λs21 hs49=>gK (λh55=>gB trivial) (λh55=>gJ (JB _ _ ax au) (λy25 h56=>gK (λh57=>gJ (Ho _ au) (λy26 h58=>gB trivial)) (λh57=>gB trivial))))
structure XV (c:jc):Prop where
 types:1<=c.line.types/\c.line.types<=63
 keys:0<=c.keys/\c.keys<=131071
 ach:c.gQ.length<=8
 pt:(0<=c.power/\c.power<=99)/\0<=c.ji/\c.ji<=99
theorem aea (l:zt)(hl:zM l):Ok (λr=>r=true->1<=l.types/\l.types<=63) (Jh l):=by
 obtain⟨r,e,_⟩:=Ut l hl;refine⟨r,e,λh=>?_⟩;subst h
 by_cases h1:l.types<1
 exfalso
 have:Jh l=some false:=by
  unfold Jh;refine ok_eq (gZ (λb=>b=true) (λk hk=>?_) λb hb=>by subst hb;exact gB rfl);exact gG (λ_=>hk _ rfl) λ_=>gG (λ_=>hk _ rfl) λ_=>gG (λ_=>hk _ rfl) λh=>absurd h1 h
 rw[e] at this;cases this
 by_cases h2:63<l.types
 exfalso
 have:Jh l=some false:=by
  unfold Jh;refine ok_eq (gZ (λb=>b=true) (λk hk=>?_) λb hb=>by subst hb;exact gB rfl);exact gG (λ_=>hk _ rfl) λ_=>gG (λ_=>hk _ rfl) λ_=>gG (λ_=>hk _ rfl) λ_=>gG (λ_=>hk _ rfl) λh=>absurd h2 h
 rw[e] at this;cases this
 omega
theorem aeb (k:Int):Ny k=some (decide (0<=k/\k<=131071)):=by
 unfold Ny;exact ok_eq (gG (λh=>gB bW) λh=>gB bW)
theorem aec (c:jc)(hc:mG c):Ok (λr=>r=true->XV c) (ND c):=by
 obtain⟨r,e,_⟩:=aaz c hc;refine⟨r,e,λh=>?_⟩;subst h;refine Classical.byContradiction λU=>?_
 have:ND c=some false:=by
  unfold ND;refine ok_eq (gZ (λb=>b=false->(1<=c.line.types/\c.line.types<=63)/\(0<=c.keys/\c.keys<=131071)) (λk hk=>?_) λb hb=>?_)
  refine gJ (Jo _ hc.1) λ_ _=>gK (λ_=>hk _ λh=>by cases h) λ_=>gJ (FO _) λ_ _=>gK (λ_=>hk _ λh=>by cases h) λ_=>?_;refine gJ (aea _ hc.2.1) λy hy=>gK (λ_=>hk _ λh=>by cases h) λh1=>iq (aeb _) (gK (λ_=>hk _ λh=>by cases h) λh2=>?_);have h1:y=true:=by cases y with|true=>rfl|false=>cases h1
  have h2:0<=c.keys/\c.keys<=131071:=by
   cases I:decide (0<=c.keys/\c.keys<=131071) with
   | true=>exact of_decide_eq_true I
   | false=>rw[I] at h2;cases h2
  exact gG (λ_=>hk _ λh=>by cases h) λ_=>hk _ λ_=>⟨hy h1,h2⟩
  refine gK (λ_=>gB rfl) λT=>?_;obtain⟨g1,g2⟩:=hb T
  have C:((0<=c.power/\c.power<=99)/\0<=c.ji/\c.ji<=99)->8<ik c.gQ:=by
   intro J;refine Classical.byContradiction λh=>U ⟨g1,g2,?_,J⟩;simp only[ik] at h;omega
  refine gZ (λb=>b=true) (λk hk=>?_) λb hb=>by subst hb;exact gB rfl
  refine gG (λ_=>hk _ rfl) λa1=>gG (λ_=>hk _ rfl) λa2=>gG (λ_=>hk _ rfl) λa3=>gG (λ_=>hk _ rfl) λa4=>?_;have last:Ok (λr=>r=false) (k (decide (8<ik c.gQ))):=hk _ (decide_eq_true (C ah));exact gJ (IA c hc) λ_ _=>gK (λ_=>lN (λ_=>hk _ rfl) λ_=>lN (λ_=>hk _ rfl) λ_=>last) λ_=>last
 rw[e] at this;cases this
theorem aco (l:List jc)(hl:rM mG l):Ok (λr=>r.2=0->∀ c∈l,XV c) (LG l):=by
 have hlen:=hl.1;unfold LG;refine gG (λ_=>gB λh=>by cases h) λ_=>?_;refine qi 0 l.length (λn=>∀ c∈l.take n,XV c) 0 rfl (Nat.zero_le _) ah aS (λi k hi U hk=>?_) λk U=>?_
 have hx:=hl.2 _ (List.getElem_mem hi);unfold Ji;refine gG (λ_=>je i rfl hi (gJ (aec _ hx) λy hy=>gK (λ_=>gB λh=>by cases h) λh1=>je i rfl hi (gJ (XP l _ hl hx.1) λ_ _=>gG (λ_=>gB λh=>by cases h) λ_=>je i rfl hi (gJ (RI l _ hl hx) λ_ _=>gK (λ_=>gB λh=>by cases h) λ_=>hk λc hc=>?_)))) λh=>absurd (show (i:Int)<(l.length:Int) by omega) h;rw[kQ l i hi] at hc;rcases List.mem_append.1 hc with hc|hc
 exact U c hc
 rw[List.mem_singleton.1 hc];exact hy (by cases y with|true=>rfl|false=>cases h1)
 unfold Ji;rw[sF] at U;exact gG (λh=>absurd h aO) λ_=>gB λ_=>U
theorem aed (U:List jc)(s:gW)(hc:rM mG U)(hs:kZ s):Ok (λr=>r=true->s.objects.length<=2048) (yg U s):=by
 obtain⟨r,e,_⟩:=aaC U s hc hs;refine⟨r,e,λh=>?_⟩;subst h;refine Classical.byContradiction λT=>?_
 have:yg U s=some false:=by
  unfold yg;refine ok_eq (gZ (λb=>b=true) (λk hk=>?_) λb hb=>by subst hb;exact gB rfl);refine gJ (kP _ _ _) λ_ _=>gK (λ_=>hk _ rfl) λ_=>gJ (kP _ _ _) λ_ _=>gK (λ_=>hk _ rfl) λ_=>gJ (kP _ _ _) λ_ _=>gK (λ_=>hk _ rfl) λ_=>gJ (kP _ _ _) λ_ _=>gK (λ_=>hk _ rfl) λ_=>hk _ ?_;exact decide_eq_true (by simp only[ik];omega)
 rw[e] at this;cases this
def Asc (l:List iy):Prop:=∀ (i:Nat) (a b:iy),l[i]?=some a->l[i+1]?=some b->a.id<b.id
theorem Asc.lt {l:List iy}(h:Asc l):∀ (d i:Nat) (a b:iy),l[i]?=some a->l[i+1+d]?=some b->a.id<b.id
 | 0,i,a,b,ha,hb=>h i a b ha hb
 | d+1,i,a,b,ha,hb=>by
  have U:i+1<l.length:=by
   have:=(List.getElem?_eq_some_iff.1 hb).1;omega
  have h1:=h i a _ ha (List.getElem?_eq_getElem U);have h2:=Asc.lt h d (i+1) _ b (List.getElem?_eq_getElem U) (by rw[show i+1+1+d=i+1+(d+1) by omega];exact hb);omega
theorem Asc.inj {l:List iy}(h:Asc l){i j:Nat}{a b:iy}(U:l[i]?=some a)(hb:l[j]?=some b)(e:a.id=b.id):i=j:=by
 rcases Nat.lt_trichotomy i j with hij|hij|hij
 have:=h.lt (j-i-1) i a b U (by rw[show i+1+(j-i-1)=j by omega];exact hb);omega
 exact hij
 have:=h.lt (i-j-1) j b a hb (by rw[show j+1+(i-j-1)=i by omega];exact U);omega
theorem Y9 (U:List jc)(s:gW)(hc:rM mG U)(hs:kZ s):Ok (λr=>r=true->Asc s.objects) (tq U s):=by
 have hlen:=hs.2.1.1;have no:∀ {p:Prop},((true:Bool)=false->p):=λe=>by cases e
 unfold tq;refine gG (λ_=>gB λh=>by cases h) λ_=>?_;refine qi 0 s.objects.length (λn=>Asc (s.objects.take n)) 0 rfl (Nat.zero_le _) ah (λi a b h _=>by simp at h) (λi k hi C hk=>?_) λk C=>?_
 unfold uD;refine gG (λ_=>je i rfl hi (gZ (λb=>b=false->Asc (s.objects.take (i+1))) (λk6 I=>?_) λb hb=>?_)) λh=>absurd (show (i:Int)<(s.objects.length:Int) by omega) h
 refine gJ (NM _ _ _) λ_ _=>gK (λ_=>I _ no) λ_=>gG (λ_=>I _ no) λ_=>gG (λ_=>I _ no) λ_=>gG (λh=>?_) λh=>?_
 obtain⟨m,rfl⟩:∃ m,i=m+1:=⟨i-1,by omega⟩;have J:pF ((m+1:Nat):Int) 1=(m:Int):=by rw[xX ah ah];omega
 rw[J];have hm:m<s.objects.length:=by omega
 refine je m rfl hm (I _ λh=>?_);have h:=of_decide_eq_false h;intro j a b T hb;rw[List.getElem?_take] at T hb
 by_cases hj:j+1=m+1
 have:j=m:=by omega
 subst this;rw[if_pos ah,List.getElem?_eq_getElem hm] at T;rw[if_pos ah,List.getElem?_eq_getElem hi] at hb;cases T;cases hb;omega
 have g:j+1<m+1:=by
  split at hb
  omega
  cases hb
 refine C j a b ?_ ?_
 rw[List.getElem?_take,if_pos ah];rw[if_pos ah] at T;exact T
 rw[List.getElem?_take,if_pos g];rw[if_pos ah] at hb;exact hb
 refine I _ λ_=>?_;have:i=0:=by omega
 subst this;intro j a b T hb;rw[List.getElem?_take] at hb
 split at hb
 omega
 cases hb
 refine gK (λ_=>gB λh=>by cases h) λh=>gJ (FT _ _ hs) λ_ _=>gK (λ_=>gB λh=>by cases h) λ_=>hk (hb h)
 unfold uD;rw[sF] at C;exact gG (λh=>absurd h aG) λ_=>gB λ_=>C
theorem abv {Pr:Prop}(U:List jc)(s:gW)(hc:rM mG U)(hs:kZ s)(I:Ok (λr=>r=true->Pr) (tq U s))(h:yg U s=some true):Pr:=by
 have J:=hs.2.2.2.2.2.2.2
 have:Ok (λr=>r=true->Pr) (yg U s):=by
  unfold yg;refine gZ (λ_=>True) (λk hk=>?_) λb _=>?_
  exact gJ (kP _ _ _) λ_ _=>gK (λ_=>hk _ trivial) λ_=>gJ (kP _ _ _) λ_ _=>gK (λ_=>hk _ trivial) λ_=>gJ (kP _ _ _) λ_ _=>gK (λ_=>hk _ trivial) λ_=>gJ (kP _ _ _) λ_ _=>gK (λ_=>hk _ trivial) λ_=>hk _ trivial
  refine gK (λ_=>gB λh=>by cases h) λ_=>gZ (λ_=>True) (λk hk=>?_) λb _=>?_
  exact gJ (JA s hs) λ_ _=>gK (λ_=>hk _ trivial) λ_=>gJ (lH _ _ hs) λ_ _=>gK (λ_=>hk _ trivial) λ_=>gJ (lH _ _ hs) λ_ _=>gK (λ_=>hk _ trivial) λ_=>gJ (kP _ _ _) λ_ _=>gK (λ_=>hk _ trivial) λ_=>gG (λ_=>hk _ trivial) λ_=>gJ (kP _ _ _) λ_ _=>hk _ trivial
  refine gK (λ_=>gB λh=>by cases h) λ_=>?_;refine qi 0 s.extra.length (λ_=>True) 0 rfl (Nat.zero_le _) (by have:=J.1;omega) trivial (λi k hi _ hk=>?_) λk _=>?_
  unfold EG;exact gG (λ_=>je i rfl hi (gJ (lH _ _ hs) λ_ _=>gK (λ_=>gB λh=>by cases h) λ_=>hk trivial)) λh=>absurd (show (i:Int)<(s.extra.length:Int) by omega) h
  unfold EG;refine gG (λh=>absurd h dZ) λ_=>gZ (λ_=>True) (λk hk=>?_) λb _=>?_
  exact gq
  refine gK (λ_=>gB λh=>by cases h) λ_=>gJ I λy hy=>gK (λT=>gJ (Ho s hs) λ_ _=>gB λ_=>hy T) λ_=>gB λh=>by cases h
 obtain⟨r,e,hr⟩:=this;rw[h] at e;cases e;exact hr rfl
theorem agM (U:List jc)(s:gW)(hc:rM mG U)(hs:kZ s)(h:yg U s=some true):Asc s.objects:=abv U s hc hs (Y9 U s hc hs) h
theorem afv (o:iy)(c p:Int):Ok (λr=>r=true->1<=o.id) (Nw o c p):=by
 obtain⟨r,e,_⟩:=NM o c p;refine⟨r,e,λh=>?_⟩;subst h;refine Classical.byContradiction λhn=>?_
 have:Nw o c p=some false:=by
  unfold Nw;refine ok_eq (gZ (λb=>b=true) (λk hk=>gG (λ_=>hk _ rfl) λh=>absurd (show o.id<1 by omega) h) λb hb=>by subst hb;exact gB rfl)
 rw[e] at this;cases this
theorem Za (U:List jc)(s:gW)(hc:rM mG U)(hs:kZ s):Ok (λr=>r=true->∀ o∈s.objects,1<=o.id) (tq U s):=by
 have hlen:=hs.2.1.1;have no:∀ {p:Prop},((true:Bool)=false->p):=λe=>by cases e
 unfold tq;refine gG (λ_=>gB λh=>by cases h) λ_=>?_;refine qi 0 s.objects.length (λn=>∀ o∈s.objects.take n,1<=o.id) 0 rfl (Nat.zero_le _) ah aS (λi k hi I hk=>?_) λk I=>?_
 unfold uD;refine gG (λ_=>je i rfl hi (gZ (λb=>b=false->1<=s.objects[i].id) (λk6 J=>?_) λb hb=>?_)) λh=>absurd (show (i:Int)<(s.objects.length:Int) by omega) h
 refine gJ (afv _ _ _) λy hy=>gK (λ_=>J _ no) λh=>?_;have hp:=hy (by cases y with|true=>rfl|false=>cases h);refine gG (λ_=>J _ no) λ_=>gG (λ_=>J _ no) λ_=>gG (λh=>?_) λh=>J _ λ_=>hp;have T:pF (i:Int) 1=((i-1:Nat):Int):=by rw[xX ah ah];omega
 rw[T];exact je (i-1) rfl ah (J _ λ_=>hp)
 refine gK (λ_=>gB λh=>by cases h) λh=>gJ (FT _ _ hs) λ_ _=>gK (λ_=>gB λh=>by cases h) λ_=>hk λo ho=>?_;rw[kQ _ i hi] at ho;rcases List.mem_append.1 ho with ho|ho
 exact I o ho
 rw[List.mem_singleton.1 ho];exact hb h
 unfold uD;rw[sF] at I;exact gG (λh=>absurd h aG) λ_=>gB λ_=>I
theorem acp {l:List jO}(h:l.length<=1048576):yh l=some l:=ok_eq (GH (ku ah ah (gB rfl)))
theorem NP {l:List Int}(h:l.length<=1048576):slices_Clone_int l=some l:=ok_eq (GH (ku ah ah (gB rfl)))
theorem acr {l:List iy}(h:l.length<=1048576):yj l=some l:=ok_eq (GH (ku ah ah (gB rfl)))
theorem afw {l:List oN}(h:l.length<=1048576):Ak l=some l:=ok_eq (GH (ku ah ah (gB rfl)))
theorem afx {l:List rW}(h:l.length<=1048576):oC l=some l:=ok_eq (GH (ku ah ah (gB rfl)))
theorem acs {l:List jh}(h:l.length<=1048576):pV l=some l:=ok_eq (GH (ku ah ah (gB rfl)))
theorem aaD {l:List nC}(h:l.length<=1048576):jP l=some l:=ok_eq (GH (ku ah ah (gB rfl)))
theorem acu {l:List ru}(h:l.length<=1048576):yt l=some l:=ok_eq (GH (ku ah ah (gB rfl)))
theorem aaE {l:List iP}(h:l.length<=1048576):xw l=some l:=ok_eq (GH (ku ah ah (gB rfl)))
theorem afy {l:List qc}(h:l.length<=1048576):Am l=some l:=ok_eq (GH (ku ah ah (gB rfl)))
theorem Jr {α:Type}{l:List α}{i:Nat}(h:i<l.length):l.set i l[i]=l:=List.set_getElem_self h
theorem agN {e:jh}(h:qo e):e.mQ.length<=1048576:=h.2.2.2.2.1
theorem KO (a:iG)(U:lL a):rJ a=some a:=by
 have h1:a.mQ.length<=1048576:=U.2.1.1;have h2:a.specs.length<=1048576:=U.2.2.2.1.1;have T:a.jX.length<=1048576:=U.2.2.2.2.1.1;unfold rJ;refine ok_eq (iq (aaD h1) (iq (afx h2) (iq (acs T) ?_)));refine kN 0 a.jX.length (λ_ t=>t=a.jX) 0 rfl (Nat.zero_le _) ah rfl ?_ ?_
 rintro i t k hi rfl hk
 have J:=agN (U.2.2.2.2.1.2 _ (List.getElem_mem hi));unfold uk;exact gG (λ_=>jd i rfl hi (iV hi (iq (aaD J) (jd i rfl hi (iV hi (hk _ (Jr hi))))))) λh=>absurd (show (i:Int)<(a.jX.length:Int) by omega) h
 rintro t k rfl
 unfold uk;exact gG (λh=>absurd h bQ) λ_=>gB rfl
theorem U0 (p:jO)(hp:zF p):yJ p=some p:=by
 unfold yJ;exact ok_eq (iq (NP hp.1.1) (iq (NP hp.2.1.1) (iq (NP hp.2.2.1) (gB rfl))))
theorem PT (s:gW)(hs:kZ s):EI s=some s:=by
 obtain⟨p1,p2,p3,p4,p5,p6,p7,p8⟩:=hs;have q1:=p1.1;have q2:=p2.1;have J:=p3.1;have I:=p4.1;have g:=p5.1;have C:=p6.1;have U:=p7.1;have T:=p8.1;unfold EI;refine ok_eq (iq (acp q1) ?_);refine kN 0 s.gU.length (λ_ t=>t=s.gU) 0 rfl (Nat.zero_le _) ah rfl ?_ ?_
 rintro i t k hi rfl hk
 unfold Em;exact gG (λ_=>jd i rfl hi (iV hi (iq (U0 _ (p1.2 _ (List.getElem_mem hi))) (jd i rfl hi (iV hi (hk _ (Jr hi))))))) λh=>absurd (show (i:Int)<(s.gU.length:Int) by omega) h
 rintro t _ rfl
 unfold Em;refine gG (λh=>absurd h dm) λ_=>?_;refine iq (acr q2) (iq (NP J) (iq (NP I) (iq (afw g) ?_)));refine kN 0 s.stack.length (λ_ t=>t=s.stack) 0 rfl (Nat.zero_le _) ah rfl ?_ ?_
 rintro i t k hi rfl hk
 have z:=p5.2 _ (List.getElem_mem hi);have ht:(s.stack[i]).targets.length<=1048576:=z.2.1;unfold Ej;refine gG (λ_=>jd i rfl hi (iV hi (iq (KO _ z.1) (jd i rfl hi (iV hi (jd i rfl hi ?_)))))) λh=>absurd (show (i:Int)<(s.stack.length:Int) by omega) h;have e:s.stack.set i { s.stack[i] with jM:=(s.stack[i]).jM }=s.stack:=Jr hi;simp only[e];exact iV hi (iq (acu ht) (jd i rfl hi (iV hi (hk _ (Jr hi)))))
 rintro t _ rfl
 unfold Ej;refine gG (λh=>absurd h (by show ¬ (s.stack.length:Int)<(s.stack.length:Int);omega)) λ_=>?_;refine iq (aaE C) ?_;refine kN 0 s.waiting.length (λ_ t=>t=s.waiting) 0 rfl (Nat.zero_le _) ah rfl ?_ ?_
 rintro i t k hi rfl hk
 have z:lL (s.waiting[i]).jM:=p6.2 _ (List.getElem_mem hi);unfold Ei;exact gG (λ_=>jd i rfl hi (iV hi (iq (KO _ z) (jd i rfl hi (iV hi (hk _ (Jr hi))))))) λh=>absurd (show (i:Int)<(s.waiting.length:Int) by omega) h
 rintro t _ rfl
 unfold Ei;refine gG (λh=>absurd h (by show ¬ (s.waiting.length:Int)<(s.waiting.length:Int);omega)) λ_=>?_;refine iq (afy U) ?_;refine kN 0 s.mf.length (λ_ t=>t=s.mf) 0 rfl (Nat.zero_le _) ah rfl ?_ ?_
 rintro i t k hi rfl hk
 have z:=p7.2 _ (List.getElem_mem hi);have z1:(s.mf[i]).objects.length<=1048576:=z.1.1;have z2:(s.mf[i]).mQ.length<=1048576:=z.2.1;unfold Eh;refine gG (λ_=>jd i rfl hi (iV hi (iq (NP z1) (jd i rfl hi (iV hi (jd i rfl hi ?_)))))) λh=>absurd (show (i:Int)<(s.mf.length:Int) by omega) h;have e:s.mf.set i { s.mf[i] with objects:=(s.mf[i]).objects }=s.mf:=Jr hi;simp only[e];exact iV hi (iq (aaD z2) (jd i rfl hi (iV hi (hk _ (Jr hi)))))
 rintro t _ rfl
 unfold Eh;refine gG (λh=>absurd h eF) λ_=>?_;exact iq (NP T) (gB rfl)
structure SL {α:Type}(N:Nat)(P:α->Prop)(l:List α):Prop where
 len:l.length=N
 all:∀ x∈l,P x
theorem SL.set {α:Type}{N:Nat}{P:α->Prop}{l:List α}(h:SL N P l)(i:Nat){x:α}(hx:P x):SL N P (l.set i x):=⟨by simp[h.len],λy hy=>by
 rcases List.mem_or_eq_of_mem_set hy with hy|hy
 exact h.all y hy
 rw[hy];exact hx⟩
theorem SL.get {α:Type}{N:Nat}{P:α->Prop}{l:List α}(h:SL N P l){i:Nat}(hi:i<l.length):P l[i]:=h.all _ (List.getElem_mem hi)
theorem SA {i j:Nat}(h:i+j<4611686018427387904):lu .shr .u64 (IntKind.wrap .u64 (iI (i:Int) (j:Int))) 1=some (((i+j) / 2:Nat):Int):=by
 have e:iI (i:Int) (j:Int)=((i+j:Nat):Int):=by rw[kC ah ah];omega
 rw[e];have U:IntKind.wrap .u64 ((i+j:Nat):Int)=((i+j:Nat):Int):=by rw[IntKind.wrap_u64];omega
 rw[U];show some (Int.fdiv ((i+j:Nat):Int) (2 ^ (min (1:Int).toNat 64)))=_;rw[show (2:Int) ^ (min (1:Int).toNat 64)=((2:Nat):Int) by decide,Int.ofNat_fdiv]
theorem wrapN {m:Nat}(h:m<4611686018427387904):IntKind.wrap .i64 (m:Int)=(m:Int):=wrap_in ah ah
theorem addN {a b:Nat}(h:a+b<4611686018427387904):iI (a:Int) (b:Int)=((a+b:Nat):Int):=by rw[kC ah ah];omega
theorem QE {a b:Nat}(h:b<=a)(h2:a<4611686018427387904):pF (a:Int) (b:Int)=((a-b:Nat):Int):=by rw[xX ah ah];omega
theorem Zb {a:Nat}(h:1<=a)(h2:a<4611686018427387904):pF (a:Int) 1=((a-1:Nat):Int):=by rw[xX ah ah];omega
section
variable {N:Nat}{P:gI->Prop}{cmp:gI->gI->Option Int}(hN:N<=1000000000000)(hc:∀ x y,Ok (λ_=>True) (cmp x y))
include hN hc
theorem UF {l:List gI}{a b:Nat}(hl:SL N P l)(g:a<=b)(hb:b<=N):Ok (SL N P) (jE l a b cmp):=by
 unfold jE;rw[lW ah];refine jg (λs=>∃ i:Nat,s.1=(i:Int)/\a<i/\SL N P s.2) (λs=>b-s.1.toNat) ⟨a+1,rfl,by omega,hl⟩ (by show b-_<18446744073709551616;omega) ?_
 rintro⟨i',d⟩ k ⟨i,e,hi,U⟩ hk
 simp only at e U;subst e;unfold nX;refine gG (λh=>?_) λ_=>gB U;have hib:i<b:=by simpa using h
 refine jg (λs=>∃ j:Nat,s.1=(j:Int)/\a<=j/\j<=i/\SL N P s.2) (λs=>s.1.toNat) ⟨i,rfl,by omega,by omega,U⟩ (by show i<18446744073709551616;omega) ?_
 rintro⟨j',d⟩ k2 ⟨j,e,T,hji,U⟩ hk2
 simp only at e U;subst e;have hL:=U.len;unfold nV;refine gZ (λc=>c=true->a<j) (λk8 C=>?_) λc I=>gK (λJ=>?_) λ_=>hk _ ⟨i+1,lW ah,by omega,U⟩ (by simp only;rw[lW ah];omega)
 refine gG (λh=>?_) λ_=>C _ λh=>by cases h
 have T:a<j:=by simpa using h
 simp only[Zb (show 1<=j by omega) ah];exact jd j rfl ah (iV ah (jd (j-1) rfl ah (iV ah (gJ (hc _ _) λ_ _=>C _ λ_=>T))))
 have T:=I J;simp only[Zb (show 1<=j by omega) ah];refine jd (j-1) rfl ah (iV ah (jd j rfl ah (iV ah (jd j rfl ah (iV ah (jd (j-1) rfl ah (iV bI (hk2 _ ⟨j-1,rfl,by omega,by omega,?_⟩ ?_))))))))
 exact (U.set j (U.get _)).set (j-1) (U.get _)
 simp only[Int.toNat_natCast];omega
theorem QF {l:List gI}{a b n:Nat}(hl:SL N P l)(T:a+n<=N)(hb:b+n<=N):Ok (SL N P) (jF l a b n cmp):=by
 unfold jF;refine kN 0 n (λ_ d=>SL N P d) 0 rfl (Nat.zero_le _) ah hl (λi d k hi U hk=>?_) λd k U=>?_
 have J:=U.len;unfold mM;simp only[addN (show a+i<4611686018427387904 by omega),addN (show b+i<4611686018427387904 by omega)];refine gG (λ_=>jd (b+i) rfl ah (iV ah (jd (a+i) rfl ah (iV ah (jd (a+i) rfl ah (iV ah (jd (b+i) rfl ah (iV bI (hk _ ?_))))))))) λh=>absurd (show (i:Int)<(n:Int) by omega) h;exact (U.set _ (U.get _)).set _ (U.get _)
 unfold mM;exact gG (λh=>absurd h (by show ¬ (n:Int)<(n:Int);omega)) λ_=>gB U
theorem aaF {l:List gI}{a m b:Nat}(hl:SL N P l)(g:a<m)(C:m<b)(hb:b<=N):Ok (SL N P) (kJ l a m b cmp):=by
 unfold kJ;rw[QE ah ah,QE ah ah];refine jg (λs=>∃ i j:Nat,s.1=(i:Int)/\s.2.1=(j:Int)/\(0<i/\i<=m)/\(0<j/\m+j<=b)/\SL N P s.2.2) (λs=>s.1.toNat+s.2.1.toNat) ⟨m-a,b-m,rfl,rfl,by omega,by omega,hl⟩ (by simp only[Int.toNat_natCast];show _<18446744073709551616;omega) ?_
 rintro⟨i',j',d⟩ k ⟨i,j,e1,I,hi,hj,T⟩ hk
 simp only at e1 I T;subst e1 I;unfold nP;refine lN (λJ=>gG (λh=>?_) λh=>?_) λhe=>?_
 have h:j<i:=by simpa using h
 simp only[QE (show i<=m by omega) ah,QE (show j<=i by omega) ah];exact gJ (QF hN hc T ah ah) λd2 U=>hk _ ⟨i-j,j,rfl,rfl,by omega,by omega,U⟩ bH
 have h:i<j:=by (try simp only at J h);omega
 simp only[QE (show i<=m by omega) ah,addN (show m+j<4611686018427387904 by omega),QE (show i<=m+j by omega) ah,QE (show i<=j by omega) ah];exact gJ (QF hN hc T ah ah) λd2 U=>hk _ ⟨i,j-i,rfl,rfl,by omega,by omega,U⟩ bH
 have h:i=j:=by (try simp only at he);omega
 simp only[QE (show i<=m by omega) ah];exact gJ (QF hN hc T ah ah) λd2 U=>gB U
theorem Js:∀ (n:Nat) {l:List gI} {a m b:Nat},SL N P l->a<m->m<b->b<=N->b-a<=2 ^ n->Ok (SL N P) (jo n l a m b cmp)
 | 0,l,a,m,b,_,h1,h2,_,h3=>by rw[Nat.pow_zero] at h3;omega
 | n+1,l,a,m,b,hl,h1,h2,hb,h3=>by
  have hL:=hl.len;have h3:b-a<=2*2 ^ n:=by rw[Nat.pow_succ] at h3;omega
  unfold jo nJ;simp only[QE (show a<=m by omega) ah,QE (show m<=b by omega) ah];refine gG (λ_=>?_) λ_=>gG (λ_=>?_) λ_=>?_
  refine jg (λs=>∃ i j:Nat,s.1=(i:Int)/\s.2=(j:Int)/\m<=i/\i<=j/\j<=b) (λs=>(s.2-s.1).toNat) ⟨m,b,rfl,rfl,by omega,by omega,by omega⟩ (by show ((b:Int)-(m:Int)).toNat<18446744073709551616;omega) ?_
  rintro⟨i',j'⟩ k ⟨i,j,e1,J,hi,hij,hj⟩ hk
  simp only at e1 J;subst e1 J;unfold mY;refine gG (λh=>?_) λ_=>?_
  have h:i<j:=by simpa using h
  refine iq (SA ah) ?_;have g1:i<=(i+j) / 2:=by omega
  have g2:(i+j) / 2<j:=by omega
  generalize (i+j) / 2=c at g1 g2;simp only[wrapN (show c<4611686018427387904 by omega)];refine jd c rfl ah (iV ah (jd a rfl ah (iV ah (gJ (hc _ _) λ_ _=>gG (λ_=>hk _ ⟨c+1,j,lW ah,rfl,by omega,by omega,hj⟩ ?_) λ_=>hk _ ⟨i,c,rfl,rfl,hi,by omega,by omega⟩ ?_))))
  show ((j:Int)-iI (c:Int) 1).toNat<((j:Int)-(i:Int)).toNat;rw[lW ah];omega
  show ((c:Int)-(i:Int)).toNat<((j:Int)-(i:Int)).toNat;omega
  refine jg (λs=>∃ p:Nat,s.1=(p:Int)/\SL N P s.2) (λs=>i-s.1.toNat) ⟨a,rfl,hl⟩ (by show i-_<18446744073709551616;omega) ?_
  rintro⟨p',d⟩ k3 ⟨p,e,U⟩ hk3
  simp only at e U;subst e;have hL:=U.len;unfold mX;simp only[Zb (show 1<=i by omega) ah];refine gG (λh=>?_) λ_=>gB U;have h:p<i-1:=by simpa using h
  simp only[lW (show p<4611686018427387904 by omega)];refine jd (p+1) rfl ah (iV ah (jd p rfl ah (iV ah (jd p rfl ah (iV ah (jd (p+1) rfl ah (iV bI (hk3 _ ⟨p+1,rfl,(U.set _ (U.get _)).set _ (U.get _)⟩ ?_))))))));simp only[Int.toNat_natCast];omega
  refine jg (λs=>∃ i j:Nat,s.1=(i:Int)/\s.2=(j:Int)/\i<=j/\j<=m) (λs=>(s.2-s.1).toNat) ⟨a,m,rfl,rfl,by omega,by omega⟩ (by show ((m:Int)-(a:Int)).toNat<18446744073709551616;omega) ?_
  rintro⟨i',j'⟩ k ⟨i,j,e1,J,hij,hj⟩ hk
  simp only at e1 J;subst e1 J;unfold ng;refine gG (λh=>?_) λ_=>?_
  have h:i<j:=by simpa using h
  refine iq (SA ah) ?_;have g1:i<=(i+j) / 2:=by omega
  have g2:(i+j) / 2<j:=by omega
  generalize (i+j) / 2=c at g1 g2;simp only[wrapN (show c<4611686018427387904 by omega)];refine jd m rfl ah (iV ah (jd c rfl ah (iV ah (gJ (hc _ _) λ_ _=>gK (λ_=>hk _ ⟨c+1,j,lW ah,rfl,by omega,hj⟩ ?_) λ_=>hk _ ⟨i,c,rfl,rfl,by omega,by omega⟩ ?_))))
  show ((j:Int)-iI (c:Int) 1).toNat<((j:Int)-(i:Int)).toNat;rw[lW ah];omega
  show ((c:Int)-(i:Int)).toNat<((j:Int)-(i:Int)).toNat;omega
  refine jg (λs=>∃ p:Nat,s.1=(p:Int)/\p<=m/\SL N P s.2) (λs=>s.1.toNat) ⟨m,rfl,by omega,hl⟩ (by show m<18446744073709551616;omega) ?_
  rintro⟨p',d⟩ k3 ⟨p,e,hp,U⟩ hk3
  simp only at e U;subst e;have hL:=U.len;unfold mZ;refine gG (λh=>?_) λ_=>gB U;have h:i<p:=by simpa using h
  simp only[Zb (show 1<=p by omega) ah];refine jd (p-1) rfl ah (iV ah (jd p rfl ah (iV ah (jd p rfl ah (iV ah (jd (p-1) rfl ah (iV bI (hk3 _ ⟨p-1,rfl,by omega,(U.set _ (U.get _)).set _ (U.get _)⟩ ?_))))))));simp only[Int.toNat_natCast];omega
  refine iq (SA ah) ?_;have q1:2*((a+b) / 2)<=a+b:=by omega
  have q2:a+b<=2*((a+b) / 2)+1:=by omega
  generalize (a+b) / 2=c at q1 q2;simp only[wrapN (show c<4611686018427387904 by omega),addN (show c+m<4611686018427387904 by omega)];refine gZ (λs=>∃ i j:Nat,s.1=(i:Int)/\s.2=(j:Int)/\a<=i/\c+m<=b+i/\i<=j/\j<=c+m/\(∀ x,i<=x->x<j->x<c+m/\c+m-1-x<N/\x<N)) (λk43 h43=>?_) λs hs=>?_
  refine gG (λh=>?_) λh=>?_
  have h:c<m:=by simpa using h
  rw[QE (show b<=c+m by omega) ah];exact h43 _ ⟨c+m-b,c,rfl,rfl,by omega,by omega,by omega,by omega,λx hx0 hx=>by omega⟩
  have h:m<=c:=by (try simp only at h);omega
  exact h43 _ ⟨a,m,rfl,rfl,by omega,by omega,by omega,by omega,λx hx0 hx=>by omega⟩
  obtain⟨i0,j0,e1,J,g1,g2,g3,g4,g5⟩:=hs;rw[e1,J];refine jg (λs=>∃ i j:Nat,s.1=(i:Int)/\s.2=(j:Int)/\i0<=i/\i<=j/\j<=j0) (λs=>(s.2-s.1).toNat) ⟨i0,j0,rfl,rfl,by omega,g3,by omega⟩ (by show ((j0:Int)-(i0:Int)).toNat<18446744073709551616;omega) ?_
  rintro⟨i',j'⟩ k ⟨i,j,e1,J,hi,hij,hj⟩ hk
  simp only at e1 J;subst e1 J;unfold ni;simp only[wrapN (show c<4611686018427387904 by omega),addN (show c+m<4611686018427387904 by omega),Zb (show 1<=c+m by omega) ah];refine gG (λh=>?_) λ_=>?_
  have h:i<j:=by simpa using h
  refine iq (SA ah) ?_;have r1:i<=(i+j) / 2:=by omega
  have r2:(i+j) / 2<j:=by omega
  generalize (i+j) / 2=x at r1 r2;obtain⟨r3,r4,r5⟩:=g5 x ah ah;simp only[wrapN (show x<4611686018427387904 by omega),QE (show x<=c+m-1 by omega) ah];refine Bo (jd (c+m-1-x) rfl ah (iV ah (jd x rfl ah (iV ah (gJ (hc _ _) λ_ _=>gK (λ_=>hk _ ⟨x+1,j,lW ah,rfl,by omega,by omega,hj⟩ ?_) λ_=>hk _ ⟨i,x,rfl,rfl,hi,by omega,by omega⟩ ?_)))))
  show ((j:Int)-iI (x:Int) 1).toNat<((j:Int)-(i:Int)).toNat;rw[lW ah];omega
  show ((x:Int)-(i:Int)).toNat<((j:Int)-(i:Int)).toNat;omega
  simp only[QE (show i<=c+m by omega) ah];refine gZ (SL N P) (λk56 h56=>?_) λd U=>?_
  refine gZ (λc2=>c2=true->i<m/\m<c+m-i) (λk59 g=>?_) λc2 I=>gK (λC=>?_) λ_=>h56 _ hl
  refine gG (λhx=>g _ λhy=>⟨by simpa using hx,by have:=of_decide_eq_true hy;omega⟩) λ_=>g _ λh=>by cases h
  obtain⟨p1,p2⟩:=I C;exact gJ (aaF hN hc hl p1 p2 ah) λd U=>h56 _ U
  refine gZ (SL N P) (λk63 h63=>?_) λd2 T=>oh λv hv=>gK (λhv2=>?_) λ_=>gB T
  refine gZ (λc2=>c2=true->a<i/\i<c) (λk66 h66=>?_) λc2 I=>gK (λC=>?_) λ_=>h63 _ U
  exact gG (λhx=>h66 _ λhy=>⟨by simpa using hx,by have:=of_decide_eq_true hy;omega⟩) λ_=>h66 _ λh=>by cases h
  obtain⟨p1,p2⟩:=I C;exact gJ (Js n U p1 p2 ah ah) λd2 T=>h63 _ T
  rw[hv] at hv2;have p1:c<c+m-i:=by have:=of_decide_eq_true hv2;omega
  refine gG (λh=>?_) λ_=>gB T;have p2:c+m-i<b:=by simpa using h
  exact gJ (Js n T p1 p2 hb ah) λd3 hd3=>gB hd3
theorem VV {l:List gI}{a m b:Nat}(hl:SL N P l)(h1:a<m)(h2:m<b)(hb:b<=N):Ok (SL N P) (lY l a m b cmp) :=
 Js hN hc 70 hl h1 h2 hb (by
  have:(1000000000000:Nat)<=2 ^ 70:=by decide
  omega)
theorem aaG {l:List gI}(hl:SL N P l):Ok (SL N P) (kK l N cmp):=by
 unfold kK;refine jg (λs=>∃ i:Nat,s.1=(i:Int)/\s.2.1=((i+20:Nat):Int)/\i<=N/\SL N P s.2.2) (λs=>N-s.1.toNat) ⟨0,rfl,rfl,by omega,hl⟩ (by show N-_<18446744073709551616;omega) ?_
 rintro⟨i',g,d⟩ k ⟨i,e1,J,hi,T⟩ hk
 simp only at e1 J T;subst e1 J;unfold nT;refine gG (λh=>?_) λh=>?_
 have h:i+20<=N:=by (try simp only at h);omega
 refine gJ (UF hN hc T ah h) λd2 U=>hk _ ⟨i+20,rfl,?_,h,U⟩ bH;show iI ((i+20:Nat):Int) 20=_;rw[kC ah ah];omega
 refine gJ (UF hN hc T ah (Nat.le_refl N)) λd2 U=>?_;refine jg (λs=>∃ z:Nat,s.1=(z:Int)/\20<=z/\z<=2*N+20/\SL N P s.2) (λs=>2*N+20-s.1.toNat) ⟨20,rfl,by omega,by omega,U⟩ (by show 2*N+20-_<18446744073709551616;omega) ?_
 rintro⟨z',d⟩ k2 ⟨z,e,hz,C,T⟩ hk2
 simp only at e T;subst e;unfold nS;refine gG (λh=>?_) λ_=>gB T;have h:z<N:=by simpa using h
 have J:WN 2 (z:Int)=((2*z:Nat):Int):=by rw[abr ah ah];omega
 have e3:WN (z:Int) 2=((2*z:Nat):Int):=by rw[abr ah ah];omega
 simp only[J];refine jg (λs=>∃ i:Nat,s.1=(i:Int)/\s.2.1=((i+2*z:Nat):Int)/\i<=N/\SL N P s.2.2) (λs=>N-s.1.toNat) ⟨0,rfl,by simp,by omega,T⟩ (by show N-_<18446744073709551616;omega) ?_
 rintro⟨i',g,d⟩ k3 ⟨i,f1,f2,hi,T⟩ hk3
 simp only at f1 f2 T;subst f1 f2;unfold nR;simp only[J,e3,addN (show i+z<4611686018427387904 by omega)];refine gG (λh=>?_) λh=>?_
 have h:i+2*z<=N:=by (try simp only at h);omega
 refine gJ (VV hN hc T ah ah h) λd2 U=>hk3 _ ⟨i+2*z,rfl,?_,h,U⟩ bH;show iI ((i+2*z:Nat):Int) ((2*z:Nat):Int)=_;rw[addN ah]
 have h:N<i+2*z:=by (try simp only at h);omega
 refine gZ (SL N P) (λk14 I=>gG (λh2=>?_) λ_=>I _ T) λd2 U=>hk2 _ ⟨2*z,rfl,by omega,by omega,U⟩ bH;have h2:i+z<N:=by (try simp only at h2);omega
 exact gJ (VV hN hc T ah h2 (Nat.le_refl N)) λd2 U=>I _ U
end
theorem aee {P:gI->Prop}{cmp:gI->gI->Option Int}(hc:∀ x y,Ok (λ_=>True) (cmp x y)){l:List gI}(hl:l.length<=1000000000000)(hp:∀ x∈l,P x):Ok (SL l.length P) (kF l cmp):=by
 unfold kF;exact gJ (aaG hl hc ⟨rfl,hp⟩) λd U=>gB U
theorem Zc (a:iG)(h:lL a):qO a=some a:=by
 obtain⟨_,g1,_,g2,g3,_⟩:=h;have p1:=g1.1;have p2:=g2.1;have p3:=g3.1;unfold qO;refine ok_eq (iq aN (iq bz (iq bK ?_)));refine kN 0 a.jX.length (λn l=>l=a.jX) 0 rfl (Nat.zero_le _) ah rfl (λj l2 k2 hj T U=>?_) λl2 k2 T=>?_
 subst T;have J:=(g3.2 _ (List.getElem_mem hj)).2.2.2.2.1;unfold tJ;refine gG (λ_=>jd j rfl hj (iV hj (iq aN (jd j rfl hj (iV hj (U _ ?_)))))) λh=>absurd (show (j:Int)<(a.jX.length:Int) by omega) h;exact set_self hj rfl
 subst T;unfold tJ;exact gG (λh=>absurd h bQ) λ_=>gB rfl
def Zd (all:List gX):Prop:=∀ t∈all,oJ t
def xH (w:gI):Prop:=lL w.jM
theorem aef (all:List gX)(i:Nat)(h:Zd all):Ok oJ (AA all (i:Int)):=by
 unfold AA;exact gG (λh1=>lT ah (by simpa [ik] using h1) λx hx=>gB (h x hx)) λ_=>gB afr
theorem Ze (s:gW)(all:List gX)(w:gI)(id:Int)(hs:s.objects.length<=2048)(T:Zd all)(U:xH w):Ok (λ_=>True) (Fv s all w id):=by
 unfold Fv;refine qi 0 s.objects.length (λ_=>True) 0 rfl (Nat.zero_le _) ah trivial (λi k hi _ hk=>?_) λk _=>?_
 unfold He;exact gG (λ_=>je i rfl hi (gG (λ_=>gJ (aef _ _ T) λt ht=>gJ (xI _ _ _ _ _ ht U.2.2.1) λ_ _=>gB trivial) λ_=>hk trivial)) λh=>absurd (show (i:Int)<(s.objects.length:Int) by omega) h
 unfold He;exact gG (λh=>absurd h aG) λ_=>gB trivial
theorem acv (l:List iy)(f:iy->Option Bool)(hl:l.length<=2000000)(O:∀ x,Ok (λ_=>True) (f x)):Ok (λr=>r<(l.length:Int)) (iY l f):=by
 unfold iY;refine qi 0 l.length (λ_=>True) 0 rfl (Nat.zero_le _) ah trivial (λi k hi _ hk=>?_) λk _=>?_
 unfold lX;exact gG (λ_=>je i rfl hi (gJ (O _) λb _=>gK (λ_=>gB (by show (i:Int)<(l.length:Int);omega)) λ_=>hk trivial)) λh=>absurd (show (i:Int)<(l.length:Int) by omega) h
 unfold lX;exact gG (λh=>absurd h aO) λ_=>gB (by show (-1:Int)<_;omega)
theorem PU (l:List iy)(f:iy->Option Bool)(hl:l.length<=2000000)(O:∀ x,Ok (λ_=>True) (f x)):Ok (λ_=>True) (lZ l f):=by
 unfold lZ;exact gJ (acv l f hl O) λ_ _=>gB trivial
structure PW (c:kL):Prop where
 b:c.before.objects.length<=2048
 a:c.after.objects.length<=2048
 ab:Zd c.nN
 aa:Zd c.oV
 k2:c.e.kind≠2
 k10:c.e.kind≠10
theorem left_ok {c:kL}(h:PW c):Ok (λ_=>True) (Fz c):=by
 unfold Fz;refine gJ (PU _ _ (by have:=h.b;omega) λx=>?_) λ_ _=>gJ (PU _ _ (by have:=h.a;omega) λx=>?_) λ_ _=>?_
 unfold AB;exact gG (λ_=>gB trivial) λ_=>gB trivial
 unfold AL;exact gB trivial
 exact gG (λ_=>gK (λ_=>gB trivial) λ_=>gB trivial) λ_=>gB trivial
theorem Zf (kind id:Int)(s:gW)(all:List gX)(c:kL){w:gI}(hs:s.objects.length<=2048)(T:Zd all)(U:xH w):Ok (λr=>r.length<=1) (nD kind id s all c w):=by
 unfold nD;exact gG (λ_=>gJ (Ze s all w id hs T U) λ_ _=>gK (λ_=>gB aS) λ_=>gB aS) λ_=>gB aS
theorem Zg {c:kL}{w:gI}(h:PW c)(U:xH w):Ok (λr=>r.length<=1) (AO c w):=by
 have nil:Ok (λr:List Int=>r.length<=1) (some []):=gB aS;have B:=λkind id=>gJ (Zf kind id c.before c.nN c h.b h.ab U) (k:=λy=>some y) λy hy=>gB (Q:=λr:List Int=>r.length<=1) hy;have A:=λkind id=>gJ (Zf kind id c.after c.oV c h.a h.aa U) (k:=λy=>some y) λy hy=>gB (Q:=λr:List Int=>r.length<=1) hy;unfold AO;refine gG (λ_=>gZ (λb=>b=true) (λk hk=>?_) λb hb=>by subst hb;exact nil) λ_=>?_
 exact lN (λ_=>hk _ (by simp[h.k10])) λe=>absurd e h.k2
 refine gG (λ_=>gJ (left_ok h) λ_ _=>gK (λ_=>B _ _) λ_=>nil) λ_=>?_;refine gG (λ_=>gZ (λ_=>True) (λk hk=>gJ (left_ok h) λ_ _=>gK (λ_=>hk _ trivial) λ_=>hk _ trivial) λb _=>gK (λ_=>B _ _) λ_=>nil) λ_=>?_;exact gG (λ_=>A _ _) λ_=>gG (λ_=>A _ _) λ_=>gG (λ_=>A _ _) λ_=>gG (λ_=>B _ _) λ_=>gG (λ_=>lN (λ_=>B _ _) λ_=>nil) λ_=>nil
theorem aaH (s:gW)(p you who:Int):Ok (λ_=>True) (Aj s p you who):=by
 unfold Aj;refine gZ (λ_=>True) (λk hk=>gG (λ_=>hk _ trivial) λh0=>gG (λ_=>hk _ trivial) λh1=>lT ah (by simp only[ik] at h1;omega) λ_ _=>hk _ trivial) λb _=>?_;exact gK (λ_=>gB trivial) λ_=>gG (λ_=>gB trivial) λ_=>gG (λ_=>gB trivial) λ_=>gG (λ_=>gB trivial) λ_=>gB trivial
theorem acw (n:Int):Ok (λ_=>True) (Es n):=by
 unfold Es;exact gG (λ_=>gB trivial) λ_=>gG (λ_=>gB trivial) λ_=>gG (λ_=>gB trivial) λ_=>gG (λ_=>gB trivial) λ_=>gG (λ_=>gB trivial) λ_=>gG (λ_=>gB trivial) λ_=>gB trivial
def QG (n:Nat)(r:List iP):Prop:=r.length<=n/\∀ x∈r,qV x
theorem aaI {c:kL}{w:gI}(h:PW c)(U:xH w):Ok (QG 1) (yE c w):=by
 have nil:QG 1 []:=⟨by simp,by simp⟩;unfold yE;refine iq (Zc _ U) (gJ (acw _) λy _=>lN (λ_=>?_) λ_=>?_)
 refine gZ (λ_=>True) (λk hk=>gG (λ_=>gJ (aaH _ _ _ _) λ_ _=>hk _ trivial) λ_=>hk _ trivial) λb _=>?_;refine gZ (λ_=>True) (λk hk=>gK (λ_=>hk _ trivial) λ_=>gG (λ_=>gJ (Ze _ _ _ _ h.a h.aa U) λ_ _=>hk _ trivial) λ_=>hk _ trivial) λb _=>?_;refine gK (λ_=>gB nil) λ_=>gB ⟨by simp,λx hx=>?_⟩;rw[List.mem_singleton.1 hx];exact U
 refine gJ (Zg h U) λl hl=>?_;refine kN 0 l.length (λi t=>QG i t) 0 rfl (Nat.zero_le _) ah ⟨by simp,by simp⟩ (λi t k hi T hk=>?_) λt k T=>?_
 have h1:=T.1;unfold xU;refine gG (λ_=>gZ (QG (i+1)) (λk16 C=>?_) λu hu=>hk u hu) λh=>absurd (show (i:Int)<(l.length:Int) by omega) h;refine je i rfl hi (iq (Zc _ U) (gZ (λ_=>True) (λk21 J=>gZ (λ_=>True) (λk24 I=>gG (λ_=>I _ trivial) λ_=>I _ trivial) λb _=>gK (λ_=>J _ trivial) λ_=>J _ trivial) λo _=>ku (by show (2*(t.length+1)+192)*768<=_;omega) bM (C _ ⟨by simp;omega,λx hx=>?_⟩)));rcases List.mem_append.1 hx with hx|hx
 exact T.2 x hx
 rw[List.mem_singleton.1 hx];exact U
 unfold xU;exact gG (λh=>absurd h aO) λ_=>gB ⟨by have:=T.1;show t.length<=1;omega,T.2⟩
theorem XW (n:Int):Ok (λ_=>True) (yS n):=by
 unfold yS;exact gG (λ_=>gB trivial) λ_=>gG (λ_=>gB trivial) λ_=>gG (λ_=>gB trivial) λ_=>gB trivial
theorem aeg {l:List gI}(w:gI)(h:l.length<=10000000000):uT l w=some (true,l++[w]):=by
 unfold uT;have e:l.length+[w].length=l.length+1:=rfl;rw[e];exact ok_eq (ku ah ah (gB rfl))
theorem abw (l0:List gI)(s:gW)(all:List gX)(e:Bool)(hs:s.objects.length<=2048)(ha:Zd all)(h0:l0.length<=3000000000)(hp:∀ x∈l0,xH x):Ok (λr=>r.length<=l0.length+2147483648/\∀ x∈r,xH x) (pg l0 s all e):=by
 unfold pg;refine kN 0 s.objects.length (λi t=>t.length<=l0.length+1048576*i/\∀ x∈t,xH x) 0 rfl (Nat.zero_le _) ah ⟨by omega,hp⟩ (λi t k hi U hk=>?_) λt k U=>?_
 have kG:t.length<=l0.length+1048576*i:=U.1;have up:t.length<=l0.length+1048576*(i+1):=by omega
 have I:=U.2;unfold qP;refine gG (λ_=>gZ (λu=>u.length<=l0.length+1048576*(i+1)/\∀ x∈u,xH x) (λk5 h5=>?_) λu hu=>hk u hu) λh=>absurd (show (i:Int)<(s.objects.length:Int) by omega) h;refine je i rfl hi (lN (λ_=>h5 _ ⟨up,I⟩) λ_=>gJ (aef _ _ ha) λtr T=>?_);have hal:=T.2.2.1;refine jg (λq=>∃ j:Nat,q.2.1=(j:Int)/\j<=tr.gQ.length/\q.2.2.length<=l0.length+1048576*i+j/\∀ x∈q.2.2,xH x) (λq=>tr.gQ.length-q.2.1.toNat) ⟨0,rfl,by omega,by simpa using kG,I⟩ (by show tr.gQ.length-_<18446744073709551616;omega) ?_
 rintro⟨o,j',u⟩ k10 ⟨j,ej,hj,hu,hU⟩ hk10
 simp only at ej hu hU;subst ej;unfold uU;refine gG (λh=>?_) λh=>h5 _ ⟨by simp only[ik] at h;show u.length<=_;omega,hU⟩;have g:j<tr.gQ.length:=by simp only[ik] at h;omega
 refine gZ (λq=>q.2.length<=l0.length+1048576*i+(j+1)/\∀ x∈q.2,xH x) (λk13 J=>?_) λq hq=>hk10 _ ⟨j+1,lW ah,by omega,hq.1,hq.2⟩ (by simp only;rw[lW ah];simp only[Int.toNat_natCast];omega);refine je j rfl g (gZ (λ_=>True) (λk17 C=>lN (λ_=>C _ trivial) λ_=>gJ (XW _) λ_ _=>C _ trivial) λb _=>gK (λ_=>J _ ⟨by show u.length<=_;omega,hU⟩) λ_=>iq (aeg _ (by show u.length<=_;omega)) (lV rfl (J _ ⟨by show (u++_).length<=_;simp;omega,λx hx=>?_⟩)));rcases List.mem_append.1 hx with hx|hx
 exact hU x hx
 rw[List.mem_singleton.1 hx];exact T.2.2.2 _ (List.getElem_mem g)
 unfold qP;exact gG (λh=>absurd h aG) λ_=>gB ⟨by have:=U.1;show t.length<=_;omega,U.2⟩
theorem afz (a b:gI):Ok (λ_=>True) (oL a b):=by
 have C:∀ x y:Int,Ok (λ_=>True) (cmp_Compare_int x y):=λx y=>by
  unfold cmp_Compare_int cmp_isNaN_int;exact iq rfl (iq rfl (gK (λ_=>gK (λ_=>gB trivial) λ_=>gB trivial) λ_=>gK (λ_=>gB trivial) λ_=>gG (λ_=>gB trivial) λ_=>gG (λ_=>gB trivial) λ_=>gB trivial))
 unfold oL;refine gJ (C _ _) λx _=>gJ (C _ _) λy _=>gJ (R:=λ_=>True) ?_ λ_ _=>gB trivial;unfold NI;refine qi 0 2 (λ_=>True) 0 rfl ah ah trivial (λi k hi _ hk=>?_) λk _=>?_
 unfold Ha;exact gG (λ_=>je i rfl bZ (lN (λ_=>gB trivial) λ_=>hk trivial)) λ_=>gB trivial
 unfold Ha;exact gG (λh=>absurd h (by simp[ik])) λ_=>gB trivial
theorem Zh (b:gW)(ab:List gX)(a:gW)(aa:List gX)(e:jI)(h:PW ⟨b,a,ab,aa,e⟩):Ok (QG 5000000000) (xB b ab a aa e):=by
 unfold xB yR;refine iq rfl (gJ (abw [] b ab true h.b h.ab aS aS) λg h1=>iq rfl (gJ (abw g a aa false h.a h.aa (by have:=h1.1;simp at this;omega) h1.2) λl2 h2=>?_));have hlen:l2.length<=5000000000:=by have:=h1.1;have:=h2.1;simp at *;omega
 refine gJ (aee afz (P:=xH) ah h2.2) λd I=>?_;have C:=I.len;have U:d.length<=5000000000:=by omega
 refine kN 0 d.length (λi t=>t.2=d/\QG i t.1) 0 rfl (Nat.zero_le _) ah ⟨rfl,by simp,by simp⟩ (λi t k hi J hk=>?_) λt k J=>?_
 obtain⟨t1,t2⟩:=t;obtain⟨rfl,T,i2⟩:=J;have T:t1.length<=i:=T;have i2:∀ x∈t1,qV x:=i2;have hi:i<t2.length:=hi;have U:t2.length<=5000000000:=U;unfold AP;refine gG (λ_=>jd i rfl hi (iV hi (gJ (aaI h (I.get hi)) λy hy=>ku ?_ ?_ (hk _ ⟨rfl,?_,λx hx=>?_⟩)))) λh=>absurd (show (i:Int)<(t2.length:Int) by omega) h
 have:=hy.1;have:i<=5000000000:=by omega
 show (2*(t1.length+y.length)+192)*768<=_;omega
 have:=hy.1;have:i<=5000000000:=by omega
 show t1.length+y.length<=_;omega
 have:=hy.1;simp only[List.length_append];omega
 rcases List.mem_append.1 hx with hx|hx
 exact i2 x hx
 exact hy.2 x hx
 obtain⟨t1,t2⟩:=t;obtain⟨rfl,T,i2⟩:=J;have T:t1.length<=t2.length:=T;have U:t2.length<=5000000000:=U;unfold AP;exact gG (λh=>absurd h (by show ¬ (t2.length:Int)<(t2.length:Int);omega)) λ_=>gB ⟨Nat.le_trans T U,i2⟩
end Go.Proofs.YtchmoabpofnbaaaGreat
