import Derived.KernelRfl
import Derived.Test.YtchmoabpofnbaaaGreatC98
set_option linter.all false
namespace Go.Proofs.YtchmoabpofnbaaaGreat
open Go Go.Pv
theorem GR {ρ α:Type}{Q:ρ->Prop}{step:Int->(Int->Option ρ)->Option ρ}(l:List α)(hl:l.length<=1048576)(h:∀ (i:Nat) (k:Int->Option ρ),i<l.length->Ok Q (k (iq (i:Int) 1))->Ok Q (step (i:Int) k))(he:∀ k,Ok Q (step (l.length:Int) k)):Ok Q (gK step 0) :=
 pJ 0 l.length (λ_=>True) 0 rfl (Nat.zero_le _) ah trivial (λi k hi _ hk=>h i k hi (hk trivial)) λk _=>he k
theorem ltT {α:Type}{l:List α}{i:Nat}(h:i<l.length):decide ((i:Int)<gJ l)=true:=by simp[gJ];omega
theorem ltF {α:Type}{l:List α}:decide ((l.length:Int)<gJ l)=false:=by simp[gJ]
theorem C9 (a:List Int)(U:a.length<=1048576):yX a a=some true:=by
 unfold yX;refine ok_eq (iY aC (GR a U (λi k hi hk=>?_) λk=>?_))
 unfold Lt;exact jm (ltT hi) (iM i rfl hi (iM i rfl hi (iY aC hk)))
 unfold Lt;exact iY ltF (gm rfl)
theorem Xz (a:List lZ)(U:a.length<=1048576):vT a a=some true:=by
 unfold vT;refine ok_eq (iY aC (GR a U (λi k hi hk=>?_) λk=>?_))
 unfold zo;exact jm (ltT hi) (iM i rfl hi (iM i rfl hi (yN (b:=false) di hk)))
 unfold zo;exact iY ltF (gm rfl)
theorem abU (a:List lZ)(U:a.length<=1048576):EW a a=some true:=by
 unfold EW;refine ok_eq (iY aC (GR a U (λi k hi hk=>?_) λk=>?_))
 unfold Ei;exact jm (ltT hi) (iM i rfl hi (iM i rfl hi (yN (b:=false) di hk)))
 unfold Ei;exact iY ltF (gm rfl)
theorem aaB (a:jg)(U:oP a):Ji a a=some true:=by
 unfold Ji;exact ok_eq (jm aC (yN (b:=true) di (jm rfl (yN (b:=true) di (jm rfl (jm aC (jm aC (jm di (yN (b:=true) di (jm rfl (yN (b:=true) aC (jm rfl (gY (Xz _ (afR U)) (gm rfl))))))))))))))
theorem Y9 (a:List jg)(U:su oP a):yh a a=some true:=by
 unfold yh;refine ok_eq (iY aC (GR a U.1 (λi k hi hk=>?_) λk=>?_))
 unfold zq;exact jm (ltT hi) (iM i rfl hi (iM i rfl hi (gY (aaB _ (U.2 _ (List.getElem_mem hi))) (iY aC hk))))
 unfold zq;exact iY ltF (gm rfl)
theorem QY (a:iP)(U:lT a):DU a a=some true:=by
 have h1:a.mr.length<=1048576:=U.2.1.1;have h2:a.specs.length<=1048576:=U.2.2.2.1.1;unfold DU;refine ok_eq (iY aC (GR a.specs h2 (λi k hi hk=>?_) λk=>?_))
 unfold Hm;exact jm (ltT hi) (iM i rfl hi (iM i rfl hi (yN (b:=false) di hk)))
 unfold Hm;exact iY ltF (jm aC (yN (b:=true) di (jm rfl (gY (Xz _ h1) (jm rfl (yN (b:=true) aC (jm rfl (jm aC (yN (b:=true) di (jm rfl (jm aC (gY (Y9 _ U.2.2.2.2.1) (jm rfl (yN (b:=true) di (gm rfl)))))))))))))))
theorem adQ (a:og)(U:JS a):EU a a=some true:=by
 have h1:a.targets.length<=1048576:=U.2.1;unfold EU;refine ok_eq (iY aC (GR a.targets h1 (λi k hi hk=>?_) λk=>?_))
 unfold Eh;exact jm (ltT hi) (iM i rfl hi (iM i rfl hi (yN (b:=false) aC hk)))
 unfold Eh;exact iY ltF (jm aC (jm aC (jm aC (jm aC (jm aC (jm aC (gY (QY _ U.1) (jm rfl (yN (b:=true) aC (gm rfl))))))))))
theorem Za (a:iL)(U:qB a):zt a a=some true:=by
 unfold zt;exact ok_eq (jm aC (jm aC (gY (QY _ U) (jm rfl (yN (b:=true) aC (gm rfl))))))
theorem adR (a:pM)(U:P6 a):EX a a=some true:=by
 unfold EX;exact ok_eq (jm aC (jm aC (jm aC (jm aC (gY (C9 _ U.1.1) (gY (abU _ U.2.1) (gm rfl)))))))
theorem aaC (a:jP)(U:yg a):AV a a=some true:=by
 unfold AV;refine ok_eq (gV (λs=>s=false) ?_ ?_)
 intro k h;exact iY aC (iY aC (iY aC (yN (b:=false) aC (iY rfl (iY aC (h _ aC))))))
 rintro s rfl
 exact gY (C9 _ U.1.1) (gY (C9 _ U.2.1.1) (gY (C9 _ U.2.2.1) (gm rfl)))
theorem abV (a:gB)(U:lF a):Nc a a=some true:=by
 obtain⟨p1,p2,p3,p4,p5,p6,p7,p8⟩:=U;unfold Nc;refine ok_eq (gV (λs=>s=false) ?_ ?_)
 intro k h;exact iY aC (iY aC (iY aC (iY aC (h _ aC))))
 rintro s rfl
 refine iY rfl (GR a.iJ p1.1 (λi k hi hk=>?_) λk=>?_)
 unfold J3;exact jm (ltT hi) (iM i rfl hi (iM i rfl hi (gY (aaC _ (p1.2 _ (List.getElem_mem hi))) (iY aC hk))))
 unfold J3;refine iY ltF (GR a.objects p2.1 (λi k hi hk=>?_) λk=>?_)
 unfold JZ;exact jm (ltT hi) (iM i rfl hi (iM i rfl hi (yN (b:=false) aC hk)))
 unfold JZ;refine iY ltF (GR a.stack p5.1 (λi k hi hk=>?_) λk=>?_)
 unfold JY;exact jm (ltT hi) (iM i rfl hi (iM i rfl hi (gY (adQ _ (p5.2 _ (List.getElem_mem hi))) (iY aC hk))))
 unfold JY;refine iY ltF (GR a.waiting p6.1 (λi k hi hk=>?_) λk=>?_)
 unfold JX;exact jm (ltT hi) (iM i rfl hi (iM i rfl hi (gY (Za _ (p6.2 _ (List.getElem_mem hi))) (iY aC hk))))
 unfold JX;refine iY ltF (GR a.kW p7.1 (λi k hi hk=>?_) λk=>?_)
 unfold JW;exact jm (ltT hi) (iM i rfl hi (iM i rfl hi (gY (adR _ (p7.2 _ (List.getElem_mem hi))) (iY aC hk))))
 unfold JW;exact iY ltF (gm rfl)
theorem abW (a:gB)(U:lF a):P9 a a=some true:=by
 unfold P9;refine ok_eq (gV (λs=>s=false) ?_ ?_)
 intro k h;exact iY aC (iY aC (iY aC (iY aC (iY aC (iY aC (iY aC (iY aC (iY aC (iY aC (h _ aC))))))))))
 rintro s rfl
 obtain⟨p1,p2,p3,p4,p5,p6,p7,p8⟩:=id U;exact gY (abV a U) (gY (C9 _ p3.1) (gY (C9 _ p4.1) (gY (C9 _ p8.1) (gm rfl))))
set_option maxRecDepth 100000
theorem abX (c:iZ)(C:pq c):Ok (λr=>True) (OV c):=by
 unfold OV;have z1:c.name.size<=1048576:=(C).1;have z2:=(C).2.1;have z6:=((C).2.2).2;refine gV (λ(s1:Bool)=>s1=false->¬(c.color<0)/\¬(31<c.color)) (λk2 I=>gu (Ky _ az) (λy4 h9=>gz (λh10=>I _ af) (λh10=>gu (Kw _ ) (λy5 h11=>gz (λh12=>I _ af) (λh12=>gu (Vy _ aQ) (λy6 h13=>gz (λh14=>I _ af) (λh14=>gu (Vz _ ) (λy7 h15=>gz (λh16=>I _ af) (λh16=>gp (λh17=>I _ af) (λh17=>I _ af)))))))))) (λs1 hs8=>?_);refine gz (λh18=>gm trivial) (λh18=>?_);have hf19:=hs8 h18;refine gV (λ(s8:Bool)=>s8=false->¬(99<c.power)/\¬(99<c.jb)/\¬(c.power<0)/\¬(c.jb<0)/\¬(8<(c.gU.length:Int))) (λk9 U=>gp (λh22=>U _ af) (λh22=>gp (λh23=>U _ af) (λh23=>gp (λh24=>U _ af) (λh24=>gp (λh25=>U _ af) (λh25=>gu (Js _ bQ) (λy11 h26=>gz (λh27=>lU (λh28=>U _ af) (λh28=>lU (λh29=>U _ af) (λh29=>U _ af))) (λh27=>U _ af))))))) (λs8 hs21=>?_);refine gz (λh30=>gm trivial) (λh30=>?_);have hf31:=hs21 h30;refine je (λ(T:Int×Int)=>0<=T.2/\T.2<=(c.gU.length:Int)) (λ(T:Int×Int)=>((c.gU.length:Int)-T.2).toNat) ⟨ae,ae⟩ ak (λT k13 hI32 hk33=>?_);obtain⟨hI32_0,hI32_1⟩:=hI32;unfold Xm;apply gp<;>intro h34
 (try simp only[gJ] at h34)
 refine gV (λ(s15:Int)=>True) (λk16 g=>?_) (λs15 hs36=>?_)
 refine kQ ae ae (λx18 h37=>?_);have z38:lT x18:=z6 x18 h37;refine gu (KA _ aP) (λy19 h53=>?_);refine gz (λh54=>gm trivial) (λh54=>?_);refine kQ ae ae (λx20 h55=>?_);exact gp (λh71=>g _ trivial) (λh71=>g _ trivial)
 have h72:iq T.2 1=T.2+1:=kL ah ah;exact hk33 _ ⟨ae,ae⟩ ae
 (try simp only[gJ] at h34)
 refine gu (YZ _ bQ) (λy21 h73=>?_);refine gz (λh74=>?_) (λh74=>gp (λh80=>gz (λh81=>gp (λh82=>gm trivial) (λh82=>ou (λv25 h83=>gm trivial))) (λh81=>ou (λv26 h84=>gm trivial))) (λh80=>gm trivial));refine gV (λ(s22:Bool)=>True) (λk23 J=>?_) (λs22 hs76=>gm trivial);refine gz (λh77=>?_) (λh77=>J _ trivial);refine gp (λh78=>?_) (λh78=>J _ trivial);apply gp<;>intro h79
 (try simp only[gJ] at h79)
 exact J _ trivial
 (try simp only[gJ] at h79)
 exact J _ trivial
theorem Zb (l:List iZ)(name:ByteArray)(T:(su pq) l)(J:IW name):Ok (λr=>True) (QA l name):=by
 unfold QA;have z1:=(T).1;refine je (λ(U:Int)=>0<=U/\U<=(l.length:Int)) (λ(U:Int)=>((l.length:Int)-U).toNat) ⟨ae,ae⟩ ak (λU k2 hI4 g=>?_);obtain⟨C,I⟩:=hI4;unfold Tn;apply gp<;>intro h6
 (try simp only[gJ] at h6)
 refine kQ ae ae (λx4 h7=>?_);refine gz (λh15=>gm trivial) (λh15=>?_);have h16:iq U 1=U+1:=kL ah ah;exact g _ ⟨ae,ae⟩ ae
 (try simp only[gJ] at h6)
 exact gm trivial
theorem V9 (l:List iZ)(name:ByteArray)(J:(su pq) l)(T:IW name):Ok (λr=>True) (Ny l name):=by
 unfold Ny;have z1:=(J).1;refine je (λ(U:Int)=>0<=U/\U<=(l.length:Int)) (λ(U:Int)=>((l.length:Int)-U).toNat) ⟨ae,ae⟩ ak (λU k2 hI4 hk5=>?_);obtain⟨C,hI4_1⟩:=hI4;unfold QB;apply gp<;>intro h6
 (try simp only[gJ] at h6)
 refine gV (λ(s4:Bool)=>True) (λk5 I=>?_) (λs4 hs8=>?_)
 refine kQ ae ae (λx7 h9=>?_);refine gz (λg=>?_) (λg=>I _ trivial);refine kQ ae ae (λx8 h18=>?_);exact I _ trivial
 refine gz (λh26=>gm trivial) (λh26=>?_);have h27:iq U 1=U+1:=kL ah ah;exact hk5 _ ⟨ae,ae⟩ ae
 (try simp only[gJ] at h6)
 exact gm trivial
theorem TN (l:List iZ)(c:iZ)(T:(su pq) l)(J:pq c):Ok (λr=>True) (Ia l c):=by
 have g:(su lT) c.gU:=J.2.2;have hla:=g.1;unfold Ia;refine pJ 0 c.gU.length (λ_=>True) 0 rfl (Nat.zero_le _) ah trivial ?_ ?_
 intro i k hi _ hk;unfold Gi;refine gp (λ_=>?_) λh=>absurd (show(i:Int)<(c.gU.length:Int) by omega) h;have zx:lT c.gU[i]:=g.2 _ (List.getElem_mem hi);have C:(su oP) (c.gU[i]).kR:=zx.2.2.2.2.1;have hle:=C.1;refine pJ 0 (c.gU[i]).kR.length (λ_=>True) 0 rfl (Nat.zero_le _) ah trivial ?_ ?_
 intro j k5 hj _ I;unfold Gh;refine iM i rfl hi (gp (λ_=>iM i rfl hi (iM j rfl hj (gV (λ_=>True) ?_ ?_))) λh=>absurd (show(j:Int)<((c.gU[i]).kR.length:Int) by omega) h)
 intro k11 U;exact gp (λ_=>gu (V9 _ _ T (by have z:=C.2 _ (List.getElem_mem hj);exact z.2.2.1)) λ_ _=>U _ trivial) λ_=>U _ trivial
 intro s _;exact gz (λ_=>gm trivial) λ_=>I trivial
 intro k5 _;unfold Gh;exact iM i rfl hi (gp (λh=>absurd h (by show ¬ ((c.gU[i]).kR.length:Int)<((c.gU[i]).kR.length:Int);omega)) λ_=>hk trivial)
 intro k _;unfold Gi;exact gp (λh=>absurd h dP) λ_=>gm trivial
theorem We (p:Rt Int)  : Ok (λr=>True) (Nh p):=by
 unfold Nh;refine je (λ(U:Int)=>0<=U/\U<=6) (λ(U:Int)=>(6-U).toNat) ⟨ae,ae⟩ ak (λU k2 hI1 J=>?_);obtain⟨g,hI1_1⟩:=hI1;unfold Qa;refine gp (λh3=>?_) (λh3=>gm trivial);refine gV (λ(s4:Bool)=>True) (λk5 hk4=>?_) (λs4 hs5=>?_)
 refine xN ae ae (λj7 h6=>?_)
 split
 refine gp (λh7=>hk4 _ trivial) (λh7=>?_);refine xN ae ae (λj8 h8=>?_)
 split
 exact fJ
 exact fJ
 exact fJ
 exact fJ
 exact fJ
 exact fJ
 refine gp (λh9=>hk4 _ trivial) (λh9=>?_);refine xN ae ae (λj9 h10=>?_)
 split
 exact fJ
 exact fJ
 exact fJ
 exact fJ
 exact fJ
 exact fJ
 refine gp (λC=>hk4 _ trivial) (λC=>?_);refine xN ae ae (λj10 h12=>?_)
 split
 exact fJ
 exact fJ
 exact fJ
 exact fJ
 exact fJ
 exact fJ
 refine gp (λh13=>hk4 _ trivial) (λh13=>?_);refine xN ae ae (λj11 h14=>?_)
 split
 exact fJ
 exact fJ
 exact fJ
 exact fJ
 exact fJ
 exact fJ
 refine gp (λI=>hk4 _ trivial) (λI=>?_);refine xN ae ae (λj12 h16=>?_)
 split
 exact fJ
 exact fJ
 exact fJ
 exact fJ
 exact fJ
 exact fJ
 refine gp (λT=>hk4 _ trivial) (λT=>?_);refine xN ae ae (λj13 h18=>?_)
 split
 exact fJ
 exact fJ
 exact fJ
 exact fJ
 exact fJ
 exact fJ
 refine gz (λh19=>gm trivial) (λh19=>?_);have h20:iq U 1=U+1:=kL ah ah;exact J _ ⟨ae,ae⟩ ae
theorem Wh (s:gB)(id:Int)(T:lF s):Ok (λr=>-1<=r/\r<(s.objects.length:Int)) (Nj s id):=by
 unfold Nj;have z3:=((T).2.1).1;refine je (λ(U:Int)=>0<=U/\U<=(s.objects.length:Int)) (λ(U:Int)=>((s.objects.length:Int)-U).toNat) ⟨ae,ae⟩ ak (λU k2 C J=>?_);obtain⟨g,hI13_1⟩:=C;unfold Qb;apply gp<;>intro I
 (try simp only[gJ] at I)
 refine kQ ae ae (λx4 h16=>?_);refine gp (λh17=>gm ah) (λh17=>?_);have h18:iq U 1=U+1:=kL ah ah;exact J _ ⟨ae,ae⟩ ae
 (try simp only[gJ] at I)
 exact gm ah
theorem Zc (s:gB)(id:Int)(T:lF s):Ok (λr=>True) (Qc s id):=by
 unfold Qc;exact gu (Wh _ _ au) (λC J=>gp (λU=>gm trivial) (λU=>kQ ae ae (λg I=>gm trivial)))
theorem ML (s:gB)(id:Int)(U:lF s):Ok (λr=>True) (Gf s id):=by
 unfold Gf;exact gu (Zc _ _ au) (λJ T=>gm trivial)
theorem IV (l:List Int)(n:Int)(T:(su (λ(_:Int)=>True)) l):Ok (λr=>True) (FK l n):=by
 unfold FK;have z1:=(T).1;refine je (λ(U:Int×Int)=>0<=U.2/\U.2<=(l.length:Int)) (λ(U:Int×Int)=>((l.length:Int)-U.2).toNat) ⟨ae,ae⟩ ak (λU k2 hI2 g=>?_);obtain⟨C,I⟩:=hI2;unfold Qd;apply gp<;>intro h4
 (try simp only[gJ] at h4)
 refine gV (λ(s4:Int)=>True) (λk5 J=>kQ ae ae (λx7 h7=>gp (λh8=>J _ trivial) (λh8=>J _ trivial))) (λs4 hs6=>?_);have h9:iq U.2 1=U.2+1:=kL ah ah;exact g _ ⟨ae,ae⟩ ae
 (try simp only[gJ] at h4)
 exact gm trivial
theorem BP (s:gB)(l:List Int)(jE:Int)(owner:Int)(zz_s:lF s)(I:(su (λ(_:Int)=>True)) l):Ok (λr=>True) (DV s l jE owner):=by
 unfold DV;have z13:=(I).1;refine je (λ(T:Int)=>0<=T/\T<=(l.length:Int)) (λ(T:Int)=>((l.length:Int)-T).toNat) ⟨ae,ae⟩ ak (λT k2 hI14 J=>?_);obtain⟨hI14_0,hI14_1⟩:=hI14;unfold Tf;apply gp<;>intro g
 (try simp only[gJ] at g)
 refine kQ ae ae (λx4 h17=>?_);refine gu (ML _ _ au) (λy5 h18=>?_);refine gV (λ(s6:Bool)=>s6=false->y5.1.jE=jE) (λk7 U=>gz (λh21=>U _ af) (λh21=>lU (λh22=>U _ af) (λh22=>gp (λh23=>lU (λh24=>U _ af) (λh24=>kQ ae ae (λx9 h25=>gu (IV _ _ ax) (λy10 h26=>U _ af)))) (λh23=>kQ ae ae (λx11 h27=>gu (IV _ _ ax) (λy12 h28=>U _ af)))))) (λs6 C=>?_);refine gz (λh29=>gm trivial) (λh29=>?_);have hf30:=C h29;have h31:iq T 1=T+1:=kL ah ah;exact J _ ⟨ae,ae⟩ ae
 (try simp only[gJ] at g)
 exact gm trivial
theorem TP (s:gB)(U:lF s):Ok (λr=>True) (Ho s):=by
 unfold Ho;have z1:=((U).1).1;have z2:=((U).1).2;have z4:=((U).2.2.1).1;have z5:=((U).2.2.2.1).1;refine gu (nG _ _ _ ) (λy1 h13=>?_);refine gz (λh14=>gm trivial) (λh14=>?_);refine je (λ(C:Int)=>0<=C/\C<=(s.iJ.length:Int)) (λ(C:Int)=>((s.iJ.length:Int)-C).toNat) ⟨ae,ae⟩ ak (λC k3 hI15 hk16=>?_);obtain⟨hI15_0,hI15_1⟩:=hI15;unfold Lu;apply gp<;>intro g
 (try simp only[gJ] at g)
 refine kQ ae ae (λx5 h18=>?_);have I:yg x5:=z2 x5 h18;have z20:=((I).1).1;have z21:=((I).2.1).1;have z22:=((I).2.2).1;refine gV (λ(s6:Bool)=>True) (λk7 T=>gu (nG _ _ _ ) (λy9 h25=>gz (λh26=>T _ trivial) (λh26=>gu (nG _ _ _ ) (λy10 h27=>gz (λh28=>T _ trivial) (λh28=>gu (nG _ _ _ ) (λy11 h29=>gz (λh30=>T _ trivial) (λh30=>gu (We _ ) (λy12 h31=>T _ trivial)))))))) (λs6 hs24=>?_);refine gz (λh32=>gm trivial) (λh32=>?_);refine gV (λ(s13:Bool)=>True) (λk14 J=>gu (BP _ _ _ _ au ax) (λy16 h35=>gz (λh36=>J _ trivial) (λh36=>gu (BP _ _ _ _ au ax) (λy17 h37=>gz (λh38=>J _ trivial) (λh38=>gu (BP _ _ _ _ au ax) (λy18 h39=>J _ trivial)))))) (λs13 hs34=>?_);refine gz (λh40=>gm trivial) (λh40=>?_);have h41:iq C 1=C+1:=kL ah ah;exact hk16 _ ⟨ae,ae⟩ ae
 (try simp only[gJ] at g)
 exact gu (BP _ _ _ _ au ax) (λy19 h42=>gz (λh43=>gu (BP _ _ _ _ au ax) (λy20 h44=>gm trivial)) (λh43=>gm trivial))
theorem abY (c:NK Int)  : Ok (λr=>True) (Yr c):=by
 unfold Yr;refine je (λ(U:Int)=>0<=U/\U<=3) (λ(U:Int)=>(3-U).toNat) ⟨ae,ae⟩ ak (λU k2 hI1 T=>?_);obtain⟨I,C⟩:=hI1;unfold Xh;refine gp (λh3=>?_) (λh3=>gm trivial);refine gV (λ(s4:Bool)=>True) (λk5 hk4=>?_) (λs4 hs5=>?_)
 refine xN ae ae (λj7 h6=>?_)
 split
 refine gp (λh7=>hk4 _ trivial) (λh7=>?_);refine xN ae ae (λj8 h8=>?_)
 split
 exact fJ
 exact fJ
 exact fJ
 refine gp (λh9=>hk4 _ trivial) (λh9=>?_);refine xN ae ae (λj9 h10=>?_)
 split
 exact fJ
 exact fJ
 exact fJ
 refine gp (λJ=>hk4 _ trivial) (λJ=>?_);refine xN ae ae (λj10 h12=>?_)
 split
 exact fJ
 exact fJ
 exact fJ
 refine gz (λg=>gm trivial) (λg=>?_);have h14:iq U 1=U+1:=kL ah ah;exact T _ ⟨ae,ae⟩ ae
theorem Zd (o:iw)  : Ok (λr=>True) (Qe o):=by
 unfold Qe;exact gm trivial
theorem Wi (o:iw)  : Ok (λr=>True) (Nk o):=by
 unfold Nk;exact gm trivial
theorem abZ (o:iw)(cards:Int)(iJ:Int)  : Ok (λr=>True) (Yt o cards iJ):=by
 unfold Yt;refine gV (λ(s1:Bool)=>s1=false->¬(cards<=o.card)/\¬(o.card<0)/\¬(o.control<0)/\¬(o.id<1)/\¬(o.owner<0)/\¬(o.jE<0)/\¬(iJ<=o.control)/\¬(iJ<=o.owner)/\¬(5<o.jE)) (λk2 T=>gp (λh3=>T _ af) (λh3=>gp (λh4=>T _ af) (λh4=>gp (λh5=>T _ af) (λh5=>gp (λh6=>T _ af) (λh6=>gp (λh7=>T _ af) (λh7=>gp (λh8=>T _ af) (λh8=>gp (λh9=>T _ af) (λh9=>gp (λh10=>T _ af) (λh10=>T _ af))))))))) (λs1 hs2=>?_);refine gz (λC=>gm trivial) (λC=>?_);have hf12:=hs2 C;refine gV (λ(s4:Bool)=>s4=false->¬(1000000<o.blocks)/\¬(1000000<o.Cm)/\¬(1000000<o.stamp)/\¬(o.blocks<0)/\¬(o.Cm<0)/\¬(o.AU<0)/\¬(o.stamp<0)/\¬(1000000<o.AU)) (λk5 U=>gp (λh15=>U _ af) (λh15=>gp (λh16=>U _ af) (λh16=>gp (λh17=>U _ af) (λh17=>gp (λh18=>U _ af) (λh18=>gp (λh19=>U _ af) (λh19=>gp (λh20=>U _ af) (λh20=>gp (λh21=>U _ af) (λh21=>U _ af)))))))) (λs4 hs14=>?_);refine gz (λg=>gm trivial) (λg=>?_);have hf23:=hs14 g;refine gV (λ(s7:Bool)=>s7=false->¬(cards<=o.copy)/\¬(o.yE<(-1))/\¬(o.copy<(-1))/\¬(iJ<=o.yE)) (λk8 J=>gu (abY _ ) (λy10 h26=>gz (λh27=>J _ af) (λh27=>gp (λh28=>J _ af) (λh28=>gp (λh29=>J _ af) (λh29=>gp (λh30=>J _ af) (λh30=>J _ af)))))) (λs7 hs25=>?_)
 refine gz (λI=>gm trivial) (λI=>?_);have hf32:=hs25 I;exact gp (λh33=>gm trivial) (λh33=>gu (Zd _ ) (λy11 h34=>ou (λv12 h35=>gz (λh36=>gu (Wi _ ) (λy13 h37=>ou (λv14 h38=>gz (λh39=>gz (λh40=>gz (λh41=>ou (λv15 h42=>gm trivial)) (λh41=>gm trivial)) (λh40=>gm trivial)) (λh39=>gm trivial)))) (λh36=>gm trivial))))
theorem VJ (s:gB)(id:Int)(g:lF s):Ok (λr=>True) (J4 s id):=by
 unfold J4;have z6:=((g).2.2.2.2.1).1;refine je (λ(J:Int×Int)=>0<=J.2/\J.2<=(s.stack.length:Int)) (λ(J:Int×Int)=>((s.stack.length:Int)-J.2).toNat) ⟨ae,ae⟩ ak (λJ k2 I hk14=>?_);obtain⟨hI13_0,hI13_1⟩:=I;unfold NU;apply gp<;>intro C
 (try simp only[gJ] at C)
 refine gV (λ(s4:Int)=>True) (λk5 U=>?_) (λs4 hs17=>?_)
 refine gV (λ(s7:Bool)=>True) (λk8 T=>?_) (λs7 hs19=>gz (λh57=>U _ trivial) (λh57=>U _ trivial));refine kQ ae ae (λx10 h20=>?_);refine gp (λh38=>?_) (λh38=>T _ trivial);refine kQ ae ae (λx11 h39=>?_);exact T _ trivial
 have h58:iq J.2 1=J.2+1:=kL ah ah;exact hk14 _ ⟨ae,ae⟩ ae
 (try simp only[gJ] at C)
 exact gm trivial
theorem Ze (s:gB)(jE:Int)(mV:Int)(U:lF s):Ok (λr=>r.length<=1048576) (Qg s jE mV):=by
 unfold Qg;have z2:=((U).1).2;have z4:=((U).2.2.1).1;have z5:=((U).2.2.2.1).1;refine gp (λh13=>gu (BL _ ax) (λy1 h14=>gm aX)) (λh13=>?_);refine gp (λg=>gu (BL _ ax) (λy2 h16=>gm aX)) (λg=>?_);refine gV (λ(s3:Bool)=>s3=false->¬(mV<0)/\¬((s.iJ.length:Int)<=mV)) (λk4 T=>gp (λh19=>T _ af) (λh19=>T _ af)) (λs3 I=>?_);refine gz (λJ=>gm aX) (λJ=>?_);have hf21:=I J;apply gp<;>intro h22
 refine kQ ae ae (λx6 h23=>?_);have z24:yg x6:=z2 x6 h23;have z26:=((z24).2.1).1;exact gu (BL _ ax) (λy7 h28=>gm aX)
 apply gp<;>intro h29
 refine kQ ae ae (λx8 C=>?_);have z31:yg x8:=z2 x8 C;have z32:=((z31).1).1;exact gu (BL _ ax) (λy9 h35=>gm aX)
 refine gp (λh36=>?_) (λh36=>gm aX);refine kQ ae ae (λx10 h37=>?_);have z38:yg x10:=z2 x10 h37;have z41:=((z38).2.2).1;exact gu (BL _ ax) (λy11 h42=>gm aX)
theorem VK (s:gB)(o:iw)(T:lF s):Ok (λr=>True) (J5 s o):=by
 unfold J5;exact gp (λU=>gu (VJ _ _ au) (λy1 J=>gm trivial)) (λU=>gu (Ze _ _ _ au) (λg I=>gu (IV _ _ ax) (λy3 C=>gm trivial)))
theorem TQ (cards:List iZ)(s:gB)(J:(su pq) cards)(zz_s:lF s):Ok (λr=>True) (Hq cards s):=by
 unfold Hq;apply gp<;>intro C
 (try simp only[gJ] at C)
 exact gm trivial
 (try simp only[gJ] at C)
 refine je (λ(T:Int)=>0<=T/\T<=(s.objects.length:Int)) (λ(T:Int)=>((s.objects.length:Int)-T).toNat) ⟨ae,ae⟩ ak (λT k2 g I=>?_);obtain⟨hI16_0,hI16_1⟩:=g;unfold LC;apply gp<;>intro h18
 (try simp only[gJ] at h18)
 refine kQ ae ae (λx4 h19=>?_);refine gV (λ(s5:Bool)=>s5=false->¬(s.nextId<=x4.id)/\¬(s.kD<=x4.stamp)) (λk6 U=>?_) (λs5 hs21=>?_)
 refine gu (abZ _ _ _ ) (λy8 h22=>?_);refine gz (λh23=>U _ af) (λh23=>?_);refine gp (λh24=>U _ af) (λh24=>?_);refine gp (λh25=>U _ af) (λh25=>?_);refine gp (λh26=>?_) (λh26=>U _ af);have h27:qI T 1=T-1:=Fz aY aY;exact kQ ae ae (λx9 h28=>U _ af)
 refine gz (λh29=>gm trivial) (λh29=>?_);have hf30:=hs21 h29;refine gu (VK _ _ au) (λy10 h31=>?_);refine gz (λh32=>gm trivial) (λh32=>?_);have h33:iq T 1=T+1:=kL ah ah;exact I _ ⟨ae,ae⟩ ae
 (try simp only[gJ] at h18)
 exact gm trivial
theorem Zf (s:gB)(x:og)(zz_s:lF s)(g:JS x):Ok (λr=>True) (Qu s x):=by
 unfold Qu;have z13:=(g).1;refine gV (λ(s1:Bool)=>s1=false->¬(4<(x.targets.length:Int))) (λk2 T=>?_) (λs1 J=>?_)
 refine gu (nG _ _ _ ) (λy4 h31=>?_);refine gz (λh32=>T _ af) (λh32=>?_);refine gu (nG _ _ _ ) (λy5 h33=>?_);refine gz (λh34=>T _ af) (λh34=>?_);apply gp<;>intro I
 (try simp only[gJ] at I)
 exact T _ af
 (try simp only[gJ] at I)
 exact gu (sV _ _ au) (λy6 h36=>T _ af)
 refine gz (λC=>gm trivial) (λC=>?_);have hf38:=J C;exact gu (ML _ _ au) (λy7 h39=>gp (λh40=>gu (YN _ _ aP YL) (λy8 h41=>gV (λ(s9:Bool)=>True) (λk10 U=>gp (λh44=>gz (λh45=>gp (λh46=>gz (λh47=>U _ trivial) (λh47=>gu (KA _ aP) (λy12 h48=>U _ trivial))) (λh46=>U _ trivial)) (λh45=>U _ trivial)) (λh44=>U _ trivial)) (λs9 hs43=>gm trivial))) (λh40=>gp (λh49=>gz (λh50=>gu (KA _ aP) (λy13 h51=>gm trivial)) (λh50=>gm trivial)) (λh49=>gm trivial)))
theorem ab1 (l:List Int)(T:(su (λ(_:Int)=>True)) l):Ok (λr=>True) (YA l):=by
 unfold YA;have z1:=(T).1;refine je (λ(U:Int)=>1<=U) (λ(U:Int)=>((l.length:Int)-U).toNat) ae ak (λU k2 g J=>?_);unfold Xj;apply gp<;>intro I
 (try simp only[gJ] at I)
 have h5:qI U 1=U-1:=Fz aY aY;refine kQ ae ae (λx4 h6=>?_);refine kQ ae ae (λx5 h7=>?_);refine gp (λC=>gm trivial) (λC=>?_);have h9:iq U 1=U+1:=kL ah ah;exact J _ ae ae
 (try simp only[gJ] at I)
 exact gm trivial
theorem Wj (s:gB)(g:lF s):Ok (λr=>True) (Nw s):=by
 unfold Nw;have z7:=((g).2.2.2.2.1).2;have z9:=((g).2.2.2.2.2.1).2;have z11:=((g).2.2.2.2.2.2.1).2;refine gV (λ(s1:Bool)=>s1=false->¬(64<(s.stack.length:Int))/\¬(64<(s.waiting.length:Int))/\¬(64<(s.kW.length:Int))) (λk2 C=>?_) (λs1 hs14=>?_)
 apply gp<;>intro h15
 (try simp only[gJ] at h15)
 exact C _ af
 (try simp only[gJ] at h15)
 apply gp<;>intro h16
 (try simp only[gJ] at h16)
 exact C _ af
 (try simp only[gJ] at h16)
 exact C _ af
 refine gz (λh17=>gm trivial) (λh17=>?_);have hf18:=hs14 h17;refine je (λ(s4:Int)=>0<=s4/\s4<=(s.stack.length:Int)) (λ(s4:Int)=>((s.stack.length:Int)-s4).toNat) ⟨ae,ae⟩ ak (λs4 k5 hI19 hk20=>?_);obtain⟨hI19_0,hI19_1⟩:=hI19;unfold Qy;apply gp<;>intro h21
 (try simp only[gJ] at h21)
 refine kQ ae ae (λx7 h22=>?_);have z23:JS x7:=z7 x7 h22;refine gu (Zf _ _ au (by first|assumption|(refine⟨by omega,?_⟩;first|(intro _ _;trivial)|assumption)|(unfold JS;simp_all[IW,su]))) (λy8 h40=>?_);refine gz (λh41=>gm trivial) (λh41=>?_);refine je (λ(s9:Int)=>0<=s9) (λ(s9:Int)=>(s4-s9).toNat) ae ak (λs9 k10 hI42 hk43=>?_);unfold Qv;apply gp<;>intro h44
 refine kQ ae ae (λx12 h45=>?_);refine kQ ae ae (λx13 h63=>?_);refine gp (λh81=>gm trivial) (λh81=>?_);have h82:iq s9 1=s9+1:=kL ah ah;exact hk43 _ ae ae
 have h83:iq s4 1=s4+1:=kL ah ah;exact hk20 _ ⟨ae,ae⟩ ae
 (try simp only[gJ] at h21)
 refine je (λ(I:Int)=>0<=I/\I<=(s.waiting.length:Int)) (λ(I:Int)=>((s.waiting.length:Int)-I).toNat) ⟨ae,ae⟩ ak (λI k15 hI84 hk85=>?_);obtain⟨hI84_0,hI84_1⟩:=hI84;unfold Qx;apply gp<;>intro h86
 (try simp only[gJ] at h86)
 refine kQ ae ae (λx17 h87=>?_);have z88:qB x17:=z9 x17 h87;refine gV (λ(s18:Bool)=>s18=false->x17.jr.kind=4) (λk19 T=>gu (sV _ _ au) (λy21 h106=>gz (λh107=>T _ af) (λh107=>lU (λh108=>T _ af) (λh108=>gu (KA _ aP) (λy22 h109=>T _ af))))) (λs18 hs105=>?_);refine gz (λh110=>gm trivial) (λh110=>?_);have hf111:=hs105 h110;have h112:iq I 1=I+1:=kL ah ah;exact hk85 _ ⟨ae,ae⟩ ae
 (try simp only[gJ] at h86)
 refine je (λ(J:Int)=>0<=J/\J<=(s.kW.length:Int)) (λ(J:Int)=>((s.kW.length:Int)-J).toNat) ⟨ae,ae⟩ ak (λJ k24 hI113 hk114=>?_);obtain⟨hI113_0,hI113_1⟩:=hI113;unfold Qw;apply gp<;>intro h115
 (try simp only[gJ] at h115)
 refine kQ ae ae (λx26 h116=>?_);have z117:P6 x26:=z11 x26 h116;have z118:=((z117).1).1;have z119:=((z117).2).1;have z120:=((z117).2).2;refine gV (λ(s27:Bool)=>s27=false->¬(s.kD<=x26.stamp)) (λk28 U=>gu (sV _ _ au) (λy30 h123=>gz (λh124=>U _ af) (λh124=>gp (λh125=>U _ af) (λh125=>gu (nG _ _ _ ) (λy31 h126=>gz (λh127=>U _ af) (λh127=>gu (ab1 _ ax) (λy32 h128=>gz (λh129=>U _ af) (λh129=>gu (CY _ ax) (λy33 h130=>U _ af))))))))) (λs27 hs122=>?_);refine gz (λh131=>gm trivial) (λh131=>?_);have hf132:=hs122 h131;have h133:iq J 1=J+1:=kL ah ah;exact hk114 _ ⟨ae,ae⟩ ae
 (try simp only[gJ] at h115)
 exact gm trivial
theorem ab2 (cards:List iZ)(s:gB)(C:(su pq) cards)(zz_s:lF s):Ok (λr=>True) (OU cards s):=by
 unfold OU;refine gV (λ(s1:Bool)=>s1=false->¬(2048<(s.objects.length:Int))) (λk2 T=>gu (nG _ _ _ ) (λy4 h17=>gz (λh18=>T _ af) (λh18=>gu (nG _ _ _ ) (λy5 h19=>gz (λh20=>T _ af) (λh20=>gu (nG _ _ _ ) (λy6 h21=>gz (λh22=>T _ af) (λh22=>gu (nG _ _ _ ) (λy7 h23=>gz (λh24=>T _ af) (λh24=>T _ af))))))))) (λs1 hs16=>?_);refine gz (λh25=>gm trivial) (λh25=>?_);have hf26:=hs16 h25;refine gV (λ(s8:Bool)=>s8=false->¬(500<(s.extra.length:Int))) (λk9 U=>?_) (λs8 hs28=>?_)
 refine gu (TP _ au) (λy11 h29=>?_);refine gz (λh30=>U _ af) (λh30=>?_);refine gu (sV _ _ au) (λy12 h31=>?_);refine gz (λh32=>U _ af) (λh32=>?_);refine gu (sV _ _ au) (λy13 h33=>?_);refine gz (λh34=>U _ af) (λh34=>?_);refine gu (nG _ _ _ ) (λy14 h35=>?_);refine gz (λh36=>U _ af) (λh36=>?_);apply gp<;>intro h37
 (try simp only[gJ] at h37)
 exact U _ af
 (try simp only[gJ] at h37)
 exact gu (nG _ _ _ ) (λy15 h38=>U _ af)
 refine gz (λh39=>gm trivial) (λh39=>?_);have hf40:=hs28 h39;refine je (λ(I:Int)=>0<=I/\I<=(s.extra.length:Int)) (λ(I:Int)=>((s.extra.length:Int)-I).toNat) ⟨ae,ae⟩ ak (λI k17 hI41 g=>?_);obtain⟨hI41_0,hI41_1⟩:=hI41;unfold Xk;apply gp<;>intro h43
 (try simp only[gJ] at h43)
 refine kQ ae ae (λx19 h44=>?_);refine gu (sV _ _ au) (λy20 h45=>?_);refine gz (λh46=>gm trivial) (λh46=>?_);have h47:iq I 1=I+1:=kL ah ah;exact g _ ⟨ae,ae⟩ ae
 (try simp only[gJ] at h43)
 exact gV (λ(s21:Bool)=>True) (λk22 J=>gp (λh50=>gu (sV _ _ au) (λy24 h51=>gz (λh52=>J _ trivial) (λh52=>lU (λh53=>J _ trivial) (λh53=>J _ trivial)))) (λh50=>lU (λh54=>J _ trivial) (λh54=>J _ trivial))) (λs21 hs49=>gz (λh55=>gm trivial) (λh55=>gu (TQ _ _ ax au) (λy25 h56=>gz (λh57=>gu (Wj _ au) (λy26 h58=>gm trivial)) (λh57=>gm trivial))))
structure VL (c:iZ):Prop where
 types:1<=c.line.types/\c.line.types<=63
 keys:0<=c.keys/\c.keys<=131071
 agM:c.gU.length<=8
 pt:(0<=c.power/\c.power<=99)/\0<=c.jb/\c.jb<=99
theorem afS (l:zZ)(hl:Aq l):Ok (λr=>r=true->1<=l.types/\l.types<=63) (J8 l):=by
 obtain⟨r,e,_⟩:=Vy l hl;refine⟨r,e,λh=>?_⟩;subst h
 by_cases h1:l.types<1
 exfalso
 have:J8 l=some false:=by
  unfold J8;refine ok_eq (gV (λb=>b=true) (λk hk=>?_) λb U=>by subst U;exact gm rfl);exact gp (λ_=>hk _ rfl) λ_=>gp (λ_=>hk _ rfl) λ_=>gp (λ_=>hk _ rfl) λh=>absurd h1 h
 rw[e] at this;cases this
 by_cases h2:63<l.types
 exfalso
 have:J8 l=some false:=by
  unfold J8;refine ok_eq (gV (λb=>b=true) (λk hk=>?_) λb U=>by subst U;exact gm rfl);exact gp (λ_=>hk _ rfl) λ_=>gp (λ_=>hk _ rfl) λ_=>gp (λ_=>hk _ rfl) λ_=>gp (λ_=>hk _ rfl) λh=>absurd h2 h
 rw[e] at this;cases this
 omega
theorem afT (k:Int):OO k=some (decide (0<=k/\k<=131071)):=by
 unfold OO;exact ok_eq (gp (λh=>gm dM) λh=>gm dM)
theorem afU (c:iZ)(hc:pq c):Ok (λr=>r=true->VL c) (OV c):=by
 obtain⟨r,e,_⟩:=abX c hc;refine⟨r,e,λh=>?_⟩;subst h;refine Classical.byContradiction λT=>?_
 have:OV c=some false:=by
  unfold OV;refine ok_eq (gV (λb=>b=false->(1<=c.line.types/\c.line.types<=63)/\(0<=c.keys/\c.keys<=131071)) (λk hk=>?_) λb U=>?_)
  refine gu (Ky _ hc.1) λ_ _=>gz (λ_=>hk _ λh=>by cases h) λ_=>gu (Kw _) λ_ _=>gz (λ_=>hk _ λh=>by cases h) λ_=>?_;refine gu (afS _ hc.2.1) λy hy=>gz (λ_=>hk _ λh=>by cases h) λh1=>gY (afT _) (gz (λ_=>hk _ λh=>by cases h) λh2=>?_);have h1:y=true:=by cases y with|true=>rfl|false=>cases h1
  have h2:0<=c.keys/\c.keys<=131071:=by
   cases C:decide (0<=c.keys/\c.keys<=131071) with
   | true=>exact of_decide_eq_true C
   | false=>rw[C] at h2;cases h2
  exact gp (λ_=>hk _ λh=>by cases h) λ_=>hk _ λ_=>⟨hy h1,h2⟩
  refine gz (λ_=>gm rfl) λI=>?_;obtain⟨g1,g2⟩:=U I
  have g:((0<=c.power/\c.power<=99)/\0<=c.jb/\c.jb<=99)->8<gJ c.gU:=by
   intro J;refine Classical.byContradiction λh=>T ⟨g1,g2,?_,J⟩;simp only[gJ] at h;omega
  refine gV (λb=>b=true) (λk hk=>?_) λb U=>by subst U;exact gm rfl
  refine gp (λ_=>hk _ rfl) λa1=>gp (λ_=>hk _ rfl) λa2=>gp (λ_=>hk _ rfl) λa3=>gp (λ_=>hk _ rfl) λa4=>?_;have last:Ok (λr=>r=false) (k (decide (8<gJ c.gU))):=hk _ (decide_eq_true (g ah));exact gu (Js c hc) λ_ _=>gz (λ_=>lU (λ_=>hk _ rfl) λ_=>lU (λ_=>hk _ rfl) λ_=>last) λ_=>last
 rw[e] at this;cases this
theorem adS (l:List iZ)(hl:su pq l):Ok (λr=>r.2=0->∀ c∈l,VL c) (Nz l):=by
 have hlen:=hl.1;unfold Nz;refine gp (λ_=>gm λh=>by cases h) λ_=>?_;refine pJ 0 l.length (λn=>∀ c∈l.take n,VL c) 0 rfl (Nat.zero_le _) ah aC (λi k hi U hk=>?_) λk U=>?_
 have hx:=hl.2 _ (List.getElem_mem hi);unfold J9;refine gp (λ_=>iM i rfl hi (gu (afU _ hx) λy hy=>gz (λ_=>gm λh=>by cases h) λh1=>iM i rfl hi (gu (Zb l _ hl hx.1) λ_ _=>gp (λ_=>gm λh=>by cases h) λ_=>iM i rfl hi (gu (TN l _ hl hx) λ_ _=>gz (λ_=>gm λh=>by cases h) λ_=>hk λc hc=>?_)))) λh=>absurd (show(i:Int)<(l.length:Int) by omega) h;rw[nz l i hi] at hc;rcases List.mem_append.1 hc with hc|hc
 exact U c hc
 rw[List.mem_singleton.1 hc];exact hy (by cases y with|true=>rfl|false=>cases h1)
 unfold J9;rw[zi] at U;exact gp (λh=>absurd h aS) λ_=>gm λ_=>U
theorem aip (cards:List iZ)(s:gB)(hc:su pq cards)(hs:lF s):Ok (λr=>r=true->s.objects.length<=2048) (OU cards s):=by
 obtain⟨r,e,_⟩:=ab2 cards s hc hs;refine⟨r,e,λh=>?_⟩;subst h;refine Classical.byContradiction λU=>?_
 have:OU cards s=some false:=by
  unfold OU;refine ok_eq (gV (λb=>b=true) (λk hk=>?_) λb T=>by subst T;exact gm rfl);refine gu (nG _ _ _) λ_ _=>gz (λ_=>hk _ rfl) λ_=>gu (nG _ _ _) λ_ _=>gz (λ_=>hk _ rfl) λ_=>gu (nG _ _ _) λ_ _=>gz (λ_=>hk _ rfl) λ_=>gu (nG _ _ _) λ_ _=>gz (λ_=>hk _ rfl) λ_=>hk _ ?_;exact decide_eq_true (by simp only[gJ];omega)
 rw[e] at this;cases this
structure StA (s:gB):Prop where
 sz:lF s
 ob:s.objects.length<=2048
def KE (e:kz):Prop:=e.kind=6\/e.kind=12
theorem StA.obs {s:gB}(H:StA s){l:List iw}(hl:l.length=s.objects.length):StA { s with objects:=l }:=by
 obtain⟨z1,z2,z3⟩:=H.sz;exact⟨⟨z1,⟨by show l.length<=_;rw[hl];exact z2.1,λ_ _=>trivial⟩,z3⟩,by show l.length<=_;rw[hl];exact H.ob⟩
theorem StA.wait {s:gB}(H:StA s){w:List iL}(U:su qB w):StA { s with waiting:=w }:=by
 obtain⟨z1,z2,z3,z4,z5,z6,z7,z8⟩:=H.sz;exact⟨⟨z1,z2,z3,z4,z5,U,z7,z8⟩,H.ob⟩
theorem afV {s:gB}(H:StA s)(id:Int):Ok (λ_=>True) (NC s id):=by
 have ho:=H.ob;unfold NC OW;exact gu (R:=λr=>r<(s.objects.length:Int)) (gu (NH _ _ ah λx=>gm trivial) λy hy=>gm hy) λy hy=>gp (λ_=>gm trivial) λh=>kQ ah hy λ_ _=>gm trivial
theorem aaD {s:gB}(H:StA s)(id:Int):Ok (λ_=>True) (Dv s id):=by
 unfold Dv;exact gu (afV H id) λy _=>gz (λ_=>gm trivial) λ_=>gm trivial
theorem ab3 (s:gB)(p:Int):Ok (λ_=>True) (Fb s p):=by
 unfold Fb;exact gp (λh=>gp (λh2=>kQ h h2 λ_ _=>gm trivial) λ_=>gm trivial) λ_=>gm trivial
theorem ab4 {s:gB}(H:StA s)(cards:List iZ){e:kz}(he:KE e):Ok (λ_=>True) (Gl cards s e):=by
 unfold Gl;refine gu (aaD H _) λy _=>?_;rcases he with h|h<;>rw[h]
 ·iterate 9 refine iY rfl ?_
  exact jm rfl (gz (λ_=>gm trivial) λ_=>gm trivial)
 ·iterate 15 refine iY rfl ?_
  exact jm rfl (gz (λ_=>gu (ab3 _ _) λ_ _=>gm trivial) λ_=>gm trivial)
theorem NI (s:gB)(hs:s.objects.length<=2048)(id:Int):Ok (λr=>∀ j,r=some j->j<s.objects.length) (xH s id):=by
 unfold xH;refine pJ 0 s.objects.length (λ_=>True) 0 rfl (Nat.zero_le _) ah trivial (λi k hi _ hk=>?_) λk _=>?_
 unfold Gu;exact jm (ltT hi) (ja i rfl hi (iR hi (gp (λ_=>ja i rfl hi (gm λj e=>by cases e;exact hi)) λ_=>hk trivial)))
 unfold Gu;exact iY ltF (gm λj e=>by cases e)
theorem VM (s:gB)(all:List gG)(id:Int)(hs:s.objects.length<=2048):Ok (λ_=>True) (Gv s all id):=by
 unfold Gv;refine pJ 0 s.objects.length (λ_=>True) 0 rfl (Nat.zero_le _) ah trivial (λi k hi _ hk=>?_) λk _=>?_
 unfold IL;refine jm (ltT hi) (iM i rfl hi (gV (λb=>b=true->i<all.length) (λk6 U=>gp (λ_=>U _ λh=>?_) λ_=>U _ λh=>by cases h) λb T=>gz (λh=>iM i rfl (T h) (gu (oN _ _) λ_ _=>gm trivial)) λ_=>hk trivial));have:=of_decide_eq_true h;simp only[gJ] at this;omega
 unfold IL;exact iY ltF (gm trivial)
theorem aaE {l:List iw}{j:Nat}(hj:j<l.length)(d:Bool){e:kz}(he:KE e):Ok (λr=>r.length=l.length) (D6 l j d e):=by
 unfold D6;rcases he with h|h<;>rw[h]
 exact iY rfl (jm rfl (iR hj (gm aC)))
 ·iterate 5 refine iY rfl ?_
  exact jm rfl (iR hj (gm aC))
theorem aiq {s:gB}(H:StA s)(cards:List iZ)(all:List gG){e:kz}(he:KE e):Ok StA (RI cards s all e):=by
 have ho:=H.ob;have U:=he;unfold RI;refine gY (KF s H.sz) (gu (ab4 H cards he) λy _=>gz (λ_=>gm H) λ_=>?_);rcases he with h|h<;>rw[h]
 ·iterate 8 refine iY rfl ?_
  refine jm rfl (gV (λl=>l.length=s.objects.length) (λk4 T=>gu (NI s ho _) λy hy=>?_) λl hl=>gu (NI { s with objects:=l } (by show l.length<=_;omega) _) λy hy=>?_)
  cases y with
  | none=>exact T _ rfl
  | some j=>exact gu (VM s all _ ho) λd _=>gu (aaE (hy j rfl) d U) λl hl=>T l hl
  cases y with
  | none=>exact iY rfl (gm (H.obs hl))
  | some j=>exact iY rfl (gm (H.obs hl))
 ·iterate 12 refine iY rfl ?_
  refine jm rfl (gV (λl=>l.length=s.objects.length) (λk4 T=>gu (NI s ho _) λy hy=>?_) λl hl=>gu (NI { s with objects:=l } (by show l.length<=_;omega) _) λy hy=>?_)
  cases y with
  | none=>exact T _ rfl
  | some j=>exact gu (VM s all _ ho) λd _=>gu (aaE (hy j rfl) d U) λl hl=>T l hl
  cases y with
  | none=>exact iY rfl (gm (H.obs hl))
  | some j=>exact iY rfl (gm (H.obs hl))
theorem aaF {s:gB}(H:StA s){all:List gG}(U:aax all)(id:Int):Ok (λr=>kV r.2.1) (A8 s all id):=by
 have ho:=H.ob;unfold A8;refine gu (NH _ _ ah λx=>gm trivial) λy hy=>gp (λ_=>gm adF) λh0=>gp (λ_=>kQ ah hy λ_ _=>gm adF) λh1=>kQ ah hy λ_ _=>kQ ah (by simp only[gJ] at h1;omega) λt ht=>gm (U t ht)
theorem ab5 (cards:List iZ)(s:gB)(all:List gG){e:kz}(he:KE e)(U:qJ)(you source:Int):zu cards s all e U you source=some false:=by
 unfold zu;refine ok_eq (lU (λ_=>gm rfl) λ_=>?_);rcases he with h|h<;>rw[h]
 ·iterate 7 refine iY rfl ?_
  exact gm rfl
 ·iterate 7 refine iY rfl ?_
  exact gm rfl
theorem aaG {s:gB}(H:StA s)(cards:List iZ){all:List gG}(ha:aax all){e:kz}(he:KE e):zy cards s all e=some []:=by
 have ho:=H.ob;have k1:e.kind≠1:=by rcases he with h|h<;>omega
 have k2:e.kind≠2:=by rcases he with h|h<;>omega
 unfold zy;obtain⟨b,eb,_⟩:=ab4 H cards he;refine ok_eq (gY eb (gz (λ_=>gm rfl) λ_=>gV (λ_=>True) (λk3 h3=>?_) λu _=>?_))
 refine gu (aaF H ha _) λy _=>gV (λb=>b=false) (λk7 h7=>?_) λb T=>by subst T;exact iY rfl (h3 _ trivial)
 exact gz (λ_=>gp (λh1=>absurd h1 k1) λ_=>h7 _ rfl) λ_=>h7 _ rfl
 refine ku 0 s.objects.length (λ_ l=>l=[]) 0 rfl (Nat.zero_le _) ah rfl (λi l k hi J hk=>?_) λl k J=>?_
 subst J;unfold zS;refine jm (ltT hi) (iM i rfl hi (gu (aaF H ha _) λy hy=>?_));have hla:=hy.2.2.1;refine je (λq=>∃ j:Nat,q.2.1=(j:Int)/\j<=y.2.1.gU.length/\q.2.2=[]) (λq=>y.2.1.gU.length-q.2.1.toNat) ⟨0,rfl,by omega,rfl⟩ (by show y.2.1.gU.length-_<18446744073709551616;omega) ?_
 rintro⟨o,j',u⟩ k15 ⟨j,ej,hj,hu⟩ hk15
 simp only at ej hu;subst ej;subst hu;unfold Gn;refine gp (λh=>?_) λh=>hk _ rfl;have C:j<y.2.1.gU.length:=by simp only[gJ] at h;omega
 refine gV (λq=>q.2=[]) (λk18 g=>?_) λq hq=>hk15 _ ⟨j+1,lG ah,by omega,hq⟩ bI;exact iM j rfl C (gV (λb=>b=false) (λk22 U=>gp (λ_=>gp (λ_=>gY (ab5 cards s all he _ _ _) (U _ rfl)) λ_=>U _ rfl) λ_=>U _ rfl) λb T=>by subst T;exact iY rfl (g _ rfl))
 subst J;unfold zS;exact iY ltF (gV (λb=>b=true) (λk28 I=>lU (λ_=>I _ rfl) λh=>absurd h k2) λb T=>by subst T;exact jm rfl (gm rfl))
theorem agU (l w0:List iL)(hl:l.length<=5000000000)(h1:∀ x∈l,qB x)(h0:su qB w0){ρ:Type}{Q:ρ->Prop}{step:Int×List iL->(Int×List iL->Option ρ)->Option ρ}
  (hs:∀ (i:Nat) (t:List iL) (k:Int×List iL->Option ρ),i<l.length->step ((i:Int),t) k=br (decide ((i:Int)<gJ l)) (jn (λI:(List iL)=>k ((iq (i:Int) 1),I)) λT=>bnd (jl l (i:Int)) λx11=>br (decide ((gJ t)<64)) (kF (t.length+([x11]).length) 768 (T (t++[x11]))) (T t)) none)
  (he:∀ t k,su qB t->Ok Q (step ((l.length:Int),t) k)):Ok Q (gK step (0,w0)):=by
 refine ku 0 l.length (λ_ t=>su qB t) 0 rfl (Nat.zero_le _) ah h0 (λi t k hi U hk=>?_) λt k U=>he t k U;rw[hs i t k hi];refine gp (λ_=>gV (su qB) (λT J=>iM i rfl hi (gp (λh=>?_) λ_=>J _ U)) λu hu=>hk u hu) λh=>absurd (show(i:Int)<(l.length:Int) by omega) h;have h:t.length<64:=by simp only[gJ] at h;omega
 refine jH (by show(2*(t.length+1)+192)*768<=_;omega) aZ (J _ ⟨by simp;omega,λx hx=>?_⟩);rcases List.mem_append.1 hx with hx|hx
 exact U.2 x hx
 rw[List.mem_singleton.1 hx];exact h1 _ (List.getElem_mem hi)
section
variable {cards:List iZ}(hc:su pq cards)(hv:∀ c∈cards,c.gU.length<=8){s:gB}(H:StA s){e:kz}(he:KE e)
include hc hv H he
theorem Wl (k:iH):yx k cards s e true=some (s,e,true,k):=by
 unfold yx;refine ok_eq (je (λ_=>True) (λ_=>0) trivial bJ λT k2 _ _=>?_);unfold EH;refine gu (Uj cards s hc H.sz hv H.ob) λall U=>?_
 have hl:qp cards s all e [] true=some []:=by
  unfold qp Fe;rw[aaG H cards U.2 he];rfl
 exact gY hl (jm rfl (gm rfl))
theorem ab6 (k:iH):Ok StA (uj k cards s e):=by
 have k1:e.kind≠1:=by rcases he with h|h<;>omega
 have k2:e.kind≠2:=by rcases he with h|h<;>omega
 have k10:e.kind≠10:=by rcases he with h|h<;>omega
 unfold uj;refine gu (Uj cards s hc H.sz hv H.ob) λa T=>gu (aiq H cards a he) λt ht=>gu (Uj cards t hc ht.sz hv ht.ob) λb U=>gu (afQ _ _ _ _ _ ⟨H.ob,ht.ob,T.2,U.2,k2,k10⟩) λl hl=>?_;refine agU l _ hl.1 hl.2 ht.sz.2.2.2.2.2.1 (λi u k hi=>?_) λu k hu=>?_
 unfold ui;have e1:decide ((i:Int)<gJ l)=true:=ltT hi;simp only[e1];rfl
 unfold ui;exact iY ltF (lU (λ_=>gm (ht.wait hu)) λh=>absurd h k1)
theorem acX (k:iH):Ok (λr=>StA r.1) (xK k cards s e):=by
 have k3:e.kind≠3:=by rcases he with h|h<;>omega
 unfold xK GI;refine gu (R:=λr=>StA r.1) ?_ λt ht=>gm ht;refine gY (Wl hc hv H he k) (gV (λ_=>True) (λk3 T=>gz (λ_=>T _ trivial) λ_=>gu (ab4 H cards he) λ_ _=>T _ trivial) λb _=>gz (λ_=>gm H) λ_=>gV (λ_=>True) (λk7 I=>?_) λu _=>gu (ab6 hc hv H he k) λt ht=>je (λ_=>True) (λ_=>0) trivial bJ λC k2 _ _=>?_)
 exact gV (λb=>b=false) (λk10 U=>gp (λh=>absurd h k3) λ_=>U _ rfl) λb J=>by subst J;exact iY rfl (I _ trivial)
 unfold Ii;exact iY rfl (gm ht)
end
theorem agV (c:pO)(a:List Int)(I:a.length<=1000):Ok (λr=>r=true->∀ x∈a,0<=x/\x<(c.options.length:Int)) (qi c a):=by
 unfold qi;refine pJ 0 a.length (λn=>∀ x∈a.take n,0<=x/\x<(c.options.length:Int)) 0 rfl (Nat.zero_le _) ah aC (λi k hi U hk=>?_) λk U=>?_
 unfold Gt;refine jm (ltT hi) (iM i rfl hi (gV (λb=>b=false->0<=a[i]/\a[i]<(c.options.length:Int)) (λk6 T=>gp (λ_=>T _ λh=>by cases h) λh1=>gp (λ_=>T _ λh=>by cases h) λh2=>gu (R:=λ_=>True) ?_ λy _=>T _ λ_=>⟨by omega,by simp only[gJ] at h2;omega⟩) λb J=>gz (λ_=>gm λh=>by cases h) λO=>hk λx hx=>?_))
 unfold LY;exact gu (QK a _ ah) λ_ _=>gm trivial
 rw[nz _ i hi] at hx;rcases List.mem_append.1 hx with hx|hx
 exact U x hx
 rw[List.mem_singleton.1 hx];exact J O
 unfold Gt;rw[zi] at U;exact iY ltF (gm λ_=>U)
theorem Zg (c:pO)(a:List Int)(J:a.length<=1000)(h:∀ x∈a,0<=x/\x<(c.options.length:Int)):Ok (λ_=>True) (Bh c a):=by
 unfold Bh;refine ku 0 a.length (λi t=>t.length=i) 0 rfl (Nat.zero_le _) ah rfl (λi t k hi U hk=>?_) λt k U=>?_
 obtain⟨h1,h2⟩:=h _ (List.getElem_mem hi);unfold Et RH;exact jm (ltT hi) (iM i rfl hi (kQ h1 h2 λx _=>gu (R:=λ_=>True) (gY (D9 t _ ah) (gm trivial)) λy _=>gz (λ_=>gm trivial) λ_=>kQ h1 h2 λT _=>jH bf aZ (hk _ bg)))
 unfold Et;exact iY ltF (gm trivial)
theorem adT (c:pO)(hk:c.kind=6)(a:List Int)(U:a.length<=60):Ok (λr=>r=true->∀ x∈a,0<=x/\x<(c.options.length:Int)) (Jq c a):=by
 unfold Jq;refine gp (λ_=>gm λh=>by cases h) λ_=>?_;rw[hk]
 iterate 8 refine iY rfl ?_
 exact jm rfl (gu (agV c a ah) λy hy=>gz (λh1=>gu (Zg c a ah (hy h1)) λz _=>gm λ_=>hy h1) λ_=>gm λh=>by cases h)
theorem afW (answers:List (List Int))(hl:∀ a∈answers,a.length<=60)(p:Int)(able:List gX)(hab:able.length<=1000000) :
  Ok (λr=>r.1.length<=60/\∀ x∈r.1,0<=x/\x<(able.length:Int)) (ru ⟨answers,0,Jh,false,false⟩ (pO.mk 6 p 0 0 0 0 able)):=by
 have D:uf (pO.mk 6 p 0 0 0 0 able)=some []:=by
  unfold uf;rfl
 unfold ru;refine gV (λ_=>True) (λk2 h2=>iY rfl (iY rfl (gu (R:=λ_=>True) ?_ λ_ _=>h2 _ trivial))) λb _=>gz (λ_=>gY D (gm ⟨by simp,by simp⟩)) λ_=>gp (λ_=>?_) λhu=>?_
 ·unfold Kr
  iterate 7 refine iY rfl ?_
  exact jm rfl (gm trivial)
 unfold wX;exact gY (x:=able) (ok_eq (jH (by show(2*able.length+192)*24<=_;omega) (by show able.length<=_;omega) (gm rfl))) (gY D (gm ⟨by simp,by simp⟩))
 have h0:0<answers.length:=by
  rcases Nat.eq_zero_or_pos answers.length with h|h
  exact absurd (by show(0:Int)=(answers.length:Int);omega) hu
  exact h
 have U:=hl _ (List.getElem_mem h0);refine iM 0 rfl h0 (gu (adT _ rfl _ U) λy hy=>gz (λ_=>gY D (gm ⟨by simp,by simp⟩)) λO=>gY (x:=answers[0]) (ok_eq ?_) (gm ⟨U,hy (by cases y with|true=>rfl|false=>cases O)⟩));unfold uM;exact jH (by show(2*answers[0].length+192)*8<=_;omega) (by show answers[0].length<=_;omega) (gm rfl)
theorem ab7 (s:gB)(hs:lF s):Ok (λl=>l.length<=s.iJ.length) (Fp s):=by
 have h1:=hs.1.1;unfold Fp;refine ku 0 s.iJ.length (λi t=>t.length<=i) 0 rfl (Nat.zero_le _) ah (Nat.le_refl _) (λi t k hi U hk=>?_) λt k U=>?_
 unfold Eu;exact jm (ltT hi) (gV (λu=>u.length<=i+1) (λk5 h5=>iM i rfl hi (gz (λ_=>jH bf aZ (h5 _ bg)) λ_=>h5 _ (by show t.length<=_;omega))) λu hu=>hk u hu)
 unfold Eu;exact iY ltF (gm U)
theorem ab8 (s:gB)(p:Int)(hs:lF s):Ok (λl=>l.length<=s.iJ.length) (vY s p):=by
 have h1:=hs.1.1;unfold vY;refine gV (λ_=>True) (λk2 h2=>gV (λ_=>True) (λk5 h5=>gp (λ_=>h5 _ trivial) λ_=>h5 _ trivial) λb _=>gz (λ_=>h2 _ trivial) λ_=>h2 _ trivial) λx _=>gu (ab7 s hs) λy hy=>?_;refine ku 0 y.length (λi (t:List Int×List Int)=>t.1.length+t.2.length<=i) 0 rfl (Nat.zero_le _) ah aC (λi t k hi T hk=>?_) λt k T=>?_
 unfold Ew;refine jm (ltT hi) (gV (λ(u:List Int×List Int)=>u.1.length+u.2.length<=i+1) (λk12 U=>iM i rfl hi (gu (EI _ _) λc _=>gp (λ_=>jH (by show(2*(t.1.length+1)+192)*8<=_;omega) (by show t.1.length+1<=_;omega) (U _ bg)) λ_=>gp (λ_=>jH (by show(2*(t.2.length+1)+192)*8<=_;omega) (by show t.2.length+1<=_;omega) (U _ bg)) λ_=>U _ bg)) λu hu=>hk u hu)
 unfold Ew;exact iY ltF (jH (by show(2*(t.2.length+t.1.length)+192)*8<=_;omega) (by show t.2.length+t.1.length<=_;omega) (gm bg))
theorem agW (s:gB)(o:iw)(t:gG):Ok (λ_=>True) (Ku s o t):=by
 unfold Ku;refine gV (λ_=>True) (λk2 h2=>lU (λ_=>h2 _ trivial) λ_=>gp (λ_=>h2 _ trivial) λ_=>lU (λ_=>h2 _ trivial) λ_=>h2 _ trivial) λb _=>gz (λ_=>gm trivial) λ_=>gV (λ_=>True) (λk5 h5=>gz (λ_=>gu (oN _ _) λ_ _=>h5 _ trivial) λ_=>h5 _ trivial) λb _=>gz (λ_=>gm trivial) λ_=>gu (oN _ _) λ_ _=>gz (λ_=>gu (oN _ _) λ_ _=>gm trivial) λ_=>gm trivial
theorem afX (s:gB)(T:List gG)(y:List Int)(hy:y.length<=4)(ho:s.objects.length<=60)(e:vY s s.mJ=some y):Ok (λr=>r.length<=240/\(y=[]->r=[])) (uh s T):=by
 unfold uh;refine gY e (ku 0 s.objects.length (λi t=>t.length<=4*i/\(y=[]->t=[])) 0 rfl (Nat.zero_le _) ah ⟨by simp,λ_=>rfl⟩ (λi t k hi I hk=>?_) λt k I=>?_)
 obtain⟨i1,i2⟩:=I;unfold GG;refine jm (ltT hi) (gV (λu=>u.length<=4*(i+1)/\(y=[]->u=[])) (λk6 g=>iM i rfl hi (gV (λ_=>True) (λk10 U=>gp (λ_=>U _ trivial) λh=>kQ ah (by simp only[gJ] at h;omega) λx _=>gu (agW _ _ _) λ_ _=>U _ trivial) λb _=>gz (λ_=>g _ ⟨by show t.length<=_;omega,i2⟩) λ_=>?_)) λu hu=>hk u hu);refine ku 0 y.length (λj t=>t.length<=4*i+j/\(y=[]->t=[])) 0 rfl (Nat.zero_le _) ah ⟨by simpa using i1,i2⟩ (λj t k2 hj J C=>?_) λt k2 J=>?_
 obtain⟨j1,j2⟩:=J;unfold Gz;exact jm (ltT hj) (iM j rfl hj (yC (jH (by show(2*(t.length+1)+192)*24<=_;omega) aZ (C _ ⟨by simp;omega,λe=>by rw[e] at hj;simp at hj⟩))))
 unfold Gz;exact iY ltF (g _ ⟨by have:=J.1;show t.length<=_;omega,J.2⟩)
 unfold GG;exact iY ltF (gm ⟨by have:=I.1;show t.length<=_;omega,I.2⟩)
theorem TB (l:List gX)(f:gX->Option Bool)(hl:l.length<=2000000)(O:∀ x,Ok (λ_=>True) (f x)):Ok (λ_=>True) (mf l f):=by
 unfold mf nM;refine gu (R:=λ_=>True) (pJ 0 l.length (λ_=>True) 0 rfl (Nat.zero_le _) ah trivial (λi k hi _ hk=>?_) λk _=>?_) λ_ _=>gm trivial
 unfold sK;exact jm (ltT hi) (iM i rfl hi (gu (O _) λ_ _=>gz (λ_=>gm trivial) λ_=>hk trivial))
 unfold sK;exact iY ltF (gm trivial)
theorem Wn (l:List gX)(o:gX)(hl:l.length<=2000000):Ok (λ_=>True) (pU l o):=by
 unfold pU yH;refine gu (R:=λ_=>True) (pJ 0 l.length (λ_=>True) 0 rfl (Nat.zero_le _) ah trivial (λi k hi _ hk=>?_) λk _=>?_) λ_ _=>gm trivial
 unfold vU;exact jm (ltT hi) (iM i rfl hi (yC (gz (λ_=>gm trivial) λ_=>hk trivial)))
 unfold vU;exact iY ltF (gm trivial)
theorem acY (s:gB)(T:List gG)(id key:Int)(ho:s.objects.length<=60):Ok (λ_=>True) (CQ s T id key):=by
 unfold CQ;exact gu (NH _ _ ah λx=>gm trivial) λy hy=>gp (λh0=>gp (λh1=>kQ h0 h1 λx _=>gu (oN _ _) λ_ _=>gm trivial) λ_=>gm trivial) λ_=>gm trivial
section
variable {s:gB}{T:List gG}{able:List gX}(ho:s.objects.length<=60)(e:uh s T=some able)(hab:able.length<=240)
include ho e hab
theorem aaH:Ok (λm=>m.length<=able.length) (D8 s T):=by
 unfold D8;refine gY e (ku 0 able.length (λi t=>t.length<=i) 0 rfl (Nat.zero_le _) ah (Nat.le_refl _) (λi t k hi J hk=>?_) λt k J=>?_)
 unfold GH;exact jm (ltT hi) (gV (λu=>u.length<=i+1) (λk6 I=>iM i rfl hi (gV (λ_=>True) (λk10 U=>gu (acY s T _ _ ho) λb _=>gz (λ_=>gY (D9 t _ ah) (U _ trivial)) λ_=>U _ trivial) λb _=>gz (λ_=>jH bf aZ (I _ bg)) λ_=>I _ (by show t.length<=_;omega))) λu hu=>hk u hu)
 unfold GH;exact iY ltF (gm J)
theorem adU (l:List gX)(hl:l.length<=60):Ok (λ_=>True) (vZ s T l):=by
 unfold vZ;refine gY e (pJ 0 l.length (λ_=>True) 0 rfl (Nat.zero_le _) ah trivial (λi k hi _ hk=>?_) λk _=>?_)
 unfold Ez;refine jm (ltT hi) (iM i rfl hi (abl (i:=0) (j:=i) rfl rfl (Nat.zero_le _) ah (gu (TB _ _ ?_ λx=>gm trivial) λb _=>gV (λ_=>True) (λI U=>gz (λ_=>U _ trivial) λ_=>gu (Wn _ _ ah) λ_ _=>U _ trivial) λb _=>gz (λ_=>gm trivial) λ_=>hk trivial)));simp only[Um,List.length_take,List.length_drop];omega
 unfold Ez;refine iY ltF (gu (aaH ho e hab) λm J=>pJ 0 m.length (λ_=>True) 0 rfl (Nat.zero_le _) ah trivial (λi k hi _ hk=>?_) λk _=>?_)
 unfold Ey;exact jm (ltT hi) (iM i rfl hi (gu (TB _ _ ah λx=>gm trivial) λb _=>gz (λ_=>gm trivial) λ_=>hk trivial))
 unfold Ey;exact iY ltF (gm trivial)
theorem ab9 {y:List Int}(J:vY s s.mJ=some y)(hy:y=[]->able=[]):Ok (λl=>l.length<=240) (zg s T):=by
 unfold zg;refine gY J (gu (aaH ho e hab) λm g=>ku 0 m.length (λi t=>t.length=i) 0 rfl (Nat.zero_le _) ah rfl (λi t k hi I hk=>?_) λt k I=>?_)
 have U:0<y.length:=by
  rcases Nat.eq_zero_or_pos y.length with h|h
  have C:able.length=0:=by rw[hy (List.length_eq_zero_iff.1 h)];rfl
  omega
  exact h
 unfold CU;exact jm (ltT hi) (iM i rfl hi (iM 0 rfl U (yC (jH (by show(2*(t.length+1)+192)*24<=_;omega) aZ (hk _ bg)))))
 unfold CU;exact iY ltF (gm (by show t.length<=240;omega))
end
theorem aca (cards:List iZ)(s:gB)(answers:List (List Int))(hc:su pq cards)(hs:lF s)(hv:∀ c∈cards,c.gU.length<=8)(ho:s.objects.length<=60)(hp:s.iJ.length<=4)(hl:∀ a∈answers,a.length<=60) :
  Ok (λr=>r.2.1=false->r.1=s) (xM ⟨answers,0,Jh,false,false⟩ cards s):=by
 have H:StA s:=⟨hs,by omega⟩;unfold xM;refine gu (Uj cards s hc hs hv ah) λT hT=>?_;obtain⟨y,ey,hy⟩:=ab8 s s.mJ hs;obtain⟨able,ea,hab,C⟩:=afX s T y ah ho ey;refine gY ea (gu (afW answers hl _ able ah) λr hr=>?_);have hlen:=(OI r.1).length_eq;have I:∀ x∈BZ r.1,0<=x/\x<(able.length:Int):=λx hx=>hr.2 x ((OI r.1).mem_iff.1 hx);have hr1:=hr.1;refine gY (x:=BZ r.1) (by unfold slices_Sort_int ae6;rw[if_pos ah]) ?_;refine ku 0 (BZ r.1).length (λi (t:List gX×List Int)=>t.1.length=i/\t.2=BZ r.1) 0 rfl (Nat.zero_le _) ah ⟨rfl,rfl⟩ (λi t k hi g hk=>?_) λt k g=>?_
 obtain⟨t1,t2⟩:=t;obtain⟨i1,i2⟩:=g;simp only at i1 i2;subst i2;obtain⟨m1,m2⟩:=I _ (List.getElem_mem hi);unfold BI;exact jm (ltT hi) (ja i rfl hi (iR hi (kQ m1 m2 λx _=>jH (by show(2*(t1.length+1)+192)*24<=_;omega) (by show t1.length+1<=_;omega) (hk _ ⟨by simp;omega,rfl⟩))))
 obtain⟨t1,t2⟩:=t;obtain⟨i1,i2⟩:=g;simp only at i1 i2;unfold BI;refine iY ltF (gV (λl=>l.length<=240) (λk12 U=>gu (adU ho ea hab _ (by show t1.length<=_;omega)) λc _=>lU (λ_=>gp (λ_=>gY (KF s hs) (gm λ_=>rfl)) λ_=>gu (ab9 ho ea hab ey C) λl hl=>U l hl) λ_=>U _ (by show t1.length<=_;omega)) λl hl=>gY (KF s hs) ?_);refine je (λq=>∃ j:Nat,q.2.2=(j:Int)/\j<=l.length/\StA q.2.1) (λq=>l.length-q.2.2.toNat) ⟨0,rfl,by omega,H⟩ (by show l.length-_<18446744073709551616;omega) ?_
 rintro⟨ka,t,j'⟩ k19 ⟨j,ej,hj,ht⟩ hk19
 simp only at ej ht;subst ej;unfold Ik;refine gp (λh=>?_) λ_=>?_
 have hjl:j<l.length:=by simp only[gJ] at h;omega
 exact gV (λq=>StA q.2) (λk22 J=>iM j rfl hjl (gu (acY s T _ _ ho) λb _=>gz (λ_=>gu (acX hc hv ht (.inl rfl) ka) λr hr=>J (r.2,r.1) hr) λ_=>J _ ht)) λq hq=>hk19 _ ⟨j+1,lG ah,by omega,hq⟩ bI
 refine je (λq=>∃ j:Nat,q.2.2=(j:Int)/\j<=l.length/\StA q.2.1) (λq=>l.length-q.2.2.toNat) ⟨0,rfl,by omega,ht⟩ (by show l.length-_<18446744073709551616;omega) ?_
 rintro⟨kb,u,i'⟩ k28 ⟨i,ei,hi,hu⟩ hk28
 simp only at ei hu;subst ei;unfold Ij;refine gp (λh=>?_) λ_=>gm λh=>by cases h
 have hil:i<l.length:=by simp only[gJ] at h;omega
 exact iM i rfl hil (gu (acX hc hv hu (.inr rfl) kb) λr hr=>hk28 (r.2,r.1,iq (i:Int) 1) ⟨i+1,lG ah,by omega,hr⟩ bI)
theorem adV (cards:List iZ)(s:gB)(hc:su pq cards)(hs:lF s):Ok (λb=>b=true->(∀ c∈cards,VL c)/\s.objects.length<=60/\s.iJ.length<=4) (Ib cards s):=by
 have T:=hs.1.1;unfold Ib;refine gV (λb=>b=false->s.iJ.length<=4/\s.objects.length<=60) (λk hk=>?_) λb U=>?_
 have no:∀ {p:Prop},((true:Bool)=false->p):=λe=>by cases e
 refine gp (λ_=>hk _ no) λ_=>gp (λ_=>hk _ no) λh1=>gp (λ_=>hk _ no) λh2=>gp (λ_=>hk _ no) λ_=>gp (λ_=>hk _ no) λ_=>gp (λ_=>hk _ no) λ_=>gp (λ_=>hk _ no) λ_=>gp (λ_=>hk _ no) λ_=>hk _ λ_=>?_;simp only[gJ] at h1 h2;omega
 refine gz (λ_=>gm λh=>by cases h) λh=>?_;obtain⟨g1,g2⟩:=U h;refine pJ 0 s.iJ.length (λ_=>True) 0 rfl (Nat.zero_le _) ah trivial (λi k hi _ hk=>?_) λk _=>?_
 unfold Gj;exact jm (ltT hi) (iM i rfl hi (iM i rfl hi (iM i rfl hi (yC (gp (λ_=>gm λh=>by cases h) λ_=>hk trivial)))))
 unfold Gj;exact iY ltF (gu (adS cards hc) λJ h1=>gp (λh=>gu (aip cards s hc hs) λI _=>gm λ_=>⟨h1 h,g2,g1⟩) λ_=>gm λh=>by cases h)
theorem air (l:List (List Int))(h:l.length<=1048576):Ok (λb=>b=true->∀ a∈l,a.length<=60) (yt l):=by
 unfold yt;refine pJ 0 l.length (λn=>∀ a∈l.take n,a.length<=60) 0 rfl (Nat.zero_le _) ah aC (λi k hi U hk=>?_) λk U=>?_
 unfold yG;refine jm (ltT hi) (iM i rfl hi (gp (λ_=>gm λh=>by cases h) λh2=>hk λx hx=>?_));rw[nz _ i hi] at hx;rcases List.mem_append.1 hx with hx|hx
 exact U x hx
 rw[List.mem_singleton.1 hx];simp only[gJ] at h2;omega
 unfold yG;rw[zi] at U;exact iY ltF (gm λ_=>U)
theorem agX (answers:List (List Int))(h:su (su (λ(_:Int)=>True)) answers):Nb answers=some ⟨answers,0,Jh,false,false⟩:=by
 unfold Nb;have hl:=h.1;refine ok_eq (ku 0 answers.length (λi t=>t=answers.take i) 0 rfl (Nat.zero_le _) ah aC ?_ ?_)
 rintro i t k hi rfl hk
 have U:=(h.2 _ (List.getElem_mem hi)).1;unfold OM;refine jm (ltT hi) (iM i rfl hi (gY (x:=answers[i]) (ok_eq (jH ah ah (gm rfl))) (jH ?_ ?_ (hk _ (nz answers i hi).symm))))
 simp only[List.length_take,List.length_cons,List.length_nil];omega
 simp only[List.length_take,List.length_cons,List.length_nil];omega
 rintro t k rfl
 unfold OM;rw[List.take_length];exact iY ltF (gm rfl)
theorem O5:Ac=some true:=by kernel_rfl
theorem Ob (cards:List iZ)(s:gB)(answers:List (List Int))(hc:su pq cards)(hs:lF s)(U:su (su (λ(_:Int)=>True)) answers):rF cards s answers=some true:=by
 unfold rF;refine ok_eq (gV (λb=>b=false->((∀ c∈cards,VL c)/\s.objects.length<=60/\s.iJ.length<=4)/\∀ a∈answers,a.length<=60) (λk hk=>?_) λb T=>?_)
 exact gu (adV cards s hc hs) λy hy=>gz (λ_=>hk _ λh=>by cases h) λh1=>gu (air answers U.1) λz J=>hk _ λh2=>⟨hy (by cases y with|true=>rfl|false=>cases h1),J (by cases z with|true=>rfl|false=>cases h2)⟩
 refine gz (λ_=>gY O5 (gm rfl)) λO=>?_;obtain⟨⟨cv,g1,g2⟩,g3⟩:=T O;refine gY (agX answers U) (gu (aca cards s answers hc hs (λc h=>(cv c h).agM) g1 g2 g3) λr hr=>gz (λ_=>gY O5 (gm rfl)) λh=>?_);rw[hr h];exact gY (abW s hs) (jm rfl (gY O5 (gm rfl)))
end Go.Proofs.YtchmoabpofnbaaaGreat
