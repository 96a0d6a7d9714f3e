import Derived.Test.YtchmoabpofnbaaaGreatB32
import Derived.Test.YtchmoabpofnbaaaGreatB34
set_option linter.all false
namespace Go.Proofs.YtchmoabpofnbaaaGreat
open Go Go.Pv
set_option maxRecDepth 100000
def jT (x:GTraits):Prop:=F9 x.name/\yH x.line/\(qL kY) x.abilities
theorem QD (c:oQ)  : Ok (λr=>True) (KX c):=by
 unfold KX;refine ji (λ(U:Int)=>0<=U/\U<=5) (λ(U:Int)=>(5-U).toNat) ⟨ae,ae⟩ ak (λU k2 g hk2=>?_);obtain⟨hI1_0,C⟩:=g;unfold MM;refine gm (λh3=>?_) (λh3=>gm (λI=>gm (λJ=>gm (λh15=>fZ trivial) (λh15=>fZ trivial)) (λJ=>fZ trivial)) (λI=>fZ trivial));refine gU (λ(s4:Int)=>True) (λk5 hk4=>?_) (λs4 hs5=>?_)
 refine wo ae ae (λj7 h6=>?_)
 split
 exact fD
 exact fD
 exact fD
 exact fD
 exact fD
 refine gU (λ(s8:Bool)=>s8=false->¬(s4<0)/\¬(9<s4)) (λk9 T=>gm (λh9=>T _ af) (λh9=>T _ af)) (λs8 hs8=>?_);refine gq (λR=>fZ trivial) (λR=>?_);have hf11:=hs8 R;have h12:iL U 1=U+1:=jI ah ah;exact hk2 _ ⟨ae,ae⟩ ae
theorem QQ (c:oQ)  : Ok (λr=>True) (BK c):=by
 unfold BK;refine gU (λ(s1:Bool)=>True) (λk2 J=>gp (QD _ ) (λy4 h3=>gq (λh4=>J _ trivial) (λh4=>lX (λv5 h5=>J _ trivial)))) (λs1 hs2=>?_);refine gq (λh6=>fZ trivial) (λh6=>?_);refine ji (λ(R:Int×Int)=>0<=R.2/\R.2<=5) (λ(R:Int×Int)=>(5-R.2).toNat) ⟨ae,ae⟩ ak (λR k7 I C=>?_);obtain⟨hI7_0,hI7_1⟩:=I;unfold En;refine gm (λh9=>?_) (λh9=>fZ trivial);refine gU (λ(s9:Int)=>True) (λk10 T=>?_) (λs9 hs11=>?_)
 refine gU (λ(g:Int)=>True) (λk13 U=>?_) (λg hs13=>gm (λh15=>aan ae (λx16 h16=>T _ trivial)) (λh15=>T _ trivial));refine wo ae ae (λj15 h14=>?_)
 split
 exact U _ trivial
 exact U _ trivial
 exact U _ trivial
 exact U _ trivial
 exact U _ trivial
 have h17:iL R.2 1=R.2+1:=jI ah ah;exact C _ ⟨ae,ae⟩ ae
theorem xP (mask:Int)(key:Int)  : Ok (λr=>True) (sW mask key):=by
 unfold sW;exact fZ trivial
theorem YZ (s:ByteArray)(T:F9 s):Ok (λr=>True) (Og s):=by
 have z1:s.size<=1048576:=T;unfold Og;refine gU (λ_=>True) (λk2 hk=>?_) (λR _=>?_)
 refine gm (λh0=>hk _ trivial) λh0=>gm (λh1=>hk _ trivial) λh1=>?_;refine AX ah ah λx4 _=>gm (λ_=>hk _ trivial) λ_=>?_;refine AX ah ah λx5 _=>gm (λ_=>hk _ trivial) λ_=>?_;have e:Cc (s.size:Int) 1=(s.size:Int)-1:=Fv ah ah;rw[e];refine AX ah ah λx6 _=>gm (λ_=>hk _ trivial) λ_=>?_
 have:strings_Contains s (bs [45,45])=some (Lib.contains s.data.toList (bs [45,45]).data.toList):=by
  unfold strings_Contains agh;rw[if_pos ah]
 rw[this];exact hk _ trivial
 refine gq (λ_=>fZ trivial) λ_=>lX λJ hx=>?_;have hl:J.length<=1048576:=by rw[hx];simpa [Wv] using z1
 refine ji (λ(R:Int)=>0<=R/\R<=(J.length:Int)) (λ(R:Int)=>((J.length:Int)-R).toNat) ⟨by omega,by omega⟩ (by show _<18446744073709551616;omega) (λI k10 C hk=>?_);obtain⟨i0,i1⟩:=C;unfold MN;refine gm (λh3=>?_) λ_=>fZ trivial;simp only[gK] at h3;refine jV i0 ah λx12 _=>gU (λ_=>True) (λk14 U=>?_) λg _=>?_
 refine gm (λ_=>gm (λ_=>U _ trivial) λ_=>gm (λ_=>U _ trivial) λ_=>U _ trivial) λ_=>gm (λ_=>gm (λ_=>U _ trivial) λ_=>gm (λ_=>U _ trivial) λ_=>U _ trivial) λ_=>U _ trivial
 refine gq (λ_=>fZ trivial) λ_=>?_;have e:iL I 1=I+1:=jI ah ah;rw[e];exact hk _ ⟨by omega,by omega⟩ ah
theorem MW (i:Int)(T:0<=i)(U:i<2):Ok (λr=>True) (qE i):=by
 unfold qE;refine wo ae ae (λj1 h1=>?_)
 split
 exact fZ trivial
 exact fZ trivial
theorem OX (s:ByteArray)(n:Int)(name:Int->Option ByteArray)(hn:0<=n/\n<=60)(T:∀ i,0<=i->i<n->Ok (λ_=>True) (name i)):Ok (λr=>True) (BL s n name):=by
 unfold BL;refine ji (λ(U:Int)=>0<=U/\U<=n) (λ(U:Int)=>(n-U).toNat) ⟨by omega,by omega⟩ (by show _<18446744073709551616;omega) (λU k2 R hk=>?_);obtain⟨i0,C⟩:=R;unfold Fh;refine gm (λJ=>?_) λ_=>fZ trivial;refine gp (T U i0 J) λy4 _=>gq (λ_=>?_) λ_=>?_
 have e:iL U 1=U+1:=jI ah ah;rw[e];exact hk _ ⟨by omega,by omega⟩ ah
 exact aan i0 λI _=>fZ trivial
theorem OY (i:Int)(T:0<=i)(U:i<6):Ok (λr=>True) (rJ i):=by
 unfold rJ;refine wo ae ae (λj1 h1=>?_)
 split
 exact fZ trivial
 exact fZ trivial
 exact fZ trivial
 exact fZ trivial
 exact fZ trivial
 exact fZ trivial
theorem zQ (s:ByteArray)(U:F9 s):Ok (λr=>True) (vW s):=by
 unfold vW;exact gp (YZ _ az) (λR h2=>gq (λT=>gp (OX s 2 qE ah (λi h0 h1=>MW i h0 h1)) (λJ C=>gm (λh5=>gp (OX s 6 rJ ah (λi h0 h1=>OY i h0 h1)) (λy3 I=>fZ trivial)) (λh5=>fZ trivial))) (λT=>fZ trivial))
theorem jH (n:Int)(most:Int)  : Ok (λr=>True) (jG n most):=by
 unfold jG;exact gm (λh1=>fZ trivial) (λh1=>fZ trivial)
theorem xY (b:qx)  : Ok (λr=>True) (qF b):=by
 unfold qF;exact gp (jH _ _ ) (λR h1=>gq (λh2=>gp (jH _ _ ) (λT J=>gq (λU=>lN (λh5=>fZ trivial) (λh5=>fZ trivial)) (λU=>fZ trivial))) (λh2=>fZ trivial))
theorem LH (f:jf)(zz_f:kF f):Ok (λr=>True) (DI f):=by
 unfold DI;refine gU (λ(s1:Bool)=>True) (λk2 R=>gp (jH _ _ ) (λy4 h4=>gq (λh5=>R _ trivial) (λh5=>gp (jH _ _ ) (λy5 h6=>gq (λh7=>R _ trivial) (λh7=>gp (jH _ _ ) (λy6 h8=>gq (λh9=>R _ trivial) (λh9=>gp (jH _ _ ) (λy7 h10=>gq (λh11=>R _ trivial) (λh11=>gp (jH _ _ ) (λy8 h12=>R _ trivial)))))))))) (λs1 hs3=>?_);refine gq (λh13=>fZ trivial) (λh13=>?_);refine gU (λ(s9:Bool)=>s9=false->(jS .and .i64 f.types f.iy)=0) (λk10 T=>gp (jH _ _ ) (λy12 h16=>gq (λh17=>T _ af) (λh17=>gp (jH _ _ ) (λy13 h18=>gq (λh19=>T _ af) (λh19=>T _ af))))) (λs9 I=>?_);refine gq (λh20=>fZ trivial) (λh20=>?_);have hf21:=I h20;refine gU (λ(C:Bool)=>C=false->(jS .and .i64 f.iM f.gZ)=0) (λk15 U=>gp (jH _ _ ) (λy17 h24=>gq (λh25=>U _ af) (λh25=>gp (jH _ _ ) (λy18 h26=>gq (λh27=>U _ af) (λh27=>U _ af))))) (λC g=>?_);refine gq (λh28=>fZ trivial) (λh28=>?_);have hf29:=g h28
 exact gU (λ(s19:Bool)=>True) (λk20 J=>gq (λh32=>gp (zQ _ az) (λy22 h33=>J _ trivial)) (λh32=>J _ trivial)) (λs19 hs31=>gq (λh34=>fZ trivial) (λh34=>gp (xY _ ) (λy23 h35=>gq (λh36=>gp (xY _ ) (λy24 h37=>gq (λh38=>gp (xY _ ) (λy25 h39=>fZ trivial)) (λh38=>fZ trivial))) (λh36=>fZ trivial))))
theorem lD (U:Int)(R:Int)(T:Int)  : Ok (λr=>True) (kK U R T):=by
 unfold kK;exact gm (λh1=>fZ trivial) (λh1=>lN (λh2=>fZ trivial) (λh2=>fZ trivial))
theorem LJ (b:qx)(n:Int)  : Ok (λr=>True) (DJ b n):=by
 unfold DJ;exact gm (λh1=>fZ trivial) (λh1=>gm (λh2=>fZ trivial) (λh2=>gm (λT=>fZ trivial) (λT=>gm (λU=>fZ trivial) (λU=>fZ trivial))))
theorem EF (b:qx)(n:Int)(c2:Bool)  : Ok (λr=>True) (sK b n c2):=by
 unfold sK;exact gm (λh1=>fZ trivial) (λh1=>gq (λh2=>gp (LJ _ _ ) (λU T=>fZ trivial)) (λh2=>fZ trivial))
theorem Hr (s:List ByteArray)(v:ByteArray)(U:(qL F9) s)(R:F9 v):Ok (λr=>True) (slices_Index_string s v):=by
 unfold slices_Index_string;have z1:s.length<=1048576:=(U).1;have z2:∀ y∈s,F9 y:=(U).2;have z3:v.size<=1048576:=R;refine ji (λ(T:Int)=>0<=T/\T<=(s.length:Int)) (λ(T:Int)=>((s.length:Int)-T).toNat) ⟨ae,ae⟩ ak (λT k2 hI4 g=>?_);obtain⟨I,C⟩:=hI4;unfold tY;apply gm<;>intro h6
 (try simp only[gK] at h6)
 refine jV ae ae (λJ h7=>?_);have z8:F9 J:=z2 J h7;have z9:J.size<=1048576:=z8;refine gq (λh10=>fZ trivial) (λh10=>?_);have h11:iL T 1=T+1:=jI ah ah;exact g _ ⟨ae,ae⟩ ae
 (try simp only[gK] at h6)
 exact fZ trivial
theorem EG (s:List ByteArray)(v:ByteArray)(T:(qL F9) s)(U:F9 v):Ok (λr=>True) (slices_Contains_string s v):=by
 unfold slices_Contains_string;exact gp (Hr _ _ bZ az) (λR J=>fZ trivial)
theorem uK (l:wO)(sub:ByteArray)(T:yH l)(U:F9 sub):Ok (λr=>True) (qY l sub):=by
 unfold qY;exact gp (EG _ _ bZ az) (λR J=>fZ trivial)
theorem lY (n:Int)  : Ok (λr=>-1000000<=r/\r<=1000000) (oq n):=by
 unfold oq;exact fZ ah
theorem Y4 (a:Int)(b:Int)  : Ok (λr=>True) (Oh a b):=by
 unfold Oh;exact gp (lY _ ) (λT h1=>gp (lY _ ) (λU h2=>gp (lY _ ) (λy3 R=>fZ trivial)))
theorem BU (a:Int)(b:Int)  : Ok (λr=>True) (Di a b):=by
 unfold Di;exact gp (lY _ ) (λT h1=>gp (lY _ ) (λU h2=>gp (lY _ ) (λy3 R=>fZ trivial)))
theorem Uj (c:oQ)(x:Int)  : Ok (λr=>True) (Eo c x):=by
 unfold Eo;refine gp (QD _ ) (λy1 h1=>?_);refine gq (λh2=>fZ trivial) (λh2=>?_);refine ji (λ(T:Int×Int)=>0<=T.2/\T.2<=5) (λ(T:Int×Int)=>(5-T.2).toNat) ⟨ae,ae⟩ ak (λT k3 R hk4=>?_);obtain⟨J,I⟩:=R;unfold F5;refine gm (λh5=>?_) (λh5=>gp (Y4 _ _ ) (λy9 h10=>gp (BU _ _ ) (λC h11=>fZ trivial)));refine gU (λ(s5:Int)=>True) (λk6 U=>?_) (λs5 g=>?_)
 refine wo ae ae (λj8 h8=>?_)
 split
 exact U _ trivial
 exact U _ trivial
 exact U _ trivial
 exact U _ trivial
 exact U _ trivial
 have h9:iL T.2 1=T.2+1:=jI ah ah;exact hk4 _ ⟨ae,ae⟩ ae
theorem Ae (o:GObject)(t:GTraits)(you:Int)(source:Int)(f:jf)(T:jT t)(zz_f:kF f):Ok (λr=>True) (lI o t you source f):=by
 unfold lI;have z1:t.name.size<=1048576:=(T).1;have z2:yH (t.line):=(T).2.1;have z3:t.line.subs.length<=1048576:=(((T).2.1)).1;have z5:t.abilities.length<=1048576:=((T).2.2).1;have z7:f.sub.size<=1048576:=(zz_f);refine gU (λ(s1:Bool)=>s1=false->o.iI=f.iI) (λk2 hk8=>gp (LH _ ay) (λy4 h10=>gq (λh11=>hk8 _ af) (λh11=>hk8 _ af))) (λs1 hs9=>?_);refine gq (λh12=>fZ trivial) (λh12=>?_);have hf13:=hs9 h12
 exact gU (λ(s5:Unit)=>True) (λk6 U=>gU (λ(s8:Bool)=>True) (λk9 J=>gm (λh18=>J _ trivial) (λh18=>J _ trivial)) (λs8 hs17=>gq (λh19=>fZ trivial) (λh19=>gm (λh20=>gm (λh21=>fZ trivial) (λh21=>gU (λ(s11:Bool)=>True) (λk12 hk22=>gm (λh24=>hk22 _ trivial) (λh24=>hk22 _ trivial)) (λs11 hs23=>gq (λh25=>fZ trivial) (λh25=>gm (λh26=>gm (λh27=>fZ trivial) (λh27=>gp (lD _ _ _ ) (λy14 h28=>gq (λh29=>fZ trivial) (λh29=>gp (lD _ _ _ ) (λy15 h30=>gq (λh31=>fZ trivial) (λh31=>gU (λ(s16:Bool)=>True) (λk17 I=>gq (λh34=>gp (uK _ _ aO az) (λy19 h35=>I _ trivial)) (λh34=>I _ trivial)) (λs16 hs33=>gq (λh36=>fZ trivial) (λh36=>gp (xP _ _ ) (λy20 h37=>gq (λh38=>fZ trivial) (λh38=>gU (λ(s21:Bool)=>True) (λk22 hk39=>gm (λh41=>hk39 _ trivial) (λh41=>hk39 _ trivial)) (λs21 hs40=>gq (λh42=>fZ trivial) (λh42=>gm (λh43=>gq (λh44=>fZ trivial) (λh44=>U _ trivial)) (λh43=>U _ trivial))))))))))))) (λh26=>gp (lD _ _ _ ) (λy24 h45=>gq (λh46=>fZ trivial) (λh46=>gp (lD _ _ _ ) (λy25 h47=>gq (λh48=>fZ trivial) (λh48=>gU (λ(s26:Bool)=>True) (λk27 C=>gq (λh51=>gp (uK _ _ aO az) (λy29 h52=>C _ trivial)) (λh51=>C _ trivial)) (λs26 hs50=>gq (λh53=>fZ trivial) (λh53=>gp (xP _ _ ) (λy30 h54=>gq (λh55=>fZ trivial) (λh55=>gU (λ(s31:Bool)=>True) (λk32 hk56=>gm (λh58=>hk56 _ trivial) (λh58=>hk56 _ trivial)) (λs31 hs57=>gq (λh59=>fZ trivial) (λh59=>gm (λh60=>gq (λh61=>fZ trivial) (λh61=>U _ trivial)) (λh60=>U _ trivial)))))))))))))))) (λh20=>gU (λ(s34:Bool)=>True) (λk35 hk62=>gm (λh64=>hk62 _ trivial) (λh64=>hk62 _ trivial)) (λs34 hs63=>gq (λh65=>fZ trivial) (λh65=>gm (λh66=>gm (λh67=>fZ trivial) (λh67=>gp (lD _ _ _ ) (λy37 h68=>gq (λh69=>fZ trivial) (λh69=>gp (lD _ _ _ ) (λy38 h70=>gq (λh71=>fZ trivial) (λh71=>gU (λ(s39:Bool)=>True) (λk40 hk72=>gq (λh74=>gp (uK _ _ aO az) (λy42 h75=>hk72 _ trivial)) (λh74=>hk72 _ trivial)) (λs39 hs73=>gq (λh76=>fZ trivial) (λh76=>gp (xP _ _ ) (λy43 h77=>gq (λh78=>fZ trivial) (λh78=>gU (λ(s44:Bool)=>True) (λk45 hk79=>gm (λh81=>hk79 _ trivial) (λh81=>hk79 _ trivial)) (λs44 hs80=>gq (λh82=>fZ trivial) (λh82=>gm (λh83=>gq (λh84=>fZ trivial) (λh84=>U _ trivial)) (λh83=>U _ trivial))))))))))))) (λh66=>gp (lD _ _ _ ) (λy47 h85=>gq (λh86=>fZ trivial) (λh86=>gp (lD _ _ _ ) (λy48 h87=>gq (λh88=>fZ trivial) (λh88=>gU (λ(s49:Bool)=>True) (λk50 g=>gq (λh91=>gp (uK _ _ aO az) (λy52 h92=>g _ trivial)) (λh91=>g _ trivial)) (λs49 hs90=>gq (λh93=>fZ trivial) (λh93=>gp (xP _ _ ) (λy53 h94=>gq (λh95=>fZ trivial) (λh95=>gU (λ(s54:Bool)=>True) (λk55 R=>gm (λh98=>R _ trivial) (λh98=>R _ trivial)) (λs54 hs97=>gq (λh99=>fZ trivial) (λh99=>gm (λh100=>gq (λh101=>fZ trivial) (λh101=>U _ trivial)) (λh100=>U _ trivial)))))))))))))))))) (λs5 hs15=>gp (EF _ _ _ ) (λy57 h102=>gq (λh103=>gp (EF _ _ _ ) (λy58 h104=>gq (λh105=>gp (Uj _ _ ) (λy59 h106=>gp (LJ _ _ ) (λy60 h107=>fZ trivial))) (λh105=>fZ trivial))) (λh103=>fZ trivial)))
theorem Y5 (a:Int)(b:Int)  : Ok (λr=>True) (Oi a b):=by
 unfold Oi;exact gp (lY _ ) (λT h1=>gp (lY _ ) (λU h2=>gp (lY _ ) (λy3 R=>fZ trivial)))
theorem OZ (c:NY Int)  : Ok (λr=>True) (xh c):=by
 unfold xh;exact gp (Y5 _ _ ) (λU h1=>fZ trivial)
theorem xw (kind:Int)  : Ok (λr=>True) (wI kind):=by
 unfold wI;exact gm (λh1=>fZ trivial) (λh1=>gm (λh2=>fZ trivial) (λh2=>gm (λh3=>fZ trivial) (λh3=>gm (λh4=>fZ trivial) (λh4=>gm (λh5=>fZ trivial) (λh5=>gm (λg=>fZ trivial) (λg=>gm (λh7=>fZ trivial) (λh7=>gm (λh8=>fZ trivial) (λh8=>gm (λC=>fZ trivial) (λC=>gm (λJ=>fZ trivial) (λJ=>gm (λR=>fZ trivial) (λR=>gm (λU=>fZ trivial) (λU=>gm (λI=>fZ trivial) (λI=>gm (λT=>fZ trivial) (λT=>fZ trivial))))))))))))))
theorem FC (x:Int)  : Ok (λr=>True) (cmp_isNaN_int x):=by
 unfold cmp_isNaN_int;exact fZ trivial
theorem Ll (x:Int)(y:Int)  : Ok (λr=>True) (cmp_Compare_int x y):=by
 unfold cmp_Compare_int;exact gp (FC _ ) (λC h1=>gp (FC _ ) (λI h2=>gq (λJ=>gq (λR=>fZ trivial) (λR=>fZ trivial)) (λJ=>gq (λh5=>fZ trivial) (λh5=>gm (λU=>fZ trivial) (λU=>gm (λT=>fZ trivial) (λT=>fZ trivial))))))
theorem FD (o:GObject)(id:Int)  : Ok (λr=>True) (rO o id):=by
 unfold rO;exact gp (Ll _ _ ) (λU h1=>fZ trivial)
theorem qH (n:Int)(least:Int)(most:Int)  : Ok (λr=>True) (xW n least most):=by
 unfold xW;exact gm (λh1=>fZ trivial) (λh1=>fZ trivial)
theorem Xm (m:jv)(C:vC m):Ok (λr=>True) (J6 m):=by
 unfold J6;exact gm (λh4=>fZ trivial) (λh4=>gm (λh5=>fZ trivial) (λh5=>gm (λh6=>fZ trivial) (λh6=>gm (λh7=>fZ trivial) (λh7=>gm (λh8=>fZ trivial) (λh8=>gm (λg=>fZ trivial) (λg=>gm (λI=>fZ trivial) (λI=>gm (λR=>fZ trivial) (λR=>gm (λU=>fZ trivial) (λU=>gm (λJ=>fZ trivial) (λJ=>gm (λT=>fZ trivial) (λT=>fZ trivial)))))))))))
theorem aau (m:jv)(U:vC m):Ok (λr=>True) (TB m):=by
 unfold TB;have z1:m.sub.size<=1048576:=(U).1;have z3:m.filter.sub.size<=1048576:=((U).2)
 exact gU (λ(s1:Bool)=>True) (λk2 hk4=>gp (qH _ _ _ ) (λy4 h6=>gq (λh7=>hk4 _ trivial) (λh7=>gp (Xm _ bF) (λy5 h8=>lX (λv6 h9=>hk4 _ trivial))))) (λs1 hs5=>gq (λh10=>fZ trivial) (λh10=>gm (λh11=>gp (qH _ _ _ ) (λy7 h12=>gq (λh13=>fZ trivial) (λh13=>fZ trivial))) (λh11=>gm (λh14=>gp (qH _ _ _ ) (λy8 h15=>gq (λh16=>fZ trivial) (λh16=>fZ trivial))) (λh14=>gm (λJ=>gp (zQ _ az) (λy9 h18=>fZ trivial)) (λJ=>gm (λh19=>gp (zQ _ az) (λy10 h20=>fZ trivial)) (λh19=>gm (λh21=>gp (qH _ _ _ ) (λy11 h22=>fZ trivial)) (λh21=>gm (λI=>gp (qH _ _ _ ) (λy12 h24=>fZ trivial)) (λI=>gm (λg=>gp (qH _ _ _ ) (λy13 h26=>fZ trivial)) (λg=>gm (λh27=>gp (qH _ _ _ ) (λy14 h28=>fZ trivial)) (λh27=>gm (λT=>gp (LH _ ay) (λy15 h30=>fZ trivial)) (λT=>gm (λR=>gp (qH _ _ _ ) (λy16 h32=>gq (λh33=>gp (qH _ _ _ ) (λy17 h34=>fZ trivial)) (λh33=>fZ trivial))) (λR=>gm (λC=>gp (qH _ _ _ ) (λy18 h36=>gq (λh37=>gp (qH _ _ _ ) (λy19 h38=>fZ trivial)) (λh37=>fZ trivial))) (λC=>fZ trivial)))))))))))))
theorem CE (f:jf)(stage:Int)(R:kF f):Ok (λr=>True) (qR f stage):=by
 unfold qR;exact gU (λ(J:Bool)=>J=false->f.ik.kind=0/\f.power.kind=0) (λk2 U=>lN (λh4=>U _ af) (λh4=>U _ af)) (λJ hs3=>gm (λh5=>fZ trivial) (λh5=>gm (λC=>lN (λg=>fZ trivial) (λg=>gq (λh8=>fZ trivial) (λh8=>fZ trivial))) (λC=>gm (λI=>fZ trivial) (λI=>gm (λT=>fZ trivial) (λT=>fZ trivial)))))
theorem vw {α:Type}{l:List α}{b:Nat}(h:(2*l.length+192)*b<=140737488355328)(h2:l.length<=4611686018427387904):nlO (some ([]:List α)) (lZ (0+l.length) b (some l))=some l :=
 ok_eq (abO (lU (by rw[Nat.zero_add];exact h) ah (fZ rfl)))
theorem set_self {α:Type}{l:List α}{j:Nat}(h:j<l.length){x:α}(e:l[j]=x):l.set j x=l:=by subst e;exact List.set_getElem_self h
theorem aav (t:GTraits)(h:jT t):Ep t=some t:=by
 obtain⟨_,h2,J⟩:=h;have q2:=h2.1;have C:=J.1;unfold Ep;refine ok_eq (iJ bC (iJ (by unfold rq;exact vw aF aF) ?_));refine lq 0 t.abilities.length (λn l=>l=t.abilities) 0 rfl (Nat.zero_le _) ah rfl (λi l k hi U hk=>?_) λl k U=>?_
 subst U;obtain⟨_,g1,_,g2,g3,_⟩:=J.2 _ (List.getElem_mem hi);have p1:=g1.1;have p2:=g2.1;have p3:=g3.1;unfold Bj;refine gm (λ_=>kJ i rfl hi (jF hi ?_)) λh=>absurd (show (i:Int)<(t.abilities.length:Int) by omega) h;refine iJ aV (iJ bT (iJ (by unfold qf;exact vw aF aF) ?_));refine lq 0 (t.abilities[i]).kM.length (λn l=>l=(t.abilities[i]).kM) 0 rfl (Nat.zero_le _) ah rfl (λj l2 k2 hj T R=>?_) λl2 k2 T=>?_
 subst T;have I:=(g3.2 _ (List.getElem_mem hj)).2.2.2.2.1;unfold Bi;refine gm (λ_=>kJ j rfl hj (jF hj (iJ aV (kJ j rfl hj (jF hj (R _ ?_)))))) λh=>absurd (show (j:Int)<((t.abilities[i]).kM.length:Int) by omega) h;exact set_self hj rfl
 subst T;unfold Bi;refine gm (λh=>absurd h (by show ¬ ((t.abilities[i]).kM.length:Int)<((t.abilities[i]).kM.length:Int);omega)) λ_=>hk _ ?_;exact set_self hi rfl
 subst U;unfold Bj;exact gm (λh=>absurd h (by show ¬ (t.abilities.length:Int)<(t.abilities.length:Int);omega)) λ_=>fZ rfl
theorem acK (a:GAbility)(h:kY a):sJ a=some a:=by
 obtain⟨_,g1,_,g2,g3,_⟩:=h;have p1:=g1.1;have p2:=g2.1;have p3:=g3.1;unfold sJ;refine ok_eq (iJ aV (iJ bT (iJ (by unfold rV;exact vw aF aF) ?_)));refine lq 0 a.kM.length (λn l=>l=a.kM) 0 rfl (Nat.zero_le _) ah rfl (λj l2 k2 hj U T=>?_) λl2 k2 U=>?_
 subst U;have R:=(g3.2 _ (List.getElem_mem hj)).2.2.2.2.1;unfold rW;refine gm (λ_=>kJ j rfl hj (jF hj (iJ aV (kJ j rfl hj (jF hj (T _ ?_)))))) λh=>absurd (show (j:Int)<(a.kM.length:Int) by omega) h;exact set_self hj rfl
 subst U;unfold rW;exact gm (λh=>absurd h (by show ¬ (a.kM.length:Int)<(a.kM.length:Int);omega)) λ_=>fZ rfl
structure aiY (c:GCard)(t:GTraits):Prop where
 name:t.name=c.name
 line:t.line=c.line
 keys:t.keys=c.keys
 agL:t.abilities=c.abilities
 power:t.power=c.power
 ik:t.ik=c.ik
theorem Y6 (c:GCard)(h:lT c):Ok (aiY c) (zq c):=by
 obtain⟨h1,h2,T⟩:=h;have I:=T.1;have q2:=h2.1;unfold zq;refine gp (QQ c.cost) λJ _=>iJ bC ?_;refine lq 0 c.abilities.length (λn t=>t=c.abilities.take n) 0 rfl (Nat.zero_le _) ah rfl (λi t k hi U hk=>?_) λt k U=>?_
 have R:t.length<=1048576:=by rw[U,List.length_take];omega
 unfold xA;refine gm (λ_=>iV i rfl hi (iJ (acK _ (T.2 _ (List.getElem_mem hi))) (lU (by show (2*(t.length+1)+192)*640<=_;omega) df (hk _ ?_)))) λh=>absurd (show (i:Int)<(c.abilities.length:Int) by omega) h;show t++[c.abilities[i]]=_;rw[lF _ i hi,U]
 unfold xA;rw[zL] at U;refine gm (λh=>absurd h dL) λ_=>fZ ⟨rfl,rfl,rfl,U,rfl,rfl⟩
theorem aiZ:jT BF:=by simp[jT,yH,F9,qL,BF,WH,lS]
theorem Y7 (cards:List GCard)(o:GObject)(R:qL lT cards)(hv:∀ c∈cards,c.abilities.length<=8):Ok (λt=>jT t/\t.abilities.length<=8) (IL cards o):=by
 unfold IL;refine gU (λ_=>True) (λk hk=>gm (λ_=>hk _ trivial) λ_=>hk _ trivial) λi _=>?_;refine gU (λt=>jT t/\t.abilities.length<=8) (λk hk=>?_) λt ht=>?_
 refine gU (λb=>b=true->0<=i/\i<gK cards) (λk8 J=>gm (λh=>J _ λh2=>⟨h,of_decide_eq_true h2⟩) λ_=>J _ λh=>by cases h) λb hb=>?_;refine gq (λh=>?_) λ_=>hk _ ⟨aiZ,by show (0:Nat)<=8;omega⟩;obtain⟨g1,g2⟩:=hb h;simp only[gK] at g2;refine jV g1 g2 λc U=>gp (Y6 c (R.2 c U)) λt ht=>hk t ?_;have T:=R.2 c U;exact⟨⟨by rw[ht.name];exact T.1,by rw[ht.line];exact T.2.1,by rw[ht.agL];exact T.2.2⟩,by rw[ht.agL];exact hv c U⟩
 exact gm (λ_=>fZ ht) λ_=>gm (λ_=>fZ ht) λ_=>fZ ht
theorem aaw (s:List ByteArray)(f:ByteArray->Option Bool)(hs:s.length<=2000000)(O:∀ x∈s,∃ b,f x=some b):Ok (λr=>r<=(s.length:Int)) (mM s f):=by
 unfold mM;refine uV 0 s.length (λ_=>True) 0 rfl (Nat.zero_le _) ah trivial (λi k hi _ hk=>?_) λk _=>?_
 obtain⟨b,hb⟩:=O _ (List.getElem_mem hi);unfold nC;exact gm (λ_=>iV i rfl hi (iJ hb (gq (λ_=>fZ (by show (i:Int)<=(s.length:Int);omega)) λ_=>hk trivial))) λh=>absurd (show (i:Int)<(s.length:Int) by omega) h
 unfold nC;exact gm (λh=>absurd h dI) λ_=>fZ (by show (-1:Int)<=_;omega)
theorem aax (l:wO)(sub:ByteArray)(hl:yH l)(hs:F9 sub):Ok yH (BP l sub):=by
 have q:=hl.1;unfold BP;refine iJ bC (gU (λb=>b=false->gK l.subs<4) (λk hk=>?_) λb hb=>?_)
 refine gp (zQ sub hs) λ_ _=>gq (λ_=>hk _ λh=>by cases h) λ_=>gp (uK _ sub hl hs) λ_ _=>gq (λ_=>hk _ λh=>by cases h) λ_=>hk _ λh=>?_;have:=of_decide_eq_false h;omega
 refine gq (λ_=>fZ hl) λh=>?_;have U:=hb h;simp only[gK] at U;refine gp (aaw l.subs _ ah λx hx=>?_) λy hy=>gU (λi=>0<=i/\i<=(l.subs.length:Int)) (λk hk=>gm (λ_=>hk _ ⟨by simp only[gK];omega,by simp only[gK];omega⟩) λh=>hk _ ⟨by omega,by omega⟩) λi hi=>?_
 exact⟨_,rfl⟩
 obtain⟨n,rfl⟩:=Int.eq_ofNat_of_zero_le hi.1;refine iJ (acp ah aB bM) (fZ ⟨?_,λx hx=>?_⟩)
 simp;omega
 rcases List.mem_append.1 hx with hx|hx
 rcases List.mem_append.1 hx with hx|hx
 exact hl.2 x (List.mem_of_mem_take hx)
 rw[List.mem_singleton.1 hx];exact hs
 exact hl.2 x (List.mem_of_mem_drop hx)
theorem acL (t:GTraits)(m:jv)(R count:Int)(ht:jT t)(T:vC m):Ok jT (G5 t m R count):=by
 have nil:jT { t with keys:=0,abilities:=[] }:=⟨ht.1,ht.2.1,⟨by simp,by simp⟩⟩;have U:jT { t with line:={ t.line with subs:=[m.sub] } }:=⟨ht.1,⟨by simp,λx hx=>by rw[List.mem_singleton.1 hx];exact T.1⟩,ht.2.2⟩;unfold G5;refine iJ (aav t ht) (gp (aau m T) λy _=>gq (λ_=>fZ ht) λ_=>?_)
 exact gm (λ_=>fZ ht) λ_=>gm (λ_=>fZ ht) λ_=>gm (λ_=>fZ ht) λ_=>gm (λ_=>fZ U) λ_ =>
  gm (λ_=>gp (aax _ _ ht.2.1 T.1) λl hl=>fZ ⟨ht.1,hl,ht.2.2⟩) λ_=>gm (λ_=>fZ ht) λ_=>gm (λ_=>fZ ht) λ_=>gm (λ_=>fZ ht) λ_=>gm (λ_=>fZ ht) λ_ =>
  gm (λ_=>fZ nil) λ_=>gm (λ_=>gp (lY _) λ_ _=>gp (lY _) λ_ _=>fZ ht) λ_=>gm (λ_=>fZ ht) λ_ =>
  gm (λ_=>gp (BU _ _) λ_ _=>gp (BU _ _) λ_ _=>fZ ht) λ_=>gm (λ_=>fZ ht) λ_=>fZ ht
theorem akE (x:List GObject)(id:Int)(hx:x.length<=2000000):Ok (λr=>0<=r.1/\(r.2=true->r.1<(x.length:Int))) (kT x id rO):=by
 unfold kT;refine ji (λs=>∃ i j:Nat,s.1=(i:Int)/\s.2=(j:Int)/\i<=j/\j<=x.length) (λs=>(s.2-s.1).toNat) ⟨0,x.length,rfl,rfl,Nat.zero_le _,Nat.le_refl _⟩ (by show ((x.length:Int)-0).toNat<18446744073709551616;omega) ?_
 rintro⟨a,b⟩ k ⟨i,j,e1,R,J,hj⟩ hk
 simp only at e1 R;subst e1 R;unfold ou;refine gm (λh=>?_) λh=>gm (λh2=>?_) λh2=>?_
 have T:i<j:=by simpa using h
 have hs:SV .shr .u64 (IntKind.wrap .u64 (iL (i:Int) (j:Int))) 1=some (((i+j) / 2:Nat):Int):=by
  have e:iL (i:Int) (j:Int)=((i+j:Nat):Int):=by
   show IntKind.i64.wrap _=_;rw[show ((i:Int)+(j:Int))=((i+j:Nat):Int) by omega];exact wrap_in ah ah
  rw[e];have R:IntKind.wrap .u64 ((i+j:Nat):Int)=((i+j:Nat):Int):=by rw[IntKind.wrap_u64];omega
  rw[R];show some (Int.fdiv ((i+j:Nat):Int) (2 ^ (min (1:Int).toNat 64)))=_;rw[show (2:Int) ^ (min (1:Int).toNat 64)=((2:Nat):Int) by decide,Int.ofNat_fdiv]
 refine iJ hs ?_;have C:(i+j) / 2<j:=by omega
 have U:i<=(i+j) / 2:=by omega
 generalize (i+j) / 2=m at C U;have I:IntKind.wrap .i64 (m:Int)=(m:Int):=wrap_in ah ah;rw[I];refine iV m rfl ah (gp (FD _ _) λy _=>gm (λ_=>hk _ ⟨m+1,j,qw ah,rfl,by omega,hj⟩ ?_) λ_=>hk _ ⟨i,m,rfl,rfl,U,by omega⟩ ?_)
 show ((j:Int)-iL (m:Int) 1).toNat<((j:Int)-(i:Int)).toNat;rw[qw ah];omega
 show ((m:Int)-(i:Int)).toNat<((j:Int)-(i:Int)).toNat;omega
 have T:i<x.length:=by simpa [gK] using h2
 exact iV i rfl T (gp (FD _ _) λy _=>fZ ⟨by show (0:Int)<=(i:Int);omega,λ_=>by show (i:Int)<(x.length:Int);omega⟩)
 exact fZ ⟨by show (0:Int)<=(i:Int);omega,λh=>by cases h⟩
theorem acM (s:GState)(id:Int)(hs:jE s):Ok (λr=>-1<=r/\r<(s.objects.length:Int)) (rf s id):=by
 have ho:=hs.2.1.1;unfold rf;refine gp (akE _ _ ah) λy hy=>gq (λ_=>fZ ⟨by omega,by omega⟩) λh=>fZ ⟨by omega,hy.2 ?_⟩
 cases hb:y.2 with
 | true=>rfl
 | false=>rw[hb] at h;cases h
theorem VD (a b:List Int)(U:a.length<=2000000):Ok (λ_=>True) (slices_Equal_int a b):=by
 unfold slices_Equal_int;refine lN (λ_=>fZ trivial) λh=>?_;simp only[gK] at h;refine uV 0 a.length (λ_=>True) 0 rfl (Nat.zero_le _) ah trivial (λi k hi _ hk=>?_) λk _=>?_
 unfold rY;exact gm (λ_=>iV i rfl hi (iV i rfl ah (lN (λ_=>fZ trivial) λ_=>hk trivial))) λh=>absurd (show (i:Int)<(a.length:Int) by omega) h
 unfold rY;exact gm (λh=>absurd h (by show ¬ (a.length:Int)<(a.length:Int);omega)) λ_=>fZ trivial
def qj (f:iD):Prop:=qL (λ(_:Int)=>True) f.objects/\kF f.filter/\qL vC f.jY
def aeT (n:Nat)(x:List Int):Prop:=x.length<=2048/\∀ y∈x,0<=y/\y<(n:Int)
structure WLK (s:GState)(L:List iD)(w:gI):Prop where
 st:w.s=s
 l:w.forces=L
 all:w.gX.length=s.objects.length
 tr:∀ t∈w.gX,jT t
 don:w.done.length=L.length
 hit:w.hits.length=L.length
 aeU:∀ x∈w.hits,aeT s.objects.length x
 drp:w.dropped.length=s.objects.length
structure agM (s:GState)(L:List iD):Prop where
 hs:jE s
 ho:s.objects.length<=2048
 len:L.length<=1100000
 f:∀ f∈L,qj f
section
variable {s:GState}{L:List iD}(H:agM s L){w:gI}(W:WLK s L w)
include H W
theorem Kz {α:Type}{Q:α->Prop}{n:Nat}(hn:n<L.length){k:iD->Option α}(hk:∀ f,f=L[n]->qj f->Ok Q (k f)):Ok Q (bnd (kQ w.forces (n:Int)) k):=by
 rw[W.l];exact iV n rfl hn (hk _ rfl (H.f _ (List.getElem_mem hn)))
theorem Le (id:Int):Ok (λr=>-1<=r/\r<(s.objects.length:Int)) (rf w.s id):=by
 rw[W.st];exact acM s id H.hs
theorem Rj {n:Nat}(hn:n<L.length):Ok (λ_=>True) (nJ w n):=by
 unfold nJ;refine Kz H W hn λf _ _=>gp (Le H W _) λy hy=>gU (λb=>b=true->0<=y) (λk hk=>?_) λb hb=>?_
 exact gq (λ_=>hk _ λh=>of_decide_eq_true h) λ_=>hk _ λh=>by cases h
 exact gq (λh=>jV (hb h) (by rw[W.all];exact hy.2) λ_ _=>fZ trivial) λ_=>fZ trivial
theorem agN {n:Nat}(hn:n<L.length):Ok (λ_=>True) (qG w n):=by
 unfold qG;refine Kz H W hn λf _ _=>gp (Le H W _) λy hy=>gU (λb=>b=true->0<=y) (λk hk=>?_) λb hb=>?_
 exact gq (λ_=>hk _ λh=>of_decide_eq_true h) λ_=>hk _ λh=>by cases h
 exact gq (λh=>aam (hb h) (by rw[W.all];exact hy.2) λj _ hj=>WV hj λ_ _=>fZ trivial) λ_=>fZ trivial
theorem Uk {n:Nat}(hn:n<L.length):Ok (λ_=>True) (oz w n):=by
 unfold oz;refine Kz H W hn λf _ _=>gU (λ_=>True) (λk hk=>?_) λb _=>?_
 exact gq (λ_=>hk _ trivial) λ_=>iV n rfl dE (hk _ trivial)
 refine gq (λ_=>fZ trivial) λ_=>gp (Le H W _) λy hy=>gm (λ_=>fZ trivial) λh=>?_;exact jV ah (by rw[W.drp];exact hy.2) λ_ _=>fZ trivial
theorem Ul {n:Nat}(hn:n<L.length):Ok (λ_=>True) (lW w n):=by
 unfold lW;refine Kz H W hn λf _ _=>gU (λ_=>True) (λk hk=>?_) λb _=>?_
 exact gq (λ_=>hk _ trivial) λ_=>kJ n rfl dE (jF dE (hk _ trivial))
 refine gq (λ_=>fZ trivial) λ_=>gp (Le H W _) λy hy=>gm (λ_=>fZ trivial) λh=>?_;exact aam ah (by rw[W.drp];exact hy.2) λj _ hj=>WV hj λ_ _=>fZ trivial
theorem agO {i:Nat}(h:i<w.gX.length):jT w.gX[i]:=W.tr _ (List.getElem_mem h)
theorem abP {t:List Int}{i:Nat}(hi:i<s.objects.length)(h1:t.length<=i)(h2:∀ y∈t,0<=y/\y<(s.objects.length:Int)):(t++[(i:Int)]).length<=i+1/\∀ y∈t++[(i:Int)],0<=y/\y<(s.objects.length:Int):=by
 refine⟨by simp;omega,λy hy=>?_⟩;rcases List.mem_append.1 hy with hy|hy
 exact h2 y hy
 rw[List.mem_singleton.1 hy];omega
theorem Xn {n:Nat}(hn:n<L.length):Ok (aeT s.objects.length) (oM w n):=by
 have ho:=H.ho;unfold oM;refine iV n rfl dE (gq (λ_=>?_) λ_=>?_)
 have hl:n<w.hits.length:=by rw[W.hit];exact hn
 exact iV n rfl hl (fZ (W.aeU _ (List.getElem_mem hl)))
 refine gp (Uk H W hn) λ_ _=>gq (λ_=>fZ ⟨Nat.zero_le _,by simp⟩) λ_=>Kz H W hn λf O I=>gp (Rj H W hn) λJ _=>?_;have R:=I.1;refine lq 0 s.objects.length (λn t=>t.length<=n/\∀ y∈t,0<=y/\y<(s.objects.length:Int)) 0 rfl (Nat.zero_le _) ah ⟨Nat.zero_le _,by simp⟩ (λi t k hi T hk=>?_) λt k T=>?_
 have g:i<w.gX.length:=by rw[W.all];exact hi
 have hx:=agO H W g;have h1:=T.1;unfold pF;rw[W.st];refine gm (λ_=>gU (λu=>u.length<=i+1/\∀ y∈u,0<=y/\y<(s.objects.length:Int)) (λk9 C=>?_) λu hu=>hk u hu) λh=>absurd (show (i:Int)<(s.objects.length:Int) by omega) h;have no:=C t ⟨by omega,T.2⟩;refine iV i rfl hi (gU (λ_=>True) (λk13 U=>?_) λb _=>?_)
 have obj:Ok _ (bnd (kQ w.gX (i:Int)) λx19=>bnd (lI s.objects[i] x19 J f.source f.filter) λy21=>k13 y21) :=
  iV i rfl g (gp (Ae _ _ _ _ _ hx I.2.1) λ_ _=>U _ trivial)
 refine gm (λ_=>gq (λ_=>iJ (Ku _ _ (by have:=R.1;omega)) (gq (λ_=>U _ trivial) λ_=>gq (λ_=>obj) λ_=>U _ trivial)) λ_=>gq (λ_=>obj) λ_=>U _ trivial) λ_=>U _ trivial
 exact gq (λ_=>lU bP df (C _ (abP H W hi h1 T.2))) λ_=>no
 unfold pF;rw[W.st];exact gm (λh=>absurd h aQ) λ_=>fZ ⟨by have:=T.1;show t.length<=2048;omega,T.2⟩
theorem O0 {n:Nat}(hn:n<L.length):Ok (aeT s.objects.length) (kW w n):=by
 have ho:=H.ho;unfold kW;refine kJ n rfl dE (jF dE (gq (λ_=>?_) λ_=>?_))
 have hl:n<w.hits.length:=by rw[W.hit];exact hn
 exact kJ n rfl hl (jF hl (fZ (W.aeU _ (List.getElem_mem hl))))
 refine gp (Ul H W hn) λ_ _=>gq (λ_=>fZ ⟨Nat.zero_le _,by simp⟩) λ_=>Kz H W hn λf O C=>gp (Rj H W hn) λJ _=>?_;have R:=C.1;refine lq 0 s.objects.length (λn t=>t.length<=n/\∀ y∈t,0<=y/\y<(s.objects.length:Int)) 0 rfl (Nat.zero_le _) ah ⟨Nat.zero_le _,by simp⟩ (λi t k hi T hk=>?_) λt k T=>?_
 have I:i<w.gX.length:=by rw[W.all];exact hi
 have hx:=agO H W I;have h1:=T.1;unfold nz;rw[W.st];refine gm (λ_=>gU (λu=>u.length<=i+1/\∀ y∈u,0<=y/\y<(s.objects.length:Int)) (λk9 g=>?_) λu hu=>hk u hu) λh=>absurd (show (i:Int)<(s.objects.length:Int) by omega) h;have no:=g t ⟨by omega,T.2⟩;refine iV i rfl hi (gU (λ_=>True) (λk13 U=>?_) λb _=>?_)
 have obj:Ok _ (bnd (CY w.gX.length (i:Int)) λj=>bnd (w.gX[j]?) λx19=>bnd (lI s.objects[i] x19 J f.source f.filter) λy21=>k13 y21) :=
  kJ i rfl I (jF I (gp (Ae _ _ _ _ _ hx C.2.1) λ_ _=>U _ trivial))
 refine gm (λ_=>gq (λ_=>iJ (Ku _ _ (by have:=R.1;omega)) (gq (λ_=>U _ trivial) λ_=>gq (λ_=>obj) λ_=>U _ trivial)) λ_=>gq (λ_=>obj) λ_=>U _ trivial) λ_=>U _ trivial
 exact gq (λ_=>lU bP df (g _ (abP H W hi h1 T.2))) λ_=>no
 unfold nz;rw[W.st];exact gm (λh=>absurd h aQ) λ_=>fZ ⟨by have:=T.1;show t.length<=2048;omega,T.2⟩
theorem aeV (U source:Int)(f:jf)(O:kF f):Ok (λ_=>True) (xn w.s w.gX U source f):=by
 have ho:=H.ho;rw[W.st];unfold xn;refine lq 0 s.objects.length (λn t=>t.length<=n) 0 rfl (Nat.zero_le _) ah (Nat.zero_le _) (λi t k hi J hk=>?_) λt k J=>?_
 have R:i<w.gX.length:=by rw[W.all];exact hi
 unfold wL;refine gm (λ_=>gU (λu=>u.length<=i+1) (λk5 h5=>?_) λu hu=>hk u hu) λh=>absurd (show (i:Int)<(s.objects.length:Int) by omega) h;refine iV i rfl hi (gU (λp=>jT p.2) (λI T=>?_) λp hp=>?_)
 exact gm (λ_=>iV i rfl R (T _ (agO H W R))) λ_=>T _ aiZ
 exact fQ
 unfold wL;exact gm (λh=>absurd h aQ) λ_=>fZ trivial
theorem aeW (U source:Int)(f:jf)(O:kF f):Ok (λ_=>True) (xm w.s w.gX U source f):=by
 have ho:=H.ho;rw[W.st];unfold xm;refine lq 0 s.objects.length (λn t=>t.length<=n) 0 rfl (Nat.zero_le _) ah (Nat.zero_le _) (λi t k hi J hk=>?_) λt k J=>?_
 have T:i<w.gX.length:=by rw[W.all];exact hi
 unfold wK;refine gm (λ_=>gU (λu=>u.length<=i+1) (λk5 h5=>?_) λu hu=>hk u hu) λh=>absurd (show (i:Int)<(s.objects.length:Int) by omega) h;refine iV i rfl hi (gU (λp=>jT p.2) (λI R=>?_) λp hp=>?_)
 exact gm (λ_=>kJ i rfl T (jF T (R _ (agO H W T)))) λ_=>R _ aiZ
 exact fQ
 unfold wK;exact gm (λh=>absurd h aQ) λ_=>fZ trivial
theorem Y8 {n:Nat}(hn:n<L.length)(stage:Int):Ok (λr=>r.length=(L[n]).jY.length) (pV w n stage):=by
 unfold pV;refine Kz H W hn λf O C=>?_;subst O;have J:=C.2.2;have hml:=J.1;generalize hM:(L[n]).jY=ms at *;refine Ik (n:=ms.length) (by rfl) (by rfl) ah ah (BC ?_);refine lq 0 ms.length (λ_ t=>t.length=ms.length) 0 rfl (Nat.zero_le _) ah aB (λi t k hi T hk=>?_) λt k T=>?_
 have hsz:=J.2 _ (List.getElem_mem hi);have it:i<t.length:=by omega
 unfold qg;rw[hM];refine gm (λ_=>gU (λu=>u.length=ms.length) (λk6 R=>?_) λu hu=>hk u hu) λh=>absurd (show (i:Int)<(ms.length:Int) by omega) h;refine iV i rfl hi (gU (λ_=>True) (λI U=>?_) λx _=>?_)
 exact gm (λ_=>gp (xw _) λ_ _=>U _ trivial) λ_=>U _ trivial
 refine gq (λ_=>gp (Rj H W hn) λ_ _=>gp (aeV H W _ _ _ hsz.2) λ_ _=>kJ i rfl it (jF it (R _ (by simp[T])))) λ_=>R _ T
 unfold qg;rw[hM];exact gm (λh=>absurd h dF) λ_=>fZ T
theorem QE {n:Nat}(hn:n<L.length)(stage:Int):Ok (λr=>r.length=(L[n]).jY.length) (lJ w n stage):=by
 unfold lJ;refine Kz H W hn λf O C=>?_;subst O;have J:=C.2.2;have hml:=J.1;generalize hM:(L[n]).jY=ms at *;refine Ik (n:=ms.length) (by rfl) (by rfl) ah ah (BC ?_);refine lq 0 ms.length (λ_ t=>t.length=ms.length) 0 rfl (Nat.zero_le _) ah aB (λi t k hi T hk=>?_) λt k T=>?_
 have hsz:=J.2 _ (List.getElem_mem hi);have it:i<t.length:=by omega
 unfold nO;rw[hM];refine gm (λ_=>gU (λu=>u.length=ms.length) (λk6 R=>?_) λu hu=>hk u hu) λh=>absurd (show (i:Int)<(ms.length:Int) by omega) h;refine iV i rfl hi (gU (λ_=>True) (λI U=>?_) λx _=>?_)
 exact gm (λ_=>gp (xw _) λ_ _=>U _ trivial) λ_=>U _ trivial
 refine gq (λ_=>gp (Rj H W hn) λ_ _=>gp (aeW H W _ _ _ hsz.2) λ_ _=>kJ i rfl it (jF it (R _ (by simp[T])))) λ_=>R _ T
 unfold nO;rw[hM];exact gm (λh=>absurd h dF) λ_=>fZ T
theorem Xo {l:List GTraits}{n:Nat}{i:Nat}{y:GTraits}(h1:l.length=n)(h2:∀ x∈l,jT x)(hy:jT y):(l.set i y).length=n/\∀ x∈l.set i y,jT x:=⟨by simp[h1],λx hx=>by
 rcases List.mem_or_eq_of_mem_set hx with hx|hx
 exact h2 x hx
 rw[hx];exact hy⟩
theorem VE {n:Nat}(hn:n<L.length)(stage:Int):Ok (WLK s L) (mO w n stage):=by
 have ho:=H.ho;have hL:=H.len;have wd:=W.don;have wh:=W.hit;unfold mO;refine gp (O0 H W hn) λJ h1=>gp (QE H W hn stage) λy2 h2=>gp (agN H W hn) λy3 _=>?_;have g1:=h1.1;refine lq 0 J.length (λi t=>(t.1.length=s.objects.length/\∀ x∈t.1,jT x)/\t.2.length=s.objects.length) 0 rfl (Nat.zero_le _) ah ⟨⟨W.all,W.tr⟩,W.drp⟩ (λi t k hi T hk=>?_) λt k T=>?_
 obtain⟨t1,t2⟩:=t;unfold pz;refine gm (λ_=>iV i rfl hi (Kz H W hn λf O hz=>?_)) λh=>absurd (show (i:Int)<(J.length:Int) by omega) h;subst O;have hm:=hz.2.2;have hml:=hm.1;obtain⟨a1,a2⟩:=h1.2 _ (List.getElem_mem hi);generalize J[i]=hi0 at a1 a2;obtain⟨m,rfl⟩:=Int.eq_ofNat_of_zero_le a1;have hmo:m<s.objects.length:=by omega
 generalize hM:(L[n]).jY=ms at *;refine lq 0 ms.length (λj t=>(t.1.length=s.objects.length/\∀ x∈t.1,jT x)/\t.2.length=s.objects.length) 0 rfl (Nat.zero_le _) ah T (λj u k2 hj I C=>?_) λu k2 I=>?_
 obtain⟨u1,u2⟩:=u;obtain⟨⟨j1,j2⟩,j3⟩:=I;simp only at j1 j2 j3;have hsz:=hm.2 _ (List.getElem_mem hj);have mu:m<u1.length:=by omega
 have R:m<u2.length:=by omega
 have g:j<y2.length:=by omega
 unfold pq;rw[hM];refine gm (λ_=>gU (λu=>(u.1.length=s.objects.length/\∀ x∈u.1,jT x)/\u.2.length=s.objects.length) (λk13 U=>?_) λu hu=>C u hu) λh=>absurd (show (j:Int)<(ms.length:Int) by omega) h;refine iV j rfl hj (gp (xw _) λ_ _=>lN (λ_=>U _ ⟨⟨j1,j2⟩,j3⟩) λ_=>kJ m rfl mu (jF mu (kJ j rfl g (jF g (gp (acL _ _ _ _ (j2 _ (List.getElem_mem mu)) hsz) λy hy=>kJ m rfl mu (jF mu (gm (λ_=>kJ m rfl R (BC (jF R (U _ ⟨Xo H W j1 j2 hy,by simp[j3]⟩)))) λ_=>U _ ⟨Xo H W j1 j2 hy,j3⟩)))))))
 unfold pq;rw[hM];exact gm (λh=>absurd h dF) λ_=>hk _ I
 obtain⟨t1,t2⟩:=t;unfold pz;refine gm (λh=>absurd h (by show ¬ (J.length:Int)<(J.length:Int);omega)) λ_=>kJ n rfl ah (BC (jF ah (kJ n rfl ah (jF ah (fZ ⟨W.st,W.l,T.1.1,T.1.2,by simp[wd],by simp[wh],λx hx=>?_,T.2⟩)))));rcases List.mem_or_eq_of_mem_set hx with hx|hx
 exact W.aeU x hx
 rw[hx];exact h1
theorem aay:Ok (WLK s L) (nX w):=by
 have ho:=H.ho;have U:=H.len;have a1:=W.all;have a2:=W.don;have a3:=W.hit;have a4:=W.drp;unfold nX;have c1:nG w.gX=some w.gX:=by unfold nG;exact ok_eq (abO (lU ah ah (fZ rfl)))
 have c2:∀ l:List Bool,l.length<=2000000->mP l=some l:=λl hl=>by unfold mP;exact ok_eq (abO (lU ah ah (fZ rfl)))
 have c3:nV w.hits=some w.hits:=by unfold nV;exact ok_eq (abO (lU ah ah (fZ rfl)))
 exact iJ c1 (iJ (c2 _ ah) (iJ (c2 _ ah) (iJ c3 (fZ ⟨W.st,W.l,W.all,W.tr,W.don,W.hit,W.aeU,W.drp⟩))))
theorem aeX {n:Nat}(hn:n<L.length)(stage:Int):Ok (λr=>r.hits.length<=2048/\r.numbers.length<=1048576) (sO w n stage):=by
 have U:=(H.f _ (List.getElem_mem hn)).2.2.1;unfold sO;exact gp (Uk H W hn) λ_ _=>gp (Xn H W hn) λ_ h1=>gp (Y8 H W hn stage) λ_ h2=>fZ ⟨h1.1,by show List.length _<=_;rw[h2];exact U⟩
theorem aeY {n:Nat}(hn:n<L.length)(stage:Int):Ok (λr=>r.hits.length<=2048/\r.numbers.length<=1048576) (pU w n stage):=by
 have U:=(H.f _ (List.getElem_mem hn)).2.2.1;unfold pU;exact gp (Ul H W hn) λ_ _=>gp (O0 H W hn) λ_ h1=>gp (QE H W hn stage) λ_ h2=>fZ ⟨h1.1,by show List.length _<=_;rw[h2];exact U⟩
theorem Y9 {n:Nat}(hn:n<L.length)(stage:Int):Ok (λ_=>True) (nD w n stage):=by
 have wd:=W.don;unfold nD;refine Kz H W hn λf O T=>?_;have R:=T.2.2;have hml:=R.1;refine uV 0 f.jY.length (λ_=>True) 0 rfl (Nat.zero_le _) ah trivial (λi k hi _ hk=>?_) λk _=>?_
 have hsz:=R.2 _ (List.getElem_mem hi);unfold nP;refine gm (λ_=>iV i rfl hi (gU (λ_=>True) (λk7 U=>?_) λb _=>gq (λ_=>fZ trivial) λ_=>hk trivial)) λh=>absurd (show (i:Int)<(f.jY.length:Int) by omega) h;exact gm (λ_=>gp (xw _) λ_ _=>gm (λ_=>gp (CE _ _ hsz.2) λ_ _=>U _ trivial) λ_=>U _ trivial) λ_=>U _ trivial
 unfold nP;refine gm (λh=>absurd h dW) λ_=>gq (λ_=>kJ n rfl ah (jF ah (gq (λ_=>gm (λ_=>fZ trivial) λ_=>gp (CE _ _ T.2.1) λ_ _=>fZ trivial) λ_=>fZ trivial))) λ_=>fZ trivial
end
theorem Um {α:Type}{n:Int}{v:α}:∀ {l:List (Int×α)},D8 l n=some v->∃ k,(k,v)∈l
 | [],h=>by simp[D8] at h
 | (k,w)::l,h=>by
  unfold D8 at h
  split at h
  cases h;exact⟨k,by simp⟩
  obtain⟨k2,h2⟩:=Um h;exact⟨k2,by simp[h2]⟩
theorem VF {α:Type}{n:Int}{v:α}{x:Int×α}:∀ {l:List (Int×α)},x∈NZ l n v->x.2=v\/x∈l
 | [],h=>by simp only[NZ,List.mem_singleton] at h;exact .inl (by rw[h])
 | (k,w)::l,h=>by
  unfold NZ at h
  split at h
  rcases List.mem_cons.1 h with h|h
  exact .inl (by rw[h])
  exact .inr dJ
  rcases List.mem_cons.1 h with h|h
  exact .inr dJ
  rcases VF h with h|h
  exact .inl h
  exact .inr dJ
theorem akF {α ρ:Type}{Q:ρ->Prop}{l:List (Int×α)}{n:Int}{z:α}{k:α->Bool->Option ρ}(h1:∀ v,(∃ i,(i,v)∈l)->Ok Q (k v true))(h2:Ok Q (k z false)):Ok Q (mgO l n z k):=by
 unfold mgO
 split
 rename_i v hv;exact h1 v (Um hv)
 exact h2
def aaz (v:jm):Prop:=v.hits.length<=2048/\v.numbers.length<=1048576
theorem aaA (a b:jm)(U:aaz a):Ok (λ_=>True) (pW a b):=by
 have:=U.1;have:=U.2;unfold pW;exact gq (λ_=>fZ trivial) λ_=>gp (VD _ _ ah) λ_ _=>gq (λ_=>fZ trivial) λ_=>gp (VD _ _ ah) λ_ _=>fZ trivial
def Un (n:Nat)(t:List (List Bool)):Prop:=t.length=n/\∀ r∈t,r.length=n
theorem Un.set {n:Nat}{t:List (List Bool)}(h:Un n t)(i:Nat){r:List Bool}(hr:r.length=n):Un n (t.set i r):=⟨by simp[h.1],λx hx=>by
 rcases List.mem_or_eq_of_mem_set hx with hx|hx
 exact h.2 x hx
 rw[hx];exact hr⟩
section
variable {s:GState}{L:List iD}(H:agM s L){w:gI}(W:WLK s L w)
include H W
theorem acN (left:List Int)(stage:Int)(hr:∀ x∈left,0<=x/\x<(L.length:Int))(hlen:left.length<=L.length):Ok (λ_=>True) (oN w left stage):=by
 have hL:=H.len;unfold oN;rw[W.l];refine Ik (n:=L.length) rfl rfl ah ah ?_;refine lq 0 L.length (λi t=>t.length=L.length/\∀ j (hj:j<t.length),j<i->(t[j]).length=L.length) 0 rfl (Nat.zero_le _) ah ⟨by simp,λ_ _ h=>by omega⟩ (λi t k hi I hk=>?_) λt k I=>?_
 unfold pK;rw[W.l];refine BC (gm (λ_=>Ik (n:=L.length) rfl rfl ah ah (BC ?_)) λh=>absurd (show (i:Int)<gK (List.replicate L.length ([]:List Bool)) by simp[gK];omega) h);have it:i<t.length:=by omega
 refine kJ i rfl it (jF it (hk _ ⟨by simp[I.1],λj hj hji=>?_⟩))
 by_cases e:i=j
 subst e;simp
 rw[List.getElem_set_ne e];exact I.2 j dN ah
 unfold pK;refine BC (gm (λh=>absurd h (by simp[gK])) λ_=>?_)
 have hR:Un L.length t:=⟨I.1,λr hr=>by
  obtain⟨j,hj,e⟩:=List.getElem_of_mem hr;rw[<- e];exact I.2 j hj ah⟩
 refine lq 0 left.length (λ_ (u:List (Int×jm))=>∀ x∈u,aaz x.2) 0 rfl (Nat.zero_le _) ah aB (λa u k2 R g hk2=>?_) λu k2 g=>?_
 unfold pJ;obtain⟨a1,a2⟩:=hr _ (List.getElem_mem R);refine gm (λ_=>gU (λv=>∀ x∈v,aaz x.2) (λk5 h5=>?_) λv hv=>hk2 v hv) λh=>absurd (show (a:Int)<(left.length:Int) by omega) h;refine kJ a rfl R (jF R ?_);generalize left[a]=la at a1 a2;obtain⟨m,rfl⟩:=Int.eq_ofNat_of_zero_le a1;have J:m<L.length:=by omega
 refine gp (Y9 H W J stage) λ_ _=>gq (λ_=>gp (aeY H W J stage) λy hy=>h5 _ λx hx=>?_) λ_=>h5 _ g;rcases VF hx with hx|hx
 rw[hx];exact hy
 exact g x hx
 unfold pJ;refine gm (λh=>absurd h dD) λ_=>gU (λ_=>True) (λk5 h5=>gm (λ_=>h5 _ trivial) λ_=>h5 _ trivial) λb _=>gq (λ_=>fZ trivial) λ_=>?_;refine lq 0 left.length (λ_ t=>Un L.length t) 0 rfl (Nat.zero_le _) ah hR (λa v k6 R hV hk6=>?_) λv k6 _=>?_
 unfold pI;obtain⟨a1,a2⟩:=hr _ (List.getElem_mem R);refine gm (λ_=>kJ a rfl R (jF R ?_)) λh=>absurd (show (a:Int)<(left.length:Int) by omega) h;generalize left[a]=la at a1 a2;obtain⟨m,rfl⟩:=Int.eq_ofNat_of_zero_le a1;have J:m<L.length:=by omega
 refine gp (aay H W) λw2 W2=>gp (VE H W2 J stage) λw3 W3=>?_;refine lq 0 left.length (λ_ t=>Un L.length t) 0 rfl (Nat.zero_le _) ah hV (λc v2 k7 hc U hk7=>?_) λv2 k7 U=>?_
 unfold pG;obtain⟨c1,c2⟩:=hr _ (List.getElem_mem hc);refine gm (λ_=>gU (Un L.length) (λk8 h8=>?_) λv3 hv3=>hk7 v3 hv3) λh=>absurd (show (c:Int)<(left.length:Int) by omega) h;refine kJ c rfl hc (jF hc ?_);generalize left[c]=lc at c1 c2;obtain⟨p,rfl⟩:=Int.eq_ofNat_of_zero_le c1;have hp:p<L.length:=by omega
 have C:p<v2.length:=by rw[U.1];exact hp
 refine akF (λx hx=>?_) (gU (λb=>b=false) (λk9 h9=>gq (λh=>by cases h) λ_=>h9 _ rfl) λb hb=>by subst hb;exact gq (λh=>by cases h) λ_=>h8 _ U);obtain⟨_,hx⟩:=hx;refine gU (λ_=>True) (λk9 h9=>gq (λ_=>h9 _ trivial) λ_=>h9 _ trivial) λb _=>gq (λ_=>?_) λ_=>h8 _ U;have T:(v2[p]).length=L.length:=U.2 _ (List.getElem_mem C);refine kJ p rfl C (jF C (gp (aeX H W3 hp stage) λ_ _=>gp (aaA _ _ (g _ hx)) λ_ _=>kJ m rfl (by rw[T];exact J) (jF C (jF (by rw[T];exact J) (h8 _ (U.set p (by simp[T])))))))
 unfold pG;exact gm (λh=>absurd h dD) λ_=>hk6 _ U
 unfold pI;exact gm (λh=>absurd h dD) λ_=>fZ trivial
theorem acO:Ok (WLK s L) (oK w):=by
 have ho:=H.ho;have C:=W.all;unfold oK;refine lq 0 s.objects.length (λi t=>t.length=s.objects.length/\∀ x∈t,jT x) 0 rfl (Nat.zero_le _) ah ⟨C,W.tr⟩ (λi t k hi U hk=>?_) λt k U=>?_
 have it:i<t.length:=by omega
 have hx:=U.2 _ (List.getElem_mem it);unfold oW;rw[W.st];refine gm (λ_=>gU (λu=>u.length=s.objects.length/\∀ x∈u,jT x) (λk5 h5=>?_) λu hu=>hk u hu) λh=>absurd (show (i:Int)<(s.objects.length:Int) by omega) h;refine iV i rfl hi (kJ i rfl it (gU (λ_=>True) (λI T=>?_) λb _=>gq (λ_=>?_) λ_=>h5 _ U))
 exact gm (λ_=>jF it (T _ trivial)) λ_=>T _ trivial
 refine gp (OZ _) λ_ _=>jF it (gp (BU _ _) λp _=>jF it (gp (BU _ _) λq _=>jF it ?_));have g1:({ t[i] with power:=p }:GTraits)=({ t[i] with power:=p }:GTraits):=rfl;have R:=Xo H W (i:=i) (y:={ t[i] with power:=p }) U.1 U.2 ⟨hx.1,hx.2.1,hx.2.2⟩;have J:i<(t.set i { t[i] with power:=p }).length:=by simpa using it
 refine jF J (h5 _ (Xo H W R.1 R.2 ?_));have:=R.2 _ (List.getElem_mem J);exact⟨this.1,this.2.1,this.2.2⟩
 unfold oW;rw[W.st];exact gm (λh=>absurd h aQ) λ_=>fZ ⟨rfl,W.l,U.1,U.2,W.don,W.hit,W.aeU,W.drp⟩
theorem Za {f:iD}(O:qj f)(stage:Int):Ok (λ_=>True) (xk f stage):=by
 have U:=O.2.2.1;unfold xk pg qZ;refine gp (R:=λ_=>True) (gp (R:=λ_=>True) ?_ λ_ _=>fZ trivial) λ_ _=>fZ trivial;refine uV 0 f.jY.length (λ_=>True) 0 rfl (Nat.zero_le _) ah trivial (λi k hi _ hk=>?_) λk _=>?_
 unfold oZ qQ;exact gm (λ_=>iV i rfl hi (gp (R:=λ_=>True) (gp (xw _) λ_ _=>fZ trivial) λ_ _=>gq (λ_=>fZ trivial) λ_=>hk trivial)) λh=>absurd (show (i:Int)<(f.jY.length:Int) by omega) h
 unfold oZ;exact gm (λh=>absurd h dW) λ_=>fZ trivial
theorem yD (stage:Int):Ok (λr=>WLK s L r.2) (jl w stage):=by
 have hL:=H.len;unfold jl;refine gU (WLK s L) (λk hk=>gm (λ_=>gp (acO H W) λv V=>hk v V) λ_=>hk _ W) λv V=>?_;refine lq 0 L.length (λi t=>(t.1.Nodup/\(∀ x∈t.1,0<=x/\x<(i:Int))/\t.1.length<=i)/\t.2.length=i) 0 rfl (Nat.zero_le _) ah ⟨⟨by simp,by simp,by simp⟩,rfl⟩ (λi t k hi J hk=>?_) λt k J=>?_
 obtain⟨left,stamps⟩:=t;obtain⟨⟨R,i2,i3⟩,i4⟩:=J;simp only at R i2 i3 i4;unfold pM;refine gm (λ_=>gU (λu=>(u.1.Nodup/\(∀ x∈u.1,0<=x/\x<((i+1:Nat):Int))/\u.1.length<=i+1)/\u.2.length=i+1) (λk9 h9=>?_) λu hu=>hk u hu) λh=>absurd (show (i:Int)<gK v.forces by rw[V.l];simp only[gK];omega) h;refine Kz H V hi λf _ g=>lU (by show (2*(stamps.length+1)+192)*8<=_;omega) (by show stamps.length+1<=_;omega) (gp (Za H V g stage) λ_ _=>gq (λ_=>lU (by show (2*(left.length+1)+192)*8<=_;omega) (by show left.length+1<=_;omega) (h9 _ ⟨⟨?_,λx hx=>?_,by simp;omega⟩,by simp[i4]⟩)) λ_=>h9 _ ⟨⟨R,λx hx=>by have:=i2 x hx;omega,by show left.length<=i+1;omega⟩,by simp[i4]⟩)
 rw[List.nodup_append];refine⟨R,by simp,λx hx y hy e=>?_⟩;rw[List.mem_singleton.1 hy] at e;have:=i2 x hx;have e:x=(i:Int):=e;omega
 rcases List.mem_append.1 hx with hx|hx
 have:=i2 x hx;omega
 have e:x=(i:Int):=List.mem_singleton.1 hx;omega
 obtain⟨left,stamps⟩:=t;obtain⟨⟨R,i2,i3⟩,i4⟩:=J;simp only at R i2 i3 i4;unfold pM;refine gm (λh=>absurd h (by show ¬ (L.length:Int)<gK v.forces;simp only[gK];rw[V.l];omega)) λ_=>?_;refine ji (λx=>WLK s L x.1/\x.2.1.Nodup/\(∀ y∈x.2.1,0<=y/\y<(L.length:Int))/\x.2.1.length+x.2.2.1.length<=L.length) (λx=>x.2.1.length) ⟨V,R,i2,by show left.length+0<=_;omega⟩ (by show left.length<18446744073709551616;omega) ?_
 rintro⟨u,l2,ord,st⟩ k2 ⟨U,n1,T,n3⟩ hk2
 simp only at U n1 T n3;unfold sQ;refine gm (λh=>?_) λ_=>fZ U;have C:l2≠[]:=λe=>by subst e;simp[gK] at h
 refine gp (acN H U l2 stage T ah) λrel _=>iJ (agK l2 st rel ah) ?_;have I:elF l2=l2:=agJ l2 n1 λx hx=>(T x hx).1;rw[I];have hy:Kt st (EC l2 rel)∈l2:=P8 _ _ _ (Vy st _ (λx hx=>(T x (P8 _ _ _ hx)).1) (aeO l2 rel n1 C)).1;have gy:=T _ hy;generalize Kt st (EC l2 rel)=y at hy gy;refine gm (λh=>by omega) λ_=>?_;obtain⟨m,rfl⟩:=Int.eq_ofNat_of_zero_le gy.1;have O:=Lu l2 _ n1 hy;refine gp (VE H U ah stage) λu2 U2=>lU (by show (2*(ord.length+1)+192)*8<=_;omega) (by show ord.length+1<=_;omega) (iJ (acJ l2 _ (λx=>decide (x=(m:Int))) ah λx _=>rfl) (hk2 _ ⟨U2,List.Pairwise.filter _ n1,λz g=>T z (List.mem_filter.1 g).1,?_⟩ ?_))
 show (l2.filter _).length+(ord++[(m:Int)]).length<=_;simp only[List.length_append,List.length_singleton];omega
 show (l2.filter _).length<l2.length;omega
end
theorem aaB (cards:List GCard)(s:GState)(hc:qL lT cards)(hs:jE s)(hv:∀ c∈cards,c.abilities.length<=8)(ho:s.objects.length<=2048):Ok (agM s) (zt cards s):=by
 have I:=hs.2.2.2.2.2.2.1;have hcl1:=I.1;unfold zt;refine lq 0 s.objects.length (λi t=>t.length<=8*i/\∀ f∈t,qj f) 0 rfl (Nat.zero_le _) ah ⟨by simp,by simp⟩ (λi t k hi U hk=>?_) λt k U=>?_
 unfold xE;refine gm (λ_=>gU (λu=>u.length<=8*(i+1)/\∀ f∈u,qj f) (λk5 h5=>?_) λu hu=>hk u hu) λh=>absurd (show (i:Int)<(s.objects.length:Int) by omega) h;refine iV i rfl hi (lN (λ_=>h5 _ ⟨by have:=U.1;show t.length<=_;omega,U.2⟩) λ_=>gp (Y7 cards _ hc hv) λtr J=>?_);have hal:=J.2;refine lq 0 tr.abilities.length (λj u=>u.length<=8*i+j/\∀ f∈u,qj f) 0 rfl (Nat.zero_le _) ah U (λj u k10 hj T g=>?_) λu k10 T=>?_
 have R:=J.1.2.2.2 _ (List.getElem_mem hj);have hzm:=R.2.1.1;unfold xB;refine gm (λ_=>gU (λu=>u.length<=8*i+(j+1)/\∀ f∈u,qj f) (λk13 C=>?_) λu hu=>g u hu) λh=>absurd (show (j:Int)<(tr.abilities.length:Int) by omega) h;refine iV j rfl hj (gm (λ_=>iJ dM (BC (lU (by show (2*(u.length+1)+192)*224<=_;have:=T.1;omega) (by show u.length+1<=_;have:=T.1;omega) (C _ ⟨by have:=T.1;simp only[List.length_append,List.length_singleton];omega,λf O=>?_⟩)))) λ_=>C _ ⟨by have:=T.1;show u.length<=_;omega,T.2⟩);rcases List.mem_append.1 O with O|O
 exact T.2 f O
 rw[List.mem_singleton.1 O];exact⟨⟨by simp,λ_ _=>trivial⟩,R.1,R.2.1⟩
 unfold xB;refine gm (λh=>absurd h (by show ¬ (tr.abilities.length:Int)<(tr.abilities.length:Int);omega)) λ_=>h5 _ ⟨by have:=T.1;show u.length<=_;omega,T.2⟩
 unfold xE;refine gm (λh=>absurd h aQ) λ_=>?_;refine lq 0 s.uB.length (λi t=>t.length<=16384+i/\∀ f∈t,qj f) 0 rfl (Nat.zero_le _) ah ⟨by have:=U.1;show t.length<=_;omega,U.2⟩ (λi t k hi U hk=>?_) λt k U=>?_
 have R:=I.2 _ (List.getElem_mem hi);have z1:=R.1.1;have z2:=R.2.1;unfold xC;refine gm (λ_=>iV i rfl hi (iJ (by unfold slices_Clone_int;exact vw ah ah) (iJ dM (BC (lU (by show (2*(t.length+1)+192)*224<=_;have:=U.1;omega) (by show t.length+1<=_;have:=U.1;omega) (hk _ ⟨by have:=U.1;simp only[List.length_append,List.length_singleton];omega,λf O=>?_⟩)))))) λh=>absurd (show (i:Int)<(s.uB.length:Int) by omega) h;rcases List.mem_append.1 O with O|O
 exact U.2 f O
 rw[List.mem_singleton.1 O];refine⟨R.1,?_,R.2⟩;simp[kF,F9,kD,lS]
 unfold xC;exact gm (λh=>absurd h (by show ¬ (s.uB.length:Int)<(s.uB.length:Int);omega)) λ_=>fZ ⟨hs,ho,by have:=U.1;show t.length<=_;omega,U.2⟩
theorem acP (cards:List GCard)(s:GState)(J:qL lT cards)(hs:jE s)(hv:∀ c∈cards,c.abilities.length<=8)(ho:s.objects.length<=2048):Ok (λw=>∃ L,agM s L/\WLK s L w) (BM cards s):=by
 unfold BM;refine gp (aaB cards s J hs hv ho) λL H=>?_;have I:=H.len;refine Ik (n:=s.objects.length) rfl rfl ah ah (BC ?_);refine lq 0 s.objects.length (λi t=>(t.1.length=i/\∀ x∈t.1,jT x)/\t.2.length=s.objects.length) 0 rfl (Nat.zero_le _) ah ⟨⟨rfl,by simp⟩,by simp⟩ (λi t k hi T hk=>?_) λt k T=>?_
 obtain⟨t1,t2⟩:=t;obtain⟨⟨U,i2⟩,i3⟩:=T;simp only at U i2 i3;unfold zu;refine gm (λ_=>iV i rfl hi (gp (Y7 cards _ J hv) λtr R=>lU (by show (2*(t1.length+1)+192)*176<=_;omega) (by show t1.length+1<=_;omega) (hk _ ⟨⟨by simp[U],λx hx=>?_⟩,i3⟩))) λh=>absurd (show (i:Int)<(s.objects.length:Int) by omega) h;rcases List.mem_append.1 hx with hx|hx
 exact i2 x hx
 rw[List.mem_singleton.1 hx];exact R.1
 obtain⟨t1,t2⟩:=t;obtain⟨⟨U,i2⟩,i3⟩:=T;simp only at U i2 i3;unfold zu;refine gm (λh=>absurd h aQ) λ_=>?_;refine Ik (n:=L.length) rfl rfl ah ah (BC (Ik (n:=L.length) rfl rfl ah ah (BC (fZ ⟨L,H,rfl,rfl,U,i2,by simp,by simp,λx hx=>?_,i3⟩))));rw[(List.mem_replicate.1 hx).2];exact⟨by simp,by simp⟩
theorem agP (cards:List GCard)(s:GState)(U:qL lT cards)(hs:jE s)(hv:∀ c∈cards,c.abilities.length<=8)(ho:s.objects.length<=2048):Ok (λr=>r.length=s.objects.length/\∀ t∈r,jT t) (G6 cards s):=by
 unfold G6;refine gp (acP cards s U hs hv ho) λw T=>?_;obtain⟨L,H,W⟩:=T;exact gp (yD H W _) λ_ W=>gp (yD H W _) λ_ W=>gp (yD H W _) λ_ W=>gp (yD H W _) λ_ W=>gp (yD H W _) λ_ W=>gp (yD H W _) λ_ W=>gp (yD H W _) λ_ W=>gp (yD H W _) λ_ W=>fZ ⟨W.all,W.tr⟩
end Go.Proofs.YtchmoabpofnbaaaGreat
