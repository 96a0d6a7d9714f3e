import Derived.Test.YtchmoabpofnbaaaGreatB45
import Derived.Test.YtchmoabpofnbaaaGreatB47
set_option linter.all false
namespace Go.Proofs.YtchmoabpofnbaaaGreat
open Go Go.Pv
set_option maxRecDepth 100000
def oJ (x:gX):Prop:=Hr x.name/\zM x.line/\(rM lL) x.gQ
theorem Rq (c:rG)  : Ok (λr=>True) (Po c):=by
 unfold Po;refine jg (λ(U:Int)=>0<=U/\U<=5) (λ(U:Int)=>(5-U).toNat) ⟨ae,ae⟩ aj (λU k2 hI1 J=>?_);obtain⟨g,I⟩:=hI1;unfold Um;refine gG (λh3=>?_) (λh3=>gG (λh13=>gG (λh14=>gG (λh15=>gB trivial) (λh15=>gB trivial)) (λh14=>gB trivial)) (λh13=>gB trivial));refine gZ (λ(C:Int)=>True) (λk5 hk4=>?_) (λC hs5=>?_)
 refine wK ae ae (λj7 h6=>?_)
 split
 exact fM
 exact fM
 exact fM
 exact fM
 exact fM
 refine gZ (λ(s8:Bool)=>s8=false->¬(C<0)/\¬(9<C)) (λk9 T=>gG (λh9=>T _ af) (λh9=>T _ af)) (λs8 hs8=>?_);refine gK (λh10=>gB trivial) (λh10=>?_);have hf11:=hs8 h10;have h12:iI U 1=U+1:=kC ah ah;exact J _ ⟨ae,ae⟩ ae
theorem RH (c:rG)  : Ok (λr=>True) (C9 c):=by
 unfold C9;refine gZ (λ(s1:Bool)=>True) (λk2 I=>gJ (Rq _ ) (λy4 h3=>gK (λh4=>I _ trivial) (λh4=>oh (λv5 h5=>I _ trivial)))) (λs1 hs2=>?_);refine gK (λh6=>gB trivial) (λh6=>?_);refine jg (λ(J:Int×Int)=>0<=J.2/\J.2<=5) (λ(J:Int×Int)=>(5-J.2).toNat) ⟨ae,ae⟩ aj (λJ k7 hI7 hk8=>?_);obtain⟨hI7_0,C⟩:=hI7;unfold Fh;refine gG (λh9=>?_) (λh9=>gB trivial);refine gZ (λ(s9:Int)=>True) (λk10 T=>?_) (λs9 hs11=>?_)
 refine gZ (λ(g:Int)=>True) (λk13 U=>?_) (λg hs13=>gG (λh15=>aak ae (λx16 h16=>T _ trivial)) (λh15=>T _ trivial));refine wK ae ae (λj15 h14=>?_)
 split
 exact U _ trivial
 exact U _ trivial
 exact U _ trivial
 exact U _ trivial
 exact U _ trivial
 have h17:iI J.2 1=J.2+1:=kC ah ah;exact hk8 _ ⟨ae,ae⟩ ae
theorem yT (mask:Int)(key:Int)  : Ok (λr=>True) (tu mask key):=by
 unfold tu;exact gB trivial
theorem YW (s:ByteArray)(J:Hr s):Ok (λr=>True) (Pn s):=by
 have z1:s.size<=1048576:=J;unfold Pn;refine gZ (λ_=>True) (λk2 hk=>?_) (λT _=>?_)
 refine gG (λh0=>hk _ trivial) λh0=>gG (λh1=>hk _ trivial) λh1=>?_;refine BK ah ah λx4 _=>gG (λ_=>hk _ trivial) λ_=>?_;refine BK ah ah λx5 _=>gG (λ_=>hk _ trivial) λ_=>?_;have e:pF (s.size:Int) 1=(s.size:Int)-1:=xX ah ah;rw[e];refine BK ah ah λx6 _=>gG (λ_=>hk _ trivial) λ_=>?_
 have:strings_Contains s (bs [45,45])=some (Lib.contains s.data.toList (bs [45,45]).data.toList):=by
  unfold strings_Contains afo;rw[if_pos ah]
 rw[this];exact hk _ trivial
 refine gK (λ_=>gB trivial) λ_=>oh λI hx=>?_;have hl:I.length<=1048576:=by rw[hx];simpa [WO] using z1
 refine jg (λ(T:Int)=>0<=T/\T<=(I.length:Int)) (λ(T:Int)=>((I.length:Int)-T).toNat) ⟨by omega,by omega⟩ (by show _<18446744073709551616;omega) (λC k10 g hk=>?_);obtain⟨i0,i1⟩:=g;unfold NG;refine gG (λh3=>?_) λ_=>gB trivial;simp only[ik] at h3;refine lT i0 ah λx12 _=>gZ (λ_=>True) (λk14 U=>?_) λs13 _=>?_
 refine gG (λ_=>gG (λ_=>U _ trivial) λ_=>gG (λ_=>U _ trivial) λ_=>U _ trivial) λ_=>gG (λ_=>gG (λ_=>U _ trivial) λ_=>gG (λ_=>U _ trivial) λ_=>U _ trivial) λ_=>U _ trivial
 refine gK (λ_=>gB trivial) λ_=>?_;have e:iI C 1=C+1:=kC ah ah;rw[e];exact hk _ ⟨by omega,by omega⟩ ah
theorem NL (i:Int)(U:0<=i)(T:i<2):Ok (λr=>True) (uF i):=by
 unfold uF;refine wK ae ae (λj1 h1=>?_)
 split
 exact fP
 exact fP
theorem PN (s:ByteArray)(n:Int)(name:Int->Option ByteArray)(hn:0<=n/\n<=60)(T:∀ i,0<=i->i<n->Ok (λ_=>True) (name i)):Ok (λr=>True) (Iu s n name):=by
 unfold Iu;refine jg (λ(U:Int)=>0<=U/\U<=n) (λ(U:Int)=>(n-U).toNat) ⟨by omega,by omega⟩ (by show _<18446744073709551616;omega) (λU k2 I hk=>?_);obtain⟨i0,g⟩:=I;unfold Rn;refine gG (λJ=>?_) λ_=>gB trivial;refine gJ (T U i0 J) λy4 _=>gK (λ_=>?_) λ_=>?_
 have e:iI U 1=U+1:=kC ah ah;rw[e];exact hk _ ⟨by omega,by omega⟩ ah
 exact aak i0 λC _=>gB trivial
theorem PO (i:Int)(U:0<=i)(T:i<6):Ok (λr=>True) (wE i):=by
 unfold wE;refine wK ae ae (λj1 h1=>?_)
 split
 exact fP
 exact fP
 exact fP
 exact fP
 exact fP
 exact fP
theorem Bc (s:ByteArray)(U:Hr s):Ok (λr=>True) (yZ s):=by
 unfold yZ;exact gJ (YW _ az) (λI h2=>gK (λT=>gJ (PN s 2 uF ah (λi h0 h1=>NL i h0 h1)) (λJ C=>gG (λh5=>gJ (PN s 6 wE ah (λi h0 h1=>PO i h0 h1)) (λy3 g=>gB trivial)) (λh5=>gB trivial))) (λT=>gB trivial))
theorem kU (n:Int)(most:Int)  : Ok (λr=>True) (lJ n most):=by
 unfold lJ;exact gG (λh1=>gB trivial) (λh1=>gB trivial)
theorem zi (b:vI)  : Ok (λr=>True) (uG b):=by
 unfold uG;exact gJ (kU _ _ ) (λI h1=>gK (λh2=>gJ (kU _ _ ) (λT J=>gK (λU=>lN (λh5=>gB trivial) (λh5=>gB trivial)) (λU=>gB trivial))) (λh2=>gB trivial))
theorem MI (f:kD)(zz_f:mF f):Ok (λr=>True) (Iw f):=by
 unfold Iw;refine gZ (λ(s1:Bool)=>True) (λk2 U=>gJ (kU _ _ ) (λy4 h4=>gK (λh5=>U _ trivial) (λh5=>gJ (kU _ _ ) (λy5 h6=>gK (λh7=>U _ trivial) (λh7=>gJ (kU _ _ ) (λy6 h8=>gK (λh9=>U _ trivial) (λh9=>gJ (kU _ _ ) (λy7 h10=>gK (λh11=>U _ trivial) (λh11=>gJ (kU _ _ ) (λy8 h12=>U _ trivial)))))))))) (λs1 hs3=>?_);refine gK (λh13=>gB trivial) (λh13=>?_);refine gZ (λ(s9:Bool)=>s9=false->(nK .and .i64 f.types f.jH)=0) (λk10 T=>gJ (kU _ _ ) (λy12 h16=>gK (λh17=>T _ af) (λh17=>gJ (kU _ _ ) (λy13 h18=>gK (λh19=>T _ af) (λh19=>T _ af))))) (λs9 hs15=>?_);refine gK (λh20=>gB trivial) (λh20=>?_);have hf21:=hs15 h20;refine gZ (λ(C:Bool)=>C=false->(nK .and .i64 f.kz f.jl)=0) (λk15 J=>gJ (kU _ _ ) (λy17 h24=>gK (λh25=>J _ af) (λh25=>gJ (kU _ _ ) (λy18 h26=>gK (λh27=>J _ af) (λh27=>J _ af))))) (λC hs23=>?_);refine gK (λg=>gB trivial) (λg=>?_);have hf29:=hs23 g
 exact gZ (λ(s19:Bool)=>True) (λk20 I=>gK (λh32=>gJ (Bc _ az) (λy22 h33=>I _ trivial)) (λh32=>I _ trivial)) (λs19 hs31=>gK (λh34=>gB trivial) (λh34=>gJ (zi _ ) (λy23 h35=>gK (λh36=>gJ (zi _ ) (λy24 h37=>gK (λh38=>gJ (zi _ ) (λy25 h39=>gB trivial)) (λh38=>gB trivial))) (λh36=>gB trivial))))
theorem nY (U:Int)(T:Int)(J:Int)  : Ok (λr=>True) (nU U T J):=by
 unfold nU;exact gG (λh1=>gB trivial) (λh1=>lN (λh2=>gB trivial) (λh2=>gB trivial))
theorem MJ (b:vI)(n:Int)  : Ok (λr=>True) (Iy b n):=by
 unfold Iy;exact gG (λh1=>gB trivial) (λh1=>gG (λh2=>gB trivial) (λh2=>gG (λU=>gB trivial) (λU=>gG (λT=>gB trivial) (λT=>gB trivial))))
theorem FP (b:vI)(n:Int)(c2:Bool)  : Ok (λr=>True) (xu b n c2):=by
 unfold xu;exact gG (λh1=>gB trivial) (λh1=>gK (λh2=>gJ (MJ _ _ ) (λT U=>gB trivial)) (λh2=>gB trivial))
theorem IC (s:List ByteArray)(v:ByteArray)(U:(rM Hr) s)(J:Hr v):Ok (λr=>True) (slices_Index_string s v):=by
 unfold slices_Index_string;have z1:s.length<=1048576:=(U).1;have z2:∀ y∈s,Hr y:=(U).2;have z3:v.size<=1048576:=J;refine jg (λ(T:Int)=>0<=T/\T<=(s.length:Int)) (λ(T:Int)=>((s.length:Int)-T).toNat) ⟨ae,ae⟩ aj (λT k2 I g=>?_);obtain⟨hI4_0,hI4_1⟩:=I;unfold Ai;apply gG<;>intro h6
 (try simp only[ik] at h6)
 refine lT ae ae (λC h7=>?_);have z8:Hr C:=z2 C h7;have z9:C.size<=1048576:=z8;refine gK (λh10=>gB trivial) (λh10=>?_);have h11:iI T 1=T+1:=kC ah ah;exact g _ ⟨ae,ae⟩ ae
 (try simp only[ik] at h6)
 exact gB trivial
theorem FQ (s:List ByteArray)(v:ByteArray)(T:(rM Hr) s)(U:Hr v):Ok (λr=>True) (slices_Contains_string s v):=by
 unfold slices_Contains_string;exact gJ (IC _ _ bY az) (λJ I=>gB trivial)
theorem wo (l:zt)(sub:ByteArray)(T:zM l)(U:Hr sub):Ok (λr=>True) (ve l sub):=by
 unfold ve;exact gJ (FQ _ _ bY az) (λJ I=>gB trivial)
theorem oM (n:Int)  : Ok (λr=>-1000000<=r/\r<=1000000) (oI n):=by
 unfold oI;exact gB ah
theorem YX (a:Int)(b:Int)  : Ok (λr=>True) (Sr a b):=by
 unfold Sr;exact gJ (oM _ ) (λJ h1=>gJ (oM _ ) (λU h2=>gJ (oM _ ) (λy3 T=>gB trivial)))
theorem Dn (a:Int)(b:Int)  : Ok (λr=>True) (Cf a b):=by
 unfold Cf;exact gJ (oM _ ) (λJ h1=>gJ (oM _ ) (λU h2=>gJ (oM _ ) (λy3 T=>gB trivial)))
theorem Uz (c:rG)(x:Int)  : Ok (λr=>True) (Jm c x):=by
 unfold Jm;refine gJ (Rq _ ) (λy1 h1=>?_);refine gK (λh2=>gB trivial) (λh2=>?_);refine jg (λ(T:Int×Int)=>0<=T.2/\T.2<=5) (λ(T:Int×Int)=>(5-T.2).toNat) ⟨ae,ae⟩ aj (λT k3 C hk4=>?_);obtain⟨J,I⟩:=C;unfold Md;refine gG (λh5=>?_) (λh5=>gJ (YX _ _ ) (λy9 h10=>gJ (Dn _ _ ) (λg h11=>gB trivial)));refine gZ (λ(s5:Int)=>True) (λk6 U=>?_) (λs5 hs7=>?_)
 refine wK ae ae (λj8 h8=>?_)
 split
 exact U _ trivial
 exact U _ trivial
 exact U _ trivial
 exact U _ trivial
 exact U _ trivial
 have h9:iI T.2 1=T.2+1:=kC ah ah;exact hk4 _ ⟨ae,ae⟩ ae
theorem xI (o:iy)(t:gX)(you:Int)(source:Int)(f:kD)(T:oJ t)(zz_f:mF f):Ok (λr=>True) (og o t you source f):=by
 unfold og;have z1:t.name.size<=1048576:=(T).1;have z2:zM (t.line):=(T).2.1;have z3:t.line.subs.length<=1048576:=(((T).2.1)).1;have z5:t.gQ.length<=1048576:=((T).2.2).1;have z7:f.sub.size<=1048576:=(zz_f);refine gZ (λ(s1:Bool)=>s1=false->o.jB=f.jB) (λk2 hk8=>gJ (MI _ ay) (λy4 h10=>gK (λh11=>hk8 _ af) (λh11=>hk8 _ af))) (λs1 hs9=>?_);refine gK (λh12=>gB trivial) (λh12=>?_);have hf13:=hs9 h12
 exact gZ (λ(s5:Unit)=>True) (λk6 U=>gZ (λ(s8:Bool)=>True) (λk9 hk16=>gG (λh18=>hk16 _ trivial) (λh18=>hk16 _ trivial)) (λs8 hs17=>gK (λh19=>gB trivial) (λh19=>gG (λh20=>gG (λh21=>gB trivial) (λh21=>gZ (λ(s11:Bool)=>True) (λk12 I=>gG (λh24=>I _ trivial) (λh24=>I _ trivial)) (λs11 hs23=>gK (λh25=>gB trivial) (λh25=>gG (λh26=>gG (λh27=>gB trivial) (λh27=>gJ (nY _ _ _ ) (λy14 h28=>gK (λh29=>gB trivial) (λh29=>gJ (nY _ _ _ ) (λy15 h30=>gK (λh31=>gB trivial) (λh31=>gZ (λ(s16:Bool)=>True) (λk17 hk32=>gK (λh34=>gJ (wo _ _ aQ az) (λy19 h35=>hk32 _ trivial)) (λh34=>hk32 _ trivial)) (λs16 hs33=>gK (λh36=>gB trivial) (λh36=>gJ (yT _ _ ) (λy20 h37=>gK (λh38=>gB trivial) (λh38=>gZ (λ(s21:Bool)=>True) (λk22 J=>gG (λh41=>J _ trivial) (λh41=>J _ trivial)) (λs21 hs40=>gK (λh42=>gB trivial) (λh42=>gG (λh43=>gK (λh44=>gB trivial) (λh44=>U _ trivial)) (λh43=>U _ trivial))))))))))))) (λh26=>gJ (nY _ _ _ ) (λy24 h45=>gK (λh46=>gB trivial) (λh46=>gJ (nY _ _ _ ) (λy25 h47=>gK (λh48=>gB trivial) (λh48=>gZ (λ(s26:Bool)=>True) (λk27 hk49=>gK (λh51=>gJ (wo _ _ aQ az) (λy29 h52=>hk49 _ trivial)) (λh51=>hk49 _ trivial)) (λs26 hs50=>gK (λh53=>gB trivial) (λh53=>gJ (yT _ _ ) (λy30 h54=>gK (λh55=>gB trivial) (λh55=>gZ (λ(s31:Bool)=>True) (λk32 hk56=>gG (λh58=>hk56 _ trivial) (λh58=>hk56 _ trivial)) (λs31 hs57=>gK (λh59=>gB trivial) (λh59=>gG (λh60=>gK (λh61=>gB trivial) (λh61=>U _ trivial)) (λh60=>U _ trivial)))))))))))))))) (λh20=>gZ (λ(s34:Bool)=>True) (λk35 hk62=>gG (λh64=>hk62 _ trivial) (λh64=>hk62 _ trivial)) (λs34 hs63=>gK (λh65=>gB trivial) (λh65=>gG (λh66=>gG (λh67=>gB trivial) (λh67=>gJ (nY _ _ _ ) (λy37 h68=>gK (λh69=>gB trivial) (λh69=>gJ (nY _ _ _ ) (λy38 h70=>gK (λh71=>gB trivial) (λh71=>gZ (λ(s39:Bool)=>True) (λk40 C=>gK (λh74=>gJ (wo _ _ aQ az) (λy42 h75=>C _ trivial)) (λh74=>C _ trivial)) (λs39 hs73=>gK (λh76=>gB trivial) (λh76=>gJ (yT _ _ ) (λy43 h77=>gK (λh78=>gB trivial) (λh78=>gZ (λ(s44:Bool)=>True) (λk45 hk79=>gG (λh81=>hk79 _ trivial) (λh81=>hk79 _ trivial)) (λs44 hs80=>gK (λh82=>gB trivial) (λh82=>gG (λh83=>gK (λh84=>gB trivial) (λh84=>U _ trivial)) (λh83=>U _ trivial))))))))))))) (λh66=>gJ (nY _ _ _ ) (λy47 h85=>gK (λh86=>gB trivial) (λh86=>gJ (nY _ _ _ ) (λy48 h87=>gK (λh88=>gB trivial) (λh88=>gZ (λ(s49:Bool)=>True) (λk50 g=>gK (λh91=>gJ (wo _ _ aQ az) (λy52 h92=>g _ trivial)) (λh91=>g _ trivial)) (λs49 hs90=>gK (λh93=>gB trivial) (λh93=>gJ (yT _ _ ) (λy53 h94=>gK (λh95=>gB trivial) (λh95=>gZ (λ(s54:Bool)=>True) (λk55 hk96=>gG (λh98=>hk96 _ trivial) (λh98=>hk96 _ trivial)) (λs54 hs97=>gK (λh99=>gB trivial) (λh99=>gG (λh100=>gK (λh101=>gB trivial) (λh101=>U _ trivial)) (λh100=>U _ trivial)))))))))))))))))) (λs5 hs15=>gJ (FP _ _ _ ) (λy57 h102=>gK (λh103=>gJ (FP _ _ _ ) (λy58 h104=>gK (λh105=>gJ (Uz _ _ ) (λy59 h106=>gJ (MJ _ _ ) (λy60 h107=>gB trivial))) (λh105=>gB trivial))) (λh103=>gB trivial)))
theorem YY (a:Int)(b:Int)  : Ok (λr=>True) (Jn a b):=by
 unfold Jn;exact gJ (oM _ ) (λJ h1=>gJ (oM _ ) (λU h2=>gJ (oM _ ) (λy3 T=>gB trivial)))
theorem PQ (c:Oy Int)  : Ok (λr=>True) (Ci c):=by
 unfold Ci;exact gJ (YY _ _ ) (λU h1=>gB trivial)
theorem yH (kind:Int)  : Ok (λr=>True) (zA kind):=by
 unfold zA;exact gG (λh1=>gB trivial) (λh1=>gG (λh2=>gB trivial) (λh2=>gG (λg=>gB trivial) (λg=>gG (λh4=>gB trivial) (λh4=>gG (λh5=>gB trivial) (λh5=>gG (λh6=>gB trivial) (λh6=>gG (λh7=>gB trivial) (λh7=>gG (λC=>gB trivial) (λC=>gG (λh9=>gB trivial) (λh9=>gG (λh10=>gB trivial) (λh10=>gG (λU=>gB trivial) (λU=>gG (λT=>gB trivial) (λT=>gG (λI=>gB trivial) (λI=>gG (λJ=>gB trivial) (λJ=>gB trivial))))))))))))))
theorem GL (x:Int)  : Ok (λr=>True) (cmp_isNaN_int x):=by
 unfold cmp_isNaN_int;exact gB trivial
theorem LV (x:Int)(y:Int)  : Ok (λr=>True) (cmp_Compare_int x y):=by
 unfold cmp_Compare_int;exact gJ (GL _ ) (λC h1=>gJ (GL _ ) (λI h2=>gK (λU=>gK (λT=>gB trivial) (λT=>gB trivial)) (λU=>gK (λh5=>gB trivial) (λh5=>gG (λJ=>gB trivial) (λJ=>gG (λh7=>gB trivial) (λh7=>gB trivial))))))
theorem GN (o:iy)(id:Int)  : Ok (λr=>True) (wF o id):=by
 unfold wF;exact gJ (LV _ _ ) (λU h1=>gB trivial)
theorem sG (n:Int)(least:Int)(most:Int)  : Ok (λr=>True) (Aw n least most):=by
 unfold Aw;exact gG (λh1=>gB trivial) (λh1=>gB trivial)
theorem XM (m:nC)(C:wS m):Ok (λr=>True) (Pq m):=by
 unfold Pq;exact gG (λh4=>gB trivial) (λh4=>gG (λh5=>gB trivial) (λh5=>gG (λh6=>gB trivial) (λh6=>gG (λh7=>gB trivial) (λh7=>gG (λg=>gB trivial) (λg=>gG (λh9=>gB trivial) (λh9=>gG (λh10=>gB trivial) (λh10=>gG (λU=>gB trivial) (λU=>gG (λT=>gB trivial) (λT=>gG (λI=>gB trivial) (λI=>gG (λJ=>gB trivial) (λJ=>gB trivial)))))))))))
theorem aar (m:nC)(U:wS m):Ok (λr=>True) (Xm m):=by
 unfold Xm;have z1:m.sub.size<=1048576:=(U).1;have z3:m.filter.sub.size<=1048576:=((U).2)
 exact gZ (λ(s1:Bool)=>True) (λk2 hk4=>gJ (sG _ _ _ ) (λy4 h6=>gK (λh7=>hk4 _ trivial) (λh7=>gJ (XM _ bu) (λy5 h8=>oh (λv6 h9=>hk4 _ trivial))))) (λs1 hs5=>gK (λh10=>gB trivial) (λh10=>gG (λh11=>gJ (sG _ _ _ ) (λy7 h12=>gK (λh13=>gB trivial) (λh13=>gB trivial))) (λh11=>gG (λh14=>gJ (sG _ _ _ ) (λy8 h15=>gK (λI=>gB trivial) (λI=>gB trivial))) (λh14=>gG (λh17=>gJ (Bc _ az) (λy9 h18=>gB trivial)) (λh17=>gG (λC=>gJ (Bc _ az) (λy10 h20=>gB trivial)) (λC=>gG (λh21=>gJ (sG _ _ _ ) (λy11 h22=>gB trivial)) (λh21=>gG (λT=>gJ (sG _ _ _ ) (λy12 h24=>gB trivial)) (λT=>gG (λh25=>gJ (sG _ _ _ ) (λy13 h26=>gB trivial)) (λh25=>gG (λh27=>gJ (sG _ _ _ ) (λy14 h28=>gB trivial)) (λh27=>gG (λh29=>gJ (MI _ ay) (λy15 h30=>gB trivial)) (λh29=>gG (λh31=>gJ (sG _ _ _ ) (λy16 h32=>gK (λJ=>gJ (sG _ _ _ ) (λy17 h34=>gB trivial)) (λJ=>gB trivial))) (λh31=>gG (λh35=>gJ (sG _ _ _ ) (λy18 h36=>gK (λg=>gJ (sG _ _ _ ) (λy19 h38=>gB trivial)) (λg=>gB trivial))) (λh35=>gB trivial)))))))))))))
theorem DR (f:kD)(stage:Int)(J:mF f):Ok (λr=>True) (vX f stage):=by
 unfold vX;exact gZ (λ(T:Bool)=>T=false->f.ji.kind=0/\f.power.kind=0) (λk2 U=>lN (λg=>U _ af) (λg=>U _ af)) (λT hs3=>gG (λh5=>gB trivial) (λh5=>gG (λh6=>lN (λh7=>gB trivial) (λh7=>gK (λI=>gB trivial) (λI=>gB trivial))) (λh6=>gG (λC=>gB trivial) (λC=>gG (λh10=>gB trivial) (λh10=>gB trivial)))))
theorem wR {α:Type}{l:List α}{b:Nat}(h:(2*l.length+192)*b<=140737488355328)(h2:l.length<=4611686018427387904):rQ (some ([]:List α)) (kT (0+l.length) b (some l))=some l :=
 ok_eq (GH (ku (by rw[Nat.zero_add];exact h) ah (gB rfl)))
theorem set_self {α:Type}{l:List α}{j:Nat}(h:j<l.length){x:α}(e:l[j]=x):l.set j x=l:=by subst e;exact List.set_getElem_self h
theorem aas (t:gX)(h:oJ t):Fp t=some t:=by
 obtain⟨_,h2,I⟩:=h;have q2:=h2.1;have C:=I.1;unfold Fp;refine ok_eq (iq bg (iq (by unfold xA;exact wR aA aA) ?_));refine kN 0 t.gQ.length (λn l=>l=t.gQ) 0 rfl (Nat.zero_le _) ah rfl (λi l k hi T hk=>?_) λl k T=>?_
 subst T;obtain⟨_,g1,_,g2,g3,_⟩:=I.2 _ (List.getElem_mem hi);have p1:=g1.1;have p2:=g2.1;have p3:=g3.1;unfold CE;refine gG (λ_=>jd i rfl hi (iV hi ?_)) λh=>absurd (show (i:Int)<(t.gQ.length:Int) by omega) h;refine iq aN (iq bz (iq (by unfold vN;exact wR aA aA) ?_));refine kN 0 (t.gQ[i]).jX.length (λn l=>l=(t.gQ[i]).jX) 0 rfl (Nat.zero_le _) ah rfl (λj l2 k2 hj J U=>?_) λl2 k2 J=>?_
 subst J;have g:=(g3.2 _ (List.getElem_mem hj)).2.2.2.2.1;unfold CB;refine gG (λ_=>jd j rfl hj (iV hj (iq aN (jd j rfl hj (iV hj (U _ ?_)))))) λh=>absurd (show (j:Int)<((t.gQ[i]).jX.length:Int) by omega) h;exact set_self hj rfl
 subst J;unfold CB;refine gG (λh=>absurd h (by show ¬ ((t.gQ[i]).jX.length:Int)<((t.gQ[i]).jX.length:Int);omega)) λ_=>hk _ ?_;exact set_self hi rfl
 subst T;unfold CE;exact gG (λh=>absurd h dP) λ_=>gB rfl
theorem acg (a:iG)(h:lL a):uH a=some a:=by
 obtain⟨_,g1,_,g2,g3,_⟩:=h;have p1:=g1.1;have p2:=g2.1;have p3:=g3.1;unfold uH;refine ok_eq (iq aN (iq bz (iq bK ?_)));refine kN 0 a.jX.length (λn l=>l=a.jX) 0 rfl (Nat.zero_le _) ah rfl (λj l2 k2 hj T U=>?_) λl2 k2 T=>?_
 subst T;have J:=(g3.2 _ (List.getElem_mem hj)).2.2.2.2.1;unfold um;refine gG (λ_=>jd j rfl hj (iV hj (iq aN (jd j rfl hj (iV hj (U _ ?_)))))) λh=>absurd (show (j:Int)<(a.jX.length:Int) by omega) h;exact set_self hj rfl
 subst T;unfold um;exact gG (λh=>absurd h bQ) λ_=>gB rfl
structure agL (c:jc)(t:gX):Prop where
 name:t.name=c.name
 line:t.line=c.line
 keys:t.keys=c.keys
 ach:t.gQ=c.gQ
 power:t.power=c.power
 ji:t.ji=c.ji
theorem Rt (c:jc)(h:mG c):Ok (agL c) (Ap c):=by
 obtain⟨h1,h2,T⟩:=h;have C:=T.1;have q2:=h2.1;unfold Ap;refine gJ (RH c.cost) λI _=>iq bg ?_;refine kN 0 c.gQ.length (λn t=>t=c.gQ.take n) 0 rfl (Nat.zero_le _) ah rfl (λi t k hi U hk=>?_) λt k U=>?_
 have J:t.length<=1048576:=by rw[U,List.length_take];omega
 unfold yK;refine gG (λ_=>je i rfl hi (iq (acg _ (T.2 _ (List.getElem_mem hi))) (ku (by show (2*(t.length+1)+192)*640<=_;omega) bM (hk _ ?_)))) λh=>absurd (show (i:Int)<(c.gQ.length:Int) by omega) h;show t++[c.gQ[i]]=_;rw[kQ _ i hi,U]
 unfold yK;rw[sF] at U;refine gG (λh=>absurd h cu) λ_=>gB ⟨rfl,rfl,rfl,U,rfl,rfl⟩
theorem afr:oJ xm:=by simp[oJ,zM,Hr,rM,xm,Xa,oz]
theorem YZ (U:List jc)(o:iy)(hc:rM mG U)(hv:∀ c∈U,c.gQ.length<=8):Ok (λt=>oJ t/\t.gQ.length<=8) (En U o):=by
 unfold En;refine gZ (λ_=>True) (λk hk=>gG (λ_=>hk _ trivial) λ_=>hk _ trivial) λi _=>?_;refine gZ (λt=>oJ t/\t.gQ.length<=8) (λk hk=>?_) λt ht=>?_
 refine gZ (λb=>b=true->0<=i/\i<ik U) (λk8 I=>gG (λh=>I _ λh2=>⟨h,of_decide_eq_true h2⟩) λ_=>I _ λh=>by cases h) λb hb=>?_;refine gK (λh=>?_) λ_=>hk _ ⟨afr,by show (0:Nat)<=8;omega⟩;obtain⟨g1,g2⟩:=hb h;simp only[ik] at g2;refine lT g1 g2 λc T=>gJ (Rt c (hc.2 c T)) λt ht=>hk t ?_;have J:=hc.2 c T;exact⟨⟨by rw[ht.name];exact J.1,by rw[ht.line];exact J.2.1,by rw[ht.ach];exact J.2.2⟩,by rw[ht.ach];exact hv c T⟩
 exact gG (λ_=>gB ht) λ_=>gG (λ_=>gB ht) λ_=>gB ht
theorem aat (s:List ByteArray)(f:ByteArray->Option Bool)(hs:s.length<=2000000)(O:∀ x∈s,∃ b,f x=some b):Ok (λr=>r<=(s.length:Int)) (qG s f):=by
 unfold qG;refine qi 0 s.length (λ_=>True) 0 rfl (Nat.zero_le _) ah trivial (λi k hi _ hk=>?_) λk _=>?_
 obtain⟨b,hb⟩:=O _ (List.getElem_mem hi);unfold rZ;exact gG (λ_=>je i rfl hi (iq hb (gK (λ_=>gB (by show (i:Int)<=(s.length:Int);omega)) λ_=>hk trivial))) λh=>absurd (show (i:Int)<(s.length:Int) by omega) h
 unfold rZ;exact gG (λh=>absurd h dM) λ_=>gB (by show (-1:Int)<=_;omega)
theorem aau (l:zt)(sub:ByteArray)(hl:zM l)(hs:Hr sub):Ok zM (Dh l sub):=by
 have q:=hl.1;unfold Dh;refine iq bg (gZ (λb=>b=false->ik l.subs<4) (λk hk=>?_) λb hb=>?_)
 refine gJ (Bc sub hs) λ_ _=>gK (λ_=>hk _ λh=>by cases h) λ_=>gJ (wo _ sub hl hs) λ_ _=>gK (λ_=>hk _ λh=>by cases h) λ_=>hk _ λh=>?_;have:=of_decide_eq_false h;omega
 refine gK (λ_=>gB hl) λh=>?_;have U:=hb h;simp only[ik] at U;refine gJ (aat l.subs _ ah λx hx=>?_) λy hy=>gZ (λi=>0<=i/\i<=(l.subs.length:Int)) (λk hk=>gG (λ_=>hk _ ⟨by simp only[ik];omega,by simp only[ik];omega⟩) λh=>hk _ ⟨by omega,by omega⟩) λi hi=>?_
 exact⟨_,rfl⟩
 obtain⟨n,rfl⟩:=Int.eq_ofNat_of_zero_le hi.1;refine iq (ab8 ah aS bI) (gB ⟨?_,λx hx=>?_⟩)
 simp;omega
 rcases List.mem_append.1 hx with hx|hx
 rcases List.mem_append.1 hx with hx|hx
 exact hl.2 x (List.mem_of_mem_take hx)
 rw[List.mem_singleton.1 hx];exact hs
 exact hl.2 x (List.mem_of_mem_drop hx)
theorem ahQ (x:List iy)(id:Int)(hx:x.length<=2000000):Ok (λr=>0<=r.1/\(r.2=true->r.1<(x.length:Int))) (pq x id wF):=by
 unfold pq;refine jg (λs=>∃ i j:Nat,s.1=(i:Int)/\s.2=(j:Int)/\i<=j/\j<=x.length) (λs=>(s.2-s.1).toNat) ⟨0,x.length,rfl,rfl,Nat.zero_le _,Nat.le_refl _⟩ (by show ((x.length:Int)-0).toNat<18446744073709551616;omega) ?_
 rintro⟨a,b⟩ k ⟨i,j,e1,J,C,hj⟩ hk
 simp only at e1 J;subst e1 J;unfold uN;refine gG (λh=>?_) λh=>gG (λh2=>?_) λh2=>?_
 have T:i<j:=by simpa using h
 have hs:lu .shr .u64 (IntKind.wrap .u64 (iI (i:Int) (j:Int))) 1=some (((i+j) / 2:Nat):Int):=by
  have e:iI (i:Int) (j:Int)=((i+j:Nat):Int):=by
   show IntKind.i64.wrap _=_;rw[show ((i:Int)+(j:Int))=((i+j:Nat):Int) by omega];exact wrap_in ah ah
  rw[e];have J:IntKind.wrap .u64 ((i+j:Nat):Int)=((i+j:Nat):Int):=by rw[IntKind.wrap_u64];omega
  rw[J];show some (Int.fdiv ((i+j:Nat):Int) (2 ^ (min (1:Int).toNat 64)))=_;rw[show (2:Int) ^ (min (1:Int).toNat 64)=((2:Nat):Int) by decide,Int.ofNat_fdiv]
 refine iq hs ?_;have g:(i+j) / 2<j:=by omega
 have U:i<=(i+j) / 2:=by omega
 generalize (i+j) / 2=m at g U;have I:IntKind.wrap .i64 (m:Int)=(m:Int):=wrap_in ah ah;rw[I];refine je m rfl ah (gJ (GN _ _) λy _=>gG (λ_=>hk _ ⟨m+1,j,lW ah,rfl,by omega,hj⟩ ?_) λ_=>hk _ ⟨i,m,rfl,rfl,U,by omega⟩ ?_)
 show ((j:Int)-iI (m:Int) 1).toNat<((j:Int)-(i:Int)).toNat;rw[lW ah];omega
 show ((m:Int)-(i:Int)).toNat<((j:Int)-(i:Int)).toNat;omega
 have T:i<x.length:=by simpa [ik] using h2
 exact je i rfl T (gJ (GN _ _) λy _=>gB ⟨by show (0:Int)<=(i:Int);omega,λ_=>by show (i:Int)<(x.length:Int);omega⟩)
 exact gB ⟨by show (0:Int)<=(i:Int);omega,λh=>by cases h⟩
theorem aci (s:gW)(id:Int)(hs:kZ s):Ok (λr=>-1<=r/\r<(s.objects.length:Int)) (vg s id):=by
 have ho:=hs.2.1.1;unfold vg;refine gJ (ahQ _ _ ah) λy hy=>gK (λ_=>gB ⟨by omega,by omega⟩) λh=>gB ⟨by omega,hy.2 ?_⟩
 cases hb:y.2 with
 | true=>rfl
 | false=>rw[hb] at h;cases h
theorem VR (a b:List Int)(U:a.length<=2000000):Ok (λ_=>True) (slices_Equal_int a b):=by
 unfold slices_Equal_int;refine lN (λ_=>gB trivial) λh=>?_;simp only[ik] at h;refine qi 0 a.length (λ_=>True) 0 rfl (Nat.zero_le _) ah trivial (λi k hi _ hk=>?_) λk _=>?_
 unfold yw;exact gG (λ_=>je i rfl hi (je i rfl ah (lN (λ_=>gB trivial) λ_=>hk trivial))) λh=>absurd (show (i:Int)<(a.length:Int) by omega) h
 unfold yw;exact gG (λh=>absurd h (by show ¬ (a.length:Int)<(a.length:Int);omega)) λ_=>gB trivial
theorem acj (t:gX)(m:nC)(you count:Int)(ht:oJ t)(T:wS m):Ok (λr=>oJ r/\(r.gQ=[]\/r.gQ=t.gQ)) (LJ t m you count):=by
 have nil:oJ { t with keys:=0,gQ:=[] }:=⟨ht.1,ht.2.1,⟨by simp,by simp⟩⟩;have U:oJ { t with line:={ t.line with subs:=[m.sub] } }:=⟨ht.1,⟨by simp,λx hx=>by rw[List.mem_singleton.1 hx];exact T.1⟩,ht.2.2⟩;unfold LJ;refine iq (aas t ht) (gJ (aar m T) λy _=>gK (λ_=>gB ⟨ht,.inr rfl⟩) λ_=>?_)
 exact gG (λ_=>gB ⟨ht,.inr rfl⟩) λ_=>gG (λ_=>gB ⟨ht,.inr rfl⟩) λ_=>gG (λ_=>gB ⟨ht,.inr rfl⟩) λ_=>gG (λ_=>gB ⟨U,.inr rfl⟩) λ_ =>
  gG (λ_=>gJ (aau _ _ ht.2.1 T.1) λl hl=>gB ⟨⟨ht.1,hl,ht.2.2⟩,.inr rfl⟩) λ_=>gG (λ_=>gB ⟨ht,.inr rfl⟩) λ_=>gG (λ_=>gB ⟨ht,.inr rfl⟩) λ_=>gG (λ_=>gB ⟨ht,.inr rfl⟩) λ_=>gG (λ_=>gB ⟨ht,.inr rfl⟩) λ_ =>
  gG (λ_=>gB ⟨nil,.inl rfl⟩) λ_=>gG (λ_=>gJ (oM _) λ_ _=>gJ (oM _) λ_ _=>gB ⟨ht,.inr rfl⟩) λ_=>gG (λ_=>gB ⟨ht,.inr rfl⟩) λ_ =>
  gG (λ_=>gJ (Dn _ _) λ_ _=>gJ (Dn _ _) λ_ _=>gB ⟨ht,.inr rfl⟩) λ_=>gG (λ_=>gB ⟨ht,.inr rfl⟩) λ_=>gB ⟨ht,.inr rfl⟩
structure TrA (B:Nat->List iG)(l:List gX):Prop where
 sz:∀ x∈l,oJ x
 ab:∀ i t,l[i]?=some t->t.gQ=[]\/t.gQ=B i
theorem TrA.at {B:Nat->List iG}{l:List gX}(h:TrA B l){i:Nat}(hi:i<l.length):l[i].gQ=[]\/l[i].gQ=B i:=h.ab i _ (List.getElem?_eq_getElem hi)
theorem TrA.set {B:Nat->List iG}{l:List gX}(h:TrA B l){i:Nat}{y:gX}(hy:oJ y/\(y.gQ=[]\/y.gQ=B i)):TrA B (l.set i y):=⟨λx hx=>by
 rcases List.mem_or_eq_of_mem_set hx with hx|hx
 exact h.sz x hx
 rw[hx];exact hy.1,λj t ht=>by
 rw[List.getElem?_set] at ht
 split at ht
 rename_i e;subst e
 split at ht
 cases ht;exact hy.2
 cases ht
 exact h.ab j t ht⟩
def rH (f:iF):Prop:=rM (λ(_:Int)=>True) f.objects/\mF f.filter/\rM wS f.mQ
def ad4 (n:Nat)(x:List Int):Prop:=x.length<=2048/\∀ y∈x,0<=y/\y<(n:Int)
structure WLK (B:Nat->List iG)(s:gW)(L:List iF)(w:iC):Prop where
 st:w.s=s
 l:w.forces=L
 all:w.iH.length=s.objects.length
 tr:TrA B w.iH
 don:w.done.length=L.length
 hit:w.hits.length=L.length
 ad5:∀ x∈w.hits,ad4 s.objects.length x
 drp:w.dropped.length=s.objects.length
structure afs (s:gW)(L:List iF):Prop where
 hs:kZ s
 ho:s.objects.length<=2048
 len:L.length<=1100000
 f:∀ f∈L,rH f
section
variable {B:Nat->List iG}{s:gW}{L:List iF}(H:afs s L){w:iC}(W:WLK B s L w)
include H W
theorem KL {α:Type}{Q:α->Prop}{n:Nat}(hn:n<L.length){k:iF->Option α}(hk:∀ f,f=L[n]->rH f->Ok Q (k f)):Ok Q (bnd (jS w.forces (n:Int)) k):=by
 rw[W.l];exact je n rfl hn (hk _ rfl (H.f _ (List.getElem_mem hn)))
theorem LP (id:Int):Ok (λr=>-1<=r/\r<(s.objects.length:Int)) (vg w.s id):=by
 rw[W.st];exact aci s id H.hs
theorem Sz {n:Nat}(hn:n<L.length):Ok (λ_=>True) (qU w n):=by
 unfold qU;refine KL H W hn λf _ _=>gJ (LP H W _) λy hy=>gZ (λb=>b=true->0<=y) (λk hk=>?_) λb hb=>?_
 exact gK (λ_=>hk _ λh=>of_decide_eq_true h) λ_=>hk _ λh=>by cases h
 exact gK (λh=>lT (hb h) (by rw[W.all];exact hy.2) λ_ _=>gB trivial) λ_=>gB trivial
theorem aft {n:Nat}(hn:n<L.length):Ok (λ_=>True) (vM w n):=by
 unfold vM;refine KL H W hn λf _ _=>gJ (LP H W _) λy hy=>gZ (λb=>b=true->0<=y) (λk hk=>?_) λb hb=>?_
 exact gK (λ_=>hk _ λh=>of_decide_eq_true h) λ_=>hk _ λh=>by cases h
 exact gK (λh=>aaj (hb h) (by rw[W.all];exact hy.2) λj _ hj=>Xu hj λ_ _=>gB trivial) λ_=>gB trivial
theorem UA {n:Nat}(hn:n<L.length):Ok (λ_=>True) (su w n):=by
 unfold su;refine KL H W hn λf _ _=>gZ (λ_=>True) (λk hk=>?_) λb _=>?_
 exact gK (λ_=>hk _ trivial) λ_=>je n rfl dG (hk _ trivial)
 refine gK (λ_=>gB trivial) λ_=>gJ (LP H W _) λy hy=>gG (λ_=>gB trivial) λh=>?_;exact lT ah (by rw[W.drp];exact hy.2) λ_ _=>gB trivial
theorem UB {n:Nat}(hn:n<L.length):Ok (λ_=>True) (qm w n):=by
 unfold qm;refine KL H W hn λf _ _=>gZ (λ_=>True) (λk hk=>?_) λb _=>?_
 exact gK (λ_=>hk _ trivial) λ_=>jd n rfl dG (iV dG (hk _ trivial))
 refine gK (λ_=>gB trivial) λ_=>gJ (LP H W _) λy hy=>gG (λ_=>gB trivial) λh=>?_;exact aaj ah (by rw[W.drp];exact hy.2) λj _ hj=>Xu hj λ_ _=>gB trivial
theorem afu {i:Nat}(h:i<w.iH.length):oJ w.iH[i]:=W.tr.sz _ (List.getElem_mem h)
theorem abu {t:List Int}{i:Nat}(hi:i<s.objects.length)(h1:t.length<=i)(h2:∀ y∈t,0<=y/\y<(s.objects.length:Int)):(t++[(i:Int)]).length<=i+1/\∀ y∈t++[(i:Int)],0<=y/\y<(s.objects.length:Int):=by
 refine⟨by simp;omega,λy hy=>?_⟩;rcases List.mem_append.1 hy with hy|hy
 exact h2 y hy
 rw[List.mem_singleton.1 hy];omega
theorem XN {n:Nat}(hn:n<L.length):Ok (ad4 s.objects.length) (tH w n):=by
 have ho:=H.ho;unfold tH;refine je n rfl dG (gK (λ_=>?_) λ_=>?_)
 have hl:n<w.hits.length:=by rw[W.hit];exact hn
 exact je n rfl hl (gB (W.ad5 _ (List.getElem_mem hl)))
 refine gJ (UA H W hn) λ_ _=>gK (λ_=>gB ⟨Nat.zero_le _,by simp⟩) λ_=>KL H W hn λf O g=>gJ (Sz H W hn) λyou _=>?_;have J:=g.1;refine kN 0 s.objects.length (λn t=>t.length<=n/\∀ y∈t,0<=y/\y<(s.objects.length:Int)) 0 rfl (Nat.zero_le _) ah ⟨Nat.zero_le _,by simp⟩ (λi t k hi T hk=>?_) λt k T=>?_
 have C:i<w.iH.length:=by rw[W.all];exact hi
 have hx:=afu H W C;have h1:=T.1;unfold uO;rw[W.st];refine gG (λ_=>gZ (λu=>u.length<=i+1/\∀ y∈u,0<=y/\y<(s.objects.length:Int)) (λk9 I=>?_) λu hu=>hk u hu) λh=>absurd (show (i:Int)<(s.objects.length:Int) by omega) h;have no:=I t ⟨by omega,T.2⟩;refine je i rfl hi (gZ (λ_=>True) (λk13 U=>?_) λb _=>?_)
 have obj:Ok _ (bnd (jS w.iH (i:Int)) λx19=>bnd (og s.objects[i] x19 you f.source f.filter) λy21=>k13 y21) :=
  je i rfl C (gJ (xI _ _ _ _ _ hx g.2.1) λ_ _=>U _ trivial)
 refine gG (λ_=>gK (λ_=>iq (KG _ _ (by have:=J.1;omega)) (gK (λ_=>U _ trivial) λ_=>gK (λ_=>obj) λ_=>U _ trivial)) λ_=>gK (λ_=>obj) λ_=>U _ trivial) λ_=>U _ trivial
 exact gK (λ_=>ku bJ bM (I _ (abu H W hi h1 T.2))) λ_=>no
 unfold uO;rw[W.st];exact gG (λh=>absurd h aG) λ_=>gB ⟨by have:=T.1;show t.length<=2048;omega,T.2⟩
theorem PR {n:Nat}(hn:n<L.length):Ok (ad4 s.objects.length) (nO w n):=by
 have ho:=H.ho;unfold nO;refine jd n rfl dG (iV dG (gK (λ_=>?_) λ_=>?_))
 have hl:n<w.hits.length:=by rw[W.hit];exact hn
 exact jd n rfl hl (iV hl (gB (W.ad5 _ (List.getElem_mem hl))))
 refine gJ (UB H W hn) λ_ _=>gK (λ_=>gB ⟨Nat.zero_le _,by simp⟩) λ_=>KL H W hn λf O g=>gJ (Sz H W hn) λyou _=>?_;have J:=g.1;refine kN 0 s.objects.length (λn t=>t.length<=n/\∀ y∈t,0<=y/\y<(s.objects.length:Int)) 0 rfl (Nat.zero_le _) ah ⟨Nat.zero_le _,by simp⟩ (λi t k hi T hk=>?_) λt k T=>?_
 have I:i<w.iH.length:=by rw[W.all];exact hi
 have hx:=afu H W I;have h1:=T.1;unfold pM;rw[W.st];refine gG (λ_=>gZ (λu=>u.length<=i+1/\∀ y∈u,0<=y/\y<(s.objects.length:Int)) (λk9 C=>?_) λu hu=>hk u hu) λh=>absurd (show (i:Int)<(s.objects.length:Int) by omega) h;have no:=C t ⟨by omega,T.2⟩;refine je i rfl hi (gZ (λ_=>True) (λk13 U=>?_) λb _=>?_)
 have obj:Ok _ (bnd (lK w.iH.length (i:Int)) λj=>bnd (w.iH[j]?) λx19=>bnd (og s.objects[i] x19 you f.source f.filter) λy21=>k13 y21) :=
  jd i rfl I (iV I (gJ (xI _ _ _ _ _ hx g.2.1) λ_ _=>U _ trivial))
 refine gG (λ_=>gK (λ_=>iq (KG _ _ (by have:=J.1;omega)) (gK (λ_=>U _ trivial) λ_=>gK (λ_=>obj) λ_=>U _ trivial)) λ_=>gK (λ_=>obj) λ_=>U _ trivial) λ_=>U _ trivial
 exact gK (λ_=>ku bJ bM (C _ (abu H W hi h1 T.2))) λ_=>no
 unfold pM;rw[W.st];exact gG (λh=>absurd h aG) λ_=>gB ⟨by have:=T.1;show t.length<=2048;omega,T.2⟩
theorem ad6 (you source:Int)(f:kD)(O:mF f):Ok (λ_=>True) (CG w.s w.iH you source f):=by
 have ho:=H.ho;rw[W.st];unfold CG;refine kN 0 s.objects.length (λn t=>t.length<=n) 0 rfl (Nat.zero_le _) ah (Nat.zero_le _) (λi t k hi J hk=>?_) λt k J=>?_
 have T:i<w.iH.length:=by rw[W.all];exact hi
 unfold BJ;refine gG (λ_=>gZ (λu=>u.length<=i+1) (λk5 h5=>?_) λu hu=>hk u hu) λh=>absurd (show (i:Int)<(s.objects.length:Int) by omega) h;refine je i rfl hi (gZ (λp=>oJ p.2) (λI U=>?_) λp hp=>?_)
 exact gG (λ_=>je i rfl T (U _ (afu H W T))) λ_=>U _ afr
 exact gu
 unfold BJ;exact gG (λh=>absurd h aG) λ_=>gB trivial
theorem ad7 (you source:Int)(f:kD)(O:mF f):Ok (λ_=>True) (Cm w.s w.iH you source f):=by
 have ho:=H.ho;rw[W.st];unfold Cm;refine kN 0 s.objects.length (λn t=>t.length<=n) 0 rfl (Nat.zero_le _) ah (Nat.zero_le _) (λi t k hi J hk=>?_) λt k J=>?_
 have U:i<w.iH.length:=by rw[W.all];exact hi
 unfold BI;refine gG (λ_=>gZ (λu=>u.length<=i+1) (λk5 h5=>?_) λu hu=>hk u hu) λh=>absurd (show (i:Int)<(s.objects.length:Int) by omega) h;refine je i rfl hi (gZ (λp=>oJ p.2) (λI T=>?_) λp hp=>?_)
 exact gG (λ_=>jd i rfl U (iV U (T _ (afu H W U)))) λ_=>T _ afr
 exact gu
 unfold BI;exact gG (λh=>absurd h aG) λ_=>gB trivial
theorem Y4 {n:Nat}(hn:n<L.length)(stage:Int):Ok (λr=>r.length=(L[n]).mQ.length) (uq w n stage):=by
 unfold uq;refine KL H W hn λf O g=>?_;subst O;have J:=g.2.2;have hml:=J.1;generalize hM:(L[n]).mQ=ms at *;refine I5 (n:=ms.length) (by rfl) (by rfl) ah ah (Bo ?_);refine kN 0 ms.length (λ_ t=>t.length=ms.length) 0 rfl (Nat.zero_le _) ah aS (λi t k hi T hk=>?_) λt k T=>?_
 have hsz:=J.2 _ (List.getElem_mem hi);have it:i<t.length:=by omega
 unfold vO;rw[hM];refine gG (λ_=>gZ (λu=>u.length=ms.length) (λk6 I=>?_) λu hu=>hk u hu) λh=>absurd (show (i:Int)<(ms.length:Int) by omega) h;refine je i rfl hi (gZ (λ_=>True) (λC U=>?_) λx _=>?_)
 exact gG (λ_=>gJ (yH _) λ_ _=>U _ trivial) λ_=>U _ trivial
 refine gK (λ_=>gJ (Sz H W hn) λ_ _=>gJ (ad6 H W _ _ _ hsz.2) λ_ _=>jd i rfl it (iV it (I _ (by simp[T])))) λ_=>I _ T
 unfold vO;rw[hM];exact gG (λh=>absurd h dH) λ_=>gB T
theorem Ru {n:Nat}(hn:n<L.length)(stage:Int):Ok (λr=>r.length=(L[n]).mQ.length) (pO w n stage):=by
 unfold pO;refine KL H W hn λf O g=>?_;subst O;have J:=g.2.2;have hml:=J.1;generalize hM:(L[n]).mQ=ms at *;refine I5 (n:=ms.length) (by rfl) (by rfl) ah ah (Bo ?_);refine kN 0 ms.length (λ_ t=>t.length=ms.length) 0 rfl (Nat.zero_le _) ah aS (λi t k hi T hk=>?_) λt k T=>?_
 have hsz:=J.2 _ (List.getElem_mem hi);have it:i<t.length:=by omega
 unfold sS;rw[hM];refine gG (λ_=>gZ (λu=>u.length=ms.length) (λk6 I=>?_) λu hu=>hk u hu) λh=>absurd (show (i:Int)<(ms.length:Int) by omega) h;refine je i rfl hi (gZ (λ_=>True) (λC U=>?_) λx _=>?_)
 exact gG (λ_=>gJ (yH _) λ_ _=>U _ trivial) λ_=>U _ trivial
 refine gK (λ_=>gJ (Sz H W hn) λ_ _=>gJ (ad7 H W _ _ _ hsz.2) λ_ _=>jd i rfl it (iV it (I _ (by simp[T])))) λ_=>I _ T
 unfold sS;rw[hM];exact gG (λh=>absurd h dH) λ_=>gB T
theorem XO {l:List gX}{n:Nat}{i:Nat}{y:gX}(h1:l.length=n)(h2:TrA B l)(hy:oJ y/\(y.gQ=[]\/y.gQ=B i)):(l.set i y).length=n/\TrA B (l.set i y):=⟨by simp[h1],h2.set hy⟩
omit H W in
theorem afR {α:Type}{a b c:List α}(h1:a=[]\/a=b)(h2:b=[]\/b=c):a=[]\/a=c:=by
 rcases h1 with h1|h1
 exact .inl h1
 rw[h1];exact h2
theorem VS {n:Nat}(hn:n<L.length)(stage:Int):Ok (WLK B s L) (oZ w n stage):=by
 have ho:=H.ho;have hL:=H.len;have wd:=W.don;have wh:=W.hit;unfold oZ;refine gJ (PR H W hn) λJ h1=>gJ (Ru H W hn stage) λy2 h2=>gJ (aft H W hn) λy3 _=>?_;have g1:=h1.1;refine kN 0 J.length (λi t=>(t.1.length=s.objects.length/\TrA B t.1)/\t.2.length=s.objects.length) 0 rfl (Nat.zero_le _) ah ⟨⟨W.all,W.tr⟩,W.drp⟩ (λi t k hi T hk=>?_) λt k T=>?_
 obtain⟨t1,t2⟩:=t;unfold qI;refine gG (λ_=>je i rfl hi (KL H W hn λf O hz=>?_)) λh=>absurd (show (i:Int)<(J.length:Int) by omega) h;subst O;have hm:=hz.2.2;have hml:=hm.1;obtain⟨a1,a2⟩:=h1.2 _ (List.getElem_mem hi);generalize J[i]=hi0 at a1 a2;obtain⟨m,rfl⟩:=Int.eq_ofNat_of_zero_le a1;have hmo:m<s.objects.length:=by omega
 generalize hM:(L[n]).mQ=ms at *;refine kN 0 ms.length (λj t=>(t.1.length=s.objects.length/\TrA B t.1)/\t.2.length=s.objects.length) 0 rfl (Nat.zero_le _) ah T (λj u k2 hj g C=>?_) λu k2 g=>?_
 obtain⟨u1,u2⟩:=u;obtain⟨⟨j1,j2⟩,j3⟩:=g;simp only at j1 j2 j3;have hsz:=hm.2 _ (List.getElem_mem hj);have mu:m<u1.length:=by omega
 have I:m<u2.length:=by omega
 have jy:j<y2.length:=by omega
 unfold qH;rw[hM];refine gG (λ_=>gZ (λu=>(u.1.length=s.objects.length/\TrA B u.1)/\u.2.length=s.objects.length) (λk13 U=>?_) λu hu=>C u hu) λh=>absurd (show (j:Int)<(ms.length:Int) by omega) h;refine je j rfl hj (gJ (yH _) λ_ _=>lN (λ_=>U _ ⟨⟨j1,j2⟩,j3⟩) λ_=>jd m rfl mu (iV mu (jd j rfl jy (iV jy (gJ (acj _ _ _ _ (j2.sz _ (List.getElem_mem mu)) hsz) λy hy=>jd m rfl mu (iV mu (gG (λ_=>jd m rfl I (Bo (iV I (U _ ⟨XO H W j1 j2 ⟨hy.1,afR hy.2 (j2.at mu)⟩,by simp[j3]⟩)))) λ_=>U _ ⟨XO H W j1 j2 ⟨hy.1,afR hy.2 (j2.at mu)⟩,j3⟩)))))))
 unfold qH;rw[hM];exact gG (λh=>absurd h dH) λ_=>hk _ g
 obtain⟨t1,t2⟩:=t;unfold qI;refine gG (λh=>absurd h (by show ¬ (J.length:Int)<(J.length:Int);omega)) λ_=>jd n rfl ah (Bo (iV ah (jd n rfl ah (iV ah (gB ⟨W.st,W.l,T.1.1,T.1.2,by simp[wd],by simp[wh],λx hx=>?_,T.2⟩)))));rcases List.mem_or_eq_of_mem_set hx with hx|hx
 exact W.ad5 x hx
 rw[hx];exact h1
theorem aav:Ok (WLK B s L) (sK w):=by
 have ho:=H.ho;have U:=H.len;have a1:=W.all;have a2:=W.don;have a3:=W.hit;have a4:=W.drp;unfold sK;have c1:rD w.iH=some w.iH:=by unfold rD;exact ok_eq (GH (ku ah ah (gB rfl)))
 have c2:∀ l:List Bool,l.length<=2000000->qA l=some l:=λl hl=>by unfold qA;exact ok_eq (GH (ku ah ah (gB rfl)))
 have c3:sJ w.hits=some w.hits:=by unfold sJ;exact ok_eq (GH (ku ah ah (gB rfl)))
 exact iq c1 (iq (c2 _ ah) (iq (c2 _ ah) (iq c3 (gB ⟨W.st,W.l,W.all,W.tr,W.don,W.hit,W.ad5,W.drp⟩))))
theorem ad8 {n:Nat}(hn:n<L.length)(stage:Int):Ok (λr=>r.hits.length<=2048/\r.numbers.length<=1048576) (xQ w n stage):=by
 have U:=(H.f _ (List.getElem_mem hn)).2.2.1;unfold xQ;exact gJ (UA H W hn) λ_ _=>gJ (XN H W hn) λ_ h1=>gJ (Y4 H W hn stage) λ_ h2=>gB ⟨h1.1,by show List.length _<=_;rw[h2];exact U⟩
theorem ad9 {n:Nat}(hn:n<L.length)(stage:Int):Ok (λr=>r.hits.length<=2048/\r.numbers.length<=1048576) (rf w n stage):=by
 have U:=(H.f _ (List.getElem_mem hn)).2.2.1;unfold rf;exact gJ (UB H W hn) λ_ _=>gJ (PR H W hn) λ_ h1=>gJ (Ru H W hn stage) λ_ h2=>gB ⟨h1.1,by show List.length _<=_;rw[h2];exact U⟩
theorem Y5 {n:Nat}(hn:n<L.length)(stage:Int):Ok (λ_=>True) (rC w n stage):=by
 have wd:=W.don;unfold rC;refine KL H W hn λf O T=>?_;have U:=T.2.2;have hml:=U.1;refine qi 0 f.mQ.length (λ_=>True) 0 rfl (Nat.zero_le _) ah trivial (λi k hi _ hk=>?_) λk _=>?_
 have hsz:=U.2 _ (List.getElem_mem hi);unfold sU;refine gG (λ_=>je i rfl hi (gZ (λ_=>True) (λk7 h7=>?_) λb _=>gK (λ_=>gB trivial) λ_=>hk trivial)) λh=>absurd (show (i:Int)<(f.mQ.length:Int) by omega) h;exact gG (λ_=>gJ (yH _) λ_ _=>gG (λ_=>gJ (DR _ _ hsz.2) λ_ _=>h7 _ trivial) λ_=>h7 _ trivial) λ_=>h7 _ trivial
 unfold sU;refine gG (λh=>absurd h eP) λ_=>gK (λ_=>jd n rfl ah (iV ah (gK (λ_=>gG (λ_=>gB trivial) λ_=>gJ (DR _ _ T.2.1) λ_ _=>gB trivial) λ_=>gB trivial))) λ_=>gB trivial
end
theorem UC {α:Type}{n:Int}{v:α}:∀ {l:List (Int×α)},EW l n=some v->∃ k,(k,v)∈l
 | [],h=>by simp[EW] at h
 | (k,w)::l,h=>by
  unfold EW at h
  split at h
  cases h;exact⟨k,by simp⟩
  obtain⟨k2,h2⟩:=UC h;exact⟨k2,by simp[h2]⟩
theorem VT {α:Type}{n:Int}{v:α}{x:Int×α}:∀ {l:List (Int×α)},x∈Oz l n v->x.2=v\/x∈l
 | [],h=>by simp only[Oz,List.mem_singleton] at h;exact .inl (by rw[h])
 | (k,w)::l,h=>by
  unfold Oz at h
  split at h
  rcases List.mem_cons.1 h with h|h
  exact .inl (by rw[h])
  exact .inr bW
  rcases List.mem_cons.1 h with h|h
  exact .inr bW
  rcases VT h with h|h
  exact .inl h
  exact .inr bW
theorem ahR {α ρ:Type}{Q:ρ->Prop}{l:List (Int×α)}{n:Int}{z:α}{k:α->Bool->Option ρ}(h1:∀ v,(∃ i,(i,v)∈l)->Ok Q (k v true))(h2:Ok Q (k z false)):Ok Q (uY l n z k):=by
 unfold uY
 split
 rename_i v hv;exact h1 v (UC hv)
 exact h2
def aaw (v:kH):Prop:=v.hits.length<=2048/\v.numbers.length<=1048576
theorem aax (a b:kH)(U:aaw a):Ok (λ_=>True) (uw a b):=by
 have:=U.1;have:=U.2;unfold uw;exact gK (λ_=>gB trivial) λ_=>gJ (VR _ _ ah) λ_ _=>gK (λ_=>gB trivial) λ_=>gJ (VR _ _ ah) λ_ _=>gB trivial
def UD (n:Nat)(t:List (List Bool)):Prop:=t.length=n/\∀ r∈t,r.length=n
theorem UD.set {n:Nat}{t:List (List Bool)}(h:UD n t)(i:Nat){r:List Bool}(hr:r.length=n):UD n (t.set i r):=⟨by simp[h.1],λx hx=>by
 rcases List.mem_or_eq_of_mem_set hx with hx|hx
 exact h.2 x hx
 rw[hx];exact hr⟩
section
variable {B:Nat->List iG}{s:gW}{L:List iF}(H:afs s L){w:iC}(W:WLK B s L w)
include H W
theorem ack (left:List Int)(stage:Int)(hr:∀ x∈left,0<=x/\x<(L.length:Int))(hlen:left.length<=L.length):Ok (λ_=>True) (qB w left stage):=by
 have hL:=H.len;unfold qB;rw[W.l];refine I5 (n:=L.length) rfl rfl ah ah ?_;refine kN 0 L.length (λi t=>t.length=L.length/\∀ j (hj:j<t.length),j<i->(t[j]).length=L.length) 0 rfl (Nat.zero_le _) ah ⟨by simp,λ_ _ h=>by omega⟩ (λi t k hi C hk=>?_) λt k C=>?_
 unfold qM;rw[W.l];refine Bo (gG (λ_=>I5 (n:=L.length) rfl rfl ah ah (Bo ?_)) λh=>absurd (show (i:Int)<ik (List.replicate L.length ([]:List Bool)) by simp[ik];omega) h);have it:i<t.length:=by omega
 refine jd i rfl it (iV it (hk _ ⟨by simp[C.1],λj hj hji=>?_⟩))
 by_cases e:i=j
 subst e;simp
 rw[List.getElem_set_ne e];exact C.2 j dR ah
 unfold qM;refine Bo (gG (λh=>absurd h (by simp[ik])) λ_=>?_)
 have hR:UD L.length t:=⟨C.1,λr hr=>by
  obtain⟨j,hj,e⟩:=List.getElem_of_mem hr;rw[<- e];exact C.2 j hj ah⟩
 refine kN 0 left.length (λ_ (u:List (Int×kH))=>∀ x∈u,aaw x.2) 0 rfl (Nat.zero_le _) ah aS (λa u k2 J g hk2=>?_) λu k2 g=>?_
 unfold qL;obtain⟨a1,a2⟩:=hr _ (List.getElem_mem J);refine gG (λ_=>gZ (λv=>∀ x∈v,aaw x.2) (λk5 h5=>?_) λv hv=>hk2 v hv) λh=>absurd (show (a:Int)<(left.length:Int) by omega) h;refine jd a rfl J (iV J ?_);generalize left[a]=la at a1 a2;obtain⟨m,rfl⟩:=Int.eq_ofNat_of_zero_le a1;have I:m<L.length:=by omega
 refine gJ (Y5 H W I stage) λ_ _=>gK (λ_=>gJ (ad9 H W I stage) λy hy=>h5 _ λx hx=>?_) λ_=>h5 _ g;rcases VT hx with hx|hx
 rw[hx];exact hy
 exact g x hx
 unfold qL;refine gG (λh=>absurd h dD) λ_=>gZ (λ_=>True) (λk5 h5=>gG (λ_=>h5 _ trivial) λ_=>h5 _ trivial) λb _=>gK (λ_=>gB trivial) λ_=>?_;refine kN 0 left.length (λ_ t=>UD L.length t) 0 rfl (Nat.zero_le _) ah hR (λa v k6 J hV hk6=>?_) λv k6 _=>?_
 unfold qK;obtain⟨a1,a2⟩:=hr _ (List.getElem_mem J);refine gG (λ_=>jd a rfl J (iV J ?_)) λh=>absurd (show (a:Int)<(left.length:Int) by omega) h;generalize left[a]=la at a1 a2;obtain⟨m,rfl⟩:=Int.eq_ofNat_of_zero_le a1;have I:m<L.length:=by omega
 refine gJ (aav H W) λw2 W2=>gJ (VS H W2 I stage) λw3 W3=>?_;refine kN 0 left.length (λ_ t=>UD L.length t) 0 rfl (Nat.zero_le _) ah hV (λc v2 k7 hc U hk7=>?_) λv2 k7 U=>?_
 unfold qJ;obtain⟨c1,c2⟩:=hr _ (List.getElem_mem hc);refine gG (λ_=>gZ (UD L.length) (λk8 h8=>?_) λv3 hv3=>hk7 v3 hv3) λh=>absurd (show (c:Int)<(left.length:Int) by omega) h;refine jd c rfl hc (iV hc ?_);generalize left[c]=lc at c1 c2;obtain⟨p,rfl⟩:=Int.eq_ofNat_of_zero_le c1;have hp:p<L.length:=by omega
 have pv:p<v2.length:=by rw[U.1];exact hp
 refine ahR (λx hx=>?_) (gZ (λb=>b=false) (λk9 h9=>gK (λh=>by cases h) λ_=>h9 _ rfl) λb hb=>by subst hb;exact gK (λh=>by cases h) λ_=>h8 _ U);obtain⟨_,hx⟩:=hx;refine gZ (λ_=>True) (λk9 h9=>gK (λ_=>h9 _ trivial) λ_=>h9 _ trivial) λb _=>gK (λ_=>?_) λ_=>h8 _ U;have T:(v2[p]).length=L.length:=U.2 _ (List.getElem_mem pv);refine jd p rfl pv (iV pv (gJ (ad8 H W3 hp stage) λ_ _=>gJ (aax _ _ (g _ hx)) λ_ _=>jd m rfl (by rw[T];exact I) (iV pv (iV (by rw[T];exact I) (h8 _ (U.set p (by simp[T])))))))
 unfold qJ;exact gG (λh=>absurd h dD) λ_=>hk6 _ U
 unfold qK;exact gG (λh=>absurd h dD) λ_=>gB trivial
theorem acm:Ok (WLK B s L) (tC w):=by
 have ho:=H.ho;have I:=W.all;unfold tC;refine kN 0 s.objects.length (λi t=>t.length=s.objects.length/\TrA B t) 0 rfl (Nat.zero_le _) ah ⟨I,W.tr⟩ (λi t k hi U hk=>?_) λt k U=>?_
 have it:i<t.length:=by omega
 have hx:=U.2.sz _ (List.getElem_mem it);have hb:=U.2.at it;unfold uJ;rw[W.st];refine gG (λ_=>gZ (λu=>u.length=s.objects.length/\TrA B u) (λk5 h5=>?_) λu hu=>hk u hu) λh=>absurd (show (i:Int)<(s.objects.length:Int) by omega) h;refine je i rfl hi (jd i rfl it (gZ (λ_=>True) (λk10 h10=>?_) λb _=>gK (λ_=>?_) λ_=>h5 _ U))
 exact gG (λ_=>iV it (h10 _ trivial)) λ_=>h10 _ trivial
 refine gJ (PQ _) λ_ _=>iV it (gJ (Dn _ _) λp _=>iV it (gJ (Dn _ _) λq _=>iV it ?_));have g1:({ t[i] with power:=p }:gX)=({ t[i] with power:=p }:gX):=rfl;have T:=XO H W (i:=i) (y:={ t[i] with power:=p }) U.1 U.2 ⟨⟨hx.1,hx.2.1,hx.2.2⟩,hb⟩;have J:i<(t.set i { t[i] with power:=p }).length:=by simpa using it
 refine iV J (h5 _ (XO H W T.1 T.2 ?_));have:=T.2.sz _ (List.getElem_mem J);exact⟨⟨this.1,this.2.1,this.2.2⟩,T.2.at J⟩
 unfold uJ;rw[W.st];exact gG (λh=>absurd h aG) λ_=>gB ⟨rfl,W.l,U.1,U.2,W.don,W.hit,W.ad5,W.drp⟩
theorem Y7 {f:iF}(O:rH f)(stage:Int):Ok (λ_=>True) (Cj f stage):=by
 have U:=O.2.2.1;unfold Cj uM xx;refine gJ (R:=λ_=>True) (gJ (R:=λ_=>True) ?_ λ_ _=>gB trivial) λ_ _=>gB trivial;refine qi 0 f.mQ.length (λ_=>True) 0 rfl (Nat.zero_le _) ah trivial (λi k hi _ hk=>?_) λk _=>?_
 unfold uK vW;exact gG (λ_=>je i rfl hi (gJ (R:=λ_=>True) (gJ (yH _) λ_ _=>gB trivial) λ_ _=>gK (λ_=>gB trivial) λ_=>hk trivial)) λh=>absurd (show (i:Int)<(f.mQ.length:Int) by omega) h
 unfold uK;exact gG (λh=>absurd h eP) λ_=>gB trivial
theorem zG (stage:Int):Ok (λr=>WLK B s L r.2) (jV w stage):=by
 have hL:=H.len;unfold jV;refine gZ (WLK B s L) (λk hk=>gG (λ_=>gJ (acm H W) λv V=>hk v V) λ_=>hk _ W) λv V=>?_;refine kN 0 L.length (λi t=>(t.1.Nodup/\(∀ x∈t.1,0<=x/\x<(i:Int))/\t.1.length<=i)/\t.2.length=i) 0 rfl (Nat.zero_le _) ah ⟨⟨by simp,by simp,by simp⟩,rfl⟩ (λi t k hi J hk=>?_) λt k J=>?_
 obtain⟨left,stamps⟩:=t;obtain⟨⟨T,i2,i3⟩,i4⟩:=J;simp only at T i2 i3 i4;unfold qN;refine gG (λ_=>gZ (λu=>(u.1.Nodup/\(∀ x∈u.1,0<=x/\x<((i+1:Nat):Int))/\u.1.length<=i+1)/\u.2.length=i+1) (λk9 h9=>?_) λu hu=>hk u hu) λh=>absurd (show (i:Int)<ik v.forces by rw[V.l];simp only[ik];omega) h;refine KL H V hi λf _ I=>ku (by show (2*(stamps.length+1)+192)*8<=_;omega) (by show stamps.length+1<=_;omega) (gJ (Y7 H V I stage) λ_ _=>gK (λ_=>ku (by show (2*(left.length+1)+192)*8<=_;omega) (by show left.length+1<=_;omega) (h9 _ ⟨⟨?_,λx hx=>?_,by simp;omega⟩,by simp[i4]⟩)) λ_=>h9 _ ⟨⟨T,λx hx=>by have:=i2 x hx;omega,by show left.length<=i+1;omega⟩,by simp[i4]⟩)
 rw[List.nodup_append];refine⟨T,by simp,λx hx y hy e=>?_⟩;rw[List.mem_singleton.1 hy] at e;have:=i2 x hx;have e:x=(i:Int):=e;omega
 rcases List.mem_append.1 hx with hx|hx
 have:=i2 x hx;omega
 have e:x=(i:Int):=List.mem_singleton.1 hx;omega
 obtain⟨left,stamps⟩:=t;obtain⟨⟨T,i2,i3⟩,i4⟩:=J;simp only at T i2 i3 i4;unfold qN;refine gG (λh=>absurd h (by show ¬ (L.length:Int)<ik v.forces;simp only[ik];rw[V.l];omega)) λ_=>?_;refine jg (λx=>WLK B s L x.1/\x.2.1.Nodup/\(∀ y∈x.2.1,0<=y/\y<(L.length:Int))/\x.2.1.length+x.2.2.1.length<=L.length) (λx=>x.2.1.length) ⟨V,T,i2,by show left.length+0<=_;omega⟩ (by show left.length<18446744073709551616;omega) ?_
 rintro⟨u,l2,ord,st⟩ k2 ⟨U,n1,n2,n3⟩ hk2
 simp only at U n1 n2 n3;unfold uP;refine gG (λh=>?_) λ_=>gB U;have C:l2≠[]:=λe=>by subst e;simp[ik] at h
 refine gJ (ack H U l2 stage n2 ah) λrel _=>iq (afq l2 st rel ah) ?_;have g:elF l2=l2:=afp l2 n1 λx hx=>(n2 x hx).1;rw[g];have hy:KF st (FM l2 rel)∈l2:=Qy _ _ _ (VM st _ (λx hx=>(n2 x (Qy _ _ _ hx)).1) (adY l2 rel n1 C)).1;have gy:=n2 _ hy;generalize KF st (FM l2 rel)=y at hy gy;refine gG (λh=>by omega) λ_=>?_;obtain⟨m,rfl⟩:=Int.eq_ofNat_of_zero_le gy.1;have O:=MC l2 _ n1 hy;refine gJ (VS H U ah stage) λu2 U2=>ku (by show (2*(ord.length+1)+192)*8<=_;omega) (by show ord.length+1<=_;omega) (iq (acf l2 _ (λx=>decide (x=(m:Int))) ah λx _=>rfl) (hk2 _ ⟨U2,List.Pairwise.filter _ n1,λz I=>n2 z (List.mem_filter.1 I).1,?_⟩ ?_))
 show (l2.filter _).length+(ord++[(m:Int)]).length<=_;simp only[List.length_append,List.length_singleton];omega
 show (l2.filter _).length<l2.length;omega
end
theorem aay (U:List jc)(s:gW)(hc:rM mG U)(hs:kZ s)(hv:∀ c∈U,c.gQ.length<=8)(ho:s.objects.length<=2048):Ok (afs s) (Eo U s):=by
 have hcl:=hs.2.2.2.2.2.2.1;have hcl1:=hcl.1;unfold Eo;refine kN 0 s.objects.length (λi t=>t.length<=8*i/\∀ f∈t,rH f) 0 rfl (Nat.zero_le _) ah ⟨by simp,by simp⟩ (λi t k hi T hk=>?_) λt k T=>?_
 unfold DD;refine gG (λ_=>gZ (λu=>u.length<=8*(i+1)/\∀ f∈u,rH f) (λk5 h5=>?_) λu hu=>hk u hu) λh=>absurd (show (i:Int)<(s.objects.length:Int) by omega) h;refine je i rfl hi (lN (λ_=>h5 _ ⟨by have:=T.1;show t.length<=_;omega,T.2⟩) λ_=>gJ (YZ U _ hc hv) λtr C=>?_);have hal:=C.2;refine kN 0 tr.gQ.length (λj u=>u.length<=8*i+j/\∀ f∈u,rH f) 0 rfl (Nat.zero_le _) ah T (λj u k10 hj J g=>?_) λu k10 J=>?_
 have I:=C.1.2.2.2 _ (List.getElem_mem hj);have hzm:=I.2.1.1;unfold Dz;refine gG (λ_=>gZ (λu=>u.length<=8*i+(j+1)/\∀ f∈u,rH f) (λk13 h13=>?_) λu hu=>g u hu) λh=>absurd (show (j:Int)<(tr.gQ.length:Int) by omega) h;refine je j rfl hj (gG (λ_=>iq dQ (Bo (ku (by show (2*(u.length+1)+192)*224<=_;have:=J.1;omega) (by show u.length+1<=_;have:=J.1;omega) (h13 _ ⟨by have:=J.1;simp only[List.length_append,List.length_singleton];omega,λf O=>?_⟩)))) λ_=>h13 _ ⟨by have:=J.1;show u.length<=_;omega,J.2⟩);rcases List.mem_append.1 O with O|O
 exact J.2 f O
 rw[List.mem_singleton.1 O];exact⟨⟨by simp,λ_ _=>trivial⟩,I.1,I.2.1⟩
 unfold Dz;refine gG (λh=>absurd h (by show ¬ (tr.gQ.length:Int)<(tr.gQ.length:Int);omega)) λ_=>h5 _ ⟨by have:=J.1;show u.length<=_;omega,J.2⟩
 unfold DD;refine gG (λh=>absurd h aG) λ_=>?_;refine kN 0 s.mf.length (λi t=>t.length<=16384+i/\∀ f∈t,rH f) 0 rfl (Nat.zero_le _) ah ⟨by have:=T.1;show t.length<=_;omega,T.2⟩ (λi t k hi T hk=>?_) λt k T=>?_
 have I:=hcl.2 _ (List.getElem_mem hi);have z1:=I.1.1;have z2:=I.2.1;unfold DC;refine gG (λ_=>je i rfl hi (iq (by unfold slices_Clone_int;exact wR ah ah) (iq dQ (Bo (ku (by show (2*(t.length+1)+192)*224<=_;have:=T.1;omega) (by show t.length+1<=_;have:=T.1;omega) (hk _ ⟨by have:=T.1;simp only[List.length_append,List.length_singleton];omega,λf O=>?_⟩)))))) λh=>absurd (show (i:Int)<(s.mf.length:Int) by omega) h;rcases List.mem_append.1 O with O|O
 exact T.2 f O
 rw[List.mem_singleton.1 O];refine⟨I.1,?_,I.2⟩;simp[mF,Hr,lM,oz]
 unfold DC;exact gG (λh=>absurd h eF) λ_=>gB ⟨hs,ho,by have:=T.1;show t.length<=_;omega,T.2⟩
def VU (cards:List jc)(s:gW)(i:Nat):List iG :=
 match s.objects[i]? with
 | some o=>(match En cards o with|some t=>t.gQ|none=>[])
 | none=>[]
theorem Y8 {U:List jc}{s:gW}{i:Nat}(hi:i<s.objects.length){t:gX}(h:En U s.objects[i]=some t):VU U s i=t.gQ:=by
 unfold VU;rw[List.getElem?_eq_getElem hi];simp only[h]
theorem acn (U:List jc)(s:gW)(hc:rM mG U)(hs:kZ s)(hv:∀ c∈U,c.gQ.length<=8)(ho:s.objects.length<=2048):Ok (λw=>∃ L,afs s L/\WLK (VU U s) s L w) (Dc U s):=by
 unfold Dc;refine gJ (aay U s hc hs hv ho) λL H=>?_;have hL:=H.len;refine I5 (n:=s.objects.length) rfl rfl ah ah (Bo ?_);refine kN 0 s.objects.length (λi t=>(t.1.length=i/\TrA (VU U s) t.1)/\t.2.length=s.objects.length) 0 rfl (Nat.zero_le _) ah ⟨⟨rfl,⟨by simp,λi t h=>by simp at h⟩⟩,by simp⟩ (λi t k hi I hk=>?_) λt k I=>?_
 obtain⟨t1,t2⟩:=t;obtain⟨⟨T,i2⟩,i3⟩:=I;simp only at T i2 i3;unfold Aq;obtain⟨tr,J,C⟩:=YZ U s.objects[i] hc hv;refine gG (λ_=>je i rfl hi (iq J (ku (by show (2*(t1.length+1)+192)*176<=_;omega) (by show t1.length+1<=_;omega) (hk _ ⟨⟨by simp[T],⟨λx hx=>?_,λm y hy=>?_⟩⟩,i3⟩)))) λh=>absurd (show (i:Int)<(s.objects.length:Int) by omega) h
 rcases List.mem_append.1 hx with hx|hx
 exact i2.sz x hx
 rw[List.mem_singleton.1 hx];exact C.1
 rw[List.getElem?_append] at hy
 split at hy
 exact i2.ab m y hy
 have g:m=i:=by
  have:=(List.getElem?_eq_some_iff.1 hy).1;simp only[List.length_cons,List.length_nil] at this;have hle:¬ m<t1.length:=by assumption
  omega
 subst g;simp[T] at hy;exact .inr (by rw[Y8 hi J,hy])
 obtain⟨t1,t2⟩:=t;obtain⟨⟨T,i2⟩,i3⟩:=I;simp only at T i2 i3;unfold Aq;refine gG (λh=>absurd h aG) λ_=>?_;refine I5 (n:=L.length) rfl rfl ah ah (Bo (I5 (n:=L.length) rfl rfl ah ah (Bo (gB ⟨L,H,rfl,rfl,T,i2,by simp,by simp,λx hx=>?_,i3⟩))));rw[(List.mem_replicate.1 hx).2];exact⟨by simp,by simp⟩
theorem PS (U:List jc)(s:gW)(hc:rM mG U)(hs:kZ s)(hv:∀ c∈U,c.gQ.length<=8)(ho:s.objects.length<=2048):Ok (λr=>r.length=s.objects.length/\TrA (VU U s) r) (uQ U s):=by
 unfold uQ;refine gJ (acn U s hc hs hv ho) λw T=>?_;obtain⟨L,H,W⟩:=T;exact gJ (zG H W _) λ_ W=>gJ (zG H W _) λ_ W=>gJ (zG H W _) λ_ W=>gJ (zG H W _) λ_ W=>gJ (zG H W _) λ_ W=>gJ (zG H W _) λ_ W=>gJ (zG H W _) λ_ W=>gJ (zG H W _) λ_ W=>gB ⟨W.all,W.tr⟩
end Go.Proofs.YtchmoabpofnbaaaGreat
