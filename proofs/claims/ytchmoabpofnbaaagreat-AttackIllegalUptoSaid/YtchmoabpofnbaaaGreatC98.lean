import Derived.Test.YtchmoabpofnbaaaGreatC95
import Derived.Test.YtchmoabpofnbaaaGreatC97
set_option linter.all false
namespace Go.Proofs.YtchmoabpofnbaaaGreat
open Go Go.Pv
set_option maxRecDepth 100000
def kV (x:gG):Prop:=IW x.name/\Aq x.line/\(su lT) x.gU
theorem Tz (c:sG)  : Ok (λr=>True) (QC c):=by
 unfold QC;refine je (λ(U:Int)=>0<=U/\U<=5) (λ(U:Int)=>(5-U).toNat) ⟨ae,ae⟩ ak (λU k2 hI1 I=>?_);obtain⟨hI1_0,hI1_1⟩:=hI1;unfold Vt;refine gp (λh3=>?_) (λh3=>gp (λh13=>gp (λh14=>gp (λC=>gm trivial) (λC=>gm trivial)) (λh14=>gm trivial)) (λh13=>gm trivial));refine gV (λ(g:Int)=>True) (λk5 hk4=>?_) (λg hs5=>?_)
 refine xN ae ae (λj7 h6=>?_)
 split
 exact fJ
 exact fJ
 exact fJ
 exact fJ
 exact fJ
 refine gV (λ(s8:Bool)=>s8=false->¬(g<0)/\¬(9<g)) (λk9 T=>gp (λh9=>T _ af) (λh9=>T _ af)) (λs8 hs8=>?_);refine gz (λJ=>gm trivial) (λJ=>?_);have hf11:=hs8 J;have h12:iq U 1=U+1:=kL ah ah;exact I _ ⟨ae,ae⟩ ae
theorem TM (c:sG)  : Ok (λr=>True) (DX c):=by
 unfold DX;refine gV (λ(s1:Bool)=>True) (λk2 I=>gu (Tz _ ) (λy4 h3=>gz (λh4=>I _ trivial) (λh4=>ou (λv5 h5=>I _ trivial)))) (λs1 hs2=>?_);refine gz (λh6=>gm trivial) (λh6=>?_);refine je (λ(J:Int×Int)=>0<=J.2/\J.2<=5) (λ(J:Int×Int)=>(5-J.2).toNat) ⟨ae,ae⟩ ak (λJ k7 hI7 hk8=>?_);obtain⟨hI7_0,hI7_1⟩:=hI7;unfold Gp;refine gp (λh9=>?_) (λh9=>gm trivial);refine gV (λ(s9:Int)=>True) (λk10 T=>?_) (λs9 hs11=>?_)
 refine gV (λ(g:Int)=>True) (λk13 U=>?_) (λg hs13=>gp (λC=>aby ae (λx16 h16=>T _ trivial)) (λC=>T _ trivial));refine xN ae ae (λj15 h14=>?_)
 split
 exact U _ trivial
 exact U _ trivial
 exact U _ trivial
 exact U _ trivial
 exact U _ trivial
 have h17:iq J.2 1=J.2+1:=kL ah ah;exact hk8 _ ⟨ae,ae⟩ ae
theorem oN (mask:Int)(key:Int)  : Ok (λr=>True) (qh mask key):=by
 unfold qh;exact gm trivial
theorem aan (s:ByteArray)(T:IW s):Ok (λr=>True) (QE s):=by
 have z1:s.size<=1048576:=T;unfold QE;refine gV (λ_=>True) (λk2 hk=>?_) (λJ _=>?_)
 refine gp (λh0=>hk _ trivial) λh0=>gp (λh1=>hk _ trivial) λh1=>?_;refine CX ah ah λx4 _=>gp (λ_=>hk _ trivial) λ_=>?_;refine CX ah ah λx5 _=>gp (λ_=>hk _ trivial) λ_=>?_;have e:qI (s.size:Int) 1=(s.size:Int)-1:=Fz ah ah;rw[e];refine CX ah ah λx6 _=>gp (λ_=>hk _ trivial) λ_=>?_
 have:strings_Contains s (bs [45,45])=some (Lib.contains s.data.toList (bs [45,45]).data.toList):=by
  unfold strings_Contains agJ;rw[if_pos ah]
 rw[this];exact hk _ trivial
 refine gz (λ_=>gm trivial) λ_=>ou λI hx=>?_;have hl:I.length<=1048576:=by rw[hx];simpa [X9] using z1
 refine je (λ(J:Int)=>0<=J/\J<=(I.length:Int)) (λ(J:Int)=>((I.length:Int)-J).toNat) ⟨by omega,by omega⟩ (by show _<18446744073709551616;omega) (λC k10 g hk=>?_);obtain⟨i0,i1⟩:=g;unfold OX;refine gp (λh3=>?_) λ_=>gm trivial;simp only[gJ] at h3;refine kQ i0 ah λx12 _=>gV (λ_=>True) (λk14 U=>?_) λs13 _=>?_
 refine gp (λ_=>gp (λ_=>U _ trivial) λ_=>gp (λ_=>U _ trivial) λ_=>U _ trivial) λ_=>gp (λ_=>gp (λ_=>U _ trivial) λ_=>gp (λ_=>U _ trivial) λ_=>U _ trivial) λ_=>U _ trivial
 refine gz (λ_=>gm trivial) λ_=>?_;have e:iq C 1=C+1:=kL ah ah;rw[e];exact hk _ ⟨by omega,by omega⟩ ah
theorem O3 (i:Int)(T:0<=i)(U:i<2):Ok (λr=>True) (uU i):=by
 unfold uU;refine xN ae ae (λj1 h1=>?_)
 split
 exact gm trivial
 exact gm trivial
theorem QT (s:ByteArray)(n:Int)(name:Int->Option ByteArray)(hn:0<=n/\n<=60)(T:∀ i,0<=i->i<n->Ok (λ_=>True) (name i)):Ok (λr=>True) (Jn s n name):=by
 unfold Jn;refine je (λ(U:Int)=>0<=U/\U<=n) (λ(U:Int)=>(n-U).toNat) ⟨by omega,by omega⟩ (by show _<18446744073709551616;omega) (λU k2 I hk=>?_);obtain⟨i0,C⟩:=I;unfold Tq;refine gp (λJ=>?_) λ_=>gm trivial;refine gu (T U i0 J) λy4 _=>gz (λ_=>?_) λ_=>?_
 have e:iq U 1=U+1:=kL ah ah;rw[e];exact hk _ ⟨by omega,by omega⟩ ah
 exact aby i0 λg _=>gm trivial
theorem QU (i:Int)(T:0<=i)(U:i<6):Ok (λr=>True) (wQ i):=by
 unfold wQ;refine xN ae ae (λj1 h1=>?_)
 split
 exact gm trivial
 exact gm trivial
 exact gm trivial
 exact gm trivial
 exact gm trivial
 exact gm trivial
theorem BO (s:ByteArray)(U:IW s):Ok (λr=>True) (zU s):=by
 unfold zU;exact gu (aan _ az) (λI h2=>gz (λT=>gu (QT s 2 uU ah (λi h0 h1=>O3 i h0 h1)) (λJ g=>gp (λh5=>gu (QT s 6 wQ ah (λi h0 h1=>QU i h0 h1)) (λy3 C=>gm trivial)) (λh5=>gm trivial))) (λT=>gm trivial))
theorem kZ (n:Int)(most:Int)  : Ok (λr=>True) (lQ n most):=by
 unfold lQ;exact gp (λh1=>gm trivial) (λh1=>gm trivial)
theorem zV (b:vS)  : Ok (λr=>True) (uV b):=by
 unfold uV;exact gu (kZ _ _ ) (λI h1=>gz (λh2=>gu (kZ _ _ ) (λJ T=>gz (λU=>lU (λh5=>gm trivial) (λh5=>gm trivial)) (λU=>gm trivial))) (λh2=>gm trivial))
theorem N9 (f:jY)(zz_f:mD f):Ok (λr=>True) (Jo f):=by
 unfold Jo;refine gV (λ(s1:Bool)=>True) (λk2 J=>gu (kZ _ _ ) (λy4 h4=>gz (λh5=>J _ trivial) (λh5=>gu (kZ _ _ ) (λy5 h6=>gz (λh7=>J _ trivial) (λh7=>gu (kZ _ _ ) (λy6 h8=>gz (λh9=>J _ trivial) (λh9=>gu (kZ _ _ ) (λy7 h10=>gz (λh11=>J _ trivial) (λh11=>gu (kZ _ _ ) (λy8 h12=>J _ trivial)))))))))) (λs1 hs3=>?_);refine gz (λh13=>gm trivial) (λh13=>?_);refine gV (λ(s9:Bool)=>s9=false->(nC .and .i64 f.types f.jA)=0) (λk10 T=>gu (kZ _ _ ) (λy12 h16=>gz (λh17=>T _ af) (λh17=>gu (kZ _ _ ) (λy13 h18=>gz (λh19=>T _ af) (λh19=>T _ af))))) (λs9 g=>?_);refine gz (λh20=>gm trivial) (λh20=>?_);have hf21:=g h20;refine gV (λ(s14:Bool)=>s14=false->(nC .and .i64 f.jS f.jf)=0) (λk15 U=>gu (kZ _ _ ) (λy17 h24=>gz (λh25=>U _ af) (λh25=>gu (kZ _ _ ) (λy18 h26=>gz (λh27=>U _ af) (λh27=>U _ af))))) (λs14 C=>?_);refine gz (λh28=>gm trivial) (λh28=>?_);have hf29:=C h28
 exact gV (λ(s19:Bool)=>True) (λk20 I=>gz (λh32=>gu (BO _ az) (λy22 h33=>I _ trivial)) (λh32=>I _ trivial)) (λs19 hs31=>gz (λh34=>gm trivial) (λh34=>gu (zV _ ) (λy23 h35=>gz (λh36=>gu (zV _ ) (λy24 h37=>gz (λh38=>gu (zV _ ) (λy25 h39=>gm trivial)) (λh38=>gm trivial))) (λh36=>gm trivial))))
theorem nX (T:Int)(J:Int)(U:Int)  : Ok (λr=>True) (nT T J U):=by
 unfold nT;exact gp (λh1=>gm trivial) (λh1=>lU (λh2=>gm trivial) (λh2=>gm trivial))
theorem Oa (b:vS)(n:Int)  : Ok (λr=>True) (Jp b n):=by
 unfold Jp;exact gp (λh1=>gm trivial) (λh1=>gp (λh2=>gm trivial) (λh2=>gp (λU=>gm trivial) (λU=>gp (λT=>gm trivial) (λT=>gm trivial))))
theorem GL (b:vS)(n:Int)(c2:Bool)  : Ok (λr=>True) (xE b n c2):=by
 unfold xE;exact gp (λh1=>gm trivial) (λh1=>gz (λh2=>gu (Oa _ _ ) (λT U=>gm trivial)) (λh2=>gm trivial))
theorem Ju (s:List ByteArray)(v:ByteArray)(U:(su IW) s)(J:IW v):Ok (λr=>True) (slices_Index_string s v):=by
 unfold slices_Index_string;have z1:s.length<=1048576:=(U).1;have z2:∀ y∈s,IW y:=(U).2;have z3:v.size<=1048576:=J;refine je (λ(T:Int)=>0<=T/\T<=(s.length:Int)) (λ(T:Int)=>((s.length:Int)-T).toNat) ⟨ae,ae⟩ ak (λT k2 g hk5=>?_);obtain⟨I,hI4_1⟩:=g;unfold Bf;apply gp<;>intro h6
 (try simp only[gJ] at h6)
 refine kQ ae ae (λC h7=>?_);have z8:IW C:=z2 C h7;have z9:C.size<=1048576:=z8;refine gz (λh10=>gm trivial) (λh10=>?_);have h11:iq T 1=T+1:=kL ah ah;exact hk5 _ ⟨ae,ae⟩ ae
 (try simp only[gJ] at h6)
 exact gm trivial
theorem GN (s:List ByteArray)(v:ByteArray)(U:(su IW) s)(T:IW v):Ok (λr=>True) (slices_Contains_string s v):=by
 unfold slices_Contains_string;exact gu (Ju _ _ bZ az) (λJ I=>gm trivial)
theorem wI (l:zZ)(sub:ByteArray)(T:Aq l)(U:IW sub):Ok (λr=>True) (vH l sub):=by
 unfold vH;exact gu (GN _ _ bZ az) (λJ I=>gm trivial)
theorem oK (n:Int)  : Ok (λr=>-1000000<=r/\r<=1000000) (qN n):=by
 unfold qN;exact gm ah
theorem aao (a:Int)(b:Int)  : Ok (λr=>True) (Ug a b):=by
 unfold Ug;exact gu (oK _ ) (λJ h1=>gu (oK _ ) (λT h2=>gu (oK _ ) (λy3 U=>gm trivial)))
theorem Eb (a:Int)(b:Int)  : Ok (λr=>True) (Ie a b):=by
 unfold Ie;exact gu (oK _ ) (λJ h1=>gu (oK _ ) (λT h2=>gu (oK _ ) (λy3 U=>gm trivial)))
theorem VD (c:sG)(x:Int)  : Ok (λr=>True) (Kq c x):=by
 unfold Kq;refine gu (Tz _ ) (λy1 h1=>?_);refine gz (λh2=>gm trivial) (λh2=>?_);refine je (λ(T:Int×Int)=>0<=T.2/\T.2<=5) (λ(T:Int×Int)=>(5-T.2).toNat) ⟨ae,ae⟩ ak (λT k3 J hk4=>?_);obtain⟨C,I⟩:=J;unfold NV;refine gp (λh5=>?_) (λh5=>gu (aao _ _ ) (λy9 h10=>gu (Eb _ _ ) (λy10 h11=>gm trivial)));refine gV (λ(g:Int)=>True) (λk6 U=>?_) (λg hs7=>?_)
 refine xN ae ae (λj8 h8=>?_)
 split
 exact U _ trivial
 exact U _ trivial
 exact U _ trivial
 exact U _ trivial
 exact U _ trivial
 have h9:iq T.2 1=T.2+1:=kL ah ah;exact hk4 _ ⟨ae,ae⟩ ae
theorem xQ (o:iw)(t:gG)(you:Int)(source:Int)(f:jY)(T:kV t)(zz_f:mD f):Ok (λr=>True) (oL o t you source f):=by
 unfold oL;have z1:t.name.size<=1048576:=(T).1;have z2:Aq (t.line):=(T).2.1;have z3:t.line.subs.length<=1048576:=(((T).2.1)).1;have z5:t.gU.length<=1048576:=((T).2.2).1;have z7:f.sub.size<=1048576:=(zz_f);refine gV (λ(s1:Bool)=>s1=false->o.jE=f.jE) (λk2 hk8=>gu (N9 _ ay) (λy4 h10=>gz (λh11=>hk8 _ af) (λh11=>hk8 _ af))) (λs1 hs9=>?_);refine gz (λh12=>gm trivial) (λh12=>?_);have hf13:=hs9 h12
 exact gV (λ(s5:Unit)=>True) (λk6 U=>gV (λ(s8:Bool)=>True) (λk9 hk16=>gp (λh18=>hk16 _ trivial) (λh18=>hk16 _ trivial)) (λs8 hs17=>gz (λh19=>gm trivial) (λh19=>gp (λh20=>gp (λh21=>gm trivial) (λh21=>gV (λ(s11:Bool)=>True) (λk12 hk22=>gp (λh24=>hk22 _ trivial) (λh24=>hk22 _ trivial)) (λs11 hs23=>gz (λh25=>gm trivial) (λh25=>gp (λh26=>gp (λh27=>gm trivial) (λh27=>gu (nX _ _ _ ) (λy14 h28=>gz (λh29=>gm trivial) (λh29=>gu (nX _ _ _ ) (λy15 h30=>gz (λh31=>gm trivial) (λh31=>gV (λ(s16:Bool)=>True) (λk17 hk32=>gz (λh34=>gu (wI _ _ aQ az) (λy19 h35=>hk32 _ trivial)) (λh34=>hk32 _ trivial)) (λs16 hs33=>gz (λh36=>gm trivial) (λh36=>gu (oN _ _ ) (λy20 h37=>gz (λh38=>gm trivial) (λh38=>gV (λ(s21:Bool)=>True) (λk22 C=>gp (λh41=>C _ trivial) (λh41=>C _ trivial)) (λs21 hs40=>gz (λh42=>gm trivial) (λh42=>gp (λh43=>gz (λh44=>gm trivial) (λh44=>U _ trivial)) (λh43=>U _ trivial))))))))))))) (λh26=>gu (nX _ _ _ ) (λy24 h45=>gz (λh46=>gm trivial) (λh46=>gu (nX _ _ _ ) (λy25 h47=>gz (λh48=>gm trivial) (λh48=>gV (λ(s26:Bool)=>True) (λk27 hk49=>gz (λh51=>gu (wI _ _ aQ az) (λy29 h52=>hk49 _ trivial)) (λh51=>hk49 _ trivial)) (λs26 hs50=>gz (λh53=>gm trivial) (λh53=>gu (oN _ _ ) (λy30 h54=>gz (λh55=>gm trivial) (λh55=>gV (λ(s31:Bool)=>True) (λk32 hk56=>gp (λh58=>hk56 _ trivial) (λh58=>hk56 _ trivial)) (λs31 hs57=>gz (λh59=>gm trivial) (λh59=>gp (λh60=>gz (λh61=>gm trivial) (λh61=>U _ trivial)) (λh60=>U _ trivial)))))))))))))))) (λh20=>gV (λ(s34:Bool)=>True) (λk35 g=>gp (λh64=>g _ trivial) (λh64=>g _ trivial)) (λs34 hs63=>gz (λh65=>gm trivial) (λh65=>gp (λh66=>gp (λh67=>gm trivial) (λh67=>gu (nX _ _ _ ) (λy37 h68=>gz (λh69=>gm trivial) (λh69=>gu (nX _ _ _ ) (λy38 h70=>gz (λh71=>gm trivial) (λh71=>gV (λ(s39:Bool)=>True) (λk40 hk72=>gz (λh74=>gu (wI _ _ aQ az) (λy42 h75=>hk72 _ trivial)) (λh74=>hk72 _ trivial)) (λs39 hs73=>gz (λh76=>gm trivial) (λh76=>gu (oN _ _ ) (λy43 h77=>gz (λh78=>gm trivial) (λh78=>gV (λ(s44:Bool)=>True) (λk45 J=>gp (λh81=>J _ trivial) (λh81=>J _ trivial)) (λs44 hs80=>gz (λh82=>gm trivial) (λh82=>gp (λh83=>gz (λh84=>gm trivial) (λh84=>U _ trivial)) (λh83=>U _ trivial))))))))))))) (λh66=>gu (nX _ _ _ ) (λy47 h85=>gz (λh86=>gm trivial) (λh86=>gu (nX _ _ _ ) (λy48 h87=>gz (λh88=>gm trivial) (λh88=>gV (λ(s49:Bool)=>True) (λk50 hk89=>gz (λh91=>gu (wI _ _ aQ az) (λy52 h92=>hk89 _ trivial)) (λh91=>hk89 _ trivial)) (λs49 hs90=>gz (λh93=>gm trivial) (λh93=>gu (oN _ _ ) (λy53 h94=>gz (λh95=>gm trivial) (λh95=>gV (λ(s54:Bool)=>True) (λk55 I=>gp (λh98=>I _ trivial) (λh98=>I _ trivial)) (λs54 hs97=>gz (λh99=>gm trivial) (λh99=>gp (λh100=>gz (λh101=>gm trivial) (λh101=>U _ trivial)) (λh100=>U _ trivial)))))))))))))))))) (λs5 hs15=>gu (GL _ _ _ ) (λy57 h102=>gz (λh103=>gu (GL _ _ _ ) (λy58 h104=>gz (λh105=>gu (VD _ _ ) (λy59 h106=>gu (Oa _ _ ) (λy60 h107=>gm trivial))) (λh105=>gm trivial))) (λh103=>gm trivial)))
theorem aap (a:Int)(b:Int)  : Ok (λr=>True) (Uf a b):=by
 unfold Uf;exact gu (oK _ ) (λJ h1=>gu (oK _ ) (λT h2=>gu (oK _ ) (λy3 U=>gm trivial)))
theorem QV (c:NK Int)  : Ok (λr=>True) (Dw c):=by
 unfold Dw;exact gu (aap _ _ ) (λU h1=>gm trivial)
theorem zk (kind:Int)  : Ok (λr=>True) (Aa kind):=by
 unfold Aa;exact gp (λh1=>gm trivial) (λh1=>gp (λh2=>gm trivial) (λh2=>gp (λg=>gm trivial) (λg=>gp (λh4=>gm trivial) (λh4=>gp (λh5=>gm trivial) (λh5=>gp (λh6=>gm trivial) (λh6=>gp (λh7=>gm trivial) (λh7=>gp (λh8=>gm trivial) (λh8=>gp (λh9=>gm trivial) (λh9=>gp (λC=>gm trivial) (λC=>gp (λJ=>gm trivial) (λJ=>gp (λU=>gm trivial) (λU=>gp (λI=>gm trivial) (λI=>gp (λT=>gm trivial) (λT=>gm trivial))))))))))))))
theorem Ir (x:Int)  : Ok (λr=>True) (cmp_isNaN_int x):=by
 unfold cmp_isNaN_int;exact gm trivial
theorem EI (x:Int)(y:Int)  : Ok (λr=>True) (cmp_Compare_int x y):=by
 unfold cmp_Compare_int;exact gu (Ir _ ) (λg h1=>gu (Ir _ ) (λC h2=>gz (λU=>gz (λI=>gm trivial) (λI=>gm trivial)) (λU=>gz (λh5=>gm trivial) (λh5=>gp (λJ=>gm trivial) (λJ=>gp (λT=>gm trivial) (λT=>gm trivial))))))
theorem Iu (o:iw)(id:Int)  : Ok (λr=>True) (wP o id):=by
 unfold wP;exact gu (EI _ _ ) (λU h1=>gm trivial)
theorem sW (n:Int)(least:Int)(most:Int)  : Ok (λr=>True) (Bg n least most):=by
 unfold Bg;exact gp (λh1=>gm trivial) (λh1=>gm trivial)
theorem Y4 (m:lZ)(g:xh m):Ok (λr=>True) (QF m):=by
 unfold QF;exact gp (λh4=>gm trivial) (λh4=>gp (λh5=>gm trivial) (λh5=>gp (λh6=>gm trivial) (λh6=>gp (λh7=>gm trivial) (λh7=>gp (λh8=>gm trivial) (λh8=>gp (λh9=>gm trivial) (λh9=>gp (λC=>gm trivial) (λC=>gp (λJ=>gm trivial) (λJ=>gp (λU=>gm trivial) (λU=>gp (λI=>gm trivial) (λI=>gp (λT=>gm trivial) (λT=>gm trivial)))))))))))
theorem abG (m:lZ)(U:xh m):Ok (λr=>True) (YB m):=by
 unfold YB;have z1:m.sub.size<=1048576:=(U).1;have z3:m.filter.sub.size<=1048576:=((U).2)
 exact gV (λ(s1:Bool)=>True) (λk2 hk4=>gu (sW _ _ _ ) (λy4 h6=>gz (λh7=>hk4 _ trivial) (λh7=>gu (Y4 _ bD) (λy5 h8=>ou (λv6 h9=>hk4 _ trivial))))) (λs1 hs5=>gz (λh10=>gm trivial) (λh10=>gp (λC=>gu (sW _ _ _ ) (λy7 h12=>gz (λh13=>gm trivial) (λh13=>gm trivial))) (λC=>gp (λg=>gu (sW _ _ _ ) (λy8 h15=>gz (λh16=>gm trivial) (λh16=>gm trivial))) (λg=>gp (λJ=>gu (BO _ az) (λy9 h18=>gm trivial)) (λJ=>gp (λh19=>gu (BO _ az) (λy10 h20=>gm trivial)) (λh19=>gp (λh21=>gu (sW _ _ _ ) (λy11 h22=>gm trivial)) (λh21=>gp (λh23=>gu (sW _ _ _ ) (λy12 h24=>gm trivial)) (λh23=>gp (λh25=>gu (sW _ _ _ ) (λy13 h26=>gm trivial)) (λh25=>gp (λh27=>gu (sW _ _ _ ) (λy14 h28=>gm trivial)) (λh27=>gp (λh29=>gu (N9 _ ay) (λy15 h30=>gm trivial)) (λh29=>gp (λI=>gu (sW _ _ _ ) (λy16 h32=>gz (λT=>gu (sW _ _ _ ) (λy17 h34=>gm trivial)) (λT=>gm trivial))) (λI=>gp (λh35=>gu (sW _ _ _ ) (λy18 h36=>gz (λh37=>gu (sW _ _ _ ) (λy19 h38=>gm trivial)) (λh37=>gm trivial))) (λh35=>gm trivial)))))))))))))
theorem EJ (f:jY)(stage:Int)(I:mD f):Ok (λr=>True) (wF f stage):=by
 unfold wF;exact gV (λ(J:Bool)=>J=false->f.jb.kind=0/\f.power.kind=0) (λk2 U=>lU (λh4=>U _ af) (λh4=>U _ af)) (λJ hs3=>gp (λh5=>gm trivial) (λh5=>gp (λh6=>lU (λC=>gm trivial) (λC=>gz (λg=>gm trivial) (λg=>gm trivial))) (λh6=>gp (λh9=>gm trivial) (λh9=>gp (λT=>gm trivial) (λT=>gm trivial)))))
theorem xg {α:Type}{l:List α}{b:Nat}(h:(2*l.length+192)*b<=140737488355328)(h2:l.length<=4611686018427387904):rD (some ([]:List α)) (kF (0+l.length) b (some l))=some l :=
 ok_eq (Ip (jH (by rw[Nat.zero_add];exact h) ah (gm rfl)))
theorem set_self {α:Type}{l:List α}{j:Nat}(h:j<l.length){x:α}(e:l[j]=x):l.set j x=l:=by subst e;exact List.set_getElem_self h
theorem abH (t:gG)(h:kV t):Gs t=some t:=by
 obtain⟨_,h2,I⟩:=h;have q2:=h2.1;have g:=I.1;unfold Gs;refine ok_eq (gY bz (gY (by unfold xG;exact xg aA aA) ?_));refine ku 0 t.gU.length (λn l=>l=t.gU) 0 rfl (Nat.zero_le _) ah rfl (λi l k hi T hk=>?_) λl k T=>?_
 subst T;obtain⟨_,g1,_,g2,g3,_⟩:=I.2 _ (List.getElem_mem hi);have p1:=g1.1;have p2:=g2.1;have p3:=g3.1;unfold DC;refine gp (λ_=>ja i rfl hi (iR hi ?_)) λh=>absurd (show(i:Int)<(t.gU.length:Int) by omega) h;refine gY aO (gY bF (gY (by unfold vW;exact xg aA aA) ?_));refine ku 0 (t.gU[i]).kR.length (λn l=>l=(t.gU[i]).kR) 0 rfl (Nat.zero_le _) ah rfl (λj l2 k2 hj U J=>?_) λl2 k2 U=>?_
 subst U;have C:=(g3.2 _ (List.getElem_mem hj)).2.2.2.2.1;unfold Dz;refine gp (λ_=>ja j rfl hj (iR hj (gY aO (ja j rfl hj (iR hj (J _ ?_)))))) λh=>absurd (show(j:Int)<((t.gU[i]).kR.length:Int) by omega) h;exact set_self hj rfl
 subst U;unfold Dz;refine gp (λh=>absurd h (by show ¬ ((t.gU[i]).kR.length:Int)<((t.gU[i]).kR.length:Int);omega)) λ_=>hk _ ?_;exact set_self hi rfl
 subst T;unfold DC;exact gp (λh=>absurd h (by show ¬ (t.gU.length:Int)<(t.gU.length:Int);omega)) λ_=>gm rfl
theorem adE (a:iP)(h:lT a):uN a=some a:=by
 obtain⟨_,g1,_,g2,g3,_⟩:=h;have p1:=g1.1;have p2:=g2.1;have p3:=g3.1;unfold uN;refine ok_eq (gY aO (gY bF (gY bP ?_)));refine ku 0 a.kR.length (λn l=>l=a.kR) 0 rfl (Nat.zero_le _) ah rfl (λj l2 k2 hj U T=>?_) λl2 k2 U=>?_
 subst U;have J:=(g3.2 _ (List.getElem_mem hj)).2.2.2.2.1;unfold uB;refine gp (λ_=>ja j rfl hj (iR hj (gY aO (ja j rfl hj (iR hj (T _ ?_)))))) λh=>absurd (show(j:Int)<(a.kR.length:Int) by omega) h;exact set_self hj rfl
 subst U;unfold uB;exact gp (λh=>absurd h dh) λ_=>gm rfl
structure aio (c:iZ)(t:gG):Prop where
 name:t.name=c.name
 line:t.line=c.line
 keys:t.keys=c.keys
 agM:t.gU=c.gU
 power:t.power=c.power
 jb:t.jb=c.jb
theorem aaq (c:iZ)(h:pq c):Ok (aio c) (Ba c):=by
 obtain⟨h1,h2,T⟩:=h;have C:=T.1;have q2:=h2.1;unfold Ba;refine gu (TM c.cost) λI _=>gY bz ?_;refine ku 0 c.gU.length (λn t=>t=c.gU.take n) 0 rfl (Nat.zero_le _) ah rfl (λi t k hi U hk=>?_) λt k U=>?_
 have J:t.length<=1048576:=by rw[U,List.length_take];omega
 unfold zA;refine gp (λ_=>iM i rfl hi (gY (adE _ (T.2 _ (List.getElem_mem hi))) (jH (by show(2*(t.length+1)+192)*640<=_;omega) aZ (hk _ ?_)))) λh=>absurd (show(i:Int)<(c.gU.length:Int) by omega) h;show t++[c.gU[i]]=_;rw[nz _ i hi,U]
 unfold zA;rw[zi] at U;refine gp (λh=>absurd h dP) λ_=>gm ⟨rfl,rfl,rfl,U,rfl,rfl⟩
theorem adF:kV yU:=by simp[kV,Aq,IW,su,yU,Yn,oz]
theorem aar (U:List iZ)(o:iw)(hc:su pq U)(hv:∀ c∈U,c.gU.length<=8):Ok (λt=>kV t/\t.gU.length<=8) (QD U o):=by
 unfold QD;refine gV (λ_=>True) (λk hk=>gp (λ_=>hk _ trivial) λ_=>hk _ trivial) λi _=>?_;refine gV (λt=>kV t/\t.gU.length<=8) (λk hk=>?_) λt ht=>?_
 refine gV (λb=>b=true->0<=i/\i<gJ U) (λk8 I=>gp (λh=>I _ λh2=>⟨h,of_decide_eq_true h2⟩) λ_=>I _ λh=>by cases h) λb C=>?_;refine gz (λh=>?_) λ_=>hk _ ⟨adF,by show(0:Nat)<=8;omega⟩;obtain⟨g1,g2⟩:=C h;simp only[gJ] at g2;refine kQ g1 g2 λc T=>gu (aaq c (hc.2 c T)) λt ht=>hk t ?_;have J:=hc.2 c T;exact⟨⟨by rw[ht.name];exact J.1,by rw[ht.line];exact J.2.1,by rw[ht.agM];exact J.2.2⟩,by rw[ht.agM];exact hv c T⟩
 exact gp (λ_=>gm ht) λ_=>gp (λ_=>gm ht) λ_=>gm ht
theorem abI (s:List ByteArray)(f:ByteArray->Option Bool)(hs:s.length<=2000000)(O:∀ x∈s,∃ b,f x=some b):Ok (λr=>r<=(s.length:Int)) (qP s f):=by
 unfold qP;refine pJ 0 s.length (λ_=>True) 0 rfl (Nat.zero_le _) ah trivial (λi k hi _ hk=>?_) λk _=>?_
 obtain⟨b,U⟩:=O _ (List.getElem_mem hi);unfold sQ;exact gp (λ_=>iM i rfl hi (gY U (gz (λ_=>gm (by show(i:Int)<=(s.length:Int);omega)) λ_=>hk trivial))) λh=>absurd (show(i:Int)<(s.length:Int) by omega) h
 unfold sQ;exact gp (λh=>absurd h dL) λ_=>gm (by show(-1:Int)<=_;omega)
theorem abJ (l:zZ)(sub:ByteArray)(hl:Aq l)(hs:IW sub):Ok Aq (D5 l sub):=by
 have q:=hl.1;unfold D5;refine gY bz (gV (λb=>b=false->gJ l.subs<4) (λk hk=>?_) λb U=>?_)
 refine gu (BO sub hs) λ_ _=>gz (λ_=>hk _ λh=>by cases h) λ_=>gu (wI _ sub hl hs) λ_ _=>gz (λ_=>hk _ λh=>by cases h) λ_=>hk _ λh=>?_;have:=of_decide_eq_false h;omega
 refine gz (λ_=>gm hl) λh=>?_;have T:=U h;simp only[gJ] at T;refine gu (abI l.subs _ ah λx hx=>?_) λy hy=>gV (λi=>0<=i/\i<=(l.subs.length:Int)) (λk hk=>gp (λ_=>hk _ ⟨by simp only[gJ];omega,by simp only[gJ];omega⟩) λh=>hk _ ⟨by omega,by omega⟩) λi hi=>?_
 exact⟨_,rfl⟩
 obtain⟨n,rfl⟩:=Int.eq_ofNat_of_zero_le hi.1;refine gY (adw ah aC bg) (gm ⟨?_,λx hx=>?_⟩)
 simp;omega
 rcases List.mem_append.1 hx with hx|hx
 rcases List.mem_append.1 hx with hx|hx
 exact hl.2 x (List.mem_of_mem_take hx)
 rw[List.mem_singleton.1 hx];exact hs
 exact hl.2 x (List.mem_of_mem_drop hx)
theorem adG (t:gG)(m:lZ)(you count:Int)(ht:kV t)(T:xh m):Ok kV (ND t m you count):=by
 have nil:kV { t with keys:=0,gU:=[] }:=⟨ht.1,ht.2.1,⟨by simp,by simp⟩⟩;have U:kV { t with line:={ t.line with subs:=[m.sub] } }:=⟨ht.1,⟨by simp,λx hx=>by rw[List.mem_singleton.1 hx];exact T.1⟩,ht.2.2⟩;unfold ND;refine gY (abH t ht) (gu (abG m T) λy _=>gz (λ_=>gm ht) λ_=>?_)
 exact gp (λ_=>gm ht) λ_=>gp (λ_=>gm ht) λ_=>gp (λ_=>gm ht) λ_=>gp (λ_=>gm U) λ_=>
  gp (λ_=>gu (abJ _ _ ht.2.1 T.1) λl hl=>gm ⟨ht.1,hl,ht.2.2⟩) λ_=>gp (λ_=>gm ht) λ_=>gp (λ_=>gm ht) λ_=>gp (λ_=>gm ht) λ_=>gp (λ_=>gm ht) λ_=>
  gp (λ_=>gm nil) λ_=>gp (λ_=>gu (oK _) λ_ _=>gu (oK _) λ_ _=>gm ht) λ_=>gp (λ_=>gm ht) λ_=>
  gp (λ_=>gu (Eb _ _) λ_ _=>gu (Eb _ _) λ_ _=>gm ht) λ_=>gp (λ_=>gm ht) λ_=>gm ht
theorem ajt (x:List iw)(id:Int)(hx:x.length<=2000000):Ok (λr=>0<=r.1/\(r.2=true->r.1<(x.length:Int))) (pz x id wP):=by
 unfold pz;refine je (λs=>∃ i j:Nat,s.1=(i:Int)/\s.2=(j:Int)/\i<=j/\j<=x.length) (λs=>(s.2-s.1).toNat) ⟨0,x.length,rfl,rfl,Nat.zero_le _,Nat.le_refl _⟩ (by show((x.length:Int)-0).toNat<18446744073709551616;omega) ?_
 rintro⟨a,b⟩ k ⟨i,j,e1,J,C,hj⟩ hk
 simp only at e1 J;subst e1 J;unfold uT;refine gp (λh=>?_) λh=>gp (λh2=>?_) λh2=>?_
 have U:i<j:=by simpa using h
 have hs:kT .shr .u64 (IntKind.wrap .u64 (iq (i:Int) (j:Int))) 1=some (((i+j) / 2:Nat):Int):=by
  have e:iq (i:Int) (j:Int)=((i+j:Nat):Int):=by
   show IntKind.i64.wrap _=_;rw[show((i:Int)+(j:Int))=((i+j:Nat):Int) by omega];exact wrap_in ah ah
  rw[e];have J:IntKind.wrap .u64 ((i+j:Nat):Int)=((i+j:Nat):Int):=by rw[IntKind.wrap_u64];omega
  rw[J];show some (Int.fdiv ((i+j:Nat):Int) (2 ^ (min (1:Int).toNat 64)))=_;rw[show(2:Int) ^ (min (1:Int).toNat 64)=((2:Nat):Int) by decide,Int.ofNat_fdiv]
 refine gY hs ?_;have I:(i+j) / 2<j:=by omega
 have T:i<=(i+j) / 2:=by omega
 generalize (i+j) / 2=m at I T;have g:IntKind.wrap .i64 (m:Int)=(m:Int):=wrap_in ah ah;rw[g];refine iM m rfl ah (gu (Iu _ _) λy _=>gp (λ_=>hk _ ⟨m+1,j,lG ah,rfl,by omega,hj⟩ ?_) λ_=>hk _ ⟨i,m,rfl,rfl,T,by omega⟩ ?_)
 show((j:Int)-iq (m:Int) 1).toNat<((j:Int)-(i:Int)).toNat;rw[lG ah];omega
 show((m:Int)-(i:Int)).toNat<((j:Int)-(i:Int)).toNat;omega
 have U:i<x.length:=by simpa [gJ] using h2
 exact iM i rfl U (gu (Iu _ _) λy _=>gm ⟨by show(0:Int)<=(i:Int);omega,λ_=>by show(i:Int)<(x.length:Int);omega⟩)
 exact gm ⟨by show(0:Int)<=(i:Int);omega,λh=>by cases h⟩
theorem adH (s:gB)(id:Int)(hs:lF s):Ok (λr=>-1<=r/\r<(s.objects.length:Int)) (vG s id):=by
 have ho:=hs.2.1.1;unfold vG;refine gu (ajt _ _ ah) λy hy=>gz (λ_=>gm ⟨by omega,by omega⟩) λh=>gm ⟨by omega,hy.2 ?_⟩
 cases U:y.2 with
 | true=>rfl
 | false=>rw[U] at h;cases h
theorem Xv (a b:List Int)(U:a.length<=2000000):Ok (λ_=>True) (slices_Equal_int a b):=by
 unfold slices_Equal_int;refine lU (λ_=>gm trivial) λh=>?_;simp only[gJ] at h;refine pJ 0 a.length (λ_=>True) 0 rfl (Nat.zero_le _) ah trivial (λi k hi _ hk=>?_) λk _=>?_
 unfold yJ;exact gp (λ_=>iM i rfl hi (iM i rfl ah (lU (λ_=>gm trivial) λ_=>hk trivial))) λh=>absurd (show(i:Int)<(a.length:Int) by omega) h
 unfold yJ;exact gp (λh=>absurd h (by show ¬ (a.length:Int)<(a.length:Int);omega)) λ_=>gm trivial
def rX (f:iC):Prop:=su (λ(_:Int)=>True) f.objects/\mD f.filter/\su xh f.mr
def afH (n:Nat)(x:List Int):Prop:=x.length<=2048/\∀ y∈x,0<=y/\y<(n:Int)
structure WLK (s:gB)(L:List iC)(w:ik):Prop where
 st:w.s=s
 l:w.forces=L
 all:w.iE.length=s.objects.length
 tr:∀ t∈w.iE,kV t
 don:w.done.length=L.length
 hit:w.hits.length=L.length
 afI:∀ x∈w.hits,afH s.objects.length x
 drp:w.dropped.length=s.objects.length
structure agN (s:gB)(L:List iC):Prop where
 hs:lF s
 ho:s.objects.length<=2048
 len:L.length<=1100000
 f:∀ f∈L,rX f
section
variable {s:gB}{L:List iC}(H:agN s L){w:ik}(W:WLK s L w)
include H W
theorem MJ {α:Type}{Q:α->Prop}{n:Nat}(hn:n<L.length){k:iC->Option α}(hk:∀ f,f=L[n]->rX f->Ok Q (k f)):Ok Q (bnd (jl w.forces (n:Int)) k):=by
 rw[W.l];exact iM n rfl hn (hk _ rfl (H.f _ (List.getElem_mem hn)))
theorem NG (id:Int):Ok (λr=>-1<=r/\r<(s.objects.length:Int)) (vG w.s id):=by
 rw[W.st];exact adH s id H.hs
theorem Ui {n:Nat}(hn:n<L.length):Ok (λ_=>True) (rC w n):=by
 unfold rC;refine MJ H W hn λf _ _=>gu (NG H W _) λy hy=>gV (λb=>b=true->0<=y) (λk hk=>?_) λb U=>?_
 exact gz (λ_=>hk _ λh=>of_decide_eq_true h) λ_=>hk _ λh=>by cases h
 exact gz (λh=>kQ (U h) (by rw[W.all];exact hy.2) λ_ _=>gm trivial) λ_=>gm trivial
theorem agO {n:Nat}(hn:n<L.length):Ok (λ_=>True) (vV w n):=by
 unfold vV;refine MJ H W hn λf _ _=>gu (NG H W _) λy hy=>gV (λb=>b=true->0<=y) (λk hk=>?_) λb U=>?_
 exact gz (λ_=>hk _ λh=>of_decide_eq_true h) λ_=>hk _ λh=>by cases h
 exact gz (λh=>abx (U h) (by rw[W.all];exact hy.2) λj _ hj=>YI hj λ_ _=>gm trivial) λ_=>gm trivial
theorem VE {n:Nat}(hn:n<L.length):Ok (λ_=>True) (sS w n):=by
 unfold sS;refine MJ H W hn λf _ _=>gV (λ_=>True) (λk hk=>?_) λb _=>?_
 exact gz (λ_=>hk _ trivial) λ_=>iM n rfl dF (hk _ trivial)
 refine gz (λ_=>gm trivial) λ_=>gu (NG H W _) λy hy=>gp (λ_=>gm trivial) λh=>?_;exact kQ ah (by rw[W.drp];exact hy.2) λ_ _=>gm trivial
theorem VF {n:Nat}(hn:n<L.length):Ok (λ_=>True) (qx w n):=by
 unfold qx;refine MJ H W hn λf _ _=>gV (λ_=>True) (λk hk=>?_) λb _=>?_
 exact gz (λ_=>hk _ trivial) λ_=>ja n rfl dF (iR dF (hk _ trivial))
 refine gz (λ_=>gm trivial) λ_=>gu (NG H W _) λy hy=>gp (λ_=>gm trivial) λh=>?_;exact abx ah (by rw[W.drp];exact hy.2) λj _ hj=>YI hj λ_ _=>gm trivial
theorem agP {i:Nat}(h:i<w.iE.length):kV w.iE[i]:=W.tr _ (List.getElem_mem h)
theorem acV {t:List Int}{i:Nat}(hi:i<s.objects.length)(h1:t.length<=i)(h2:∀ y∈t,0<=y/\y<(s.objects.length:Int)):(t++[(i:Int)]).length<=i+1/\∀ y∈t++[(i:Int)],0<=y/\y<(s.objects.length:Int):=by
 refine⟨by simp;omega,λy hy=>?_⟩;rcases List.mem_append.1 hy with hy|hy
 exact h2 y hy
 rw[List.mem_singleton.1 hy];omega
theorem Y5 {n:Nat}(hn:n<L.length):Ok (afH s.objects.length) (tZ w n):=by
 have ho:=H.ho;unfold tZ;refine iM n rfl dF (gz (λ_=>?_) λ_=>?_)
 have hl:n<w.hits.length:=by rw[W.hit];exact hn
 exact iM n rfl hl (gm (W.afI _ (List.getElem_mem hl)))
 refine gu (VE H W hn) λ_ _=>gz (λ_=>gm ⟨Nat.zero_le _,by simp⟩) λ_=>MJ H W hn λf O C=>gu (Ui H W hn) λyou _=>?_;have J:=C.1;refine ku 0 s.objects.length (λn t=>t.length<=n/\∀ y∈t,0<=y/\y<(s.objects.length:Int)) 0 rfl (Nat.zero_le _) ah ⟨Nat.zero_le _,by simp⟩ (λi t k hi T hk=>?_) λt k T=>?_
 have I:i<w.iE.length:=by rw[W.all];exact hi
 have hx:=agP H W I;have h1:=T.1;unfold uX;rw[W.st];refine gp (λ_=>gV (λu=>u.length<=i+1/\∀ y∈u,0<=y/\y<(s.objects.length:Int)) (λk9 g=>?_) λu hu=>hk u hu) λh=>absurd (show(i:Int)<(s.objects.length:Int) by omega) h;have no:=g t ⟨by omega,T.2⟩;refine iM i rfl hi (gV (λ_=>True) (λk13 U=>?_) λb _=>?_)
 have obj:Ok _ (bnd (jl w.iE (i:Int)) λx19=>bnd (oL s.objects[i] x19 you f.source f.filter) λy21=>k13 y21) :=
  iM i rfl I (gu (xQ _ _ _ _ _ hx C.2.1) λ_ _=>U _ trivial)
 refine gp (λ_=>gz (λ_=>gY (D9 _ _ (by have:=J.1;omega)) (gz (λ_=>U _ trivial) λ_=>gz (λ_=>obj) λ_=>U _ trivial)) λ_=>gz (λ_=>obj) λ_=>U _ trivial) λ_=>U _ trivial
 exact gz (λ_=>jH bf aZ (g _ (acV H W hi h1 T.2))) λ_=>no
 unfold uX;rw[W.st];exact gp (λh=>absurd h aU) λ_=>gm ⟨by have:=T.1;show t.length<=2048;omega,T.2⟩
theorem QW {n:Nat}(hn:n<L.length):Ok (afH s.objects.length) (nN w n):=by
 have ho:=H.ho;unfold nN;refine ja n rfl dF (iR dF (gz (λ_=>?_) λ_=>?_))
 have hl:n<w.hits.length:=by rw[W.hit];exact hn
 exact ja n rfl hl (iR hl (gm (W.afI _ (List.getElem_mem hl))))
 refine gu (VF H W hn) λ_ _=>gz (λ_=>gm ⟨Nat.zero_le _,by simp⟩) λ_=>MJ H W hn λf O C=>gu (Ui H W hn) λyou _=>?_;have I:=C.1;refine ku 0 s.objects.length (λn t=>t.length<=n/\∀ y∈t,0<=y/\y<(s.objects.length:Int)) 0 rfl (Nat.zero_le _) ah ⟨Nat.zero_le _,by simp⟩ (λi t k hi T hk=>?_) λt k T=>?_
 have J:i<w.iE.length:=by rw[W.all];exact hi
 have hx:=agP H W J;have h1:=T.1;unfold pV;rw[W.st];refine gp (λ_=>gV (λu=>u.length<=i+1/\∀ y∈u,0<=y/\y<(s.objects.length:Int)) (λk9 g=>?_) λu hu=>hk u hu) λh=>absurd (show(i:Int)<(s.objects.length:Int) by omega) h;have no:=g t ⟨by omega,T.2⟩;refine iM i rfl hi (gV (λ_=>True) (λk13 U=>?_) λb _=>?_)
 have obj:Ok _ (bnd (lJ w.iE.length (i:Int)) λj=>bnd (w.iE[j]?) λx19=>bnd (oL s.objects[i] x19 you f.source f.filter) λy21=>k13 y21) :=
  ja i rfl J (iR J (gu (xQ _ _ _ _ _ hx C.2.1) λ_ _=>U _ trivial))
 refine gp (λ_=>gz (λ_=>gY (D9 _ _ (by have:=I.1;omega)) (gz (λ_=>U _ trivial) λ_=>gz (λ_=>obj) λ_=>U _ trivial)) λ_=>gz (λ_=>obj) λ_=>U _ trivial) λ_=>U _ trivial
 exact gz (λ_=>jH bf aZ (g _ (acV H W hi h1 T.2))) λ_=>no
 unfold pV;rw[W.st];exact gp (λh=>absurd h aU) λ_=>gm ⟨by have:=T.1;show t.length<=2048;omega,T.2⟩
theorem afJ (you source:Int)(f:jY)(O:mD f):Ok (λ_=>True) (DD w.s w.iE you source f):=by
 have ho:=H.ho;rw[W.st];unfold DD;refine ku 0 s.objects.length (λn t=>t.length<=n) 0 rfl (Nat.zero_le _) ah (Nat.zero_le _) (λi t k hi J hk=>?_) λt k J=>?_
 have U:i<w.iE.length:=by rw[W.all];exact hi
 unfold CP;refine gp (λ_=>gV (λu=>u.length<=i+1) (λk5 h5=>?_) λu hu=>hk u hu) λh=>absurd (show(i:Int)<(s.objects.length:Int) by omega) h;refine iM i rfl hi (gV (λp=>kV p.2) (λI T=>?_) λp hp=>?_)
 exact gp (λ_=>iM i rfl U (T _ (agP H W U))) λ_=>T _ adF
 exact fV
 unfold CP;exact gp (λh=>absurd h aU) λ_=>gm trivial
theorem afK (you source:Int)(f:jY)(O:mD f):Ok (λ_=>True) (Dy w.s w.iE you source f):=by
 have ho:=H.ho;rw[W.st];unfold Dy;refine ku 0 s.objects.length (λn t=>t.length<=n) 0 rfl (Nat.zero_le _) ah (Nat.zero_le _) (λi t k hi J hk=>?_) λt k J=>?_
 have U:i<w.iE.length:=by rw[W.all];exact hi
 unfold CO;refine gp (λ_=>gV (λu=>u.length<=i+1) (λk5 h5=>?_) λu hu=>hk u hu) λh=>absurd (show(i:Int)<(s.objects.length:Int) by omega) h;refine iM i rfl hi (gV (λp=>kV p.2) (λI T=>?_) λp hp=>?_)
 exact gp (λ_=>ja i rfl U (iR U (T _ (agP H W U)))) λ_=>T _ adF
 exact fV
 unfold CO;exact gp (λh=>absurd h aU) λ_=>gm trivial
theorem aas {n:Nat}(hn:n<L.length)(stage:Int):Ok (λr=>r.length=(L[n]).mr.length) (uD w n stage):=by
 unfold uD;refine MJ H W hn λf O g=>?_;subst O;have I:=g.2.2;have hml:=I.1;generalize hM:(L[n]).mr=ms at *;refine JM (n:=ms.length) (by rfl) (by rfl) ah ah (yC ?_);refine ku 0 ms.length (λ_ t=>t.length=ms.length) 0 rfl (Nat.zero_le _) ah aC (λi t k hi T hk=>?_) λt k T=>?_
 have hsz:=I.2 _ (List.getElem_mem hi);have it:i<t.length:=by omega
 unfold vX;rw[hM];refine gp (λ_=>gV (λu=>u.length=ms.length) (λk6 J=>?_) λu hu=>hk u hu) λh=>absurd (show(i:Int)<(ms.length:Int) by omega) h;refine iM i rfl hi (gV (λ_=>True) (λC U=>?_) λx _=>?_)
 exact gp (λ_=>gu (zk _) λ_ _=>U _ trivial) λ_=>U _ trivial
 refine gz (λ_=>gu (Ui H W hn) λ_ _=>gu (afJ H W _ _ _ hsz.2) λ_ _=>ja i rfl it (iR it (J _ (by simp[T])))) λ_=>J _ T
 unfold vX;rw[hM];exact gp (λh=>absurd h dG) λ_=>gm T
theorem TA {n:Nat}(hn:n<L.length)(stage:Int):Ok (λr=>r.length=(L[n]).mr.length) (pW w n stage):=by
 unfold pW;refine MJ H W hn λf O g=>?_;subst O;have I:=g.2.2;have hml:=I.1;generalize hM:(L[n]).mr=ms at *;refine JM (n:=ms.length) (by rfl) (by rfl) ah ah (yC ?_);refine ku 0 ms.length (λ_ t=>t.length=ms.length) 0 rfl (Nat.zero_le _) ah aC (λi t k hi T hk=>?_) λt k T=>?_
 have hsz:=I.2 _ (List.getElem_mem hi);have it:i<t.length:=by omega
 unfold tJ;rw[hM];refine gp (λ_=>gV (λu=>u.length=ms.length) (λk6 J=>?_) λu hu=>hk u hu) λh=>absurd (show(i:Int)<(ms.length:Int) by omega) h;refine iM i rfl hi (gV (λ_=>True) (λC U=>?_) λx _=>?_)
 exact gp (λ_=>gu (zk _) λ_ _=>U _ trivial) λ_=>U _ trivial
 refine gz (λ_=>gu (Ui H W hn) λ_ _=>gu (afK H W _ _ _ hsz.2) λ_ _=>ja i rfl it (iR it (J _ (by simp[T])))) λ_=>J _ T
 unfold tJ;rw[hM];exact gp (λh=>absurd h dG) λ_=>gm T
theorem Y7 {l:List gG}{n:Nat}{i:Nat}{y:gG}(h1:l.length=n)(h2:∀ x∈l,kV x)(hy:kV y):(l.set i y).length=n/\∀ x∈l.set i y,kV x:=⟨by simp[h1],λx hx=>by
 rcases List.mem_or_eq_of_mem_set hx with hx|hx
 exact h2 x hx
 rw[hx];exact hy⟩
theorem Xw {n:Nat}(hn:n<L.length)(stage:Int):Ok (WLK s L) (oZ w n stage):=by
 have ho:=H.ho;have hL:=H.len;have wd:=W.don;have wh:=W.hit;unfold oZ;refine gu (QW H W hn) λJ h1=>gu (TA H W hn stage) λy2 h2=>gu (agO H W hn) λy3 _=>?_;have g1:=h1.1;refine ku 0 J.length (λi t=>(t.1.length=s.objects.length/\∀ x∈t.1,kV x)/\t.2.length=s.objects.length) 0 rfl (Nat.zero_le _) ah ⟨⟨W.all,W.tr⟩,W.drp⟩ (λi t k hi T hk=>?_) λt k T=>?_
 obtain⟨t1,t2⟩:=t;unfold qR;refine gp (λ_=>iM i rfl hi (MJ H W hn λf O hz=>?_)) λh=>absurd (show(i:Int)<(J.length:Int) by omega) h;subst O;have hm:=hz.2.2;have hml:=hm.1;obtain⟨a1,a2⟩:=h1.2 _ (List.getElem_mem hi);generalize J[i]=hi0 at a1 a2;obtain⟨m,rfl⟩:=Int.eq_ofNat_of_zero_le a1;have hmo:m<s.objects.length:=by omega
 generalize hM:(L[n]).mr=ms at *;refine ku 0 ms.length (λj t=>(t.1.length=s.objects.length/\∀ x∈t.1,kV x)/\t.2.length=s.objects.length) 0 rfl (Nat.zero_le _) ah T (λj u k2 hj C g=>?_) λu k2 C=>?_
 obtain⟨u1,u2⟩:=u;obtain⟨⟨j1,j2⟩,j3⟩:=C;simp only at j1 j2 j3;have hsz:=hm.2 _ (List.getElem_mem hj);have mu:m<u1.length:=by omega
 have I:m<u2.length:=by omega
 have jy:j<y2.length:=by omega
 unfold qQ;rw[hM];refine gp (λ_=>gV (λu=>(u.1.length=s.objects.length/\∀ x∈u.1,kV x)/\u.2.length=s.objects.length) (λk13 U=>?_) λu hu=>g u hu) λh=>absurd (show(j:Int)<(ms.length:Int) by omega) h;refine iM j rfl hj (gu (zk _) λ_ _=>lU (λ_=>U _ ⟨⟨j1,j2⟩,j3⟩) λ_=>ja m rfl mu (iR mu (ja j rfl jy (iR jy (gu (adG _ _ _ _ (j2 _ (List.getElem_mem mu)) hsz) λy hy=>ja m rfl mu (iR mu (gp (λ_=>ja m rfl I (yC (iR I (U _ ⟨Y7 H W j1 j2 hy,by simp[j3]⟩)))) λ_=>U _ ⟨Y7 H W j1 j2 hy,j3⟩)))))))
 unfold qQ;rw[hM];exact gp (λh=>absurd h dG) λ_=>hk _ C
 obtain⟨t1,t2⟩:=t;unfold qR;refine gp (λh=>absurd h (by show ¬ (J.length:Int)<(J.length:Int);omega)) λ_=>ja n rfl ah (yC (iR ah (ja n rfl ah (iR ah (gm ⟨W.st,W.l,T.1.1,T.1.2,by simp[wd],by simp[wh],λx hx=>?_,T.2⟩)))));rcases List.mem_or_eq_of_mem_set hx with hx|hx
 exact W.afI x hx
 rw[hx];exact h1
theorem abK:Ok (WLK s L) (tq w):=by
 have ho:=H.ho;have U:=H.len;have a1:=W.all;have a2:=W.don;have a3:=W.hit;have a4:=W.drp;unfold tq;have c1:rQ w.iE=some w.iE:=by unfold rQ;exact ok_eq (Ip (jH ah ah (gm rfl)))
 have c2:∀ l:List Bool,l.length<=2000000->qL l=some l:=λl hl=>by unfold qL;exact ok_eq (Ip (jH ah ah (gm rfl)))
 have c3:sZ w.hits=some w.hits:=by unfold sZ;exact ok_eq (Ip (jH ah ah (gm rfl)))
 exact gY c1 (gY (c2 _ ah) (gY (c2 _ ah) (gY c3 (gm ⟨W.st,W.l,W.all,W.tr,W.don,W.hit,W.afI,W.drp⟩))))
theorem afL {n:Nat}(hn:n<L.length)(stage:Int):Ok (λr=>r.hits.length<=2048/\r.numbers.length<=1048576) (yu w n stage):=by
 have U:=(H.f _ (List.getElem_mem hn)).2.2.1;unfold yu;exact gu (VE H W hn) λ_ _=>gu (Y5 H W hn) λ_ h1=>gu (aas H W hn stage) λ_ h2=>gm ⟨h1.1,by show List.length _<=_;rw[h2];exact U⟩
theorem afM {n:Nat}(hn:n<L.length)(stage:Int):Ok (λr=>r.hits.length<=2048/\r.numbers.length<=1048576) (rJ w n stage):=by
 have U:=(H.f _ (List.getElem_mem hn)).2.2.1;unfold rJ;exact gu (VF H W hn) λ_ _=>gu (QW H W hn) λ_ h1=>gu (TA H W hn stage) λ_ h2=>gm ⟨h1.1,by show List.length _<=_;rw[h2];exact U⟩
theorem aat {n:Nat}(hn:n<L.length)(stage:Int):Ok (λ_=>True) (rP w n stage):=by
 have wd:=W.don;unfold rP;refine MJ H W hn λf O J=>?_;have T:=J.2.2;have hml:=T.1;refine pJ 0 f.mr.length (λ_=>True) 0 rfl (Nat.zero_le _) ah trivial (λi k hi _ hk=>?_) λk _=>?_
 have hsz:=T.2 _ (List.getElem_mem hi);unfold tK;refine gp (λ_=>iM i rfl hi (gV (λ_=>True) (λk7 U=>?_) λb _=>gz (λ_=>gm trivial) λ_=>hk trivial)) λh=>absurd (show(i:Int)<(f.mr.length:Int) by omega) h;exact gp (λ_=>gu (zk _) λ_ _=>gp (λ_=>gu (EJ _ _ hsz.2) λ_ _=>U _ trivial) λ_=>U _ trivial) λ_=>U _ trivial
 unfold tK;refine gp (λh=>absurd h eG) λ_=>gz (λ_=>ja n rfl ah (iR ah (gz (λ_=>gp (λ_=>gm trivial) λ_=>gu (EJ _ _ J.2.1) λ_ _=>gm trivial) λ_=>gm trivial))) λ_=>gm trivial
end
theorem VG {α:Type}{n:Int}{v:α}:∀ {l:List (Int×α)},F6 l n=some v->∃ k,(k,v)∈l
 | [],h=>by simp[F6] at h
 | (k,w)::l,h=>by
  unfold F6 at h
  split at h
  cases h;exact⟨k,by simp⟩
  obtain⟨k2,h2⟩:=VG h;exact⟨k2,by simp[h2]⟩
theorem Xx {α:Type}{n:Int}{v:α}{x:Int×α}:∀ {l:List (Int×α)},x∈PX l n v->x.2=v\/x∈l
 | [],h=>by simp only[PX,List.mem_singleton] at h;exact .inl (by rw[h])
 | (k,w)::l,h=>by
  unfold PX at h
  split at h
  rcases List.mem_cons.1 h with h|h
  exact .inl (by rw[h])
  exact .inr dM
  rcases List.mem_cons.1 h with h|h
  exact .inr dM
  rcases Xx h with h|h
  exact .inl h
  exact .inr dM
theorem aju {α ρ:Type}{Q:ρ->Prop}{l:List (Int×α)}{n:Int}{z:α}{k:α->Bool->Option ρ}(h1:∀ v,(∃ i,(i,v)∈l)->Ok Q (k v true))(h2:Ok Q (k z false)):Ok Q (uo l n z k):=by
 unfold uo
 split
 rename_i v hv;exact h1 v (VG hv)
 exact h2
def abL (v:kG):Prop:=v.hits.length<=2048/\v.numbers.length<=1048576
theorem abM (a b:kG)(U:abL a):Ok (λ_=>True) (uF a b):=by
 have:=U.1;have:=U.2;unfold uF;exact gz (λ_=>gm trivial) λ_=>gu (Xv _ _ ah) λ_ _=>gz (λ_=>gm trivial) λ_=>gu (Xv _ _ ah) λ_ _=>gm trivial
def VH (n:Nat)(t:List (List Bool)):Prop:=t.length=n/\∀ r∈t,r.length=n
theorem VH.set {n:Nat}{t:List (List Bool)}(h:VH n t)(i:Nat){r:List Bool}(hr:r.length=n):VH n (t.set i r):=⟨by simp[h.1],λx hx=>by
 rcases List.mem_or_eq_of_mem_set hx with hx|hx
 exact h.2 x hx
 rw[hx];exact hr⟩
section
variable {s:gB}{L:List iC}(H:agN s L){w:ik}(W:WLK s L w)
include H W
theorem adI (left:List Int)(stage:Int)(hr:∀ x∈left,0<=x/\x<(L.length:Int))(hlen:left.length<=L.length):Ok (λ_=>True) (qM w left stage):=by
 have hL:=H.len;unfold qM;rw[W.l];refine JM (n:=L.length) rfl rfl ah ah ?_;refine ku 0 L.length (λi t=>t.length=L.length/\∀ j (hj:j<t.length),j<i->(t[j]).length=L.length) 0 rfl (Nat.zero_le _) ah ⟨by simp,λ_ _ h=>by omega⟩ (λi t k hi C hk=>?_) λt k C=>?_
 unfold qX;rw[W.l];refine yC (gp (λ_=>JM (n:=L.length) rfl rfl ah ah (yC ?_)) λh=>absurd (show(i:Int)<gJ (List.replicate L.length ([]:List Bool)) by simp[gJ];omega) h);have it:i<t.length:=by omega
 refine ja i rfl it (iR it (hk _ ⟨by simp[C.1],λj hj hji=>?_⟩))
 by_cases e:i=j
 subst e;simp
 rw[List.getElem_set_ne e];exact C.2 j dD ah
 unfold qX;refine yC (gp (λh=>absurd h (by simp[gJ])) λ_=>?_)
 have hR:VH L.length t:=⟨C.1,λr hr=>by
  obtain⟨j,hj,e⟩:=List.getElem_of_mem hr;rw[<- e];exact C.2 j hj ah⟩
 refine ku 0 left.length (λ_ (u:List (Int×kG))=>∀ x∈u,abL x.2) 0 rfl (Nat.zero_le _) ah aC (λa u k2 J hU hk2=>?_) λu k2 hU=>?_
 unfold qW;obtain⟨a1,a2⟩:=hr _ (List.getElem_mem J);refine gp (λ_=>gV (λv=>∀ x∈v,abL x.2) (λk5 h5=>?_) λv hv=>hk2 v hv) λh=>absurd (show(a:Int)<(left.length:Int) by omega) h;refine ja a rfl J (iR J ?_);generalize left[a]=la at a1 a2;obtain⟨m,rfl⟩:=Int.eq_ofNat_of_zero_le a1;have I:m<L.length:=by omega
 refine gu (aat H W I stage) λ_ _=>gz (λ_=>gu (afM H W I stage) λy hy=>h5 _ λx hx=>?_) λ_=>h5 _ hU;rcases Xx hx with hx|hx
 rw[hx];exact hy
 exact hU x hx
 unfold qW;refine gp (λh=>absurd h dB) λ_=>gV (λ_=>True) (λk5 h5=>gp (λ_=>h5 _ trivial) λ_=>h5 _ trivial) λb _=>gz (λ_=>gm trivial) λ_=>?_;refine ku 0 left.length (λ_ t=>VH L.length t) 0 rfl (Nat.zero_le _) ah hR (λa v k6 J hV hk6=>?_) λv k6 _=>?_
 unfold qV;obtain⟨a1,a2⟩:=hr _ (List.getElem_mem J);refine gp (λ_=>ja a rfl J (iR J ?_)) λh=>absurd (show(a:Int)<(left.length:Int) by omega) h;generalize left[a]=la at a1 a2;obtain⟨m,rfl⟩:=Int.eq_ofNat_of_zero_le a1;have I:m<L.length:=by omega
 refine gu (abK H W) λw2 W2=>gu (Xw H W2 I stage) λw3 W3=>?_;refine ku 0 left.length (λ_ t=>VH L.length t) 0 rfl (Nat.zero_le _) ah hV (λc v2 k7 hc U hk7=>?_) λv2 k7 U=>?_
 unfold qU;obtain⟨c1,c2⟩:=hr _ (List.getElem_mem hc);refine gp (λ_=>gV (VH L.length) (λk8 h8=>?_) λv3 hv3=>hk7 v3 hv3) λh=>absurd (show(c:Int)<(left.length:Int) by omega) h;refine ja c rfl hc (iR hc ?_);generalize left[c]=lc at c1 c2;obtain⟨p,rfl⟩:=Int.eq_ofNat_of_zero_le c1;have hp:p<L.length:=by omega
 have g:p<v2.length:=by rw[U.1];exact hp
 refine aju (λx hx=>?_) (gV (λb=>b=false) (λk9 h9=>gz (λh=>by cases h) λ_=>h9 _ rfl) λb hb=>by subst hb;exact gz (λh=>by cases h) λ_=>h8 _ U);obtain⟨_,hx⟩:=hx;refine gV (λ_=>True) (λk9 h9=>gz (λ_=>h9 _ trivial) λ_=>h9 _ trivial) λb _=>gz (λ_=>?_) λ_=>h8 _ U;have T:(v2[p]).length=L.length:=U.2 _ (List.getElem_mem g);refine ja p rfl g (iR g (gu (afL H W3 hp stage) λ_ _=>gu (abM _ _ (hU _ hx)) λ_ _=>ja m rfl (by rw[T];exact I) (iR g (iR (by rw[T];exact I) (h8 _ (U.set p (by simp[T])))))))
 unfold qU;exact gp (λh=>absurd h dB) λ_=>hk6 _ U
 unfold qV;exact gp (λh=>absurd h dB) λ_=>gm trivial
theorem adJ:Ok (WLK s L) (tY w):=by
 have ho:=H.ho;have C:=W.all;unfold tY;refine ku 0 s.objects.length (λi t=>t.length=s.objects.length/\∀ x∈t,kV x) 0 rfl (Nat.zero_le _) ah ⟨C,W.tr⟩ (λi t k hi U hk=>?_) λt k U=>?_
 have it:i<t.length:=by omega
 have hx:=U.2 _ (List.getElem_mem it);unfold uP;rw[W.st];refine gp (λ_=>gV (λu=>u.length=s.objects.length/\∀ x∈u,kV x) (λk5 h5=>?_) λu hu=>hk u hu) λh=>absurd (show(i:Int)<(s.objects.length:Int) by omega) h;refine iM i rfl hi (ja i rfl it (gV (λ_=>True) (λk10 T=>?_) λb _=>gz (λ_=>?_) λ_=>h5 _ U))
 exact gp (λ_=>iR it (T _ trivial)) λ_=>T _ trivial
 refine gu (QV _) λ_ _=>iR it (gu (Eb _ _) λp _=>iR it (gu (Eb _ _) λq _=>iR it ?_));have g1:({ t[i] with power:=p }:gG)=({ t[i] with power:=p }:gG):=rfl;have J:=Y7 H W (i:=i) (y:={ t[i] with power:=p }) U.1 U.2 ⟨hx.1,hx.2.1,hx.2.2⟩;have I:i<(t.set i { t[i] with power:=p }).length:=by simpa using it
 refine iR I (h5 _ (Y7 H W J.1 J.2 ?_));have:=J.2 _ (List.getElem_mem I);exact⟨this.1,this.2.1,this.2.2⟩
 unfold uP;rw[W.st];exact gp (λh=>absurd h aU) λ_=>gm ⟨rfl,W.l,U.1,U.2,W.don,W.hit,W.afI,W.drp⟩
theorem aau {f:iC}(O:rX f)(stage:Int):Ok (λ_=>True) (Dx f stage):=by
 have U:=O.2.2.1;unfold Dx uS xB;refine gu (R:=λ_=>True) (gu (R:=λ_=>True) ?_ λ_ _=>gm trivial) λ_ _=>gm trivial;refine pJ 0 f.mr.length (λ_=>True) 0 rfl (Nat.zero_le _) ah trivial (λi k hi _ hk=>?_) λk _=>?_
 unfold uQ wE;exact gp (λ_=>iM i rfl hi (gu (R:=λ_=>True) (gu (zk _) λ_ _=>gm trivial) λ_ _=>gz (λ_=>gm trivial) λ_=>hk trivial)) λh=>absurd (show(i:Int)<(f.mr.length:Int) by omega) h
 unfold uQ;exact gp (λh=>absurd h eG) λ_=>gm trivial
theorem Ah (stage:Int):Ok (λr=>WLK s L r.2) (jV w stage):=by
 have hL:=H.len;unfold jV;refine gV (WLK s L) (λk hk=>gp (λ_=>gu (adJ H W) λv V=>hk v V) λ_=>hk _ W) λv V=>?_;refine ku 0 L.length (λi t=>(t.1.Nodup/\(∀ x∈t.1,0<=x/\x<(i:Int))/\t.1.length<=i)/\t.2.length=i) 0 rfl (Nat.zero_le _) ah ⟨⟨by simp,by simp,by simp⟩,rfl⟩ (λi t k hi I hk=>?_) λt k I=>?_
 obtain⟨left,stamps⟩:=t;obtain⟨⟨J,i2,i3⟩,i4⟩:=I;simp only at J i2 i3 i4;unfold qY;refine gp (λ_=>gV (λu=>(u.1.Nodup/\(∀ x∈u.1,0<=x/\x<((i+1:Nat):Int))/\u.1.length<=i+1)/\u.2.length=i+1) (λk9 h9=>?_) λu hu=>hk u hu) λh=>absurd (show(i:Int)<gJ v.forces by rw[V.l];simp only[gJ];omega) h;refine MJ H V hi λf _ C=>jH (by show(2*(stamps.length+1)+192)*8<=_;omega) (by show stamps.length+1<=_;omega) (gu (aau H V C stage) λ_ _=>gz (λ_=>jH (by show(2*(left.length+1)+192)*8<=_;omega) (by show left.length+1<=_;omega) (h9 _ ⟨⟨?_,λx hx=>?_,by simp;omega⟩,by simp[i4]⟩)) λ_=>h9 _ ⟨⟨J,λx hx=>by have:=i2 x hx;omega,by show left.length<=i+1;omega⟩,by simp[i4]⟩)
 rw[List.nodup_append];refine⟨J,by simp,λx hx y hy e=>?_⟩;rw[List.mem_singleton.1 hy] at e;have:=i2 x hx;have e:x=(i:Int):=e;omega
 rcases List.mem_append.1 hx with hx|hx
 have:=i2 x hx;omega
 have e:x=(i:Int):=List.mem_singleton.1 hx;omega
 obtain⟨left,stamps⟩:=t;obtain⟨⟨J,i2,i3⟩,i4⟩:=I;simp only at J i2 i3 i4;unfold qY;refine gp (λh=>absurd h (by show ¬ (L.length:Int)<gJ v.forces;simp only[gJ];rw[V.l];omega)) λ_=>?_;refine je (λx=>WLK s L x.1/\x.2.1.Nodup/\(∀ y∈x.2.1,0<=y/\y<(L.length:Int))/\x.2.1.length+x.2.2.1.length<=L.length) (λx=>x.2.1.length) ⟨V,J,i2,by show left.length+0<=_;omega⟩ (by show left.length<18446744073709551616;omega) ?_
 rintro⟨u,l2,ord,st⟩ k2 ⟨U,n1,T,n3⟩ hk2
 simp only at U n1 T n3;unfold uY;refine gp (λh=>?_) λ_=>gm U;have hne:l2≠[]:=λe=>by subst e;simp[gJ] at h
 refine gu (adI H U l2 stage T ah) λrel _=>gY (agL l2 st rel ah) ?_;have g:elF l2=l2:=agK l2 n1 λx hx=>(T x hx).1;rw[g];have hy:MF st (GK l2 rel)∈l2:=RQ _ _ _ (Xp st _ (λx hx=>(T x (RQ _ _ _ hx)).1) (afC l2 rel n1 hne)).1;have gy:=T _ hy;generalize MF st (GK l2 rel)=y at hy gy;refine gp (λh=>by omega) λ_=>?_;obtain⟨m,rfl⟩:=Int.eq_ofNat_of_zero_le gy.1;have O:=NY l2 _ n1 hy;refine gu (Xw H U ah stage) λu2 U2=>jH (by show(2*(ord.length+1)+192)*8<=_;omega) (by show ord.length+1<=_;omega) (gY (adD l2 _ (λx=>decide (x=(m:Int))) ah λx _=>rfl) (hk2 _ ⟨U2,List.Pairwise.filter _ n1,λz C=>T z (List.mem_filter.1 C).1,?_⟩ ?_))
 show(l2.filter _).length+(ord++[(m:Int)]).length<=_;simp only[List.length_append,List.length_singleton];omega
 show(l2.filter _).length<l2.length;omega
end
theorem abN (U:List iZ)(s:gB)(hc:su pq U)(hs:lF s)(hv:∀ c∈U,c.gU.length<=8)(ho:s.objects.length<=2048):Ok (agN s) (Ff U s):=by
 have C:=hs.2.2.2.2.2.2.1;have hcl1:=C.1;unfold Ff;refine ku 0 s.objects.length (λi t=>t.length<=8*i/\∀ f∈t,rX f) 0 rfl (Nat.zero_le _) ah ⟨by simp,by simp⟩ (λi t k hi T hk=>?_) λt k T=>?_
 unfold Ep;refine gp (λ_=>gV (λu=>u.length<=8*(i+1)/\∀ f∈u,rX f) (λk5 h5=>?_) λu hu=>hk u hu) λh=>absurd (show(i:Int)<(s.objects.length:Int) by omega) h;refine iM i rfl hi (lU (λ_=>h5 _ ⟨by have:=T.1;show t.length<=_;omega,T.2⟩) λ_=>gu (aar U _ hc hv) λtr htr=>?_);have hal:=htr.2;refine ku 0 tr.gU.length (λj u=>u.length<=8*i+j/\∀ f∈u,rX f) 0 rfl (Nat.zero_le _) ah T (λj u k10 hj J g=>?_) λu k10 J=>?_
 have I:=htr.1.2.2.2 _ (List.getElem_mem hj);have hzm:=I.2.1.1;unfold En;refine gp (λ_=>gV (λu=>u.length<=8*i+(j+1)/\∀ f∈u,rX f) (λk13 h13=>?_) λu hu=>g u hu) λh=>absurd (show(j:Int)<(tr.gU.length:Int) by omega) h;refine iM j rfl hj (gp (λ_=>gY dQ (yC (jH (by show(2*(u.length+1)+192)*224<=_;have:=J.1;omega) (by show u.length+1<=_;have:=J.1;omega) (h13 _ ⟨by have:=J.1;simp only[List.length_append,List.length_singleton];omega,λf O=>?_⟩)))) λ_=>h13 _ ⟨by have:=J.1;show u.length<=_;omega,J.2⟩);rcases List.mem_append.1 O with O|O
 exact J.2 f O
 rw[List.mem_singleton.1 O];exact⟨⟨by simp,λ_ _=>trivial⟩,I.1,I.2.1⟩
 unfold En;refine gp (λh=>absurd h (by show ¬ (tr.gU.length:Int)<(tr.gU.length:Int);omega)) λ_=>h5 _ ⟨by have:=J.1;show u.length<=_;omega,J.2⟩
 unfold Ep;refine gp (λh=>absurd h aU) λ_=>?_;refine ku 0 s.kW.length (λi t=>t.length<=16384+i/\∀ f∈t,rX f) 0 rfl (Nat.zero_le _) ah ⟨by have:=T.1;show t.length<=_;omega,T.2⟩ (λi t k hi T hk=>?_) λt k T=>?_
 have I:=C.2 _ (List.getElem_mem hi);have z1:=I.1.1;have z2:=I.2.1;unfold Eo;refine gp (λ_=>iM i rfl hi (gY (by unfold slices_Clone_int;exact xg ah ah) (gY dQ (yC (jH (by show(2*(t.length+1)+192)*224<=_;have:=T.1;omega) (by show t.length+1<=_;have:=T.1;omega) (hk _ ⟨by have:=T.1;simp only[List.length_append,List.length_singleton];omega,λf O=>?_⟩)))))) λh=>absurd (show(i:Int)<(s.kW.length:Int) by omega) h;rcases List.mem_append.1 O with O|O
 exact T.2 f O
 rw[List.mem_singleton.1 O];refine⟨I.1,?_,I.2⟩;simp[mD,IW,lW,oz]
 unfold Eo;exact gp (λh=>absurd h dY) λ_=>gm ⟨hs,ho,by have:=T.1;show t.length<=_;omega,T.2⟩
theorem adK (U:List iZ)(s:gB)(hc:su pq U)(hs:lF s)(hv:∀ c∈U,c.gU.length<=8)(ho:s.objects.length<=2048):Ok (λw=>∃ L,agN s L/\WLK s L w) (DY U s):=by
 unfold DY;refine gu (abN U s hc hs hv ho) λL H=>?_;have C:=H.len;refine JM (n:=s.objects.length) rfl rfl ah ah (yC ?_);refine ku 0 s.objects.length (λi t=>(t.1.length=i/\∀ x∈t.1,kV x)/\t.2.length=s.objects.length) 0 rfl (Nat.zero_le _) ah ⟨⟨rfl,by simp⟩,by simp⟩ (λi t k hi J hk=>?_) λt k J=>?_
 obtain⟨t1,t2⟩:=t;obtain⟨⟨T,i2⟩,i3⟩:=J;simp only at T i2 i3;unfold Bc;refine gp (λ_=>iM i rfl hi (gu (aar U _ hc hv) λtr I=>jH (by show(2*(t1.length+1)+192)*176<=_;omega) (by show t1.length+1<=_;omega) (hk _ ⟨⟨by simp[T],λx hx=>?_⟩,i3⟩))) λh=>absurd (show(i:Int)<(s.objects.length:Int) by omega) h;rcases List.mem_append.1 hx with hx|hx
 exact i2 x hx
 rw[List.mem_singleton.1 hx];exact I.1
 obtain⟨t1,t2⟩:=t;obtain⟨⟨T,i2⟩,i3⟩:=J;simp only at T i2 i3;unfold Bc;refine gp (λh=>absurd h aU) λ_=>?_;refine JM (n:=L.length) rfl rfl ah ah (yC (JM (n:=L.length) rfl rfl ah ah (yC (gm ⟨L,H,rfl,rfl,T,i2,by simp,by simp,λx hx=>?_,i3⟩))));rw[(List.mem_replicate.1 hx).2];exact⟨by simp,by simp⟩
theorem Uj (U:List iZ)(s:gB)(hc:su pq U)(hs:lF s)(hv:∀ c∈U,c.gU.length<=8)(ho:s.objects.length<=2048):Ok (λr=>r.length=s.objects.length/\∀ t∈r,kV t) (qZ U s):=by
 unfold qZ;refine gu (adK U s hc hs hv ho) λw T=>?_;obtain⟨L,H,W⟩:=T;exact gu (Ah H W _) λ_ W=>gu (Ah H W _) λ_ W=>gu (Ah H W _) λ_ W=>gu (Ah H W _) λ_ W=>gu (Ah H W _) λ_ W=>gu (Ah H W _) λ_ W=>gu (Ah H W _) λ_ W=>gu (Ah H W _) λ_ W=>gm ⟨W.all,W.tr⟩
structure SL {α:Type}(N:Nat)(P:α->Prop)(l:List α):Prop where
 len:l.length=N
 all:∀ x∈l,P x
theorem SL.set {α:Type}{N:Nat}{P:α->Prop}{l:List α}(h:SL N P l)(i:Nat){x:α}(hx:P x):SL N P (l.set i x):=⟨by simp[h.len],λy hy=>by
 rcases List.mem_or_eq_of_mem_set hy with hy|hy
 exact h.all y hy
 rw[hy];exact hx⟩
theorem SL.get {α:Type}{N:Nat}{P:α->Prop}{l:List α}(h:SL N P l){i:Nat}(hi:i<l.length):P l[i]:=h.all _ (List.getElem_mem hi)
theorem Uk {i j:Nat}(h:i+j<4611686018427387904):kT .shr .u64 (IntKind.wrap .u64 (iq (i:Int) (j:Int))) 1=some (((i+j) / 2:Nat):Int):=by
 have e:iq (i:Int) (j:Int)=((i+j:Nat):Int):=by rw[kL ah ah];omega
 rw[e];have U:IntKind.wrap .u64 ((i+j:Nat):Int)=((i+j:Nat):Int):=by rw[IntKind.wrap_u64];omega
 rw[U];show some (Int.fdiv ((i+j:Nat):Int) (2 ^ (min (1:Int).toNat 64)))=_;rw[show(2:Int) ^ (min (1:Int).toNat 64)=((2:Nat):Int) by decide,Int.ofNat_fdiv]
theorem wrapN {m:Nat}(h:m<4611686018427387904):IntKind.wrap .i64 (m:Int)=(m:Int):=wrap_in ah ah
theorem addN {a b:Nat}(h:a+b<4611686018427387904):iq (a:Int) (b:Int)=((a+b:Nat):Int):=by rw[kL ah ah];omega
theorem RZ {a b:Nat}(h:b<=a)(h2:a<4611686018427387904):qI (a:Int) (b:Int)=((a-b:Nat):Int):=by rw[Fz ah ah];omega
theorem aav {a:Nat}(h:1<=a)(h2:a<4611686018427387904):qI (a:Int) 1=((a-1:Nat):Int):=by rw[Fz ah ah];omega
section
variable {N:Nat}{P:gq->Prop}{cmp:gq->gq->Option Int}(hN:N<=1000000000000)(hc:∀ x y,Ok (λ_=>True) (cmp x y))
include hN hc
theorem VI {l:List gq}{a b:Nat}(hl:SL N P l)(hab:a<=b)(hb:b<=N):Ok (SL N P) (jF l a b cmp):=by
 unfold jF;rw[lG ah];refine je (λs=>∃ i:Nat,s.1=(i:Int)/\a<i/\SL N P s.2) (λs=>b-s.1.toNat) ⟨a+1,rfl,by omega,hl⟩ (by show b-_<18446744073709551616;omega) ?_
 rintro⟨i',d⟩ k ⟨i,e,hi,U⟩ hk
 simp only at e U;subst e;unfold nV;refine gp (λh=>?_) λ_=>gm U;have g:i<b:=by simpa using h
 refine je (λs=>∃ j:Nat,s.1=(j:Int)/\a<=j/\j<=i/\SL N P s.2) (λs=>s.1.toNat) ⟨i,rfl,by omega,by omega,U⟩ (by show i<18446744073709551616;omega) ?_
 rintro⟨j',d⟩ k2 ⟨j,e,T,hji,U⟩ hk2
 simp only at e U;subst e;have hL:=U.len;unfold nU;refine gV (λc=>c=true->a<j) (λk8 C=>?_) λc I=>gz (λJ=>?_) λ_=>hk _ ⟨i+1,lG ah,by omega,U⟩ (by simp only;rw[lG ah];omega)
 refine gp (λh=>?_) λ_=>C _ λh=>by cases h
 have T:a<j:=by simpa using h
 simp only[aav (show 1<=j by omega) ah];exact ja j rfl ah (iR ah (ja (j-1) rfl ah (iR ah (gu (hc _ _) λ_ _=>C _ λ_=>T))))
 have T:=I J;simp only[aav (show 1<=j by omega) ah];refine ja (j-1) rfl ah (iR ah (ja j rfl ah (iR ah (ja j rfl ah (iR ah (ja (j-1) rfl ah (iR bg (hk2 _ ⟨j-1,rfl,by omega,by omega,?_⟩ ?_))))))))
 exact(U.set j (U.get _)).set (j-1) (U.get _)
 simp only[Int.toNat_natCast];omega
theorem Si {l:List gq}{a b n:Nat}(hl:SL N P l)(T:a+n<=N)(I:b+n<=N):Ok (SL N P) (jG l a b n cmp):=by
 unfold jG;refine ku 0 n (λ_ d=>SL N P d) 0 rfl (Nat.zero_le _) ah hl (λi d k hi U hk=>?_) λd k U=>?_
 have J:=U.len;unfold mM;simp only[addN (show a+i<4611686018427387904 by omega),addN (show b+i<4611686018427387904 by omega)];refine gp (λ_=>ja (b+i) rfl ah (iR ah (ja (a+i) rfl ah (iR ah (ja (a+i) rfl ah (iR ah (ja (b+i) rfl ah (iR bg (hk _ ?_))))))))) λh=>absurd (show(i:Int)<(n:Int) by omega) h;exact(U.set _ (U.get _)).set _ (U.get _)
 unfold mM;exact gp (λh=>absurd h (by show ¬ (n:Int)<(n:Int);omega)) λ_=>gm U
theorem abO {l:List gq}{a m b:Nat}(hl:SL N P l)(g:a<m)(C:m<b)(hb:b<=N):Ok (SL N P) (kH l a m b cmp):=by
 unfold kH;rw[RZ ah ah,RZ ah ah];refine je (λs=>∃ i j:Nat,s.1=(i:Int)/\s.2.1=(j:Int)/\(0<i/\i<=m)/\(0<j/\m+j<=b)/\SL N P s.2.2) (λs=>s.1.toNat+s.2.1.toNat) ⟨m-a,b-m,rfl,rfl,by omega,by omega,hl⟩ (by simp only[Int.toNat_natCast];show _<18446744073709551616;omega) ?_
 rintro⟨i',j',d⟩ k ⟨i,j,e1,I,hi,hj,T⟩ hk
 simp only at e1 I T;subst e1 I;unfold nO;refine lU (λJ=>gp (λh=>?_) λh=>?_) λhe=>?_
 have h:j<i:=by simpa using h
 simp only[RZ (show i<=m by omega) ah,RZ (show j<=i by omega) ah];exact gu (Si hN hc T ah ah) λd2 U=>hk _ ⟨i-j,j,rfl,rfl,by omega,by omega,U⟩ bK
 have h:i<j:=by(try simp only at J h);omega
 simp only[RZ (show i<=m by omega) ah,addN (show m+j<4611686018427387904 by omega),RZ (show i<=m+j by omega) ah,RZ (show i<=j by omega) ah];exact gu (Si hN hc T ah ah) λd2 U=>hk _ ⟨i,j-i,rfl,rfl,by omega,by omega,U⟩ bK
 have h:i=j:=by(try simp only at he);omega
 simp only[RZ (show i<=m by omega) ah];exact gu (Si hN hc T ah ah) λd2 U=>gm U
theorem KC:∀ (n:Nat) {l:List gq} {a m b:Nat},SL N P l->a<m->m<b->b<=N->b-a<=2 ^ n->Ok (SL N P) (jh n l a m b cmp)
 | 0,l,a,m,b,_,h1,h2,_,h3=>by rw[Nat.pow_zero] at h3;omega
 | n+1,l,a,m,b,hl,h1,h2,hb,h3=>by
  have hL:=hl.len;have h3:b-a<=2*2 ^ n:=by rw[Nat.pow_succ] at h3;omega
  unfold jh nI;simp only[RZ (show a<=m by omega) ah,RZ (show m<=b by omega) ah];refine gp (λ_=>?_) λ_=>gp (λ_=>?_) λ_=>?_
  refine je (λs=>∃ i j:Nat,s.1=(i:Int)/\s.2=(j:Int)/\m<=i/\i<=j/\j<=b) (λs=>(s.2-s.1).toNat) ⟨m,b,rfl,rfl,by omega,by omega,by omega⟩ (by show((b:Int)-(m:Int)).toNat<18446744073709551616;omega) ?_
  rintro⟨i',j'⟩ k ⟨i,j,e1,J,hi,hij,hj⟩ hk
  simp only at e1 J;subst e1 J;unfold mX;refine gp (λh=>?_) λ_=>?_
  have h:i<j:=by simpa using h
  refine gY (Uk ah) ?_;have g1:i<=(i+j) / 2:=by omega
  have g2:(i+j) / 2<j:=by omega
  generalize (i+j) / 2=c at g1 g2;simp only[wrapN (show c<4611686018427387904 by omega)];refine ja c rfl ah (iR ah (ja a rfl ah (iR ah (gu (hc _ _) λ_ _=>gp (λ_=>hk _ ⟨c+1,j,lG ah,rfl,by omega,by omega,hj⟩ ?_) λ_=>hk _ ⟨i,c,rfl,rfl,hi,by omega,by omega⟩ ?_))))
  show((j:Int)-iq (c:Int) 1).toNat<((j:Int)-(i:Int)).toNat;rw[lG ah];omega
  show((c:Int)-(i:Int)).toNat<((j:Int)-(i:Int)).toNat;omega
  refine je (λs=>∃ p:Nat,s.1=(p:Int)/\SL N P s.2) (λs=>i-s.1.toNat) ⟨a,rfl,hl⟩ (by show i-_<18446744073709551616;omega) ?_
  rintro⟨p',d⟩ k3 ⟨p,e,U⟩ hk3
  simp only at e U;subst e;have hL:=U.len;unfold mW;simp only[aav (show 1<=i by omega) ah];refine gp (λh=>?_) λ_=>gm U;have h:p<i-1:=by simpa using h
  simp only[lG (show p<4611686018427387904 by omega)];refine ja (p+1) rfl ah (iR ah (ja p rfl ah (iR ah (ja p rfl ah (iR ah (ja (p+1) rfl ah (iR bg (hk3 _ ⟨p+1,rfl,(U.set _ (U.get _)).set _ (U.get _)⟩ ?_))))))));simp only[Int.toNat_natCast];omega
  refine je (λs=>∃ i j:Nat,s.1=(i:Int)/\s.2=(j:Int)/\i<=j/\j<=m) (λs=>(s.2-s.1).toNat) ⟨a,m,rfl,rfl,by omega,by omega⟩ (by show((m:Int)-(a:Int)).toNat<18446744073709551616;omega) ?_
  rintro⟨i',j'⟩ k ⟨i,j,e1,J,hij,hj⟩ hk
  simp only at e1 J;subst e1 J;unfold mZ;refine gp (λh=>?_) λ_=>?_
  have h:i<j:=by simpa using h
  refine gY (Uk ah) ?_;have g1:i<=(i+j) / 2:=by omega
  have g2:(i+j) / 2<j:=by omega
  generalize (i+j) / 2=c at g1 g2;simp only[wrapN (show c<4611686018427387904 by omega)];refine ja m rfl ah (iR ah (ja c rfl ah (iR ah (gu (hc _ _) λ_ _=>gz (λ_=>hk _ ⟨c+1,j,lG ah,rfl,by omega,hj⟩ ?_) λ_=>hk _ ⟨i,c,rfl,rfl,by omega,by omega⟩ ?_))))
  show((j:Int)-iq (c:Int) 1).toNat<((j:Int)-(i:Int)).toNat;rw[lG ah];omega
  show((c:Int)-(i:Int)).toNat<((j:Int)-(i:Int)).toNat;omega
  refine je (λs=>∃ p:Nat,s.1=(p:Int)/\p<=m/\SL N P s.2) (λs=>s.1.toNat) ⟨m,rfl,by omega,hl⟩ (by show m<18446744073709551616;omega) ?_
  rintro⟨p',d⟩ k3 ⟨p,e,hp,U⟩ hk3
  simp only at e U;subst e;have hL:=U.len;unfold mY;refine gp (λh=>?_) λ_=>gm U;have h:i<p:=by simpa using h
  simp only[aav (show 1<=p by omega) ah];refine ja (p-1) rfl ah (iR ah (ja p rfl ah (iR ah (ja p rfl ah (iR ah (ja (p-1) rfl ah (iR bg (hk3 _ ⟨p-1,rfl,by omega,(U.set _ (U.get _)).set _ (U.get _)⟩ ?_))))))));simp only[Int.toNat_natCast];omega
  refine gY (Uk ah) ?_;have q1:2*((a+b) / 2)<=a+b:=by omega
  have q2:a+b<=2*((a+b) / 2)+1:=by omega
  generalize (a+b) / 2=c at q1 q2;simp only[wrapN (show c<4611686018427387904 by omega),addN (show c+m<4611686018427387904 by omega)];refine gV (λs=>∃ i j:Nat,s.1=(i:Int)/\s.2=(j:Int)/\a<=i/\c+m<=b+i/\i<=j/\j<=c+m/\(∀ x,i<=x->x<j->x<c+m/\c+m-1-x<N/\x<N)) (λk43 h43=>?_) λs hs=>?_
  refine gp (λh=>?_) λh=>?_
  have h:c<m:=by simpa using h
  rw[RZ (show b<=c+m by omega) ah];exact h43 _ ⟨c+m-b,c,rfl,rfl,by omega,by omega,by omega,by omega,λx hx0 hx=>by omega⟩
  have h:m<=c:=by(try simp only at h);omega
  exact h43 _ ⟨a,m,rfl,rfl,by omega,by omega,by omega,by omega,λx hx0 hx=>by omega⟩
  obtain⟨i0,j0,e1,J,g1,g2,g3,g4,g5⟩:=hs;rw[e1,J];refine je (λs=>∃ i j:Nat,s.1=(i:Int)/\s.2=(j:Int)/\i0<=i/\i<=j/\j<=j0) (λs=>(s.2-s.1).toNat) ⟨i0,j0,rfl,rfl,by omega,g3,by omega⟩ (by show((j0:Int)-(i0:Int)).toNat<18446744073709551616;omega) ?_
  rintro⟨i',j'⟩ k ⟨i,j,e1,J,hi,hij,hj⟩ hk
  simp only at e1 J;subst e1 J;unfold ng;simp only[wrapN (show c<4611686018427387904 by omega),addN (show c+m<4611686018427387904 by omega),aav (show 1<=c+m by omega) ah];refine gp (λh=>?_) λ_=>?_
  have h:i<j:=by simpa using h
  refine gY (Uk ah) ?_;have r1:i<=(i+j) / 2:=by omega
  have r2:(i+j) / 2<j:=by omega
  generalize (i+j) / 2=x at r1 r2;obtain⟨r3,r4,r5⟩:=g5 x ah ah;simp only[wrapN (show x<4611686018427387904 by omega),RZ (show x<=c+m-1 by omega) ah];refine yC (ja (c+m-1-x) rfl ah (iR ah (ja x rfl ah (iR ah (gu (hc _ _) λ_ _=>gz (λ_=>hk _ ⟨x+1,j,lG ah,rfl,by omega,by omega,hj⟩ ?_) λ_=>hk _ ⟨i,x,rfl,rfl,hi,by omega,by omega⟩ ?_)))))
  show((j:Int)-iq (x:Int) 1).toNat<((j:Int)-(i:Int)).toNat;rw[lG ah];omega
  show((x:Int)-(i:Int)).toNat<((j:Int)-(i:Int)).toNat;omega
  simp only[RZ (show i<=c+m by omega) ah];refine gV (SL N P) (λk56 h56=>?_) λd U=>?_
  refine gV (λc2=>c2=true->i<m/\m<c+m-i) (λk59 h59=>?_) λc2 I=>gz (λC=>?_) λ_=>h56 _ hl
  refine gp (λhx=>h59 _ λhy=>⟨by simpa using hx,by have:=of_decide_eq_true hy;omega⟩) λ_=>h59 _ λh=>by cases h
  obtain⟨p1,p2⟩:=I C;exact gu (abO hN hc hl p1 p2 ah) λd U=>h56 _ U
  refine gV (SL N P) (λk63 g=>?_) λd2 T=>ou λv hv=>gz (λhv2=>?_) λ_=>gm T
  refine gV (λc2=>c2=true->a<i/\i<c) (λk66 h66=>?_) λc2 I=>gz (λC=>?_) λ_=>g _ U
  exact gp (λhx=>h66 _ λhy=>⟨by simpa using hx,by have:=of_decide_eq_true hy;omega⟩) λ_=>h66 _ λh=>by cases h
  obtain⟨p1,p2⟩:=I C;exact gu (KC n U p1 p2 ah ah) λd2 T=>g _ T
  rw[hv] at hv2;have p1:c<c+m-i:=by have:=of_decide_eq_true hv2;omega
  refine gp (λh=>?_) λ_=>gm T;have p2:c+m-i<b:=by simpa using h
  exact gu (KC n T p1 p2 hb ah) λd3 hd3=>gm hd3
theorem Xy {l:List gq}{a m b:Nat}(hl:SL N P l)(h1:a<m)(h2:m<b)(U:b<=N):Ok (SL N P) (l7 l a m b cmp) :=
 KC hN hc 70 hl h1 h2 U (by
  have:(1000000000000:Nat)<=2 ^ 70:=by decide
  omega)
theorem abP {l:List gq}(hl:SL N P l):Ok (SL N P) (kJ l N cmp):=by
 unfold kJ;refine je (λs=>∃ i:Nat,s.1=(i:Int)/\s.2.1=((i+20:Nat):Int)/\i<=N/\SL N P s.2.2) (λs=>N-s.1.toNat) ⟨0,rfl,rfl,by omega,hl⟩ (by show N-_<18446744073709551616;omega) ?_
 rintro⟨C,g,d⟩ k ⟨i,e1,I,hi,T⟩ hk
 simp only at e1 I T;subst e1 I;unfold nS;refine gp (λh=>?_) λh=>?_
 have h:i+20<=N:=by(try simp only at h);omega
 refine gu (VI hN hc T ah h) λd2 U=>hk _ ⟨i+20,rfl,?_,h,U⟩ bK;show iq ((i+20:Nat):Int) 20=_;rw[kL ah ah];omega
 refine gu (VI hN hc T ah (Nat.le_refl N)) λd2 U=>?_;refine je (λs=>∃ z:Nat,s.1=(z:Int)/\20<=z/\z<=2*N+20/\SL N P s.2) (λs=>2*N+20-s.1.toNat) ⟨20,rfl,by omega,by omega,U⟩ (by show 2*N+20-_<18446744073709551616;omega) ?_
 rintro⟨z',d⟩ k2 ⟨z,e,hz,hz2,T⟩ hk2
 simp only at e T;subst e;unfold nR;refine gp (λh=>?_) λ_=>gm T;have h:z<N:=by simpa using h
 have I:X8 2 (z:Int)=((2*z:Nat):Int):=by rw[acT ah ah];omega
 have e3:X8 (z:Int) 2=((2*z:Nat):Int):=by rw[acT ah ah];omega
 simp only[I];refine je (λs=>∃ i:Nat,s.1=(i:Int)/\s.2.1=((i+2*z:Nat):Int)/\i<=N/\SL N P s.2.2) (λs=>N-s.1.toNat) ⟨0,rfl,by simp,by omega,T⟩ (by show N-_<18446744073709551616;omega) ?_
 rintro⟨C,g,d⟩ k3 ⟨i,f1,f2,hi,T⟩ hk3
 simp only at f1 f2 T;subst f1 f2;unfold nP;simp only[I,e3,addN (show i+z<4611686018427387904 by omega)];refine gp (λh=>?_) λh=>?_
 have h:i+2*z<=N:=by(try simp only at h);omega
 refine gu (Xy hN hc T ah ah h) λd2 U=>hk3 _ ⟨i+2*z,rfl,?_,h,U⟩ bK;show iq ((i+2*z:Nat):Int) ((2*z:Nat):Int)=_;rw[addN ah]
 have h:N<i+2*z:=by(try simp only at h);omega
 refine gV (SL N P) (λk14 J=>gp (λh2=>?_) λ_=>J _ T) λd2 U=>hk2 _ ⟨2*z,rfl,by omega,by omega,U⟩ bK;have h2:i+z<N:=by(try simp only at h2);omega
 exact gu (Xy hN hc T ah h2 (Nat.le_refl N)) λd2 U=>J _ U
end
theorem afN {P:gq->Prop}{cmp:gq->gq->Option Int}(hc:∀ x y,Ok (λ_=>True) (cmp x y)){l:List gq}(hl:l.length<=1000000000000)(hp:∀ x∈l,P x):Ok (SL l.length P) (kE l cmp):=by
 unfold kE;exact gu (abP hl hc ⟨rfl,hp⟩) λd U=>gm U
theorem aaw (a:iP)(h:lT a):rf a=some a:=by
 obtain⟨_,g1,_,g2,g3,_⟩:=h;have p1:=g1.1;have p2:=g2.1;have p3:=g3.1;unfold rf;refine ok_eq (gY aO (gY bF (gY bP ?_)));refine ku 0 a.kR.length (λn l=>l=a.kR) 0 rfl (Nat.zero_le _) ah rfl (λj l2 k2 hj U T=>?_) λl2 k2 U=>?_
 subst U;have J:=(g3.2 _ (List.getElem_mem hj)).2.2.2.2.1;unfold ug;refine gp (λ_=>ja j rfl hj (iR hj (gY aO (ja j rfl hj (iR hj (T _ ?_)))))) λh=>absurd (show(j:Int)<(a.kR.length:Int) by omega) h;exact set_self hj rfl
 subst U;unfold ug;exact gp (λh=>absurd h dh) λ_=>gm rfl
def aax (all:List gG):Prop:=∀ t∈all,kV t
def xP (w:gq):Prop:=lT w.jr
theorem afO (all:List gG)(i:Nat)(h:aax all):Ok kV (Bz all (i:Int)):=by
 unfold Bz;exact gp (λh1=>kQ ah (by simpa [gJ] using h1) λx hx=>gm (h x hx)) λ_=>gm adF
theorem aay (s:gB)(all:List gG)(w:gq)(id:Int)(hs:s.objects.length<=2048)(T:aax all)(U:xP w):Ok (λ_=>True) (Gw s all w id):=by
 unfold Gw;refine pJ 0 s.objects.length (λ_=>True) 0 rfl (Nat.zero_le _) ah trivial (λi k hi _ hk=>?_) λk _=>?_
 unfold IP;exact gp (λ_=>iM i rfl hi (gp (λ_=>gu (afO _ _ T) λt ht=>gu (xQ _ _ _ _ _ ht U.2.2.1) λ_ _=>gm trivial) λ_=>hk trivial)) λh=>absurd (show(i:Int)<(s.objects.length:Int) by omega) h
 unfold IP;exact gp (λh=>absurd h aU) λ_=>gm trivial
theorem NH (l:List iw)(f:iw->Option Bool)(hl:l.length<=2000000)(O:∀ x,Ok (λ_=>True) (f x)):Ok (λr=>r<(l.length:Int)) (jK l f):=by
 unfold jK;refine pJ 0 l.length (λ_=>True) 0 rfl (Nat.zero_le _) ah trivial (λi k hi _ hk=>?_) λk _=>?_
 unfold sN;exact gp (λ_=>iM i rfl hi (gu (O _) λb _=>gz (λ_=>gm (by show(i:Int)<(l.length:Int);omega)) λ_=>hk trivial)) λh=>absurd (show(i:Int)<(l.length:Int) by omega) h
 unfold sN;exact gp (λh=>absurd h aS) λ_=>gm (by show(-1:Int)<_;omega)
theorem QX (l:List iw)(f:iw->Option Bool)(hl:l.length<=2000000)(O:∀ x,Ok (λ_=>True) (f x)):Ok (λ_=>True) (l9 l f):=by
 unfold l9;exact gu (NH l f hl O) λ_ _=>gm trivial
structure Ul (c:kK):Prop where
 b:c.before.objects.length<=2048
 a:c.after.objects.length<=2048
 ab:aax c.nK
 aa:aax c.oV
 k2:c.e.kind≠2
 k10:c.e.kind≠10
theorem left_ok {c:kK}(h:Ul c):Ok (λ_=>True) (Gx c):=by
 unfold Gx;refine gu (QX _ _ (by have:=h.b;omega) λx=>?_) λ_ _=>gu (QX _ _ (by have:=h.a;omega) λx=>?_) λ_ _=>?_
 unfold BA;exact gp (λ_=>gm trivial) λ_=>gm trivial
 unfold BB;exact gm trivial
 exact gp (λ_=>gz (λ_=>gm trivial) λ_=>gm trivial) λ_=>gm trivial
theorem aaz (kind id:Int)(s:gB)(all:List gG)(c:kK){w:gq}(hs:s.objects.length<=2048)(T:aax all)(U:xP w):Ok (λr=>r.length<=1) (ny kind id s all c w):=by
 unfold ny;exact gp (λ_=>gu (aay s all w id hs T U) λ_ _=>gz (λ_=>gm aC) λ_=>gm aC) λ_=>gm aC
theorem aaA {c:kK}{w:gq}(h:Ul c)(U:xP w):Ok (λr=>r.length<=1) (BC c w):=by
 have nil:Ok (λr:List Int=>r.length<=1) (some []):=gm aC;have B:=λkind id=>gu (aaz kind id c.before c.nK c h.b h.ab U) (k:=λy=>some y) λy hy=>gm (Q:=λr:List Int=>r.length<=1) hy;have A:=λkind id=>gu (aaz kind id c.after c.oV c h.a h.aa U) (k:=λy=>some y) λy hy=>gm (Q:=λr:List Int=>r.length<=1) hy;unfold BC;refine gp (λ_=>gV (λb=>b=true) (λk hk=>?_) λb T=>by subst T;exact nil) λ_=>?_
 exact lU (λ_=>hk _ (by simp[h.k10])) λe=>absurd e h.k2
 refine gp (λ_=>gu (left_ok h) λ_ _=>gz (λ_=>B _ _) λ_=>nil) λ_=>?_;refine gp (λ_=>gV (λ_=>True) (λk hk=>gu (left_ok h) λ_ _=>gz (λ_=>hk _ trivial) λ_=>hk _ trivial) λb _=>gz (λ_=>B _ _) λ_=>nil) λ_=>?_;exact gp (λ_=>A _ _) λ_=>gp (λ_=>A _ _) λ_=>gp (λ_=>A _ _) λ_=>gp (λ_=>B _ _) λ_=>gp (λ_=>lU (λ_=>B _ _) λ_=>nil) λ_=>nil
theorem abQ (s:gB)(p you who:Int):Ok (λ_=>True) (Fj s p you who):=by
 unfold Fj;refine gV (λ_=>True) (λk hk=>gp (λ_=>hk _ trivial) λh0=>gp (λ_=>hk _ trivial) λh1=>kQ ah (by simp only[gJ] at h1;omega) λ_ _=>hk _ trivial) λb _=>?_;exact gz (λ_=>gm trivial) λ_=>gp (λ_=>gm trivial) λ_=>gp (λ_=>gm trivial) λ_=>gp (λ_=>gm trivial) λ_=>gm trivial
theorem adL (n:Int):Ok (λ_=>True) (Fh n):=by
 unfold Fh;exact gp (λ_=>gm trivial) λ_=>gp (λ_=>gm trivial) λ_=>gp (λ_=>gm trivial) λ_=>gp (λ_=>gm trivial) λ_=>gp (λ_=>gm trivial) λ_=>gp (λ_=>gm trivial) λ_=>gm trivial
def Sj (n:Nat)(r:List iL):Prop:=r.length<=n/\∀ x∈r,qB x
theorem abR {c:kK}{w:gq}(h:Ul c)(U:xP w):Ok (Sj 1) (zf c w):=by
 have nil:Sj 1 []:=⟨by simp,by simp⟩;unfold zf;refine gY (aaw _ U) (gu (adL _) λy _=>lU (λ_=>?_) λ_=>?_)
 refine gV (λ_=>True) (λk hk=>gp (λ_=>gu (abQ _ _ _ _) λ_ _=>hk _ trivial) λ_=>hk _ trivial) λb _=>?_;refine gV (λ_=>True) (λk hk=>gz (λ_=>hk _ trivial) λ_=>gp (λ_=>gu (aay _ _ _ _ h.a h.aa U) λ_ _=>hk _ trivial) λ_=>hk _ trivial) λb _=>?_;refine gz (λ_=>gm nil) λ_=>gm ⟨by simp,λx hx=>?_⟩;rw[List.mem_singleton.1 hx];exact U
 refine gu (aaA h U) λl hl=>?_;refine ku 0 l.length (λi t=>Sj i t) 0 rfl (Nat.zero_le _) ah ⟨by simp,by simp⟩ (λi t k hi J hk=>?_) λt k J=>?_
 have h1:=J.1;unfold yw;refine gp (λ_=>gV (Sj (i+1)) (λk16 C=>?_) λu hu=>hk u hu) λh=>absurd (show(i:Int)<(l.length:Int) by omega) h;refine iM i rfl hi (gY (aaw _ U) (gV (λ_=>True) (λk21 I=>gV (λ_=>True) (λk24 T=>gp (λ_=>T _ trivial) λ_=>T _ trivial) λb _=>gz (λ_=>I _ trivial) λ_=>I _ trivial) λo _=>jH (by show(2*(t.length+1)+192)*768<=_;omega) aZ (C _ ⟨by simp;omega,λx hx=>?_⟩)));rcases List.mem_append.1 hx with hx|hx
 exact J.2 x hx
 rw[List.mem_singleton.1 hx];exact U
 unfold yw;exact gp (λh=>absurd h aS) λ_=>gm ⟨by have:=J.1;show t.length<=1;omega,J.2⟩
theorem Y8 (n:Int):Ok (λ_=>True) (zK n):=by
 unfold zK;exact gp (λ_=>gm trivial) λ_=>gp (λ_=>gm trivial) λ_=>gp (λ_=>gm trivial) λ_=>gm trivial
theorem afP {l:List gq}(w:gq)(h:l.length<=10000000000):ve l w=some (true,l++[w]):=by
 unfold ve;have e:l.length+[w].length=l.length+1:=rfl;rw[e];exact ok_eq (jH ah ah (gm rfl))
theorem acW (l0:List gq)(s:gB)(all:List gG)(e:Bool)(hs:s.objects.length<=2048)(ha:aax all)(h0:l0.length<=3000000000)(hp:∀ x∈l0,xP x):Ok (λr=>r.length<=l0.length+2147483648/\∀ x∈r,xP x) (pg l0 s all e):=by
 unfold pg;refine ku 0 s.objects.length (λi t=>t.length<=l0.length+1048576*i/\∀ x∈t,xP x) 0 rfl (Nat.zero_le _) ah ⟨by omega,hp⟩ (λi t k hi U hk=>?_) λt k U=>?_
 have jO:t.length<=l0.length+1048576*i:=U.1;have up:t.length<=l0.length+1048576*(i+1):=by omega
 have C:=U.2;unfold rq;refine gp (λ_=>gV (λu=>u.length<=l0.length+1048576*(i+1)/\∀ x∈u,xP x) (λk5 h5=>?_) λu hu=>hk u hu) λh=>absurd (show(i:Int)<(s.objects.length:Int) by omega) h;refine iM i rfl hi (lU (λ_=>h5 _ ⟨up,C⟩) λ_=>gu (afO _ _ ha) λtr g=>?_);have hal:=g.2.2.1;refine je (λq=>∃ j:Nat,q.2.1=(j:Int)/\j<=tr.gU.length/\q.2.2.length<=l0.length+1048576*i+j/\∀ x∈q.2.2,xP x) (λq=>tr.gU.length-q.2.1.toNat) ⟨0,rfl,by omega,by simpa using jO,C⟩ (by show tr.gU.length-_<18446744073709551616;omega) ?_
 rintro⟨o,j',u⟩ k10 ⟨j,ej,hj,hu,hU⟩ hk10
 simp only at ej hu hU;subst ej;unfold vg;refine gp (λh=>?_) λh=>h5 _ ⟨by simp only[gJ] at h;show u.length<=_;omega,hU⟩;have J:j<tr.gU.length:=by simp only[gJ] at h;omega
 refine gV (λq=>q.2.length<=l0.length+1048576*i+(j+1)/\∀ x∈q.2,xP x) (λk13 I=>?_) λq hq=>hk10 _ ⟨j+1,lG ah,by omega,hq.1,hq.2⟩ bI;refine iM j rfl J (gV (λ_=>True) (λk17 T=>lU (λ_=>T _ trivial) λ_=>gu (Y8 _) λ_ _=>T _ trivial) λb _=>gz (λ_=>I _ ⟨by show u.length<=_;omega,hU⟩) λ_=>gY (afP _ (by show u.length<=_;omega)) (iY rfl (I _ ⟨by show(u++_).length<=_;simp;omega,λx hx=>?_⟩)));rcases List.mem_append.1 hx with hx|hx
 exact hU x hx
 rw[List.mem_singleton.1 hx];exact g.2.2.2 _ (List.getElem_mem J)
 unfold rq;exact gp (λh=>absurd h aU) λ_=>gm ⟨by have:=U.1;show t.length<=_;omega,U.2⟩
theorem agQ (a b:gq):Ok (λ_=>True) (oJ a b):=by
 have C:∀ x y:Int,Ok (λ_=>True) (cmp_Compare_int x y):=λx y=>by
  unfold cmp_Compare_int cmp_isNaN_int;exact gY rfl (gY rfl (gz (λ_=>gz (λ_=>gm trivial) λ_=>gm trivial) λ_=>gz (λ_=>gm trivial) λ_=>gp (λ_=>gm trivial) λ_=>gp (λ_=>gm trivial) λ_=>gm trivial))
 unfold oJ;refine gu (C _ _) λx _=>gu (C _ _) λy _=>gu (R:=λ_=>True) ?_ λ_ _=>gm trivial;unfold OY;refine pJ 0 2 (λ_=>True) 0 rfl ah ah trivial (λi k hi _ hk=>?_) λk _=>?_
 unfold IM;exact gp (λ_=>iM i rfl cu (lU (λ_=>gm trivial) λ_=>hk trivial)) λ_=>gm trivial
 unfold IM;exact gp (λh=>absurd h (by simp[gJ])) λ_=>gm trivial
theorem afQ (b:gB)(ab:List gG)(a:gB)(aa:List gG)(e:kz)(h:Ul ⟨b,a,ab,aa,e⟩):Ok (Sj 5000000000) (xJ b ab a aa e):=by
 unfold xJ zJ;refine gY rfl (gu (acW [] b ab true h.b h.ab aC aC) λg h1=>gY rfl (gu (acW g a aa false h.a h.aa (by have:=h1.1;simp at this;omega) h1.2) λl2 h2=>?_));have hlen:l2.length<=5000000000:=by have:=h1.1;have:=h2.1;simp at *;omega
 refine gu (afN agQ (P:=xP) ah h2.2) λd I=>?_;have C:=I.len;have U:d.length<=5000000000:=by omega
 refine ku 0 d.length (λi t=>t.2=d/\Sj i t.1) 0 rfl (Nat.zero_le _) ah ⟨rfl,by simp,by simp⟩ (λi t k hi J hk=>?_) λt k J=>?_
 obtain⟨t1,t2⟩:=t;obtain⟨rfl,T,i2⟩:=J;have T:t1.length<=i:=T;have i2:∀ x∈t1,qB x:=i2;have hi:i<t2.length:=hi;have U:t2.length<=5000000000:=U;unfold BD;refine gp (λ_=>ja i rfl hi (iR hi (gu (abR h (I.get hi)) λy hy=>jH ?_ ?_ (hk _ ⟨rfl,?_,λx hx=>?_⟩)))) λh=>absurd (show(i:Int)<(t2.length:Int) by omega) h
 have:=hy.1;have:i<=5000000000:=by omega
 show(2*(t1.length+y.length)+192)*768<=_;omega
 have:=hy.1;have:i<=5000000000:=by omega
 show t1.length+y.length<=_;omega
 have:=hy.1;simp only[List.length_append];omega
 rcases List.mem_append.1 hx with hx|hx
 exact i2 x hx
 exact hy.2 x hx
 obtain⟨t1,t2⟩:=t;obtain⟨rfl,T,i2⟩:=J;have T:t1.length<=t2.length:=T;have U:t2.length<=5000000000:=U;unfold BD;exact gp (λh=>absurd h (by show ¬ (t2.length:Int)<(t2.length:Int);omega)) λ_=>gm ⟨Nat.le_trans T U,i2⟩
theorem adM {l:List jP}(h:l.length<=1048576):yK l=some l:=ok_eq (Ip (jH ah ah (gm rfl)))
theorem O4 {l:List Int}(h:l.length<=1048576):slices_Clone_int l=some l:=ok_eq (Ip (jH ah ah (gm rfl)))
theorem adN {l:List iw}(h:l.length<=1048576):yL l=some l:=ok_eq (Ip (jH ah ah (gm rfl)))
theorem agR {l:List og}(h:l.length<=1048576):Bi l=some l:=ok_eq (Ip (jH ah ah (gm rfl)))
theorem agS {l:List sH}(h:l.length<=1048576):oC l=some l:=ok_eq (Ip (jH ah ah (gm rfl)))
theorem adO {l:List jg}(h:l.length<=1048576):qc l=some l:=ok_eq (Ip (jH ah ah (gm rfl)))
theorem abS {l:List lZ}(h:l.length<=1048576):jR l=some l:=ok_eq (Ip (jH ah ah (gm rfl)))
theorem adP {l:List qF}(h:l.length<=1048576):yM l=some l:=ok_eq (Ip (jH ah ah (gm rfl)))
theorem abT {l:List iL}(h:l.length<=1048576):xI l=some l:=ok_eq (Ip (jH ah ah (gm rfl)))
theorem agT {l:List pM}(h:l.length<=1048576):Bj l=some l:=ok_eq (Ip (jH ah ah (gm rfl)))
theorem KD {α:Type}{l:List α}{i:Nat}(h:i<l.length):l.set i l[i]=l:=List.set_getElem_self h
theorem afR {e:jg}(h:oP e):e.mr.length<=1048576:=h.2.2.2.2.1
theorem MK (a:iP)(U:lT a):rZ a=some a:=by
 have h1:a.mr.length<=1048576:=U.2.1.1;have h2:a.specs.length<=1048576:=U.2.2.2.1.1;have T:a.kR.length<=1048576:=U.2.2.2.2.1.1;unfold rZ;refine ok_eq (gY (abS h1) (gY (agS h2) (gY (adO T) ?_)));refine ku 0 a.kR.length (λ_ t=>t=a.kR) 0 rfl (Nat.zero_le _) ah rfl ?_ ?_
 rintro i t k hi rfl hk
 have J:=afR (U.2.2.2.2.1.2 _ (List.getElem_mem hi));unfold uG;exact gp (λ_=>ja i rfl hi (iR hi (gY (abS J) (ja i rfl hi (iR hi (hk _ (KD hi))))))) λh=>absurd (show(i:Int)<(a.kR.length:Int) by omega) h
 rintro t k rfl
 unfold uG;exact gp (λh=>absurd h dh) λ_=>gm rfl
theorem V8 (p:jP)(hp:yg p):zI p=some p:=by
 unfold zI;exact ok_eq (gY (O4 hp.1.1) (gY (O4 hp.2.1.1) (gY (O4 hp.2.2.1) (gm rfl))))
theorem KF (s:gB)(hs:lF s):uZ s=some s:=by
 obtain⟨p1,p2,p3,p4,p5,p6,p7,p8⟩:=hs;have q1:=p1.1;have q2:=p2.1;have g:=p3.1;have T:=p4.1;have I:=p5.1;have U:=p6.1;have C:=p7.1;have J:=p8.1;unfold uZ;refine ok_eq (gY (adM q1) ?_);refine ku 0 s.iJ.length (λ_ t=>t=s.iJ) 0 rfl (Nat.zero_le _) ah rfl ?_ ?_
 rintro i t k hi rfl hk
 unfold Bv;exact gp (λ_=>ja i rfl hi (iR hi (gY (V8 _ (p1.2 _ (List.getElem_mem hi))) (ja i rfl hi (iR hi (hk _ (KD hi))))))) λh=>absurd (show(i:Int)<(s.iJ.length:Int) by omega) h
 rintro t _ rfl
 unfold Bv;refine gp (λh=>absurd h (by show ¬ (s.iJ.length:Int)<(s.iJ.length:Int);omega)) λ_=>?_;refine gY (adN q2) (gY (O4 g) (gY (O4 T) (gY (agR I) ?_)));refine ku 0 s.stack.length (λ_ t=>t=s.stack) 0 rfl (Nat.zero_le _) ah rfl ?_ ?_
 rintro i t k hi rfl hk
 have z:=p5.2 _ (List.getElem_mem hi);have ht:(s.stack[i]).targets.length<=1048576:=z.2.1;unfold Bq;refine gp (λ_=>ja i rfl hi (iR hi (gY (MK _ z.1) (ja i rfl hi (iR hi (ja i rfl hi ?_)))))) λh=>absurd (show(i:Int)<(s.stack.length:Int) by omega) h;have e:s.stack.set i { s.stack[i] with jr:=(s.stack[i]).jr }=s.stack:=KD hi;simp only[e];exact iR hi (gY (adP ht) (ja i rfl hi (iR hi (hk _ (KD hi)))))
 rintro t _ rfl
 unfold Bq;refine gp (λh=>absurd h (by show ¬ (s.stack.length:Int)<(s.stack.length:Int);omega)) λ_=>?_;refine gY (abT U) ?_;refine ku 0 s.waiting.length (λ_ t=>t=s.waiting) 0 rfl (Nat.zero_le _) ah rfl ?_ ?_
 rintro i t k hi rfl hk
 have z:lT (s.waiting[i]).jr:=p6.2 _ (List.getElem_mem hi);unfold Bo;exact gp (λ_=>ja i rfl hi (iR hi (gY (MK _ z) (ja i rfl hi (iR hi (hk _ (KD hi))))))) λh=>absurd (show(i:Int)<(s.waiting.length:Int) by omega) h
 rintro t _ rfl
 unfold Bo;refine gp (λh=>absurd h (by show ¬ (s.waiting.length:Int)<(s.waiting.length:Int);omega)) λ_=>?_;refine gY (agT C) ?_;refine ku 0 s.kW.length (λ_ t=>t=s.kW) 0 rfl (Nat.zero_le _) ah rfl ?_ ?_
 rintro i t k hi rfl hk
 have z:=p7.2 _ (List.getElem_mem hi);have z1:(s.kW[i]).objects.length<=1048576:=z.1.1;have z2:(s.kW[i]).mr.length<=1048576:=z.2.1;unfold Bl;refine gp (λ_=>ja i rfl hi (iR hi (gY (O4 z1) (ja i rfl hi (iR hi (ja i rfl hi ?_)))))) λh=>absurd (show(i:Int)<(s.kW.length:Int) by omega) h;have e:s.kW.set i { s.kW[i] with objects:=(s.kW[i]).objects }=s.kW:=KD hi;simp only[e];exact iR hi (gY (abS z2) (ja i rfl hi (iR hi (hk _ (KD hi)))))
 rintro t _ rfl
 unfold Bl;refine gp (λh=>absurd h dY) λ_=>?_;exact gY (O4 J) (gm rfl)
end Go.Proofs.YtchmoabpofnbaaaGreat
