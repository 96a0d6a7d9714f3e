import Derived.Test.YtchmoabpofnbaaaGreatB11
import Derived.Test.YtchmoabpofnbaaaGreatB46
set_option linter.all false
namespace Go.Proofs.YtchmoabpofnbaaaGreat
open Go Go.Pv
set_option maxRecDepth 100000
def mF (x:kD):Prop:=Hr x.sub
def wS (x:nC):Prop:=Hr x.sub/\mF x.filter
def FN (x:xh):Prop:=mF x.filter
def GI (x:rW):Prop:=mF x.filter
def Xv (x:Ug):Prop:=mF x.filter
def LK (x:xO):Prop:=mF x.filter
def qo (x:jh):Prop:=Xv x.ref/\LK x.amount/\Hr x.card/\mF x.filter/\(rM wS) x.mQ
def yU (x:oQ):Prop:=mF x.filter
def lL (x:iG):Prop:=mF x.filter/\(rM wS) x.mQ/\FN x.iM/\(rM GI) x.specs/\(rM qo) x.jX/\yU x.replace
def zF (x:jO):Prop:=(rM (λ(_:Int)=>True)) x.library/\(rM (λ(_:Int)=>True)) x.hand/\(rM (λ(_:Int)=>True)) x.BC
def LM (x:oN):Prop:=lL x.jM/\(rM (λ(_:ru)=>True)) x.targets
def qV (x:iP):Prop:=lL x.jM
def Sv (x:qc):Prop:=(rM (λ(_:Int)=>True)) x.objects/\(rM wS) x.mQ
def kZ (x:gW):Prop:=(rM zF) x.gU/\(rM (λ(_:iy)=>True)) x.objects/\(rM (λ(_:Int)=>True)) x.jk/\(rM (λ(_:Int)=>True)) x.qZ/\(rM LM) x.stack/\(rM qV) x.waiting/\(rM Sv) x.mf/\(rM (λ(_:Int)=>True)) x.extra
theorem five {i:Nat}(h:i<5):i=0\/i=1\/i=2\/i=3\/i=4:=by omega
theorem Xw {ρ:Type}{Q:ρ->Prop}{n m:Nat}{k:Nat->Option ρ}(h:n<m)(hk:Ok Q (k n)):Ok Q (qR (n:Int) m k):=wK ah ah λj hj=>by
 have:j=n:=by omega
 rw[this];exact hk
def Xx (c:Z5 Int):Nat->Int
 | 0=>c.a0|1=>c.a1|2=>c.a2|3=>c.a3|_=>c.a4
def isC (c:rG):Prop:=(0<=c.generic/\c.generic<=99/\0<=c.x/\c.x<=2)/\∀ j,j<5->0<=Xx c.color j/\Xx c.color j<=9
theorem BL {ρ:Type}{Q:ρ->Prop}{c:Bool}{a b:Option ρ}(h:c=true)(hk:Ok Q a):Ok Q (br c a b):=by subst h;exact hk
theorem lV {ρ:Type}{Q:ρ->Prop}{c:Bool}{a b:Option ρ}(h:c=false)(hk:Ok Q b):Ok Q (br c a b):=by subst h;exact hk
def zM (x:zt):Prop:=(rM Hr) x.subs
def mG (x:jc):Prop:=Hr x.name/\zM x.line/\(rM lL) x.gQ
def SW (n:Nat)(l:List ByteArray):Prop:=l.length=n/\n<=100/\∀ x∈l,x.size<=100
theorem SW.sz {n:Nat}{l:List ByteArray}(h:SW n l):rM Hr l:=⟨by have:=h.1;have:=h.2.1;omega,λx hx=>by have:=h.2.2 x hx;show x.size<=1048576;omega⟩
def WL (n:Nat)(l:List ByteArray):Prop:=l.length<=n/\∀ x∈l,x.size<=140737488360000
theorem WL.add {n:Nat}{l:List ByteArray}{x:ByteArray}(h:WL n l)(hx:x.size<=140737488360000):WL (n+1) (l++[x]):=⟨by have:=h.1;simp;omega,λy hy=>by
 rcases List.mem_append.1 hy with hy|hy
 exact h.2 y hy
 rw[List.mem_singleton.1 hy];exact hx⟩
theorem WL.mono {n m:Nat}{l:List ByteArray}(h:WL n l)(U:n<=m):WL m l:=⟨by have:=h.1;omega,h.2⟩
theorem Xy:lL BF:=by
 simp[lL,mF,FN,yU,Hr,rM,BF,lM,Lc,Ld,oz]
theorem VQ (n:Int):0<=IntKind.u64.wrap n/\IntKind.u64.wrap n<18446744073709551616:=by rw[IntKind.wrap_u64];omega
theorem u64q {x:Int}(h0:0<=x)(h1:x<18446744073709551616):IntKind.u64.wrap (x.tdiv 10)=x / 10:=by
 rw[Int.tdiv_eq_ediv_of_nonneg h0,IntKind.wrap_u64];omega
theorem Iz (a:List nC)(b:List nC)(zz_a:(rM wS) a)(T:(rM wS) b):Ok (λr=>True) (Ag a b):=by
 unfold Ag;have z3:=(T).1;refine lN (λh5=>?_) (λh5=>?_)
 (try simp only[ik] at h5)
 exact gB trivial
 (try simp only[ik] at h5)
 refine jg (λ(U:Int)=>0<=U/\U<=(a.length:Int)) (λ(U:Int)=>((a.length:Int)-U).toNat) ⟨ae,ae⟩ aj (λU k2 C g=>?_);obtain⟨I,hI6_1⟩:=C;unfold Jv;apply gG<;>intro h8
 (try simp only[ik] at h8)
 refine lT ae ae (λx4 h9=>?_);refine lT ae ae (λx5 h14=>?_);refine oh (λv6 h19=>?_);refine gK (λJ=>gB trivial) (λJ=>?_);have h21:iI U 1=U+1:=kC ah ah;exact g _ ⟨ae,ae⟩ ae
 (try simp only[ik] at h8)
 exact gB trivial
theorem Xz (a:jh)(b:jh)(T:qo a)(U:qo b):Ok (λr=>True) (O4 a b):=by
 unfold O4;have z10:=((T).2.2.2.2).1;have z11:=((T).2.2.2.2).2;have z21:=((U).2.2.2.2).1;have z22:=((U).2.2.2.2).2;exact gG (λJ=>oh (λv1 h24=>gK (λh25=>oh (λv2 h26=>gK (λI=>gG (λg=>gG (λC=>gK (λh30=>oh (λv3 h31=>gK (λh32=>oh (λv4 h33=>gK (λh34=>gJ (Iz _ _ ax ax) (λy5 h35=>gB trivial)) (λh34=>gB trivial))) (λh32=>gB trivial))) (λh30=>gB trivial)) (λC=>gB trivial)) (λg=>gB trivial)) (λI=>gB trivial))) (λh25=>gB trivial))) (λJ=>gB trivial)
theorem Qz (a:List jh)(b:List jh)(J:(rM qo) a)(U:(rM qo) b):Ok (λr=>True) (Ee a b):=by
 unfold Ee;have z2:=(J).2;have z3:=(U).1;have z4:=(U).2;refine lN (λh5=>?_) (λh5=>?_)
 (try simp only[ik] at h5)
 exact gB trivial
 (try simp only[ik] at h5)
 refine jg (λ(T:Int)=>0<=T/\T<=(a.length:Int)) (λ(T:Int)=>((a.length:Int)-T).toNat) ⟨ae,ae⟩ aj (λT k2 C g=>?_);obtain⟨I,hI6_1⟩:=C;unfold Jw;apply gG<;>intro h8
 (try simp only[ik] at h8)
 refine lT ae ae (λx4 h9=>?_);have z10:qo x4:=z2 x4 h9;refine lT ae ae (λx5 h22=>?_);have z23:qo x5:=z4 x5 h22;refine gJ (Xz _ _ bf bf) (λy6 h35=>?_);refine gK (λh36=>gB trivial) (λh36=>?_);have h37:iI T 1=T+1:=kC ah ah;exact g _ ⟨ae,ae⟩ ae
 (try simp only[ik] at h8)
 exact gB trivial
theorem XA (a:iG)(b:iG)(T:lL a)(U:lL b):Ok (λr=>True) (O5 a b):=by
 unfold O5;have z3:=((T).2.1).1;have z4:=((T).2.1).2;have z10:=((T).2.2.2.2.1).1;have z11:=((T).2.2.2.2.1).2;have z17:=((U).2.1).1;have z18:=((U).2.1).2;have z22:=((U).2.2.2.1).1;have z23:=((U).2.2.2.1).2;have z24:=((U).2.2.2.2.1).1;have z25:=((U).2.2.2.2.1).2;refine lN (λI=>?_) (λI=>?_)
 (try simp only[ik] at I)
 exact gB trivial
 (try simp only[ik] at I)
 refine jg (λ(J:Int)=>0<=J/\J<=(a.specs.length:Int)) (λ(J:Int)=>((a.specs.length:Int)-J).toNat) ⟨ae,ae⟩ aj (λJ k2 C g=>?_);obtain⟨hI30_0,hI30_1⟩:=C;unfold Rj;apply gG<;>intro h32
 (try simp only[ik] at h32)
 refine lT ae ae (λx4 h33=>?_);refine lT ae ae (λx5 h37=>?_);have z38:GI x5:=z23 x5 h37;refine oh (λv6 h41=>?_);refine gK (λh42=>gB trivial) (λh42=>?_);have h43:iI J 1=J+1:=kC ah ah;exact g _ ⟨ae,ae⟩ ae
 (try simp only[ik] at h32)
 exact gG (λh44=>oh (λv7 h45=>gK (λh46=>gJ (Iz _ _ ax ax) (λy8 h47=>gK (λh48=>oh (λv9 h49=>gK (λh50=>gK (λh51=>oh (λv10 h52=>gK (λh53=>gK (λh54=>gJ (Qz _ _ ax ax) (λy11 h55=>gK (λh56=>oh (λv12 h57=>gB trivial)) (λh56=>gB trivial))) (λh54=>gB trivial)) (λh53=>gB trivial))) (λh51=>gB trivial)) (λh50=>gB trivial))) (λh48=>gB trivial))) (λh46=>gB trivial))) (λh44=>gB trivial)
theorem A7 (l:List Int)(U:(rM (λ(_:Int)=>True)) l):Ok (λr=>r=l) (CY l):=by
 unfold CY;have z1:=(U).1;refine ku ae ae ?_;exact gB rfl
theorem kP (n:Int)(least:Int)(most:Int)  : Ok (λr=>True) (vJ n least most):=by
 unfold vJ;exact gG (λh1=>gB trivial) (λh1=>gB trivial)
theorem lH (s:gW)(p:Int)(U:kZ s):Ok (λr=>True) (ug s p):=by
 unfold ug;exact gJ (kP _ _ _ ) (λJ T=>gB trivial)
theorem FO (c:rG):Ok (λr=>r=true↔isC c) (Nz c):=by
 unfold Nz;refine gZ (λs=>s=decide (c.generic<0\/99<c.generic\/c.x<0\/2<c.x)) ?_ ?_
 intro k2 h2;exact gG (λh=>h2 _ bW) λa=>gG (λh=>h2 _ bW) λb=>gG (λh=>h2 _ bW) λd=>h2 _ (by simp[a,b,d])
 rintro s rfl
 refine gG (λh=>gB ⟨λh=>(by cases h),λhC=>by have:=hC.1;omega⟩) λh0=>?_;refine qi 0 5 (λn=>∀ j,j<n->0<=Xx c.color j/\Xx c.color j<=9) 0 rfl ah ah (λj h=>by omega) ?_ ?_
 intro i k hi U hk;unfold Qs;refine gG (λ_=>gZ (λs=>s=decide (Xx c.color i<0\/9<Xx c.color i)) ?_ ?_) λh=>absurd (show (i:Int)<5 by omega) h
 intro k6 T
 rcases five hi with rfl|rfl|rfl|rfl|rfl <;>
  exact Xw ah (gG (λh=>T _ (by simp only[Xx];simp[h])) λh=>Xw ah (T _ (by simp only[Xx];simp[h])))
 rintro s rfl
 refine gG (λh=>gB ?_) λh=>hk λj hj=>?_
 refine⟨λh=>(by cases h),λhC=>?_⟩;have:=hC.2 i hi;omega
 by_cases e:j=i
 subst e;omega
 exact U j ah
 intro k U;unfold Qs;exact gG (λh=>absurd h ah) λ_=>gB ⟨λ_=>⟨by omega,U⟩,λ_=>rfl⟩
theorem Ro (c:Int)  : Ok (λr=>True) (OO c):=by
 unfold OO;exact gG (λh1=>gB trivial) (λh1=>gB trivial)
theorem Jo (s:ByteArray)(zz_s:Hr s):Ok (λr=>True) (Qr s):=by
 unfold Qr;refine gZ (λ(s1:Bool)=>s1=false->¬((s.size:Int)<1)/\¬(32<(s.size:Int))) (λk2 J=>?_) (λs1 hs3=>?_)
 refine gG (λh4=>J _ af) (λh4=>?_);refine gG (λh5=>J _ af) (λh5=>?_);refine BK ae ae (λx4 h6=>?_);refine gJ (Ro _ ) (λy5 h7=>?_);refine gK (λh8=>J _ af) (λh8=>?_);have h9:pF (s.size:Int) 1=(s.size:Int)-1:=xX aY aY;exact BK ae ae (λx6 h10=>J _ af)
 refine gK (λg=>gB trivial) (λg=>?_);have hf12:=hs3 g;refine jg (λ(I:Int)=>0<=I/\I<=(s.size:Int)) (λ(I:Int)=>((s.size:Int)-I).toNat) ⟨ae,ae⟩ aj (λI k8 C hk14=>?_);obtain⟨hI13_0,hI13_1⟩:=C;unfold VG;refine gG (λh15=>?_) (λh15=>gB trivial);refine gZ (λ(s10:Bool)=>True) (λk11 U=>BK ae ae (λx13 h18=>gJ (Ro _ ) (λy14 h19=>gK (λh20=>BK ae ae (λx15 h21=>gG (λh22=>BK ae ae (λx16 h23=>U _ trivial)) (λh22=>BK ae ae (λx17 h24=>gG (λh25=>BK ae ae (λx18 h26=>U _ trivial)) (λh25=>U _ trivial))))) (λh20=>U _ trivial)))) (λs10 hs17=>?_);refine gK (λh27=>gB trivial) (λh27=>?_);refine gZ (λ(s19:Bool)=>True) (λk20 T=>?_) (λs19 hs29=>?_)
 refine gG (λh30=>?_) (λh30=>T _ trivial);refine BK ae ae (λx22 h31=>?_);refine gG (λh32=>?_) (λh32=>T _ trivial);have h33:pF I 1=I-1:=xX aY aY;exact BK ae ae (λx23 h34=>T _ trivial)
 refine gK (λh35=>gB trivial) (λh35=>?_);have h36:iI I 1=I+1:=kC ah ah;exact hk14 _ ⟨ae,ae⟩ ae
theorem MF (l:List ByteArray)(s:ByteArray)(T:(rM Hr) l)(zz_s:Hr s):Ok (λr=>True) (Io l s):=by
 unfold Io;have z1:=(T).1;refine jg (λ(U:Int)=>0<=U/\U<=(l.length:Int)) (λ(U:Int)=>((l.length:Int)-U).toNat) ⟨ae,ae⟩ aj (λU k2 J C=>?_);obtain⟨I,g⟩:=J;unfold OQ;apply gG<;>intro h6
 (try simp only[ik] at h6)
 refine lT ae ae (λx4 h7=>?_);refine gK (λh10=>gB trivial) (λh10=>?_);have h11:iI U 1=U+1:=kC ah ah;exact C _ ⟨ae,ae⟩ ae
 (try simp only[ik] at h6)
 exact gB trivial
theorem NK   : Ok (λr=>SW 2 r) (Ad ):=by
 unfold Ad;exact gB bn
theorem GK   : Ok (λr=>SW 6 r) (yC ):=by
 unfold yC;exact gB bn
theorem CO (s:ByteArray)(U:Hr s):Ok (λr=>True) (BG s):=by
 unfold BG;exact gJ (Jo _ az) (λC h2=>gK (λT=>gJ (NK  ) (λI h4=>gJ (MF _ _ bY az) (λy3 h5=>gG (λJ=>gJ (GK  ) (λy4 h7=>gJ (MF _ _ bY az) (λy5 g=>gB trivial))) (λJ=>gB trivial)))) (λT=>gB trivial))
theorem KH (mask:Int)(i:Int)(hi:i<=100):Ok (λr=>True) (Ll mask i):=by
 unfold Ll;refine jg (λ(U:Int×Int)=>0<=U.2) (λ(U:Int×Int)=>(i-U.2).toNat) ae aj (λU k2 I T=>?_);unfold Uj;refine gG (λJ=>?_) (λJ=>zD bG (λC h6=>gB trivial));refine zC bG (λx4 g=>?_);have h5:iI U.2 1=U.2+1:=kC ah ah;exact T _ ae ae
theorem Ut (l:zt)(g:zM l):Ok (λr=>True) (Jh l):=by
 unfold Jh;have z2:=((g)).2;refine gZ (λ(s1:Bool)=>s1=false->¬(3<l.Gj)/\¬(63<l.types)/\¬(l.Gj<0)/\¬(l.types<1)/\¬(4<(l.subs.length:Int))) (λk2 U=>gG (λh5=>U _ af) (λh5=>gG (λh6=>U _ af) (λh6=>gG (λh7=>U _ af) (λh7=>gG (λh8=>U _ af) (λh8=>U _ af))))) (λs1 hs4=>?_);refine gK (λh9=>gB trivial) (λh9=>?_);have hf10:=hs4 h9;refine jg (λ(J:Int)=>0<=J/\J<=(l.subs.length:Int)) (λ(J:Int)=>((l.subs.length:Int)-J).toNat) ⟨ae,ae⟩ aj (λJ k5 hI11 C=>?_);obtain⟨hI11_0,hI11_1⟩:=hI11;unfold VI;apply gG<;>intro I
 (try simp only[ik] at I)
 refine gZ (λ(s7:Bool)=>True) (λk8 T=>?_) (λs7 hs15=>?_)
 refine lT ae ae (λx10 h16=>?_);have z17:Hr x10:=z2 x10 h16;refine gJ (CO _ az) (λy11 h19=>?_);refine gK (λh20=>T _ trivial) (λh20=>?_);refine gG (λh21=>?_) (λh21=>T _ trivial);have h22:pF J 1=J-1:=xX aY aY;refine lT ae ae (λx12 h23=>?_);refine lT ae ae (λx13 h26=>?_);exact T _ trivial
 refine gK (λh29=>gB trivial) (λh29=>?_);have h30:iI J 1=J+1:=kC ah ah;exact C _ ⟨ae,ae⟩ ae
 (try simp only[ik] at I)
 exact gG (λh31=>gB trivial) (λh31=>gG (λh32=>gB trivial) (λh32=>gJ (KH _ _ ae) (λy14 h33=>gK (λh34=>gJ (KH _ _ ae) (λy15 h35=>gB trivial)) (λh34=>gB trivial))))
theorem Uu (mask:Int)  : Ok (λr=>True) (Ny mask):=by
 unfold Ny;exact gG (λh1=>gB trivial) (λh1=>gB trivial)
theorem IA (c:jc)(U:mG c):Ok (λr=>True) (Ef c):=by
 unfold Ef;exact gB trivial
theorem MG (a b most:Int):Ok (λr=>True) (Ip a b most):=by
 unfold Ip;refine gZ (λ_=>True) ?_ ?_
 intro k h;exact gG (λ_=>h _ trivial) λ_=>gG (λ_=>h _ trivial) λ_=>gG (λ_=>h _ trivial) λ_=>h _ trivial
 intro s _;refine gK (λ_=>gB trivial) λ_=>?_;refine jg (λs=>0<=s.2.2/\s.2.2<=6) (λs=>(6-s.2.2).toNat) ⟨by simp only;omega,by simp only;omega⟩ (by show _<18446744073709551616;simp only;omega) ?_
 rintro⟨x,y,n⟩ k ⟨h0,h1⟩ hk
 simp only at h0 h1;unfold OT;refine gG (λh=>gZ (λ_=>True) ?_ ?_) λ_=>gB trivial
 intro k6 U;exact zD bG λ_ _=>gG (λ_=>zD bG λ_ _=>U _ trivial) λ_=>U _ trivial
 intro s _;simp only at h |-;rw[kC ah ah];exact gK (λ_=>gB trivial) λ_=>zC bG λ_ _=>zC bG λ_ _=>hk _ ⟨by simp only;omega,by simp only;omega⟩ aC
theorem Hg (b:vI):Ok (λr=>r=true->0<=b.kind/\b.kind<=3) (EE b):=by
 unfold EE;refine gZ (λs=>s=false->0<=b.kind/\b.kind<=3) ?_ ?_
 intro k h;exact gG (λ_=>h _ dV) λh1=>gG (λ_=>h _ dV) λh2=>gG (λ_=>h _ dV) λ_=>h _ λ_=>by omega
 intro s hs;exact gK (λ_=>gB dV) λe=>lN (λ_=>gB λ_=>hs e) λ_=>gB λ_=>hs e
def ad3 (f:kD):Prop:=(0<=f.jB/\f.jB<=5)/\(0<=f.who/\f.who<=2)/\(0<=f.self/\f.self<=2)/\(0<=f.BX/\f.BX<=2)/\(0<=f.power.kind/\f.power.kind<=3)/\(0<=f.ji.kind/\f.ji.kind<=3)/\(0<=f.value.kind/\f.value.kind<=3)
theorem vP (f:kD)(U:mF f):Ok (λr=>r=true->ad3 f) (Dx f):=by
 unfold Dx;have no:∀ {p:Prop},((false:Bool)=true->p):=λe=>by cases e
 refine gZ (λs=>s=false->(0<=f.jB/\f.jB<=5)/\(0<=f.who/\f.who<=2)/\(0<=f.self/\f.self<=2)/\(0<=f.BX/\f.BX<=2)) ?_ ?_
 ·intro k h
  iterate 7 refine gG (λ_=>h _ dV) λ_=>?_
  exact h _ λe=>by rw[decide_eq_false_iff_not] at e;omega
 intro s hs;refine gK (λ_=>gB no) λe=>gZ (λ_=>True) ?_ ?_
 intro k h;exact gJ (MG _ _ _) λ_ _=>gK (λ_=>h _ trivial) λ_=>gJ (MG _ _ _) λ_ _=>h _ trivial
 intro s3 _;refine gK (λ_=>gB no) λ_=>gZ (λ_=>True) ?_ ?_
 intro k h;refine gK (λ_=>gJ (CO _ U) λ_ _=>gK (λ_=>h _ trivial) λ_=>gG (λ_=>h _ trivial) λ_=>h _ trivial) λ_=>gG (λ_=>h _ trivial) λ_=>h _ trivial
 intro s7 _;refine gK (λ_=>gB no) λ_=>gJ (Hg _) λC h10=>gK (λe10=>gJ (Hg _) λI J=>gK (λe11=>gJ (Hg _) λg T=>gB λe12=>?_) λ_=>gB no) λ_=>gB no;obtain⟨a,b,c,d⟩:=hs e;exact⟨a,b,c,d,h10 e10,J e11,T e12⟩
theorem XB (m:nC)(C:wS m):Ok (λr=>True) (OU m):=by
 unfold OU;exact gG (λh4=>gB trivial) (λh4=>gG (λh5=>gB trivial) (λh5=>gG (λh6=>gB trivial) (λh6=>gG (λh7=>gB trivial) (λh7=>gG (λg=>gB trivial) (λg=>gG (λh9=>gB trivial) (λh9=>gG (λh10=>gB trivial) (λh10=>gG (λU=>gB trivial) (λU=>gG (λT=>gB trivial) (λT=>gG (λI=>gB trivial) (λI=>gG (λJ=>gB trivial) (λJ=>gB trivial)))))))))))
theorem MH (mask:Int)  : Ok (λr=>True) (Iq mask):=by
 unfold Iq;exact gG (λh1=>gG (λh2=>gB trivial) (λh2=>gB trivial)) (λh1=>gB trivial)
theorem Uw (m:nC)(U:wS m):Ok (λr=>True) (Ui m):=by
 unfold Ui;have z1:m.sub.size<=1048576:=(U).1;have z3:m.filter.sub.size<=1048576:=((U).2);refine gZ (λ(s1:Bool)=>s1=false->¬(14<m.kind)/\¬(m.kind<1)) (λk2 hk4=>gG (λh6=>hk4 _ af) (λh6=>gG (λh7=>hk4 _ af) (λh7=>gJ (XB _ bu) (λy4 h8=>oh (λv5 h9=>hk4 _ af))))) (λs1 J=>?_);refine gK (λh10=>gB trivial) (λh10=>?_);have hf11:=J h10
 exact gG (λh12=>gJ (MH _ ) (λy6 h13=>gB trivial)) (λh12=>gG (λh14=>gJ (MH _ ) (λy7 h15=>gB trivial)) (λh14=>gG (λI=>gJ (CO _ az) (λy8 h17=>gB trivial)) (λI=>gG (λh18=>gJ (CO _ az) (λy9 h19=>gB trivial)) (λh18=>gG (λh20=>gG (λh21=>gB trivial) (λh21=>gB trivial)) (λh20=>gG (λh22=>gG (λT=>gB trivial) (λT=>gB trivial)) (λh22=>gG (λh24=>gG (λh25=>gB trivial) (λh25=>gB trivial)) (λh24=>gG (λh26=>gG (λg=>gB trivial) (λg=>gB trivial)) (λh26=>gG (λh28=>gJ (vP _ ay) (λy10 h29=>gB trivial)) (λh28=>gG (λh30=>gG (λh31=>gG (λh32=>gG (λh33=>gB trivial) (λh33=>gB trivial)) (λh32=>gB trivial)) (λh31=>gB trivial)) (λh30=>gG (λh34=>gG (λh35=>gG (λh36=>gG (λC=>gB trivial) (λC=>gB trivial)) (λh36=>gB trivial)) (λh35=>gB trivial)) (λh34=>gB trivial)))))))))))
theorem Ux (l:List ByteArray)(mask:Int)(U:ByteArray)(n:Nat)(hl:SW n l)(hb:U.size<=10):Ok (λr=>r.size<=11000) (Jf l mask U):=by
 unfold Jf;have hn:=hl.1;have I:=hl.2.1;refine D7 0 l.length (λn t=>t.size<=110*n) 0 rfl (Nat.zero_le _) ah aH ?_ ?_
 intro i t k hi J hk;unfold G7;refine gG (λ_=>gZ (λs=>s.size<=110*(i+1)) ?_ λs hs=>hk s hs) λh=>absurd (show (i:Int)<(l.length:Int) by omega) h;intro k5 h5;refine gJ (KH _ _ aC) λg _=>gK (λ_=>gZ (λs=>s.size<=110*i+10) ?_ ?_) λ_=>h5 _ aC
 intro C T;exact gK (λ_=>nG aC λx hx=>T _ (by simp only at hx;omega)) λ_=>T _ aC
 intro s hs;refine lT aC aC λx hx=>nG (by have:=hl.2.2 x hx;omega) λy hy=>h5 _ (by have:=hl.2.2 x hx;omega)
 intro t k J;unfold G7;exact gG (λh=>absurd h aO) λ_=>gB aC
theorem A8 (mask:Int):Ok (λr=>r.size<=11000) (wz mask):=by
 unfold wz;exact gG (λ_=>gB aH) λ_=>gG (λ_=>gB aH) λ_=>gJ GK λU h1=>gJ (Ux _ _ _ _ h1 aH) λT h2=>gB h2
theorem aal (mask:Int)  : Ok (λr=>True) (Xf mask):=by
 unfold Xf;exact gG (λh1=>gB trivial) (λh1=>gB trivial)
theorem Jp (i:Int)  : Ok (λr=>r.size<=100) (Ir i):=by
 unfold Ir;exact gG (λh1=>gB aH) (λh1=>gG (λh2=>gB aH) (λh2=>gG (λU=>gB aH) (λU=>gG (λT=>gB aH) (λT=>gG (λh5=>gB aH) (λh5=>gB aH)))))
theorem Pz (mask:Int):Ok (λr=>r.size<=11000) (J4 mask):=by
 unfold J4;refine gJ (aal _) λy1 _=>gK (λ_=>gB aH) λ_=>gG (λ_=>gB aH) λ_=>?_;refine D7 0 5 (λn t=>t.size<=110*n) 0 rfl ah ah aH ?_ ?_
 ·intro i t k hi I hk;unfold J3;refine gG (λ_=>gZ (λs=>s.size<=110*(i+1)) ?_ λs hs=>hk s hs) λh=>absurd (show (i:Int)<5 by omega) h;intro k5 h5;refine aak aC λJ U=>zC ?_ λC _=>zD bG λx8 _=>gG (λ_=>gZ (λs=>s.size<=110*i+10) ?_ ?_) λ_=>h5 _ aC
  ·rcases five hi with rfl|rfl|rfl|rfl|rfl
   all_goals
    have:J≠0:=by
     intro e;subst e;revert U;simp only;decide
    exact this
  intro g T;exact gK (λ_=>nG aT λx hx=>T _ aU) λ_=>T _ aC
  intro s hs;exact gJ (Jp _) λy hy=>nG ah λz hz=>h5 _ ah
 intro t k I;unfold J3;exact gG (λh=>absurd h aC) λ_=>gB aC
theorem UO   : Ok (λr=>SW 17 r) (Lm ):=by
 unfold Lm;exact gB bn
theorem PD (i:Int):Ok (λr=>r.size<=100) (J5 i):=by
 unfold J5;refine gG (λ_=>gB aH) λ_=>gG (λ_=>gB aH) λ_=>gJ UO λU h1=>lT ah (by have:=h1.1;omega) λx hx=>gB (h1.2.2 x hx)
theorem PE (mask:Int):Ok (λr=>r.size<=11000) (J6 mask):=by
 unfold J6;refine gJ (Uu _) λg _=>gK (λ_=>gB aH) λ_=>?_;refine jg (λs=>∃ n:Nat,s.2.2=(n:Int)/\n<=17/\s.2.1.size<=110*n) (λs=>17-s.2.2.toNat) ⟨0,rfl,by omega,by simp[oz]⟩ (by show 17-_<18446744073709551616;omega) ?_
 rintro⟨m,t,n'⟩ k ⟨n,e,hn,ht⟩ hk
 simp only at e ht;subst e;unfold Rf;refine gG (λh=>gZ (λs=>s.2.size<=110*(n+1)) ?_ ?_) λh=>gK (λ_=>gB aH) λ_=>gB aC
 intro k6 J;refine gZ (λs=>s.size<=110*(n+1)) ?_ λs hs=>zC bG λx _=>J _ hs;intro C T;refine zD bG λx _=>gG (λ_=>gZ (λs=>s.size<=110*n+10) ?_ ?_) λ_=>T _ aC
 intro k13 U;exact gK (λ_=>nG aT λx hx=>U _ aU) λ_=>U _ aC
 intro s hs;exact gJ (PD _) λy hy=>nG ah λz hz=>T _ ah
 rintro⟨I,s2⟩ hs
 simp only at h hs |-;rw[lW ah];exact hk _ ⟨n+1,rfl,by omega,hs⟩ bH
theorem PG   : Ok (λr=>SW 6 r) (BZ ):=by
 unfold BZ;exact gB bn
theorem QA   : Ok (λr=>SW 3 r) (Ea ):=by
 unfold Ea;exact gB bn
theorem PH   : Ok (λr=>SW 3 r) (Cb ):=by
 unfold Cb;exact gB bn
theorem QB   : Ok (λr=>SW 3 r) (Eb ):=by
 unfold Eb;exact gB bn
theorem xG (l:List ByteArray)(s:ByteArray)(n:Nat)(hl:WL n l)(hs:s.size<=140737488360000)(hn:n<=1000):Ok (λr=>WL (n+1) r) (Cc l s):=by
 unfold Cc;have:=hl.1;exact gK (λ_=>gB (hl.mono ah)) λ_=>ku aJ aJ (gB (hl.add hs))
theorem Dk (mask:Int)(i:Int)(hi:i<=100):Ok (λr=>True) (Gl mask i):=by
 unfold Gl;refine jg (λ(U:Int×Int)=>0<=U.2) (λ(U:Int×Int)=>(i-U.2).toNat) ae aj (λU k2 I T=>?_);unfold Uk;refine gG (λJ=>?_) (λJ=>zD bG (λC h6=>gB trivial));refine zC bG (λx4 g=>?_);have h5:iI U.2 1=U.2+1:=kC ah ah;exact T _ ae ae
theorem IB (i:Int)(hi:i<=100):Ok (λr=>r.size<=11000) (Ae i):=by
 unfold Ae;refine jg (λ(U:Int×Int)=>0<=U.2) (λ(U:Int×Int)=>(i-U.2).toNat) ae aj (λU k2 I T=>?_);unfold Ju;refine gG (λJ=>?_) (λJ=>gJ (A8 _ ) (λy4 h5=>gB aK));have C:iI U.2 1=U.2+1:=kC ah ah;exact T _ ae ae
theorem KI (u:Int)(hu:0<=u/\u<18446744073709551616):Ok (λr=>r.size<=21) (BH u):=by
 obtain⟨h0,h1⟩:=hu;unfold BH;refine zD bG (λx1 _=>abt (λx2 h2=>zC bG (λx3 g=>?_)));rw[u64q h0 h1] at g;refine jg (λs=>∃ k:Nat,s.2.size+k<=21/\0<=s.1/\s.1<10 ^ k) (λs=>s.1.toNat) ⟨20,by simp only;omega,by simp only;omega,by simp only;omega⟩ (by show _<18446744073709551616;simp only;omega) ?_
 rintro⟨a,b⟩ k5 ⟨k,g1,g2,g3⟩ hk
 simp only at g1 g2 g3;unfold G8;refine gG (λh=>?_) (λ_=>gB aC);simp only at h;have C:k≠0:=by intro e;subst e;simp at g3;omega
 obtain⟨U,rfl⟩:∃ U,k=U+1:=⟨k-1,by omega⟩;have hp:(10:Int) ^ (U+1)=10 ^ U*10:=Int.pow_succ 10 U;rw[hp] at g3;refine zD bG (λx6 _=>abt (λx7 h7=>nG aC (λx8 I=>zC bG (λJ T=>?_))));simp only at I T
 have hq:0<=J/\J<=a / 10:=by
  rw[T,Int.tdiv_eq_ediv_of_nonneg g2,IntKind.wrap_u64];omega
 exact hk _ ⟨U,by simp only;omega,hq.1,by simp only;omega⟩ aC
theorem xY (n:Int)  : Ok (λr=>r.size<=22) (Af n):=by
 unfold Af;refine gG (λh1=>?_) (λh1=>gJ (KI _ (VQ _)) (λy3 J=>gB aK));refine gJ (KI _ (VQ _)) (λT h2=>?_);refine nG ae (λI U=>?_);simp only[oz,List.length_cons,List.length_nil] at U;exact gB aK
theorem UQ   : Ok (λr=>SW 4 r) (Lp ):=by
 unfold Lp;exact gB bn
theorem Ba (name:ByteArray)(b:vI)(hn:name.size<=100)(hk:0<=b.kind/\b.kind<=3):Ok (λr=>r.size<=1000) (wB name b):=by
 unfold wB;refine gG (λ_=>gB aH) λ_=>gJ UQ λI h1=>lT ah (by have:=h1.1;omega) λT U=>?_;have:=h1.2.2 T U;exact nG ah λx3 J=>gJ (xY _) λy4 g=>nG ah λC h5=>gB ah
theorem XC (l:List ByteArray)(U:ByteArray)(hl:WL 200 l)(hb:U.size<=10):Ok (λr=>r.size<=28147497672002000) (OV l U):=by
 unfold OV;have hn:=hl.1;refine D7 0 l.length (λn t=>t.size<=140737488360010*n) 0 rfl (Nat.zero_le _) ah aH ?_ ?_
 intro i t k hi J hk;unfold J7;refine gG (λ_=>gZ (λs=>s.size<=140737488360010*(i+1)) ?_ λs hs=>hk s hs) λh=>absurd (show (i:Int)<(l.length:Int) by omega) h;intro k5 h5;refine gZ (λs=>s.size<=140737488360010*i+10) ?_ ?_
 intro I T;exact gG (λ_=>nG aC λx hx=>T _ (by simp only at hx;omega)) λ_=>T _ aC
 intro s hs;refine lT aC aC λx hx=>nG (by have:=hl.2 x hx;omega) λy hy=>h5 _ (by have:=hl.2 x hx;omega)
 intro t k J;unfold J7;exact gG (λh=>absurd h aO) λ_=>gB aC
theorem XD (f:kD)(g:mF f):Ok (λr=>r.size<=28147497672002000) (J8 f):=by
 have hsub:f.sub.size<=1048576:=g;unfold J8;refine gJ (vP f g) λy1 h1=>gK (λ_=>gB aH) λh=>?_;obtain⟨hz,hw,hs,ht,hp,hq,hv⟩:=h1 dh;refine gJ PG λy2 h2=>gJ QA λy3 h3=>gJ PH λy4 h4=>gJ QB λy5 h5=>?_;have l5:=h5.1;refine lT ah (by have:=h2.1;omega) λx6 k6=>gJ (xG _ _ 0 ⟨by simp,by simp⟩ (by have:=h2.2.2 x6 k6;omega) ah) λy7 h7=>?_;refine lT ah (by have:=h3.1;omega) λx8 k8=>gJ (xG _ _ _ h7 (by have:=h3.2.2 x8 k8;omega) ah) λy9 h9=>?_;refine lT ah (by have:=h4.1;omega) λx10 k10=>gJ (xG _ _ _ h9 (by have:=h4.2.2 x10 k10;omega) ah) λy11 h11=>?_;refine kN 0 6 (λn t=>WL (3+n) t) 0 rfl ah ah h11 ?_ ?_
 intro i t k hi T hk;have hl:=T.1;unfold Gs;refine gG (λ_=>gZ (λs=>WL (3+i+1) s) ?_ λs hs=>hk s hs) λh=>absurd (show (i:Int)<6 by omega) h;intro k16 U;exact gJ (Dk _ _ aC) λC _=>gK (λ_=>gJ (IB _ aC) λI J=>ku aJ aJ (U _ (T.add ah))) λ_=>U _ (T.mono ah)
 intro t _ h12;unfold Gs;refine gG (λh=>absurd h aC) λ_=>?_;refine kN 0 6 (λn t=>WL (9+n) t) 0 rfl ah ah h12 ?_ ?_
 intro i t k hi T hk;have hl:=T.1;unfold Gq;refine gG (λ_=>gZ (λs=>WL (9+i+1) s) ?_ λs hs=>hk s hs) λh=>absurd (show (i:Int)<6 by omega) h;intro k16 U;exact gJ (Dk _ _ aC) λC _=>gK (λ_=>gJ (IB _ aC) λI J=>nG aT λx hx=>ku aJ aJ (U _ (T.add aU))) λ_=>U _ (T.mono ah)
 intro t _ h13;unfold Gq;refine gG (λh=>absurd h aC) λ_=>?_;refine kN 0 5 (λn t=>WL (15+n) t) 0 rfl ah ah h13 ?_ ?_
 intro i t k hi T hk;have hl:=T.1;unfold Gp;refine gG (λ_=>gZ (λs=>WL (15+i+1) s) ?_ λs hs=>hk s hs) λh=>absurd (show (i:Int)<5 by omega) h;intro k16 U;exact gJ (Dk _ _ aC) λC _=>gK (λ_=>gJ (Jp _) λI J=>ku aJ aJ (U _ (T.add ah))) λ_=>U _ (T.mono ah)
 intro t _ h14;unfold Gp;refine gG (λh=>absurd h aC) λ_=>?_;refine kN 0 5 (λn t=>WL (20+n) t) 0 rfl ah ah h14 ?_ ?_
 intro i t k hi T hk;have hl:=T.1;unfold Gn;refine gG (λ_=>gZ (λs=>WL (20+i+1) s) ?_ λs hs=>hk s hs) λh=>absurd (show (i:Int)<5 by omega) h;intro k16 U;exact gJ (Dk _ _ aC) λC _=>gK (λ_=>gJ (Jp _) λI J=>nG aT λx hx=>ku aJ aJ (U _ (T.add aU))) λ_=>U _ (T.mono ah)
 intro t _ h15;have hl15:=h15.1;unfold Gn;refine gG (λh=>absurd h aC) λ_=>?_;refine gZ (λs=>WL 26 s) ?_ ?_
 intro k h;exact gK (λ_=>nG aT λx hx=>ku aJ aJ (h _ (h15.add aU))) λ_=>h _ (h15.mono ah)
 intro s46 U;refine kN 0 17 (λn t=>WL (26+n) t) 0 rfl ah ah U ?_ ?_
 intro i t k hi T hk;have hl:=T.1;unfold Gm;refine gG (λ_=>gZ (λs=>WL (26+i+1) s) ?_ λs hs=>hk s hs) λh=>absurd (show (i:Int)<17 by omega) h;intro k16 U;exact gJ (Dk _ _ aC) λC _=>gK (λ_=>gJ (PD _) λI J=>nG aT λx hx=>ku aJ aJ (U _ (T.add aU))) λ_=>U _ (T.mono ah)
 intro t _ h17;unfold Gm;refine gG (λh=>absurd h aC) λ_=>?_;refine lT ah ah λx48 k48=>gJ (xG _ _ _ h17 (by have:=h5.2.2 x48 k48;omega) ah) λy49 h49=>?_;refine gJ (Ba _ _ aH hp) λy50 h50=>gJ (xG _ _ _ h49 ah ah) λy51 h51=>?_;refine gJ (Ba _ _ aH hq) λy52 h52=>gJ (xG _ _ _ h51 ah ah) λy53 h53=>?_;refine gJ (Ba _ _ aH hv) λy54 h54=>gJ (xG _ _ _ h53 ah ah) λy55 h55=>?_;exact gG (λ_=>gB aH) λ_=>gJ (XC _ _ (h55.mono ah) aH) λy56 h56=>gB h56
theorem XE (m:nC)(U:wS m):Ok (λr=>r.size<=28147497672100000) (OW m):=by
 unfold OW;have z1:m.sub.size<=1048576:=(U).1;have z3:m.filter.sub.size<=1048576:=((U).2);refine gJ (Uw _ bu) (λy1 h4=>?_);refine gK (λh5=>gB aK) (λh5=>?_);refine gG (λh6=>gB aK) (λh6=>?_);apply gG<;>intro h7
 refine gJ (A8 _ ) (λy2 h8=>?_);refine nG ae (λx3 h9=>?_);simp only[oz,List.length_cons,List.length_nil] at h9;exact gB aK
 apply gG<;>intro h10
 refine gJ (A8 _ ) (λy4 h11=>?_);refine nG ae (λx5 h12=>?_);simp only[oz,List.length_cons,List.length_nil] at h12;exact gB aK
 apply gG<;>intro h13
 refine nG ae (λx6 h14=>?_);simp only[oz,List.length_cons,List.length_nil] at h14;exact gB aK
 apply gG<;>intro h15
 refine nG ae (λx7 T=>?_);simp only[oz,List.length_cons,List.length_nil] at T;exact gB aK
 apply gG<;>intro h17
 refine gJ (Pz _ ) (λy8 h18=>?_);refine nG ae (λx9 J=>?_);simp only[oz,List.length_cons,List.length_nil] at J;exact gB aK
 apply gG<;>intro h20
 refine gJ (Pz _ ) (λy10 h21=>?_);refine nG ae (λx11 h22=>?_);simp only[oz,List.length_cons,List.length_nil] at h22;exact gB aK
 apply gG<;>intro h23
 refine gJ (PE _ ) (λy12 h24=>?_);refine nG ae (λx13 h25=>?_);simp only[oz,List.length_cons,List.length_nil] at h25;exact gB aK
 apply gG<;>intro h26
 refine gJ (PE _ ) (λy14 h27=>?_);refine nG ae (λx15 g=>?_);simp only[oz,List.length_cons,List.length_nil] at g;exact gB aK
 refine gG (λh29=>gB aK) (λh29=>?_);apply gG<;>intro h30
 refine gJ (XD _ ay) (λy16 h31=>?_);refine nG ae (λx17 h32=>?_);simp only[oz,List.length_cons,List.length_nil] at h32;refine nG ae (λx18 h33=>?_);simp only[oz,List.length_cons,List.length_nil] at h33;exact gB aK
 apply gG<;>intro h34
 refine gJ (xY _ ) (λy19 h35=>?_);refine nG ae (λx20 h36=>?_);simp only[oz,List.length_cons,List.length_nil] at h36;refine nG ae (λx21 I=>?_);simp only[oz,List.length_cons,List.length_nil] at I;exact gJ (xY _ ) (λy22 h38=>nG ae (λx23 h39=>gB aK))
 refine gG (λh40=>?_) (λh40=>gB aK);refine gJ (xY _ ) (λy24 h41=>?_);refine nG ae (λx25 h42=>?_);simp only[oz,List.length_cons,List.length_nil] at h42;refine nG ae (λx26 C=>?_);simp only[oz,List.length_cons,List.length_nil] at C;exact gJ (xY _ ) (λy27 h44=>nG ae (λx28 h45=>gB aK))
theorem BM (l:List nC)(U:(rM wS) l):Ok (λr=>True) (xP l):=by
 unfold xP;refine gZ (λs=>s=false->l.length<=6) ?_ ?_
 intro k h;exact gG (λ_=>h _ dV) λ_=>h _ λe=>by rw[decide_eq_false_iff_not] at e;unfold ik at e;omega
 intro s hs;refine gK (λ_=>gB trivial) λe=>?_;have hl:=hs e;refine D7 0 l.length (λn t=>t.size<=28147497672200000*n) 0 rfl (Nat.zero_le _) ah aH ?_ ?_
 intro i t k hi g hk;unfold Dy;refine gG (λ_=>gZ (λs=>s.size<=28147497672200000*(i+1)) ?_ λs hs=>hk s hs) λh=>absurd (show (i:Int)<(l.length:Int) by omega) h;intro k8 C;refine lT aC aC λI J=>gJ (Uw _ (U.2 I J)) λy8 _=>gK (λ_=>gB trivial) λ_=>gZ (λs=>s.size<=28147497672200000*i+2) ?_ ?_
 intro k13 T;exact gG (λ_=>nG aT λx hx=>T _ aU) λ_=>T _ aC
 intro s hs;exact lT aC aC λx hx=>gJ (XE _ (U.2 x hx)) λy hy=>nG ah λz hz=>C _ ah
 intro t k g;unfold Dy;exact gG (λh=>absurd h aO) λ_=>gB trivial
theorem UR (p:I8)  : Ok (λr=>True) (Lr p):=by
 unfold Lr;exact gJ (FO _ ) (λJ h1=>gK (λh2=>gG (λU=>gG (λT=>gB trivial) (λT=>gB trivial)) (λU=>gB trivial)) (λh2=>gB trivial))
theorem PI (when:Int)  : Ok (λr=>True) (J9 when):=by
 unfold J9;exact gG (λh1=>gB trivial) (λh1=>gG (λh2=>gB trivial) (λh2=>gG (λg=>gB trivial) (λg=>gG (λh4=>gB trivial) (λh4=>gG (λh5=>gB trivial) (λh5=>gG (λh6=>gB trivial) (λh6=>gG (λh7=>gB trivial) (λh7=>gG (λC=>gB trivial) (λC=>gG (λh9=>gB trivial) (λh9=>gG (λh10=>gB trivial) (λh10=>gG (λU=>gB trivial) (λU=>gG (λT=>gB trivial) (λT=>gG (λI=>gB trivial) (λI=>gG (λJ=>gB trivial) (λJ=>gB trivial))))))))))))))
theorem KJ (when:Int)  : Ok (λr=>True) (Fa when):=by
 unfold Fa;exact gG (λh1=>gB trivial) (λh1=>gG (λh2=>gB trivial) (λh2=>gG (λU=>gB trivial) (λU=>gG (λT=>gB trivial) (λT=>gG (λh5=>gB trivial) (λh5=>gB trivial)))))
theorem PL (when:Int)  : Ok (λr=>True) (Ce when):=by
 unfold Ce;exact gJ (PI _ ) (λJ h1=>gK (λh2=>gJ (KJ _ ) (λT I=>gK (λU=>gB trivial) (λU=>gB trivial))) (λh2=>gB trivial))
theorem aam (t:xh)(zz_t:FN t):Ok (λr=>True) (Xg t):=by
 unfold Xg;refine gZ (λ(s1:Bool)=>s1=false->¬(2<t.who)/\¬(t.who<0)) (λk2 U=>gJ (PI _ ) (λy4 h5=>gK (λh6=>U _ af) (λh6=>gG (λh7=>U _ af) (λh7=>gG (λh8=>U _ af) (λh8=>gJ (KJ _ ) (λy5 h9=>gK (λh10=>U _ af) (λh10=>U _ af))))))) (λs1 I=>?_);refine gK (λJ=>gB trivial) (λJ=>?_);have hf12:=I J;exact gJ (PL _ ) (λy6 h13=>gK (λh14=>oh (λv7 h15=>gB trivial)) (λh14=>gZ (λ(s8:Int)=>True) (λk9 T=>gG (λg=>T _ trivial) (λg=>T _ trivial)) (λs8 hs17=>gJ (vP _ ay) (λy11 h19=>gK (λC=>gB trivial) (λC=>gB trivial)))))
theorem Hl (f:kD)(U:mF f):Ok (λr=>True) (EF f):=by
 unfold EF;exact gJ (vP _ ay) (λJ h2=>gK (λT=>gB trivial) (λT=>gB trivial))
theorem UT (pr:oQ)(zz_pr:yU pr):Ok (λr=>True) (Ls pr):=by
 unfold Ls;refine gZ (λ(s1:Bool)=>s1=false->pr.who=0) (λk2 U=>lN (λh5=>U _ af) (λh5=>gJ (Hl _ ay) (λy4 h6=>U _ af))) (λs1 I=>?_);refine gK (λh7=>gB trivial) (λh7=>?_);have hf8:=I h7;exact gG (λh9=>gG (λh10=>gG (λh11=>gG (λC=>gB trivial) (λC=>gG (λh13=>gB trivial) (λh13=>gB trivial))) (λh11=>gB trivial)) (λh10=>gB trivial)) (λh9=>gG (λh14=>gG (λh15=>gG (λT=>gB trivial) (λT=>gB trivial)) (λh15=>gB trivial)) (λh14=>gG (λg=>gG (λh18=>gG (λJ=>gG (λh20=>gG (λh21=>gB trivial) (λh21=>gB trivial)) (λh20=>gB trivial)) (λJ=>gB trivial)) (λh18=>gB trivial)) (λg=>gB trivial)))
theorem UU (U:oQ)(zz_pr:yU U):Ok (λr=>True) (Lt U):=by
 unfold Lt;refine gZ (λ(s1:Bool)=>s1=false->U.counter=0/\U.jB=0) (λk2 T=>lN (λh5=>T _ af) (λh5=>T _ af)) (λs1 C=>?_);refine gK (λh6=>gB trivial) (λh6=>?_);have hf7:=C h6;refine gZ (λ(s4:Bool)=>s4=false->¬(U.doF=2)/\¬(U.doF=4)) (λk5 I=>gG (λh10=>I _ af) (λh10=>I _ af)) (λs4 hs9=>?_);refine gK (λJ=>gG (λg=>gB trivial) (λg=>gB trivial)) (λJ=>?_);have hf13:=hs9 J;exact gB trivial
theorem aan (pr:oQ)(zz_pr:yU pr):Ok (λr=>True) (Xh pr):=by
 unfold Xh
 exact gG (λh3=>gJ (UT _ aZ) (λy1 h4=>gB trivial)) (λh3=>gJ (UU _ aZ) (λy2 h5=>gK (λh6=>gB trivial) (λh6=>oh (λv3 h7=>gZ (λ(s4:Bool×Bool)=>True) (λk5 T=>gG (λh10=>T _ trivial) (λh10=>gG (λh11=>T _ trivial) (λh11=>T _ trivial))) (λs4 hs9=>gG (λh12=>gZ (λ(s7:Bool)=>True) (λk8 U=>lN (λh15=>lN (λI=>lN (λh17=>U _ trivial) (λh17=>U _ trivial)) (λI=>U _ trivial)) (λh15=>U _ trivial)) (λs7 hs14=>gK (λh18=>gB trivial) (λh18=>gG (λC=>gJ (Hl _ ay) (λy10 h20=>gK (λh21=>gB trivial) (λh21=>gG (λh22=>gB trivial) (λh22=>gG (λJ=>gB trivial) (λJ=>gB trivial))))) (λC=>gG (λh24=>gB trivial) (λh24=>gG (λh25=>gB trivial) (λh25=>gB trivial)))))) (λh12=>gG (λh26=>gK (λh27=>gG (λh28=>gJ (Hl _ ay) (λy11 h29=>gB trivial)) (λh28=>gB trivial)) (λh27=>gB trivial)) (λh26=>gG (λh30=>gG (λh31=>gG (λh32=>gG (λh33=>gB trivial) (λh33=>gB trivial)) (λh32=>gB trivial)) (λh31=>gG (λh34=>gG (λh35=>gG (λh36=>gB trivial) (λh36=>gB trivial)) (λh35=>gB trivial)) (λh34=>gB trivial))) (λh30=>gG (λg=>gK (λh38=>gG (λh39=>gG (λh40=>gB trivial) (λh40=>gB trivial)) (λh39=>gB trivial)) (λh38=>gB trivial)) (λg=>gG (λh41=>gK (λh42=>gG (λh43=>gG (λh44=>gB trivial) (λh44=>gB trivial)) (λh43=>gB trivial)) (λh42=>gB trivial)) (λh41=>gG (λh45=>gK (λh46=>gG (λh47=>gG (λh48=>gB trivial) (λh48=>gB trivial)) (λh47=>gB trivial)) (λh46=>gB trivial)) (λh45=>gB trivial)))))))))))
theorem XF (s:rW)(T:GI s):Ok (λr=>True) (OX s):=by
 unfold OX;exact gK (λI=>gZ (λ(J:Bool)=>True) (λk2 hk4=>gK (λh6=>oh (λv4 h7=>hk4 _ trivial)) (λh6=>hk4 _ trivial)) (λJ C=>gB trivial)) (λI=>gJ (vP _ ay) (λy5 h8=>gK (λg=>gG (λh10=>gB trivial) (λh10=>gG (λU=>gB trivial) (λU=>gB trivial))) (λg=>gB trivial)))
theorem UW (l:List rW)(U:(rM GI) l):Ok (λr=>True) (Lu l):=by
 unfold Lu;have z1:=(U).1;have z2:=(U).2;refine jg (λ(T:Int)=>0<=T/\T<=(l.length:Int)) (λ(T:Int)=>((l.length:Int)-T).toNat) ⟨ae,ae⟩ aj (λT k2 g hk4=>?_);obtain⟨J,I⟩:=g;unfold OY;apply gG<;>intro h5
 (try simp only[ik] at h5)
 refine lT ae ae (λx4 h6=>?_);have z7:GI x4:=z2 x4 h6;refine gJ (XF _ (by first|assumption|(refine⟨by omega,?_⟩;first|(intro _ _;trivial)|assumption)|(unfold GI;simp_all[Hr,rM]))) (λy5 h10=>?_);refine gK (λC=>gB trivial) (λC=>?_);have h12:iI T 1=T+1:=kC ah ah;exact hk4 _ ⟨ae,ae⟩ ae
 (try simp only[ik] at h5)
 exact gB trivial
theorem XG (op:Int)  : Ok (λr=>True) (OZ op):=by
 unfold OZ;refine gZ (λ(J:Bool)=>J=false->¬(op<1)/\¬(26<op)) (λk2 U=>gG (λC=>U _ af) (λC=>U _ af)) (λJ T=>?_);refine gK (λI=>gB trivial) (λI=>?_);have g:=T I;have h6:pF op 1=op-1:=xX aY aY;exact aaj ae ae (λj4 h7 h8=>Xu ae (λx5 h9=>gB trivial))
theorem XH (op:Int)  : Ok (λr=>r.size<=100) (O0 op):=by
 unfold O0;exact gG (λh1=>gB aH) (λh1=>gG (λh2=>gB aH) (λh2=>gG (λh3=>gB aH) (λh3=>gG (λh4=>gB aH) (λh4=>gG (λh5=>gB aH) (λh5=>gG (λh6=>gB aH) (λh6=>gG (λh7=>gB aH) (λh7=>gG (λh8=>gB aH) (λh8=>gG (λh9=>gB aH) (λh9=>gG (λh10=>gB aH) (λh10=>gG (λC=>gB aH) (λC=>gG (λT=>gB aH) (λT=>gG (λh13=>gB aH) (λh13=>gG (λg=>gB aH) (λg=>gG (λh15=>gB aH) (λh15=>gG (λU=>gB aH) (λU=>gG (λJ=>gB aH) (λJ=>gG (λI=>gB aH) (λI=>gB aH))))))))))))))))))
theorem tZ (op:Int)(field:Int)  : Ok (λr=>True) (xn op field):=by
 unfold xn;refine gJ (XH _ ) (λg h1=>?_);refine jg (λ(U:Int)=>0<=U/\U<=(g.size:Int)) (λ(U:Int)=>((g.size:Int)-U).toNat) ⟨ae,ae⟩ aj (λU k3 T I=>?_);obtain⟨C,J⟩:=T;unfold Rh;refine gG (λh4=>?_) (λh4=>gB trivial);refine BK ae ae (λx5 h5=>?_);refine gG (λh6=>gB trivial) (λh6=>?_);have h7:iI U 1=U+1:=kC ah ah;exact I _ ⟨ae,ae⟩ ae
theorem QC (kind:Int)  : Ok (λr=>True) (Ec kind):=by
 unfold Ec;exact gG (λh1=>gB trivial) (λh1=>gB trivial)
theorem aao (J:Ug)(specs:Int)(zz_pr:Xv J):Ok (λr=>True) (Xi J specs):=by
 unfold Xi;refine gZ (λ(s1:Int)=>True) (λk2 I=>gG (λh5=>I _ trivial) (λh5=>I _ trivial)) (λs1 hs4=>?_);refine gZ (λ(s4:Bool)=>s4=false->¬(J.kind<1)/\¬(8<J.kind)) (λk5 g=>gG (λh8=>g _ af) (λh8=>g _ af)) (λs4 hs7=>?_);refine gK (λh9=>gB trivial) (λh9=>?_);have hf10:=hs7 h9;refine gZ (λ(s7:Unit)=>True) (λk8 U=>?_) (λs7 hs12=>gG (λh21=>gJ (vP _ ay) (λy14 h22=>gB trivial)) (λh21=>oh (λv15 h23=>gB trivial)));refine gJ (QC _ ) (λy10 h13=>?_);refine gK (λh14=>?_) (λh14=>lN (λh20=>gB trivial) (λh20=>U _ trivial));refine gZ (λ(C:Bool)=>C=false->¬(J.n<1)/\¬(s1<J.n)) (λk12 T=>gG (λh17=>T _ af) (λh17=>T _ af)) (λC hs16=>?_);refine gK (λh18=>gB trivial) (λh18=>?_);have hf19:=hs16 h18;exact U _ trivial
theorem PM (kind:Int)  : Ok (λr=>True) (Ko kind):=by
 unfold Ko;exact gG (λh1=>gB trivial) (λh1=>gG (λh2=>gB trivial) (λh2=>gG (λU=>gB trivial) (λU=>gB trivial)))
theorem aap (a:xO)(zz_a:LK a):Ok (λr=>True) (Xj a):=by
 unfold Xj;refine gZ (λ(s1:xO)=>True) (λk2 T=>?_) (λs1 hs4=>gG (λh22=>gG (λg=>oh (λv12 h24=>gB trivial)) (λg=>gB trivial)) (λh22=>gB trivial));apply gG<;>intro h5
 refine gZ (λ(s4:Bool)=>s4=false->¬(a.n<0)/\¬(1000000<a.n)) (λk5 I=>gG (λh8=>I _ af) (λh8=>I _ af)) (λs4 hs7=>?_);refine gK (λh9=>gB trivial) (λh9=>?_);have hf10:=hs7 h9;exact T _ trivial
 refine gG (λh11=>?_) (λh11=>gG (λh19=>gJ (PM _ ) (λy11 h20=>gK (λh21=>gB trivial) (λh21=>T _ trivial))) (λh19=>T _ trivial));refine gZ (λ(s7:Bool)=>s7=false->¬(99<a.n)/\¬(a.n<1)) (λk8 U=>gG (λh14=>U _ af) (λh14=>gG (λh15=>U _ af) (λh15=>gJ (vP _ ay) (λy10 h16=>U _ af)))) (λs7 J=>?_);refine gK (λC=>gB trivial) (λC=>?_);have hf18:=J C;exact T _ trivial
theorem XI (l:List nC)(U:(rM wS) l):Ok (λr=>True) (O1 l):=by
 unfold O1;exact gJ (BM _ ax) (λJ T=>gB trivial)
theorem XJ (c:rG):Ok (λr=>True) (O3 c):=by
 unfold O3;refine gJ (FO c) λy1 h1=>gK (λ_=>gB trivial) λh=>?_;obtain⟨⟨_,_,T,C⟩,U⟩:=h1.1 dh;obtain⟨X,hX⟩:=Int.eq_ofNat_of_zero_le T;refine D7 0 X (λn t=>t.size<=n) 0 rfl (Nat.zero_le _) ah aH ?_ ?_
 intro i t k hi J hk;unfold Kr;exact gG (λ_=>nG aT λx hx=>hk _ aU) λh=>absurd aC h
 intro t k J;unfold Kr;refine gG (λh=>absurd h aC) λ_=>gZ (λs=>s.size<=24) ?_ ?_
 intro k7 h7;exact lN (λ_=>gJ (xY _) λy hy=>nG aC λx hx=>h7 _ (by simp only at hx;omega)) λ_=>h7 _ aC
 intro s hs;refine D7 0 5 (λn t=>t.size<=24+9*n) 0 rfl ah ah ah ?_ ?_
 intro i t k hi J hk;unfold Kq;refine gG (λ_=>?_) λh=>absurd (show (i:Int)<5 by omega) h;have hc:=U i hi;refine jg (λs=>∃ n:Nat,s.2=(n:Int)/\n<=9/\s.1.size<=24+9*i+n) (λs=>10-s.2.toNat) ⟨0,rfl,by omega,by simp only;omega⟩ (by show 10-_<18446744073709551616;omega) ?_
 rintro⟨u,n'⟩ k15 ⟨n,e,hn,hu⟩ hk15
 simp only at e hu;subst e;unfold Ri;refine gZ (λs=>s=decide ((n:Int)<Xx c.color i)) ?_ ?_
 intro k18 I;rcases five hi with rfl|rfl|rfl|rfl|rfl<;>exact Xw ah (I _ rfl)
 rintro s rfl
 simp only;refine gG (λh=>?_) λh=>hk _ ah;have e1:=lW (n:=i) ah;have g:=lW (n:=n) ah;rw[e1,g];exact agK ah ah aT λx hx=>nG ah λy hy=>hk15 _ ⟨n+1,rfl,by omega,by simp only;omega⟩ bH
 intro t k J;unfold Kq;exact gG (λh=>absurd h aC) λ_=>gK (λ_=>gB trivial) λ_=>gB trivial
theorem XK (p:Qm Int)  : Ok (λr=>True) (Kt p):=by
 unfold Kt;exact gB trivial
theorem QD (p:Qm Int)  : Ok (λr=>True) (Ed p):=by
 unfold Ed;exact gJ (XK _ ) (λT h1=>gJ (XJ _ ) (λU h2=>gB trivial))
theorem Uy (op:Int)(f:kD)(T:mF f):Ok (λr=>True) (Jg op f):=by
 unfold Jg;exact gZ (λ(J:Int)=>True) (λk2 U=>gG (λI=>U _ trivial) (λI=>U _ trivial)) (λJ C=>gJ (vP _ ay) (λy4 h5=>gK (λg=>gB trivial) (λg=>gB trivial)))
theorem aaq (pe:jh)(specs:Int)(U:qo pe):Ok (λr=>True) (Xk pe specs):=by
 unfold Xk;have z3:pe.ref.filter.sub.size<=1048576:=(((U).1));have z6:pe.amount.filter.sub.size<=1048576:=(((U).2.1));have z7:pe.card.size<=1048576:=(U).2.2.1;have z9:pe.filter.sub.size<=1048576:=((U).2.2.2.1);have z10:=((U).2.2.2.2).1;have z11:=((U).2.2.2.2).2;refine gJ (XG _ ) (λy1 h12=>?_);refine gK (λh13=>gB trivial) (λh13=>?_);refine oh (λv2 h14=>?_);refine gZ (λ(s3:Bool)=>True) (λk4 hk15=>gJ (tZ _ _ ) (λy6 h17=>gK (λh18=>gJ (aao _ _ (by first|assumption|(refine⟨by omega,?_⟩;first|(intro _ _;trivial)|assumption)|(unfold Xv;simp_all[Hr,rM]))) (λy7 h19=>hk15 _ trivial)) (λh18=>hk15 _ trivial))) (λs3 hs16=>?_);refine gZ (λ(s8:Bool)=>s8=false->¬(pe.jB=0)) (λk9 T=>gG (λh22=>T _ af) (λh22=>gJ (tZ _ _ ) (λy11 h23=>gK (λh24=>gG (λh25=>T _ af) (λh25=>T _ af)) (λh24=>T _ af)))) (λs8 hs21=>?_);refine gZ (λ(s12:Bool)=>s12=false->¬(pe.counter=0)) (λk13 I=>gG (λh28=>I _ af) (λh28=>gJ (tZ _ _ ) (λy15 h29=>gK (λh30=>gJ (PM _ ) (λy16 h31=>I _ af)) (λh30=>I _ af)))) (λs12 hs27=>?_);refine gZ (λ(s17:Bool)=>True) (λk18 hk32=>gJ (tZ _ _ ) (λy20 h34=>gK (λh35=>gJ (Jo _ az) (λy21 h36=>hk32 _ trivial)) (λh35=>hk32 _ trivial))) (λs17 hs33=>?_);refine oh (λv22 h37=>?_)
 refine gZ (λ(s23:Bool)=>True) (λk24 hk38=>gJ (tZ _ _ ) (λy26 h40=>gK (λh41=>gJ (aap _ (by first|assumption|(refine⟨by omega,?_⟩;first|(intro _ _;trivial)|assumption)|(unfold LK;simp_all[Hr,rM]))) (λy27 h42=>hk38 _ trivial)) (λh41=>hk38 _ trivial))) (λs23 hs39=>?_);refine gZ (λ(s28:Bool)=>True) (λk29 C=>gJ (tZ _ _ ) (λy31 h45=>gK (λh46=>gJ (XI _ ax) (λy32 h47=>C _ trivial)) (λh46=>C _ trivial))) (λs28 hs44=>?_);refine oh (λv33 h48=>?_);refine gZ (λ(s34:Bool)=>True) (λk35 J=>gJ (tZ _ _ ) (λy37 h51=>gK (λh52=>gK (λh53=>gJ (QD _ ) (λy38 h54=>J _ trivial)) (λh53=>J _ trivial)) (λh52=>J _ trivial))) (λs34 hs50=>?_);refine oh (λv39 h55=>?_);refine gZ (λ(s40:Bool)=>True) (λk41 g=>gJ (tZ _ _ ) (λy43 h58=>gK (λh59=>gJ (Uy _ _ ay) (λy44 h60=>g _ trivial)) (λh59=>g _ trivial))) (λs40 hs57=>?_);refine gK (λh61=>?_) (λh61=>gB trivial);apply gK<;>intro h62
 refine gK (λh63=>gK (λh64=>gK (λh65=>gK (λh66=>gK (λh67=>gB trivial) (λh67=>gB trivial)) (λh66=>gB trivial)) (λh65=>gB trivial)) (λh64=>gB trivial)) (λh63=>?_);have hf68:=hs27 h63;exact gB trivial
 have hf69:=hs21 h62;exact gB trivial
theorem RG (l:List jh)(n:Int)(U:(rM qo) l):Ok (λr=>True) (Gt l n):=by
 unfold Gt;have z1:=(U).1;have z2:=(U).2;refine jg (λ(T:Int)=>0<=T/\T<=(l.length:Int)) (λ(T:Int)=>((l.length:Int)-T).toNat) ⟨ae,ae⟩ aj (λT k2 hI3 hk4=>?_);obtain⟨I,C⟩:=hI3;unfold Ku;apply gG<;>intro h5
 (try simp only[ik] at h5)
 refine lT ae ae (λx4 h6=>?_);have z7:qo x4:=z2 x4 h6;refine gJ (aaq _ _ bf) (λy5 h19=>?_);refine gK (λg=>gB trivial) (λg=>?_);have h21:iI T 1=T+1:=kC ah ah;exact hk4 _ ⟨ae,ae⟩ ae
 (try simp only[ik] at h5)
 apply gG<;>intro J
 (try simp only[ik] at J)
 exact gB trivial
 (try simp only[ik] at J)
 exact gB trivial
theorem Jq (a:iG)(U:lL a):Ok (λr=>True) (NC a):=by
 unfold NC;have z2:a.filter.sub.size<=1048576:=((U).1);have z3:=((U).2.1).1;have z4:=((U).2.1).2;have z7:a.iM.filter.sub.size<=1048576:=(((U).2.2.1));have z8:=((U).2.2.2.1).1;have z9:=((U).2.2.2.1).2;have z10:=((U).2.2.2.2.1).1;have z11:=((U).2.2.2.2.1).2;have z14:a.replace.filter.sub.size<=1048576:=(((U).2.2.2.2.2));refine gZ (λ(s1:Bool)=>s1=false->¬(a.kind<1)/\¬(5<a.kind)) (λk2 hk15=>gG (λh17=>hk15 _ af) (λh17=>hk15 _ af)) (λs1 hs16=>?_);refine gK (λh18=>gB trivial) (λh18=>?_);have hf19:=hs16 h18;refine gZ (λ(s4:Bool)=>s4=false->¬(a.kind=2)/\¬(a.kind=3)/\¬(a.kind=4)) (λk5 J=>gG (λh22=>J _ af) (λh22=>gG (λh23=>J _ af) (λh23=>J _ af))) (λs4 hs21=>?_);refine gZ (λ(s7:Unit)=>True) (λk8 hk24=>?_) (λs7 hs25=>?_)
 apply gG<;>intro h26
 refine gZ (λ(s10:Bool)=>s10=false->a.filter.jB=0) (λk11 T=>gJ (vP _ ay) (λy13 h29=>gK (λh30=>T _ af) (λh30=>lN (λh31=>T _ af) (λh31=>gJ (BM _ ax) (λy14 h32=>T _ af))))) (λs10 hs28=>?_);refine gK (λh33=>gB trivial) (λh33=>?_);have hf34:=hs28 h33;exact hk24 _ trivial
 refine gZ (λ(s15:Bool)=>s15=false->¬(0<(a.mQ.length:Int))) (λk16 C=>oh (λv18 h37=>gK (λh38=>C _ af) (λh38=>C _ af))) (λs15 hs36=>?_);refine gK (λh39=>gB trivial) (λh39=>?_);have hf40:=hs36 h39;exact hk24 _ trivial
 refine gZ (λ(s19:Unit)=>True) (λk20 hk41=>gG (λh43=>gJ (UR _ ) (λy22 h44=>gK (λh45=>gB trivial) (λh45=>hk41 _ trivial))) (λh43=>gZ (λ(s23:Bool)=>True) (λk24 hk46=>oh (λv26 h48=>gK (λh49=>hk46 _ trivial) (λh49=>hk46 _ trivial))) (λs23 hs47=>gK (λh50=>gB trivial) (λh50=>hk41 _ trivial)))) (λs19 hs42=>?_);refine gZ (λ(s27:Unit)=>True) (λk28 hk51=>gG (λh53=>gJ (aam _ (by first|assumption|(refine⟨by omega,?_⟩;first|(intro _ _;trivial)|assumption)|(unfold FN;simp_all[Hr,rM]))) (λy30 h54=>gK (λh55=>gB trivial) (λh55=>hk51 _ trivial))) (λh53=>gZ (λ(s31:Bool)=>True) (λk32 I=>oh (λv34 h58=>gK (λh59=>I _ trivial) (λh59=>I _ trivial))) (λs31 hs57=>gK (λh60=>gB trivial) (λh60=>hk51 _ trivial)))) (λs27 hs52=>?_);refine gZ (λ(s35:Unit)=>True) (λk36 hk61=>gG (λh63=>gJ (aan _ aZ) (λy38 h64=>gK (λh65=>gB trivial) (λh65=>hk61 _ trivial))) (λh63=>oh (λv39 h66=>gK (λh67=>gB trivial) (λh67=>hk61 _ trivial)))) (λs35 hs62=>?_);refine gK (λh68=>gZ (λ(s40:Bool)=>True) (λk41 g=>gJ (UW _ ax) (λy43 h71=>gK (λh72=>gJ (RG _ _ ax) (λy44 h73=>g _ trivial)) (λh72=>g _ trivial))) (λs40 hs70=>gB trivial)) (λh68=>?_);have hf74:=hs21 h68
 apply gG<;>intro h75
 (try simp only[ik] at h75)
 exact gB trivial
 (try simp only[ik] at h75)
 exact gB trivial
theorem XL (c:jc)(U:mG c):Ok (λr=>True) (Ph c):=by
 unfold Ph;exact gG (λh7=>gB trivial) (λh7=>gB trivial)
end Go.Proofs.YtchmoabpofnbaaaGreat
