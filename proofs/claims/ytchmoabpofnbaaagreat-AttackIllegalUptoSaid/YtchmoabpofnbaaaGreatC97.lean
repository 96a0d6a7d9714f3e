import Derived.Test.YtchmoabpofnbaaaGreatC11
import Derived.Test.YtchmoabpofnbaaaGreatC96
set_option linter.all false
namespace Go.Proofs.YtchmoabpofnbaaaGreat
open Go Go.Pv
set_option maxRecDepth 100000
def mD (x:jY):Prop:=IW x.sub
def xh (x:lZ):Prop:=IW x.sub/\mD x.filter
def F9 (x:xw):Prop:=mD x.filter
def Hl (x:sH):Prop:=mD x.filter
def Yl (x:Vl):Prop:=mD x.filter
def Na (x:yf):Prop:=mD x.filter
def oP (x:jg):Prop:=Yl x.ref/\Na x.amount/\IW x.card/\mD x.filter/\(su xh) x.mr
def zL (x:qJ):Prop:=mD x.filter
def lT (x:iP):Prop:=mD x.filter/\(su xh) x.mr/\F9 x.iK/\(su Hl) x.specs/\(su oP) x.kR/\zL x.replace
def yg (x:jP):Prop:=(su (λ(_:Int)=>True)) x.library/\(su (λ(_:Int)=>True)) x.hand/\(su (λ(_:Int)=>True)) x.wK
def JS (x:og):Prop:=lT x.jr/\(su (λ(_:qF)=>True)) x.targets
def qB (x:iL):Prop:=lT x.jr
def P6 (x:pM):Prop:=(su (λ(_:Int)=>True)) x.objects/\(su xh) x.mr
def lF (x:gB):Prop:=(su yg) x.iJ/\(su (λ(_:iw)=>True)) x.objects/\(su (λ(_:Int)=>True)) x.jd/\(su (λ(_:Int)=>True)) x.qK/\(su JS) x.stack/\(su qB) x.waiting/\(su P6) x.kW/\(su (λ(_:Int)=>True)) x.extra
theorem five {i:Nat}(h:i<5):i=0\/i=1\/i=2\/i=3\/i=4:=by omega
theorem YJ {ρ:Type}{Q:ρ->Prop}{n m:Nat}{k:Nat->Option ρ}(h:n<m)(hk:Ok Q (k n)):Ok Q (qE (n:Int) m k):=xN ah ah λj hj=>by
 have:j=n:=by omega
 rw[this];exact hk
def YK (c:abk Int):Nat->Int | 0=>c.a0|1=>c.a1|2=>c.a2|3=>c.a3|_=>c.a4
def isC (c:sG):Prop:=(0<=c.generic/\c.generic<=99/\0<=c.x/\c.x<=2)/\∀ j,j<5->0<=YK c.color j/\YK c.color j<=9
theorem yN {ρ:Type}{Q:ρ->Prop}{x b:Bool}{k:Bool->Option ρ}(h:x=b)(hk:Ok Q (k b)):Ok Q (lt x k):=by subst h;exact hk
theorem jm {ρ:Type}{Q:ρ->Prop}{c:Bool}{a b:Option ρ}(h:c=true)(hk:Ok Q a):Ok Q (br c a b):=by subst h;exact hk
theorem iY {ρ:Type}{Q:ρ->Prop}{c:Bool}{a b:Option ρ}(h:c=false)(hk:Ok Q b):Ok Q (br c a b):=by subst h;exact hk
def Aq (x:zZ):Prop:=(su IW) x.subs
def pq (x:iZ):Prop:=IW x.name/\Aq x.line/\(su lT) x.gU
def SW (n:Nat)(l:List ByteArray):Prop:=l.length=n/\n<=100/\∀ x∈l,x.size<=100
theorem SW.sz {n:Nat}{l:List ByteArray}(h:SW n l):su IW l:=⟨by have:=h.1;have:=h.2.1;omega,λx hx=>by have:=h.2.2 x hx;show x.size<=1048576;omega⟩
def WL (n:Nat)(l:List ByteArray):Prop:=l.length<=n/\∀ x∈l,x.size<=140737488360000
theorem WL.add {n:Nat}{l:List ByteArray}{x:ByteArray}(h:WL n l)(hx:x.size<=140737488360000):WL (n+1) (l++[x]):=⟨by have:=h.1;simp;omega,λy hy=>by
 rcases List.mem_append.1 hy with hy|hy
 exact h.2 y hy
 rw[List.mem_singleton.1 hy];exact hx⟩
theorem WL.mono {n m:Nat}{l:List ByteArray}(h:WL n l)(U:n<=m):WL m l:=⟨by have:=h.1;omega,h.2⟩
theorem YL:lT CB:=by
 simp[lT,mD,F9,zL,IW,su,CB,lW,Ry,Rz,oz]
theorem Xu (n:Int):0<=IntKind.u64.wrap n/\IntKind.u64.wrap n<18446744073709551616:=by rw[IntKind.wrap_u64];omega
theorem u64q {x:Int}(h0:0<=x)(h1:x<18446744073709551616):IntKind.u64.wrap (x.tdiv 10)=x / 10:=by
 rw[Int.tdiv_eq_ediv_of_nonneg h0,IntKind.wrap_u64];omega
theorem Jr (a:List lZ)(b:List lZ)(zz_a:(su xh) a)(T:(su xh) b):Ok (λr=>True) (vT a b):=by
 unfold vT;have z3:=(T).1;refine lU (λh5=>?_) (λh5=>?_)
 (try simp only[gJ] at h5)
 exact gm trivial
 (try simp only[gJ] at h5)
 refine je (λ(U:Int)=>0<=U/\U<=(a.length:Int)) (λ(U:Int)=>((a.length:Int)-U).toNat) ⟨ae,ae⟩ ak (λU k2 I g=>?_);obtain⟨hI6_0,C⟩:=I;unfold zo;apply gp<;>intro h8
 (try simp only[gJ] at h8)
 refine kQ ae ae (λx4 h9=>?_);refine kQ ae ae (λx5 h14=>?_);refine ou (λv6 h19=>?_);refine gz (λJ=>gm trivial) (λJ=>?_);have h21:iq U 1=U+1:=kL ah ah;exact g _ ⟨ae,ae⟩ ae
 (try simp only[gJ] at h8)
 exact gm trivial
theorem YM (a:jg)(b:jg)(U:oP a)(T:oP b):Ok (λr=>True) (Ji a b):=by
 unfold Ji;have z10:=((U).2.2.2.2).1;have z11:=((U).2.2.2.2).2;have z21:=((T).2.2.2.2).1;have z22:=((T).2.2.2.2).2;exact gp (λh23=>ou (λv1 h24=>gz (λg=>ou (λv2 h26=>gz (λh27=>gp (λh28=>gp (λh29=>gz (λI=>ou (λv3 h31=>gz (λJ=>ou (λv4 h33=>gz (λC=>gu (Jr _ _ ax ax) (λy5 h35=>gm trivial)) (λC=>gm trivial))) (λJ=>gm trivial))) (λI=>gm trivial)) (λh29=>gm trivial)) (λh28=>gm trivial)) (λh27=>gm trivial))) (λg=>gm trivial))) (λh23=>gm trivial)
theorem RS (a:List jg)(b:List jg)(J:(su oP) a)(U:(su oP) b):Ok (λr=>True) (yh a b):=by
 unfold yh;have z2:=(J).2;have z3:=(U).1;have z4:=(U).2;refine lU (λh5=>?_) (λh5=>?_)
 (try simp only[gJ] at h5)
 exact gm trivial
 (try simp only[gJ] at h5)
 refine je (λ(T:Int)=>0<=T/\T<=(a.length:Int)) (λ(T:Int)=>((a.length:Int)-T).toNat) ⟨ae,ae⟩ ak (λT k2 I hk7=>?_);obtain⟨hI6_0,C⟩:=I;unfold zq;apply gp<;>intro h8
 (try simp only[gJ] at h8)
 refine kQ ae ae (λx4 h9=>?_);have z10:oP x4:=z2 x4 h9;refine kQ ae ae (λx5 g=>?_);have z23:oP x5:=z4 x5 g;refine gu (YM _ _ bu bu) (λy6 h35=>?_);refine gz (λh36=>gm trivial) (λh36=>?_);have h37:iq T 1=T+1:=kL ah ah;exact hk7 _ ⟨ae,ae⟩ ae
 (try simp only[gJ] at h8)
 exact gm trivial
theorem YN (a:iP)(b:iP)(T:lT a)(U:lT b):Ok (λr=>True) (DU a b):=by
 unfold DU;have z3:=((T).2.1).1;have z4:=((T).2.1).2;have z10:=((T).2.2.2.2.1).1;have z11:=((T).2.2.2.2.1).2;have z17:=((U).2.1).1;have z18:=((U).2.1).2;have z22:=((U).2.2.2.1).1;have z23:=((U).2.2.2.1).2;have z24:=((U).2.2.2.2.1).1;have z25:=((U).2.2.2.2.1).2;refine lU (λI=>?_) (λI=>?_)
 (try simp only[gJ] at I)
 exact gm trivial
 (try simp only[gJ] at I)
 refine je (λ(J:Int)=>0<=J/\J<=(a.specs.length:Int)) (λ(J:Int)=>((a.specs.length:Int)-J).toNat) ⟨ae,ae⟩ ak (λJ k2 g hk31=>?_);obtain⟨hI30_0,hI30_1⟩:=g;unfold Hm;apply gp<;>intro C
 (try simp only[gJ] at C)
 refine kQ ae ae (λx4 h33=>?_);refine kQ ae ae (λx5 h37=>?_);have z38:Hl x5:=z23 x5 h37;refine ou (λv6 h41=>?_);refine gz (λh42=>gm trivial) (λh42=>?_);have h43:iq J 1=J+1:=kL ah ah;exact hk31 _ ⟨ae,ae⟩ ae
 (try simp only[gJ] at C)
 exact gp (λh44=>ou (λv7 h45=>gz (λh46=>gu (Jr _ _ ax ax) (λy8 h47=>gz (λh48=>ou (λv9 h49=>gz (λh50=>gz (λh51=>ou (λv10 h52=>gz (λh53=>gz (λh54=>gu (RS _ _ ax ax) (λy11 h55=>gz (λh56=>ou (λv12 h57=>gm trivial)) (λh56=>gm trivial))) (λh54=>gm trivial)) (λh53=>gm trivial))) (λh51=>gm trivial)) (λh50=>gm trivial))) (λh48=>gm trivial))) (λh46=>gm trivial))) (λh44=>gm trivial)
theorem BL (l:List Int)(U:(su (λ(_:Int)=>True)) l):Ok (λr=>r=l) (DW l):=by
 unfold DW;have z1:=(U).1;refine jH ae ae ?_;exact gm rfl
theorem nG (n:Int)(least:Int)(most:Int)  : Ok (λr=>True) (xy n least most):=by
 unfold xy;exact gp (λh1=>gm trivial) (λh1=>gm trivial)
theorem sV (s:gB)(p:Int)(U:lF s):Ok (λr=>True) (uw s p):=by
 unfold uw;exact gu (nG _ _ _ ) (λJ T=>gm trivial)
theorem Kw (c:sG):Ok (λr=>r=true↔isC c) (OQ c):=by
 unfold OQ;refine gV (λs=>s=decide (c.generic<0\/99<c.generic\/c.x<0\/2<c.x)) ?_ ?_
 intro k2 h2;exact gp (λh=>h2 _ dM) λa=>gp (λh=>h2 _ dM) λb=>gp (λh=>h2 _ dM) λd=>h2 _ (by simp[a,b,d])
 rintro s rfl
 refine gp (λh=>gm ⟨λh=>(by cases h),λhC=>by have:=hC.1;omega⟩) λh0=>?_;refine pJ 0 5 (λn=>∀ j,j<n->0<=YK c.color j/\YK c.color j<=9) 0 rfl ah ah (λj h=>by omega) ?_ ?_
 intro i k hi U hk;unfold RF;refine gp (λ_=>gV (λs=>s=decide (YK c.color i<0\/9<YK c.color i)) ?_ ?_) λh=>absurd (show(i:Int)<5 by omega) h
 intro k6 T
 rcases five hi with rfl|rfl|rfl|rfl|rfl <;>
  exact YJ ah (gp (λh=>T _ (by simp only[YK];simp[h])) λh=>YJ ah (T _ (by simp only[YK];simp[h])))
 rintro s rfl
 refine gp (λh=>gm ?_) λh=>hk λj hj=>?_
 refine⟨λh=>(by cases h),λhC=>?_⟩;have:=hC.2 i hi;omega
 by_cases e:j=i
 subst e;omega
 exact U j ah
 intro k U;unfold RF;exact gp (λh=>absurd h ah) λ_=>gm ⟨λ_=>⟨by omega,U⟩,λ_=>rfl⟩
theorem Tv (c:Int)  : Ok (λr=>True) (Qh c):=by
 unfold Qh;exact gp (λh1=>gm trivial) (λh1=>gm trivial)
theorem Ky (s:ByteArray)(zz_s:IW s):Ok (λr=>True) (RD s):=by
 unfold RD;refine gV (λ(s1:Bool)=>s1=false->¬((s.size:Int)<1)/\¬(32<(s.size:Int))) (λk2 I=>?_) (λs1 hs3=>?_)
 refine gp (λh4=>I _ af) (λh4=>?_);refine gp (λh5=>I _ af) (λh5=>?_);refine CX ae ae (λx4 h6=>?_);refine gu (Tv _ ) (λy5 h7=>?_);refine gz (λh8=>I _ af) (λh8=>?_);have h9:qI (s.size:Int) 1=(s.size:Int)-1:=Fz aY aY;exact CX ae ae (λx6 h10=>I _ af)
 refine gz (λC=>gm trivial) (λC=>?_);have hf12:=hs3 C;refine je (λ(J:Int)=>0<=J/\J<=(s.size:Int)) (λ(J:Int)=>((s.size:Int)-J).toNat) ⟨ae,ae⟩ ak (λJ k8 g hk14=>?_);obtain⟨hI13_0,hI13_1⟩:=g;unfold Xi;refine gp (λh15=>?_) (λh15=>gm trivial);refine gV (λ(s10:Bool)=>True) (λk11 U=>CX ae ae (λx13 h18=>gu (Tv _ ) (λy14 h19=>gz (λh20=>CX ae ae (λx15 h21=>gp (λh22=>CX ae ae (λx16 h23=>U _ trivial)) (λh22=>CX ae ae (λx17 h24=>gp (λh25=>CX ae ae (λx18 h26=>U _ trivial)) (λh25=>U _ trivial))))) (λh20=>U _ trivial)))) (λs10 hs17=>?_);refine gz (λh27=>gm trivial) (λh27=>?_);refine gV (λ(s19:Bool)=>True) (λk20 T=>?_) (λs19 hs29=>?_)
 refine gp (λh30=>?_) (λh30=>T _ trivial);refine CX ae ae (λx22 h31=>?_);refine gp (λh32=>?_) (λh32=>T _ trivial);have h33:qI J 1=J-1:=Fz aY aY;exact CX ae ae (λx23 h34=>T _ trivial)
 refine gz (λh35=>gm trivial) (λh35=>?_);have h36:iq J 1=J+1:=kL ah ah;exact hk14 _ ⟨ae,ae⟩ ae
theorem NZ (l:List ByteArray)(s:ByteArray)(T:(su IW) l)(zz_s:IW s):Ok (λr=>True) (Jj l s):=by
 unfold Jj;have z1:=(T).1;refine je (λ(U:Int)=>0<=U/\U<=(l.length:Int)) (λ(U:Int)=>((l.length:Int)-U).toNat) ⟨ae,ae⟩ ak (λU k2 g I=>?_);obtain⟨C,J⟩:=g;unfold Qi;apply gp<;>intro h6
 (try simp only[gJ] at h6)
 refine kQ ae ae (λx4 h7=>?_);refine gz (λh10=>gm trivial) (λh10=>?_);have h11:iq U 1=U+1:=kL ah ah;exact I _ ⟨ae,ae⟩ ae
 (try simp only[gJ] at h6)
 exact gm trivial
theorem O1   : Ok (λr=>SW 2 r) (AX ):=by
 unfold AX;exact gm bC
theorem Iq   : Ok (λr=>SW 6 r) (yY ):=by
 unfold yY;exact gm bC
theorem DI (s:ByteArray)(U:IW s):Ok (λr=>True) (CG s):=by
 unfold CG;exact gu (Ky _ az) (λy1 h2=>gz (λT=>gu (O1  ) (λy2 h4=>gu (NZ _ _ bZ az) (λy3 h5=>gp (λJ=>gu (Iq  ) (λy4 I=>gu (NZ _ _ bZ az) (λg C=>gm trivial))) (λJ=>gm trivial)))) (λT=>gm trivial))
theorem MG (mask:Int)(i:Int)(hi:i<=100):Ok (λr=>True) (Nl mask i):=by
 unfold Nl;refine je (λ(U:Int×Int)=>0<=U.2) (λ(U:Int×Int)=>(i-U.2).toNat) ae ak (λU k2 I T=>?_);unfold Vr;refine gp (λJ=>?_) (λJ=>Ag bJ (λx5 h6=>gm trivial));refine Af bJ (λg C=>?_);have h5:iq U.2 1=U.2+1:=kL ah ah;exact T _ ae ae
theorem Vy (l:zZ)(I:Aq l):Ok (λr=>True) (J8 l):=by
 unfold J8;have z2:=((I)).2;refine gV (λ(s1:Bool)=>s1=false->¬(3<l.F7)/\¬(63<l.types)/\¬(l.F7<0)/\¬(l.types<1)/\¬(4<(l.subs.length:Int))) (λk2 T=>gp (λh5=>T _ af) (λh5=>gp (λh6=>T _ af) (λh6=>gp (λh7=>T _ af) (λh7=>gp (λh8=>T _ af) (λh8=>T _ af))))) (λs1 hs4=>?_);refine gz (λh9=>gm trivial) (λh9=>?_);have hf10:=hs4 h9;refine je (λ(J:Int)=>0<=J/\J<=(l.subs.length:Int)) (λ(J:Int)=>((l.subs.length:Int)-J).toNat) ⟨ae,ae⟩ ak (λJ k5 hI11 g=>?_);obtain⟨hI11_0,hI11_1⟩:=hI11;unfold Xl;apply gp<;>intro C
 (try simp only[gJ] at C)
 refine gV (λ(s7:Bool)=>True) (λk8 U=>?_) (λs7 hs15=>?_)
 refine kQ ae ae (λx10 h16=>?_);have z17:IW x10:=z2 x10 h16;refine gu (DI _ az) (λy11 h19=>?_);refine gz (λh20=>U _ trivial) (λh20=>?_);refine gp (λh21=>?_) (λh21=>U _ trivial);have h22:qI J 1=J-1:=Fz aY aY;refine kQ ae ae (λx12 h23=>?_);refine kQ ae ae (λx13 h26=>?_);exact U _ trivial
 refine gz (λh29=>gm trivial) (λh29=>?_);have h30:iq J 1=J+1:=kL ah ah;exact g _ ⟨ae,ae⟩ ae
 (try simp only[gJ] at C)
 exact gp (λh31=>gm trivial) (λh31=>gp (λh32=>gm trivial) (λh32=>gu (MG _ _ ae) (λy14 h33=>gz (λh34=>gu (MG _ _ ae) (λy15 h35=>gm trivial)) (λh34=>gm trivial))))
theorem Vz (mask:Int)  : Ok (λr=>True) (OO mask):=by
 unfold OO;exact gp (λh1=>gm trivial) (λh1=>gm trivial)
theorem Js (c:iZ)(U:pq c):Ok (λr=>True) (Fa c):=by
 unfold Fa;exact gm trivial
theorem N7 (a b most:Int):Ok (λr=>True) (Jk a b most):=by
 unfold Jk;refine gV (λ_=>True) ?_ ?_
 intro k h;exact gp (λ_=>h _ trivial) λ_=>gp (λ_=>h _ trivial) λ_=>gp (λ_=>h _ trivial) λ_=>h _ trivial
 intro s _;refine gz (λ_=>gm trivial) λ_=>?_;refine je (λs=>0<=s.2.2/\s.2.2<=6) (λs=>(6-s.2.2).toNat) ⟨by simp only;omega,by simp only;omega⟩ (by show _<18446744073709551616;simp only;omega) ?_
 rintro⟨x,y,n⟩ k ⟨h0,h1⟩ hk
 simp only at h0 h1;unfold Qj;refine gp (λh=>gV (λ_=>True) ?_ ?_) λ_=>gm trivial
 intro k6 U;exact Ag bJ λ_ _=>gp (λ_=>Ag bJ λ_ _=>U _ trivial) λ_=>U _ trivial
 intro s _;simp only at h |-;rw[kL ah ah];exact gz (λ_=>gm trivial) λ_=>Af bJ λ_ _=>Af bJ λ_ _=>hk _ ⟨by simp only;omega,by simp only;omega⟩ aF
theorem IQ (b:vS):Ok (λr=>r=true->0<=b.kind/\b.kind<=3) (FM b):=by
 unfold FM;refine gV (λs=>s=false->0<=b.kind/\b.kind<=3) ?_ ?_
 intro k h;exact gp (λ_=>h _ dU) λh1=>gp (λ_=>h _ dU) λh2=>gp (λ_=>h _ dU) λ_=>h _ λ_=>by omega
 intro s hs;exact gz (λ_=>gm dU) λe=>lU (λ_=>gm λ_=>hs e) λ_=>gm λ_=>hs e
def afG (f:jY):Prop:=(0<=f.jE/\f.jE<=5)/\(0<=f.who/\f.who<=2)/\(0<=f.self/\f.self<=2)/\(0<=f.Cb/\f.Cb<=2)/\(0<=f.power.kind/\f.power.kind<=3)/\(0<=f.jb.kind/\f.jb.kind<=3)/\(0<=f.value.kind/\f.value.kind<=3)
theorem wu (f:jY)(U:mD f):Ok (λr=>r=true->afG f) (Ej f):=by
 unfold Ej;have no:∀ {p:Prop},((false:Bool)=true->p):=λe=>by cases e
 refine gV (λs=>s=false->(0<=f.jE/\f.jE<=5)/\(0<=f.who/\f.who<=2)/\(0<=f.self/\f.self<=2)/\(0<=f.Cb/\f.Cb<=2)) ?_ ?_
 ·intro k h
  iterate 7 refine gp (λ_=>h _ dU) λ_=>?_
  exact h _ λe=>by rw[decide_eq_false_iff_not] at e;omega
 intro s hs;refine gz (λ_=>gm no) λe=>gV (λ_=>True) ?_ ?_
 intro k h;exact gu (N7 _ _ _) λ_ _=>gz (λ_=>h _ trivial) λ_=>gu (N7 _ _ _) λ_ _=>h _ trivial
 intro s3 _;refine gz (λ_=>gm no) λ_=>gV (λ_=>True) ?_ ?_
 intro k h;refine gz (λ_=>gu (DI _ U) λ_ _=>gz (λ_=>h _ trivial) λ_=>gp (λ_=>h _ trivial) λ_=>h _ trivial) λ_=>gp (λ_=>h _ trivial) λ_=>h _ trivial
 intro s7 _;refine gz (λ_=>gm no) λ_=>gu (IQ _) λy10 I=>gz (λe10=>gu (IQ _) λg J=>gz (λe11=>gu (IQ _) λC T=>gm λe12=>?_) λ_=>gm no) λ_=>gm no;obtain⟨a,b,c,d⟩:=hs e;exact⟨a,b,c,d,I e10,J e11,T e12⟩
theorem YO (m:lZ)(g:xh m):Ok (λr=>True) (Qk m):=by
 unfold Qk;exact gp (λh4=>gm trivial) (λh4=>gp (λh5=>gm trivial) (λh5=>gp (λh6=>gm trivial) (λh6=>gp (λh7=>gm trivial) (λh7=>gp (λh8=>gm trivial) (λh8=>gp (λh9=>gm trivial) (λh9=>gp (λC=>gm trivial) (λC=>gp (λJ=>gm trivial) (λJ=>gp (λU=>gm trivial) (λU=>gp (λI=>gm trivial) (λI=>gp (λT=>gm trivial) (λT=>gm trivial)))))))))))
theorem N8 (mask:Int)  : Ok (λr=>True) (Jl mask):=by
 unfold Jl;exact gp (λh1=>gp (λh2=>gm trivial) (λh2=>gm trivial)) (λh1=>gm trivial)
theorem VA (m:lZ)(U:xh m):Ok (λr=>True) (Vq m):=by
 unfold Vq;have z1:m.sub.size<=1048576:=(U).1;have z3:m.filter.sub.size<=1048576:=((U).2);refine gV (λ(s1:Bool)=>s1=false->¬(14<m.kind)/\¬(m.kind<1)) (λk2 hk4=>gp (λh6=>hk4 _ af) (λh6=>gp (λh7=>hk4 _ af) (λh7=>gu (YO _ bD) (λy4 h8=>ou (λv5 h9=>hk4 _ af))))) (λs1 hs5=>?_);refine gz (λT=>gm trivial) (λT=>?_);have hf11:=hs5 T
 exact gp (λC=>gu (N8 _ ) (λy6 h13=>gm trivial)) (λC=>gp (λh14=>gu (N8 _ ) (λy7 h15=>gm trivial)) (λh14=>gp (λh16=>gu (DI _ az) (λy8 h17=>gm trivial)) (λh16=>gp (λh18=>gu (DI _ az) (λy9 h19=>gm trivial)) (λh18=>gp (λh20=>gp (λh21=>gm trivial) (λh21=>gm trivial)) (λh20=>gp (λh22=>gp (λh23=>gm trivial) (λh23=>gm trivial)) (λh22=>gp (λh24=>gp (λh25=>gm trivial) (λh25=>gm trivial)) (λh24=>gp (λh26=>gp (λh27=>gm trivial) (λh27=>gm trivial)) (λh26=>gp (λh28=>gu (wu _ ay) (λy10 h29=>gm trivial)) (λh28=>gp (λI=>gp (λh31=>gp (λJ=>gp (λh33=>gm trivial) (λh33=>gm trivial)) (λJ=>gm trivial)) (λh31=>gm trivial)) (λI=>gp (λg=>gp (λh35=>gp (λh36=>gp (λh37=>gm trivial) (λh37=>gm trivial)) (λh36=>gm trivial)) (λh35=>gm trivial)) (λg=>gm trivial)))))))))))
theorem VB (l:List ByteArray)(mask:Int)(U:ByteArray)(n:Nat)(hl:SW n l)(g:U.size<=10):Ok (λr=>r.size<=11000) (J6 l mask U):=by
 unfold J6;have hn:=hl.1;have I:=hl.2.1;refine JO 0 l.length (λn t=>t.size<=110*n) 0 rfl (Nat.zero_le _) ah aH ?_ ?_
 intro i t k hi J hk;unfold IG;refine gp (λ_=>gV (λs=>s.size<=110*(i+1)) ?_ λs hs=>hk s hs) λh=>absurd (show(i:Int)<(l.length:Int) by omega) h;intro k5 h5;refine gu (MG _ _ aF) λy7 _=>gz (λ_=>gV (λs=>s.size<=110*i+10) ?_ ?_) λ_=>h5 _ aF
 intro C T;exact gz (λ_=>nD aF λx hx=>T _ (by simp only at hx;omega)) λ_=>T _ aF
 intro s hs;refine kQ aF aF λx hx=>nD (by have:=hl.2.2 x hx;omega) λy hy=>h5 _ (by have:=hl.2.2 x hx;omega)
 intro t k J;unfold IG;exact gp (λh=>absurd h aS) λ_=>gm aF
theorem BM (mask:Int):Ok (λr=>r.size<=11000) (wM mask):=by
 unfold wM;exact gp (λ_=>gm aH) λ_=>gp (λ_=>gm aH) λ_=>gu Iq λT h1=>gu (VB _ _ _ _ h1 aH) λU h2=>gm h2
theorem abz (mask:Int)  : Ok (λr=>True) (Yu mask):=by
 unfold Yu;exact gp (λh1=>gm trivial) (λh1=>gm trivial)
theorem Kz (i:Int)  : Ok (λr=>r.size<=100) (Jm i):=by
 unfold Jm;exact gp (λh1=>gm aH) (λh1=>gp (λh2=>gm aH) (λh2=>gp (λU=>gm aH) (λU=>gp (λT=>gm aH) (λT=>gp (λh5=>gm aH) (λh5=>gm aH)))))
theorem QL (mask:Int):Ok (λr=>r.size<=11000) (LG mask):=by
 unfold LG;refine gu (abz _) λy1 _=>gz (λ_=>gm aH) λ_=>gp (λ_=>gm aH) λ_=>?_;refine JO 0 5 (λn t=>t.size<=110*n) 0 rfl ah ah aH ?_ ?_
 ·intro i t k hi J hk;unfold LD;refine gp (λ_=>gV (λs=>s.size<=110*(i+1)) ?_ λs hs=>hk s hs) λh=>absurd (show(i:Int)<5 by omega) h;intro k5 h5;refine aby aF λI U=>Af ?_ λx7 _=>Ag bJ λC _=>gp (λ_=>gV (λs=>s.size<=110*i+10) ?_ ?_) λ_=>h5 _ aF
  ·rcases five hi with rfl|rfl|rfl|rfl|rfl
   all_goals
    have:I≠0:=by
     intro e;subst e;revert U;simp only;decide
    exact this
  intro g T;exact gz (λ_=>nD aT λx hx=>T _ aV) λ_=>T _ aF
  intro s hs;exact gu (Kz _) λy hy=>nD ah λz hz=>h5 _ ah
 intro t k J;unfold LD;exact gp (λh=>absurd h aF) λ_=>gm aF
theorem VZ   : Ok (λr=>SW 17 r) (Np ):=by
 unfold Np;exact gm bC
theorem QM (i:Int):Ok (λr=>r.size<=100) (LH i):=by
 unfold LH;refine gp (λ_=>gm aH) λ_=>gp (λ_=>gm aH) λ_=>gu VZ λU h1=>kQ ah (by have:=h1.1;omega) λx hx=>gm (h1.2.2 x hx)
theorem QN (mask:Int):Ok (λr=>r.size<=11000) (LJ mask):=by
 unfold LJ;refine gu (Vz _) λy1 _=>gz (λ_=>gm aH) λ_=>?_;refine je (λs=>∃ n:Nat,s.2.2=(n:Int)/\n<=17/\s.2.1.size<=110*n) (λs=>17-s.2.2.toNat) ⟨0,rfl,by omega,by simp[oz]⟩ (by show 17-_<18446744073709551616;omega) ?_
 rintro⟨m,t,C⟩ k ⟨n,e,hn,ht⟩ hk
 simp only at e ht;subst e;unfold Ti;refine gp (λh=>gV (λs=>s.2.size<=110*(n+1)) ?_ ?_) λh=>gz (λ_=>gm aH) λ_=>gm aF
 intro k6 J;refine gV (λs=>s.size<=110*(n+1)) ?_ λs hs=>Af bJ λx _=>J _ hs;intro I T;refine Ag bJ λx _=>gp (λ_=>gV (λs=>s.size<=110*n+10) ?_ ?_) λ_=>T _ aF
 intro k13 U;exact gz (λ_=>nD aT λx hx=>U _ aV) λ_=>U _ aF
 intro s hs;exact gu (QM _) λy hy=>nD ah λz hz=>T _ ah
 rintro⟨g,s2⟩ hs
 simp only at h hs |-;rw[lG ah];exact hk _ ⟨n+1,rfl,by omega,hs⟩ bK
theorem QO   : Ok (λr=>SW 6 r) (Dp ):=by
 unfold Dp;exact gm bC
theorem RU   : Ok (λr=>SW 3 r) (EY ):=by
 unfold EY;exact gm bC
theorem QP   : Ok (λr=>SW 3 r) (Dq ):=by
 unfold Dq;exact gm bC
theorem RV   : Ok (λr=>SW 3 r) (EZ ):=by
 unfold EZ;exact gm bC
theorem xO (l:List ByteArray)(s:ByteArray)(n:Nat)(hl:WL n l)(hs:s.size<=140737488360000)(hn:n<=1000):Ok (λr=>WL (n+1) r) (Dt l s):=by
 unfold Dt;have:=hl.1;exact gz (λ_=>gm (hl.mono ah)) λ_=>jH aK aK (gm (hl.add hs))
theorem Ea (mask:Int)(i:Int)(hi:i<=100):Ok (λr=>True) (Hr mask i):=by
 unfold Hr;refine je (λ(U:Int×Int)=>0<=U.2) (λ(U:Int×Int)=>(i-U.2).toNat) ae ak (λU k2 I T=>?_);unfold Vs;refine gp (λJ=>?_) (λJ=>Ag bJ (λx5 h6=>gm trivial));refine Af bJ (λg C=>?_);have h5:iq U.2 1=U.2+1:=kL ah ah;exact T _ ae ae
theorem Jt (i:Int)(hi:i<=100):Ok (λr=>r.size<=11000) (AY i):=by
 unfold AY;refine je (λ(U:Int×Int)=>0<=U.2) (λ(U:Int×Int)=>(i-U.2).toNat) ae ak (λU k2 I T=>?_);unfold KG;refine gp (λJ=>?_) (λJ=>gu (BM _ ) (λy4 h5=>gm aN));have C:iq U.2 1=U.2+1:=kL ah ah;exact T _ ae ae
theorem MH (u:Int)(hu:0<=u/\u<18446744073709551616):Ok (λr=>r.size<=21) (CJ u):=by
 obtain⟨h0,h1⟩:=hu;unfold CJ;refine Ag bJ (λx1 _=>acU (λx2 h2=>Af bJ (λx3 g=>?_)));rw[u64q h0 h1] at g;refine je (λs=>∃ k:Nat,s.2.size+k<=21/\0<=s.1/\s.1<10 ^ k) (λs=>s.1.toNat) ⟨20,by simp only;omega,by simp only;omega,by simp only;omega⟩ (by show _<18446744073709551616;simp only;omega) ?_
 rintro⟨a,b⟩ k5 ⟨k,g1,g2,g3⟩ hk
 simp only at g1 g2 g3;unfold II;refine gp (λh=>?_) (λ_=>gm aF);simp only at h;have I:k≠0:=by intro e;subst e;simp at g3;omega
 obtain⟨U,rfl⟩:∃ U,k=U+1:=⟨k-1,by omega⟩;have hp:(10:Int) ^ (U+1)=10 ^ U*10:=Int.pow_succ 10 U;rw[hp] at g3;refine Ag bJ (λx6 _=>acU (λx7 h7=>nD aF (λx8 C=>Af bJ (λJ T=>?_))));simp only at C T
 have hq:0<=J/\J<=a / 10:=by
  rw[T,Int.tdiv_eq_ediv_of_nonneg g2,IntKind.wrap_u64];omega
 exact hk _ ⟨U,by simp only;omega,hq.1,by simp only;omega⟩ aF
theorem yB (n:Int)  : Ok (λr=>r.size<=22) (AZ n):=by
 unfold AZ;refine gp (λh1=>?_) (λh1=>gu (MH _ (Xu _)) (λy3 J=>gm aN));refine gu (MH _ (Xu _)) (λT h2=>?_);refine nD ae (λI U=>?_);simp only[oz,List.length_cons,List.length_nil] at U;exact gm aN
theorem V3   : Ok (λr=>SW 4 r) (Nq ):=by
 unfold Nq;exact gm bC
theorem BN (name:ByteArray)(b:vS)(hn:name.size<=100)(hk:0<=b.kind/\b.kind<=3):Ok (λr=>r.size<=1000) (wO name b):=by
 unfold wO;refine gp (λ_=>gm aH) λ_=>gu V3 λC h1=>kQ ah (by have:=h1.1;omega) λT U=>?_;have:=h1.2.2 T U;exact nD ah λI J=>gu (yB _) λy4 h4=>nD ah λg h5=>gm ah
theorem YP (l:List ByteArray)(U:ByteArray)(hl:WL 200 l)(C:U.size<=10):Ok (λr=>r.size<=28147497672002000) (Ql l U):=by
 unfold Ql;have hn:=hl.1;refine JO 0 l.length (λn t=>t.size<=140737488360010*n) 0 rfl (Nat.zero_le _) ah aH ?_ ?_
 intro i t k hi J hk;unfold LK;refine gp (λ_=>gV (λs=>s.size<=140737488360010*(i+1)) ?_ λs hs=>hk s hs) λh=>absurd (show(i:Int)<(l.length:Int) by omega) h;intro k5 h5;refine gV (λs=>s.size<=140737488360010*i+10) ?_ ?_
 intro I T;exact gp (λ_=>nD aF λx hx=>T _ (by simp only at hx;omega)) λ_=>T _ aF
 intro s hs;refine kQ aF aF λx hx=>nD (by have:=hl.2 x hx;omega) λy hy=>h5 _ (by have:=hl.2 x hx;omega)
 intro t k J;unfold LK;exact gp (λh=>absurd h aS) λ_=>gm aF
theorem YQ (f:jY)(g:mD f):Ok (λr=>r.size<=28147497672002000) (LM f):=by
 have hsub:f.sub.size<=1048576:=g;unfold LM;refine gu (wu f g) λy1 h1=>gz (λ_=>gm aH) λh=>?_;obtain⟨hz,hw,hs,ht,hp,hq,hv⟩:=h1 bW;refine gu QO λy2 h2=>gu RU λy3 h3=>gu QP λy4 h4=>gu RV λy5 h5=>?_;have l5:=h5.1;refine kQ ah (by have:=h2.1;omega) λx6 k6=>gu (xO _ _ 0 ⟨by simp,by simp⟩ (by have:=h2.2.2 x6 k6;omega) ah) λy7 h7=>?_;refine kQ ah (by have:=h3.1;omega) λx8 k8=>gu (xO _ _ _ h7 (by have:=h3.2.2 x8 k8;omega) ah) λy9 h9=>?_;refine kQ ah (by have:=h4.1;omega) λx10 k10=>gu (xO _ _ _ h9 (by have:=h4.2.2 x10 k10;omega) ah) λy11 h11=>?_;refine ku 0 6 (λn t=>WL (3+n) t) 0 rfl ah ah h11 ?_ ?_
 intro i t k hi T hk;have hl:=T.1;unfold HY;refine gp (λ_=>gV (λs=>WL (3+i+1) s) ?_ λs hs=>hk s hs) λh=>absurd (show(i:Int)<6 by omega) h;intro k16 U;exact gu (Ea _ _ aF) λI _=>gz (λ_=>gu (Jt _ aF) λJ C=>jH aK aK (U _ (T.add ah))) λ_=>U _ (T.mono ah)
 intro t _ h12;unfold HY;refine gp (λh=>absurd h aF) λ_=>?_;refine ku 0 6 (λn t=>WL (9+n) t) 0 rfl ah ah h12 ?_ ?_
 intro i t k hi T hk;have hl:=T.1;unfold Hz;refine gp (λ_=>gV (λs=>WL (9+i+1) s) ?_ λs hs=>hk s hs) λh=>absurd (show(i:Int)<6 by omega) h;intro k16 U;exact gu (Ea _ _ aF) λI _=>gz (λ_=>gu (Jt _ aF) λJ C=>nD aT λx hx=>jH aK aK (U _ (T.add aV))) λ_=>U _ (T.mono ah)
 intro t _ h13;unfold Hz;refine gp (λh=>absurd h aF) λ_=>?_;refine ku 0 5 (λn t=>WL (15+n) t) 0 rfl ah ah h13 ?_ ?_
 intro i t k hi T hk;have hl:=T.1;unfold Hy;refine gp (λ_=>gV (λs=>WL (15+i+1) s) ?_ λs hs=>hk s hs) λh=>absurd (show(i:Int)<5 by omega) h;intro k16 U;exact gu (Ea _ _ aF) λI _=>gz (λ_=>gu (Kz _) λJ C=>jH aK aK (U _ (T.add ah))) λ_=>U _ (T.mono ah)
 intro t _ h14;unfold Hy;refine gp (λh=>absurd h aF) λ_=>?_;refine ku 0 5 (λn t=>WL (20+n) t) 0 rfl ah ah h14 ?_ ?_
 intro i t k hi T hk;have hl:=T.1;unfold Hw;refine gp (λ_=>gV (λs=>WL (20+i+1) s) ?_ λs hs=>hk s hs) λh=>absurd (show(i:Int)<5 by omega) h;intro k16 U;exact gu (Ea _ _ aF) λI _=>gz (λ_=>gu (Kz _) λJ C=>nD aT λx hx=>jH aK aK (U _ (T.add aV))) λ_=>U _ (T.mono ah)
 intro t _ h15;have hl15:=h15.1;unfold Hw;refine gp (λh=>absurd h aF) λ_=>?_;refine gV (λs=>WL 26 s) ?_ ?_
 intro k h;exact gz (λ_=>nD aT λx hx=>jH aK aK (h _ (h15.add aV))) λ_=>h _ (h15.mono ah)
 intro s46 U;refine ku 0 17 (λn t=>WL (26+n) t) 0 rfl ah ah U ?_ ?_
 intro i t k hi T hk;have hl:=T.1;unfold Ht;refine gp (λ_=>gV (λs=>WL (26+i+1) s) ?_ λs hs=>hk s hs) λh=>absurd (show(i:Int)<17 by omega) h;intro k16 U;exact gu (Ea _ _ aF) λI _=>gz (λ_=>gu (QM _) λJ C=>nD aT λx hx=>jH aK aK (U _ (T.add aV))) λ_=>U _ (T.mono ah)
 intro t _ h17;unfold Ht;refine gp (λh=>absurd h aF) λ_=>?_;refine kQ ah ah λx48 k48=>gu (xO _ _ _ h17 (by have:=h5.2.2 x48 k48;omega) ah) λy49 h49=>?_;refine gu (BN _ _ aH hp) λy50 h50=>gu (xO _ _ _ h49 ah ah) λy51 h51=>?_;refine gu (BN _ _ aH hq) λy52 h52=>gu (xO _ _ _ h51 ah ah) λy53 h53=>?_;refine gu (BN _ _ aH hv) λy54 h54=>gu (xO _ _ _ h53 ah ah) λy55 h55=>?_;exact gp (λ_=>gm aH) λ_=>gu (YP _ _ (h55.mono ah) aH) λy56 h56=>gm h56
theorem YR (m:lZ)(U:xh m):Ok (λr=>r.size<=28147497672100000) (Qm m):=by
 unfold Qm;have z1:m.sub.size<=1048576:=(U).1;have z3:m.filter.sub.size<=1048576:=((U).2);refine gu (VA _ bD) (λy1 h4=>?_);refine gz (λh5=>gm aN) (λh5=>?_);refine gp (λh6=>gm aN) (λh6=>?_);apply gp<;>intro h7
 refine gu (BM _ ) (λy2 h8=>?_);refine nD ae (λx3 h9=>?_);simp only[oz,List.length_cons,List.length_nil] at h9;exact gm aN
 apply gp<;>intro h10
 refine gu (BM _ ) (λy4 h11=>?_);refine nD ae (λx5 J=>?_);simp only[oz,List.length_cons,List.length_nil] at J;exact gm aN
 apply gp<;>intro h13
 refine nD ae (λx6 h14=>?_);simp only[oz,List.length_cons,List.length_nil] at h14;exact gm aN
 apply gp<;>intro h15
 refine nD ae (λx7 h16=>?_);simp only[oz,List.length_cons,List.length_nil] at h16;exact gm aN
 apply gp<;>intro h17
 refine gu (QL _ ) (λy8 h18=>?_);refine nD ae (λx9 h19=>?_);simp only[oz,List.length_cons,List.length_nil] at h19;exact gm aN
 apply gp<;>intro h20
 refine gu (QL _ ) (λy10 h21=>?_);refine nD ae (λx11 g=>?_);simp only[oz,List.length_cons,List.length_nil] at g;exact gm aN
 apply gp<;>intro h23
 refine gu (QN _ ) (λy12 h24=>?_);refine nD ae (λx13 h25=>?_);simp only[oz,List.length_cons,List.length_nil] at h25;exact gm aN
 apply gp<;>intro h26
 refine gu (QN _ ) (λy14 h27=>?_);refine nD ae (λx15 C=>?_);simp only[oz,List.length_cons,List.length_nil] at C;exact gm aN
 refine gp (λh29=>gm aN) (λh29=>?_);apply gp<;>intro h30
 refine gu (YQ _ ay) (λy16 h31=>?_);refine nD ae (λx17 T=>?_);simp only[oz,List.length_cons,List.length_nil] at T;refine nD ae (λx18 I=>?_);simp only[oz,List.length_cons,List.length_nil] at I;exact gm aN
 apply gp<;>intro h34
 refine gu (yB _ ) (λy19 h35=>?_);refine nD ae (λx20 h36=>?_);simp only[oz,List.length_cons,List.length_nil] at h36;refine nD ae (λx21 h37=>?_);simp only[oz,List.length_cons,List.length_nil] at h37;exact gu (yB _ ) (λy22 h38=>nD ae (λx23 h39=>gm aN))
 refine gp (λh40=>?_) (λh40=>gm aN);refine gu (yB _ ) (λy24 h41=>?_);refine nD ae (λx25 h42=>?_);simp only[oz,List.length_cons,List.length_nil] at h42;refine nD ae (λx26 h43=>?_);simp only[oz,List.length_cons,List.length_nil] at h43;exact gu (yB _ ) (λy27 h44=>nD ae (λx28 h45=>gm aN))
theorem CY (l:List lZ)(U:(su xh) l):Ok (λr=>True) (yj l):=by
 unfold yj;refine gV (λs=>s=false->l.length<=6) ?_ ?_
 intro k h;exact gp (λ_=>h _ dU) λ_=>h _ λe=>by rw[decide_eq_false_iff_not] at e;unfold gJ at e;omega
 intro s hs;refine gz (λ_=>gm trivial) λe=>?_;have hl:=hs e;refine JO 0 l.length (λn t=>t.size<=28147497672200000*n) 0 rfl (Nat.zero_le _) ah aH ?_ ?_
 intro i t k hi I hk;unfold Em;refine gp (λ_=>gV (λs=>s.size<=28147497672200000*(i+1)) ?_ λs hs=>hk s hs) λh=>absurd (show(i:Int)<(l.length:Int) by omega) h;intro k8 C;refine kQ aF aF λg J=>gu (VA _ (U.2 g J)) λy8 _=>gz (λ_=>gm trivial) λ_=>gV (λs=>s.size<=28147497672200000*i+2) ?_ ?_
 intro k13 T;exact gp (λ_=>nD aT λx hx=>T _ aV) λ_=>T _ aF
 intro s hs;exact kQ aF aF λx hx=>gu (YR _ (U.2 x hx)) λy hy=>nD ah λz hz=>C _ ah
 intro t k I;unfold Em;exact gp (λh=>absurd h aS) λ_=>gm trivial
theorem V4 (p:JQ)  : Ok (λr=>True) (Nr p):=by
 unfold Nr;exact gu (Kw _ ) (λJ h1=>gz (λh2=>gp (λU=>gp (λT=>gm trivial) (λT=>gm trivial)) (λU=>gm trivial)) (λh2=>gm trivial))
theorem QQ (when:Int)  : Ok (λr=>True) (LP when):=by
 unfold LP;exact gp (λh1=>gm trivial) (λh1=>gp (λh2=>gm trivial) (λh2=>gp (λg=>gm trivial) (λg=>gp (λh4=>gm trivial) (λh4=>gp (λh5=>gm trivial) (λh5=>gp (λh6=>gm trivial) (λh6=>gp (λh7=>gm trivial) (λh7=>gp (λh8=>gm trivial) (λh8=>gp (λh9=>gm trivial) (λh9=>gp (λC=>gm trivial) (λC=>gp (λJ=>gm trivial) (λJ=>gp (λU=>gm trivial) (λU=>gp (λI=>gm trivial) (λI=>gp (λT=>gm trivial) (λT=>gm trivial))))))))))))))
theorem MI (when:Int)  : Ok (λr=>True) (Gg when):=by
 unfold Gg;exact gp (λh1=>gm trivial) (λh1=>gp (λh2=>gm trivial) (λh2=>gp (λU=>gm trivial) (λU=>gp (λT=>gm trivial) (λT=>gp (λh5=>gm trivial) (λh5=>gm trivial)))))
theorem QR (when:Int)  : Ok (λr=>True) (Du when):=by
 unfold Du;exact gu (QQ _ ) (λI h1=>gz (λh2=>gu (MI _ ) (λJ T=>gz (λU=>gm trivial) (λU=>gm trivial))) (λh2=>gm trivial))
theorem abA (t:xw)(zz_t:F9 t):Ok (λr=>True) (Yv t):=by
 unfold Yv;refine gV (λ(s1:Bool)=>s1=false->¬(2<t.who)/\¬(t.who<0)) (λk2 U=>gu (QQ _ ) (λy4 h5=>gz (λh6=>U _ af) (λh6=>gp (λh7=>U _ af) (λh7=>gp (λh8=>U _ af) (λh8=>gu (MI _ ) (λy5 h9=>gz (λh10=>U _ af) (λh10=>U _ af))))))) (λs1 C=>?_);refine gz (λJ=>gm trivial) (λJ=>?_);have hf12:=C J;exact gu (QR _ ) (λy6 h13=>gz (λg=>ou (λv7 h15=>gm trivial)) (λg=>gV (λ(s8:Int)=>True) (λk9 T=>gp (λh18=>T _ trivial) (λh18=>T _ trivial)) (λs8 hs17=>gu (wu _ ay) (λy11 h19=>gz (λI=>gm trivial) (λI=>gm trivial)))))
theorem IU (f:jY)(U:mD f):Ok (λr=>True) (FN f):=by
 unfold FN;exact gu (wu _ ay) (λJ h2=>gz (λT=>gm trivial) (λT=>gm trivial))
theorem V5 (pr:qJ)(zz_pr:zL pr):Ok (λr=>True) (Ns pr):=by
 unfold Ns;refine gV (λ(s1:Bool)=>s1=false->pr.who=0) (λk2 U=>lU (λh5=>U _ af) (λh5=>gu (IU _ ay) (λy4 h6=>U _ af))) (λs1 I=>?_);refine gz (λh7=>gm trivial) (λh7=>?_);have hf8:=I h7;exact gp (λh9=>gp (λh10=>gp (λh11=>gp (λT=>gm trivial) (λT=>gp (λh13=>gm trivial) (λh13=>gm trivial))) (λh11=>gm trivial)) (λh10=>gm trivial)) (λh9=>gp (λh14=>gp (λg=>gp (λh16=>gm trivial) (λh16=>gm trivial)) (λg=>gm trivial)) (λh14=>gp (λC=>gp (λh18=>gp (λh19=>gp (λJ=>gp (λh21=>gm trivial) (λh21=>gm trivial)) (λJ=>gm trivial)) (λh19=>gm trivial)) (λh18=>gm trivial)) (λC=>gm trivial)))
theorem V6 (U:qJ)(zz_pr:zL U):Ok (λr=>True) (Nu U):=by
 unfold Nu;refine gV (λ(s1:Bool)=>s1=false->U.counter=0/\U.jE=0) (λk2 I=>lU (λh5=>I _ af) (λh5=>I _ af)) (λs1 g=>?_);refine gz (λh6=>gm trivial) (λh6=>?_);have hf7:=g h6;refine gV (λ(s4:Bool)=>s4=false->¬(U.doF=2)/\¬(U.doF=4)) (λk5 J=>gp (λh10=>J _ af) (λh10=>J _ af)) (λs4 hs9=>?_);refine gz (λT=>gp (λC=>gm trivial) (λC=>gm trivial)) (λT=>?_);have hf13:=hs9 T;exact gm trivial
theorem abB (pr:qJ)(zz_pr:zL pr):Ok (λr=>True) (Yw pr):=by
 unfold Yw
 exact gp (λh3=>gu (V5 _ bn) (λy1 h4=>gm trivial)) (λh3=>gu (V6 _ bn) (λy2 h5=>gz (λh6=>gm trivial) (λh6=>ou (λv3 h7=>gV (λ(s4:Bool×Bool)=>True) (λk5 T=>gp (λh10=>T _ trivial) (λh10=>gp (λh11=>T _ trivial) (λh11=>T _ trivial))) (λs4 hs9=>gp (λh12=>gV (λ(s7:Bool)=>True) (λk8 U=>lU (λh15=>lU (λh16=>lU (λh17=>U _ trivial) (λh17=>U _ trivial)) (λh16=>U _ trivial)) (λh15=>U _ trivial)) (λs7 hs14=>gz (λh18=>gm trivial) (λh18=>gp (λh19=>gu (IU _ ay) (λy10 h20=>gz (λh21=>gm trivial) (λh21=>gp (λh22=>gm trivial) (λh22=>gp (λh23=>gm trivial) (λh23=>gm trivial))))) (λh19=>gp (λh24=>gm trivial) (λh24=>gp (λh25=>gm trivial) (λh25=>gm trivial)))))) (λh12=>gp (λh26=>gz (λh27=>gp (λh28=>gu (IU _ ay) (λy11 h29=>gm trivial)) (λh28=>gm trivial)) (λh27=>gm trivial)) (λh26=>gp (λC=>gp (λh31=>gp (λI=>gp (λh33=>gm trivial) (λh33=>gm trivial)) (λI=>gm trivial)) (λh31=>gp (λh34=>gp (λh35=>gp (λh36=>gm trivial) (λh36=>gm trivial)) (λh35=>gm trivial)) (λh34=>gm trivial))) (λC=>gp (λh37=>gz (λh38=>gp (λh39=>gp (λh40=>gm trivial) (λh40=>gm trivial)) (λh39=>gm trivial)) (λh38=>gm trivial)) (λh37=>gp (λJ=>gz (λh42=>gp (λh43=>gp (λh44=>gm trivial) (λh44=>gm trivial)) (λh43=>gm trivial)) (λh42=>gm trivial)) (λJ=>gp (λh45=>gz (λh46=>gp (λh47=>gp (λg=>gm trivial) (λg=>gm trivial)) (λh47=>gm trivial)) (λh46=>gm trivial)) (λh45=>gm trivial)))))))))))
theorem YT (s:sH)(J:Hl s):Ok (λr=>True) (Qn s):=by
 unfold Qn;exact gz (λI=>gV (λ(C:Bool)=>True) (λk2 hk4=>gz (λg=>ou (λv4 h7=>hk4 _ trivial)) (λg=>hk4 _ trivial)) (λC hs5=>gm trivial)) (λI=>gu (wu _ ay) (λy5 h8=>gz (λh9=>gp (λT=>gm trivial) (λT=>gp (λU=>gm trivial) (λU=>gm trivial))) (λh9=>gm trivial)))
theorem V7 (l:List sH)(U:(su Hl) l):Ok (λr=>True) (Nv l):=by
 unfold Nv;have z1:=(U).1;have z2:=(U).2;refine je (λ(T:Int)=>0<=T/\T<=(l.length:Int)) (λ(T:Int)=>((l.length:Int)-T).toNat) ⟨ae,ae⟩ ak (λT k2 J hk4=>?_);obtain⟨g,C⟩:=J;unfold Qo;apply gp<;>intro h5
 (try simp only[gJ] at h5)
 refine kQ ae ae (λx4 h6=>?_);have z7:Hl x4:=z2 x4 h6;refine gu (YT _ (by first|assumption|(refine⟨by omega,?_⟩;first|(intro _ _;trivial)|assumption)|(unfold Hl;simp_all[IW,su]))) (λy5 h10=>?_);refine gz (λI=>gm trivial) (λI=>?_);have h12:iq T 1=T+1:=kL ah ah;exact hk4 _ ⟨ae,ae⟩ ae
 (try simp only[gJ] at h5)
 exact gm trivial
theorem YU (op:Int)  : Ok (λr=>True) (Qp op):=by
 unfold Qp;refine gV (λ(J:Bool)=>J=false->¬(op<1)/\¬(26<op)) (λk2 U=>gp (λC=>U _ af) (λC=>U _ af)) (λJ T=>?_);refine gz (λI=>gm trivial) (λI=>?_);have g:=T I;have h6:qI op 1=op-1:=Fz aY aY;exact abx ae ae (λj4 h7 h8=>YI ae (λx5 h9=>gm trivial))
theorem YV (op:Int)  : Ok (λr=>r.size<=100) (Qq op):=by
 unfold Qq;exact gp (λh1=>gm aH) (λh1=>gp (λh2=>gm aH) (λh2=>gp (λh3=>gm aH) (λh3=>gp (λh4=>gm aH) (λh4=>gp (λh5=>gm aH) (λh5=>gp (λh6=>gm aH) (λh6=>gp (λh7=>gm aH) (λh7=>gp (λh8=>gm aH) (λh8=>gp (λh9=>gm aH) (λh9=>gp (λh10=>gm aH) (λh10=>gp (λC=>gm aH) (λC=>gp (λU=>gm aH) (λU=>gp (λh13=>gm aH) (λh13=>gp (λg=>gm aH) (λg=>gp (λI=>gm aH) (λI=>gp (λJ=>gm aH) (λJ=>gp (λT=>gm aH) (λT=>gp (λh18=>gm aH) (λh18=>gm aH))))))))))))))))))
theorem um (op:Int)(field:Int)  : Ok (λr=>True) (xA op field):=by
 unfold xA;refine gu (YV _ ) (λg h1=>?_);refine je (λ(U:Int)=>0<=U/\U<=(g.size:Int)) (λ(U:Int)=>((g.size:Int)-U).toNat) ⟨ae,ae⟩ ak (λU k3 C J=>?_);obtain⟨I,T⟩:=C;unfold Tj;refine gp (λh4=>?_) (λh4=>gm trivial);refine CX ae ae (λx5 h5=>?_);refine gp (λh6=>gm trivial) (λh6=>?_);have h7:iq U 1=U+1:=kL ah ah;exact J _ ⟨ae,ae⟩ ae
theorem RX (kind:Int)  : Ok (λr=>True) (E5 kind):=by
 unfold E5;exact gp (λh1=>gm trivial) (λh1=>gm trivial)
theorem abC (J:Vl)(specs:Int)(zz_pr:Yl J):Ok (λr=>True) (Yx J specs):=by
 unfold Yx;refine gV (λ(s1:Int)=>True) (λk2 hk3=>gp (λh5=>hk3 _ trivial) (λh5=>hk3 _ trivial)) (λs1 hs4=>?_);refine gV (λ(s4:Bool)=>s4=false->¬(J.kind<1)/\¬(8<J.kind)) (λk5 C=>gp (λh8=>C _ af) (λh8=>C _ af)) (λs4 hs7=>?_);refine gz (λh9=>gm trivial) (λh9=>?_);have hf10:=hs7 h9;refine gV (λ(s7:Unit)=>True) (λk8 U=>?_) (λs7 hs12=>gp (λh21=>gu (wu _ ay) (λy14 h22=>gm trivial)) (λh21=>ou (λv15 h23=>gm trivial)));refine gu (RX _ ) (λy10 h13=>?_);refine gz (λh14=>?_) (λh14=>lU (λh20=>gm trivial) (λh20=>U _ trivial));refine gV (λ(I:Bool)=>I=false->¬(J.n<1)/\¬(s1<J.n)) (λk12 T=>gp (λh17=>T _ af) (λh17=>T _ af)) (λI g=>?_);refine gz (λh18=>gm trivial) (λh18=>?_);have hf19:=g h18;exact U _ trivial
theorem QS (kind:Int)  : Ok (λr=>True) (LQ kind):=by
 unfold LQ;exact gp (λh1=>gm trivial) (λh1=>gp (λh2=>gm trivial) (λh2=>gp (λU=>gm trivial) (λU=>gm trivial)))
theorem abD (a:yf)(zz_a:Na a):Ok (λr=>True) (Yy a):=by
 unfold Yy;refine gV (λ(s1:yf)=>True) (λk2 T=>?_) (λs1 hs4=>gp (λh22=>gp (λh23=>ou (λv12 h24=>gm trivial)) (λh23=>gm trivial)) (λh22=>gm trivial));apply gp<;>intro h5
 refine gV (λ(s4:Bool)=>s4=false->¬(a.n<0)/\¬(1000000<a.n)) (λk5 C=>gp (λh8=>C _ af) (λh8=>C _ af)) (λs4 g=>?_);refine gz (λh9=>gm trivial) (λh9=>?_);have hf10:=g h9;exact T _ trivial
 refine gp (λh11=>?_) (λh11=>gp (λh19=>gu (QS _ ) (λy11 h20=>gz (λh21=>gm trivial) (λh21=>T _ trivial))) (λh19=>T _ trivial));refine gV (λ(s7:Bool)=>s7=false->¬(99<a.n)/\¬(a.n<1)) (λk8 U=>gp (λh14=>U _ af) (λh14=>gp (λh15=>U _ af) (λh15=>gu (wu _ ay) (λy10 h16=>U _ af)))) (λs7 I=>?_);refine gz (λJ=>gm trivial) (λJ=>?_);have hf18:=I J;exact T _ trivial
theorem YW (l:List lZ)(U:(su xh) l):Ok (λr=>True) (Qr l):=by
 unfold Qr;exact gu (CY _ ax) (λJ T=>gm trivial)
theorem YX (c:sG):Ok (λr=>True) (Qs c):=by
 unfold Qs;refine gu (Kw c) λy1 h1=>gz (λ_=>gm trivial) λh=>?_;obtain⟨⟨_,_,J,g⟩,U⟩:=h1.1 bW;obtain⟨X,hX⟩:=Int.eq_ofNat_of_zero_le J;refine JO 0 X (λn t=>t.size<=n) 0 rfl (Nat.zero_le _) ah aH ?_ ?_
 intro i t k hi T hk;unfold LV;exact gp (λ_=>nD aT λx hx=>hk _ aV) λh=>absurd aF h
 intro t k T;unfold LV;refine gp (λh=>absurd h aF) λ_=>gV (λs=>s.size<=24) ?_ ?_
 intro k7 C;exact lU (λ_=>gu (yB _) λy hy=>nD aF λx hx=>C _ (by simp only at hx;omega)) λ_=>C _ aF
 intro s hs;refine JO 0 5 (λn t=>t.size<=24+9*n) 0 rfl ah ah ah ?_ ?_
 intro i t k hi T hk;unfold LU;refine gp (λ_=>?_) λh=>absurd (show(i:Int)<5 by omega) h;have hc:=U i hi;refine je (λs=>∃ n:Nat,s.2=(n:Int)/\n<=9/\s.1.size<=24+9*i+n) (λs=>10-s.2.toNat) ⟨0,rfl,by omega,by simp only;omega⟩ (by show 10-_<18446744073709551616;omega) ?_
 rintro⟨u,n'⟩ k15 ⟨n,e,hn,hu⟩ hk15
 simp only at e hu;subst e;unfold Tm;refine gV (λs=>s=decide ((n:Int)<YK c.color i)) ?_ ?_
 intro k18 I;rcases five hi with rfl|rfl|rfl|rfl|rfl<;>exact YJ ah (I _ rfl)
 rintro s rfl
 simp only;refine gp (λh=>?_) λh=>hk _ ah;have e1:=lG (n:=i) ah;have e2:=lG (n:=n) ah;rw[e1,e2];exact ain ah ah aT λx hx=>nD ah λy hy=>hk15 _ ⟨n+1,rfl,by omega,by simp only;omega⟩ bK
 intro t k T;unfold LU;exact gp (λh=>absurd h aF) λ_=>gz (λ_=>gm trivial) λ_=>gm trivial
theorem YY (p:Rt Int)  : Ok (λr=>True) (LW p):=by
 unfold LW;exact gm trivial
theorem RY (p:Rt Int)  : Ok (λr=>True) (E8 p):=by
 unfold E8;exact gu (YY _ ) (λT h1=>gu (YX _ ) (λU h2=>gm trivial))
theorem VC (op:Int)(f:jY)(T:mD f):Ok (λr=>True) (J7 op f):=by
 unfold J7;exact gV (λ(J:Int)=>True) (λk2 U=>gp (λg=>U _ trivial) (λg=>U _ trivial)) (λJ I=>gu (wu _ ay) (λy4 h5=>gz (λC=>gm trivial) (λC=>gm trivial)))
theorem abE (g:jg)(specs:Int)(U:oP g):Ok (λr=>True) (Yz g specs):=by
 unfold Yz;have z3:g.ref.filter.sub.size<=1048576:=(((U).1));have z6:g.amount.filter.sub.size<=1048576:=(((U).2.1));have z7:g.card.size<=1048576:=(U).2.2.1;have z9:g.filter.sub.size<=1048576:=((U).2.2.2.1);have z10:=((U).2.2.2.2).1;have z11:=((U).2.2.2.2).2;refine gu (YU _ ) (λy1 h12=>?_);refine gz (λh13=>gm trivial) (λh13=>?_);refine ou (λv2 h14=>?_);refine gV (λ(s3:Bool)=>True) (λk4 C=>gu (um _ _ ) (λy6 h17=>gz (λh18=>gu (abC _ _ (by first|assumption|(refine⟨by omega,?_⟩;first|(intro _ _;trivial)|assumption)|(unfold Yl;simp_all[IW,su]))) (λy7 h19=>C _ trivial)) (λh18=>C _ trivial))) (λs3 hs16=>?_);refine gV (λ(s8:Bool)=>s8=false->¬(g.jE=0)) (λk9 T=>gp (λh22=>T _ af) (λh22=>gu (um _ _ ) (λy11 h23=>gz (λh24=>gp (λh25=>T _ af) (λh25=>T _ af)) (λh24=>T _ af)))) (λs8 hs21=>?_);refine gV (λ(s12:Bool)=>s12=false->¬(g.counter=0)) (λk13 I=>gp (λh28=>I _ af) (λh28=>gu (um _ _ ) (λy15 h29=>gz (λh30=>gu (QS _ ) (λy16 h31=>I _ af)) (λh30=>I _ af)))) (λs12 hs27=>?_);refine gV (λ(s17:Bool)=>True) (λk18 hk32=>gu (um _ _ ) (λy20 h34=>gz (λh35=>gu (Ky _ az) (λy21 h36=>hk32 _ trivial)) (λh35=>hk32 _ trivial))) (λs17 hs33=>?_);refine ou (λv22 h37=>?_)
 refine gV (λ(s23:Bool)=>True) (λk24 hk38=>gu (um _ _ ) (λy26 h40=>gz (λh41=>gu (abD _ (by first|assumption|(refine⟨by omega,?_⟩;first|(intro _ _;trivial)|assumption)|(unfold Na;simp_all[IW,su]))) (λy27 h42=>hk38 _ trivial)) (λh41=>hk38 _ trivial))) (λs23 hs39=>?_);refine gV (λ(s28:Bool)=>True) (λk29 hk43=>gu (um _ _ ) (λy31 h45=>gz (λh46=>gu (YW _ ax) (λy32 h47=>hk43 _ trivial)) (λh46=>hk43 _ trivial))) (λs28 hs44=>?_);refine ou (λv33 h48=>?_);refine gV (λ(s34:Bool)=>True) (λk35 J=>gu (um _ _ ) (λy37 h51=>gz (λh52=>gz (λh53=>gu (RY _ ) (λy38 h54=>J _ trivial)) (λh53=>J _ trivial)) (λh52=>J _ trivial))) (λs34 hs50=>?_);refine ou (λv39 h55=>?_);refine gV (λ(s40:Bool)=>True) (λk41 hk56=>gu (um _ _ ) (λy43 h58=>gz (λh59=>gu (VC _ _ ay) (λy44 h60=>hk56 _ trivial)) (λh59=>hk56 _ trivial))) (λs40 hs57=>?_);refine gz (λh61=>?_) (λh61=>gm trivial);apply gz<;>intro h62
 refine gz (λh63=>gz (λh64=>gz (λh65=>gz (λh66=>gz (λh67=>gm trivial) (λh67=>gm trivial)) (λh66=>gm trivial)) (λh65=>gm trivial)) (λh64=>gm trivial)) (λh63=>?_);have hf68:=hs27 h63;exact gm trivial
 have hf69:=hs21 h62;exact gm trivial
theorem TL (l:List jg)(n:Int)(U:(su oP) l):Ok (λr=>True) (H9 l n):=by
 unfold H9;have z1:=(U).1;have z2:=(U).2;refine je (λ(T:Int)=>0<=T/\T<=(l.length:Int)) (λ(T:Int)=>((l.length:Int)-T).toNat) ⟨ae,ae⟩ ak (λT k2 C hk4=>?_);obtain⟨hI3_0,g⟩:=C;unfold LX;apply gp<;>intro h5
 (try simp only[gJ] at h5)
 refine kQ ae ae (λx4 h6=>?_);have z7:oP x4:=z2 x4 h6;refine gu (abE _ _ bu) (λy5 h19=>?_);refine gz (λI=>gm trivial) (λI=>?_);have h21:iq T 1=T+1:=kL ah ah;exact hk4 _ ⟨ae,ae⟩ ae
 (try simp only[gJ] at h5)
 apply gp<;>intro J
 (try simp only[gJ] at J)
 exact gm trivial
 (try simp only[gJ] at J)
 exact gm trivial
theorem KA (a:iP)(U:lT a):Ok (λr=>True) (OT a):=by
 unfold OT;have z2:a.filter.sub.size<=1048576:=((U).1);have z3:=((U).2.1).1;have z4:=((U).2.1).2;have z7:a.iK.filter.sub.size<=1048576:=(((U).2.2.1));have z8:=((U).2.2.2.1).1;have z9:=((U).2.2.2.1).2;have z10:=((U).2.2.2.2.1).1;have z11:=((U).2.2.2.2.1).2;have z14:a.replace.filter.sub.size<=1048576:=(((U).2.2.2.2.2));refine gV (λ(s1:Bool)=>s1=false->¬(a.kind<1)/\¬(5<a.kind)) (λk2 C=>gp (λh17=>C _ af) (λh17=>C _ af)) (λs1 hs16=>?_);refine gz (λh18=>gm trivial) (λh18=>?_);have hf19:=hs16 h18;refine gV (λ(s4:Bool)=>s4=false->¬(a.kind=2)/\¬(a.kind=3)/\¬(a.kind=4)) (λk5 T=>gp (λh22=>T _ af) (λh22=>gp (λh23=>T _ af) (λh23=>T _ af))) (λs4 hs21=>?_);refine gV (λ(s7:Unit)=>True) (λk8 hk24=>?_) (λs7 hs25=>?_)
 apply gp<;>intro h26
 refine gV (λ(s10:Bool)=>s10=false->a.filter.jE=0) (λk11 J=>gu (wu _ ay) (λy13 h29=>gz (λh30=>J _ af) (λh30=>lU (λh31=>J _ af) (λh31=>gu (CY _ ax) (λy14 h32=>J _ af))))) (λs10 hs28=>?_);refine gz (λh33=>gm trivial) (λh33=>?_);have hf34:=hs28 h33;exact hk24 _ trivial
 refine gV (λ(s15:Bool)=>s15=false->¬(0<(a.mr.length:Int))) (λk16 hk35=>ou (λv18 h37=>gz (λh38=>hk35 _ af) (λh38=>hk35 _ af))) (λs15 hs36=>?_);refine gz (λh39=>gm trivial) (λh39=>?_);have hf40:=hs36 h39;exact hk24 _ trivial
 refine gV (λ(s19:Unit)=>True) (λk20 hk41=>gp (λh43=>gu (V4 _ ) (λy22 h44=>gz (λh45=>gm trivial) (λh45=>hk41 _ trivial))) (λh43=>gV (λ(s23:Bool)=>True) (λk24 hk46=>ou (λv26 h48=>gz (λh49=>hk46 _ trivial) (λh49=>hk46 _ trivial))) (λs23 hs47=>gz (λh50=>gm trivial) (λh50=>hk41 _ trivial)))) (λs19 hs42=>?_);refine gV (λ(s27:Unit)=>True) (λk28 hk51=>gp (λh53=>gu (abA _ (by first|assumption|(refine⟨by omega,?_⟩;first|(intro _ _;trivial)|assumption)|(unfold F9;simp_all[IW,su]))) (λy30 h54=>gz (λh55=>gm trivial) (λh55=>hk51 _ trivial))) (λh53=>gV (λ(s31:Bool)=>True) (λk32 hk56=>ou (λv34 h58=>gz (λh59=>hk56 _ trivial) (λh59=>hk56 _ trivial))) (λs31 hs57=>gz (λh60=>gm trivial) (λh60=>hk51 _ trivial)))) (λs27 hs52=>?_);refine gV (λ(s35:Unit)=>True) (λk36 I=>gp (λh63=>gu (abB _ bn) (λy38 h64=>gz (λh65=>gm trivial) (λh65=>I _ trivial))) (λh63=>ou (λv39 h66=>gz (λh67=>gm trivial) (λh67=>I _ trivial)))) (λs35 hs62=>?_);refine gz (λh68=>gV (λ(s40:Bool)=>True) (λk41 g=>gu (V7 _ ax) (λy43 h71=>gz (λh72=>gu (TL _ _ ax) (λy44 h73=>g _ trivial)) (λh72=>g _ trivial))) (λs40 hs70=>gm trivial)) (λh68=>?_);have hf74:=hs21 h68
 apply gp<;>intro h75
 (try simp only[gJ] at h75)
 exact gm trivial
 (try simp only[gJ] at h75)
 exact gm trivial
theorem YZ (c:iZ)(U:pq c):Ok (λr=>True) (Qz c):=by
 unfold Qz;exact gp (λT=>gm trivial) (λT=>gm trivial)
end Go.Proofs.YtchmoabpofnbaaaGreat
