import Derived.Test.YtchmoabpofnbaaaGreatB10
import Derived.Test.YtchmoabpofnbaaaGreatB33
set_option linter.all false
namespace Go.Proofs.YtchmoabpofnbaaaGreat
open Go Go.Pv
set_option maxRecDepth 100000
def kF (x:jf):Prop:=F9 x.sub
def vC (x:jv):Prop:=F9 x.sub/\kF x.filter
def ED (x:vP):Prop:=kF x.filter
def Fz (x:oJ):Prop:=kF x.filter
def WW (x:Tf):Prop:=kF x.filter
def Ld (x:wC):Prop:=kF x.filter
def l9 (x:iT):Prop:=WW x.ref/\Ld x.amount/\F9 x.card/\kF x.filter/\(qL vC) x.jY
def xR (x:lu):Prop:=kF x.filter
def kY (x:GAbility):Prop:=kF x.filter/\(qL vC) x.jY/\ED x.gG/\(qL Fz) x.specs/\(qL l9) x.kM/\xR x.replace
def yC (x:oP):Prop:=(qL (λ(_:Int)=>True)) x.library/\(qL (λ(_:Int)=>True)) x.hand/\(qL (λ(_:Int)=>True)) x.Ak
def IW (x:uA):Prop:=kY x.gz/\(qL (λ(_:wE)=>True)) x.targets
def EE (x:mD):Prop:=kY x.gz
def OJ (x:uX):Prop:=(qL (λ(_:Int)=>True)) x.objects/\(qL vC) x.jY
def jE (x:GState):Prop:=(qL yC) x.jk/\(qL (λ(_:GObject)=>True)) x.objects/\(qL (λ(_:Int)=>True)) x.qW/\(qL (λ(_:Int)=>True)) x.Oa/\(qL IW) x.stack/\(qL EE) x.waiting/\(qL OJ) x.uB/\(qL (λ(_:Int)=>True)) x.extra
theorem five {i:Nat}(h:i<5):i=0\/i=1\/i=2\/i=3\/i=4:=by omega
theorem WX {ρ:Type}{Q:ρ->Prop}{n m:Nat}{k:Nat->Option ρ}(h:n<m)(hk:Ok Q (k n)):Ok Q (sel (n:Int) m k):=wo ah ah λj hj=>by
 have:j=n:=by omega
 rw[this];exact hk
def WY (c:ZX Int):Nat->Int
 | 0=>c.a0|1=>c.a1|2=>c.a2|3=>c.a3|_=>c.a4
def isC (c:oQ):Prop:=(0<=c.generic/\c.generic<=99/\0<=c.x/\c.x<=2)/\∀ j,j<5->0<=WY c.color j/\WY c.color j<=9
theorem wS {ρ:Type}{Q:ρ->Prop}{x b:Bool}{k:Bool->Option ρ}(h:x=b)(hk:Ok Q (k b)):Ok Q (lt x k):=by subst h;exact hk
theorem jK {ρ:Type}{Q:ρ->Prop}{c:Bool}{a b:Option ρ}(h:c=true)(hk:Ok Q a):Ok Q (br c a b):=by subst h;exact hk
theorem jQ {ρ:Type}{Q:ρ->Prop}{c:Bool}{a b:Option ρ}(h:c=false)(hk:Ok Q b):Ok Q (br c a b):=by subst h;exact hk
def yH (x:wO):Prop:=(qL F9) x.subs
def lT (x:GCard):Prop:=F9 x.name/\yH x.line/\(qL kY) x.abilities
def SW (n:Nat)(l:List ByteArray):Prop:=l.length=n/\n<=100/\∀ x∈l,x.size<=100
theorem SW.sz {n:Nat}{l:List ByteArray}(h:SW n l):qL F9 l:=⟨by have:=h.1;have:=h.2.1;omega,λx hx=>by have:=h.2.2 x hx;show x.size<=1048576;omega⟩
def WL (n:Nat)(l:List ByteArray):Prop:=l.length<=n/\∀ x∈l,x.size<=140737488360000
theorem WL.add {n:Nat}{l:List ByteArray}{x:ByteArray}(h:WL n l)(hx:x.size<=140737488360000):WL (n+1) (l++[x]):=⟨by have:=h.1;simp;omega,λy hy=>by
 rcases List.mem_append.1 hy with hy|hy
 exact h.2 y hy
 rw[List.mem_singleton.1 hy];exact hx⟩
theorem WL.mono {n m:Nat}{l:List ByteArray}(h:WL n l)(U:n<=m):WL m l:=⟨by have:=h.1;omega,h.2⟩
theorem WZ:kY Dz:=by
 simp[kY,kF,ED,xR,F9,qL,Dz,kD,PN,PO,lS]
theorem VC (n:Int):0<=IntKind.u64.wrap n/\IntKind.u64.wrap n<18446744073709551616:=by rw[IntKind.wrap_u64];omega
theorem u64q {x:Int}(h0:0<=x)(h1:x<18446744073709551616):IntKind.u64.wrap (x.tdiv 10)=x / 10:=by
 rw[Int.tdiv_eq_ediv_of_nonneg h0,IntKind.wrap_u64];omega
theorem Hm (a:List jv)(b:List jv)(zz_a:(qL vC) a)(T:(qL vC) b):Ok (λr=>True) (qX a b):=by
 unfold qX;have z3:=(T).1;refine lN (λh5=>?_) (λh5=>?_)
 (try simp only[gK] at h5)
 exact fZ trivial
 (try simp only[gK] at h5)
 refine ji (λ(U:Int)=>0<=U/\U<=(a.length:Int)) (λ(U:Int)=>((a.length:Int)-U).toNat) ⟨ae,ae⟩ ak (λU k2 C J=>?_);obtain⟨I,g⟩:=C;unfold uF;apply gm<;>intro h8
 (try simp only[gK] at h8)
 refine jV ae ae (λx4 h9=>?_);refine jV ae ae (λx5 h14=>?_);refine lX (λv6 h19=>?_);refine gq (λR=>fZ trivial) (λR=>?_);have h21:iL U 1=U+1:=jI ah ah;exact J _ ⟨ae,ae⟩ ae
 (try simp only[gK] at h8)
 exact fZ trivial
theorem W9 (a:iT)(b:iT)(T:l9 a)(U:l9 b):Ok (λr=>True) (Ei a b):=by
 unfold Ei;have z10:=((T).2.2.2.2).1;have z11:=((T).2.2.2.2).2;have z21:=((U).2.2.2.2).1;have z22:=((U).2.2.2.2).2;exact gm (λh23=>lX (λv1 h24=>gq (λh25=>lX (λv2 h26=>gq (λg=>gm (λI=>gm (λR=>gq (λh30=>lX (λv3 h31=>gq (λC=>lX (λv4 h33=>gq (λJ=>gp (Hm _ _ ax ax) (λy5 h35=>fZ trivial)) (λJ=>fZ trivial))) (λC=>fZ trivial))) (λh30=>fZ trivial)) (λR=>fZ trivial)) (λI=>fZ trivial)) (λg=>fZ trivial))) (λh25=>fZ trivial))) (λh23=>fZ trivial)
theorem P9 (a:List iT)(b:List iT)(R:(qL l9) a)(U:(qL l9) b):Ok (λr=>True) (tK a b):=by
 unfold tK;have z2:=(R).2;have z3:=(U).1;have z4:=(U).2;refine lN (λh5=>?_) (λh5=>?_)
 (try simp only[gK] at h5)
 exact fZ trivial
 (try simp only[gK] at h5)
 refine ji (λ(T:Int)=>0<=T/\T<=(a.length:Int)) (λ(T:Int)=>((a.length:Int)-T).toNat) ⟨ae,ae⟩ ak (λT k2 C J=>?_);obtain⟨I,hI6_1⟩:=C;unfold uG;apply gm<;>intro h8
 (try simp only[gK] at h8)
 refine jV ae ae (λx4 h9=>?_);have z10:l9 x4:=z2 x4 h9;refine jV ae ae (λx5 h22=>?_);have z23:l9 x5:=z4 x5 h22;refine gp (W9 _ _ bz bz) (λy6 h35=>?_);refine gq (λg=>fZ trivial) (λg=>?_);have h37:iL T 1=T+1:=jI ah ah;exact J _ ⟨ae,ae⟩ ae
 (try simp only[gK] at h8)
 exact fZ trivial
theorem Xa (a:GAbility)(b:GAbility)(T:kY a)(U:kY b):Ok (λr=>True) (yZ a b):=by
 unfold yZ;have z3:=((T).2.1).1;have z4:=((T).2.1).2;have z10:=((T).2.2.2.2.1).1;have z11:=((T).2.2.2.2.1).2;have z17:=((U).2.1).1;have z18:=((U).2.1).2;have z22:=((U).2.2.2.1).1;have z23:=((U).2.2.2.1).2;have z24:=((U).2.2.2.2.1).1;have z25:=((U).2.2.2.2.1).2;refine lN (λR=>?_) (λR=>?_)
 (try simp only[gK] at R)
 exact fZ trivial
 (try simp only[gK] at R)
 refine ji (λ(J:Int)=>0<=J/\J<=(a.specs.length:Int)) (λ(J:Int)=>((a.specs.length:Int)-J).toNat) ⟨ae,ae⟩ ak (λJ k2 C g=>?_);obtain⟨hI30_0,hI30_1⟩:=C;unfold BI;apply gm<;>intro I
 (try simp only[gK] at I)
 refine jV ae ae (λx4 h33=>?_);refine jV ae ae (λx5 h37=>?_);have z38:Fz x5:=z23 x5 h37;refine lX (λv6 h41=>?_);refine gq (λh42=>fZ trivial) (λh42=>?_);have h43:iL J 1=J+1:=jI ah ah;exact g _ ⟨ae,ae⟩ ae
 (try simp only[gK] at I)
 exact gm (λh44=>lX (λv7 h45=>gq (λh46=>gp (Hm _ _ ax ax) (λy8 h47=>gq (λh48=>lX (λv9 h49=>gq (λh50=>gq (λh51=>lX (λv10 h52=>gq (λh53=>gq (λh54=>gp (P9 _ _ ax ax) (λy11 h55=>gq (λh56=>lX (λv12 h57=>fZ trivial)) (λh56=>fZ trivial))) (λh54=>fZ trivial)) (λh53=>fZ trivial))) (λh51=>fZ trivial)) (λh50=>fZ trivial))) (λh48=>fZ trivial))) (λh46=>fZ trivial))) (λh44=>fZ trivial)
theorem zM (l:List Int)(U:(qL (λ(_:Int)=>True)) l):Ok (λr=>r=l) (yS l):=by
 unfold yS;have z1:=(U).1;refine lU ae ae ?_;exact fZ rfl
theorem jC (n:Int)(least:Int)(most:Int)  : Ok (λr=>True) (uS n least most):=by
 unfold uS;exact gm (λh1=>fZ trivial) (λh1=>fZ trivial)
theorem lC (s:GState)(p:Int)(U:jE s):Ok (λr=>True) (qB s p):=by
 unfold qB;exact gp (jC _ _ _ ) (λR T=>fZ trivial)
theorem IX (c:oQ):Ok (λr=>r=true↔isC c) (MK c):=by
 unfold MK;refine gU (λs=>s=decide (c.generic<0\/99<c.generic\/c.x<0\/2<c.x)) ?_ ?_
 intro k2 h2;exact gm (λh=>h2 _ dJ) λa=>gm (λh=>h2 _ dJ) λb=>gm (λh=>h2 _ dJ) λd=>h2 _ (by simp[a,b,d])
 rintro s rfl
 refine gm (λh=>fZ ⟨λh=>(by cases h),λhC=>by have:=hC.1;omega⟩) λh0=>?_;refine uV 0 5 (λn=>∀ j,j<n->0<=WY c.color j/\WY c.color j<=9) 0 rfl ah ah (λj h=>by omega) ?_ ?_
 intro i k hi U hk;unfold KW;refine gm (λ_=>gU (λs=>s=decide (WY c.color i<0\/9<WY c.color i)) ?_ ?_) λh=>absurd (show (i:Int)<5 by omega) h
 intro k6 T
 rcases five hi with rfl|rfl|rfl|rfl|rfl <;>
  exact WX ah (gm (λh=>T _ (by simp only[WY];simp[h])) λh=>WX ah (T _ (by simp only[WY];simp[h])))
 rintro s rfl
 refine gm (λh=>fZ ?_) λh=>hk λj hj=>?_
 refine⟨λh=>(by cases h),λhC=>?_⟩;have:=hC.2 i hi;omega
 by_cases e:j=i
 subst e;omega
 exact U j ah
 intro k U;unfold KW;exact gm (λh=>absurd h ah) λ_=>fZ ⟨λ_=>⟨by omega,U⟩,λ_=>rfl⟩
theorem QC (c:Int)  : Ok (λr=>True) (KU c):=by
 unfold KU;exact gm (λh1=>fZ trivial) (λh1=>fZ trivial)
theorem IY (s:ByteArray)(zz_s:F9 s):Ok (λr=>True) (MH s):=by
 unfold MH;refine gU (λ(s1:Bool)=>s1=false->¬((s.size:Int)<1)/\¬(32<(s.size:Int))) (λk2 J=>?_) (λs1 hs3=>?_)
 refine gm (λh4=>J _ af) (λh4=>?_);refine gm (λh5=>J _ af) (λh5=>?_);refine AX ae ae (λx4 h6=>?_);refine gp (QC _ ) (λy5 h7=>?_);refine gq (λh8=>J _ af) (λh8=>?_);have h9:Cc (s.size:Int) 1=(s.size:Int)-1:=Fv bg bg;exact AX ae ae (λx6 h10=>J _ af)
 refine gq (λg=>fZ trivial) (λg=>?_);have hf12:=hs3 g;refine ji (λ(R:Int)=>0<=R/\R<=(s.size:Int)) (λ(R:Int)=>((s.size:Int)-R).toNat) ⟨ae,ae⟩ ak (λR k8 I C=>?_);obtain⟨hI13_0,hI13_1⟩:=I;unfold PR;refine gm (λh15=>?_) (λh15=>fZ trivial);refine gU (λ(s10:Bool)=>True) (λk11 U=>AX ae ae (λx13 h18=>gp (QC _ ) (λy14 h19=>gq (λh20=>AX ae ae (λx15 h21=>gm (λh22=>AX ae ae (λx16 h23=>U _ trivial)) (λh22=>AX ae ae (λx17 h24=>gm (λh25=>AX ae ae (λx18 h26=>U _ trivial)) (λh25=>U _ trivial))))) (λh20=>U _ trivial)))) (λs10 hs17=>?_);refine gq (λh27=>fZ trivial) (λh27=>?_);refine gU (λ(s19:Bool)=>True) (λk20 T=>?_) (λs19 hs29=>?_)
 refine gm (λh30=>?_) (λh30=>T _ trivial);refine AX ae ae (λx22 h31=>?_);refine gm (λh32=>?_) (λh32=>T _ trivial);have h33:Cc R 1=R-1:=Fv bg bg;exact AX ae ae (λx23 h34=>T _ trivial)
 refine gq (λh35=>fZ trivial) (λh35=>?_);have h36:iL R 1=R+1:=jI ah ah;exact C _ ⟨ae,ae⟩ ae
theorem LC (l:List ByteArray)(s:ByteArray)(T:(qL F9) l)(zz_s:F9 s):Ok (λr=>True) (DC l s):=by
 unfold DC;have z1:=(T).1;refine ji (λ(U:Int)=>0<=U/\U<=(l.length:Int)) (λ(U:Int)=>((l.length:Int)-U).toNat) ⟨ae,ae⟩ ak (λU k2 R g=>?_);obtain⟨J,I⟩:=R;unfold Iw;apply gm<;>intro h6
 (try simp only[gK] at h6)
 refine jV ae ae (λx4 h7=>?_);refine gq (λC=>fZ trivial) (λC=>?_);have h11:iL U 1=U+1:=jI ah ah;exact g _ ⟨ae,ae⟩ ae
 (try simp only[gK] at h6)
 exact fZ trivial
theorem MV   : Ok (λr=>SW 2 r) (vT ):=by
 unfold vT;exact fZ bD
theorem FB   : Ok (λr=>SW 6 r) (uO ):=by
 unfold uO;exact fZ bD
theorem Bq (s:ByteArray)(U:F9 s):Ok (λr=>True) (yw s):=by
 unfold yw;exact gp (IY _ az) (λI h2=>gq (λR=>gp (MV  ) (λJ h4=>gp (LC _ _ bZ az) (λy3 h5=>gm (λT=>gp (FB  ) (λy4 C=>gp (LC _ _ bZ az) (λg h8=>fZ trivial))) (λT=>fZ trivial)))) (λR=>fZ trivial))
theorem Kv (mask:Int)(i:Int)(hi:i<=100):Ok (λr=>True) (Iz mask i):=by
 unfold Iz;refine ji (λ(U:Int×Int)=>0<=U.2) (λ(U:Int×Int)=>(i-U.2).toNat) ae ak (λU k2 R T=>?_);unfold MI;refine gm (λJ=>?_) (λJ=>yB bU (λC g=>fZ trivial));refine yA bU (λI h4=>?_);have h5:iL U.2 1=U.2+1:=jI ah ah;exact T _ ae ae
theorem Ue (l:wO)(J:yH l):Ok (λr=>True) (FZ l):=by
 unfold FZ;have z2:=((J)).2;refine gU (λ(s1:Bool)=>s1=false->¬(3<l.Gt)/\¬(63<l.types)/\¬(l.Gt<0)/\¬(l.types<1)/\¬(4<(l.subs.length:Int))) (λk2 U=>gm (λh5=>U _ af) (λh5=>gm (λh6=>U _ af) (λh6=>gm (λh7=>U _ af) (λh7=>gm (λh8=>U _ af) (λh8=>U _ af))))) (λs1 hs4=>?_);refine gq (λh9=>fZ trivial) (λh9=>?_);have hf10:=hs4 h9;refine ji (λ(R:Int)=>0<=R/\R<=(l.subs.length:Int)) (λ(R:Int)=>((l.subs.length:Int)-R).toNat) ⟨ae,ae⟩ ak (λR k5 I g=>?_);obtain⟨hI11_0,hI11_1⟩:=I;unfold PU;apply gm<;>intro C
 (try simp only[gK] at C)
 refine gU (λ(s7:Bool)=>True) (λk8 T=>?_) (λs7 hs15=>?_)
 refine jV ae ae (λx10 h16=>?_);have z17:F9 x10:=z2 x10 h16;refine gp (Bq _ az) (λy11 h19=>?_);refine gq (λh20=>T _ trivial) (λh20=>?_);refine gm (λh21=>?_) (λh21=>T _ trivial);have h22:Cc R 1=R-1:=Fv bg bg;refine jV ae ae (λx12 h23=>?_);refine jV ae ae (λx13 h26=>?_);exact T _ trivial
 refine gq (λh29=>fZ trivial) (λh29=>?_);have h30:iL R 1=R+1:=jI ah ah;exact g _ ⟨ae,ae⟩ ae
 (try simp only[gK] at C)
 exact gm (λh31=>fZ trivial) (λh31=>gm (λh32=>fZ trivial) (λh32=>gp (Kv _ _ ae) (λy14 h33=>gq (λh34=>gp (Kv _ _ ae) (λy15 h35=>fZ trivial)) (λh34=>fZ trivial))))
theorem Uf (mask:Int)  : Ok (λr=>True) (JH mask):=by
 unfold JH;exact gm (λh1=>fZ trivial) (λh1=>fZ trivial)
theorem Ho (c:GCard)(U:lT c):Ok (λr=>True) (zf c):=by
 unfold zf;exact fZ trivial
theorem LD (a b most:Int):Ok (λr=>True) (DD a b most):=by
 unfold DD;refine gU (λ_=>True) ?_ ?_
 intro k h;exact gm (λ_=>h _ trivial) λ_=>gm (λ_=>h _ trivial) λ_=>gm (λ_=>h _ trivial) λ_=>h _ trivial
 intro s _;refine gq (λ_=>fZ trivial) λ_=>?_;refine ji (λs=>0<=s.2.2/\s.2.2<=6) (λs=>(6-s.2.2).toNat) ⟨by simp only;omega,by simp only;omega⟩ (by show _<18446744073709551616;simp only;omega) ?_
 rintro⟨x,y,n⟩ k ⟨h0,h1⟩ hk
 simp only at h0 h1;unfold Iy;refine gm (λh=>gU (λ_=>True) ?_ ?_) λ_=>fZ trivial
 intro k6 U;exact yB bU λ_ _=>gm (λ_=>yB bU λ_ _=>U _ trivial) λ_=>U _ trivial
 intro s _;simp only at h |-;rw[jI ah ah];exact gq (λ_=>fZ trivial) λ_=>yA bU λ_ _=>yA bU λ_ _=>hk _ ⟨by simp only;omega,by simp only;omega⟩ aC
theorem F6 (b:qx):Ok (λr=>r=true->0<=b.kind/\b.kind<=3) (Az b):=by
 unfold Az;refine gU (λs=>s=false->0<=b.kind/\b.kind<=3) ?_ ?_
 intro k h;exact gm (λ_=>h _ dP) λh1=>gm (λ_=>h _ dP) λh2=>gm (λ_=>h _ dP) λ_=>h _ λ_=>by omega
 intro s hs;exact gq (λ_=>fZ dP) λe=>lN (λ_=>fZ λ_=>hs e) λ_=>fZ λ_=>hs e
def aeS (f:jf):Prop:=(0<=f.iI/\f.iI<=5)/\(0<=f.who/\f.who<=2)/\(0<=f.self/\f.self<=2)/\(0<=f.rE/\f.rE<=2)/\(0<=f.power.kind/\f.power.kind<=3)/\(0<=f.ik.kind/\f.ik.kind<=3)/\(0<=f.value.kind/\f.value.kind<=3)
theorem uh (f:jf)(U:kF f):Ok (λr=>r=true->aeS f) (AA f):=by
 unfold AA;have no:∀ {p:Prop},((false:Bool)=true->p):=λe=>by cases e
 refine gU (λs=>s=false->(0<=f.iI/\f.iI<=5)/\(0<=f.who/\f.who<=2)/\(0<=f.self/\f.self<=2)/\(0<=f.rE/\f.rE<=2)) ?_ ?_
 ·intro k h
  iterate 7 refine gm (λ_=>h _ dP) λ_=>?_
  exact h _ λe=>by rw[decide_eq_false_iff_not] at e;omega
 intro s hs;refine gq (λ_=>fZ no) λe=>gU (λ_=>True) ?_ ?_
 intro k h;exact gp (LD _ _ _) λ_ _=>gq (λ_=>h _ trivial) λ_=>gp (LD _ _ _) λ_ _=>h _ trivial
 intro s3 _;refine gq (λ_=>fZ no) λ_=>gU (λ_=>True) ?_ ?_
 intro k h;refine gq (λ_=>gp (Bq _ U) λ_ _=>gq (λ_=>h _ trivial) λ_=>gm (λ_=>h _ trivial) λ_=>h _ trivial) λ_=>gm (λ_=>h _ trivial) λ_=>h _ trivial
 intro s7 _;refine gq (λ_=>fZ no) λ_=>gp (F6 _) λI J=>gq (λe10=>gp (F6 _) λC R=>gq (λe11=>gp (F6 _) λg T=>fZ λe12=>?_) λ_=>fZ no) λ_=>fZ no;obtain⟨a,b,c,d⟩:=hs e;exact⟨a,b,c,d,J e10,R e11,T e12⟩
theorem Xb (m:jv)(C:vC m):Ok (λr=>True) (JG m):=by
 unfold JG;exact gm (λh4=>fZ trivial) (λh4=>gm (λh5=>fZ trivial) (λh5=>gm (λh6=>fZ trivial) (λh6=>gm (λh7=>fZ trivial) (λh7=>gm (λh8=>fZ trivial) (λh8=>gm (λg=>fZ trivial) (λg=>gm (λI=>fZ trivial) (λI=>gm (λR=>fZ trivial) (λR=>gm (λU=>fZ trivial) (λU=>gm (λJ=>fZ trivial) (λJ=>gm (λT=>fZ trivial) (λT=>fZ trivial)))))))))))
theorem LG (mask:Int)  : Ok (λr=>True) (DF mask):=by
 unfold DF;exact gm (λh1=>gm (λh2=>fZ trivial) (λh2=>fZ trivial)) (λh1=>fZ trivial)
theorem Ug (m:jv)(U:vC m):Ok (λr=>True) (PS m):=by
 unfold PS;have z1:m.sub.size<=1048576:=(U).1;have z3:m.filter.sub.size<=1048576:=((U).2);refine gU (λ(s1:Bool)=>s1=false->¬(14<m.kind)/\¬(m.kind<1)) (λk2 hk4=>gm (λh6=>hk4 _ af) (λh6=>gm (λh7=>hk4 _ af) (λh7=>gp (Xb _ bF) (λy4 h8=>lX (λv5 h9=>hk4 _ af))))) (λs1 hs5=>?_);refine gq (λT=>fZ trivial) (λT=>?_);have hf11:=hs5 T
 exact gm (λR=>gp (LG _ ) (λy6 h13=>fZ trivial)) (λR=>gm (λh14=>gp (LG _ ) (λy7 h15=>fZ trivial)) (λh14=>gm (λh16=>gp (Bq _ az) (λy8 h17=>fZ trivial)) (λh16=>gm (λC=>gp (Bq _ az) (λy9 h19=>fZ trivial)) (λC=>gm (λh20=>gm (λh21=>fZ trivial) (λh21=>fZ trivial)) (λh20=>gm (λh22=>gm (λg=>fZ trivial) (λg=>fZ trivial)) (λh22=>gm (λh24=>gm (λh25=>fZ trivial) (λh25=>fZ trivial)) (λh24=>gm (λh26=>gm (λh27=>fZ trivial) (λh27=>fZ trivial)) (λh26=>gm (λh28=>gp (uh _ ay) (λy10 h29=>fZ trivial)) (λh28=>gm (λh30=>gm (λJ=>gm (λI=>gm (λh33=>fZ trivial) (λh33=>fZ trivial)) (λI=>fZ trivial)) (λJ=>fZ trivial)) (λh30=>gm (λh34=>gm (λh35=>gm (λh36=>gm (λh37=>fZ trivial) (λh37=>fZ trivial)) (λh36=>fZ trivial)) (λh35=>fZ trivial)) (λh34=>fZ trivial)))))))))))
theorem Uh (l:List ByteArray)(mask:Int)(U:ByteArray)(n:Nat)(hl:SW n l)(hb:U.size<=10):Ok (λr=>r.size<=11000) (Ee l mask U):=by
 unfold Ee;have hn:=hl.1;have J:=hl.2.1;refine Il 0 l.length (λn t=>t.size<=110*n) 0 rfl (Nat.zero_le _) ah aH ?_ ?_
 intro i t k hi R hk;unfold Bg;refine gm (λ_=>gU (λs=>s.size<=110*(i+1)) ?_ λs hs=>hk s hs) λh=>absurd (show (i:Int)<(l.length:Int) by omega) h;intro k5 h5;refine gp (Kv _ _ aC) λC _=>gq (λ_=>gU (λs=>s.size<=110*i+10) ?_ ?_) λ_=>h5 _ aC
 intro I T;exact gq (λ_=>kR aC λx hx=>T _ (by simp only at hx;omega)) λ_=>T _ aC
 intro s hs;refine jV aC aC λx hx=>kR (by have:=hl.2.2 x hx;omega) λy hy=>h5 _ (by have:=hl.2.2 x hx;omega)
 intro t k R;unfold Bg;exact gm (λh=>absurd h aX) λ_=>fZ aC
theorem zN (mask:Int):Ok (λr=>r.size<=11000) (rF mask):=by
 unfold rF;exact gm (λ_=>fZ aH) λ_=>gm (λ_=>fZ aH) λ_=>gp FB λT h1=>gp (Uh _ _ _ _ h1 aH) λU h2=>fZ h2
theorem aao (mask:Int)  : Ok (λr=>True) (Tn mask):=by
 unfold Tn;exact gm (λh1=>fZ trivial) (λh1=>fZ trivial)
theorem IZ (i:Int)  : Ok (λr=>r.size<=100) (Ef i):=by
 unfold Ef;exact gm (λh1=>fZ aH) (λh1=>gm (λh2=>fZ aH) (λh2=>gm (λT=>fZ aH) (λT=>gm (λU=>fZ aH) (λU=>gm (λh5=>fZ aH) (λh5=>fZ aH)))))
theorem OL (mask:Int):Ok (λr=>r.size<=11000) (Gx mask):=by
 unfold Gx;refine gp (aao _) λy1 _=>gq (λ_=>fZ aH) λ_=>gm (λ_=>fZ aH) λ_=>?_;refine Il 0 5 (λn t=>t.size<=110*n) 0 rfl ah ah aH ?_ ?_
 ·intro i t k hi R hk;unfold EU;refine gm (λ_=>gU (λs=>s.size<=110*(i+1)) ?_ λs hs=>hk s hs) λh=>absurd (show (i:Int)<5 by omega) h;intro k5 h5;refine aan aC λJ U=>yA ?_ λx7 _=>yB bU λg _=>gm (λ_=>gU (λs=>s.size<=110*i+10) ?_ ?_) λ_=>h5 _ aC
  ·rcases five hi with rfl|rfl|rfl|rfl|rfl
   all_goals
    have:J≠0:=by
     intro e;subst e;revert U;simp only;decide
    exact this
  intro C T;exact gq (λ_=>kR aS λx hx=>T _ aT) λ_=>T _ aC
  intro s hs;exact gp (IZ _) λy hy=>kR ah λz I=>h5 _ ah
 intro t k R;unfold EU;exact gm (λh=>absurd h aC) λ_=>fZ aC
theorem UC   : Ok (λr=>SW 17 r) (Gy ):=by
 unfold Gy;exact fZ bD
theorem OM (i:Int):Ok (λr=>r.size<=100) (Gz i):=by
 unfold Gz;refine gm (λ_=>fZ aH) λ_=>gm (λ_=>fZ aH) λ_=>gp UC λU h1=>jV ah (by have:=h1.1;omega) λx hx=>fZ (h1.2.2 x hx)
theorem OO (mask:Int):Ok (λr=>r.size<=11000) (GG mask):=by
 unfold GG;refine gp (Uf _) λg _=>gq (λ_=>fZ aH) λ_=>?_;refine ji (λs=>∃ n:Nat,s.2.2=(n:Int)/\n<=17/\s.2.1.size<=110*n) (λs=>17-s.2.2.toNat) ⟨0,rfl,by omega,by simp[lS]⟩ (by show 17-_<18446744073709551616;omega) ?_
 rintro⟨m,t,n'⟩ k ⟨n,e,hn,ht⟩ hk
 simp only at e ht;subst e;unfold JI;refine gm (λh=>gU (λs=>s.2.size<=110*(n+1)) ?_ ?_) λh=>gq (λ_=>fZ aH) λ_=>fZ aC
 intro k6 R;refine gU (λs=>s.size<=110*(n+1)) ?_ λs hs=>yA bU λx _=>R _ hs;intro I T;refine yB bU λx _=>gm (λ_=>gU (λs=>s.size<=110*n+10) ?_ ?_) λ_=>T _ aC
 intro k13 U;exact gq (λ_=>kR aS λx hx=>U _ aT) λ_=>U _ aC
 intro s hs;exact gp (OM _) λy hy=>kR ah λz J=>T _ ah
 rintro⟨C,s2⟩ hs
 simp only at h hs |-;rw[qw ah];exact hk _ ⟨n+1,rfl,by omega,hs⟩ (by simp only[Int.toNat_natCast];omega)
theorem OQ   : Ok (λr=>SW 6 r) (wY ):=by
 unfold wY;exact fZ bD
theorem Qa   : Ok (λr=>SW 3 r) (yT ):=by
 unfold yT;exact fZ bD
theorem OT   : Ok (λr=>SW 3 r) (wZ ):=by
 unfold wZ;exact fZ bD
theorem Qb   : Ok (λr=>SW 3 r) (yU ):=by
 unfold yU;exact fZ bD
theorem wu (l:List ByteArray)(s:ByteArray)(n:Nat)(hl:WL n l)(hs:s.size<=140737488360000)(hn:n<=1000):Ok (λr=>WL (n+1) r) (yV l s):=by
 unfold yV;have:=hl.1;exact gq (λ_=>fZ (hl.mono ah)) λ_=>lU aJ aJ (fZ (hl.add hs))
theorem BR (mask:Int)(i:Int)(hi:i<=100):Ok (λr=>True) (Dc mask i):=by
 unfold Dc;refine ji (λ(U:Int×Int)=>0<=U.2) (λ(U:Int×Int)=>(i-U.2).toNat) ae ak (λU k2 R T=>?_);unfold MJ;refine gm (λJ=>?_) (λJ=>yB bU (λC g=>fZ trivial));refine yA bU (λI h4=>?_);have h5:iL U.2 1=U.2+1:=jI ah ah;exact T _ ae ae
theorem Hq (i:Int)(hi:i<=100):Ok (λr=>r.size<=11000) (wG i):=by
 unfold wG;refine ji (λ(U:Int×Int)=>0<=U.2) (λ(U:Int×Int)=>(i-U.2).toNat) ae ak (λU k2 R T=>?_);unfold Ci;refine gm (λJ=>?_) (λJ=>gp (zN _ ) (λy4 h5=>fZ aK));have I:iL U.2 1=U.2+1:=jI ah ah;exact T _ ae ae
theorem Kw (u:Int)(hu:0<=u/\u<18446744073709551616):Ok (λr=>r.size<=21) (AB u):=by
 obtain⟨h0,h1⟩:=hu;unfold AB;refine yB bU (λg _=>abN (λx2 h2=>yA bU (λx3 C=>?_)));rw[u64q h0 h1] at C;refine ji (λs=>∃ k:Nat,s.2.size+k<=21/\0<=s.1/\s.1<10 ^ k) (λs=>s.1.toNat) ⟨20,by simp only;omega,by simp only;omega,by simp only;omega⟩ (by show _<18446744073709551616;simp only;omega) ?_
 rintro⟨a,b⟩ k5 ⟨k,g1,g2,g3⟩ hk
 simp only at g1 g2 g3;unfold FY;refine gm (λh=>?_) (λ_=>fZ aC);simp only at h;have J:k≠0:=by intro e;subst e;simp at g3;omega
 obtain⟨U,rfl⟩:∃ U,k=U+1:=⟨k-1,by omega⟩;have hp:(10:Int) ^ (U+1)=10 ^ U*10:=Int.pow_succ 10 U;rw[hp] at g3;refine yB bU (λx6 _=>abN (λx7 h7=>kR aC (λx8 I=>yA bU (λT R=>?_))));simp only at I R
 have hq:0<=T/\T<=a / 10:=by
  rw[R,Int.tdiv_eq_ediv_of_nonneg g2,IntKind.wrap_u64];omega
 exact hk _ ⟨U,by simp only;omega,hq.1,by simp only;omega⟩ aC
theorem wM (n:Int)  : Ok (λr=>r.size<=22) (xe n):=by
 unfold xe;refine gm (λh1=>?_) (λh1=>gp (Kw _ (VC _)) (λy3 R=>fZ aK));refine gp (Kw _ (VC _)) (λT h2=>?_);refine kR ae (λJ U=>?_);simp only[lS,List.length_cons,List.length_nil] at U;exact fZ aK
theorem UD   : Ok (λr=>SW 4 r) (GH ):=by
 unfold GH;exact fZ bD
theorem zO (name:ByteArray)(b:qx)(hn:name.size<=100)(hk:0<=b.kind/\b.kind<=3):Ok (λr=>r.size<=1000) (rG name b):=by
 unfold rG;refine gm (λ_=>fZ aH) λ_=>gp UD λR h1=>jV ah (by have:=h1.1;omega) λT U=>?_;have:=h1.2.2 T U;exact kR ah λC g=>gp (wM _) λy4 J=>kR ah λI h5=>fZ ah
theorem Xc (l:List ByteArray)(U:ByteArray)(hl:WL 200 l)(hb:U.size<=10):Ok (λr=>r.size<=28147497672002000) (JJ l U):=by
 unfold JJ;have hn:=hl.1;refine Il 0 l.length (λn t=>t.size<=140737488360010*n) 0 rfl (Nat.zero_le _) ah aH ?_ ?_
 intro i t k hi R hk;unfold EW;refine gm (λ_=>gU (λs=>s.size<=140737488360010*(i+1)) ?_ λs hs=>hk s hs) λh=>absurd (show (i:Int)<(l.length:Int) by omega) h;intro k5 h5;refine gU (λs=>s.size<=140737488360010*i+10) ?_ ?_
 intro J T;exact gm (λ_=>kR aC λx hx=>T _ (by simp only at hx;omega)) λ_=>T _ aC
 intro s hs;refine jV aC aC λx hx=>kR (by have:=hl.2 x hx;omega) λy hy=>h5 _ (by have:=hl.2 x hx;omega)
 intro t k R;unfold EW;exact gm (λh=>absurd h aX) λ_=>fZ aC
theorem Xd (f:jf)(C:kF f):Ok (λr=>r.size<=28147497672002000) (JK f):=by
 have hsub:f.sub.size<=1048576:=C;unfold JK;refine gp (uh f C) λy1 h1=>gq (λ_=>fZ aH) λh=>?_;obtain⟨hz,hw,hs,ht,hp,hq,hv⟩:=h1 bY;refine gp OQ λy2 h2=>gp Qa λy3 h3=>gp OT λy4 h4=>gp Qb λy5 h5=>?_;have l5:=h5.1;refine jV ah (by have:=h2.1;omega) λx6 k6=>gp (wu _ _ 0 ⟨by simp,by simp⟩ (by have:=h2.2.2 x6 k6;omega) ah) λy7 h7=>?_;refine jV ah (by have:=h3.1;omega) λx8 k8=>gp (wu _ _ _ h7 (by have:=h3.2.2 x8 k8;omega) ah) λy9 h9=>?_;refine jV ah (by have:=h4.1;omega) λx10 k10=>gp (wu _ _ _ h9 (by have:=h4.2.2 x10 k10;omega) ah) λy11 h11=>?_;refine lq 0 6 (λn t=>WL (3+n) t) 0 rfl ah ah h11 ?_ ?_
 intro i t k hi T hk;have hl:=T.1;unfold E8;refine gm (λ_=>gU (λs=>WL (3+i+1) s) ?_ λs hs=>hk s hs) λh=>absurd (show (i:Int)<6 by omega) h;intro k16 U;exact gp (BR _ _ aC) λJ _=>gq (λ_=>gp (Hq _ aC) λR I=>lU aJ aJ (U _ (T.add ah))) λ_=>U _ (T.mono ah)
 intro t _ h12;unfold E8;refine gm (λh=>absurd h aC) λ_=>?_;refine lq 0 6 (λn t=>WL (9+n) t) 0 rfl ah ah h12 ?_ ?_
 intro i t k hi T hk;have hl:=T.1;unfold E5;refine gm (λ_=>gU (λs=>WL (9+i+1) s) ?_ λs hs=>hk s hs) λh=>absurd (show (i:Int)<6 by omega) h;intro k16 U;exact gp (BR _ _ aC) λJ _=>gq (λ_=>gp (Hq _ aC) λR I=>kR aS λx hx=>lU aJ aJ (U _ (T.add aT))) λ_=>U _ (T.mono ah)
 intro t _ h13;unfold E5;refine gm (λh=>absurd h aC) λ_=>?_;refine lq 0 5 (λn t=>WL (15+n) t) 0 rfl ah ah h13 ?_ ?_
 intro i t k hi T hk;have hl:=T.1;unfold EZ;refine gm (λ_=>gU (λs=>WL (15+i+1) s) ?_ λs hs=>hk s hs) λh=>absurd (show (i:Int)<5 by omega) h;intro k16 U;exact gp (BR _ _ aC) λJ _=>gq (λ_=>gp (IZ _) λR I=>lU aJ aJ (U _ (T.add ah))) λ_=>U _ (T.mono ah)
 intro t _ h14;unfold EZ;refine gm (λh=>absurd h aC) λ_=>?_;refine lq 0 5 (λn t=>WL (20+n) t) 0 rfl ah ah h14 ?_ ?_
 intro i t k hi T hk;have hl:=T.1;unfold EY;refine gm (λ_=>gU (λs=>WL (20+i+1) s) ?_ λs hs=>hk s hs) λh=>absurd (show (i:Int)<5 by omega) h;intro k16 U;exact gp (BR _ _ aC) λJ _=>gq (λ_=>gp (IZ _) λR I=>kR aS λx hx=>lU aJ aJ (U _ (T.add aT))) λ_=>U _ (T.mono ah)
 intro t _ g;have hl15:=g.1;unfold EY;refine gm (λh=>absurd h aC) λ_=>?_;refine gU (λs=>WL 26 s) ?_ ?_
 intro k h;exact gq (λ_=>kR aS λx hx=>lU aJ aJ (h _ (g.add aT))) λ_=>h _ (g.mono ah)
 intro s46 U;refine lq 0 17 (λn t=>WL (26+n) t) 0 rfl ah ah U ?_ ?_
 intro i t k hi T hk;have hl:=T.1;unfold EX;refine gm (λ_=>gU (λs=>WL (26+i+1) s) ?_ λs hs=>hk s hs) λh=>absurd (show (i:Int)<17 by omega) h;intro k16 U;exact gp (BR _ _ aC) λJ _=>gq (λ_=>gp (OM _) λR I=>kR aS λx hx=>lU aJ aJ (U _ (T.add aT))) λ_=>U _ (T.mono ah)
 intro t _ h17;unfold EX;refine gm (λh=>absurd h aC) λ_=>?_;refine jV ah ah λx48 k48=>gp (wu _ _ _ h17 (by have:=h5.2.2 x48 k48;omega) ah) λy49 h49=>?_;refine gp (zO _ _ aH hp) λy50 h50=>gp (wu _ _ _ h49 ah ah) λy51 h51=>?_;refine gp (zO _ _ aH hq) λy52 h52=>gp (wu _ _ _ h51 ah ah) λy53 h53=>?_;refine gp (zO _ _ aH hv) λy54 h54=>gp (wu _ _ _ h53 ah ah) λy55 h55=>?_;exact gm (λ_=>fZ aH) λ_=>gp (Xc _ _ (h55.mono ah) aH) λy56 h56=>fZ h56
theorem Xe (m:jv)(U:vC m):Ok (λr=>r.size<=28147497672100000) (JL m):=by
 unfold JL;have z1:m.sub.size<=1048576:=(U).1;have z3:m.filter.sub.size<=1048576:=((U).2);refine gp (Ug _ bF) (λy1 h4=>?_);refine gq (λh5=>fZ aK) (λh5=>?_);refine gm (λh6=>fZ aK) (λh6=>?_);apply gm<;>intro h7
 refine gp (zN _ ) (λy2 h8=>?_);refine kR ae (λx3 h9=>?_);simp only[lS,List.length_cons,List.length_nil] at h9;exact fZ aK
 apply gm<;>intro h10
 refine gp (zN _ ) (λy4 h11=>?_);refine kR ae (λx5 R=>?_);simp only[lS,List.length_cons,List.length_nil] at R;exact fZ aK
 apply gm<;>intro h13
 refine kR ae (λx6 g=>?_);simp only[lS,List.length_cons,List.length_nil] at g;exact fZ aK
 apply gm<;>intro h15
 refine kR ae (λx7 h16=>?_);simp only[lS,List.length_cons,List.length_nil] at h16;exact fZ aK
 apply gm<;>intro h17
 refine gp (OL _ ) (λy8 h18=>?_);refine kR ae (λx9 h19=>?_);simp only[lS,List.length_cons,List.length_nil] at h19;exact fZ aK
 apply gm<;>intro h20
 refine gp (OL _ ) (λy10 h21=>?_);refine kR ae (λx11 I=>?_);simp only[lS,List.length_cons,List.length_nil] at I;exact fZ aK
 apply gm<;>intro h23
 refine gp (OO _ ) (λy12 h24=>?_);refine kR ae (λx13 C=>?_);simp only[lS,List.length_cons,List.length_nil] at C;exact fZ aK
 apply gm<;>intro h26
 refine gp (OO _ ) (λy14 h27=>?_);refine kR ae (λx15 h28=>?_);simp only[lS,List.length_cons,List.length_nil] at h28;exact fZ aK
 refine gm (λT=>fZ aK) (λT=>?_);apply gm<;>intro h30
 refine gp (Xd _ ay) (λy16 h31=>?_);refine kR ae (λx17 J=>?_);simp only[lS,List.length_cons,List.length_nil] at J;refine kR ae (λx18 h33=>?_);simp only[lS,List.length_cons,List.length_nil] at h33;exact fZ aK
 apply gm<;>intro h34
 refine gp (wM _ ) (λy19 h35=>?_);refine kR ae (λx20 h36=>?_);simp only[lS,List.length_cons,List.length_nil] at h36;refine kR ae (λx21 h37=>?_);simp only[lS,List.length_cons,List.length_nil] at h37;exact gp (wM _ ) (λy22 h38=>kR ae (λx23 h39=>fZ aK))
 refine gm (λh40=>?_) (λh40=>fZ aK);refine gp (wM _ ) (λy24 h41=>?_);refine kR ae (λx25 h42=>?_);simp only[lS,List.length_cons,List.length_nil] at h42;refine kR ae (λx26 h43=>?_);simp only[lS,List.length_cons,List.length_nil] at h43;exact gp (wM _ ) (λy27 h44=>kR ae (λx28 h45=>fZ aK))
theorem AY (l:List jv)(U:(qL vC) l):Ok (λr=>True) (tJ l):=by
 unfold tJ;refine gU (λs=>s=false->l.length<=6) ?_ ?_
 intro k h;exact gm (λ_=>h _ dP) λ_=>h _ λe=>by rw[decide_eq_false_iff_not] at e;unfold gK at e;omega
 intro s hs;refine gq (λ_=>fZ trivial) λe=>?_;have hl:=hs e;refine Il 0 l.length (λn t=>t.size<=28147497672200000*n) 0 rfl (Nat.zero_le _) ah aH ?_ ?_
 intro i t k hi J hk;unfold xy;refine gm (λ_=>gU (λs=>s.size<=28147497672200000*(i+1)) ?_ λs hs=>hk s hs) λh=>absurd (show (i:Int)<(l.length:Int) by omega) h;intro k8 I;refine jV aC aC λC R=>gp (Ug _ (U.2 C R)) λy8 _=>gq (λ_=>fZ trivial) λ_=>gU (λs=>s.size<=28147497672200000*i+2) ?_ ?_
 intro k13 T;exact gm (λ_=>kR aS λx hx=>T _ aT) λ_=>T _ aC
 intro s hs;exact jV aC aC λx hx=>gp (Xe _ (U.2 x hx)) λy hy=>kR ah λz g=>I _ ah
 intro t k J;unfold xy;exact gm (λh=>absurd h aX) λ_=>fZ trivial
theorem UE (p:Ip)  : Ok (λr=>True) (GI p):=by
 unfold GI;exact gp (IX _ ) (λR h1=>gq (λh2=>gm (λT=>gm (λU=>fZ trivial) (λU=>fZ trivial)) (λT=>fZ trivial)) (λh2=>fZ trivial))
theorem OU (when:Int)  : Ok (λr=>True) (GK when):=by
 unfold GK;exact gm (λh1=>fZ trivial) (λh1=>gm (λh2=>fZ trivial) (λh2=>gm (λh3=>fZ trivial) (λh3=>gm (λh4=>fZ trivial) (λh4=>gm (λh5=>fZ trivial) (λh5=>gm (λg=>fZ trivial) (λg=>gm (λh7=>fZ trivial) (λh7=>gm (λh8=>fZ trivial) (λh8=>gm (λC=>fZ trivial) (λC=>gm (λJ=>fZ trivial) (λJ=>gm (λR=>fZ trivial) (λR=>gm (λU=>fZ trivial) (λU=>gm (λI=>fZ trivial) (λI=>gm (λT=>fZ trivial) (λT=>fZ trivial))))))))))))))
theorem Ky (when:Int)  : Ok (λr=>True) (AL when):=by
 unfold AL;exact gm (λh1=>fZ trivial) (λh1=>gm (λh2=>fZ trivial) (λh2=>gm (λT=>fZ trivial) (λT=>gm (λU=>fZ trivial) (λU=>gm (λh5=>fZ trivial) (λh5=>fZ trivial)))))
theorem OV (when:Int)  : Ok (λr=>True) (xg when):=by
 unfold xg;exact gp (OU _ ) (λR h1=>gq (λh2=>gp (Ky _ ) (λT J=>gq (λU=>fZ trivial) (λU=>fZ trivial))) (λh2=>fZ trivial))
theorem aap (t:vP)(zz_t:ED t):Ok (λr=>True) (Tq t):=by
 unfold Tq;refine gU (λ(s1:Bool)=>s1=false->¬(2<t.who)/\¬(t.who<0)) (λk2 U=>gp (OU _ ) (λy4 h5=>gq (λh6=>U _ af) (λh6=>gm (λh7=>U _ af) (λh7=>gm (λh8=>U _ af) (λh8=>gp (Ky _ ) (λy5 h9=>gq (λh10=>U _ af) (λh10=>U _ af))))))) (λs1 C=>?_);refine gq (λR=>fZ trivial) (λR=>?_);have hf12:=C R;exact gp (OV _ ) (λy6 h13=>gq (λI=>lX (λv7 h15=>fZ trivial)) (λI=>gU (λ(s8:Int)=>True) (λk9 T=>gm (λg=>T _ trivial) (λg=>T _ trivial)) (λs8 hs17=>gp (uh _ ay) (λy11 h19=>gq (λJ=>fZ trivial) (λJ=>fZ trivial)))))
theorem F7 (f:jf)(U:kF f):Ok (λr=>True) (AO f):=by
 unfold AO;exact gp (uh _ ay) (λR h2=>gq (λT=>fZ trivial) (λT=>fZ trivial))
theorem UF (pr:lu)(C:xR pr):Ok (λr=>True) (GL pr):=by
 unfold GL;refine gU (λ(s1:Bool)=>s1=false->pr.who=0) (λk2 U=>lN (λh5=>U _ af) (λh5=>gp (F7 _ ay) (λy4 h6=>U _ af))) (λs1 I=>?_);refine gq (λh7=>fZ trivial) (λh7=>?_);have hf8:=I h7;exact gm (λh9=>gm (λh10=>gm (λh11=>gm (λT=>fZ trivial) (λT=>gm (λh13=>fZ trivial) (λh13=>fZ trivial))) (λh11=>fZ trivial)) (λh10=>fZ trivial)) (λh9=>gm (λJ=>gm (λh15=>gm (λh16=>fZ trivial) (λh16=>fZ trivial)) (λh15=>fZ trivial)) (λJ=>gm (λg=>gm (λh18=>gm (λh19=>gm (λR=>gm (λh21=>fZ trivial) (λh21=>fZ trivial)) (λR=>fZ trivial)) (λh19=>fZ trivial)) (λh18=>fZ trivial)) (λg=>fZ trivial)))
theorem UG (U:lu)(g:xR U):Ok (λr=>True) (GN U):=by
 unfold GN;refine gU (λ(s1:Bool)=>s1=false->U.counter=0/\U.iI=0) (λk2 R=>lN (λh5=>R _ af) (λh5=>R _ af)) (λs1 C=>?_);refine gq (λh6=>fZ trivial) (λh6=>?_);have hf7:=C h6;refine gU (λ(s4:Bool)=>s4=false->¬(U.doF=2)/\¬(U.doF=4)) (λk5 T=>gm (λh10=>T _ af) (λh10=>T _ af)) (λs4 hs9=>?_);refine gq (λJ=>gm (λI=>fZ trivial) (λI=>fZ trivial)) (λJ=>?_);have hf13:=hs9 J;exact fZ trivial
theorem aaq (pr:lu)(zz_pr:xR pr):Ok (λr=>True) (Tt pr):=by
 unfold Tt
 exact gm (λh3=>gp (UF _ bu) (λy1 h4=>fZ trivial)) (λh3=>gp (UG _ bu) (λy2 h5=>gq (λh6=>fZ trivial) (λh6=>lX (λv3 h7=>gU (λ(s4:Bool×Bool)=>True) (λk5 T=>gm (λh10=>T _ trivial) (λh10=>gm (λh11=>T _ trivial) (λh11=>T _ trivial))) (λs4 hs9=>gm (λR=>gU (λ(s7:Bool)=>True) (λk8 U=>lN (λh15=>lN (λh16=>lN (λC=>U _ trivial) (λC=>U _ trivial)) (λh16=>U _ trivial)) (λh15=>U _ trivial)) (λs7 hs14=>gq (λh18=>fZ trivial) (λh18=>gm (λh19=>gp (F7 _ ay) (λy10 h20=>gq (λh21=>fZ trivial) (λh21=>gm (λh22=>fZ trivial) (λh22=>gm (λh23=>fZ trivial) (λh23=>fZ trivial))))) (λh19=>gm (λh24=>fZ trivial) (λh24=>gm (λh25=>fZ trivial) (λh25=>fZ trivial)))))) (λR=>gm (λh26=>gq (λh27=>gm (λh28=>gp (F7 _ ay) (λy11 h29=>fZ trivial)) (λh28=>fZ trivial)) (λh27=>fZ trivial)) (λh26=>gm (λh30=>gm (λJ=>gm (λg=>gm (λh33=>fZ trivial) (λh33=>fZ trivial)) (λg=>fZ trivial)) (λJ=>gm (λh34=>gm (λh35=>gm (λh36=>fZ trivial) (λh36=>fZ trivial)) (λh35=>fZ trivial)) (λh34=>fZ trivial))) (λh30=>gm (λh37=>gq (λh38=>gm (λh39=>gm (λh40=>fZ trivial) (λh40=>fZ trivial)) (λh39=>fZ trivial)) (λh38=>fZ trivial)) (λh37=>gm (λh41=>gq (λh42=>gm (λh43=>gm (λI=>fZ trivial) (λI=>fZ trivial)) (λh43=>fZ trivial)) (λh42=>fZ trivial)) (λh41=>gm (λh45=>gq (λh46=>gm (λh47=>gm (λh48=>fZ trivial) (λh48=>fZ trivial)) (λh47=>fZ trivial)) (λh46=>fZ trivial)) (λh45=>fZ trivial)))))))))))
theorem Xf (s:oJ)(R:Fz s):Ok (λr=>True) (JM s):=by
 unfold JM;exact gq (λh3=>gU (λ(I:Bool)=>True) (λk2 hk4=>gq (λC=>lX (λv4 h7=>hk4 _ trivial)) (λC=>hk4 _ trivial)) (λI g=>fZ trivial)) (λh3=>gp (uh _ ay) (λy5 h8=>gq (λJ=>gm (λT=>fZ trivial) (λT=>gm (λU=>fZ trivial) (λU=>fZ trivial))) (λJ=>fZ trivial)))
theorem UH (l:List oJ)(U:(qL Fz) l):Ok (λr=>True) (GR l):=by
 unfold GR;have z1:=(U).1;have z2:=(U).2;refine ji (λ(T:Int)=>0<=T/\T<=(l.length:Int)) (λ(T:Int)=>((l.length:Int)-T).toNat) ⟨ae,ae⟩ ak (λT k2 R hk4=>?_);obtain⟨J,I⟩:=R;unfold IA;apply gm<;>intro h5
 (try simp only[gK] at h5)
 refine jV ae ae (λg h6=>?_);have z7:Fz g:=z2 g h6;refine gp (Xf _ (by first|assumption|(refine⟨by omega,?_⟩;first|(intro _ _;trivial)|assumption)|(unfold Fz;simp_all[F9,qL]))) (λy5 h10=>?_);refine gq (λC=>fZ trivial) (λC=>?_);have h12:iL T 1=T+1:=jI ah ah;exact hk4 _ ⟨ae,ae⟩ ae
 (try simp only[gK] at h5)
 exact fZ trivial
theorem Xg (op:Int)  : Ok (λr=>True) (JO op):=by
 unfold JO;refine gU (λ(R:Bool)=>R=false->¬(op<1)/\¬(26<op)) (λk2 U=>gm (λC=>U _ af) (λC=>U _ af)) (λR T=>?_);refine gq (λJ=>fZ trivial) (λJ=>?_);have I:=T J;have h6:Cc op 1=op-1:=Fv bg bg;exact aam ae ae (λj4 h7 h8=>WV ae (λx5 g=>fZ trivial))
theorem Xh (op:Int)  : Ok (λr=>r.size<=100) (JP op):=by
 unfold JP;exact gm (λh1=>fZ aH) (λh1=>gm (λh2=>fZ aH) (λh2=>gm (λh3=>fZ aH) (λh3=>gm (λh4=>fZ aH) (λh4=>gm (λh5=>fZ aH) (λh5=>gm (λh6=>fZ aH) (λh6=>gm (λh7=>fZ aH) (λh7=>gm (λh8=>fZ aH) (λh8=>gm (λh9=>fZ aH) (λh9=>gm (λh10=>fZ aH) (λh10=>gm (λC=>fZ aH) (λC=>gm (λU=>fZ aH) (λU=>gm (λJ=>fZ aH) (λJ=>gm (λT=>fZ aH) (λT=>gm (λg=>fZ aH) (λg=>gm (λh16=>fZ aH) (λh16=>gm (λR=>fZ aH) (λR=>gm (λI=>fZ aH) (λI=>fZ aH))))))))))))))))))
theorem ry (op:Int)(field:Int)  : Ok (λr=>True) (uD op field):=by
 unfold uD;refine gp (Xh _ ) (λC h1=>?_);refine ji (λ(U:Int)=>0<=U/\U<=(C.size:Int)) (λ(U:Int)=>((C.size:Int)-U).toNat) ⟨ae,ae⟩ ak (λU k3 I T=>?_);obtain⟨J,R⟩:=I;unfold JQ;refine gm (λh4=>?_) (λh4=>fZ trivial);refine AX ae ae (λx5 h5=>?_);refine gm (λg=>fZ trivial) (λg=>?_);have h7:iL U 1=U+1:=jI ah ah;exact T _ ⟨ae,ae⟩ ae
theorem Qc (kind:Int)  : Ok (λr=>True) (yX kind):=by
 unfold yX;exact gm (λh1=>fZ trivial) (λh1=>fZ trivial)
theorem aar (R:Tf)(specs:Int)(zz_pr:WW R):Ok (λr=>True) (Tu R specs):=by
 unfold Tu;refine gU (λ(s1:Int)=>True) (λk2 C=>gm (λh5=>C _ trivial) (λh5=>C _ trivial)) (λs1 hs4=>?_);refine gU (λ(s4:Bool)=>s4=false->¬(R.kind<1)/\¬(8<R.kind)) (λk5 I=>gm (λh8=>I _ af) (λh8=>I _ af)) (λs4 hs7=>?_);refine gq (λh9=>fZ trivial) (λh9=>?_);have hf10:=hs7 h9;refine gU (λ(s7:Unit)=>True) (λk8 T=>?_) (λs7 hs12=>gm (λh21=>gp (uh _ ay) (λy14 h22=>fZ trivial)) (λh21=>lX (λv15 h23=>fZ trivial)));refine gp (Qc _ ) (λy10 h13=>?_);refine gq (λh14=>?_) (λh14=>lN (λh20=>fZ trivial) (λh20=>T _ trivial));refine gU (λ(J:Bool)=>J=false->¬(R.n<1)/\¬(s1<R.n)) (λk12 U=>gm (λh17=>U _ af) (λh17=>U _ af)) (λJ hs16=>?_);refine gq (λg=>fZ trivial) (λg=>?_);have hf19:=hs16 g;exact T _ trivial
theorem OW (kind:Int)  : Ok (λr=>True) (GU kind):=by
 unfold GU;exact gm (λh1=>fZ trivial) (λh1=>gm (λh2=>fZ trivial) (λh2=>gm (λU=>fZ trivial) (λU=>fZ trivial)))
theorem aas (a:wC)(zz_a:Ld a):Ok (λr=>True) (Tv a):=by
 unfold Tv;refine gU (λ(s1:wC)=>True) (λk2 T=>?_) (λs1 hs4=>gm (λh22=>gm (λh23=>lX (λv12 h24=>fZ trivial)) (λh23=>fZ trivial)) (λh22=>fZ trivial));apply gm<;>intro h5
 refine gU (λ(s4:Bool)=>s4=false->¬(a.n<0)/\¬(1000000<a.n)) (λk5 R=>gm (λh8=>R _ af) (λh8=>R _ af)) (λs4 g=>?_);refine gq (λh9=>fZ trivial) (λh9=>?_);have hf10:=g h9;exact T _ trivial
 refine gm (λh11=>?_) (λh11=>gm (λh19=>gp (OW _ ) (λy11 h20=>gq (λh21=>fZ trivial) (λh21=>T _ trivial))) (λh19=>T _ trivial));refine gU (λ(s7:Bool)=>s7=false->¬(99<a.n)/\¬(a.n<1)) (λk8 U=>gm (λC=>U _ af) (λC=>gm (λh15=>U _ af) (λh15=>gp (uh _ ay) (λy10 h16=>U _ af)))) (λs7 J=>?_);refine gq (λI=>fZ trivial) (λI=>?_);have hf18:=J I;exact T _ trivial
theorem Xi (l:List jv)(U:(qL vC) l):Ok (λr=>True) (JR l):=by
 unfold JR;exact gp (AY _ ax) (λT R=>fZ trivial)
theorem Xj (c:oQ):Ok (λr=>True) (JU c):=by
 unfold JU;refine gp (IX c) λy1 h1=>gq (λ_=>fZ trivial) λh=>?_;obtain⟨⟨_,_,R,g⟩,U⟩:=h1.1 bY;obtain⟨X,hX⟩:=Int.eq_ofNat_of_zero_le R;refine Il 0 X (λn t=>t.size<=n) 0 rfl (Nat.zero_le _) ah aH ?_ ?_
 intro i t k hi T hk;unfold Fb;exact gm (λ_=>kR aS λx hx=>hk _ aT) λh=>absurd aC h
 intro t k T;unfold Fb;refine gm (λh=>absurd h aC) λ_=>gU (λs=>s.size<=24) ?_ ?_
 intro k7 I;exact lN (λ_=>gp (wM _) λy hy=>kR aC λx hx=>I _ (by simp only at hx;omega)) λ_=>I _ aC
 intro s hs;refine Il 0 5 (λn t=>t.size<=24+9*n) 0 rfl ah ah ah ?_ ?_
 intro i t k hi T hk;unfold Fa;refine gm (λ_=>?_) λh=>absurd (show (i:Int)<5 by omega) h;have hc:=U i hi;refine ji (λs=>∃ n:Nat,s.2=(n:Int)/\n<=9/\s.1.size<=24+9*i+n) (λs=>10-s.2.toNat) ⟨0,rfl,by omega,by simp only;omega⟩ (by show 10-_<18446744073709551616;omega) ?_
 rintro⟨u,n'⟩ k15 ⟨n,e,hn,hu⟩ hk15
 simp only at e hu;subst e;unfold JS;refine gU (λs=>s=decide ((n:Int)<WY c.color i)) ?_ ?_
 intro k18 J;rcases five hi with rfl|rfl|rfl|rfl|rfl<;>exact WX ah (J _ rfl)
 rintro s rfl
 simp only;refine gm (λh=>?_) λh=>hk _ ah;have e1:=qw (n:=i) ah;have C:=qw (n:=n) ah;rw[e1,C];exact aiX ah ah aS λx hx=>kR ah λy hy=>hk15 _ ⟨n+1,rfl,by omega,by simp only;omega⟩ (by simp only[Int.toNat_natCast];omega)
 intro t k T;unfold Fa;exact gm (λh=>absurd h aC) λ_=>gq (λ_=>fZ trivial) λ_=>fZ trivial
theorem Xk (p:Lj Int)  : Ok (λr=>True) (JV p):=by
 unfold JV;exact fZ trivial
theorem Qd (p:Lj Int)  : Ok (λr=>True) (yY p):=by
 unfold yY;exact gp (Xk _ ) (λT h1=>gp (Xj _ ) (λU h2=>fZ trivial))
theorem Ui (op:Int)(f:jf)(T:kF f):Ok (λr=>True) (Eg op f):=by
 unfold Eg;exact gU (λ(R:Int)=>True) (λk2 U=>gm (λI=>U _ trivial) (λI=>U _ trivial)) (λR C=>gp (uh _ ay) (λy4 h5=>gq (λJ=>fZ trivial) (λJ=>fZ trivial)))
theorem aat (g:iT)(specs:Int)(U:l9 g):Ok (λr=>True) (Tz g specs):=by
 unfold Tz;have z3:g.ref.filter.sub.size<=1048576:=(((U).1));have z6:g.amount.filter.sub.size<=1048576:=(((U).2.1));have z7:g.card.size<=1048576:=(U).2.2.1;have z9:g.filter.sub.size<=1048576:=((U).2.2.2.1);have z10:=((U).2.2.2.2).1;have z11:=((U).2.2.2.2).2;refine gp (Xg _ ) (λy1 h12=>?_);refine gq (λh13=>fZ trivial) (λh13=>?_);refine lX (λv2 h14=>?_);refine gU (λ(s3:Bool)=>True) (λk4 C=>gp (ry _ _ ) (λy6 h17=>gq (λh18=>gp (aar _ _ (by first|assumption|(refine⟨by omega,?_⟩;first|(intro _ _;trivial)|assumption)|(unfold WW;simp_all[F9,qL]))) (λy7 h19=>C _ trivial)) (λh18=>C _ trivial))) (λs3 hs16=>?_);refine gU (λ(s8:Bool)=>s8=false->¬(g.iI=0)) (λk9 T=>gm (λh22=>T _ af) (λh22=>gp (ry _ _ ) (λy11 h23=>gq (λh24=>gm (λh25=>T _ af) (λh25=>T _ af)) (λh24=>T _ af)))) (λs8 hs21=>?_);refine gU (λ(s12:Bool)=>s12=false->¬(g.counter=0)) (λk13 R=>gm (λh28=>R _ af) (λh28=>gp (ry _ _ ) (λy15 h29=>gq (λh30=>gp (OW _ ) (λy16 h31=>R _ af)) (λh30=>R _ af)))) (λs12 hs27=>?_);refine gU (λ(s17:Bool)=>True) (λk18 hk32=>gp (ry _ _ ) (λy20 h34=>gq (λh35=>gp (IY _ az) (λy21 h36=>hk32 _ trivial)) (λh35=>hk32 _ trivial))) (λs17 hs33=>?_);refine lX (λv22 h37=>?_)
 refine gU (λ(s23:Bool)=>True) (λk24 hk38=>gp (ry _ _ ) (λy26 h40=>gq (λh41=>gp (aas _ (by first|assumption|(refine⟨by omega,?_⟩;first|(intro _ _;trivial)|assumption)|(unfold Ld;simp_all[F9,qL]))) (λy27 h42=>hk38 _ trivial)) (λh41=>hk38 _ trivial))) (λs23 hs39=>?_);refine gU (λ(s28:Bool)=>True) (λk29 hk43=>gp (ry _ _ ) (λy31 h45=>gq (λh46=>gp (Xi _ ax) (λy32 h47=>hk43 _ trivial)) (λh46=>hk43 _ trivial))) (λs28 hs44=>?_);refine lX (λv33 h48=>?_);refine gU (λ(s34:Bool)=>True) (λk35 J=>gp (ry _ _ ) (λy37 h51=>gq (λh52=>gq (λh53=>gp (Qd _ ) (λy38 h54=>J _ trivial)) (λh53=>J _ trivial)) (λh52=>J _ trivial))) (λs34 hs50=>?_);refine lX (λv39 h55=>?_);refine gU (λ(s40:Bool)=>True) (λk41 I=>gp (ry _ _ ) (λy43 h58=>gq (λh59=>gp (Ui _ _ ay) (λy44 h60=>I _ trivial)) (λh59=>I _ trivial))) (λs40 hs57=>?_);refine gq (λh61=>?_) (λh61=>fZ trivial);apply gq<;>intro h62
 refine gq (λh63=>gq (λh64=>gq (λh65=>gq (λh66=>gq (λh67=>fZ trivial) (λh67=>fZ trivial)) (λh66=>fZ trivial)) (λh65=>fZ trivial)) (λh64=>fZ trivial)) (λh63=>?_);have hf68:=hs27 h63;exact fZ trivial
 have hf69:=hs21 h62;exact fZ trivial
theorem QP (l:List iT)(n:Int)(U:(qL l9) l):Ok (λr=>True) (BH l n):=by
 unfold BH;have z1:=(U).1;have z2:=(U).2;refine ji (λ(T:Int)=>0<=T/\T<=(l.length:Int)) (λ(T:Int)=>((l.length:Int)-T).toNat) ⟨ae,ae⟩ ak (λT k2 J hk4=>?_);obtain⟨C,g⟩:=J;unfold Eh;apply gm<;>intro h5
 (try simp only[gK] at h5)
 refine jV ae ae (λx4 h6=>?_);have z7:l9 x4:=z2 x4 h6;refine gp (aat _ _ bz) (λy5 h19=>?_);refine gq (λI=>fZ trivial) (λI=>?_);have h21:iL T 1=T+1:=jI ah ah;exact hk4 _ ⟨ae,ae⟩ ae
 (try simp only[gK] at h5)
 apply gm<;>intro R
 (try simp only[gK] at R)
 exact fZ trivial
 (try simp only[gK] at R)
 exact fZ trivial
theorem I4 (a:GAbility)(U:kY a):Ok (λr=>True) (JW a):=by
 unfold JW;have z2:a.filter.sub.size<=1048576:=((U).1);have z3:=((U).2.1).1;have z4:=((U).2.1).2;have z7:a.gG.filter.sub.size<=1048576:=(((U).2.2.1));have z8:=((U).2.2.2.1).1;have z9:=((U).2.2.2.1).2;have z10:=((U).2.2.2.2.1).1;have z11:=((U).2.2.2.2.1).2;have z14:a.replace.filter.sub.size<=1048576:=(((U).2.2.2.2.2));refine gU (λ(s1:Bool)=>s1=false->¬(a.kind<1)/\¬(5<a.kind)) (λk2 hk15=>gm (λh17=>hk15 _ af) (λh17=>hk15 _ af)) (λs1 hs16=>?_);refine gq (λh18=>fZ trivial) (λh18=>?_);have hf19:=hs16 h18;refine gU (λ(s4:Bool)=>s4=false->¬(a.kind=2)/\¬(a.kind=3)/\¬(a.kind=4)) (λk5 T=>gm (λh22=>T _ af) (λh22=>gm (λh23=>T _ af) (λh23=>T _ af))) (λs4 hs21=>?_);refine gU (λ(s7:Unit)=>True) (λk8 I=>?_) (λs7 hs25=>?_)
 apply gm<;>intro h26
 refine gU (λ(s10:Bool)=>s10=false->a.filter.iI=0) (λk11 R=>gp (uh _ ay) (λy13 h29=>gq (λh30=>R _ af) (λh30=>lN (λh31=>R _ af) (λh31=>gp (AY _ ax) (λy14 h32=>R _ af))))) (λs10 hs28=>?_);refine gq (λh33=>fZ trivial) (λh33=>?_);have hf34:=hs28 h33;exact I _ trivial
 refine gU (λ(s15:Bool)=>s15=false->¬(0<(a.jY.length:Int))) (λk16 hk35=>lX (λv18 h37=>gq (λh38=>hk35 _ af) (λh38=>hk35 _ af))) (λs15 hs36=>?_);refine gq (λh39=>fZ trivial) (λh39=>?_);have hf40:=hs36 h39;exact I _ trivial
 refine gU (λ(s19:Unit)=>True) (λk20 hk41=>gm (λh43=>gp (UE _ ) (λy22 h44=>gq (λh45=>fZ trivial) (λh45=>hk41 _ trivial))) (λh43=>gU (λ(s23:Bool)=>True) (λk24 C=>lX (λv26 h48=>gq (λh49=>C _ trivial) (λh49=>C _ trivial))) (λs23 hs47=>gq (λh50=>fZ trivial) (λh50=>hk41 _ trivial)))) (λs19 hs42=>?_);refine gU (λ(s27:Unit)=>True) (λk28 g=>gm (λh53=>gp (aap _ (by first|assumption|(refine⟨by omega,?_⟩;first|(intro _ _;trivial)|assumption)|(unfold ED;simp_all[F9,qL]))) (λy30 h54=>gq (λh55=>fZ trivial) (λh55=>g _ trivial))) (λh53=>gU (λ(s31:Bool)=>True) (λk32 J=>lX (λv34 h58=>gq (λh59=>J _ trivial) (λh59=>J _ trivial))) (λs31 hs57=>gq (λh60=>fZ trivial) (λh60=>g _ trivial)))) (λs27 hs52=>?_);refine gU (λ(s35:Unit)=>True) (λk36 hk61=>gm (λh63=>gp (aaq _ bu) (λy38 h64=>gq (λh65=>fZ trivial) (λh65=>hk61 _ trivial))) (λh63=>lX (λv39 h66=>gq (λh67=>fZ trivial) (λh67=>hk61 _ trivial)))) (λs35 hs62=>?_);refine gq (λh68=>gU (λ(s40:Bool)=>True) (λk41 hk69=>gp (UH _ ax) (λy43 h71=>gq (λh72=>gp (QP _ _ ax) (λy44 h73=>hk69 _ trivial)) (λh72=>hk69 _ trivial))) (λs40 hs70=>fZ trivial)) (λh68=>?_);have hf74:=hs21 h68
 apply gm<;>intro h75
 (try simp only[gK] at h75)
 exact fZ trivial
 (try simp only[gK] at h75)
 exact fZ trivial
theorem Xl (c:GCard)(U:lT c):Ok (λr=>True) (JY c):=by
 unfold JY;exact gm (λT=>fZ trivial) (λT=>fZ trivial)
end Go.Proofs.YtchmoabpofnbaaaGreat
