import Derived.Test.YtlacmdnhabblcaaGreatB26
set_option linter.all false
namespace Go.Proofs.YtlacmdnhabblcaaGreat
open Go Go.Pv
set_option maxRecDepth 100000
def A7 (x:wu):Prop:=(rO Me) x.subs
def mY (x:jI):Prop:=Me x.name/\A7 x.line/\(rO ny) x.jO
def SW (n:Nat)(l:List ByteArray):Prop:=l.length=n/\n<=100/\∀ x∈l,x.size<=100
theorem SW.sz {n:Nat}{l:List ByteArray}(h:SW n l):rO Me l:=⟨by have:=h.1;have:=h.2.1;omega,λx hx=>by have:=h.2.2 x hx;show x.size<=1048576;omega⟩
def WL (n:Nat)(l:List ByteArray):Prop:=l.length<=n/\∀ x∈l,x.size<=140737488360000
theorem WL.add {n:Nat}{l:List ByteArray}{x:ByteArray}(h:WL n l)(hx:x.size<=140737488360000):WL (n+1) (l++[x]):=⟨by have:=h.1;simp;omega,λy hy=>by
 rcases List.mem_append.1 hy with hy|hy
 exact h.2 y hy
 rw[List.mem_singleton.1 hy];exact hx⟩
theorem WL.mono {n m:Nat}{l:List ByteArray}(h:WL n l)(U:n<=m):WL m l:=⟨by have:=h.1;omega,h.2⟩
theorem aa1:ny G6:=by
 simp[ny,oC,DY,xE,Me,rO,G6,qL,GZ,G5,oZ]
theorem ZZ (n:Int):0<=IntKind.u64.wrap n/\IntKind.u64.wrap n<18446744073709551616:=by rw[IntKind.wrap_u64];omega
theorem u64q {x:Int}(h0:0<=x)(h1:x<18446744073709551616):IntKind.u64.wrap (x.tdiv 10)=x / 10:=by
 rw[Int.tdiv_eq_ediv_of_nonneg h0,IntKind.wrap_u64];omega
theorem LJ (a:List nN)(b:List nN)(T:(rO qZ) a)(U:(rO qZ) b):Ok (λr=>True) (yQ a b):=by
 unfold yQ;have z1:=(T).1;have z2:=(T).2;have z3:=(U).1;have z4:=(U).2;refine lI (λh5=>?_) (λh5=>?_)
 (try simp only[iV] at h5)
 exact iK trivial
 (try simp only[iV] at h5)
 refine kW (λ(R:Int)=>0<=R/\R<=(a.length:Int)) (λ(R:Int)=>((a.length:Int)-R).toNat) ⟨ae,ae⟩ ak (λR k2 g hk7=>?_);obtain⟨hI6_0,hI6_1⟩:=g;unfold FO;apply iJ<;>intro h8
 (try simp only[iV] at h8)
 refine mM ae ae (λI h9=>?_);have z10:qZ I:=z2 I h9;have z11:I.sub.size<=1048576:=(z10).1;have z12:=(z10).2;have z13:I.filter.sub.size<=1048576:=((z10).2);refine mM ae ae (λC h14=>?_);have J:qZ C:=z4 C h14;have z16:C.sub.size<=1048576:=(J).1;have z17:=(J).2;have z18:C.filter.sub.size<=1048576:=((J).2);refine nO (λv6 h19=>?_);apply iR<;>intro h20
 exact gQ
 have h21:jq R 1=R+1:=lN ai ai;exact hk7 _ ⟨ae,ae⟩ ae
 (try simp only[iV] at h8)
 exact iK trivial
theorem aa2 (a:jX)(b:jX)(T:pK a)(U:pK b):Ok (λr=>True) (PD a b):=by
 unfold PD;have z1:=(T).1;have z2:=((T).1);have z3:a.ref.filter.sub.size<=1048576:=(((T).1));have z4:=(T).2.1;have z5:=((T).2.1);have z6:a.amount.filter.sub.size<=1048576:=(((T).2.1));have z7:a.card.size<=1048576:=(T).2.2.1;have z8:=(T).2.2.2.1;have z9:a.filter.sub.size<=1048576:=((T).2.2.2.1);have z10:=((T).2.2.2.2).1;have z11:=((T).2.2.2.2).2;have z12:=(U).1;have C:=((U).1);have z14:b.ref.filter.sub.size<=1048576:=(((U).1));have g:=(U).2.1;have z16:=((U).2.1);have z17:b.amount.filter.sub.size<=1048576:=(((U).2.1));have J:b.card.size<=1048576:=(U).2.2.1;have z19:=(U).2.2.2.1;have z20:b.filter.sub.size<=1048576:=((U).2.2.2.1);have z21:=((U).2.2.2.2).1;have z22:=((U).2.2.2.2).2;apply iJ<;>intro h23
 refine nO (λv1 h24=>?_);apply iR<;>intro I
 refine nO (λv2 h26=>?_);apply iR<;>intro h27
 apply iJ<;>intro h28
 apply iJ<;>intro h29
 apply iR<;>intro h30
 refine nO (λv3 h31=>?_);apply iR<;>intro h32
 refine nO (λv4 h33=>?_);apply iR<;>intro h34
 refine iO (LJ _ _ ax ax) (λy5 R=>?_);exact iK trivial
 exact gQ
 exact gQ
 exact gQ
 exact gQ
 exact gQ
 exact gQ
 exact gQ
 exact gQ
theorem U8 (a:List jX)(b:List jX)(T:(rO pK) a)(U:(rO pK) b):Ok (λr=>True) (BH a b):=by
 unfold BH;have z1:=(T).1;have z2:=(T).2;have z3:=(U).1;have z4:=(U).2;refine lI (λh5=>?_) (λh5=>?_)
 (try simp only[iV] at h5)
 exact iK trivial
 (try simp only[iV] at h5)
 refine kW (λ(R:Int)=>0<=R/\R<=(a.length:Int)) (λ(R:Int)=>((a.length:Int)-R).toNat) ⟨ae,ae⟩ ak (λR k2 hI6 g=>?_);obtain⟨hI6_0,hI6_1⟩:=hI6;unfold FP;apply iJ<;>intro h8
 (try simp only[iV] at h8)
 refine mM ae ae (λJ h9=>?_);have z10:pK J:=z2 J h9;have z11:=(z10).1;have z12:=((z10).1);have z13:J.ref.filter.sub.size<=1048576:=(((z10).1));have z14:=(z10).2.1;have z15:=((z10).2.1);have z16:J.amount.filter.sub.size<=1048576:=(((z10).2.1));have z17:J.card.size<=1048576:=(z10).2.2.1;have z18:=(z10).2.2.2.1;have z19:J.filter.sub.size<=1048576:=((z10).2.2.2.1);have z20:=((z10).2.2.2.2).1;have z21:=((z10).2.2.2.2).2;refine mM ae ae (λI C=>?_);have z23:pK I:=z4 I C;have z24:=(z23).1;have z25:=((z23).1);have z26:I.ref.filter.sub.size<=1048576:=(((z23).1));have z27:=(z23).2.1;have z28:=((z23).2.1);have z29:I.amount.filter.sub.size<=1048576:=(((z23).2.1));have z30:I.card.size<=1048576:=(z23).2.2.1;have z31:=(z23).2.2.2.1;have z32:I.filter.sub.size<=1048576:=((z23).2.2.2.1);have z33:=((z23).2.2.2.2).1;have z34:=((z23).2.2.2.2).2;refine iO (aa2 _ _ aW aW) (λy6 h35=>?_);apply iR<;>intro h36
 exact gQ
 have h37:jq R 1=R+1:=lN ai ai;exact g _ ⟨ae,ae⟩ ae
 (try simp only[iV] at h8)
 exact iK trivial
theorem aa3 (a:kF)(b:kF)(T:ny a)(U:ny b):Ok (λr=>True) (PG a b):=by
 unfold PG;have z1:=(T).1;have z2:a.filter.sub.size<=1048576:=((T).1);have z3:=((T).2.1).1;have z4:=((T).2.1).2;have z5:=(T).2.2.1;have z6:=((T).2.2.1);have z7:a.jg.filter.sub.size<=1048576:=(((T).2.2.1));have z8:=((T).2.2.2.1).1;have z9:=((T).2.2.2.1).2;have z10:=((T).2.2.2.2.1).1;have z11:=((T).2.2.2.2.1).2;have z12:=(T).2.2.2.2.2;have z13:=((T).2.2.2.2.2);have z14:a.replace.filter.sub.size<=1048576:=(((T).2.2.2.2.2));have z15:=(U).1;have z16:b.filter.sub.size<=1048576:=((U).1);have z17:=((U).2.1).1;have z18:=((U).2.1).2;have z19:=(U).2.2.1;have z20:=((U).2.2.1);have z21:b.jg.filter.sub.size<=1048576:=(((U).2.2.1));have z22:=((U).2.2.2.1).1;have z23:=((U).2.2.2.1).2;have z24:=((U).2.2.2.2.1).1;have z25:=((U).2.2.2.2.1).2;have z26:=(U).2.2.2.2.2;have z27:=((U).2.2.2.2.2);have z28:b.replace.filter.sub.size<=1048576:=(((U).2.2.2.2.2));refine lI (λR=>?_) (λR=>?_)
 (try simp only[iV] at R)
 exact iK trivial
 (try simp only[iV] at R)
 refine kW (λ(J:Int)=>0<=J/\J<=(a.specs.length:Int)) (λ(J:Int)=>((a.specs.length:Int)-J).toNat) ⟨ae,ae⟩ ak (λJ k2 I g=>?_);obtain⟨hI30_0,hI30_1⟩:=I;unfold PE;apply iJ<;>intro C
 (try simp only[iV] at C)
 refine mM ae ae (λx4 h33=>?_);have z34:EE x4:=z9 x4 h33;have z35:=(z34);have z36:x4.filter.sub.size<=1048576:=((z34));refine mM ae ae (λx5 h37=>?_);have z38:EE x5:=z23 x5 h37;have z39:=(z38);have z40:x5.filter.sub.size<=1048576:=((z38));refine nO (λv6 h41=>?_);apply iR<;>intro h42
 exact gQ
 have h43:jq J 1=J+1:=lN ai ai;exact g _ ⟨ae,ae⟩ ae
 (try simp only[iV] at C)
 apply iJ<;>intro h44
 refine nO (λv7 h45=>?_);apply iR<;>intro h46
 refine iO (LJ _ _ ax ax) (λy8 h47=>?_);apply iR<;>intro h48
 refine nO (λv9 h49=>?_);apply iR<;>intro h50
 apply iR<;>intro h51
 refine nO (λv10 h52=>?_);apply iR<;>intro h53
 apply iR<;>intro h54
 refine iO (U8 _ _ ax ax) (λy11 h55=>?_);apply iR<;>intro h56
 refine nO (λv12 h57=>?_);exact iK trivial
 exact gQ
 exact gQ
 exact gQ
 exact gQ
 exact gQ
 exact gQ
 exact gQ
 exact gQ
theorem Cb (l:List Int)(U:(rO (λ(_:Int)=>True)) l):Ok (λr=>r=l) (BG l):=by
 unfold BG;have z1:=(U).1;refine jG ae ae ?_;exact iK rfl
theorem mV (n:Int)(least:Int)(most:Int)  : Ok (λr=>True) (vT n least most):=by
 unfold vT;apply iJ<;>intro h1
 exact gQ
 exact gQ
theorem oU (s:iT)(p:Int)(U:kQ s):Ok (λr=>True) (pF s p):=by
 unfold pF;have z1:=((U).1).1;have z2:=((U).1).2;have z3:=((U).2.1).1;have z4:=((U).2.2.1).1;have z5:=((U).2.2.2.1).1;have z6:=((U).2.2.2.2.1).1;have z7:=((U).2.2.2.2.1).2;have z8:=((U).2.2.2.2.2.1).1;have z9:=((U).2.2.2.2.2.1).2;have z10:=((U).2.2.2.2.2.2.1).1;have z11:=((U).2.2.2.2.2.2.1).2;have z12:=((U).2.2.2.2.2.2.2).1;refine iO (mV _ _ _ ) (λy1 T=>?_);exact iK trivial
theorem DZ (c:oH):Ok (λr=>r=true↔isC c) (FM c):=by
 unfold FM;refine jf (λs=>s=decide (c.generic<0\/99<c.generic\/c.x<0\/2<c.x)) ?_ ?_
 exact iG
 rintro s rfl
 refine iJ (λh=>iK ⟨λh=>bJ,λhC=>by have:=hC.1;omega⟩) λh0=>?_;refine lH 0 5 (λn=>∀ j,j<n->0<=EP c.color j/\EP c.color j<=9) 0 rfl ai ai (λj h=>by omega) ?_ ?_
 intro i k hi hI hk;unfold G7;refine iJ (λ_=>jf (λs=>s=decide (EP c.color i<0\/9<EP c.color i)) ?_ ?_) λh=>absurd (show (i:Int)<5 by omega) h
 intro k6 U
 rcases five hi with rfl|rfl|rfl|rfl|rfl <;>
  exact yS ai (iJ (λh=>U _ eP) λh=>yS ai (U _ eP))
 rintro s rfl
 refine iJ (λh=>iK ?_) λh=>hk λj hj=>?_
 refine⟨λh=>bJ,λhC=>?_⟩;have:=hC.2 i hi;omega
 by_cases e:j=i
 subst e;omega
 exact hI j ai
 intro k hI;unfold G7;exact iJ (λh=>absurd h ai) λ_=>iK ⟨λ_=>⟨by omega,hI⟩,λ_=>rfl⟩
theorem VP (c:Int)  : Ok (λr=>True) (QA c):=by
 unfold QA;apply iJ<;>intro h1
 exact gQ
 exact gQ
theorem NF (s:ByteArray)(g:Me s):Ok (λr=>True) (Rx s):=by
 unfold Rx;have z1:s.size<=1048576:=g;refine jf (λ(s1:Bool)=>s1=false->¬((s.size:Int)<1)/\¬(32<(s.size:Int))) (λk2 R=>?_) (λs1 hs3=>?_)
 apply iJ<;>intro h4
 exact R _ af
 apply iJ<;>intro h5
 exact R _ af
 refine JW ae ae (λx4 h6=>?_);refine iO (VP _ ) (λy5 h7=>?_);apply iR<;>intro h8
 exact R _ af
 have h9:jS (s.size:Int) 1=(s.size:Int)-1:=qW bn bn;refine JW ae ae (λx6 h10=>?_);exact R _ af
 apply iR<;>intro h11
 exact gQ
 have hf12:=hs3 h11;refine kW (λ(J:Int)=>0<=J/\J<=(s.size:Int)) (λ(J:Int)=>((s.size:Int)-J).toNat) ⟨ae,ae⟩ ak (λJ k8 I C=>?_);obtain⟨hI13_0,hI13_1⟩:=I;unfold U1;apply iJ<;>intro h15
 refine jf (λ(s10:Bool)=>True) (λk11 U=>?_) (λs10 hs17=>?_)
 refine JW ae ae (λx13 h18=>?_);refine iO (VP _ ) (λy14 h19=>?_);apply iR<;>intro h20
 refine JW ae ae (λx15 h21=>?_);apply iJ<;>intro h22
 refine JW ae ae (λx16 h23=>?_);exact U _ trivial
 refine JW ae ae (λx17 h24=>?_);apply iJ<;>intro h25
 refine JW ae ae (λx18 h26=>?_);exact U _ trivial
 exact U _ trivial
 exact U _ trivial
 apply iR<;>intro h27
 exact gQ
 refine jf (λ(s19:Bool)=>True) (λk20 T=>?_) (λs19 hs29=>?_)
 apply iJ<;>intro h30
 refine JW ae ae (λx22 h31=>?_);apply iJ<;>intro h32
 have h33:jS J 1=J-1:=qW bn bn;refine JW ae ae (λx23 h34=>?_);exact T _ trivial
 exact T _ trivial
 exact T _ trivial
 apply iR<;>intro h35
 exact gQ
 have h36:jq J 1=J+1:=lN ai ai;exact C _ ⟨ae,ae⟩ ae
 exact gQ
theorem JX (l:List ByteArray)(s:ByteArray)(U:(rO Me) l)(R:Me s):Ok (λr=>True) (Dz l s):=by
 unfold Dz;have z1:=(U).1;have z2:=(U).2;have z3:s.size<=1048576:=R;refine kW (λ(T:Int)=>0<=T/\T<=(l.length:Int)) (λ(T:Int)=>((l.length:Int)-T).toNat) ⟨ae,ae⟩ ak (λT k2 I g=>?_);obtain⟨C,hI4_1⟩:=I;unfold Nh;apply iJ<;>intro h6
 (try simp only[iV] at h6)
 refine mM ae ae (λJ h7=>?_);have z8:Me J:=z2 J h7;have z9:J.size<=1048576:=z8;apply iR<;>intro h10
 exact gQ
 have h11:jq T 1=T+1:=lN ai ai;exact g _ ⟨ae,ae⟩ ae
 (try simp only[iV] at h6)
 exact iK trivial
theorem RD   : Ok (λr=>SW 2 r) (yf ):=by
 unfold yf;exact iK bC
theorem Jw   : Ok (λr=>SW 6 r) (wX ):=by
 unfold wX;exact iK bC
theorem zF (s:ByteArray)(U:Me s):Ok (λr=>True) (yO s):=by
 unfold yO;have z1:s.size<=1048576:=U;refine iO (NF _ aG) (λy1 h2=>?_);apply iR<;>intro g
 refine iO (RD  ) (λy2 J=>?_);refine iO (JX _ _ dI aG) (λy3 C=>?_);apply iJ<;>intro T
 refine iO (Jw  ) (λy4 I=>?_);refine iO (JX _ _ dI aG) (λy5 R=>?_);exact iK trivial
 exact gQ
 exact gQ
theorem PM (mask:Int)(i:Int)(hi:i<=100):Ok (λr=>True) (Nj mask i):=by
 unfold Nj;refine kW (λ(U:Int×Int)=>0<=U.2) (λ(U:Int×Int)=>(i-U.2).toNat) ae ak (λU k2 R T=>?_);unfold Ry;apply iJ<;>intro h3
 refine wZ aQ (λC I=>?_);have g:jq U.2 1=U.2+1:=lN ai ai;exact T _ ae ae
 refine vU aQ (λx5 J=>?_);exact iK trivial
theorem Yg (l:wu)(J:A7 l):Ok (λr=>True) (JP l):=by
 unfold JP;have z1:=((J)).1;have z2:=((J)).2;refine jf (λ(s1:Bool)=>s1=false->¬(3<l.OV)/\¬(63<l.types)/\¬(l.OV<0)/\¬(l.types<1)/\¬(4<(l.subs.length:Int))) (λk2 U=>?_) (λs1 hs4=>?_)
 apply iJ<;>intro h5
 exact U _ af
 apply iJ<;>intro h6
 exact U _ af
 apply iJ<;>intro h7
 exact U _ af
 apply iJ<;>intro h8
 exact U _ af
 exact U _ af
 apply iR<;>intro h9
 exact gQ
 have hf10:=hs4 h9;refine kW (λ(R:Int)=>0<=R/\R<=(l.subs.length:Int)) (λ(R:Int)=>((l.subs.length:Int)-R).toNat) ⟨ae,ae⟩ ak (λR k5 g C=>?_);obtain⟨hI11_0,hI11_1⟩:=g;unfold U3;apply iJ<;>intro I
 (try simp only[iV] at I)
 refine jf (λ(s7:Bool)=>True) (λk8 T=>?_) (λs7 hs15=>?_)
 refine mM ae ae (λx10 h16=>?_);have z17:Me x10:=z2 x10 h16;have z18:x10.size<=1048576:=z17;refine iO (zF _ aG) (λy11 h19=>?_);apply iR<;>intro h20
 exact T _ trivial
 apply iJ<;>intro h21
 have h22:jS R 1=R-1:=qW bn bn;refine mM ae ae (λx12 h23=>?_);have z24:Me x12:=z2 x12 h23;have z25:x12.size<=1048576:=z24;refine mM ae ae (λx13 h26=>?_);have z27:Me x13:=z2 x13 h26;have z28:x13.size<=1048576:=z27;exact T _ trivial
 exact T _ trivial
 apply iR<;>intro h29
 exact gQ
 have h30:jq R 1=R+1:=lN ai ai;exact C _ ⟨ae,ae⟩ ae
 (try simp only[iV] at I)
 apply iJ<;>intro h31
 exact gQ
 apply iJ<;>intro h32
 exact gQ
 refine iO (PM _ _ ae) (λy14 h33=>?_);apply iR<;>intro h34
 refine iO (PM _ _ ae) (λy15 h35=>?_);exact iK trivial
 exact gQ
theorem Yh (mask:Int)  : Ok (λr=>True) (OW mask):=by
 unfold OW;apply iJ<;>intro h1
 exact gQ
 exact gQ
theorem LK (c:jI)(U:mY c):Ok (λr=>True) (Bi c):=by
 unfold Bi;have z1:c.name.size<=1048576:=(U).1;have z2:=(U).2.1;have z3:=(((U).2.1)).1;have z4:=(((U).2.1)).2;have z5:=((U).2.2).1;have z6:=((U).2.2).2;exact iK trivial
theorem QS (a b most:Int):Ok (λr=>True) (G8 a b most):=by
 unfold G8;refine jf (λ_=>True) ?_ ?_
 intro k h;exact iJ (λ_=>h _ trivial) λ_=>iJ (λ_=>h _ trivial) λ_=>iJ (λ_=>h _ trivial) λ_=>h _ trivial
 intro s _;refine iR (λ_=>iK trivial) λ_=>?_;refine kW (λs=>0<=s.2.2/\s.2.2<=6) (λs=>(6-s.2.2).toNat) ⟨by simp only;omega,by simp only;omega⟩ (by show _<18446744073709551616;simp only;omega) ?_
 rintro⟨x,y,n⟩ k ⟨h0,h1⟩ hk
 simp only at h0 h1;unfold Nk;refine iJ (λh=>jf (λ_=>True) ?_ ?_) λ_=>iK trivial
 intro k6 U;exact vU aQ λ_ _=>iJ (λ_=>vU aQ λ_ _=>U _ trivial) λ_=>U _ trivial
 intro s _;simp only at h |-;rw[lN ai ai];exact iR (λ_=>iK trivial) λ_=>wZ aQ λ_ _=>wZ aQ λ_ _=>hk _ ⟨by simp only;omega,by simp only;omega⟩ aF
theorem JY (b:xX):Ok (λr=>r=true->0<=b.kind/\b.kind<=3) (DC b):=by
 unfold DC;refine jf (λs=>s=false->0<=b.kind/\b.kind<=3) ?_ ?_
 intro k h;exact iJ (λ_=>h _ eG) λh1=>iJ (λ_=>h _ eG) λh2=>iJ (λ_=>h _ eG) λ_=>h _ λ_=>by omega
 intro s hs;exact iR (λ_=>iK eG) λe=>lI (λ_=>iK λ_=>hs e) λ_=>iK λ_=>hs e
def aiH (f:lX):Prop:=(0<=f.jQ/\f.jQ<=5)/\(0<=f.who/\f.who<=2)/\(0<=f.self/\f.self<=2)/\(0<=f.vZ/\f.vZ<=2)/\(0<=f.power.kind/\f.power.kind<=3)/\(0<=f.jE.kind/\f.jE.kind<=3)/\(0<=f.value.kind/\f.value.kind<=3)
theorem uP (f:lX)(U:oC f):Ok (λr=>r=true->aiH f) (Bj f):=by
 unfold Bj;have no:∀ {p:Prop},((false:Bool)=true->p):=λe=>by cases e
 refine jf (λs=>s=false->(0<=f.jQ/\f.jQ<=5)/\(0<=f.who/\f.who<=2)/\(0<=f.self/\f.self<=2)/\(0<=f.vZ/\f.vZ<=2)) ?_ ?_
 ·intro k h
  iterate 7 refine iJ (λ_=>h _ eG) λ_=>?_
  exact h _ λe=>by rw[decide_eq_false_iff_not] at e;omega
 intro s hs;refine iR (λ_=>iK no) λe=>jf (λ_=>True) ?_ ?_
 intro k h;exact iO (QS _ _ _) λ_ _=>iR (λ_=>h _ trivial) λ_=>iO (QS _ _ _) λ_ _=>h _ trivial
 intro s3 _;refine iR (λ_=>iK no) λ_=>jf (λ_=>True) ?_ ?_
 intro k h;refine iR (λ_=>iO (zF _ U) λ_ _=>iR (λ_=>h _ trivial) λ_=>iJ (λ_=>h _ trivial) λ_=>h _ trivial) λ_=>iJ (λ_=>h _ trivial) λ_=>h _ trivial
 intro s7 _;refine iR (λ_=>iK no) λ_=>iO (JY _) λI T=>iR (λe10=>iO (JY _) λg J=>iR (λe11=>iO (JY _) λC R=>iK λe12=>?_) λ_=>iK no) λ_=>iK no;obtain⟨a,b,c,d⟩:=hs e;exact⟨a,b,c,d,T e10,J e11,R e12⟩
theorem TU (m:nN)(U:qZ m):Ok (λr=>True) (OX m):=by
 unfold OX;have z1:m.sub.size<=1048576:=(U).1;have z2:=(U).2;have z3:m.filter.sub.size<=1048576:=((U).2);apply iJ<;>intro h4
 exact gQ
 apply iJ<;>intro h5
 exact gQ
 apply iJ<;>intro g
 exact gQ
 apply iJ<;>intro h7
 exact gQ
 apply iJ<;>intro h8
 exact gQ
 apply iJ<;>intro h9
 exact gQ
 apply iJ<;>intro R
 exact gQ
 apply iJ<;>intro C
 exact gQ
 apply iJ<;>intro J
 exact gQ
 apply iJ<;>intro T
 exact gQ
 apply iJ<;>intro I
 exact gQ
 exact gQ
theorem QT (mask:Int)  : Ok (λr=>True) (Am mask):=by
 unfold Am;apply iJ<;>intro h1
 apply iJ<;>intro h2
 exact gQ
 exact gQ
 exact gQ
theorem RF (m:nN)(U:qZ m):Ok (λr=>True) (JQ m):=by
 unfold JQ;have z1:m.sub.size<=1048576:=(U).1;have z2:=(U).2;have z3:m.filter.sub.size<=1048576:=((U).2);refine jf (λ(I:Bool)=>I=false->¬(14<m.kind)/\¬(m.kind<1)) (λk2 hk4=>?_) (λI T=>?_)
 apply iJ<;>intro h6
 exact hk4 _ af
 apply iJ<;>intro h7
 exact hk4 _ af
 refine iO (TU _ bU) (λy4 h8=>?_);refine nO (λv5 h9=>?_);exact hk4 _ af
 apply iR<;>intro R
 exact gQ
 have J:=T R;apply iJ<;>intro h12
 refine iO (QT _ ) (λy6 g=>?_);exact iK trivial
 apply iJ<;>intro h14
 refine iO (QT _ ) (λy7 h15=>?_);exact iK trivial
 apply iJ<;>intro h16
 refine iO (zF _ aG) (λy8 h17=>?_);exact iK trivial
 apply iJ<;>intro h18
 refine iO (zF _ aG) (λy9 h19=>?_);exact iK trivial
 apply iJ<;>intro h20
 apply iJ<;>intro h21
 exact gQ
 exact gQ
 apply iJ<;>intro h22
 apply iJ<;>intro h23
 exact gQ
 exact gQ
 apply iJ<;>intro h24
 apply iJ<;>intro h25
 exact gQ
 exact gQ
 apply iJ<;>intro h26
 apply iJ<;>intro h27
 exact gQ
 exact gQ
 apply iJ<;>intro h28
 refine iO (uP _ ay) (λy10 h29=>?_);exact iK trivial
 apply iJ<;>intro h30
 apply iJ<;>intro h31
 apply iJ<;>intro h32
 apply iJ<;>intro h33
 exact gQ
 exact gQ
 exact gQ
 exact gQ
 apply iJ<;>intro h34
 apply iJ<;>intro h35
 apply iJ<;>intro C
 apply iJ<;>intro h37
 exact gQ
 exact gQ
 exact gQ
 exact gQ
 exact gQ
theorem Yi (l:List ByteArray)(mask:Int)(U:ByteArray)(n:Nat)(T:SW n l)(hb:U.size<=10):Ok (λr=>r.size<=11000) (Ie l mask U):=by
 unfold Ie;have g:=T.1;have I:=T.2.1;refine ve 0 l.length (λn t=>t.size<=110*n) 0 rfl (Nat.zero_le _) ai aJ ?_ ?_
 intro i t k hi hI hk;unfold Eo;refine iJ (λ_=>jf (λs=>s.size<=110*(i+1)) ?_ λs hs=>hk s hs) λh=>absurd (show (i:Int)<(l.length:Int) by omega) h;intro k5 J;refine iO (PM _ _ aF) λC _=>iR (λ_=>jf (λs=>s.size<=110*i+10) ?_ ?_) λ_=>J _ aF
 intro k9 R;exact iR (λ_=>oG aF λx hx=>R _ (by simp only at hx;omega)) λ_=>R _ aF
 intro s hs;refine mM aF aF λx hx=>oG (by have:=T.2.2 x hx;omega) λy hy=>J _ (by have:=T.2.2 x hx;omega)
 intro t k hI;unfold Eo;exact iJ (λh=>absurd h aB) λ_=>iK aF
theorem Cc (mask:Int):Ok (λr=>r.size<=11000) (uK mask):=by
 unfold uK;exact iJ (λ_=>iK aJ) λ_=>iJ (λ_=>iK aJ) λ_=>iO Jw λy1 h1=>iO (Yi _ _ _ _ h1 aJ) λU h2=>iK h2
theorem aeh (mask:Int)  : Ok (λr=>True) (X5 mask):=by
 unfold X5;apply iJ<;>intro h1
 exact gQ
 exact gQ
theorem NG (i:Int)  : Ok (λr=>r.size<=100) (Ig i):=by
 unfold Ig;apply iJ<;>intro h1
 exact gW
 apply iJ<;>intro h2
 exact gW
 apply iJ<;>intro T
 exact gW
 apply iJ<;>intro R
 exact gW
 apply iJ<;>intro U
 exact gW
 exact gW
theorem TV (mask:Int):Ok (λr=>r.size<=11000) (KQ mask):=by
 unfold KQ;refine iO (aeh _) λy1 _=>iR (λ_=>iK aJ) λ_=>iJ (λ_=>iK aJ) λ_=>?_;refine ve 0 5 (λn t=>t.size<=110*n) 0 rfl ai ai aJ ?_ ?_
 ·intro i t k hi hI hk;unfold Jg;refine iJ (λ_=>jf (λs=>s.size<=110*(i+1)) ?_ λs hs=>hk s hs) λh=>absurd (show (i:Int)<5 by omega) h;intro k5 R;refine am7 aF λJ U=>wZ ?_ λI _=>vU aQ λg _=>iJ (λ_=>jf (λs=>s.size<=110*i+10) ?_ ?_) λ_=>R _ aF
  ·rcases five hi with rfl|rfl|rfl|rfl|rfl
   all_goals
    have:J≠0:=by
     intro e;subst e;revert U;simp only;decide
    exact this
  intro C T;exact iR (λ_=>oG aS λx hx=>T _ aU) λ_=>T _ aF
  intro s hs;exact iO (NG _) λy hy=>oG ai λz hz=>R _ ai
 intro t k hI;unfold Jg;exact iJ (λh=>absurd h aF) λ_=>iK aF
theorem YO   : Ok (λr=>SW 17 r) (KR ):=by
 unfold KR;exact iK bC
theorem TW (i:Int):Ok (λr=>r.size<=100) (KT i):=by
 unfold KT;refine iJ (λ_=>iK aJ) λ_=>iJ (λ_=>iK aJ) λ_=>iO YO λy1 h1=>mM ai (by have:=h1.1;omega) λx hx=>iK (h1.2.2 x hx)
theorem TY (mask:Int):Ok (λr=>r.size<=11000) (KU mask):=by
 unfold KU;refine iO (Yh _) λy1 _=>iR (λ_=>iK aJ) λ_=>?_;refine kW (λs=>∃ n:Nat,s.2.2=(n:Int)/\n<=17/\s.2.1.size<=110*n) (λs=>17-s.2.2.toNat) ⟨0,rfl,by omega,by simp[oZ]⟩ (by show 17-_<18446744073709551616;omega) ?_
 rintro⟨m,t,J⟩ k ⟨n,e,C,ht⟩ hk
 simp only at e ht;subst e;unfold OY;refine iJ (λh=>jf (λs=>s.2.size<=110*(n+1)) ?_ ?_) λh=>iR (λ_=>iK aJ) λ_=>iK aF
 intro k6 R;refine jf (λs=>s.size<=110*(n+1)) ?_ λs hs=>wZ aQ λx _=>R _ hs;intro g T;refine vU aQ λx _=>iJ (λ_=>jf (λs=>s.size<=110*n+10) ?_ ?_) λ_=>T _ aF
 intro k13 U;exact iR (λ_=>oG aS λx hx=>U _ aU) λ_=>U _ aF
 intro s hs;exact iO (TW _) λy hy=>oG ai λz hz=>T _ ai
 rintro⟨I,s2⟩ hs
 simp only at h hs |-;rw[lC ai];exact hk _ ⟨n+1,rfl,by omega,hs⟩ (by simp only[Int.toNat_natCast];omega)
theorem TZ   : Ok (λr=>SW 6 r) (zA ):=by
 unfold zA;exact iK bC
theorem U9   : Ok (λr=>SW 3 r) (Bl ):=by
 unfold Bl;exact iK bC
theorem Ua   : Ok (λr=>SW 3 r) (zB ):=by
 unfold zB;exact iK bC
theorem Va   : Ok (λr=>SW 3 r) (Bo ):=by
 unfold Bo;exact iK bC
theorem yx (l:List ByteArray)(s:ByteArray)(n:Nat)(U:WL n l)(hs:s.size<=140737488360000)(T:n<=1000):Ok (λr=>WL (n+1) r) (Bq l s):=by
 unfold Bq;have:=U.1;exact iR (λ_=>iK (U.mono ai)) λ_=>jG aA aA (iK (U.add hs))
theorem Fp (mask:Int)(i:Int)(hi:i<=100):Ok (λr=>True) (Gi mask i):=by
 unfold Gi;refine kW (λ(U:Int×Int)=>0<=U.2) (λ(U:Int×Int)=>(i-U.2).toNat) ae ak (λU k2 R T=>?_);unfold Rz;apply iJ<;>intro h3
 refine wZ aQ (λC I=>?_);have g:jq U.2 1=U.2+1:=lN ai ai;exact T _ ae ae
 refine vU aQ (λx5 J=>?_);exact iK trivial
theorem LM (i:Int)(hi:i<=100):Ok (λr=>r.size<=11000) (yP i):=by
 unfold yP;refine kW (λ(U:Int×Int)=>0<=U.2) (λ(U:Int×Int)=>(i-U.2).toNat) ae ak (λU k2 R T=>?_);unfold FN;apply iJ<;>intro C
 have J:jq U.2 1=U.2+1:=lN ai ai;exact T _ ae ae
 refine iO (Cc _ ) (λy4 I=>?_);exact iK aK
theorem PN (u:Int)(hu:0<=u/\u<18446744073709551616):Ok (λr=>r.size<=21) (DD u):=by
 obtain⟨h0,h1⟩:=hu;unfold DD;refine vU aQ (λx1 _=>afB (λx2 h2=>wZ aQ (λx3 g=>?_)));rw[u64q h0 h1] at g;refine kW (λs=>∃ k:Nat,s.2.size+k<=21/\0<=s.1/\s.1<10 ^ k) (λs=>s.1.toNat) ⟨20,by simp only;omega,by simp only;omega,by simp only;omega⟩ (by show _<18446744073709551616;simp only;omega) ?_
 rintro⟨a,b⟩ k5 ⟨k,g1,g2,g3⟩ hk
 simp only at g1 g2 g3;unfold JR;refine iJ (λh=>?_) (λ_=>iK aF);simp only at h;have C:k≠0:=by intro e;subst e;simp at g3;omega
 obtain⟨U,rfl⟩:∃ U,k=U+1:=⟨k-1,by omega⟩;have J:(10:Int) ^ (U+1)=10 ^ U*10:=Int.pow_succ 10 U;rw[J] at g3;refine vU aQ (λx6 _=>afB (λx7 h7=>oG aF (λx8 I=>wZ aQ (λT R=>?_))));simp only at I R
 have hq:0<=T/\T<=a / 10:=by
  rw[R,Int.tdiv_eq_ediv_of_nonneg g2,IntKind.wrap_u64];omega
 exact hk _ ⟨U,by simp only;omega,hq.1,by simp only;omega⟩ aF
theorem yT (n:Int)  : Ok (λr=>r.size<=22) (zC n):=by
 unfold zC;apply iJ<;>intro h1
 refine iO (PN _ (ZZ _)) (λy1 h2=>?_);refine oG ae (λR U=>?_);simp only[oZ,List.length_cons,List.length_nil] at U;exact iK aK
 refine iO (PN _ (ZZ _)) (λy3 T=>?_);exact iK aK
theorem YP   : Ok (λr=>SW 4 r) (KW ):=by
 unfold KW;exact iK bC
theorem Ce (name:ByteArray)(b:xX)(g:name.size<=100)(hk:0<=b.kind/\b.kind<=3):Ok (λr=>r.size<=1000) (uM name b):=by
 unfold uM;refine iJ (λ_=>iK aJ) λ_=>iO YP λy1 h1=>mM ai (by have:=h1.1;omega) λT U=>?_;have:=h1.2.2 T U;exact oG ai λC I=>iO (yT _) λy4 R=>oG ai λx5 J=>iK ai
theorem aa4 (l:List ByteArray)(U:ByteArray)(T:WL 200 l)(hb:U.size<=10):Ok (λr=>r.size<=28147497672002000) (OZ l U):=by
 unfold OZ;have I:=T.1;refine ve 0 l.length (λn t=>t.size<=140737488360010*n) 0 rfl (Nat.zero_le _) ai aJ ?_ ?_
 intro i t k hi hI hk;unfold Jh;refine iJ (λ_=>jf (λs=>s.size<=140737488360010*(i+1)) ?_ λs hs=>hk s hs) λh=>absurd (show (i:Int)<(l.length:Int) by omega) h;intro k5 J;refine jf (λs=>s.size<=140737488360010*i+10) ?_ ?_
 intro C R;exact iJ (λ_=>oG aF λx hx=>R _ (by simp only at hx;omega)) λ_=>R _ aF
 intro s hs;refine mM aF aF λx hx=>oG (by have:=T.2 x hx;omega) λy hy=>J _ (by have:=T.2 x hx;omega)
 intro t k hI;unfold Jh;exact iJ (λh=>absurd h aB) λ_=>iK aF
theorem aa5 (f:lX)(I:oC f):Ok (λr=>r.size<=28147497672002000) (O0 f):=by
 have hsub:f.sub.size<=1048576:=I;unfold O0;refine iO (uP f I) λy1 h1=>iR (λ_=>iK aJ) λh=>?_;obtain⟨hz,hw,hs,ht,hp,hq,hv⟩:=h1 bH;refine iO TZ λy2 h2=>iO U9 λy3 h3=>iO Ua λy4 h4=>iO Va λy5 h5=>?_;have l5:=h5.1;refine mM ai (by have:=h2.1;omega) λx6 k6=>iO (yx _ _ 0 ⟨by simp,by simp⟩ (by have:=h2.2.2 x6 k6;omega) ai) λy7 h7=>?_;refine mM ai (by have:=h3.1;omega) λx8 k8=>iO (yx _ _ _ h7 (by have:=h3.2.2 x8 k8;omega) ai) λy9 h9=>?_;refine mM ai (by have:=h4.1;omega) λx10 k10=>iO (yx _ _ _ h9 (by have:=h4.2.2 x10 k10;omega) ai) λy11 h11=>?_;refine lK 0 6 (λn t=>WL (3+n) t) 0 rfl ai ai h11 ?_ ?_
 intro i t k hi hI hk;have g:=hI.1;unfold Jm;refine iJ (λ_=>jf (λs=>WL (3+i+1) s) ?_ λs hs=>hk s hs) λh=>absurd (show (i:Int)<6 by omega) h;intro k16 U;exact iO (Fp _ _ aF) λJ _=>iR (λ_=>iO (LM _ aF) λR T=>jG aA aA (U _ (hI.add ai))) λ_=>U _ (hI.mono ai)
 intro t _ h12;unfold Jm;refine iJ (λh=>absurd h aF) λ_=>?_;refine lK 0 6 (λn t=>WL (9+n) t) 0 rfl ai ai h12 ?_ ?_
 intro i t k hi hI hk;have g:=hI.1;unfold Jl;refine iJ (λ_=>jf (λs=>WL (9+i+1) s) ?_ λs hs=>hk s hs) λh=>absurd (show (i:Int)<6 by omega) h;intro k16 U;exact iO (Fp _ _ aF) λJ _=>iR (λ_=>iO (LM _ aF) λR T=>oG aS λx hx=>jG aA aA (U _ (hI.add aU))) λ_=>U _ (hI.mono ai)
 intro t _ h13;unfold Jl;refine iJ (λh=>absurd h aF) λ_=>?_;refine lK 0 5 (λn t=>WL (15+n) t) 0 rfl ai ai h13 ?_ ?_
 intro i t k hi hI hk;have g:=hI.1;unfold Jk;refine iJ (λ_=>jf (λs=>WL (15+i+1) s) ?_ λs hs=>hk s hs) λh=>absurd (show (i:Int)<5 by omega) h;intro k16 U;exact iO (Fp _ _ aF) λJ _=>iR (λ_=>iO (NG _) λR T=>jG aA aA (U _ (hI.add ai))) λ_=>U _ (hI.mono ai)
 intro t _ h14;unfold Jk;refine iJ (λh=>absurd h aF) λ_=>?_;refine lK 0 5 (λn t=>WL (20+n) t) 0 rfl ai ai h14 ?_ ?_
 intro i t k hi hI hk;have g:=hI.1;unfold Jj;refine iJ (λ_=>jf (λs=>WL (20+i+1) s) ?_ λs hs=>hk s hs) λh=>absurd (show (i:Int)<5 by omega) h;intro k16 U;exact iO (Fp _ _ aF) λJ _=>iR (λ_=>iO (NG _) λR T=>oG aS λx hx=>jG aA aA (U _ (hI.add aU))) λ_=>U _ (hI.mono ai)
 intro t _ C;have hl15:=C.1;unfold Jj;refine iJ (λh=>absurd h aF) λ_=>?_;refine jf (λs=>WL 26 s) ?_ ?_
 intro k h;exact iR (λ_=>oG aS λx hx=>jG aA aA (h _ (C.add aU))) λ_=>h _ (C.mono ai)
 intro s46 U;refine lK 0 17 (λn t=>WL (26+n) t) 0 rfl ai ai U ?_ ?_
 intro i t k hi hI hk;have g:=hI.1;unfold Ji;refine iJ (λ_=>jf (λs=>WL (26+i+1) s) ?_ λs hs=>hk s hs) λh=>absurd (show (i:Int)<17 by omega) h;intro k16 U;exact iO (Fp _ _ aF) λJ _=>iR (λ_=>iO (TW _) λR T=>oG aS λx hx=>jG aA aA (U _ (hI.add aU))) λ_=>U _ (hI.mono ai)
 intro t _ h17;unfold Ji;refine iJ (λh=>absurd h aF) λ_=>?_;refine mM ai ai λx48 k48=>iO (yx _ _ _ h17 (by have:=h5.2.2 x48 k48;omega) ai) λy49 h49=>?_;refine iO (Ce _ _ aJ hp) λy50 h50=>iO (yx _ _ _ h49 ai ai) λy51 h51=>?_;refine iO (Ce _ _ aJ hq) λy52 h52=>iO (yx _ _ _ h51 ai ai) λy53 h53=>?_;refine iO (Ce _ _ aJ hv) λy54 h54=>iO (yx _ _ _ h53 ai ai) λy55 h55=>?_;exact iJ (λ_=>iK aJ) λ_=>iO (aa4 _ _ (h55.mono ai) aJ) λy56 h56=>iK h56
theorem aa6 (m:nN)(U:qZ m):Ok (λr=>r.size<=28147497672100000) (O1 m):=by
 unfold O1;have z1:m.sub.size<=1048576:=(U).1;have z2:=(U).2;have z3:m.filter.sub.size<=1048576:=((U).2);refine iO (RF _ bU) (λy1 h4=>?_);apply iR<;>intro h5
 exact iK aK
 apply iJ<;>intro h6
 exact iK aK
 apply iJ<;>intro h7
 refine iO (Cc _ ) (λy2 h8=>?_);refine oG ae (λx3 h9=>?_);simp only[oZ,List.length_cons,List.length_nil] at h9;exact iK aK
 apply iJ<;>intro h10
 refine iO (Cc _ ) (λy4 h11=>?_);refine oG ae (λx5 I=>?_);simp only[oZ,List.length_cons,List.length_nil] at I;exact iK aK
 apply iJ<;>intro h13
 refine oG ae (λx6 J=>?_);simp only[oZ,List.length_cons,List.length_nil] at J;exact iK aK
 apply iJ<;>intro h15
 refine oG ae (λx7 h16=>?_);simp only[oZ,List.length_cons,List.length_nil] at h16;exact iK aK
 apply iJ<;>intro h17
 refine iO (TV _ ) (λy8 h18=>?_);refine oG ae (λx9 R=>?_);simp only[oZ,List.length_cons,List.length_nil] at R;exact iK aK
 apply iJ<;>intro h20
 refine iO (TV _ ) (λy10 h21=>?_);refine oG ae (λx11 h22=>?_);simp only[oZ,List.length_cons,List.length_nil] at h22;exact iK aK
 apply iJ<;>intro h23
 refine iO (TY _ ) (λy12 h24=>?_);refine oG ae (λx13 h25=>?_);simp only[oZ,List.length_cons,List.length_nil] at h25;exact iK aK
 apply iJ<;>intro h26
 refine iO (TY _ ) (λy14 h27=>?_);refine oG ae (λx15 C=>?_);simp only[oZ,List.length_cons,List.length_nil] at C;exact iK aK
 apply iJ<;>intro h29
 exact iK aK
 apply iJ<;>intro h30
 refine iO (aa5 _ ay) (λy16 h31=>?_);refine oG ae (λx17 g=>?_);simp only[oZ,List.length_cons,List.length_nil] at g;refine oG ae (λx18 h33=>?_);simp only[oZ,List.length_cons,List.length_nil] at h33;exact iK aK
 apply iJ<;>intro h34
 refine iO (yT _ ) (λy19 h35=>?_);refine oG ae (λx20 T=>?_);simp only[oZ,List.length_cons,List.length_nil] at T;refine oG ae (λx21 h37=>?_);simp only[oZ,List.length_cons,List.length_nil] at h37;refine iO (yT _ ) (λy22 h38=>?_);refine oG ae (λx23 h39=>?_);exact iK aK
 apply iJ<;>intro h40
 refine iO (yT _ ) (λy24 h41=>?_);refine oG ae (λx25 h42=>?_);simp only[oZ,List.length_cons,List.length_nil] at h42;refine oG ae (λx26 h43=>?_);simp only[oZ,List.length_cons,List.length_nil] at h43;refine iO (yT _ ) (λy27 h44=>?_);refine oG ae (λx28 h45=>?_);exact iK aK
 exact iK aK
theorem D5 (l:List nN)(U:(rO qZ) l):Ok (λr=>True) (wB l):=by
 unfold wB;refine jf (λs=>s=false->l.length<=6) ?_ ?_
 intro k h;exact iJ (λ_=>h _ eG) λ_=>h _ λe=>by rw[decide_eq_false_iff_not] at e;unfold iV at e;omega
 intro s hs;refine iR (λ_=>iK trivial) λe=>?_;have C:=hs e;refine ve 0 l.length (λn t=>t.size<=28147497672200000*n) 0 rfl (Nat.zero_le _) ai aJ ?_ ?_
 intro i t k hi hI hk;unfold zK;refine iJ (λ_=>jf (λs=>s.size<=28147497672200000*(i+1)) ?_ λs hs=>hk s hs) λh=>absurd (show (i:Int)<(l.length:Int) by omega) h;intro k8 J;refine mM aF aF λI R=>iO (RF _ (U.2 I R)) λg _=>iR (λ_=>iK trivial) λ_=>jf (λs=>s.size<=28147497672200000*i+2) ?_ ?_
 intro k13 T;exact iJ (λ_=>oG aS λx hx=>T _ aU) λ_=>T _ aF
 intro s hs;exact mM aF aF λx hx=>iO (aa6 _ (U.2 x hx)) λy hy=>oG ai λz hz=>J _ ai
 intro t k hI;unfold zK;exact iJ (λh=>absurd h aB) λ_=>iK trivial
theorem YQ (p:uh)  : Ok (λr=>True) (KX p):=by
 unfold KX;refine iO (DZ _ ) (λy1 h1=>?_);apply iR<;>intro h2
 apply iJ<;>intro U
 apply iJ<;>intro T
 exact gQ
 exact gQ
 exact gQ
 exact gQ
theorem Ub (when:Int)  : Ok (λr=>True) (KY when):=by
 unfold KY;apply iJ<;>intro h1
 exact gQ
 apply iJ<;>intro h2
 exact gQ
 apply iJ<;>intro h3
 exact gQ
 apply iJ<;>intro h4
 exact gQ
 apply iJ<;>intro h5
 exact gQ
 apply iJ<;>intro C
 exact gQ
 apply iJ<;>intro h7
 exact gQ
 apply iJ<;>intro h8
 exact gQ
 apply iJ<;>intro g
 exact gQ
 apply iJ<;>intro T
 exact gQ
 apply iJ<;>intro I
 exact gQ
 apply iJ<;>intro R
 exact gQ
 apply iJ<;>intro U
 exact gQ
 apply iJ<;>intro J
 exact gQ
 exact gQ
theorem PO (when:Int)  : Ok (λr=>True) (DF when):=by
 unfold DF;apply iJ<;>intro h1
 exact gQ
 apply iJ<;>intro h2
 exact gQ
 apply iJ<;>intro T
 exact gQ
 apply iJ<;>intro R
 exact gQ
 apply iJ<;>intro U
 exact gQ
 exact gQ
theorem Uc (when:Int)  : Ok (λr=>True) (zD when):=by
 unfold zD;refine iO (Ub _ ) (λy1 h1=>?_);apply iR<;>intro h2
 refine iO (PO _ ) (λU T=>?_);apply iR<;>intro R
 exact gQ
 exact gQ
 exact gQ
theorem aei (t:xY)(T:DY t):Ok (λr=>True) (X6 t):=by
 unfold X6;have z1:=(T);have z2:t.filter.sub.size<=1048576:=((T));refine jf (λ(g:Bool)=>g=false->¬(2<t.who)/\¬(t.who<0)) (λk2 U=>?_) (λg J=>?_)
 refine iO (Ub _ ) (λy4 h5=>?_);apply iR<;>intro h6
 exact U _ af
 apply iJ<;>intro h7
 exact U _ af
 apply iJ<;>intro h8
 exact U _ af
 refine iO (PO _ ) (λy5 h9=>?_);apply iR<;>intro h10
 exact U _ af
 exact U _ af
 apply iR<;>intro I
 exact gQ
 have hf12:=J I;refine iO (Uc _ ) (λy6 h13=>?_);apply iR<;>intro h14
 refine nO (λv7 h15=>?_);exact iK trivial
 refine jf (λ(s8:Int)=>True) (λk9 R=>?_) (λs8 C=>?_)
 apply iJ<;>intro h18
 exact R _ trivial
 exact R _ trivial
 refine iO (uP _ ay) (λy11 h19=>?_);apply iR<;>intro h20
 exact gQ
 exact gQ
theorem JZ (f:lX)(U:oC f):Ok (λr=>True) (DI f):=by
 unfold DI;have z1:f.sub.size<=1048576:=(U);refine iO (uP _ ay) (λy1 h2=>?_);apply iR<;>intro T
 exact gQ
 exact gQ
theorem YR (R:rf)(U:xE R):Ok (λr=>True) (KZ R):=by
 unfold KZ;have z1:=(U);have z2:R.filter.sub.size<=1048576:=((U));refine jf (λ(I:Bool)=>I=false->R.who=0) (λk2 T=>?_) (λI J=>?_)
 refine lI (λh5=>?_) (λh5=>?_)
 exact T _ af
 refine iO (JZ _ ay) (λy4 h6=>?_);exact T _ af
 apply iR<;>intro h7
 exact gQ
 have hf8:=J h7;apply iJ<;>intro h9
 apply iJ<;>intro h10
 apply iJ<;>intro h11
 apply iJ<;>intro h12
 exact gQ
 apply iJ<;>intro h13
 exact gQ
 exact gQ
 exact gQ
 exact gQ
 apply iJ<;>intro h14
 apply iJ<;>intro h15
 apply iJ<;>intro h16
 exact gQ
 exact gQ
 exact gQ
 apply iJ<;>intro h17
 apply iJ<;>intro h18
 apply iJ<;>intro h19
 apply iJ<;>intro g
 apply iJ<;>intro C
 exact gQ
 exact gQ
 exact gQ
 exact gQ
 exact gQ
 exact gQ
theorem YS (T:rf)(U:xE T):Ok (λr=>True) (La T):=by
 unfold La;have z1:=(U);have z2:T.filter.sub.size<=1048576:=((U));refine jf (λ(s1:Bool)=>s1=false->T.counter=0/\T.jQ=0) (λk2 R=>?_) (λs1 C=>?_)
 refine lI (λh5=>?_) (λh5=>?_)
 exact R _ af
 exact R _ af
 apply iR<;>intro h6
 exact gQ
 have hf7:=C h6;refine jf (λ(s4:Bool)=>s4=false->¬(T.doF=2)/\¬(T.doF=4)) (λk5 J=>?_) (λs4 I=>?_)
 apply iJ<;>intro h10
 exact J _ af
 exact J _ af
 apply iR<;>intro g
 apply iJ<;>intro h12
 exact gQ
 exact gQ
 have hf13:=I g;exact iK trivial
theorem aej (g:rf)(T:xE g):Ok (λr=>True) (X7 g):=by
 unfold X7;have z1:=(T);have z2:g.filter.sub.size<=1048576:=((T));apply iJ<;>intro h3
 refine iO (YR _ bz) (λy1 h4=>?_);exact iK trivial
 refine iO (YS _ bz) (λy2 h5=>?_);apply iR<;>intro h6
 exact gQ
 refine nO (λv3 h7=>?_);refine jf (λ(s4:Bool×Bool)=>True) (λk5 R=>?_) (λs4 hs9=>?_)
 apply iJ<;>intro h10
 exact R _ trivial
 apply iJ<;>intro h11
 exact R _ trivial
 exact R _ trivial
 apply iJ<;>intro h12
 refine jf (λ(s7:Bool)=>True) (λk8 U=>?_) (λs7 hs14=>?_)
 refine lI (λI=>?_) (λI=>?_)
 refine lI (λC=>?_) (λC=>?_)
 refine lI (λJ=>?_) (λJ=>?_)
 exact U _ trivial
 exact U _ trivial
 exact U _ trivial
 exact U _ trivial
 apply iR<;>intro h18
 exact gQ
 apply iJ<;>intro h19
 refine iO (JZ _ ay) (λy10 h20=>?_);apply iR<;>intro h21
 exact gQ
 apply iJ<;>intro h22
 exact gQ
 apply iJ<;>intro h23
 exact gQ
 exact gQ
 apply iJ<;>intro h24
 exact gQ
 apply iJ<;>intro h25
 exact gQ
 exact gQ
 apply iJ<;>intro h26
 apply iR<;>intro h27
 apply iJ<;>intro h28
 refine iO (JZ _ ay) (λy11 h29=>?_);exact iK trivial
 exact gQ
 exact gQ
 apply iJ<;>intro h30
 apply iJ<;>intro h31
 apply iJ<;>intro h32
 apply iJ<;>intro h33
 exact gQ
 exact gQ
 exact gQ
 apply iJ<;>intro h34
 apply iJ<;>intro h35
 apply iJ<;>intro h36
 exact gQ
 exact gQ
 exact gQ
 exact gQ
 apply iJ<;>intro h37
 apply iR<;>intro h38
 apply iJ<;>intro h39
 apply iJ<;>intro h40
 exact gQ
 exact gQ
 exact gQ
 exact gQ
 apply iJ<;>intro h41
 apply iR<;>intro h42
 apply iJ<;>intro h43
 apply iJ<;>intro h44
 exact gQ
 exact gQ
 exact gQ
 exact gQ
 apply iJ<;>intro h45
 apply iR<;>intro h46
 apply iJ<;>intro h47
 apply iJ<;>intro h48
 exact gQ
 exact gQ
 exact gQ
 exact gQ
 exact gQ
theorem aa7 (s:qM)(U:EE s):Ok (λr=>True) (O3 s):=by
 unfold O3;have z1:=(U);have z2:s.filter.sub.size<=1048576:=((U));apply iR<;>intro g
 refine jf (λ(T:Bool)=>True) (λk2 hk4=>?_) (λT R=>?_)
 apply iR<;>intro h6
 refine nO (λv4 h7=>?_);exact hk4 _ trivial
 exact gV
 exact gQ
 refine iO (uP _ ay) (λy5 C=>?_);apply iR<;>intro h9
 apply iJ<;>intro J
 exact gQ
 apply iJ<;>intro I
 exact gQ
 exact gQ
 exact gQ
theorem YT (l:List qM)(U:(rO EE) l):Ok (λr=>True) (Lc l):=by
 unfold Lc;have z1:=(U).1;have z2:=(U).2;refine kW (λ(T:Int)=>0<=T/\T<=(l.length:Int)) (λ(T:Int)=>((l.length:Int)-T).toNat) ⟨ae,ae⟩ ak (λT k2 J hk4=>?_);obtain⟨R,C⟩:=J;unfold Nl;apply iJ<;>intro g
 (try simp only[iV] at g)
 refine mM ae ae (λI h6=>?_);have z7:EE I:=z2 I h6;have z8:=(z7);have z9:I.filter.sub.size<=1048576:=((z7));refine iO (aa7 _ (by first|assumption|(refine⟨by omega,?_⟩;first|(intro _ _;trivial)|assumption)|(unfold EE;simp_all[Me,rO]))) (λy5 h10=>?_);apply iR<;>intro h11
 exact gQ
 have h12:jq T 1=T+1:=lN ai ai;exact hk4 _ ⟨ae,ae⟩ ae
 (try simp only[iV] at g)
 exact iK trivial
theorem aa8 (op:Int)  : Ok (λr=>True) (O4 op):=by
 unfold O4;refine jf (λ(R:Bool)=>R=false->¬(op<1)/\¬(26<op)) (λk2 U=>?_) (λR T=>?_)
 apply iJ<;>intro h3
 exact U _ af
 exact U _ af
 apply iR<;>intro J
 exact gQ
 have I:=T J;have C:jS op 1=op-1:=qW bn bn;refine am6 ae ae (λj4 h7 h8=>?_);refine akT ae (λx5 g=>?_);exact iK trivial
theorem aa9 (op:Int)  : Ok (λr=>r.size<=100) (O5 op):=by
 unfold O5;apply iJ<;>intro h1
 exact gW
 apply iJ<;>intro h2
 exact gW
 apply iJ<;>intro h3
 exact gW
 apply iJ<;>intro h4
 exact gW
 apply iJ<;>intro h5
 exact gW
 apply iJ<;>intro h6
 exact gW
 apply iJ<;>intro h7
 exact gW
 apply iJ<;>intro h8
 exact gW
 apply iJ<;>intro h9
 exact gW
 apply iJ<;>intro J
 exact gW
 apply iJ<;>intro h11
 exact gW
 apply iJ<;>intro I
 exact gW
 apply iJ<;>intro U
 exact gW
 apply iJ<;>intro T
 exact gW
 apply iJ<;>intro C
 exact gW
 apply iJ<;>intro h16
 exact gW
 apply iJ<;>intro R
 exact gW
 apply iJ<;>intro g
 exact gW
 exact gW
theorem uB (op:Int)(field:Int)  : Ok (λr=>True) (wP op field):=by
 unfold wP;refine iO (aa9 _ ) (λy1 h1=>?_);refine kW (λ(U:Int)=>0<=U/\U<=(y1.size:Int)) (λ(U:Int)=>((y1.size:Int)-U).toNat) ⟨ae,ae⟩ ak (λU k3 R I=>?_);obtain⟨J,T⟩:=R;unfold O6;apply iJ<;>intro g
 refine JW ae ae (λx5 h5=>?_);apply iJ<;>intro C
 exact gQ
 have h7:jq U 1=U+1:=lN ai ai;exact I _ ⟨ae,ae⟩ ae
 exact gQ
theorem Vb (kind:Int)  : Ok (λr=>True) (Bv kind):=by
 unfold Bv;apply iJ<;>intro h1
 exact gQ
 exact gQ
theorem aek (J:X4)(specs:Int)(U:aa0 J):Ok (λr=>True) (X8 J specs):=by
 unfold X8;have z1:=(U);have z2:J.filter.sub.size<=1048576:=((U));refine jf (λ(s1:Int)=>True) (λk2 C=>?_) (λs1 hs4=>?_)
 apply iJ<;>intro h5
 exact C _ trivial
 exact C _ trivial
 refine jf (λ(s4:Bool)=>s4=false->¬(J.kind<1)/\¬(8<J.kind)) (λk5 I=>?_) (λs4 hs7=>?_)
 apply iJ<;>intro h8
 exact I _ af
 exact I _ af
 apply iR<;>intro h9
 exact gQ
 have hf10:=hs7 h9;refine jf (λ(s7:Unit)=>True) (λk8 T=>?_) (λs7 hs12=>?_)
 refine iO (Vb _ ) (λy10 h13=>?_);apply iR<;>intro h14
 refine jf (λ(g:Bool)=>g=false->¬(J.n<1)/\¬(s1<J.n)) (λk12 R=>?_) (λg hs16=>?_)
 apply iJ<;>intro h17
 exact R _ af
 exact R _ af
 apply iR<;>intro h18
 exact gQ
 have hf19:=hs16 h18;exact T _ trivial
 refine lI (λh20=>?_) (λh20=>?_)
 exact gQ
 exact T _ trivial
 apply iJ<;>intro h21
 refine iO (uP _ ay) (λy14 h22=>?_);exact iK trivial
 refine nO (λv15 h23=>?_);exact iK trivial
theorem Ud (kind:Int)  : Ok (λr=>True) (Ld kind):=by
 unfold Ld;apply iJ<;>intro h1
 exact gQ
 apply iJ<;>intro h2
 exact gQ
 apply iJ<;>intro U
 exact gQ
 exact gQ
theorem ael (a:yN)(R:QE a):Ok (λr=>True) (X9 a):=by
 unfold X9;have z1:=(R);have z2:a.filter.sub.size<=1048576:=((R));refine jf (λ(s1:yN)=>True) (λk2 T=>?_) (λs1 hs4=>?_)
 apply iJ<;>intro h5
 refine jf (λ(s4:Bool)=>s4=false->¬(a.n<0)/\¬(1000000<a.n)) (λk5 I=>?_) (λs4 g=>?_)
 apply iJ<;>intro h8
 exact I _ af
 exact I _ af
 apply iR<;>intro h9
 exact gQ
 have hf10:=g h9;exact T _ trivial
 apply iJ<;>intro h11
 refine jf (λ(s7:Bool)=>s7=false->¬(99<a.n)/\¬(a.n<1)) (λk8 U=>?_) (λs7 J=>?_)
 apply iJ<;>intro h14
 exact U _ af
 apply iJ<;>intro h15
 exact U _ af
 refine iO (uP _ ay) (λy10 h16=>?_);exact U _ af
 apply iR<;>intro C
 exact gQ
 have hf18:=J C;exact T _ trivial
 apply iJ<;>intro h19
 refine iO (Ud _ ) (λy11 h20=>?_);apply iR<;>intro h21
 exact gQ
 exact T _ trivial
 exact T _ trivial
 apply iJ<;>intro h22
 apply iJ<;>intro h23
 refine nO (λv12 h24=>?_);exact iK trivial
 exact gQ
 exact gQ
theorem aba (l:List nN)(U:(rO qZ) l):Ok (λr=>True) (O7 l):=by
 unfold O7;have z1:=(U).1;have z2:=(U).2;refine iO (D5 _ ax) (λy1 T=>?_);exact iK trivial
theorem abb (c:oH):Ok (λr=>True) (O9 c):=by
 unfold O9;refine iO (DZ c) λy1 h1=>iR (λ_=>iK trivial) λh=>?_;obtain⟨⟨_,_,T,I⟩,U⟩:=h1.1 bH;obtain⟨X,hX⟩:=Int.eq_ofNat_of_zero_le T;refine ve 0 X (λn t=>t.size<=n) 0 rfl (Nat.zero_le _) ai aJ ?_ ?_
 intro i t k hi hI hk;unfold Jo;exact iJ (λ_=>oG aS λx hx=>hk _ aU) λh=>absurd aF h
 intro t k hI;unfold Jo;refine iJ (λh=>absurd h aF) λ_=>jf (λs=>s.size<=24) ?_ ?_
 intro k7 J;exact lI (λ_=>iO (yT _) λy hy=>oG aF λx hx=>J _ (by simp only at hx;omega)) λ_=>J _ aF
 intro s hs;refine ve 0 5 (λn t=>t.size<=24+9*n) 0 rfl ai ai ai ?_ ?_
 intro i t k hi hI hk;unfold Jn;refine iJ (λ_=>?_) λh=>absurd (show (i:Int)<5 by omega) h;have hc:=U i hi;refine kW (λs=>∃ n:Nat,s.2=(n:Int)/\n<=9/\s.1.size<=24+9*i+n) (λs=>10-s.2.toNat) ⟨0,rfl,by omega,by simp only;omega⟩ (by show 10-_<18446744073709551616;omega) ?_
 rintro⟨u,g⟩ k15 ⟨n,e,hn,hu⟩ hk15
 simp only at e hu;subst e;unfold O8;refine jf (λs=>s=decide ((n:Int)<EP c.color i)) ?_ ?_
 intro k18 R;rcases five hi with rfl|rfl|rfl|rfl|rfl<;>exact yS ai (R _ rfl)
 rintro s rfl
 simp only;refine iJ (λh=>?_) λh=>hk _ ai;have e1:=lC (n:=i) ai;have C:=lC (n:=n) ai;rw[e1,C];exact am8 ai ai aS λx hx=>oG ai λy hy=>hk15 _ ⟨n+1,rfl,by omega,by simp only;omega⟩ (by simp only[Int.toNat_natCast];omega)
 intro t k hI;unfold Jn;exact iJ (λh=>absurd h aF) λ_=>iR (λ_=>iK trivial) λ_=>iK trivial
theorem abd (p:rQ Int)  : Ok (λr=>True) (Pg p):=by
 unfold Pg;exact iK trivial
theorem Vd (p:rQ Int)  : Ok (λr=>True) (Bz p):=by
 unfold Bz;refine iO (abd _ ) (λy1 h1=>?_);refine iO (abb _ ) (λU h2=>?_);exact iK trivial
theorem Yj (op:Int)(f:lX)(U:oC f):Ok (λr=>True) (Ih op f):=by
 unfold Ih;have z1:f.sub.size<=1048576:=(U);refine jf (λ(J:Int)=>True) (λk2 T=>?_) (λJ R=>?_)
 apply iJ<;>intro C
 exact T _ trivial
 exact T _ trivial
 refine iO (uP _ ay) (λy4 g=>?_);apply iR<;>intro I
 exact gQ
 exact gQ
theorem aem (pe:jX)(specs:Int)(U:pK pe):Ok (λr=>True) (Ya pe specs):=by
 unfold Ya;have z1:=(U).1;have z2:=((U).1);have z3:pe.ref.filter.sub.size<=1048576:=(((U).1));have z4:=(U).2.1;have z5:=((U).2.1);have z6:pe.amount.filter.sub.size<=1048576:=(((U).2.1));have z7:pe.card.size<=1048576:=(U).2.2.1;have z8:=(U).2.2.2.1;have z9:pe.filter.sub.size<=1048576:=((U).2.2.2.1);have z10:=((U).2.2.2.2).1;have z11:=((U).2.2.2.2).2;refine iO (aa8 _ ) (λy1 h12=>?_);apply iR<;>intro h13
 exact gQ
 refine nO (λv2 h14=>?_);refine jf (λ(s3:Bool)=>True) (λk4 C=>?_) (λs3 hs16=>?_)
 refine iO (uB _ _ ) (λy6 h17=>?_);apply iR<;>intro h18
 refine iO (aek _ _ (by first|assumption|(refine⟨by omega,?_⟩;first|(intro _ _;trivial)|assumption)|(unfold aa0;simp_all[Me,rO]))) (λy7 h19=>?_);exact C _ trivial
 exact C _ trivial
 refine jf (λ(s8:Bool)=>s8=false->¬(pe.jQ=0)) (λk9 hk20=>?_) (λs8 hs21=>?_)
 apply iJ<;>intro h22
 exact gX
 refine iO (uB _ _ ) (λy11 h23=>?_);apply iR<;>intro h24
 apply iJ<;>intro h25
 exact gX
 exact gX
 exact gX
 refine jf (λ(s12:Bool)=>s12=false->¬(pe.counter=0)) (λk13 R=>?_) (λs12 hs27=>?_)
 apply iJ<;>intro h28
 exact R _ af
 refine iO (uB _ _ ) (λy15 h29=>?_);apply iR<;>intro h30
 refine iO (Ud _ ) (λy16 h31=>?_);exact R _ af
 exact R _ af
 refine jf (λ(s17:Bool)=>True) (λk18 hk32=>?_) (λs17 hs33=>?_)
 refine iO (uB _ _ ) (λy20 h34=>?_);apply iR<;>intro h35
 refine iO (NF _ aG) (λy21 h36=>?_);exact hk32 _ trivial
 exact hk32 _ trivial
 refine nO (λv22 h37=>?_);refine jf (λ(s23:Bool)=>True) (λk24 J=>?_) (λs23 hs39=>?_)
 refine iO (uB _ _ ) (λy26 h40=>?_);apply iR<;>intro h41
 refine iO (ael _ (by first|assumption|(refine⟨by omega,?_⟩;first|(intro _ _;trivial)|assumption)|(unfold QE;simp_all[Me,rO]))) (λy27 h42=>?_);exact J _ trivial
 exact J _ trivial
 refine jf (λ(s28:Bool)=>True) (λk29 I=>?_) (λs28 hs44=>?_)
 refine iO (uB _ _ ) (λy31 h45=>?_);apply iR<;>intro h46
 refine iO (aba _ ax) (λy32 h47=>?_);exact I _ trivial
 exact I _ trivial
 refine nO (λv33 h48=>?_);refine jf (λ(s34:Bool)=>True) (λk35 T=>?_) (λs34 hs50=>?_)
 refine iO (uB _ _ ) (λy37 h51=>?_);apply iR<;>intro h52
 apply iR<;>intro h53
 refine iO (Vd _ ) (λy38 h54=>?_);exact T _ trivial
 exact T _ trivial
 exact T _ trivial
 refine nO (λv39 h55=>?_);refine jf (λ(s40:Bool)=>True) (λk41 g=>?_) (λs40 hs57=>?_)
 refine iO (uB _ _ ) (λy43 h58=>?_);apply iR<;>intro h59
 refine iO (Yj _ _ ay) (λy44 h60=>?_);exact g _ trivial
 exact g _ trivial
 apply iR<;>intro h61
 apply iR<;>intro h62
 apply iR<;>intro h63
 apply iR<;>intro h64
 apply iR<;>intro h65
 apply iR<;>intro h66
 apply iR<;>intro h67
 exact gQ
 exact gQ
 exact gQ
 exact gQ
 exact gQ
 have hf68:=hs27 h63;exact iK trivial
 have hf69:=hs21 h62;exact iK trivial
 exact gQ
theorem We (l:List jX)(n:Int)(U:(rO pK) l):Ok (λr=>True) (EY l n):=by
 unfold EY;have z1:=(U).1;have z2:=(U).2;refine kW (λ(T:Int)=>0<=T/\T<=(l.length:Int)) (λ(T:Int)=>((l.length:Int)-T).toNat) ⟨ae,ae⟩ ak (λT k2 C hk4=>?_);obtain⟨I,g⟩:=C;unfold Ii;apply iJ<;>intro h5
 (try simp only[iV] at h5)
 refine mM ae ae (λR h6=>?_);have z7:pK R:=z2 R h6;have z8:=(z7).1;have z9:=((z7).1);have z10:R.ref.filter.sub.size<=1048576:=(((z7).1));have z11:=(z7).2.1;have z12:=((z7).2.1);have z13:R.amount.filter.sub.size<=1048576:=(((z7).2.1));have z14:R.card.size<=1048576:=(z7).2.2.1;have z15:=(z7).2.2.2.1;have z16:R.filter.sub.size<=1048576:=((z7).2.2.2.1);have z17:=((z7).2.2.2.2).1;have z18:=((z7).2.2.2.2).2;refine iO (aem _ _ aW) (λy5 h19=>?_);apply iR<;>intro h20
 exact gQ
 have h21:jq T 1=T+1:=lN ai ai;exact hk4 _ ⟨ae,ae⟩ ae
 (try simp only[iV] at h5)
 apply iJ<;>intro J
 (try simp only[iV] at J)
 exact iK trivial
 (try simp only[iV] at J)
 exact iK trivial
theorem NH (a:kF)(U:ny a):Ok (λr=>True) (Ph a):=by
 unfold Ph;have z1:=(U).1;have z2:a.filter.sub.size<=1048576:=((U).1);have z3:=((U).2.1).1;have z4:=((U).2.1).2;have z5:=(U).2.2.1;have z6:=((U).2.2.1);have z7:a.jg.filter.sub.size<=1048576:=(((U).2.2.1));have z8:=((U).2.2.2.1).1;have z9:=((U).2.2.2.1).2;have z10:=((U).2.2.2.2.1).1;have z11:=((U).2.2.2.2.1).2;have z12:=(U).2.2.2.2.2;have z13:=((U).2.2.2.2.2);have z14:a.replace.filter.sub.size<=1048576:=(((U).2.2.2.2.2));refine jf (λ(s1:Bool)=>s1=false->¬(a.kind<1)/\¬(5<a.kind)) (λk2 R=>?_) (λs1 hs16=>?_)
 apply iJ<;>intro h17
 exact R _ af
 exact R _ af
 apply iR<;>intro h18
 exact gQ
 have hf19:=hs16 h18;refine jf (λ(s4:Bool)=>s4=false->¬(a.kind=2)/\¬(a.kind=3)/\¬(a.kind=4)) (λk5 hk20=>?_) (λs4 hs21=>?_)
 apply iJ<;>intro h22
 exact gX
 apply iJ<;>intro h23
 exact gX
 exact gX
 refine jf (λ(s7:Unit)=>True) (λk8 hk24=>?_) (λs7 hs25=>?_)
 apply iJ<;>intro h26
 refine jf (λ(s10:Bool)=>s10=false->a.filter.jQ=0) (λk11 T=>?_) (λs10 hs28=>?_)
 refine iO (uP _ ay) (λy13 h29=>?_);apply iR<;>intro h30
 exact T _ af
 refine lI (λh31=>?_) (λh31=>?_)
 exact T _ af
 refine iO (D5 _ ax) (λy14 h32=>?_);exact T _ af
 apply iR<;>intro h33
 exact gQ
 have hf34:=hs28 h33;exact hk24 _ trivial
 refine jf (λ(s15:Bool)=>s15=false->¬(0<(a.mP.length:Int))) (λk16 hk35=>?_) (λs15 hs36=>?_)
 refine nO (λv18 h37=>?_);apply iR<;>intro h38
 exact hk35 _ af
 exact hk35 _ af
 apply iR<;>intro h39
 exact gQ
 have hf40:=hs36 h39;exact hk24 _ trivial
 refine jf (λ(s19:Unit)=>True) (λk20 hk41=>?_) (λs19 hs42=>?_)
 apply iJ<;>intro h43
 refine iO (YQ _ ) (λy22 h44=>?_);apply iR<;>intro h45
 exact gQ
 exact hk41 _ trivial
 refine jf (λ(s23:Bool)=>True) (λk24 I=>?_) (λs23 hs47=>?_)
 refine nO (λv26 h48=>?_);apply iR<;>intro h49
 exact I _ trivial
 exact I _ trivial
 apply iR<;>intro h50
 exact gQ
 exact hk41 _ trivial
 refine jf (λ(s27:Unit)=>True) (λk28 J=>?_) (λs27 hs52=>?_)
 apply iJ<;>intro h53
 refine iO (aei _ (by first|assumption|(refine⟨by omega,?_⟩;first|(intro _ _;trivial)|assumption)|(unfold DY;simp_all[Me,rO]))) (λy30 h54=>?_);apply iR<;>intro h55
 exact gQ
 exact J _ trivial
 refine jf (λ(s31:Bool)=>True) (λk32 C=>?_) (λs31 hs57=>?_)
 refine nO (λv34 h58=>?_);apply iR<;>intro h59
 exact C _ trivial
 exact C _ trivial
 apply iR<;>intro h60
 exact gQ
 exact J _ trivial
 refine jf (λ(s35:Unit)=>True) (λk36 hk61=>?_) (λs35 hs62=>?_)
 apply iJ<;>intro h63
 refine iO (aej _ bz) (λy38 h64=>?_);apply iR<;>intro h65
 exact gQ
 exact hk61 _ trivial
 refine nO (λv39 h66=>?_);apply iR<;>intro h67
 exact gQ
 exact hk61 _ trivial
 apply iR<;>intro h68
 refine jf (λ(s40:Bool)=>True) (λk41 g=>?_) (λs40 hs70=>?_)
 refine iO (YT _ ax) (λy43 h71=>?_);apply iR<;>intro h72
 refine iO (We _ _ ax) (λy44 h73=>?_);exact g _ trivial
 exact g _ trivial
 exact gQ
 have hf74:=hs21 h68;apply iJ<;>intro h75
 (try simp only[iV] at h75)
 exact iK trivial
 (try simp only[iV] at h75)
 exact iK trivial
theorem abe (c:jI)(U:mY c):Ok (λr=>True) (Pj c):=by
 unfold Pj;have z1:c.name.size<=1048576:=(U).1;have z2:=(U).2.1;have z3:=(((U).2.1)).1;have z4:=(((U).2.1)).2;have z5:=((U).2.2).1;have z6:=((U).2.2).2;apply iJ<;>intro T
 exact gQ
 exact gQ
end Go.Proofs.YtlacmdnhabblcaaGreat
