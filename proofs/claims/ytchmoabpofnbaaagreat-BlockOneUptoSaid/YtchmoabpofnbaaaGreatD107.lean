import Derived.Test.YtchmoabpofnbaaaGreatD105
import Derived.Test.YtchmoabpofnbaaaGreatD106
set_option linter.all false
namespace Go.Proofs.YtchmoabpofnbaaaGreat
open Go Go.Pv
set_option maxRecDepth 100000
def kL (x:iO):Prop:=szB x.sub
def rX (x:jP):Prop:=szB x.sub/\kL x.filter
def D9 (x:yf):Prop:=kL x.filter
def MZ (x:sS):Prop:=kL x.filter
def Uw (x:Xm):Prop:=kL x.filter
def Ha (x:Ae):Prop:=kL x.filter
def qG (x:iK):Prop:=Uw x.ref/\Ha x.amount/\szB x.card/\kL x.filter/\(uZ rX) x.fP
def yN (x:qM):Prop:=kL x.filter
def kQ (x:gz):Prop:=kL x.filter/\(uZ rX) x.fP/\D9 x.gI/\(uZ MZ) x.specs/\(uZ qG) x.jJ/\yN x.replace
def Ea (x:jl):Prop:=(uZ (λ(_:Int)=>True)) x.library/\(uZ (λ(_:Int)=>True)) x.hand/\(uZ (λ(_:Int)=>True)) x.yY
def Na (x:nJ):Prop:=kQ x.ja/\(uZ (λ(_:qI)=>True)) x.targets
def tH (x:gU):Prop:=kQ x.ja
def PQ (x:pF):Prop:=(uZ (λ(_:Int)=>True)) x.objects/\(uZ rX) x.fP
def kR (x:dZ):Prop:=(uZ Ea) x.fV/\(uZ (λ(_:fD)=>True)) x.objects/\(uZ (λ(_:Int)=>True)) x.iF/\(uZ (λ(_:Int)=>True)) x.pG/\(uZ Na) x.stack/\(uZ tH) x.waiting/\(uZ PQ) x.jB/\(uZ (λ(_:Int)=>True)) x.extra
theorem five {i:Nat}(h:i<5):i=0\/i=1\/i=2\/i=3\/i=4:=by omega
theorem PR {ρ:Type}{Q:ρ->Prop}{n m:Nat}{k:Nat->Option ρ}(h:n<m)(hk:Ok Q (k n)):Ok Q (pI (n:Int) m k):=adH ae ae λj hj=>by
 have:j=n:=by omega
 rw[this];exact hk
def Hf (c:adw Int):Nat->Int | 0=>c.a0|1=>c.a1|2=>c.a2|3=>c.a3|_=>c.a4
def isC (c:pz):Prop:=(0<=c.generic/\c.generic<=99/\0<=c.x/\c.x<=2)/\∀ j,j<5->0<=Hf c.color j/\Hf c.color j<=9
theorem zI {ρ:Type}{Q:ρ->Prop}{x b:Bool}{k:Bool->Option ρ}(h:x=b)(hk:Ok Q (k b)):Ok Q (lt x k):=by subst h;exact hk
theorem iR {ρ:Type}{Q:ρ->Prop}{c:Bool}{a b:Option ρ}(h:c=true)(hk:Ok Q a):Ok Q (br c a b):=by subst h;exact hk
theorem iE {ρ:Type}{Q:ρ->Prop}{c:Bool}{a b:Option ρ}(h:c=false)(hk:Ok Q b):Ok Q (br c a b):=by subst h;exact hk
def Dp (x:rZ):Prop:=(uZ szB) x.subs
def nU (x:gV):Prop:=szB x.name/\Dp x.line/\(uZ kQ) x.fC
def jX (x:eF):Prop:=szB x.name/\Dp x.line/\(uZ kQ) x.fC
theorem TT {p:Prop}(h:p:=by
 repeat' first
  | intro _
  | with_reducible exact dX trivial
  | with_reducible refine iR (by with_reducible rfl) ?_
  | with_reducible refine iE (by with_reducible rfl) ?_
  | with_reducible refine dY (λ_=>?_) λ_=>?_
  | with_reducible refine rQ (λ_=>?_) λ_=>?_
  | with_reducible refine gq (λ_=>?_) λ_=>?_
  | with_reducible refine ah0 (λ_ _=>?_) ?_
  | with_reducible refine alI ?_
  | with_reducible refine alJ λ_=>?_
  | with_reducible refine QK λ_ _=>?_
  | with_reducible refine yL ?_ ?_ λ_ _=>?_
  | with_reducible refine ahR ?_ ?_ λ_ _ _=>?_
  | with_reducible refine ajT ?_ λ_ _=>?_
  | with_reducible refine aaB ?_ ?_ λ_ _=>?_
  | with_reducible refine iJ ?_ ?_ ?_
  | with_reducible refine adH ?_ ?_ λ_ _=>?_
  | with_reducible refine uN ?_ λ_ _=>?_
  | with_reducible refine vX ?_ λ_ _=>?_
  | with_reducible refine xA ?_ λ_ _=>?_
  | with_reducible refine ahS ?_ λ_ _=>?_
  | with_reducible refine aaC λ_ _=>?_
  | with_reducible refine ajU ?_ ?_ ?_ λ_ _=>?_
  | with_reducible refine ajV ?_ ?_ ?_ λ_ _=>?_
  | with_reducible refine ahT ?_ ?_ ?_ λ_ _=>?_
  | with_reducible refine Nw ?_
  | with_reducible refine am0 ?_ ?_ (λ_ _ _ _ _=>?_) λ_=>?_
  | with_reducible refine am1 ?_ ?_ (λ_ _ _ _ _ _=>?_) λ_ _=>?_
  | with_reducible refine am2 ?_ ?_ (λ_ _ _ _ _ _=>?_) λ_ _=>?_
  | with_reducible refine fB (by apply_assumption -exfalso -symm<;>(first|trivial|assumption|omega|grind (ematch:=12) [kL,rX,D9,MZ,Uw,Ha,qG,yN,kQ,Ea,Na,tH,PQ,kR,Dp,nU,jX,uZ,szB,eU])) λ_ _=>?_
  | with_reducible apply_assumption -exfalso -symm
  | with_reducible refine dX ?_
  | omega
  | (rw[EJ (by grind [eU]) (by grind [eU])];grind [eU])
  | (simp only[eU,uP,List.length_append,List.length_cons,List.length_nil] at *;omega)
  | (simp_all only[uP,List.length_cons,List.length_nil,rX,kL,szB];omega)
  | split
  | grind (ematch:=12) [kL,rX,D9,MZ,Uw,Ha,qG,yN,kQ,Ea,Na,tH,PQ,kR,Dp,nU,jX,uZ,szB,eU]):p:=h
def SW (n:Nat)(l:List ByteArray):Prop:=l.length=n/\n<=100/\∀ x∈l,x.size<=100
theorem SW.sz {n:Nat}{l:List ByteArray}(h:SW n l):uZ szB l:=⟨by have:=h.1;have:=h.2.1;omega,λx T=>by have:=h.2.2 x T;show x.size<=1048576;omega⟩
def WL (n:Nat)(l:List ByteArray):Prop:=l.length<=n/\∀ x∈l,x.size<=140737488360000
theorem WL.add {n:Nat}{l:List ByteArray}{x:ByteArray}(h:WL n l)(T:x.size<=140737488360000):WL (n+1) (l++[x]):=⟨by have:=h.1;simp;omega,λy hy=>by
 rcases List.mem_append.1 hy with hy|hy
 exact h.2 y hy
 grind⟩
theorem WL.mono {n m:Nat}{l:List ByteArray}(h:WL n l)(T:n<=m):WL m l:=⟨by have:=h.1;omega,h.2⟩
theorem aaG:kQ DU:=by
 simp[kQ,kL,D9,yN,szB,uZ,DU,lq,Ub,Uc,uP]
theorem af2 (n:Int):0<=IntKind.u64.wrap n/\IntKind.u64.wrap n<18446744073709551616:=by rw[IntKind.wrap_u64];omega
theorem u64q {x:Int}(h0:0<=x)(h1:x<18446744073709551616):IntKind.u64.wrap (x.tdiv 10)=x / 10:=by
 grind[IntKind.wrap_u64]
theorem Le (a:List jP)(b:List jP)(T:(uZ rX) a)(J:(uZ rX) b):Ok (λr=>True) (wK a b):=by
 unfold wK Af;exact TT
theorem aaH (a:iK)(b:iK)(T:qG a)(J:qG b):Ok (λr=>True) (KP a b):=by
 unfold KP;have:=@Le;exact TT
theorem Ux (a:List iK)(b:List iK)(T:(uZ qG) a)(J:(uZ qG) b):Ok (λr=>True) (yZ a b):=by
 unfold yZ Ag;have:=@aaH;exact TT
theorem aaI (a:gz)(b:gz)(T:kQ a)(J:kQ b):Ok (λr=>True) (EP a b):=by
 unfold EP Jk;have:=@Le;have:=@Ux;exact TT
theorem aaJ (l:List Int)(T:(uZ (λ(_:Int)=>True)) l):Ok (λr=>r=l) (ET l):=by
 unfold ET;exact TT
theorem IP (n:Int)(least:Int)(most:Int)  : Ok (λr=>True) (xJ n least most):=by
 unfold xJ;exact TT
theorem IQ (s:dZ)(p:Int)(T:kR s):Ok (λr=>True) (rE s p):=by
 unfold rE;have:=@IP;exact TT
theorem QL (c:pz):Ok (λr=>r=true↔isC c) (Ih c):=by
 unfold Ih;refine gu (λs=>s=decide (c.generic<0\/99<c.generic\/c.x<0\/2<c.x)) ?_ ?_
 grind[dY]
 rintro s rfl
 refine dY (λh=>dX ⟨λh=>bW,λhC=>by have:=hC.1;omega⟩) λh0=>?_;refine kM 0 5 (λn=>∀ j,j<n->0<=Hf c.color j/\Hf c.color j<=9) 0 rfl ae ae (λj h=>by omega) ?_ ?_
 intro i k hi T hk;unfold KQ;refine dY (λ_=>gu (λs=>s=decide (Hf c.color i<0\/9<Hf c.color i)) ?_ ?_) λh=>absurd (show(i:Int)<5 by omega) h
 intro k6 J
 rcases five hi with rfl|rfl|rfl|rfl|rfl <;>
  exact PR ae (dY (λh=>J _ cu) λh=>PR ae (J _ cu))
 rintro s rfl
 refine dY (λh=>dX ?_) λh=>hk λj hj=>?_
 refine⟨λh=>bW,λhC=>?_⟩;have:=hC.2 i hi;omega
 grind
 intro k T;unfold KQ;exact dY (λh=>absurd h ae) λ_=>dX ⟨λ_=>⟨by omega,T⟩,λ_=>rfl⟩
theorem acn (c:Int)  : Ok (λr=>True) (MC c):=by
 unfold MC;exact TT
theorem QM (s:ByteArray)(T:szB s):Ok (λr=>True) (Oa s):=by
 unfold Oa O9;have:=@acn;exact TT
theorem P9 (l:List ByteArray)(s:ByteArray)(T:(uZ szB) l)(J:szB s):Ok (λr=>True) (Bh l s):=by
 unfold Bh Gm;exact TT
theorem QN   : Ok (λr=>SW 2 r) (BV ):=by
 unfold BV;exact dX aI
theorem JJ   : Ok (λr=>SW 6 r) (zT ):=by
 unfold zT;exact dX aI
theorem J7 (s:ByteArray)(T:szB s):Ok (λr=>True) (qg s):=by
 unfold qg;exact fB (QM _ ai) (λy1 h2=>gq (λI=>fB (QN  ) (λy2 h4=>fB (P9 _ _ (by grind[SW.sz]) ai) (λy3 t=>dY (λJ=>fB (JJ  ) (λy4 g=>fB (P9 _ _ (by grind[SW.sz]) ai) (λy5 C=>dX trivial))) (λJ=>dX trivial)))) (λI=>dX trivial))
theorem Vl (mask:Int)(i:Int)(hi:i<=100):Ok (λr=>True) (Pq mask i):=by
 unfold Pq;refine kF (λ(T:Int×Int)=>0<=T.2) (λ(T:Int×Int)=>(i-T.2).toNat) ai aX (λT k2 J C=>?_);unfold Xr;refine dY (λI=>?_) (λI=>xA aJ (λg t=>dX trivial))
 grind[vX,wH]
theorem adK (l:rZ)(T:Dp l):Ok (λr=>True) (Uh l):=by
 unfold Uh Zb;have:=@J7;have:=@Vl;exact TT
theorem Xz (mask:Int)  : Ok (λr=>True) (Xt mask):=by
 unfold Xt;exact TT
theorem Uy (c:gV)(T:nU c):Ok (λr=>True) (Gy c):=by
 unfold Gy;exact TT
theorem Qa (a b most:Int):Ok (λr=>True) (DV a b most):=by
 unfold DV;refine gu (λ_=>True) ?_ ?_
 intro k h;exact dY (λ_=>h _ trivial) λ_=>dY (λ_=>h _ trivial) λ_=>dY (λ_=>h _ trivial) λ_=>h _ trivial
 intro s _;refine gq (λ_=>dX trivial) λ_=>?_;refine kF (λs=>0<=s.2.2/\s.2.2<=6) (λs=>(6-s.2.2).toNat) ⟨by simp only;omega,by simp only;omega⟩ (by show _<18446744073709551616;simp only;omega) ?_
 rintro⟨x,y,n⟩ k ⟨h0,h1⟩ hk
 simp only at h0 h1;unfold BX;refine dY (λh=>gu (λ_=>True) ?_ ?_) λ_=>dX trivial
 intro k6 T;exact xA aJ λ_ _=>dY (λ_=>xA aJ λ_ _=>T _ trivial) λ_=>T _ trivial
 intro s _;simp only at h |-;rw[wH ae ae];exact gq (λ_=>dX trivial) λ_=>vX aJ λ_ _=>vX aJ λ_ _=>hk _ ⟨by simp only;omega,by simp only;omega⟩ aB
theorem J8 (b:sQ):Ok (λr=>r=true->0<=b.kind/\b.kind<=3) (tZ b):=by
 unfold tZ;exact TT
def ah1 (f:iO):Prop:=(0<=f.iL/\f.iL<=5)/\(0<=f.who/\f.who<=2)/\(0<=f.self/\f.self<=2)/\(0<=f.Bf/\f.Bf<=2)/\(0<=f.power.kind/\f.power.kind<=3)/\(0<=f.gK.kind/\f.gK.kind<=3)/\(0<=f.value.kind/\f.value.kind<=3)
theorem wS (f:iO)(T:kL f):Ok (λr=>r=true->ah1 f) (pO f):=by
 unfold pO;have no:∀ {p:Prop},((false:Bool)=true->p):=λe=>by cases e
 refine gu (λs=>s=false->(0<=f.iL/\f.iL<=5)/\(0<=f.who/\f.who<=2)/\(0<=f.self/\f.self<=2)/\(0<=f.Bf/\f.Bf<=2)) ?_ ?_
 grind[dY,decide_eq_false_iff_not]
 intro s hs;refine gq (λ_=>dX no) λe=>gu (λ_=>True) ?_ ?_
 intro k h;exact fB (Qa _ _ _) λ_ _=>gq (λ_=>h _ trivial) λ_=>fB (Qa _ _ _) λ_ _=>h _ trivial
 intro s3 _;refine gq (λ_=>dX no) λ_=>gu (λ_=>True) ?_ ?_
 intro k h;refine gq (λ_=>fB (J7 _ T) λ_ _=>gq (λ_=>h _ trivial) λ_=>dY (λ_=>h _ trivial) λ_=>h _ trivial) λ_=>dY (λ_=>h _ trivial) λ_=>h _ trivial
 intro s7 _;refine gq (λ_=>dX no) λ_=>fB (J8 _) λy10 J=>gq (λe10=>fB (J8 _) λg I=>gq (λe11=>fB (J8 _) λt C=>dX λe12=>?_) λ_=>dX no) λ_=>dX no;obtain⟨a,b,c,d⟩:=hs e;exact⟨a,b,c,d,J e10,I e11,C e12⟩
theorem aaK (m:jP)(T:rX m):Ok (λr=>True) (KR m):=by
 unfold KR;exact TT
theorem X5 (mask:Int)  : Ok (λr=>True) (Bl mask):=by
 unfold Bl;exact TT
theorem XA (m:jP)(T:rX m):Ok (λr=>True) (lS m):=by
 unfold lS;have:=@aaK;have:=@X5;have:=@J7;have:=@wS;exact TT
theorem XB (l:List ByteArray)(mask:Int)(T:ByteArray)(n:Nat)(J:SW n l)(hb:T.size<=10):Ok (λr=>r.size<=11000) (ML l mask T):=by
 unfold ML;have hn:=J.1;have hn2:=J.2.1;refine BO 0 l.length (λn t=>t.size<=110*n) 0 rfl (Nat.zero_le _) ae aK ?_ ?_
 intro i t k hi g hk;unfold JW;refine dY (λ_=>gu (λs=>s.size<=110*(i+1)) ?_ λs hs=>hk s hs) λh=>absurd (show(i:Int)<(l.length:Int) by omega) h;intro k5 C;refine fB (Vl _ _ aB) λy7 _=>gq (λ_=>gu (λs=>s.size<=110*i+10) ?_ ?_) λ_=>C _ aB
 grind[gq,uN]
 intro s hs;refine yL aB aB λx I=>uN (by have:=J.2.2 x I;omega) λy hy=>C _ (by have:=J.2.2 x I;omega)
 intro t k g;unfold JW;exact dY (λh=>absurd h ax) λ_=>dX aB
theorem JK (mask:Int):Ok (λr=>r.size<=11000) (xu mask):=by
 unfold xu;have:=@JJ;have:=@XB;exact TT
theorem adL (mask:Int)  : Ok (λr=>True) (aat mask):=by
 unfold aat;exact TT
theorem Nb (i:Int)  : Ok (λr=>r.size<=100) (KU i):=by
 unfold KU;exact TT
theorem aaL (mask:Int):Ok (λr=>r.size<=11000) (Oi mask):=by
 unfold Oi;refine fB (adL _) λy1 _=>gq (λ_=>dX aK) λ_=>dY (λ_=>dX aK) λ_=>?_;refine BO 0 5 (λn t=>t.size<=110*n) 0 rfl ae ae aK ?_ ?_
 ·intro i t k hi C hk;unfold Oh;refine dY (λ_=>gu (λs=>s.size<=110*(i+1)) ?_ λs hs=>hk s hs) λh=>absurd (show(i:Int)<5 by omega) h;intro k5 J;refine ahS aB λI T=>vX ?_ λg _=>xA aJ λx8 _=>dY (λ_=>gu (λs=>s.size<=110*i+10) ?_ ?_) λ_=>J _ aB
  ·rcases five hi with rfl|rfl|rfl|rfl|rfl
   all_goals
    have:I≠0:=by
     intro e;subst e;revert T;simp only;decide
    exact this
  grind[gq,uN,uP]
  grind[fB,Nb,uN]
 grind[Oh,dY,dX]
theorem X6   : Ok (λr=>SW 17 r) (Px ):=by
 unfold Px;exact dX aI
theorem SY (i:Int):Ok (λr=>r.size<=100) (Oj i):=by
 unfold Oj;refine dY (λ_=>dX aK) λ_=>dY (λ_=>dX aK) λ_=>fB X6 λJ h1=>yL ae (by have:=h1.1;omega) λx T=>dX (h1.2.2 x T)
theorem aaM (mask:Int):Ok (λr=>r.size<=11000) (Ol mask):=by
 unfold Ol;refine fB (Xz _) λg _=>gq (λ_=>dX aK) λ_=>?_;refine kF (λs=>∃ n:Nat,s.2.2=(n:Int)/\n<=17/\s.2.1.size<=110*n) (λs=>17-s.2.2.toNat) ⟨0,rfl,by omega,by simp[uP]⟩ (by show 17-_<18446744073709551616;omega) ?_
 rintro⟨m,t,n'⟩ k ⟨n,e,hn,I⟩ hk
 simp only at e I;subst e;unfold Ve;refine dY (λh=>gu (λs=>s.2.size<=110*(n+1)) ?_ ?_) λh=>gq (λ_=>dX aK) λ_=>dX aB
 intro k6 T;refine gu (λs=>s.size<=110*(n+1)) ?_ λs hs=>vX aJ λx _=>T _ hs;intro k9 J;refine xA aJ λx _=>dY (λ_=>gu (λs=>s.size<=110*n+10) ?_ ?_) λ_=>J _ aB
 grind[gq,uN,uP]
 grind[fB,SY,uN]
 rintro⟨C,s2⟩ hs
 simp only at h hs |-;rw[iY ae];exact hk _ ⟨n+1,rfl,by omega,hs⟩ ai
theorem S9   : Ok (λr=>SW 6 r) (Es ):=by
 unfold Es;exact dX aI
theorem Uz   : Ok (λr=>SW 3 r) (Gs ):=by
 unfold Gs;exact dX aI
theorem Td   : Ok (λr=>SW 3 r) (Et ):=by
 unfold Et;exact dX aI
theorem UA   : Ok (λr=>SW 3 r) (Gt ):=by
 unfold Gt;exact dX aI
theorem yO (l:List ByteArray)(s:ByteArray)(n:Nat)(T:WL n l)(hs:s.size<=140737488360000)(J:n<=1000):Ok (λr=>WL (n+1) r) (Eu l s):=by
 unfold Eu;have:=T.1;exact gq (λ_=>dX (T.mono ae)) λ_=>iJ ai ai (dX (T.add hs))
theorem E8 (mask:Int)(i:Int)(hi:i<=100):Ok (λr=>True) (Jq mask i):=by
 unfold Jq;refine kF (λ(T:Int×Int)=>0<=T.2) (λ(T:Int×Int)=>(i-T.2).toNat) ai aX (λT k2 J C=>?_);unfold Xu;refine dY (λI=>?_) (λI=>xA aJ (λg t=>dX trivial))
 grind[vX,wH]
theorem Lh (i:Int)(hi:i<=100):Ok (λr=>r.size<=11000) (Cb i):=by
 unfold Cb;refine kF (λ(T:Int×Int)=>0<=T.2) (λ(T:Int×Int)=>(i-T.2).toNat) ai aX (λT k2 J I=>?_)
 grind[Nu,dY,fB,JK,dX,wH]
theorem XC (u:Int)(hu:0<=u/\u<18446744073709551616):Ok (λr=>r.size<=21) (DZ u):=by
 obtain⟨h0,h1⟩:=hu;unfold DZ;refine xA aJ (λx1 _=>aaC (λx2 h2=>vX aJ (λx3 h3=>?_)));rw[u64q h0 h1] at h3;refine kF (λs=>∃ k:Nat,s.2.size+k<=21/\0<=s.1/\s.1<10 ^ k) (λs=>s.1.toNat) ⟨20,by simp only;omega,by simp only;omega,by simp only;omega⟩ (by show _<18446744073709551616;simp only;omega) ?_
 rintro⟨a,b⟩ k5 ⟨k,g1,g2,g3⟩ hk
 simp only at g1 g2 g3;unfold JX;refine dY (λh=>?_) (λ_=>dX aB);simp only at h;have C:k≠0:=by grind
 obtain⟨T,rfl⟩:∃ T,k=T+1:=⟨k-1,by omega⟩;have t:(10:Int) ^ (T+1)=10 ^ T*10:=Int.pow_succ 10 T;rw[t] at g3;refine xA aJ (λx6 _=>aaC (λx7 h7=>uN aB (λx8 g=>vX aJ (λJ I=>?_))));simp only at g I
 have hq:0<=J/\J<=a / 10:=by
  grind[IntKind.wrap_u64]
 exact hk _ ⟨T,by simp only;omega,hq.1,by simp only;omega⟩ aB
theorem Nc (n:Int)  : Ok (λr=>r.size<=22) (Cc n):=by
 grind[Cc,dY,fB,XC,af2,dX,uP,uN]
theorem X7   : Ok (λr=>SW 4 r) (Py ):=by
 unfold Py;exact dX aI
theorem Dq (name:ByteArray)(b:sQ)(C:name.size<=100)(hk:0<=b.kind/\b.kind<=3):Ok (λr=>r.size<=1000) (xw name b):=by
 unfold xw;refine dY (λ_=>dX aK) λ_=>fB X7 λI h1=>yL ae (by have:=h1.1;omega) λJ T=>?_;have:=h1.2.2 J T
 grind[uN,fB,Nc,dX]
theorem aaN (l:List ByteArray)(T:ByteArray)(J:WL 200 l)(hb:T.size<=10):Ok (λr=>r.size<=28147497672002000) (Sr l T):=by
 unfold Sr;have hn:=J.1;refine BO 0 l.length (λn t=>t.size<=140737488360010*n) 0 rfl (Nat.zero_le _) ae aK ?_ ?_
 intro i t k hi C hk;unfold Om;refine dY (λ_=>gu (λs=>s.size<=140737488360010*(i+1)) ?_ λs hs=>hk s hs) λh=>absurd (show(i:Int)<(l.length:Int) by omega) h;intro k5 g;refine gu (λs=>s.size<=140737488360010*i+10) ?_ ?_
 grind[dY,uN]
 intro s hs;refine yL aB aB λx I=>uN (by have:=J.2 x I;omega) λy hy=>g _ (by have:=J.2 x I;omega)
 intro t k C;unfold Om;exact dY (λh=>absurd h ax) λ_=>dX aB
theorem aaO (f:iO)(zz_f:kL f):Ok (λr=>r.size<=28147497672002000) (Oo f):=by
 have hsub:f.sub.size<=1048576:=zz_f;unfold Oo;refine fB (wS f zz_f) λy1 h1=>gq (λ_=>dX aK) λh=>?_;obtain⟨hz,hw,hs,ht,hp,hq,hv⟩:=h1 aN;refine fB S9 λy2 h2=>fB Uz λy3 h3=>fB Td λy4 h4=>fB UA λy5 h5=>?_;have l5:=h5.1;refine yL ae (by have:=h2.1;omega) λx6 k6=>fB (yO _ _ 0 ⟨by simp,by simp⟩ (by have:=h2.2.2 x6 k6;omega) ae) λy7 h7=>?_;refine yL ae (by have:=h3.1;omega) λx8 k8=>fB (yO _ _ _ h7 (by have:=h3.2.2 x8 k8;omega) ae) λy9 h9=>?_;refine yL ae (by have:=h4.1;omega) λx10 k10=>fB (yO _ _ _ h9 (by have:=h4.2.2 x10 k10;omega) ae) λy11 h11=>?_;refine jA 0 6 (λn t=>WL (3+n) t) 0 rfl ae ae h11 ?_ ?_
 intro i t k hi J hk;have hl:=J.1;unfold Jv;refine dY (λ_=>gu (λs=>WL (3+i+1) s) ?_ λs hs=>hk s hs) λh=>absurd (show(i:Int)<6 by omega) h;intro k16 T;exact fB (E8 _ _ aB) λC _=>gq (λ_=>fB (Lh _ aB) λg I=>iJ ai ai (T _ (J.add ae))) λ_=>T _ (J.mono ae)
 intro t _ h12;unfold Jv;refine dY (λh=>absurd h aB) λ_=>?_;refine jA 0 6 (λn t=>WL (9+n) t) 0 rfl ae ae h12 ?_ ?_
 intro i t k hi J hk;have hl:=J.1;unfold Ju;refine dY (λ_=>gu (λs=>WL (9+i+1) s) ?_ λs hs=>hk s hs) λh=>absurd (show(i:Int)<6 by omega) h;intro k16 T;exact fB (E8 _ _ aB) λC _=>gq (λ_=>fB (Lh _ aB) λg I=>uN bC λx hx=>iJ ai ai (T _ (J.add bC))) λ_=>T _ (J.mono ae)
 intro t _ h13;unfold Ju;refine dY (λh=>absurd h aB) λ_=>?_;refine jA 0 5 (λn t=>WL (15+n) t) 0 rfl ae ae h13 ?_ ?_
 intro i t k hi J hk;have hl:=J.1;unfold Jt;refine dY (λ_=>gu (λs=>WL (15+i+1) s) ?_ λs hs=>hk s hs) λh=>absurd (show(i:Int)<5 by omega) h;intro k16 T;exact fB (E8 _ _ aB) λC _=>gq (λ_=>fB (Nb _) λg I=>iJ ai ai (T _ (J.add ae))) λ_=>T _ (J.mono ae)
 intro t _ h14;unfold Jt;refine dY (λh=>absurd h aB) λ_=>?_;refine jA 0 5 (λn t=>WL (20+n) t) 0 rfl ae ae h14 ?_ ?_
 intro i t k hi J hk;have hl:=J.1;unfold Js;refine dY (λ_=>gu (λs=>WL (20+i+1) s) ?_ λs hs=>hk s hs) λh=>absurd (show(i:Int)<5 by omega) h;intro k16 T;exact fB (E8 _ _ aB) λC _=>gq (λ_=>fB (Nb _) λg I=>uN bC λx hx=>iJ ai ai (T _ (J.add bC))) λ_=>T _ (J.mono ae)
 intro t _ h15;have hl15:=h15.1;unfold Js;refine dY (λh=>absurd h aB) λ_=>?_;refine gu (λs=>WL 26 s) ?_ ?_
 intro k h;exact gq (λ_=>uN bC λx hx=>iJ ai ai (h _ (h15.add bC))) λ_=>h _ (h15.mono ae)
 intro s46 T;refine jA 0 17 (λn t=>WL (26+n) t) 0 rfl ae ae T ?_ ?_
 intro i t k hi J hk;have hl:=J.1;unfold Jr;refine dY (λ_=>gu (λs=>WL (26+i+1) s) ?_ λs hs=>hk s hs) λh=>absurd (show(i:Int)<17 by omega) h;intro k16 T;exact fB (E8 _ _ aB) λC _=>gq (λ_=>fB (SY _) λg I=>uN bC λx hx=>iJ ai ai (T _ (J.add bC))) λ_=>T _ (J.mono ae)
 intro t _ h17;unfold Jr;refine dY (λh=>absurd h aB) λ_=>?_;refine yL ae ae λx48 k48=>fB (yO _ _ _ h17 (by have:=h5.2.2 x48 k48;omega) ae) λy49 h49=>?_;refine fB (Dq _ _ aK hp) λy50 h50=>fB (yO _ _ _ h49 ae ae) λy51 h51=>?_;refine fB (Dq _ _ aK hq) λy52 h52=>fB (yO _ _ _ h51 ae ae) λy53 h53=>?_;refine fB (Dq _ _ aK hv) λy54 h54=>fB (yO _ _ _ h53 ae ae) λy55 h55=>?_;exact dY (λ_=>dX aK) λ_=>fB (aaN _ _ (h55.mono ae) aK) λy56 h56=>dX h56
theorem aaP (m:jP)(T:rX m):Ok (λr=>r.size<=28147497672100000) (Su m):=by
 unfold Su;have:=@XA;have:=@JK;have:=@aaL;have:=@aaM;have:=@aaO;have:=@Nc;exact TT
theorem Eb (l:List jP)(T:(uZ rX) l):Ok (λr=>True) (uy l):=by
 unfold uy;refine gu (λs=>s=false->l.length<=6) ?_ ?_
 grind[dY,eU]
 intro s hs;refine gq (λ_=>dX trivial) λe=>?_;have hl:=hs e;refine BO 0 l.length (λn t=>t.size<=28147497672200000*n) 0 rfl (Nat.zero_le _) ae aK ?_ ?_
 intro i t k hi I hk;unfold wW;refine dY (λ_=>gu (λs=>s.size<=28147497672200000*(i+1)) ?_ λs hs=>hk s hs) λh=>absurd (show(i:Int)<(l.length:Int) by omega) h;intro k8 h8;refine yL aB aB λC J=>fB (XA _ (T.2 C J)) λy8 _=>gq (λ_=>dX trivial) λ_=>gu (λs=>s.size<=28147497672200000*i+2) ?_ ?_
 grind[dY,uN,uP]
 intro s hs;exact yL aB aB λx g=>fB (aaP _ (T.2 x g)) λy hy=>uN ae λz hz=>h8 _ ae
 intro t k I;unfold wW;exact dY (λh=>absurd h ax) λ_=>dX trivial
theorem X8 (p:LX)  : Ok (λr=>True) (Pz p):=by
 unfold Pz;have:=@QL;exact TT
theorem Tf (when:Int)  : Ok (λr=>True) (Oq when):=by
 unfold Oq;exact TT
theorem OL (when:Int)  : Ok (λr=>True) (Ir when):=by
 unfold Ir;exact TT
theorem Ti (when:Int)  : Ok (λr=>True) (Ew when):=by
 unfold Ew;have:=@Tf;have:=@OL;exact TT
theorem adM (t:yf)(T:D9 t):Ok (λr=>True) (aau t):=by
 unfold aau;have:=@Tf;have:=@OL;have:=@Ti;have:=@wS;exact TT
theorem Qb (f:iO)(T:kL f):Ok (λr=>True) (G7 f):=by
 unfold G7;have:=@wS;exact TT
theorem X9 (J:qM)(T:yN J):Ok (λr=>True) (PD J):=by
 unfold PD;have:=@Qb;exact TT
theorem Ya (J:qM)(T:yN J):Ok (λr=>True) (PE J):=by
 unfold PE;exact TT
theorem adN (J:qM)(T:yN J):Ok (λr=>True) (aav J):=by
 unfold aav;have:=@X9;have:=@Ya;have:=@Qb;exact TT
theorem aaQ (s:sS)(T:MZ s):Ok (λr=>True) (Sv s):=by
 unfold Sv;have:=@wS;exact TT
theorem Yb (l:List sS)(T:(uZ MZ) l):Ok (λr=>True) (PG l):=by
 unfold PG Sz;have:=@aaQ;exact TT
theorem aaR (op:Int)  : Ok (λr=>True) (SA op):=by
 unfold SA;exact TT
theorem aaS (op:Int)  : Ok (λr=>r.size<=100) (SB op):=by
 unfold SB;exact TT
theorem uG (op:Int)(field:Int)  : Ok (λr=>True) (yx op field):=by
 unfold yx Vf;have:=@aaS;exact TT
theorem UB (kind:Int)  : Ok (λr=>True) (Gu kind):=by
 unfold Gu;exact TT
theorem adO (J:Xm)(specs:Int)(T:Uw J):Ok (λr=>True) (aaw J specs):=by
 unfold aaw;have:=@wS;have:=@UB;exact TT
theorem Tj (kind:Int)  : Ok (λr=>True) (Ot kind):=by
 unfold Ot;exact TT
theorem adP (a:Ae)(T:Ha a):Ok (λr=>True) (aax a):=by
 unfold aax;have:=@Tj;have:=@wS;exact TT
theorem aaT (l:List jP)(T:(uZ rX) l):Ok (λr=>True) (SC l):=by
 unfold SC;have:=@Eb;exact TT
theorem aaU (c:pz):Ok (λr=>True) (SE c):=by
 unfold SE;refine fB (QL c) λy1 h1=>gq (λ_=>dX trivial) λh=>?_;obtain⟨⟨_,_,I,g⟩,T⟩:=h1.1 aN;obtain⟨X,hX⟩:=Int.eq_ofNat_of_zero_le I;refine BO 0 X (λn t=>t.size<=n) 0 rfl (Nat.zero_le _) ae aK ?_ ?_
 grind[Ov,dY,uN,uP]
 intro t k C;unfold Ov;refine dY (λh=>absurd h aB) λ_=>gu (λs=>s.size<=24) ?_ ?_
 grind[rQ,fB,Nc,uN]
 intro s hs;refine BO 0 5 (λn t=>t.size<=24+9*n) 0 rfl ae ae ae ?_ ?_
 intro i t k hi C hk;unfold Ou;refine dY (λ_=>?_) λh=>absurd (show(i:Int)<5 by omega) h;have hc:=T i hi;refine kF (λs=>∃ n:Nat,s.2=(n:Int)/\n<=9/\s.1.size<=24+9*i+n) (λs=>10-s.2.toNat) ⟨0,rfl,by omega,by simp only;omega⟩ (by show 10-_<18446744073709551616;omega) ?_
 rintro⟨u,n'⟩ k15 ⟨n,e,hn,hu⟩ hk15
 simp only at e hu;subst e;unfold Vg;refine gu (λs=>s=decide ((n:Int)<Hf c.color i)) ?_ ?_
 intro k18 J;rcases five hi with rfl|rfl|rfl|rfl|rfl<;>exact PR ae (J _ rfl)
 rintro s rfl
 simp only;refine dY (λh=>?_) λh=>hk _ ae;have e1:=iY (n:=i) ae;have e2:=iY (n:=n) ae;rw[e1,e2];exact ahT ae ae bC λx hx=>uN ae λy hy=>hk15 _ ⟨n+1,rfl,by omega,by simp only;omega⟩ ai
 intro t k C;unfold Ou;exact dY (λh=>absurd h aB) λ_=>gq (λ_=>dX trivial) λ_=>dX trivial
theorem aaV (p:TZ Int)  : Ok (λr=>True) (Ox p):=by
 unfold Ox;exact TT
theorem UC (p:TZ Int)  : Ok (λr=>True) (Gv p):=by
 unfold Gv;have:=@aaV;have:=@aaU;exact TT
theorem XD (op:Int)(f:iO)(T:kL f):Ok (λr=>True) (MM op f):=by
 unfold MM;have:=@wS;exact TT
theorem adQ (pe:iK)(specs:Int)(T:qG pe):Ok (λr=>True) (aay pe specs):=by
 unfold aay;have z3:pe.ref.filter.sub.size<=1048576:=(((T).1));have z6:pe.amount.filter.sub.size<=1048576:=(((T).2.1));have z7:pe.card.size<=1048576:=(T).2.2.1;have z9:pe.filter.sub.size<=1048576:=((T).2.2.2.1);have z10:=((T).2.2.2.2).1;have z11:=((T).2.2.2.2).2;refine fB (aaR _ ) (λy1 h12=>?_);refine gq (λh13=>dX trivial) (λh13=>?_);refine QK (λv2 h14=>?_);refine gu (λ(s3:Bool)=>True) (λk4 hk15=>fB (uG _ _ ) (λy6 h17=>gq (λh18=>fB (adO _ _ (by first|assumption|(refine⟨by omega,?_⟩;first|(intro _ _;trivial)|assumption)|(unfold Uw;simp_all[szB,uZ]))) (λy7 h19=>hk15 _ trivial)) (λh18=>hk15 _ trivial))) (λs3 hs16=>?_);refine gu (λ(s8:Bool)=>s8=false->¬(pe.iL=0)) (λk9 J=>dY (λh22=>J _ ai) (λh22=>fB (uG _ _ ) (λy11 h23=>gq (λh24=>dY (λh25=>J _ ai) (λh25=>J _ ai)) (λh24=>J _ ai)))) (λs8 hs21=>?_);refine gu (λ(s12:Bool)=>s12=false->¬(pe.counter=0)) (λk13 C=>dY (λh28=>C _ ai) (λh28=>fB (uG _ _ ) (λy15 h29=>gq (λh30=>fB (Tj _ ) (λy16 h31=>C _ ai)) (λh30=>C _ ai)))) (λs12 hs27=>?_)
 refine gu (λ(s17:Bool)=>True) (λk18 g=>fB (uG _ _ ) (λy20 h34=>gq (λh35=>fB (QM _ (by first|assumption|(show _<=1048576;(try simp only[uP,List.length_cons,List.length_nil]);omega))) (λy21 h36=>g _ trivial)) (λh35=>g _ trivial))) (λs17 hs33=>?_);refine QK (λv22 h37=>?_);refine gu (λ(s23:Bool)=>True) (λk24 t=>fB (uG _ _ ) (λy26 h40=>gq (λh41=>fB (adP _ (by first|assumption|(refine⟨by omega,?_⟩;first|(intro _ _;trivial)|assumption)|(unfold Ha;simp_all[szB,uZ]))) (λy27 h42=>t _ trivial)) (λh41=>t _ trivial))) (λs23 hs39=>?_);refine gu (λ(s28:Bool)=>True) (λk29 hk43=>fB (uG _ _ ) (λy31 h45=>gq (λh46=>fB (aaT _ (by first|assumption|(refine⟨by omega,?_⟩;grind))) (λy32 h47=>hk43 _ trivial)) (λh46=>hk43 _ trivial))) (λs28 hs44=>?_);refine QK (λv33 h48=>?_);refine gu (λ(s34:Bool)=>True) (λk35 I=>fB (uG _ _ ) (λy37 h51=>gq (λh52=>gq (λh53=>fB (UC _ ) (λy38 h54=>I _ trivial)) (λh53=>I _ trivial)) (λh52=>I _ trivial))) (λs34 hs50=>?_);refine QK (λv39 h55=>?_);refine gu (λ(s40:Bool)=>True) (λk41 hk56=>fB (uG _ _ ) (λy43 h58=>gq (λh59=>fB (XD _ _ (by grind[kL,szB])) (λy44 h60=>hk56 _ trivial)) (λh59=>hk56 _ trivial))) (λs40 hs57=>?_)
 refine gq (λh61=>?_) (λh61=>dX trivial);apply gq<;>intro h62
 refine gq (λh63=>gq (λh64=>gq (λh65=>gq (λh66=>gq (λh67=>dX trivial) (λh67=>dX trivial)) (λh66=>dX trivial)) (λh65=>dX trivial)) (λh64=>dX trivial)) (λh63=>?_)
 simp_all[dX]
 simp_all[dX]
theorem Vy (l:List iK)(n:Int)(T:(uZ qG) l):Ok (λr=>True) (Jw l n):=by
 unfold Jw Oy;have:=@adQ;exact TT
theorem Nh (a:gz)(T:kQ a):Ok (λr=>True) (MN a):=by
 unfold MN;have:=@wS;have:=@Eb;have:=@X8;have:=@adM;have:=@adN;have:=@Yb;have:=@Vy;exact TT
theorem aaW (c:gV)(T:nU c):Ok (λr=>True) (SH c):=by
 unfold SH;exact TT
theorem Vm (c:pz)  : Ok (λr=>True) (JB c):=by
 unfold JB MR;exact TT
theorem Vz (c:pz)  : Ok (λr=>True) (yC c):=by
 unfold yC yB;have:=@Vm;exact TT
theorem FP (mask:Int)(key:Int)  : Ok (λr=>True) (oL mask key):=by
 unfold oL;exact TT
theorem aco (s:ByteArray)(J:szB s):Ok (λr=>True) (MS s):=by
 have z1:s.size<=1048576:=J;unfold MS;refine gu (λ_=>True) (λk2 hk=>?_) (λI _=>?_)
 refine dY (λh0=>hk _ trivial) λh0=>dY (λh1=>hk _ trivial) λh1=>?_;refine aaB ae ae λx4 _=>dY (λ_=>hk _ trivial) λ_=>?_;refine aaB ae ae λx5 _=>dY (λ_=>hk _ trivial) λ_=>?_;have e:rP (s.size:Int) 1=(s.size:Int)-1:=EJ ae ae;rw[e];refine aaB ae ae λx6 _=>dY (λ_=>hk _ trivial) λ_=>?_
 have:strings_Contains s (bs [45,45])=some (Lib.contains s.data.toList (bs [45,45]).data.toList):=by
  unfold strings_Contains ahL
  grind
 rw[this];exact hk _ trivial
 refine gq (λ_=>dX trivial) λ_=>QK λC hx=>?_;have hl:C.length<=1048576:=by simp_all[Fh]
 refine kF (λ(I:Int)=>0<=I/\I<=(C.length:Int)) (λ(I:Int)=>((C.length:Int)-I).toNat) ⟨by omega,by omega⟩ (by show _<18446744073709551616;omega) (λs9 k10 t hk=>?_);obtain⟨i0,i1⟩:=t;unfold II;refine dY (λh3=>?_) λ_=>dX trivial;simp only[eU] at h3;refine yL i0 ae λx12 _=>gu (λ_=>True) (λk14 T=>?_) λg _=>?_
 refine dY (λ_=>dY (λ_=>T _ trivial) λ_=>dY (λ_=>T _ trivial) λ_=>T _ trivial) λ_=>dY (λ_=>dY (λ_=>T _ trivial) λ_=>dY (λ_=>T _ trivial) λ_=>T _ trivial) λ_=>T _ trivial
 refine gq (λ_=>dX trivial) λ_=>?_
 grind[wH]
theorem QO (i:Int)(J:0<=i)(T:i<2):Ok (λr=>True) (vN i):=by
 unfold vN;exact TT
theorem aaX (s:ByteArray)(n:Int)(name:Int->Option ByteArray)(J:0<=n/\n<=60)(T:∀ i,0<=i->i<n->Ok (λ_=>True) (name i)):Ok (λr=>True) (EY s n name):=by
 unfold EY JE;exact TT
theorem Tm (i:Int)(J:0<=i)(T:i<6):Ok (λr=>True) (xy i):=by
 unfold xy;exact TT
theorem IU (s:ByteArray)(T:szB s):Ok (λr=>True) (wP s):=by
 unfold wP;have:=@aco;have:=@aaX;have:=@QO;have:=@Tm;exact TT
theorem IV (n:Int)(most:Int)  : Ok (λr=>True) (kC n most):=by
 unfold kC;exact TT
theorem QP (b:sQ)  : Ok (λr=>True) (qO b):=by
 unfold qO;have:=@IV;exact TT
theorem Qc (f:iO)(T:kL f):Ok (λr=>True) (D5 f):=by
 unfold D5;have:=@IV;have:=@IU;have:=@QP;exact TT
theorem QQ (T:Int)(I:Int)(J:Int)  : Ok (λr=>True) (lJ T I J):=by
 unfold lJ;exact TT
theorem Qd (b:sQ)(n:Int)  : Ok (λr=>True) (D6 b n):=by
 unfold D6;exact TT
theorem QR (b:sQ)(n:Int)(c2:Bool)  : Ok (λr=>True) (vO b n c2):=by
 unfold vO;have:=@Qd;exact TT
theorem Lj (s:List ByteArray)(v:ByteArray)(J:(uZ szB) s)(T:szB v):Ok (λr=>True) (slices_Index_string s v):=by
 unfold slices_Index_string rU;exact TT
theorem IW (s:List ByteArray)(v:ByteArray)(J:(uZ szB) s)(T:szB v):Ok (λr=>True) (slices_Contains_string s v):=by
 unfold slices_Contains_string;have:=@Lj;exact TT
theorem FQ (l:rZ)(sub:ByteArray)(J:Dp l)(T:szB sub):Ok (λr=>True) (oO l sub):=by
 unfold oO;have:=@IW;exact TT
theorem xB (n:Int)  : Ok (λr=>-1000000<=r/\r<=1000000) (qh n):=by
 unfold qh;exact TT
theorem acp (a:Int)(b:Int)  : Ok (λr=>True) (PM a b):=by
 unfold PM;have:=@xB;exact TT
theorem Bv (a:Int)(b:Int)  : Ok (λr=>True) (Ez a b):=by
 unfold Ez;have:=@xB;exact TT
theorem OM (c:pz)(x:Int)  : Ok (λr=>True) (A7 c x):=by
 unfold A7;refine fB (Vm _ ) (λy1 h1=>?_);refine gq (λh2=>dX trivial) (λh2=>?_);refine kF (λ(T:Int×Int)=>0<=T.2/\T.2<=5) (λ(T:Int×Int)=>(5-T.2).toNat) ⟨ai,ai⟩ aX (λT k3 J hk4=>?_);obtain⟨C,I⟩:=J;unfold EE;refine dY (λh5=>?_) (λh5=>fB (acp _ _ ) (λy9 g=>fB (Bv _ _ ) (λy10 h11=>dX trivial)));refine gu (λ(s5:Int)=>True) (λk6 hk6=>?_) (λs5 t=>?_)
 refine adH ai ai (λj8 h8=>?_)
 grind
 grind[wH]
theorem zh (o:fD)(t:eF)(you:Int)(source:Int)(f:iO)(T:jX t)(J:kL f):Ok (λr=>True) (mJ o t you source f):=by
 unfold mJ;have:=@Qc;have:=@QQ;have:=@FQ;have:=@FP;have:=@QR;have:=@OM;have:=@Qd;exact TT
theorem acr (a:Int)(b:Int)  : Ok (λr=>True) (PL a b):=by
 unfold PL;have:=@xB;exact TT
theorem Tn (c:NW Int)  : Ok (λr=>True) (xx c):=by
 unfold xx;have:=@acr;exact TT
theorem Yd (kind:Int)  : Ok (λr=>True) (vI kind):=by
 unfold vI;exact TT
theorem adR (n:Int)(least:Int)(most:Int)  : Ok (λr=>True) (A8 n least most):=by
 unfold A8;exact TT
theorem aaY (m:jP)(T:rX m):Ok (λr=>True) (OB m):=by
 unfold OB;exact TT
theorem adS (m:jP)(T:rX m):Ok (λr=>True) (Um m):=by
 unfold Um;have:=@adR;have:=@aaY;have:=@IU;have:=@Qc;exact TT
theorem FX (f:iO)(stage:Int)(T:kL f):Ok (λr=>True) (lY f stage):=by
 unfold lY;exact TT
theorem sN {α:Type}{l:List α}{b:Nat}(h:(2*l.length+192)*b<=140737488355328)(h2:l.length<=4611686018427387904):qx (some ([]:List α)) (iy (0+l.length) b (some l))=some l :=
 ok_eq (Nw (iJ ai ae (dX rfl)))
theorem set_self {α:Type}{l:List α}{j:Nat}(h:j<l.length){x:α}(e:l[j]=x):l.set j x=l:=by subst e;simp_all
theorem XE (t:eF)(h:jX t):D7 t=some t:=by
 obtain⟨_,h2,C⟩:=h;have q2:=h2.1;have q3:=C.1;unfold D7;refine ok_eq (eP aO (eP (by unfold yF;exact sN ai ai) ?_));refine jA 0 t.fC.length (λn l=>l=t.fC) 0 rfl (Nat.zero_le _) ae rfl (λi l k hi T hk=>?_) λl k T=>?_
 subst T;obtain⟨_,g1,_,g2,g3,_⟩:=C.2 _ (List.getElem_mem hi);have p1:=g1.1;have p2:=g2.1;have p3:=g3.1;unfold EH;refine dY (λ_=>iD i rfl hi (gY hi ?_)) λh=>absurd (show(i:Int)<(t.fC.length:Int) by omega) h;refine eP aG (eP aV (eP (by unfold wR;exact sN ai ai) ?_));refine jA 0 (t.fC[i]).jJ.length (λn l=>l=(t.fC[i]).jJ) 0 rfl (Nat.zero_le _) ae rfl (λj l2 k2 hj I J=>?_) λl2 k2 I=>?_
 subst I;have g:=(g3.2 _ (List.getElem_mem hj)).2.2.2.2.1;unfold EG;refine dY (λ_=>iD j rfl hj (gY hj (eP aG (iD j rfl hj (gY hj (J _ ?_)))))) λh=>absurd (show(j:Int)<((t.fC[i]).jJ.length:Int) by omega) h;exact set_self hj rfl
 subst I;unfold EG;refine dY (λh=>absurd h (by show ¬ ((t.fC[i]).jJ.length:Int)<((t.fC[i]).jJ.length:Int);omega)) λ_=>hk _ ?_;exact set_self hi rfl
 subst T;unfold EH;exact dY (λh=>absurd h (by show ¬ (t.fC.length:Int)<(t.fC.length:Int);omega)) λ_=>dX rfl
theorem Zj (a:gz)(h:kQ a):vF a=some a:=by
 obtain⟨_,g1,_,g2,g3,_⟩:=h;have p1:=g1.1;have p2:=g2.1;have p3:=g3.1;unfold vF;refine ok_eq (eP aG (eP aV (eP bP ?_)));refine jA 0 a.jJ.length (λn l=>l=a.jJ) 0 rfl (Nat.zero_le _) ae rfl (λj l2 k2 hj J T=>?_) λl2 k2 J=>?_
 subst J;have I:=(g3.2 _ (List.getElem_mem hj)).2.2.2.2.1;unfold uQ;refine dY (λ_=>iD j rfl hj (gY hj (eP aG (iD j rfl hj (gY hj (T _ ?_)))))) λh=>absurd (show(j:Int)<(a.jJ.length:Int) by omega) h;exact set_self hj rfl
 subst J;unfold uQ;exact dY (λh=>absurd h aQ) λ_=>dX rfl
structure adT (c:gV)(t:eF):Prop where
 name:t.name=c.name
 line:t.line=c.line
 keys:t.keys=c.keys
 af4:t.fC=c.fC
 power:t.power=c.power
 gK:t.gK=c.gK
theorem acs (c:gV)(h:nU c):Ok (adT c) (qK c):=by
 obtain⟨h1,h2,J⟩:=h;have g:=J.1;have q2:=h2.1;unfold qK;refine fB (Vz c.cost) λC _=>eP aO ?_;refine jA 0 c.fC.length (λn t=>t=c.fC.take n) 0 rfl (Nat.zero_le _) ae rfl (λi t k hi T hk=>?_) λt k T=>?_
 have I:t.length<=1048576:=by grind
 unfold uf;refine dY (λ_=>fO i rfl hi (eP (Zj _ (J.2 _ (List.getElem_mem hi))) (iJ ai ai (hk _ ?_)))) λh=>absurd (show(i:Int)<(c.fC.length:Int) by omega) h
 simp_all
 unfold uf;rw[oh] at T;refine dY (λh=>absurd h aP) λ_=>dX ⟨rfl,rfl,rfl,T,rfl,rfl⟩
theorem ah2:jX jw:=by simp[jX,Dp,szB,uZ,jw,Xo,uP]
theorem adU (s:List ByteArray)(f:ByteArray->Option Bool)(hs:s.length<=2000000)(U:∀ x∈s,∃ b,f x=some b):Ok (λr=>r<=(s.length:Int)) (mX s f):=by
 unfold mX;refine kM 0 s.length (λ_=>True) 0 rfl (Nat.zero_le _) ae trivial (λi k hi _ hk=>?_) λk _=>?_
 obtain⟨b,T⟩:=U _ (List.getElem_mem hi);unfold nD;exact dY (λ_=>fO i rfl hi (eP T (gq (λ_=>dX ai) λ_=>hk trivial))) λh=>absurd (show(i:Int)<(s.length:Int) by omega) h
 unfold nD;exact dY (λh=>absurd h aY) λ_=>dX ai
theorem adV (l:rZ)(sub:ByteArray)(J:Dp l)(hs:szB sub):Ok Dp (yG l sub):=by
 have q:=J.1;unfold yG;refine eP aO (gu (λb=>b=false->eU l.subs<4) (λk hk=>?_) λb C=>?_)
 refine fB (IU sub hs) λ_ _=>gq (λ_=>hk _ λh=>by cases h) λ_=>fB (FQ _ sub J hs) λ_ _=>gq (λ_=>hk _ λh=>by cases h) λ_=>hk _ λh=>?_
 grind
 refine gq (λ_=>dX J) λh=>?_;have I:=C h;simp only[eU] at I;refine fB (adU l.subs _ ae λx T=>?_) λy hy=>gu (λi=>0<=i/\i<=(l.subs.length:Int)) (λk hk=>dY (λ_=>hk _ ⟨by grind[eU],by grind[eU]⟩) λh=>hk _ ⟨by omega,by omega⟩) λi hi=>?_
 exact⟨_,rfl⟩
 obtain⟨n,rfl⟩:=Int.eq_ofNat_of_zero_le hi.1;refine eP (YZ ae aj aU) (dX ⟨?_,λx T=>?_⟩)
 simp;omega
 rcases List.mem_append.1 T with T|T
 rcases List.mem_append.1 T with T|T
 exact J.2 x (List.mem_of_mem_take T)
 grind
 exact J.2 x (List.mem_of_mem_drop T)
theorem af5 (t:eF)(m:jP)(you count:Int)(T:jX t)(I:rX m):Ok jX (D8 t m you count):=by
 have nil:jX { t with keys:=0,fC:=[] }:=⟨T.1,T.2.1,⟨by simp,by simp⟩⟩;have J:jX { t with line:={ t.line with subs:=[m.sub] } }:=⟨T.1,⟨by simp,λx g=>by rw[List.mem_singleton.1 g];exact I.1⟩,T.2.2⟩;unfold D8;refine eP (XE t T) (fB (adS m I) λy _=>gq (λ_=>dX T) λ_=>?_)
 exact dY (λ_=>dX T) λ_=>dY (λ_=>dX T) λ_=>dY (λ_=>dX T) λ_=>dY (λ_=>dX J) λ_=>
  dY (λ_=>fB (adV _ _ T.2.1 I.1) λl C=>dX ⟨T.1,C,T.2.2⟩) λ_=>dY (λ_=>dX T) λ_=>dY (λ_=>dX T) λ_=>dY (λ_=>dX T) λ_=>dY (λ_=>dX T) λ_=>
  dY (λ_=>dX nil) λ_=>dY (λ_=>fB (xB _) λ_ _=>fB (xB _) λ_ _=>dX T) λ_=>dY (λ_=>dX T) λ_=>
  dY (λ_=>fB (Bv _ _) λ_ _=>fB (Bv _ _) λ_ _=>dX T) λ_=>dY (λ_=>dX T) λ_=>dX T
theorem acu (a:gz)(h:kQ a):ru a=some a:=by
 obtain⟨_,g1,_,g2,g3,_⟩:=h;have p1:=g1.1;have p2:=g2.1;have p3:=g3.1;unfold ru;refine ok_eq (eP aG (eP aV (eP bP ?_)));refine jA 0 a.jJ.length (λn l=>l=a.jJ) 0 rfl (Nat.zero_le _) ae rfl (λj l2 k2 hj J T=>?_) λl2 k2 J=>?_
 subst J;have I:=(g3.2 _ (List.getElem_mem hj)).2.2.2.2.1;unfold uB;refine dY (λ_=>iD j rfl hj (gY hj (eP aG (iD j rfl hj (gY hj (T _ ?_)))))) λh=>absurd (show(j:Int)<(a.jJ.length:Int) by omega) h;exact set_self hj rfl
 subst J;unfold uB;exact dY (λh=>absurd h aQ) λ_=>dX rfl
def aaZ (all:List eF):Prop:=∀ t∈all,jX t
def yP (w:dV):Prop:=kQ w.ja
theorem ah3 (all:List eF)(i:Nat)(h:aaZ all):Ok jX (CV all (i:Int)):=by
 unfold CV;exact dY (λh1=>yL ae (by simpa [eU] using h1) λx T=>dX (h x T)) λ_=>dX ah2
theorem acv (s:dZ)(all:List eF)(w:dV)(id:Int)(hs:s.objects.length<=2048)(J:aaZ all)(T:yP w):Ok (λ_=>True) (IK s all w id):=by
 unfold IK;refine kM 0 s.objects.length (λ_=>True) 0 rfl (Nat.zero_le _) ae trivial (λi k hi _ hk=>?_) λk _=>?_
 unfold J6;exact dY (λ_=>fO i rfl hi (dY (λ_=>fB (ah3 _ _ J) λt I=>fB (zh _ _ _ _ _ I T.2.2.1) λ_ _=>dX trivial) λ_=>hk trivial)) λh=>absurd (show(i:Int)<(s.objects.length:Int) by omega) h
 unfold J6;exact dY (λh=>absurd h aF) λ_=>dX trivial
theorem Zk (l:List fD)(f:fD->Option Bool)(T:l.length<=2000000)(U:∀ x,Ok (λ_=>True) (f x)):Ok (λr=>r<(l.length:Int)) (jb l f):=by
 unfold jb;refine kM 0 l.length (λ_=>True) 0 rfl (Nat.zero_le _) ae trivial (λi k hi _ hk=>?_) λk _=>?_
 unfold pV;exact dY (λ_=>fO i rfl hi (fB (U _) λb _=>gq (λ_=>dX ai) λ_=>hk trivial)) λh=>absurd (show(i:Int)<(l.length:Int) by omega) h
 unfold pV;exact dY (λh=>absurd h ax) λ_=>dX ai
theorem Tq (l:List fD)(f:fD->Option Bool)(T:l.length<=2000000)(U:∀ x,Ok (λ_=>True) (f x)):Ok (λ_=>True) (lM l f):=by
 unfold lM;exact fB (Zk l f T U) λ_ _=>dX trivial
structure VV (c:kz):Prop where
 b:c.before.objects.length<=2048
 a:c.after.objects.length<=2048
 ab:aaZ c.mV
 aa:aaZ c.oJ
 k2:c.e.kind≠2
 k10:c.e.kind≠10
theorem left_ok {c:kz}(h:VV c):Ok (λ_=>True) (IL c):=by
 unfold IL;refine fB (Tq _ _ (by have:=h.b;omega) λx=>?_) λ_ _=>fB (Tq _ _ (by have:=h.a;omega) λx=>?_) λ_ _=>?_
 simp_all[CX,dY,dX]
 simp_all[CY,dX]
 exact dY (λ_=>gq (λ_=>dX trivial) λ_=>dX trivial) λ_=>dX trivial
theorem acw (kind id:Int)(s:dZ)(all:List eF)(c:kz){w:dV}(hs:s.objects.length<=2048)(J:aaZ all)(T:yP w):Ok (λr=>r.length<=1) (mF kind id s all c w):=by
 grind[mF,fB,acv,gq,dX]
theorem acx {c:kz}{w:dV}(h:VV c)(T:yP w):Ok (λr=>r.length<=1) (C9 c w):=by
 have nil:Ok (λr:List Int=>r.length<=1) (some []):=dX aj;have B:=λkind id=>fB (acw kind id c.before c.mV c h.b h.ab T) (k:=λy=>some y) λy hy=>dX (Q:=λr:List Int=>r.length<=1) hy;have A:=λkind id=>fB (acw kind id c.after c.oJ c h.a h.aa T) (k:=λy=>some y) λy hy=>dX (Q:=λr:List Int=>r.length<=1) hy;unfold C9;refine dY (λ_=>gu (λb=>b=true) (λk hk=>?_) λb J=>by subst J;exact nil) λ_=>?_
 exact rQ (λ_=>hk _ (by simp[h.k10])) λe=>absurd e h.k2
 refine dY (λ_=>fB (left_ok h) λ_ _=>gq (λ_=>B _ _) λ_=>nil) λ_=>?_;refine dY (λ_=>gu (λ_=>True) (λk hk=>fB (left_ok h) λ_ _=>gq (λ_=>hk _ trivial) λ_=>hk _ trivial) λb _=>gq (λ_=>B _ _) λ_=>nil) λ_=>?_;exact dY (λ_=>A _ _) λ_=>dY (λ_=>A _ _) λ_=>dY (λ_=>A _ _) λ_=>dY (λ_=>B _ _) λ_=>dY (λ_=>rQ (λ_=>B _ _) λ_=>nil) λ_=>nil
theorem adW (s:dZ)(p you who:Int):Ok (λ_=>True) (GN s p you who):=by
 unfold GN;refine gu (λ_=>True) (λk hk=>dY (λ_=>hk _ trivial) λh0=>dY (λ_=>hk _ trivial) λh1=>yL ae bM λ_ _=>hk _ trivial) λb _=>?_;exact gq (λ_=>dX trivial) λ_=>dY (λ_=>dX trivial) λ_=>dY (λ_=>dX trivial) λ_=>dY (λ_=>dX trivial) λ_=>dX trivial
theorem af6 (n:Int):Ok (λ_=>True) (GL n):=by
 unfold GL;exact dY (λ_=>dX trivial) λ_=>dY (λ_=>dX trivial) λ_=>dY (λ_=>dX trivial) λ_=>dY (λ_=>dX trivial) λ_=>dY (λ_=>dX trivial) λ_=>dY (λ_=>dX trivial) λ_=>dX trivial
def UD (n:Nat)(r:List gU):Prop:=r.length<=n/\∀ x∈r,tH x
theorem adX {c:kz}{w:dV}(h:VV c)(J:yP w):Ok (UD 1) (zZ c w):=by
 have nil:UD 1 []:=⟨by simp,by simp⟩;unfold zZ;refine eP (acu _ J) (fB (af6 _) λy _=>rQ (λ_=>?_) λ_=>?_)
 refine gu (λ_=>True) (λk hk=>dY (λ_=>fB (adW _ _ _ _) λ_ _=>hk _ trivial) λ_=>hk _ trivial) λb _=>?_;refine gu (λ_=>True) (λk hk=>gq (λ_=>hk _ trivial) λ_=>dY (λ_=>fB (acv _ _ _ _ h.a h.aa J) λ_ _=>hk _ trivial) λ_=>hk _ trivial) λb _=>?_;refine gq (λ_=>dX nil) λ_=>dX ⟨by simp,λx T=>?_⟩;rw[List.mem_singleton.1 T];exact J
 refine fB (acx h J) λl hl=>?_;refine jA 0 l.length (λi t=>UD i t) 0 rfl (Nat.zero_le _) ae ⟨by simp,by simp⟩ (λi t k hi g hk=>?_) λt k g=>?_
 have h1:=g.1;unfold zg;refine dY (λ_=>gu (UD (i+1)) (λk16 h16=>?_) λu hu=>hk u hu) λh=>absurd (show(i:Int)<(l.length:Int) by omega) h;refine fO i rfl hi (eP (acu _ J) (gu (λ_=>True) (λk21 C=>gu (λ_=>True) (λk24 I=>dY (λ_=>I _ trivial) λ_=>I _ trivial) λb _=>gq (λ_=>C _ trivial) λ_=>C _ trivial) λo _=>iJ ai ai (h16 _ ⟨by simp;omega,λx T=>?_⟩)));rcases List.mem_append.1 T with T|T
 grind
 rw[List.mem_singleton.1 T];exact J
 unfold zg;exact dY (λh=>absurd h ax) λ_=>dX ⟨by have:=g.1;grind,g.2⟩
theorem aa0 (n:Int):Ok (λ_=>True) (AA n):=by
 unfold AA;exact dY (λ_=>dX trivial) λ_=>dY (λ_=>dX trivial) λ_=>dY (λ_=>dX trivial) λ_=>dX trivial
theorem ah4 {l:List dV}(w:dV)(h:l.length<=10000000000):vU l w=some (true,l++[w]):=by
 unfold vU;have e:l.length+[w].length=l.length+1:=rfl;rw[e];exact ok_eq (iJ ae ae (dX rfl))
theorem ae6 (l0:List dV)(s:dZ)(all:List eF)(e:Bool)(hs:s.objects.length<=2048)(ha:aaZ all)(h0:l0.length<=3000000000)(hp:∀ x∈l0,yP x):Ok (λr=>r.length<=l0.length+2147483648/\∀ x∈r,yP x) (oU l0 s all e):=by
 unfold oU;refine jA 0 s.objects.length (λi t=>t.length<=l0.length+1048576*i/\∀ x∈t,yP x) 0 rfl (Nat.zero_le _) ae ⟨by omega,hp⟩ (λi t k hi hI hk=>?_) λt k hI=>?_
 have jf:t.length<=l0.length+1048576*i:=hI.1;have up:t.length<=l0.length+1048576*(i+1):=by omega
 have T:=hI.2;unfold ry;refine dY (λ_=>gu (λu=>u.length<=l0.length+1048576*(i+1)/\∀ x∈u,yP x) (λk5 h5=>?_) λu hu=>hk u hu) λh=>absurd (show(i:Int)<(s.objects.length:Int) by omega) h;refine fO i rfl hi (rQ (λ_=>h5 _ ⟨up,T⟩) λ_=>fB (ah3 _ _ ha) λtr htr=>?_);have hal:=htr.2.2.1;refine kF (λq=>∃ j:Nat,q.2.1=(j:Int)/\j<=tr.fC.length/\q.2.2.length<=l0.length+1048576*i+j/\∀ x∈q.2.2,yP x) (λq=>tr.fC.length-q.2.1.toNat) ⟨0,rfl,by omega,by simpa using jf,T⟩ (by show tr.fC.length-_<18446744073709551616;omega) ?_
 rintro⟨o,j',u⟩ k10 ⟨j,ej,hj,hu,hU⟩ hk10
 simp only at ej hu hU;subst ej;unfold vV;refine dY (λh=>?_) λh=>h5 _ ⟨by grind,hU⟩;have I:j<tr.fC.length:=by grind[eU]
 refine gu (λq=>q.2.length<=l0.length+1048576*i+(j+1)/\∀ x∈q.2,yP x) (λk13 g=>?_) λq hq=>hk10 _ ⟨j+1,iY ae,by omega,hq.1,hq.2⟩ dw;refine fO j rfl I (gu (λ_=>True) (λk17 C=>rQ (λ_=>C _ trivial) λ_=>fB (aa0 _) λ_ _=>C _ trivial) λb _=>gq (λ_=>g _ ⟨by grind,hU⟩) λ_=>eP (ah4 _ ai) (iE rfl (g _ ⟨by grind,λx J=>?_⟩)));rcases List.mem_append.1 J with J|J
 exact hU x J
 rw[List.mem_singleton.1 J];exact htr.2.2.2 _ (List.getElem_mem I)
 unfold ry;exact dY (λh=>absurd h aF) λ_=>dX ⟨by grind,hI.2⟩
theorem ajY (a b:dV):Ok (λ_=>True) (og a b):=by
 have C:∀ x y:Int,Ok (λ_=>True) (cmp_Compare_int x y):=λx y=>by
  unfold cmp_Compare_int cmp_isNaN_int;exact eP rfl (eP rfl (gq (λ_=>gq (λ_=>dX trivial) λ_=>dX trivial) λ_=>gq (λ_=>dX trivial) λ_=>dY (λ_=>dX trivial) λ_=>dY (λ_=>dX trivial) λ_=>dX trivial))
 unfold og;refine fB (C _ _) λx _=>fB (C _ _) λy _=>fB (R:=λ_=>True) ?_ λ_ _=>dX trivial;unfold QJ;refine kM 0 2 (λ_=>True) 0 rfl ae ae trivial (λi k hi _ hk=>?_) λk _=>?_
 unfold J5;exact dY (λ_=>fO i rfl bH (rQ (λ_=>dX trivial) λ_=>hk trivial)) λ_=>dX trivial
 unfold J5;exact dY (λh=>absurd h dP) λ_=>dX trivial
theorem ah5 (b:dZ)(ab:List eF)(a:dZ)(aa:List eF)(e:jS)(h:VV ⟨b,a,ab,aa,e⟩):Ok (UD 5000000000) (yJ b ab a aa e):=by
 unfold yJ Az;refine eP rfl (fB (ae6 [] b ab true h.b h.ab aj aj) λl1 h1=>eP rfl (fB (ae6 l1 a aa false h.a h.aa ai h1.2) λl2 h2=>?_));have hlen:l2.length<=5000000000:=by grind
 refine fB (ahU ajY (P:=yP) ae h2.2) λd g=>?_;have hdl:=g.len;have T:d.length<=5000000000:=by omega
 refine jA 0 d.length (λi t=>t.2=d/\UD i t.1) 0 rfl (Nat.zero_le _) ae ⟨rfl,by simp,by simp⟩ (λi t k hi C hk=>?_) λt k C=>?_
 obtain⟨t1,t2⟩:=t;obtain⟨rfl,J,i2⟩:=C;have J:t1.length<=i:=J;have i2:∀ x∈t1,tH x:=i2;have hi:i<t2.length:=hi;have T:t2.length<=5000000000:=T;unfold Dc;refine dY (λ_=>iD i rfl hi (gY hi (fB (adX h (g.get hi)) λy hy=>iJ ?_ ?_ (hk _ ⟨rfl,?_,λx I=>?_⟩)))) λh=>absurd (show(i:Int)<(t2.length:Int) by omega) h
 have:=hy.1;grind
 have:=hy.1;grind
 have:=hy.1;grind
 rcases List.mem_append.1 I with I|I
 exact i2 x I
 exact hy.2 x I
 obtain⟨t1,t2⟩:=t;obtain⟨rfl,J,i2⟩:=C;have J:t1.length<=t2.length:=J;have T:t2.length<=5000000000:=T;unfold Dc;exact dY (λh=>absurd h (by show ¬ (t2.length:Int)<(t2.length:Int);omega)) λ_=>dX ⟨Nat.le_trans J T,i2⟩
theorem af7 {l:List jl}(h:l.length<=1048576):zC l=some l:=ok_eq (Nw (iJ ae ae (dX rfl)))
theorem QS {l:List Int}(h:l.length<=1048576):slices_Clone_int l=some l:=ok_eq (Nw (iJ ae ae (dX rfl)))
theorem af8 {l:List fD}(h:l.length<=1048576):zD l=some l:=ok_eq (Nw (iJ ae ae (dX rfl)))
theorem ajZ {l:List nJ}(h:l.length<=1048576):CG l=some l:=ok_eq (Nw (iJ ae ae (dX rfl)))
theorem aj0 {l:List sS}(h:l.length<=1048576):nN l=some l:=ok_eq (Nw (iJ ae ae (dX rfl)))
theorem af9 {l:List iK}(h:l.length<=1048576):pY l=some l:=ok_eq (Nw (iJ ae ae (dX rfl)))
theorem adY {l:List jP}(h:l.length<=1048576):jF l=some l:=ok_eq (Nw (iJ ae ae (dX rfl)))
theorem aga {l:List qI}(h:l.length<=1048576):zF l=some l:=ok_eq (Nw (iJ ae ae (dX rfl)))
theorem adZ {l:List gU}(h:l.length<=1048576):yI l=some l:=ok_eq (Nw (iJ ae ae (dX rfl)))
theorem aj1 {l:List pF}(h:l.length<=1048576):CJ l=some l:=ok_eq (Nw (iJ ae ae (dX rfl)))
theorem Nj {α:Type}{l:List α}{i:Nat}(h:i<l.length):l.set i l[i]=l:=List.set_getElem_self h
theorem ah6 {e:iK}(h:qG e):e.fP.length<=1048576:=h.2.2.2.2.1
theorem OO (a:gz)(T:kQ a):sH a=some a:=by
 have h1:a.fP.length<=1048576:=T.2.1.1;have h2:a.specs.length<=1048576:=T.2.2.2.1.1;have J:a.jJ.length<=1048576:=T.2.2.2.2.1.1;unfold sH;refine ok_eq (eP (adY h1) (eP (aj0 h2) (eP (af9 J) ?_)));refine jA 0 a.jJ.length (λ_ t=>t=a.jJ) 0 rfl (Nat.zero_le _) ae rfl ?_ ?_
 rintro i t k hi rfl hk
 have I:=ah6 (T.2.2.2.2.1.2 _ (List.getElem_mem hi));unfold uV;exact dY (λ_=>iD i rfl hi (gY hi (eP (adY I) (iD i rfl hi (gY hi (hk _ (Nj hi))))))) λh=>absurd (show(i:Int)<(a.jJ.length:Int) by omega) h
 rintro t k rfl
 unfold uV;exact dY (λh=>absurd h aQ) λ_=>dX rfl
theorem Ye (p:jl)(T:Ea p):Aw p=some p:=by
 unfold Aw;exact ok_eq (eP (QS T.1.1) (eP (QS T.2.1.1) (eP (QS T.2.2.1) (dX rfl))))
theorem Nk (s:dZ)(hs:kR s):vT s=some s:=by
 obtain⟨p1,p2,p3,p4,p5,p6,p7,p8⟩:=hs;have q1:=p1.1;have q2:=p2.1;have I:=p3.1;have g:=p4.1;have q5:=p5.1;have T:=p6.1;have q7:=p7.1;have C:=p8.1;unfold vT;refine ok_eq (eP (af7 q1) ?_);refine jA 0 s.fV.length (λ_ t=>t=s.fV) 0 rfl (Nat.zero_le _) ae rfl ?_ ?_
 rintro i t k hi rfl hk
 unfold CU;exact dY (λ_=>iD i rfl hi (gY hi (eP (Ye _ (p1.2 _ (List.getElem_mem hi))) (iD i rfl hi (gY hi (hk _ (Nj hi))))))) λh=>absurd (show(i:Int)<(s.fV.length:Int) by omega) h
 rintro t _ rfl
 unfold CU;refine dY (λh=>absurd h (by show ¬ (s.fV.length:Int)<(s.fV.length:Int);omega)) λ_=>?_;refine eP (af8 q2) (eP (QS I) (eP (QS g) (eP (ajZ q5) ?_)));refine jA 0 s.stack.length (λ_ t=>t=s.stack) 0 rfl (Nat.zero_le _) ae rfl ?_ ?_
 rintro i t k hi rfl hk
 have z:=p5.2 _ (List.getElem_mem hi);have J:(s.stack[i]).targets.length<=1048576:=z.2.1;unfold CQ;refine dY (λ_=>iD i rfl hi (gY hi (eP (OO _ z.1) (iD i rfl hi (gY hi (iD i rfl hi ?_)))))) λh=>absurd (show(i:Int)<(s.stack.length:Int) by omega) h;have e:s.stack.set i { s.stack[i] with ja:=(s.stack[i]).ja }=s.stack:=Nj hi;simp only[e];exact gY hi (eP (aga J) (iD i rfl hi (gY hi (hk _ (Nj hi)))))
 rintro t _ rfl
 unfold CQ;refine dY (λh=>absurd h (by show ¬ (s.stack.length:Int)<(s.stack.length:Int);omega)) λ_=>?_;refine eP (adZ T) ?_;refine jA 0 s.waiting.length (λ_ t=>t=s.waiting) 0 rfl (Nat.zero_le _) ae rfl ?_ ?_
 rintro i t k hi rfl hk
 have z:kQ (s.waiting[i]).ja:=p6.2 _ (List.getElem_mem hi);unfold CP;exact dY (λ_=>iD i rfl hi (gY hi (eP (OO _ z) (iD i rfl hi (gY hi (hk _ (Nj hi))))))) λh=>absurd (show(i:Int)<(s.waiting.length:Int) by omega) h
 rintro t _ rfl
 unfold CP;refine dY (λh=>absurd h (by show ¬ (s.waiting.length:Int)<(s.waiting.length:Int);omega)) λ_=>?_;refine eP (aj1 q7) ?_;refine jA 0 s.jB.length (λ_ t=>t=s.jB) 0 rfl (Nat.zero_le _) ae rfl ?_ ?_
 rintro i t k hi rfl hk
 have z:=p7.2 _ (List.getElem_mem hi);have z1:(s.jB[i]).objects.length<=1048576:=z.1.1;have z2:(s.jB[i]).fP.length<=1048576:=z.2.1;unfold CO;refine dY (λ_=>iD i rfl hi (gY hi (eP (QS z1) (iD i rfl hi (gY hi (iD i rfl hi ?_)))))) λh=>absurd (show(i:Int)<(s.jB.length:Int) by omega) h;have e:s.jB.set i { s.jB[i] with objects:=(s.jB[i]).objects }=s.jB:=Nj hi;simp only[e];exact gY hi (eP (adY z2) (iD i rfl hi (gY hi (hk _ (Nj hi)))))
 rintro t _ rfl
 unfold CO;refine dY (λh=>absurd h (by show ¬ (s.jB.length:Int)<(s.jB.length:Int);omega)) λ_=>?_;exact eP (QS C) (dX rfl)
def EK (f:eY):Prop:=uZ (λ(_:Int)=>True) f.objects/\kL f.filter/\uZ rX f.fP
def ae7 (n:Nat)(x:List Int):Prop:=x.length<=2048/\∀ y∈x,0<=y/\y<(n:Int)
structure WLK (s:dZ)(L:List eY)(w:eX):Prop where
 st:w.s=s
 l:w.forces=L
 all:w.eG.length=s.objects.length
 tr:∀ t∈w.eG,jX t
 don:w.done.length=L.length
 hit:w.hits.length=L.length
 alK:∀ x∈w.hits,ae7 s.objects.length x
 drp:w.dropped.length=s.objects.length
structure am3 (s:dZ)(L:List eY):Prop where
 hs:kR s
 ho:s.objects.length<=2048
 len:L.length<=1100000
 f:∀ f∈L,EK f
section
variable {s:dZ}{L:List eY}(H:am3 s L){w:eX}(W:WLK s L w)
include H W
theorem trsz {i:Nat}(h:i<w.eG.length):jX w.eG[i]:=W.tr _ (List.getElem_mem h)
theorem ah7 (you source:Int)(f:iO)(U:kL f):Ok (λ_=>True) (nZ w.s w.eG you source f):=by
 have ho:=H.ho;rw[W.st];unfold nZ;refine jA 0 s.objects.length (λn t=>t.length<=n) 0 rfl (Nat.zero_le _) ae (Nat.zero_le _) (λi t k hi I hk=>?_) λt k I=>?_
 have J:i<w.eG.length:=by rw[W.all];exact hi
 unfold vP;refine dY (λ_=>gu (λu=>u.length<=i+1) (λk5 g=>?_) λu hu=>hk u hu) λh=>absurd (show(i:Int)<(s.objects.length:Int) by omega) h;refine fO i rfl hi (gu (λp=>jX p.2) (λk9 T=>?_) λp C=>?_)
 exact dY (λ_=>fO i rfl J (T _ (trsz H W J))) λ_=>T _ ah2
 grind[fB,zh,gq,iJ]
 unfold vP;exact dY (λh=>absurd h aF) λ_=>dX trivial
end
end Go.Proofs.YtchmoabpofnbaaaGreat
