import Derived.Test.YtchmoabpofnbaaaGreatC105
import Derived.Test.YtchmoabpofnbaaaGreatC106
set_option linter.all false
namespace Go.Proofs.YtchmoabpofnbaaaGreat
open Go Go.Pv
set_option maxRecDepth 100000
def szGFilter (x:GFilter):Prop:=szB x.sub
def rC (x:GMod):Prop:=szB x.sub/\szGFilter x.filter
def Dw (x:xy):Prop:=szGFilter x.filter
def L8 (x:rW):Prop:=szGFilter x.filter
def TD (x:Wy):Prop:=szGFilter x.filter
def Gs (x:yY):Prop:=szGFilter x.filter
def rJ (x:iy):Prop:=TD x.ref/\Gs x.amount/\szB x.card/\szGFilter x.filter/\(sZ rC) x.mods
def xW (x:qj):Prop:=szGFilter x.filter
def kz (x:fU):Prop:=szGFilter x.filter/\(sZ rC) x.mods/\Dw x.fZ/\(sZ L8) x.specs/\(sZ rJ) x.jw/\xW x.replace
def Gt (x:jB):Prop:=(sZ (λ(_:Int)=>True)) x.library/\(sZ (λ(_:Int)=>True)) x.hand/\(sZ (λ(_:Int)=>True)) x.zV
def OM (x:oK):Prop:=kz x.iZ/\(sZ (λ(_:qf)=>True)) x.targets
def pX (x:gm):Prop:=kz x.iZ
def Rx (x:qc):Prop:=(sZ (λ(_:Int)=>True)) x.objects/\(sZ rC) x.mods
def jX (x:GState):Prop:=(sZ Gt) x.fM/\(sZ (λ(_:fC)=>True)) x.objects/\(sZ (λ(_:Int)=>True)) x.iD/\(sZ (λ(_:Int)=>True)) x.qV/\(sZ OM) x.stack/\(sZ pX) x.waiting/\(sZ Rx) x.jT/\(sZ (λ(_:Int)=>True)) x.extra
theorem five {i:Nat}(h:i<5):i=0\/i=1\/i=2\/i=3\/i=4:=by omega
theorem OO {ρ:Type}{Q:ρ->Prop}{n m:Nat}{k:Nat->Option ρ}(h:n<m)(hk:Ok Q (k n)):Ok Q (oL (n:Int) m k):=acK ae ae λj hj=>by
 have:j=n:=by omega
 rw[this];exact hk
def Gu (c:acA Int):Nat->Int | 0=>c.a0|1=>c.a1|2=>c.a2|3=>c.a3|_=>c.a4
def isC (c:oJ):Prop:=(0<=c.generic/\c.generic<=99/\0<=c.x/\c.x<=2)/\∀ j,j<5->0<=Gu c.color j/\Gu c.color j<=9
theorem lh {ρ:Type}{Q:ρ->Prop}{c:Bool}{a b:Option ρ}(h:c=true)(hk:Ok Q a):Ok Q (br c a b):=by subst h;exact hk
theorem iJ {ρ:Type}{Q:ρ->Prop}{c:Bool}{a b:Option ρ}(h:c=false)(hk:Ok Q b):Ok Q (br c a b):=by subst h;exact hk
def Ce (x:rX):Prop:=(sZ szB) x.subs
def lC (x:gq):Prop:=szB x.name/\Ce x.line/\(sZ kz) x.fB
def jG (x:eQ):Prop:=szB x.name/\Ce x.line/\(sZ kz) x.fB
theorem TT {p:Prop}(h:p:=by
 repeat' first
  | intro _
  | with_reducible exact ok_some trivial
  | with_reducible refine lh (by with_reducible rfl) ?_
  | with_reducible refine iJ (by with_reducible rfl) ?_
  | with_reducible refine ok_brd (λ_=>?_) λ_=>?_
  | with_reducible refine qM (λ_=>?_) λ_=>?_
  | with_reducible refine ok_br (λ_=>?_) λ_=>?_
  | with_reducible refine akh (λ_ _=>?_) ?_
  | with_reducible refine akg ?_
  | with_reducible refine aki λ_=>?_
  | with_reducible refine P5 λ_ _=>?_
  | with_reducible refine xh ?_ ?_ λ_ _=>?_
  | with_reducible refine akf ?_ ?_ λ_ _ _=>?_
  | with_reducible refine aiy ?_ λ_ _=>?_
  | with_reducible refine ZH ?_ ?_ λ_ _=>?_
  | with_reducible refine gZ ?_ ?_ ?_
  | with_reducible refine acK ?_ ?_ λ_ _=>?_
  | with_reducible refine sO ?_ λ_ _=>?_
  | with_reducible refine vk ?_ λ_ _=>?_
  | with_reducible refine wL ?_ λ_ _=>?_
  | with_reducible refine agA ?_ λ_ _=>?_
  | with_reducible refine ZI λ_ _=>?_
  | with_reducible refine aiz ?_ ?_ ?_ λ_ _=>?_
  | with_reducible refine aiA ?_ ?_ ?_ λ_ _=>?_
  | with_reducible refine agB ?_ ?_ ?_ λ_ _=>?_
  | with_reducible refine MJ ?_
  | with_reducible refine alF ?_ ?_ (λ_ _ _ _ _=>?_) λ_=>?_
  | with_reducible refine alG ?_ ?_ (λ_ _ _ _ _ _=>?_) λ_ _=>?_
  | with_reducible refine alH ?_ ?_ (λ_ _ _ _ _ _=>?_) λ_ _=>?_
  | with_reducible refine fA (by apply_assumption -exfalso -symm<;>(first|trivial|assumption|omega|grind (ematch:=12) [szGFilter,rC,Dw,L8,TD,Gs,rJ,xW,kz,Gt,OM,pX,Rx,jX,Ce,lC,jG,sZ,szB,lenI])) λ_ _=>?_
  | with_reducible apply_assumption -exfalso -symm
  | with_reducible refine ok_some ?_
  | omega
  | (rw[Cc (by grind [lenI]) (by grind [lenI])];grind [lenI])
  | (simp only[lenI,vH,List.length_append,List.length_cons,List.length_nil] at *;omega)
  | (simp_all only[vH,List.length_cons,List.length_nil,rC,szGFilter,szB];omega)
  | split
  | grind (ematch:=12) [szGFilter,rC,Dw,L8,TD,Gs,rJ,xW,kz,Gt,OM,pX,Rx,jX,Ce,lC,jG,sZ,szB,lenI]):p:=h
def SW (n:Nat)(l:List ByteArray):Prop:=l.length=n/\n<=100/\∀ x∈l,x.size<=100
theorem SW.sz {n:Nat}{l:List ByteArray}(h:SW n l):sZ szB l:=⟨by have:=h.1;have:=h.2.1;omega,λx hx=>by have:=h.2.2 x hx;show x.size<=1048576;omega⟩
def WL (n:Nat)(l:List ByteArray):Prop:=l.length<=n/\∀ x∈l,x.size<=140737488360000
theorem WL.add {n:Nat}{l:List ByteArray}{x:ByteArray}(h:WL n l)(hx:x.size<=140737488360000):WL (n+1) (l++[x]):=⟨by have:=h.1;simp;omega,λy hy=>by
 rcases List.mem_append.1 hy with hy|hy
 exact h.2 y hy
 rw[List.mem_singleton.1 hy];exact hx⟩
theorem WL.mono {n m:Nat}{l:List ByteArray}(h:WL n l)(T:n<=m):WL m l:=⟨by have:=h.1;omega,h.2⟩
theorem ZM:kz Dc:=by
 simp[kz,szGFilter,Dw,xW,szB,sZ,Dc,kP,SV,SX,vH]
theorem Yw (n:Int):0<=IntKind.u64.wrap n/\IntKind.u64.wrap n<18446744073709551616:=by rw[IntKind.wrap_u64];omega
theorem u64q {x:Int}(h0:0<=x)(h1:x<18446744073709551616):IntKind.u64.wrap (x.tdiv 10)=x / 10:=by
 rw[Int.tdiv_eq_ediv_of_nonneg h0,IntKind.wrap_u64];omega
theorem Kz (a:List GMod)(b:List GMod)(T:(sZ rC) a)(J:(sZ rC) b):Ok (λr=>True) (Bd a b):=by
 unfold Bd MF;exact TT
theorem ZN (a:iy)(b:iy)(T:rJ a)(J:rJ b):Ok (λr=>True) (Q9 a b):=by
 unfold Q9;have:=@Kz;exact TT
theorem TE (a:List iy)(b:List iy)(T:(sZ rJ) a)(J:(sZ rJ) b):Ok (λr=>True) (Fz a b):=by
 unfold Fz MG;have:=@ZN;exact TT
theorem ZO (a:fU)(b:fU)(T:kz a)(J:kz b):Ok (λr=>True) (Rf a b):=by
 unfold Rf UD;have:=@Kz;have:=@TE;exact TT
theorem ZP (l:List Int)(T:(sZ (λ(_:Int)=>True)) l):Ok (λr=>r=l) (Eh l):=by
 unfold Eh;exact TT
theorem Dx (n:Int)(least:Int)(most:Int)  : Ok (λr=>True) (wR n least most):=by
 unfold wR;exact TT
theorem Ii (s:GState)(p:Int)(T:jX s):Ok (λr=>True) (qO s p):=by
 unfold qO;have:=@Dx;exact TT
theorem P6 (c:oJ):Ok (λr=>r=true↔isC c) (G7 c):=by
 unfold G7;refine ok_jn (λs=>s=decide (c.generic<0\/99<c.generic\/c.x<0\/2<c.x)) ?_ ?_
 intro k2 h2;exact ok_brd (λh=>h2 _ dI) λa=>ok_brd (λh=>h2 _ dI) λb=>ok_brd (λh=>h2 _ dI) λd=>h2 _ (by simp[a,b,d])
 rintro s rfl
 refine ok_brd (λh=>ok_some ⟨λh=>bY,λhC=>by have:=hC.1;omega⟩) λh0=>?_;refine ok_for1 0 5 (λn=>∀ j,j<n->0<=Gu c.color j/\Gu c.color j<=9) 0 rfl ae ae (λj h=>by omega) ?_ ?_
 intro i k hi T hk;unfold Kr;refine ok_brd (λ_=>ok_jn (λs=>s=decide (Gu c.color i<0\/9<Gu c.color i)) ?_ ?_) λh=>absurd (show(i:Int)<5 by omega) h
 intro k6 J
 rcases five hi with rfl|rfl|rfl|rfl|rfl <;>
  exact OO ae (ok_brd (λh=>J _ dD) λh=>OO ae (J _ dD))
 rintro s rfl
 refine ok_brd (λh=>ok_some ?_) λh=>hk λj hj=>?_
 refine⟨λh=>bY,λhC=>?_⟩;have:=hC.2 i hi;omega
 by_cases e:j=i
 subst e;omega
 exact T j ae
 intro k T;unfold Kr;exact ok_brd (λh=>absurd h ae) λ_=>ok_some ⟨λ_=>⟨by omega,T⟩,λ_=>rfl⟩
theorem abo (c:Int)  : Ok (λr=>True) (Ls c):=by
 unfold Ls;exact TT
theorem P7 (s:ByteArray)(T:szB s):Ok (λr=>True) (Nr s):=by
 unfold Nr Oq;have:=@abo;exact TT
theorem O5 (l:List ByteArray)(s:ByteArray)(J:(sZ szB) l)(T:szB s):Ok (λr=>True) (zY l s):=by
 unfold zY Fh;exact TT
theorem P8   : Ok (λr=>SW 2 r) (A7 ):=by
 unfold A7;exact ok_some aT
theorem Jm   : Ok (λr=>SW 6 r) (yP ):=by
 unfold yP;exact ok_some aT
theorem JO (s:ByteArray)(T:szB s):Ok (λr=>True) (pq s):=by
 unfold pq;exact fA (P7 _ aO) (λy1 h2=>ok_br (λI=>fA (P8  ) (λy2 h4=>fA (O5 _ _ (by first|assumption|exact SW.sz dw) aO) (λy3 h5=>ok_brd (λJ=>fA (Jm  ) (λy4 g=>fA (O5 _ _ (by first|assumption|exact SW.sz dw) aO) (λt C=>ok_some trivial))) (λJ=>ok_some trivial)))) (λI=>ok_some trivial))
theorem UI (mask:Int)(i:Int)(hi:i<=100):Ok (λr=>True) (Ot mask i):=by
 unfold Ot;refine jQ (λ(T:Int×Int)=>0<=T.2) (λ(T:Int×Int)=>(i-T.2).toNat) ai aK (λT k2 I J=>?_);unfold WC;refine ok_brd (λC=>?_) (λC=>wL aU (λg h6=>ok_some trivial));refine vk aU (λt h4=>?_);have h5:addI T.2 1=T.2+1:=wV ae ae;exact J _ ai ai
theorem acN (l:rX)(T:Ce l):Ok (λr=>True) (Tf l):=by
 unfold Tf Yn;have:=@JO;have:=@UI;exact TT
theorem WO (mask:Int)  : Ok (λr=>True) (WE mask):=by
 unfold WE;exact TT
theorem TF (c:gq)(T:lC c):Ok (λr=>True) (FD c):=by
 unfold FD;exact TT
theorem O6 (a b most:Int):Ok (λr=>True) (Dh a b most):=by
 unfold Dh;refine ok_jn (λ_=>True) ?_ ?_
 intro k h;exact ok_brd (λ_=>h _ trivial) λ_=>ok_brd (λ_=>h _ trivial) λ_=>ok_brd (λ_=>h _ trivial) λ_=>h _ trivial
 intro s _;refine ok_br (λ_=>ok_some trivial) λ_=>?_;refine jQ (λs=>0<=s.2.2/\s.2.2<=6) (λs=>(6-s.2.2).toNat) ⟨by simp only;omega,by simp only;omega⟩ (by show _<18446744073709551616;simp only;omega) ?_
 rintro⟨x,y,n⟩ k ⟨h0,h1⟩ hk
 simp only at h0 h1;unfold A8;refine ok_brd (λh=>ok_jn (λ_=>True) ?_ ?_) λ_=>ok_some trivial
 intro k6 T;exact wL aU λ_ _=>ok_brd (λ_=>wL aU λ_ _=>T _ trivial) λ_=>T _ trivial
 intro s _;simp only at h |-;rw[wV ae ae];exact ok_br (λ_=>ok_some trivial) λ_=>vk aU λ_ _=>vk aU λ_ _=>hk _ ⟨by simp only;omega,by simp only;omega⟩ ax
theorem JP (b:rV):Ok (λr=>r=true->0<=b.kind/\b.kind<=3) (sS b):=by
 unfold sS;exact TT
def agI (f:GFilter):Prop:=(0<=f.iI/\f.iI<=5)/\(0<=f.who/\f.who<=2)/\(0<=f.self/\f.self<=2)/\(0<=f.Ar/\f.Ar<=2)/\(0<=f.power.kind/\f.power.kind<=3)/\(0<=f.gz.kind/\f.gz.kind<=3)/\(0<=f.value.kind/\f.value.kind<=3)
theorem vW (f:GFilter)(T:szGFilter f):Ok (λr=>r=true->agI f) (r13_Is f):=by
 unfold r13_Is;have no:∀ {p:Prop},((false:Bool)=true->p):=λe=>by cases e
 refine ok_jn (λs=>s=false->(0<=f.iI/\f.iI<=5)/\(0<=f.who/\f.who<=2)/\(0<=f.self/\f.self<=2)/\(0<=f.Ar/\f.Ar<=2)) ?_ ?_
 ·intro k h
  iterate 7 refine ok_brd (λ_=>h _ (by intro e;cases e)) λ_=>?_
  exact h _ λe=>by rw[decide_eq_false_iff_not] at e;omega
 intro s hs;refine ok_br (λ_=>ok_some no) λe=>ok_jn (λ_=>True) ?_ ?_
 intro k h;exact fA (O6 _ _ _) λ_ _=>ok_br (λ_=>h _ trivial) λ_=>fA (O6 _ _ _) λ_ _=>h _ trivial
 intro s3 _;refine ok_br (λ_=>ok_some no) λ_=>ok_jn (λ_=>True) ?_ ?_
 intro k h;refine ok_br (λ_=>fA (JO _ T) λ_ _=>ok_br (λ_=>h _ trivial) λ_=>ok_brd (λ_=>h _ trivial) λ_=>h _ trivial) λ_=>ok_brd (λ_=>h _ trivial) λ_=>h _ trivial
 intro s7 _;refine ok_br (λ_=>ok_some no) λ_=>fA (JP _) λt J=>ok_br (λe10=>fA (JP _) λg C=>ok_br (λe11=>fA (JP _) λy12 I=>ok_some λe12=>?_) λ_=>ok_some no) λ_=>ok_some no;obtain⟨a,b,c,d⟩:=hs e;exact⟨a,b,c,d,J e10,C e11,I e12⟩
theorem ZQ (m:GMod)(T:rC m):Ok (λr=>True) (Ko m):=by
 unfold Ko;exact TT
theorem Xm (mask:Int)  : Ok (λr=>True) (zZ mask):=by
 unfold zZ;exact TT
theorem WQ (m:GMod)(T:rC m):Ok (λr=>True) (lG m):=by
 unfold lG;have:=@ZQ;have:=@Xm;have:=@JO;have:=@vW;exact TT
theorem WR (l:List ByteArray)(mask:Int)(T:ByteArray)(n:Nat)(J:SW n l)(hb:T.size<=10):Ok (λr=>r.size<=11000) (Lt l mask T):=by
 unfold Lt;have hn:=J.1;have hn2:=J.2.1;refine DN 0 l.length (λn t=>t.size<=110*n) 0 rfl (Nat.zero_le _) ae aV ?_ ?_
 intro i t k hi g hk;unfold JE;refine ok_brd (λ_=>ok_jn (λs=>s.size<=110*(i+1)) ?_ λs hs=>hk s hs) λh=>absurd (show(i:Int)<(l.length:Int) by omega) h;intro k5 I;refine fA (UI _ _ ax) λy7 _=>ok_br (λ_=>ok_jn (λs=>s.size<=110*i+10) ?_ ?_) λ_=>I _ ax
 intro k9 C;exact ok_br (λ_=>sO ax λx hx=>C _ (by simp only at hx;omega)) λ_=>C _ ax
 intro s hs;refine xh ax ax λx hx=>sO (by have:=J.2.2 x hx;omega) λy hy=>I _ (by have:=J.2.2 x hx;omega)
 intro t k g;unfold JE;exact ok_brd (λh=>absurd h aB) λ_=>ok_some ax
theorem Jn (mask:Int):Ok (λr=>r.size<=11000) (wE mask):=by
 unfold wE;have:=@Jm;have:=@WR;exact TT
theorem acO (mask:Int)  : Ok (λr=>True) (Zw mask):=by
 unfold Zw;exact TT
theorem L9 (i:Int)  : Ok (λr=>r.size<=100) (Kq i):=by
 unfold Kq;exact TT
theorem ZR (mask:Int):Ok (λr=>r.size<=11000) (Nu mask):=by
 unfold Nu;refine fA (acO _) λy1 _=>ok_br (λ_=>ok_some aV) λ_=>ok_brd (λ_=>ok_some aV) λ_=>?_;refine DN 0 5 (λn t=>t.size<=110*n) 0 rfl ae ae aV ?_ ?_
 ·intro i t k hi C hk;unfold Ns;refine ok_brd (λ_=>ok_jn (λs=>s.size<=110*(i+1)) ?_ λs hs=>hk s hs) λh=>absurd (show(i:Int)<5 by omega) h;intro k5 J;refine agA ax λg T=>vk ?_ λx7 _=>wL aU λx8 _=>ok_brd (λ_=>ok_jn (λs=>s.size<=110*i+10) ?_ ?_) λ_=>J _ ax
  ·rcases five hi with rfl|rfl|rfl|rfl|rfl
   all_goals
    have:g≠0:=by
     intro e;subst e;revert T;simp only;decide
    exact this
  intro k9 I;exact ok_br (λ_=>sO aI λx hx=>I _ aJ) λ_=>I _ ax
  intro s hs;exact fA (L9 _) λy hy=>sO ae λz hz=>J _ ae
 intro t k C;unfold Ns;exact ok_brd (λh=>absurd h ax) λ_=>ok_some ax
theorem Xn   : Ok (λr=>SW 17 r) (Ou ):=by
 unfold Ou;exact ok_some aT
theorem Ry (i:Int):Ok (λr=>r.size<=100) (Nv i):=by
 unfold Nv;refine ok_brd (λ_=>ok_some aV) λ_=>ok_brd (λ_=>ok_some aV) λ_=>fA Xn λT h1=>xh ae (by have:=h1.1;omega) λx hx=>ok_some (h1.2.2 x hx)
theorem ZT (mask:Int):Ok (λr=>r.size<=11000) (Nw mask):=by
 unfold Nw;refine fA (WO _) λy1 _=>ok_br (λ_=>ok_some aV) λ_=>?_;refine jQ (λs=>∃ n:Nat,s.2.2=(n:Int)/\n<=17/\s.2.1.size<=110*n) (λs=>17-s.2.2.toNat) ⟨0,rfl,by omega,by simp[vH]⟩ (by show 17-_<18446744073709551616;omega) ?_
 rintro⟨m,t,n'⟩ k ⟨n,e,hn,I⟩ hk
 simp only at e I;subst e;unfold UA;refine ok_brd (λh=>ok_jn (λs=>s.2.size<=110*(n+1)) ?_ ?_) λh=>ok_br (λ_=>ok_some aV) λ_=>ok_some ax
 intro k6 C;refine ok_jn (λs=>s.size<=110*(n+1)) ?_ λs hs=>vk aU λx _=>C _ hs;intro k9 J;refine wL aU λx _=>ok_brd (λ_=>ok_jn (λs=>s.size<=110*n+10) ?_ ?_) λ_=>J _ ax
 intro k13 T;exact ok_br (λ_=>sO aI λx hx=>T _ aJ) λ_=>T _ ax
 intro s hs;exact fA (Ry _) λy hy=>sO ae λz g=>J _ ae
 rintro⟨s1,s2⟩ hs
 simp only at h hs |-;rw[addI_nat ae];exact hk _ ⟨n+1,rfl,by omega,hs⟩ (by simp only[Int.toNat_natCast];omega)
theorem Rz   : Ok (λr=>SW 6 r) (DT ):=by
 unfold DT;exact ok_some aT
theorem TG   : Ok (λr=>SW 3 r) (Fj ):=by
 unfold Fj;exact ok_some aT
theorem RD   : Ok (λr=>SW 3 r) (DU ):=by
 unfold DU;exact ok_some aT
theorem TJ   : Ok (λr=>SW 3 r) (Fp ):=by
 unfold Fp;exact ok_some aT
theorem xX (l:List ByteArray)(s:ByteArray)(n:Nat)(T:WL n l)(hs:s.size<=140737488360000)(J:n<=1000):Ok (λr=>WL (n+1) r) (DV l s):=by
 unfold DV;have:=T.1;exact ok_br (λ_=>ok_some (T.mono ae)) λ_=>gZ aG aG (ok_some (T.add hs))
theorem Es (mask:Int)(i:Int)(hi:i<=100):Ok (λr=>True) (IM mask i):=by
 unfold IM;refine jQ (λ(T:Int×Int)=>0<=T.2) (λ(T:Int×Int)=>(i-T.2).toNat) ai aK (λT k2 I J=>?_);unfold WG;refine ok_brd (λC=>?_) (λC=>wL aU (λg h6=>ok_some trivial));refine vk aU (λt h4=>?_);have h5:addI T.2 1=T.2+1:=wV ae ae;exact J _ ai ai
theorem KA (i:Int)(hi:i<=100):Ok (λr=>r.size<=11000) (Ba i):=by
 unfold Ba;refine jQ (λ(T:Int×Int)=>0<=T.2) (λ(T:Int×Int)=>(i-T.2).toNat) ai aK (λT k2 I J=>?_);unfold MC;refine ok_brd (λC=>?_) (λC=>fA (Jn _ ) (λy4 t=>ok_some dC));have g:addI T.2 1=T.2+1:=wV ae ae;exact J _ ai ai
theorem NS (u:Int)(hu:0<=u/\u<18446744073709551616):Ok (λr=>r.size<=21) (Di u):=by
 obtain⟨h0,h1⟩:=hu;unfold Di;refine wL aU (λx1 _=>ZI (λx2 h2=>vk aU (λx3 t=>?_)));rw[u64q h0 h1] at t;refine jQ (λs=>∃ k:Nat,s.2.size+k<=21/\0<=s.1/\s.1<10 ^ k) (λs=>s.1.toNat) ⟨20,by simp only;omega,by simp only;omega,by simp only;omega⟩ (by show _<18446744073709551616;simp only;omega) ?_
 rintro⟨a,b⟩ k5 ⟨k,g1,g2,g3⟩ hk
 simp only at g1 g2 g3;unfold JF;refine ok_brd (λh=>?_) (λ_=>ok_some ax);simp only at h;have hk1:k≠0:=by intro e;subst e;simp at g3;omega
 obtain⟨T,rfl⟩:∃ T,k=T+1:=⟨k-1,by omega⟩;have g:(10:Int) ^ (T+1)=10 ^ T*10:=Int.pow_succ 10 T;rw[g] at g3;refine wL aU (λx6 _=>ZI (λx7 h7=>sO ax (λx8 C=>vk aU (λI J=>?_))));simp only at C J
 have hq:0<=I/\I<=a / 10:=by
  rw[J,Int.tdiv_eq_ediv_of_nonneg g2,IntKind.wrap_u64];omega
 exact hk _ ⟨T,by simp only;omega,hq.1,by simp only;omega⟩ ax
theorem Mc (n:Int)  : Ok (λr=>r.size<=22) (Bc n):=by
 unfold Bc;refine ok_brd (λh1=>?_) (λh1=>fA (NS _ (Yw _)) (λy3 C=>ok_some dC));refine fA (NS _ (Yw _)) (λI h2=>?_);refine sO ai (λJ T=>?_);simp only[vH,List.length_cons,List.length_nil] at T;exact ok_some dC
theorem Xo   : Ok (λr=>SW 4 r) (Ov ):=by
 unfold Ov;exact ok_some aT
theorem Cf (name:ByteArray)(b:rV)(hn:name.size<=100)(hk:0<=b.kind/\b.kind<=3):Ok (λr=>r.size<=1000) (wF name b):=by
 unfold wF;refine ok_brd (λ_=>ok_some aV) λ_=>fA Xo λI h1=>xh ae (by have:=h1.1;omega) λJ T=>?_;have:=h1.2.2 J T;exact sO ae λg h3=>fA (Mc _) λy4 h4=>sO ae λC t=>ok_some ae
theorem ZU (l:List ByteArray)(T:ByteArray)(J:WL 200 l)(hb:T.size<=10):Ok (λr=>r.size<=28147497672002000) (QW l T):=by
 unfold QW;have hn:=J.1;refine DN 0 l.length (λn t=>t.size<=140737488360010*n) 0 rfl (Nat.zero_le _) ae aV ?_ ?_
 intro i t k hi C hk;unfold Ny;refine ok_brd (λ_=>ok_jn (λs=>s.size<=140737488360010*(i+1)) ?_ λs hs=>hk s hs) λh=>absurd (show(i:Int)<(l.length:Int) by omega) h;intro k5 g;refine ok_jn (λs=>s.size<=140737488360010*i+10) ?_ ?_
 intro k9 I;exact ok_brd (λ_=>sO ax λx hx=>I _ (by simp only at hx;omega)) λ_=>I _ ax
 intro s hs;refine xh ax ax λx hx=>sO (by have:=J.2 x hx;omega) λy hy=>g _ (by have:=J.2 x hx;omega)
 intro t k C;unfold Ny;exact ok_brd (λh=>absurd h aB) λ_=>ok_some ax
theorem ZV (f:GFilter)(zz_f:szGFilter f):Ok (λr=>r.size<=28147497672002000) (Nz f):=by
 have hsub:f.sub.size<=1048576:=zz_f;unfold Nz;refine fA (vW f zz_f) λy1 h1=>ok_br (λ_=>ok_some aV) λh=>?_;obtain⟨hz,hw,hs,ht,hp,hq,hv⟩:=h1 bg;refine fA Rz λy2 h2=>fA TG λy3 h3=>fA RD λy4 h4=>fA TJ λy5 h5=>?_;have l5:=h5.1;refine xh ae (by have:=h2.1;omega) λx6 k6=>fA (xX _ _ 0 ⟨by simp,by simp⟩ (by have:=h2.2.2 x6 k6;omega) ae) λy7 h7=>?_;refine xh ae (by have:=h3.1;omega) λx8 k8=>fA (xX _ _ _ h7 (by have:=h3.2.2 x8 k8;omega) ae) λy9 h9=>?_;refine xh ae (by have:=h4.1;omega) λx10 k10=>fA (xX _ _ _ h9 (by have:=h4.2.2 x10 k10;omega) ae) λy11 h11=>?_;refine iY 0 6 (λn t=>WL (3+n) t) 0 rfl ae ae h11 ?_ ?_
 intro i t k hi J hk;have hl:=J.1;unfold IW;refine ok_brd (λ_=>ok_jn (λs=>WL (3+i+1) s) ?_ λs hs=>hk s hs) λh=>absurd (show(i:Int)<6 by omega) h;intro k16 T;exact fA (Es _ _ ax) λI _=>ok_br (λ_=>fA (KA _ ax) λC g=>gZ aG aG (T _ (J.add ae))) λ_=>T _ (J.mono ae)
 intro t _ h12;unfold IW;refine ok_brd (λh=>absurd h ax) λ_=>?_;refine iY 0 6 (λn t=>WL (9+n) t) 0 rfl ae ae h12 ?_ ?_
 intro i t k hi J hk;have hl:=J.1;unfold IV;refine ok_brd (λ_=>ok_jn (λs=>WL (9+i+1) s) ?_ λs hs=>hk s hs) λh=>absurd (show(i:Int)<6 by omega) h;intro k16 T;exact fA (Es _ _ ax) λI _=>ok_br (λ_=>fA (KA _ ax) λC g=>sO aI λx hx=>gZ aG aG (T _ (J.add aJ))) λ_=>T _ (J.mono ae)
 intro t _ h13;unfold IV;refine ok_brd (λh=>absurd h ax) λ_=>?_;refine iY 0 5 (λn t=>WL (15+n) t) 0 rfl ae ae h13 ?_ ?_
 intro i t k hi J hk;have hl:=J.1;unfold IU;refine ok_brd (λ_=>ok_jn (λs=>WL (15+i+1) s) ?_ λs hs=>hk s hs) λh=>absurd (show(i:Int)<5 by omega) h;intro k16 T;exact fA (Es _ _ ax) λI _=>ok_br (λ_=>fA (L9 _) λC g=>gZ aG aG (T _ (J.add ae))) λ_=>T _ (J.mono ae)
 intro t _ h14;unfold IU;refine ok_brd (λh=>absurd h ax) λ_=>?_;refine iY 0 5 (λn t=>WL (20+n) t) 0 rfl ae ae h14 ?_ ?_
 intro i t k hi J hk;have hl:=J.1;unfold IQ;refine ok_brd (λ_=>ok_jn (λs=>WL (20+i+1) s) ?_ λs hs=>hk s hs) λh=>absurd (show(i:Int)<5 by omega) h;intro k16 T;exact fA (Es _ _ ax) λI _=>ok_br (λ_=>fA (L9 _) λC g=>sO aI λx hx=>gZ aG aG (T _ (J.add aJ))) λ_=>T _ (J.mono ae)
 intro t _ h15;have hl15:=h15.1;unfold IQ;refine ok_brd (λh=>absurd h ax) λ_=>?_;refine ok_jn (λs=>WL 26 s) ?_ ?_
 intro k h;exact ok_br (λ_=>sO aI λx hx=>gZ aG aG (h _ (h15.add aJ))) λ_=>h _ (h15.mono ae)
 intro s46 T;refine iY 0 17 (λn t=>WL (26+n) t) 0 rfl ae ae T ?_ ?_
 intro i t k hi J hk;have hl:=J.1;unfold IP;refine ok_brd (λ_=>ok_jn (λs=>WL (26+i+1) s) ?_ λs hs=>hk s hs) λh=>absurd (show(i:Int)<17 by omega) h;intro k16 T;exact fA (Es _ _ ax) λI _=>ok_br (λ_=>fA (Ry _) λC g=>sO aI λx hx=>gZ aG aG (T _ (J.add aJ))) λ_=>T _ (J.mono ae)
 intro t _ h17;unfold IP;refine ok_brd (λh=>absurd h ax) λ_=>?_;refine xh ae ae λx48 k48=>fA (xX _ _ _ h17 (by have:=h5.2.2 x48 k48;omega) ae) λy49 h49=>?_;refine fA (Cf _ _ aV hp) λy50 h50=>fA (xX _ _ _ h49 ae ae) λy51 h51=>?_;refine fA (Cf _ _ aV hq) λy52 h52=>fA (xX _ _ _ h51 ae ae) λy53 h53=>?_;refine fA (Cf _ _ aV hv) λy54 h54=>fA (xX _ _ _ h53 ae ae) λy55 h55=>?_;exact ok_brd (λ_=>ok_some aV) λ_=>fA (ZU _ _ (h55.mono ae) aV) λy56 h56=>ok_some h56
theorem ZW (m:GMod)(T:rC m):Ok (λr=>r.size<=28147497672100000) (QX m):=by
 unfold QX;have:=@WQ;have:=@Jn;have:=@ZR;have:=@ZT;have:=@ZV;have:=@Mc;exact TT
theorem Dy (l:List GMod)(T:(sZ rC) l):Ok (λr=>True) (tH l):=by
 unfold tH;refine ok_jn (λs=>s=false->l.length<=6) ?_ ?_
 intro k h;exact ok_brd (λ_=>h _ (by intro e;cases e)) λ_=>h _ λe=>by rw[decide_eq_false_iff_not] at e;unfold lenI at e;omega
 intro s hs;refine ok_br (λ_=>ok_some trivial) λe=>?_;have hl:=hs e;refine DN 0 l.length (λn t=>t.size<=28147497672200000*n) 0 rfl (Nat.zero_le _) ae aV ?_ ?_
 intro i t k hi C hk;unfold vZ;refine ok_brd (λ_=>ok_jn (λs=>s.size<=28147497672200000*(i+1)) ?_ λs hs=>hk s hs) λh=>absurd (show(i:Int)<(l.length:Int) by omega) h;intro k8 h8;refine xh ax ax λg I=>fA (WQ _ (T.2 g I)) λy8 _=>ok_br (λ_=>ok_some trivial) λ_=>ok_jn (λs=>s.size<=28147497672200000*i+2) ?_ ?_
 intro k13 J;exact ok_brd (λ_=>sO aI λx hx=>J _ aJ) λ_=>J _ ax
 intro s hs;exact xh ax ax λx hx=>fA (ZW _ (T.2 x hx)) λy hy=>sO ae λz hz=>h8 _ ae
 intro t k C;unfold vZ;exact ok_brd (λh=>absurd h aB) λ_=>ok_some trivial
theorem Xp (p:Ld)  : Ok (λr=>True) (Ox p):=by
 unfold Ox;have:=@P6;exact TT
theorem RF (when:Int)  : Ok (λr=>True) (NC when):=by
 unfold NC;exact TT
theorem NT (when:Int)  : Ok (λr=>True) (G8 when):=by
 unfold G8;exact TT
theorem RG (when:Int)  : Ok (λr=>True) (DW when):=by
 unfold DW;have:=@RF;have:=@NT;exact TT
theorem acP (t:xy)(T:Dw t):Ok (λr=>True) (Zx t):=by
 unfold Zx;have:=@RF;have:=@NT;have:=@RG;have:=@vW;exact TT
theorem O7 (f:GFilter)(T:szGFilter f):Ok (λr=>True) (Gj f):=by
 unfold Gj;have:=@vW;exact TT
theorem Xq (J:qj)(T:xW J):Ok (λr=>True) (Oy J):=by
 unfold Oy;have:=@O7;exact TT
theorem Xr (J:qj)(T:xW J):Ok (λr=>True) (Oz J):=by
 unfold Oz;exact TT
theorem acQ (J:qj)(T:xW J):Ok (λr=>True) (Zy J):=by
 unfold Zy;have:=@Xq;have:=@Xr;have:=@O7;exact TT
theorem ZX (s:rW)(T:L8 s):Ok (λr=>True) (QY s):=by
 unfold QY;have:=@vW;exact TT
theorem Xt (l:List rW)(T:(sZ L8) l):Ok (λr=>True) (OA l):=by
 unfold OA QZ;have:=@ZX;exact TT
theorem ZY (op:Int)  : Ok (λr=>True) (Q4 op):=by
 unfold Q4;exact TT
theorem ZZ (op:Int)  : Ok (λr=>r.size<=100) (Q5 op):=by
 unfold Q5;exact TT
theorem ui (op:Int)(field:Int)  : Ok (λr=>True) (xB op field):=by
 unfold xB UB;have:=@ZZ;exact TT
theorem TL (kind:Int)  : Ok (λr=>True) (Fq kind):=by
 unfold Fq;exact TT
theorem acR (J:Wy)(specs:Int)(T:TD J):Ok (λr=>True) (Zz J specs):=by
 unfold Zz;have:=@vW;have:=@TL;exact TT
theorem RH (kind:Int)  : Ok (λr=>True) (ND kind):=by
 unfold ND;exact TT
theorem acS (a:yY)(T:Gs a):Ok (λr=>True) (ZA a):=by
 unfold ZA;have:=@RH;have:=@vW;exact TT
theorem Z4 (l:List GMod)(T:(sZ rC) l):Ok (λr=>True) (Q7 l):=by
 unfold Q7;have:=@Dy;exact TT
theorem Z5 (c:oJ):Ok (λr=>True) (Q8 c):=by
 unfold Q8;refine fA (P6 c) λy1 h1=>ok_br (λ_=>ok_some trivial) λh=>?_;obtain⟨⟨_,_,I,hx1⟩,T⟩:=h1.1 bg;obtain⟨X,hX⟩:=Int.eq_ofNat_of_zero_le I;refine DN 0 X (λn t=>t.size<=n) 0 rfl (Nat.zero_le _) ae aV ?_ ?_
 intro i t k hi J hk;unfold NG;exact ok_brd (λ_=>sO aI λx hx=>hk _ aJ) λh=>absurd ax h
 intro t k J;unfold NG;refine ok_brd (λh=>absurd h ax) λ_=>ok_jn (λs=>s.size<=24) ?_ ?_
 intro k7 g;exact qM (λ_=>fA (Mc _) λy hy=>sO ax λx hx=>g _ (by simp only at hx;omega)) λ_=>g _ ax
 intro s hs;refine DN 0 5 (λn t=>t.size<=24+9*n) 0 rfl ae ae ae ?_ ?_
 intro i t k hi J hk;unfold NF;refine ok_brd (λ_=>?_) λh=>absurd (show(i:Int)<5 by omega) h;have hc:=T i hi;refine jQ (λs=>∃ n:Nat,s.2=(n:Int)/\n<=9/\s.1.size<=24+9*i+n) (λs=>10-s.2.toNat) ⟨0,rfl,by omega,by simp only;omega⟩ (by show 10-_<18446744073709551616;omega) ?_
 rintro⟨u,n'⟩ k15 ⟨n,e,hn,hu⟩ hk15
 simp only at e hu;subst e;unfold UC;refine ok_jn (λs=>s=decide ((n:Int)<Gu c.color i)) ?_ ?_
 intro k18 C;rcases five hi with rfl|rfl|rfl|rfl|rfl<;>exact OO ae (C _ rfl)
 rintro s rfl
 simp only;refine ok_brd (λh=>?_) λh=>hk _ ae;have e1:=addI_nat (n:=i) ae;have e2:=addI_nat (n:=n) ae;rw[e1,e2];exact agB ae ae aI λx hx=>sO ae λy hy=>hk15 _ ⟨n+1,rfl,by omega,by simp only;omega⟩ (by simp only[Int.toNat_natCast];omega)
 intro t k J;unfold NF;exact ok_brd (λh=>absurd h ax) λ_=>ok_br (λ_=>ok_some trivial) λ_=>ok_some trivial
theorem Z7 (p:SK Int)  : Ok (λr=>True) (NH p):=by
 unfold NH;exact TT
theorem TM (p:SK Int)  : Ok (λr=>True) (Fv p):=by
 unfold Fv;have:=@Z7;have:=@Z5;exact TT
theorem WS (op:Int)(f:GFilter)(T:szGFilter f):Ok (λr=>True) (Lu op f):=by
 unfold Lu;have:=@vW;exact TT
theorem acT (t:iy)(specs:Int)(T:rJ t):Ok (λr=>True) (ZB t specs):=by
 unfold ZB;have z3:t.ref.filter.sub.size<=1048576:=(((T).1));have z6:t.amount.filter.sub.size<=1048576:=(((T).2.1));have z7:t.card.size<=1048576:=(T).2.2.1;have z9:t.filter.sub.size<=1048576:=((T).2.2.2.1);have z10:=((T).2.2.2.2).1;have z11:=((T).2.2.2.2).2;refine fA (ZY _ ) (λy1 h12=>?_);refine ok_br (λh13=>ok_some trivial) (λh13=>?_);refine P5 (λv2 h14=>?_);refine ok_jn (λ(s3:Bool)=>True) (λk4 hk15=>fA (ui _ _ ) (λy6 h17=>ok_br (λh18=>fA (acR _ _ (by first|assumption|(refine⟨by omega,?_⟩;first|(intro _ _;trivial)|assumption)|(unfold TD;simp_all[szB,sZ]))) (λy7 h19=>hk15 _ trivial)) (λh18=>hk15 _ trivial))) (λs3 hs16=>?_);refine ok_jn (λ(s8:Bool)=>s8=false->¬(t.iI=0)) (λk9 J=>ok_brd (λh22=>J _ aj) (λh22=>fA (ui _ _ ) (λy11 h23=>ok_br (λh24=>ok_brd (λh25=>J _ aj) (λh25=>J _ aj)) (λh24=>J _ aj)))) (λs8 hs21=>?_);refine ok_jn (λ(s12:Bool)=>s12=false->¬(t.counter=0)) (λk13 I=>ok_brd (λh28=>I _ aj) (λh28=>fA (ui _ _ ) (λy15 h29=>ok_br (λh30=>fA (RH _ ) (λy16 h31=>I _ aj)) (λh30=>I _ aj)))) (λs12 hs27=>?_);refine ok_jn (λ(s17:Bool)=>True) (λk18 g=>fA (ui _ _ ) (λy20 h34=>ok_br (λh35=>fA (P7 _ aO) (λy21 h36=>g _ trivial)) (λh35=>g _ trivial))) (λs17 hs33=>?_);refine P5 (λv22 h37=>?_)
 refine ok_jn (λ(s23:Bool)=>True) (λk24 hk38=>fA (ui _ _ ) (λy26 h40=>ok_br (λh41=>fA (acS _ (by first|assumption|(refine⟨by omega,?_⟩;first|(intro _ _;trivial)|assumption)|(unfold Gs;simp_all[szB,sZ]))) (λy27 h42=>hk38 _ trivial)) (λh41=>hk38 _ trivial))) (λs23 hs39=>?_);refine ok_jn (λ(s28:Bool)=>True) (λk29 hk43=>fA (ui _ _ ) (λy31 h45=>ok_br (λh46=>fA (Z4 _ (by first|assumption|(refine⟨by omega,?_⟩;first|(intro _ _;trivial)|assumption))) (λy32 h47=>hk43 _ trivial)) (λh46=>hk43 _ trivial))) (λs28 hs44=>?_);refine P5 (λv33 h48=>?_);refine ok_jn (λ(s34:Bool)=>True) (λk35 C=>fA (ui _ _ ) (λy37 h51=>ok_br (λh52=>ok_br (λh53=>fA (TM _ ) (λy38 h54=>C _ trivial)) (λh53=>C _ trivial)) (λh52=>C _ trivial))) (λs34 hs50=>?_);refine P5 (λv39 h55=>?_);refine ok_jn (λ(s40:Bool)=>True) (λk41 hk56=>fA (ui _ _ ) (λy43 h58=>ok_br (λh59=>fA (WS _ _ (by first|assumption|(refine⟨by omega,?_⟩;first|(intro _ _;trivial)|assumption)|(unfold szGFilter;simp_all[szB,sZ]))) (λy44 h60=>hk56 _ trivial)) (λh59=>hk56 _ trivial))) (λs40 hs57=>?_);refine ok_br (λh61=>?_) (λh61=>ok_some trivial);apply ok_br<;>intro h62
 refine ok_br (λh63=>ok_br (λh64=>ok_br (λh65=>ok_br (λh66=>ok_br (λh67=>ok_some trivial) (λh67=>ok_some trivial)) (λh66=>ok_some trivial)) (λh65=>ok_some trivial)) (λh64=>ok_some trivial)) (λh63=>?_);have hf68:=hs27 h63;exact ok_some trivial
 have hf69:=hs21 h62;exact ok_some trivial
theorem UT (l:List iy)(n:Int)(T:(sZ rJ) l):Ok (λr=>True) (IX l n):=by
 unfold IX NI;have:=@acT;exact TT
theorem Md (a:fU)(T:kz a):Ok (λr=>True) (LC a):=by
 unfold LC;have:=@vW;have:=@Dy;have:=@Xp;have:=@acP;have:=@acQ;have:=@Xt;have:=@UT;exact TT
theorem Z8 (c:gq)(T:lC c):Ok (λr=>True) (Ri c):=by
 unfold Ri;exact TT
theorem UJ (c:oJ)  : Ok (λr=>True) (I4 c):=by
 unfold I4 LK;exact TT
theorem UU (c:oJ)  : Ok (λr=>True) (xE c):=by
 unfold xE xC;have:=@UJ;exact TT
theorem sW (mask:Int)(key:Int)  : Ok (λr=>True) (nz mask key):=by
 unfold nz;exact TT
theorem abp (s:ByteArray)(J:szB s):Ok (λr=>True) (LM s):=by
 have z1:s.size<=1048576:=J;unfold LM;refine ok_jn (λ_=>True) (λk2 hk=>?_) (λI _=>?_)
 refine ok_brd (λh0=>hk _ trivial) λh0=>ok_brd (λh1=>hk _ trivial) λh1=>?_;refine ZH ae ae λx4 _=>ok_brd (λ_=>hk _ trivial) λ_=>?_;refine ZH ae ae λx5 _=>ok_brd (λ_=>hk _ trivial) λ_=>?_;have e:qL (s.size:Int) 1=(s.size:Int)-1:=Cc ae ae;rw[e];refine ZH ae ae λx6 _=>ok_brd (λ_=>hk _ trivial) λ_=>?_
 have:strings_Contains s (bs [45,45])=some (Lib.contains s.data.toList (bs [45,45]).data.toList):=by
  unfold strings_Contains ags;rw[if_pos ae]
 rw[this];exact hk _ trivial
 refine ok_br (λ_=>ok_some trivial) λ_=>P5 λC hx=>?_;have hl:C.length<=1048576:=by rw[hx];simpa [EE] using z1
 refine jQ (λ(I:Int)=>0<=I/\I<=(C.length:Int)) (λ(I:Int)=>((C.length:Int)-I).toNat) ⟨by omega,by omega⟩ (by show _<18446744073709551616;omega) (λt k10 g hk=>?_);obtain⟨i0,i1⟩:=g;unfold Hl;refine ok_brd (λh3=>?_) λ_=>ok_some trivial;simp only[lenI] at h3;refine xh i0 ae λx12 _=>ok_jn (λ_=>True) (λk14 T=>?_) λs13 _=>?_
 refine ok_brd (λ_=>ok_brd (λ_=>T _ trivial) λ_=>ok_brd (λ_=>T _ trivial) λ_=>T _ trivial) λ_=>ok_brd (λ_=>ok_brd (λ_=>T _ trivial) λ_=>ok_brd (λ_=>T _ trivial) λ_=>T _ trivial) λ_=>T _ trivial
 refine ok_br (λ_=>ok_some trivial) λ_=>?_;have e:addI t 1=t+1:=wV ae ae;rw[e];exact hk _ ⟨by omega,by omega⟩ ae
theorem P9 (i:Int)(J:0<=i)(T:i<2):Ok (λr=>True) (uU i):=by
 unfold uU;exact TT
theorem Z9 (s:ByteArray)(n:Int)(name:Int->Option ByteArray)(J:0<=n/\n<=60)(T:∀ i,0<=i->i<n->Ok (λ_=>True) (name i)):Ok (λr=>True) (Ej s n name):=by
 unfold Ej I8;exact TT
theorem RI (i:Int)(J:0<=i)(T:i<6):Ok (λr=>True) (wI i):=by
 unfold wI;exact TT
theorem Ij (s:ByteArray)(T:szB s):Ok (λr=>True) (vS s):=by
 unfold vS;have:=@abp;have:=@Z9;have:=@P9;have:=@RI;exact TT
theorem Ik (n:Int)(most:Int)  : Ok (λr=>True) (jR n most):=by
 unfold jR;exact TT
theorem Qa (b:rV)  : Ok (λr=>True) (qo b):=by
 unfold qo;have:=@Ik;exact TT
theorem O8 (f:GFilter)(T:szGFilter f):Ok (λr=>True) (Dj f):=by
 unfold Dj;have:=@Ik;have:=@Ij;have:=@Qa;exact TT
theorem Qb (T:Int)(J:Int)(I:Int)  : Ok (λr=>True) (kV T J I):=by
 unfold kV;exact TT
theorem O9 (b:rV)(n:Int)  : Ok (λr=>True) (Dk b n):=by
 unfold Dk;exact TT
theorem Qc (b:rV)(n:Int)(c2:Bool)  : Ok (λr=>True) (uV b n c2):=by
 unfold uV;have:=@O9;exact TT
theorem KC (s:List ByteArray)(v:ByteArray)(T:(sZ szB) s)(J:szB v):Ok (λr=>True) (slices_Index_string s v):=by
 unfold slices_Index_string rq;exact TT
theorem Il (s:List ByteArray)(v:ByteArray)(T:(sZ szB) s)(J:szB v):Ok (λr=>True) (slices_Contains_string s v):=by
 unfold slices_Contains_string;have:=@KC;exact TT
theorem ER (l:rX)(sub:ByteArray)(J:Ce l)(T:szB sub):Ok (λr=>True) (og l sub):=by
 unfold og;have:=@Il;exact TT
theorem wM (n:Int)  : Ok (λr=>-1000000<=r/\r<=1000000) (pz n):=by
 unfold pz;exact TT
theorem abq (a:Int)(b:Int)  : Ok (λr=>True) (OD a b):=by
 unfold OD;have:=@wM;exact TT
theorem Ai (a:Int)(b:Int)  : Ok (λr=>True) (DX a b):=by
 unfold DX;have:=@wM;exact TT
theorem NU (c:oJ)(x:Int)  : Ok (λr=>True) (zH c x):=by
 unfold zH;refine fA (UJ _ ) (λy1 h1=>?_);refine ok_br (λh2=>ok_some trivial) (λh2=>?_);refine jQ (λ(J:Int×Int)=>0<=J.2/\J.2<=5) (λ(J:Int×Int)=>(5-J.2).toNat) ⟨ai,ai⟩ aK (λJ k3 C I=>?_);obtain⟨t,g⟩:=C;unfold DZ;refine ok_brd (λh5=>?_) (λh5=>fA (abq _ _ ) (λy9 h10=>fA (Ai _ _ ) (λy10 h11=>ok_some trivial)));refine ok_jn (λ(s5:Int)=>True) (λk6 T=>?_) (λs5 hs7=>?_)
 refine acK ai ai (λj8 h8=>?_)
 split
 exact T _ trivial
 exact T _ trivial
 exact T _ trivial
 exact T _ trivial
 exact T _ trivial
 have h9:addI J.2 1=J.2+1:=wV ae ae;exact I _ ⟨ai,ai⟩ ai
theorem yx (o:fC)(t:eQ)(you:Int)(source:Int)(f:GFilter)(T:jG t)(J:szGFilter f):Ok (λr=>True) (lX o t you source f):=by
 unfold lX;have:=@O8;have:=@Qb;have:=@ER;have:=@sW;have:=@Qc;have:=@NU;have:=@O9;exact TT
theorem abr (a:Int)(b:Int)  : Ok (λr=>True) (OC a b):=by
 unfold OC;have:=@wM;exact TT
theorem RJ (c:Nk Int)  : Ok (λr=>True) (wH c):=by
 unfold wH;have:=@abr;exact TT
theorem Xu (kind:Int)  : Ok (λr=>True) (uP kind):=by
 unfold uP;exact TT
theorem acU (n:Int)(least:Int)(most:Int)  : Ok (λr=>True) (zI n least most):=by
 unfold zI;exact TT
theorem aab (m:GMod)(T:rC m):Ok (λr=>True) (NJ m):=by
 unfold NJ;exact TT
theorem acV (m:GMod)(T:rC m):Ok (λr=>True) (Tn m):=by
 unfold Tn;have:=@acU;have:=@aab;have:=@Ij;have:=@O8;exact TT
theorem tot_layer_sensitive (f:GFilter)(stage:Int)(T:szGFilter f):Ok (λr=>True) (layer_sensitive f stage):=by
 unfold layer_sensitive;exact TT
theorem rP {α:Type}{l:List α}{b:Nat}(h:(2*l.length+192)*b<=140737488355328)(h2:l.length<=4611686018427387904):pO (some ([]:List α)) (gY (0+l.length) b (some l))=some l :=
 ok_eq (MJ (gZ ak ae (ok_some rfl)))
theorem set_self {α:Type}{l:List α}{j:Nat}(h:j<l.length){x:α}(e:l[j]=x):l.set j x=l:=by subst e;simp_all
theorem WT (t:eQ)(h:jG t):Dn t=some t:=by
 obtain⟨_,h2,C⟩:=h;have q2:=h2.1;have q3:=C.1;unfold Dn;refine ok_eq (ok_bnde aX (ok_bnde (by unfold xI;exact rP ak ak) ?_));refine iY 0 t.fB.length (λn l=>l=t.fB) 0 rfl (Nat.zero_le _) ae rfl (λi l k hi T hk=>?_) λl k T=>?_
 subst T;obtain⟨_,g1,_,g2,g3,_⟩:=C.2 _ (List.getElem_mem hi);have p1:=g1.1;have p2:=g2.1;have p3:=g3.1;unfold D7;refine ok_brd (λ_=>gU i rfl hi (gB hi ?_)) λh=>absurd (show(i:Int)<(t.fB.length:Int) by omega) h;refine ok_bnde aP (ok_bnde bC (ok_bnde (by unfold vU;exact rP ak ak) ?_));refine iY 0 (t.fB[i]).jw.length (λn l=>l=(t.fB[i]).jw) 0 rfl (Nat.zero_le _) ae rfl (λj l2 k2 hj J I=>?_) λl2 k2 J=>?_
 subst J;have g:=(g3.2 _ (List.getElem_mem hj)).2.2.2.2.1;unfold D6;refine ok_brd (λ_=>gU j rfl hj (gB hj (ok_bnde aP (gU j rfl hj (gB hj (I _ ?_)))))) λh=>absurd (show(j:Int)<((t.fB[i]).jw.length:Int) by omega) h;exact set_self hj rfl
 subst J;unfold D6;refine ok_brd (λh=>absurd h (by show ¬ ((t.fB[i]).jw.length:Int)<((t.fB[i]).jw.length:Int);omega)) λ_=>hk _ ?_;exact set_self hi rfl
 subst T;unfold D7;exact ok_brd (λh=>absurd h (by show ¬ (t.fB.length:Int)<(t.fB.length:Int);omega)) λ_=>ok_some rfl
theorem Yx (a:fU)(h:kz a):uM a=some a:=by
 obtain⟨_,g1,_,g2,g3,_⟩:=h;have p1:=g1.1;have p2:=g2.1;have p3:=g3.1;unfold uM;refine ok_eq (ok_bnde aP (ok_bnde bC (ok_bnde bZ ?_)));refine iY 0 a.jw.length (λn l=>l=a.jw) 0 rfl (Nat.zero_le _) ae rfl (λj l2 k2 hj T J=>?_) λl2 k2 T=>?_
 subst T;have I:=(g3.2 _ (List.getElem_mem hj)).2.2.2.2.1;unfold uz;refine ok_brd (λ_=>gU j rfl hj (gB hj (ok_bnde aP (gU j rfl hj (gB hj (J _ ?_)))))) λh=>absurd (show(j:Int)<(a.jw.length:Int) by omega) h;exact set_self hj rfl
 subst T;unfold uz;exact ok_brd (λh=>absurd h bu) λ_=>ok_some rfl
structure acW (c:gq)(t:eQ):Prop where
 name:t.name=c.name
 line:t.line=c.line
 keys:t.keys=c.keys
 aeT:t.fB=c.fB
 power:t.power=c.power
 gz:t.gz=c.gz
theorem abt (c:gq)(h:lC c):Ok (acW c) (qg c):=by
 obtain⟨h1,h2,J⟩:=h;have g:=J.1;have q2:=h2.1;unfold qg;refine fA (UU c.cost) λC _=>ok_bnde aX ?_;refine iY 0 c.fB.length (λn t=>t=c.fB.take n) 0 rfl (Nat.zero_le _) ae rfl (λi t k hi T hk=>?_) λt k T=>?_
 have I:t.length<=1048576:=by grind
 unfold sU;refine ok_brd (λ_=>ok_ixL i rfl hi (ok_bnde (Yx _ (J.2 _ (List.getElem_mem hi))) (gZ ak ak (hk _ ?_)))) λh=>absurd (show(i:Int)<(c.fB.length:Int) by omega) h
 simp_all
 unfold sU;rw[nM] at T;refine ok_brd (λh=>absurd h aZ) λ_=>ok_some ⟨rfl,rfl,rfl,T,rfl,rfl⟩
theorem agJ:jG zGTraits:=by simp[jG,Ce,szB,sZ,zGTraits,WA,vH]
theorem acX (s:List ByteArray)(f:ByteArray->Option Bool)(hs:s.length<=2000000)(U:∀ x∈s,∃ b,f x=some b):Ok (λr=>r<=(s.length:Int)) (mD s f):=by
 unfold mD;refine ok_for1 0 s.length (λ_=>True) 0 rfl (Nat.zero_le _) ae trivial (λi k hi _ hk=>?_) λk _=>?_
 obtain⟨b,T⟩:=U _ (List.getElem_mem hi);unfold mQ;exact ok_brd (λ_=>ok_ixL i rfl hi (ok_bnde T (ok_br (λ_=>ok_some ak) λ_=>hk trivial))) λh=>absurd (show(i:Int)<(s.length:Int) by omega) h
 unfold mQ;exact ok_brd (λh=>absurd h bF) λ_=>ok_some ak
theorem acY (l:rX)(sub:ByteArray)(T:Ce l)(hs:szB sub):Ok Ce (xJ l sub):=by
 have q:=T.1;unfold xJ;refine ok_bnde aX (ok_jn (λb=>b=false->lenI l.subs<4) (λk hk=>?_) λb J=>?_)
 refine fA (Ij sub hs) λ_ _=>ok_br (λ_=>hk _ λh=>by cases h) λ_=>fA (ER _ sub T hs) λ_ _=>ok_br (λ_=>hk _ λh=>by cases h) λ_=>hk _ λh=>?_
 grind
 refine ok_br (λ_=>ok_some T) λh=>?_;have I:=J h;simp only[lenI] at I;refine fA (acX l.subs _ ae λx hx=>?_) λy hy=>ok_jn (λi=>0<=i/\i<=(l.subs.length:Int)) (λk hk=>ok_brd (λ_=>hk _ ⟨by grind[lenI],by grind[lenI]⟩) λh=>hk _ ⟨by omega,by omega⟩) λi hi=>?_
 exact⟨_,rfl⟩
 obtain⟨n,rfl⟩:=Int.eq_ofNat_of_zero_le hi.1;refine ok_bnde (Yh ae aF aY) (ok_some ⟨?_,λx hx=>?_⟩)
 simp;omega
 rcases List.mem_append.1 hx with hx|hx
 rcases List.mem_append.1 hx with hx|hx
 exact T.2 x (List.mem_of_mem_take hx)
 grind
 exact T.2 x (List.mem_of_mem_drop hx)
theorem aeU (t:eQ)(m:GMod)(you count:Int)(T:jG t)(I:rC m):Ok jG (Dp t m you count):=by
 have nil:jG { t with keys:=0,fB:=[] }:=⟨T.1,T.2.1,⟨by simp,by simp⟩⟩;have J:jG { t with line:={ t.line with subs:=[m.sub] } }:=⟨T.1,⟨by simp,λx hx=>by rw[List.mem_singleton.1 hx];exact I.1⟩,T.2.2⟩;unfold Dp;refine ok_bnde (WT t T) (fA (acV m I) λy _=>ok_br (λ_=>ok_some T) λ_=>?_)
 exact ok_brd (λ_=>ok_some T) λ_=>ok_brd (λ_=>ok_some T) λ_=>ok_brd (λ_=>ok_some T) λ_=>ok_brd (λ_=>ok_some J) λ_=>
  ok_brd (λ_=>fA (acY _ _ T.2.1 I.1) λl C=>ok_some ⟨T.1,C,T.2.2⟩) λ_=>ok_brd (λ_=>ok_some T) λ_=>ok_brd (λ_=>ok_some T) λ_=>ok_brd (λ_=>ok_some T) λ_=>ok_brd (λ_=>ok_some T) λ_=>
  ok_brd (λ_=>ok_some nil) λ_=>ok_brd (λ_=>fA (wM _) λ_ _=>fA (wM _) λ_ _=>ok_some T) λ_=>ok_brd (λ_=>ok_some T) λ_=>
  ok_brd (λ_=>fA (Ai _ _) λ_ _=>fA (Ai _ _) λ_ _=>ok_some T) λ_=>ok_brd (λ_=>ok_some T) λ_=>ok_some T
theorem abu (a:fU)(h:kz a):qI a=some a:=by
 obtain⟨_,g1,_,g2,g3,_⟩:=h;have p1:=g1.1;have p2:=g2.1;have p3:=g3.1;unfold qI;refine ok_eq (ok_bnde aP (ok_bnde bC (ok_bnde bZ ?_)));refine iY 0 a.jw.length (λn l=>l=a.jw) 0 rfl (Nat.zero_le _) ae rfl (λj l2 k2 hj T J=>?_) λl2 k2 T=>?_
 subst T;have I:=(g3.2 _ (List.getElem_mem hj)).2.2.2.2.1;unfold tX;refine ok_brd (λ_=>gU j rfl hj (gB hj (ok_bnde aP (gU j rfl hj (gB hj (J _ ?_)))))) λh=>absurd (show(j:Int)<(a.jw.length:Int) by omega) h;exact set_self hj rfl
 subst T;unfold tX;exact ok_brd (λh=>absurd h bu) λ_=>ok_some rfl
def abv (all:List eQ):Prop:=∀ t∈all,jG t
def xY (w:eP):Prop:=kz w.iZ
theorem agK (all:List eQ)(i:Nat)(h:abv all):Ok jG (BH all (i:Int)):=by
 unfold BH;exact ok_brd (λh1=>xh ae (by simpa [lenI] using h1) λx hx=>ok_some (h x hx)) λ_=>ok_some agJ
theorem abw (s:GState)(all:List eQ)(w:eP)(id:Int)(hs:s.objects.length<=2048)(I:abv all)(J:xY w):Ok (λ_=>True) (Hr s all w id):=by
 unfold Hr;refine ok_for1 0 s.objects.length (λ_=>True) 0 rfl (Nat.zero_le _) ae trivial (λi k hi _ hk=>?_) λk _=>?_
 unfold JJ;exact ok_brd (λ_=>ok_ixL i rfl hi (ok_brd (λ_=>fA (agK _ _ I) λt T=>fA (yx _ _ _ _ _ T J.2.2.1) λ_ _=>ok_some trivial) λ_=>hk trivial)) λh=>absurd (show(i:Int)<(s.objects.length:Int) by omega) h
 unfold JJ;exact ok_brd (λh=>absurd h aN) λ_=>ok_some trivial
theorem OQ (l:List fC)(f:fC->Option Bool)(T:l.length<=2000000)(U:∀ x,Ok (λ_=>True) (f x)):Ok (λr=>r<(l.length:Int)) (gQ l f):=by
 unfold gQ;refine ok_for1 0 l.length (λ_=>True) 0 rfl (Nat.zero_le _) ae trivial (λi k hi _ hk=>?_) λk _=>?_
 unfold mP;exact ok_brd (λ_=>ok_ixL i rfl hi (fA (U _) λb _=>ok_br (λ_=>ok_some ak) λ_=>hk trivial)) λh=>absurd (show(i:Int)<(l.length:Int) by omega) h
 unfold mP;exact ok_brd (λh=>absurd h aB) λ_=>ok_some ak
theorem RN (l:List fC)(f:fC->Option Bool)(T:l.length<=2000000)(U:∀ x,Ok (λ_=>True) (f x)):Ok (λ_=>True) (kY l f):=by
 unfold kY;exact fA (OQ l f T U) λ_ _=>ok_some trivial
structure Ve (c:jP):Prop where
 b:c.before.objects.length<=2048
 a:c.after.objects.length<=2048
 ab:abv c.l9
 aa:abv c.nY
 k2:c.e.kind≠2
 k10:c.e.kind≠10
theorem left_ok {c:jP}(h:Ve c):Ok (λ_=>True) (Hw c):=by
 unfold Hw;refine fA (RN _ _ (by have:=h.b;omega) λx=>?_) λ_ _=>fA (RN _ _ (by have:=h.a;omega) λx=>?_) λ_ _=>?_
 simp_all[BI,ok_brd,ok_some]
 simp_all[BJ,ok_some]
 exact ok_brd (λ_=>ok_br (λ_=>ok_some trivial) λ_=>ok_some trivial) λ_=>ok_some trivial
theorem abx (kind id:Int)(s:GState)(all:List eQ)(c:jP){w:eP}(hs:s.objects.length<=2048)(J:abv all)(T:xY w):Ok (λr=>r.length<=1) (lW kind id s all c w):=by
 grind[lW,fA,abw,ok_br,ok_some]
theorem aby {c:jP}{w:eP}(h:Ve c)(T:xY w):Ok (λr=>r.length<=1) (BK c w):=by
 have nil:Ok (λr:List Int=>r.length<=1) (some []):=ok_some aF;have B:=λkind id=>fA (abx kind id c.before c.l9 c h.b h.ab T) (k:=λy=>some y) λy hy=>ok_some (Q:=λr:List Int=>r.length<=1) hy;have A:=λkind id=>fA (abx kind id c.after c.nY c h.a h.aa T) (k:=λy=>some y) λy hy=>ok_some (Q:=λr:List Int=>r.length<=1) hy;unfold BK;refine ok_brd (λ_=>ok_jn (λb=>b=true) (λk hk=>?_) λb J=>by subst J;exact nil) λ_=>?_
 exact qM (λ_=>hk _ (by simp[h.k10])) λe=>absurd e h.k2
 refine ok_brd (λ_=>fA (left_ok h) λ_ _=>ok_br (λ_=>B _ _) λ_=>nil) λ_=>?_;refine ok_brd (λ_=>ok_jn (λ_=>True) (λk hk=>fA (left_ok h) λ_ _=>ok_br (λ_=>hk _ trivial) λ_=>hk _ trivial) λb _=>ok_br (λ_=>B _ _) λ_=>nil) λ_=>?_;exact ok_brd (λ_=>A _ _) λ_=>ok_brd (λ_=>A _ _) λ_=>ok_brd (λ_=>A _ _) λ_=>ok_brd (λ_=>B _ _) λ_=>ok_brd (λ_=>qM (λ_=>B _ _) λ_=>nil) λ_=>nil
theorem acZ (s:GState)(p you who:Int):Ok (λ_=>True) (FP s p you who):=by
 unfold FP;refine ok_jn (λ_=>True) (λk hk=>ok_brd (λ_=>hk _ trivial) λh0=>ok_brd (λ_=>hk _ trivial) λh1=>xh ae bQ λ_ _=>hk _ trivial) λb _=>?_;exact ok_br (λ_=>ok_some trivial) λ_=>ok_brd (λ_=>ok_some trivial) λ_=>ok_brd (λ_=>ok_some trivial) λ_=>ok_brd (λ_=>ok_some trivial) λ_=>ok_some trivial
theorem aeV (n:Int):Ok (λ_=>True) (FO n):=by
 unfold FO;exact ok_brd (λ_=>ok_some trivial) λ_=>ok_brd (λ_=>ok_some trivial) λ_=>ok_brd (λ_=>ok_some trivial) λ_=>ok_brd (λ_=>ok_some trivial) λ_=>ok_brd (λ_=>ok_some trivial) λ_=>ok_brd (λ_=>ok_some trivial) λ_=>ok_some trivial
def TN (n:Nat)(r:List gm):Prop:=r.length<=n/\∀ x∈r,pX x
theorem ac0 {c:jP}{w:eP}(h:Ve c)(T:xY w):Ok (TN 1) (yS c w):=by
 have nil:TN 1 []:=⟨by simp,by simp⟩;unfold yS;refine ok_bnde (abu _ T) (fA (aeV _) λy _=>qM (λ_=>?_) λ_=>?_)
 refine ok_jn (λ_=>True) (λk hk=>ok_brd (λ_=>fA (acZ _ _ _ _) λ_ _=>hk _ trivial) λ_=>hk _ trivial) λb _=>?_;refine ok_jn (λ_=>True) (λk hk=>ok_br (λ_=>hk _ trivial) λ_=>ok_brd (λ_=>fA (abw _ _ _ _ h.a h.aa T) λ_ _=>hk _ trivial) λ_=>hk _ trivial) λb _=>?_;refine ok_br (λ_=>ok_some nil) λ_=>ok_some ⟨by simp,λx hx=>?_⟩;rw[List.mem_singleton.1 hx];exact T
 refine fA (aby h T) λl hl=>?_;refine iY 0 l.length (λi t=>TN i t) 0 rfl (Nat.zero_le _) ae ⟨by simp,by simp⟩ (λi t k hi C hk=>?_) λt k C=>?_
 have h1:=C.1;unfold yu;refine ok_brd (λ_=>ok_jn (TN (i+1)) (λk16 g=>?_) λu hu=>hk u hu) λh=>absurd (show(i:Int)<(l.length:Int) by omega) h;refine ok_ixL i rfl hi (ok_bnde (abu _ T) (ok_jn (λ_=>True) (λk21 I=>ok_jn (λ_=>True) (λk24 J=>ok_brd (λ_=>J _ trivial) λ_=>J _ trivial) λb _=>ok_br (λ_=>I _ trivial) λ_=>I _ trivial) λo _=>gZ ak ak (g _ ⟨by simp;omega,λx hx=>?_⟩)));rcases List.mem_append.1 hx with hx|hx
 grind
 rw[List.mem_singleton.1 hx];exact T
 unfold yu;exact ok_brd (λh=>absurd h aB) λ_=>ok_some ⟨by have:=C.1;grind,C.2⟩
theorem aac (n:Int):Ok (λ_=>True) (zu n):=by
 unfold zu;exact ok_brd (λ_=>ok_some trivial) λ_=>ok_brd (λ_=>ok_some trivial) λ_=>ok_brd (λ_=>ok_some trivial) λ_=>ok_some trivial
theorem agL {l:List eP}(w:eP)(h:l.length<=10000000000):uZ l w=some (true,l++[w]):=by
 unfold uZ;have e:l.length+[w].length=l.length+1:=rfl;rw[e];exact ok_eq (gZ ae ae (ok_some rfl))
theorem ad1 (l0:List eP)(s:GState)(all:List eQ)(e:Bool)(hs:s.objects.length<=2048)(ha:abv all)(h0:l0.length<=3000000000)(hp:∀ x∈l0,xY x):Ok (λr=>r.length<=l0.length+2147483648/\∀ x∈r,xY x) (oz l0 s all e):=by
 unfold oz;refine iY 0 s.objects.length (λi t=>t.length<=l0.length+1048576*i/\∀ x∈t,xY x) 0 rfl (Nat.zero_le _) ae ⟨by omega,hp⟩ (λi t k hi hI hk=>?_) λt k hI=>?_
 have je:t.length<=l0.length+1048576*i:=hI.1;have up:t.length<=l0.length+1048576*(i+1):=by omega
 have g:=hI.2;unfold qJ;refine ok_brd (λ_=>ok_jn (λu=>u.length<=l0.length+1048576*(i+1)/\∀ x∈u,xY x) (λk5 h5=>?_) λu hu=>hk u hu) λh=>absurd (show(i:Int)<(s.objects.length:Int) by omega) h;refine ok_ixL i rfl hi (qM (λ_=>h5 _ ⟨up,g⟩) λ_=>fA (agK _ _ ha) λtr T=>?_);have hal:=T.2.2.1;refine jQ (λq=>∃ j:Nat,q.2.1=(j:Int)/\j<=tr.fB.length/\q.2.2.length<=l0.length+1048576*i+j/\∀ x∈q.2.2,xY x) (λq=>tr.fB.length-q.2.1.toNat) ⟨0,rfl,by omega,by simpa using je,g⟩ (by show tr.fB.length-_<18446744073709551616;omega) ?_
 rintro⟨o,j',u⟩ k10 ⟨j,ej,hj,hu,hU⟩ hk10
 simp only at ej hu hU;subst ej;unfold ve;refine ok_brd (λh=>?_) λh=>h5 _ ⟨by grind,hU⟩;have J:j<tr.fB.length:=by grind[lenI]
 refine ok_jn (λq=>q.2.length<=l0.length+1048576*i+(j+1)/\∀ x∈q.2,xY x) (λk13 I=>?_) λq hq=>hk10 _ ⟨j+1,addI_nat ae,by omega,hq.1,hq.2⟩ cu;refine ok_ixL j rfl J (ok_jn (λ_=>True) (λk17 C=>qM (λ_=>C _ trivial) λ_=>fA (aac _) λ_ _=>C _ trivial) λb _=>ok_br (λ_=>I _ ⟨by grind,hU⟩) λ_=>ok_bnde (agL _ ak) (iJ rfl (I _ ⟨by grind,λx hx=>?_⟩)));rcases List.mem_append.1 hx with hx|hx
 exact hU x hx
 rw[List.mem_singleton.1 hx];exact T.2.2.2 _ (List.getElem_mem J)
 unfold qJ;exact ok_brd (λh=>absurd h aN) λ_=>ok_some ⟨by grind,hI.2⟩
theorem aiD (a b:eP):Ok (λ_=>True) (nJ a b):=by
 have C:∀ x y:Int,Ok (λ_=>True) (cmp_Compare_int x y):=λx y=>by
  unfold cmp_Compare_int cmp_isNaN_int;exact ok_bnde rfl (ok_bnde rfl (ok_br (λ_=>ok_br (λ_=>ok_some trivial) λ_=>ok_some trivial) λ_=>ok_br (λ_=>ok_some trivial) λ_=>ok_brd (λ_=>ok_some trivial) λ_=>ok_brd (λ_=>ok_some trivial) λ_=>ok_some trivial))
 unfold nJ;refine fA (C _ _) λx _=>fA (C _ _) λy _=>fA (R:=λ_=>True) ?_ λ_ _=>ok_some trivial;unfold PX;refine ok_for1 0 2 (λ_=>True) 0 rfl ae ae trivial (λi k hi _ hk=>?_) λk _=>?_
 unfold JI;exact ok_brd (λ_=>ok_ixL i rfl bH (qM (λ_=>ok_some trivial) λ_=>hk trivial)) λ_=>ok_some trivial
 unfold JI;exact ok_brd (λh=>absurd h dY) λ_=>ok_some trivial
theorem agM (b:GState)(ab:List eQ)(a:GState)(aa:List eQ)(e:jg)(h:Ve ⟨b,a,ab,aa,e⟩):Ok (TN 5000000000) (xN b ab a aa e):=by
 unfold xN zt;refine ok_bnde rfl (fA (ad1 [] b ab true h.b h.ab aF aF) λg h1=>ok_bnde rfl (fA (ad1 g a aa false h.a h.aa ak h1.2) λl2 h2=>?_));have hlen:l2.length<=5000000000:=by grind
 refine fA (agC aiD (P:=xY) ae h2.2) λd C=>?_;have hdl:=C.len;have T:d.length<=5000000000:=by omega
 refine iY 0 d.length (λi t=>t.2=d/\TN i t.1) 0 rfl (Nat.zero_le _) ae ⟨rfl,by simp,by simp⟩ (λi t k hi I hk=>?_) λt k I=>?_
 obtain⟨t1,t2⟩:=t;obtain⟨rfl,J,i2⟩:=I;have J:t1.length<=i:=J;have i2:∀ x∈t1,pX x:=i2;have hi:i<t2.length:=hi;have T:t2.length<=5000000000:=T;unfold BL;refine ok_brd (λ_=>gU i rfl hi (gB hi (fA (ac0 h (C.get hi)) λy hy=>gZ ?_ ?_ (hk _ ⟨rfl,?_,λx hx=>?_⟩)))) λh=>absurd (show(i:Int)<(t2.length:Int) by omega) h
 have:=hy.1;grind
 have:=hy.1;grind
 have:=hy.1;grind
 rcases List.mem_append.1 hx with hx|hx
 exact i2 x hx
 exact hy.2 x hx
 obtain⟨t1,t2⟩:=t;obtain⟨rfl,J,i2⟩:=I;have J:t1.length<=t2.length:=J;have T:t2.length<=5000000000:=T;unfold BL;exact ok_brd (λh=>absurd h (by show ¬ (t2.length:Int)<(t2.length:Int);omega)) λ_=>ok_some ⟨Nat.le_trans J T,i2⟩
theorem aeW {l:List jB}(h:l.length<=1048576):yH l=some l:=ok_eq (MJ (gZ ae ae (ok_some rfl)))
theorem Qd {l:List Int}(h:l.length<=1048576):slices_Clone_int l=some l:=ok_eq (MJ (gZ ae ae (ok_some rfl)))
theorem aeX {l:List fC}(h:l.length<=1048576):yI l=some l:=ok_eq (MJ (gZ ae ae (ok_some rfl)))
theorem aiE {l:List oK}(h:l.length<=1048576):BA l=some l:=ok_eq (MJ (gZ ae ae (ok_some rfl)))
theorem aiF {l:List rW}(h:l.length<=1048576):ng l=some l:=ok_eq (MJ (gZ ae ae (ok_some rfl)))
theorem aeY {l:List iy}(h:l.length<=1048576):oW l=some l:=ok_eq (MJ (gZ ae ae (ok_some rfl)))
theorem ac1 {l:List GMod}(h:l.length<=1048576):jo l=some l:=ok_eq (MJ (gZ ae ae (ok_some rfl)))
theorem aeZ {l:List qf}(h:l.length<=1048576):yJ l=some l:=ok_eq (MJ (gZ ae ae (ok_some rfl)))
theorem ac2 {l:List gm}(h:l.length<=1048576):xM l=some l:=ok_eq (MJ (gZ ae ae (ok_some rfl)))
theorem aiG {l:List qc}(h:l.length<=1048576):BB l=some l:=ok_eq (MJ (gZ ae ae (ok_some rfl)))
theorem Me {α:Type}{l:List α}{i:Nat}(h:i<l.length):l.set i l[i]=l:=List.set_getElem_self h
theorem akj {e:iy}(h:rJ e):e.mods.length<=1048576:=h.2.2.2.2.1
theorem NV (a:fU)(T:kz a):rH a=some a:=by
 have h1:a.mods.length<=1048576:=T.2.1.1;have h2:a.specs.length<=1048576:=T.2.2.2.1.1;have I:a.jw.length<=1048576:=T.2.2.2.2.1.1;unfold rH;refine ok_eq (ok_bnde (ac1 h1) (ok_bnde (aiF h2) (ok_bnde (aeY I) ?_)));refine iY 0 a.jw.length (λ_ t=>t=a.jw) 0 rfl (Nat.zero_le _) ae rfl ?_ ?_
 rintro i t k hi rfl hk
 have J:=akj (T.2.2.2.2.1.2 _ (List.getElem_mem hi));unfold uD;exact ok_brd (λ_=>gU i rfl hi (gB hi (ok_bnde (ac1 J) (gU i rfl hi (gB hi (hk _ (Me hi))))))) λh=>absurd (show(i:Int)<(a.jw.length:Int) by omega) h
 rintro t k rfl
 unfold uD;exact ok_brd (λh=>absurd h bu) λ_=>ok_some rfl
theorem Xv (p:jB)(T:Gt p):zq p=some p:=by
 unfold zq;exact ok_eq (ok_bnde (Qd T.1.1) (ok_bnde (Qd T.2.1.1) (ok_bnde (Qd T.2.2.1) (ok_some rfl))))
theorem RP (s:GState)(hs:jX s):sV s=some s:=by
 obtain⟨p1,p2,p3,p4,p5,p6,p7,p8⟩:=hs;have q1:=p1.1;have q2:=p2.1;have C:=p3.1;have I:=p4.1;have q5:=p5.1;have q6:=p6.1;have g:=p7.1;have T:=p8.1;unfold sV;refine ok_eq (ok_bnde (aeW q1) ?_);refine iY 0 s.fM.length (λ_ t=>t=s.fM) 0 rfl (Nat.zero_le _) ae rfl ?_ ?_
 rintro i t k hi rfl hk
 unfold BG;exact ok_brd (λ_=>gU i rfl hi (gB hi (ok_bnde (Xv _ (p1.2 _ (List.getElem_mem hi))) (gU i rfl hi (gB hi (hk _ (Me hi))))))) λh=>absurd (show(i:Int)<(s.fM.length:Int) by omega) h
 rintro t _ rfl
 unfold BG;refine ok_brd (λh=>absurd h (by show ¬ (s.fM.length:Int)<(s.fM.length:Int);omega)) λ_=>?_;refine ok_bnde (aeX q2) (ok_bnde (Qd C) (ok_bnde (Qd I) (ok_bnde (aiE q5) ?_)));refine iY 0 s.stack.length (λ_ t=>t=s.stack) 0 rfl (Nat.zero_le _) ae rfl ?_ ?_
 rintro i t k hi rfl hk
 have z:=p5.2 _ (List.getElem_mem hi);have J:(s.stack[i]).targets.length<=1048576:=z.2.1;unfold BF;refine ok_brd (λ_=>gU i rfl hi (gB hi (ok_bnde (NV _ z.1) (gU i rfl hi (gB hi (gU i rfl hi ?_)))))) λh=>absurd (show(i:Int)<(s.stack.length:Int) by omega) h;have e:s.stack.set i { s.stack[i] with iZ:=(s.stack[i]).iZ }=s.stack:=Me hi;simp only[e];exact gB hi (ok_bnde (aeZ J) (gU i rfl hi (gB hi (hk _ (Me hi)))))
 rintro t _ rfl
 unfold BF;refine ok_brd (λh=>absurd h (by show ¬ (s.stack.length:Int)<(s.stack.length:Int);omega)) λ_=>?_;refine ok_bnde (ac2 q6) ?_;refine iY 0 s.waiting.length (λ_ t=>t=s.waiting) 0 rfl (Nat.zero_le _) ae rfl ?_ ?_
 rintro i t k hi rfl hk
 have z:kz (s.waiting[i]).iZ:=p6.2 _ (List.getElem_mem hi);unfold BD;exact ok_brd (λ_=>gU i rfl hi (gB hi (ok_bnde (NV _ z) (gU i rfl hi (gB hi (hk _ (Me hi))))))) λh=>absurd (show(i:Int)<(s.waiting.length:Int) by omega) h
 rintro t _ rfl
 unfold BD;refine ok_brd (λh=>absurd h (by show ¬ (s.waiting.length:Int)<(s.waiting.length:Int);omega)) λ_=>?_;refine ok_bnde (aiG g) ?_;refine iY 0 s.jT.length (λ_ t=>t=s.jT) 0 rfl (Nat.zero_le _) ae rfl ?_ ?_
 rintro i t k hi rfl hk
 have z:=p7.2 _ (List.getElem_mem hi);have z1:(s.jT[i]).objects.length<=1048576:=z.1.1;have z2:(s.jT[i]).mods.length<=1048576:=z.2.1;unfold BC;refine ok_brd (λ_=>gU i rfl hi (gB hi (ok_bnde (Qd z1) (gU i rfl hi (gB hi (gU i rfl hi ?_)))))) λh=>absurd (show(i:Int)<(s.jT.length:Int) by omega) h;have e:s.jT.set i { s.jT[i] with objects:=(s.jT[i]).objects }=s.jT:=Me hi;simp only[e];exact gB hi (ok_bnde (ac1 z2) (gU i rfl hi (gB hi (hk _ (Me hi)))))
 rintro t _ rfl
 unfold BC;refine ok_brd (λh=>absurd h (by show ¬ (s.jT.length:Int)<(s.jT.length:Int);omega)) λ_=>?_;exact ok_bnde (Qd T) (ok_some rfl)
def Eb (f:GLayerForce):Prop:=sZ (λ(_:Int)=>True) f.objects/\szGFilter f.filter/\sZ rC f.mods
def ad2 (n:Nat)(x:List Int):Prop:=x.length<=2048/\∀ y∈x,0<=y/\y<(n:Int)
structure WLK (s:GState)(L:List GLayerForce)(w:GLayerWorld):Prop where
 st:w.s=s
 l:w.forces=L
 all:w.traits.length=s.objects.length
 tr:∀ t∈w.traits,jG t
 don:w.done.length=L.length
 hit:w.hits.length=L.length
 akk:∀ x∈w.hits,ad2 s.objects.length x
 drp:w.dropped.length=s.objects.length
structure alI (s:GState)(L:List GLayerForce):Prop where
 hs:jX s
 ho:s.objects.length<=2048
 len:L.length<=1100000
 f:∀ f∈L,Eb f
section
variable {s:GState}{L:List GLayerForce}(H:alI s L){w:GLayerWorld}(W:WLK s L w)
include H W
theorem trsz {i:Nat}(h:i<w.traits.length):jG w.traits[i]:=W.tr _ (List.getElem_mem h)
theorem agN (you source:Int)(f:GFilter)(U:szGFilter f):Ok (λ_=>True) (nI w.s w.traits you source f):=by
 have ho:=H.ho;rw[W.st];unfold nI;refine iY 0 s.objects.length (λn t=>t.length<=n) 0 rfl (Nat.zero_le _) ae (Nat.zero_le _) (λi t k hi g hk=>?_) λt k g=>?_
 have T:i<w.traits.length:=by rw[W.all];exact hi
 unfold uX;refine ok_brd (λ_=>ok_jn (λu=>u.length<=i+1) (λk5 J=>?_) λu hu=>hk u hu) λh=>absurd (show(i:Int)<(s.objects.length:Int) by omega) h;refine ok_ixL i rfl hi (ok_jn (λp=>jG p.2) (λk9 I=>?_) λp C=>?_)
 exact ok_brd (λ_=>ok_ixL i rfl T (I _ (trsz H W T))) λ_=>I _ agJ
 exact fA (yx _ _ _ _ _ C U) λ_ _=>ok_br (λ_=>gZ (by show(2*(t.length+1)+192)*8<=_;omega) (by show t.length+1<=_;omega) (J _ aY)) λ_=>J _ (by show t.length<=i+1;omega)
 unfold uX;exact ok_brd (λh=>absurd h aN) λ_=>ok_some trivial
end
end Go.Proofs.YtchmoabpofnbaaaGreat
