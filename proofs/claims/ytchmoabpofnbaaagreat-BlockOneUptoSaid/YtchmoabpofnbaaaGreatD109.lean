import Derived.Lib.IndexMore
import Derived.KernelRfl
import Derived.Test.YtchmoabpofnbaaaGreatD107
import Derived.Test.YtchmoabpofnbaaaGreatD108
set_option linter.all false
namespace Go.Proofs.YtchmoabpofnbaaaGreat
open Go Go.Pv
set_option maxRecDepth 100000
theorem OT (n:Int):qh n=oK n:=by
 unfold qh oK
 by_cases h1:1000000<n
 rw[decide_eq_true h1,if_neg (by omega:¬ n < -1000000),if_pos h1];rfl
 rw[decide_eq_false h1]
 by_cases h2:n < -1000000
 rw[decide_eq_true h2,if_pos h2];rfl
 rw[decide_eq_false h2,if_neg h2,if_neg h1];rfl
theorem add_eq (a b:Int):Ez a b=ou a b:=by grind[Ez,ou,OT]
theorem sub_eq (a b:Int):PL a b=VT a b:=by grind[PL,VT,OT]
theorem mul_eq (a b:Int):PM a b=Gn a b:=by grind[PM,Gn,OT]
theorem acy (c:NW Int):xx c=GZ c:=by unfold xx GZ;rw[sub_eq]
theorem ah8 (b:sQ)(n:Int):D6 b n=Bi b n:=rfl
theorem has_eq (m k:Int):oL m k=MF m k:=rfl
theorem acz (k:Int):vI k=xn k:=by
 unfold vI xn
 by_cases h:11<=k/\k<=14
 obtain⟨h1,h2⟩:=h;have:k=11\/k=12\/k=13\/k=14:=by omega
 rcases this with rfl|rfl|rfl|rfl<;>rfl
 have e1:decide (k=11)=false:=decide_eq_false ae;have J:decide (k=12)=false:=decide_eq_false ae;have T:decide (k=13)=false:=decide_eq_false ae;have I:decide (k=14)=false:=decide_eq_false ae;rw[e1,J,T,I];rfl
theorem UF (l:List ByteArray)(s:ByteArray)(J:l.length<=2000000):Ok (λr=>(s ∉ l/\r=-1)\/(s∈l/\0<=r)) (Bh l s):=by
 unfold Bh;refine kM 0 l.length (λi=>s ∉ l.take i) 0 rfl (Nat.zero_le _) ae aj (λi k hi T hk=>?_) λk T=>?_
 unfold Gm;refine dY (λ_=>fO i rfl hi (gq (λe=>dX (.inr ⟨?_,by omega⟩)) λe=>hk ?_)) λh=>absurd (show(i:Int)<(l.length:Int) by omega) h
 grind[gp]
 grind[gp,gQ]
 unfold Gm;rw[oh] at T;exact dY (λh=>absurd h ax) λ_=>dX (.inl ⟨T,rfl⟩)
theorem agb (l:List ByteArray)(s:ByteArray)(J:l.length<=2000000):Ok (λr=>(s ∉ l/\r=-1)\/(s∈l/\0<=r)) (slices_Index_string l s):=by
 unfold slices_Index_string;refine kM 0 l.length (λi=>s ∉ l.take i) 0 rfl (Nat.zero_le _) ae aj (λi k hi T hk=>?_) λk T=>?_
 unfold rU;refine dY (λ_=>fO i rfl hi (gq (λe=>dX (.inr ⟨?_,by omega⟩)) λe=>hk ?_)) λh=>absurd (show(i:Int)<(l.length:Int) by omega) h
 grind[gp]
 grind[gp,gQ]
 unfold rU;rw[oh] at T;exact dY (λh=>absurd h ax) λ_=>dX (.inl ⟨T,rfl⟩)
theorem Zl (l:rZ)(s:ByteArray)(T:l.subs.length<=2000000):oO l s=DW l s:=by
 classical
 have e1:oO l s=some (decide (s∈l.subs)):=by
  unfold oO slices_Contains_string;refine ok_eq (fB (R:=λb=>b=decide (s∈l.subs)) (fB (agb _ _ T) ?_) λb J=>dX J)
  rintro r (⟨h,rfl⟩|⟨h,h2⟩)
  grind[dX]
  grind[dX]
 have I:DW l s=some (decide (s∈l.subs)):=by
  unfold DW;refine ok_eq (fB (UF _ _ T) ?_)
  rintro r (⟨h,rfl⟩|⟨h,h2⟩)
  grind[dX]
  grind[dX]
 rw[e1,I]
def bt (s:ByteArray)(i:Nat):Int:=match s[i]? with|some c=>(c.toNat:Int)|none=>0
theorem alL {s:ByteArray}{i:Nat}(h:i<s.size):jM s (i:Int)=some (bt s i):=by
 show(match s[i]? with|some c=>some (c.toNat:Int)|none=>none)=_
 grind[bt]
theorem AB {ρ:Type}{Q:ρ->Prop}{s:ByteArray}{i:Int}{k:Int->Option ρ}(n:Nat)(e:i=(n:Int))(h:n<s.size)(hk:Ok Q (k (bt s n))):Ok Q (bnd (jM s i) k):=by
 subst e;rw[alL h];exact hk
def ah9 (c:Int):Prop:=(97<=c/\c<=122)\/(48<=c/\c<=57)\/c=45
structure ad1 (s:ByteArray):Prop where
 n:1<=s.size/\s.size<=32
 a:97<=bt s 0/\bt s 0<=122
 z:bt s (s.size-1)≠45
 c:∀ i,i<s.size->ah9 (bt s i)
 d:∀ i,i+1<s.size->¬(bt s i=45/\bt s (i+1)=45)
theorem aia (c:Int):MC c=some (decide (97<=c/\c<=122)):=by
 unfold MC;exact ok_eq (dY (λh=>dX (by simp[h])) λh=>dX (by simp[h]))
theorem aj2 (s:ByteArray):Ok (λr=>r=true->ad1 s) (Oa s):=by
 unfold Oa;refine gu (λb=>b=false->(1<=s.size/\s.size<=32)/\(97<=bt s 0/\bt s 0<=122)/\bt s (s.size-1)≠45) (λk hk=>?_) λb I=>gq (λ_=>dX λh=>by cases h) λU=>?_
 refine dY (λ_=>hk _ λh=>by cases h) λh1=>dY (λ_=>hk _ λh=>by cases h) λh2=>AB 0 rfl ae (eP (aia _) (gq (λ_=>hk _ λh=>by cases h) λh3=>AB (s.size-1) (by grind[EJ]) ae (hk _ λh4=>⟨by omega,by simpa using h3,of_decide_eq_false h4⟩)))
 obtain⟨n,a,z⟩:=I U;refine kM 0 s.size (λi=>(∀ j,j<i->ah9 (bt s j))/\∀ j,j+1<i->¬(bt s j=45/\bt s (j+1)=45)) 0 rfl (Nat.zero_le _) ae ⟨by omega,by omega⟩ (λi k hi C hk=>?_) λk C=>?_
 unfold O9;refine dY (λ_=>gu (λb=>b=false->ah9 (bt s i)) (λk11 T=>?_) λb I=>gq (λ_=>dX λh=>by cases h) λU=>?_) λh=>absurd (show(i:Int)<(s.size:Int) by omega) h
 refine AB i rfl hi (eP (aia _) (gq (λ_=>AB i rfl hi (dY (λt=>AB i rfl hi (T _ λh=>.inr (.inr aN))) λt=>AB i rfl hi (dY (λ_=>AB i rfl hi (T _ λh=>.inr (.inr aN))) λh57=>T _ λ_=>.inr (.inl ⟨by omega,by omega⟩)))) λh=>T _ λ_=>.inl aN))
 have hc:=I U
 have g:∀ j,j<i+1->ah9 (bt s j):=λj hj=>by
  grind
 refine gu (λb=>b=false->0<i->¬(bt s (i-1)=45/\bt s i=45)) (λk20 J=>?_) λb I=>gq (λ_=>dX λh=>by cases h) λU=>hk ⟨g,λj hj=>?_⟩
 refine dY (λh0=>AB i rfl hi (dY (λe=>AB (i-1) (by grind[EJ]) ae (J _ λh _ hh=>of_decide_eq_false h hh.1)) λe=>J _ λ_ _ hh=>e hh.2)) λh0=>J _ λ_ h=>absurd (show(0:Int)<(i:Int) by omega) h0
 grind
 unfold O9;exact dY (λh=>absurd h ae) λ_=>dX λ_=>⟨n,a,z,C.1,C.2⟩
theorem aib (s:ByteArray)(h:ad1 s):MS s=some true:=by
 obtain⟨⟨n1,n2⟩,a,z,c,d⟩:=h
 have I:strings_Contains s (bs [45,45])=some false:=by
  unfold strings_Contains ahL;rw[if_pos ae]
  congr 1
  unfold Lib.contains;refine decide_eq_false λh0=>?_;rcases Lib.index_spec s.data.toList (bs [45,45]).data.toList with ⟨h1,_⟩|⟨i,h1,h2,C,_⟩
  omega
  have hp : [45,45] <+: s.data.toList.drop i:=by simpa [Lib.occAt,bs] using C
  obtain⟨t,ht⟩:=hp
  have hl:i+1<s.size:=by
   have:=congrArg List.length ht;simp at this
   grind
  have g:∀ j,j<2->s.data.toList[i+j]?=some 45:=λj hj=>by
   have:(s.data.toList.drop i)[j]?=some 45:=by
    grind
   grind
  have b:∀ j,i+j<s.size->j<2->bt s (i+j)=45:=λj hj hj2=>by
   have e:=g j hj2;unfold bt
   have:s[i+j]?=some 45:=by
    rw[getElem?_pos s (i+j) hj]
    have h5:s.data.toList[i+j]?=some (s[i+j]'hj):=by
     rw[List.getElem?_eq_getElem dK];rfl
    grind
   rw[this];rfl
  exact d i hl ⟨by have:=b 0 ae ae;simpa using this,b 1 hl ae⟩
 unfold MS;refine ok_eq (gu (λb=>b=false) (λk hk=>?_) λb J=>?_)
 exact dY (λh=>absurd h ae) λ_=>dY (λh=>absurd h ae) λ_=>AB 0 rfl ae (dY (λh=>absurd h ae) λ_=>AB 0 rfl ae (dY (λh=>absurd h ae) λ_=>AB (s.size-1) (by grind[EJ]) ae (dY (λh=>absurd h z) λ_=>eP I (hk _ rfl))))
 subst J;have hlen:(Fh s).length=s.size:=by simp[Fh]
 refine iE rfl (BN (kM 0 (Fh s).length (λ_=>True) 0 rfl (Nat.zero_le _) ae trivial (λi k hi _ hk=>?_) λk _=>?_))
 have J:(Fh s)[i]=bt s i:=by
  have hi2:i<s.size:=by omega
  unfold bt;rw[getElem?_pos s i hi2];simp only[Fh,List.getElem_map];rfl
 have hc:=c i ae;unfold II;refine dY (λ_=>fO i rfl hi ?_) λh=>absurd (show(i:Int)<((Fh s).length:Int) by omega) h;rw[J];refine gu (λb=>b=false) (λk14 T=>?_) λb J=>by subst J;exact iE rfl (hk trivial)
 unfold ah9 at hc;have r:∀ {x:Int},x=45->(!decide (x=45))=false:=λh=>by simp[h]
 exact dY (λh1=>dY (λh2=>T _ (r ae)) λh2=>dY (λC=>T _ (r ae)) λ_=>T _ rfl) λh1=>dY (λh2=>dY (λC=>T _ (r ae)) λC=>dY (λh4=>T _ (r ae)) λ_=>T _ rfl) λ_=>T _ rfl
 unfold II;exact dY (λh=>absurd h (by show ¬ ((Fh s).length:Int)<((Fh s).length:Int);omega)) λ_=>dX rfl
def aa3:List ByteArray:=[(bs [98,97,115,105,99]),(bs [117,110,105,113,117,101])]
def afa:List ByteArray:=[(bs [99,114,101,97,116,117,114,101]),(bs [105,110,115,116,97,110,116]),(bs [114,105,116,117,97,108]),(bs [114,101,108,105,99]),(bs [99,104,97,114,109]),(bs [108,97,110,100])]
theorem aic (s:ByteArray)(l:List ByteArray)(name:Int->Option ByteArray)(J:l.length<=60)(T:∀ (i:Nat) (h:i<l.length),name (i:Int)=some l[i])(h:s ∉ l):EY s (l.length:Int) name=some 0:=by
 unfold EY;refine ok_eq (kM 0 l.length (λ_=>True) 0 rfl (Nat.zero_le _) ae trivial (λi k hi _ hk=>?_) λk _=>?_)
 unfold JE;refine dY (λ_=>eP (T i hi) (gq (λ_=>hk trivial) λe=>?_)) λh=>absurd (show(i:Int)<(l.length:Int) by omega) h
 grind[gp]
 unfold JE;exact dY (λh=>absurd h ae) λ_=>dX rfl
theorem UG (s:ByteArray)(h:qg s=some true):wP s=some true:=by
 have key:Ok (λr=>r=true->ad1 s/\s ∉ aa3/\s ∉ afa) (qg s):=by
  unfold qg;refine fB (aj2 s) λb I=>gq (λT=>eP (x:=aa3) rfl (fB (UF _ _ aJ) λi hi=>dY (λh1=>eP (x:=afa) rfl (fB (UF _ _ aJ) λj hj=>dX λh2=>⟨I T,?_,?_⟩)) λ_=>dX λh=>by cases h)) λ_=>dX λh=>by cases h
  grind
  grind
 obtain⟨r,e,hr⟩:=key;rw[h] at e;cases e;obtain⟨J,h1,h2⟩:=hr rfl;unfold wP;refine ok_eq (eP (aib s J) (iR rfl (eP (aic s aa3 vN aJ (λi hi=>?_) h1) (iR rfl (eP (aic s afa xy aJ (λi hi=>?_) h2) (dX rfl))))))
 have:i=0\/i=1:=by grind[aa3]
 rcases this with rfl|rfl<;>rfl
 have:i=0\/i=1\/i=2\/i=3\/i=4\/i=5:=by simp[afa] at hi;omega
 rcases this with rfl|rfl|rfl|rfl|rfl|rfl<;>rfl
theorem QT (n m:Int):kC n m=some (decide (0<=n/\n<=m)):=by
 unfold kC;exact ok_eq (dY (λh=>dX (by simp[h])) λh=>dX (by simp[h]))
theorem ad2 (b:sQ):qO b=tZ b:=by
 unfold qO tZ;rw[QT,QT]
 by_cases h1:0<=b.kind/\b.kind<=3
 have e1:decide (b.kind<0)=false:=decide_eq_false ae;have I:decide (3<b.kind)=false:=decide_eq_false ae;rw[decide_eq_true h1,e1,I]
 by_cases h2:0<=b.n/\b.n<=1000000
 have J:decide (b.n<0)=false:=decide_eq_false ae;have C:decide (1000000<b.n)=false:=decide_eq_false ae;rw[decide_eq_true h2,J,C];rfl
 rw[decide_eq_false h2]
 by_cases T:b.n<0
 rw[decide_eq_true T];rfl
 rw[decide_eq_false T,decide_eq_true (show 1000000<b.n by omega)];rfl
 rw[decide_eq_false h1]
 by_cases T:b.kind<0
 rw[decide_eq_true T];rfl
 rw[decide_eq_false T,decide_eq_true (show 3<b.kind by omega)];rfl
def apN:Nat->Nat->Nat->Bool
 | 0,_,_=>true
 | n+1,x,y=>!(Nat.beq (x % 2) 1&&Nat.beq (y % 2) 1)&&apN n (x / 2) (y / 2)
theorem aid:∀ (n x y:Nat),x<2 ^ n->apN n x y=true->x &&& y=0
 | 0,x,y,hx,_=>by
  grind
 | n+1,x,y,hx,h=>by
  unfold apN at h;rw[Bool.and_eq_true,Bool.not_eq_true',Bool.and_eq_false_iff] at h;have h1:=aid n (x / 2) (y / 2) ai h.2;rw[<- Nat.and_div_two] at h1
  have h2:¬ ((x &&& y) % 2=1):=by
   rw[Nat.and_mod_two_eq_one]
   rintro⟨g1,g2⟩
   simp_all
  omega
theorem aie {x y:Nat}(T:x<64)(hy:y<64)(h:x &&& y=0):iM .and .i64 (x:Int) (y:Int)=0:=by
 have:(BitVec.ofInt 64 (x:Int) &&& BitVec.ofInt 64 (y:Int)).toNat=0:=by
  grind
 show IntKind.i64.wrap (((BitVec.ofInt 64 (x:Int) &&& BitVec.ofInt 64 (y:Int)).toNat:Nat):Int)=0
 grind[wrap_in]
theorem afb (x y:Nat)(C:x<64)(hy:y<64):Ok (λr=>r=true->apN 6 x y=true) (eH BX ((x:Int),(y:Int),(0:Int))):=by
 refine kF (λs=>∃ i u v:Nat,s=((u:Int),(v:Int),(i:Int))/\i<=6/\u<64/\v<64/\(apN (6-i) u v=true->apN 6 x y=true)) (λs=>6-s.2.2.toNat) ⟨0,x,y,rfl,by omega,C,hy,id⟩ (by show 6-_<18446744073709551616;omega) ?_
 rintro s k ⟨i,u,v,rfl,hi,hu,hv,h⟩ hk
 unfold BX;refine dY (λT=>?_) λT=>dX λ_=>h ?_
 have T:i<6:=by grind
 have mu:((u:Int).tmod 2)=((u % 2:Nat):Int):=by grind
 have mv:((v:Int).tmod 2)=((v % 2:Nat):Int):=by grind
 have t:IntKind.i64.wrap ((u:Int).tdiv 2)=((u / 2:Nat):Int):=by grind[wrap_in]
 have dv:IntKind.i64.wrap ((v:Int).tdiv 2)=((v / 2:Nat):Int):=by grind[wrap_in]
 refine gu (λc=>c=false->¬(u % 2=1/\v % 2=1)) (λkk g=>?_) λc hc=>gq (λ_=>dX λe=>by cases e) λU=>?_
 grind[xA,dY]
 refine vX ae λa I=>vX ae λb J=>?_;simp only at I J;rw[I,J,t,dv,iY ae];refine hk _ ⟨i+1,u / 2,v / 2,rfl,by omega,by omega,by omega,λe=>h ?_⟩ aB;rw[show 6-i=6-(i+1)+1 by omega];unfold apN;rw[e,Bool.and_true,Bool.not_eq_true',Bool.and_eq_false_iff];rcases Nat.lt_or_ge (u % 2) 1 with c1|c1
 exact .inl (by rw[show u % 2=0 by omega];rfl)
 refine .inr ?_;have:=hc U;rw[show v % 2=0 by omega];rfl
 have:i=6:=by grind
 subst this;rfl
theorem alM (x y:Nat)(T:x<64)(hy:y<64)(h:eH BX ((x:Int),(y:Int),(0:Int))=some true):iM .and .i64 (x:Int) (y:Int)=0:=by
 obtain⟨r,e,hr⟩:=afb x y T hy;rw[e] at h;have:r=true:=Option.some.inj h;exact aie T hy (aid 6 x y (by simpa using T) (hr this))
theorem acA (a b m:Int)(T:m<=63):Ok (λr=>r=true->(0<=a/\a<=m)/\(0<=b/\b<=m)/\iM .and .i64 a b=0) (DV a b m):=by
 unfold DV;refine gu (λc=>c=false->(0<=a/\a<=m)/\(0<=b/\b<=m)) (λk hk=>?_) λc hc=>gq (λ_=>dX λh=>by cases h) λU=>?_
 grind[dY]
 obtain⟨g1,g2⟩:=hc U;obtain⟨x,rfl⟩:=Int.eq_ofNat_of_zero_le g1.1;obtain⟨y,rfl⟩:=Int.eq_ofNat_of_zero_le g2.1;obtain⟨r,e,_⟩:=afb x y ae ae;refine⟨r,e,λhr=>⟨g1,g2,alM x y ae ae ?_⟩⟩;rw[e,hr]
theorem XG (f:iO){x:Bool}(T:pO f=some x)(J:x=true):((0<=f.iL/\f.iL<=5)/\(0<=f.who/\f.who<=2)/\(0<=f.self/\f.self<=2)/\(0<=f.Bf/\f.Bf<=2))/\(((0<=f.types/\f.types<=63)/\(0<=f.iG/\f.iG<=63)/\iM .and .i64 f.types f.iG=0)/\(0<=f.gZ/\f.gZ<=31)/\(0<=f.gX/\f.gX<=31)/\iM .and .i64 f.gZ f.gX=0)/\((gp .neq f.sub (bs [])=true->qg f.sub=some true)/\0<=f.keys/\f.keys<=131071)/\tZ f.power=some true/\tZ f.gK=some true/\tZ f.value=some true:=by
 subst J;unfold pO at T
 have s1:∀ {c:Bool} {a b:Option Bool},br c a b=some true->a=some false->c=false/\b=some true:=by
  intro c a b h t
  cases c with
  | true=>rw[show br true a b=a from rfl,t] at h;cases h
  | false=>exact⟨rfl,h⟩
 simp only[jn] at T
 by_cases z1:f.iL<0
 grind[br]
 by_cases z2:5<f.iL
 grind[br]
 by_cases z3:f.who<0
 grind[br]
 by_cases z4:2<f.who
 grind[br]
 by_cases z5:f.self<0
 grind[br]
 by_cases z6:2<f.self
 grind[br]
 by_cases z7:f.Bf<0
 grind[br]
 by_cases z8:2<f.Bf
 grind[br]
 rw[decide_eq_false z1,decide_eq_false z2,decide_eq_false z3,decide_eq_false z4,decide_eq_false z5,decide_eq_false z6,decide_eq_false z7,decide_eq_false z8] at T;obtain⟨r1,e1,k1⟩:=acA f.types f.iG 63 ae;obtain⟨r2,g,k2⟩:=acA f.gZ f.gX 31 ae;refine⟨⟨⟨by omega,by omega⟩,⟨by omega,by omega⟩,⟨by omega,by omega⟩,by omega,by omega⟩,?_⟩;rw[e1,g] at T
 cases r1 with
 | false=>grind[br,bnd]
 | true=>
 cases r2 with
 | false=>grind[br,bnd]
 | true=>
 refine⟨⟨k1 rfl,k2 rfl⟩,?_⟩;simp only[br,bnd,show((true:Bool)==false)=false from rfl] at T
 cases hs:gp .neq f.sub (bs []) with
 | true=>
  rw[hs] at T
  cases hi:qg f.sub with
  | none=>grind
  | some v=>
   cases v with
   | false=>grind
   | true=>
    rw[hi] at T
    by_cases I:f.keys<0
    grind
    by_cases C:131071<f.keys
    grind
    rw[decide_eq_false I,decide_eq_false C] at T;refine⟨⟨λ_=>rfl,by omega,by omega⟩,?_⟩;revert T;cases tZ f.power<;>grind
 | false=>
  rw[hs] at T
  by_cases I:f.keys<0
  grind
  by_cases C:131071<f.keys
  grind
  rw[decide_eq_false I,decide_eq_false C] at T
  grind
theorem XH (f:iO)(h:pO f=some true):D5 f=some true:=by
 have no:∀ {p:Prop},((false:Bool)=true->p):=λe=>by cases e
 have yes:∀ {p:Prop},((true:Bool)=false->p):=λe=>by cases e
 have sub:Ok (λb=>b=true->qg f.sub=some true) (some false):=dX no;have key:=@XG f;obtain⟨⟨a1,a2,a3,a4⟩,⟨⟨T,I,b3⟩,b4,b5,J⟩,⟨c1,c2⟩,d1,d2,d3⟩:=key h rfl;unfold D5;simp only[QT,ad2,d1,d2,d3];rw[decide_eq_true a1,decide_eq_true a2,decide_eq_true a3,decide_eq_true a4,decide_eq_true c2,decide_eq_true T,decide_eq_true I,decide_eq_true b4,decide_eq_true b5,decide_eq_true b3,decide_eq_true J]
 cases hs:gp .neq f.sub (bs []) with
 | true=>rw[UG _ (c1 hs)];rfl
 | false=>rfl
theorem aj3 (m:jP)(h:lS m=some true):Um m=some true:=by
 obtain⟨kind,n,J,sub,f⟩:=m
 have hk:1<=kind/\kind<=14:=by
  grind[lS,jn,br]
 have hk:kind=1\/kind=2\/kind=3\/kind=4\/kind=5\/kind=6\/kind=7\/kind=8\/kind=9\/kind=10\/kind=11\/kind=12\/kind=13\/kind=14:=by omega
 have C:∀ {x:Option Bool},bnd x (λy=>some y)=some true->x=some true:=by
  intro x T;cases x with
  | none=>cases T
  | some v=>exact T
 have I:∀ {x:Option Bool},x=some true->bnd x (λy=>some y)=some true:=by
  intro x T;subst T;rfl
 rcases hk with rfl|rfl|rfl|rfl|rfl|rfl|rfl|rfl|rfl|rfl|rfl|rfl|rfl|rfl
 all_goals
  simp only[lS,KR,Bl,jn,Int.reduceLT,Int.reduceEq,decide_true,decide_false,br,bnd,lt,Bool.true_and,Bool.and_true] at h;simp only[Um,OB,A8,jn,Int.reduceLE,Int.reduceEq,decide_true,decide_false,br,bnd,lt,Bool.true_and,Bool.and_true]
  split at h
  cases h
  rename_i hc;simp[gp] at hc;simp only[hc,gp,lq,RN,decide_true,Bool.true_and,Bool.and_true,show(true==false)=false from rfl]<;>first
  | rfl
  | (refine I ?_;refine UG _ ?_;exact C h)
  | (refine I ?_;refine XH _ ?_;exact C h)
  | (revert h;cases decide (1<=n)<;>cases decide (n<=63)<;>intro h<;>first|(cases h;done)|exact h)
  | (revert h;cases decide (0<=n)<;>cases decide (n<=31)<;>intro h<;>first|(cases h;done)|exact h)
  | (revert h;cases decide (1<=n)<;>cases decide (n<=31)<;>intro h<;>first|(cases h;done)|exact h)
  | (revert h;cases decide (1<=n)<;>cases decide (n<=131071)<;>intro h<;>first|(cases h;done)|exact h)
  | (revert h;cases decide (0<=n)<;>cases decide (n<=99)<;>cases decide (0<=J)<;>cases decide (J<=99)<;>intro h<;>first|(cases h;done)|exact h)
  | grind
def slot (s:ByteArray):List ByteArray->Nat
 | []=>0
 | a::r=>bif gp .lss a s then slot s r+1 else 0
theorem Zm {l:List ByteArray}{s:ByteArray}{i:Nat}(hi:i<l.length)(h:slot s l=i+slot s (l.drop i)) :
  (gp .lss l[i] s=true->slot s l=(i+1)+slot s (l.drop (i+1)))/\(gp .lss l[i] s=false->slot s l=i):=by
 rw[List.drop_eq_getElem_cons hi,show ∀ a r,slot s (a::r)=bif gp .lss a s then slot s r+1 else 0 from λ_ _=>rfl] at h
 grind
theorem aif (l:List ByteArray)(s:ByteArray)(J:l.length<=2000000):Ok (λr=>(r=(slot s l:Int)/\slot s l<l.length)\/(r=-1/\slot s l=l.length)) (mX l λa0=>EI a0 s):=by
 unfold mX;refine kM 0 l.length (λi=>slot s l=i+slot s (l.drop i)) 0 rfl (Nat.zero_le _) ae aj (λi k hi T hk=>?_) λk T=>?_
 unfold nD;have st:=Zm hi T;refine dY (λ_=>fO i rfl hi (eP (x:=gp .geq l[i] s) rfl (gq (λe=>dX (.inl ?_)) λe=>hk (st.1 ?_)))) λh=>absurd (show(i:Int)<(l.length:Int) by omega) h
 have e:gp .lss l[i] s=false:=by
  grind[gp]
 grind
 grind[gp]
 unfold nD;rw[List.drop_length] at T;exact dY (λh=>absurd h ax) λ_=>dX (.inr ⟨rfl,T⟩)
theorem aih (l:rZ)(s:ByteArray)(g:l.subs.length<=2000000):Ok (λr=>r={ l with subs:=l.subs.take (slot s l.subs)++[s]++l.subs.drop (slot s l.subs) }) (eH (zU l s) 0):=by
 have fin:∀ i:Nat,i<=l.subs.length->slot s l.subs=i->∀ {C : Int},C=(i:Int)->Ok (λr=>r={ l with subs:=l.subs.take (slot s l.subs)++[s]++l.subs.drop (slot s l.subs) })
   (bnd (jR l.subs.length 0 C) λx14=>
    iy (0+(Dw l.subs (0+x14.1) (x14.2-x14.1)).length) 16 (
    iy ((Dw l.subs (0+x14.1) (x14.2-x14.1)).length+([s]).length) 16 (
    bnd (jR l.subs.length C ((l.subs.length:Nat):Int)) λx15=>
    iy (((Dw l.subs (0+x14.1) (x14.2-x14.1))++[s]).length+(Dw l.subs (0+x15.1) (x15.2-x15.1)).length) 16 (
    some { l with subs:=(((Dw l.subs (0+x14.1) (x14.2-x14.1))++[s])++(Dw l.subs (0+x15.1) (x15.2-x15.1))) })))):=by
  intro i hi he C J;have z1:(Dw l.subs (0+0) (i-0)).length<=2000000:=by simp[Dw];omega
  have z2:(Dw l.subs (0+i) (l.subs.length-i)).length<=2000000:=by simp[Dw];omega
  refine Xh (i:=0) rfl J (Nat.zero_le _) hi (iJ aB aB (iJ ai ai (Xh J rfl hi (Nat.le_refl _) (iJ ai ai (dX ?_)))))
  grind[Dw]
 refine kM 0 l.subs.length (λi=>slot s l.subs=i+slot s (l.subs.drop i)) 0 rfl (Nat.zero_le _) ae aj (λi k hi I hk=>?_) λk I=>?_
 unfold zU;have st:=Zm hi I;refine gu (λc=>c=gp .lss l.subs[i] s) (λt T=>?_) λc hc=>gq (λe=>hk (st.1 (hc ▸ e))) λe=>fin i ae (st.2 (hc ▸ e)) rfl;exact dY (λ_=>eP (x:=i) (by show(bif Nat.blt i l.subs.length then some i else none)=some i;rw[show Nat.blt i l.subs.length=true from by simpa using hi];rfl) (gY hi (T _ rfl))) λh=>absurd (show(i:Int)<(l.subs.length:Int) by omega) h
 unfold zU;rw[List.drop_length] at I;refine gu (λc=>c=false) (λt T=>?_) λc hc=>gq (λe=>absurd (hc ▸ e) aj) λe=>fin _ (Nat.le_refl _) I rfl;exact dY (λh=>absurd h (by show ¬ (l.subs.length:Int)<(l.subs.length:Int);omega)) λ_=>T _ rfl
theorem agc (l:rZ)(s:ByteArray)(T:l.subs.length<=2000000)(hs:qg s=some true):yG l s=yj l s:=by
 obtain⟨r1,e1,h1⟩:=aif l.subs s T;obtain⟨r2,C,h2⟩:=aih l s T;have J:slot s l.subs<=l.subs.length:=by grind
 have hi:=YZ (v:=[s]) J aj aU
 have ro:∀ {ρ:Type} (k:Option ρ),iy (0+l.subs.length) 16 k=k:=by
  grind[iy,Nat.ble_eq_true_of_le]
 have cl:slices_Clone_string l.subs=some l.subs:=by
  grind[slices_Clone_string,qx]
 unfold yG yj;rw[cl,ro,UG s hs,hs,<- Zl l s T,show(bnd (some l.subs):(List ByteArray->Option rZ)->_)=λk=>k l.subs from rfl];simp only[jn,bnd,br,show((true:Bool)==false)=false from rfl]
 cases oO l s with
 | none=>rfl
 | some b=>
  cases b with
  | true=>rfl
  | false=>
   simp only
   cases decide (4<=eU l.subs) with
   | true=>rfl
   | false=>
    simp only;rw[e1,C];subst h2;rcases h1 with ⟨h1,I⟩|⟨h1,I⟩
    grind[uz]
    subst h1;simp only[show decide ((-1:Int)<0)=true from rfl,uz,eU]
    grind
theorem aii (t:eF)(m:jP)(you count:Int)(J:lS m=some true)(hc:D7 t=some t)(hs:t.line.subs.length<=2000000):D8 t m you count=qU t m you count:=by
 unfold D8 qU;rw[hc,aj3 m J,J,show(bnd (some t):(eF->Option eF)->_)=λk=>k t from rfl,show(bnd (some true):(Bool->Option eF)->_)=λk=>k true from rfl];simp only[OT,add_eq]
 by_cases I:m.kind=5
 have T:qg m.sub=some true:=by
  unfold lS at J;simp only[jn,I,br,bnd,lt,Int.reduceLT,Int.reduceEq,decide_true,decide_false,KR] at J
  grind
 rw[agc _ _ hs T]
 rw[decide_eq_false I];rfl
set_option maxHeartbeats 20000000
theorem alN (a b c:Int):lJ a b c=some ((decide (b=0) || !decide (iM .and .i64 a b=0))&&decide (iM .and .i64 a c=0)):=by
 unfold lJ;cases decide (b=0)<;>cases decide (iM .and .i64 a b=0)<;>rfl
theorem tri (n:Int):(decide (n=1)=true/\decide (n=2)=false)\/(decide (n=1)=false/\decide (n=2)=true)\/(decide (n=1)=false/\decide (n=2)=false):=by
 grind
theorem aij (o:fD)(t:eF)(you source:Int)(f:iO)(U:pO f=some true)(hl:t.line.subs.length<=2000000)(hv:A7 t.cost 0=DX t.cost 0)
  {b1 b2:Bool} {mt:sQ->Int->Bool} {va:Int} (hh:oO t.line f.sub=some b1) (hk:oL t.keys f.keys=some b2) (hm:∀ b n,Bi b n=some (mt b n)) (C:DX t.cost 0=some va) :
  mJ o t you source f=qF o t you source f:=by
 have J : ∀ b n,D6 b n=some (mt b n):=λb n=>by grind[ah8]
 unfold mJ qF AX RV Xq aap kV;rw[XH f U,U,<- Zl t.line f.sub hl,hh,<- has_eq,hk,hv,C];have I:∀ (c:Bool) (a b:Bool),br c (some a) (some b)=some (bif c then a else b):=λc a b=>by cases c<;>rfl
 have bn1:∀ (x:Bool) (k:Bool->Option Bool),bnd (some x) k=k x:=λ_ _=>rfl;have T:∀ (x:Int) (k:Int->Option Bool),bnd (some x) k=k x:=λ_ _=>rfl;simp only[alN,vO,hm,J,jn,bn1,T,I]
 congr 1
 have g:∀ x:Bool,(x==false)=!x:=λx=>by cases x<;>rfl
 rcases tri f.who with ⟨w1,w2⟩|⟨w1,w2⟩|⟨w1,w2⟩<;>rcases tri f.self with ⟨s1,s2⟩|⟨s1,s2⟩|⟨s1,s2⟩<;>rcases tri f.Bf with ⟨t1,t2⟩|⟨t1,t2⟩|⟨t1,t2⟩
 all_goals
  simp only[w1,w2,s1,s2,t1,t2,cond_true,cond_false,Bool.not_true,Bool.not_false,show(true==false)=false from rfl,show(false==false)=true from rfl,g,Bool.cond_not,Bool.cond_false_right,Bool.cond_true_right,Bool.cond_false_left,Bool.cond_true_left,Bool.not_not,Bool.not_and,Bool.not_or];generalize decide (o.iL=f.iL)=zo;generalize decide (t.control=you)=cy;generalize decide (o.id=source)=cs;generalize o.lu=tp;generalize decide (f.types=0)=a1;generalize decide (f.gZ=0)=a2;generalize decide (iM .and .i64 t.line.types f.types=0)=a3;generalize decide (iM .and .i64 t.line.types f.iG=0)=a4;generalize decide (iM .and .i64 t.gZ f.gZ=0)=a5;generalize decide (iM .and .i64 t.gZ f.gX=0)=a6;generalize gp .neq f.sub (bs [])=a7;generalize decide (iM .and .i64 t.line.types 1=0)=a8;generalize decide (f.power.kind=0)=a9;generalize decide (f.gK.kind=0)=a10;generalize mt f.power t.power=m1;generalize mt f.gK t.gK=m2;generalize mt f.value va=m3;clear U hl hv hh hk hm C J I bn1 T g w1 w2 s1 s2 t1 t2;cases a1<;>cases a2<;>cases a7<;>cases a9<;>cases a10<;>simp only[cond_true,cond_false,Bool.true_or,Bool.false_or,Bool.true_and,Bool.and_true,Bool.and_false,Bool.false_and,Bool.and_assoc,Bool.and_comm,Bool.and_left_comm,Bool.and_self_left]
theorem ad3 (c:pz):Ok (λr=>r=true↔isC c) (JB c):=by
 unfold JB;refine kM 0 5 (λn=>∀ j,j<n->0<=Hf c.color j/\Hf c.color j<=9) 0 rfl ae ae (λj h=>by omega) ?_ ?_
 intro i k hi J hk;unfold MR;refine dY (λ_=>gu (λs=>s=Hf c.color i) ?_ ?_) λh=>absurd (show(i:Int)<5 by omega) h
 intro k4 T;rcases five hi with rfl|rfl|rfl|rfl|rfl<;>exact PR ae (T _ rfl)
 rintro s rfl
 refine gu (λs=>s=decide (Hf c.color i<0\/9<Hf c.color i)) ?_ ?_
 grind[dY]
 rintro s rfl
 refine dY (λh=>dX ?_) λh=>hk λj hj=>?_
 refine⟨λh=>bW,λhC=>?_⟩;have:=hC.2 i hi;omega
 grind
 ·intro k J;unfold MR;refine dY (λh=>absurd h ae) λ_=>dY (λh1=>dY (λh2=>dY (λI=>dX ?_) λh=>dX ?_) λh=>dX ?_) λh=>dX ?_
  rw[decide_eq_true_iff];exact⟨λT=>⟨⟨h1,h2,I,T⟩,J⟩,λhC=>hC.1.2.2.2⟩
  all_goals exact⟨λh=>bW,λhC=>by have:=hC.1;omega⟩
theorem PS (c:pz):Ok (λr=>r=true↔isC c) (Ih c):=by
 unfold Ih;refine gu (λs=>s=decide (c.generic<0\/99<c.generic\/c.x<0\/2<c.x)) ?_ ?_
 grind[dY]
 rintro s rfl
 refine dY (λh=>dX ⟨λh=>bW,λhC=>by have:=hC.1;omega⟩) λh0=>?_;refine kM 0 5 (λn=>∀ j,j<n->0<=Hf c.color j/\Hf c.color j<=9) 0 rfl ae ae (λj h=>by omega) ?_ ?_
 intro i k hi T hk;unfold KQ;refine dY (λ_=>gu (λs=>s=decide (Hf c.color i<0\/9<Hf c.color i)) ?_ ?_) λh=>absurd (show(i:Int)<5 by omega) h
 intro k6 J
 rcases five hi with rfl|rfl|rfl|rfl|rfl <;>
  exact PR ae (dY (λh=>J _ cu) λh=>PR ae (J _ cu))
 rintro s rfl
 refine dY (λh=>dX ?_) λh=>hk λj hj=>?_
 refine⟨λh=>bW,λhC=>?_⟩;have:=hC.2 i hi;omega
 grind
 intro k T;unfold KQ;exact dY (λh=>absurd h ae) λ_=>dX ⟨λ_=>⟨by omega,T⟩,λ_=>rfl⟩
theorem Zn (c:pz):JB c=Ih c:=by
 obtain⟨x,e,h⟩:=ad3 c;obtain⟨y,T,h2⟩:=PS c
 grind
theorem aa4 {n:Int}(h : -1000000<=n/\n<=1000000):oK n=some n:=by
 unfold oK;rw[decide_eq_false (show ¬ 1000000<n by omega),decide_eq_false (show ¬ n < -1000000 by omega)];rfl
theorem ad4 {a b:Int}(J : -1000000<=a/\a<=1000000)(T : -1000000<=b/\b<=1000000)(hc : -1000000<=a+b/\a+b<=1000000):ou a b=some (a+b):=by
 grind[ou,aa4,bnd,wH]
theorem am4 (x:Int)(T:0<=x/\x<=2):Gn x 0=some 0:=by
 unfold Gn;rw[aa4 (n:=x) ae,aa4 (n:=0) ae];show bnd (oK (RG x 0)) (λy3=>some y3)=_;have:RG x 0=0:=by unfold RG;show IntKind.i64.wrap (x*0)=0;simp_all[wrap_in]
 rw[this,aa4 (n:=0) ae];rfl
theorem acB (c:pz):A7 c 0=DX c 0:=by
 unfold A7 DX;rw[Zn];obtain⟨y,e,hy⟩:=PS c;rw[e]
 cases y with
 | false=>rfl
 | true=>
  obtain⟨⟨g1,g2,g3,g4⟩,hc⟩:=hy.1 rfl;have h0:0<=c.color.a0/\c.color.a0<=9:=hc 0 ae;have h1:0<=c.color.a1/\c.color.a1<=9:=hc 1 ae;have h2:0<=c.color.a2/\c.color.a2<=9:=hc 2 ae;have h3:0<=c.color.a3/\c.color.a3<=9:=hc 3 ae;have h4:0<=c.color.a4/\c.color.a4<=9:=hc 4 ae
  have R:(bnd (ou c.generic c.color.a0) λy3=>bnd (ou y3 c.color.a1) λy4=>bnd (ou y4 c.color.a2) λy5=>bnd (ou y5 c.color.a3) λy6=>bnd (ou y6 c.color.a4) λy7=>
    br (decide ((0:Int)<0)) (bnd (Gn c.x 0) λy8=>bnd (ou y7 y8) λy9=>some y9) (bnd (Gn c.x 0) λC=>bnd (ou y7 C) λg=>some g))=some (c.generic+c.color.a0+c.color.a1+c.color.a2+c.color.a3+c.color.a4):=by
   rw[ad4 ae ae ae];simp only[bnd];rw[ad4 ae ae ae];simp only[bnd];rw[ad4 ae ae ae];simp only[bnd];rw[ad4 ae ae ae];simp only[bnd];rw[ad4 ae ae ae];simp only[bnd,br,Int.lt_irrefl,decide_false];rw[am4 _ ⟨g3,g4⟩];simp only;rw[ad4 ae ae ae];grind
  show eH (EE c 0) (c.generic,0)=_;refine Eq.trans ?_ R.symm;refine ok_eq (kF (λs=>∃ i:Nat,s.2=(i:Int)/\i<=5/\0<=s.1/\s.1<=99+9*i/\s.1=c.generic+((List.range i).map (Hf c.color)).sum) (λs=>5-s.2.toNat) ⟨0,rfl,by omega,g1,by omega,by simp⟩ bZ ?_)
  rintro⟨s,i'⟩ k ⟨i,hi,hi5,I,t,J⟩ hk
  simp only at hi I t J;subst hi;unfold EE;refine dY (λT=>?_) λT=>?_
  have T:i<5:=by grind
  have st:∀ v,v=Hf c.color i->Ok (λr=>r=c.generic+c.color.a0+c.color.a1+c.color.a2+c.color.a3+c.color.a4) (k (fK s v,fK (i:Int) 1)):=by
   intro v hv;have hb:=hc i T;rw[wH ae ae,iY ae];exact hk _ ⟨i+1,rfl,by omega,by simp only;omega,by simp only;omega,by grind[List.range_succ]⟩ aB
  have:i=0\/i=1\/i=2\/i=3\/i=4:=by omega
  rcases this with rfl|rfl|rfl|rfl|rfl<;>exact st _ rfl
  have:i=5:=by grind
  subst this;simp only[mul_eq,add_eq,Int.lt_irrefl,if_false];rw[am4 _ ⟨g3,g4⟩];simp only[bnd];rw[ad4 ae ae ae];refine dX ?_;rw[J];have:((List.range 5).map (Hf c.color)).sum=c.color.a0+(c.color.a1+(c.color.a2+(c.color.a3+(c.color.a4+0)))):=rfl;omega
def msk (b:Nat->Bool):Nat->Int
 | 0=>0
 | i+1=>bif b i then msk b i+(2 ^ i:Nat) else msk b i
theorem aik (b:Nat->Bool):∀ i,0<=msk b i/\msk b i<(2 ^ i:Nat)
 | 0=>⟨Int.le_refl _,by simp[msk]⟩
 | i+1=>by
  have:=aik b i;unfold msk
  grind
theorem alO (b:Nat->Bool)(i:Nat)(hi:i<5):iM .or .i64 (msk b i) ((2 ^ i:Nat):Int)=msk b i+(2 ^ i:Nat):=by
 have:i=0\/i=1\/i=2\/i=3\/i=4:=by omega
 rcases this with rfl|rfl|rfl|rfl|rfl<;>simp only[msk]
 rfl
 cases b 0<;>rfl
 cases b 0<;>cases b 1<;>rfl
 cases b 0<;>cases b 1<;>cases b 2<;>rfl
 cases b 0<;>cases b 1<;>cases b 2<;>cases b 3<;>rfl
def Tu (c:pz)(j:Nat):Bool:=decide (0<Hf c.color j)
theorem aj6 (c:pz):Ok (λr=>r=msk (Tu c) 5) (eH (yB c) (0,0)):=by
 refine kF (λs=>∃ i:Nat,s=(msk (Tu c) i,(i:Int))/\i<=5) (λs=>5-s.2.toNat) ⟨0,rfl,by omega⟩ bZ ?_
 rintro s k ⟨i,rfl,hi5⟩ hk
 unfold yB;refine dY (λI=>?_) λI=>dX ai;have I:i<5:=by grind
 refine gu (λv=>v=msk (Tu c) (i+1)) (λk10 T=>?_) λv hv=>by
  rw[hv,iY ae];exact hk _ ⟨i+1,rfl,by omega⟩ aB
 refine gu (λv=>v=Hf c.color i) (λk13 J=>?_) λv hv=>dY (λh=>?_) λh=>T _ ?_
 have:i=0\/i=1\/i=2\/i=3\/i=4:=by omega
 rcases this with rfl|rfl|rfl|rfl|rfl<;>exact J _ rfl
 refine eP (x:=((2 ^ i:Nat):Int)) ?_ (T _ ?_)
 have:i=0\/i=1\/i=2\/i=3\/i=4:=by omega
 rcases this with rfl|rfl|rfl|rfl|rfl<;>rfl
 grind[msk,alO,Tu]
 grind[msk,Tu]
theorem afc (c:pz):Ok (λr=>r=msk (Tu c) 5) (eH (Eo c) (0,1,0)):=by
 refine kF (λs=>∃ i:Nat,s=(msk (Tu c) i,((2 ^ i:Nat):Int),(i:Int))/\i<=5) (λs=>5-s.2.2.toNat) ⟨0,rfl,by omega⟩ bZ ?_
 rintro s k ⟨i,rfl,hi5⟩ hk
 unfold Eo;refine dY (λT=>?_) λT=>dX ai;have T:i<5:=by grind
 have i5:i=0\/i=1\/i=2\/i=3\/i=4:=by omega
 refine gu (λv=>v=msk (Tu c) (i+1)) (λk6 C=>?_) λv hv=>by
  have:RG 2 ((2 ^ i:Nat):Int)=((2 ^ (i+1):Nat):Int):=by rcases i5 with rfl|rfl|rfl|rfl|rfl<;>rfl
  simp only;rw[hv,iY ae,this];exact hk _ ⟨i+1,rfl,by omega⟩ aB
 refine gu (λv=>v=msk (Tu c) (i+1)) (λk9 J=>?_) λv hv=>C v hv;refine gu (λv=>v=Tu c i) (λk12 I=>?_) λv hv=>gq (λh=>J _ ?_) λh=>J _ ?_
 rcases i5 with rfl|rfl|rfl|rfl|rfl<;>exact I _ rfl
 have g:=aik (Tu c) i;have t:(2 ^ i:Nat)<=16:=by grind
 grind[msk,wH]
 grind[msk]
theorem agd (c:pz):yC c=AU c:=by
 unfold yC AU;rw[Zn];obtain⟨y,e,hy⟩:=PS c;rw[e,ok_eq (aj6 c),ok_eq (afc c)]
 cases y with
 | false=>rfl
 | true=>
  have hc:=(hy.1 rfl).2;show lt _ (λv5=>br v5 (some 0) (some (msk (Tu c) 5)))=some (msk (Tu c) 5)
  cases T:(decide (c.color.a0=0)&&(decide (c.color.a1=0)&&(decide (c.color.a2=0)&&(decide (c.color.a3=0)&&(decide (c.color.a4=0)&&true))))) with
  | false=>rfl
  | true=>
   simp only[Bool.and_eq_true,decide_eq_true_eq] at T;obtain⟨z0,z1,z2,z3,z4,_⟩:=T
   have z:∀ j,j<5->Tu c j=false:=by
    intro j hj;have:j=0\/j=1\/j=2\/j=3\/j=4:=by omega
    refine decide_eq_false ?_;rcases this with rfl|rfl|rfl|rfl|rfl<;>simp only[Hf]<;>omega
   simp only[msk,z 0 ae,z 1 ae,z 2 ae,z 3 ae,z 4 ae];rfl
theorem ail (a:gz)(h:kQ a):Jl a=some a:=by
 obtain⟨_,g1,_,g2,g3,_⟩:=h;have p1:=g1.1;have p2:=g2.1;have p3:=g3.1;unfold Jl;refine ok_eq (iJ ae ae (iJ ae ae ?_));refine jA 0 a.jJ.length (λn l=>l=a.jJ.take n) 0 rfl (Nat.zero_le _) ae aj (λj l2 k2 hj J T=>?_) λl2 k2 J=>?_
 subst J;have I:=(g3.2 _ (List.getElem_mem hj)).2.2.2.2.1;unfold Ii;refine dY (λ_=>fO j rfl hj (iJ ae ae (iJ ?_ ?_ (T _ (gQ _ j hj).symm)))) λh=>absurd (show(j:Int)<(a.jJ.length:Int) by omega) h
 grind
 grind
 subst J;unfold Ii;rw[oh];exact dY (λh=>absurd h aQ) λ_=>dX rfl
theorem printed_eq (c:gV)(h:nU c):qK c=wu c:=by
 obtain⟨h1,h2,J⟩:=h;have g:=J.1;have q2:=h2.1
 obtain⟨y,I⟩:∃ y,AU c.cost=some y:=by
  unfold AU;obtain⟨y,e,_⟩:=PS c.cost;rw[e,ok_eq (afc c.cost)];cases y<;>exact⟨_,rfl⟩
 have A:qK c=some { c with gZ:=(iM .or .i64 y c.color),control:=0 }:=by
  unfold qK;rw[agd,I];refine ok_eq (eP rfl (eP aO ?_));refine jA 0 c.fC.length (λn t=>t=c.fC.take n) 0 rfl (Nat.zero_le _) ae rfl (λi t k hi T hk=>?_) λt k T=>?_
  have C:t.length<=1048576:=by grind
  unfold uf;refine dY (λ_=>fO i rfl hi (eP (Zj _ (J.2 _ (List.getElem_mem hi))) (iJ ai ai (hk _ ?_)))) λh=>absurd (show(i:Int)<(c.fC.length:Int) by omega) h
  simp_all
  unfold uf;rw[oh] at T;subst T;exact dY (λh=>absurd h aP) λ_=>dX rfl
 have B:wu c=some { c with gZ:=(iM .or .i64 y c.color),control:=0 }:=by
  unfold wu;rw[I];refine ok_eq (eP rfl (iJ ae ae ?_));refine jA 0 c.fC.length (λn t=>t=c.fC.take n) 0 rfl (Nat.zero_le _) ae rfl (λi t k hi T hk=>?_) λt k T=>?_
  subst T;unfold BU;refine dY (λ_=>fO i rfl hi (eP (ail _ (J.2 _ (List.getElem_mem hi))) (iJ ?_ ?_ (hk _ (gQ _ i hi).symm)))) λh=>absurd (show(i:Int)<(c.fC.length:Int) by omega) h
  grind
  grind
  unfold BU;rw[oh] at T;subst T;exact dY (λh=>absurd h aP) λ_=>dX rfl
 rw[A,B]
theorem of_eq (T:List gV)(o:fD)(hc:uZ nU T):JC T o=N9 T o:=by
 have key:∀ i:Int,∀ (k:eF->Option eF),(bnd (gW T i) λx=>bnd (qK x) λy=>k y)=(bnd (gW T i) λx=>bnd (wu x) λy=>k y):=by
  intro i k
  cases h:gW T i with
  | none=>rfl
  | some x=>
   have J:x∈T:=by
    cases i with
    | ofNat j=>exact List.mem_of_getElem? h
    | negSucc j=>cases h
   show bnd (qK x) k=bnd (wu x) k;rw[printed_eq x (hc.2 x J)]
 simp_all[JC,N9]
theorem ad5 (s:List Int)(v:Int)(hs:s.length<4000000):Ph s v=some (decide (v∈s)):=by
 unfold Ph;refine ok_eq (kM 0 s.length (λn=>v ∉ s.take n) 0 rfl (Nat.zero_le _) ae aj ?_ ?_)
 intro i k hi T hk;unfold QH;refine dY (λ_=>fO i rfl hi (dY (λe=>?_) λe=>hk ?_)) λh=>absurd (show(i:Int)<(s.length:Int) by omega) h
 grind[dX]
 grind[gQ]
 intro k T;unfold QH;rw[oh] at T;refine dY (λh=>absurd h aY) λ_=>dX (by simp[T])
theorem aa5 (l:List Int)(C:l.length<=2000000):Gq l=some (elF l):=by
 unfold Gq;refine ok_eq (jA 0 l.length (λn t=>t=elF (l.take n)) 0 rfl (Nat.zero_le _) ae (by simp[elF]) ?_ ?_)
 rintro i t k hi hI hk
 have hlen:t.length<=2000000:=by grind[Uu]
 unfold FB;refine dY (λ_=>gu (λs=>s=OI t l[i]) ?_ λs hs=>hk s (by grind[aci])) λh=>absurd (show(i:Int)<(l.length:Int) by omega) h;intro k5 T;refine gu (λs=>s=decide (0<=l[i]/\l[i] ∉ t)) ?_ ?_
 intro I J;refine fO i rfl hi (dY (λh0=>fO i rfl hi (eP (ad5 t _ ae) (J _ ?_))) λh0=>J _ ?_)
 grind
 simp[h0]
 rintro s rfl
 refine dY (λh=>fO i rfl hi (iJ ai ai (T _ (by simp_all[OI])))) λh=>T _ (by simp_all[OI])
 rintro t k hI
 unfold FB;rw[oh] at hI;refine dY (λh=>absurd h ax) λ_=>dX hI
theorem aa6 (needs:List (List Bool))(i j:Int)(hi:0<=i)(hj:0<=j):KT needs i j=some (nd needs i j):=by
 obtain⟨a,rfl⟩:=Int.eq_ofNat_of_zero_le hi;obtain⟨b,rfl⟩:=Int.eq_ofNat_of_zero_le hj;unfold KT nd;refine ok_eq (dY (λh=>?_) λh=>?_)
 have T:a<needs.length:=by grind[eU]
 refine fO a rfl T (dY (λh2=>?_) λh2=>?_)
 have J:b<(needs[a]).length:=by grind[eU]
 exact fO a rfl T (fO b rfl J (dX (by simp[T,J])))
 grind[eU,dX]
 grind[eU,dX]
theorem ad6 (l:List Int)(needs:List (List Bool))(i:Int)(hl:l.length<=2000000)(hn:l.Nodup)(h0:∀ x∈l,0<=x)(hi:i∈l) :
  Ok (λr=>r.length<=2000000/\∀ x,x∈r↔TC l needs i x) (Jn l needs i):=by
 unfold Jn;refine jA 0 l.length (λn t=>t=(l.take n).filter (nd needs i)) 0 rfl (Nat.zero_le _) ae aj ?_ ?_
 rintro a t k ha hI hk
 have hlen:t.length<=2000000:=by grind
 have hs:(l.take (a+1)).filter (nd needs i)=t++(if nd needs i l[a]=true then [l[a]] else []):=by
  grind[gQ]
 unfold Il;refine dY (λ_=>gu (λs=>s=(l.take (a+1)).filter (nd needs i)) ?_ λs hs=>hk s hs) λh=>absurd (show(a:Int)<(l.length:Int) by omega) h;intro k5 h5;refine fO a rfl ha (eP (aa6 _ _ _ (h0 i hi) (h0 _ (List.getElem_mem ha))) (gq (λh=>?_) λh=>?_))
 refine fO a rfl ha (iJ ai ai (h5 _ ?_))
 grind
 grind
 rintro t k hI
 rw[oh] at hI;unfold Il;refine dY (λh=>absurd h ax) λ_=>?_
 refine kF (λs=>∃ a:Nat,s.1=(a:Int)/\a<=s.2.length/\s.2.Nodup/\(∀ x∈s.2,TC l needs i x)/\(∀ x∈l,nd needs i x=true->x∈s.2)/\∀ m y,m<a->y∈l->(∀ z,s.2[m]?=some z->nd needs z y=true->y∈s.2))
  (λs=>2000001-s.1.toNat) ⟨0,rfl,Nat.zero_le _,?_,?_,?_,λm y h=>by omega⟩ (by show 2000001-_<18446744073709551616;omega) ?_
 grind
 subst hI;intro x T;rw[List.mem_filter] at T;exact .one _ _ hi T.1 T.2
 grind
 rintro⟨a',J⟩ k ⟨a,e,ha,hnd,I,hfst,C⟩ hk
 simp only at e ha hnd I hfst C;subst e;have hlen:J.length<=2000000:=Nat.le_trans (Ld J l hnd λx T=>(I x T).r) hl;unfold Ob;refine dY (λh=>?_) λh=>?_
 have g:a<J.length:=by grind[eU]
 refine jA 0 l.length (λn (u:List Int)=>u.Nodup/\(∀ x∈u,TC l needs i x)/\(∀ (m:Nat) (z:Int),J[m]?=some z->u[m]?=some z)/\(∀ x∈J,x∈u)/\∀ y∈l.take n,nd needs J[a] y=true->y∈u) 0 rfl (Nat.zero_le _) ae ⟨hnd,I,λ_ _ h=>h,λ_ h=>h,by simp⟩ ?_ ?_
 rintro b u k' hb ⟨hu1,hu2,hu3,hu4,hu5⟩ hk'
 have hulen:u.length<=2000000:=Nat.le_trans (Ld u l hu1 λx T=>(hu2 x T).r) hl;have hua:u[a]?=some J[a]:=hu3 a _ (List.getElem?_eq_getElem g);have hua2:a<u.length:=by grind
 have hua3:u[a]=J[a]:=by grind
 unfold Ik;refine dY (λ_=>gu (λs=>s=if nd needs J[a] l[b]=true/\l[b] ∉ u then u++[l[b]] else u) ?_ λs hs=>hk' s ?_) λh=>absurd (show(b:Int)<(l.length:Int) by omega) h
 intro k17 h17;refine gu (λs=>s=decide (nd needs J[a] l[b]=true/\l[b] ∉ u)) ?_ ?_
 intro k20 h20;refine iD a rfl hua2 (gY hua2 (fO b rfl hb ?_));rw[hua3];refine eP (aa6 _ _ _ (h0 _ (I _ (List.getElem_mem g)).r) (h0 _ (List.getElem_mem hb))) (gq (λh=>?_) λh=>?_)
 refine fO b rfl hb (eP (ad5 u _ ae) (h20 _ ?_))
 grind
 grind
 rintro s rfl
 refine dY (λh=>fO b rfl hb (iJ ai ai (h17 _ (by rw[if_pos h])))) λh=>h17 _ (by rw[if_neg h])
 have hb2:∀ y∈l.take (b+1),y∈l.take b\/y=l[b]:=by grind[gQ]
 by_cases h:nd needs J[a] l[b]=true/\l[b] ∉ u
 rw[if_pos h] at hs;subst hs;refine⟨?_,?_,?_,?_,?_⟩
 grind
 intro x T;simp only[List.mem_append,List.mem_singleton] at T;rcases T with T|T
 grind
 subst T;have h1:=I _ (List.getElem_mem g);exact h1.trans (.one _ _ h1.r (List.getElem_mem hb) h.1)
 grind
 grind
 grind
 grind
 rintro u k' ⟨hu1,hu2,hu3,hu4,hu5⟩
 have hulen:u.length<=2000000:=Nat.le_trans (Ld u l hu1 λx T=>(hu2 x T).r) hl;rw[oh] at hu5;unfold Ik;have hau:a<u.length:=by have:=hu3 a _ (List.getElem?_eq_getElem g);grind
 refine dY (λh=>absurd h ai) λ_=>?_;rw[iY ae];refine hk (_,u) ⟨a+1,rfl,hau,hu1,hu2,λx T h=>hu4 x (hfst x T h),?_⟩ ai
 grind
 have hae:a=J.length:=by grind[eU]
 refine dX ⟨hlen,λx=>⟨I x,λT=>?_⟩⟩
 have hall:∀ z∈J,∀ y∈l,nd needs z y=true->y∈J:=by
  intro z hz y hy h;obtain⟨m,hm,rfl⟩:=List.getElem_of_mem hz;exact C m y ae hy _ (List.getElem?_eq_getElem hm) h
 have key:∀ a x,TC l needs a x->(a=i\/a∈J)->x∈J:=by
  intro a x h
  induction h<;>grind
 grind
theorem age (left:List Int)(needs:List (List Bool))(hl:left.length<=2000000):Pj left needs=some (yM (elF left) needs):=by
 unfold Pj;have hlen:(elF left).length<=2000000:=Nat.le_trans (Uu left) hl;refine ok_eq (eP (aa5 left hl) ?_);have h0:∀ x∈elF left,0<=x:=λx hx=>((aaD left x).1 hx).2;have T:=ahV left;generalize hE:elF left=l at *;refine jA 0 l.length (λn t=>t=(l.take n).filter (PW l needs)) 0 rfl (Nat.zero_le _) ae aj ?_ ?_
 rintro a t k ha hI hk
 have hlt:t.length<=2000000:=by grind
 have hs:(l.take (a+1)).filter (PW l needs)=t++(if PW l needs l[a]=true then [l[a]] else []):=by
  grind[gQ]
 unfold MI;refine dY (λ_=>gu (λs=>s=(l.take (a+1)).filter (PW l needs)) ?_ λs hs=>hk s hs) λh=>absurd (show(a:Int)<(l.length:Int) by omega) h;intro k6 g;refine BO 0 l.length (λn c=>c=!((l.take n).any (SV l needs l[a]))) 0 rfl (Nat.zero_le _) ae aj ?_ ?_
 rintro b c k9 hb hc hk9
 have hs2:(!((l.take (b+1)).any (SV l needs l[a])))=(c&&!SV l needs l[a] l[b]):=by
  grind[gQ]
 unfold MH;refine dY (λ_=>gu (λs=>s=(c&&!SV l needs l[a] l[b])) ?_ λs hs=>hk9 s ai) λh=>absurd (show(b:Int)<(l.length:Int) by omega) h;intro k12 h12;refine gu (λs=>s=SV l needs l[a] l[b]) ?_ ?_
 intro k15 J;refine rQ (λh=>?_) λh=>?_
 have I:b≠a:=by grind
 have hne:l[b]≠l[a]:=λe=>I ((List.getElem_inj T).1 e);refine fO a rfl ha (fO b rfl hb (eP (aa6 _ _ _ (h0 _ (List.getElem_mem ha)) (h0 _ (List.getElem_mem hb))) (gq (λh2=>?_) λh2=>J _ (by unfold SV;simp[h2]))));refine fO b rfl hb (fB (ad6 l needs _ hlen T h0 (List.getElem_mem hb)) ?_)
 rintro r ⟨hr,hr2⟩
 refine fO a rfl ha (eP (ad5 r _ ae) (J _ ?_))
 have hx:decide (l[a]∈r)=tcB l needs l[b] l[a]:=by
  rw[Bool.eq_iff_iff,aaE,decide_eq_true_iff];exact hr2 _
 simp_all[SV]
 grind[SV]
 rintro s rfl
 grind[gq]
 rintro c k9 hc
 rw[oh] at hc;unfold MH;refine dY (λh=>absurd h ax) λ_=>?_;have C:c=PW l needs l[a]:=hc;refine gq (λh=>?_) λh=>g _ ?_
 have h' : PW l needs l[a]=true:=C ▸ h;refine fO a rfl ha (iJ ai ai (g _ ?_))
 grind
 grind
 rintro t k hI
 unfold MI;rw[oh] at hI;refine dY (λh=>absurd h ax) λ_=>dX hI
theorem UH (stamps:List Int)(i:Int)(h:0<=i):G5 stamps i=some (stF stamps i):=by
 obtain⟨a,rfl⟩:=Int.eq_ofNat_of_zero_le h;unfold G5 stF;refine ok_eq (dY (λh=>?_) λh=>?_)
 have T:a<stamps.length:=by grind[eU]
 exact fO a rfl T (dX (by simp[T]))
 grind[eU,dX]
theorem aim (left stamps:List Int)(needs:List (List Bool))(C:left.length<=2000000):RX left stamps needs=some (JI stamps (yM (elF left) needs)):=by
 unfold RX;refine ok_eq (eP (age left needs C) ?_);have h0:∀ x∈yM (elF left) needs,0<=x:=λx J=>((aaD left x).1 (PO _ _ _ J)).2;have hlen:(yM (elF left) needs).length<=2000000:=Nat.le_trans (Zg _ _) (Nat.le_trans (Uu left) C);generalize yM (elF left) needs=r at *;refine BO 0 r.length (λn b=>b=JI stamps (r.take n)) 0 rfl (Nat.zero_le _) ae rfl ?_ ?_
 rintro a b k ha hI hk
 have hb:b=-1\/0<=b:=by grind[Zf]
 have J:=h0 _ (List.getElem_mem ha);unfold Oc;refine dY (λ_=>gu (λs=>s=nx stamps b r[a]) ?_ λs hs=>hk s (by grind[Xw])) λh=>absurd (show(a:Int)<(r.length:Int) by omega) h;intro k6 I;refine fO a rfl ha (eP (UH _ _ J) ?_);refine gu (λs=>s=decide (b<0\/stF stamps r[a]<stF stamps b\/(stF stamps r[a]=stF stamps b/\r[a]<b))) ?_ ?_
 intro t T;refine dY (λh=>T _ ai) λh=>?_;simp only at h;refine eP (UH _ _ ai) (dY (λh2=>T _ ai) λh2=>eP (UH _ _ ai) (dY (λg=>fO a rfl ha (T _ ?_)) λg=>T _ ?_))
 grind
 grind
 rintro s rfl
 refine dY (λh2=>fO a rfl ha (I _ (by simp_all[nx]))) λh2=>I _ (by unfold nx;rw[if_neg h2])
 rintro b k hI
 unfold Oc;rw[oh] at hI;refine dY (λh=>absurd h (by show ¬ (r.length:Int)<(r.length:Int);omega)) λ_=>dX hI
def Asc (l:List fD):Prop:=∀ i j (hi:i<l.length) (hj:j<l.length),i<j->(l[i]).id<(l[j]).id
theorem ad7 (a b:Int):∃ y,cmp_Compare_int a b=some y/\(y<0↔a<b)/\(y=0↔a=b):=by
 unfold cmp_Compare_int cmp_isNaN_int
 by_cases h:a<b
 grind[bnd,br]
 by_cases h2:b<a
 grind[bnd,br]
 exact⟨0,by simp[bnd,br,h,h2],by simp[h],by omega⟩
theorem aj7 (x:List fD)(id:Int)(hx:x.length<=2000000)(ha:Asc x) :
  Ok (λr=>∃ i:Nat,r.1=(i:Int)/\(∀ k (h:k<x.length),k<i->(x[k]).id<id)/\(∀ k (h:k<x.length),i<=k->id<=(x[k]).id)/\(r.2=true↔∃ h:i<x.length,(x[i]).id=id)) (oW x id zY):=by
 unfold oW;refine kF (λs=>∃ i j:Nat,s.1=(i:Int)/\s.2=(j:Int)/\i<=j/\j<=x.length/\(∀ k (h:k<x.length),k<i->(x[k]).id<id)/\(∀ k (h:k<x.length),j<=k->id<=(x[k]).id)) (λs=>(s.2-s.1).toNat) ⟨0,x.length,rfl,rfl,Nat.zero_le _,Nat.le_refl _,λ_ _ h=>by omega,λ_ _ h=>by omega⟩ (by show((x.length:Int)-0).toNat<18446744073709551616;omega) ?_
 rintro⟨a,b⟩ k ⟨i,j,e1,C,hij,hj,t,hr⟩ hk
 simp only at e1 C;subst e1 C;unfold vM zY;refine dY (λh=>?_) λh=>?_
 have I:i<j:=by simpa using h
 have hs:jU .shr .u64 (IntKind.wrap .u64 (fK (i:Int) (j:Int))) 1=some (((i+j) / 2:Nat):Int):=by
  have e:fK (i:Int) (j:Int)=((i+j:Nat):Int):=by
   show IntKind.i64.wrap _=_
   grind[wrap_in]
  rw[e];have C:IntKind.wrap .u64 ((i+j:Nat):Int)=((i+j:Nat):Int):=by rw[IntKind.wrap_u64];omega
  rw[C];show some (Int.fdiv ((i+j:Nat):Int) (2 ^ (min (1:Int).toNat 64)))=_
  grind
 refine eP hs ?_;have hm:(i+j) / 2<j:=by omega
 have J:i<=(i+j) / 2:=by omega
 generalize (i+j) / 2=m at hm J;have e3:IntKind.wrap .i64 (m:Int)=(m:Int):=wrap_in ae ae;rw[e3];have T:m<x.length:=by omega
 obtain⟨y,g,y1,_⟩:=ad7 (x[m]).id id;refine fO m rfl T (eP (x:=y) (by rw[g];rfl) (dY (λh2=>hk _ ⟨m+1,j,iY ae,rfl,by omega,hj,λk h h3=>?_,hr⟩ ?_) λh2=>hk _ ⟨i,m,rfl,rfl,J,by omega,t,λk h h3=>?_⟩ ?_))
 have:=y1.1 h2
 by_cases e:k=m
 grind
 have:=ha k m h T ae;omega
 grind[iY]
 have:¬ (x[m]).id<id:=λq=>h2 (y1.2 q)
 by_cases e:k=m
 grind
 have:=ha m k T h ae;omega
 grind
 have e:i=j:=by grind
 subst e;refine dY (λh2=>?_) λh2=>?_
 have I:i<x.length:=by simpa [eU] using h2
 obtain⟨y,g,_,y2⟩:=ad7 (x[i]).id id;refine fO i rfl I (eP (x:=y) (by rw[g];rfl) (dX ⟨i,rfl,t,hr,?_⟩))
 grind
 refine dX ⟨i,rfl,t,hr,⟨λh=>bW,λ⟨h,_⟩=>absurd h ?_⟩⟩
 grind[eU]
def Plc (s:dZ)(id p:Int):Prop:=(p=-1/\∀ k (h:k<s.objects.length),(s.objects[k]).id≠id)\/∃ k:Nat,p=(k:Int)/\∃ h:k<s.objects.length,(s.objects[k]).id=id
theorem ain (s:dZ)(id:Int)(ho:s.objects.length<=2000000)(J:Asc s.objects):Ok (Plc s id) (sD s id):=by
 unfold sD;refine fB (aj7 _ _ ho J) ?_
 rintro⟨p,b⟩ ⟨i,e,h1,h2,I⟩
 simp only at e I;subst e;refine gq (λT=>dX (.inl ⟨rfl,λk hk e=>?_⟩)) λT=>dX (.inr ⟨i,rfl,?_⟩)
 have T:b=false:=by grind
 subst T
 by_cases C:k<i
 grind
 have:=h2 k hk ae;refine absurd (I.2 ?_) aj
 by_cases t:k=i
 grind
 have:=J i k ae hk ae
 grind
 grind
theorem aio (s:dZ)(id:Int)(ho:s.objects.length<=2000000):Ok (Plc s id) (xq s id):=by
 unfold xq;refine kM 0 s.objects.length (λi=>∀ k (h:k<s.objects.length),k<i->(s.objects[k]).id≠id) 0 rfl (Nat.zero_le _) ae (λ_ _ h=>by omega) (λi k hi T hk=>?_) λk T=>?_
 unfold zf;refine dY (λ_=>fO i rfl hi (dY (λe=>dX (.inr ⟨i,rfl,hi,e⟩)) λe=>hk λj hj h=>?_)) λh=>absurd (show(i:Int)<(s.objects.length:Int) by omega) h
 grind
 unfold zf;exact dY (λh=>absurd h aF) λ_=>dX (.inl ⟨rfl,λk h=>T k h h⟩)
theorem Np {l:List fD}(T:Asc l){i j:Nat}(hi:i<l.length)(hj:j<l.length)(e:(l[i]).id=(l[j]).id):i=j:=by
 rcases Nat.lt_trichotomy i j with h|h|h
 have:=T i j hi hj h;omega
 exact h
 have:=T j i hj hi h;omega
theorem aj8 {s:dZ}(T:Asc s.objects){id p q:Int}(h:Plc s id p)(h2:Plc s id q):p=q:=by
 rcases h with ⟨rfl,h⟩|⟨k,rfl,hk,h⟩<;>rcases h2 with ⟨rfl,h2⟩|⟨j,rfl,hj,h2⟩
 rfl
 grind
 grind
 grind[Np]
theorem aip (s:dZ)(id:Int)(ho:s.objects.length<=2000000)(T:Asc s.objects):∃ p,sD s id=some p/\xq s id=some p/\-1<=p/\p<(s.objects.length:Int):=by
 obtain⟨p,e,h⟩:=ain s id ho T;obtain⟨q,J,h2⟩:=aio s id ho;have:=aj8 T h h2;subst this;refine⟨p,e,J,?_⟩;rcases h with ⟨rfl,_⟩|⟨k,rfl,hk,_⟩<;>omega
theorem ixD {α:Type}{l:List α}{i:Int}(d:α)(h0:0<=i)(h1:i<(l.length:Int)):gW l i=some (l.getD i.toNat d):=by
 obtain⟨n,rfl⟩:=Int.eq_ofNat_of_zero_le h0
 grind[qH]
theorem zK {α:Type}{l:List α}{n:Nat}(d:α)(h1:n<l.length):gW l (n:Int)=some (l.getD n d):=ixD d ae ae
theorem Tv {α ρ:Type}(l:List α)(i:Int)(k:α->Option ρ):(bnd (kD l.length i) λj=>bnd (l[j]?) k)=bnd (gW l i) k:=by
 cases i with
 | negSucc n=>rfl
 | ofNat n=>
  show bnd (bif Nat.blt n l.length then some n else none) _=bnd (l[n]?) k
  by_cases h:n<l.length
  rw[show Nat.blt n l.length=true by simp_all];rfl
  rw[show Nat.blt n l.length=false by rw[<- Bool.not_eq_true,Nat.blt_eq];exact h,List.getElem?_eq_none ae];rfl
def Kt (k:Int):Int:=(xn k).getD 0
theorem acC (k:Int):xn k=some (Kt k):=by
 obtain⟨r,e,_⟩:=Yd k
 grind[acz,Kt]
theorem afd (k:Int):vI k=some (Kt k):=by rw[acz,acC]
def f30 (f:eY):iH:=⟨f.source,f.ja,f.control,f.stamp,f.fixed,f.objects,f.filter,f.fP⟩
def v30 (w:eX)(B:List Bool)(S:List (List Int)):gB:=⟨w.s,w.eG,w.forces.map f30,B,S,w.dropped⟩
def oid (s:dZ)(k:Int):Int:=(s.objects.getD k.toNat nC).id
def FV (f:eY):Prop:=(f.fixed=false->pO f.filter=some true)/\∀ m∈f.fP,lS m=some true/\(m.kind=11->pO m.filter=some true)
structure VA (s:dZ)(L:List eY):Prop extends am3 s L where
 asc:Asc s.objects
 fv:∀ f∈L,FV f
def plc (s:dZ)(id:Int):Int:=(sD s id).getD (-1)
def Ko (s:dZ)(T:List eF)(f:eY):Int:=bif f.fixed || decide (plc s f.source<0) then f.control else(T.getD (plc s f.source).toNat jw).control
def FT (s:dZ)(D:List Bool)(f:eY):Bool:=decide (0<=plc s f.source)&&D.getD (plc s f.source).toNat false
def aa7 (s:dZ)(T:List eF)(y c:Int)(f:iO):List Int:=(nZ s T y c f).getD []
def zi (s:dZ)(T:List eF)(f:eY)(stage:Int)(m:jP):Int:=bif decide (m.kind=11)&&decide (Kt m.kind=stage) then((aa7 s T (Ko s T f) f.source m.filter).length:Int) else 0
def VB (s:dZ)(T:List eF)(f:eY)(k:Nat):Bool := let o:=s.objects.getD k nC; decide (o.iL=0)&&(bif f.fixed then decide (o.id∈f.objects) else(mJ o (T.getD k jw) (Ko s T f) f.source f.filter).getD false)
def Tz (l:List Nat):List Int:=l.map Int.ofNat
def ND (s:dZ)(T:List eF)(f:eY):List Int:=Tz ((List.range s.objects.length).filter (VB s T f))
section
variable {s:dZ}{L:List eY}(H:VA s L){w:eX}(W:WLK s L w){B:List Bool}{S:List (List Int)}
include H
theorem akM (id:Int):sD s id=some (plc s id)/\xq s id=some (plc s id)/\-1<=plc s id/\plc s id<(s.objects.length:Int):=by
 obtain⟨p,e,T,h⟩:=aip s id (by have:=H.ho;omega) H.asc
 grind[plc]
include W
theorem ad8 {n:Nat}(T:n<L.length):gW w.forces (n:Int)=some L[n]/\gW (v30 w B S).l (n:Int)=some (f30 L[n]):=by
 refine⟨?_,?_⟩
 rw[W.l,qH,List.getElem?_eq_getElem T]
 show gW (w.forces.map f30) _=_;rw[W.l,qH,List.getElem?_map,List.getElem?_eq_getElem T];rfl
theorem afe {n:Nat}(I:n<L.length):oz w n=some (Ko s w.eG L[n])/\Ep (v30 w B S) n=some (Ko s w.eG L[n]):=by
 obtain⟨e1,C⟩:=ad8 (B:=B) (S:=S) H W I;obtain⟨J,i2,p1,p2⟩:=akM H (L[n]).source;have t:=W.all;unfold oz Ep Ko;rw[e1,C];simp only[bnd,f30,W.st,J,jn,show(v30 w B S).s=s from W.st,i2]
 by_cases T:plc s (L[n]).source<0
 cases (L[n]).fixed<;>simp[br,T,show ¬ 0<=plc s (L[n]).source by omega]
 grind[ixD,br,v30]
theorem Ll {n:Nat}(J:n<L.length)(g:B.length=L.length):oG w n=some ((L[n]).fixed || (w.done.getD n false || !FT s w.dropped L[n]))/\uJ (v30 w B S) n=some ((L[n]).fixed || (B.getD n false || !FT s w.dropped L[n])):=by
 obtain⟨e1,t⟩:=ad8 (B:=B) (S:=S) H W J;obtain⟨I,i2,p1,p2⟩:=akM H (L[n]).source;have wd:=W.drp;have d1:=zK (l:=w.done) false (n:=n) (by rw[W.don];exact J);have d2:=zK (l:=B) false (n:=n) ai;unfold oG uJ FT;rw[e1,t,d1];simp only[bnd,f30,W.st,I,jn,show(v30 w B S).s=s from W.st,i2,show(v30 w B S).begun=B from rfl,d2,show(v30 w B S).blank=w.dropped from rfl];generalize B.getD n false=b;generalize w.done.getD n false=d
 by_cases T:plc s (L[n]).source<0
 cases (L[n]).fixed<;>cases b<;>cases d<;>simp[br,T]
 have C:=ixD (l:=w.dropped) false (i:=plc s (L[n]).source) ae ae;rw[C];generalize w.dropped.getD _ _=x;cases (L[n]).fixed<;>cases b<;>cases d<;>cases x<;>simp[br,T,show 0<=plc s (L[n]).source by omega]
end
theorem aa8 (o:fD)(t:eF)(you source:Int)(f:iO)(U:pO f=some true)(T:jX t)(I:kL f):mJ o t you source f=qF o t you source f:=by
 obtain⟨g,e1,_⟩:=FQ t.line f.sub T.2.1 I;obtain⟨va,C,_⟩:=OM t.cost 0;refine aij o t you source f U (by have:=T.2.1.1;omega) (acB _) (mt:=λb n=>(Bi b n).getD false) e1 rfl (λb n=>?_) (by rw[<- acB];exact C);unfold Bi
 by_cases h0:b.kind=0<;>by_cases h1:b.kind=1<;>by_cases h2:b.kind=2<;>by_cases J:b.kind=3<;>simp[br,h0,h1,h2,J]
section
variable {s:dZ}{L:List eY}(H:VA s L){w:eX}(W:WLK s L w){B:List Bool}{S:List (List Int)}
include H W
theorem am5 (i:Nat)(hi:i<s.objects.length):aaq w.eG i=some (w.eG.getD i jw):=by
 have:=W.all;unfold aaq;rw[zK jw (by omega:i<w.eG.length)];simp[br,bnd,eU,show ¬ (w.eG.length:Int)<=i by omega,show ¬ (i:Int)<0 by omega]
theorem agf (i:Nat):jX (w.eG.getD i jw):=by
 by_cases h:i<w.eG.length
 have:=W.tr _ (List.getElem_mem h);grind
 grind[ah2]
theorem ad9 (y c:Int)(f:iO)(U:kL f)(hv:pO f=some true):nZ w.s w.eG y c f=some (aa7 s w.eG y c f)/\yh w.s w.eG y c f=some (aa7 s w.eG y c f):=by
 have ho:=H.ho;have I:=W.all
 have e:nZ w.s w.eG y c f=some (aa7 s w.eG y c f):=by
  obtain⟨r,e,_⟩:=ah7 H.1 W y c f U;rw[e,aa7,<- W.st,e];rfl
 refine⟨e,?_⟩;rw[<- e,W.st];unfold nZ yh;refine ab6 (λa b=>a=b/\∃ i:Nat,i<=s.objects.length/\a.1=(i:Int)) ⟨rfl,0,by omega,rfl⟩ ?_
 rintro⟨C,t⟩ _ k J ⟨rfl,i,hi,e⟩ hk
 simp only at e;subst e;unfold vP Bj
 by_cases h:i<s.objects.length
 have e1:gW s.objects (i:Int)=some s.objects[i]:=by grind[qH]
 have T:∀ u,k (fK (i:Int) 1,u)=J (fK (i:Int) 1,u):=λu=>hk _ _ ⟨rfl,i+1,h,iY ae⟩;simp only[e1,bnd,jn,eU,I,h,decide_true,br,Int.ofNat_lt,am5 H W i h,zK jw (show i<w.eG.length by omega),aa8 _ _ _ _ _ hv (agf H W i) U,T]
 simp[br,eU,h]
theorem Zo {n:Nat}(C:n<L.length)(stage:Int) :
  qi w n stage=some ((L[n]).fP.map (zi s w.eG L[n] stage))/\uw (v30 w B S) n stage=some (((L[n]).fP.filter λm=>decide (Kt m.kind=stage)).map (zi s w.eG L[n] stage)):=by
 obtain⟨e1,e2⟩:=ad8 (B:=B) (S:=S) H W C;obtain⟨y1,y2⟩:=afe (B:=B) (S:=S) H W C;have hz:=H.f _ (List.getElem_mem C);have hv:=H.fv _ (List.getElem_mem C);unfold qi uw;rw[e1,e2];show(bnd (jD _ _ 8) _=_)/\eH (sV (v30 w B S) n stage (f30 L[n])) (0,[])=_;generalize L[n]=f at *;have hm:=hz.2.2;have hml:=hm.1
 have key:∀ m∈f.fP,m.kind=11->nZ w.s w.eG (Ko s w.eG f) f.source m.filter=some (aa7 s w.eG (Ko s w.eG f) f.source m.filter)/\yh w.s w.eG (Ko s w.eG f) f.source m.filter=some (aa7 s w.eG (Ko s w.eG f) f.source m.filter) :=
  λm h h2=>ad9 H W _ _ _ (hm.2 m h).2 ((hv.2 m h).2 h2)
 constructor
 refine ok_eq (QB (n:=f.fP.length) rfl rfl ae ae (BN ?_));refine jA 0 f.fP.length (λi t=>t=(f.fP.take i).map (zi s w.eG f stage)++List.replicate (f.fP.length-i) 0) 0 rfl (Nat.zero_le _) ae aj (λi t k hi I hk=>?_) λt k I=>?_
 subst I;have hl:i<((f.fP.take i).map (zi s w.eG f stage)++List.replicate (f.fP.length-i) 0).length:=by simp;omega
 have g:gW f.fP (i:Int)=some f.fP[i]:=by grind[qH]
 have J:=key _ (List.getElem_mem hi);have ht:=gQ f.fP i hi;have hr:List.replicate (f.fP.length-i) (0:Int)=0::List.replicate (f.fP.length-(i+1)) 0:=by rw[<- List.replicate_succ];congr 1;omega
 unfold rV;simp only[g,bnd,jn,afd,y1];refine dY (λ_=>?_) λh=>absurd (show(i:Int)<(f.fP.length:Int) by omega) h
 have fin:∀ v,v=zi s w.eG f stage f.fP[i]->Ok (λr=>r=f.fP.map (zi s w.eG f stage)) (k (fK (i:Int) 1,((f.fP.take i).map (zi s w.eG f stage)++List.replicate (f.fP.length-i) 0).set i v)):=by
  rintro v rfl
  refine hk _ ?_;rw[ht,hr,List.set_append];simp[-List.take_append_getElem,Nat.min_eq_left (Nat.le_of_lt hi)]
 have T:0=zi s w.eG f stage f.fP[i]->Ok (λr=>r=f.fP.map (zi s w.eG f stage)) (k (fK (i:Int) 1,(f.fP.take i).map (zi s w.eG f stage)++List.replicate (f.fP.length-i) 0)):=λe=>by
  grind
 by_cases h1:f.fP[i].kind=11
 by_cases h2:Kt f.fP[i].kind=stage
 rw[decide_eq_true h1,decide_eq_true h2];simp only[br,(J h1).1];exact iD i rfl hl (gY hl (fin _ (by grind[zi])))
 rw[decide_eq_true h1,decide_eq_false h2];exact T (by grind[zi])
 rw[decide_eq_false h1];exact T (by simp[zi,h1])
 unfold rV;subst I;exact dY (λh=>absurd h aH) λ_=>dX aj
 refine ok_eq (jA 0 f.fP.length (λi t=>t=((f.fP.take i).filter λm=>decide (Kt m.kind=stage)).map (zi s w.eG f stage)) 0 rfl (Nat.zero_le _) ae aj (λi t k hi I hk=>?_) λt k I=>?_)
 have g:gW f.fP (i:Int)=some f.fP[i]:=by grind[qH]
 have J:=key _ (List.getElem_mem hi);have ht:=gQ f.fP i hi
 have hl:t.length<=i:=by
  grind
 unfold sV;simp only[f30,g,bnd,jn,acC,y2];refine dY (λ_=>?_) λh=>absurd (show(i:Int)<(f.fP.length:Int) by omega) h;refine rQ (λh2=>hk _ ai) λh2=>?_
 have fin:∀ v,v=zi s w.eG f stage f.fP[i]->Ok (λr=>r=(f.fP.filter λm=>decide (Kt m.kind=stage)).map (zi s w.eG f stage)) (iy (t.length+[v].length) 8 (k (fK (i:Int) 1,t++[v]))):=by
  rintro v rfl
  grind[iJ]
 refine dY (λh1=>?_) λh1=>fin _ (by simp[zi,h1]);rw[show(v30 w B S).s=w.s from rfl,show(v30 w B S).all=w.eG from rfl,(J h1).2]
 grind[zi,eU]
 unfold sV;subst I;rw[oh];exact dY (λh=>absurd h aH) λ_=>dX rfl
end
theorem am6 (w:eX)(i:Int):wQ w i=oz w i:=by
 grind[wQ,oz,Tv]
theorem acD (w:eX)(i:Int):qB w i=oG w i:=by
 grind[qB,oG,Tv]
theorem XI (w:eX)(i:Int):mW w i=nG w i:=by
 unfold mW nG tu oQ;simp only[Tv,acD]
theorem alP (s:dZ)(T:List eF)(y c:Int)(f:iO):EF s T y c f=nZ s T y c f:=by
 unfold EF nZ KW vP;simp only[Tv]
theorem Zp (w:eX)(i stage:Int):pW w i stage=qi w i stage:=by
 unfold pW qi zl rV;simp only[alP]
theorem alQ (w:eX)(i stage:Int):rJ w i stage=mD w i stage:=by
 grind[rJ,mD,Zp,acD,XI]
theorem aff (l:List Int)(n:Int)(J:l.length<=2000000):RU l n=some (decide (n∈l)):=by
 unfold RU;refine ok_eq (fB (R:=λy=>(n ∉ l/\y=-1)\/(n∈l/\0<=y)) ?_ ?_)
 unfold Ue;refine kM 0 l.length (λi=>n ∉ l.take i) 0 rfl (Nat.zero_le _) ae aj (λi k hi T hk=>?_) λk T=>?_
 unfold MB;refine dY (λ_=>fO i rfl hi (dY (λe=>dX (.inr ⟨e ▸ List.getElem_mem hi,by omega⟩)) λe=>hk ?_)) λh=>absurd (show(i:Int)<(l.length:Int) by omega) h
 grind[gQ]
 unfold MB;rw[oh] at T;exact dY (λh=>absurd h ax) λ_=>dX (.inl ⟨T,rfl⟩)
 rintro y (⟨h,rfl⟩|⟨h,h2⟩)
 grind[dX]
 grind[dX]
theorem XJ (l:List Nat)(i:Nat):Tz (l++[i])=Tz l++[(i:Int)]:=by simp[Tz]
theorem Dt (p:Nat->Bool)(i:Nat):(List.range (i+1)).filter p=bif p i then(List.range i).filter p++[i] else(List.range i).filter p:=by
 grind[List.range_succ]
section
variable {s:dZ}{L:List eY}(H:VA s L){w:eX}(W:WLK s L w){B:List Bool}{S:List (List Int)}
include H W
theorem Zq {n:Nat}(J:n<L.length)(hb:B.length=L.length)(hs:S.length=L.length) :
  nG w n=some (bif w.done.getD n false then w.hits.getD n [] else bif (L[n]).fixed || !FT s w.dropped L[n] then ND s w.eG L[n] else []) /\
  uq (v30 w B S) n=some (bif B.getD n false then S.getD n [] else bif (L[n]).fixed || !FT s w.dropped L[n] then(ND s w.eG L[n]).map (oid s) else []):=by
 obtain⟨e1,e2⟩:=ad8 (B:=B) (S:=S) H W J;obtain⟨y1,y2⟩:=afe (B:=B) (S:=S) H W J;obtain⟨a1,a2⟩:=Ll (B:=B) (S:=S) H W J hb;have C:=H.f _ (List.getElem_mem J);have hv:=H.fv _ (List.getElem_mem J);have d1:=zK (l:=w.done) false (n:=n) (by rw[W.don];exact J);have d2:=zK (l:=B) false (n:=n) ai;have d3:=zK (l:=w.hits) [] (n:=n) (by rw[W.hit];exact J);have d4:=zK (l:=S) [] (n:=n) ai;unfold nG uq;rw[a1,a2,d1,d3,e1,e2,y1];rw[show(v30 w B S).begun=B from rfl,show(v30 w B S).sets=S from rfl,d2,d4];simp only[bnd];generalize B.getD n false=b;generalize w.done.getD n false=d;generalize FT s w.dropped L[n]=x;generalize L[n]=f at *;have ho:=H.ho;have wa:=W.all;have hfl:=C.1.1;have bef:∀ x:Bool,(x==false)=!x:=λx=>by cases x<;>rfl
 have P1:eH (oQ w f (Ko s w.eG f)) (0,[])=some (ND s w.eG f):=by
  refine ok_eq (jA 0 s.objects.length (λi t=>t=Tz ((List.range i).filter (VB s w.eG f))) 0 rfl (Nat.zero_le _) ae rfl (λi t k hi I hk=>?_) λt k I=>?_)
  have g:t.length<=i:=by grind[Tz]
  have f1:VB s w.eG f i=true->Ok (λr=>r=ND s w.eG f) (iy (t.length+[(i:Int)].length) 8 (k (fK (i:Int) 1,t++[(i:Int)]))):=λh=>iJ ai ai (hk _ (by simp_all[Dt,XJ]));have f2:VB s w.eG f i=false->Ok (λr=>r=ND s w.eG f) (k (fK (i:Int) 1,t)):=λh=>hk _ (by simp_all[Dt]);obtain⟨m,em,_⟩:=zh s.objects[i] (w.eG.getD i jw) (Ko s w.eG f) f.source f.filter (agf H W i) C.2.1
  have hB:VB s w.eG f i=(decide ((s.objects[i]).iL=0)&&(bif f.fixed then decide ((s.objects[i]).id∈f.objects) else m)):=by
   grind[VB]
  rw[hB] at f1 f2;unfold oQ;simp only[W.st,qH,List.getElem?_eq_getElem hi,bnd,jn,OJ f.objects _ ae,(qH w.eG i).symm,zK jw (show i<w.eG.length by omega),em];refine dY (λ_=>?_) λh=>absurd (show(i:Int)<(s.objects.length:Int) by omega) h;revert f1 f2;cases decide ((s.objects[i]).iL=0)<;>cases f.fixed<;>cases decide ((s.objects[i]).id∈f.objects)<;>cases m<;>intro f1 f2<;>first|exact f1 rfl|exact f2 rfl
  unfold oQ;rw[W.st];exact dY (λh=>absurd h aF) λ_=>dX I
 have P2:eH (sU (v30 w B S) n (f30 f)) (0,[])=some ((ND s w.eG f).map (oid s)):=by
  refine ok_eq (jA 0 s.objects.length (λi t=>t=(Tz ((List.range i).filter (VB s w.eG f))).map (oid s)) 0 rfl (Nat.zero_le _) ae rfl (λi t k hi I hk=>?_) λt k I=>?_)
  have g:t.length<=i:=by grind[Tz]
  have go:s.objects.getD i nC=s.objects[i]:=by simp[hi]
  have f1:VB s w.eG f i=true->Ok (λr=>r=(ND s w.eG f).map (oid s)) (iy (t.length+[(s.objects[i]).id].length) 8 (k (fK (i:Int) 1,t++[(s.objects[i]).id]))):=λh=>iJ ai ai (hk _ (by simp_all[Dt,XJ,oid]));have f2:VB s w.eG f i=false->Ok (λr=>r=(ND s w.eG f).map (oid s)) (k (fK (i:Int) 1,t)):=λh=>hk _ (by simp_all[Dt]);obtain⟨m,em,_⟩:=zh s.objects[i] (w.eG.getD i jw) (Ko s w.eG f) f.source f.filter (agf H W i) C.2.1
  have hB:VB s w.eG f i=(decide ((s.objects[i]).iL=0)&&(bif f.fixed then decide ((s.objects[i]).id∈f.objects) else m)):=by
   grind[VB]
  have T:f.fixed=false->qF s.objects[i] (w.eG.getD i jw) (Ko s w.eG f) f.source f.filter=some m:=λh=>by
   rw[<- aa8 _ _ _ _ _ (hv.1 h) (agf H W i) C.2.1,em]
  rw[hB] at f1 f2;unfold sU;simp only[show(v30 w B S).s=s from W.st,show(v30 w B S).all=w.eG from rfl,qH,List.getElem?_eq_getElem hi,bnd,jn,f30,aff f.objects _ ae,(qH w.eG i).symm,zK jw (show i<w.eG.length by omega),y2];refine dY (λ_=>?_) λh=>absurd (show(i:Int)<(s.objects.length:Int) by omega) h;revert f1 f2 T;cases decide ((s.objects[i]).iL=0)<;>cases f.fixed<;>cases decide ((s.objects[i]).id∈f.objects)<;>intro f1 f2 T<;>(try rw[T rfl])<;>cases m<;>first|exact f1 rfl|exact f2 rfl
  unfold sU;rw[show(v30 w B S).s=s from W.st];exact dY (λh=>absurd h aF) λ_=>dX I
 rw[P1,P2];cases b<;>cases d<;>cases x<;>cases f.fixed<;>exact⟨rfl,rfl⟩
end
def xe (stage you:Int)(g:jP->Int)(ms:List jP)(t:eF):eF:=ms.foldl (λt m=>bif decide (Kt m.kind=stage) then(qU t m you (g m)).getD t else t) t
def uO (stage:Int)(ms:List jP):Bool:=ms.any λm=>decide (Kt m.kind=stage)&&decide (m.kind=10)
def Du (h:List Int)(F:eF->eF)(T:List eF):List eF:=T.mapIdx λk t=>bif decide ((k:Int)∈h) then F t else t
def Fe (h:List Int)(b:Bool)(D:List Bool):List Bool:=D.mapIdx λk d=>d || (b&&decide ((k:Int)∈h))
theorem ap1 (t:eF)(m:jP)(y c:Int)(T:jX t)(J:rX m)(hv:lS m=some true):∃ x,D8 t m y c=some x/\qU t m y c=some x/\jX x:=by
 obtain⟨x,e,h⟩:=af5 t m y c T J;exact⟨x,e,by rw[<- aii t m y c hv (XE t T) (by have:=T.2.1.1;omega)];exact e,h⟩
theorem VZ (stage y:Int)(g:jP->Int):∀ (ms:List jP),(∀ m∈ms,rX m/\lS m=some true)->∀ t,jX t->jX (xe stage y g ms t)
 | [],_,t,ht=>ht
 | m::ms,h,t,ht=>by
  show jX (xe stage y g ms _);refine VZ stage y g ms (λm T=>h m (by simp[T])) _ ?_;obtain⟨x,_,e,J⟩:=ap1 t m y (g m) ht (h m aj).1 (h m aj).2
  grind
theorem Zr (stage y:Int)(g:jP->Int)(ms:List jP)(t:eF)(j:Nat)(hj:j<ms.length):xe stage y g (ms.take (j+1)) t=bif decide (Kt (ms[j]).kind=stage) then(qU (xe stage y g (ms.take j) t) ms[j] y (g ms[j])).getD (xe stage y g (ms.take j) t) else xe stage y g (ms.take j) t:=by
 grind[gQ,xe]
theorem drop_take (stage:Int)(ms:List jP)(j:Nat)(hj:j<ms.length):uO stage (ms.take (j+1))=(uO stage (ms.take j) || (decide (Kt (ms[j]).kind=stage)&&decide ((ms[j]).kind=10))):=by
 grind[gQ,uO]
theorem acE (F:eF->eF)(T:List eF):Du [] F T=T:=by
 refine List.ext_getElem (by simp[Du]) λi h1 h2=>by simp[Du]
theorem acF (b:Bool)(D:List Bool):Fe [] b D=D:=by
 refine List.ext_getElem (by simp[Fe]) λi h1 h2=>by simp[Fe]
theorem aiq (h:List Int)(F:eF->eF)(T:List eF)(m:Nat)(J:m<T.length)(I:(m:Int) ∉ h):Du (h++[(m:Int)]) F T=(Du h F T).set m (F ((Du h F T).getD m jw)):=by
 have e:(Du h F T).getD m jw=T[m]:=by simp[Du,J,I]
 rw[e];refine List.ext_getElem (by simp[Du]) λi h1 h2=>?_
 grind[Du]
theorem air (h:List Int)(b:Bool)(D:List Bool)(m:Nat)(T:m<D.length):Fe (h++[(m:Int)]) b D=bif b then(Fe h b D).set m true else Fe h b D:=by
 cases b
 simp[Fe]
 refine List.ext_getElem (by simp[Fe]) λi h1 h2=>?_;simp only[cond_true]
 grind[Fe]
theorem aj9 (b c:Bool)(D:List Bool)(m:Nat):(bif c then(bif b then D.set m true else D).set m true else(bif b then D.set m true else D))=bif b || c then D.set m true else D:=by
 grind[List.set_set]
def zJ (s:dZ)(w:eX)(f:eY)(n:Nat):List Int:=bif w.done.getD n false then w.hits.getD n [] else bif f.fixed || !FT s w.dropped f then ND s w.eG f else []
def appW (s:dZ)(w:eX)(f:eY)(n:Nat)(stage:Int):eX := ⟨w.s,w.forces,Du (zJ s w f n) (xe stage (Ko s w.eG f) (zi s w.eG f stage) f.fP) w.eG,Fe (zJ s w f n) (uO stage f.fP) w.dropped,w.done.set n true,w.hits.set n (zJ s w f n)⟩
section
variable {s:dZ}{L:List eY}(H:VA s L){w:eX}(W:WLK s L w){B:List Bool}{S:List (List Int)}
include H W
theorem UI {n:Nat}(T:n<L.length):ae7 s.objects.length (zJ s w L[n] n):=by
 have ho:=H.ho;have J:=W.hit;unfold zJ;cases w.done.getD n false
 cases ((L[n]).fixed || !FT s w.dropped L[n])
 exact⟨Nat.zero_le _,by simp⟩
 show ae7 _ (ND s w.eG L[n]);unfold ND Tz;refine⟨?_,λy hy=>?_⟩<;>grind
 have h:n<w.hits.length:=by omega
 have:w.hits.getD n []=w.hits[n]:=by simp[h]
 rw[this];exact W.alK _ (List.getElem_mem h)
theorem ais {n:Nat}(J:n<L.length)(T:(w.hits.getD n []).Nodup):(zJ s w L[n] n).Nodup:=by
 unfold zJ;cases w.done.getD n false
 cases ((L[n]).fixed || !FT s w.dropped L[n])
 simp
 show(ND s w.eG L[n]).Nodup;unfold ND Tz;rw[List.Nodup,List.pairwise_map];exact(List.nodup_range.filter _).imp λh e=>h (Int.ofNat.inj e)
 exact T
theorem afg {n:Nat}(J:n<L.length)(stage:Int)(hd:(w.hits.getD n []).Nodup):oP w n stage=some (appW s w L[n] n stage):=by
 have ho:=H.ho;obtain⟨e1,_⟩:=ad8 (B:=w.done) (S:=w.hits) H W J;obtain⟨y1,_⟩:=afe (B:=w.done) (S:=w.hits) H W J;obtain⟨a1,_⟩:=Zq (B:=w.done) (S:=w.hits) H W J W.don W.hit;obtain⟨n1,_⟩:=Zo (B:=w.done) (S:=w.hits) H W J stage;have hi0:=UI H W J;have hnd:=ais H W J hd;have hz:=H.f _ (List.getElem_mem J);have hv:=H.fv _ (List.getElem_mem J);have d1:n<w.done.length:=by rw[W.don];exact J
 have d2:n<w.hits.length:=by rw[W.hit];exact J
 have a1:nG w n=some (zJ s w L[n] n):=a1;unfold oP appW;rw[XI,Zp,am6,a1,n1,y1];simp only[bnd];generalize zJ s w L[n] n=h at *;generalize U:L[n]=f at *;generalize hy:Ko s w.eG f=y at *;generalize hg:zi s w.eG f stage=g at *;have hl:=hi0.1;have hm:=hz.2.2;have hml:=hm.1;have hmz:∀ m∈f.fP,rX m/\lS m=some true:=λm h=>⟨hm.2 m h,(hv.2 m h).1⟩
 have wa:=W.all;have wd:=W.drp;refine ok_eq (jA 0 h.length (λi t=>t=(Du (h.take i) (xe stage y g f.fP) w.eG,Fe (h.take i) (uO stage f.fP) w.dropped)) 0 rfl (Nat.zero_le _) ae (by simp[acE,acF]) (λi t k hi hI hk=>?_) λt k hI=>?_)
 subst hI;obtain⟨m1,m2⟩:=hi0.2 _ (List.getElem_mem hi)
 have T:h[i] ∉ h.take i:=by
  grind[List.getElem_of_mem,List.getElem_inj]
 have htk:=gQ h i hi;obtain⟨m,em⟩:=Int.eq_ofNat_of_zero_le m1;rw[em] at m2 T htk;have hmt:m<w.eG.length:=by omega
 have hmd:m<w.dropped.length:=by omega
 have lT:(Du (h.take i) (xe stage y g f.fP) w.eG).length=w.eG.length:=by simp[Du]
 have lD:(Fe (h.take i) (uO stage f.fP) w.dropped).length=w.dropped.length:=by simp[Fe]
 have h2:=aiq (h.take i) (xe stage y g f.fP) w.eG m hmt T;have h3:=air (h.take i) (uO stage f.fP) w.dropped m hmd
 have hsz:jX ((Du (h.take i) (xe stage y g f.fP) w.eG).getD m jw):=by
  have:(Du (h.take i) (xe stage y g f.fP) w.eG).getD m jw=w.eG[m]:=by simp[Du,hmt,T]
  rw[this];exact W.tr _ (List.getElem_mem hmt)
 unfold qX;refine dY (λ_=>fO i rfl hi (eP e1 ?_)) λh'=>absurd (show(i:Int)<(h.length:Int) by omega) h';rw[em];generalize Du (h.take i) (xe stage y g f.fP) w.eG=T1 at *;generalize Fe (h.take i) (uO stage f.fP) w.dropped=D1 at *;have I:m<T1.length:=by omega
 have hmD:m<D1.length:=by omega
 refine jA 0 f.fP.length (λj t=>t=(T1.set m (xe stage y g (f.fP.take j) (T1.getD m jw)),bif uO stage (f.fP.take j) then D1.set m true else D1)) 0 rfl (Nat.zero_le _) ae ?_ (λj u k2 hj hJ C=>?_) λu k2 hJ=>?_
 simp_all[xe,uO]
 subst hJ;have hms:=hmz _ (List.getElem_mem hj);have hsz2:=VZ stage y g (f.fP.take j) (λm' h'=>hmz m' (List.mem_of_mem_take h')) _ hsz;have nj:j<(f.fP.map g).length:=by simp[hj]
 obtain⟨x,x1,x2,x3⟩:=ap1 (xe stage y g (f.fP.take j) (T1.getD m jw)) f.fP[j] y (g f.fP[j]) hsz2 hms.1 hms.2;have tk:=Zr stage y g f.fP (T1.getD m jw) j hj;have td:=drop_take stage f.fP j hj;rw[x2] at tk;unfold qW;refine dY (λ_=>?_) λh'=>absurd (show(j:Int)<(f.fP.length:Int) by omega) h';refine fO j rfl hj (eP (afd _) (rQ (λhs=>C _ ?_) λhs=>?_))
 grind
 rw[decide_eq_true hs] at tk td;have e4:(T1.set m (xe stage y g (f.fP.take j) (T1.getD m jw)))[m]?=some (xe stage y g (f.fP.take j) (T1.getD m jw)):=by simp[I]
 have e5:(f.fP.map g)[j]?=some (g f.fP[j]):=by simp[hj]
 refine iD m rfl (by simp[I]) (eP e4 (iD j rfl nj (eP e5 (eP x1 (iD m rfl (by simp[I]) (eP e4 ?_))))));have hT:(T1.set m (xe stage y g (f.fP.take j) (T1.getD m jw))).set m x=T1.set m (xe stage y g (f.fP.take (j+1)) (T1.getD m jw)):=by simp_all
 have hD:=aj9 (uO stage (f.fP.take j)) (decide ((f.fP[j]).kind=10)) D1 m;refine dY (λh10=>iD m rfl ai (BN (gY ai (C _ ?_)))) λh10=>C _ ?_
 grind
 grind
 subst hJ;unfold qW;rw[List.take_length];exact dY (λh=>absurd h aH) λ_=>hk _ (by rw[htk,h2,h3])
 subst hI;unfold qX;rw[List.take_length];exact dY (λh=>absurd h (by show ¬ (List.length _:Int)<(List.length _:Int);omega)) λ_=>iD n rfl d1 (BN (gY d1 (iD n rfl d2 (gY d2 (dX rfl)))))
end
theorem agh {α:Type}(p:α->Bool)(l:List α)(i:Nat)(hi:i<l.length)(T:p l[i]=true):(l.filter p)[((l.take i).filter p).length]?=some l[i]:=by
 have:l=l.take i++l[i]::l.drop (i+1):=by simp
 grind
theorem aka (f:eY)(stage:Int)(g:f.fP.length<=1048576):Pg (f30 f) stage=some (uO stage f.fP):=by
 unfold Pg;refine ok_eq (kM 0 f.fP.length (λi=>uO stage (f.fP.take i)=false) 0 rfl (Nat.zero_le _) ae rfl (λi k hi J hk=>?_) λk J=>?_)
 have t:=drop_take stage f.fP i hi;rw[J] at t
 have T:(decide (Kt (f.fP[i]).kind=stage)&&decide ((f.fP[i]).kind=10))=true->uO stage f.fP=true:=λh=>by
  grind[uO]
 unfold MG;refine dY (λ_=>gu (λb=>b=(decide (Kt (f.fP[i]).kind=stage)&&decide ((f.fP[i]).kind=10))) (λk5 I=>?_) λb C=>gq (λh=>dX (T (C ▸ h)).symm) λh=>hk ai) λh=>absurd (show(i:Int)<(f.fP.length:Int) by omega) h;exact fO i rfl hi (dY (λ(h:(f.fP[i]).kind=10)=>fO i rfl hi (eP (acC _) (I _ (by rw[decide_eq_true h,Bool.and_true];rfl)))) λ(h:¬ (f.fP[i]).kind=10)=>I _ ai)
 unfold MG;rw[List.take_length] at J;exact dY (λh=>absurd h aH) λ_=>dX J.symm
theorem aea (f:eY)(stage y:Int)(g:jP->Int)(t:eF)(hl:f.fP.length<=1048576)(hv:∀ m∈f.fP,rX m/\lS m=some true)(C:jX t) :
  Gp t (f30 f) stage y ((f.fP.filter λm=>decide (Kt m.kind=stage)).map g)=some (xe stage y g f.fP t):=by
 unfold Gp;refine ok_eq (kF (λu=>∃ i:Nat,i<=f.fP.length/\u=(xe stage y g (f.fP.take i) t,((((f.fP.take i).filter λm=>decide (Kt m.kind=stage)).length:Nat):Int),(i:Int))) (λu=>f.fP.length-u.2.2.toNat) ⟨0,Nat.zero_le _,rfl⟩ (by show f.fP.length-_<18446744073709551616;omega) ?_)
 rintro _ k ⟨i,hi',rfl⟩ hk
 unfold Ns;refine dY (λh=>?_) λh=>?_
 have hi:i<f.fP.length:=by grind[eU,f30]
 have T:=hv _ (List.getElem_mem hi);have tk:=Zr stage y g f.fP t i hi;obtain⟨x,_,I,_⟩:=ap1 _ f.fP[i] y (g f.fP[i]) (VZ stage y g (f.fP.take i) (λm h=>hv m (List.mem_of_mem_take h)) t C) T.1 T.2;rw[I] at tk;have ln:((f.fP.take i).filter λm=>decide (Kt m.kind=stage)).length<=i:=Nat.le_trans (List.length_filter_le _ _) aU;refine gu (λp=>p=(xe stage y g (f.fP.take (i+1)) t,((((f.fP.take (i+1)).filter λm=>decide (Kt m.kind=stage)).length:Nat):Int))) (λk5 J=>?_) λp hp=>hk _ ⟨i+1,hi,by grind[iY]⟩ ?_
 refine fO i rfl hi (eP (acC _) ?_);refine dY (λhs=>?_) λhs=>J _ ?_
 have hs:Kt (f.fP[i]).kind=stage:=hs;have fa:=agh (λm=>decide (Kt m.kind=stage)) f.fP i hi (decide_eq_true hs);rw[decide_eq_true hs] at tk;refine fO i rfl hi (eP (x:=g f.fP[i]) (by grind[qH]) (eP I (J _ ?_)))
 grind[gQ,iY]
 have hs:¬ Kt (f.fP[i]).kind=stage:=hs
 grind[gQ]
 grind[iY]
 grind[eU,f30,dX]
section
variable {s:dZ}{L:List eY}(H:VA s L){w:eX}(W:WLK s L w){B:List Bool}{S:List (List Int)}
include H W
theorem alR {h:List Int}(J:ae7 s.objects.length h){i:Nat}(hi:i<s.objects.length):((s.objects[i]).id∈h.map (oid s))↔((i:Int)∈h):=by
 rw[List.mem_map];constructor
 rintro⟨x,T,e⟩
 obtain⟨I,C⟩:=J.2 x T;obtain⟨j,rfl⟩:=Int.eq_ofNat_of_zero_le I;have hj:j<s.objects.length:=by omega
 have e:(s.objects[j]).id=(s.objects[i]).id:=by grind[oid]
 rw[Np H.asc hi hj e.symm];exact T
 grind[oid]
theorem agi {n:Nat}(T:n<L.length)(stage:Int)(hb:B.length=L.length)(hs:S.length=L.length)
  (hr:((L[n]).fixed || (B.getD n false || !FT s w.dropped L[n]))=true->(bif B.getD n false then S.getD n [] else bif (L[n]).fixed || !FT s w.dropped L[n] then(ND s w.eG L[n]).map (oid s) else [])=(zJ s w L[n] n).map (oid s)) :
  su (v30 w B S) n stage=some (bif (L[n]).fixed || (B.getD n false || !FT s w.dropped L[n]) then v30 (appW s w L[n] n stage) (B.set n true) (S.set n ((zJ s w L[n] n).map (oid s))) else v30 w B S):=by
 have ho:=H.ho;have hL:=H.len;obtain⟨_,e1⟩:=ad8 (B:=B) (S:=S) H W T;obtain⟨_,y1⟩:=afe (B:=B) (S:=S) H W T;obtain⟨_,c1⟩:=Ll (B:=B) (S:=S) H W T hb;obtain⟨_,a1⟩:=Zq (B:=B) (S:=S) H W T hb hs;obtain⟨_,n1⟩:=Zo (B:=B) (S:=S) H W T stage;have I:=UI H W T;have hz:=H.f _ (List.getElem_mem T);have hv:=H.fv _ (List.getElem_mem T);have hml:=hz.2.2.1;have wa:=W.all;have wd:=W.drp;unfold su;rw[c1];cases C:((L[n]).fixed || (B.getD n false || !FT s w.dropped L[n]))
 rfl
 rw[a1,hr C,n1,y1];simp only[bnd];unfold appW;generalize zJ s w L[n] n=h at *;generalize U:L[n]=f at *;generalize hy:Ko s w.eG f=y at *;generalize hg:zi s w.eG f stage=g at *;have hmz:∀ m∈f.fP,rX m/\lS m=some true:=λm h=>⟨hz.2.2.2 m h,(hv.2 m h).1⟩
 have hin:=λi (hi:i<s.objects.length)=>alR H W I hi;have hlh:(h.map (oid s)).length<=2000000:=by have:=I.1;simp;omega
 generalize hset:h.map (oid s)=set at *;refine ok_eq ?_;have B1:n<(v30 w B S).begun.length:=by show n<B.length;omega
 have S1:n<(v30 w B S).sets.length:=by show n<S.length;omega
 refine iE rfl (iJ (by show(2*w.eG.length+192)*176<=_;omega) (by show w.eG.length<=_;omega) (iJ (by show(2*B.length+192)*1<=_;omega) (by show B.length<=_;omega) (iJ (by show(2*S.length+192)*24<=_;omega) (by show S.length<=_;omega) (iJ (by show(2*w.dropped.length+192)*1<=_;omega) (by show w.dropped.length<=_;omega) (iD n rfl B1 (BN (gY B1 (iD n rfl S1 (gY S1 ?_)))))))));refine jA 0 s.objects.length (λi t=>t=(w.eG.mapIdx (λk t=>bif decide (k<i)&&decide ((k:Int)∈h) then xe stage y g f.fP t else t),w.dropped.mapIdx λk d=>d || (uO stage f.fP&&(decide (k<i)&&decide ((k:Int)∈h))))) 0 rfl (Nat.zero_le _) ae ?_ (λi t k hi hI hk=>?_) λt k hI=>?_
 refine Prod.ext (List.ext_getElem (by simp[v30]) λi h1 h2=>by simp[v30]) (List.ext_getElem (by simp[v30]) λi h1 h2=>by simp[v30])
 ·subst hI;have it:i<w.eG.length:=by omega
  have id:i<w.dropped.length:=by omega
  have J:((i:Int) ∉ h)->Ok (λr=>r=v30 ⟨w.s,w.forces,Du h (xe stage y g f.fP) w.eG,Fe h (uO stage f.fP) w.dropped,w.done.set n true,w.hits.set n h⟩ (B.set n true) (S.set n set)) (k (fK (i:Int) 1,w.eG.mapIdx (λk t=>bif decide (k<i)&&decide ((k:Int)∈h) then xe stage y g f.fP t else t),w.dropped.mapIdx λk d=>d || (uO stage f.fP&&(decide (k<i)&&decide ((k:Int)∈h))))):=λhni=>by
   refine hk _ (Prod.ext (List.ext_getElem aj λj h1 h2=>?_) (List.ext_getElem aj λj h1 h2=>?_))<;>grind
  unfold sW;simp only[show(v30 w B S).s=s from W.st,show(v30 w B S).all=w.eG from rfl,e1];refine dY (λ_=>fO i rfl hi (eP (aff set _ hlh) ?_)) λh'=>absurd (show(i:Int)<(s.objects.length:Int) by omega) h'
  by_cases hm:(i:Int)∈h
  rw[decide_eq_true ((hin i hi).2 hm)]
  have hT:(w.eG.mapIdx (λk t=>bif decide (k<i)&&decide ((k:Int)∈h) then xe stage y g f.fP t else t)).set i (xe stage y g f.fP w.eG[i])=w.eG.mapIdx (λk t=>bif decide (k<i+1)&&decide ((k:Int)∈h) then xe stage y g f.fP t else t):=by
   refine List.ext_getElem aj λj h1 h2=>?_;rw[List.getElem_set]
   grind
  have hD:(bif uO stage f.fP then(w.dropped.mapIdx λk d=>d || (uO stage f.fP&&(decide (k<i)&&decide ((k:Int)∈h)))).set i true else w.dropped.mapIdx λk d=>d || (uO stage f.fP&&(decide (k<i)&&decide ((k:Int)∈h))))=w.dropped.mapIdx λk d=>d || (uO stage f.fP&&(decide (k<i+1)&&decide ((k:Int)∈h))):=by
   cases uO stage f.fP
   simp
   refine List.ext_getElem aj λj h1 h2=>?_;simp only[cond_true];rw[List.getElem_set]
   by_cases ej:i=j
   grind
   simp[ej,show(j<i+1)=(j<i) by simp;omega]
  refine iE rfl (fO i rfl it (eP rfl (eP (aea f stage y g _ hml hmz (W.tr _ (List.getElem_mem it))) (iD i rfl (by simp[it]) (gY (by simp[it]) (eP rfl (eP (aka f stage hml) (gq (λhd=>iD i rfl (by simp[id]) (BN (gY (by simp[id]) (hk _ ?_)))) λhd=>hk _ ?_))))))))
  grind
  grind
  rw[decide_eq_false (λh'=>hm ((hin i hi).1 h'))];exact J hm
 subst hI;unfold sW;rw[show(v30 w B S).s=s from W.st];refine dY (λh=>absurd h aF) λ_=>dX ?_
 have hT:(w.eG.mapIdx (λk t=>bif decide (k<s.objects.length)&&decide ((k:Int)∈h) then xe stage y g f.fP t else t))=Du h (xe stage y g f.fP) w.eG:=by
  refine List.ext_getElem (by simp[Du]) λj h1 h2=>?_
  grind[Du]
 have hD:(w.dropped.mapIdx λk d=>d || (uO stage f.fP&&(decide (k<s.objects.length)&&decide ((k:Int)∈h))))=Fe h (uO stage f.fP) w.dropped:=by
  refine List.ext_getElem (by simp[Fe]) λj h1 h2=>?_;have:j<s.objects.length:=by grind
  simp[Fe,this]
 simp only[hT,hD];simp only[v30,W.st];rfl
end
structure VR (s:dZ)(L:List eY)(w:eX)(B:List Bool)(S:List (List Int)):Prop where
 bl:B.length=L.length
 sl:S.length=L.length
 nd:∀ n,n<L.length->(w.hits.getD n []).Nodup
 r:∀ n (h:n<L.length),(B.getD n false=w.done.getD n false/\(w.done.getD n false=true->S.getD n []=(w.hits.getD n []).map (oid s))) \/
  (w.done.getD n false=true/\B.getD n false=false/\w.hits.getD n []=[]/\(L[n]).fixed=false/\FT s w.dropped L[n]=true)
def Yf (s:dZ)(D:List Bool)(f:eY)(d:Bool):Bool:=f.fixed || (d || !FT s D f)
def akb (s:dZ)(w:eX)(f:eY)(b:Bool)(t:List Int):List Int:=bif b then t else bif f.fixed || !FT s w.dropped f then(ND s w.eG f).map (oid s) else []
theorem acG {α:Type}(l:List α)(n m:Nat)(x d:α):(l.set n x).getD m d=if n=m/\n<l.length then x else l.getD m d:=by
 grind
theorem XK (s:dZ)(h:List Int)(b:Bool)(D:List Bool)(f:eY)(T:FT s D f=true):FT s (Fe h b D) f=true:=by
 unfold FT at *;simp only[Bool.and_eq_true] at *
 grind[Fe]
theorem ait {f:Int->Int}:∀ a b:List Int,(∀ x∈a,∀ y∈b,f x=f y->x=y)->a.map f=b.map f->a=b
 | [],[],_,_=>rfl
 | [],_::_,_,h=>by simp at h
 | _::_,[],_,h=>by simp at h
 | x::a,y::b,h,e=>by
  simp only[List.map_cons,List.cons.injEq] at e;rw[h x aj y aj e.1,ait a b (λu hu v hv=>h u (by simp[hu]) v (by simp[hv])) e.2]
theorem aa9 (a b:List Int)(C:a.length<=2000000):slices_Equal_int a b=some (decide (a=b)):=by
 unfold slices_Equal_int;refine ok_eq (rQ (λh=>dX ?_) λh=>?_)
 grind
 have J:a.length=b.length:=by grind[eU]
 refine kM 0 a.length (λi=>∀ j (h1:j<a.length) (h2:j<b.length),j<i->a[j]=b[j]) 0 rfl (Nat.zero_le _) ae (λ_ _ _ h=>by omega) (λi k hi T hk=>?_) λk T=>?_
 unfold uT;refine dY (λ_=>fO i rfl hi (fO i rfl ae (rQ (λe=>dX (decide_eq_false λI=>e (by subst I;rfl)).symm) λe=>hk λj h1 h2 hj=>?_))) λh=>absurd (show(i:Int)<(a.length:Int) by omega) h
 grind
 unfold uT;exact dY (λh=>absurd h (by show ¬ (a.length:Int)<(a.length:Int);omega)) λ_=>dX (decide_eq_true (List.ext_getElem J λj h1 h2=>T j h1 h2 h1)).symm
theorem aiu (a b:List Int)(T:a.length<=2000000):um a b=some (decide (a=b)):=by
 rw[<- aa9 a b T];unfold um slices_Equal_int Jj uT;rfl
theorem agj {α:Type}(p:α->Bool)(g T : α->Int)(l:List α)(h:∀ x∈l,p x=false->g x=T x):(l.filter p).map g=(l.filter p).map T↔l.map g=l.map T:=by
 grind[List.map_inj_left]
def aeb (s:dZ)(T:List eF)(f:eY)(stage:Int):List Int:=f.fP.map (zi s T f stage)
def Yg (s:dZ)(w v:eX)(f:eY)(n:Nat)(stage:Int):Bool := !(Yf s w.dropped f (w.done.getD n false)==Yf s v.dropped f (v.done.getD n false)) || (!decide (zJ s w f n=zJ s v f n) || !decide (aeb s w.eG f stage=aeb s v.eG f stage))
theorem afh (x a b:Bool):br (x==false) (some true) (bnd (some a) λy=>br (y==false) (some true) (bnd (some b) λz=>some (z==false)))=some (!x || (!a || !b)):=by cases x<;>cases a<;>cases b<;>rfl
section
variable {s:dZ}{L:List eY}(H:VA s L){w:eX}(W:WLK s L w){B:List Bool}{S:List (List Int)}(V:VR s L w B S)
include H W V
theorem aba {n:Nat}(T:n<L.length):akb s w L[n] (B.getD n false) (S.getD n [])=(zJ s w L[n] n).map (oid s):=by
 unfold akb zJ;rcases V.r n T with ⟨h1,h2⟩|⟨h1,h2,J,C,I⟩<;>grind
theorem V3 {n:Nat}(C:n<L.length)(stage:Int):WLK s L (appW s w L[n] n stage):=by
 have hz:=H.f _ (List.getElem_mem C);have hv:=H.fv _ (List.getElem_mem C);refine⟨W.st,W.l,by simp[appW,Du,W.all],λt g=>?_,by simp[appW,W.don],by simp[appW,W.hit],λx T=>?_,by simp[appW,Fe,W.drp]⟩
 obtain⟨i,hi,e⟩:=List.getElem_of_mem g;have J : i<w.eG.length:=by simpa [appW,Du] using hi
 have h0:=W.tr _ (List.getElem_mem J);have:t=bif decide ((i:Int)∈zJ s w L[n] n) then xe stage (Ko s w.eG L[n]) (zi s w.eG L[n] stage) (L[n]).fP w.eG[i] else w.eG[i]:=by grind[appW,Du]
 rw[this];cases decide ((i:Int)∈zJ s w L[n] n)
 exact h0
 exact VZ _ _ _ _ (λm I=>⟨hz.2.2.2 m I,(hv.2 m I).1⟩) _ h0
 rcases List.mem_or_eq_of_mem_set T with T|T
 exact W.alK x T
 grind[UI]
theorem UJ {n:Nat}(C:n<L.length)(stage:Int):∃ J I,su (v30 w B S) n stage=some (v30 (appW s w L[n] n stage) J I)/\VR s L (appW s w L[n] n stage) J I/\∀ i,i≠n->J.getD i false=B.getD i false:=by
 have e:=agi H W (B:=B) (S:=S) C stage V.bl V.sl (λ_=>aba H W V C);have va:=aba H W V C;have hnd:=ais H W C (V.nd n C);have wd:=W.don;have wh:=W.hit
 have other:∀ (J : List Bool) (I : List (List Int)),(∀ i,i≠n->J.getD i false=B.getD i false/\I.getD i []=S.getD i [])->∀ i (h:i<L.length),i≠n ->
   ((J.getD i false=(appW s w L[n] n stage).done.getD i false/\((appW s w L[n] n stage).done.getD i false=true->I.getD i []=((appW s w L[n] n stage).hits.getD i []).map (oid s))) \/
   ((appW s w L[n] n stage).done.getD i false=true/\J.getD i false=false/\(appW s w L[n] n stage).hits.getD i []=[]/\(L[i]).fixed=false/\FT s (appW s w L[n] n stage).dropped L[i]=true)):=by
  intro J I t i h hi;obtain⟨b1,b2⟩:=t i hi;have c1:(appW s w L[n] n stage).done.getD i false=w.done.getD i false:=by show(w.done.set n true).getD i false=_;grind
  have c2:(appW s w L[n] n stage).hits.getD i []=w.hits.getD i []:=by show(w.hits.set n _).getD i []=_;grind
  rw[b1,b2,c1,c2];rcases V.r i h with h1|⟨h1,h2,h3,h4,h5⟩
  exact .inl h1
  exact .inr ⟨h1,h2,h3,h4,XK _ _ _ _ _ h5⟩
 have c1:(appW s w L[n] n stage).done.getD n false=true:=by show(w.done.set n true).getD n false=_;grind
 have c2:(appW s w L[n] n stage).hits.getD n []=zJ s w L[n] n:=by show(w.hits.set n _).getD n []=_;grind
 have nd:∀ i,i<L.length->((appW s w L[n] n stage).hits.getD i []).Nodup:=by
  intro i hi
  by_cases h:i=n
  grind
  have:(appW s w L[n] n stage).hits.getD i []=w.hits.getD i []:=by show(w.hits.set n _).getD i []=_;grind
  rw[this];exact V.nd i hi
 cases T:((L[n]).fixed || (B.getD n false || !FT s w.dropped L[n])) with
 | true=>
  rw[T] at e;refine⟨_,_,e,⟨by simp[V.bl],by simp[V.sl],nd,λi hi=>?_⟩,λi hi=>by grind⟩
  by_cases h:i=n
  subst h;rw[c1,c2,acG,if_pos ⟨rfl,by rw[V.bl];exact hi⟩,acG,if_pos ⟨rfl,by rw[V.sl];exact hi⟩]
  grind
  grind
 | false=>
  rw[T] at e;simp only[Bool.or_eq_false_iff,Bool.not_eq_false'] at T;obtain⟨x1,x2,g⟩:=T
  have he:zJ s w L[n] n=[]:=by
   simp_all[akb]
  refine⟨B,S,?_,⟨V.bl,V.sl,nd,λi hi=>?_⟩,λ_ _=>rfl⟩
  simp_all[v30,appW,acE,acF]
  by_cases h:i=n
  subst h;exact .inr ⟨c1,x2,by rw[c2,he],x1,XK _ _ _ _ _ g⟩
  exact other _ _ (λ_ _=>⟨rfl,rfl⟩) i hi h
theorem akc {i j:Nat}(hi:i<L.length)(hj:j<L.length)(stage:Int):DY (v30 w B S) i j stage=some (!decide (i=j)&&Yg s w (appW s w L[j] j stage) L[i] i stage):=by
 unfold DY
 by_cases I:i=j
 grind[br]
 have g:¬ (i:Int)=(j:Int):=by omega
 obtain⟨B',S',e,V',hB⟩:=UJ H W V hj stage;have C:=V3 H W V hj stage;have hz:=(H.f _ (List.getElem_mem hi)).2.2.1;rw[decide_eq_false g,e,decide_eq_false I];obtain⟨_,a1⟩:=Ll (B:=B) (S:=S) H W hi V.bl;obtain⟨_,a2⟩:=Ll (B:=B') (S:=S') H C hi V'.bl;obtain⟨_,f1⟩:=Zq (B:=B) (S:=S) H W hi V.bl V.sl;obtain⟨_,f2⟩:=Zq (B:=B') (S:=S') H C hi V'.bl V'.sl;obtain⟨_,n1⟩:=Zo (B:=B) (S:=S) H W hi stage;obtain⟨_,n2⟩:=Zo (B:=B') (S:=S') H C hi stage;have v1:=aba H W V hi;have v2:=aba H C V' hi;unfold akb at v1 v2;rw[v1] at f1;rw[v2] at f2;have g1:=UI H W hi;have g2:=UI H C hi;have hB:=hB i I;have dn:(appW s w L[j] j stage).done.getD i false=w.done.getD i false:=by show(w.done.set j true).getD i false=_;grind
 have t:(((L[i]).fixed || (B.getD i false || !FT s w.dropped L[i]))==((L[i]).fixed || (B'.getD i false || !FT s (appW s w L[j] j stage).dropped L[i])))=(Yf s w.dropped L[i] (w.done.getD i false)==Yf s (appW s w L[j] j stage).dropped L[i] ((appW s w L[j] j stage).done.getD i false)):=by
  unfold Yf;rw[hB,dn];rcases V.r i hi with ⟨h1,_⟩|⟨h1,h2,h3,h4,h5⟩<;>grind[appW,XK]
 have J:decide ((zJ s w L[i] i).map (oid s)=(zJ s (appW s w L[j] j stage) L[i] i).map (oid s))=decide (zJ s w L[i] i=zJ s (appW s w L[j] j stage) L[i] i):=by
  refine decide_eq_decide.2 ⟨ait _ _ λx hx y hy e=>?_,λe=>by rw[e]⟩;obtain⟨x1,x2⟩:=g1.2 x hx;obtain⟨y1,y2⟩:=g2.2 y hy;obtain⟨a,rfl⟩:=Int.eq_ofNat_of_zero_le x1;obtain⟨b,rfl⟩:=Int.eq_ofNat_of_zero_le y1;have ha:a<s.objects.length:=by omega
  have hb:b<s.objects.length:=by omega
  have e:(s.objects[a]).id=(s.objects[b]).id:=by simp_all[oid]
  rw[Np H.asc ha hb e]
 have T:decide (((L[i]).fP.filter λm=>decide (Kt m.kind=stage)).map (zi s w.eG L[i] stage)=((L[i]).fP.filter λm=>decide (Kt m.kind=stage)).map (zi s (appW s w L[j] j stage).eG L[i] stage))=decide ((L[i]).fP.map (zi s w.eG L[i] stage)=(L[i]).fP.map (zi s (appW s w L[j] j stage).eG L[i] stage)):=decide_eq_decide.2 (agj (λm=>decide (Kt m.kind=stage)) (zi s w.eG L[i] stage) (zi s (appW s w L[j] j stage).eG L[i] stage) (L[i]).fP (λm hm hp=>by
  grind[zi]))
 unfold Yg aeb;rw[<- t,<- J,<- T];have l1:=aiu ((zJ s w L[i] i).map (oid s)) ((zJ s (appW s w L[j] j stage) L[i] i).map (oid s)) (by have:=g1.1;simp;omega);have l2:=aiu (((L[i]).fP.filter λm=>decide (Kt m.kind=stage)).map (zi s w.eG L[i] stage)) (((L[i]).fP.filter λm=>decide (Kt m.kind=stage)).map (zi s (appW s w L[j] j stage).eG L[i] stage)) ai;simp only[bnd,a1,a2,f1,f2,n1,n2,l1,l2];exact afh _ _ _
theorem akN {i j:Nat}(hi:i<L.length)(hj:j<L.length)(stage:Int):∃ x y,mD w i stage=some x/\mD (appW s w L[j] j stage) i stage=some y/\uU x y=some (Yg s w (appW s w L[j] j stage) L[i] i stage):=by
 obtain⟨I,C,e,J,hB⟩:=UJ H W V hj stage;have T:=V3 H W V hj stage;have g:=(H.f _ (List.getElem_mem hi)).2.2.1;obtain⟨a1,_⟩:=Ll (B:=B) (S:=S) H W hi V.bl;obtain⟨a2,_⟩:=Ll (B:=I) (S:=C) H T hi J.bl;obtain⟨f1,_⟩:=Zq (B:=B) (S:=S) H W hi V.bl V.sl;obtain⟨f2,_⟩:=Zq (B:=I) (S:=C) H T hi J.bl J.sl;obtain⟨n1,_⟩:=Zo (B:=B) (S:=S) H W hi stage;obtain⟨t,_⟩:=Zo (B:=I) (S:=C) H T hi stage;have g1:=UI H W hi;refine⟨⟨_,_,_⟩,⟨_,_,_⟩,by unfold mD;rw[a1,f1,n1];rfl,by unfold mD;rw[a2,f2,t];rfl,?_⟩;unfold uU Yg aeb;simp only;show br ((Yf s w.dropped L[i] (w.done.getD i false)==Yf s (appW s w L[j] j stage).dropped L[i] ((appW s w L[j] j stage).done.getD i false))==false) _ (bnd (slices_Equal_int (zJ s w L[i] i) (zJ s (appW s w L[j] j stage) L[i] i)) _)=_;rw[aa9 _ _ (by have:=g1.1;omega),aa9 _ _ ai];exact afh _ _ _
end
theorem alS (x:Int):iM .and .i64 x 0=0:=by
 show IntKind.i64.wrap (((BitVec.ofInt 64 x &&& BitVec.ofInt 64 0).toNat:Nat):Int)=0;rw[show BitVec.ofInt 64 0=0#64 from rfl,BitVec.and_zero];rfl
theorem or_zero {a b:Int}(J:0<=a/\a<=63)(T:0<=b/\b<=63)(h:iM .or .i64 a b=0):a=0/\b=0:=by
 obtain⟨x,rfl⟩:=Int.eq_ofNat_of_zero_le J.1;obtain⟨y,rfl⟩:=Int.eq_ofNat_of_zero_le T.1;have h1:IntKind.i64.wrap (((BitVec.ofInt 64 (x:Int) ||| BitVec.ofInt 64 (y:Int)).toNat:Nat):Int)=0:=h;rw[BitVec.toNat_or,BitVec.ofInt_natCast,BitVec.ofInt_natCast,BitVec.toNat_ofNat,BitVec.toNat_ofNat,Nat.mod_eq_of_lt ae,Nat.mod_eq_of_lt ae] at h1;have I:x<=x ||| y:=Nat.left_le_or
 have l2:y<=x ||| y:=Nat.right_le_or
 have C:x ||| y<2 ^ 6:=Nat.or_lt_two_pow ae ae
 grind[wrap_in]
structure Ch (stage:Int)(t t' : eF):Prop where
 cost:t'.cost=t.cost
 control:stage≠1->t'.control=t.control
 line:stage≠2->t'.line=t.line
 gZ:stage≠3->t'.gZ=t.gZ
 keys:stage≠4->t'.keys=t.keys
 pt:stage<=4->t'.power=t.power/\t'.gK=t.gK
theorem Ch.refl (stage:Int)(t:eF):Ch stage t t:=⟨rfl,λ_=>rfl,λ_=>rfl,λ_=>rfl,λ_=>rfl,λ_=>⟨rfl,rfl⟩⟩
theorem Ch.trans {stage:Int}{a b c:eF}(h:Ch stage a b)(h2:Ch stage b c):Ch stage a c :=
 ⟨h2.cost.trans h.cost,λe=>(h2.control e).trans (h.control e),λe=>(h2.line e).trans (h.line e),λe=>(h2.gZ e).trans (h.gZ e),λe=>(h2.keys e).trans (h.keys e),λe=>⟨(h2.pt e).1.trans (h.pt e).1,(h2.pt e).2.trans (h.pt e).2⟩⟩
theorem akO (t:eF)(m:jP)(y n:Int){x:eF}(h:qU t m y n=some x):Ch (Kt m.kind) t x:=by
 unfold qU at h
 cases h0:lS m with
 | none=>rw[h0] at h;cases h
 | some b=>
 rw[h0] at h
 cases b with
 | false=>cases h;exact Ch.refl _ _
 | true=>
 simp only[bnd,br] at h;generalize hk:m.kind=k at h
 by_cases h1:k=1
 subst h1;cases h;exact⟨rfl,λh=>absurd rfl h,λ_=>rfl,λ_=>rfl,λ_=>rfl,λ_=>⟨rfl,rfl⟩⟩
 by_cases h2:k=2
 subst h2;cases h;exact⟨rfl,λ_=>rfl,λh=>absurd rfl h,λ_=>rfl,λ_=>rfl,λ_=>⟨rfl,rfl⟩⟩
 by_cases h3:k=3
 subst h3;cases h;exact⟨rfl,λ_=>rfl,λh=>absurd rfl h,λ_=>rfl,λ_=>rfl,λ_=>⟨rfl,rfl⟩⟩
 by_cases h4:k=4
 subst h4;cases h;exact⟨rfl,λ_=>rfl,λh=>absurd rfl h,λ_=>rfl,λ_=>rfl,λ_=>⟨rfl,rfl⟩⟩
 by_cases h5:k=5
 subst h5;simp only[show decide ((5:Int)=1)=false from rfl,show decide ((5:Int)=2)=false from rfl,show decide ((5:Int)=3)=false from rfl,show decide ((5:Int)=4)=false from rfl,show decide ((5:Int)=5)=true from rfl] at h
 cases ha:yj t.line m.sub with
 | none=>grind
 | some l=>rw[ha] at h;cases h;exact⟨rfl,λ_=>rfl,λh=>absurd rfl h,λ_=>rfl,λ_=>rfl,λ_=>⟨rfl,rfl⟩⟩
 by_cases h6:k=6
 subst h6;cases h;exact⟨rfl,λ_=>rfl,λ_=>rfl,λh=>absurd rfl h,λ_=>rfl,λ_=>⟨rfl,rfl⟩⟩
 by_cases h7:k=7
 subst h7;cases h;exact⟨rfl,λ_=>rfl,λ_=>rfl,λh=>absurd rfl h,λ_=>rfl,λ_=>⟨rfl,rfl⟩⟩
 by_cases h8:k=8
 subst h8;cases h;exact⟨rfl,λ_=>rfl,λ_=>rfl,λ_=>rfl,λh=>absurd rfl h,λ_=>⟨rfl,rfl⟩⟩
 by_cases h9:k=9
 subst h9;cases h;exact⟨rfl,λ_=>rfl,λ_=>rfl,λ_=>rfl,λh=>absurd rfl h,λ_=>⟨rfl,rfl⟩⟩
 by_cases C:k=10
 subst C;cases h;exact⟨rfl,λ_=>rfl,λ_=>rfl,λ_=>rfl,λh=>absurd rfl h,λ_=>⟨rfl,rfl⟩⟩
 by_cases g:k=11
 subst g;obtain⟨v,T,_⟩:=xB n;rw[OT] at T;rw[T] at h;cases h;exact⟨rfl,λ_=>rfl,λ_=>rfl,λ_=>rfl,λ_=>rfl,λh=>absurd h aJ⟩
 by_cases h12:k=12
 subst h12;cases h;exact⟨rfl,λ_=>rfl,λ_=>rfl,λ_=>rfl,λ_=>rfl,λh=>absurd h aJ⟩
 by_cases J:k=13
 subst J;obtain⟨v,T,_⟩:=Bv t.power m.n;obtain⟨u,eu,_⟩:=Bv t.gK m.m;rw[add_eq] at T eu;rw[T,eu] at h;cases h;exact⟨rfl,λ_=>rfl,λ_=>rfl,λ_=>rfl,λ_=>rfl,λh=>absurd h aJ⟩
 by_cases I:k=14
 subst I;cases h;exact⟨rfl,λ_=>rfl,λ_=>rfl,λ_=>rfl,λ_=>rfl,λh=>absurd h aJ⟩
 simp_all[Ch.refl]
theorem afi (stage y:Int)(g:jP->Int):∀ (ms:List jP) (t:eF),Ch stage t (xe stage y g ms t)
 | [],t=>Ch.refl _ _
 | m::ms,t=>by
  refine Ch.trans ?_ (afi stage y g ms _);dsimp only
  by_cases h:Kt m.kind=stage
  rw[decide_eq_true h];cases e:qU t m y (g m)<;>grind[Ch.refl,akO]
  grind[Ch.refl]
theorem akd {stage y:Int}{g:jP->Int}{ms:List jP}(h:List Int)(T:List eF)(k:Nat):Ch stage (T.getD k jw) ((Du h (xe stage y g ms) T).getD k jw):=by
 grind[Du,Ch.refl,afi]
structure Ins (stage:Int)(f:iO):Prop where
 who:stage=1->f.who=0
 types:stage=2->f.types=0/\f.iG=0/\gp .neq f.sub (bs [])=false
 gZ:stage=3->f.gZ=0/\f.gX=0
 keys:stage=4->f.keys=0
 pt:stage≠1->stage≠3->stage≠4->f.power.kind=0/\f.gK.kind=0
theorem afj (f:iO)(stage:Int)(hv:pO f=some true)(h:lY f stage=some false):Ins stage f:=by
 obtain⟨_,⟨⟨t1,t2,_⟩,c1,c2,_⟩,_⟩:=XG f hv rfl;unfold lY at h;simp only[jn] at h
 have np:∀ {x y:Bool},br x (some true) (some y)=some false->x=false/\y=false:=by
  simp_all[br]
 by_cases e1:stage=1
 subst e1;refine⟨λ_=>?_,by omega,by omega,by omega,by omega⟩
 grind[br]
 by_cases I:stage=2
 ·subst I
  by_cases o:iM .or .i64 f.types f.iG=0
  ·obtain⟨C,o2⟩:=or_zero t1 t2 o
   by_cases p:f.power.kind=0<;>by_cases q:f.gK.kind=0<;>cases hs:gp .neq f.sub (bs [])<;>first
    | (exfalso;simp[br,p,q,o,hs] at h;done)
    | exact⟨by omega,λ_=>⟨C,o2,hs⟩,by omega,by omega,λ_ _ _=>⟨p,q⟩⟩
  grind[br]
 by_cases T:stage=3
 subst T;refine⟨by omega,by omega,λ_=>or_zero ⟨c1.1,by omega⟩ ⟨c2.1,by omega⟩ ?_,by omega,by omega⟩
 grind[br]
 by_cases J:stage=4
 subst J;refine⟨by omega,by omega,by omega,λ_=>?_,by omega⟩
 grind[br]
 refine⟨λh=>absurd h e1,λh=>absurd h I,λh=>absurd h T,λh=>absurd h J,λ_ _ _=>?_⟩
 grind[br]
theorem afk (o:fD){t T : eF}{y J : Int}(c:Int){f:iO}{stage:Int}(hi:Ins stage f)(hc:Ch stage t T)(hy:stage≠1->J=y):qF o T J c f=qF o t y c f:=by
 have w:RV T.control J f.who=RV t.control y f.who:=by
  by_cases e:stage=1
  rw[hi.who e];rfl
  rw[hc.control e,hy e]
 have sh:∀ a:Int,kV a 0=some false:=λa=>by simp[kV,alS]
 have a1:kV T.line.types f.types=kV t.line.types f.types/\kV T.line.types f.iG=kV t.line.types f.iG:=by
  by_cases e:stage=2
  rw[(hi.types e).1,(hi.types e).2.1];grind
  rw[hc.line e];grind
 have a2:kV T.gZ f.gZ=kV t.gZ f.gZ/\kV T.gZ f.gX=kV t.gZ f.gX:=by
  by_cases e:stage=3
  rw[(hi.gZ e).1,(hi.gZ e).2];grind
  rw[hc.gZ e];grind
 have k:MF T.keys f.keys=MF t.keys f.keys:=by
  by_cases e:stage=4
  rw[hi.keys e];unfold MF;rw[alS,alS]
  rw[hc.keys e]
 have b:AX T f=AX t f:=by
  unfold AX;rw[hc.cost]
  by_cases e:stage=1\/stage=3\/stage=4
  rw[hc.line ae,(hc.pt ae).1,(hc.pt ae).2]
  obtain⟨p,q⟩:=hi.pt ae ae ae
  grind[kV,bnd,br]
 unfold qF;simp only[w,a1.1,a1.2,a2.1,a2.2,k,b]
 cases hs:gp .neq f.sub (bs []) with
 | false=>simp only[br]
 | true=>
  have e:stage≠2:=λe=>by rw[(hi.types e).2.2] at hs;cases hs
  rw[hc.line e]
end Go.Proofs.YtchmoabpofnbaaaGreat
