import Derived.Lib.IndexMore
import Derived.KernelRfl
import Derived.Test.YtchmoabpofnbaaaGreatC107
import Derived.Test.YtchmoabpofnbaaaGreatC108
set_option linter.all false
namespace Go.Proofs.YtchmoabpofnbaaaGreat
open Go Go.Pv
set_option maxRecDepth 100000
theorem NY (n:Int):pz n=oD n:=by
 unfold pz oD
 by_cases h1:1000000<n
 rw[decide_eq_true h1,if_neg (by omega:¬ n < -1000000),if_pos h1];rfl
 rw[decide_eq_false h1]
 by_cases h2:n < -1000000
 rw[decide_eq_true h2,if_pos h2];rfl
 rw[decide_eq_false h2,if_neg h2,if_neg h1];rfl
theorem add_eq (a b:Int):DX a b=nR a b:=by grind[DX,nR,NY]
theorem sub_eq (a b:Int):OC a b=Vb a b:=by grind[OC,Vb,NY]
theorem mul_eq (a b:Int):OD a b=FW a b:=by grind[OD,FW,NY]
theorem abz (c:Nk Int):wH c=Gp c:=by unfold wH Gp;rw[sub_eq]
theorem agO (b:rV)(n:Int):Dk b n=Ad b n:=rfl
theorem has_eq (m k:Int):nz m k=Ea m k:=rfl
theorem abA (k:Int):uP k=wJ k:=by
 unfold uP wJ
 by_cases h:11<=k/\k<=14
 obtain⟨h1,h2⟩:=h;have:k=11\/k=12\/k=13\/k=14:=by omega
 rcases this with rfl|rfl|rfl|rfl<;>rfl
 have e1:decide (k=11)=false:=decide_eq_false ae;have I:decide (k=12)=false:=decide_eq_false ae;have J:decide (k=13)=false:=decide_eq_false ae;have T:decide (k=14)=false:=decide_eq_false ae;rw[e1,I,J,T];rfl
theorem TQ (l:List ByteArray)(s:ByteArray)(J:l.length<=2000000):Ok (λr=>(s ∉ l/\r=-1)\/(s∈l/\0<=r)) (zY l s):=by
 unfold zY;refine ok_for1 0 l.length (λi=>s ∉ l.take i) 0 rfl (Nat.zero_le _) ae aF (λi k hi T hk=>?_) λk T=>?_
 unfold Fh;refine ok_brd (λ_=>ok_ixL i rfl hi (ok_br (λe=>ok_some (.inr ⟨?_,by omega⟩)) λe=>hk ?_)) λh=>absurd (show(i:Int)<(l.length:Int) by omega) h
 grind[fQ]
 grind[fQ,take_succ_get]
 unfold Fh;rw[nM] at T;exact ok_brd (λh=>absurd h aB) λ_=>ok_some (.inl ⟨T,rfl⟩)
theorem ae0 (l:List ByteArray)(s:ByteArray)(J:l.length<=2000000):Ok (λr=>(s ∉ l/\r=-1)\/(s∈l/\0<=r)) (slices_Index_string l s):=by
 unfold slices_Index_string;refine ok_for1 0 l.length (λi=>s ∉ l.take i) 0 rfl (Nat.zero_le _) ae aF (λi k hi T hk=>?_) λk T=>?_
 unfold rq;refine ok_brd (λ_=>ok_ixL i rfl hi (ok_br (λe=>ok_some (.inr ⟨?_,by omega⟩)) λe=>hk ?_)) λh=>absurd (show(i:Int)<(l.length:Int) by omega) h
 grind[fQ]
 grind[fQ,take_succ_get]
 unfold rq;rw[nM] at T;exact ok_brd (λh=>absurd h aB) λ_=>ok_some (.inl ⟨T,rfl⟩)
theorem Yy (l:rX)(s:ByteArray)(T:l.subs.length<=2000000):og l s=Du l s:=by
 classical
 have e1:og l s=some (decide (s∈l.subs)):=by
  unfold og slices_Contains_string;refine ok_eq (fA (R:=λb=>b=decide (s∈l.subs)) (fA (ae0 _ _ T) ?_) λb J=>ok_some J)
  rintro r (⟨h,rfl⟩|⟨h,h2⟩)
  grind[ok_some]
  grind[ok_some]
 have I:Du l s=some (decide (s∈l.subs)):=by
  unfold Du;refine ok_eq (fA (TQ _ _ T) ?_)
  rintro r (⟨h,rfl⟩|⟨h,h2⟩)
  grind[ok_some]
  grind[ok_some]
 rw[e1,I]
def bt (s:ByteArray)(i:Nat):Int:=match s[i]? with|some c=>(c.toNat:Int)|none=>0
theorem akl {s:ByteArray}{i:Nat}(h:i<s.size):jA s (i:Int)=some (bt s i):=by
 show(match s[i]? with|some c=>some (c.toNat:Int)|none=>none)=_
 grind[bt]
theorem zy {ρ:Type}{Q:ρ->Prop}{s:ByteArray}{i:Int}{k:Int->Option ρ}(n:Nat)(e:i=(n:Int))(h:n<s.size)(hk:Ok Q (k (bt s n))):Ok Q (bnd (jA s i) k):=by
 subst e;rw[akl h];exact hk
def agP (c:Int):Prop:=(97<=c/\c<=122)\/(48<=c/\c<=57)\/c=45
structure ac3 (s:ByteArray):Prop where
 n:1<=s.size/\s.size<=32
 a:97<=bt s 0/\bt s 0<=122
 z:bt s (s.size-1)≠45
 c:∀ i,i<s.size->agP (bt s i)
 d:∀ i,i+1<s.size->¬(bt s i=45/\bt s (i+1)=45)
theorem agQ (c:Int):Ls c=some (decide (97<=c/\c<=122)):=by
 unfold Ls;exact ok_eq (ok_brd (λh=>ok_some dI) λh=>ok_some dI)
theorem aiH (s:ByteArray):Ok (λr=>r=true->ac3 s) (Nr s):=by
 unfold Nr;refine ok_jn (λb=>b=false->(1<=s.size/\s.size<=32)/\(97<=bt s 0/\bt s 0<=122)/\bt s (s.size-1)≠45) (λk hk=>?_) λb I=>ok_br (λ_=>ok_some λh=>by cases h) λU=>?_
 refine ok_brd (λ_=>hk _ λh=>by cases h) λh1=>ok_brd (λ_=>hk _ λh=>by cases h) λh2=>zy 0 rfl ae (ok_bnde (agQ _) (ok_br (λ_=>hk _ λh=>by cases h) λh3=>zy (s.size-1) (by grind[Cc]) ae (hk _ λh4=>⟨by omega,by simpa using h3,of_decide_eq_false h4⟩)))
 obtain⟨n,a,z⟩:=I U;refine ok_for1 0 s.size (λi=>(∀ j,j<i->agP (bt s j))/\∀ j,j+1<i->¬(bt s j=45/\bt s (j+1)=45)) 0 rfl (Nat.zero_le _) ae ⟨by omega,by omega⟩ (λi k hi C hk=>?_) λk C=>?_
 unfold Oq;refine ok_brd (λ_=>ok_jn (λb=>b=false->agP (bt s i)) (λk11 T=>?_) λb I=>ok_br (λ_=>ok_some λh=>by cases h) λU=>?_) λh=>absurd (show(i:Int)<(s.size:Int) by omega) h
 refine zy i rfl hi (ok_bnde (agQ _) (ok_br (λ_=>zy i rfl hi (ok_brd (λt=>zy i rfl hi (T _ λh=>.inr (.inr bg))) λt=>zy i rfl hi (ok_brd (λ_=>zy i rfl hi (T _ λh=>.inr (.inr bg))) λh57=>T _ λ_=>.inr (.inl ⟨by omega,by omega⟩)))) λh=>T _ λ_=>.inl bg))
 have hc:=I U
 have g:∀ j,j<i+1->agP (bt s j):=λj hj=>by
  grind
 refine ok_jn (λb=>b=false->0<i->¬(bt s (i-1)=45/\bt s i=45)) (λk20 J=>?_) λb I=>ok_br (λ_=>ok_some λh=>by cases h) λU=>hk ⟨g,λj hj=>?_⟩
 refine ok_brd (λh0=>zy i rfl hi (ok_brd (λe=>zy (i-1) (by grind[Cc]) ae (J _ λh _ hh=>of_decide_eq_false h hh.1)) λe=>J _ λ_ _ hh=>e hh.2)) λh0=>J _ λ_ h=>absurd (show(0:Int)<(i:Int) by omega) h0
 grind
 unfold Oq;exact ok_brd (λh=>absurd h ae) λ_=>ok_some λ_=>⟨n,a,z,C.1,C.2⟩
theorem agR (s:ByteArray)(h:ac3 s):LM s=some true:=by
 obtain⟨⟨n1,n2⟩,a,z,c,d⟩:=h
 have I:strings_Contains s (bs [45,45])=some false:=by
  unfold strings_Contains ags;rw[if_pos ae]
  congr 1
  unfold Lib.contains;refine decide_eq_false λh0=>?_;rcases Lib.index_spec s.data.toList (bs [45,45]).data.toList with ⟨h1,_⟩|⟨i,h1,h2,C,_⟩
  omega
  have hp : [45,45] <+: s.data.toList.drop i:=by simpa [Lib.occAt,bs] using C
  obtain⟨t,ht⟩:=hp
  have hl:i+1<s.size:=by
   have:=congrArg List.length ht;simp at this
   grind
  have g:∀ j,j<2->s.data.toList[i+j]?=some 45:=λj hj=>by
   have:(s.data.toList.drop i)[j]?=some 45:=by
    grind
   grind
  have b:∀ j,i+j<s.size->j<2->bt s (i+j)=45:=λj hj hj2=>by
   have e:=g j hj2;unfold bt
   have:s[i+j]?=some 45:=by
    rw[getElem?_pos s (i+j) hj]
    have h5:s.data.toList[i+j]?=some (s[i+j]'hj):=by
     rw[List.getElem?_eq_getElem dM];rfl
    grind
   rw[this];rfl
  exact d i hl ⟨by have:=b 0 ae ae;simpa using this,b 1 hl ae⟩
 unfold LM;refine ok_eq (ok_jn (λb=>b=false) (λk hk=>?_) λb J=>?_)
 exact ok_brd (λh=>absurd h ae) λ_=>ok_brd (λh=>absurd h ae) λ_=>zy 0 rfl ae (ok_brd (λh=>absurd h ae) λ_=>zy 0 rfl ae (ok_brd (λh=>absurd h ae) λ_=>zy (s.size-1) (by grind[Cc]) ae (ok_brd (λh=>absurd h z) λ_=>ok_bnde I (hk _ rfl))))
 subst J;have hlen:(EE s).length=s.size:=by simp[EE]
 refine iJ rfl (zS (ok_for1 0 (EE s).length (λ_=>True) 0 rfl (Nat.zero_le _) ae trivial (λi k hi _ hk=>?_) λk _=>?_))
 have J:(EE s)[i]=bt s i:=by
  have hi2:i<s.size:=by omega
  unfold bt;rw[getElem?_pos s i hi2];simp only[EE,List.getElem_map];rfl
 have hc:=c i ae;unfold Hl;refine ok_brd (λ_=>ok_ixL i rfl hi ?_) λh=>absurd (show(i:Int)<((EE s).length:Int) by omega) h;rw[J];refine ok_jn (λb=>b=false) (λk14 T=>?_) λb J=>by subst J;exact iJ rfl (hk trivial)
 unfold agP at hc;have r:∀ {x:Int},x=45->(!decide (x=45))=false:=λh=>by simp[h]
 exact ok_brd (λh1=>ok_brd (λh2=>T _ (r ae)) λh2=>ok_brd (λC=>T _ (r ae)) λ_=>T _ rfl) λh1=>ok_brd (λh2=>ok_brd (λC=>T _ (r ae)) λC=>ok_brd (λh4=>T _ (r ae)) λ_=>T _ rfl) λ_=>T _ rfl
 unfold Hl;exact ok_brd (λh=>absurd h (by show ¬ ((EE s).length:Int)<((EE s).length:Int);omega)) λ_=>ok_some rfl
def aaf:List ByteArray:=[(bs [98,97,115,105,99]),(bs [117,110,105,113,117,101])]
def ad5:List ByteArray:=[(bs [99,114,101,97,116,117,114,101]),(bs [105,110,115,116,97,110,116]),(bs [114,105,116,117,97,108]),(bs [114,101,108,105,99]),(bs [99,104,97,114,109]),(bs [108,97,110,100])]
theorem agS (s:ByteArray)(l:List ByteArray)(name:Int->Option ByteArray)(J:l.length<=60)(T:∀ (i:Nat) (h:i<l.length),name (i:Int)=some l[i])(h:s ∉ l):Ej s (l.length:Int) name=some 0:=by
 unfold Ej;refine ok_eq (ok_for1 0 l.length (λ_=>True) 0 rfl (Nat.zero_le _) ae trivial (λi k hi _ hk=>?_) λk _=>?_)
 unfold I8;refine ok_brd (λ_=>ok_bnde (T i hi) (ok_br (λ_=>hk trivial) λe=>?_)) λh=>absurd (show(i:Int)<(l.length:Int) by omega) h
 grind[fQ]
 unfold I8;exact ok_brd (λh=>absurd h ae) λ_=>ok_some rfl
theorem TR (s:ByteArray)(h:pq s=some true):vS s=some true:=by
 have key:Ok (λr=>r=true->ac3 s/\s ∉ aaf/\s ∉ ad5) (pq s):=by
  unfold pq;refine fA (aiH s) λb I=>ok_br (λT=>ok_bnde (x:=aaf) rfl (fA (TQ _ _ aU) λi hi=>ok_brd (λh1=>ok_bnde (x:=ad5) rfl (fA (TQ _ _ aU) λj hj=>ok_some λh2=>⟨I T,?_,?_⟩)) λ_=>ok_some λh=>by cases h)) λ_=>ok_some λh=>by cases h
  grind
  grind
 obtain⟨r,e,hr⟩:=key;rw[h] at e;cases e;obtain⟨J,h1,h2⟩:=hr rfl;unfold vS;refine ok_eq (ok_bnde (agR s J) (lh rfl (ok_bnde (agS s aaf uU aU (λi hi=>?_) h1) (lh rfl (ok_bnde (agS s ad5 wI aU (λi hi=>?_) h2) (ok_some rfl))))))
 have:i=0\/i=1:=by grind[aaf]
 rcases this with rfl|rfl<;>rfl
 have:i=0\/i=1\/i=2\/i=3\/i=4\/i=5:=by simp[ad5] at hi;omega
 rcases this with rfl|rfl|rfl|rfl|rfl|rfl<;>rfl
theorem Qe (n m:Int):jR n m=some (decide (0<=n/\n<=m)):=by
 unfold jR;exact ok_eq (ok_brd (λh=>ok_some dI) λh=>ok_some dI)
theorem ac4 (b:rV):qo b=sS b:=by
 unfold qo sS;rw[Qe,Qe]
 by_cases h1:0<=b.kind/\b.kind<=3
 have e1:decide (b.kind<0)=false:=decide_eq_false ae;have C:decide (3<b.kind)=false:=decide_eq_false ae;rw[decide_eq_true h1,e1,C]
 by_cases h2:0<=b.n/\b.n<=1000000
 have I:decide (b.n<0)=false:=decide_eq_false ae;have J:decide (1000000<b.n)=false:=decide_eq_false ae;rw[decide_eq_true h2,I,J];rfl
 rw[decide_eq_false h2]
 by_cases T:b.n<0
 rw[decide_eq_true T];rfl
 rw[decide_eq_false T,decide_eq_true (show 1000000<b.n by omega)];rfl
 rw[decide_eq_false h1]
 by_cases T:b.kind<0
 rw[decide_eq_true T];rfl
 rw[decide_eq_false T,decide_eq_true (show 3<b.kind by omega)];rfl
def apN:Nat->Nat->Nat->Bool
 | 0,_,_=>true
 | n+1,x,y=>!(Nat.beq (x % 2) 1&&Nat.beq (y % 2) 1)&&apN n (x / 2) (y / 2)
theorem agT:∀ (n x y:Nat),x<2 ^ n->apN n x y=true->x &&& y=0
 | 0,x,y,hx,_=>by
  grind
 | n+1,x,y,hx,h=>by
  unfold apN at h;rw[Bool.and_eq_true,Bool.not_eq_true',Bool.and_eq_false_iff] at h;have h1:=agT n (x / 2) (y / 2) ak h.2;rw[<- Nat.and_div_two] at h1
  have h2:¬ ((x &&& y) % 2=1):=by
   rw[Nat.and_mod_two_eq_one]
   rintro⟨g1,g2⟩
   simp_all
  omega
theorem agU {x y:Nat}(hx:x<64)(hy:y<64)(h:x &&& y=0):iL .and .i64 (x:Int) (y:Int)=0:=by
 have:(BitVec.ofInt 64 (x:Int) &&& BitVec.ofInt 64 (y:Int)).toNat=0:=by
  grind
 show IntKind.i64.wrap (((BitVec.ofInt 64 (x:Int) &&& BitVec.ofInt 64 (y:Int)).toNat:Nat):Int)=0
 grind[wrap_in]
theorem ad6 (x y:Nat)(hx:x<64)(hy:y<64):Ok (λr=>r=true->apN 6 x y=true) (loopF A8 ((x:Int),(y:Int),(0:Int))):=by
 refine jQ (λs=>∃ i u v:Nat,s=((u:Int),(v:Int),(i:Int))/\i<=6/\u<64/\v<64/\(apN (6-i) u v=true->apN 6 x y=true)) (λs=>6-s.2.2.toNat) ⟨0,x,y,rfl,by omega,hx,hy,id⟩ (by show 6-_<18446744073709551616;omega) ?_
 rintro s k ⟨i,u,v,rfl,hi,hu,hv,h⟩ hk
 unfold A8;refine ok_brd (λT=>?_) λT=>ok_some λ_=>h ?_
 have T:i<6:=by grind
 have mu:((u:Int).tmod 2)=((u % 2:Nat):Int):=by grind
 have mv:((v:Int).tmod 2)=((v % 2:Nat):Int):=by grind
 have C:IntKind.i64.wrap ((u:Int).tdiv 2)=((u / 2:Nat):Int):=by grind[wrap_in]
 have dv:IntKind.i64.wrap ((v:Int).tdiv 2)=((v / 2:Nat):Int):=by grind[wrap_in]
 refine ok_jn (λc=>c=false->¬(u % 2=1/\v % 2=1)) (λg t=>?_) λc hc=>ok_br (λ_=>ok_some λe=>by cases e) λU=>?_
 grind[wL,ok_brd]
 refine vk ae λa I=>vk ae λb J=>?_;simp only at I J;rw[I,J,C,dv,addI_nat ae];refine hk _ ⟨i+1,u / 2,v / 2,rfl,by omega,by omega,by omega,λe=>h ?_⟩ ax;rw[show 6-i=6-(i+1)+1 by omega];unfold apN;rw[e,Bool.and_true,Bool.not_eq_true',Bool.and_eq_false_iff];rcases Nat.lt_or_ge (u % 2) 1 with c1|c1
 exact .inl (by rw[show u % 2=0 by omega];rfl)
 refine .inr ?_;have:=hc U;rw[show v % 2=0 by omega];rfl
 have:i=6:=by grind
 subst this;rfl
theorem akm (x y:Nat)(hx:x<64)(hy:y<64)(h:loopF A8 ((x:Int),(y:Int),(0:Int))=some true):iL .and .i64 (x:Int) (y:Int)=0:=by
 obtain⟨r,e,hr⟩:=ad6 x y hx hy;rw[e] at h;have:r=true:=Option.some.inj h;exact agU hx hy (agT 6 x y (by simpa using hx) (hr this))
theorem abB (a b m:Int)(T:m<=63):Ok (λr=>r=true->(0<=a/\a<=m)/\(0<=b/\b<=m)/\iL .and .i64 a b=0) (Dh a b m):=by
 unfold Dh;refine ok_jn (λc=>c=false->(0<=a/\a<=m)/\(0<=b/\b<=m)) (λk hk=>?_) λc hc=>ok_br (λ_=>ok_some λh=>by cases h) λU=>?_
 grind[ok_brd]
 obtain⟨g1,g2⟩:=hc U;obtain⟨x,rfl⟩:=Int.eq_ofNat_of_zero_le g1.1;obtain⟨y,rfl⟩:=Int.eq_ofNat_of_zero_le g2.1;obtain⟨r,e,_⟩:=ad6 x y ae ae;refine⟨r,e,λhr=>⟨g1,g2,akm x y ae ae ?_⟩⟩;rw[e,hr]
theorem WV (f:GFilter){x:Bool}(hx:r13_Is f=some x)(T:x=true):((0<=f.iI/\f.iI<=5)/\(0<=f.who/\f.who<=2)/\(0<=f.self/\f.self<=2)/\(0<=f.Ar/\f.Ar<=2))/\(((0<=f.types/\f.types<=63)/\(0<=f.iw/\f.iw<=63)/\iL .and .i64 f.types f.iw=0)/\(0<=f.gK/\f.gK<=31)/\(0<=f.gI/\f.gI<=31)/\iL .and .i64 f.gK f.gI=0)/\((fQ .neq f.sub (bs [])=true->pq f.sub=some true)/\0<=f.keys/\f.keys<=131071)/\sS f.power=some true/\sS f.gz=some true/\sS f.value=some true:=by
 subst T;unfold r13_Is at hx
 have g:∀ {c:Bool} {a b:Option Bool},br c a b=some true->a=some false->c=false/\b=some true:=by
  intro c a b h C
  cases c with
  | true=>rw[show br true a b=a from rfl,C] at h;cases h
  | false=>exact⟨rfl,h⟩
 simp only[jn] at hx
 by_cases z1:f.iI<0
 grind[br]
 by_cases z2:5<f.iI
 grind[br]
 by_cases z3:f.who<0
 grind[br]
 by_cases z4:2<f.who
 grind[br]
 by_cases z5:f.self<0
 grind[br]
 by_cases z6:2<f.self
 grind[br]
 by_cases z7:f.Ar<0
 grind[br]
 by_cases z8:2<f.Ar
 grind[br]
 rw[decide_eq_false z1,decide_eq_false z2,decide_eq_false z3,decide_eq_false z4,decide_eq_false z5,decide_eq_false z6,decide_eq_false z7,decide_eq_false z8] at hx;obtain⟨r1,e1,k1⟩:=abB f.types f.iw 63 ae;obtain⟨r2,t,k2⟩:=abB f.gK f.gI 31 ae;refine⟨⟨⟨by omega,by omega⟩,⟨by omega,by omega⟩,⟨by omega,by omega⟩,by omega,by omega⟩,?_⟩;rw[e1,t] at hx
 cases r1 with
 | false=>grind[br,bnd]
 | true=>
 cases r2 with
 | false=>grind[br,bnd]
 | true=>
 refine⟨⟨k1 rfl,k2 rfl⟩,?_⟩;simp only[br,bnd,show((true:Bool)==false)=false from rfl] at hx
 cases hs:fQ .neq f.sub (bs []) with
 | true=>
  rw[hs] at hx
  cases hi:pq f.sub with
  | none=>grind
  | some v=>
   cases v with
   | false=>grind
   | true=>
    rw[hi] at hx
    by_cases J:f.keys<0
    grind
    by_cases I:131071<f.keys
    grind
    rw[decide_eq_false J,decide_eq_false I] at hx;refine⟨⟨λ_=>rfl,by omega,by omega⟩,?_⟩;revert hx;cases sS f.power<;>grind
 | false=>
  rw[hs] at hx
  by_cases J:f.keys<0
  grind
  by_cases I:131071<f.keys
  grind
  rw[decide_eq_false J,decide_eq_false I] at hx
  grind
theorem WW (f:GFilter)(h:r13_Is f=some true):Dj f=some true:=by
 have no:∀ {p:Prop},((false:Bool)=true->p):=λe=>by cases e
 have yes:∀ {p:Prop},((true:Bool)=false->p):=λe=>by cases e
 have sub:Ok (λb=>b=true->pq f.sub=some true) (some false):=ok_some no;have key:=@WV f;obtain⟨⟨a1,a2,a3,a4⟩,⟨⟨J,I,b3⟩,b4,b5,T⟩,⟨c1,c2⟩,d1,d2,d3⟩:=key h rfl;unfold Dj;simp only[Qe,ac4,d1,d2,d3];rw[decide_eq_true a1,decide_eq_true a2,decide_eq_true a3,decide_eq_true a4,decide_eq_true c2,decide_eq_true J,decide_eq_true I,decide_eq_true b4,decide_eq_true b5,decide_eq_true b3,decide_eq_true T]
 cases hs:fQ .neq f.sub (bs []) with
 | true=>rw[TR _ (c1 hs)];rfl
 | false=>rfl
theorem aiI (m:GMod)(h:lG m=some true):Tn m=some true:=by
 obtain⟨kind,n,J,sub,f⟩:=m
 have hk:1<=kind/\kind<=14:=by
  grind[lG,jn,br]
 have hk:kind=1\/kind=2\/kind=3\/kind=4\/kind=5\/kind=6\/kind=7\/kind=8\/kind=9\/kind=10\/kind=11\/kind=12\/kind=13\/kind=14:=by omega
 have I:∀ {x:Option Bool},bnd x (λy=>some y)=some true->x=some true:=by
  intro x hx;cases x with
  | none=>cases hx
  | some v=>exact hx
 have T:∀ {x:Option Bool},x=some true->bnd x (λy=>some y)=some true:=by
  intro x hx;subst hx;rfl
 rcases hk with rfl|rfl|rfl|rfl|rfl|rfl|rfl|rfl|rfl|rfl|rfl|rfl|rfl|rfl
 all_goals
  simp only[lG,Ko,zZ,jn,Int.reduceLT,Int.reduceEq,decide_true,decide_false,br,bnd,lt,Bool.true_and,Bool.and_true] at h;simp only[Tn,NJ,zI,jn,Int.reduceLE,Int.reduceEq,decide_true,decide_false,br,bnd,lt,Bool.true_and,Bool.and_true]
  split at h
  cases h
  rename_i hc;simp[fQ] at hc;simp only[hc,fQ,kP,QP,decide_true,Bool.true_and,Bool.and_true,show(true==false)=false from rfl]<;>first
  | rfl
  | (refine T ?_;refine TR _ ?_;exact I h)
  | (refine T ?_;refine WW _ ?_;exact I h)
  | (revert h;cases decide (1<=n)<;>cases decide (n<=63)<;>intro h<;>first|(cases h;done)|exact h)
  | (revert h;cases decide (0<=n)<;>cases decide (n<=31)<;>intro h<;>first|(cases h;done)|exact h)
  | (revert h;cases decide (1<=n)<;>cases decide (n<=31)<;>intro h<;>first|(cases h;done)|exact h)
  | (revert h;cases decide (1<=n)<;>cases decide (n<=131071)<;>intro h<;>first|(cases h;done)|exact h)
  | (revert h;cases decide (0<=n)<;>cases decide (n<=99)<;>cases decide (0<=J)<;>cases decide (J<=99)<;>intro h<;>first|(cases h;done)|exact h)
  | grind
def slot (s:ByteArray):List ByteArray->Nat
 | []=>0
 | a::r=>bif fQ .lss a s then slot s r+1 else 0
theorem Yz {l:List ByteArray}{s:ByteArray}{i:Nat}(hi:i<l.length)(h:slot s l=i+slot s (l.drop i)) :
  (fQ .lss l[i] s=true->slot s l=(i+1)+slot s (l.drop (i+1)))/\(fQ .lss l[i] s=false->slot s l=i):=by
 rw[List.drop_eq_getElem_cons hi,show ∀ a r,slot s (a::r)=bif fQ .lss a s then slot s r+1 else 0 from λ_ _=>rfl] at h
 grind
theorem agV (l:List ByteArray)(s:ByteArray)(J:l.length<=2000000):Ok (λr=>(r=(slot s l:Int)/\slot s l<l.length)\/(r=-1/\slot s l=l.length)) (mD l λa0=>D8 a0 s):=by
 unfold mD;refine ok_for1 0 l.length (λi=>slot s l=i+slot s (l.drop i)) 0 rfl (Nat.zero_le _) ae aF (λi k hi T hk=>?_) λk T=>?_
 unfold mQ;have st:=Yz hi T;refine ok_brd (λ_=>ok_ixL i rfl hi (ok_bnde (x:=fQ .geq l[i] s) rfl (ok_br (λe=>ok_some (.inl ?_)) λe=>hk (st.1 ?_)))) λh=>absurd (show(i:Int)<(l.length:Int) by omega) h
 have e:fQ .lss l[i] s=false:=by
  grind[fQ]
 grind
 grind[fQ]
 unfold mQ;rw[List.drop_length] at T;exact ok_brd (λh=>absurd h aB) λ_=>ok_some (.inr ⟨rfl,T⟩)
theorem agW (l:rX)(s:ByteArray)(g:l.subs.length<=2000000):Ok (λr=>r={ l with subs:=l.subs.take (slot s l.subs)++[s]++l.subs.drop (slot s l.subs) }) (loopF (yU l s) 0):=by
 have fin:∀ i:Nat,i<=l.subs.length->slot s l.subs=i->∀ {C : Int},C=(i:Int)->Ok (λr=>r={ l with subs:=l.subs.take (slot s l.subs)++[s]++l.subs.drop (slot s l.subs) })
   (bnd (jE l.subs.length 0 C) λx14=>
    gY (0+(Az l.subs (0+x14.1) (x14.2-x14.1)).length) 16 (
    gY ((Az l.subs (0+x14.1) (x14.2-x14.1)).length+([s]).length) 16 (
    bnd (jE l.subs.length C ((l.subs.length:Nat):Int)) λx15=>
    gY (((Az l.subs (0+x14.1) (x14.2-x14.1))++[s]).length+(Az l.subs (0+x15.1) (x15.2-x15.1)).length) 16 (
    some { l with subs:=(((Az l.subs (0+x14.1) (x14.2-x14.1))++[s])++(Az l.subs (0+x15.1) (x15.2-x15.1))) })))):=by
  intro i hi he C J;have z1:(Az l.subs (0+0) (i-0)).length<=2000000:=by simp[Az];omega
  have z2:(Az l.subs (0+i) (l.subs.length-i)).length<=2000000:=by simp[Az];omega
  refine Wp (i:=0) rfl J (Nat.zero_le _) hi (gZ ax ax (gZ ak ak (Wp J rfl hi (Nat.le_refl _) (gZ ak ak (ok_some ?_)))))
  grind[Az]
 refine ok_for1 0 l.subs.length (λi=>slot s l.subs=i+slot s (l.subs.drop i)) 0 rfl (Nat.zero_le _) ae aF (λi k hi I hk=>?_) λk I=>?_
 unfold yU;have st:=Yz hi I;refine ok_jn (λc=>c=fQ .lss l.subs[i] s) (λt T=>?_) λc hc=>ok_br (λe=>hk (st.1 (hc ▸ e))) λe=>fin i ae (st.2 (hc ▸ e)) rfl;exact ok_brd (λ_=>ok_bnde (x:=i) (by show(bif Nat.blt i l.subs.length then some i else none)=some i;rw[show Nat.blt i l.subs.length=true from by simpa using hi];rfl) (gB hi (T _ rfl))) λh=>absurd (show(i:Int)<(l.subs.length:Int) by omega) h
 unfold yU;rw[List.drop_length] at I;refine ok_jn (λc=>c=false) (λt T=>?_) λc hc=>ok_br (λe=>absurd (hc ▸ e) aF) λe=>fin _ (Nat.le_refl _) I rfl;exact ok_brd (λh=>absurd h (by show ¬ (l.subs.length:Int)<(l.subs.length:Int);omega)) λ_=>T _ rfl
theorem ae1 (l:rX)(s:ByteArray)(T:l.subs.length<=2000000)(hs:pq s=some true):xJ l s=xQ l s:=by
 obtain⟨r1,e1,h1⟩:=agV l.subs s T;obtain⟨r2,C,h2⟩:=agW l s T;have J:slot s l.subs<=l.subs.length:=by grind
 have hi:=Yh (v:=[s]) J aF aY
 have ro:∀ {ρ:Type} (k:Option ρ),gY (0+l.subs.length) 16 k=k:=by
  grind[gY,Nat.ble_eq_true_of_le]
 have cl:slices_Clone_string l.subs=some l.subs:=by
  grind[slices_Clone_string,pO]
 unfold xJ xQ;rw[cl,ro,TR s hs,hs,<- Yy l s T,show(bnd (some l.subs):(List ByteArray->Option rX)->_)=λk=>k l.subs from rfl];simp only[jn,bnd,br,show((true:Bool)==false)=false from rfl]
 cases og l s with
 | none=>rfl
 | some b=>
  cases b with
  | true=>rfl
  | false=>
   simp only
   cases decide (4<=lenI l.subs) with
   | true=>rfl
   | false=>
    simp only;rw[e1,C];subst h2;rcases h1 with ⟨h1,I⟩|⟨h1,I⟩
    grind[tJ]
    subst h1;simp only[show decide ((-1:Int)<0)=true from rfl,tJ,lenI]
    grind
theorem agX (t:eQ)(m:GMod)(you count:Int)(J:lG m=some true)(hc:Dn t=some t)(hs:t.line.subs.length<=2000000):Dp t m you count=qK t m you count:=by
 unfold Dp qK;rw[hc,aiI m J,J,show(bnd (some t):(eQ->Option eQ)->_)=λk=>k t from rfl,show(bnd (some true):(Bool->Option eQ)->_)=λk=>k true from rfl];simp only[NY,add_eq]
 by_cases I:m.kind=5
 have T:pq m.sub=some true:=by
  unfold lG at J;simp only[jn,I,br,bnd,lt,Int.reduceLT,Int.reduceEq,decide_true,decide_false,Ko] at J
  grind
 rw[ae1 _ _ hs T]
 rw[decide_eq_false I];rfl
set_option maxHeartbeats 20000000
theorem akn (a b c:Int):kV a b c=some ((decide (b=0) || !decide (iL .and .i64 a b=0))&&decide (iL .and .i64 a c=0)):=by
 unfold kV;cases decide (b=0)<;>cases decide (iL .and .i64 a b=0)<;>rfl
theorem tri (n:Int):(decide (n=1)=true/\decide (n=2)=false)\/(decide (n=1)=false/\decide (n=2)=true)\/(decide (n=1)=false/\decide (n=2)=false):=by
 by_cases h:n=1
 subst h;exact .inl ⟨rfl,rfl⟩
 by_cases h2:n=2
 subst h2;exact .inr (.inl ⟨rfl,rfl⟩)
 exact .inr (.inr ⟨decide_eq_false h,decide_eq_false h2⟩)
theorem agY (o:fC)(t:eQ)(you source:Int)(f:GFilter)(U:r13_Is f=some true)(hl:t.line.subs.length<=2000000)(hv:zH t.cost 0=Dv t.cost 0)
  {b1 b2:Bool} {mt:rV->Int->Bool} {va:Int} (hh:og t.line f.sub=some b1) (hk:nz t.keys f.keys=some b2) (hm:∀ b n,Ad b n=some (mt b n)) (C:Dv t.cost 0=some va) :
  lX o t you source f=sD o t you source f:=by
 have I : ∀ b n,Dk b n=some (mt b n):=λb n=>by rw[agO];exact hm b n
 unfold lX sD zL Ro WH ZE kG;rw[WW f U,U,<- Yy t.line f.sub hl,hh,<- has_eq,hk,hv,C];have g:∀ (c:Bool) (a b:Bool),br c (some a) (some b)=some (bif c then a else b):=λc a b=>by cases c<;>rfl
 have J:∀ (x:Bool) (k:Bool->Option Bool),bnd (some x) k=k x:=λ_ _=>rfl;have T:∀ (x:Int) (k:Int->Option Bool),bnd (some x) k=k x:=λ_ _=>rfl;simp only[akn,uV,hm,I,jn,J,T,g]
 congr 1
 have bef:∀ x:Bool,(x==false)=!x:=λx=>by cases x<;>rfl
 rcases tri f.who with ⟨w1,w2⟩|⟨w1,w2⟩|⟨w1,w2⟩<;>rcases tri f.self with ⟨s1,s2⟩|⟨s1,s2⟩|⟨s1,s2⟩<;>rcases tri f.Ar with ⟨t1,t2⟩|⟨t1,t2⟩|⟨t1,t2⟩
 all_goals
  simp only[w1,w2,s1,s2,t1,t2,cond_true,cond_false,Bool.not_true,Bool.not_false,show(true==false)=false from rfl,show(false==false)=true from rfl,bef,Bool.cond_not,Bool.cond_false_right,Bool.cond_true_right,Bool.cond_false_left,Bool.cond_true_left,Bool.not_not,Bool.not_and,Bool.not_or];generalize decide (o.iI=f.iI)=zo;generalize decide (t.control=you)=cy;generalize decide (o.id=source)=cs;generalize o.kN=tp;generalize decide (f.types=0)=a1;generalize decide (f.gK=0)=a2;generalize decide (iL .and .i64 t.line.types f.types=0)=a3;generalize decide (iL .and .i64 t.line.types f.iw=0)=a4;generalize decide (iL .and .i64 t.gK f.gK=0)=a5;generalize decide (iL .and .i64 t.gK f.gI=0)=a6;generalize fQ .neq f.sub (bs [])=a7;generalize decide (iL .and .i64 t.line.types 1=0)=a8;generalize decide (f.power.kind=0)=a9;generalize decide (f.gz.kind=0)=a10;generalize mt f.power t.power=m1;generalize mt f.gz t.gz=m2;generalize mt f.value va=m3;clear U hl hv hh hk hm C I g J T bef w1 w2 s1 s2 t1 t2;cases a1<;>cases a2<;>cases a7<;>cases a9<;>cases a10<;>simp only[cond_true,cond_false,Bool.true_or,Bool.false_or,Bool.true_and,Bool.and_true,Bool.and_false,Bool.false_and,Bool.and_assoc,Bool.and_comm,Bool.and_left_comm,Bool.and_self_left]
theorem ac5 (c:oJ):Ok (λr=>r=true↔isC c) (I4 c):=by
 unfold I4;refine ok_for1 0 5 (λn=>∀ j,j<n->0<=Gu c.color j/\Gu c.color j<=9) 0 rfl ae ae (λj h=>by omega) ?_ ?_
 intro i k hi J hk;unfold LK;refine ok_brd (λ_=>ok_jn (λs=>s=Gu c.color i) ?_ ?_) λh=>absurd (show(i:Int)<5 by omega) h
 intro k4 T;rcases five hi with rfl|rfl|rfl|rfl|rfl<;>exact OO ae (T _ rfl)
 rintro s rfl
 refine ok_jn (λs=>s=decide (Gu c.color i<0\/9<Gu c.color i)) ?_ ?_
 grind[ok_brd]
 rintro s rfl
 refine ok_brd (λh=>ok_some ?_) λh=>hk λj hj=>?_
 refine⟨λh=>bY,λhC=>?_⟩;have:=hC.2 i hi;omega
 grind
 ·intro k J;unfold LK;refine ok_brd (λh=>absurd h ae) λ_=>ok_brd (λh1=>ok_brd (λh2=>ok_brd (λI=>ok_some ?_) λh=>ok_some ?_) λh=>ok_some ?_) λh=>ok_some ?_
  rw[decide_eq_true_iff];exact⟨λT=>⟨⟨h1,h2,I,T⟩,J⟩,λhC=>hC.1.2.2.2⟩
  all_goals exact⟨λh=>bY,λhC=>by have:=hC.1;omega⟩
theorem OT (c:oJ):Ok (λr=>r=true↔isC c) (G7 c):=by
 unfold G7;refine ok_jn (λs=>s=decide (c.generic<0\/99<c.generic\/c.x<0\/2<c.x)) ?_ ?_
 grind[ok_brd]
 rintro s rfl
 refine ok_brd (λh=>ok_some ⟨λh=>bY,λhC=>by have:=hC.1;omega⟩) λh0=>?_;refine ok_for1 0 5 (λn=>∀ j,j<n->0<=Gu c.color j/\Gu c.color j<=9) 0 rfl ae ae (λj h=>by omega) ?_ ?_
 intro i k hi J hk;unfold Kr;refine ok_brd (λ_=>ok_jn (λs=>s=decide (Gu c.color i<0\/9<Gu c.color i)) ?_ ?_) λh=>absurd (show(i:Int)<5 by omega) h
 intro k6 T
 rcases five hi with rfl|rfl|rfl|rfl|rfl <;>
  exact OO ae (ok_brd (λh=>T _ dD) λh=>OO ae (T _ dD))
 rintro s rfl
 refine ok_brd (λh=>ok_some ?_) λh=>hk λj hj=>?_
 refine⟨λh=>bY,λhC=>?_⟩;have:=hC.2 i hi;omega
 grind
 intro k J;unfold Kr;exact ok_brd (λh=>absurd h ae) λ_=>ok_some ⟨λ_=>⟨by omega,J⟩,λ_=>rfl⟩
theorem YA (c:oJ):I4 c=G7 c:=by
 obtain⟨x,e,h⟩:=ac5 c;obtain⟨y,T,h2⟩:=OT c
 grind
theorem aag {n:Int}(h : -1000000<=n/\n<=1000000):oD n=some n:=by
 unfold oD;rw[decide_eq_false (show ¬ 1000000<n by omega),decide_eq_false (show ¬ n < -1000000 by omega)];rfl
theorem ac6 {a b:Int}(T : -1000000<=a/\a<=1000000)(J : -1000000<=b/\b<=1000000)(hc : -1000000<=a+b/\a+b<=1000000):nR a b=some (a+b):=by
 grind[nR,aag,bnd,wV]
theorem alJ (x:Int)(hx:0<=x/\x<=2):FW x 0=some 0:=by
 unfold FW;rw[aag (n:=x) ae,aag (n:=0) ae];show bnd (oD (QJ x 0)) (λy3=>some y3)=_;have:QJ x 0=0:=by unfold QJ;show IntKind.i64.wrap (x*0)=0;simp_all[wrap_in]
 rw[this,aag (n:=0) ae];rfl
theorem abC (c:oJ):zH c 0=Dv c 0:=by
 unfold zH Dv;rw[YA];obtain⟨y,e,hy⟩:=OT c;rw[e]
 cases y with
 | false=>rfl
 | true=>
  obtain⟨⟨g1,g2,g3,g4⟩,hc⟩:=hy.1 rfl;have h0:0<=c.color.a0/\c.color.a0<=9:=hc 0 ae;have h1:0<=c.color.a1/\c.color.a1<=9:=hc 1 ae;have h2:0<=c.color.a2/\c.color.a2<=9:=hc 2 ae;have h3:0<=c.color.a3/\c.color.a3<=9:=hc 3 ae;have h4:0<=c.color.a4/\c.color.a4<=9:=hc 4 ae
  have R:(bnd (nR c.generic c.color.a0) λy3=>bnd (nR y3 c.color.a1) λy4=>bnd (nR y4 c.color.a2) λy5=>bnd (nR y5 c.color.a3) λy6=>bnd (nR y6 c.color.a4) λy7=>
    br (decide ((0:Int)<0)) (bnd (FW c.x 0) λy8=>bnd (nR y7 y8) λy9=>some y9) (bnd (FW c.x 0) λI=>bnd (nR y7 I) λg=>some g))=some (c.generic+c.color.a0+c.color.a1+c.color.a2+c.color.a3+c.color.a4):=by
   rw[ac6 ae ae ae];simp only[bnd];rw[ac6 ae ae ae];simp only[bnd];rw[ac6 ae ae ae];simp only[bnd];rw[ac6 ae ae ae];simp only[bnd];rw[ac6 ae ae ae];simp only[bnd,br,Int.lt_irrefl,decide_false];rw[alJ _ ⟨g3,g4⟩];simp only;rw[ac6 ae ae ae];grind
  show loopF (DZ c 0) (c.generic,0)=_;refine Eq.trans ?_ R.symm;refine ok_eq (jQ (λs=>∃ i:Nat,s.2=(i:Int)/\i<=5/\0<=s.1/\s.1<=99+9*i/\s.1=c.generic+((List.range i).map (Gu c.color)).sum) (λs=>5-s.2.toNat) ⟨0,rfl,by omega,g1,by omega,by simp⟩ dB ?_)
  rintro⟨s,i'⟩ k ⟨i,hi,hi5,C,t,J⟩ hk
  simp only at hi C t J;subst hi;unfold DZ;refine ok_brd (λT=>?_) λT=>?_
  have T:i<5:=by grind
  have st:∀ v,v=Gu c.color i->Ok (λr=>r=c.generic+c.color.a0+c.color.a1+c.color.a2+c.color.a3+c.color.a4) (k (addI s v,addI (i:Int) 1)):=by
   intro v hv;have hb:=hc i T;rw[wV ae ae,addI_nat ae];exact hk _ ⟨i+1,rfl,by omega,by simp only;omega,by simp only;omega,by grind[List.range_succ]⟩ ax
  have:i=0\/i=1\/i=2\/i=3\/i=4:=by omega
  rcases this with rfl|rfl|rfl|rfl|rfl<;>exact st _ rfl
  have:i=5:=by grind
  subst this;simp only[mul_eq,add_eq,Int.lt_irrefl,if_false];rw[alJ _ ⟨g3,g4⟩];simp only[bnd];rw[ac6 ae ae ae];refine ok_some ?_;rw[J];have:((List.range 5).map (Gu c.color)).sum=c.color.a0+(c.color.a1+(c.color.a2+(c.color.a3+(c.color.a4+0)))):=rfl;omega
def msk (b:Nat->Bool):Nat->Int
 | 0=>0
 | i+1=>bif b i then msk b i+(2 ^ i:Nat) else msk b i
theorem agZ (b:Nat->Bool):∀ i,0<=msk b i/\msk b i<(2 ^ i:Nat)
 | 0=>⟨Int.le_refl _,by simp[msk]⟩
 | i+1=>by
  have:=agZ b i;unfold msk
  grind
theorem ako (b:Nat->Bool)(i:Nat)(hi:i<5):iL .or .i64 (msk b i) ((2 ^ i:Nat):Int)=msk b i+(2 ^ i:Nat):=by
 have:i=0\/i=1\/i=2\/i=3\/i=4:=by omega
 rcases this with rfl|rfl|rfl|rfl|rfl<;>simp only[msk]
 rfl
 cases b 0<;>rfl
 cases b 0<;>cases b 1<;>rfl
 cases b 0<;>cases b 1<;>cases b 2<;>rfl
 cases b 0<;>cases b 1<;>cases b 2<;>cases b 3<;>rfl
def RS (c:oJ)(j:Nat):Bool:=decide (0<Gu c.color j)
theorem aiJ (c:oJ):Ok (λr=>r=msk (RS c) 5) (loopF (xC c) (0,0)):=by
 refine jQ (λs=>∃ i:Nat,s=(msk (RS c) i,(i:Int))/\i<=5) (λs=>5-s.2.toNat) ⟨0,rfl,by omega⟩ dB ?_
 rintro s k ⟨i,rfl,hi5⟩ hk
 unfold xC;refine ok_brd (λI=>?_) λI=>ok_some ak;have I:i<5:=by grind
 refine ok_jn (λv=>v=msk (RS c) (i+1)) (λk10 T=>?_) λv hv=>by
  rw[hv,addI_nat ae];exact hk _ ⟨i+1,rfl,by omega⟩ ax
 refine ok_jn (λv=>v=Gu c.color i) (λk13 J=>?_) λv hv=>ok_brd (λh=>?_) λh=>T _ ?_
 have:i=0\/i=1\/i=2\/i=3\/i=4:=by omega
 rcases this with rfl|rfl|rfl|rfl|rfl<;>exact J _ rfl
 refine ok_bnde (x:=((2 ^ i:Nat):Int)) ?_ (T _ ?_)
 have:i=0\/i=1\/i=2\/i=3\/i=4:=by omega
 rcases this with rfl|rfl|rfl|rfl|rfl<;>rfl
 grind[msk,ako,RS]
 grind[msk,RS]
theorem ad7 (c:oJ):Ok (λr=>r=msk (RS c) 5) (loopF (D9 c) (0,1,0)):=by
 refine jQ (λs=>∃ i:Nat,s=(msk (RS c) i,((2 ^ i:Nat):Int),(i:Int))/\i<=5) (λs=>5-s.2.2.toNat) ⟨0,rfl,by omega⟩ dB ?_
 rintro s k ⟨i,rfl,hi5⟩ hk
 unfold D9;refine ok_brd (λJ=>?_) λJ=>ok_some ak;have J:i<5:=by grind
 have i5:i=0\/i=1\/i=2\/i=3\/i=4:=by omega
 refine ok_jn (λv=>v=msk (RS c) (i+1)) (λk6 C=>?_) λv hv=>by
  have:QJ 2 ((2 ^ i:Nat):Int)=((2 ^ (i+1):Nat):Int):=by rcases i5 with rfl|rfl|rfl|rfl|rfl<;>rfl
  simp only;rw[hv,addI_nat ae,this];exact hk _ ⟨i+1,rfl,by omega⟩ ax
 refine ok_jn (λv=>v=msk (RS c) (i+1)) (λt T=>?_) λv hv=>C v hv;refine ok_jn (λv=>v=RS c i) (λk12 I=>?_) λv hv=>ok_br (λh=>T _ ?_) λh=>T _ ?_
 rcases i5 with rfl|rfl|rfl|rfl|rfl<;>exact I _ rfl
 have g:=agZ (RS c) i;have hp:(2 ^ i:Nat)<=16:=by grind
 grind[msk,wV]
 grind[msk]
theorem ae2 (c:oJ):xE c=zJ c:=by
 unfold xE zJ;rw[YA];obtain⟨y,e,hy⟩:=OT c;rw[e,ok_eq (aiJ c),ok_eq (ad7 c)]
 cases y with
 | false=>rfl
 | true=>
  have hc:=(hy.1 rfl).2;show lt _ (λv5=>br v5 (some 0) (some (msk (RS c) 5)))=some (msk (RS c) 5)
  cases T:(decide (c.color.a0=0)&&(decide (c.color.a1=0)&&(decide (c.color.a2=0)&&(decide (c.color.a3=0)&&(decide (c.color.a4=0)&&true))))) with
  | false=>rfl
  | true=>
   simp only[Bool.and_eq_true,decide_eq_true_eq] at T;obtain⟨z0,z1,z2,z3,z4,_⟩:=T
   have z:∀ j,j<5->RS c j=false:=by
    intro j hj;have:j=0\/j=1\/j=2\/j=3\/j=4:=by omega
    refine decide_eq_false ?_;rcases this with rfl|rfl|rfl|rfl|rfl<;>simp only[Gu]<;>omega
   simp only[msk,z 0 ae,z 1 ae,z 2 ae,z 3 ae,z 4 ae];rfl
theorem ag0 (a:fU)(h:kz a):Jb a=some a:=by
 obtain⟨_,g1,_,g2,g3,_⟩:=h;have p1:=g1.1;have p2:=g2.1;have p3:=g3.1;unfold Jb;refine ok_eq (gZ ae ae (gZ ae ae ?_));refine iY 0 a.jw.length (λn l=>l=a.jw.take n) 0 rfl (Nat.zero_le _) ae aF (λj l2 k2 hj T J=>?_) λl2 k2 T=>?_
 subst T;have I:=(g3.2 _ (List.getElem_mem hj)).2.2.2.2.1;unfold Ib;refine ok_brd (λ_=>ok_ixL j rfl hj (gZ ae ae (gZ ?_ ?_ (J _ (take_succ_get _ j hj).symm)))) λh=>absurd (show(j:Int)<(a.jw.length:Int) by omega) h
 grind
 grind
 subst T;unfold Ib;rw[nM];exact ok_brd (λh=>absurd h bu) λ_=>ok_some rfl
theorem printed_eq (c:gq)(h:lC c):qg c=vG c:=by
 obtain⟨h1,h2,J⟩:=h;have g:=J.1;have q2:=h2.1
 obtain⟨y,I⟩:∃ y,zJ c.cost=some y:=by
  unfold zJ;obtain⟨y,e,_⟩:=OT c.cost;rw[e,ok_eq (ad7 c.cost)];cases y<;>exact⟨_,rfl⟩
 have A:qg c=some { c with gK:=(iL .or .i64 y c.color),control:=0 }:=by
  unfold qg;rw[ae2,I];refine ok_eq (ok_bnde rfl (ok_bnde aX ?_));refine iY 0 c.fB.length (λn t=>t=c.fB.take n) 0 rfl (Nat.zero_le _) ae rfl (λi t k hi T hk=>?_) λt k T=>?_
  have C:t.length<=1048576:=by grind
  unfold sU;refine ok_brd (λ_=>ok_ixL i rfl hi (ok_bnde (Yx _ (J.2 _ (List.getElem_mem hi))) (gZ ak ak (hk _ ?_)))) λh=>absurd (show(i:Int)<(c.fB.length:Int) by omega) h
  simp_all
  unfold sU;rw[nM] at T;subst T;exact ok_brd (λh=>absurd h aZ) λ_=>ok_some rfl
 have B:vG c=some { c with gK:=(iL .or .i64 y c.color),control:=0 }:=by
  unfold vG;rw[I];refine ok_eq (ok_bnde rfl (gZ ae ae ?_));refine iY 0 c.fB.length (λn t=>t=c.fB.take n) 0 rfl (Nat.zero_le _) ae rfl (λi t k hi T hk=>?_) λt k T=>?_
  subst T;unfold BQ;refine ok_brd (λ_=>ok_ixL i rfl hi (ok_bnde (ag0 _ (J.2 _ (List.getElem_mem hi))) (gZ ?_ ?_ (hk _ (take_succ_get _ i hi).symm)))) λh=>absurd (show(i:Int)<(c.fB.length:Int) by omega) h
  grind
  grind
  unfold BQ;rw[nM] at T;subst T;exact ok_brd (λh=>absurd h aZ) λ_=>ok_some rfl
 rw[A,B]
theorem of_eq (T:List gq)(o:fC)(hc:sZ lC T):I5 T o=Tu T o:=by
 have key:∀ i:Int,∀ (k:eQ->Option eQ),(bnd (gu T i) λx=>bnd (qg x) λy=>k y)=(bnd (gu T i) λx=>bnd (vG x) λy=>k y):=by
  intro i k
  cases h:gu T i with
  | none=>rfl
  | some x=>
   have hx:x∈T:=by
    cases i with
    | ofNat j=>exact List.mem_of_getElem? h
    | negSucc j=>cases h
   show bnd (qg x) k=bnd (vG x) k;rw[printed_eq x (hc.2 x hx)]
 simp_all[I5,Tu]
theorem ac7 (s:List Int)(v:Int)(hs:s.length<4000000):OH s v=some (decide (v∈s)):=by
 unfold OH;refine ok_eq (ok_for1 0 s.length (λn=>v ∉ s.take n) 0 rfl (Nat.zero_le _) ae aF ?_ ?_)
 intro i k hi T hk;unfold PY;refine ok_brd (λ_=>ok_ixL i rfl hi (ok_brd (λe=>?_) λe=>hk ?_)) λh=>absurd (show(i:Int)<(s.length:Int) by omega) h
 grind[ok_some]
 grind[take_succ_get]
 intro k T;unfold PY;rw[nM] at T;refine ok_brd (λh=>absurd h bF) λ_=>ok_some (by simp[T])
theorem aah (l:List Int)(I:l.length<=2000000):FY l=some (elF l):=by
 unfold FY;refine ok_eq (iY 0 l.length (λn t=>t=elF (l.take n)) 0 rfl (Nat.zero_le _) ae (by simp[elF]) ?_ ?_)
 rintro i t k hi hI hk
 have hlen:t.length<=2000000:=by grind[TB]
 unfold EP;refine ok_brd (λ_=>ok_jn (λs=>s=NR t l[i]) ?_ λs hs=>hk s (by grind[abk])) λh=>absurd (show(i:Int)<(l.length:Int) by omega) h;intro k5 T;refine ok_jn (λs=>s=decide (0<=l[i]/\l[i] ∉ t)) ?_ ?_
 intro C J;refine ok_ixL i rfl hi (ok_brd (λh0=>ok_ixL i rfl hi (ok_bnde (ac7 t _ ae) (J _ ?_))) λh0=>J _ ?_)
 grind
 simp[h0]
 rintro s rfl
 refine ok_brd (λh=>ok_ixL i rfl hi (gZ ak ak (T _ (by simp_all[NR])))) λh=>T _ (by simp_all[NR])
 rintro t k hI
 unfold EP;rw[nM] at hI;refine ok_brd (λh=>absurd h aB) λ_=>ok_some hI
theorem aai (needs:List (List Bool))(i j:Int)(hi:0<=i)(hj:0<=j):Kw needs i j=some (nd needs i j):=by
 obtain⟨a,rfl⟩:=Int.eq_ofNat_of_zero_le hi;obtain⟨b,rfl⟩:=Int.eq_ofNat_of_zero_le hj;unfold Kw nd;refine ok_eq (ok_brd (λh=>?_) λh=>?_)
 have T:a<needs.length:=by grind[lenI]
 refine ok_ixL a rfl T (ok_brd (λh2=>?_) λh2=>?_)
 have J:b<(needs[a]).length:=by grind[lenI]
 exact ok_ixL a rfl T (ok_ixL b rfl J (ok_some (by simp[T,J])))
 grind[lenI,ok_some]
 grind[lenI,ok_some]
theorem ac8 (l:List Int)(needs:List (List Bool))(i:Int)(hl:l.length<=2000000)(hn:l.Nodup)(h0:∀ x∈l,0<=x)(hi:i∈l) :
  Ok (λr=>r.length<=2000000/\∀ x,x∈r↔TC l needs i x) (Jd l needs i):=by
 unfold Jd;refine iY 0 l.length (λn t=>t=(l.take n).filter (nd needs i)) 0 rfl (Nat.zero_le _) ae aF ?_ ?_
 rintro a t k ha hI hk
 have hlen:t.length<=2000000:=by grind
 have hs:(l.take (a+1)).filter (nd needs i)=t++(if nd needs i l[a]=true then [l[a]] else []):=by
  grind[take_succ_get]
 unfold Ig;refine ok_brd (λ_=>ok_jn (λs=>s=(l.take (a+1)).filter (nd needs i)) ?_ λs hs=>hk s hs) λh=>absurd (show(a:Int)<(l.length:Int) by omega) h;intro k5 h5;refine ok_ixL a rfl ha (ok_bnde (aai _ _ _ (h0 i hi) (h0 _ (List.getElem_mem ha))) (ok_br (λh=>?_) λh=>?_))
 refine ok_ixL a rfl ha (gZ ak ak (h5 _ ?_))
 grind
 grind
 rintro t k hI
 rw[nM] at hI;unfold Ig;refine ok_brd (λh=>absurd h aB) λ_=>?_
 refine jQ (λs=>∃ a:Nat,s.1=(a:Int)/\a<=s.2.length/\s.2.Nodup/\(∀ x∈s.2,TC l needs i x)/\(∀ x∈l,nd needs i x=true->x∈s.2)/\∀ m y,m<a->y∈l->(∀ z,s.2[m]?=some z->nd needs z y=true->y∈s.2))
  (λs=>2000001-s.1.toNat) ⟨0,rfl,Nat.zero_le _,?_,?_,?_,λm y h=>by omega⟩ (by show 2000001-_<18446744073709551616;omega) ?_
 grind
 subst hI;intro x hx;rw[List.mem_filter] at hx;exact .one _ _ hi hx.1 hx.2
 grind
 rintro⟨a',T⟩ k ⟨a,e,ha,hnd,J,g,I⟩ hk
 simp only at e ha hnd J g I;subst e;have hlen:T.length<=2000000:=Nat.le_trans (Ky T l hnd λx hx=>(J x hx).r) hl;unfold NM;refine ok_brd (λh=>?_) λh=>?_
 have C:a<T.length:=by grind[lenI]
 refine iY 0 l.length (λn (u:List Int)=>u.Nodup/\(∀ x∈u,TC l needs i x)/\(∀ (m:Nat) (z:Int),T[m]?=some z->u[m]?=some z)/\(∀ x∈T,x∈u)/\∀ y∈l.take n,nd needs T[a] y=true->y∈u) 0 rfl (Nat.zero_le _) ae ⟨hnd,J,λ_ _ h=>h,λ_ h=>h,by simp⟩ ?_ ?_
 rintro b u k' hb ⟨hu1,hu2,hu3,hu4,hu5⟩ hk'
 have hulen:u.length<=2000000:=Nat.le_trans (Ky u l hu1 λx hx=>(hu2 x hx).r) hl;have hua:u[a]?=some T[a]:=hu3 a _ (List.getElem?_eq_getElem C);have hua2:a<u.length:=by grind
 have hua3:u[a]=T[a]:=by grind
 unfold Ie;refine ok_brd (λ_=>ok_jn (λs=>s=if nd needs T[a] l[b]=true/\l[b] ∉ u then u++[l[b]] else u) ?_ λs hs=>hk' s ?_) λh=>absurd (show(b:Int)<(l.length:Int) by omega) h
 intro k17 h17;refine ok_jn (λs=>s=decide (nd needs T[a] l[b]=true/\l[b] ∉ u)) ?_ ?_
 intro k20 h20;refine gU a rfl hua2 (gB hua2 (ok_ixL b rfl hb ?_));rw[hua3];refine ok_bnde (aai _ _ _ (h0 _ (J _ (List.getElem_mem C)).r) (h0 _ (List.getElem_mem hb))) (ok_br (λh=>?_) λh=>?_)
 refine ok_ixL b rfl hb (ok_bnde (ac7 u _ ae) (h20 _ ?_))
 grind
 grind
 rintro s rfl
 refine ok_brd (λh=>ok_ixL b rfl hb (gZ ak ak (h17 _ (by rw[if_pos h])))) λh=>h17 _ (by rw[if_neg h])
 have hb2:∀ y∈l.take (b+1),y∈l.take b\/y=l[b]:=by grind[take_succ_get]
 by_cases h:nd needs T[a] l[b]=true/\l[b] ∉ u
 rw[if_pos h] at hs;subst hs;refine⟨?_,?_,?_,?_,?_⟩
 grind
 intro x hx;simp only[List.mem_append,List.mem_singleton] at hx;rcases hx with hx|hx
 grind
 subst hx;have h1:=J _ (List.getElem_mem C);exact h1.trans (.one _ _ h1.r (List.getElem_mem hb) h.1)
 grind
 grind
 grind
 grind
 rintro u k' ⟨hu1,hu2,hu3,hu4,hu5⟩
 have hulen:u.length<=2000000:=Nat.le_trans (Ky u l hu1 λx hx=>(hu2 x hx).r) hl;rw[nM] at hu5;unfold Ie;have hau:a<u.length:=by have:=hu3 a _ (List.getElem?_eq_getElem C);grind
 refine ok_brd (λh=>absurd h ak) λ_=>?_;rw[addI_nat ae];refine hk (_,u) ⟨a+1,rfl,hau,hu1,hu2,λx hx h=>hu4 x (g x hx h),?_⟩ ak
 grind
 have hae:a=T.length:=by grind[lenI]
 refine ok_some ⟨hlen,λx=>⟨J x,λhx=>?_⟩⟩
 have hall:∀ z∈T,∀ y∈l,nd needs z y=true->y∈T:=by
  intro z hz y hy h;obtain⟨m,hm,rfl⟩:=List.getElem_of_mem hz;exact I m y ae hy _ (List.getElem?_eq_getElem hm) h
 have key:∀ a x,TC l needs a x->(a=i\/a∈T)->x∈T:=by
  intro a x h
  induction h<;>grind
 grind
theorem ae3 (left:List Int)(needs:List (List Bool))(g:left.length<=2000000):OI left needs=some (xU (elF left) needs):=by
 unfold OI;have hlen:(elF left).length<=2000000:=Nat.le_trans (TB left) g;refine ok_eq (ok_bnde (aah left g) ?_);have h0:∀ x∈elF left,0<=x:=λx hx=>((ZJ left x).1 hx).2;have J:=agD left;generalize hE:elF left=l at *;refine iY 0 l.length (λn t=>t=(l.take n).filter (OV l needs)) 0 rfl (Nat.zero_le _) ae aF ?_ ?_
 rintro a t k ha hI hk
 have hlt:t.length<=2000000:=by grind
 have hs:(l.take (a+1)).filter (OV l needs)=t++(if OV l needs l[a]=true then [l[a]] else []):=by
  grind[take_succ_get]
 unfold LZ;refine ok_brd (λ_=>ok_jn (λs=>s=(l.take (a+1)).filter (OV l needs)) ?_ λs hs=>hk s hs) λh=>absurd (show(a:Int)<(l.length:Int) by omega) h;intro k6 h6;refine DN 0 l.length (λn c=>c=!((l.take n).any (Ru l needs l[a]))) 0 rfl (Nat.zero_le _) ae aF ?_ ?_
 rintro b c k9 hb hc hk9
 have hs2:(!((l.take (b+1)).any (Ru l needs l[a])))=(c&&!Ru l needs l[a] l[b]):=by
  grind[take_succ_get]
 unfold LY;refine ok_brd (λ_=>ok_jn (λs=>s=(c&&!Ru l needs l[a] l[b])) ?_ λs hs=>hk9 s ak) λh=>absurd (show(b:Int)<(l.length:Int) by omega) h;intro k12 h12;refine ok_jn (λs=>s=Ru l needs l[a] l[b]) ?_ ?_
 intro k15 T;refine qM (λh=>?_) λh=>?_
 have C:b≠a:=by grind
 have hne:l[b]≠l[a]:=λe=>C ((List.getElem_inj J).1 e);refine ok_ixL a rfl ha (ok_ixL b rfl hb (ok_bnde (aai _ _ _ (h0 _ (List.getElem_mem ha)) (h0 _ (List.getElem_mem hb))) (ok_br (λh2=>?_) λh2=>T _ (by unfold Ru;simp[h2]))));refine ok_ixL b rfl hb (fA (ac8 l needs _ hlen J h0 (List.getElem_mem hb)) ?_)
 rintro r ⟨hr,hr2⟩
 refine ok_ixL a rfl ha (ok_bnde (ac7 r _ ae) (T _ ?_))
 have hx:decide (l[a]∈r)=tcB l needs l[b] l[a]:=by
  rw[Bool.eq_iff_iff,ZK,decide_eq_true_iff];exact hr2 _
 simp_all[Ru]
 grind[Ru]
 rintro s rfl
 grind[ok_br]
 rintro c k9 hc
 rw[nM] at hc;unfold LY;refine ok_brd (λh=>absurd h aB) λ_=>?_;have I:c=OV l needs l[a]:=hc;refine ok_br (λh=>?_) λh=>h6 _ ?_
 have h' : OV l needs l[a]=true:=I ▸ h;refine ok_ixL a rfl ha (gZ ak ak (h6 _ ?_))
 grind
 grind
 rintro t k hI
 unfold LZ;rw[nM] at hI;refine ok_brd (λh=>absurd h aB) λ_=>ok_some hI
theorem TS (stamps:List Int)(i:Int)(h:0<=i):Gq stamps i=some (stF stamps i):=by
 obtain⟨a,rfl⟩:=Int.eq_ofNat_of_zero_le h;unfold Gq stF;refine ok_eq (ok_brd (λh=>?_) λh=>?_)
 have T:a<stamps.length:=by grind[lenI]
 exact ok_ixL a rfl T (ok_some (by simp[T]))
 grind[lenI,ok_some]
theorem ag1 (left stamps:List Int)(needs:List (List Bool))(J:left.length<=2000000):Rq left stamps needs=some (Jk stamps (xU (elF left) needs)):=by
 unfold Rq;refine ok_eq (ok_bnde (ae3 left needs J) ?_);have h0:∀ x∈xU (elF left) needs,0<=x:=λx hx=>((ZJ left x).1 (OL _ _ _ hx)).2;have hlen:(xU (elF left) needs).length<=2000000:=Nat.le_trans (Yt _ _) (Nat.le_trans (TB left) J);generalize xU (elF left) needs=r at *;refine DN 0 r.length (λn b=>b=Jk stamps (r.take n)) 0 rfl (Nat.zero_le _) ae rfl ?_ ?_
 rintro a b k ha hI hk
 have g:b=-1\/0<=b:=by grind[Yr]
 have hx:=h0 _ (List.getElem_mem ha);unfold NP;refine ok_brd (λ_=>ok_jn (λs=>s=nx stamps b r[a]) ?_ λs hs=>hk s (by grind[WJ])) λh=>absurd (show(a:Int)<(r.length:Int) by omega) h;intro k6 I;refine ok_ixL a rfl ha (ok_bnde (TS _ _ hx) ?_);refine ok_jn (λs=>s=decide (b<0\/stF stamps r[a]<stF stamps b\/(stF stamps r[a]=stF stamps b/\r[a]<b))) ?_ ?_
 intro C T;refine ok_brd (λh=>T _ ak) λh=>?_;simp only at h;refine ok_bnde (TS _ _ ak) (ok_brd (λh2=>T _ ak) λh2=>ok_bnde (TS _ _ ak) (ok_brd (λt=>ok_ixL a rfl ha (T _ ?_)) λt=>T _ ?_))
 grind
 grind
 rintro s rfl
 refine ok_brd (λh2=>ok_ixL a rfl ha (I _ (by simp_all[nx]))) λh2=>I _ (by unfold nx;rw[if_neg h2])
 rintro b k hI
 unfold NP;rw[nM] at hI;refine ok_brd (λh=>absurd h (by show ¬ (r.length:Int)<(r.length:Int);omega)) λ_=>ok_some hI
def Asc (l:List fC):Prop:=∀ i j (hi:i<l.length) (hj:j<l.length),i<j->(l[i]).id<(l[j]).id
theorem ac9 (a b:Int):∃ y,cmp_Compare_int a b=some y/\(y<0↔a<b)/\(y=0↔a=b):=by
 unfold cmp_Compare_int cmp_isNaN_int
 by_cases h:a<b
 grind[bnd,br]
 by_cases h2:b<a
 grind[bnd,br]
 exact⟨0,by simp[bnd,br,h,h2],by simp[h],by omega⟩
theorem aiK (x:List fC)(id:Int)(hx:x.length<=2000000)(ha:Asc x) :
  Ok (λr=>∃ i:Nat,r.1=(i:Int)/\(∀ k (h:k<x.length),k<i->(x[k]).id<id)/\(∀ k (h:k<x.length),i<=k->id<=(x[k]).id)/\(r.2=true↔∃ h:i<x.length,(x[i]).id=id)) (oG x id yR):=by
 unfold oG;refine jQ (λs=>∃ i j:Nat,s.1=(i:Int)/\s.2=(j:Int)/\i<=j/\j<=x.length/\(∀ k (h:k<x.length),k<i->(x[k]).id<id)/\(∀ k (h:k<x.length),j<=k->id<=(x[k]).id)) (λs=>(s.2-s.1).toNat) ⟨0,x.length,rfl,rfl,Nat.zero_le _,Nat.le_refl _,λ_ _ h=>by omega,λ_ _ h=>by omega⟩ (by show((x.length:Int)-0).toNat<18446744073709551616;omega) ?_
 rintro⟨a,b⟩ k ⟨i,j,e1,C,hij,hj,g,hr⟩ hk
 simp only at e1 C;subst e1 C;unfold uT yR;refine ok_brd (λh=>?_) λh=>?_
 have I:i<j:=by simpa using h
 have hs:jF .shr .u64 (IntKind.wrap .u64 (addI (i:Int) (j:Int))) 1=some (((i+j) / 2:Nat):Int):=by
  have e:addI (i:Int) (j:Int)=((i+j:Nat):Int):=by
   show IntKind.i64.wrap _=_
   grind[wrap_in]
  rw[e];have C:IntKind.wrap .u64 ((i+j:Nat):Int)=((i+j:Nat):Int):=by rw[IntKind.wrap_u64];omega
  rw[C];show some (Int.fdiv ((i+j:Nat):Int) (2 ^ (min (1:Int).toNat 64)))=_
  grind
 refine ok_bnde hs ?_;have hm:(i+j) / 2<j:=by omega
 have J:i<=(i+j) / 2:=by omega
 generalize (i+j) / 2=m at hm J;have e3:IntKind.wrap .i64 (m:Int)=(m:Int):=wrap_in ae ae;rw[e3];have T:m<x.length:=by omega
 obtain⟨y,t,y1,_⟩:=ac9 (x[m]).id id;refine ok_ixL m rfl T (ok_bnde (x:=y) (by rw[t];rfl) (ok_brd (λh2=>hk _ ⟨m+1,j,addI_nat ae,rfl,by omega,hj,λk h h3=>?_,hr⟩ ?_) λh2=>hk _ ⟨i,m,rfl,rfl,J,by omega,g,λk h h3=>?_⟩ ?_))
 have:=y1.1 h2
 by_cases e:k=m
 grind
 have:=ha k m h T ae;omega
 grind[addI_nat]
 have:¬ (x[m]).id<id:=λq=>h2 (y1.2 q)
 by_cases e:k=m
 grind
 have:=ha m k T h ae;omega
 grind
 have e:i=j:=by grind
 subst e;refine ok_brd (λh2=>?_) λh2=>?_
 have I:i<x.length:=by simpa [lenI] using h2
 obtain⟨y,t,_,y2⟩:=ac9 (x[i]).id id;refine ok_ixL i rfl I (ok_bnde (x:=y) (by rw[t];rfl) (ok_some ⟨i,rfl,g,hr,?_⟩))
 grind
 refine ok_some ⟨i,rfl,g,hr,⟨λh=>bY,λ⟨h,_⟩=>absurd h ?_⟩⟩
 grind[lenI]
def Plc (s:GState)(id p:Int):Prop:=(p=-1/\∀ k (h:k<s.objects.length),(s.objects[k]).id≠id)\/∃ k:Nat,p=(k:Int)/\∃ h:k<s.objects.length,(s.objects[k]).id=id
theorem ag2 (s:GState)(id:Int)(ho:s.objects.length<=2000000)(J:Asc s.objects):Ok (Plc s id) (rE s id):=by
 unfold rE;refine fA (aiK _ _ ho J) ?_
 rintro⟨p,b⟩ ⟨i,e,h1,h2,I⟩
 simp only at e I;subst e;refine ok_br (λT=>ok_some (.inl ⟨rfl,λk hk e=>?_⟩)) λT=>ok_some (.inr ⟨i,rfl,?_⟩)
 have T:b=false:=by grind
 subst T
 by_cases C:k<i
 grind
 have:=h2 k hk ae;refine absurd (I.2 ?_) aF
 by_cases t:k=i
 grind
 have:=J i k ae hk ae
 grind
 grind
theorem ag3 (s:GState)(id:Int)(ho:s.objects.length<=2000000):Ok (Plc s id) (Dt s id):=by
 unfold Dt;refine ok_for1 0 s.objects.length (λi=>∀ k (h:k<s.objects.length),k<i->(s.objects[k]).id≠id) 0 rfl (Nat.zero_le _) ae (λ_ _ h=>by omega) (λi k hi T hk=>?_) λk T=>?_
 unfold LV;refine ok_brd (λ_=>ok_ixL i rfl hi (ok_brd (λe=>ok_some (.inr ⟨i,rfl,hi,e⟩)) λe=>hk λj hj h=>?_)) λh=>absurd (show(i:Int)<(s.objects.length:Int) by omega) h
 grind
 unfold LV;exact ok_brd (λh=>absurd h aN) λ_=>ok_some (.inl ⟨rfl,λk h=>T k h h⟩)
theorem Jp {l:List fC}(T:Asc l){i j:Nat}(hi:i<l.length)(hj:j<l.length)(e:(l[i]).id=(l[j]).id):i=j:=by
 rcases Nat.lt_trichotomy i j with h|h|h
 have:=T i j hi hj h;omega
 exact h
 have:=T j i hj hi h;omega
theorem aiL {s:GState}(T:Asc s.objects){id p q:Int}(h:Plc s id p)(h2:Plc s id q):p=q:=by
 rcases h with ⟨rfl,h⟩|⟨k,rfl,hk,h⟩<;>rcases h2 with ⟨rfl,h2⟩|⟨j,rfl,hj,h2⟩
 rfl
 grind
 grind
 grind[Jp]
theorem ag4 (s:GState)(id:Int)(ho:s.objects.length<=2000000)(T:Asc s.objects):∃ p,rE s id=some p/\Dt s id=some p/\-1<=p/\p<(s.objects.length:Int):=by
 obtain⟨p,e,h⟩:=ag2 s id ho T;obtain⟨q,J,h2⟩:=ag3 s id ho;have:=aiL T h h2;subst this;refine⟨p,e,J,?_⟩;rcases h with ⟨rfl,_⟩|⟨k,rfl,hk,_⟩<;>omega
theorem ixD {α:Type}{l:List α}{i:Int}(d:α)(h0:0<=i)(h1:i<(l.length:Int)):gu l i=some (l.getD i.toNat d):=by
 obtain⟨n,rfl⟩:=Int.eq_ofNat_of_zero_le h0
 grind[ni]
theorem ixN {α:Type}{l:List α}{n:Nat}(d:α)(h1:n<l.length):gu l (n:Int)=some (l.getD n d):=ixD d ae ae
theorem ixO_get {α ρ:Type}(l:List α)(i:Int)(k:α->Option ρ):(bnd (jS l.length i) λj=>bnd (l[j]?) k)=bnd (gu l i) k:=by
 cases i with
 | negSucc n=>rfl
 | ofNat n=>
  show bnd (bif Nat.blt n l.length then some n else none) _=bnd (l[n]?) k
  by_cases h:n<l.length
  rw[show Nat.blt n l.length=true by simp_all];rfl
  rw[show Nat.blt n l.length=false by rw[<- Bool.not_eq_true,Nat.blt_eq];exact h,List.getElem?_eq_none ae];rfl
def stg (k:Int):Int:=(wJ k).getD 0
theorem abD (k:Int):wJ k=some (stg k):=by
 obtain⟨r,e,_⟩:=Xu k
 grind[abA,stg]
theorem stg_p (k:Int):uP k=some (stg k):=by rw[abA,abD]
def f30 (f:GLayerForce):ig:=⟨f.source,f.iZ,f.control,f.stamp,f.fixed,f.objects,f.filter,f.mods⟩
def v30 (w:GLayerWorld)(B:List Bool)(S:List (List Int)):ik:=⟨w.s,w.traits,w.forces.map f30,B,S,w.dropped⟩
def oid (s:GState)(k:Int):Int:=(s.objects.getD k.toNat qi).id
def FV (f:GLayerForce):Prop:=(f.fixed=false->r13_Is f.filter=some true)/\∀ m∈f.mods,lG m=some true/\(m.kind=11->r13_Is m.filter=some true)
structure HypE (s:GState)(L:List GLayerForce):Prop extends alI s L where
 asc:Asc s.objects
 fv:∀ f∈L,FV f
def plc (s:GState)(id:Int):Int:=(rE s id).getD (-1)
def youP (s:GState)(T:List eQ)(f:GLayerForce):Int:=bif f.fixed || decide (plc s f.source<0) then f.control else(T.getD (plc s f.source).toNat zGTraits).control
def drpP (s:GState)(D:List Bool)(f:GLayerForce):Bool:=decide (0<=plc s f.source)&&D.getD (plc s f.source).toNat false
def lstP (s:GState)(T:List eQ)(y c:Int)(f:GFilter):List Int:=(nI s T y c f).getD []
def numF (s:GState)(T:List eQ)(f:GLayerForce)(stage:Int)(m:GMod):Int:=bif decide (m.kind=11)&&decide (stg m.kind=stage) then((lstP s T (youP s T f) f.source m.filter).length:Int) else 0
def hitB (s:GState)(T:List eQ)(f:GLayerForce)(k:Nat):Bool := let o:=s.objects.getD k qi;decide (o.iI=0)&&(bif f.fixed then decide (o.id∈f.objects) else(lX o (T.getD k zGTraits) (youP s T f) f.source f.filter).getD false)
def RU (l:List Nat):List Int:=l.map Int.ofNat
def affL (s:GState)(T:List eQ)(f:GLayerForce):List Int:=RU ((List.range s.objects.length).filter (hitB s T f))
section
variable {s:GState}{L:List GLayerForce}(H:HypE s L){w:GLayerWorld}(W:WLK s L w){B:List Bool}{S:List (List Int)}
include H
theorem ajg (id:Int):rE s id=some (plc s id)/\Dt s id=some (plc s id)/\-1<=plc s id/\plc s id<(s.objects.length:Int):=by
 obtain⟨p,e,T,h⟩:=ag4 s id (by have:=H.ho;omega) H.asc
 grind[plc]
include W
theorem fr_p {n:Nat}(T:n<L.length):gu w.forces (n:Int)=some L[n]/\gu (v30 w B S).l (n:Int)=some (f30 L[n]):=by
 refine⟨?_,?_⟩
 rw[W.l,ni,List.getElem?_eq_getElem T]
 show gu (w.forces.map f30) _=_;rw[W.l,ni,List.getElem?_map,List.getElem?_eq_getElem T];rfl
theorem ad8 {n:Nat}(C:n<L.length):nP w n=some (youP s w.traits L[n])/\LW (v30 w B S) n=some (youP s w.traits L[n]):=by
 obtain⟨e1,I⟩:=fr_p (B:=B) (S:=S) H W C;obtain⟨J,i2,p1,p2⟩:=ajg H (L[n]).source;have t:=W.all;unfold nP LW youP;rw[e1,I];simp only[bnd,f30,W.st,J,jn,show(v30 w B S).s=s from W.st,i2]
 by_cases T:plc s (L[n]).source<0
 cases (L[n]).fixed<;>simp[br,T,show ¬ 0<=plc s (L[n]).source by omega]
 grind[ixD,br,v30]
theorem KD {n:Nat}(J:n<L.length)(g:B.length=L.length):nU w n=some ((L[n]).fixed || (w.done.getD n false || !drpP s w.dropped L[n]))/\zK (v30 w B S) n=some ((L[n]).fixed || (B.getD n false || !drpP s w.dropped L[n])):=by
 obtain⟨e1,t⟩:=fr_p (B:=B) (S:=S) H W J;obtain⟨C,i2,p1,p2⟩:=ajg H (L[n]).source;have wd:=W.drp;have d1:=ixN (l:=w.done) false (n:=n) (by rw[W.don];exact J);have d2:=ixN (l:=B) false (n:=n) ak;unfold nU zK drpP;rw[e1,t,d1];simp only[bnd,f30,W.st,C,jn,show(v30 w B S).s=s from W.st,i2,show(v30 w B S).begun=B from rfl,d2,show(v30 w B S).blank=w.dropped from rfl];generalize B.getD n false=b;generalize w.done.getD n false=d
 by_cases T:plc s (L[n]).source<0
 cases (L[n]).fixed<;>cases b<;>cases d<;>simp[br,T]
 have I:=ixD (l:=w.dropped) false (i:=plc s (L[n]).source) ae ae;rw[I];generalize w.dropped.getD _ _=x;cases (L[n]).fixed<;>cases b<;>cases d<;>cases x<;>simp[br,T,show 0<=plc s (L[n]).source by omega]
end
theorem mat_eq (o:fC)(t:eQ)(you source:Int)(f:GFilter)(U:r13_Is f=some true)(T:jG t)(J:szGFilter f):lX o t you source f=sD o t you source f:=by
 obtain⟨g,e1,_⟩:=ER t.line f.sub T.2.1 J;obtain⟨va,I,_⟩:=NU t.cost 0;refine agY o t you source f U (by have:=T.2.1.1;omega) (abC _) (mt:=λb n=>(Ad b n).getD false) e1 rfl (λb n=>?_) (by rw[<- abC];exact I);unfold Ad
 by_cases h0:b.kind=0<;>by_cases h1:b.kind=1<;>by_cases h2:b.kind=2<;>by_cases C:b.kind=3<;>simp[br,h0,h1,h2,C]
section
variable {s:GState}{L:List GLayerForce}(H:HypE s L){w:GLayerWorld}(W:WLK s L w){B:List Bool}{S:List (List Int)}
include H W
theorem at_p (i:Nat)(hi:i<s.objects.length):ZF w.traits i=some (w.traits.getD i zGTraits):=by
 have:=W.all;unfold ZF;rw[ixN zGTraits (by omega:i<w.traits.length)];simp[br,bnd,lenI,show ¬ (w.traits.length:Int)<=i by omega,show ¬ (i:Int)<0 by omega]
theorem tr_D (i:Nat):jG (w.traits.getD i zGTraits):=by
 by_cases h:i<w.traits.length
 have:=W.tr _ (List.getElem_mem h);grind
 grind[agJ]
theorem list_p (y c:Int)(f:GFilter)(U:szGFilter f)(hv:r13_Is f=some true):nI w.s w.traits y c f=some (lstP s w.traits y c f)/\r29_List w.s w.traits y c f=some (lstP s w.traits y c f):=by
 have ho:=H.ho;have I:=W.all
 have e:nI w.s w.traits y c f=some (lstP s w.traits y c f):=by
  obtain⟨r,e,_⟩:=agN H.1 W y c f U;rw[e,lstP,<- W.st,e];rfl
 refine⟨e,?_⟩;rw[<- e,W.st];unfold nI r29_List;refine loop_rel (λa b=>a=b/\∃ i:Nat,i<=s.objects.length/\a.1=(i:Int)) ⟨rfl,0,by omega,rfl⟩ ?_
 rintro⟨C,t⟩ _ k J ⟨rfl,i,hi,e⟩ hk
 simp only at e;subst e;unfold uX r29_List_l1
 by_cases h:i<s.objects.length
 have e1:gu s.objects (i:Int)=some s.objects[i]:=by grind[ni]
 have T:∀ u,k (addI (i:Int) 1,u)=J (addI (i:Int) 1,u):=λu=>hk _ _ ⟨rfl,i+1,h,addI_nat ae⟩;simp only[e1,bnd,jn,lenI,I,h,decide_true,br,Int.ofNat_lt,at_p H W i h,ixN zGTraits (show i<w.traits.length by omega),mat_eq _ _ _ _ _ hv (tr_D H W i) U,T]
 simp[br,lenI,h]
theorem YB {n:Nat}(C:n<L.length)(stage:Int) :
  pF w n stage=some ((L[n]).mods.map (numF s w.traits L[n] stage))/\Af (v30 w B S) n stage=some (((L[n]).mods.filter λm=>decide (stg m.kind=stage)).map (numF s w.traits L[n] stage)):=by
 obtain⟨e1,e2⟩:=fr_p (B:=B) (S:=S) H W C;obtain⟨y1,y2⟩:=ad8 (B:=B) (S:=S) H W C;have hz:=H.f _ (List.getElem_mem C);have hv:=H.fv _ (List.getElem_mem C);unfold pF Af;rw[e1,e2];show(bnd (jm _ _ 8) _=_)/\loopF (BX (v30 w B S) n stage (f30 L[n])) (0,[])=_;generalize L[n]=f at *;have hm:=hz.2.2;have hml:=hm.1
 have key:∀ m∈f.mods,m.kind=11->nI w.s w.traits (youP s w.traits f) f.source m.filter=some (lstP s w.traits (youP s w.traits f) f.source m.filter)/\r29_List w.s w.traits (youP s w.traits f) f.source m.filter=some (lstP s w.traits (youP s w.traits f) f.source m.filter) :=
  λm h h2=>list_p H W _ _ _ (hm.2 m h).2 ((hv.2 m h).2 h2)
 constructor
 refine ok_eq (PS (n:=f.mods.length) rfl rfl ae ae (zS ?_));refine iY 0 f.mods.length (λi t=>t=(f.mods.take i).map (numF s w.traits f stage)++List.replicate (f.mods.length-i) 0) 0 rfl (Nat.zero_le _) ae aF (λi t k hi I hk=>?_) λt k I=>?_
 subst I;have hl:i<((f.mods.take i).map (numF s w.traits f stage)++List.replicate (f.mods.length-i) 0).length:=by simp;omega
 have g:gu f.mods (i:Int)=some f.mods[i]:=by grind[ni]
 have J:=key _ (List.getElem_mem hi);have ht:=take_succ_get f.mods i hi;have hr:List.replicate (f.mods.length-i) (0:Int)=0::List.replicate (f.mods.length-(i+1)) 0:=by rw[<- List.replicate_succ];congr 1;omega
 unfold ru;simp only[g,bnd,jn,stg_p,y1];refine ok_brd (λ_=>?_) λh=>absurd (show(i:Int)<(f.mods.length:Int) by omega) h
 have fin:∀ v,v=numF s w.traits f stage f.mods[i]->Ok (λr=>r=f.mods.map (numF s w.traits f stage)) (k (addI (i:Int) 1,((f.mods.take i).map (numF s w.traits f stage)++List.replicate (f.mods.length-i) 0).set i v)):=by
  rintro v rfl
  refine hk _ ?_;rw[ht,hr,List.set_append];simp[-List.take_append_getElem,Nat.min_eq_left (Nat.le_of_lt hi)]
 have T:0=numF s w.traits f stage f.mods[i]->Ok (λr=>r=f.mods.map (numF s w.traits f stage)) (k (addI (i:Int) 1,(f.mods.take i).map (numF s w.traits f stage)++List.replicate (f.mods.length-i) 0)):=λe=>by
  grind
 by_cases h1:f.mods[i].kind=11
 by_cases h2:stg f.mods[i].kind=stage
 rw[decide_eq_true h1,decide_eq_true h2];simp only[br,(J h1).1];exact gU i rfl hl (gB hl (fin _ (by grind[numF])))
 rw[decide_eq_true h1,decide_eq_false h2];exact T (by grind[numF])
 rw[decide_eq_false h1];exact T (by simp[numF,h1])
 unfold ru;subst I;exact ok_brd (λh=>absurd h aQ) λ_=>ok_some aF
 refine ok_eq (iY 0 f.mods.length (λi t=>t=((f.mods.take i).filter λm=>decide (stg m.kind=stage)).map (numF s w.traits f stage)) 0 rfl (Nat.zero_le _) ae aF (λi t k hi I hk=>?_) λt k I=>?_)
 have g:gu f.mods (i:Int)=some f.mods[i]:=by grind[ni]
 have J:=key _ (List.getElem_mem hi);have ht:=take_succ_get f.mods i hi
 have hl:t.length<=i:=by
  grind
 unfold BX;simp only[f30,g,bnd,jn,abD,y2];refine ok_brd (λ_=>?_) λh=>absurd (show(i:Int)<(f.mods.length:Int) by omega) h;refine qM (λh2=>hk _ ak) λh2=>?_
 have fin:∀ v,v=numF s w.traits f stage f.mods[i]->Ok (λr=>r=(f.mods.filter λm=>decide (stg m.kind=stage)).map (numF s w.traits f stage)) (gY (t.length+[v].length) 8 (k (addI (i:Int) 1,t++[v]))):=by
  rintro v rfl
  grind[gZ]
 refine ok_brd (λh1=>?_) λh1=>fin _ (by simp[numF,h1]);rw[show(v30 w B S).s=w.s from rfl,show(v30 w B S).all=w.traits from rfl,(J h1).2]
 grind[numF,lenI]
 unfold BX;subst I;rw[nM];exact ok_brd (λh=>absurd h aQ) λ_=>ok_some rfl
end
theorem alK (w:GLayerWorld)(i:Int):vT w i=nP w i:=by
 grind[vT,nP,ixO_get]
theorem abE (w:GLayerWorld)(i:Int):pV w i=nU w i:=by
 grind[pV,nU,ixO_get]
theorem WX (w:GLayerWorld)(i:Int):mr w i=mV w i:=by
 unfold mr mV su oq;simp only[ixO_get,abE]
theorem akp (s:GState)(T:List eQ)(y c:Int)(f:GFilter):D5 s T y c f=nI s T y c f:=by
 unfold D5 nI Ku uX;simp only[ixO_get]
theorem YC (w:GLayerWorld)(i stage:Int):oQ w i stage=pF w i stage:=by
 unfold oQ pF yA ru;simp only[akp]
theorem akq (w:GLayerWorld)(i stage:Int):qW w i stage=lV w i stage:=by
 grind[qW,lV,YC,abE,WX]
theorem ad9 (l:List Int)(n:Int)(J:l.length<=2000000):Rn l n=some (decide (n∈l)):=by
 unfold Rn;refine ok_eq (fA (R:=λy=>(n ∉ l/\y=-1)\/(n∈l/\0<=y)) ?_ ?_)
 unfold Ac;refine ok_for1 0 l.length (λi=>n ∉ l.take i) 0 rfl (Nat.zero_le _) ae aF (λi k hi T hk=>?_) λk T=>?_
 unfold BU;refine ok_brd (λ_=>ok_ixL i rfl hi (ok_brd (λe=>ok_some (.inr ⟨e ▸ List.getElem_mem hi,by omega⟩)) λe=>hk ?_)) λh=>absurd (show(i:Int)<(l.length:Int) by omega) h
 grind[take_succ_get]
 unfold BU;rw[nM] at T;exact ok_brd (λh=>absurd h aB) λ_=>ok_some (.inl ⟨T,rfl⟩)
 rintro y (⟨h,rfl⟩|⟨h,h2⟩)
 grind[ok_some]
 grind[ok_some]
theorem WY (l:List Nat)(i:Nat):RU (l++[i])=RU l++[(i:Int)]:=by simp[RU]
theorem Ci (p:Nat->Bool)(i:Nat):(List.range (i+1)).filter p=bif p i then(List.range i).filter p++[i] else(List.range i).filter p:=by
 grind[List.range_succ]
section
variable {s:GState}{L:List GLayerForce}(H:HypE s L){w:GLayerWorld}(W:WLK s L w){B:List Bool}{S:List (List Int)}
include H W
theorem YD {n:Nat}(T:n<L.length)(hb:B.length=L.length)(hs:S.length=L.length) :
  mV w n=some (bif w.done.getD n false then w.hits.getD n [] else bif (L[n]).fixed || !drpP s w.dropped L[n] then affL s w.traits L[n] else []) /\
  Ae (v30 w B S) n=some (bif B.getD n false then S.getD n [] else bif (L[n]).fixed || !drpP s w.dropped L[n] then(affL s w.traits L[n]).map (oid s) else []):=by
 obtain⟨e1,e2⟩:=fr_p (B:=B) (S:=S) H W T;obtain⟨y1,y2⟩:=ad8 (B:=B) (S:=S) H W T;obtain⟨a1,a2⟩:=KD (B:=B) (S:=S) H W T hb;have C:=H.f _ (List.getElem_mem T);have hv:=H.fv _ (List.getElem_mem T);have d1:=ixN (l:=w.done) false (n:=n) (by rw[W.don];exact T);have d2:=ixN (l:=B) false (n:=n) ak;have d3:=ixN (l:=w.hits) [] (n:=n) (by rw[W.hit];exact T);have d4:=ixN (l:=S) [] (n:=n) ak;unfold mV Ae;rw[a1,a2,d1,d3,e1,e2,y1];rw[show(v30 w B S).begun=B from rfl,show(v30 w B S).sets=S from rfl,d2,d4];simp only[bnd];generalize B.getD n false=b;generalize w.done.getD n false=d;generalize drpP s w.dropped L[n]=x;generalize L[n]=f at *;have ho:=H.ho;have wa:=W.all;have g:=C.1.1;have bef:∀ x:Bool,(x==false)=!x:=λx=>by cases x<;>rfl
 have P1:loopF (oq w f (youP s w.traits f)) (0,[])=some (affL s w.traits f):=by
  refine ok_eq (iY 0 s.objects.length (λi t=>t=RU ((List.range i).filter (hitB s w.traits f))) 0 rfl (Nat.zero_le _) ae rfl (λi t k hi I hk=>?_) λt k I=>?_)
  have hl:t.length<=i:=by grind[RU]
  have f1:hitB s w.traits f i=true->Ok (λr=>r=affL s w.traits f) (gY (t.length+[(i:Int)].length) 8 (k (addI (i:Int) 1,t++[(i:Int)]))):=λh=>gZ ak ak (hk _ (by simp_all[Ci,WY]));have f2:hitB s w.traits f i=false->Ok (λr=>r=affL s w.traits f) (k (addI (i:Int) 1,t)):=λh=>hk _ (by simp_all[Ci]);obtain⟨m,em,_⟩:=yx s.objects[i] (w.traits.getD i zGTraits) (youP s w.traits f) f.source f.filter (tr_D H W i) C.2.1
  have hB:hitB s w.traits f i=(decide ((s.objects[i]).iI=0)&&(bif f.fixed then decide ((s.objects[i]).id∈f.objects) else m)):=by
   grind[hitB]
  rw[hB] at f1 f2;unfold oq;simp only[W.st,ni,List.getElem?_eq_getElem hi,bnd,jn,Jl f.objects _ ae,(ni w.traits i).symm,ixN zGTraits (show i<w.traits.length by omega),em];refine ok_brd (λ_=>?_) λh=>absurd (show(i:Int)<(s.objects.length:Int) by omega) h;revert f1 f2;cases decide ((s.objects[i]).iI=0)<;>cases f.fixed<;>cases decide ((s.objects[i]).id∈f.objects)<;>cases m<;>intro f1 f2<;>first|exact f1 rfl|exact f2 rfl
  unfold oq;rw[W.st];exact ok_brd (λh=>absurd h aN) λ_=>ok_some I
 have P2:loopF (BV (v30 w B S) n (f30 f)) (0,[])=some ((affL s w.traits f).map (oid s)):=by
  refine ok_eq (iY 0 s.objects.length (λi t=>t=(RU ((List.range i).filter (hitB s w.traits f))).map (oid s)) 0 rfl (Nat.zero_le _) ae rfl (λi t k hi I hk=>?_) λt k I=>?_)
  have hl:t.length<=i:=by grind[RU]
  have go:s.objects.getD i qi=s.objects[i]:=by simp[hi]
  have f1:hitB s w.traits f i=true->Ok (λr=>r=(affL s w.traits f).map (oid s)) (gY (t.length+[(s.objects[i]).id].length) 8 (k (addI (i:Int) 1,t++[(s.objects[i]).id]))):=λh=>gZ ak ak (hk _ (by simp_all[Ci,WY,oid]));have f2:hitB s w.traits f i=false->Ok (λr=>r=(affL s w.traits f).map (oid s)) (k (addI (i:Int) 1,t)):=λh=>hk _ (by simp_all[Ci]);obtain⟨m,em,_⟩:=yx s.objects[i] (w.traits.getD i zGTraits) (youP s w.traits f) f.source f.filter (tr_D H W i) C.2.1
  have hB:hitB s w.traits f i=(decide ((s.objects[i]).iI=0)&&(bif f.fixed then decide ((s.objects[i]).id∈f.objects) else m)):=by
   grind[hitB]
  have J:f.fixed=false->sD s.objects[i] (w.traits.getD i zGTraits) (youP s w.traits f) f.source f.filter=some m:=λh=>by
   rw[<- mat_eq _ _ _ _ _ (hv.1 h) (tr_D H W i) C.2.1,em]
  rw[hB] at f1 f2;unfold BV;simp only[show(v30 w B S).s=s from W.st,show(v30 w B S).all=w.traits from rfl,ni,List.getElem?_eq_getElem hi,bnd,jn,f30,ad9 f.objects _ ae,(ni w.traits i).symm,ixN zGTraits (show i<w.traits.length by omega),y2];refine ok_brd (λ_=>?_) λh=>absurd (show(i:Int)<(s.objects.length:Int) by omega) h;revert f1 f2 J;cases decide ((s.objects[i]).iI=0)<;>cases f.fixed<;>cases decide ((s.objects[i]).id∈f.objects)<;>intro f1 f2 J<;>(try rw[J rfl])<;>cases m<;>first|exact f1 rfl|exact f2 rfl
  unfold BV;rw[show(v30 w B S).s=s from W.st];exact ok_brd (λh=>absurd h aN) λ_=>ok_some I
 rw[P1,P2];cases b<;>cases d<;>cases x<;>cases f.fixed<;>exact⟨rfl,rfl⟩
end
def wu (stage you:Int)(g:GMod->Int)(ms:List GMod)(t:eQ):eQ:=ms.foldl (λt m=>bif decide (stg m.kind=stage) then(qK t m you (g m)).getD t else t) t
def dropB (stage:Int)(ms:List GMod):Bool:=ms.any λm=>decide (stg m.kind=stage)&&decide (m.kind=10)
def Cj (h:List Int)(F:eQ->eQ)(T:List eQ):List eQ:=T.mapIdx λk t=>bif decide ((k:Int)∈h) then F t else t
def appD (h:List Int)(b:Bool)(D:List Bool):List Bool:=D.mapIdx λk d=>d || (b&&decide ((k:Int)∈h))
theorem ap1 (t:eQ)(m:GMod)(y c:Int)(T:jG t)(J:rC m)(hv:lG m=some true):∃ x,Dp t m y c=some x/\qK t m y c=some x/\jG x:=by
 obtain⟨x,e,h⟩:=aeU t m y c T J;exact⟨x,e,by rw[<- agX t m y c hv (WT t T) (by have:=T.2.1.1;omega)];exact e,h⟩
theorem Vj (stage y:Int)(g:GMod->Int):∀ (ms:List GMod),(∀ m∈ms,rC m/\lG m=some true)->∀ t,jG t->jG (wu stage y g ms t)
 | [],_,t,ht=>ht
 | m::ms,h,t,ht=>by
  show jG (wu stage y g ms _);refine Vj stage y g ms (λm T=>h m (by simp[T])) _ ?_;obtain⟨x,_,e,hx⟩:=ap1 t m y (g m) ht (h m aF).1 (h m aF).2
  grind
theorem YE (stage y:Int)(g:GMod->Int)(ms:List GMod)(t:eQ)(j:Nat)(hj:j<ms.length):wu stage y g (ms.take (j+1)) t=bif decide (stg (ms[j]).kind=stage) then(qK (wu stage y g (ms.take j) t) ms[j] y (g ms[j])).getD (wu stage y g (ms.take j) t) else wu stage y g (ms.take j) t:=by
 grind[take_succ_get,wu]
theorem drop_take (stage:Int)(ms:List GMod)(j:Nat)(hj:j<ms.length):dropB stage (ms.take (j+1))=(dropB stage (ms.take j) || (decide (stg (ms[j]).kind=stage)&&decide ((ms[j]).kind=10))):=by
 grind[take_succ_get,dropB]
theorem abG (F:eQ->eQ)(T:List eQ):Cj [] F T=T:=by
 refine List.ext_getElem (by simp[Cj]) λi h1 h2=>by simp[Cj]
theorem abH (b:Bool)(D:List Bool):appD [] b D=D:=by
 refine List.ext_getElem (by simp[appD]) λi h1 h2=>by simp[appD]
theorem ag5 (h:List Int)(F:eQ->eQ)(T:List eQ)(m:Nat)(I:m<T.length)(J:(m:Int) ∉ h):Cj (h++[(m:Int)]) F T=(Cj h F T).set m (F ((Cj h F T).getD m zGTraits)):=by
 have e:(Cj h F T).getD m zGTraits=T[m]:=by simp[Cj,I,J]
 rw[e];refine List.ext_getElem (by simp[Cj]) λi h1 h2=>?_
 grind[Cj]
theorem ag6 (h:List Int)(b:Bool)(D:List Bool)(m:Nat)(T:m<D.length):appD (h++[(m:Int)]) b D=bif b then(appD h b D).set m true else appD h b D:=by
 cases b
 simp[appD]
 refine List.ext_getElem (by simp[appD]) λi h1 h2=>?_;simp only[cond_true]
 grind[appD]
theorem aiM (b c:Bool)(D:List Bool)(m:Nat):(bif c then(bif b then D.set m true else D).set m true else(bif b then D.set m true else D))=bif b || c then D.set m true else D:=by
 grind[List.set_set]
def affP (s:GState)(w:GLayerWorld)(f:GLayerForce)(n:Nat):List Int:=bif w.done.getD n false then w.hits.getD n [] else bif f.fixed || !drpP s w.dropped f then affL s w.traits f else []
def appW (s:GState)(w:GLayerWorld)(f:GLayerForce)(n:Nat)(stage:Int):GLayerWorld := ⟨w.s,w.forces,Cj (affP s w f n) (wu stage (youP s w.traits f) (numF s w.traits f stage) f.mods) w.traits,appD (affP s w f n) (dropB stage f.mods) w.dropped,w.done.set n true,w.hits.set n (affP s w f n)⟩
section
variable {s:GState}{L:List GLayerForce}(H:HypE s L){w:GLayerWorld}(W:WLK s L w){B:List Bool}{S:List (List Int)}
include H W
theorem TU {n:Nat}(T:n<L.length):ad2 s.objects.length (affP s w L[n] n):=by
 have ho:=H.ho;have hh:=W.hit;unfold affP;cases w.done.getD n false
 cases ((L[n]).fixed || !drpP s w.dropped L[n])
 exact⟨Nat.zero_le _,by simp⟩
 show ad2 _ (affL s w.traits L[n]);unfold affL RU;refine⟨?_,λy hy=>?_⟩<;>grind
 have h:n<w.hits.length:=by omega
 have:w.hits.getD n []=w.hits[n]:=by simp[h]
 rw[this];exact W.akk _ (List.getElem_mem h)
theorem ag7 {n:Nat}(J:n<L.length)(T:(w.hits.getD n []).Nodup):(affP s w L[n] n).Nodup:=by
 unfold affP;cases w.done.getD n false
 cases ((L[n]).fixed || !drpP s w.dropped L[n])
 simp
 show(affL s w.traits L[n]).Nodup;unfold affL RU;rw[List.Nodup,List.pairwise_map];exact(List.nodup_range.filter _).imp λh e=>h (Int.ofNat.inj e)
 exact T
theorem aea {n:Nat}(J:n<L.length)(stage:Int)(hd:(w.hits.getD n []).Nodup):oh w n stage=some (appW s w L[n] n stage):=by
 have ho:=H.ho;obtain⟨e1,_⟩:=fr_p (B:=w.done) (S:=w.hits) H W J;obtain⟨y1,_⟩:=ad8 (B:=w.done) (S:=w.hits) H W J;obtain⟨a1,_⟩:=YD (B:=w.done) (S:=w.hits) H W J W.don W.hit;obtain⟨n1,_⟩:=YB (B:=w.done) (S:=w.hits) H W J stage;have hi0:=TU H W J;have hnd:=ag7 H W J hd;have hz:=H.f _ (List.getElem_mem J);have hv:=H.fv _ (List.getElem_mem J);have d1:n<w.done.length:=by rw[W.don];exact J
 have d2:n<w.hits.length:=by rw[W.hit];exact J
 have a1:mV w n=some (affP s w L[n] n):=a1;unfold oh appW;rw[WX,YC,alK,a1,n1,y1];simp only[bnd];generalize affP s w L[n] n=h at *;generalize U:L[n]=f at *;generalize hy:youP s w.traits f=y at *;generalize hg:numF s w.traits f stage=g at *;have hl:=hi0.1;have hm:=hz.2.2;have hml:=hm.1;have hmz:∀ m∈f.mods,rC m/\lG m=some true:=λm h=>⟨hm.2 m h,(hv.2 m h).1⟩
 have wa:=W.all;have wd:=W.drp;refine ok_eq (iY 0 h.length (λi t=>t=(Cj (h.take i) (wu stage y g f.mods) w.traits,appD (h.take i) (dropB stage f.mods) w.dropped)) 0 rfl (Nat.zero_le _) ae (by simp[abG,abH]) (λi t k hi hI hk=>?_) λt k hI=>?_)
 subst hI;obtain⟨m1,m2⟩:=hi0.2 _ (List.getElem_mem hi)
 have T:h[i] ∉ h.take i:=by
  grind[List.getElem_of_mem,List.getElem_inj]
 have htk:=take_succ_get h i hi;obtain⟨m,em⟩:=Int.eq_ofNat_of_zero_le m1;rw[em] at m2 T htk;have C:m<w.traits.length:=by omega
 have hmd:m<w.dropped.length:=by omega
 have lT:(Cj (h.take i) (wu stage y g f.mods) w.traits).length=w.traits.length:=by simp[Cj]
 have lD:(appD (h.take i) (dropB stage f.mods) w.dropped).length=w.dropped.length:=by simp[appD]
 have h2:=ag5 (h.take i) (wu stage y g f.mods) w.traits m C T;have h3:=ag6 (h.take i) (dropB stage f.mods) w.dropped m hmd
 have hsz:jG ((Cj (h.take i) (wu stage y g f.mods) w.traits).getD m zGTraits):=by
  have:(Cj (h.take i) (wu stage y g f.mods) w.traits).getD m zGTraits=w.traits[m]:=by simp[Cj,C,T]
  rw[this];exact W.tr _ (List.getElem_mem C)
 unfold qC;refine ok_brd (λ_=>ok_ixL i rfl hi (ok_bnde e1 ?_)) λh'=>absurd (show(i:Int)<(h.length:Int) by omega) h';rw[em];generalize Cj (h.take i) (wu stage y g f.mods) w.traits=T1 at *;generalize appD (h.take i) (dropB stage f.mods) w.dropped=D1 at *;have hmT:m<T1.length:=by omega
 have hmD:m<D1.length:=by omega
 refine iY 0 f.mods.length (λj t=>t=(T1.set m (wu stage y g (f.mods.take j) (T1.getD m zGTraits)),bif dropB stage (f.mods.take j) then D1.set m true else D1)) 0 rfl (Nat.zero_le _) ae ?_ (λj u k2 hj hJ I=>?_) λu k2 hJ=>?_
 simp_all[wu,dropB]
 subst hJ;have hms:=hmz _ (List.getElem_mem hj);have hsz2:=Vj stage y g (f.mods.take j) (λm' h'=>hmz m' (List.mem_of_mem_take h')) _ hsz;have nj:j<(f.mods.map g).length:=by simp[hj]
 obtain⟨x,x1,x2,x3⟩:=ap1 (wu stage y g (f.mods.take j) (T1.getD m zGTraits)) f.mods[j] y (g f.mods[j]) hsz2 hms.1 hms.2;have tk:=YE stage y g f.mods (T1.getD m zGTraits) j hj;have td:=drop_take stage f.mods j hj;rw[x2] at tk;unfold qB;refine ok_brd (λ_=>?_) λh'=>absurd (show(j:Int)<(f.mods.length:Int) by omega) h';refine ok_ixL j rfl hj (ok_bnde (stg_p _) (qM (λhs=>I _ ?_) λhs=>?_))
 grind
 rw[decide_eq_true hs] at tk td;have e4:(T1.set m (wu stage y g (f.mods.take j) (T1.getD m zGTraits)))[m]?=some (wu stage y g (f.mods.take j) (T1.getD m zGTraits)):=by simp[hmT]
 have e5:(f.mods.map g)[j]?=some (g f.mods[j]):=by simp[hj]
 refine gU m rfl (by simp[hmT]) (ok_bnde e4 (gU j rfl nj (ok_bnde e5 (ok_bnde x1 (gU m rfl (by simp[hmT]) (ok_bnde e4 ?_))))));have hT:(T1.set m (wu stage y g (f.mods.take j) (T1.getD m zGTraits))).set m x=T1.set m (wu stage y g (f.mods.take (j+1)) (T1.getD m zGTraits)):=by simp_all
 have hD:=aiM (dropB stage (f.mods.take j)) (decide ((f.mods[j]).kind=10)) D1 m;refine ok_brd (λh10=>gU m rfl ak (zS (gB ak (I _ ?_)))) λh10=>I _ ?_
 grind
 grind
 subst hJ;unfold qB;rw[List.take_length];exact ok_brd (λh=>absurd h aQ) λ_=>hk _ (by rw[htk,h2,h3])
 subst hI;unfold qC;rw[List.take_length];exact ok_brd (λh=>absurd h (by show ¬ (List.length _:Int)<(List.length _:Int);omega)) λ_=>gU n rfl d1 (zS (gB d1 (gU n rfl d2 (gB d2 (ok_some rfl)))))
end
theorem ae4 {α:Type}(p:α->Bool)(l:List α)(i:Nat)(hi:i<l.length)(T:p l[i]=true):(l.filter p)[((l.take i).filter p).length]?=some l[i]:=by
 have:l=l.take i++l[i]::l.drop (i+1):=by simp
 grind
theorem aiN (f:GLayerForce)(stage:Int)(g:f.mods.length<=1048576):OE (f30 f) stage=some (dropB stage f.mods):=by
 unfold OE;refine ok_eq (ok_for1 0 f.mods.length (λi=>dropB stage (f.mods.take i)=false) 0 rfl (Nat.zero_le _) ae rfl (λi k hi J hk=>?_) λk J=>?_)
 have t:=drop_take stage f.mods i hi;rw[J] at t
 have T:(decide (stg (f.mods[i]).kind=stage)&&decide ((f.mods[i]).kind=10))=true->dropB stage f.mods=true:=λh=>by
  grind[dropB]
 unfold LX;refine ok_brd (λ_=>ok_jn (λb=>b=(decide (stg (f.mods[i]).kind=stage)&&decide ((f.mods[i]).kind=10))) (λk5 I=>?_) λb C=>ok_br (λh=>ok_some (T (C ▸ h)).symm) λh=>hk ak) λh=>absurd (show(i:Int)<(f.mods.length:Int) by omega) h;exact ok_ixL i rfl hi (ok_brd (λ(h:(f.mods[i]).kind=10)=>ok_ixL i rfl hi (ok_bnde (abD _) (I _ (by rw[decide_eq_true h,Bool.and_true];rfl)))) λ(h:¬ (f.mods[i]).kind=10)=>I _ ak)
 unfold LX;rw[List.take_length] at J;exact ok_brd (λh=>absurd h aQ) λ_=>ok_some J.symm
theorem ada (f:GLayerForce)(stage y:Int)(g:GMod->Int)(t:eQ)(hl:f.mods.length<=1048576)(hv:∀ m∈f.mods,rC m/\lG m=some true)(C:jG t) :
  FX t (f30 f) stage y ((f.mods.filter λm=>decide (stg m.kind=stage)).map g)=some (wu stage y g f.mods t):=by
 unfold FX;refine ok_eq (jQ (λu=>∃ i:Nat,i<=f.mods.length/\u=(wu stage y g (f.mods.take i) t,((((f.mods.take i).filter λm=>decide (stg m.kind=stage)).length:Nat):Int),(i:Int))) (λu=>f.mods.length-u.2.2.toNat) ⟨0,Nat.zero_le _,rfl⟩ (by show f.mods.length-_<18446744073709551616;omega) ?_)
 rintro _ k ⟨i,hi',rfl⟩ hk
 unfold MH;refine ok_brd (λh=>?_) λh=>?_
 have hi:i<f.mods.length:=by grind[lenI,f30]
 have J:=hv _ (List.getElem_mem hi);have tk:=YE stage y g f.mods t i hi;obtain⟨x,_,T,_⟩:=ap1 _ f.mods[i] y (g f.mods[i]) (Vj stage y g (f.mods.take i) (λm h=>hv m (List.mem_of_mem_take h)) t C) J.1 J.2;rw[T] at tk;have ln:((f.mods.take i).filter λm=>decide (stg m.kind=stage)).length<=i:=Nat.le_trans (List.length_filter_le _ _) aY;refine ok_jn (λp=>p=(wu stage y g (f.mods.take (i+1)) t,((((f.mods.take (i+1)).filter λm=>decide (stg m.kind=stage)).length:Nat):Int))) (λk5 I=>?_) λp hp=>hk _ ⟨i+1,hi,by grind[addI_nat]⟩ ?_
 refine ok_ixL i rfl hi (ok_bnde (abD _) ?_);refine ok_brd (λhs=>?_) λhs=>I _ ?_
 have hs:stg (f.mods[i]).kind=stage:=hs;have fa:=ae4 (λm=>decide (stg m.kind=stage)) f.mods i hi (decide_eq_true hs);rw[decide_eq_true hs] at tk;refine ok_ixL i rfl hi (ok_bnde (x:=g f.mods[i]) (by grind[ni]) (ok_bnde T (I _ ?_)))
 grind[take_succ_get,addI_nat]
 have hs:¬ stg (f.mods[i]).kind=stage:=hs
 grind[take_succ_get]
 grind[addI_nat]
 grind[lenI,f30,ok_some]
section
variable {s:GState}{L:List GLayerForce}(H:HypE s L){w:GLayerWorld}(W:WLK s L w){B:List Bool}{S:List (List Int)}
include H W
theorem akr {h:List Int}(hh:ad2 s.objects.length h){i:Nat}(hi:i<s.objects.length):((s.objects[i]).id∈h.map (oid s))↔((i:Int)∈h):=by
 rw[List.mem_map];constructor
 rintro⟨x,hx,e⟩
 obtain⟨T,J⟩:=hh.2 x hx;obtain⟨j,rfl⟩:=Int.eq_ofNat_of_zero_le T;have hj:j<s.objects.length:=by omega
 have e:(s.objects[j]).id=(s.objects[i]).id:=by grind[oid]
 rw[Jp H.asc hi hj e.symm];exact hx
 grind[oid]
theorem ae5 {n:Nat}(T:n<L.length)(stage:Int)(hb:B.length=L.length)(hs:S.length=L.length)
  (hr:((L[n]).fixed || (B.getD n false || !drpP s w.dropped L[n]))=true->(bif B.getD n false then S.getD n [] else bif (L[n]).fixed || !drpP s w.dropped L[n] then(affL s w.traits L[n]).map (oid s) else [])=(affP s w L[n] n).map (oid s)) :
  xR (v30 w B S) n stage=some (bif (L[n]).fixed || (B.getD n false || !drpP s w.dropped L[n]) then v30 (appW s w L[n] n stage) (B.set n true) (S.set n ((affP s w L[n] n).map (oid s))) else v30 w B S):=by
 have ho:=H.ho;have hL:=H.len;obtain⟨_,e1⟩:=fr_p (B:=B) (S:=S) H W T;obtain⟨_,y1⟩:=ad8 (B:=B) (S:=S) H W T;obtain⟨_,c1⟩:=KD (B:=B) (S:=S) H W T hb;obtain⟨_,a1⟩:=YD (B:=B) (S:=S) H W T hb hs;obtain⟨_,n1⟩:=YB (B:=B) (S:=S) H W T stage;have I:=TU H W T;have hz:=H.f _ (List.getElem_mem T);have hv:=H.fv _ (List.getElem_mem T);have hml:=hz.2.2.1;have wa:=W.all;have wd:=W.drp;unfold xR;rw[c1];cases hact:((L[n]).fixed || (B.getD n false || !drpP s w.dropped L[n]))
 rfl
 rw[a1,hr hact,n1,y1];simp only[bnd];unfold appW;generalize affP s w L[n] n=h at *;generalize U:L[n]=f at *;generalize hy:youP s w.traits f=y at *;generalize hg:numF s w.traits f stage=g at *;have hmz:∀ m∈f.mods,rC m/\lG m=some true:=λm h=>⟨hz.2.2.2 m h,(hv.2 m h).1⟩
 have C:=λi (hi:i<s.objects.length)=>akr H W I hi;have hlh:(h.map (oid s)).length<=2000000:=by have:=I.1;simp;omega
 generalize hset:h.map (oid s)=set at *;refine ok_eq ?_;have B1:n<(v30 w B S).begun.length:=by show n<B.length;omega
 have S1:n<(v30 w B S).sets.length:=by show n<S.length;omega
 refine iJ rfl (gZ (by show(2*w.traits.length+192)*176<=_;omega) (by show w.traits.length<=_;omega) (gZ (by show(2*B.length+192)*1<=_;omega) (by show B.length<=_;omega) (gZ (by show(2*S.length+192)*24<=_;omega) (by show S.length<=_;omega) (gZ (by show(2*w.dropped.length+192)*1<=_;omega) (by show w.dropped.length<=_;omega) (gU n rfl B1 (zS (gB B1 (gU n rfl S1 (gB S1 ?_)))))))));refine iY 0 s.objects.length (λi t=>t=(w.traits.mapIdx (λk t=>bif decide (k<i)&&decide ((k:Int)∈h) then wu stage y g f.mods t else t),w.dropped.mapIdx λk d=>d || (dropB stage f.mods&&(decide (k<i)&&decide ((k:Int)∈h))))) 0 rfl (Nat.zero_le _) ae ?_ (λi t k hi hI hk=>?_) λt k hI=>?_
 refine Prod.ext (List.ext_getElem (by simp[v30]) λi h1 h2=>by simp[v30]) (List.ext_getElem (by simp[v30]) λi h1 h2=>by simp[v30])
 ·subst hI;have it:i<w.traits.length:=by omega
  have id:i<w.dropped.length:=by omega
  have J:((i:Int) ∉ h)->Ok (λr=>r=v30 ⟨w.s,w.forces,Cj h (wu stage y g f.mods) w.traits,appD h (dropB stage f.mods) w.dropped,w.done.set n true,w.hits.set n h⟩ (B.set n true) (S.set n set)) (k (addI (i:Int) 1,w.traits.mapIdx (λk t=>bif decide (k<i)&&decide ((k:Int)∈h) then wu stage y g f.mods t else t),w.dropped.mapIdx λk d=>d || (dropB stage f.mods&&(decide (k<i)&&decide ((k:Int)∈h))))):=λhni=>by
   refine hk _ (Prod.ext (List.ext_getElem aF λj h1 h2=>?_) (List.ext_getElem aF λj h1 h2=>?_))<;>grind
  unfold BZ;simp only[show(v30 w B S).s=s from W.st,show(v30 w B S).all=w.traits from rfl,e1];refine ok_brd (λ_=>ok_ixL i rfl hi (ok_bnde (ad9 set _ hlh) ?_)) λh'=>absurd (show(i:Int)<(s.objects.length:Int) by omega) h'
  by_cases hm:(i:Int)∈h
  rw[decide_eq_true ((C i hi).2 hm)]
  have hT:(w.traits.mapIdx (λk t=>bif decide (k<i)&&decide ((k:Int)∈h) then wu stage y g f.mods t else t)).set i (wu stage y g f.mods w.traits[i])=w.traits.mapIdx (λk t=>bif decide (k<i+1)&&decide ((k:Int)∈h) then wu stage y g f.mods t else t):=by
   refine List.ext_getElem aF λj h1 h2=>?_;rw[List.getElem_set]
   grind
  have hD:(bif dropB stage f.mods then(w.dropped.mapIdx λk d=>d || (dropB stage f.mods&&(decide (k<i)&&decide ((k:Int)∈h)))).set i true else w.dropped.mapIdx λk d=>d || (dropB stage f.mods&&(decide (k<i)&&decide ((k:Int)∈h))))=w.dropped.mapIdx λk d=>d || (dropB stage f.mods&&(decide (k<i+1)&&decide ((k:Int)∈h))):=by
   cases dropB stage f.mods
   simp
   refine List.ext_getElem aF λj h1 h2=>?_;simp only[cond_true];rw[List.getElem_set]
   by_cases ej:i=j
   grind
   simp[ej,show(j<i+1)=(j<i) by simp;omega]
  refine iJ rfl (ok_ixL i rfl it (ok_bnde rfl (ok_bnde (ada f stage y g _ hml hmz (W.tr _ (List.getElem_mem it))) (gU i rfl (by simp[it]) (gB (by simp[it]) (ok_bnde rfl (ok_bnde (aiN f stage hml) (ok_br (λhd=>gU i rfl (by simp[id]) (zS (gB (by simp[id]) (hk _ ?_)))) λhd=>hk _ ?_))))))))
  grind
  grind
  rw[decide_eq_false (λh'=>hm ((C i hi).1 h'))];exact J hm
 subst hI;unfold BZ;rw[show(v30 w B S).s=s from W.st];refine ok_brd (λh=>absurd h aN) λ_=>ok_some ?_
 have hT:(w.traits.mapIdx (λk t=>bif decide (k<s.objects.length)&&decide ((k:Int)∈h) then wu stage y g f.mods t else t))=Cj h (wu stage y g f.mods) w.traits:=by
  refine List.ext_getElem (by simp[Cj]) λj h1 h2=>?_
  grind[Cj]
 have hD:(w.dropped.mapIdx λk d=>d || (dropB stage f.mods&&(decide (k<s.objects.length)&&decide ((k:Int)∈h))))=appD h (dropB stage f.mods) w.dropped:=by
  refine List.ext_getElem (by simp[appD]) λj h1 h2=>?_;have:j<s.objects.length:=by grind
  simp[appD,this]
 simp only[hT,hD];simp only[v30,W.st];rfl
end
structure VR (s:GState)(L:List GLayerForce)(w:GLayerWorld)(B:List Bool)(S:List (List Int)):Prop where
 bl:B.length=L.length
 sl:S.length=L.length
 nd:∀ n,n<L.length->(w.hits.getD n []).Nodup
 r:∀ n (h:n<L.length),(B.getD n false=w.done.getD n false/\(w.done.getD n false=true->S.getD n []=(w.hits.getD n []).map (oid s))) \/
  (w.done.getD n false=true/\B.getD n false=false/\w.hits.getD n []=[]/\(L[n]).fixed=false/\drpP s w.dropped L[n]=true)
def actP (s:GState)(D:List Bool)(f:GLayerForce)(d:Bool):Bool:=f.fixed || (d || !drpP s D f)
def aiO (s:GState)(w:GLayerWorld)(f:GLayerForce)(b:Bool)(t:List Int):List Int:=bif b then t else bif f.fixed || !drpP s w.dropped f then(affL s w.traits f).map (oid s) else []
theorem getD_set {α:Type}(l:List α)(n m:Nat)(x d:α):(l.set n x).getD m d=if n=m/\n<l.length then x else l.getD m d:=by
 grind
theorem WZ (s:GState)(h:List Int)(b:Bool)(D:List Bool)(f:GLayerForce)(T:drpP s D f=true):drpP s (appD h b D) f=true:=by
 unfold drpP at *;simp only[Bool.and_eq_true] at *
 grind[appD]
theorem ag8 {f:Int->Int}:∀ a b:List Int,(∀ x∈a,∀ y∈b,f x=f y->x=y)->a.map f=b.map f->a=b
 | [],[],_,_=>rfl
 | [],_::_,_,h=>by simp at h
 | _::_,[],_,h=>by simp at h
 | x::a,y::b,h,e=>by
  simp only[List.map_cons,List.cons.injEq] at e;rw[h x aF y aF e.1,ag8 a b (λu hu v hv=>h u (by simp[hu]) v (by simp[hv])) e.2]
theorem aaj (a b:List Int)(C:a.length<=2000000):slices_Equal_int a b=some (decide (a=b)):=by
 unfold slices_Equal_int;refine ok_eq (qM (λh=>ok_some ?_) λh=>?_)
 grind
 have J:a.length=b.length:=by grind[lenI]
 refine ok_for1 0 a.length (λi=>∀ j (h1:j<a.length) (h2:j<b.length),j<i->a[j]=b[j]) 0 rfl (Nat.zero_le _) ae (λ_ _ _ h=>by omega) (λi k hi T hk=>?_) λk T=>?_
 unfold uB;refine ok_brd (λ_=>ok_ixL i rfl hi (ok_ixL i rfl ae (qM (λe=>ok_some (decide_eq_false λI=>e (by subst I;rfl)).symm) λe=>hk λj h1 h2 hj=>?_))) λh=>absurd (show(i:Int)<(a.length:Int) by omega) h
 grind
 unfold uB;exact ok_brd (λh=>absurd h (by show ¬ (a.length:Int)<(a.length:Int);omega)) λ_=>ok_some (decide_eq_true (List.ext_getElem J λj h1 h2=>T j h1 h2 h1)).symm
theorem ag9 (a b:List Int)(T:a.length<=2000000):NL a b=some (decide (a=b)):=by
 rw[<- aaj a b T];unfold NL slices_Equal_int UF uB;rfl
theorem ae6 {α:Type}(p:α->Bool)(g T : α->Int)(l:List α)(h:∀ x∈l,p x=false->g x=T x):(l.filter p).map g=(l.filter p).map T↔l.map g=l.map T:=by
 grind[List.map_inj_left]
def numL (s:GState)(T:List eQ)(f:GLayerForce)(stage:Int):List Int:=f.mods.map (numF s T f stage)
def chgB (s:GState)(w v:GLayerWorld)(f:GLayerForce)(n:Nat)(stage:Int):Bool := !(actP s w.dropped f (w.done.getD n false)==actP s v.dropped f (v.done.getD n false)) || (!decide (affP s w f n=affP s v f n) || !decide (numL s w.traits f stage=numL s v.traits f stage))
theorem aeb (x a b:Bool):br (x==false) (some true) (bnd (some a) λy=>br (y==false) (some true) (bnd (some b) λz=>some (z==false)))=some (!x || (!a || !b)):=by cases x<;>cases a<;>cases b<;>rfl
section
variable {s:GState}{L:List GLayerForce}(H:HypE s L){w:GLayerWorld}(W:WLK s L w){B:List Bool}{S:List (List Int)}(V:VR s L w B S)
include H W V
theorem aak {n:Nat}(T:n<L.length):aiO s w L[n] (B.getD n false) (S.getD n [])=(affP s w L[n] n).map (oid s):=by
 unfold aiO affP;rcases V.r n T with ⟨h1,h2⟩|⟨h1,h2,C,I,J⟩<;>grind
theorem apply_w {n:Nat}(I:n<L.length)(stage:Int):WLK s L (appW s w L[n] n stage):=by
 have g:=H.f _ (List.getElem_mem I);have hv:=H.fv _ (List.getElem_mem I);refine⟨W.st,W.l,by simp[appW,Cj,W.all],λt C=>?_,by simp[appW,W.don],by simp[appW,W.hit],λx hx=>?_,by simp[appW,appD,W.drp]⟩
 obtain⟨i,hi,e⟩:=List.getElem_of_mem C;have T : i<w.traits.length:=by simpa [appW,Cj] using hi
 have h0:=W.tr _ (List.getElem_mem T);have:t=bif decide ((i:Int)∈affP s w L[n] n) then wu stage (youP s w.traits L[n]) (numF s w.traits L[n] stage) (L[n]).mods w.traits[i] else w.traits[i]:=by grind[appW,Cj]
 rw[this];cases decide ((i:Int)∈affP s w L[n] n)
 exact h0
 exact Vj _ _ _ _ (λm J=>⟨g.2.2.2 m J,(hv.2 m J).1⟩) _ h0
 rcases List.mem_or_eq_of_mem_set hx with hx|hx
 exact W.akk x hx
 grind[TU]
theorem TV {n:Nat}(C:n<L.length)(stage:Int):∃ J I,xR (v30 w B S) n stage=some (v30 (appW s w L[n] n stage) J I)/\VR s L (appW s w L[n] n stage) J I/\∀ i,i≠n->J.getD i false=B.getD i false:=by
 have e:=ae5 H W (B:=B) (S:=S) C stage V.bl V.sl (λ_=>aak H W V C);have va:=aak H W V C;have hnd:=ag7 H W C (V.nd n C);have wd:=W.don;have wh:=W.hit
 have other:∀ (J : List Bool) (I : List (List Int)),(∀ i,i≠n->J.getD i false=B.getD i false/\I.getD i []=S.getD i [])->∀ i (h:i<L.length),i≠n ->
   ((J.getD i false=(appW s w L[n] n stage).done.getD i false/\((appW s w L[n] n stage).done.getD i false=true->I.getD i []=((appW s w L[n] n stage).hits.getD i []).map (oid s))) \/
   ((appW s w L[n] n stage).done.getD i false=true/\J.getD i false=false/\(appW s w L[n] n stage).hits.getD i []=[]/\(L[i]).fixed=false/\drpP s (appW s w L[n] n stage).dropped L[i]=true)):=by
  intro J I t i h hi;obtain⟨b1,b2⟩:=t i hi;have c1:(appW s w L[n] n stage).done.getD i false=w.done.getD i false:=by show(w.done.set n true).getD i false=_;grind
  have c2:(appW s w L[n] n stage).hits.getD i []=w.hits.getD i []:=by show(w.hits.set n _).getD i []=_;grind
  rw[b1,b2,c1,c2];rcases V.r i h with h1|⟨h1,h2,h3,h4,h5⟩
  exact .inl h1
  exact .inr ⟨h1,h2,h3,h4,WZ _ _ _ _ _ h5⟩
 have c1:(appW s w L[n] n stage).done.getD n false=true:=by show(w.done.set n true).getD n false=_;grind
 have c2:(appW s w L[n] n stage).hits.getD n []=affP s w L[n] n:=by show(w.hits.set n _).getD n []=_;grind
 have nd:∀ i,i<L.length->((appW s w L[n] n stage).hits.getD i []).Nodup:=by
  intro i hi
  by_cases h:i=n
  grind
  have:(appW s w L[n] n stage).hits.getD i []=w.hits.getD i []:=by show(w.hits.set n _).getD i []=_;grind
  rw[this];exact V.nd i hi
 cases T:((L[n]).fixed || (B.getD n false || !drpP s w.dropped L[n])) with
 | true=>
  rw[T] at e;refine⟨_,_,e,⟨by simp[V.bl],by simp[V.sl],nd,λi hi=>?_⟩,λi hi=>by grind⟩
  by_cases h:i=n
  subst h;rw[c1,c2,getD_set,if_pos ⟨rfl,by rw[V.bl];exact hi⟩,getD_set,if_pos ⟨rfl,by rw[V.sl];exact hi⟩]
  grind
  grind
 | false=>
  rw[T] at e;simp only[Bool.or_eq_false_iff,Bool.not_eq_false'] at T;obtain⟨x1,g,x3⟩:=T
  have he:affP s w L[n] n=[]:=by
   simp_all[aiO]
  refine⟨B,S,?_,⟨V.bl,V.sl,nd,λi hi=>?_⟩,λ_ _=>rfl⟩
  simp_all[v30,appW,abG,abH]
  by_cases h:i=n
  subst h;exact .inr ⟨c1,g,by rw[c2,he],x1,WZ _ _ _ _ _ x3⟩
  exact other _ _ (λ_ _=>⟨rfl,rfl⟩) i hi h
theorem aiP {i j:Nat}(hi:i<L.length)(hj:j<L.length)(stage:Int):OG (v30 w B S) i j stage=some (!decide (i=j)&&chgB s w (appW s w L[j] j stage) L[i] i stage):=by
 unfold OG
 by_cases J:i=j
 grind[br]
 have t:¬ (i:Int)=(j:Int):=by omega
 obtain⟨B',S',e,V',hB⟩:=TV H W V hj stage;have T:=apply_w H W V hj stage;have hz:=(H.f _ (List.getElem_mem hi)).2.2.1;rw[decide_eq_false t,e,decide_eq_false J];obtain⟨_,a1⟩:=KD (B:=B) (S:=S) H W hi V.bl;obtain⟨_,a2⟩:=KD (B:=B') (S:=S') H T hi V'.bl;obtain⟨_,f1⟩:=YD (B:=B) (S:=S) H W hi V.bl V.sl;obtain⟨_,f2⟩:=YD (B:=B') (S:=S') H T hi V'.bl V'.sl;obtain⟨_,n1⟩:=YB (B:=B) (S:=S) H W hi stage;obtain⟨_,n2⟩:=YB (B:=B') (S:=S') H T hi stage;have v1:=aak H W V hi;have v2:=aak H T V' hi;unfold aiO at v1 v2;rw[v1] at f1;rw[v2] at f2;have g1:=TU H W hi;have g2:=TU H T hi;have hB:=hB i J;have dn:(appW s w L[j] j stage).done.getD i false=w.done.getD i false:=by show(w.done.set j true).getD i false=_;grind
 have g:(((L[i]).fixed || (B.getD i false || !drpP s w.dropped L[i]))==((L[i]).fixed || (B'.getD i false || !drpP s (appW s w L[j] j stage).dropped L[i])))=(actP s w.dropped L[i] (w.done.getD i false)==actP s (appW s w L[j] j stage).dropped L[i] ((appW s w L[j] j stage).done.getD i false)):=by
  unfold actP;rw[hB,dn];rcases V.r i hi with ⟨h1,_⟩|⟨h1,h2,h3,h4,h5⟩<;>grind[appW,WZ]
 have C:decide ((affP s w L[i] i).map (oid s)=(affP s (appW s w L[j] j stage) L[i] i).map (oid s))=decide (affP s w L[i] i=affP s (appW s w L[j] j stage) L[i] i):=by
  refine decide_eq_decide.2 ⟨ag8 _ _ λx hx y hy e=>?_,λe=>by rw[e]⟩;obtain⟨x1,x2⟩:=g1.2 x hx;obtain⟨y1,y2⟩:=g2.2 y hy;obtain⟨a,rfl⟩:=Int.eq_ofNat_of_zero_le x1;obtain⟨b,rfl⟩:=Int.eq_ofNat_of_zero_le y1;have ha:a<s.objects.length:=by omega
  have hb:b<s.objects.length:=by omega
  have e:(s.objects[a]).id=(s.objects[b]).id:=by simp_all[oid]
  rw[Jp H.asc ha hb e]
 have I:decide (((L[i]).mods.filter λm=>decide (stg m.kind=stage)).map (numF s w.traits L[i] stage)=((L[i]).mods.filter λm=>decide (stg m.kind=stage)).map (numF s (appW s w L[j] j stage).traits L[i] stage))=decide ((L[i]).mods.map (numF s w.traits L[i] stage)=(L[i]).mods.map (numF s (appW s w L[j] j stage).traits L[i] stage)):=decide_eq_decide.2 (ae6 (λm=>decide (stg m.kind=stage)) (numF s w.traits L[i] stage) (numF s (appW s w L[j] j stage).traits L[i] stage) (L[i]).mods (λm hm hp=>by
  grind[numF]))
 unfold chgB numL;rw[<- g,<- C,<- I];have l1:=ag9 ((affP s w L[i] i).map (oid s)) ((affP s (appW s w L[j] j stage) L[i] i).map (oid s)) (by have:=g1.1;simp;omega);have l2:=ag9 (((L[i]).mods.filter λm=>decide (stg m.kind=stage)).map (numF s w.traits L[i] stage)) (((L[i]).mods.filter λm=>decide (stg m.kind=stage)).map (numF s (appW s w L[j] j stage).traits L[i] stage)) ak;simp only[bnd,a1,a2,f1,f2,n1,n2,l1,l2];exact aeb _ _ _
theorem ajh {i j:Nat}(hi:i<L.length)(hj:j<L.length)(stage:Int):∃ x y,lV w i stage=some x/\lV (appW s w L[j] j stage) i stage=some y/\uC x y=some (chgB s w (appW s w L[j] j stage) L[i] i stage):=by
 obtain⟨J,I,e,C,hB⟩:=TV H W V hj stage;have T:=apply_w H W V hj stage;have g:=(H.f _ (List.getElem_mem hi)).2.2.1;obtain⟨a1,_⟩:=KD (B:=B) (S:=S) H W hi V.bl;obtain⟨a2,_⟩:=KD (B:=J) (S:=I) H T hi C.bl;obtain⟨f1,_⟩:=YD (B:=B) (S:=S) H W hi V.bl V.sl;obtain⟨f2,_⟩:=YD (B:=J) (S:=I) H T hi C.bl C.sl;obtain⟨n1,_⟩:=YB (B:=B) (S:=S) H W hi stage;obtain⟨t,_⟩:=YB (B:=J) (S:=I) H T hi stage;have g1:=TU H W hi;refine⟨⟨_,_,_⟩,⟨_,_,_⟩,by unfold lV;rw[a1,f1,n1];rfl,by unfold lV;rw[a2,f2,t];rfl,?_⟩;unfold uC chgB numL;simp only;show br ((actP s w.dropped L[i] (w.done.getD i false)==actP s (appW s w L[j] j stage).dropped L[i] ((appW s w L[j] j stage).done.getD i false))==false) _ (bnd (slices_Equal_int (affP s w L[i] i) (affP s (appW s w L[j] j stage) L[i] i)) _)=_;rw[aaj _ _ (by have:=g1.1;omega),aaj _ _ ak];exact aeb _ _ _
end
theorem aks (x:Int):iL .and .i64 x 0=0:=by
 show IntKind.i64.wrap (((BitVec.ofInt 64 x &&& BitVec.ofInt 64 0).toNat:Nat):Int)=0;rw[show BitVec.ofInt 64 0=0#64 from rfl,BitVec.and_zero];rfl
theorem or_zero {a b:Int}(J:0<=a/\a<=63)(T:0<=b/\b<=63)(h:iL .or .i64 a b=0):a=0/\b=0:=by
 obtain⟨x,rfl⟩:=Int.eq_ofNat_of_zero_le J.1;obtain⟨y,rfl⟩:=Int.eq_ofNat_of_zero_le T.1;have h1:IntKind.i64.wrap (((BitVec.ofInt 64 (x:Int) ||| BitVec.ofInt 64 (y:Int)).toNat:Nat):Int)=0:=h;rw[BitVec.toNat_or,BitVec.ofInt_natCast,BitVec.ofInt_natCast,BitVec.toNat_ofNat,BitVec.toNat_ofNat,Nat.mod_eq_of_lt ae,Nat.mod_eq_of_lt ae] at h1;have C:x<=x ||| y:=Nat.left_le_or
 have l2:y<=x ||| y:=Nat.right_le_or
 have I:x ||| y<2 ^ 6:=Nat.or_lt_two_pow ae ae
 grind[wrap_in]
structure Ch (stage:Int)(t t' : eQ):Prop where
 cost:t'.cost=t.cost
 control:stage≠1->t'.control=t.control
 line:stage≠2->t'.line=t.line
 gK:stage≠3->t'.gK=t.gK
 keys:stage≠4->t'.keys=t.keys
 pt:stage<=4->t'.power=t.power/\t'.gz=t.gz
theorem Ch.refl (stage:Int)(t:eQ):Ch stage t t:=⟨rfl,λ_=>rfl,λ_=>rfl,λ_=>rfl,λ_=>rfl,λ_=>⟨rfl,rfl⟩⟩
theorem Ch.trans {stage:Int}{a b c:eQ}(h:Ch stage a b)(h2:Ch stage b c):Ch stage a c :=
 ⟨h2.cost.trans h.cost,λe=>(h2.control e).trans (h.control e),λe=>(h2.line e).trans (h.line e),λe=>(h2.gK e).trans (h.gK e),λe=>(h2.keys e).trans (h.keys e),λe=>⟨(h2.pt e).1.trans (h.pt e).1,(h2.pt e).2.trans (h.pt e).2⟩⟩
theorem aji (t:eQ)(m:GMod)(y n:Int){x:eQ}(h:qK t m y n=some x):Ch (stg m.kind) t x:=by
 unfold qK at h
 cases h0:lG m with
 | none=>rw[h0] at h;cases h
 | some b=>
 rw[h0] at h
 cases b with
 | false=>cases h;exact Ch.refl _ _
 | true=>
 simp only[bnd,br] at h;generalize hk:m.kind=k at h
 by_cases h1:k=1
 subst h1;cases h;exact⟨rfl,λh=>absurd rfl h,λ_=>rfl,λ_=>rfl,λ_=>rfl,λ_=>⟨rfl,rfl⟩⟩
 by_cases h2:k=2
 subst h2;cases h;exact⟨rfl,λ_=>rfl,λh=>absurd rfl h,λ_=>rfl,λ_=>rfl,λ_=>⟨rfl,rfl⟩⟩
 by_cases h3:k=3
 subst h3;cases h;exact⟨rfl,λ_=>rfl,λh=>absurd rfl h,λ_=>rfl,λ_=>rfl,λ_=>⟨rfl,rfl⟩⟩
 by_cases h4:k=4
 subst h4;cases h;exact⟨rfl,λ_=>rfl,λh=>absurd rfl h,λ_=>rfl,λ_=>rfl,λ_=>⟨rfl,rfl⟩⟩
 by_cases h5:k=5
 subst h5;simp only[show decide ((5:Int)=1)=false from rfl,show decide ((5:Int)=2)=false from rfl,show decide ((5:Int)=3)=false from rfl,show decide ((5:Int)=4)=false from rfl,show decide ((5:Int)=5)=true from rfl] at h
 cases ha:xQ t.line m.sub with
 | none=>grind
 | some l=>rw[ha] at h;cases h;exact⟨rfl,λ_=>rfl,λh=>absurd rfl h,λ_=>rfl,λ_=>rfl,λ_=>⟨rfl,rfl⟩⟩
 by_cases h6:k=6
 subst h6;cases h;exact⟨rfl,λ_=>rfl,λ_=>rfl,λh=>absurd rfl h,λ_=>rfl,λ_=>⟨rfl,rfl⟩⟩
 by_cases h7:k=7
 subst h7;cases h;exact⟨rfl,λ_=>rfl,λ_=>rfl,λh=>absurd rfl h,λ_=>rfl,λ_=>⟨rfl,rfl⟩⟩
 by_cases h8:k=8
 subst h8;cases h;exact⟨rfl,λ_=>rfl,λ_=>rfl,λ_=>rfl,λh=>absurd rfl h,λ_=>⟨rfl,rfl⟩⟩
 by_cases h9:k=9
 subst h9;cases h;exact⟨rfl,λ_=>rfl,λ_=>rfl,λ_=>rfl,λh=>absurd rfl h,λ_=>⟨rfl,rfl⟩⟩
 by_cases g:k=10
 subst g;cases h;exact⟨rfl,λ_=>rfl,λ_=>rfl,λ_=>rfl,λh=>absurd rfl h,λ_=>⟨rfl,rfl⟩⟩
 by_cases C:k=11
 subst C;obtain⟨v,T,_⟩:=wM n;rw[NY] at T;rw[T] at h;cases h;exact⟨rfl,λ_=>rfl,λ_=>rfl,λ_=>rfl,λ_=>rfl,λh=>absurd h aU⟩
 by_cases J:k=12
 subst J;cases h;exact⟨rfl,λ_=>rfl,λ_=>rfl,λ_=>rfl,λ_=>rfl,λh=>absurd h aU⟩
 by_cases h13:k=13
 subst h13;obtain⟨v,T,_⟩:=Ai t.power m.n;obtain⟨u,eu,_⟩:=Ai t.gz m.m;rw[add_eq] at T eu;rw[T,eu] at h;cases h;exact⟨rfl,λ_=>rfl,λ_=>rfl,λ_=>rfl,λ_=>rfl,λh=>absurd h aU⟩
 by_cases I:k=14
 subst I;cases h;exact⟨rfl,λ_=>rfl,λ_=>rfl,λ_=>rfl,λ_=>rfl,λh=>absurd h aU⟩
 simp_all[Ch.refl]
theorem aec (stage y:Int)(g:GMod->Int):∀ (ms:List GMod) (t:eQ),Ch stage t (wu stage y g ms t)
 | [],t=>Ch.refl _ _
 | m::ms,t=>by
  refine Ch.trans ?_ (aec stage y g ms _);dsimp only
  by_cases h:stg m.kind=stage
  rw[decide_eq_true h];cases e:qK t m y (g m)<;>grind[Ch.refl,aji]
  grind[Ch.refl]
theorem appT_ch {stage y:Int}{g:GMod->Int}{ms:List GMod}(h:List Int)(T:List eQ)(k:Nat):Ch stage (T.getD k zGTraits) ((Cj h (wu stage y g ms) T).getD k zGTraits):=by
 grind[Cj,Ch.refl,aec]
structure Ins (stage:Int)(f:GFilter):Prop where
 who:stage=1->f.who=0
 types:stage=2->f.types=0/\f.iw=0/\fQ .neq f.sub (bs [])=false
 gK:stage=3->f.gK=0/\f.gI=0
 keys:stage=4->f.keys=0
 pt:stage≠1->stage≠3->stage≠4->f.power.kind=0/\f.gz.kind=0
theorem sens_no (f:GFilter)(stage:Int)(hv:r13_Is f=some true)(h:layer_sensitive f stage=some false):Ins stage f:=by
 obtain⟨_,⟨⟨t1,t2,_⟩,c1,c2,_⟩,_⟩:=WV f hv rfl;unfold layer_sensitive at h;simp only[jn] at h
 have np:∀ {x y:Bool},br x (some true) (some y)=some false->x=false/\y=false:=by
  simp_all[br]
 by_cases e1:stage=1
 subst e1;refine⟨λ_=>?_,by omega,by omega,by omega,by omega⟩
 grind[br]
 by_cases I:stage=2
 ·subst I
  by_cases o:iL .or .i64 f.types f.iw=0
  ·obtain⟨C,o2⟩:=or_zero t1 t2 o
   by_cases p:f.power.kind=0<;>by_cases q:f.gz.kind=0<;>cases hs:fQ .neq f.sub (bs [])<;>first
    | (exfalso;simp[br,p,q,o,hs] at h;done)
    | exact⟨by omega,λ_=>⟨C,o2,hs⟩,by omega,by omega,λ_ _ _=>⟨p,q⟩⟩
  grind[br]
 by_cases J:stage=3
 subst J;refine⟨by omega,by omega,λ_=>or_zero ⟨c1.1,by omega⟩ ⟨c2.1,by omega⟩ ?_,by omega,by omega⟩
 grind[br]
 by_cases T:stage=4
 subst T;refine⟨by omega,by omega,by omega,λ_=>?_,by omega⟩
 grind[br]
 refine⟨λh=>absurd h e1,λh=>absurd h I,λh=>absurd h J,λh=>absurd h T,λ_ _ _=>?_⟩
 grind[br]
theorem obj_ins (o:fC){t T : eQ}{y J : Int}(c:Int){f:GFilter}{stage:Int}(hi:Ins stage f)(hc:Ch stage t T)(hy:stage≠1->J=y):sD o T J c f=sD o t y c f:=by
 have w:Ro T.control J f.who=Ro t.control y f.who:=by
  by_cases e:stage=1
  rw[hi.who e];rfl
  rw[hc.control e,hy e]
 have sh:∀ a:Int,kG a 0=some false:=λa=>by simp[kG,aks]
 have a1:kG T.line.types f.types=kG t.line.types f.types/\kG T.line.types f.iw=kG t.line.types f.iw:=by
  by_cases e:stage=2
  rw[(hi.types e).1,(hi.types e).2.1];grind
  rw[hc.line e];grind
 have a2:kG T.gK f.gK=kG t.gK f.gK/\kG T.gK f.gI=kG t.gK f.gI:=by
  by_cases e:stage=3
  rw[(hi.gK e).1,(hi.gK e).2];grind
  rw[hc.gK e];grind
 have k:Ea T.keys f.keys=Ea t.keys f.keys:=by
  by_cases e:stage=4
  rw[hi.keys e];unfold Ea;rw[aks,aks]
  rw[hc.keys e]
 have b:zL T f=zL t f:=by
  unfold zL;rw[hc.cost]
  by_cases e:stage=1\/stage=3\/stage=4
  rw[hc.line ae,(hc.pt ae).1,(hc.pt ae).2]
  obtain⟨p,q⟩:=hi.pt ae ae ae
  grind[kG,bnd,br]
 unfold sD;simp only[w,a1.1,a1.2,a2.1,a2.2,k,b]
 cases hs:fQ .neq f.sub (bs []) with
 | false=>simp only[br]
 | true=>
  have e:stage≠2:=λe=>by rw[(hi.types e).2.2] at hs;cases hs
  rw[hc.line e]
end Go.Proofs.YtchmoabpofnbaaaGreat
