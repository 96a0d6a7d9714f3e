import Derived.RangeFuncLeaves
import Derived.RangeFuncRecord
import Derived.LoopN
import Derived.Scope
import Derived.Test.YtlacmdnhabblcaaGreatB06
set_option linter.all false
namespace Go.Pv
open Go
theorem Tz {P:Program}{T:Tab}{cs:List PV}{K:List PV->Prop}(h:K cs):wkC (kK.lM P T) cs K:=by
 unfold wkC
 split
 exact⟨cs,rfl,λh=>h,λ_ _ _ _ h=>h,h⟩
 exact h
theorem afw {P:Program}{T:Tab}{lk:Nat->Option mJ}:∀ cs:List PV,ajU lk cs=Kw (kK.lM P T) lk cs
 | []=>rfl
 | v::vs=>by
  unfold ajU Kw;rw[afw (P:=P) (T:=T) vs]
  cases Kw (kK.lM P T) lk vs with
  | none=>rfl
  | some p =>
   obtain⟨U,δ⟩:=p;cases v<;>simp only[GX,GV]<;>rfl
theorem acB {P:Program}{T:Tab}{lk:Nat->Option mJ}:∀ cs:List PV,(∀ x∈cs,ahe x=true)->Kw (kK.lM P T) lk cs=some (cs,[])
 | [],_=>rfl
 | v::vs,h=>by
  unfold Kw;rw[acB vs λx hx=>h x (by simp[hx])];have hv:=h v aI;cases v<;>first|rfl|(cases hv;done)|skip
  rename_i f U
  cases U with
  | nil=>rfl
  | cons _ _=>cases hv
theorem acC (P:Program)(T:Tab){lk:Nat->Option mJ}{cs:List PV}{K:List PV->Dl->Rs}{r:PV×Dl}(h:ajV lk cs K=some r):∃ U δ,Kw (kK.lM P T) lk cs=some (U,δ)/\K U δ=some r:=by
 unfold ajV at h
 cases R:allB ahe cs with
 | true =>
  rw[R] at h;exact⟨cs,[],acB cs (UX R),h⟩
 | false =>
  rw[R,afw (P:=P) (T:=T)] at h
  cases hq:Kw (kK.lM P T) lk cs with
  | none=>rw[hq] at h;cases h
  | some p=>rw[hq] at h;exact⟨p.1,p.2,rfl,h⟩
theorem agd {P:Program}{T:Tab}{lk:Nat->Option mJ}{cs U : List PV}{δ:Dl}(h:Kw (kK.lM P T) lk cs=some (U,δ)):jR U=true:=(SG _ _ _ h).1
theorem afx (b:Nat):∀ δ:Dl,alZ b δ=abI b δ
 | []=>rfl
 | (c,x)::δ=>by
  show Bool.rec (motive:=λ_=>Bool) (alZ b δ) true (Nat.beq c b)=(Nat.beq c b || abI b δ);rw[afx b δ];cases Nat.beq c b<;>rfl
theorem Bf {b:Bool}(h:F5 b=true):b=false:=by cases b with|false=>rfl|true=>cases h
section
variable {P:Program}{T:Tab}{ps:List PV}{ev:Operand->PV}{lk:Nat->Option mJ}{id:Nat}{v:PV}{δ:Dl}(hev:∀ x,ev x=tK T ps x)
include hev
theorem amq {c a b:Operand}(h:ajN (ev c) (some (ev a,[])) (some (ev b,[]))=some (v,δ)):nK T (kK.lM P T) (.pick c a b) ps lk id (KS v δ):=by
 simp only[nK];rw[hev c] at h;rcases acw h with ⟨e,h⟩|⟨e,h⟩<;>cases h<;>simp only[e]<;>rw[hev]<;>exact KS.refl _ _
omit hev in
theorem akx {t:TypeId}(h:aeU (T.ti t) id=some (v,δ)):nK T (kK.lM P T) (.alloc t) ps lk id (KS v δ):=by
 obtain⟨agg,size,zero,plain,kind,R,h⟩:=qV h;obtain⟨z,U,h⟩:=KI h;simp only[nK,R,U];cases h;exact KS.refl _ _
theorem aol {t:TypeId}{x:Operand}(h:alq (ev x) id=some (v,δ)):nK T (kK.lM P T) (.box t x) ps lk id (KS v δ):=by
 obtain⟨h1,h⟩:=Tu h;cases h;simp only[nK];rw[hev] at h1 |-
 split
 exact h1 fU
 exact KS.refl _ _
theorem acD {t:TypeId}{x:Operand}{f:Nat}(h:Vx (T.ti t) (ev x) f=some (v,δ)):nK T (kK.lM P T) (.fieldAddr t x f) ps lk id (KS v δ):=by
 obtain⟨agg,size,zero,plain,kind,C,h⟩:=qV h;obtain⟨g,I,h⟩:=acv h;obtain⟨fd,J,h⟩:=Tq h;obtain⟨R,h⟩:=kH h;simp only[nK,C,I,J,R,cond_true];rw[hev] at h;rcases OQ h with ⟨b,c,e,h⟩|⟨b,r,c,e,h⟩|⟨cs,e,h⟩
 simp only[e];cases h;exact KS.refl _ _
 simp only[e];cases h;exact KS.refl _ _
 obtain⟨U,h⟩:=kH h;simp only[En] at U;simp only[e,pg,U,cond_true];cases h;simp only[OO,wI];exact KS.refl _ _
theorem aky {t:TypeId}{x:Operand}{f:Nat}(h:aeV (T.ti t) (ev x) f=some (v,δ)):nK T (kK.lM P T) (.field t x f) ps lk id (KS v δ):=by
 obtain⟨agg,size,zero,plain,kind,I,h⟩:=qV h;obtain⟨C,J,h⟩:=acv h;obtain⟨fd,R,h⟩:=Tq h;obtain⟨U,h⟩:=kH h;rw[hev] at h;obtain⟨cs,e,h⟩:=acy h;simp only[nK,I,J,R,e,U,cond_true];obtain⟨rfl,hh⟩:=KJ h;exact hh _ (KS.refl _ _)
theorem amr {t:TypeId}{x:Operand}(h:Xa (T.ti t) (ev x) lk=some (v,δ)):nK T (kK.lM P T) (.load t x) ps lk id (KS v δ):=by
 obtain⟨agg,size,zero,plain,kind,R,h⟩:=qV h;simp only[nK,R];rw[hev] at h;rcases OQ h with ⟨b,c,e,h⟩|⟨b,r,c,e,h⟩|⟨cs,e,h⟩
 obtain⟨ro,row,U,h⟩:=XR h;obtain⟨rfl,hh⟩:=KJ h;simp only[e,U];exact hh _ (KS.refl _ _)
 obtain⟨ro,sz,rows,U,h⟩:=H6 h;obtain⟨row,er,h⟩:=Tt h;obtain⟨rfl,hh⟩:=KJ h;simp only[e,U];exact⟨row,er,hh _ (KS.refl _ _)⟩
 obtain⟨rfl,hh⟩:=KJ h;simp only[e];exact hh _ (KS.refl _ _)
omit hev in
theorem VM {size:Nat}{row:List PV}{c:Nat}{u:PV}{K:List PV->Prop}(h1:jR (nT u)=true)(h2:(nT u).length=size)(U:c+(nT u).length<=row.length)(hk:K (nS row c (nT u))):qo size row c u K:=by
 unfold qo;rw[IW];refine⟨?_,hk⟩;simp only[Bool.and_eq_true,pg];exact⟨⟨h1,by rw[h2];exact Nat.beq_refl _⟩,by simpa using U⟩
theorem akz {t:TypeId}{x y:Operand}(h:aeW (T.ti t) (ev x) (ev y) lk=some (v,δ)):nK T (kK.lM P T) (.store t x y) ps lk id (KS v δ):=by
 obtain⟨agg,size,zero,plain,kind,g,h⟩:=qV h;simp only[nK,g];rw[hev,hev] at h;rcases OQ h with ⟨b,c,e,h⟩|⟨b,r,c,e,h⟩|⟨cs,e,h⟩
 obtain⟨ro,row,J,h⟩:=XR h;obtain⟨hr,h⟩:=kH h;have hr:=Bf hr;subst hr;obtain⟨_,h⟩:=Tu h;obtain⟨C,h⟩:=kH h;obtain⟨h1,h2,h⟩:=acz h;simp only[e,J];cases h;exact VM (MZ C) h1 h2 (KS.refl _ _)
 obtain⟨ro,sz,rows,J,h⟩:=H6 h;obtain⟨hr,h⟩:=kH h;have hr:=Bf hr;subst hr;obtain⟨_,h⟩:=Tu h;obtain⟨R,δ',I,h⟩:=acC P T h;obtain⟨U,h⟩:=kH h;have U:=Bf U;obtain⟨row,er,h⟩:=Tt h;obtain⟨h1,h2,h⟩:=acz h;simp only[e,J,I];rw[afx] at U;rw[U];cases h;refine Tz ⟨row,er,VM (u:=.agg R) (agd I) h1 h2 ?_⟩;simp only[aaQ,acr];exact KS.refl _ _
 cases h
theorem ad1 {x:Operand}(h:anX (ev x)=some (v,δ)):nK T (kK.lM P T) (.nilCheck x) ps lk id (KS v δ):=by
 simp only[nK];rw[hev] at h;revert h;cases tK T ps x<;>intro h<;>first|(cases h;done)|(cases h;exact KS.refl _ _)
theorem aom {t:TypeId}{x:Operand}(h:alr (ev x)=some (v,δ)):nK T (kK.lM P T) (.unOp .not t x) ps lk id (KS v δ):=by
 simp only[nK];rw[hev] at h;rcases acw h with ⟨e,h⟩|⟨e,h⟩<;>cases h<;>simp only[e]<;>exact KS.refl _ _
theorem aon {t:TypeId}{x:Operand}(h:als (ev x)=some (v,δ)):nK T (kK.lM P T) (.unOp .neg t x) ps lk id (KS v δ):=by
 simp only[nK];rw[hev] at h;obtain⟨k,n,e,h⟩:=uu h;obtain⟨rfl,rfl⟩:=rY h;simp only[e,OU,afv];rw[show (0:Int)-n=-n by omega];exact KS.refl _ _
theorem age {s d:TypeId}{x:Operand}(h:Zn (T.ti s) (T.ti d) (ev x)=some (v,δ)):nK T (kK.lM P T) (.convert s d x) ps lk id (KS v δ):=by
 obtain⟨agg,size,zero,plain,kind,g,h⟩:=qV h;obtain⟨C,I,J,U,R,ed,h⟩:=qV h;obtain⟨k,ek,h⟩:=ahY h;rw[hev] at h;obtain⟨k',n,e,h⟩:=uu h;obtain⟨rfl,rfl⟩:=rY h;subst ek;simp only[nK,g,ed,e,OU];cases kind<;>exact KS.refl _ _
theorem acE {t:TypeId}{x i:Operand}(h:Vy (T.ti t) (ev x) (ev i) lk=some (v,δ)):nK T (kK.lM P T) (.indexAddr t x i) ps lk id (KS v δ):=by
 obtain⟨agg,size,zero,plain,kind,g,h⟩:=qV h;rw[hev,hev] at h;obtain⟨k,n,C,h⟩:=uu h;obtain⟨j,rfl,h⟩:=H7 h;rcases afs h with ⟨J,bytes,z,R,h⟩|⟨len,J,ag,R,h⟩|⟨R,h⟩
 obtain⟨I,h⟩:=kH h;rcases Be h with ⟨sz,es,full,e,h⟩|⟨b,r,len,e,h⟩|⟨s,e,h⟩
 obtain⟨hb,h⟩:=kH h;obtain⟨row,er,h⟩:=Tt h;cases h;simp only[nK,g,R,e,C,xA,I,hb,Bool.and_self,cond_true];exact⟨j,row,rfl,er,KS.refl _ _⟩
 obtain⟨ro,sz,rows,eb,h⟩:=H6 h;obtain⟨hb,h⟩:=kH h;obtain⟨U,h⟩:=kH h;cases h;simp only[nK,g,R,e,C,xA,eb,I,hb,Bool.and_self,cond_true];exact⟨j,rfl,Nat.le_of_ble_eq_true U,KS.refl _ _⟩
 cases h
 obtain⟨I,h⟩:=kH h;obtain⟨U,h⟩:=kH h;have hl' : Nat.blt j len=true:=U;simp only[nK,g,R,I,cond_true,C];show (bif Nat.blt j len then _ else False);simp only[hl',cond_true];rcases OQ h with ⟨b,c,e,h⟩|⟨b,r,c,e,h⟩|⟨cs,e,h⟩
 simp only[e];cases h;exact KS.refl _ _
 simp only[e];cases h;exact KS.refl _ _
 obtain⟨U,h⟩:=kH h;simp only[En] at U;simp only[e,pg];rw[show Nat.ble (j*J) cs.length=true from U];cases h;simp only[OO,wI];exact KS.refl _ _
 cases h
omit hev in
theorem acF:∀ {l:List UInt8} {n:Nat},an2 l n=some (v,δ)->∃ c,l[n]?=some c/\v=.int .u8 (c.toNat:Int)/\δ=[]
 | [],n,h=>by cases h
 | x::l,0,h=>by
  obtain⟨h1,h2⟩:=rY (k:=.u8) (n:=Int.ofNat x.toNat) h;exact⟨x,rfl,h1,h2⟩
 | x::l,n+1,h=>by
  obtain⟨c,h1,h2⟩:=acF (l:=l) h;exact⟨c,by simpa using h1,h2⟩
theorem akA {t:TypeId}{x i:Operand}(h:aeX (T.ti t) (ev x) (ev i)=some (v,δ)):nK T (kK.lM P T) (.index t x i) ps lk id (KS v δ):=by
 obtain⟨agg,size,zero,plain,kind,I,h⟩:=qV h;rw[hev,hev] at h;obtain⟨k,n,J,h⟩:=uu h;obtain⟨j,rfl,h⟩:=H7 h;rcases afs h with ⟨R,bytes,z,U,h⟩|⟨len,R,ag,U,h⟩|⟨U,h⟩
 cases h
 obtain⟨C,h⟩:=kH h;obtain⟨g,h⟩:=kH h;obtain⟨cs,e,h⟩:=acy h;obtain⟨rfl,hh⟩:=KJ h;simp only[nK,I,U,e,J,xA,C,cond_true];exact⟨j,rfl,Nat.le_of_ble_eq_true g,hh _ (KS.refl _ _)⟩
 rcases Be h with ⟨sz,es,full,e,h⟩|⟨b,r,len,e,h⟩|⟨s,e,h⟩
 cases h
 cases h
 obtain⟨c,h1,rfl,rfl⟩:=acF h;simp only[nK,I,U,e,J,xA];refine⟨j,c,rfl,?_,Sim.si _ _,rfl⟩;rw[<- h1,Array.getElem?_toList];rfl
theorem agf {x:Operand}{i:Nat}(h:Zo (ev x) i=some (v,δ)):nK T (kK.lM P T) (.extract x i) ps lk id (KS v δ):=by
 simp only[nK];rw[hev] at h;obtain⟨vs,e,h⟩:=ah1 h;obtain⟨rfl,h1,rfl⟩:=Tv h;simp only[e,IW,pg,Nat.blt_eq];exact⟨h1,KS.refl _ _⟩
end
end Go.Pv
namespace Go.Pv
open Go
theorem aoo {a b c:Nat}(h:a*b<=c):(a:Int)*(b:Int)<=(c:Int):=by
 rw[<- Int.natCast_mul];exact Int.ofNat_le.2 h
theorem Qw {x:PV}(h:qN x=true):x=.yJ:=by cases x<;>first|rfl|(cases h)
theorem H8 {op:BinOp}{b:Bool}{v:PV}{δ:Dl}(h:aav op b=some (v,δ)):(op=.eql/\v=.bool b/\δ=[])\/(op=.neq/\v=.bool (!b)/\δ=[]):=by
 cases op<;>first|(cases h;done)|(cases h;exact .inl ⟨rfl,rfl,rfl⟩)|(cases h;exact .inr ⟨rfl,rfl,rfl⟩)
theorem ah6:Ol .add=(tq λk a b=>okI k (Sr k (ahg a b))):=rfl
theorem ah7:Ol .sub=(tq λk a b=>okI k (Sr k (ahg a (ajT b)))):=rfl
theorem ah8:Ol .mul=(tq λk a b=>okI k (Sr k (Int.mul a b))):=rfl
theorem ah9:Ol .quo=(tq λk a b=>wJ (F5 (eqI b (Int.ofNat 0))) (okI k (k.wrap (a.tdiv b)))):=rfl
theorem aia:Ol .rem=(tq λk a b=>wJ (F5 (eqI b (Int.ofNat 0))) (okI k (a.tmod b))):=rfl
theorem aib:Ol .and=(tq λk a b=>okI k (kz .and k a b)):=rfl
theorem akB:Ol .or=(tq λk a b=>okI k (kz .or k a b)):=rfl
theorem aic:Ol .xor=(tq λk a b=>okI k (kz .xor k a b)):=rfl
theorem aid:Ol .shl=(λk a _ b=>wJ (F5 (ltI b (Int.ofNat 0))) (okI k (k.wrap (a*2 ^ (min b.toNat k.bits))))):=rfl
theorem aie:Ol .shr=(λk a _ b=>wJ (F5 (ltI b (Int.ofNat 0))) (okI k (a.fdiv (2 ^ (min b.toNat k.bits))))):=rfl
theorem acG:Ol .andNot=(tq λk a b=>okI k (kz .andNot k a b)):=rfl
theorem aif:Ol .eql=(tq λ_ a b=>okB (eqI a b)):=rfl
theorem aih:Ol .neq=(tq λ_ a b=>okB (F5 (eqI a b))):=rfl
theorem aii:Ol .lss=(tq λ_ a b=>okB (ltI a b)):=rfl
theorem aij:Ol .leq=(tq λ_ a b=>okB (F5 (ltI b a))):=rfl
theorem aik:Ol .gtr=(tq λ_ a b=>okB (ltI b a)):=rfl
theorem ail:Ol .geq=(tq λ_ a b=>okB (F5 (ltI a b))):=rfl
theorem qP {f:IntKind->Int->Int->Rs}{k U : IntKind}{a b:Int}{r:PV×Dl}(h:tq f k a U b=some r):U=k/\f k a b=some r:=by
 obtain⟨h1,h2⟩:=kH h;exact⟨(XT h1).symm,h2⟩
theorem akC {P:Program}{T:Tab}{k:Nat}{x y:PV}{b:Bool}(h:alU k x y=some b):eqC (kK.lM P T) k x y=some b:=by
 unfold alU at h
 split at h
 rename_i k a U c
 cases hk:kEq k U with
 | false=>rw[hk] at h;cases h
 | true =>
  rw[hk] at h;have:=XT hk;subst this;simp only[cond_true,Option.some.injEq] at h;simp only[eqC,xA,nP,cond_true];rw[<- h,UY];rfl
 rename_i a c;cases h;simp only[eqC,Oq];cases a<;>cases c<;>rfl
 rename_i a c;cases h;simp only[eqC];rw[aaT];rfl
 cases h
theorem acH {P:Program}{T:Tab}:∀ {R:List Nat} {xs U:List PV} {b:Bool},aeT R xs U=some b->aan (kK.lM P T) R xs U=some b
 | [],[],[],b,h=>h
 | [],[],_::_,b,h=>by cases h
 | [],_::_,_,b,h=>by cases h
 | _::_,[],_,b,h=>by cases h
 | _::_,_::_,[],b,h=>by cases h
 | k::R,x::xs,y::U,b,h=>by
  unfold aeT at h
  split at h
  cases h
  rename_i a J
  split at h
  cases h
  rename_i c I;cases h;unfold aan;rw[akC J];simp only[acH I];cases a<;>rfl
section
variable {P:Program}{T:Tab}{ps:List PV}{ev:Operand->PV}{lk:Nat->Option mJ}{id:Nat}{v:PV}{δ:Dl}(hev:∀ x,ev x=tK T ps x)
include hev
theorem akD {op:BinOp}{t u:TypeId}{x y:Operand}(C:Sj y=false)(h:alV (T.ti t) op (ev x) (ev y)=some (v,δ)):nK T (kK.lM P T) (.binOp op t x y u) ps lk id (KS v δ):=by
 obtain⟨agg,size,zero,plain,kind,J,h⟩:=qV h;rw[hev,hev] at h;simp only[nK,C,J];generalize tK T ps x=X at h;generalize tK T ps y=Z at h;rcases ah0 h with ⟨k,a,rfl,hA⟩|⟨hno,h⟩
 obtain⟨k',b,rfl,hB⟩:=uu hA;cases op
 case add=>rw[ah6] at hB;obtain⟨rfl,h1⟩:=qP hB;obtain⟨rfl,rfl⟩:=rY h1;simp only[AV,isSpec,qF,nP,cond_true,cond_false,OU,afu];exact KS.refl _ _
 case sub=>rw[ah7] at hB;obtain⟨rfl,h1⟩:=qP hB;obtain⟨rfl,rfl⟩:=rY h1;simp only[AV,isSpec,qF,nP,cond_true,cond_false,OU,afu,afv];exact KS.refl _ _
 case mul=>rw[ah8] at hB;obtain⟨rfl,h1⟩:=qP hB;obtain⟨rfl,rfl⟩:=rY h1;simp only[AV,isSpec,qF,nP,cond_true,cond_false,OU];exact KS.refl _ _
 case and=>rw[aib] at hB;obtain⟨rfl,h1⟩:=qP hB;obtain⟨rfl,rfl⟩:=rY h1;simp only[AV,isSpec,qF,nP,cond_true,cond_false];exact KS.refl _ _
 case or=>rw[akB] at hB;obtain⟨rfl,h1⟩:=qP hB;obtain⟨rfl,rfl⟩:=rY h1;simp only[AV,isSpec,qF,nP,cond_true,cond_false];exact KS.refl _ _
 case xor=>rw[aic] at hB;obtain⟨rfl,h1⟩:=qP hB;obtain⟨rfl,rfl⟩:=rY h1;simp only[AV,isSpec,qF,nP,cond_true,cond_false];exact KS.refl _ _
 case andNot=>rw[acG] at hB;obtain⟨rfl,h1⟩:=qP hB;obtain⟨rfl,rfl⟩:=rY h1;simp only[AV,isSpec,qF,nP,cond_true,cond_false];exact KS.refl _ _
 case quo =>
  rw[ah9] at hB;obtain⟨rfl,h1⟩:=qP hB;obtain⟨U,h2⟩:=kH h1;obtain⟨rfl,rfl⟩:=rY h2;have U:=Bf U;rw[UY,decide_eq_false_iff_not] at U;simp only[AV,isSpec,Si,nP,cond_true];exact⟨U,Sim.si _ _,rfl⟩
 case rem =>
  rw[aia] at hB;obtain⟨rfl,h1⟩:=qP hB;obtain⟨U,h2⟩:=kH h1;obtain⟨rfl,rfl⟩:=rY h2;have U:=Bf U;rw[UY,decide_eq_false_iff_not] at U;simp only[AV,isSpec,Si,nP,cond_true];exact⟨U,Sim.si _ _,rfl⟩
 case shl =>
  rw[aid] at hB;obtain⟨U,h2⟩:=kH hB;obtain⟨rfl,rfl⟩:=rY h2;have U:=Bf U;rw[OT,decide_eq_false_iff_not] at U;simp only[AV,isSpec,Si,cond_true];exact⟨Int.not_lt.1 U,Sim.si _ _,rfl⟩
 case shr =>
  rw[aie] at hB;obtain⟨U,h2⟩:=kH hB;obtain⟨rfl,rfl⟩:=rY h2;have U:=Bf U;rw[OT,decide_eq_false_iff_not] at U;simp only[AV,isSpec,Si,cond_true];exact⟨Int.not_lt.1 U,Sim.si _ _,rfl⟩
 case eql=>rw[aif] at hB;obtain⟨rfl,h1⟩:=qP hB;cases h1;simp only[AV,isSpec,qF,zq,nP,cond_true,cond_false,UY];exact KS.refl _ _
 case neq=>rw[aih] at hB;obtain⟨rfl,h1⟩:=qP hB;cases h1;simp only[AV,isSpec,qF,zq,nP,cond_true,cond_false,UY,aaS];exact KS.refl _ _
 case lss=>rw[aii] at hB;obtain⟨rfl,h1⟩:=qP hB;cases h1;simp only[AV,isSpec,qF,zq,nP,cond_true,cond_false,OT];exact KS.refl _ _
 case leq =>
  rw[aij] at hB;obtain⟨rfl,h1⟩:=qP hB;cases h1;simp only[AV,isSpec,qF,zq,nP,cond_true,cond_false,OT,aaS]
  have:(!decide (b<a))=zZ .leq a b:=by
   show _=decide (a<=b);rw[Bool.eq_iff_iff];simp
  rw[this];exact KS.refl _ _
 case gtr=>rw[aik] at hB;obtain⟨rfl,h1⟩:=qP hB;cases h1;simp only[AV,isSpec,qF,zq,nP,cond_true,cond_false,OT];exact KS.refl _ _
 case geq =>
  rw[ail] at hB;obtain⟨rfl,h1⟩:=qP hB;cases h1;simp only[AV,isSpec,qF,zq,nP,cond_true,cond_false,OT,aaS]
  have:(!decide (a<b))=zZ .geq a b:=by
   show _=decide (b<=a);rw[Bool.eq_iff_iff];simp
  rw[this];exact KS.refl _ _
 ·rw[J] at h;unfold an1 at h
  split at h
  rcases H8 h with ⟨rfl,rfl,rfl⟩|⟨rfl,rfl,rfl⟩
  simp only[AV,isAdd,zq,cond_true,cond_false,aaT];exact⟨Sim.sb _,rfl⟩
  simp only[AV,isAdd,zq,cond_true,cond_false,aaT];exact⟨Sim.sb _,rfl⟩
  split at h
  rename_i g R;cases R
  split at h
  rename_i b hb;have hb:=acH (P:=P) (T:=T) hb;simp only[AV,J,hb,eqK];rcases H8 h with ⟨rfl,rfl,rfl⟩|⟨rfl,rfl,rfl⟩
  simp only[Dh,cond_true];exact⟨Sim.sb _,rfl⟩
  simp only[Dh,I8,cond_true,cond_false];have:(kK.lM P T).beq b false=!b:=by cases b<;>rfl
  rw[this];exact⟨Sim.sb _,rfl⟩
  cases h
  cases h
  split at h
  rename_i a c ag sz zr pl kd R;cases R;cases a<;>cases c<;>simp only[AV,xA,Oq,J,eqK]<;>rcases H8 h with ⟨rfl,rfl,rfl⟩|⟨rfl,rfl,rfl⟩<;>simp only[Dh,I8,cond_true,cond_false]<;>exact⟨Sim.sb _,rfl⟩
  cases h
  ·split at h
   ·rename_i R;cases R
    cases h1:(qN X&&qN Z) with
    | true =>
     simp only[Bool.and_eq_true] at h1;have e1:=Qw h1.1;have I:=Qw h1.2;subst e1;subst I;simp only[qN,Bool.and_self,cond_true] at h;simp only[AV,xA,Oq,J,qN,Bool.and_self,cond_true,eqL];rcases H8 h with ⟨rfl,rfl,rfl⟩|⟨rfl,rfl,rfl⟩
     simp only[Dh,cond_true];exact KS.refl _ _
     exact iE
    | false =>
     rw[h1] at h
     cases h2:((qN X&&A8 Z) || (A8 X&&qN Z)) with
     | false=>rw[h2] at h;cases h
     | true =>
      rw[h2] at h;simp only[cond_true,cond_false] at h
      have key:∀ K:PV->Prop,eqL op false K->AV T (kK.lM P T) op t X Z K:=by
       intro K hk;simp only[Bool.or_eq_true,Bool.and_eq_true] at h2;rcases h2 with ⟨a1,a2⟩|⟨a1,a2⟩
       ·have e1:=Qw a1;subst e1;cases Z<;>first|(cases a2;done)|(simp only[AV,xA,Oq,J,qN,A8,Bool.and_self,Bool.and_false,Bool.false_and,Bool.or_false,Bool.or_true,Bool.true_or,cond_true,cond_false];exact hk)
       ·have e1:=Qw a2;subst e1;cases X<;>first|(cases a1;done)|(simp only[AV,xA,Oq,J,qN,A8,Bool.and_self,Bool.and_false,Bool.false_and,Bool.or_false,Bool.or_true,Bool.true_or,cond_true,cond_false];exact hk)
      refine key _ ?_;unfold eqL;rcases H8 h with ⟨rfl,rfl,rfl⟩|⟨rfl,rfl,rfl⟩
      simp only[Dh,cond_true];exact KS.refl _ _
      exact iE
   cases h
theorem TA {len:Nat}{place:Plc}{pl:Nat->Option (Nat×Nat)}(J:∀ i K r,place i K=some r->∃ off size,pl i=some (off,size)/\K off size=some r){K:List PV->Rs}{r:PV×Dl}:∀ {parts:List (Nat×Operand)} {cells:List PV},cells.length=len->ahh ev len place parts cells K=some r ->
  ∃ cs,FV pl cells (evP T ps parts)=some cs/\K cs=some r/\Ag (evP T ps parts)=true
 | [],cells,hl,h=>⟨cells,rfl,h,rfl⟩
 | (i,x)::parts,cells,hl,h=>by
  have h:place i (λoff size=>afV (ev x) λcs=>wJ (Nat.beq (FZ cs) size) (wJ (Nat.ble (Nat.add off size) len) (ahh ev len place parts (afW off cs cells) K)))=some r:=h;obtain⟨off,size,e,h⟩:=J _ _ _ h;obtain⟨hx,h⟩:=Tu h;obtain⟨h1,h⟩:=kH h;obtain⟨h2,h⟩:=kH h;have U:=Nat.eq_of_beq_eq_true h1;have I:=Nat.le_of_ble_eq_true h2;simp only[En] at U;have hle:off+(nT (ev x)).length<=cells.length:=by rw[U,hl];exact I
  rw[afr hle] at h;obtain⟨cs,C,g,h5⟩:=TA J (parts:=parts) (by rw[xO,hl]) h;rw[hev] at hx C U;refine⟨cs,?_,g,?_⟩
  simp only[evP,FV,e];rw[show (Nat.beq (pX (nT (tK T ps x))) size&&Nat.ble (off+size) (pX cells))=true from ?_]
  exact C
  simp only[Bool.and_eq_true,pg];exact⟨by rw[U];exact Nat.beq_refl _,by rw[hl];exact h2⟩
  simp only[evP];unfold Ag
  split
  rename_i R;cases R
  rename_i R;simp only[List.cons.injEq,Prod.mk.injEq] at R;exact absurd R.1.2 hx
  rename_i R;simp only[List.cons.injEq] at R;rw[<- R.2];exact h5
theorem akE {t:TypeId}{parts:Array (Nat×Operand)}(h:aeY (T.ti t) ev parts=some (v,δ)):nK T (kK.lM P T) (.build t parts) ps lk id (KS v δ):=by
 obtain⟨agg,size,zero,plain,kind,J,h⟩:=qV h;obtain⟨z,I,R⟩:=KI h;subst I
 cases kind with
 | struct fs =>
  obtain⟨cs,h1,h2,U⟩:=TA hev (pl:=Ot fs) (λi K r h=>by
   obtain⟨fd,e,h⟩:=Tq h;exact⟨fd.off,fd.size,by simp only[Ot,e],h⟩) aI R
  simp only[nK,J,U,cond_true,h1];cases h2;exact KS.refl _ _
 | arr n esz ag =>
  obtain⟨cs,h1,h2,U⟩:=TA hev (pl:=λi=>some (i*esz,esz)) (λi K r h=>⟨i*esz,esz,rfl,h⟩) aI R;simp only[nK,J,U,cond_true,h1];cases h2;exact KS.refl _ _
 | _=>cases R
theorem aaU {t:TypeId}{len:Nat}{parts:Array (Nat×Operand)}(h:Su (T.ti t) len ev parts lk id=some (v,δ)):nK T (kK.lM P T) (.buildSlice t len parts) ps lk id (KS v δ):=by
 obtain⟨agg,size,zero,plain,kind,et,h⟩:=qV h;obtain⟨U,bytes,zz,ek,h1⟩:=zy h;subst ek;obtain⟨z,C,h2⟩:=KI h1;subst C;obtain⟨a1,R⟩:=kH h2;obtain⟨a2,h4⟩:=kH R;obtain⟨a3,h⟩:=kH h4;have J:z.length=U:=by simpa using Nat.eq_of_beq_eq_true a2
 obtain⟨cs,h1,h2,R⟩:=TA hev (pl:=λi=>some (i*U,U)) (λi K r h=>⟨i*U,U,rfl,h⟩) (by rw[aaR,xP,J];rfl) h;obtain⟨g,δ',I,h2⟩:=acC P T h2;rw[aaR] at h1;simp only[nK,et];rw[show (lZ U&&Nat.beq (pX z) U&&Nat.ble (len*U) 16777216&&Ag (evP T ps parts.toList))=true from ?_]
 simp only[cond_true,h1,I];refine Tz ?_;cases h2;simp only[aaQ,afq];exact KS.refl _ _
 simp only[Bool.and_eq_true,pg];exact⟨⟨⟨a1,by rw[J];exact Nat.beq_refl _⟩,a3⟩,R⟩
theorem ad2 {f:Go.Fn}{first cap:Array Operand}(h:Q4 f first ev cap=some (v,δ)):nK T (kK.lM P T) (.makeFunc f first cap) ps lk id (KS v δ):=by
 unfold Q4 at h
 split at h
 rename_i e;cases h;simp only[nK,e,Tn hev];exact KS.refl _ _
 cases h
theorem acI {t:TypeId}{x y:Operand}(hnar:T.pU=0)(h:Vz (T.ti t) (ev x) (ev y) id=some (v,δ)):nK T (kK.lM P T) (.makeSlice t x y) ps lk id (KS v δ):=by
 obtain⟨agg,size,zero,plain,kind,et,h⟩:=qV h;obtain⟨U,bytes,zz,C,h1⟩:=zy h;subst C;obtain⟨z,J,h2⟩:=KI h1;subst J;rw[hev,hev] at h2;obtain⟨k,n,e1,I⟩:=uu h2;obtain⟨n,rfl,g⟩:=H7 I;obtain⟨k',m,e2,h5⟩:=uu g;obtain⟨m,rfl,h⟩:=H7 h5;obtain⟨a1,h⟩:=kH h;obtain⟨a2,h⟩:=kH h;obtain⟨a3,h⟩:=kH h;obtain⟨a4,h⟩:=kH h;obtain⟨a5,h⟩:=kH h;obtain⟨R,h⟩:=kH h;simp only[nK,et,e1,e2,xA];rw[show (lZ U&&Nat.beq (pX z) U&&jR z)=true from ?_]
 have a4:=Nat.le_of_ble_eq_true a4;have a5:bytes*m<=140737488355328:=Nat.le_of_ble_eq_true a5;have R:=Nat.le_of_ble_eq_true R;refine⟨n,rfl,by omega,aoo a5,by omega,?_⟩;rw[hnar];refine Tz ?_;cases h;simp only[XQ];exact KS.refl _ _
 simp only[Bool.and_eq_true,pg];simp only[En] at a2;exact⟨⟨a1,a2⟩,MZ a3⟩
end
end Go.Pv
namespace Go.Pv
open Go
theorem TB {d:Nat}{x:Option PV}{K:Nat->Rs}{r:PV×Dl}(h:aaw d x K=some r):(x=none/\K d=some r)\/∃ (k:IntKind) (m:Nat),x=some (.int k (m:Int))/\K m=some r:=by
 cases x with
 | none=>exact .inl ⟨rfl,h⟩
 | some v =>
  obtain⟨k,n,rfl,h1⟩:=uu (v:=v) (K:=λ_ n=>WX n K) h;obtain⟨m,rfl,h2⟩:=H7 h1;exact .inr ⟨k,m,rfl,h2⟩
section
variable {P:Program}{T:Tab}{ps:List PV}{ev:Operand->PV}{lk:Nat->Option mJ}{id:Nat}{v:PV}{δ:Dl}(hev:∀ x,ev x=tK T ps x)
include hev
theorem ad3 (x:Option Operand):(Option.rec (motive:=λ_=>Option PV) none (λx=>some (ev x)) x:Option PV)=evO T ps x:=by
 cases x with
 | none=>rfl
 | some x=>show some (ev x)=some (tK T ps x);rw[hev]
theorem akF {t:TypeId}{x:Operand}{lo hi mx:Option Operand}(h:aeZ (T.ti t) (ev x) (Option.rec (motive:=λ_=>Option PV) none (λx=>some (ev x)) lo) (Option.rec (motive:=λ_=>Option PV) none (λx=>some (ev x)) hi) (Option.rec (motive:=λ_=>Option PV) none (λx=>some (ev x)) mx) lk=some (v,δ)):nK T (kK.lM P T) (.slice t x lo hi mx) ps lk id (KS v δ):=by
 rw[ad3 hev,ad3 hev,ad3 hev,hev] at h;simp only[nK];generalize evO T ps lo=LO at h;generalize evO T ps hi=HI at h;generalize evO T ps mx=MX at h;generalize tK T ps x=X at h
 cases MX with
 | some m =>
  have h0:(okK (T.ti t) λ_ _ _ _ kind=>Uz kind λU _ _=>wJ (lZ U) (V4 X (λ_ _ _=>abR LO HI m (some (PV.sl U [] true,[]))) (λ_ _ _=>abR LO HI m (some (PV.sl U [] true,[]))) (λ_=>none)))=some (v,δ):=h;obtain⟨agg,size,zero,plain,kind,et,h1⟩:=qV h0;obtain⟨U,bytes,zz,ek,h2⟩:=zy h1;subst ek;obtain⟨hp,h3⟩:=kH h2
  have zk:∀ {x:Rs},abR LO HI m x=some (v,δ)->LO=none/\(∃ k,HI=some (.int k 0))/\(∃ k,m=.int k 0)/\x=some (v,δ):=by
   intro x hx
   cases LO with
   | some _=>cases hx
   | none =>
    cases HI with
    | none=>cases hx
    | some hh =>
     have hx:(Ov hh λ_ a=>WX a λa=>Ov m λ_ b=>WX b λb=>wJ (Nat.beq a 0) (wJ (Nat.beq b 0) x))=some (v,δ):=hx;obtain⟨k,a,rfl,R⟩:=uu hx;obtain⟨a,rfl,I⟩:=H7 R;obtain⟨k',b,rfl,g⟩:=uu I;obtain⟨b,rfl,C⟩:=H7 g;obtain⟨h8,h9⟩:=kH C;obtain⟨h10,h11⟩:=kH h9;have:=Nat.eq_of_beq_eq_true h8;subst this;have:=Nat.eq_of_beq_eq_true h10;subst this;exact⟨rfl,⟨k,rfl⟩,⟨k',rfl⟩,h11⟩
  rcases Be h3 with ⟨sz,J,full,rfl,R⟩|⟨b,r,n,rfl,R⟩|⟨s,rfl,R⟩
  obtain⟨rfl,⟨k,rfl⟩,⟨k',rfl⟩,I⟩:=zk R;cases I;simp only[et,hp,cond_true];exact KS.refl _ _
  obtain⟨rfl,⟨k,rfl⟩,⟨k',rfl⟩,I⟩:=zk R;cases I;simp only[et,hp,cond_true];exact KS.refl _ _
  cases R
 | none =>
  have h0:(okK (T.ti t) λ_ _ _ _ kind=>Uz kind λU _ _=>wJ (lZ U) (V4 X
   (λsz J full=>wJ (Nat.beq sz U) (aaw 0 LO λa=>aaw (N9 J) HI λb=>wJ (Nat.ble a b) (wJ (Nat.ble b (N9 J)) (some (PV.sl sz (MH (Nat.sub b a) (MG a J)) (Option.rec (motive:=λ_=>Bool) full (λ_=>false) HI),[])))))
   (λb r n=>aau (lk b) λ_ sz _=>wJ (Nat.beq sz U) (aaw 0 LO λa=>aaw n HI λc=>wJ (Nat.ble a c) (wJ (Nat.ble c n) (some (PV.os b (Nat.add r a) (Nat.sub c a),[])))))
   (λ_=>none)))=some (v,δ):=h
  obtain⟨agg,size,zero,plain,kind,et,h1⟩:=qV h0;obtain⟨U,bytes,zz,ek,h2⟩:=zy h1;subst ek;obtain⟨hp,h3⟩:=kH h2;rcases Be h3 with ⟨sz,J,full,rfl,R⟩|⟨b,r,n,rfl,R⟩|⟨s,rfl,R⟩
  obtain⟨hb,I⟩:=kH R;rcases TB I with ⟨rfl,g⟩|⟨k,a,rfl,g⟩<;>rcases TB g with ⟨rfl,C⟩|⟨k',c,rfl,C⟩<;>obtain⟨hx,h8⟩:=kH C<;>obtain⟨hy,h9⟩:=kH h8<;>cases h9<;>simp only[et,hp,hb,Bool.and_self,cond_true,xA,GX,GV,HY] at *
  have:List.take (Nat.sub J.length 0) (List.drop 0 J)=J:=by
   show List.take (J.length-0) (List.drop 0 J)=J;simp
  rw[this];exact KS.refl _ _
  exact⟨0,c,rfl,rfl,Nat.zero_le _,Nat.le_of_ble_eq_true hy,KS.refl _ _⟩
  exact⟨a,J.length,rfl,rfl,Nat.le_of_ble_eq_true hx,Nat.le_refl _,KS.refl _ _⟩
  exact⟨a,c,rfl,rfl,Nat.le_of_ble_eq_true hx,Nat.le_of_ble_eq_true hy,KS.refl _ _⟩
  obtain⟨ro,sz,rows,eb,R⟩:=H6 R;obtain⟨hb,I⟩:=kH R;rcases TB I with ⟨rfl,g⟩|⟨k,a,rfl,g⟩<;>rcases TB g with ⟨rfl,C⟩|⟨k',c,rfl,C⟩<;>obtain⟨hx,h8⟩:=kH C<;>obtain⟨hy,h9⟩:=kH h8<;>cases h9<;>simp only[et,hp,hb,eb,Bool.and_self,cond_true,xA] at *
  exact KS.refl _ _
  exact⟨0,c,rfl,rfl,Nat.zero_le _,Nat.le_of_ble_eq_true hy,KS.refl _ _⟩
  exact⟨a,n,rfl,rfl,Nat.le_of_ble_eq_true hx,Nat.le_refl _,KS.refl _ _⟩
  exact⟨a,c,rfl,rfl,Nat.le_of_ble_eq_true hx,Nat.le_of_ble_eq_true hy,KS.refl _ _⟩
  cases R
theorem agh (P:Program){R:Nat}{X:PV}{K:List (List PV)->Rs}{r:PV×Dl}(h:alu R lk X K=some r):∃ new,rowsOf (kK.lM P T) R lk X=some new/\K new=some r:=by
 rcases Be h with ⟨sz,J,full,rfl,U⟩|⟨b,i,n,rfl,U⟩|⟨s,rfl,U⟩
 cases hb:Nat.beq sz R with
 | true =>
  rw[hb] at U;exact⟨J,by simp only[rowsOf,hb,cond_true],U⟩
 | false =>
  rw[hb] at U
  cases J with
  | nil=>exact⟨[],by simp only[rowsOf,hb,cond_false],U⟩
  | cons _ _=>cases U
 obtain⟨ro,sz,rows,g,C⟩:=H6 U;obtain⟨hb,I⟩:=kH C;refine⟨_,?_,I⟩;simp only[rowsOf,g,hb,cond_true,GX,GV];rfl
 cases U
omit hev in
theorem ZU {n bytes:Nat}{x:Rs}{r:PV×Dl}(h:ahi n bytes x=some r):(2*n+192)*bytes<=140737488355328/\n<=4611686018427387904/\x=some r:=by
 obtain⟨h1,h2⟩:=kH h;obtain⟨T,U⟩:=kH h2;exact⟨Nat.le_of_ble_eq_true h1,Nat.le_of_ble_eq_true T,U⟩
theorem akG {b:Builtin}{args:Array Operand}{ts:Array TypeId}(h:aax T.ti b (Xb ev args.toList) ts.toList lk id=some (v,δ)):nK T (kK.lM P T) (.call { callee:=.builtin b,args:=args,argTypes:=ts }) ps lk id (KS v δ):=by
 rw[Tn hev] at h;simp only[nK];generalize evA T ps args.toList=A at h;generalize ts.toList=tl at h;unfold aax at h
 split at h
 rename_i x t;obtain⟨agg,size,zero,plain,kind,et,h1⟩:=qV h;rcases Be h1 with ⟨sz,es,full,rfl,U⟩|⟨b,i,n,rfl,U⟩|⟨s,rfl,U⟩
 obtain⟨J,bytes,zz,rfl,C⟩:=zy U;obtain⟨rfl,rfl⟩:=rY C;simp only[et,HY];exact⟨Sim.si _ _,rfl⟩
 obtain⟨J,bytes,zz,rfl,C⟩:=zy U;obtain⟨rfl,rfl⟩:=rY C;simp only[et];exact⟨Sim.si _ _,rfl⟩
 obtain⟨rfl,C⟩:=ahZ U;obtain⟨rfl,rfl⟩:=rY C;simp only[et];refine⟨?_,rfl⟩
 have:(kK.lM P T).slen s=Int.ofNat s.data.toList.length:=by
  show ((s.size:Nat):Int)=((s.data.toList.length:Nat):Int);rw[Array.length_toList];rfl
 rw[this];exact Sim.si _ _
 rename_i x y;obtain⟨k,a,rfl,h1⟩:=uu h;obtain⟨k',c,rfl,h2⟩:=uu h1;obtain⟨hk,g⟩:=kH h2;obtain⟨rfl,rfl⟩:=rY g;have:=XT hk;subst this;simp only[nP,cond_true,OT];refine⟨?_,rfl⟩
 by_cases I:c<a
 rw[if_pos I,decide_eq_true I];exact Sim.refl _
 rw[if_neg I,decide_eq_false I];exact Sim.refl _
 rename_i x y;obtain⟨k,a,rfl,h1⟩:=uu h;obtain⟨k',c,rfl,h2⟩:=uu h1;obtain⟨hk,g⟩:=kH h2;obtain⟨rfl,rfl⟩:=rY g;have:=XT hk;subst this;simp only[nP,cond_true,OT];refine⟨?_,rfl⟩
 by_cases I:a<c
 rw[if_pos I,decide_eq_true I];exact Sim.refl _
 rw[if_neg I,decide_eq_false I];exact Sim.refl _
 rename_i s x t u tl;obtain⟨agg,size,zero,plain,kind,et,h1⟩:=qV h;obtain⟨J,bytes,zz,rfl,h2⟩:=zy h1;obtain⟨z,rfl,g⟩:=KI h2;obtain⟨agg',size',zero',plain',kind',eu,U⟩:=qV g;obtain⟨esz',bytes',zz',rfl,C⟩:=zy U;obtain⟨hp,h6⟩:=kH C;obtain⟨hz,h7⟩:=kH h6;obtain⟨new,hn,h8⟩:=agh (T:=T) hev P h7;simp only[En] at hz;simp only[et,eu,pg,hp,hz,Bool.and_self,cond_true,hn];rcases Be h8 with ⟨sz,es,full,rfl,h9⟩|⟨b,i,n,rfl,h9⟩|⟨s,rfl,h9⟩
 obtain⟨O,R⟩:=kH h9;subst O
 cases es with
 | cons _ _=>cases R
 | nil =>
  obtain⟨r1,r2,h11⟩:=ZU (x:=some (PV.os id 0 (N9 new),[(id,some (mJ.arr false J new))])) R;cases h11;simp only[HY] at r1 r2;refine⟨r1,r2,?_⟩;simp only[HY];exact KS.refl _ _
 obtain⟨ro,sz,rows,eb,R⟩:=H6 h9;obtain⟨hr,h11⟩:=kH R;have hr:=Bf hr;subst hr;obtain⟨hb,h12⟩:=kH h11;obtain⟨r1,r2,h13⟩:=ZU h12;cases h13;simp only[HY] at r1 r2;have r1:(2*(n+new.length)+192)*bytes<=140737488355328:=r1;simp only[eb,hb,cond_true];refine⟨r1,r2,?_⟩;simp only[HY,XP,GX,GV];exact KS.refl _ _
 cases h9
 rename_i x t tl;obtain⟨agg,size,zero,plain,kind,et,h1⟩:=qV h;obtain⟨J,bytes,zz,rfl,h2⟩:=zy h1;obtain⟨z,rfl,g⟩:=KI h2;rcases Be g with ⟨sz,es,full,rfl,U⟩|⟨b,r,n,rfl,U⟩|⟨s,rfl,U⟩
 cases U
 obtain⟨ro,sz,rows,eb,C⟩:=H6 U;obtain⟨hr,h6⟩:=kH C;have hr:=Bf hr;subst hr;obtain⟨a1,h7⟩:=kH h6;obtain⟨a2,h8⟩:=kH h7;obtain⟨a3,h9⟩:=kH h8;obtain⟨a4,R⟩:=kH h9;cases R;simp only[En] at a2;simp only[et,eb];rw[show (Nat.beq sz J&&Nat.beq (pX z) sz&&lZ sz&&jR z)=true from (by simp only[Bool.and_eq_true,pg];exact⟨⟨⟨a1,a2⟩,a3⟩,MZ a4⟩)];simp only[cond_true];refine Tz ?_
 have:(kK.lM P T).spl rows r ((kK.lM P T).rep n z)=WZ (MH r rows) (WZ (abQ n z) (MG (Nat.add r n) rows)):=by
  show rows.take r++List.replicate n z++rows.drop (r+(List.replicate n z).length)=_;simp only[XP,GX,GV,XQ,List.length_replicate,List.append_assoc];rfl
 rw[this];exact KS.refl _ _
 cases U
 cases h
end
end Go.Pv
namespace Go.Pv
open Go
section
variable {P:Program}{T:Tab}(hT:lW P T)(hW:I4 P)(hnar:T.pU=0){C:Ctx T}{o:Oper}{a:Act}{w:World}{Y:Nat->Prop}{σ:Sg}{ps:List PV}{st:St}{n id:Nat}{lk:Nat->Option mJ}
 (H:SW C w Y σ ps a.tmps.toList st n) (hlk:∀ b x,lk b=some x->kR st b=some x) (hid:σ id=none/\T.vY<=id) {ev:Operand->PV} {v:PV} {δ:Dl}
include H in
theorem aim {op:BinOp}{t u:TypeId}{x y:Operand}(hT:lW P T)(ho:o.op=.binOp op t x y u)(hy:Sj y=true){b r m sz bytes:Nat}{z:Option (List PV)}{agg:Bool}{size:Nat}{zero:Option (List PV)}{plain:Option (List Nat)}(et:T.ti t=⟨true,agg,size,zero,plain,.slice sz bytes z⟩)
  (hx:tK T ps x=.os b r (m+1)) (h:aav op false=some (v,δ)):rH P C o a w σ ps st n id (λU R=>U=v/\R=δ):=by
 have hr:=nM H x;rw[hx] at hr;have I:=ae6 hy;subst I;obtain⟨el,hu,_⟩:=nZ hT et;unfold Rep at hr
 have main:∃ J len cap,a.eval x=.slice (some J) len cap:=by
  rcases hr with ⟨l,cap,_,e,_⟩|⟨e,_⟩
  exact⟨_,_,_,e⟩
  cases e
 obtain⟨J,len,cap,ev⟩:=main;have hev:a.eval (.const (.slice none 0 0))=.slice none 0 0:=rfl;obtain⟨r1,r2⟩:=MO (P:=P) (w:=w) (x:=some J) (len:=len) (cap:=cap) hu;have n1:∀ cs,a.eval x≠.agg cs:=by rw[ev];intro cs e;cases e
 have n2:a.eval x≠.nilIface:=by rw[ev];intro e;cases e
 have fin:∀ {U : PV} {cv:Value},(binOp op t (a.eval x) (a.eval (.const (.slice none 0 0)))).run P w=.ok cv w->Rep w Y σ U cv->U=v/\[]=δ->rH P C o a w σ ps st n id (λU R=>U=v/\R=δ):=by
  intro U cv hr hv g;refine rH.quiet H (cv:=cv) ?_ hv g;simp[execOp,ho,F8 n1 n2,hr]
 rcases H8 h with ⟨rfl,rfl,rfl⟩|⟨rfl,rfl,rfl⟩
 exact fin (by rw[ev,hev];exact r1) bF ⟨rfl,rfl⟩
 exact fin (by rw[ev,hev];exact r2) bF ⟨rfl,rfl⟩
include hT hW hnar H hlk hid in
theorem afy {er:List PV}(hev:∀ x,ev x=tK T er x)(hl:∀ x∈o.op.operands,tK T ps x=tK T er x)(h:opV o.op T.ti ev lk id=some (v,δ)):rH P C o a w σ ps st n id (λv' R=>v'=v/\R=δ):=by
 have go:nK T (kK.lM P T) o.op er lk id (KS v δ)->rH P C o a w σ ps st n id (λv' R=>v'=v/\R=δ):=λh=>by
  rw[<- Qr hl] at h;obtain⟨v',R,cv,w',Y',σ',⟨hs,rfl⟩,J,H',hv,g⟩:=Ba hT hW H hlk hid h;exact⟨v,R,cv,w',Y',σ',⟨rfl,rfl⟩,J,H',hs _ _ _ _ hv,g⟩
 cases ho:o.op with
 | move x =>
  rw[ho] at h go;have h:some (ev x,([]:Dl))=some (v,δ):=h;cases h;exact go (by simp only[nK];rw[hev];exact KS.refl _ _)
 | assign x =>
  rw[ho] at h go;have h:some (ev x,([]:Dl))=some (v,δ):=h;cases h;exact go (by simp only[nK];rw[hev];exact KS.refl _ _)
 | pick c x y=>rw[ho] at h go;exact go (amq hev h)
 | alloc t=>rw[ho] at h go;exact go (akx h)
 | box t x=>rw[ho] at h go;exact go (aol hev h)
 | build t parts=>rw[ho] at h go;exact go (akE hev h)
 | buildSlice t len parts=>rw[ho] at h go;exact go (aaU hev h)
 | load t x=>rw[ho] at h go;exact go (amr hev h)
 | store t x y=>rw[ho] at h go;exact go (akz hev h)
 | nilCheck x=>rw[ho] at h go;exact go (ad1 hev h)
 | binOp op t x y u =>
  rw[ho] at h go;have h:Bool.rec (motive:=λ_=>Rs) (alV (T.ti t) op (ev x) (ev y)) (alW (T.ti t) op (ev x)) (Sj y)=some (v,δ):=h
  cases I:Sj y with
  | false=>rw[I] at h;exact go (akD hev I h)
  | true =>
   rw[I] at h;have h:alW (T.ti t) op (ev x)=some (v,δ):=h;obtain⟨agg,size,zero,plain,kind,et,h1⟩:=qV h;obtain⟨sz,bytes,z,ek,h2⟩:=zy h1;subst ek;rw[hev] at h2;rcases Be h2 with ⟨sz',es,full,e,U⟩|⟨b,r,m,e,U⟩|⟨s,e,U⟩
   cases es with
   | nil=>cases U
   | cons _ _ =>
    refine go ?_;simp only[nK,I,et,e];intro b hb
    cases b with
    | true=>exact absurd (hb rfl) aI
    | false =>
     unfold eqL;rcases H8 (b:=false) U with ⟨rfl,rfl,rfl⟩|⟨rfl,rfl,rfl⟩
     simp only[Dh,cond_true];exact KS.refl _ _
     exact iE
   cases m with
   | zero=>cases U
   | succ m=>exact aim H hT ho I et (by rw[hl x (by rw[ho];simp[Op.operands])];exact e) U
   cases U
 | unOp op t x =>
  rw[ho] at h go
  cases op with
  | not=>exact go (aom hev h)
  | neg=>exact go (aon hev h)
  | _=>cases h
 | convert s d x=>rw[ho] at h go;exact go (age hev h)
 | makeFunc fn first cap=>rw[ho] at h go;exact go (ad2 hev h)
 | makeSlice t x y=>rw[ho] at h go;exact go (acI hev hnar h)
 | slice t x lo hi mx=>rw[ho] at h go;exact go (akF hev h)
 | fieldAddr t x f=>rw[ho] at h go;exact go (acD hev h)
 | field t x f=>rw[ho] at h go;exact go (aky hev h)
 | indexAddr t x i=>rw[ho] at h go;exact go (acE hev h)
 | index t x i=>rw[ho] at h go;exact go (akA hev h)
 | extract t i=>rw[ho] at h go;exact go (agf hev h)
 | call c =>
  rw[ho] at h go;obtain⟨callee,args,ts⟩:=c
  cases callee with
  | builtin b=>exact go (akG hev h)
  | _=>cases h
 | _=>rw[ho] at h;cases h
end
abbrev Tab.at (T:Tab) (n:Nat):Tab:={ T with vY:=n }
def NN (t:Sb):Prop:=∀ b sz rows,mF t b≠some (.pU sz rows)
theorem SW.akH {T:Tab}{C:Ctx T}{w:World}{Y:Nat->Prop}{σ:Sg}{ps:List PV}{vs:List Value}{st:St}{n:Nat}(H:SW C w Y σ ps vs st n)(U:∀ b sz rows,kR st b≠some (.pU sz rows)):SW (JI (T.at n) w Y σ st) w Y σ ps vs st n :=
 ⟨H.vals,H.store,H.next,H.yK,λ_ h=>h.1,λk h=>⟨H.yK k h.1,h.2⟩,λk h _=>by
  by_cases hi:F6 σ st k
  exact .inr ⟨h,hi⟩
  exact .inl ⟨h,hi⟩,QM.refl _ w,λb x l h1 h2=>.inr ⟨b,x,l,h1,h2,rfl⟩,H.zi,⟨Nat.le_refl _,λ_ _=>rfl⟩,C9.none U⟩
theorem SW.compose {T T' : Tab}{C:Ctx T}{w w' : World}{Y Y' : Nat->Prop}{σ σ' : Sg}{ps qs:List PV}{vs us:List Value}{st st' : St}{n I : Nat}(H:SW C w Y σ ps vs st n)(hgl:T'.gl=T.gl)(hp:T'.vY=n)
  (U : SW (JI T' w Y σ st) w' Y' σ' qs us st' I):Keep w w' Y Y' σ σ'/\SW C w' Y' σ' qs us st' I:=by
 have excl:∀ k,k<w.heap.size->Y' k->Y k:=by
  intro k hk hy;rcases U.xI k hy hk with h|h
  exact h.1
  exact h.1
 have R:∀ b,b<n->σ' b=σ b:=λb hb=>U.fix.2 b (by rw[hp];exact hb);have hle:n<=I:=by have:=U.fix.1;rw[hp] at this;exact this
 have K:Keep w w' Y Y' σ σ':=⟨λk hk hy=>U.qh.block k hk λh=>hy h.1,excl,U.qh.size,λb l g=>by
  rcases Nat.lt_or_ge b n with h|h
  rw[R b h];exact g
  rw[H.next b h] at g;cases g⟩
 have away:∀ k,C.Y0 k->¬ F6 σ st k:=λk hk ⟨b,x,l,h1,h2,h3⟩=>H.away h1 h2 (h3 ▸ hk)
 have old:∀ k,(w.heap.size<=k\/F6 σ st k)->C.w0.heap.size<=k\/C.L k:=λk h=>by
  rcases h with h|⟨b,x,l,h1,h2,h3⟩
  exact iw
  rw[<- h3];exact H.own b x l h1 h2
 refine⟨K,U.vals,U.store,U.next,U.yK,λk hk=>U.y0 k ⟨H.y0 k hk,away k hk⟩,H.c0,λk hk J=>H.xI k (excl k (Nat.lt_of_lt_of_le J H.qh.size) hk) J,?_,λb x l h1 h2=>old _ (U.own b x l h1 h2),by have:=U.zi;rw[hgl] at this;exact this,⟨Nat.le_trans H.fix.1 hle,λb hb=>?_⟩,?_⟩
 refine⟨by rw[U.qh.os];exact H.qh.os,by rw[U.qh.tape];exact H.qh.tape,by rw[U.qh.output];exact H.qh.output,Nat.le_trans H.qh.size U.qh.size,λk hk hM=>?_⟩;rw[U.qh.block k (Nat.lt_of_lt_of_le hk H.qh.size) λh=>?_]
 exact H.qh.block k hk hM
 obtain⟨h1,h2⟩:=h;rcases H.xI k h1 hk with h3|h3
 exact away k h3 h2
 exact hM h3
 rw[R b (Nat.lt_of_lt_of_le hb H.fix.1)];exact H.fix.2 b hb
 exact⟨U.nest.rep,λb r c h sz es k=>old _ (U.nest.old b r c h sz es k),U.nest.one,U.nest.sep⟩
theorem XU:∀ t:Sb,∃ N,∀ b,N<=b->mF t b=none
 | .e=>⟨0,λb _=>rfl⟩
 | .n v l r=>by
  obtain⟨A,hA⟩:=XU l;obtain⟨B,hB⟩:=XU r;refine⟨2*(A+B)+2,λb hb=>?_⟩
  cases b with
  | zero=>omega
  | succ m =>
   rw[Jf];have h:A+B<=m / 2:=by omega
   cases Nat.beq (Nat.mod m 2) 0 with
   | true=>exact hA _ (by show A<=m / 2;omega)
   | false=>exact hB _ (by show B<=m / 2;omega)
theorem afz {f:Nat->Option mJ}:∀ (m i b:Nat),kR ((upN i m).map λb=>(b,f b)) b=if i<=b/\b<i+m then f b else none
 | 0,i,b=>by simp[upN,kR];intro h1 h2;omega
 | m+1,i,b=>by
  show (bif Nat.beq i b then f i else kR ((upN (i+1) m).map λb=>(b,f b)) b)=_
  by_cases h:i=b
  subst h;simp
  rw[SB h];simp only[cond_false];rw[afz m (i+1) b]
  by_cases h2:i+1<=b/\b<i+1+m
  rw[if_pos h2,if_pos ai]
  rw[if_neg h2,if_neg ai]
theorem akI (t:Sb):∃ st:St,∀ b,kR st b=mF t b:=by
 obtain⟨N,U⟩:=XU t;refine⟨(upN 0 N).map λb=>(b,mF t b),λb=>?_⟩;rw[afz]
 by_cases h:b<N
 rw[if_pos ai]
 rw[if_neg ai,U b ai]
end Go.Pv
namespace Go.Pv
open Go
def GT (t:Sb)(n:Nat):Prop:=NN t/\∀ b,n<=b->mF t b=none
def FnV (P:Program)(T:Tab)(k:Nat)(args:List PV)(t:Sb)(n:Nat)(v:PV)(t' : Sb)(n' : Nat):Prop :=
 GT t n->GT t' n'/\∀ (w:World) (Y:Nat->Prop) (σ:Sg) (cargs:List Value) (st:St),(∀ b,kR st b=mF t b)->abN T.gl w Y->(∀ b,Y b->b<w.heap.size)->(∀ b,n<=b->σ b=none)->jo w Y σ args cargs->N8 w Y σ st ->
  (callFunc k cargs.toArray).run P w=.ok (.enter k cargs.toArray) w /\
  Calls P k cargs.toArray w λe w'=>∃ cv Y' σ' st',e=.returned cv/\(∀ b,kR st' b=mF t' b)/\SW (JI (T.at n) w Y σ st) w' Y' σ' [v] [cv] st' n'
def Na (P:Program)(T:Tab)(call:Dk):Prop:=∀ k args t n v t' n',call k args t n=some (v,t',n')->FnV P T k args t n v t' n'
structure TD {T:Tab}(C:Ctx T)(V:EV)(D:List Nat)(a:Act)(w:World):Prop where
 nn:GT V.st V.nx
 dfr:a.defers=marks D
 env:∃ ps st Y σ,(∀ i,qp V.tm i=kY ps i)/\V.n=ps.length/\(∀ b,kR st b=mF V.st b)/\SW C w Y σ ps a.tmps.toList st V.nx/\QQ C.w0.heap.size D w Y
theorem TE {x:Option mJ}{y:mJ}(h:noN x=some y):x=some y/\∀ sz rows,y≠.pU sz rows:=by
 cases x with
 | none=>cases h
 | some x =>
  cases x with
  | pU _ _=>cases h
  | _=>cases h;exact⟨rfl,λ_ _ e=>by cases e⟩
theorem KL {f:Nat->Bool}:∀ {l:List Nat},abS f l=true->∀ x∈l,f x=true
 | [],_,x,hx=>by cases hx
 | y::l,h,x,hx=>by
  have h:Bool.rec (motive:=λ_=>Bool) false (abS f l) (f y)=true:=h
  cases hy:f y with
  | false=>rw[hy] at h;cases h
  | true =>
   rw[hy] at h;rcases List.mem_cons.1 hx with rfl|hx
   exact hy
   exact KL h x hx
theorem Qx:∀ (δ:Dl) (t:Sb) (b:Nat),b ∉ ES δ->mF (xK δ t) b=mF t b
 | [],t,b,_=>rfl
 | (c,y)::δ,t,b,h=>by
  have e:ES ((c,y)::δ)=c::ES δ:=rfl;rw[e,List.mem_cons,not_or] at h;show mF (xK δ (setB (noN y) c t)) b=_;rw[Qx δ _ b h.2,KH,if_neg h.1]
theorem acJ:∀ (δ:Dl) (t:Sb) (st:St),(∀ b x,mF t b=some x->kR st b=some x)->∀ b x,mF (xK δ t) b=some x->kR (lh δ st) b=some x
 | [],t,st,h,b,x,hx=>h b x hx
 | (c,y)::δ,t,st,h,b,x,hx=>by
  refine acJ δ (setB (noN y) c t) (rW st c y) (λb x hx=>?_) b x hx;rw[KH] at hx;rw[kC]
  by_cases U:b=c
  subst U;rw[if_pos rfl] at hx |-;exact (TE hx).1
  rw[if_neg U] at hx;rw[if_neg (Ne.symm U)];exact h b x hx
theorem TF:∀ (δ:Dl) (t:Sb),NN t->NN (xK δ t)
 | [],t,h=>h
 | (c,y)::δ,t,h=>TF δ (setB (noN y) c t) λb sz rows hb=>by
  rw[KH] at hb
  by_cases U:b=c
  rw[if_pos U] at hb;exact (TE hb).2 sz rows rfl
  rw[if_neg U] at hb;exact h b sz rows hb
theorem UZ {T:Tab}(hgl:∀ g,T.gl g=none){tm:Tr PV}{ps:List PV}(h:∀ i,qp tm i=kY ps i)(x:Operand):evV tm x=tK T ps x:=by
 cases x with
 | tmp t=>exact h t
 | const v=>rfl
 | global g=>simp only[tK,hgl];rfl
 | func f=>rfl
theorem Dx {tm:Tr PV}{n:Nat}{ps:List PV}(h:∀ i,qp tm i=kY ps i)(R:n=ps.length)(d:Option Nat)(v:PV):∀ i,qp (xJ tm n d v) i=kY (xR ps d v) i:=by
 intro i
 cases d with
 | none=>exact h i
 | some d =>
  show qp (Bool.rec (motive:=λ_=>Tr PV) tm (ady v d tm) (Nat.ble (Nat.succ d) n)) i=_;simp only[xR,wW]
  cases hb:Nat.ble (Nat.succ d) n with
  | true =>
   have hb:=Nat.le_of_ble_eq_true hb;show qp (ady v d tm) i=_;rw[UW]
   by_cases U:i=d
   subst U;rw[if_pos rfl,if_pos ⟨rfl,by omega⟩]
   rw[if_neg U,if_neg (by intro e;exact U e.1.symm)];exact h i
  | false =>
   have T : ¬ Nat.succ d<=n:=λe=>by rw[show Nat.ble (Nat.succ d) n=true by rw[Nat.ble_eq];exact e] at hb;cases hb
   show qp tm i=_;rw[if_neg (by intro e;apply T;rw[R];exact e.2)];exact h i
section
variable {P:Program}{T:Tab}(hT:lW P T)(hW:I4 P)(hnar:T.pU=0)(hgl:∀ g,T.gl g=none){call:Dk}(hcall:Na P T call)
theorem ams {C:Ctx T}{w:World}{Y:Nat->Prop}{σ:Sg}{ps:List PV}{vs:List Value}{st:St}{n:Nat}(H:SW C w Y σ ps vs st n){t:Sb}(I:∀ b,kR st b=mF t b)(hn:GT t n){k:Nat}{args:List PV}{U:List Value}{v:PV}{J : Sb}{R : Nat}
  (hr:jo w Y σ args U) (hF:FnV P T k args t n v J R):GT J R/\(callFunc k U.toArray).run P w=.ok (.enter k U.toArray) w /\
  Calls P k U.toArray w λe w'=>∃ cv Y' σ' st',e=.returned cv/\(∀ b,kR st' b=mF J b)/\SW C w' Y' σ' ps vs st' R/\Rep w' Y' σ' v cv/\∀ k o,w.heap[k]?=some o->(∀ arr ty,o≠.cells arr ty (0,0))->w'.heap[k]?=some o/\(Y k->Y' k):=by
 obtain⟨h1,h2⟩:=hF hn;obtain⟨h3,h4⟩:=h2 w Y σ U st I H.zi H.yK H.next hr H.store
 refine⟨h1,h3,Calls.mono h4 λe w' hh=>?_⟩;obtain⟨cv,Y',σ',st',rfl,h5,g⟩:=hh;obtain⟨K,H2⟩:=H.compose (T':=T.at n) rfl rfl g;have hv:=g.vals;unfold jo at hv;obtain⟨c,cs,e,h6,h7⟩:=hv;cases e;exact⟨cv,Y',σ',st',rfl,h5,H2.uS (jo.keep _ K _ H.vals),h6,λk o ho hc=>g.kept H.store ho hc⟩
theorem aaV:∀ (l:List Oper) (j:Nat),adA l j=l[j]?
 | [],j=>by simp;rfl
 | x::l,0=>rfl
 | x::l,j+1=>by show adA l j=_;rw[aaV l j];simp
theorem akJ {v:PV}{want b:Bool}(h:gdK v want=some b):(∃ c,v=.bool c/\b=(c==want))\/(v=.undef/\b=false):=by
 cases v with
 | bool c=>cases h;left;exact⟨c,rfl,by cases c<;>cases want<;>rfl⟩
 | undef=>cases h;exact .inr ⟨rfl,rfl⟩
 | _=>cases h
theorem ZV (P:Program){all:Array Oper}{o:Oper}{tm:Tr PV}{ps:List PV}{g:Bool}(U:∀ i,qp tm i=kY ps i)(h:gdV all.toList o.guard tm=some g){C:Ctx T}{Y:Nat->Prop}{σ:Sg}{a:Act}{w:World}{st:St}{n:Nat}(H:SW C w Y σ ps a.tmps.toList st n) :
  Region.wanted o (yielded all a.tmps)=g:=by
 have main:gd (kK.lM P T) all o.guard ⟨ps,st,n⟩ (λ_=>g=true) (λ_=>g=false):=by
  unfold gd
  cases J:o.guard with
  | none=>rw[J] at h;cases h;rfl
  | some p =>
   obtain⟨j,want⟩:=p;rw[J] at h;have h:Option.rec (motive:=λ_=>Option Bool) none (λo=>Option.rec (motive:=λ_=>Option Bool) none (λd=>gdK (qp tm d) want) o.dst) (adA all.toList j)=some g:=h;rw[aaV,Array.getElem?_toList] at h;simp only
   cases hj:all[j]? with
   | none=>rw[hj] at h;cases h
   | some oj =>
    rw[hj] at h;have h:Option.rec (motive:=λ_=>Option Bool) none (λd=>gdK (qp tm d) want) oj.dst=some g:=h;simp only
    cases R:oj.dst with
    | none=>rw[R] at h;cases h
    | some d =>
     rw[R] at h;have h:gdK (qp tm d) want=some g:=h;rw[U] at h;simp only;rcases akJ h with ⟨c,e,rfl⟩|⟨e,rfl⟩
     rw[e];cases c<;>cases want<;>rfl
     rw[e]
 have:Region.wanted o (yielded all a.tmps)=Region.wanted o (yielded all ({ a with defers:=[] }:Act).tmps):=rfl;rw[this];obtain⟨I,_,hh⟩:=Xt main (C:=C) (a:={ a with defers:=[] }) (w:=w) ⟨⟨Y,σ,H⟩,rfl⟩;rcases hh with ⟨h1,h2⟩|⟨h1,h2⟩
 rw[h1,h2]
 rw[h1,h2]
theorem fin_inv {r:Rs}{tm:Tr PV}{n:Nat}{st:Sb}{nx:Nat}{dst:Option Nat}{E:EV}(h:fin r tm n st nx dst=some E):∃ v δ,r=some (v,δ)/\E=⟨xJ tm n dst v,n,xK δ st,Di δ nx⟩/\∀ b∈ES δ,b<=nx:=by
 cases r with
 | none=>cases h
 | some p =>
  obtain⟨v,δ⟩:=p
  cases δ with
  | nil=>cases h;exact⟨v,[],rfl,rfl,λb hb=>by cases hb⟩
  | cons x δ =>
   have h:Bool.rec (motive:=λ_=>Oe) none (Nat.rec (motive:=λ_=>Oe) (some ⟨xJ tm n dst v,n,xK (x::δ) st,1⟩) (λm _=>some ⟨xJ tm n dst v,n,xK (x::δ) st,Nat.succ (Nat.succ m)⟩) nx) (abS (λb=>Nat.ble b nx) (ES (x::δ)))=some E:=h
   cases hk:abS (λb=>Nat.ble b nx) (ES (x::δ)) with
   | false=>rw[hk] at h;cases h
   | true =>
    rw[hk] at h;refine⟨v,x::δ,rfl,?_,λb hb=>Nat.le_of_ble_eq_true (KL hk b hb)⟩
    cases nx with
    | zero=>cases h;rfl
    | succ m=>cases h;rfl
theorem acK {r:Option (PV×Sb×Nat)}{tm:Tr PV}{n:Nat}{dst:Option Nat}{E:EV}(h:fin2 r tm n dst=some E):∃ v T U,r=some (v,T,U)/\E=⟨xJ tm n dst v,n,T,U⟩:=by
 cases r with
 | none=>cases h
 | some p =>
  obtain⟨v,T,U⟩:=p;cases h;exact⟨v,T,U,rfl,rfl⟩
theorem XV {o:Op}{f:Operand}{args:Array Operand}(h:UB o=some (f,args)):∃ ts,o=.call { callee:=.value f,args:=args,argTypes:=ts }:=by
 cases o with
 | call c =>
  obtain⟨callee,U,ts⟩:=c
  cases callee with
  | value T=>cases h;exact⟨ts,rfl⟩
  | _=>cases h
 | _=>cases h
include hT hW hnar hgl hcall in
theorem acL {o:Oper}{tm:Tr PV}{n:Nat}{st:Sb}{nx:Nat}{V' : EV}(h:Ox T.ti call o tm n st nx=some V'){C:Ctx T}{D:List Nat}{a:Act}{w:World}(hA:TD C ⟨tm,n,st,nx⟩ D a w){next:Act->World->Prop}{Q:Exit->Act->World->Prop}(g:∀ a' w',TD C V' D a' w'->next a' w'):o.wp P a w next Q:=by
 obtain⟨I,hdf,ps,stl,Y,σ,htm,hn,R,H,hD⟩:=hA;have R:∀ b,kR stl b=mF st b:=R;have H:SW C w Y σ ps a.tmps.toList stl nx:=H;unfold Ox at h
 cases hc:UB o.op with
 | none =>
  rw[hc] at h;obtain⟨v,δ,hv,rfl,hkeys⟩:=fin_inv h;have H2:=H.akH λb sz rows=>by rw[R];exact I.1 b sz rows
  obtain⟨v',J,cv,w',Y',σ',⟨rfl,rfl⟩,U,H',hrep,_⟩:=afy (P:=P) (T:=T.at nx) hT hW hnar H2 (lk:=mF st) (λb x hx=>by rw[R];exact hx) ⟨H.next _ (Nat.le_refl _),Nat.le_refl _⟩ (UZ (T:=T.at nx) hgl htm) (λ_ _=>rfl) hv;have hni:uk J nx nx=Di J nx:=by cases J<;>simp[uk,Di]
  rw[hni] at H';obtain⟨K,H3⟩:=H.compose (T':=T.at nx) rfl rfl H'
  have hfin:TD C ⟨xJ tm n o.dst v',n,xK J st,Di J nx⟩ D (a.put o.dst cv) w':=by
   obtain⟨st2,hst2⟩:=akI (xK J st);refine⟨⟨TF J st I.1,λb hb=>?_⟩,by rw[put_defers];exact hdf,xR ps o.dst v',st2,Y',σ',Dx htm hn _ _,by rw[oO];exact hn,hst2,?_,hD.step H.store H'⟩
   have hb:Di J nx<=b:=hb
   cases J with
   | nil=>exact I.2 b hb
   | cons y J =>
    rw[Qx _ _ b λhk=>by have:=hkeys b hk;simp only[Di] at hb;omega];exact I.2 b (by simp only[Di] at hb;show nx<=b;omega)
   refine (H3.xR hrep o.dst).ext λb x hx=>?_;rw[hst2] at hx;exact acJ J st stl (λb x hx=>by rw[R];exact hx) b x hx
  have:=g _ _ hfin;unfold Oper.wp;rcases U with U|⟨U,rfl⟩
  rw[U];exact this
  rw[U];exact this
 | some p =>
  obtain⟨f,args⟩:=p;rw[hc] at h;obtain⟨v,t',n',hr,rfl⟩:=acK h;obtain⟨k,caps,O,hr⟩:=WB hr;obtain⟨ts,ho⟩:=XV hc;have hev:=UZ (T:=T) hgl htm;rw[Tn hev,WA] at hr;rw[hev] at O;have hfv:=nM H f;rw[O] at hfv;unfold Rep at hfv;obtain⟨cs,ef,hcs⟩:=hfv;have hall:=jo.app _ _ _ _ (yL H args.toList) hcs;rw[Qh] at hall;obtain⟨hn',hent,hc2⟩:=ams H R I hall (hcall _ _ _ _ _ _ _ hr);unfold Oper.wp;rw[OG ho ef hent];refine Calls.mono hc2 λe w' hh=>?_;obtain⟨cv,Y',σ',st',rfl,hst',H',hv,hD'⟩:=hh
  exact g _ _ ⟨hn',by rw[put_defers];exact hdf,xR ps o.dst v,st',Y',σ',Dx htm hn _ _,by rw[oO];exact hn,hst',H'.xR hv o.dst,hD.1,λr hr=>by
   obtain⟨g0,g1,g2⟩:=hD.2 r hr;obtain⟨g3,g4⟩:=hD' r _ g2 λarr ty e=>by cases e
   exact⟨g0,g4 g1,g3⟩⟩
include hT hW hnar hgl hcall in
theorem Ro {all:Array Oper}{Q:Exit->Act->World->Prop}{C:Ctx T}{D:List Nat}:∀ (l:List Oper) (V U : EV),opsV T.ti call all.toList l V=some U ->
  ∀ a w,TD C V D a w->(∀ J w',TD C U D J w'->Q .normal J w')->wpList P all Q l a w
 | [],V,U,h,a,w,hA,hQ=>by cases h;exact hQ a w hA
 | o::l,⟨tm,n,st,nx⟩,U,h,a,w,hA,hQ=>by
  have h:Option.rec (motive:=λ_=>Oe) none
   (λg=>Bool.rec (motive:=λ_=>Oe) (opsV T.ti call all.toList l ⟨xJ tm n o.dst PV.undef,n,st,nx⟩) (Option.rec (motive:=λ_=>Oe) none (λE'=>opsV T.ti call all.toList l E') (Ox T.ti call o tm n st nx)) g) (gdV all.toList o.guard tm)=some U:=h
  cases hg:gdV all.toList o.guard tm with
  | none=>rw[hg] at h;cases h
  | some g =>
   rw[hg] at h;have hA':=hA;obtain⟨hnn,hdf,ps,stl,Y,σ,R,hn,hst,H,hD⟩:=hA';have hw:=ZV P R hg H;unfold wpList
   cases g with
   | true =>
    rw[if_pos hw];have h:Option.rec (motive:=λ_=>Oe) none (λE'=>opsV T.ti call all.toList l E') (Ox T.ti call o tm n st nx)=some U:=h
    cases hs:Ox T.ti call o tm n st nx with
    | none=>rw[hs] at h;cases h
    | some V1 =>
     rw[hs] at h;exact .inl (acL hT hW hnar hgl hcall hs hA λJ w' I=>Ro l V1 U h J w' I hQ)
   | false =>
    rw[if_neg (by rw[hw];simp)];have h:opsV T.ti call all.toList l ⟨xJ tm n o.dst PV.undef,n,st,nx⟩=some U:=h;refine Ro l _ U h _ w ⟨hnn,by rw[put_defers];exact hdf,xR ps o.dst .undef,stl,Y,σ,Dx R hn _ _,by rw[oO];exact hn,hst,H.xR bF o.dst,hD⟩ hQ
end
end Go.Pv
namespace Go.Pv
open Go
theorem Qy {a b:Bool}(h:(match a with|true=>b|false=>!b)=true):a=b:=by cases a<;>cases b<;>simp_all
mutual
theorem agi:∀ (d:Nat) (x y:PV),eqP d x y=true->x=y
 | 0,x,y,h=>by simp[eqP] at h
 | d+1,x,y,h=>by
  unfold eqP at h
  split at h
  rw[Qy h]
  obtain⟨h1,h2⟩:=ug h;rw[UY,decide_eq_true_iff] at h2;rw[XT h1,h2]
  rw[aaT,decide_eq_true_iff] at h;rw[h]
  rfl
  rfl
  rfl
  obtain⟨h1,h2⟩:=ug h;obtain⟨h2,U⟩:=ug h2;rw[Nat.eq_of_beq_eq_true h1,Nat.eq_of_beq_eq_true h2,Nat.eq_of_beq_eq_true U]
  obtain⟨h1,h2⟩:=ug h;rw[Nat.eq_of_beq_eq_true h1,Nat.eq_of_beq_eq_true h2]
  obtain⟨h1,h2⟩:=ug h;obtain⟨h2,U⟩:=ug h2;rw[Nat.eq_of_beq_eq_true h1,Nat.eq_of_beq_eq_true h2,Nat.eq_of_beq_eq_true U]
  obtain⟨h1,h2⟩:=ug h;obtain⟨h2,U⟩:=ug h2;rw[Nat.eq_of_beq_eq_true h1,Qy h2,Nb d _ _ U]
  rw[Ak d _ _ h]
  rw[Ak d _ _ h]
  obtain⟨h1,h2⟩:=ug h;rw[Nat.eq_of_beq_eq_true h1,Ak d _ _ h2]
  cases h
theorem Ak:∀ (d:Nat) (x y:List PV),eqP.eqRow (eqP d) x y=true->x=y
 | d,[],[],_=>rfl
 | d,[],_::_,h=>by simp[eqP.eqRow] at h
 | d,_::_,[],h=>by simp[eqP.eqRow] at h
 | d,x::xs,y::ys,h=>by
  unfold eqP.eqRow at h;obtain⟨h1,h2⟩:=ug h;rw[agi d x y h1,Ak d xs ys h2]
theorem Nb:∀ (d:Nat) (x y:List (List PV)),eqP.eqRows (eqP d) x y=true->x=y
 | d,[],[],_=>rfl
 | d,[],_::_,h=>by simp[eqP.eqRows] at h
 | d,_::_,[],h=>by simp[eqP.eqRows] at h
 | d,x::xs,y::ys,h=>by
  unfold eqP.eqRows at h;obtain⟨h1,h2⟩:=ug h;rw[Ak d x y h1,Nb d xs ys h2]
end
theorem ad4 {x y:Option mJ}(h:ahm x y=true):x=y:=by
 unfold ahm at h
 split at h
 obtain⟨h1,h2⟩:=ug h;rw[Qy h1,Ak _ _ _ h2]
 obtain⟨h1,h2⟩:=ug h;obtain⟨h2,U⟩:=ug h2;rw[Qy h1,Nat.eq_of_beq_eq_true h2,Nb _ _ _ U]
 cases h
theorem TG (p:Nat->Bool):∀ cs:List PV,V5 p (.agg cs)=Oy p cs
 | []=>rfl
 | x::cs=>by
  have e1:V5 p (.agg (x::cs))=Bool.rec (motive:=λ_=>Bool) false (V5 p (.agg cs)) (V5 p x):=rfl;have U:Oy p (x::cs)=Bool.rec (motive:=λ_=>Bool) false (Oy p cs) (V5 p x):=rfl;rw[e1,U,TG p cs]
theorem XW {p:Nat->Bool}{x:PV}{cs:List PV}(h:Oy p (x::cs)=true):V5 p x=true/\Oy p cs=true:=by
 have h:Bool.rec (motive:=λ_=>Bool) false (Oy p cs) (V5 p x)=true:=h
 cases hx:V5 p x with
 | false=>rw[hx] at h;cases h
 | true=>rw[hx] at h;exact⟨rfl,h⟩
section
variable {p:Nat->Bool}{σ σ' : Sg}(hσ:∀ b,p b=true->σ' b=σ b){w:World}{Y:Nat->Prop}
include hσ
mutual
theorem acM:∀ (v:PV) (u:Value),V5 p v=true->Rep w Y σ v u->Rep w Y σ' v u
 | .bool _,_,_,h|.sb _,_,_,h|.int _ _,_,_,h|.si _ _,_,_,h|.str _,_,_,h
 | .yJ,_,_,h|.RY,_,_,h|.top,_,_,h|.undef,_,_,h=>by unfold Rep at h |-;exact h
 | .sl _ _ _,_,_,h|.pp _,_,_,h=>by unfold Rep at h |-;exact h
 | .ow _ _ _,_,e,_=>by cases e
 | .bo _ _ _ _ _ _,_,e,_=>by cases e
 | .np _ _ _ _ _ _ _,_,e,_=>by cases e
 | .agg cs,u,e,h=>by
  rw[TG] at e;unfold Rep at h |-;obtain⟨vs,e1,h⟩:=h;exact⟨vs,e1,KN cs vs e h⟩
 | .IX cs,u,e,h=>by
  have e:V5 p (.agg cs)=true:=e;rw[TG] at e;unfold Rep at h |-;obtain⟨vs,e1,h⟩:=h;exact⟨vs,e1,KN cs vs e h⟩
 | .fn f cs,u,e,h=>by
  have e:V5 p (.agg cs)=true:=e;rw[TG] at e;unfold Rep at h |-;obtain⟨vs,e1,h⟩:=h;exact⟨vs,e1,KN cs vs e h⟩
 | .os b r n,u,e,h=>by
  have e:p b=true:=e;unfold Rep at h |-;rw[hσ b e];exact h
 | .lv b c,u,e,h=>by
  have e:p b=true:=e;unfold Rep at h |-;rw[hσ b e];exact h
 | .lp b r c,u,e,h=>by
  have e:p b=true:=e;unfold Rep at h |-;rw[hσ b e];exact h
theorem KN:∀ (cs:List PV) (vs:List Value),Oy p cs=true->jo w Y σ cs vs->jo w Y σ' cs vs
 | [],vs,_,h=>by unfold jo at h |-;exact h
 | x::cs,vs,e,h=>by
  obtain⟨e1,R⟩:=XW e;unfold jo at h |-;obtain⟨v,U,T,h1,h2⟩:=h;exact⟨v,U,T,acM x v e1 h1,KN cs U R h2⟩
end
theorem XX {b:Nat}:∀ (cs:List PV) (o:Nat),Oy p cs=true->lT w Y σ b cs o->lT w Y σ' b cs o
 | [],o,_,h=>by unfold lT;trivial
 | x::cs,o,e,h=>by
  obtain⟨e1,T⟩:=XW e;unfold lT at h |-;obtain⟨⟨v,h1,h2⟩,U⟩:=h;exact⟨⟨v,h1,acM hσ x v e1 h2⟩,XX cs (o+1) T U⟩
theorem agj {l:Loc}{x:mJ}(e:ahl p (some x)=true)(h:jH w Y σ l x):jH w Y σ' l x:=by
 cases x with
 | var ro row =>
  have e:Oy p row=true:=e;unfold jH at h |-;obtain⟨h1,h2,R,U,T⟩:=h;exact⟨h1,h2,R,XX hσ row _ e U,T⟩
 | arr ro sz rows=>unfold jH at h |-;exact h
 | pU sz rows=>cases e
end
theorem SW.ain {T T' : Tab}{C:Ctx T}{w w' : World}{Y Y' : Nat->Prop}{σ σc σ1:Sg}{ps qs:List PV}{vs us:List Value}{g str st1 st' : St}{n id R:Nat}(H:SW C w Y σ ps vs g n)(hgl:T'.gl=T.gl)(hp:T'.vY=id)
  (hsub:∀ b x,kR str b=some x->kR g b=some x/\b<id/\σc b=σ b) (hσc:∀ b l,σc b=some l->σ b=some l) (hwin:∀ b,id<=b->b<R->σ b=none/\kR g b=none) (hid:T.vY<=id) (hN:R<=n)
  (I : SW (JI T' w Y σc str) w' Y' σ1 qs us st1 R)
  (hst' : ∀ b x,kR st' b=some x->((kR str b≠none\/(id<=b/\b<R))/\kR st1 b=some x)\/(kR str b=none/\kR g b=some x))
  (hnn:∀ b sz rows,kR st' b≠some (.pU sz rows)) :
  ∃ σ',SW C w' Y' σ' ps vs st' n/\jo w' Y' σ' qs us/\∀ b,(b<id\/R<=b)->σ' b=σ b:=by
 have hle:id<=R:=by have:=I.fix.1;rw[hp] at this;exact this
 have hfix:∀ b,b<id->σ1 b=σc b:=λb hb=>I.fix.2 b (by rw[hp];exact hb)
 let σn:Sg:=λb=>if b<id\/R<=b then σ b else σ1 b
 have J:∀ b,(b<id\/R<=b)->σn b=σ b:=λb h=>if_pos h;have hin:∀ b,id<=b->b<R->σn b=σ1 b:=λb h1 h2=>if_neg ai
 have excl:∀ k,k<w.heap.size->Y' k->Y k:=by
  intro k hk hy;rcases I.xI k hy hk with h|h
  exact h.1
  exact h.1
 have K:Keep w w' Y Y' σ σn:=⟨λk hk hy=>I.qh.block k hk λh=>hy h.1,excl,I.qh.size,λb l U=>by
  by_cases h:b<id\/R<=b
  rw[J b h];exact U
  rw[(hwin b ai ai).1] at U;cases U⟩
 have sg1:qI σ1 σn:=λb l U=>by
  rcases Nat.lt_or_ge b id with h|h
  rw[J b (.inl h)];rw[hfix b h] at U;exact hσc b l U
  rcases Nat.lt_or_ge b R with h2|h2
  rw[hin b h h2];exact U
  rw[I.next b h2] at U;cases U
 have K1:Keep w' w' Y' Y' σ1 σn:=⟨λ_ _ _=>rfl,λ_ _ h=>h,Nat.le_refl _,sg1⟩
 have inst:∀ k,F6 σc str k->∃ b y l,kR str b≠none/\kR g b=some y/\σ b=some l/\l.cb=k:=by
  rintro k ⟨b,y,l,h1,h2,h3⟩
  exact⟨b,y,l,by rw[h1];simp,(hsub b y h1).1,hσc b l h2,h3⟩
 have eq1:∀ b,(kR str b≠none\/(id<=b/\b<R))->σn b=σ1 b:=by
  intro b hb;rcases Nat.lt_or_ge b id with h|h
  rw[J b (.inl h),hfix b h];rcases hb with hb|hb
  cases hs:kR str b with
  | none=>exact absurd hs hb
  | some y=>exact (hsub b y hs).2.2.symm
  omega
  rcases hb with hb|hb
  cases hs:kR str b with
  | none=>exact absurd hs hb
  | some y=>have:=(hsub b y hs).2.1;omega
  exact hin b hb.1 hb.2
 have eq2:∀ b x,kR str b=none->kR g b=some x->σn b=σ b:=by
  intro b x _ hx;refine J b ?_;rcases Nat.lt_or_ge b id with h|h
  exact .inl h
  rcases Nat.lt_or_ge b R with h2|h2
  rw[(hwin b h h2).2] at hx;cases hx
  exact .inr h2
 have nin:∀ b x l,kR str b=none->kR g b=some x->σ b=some l->¬ F6 σc str l.cb:=by
  intro b x l hb hx U hi;obtain⟨b',y,l',h1,h2,h3,h4⟩:=inst _ hi;have:=H.store.inj b' b y x l' l h2 hx h3 U h4;subst this;exact h1 hb
 have lt0:∀ b x l,kR g b=some x->σ b=some l->l.cb<w.heap.size:=by
  intro b x l hx U;rcases H.store.blk b x hx with ⟨l2,hl2,hB⟩|⟨hn,_⟩
  rw[U] at hl2;cases hl2;exact hB.lt
  rw[U] at hn;cases hn
 refine⟨σn,⟨jo.keep _ K _ H.vals,⟨λb x hx=>?_,λb b' x x' l l' hx hx' U hl' e=>?_⟩,λb hb=>?_,I.yK,λk hk=>?_,H.c0,λk hk hlt=>?_,?_,λb x l hx U=>?_,by have:=I.zi;rw[hgl] at this;exact this,?_,C9.none hnn⟩,jo.keep _ K1 _ I.vals,J⟩
 rcases hst' b x hx with ⟨h1,h2⟩|⟨h1,h2⟩
 rcases I.store.blk b x h2 with ⟨l,U,hB⟩|⟨hn,h3⟩
 exact .inl ⟨l,sg1 b l U,jH.keep K1 rfl Iff.rfl hB⟩
 exact .inr ⟨by rw[eq1 b h1];exact hn,h3⟩
 rcases H.store.blk b x h2 with ⟨l,U,hB⟩|⟨hn,h3⟩
 have hni:=nin b x l h1 h2 U;exact .inl ⟨l,K.sg b l U,jH.keep K (I.qh.block _ hB.lt λh=>hni h.2) ⟨excl _ hB.lt,λh=>I.y0 _ ⟨h,hni⟩⟩ hB⟩
 exact .inr ⟨by rw[eq2 b x h1 h2];exact hn,h3⟩
 have side:∀ b b' x x' l l',((kR str b≠none\/(id<=b/\b<R))/\kR st1 b=some x)->(kR str b'=none/\kR g b'=some x')->σn b=some l->σn b'=some l'->l.cb=l'.cb->False:=by
  rintro b b' x x' l l' ⟨h1,h2⟩ ⟨h3,h4⟩ U hl' e
  rw[eq1 b h1] at U;rw[eq2 b' x' h3 h4] at hl';have hlt':=lt0 b' x' l' h4 hl';rcases I.own b x l h2 U with h|h
  have h:w.heap.size<=l.cb:=h;omega
  rw[e] at h;exact nin b' x' l' h3 h4 hl' h
 rcases hst' b x hx with h|h<;>rcases hst' b' x' hx' with h'|h'
 exact I.store.inj b b' x x' l l' h.2 h'.2 (by rw[<- eq1 b h.1];exact U) (by rw[<- eq1 b' h'.1];exact hl') e
 exact (side b b' x x' l l' h h' U hl' e).elim
 exact (side b' b x' x l' l h' h hl' U e.symm).elim
 exact H.store.inj b b' x x' l l' h.2 h'.2 (by rw[<- eq2 b x h.1 h.2];exact U) (by rw[<- eq2 b' x' h'.1 h'.2];exact hl') e
 rw[J b (.inr ai)];exact H.next b hb
 refine I.y0 k ⟨H.y0 k hk,λhi=>?_⟩;obtain⟨b,y,l,h1,h2,h3,rfl⟩:=inst k hi;exact H.away h2 h3 hk
 exact H.xI k (excl k (Nat.lt_of_lt_of_le hlt H.qh.size) hk) hlt
 refine⟨by rw[I.qh.os];exact H.qh.os,by rw[I.qh.tape];exact H.qh.tape,by rw[I.qh.output];exact H.qh.output,Nat.le_trans H.qh.size I.qh.size,λk hk hM=>?_⟩;rw[I.qh.block k (Nat.lt_of_lt_of_le hk H.qh.size) λh=>?_]
 exact H.qh.block k hk hM
 obtain⟨h1,h2⟩:=h;rcases H.xI k h1 hk with h3|h3
 obtain⟨b,y,l,h4,h5,h6,rfl⟩:=inst k h2;exact H.away h5 h6 h3
 exact hM h3
 rcases hst' b x hx with ⟨h1,h2⟩|⟨h1,h2⟩
 rw[eq1 b h1] at U;rcases I.own b x l h2 U with h|h
 exact iw
 obtain⟨b',y',l',h5,h6,h7,h8⟩:=inst _ h;rw[<- h8];exact H.own b' y' l' h6 h7
 rw[eq2 b x h1 h2] at U;exact H.own b x l h2 U
 refine⟨H.fix.1,λb hb=>?_⟩;rw[J b (.inl ai)];exact H.fix.2 b hb
end Go.Pv
namespace Go.Pv
open Go
noncomputable def TJ:Dl->Dl
 | []=>[]
 | (b,x)::δ=>(b,noN x)::TJ δ
theorem KO:∀ (δ:Dl) (b:Nat),lU (TJ δ) b=(lU δ b).map noN
 | [],b=>rfl
 | (c,x)::δ,b=>by
  simp only[TJ,lU];rw[KO δ b]
  cases lU δ b with
  | some y=>rfl
  | none =>
   by_cases h:c=b
   simp[h]
   simp[h]
theorem Rq:∀ (δ:Dl) (t:Sb) (b:Nat),mF (xK δ t) b=(match lU (TJ δ) b with|some x=>x|none=>mF t b)
 | [],t,b=>rfl
 | (c,x)::δ,t,b=>by
  show mF (xK δ (setB (noN x) c t)) b=_;rw[Rq δ];simp only[TJ,lU]
  cases lU (TJ δ) b with
  | some y=>rfl
  | none =>
   simp only;rw[KH]
   by_cases h:c=b
   subst h;simp
   rw[if_neg (Ne.symm h),if_neg h]
theorem akK (δ:Dl)(b sz:Nat)(rows:List (List PV)):lU (TJ δ) b≠some (some (.pU sz rows)):=by
 rw[KO];intro h
 cases U:lU δ b with
 | none=>rw[U] at h;cases h
 | some y =>
  rw[U] at h;simp only[Option.map_some,Option.some.injEq] at h;exact (TE h).2 sz rows rfl
theorem ZW:∀ (δ:Dl) (b:Nat) (x:Option mJ),(b,x)∈δ->b∈ES δ
 | [],b,x,h=>by cases h
 | (c,y)::δ,b,x,h=>by
  have e:ES ((c,y)::δ)=c::ES δ:=rfl;rw[e];rcases List.mem_cons.1 h with h|h
  cases h;simp
  exact List.mem_cons_of_mem _ (ZW δ b x h)
theorem ZX (δ:Dl)(b:Nat)(h:lU (TJ δ) b≠none):b∈ES δ:=by
 rw[KO] at h;obtain⟨x,hx⟩:=MR δ b λe=>h (by rw[e];rfl);exact ZW δ b x hx
theorem akL {st:St}{δ:Dl}(b:Nat)(x:mJ)(h:kR (lh (TJ δ) st) b=some x):kR (lh δ st) b=some x:=by
 rw[qO,KO] at h;rw[qO]
 cases U:lU δ b with
 | none=>rw[U] at h;exact h
 | some y =>
  rw[U] at h;exact (TE h).1
theorem U0 {f:Nat->Option mJ}:∀ (l:List Nat) (b:Nat),lU (l.map λb=>(b,f b)) b=if b∈l then some (f b) else none
 | [],b=>by simp[lU]
 | c::l,b=>by
  simp only[List.map_cons,lU];rw[U0 l b]
  by_cases h:b∈l
  rw[if_pos h,if_pos (List.mem_cons_of_mem _ h)]
  rw[if_neg h]
  by_cases U:c=b
  subst U;simp
  have T:¬ b∈c::l:=by
   rw[List.mem_cons]
   rintro (e|e)
   exact U e.symm
   exact h e
  rw[if_neg T];simp only[if_neg U]
section
variable {P:Program}{T:Tab}(hT:lW P T)(hW:I4 P)(hnar:T.pU=0)(hgl:∀ g,T.gl g=none){call:Dk}(hcall:Na P T call)
include hT hW hnar hgl in
theorem aio {all:Array Oper}{o:Oper}{tm:Tr PV}{er:List PV}(htm:∀ i,qp tm i=kY er i){lk:Nat->Option mJ}{id:Nat}{v:PV}{δ:Dl}(h:opV o.op T.ti (evV tm) lk id=some (v,δ)):akm P T all o er lk id 1 v (TJ δ):=by
 intro C ps Y σ a w st n hl H hn hlk I J hle next Q R
 have H2:=H.afg hn;obtain⟨v',δ',cv,w',Y',σ',⟨rfl,rfl⟩,U,H',hrep,g⟩:=afy hT hW hnar H2 hlk ⟨(I id (Nat.le_refl _) ai).1,J⟩ (UZ (T:=T) hgl htm) (yM hl) h;have hni:uk δ' n id<=n:=by cases δ'<;>simp[uk]<;>omega
 have H3:=(H.acg H').mono hni;have:=R cv w' Y' σ' (lh (TJ δ') st) (H3.ext λb x hx=>akL b x hx) (λb=>qO _ _ _) (λb hb=>g b ai) hrep (λB D hD=>hD.step H.store H');unfold Oper.wp;rcases U with U|⟨U,rfl⟩
 rw[U];exact this
 rw[U];exact this
end
end Go.Pv
namespace Go.Pv
open Go
theorem H9 {f:Nat->Bool}:∀ (l:List Nat) (x:Nat),x∈UC f l↔x∈l/\f x=true
 | [],x=>by simp[UC]
 | y::l,x=>by
  have e:UC f (y::l)=Bool.rec (motive:=λ_=>List Nat) (UC f l) (y::UC f l) (f y):=rfl;rw[e]
  cases hy:f y with
  | false =>
   show x∈UC f l↔_;rw[H9 l x,List.mem_cons];constructor
   rintro⟨h1,h2⟩;exact⟨.inr h1,h2⟩
   rintro⟨rfl|h1,h2⟩
   rw[hy] at h2;cases h2
   exact⟨h1,h2⟩
  | true =>
   show x∈y::UC f l↔_;rw[List.mem_cons,H9 l x,List.mem_cons];constructor
   rintro (rfl|⟨h1,h2⟩)
   exact⟨.inl rfl,hy⟩
   exact⟨.inr h1,h2⟩
   rintro⟨rfl|h1,h2⟩
   exact .inl rfl
   exact .inr ⟨h1,h2⟩
theorem Dy (t:Sb):∀ (l:List Nat) (b:Nat),mF (afZ t l) b=if b∈l then mF t b else none
 | [],b=>by simp;rfl
 | c::l,b=>by
  have e:afZ t (c::l)=setB (mF t c) c (afZ t l):=rfl;rw[e,KH,Dy t l b]
  by_cases h:b=c
  subst h;simp
  rw[if_neg h]
  by_cases h2:b∈l
  rw[if_pos h2,if_pos (List.mem_cons_of_mem _ h2)]
  rw[if_neg h2,if_neg (by rw[List.mem_cons];rintro (e|e);exact h e;exact h2 e)]
theorem amu {x:Option mJ}(h:∀ sz rows,x≠some (.pU sz rows)):noN x=x:=by
 cases x with
 | none=>rfl
 | some x =>
  cases x with
  | pU sz rows=>exact absurd rfl (h sz rows)
  | _=>rfl
theorem Rt {x:Option mJ}:(Option.rec (motive:=λ_=>Bool) false (λ_=>true) x:Bool)=true↔x≠none:=by
 cases x with
 | none=>simp
 | some y=>simp
theorem TL {R:List Nat}{t:Sb}{b:Nat}{x:mJ}(h:lk1 R t b=some x):b∈R/\mF t b=some x:=by
 have h:Bool.rec (motive:=λ_=>Option mJ) none (mF t b) (JH R b)=some x:=h
 cases hb:JH R b with
 | false=>rw[hb] at h;cases h
 | true=>rw[hb] at h;exact⟨(EU _ _).1 hb,h⟩
theorem amv {R:List Nat}{t:Sb}{b:Nat}(hb:b∈R):lk1 R t b=mF t b:=by
 show Bool.rec (motive:=λ_=>Option mJ) none (mF t b) (JH R b)=_;rw[(EU _ _).2 hb]
section
variable {P:Program}{T:Tab}(hT:lW P T)(hW:I4 P)(hnar:T.pU=0)(hgl:∀ g,T.gl g=none){call:Dk}(hcall:Na P T call)
include hgl hcall in
theorem agk {all:Array Oper}{o:Oper}{f:Operand}{args:Array Operand}{ts:Array TypeId}(ho:o.op=.call { callee:=.value f,args:=args,argTypes:=ts }){tm:Tr PV}{er:List PV}(htm:∀ i,qp tm i=kY er i){k:Nat}{caps:List PV}(O:evV tm f=.fn k caps)
  {n:Nat} {t:Sb} {id:Nat} {E' : EV} {tc:Tc} (hnt:GT t id) (h:ahn call k (UA (Xb (evV tm) args.toList) caps) tm n t id o.dst=some (E',tc)) :
  ∃ v m δ,akm P T all o er (lk1 tc.1 t) id m v δ/\E'.tm=xJ tm n o.dst v/\E'.n=n/\E'.nx=id+m/\(∀ st:St,(∀ b,kR st b=mF t b)->∀ b,kR (lh δ st) b=mF E'.st b)/\GT E'.st E'.nx /\
   (∀ b,lU δ b≠none->(id<=b/\b<id+m)\/mF t b≠none)/\(∀ b sz rows,lU δ b≠some (some (.pU sz rows)))/\(∀ b,lU δ b≠none->b∈tc.2.2)/\(∀ b∈tc.2.2,b∈tc.2.1):=by
 unfold ahn at h;simp only at h;generalize hρ:rch (mF t) 8 (ahk (UA (Xb (evV tm) args.toList) caps) []) []=ρ at h
 split at h
 ·rename_i hchk;obtain⟨c1,c2⟩:=ug hchk;obtain⟨c2,c3⟩:=ug c2;have c1:∀ b∈ρ,b<id:=λb hb=>Nat.le_of_ble_eq_true (KL c1 b hb);have c3:∀ b∈ρ,ahl (JH ρ) (mF t b)=true:=λb hb=>KL c3 b hb
  split at h
  ·rename_i v st1 I hc;have hF:=hcall _ _ _ _ _ _ _ hc;generalize hS:adu (UC (λb=>Option.rec (motive:=λ_=>Bool) false (λ_=>true) (mF t b)) ρ) (UC (λb=>Bool.rec (motive:=λ_=>Bool) false (Nat.ble (Nat.succ b) I) (Nat.ble id b)) (rch (mF st1) 8 (nmL v ρ) []))=S at h
   have hle0:Nat.ble id I=true:=by
    cases hle0:Nat.ble id I with
    | true=>rfl
    | false=>rw[hle0] at h;cases h
   rw[hle0] at h;have hle:=Nat.le_of_ble_eq_true hle0;simp only[Option.some.injEq,Prod.mk.injEq] at h;obtain⟨rfl,rfl⟩:=h
   have hSin:∀ b,b∈ρ->mF t b≠none->b∈S:=λb h1 h2=>by
    rw[<- hS,Wq,List.mem_append];exact .inl ((H9 _ _).2 ⟨h1,Rt.2 h2⟩)
   have hSout:∀ b,b∈S->(b∈ρ/\mF t b≠none)\/(id<=b/\b<I):=λb hb=>by
    rw[<- hS,Wq,List.mem_append] at hb;rcases hb with hb|hb
    obtain⟨h1,h2⟩:=(H9 _ _).1 hb;exact .inl ⟨h1,Rt.1 h2⟩
    obtain⟨h1,h2⟩:=(H9 _ _).1 hb
    right
    cases hb2:Nat.ble id b with
    | false=>rw[hb2] at h2;cases h2
    | true =>
     rw[hb2] at h2;exact⟨Nat.le_of_ble_eq_true hb2,Nat.le_of_ble_eq_true h2⟩
   generalize hWd:UC (λb=>F5 (ahm (mF st1 b) (mF t b))) S=W;have hWS:∀ b∈W,b∈S:=λb hb=>by rw[<- hWd] at hb;exact ((H9 _ _).1 hb).1
   have hSW:∀ b,b∈S->b ∉ W->mF st1 b=mF t b:=λb h1 h2=>by
    rw[<- hWd,H9] at h2;refine ad4 ?_
    cases he:ahm (mF st1 b) (mF t b) with
    | true=>rfl
    | false=>exact absurd ⟨h1,by rw[he];rfl⟩ h2
   have hsubNN:GT (afZ t ρ) id:=by
    refine⟨λb sz rows hb=>?_,λb hb=>?_⟩
    rw[Dy] at hb
    by_cases h:b∈ρ
    rw[if_pos h] at hb;exact hnt.1 b sz rows hb
    rw[if_neg h] at hb;cases hb
    rw[Dy]
    by_cases h:b∈ρ
    have:=c1 b h;omega
    rw[if_neg h]
   obtain⟨⟨hn1,hn1b⟩,hF⟩:=hF hsubNN;have lδ:∀ b,lU (W.map λb=>(b,mF st1 b)) b=if b∈W then some (mF st1 b) else none:=λb=>U0 W b
   have hgetE:∀ b,mF (xK (S.map λb=>(b,mF st1 b)) t) b=if b∈S then mF st1 b else mF t b:=λb=>by
    rw[Rq,KO,U0]
    by_cases h:b∈S
    rw[if_pos h,if_pos h];exact amu λsz rows=>hn1 b sz rows
    rw[if_neg h,if_neg h];rfl
   refine⟨v,I-id,W.map λb=>(b,mF st1 b),?_,rfl,rfl,by show I=_;omega,λst hst b=>?_,?_,λb hb=>?_,λb sz rows hb=>?_,λb hb=>?_,hWS⟩
   intro C ps Y σ a w st n2 hl H hn hlk hwin hpas hle2 next Q hnext
   have hwin:∀ b,id<=b->b<I->σ b=none/\kR st b=none:=λb h1 h2=>hwin b h1 ai;have hev:=yM (T:=T) hl;rw[ho] at hev;have hevV:=UZ (T:=T) hgl htm;have hfv:=nM H f;rw[hev f fP,<- hevV,O] at hfv;unfold Rep at hfv;obtain⟨cs,ef,hcs⟩:=hfv;have hargs:=yL H args.toList;rw[GN (ps:=ps) (qs:=er) args.toList λx hx=>hev x bW] at hargs;have hall:=jo.app _ _ _ _ hargs hcs;rw[Qh,<- Tn hevV,<- WA] at hall
   let σc:Sg:=λb=>if b∈ρ then σ b else none
   have hσc:∀ b,b∈ρ->σc b=σ b:=λb hb=>if_pos hb;have hσn:∀ b,b ∉ ρ->σc b=none:=λb hb=>if_neg hb;have hσp:∀ b,JH ρ b=true->σc b=σ b:=λb hb=>hσc b ((EU _ _).1 hb)
   have hσs:∀ b l,σc b=some l->σ b=some l:=λb l hb=>by
    by_cases h:b∈ρ
    rw[<- hσc b h];exact hb
    rw[hσn b h] at hb;cases hb
   obtain⟨str,J⟩:=akI (afZ t ρ)
   have g:∀ b x,kR str b=some x->kR st b=some x/\b<id/\σc b=σ b/\b∈ρ:=λb x hx=>by
    rw[J,Dy] at hx
    by_cases h:b∈ρ
    rw[if_pos h] at hx;exact⟨hlk b x (by rw[amv h];exact hx),c1 b h,hσc b h,h⟩
    rw[if_neg h] at hx;cases hx
   have hstR:N8 w Y σc str:=by
    refine⟨λb x hx=>?_,λb b' x x' l l' hx hx' hl hl' e=>?_⟩
    obtain⟨h1,h2,h3,h4⟩:=g b x hx;have h5:=c3 b h4;rw[J,Dy,if_pos h4] at hx;rw[hx] at h5;rcases H.store.blk b x h1 with ⟨l,hl,hB⟩|⟨h6,h7⟩
    exact .inl ⟨l,by rw[h3];exact hl,agj hσp h5 hB⟩
    exact .inr ⟨by rw[h3];exact h6,h7⟩
    exact H.store.inj b b' x x' l l' (g b x hx).1 (g b' x' hx').1 (hσs b l hl) (hσs b' l' hl') e
   obtain⟨hent,hcall2⟩:=hF w Y σc _ str J H.zi H.yK (λb hb=>hσn b λh=>by have:=c1 b h;omega) (KN hσp _ _ c2 hall) hstR;unfold Oper.wp;rw[OG ho ef hent];refine Calls.mono hcall2 λe w' hh=>?_;obtain⟨cv,Y',σ1,st1L,rfl,hst1,H'⟩:=hh
   obtain⟨σ',H2,hv,hoff⟩:=SW.ain (st':=lh (W.map λb=>(b,mF st1 b)) st) H (T':=T.at id) rfl rfl (λb x hx=>by obtain⟨h1,h2,h3,_⟩:=g b x hx;exact⟨h1,h2,h3⟩) hσs hwin hpas ai H' (λb x hx=>by
    rw[qO,lδ] at hx
    by_cases U:b∈W
    rw[if_pos U] at hx;simp only at hx
    left
    refine⟨?_,by rw[hst1];exact hx⟩;rcases hSout b (hWS b U) with ⟨h1,h2⟩|h1
    left;rw[J,Dy,if_pos h1];exact h2
    exact .inr h1
    rw[if_neg U] at hx;simp only at hx
    cases hs:kR str b with
    | none=>exact .inr ⟨rfl,hx⟩
    | some y =>
     obtain⟨h1,h2,h3,h4⟩:=g b y hs;rw[J,Dy,if_pos h4] at hs
     left
     refine⟨.inl aI,?_⟩;rw[h1] at hx;cases hx;rw[hst1,hSW b (hSin b h4 (by rw[hs];simp)) U];exact hs) (λb sz rows hb=>by
    rw[qO,lδ] at hb
    by_cases U:b∈W
    rw[if_pos U] at hb;exact hn1 b sz rows hb
    rw[if_neg U] at hb;exact hn b sz rows hb)
   unfold jo at hv;obtain⟨c,cs',e,h6,h7⟩:=hv;cases e;exact hnext cv w' Y' σ' _ H2 (λb=>qO _ _ _) (λb hb=>hoff b (hb.elim .inl λh=>.inr ai)) h6 (λB D hD=>hD.step hstR H')
   rw[qO,lδ,hst];show _=mF (xK (S.map λb=>(b,mF st1 b)) t) b;rw[hgetE]
   by_cases U:b∈W
   rw[if_pos U,if_pos (hWS b U)]
   rw[if_neg U]
   by_cases R:b∈S
   rw[if_pos R,hSW b R U]
   rw[if_neg R]
   ·refine⟨λb sz rows hb=>?_,λb hb=>?_⟩
    rotate_left
    show mF (xK (S.map λb=>(b,mF st1 b)) t) b=none;have hb:I<=b:=hb;rw[hgetE]
    by_cases R:b∈S
    rw[if_pos R];exact hn1b b hb
    rw[if_neg R];exact hnt.2 b ai
    have hb:mF (xK (S.map λb=>(b,mF st1 b)) t) b=some (.pU sz rows):=hb;rw[hgetE] at hb
    by_cases R:b∈S
    rw[if_pos R] at hb;exact hn1 b sz rows hb
    rw[if_neg R] at hb;exact hnt.1 b sz rows hb
   rw[lδ] at hb
   by_cases U:b∈W
   rcases hSout b (hWS b U) with ⟨h1,h2⟩|h1
   exact .inr h2
   exact .inl ai
   rw[if_neg U] at hb;exact absurd rfl hb
   rw[lδ] at hb
   by_cases U:b∈W
   rw[if_pos U] at hb;simp only[Option.some.injEq] at hb;exact hn1 b sz rows hb
   rw[if_neg U] at hb;cases hb
   rw[lδ] at hb
   by_cases U:b∈W
   exact U
   rw[if_neg U] at hb;exact absurd rfl hb
  cases h
 cases h
end
end Go.Pv
namespace Go.Pv
open Go
section
variable {P:Program}{T:Tab}(hT:lW P T)(hW:I4 P)(hnar:T.pU=0)(hgl:∀ g,T.gl g=none){call:Dk}(hcall:Na P T call)
theorem aip {r:Rs}{R:List Nat}{tm:Tr PV}{n:Nat}{st:Sb}{nx:Nat}{dst:Option Nat}{E:EV}{J:Tc}(h:ajY r R tm n st nx dst=some (E,J)) :
  ∃ v δ,r=some (v,δ)/\E=⟨xJ tm n dst v,n,xK δ st,nx+1⟩/\J=(R,ES δ,ES δ)/\∀ b∈ES δ,b=nx\/mF st b≠none:=by
 unfold ajY at h
 split at h
 rename_i v δ
 split at h
 rename_i U;simp only[Option.some.injEq,Prod.mk.injEq] at h;obtain⟨rfl,rfl⟩:=h;refine⟨v,δ,rfl,rfl,rfl,λb hb=>?_⟩;have U:Bool.rec (motive:=λ_=>Bool) (Option.rec (motive:=λ_=>Bool) false (λ_=>true) (mF st b)) true (Nat.beq b nx)=true:=KL U b hb
 cases T:Nat.beq b nx with
 | true=>exact .inl (Nat.eq_of_beq_eq_true T)
 | false=>rw[T] at U;exact .inr (Rt.1 U)
 cases h
 cases h
theorem agl (P:Program){all:Array Oper}{o:Oper}{tm:Tr PV}{er:List PV}{g:Bool}(htm:∀ i,qp tm i=kY er i)(h:gdV all.toList o.guard tm=some g):alv T all o er g:=by
 intro C ps Y σ a w st n hl H
 have h2:∃ U : Tr PV,(∀ i,qp U i=kY ps i)/\gdV all.toList o.guard U=some g:=by
  let mk:List PV->Tr PV:=λl=>Oz l 0 Tr.e
  have hmk:∀ (l:List PV) (k:Nat) (t:Tr PV) (i:Nat),qp (Oz l k t) i=if k<=i/\i<k+l.length then kY l (i-k) else qp t i:=by
   intro l
   induction l with
   | nil=>intro k t i;rw[if_neg aI];rfl
   | cons x l ih =>
    intro k t i;have e:Oz (x::l) k t=Oz l (k+1) (ady x k t):=rfl;rw[e,ih,UW]
    by_cases h1:i=k
    subst h1;rw[if_neg ai,if_pos rfl,if_pos aI,Nat.sub_self];rfl
    by_cases h2:k+1<=i/\i<k+1+l.length
    rw[if_pos h2,if_pos aT];obtain⟨j,hj⟩:∃ j,i-k=j+1:=⟨i-k-1,by omega⟩;rw[hj,show i-(k+1)=j by omega];rfl
    rw[if_neg h2,if_neg h1,if_neg aT]
  have R:∀ i,qp (mk ps) i=kY ps i:=λi=>by
   show qp (Oz ps 0 Tr.e) i=_;rw[hmk]
   by_cases h:i<ps.length
   rw[if_pos ai,Nat.sub_zero]
   rw[if_neg ai,xh ai];rfl
  refine⟨mk ps,R,?_⟩
  cases I:o.guard with
  | none=>rw[I] at h;exact h
  | some p =>
   obtain⟨j,want⟩:=p;rw[I] at h;have h:Option.rec (motive:=λ_=>Option Bool) none (λo=>Option.rec (motive:=λ_=>Option Bool) none (λd=>gdK (qp tm d) want) o.dst) (adA all.toList j)=some g:=h;show Option.rec (motive:=λ_=>Option Bool) none (λo=>Option.rec (motive:=λ_=>Option Bool) none (λd=>gdK (qp (mk ps) d) want) o.dst) (adA all.toList j)=some g
   cases hj:adA all.toList j with
   | none=>rw[hj] at h;cases h
   | some oj =>
    rw[hj] at h;have h:Option.rec (motive:=λ_=>Option Bool) none (λd=>gdK (qp tm d) want) oj.dst=some g:=h;show Option.rec (motive:=λ_=>Option Bool) none (λd=>gdK (qp (mk ps) d) want) oj.dst=some g
    cases J:oj.dst with
    | none=>rw[J] at h;cases h
    | some d =>
     rw[J] at h;have h:gdK (qp tm d) want=some g:=h;show gdK (qp (mk ps) d) want=some g;rw[R,hl d ?_,<- htm]
     exact h
     unfold Oper.looksAt;refine List.mem_append_right _ ?_;rw[aaV,Array.getElem?_toList] at hj;simp[I,hj,J]
 obtain⟨U,h3,h4⟩:=h2;exact ZV P h3 h4 H
include hT hW hnar hgl hcall in
theorem Ru {all:Array Oper}:∀ (l:List Oper) (V R : EV) (tr:List Tc) (p:List PV) (st:St),(∀ i,qp V.tm i=kY p i)->V.n=p.length->(∀ b,kR st b=mF V.st b)->GT V.st V.nx->YG T.ti call all.toList l V=some (R,tr) ->
  ∃ rs f stf,ChF P T all l rs p st V.nx f stf R.nx/\(∀ i,qp R.tm i=kY f i)/\R.n=f.length/\(∀ b,kR stf b=mF R.st b)/\GT R.st R.nx/\(∀ (i:Nat) (r:Rec),rs[i]?=some r->∃ U,tr[i]?=some U/\af9 r U)
 | [],V,R,tr,p,st,C,hn,J,I,h=>by
  have h:some (V,([]:List Tc))=some (R,tr):=h;cases h;exact⟨[],p,st,⟨rfl,rfl,rfl⟩,C,hn,J,I,λi r hr=>by simp at hr⟩
 | o::l,⟨tm,n,t,nx⟩,R,tr,p,st,C,hn,J,I,h=>by
  have C:∀ i,qp tm i=kY p i:=C;have hn:n=p.length:=hn;have J:∀ b,kR st b=mF t b:=J;have I:GT t nx:=I
  have h:Option.rec (motive:=λ_=>Option (EV×List Tc)) none
   (λg=>Bool.rec (motive:=λ_=>Option (EV×List Tc)) (Sv ([],[],[]) (YG T.ti call all.toList l ⟨xJ tm n o.dst PV.undef,n,t,nx⟩)) (Option.rec (motive:=λ_=>Option (EV×List Tc)) none (λp=>Prod.rec (motive:=λ_=>Option (EV×List Tc)) (λE' U=>Sv U (YG T.ti call all.toList l E')) p) (abT T.ti call o tm n t nx)) g) (gdV all.toList o.guard tm)=some (R,tr):=h
  have consF_inv:∀ {U:Tc} {r:Option (EV×List Tc)},Sv U r=some (R,tr)->∃ tr',r=some (R,tr')/\tr=U::tr':=by
   intro U r hh;unfold Sv at hh
   split at hh
   cases hh;exact⟨_,rfl,rfl⟩
   cases hh
  cases hg:gdV all.toList o.guard tm with
  | none=>rw[hg] at h;cases h
  | some g =>
   rw[hg] at h;have hgd:=agl (T:=T) P C hg
   have cont:∀ (V1:EV) (U:Tc) (r:Rec) (m:Nat),aaK P T all o r p st nx m->af9 r U->V1.tm=xJ tm n o.dst r.v->V1.n=n->V1.nx=nx+m->(∀ b,kR (lh r.δ st) b=mF V1.st b)->GT V1.st V1.nx->Sv U (YG T.ti call all.toList l V1)=some (R,tr) ->
     ∃ rs f stf,ChF P T all (o::l) rs p st nx f stf R.nx/\(∀ i,qp R.tm i=kY f i)/\R.n=f.length/\(∀ b,kR stf b=mF R.st b)/\GT R.st R.nx/\(∀ (i:Nat) (r:Rec),rs[i]?=some r->∃ U,tr[i]?=some U/\af9 r U):=by
    intro V1 U r m hS hTc e1 e2 e3 e4 e5 hh;obtain⟨tr',hh2,rfl⟩:=consF_inv hh;obtain⟨rs,f,stf,hc,h1,h2,h3,h4,h5⟩:=Ru l V1 R tr' (xR p o.dst r.v) (lh r.δ st) (by rw[e1];exact Dx C hn _ _) (by rw[e2,oO];exact hn) e4 e5 hh2;rw[e3] at hc;refine⟨r::rs,f,stf,⟨m,hS,hc⟩,h1,h2,h3,h4,λi r' hr=>?_⟩
    cases i with
    | zero=>simp at hr;subst hr;exact⟨U,rfl,hTc⟩
    | succ i=>exact h5 i r' dF
   cases g with
   | false =>
    refine cont ⟨xJ tm n o.dst PV.undef,n,t,nx⟩ ([],[],[]) ⟨p,p,VZ,.undef,[],nx,false,false,false⟩ 0 ⟨rfl,hgd,λe=>by (cases e),λ_=>⟨rfl,rfl⟩,λb x e=>by (cases e),λb e=>absurd rfl e,λb sz rows e=>by (cases e)⟩ ⟨λb e=>absurd rfl e,λb e=>absurd rfl e,λb e=>by (cases e)⟩ rfl rfl rfl (λb=>J b) I h
   | true =>
    have h:Option.rec (motive:=λ_=>Option (EV×List Tc)) none (λp=>Prod.rec (motive:=λ_=>Option (EV×List Tc)) (λE' U=>Sv U (YG T.ti call all.toList l E')) p) (abT T.ti call o tm n t nx)=some (R,tr):=h
    cases hs:abT T.ti call o tm n t nx with
    | none=>rw[hs] at h;cases h
    | some q =>
     obtain⟨V1,U⟩:=q;rw[hs] at h;have h:Sv U (YG T.ti call all.toList l V1)=some (R,tr):=h;unfold abT at hs
     cases hc:UB o.op with
     | none =>
      rw[hc] at hs;have hs:ajY (opV o.op T.ti (evV tm) (lk1 (rdO o.op (evV tm)) t) nx) (rdO o.op (evV tm)) tm n t nx o.dst=some (V1,U):=hs;obtain⟨v,δ,hv,rfl,rfl,hk⟩:=aip hs;refine cont _ _ ⟨p,p,lk1 (rdO o.op (evV tm)) t,v,TJ δ,nx,true,true,false⟩ 1 ⟨rfl,hgd,λ_=>aio hT hW hnar hgl C hv,λe=>by (cases e),λb x hx=>by rw[J];exact (TL hx).2,λb hb=>?_,λb sz rows=>akK δ b sz rows⟩ ⟨λb hb=>?_,λb hb=>ZX δ b hb,λb hb=>hb⟩ rfl rfl rfl (λb=>?_) ⟨TF δ t I.1,λb hb=>?_⟩ h
      rcases hk b (ZX δ b hb) with rfl|h1
      exact .inl ⟨Nat.le_refl _,by omega⟩
      exact .inr (by rw[J];exact h1)
      cases hx:lk1 (rdO o.op (evV tm)) t b with
      | none=>exact absurd hx hb
      | some x=>exact (TL hx).1
      show kR (lh (TJ δ) st) b=mF (xK δ t) b;rw[qO,Rq,J];cases lU (TJ δ) b<;>rfl
      have hb:nx+1<=b:=hb;show mF (xK δ t) b=none;rw[Qx δ t b λhk2=>?_]
      exact I.2 b ai
      rcases hk b hk2 with h1|h1
      omega
      exact h1 (I.2 b ai)
     | some q =>
      obtain⟨f,args⟩:=q;rw[hc] at hs;obtain⟨ts,ho⟩:=XV hc;simp only at hs
      split at hs
      rename_i k caps O;obtain⟨v,m,δ,hsem,e1,e2,e3,e4,e5,e6,e7,e8,e9⟩:=agk (all:=all) hgl hcall ho C O I hs
      exact cont V1 U ⟨p,p,lk1 U.1 t,v,δ,nx,true,true,false⟩ m ⟨rfl,hgd,λ_=>hsem,λe=>by (cases e),λb x hx=>by rw[J];exact (TL hx).2,λb hb=>(e6 b hb).imp (λh=>h) (λh=>by rw[J];exact h),e7⟩
       ⟨λb hb=>by
        cases hx:lk1 U.1 t b with
        | none=>exact absurd hx hb
        | some x=>exact (TL hx).1,e8,e9⟩ e1 e2 e3 (e4 st J) e5 h
      cases hs
end
end Go.Pv
namespace Go.Pv
open Go
section
variable {P:Program}{T:Tab}
theorem ad5 (hT:lW P T)(hW:I4 P)(hnar:T.pU=0)(hgl:∀ g,T.gl g=none){call:Dk}(hcall:Na P T call){id:Nat}{l:Array Oper}{V V' : EV}{m:Nat}(h:adC l (YG T.ti call l.toList l.toList V)=some (m,V')){C:Ctx T}{D:List Nat}{a:Act}{w:World}(hA:TD C V D a w){Q:Exit->Act->World->Prop}(hQ:∀ a' w',TD C V' D a' w'->Q .normal a' w') :
  m=0/\(Code.region id l true).wp P Q a w:=by
 obtain⟨hnn,hdf,ps,st,Y,σ,htm,hn,I,H,hD⟩:=hA;unfold adC at h
 split at h
 rename_i E tr ho
 split at h
 rename_i hchk;cases h;obtain⟨hc1,hc2⟩:=ug hchk;refine⟨rfl,?_⟩;obtain⟨rs,f,stf,R,h1,h2,h3,h4,h5⟩:=Ru hT hW hnar hgl hcall l.toList V V' tr ps st htm hn I hnn ho;obtain⟨hl1,hl2,hl3⟩:=R.len _ _
 have F:JL P T l rs ps st V.nx f V'.nx:=by
  refine⟨hc1,by simpa using hl1,λi o hi=>?_,hl2,λt ht=>R.keep _ _ ht,λb hb=>by rw[I];exact hnn.2 b hb,λi k ri rk hik hi hk hc=>?_⟩
  obtain⟨r,q,m,a0,a1,a2,a3,a4,a6,a7,a8⟩:=R.get _ _ i o df;exact⟨r,q,m,a0,a1,a2,a3,a4,λt ht=>a6 t λj oj hj hoj=>ht j oj hj bY,λt ht=>a7 t λj oj hj hoj=>ht j oj hj bY,λd hd J hn=>a8 d hd J λj oj hj hoj=>hn j oj hj bY⟩
  obtain⟨x,hx,hx2⟩:=h5 i ri hi;obtain⟨y,hy,hy2⟩:=h5 k rk hk;have:=UN tr 0 hc2 i k x y hik hx hy;rw[Nat.zero_add,Nat.zero_add] at this;exact XC hx2 hy2 this hc
 have hrep:∀ j,j<l.size->(Array.replicate l.size false).getD j true=false:=λj hj=>by simp[hj]
 have hno:∀ j o,l[j]?=some o->(Array.replicate l.size false).getD j true=true->False:=by
  intro j o hj U
  have J:j<l.size:=by
   rcases Nat.lt_or_ge j l.size with h'|h'
   exact h'
   simp[Array.getElem?_eq_none h'] at hj
  rw[hrep j J] at U;cases U
 refine wp_region_any hW.mixed (ZJ (C:=C) (D:=D) H.fix.1 F (λa' w' Y' σ' stx hd' H' hstx hD'=>hQ a' w' ⟨h4,hd',f,stx,Y',σ',h1,h2,λb=>?_,H',hD'⟩) l.size _ a _ aI ?_ ?_ ?_)
 rw[hstx b,<- R.fin];exact h3 b
 simp
 intro j o hj U;exact (hno j o hj U).elim
 refine⟨hdf,Y,σ,ps,st,(H.drawn _).mono hl3,rfl,?_,λt _=>rfl,λb=>?_,λj hj _ b hb1 _=>?_,?_,λb sz rows=>by rw[I];exact hnn.1 b sz rows⟩
 intro j o t hj hdst U;exact (hno j o hj U).elim
 rw[Hw _ _ _ _ λk r hr hDD=>?_];· rfl
 rw[Nat.zero_add] at hDD;obtain⟨ok,hok⟩:=F.oper hr;exact (hno k ok hok hDD).elim
 obtain⟨_,_,_,_,_,_,_,h6,_⟩:=F.get j _ (Array.getElem?_eq_getElem hj);exact H.next b (Nat.le_trans h6 hb1)
 exact⟨hD.1,λr hr=>hD.2 r hr⟩
 cases h
 cases h
end
end Go.Pv
namespace Go.Pv
open Go
section
variable {P:Program}{T:Tab}
theorem SW.acN {C:Ctx T}{w:World}{Y:Nat->Prop}{σ:Sg}{ps:List PV}{vs:List Value}{st:St}{n:Nat}(H:SW C w Y σ ps vs st n)(J:NNs st)(o:Obj):SW C (w.alloc o) (λk=>Y k\/k=w.heap.size) σ ps vs st n:=by
 have hold:∀ k,k<w.heap.size->(w.alloc o).heap[k]?=w.heap[k]?:=by
  intro k hk;show (w.heap.push o)[k]?=_;rw[Array.getElem?_push,if_neg ai]
 have hsz:(w.alloc o).heap.size=w.heap.size+1:=by show (w.heap.push o).size=_;simp
 have K:Keep w (w.alloc o) Y (λk=>Y k\/k=w.heap.size) σ σ:=⟨λk hk _=>hold k hk,λk hk h=>h.resolve_right ai,by omega,qI.refl _⟩;refine⟨jo.keep _ K _ H.vals,⟨λb x hx=>?_,H.store.inj⟩,H.next,λk hk=>?_,λk hk=>.inl (H.y0 k hk),H.c0,λk hk U=>?_,?_,H.own,H.zi.keep K.none,H.fix,C9.none J⟩
 rcases H.store.blk b x hx with ⟨l,R,hB⟩|h
 have:=hB.lt;exact .inl ⟨l,R,jH.keep K (hold _ this) ⟨λh=>h.resolve_right ai,.inl⟩ hB⟩
 exact .inr h
 rcases hk with h|h
 have:=H.yK k h;omega
 omega
 rcases hk with h|h
 exact H.xI k h U
 have:=H.qh.size;omega
 exact⟨H.qh.os,H.qh.tape,H.qh.output,by have:=H.qh.size;omega,λk hk hM=>by rw[hold k (Nat.lt_of_lt_of_le hk H.qh.size)];exact H.qh.block k hk hM⟩
theorem SW.aiq {C:Ctx T}{w:World}{Y:Nat->Prop}{σ:Sg}{ps:List PV}{vs:List Value}{st:St}{n:Nat}(H:SW C w Y σ ps vs st n)(g:NNs st){l:Nat}{o:Obj}(R : Obj)(hy:Y l)(hB:C.w0.heap.size<=l)(ho:w.heap[l]?=some o)(hc:∀ arr ty,o≠.cells arr ty (0,0)):SW C (w.putObj l R) Y σ ps vs st n:=by
 have U:∀ k,k≠l->(w.putObj l R).heap[k]?=w.heap[k]?:=λk hk=>World.putObj_heap_other hk;have hsz:(w.putObj l R).heap.size=w.heap.size:=by simp
 have K:Keep w (w.putObj l R) Y Y σ σ:=⟨λk _ hk=>U k λe=>hk (e ▸ hy),λ_ _ h=>h,by omega,qI.refl _⟩;refine⟨jo.keep _ K _ H.vals,⟨λb x hx=>?_,H.store.inj⟩,H.next,λk hk=>by rw[hsz];exact H.yK k hk,H.y0,H.c0,H.xI,?_,H.own,H.zi.keep K.none,H.fix,C9.none g⟩
 rcases H.store.blk b x hx with ⟨l2,I,J⟩|h
 refine .inl ⟨l2,I,jH.keep K (U _ λe=>?_) Iff.rfl J⟩;obtain⟨arr,ty,h1⟩:=F6.cells H.store (k:=l2.cb) ⟨b,x,l2,hx,I,rfl⟩;rw[e,ho] at h1;cases h1;exact hc arr ty rfl
 exact .inr h
 exact⟨H.qh.os,H.qh.tape,H.qh.output,by rw[hsz];exact H.qh.size,λk hk hM=>by rw[U k ai];exact H.qh.block k hk hM⟩
def ad6:Nat->Exit
 | 0=>.normal
 | 1=>.ret
 | n+2=>.exit n
def TrV (P:Program)(T:Tab)(c:Code)(V:EV)(m:Nat)(V' : EV):Prop:=∀ (C:Ctx T) (D:List Nat) a w,TD C V D a w->c.wp P (λe a' w'=>e=ad6 m/\∃ D',TD C V' D' a' w') a w
theorem acO (hgl:∀ g,T.gl g=none){c:Operand}{V:EV}{C:Ctx T}{D:List Nat}{a:Act}{w:World}(hA:TD C V D a w){b:Bool}(h:evV V.tm c=.bool b):a.eval c=.bool b:=by
 obtain⟨_,_,ps,st,Y,σ,U,_,_,H,_⟩:=hA;have:=nM H c;rw[<- UZ hgl U,h] at this;exact wK this
theorem acP (hgl:∀ g,T.gl g=none){call:Dk}(hcall:Na P T call){g:Operand}{ps:Array Tmp}{assign body:Code}{V V' : EV}{m:Nat}(h:ahp call g V=some (m,V')):TrV P T (.rangeFunc g ps assign body) V m V':=by
 obtain⟨tm,n,t,nx⟩:=V;have h:Option.rec (motive:=λ_=>Oc) none (λp=>Prod.rec (motive:=λ_=>Oc) (λ_ q=>Prod.rec (motive:=λ_=>Oc) (λst nx=>some (0,⟨tm,n,st,nx⟩)) q) p) (fnE (evV tm g) λk U=>call k (PV.top::U) t nx)=some (m,V'):=h
 cases hr:fnE (evV tm g) λk U=>call k (PV.top::U) t nx with
 | none=>rw[hr] at h;cases h
 | some q =>
  obtain⟨v,t',n'⟩:=q;rw[hr] at h;cases h;obtain⟨k,U,O,hc⟩:=WB hr;intro C D a w hA;obtain⟨I,hdf,pv,st,Y,σ,htm,hn,J,H,hD⟩:=hA;have J:∀ b,kR st b=mF t b:=J;have H:SW C w Y σ pv a.tmps.toList st nx:=H;have I:GT t nx:=I;have hNN:NNs st:=λb sz rows=>by rw[J];exact I.1 b sz rows
  have hg:=nM H g;rw[<- UZ hgl htm,O] at hg;unfold Rep at hg;obtain⟨cs,eg,hcs⟩:=hg;refine wpIn_wide.1 (wpIn_rangeFunc (F:=Fence.wide) (n:=1) λfn _=>?_)
  let rc:Loop:={ state:=.ready,pending:=none,fn,tmps:=a.tmps,params:=ps,assign,body,defers:=w.heap.size }
  let w1:=(w.alloc (.deferred (some []))).alloc (.loop rc)
  have hD1:w1.heap[w.heap.size]?=some (.deferred (some [])):=by
   show ((w.heap.push _).push _)[w.heap.size]?=_;rw[Array.getElem?_push,if_neg aI,Array.getElem?_push,if_pos rfl]
  have hL1:w1.heap[w.heap.size+1]?=some (.loop rc):=by
   show ((w.heap.push _).push _)[w.heap.size+1]?=_;rw[Array.getElem?_push,if_pos aI]
  have hold:∀ k,k<w.heap.size->w1.heap[k]?=w.heap[k]?:=λk hk=>by
   show ((w.heap.push _).push _)[k]?=_;rw[Array.getElem?_push,if_neg aT,Array.getElem?_push,if_neg ai]
  have H0:=H.acN hNN (.deferred (some []));have H1:=H0.acN hNN (.loop rc);have hsz:(w.alloc (.deferred (some []))).heap.size=w.heap.size+1:=by simp
  rw[hsz] at H1;obtain⟨hG,hF⟩:=hcall _ _ _ _ _ _ _ hc I
  have harg:jo w1 (λk=>(Y k\/k=w.heap.size)\/k=w.heap.size+1) σ (.top::U) (.func (.yield (w.heap.size+1)) #[] #[]::cs):=by
   unfold jo;refine⟨_,cs,rfl,by simp[Rep],jo.keep U (σ:=σ) ⟨λk hk _=>hold k hk,λk hk h=>?_,?_,qI.refl _⟩ cs hcs⟩
   rcases h with (h|h)|h
   exact h
   omega
   omega
   show w.heap.size<=((w.heap.push _).push _).size;simp;omega
  obtain⟨hent,R⟩:=hF w1 _ σ _ st J H1.zi H1.yK H1.next harg H1.store
  refine⟨w.heap.size+1,[{ target:=.collected w.heap.size,args:=#[] }],w1,{ target:=.fn (.func k) cs.toArray,args:=#[.func (.yield (w.heap.size+1)) #[] #[]] },w1,k,
   #[.func (.yield (w.heap.size+1)) #[] #[]]++cs.toArray,w1,run_enterLoop_outer _ _ _ _ _,?_,λ_ _=>trivial,?_,λe=>by (simp[Fence.wide] at e),?_⟩
  simp only[resolve,eg];simp[go_sem]
  have e : #[.func (.yield (w.heap.size+1)) #[] #[]]++cs.toArray=(Value.func (.yield (w.heap.size+1)) #[] #[]::cs).toArray:=by apply Array.ext';simp
  rw[e,<- hent];simp[invoke,go_sem]
  rw[callsIn_wide];have e : #[.func (.yield (w.heap.size+1)) #[] #[]]++cs.toArray=(Value.func (.yield (w.heap.size+1)) #[] #[]::cs).toArray:=by apply Array.ext';simp
  rw[e];refine Calls.mono R λed w3 hh=>?_;obtain⟨cv,Y3,σ3,st3,rfl,hst3,H3⟩:=hh;obtain⟨K,H4⟩:=H1.compose (T':=T.at nx) rfl rfl H3;obtain⟨g1,g2⟩:=H3.kept H1.store hD1 λarr ty e=>by cases e
  obtain⟨g3,g4⟩:=H3.kept H1.store hL1 λarr ty e=>by cases e
  have hNN3:NNs st3:=λb sz rows=>by rw[hst3];exact hG.1 b sz rows
  have H5:=(H4.uS (jo.keep _ K _ H1.vals)).aiq hNN3 (.loop { rc with state:=.exhausted }) (g4 (.inr rfl)) (by have:=H.qh.size;omega) g3 λarr ty e=>by cases e
  refine⟨none,_,run_endLoop g3 (by simp[rc]),rfl,w.heap.size::D,hG,?_,pv,st3,Y3,σ3,htm,hn,hst3,H5,?_⟩
  simp only[hdf,marks,List.map_cons];rfl
  have hne:∀ r∈D,r<w.heap.size:=λr hr=>(Array.getElem?_eq_some_iff.1 (hD.2 r hr).2.2).1;refine⟨List.nodup_cons.2 ⟨λhm=>by have:=hne _ hm;omega,hD.1⟩,λr hr=>?_⟩;rcases List.mem_cons.1 hr with rfl|hr
  exact⟨H.qh.size,g2 (.inl (.inr rfl)),by rw[World.putObj_heap_other ai];exact g1⟩
  obtain⟨d0,d1,d2⟩:=hD.2 r hr;have hlt:=hne r hr;obtain⟨g5,g6⟩:=H3.kept H1.store (k:=r) (by rw[hold r hlt];exact d2) λarr ty e=>by cases e
  exact⟨d0,g6 (.inl (.inl d1)),by rw[World.putObj_heap_other ai];exact g5⟩
end
end Go.Pv
namespace Go.Pv
open Go
section
variable {P:Program}{T:Tab}(hT:lW P T)(hW:I4 P)(hnar:T.pU=0)(hgl:∀ g,T.gl g=none){call:Dk}(hcall:Na P T call)
theorem VN {f:EV->Oc}{c:Code}(O:∀ V m U,f V=some (m,U)->TrV P T c V m U){C:Ctx T}:∀ (n:Nat) (V:EV) (m:Nat) (U : EV),Zp f n V=some (m,U)->∀ D a w,TD C V D a w->Code.rounds P c (λe I w'=>e=ad6 m/\∃ J,TD C U J I w') n a w
 | 0,V,m,U,h,D,a,w,hA=>by cases h
 | n+1,V,m,U,h,D,a,w,hA=>by
  have h:Option.rec (motive:=λ_=>Oc) none (λp=>Prod.rec (motive:=λ_=>Oc) (λk E'=>Nat.rec (motive:=λ_=>Oc) (Zp f n E') (λm _=>some (Nat.succ m,E')) k) p) (f V)=some (m,U):=h
  cases hv:f V with
  | none=>rw[hv] at h;cases h
  | some q =>
   obtain⟨k,g⟩:=q;rw[hv] at h;rw[rounds_succ];refine wp_mono (O V k g hv C D a w hA) λe I w' hq=>?_;obtain⟨rfl,J,R⟩:=hq
   cases k with
   | zero=>exact VN O n g m U h J I w' R
   | succ k =>
    have h:some (Nat.succ k,g)=some (m,U):=h;cases h
    cases k with
    | zero=>exact⟨rfl,J,R⟩
    | succ k=>exact⟨rfl,J,R⟩
include hT hW hnar hgl hcall in
theorem acQ:∀ (c:Code) (V:EV) (m:Nat) (R : EV),xg T.ti call c V=some (m,R)->TrV P T c V m R:=by
 intro c
 induction c with
 | skip=>intro V m R h C D a w hA;cases h;exact wp_skip ⟨rfl,D,hA⟩
 | region id l dr =>
  intro V m R h C D a w hA
  cases dr with
  | false =>
   have h:al3 (opsV T.ti call l.toList l.toList V)=some (m,R):=h
   cases ho:opsV T.ti call l.toList l.toList V with
   | none=>rw[ho] at h;cases h
   | some V1 =>
    rw[ho] at h;cases h;exact wp_region_list (Ro hT hW hnar hgl hcall l.toList V R ho a w hA λa' w' U=>⟨rfl,D,U⟩)
  | true =>
   have h:adC l (YG T.ti call l.toList l.toList V)=some (m,R):=h
   obtain⟨rfl,h1⟩:=ad5 (id:=id) hT hW hnar hgl hcall h hA (Q:=λe a' w'=>e=ad6 m/\∃ J,TD C R J a' w') λa' w' U=>by
    refine⟨?_,D,U⟩
    have:m=0:=by
     unfold adC at h
     split at h
     split at h
     cases h;rfl
     cases h
     cases h
    subst this;rfl
   exact h1
 | seq x y ihx I =>
  intro V m R h C D a w hA;have h:al2 (xg T.ti call x V) (xg T.ti call y)=some (m,R):=h
  cases hx:xg T.ti call x V with
  | none=>rw[hx] at h;cases h
  | some q =>
   obtain⟨k,V1⟩:=q;rw[hx] at h;refine wp_seq (wp_mono (ihx V k V1 hx C D a w hA) λe a' w' hq=>?_);obtain⟨rfl,J,U⟩:=hq
   cases k with
   | zero=>exact I V1 m R h C J a' w' U
   | succ k =>
    have h:some (Nat.succ k,V1)=some (m,R):=h;cases h
    cases k with
    | zero=>exact⟨rfl,J,U⟩
    | succ k=>exact⟨rfl,J,U⟩
 | cond c x y ihx I =>
  intro V m R h C D a w hA;obtain⟨tm,n,st,nx⟩:=V;have h:ajO (evV tm c) (xg T.ti call x ⟨tm,n,st,nx⟩) (xg T.ti call y ⟨tm,n,st,nx⟩)=some (m,R):=h;rcases acx h with ⟨e,h⟩|⟨e,h⟩
  exact wp_cond_true (acO hgl hA e) (ihx _ m R h C D a w hA)
  exact wp_cond_false (acO hgl hA e) (I _ m R h C D a w hA)
 | block id b ih =>
  intro V m R h C D a w hA;have h:al1 id (xg T.ti call b V)=some (m,R):=h
  cases hb:xg T.ti call b V with
  | none=>rw[hb] at h;cases h
  | some q =>
   obtain⟨k,V1⟩:=q;rw[hb] at h;refine wp_block (wp_mono (ih V k V1 hb C D a w hA) λe a' w' hq=>?_);obtain⟨rfl,J,U⟩:=hq
   cases k with
   | zero=>cases h;exact⟨rfl,J,U⟩
   | succ k =>
    cases k with
    | zero=>cases h;exact⟨rfl,J,U⟩
    | succ k =>
     have h:Bool.rec (motive:=λ_=>Oc) (some (Nat.succ (Nat.succ k),V1)) (some (0,V1)) (Nat.beq k id)=some (m,R):=h;show Exit.inBlock id _ (.exit k) a' w';simp only[Exit.inBlock]
     by_cases hk:k=id
     subst hk;rw[if_pos rfl];rw[Nat.beq_refl] at h;cases h;exact⟨rfl,J,U⟩
     rw[if_neg hk];rw[SB hk] at h;cases h;exact⟨rfl,J,U⟩
 | loop b ih =>
  intro V m R h C D a w hA;have h:Zp (xg T.ti call b) 100000 V=some (m,R):=h;exact wp_loop_rounds 100000 (VN ih 100000 V m R h D a w hA)
 | rangeFunc g ps x y ihx I=>intro V m R h;exact acP hgl hcall h
 | exit n=>intro V m R h C D a w hA;cases h;exact wp_exit ⟨rfl,D,hA⟩
 | scope b ih =>
  intro V m R h C D a w hA;refine wp_scope_straight (wp_mono (ih V m R h C D a w hA) λe a' w' hq=>?_);obtain⟨rfl,J,U⟩:=hq
  cases m with
  | zero=>exact⟨rfl,J,U⟩
  | succ m=>cases m with
   | zero=>exact⟨rfl,J,U⟩
   | succ m=>exact⟨rfl,J,U⟩
 | label l=>intro V m R h C D a w hA;cases h;exact wp_label ⟨rfl,D,hA⟩
 | ret=>intro V m R h C D a w hA;cases h;exact wp_ret ⟨rfl,D,hA⟩
 | _=>intro V m R h;cases h
theorem Rw {V:EV}{ps:List PV}{st:St}(U:∀ i,qp V.tm i=kY ps i)(R:∀ b,kR st b=mF V.st b) :
  ∀ (rs:List ResultVar) (acc:List PV) (v:PV) (t:Sb) (n:Nat),resV T.ti V rs acc=some (v,t,n)->∃ us,Jc T ⟨ps,st,V.nx⟩ rs=some us/\v=Dq (acc++us)/\t=V.st/\n=V.nx
 | [],acc,v,t,n,h=>by cases h;exact⟨[],rfl,by simp,rfl,rfl⟩
 | r::rs,acc,v,t,n,h=>by
  have h:an7 T.ti V r (λv=>resV T.ti V rs (UA acc [v]))=some (v,t,n):=h
  have fin:∀ u,abM T ⟨ps,st,V.nx⟩ r=some u->resV T.ti V rs (UA acc [u])=some (v,t,n)->∃ us,Jc T ⟨ps,st,V.nx⟩ (r::rs)=some us/\v=Dq (acc++us)/\t=V.st/\n=V.nx:=by
   intro u hu hr;obtain⟨us,h1,h2,g,J⟩:=Rw U R rs _ v t n hr;refine⟨u::us,?_,?_,g,J⟩
   unfold Jc;rw[hu];simp only[h1]
   rw[h2,WA];simp
  cases r with
  | tmp i =>
   have h:resV T.ti V rs (UA acc [qp V.tm i])=some (v,t,n):=h;exact fin (qp V.tm i) (by simp only[abM];rw[U]) h
  | cell i ty =>
   have h:Option.rec (motive:=λ_=>Option (PV×Sb×Nat)) none (λp=>resV T.ti V rs (UA acc [p.1])) (abO (qp V.tm i) (λb c=>Xa (T.ti ty) (PV.lv b c) (mF V.st)) (λ_ _ _=>none) (λ_=>none))=some (v,t,n):=h
   cases hx:abO (qp V.tm i) (λb c=>Xa (T.ti ty) (PV.lv b c) (mF V.st)) (λ_ _ _=>none) (λ_=>none) with
   | none=>rw[hx] at h;cases h
   | some q =>
    obtain⟨u,δ⟩:=q;rw[hx] at h;rcases OQ hx with ⟨b,c,e,hx⟩|⟨b,j,c,e,hx⟩|⟨cs,e,hx⟩
    obtain⟨agg,size,zero,plain,kind,C,hx⟩:=qV hx;have hx:ajP (mF V.st b) (λ_ row=>W9 agg size row c)=some (u,δ):=hx;obtain⟨ro,row,I,hx⟩:=XR hx;refine fin u ?_ h;rw[U] at e;simp only[abM,e,C,R,I]
    cases agg with
    | false =>
     obtain⟨_,h2,rfl⟩:=Tv hx;simp only[cond_false,pg];rw[show Nat.blt c row.length=true by rw[Nat.blt_eq];exact h2];rfl
    | true =>
     obtain⟨h1,h2⟩:=kH hx;simp only[XO,OO,Option.some.injEq,Prod.mk.injEq] at h2;obtain⟨rfl,rfl⟩:=h2;simp only[En] at h1;simp only[cond_true,pg,Kz,wI];rw[show Nat.ble (c+size) row.length=true from h1];rfl
    cases hx
    cases hx
end
end Go.Pv
