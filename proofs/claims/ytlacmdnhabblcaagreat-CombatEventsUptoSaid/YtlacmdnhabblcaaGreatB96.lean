import Derived.Test.YtlacmdnhabblcaaGreatB50
import Derived.Test.YtlacmdnhabblcaaGreatB92
set_option linter.all false
namespace Go.Proofs.YtlacmdnhabblcaaGreat
open Go Go.Pv
set_option maxRecDepth 100000
theorem yI {ρ α:Type}{l:List α}{i:Nat}{k:α->Option ρ}(h:i<l.length):bnd (kJ l (i:Int)) k=k l[i]:=by
 rw[Wy,List.getElem?_eq_getElem h];rfl
theorem Kt {ρ:Type}{c:Bool}{a b:Option ρ}(h:c=true):br c a b=a:=by subst h;rfl
theorem Fz {ρ:Type}{c:Bool}{a b:Option ρ}(h:c=false):br c a b=b:=by subst h;rfl
def agV (need l:List Int)(i:Nat)(ok:Bool)(left:Int):Option (Bool×Int) :=
 match l[i]? with
 | none=>none
 | some x=>bif decide (x<0) || decide (left<x) || (decide (0<x)&&!ok) then none
  else some (match need[i]? with|some y=>(bif decide (x<y) then false else ok)|none=>ok,jS left x)
theorem YD (U l:List Int)(i:Nat)(hi:i<l.length)(ok:Bool)(left:Int)(k:Bool×Int×Int->Option Bool) :
  oV U l (ok,(i:Int),left) k=match agV U l i ok left with|none=>some false|some (o,v)=>k (o,jq (i:Int) 1,v):=by
 have e:l[i]?=some l[i]:=List.getElem?_eq_getElem hi;unfold oV agV;rw[e,Kt dV];simp only[jn,yI hi,oI];generalize l[i]=x
 by_cases h1:x<0
 simp[br,bnd,h1]
 by_cases h2:left<x
 simp[br,bnd,h1,h2]
 by_cases R:(i:Int)<iV U
 have C:i<U.length:=by simp only[iV] at R;omega
 have T:U[i]?=some U[i]:=List.getElem?_eq_getElem C;have I:kJ U (i:Int)=some U[i]:=by rw[Wy];exact T
 rw[T];generalize U[i]=y at I;simp only[br,h1,h2,R,I,bnd,decide_true,decide_false,cond_true,cond_false,Bool.false_or]
 by_cases J:0<x<;>by_cases g:x<y<;>cases ok<;>simp[J,g]
 have C:¬ i<U.length:=by simp only[iV] at R;omega
 have T:U[i]?=none:=List.getElem?_eq_none ai;rw[T];simp only[br,h1,h2,R,bnd,decide_true,decide_false,cond_true,cond_false,Bool.false_or]
 by_cases J:0<x<;>cases ok<;>simp[J]
theorem ajz (U l:List Int)(i:Nat)(hi:i<l.length)(ok:Bool)(left:Int)(k:Int×Bool×Int->Option Bool) :
  wG U l (left,ok,(i:Int)) k=match agV U l i ok left with|none=>some false|some (o,v)=>k (v,o,jq (i:Int) 1):=by
 have e:l[i]?=some l[i]:=List.getElem?_eq_getElem hi;unfold wG agV;rw[e,Kt dV];simp only[jn,yI hi];generalize l[i]=x
 by_cases h1:x<0
 simp[br,bnd,h1]
 by_cases h2:left<x
 simp[br,bnd,h1,h2]
 by_cases R:(i:Int)<iV U
 have C:i<U.length:=by simp only[iV] at R;omega
 have T:U[i]?=some U[i]:=List.getElem?_eq_getElem C;have I:kJ U (i:Int)=some U[i]:=by rw[Wy];exact T
 rw[T];generalize U[i]=y at I;simp only[br,h1,h2,R,I,bnd,decide_true,decide_false,cond_true,cond_false,Bool.false_or]
 by_cases J:0<x<;>by_cases g:x<y<;>cases ok<;>simp[J,g]
 have C:¬ i<U.length:=by simp only[iV] at R;omega
 have T:U[i]?=none:=List.getElem?_eq_none ai;rw[T];simp only[br,h1,h2,R,bnd,decide_true,decide_false,cond_true,cond_false,Bool.false_or]
 by_cases J:0<x<;>cases ok<;>simp[J]
theorem aak (U l:List Int)(ok:Bool)(left:Int)(k:Bool×Int×Int->Option Bool):oV U l (ok,(l.length:Int),left) k=some (decide (left=0)):=by
 unfold oV;rw[Fz fM]
theorem alg (U l:List Int)(ok:Bool)(left:Int)(k:Int×Bool×Int->Option Bool):wG U l (left,ok,(l.length:Int)) k=some (decide (left=0)):=by
 unfold wG;rw[Fz fM]
theorem adn (U l:List Int)(sum:Int)(hl:l.length<=1048576):jw (oV U l) (true,0,sum)=jw (wG U l) (sum,true,0)/\Ok (λ_=>True) (jw (oV U l) (true,0,sum)):=by
 constructor
 refine Ur (λs t=>∃ i:Nat,i<=l.length/\s.2.1=(i:Int)/\t.2.2=(i:Int)/\s.1=t.2.1/\s.2.2=t.1) ⟨0,by omega,rfl,rfl,rfl,rfl⟩ ?_
 rintro⟨ok,i',left⟩ ⟨T,C,g⟩ k k' ⟨i,hi,e1,I,R,J⟩ hk
 simp only at e1 I R J;subst e1 I R J
 by_cases h:i=l.length
 subst h;rw[aak,alg]
 rw[YD U l i ai,ajz U l i ai];rcases agV U l i ok left with _|⟨o,v⟩
 rfl
 exact hk _ _ ⟨i+1,by omega,lC ai,lC ai,rfl,rfl⟩
 refine kW (λs=>∃ i:Nat,s.2.1=(i:Int)/\i<=l.length) (λs=>l.length-s.2.1.toNat) ⟨0,rfl,by omega⟩ dL ?_
 rintro⟨ok,i',left⟩ k ⟨i,e,hi⟩ hk
 simp only at e;subst e
 by_cases h:i=l.length
 subst h;rw[aak];exact iK trivial
 rw[YD U l i ai];rcases agV U l i ok left with _|⟨o,v⟩
 exact gQ
 refine hk _ ⟨i+1,lC ai,by omega⟩ ?_;simp only[lC (show i<4611686018427387904 by omega),Int.toNat_natCast];omega
theorem aeM (U l:List Int)(sum:Int)(tr:Bool)(T:l.length<=1048576):pR U l sum tr=He U l sum tr/\Ok (λ_=>True) (pR U l sum tr):=by
 obtain⟨h1,h2⟩:=adn U l sum T;unfold pR He;rw[h1] at h2 |-;refine⟨rfl,?_⟩;cases tr<;>exact iR (λ_=>iK trivial) λ_=>h2
def RX (n:Int):Int:=if 1000000<n then 1000000 else if n < -1000000 then -1000000 else n
theorem NZ (n:Int):AL n=some (RX n):=by
 unfold AL RX
 congr 1
 split<;>split<;>(try split)<;>(try split)<;>omega
theorem N7 (n:Int):qc n=some (RX n):=by
 unfold qc RX
 by_cases h1:1000000<n
 simp[br,h1]
 by_cases h2:n < -1000000<;>simp[br,h1,h2]
def alh (a b:Int):Int:=RX (jS (RX a) (RX b))
theorem aeN (a b:Int):QH a b=some (alh a b):=by
 unfold QH;exact ok_eq (iU (NZ _) (iU (NZ _) (iU (NZ _) (iK rfl))))
theorem aeO (a b:Int):Jp a b=some (alh a b):=by
 unfold Jp;exact ok_eq (iU (N7 _) (iU (N7 _) (iU (N7 _) (iK rfl))))
def afP (o:iW)(t:iM):Int:=if 1<alh t.jE o.zn then alh t.jE o.zn else 1
theorem ali (o:iW)(t:iM):qj o t false=some (afP o t):=by
 unfold qj;exact ok_eq (lQ rfl (iU (aeN _ _) (iK rfl)))
theorem ado (o:iW)(t:iM):Ef o t false=some (afP o t):=by
 unfold Ef;exact ok_eq (lQ rfl (iU (aeO _ _) (iK rfl)))
theorem adp (s:iT)(a:Int)(hs:s.objects.length<=1048576):∃ r,mZ s a=some r/\zf s a=some r/\r.length<=1048576:=by
 have e:mZ s a=zf s a:=by
  unfold mZ zf;refine Ur (λx y=>x=y/\∃ i:Nat,x.1=(i:Int)) ⟨rfl,0,rfl⟩ ?_
  rintro⟨J,acc⟩ _ k R ⟨rfl,i,e⟩ hk
  simp only at e;subst e;unfold oh FU
  by_cases h:i<s.objects.length
  have U:decide ((i:Int)<iV s.objects)=true:=by simp[iV];omega
  rw[Kt U,Kt U];simp only[jn,yI h];have q:∀ t,(∃ j:Nat,t=(j:Int))->∀ u,k (t,u)=R (t,u):=λt ht u=>hk _ _ ⟨rfl,ht⟩
  by_cases hi:i<4611686018427387904
  have q1:=q (jq (i:Int) 1) ⟨i+1,lC hi⟩
  by_cases h1:s.objects[i].jQ=0<;>by_cases h2:s.objects[i].blocks=a<;>simp[br,h1,h2,q1]
  omega
  have U:decide ((i:Int)<iV s.objects)=false:=by simp[iV];omega
  rw[Fz U,Fz U]
 have t:Ok (λr=>r.length<=s.objects.length) (mZ s a):=by
  unfold mZ;refine lK 0 s.objects.length (λi t=>t.length<=i) 0 rfl (Nat.zero_le _) ai aI (λi t k hi ht hk=>?_) λt k ht=>?_
  unfold oh;refine oK dV (jf (λu=>u.length<=i+1) (λk2 h2=>?_) λu hu=>hk _ hu);refine jl i rfl hi (jf (λ_=>True) (λk3 T=>iR (λ_=>T _ trivial) λ_=>T _ trivial) λb _=>iR (λ_=>jG aT aT (h2 _ aT)) λ_=>h2 _ aF)
  unfold oh;exact lQ fM (iK ht)
 obtain⟨r,h1,h2⟩:=t;exact⟨r,h1,by rw[<- e];exact h1,by omega⟩
theorem uI {α β:Type}{x:α}{k:α->Option β}:bnd (some x) k=k x:=rfl
def toR (k:jy):jV:=jV.mk k.answers k.pending k.waits k.bad k.used
theorem aal {α:Type}{Q:α->Prop}{o:Option α}{x:α}(h:Ok Q o)(e:o=some x):Q x:=by
 obtain⟨y,U,q⟩:=h;rw[e] at U;cases U;exact q
theorem xG {α:Type}{n b:Nat}{k:Option α}(h1:(2*n+192)*b<=140737488355328)(h2:n<=4611686018427387904):jW n b k=k:=by
 unfold jW;rw[Nat.ble_eq_true_of_le h1,Nat.ble_eq_true_of_le h2];rfl
theorem abA:Ed 8=some false:=rfl
theorem agW (c:jY)(hk:c.kind=8)(ho:0<c.options.length)(U:c.options.length<=100):yE c=some (RP c):=by
 unfold yE;rw[hk];refine ok_eq (iU abA (lQ rfl (lQ aQ (lQ aQ (lQ aQ (oK aQ ?_))))));refine UT (n:=c.options.length) rfl rfl ai ai (uf (iJ (λ_=>oJ 0 rfl ho (oD aT (iK rfl))) λh=>absurd (show (0:Int)<iV c.options by simp only[iV];omega) h))
theorem ajA (c:jY)(hk:c.kind=8):IP c=some (decide ((c.options.length:Int)<=1)):=by
 unfold IP;rw[hk];exact ok_eq (jf (λb=>b=true) (λk2 h2=>iU abA (lQ rfl (lQ aQ (h2 _ aQ)))) λb hb=>oK hb (iK rfl))
theorem adq (c:jY)(a:List Int)(hk:c.kind=8)(R:a.length<=50):AP c a=Ee c a:=by
 have e:uF c a=jw (yZ c a) (0,0):=by
  unfold uF;refine Ur (λx y=>x=y/\∃ i:Nat,x.2=(i:Int)/\i<=a.length) ⟨rfl,0,rfl,Nat.zero_le _⟩ ?_
  rintro⟨sm,J⟩ _ k I ⟨rfl,i,e,hi⟩ hk
  simp only at e;subst e;unfold wR yZ
  by_cases h:i<a.length
  have U:decide ((i:Int)<iV a)=true:=by simp[iV];omega
  have q:=λt=>hk (t,jq (i:Int) 1) (t,jq (i:Int) 1) ⟨rfl,i+1,lC ai,by omega⟩;rw[Kt U,Kt U];simp only[jn,yI h]
  by_cases h1:a[i]<0<;>by_cases h2:1000000<a[i]<;>simp[br,h1,h2,q]
  have U:decide ((i:Int)<iV a)=false:=by simp[iV];omega
  rw[Fz U,Fz U]
 unfold AP Ee;rw[hk,abA];show br _ _ (bnd (uF c a) λT=>some T)=br _ _ (jw (yZ c a) (0,0));rw[e]
 congr 1
 cases jw (yZ c a) (0,0)<;>rfl
def Oh (k:jy):Prop:=k.pending.options.length<=100
theorem apE (k:jy)(c:jY)(hk:c.kind=8)(ho:0<c.options.length)(hl:c.options.length<=100)(K:KOK k)(P:Oh k):∃ r,pJ k c=some r/\vX (toR k) c=some (r.1,toR r.2)/\KOK r.2/\r.1.length=c.options.length/\Oh r.2:=by
 obtain⟨r,e,h1,h2⟩:=ada k c hk ho hl K;refine⟨r,e,?_,h1,h2,?_⟩
 all_goals
  have J:=Yu c hk ho hl;have hr:=agW c hk ho hl;have f1:=afM c hk;have f2:=ajA c hk;have ku:=K.used;unfold pJ at e
 unfold vX;have cp:lY c.options=some c.options:=by unfold lY;exact xG ai ai
 have cr:zJ c=some c:=by unfold zJ;exact xG ai ai
 have C:=K.each;obtain⟨A,U,Pd,W,B⟩:=k;simp only[jn,f1,f2,J,hr,uI,toR] at e ku C |-
 cases O:decide ((c.options.length:Int)<=1) with
 | true =>
  rw[O] at e;cases W<;>cases B<;>(have e:some (RP c,jy.mk A U Pd _ _)=some r:=e;cases e;rfl)
 | false =>
  rw[O] at e
  cases W with
  | true=>cases B<;>(have e:some (RP c,jy.mk A U Pd _ _)=some r:=e;cases e;rfl)
  | false =>
   cases B with
   | true=>have e:some (RP c,jy.mk A U Pd _ _)=some r:=e;cases e;rfl
   | false =>
    have e:br (decide (U=iV A)) (bnd (lY c.options) λy6=>bnd (sJ { c with options:=y6 }) λy7=>some (y7,jy.mk A U { c with options:=y6 } true false)) (bnd (kJ A U) λg=>bnd (AP c g) λy9=>br (y9==false) (some (RP c,jy.mk A (jq U 1) Pd false true)) (bnd (oM g) λR=>some (R,jy.mk A (jq U 1) Pd false false)))=some r:=e;show br (decide (iV A<=U)) (bnd (zJ c) λy6=>some (RP c,jV.mk A y6 true false U)) (bnd (kJ A U) λg=>bnd (Ee c g) λy9=>br (y9==false) (some (RP c,jV.mk A Pd false true (jq U 1))) (bnd (yD g) λR=>some (R,jV.mk A Pd false false (jq U 1))))=_
    by_cases hu:U=iV A
    rw[Kt (decide_eq_true hu),cp,uI] at e;rw[Kt (decide_eq_true (show iV A<=U by omega)),cr,uI];have e:bnd (sJ c) (λy7=>some (y7,jy.mk A U c true false))=some r:=e;rw[J,uI] at e;cases e;rfl
    rw[Fz (decide_eq_false hu)] at e;have I:¬ iV A<=U:=by simp only[iV] at hu |-;omega
    rw[Fz (decide_eq_false I)];obtain⟨n,hn⟩:=Int.eq_ofNat_of_zero_le ku.1;have T:n<A.length:=by simp only[iV] at I;omega
    have he:=C _ (List.getElem_mem T);have c1:oM A[n]=some A[n]:=by unfold oM;exact xG ai ai
    have c2:yD A[n]=some A[n]:=by unfold yD;exact xG ai ai
    rw[hn,yI T] at e |-;rw[adq c _ hk he,c1] at e;rw[c2]
    cases hv:Ee c A[n] with
    | none=>rw[hv] at e;cases e
    | some b =>
     rw[hv] at e
     cases b with
     | false=>have e:some (RP c,jy.mk A (jq (n:Int) 1) Pd false true)=some r:=e;cases e;rfl
     | true=>have e:some (A[n],jy.mk A (jq (n:Int) 1) Pd false false)=some r:=e;cases e;rfl
 have Q:Ok (λr=>Oh r.2) (some r):=by
  rw[<- e];refine jf (λ_=>True) (λk2 h2=>iR (λ_=>h2 _ trivial) λ_=>iR (λ_=>h2 _ trivial) λ_=>iU f1 (h2 _ trivial)) λb _=>?_;refine iR (λ_=>iU J (iK P)) λ_=>iJ (λ_=>?_) λhne=>?_
  refine iU (x:=c.options) (by unfold lY;exact xG ai ai) (iU J (iK hl))
  simp only[iV] at hne;obtain⟨n,hn⟩:=Int.eq_ofNat_of_zero_le ku.1;have T:n<k.answers.length:=by omega
  have he:=K.each _ (List.getElem_mem T);refine jl n hn T (iO (ajo c _ hk he) λy hy=>iR (λ_=>iU J (iK P)) λh=>?_);exact iU (x:=k.answers[n]) eH (iK P)
 obtain⟨r',e',q⟩:=Q;cases e';exact q
def apF (l:List iW)(id r:Int):Prop:=(r=-1/\∀ o∈l,o.id≠id)\/∃ i:Nat,r=(i:Int)/\∃ h:i<l.length,l[i].id=id
theorem ajB (s:iT)(T:List iM)(id:Int)(ho:s.objects.length<=40):∃ r,CY s id=some r/\apF s.objects id r/\vV s id=(br (decide (r<0)) (some (KP,false)) (bnd (kJ s.objects r) λx=>some (x,true)))/\sK s T id=pG T r:=by
 have e1:∀ f:iW->Option Bool,(∀ o,f o=some (decide (o.id=id)))->jF s.objects f=CY s id:=by
  intro f O;unfold jF CY;refine Ur (λx y=>x=y/\∃ i:Nat,x=(i:Int)/\i<=s.objects.length) ⟨rfl,0,rfl,Nat.zero_le _⟩ ?_
  rintro _ _ k k' ⟨rfl,i,rfl,hi⟩ hk
  unfold kG Md
  by_cases h:i<s.objects.length
  have U:decide ((i:Int)<iV s.objects)=true:=by simp[iV];omega
  rw[Kt U,Kt U,yI h,yI h,O,uI,hk _ _ ⟨rfl,i+1,lC ai,by omega⟩]
  have U:decide ((i:Int)<iV s.objects)=false:=by simp[iV];omega
  rw[Fz U,Fz U]
 have t:Ok (apF s.objects id) (CY s id):=by
  unfold CY;refine lH 0 s.objects.length (λi=>∀ j (h:j<s.objects.length),j<i->s.objects[j].id≠id) 0 rfl (Nat.zero_le _) ai (λj _ h=>absurd h (Nat.not_lt_zero _)) (λi k hi hI hk=>?_) λk hI=>?_
  unfold Md;refine iJ (λ_=>jl i rfl hi (iJ (λh=>iK (.inr ⟨i,rfl,hi,h⟩)) λh=>hk λj hj J=>?_)) λh=>absurd (show (i:Int)<(s.objects.length:Int) by omega) h
  by_cases e:j=i
  subst e;exact h
  exact hI j hj ai
  unfold Md;refine iJ (λh=>absurd h az) λ_=>iK (.inl ⟨rfl,λo R=>?_⟩);obtain⟨j,hj,rfl⟩:=List.getElem_of_mem R;exact hI j hj hj
 obtain⟨r,e,q⟩:=t;refine⟨r,e,q,?_,?_⟩
 unfold vV D9;rw[e1 (λa0=>CB a0 id) (λo=>rfl),e];rfl
 unfold sK pG;rw[e1 (λa0=>uj a0 id) (λo=>rfl),e];rfl
theorem alH {t:iM}(h:qX t)(j:Nat)(hj:j<63):yR t.keys ((2 ^ j:Nat):Int)=some (hasB t.keys j):=abq h j hj
theorem ajC (t:iM)(first:Bool)(h:qX t):Ha t first=some (RN t&&yA t first):=by
 have e1:=aeB h;have T:decide (kz .and .i64 t.keys 32=0)=!hasB t.keys 5:=ak2 h 5 ai;have R:decide (kz .and .i64 t.keys 64=0)=!hasB t.keys 6:=ak2 h 6 ai;unfold Ha yA;rw[e1,T,R]
 by_cases U:0<t.power
 rw[decide_eq_false (show ¬ t.power<=0 by omega),decide_eq_true U];cases RN t<;>cases first<;>cases hasB t.keys 5<;>cases hasB t.keys 6<;>rfl
 rw[decide_eq_true (show t.power<=0 by omega),decide_eq_false U];cases RN t<;>cases first<;>cases hasB t.keys 5<;>cases hasB t.keys 6<;>rfl
theorem adr (o:iW)(t:iM)(d:Bool):∃ n,qj o t d=some n/\Ef o t d=some n:=by
 cases d with
 | true=>exact⟨1,rfl,rfl⟩
 | false=>exact⟨_,ali o t,ado o t⟩
def Ok2 {α β:Type}(Q:α->β->Prop)(a:Option α)(b:Option β):Prop:=∃ x y,a=some x/\b=some y/\Q x y
theorem aeP {α β:Type}{Q:α->β->Prop}{c:Bool}{a b:Option α}{U T : Option β}(h1:c=true->Ok2 Q a U)(h2:c=false->Ok2 Q b T):Ok2 Q (br c a b) (br c U T):=by
 cases c with
 | true=>exact h1 rfl
 | false=>exact h2 rfl
theorem YE {α β:Type}{Q:α->β->Prop}{x:α}{y:β}(h:Q x y):Ok2 Q (some x) (some y):=⟨x,y,rfl,rfl,h⟩
theorem afQ {σ τ ρ C : Type}{Q:ρ->C->Prop}{step:Int×σ->(Int×σ->Option ρ)->Option ρ}{U : Int×τ->(Int×τ->Option C)->Option C}{s0:σ}{t0:τ}(n:Nat)(hn:n<4611686018427387904)(R:Nat->σ->τ->Prop)(h0:R 0 s0 t0)
  (h:∀ i s t k I,i<n->R i s t->(∀ T J,R (i+1) T J->Ok2 Q (k (jq (i:Int) 1,T)) (I (jq (i:Int) 1,J)))->Ok2 Q (step ((i:Int),s) k) (U ((i:Int),t) I))
  (he:∀ s t k I,R n s t->Ok2 Q (step ((n:Int),s) k) (U ((n:Int),t) I)):Ok2 Q (jw step (0,s0)) (jw U (0,t0)):=by
 have key:∀ d i s t m,i+d=n->d<m->R i s t->Ok2 Q (KG step m ((i:Int),s)) (KG U m ((i:Int),t)):=by
  intro d
  induction d with
  | zero =>
   intro i s t m hi hm hR;obtain⟨m,rfl⟩:∃ g,m=g+1:=⟨m-1,by omega⟩;have:i=n:=by omega
   subst this;exact he s t _ _ hR
  | succ d ih =>
   intro i s t m hi hm hR;obtain⟨m,rfl⟩:∃ g,m=g+1:=⟨m-1,by omega⟩;refine h i s t _ _ ai hR λT J hR'=>?_;rw[lC ai];exact ih (i+1) T J m ai ai hR'
 exact key n 0 s0 t0 fuel ai (by show n<18446744073709551616;omega) h0
theorem abB (s:iT)(a:Int)(hs:s.objects.length<=40):Ok (λr=>∀ id∈r,∃ o∈s.objects,o.id=id) (mZ s a):=by
 unfold mZ;refine lK 0 s.objects.length (λi t=>t.length<=i/\∀ id∈t,∃ o∈s.objects,o.id=id) 0 rfl (Nat.zero_le _) ai ⟨Nat.zero_le _,by simp⟩ (λi t k hi hI hk=>?_) λt k hI=>?_
 obtain⟨R,hI⟩:=hI;unfold oh
 exact iJ (λ_=>jf (λu=>u.length<=i+1/\∀ id∈u,∃ o∈s.objects,o.id=id) (λk5 T=>jl i rfl hi (jf (λ_=>True) (λJ U=>iJ (λ_=>U _ trivial) λ_=>U _ trivial) λb _=>iR (λ_=>jG aV aX (T _ ⟨by simp;omega,λid hid=>by
  rcases List.mem_append.1 hid with q|q
  exact hI id q
  exact⟨s.objects[i],List.getElem_mem hi,(List.mem_singleton.1 q).symm⟩⟩)) λ_=>T _ ⟨by show t.length<=_;omega,hI⟩)) λu hu=>hk u hu) λh=>absurd (show (i:Int)<(s.objects.length:Int) by omega) h
 unfold oh;exact iJ (λh=>absurd h az) λ_=>iK hI.2
def anQ (f:iP)(x:List iZ×Bool×jy)(y:List iZ×Bool×jV):Prop:=y=(x.1.filter FC,x.2.1,toR x.2.2)/\Oh x.2.2/\(x.2.1=false->x.1=[])
theorem agX (k:jy)(s:iT)(T:List iM)(i:Nat)(hi:i<s.objects.length)(hiT:i<T.length)(ho:s.objects.length<=40)(K:KOK k)(P:Oh k)(O:qX T[i])(hp:0<T[i].power):Ok2 (anQ ⟨s.objects[i],T[i]⟩) (qE k s T ⟨s.objects[i],T[i]⟩) (CZ (toR k) s T (i:Int)):=by
 have k7:kZ T[i].keys 128=some (hasB T[i].keys 7):=abq O 7 ai;have k4:kZ T[i].keys 16=some (hasB T[i].keys 4):=abq O 4 ai;have r7:yR T[i].keys 128=some (hasB T[i].keys 7):=alH O 7 ai;have r4:yR T[i].keys 16=some (hasB T[i].keys 4):=alH O 4 ai;have hpt:=O.pt;obtain⟨bl,b1,b2,b3⟩:=adp s s.objects[i].id ai;have hbm:=aal (abB s s.objects[i].id ho) b1;have hbl:=aal (Vh s s.objects[i].id ho) b1
 have tr:pG T (i:Int)=some T[i]:=by
  unfold pG;exact ok_eq (iJ (λh=>absurd h ai) λ_=>iJ (λh=>absurd h dR) λ_=>jl i rfl hiT (iK rfl))
 unfold qE CZ;rw[yI hi,tr,uI,r7,uI,r4,uI,b2,uI];show Ok2 _ (bnd (mZ s s.objects[i].id) _) _;rw[b1,uI];refine afQ bl.length ai (λn (u v:List iL×List Int)=>u=v/\u.1.length=n/\u.2.length=n/\∀ o∈u.1,o.kind=5) ⟨rfl,rfl,rfl,by simp⟩ (λn u v kk U R hR hk=>?_) λu v kk U hR=>?_
 obtain⟨rfl,h1,h2,h3⟩:=hR;obtain⟨os,J⟩:=u;simp only at h1 h2 h3;unfold qR zX;have I:decide ((n:Int)<iV bl)=true:=by simp[iV];omega
 rw[Kt I,Kt I,yI R,yI R];obtain⟨j,j1,j2,j3,j4⟩:=ajB s T bl[n] ho;rw[j1,uI];rcases j2 with ⟨_,q⟩|⟨m,rfl,hm,_⟩
 obtain⟨o,hom,e⟩:=hbm _ (List.getElem_mem R);exact absurd e (q o hom)
 rw[j3,Fz (decide_eq_false ai),yI hm,uI,yI hm]
 have tm:∃ t,pG T (m:Int)=some t:=by
  unfold pG;rw[Fz (decide_eq_false ai)]
  by_cases h:iV T<=(m:Int)
  rw[Kt (decide_eq_true h)];exact⟨_,rfl⟩
  rw[Fz (decide_eq_false h),yI (by simp only[iV] at h;omega)];exact⟨_,rfl⟩
 obtain⟨t,ht⟩:=tm;obtain⟨w,w1,w2⟩:=adr s.objects[m] t (hasB T[i].keys 7);rw[j4,ht,uI,w2,uI];show Ok2 _ (jW (os.length+1) 24 (bnd (some t) λy8=>bnd (kZ T[i].keys 128) λy9=>bnd (qj s.objects[m] y8 y9) λy10=>jW (J.length+1) 8 (kk (jq (n:Int) 1,os++[iL.mk 5 bl[n] 0],J++[y10])))) (jW (J.length+1) 8 (bnd (kJ bl (n:Int)) λx14=>jW (os.length+1) 24 (U (jq (n:Int) 1,os++[iL.mk 5 x14 0],J++[w]))));rw[uI,k7,uI,w1,uI,yI R,xG ai ai,xG ai ai,xG ai ai,xG ai ai];refine hk _ _ ⟨rfl,by simp[h1],by simp[h2],λo hm2=>?_⟩;rcases List.mem_append.1 hm2 with q|q
 exact h3 o q
 rw[List.mem_singleton.1 q]
 obtain⟨rfl,h1,h2,h3⟩:=hR;obtain⟨os,J⟩:=u;simp only at h1 h2 h3;unfold qR zX;have I:decide ((bl.length:Int)<iV bl)=false:=by simp[iV]
 rw[Fz I,Fz I];show Ok2 _ (bnd (kZ T[i].keys 16) _) _;rw[k4,uI]
 have rest:∀ o:List iL,o.length=J.length+(if hasB T[i].keys 4 then 1 else 0)->(∀ n (h:n<o.length),(n<J.length/\o[n].kind=5)\/(o[n].kind=6/\o[n].a=s.objects[i].lG))->Ok2 (anQ ⟨s.objects[i],T[i]⟩)
   (br (decide ((iV o)=0)) (some ([],true,k)) (bnd (pJ k (jY.mk 8 T[i].control s.objects[i].id 0 0 T[i].power o)) λy16=>bnd (pR J y16.1 T[i].power (hasB T[i].keys 4)) λy17=>br (y17==false) (some ([],false,y16.2)) (jw (pW ⟨s.objects[i],T[i]⟩ o y16) (0,[]))))
   (br (decide ((iV o)=0)) (some ([],true,toR k)) (bnd (vX (toR k) (jY.mk 8 T[i].control s.objects[i].id 0 0 T[i].power o)) λy20=>bnd (He J y20.1 T[i].power (hasB T[i].keys 4)) λy21=>br (y21==false) (some ([],false,y20.2)) (jw (wU s.objects[i] o y20) (0,[])))):=by
  intro o hol hok;have hol2:o.length<=41:=by rw[hol];split<;>omega
  refine aeP (λ_=>YE ⟨rfl,P,λh=>by cases h⟩) λg=>?_
  have g:0<o.length:=by
   have:=of_decide_eq_false g;simp only[iV] at this;omega
  obtain⟨r,e1,e2,K2,hlen,P2⟩:=apE k (jY.mk 8 T[i].control s.objects[i].id 0 0 T[i].power o) rfl g gG K P;have hlen:r.1.length=o.length:=hlen;rw[e1,e2,uI,uI];obtain⟨L1,L2⟩:=aeM J r.1 T[i].power (hasB T[i].keys 4) ai;obtain⟨b,L3,_⟩:=L2;have hlg:=aal (adb J r.1 T[i].power (hasB T[i].keys 4) ai ai ai) L3;rw[<- L1,L3,uI,uI];refine aeP (λ_=>YE ⟨rfl,P2,λ_=>rfl⟩) λhb=>?_;obtain⟨g1,g2,g3⟩:=hlg (by cases b with|true=>rfl|false=>cases hb);refine afQ o.length ai (λn (u v:List iZ)=>v=u.filter FC/\u.length=n) ⟨rfl,rfl⟩ (λn u v kk U R hR hk=>?_) λu v kk U hR=>?_
  obtain⟨rfl,hl⟩:=hR;have C:n<r.1.length:=by omega
  have hvl:(u.filter FC).length<=n:=by rw[<- hl];exact List.length_filter_le _ _
  have hge:=g2 _ (List.getElem_mem C);unfold pW wU;have I:decide ((n:Int)<iV o)=true:=by simp[iV];omega
  have io:∀ {β:Type} (kb:Nat->Option β),bnd (Hz o.length (n:Int)) kb=kb n:=λkb=>by
   have:Hz o.length (n:Int)=some n:=by
    show (bif Nat.blt n o.length then some n else none)=some n;rw[show Nat.blt n o.length=true by rw[Nat.blt_eq];exact R];rfl
   rw[this];rfl
  have iy:∀ {β:Type} (kb:Nat->Option β),bnd (Hz r.1.length (n:Int)) kb=kb n:=λkb=>by
   have:Hz r.1.length (n:Int)=some n:=by
    show (bif Nat.blt n r.1.length then some n else none)=some n;rw[show Nat.blt n r.1.length=true by rw[Nat.blt_eq];exact C];rfl
   rw[this];rfl
  have go:∀ {β:Type} (kb:iL->Option β),bnd (o[n]?) kb=kb o[n]:=λkb=>by rw[List.getElem?_eq_getElem R];rfl
  have gy:∀ {β:Type} (kb:Int->Option β),bnd (r.1[n]?) kb=kb r.1[n]:=λkb=>by rw[List.getElem?_eq_getElem C];rfl
  rw[Kt I,Kt I];simp only[jn,io,go,iy,gy,yI C];have rm1:∀ {β:Type} (kb:Option β) (e:iZ),jW (u.length+[e].length) 112 kb=kb:=λkb e=>xG (by show (2*(u.length+1)+192)*112<=_;omega) dQ;have rm2:∀ {β:Type} (kb:Option β) (e:iZ),jW ((u.filter FC).length+[e].length) 112 kb=kb:=λkb e=>xG (by show (2*((u.filter FC).length+1)+192)*112<=_;omega) (by show (u.filter FC).length+1<=_;omega);have stp:∀ e:iZ,(u++[e]).length=n+1:=λe=>by simp[hl]
  have fin:∀ e:iZ,e.amount=r.1[n]->Ok2 (anQ ⟨s.objects[i],T[i]⟩) (kk (jq (n:Int) 1,u++[e])) (if 0<r.1[n] then U (jq (n:Int) 1,u.filter FC++[e]) else U (jq (n:Int) 1,u.filter FC)):=by
   intro e he
   by_cases h0:0<r.1[n]
   rw[if_pos h0];refine hk _ _ ⟨?_,stp e⟩;rw[List.filter_append,List.filter_cons_of_pos (by simp[FC,he];omega)];rfl
   rw[if_neg h0];refine hk _ _ ⟨?_,stp e⟩;rw[List.filter_append,List.filter_cons_of_neg (by simp[FC,he];omega)];simp
  rcases hok n R with ⟨_,h5⟩|⟨h6,ha⟩
  rw[Fz (decide_eq_false (show ¬ o[n].kind=6 by rw[h5];decide))];have f:=fin (D6 s.objects[i].id o[n].a 0 r.1[n]) rfl;show Ok2 _ (jW (u.length+[D6 s.objects[i].id o[n].a 0 r.1[n]].length) 112 _) _;rw[rm1]
  by_cases h0:0<r.1[n]
  rw[if_pos h0] at f;rw[Kt (decide_eq_true h0),Kt (decide_eq_true h5)];show Ok2 _ _ (jW ((u.filter FC).length+[D6 s.objects[i].id o[n].a 0 r.1[n]].length) 112 _);rw[rm2];exact f
  rw[if_neg h0] at f;rw[Fz (decide_eq_false h0),Fz rfl,Fz (decide_eq_false h0)];exact f
  rw[Kt (decide_eq_true h6)];have f:=fin (D6 s.objects[i].id 0 o[n].a r.1[n]) rfl;show Ok2 _ (jW (u.length+[D6 s.objects[i].id 0 o[n].a r.1[n]].length) 112 _) _;rw[rm1]
  by_cases h0:0<r.1[n]
  rw[if_pos h0,ha] at f;rw[ha,Kt (decide_eq_true h0),Fz (decide_eq_false (show ¬ o[n].kind=5 by rw[h6];decide)),Kt (decide_eq_true h0)];show Ok2 _ _ (jW ((u.filter FC).length+[D6 s.objects[i].id 0 s.objects[i].lG r.1[n]].length) 112 _);rw[rm2];exact f
  rw[if_neg h0] at f;rw[Fz (decide_eq_false h0),Fz rfl,Fz (decide_eq_false h0)];exact f
  obtain⟨rfl,hl⟩:=hR;unfold pW wU;have I:decide ((o.length:Int)<iV o)=false:=by simp[iV]
  rw[Fz I,Fz I];exact YE ⟨rfl,P2,λh=>by cases h⟩
 show Ok2 _ (br (hasB T[i].keys 4) (jW (os.length+1) 24 _) _) (br (hasB T[i].keys 4) (jW (os.length+1) 24 _) _);refine aeP (λh=>?_) λh=>?_
 rw[xG ai ai,xG ai ai];refine rest (os++[iL.mk 6 s.objects[i].lG 0]) gq λn R=>?_
 by_cases hlt:n<os.length
 rw[List.getElem_append_left hlt];exact .inl ⟨by omega,h3 _ (List.getElem_mem hlt)⟩
 simp only[List.length_append,List.length_singleton] at R;rw[List.getElem_append_right ai];have:n-os.length=0:=by omega
 simp only[this];exact .inr ⟨rfl,rfl⟩
 exact rest os (by rw[if_neg dK];omega) λn R=>.inl ⟨by omega,h3 _ (List.getElem_mem R)⟩
theorem ajD {α:Type}{Q:α->Prop}{a b:Option α}(e:a=b)(h:Ok Q b):Ok Q a:=by rw[e];exact h
def FB (asg:jy->iP->List iZ×Bool×jy)(first:Bool):List iP->jy->List iZ->Option (List iZ)×jy
 | [],k,out=>(some out,k)
 | f::L,k,out =>
  if f.o.lG<0\/yA f.t first=false then FB asg first L k out
  else if f.o.blocked=false then FB asg first L k (out++[D6 f.o.id 0 f.o.lG f.t.power])
  else if (asg k f).2.1=false then (none,(asg k f).2.2)
  else FB asg first L (asg k f).2.2 (out++(asg k f).1)
theorem Vr (U:jy->iP->List iZ×Bool×jy)(first:Bool)(f:iP)(L:List iP)(k:jy)(out:List iZ):FB U first (f::L) k out =
  (if f.o.lG<0\/yA f.t first=false then FB U first L k out
  else if f.o.blocked=false then FB U first L k (out++[D6 f.o.id 0 f.o.lG f.t.power])
  else if (U k f).2.1=false then (none,(U k f).2.2)
  else FB U first L (U k f).2.2 (out++(U k f).1)):=rfl
def Om (s:iT)(first:Bool)(f:iP):Bool :=
 (!decide (f.o.blocks=0))&&yA f.t first&&(match CY s f.o.blocks with|some r=>(decide (0<=r))&&(match s.objects[r.toNat]? with|some o=>decide (o.jQ=0)|none=>false)|none=>false)
def Ae (s:iT)(first:Bool)(L:List iP):List iZ:=(L.filter (Om s first)).map λf=>D6 f.o.id f.o.blocks 0 f.t.power
theorem Vs (s:iT)(first:Bool)(L:List iP)(f:iP):Ae s first (L++[f])=Ae s first L++(if Om s first f then [D6 f.o.id f.o.blocks 0 f.t.power] else []):=by
 unfold Ae;rw[List.filter_append,List.map_append]
 cases h:Om s first f with
 | true=>rw[List.filter_cons_of_pos h];rfl
 | false=>rw[List.filter_cons_of_neg dK];rfl
theorem YF (s:iT)(first:Bool)(L:List iP):(Ae s first L).length<=L.length:=by
 unfold Ae;rw[List.length_map];exact List.length_filter_le _ _
theorem alj (s:iT)(first:Bool)(L:List iP):(Ae s first L).filter FC=Ae s first L:=by
 rw[List.filter_eq_self];intro e he;unfold Ae at he;obtain⟨f,O,rfl⟩:=List.mem_map.1 he;have hb:=(List.mem_filter.1 O).2;unfold Om at hb;simp only[Bool.and_eq_true] at hb;have:=LY hb.1.2;show (!decide (f.t.power=0))=true;rw[decide_eq_false ai];rfl
def agY (s:iT)(first:Bool)(L:List iP)(x:Option (List iZ)×jy):List iZ×Bool×jy :=
 match x with
 | (none,k)=>([],false,k)
 | (some out,k)=>((out++Ae s first L).filter FC,true,k)
def I7 (s:iT)(T:List iM)(k:jy)(f:iP):List iZ×Bool×jy:=(qE k s T f).getD ([],false,k)
theorem ajE (s:iT)(T:List iM)(f:iP)(first:Bool)(ho:s.objects.length<=40):∃ y,vV s f.o.blocks=some y/\(y.2&&decide (y.1.jQ=0))=(match CY s f.o.blocks with|some r=>(decide (0<=r))&&(match s.objects[r.toNat]? with|some o=>decide (o.jQ=0)|none=>false)|none=>false)/\(y.2=true->y.1.id=f.o.blocks):=by
 obtain⟨r,e1,R,U,_⟩:=ajB s T f.o.blocks ho;rw[U,e1];rcases R with ⟨rfl,_⟩|⟨i,rfl,hi,hid⟩
 exact⟨(KP,false),rfl,rfl,λh=>by cases h⟩
 rw[Fz (decide_eq_false ai),yI hi];refine⟨(s.objects[i],true),rfl,?_,λ_=>hid⟩;simp only[Int.toNat_natCast,List.getElem?_eq_getElem hi,Bool.true_and];rw[decide_eq_true (show 0<=(i:Int) by omega),Bool.true_and]
theorem anR (s:iT)(T:List iM)(id:Int)(ho:s.objects.length<=40){ρ:Type}(k:Bool->Option ρ):(bnd (CY s id) λU=>br (decide (0<=U)) (bnd (kJ s.objects U) λR=>k (decide (R.jQ=0))) (k false))=k (match CY s id with|some r=>(decide (0<=r))&&(match s.objects[r.toNat]? with|some o=>decide (o.jQ=0)|none=>false)|none=>false):=by
 obtain⟨r,e1,J,I,_⟩:=ajB s T id ho;rw[e1,uI];rcases J with ⟨rfl,_⟩|⟨i,rfl,hi,hid⟩
 rfl
 rw[Kt (decide_eq_true ai),yI hi];simp only[Int.toNat_natCast,List.getElem?_eq_getElem hi];rw[decide_eq_true (show 0<=(i:Int) by omega),Bool.true_and]
theorem alk (k:jy)(s:iT)(T:List iM)(first:Bool)(hT:T.length=s.objects.length)(hO:∀ t∈T,qX t)(ho:s.objects.length<=40)(K:KOK k):sN k s T first=some (agY s first (wF s T) (FB (I7 s T) first (wF s T) k [])):=by
 have hL:=PZ s T ho
 have hm:∀ f∈wF s T,qX f.t:=λf O=>by
  obtain⟨i,h1,h2,rfl,_,_⟩:=LX O;exact hO _ (List.getElem_mem h2)
 unfold sN;refine ok_eq (iU (PY s T hT hO ho) ?_);revert hL hm;generalize wF s T=L;intro hL hm;refine kW (λu:jy×Int×List iZ=>KOK u.1/\∃ i:Nat,u.2.1=(i:Int)/\i<=L.length/\u.2.2.length<=41*i/\FB (I7 s T) first L k []=FB (I7 s T) first (L.drop i) u.1 u.2.2) (λu=>((L.length:Int)-u.2.1).toNat) ⟨K,0,rfl,Nat.zero_le _,Nat.zero_le _,rfl⟩ dY ?_
 rintro⟨k1,i0,out⟩ kk ⟨K1,i,hi0,hi,hlen,hR⟩ hk
 dsimp only at K1 hi0 hi hlen hR hk;subst hi0;unfold yV;refine iJ (λh=>?_) (λh=>?_)
 have J : i<L.length:=by simp only[iV] at h;omega
 rw[List.drop_eq_getElem_cons J,Vr] at hR;refine jf (λu:jy×List iZ=>KOK u.1/\u.2.length<=41*(i+1)/\FB (I7 s T) first L k []=FB (I7 s T) first (L.drop (i+1)) u.1 u.2) (λk6 h6=>?_) (λu hu=>hk (u.1,jq (i:Int) 1,u.2) ⟨hu.1,i+1,lC ai,by omega,hu.2⟩ cu);have hLi:=hm _ (List.getElem_mem J);refine jl i rfl J (jf (λb:Bool=>(b=true->L[i].o.lG<0\/yA L[i].t first=false)/\(b=false->A1 first L[i])) (λk10 h10=>iJ (λg=>h10 _ ⟨λ_=>.inl g,λe=>by cases e⟩) λg=>iU (LW _ first hLi) (h10 _ ⟨λe=>.inr (by simpa using e),λe=>⟨by omega,by simpa using e⟩⟩)) λb hb=>?_);refine iR (λI=>h6 _ ⟨K1,by show out.length<=_;omega,by rw[hR,if_pos (hb.1 I)]⟩) λC=>?_;have hA:=hb.2 C;have hp:=LY hA.2;rw[if_neg (show ¬ (L[i].o.lG<0\/yA L[i].t first=false) from λq=>q.elim (λq=>by have:=hA.1;omega) λq=>by rw[hA.2] at q;cases q)] at hR;refine iR (λU=>iU (x:=D6 L[i].o.id 0 L[i].o.lG L[i].t.power) rfl (jG dN gu (h6 _ ⟨K1,by simp only[List.length_append,List.length_singleton];omega,by rw[hR,if_pos (by cases hq:L[i].o.blocked with|false=>rfl|true=>rw[hq] at U;cases U)]⟩))) λU=>?_;rw[if_neg (show ¬ L[i].o.blocked=false by intro q;rw[q] at U;cases U)] at hR;obtain⟨y,ey,hy⟩:=P9 k1 s T L[i] ho K1 hLi hp;have ea:I7 s T k1 L[i]=y:=by unfold I7;rw[ey];rfl
 rw[ea] at hR;refine iU ey (iR (λe=>iK ?_) λe=>?_)
 have e2:y.2.1=false:=by cases hq:y.2.1 with|false=>rfl|true=>rw[hq] at e;cases e
 rw[hR,if_pos e2];rfl
 have e2:¬ y.2.1=false:=by intro q;rw[q] at e;cases e
 rw[if_neg e2] at hR;have:=hy.len;exact jG dC eX (h6 _ ⟨hy.k,by simp only[List.length_append];omega,hR⟩)
 have hiL:i=L.length:=by simp only[iV] at h;omega
 subst hiL;rw[List.drop_length] at hR;have hR:FB (I7 s T) first L k []=(some out,k1):=hR
 rw[hR];refine lK 0 L.length (λj t=>t=out++Ae s first (L.take j)) 0 rfl (Nat.zero_le _) ai (by simp[Ae]) (λj t k2 hj hJ hk2=>?_) λt k2 hJ=>?_
 subst hJ;have hl2:=YF s first (L.take j)
 rw[List.length_take] at hl2;have hLj:=hm _ (List.getElem_mem hj);have nx:Ae s first (L.take (j+1))=Ae s first (L.take j)++(if Om s first L[j] then [D6 L[j].o.id L[j].o.blocks 0 L[j].t.power] else []):=by rw[uV L j hj,Vs]
 unfold sQ;refine iJ (λ_=>jf (λu=>u=out++Ae s first (L.take (j+1))) (λk19 R=>?_) λu hu=>hk2 u hu) λh=>absurd (show (j:Int)<(L.length:Int) by omega) h;have sk:Om s first L[j]=false->out++Ae s first (L.take j)=out++Ae s first (L.take (j+1)):=λh=>by rw[nx,h];simp
 refine jl j rfl hj (jf (λb:Bool=>(b=true->Om s first L[j]=false)/\(b=false->A2 first L[j])) (λk23 h23=>iJ (λg=>h23 _ ⟨λ_=>by unfold Om;rw[decide_eq_true g];rfl,λe=>by cases e⟩) λg=>iU (LW _ first hLj) (h23 _ ⟨λe=>(by unfold Om;rw[show yA L[j].t first=false from by simpa using e];simp),λe=>⟨g,by simpa using e⟩⟩)) λb hb=>?_);refine iR (λI=>R _ (sk (hb.1 I))) λC=>?_;have hA:=hb.2 C;obtain⟨y,e1,e2,e3⟩:=ajE s T L[j] first ho
 have hbB:Om s first L[j]=(y.2&&decide (y.1.jQ=0)):=by
  rw[e2];unfold Om;rw[decide_eq_false hA.1,hA.2];simp
 refine iU e1 (jf (λc:Bool=>c=(y.2&&decide (y.1.jQ=0))) (λk28 h28=>iR (λh=>h28 _ (by rw[h,Bool.true_and])) λh=>h28 _ (by rw[h,Bool.false_and])) λc hc=>iR (λh=>?_) λh=>R _ (sk (by rw[hbB,<- hc,h])));have hy2:y.2=true:=by rw[h] at hc;have:=hc.symm;rw[Bool.and_eq_true] at this;exact this.1
 refine iU (x:=D6 L[j].o.id y.1.id 0 L[j].t.power) rfl (jG (by show (2*((out++Ae s first (L.take j)).length+1)+192)*112<=_;rw[List.length_append];omega) (by show (out++Ae s first (L.take j)).length+1<=_;rw[List.length_append];omega) (R _ ?_));rw[nx,show Om s first L[j]=true by rw[hbB,<- hc,h],e3 hy2];simp
 rw[List.take_length] at hJ;have hl2:=YF s first L
 unfold sQ;refine iJ (λh=>absurd h dh) λ_=>iU (Vj t (by rw[hJ,List.length_append];omega)) (iK ?_);rw[hJ];rfl
def abC (s:iT)(T:List iM)(i:Nat):List iP:=(((s.objects.zip T).drop i).filter AZ).map λp=>iP.mk p.1 p.2
theorem agZ (s:iT)(T:List iM)(i:Nat)(h1:i<s.objects.length)(h2:i<T.length):abC s T i=(if AZ (s.objects[i],T[i]) then [iP.mk s.objects[i] T[i]] else [])++abC s T (i+1):=by
 unfold abC;have U:i<(s.objects.zip T).length:=by rw[List.length_zip];omega
 rw[List.drop_eq_getElem_cons U,List.getElem_zip]
 cases h:AZ (s.objects[i],T[i]) with
 | true=>rw[List.filter_cons_of_pos h];rfl
 | false=>rw[List.filter_cons_of_neg dK];rfl
def Oo (s:iT)(T:List iM)(i:Nat):List iP:=(((s.objects.zip T).take i).filter AZ).map λp=>iP.mk p.1 p.2
theorem ag0 (s:iT)(T:List iM)(i:Nat)(h1:i<s.objects.length)(h2:i<T.length):Oo s T (i+1)=Oo s T i++(if AZ (s.objects[i],T[i]) then [iP.mk s.objects[i] T[i]] else []):=by
 unfold Oo;rw[ac7 _ _ _ h1 h2,List.filter_append,List.map_append]
 cases h:AZ (s.objects[i],T[i]) with
 | true=>rw[List.filter_cons_of_pos h];rfl
 | false=>rw[List.filter_cons_of_neg dK];rfl
theorem ajF (s:iT)(T:List iM)(i:Nat):(Oo s T i).length<=i:=by
 unfold Oo;rw[List.length_map];refine Nat.le_trans (List.length_filter_le _ _) ?_;rw[List.length_take];omega
theorem alm (k:jy)(s:iT)(T:List iM)(first:Bool)(hT:T.length=s.objects.length)(hO:∀ t∈T,qX t)(ho:s.objects.length<=40)(K:KOK k)(P:Oh k):Ok (λr=>Oh (agY s first (wF s T) (FB (I7 s T) first (wF s T) k [])).2.2/\r=((agY s first (wF s T) (FB (I7 s T) first (wF s T) k [])).1,(agY s first (wF s T) (FB (I7 s T) first (wF s T) k [])).2.1,toR (agY s first (wF s T) (FB (I7 s T) first (wF s T) k [])).2.2)) (IQ (toR k) s T first):=by
 have hD0:wF s T=abC s T 0:=rfl
 have hTN:Oo s T s.objects.length=wF s T:=by
  unfold Oo wF;rw[List.take_of_length_le (by rw[List.length_zip];omega)]
 have hDN:abC s T s.objects.length=[]:=by
  unfold abC;rw[List.drop_of_length_le (by rw[List.length_zip];omega)];rfl
 unfold IQ;refine kW (λu:jV×Int×List iZ=>∃ k1 out,u.1=toR k1/\u.2.2=out.filter FC/\KOK k1/\Oh k1/\∃ i:Nat,u.2.1=(i:Int)/\i<=s.objects.length/\out.length<=41*i/\FB (I7 s T) first (wF s T) k []=FB (I7 s T) first (abC s T i) k1 out) (λu=>((s.objects.length:Int)-u.2.1).toNat) ⟨k,[],rfl,rfl,K,P,0,rfl,Nat.zero_le _,Nat.zero_le _,by rw[hD0]⟩ (by show ((s.objects.length:Int)-0).toNat<18446744073709551616;omega) ?_
 rintro⟨w,i0,outR⟩ kk ⟨k1,out,hw,hoR,K1,P1,i,hi0,hi,hlen,hR⟩ hk
 dsimp only at hw hoR hi0 hk;subst hw hoR hi0;have hfl:(out.filter FC).length<=41*i:=Nat.le_trans (List.length_filter_le _ _) hlen;unfold Ko;refine iJ (λh=>?_) (λh=>?_)
 have I : i<s.objects.length:=by simp only[iV] at h;omega
 have hiT:i<T.length:=by omega
 have hti:=hO _ (List.getElem_mem hiT);rw[agZ s T i I hiT] at hR;refine jf (λu:jV×List iZ=>∃ k1 out,u.1=toR k1/\u.2=out.filter FC/\KOK k1/\Oh k1/\out.length<=41*(i+1)/\FB (I7 s T) first (wF s T) k []=FB (I7 s T) first (abC s T (i+1)) k1 out) (λk5 h5=>?_) (λu hu=>?_)
 have tr:pG T (i:Int)=some T[i]:=by
  unfold pG;exact ok_eq (iJ (λh=>absurd h ai) λ_=>iJ (λh=>absurd h dR) λ_=>jl i rfl hiT (iK rfl))
 refine jl i rfl I (jf (λb:Bool=>(b=true->AZ (s.objects[i],T[i])=false\/(AZ (s.objects[i],T[i])=true/\(s.objects[i].lG<0\/yA T[i] first=false)))/\(b=false->AZ (s.objects[i],T[i])=true/\0<=s.objects[i].lG/\yA T[i] first=true)) (λk9 h9=>?_) λb hb=>?_)
 refine lI (λg=>h9 _ ⟨λ_=>.inl (by simp[AZ,g]),λe=>by cases e⟩) λg=>iJ (λha=>h9 _ ⟨λ_=>?_,λe=>by cases e⟩) λha=>iU tr (iU (ajC T[i] first hti) (h9 _ ?_))
 cases O:AZ (s.objects[i],T[i]) with
 | false=>exact .inl rfl
 | true=>exact .inr ⟨rfl,.inl ha⟩
 have hfb:AZ (s.objects[i],T[i])=RN T[i]:=by simp[AZ,g]
 rw[hfb];cases RN T[i]<;>cases yA T[i] first<;>simp<;>omega
 refine iR (λC=>h5 _ ⟨k1,out,rfl,rfl,K1,P1,by omega,?_⟩) λhbf=>?_
 rw[hR];rcases hb.1 C with q|⟨q,q2⟩
 rw[q];rfl
 rw[q];show FB _ _ (_::_) _ _=_;rw[Vr,if_pos q2];rfl
 obtain⟨q1,q2,q3⟩:=hb.2 hbf;rw[q1] at hR;have hR:FB (I7 s T) first (wF s T) k []=FB (I7 s T) first (iP.mk s.objects[i] T[i]::abC s T (i+1)) k1 out:=hR
 rw[Vr,if_neg (show ¬ (s.objects[i].lG<0\/yA T[i] first=false) from λq=>q.elim (λq=>by omega) λq=>by rw[q3] at q;cases q)] at hR;have hp:=LY q3;refine iR (λU=>?_) λU=>?_
 have R:s.objects[i].blocked=false:=by cases hq:s.objects[i].blocked with|false=>rfl|true=>rw[hq] at U;cases U
 rw[if_pos R] at hR;refine jl i rfl hiT (iU (x:=D6 s.objects[i].id 0 s.objects[i].lG T[i].power) rfl (jG (by show (2*((out.filter FC).length+1)+192)*112<=_;omega) (by show (out.filter FC).length+1<=_;omega) (h5 _ ⟨k1,out++[D6 s.objects[i].id 0 s.objects[i].lG T[i].power],rfl,?_,K1,P1,by simp only[List.length_append,List.length_singleton];omega,hR⟩)));rw[List.filter_append,List.filter_cons_of_pos (by show (!decide (T[i].power=0))=true;rw[decide_eq_false ai];rfl)];rfl
 have R:¬ s.objects[i].blocked=false:=by intro q;rw[q] at U;cases U
 rw[if_neg R] at hR;obtain⟨x,y,ex,ey,hxy,hpd,_⟩:=agX k1 s T i I hiT ho K1 P1 hti hp;have hx:=aal (P9 k1 s T ⟨s.objects[i],T[i]⟩ ho K1 hti hp) ex;have ea:I7 s T k1 ⟨s.objects[i],T[i]⟩=x:=by unfold I7;rw[ex];rfl
 rw[ea] at hR;subst hxy;have hxl:=hx.len;have hxf:(x.1.filter FC).length<=41:=Nat.le_trans (List.length_filter_le _ _) hxl;refine iU ey (iR (λe=>iK ?_) λe=>?_)
 have e2:x.2.1=false:=by cases hq:x.2.1 with|false=>rfl|true=>rw[hq] at e;cases e
 rw[hR,if_pos e2];exact⟨hpd,rfl⟩
 have e2:¬ x.2.1=false:=by intro q;rw[q] at e;cases e
 rw[if_neg e2] at hR;exact jG (by show (2*((out.filter FC).length+(x.1.filter FC).length)+192)*112<=_;omega) (by show (out.filter FC).length+(x.1.filter FC).length<=_;omega) (h5 _ ⟨x.2.2,out++x.1,rfl,by rw[List.filter_append],hx.k,hpd,by simp only[List.length_append];omega,hR⟩)
 obtain⟨k2,out2,h1,h2,h3,h4,h5,h6⟩:=hu;exact hk (u.1,jq (i:Int) 1,u.2) ⟨k2,out2,h1,h2,h3,h4,i+1,lC ai,by omega,h5,h6⟩ (by show ((s.objects.length:Int)-jq (i:Int) 1).toNat<((s.objects.length:Int)-(i:Int)).toNat;rw[lC ai];omega)
 have hiL:i=s.objects.length:=by simp only[iV] at h;omega
 subst hiL;rw[hDN] at hR;have hR:FB (I7 s T) first (wF s T) k []=(some out,k1):=hR
 rw[hR];refine lK 0 s.objects.length (λj t=>t=out.filter FC++Ae s first (Oo s T j)) 0 rfl (Nat.zero_le _) ai (by simp[Ae,Oo]) (λj t k2 hj hJ hk2=>?_) λt k2 hJ=>?_
 subst hJ;have J:j<T.length:=by omega
 have htj:=hO _ (List.getElem_mem J);have hl2:=YF s first (Oo s T j)
 have hl3:=ajF s T j
 have tr:pG T (j:Int)=some T[j]:=by
  unfold pG;exact ok_eq (iJ (λh=>absurd h ai) λ_=>iJ (λh=>absurd h dR) λ_=>jl j rfl J (iK rfl))
 have nx:=ag0 s T j hj J;unfold EO;refine iJ (λ_=>jf (λu=>u=out.filter FC++Ae s first (Oo s T (j+1))) (λk20 h20=>?_) λu hu=>hk2 u hu) λh=>absurd (show (j:Int)<(s.objects.length:Int) by omega) h
 have sk:(AZ (s.objects[j],T[j])=false\/Om s first ⟨s.objects[j],T[j]⟩=false)->out.filter FC++Ae s first (Oo s T j)=out.filter FC++Ae s first (Oo s T (j+1)):=λh=>by
  rw[nx];rcases h with h|h
  rw[h];simp
  cases AZ (s.objects[j],T[j]) with
  | false=>simp
  | true =>
   show _=_++Ae s first (_++[_])
   rw[Vs,h];simp
 refine jl j rfl hj (jf (λb:Bool=>(b=true->AZ (s.objects[j],T[j])=false\/Om s first ⟨s.objects[j],T[j]⟩=false)/\(b=false->AZ (s.objects[j],T[j])=true/\s.objects[j].blocks≠0/\yA T[j] first=true)) (λk24 h24=>?_) λb hb=>?_)
 refine lI (λg=>h24 _ ⟨λ_=>.inl (by simp[AZ,g]),λe=>by cases e⟩) λg=>iJ (λha=>h24 _ ⟨λ_=>.inr (by simp[Om,ha]),λe=>by cases e⟩) λha=>iU tr (iU (ajC T[j] first htj) (h24 _ ?_));have hfb:AZ (s.objects[j],T[j])=RN T[j]:=by simp[AZ,g]
 rw[hfb]
 cases hc:RN T[j] with
 | false=>exact⟨λ_=>.inl rfl,λe=>by cases e⟩
 | true =>
  cases hd:yA T[j] first with
  | false=>exact⟨λ_=>.inr (by simp[Om,hd]),λe=>by cases e⟩
  | true=>exact⟨λe=>(by cases e),λ_=>⟨rfl,ha,rfl⟩⟩
 refine iR (λC=>h20 _ (sk (hb.1 C))) λhbf=>?_;obtain⟨q1,q2,q3⟩:=hb.2 hbf;have ah:=anR s T s.objects[j].blocks ho (ρ:=List iZ×Bool×jV)
 have hbB:Om s first ⟨s.objects[j],T[j]⟩=(match CY s s.objects[j].blocks with|some r=>(decide (0<=r))&&(match s.objects[r.toNat]? with|some o=>decide (o.jQ=0)|none=>false)|none=>false):=by
  unfold Om;simp only[decide_eq_false q2,q3,Bool.not_false,Bool.true_and]
 rw[<- hbB] at ah;refine ajD (ah (λs29:Bool=>br s29 (bnd (kJ T (j:Int)) λx33=>bnd (NY s.objects[j].id s.objects[j].blocks 0 x33.power) λy34=>jW ((out.filter FC++Ae s first (Oo s T j)).length+[y34].length) 112 (k20 ((out.filter FC++Ae s first (Oo s T j))++[y34]))) (k20 (out.filter FC++Ae s first (Oo s T j))))) ?_;refine iR (λh=>?_) λh=>h20 _ (sk (.inr h));refine jl j rfl J (iU (x:=D6 s.objects[j].id s.objects[j].blocks 0 T[j].power) rfl (jG (by show (2*((out.filter FC++Ae s first (Oo s T j)).length+1)+192)*112<=_;rw[List.length_append];omega) (by show (out.filter FC++Ae s first (Oo s T j)).length+1<=_;rw[List.length_append];omega) (h20 _ ?_)));rw[nx,q1];show _=_++Ae s first (_++[_])
 rw[Vs,h];simp
 unfold EO;refine iJ (λh=>absurd h az) λ_=>iK ⟨P1,?_⟩;rw[hJ,hTN];show _=((out++Ae s first (wF s T)).filter FC,true,toR k1);rw[List.filter_append,alj]
theorem ajG (a:List iZ)(h:a.length<=100000):yH a a=some true:=by
 unfold yH;refine ok_eq (lI (λh=>absurd rfl h) λ_=>?_);refine lH 0 a.length (λ_=>True) 0 rfl (Nat.zero_le _) ai trivial (λi k hi _ hk=>?_) λk _=>?_
 unfold xy;refine iJ (λ_=>jl i rfl hi (jl i rfl hi (uf (lQ ?_ (hk trivial))))) λh=>absurd (show (i:Int)<(a.length:Int) by omega) h;simp
 unfold xy;exact iJ (λh=>absurd h bV) λ_=>iK rfl
theorem ads (c:jY)(h:c.options.length<=100):yG c c=some true:=by
 unfold yG;refine ok_eq (lI (λh=>absurd rfl h) λ_=>?_);refine lH 0 c.options.length (λ_=>True) 0 rfl (Nat.zero_le _) ai trivial (λi k hi _ hk=>?_) λk _=>?_
 unfold xx;refine iJ (λ_=>jl i rfl hi (jl i rfl hi (uf (lQ ?_ (hk trivial))))) λh=>absurd (show (i:Int)<(c.options.length:Int) by omega) h;simp
 unfold xx;exact iJ (λh=>absurd h (by show ¬ (c.options.length:Int)<(c.options.length:Int);omega)) λ_=>oK (decide_eq_true rfl) (oK (decide_eq_true rfl) (oK (decide_eq_true rfl) (oK (decide_eq_true rfl) (oK (decide_eq_true rfl) (iK (decide_eq_true rfl))))))
theorem ag1 (k:jy)(P:Oh k):∃ b,zg k (toR k)=some (true,b):=by
 have P:k.pending.options.length<=100:=P;have R:lY k.pending.options=some k.pending.options:=by unfold lY;exact xG ai ai
 have cr:zJ k.pending=some k.pending:=by unfold zJ;exact xG ai ai
 cases U:k.waits with
 | false =>
  have e1:qy k=some (wO,false):=by unfold qy;rw[U];rfl
  have T:qA (toR k)=some (wO,false):=by unfold qA toR;rw[U];rfl
  refine⟨true,?_⟩;unfold zg;rw[e1,uI,T,uI,ads wO aQ,uI];refine ok_eq (oK rfl (oK rfl (iU (x:=k.bad) rfl (iU (x:=k.bad) rfl (oK (by cases k.bad<;>rfl) (iU (x:=k.used) rfl (iU (x:=k.used) rfl (iK ?_))))))));rw[decide_eq_true rfl];rfl
 | true =>
  have e1:qy k=some (k.pending,true):=by unfold qy;rw[U];show bnd (lY k.pending.options) _=_;rw[R];rfl
  have T:qA (toR k)=some (k.pending,true):=by unfold qA toR;rw[U];show bnd (zJ k.pending) _=_;rw[cr];rfl
  refine⟨false,?_⟩;unfold zg;rw[e1,uI,T,uI,ads k.pending P,uI];refine ok_eq (oK rfl (oK rfl (iU (x:=k.bad) rfl (iU (x:=k.bad) rfl (oK (by cases k.bad<;>rfl) (iU (x:=k.used) rfl (iU (x:=k.used) rfl (iK ?_))))))));rw[decide_eq_true rfl];rfl
theorem new2 (l:List (List Int))(h:l.length<=20)(he:∀ a∈l,a.length<=50):∃ k,EJ l=some k/\NW l=some (toR k)/\KOK k/\Oh k:=by
 obtain⟨k,e,K⟩:=ajp l h he
 have P:Ok (λk=>NW l=some (toR k)/\Oh k) (EJ l):=by
  have T:NW l=some (toR (jy.mk l 0 wO false false)):=by
   unfold NW;refine ok_eq (lK 0 l.length (λi t=>t=l.take i) 0 rfl (Nat.zero_le _) ai rfl (λi t k hi hI hk=>?_) λt k hI=>?_)
   subst hI;have:=he _ (List.getElem_mem hi);have U:(l.take i).length<=20:=by rw[List.length_take];omega
   unfold NV;refine iJ (λ_=>jl i rfl hi (iU (x:=l[i]) (by unfold yD;exact xG ai ai) (jG fQ (by show (l.take i).length+1<=_;omega) (hk _ (uV l i hi).symm)))) λh=>absurd (show (i:Int)<(l.length:Int) by omega) h
   rw[List.take_length] at hI;subst hI;unfold NV;exact iJ (λh=>absurd h (by show ¬ (t.length:Int)<(t.length:Int);omega)) λ_=>iK rfl
  have pp:EJ l=some (jy.mk l 0 wO false false):=by
   unfold EJ;refine ok_eq (lK 0 l.length (λi t=>t=l.take i) 0 rfl (Nat.zero_le _) ai rfl (λi t k hi hI hk=>?_) λt k hI=>?_)
   subst hI;have:=he _ (List.getElem_mem hi);have U:(l.take i).length<=20:=by rw[List.length_take];omega
   unfold Eb;refine iJ (λ_=>jl i rfl hi (iU (x:=l[i]) eH (jG fQ (by show (l.take i).length+1<=_;omega) (hk _ (uV l i hi).symm)))) λh=>absurd (show (i:Int)<(l.length:Int) by omega) h
   rw[List.take_length] at hI;subst hI;unfold Eb;exact iJ (λh=>absurd h (by show ¬ (t.length:Int)<(t.length:Int);omega)) λ_=>iK rfl
  rw[pp];exact⟨_,rfl,T,by show (0:Nat)<=100;omega⟩
 obtain⟨h1,h2⟩:=aal P e;exact⟨k,e,h1,K,h2⟩
theorem Uw (x:nI)(hx:Jy x):wH x=some true:=by
 obtain⟨C,hs,_⟩:=hx;have I:ry=some true:=rfl;unfold wH;refine ok_eq (iO (abr x C hs) λy1 h1=>iR (λ_=>iU I (iK rfl)) λh=>?_);have F:=h1 dw;have U:=F.o;refine iO (PW x.cards x.s C hs F.c ai) λT R=>?_;obtain⟨k,e1,e2,K,P⟩:=new2 x.answers F.a F.e;refine iU e1 (iU e2 ?_);have p:=alk k x.s T x.first R.1 R.2 U K
 have r:=alm k x.s T x.first R.1 R.2 U K P
 have E:=aal (aaf k x.s T x.first R.1 R.2 U K) p;revert p r E;generalize agY x.s x.first (wF x.s T) (FB (I7 x.s T) x.first (wF x.s T) k [])=z
 intro p r E;obtain⟨y,ey,hp,hy⟩:=r;subst hy;refine iU p (iU ey ?_);obtain⟨b,hb⟩:=ag1 z.2.2 hp
 have hlen:z.1.length<=100000:=by
  have c:=PZ x.s T U
  cases g:z.2.1 with
  | false=>rw[E.bad g];exact Nat.zero_le _
  | true =>
   obtain⟨o1,o2,P1,P2,J⟩:=E.good g;have a:=P1.len;have b:=P2.len;rw[J];refine Nat.le_trans (List.length_filter_le _ _) ?_;rw[List.length_append];omega
 refine iU hb (oK rfl (oK (by show (z.2.1==z.2.1)=true;cases z.2.1<;>rfl) (iU (ajG z.1 hlen) (oK rfl (iU I (iK rfl))))))
end Go.Proofs.YtlacmdnhabblcaaGreat
