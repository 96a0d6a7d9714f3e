import Derived.Test.YtlacmdnhabblcaaGreatB31
import Derived.Test.YtlacmdnhabblcaaGreatB37
set_option linter.all false
namespace Go.Proofs.YtlacmdnhabblcaaGreat
open Go Go.Pv
set_option maxRecDepth 100000
def RN (t:iM):Bool:=hasB t.line.types 0
theorem aeB {t:iM}(h:qX t):decide (kz .and .i64 t.line.types 1=0)=!RN t:=by
 have hk:=h.t;obtain⟨m,U⟩:=Int.eq_ofNat_of_zero_le hk.1;have:=Uf m 0 ai ai;unfold RN hasB;rw[U,show (1:Int)=((2 ^ 0:Nat):Int) from rfl,this,Int.toNat_natCast]
 by_cases h:m / 2 ^ 0 % 2=1
 rw[if_pos h,decide_eq_true h];rfl
 rw[if_neg h,decide_eq_false h];rfl
theorem abq {t:iM}(h:qX t)(j:Nat)(hj:j<63):kZ t.keys ((2 ^ j:Nat):Int)=some (hasB t.keys j):=by
 have hk:=h.k;obtain⟨m,U⟩:=Int.eq_ofNat_of_zero_le hk.1;rw[U];exact ajj m j ai hj
theorem LW (f:iP)(first:Bool)(h:qX f.t):nY f first=some (yA f.t first):=by
 have k5:kZ f.t.keys 32=some (hasB f.t.keys 5):=abq h 5 ai;have k6:kZ f.t.keys 64=some (hasB f.t.keys 6):=abq h 6 ai;unfold nY yA;refine ok_eq (iU k5 (iU k6 (iJ (λU=>iK (by rw[decide_eq_false ai];rfl)) λU=>?_)));rw[decide_eq_true (show 0<f.t.power by omega)];cases first<;>cases hasB f.t.keys 5<;>cases hasB f.t.keys 6<;>exact iK rfl
def AZ (p:iW×iM):Bool:=decide (p.1.jQ=0)&&RN p.2
def wF (s:iT)(T:List iM):List iP:=((s.objects.zip T).filter AZ).map λp=>iP.mk p.1 p.2
theorem ac7 {α β:Type}(l:List α)(m:List β)(i:Nat)(hi:i<l.length)(T:i<m.length):(l.zip m).take (i+1)=(l.zip m).take i++[(l[i],m[i])]:=by
 have U:i<(l.zip m).length:=by rw[List.length_zip];omega
 rw[uV _ i U,List.getElem_zip]
theorem PY (s:iT)(T:List iM)(g:T.length=s.objects.length)(hO:∀ t∈T,qX t)(ho:s.objects.length<=40):ui s T=some (wF s T):=by
 unfold ui;refine ok_eq (lK 0 s.objects.length (λn t=>t=(((s.objects.zip T).take n).filter AZ).map λp=>iP.mk p.1 p.2) 0 rfl (Nat.zero_le _) ai rfl (λi t k hi hI hk=>?_) λt k hI=>?_)
 have U:i<T.length:=by omega
 have hlen:t.length<=40:=by
  rw[hI,List.length_map];refine Nat.le_trans (List.length_filter_le _ _) ?_;rw[List.length_take,List.length_zip];omega
 have hs:(((s.objects.zip T).take (i+1)).filter AZ).map (λp=>iP.mk p.1 p.2)=t++(if AZ (s.objects[i],T[i]) then [iP.mk s.objects[i] T[i]] else []):=by
  rw[ac7 _ _ i hi U,List.filter_append,List.map_append,<- hI]
  congr 1
  by_cases h:AZ (s.objects[i],T[i])=true<;>simp[h]
 unfold wE;refine iJ (λ_=>jf (λu=>u=(((s.objects.zip T).take (i+1)).filter AZ).map λp=>iP.mk p.1 p.2) (λk5 I=>?_) λu hu=>hk u hu) λh=>absurd (show (i:Int)<(s.objects.length:Int) by omega) h;refine jl i rfl hi (jf (λb=>b=AZ (s.objects[i],T[i])) (λC J=>?_) λb hb=>?_)
 unfold AZ at J;refine iJ (λ_=>iJ (λR=>jl i rfl U ?_) λR=>J _ (by rw[decide_eq_false R];rfl)) λh=>absurd (show (i:Int)<(T.length:Int) by omega) h;have:=aeB (hO _ (List.getElem_mem U));rw[show (!decide (kz .and .i64 T[i].line.types 1=0))=RN T[i] by rw[this];simp];exact J _ (by rw[decide_eq_true R];rfl)
 subst hb;refine iR (λh=>jl i rfl U (jG (by show (2*(t.length+1)+192)*304<=_;omega) aX (I _ (by rw[hs,if_pos h])))) λh=>I _ (by rw[hs,if_neg dK];simp)
 unfold wE;have R:(s.objects.zip T).length=s.objects.length:=by rw[List.length_zip];omega
 rw[<- R,takeA] at hI;exact iJ (λh=>absurd h az) λ_=>iK hI
theorem LX {s:iT}{T:List iM}{f:iP}(h:f∈wF s T):∃ i,∃ h1:i<s.objects.length,∃ h2:i<T.length,f=⟨s.objects[i],T[i]⟩/\s.objects[i].jQ=0/\RN T[i]=true:=by
 unfold wF at h;obtain⟨p,U,rfl⟩:=List.mem_map.1 h;rw[List.mem_filter] at U;obtain⟨i,hi,e⟩:=List.getElem_of_mem U.1;rw[List.length_zip] at hi;have h1:i<s.objects.length:=by omega
 have h2:i<T.length:=by omega
 rw[List.getElem_zip] at e;subst e;have hb:=U.2;unfold AZ at hb;rw[Bool.and_eq_true] at hb;exact⟨i,h1,h2,rfl,of_decide_eq_true hb.1,hb.2⟩
theorem PZ (s:iT)(T:List iM)(ho:s.objects.length<=40):(wF s T).length<=40:=by
 unfold wF;rw[List.length_map];refine Nat.le_trans (List.length_filter_le _ _) ?_;rw[List.length_zip];omega
def RP (c:jY):List Int:=(List.replicate c.options.length 0).set 0 c.n
theorem Yu (c:jY)(hk:c.kind=8)(ho:0<c.options.length)(U:c.options.length<=100):sJ c=some (RP c):=by
 unfold sJ;rw[hk];refine ok_eq (lQ aQ (lQ aQ (lQ aQ (lQ aQ (lQ aQ (lQ aQ (lQ aQ (lQ aQ (oK aQ (iJ (λ_=>?_) λh=>absurd (show (0:Int)<iV c.options by simp only[iV];omega) h))))))))));refine UT (n:=c.options.length) rfl rfl ai ai (uf (oJ 0 rfl ho (oD aT (iK rfl))))
theorem Ui (c:jY):(RP c).length=c.options.length:=by simp[RP]
theorem afI (s:iT)(id:Int)(hs:s.objects.length<=40):Ok (λ_=>True) (vV s id):=by
 have ix:Ok (λr=>-1<=r/\r<(s.objects.length:Int)) (D9 s id):=by
  unfold D9 jF;refine iO (R:=λr=>-1<=r/\r<(s.objects.length:Int)) (lH 0 s.objects.length (λ_=>True) 0 rfl (Nat.zero_le _) ai trivial (λi k hi _ hk=>?_) λk _=>?_) λy hy=>iK hy
  unfold kG;exact iJ (λ_=>jl i rfl hi (iU (x:=decide (s.objects[i].id=id)) rfl (iJ (λ_=>iK ⟨by omega,by omega⟩) λ_=>hk trivial))) λh=>absurd (show (i:Int)<(s.objects.length:Int) by omega) h
  unfold kG;exact iJ (λh=>absurd h az) λ_=>iK ⟨by omega,by omega⟩
 unfold vV;exact iO ix λy hy=>iJ (λ_=>iK trivial) λh=>mM ai hy.2 λ_ _=>iK trivial
theorem ac8 (s:iT)(T:List iM)(id:Int)(hs:s.objects.length<=40):Ok (λ_=>True) (sK s T id):=by
 have ix:Ok (λr=>-1<=r) (jF s.objects λa0=>uj a0 id):=by
  unfold jF;refine lH 0 s.objects.length (λ_=>True) 0 rfl (Nat.zero_le _) ai trivial (λi k hi _ hk=>?_) λk _=>?_
  unfold kG;exact iJ (λ_=>jl i rfl hi (iU (x:=decide (s.objects[i].id=id)) rfl (iJ (λ_=>iK ai) λ_=>hk trivial))) λh=>absurd (show (i:Int)<(s.objects.length:Int) by omega) h
  unfold kG;exact iJ (λh=>absurd h az) λ_=>iK ai
 unfold sK;exact iO ix λy hy=>iJ (λ_=>iK trivial) λ_=>iJ (λ_=>iK trivial) λh=>mM ai (by simp only[iV] at h;omega) λ_ _=>iK trivial
theorem afJ (o:iW)(t:iM)(d:Bool):Ok (λ_=>True) (qj o t d):=by
 unfold qj QH AL;exact iR (λ_=>iK trivial) λ_=>iO (R:=λ_=>True) (iO (R:=λ_=>True) (iK trivial) λ_ _=>iO (R:=λ_=>True) (iK trivial) λ_ _=>iO (R:=λ_=>True) (iK trivial) λ_ _=>iK trivial) λ_ _=>iK trivial
theorem Vh (s:iT)(a:Int)(hs:s.objects.length<=40):Ok (λr=>r.length<=40) (mZ s a):=by
 unfold mZ;refine lK 0 s.objects.length (λi t=>t.length<=i) 0 rfl (Nat.zero_le _) ai (Nat.zero_le _) (λi t k hi hI hk=>?_) λt k hI=>?_
 unfold oh;exact iJ (λ_=>jf (λu=>u.length<=i+1) (λk5 T=>jl i rfl hi (jf (λ_=>True) (λR U=>iJ (λ_=>U _ trivial) λ_=>U _ trivial) λb _=>iR (λ_=>jG aV aX (T _ aT)) λ_=>T _ (by show t.length<=_;omega))) λu hu=>hk u hu) λh=>absurd (show (i:Int)<(s.objects.length:Int) by omega) h
 unfold oh;exact iJ (λh=>absurd h az) λ_=>iK (by show t.length<=40;omega)
theorem Vj (l:List iZ)(hl:l.length<=100000):oL l qC=some (l.filter FC):=by
 have ix:Ok (λr=>(r=-1/\l.filter FC=l)\/∃ i:Nat,r=(i:Int)/\i<l.length/\(l.take (i+1)).filter FC=l.take i) (qx l qC):=by
  unfold qx;refine lH 0 l.length (λn=>(l.take n).filter FC=l.take n) 0 rfl (Nat.zero_le _) ai aI (λi k hi hI hk=>?_) λk hI=>?_
  unfold qH;refine iJ (λ_=>jl i rfl hi (iU (x:=decide (l[i].amount=0)) rfl (iJ (λe=>iK (.inr ⟨i,rfl,hi,?_⟩)) λe=>hk ?_))) λh=>absurd (show (i:Int)<(l.length:Int) by omega) h
  rw[uV l i hi,List.filter_append,hI];simp[FC,e]
  rw[uV l i hi,List.filter_append,hI];simp[FC,e]
  unfold qH;rw[takeA] at hI;exact iJ (λh=>absurd h aB) λ_=>iK (.inl ⟨rfl,hI⟩)
 unfold oL;refine ok_eq (iO ix ?_)
 rintro r (⟨rfl,h⟩|⟨i,rfl,hi,h⟩)
 exact oK aQ (iK h.symm)
 refine iJ (λh=>by omega) λ_=>?_;rw[lC ai]
 refine kW (λy=>∃ j n:Nat,y.1=(j:Int)/\y.2.1=(n:Int)/\j<n/\n<=l.length/\y.2.2.length=l.length/\y.2.2.take j=(l.take n).filter FC/\y.2.2.drop n=l.drop n) (λy=>l.length-y.2.1.toNat)
  ⟨i,i+1,rfl,rfl,by omega,hi,rfl,h.symm,rfl⟩ dL ?_
 rintro⟨j',n',m⟩ k ⟨j,n,e1,e2,hjn,hn,hm,ht,hd⟩ hk
 simp only at e1 e2 hm ht hd;subst e1 e2;unfold tH;refine iJ (λR=>?_) λR=>?_
 have J : n<m.length:=by simp only[iV] at R;omega
 have U:n<l.length:=by omega
 have I:m[n]=l[n]:=by
  have h1:m[n]?=l[n]?:=by
   have a1:(m.drop n)[0]?=m[n]?:=by simp
   have a2:(l.drop n)[0]?=l[n]?:=by simp
   rw[<- a1,<- a2,hd]
  rw[List.getElem?_eq_getElem J,List.getElem?_eq_getElem U] at h1;exact Option.some.inj h1
 have g:m.drop (n+1)=l.drop (n+1):=by
  rw[show n+1=n+1 from rfl,<- List.drop_drop,hd,List.drop_drop]
 refine jf (λy=>∃ j2:Nat,y.1=(j2:Int)/\j2<n+1/\y.2.length=l.length/\y.2.take j2=(l.take (n+1)).filter FC/\y.2.drop (n+1)=l.drop (n+1)) (λk6 h6=>?_) λy hy=>?_
 refine oJ n rfl J (oD J (iU (x:=decide (m[n].amount=0)) rfl (iR (λh0=>?_) λh0=>?_)))
 have C:FC l[n]=true:=by
  rw[<- I];unfold FC
  cases T:decide (m[n].amount=0) with
  | true=>rw[T] at h0;cases h0
  | false=>rfl
 refine oJ j rfl (by show j<m.length;omega) (oD (by show j<m.length;omega) (h6 _ ⟨j+1,lC ai,by omega,by simp[hm],?_,?_⟩))
 show (m.set j m[n]).take (j+1)=_;have hj:j<(m.set j m[n]).length:=by simp;omega
 rw[uV _ j hj,List.take_set_of_le ai,ht,uV l n U,List.filter_append];simp[C,I]
 show (m.set j m[n]).drop (n+1)=_;rw[List.drop_set_of_lt ai];exact g
 have C:FC l[n]=false:=by
  rw[<- I];unfold FC
  cases T:decide (m[n].amount=0) with
  | true=>rfl
  | false=>rw[T] at h0;cases h0
 refine h6 _ ⟨j,rfl,by omega,hm,?_,g⟩;show m.take j=_;rw[ht,uV l n U,List.filter_append];simp[C]
 obtain⟨j2,a1,a2,a3,a4,a5⟩:=hy;refine hk _ ⟨j2,n+1,a1,lC ai,a2,by omega,a3,a4,a5⟩ ?_;show l.length-(jq (n:Int) 1).toNat<l.length-((n:Int)).toNat;rw[lC ai];simp only[Int.toNat_natCast];omega
 have U:n=l.length:=by simp only[iV] at R;omega
 subst U;rw[takeA] at ht;refine UU rfl rfl (by show j<=m.length;omega) (Nat.le_refl _) (uf (UU rfl rfl (Nat.zero_le _) (by show j<=m.length;omega) (iK ?_)));show zo (adt m (0+j) (List.replicate (m.length-j) TP)) (0+0) (j-0)=_;unfold zo adt;have hj:j<=m.length:=by omega
 simp only[Nat.zero_add,Nat.sub_zero,List.drop_zero];rw[List.append_assoc,List.take_append_of_le_length aT,List.take_take,Nat.min_self];exact ht
theorem Y8 (R:jX)(U:pK R):Ok (λr=>True) (LU R):=by
 unfold LU;have z1:=(U).1;have z2:=((U).1);have z3:R.ref.filter.sub.size<=1048576:=(((U).1));have z4:=(U).2.1;have z5:=((U).2.1);have z6:R.amount.filter.sub.size<=1048576:=(((U).2.1));have z7:R.card.size<=1048576:=(U).2.2.1;have z8:=(U).2.2.2.1;have z9:R.filter.sub.size<=1048576:=((U).2.2.2.1);have z10:=((U).2.2.2.2).1;have z11:=((U).2.2.2.2).2;refine jf (λ(s1:Bool)=>s1=false->¬(100<(R.amount.filter.sub.size:Int))/\¬(100<(R.card.size:Int))/\¬(100<(R.filter.sub.size:Int))/\¬(100<(R.ref.filter.sub.size:Int))/\¬(20<(R.mP.length:Int))) (λk2 T=>?_) (λs1 g=>?_)
 apply iJ<;>intro h14
 exact T _ af
 apply iJ<;>intro h15
 exact T _ af
 apply iJ<;>intro h16
 exact T _ af
 apply iJ<;>intro h17
 exact T _ af
 exact T _ af
 apply iR<;>intro h18
 exact gQ
 have hf19:=g h18;refine kW (λ(I:Int)=>0<=I/\I<=(R.mP.length:Int)) (λ(I:Int)=>((R.mP.length:Int)-I).toNat) ⟨ae,ae⟩ ak (λI k5 hI20 hk21=>?_);obtain⟨hI20_0,hI20_1⟩:=hI20;unfold NK;apply iJ<;>intro C
 (try simp only[iV] at C)
 refine jf (λ(s7:Bool)=>True) (λk8 J=>?_) (λs7 hs24=>?_)
 refine mM ae ae (λx10 h25=>?_);have z26:qZ x10:=z11 x10 h25;have z27:x10.sub.size<=1048576:=(z26).1;have z28:=(z26).2;have z29:x10.filter.sub.size<=1048576:=((z26).2);apply iJ<;>intro h30
 exact J _ trivial
 refine mM ae ae (λx11 h31=>?_);have z32:qZ x11:=z11 x11 h31;have z33:x11.sub.size<=1048576:=(z32).1;have z34:=(z32).2;have z35:x11.filter.sub.size<=1048576:=((z32).2);exact J _ trivial
 apply iR<;>intro h36
 exact gQ
 have h37:jq I 1=I+1:=lN ai ai;exact hk21 _ ⟨ae,ae⟩ ae
 (try simp only[iV] at C)
 exact iK trivial
theorem Uj (l:List jX)(U:(rO pK) l):Ok (λr=>True) (zG l):=by
 unfold zG;have z1:=(U).1;have z2:=(U).2;refine kW (λ(T:Int)=>0<=T/\T<=(l.length:Int)) (λ(T:Int)=>((l.length:Int)-T).toNat) ⟨ae,ae⟩ ak (λT k2 I hk4=>?_);obtain⟨J,C⟩:=I;unfold D7;apply iJ<;>intro g
 (try simp only[iV] at g)
 refine mM ae ae (λR h6=>?_);have z7:pK R:=z2 R h6;have z8:=(z7).1;have z9:=((z7).1);have z10:R.ref.filter.sub.size<=1048576:=(((z7).1));have z11:=(z7).2.1;have z12:=((z7).2.1);have z13:R.amount.filter.sub.size<=1048576:=(((z7).2.1));have z14:R.card.size<=1048576:=(z7).2.2.1;have z15:=(z7).2.2.2.1;have z16:R.filter.sub.size<=1048576:=((z7).2.2.2.1);have z17:=((z7).2.2.2.2).1;have z18:=((z7).2.2.2.2).2;refine iO (Y8 _ aW) (λy5 h19=>?_);apply iR<;>intro h20
 exact gQ
 have h21:jq T 1=T+1:=lN ai ai;exact hk4 _ ⟨ae,ae⟩ ae
 (try simp only[iV] at g)
 exact iK trivial
theorem J8 (a:kF)(U:ny a):Ok (λr=>True) (D8 a):=by
 unfold D8;have z1:=(U).1;have z2:a.filter.sub.size<=1048576:=((U).1);have z3:=((U).2.1).1;have z4:=((U).2.1).2;have z5:=(U).2.2.1;have z6:=((U).2.2.1);have z7:a.jg.filter.sub.size<=1048576:=(((U).2.2.1));have z8:=((U).2.2.2.1).1;have z9:=((U).2.2.2.1).2;have z10:=((U).2.2.2.2.1).1;have z11:=((U).2.2.2.2.1).2;have z12:=(U).2.2.2.2.2;have z13:=((U).2.2.2.2.2);have z14:a.replace.filter.sub.size<=1048576:=(((U).2.2.2.2.2));refine jf (λ(s1:Bool)=>s1=false->¬(100<(a.filter.sub.size:Int))/\¬(100<(a.replace.filter.sub.size:Int))/\¬(100<(a.jg.filter.sub.size:Int))/\¬(20<(a.mP.length:Int))/\¬(20<(a.specs.length:Int))) (λk2 T=>?_) (λs1 hs16=>?_)
 apply iJ<;>intro h17
 exact T _ af
 apply iJ<;>intro h18
 (try simp only[iV] at h18)
 exact T _ af
 (try simp only[iV] at h18)
 apply iJ<;>intro h19
 exact T _ af
 apply iJ<;>intro h20
 (try simp only[iV] at h20)
 exact T _ af
 (try simp only[iV] at h20)
 apply iJ<;>intro h21
 exact T _ af
 refine iO (Uj _ ax) (λy4 h22=>?_);exact T _ af
 apply iR<;>intro h23
 exact gQ
 have hf24:=hs16 h23;refine kW (λ(I:Int)=>0<=I/\I<=(a.mP.length:Int)) (λ(I:Int)=>((a.mP.length:Int)-I).toNat) ⟨ae,ae⟩ ak (λI k6 hI25 hk26=>?_);obtain⟨hI25_0,hI25_1⟩:=hI25;unfold NM;apply iJ<;>intro g
 (try simp only[iV] at g)
 refine jf (λ(s8:Bool)=>True) (λk9 J=>?_) (λs8 hs29=>?_)
 refine mM ae ae (λx11 h30=>?_);have z31:qZ x11:=z4 x11 h30;have z32:x11.sub.size<=1048576:=(z31).1;have z33:=(z31).2;have z34:x11.filter.sub.size<=1048576:=((z31).2);apply iJ<;>intro h35
 exact J _ trivial
 refine mM ae ae (λx12 h36=>?_);have z37:qZ x12:=z4 x12 h36;have z38:x12.sub.size<=1048576:=(z37).1;have z39:=(z37).2;have z40:x12.filter.sub.size<=1048576:=((z37).2);exact J _ trivial
 apply iR<;>intro h41
 exact gQ
 have h42:jq I 1=I+1:=lN ai ai;exact hk26 _ ⟨ae,ae⟩ ae
 (try simp only[iV] at g)
 refine kW (λ(R:Int)=>0<=R/\R<=(a.specs.length:Int)) (λ(R:Int)=>((a.specs.length:Int)-R).toNat) ⟨ae,ae⟩ ak (λR k14 hI43 hk44=>?_);obtain⟨hI43_0,hI43_1⟩:=hI43;unfold NL;apply iJ<;>intro C
 (try simp only[iV] at C)
 refine mM ae ae (λx16 h46=>?_);have z47:EE x16:=z9 x16 h46;have z48:=(z47);have z49:x16.filter.sub.size<=1048576:=((z47));apply iJ<;>intro h50
 exact gQ
 have h51:jq R 1=R+1:=lN ai ai;exact hk44 _ ⟨ae,ae⟩ ae
 (try simp only[iV] at C)
 exact iK trivial
theorem Y9 (m:List nN)(h:rO qZ m):ny (kF.mk 0 qL m TN false GZ false ([]) ([]) G5):=by
 simp[ny,oC,DY,xE,rO,Me,qL,GZ,G5,oZ,h]<;>exact h
theorem Za (s:iT)(U:kQ s):Ok (λr=>True) (LV s):=by
 obtain⟨p1,p2,p3,p4,p5,p6,p7,p8⟩:=U;have q1:=p1.1;have g:=p5.1;have C:=p6.1;have I:=p7.1
 have R:Ok (λr=>True) (jw (Ci s) 0):=by
  refine lH 0 s.oq.length (λ_=>True) 0 rfl (Nat.zero_le _) ai trivial (λi k hi _ hk=>?_) λk _=>?_
  unfold Ci;refine oK dV (jf (λ_=>True) (λk2 h2=>?_) λb _=>?_)
  refine jl i rfl hi (iR (λ_=>h2 _ trivial) λ_=>jl i rfl hi (iO (J8 _ (Y9 _ (p7.2 _ (List.getElem_mem hi)).2)) λy _=>h2 _ trivial))
  exact iR (λ_=>iK trivial) λ_=>hk trivial
  unfold Ci;exact lQ fM (iK trivial)
 have J:Ok (λr=>True) (jw (Cj s) 0):=by
  refine lH 0 s.waiting.length (λ_=>True) 0 rfl (Nat.zero_le _) ai trivial (λi k hi _ hk=>?_) λk _=>?_
  unfold Cj;exact oK dV (jl i rfl hi (iO (J8 _ (p6.2 _ (List.getElem_mem hi))) λy _=>iR (λ_=>iK trivial) λ_=>hk trivial))
  unfold Cj;exact lQ fM R
 have T:Ok (λr=>True) (jw (Cm s) 0):=by
  refine lH 0 s.stack.length (λ_=>True) 0 rfl (Nat.zero_le _) ai trivial (λi k hi _ hk=>?_) λk _=>?_
  unfold Cm;refine oK dV (jf (λ_=>True) (λk2 h2=>?_) λb _=>?_)
  refine jl i rfl hi (iR (λ_=>h2 _ trivial) λ_=>jl i rfl hi (iO (J8 _ (p5.2 _ (List.getElem_mem hi)).1) λy _=>h2 _ trivial))
  exact iR (λ_=>iK trivial) λ_=>hk trivial
  unfold Cm;exact lQ fM J
 unfold LV;refine uf (uf ?_);refine ve 0 s.ji.length (λ_ _=>True) 0 rfl (Nat.zero_le _) ai trivial (λi t k hi _ hk=>?_) λt k _=>?_
 unfold Gu;refine jf (λ_=>True) (λk2 h2=>iR (λ_=>h2 _ trivial) λ_=>h2 _ trivial) λb _=>iR (λ_=>jl i rfl hi (jl i rfl hi (jl i rfl hi (uf (hk _ trivial))))) λ_=>jf (λ_=>True) (λk2 h2=>iR (λ_=>h2 _ trivial) λ_=>h2 _ trivial) λb _=>iR (λ_=>iK trivial) λ_=>T
 unfold Gu;refine jf (λb=>b=false) (λk2 h2=>lQ fM (h2 _ rfl)) λb hb=>?_;subst hb;exact lQ rfl (jf (λ_=>True) (λk2 h2=>iR (λ_=>h2 _ trivial) λ_=>h2 _ trivial) λb _=>iR (λ_=>iK trivial) λ_=>T)
theorem LY {t:iM}{first:Bool}(h:yA t first=true):0<t.power:=by
 unfold yA at h;rw[Bool.and_eq_true] at h;exact of_decide_eq_true h.1
theorem abr (x:nI)(I:rO mY x.cards)(hs:kQ x.s):Ok (λb=>b=true->aoT x) (Ad x):=by
 have no:∀ {p:Prop},((false:Bool)=true->p):=λe=>by cases e
 have yes:∀ {p:Prop},((true:Bool)=false->p):=λe=>by cases e
 unfold Ad;refine jf (λb=>b=false->x.s.objects.length<=40/\x.answers.length<=20) (λk2 h2=>?_) (λb hb=>iR (λ_=>iK no) λe=>?_)
 exact iJ (λ_=>h2 _ yes) λ_=>iJ (λ_=>h2 _ yes) λR=>iJ (λ_=>h2 _ yes) λ_=>iJ (λ_=>h2 _ yes) λT=>iO (Za x.s hs) λy _=>iR (λ_=>h2 _ yes) λ_=>iJ (λ_=>h2 _ yes) λ_=>h2 _ λ_=>⟨by simp only[iV] at R;omega,by simp only[iV] at T;omega⟩
 obtain⟨ho,U⟩:=hb e;refine lH 0 x.answers.length (λi=>∀ a∈x.answers.take i,a.length<=50) 0 rfl (Nat.zero_le _) ai aI (λi k hi hI hk=>?_) λk hI=>?_
 unfold EG;refine iJ (λ_=>jl i rfl hi (iJ (λ_=>iK no) λh=>hk ?_)) λh=>absurd (show (i:Int)<(x.answers.length:Int) by omega) h;intro a U;rw[uV _ i hi] at U;rcases List.mem_append.1 U with U|U
 exact hI a U
 rw[List.mem_singleton.1 U];simp only[iV] at h;omega
 rw[List.take_length] at hI;unfold EG;refine iJ (λh=>absurd h (by show ¬ (x.answers.length:Int)<(x.answers.length:Int);omega)) λ_=>iO (Vg x.cards I) λy9 g=>iJ (λe=>?_) λ_=>iK no;obtain⟨y2,J,_⟩:=aji x.cards x.s I hs;refine iU J (iK λC=>⟨ho,U,hI,by rw[C] at J;exact J,g e⟩)
theorem sT71 {cs:List PV}(h:Sn Tryz.prog 1048576 71 cs):∃ x:List (List Int),cs=[.sl 1 (jT.m (List Int) (eL jT 1 (eI .i64)) x) false]/\anu x:=by
 obtain⟨I,e,h1,h2⟩:=h.qB Tryz.underlying71;have T:Tryz.prog.cellsOf 42=1:=by kernel_rfl
 rw[T] at e;obtain⟨l,R,U,J⟩:=vg λr hr=>ac4 (h1 r hr);exact⟨l,by rw[e,R];rfl,by omega,U⟩
theorem sT73 {cs:List PV}(h:Sn Tryz.prog 1048576 73 cs):∃ x:nI,cs=(oQ jT) x/\anv x:=by
 have h:=h.l7 Tryz.underlying73;obtain⟨n0,b0,rfl,w0,h⟩:=h.cs ani;obtain⟨n1,I,rfl,U,h⟩:=h.cs anq;obtain⟨J,C,rfl,R,h⟩:=h.cs sT71;obtain⟨n3,b3,rfl,T,h⟩:=h.cs sT4;obtain rfl:=h.mO;exact⟨⟨n0,n1,J,n3⟩,rfl,w0,U,R,T⟩
theorem anA {p:PV}(h:SnV Tryz.prog 1048576 73 p):∃ x:nI,p=.agg ((oQ jT) x)/\anv x:=by
 obtain⟨cs,rfl,h2⟩:=h.Wx aH;obtain⟨x,rfl,hx⟩:=sT73 h2;exact⟨x,rfl,hx⟩
end Go.Proofs.YtlacmdnhabblcaaGreat
