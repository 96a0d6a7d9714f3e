import Derived.Test.YtlacmdnhabblcaaGreatB38
import Derived.Test.YtlacmdnhabblcaaGreatB47
set_option linter.all false
namespace Go.Proofs.YtlacmdnhabblcaaGreat
open Go Go.Pv
set_option maxRecDepth 100000
theorem ak2 {t:iM}(h:qX t)(j:Nat)(hj:j<63):decide (kz .and .i64 t.keys ((2 ^ j:Nat):Int)=0)=!hasB t.keys j:=by
 have hk:=h.k;obtain⟨m,U⟩:=Int.eq_ofNat_of_zero_le hk.1;have:=Uf m j ai hj;unfold hasB;rw[U,this,Int.toNat_natCast]
 by_cases h:m / 2 ^ j % 2=1
 rw[if_pos h,decide_eq_true h];have:(0:Nat)<2 ^ j:=Nat.pow_pos ai;rw[decide_eq_false ai];rfl
 rw[if_neg h,decide_eq_false h];rfl
theorem agB (l:List Int)(i:Nat)(hi:i<l.length):I5 (l.take (i+1))=I5 (l.take i)+l[i]:=by
 unfold I5;rw[uV l i hi,List.foldl_append];rfl
theorem ajo (c:jY)(a:List Int)(hk:c.kind=8)(R:a.length<=50):Ok (λr=>r=true->a.length=c.options.length) (AP c a):=by
 have U:Ok (λr=>r=true->a.length=c.options.length) (uF c a):=by
  unfold uF;refine ve 0 a.length (λ_ _=>True) 0 rfl (Nat.zero_le _) ai trivial (λi t k hi _ hk=>?_) λt k _=>?_
  unfold wR;refine iJ (λ_=>jl i rfl hi (jf (λ_=>True) (λk6 T=>iJ (λ_=>T _ trivial) λ_=>T _ trivial) λb _=>iR (λ_=>iK λh=>by cases h) λ_=>hk _ trivial)) λh=>absurd (show (i:Int)<(a.length:Int) by omega) h
  unfold wR;refine iJ (λh=>absurd h bV) λ_=>iJ (λh=>iK λ_=>?_) λ_=>iK λh=>by cases h
  simp only[iV] at h;omega
 unfold AP;rw[hk];refine iJ (λ_=>iK λh=>by cases h) λ_=>lQ aQ (lQ aQ (lQ aQ (lQ aQ (lQ aQ (lQ aQ (lQ aQ (lQ aQ (lQ aQ (lQ aQ (oK aQ (iO U λy hy=>iK hy)))))))))))
theorem afM (c:jY)(hk:c.kind=8):IE c=some (decide ((c.options.length:Int)<=1)):=by
 unfold IE;rw[hk];refine ok_eq (lQ aQ (lQ aQ (lQ aQ (lQ aQ (lQ aQ (lQ aQ (oK aQ (iK rfl))))))))
theorem ada (k:jy)(c:jY)(hk:c.kind=8)(ho:0<c.options.length)(C:c.options.length<=100)(K:KOK k):Ok (λr=>KOK r.2/\r.1.length=c.options.length) (pJ k c):=by
 have J:=Yu c hk ho C;have kl:=K.len;have ku:=K.used;unfold pJ;refine jf (λ_=>True) (λk2 h2=>iR (λ_=>h2 _ trivial) λ_=>iR (λ_=>h2 _ trivial) λ_=>iU (afM c hk) (h2 _ trivial)) λb _=>?_;refine iR (λ_=>iU J (iK ⟨K,Ui c⟩)) λ_=>iJ (λ_=>?_) λI=>?_
 refine iO (R:=λr=>r=c.options) (by unfold lY;exact jG ai ai (iK rfl)) λy hy=>?_;subst hy;exact iU J (iK ⟨⟨K.len,K.each,K.used⟩,Ui c⟩)
 simp only[iV] at I;obtain⟨n,g⟩:=Int.eq_ofNat_of_zero_le ku.1;have T:n<k.answers.length:=by omega
 have he:=K.each _ (List.getElem_mem T);have U:jq k.used 1=k.used+1:=lN ai ai;refine jl n g T (iO (ajo c _ hk he) λy hy=>iR (λ_=>iU J (iK ⟨⟨K.len,K.each,by show 0<=jq k.used 1/\jq k.used 1<=(k.answers.length:Int);rw[U];omega⟩,Ui c⟩)) λh=>?_);refine iO (R:=λr=>r=k.answers[n]) dJ λz hz=>?_;subst hz;exact iK ⟨⟨K.len,K.each,by show 0<=jq k.used 1/\jq k.used 1<=(k.answers.length:Int);rw[U];omega⟩,hy bI⟩
theorem adb (U l:List Int)(sum:Int)(tr:Bool)(hn:U.length<=100)(hl:l.length<=200)(hs:0<=sum/\sum<9223372036854775808):Ok (λr=>r=true->l.length=U.length+(if tr then 1 else 0)/\(∀ x∈l,0<=x)/\I5 l=sum) (pR U l sum tr):=by
 unfold pR;refine jf (λx=>x=((U.length+(if tr then 1 else 0):Nat):Int)) (λk hk=>iR (λh=>hk _ ?_) λh=>hk _ ?_) λx hx=>?_
 rw[if_pos h];exact lC ai
 rw[if_neg dK];rfl
 subst hx;refine lI (λ_=>iK λh=>by cases h) λhlen=>?_;simp only[iV] at hlen;refine kW (λy=>∃ i:Nat,y.2.1=(i:Int)/\i<=l.length/\(∀ x∈l.take i,0<=x)/\y.2.2=sum-I5 (l.take i)/\0<=y.2.2/\y.2.2<=sum) (λy=>l.length-y.2.1.toNat) ⟨0,rfl,Nat.zero_le _,by simp,by simp[I5],hs.1,Int.le_refl _⟩ dL ?_
 rintro⟨ok,ix,left⟩ k ⟨i,e,hi,h1,h2,h3,h4⟩ hk
 simp only at e h2 h3 h4;subst e;unfold oV;refine iJ (λh=>?_) λh=>iK λh5=>?_
 have T : i<l.length:=by simp only[iV] at h;omega
 refine jf (λy=>y.2=sum-I5 (l.take (i+1))/\0<=y.2/\y.2<=sum/\0<=l[i]) (λk8 h8=>?_) λy hy=>hk _ ⟨i+1,lC ai,T,λx hx=>?_,hy.1,hy.2.1,hy.2.2.1⟩ ?_
 refine jl i rfl T (jf (λy=>y.1=false->y.2=left-l[i]/\0<=l[i]/\l[i]<=left) (λk12 J=>?_) λy hy=>?_)
 refine iO (R:=λr=>r.1=true->r.2=left-l[i]/\0<=l[i]/\l[i]<=left) ?_ λr hr=>iR (λ_=>J _ λh=>by cases h) λh=>iJ (λ_=>J _ λ_=>hr dX) λ_=>J _ λ_=>hr dX;unfold oI
 refine iJ (λ_=>iK λh=>by cases h) λg1=>iJ (λ_=>iK λh=>by cases h) λg2=>iK λ_=>(by
  simp only at g1 g2;refine⟨?_,by omega,by omega⟩;show jS left l[i]=left-l[i];exact qW ai ai)
 refine iR (λ_=>iK λh=>by cases h) λh=>?_;obtain⟨g1,g2,g3⟩:=hy h;have I:=agB l i T;have fin:∀ b:Bool,Ok _ (k8 (b,y.2)):=λb=>h8 _ ⟨by show y.2=_;rw[g1,I,h2];omega,by show 0<=y.2;omega,by show y.2<=sum;omega,g2⟩;exact jf (λ_=>True) (λk16 C=>iJ (λg=>jl i rfl (by simp only[iV] at g;omega) (C _ trivial)) λ_=>C _ trivial) λb _=>iR (λ_=>fin _) λ_=>fin _
 rw[uV l i T] at hx;rcases List.mem_append.1 hx with hx|hx
 exact h1 x hx
 rw[List.mem_singleton.1 hx];exact hy.2.2.2
 show l.length-(jq (i:Int) 1).toNat<l.length-((i:Int)).toNat;rw[lC ai];simp only[Int.toNat_natCast];omega
 have hil:i=l.length:=by simp only[iV] at h;omega
 subst hil;rw[takeA] at h1 h2;have h5:left=0:=of_decide_eq_true h5;exact⟨by omega,h1,by omega⟩
theorem P9 (k:jy)(s:iT)(T:List iM)(f:iP)(hs:s.objects.length<=40)(K:KOK k)(O:qX f.t)(hp:0<f.t.power):Ok (aoS f) (qE k s T f):=by
 have k7:kZ f.t.keys 128=some (hasB f.t.keys 7):=abq O 7 ai;have k4:kZ f.t.keys 16=some (hasB f.t.keys 4):=abq O 4 ai;have hpt:=O.pt;unfold qE;refine iO (Vh s f.o.id hs) λy1 hy1=>?_;refine lK 0 y1.length (λn t=>t.1.length=n/\t.2.length=n) 0 rfl (Nat.zero_le _) ai ⟨rfl,rfl⟩ (λn t k3 hn hI hk=>?_) λt k3 hI=>?_
 obtain⟨t1,t2⟩:=t;obtain⟨i1,i2⟩:=hI;simp only at i1 i2;unfold qR;exact iJ (λ_=>jl n rfl hn (iO (afI s _ hs) λ_ _=>uf (jG (by show (2*(t1.length+1)+192)*24<=_;omega) gz (iO (ac8 s T _ hs) λ_ _=>iU k7 (iO (afJ _ _ _) λ_ _=>jG (by show (2*(t2.length+1)+192)*8<=_;omega) gB (hk _ ⟨by simp[i1],by simp[i2]⟩)))))) λh=>absurd (show (n:Int)<(y1.length:Int) by omega) h
 obtain⟨opts,J⟩:=t;obtain⟨i1,i2⟩:=hI;simp only at i1 i2;unfold qR;refine iJ (λh=>absurd h (by show ¬ (y1.length:Int)<(y1.length:Int);omega)) λ_=>iU k4 ?_;refine jf (λo=>o.length=J.length+(if hasB f.t.keys 4 then 1 else 0)) (λk13 I=>iR (λh=>uf (jG (by show (2*(opts.length+1)+192)*24<=_;omega) (by show opts.length+1<=_;omega) (I _ gq))) λh=>I _ eU) λo ho=>?_;have hol:o.length<=41:=by rw[ho];split<;>omega
 refine iJ (λ_=>iK ⟨K,by simp,λe he=>by simp at he,.inl rfl⟩) λhne=>?_;simp only[iV] at hne;refine iO (ada k (jY.mk 8 f.t.control f.o.id 0 0 f.t.power o) rfl (by show 0<o.length;omega) gG K) λU g=>?_;obtain⟨K2,hlen⟩:=g;have hlen:U.1.length=o.length:=hlen;refine iO (adb J U.1 f.t.power (hasB f.t.keys 4) ai ai ai) λy17 hy17=>iR (λ_=>iK ⟨K2,by simp,λe he=>by simp at he,.inl rfl⟩) λh=>?_;obtain⟨g1,g2,g3⟩:=hy17 (by cases y17 with|true=>rfl|false=>cases h);refine lK 0 o.length (λn l=>l.length=n/\Yp f.o.id l/\(l.map λe=>e.amount)=U.1.take n) 0 rfl (Nat.zero_le _) ai ⟨rfl,λe he=>by simp at he,by simp⟩ (λn l k19 hn hI hk=>?_) λl k19 hI=>?_
 obtain⟨j1,j2,j3⟩:=hI;have R:n<U.1.length:=by omega
 have step:∀ e:iZ,e.kind=1/\e.source=f.o.id/\e.Ib=true/\e.amount=U.1[n]->(l++[e]).length=n+1/\Yp f.o.id (l++[e])/\((l++[e]).map λe=>e.amount)=U.1.take (n+1):=by
  rintro e ⟨e1,e2,e3,e4⟩
  refine⟨by simp[j1],λx hx=>?_,?_⟩
  rcases List.mem_append.1 hx with hx|hx
  exact j2 x hx
  rw[List.mem_singleton.1 hx];exact⟨e1,e2,e3,by rw[e4];exact g2 _ (List.getElem_mem R)⟩
  rw[List.map_append,j3,uV _ n R];simp[e4]
 unfold pW;refine iJ (λ_=>jf (λu=>u.length=n+1/\Yp f.o.id u/\(u.map λe=>e.amount)=U.1.take (n+1)) (λk22 C=>?_) λu hu=>hk u hu) λh=>absurd (show (n:Int)<(o.length:Int) by omega) h;refine oJ n rfl hn (oD hn (iJ (λ_=>oJ n rfl R (oD R (iU (x:=D6 f.o.id 0 o[n].a U.1[n]) rfl (jG dn fF (C _ (step _ ⟨rfl,rfl,rfl,rfl⟩)))))) λ_=>oJ n rfl R (oD R (iU (x:=D6 f.o.id o[n].a 0 U.1[n]) rfl (jG dn fF (C _ (step _ ⟨rfl,rfl,rfl,rfl⟩)))))))
 obtain⟨j1,j2,j3⟩:=hI;unfold pW;refine iJ (λh=>absurd h (by show ¬ (o.length:Int)<(o.length:Int);omega)) λ_=>iK ⟨K2,by show l.length<=41;omega,j2,.inr ?_⟩;show I5 (l.map λe=>e.amount)=_;rw[j3,<- hlen,takeA];exact g3
theorem aaf (k:jy)(s:iT)(T:List iM)(first:Bool)(hT:T.length=s.objects.length)(hO:∀ t∈T,qX t)(ho:s.objects.length<=40)(K:KOK k):Ok (EvR first (wF s T)) (sN k s T first):=by
 have hL:=PZ s T ho
 have hm:∀ f∈wF s T,qX f.t:=λf O=>by
  obtain⟨i,h1,h2,rfl,_,_⟩:=LX O;exact hO _ (List.getElem_mem h2)
 unfold sN;refine iU (PY s T hT hO ho) ?_;revert hL hm;generalize wF s T=L;intro hL hm;refine kW (λu:jy×Int×List iZ=>KOK u.1/\∃ i:Nat,u.2.1=(i:Int)/\i<=L.length/\Parts (A1 first) (L.take i) u.2.2) (λu=>((L.length:Int)-u.2.1).toNat) ⟨K,0,rfl,Nat.zero_le _,.nil⟩ dY ?_
 rintro⟨k1,i0,out⟩ kk ⟨K1,i,hi0,hi,hP⟩ hk
 dsimp only at K1 hi0 hi hP hk;subst hi0;have hlen:=hP.len;rw[List.length_take] at hlen;have hout:out.length<=1640:=by omega
 unfold yV;refine iJ (λh=>?_) (λh=>?_)
 have R : i<L.length:=by simp only[iV] at h;omega
 refine jf (λu:jy×List iZ=>KOK u.1/\Parts (A1 first) (L.take (i+1)) u.2) (λk6 h6=>?_) (λu hu=>hk (u.1,jq (i:Int) 1,u.2) ⟨hu.1,i+1,lC ai,by omega,hu.2⟩ cu);have hLi:=hm _ (List.getElem_mem R);have sk:Parts (A1 first) (L.take (i+1)) out:=by rw[uV L i R];exact hP.skip _
 have J:∀ l,Part (A1 first) L[i] l->Parts (A1 first) (L.take (i+1)) (out++l):=λl hl=>by rw[uV L i R];exact .snoc hP hl
 refine jl i rfl R (jf (λb:Bool=>b=false->A1 first L[i]) (λk10 h10=>iJ (λ_=>h10 _ λe=>by cases e) λha=>iU (LW _ first hLi) (h10 _ λe=>⟨by omega,by simpa using e⟩)) λb hb=>?_);refine iR (λ_=>h6 _ ⟨K1,sk⟩) λI=>?_;have hA:=hb I;have hp:=LY hA.2;refine iR (λ_=>iU (x:=D6 L[i].o.id 0 L[i].o.lG L[i].t.power) rfl (jG dN gu (h6 _ ⟨K1,J _ (Part.one _ _ ai hA)⟩))) λ_=>?_;refine iO (P9 k1 s T L[i] ho K1 hLi hp) λy hy=>iR (λ_=>iK ⟨λ_=>rfl,λe=>(by cases e),hy.k⟩) λ_=>?_;have:=hy.len;exact jG dC eX (h6 _ ⟨hy.k,J _ ⟨hy.evs,hy.len,hy.sum.imp id λe=>⟨e,hA⟩⟩⟩)
 have hiL:i=L.length:=by simp only[iV] at h;omega
 have hP1:Parts (A1 first) L out:=by rw[hiL,List.take_length] at hP;exact hP
 refine lK 0 L.length (λj t=>∃ o2,t=out++o2/\Parts (A2 first) (L.take j) o2) 0 rfl (Nat.zero_le _) ai ⟨[],by simp,.nil⟩ (λj t k2 hj hJ hk2=>?_) λt k2 hJ=>?_
 obtain⟨o2,rfl,U⟩:=hJ;have g:=U.len;rw[List.length_take] at g;have ho2:o2.length<=1640:=by omega
 have hLj:=hm _ (List.getElem_mem hj);have sk:Parts (A2 first) (L.take (j+1)) o2:=by rw[uV L j hj];exact U.skip _
 have J:∀ l,Part (A2 first) L[j] l->Parts (A2 first) (L.take (j+1)) (o2++l):=λl hl=>by rw[uV L j hj];exact .snoc U hl
 unfold sQ;refine iJ (λ_=>jf (λu=>∃ o2,u=out++o2/\Parts (A2 first) (L.take (j+1)) o2) (λk19 C=>?_) λu hu=>hk2 u hu) λh=>absurd (show (j:Int)<(L.length:Int) by omega) h;refine jl j rfl hj (jf (λb:Bool=>b=false->A2 first L[j]) (λk23 h23=>iJ (λ_=>h23 _ λe=>by cases e) λha=>iU (LW _ first hLj) (h23 _ λe=>⟨ha,by simpa using e⟩)) λb hb=>?_);refine iR (λ_=>C _ ⟨o2,rfl,sk⟩) λI=>?_;have hA:=hb I;have hp:=LY hA.2;refine iO (afI s _ ho) λy _=>jf (λ_=>True) (λk28 h28=>iR (λ_=>h28 _ trivial) λ_=>h28 _ trivial) λc _=>iR (λ_=>?_) λ_=>C _ ⟨o2,rfl,sk⟩;exact iU (x:=D6 L[j].o.id y.1.id 0 L[j].t.power) rfl (jG (by show (2*((out++o2).length+1)+192)*112<=_;rw[List.length_append];omega) (by show (out++o2).length+1<=_;rw[List.length_append];omega) (C _ ⟨o2++[D6 L[j].o.id y.1.id 0 L[j].t.power],by simp,J _ (Part.one _ _ ai hA)⟩))
 obtain⟨o2,rfl,U⟩:=hJ;have g:=U.len;rw[List.take_length] at U g;unfold sQ;refine iJ (λh=>absurd h dh) λ_=>iU (Vj _ (by rw[List.length_append];omega)) (iK ⟨λe=>(by cases e),λ_=>⟨out,o2,hP1,U,rfl⟩,K1⟩)
theorem ajp (l:List (List Int))(h:l.length<=20)(he:∀ a∈l,a.length<=50):Ok KOK (EJ l):=by
 unfold EJ;refine lK 0 l.length (λi t=>t.length=i/\∀ a∈t,a.length<=50) 0 rfl (Nat.zero_le _) ai ⟨rfl,by simp⟩ (λi t k hi hI hk=>?_) λt k hI=>?_
 obtain⟨h1,h2⟩:=hI;have:=he _ (List.getElem_mem hi);unfold Eb;refine iJ (λ_=>jl i rfl hi (iO (R:=λr=>r=l[i]) dJ λy hy=>?_)) λh=>absurd (show (i:Int)<(l.length:Int) by omega) h;subst hy;refine jG (by show (2*(t.length+1)+192)*24<=_;omega) aX (hk _ ⟨by simp[h1],λa U=>?_⟩);rcases List.mem_append.1 U with U|U
 exact h2 a U
 rw[List.mem_singleton.1 U];exact this
 obtain⟨h1,h2⟩:=hI;unfold Eb;exact iJ (λh=>absurd h aB) λ_=>iK ⟨by show t.length<=20;omega,h2,by show (0:Int)<=0/\(0:Int)<=(t.length:Int);omega⟩
end Go.Proofs.YtlacmdnhabblcaaGreat
