import Derived.Test.YtlacmdnhabblcaaGreatB38
import Derived.Test.YtlacmdnhabblcaaGreatB77
import Derived.Test.YtlacmdnhabblcaaGreatB81
set_option linter.all false
namespace Go.Proofs.YtlacmdnhabblcaaGreat
open Go Go.Pv
set_option maxRecDepth 100000
theorem agN {l:List kD}(h:l.length<=1048576):vF l=some l:=ok_eq (QX (jG ai ai (iK rfl)))
theorem RS {l:List Int}(h:l.length<=1048576):slices_Clone_int l=some l:=ok_eq (QX (jG ai ai (iK rfl)))
theorem agO {l:List iW}(h:l.length<=1048576):vG l=some l:=ok_eq (QX (jG ai ai (iK rfl)))
theorem ak9 {l:List ou}(h:l.length<=1048576):xq l=some l:=ok_eq (QX (jG ai ai (iK rfl)))
theorem ala {l:List qM}(h:l.length<=1048576):xu l=some l:=ok_eq (QX (jG ai ai (iK rfl)))
theorem agP {l:List jX}(h:l.length<=1048576):vH l=some l:=ok_eq (QX (jG ai ai (iK rfl)))
theorem aeK {l:List nN}(h:l.length<=1048576):qg l=some l:=ok_eq (QX (jG ai ai (iK rfl)))
theorem agQ {l:List rF}(h:l.length<=1048576):vJ l=some l:=ok_eq (QX (jG ai ai (iK rfl)))
theorem aeL {l:List kT}(h:l.length<=1048576):uH l=some l:=ok_eq (QX (jG ai ai (iK rfl)))
theorem alb {l:List pI}(h:l.length<=1048576):xw l=some l:=ok_eq (QX (jG ai ai (iK rfl)))
theorem NU {α:Type}{l:List α}{i:Nat}(h:i<l.length):l.set i l[i]=l:=List.set_getElem_self h
theorem anM {e:jX}(h:pK e):e.mP.length<=1048576:=h.2.2.2.2.1
theorem Qc (a:kF)(U:ny a):sU a=some a:=by
 have h1:a.mP.length<=1048576:=U.2.1.1;have h2:a.specs.length<=1048576:=U.2.2.2.1.1;have R:a.nR.length<=1048576:=U.2.2.2.2.1.1;unfold sU;refine ok_eq (iU (aeK h1) (iU (ala h2) (iU (agP R) ?_)));refine lK 0 a.nR.length (λ_ t=>t=a.nR) 0 rfl (Nat.zero_le _) ai rfl ?_ ?_
 rintro i t k hi rfl hk
 have T:=anM (U.2.2.2.2.1.2 _ (List.getElem_mem hi));unfold vI;exact iJ (λ_=>oJ i rfl hi (oD hi (iU (aeK T) (oJ i rfl hi (oD hi (hk _ (NU hi))))))) λh=>absurd (show (i:Int)<(a.nR.length:Int) by omega) h
 rintro t k rfl
 unfold vI;exact iJ (λh=>absurd h dZ) λ_=>iK rfl
theorem Zh (p:kD)(U:AA p):wS p=some p:=by
 unfold wS;exact ok_eq (iU (RS U.1.1) (iU (RS U.2.1.1) (iU (RS U.2.2.1) (iK rfl))))
theorem aby (s:iT)(hs:kQ s):Mc s=some s:=by
 obtain⟨p1,p2,p3,p4,p5,p6,p7,p8⟩:=hs;have q1:=p1.1;have q2:=p2.1;have I:=p3.1;have U:=p4.1;have C:=p5.1;have R:=p6.1;have T:=p7.1;have J:=p8.1;unfold Mc;refine ok_eq (iU (agN q1) ?_);refine lK 0 s.ji.length (λ_ t=>t=s.ji) 0 rfl (Nat.zero_le _) ai rfl ?_ ?_
 rintro i t k hi rfl hk
 unfold GL;exact iJ (λ_=>oJ i rfl hi (oD hi (iU (Zh _ (p1.2 _ (List.getElem_mem hi))) (oJ i rfl hi (oD hi (hk _ (NU hi))))))) λh=>absurd (show (i:Int)<(s.ji.length:Int) by omega) h
 rintro t _ rfl
 unfold GL;refine iJ (λh=>absurd h dm) λ_=>?_;refine iU (agO q2) (iU (RS I) (iU (RS U) (iU (ak9 C) ?_)));refine lK 0 s.stack.length (λ_ t=>t=s.stack) 0 rfl (Nat.zero_le _) ai rfl ?_ ?_
 rintro i t k hi rfl hk
 have z:=p5.2 _ (List.getElem_mem hi);have ht:(s.stack[i]).targets.length<=1048576:=z.2.1;unfold GK;refine iJ (λ_=>oJ i rfl hi (oD hi (iU (Qc _ z.1) (oJ i rfl hi (oD hi (oJ i rfl hi ?_)))))) λh=>absurd (show (i:Int)<(s.stack.length:Int) by omega) h;have e:s.stack.set i { s.stack[i] with jd:=(s.stack[i]).jd }=s.stack:=NU hi;simp only[e];exact oD hi (iU (agQ ht) (oJ i rfl hi (oD hi (hk _ (NU hi)))))
 rintro t _ rfl
 unfold GK;refine iJ (λh=>absurd h (by show ¬ (s.stack.length:Int)<(s.stack.length:Int);omega)) λ_=>?_;refine iU (aeL R) ?_;refine lK 0 s.waiting.length (λ_ t=>t=s.waiting) 0 rfl (Nat.zero_le _) ai rfl ?_ ?_
 rintro i t k hi rfl hk
 have z:ny (s.waiting[i]).jd:=p6.2 _ (List.getElem_mem hi);unfold GI;exact iJ (λ_=>oJ i rfl hi (oD hi (iU (Qc _ z) (oJ i rfl hi (oD hi (hk _ (NU hi))))))) λh=>absurd (show (i:Int)<(s.waiting.length:Int) by omega) h
 rintro t _ rfl
 unfold GI;refine iJ (λh=>absurd h (by show ¬ (s.waiting.length:Int)<(s.waiting.length:Int);omega)) λ_=>?_;refine iU (alb T) ?_;refine lK 0 s.oq.length (λ_ t=>t=s.oq) 0 rfl (Nat.zero_le _) ai rfl ?_ ?_
 rintro i t k hi rfl hk
 have z:=p7.2 _ (List.getElem_mem hi);have z1:(s.oq[i]).objects.length<=1048576:=z.1.1;have z2:(s.oq[i]).mP.length<=1048576:=z.2.1;unfold GH;refine iJ (λ_=>oJ i rfl hi (oD hi (iU (RS z1) (oJ i rfl hi (oD hi (oJ i rfl hi ?_)))))) λh=>absurd (show (i:Int)<(s.oq.length:Int) by omega) h;have e:s.oq.set i { s.oq[i] with objects:=(s.oq[i]).objects }=s.oq:=NU hi;simp only[e];exact oD hi (iU (aeK z2) (oJ i rfl hi (oD hi (hk _ (NU hi)))))
 rintro t _ rfl
 unfold GH;refine iJ (λh=>absurd h eY) λ_=>?_;exact iU (RS J) (iK rfl)
theorem agR (T L:List Int)(p:Int)(tr:Bool)(n:Nat)(C:L=(List.replicate n 0).set 0 p)(hn:n=T.length+(if tr then 1 else 0))(hn0:0<n)(hn2:n<=200)(hp:0<p/\p<9223372036854775808):pR T L p tr=some true:=by
 have hlen:L.length=n:=by rw[C];simp
 have g0:∀ h:0<L.length,L[0]=p:=by intro h;subst C;simp
 have g1:∀ i (h:i<L.length),0<i->L[i]=0:=by
  intro i h hi;subst C;rw[List.getElem_set_ne ai];simp
 clear C;unfold pR;refine ok_eq (jf (λx=>x=((n:Nat):Int)) (λk hk=>iR (λh=>hk _ ?_) λh=>hk _ ?_) λx hx=>?_)
 rw[hn,if_pos h];exact lC (by rw[if_pos h] at hn;omega)
 rw[hn,if_neg dK];rfl
 subst hx;refine lI (λh=>absurd (by simp only[iV];rw[hlen]) h) λ_=>?_;refine kW (λy:Bool×Int×Int=>∃ i:Nat,y.2.1=(i:Int)/\i<=n/\((i=0/\y.1=true/\y.2.2=p)\/(0<i/\y.2.2=0))) (λy=>n-y.2.1.toNat) ⟨0,rfl,Nat.zero_le _,.inl ⟨rfl,rfl,rfl⟩⟩ dE ?_
 rintro⟨ok,ix,left⟩ k ⟨i,e,hi,h1⟩ hk
 simp only at e h1;subst e;unfold oV;refine iJ (λh=>?_) λh=>iK ?_
 have U : i<L.length:=by simp only[iV] at h;omega
 refine jf (λy=>y.2=0) (λk8 h8=>?_) λy hy=>hk _ ⟨i+1,lC ai,by omega,.inr ⟨Nat.succ_pos _,hy⟩⟩ ?_
 refine jl i rfl U (jf (λy=>y.1=false/\y.2=0) (λk12 R=>?_) λy hy=>lQ hy.1 (jf (λ_=>True) (λk16 J=>iJ (λg=>jl i rfl (by simp only[iV] at g;omega) (J _ trivial)) λ_=>J _ trivial) λb _=>iR (λ_=>h8 _ hy.2) λ_=>h8 _ hy.2));rcases h1 with ⟨e0,e1,I⟩|⟨h0,I⟩
 subst e0
 have hz:oI L[0] left=some (true,0):=by
  rw[g0 U,I];unfold oI;refine ok_eq (iJ (λh=>absurd h ai) λ_=>iJ (λh=>absurd h ai) λ_=>iK ?_);show (true,jS p p)=_;rw[qW ai ai,Int.sub_self]
 refine iU hz (lQ rfl (iJ (λ_=>R _ ⟨by show (ok==false)=false;rw[e1];rfl,rfl⟩) λh=>absurd (show (0:Int)<L[0] by rw[g0 U];exact hp.1) h))
 have hz:oI L[i] left=some (true,0):=by
  rw[g1 i U h0,I];unfold oI;exact ok_eq (iJ (λh=>absurd h ai) λ_=>iJ (λh=>absurd h ai) λ_=>iK rfl)
 refine iU hz (lQ rfl (iJ (λh=>absurd (show (0:Int)<L[i] from h) (by rw[g1 i U h0];decide)) λ_=>R _ ⟨rfl,rfl⟩))
 show n-(jq (i:Int) 1).toNat<n-((i:Int)).toNat;rw[lC ai];simp only[Int.toNat_natCast];omega
 have hil:i=n:=by simp only[iV] at h;omega
 rcases h1 with ⟨e0,_,_⟩|⟨_,I⟩
 omega
 exact decide_eq_true I
theorem agS (s:iT)(T:List iM)(f:iP)(hs:s.objects.length<=40)(O:qX f.t)(hp:0<f.t.power):Ok (λr=>r.2=true/\r.1.length<=41) (tJ s T f):=by
 have k7:kZ f.t.keys 128=some (hasB f.t.keys 7):=abq O 7 ai;have k4:kZ f.t.keys 16=some (hasB f.t.keys 4):=abq O 4 ai;have hpt:=O.pt;unfold tJ;refine iO (Vh s f.o.id hs) λy1 hy1=>?_;refine lK 0 y1.length (λn t=>t.1.length=n/\t.2.length=n) 0 rfl (Nat.zero_le _) ai ⟨rfl,rfl⟩ (λn t k3 g hI hk=>?_) λt k3 hI=>?_
 obtain⟨t1,t2⟩:=t;obtain⟨i1,i2⟩:=hI;simp only at i1 i2;unfold tX;exact iJ (λ_=>jl n rfl g (iO (afI s _ hs) λ_ _=>uf (jG (by show (2*(t1.length+1)+192)*24<=_;omega) gz (iO (ac8 s T _ hs) λ_ _=>iU k7 (iO (afJ _ _ _) λ_ _=>jG (by show (2*(t2.length+1)+192)*8<=_;omega) gB (hk _ ⟨by simp[i1],by simp[i2]⟩)))))) λh=>absurd (show (n:Int)<(y1.length:Int) by omega) h
 obtain⟨opts,R⟩:=t;obtain⟨i1,i2⟩:=hI;simp only at i1 i2;unfold tX;refine iJ (λh=>absurd h (by show ¬ (y1.length:Int)<(y1.length:Int);omega)) λ_=>iU k4 ?_;refine jf (λo=>o.length=R.length+(if hasB f.t.keys 4 then 1 else 0)) (λk13 J=>iR (λh=>uf (jG (by show (2*(opts.length+1)+192)*24<=_;omega) (by show opts.length+1<=_;omega) (J _ gq))) λh=>J _ eU) λo ho=>?_;have hol:o.length<=41:=by rw[ho];split<;>omega
 refine iJ (λ_=>iK ⟨rfl,by simp⟩) λhne=>?_;simp only[iV] at hne
 let c:jY:=jY.mk 8 f.t.control f.o.id 0 0 f.t.power o
 have hd:uG c=some (RP c):=by
  unfold uG;rw[Yu c rfl (by show 0<o.length;omega) gG];rfl
 have hlen:(RP c).length=o.length:=Ui c;refine iU hd (iU (agR R (RP c) f.t.power (hasB f.t.keys 4) o.length rfl ho ai ai ai) (lQ rfl ?_));generalize RP c=y16 at hlen;refine lK 0 o.length (λn l=>l.length=n) 0 rfl (Nat.zero_le _) ai rfl (λn l k19 g hI hk=>?_) λl k19 hI=>?_
 have U:n<y16.length:=by omega
 have C:∀ e:iZ,(l++[e]).length=n+1:=λe=>by simp[hI]
 unfold tV;refine iJ (λ_=>jf (λu=>u.length=n+1) (λk22 I=>?_) λu hu=>hk u hu) λh=>absurd (show (n:Int)<(o.length:Int) by omega) h;refine oJ n rfl g (oD g (iJ (λ_=>oJ n rfl U (oD U (iU (x:=D6 f.o.id 0 o[n].a y16[n]) rfl (jG dn fF (I _ (C _)))))) λ_=>oJ n rfl U (oD U (iU (x:=D6 f.o.id o[n].a 0 y16[n]) rfl (jG dn fF (I _ (C _)))))))
 unfold tV;exact iJ (λh=>absurd h (by show ¬ (o.length:Int)<(o.length:Int);omega)) λ_=>iK ⟨rfl,by show l.length<=41;omega⟩
theorem aaj (s:iT)(T:List iM)(first:Bool)(hT:T.length=s.objects.length)(hO:∀ t∈T,qX t)(ho:s.objects.length<=40):Ok (λr=>r.2=true/\((∀ f∈wF s T,f.o.lG<0/\f.o.blocks=0)->r.1=[])) (sS s T first):=by
 have hL:=PZ s T ho
 have hm:∀ f∈wF s T,qX f.t:=λf O=>by
  obtain⟨i,h1,h2,rfl,_,_⟩:=LX O;exact hO _ (List.getElem_mem h2)
 unfold sS;refine iU (PY s T hT hO ho) ?_;revert hL hm;generalize wF s T=L;intro hL hm;refine lK 0 L.length (λi t=>t.length<=41*i/\((∀ f∈L,f.o.lG<0/\f.o.blocks=0)->t=[])) 0 rfl (Nat.zero_le _) ai ⟨Nat.zero_le _,λ_=>rfl⟩ (λi out kk hi hI hk=>?_) λout kk hI=>?_
 obtain⟨hl,hq⟩:=hI;unfold vC;have I:=hm _ (List.getElem_mem hi);refine iJ (λ_=>jf (λu=>u.length<=41*(i+1)/\((∀ f∈L,f.o.lG<0/\f.o.blocks=0)->u=[])) (λk6 h6=>?_) λu hu=>hk u hu) λh=>absurd (show (i:Int)<(L.length:Int) by omega) h;have sk:out.length<=41*(i+1)/\((∀ f∈L,f.o.lG<0/\f.o.blocks=0)->out=[]):=⟨by omega,hq⟩;refine jl i rfl hi (jf (λb:Bool=>b=false->0<=L[i].o.lG/\yA L[i].t first=true) (λk10 C=>iJ (λ_=>C _ λe=>by cases e) λha=>iU (LW _ first I) (C _ λe=>⟨by omega,by simpa using e⟩)) λb hb=>?_);refine iR (λ_=>h6 _ sk) λU=>?_;obtain⟨hA,hd⟩:=hb U;have hp:=LY hd
 have no:∀ {p:Prop},(∀ f∈L,f.o.lG<0/\f.o.blocks=0)->p:=λh=>by
  have:=(h _ (List.getElem_mem hi)).1;omega
 refine iR (λ_=>iU (x:=D6 L[i].o.id 0 L[i].o.lG L[i].t.power) rfl (jG dN gu (h6 _ ⟨by simp only[List.length_append,List.length_singleton];omega,no⟩))) λ_=>?_;refine iO (agS s T L[i] ho I hp) λy hy=>lQ (by rw[hy.1];rfl) ?_;have:=hy.2;exact jG dC eX (h6 _ ⟨by show (out++y.1).length<=_;rw[List.length_append];omega,no⟩)
 obtain⟨hl,hq⟩:=hI;unfold vC;refine iJ (λh=>absurd h dh) λ_=>?_;refine lK 0 L.length (λj t=>t.length<=1640+j/\((∀ f∈L,f.o.lG<0/\f.o.blocks=0)->t=[])) 0 rfl (Nat.zero_le _) ai ⟨by show out.length<=1640+0;omega,hq⟩ (λj t k2 hj hJ hk2=>?_) λt k2 hJ=>?_
 obtain⟨hl2,J⟩:=hJ;have hLj:=hm _ (List.getElem_mem hj);have sk:t.length<=1640+(j+1)/\((∀ f∈L,f.o.lG<0/\f.o.blocks=0)->t=[]):=⟨by omega,J⟩;unfold vw;refine iJ (λ_=>jf (λu=>u.length<=1640+(j+1)/\((∀ f∈L,f.o.lG<0/\f.o.blocks=0)->u=[])) (λk19 R=>?_) λu hu=>hk2 u hu) λh=>absurd (show (j:Int)<(L.length:Int) by omega) h;refine jl j rfl hj (jf (λb:Bool=>b=false->L[j].o.blocks≠0) (λk23 h23=>iJ (λ_=>h23 _ λe=>by cases e) λha=>iU (LW _ first hLj) (h23 _ λe=>ha)) λb hb=>?_);refine iR (λ_=>R _ sk) λU=>?_;have hA:=hb U;have no:∀ {p:Prop},(∀ f∈L,f.o.lG<0/\f.o.blocks=0)->p:=λh=>absurd (h _ (List.getElem_mem hj)).2 hA;refine iO (afI s _ ho) λy _=>jf (λ_=>True) (λk28 g=>iR (λ_=>g _ trivial) λ_=>g _ trivial) λc _=>iR (λ_=>?_) λ_=>R _ sk;exact iU (x:=D6 L[j].o.id y.1.id 0 L[j].t.power) rfl (jG (by show (2*(t.length+1)+192)*112<=_;omega) aX (R _ ⟨by simp only[List.length_append,List.length_singleton];omega,no⟩))
 obtain⟨hl2,J⟩:=hJ;unfold vw;refine iJ (λh=>absurd h dh) λ_=>iU (Vj t ai) (iK ⟨rfl,λh=>?_⟩);show t.filter FC=[];rw[J h];rfl
theorem anN (s:iT)(hs:kQ s)(ho:s.objects.length<=40):Ok (λr=>r.objects.length=s.objects.length/\∀ o∈r.objects,o.lG=-1/\o.blocks=0) (IM s):=by
 unfold IM;refine iU (aby s hs) ?_;refine lK 0 s.objects.length (λi t=>t.length=s.objects.length/\∀ j (h:j<t.length),j<i->t[j].lG=-1/\t[j].blocks=0) 0 rfl (Nat.zero_le _) ai ⟨rfl,λj _ h=>absurd h (Nat.not_lt_zero _)⟩ (λi t k hi hI hk=>?_) λt k hI=>?_
 obtain⟨h1,h2⟩:=hI;have hit:i<t.length:=by omega
 unfold EN;refine iJ (λ_=>oJ i rfl hit (oD hit (iU (x:={ t[i] with lG:=-1,blocked:=false,blocks:=0 }) rfl (oJ i rfl hit (oD hit (hk _ ⟨by simp[h1],λj h hj=>?_⟩)))))) λh=>absurd (show (i:Int)<(s.objects.length:Int) by omega) h
 by_cases e:j=i
 subst e;simp
 simp only[List.length_set] at h;rw[List.getElem_set_ne (λq=>e q.symm)];exact h2 j h ai
 obtain⟨h1,h2⟩:=hI;unfold EN;refine iJ (λh=>absurd h az) λ_=>iK ⟨h1,λo U=>?_⟩;obtain⟨j,hj,rfl⟩:=List.getElem_of_mem U;exact h2 j hj (by show j<s.objects.length;have:j<t.length:=hj;omega)
theorem RU (x:nI)(hx:Jy x):vK x=some true:=by
 obtain⟨g,hs,_⟩:=hx;have I:ry=some true:=rfl;unfold vK;refine ok_eq (iO (abr x g hs) λy1 h1=>iR (λ_=>iU I (iK rfl)) λh=>?_);have F:=h1 dw;have U:=F.o;refine iO (PW x.cards x.s g hs F.c ai) λT R=>iO (aaj x.s T x.first R.1 R.2 U) λy4 E4=>iO (anN x.s hs U) λy5 J=>iO (aaj y5 T x.first (by rw[R.1,J.1]) R.2 (by rw[J.1];exact U)) λy6 C=>?_
 have e:=C.2 λf O=>by
  obtain⟨i,g1,g2,rfl,_,_⟩:=LX O;obtain⟨q1,q2⟩:=J.2 _ (List.getElem_mem g1);exact⟨by show y5.objects[i].lG<0;rw[q1];decide,q2⟩
 exact oK E4.1 (oK C.1 (iJ (λ_=>iU I (iK rfl)) λh=>absurd (show iV y6.1=0 by rw[e];rfl) h))
end Go.Proofs.YtlacmdnhabblcaaGreat
