import Derived.KernelRfl
import Derived.Test.YtchmoabpofnbaaaGreatC110
set_option linter.all false
namespace Go.Proofs.YtchmoabpofnbaaaGreat
open Go Go.Pv
set_option maxRecDepth 100000
section
variable {cards:List gq}{s:GState}{T:List eQ}{y:List Int}{able:List eX}{m:List Int}(F:Fld cards s T y able m)
include F
theorem ahL (hy:able=[]\/∃ b,y[0]?=some b):Ok (λl=>∀ b,y[0]?=some b->l=m.map λid=>eX.mk 7 id b) (yT s T):=by
 have hml:=F.ml;have g:=F.al;unfold yT;refine ok_bnde F.eo (ok_bnde F.em (iY 0 m.length (λi t=>t.length=i/\∀ b,y[0]?=some b->t=(m.take i).map λid=>eX.mk 7 id b) 0 rfl (Nat.zero_le _) ae ⟨rfl,λ_ _=>rfl⟩ (λi t k hi C hk=>?_) λt k C=>?_))
 obtain⟨b,I⟩:∃ b,y[0]?=some b:=by
  grind
 obtain⟨h0,eb⟩:=List.getElem?_eq_some_iff.1 I;unfold Dq;refine lh (ltT hi) (ok_ixL i rfl hi (ok_ixL 0 rfl h0 (zS (gZ ak ak (hk _ ⟨by simp;omega,λb2 J=>?_⟩)))));rw[I] at J;cases J
 grind[take_succ_get]
 grind[Dq,iJ,ltF,ok_some]
theorem akU:Ok (λr=>r.2.1=true/\∃ l:List eX,(∀ id,(∃ x∈l,x.a=id)↔id∈m)/\(∀ x∈l,x.b∈y)/\(l.Pairwise λx y=>x.a≠y.a)/\r.1.objects=s.objects.map λo=>atF l (tpF l (λid=>hasB s T id 8) o)) (nK ⟨[[]],0,AX,false,false⟩ cards s):=by
 have hml:=F.ml;have hal:=F.al;obtain⟨k,ek⟩:=ahu s.jZ able [] aF (aei _ able [] aF aF aF aF) (λ_=>rfl);obtain⟨c,ec,C⟩:=aau F.ob F.ea F.al F.em F.ml ([]:List eX) aF
 have hy:able=[]\/∃ b,y[0]?=some b:=by
  cases g:able with
  | nil=>exact .inl rfl
  | cons x r=>
   obtain⟨_,h2,_⟩:=F.av x (by rw[g];simp)
   grind
 have I:m≠[]->∃ b,y[0]?=some b:=λh=>by
  rcases hy with h2|h2<;>simp_all
 unfold nK;refine ok_bnde F.all (ok_bnde F.ea (ok_bnde ek (ok_bnde (x:=zU []) (by unfold slices_Sort_int aeO;rfl) ?_)));have es:zU []=[]:=List.length_eq_zero_iff.1 (La []).length_eq;rw[es];refine alU _ _ _ _ _ _ aF aF λk2=>?_;unfold oV;refine iJ rfl (ok_jn (λl=>l.length<=240/\(∀ id,(∃ x∈l,x.a=id)↔id∈m)/\(∀ x∈l,x.b∈y)/\l.Pairwise λx y=>x.a≠y.a) (λk12 t=>ok_bnde ec (qM (λhn=>iJ rfl (fA (ahL F hy) λl J=>t l ?_)) λh0=>t _ ?_)) λl J=>?_)
 have hm:m≠[]:=λe=>hn (C.2 ⟨by simp,by simp,by rw[e];simp⟩);obtain⟨b,g⟩:=I hm;have hb2:b∈y:=List.mem_of_getElem? g;rw[J b g];refine⟨by simp;omega,λid=>⟨λ⟨x,hx,e⟩=>?_,λh=>⟨_,List.mem_map.2 ⟨id,h,rfl⟩,rfl⟩⟩,λx hx=>?_,?_⟩
 grind
 grind
 rw[List.pairwise_map];exact F.mn
 have hm:m=[]:=by
  have:=(C.1 h0).2.2
  cases hm:m with
  | nil=>rfl
  | cons a _=>
   obtain⟨x,hx,_⟩:=this a (by rw[hm];simp);cases hx
 simp_all
 refine Zj (alV F l ae ⟨J.2.2.2,λx hx=>?_⟩ _) λr h=>⟨h.1,l,J.2.1,J.2.2.1,J.2.2.2,h.2⟩
 obtain⟨z,hz,ez,_⟩:=(F.mi x.a).1 ((J.2.1 x.a).1 ⟨x,hx,rfl⟩);obtain⟨_,_,j,hj,e1,e2,e3⟩:=F.av z hz;exact⟨⟨j,hj,by rw[e1,ez],e2,e3⟩,(F.yp _ (J.2.2.1 x hx)).1⟩
end
theorem Qh (cards:List gq)(s:GState)(hc:sZ lC cards)(hs:jX s):rO cards s=some true:=by
 have hpl:=hs.1.1;unfold rO;refine ok_eq (ok_jn (λb=>b=false->((∀ c∈cards,Io c)/\StV s/\s.objects.length<=60/\s.fM.length<=4)/\s.fM.length=2) (λk hk=>fA (abL cards s hc hs) λy hy=>ok_br (λ_=>hk _ Ew) λh1=>qM (λ_=>hk _ Ew) λh2=>?_) λb I=>ok_br (λ_=>ok_bnde Dz (ok_some rfl)) λU=>?_)
 have h2:s.fM.length=2:=by grind[lenI]
 have all:∀ {b:Bool},Ok (λr=>r=true) (k b):=hk _ λ_=>⟨hy ak,h2⟩
 exact ok_ixL 0 rfl ae (ok_br (λ_=>all) λ_=>ok_ixL 1 rfl ae all)
 obtain⟨⟨cv,st,g1,g2⟩,g3⟩:=I U;obtain⟨T,y,able,m,F⟩:=ajp cards s hc hs cv st g1 g2;have tl:=F.tl;have act:=st.act;refine ok_bnde F.ref (ok_bnde F.ea (ok_bnde (ajo [] aF) (fA (akU F) λr hr=>?_)));obtain⟨r1,l,lm,lb,one,hob⟩:=hr
 have lb1:∀ x∈l,x.b=1-s.jZ:=λx hx=>by
  obtain⟨⟨p,e1,h,_⟩,h2⟩:=F.yp _ (lb x hx);omega
 have sub1:qL 1 s.jZ=1-s.jZ:=Cc ae ae;refine iJ (by rw[r1];rfl) ?_;refine ok_for1 0 s.objects.length (λ_=>True) 0 rfl (Nat.zero_le _) ae trivial (λi k hi _ hk=>?_) λk _=>?_
 obtain⟨n,en,n1,n2⟩:=aeh hob st.asc one g1 hi;have hiT:i<T.length:=by omega
 have ex:gu s.objects (i:Int)=some s.objects[i]:=by grind[ni]
 have h8:=ahr 65536 g1 st.asc hi hiT;have hal:=F.al;unfold sJ;refine ok_jn (λb=>b=true) (λk32 C=>lh (ltT hi) (C _ (ltT hiT))) λb I=>?_;subst I;refine lh rfl (ok_bnde ex (ok_bnde en ?_));refine jQ (λq=>∃ j:Nat,q.2=(j:Int)/\j<=able.length/\(q.1=true↔∃ x∈able.take j,x.a=(s.objects[i]).id/\hasB s T (s.objects[i]).id 65536=true)) (λq=>able.length-q.2.toNat) ⟨0,rfl,by omega,by simp⟩ (by show able.length-_<18446744073709551616;omega) ?_
 rintro⟨mu,j'⟩ k21 ⟨j,ej,hj,J⟩ hk21
 simp only at ej J;subst ej;unfold wS;refine ok_brd (λh=>?_) λh=>?_
 have g:j<able.length:=by grind[lenI]
 have st2:(∃ x∈able.take (j+1),x.a=(s.objects[i]).id/\hasB s T (s.objects[i]).id 65536=true)↔(mu=true)\/((able[j]).a=(s.objects[i]).id/\hasB s T (s.objects[i]).id 65536=true):=by
  rw[take_succ_get able j g,J]
  grind
 have nx:∀ v:Bool,(v=true↔(mu=true)\/((able[j]).a=(s.objects[i]).id/\hasB s T (s.objects[i]).id 65536=true))->Ok (λr=>r=true) (k21 (v,addI (j:Int) 1)):=λv hv=>hk21 _ ⟨j+1,addI_nat ae,by omega,hv.trans st2.symm⟩ cu;refine ok_br (λhm=>nx _ ak) λhm=>ok_ixL j rfl g (ok_bnde ex (ok_brd (λe=>ok_ixL i rfl hiT (ok_bnde (x:=hasB s T (s.objects[i]).id 65536) (by rw[h8];rfl) (nx _ ?_))) λe=>nx _ ?_))
 grind
 grind
 have ej:j=able.length:=by grind[lenI]
 subst ej;rw[List.take_length] at J;have mm:mu=true↔∃ x∈l,x.a=(s.objects[i]).id:=by rw[lm,F.mi,J]
 refine ok_jn (λb=>b=false) (λk28 t=>iJ rfl ?_) λb I=>by subst I;exact iJ rfl (hk trivial)
 cases mu with
 | true=>
  obtain⟨x,hx,e⟩:=mm.1 rfl;have na:=(n1 x hx e).1;exact lh rfl (qM (λh=>absurd ak h) λ_=>iJ rfl (t _ rfl))
 | false=>
  have na:=n2 λx hx e=>absurd (mm.2 ⟨x,hx,e⟩) aF;exact iJ rfl (lh rfl (ok_bnde ex (t _ (by simp[na]))))
 unfold sJ;exact ok_jn (λb=>b=false) (λk32 C=>iJ ltF (C _ rfl)) λb I=>by subst I;exact iJ rfl (ok_bnde Dz (ok_some rfl))
end Go.Proofs.YtchmoabpofnbaaaGreat
