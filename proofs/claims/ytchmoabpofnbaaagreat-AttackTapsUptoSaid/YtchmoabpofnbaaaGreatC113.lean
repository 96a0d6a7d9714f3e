import Derived.KernelRfl
import Derived.Test.YtchmoabpofnbaaaGreatC111
set_option linter.all false
namespace Go.Proofs.YtchmoabpofnbaaaGreat
open Go Go.Pv
set_option maxRecDepth 100000
theorem N8.perm {able:List eX}{m:List Int}{l l' : List eX}(h:N8 able m l)(p:l'.Perm l):N8 able m l' :=
 ⟨λx hx=>h.1 x (p.mem_iff.1 hx),(p.pairwise_iff λe=>e.symm).2 h.2.1,λid hid=>let ⟨x,hx,e⟩:=h.2.2 id hid;⟨x,p.mem_iff.2 hx,e⟩⟩
section
variable {s:GState}{T:List eQ}{able:List eX}(ho:s.objects.length<=60)(e:oC s T=some able)(hab:able.length<=240)
include ho e hab
end
section
variable {cards:List gq}{s:GState}{T:List eQ}{y:List Int}{able:List eX}{m:List Int}(F:Fld cards s T y able m)
include F
theorem Fld.good {l:List eX}(h:N8 able m l):ahs s l:=⟨h.2.1,λx hx=>by
 obtain⟨_,h2,T⟩:=F.av x (h.1 x hx);exact⟨T,(F.yp _ h2).1⟩⟩
theorem akT (a:List Int)(ha:a.length<=60)(hr:∀ x∈a,0<=x/\x<(able.length:Int))(hn:a.Nodup)(hc:N8 able m (a.map (opt able)))(C:able≠[]) :
  Ok (λr=>r.2.1=true/\∃ l,l.Perm (a.map (opt able))/\r.1.objects=s.objects.map λo=>atF l (tpF l (λid=>hasB s T id 8) o)) (nK ⟨[a],0,AX,false,false⟩ cards s):=by
 obtain⟨k,ek⟩:=ahu s.jZ able a ha (aei _ able a ha hr hn hc.2.1) (λh=>absurd h C);have pm:=La a;have pl:=pm.length_eq;have g:((zU a).map (opt able)).Perm (a.map (opt able)):=pm.map _;have J:=hc.perm g;obtain⟨c,ec,I⟩:=aau F.ob F.ea F.al F.em F.ml ((zU a).map (opt able)) aY;have c0:=I.2 J;subst c0;unfold nK;refine ok_bnde F.all (ok_bnde F.ea (ok_bnde ek (ok_bnde (x:=zU a) (by unfold slices_Sort_int aeO;grind) ?_)));refine alU _ _ _ _ _ _ ae (λx hx=>hr x (pm.mem_iff.1 hx)) λk2=>?_;unfold oV;refine iJ ltF (ok_jn (λl=>l=(zU a).map (opt able)) (λk12 t=>ok_bnde ec (iJ rfl (t _ rfl))) λl hl=>?_);subst hl;exact Zj (alV F _ aY (F.good J) _) λr h=>⟨h.1,_,g,h.2⟩
end
theorem index_self {a:List Int}{i:Nat}(h:∀ k (hk:k<a.length),k<i->Ac a a[k]=some (k:Int)):(a.take i).Nodup:=by
 grind[List.pairwise_iff_getElem]
theorem adp (l:List Int)(n:Int)(T:l.length<=2000000):Ok (λ_=>True) (Ac l n):=by
 unfold Ac;refine ok_for1 0 l.length (λ_=>True) 0 rfl (Nat.zero_le _) ae trivial (λi k hi _ hk=>?_) λk _=>?_
 unfold BU;exact lh (ltT hi) (ok_ixL i rfl hi (ok_br (λ_=>ok_some trivial) λ_=>hk trivial))
 simp_all[BU,iJ,ltF,ok_some]
theorem UM (cards:List gq)(s:GState)(answer:List Int)(hc:sZ lC cards)(hs:jX s)(ha:sZ (λ(_:Int)=>True) answer):uH cards s answer=some true:=by
 unfold uH;refine ok_eq (ok_jn (λb=>b=false->((∀ c∈cards,Io c)/\StV s/\s.objects.length<=60/\s.fM.length<=4)/\answer.length<=60) (λk hk=>fA (abL cards s hc hs) λy hy=>ok_br (λ_=>hk _ Ew) λh1=>hk _ λh2=>⟨hy ak,by grind[lenI]⟩) λb J=>ok_br (λ_=>ok_bnde Dz (ok_some rfl)) λU=>?_);obtain⟨⟨cv,st,g1,g2⟩,g3⟩:=J U;obtain⟨T,y,able,m,F⟩:=ajp cards s hc hs cv st g1 g2;refine ok_bnde F.ref (ok_bnde F.ea ?_);refine iY 0 answer.length (λi t=>t=(answer.take i).map (opt able)/\(∀ x∈answer.take i,0<=x/\x<(able.length:Int))/\∀ k (hk:k<answer.length),k<i->Ac answer answer[k]=some (k:Int)) 0 rfl (Nat.zero_le _) ae ⟨rfl,by simp,λ_ _ h=>by omega⟩ (λi t k hi hI hk=>?_) λt k hI=>?_
 obtain⟨rfl,h2,h3⟩:=hI;obtain⟨r,er,_⟩:=adp answer answer[i] ae;have hl:((answer.take i).map (opt able)).length<=i:=by simp;omega
 unfold uG;refine lh (ltT hi) (ok_jn (λb=>b=false->(0<=answer[i]/\answer[i]<(able.length:Int))/\r=(i:Int)) (λk12 g=>ok_ixL i rfl hi (ok_brd (λ_=>g _ Ew) λa1=>ok_ixL i rfl hi (ok_brd (λ_=>g _ Ew) λa2=>ok_ixL i rfl hi (ok_bnde er (g _ λh=>⟨⟨by omega,by grind[lenI]⟩,by simpa using h⟩))))) λb J=>ok_br (λ_=>ok_bnde Dz (ok_some rfl)) λh=>?_);obtain⟨q1,q2⟩:=J h;refine ok_ixL i rfl hi (ok_bnde (aaw q1) (gZ ak ak (hk _ ⟨by grind[take_succ_get],Et hi h2 q1,λk hk hki=>?_⟩)))
 grind
 obtain⟨rfl,h2,h3⟩:=hI;rw[List.take_length] at h2 |-;have hn:answer.Nodup:=by have:=index_self (i:=answer.length) h3;grind
 obtain⟨c,ec,hcc⟩:=aau F.ob F.ea F.al F.em F.ml (answer.map (opt able)) (by simpa using g3);unfold uG;refine iJ ltF (ok_jn (λb=>b=false->able≠[]/\N8 able m (answer.map (opt able))) (λk22 h22=>ok_brd (λ_=>h22 _ Ew) λh0=>ok_bnde ec (h22 _ λh=>⟨λe=>h0 (by rw[e];rfl),hcc.1 bg⟩)) λb J=>ok_br (λ_=>ok_bnde Dz (ok_some rfl)) λh=>?_);obtain⟨hne,hck⟩:=J h;refine ok_bnde (ajo answer g3) (fA (akT F answer g3 h2 hn hck hne) λr hr=>?_);obtain⟨r1,l,pl,hob⟩:=hr;have one:=(hck.perm pl).2.1;have tl:=F.tl;refine iJ (by rw[r1];rfl) ?_;refine ok_for1 0 s.objects.length (λ_=>True) 0 rfl (Nat.zero_le _) ae trivial (λi k hi _ hk=>?_) λk _=>?_
 obtain⟨n,en,n1,n2⟩:=aeh hob st.asc one g1 hi;have hiT:i<T.length:=by omega
 have ex:gu s.objects (i:Int)=some s.objects[i]:=by grind[ni]
 unfold uF;refine ok_jn (λb=>b=true) (λk32 h32=>lh (ltT hi) (h32 _ (ltT hiT))) λb J=>?_;subst J;refine lh rfl (ok_bnde ex ?_);refine jQ (λq=>∃ j:Nat,q.2=(j:Int)/\j<=(answer.map (opt able)).length/\((∃ x∈(answer.map (opt able)).take j,x.a=(s.objects[i]).id/\q.1=x.b)\/((∀ x∈(answer.map (opt able)).take j,x.a≠(s.objects[i]).id)/\q.1=(s.objects[i]).nT))) (λq=>(answer.map (opt able)).length-q.2.toNat) ⟨0,rfl,by omega,.inr ⟨by simp,rfl⟩⟩ (by show(answer.map (opt able)).length-_<18446744073709551616;simp;omega) ?_
 rintro⟨to,j'⟩ k36 ⟨j,ej,hj,hto⟩ hk36
 simp only at ej hto;subst ej;unfold yK;refine ok_brd (λh=>?_) λh=>?_
 have I:j<(answer.map (opt able)).length:=by grind[lenI]
 have tk:=take_succ_get _ j I;have ll:(answer.map (opt able)).length<=60:=by simpa using g3
 generalize answer.map (opt able)=l0 at *;have nx:∀ v,((∃ x∈l0.take (j+1),x.a=(s.objects[i]).id/\v=x.b)\/((∀ x∈l0.take (j+1),x.a≠(s.objects[i]).id)/\v=(s.objects[i]).nT))->Ok (λr=>r=true) (k36 (v,addI (j:Int) 1)):=λv hv=>hk36 _ ⟨j+1,addI_nat ae,by omega,hv⟩ cu;refine ok_jn (λv=>(∃ x∈l0.take (j+1),x.a=(s.objects[i]).id/\v=x.b)\/((∀ x∈l0.take (j+1),x.a≠(s.objects[i]).id)/\v=(s.objects[i]).nT)) (λk39 h39=>gU j rfl I (gB I (ok_bnde ex (ok_brd (λe=>gU j rfl I (gB I (h39 _ (.inl ⟨_,by grind,e,rfl⟩)))) λe=>h39 _ ?_)))) nx
 grind
 have ej:j=(answer.map (opt able)).length:=by grind[lenI]
 subst ej;rw[List.take_length] at hto
 have spec:n.nT=to/\(to≠(s.objects[i]).nT->n.kN=false->hasB s T (s.objects[i]).id 8=true):=by
  grind
 refine ok_bnde ex (ok_bnde en (ok_jn (λb=>b=false) (λk49 h49=>iJ rfl (h49 _ (by simp[spec.1]))) λb J=>?_));subst J;refine iJ rfl (ok_jn (λb=>b=false) (λk52 C=>ok_brd (λ_=>ok_bnde ex (qM (λhne2=>ok_br (λht=>?_) λ_=>C _ rfl) λ_=>C _ rfl)) λ_=>C _ rfl) λb J=>by subst J;exact iJ rfl (hk trivial));have hb8:=spec.2 hne2 ak;rw[ahr 8 g1 st.asc hi hiT] at hb8;refine ok_ixL i rfl hiT (ok_bnde (x:=true) ?_ (C _ rfl))
 grind[Ea]
 unfold uF;exact ok_jn (λb=>b=false) (λk32 h32=>iJ ltF (h32 _ rfl)) λb J=>by subst J;exact iJ rfl (ok_bnde Dz (ok_some rfl))
theorem sV25 {p:PV}(h:SnV Tryz.prog 1048576 25 p):∃ x:List Int,p=.sl 1 (ku.m Int (eI .i64) x) false/\XD x:=by
 obtain⟨x,e,hx⟩:=abS (h.inv_one aA);cases e;exact⟨x,rfl,hx⟩
end Go.Proofs.YtchmoabpofnbaaaGreat
