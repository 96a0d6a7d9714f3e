import Derived.Test.YtlacmdnhabblcaaGreatB32
import Derived.Test.YtlacmdnhabblcaaGreatB40
set_option linter.all false
namespace Go.Proofs.YtlacmdnhabblcaaGreat
open Go Go.Pv
set_option maxRecDepth 100000
def NS (l:List iL)(b:Int):Nat:=(l.filter λo=>decide (o.b=b)).length
theorem QI (l:List iL)(b:Int)(i:Nat)(hi:i<l.length):NS (l.take (i+1)) b=NS (l.take i) b+(if l[i].b=b then 1 else 0):=by
 unfold NS;rw[mr l i hi,List.filter_append,List.length_append]
 congr 1
 by_cases h:l[i].b=b<;>simp[h]
theorem afN (l:List iL)(b:Int):NS l b<=l.length:=List.length_filter_le _ _
theorem ajq {all:List iM}(h:∀ t∈all,qX t)(i:Nat):qX (trA all i):=by
 unfold trA;split
 exact h _ (List.getElem_mem _)
 exact zTr
theorem ajr (all:List iM)(i:Nat):pq all (i:Int)=some (trA all i):=by
 unfold pq trA;refine ok_eq (iJ (λh2=>?_) λh2=>?_)
 have hi:i<all.length:=by simp only[iV] at h2;omega
 exact jl i rfl hi (iK (by rw[dif_pos hi]))
 have hi:¬ i<all.length:=by simp only[iV] at h2;omega
 exact iK (by rw[dif_neg hi])
theorem anD (all:List iM)(i:Nat):wC all (i:Int)=some (trA all i):=ajr all i
def YB (all:List iM)(i:Nat):Bool:=hasB (trA all i).keys 9
theorem ak3 (l:List iL)(o:iL)(U:l.length<=4194304):Ye l o=some (decide (o∈l)):=by
 unfold Ye;refine ok_eq (lH 0 l.length (λn=>o ∉ l.take n) 0 rfl (Nat.zero_le _) ai aI (λi k hi hI hk=>?_) λk hI=>?_)
 unfold QD;refine iJ (λ_=>jl i rfl hi (uf ?_)) λh=>absurd (show (i:Int)<(l.length:Int) by omega) h;rw[ajk];refine iJ (λe=>iK ?_) λe=>hk ?_
 have:o∈l:=e ▸ List.getElem_mem hi;simp[this]
 rw[mr l i hi];simp only[List.mem_append,List.mem_singleton];exact λh=>h.elim hI λh=>e h.symm
 unfold QD;rw[qf] at hI;exact iJ (λh=>absurd h aB) λ_=>iK (by simp[hI])
section
variable (s:iT)(all able l:List iL)(T:List iM)
def anE (s:iT)(T:List iM)(able l:List iL):Prop :=
 (∃ i,∃ h:i<l.length,l[i] ∉ able\/∃ x∈l.take i,x.a=l[i].a)\/∃ j,∃ h:j<s.objects.length,YB T j=true/\NS l s.objects[j].id=1
def anF (s:iT)(T:List iM)(able l:List iL):Prop :=
 ∃ i,∃ h:i<l.length,l[i] ∉ able\/(∃ k,∃ h2:k<l.length,k≠i/\l[k].a=l[i].a)\/(NS l l[i].b=1/\∃ j,∃ h3:j<s.objects.length,YB T j=true/\s.objects[j].id=l[i].b)
end
theorem ak4 {l:List iL}{b:Int}(h:NS l b=1):∃ i,∃ hi:i<l.length,l[i].b=b:=by
 unfold NS at h;obtain⟨x,hx⟩:=List.length_eq_one_iff.1 h;have U:x∈l.filter λo=>decide (o.b=b):=by rw[hx];simp
 rw[List.mem_filter] at U;obtain⟨i,hi,e⟩:=List.getElem_of_mem U.1;exact⟨i,hi,by rw[e];exact of_decide_eq_true U.2⟩
theorem afO (s:iT)(T:List iM)(able l:List iL):anE s T able l↔anF s T able l:=by
 constructor
 rintro (⟨i,hi,h|⟨x,hx,h⟩⟩|⟨j,hj,h1,h2⟩)
 exact⟨i,hi,.inl h⟩
 obtain⟨k,hk,e⟩:=List.getElem_of_mem hx;have R:k<i:=by simp at hk;omega
 rw[List.getElem_take] at e;exact⟨i,hi,.inr (.inl ⟨k,by omega,by omega,by rw[e];exact h⟩)⟩
 obtain⟨i,hi,e⟩:=ak4 h2;exact⟨i,hi,.inr (.inr ⟨by rw[e];exact h2,j,hj,h1,e.symm⟩)⟩
 rintro⟨i,hi,h|⟨k,hk,U,e⟩|⟨h1,j,hj,h2,e⟩⟩
 exact .inl ⟨i,hi,.inl h⟩
 rcases Nat.lt_or_gt_of_ne U with hlt|hlt
 refine .inl ⟨i,hi,.inr ⟨l[k],?_,e⟩⟩;have:(l.take i)[k]' aT=l[k]:=List.getElem_take;rw[<- this];exact List.getElem_mem _
 refine .inl ⟨k,hk,.inr ⟨l[i],?_,e.symm⟩⟩;have:(l.take k)[i]' aT=l[i]:=List.getElem_take;rw[<- this];exact List.getElem_mem _
 exact .inr ⟨j,hj,h2,by rw[e];exact h1⟩
theorem aag (s:iT)(T:List iM)(p:Int)(able l:List iL)(hT:∀ t∈T,qX t)(ho:s.objects.length<=2048)(hab:able.length<=4194304)(hl:l.length<=100000)(e:Ac s T p=some able) :
  Ok (λr=>(r=19/\anE s T able l)\/(r=0/\¬ anE s T able l)) (yw s T p l):=by
 have mkey:∀ j:Nat,kZ (trA T j).keys 512=some (YB T j):=λj=>by
  have ht:=ajq hT j;have hk:=ht.k;obtain⟨m,U⟩:=Int.eq_ofNat_of_zero_le hk.1;unfold YB;rw[U];exact ajj m 9 ai ai
 unfold yw;refine iU e ?_;refine lH 0 l.length (λn=>∀ i,∀ h:i<l.length,i<n->l[i]∈able/\¬ ∃ x∈l.take i,x.a=l[i].a) 0 rfl (Nat.zero_le _) ai (λi _ h=>by omega) (λi k hi hI hk=>?_) λk hI=>?_
 unfold BZ;refine iJ (λ_=>jl i rfl hi (UU rfl rfl (Nat.zero_le _) (Nat.le_of_lt hi) ?_)) λh=>absurd (show (i:Int)<(l.length:Int) by omega) h;have g:zo l 0 (i-0)=l.take i:=by simp[zo]
 show Ok _ (bnd (jZ (zo l 0 (i-0)) _) _);rw[g];refine iO (Yt (l.take i) l[i] aT) λy hy=>jf (λb=>(b=true->l[i] ∉ able\/∃ x∈l.take i,x.a=l[i].a)/\(b=false->l[i]∈able/\¬ ∃ x∈l.take i,x.a=l[i].a)) (λk9 h9=>?_) λb hb=>?_
 refine iR (λh=>h9 _ ⟨λ_=>.inr (hy.1 h),λh=>by cases h⟩) λh=>iU (Ug able l[i] hab) (h9 _ ?_);have hno:¬ ∃ x∈l.take i,x.a=l[i].a:=λh2=>by rw[hy.2 h2] at h;cases h
 by_cases U:l[i]∈able
 simp only[decide_eq_true U];exact⟨λh=>(by simp at h),λ_=>⟨U,hno⟩⟩
 simp only[decide_eq_false U];exact⟨λ_=>.inl U,λh=>by simp at h⟩
 refine iR (λh=>iK (.inl ⟨rfl,.inl ⟨i,hi,hb.1 h⟩⟩)) λh=>hk λj hj hji=>?_
 by_cases hjl:j<i
 exact hI j hj hjl
 have:j=i:=by omega
 subst this;exact hb.2 h
 unfold BZ;refine iJ (λh=>absurd h aB) λ_=>?_
 have h1:¬ ∃ i,∃ h:i<l.length,l[i] ∉ able\/∃ x∈l.take i,x.a=l[i].a:=by
  rintro⟨i,hi,h|h⟩
  exact h (hI i hi hi).1
  exact (hI i hi hi).2 h
 refine lH 0 s.objects.length (λn=>∀ j,∀ h:j<s.objects.length,j<n->¬ (YB T j=true/\NS l s.objects[j].id=1)) 0 rfl (Nat.zero_le _) ai (λi _ h=>by omega) (λj k hj hJ hk=>?_) λk hJ=>?_
 unfold BX;refine iJ (λ_=>jf (λ_=>¬ (YB T j=true/\NS l s.objects[j].id=1)) (λk16 I=>?_) λ_ hb=>hk λi hi hij=>?_) λh=>absurd (show (j:Int)<(s.objects.length:Int) by omega) h
 refine jl j rfl hj (iU (ajr T j) (iU (mkey j) (iR (λh=>I _ λh2=>by rw[h2.1] at h;cases h) λh=>?_)));have U:YB T j=true:=by cases hh:YB T j with|true=>rfl|false=>rw[hh] at h;cases h
 refine ve 0 l.length (λn c=>c=(NS (l.take n) s.objects[j].id:Int)) 0 rfl (Nat.zero_le _) ai rfl (λn c k22 hn hc C=>?_) λc k22 hc=>?_
 have hcl:NS (l.take n) s.objects[j].id<=n:=Nat.le_trans (afN _ _) aT;unfold BV;refine iJ (λ_=>jf (λu=>u=(NS (l.take (n+1)) s.objects[j].id:Int)) (λk25 J=>?_) λu hu=>C u hu) λh=>absurd (show (n:Int)<(l.length:Int) by omega) h;refine jl n rfl hn (iJ (λe=>J _ ?_) λe=>J _ ?_)
 rw[QI l _ n hn,if_pos e,hc];exact lC ai
 rw[QI l _ n hn,if_neg e,hc];rfl
 unfold BV;rw[qf] at hc;refine iJ (λh=>absurd h aB) λ_=>iJ (λe=>iK (.inl ⟨rfl,.inr ⟨j,hj,U,?_⟩⟩)) λe=>I _ λh2=>e ?_
 have e:c=1:=e;omega
 show c=1;have:=h2.2;omega
 by_cases R:i<j
 exact hJ i hi R
 have:i=j:=by omega
 subst this;exact hb
 unfold BX;refine iJ (λh=>absurd h az) λ_=>iK (.inr ⟨rfl,?_⟩)
 rintro (h|⟨j,hj,h⟩)
 exact h1 h
 exact hJ j hj hj h
theorem agD (s:iT)(T:List iM)(id:Int)(R:∀ t∈T,qX t)(ho:s.objects.length<=2048)(hA:Asc s.objects):Ok (λr=>r=true↔∃ j,∃ h:j<s.objects.length,YB T j=true/\s.objects[j].id=id) (Iz s T id):=by
 unfold Iz;refine lH 0 s.objects.length (λn=>∀ j,∀ h:j<s.objects.length,j<n->s.objects[j].id≠id) 0 rfl (Nat.zero_le _) ai (λi _ h=>by omega) (λi k hi hI hk=>?_) λk hI=>?_
 unfold ED;refine iJ (λ_=>jl i rfl hi (iJ (λe=>iU (anD T i) ?_) λe=>hk λj hj J=>?_)) λh=>absurd (show (i:Int)<(s.objects.length:Int) by omega) h
 have hk:=(ajq R i).k;refine iU (NJ (trA T i).keys 9 hk.1 hk.2) (iK ⟨λh=>⟨i,hi,h,e⟩,?_⟩)
 rintro⟨j,hj,h1,h2⟩
 have:j=i:=hA.inj (List.getElem?_eq_getElem hj) (List.getElem?_eq_getElem hi) (by rw[h2,e]);subst this;exact h1
 by_cases U:j<i
 exact hI j hj U
 have:j=i:=by omega
 subst this;exact e
 unfold ED;refine iJ (λh=>absurd h az) λ_=>iK ⟨λh=>bJ,?_⟩
 rintro⟨j,hj,_,h2⟩
 exact absurd h2 (hI j hj hj)
theorem agE (s:iT)(T:List iM)(p:Int)(able l:List iL)(hT:∀ t∈T,qX t)(ho:s.objects.length<=2048)(hA:Asc s.objects)(hab:able.length<=4194304)(hl:l.length<=100000)(e:yu s T p=some able) :
  Ok (λr=>(r=19/\anF s T able l)\/(r=0/\¬ anF s T able l)) (G9 s T p l):=by
 let bad:Nat->Prop:=λi=>∃ h:i<l.length,l[i] ∉ able\/(∃ k,∃ h2:k<l.length,k≠i/\l[k].a=l[i].a)\/(NS l l[i].b=1/\∃ j,∃ h3:j<s.objects.length,YB T j=true/\s.objects[j].id=l[i].b);unfold G9;refine iU e ?_;refine lH 0 l.length (λn=>∀ i,i<n->¬ bad i) 0 rfl (Nat.zero_le _) ai (λi h=>by omega) (λi k hi hI hk=>?_) λk hI=>?_
 unfold Gt;refine iJ (λ_=>jl i rfl hi (iU (ak3 able l[i] hab) (iR (λh=>iK (.inl ⟨rfl,i,hi,.inl ?_⟩)) λh=>?_))) λh=>absurd (show (i:Int)<(l.length:Int) by omega) h
 intro hm;rw[decide_eq_true hm] at h;cases h
 have hmem:l[i]∈able:=by
  refine Classical.byContradiction λhm=>?_;rw[decide_eq_false hm] at h;cases h
 refine ve 0 l.length (λn c=>c=(NS (l.take n) l[i].b:Int)/\∀ k,∀ h:k<l.length,k<n->k≠i->l[k].a≠l[i].a) 0 rfl (Nat.zero_le _) ai ⟨rfl,λk _ h=>by omega⟩ (λn c k8 hn hc hk8=>?_) λc k8 hc=>?_
 obtain⟨U,J⟩:=hc;have hcl:NS (l.take n) l[i].b<=n:=Nat.le_trans (afN _ _) aT;unfold Gs;refine iJ (λ_=>jf (λu=>u=(NS (l.take (n+1)) l[i].b:Int)/\(n≠i->l[n].a≠l[i].a)) (λk11 h11=>?_) λu hu=>hk8 u ⟨hu.1,λk hk hkn g=>?_⟩) λh=>absurd (show (n:Int)<(l.length:Int) by omega) h
 refine jf (λb=>(b=true->n≠i/\l[n].a=l[i].a)/\(b=false->n≠i->l[n].a≠l[i].a)) (λk14 h14=>?_) λb hb=>?_
 refine lI (λh=>jl n rfl hn (jl i rfl hi (h14 _ ?_))) λh=>h14 _ ⟨λh=>bJ,λ_ h2=>absurd (show n=i by simp only at h;omega) h2⟩;have R:n≠i:=by simp only at h;omega
 by_cases ha:l[n].a=l[i].a
 rw[decide_eq_true ha];exact⟨λ_=>⟨R,ha⟩,λh=>by cases h⟩
 rw[decide_eq_false ha];exact⟨λh=>bJ,λ_ _=>ha⟩
 refine iR (λh=>iK (.inl ⟨rfl,i,hi,.inr (.inl ⟨n,hn,(hb.1 h).1,(hb.1 h).2⟩)⟩)) λh=>jl n rfl hn (jl i rfl hi (iJ (λe=>h11 _ ⟨?_,hb.2 h⟩) λe=>h11 _ ⟨?_,hb.2 h⟩))
 rw[QI l _ n hn,if_pos e,U];exact lC ai
 rw[QI l _ n hn,if_neg e,U];rfl
 by_cases hkn2:k<n
 exact J k hk hkn2 g
 have:k=n:=by omega
 subst this;exact hu.2 g
 obtain⟨U,J⟩:=hc;rw[qf] at U;unfold Gs;refine iJ (λh=>absurd h aB) λ_=>jf (λb=>b=true↔(NS l l[i].b=1/\∃ j,∃ h3:j<s.objects.length,YB T j=true/\s.objects[j].id=l[i].b)) (λk21 h21=>?_) λb hb=>?_
 refine iJ (λe=>jl i rfl hi (iO (agD s T _ hT ho hA) λy hy=>h21 _ ⟨λh=>⟨?_,hy.1 h⟩,λh=>hy.2 h.2⟩)) λe=>h21 _ ⟨λh=>bJ,λh=>absurd ?_ e⟩
 have e:c=1:=e;omega
 show c=1;have:=h.1;omega
 refine iR (λh=>iK (.inl ⟨rfl,i,hi,.inr (.inr (hb.1 h))⟩)) λI=>hk λj hj=>?_
 by_cases hji:j<i
 exact hI j hji
 have:j=i:=by omega
 subst this
 rintro⟨_,h1|⟨k2,C,R,e2⟩|h1⟩
 exact h1 hmem
 exact J k2 C C R e2
 rw[hb.2 h1] at I;cases I
 unfold Gt;refine iJ (λh=>absurd h aB) λ_=>iK (.inr ⟨rfl,?_⟩)
 rintro⟨i,hi,h⟩
 exact hI i hi ⟨hi,h⟩
theorem ajs (s:iT)(T:List iM)(p:Int)(able l:List iL)(R:∀ t∈T,qX t)(ho:s.objects.length<=2048)(hA:Asc s.objects)(U:able.length<=4194304)(J:l.length<=100000)(e:yu s T p=some able) :
  ∃ r,yw s T p l=some r/\G9 s T p l=some r:=by
 obtain⟨r1,e1,h1⟩:=aag s T p able l R ho U J (by rw[abu s T p R];exact e);obtain⟨r2,I,h2⟩:=agE s T p able l R ho hA U J e
 have:r1=r2:=by
  rcases h1 with ⟨rfl,h1⟩|⟨rfl,h1⟩<;>rcases h2 with ⟨rfl,h2⟩|⟨rfl,h2⟩
  rfl
  exact absurd ((afO s T able l).1 h1) h2
  exact absurd ((afO s T able l).2 h2) h1
  rfl
 subst this;exact⟨r1,e1,I⟩
theorem Vp (cards:List jI)(s:iT)(l:List iL)(hc:rO mY cards)(hs:kQ s):xm cards s l=some true:=by
 have al:xZ=some true:=rfl;have hp:=hs.1.1;unfold xm;refine ok_eq (jf (λb=>b=false->(uN cards s=some true/\aez cards s)/\l.length<=30) (λk hk=>?_) λb hb=>?_)
 refine iO (RJ cards s hc hs) λy hy=>iR (λ_=>hk _ λh=>by cases h) λh=>hk _ λh2=>⟨hy bI,?_⟩
 have:=of_decide_eq_false h2;simp only[iV] at this;omega
 refine iR (λ_=>iU al (iK rfl)) λh=>?_;obtain⟨⟨hIs,V⟩,hl⟩:=hb h;have hA:=abo cards s hc hs hIs;refine iO (PW cards s hc hs V.c V.o) λT g=>?_;refine lH 0 s.ji.length (λ_=>True) 0 rfl (Nat.zero_le _) ai trivial (λi k8 hi _ hk8=>?_) λk _=>?_
 unfold uA;refine iJ (λ_=>?_) λh=>absurd (show (i:Int)<(s.ji.length:Int) by omega) h;obtain⟨able,e,J⟩:=aab s T (i:Int) g.2 V.o;refine iU e ?_;refine lK 0 l.length (λn t=>t.length=n) 0 rfl (Nat.zero_le _) ai rfl (λn t k12 hn ht I=>?_) λt k12 ht=>?_
 unfold uz;refine iJ (λ_=>jf (λu=>u.length=n+1) (λk15 h15=>?_) λu hu=>I u hu) λh=>absurd (show (n:Int)<(l.length:Int) by omega) h;refine jl n rfl hn (jf (λ_=>True) (λk19 R=>?_) λx _=>jG (by show (2*(t.length+1)+192)*24<=_;omega) aX (h15 _ (by simp[ht])));refine jf (λb=>b=true->0<able.length) (λk22 U=>iJ (λ_=>U _ λh=>by have:=of_decide_eq_true h;simp only[iV] at this;omega) λ_=>U _ λh=>by cases h) λb hb=>iR (λh=>?_) λ_=>R _ trivial;have hpos:=hb h;have hw:IntKind.u64.wrap (iV able)=(able.length:Int):=by rw[IntKind.wrap_u64];simp only[iV];omega
 rw[hw];refine vU ai λx hx=>?_;have hx0:0<=IntKind.u64.wrap (l[n]).a:=by rw[IntKind.wrap_u64];omega
 have C:0<=x/\x<(able.length:Int):=by
  rw[hx];exact⟨Int.tmod_nonneg _ hx0,by have:=Int.tmod_lt_of_pos (IntKind.u64.wrap (l[n]).a) (show (0:Int)<(able.length:Int) by omega);exact this⟩
 have hw2:IntKind.i64.wrap x=x:=wrap_in ai ai;rw[hw2];exact mM C.1 C.2 λy _=>R _ trivial
 unfold uz;refine iJ (λh=>absurd h aB) λ_=>jf (λb=>b=false) (λk27 h27=>?_) λb hb=>?_
 obtain⟨r,e1,e2⟩:=ajs s T (i:Int) able t g.2 V.o hA J ai e;refine iU e1 (iU e2 (lI (λh=>absurd rfl h) λ_=>?_));refine iO (aag s T (i:Int) able [] g.2 V.o J aI (by rw[abu s T _ g.2];exact e)) λr hr=>h27 _ ?_;rcases hr with ⟨rfl,h⟩|⟨rfl,_⟩
 exfalso
 rcases h with ⟨i,hi,_⟩|⟨j,hj,_,h⟩
 simp at hi
 simp[NS] at h
 rfl
 subst hb;exact iR (λh=>by cases h) λ_=>hk8 trivial
 unfold uA;exact iJ (λh=>absurd h dm) λ_=>iU al (iK rfl)
end Go.Proofs.YtlacmdnhabblcaaGreat
