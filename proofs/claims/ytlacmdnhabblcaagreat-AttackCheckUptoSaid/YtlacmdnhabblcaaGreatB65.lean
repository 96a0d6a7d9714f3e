import Derived.Test.YtlacmdnhabblcaaGreatB45
import Derived.Test.YtlacmdnhabblcaaGreatB62
set_option linter.all false
namespace Go.Proofs.YtlacmdnhabblcaaGreat
open Go Go.Pv
set_option maxRecDepth 100000
theorem ajt (s:List Int)(v:Int)(hs:s.length<=1048576):Ok (λr=>(v ∉ s/\r=-1)\/∃ n:Nat,r=(n:Int)/\v∈s) (slices_Index_int s v):=by
 unfold slices_Index_int;refine lH 0 s.length (λn=>v ∉ s.take n) 0 rfl (Nat.zero_le _) ai aI ?_ ?_
 intro i k hi hI hk;unfold vk;refine oK (ltT hi) (jl i rfl hi (iJ (λe=>?_) λe=>hk ?_))
 exact iK (.inr ⟨i,rfl,e ▸ List.getElem_mem hi⟩)
 rw[uV s i hi];simp only[List.mem_append,List.mem_singleton];exact λh=>h.elim hI e
 intro k hI;unfold vk;exact lQ ltF (iK (.inl ⟨by rwa [takeA] at hI,rfl⟩))
theorem ade (s:List Int)(v:Int)(hs:s.length<=1048576):slices_Contains_int s v=some (decide (v∈s)):=by
 unfold slices_Contains_int;refine ok_eq (iO (ajt s v hs) ?_)
 rintro r (⟨h,rfl⟩|⟨n,rfl,h⟩)
 exact iK bu
 exact iK bu
theorem aju {o:iW}{y:List Int}{x:iL}(h:x∈Vl o y):x.a=o.id:=by
 obtain⟨p,_,rfl⟩:=List.mem_map.1 h;rfl
theorem aah (s:iT)(T:List iM)(y:List Int){x:iL}:∀ n,x∈FX s T y n->∃ i,∃ h:i<s.objects.length,x.a=s.objects[i].id
 | 0,h=>by simp[FX] at h
 | n+1,h=>by
  unfold FX at h;rcases List.mem_append.1 h with h|h
  exact aah s T y n h
  split at h
  rename_i U
  split at h
  exact⟨n,U,aju h⟩
  simp at h
  simp at h
def aai (s:iT)(T:List iM)(able:List iL)(i:Nat):Prop:=∃ h:i<s.objects.length,kB (trA T i).keys 65536=true/\∃ o∈able,o.a=s.objects[i].id
def ak5 (s:iT)(T:List iM)(able l:List iL):Prop :=
 (∃ i,∃ h:i<l.length,l[i] ∉ able\/∃ x∈l.take i,x.a=l[i].a)\/∃ i,∃ h:i<s.objects.length,aai s T able i/\∀ x∈l,x.a≠s.objects[i].id
theorem ak6 (s:iT)(T:List iM)(id key:Int)(I:T.length=s.objects.length)(ho:s.objects.length<=60)(hA:Asc s.objects)(i:Nat)(hi:i<s.objects.length)(e:s.objects[i].id=id):IG s T id key=some (kB (trA T i).keys key):=by
 have ix:Ok (λr=>r=(i:Int)) (jF s.objects λa0=>CS a0 id):=by
  unfold jF;refine lH 0 s.objects.length (λn=>n<=i) 0 rfl (Nat.zero_le _) ai (Nat.zero_le _) (λj k hj hI hk=>?_) λk hI=>by omega
  unfold kG;refine iJ (λ_=>jl j rfl hj (iU (x:=decide (s.objects[j].id=id)) rfl (iJ (λJ=>iK ?_) λJ=>hk ?_))) λh=>absurd (show (j:Int)<(s.objects.length:Int) by omega) h
  have:j=i:=hA.inj (List.getElem?_eq_getElem hj) (List.getElem?_eq_getElem hi) (by rw[J,e]);rw[this]
  by_cases R:j=i
  subst R;exact absurd e J
  omega
 have U:i<T.length:=by omega
 unfold IG;refine ok_eq (iO ix λr hr=>?_);subst hr;refine iJ (λ_=>iJ (λ_=>jl i rfl U (iU (afK _ _) (iK (by rw[Vm U])))) λh=>absurd (show (i:Int)<(T.length:Int) by omega) h) λh=>absurd (show (0:Int)<=(i:Int) by omega) h
theorem ak7 (s:iT)(T:List iM)(U:List iL)(hT:T.length=s.objects.length)(ho:s.objects.length<=60)(hA:Asc s.objects)(hab:U.length<=1000)(hm:∀ x∈U,∃ i,∃ h:i<s.objects.length,x.a=s.objects[i].id)(e:uD s T=some U) :
  Ok (λr=>r.length<=1000/\∀ x,x∈r↔∃ i,∃ h:i<s.objects.length,aai s T U i/\s.objects[i].id=x) (Fq s T):=by
 unfold Fq;refine iU e ?_;refine lK 0 U.length (λn t=>t.length<=n/\∀ x,x∈t↔∃ i,∃ h:i<s.objects.length,(kB (trA T i).keys 65536=true/\∃ o∈U.take n,o.a=s.objects[i].id)/\s.objects[i].id=x) 0 rfl (Nat.zero_le _) ai ⟨by simp,by simp⟩ (λn t k hn hI hk=>?_) λt k hI=>?_
 obtain⟨g,J⟩:=hI;obtain⟨i,hi,I⟩:=hm _ (List.getElem_mem hn)
 have R:∀ (j:Nat) (hj:j<s.objects.length),(∃ o∈U.take (n+1),o.a=s.objects[j].id)↔(∃ o∈U.take n,o.a=s.objects[j].id)\/j=i:=by
  intro j hj;rw[uV U n hn];constructor
  rintro⟨o,ho2,he⟩
  rcases List.mem_append.1 ho2 with h|h
  exact .inl ⟨o,h,he⟩
  rw[List.mem_singleton.1 h,I] at he;exact .inr (hA.inj (List.getElem?_eq_getElem hj) (List.getElem?_eq_getElem hi) he.symm)
  rintro (⟨o,h,he⟩|rfl)
  exact⟨o,List.mem_append_left _ h,he⟩
  exact⟨U[n],List.mem_append_right _ aI,I⟩
 unfold CU;refine iJ (λ_=>jf (λu=>u.length<=n+1/\∀ x,x∈u↔∃ i,∃ h:i<s.objects.length,(kB (trA T i).keys 65536=true/\∃ o∈U.take (n+1),o.a=s.objects[i].id)/\s.objects[i].id=x) (λk6 h6=>?_) λu hu=>hk u hu) λh=>absurd (show (n:Int)<(U.length:Int) by omega) h;refine jl n rfl hn (jf (λb=>b=decide (kB (trA T i).keys 65536=true/\s.objects[i].id ∉ t)) (λk10 C=>?_) λb hb=>?_)
 refine iU (ak6 s T _ 65536 hT ho hA i hi I.symm) (iR (λh=>iU (ade t _ ai) (C _ ?_)) λh=>C _ ?_)
 rw[I]
 by_cases hx:s.objects[i].id∈t
 simp[hx]
 simp[hx,h]
 simp[h]
 subst hb;refine iJ (λh=>jG aV aX (h6 _ ⟨by simp only[List.length_append,List.length_singleton];omega,λx=>?_⟩)) λh=>h6 _ ⟨by show t.length<=_;omega,λx=>?_⟩
 constructor
 intro hx;rcases List.mem_append.1 hx with hx|hx
 obtain⟨j,hj,h1,h2⟩:=(J x).1 hx;exact⟨j,hj,⟨h1.1,(R j hj).2 (.inl h1.2)⟩,h2⟩
 rw[List.mem_singleton.1 hx];exact⟨i,hi,⟨h.1,(R i hi).2 (.inr rfl)⟩,I.symm⟩
 rintro⟨j,hj,h1,h2⟩
 rcases (R j hj).1 h1.2 with h3|rfl
 exact List.mem_append_left _ ((J x).2 ⟨j,hj,⟨h1.1,h3⟩,h2⟩)
 refine List.mem_append_right _ ?_;rw[<- h2,<- I];simp
 rw[show ((n:Int),t).2=t from rfl,J x];constructor
 rintro⟨j,hj,h1,h2⟩
 exact⟨j,hj,⟨h1.1,(R j hj).2 (.inl h1.2)⟩,h2⟩
 rintro⟨j,hj,h1,h2⟩
 rcases (R j hj).1 h1.2 with h3|rfl
 exact⟨j,hj,⟨h1.1,h3⟩,h2⟩
 have:s.objects[j].id∈t:=Classical.byContradiction λhn2=>h ⟨h1.1,hn2⟩;rw[h2] at this;exact (J x).1 this
 obtain⟨g,J⟩:=hI;rw[takeA] at J;unfold CU;refine iJ (λh=>absurd h (by show ¬ (U.length:Int)<(U.length:Int);omega)) λ_=>iK ⟨by show t.length<=1000;omega,λx=>?_⟩;rw[show ((U.length:Int),t).2=t from rfl,J x];constructor
 rintro⟨j,hj,h1,h2⟩;exact⟨j,hj,⟨hj,h1⟩,h2⟩
 rintro⟨j,hj,⟨_,h1⟩,h2⟩;exact⟨j,hj,h1,h2⟩
theorem agF (s:iT)(T:List iM)(U l:List iL)(hT:T.length=s.objects.length)(ho:s.objects.length<=60)(hA:Asc s.objects)(g:U.length<=1000)(hm:∀ x∈U,∃ i,∃ h:i<s.objects.length,x.a=s.objects[i].id)(hl:l.length<=30)(e:uD s T=some U) :
  Ok (λr=>(r=18/\ak5 s T U l)\/(r=0/\¬ ak5 s T U l)) (CV s T l):=by
 unfold CV;refine iU e ?_;refine lH 0 l.length (λn=>∀ i,∀ h:i<l.length,i<n->l[i]∈U/\¬ ∃ x∈l.take i,x.a=l[i].a) 0 rfl (Nat.zero_le _) ai (λi _ h=>by omega) (λi k hi hI hk=>?_) λk hI=>?_
 unfold zV;refine iJ (λ_=>jl i rfl hi (UU rfl rfl (Nat.zero_le _) (Nat.le_of_lt hi) ?_)) λh=>absurd (show (i:Int)<(l.length:Int) by omega) h;have I:zo l 0 (i-0)=l.take i:=by simp[zo]
 show Ok _ (bnd (jZ (zo l 0 (i-0)) _) _);rw[I];refine iO (Yt (l.take i) l[i] aT) λy hy=>jf (λb=>(b=true->l[i] ∉ U\/∃ x∈l.take i,x.a=l[i].a)/\(b=false->l[i]∈U/\¬ ∃ x∈l.take i,x.a=l[i].a)) (λk9 h9=>?_) λb hb=>?_
 refine iR (λh=>h9 _ ⟨λ_=>.inr (hy.1 h),λh=>bJ⟩) λh=>iU (Ug U l[i] ai) (h9 _ ?_);have hno:¬ ∃ x∈l.take i,x.a=l[i].a:=λh2=>by rw[hy.2 h2] at h;cases h
 by_cases R:l[i]∈U
 simp only[decide_eq_true R];exact⟨λh=>(by simp at h),λ_=>⟨R,hno⟩⟩
 simp only[decide_eq_false R];exact⟨λ_=>.inl R,λh=>(by simp at h)⟩
 refine iR (λh=>iK (.inl ⟨rfl,.inl ⟨i,hi,hb.1 h⟩⟩)) λh=>hk λj hj hji=>?_
 by_cases hjl:j<i
 exact hI j hj hjl
 have:j=i:=by omega
 subst this;exact hb.2 h
 unfold zV;refine iJ (λh=>absurd h aB) λ_=>iO (ak7 s T U hT ho hA g hm e) λM hM=>?_
 have h1:¬ ∃ i,∃ h:i<l.length,l[i] ∉ U\/∃ x∈l.take i,x.a=l[i].a:=by
  rintro⟨i,hi,h|h⟩
  exact h (hI i hi hi).1
  exact (hI i hi hi).2 h
 have hM1:=hM.1;refine lH 0 M.length (λn=>∀ x∈M.take n,∃ o∈l,o.a=x) 0 rfl (Nat.zero_le _) ai aI (λn k14 hn C J=>?_) λk14 C=>?_
 unfold zU;have tw:Ok (λr=>r=true↔∃ x∈l,x.a=M[n]) (jZ l λa0=>vW a0 M[n]):=Yt l ⟨0,M[n],0⟩ ai;refine iJ (λ_=>jl n rfl hn (iO tw λy hy=>iR (λh=>iK (.inl ⟨rfl,.inr ?_⟩)) λh=>J λx hx=>?_)) λh=>absurd (show (n:Int)<(M.length:Int) by omega) h
 have hno:¬ ∃ x∈l,x.a=M[n]:=λh2=>by rw[hy.2 h2] at h;cases h
 obtain⟨i,hi,g1,g2⟩:=(hM.2 M[n]).1 (List.getElem_mem hn);exact⟨i,hi,g1,λx hx hxa=>hno ⟨x,hx,by rw[hxa,g2]⟩⟩
 rw[uV M n hn] at hx;rcases List.mem_append.1 hx with hx|hx
 exact C x hx
 rw[List.mem_singleton.1 hx];exact hy.1 bI
 rw[takeA] at C;unfold zU;refine iJ (λh=>absurd h (by show ¬ (M.length:Int)<(M.length:Int);omega)) λ_=>iK (.inr ⟨rfl,?_⟩)
 rintro (h|⟨i,hi,g1,g2⟩)
 exact h1 h
 obtain⟨o,ho2,hoa⟩:=C _ ((hM.2 s.objects[i].id).2 ⟨i,hi,g1,rfl⟩);exact g2 o ho2 hoa
theorem Zd (l:List iL)(o:iL)(U:l.length<=4194304):CW l o=some (decide (o∈l)):=by
 unfold CW;refine ok_eq (lH 0 l.length (λn=>o ∉ l.take n) 0 rfl (Nat.zero_le _) ai aI (λi k hi hI hk=>?_) λk hI=>?_)
 unfold zW;refine iJ (λ_=>jl i rfl hi (uf ?_)) λh=>absurd (show (i:Int)<(l.length:Int) by omega) h;rw[ajk];refine iJ (λe=>iK ?_) λe=>hk ?_
 have:o∈l:=e ▸ List.getElem_mem hi;simp[this]
 rw[uV l i hi];simp only[List.mem_append,List.mem_singleton];exact λh=>h.elim hI λh=>e h.symm
 unfold zW;rw[takeA] at hI;exact iJ (λh=>absurd h aB) λ_=>iK (by simp[hI])
theorem agG (s:iT)(T:List iM)(U:List iL)(hT:T.length=s.objects.length)(ho:s.objects.length<=60)(hab:U.length<=1000)(e:CP s T=some U) :
  Ok (λr=>r.length<=1000/\∀ x,x∈r↔∃ i,∃ h:i<s.objects.length,aai s T U i/\s.objects[i].id=x) (II s T):=by
 unfold II;refine iU e ?_;refine lK 0 s.objects.length (λn t=>t.length<=n/\∀ x,x∈t↔∃ i,∃ h:i<s.objects.length,i<n/\aai s T U i/\s.objects[i].id=x) 0 rfl (Nat.zero_le _) ai ⟨by simp,by simp⟩ (λn t k hn hI hk=>?_) λt k hI=>?_
 obtain⟨hI1,R⟩:=hI;have hTi:n<T.length:=by omega
 unfold EL;refine iJ (λ_=>jf (λu=>u.length<=n+1/\∀ x,x∈u↔∃ i,∃ h:i<s.objects.length,i<n+1/\aai s T U i/\s.objects[i].id=x) (λk6 h6=>?_) λu hu=>hk u hu) λh=>absurd (show (n:Int)<(s.objects.length:Int) by omega) h;refine ve 0 U.length (λm c=>c=true↔∃ o∈U.take m,o.a=s.objects[n].id) 0 rfl (Nat.zero_le _) ai aI (λm c k9 hm2 C hk9=>?_) λc k9 C=>?_
 have hs:(∃ o∈U.take (m+1),o.a=s.objects[n].id)↔(∃ o∈U.take m,o.a=s.objects[n].id)\/U[m].a=s.objects[n].id:=by
  rw[uV U m hm2];constructor
  rintro⟨o,h1,h2⟩
  rcases List.mem_append.1 h1 with h1|h1
  exact .inl ⟨o,h1,h2⟩
  rw[List.mem_singleton.1 h1] at h2;exact .inr h2
  rintro (⟨o,h1,h2⟩|h)
  exact⟨o,List.mem_append_left _ h1,h2⟩
  exact⟨_,List.mem_append_right _ (List.mem_singleton.2 rfl),h⟩
 unfold EK;refine iJ (λ_=>iR (λh=>hk9 _ ⟨λ_=>hs.2 (.inl (C.1 h)),λ_=>rfl⟩) λh=>jl m rfl hm2 (jl n rfl hn (hk9 _ ?_))) λh=>absurd (show (m:Int)<(U.length:Int) by omega) h;rw[decide_eq_true_iff];constructor
 exact λh2=>hs.2 (.inr h2)
 intro h2;rcases hs.1 h2 with J|J
 have:=C.2 J;rw[show c=false from h] at this;cases this
 exact J
 rw[takeA] at C;unfold EK;refine iJ (λh=>absurd h (by show ¬ (U.length:Int)<(U.length:Int);omega)) λ_=>jf (λb=>b=true↔aai s T U n) (λk14 g=>?_) λb hb=>?_
 refine iR (λh=>iU (NQ T n _ hTi) (g _ ?_)) λh=>g _ ?_
 rw[<- Vm hTi];exact⟨λh2=>⟨hn,h2,C.1 h⟩,λh2=>h2.2.1⟩
 exact⟨λh2=>(by cases h2),λh2=>by have:=C.2 h2.2.2;rw[show c=false from h] at this;cases this⟩
 refine iR (λh=>jl n rfl hn (jG aV aX (h6 _ ⟨by simp only[List.length_append,List.length_singleton];omega,λx=>?_⟩))) λh=>h6 _ ⟨by show t.length<=_;omega,λx=>?_⟩
 constructor
 intro hx;rcases List.mem_append.1 hx with hx|hx
 obtain⟨j,hj,h1,h2⟩:=(R x).1 hx;exact⟨j,hj,by omega,h2⟩
 rw[List.mem_singleton.1 hx];exact⟨n,hn,by omega,hb.1 h,rfl⟩
 rintro⟨j,hj,h1,h2,J⟩
 by_cases I:j=n
 subst I;refine List.mem_append_right _ ?_;rw[<- J];simp
 exact List.mem_append_left _ ((R x).2 ⟨j,hj,by omega,h2,J⟩)
 rw[show ((n:Int),t).2=t from rfl,R x];constructor
 rintro⟨j,hj,h1,h2⟩;exact⟨j,hj,by omega,h2⟩
 rintro⟨j,hj,h1,h2,J⟩
 by_cases I:j=n
 subst I;have:=hb.2 h2;rw[h] at this;cases this
 exact⟨j,hj,by omega,h2,J⟩
 obtain⟨hI1,R⟩:=hI;unfold EL;refine iJ (λh=>absurd h az) λ_=>iK ⟨by show t.length<=1000;omega,λx=>?_⟩;rw[show ((s.objects.length:Int),t).2=t from rfl,R x];constructor
 rintro⟨j,hj,_,h2⟩;exact⟨j,hj,h2⟩
 rintro⟨j,hj,h2⟩;exact⟨j,hj,hj,h2⟩
theorem adf (s:iT)(T:List iM)(U l:List iL)(hT:T.length=s.objects.length)(ho:s.objects.length<=60)(hab:U.length<=1000)(hl:l.length<=30)(e:CP s T=some U) :
  Ok (λr=>(r=18/\ak5 s T U l)\/(r=0/\¬ ak5 s T U l)) (L9 s T l):=by
 unfold L9;refine iU e ?_;refine lH 0 l.length (λn=>∀ i,∀ h:i<l.length,i<n->l[i]∈U/\¬ ∃ x∈l.take i,x.a=l[i].a) 0 rfl (Nat.zero_le _) ai (λi _ h=>by omega) (λi k hi hI hk=>?_) λk hI=>?_
 unfold GG;refine iJ (λ_=>jl i rfl hi (iU (Zd U l[i] ai) (iR (λh=>iK (.inl ⟨rfl,.inl ⟨i,hi,.inl ?_⟩⟩)) λh=>?_))) λh=>absurd (show (i:Int)<(l.length:Int) by omega) h
 intro hm;rw[decide_eq_true hm] at h;cases h
 have hmem:l[i]∈U:=by
  refine Classical.byContradiction λhm=>?_;rw[decide_eq_false hm] at h;cases h
 refine lH 0 i (λm=>¬ ∃ x∈l.take m,x.a=l[i].a) 0 rfl (Nat.zero_le _) ai aI (λm k8 I J hk8=>?_) λk8 J=>?_
 unfold Gx;refine iJ (λ_=>jl m rfl ai (jl i rfl hi (iJ (λe2=>iK (.inl ⟨rfl,.inl ⟨i,hi,.inr ⟨l[m],?_,e2⟩⟩⟩)) λe2=>hk8 ?_))) λh=>absurd (show (m:Int)<(i:Int) by omega) h
 have:(l.take i)[m]' aT=l[m]:=List.getElem_take;rw[<- this];exact List.getElem_mem _
 rw[uV l m ai]
 rintro⟨x,hx,hxa⟩
 rcases List.mem_append.1 hx with hx|hx
 exact J ⟨x,hx,hxa⟩
 rw[List.mem_singleton.1 hx] at hxa;exact e2 hxa
 unfold Gx;refine iJ (λh=>absurd h (by show ¬ (i:Int)<(i:Int);omega)) λ_=>hk λj hj hji=>?_
 by_cases hjl:j<i
 exact hI j hj hjl
 have:j=i:=by omega
 subst this;exact⟨hmem,J⟩
 unfold GG;refine iJ (λh=>absurd h aB) λ_=>iO (agG s T U hT ho hab e) λM hM=>?_
 have h1:¬ ∃ i,∃ h:i<l.length,l[i] ∉ U\/∃ x∈l.take i,x.a=l[i].a:=by
  rintro⟨i,hi,h|h⟩
  exact h (hI i hi hi).1
  exact (hI i hi hi).2 h
 have hM1:=hM.1;refine lH 0 M.length (λn=>∀ x∈M.take n,∃ o∈l,o.a=x) 0 rfl (Nat.zero_le _) ai aI (λn k14 hn J g=>?_) λk14 J=>?_
 unfold Gz;refine iJ (λ_=>?_) λh=>absurd (show (n:Int)<(M.length:Int) by omega) h;refine ve 0 l.length (λm c=>c=true↔∃ o∈l.take m,o.a=M[n]) 0 rfl (Nat.zero_le _) ai aI (λm c k17 I C R=>?_) λc k17 C=>?_
 have hs:(∃ o∈l.take (m+1),o.a=M[n])↔(∃ o∈l.take m,o.a=M[n])\/l[m].a=M[n]:=by
  rw[uV l m I];constructor
  rintro⟨o,h1,h2⟩
  rcases List.mem_append.1 h1 with h1|h1
  exact .inl ⟨o,h1,h2⟩
  rw[List.mem_singleton.1 h1] at h2;exact .inr h2
  rintro (⟨o,h1,h2⟩|h)
  exact⟨o,List.mem_append_left _ h1,h2⟩
  exact⟨_,List.mem_append_right _ (List.mem_singleton.2 rfl),h⟩
 unfold Gy;refine iJ (λ_=>iR (λh=>R _ ⟨λ_=>hs.2 (.inl (C.1 h)),λ_=>rfl⟩) λh=>jl m rfl I (jl n rfl hn (R _ ?_))) λh=>absurd (show (m:Int)<(l.length:Int) by omega) h;rw[decide_eq_true_iff];constructor
 exact λh2=>hs.2 (.inr h2)
 intro h2;rcases hs.1 h2 with h3|h3
 have:=C.2 h3;rw[show c=false from h] at this;cases this
 exact h3
 rw[takeA] at C;unfold Gy;refine iJ (λh=>absurd h aB) λ_=>iR (λh=>iK (.inl ⟨rfl,.inr ?_⟩)) λh=>g λx hx=>?_
 have hno:¬ ∃ x∈l,x.a=M[n]:=λh2=>by have:=C.2 h2;rw[show c=true from this] at h;cases h
 obtain⟨i,hi,g1,g2⟩:=(hM.2 M[n]).1 (List.getElem_mem hn);exact⟨i,hi,g1,λx hx hxa=>hno ⟨x,hx,by rw[hxa,g2]⟩⟩
 rw[uV M n hn] at hx;rcases List.mem_append.1 hx with hx|hx
 exact J x hx
 rw[List.mem_singleton.1 hx];exact C.1 (by cases c with|true=>rfl|false=>cases h)
 rw[takeA] at J;unfold Gz;refine iJ (λh=>absurd h (by show ¬ (M.length:Int)<(M.length:Int);omega)) λ_=>iK (.inr ⟨rfl,?_⟩)
 rintro (h|⟨i,hi,g1,g2⟩)
 exact h1 h
 obtain⟨o,ho2,hoa⟩:=J _ ((hM.2 s.objects[i].id).2 ⟨i,hi,g1,rfl⟩);exact g2 o ho2 hoa
theorem Ux (cards:List jI)(s:iT)(l:List iL)(I:rO mY cards)(hs:kQ s):xn cards s l=some true:=by
 have J:yB=some true:=rfl;unfold xn;refine ok_eq (jf (λb=>b=false->aiV cards s/\l.length<=30) (λk hk=>?_) λb hb=>?_)
 refine iO (Yz cards s I hs) λy hy=>iR (λ_=>hk _ λh=>by cases h) λh=>hk _ λh2=>⟨hy bI,?_⟩
 have:=of_decide_eq_false h2;simp only[iV] at this;omega
 refine iR (λ_=>iU J (iK rfl)) λh=>?_;obtain⟨V,R⟩:=hb h;refine iO (PW cards s I hs V.c (by have:=V.o;omega)) λT U=>?_;have g:=afL (CQ s.ji) s.ji.length s.nD;have vp:=V.p;have vo:=V.o;have C:=L8 s T (Zb (L6 (CQ s.ji) s.ji.length) s.nD) ai s.objects.length;have e1:=P6 s T _ U.1 V.o ai (aad s s.nD hs V.act);have e2:=VU s T _ U.1 V.o ai (Yy s s.nD hs V.act);have hm:=λx (hx:x∈FX s T (Zb (L6 (CQ s.ji) s.ji.length) s.nD) s.objects.length)=>aah s T _ _ hx;generalize FX s T (Zb (L6 (CQ s.ji) s.ji.length) s.nD) s.objects.length=able at *;refine iO (agF s T able l U.1 V.o V.asc ai hm R e1) λr1 h1=>iO (adf s T able l U.1 V.o ai R e2) λr2 h2=>?_
 have:r1=r2:=by
  rcases h1 with ⟨rfl,h1⟩|⟨rfl,h1⟩<;>rcases h2 with ⟨rfl,h2⟩|⟨rfl,h2⟩
  rfl
  exact absurd h1 h2
  exact absurd h2 h1
  rfl
 exact iJ (λ_=>iU J (iK rfl)) λh=>absurd this h
end Go.Proofs.YtlacmdnhabblcaaGreat
