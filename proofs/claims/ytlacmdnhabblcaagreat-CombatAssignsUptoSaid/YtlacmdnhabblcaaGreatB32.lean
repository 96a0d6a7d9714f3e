import Derived.Test.YtlacmdnhabblcaaGreatB29
set_option linter.all false
namespace Go.Proofs.YtlacmdnhabblcaaGreat
open Go Go.Pv
set_option maxRecDepth 100000
theorem ac6 (cards:List jI)(s:iT)(C:rO mY cards)(hs:kQ s):Ok (λr=>r=true->Asc s.objects) (sG cards s):=by
 have hlen:=hs.2.1.1;have no:∀ {p:Prop},((true:Bool)=false->p):=λe=>by cases e
 unfold sG;refine iJ (λ_=>iK λh=>by cases h) λ_=>?_;refine lH 0 s.objects.length (λn=>Asc (s.objects.take n)) 0 rfl (Nat.zero_le _) ai (λi a b h _=>by simp at h) (λi k hi hI hk=>?_) λk hI=>?_
 unfold tC;refine iJ (λ_=>jl i rfl hi (jf (λb=>b=false->Asc (s.objects.take (i+1))) (λk6 T=>?_) λb hb=>?_)) λh=>absurd (show (i:Int)<(s.objects.length:Int) by omega) h
 refine iO (RG _ _ _) λ_ _=>iR (λ_=>T _ no) λ_=>iJ (λ_=>T _ no) λ_=>iJ (λ_=>T _ no) λ_=>iJ (λh=>?_) λh=>?_
 obtain⟨m,rfl⟩:∃ m,i=m+1:=⟨i-1,by omega⟩;have R:jS ((m+1:Nat):Int) 1=(m:Int):=by rw[qW ai ai];omega
 rw[R];have I:m<s.objects.length:=by omega
 refine jl m rfl I (T _ λh=>?_);have h:=of_decide_eq_false h;intro j a b U hb;rw[List.getElem?_take] at U hb
 by_cases hj:j+1=m+1
 have:j=m:=by omega
 subst this;rw[if_pos ai,List.getElem?_eq_getElem I] at U;rw[if_pos ai,List.getElem?_eq_getElem hi] at hb;cases U;cases hb;omega
 have J:j+1<m+1:=by
  split at hb
  omega
  cases hb
 refine hI j a b ?_ ?_
 rw[List.getElem?_take,if_pos ai];rw[if_pos ai] at U;exact U
 rw[List.getElem?_take,if_pos J];rw[if_pos ai] at hb;exact hb
 refine T _ λ_=>?_;have:i=0:=by omega
 subst this;intro j a b U hb;rw[List.getElem?_take] at hb
 split at hb
 omega
 cases hb
 refine iR (λ_=>iK λh=>by cases h) λh=>iO (IA _ _ hs) λ_ _=>iR (λ_=>iK λh=>by cases h) λ_=>hk (hb h)
 unfold tC;rw[qf] at hI;exact iJ (λh=>absurd h az) λ_=>iK λ_=>hI
theorem afH {Pr:Prop}(cards:List jI)(s:iT)(J:rO mY cards)(hs:kQ s)(R:Ok (λr=>r=true->Pr) (sG cards s))(h:uN cards s=some true):Pr:=by
 have T:=hs.2.2.2.2.2.2.2
 have:Ok (λr=>r=true->Pr) (uN cards s):=by
  unfold uN;refine jf (λ_=>True) (λk hk=>?_) λb _=>?_
  exact iO (mV _ _ _) λ_ _=>iR (λ_=>hk _ trivial) λ_=>iO (mV _ _ _) λ_ _=>iR (λ_=>hk _ trivial) λ_=>iO (mV _ _ _) λ_ _=>iR (λ_=>hk _ trivial) λ_=>iO (mV _ _ _) λ_ _=>iR (λ_=>hk _ trivial) λ_=>hk _ trivial
  refine iR (λ_=>iK λh=>by cases h) λ_=>jf (λ_=>True) (λk hk=>?_) λb _=>?_
  exact iO (FT s hs) λ_ _=>iR (λ_=>hk _ trivial) λ_=>iO (oU _ _ hs) λ_ _=>iR (λ_=>hk _ trivial) λ_=>iO (oU _ _ hs) λ_ _=>iR (λ_=>hk _ trivial) λ_=>iO (mV _ _ _) λ_ _=>iR (λ_=>hk _ trivial) λ_=>iJ (λ_=>hk _ trivial) λ_=>iO (mV _ _ _) λ_ _=>hk _ trivial
  refine iR (λ_=>iK λh=>by cases h) λ_=>?_;refine lH 0 s.extra.length (λ_=>True) 0 rfl (Nat.zero_le _) (by have:=T.1;omega) trivial (λi k hi _ hk=>?_) λk _=>?_
  unfold DN;exact iJ (λ_=>jl i rfl hi (iO (oU _ _ hs) λ_ _=>iR (λ_=>iK λh=>by cases h) λ_=>hk trivial)) λh=>absurd (show (i:Int)<(s.extra.length:Int) by omega) h
  unfold DN;refine iJ (λh=>absurd h fA) λ_=>jf (λ_=>True) (λk hk=>?_) λb _=>?_
  exact iJ (λ_=>iO (oU _ _ hs) λ_ _=>iR (λ_=>hk _ trivial) λ_=>lI (λ_=>hk _ trivial) λ_=>hk _ trivial) λ_=>lI (λ_=>hk _ trivial) λ_=>hk _ trivial
  refine iR (λ_=>iK λh=>by cases h) λ_=>iO R λy hy=>iR (λU=>iO (J4 s hs) λ_ _=>iK λ_=>hy U) λ_=>iK λh=>by cases h
 obtain⟨r,e,hr⟩:=this;rw[h] at e;cases e;exact hr rfl
theorem abo (cards:List jI)(s:iT)(U:rO mY cards)(hs:kQ s)(h:uN cards s=some true):Asc s.objects:=afH cards s U hs (ac6 cards s U hs) h
def trA (all:List iM)(i:Nat):iM:=if h:i<all.length then all[i] else rU
theorem ajk (a b:iL):(decide (a.kind=b.kind)&&(decide (a.a=b.a)&&(decide (a.b=b.b)&&true)))=decide (a=b):=by
 by_cases h:a=b
 subst h;simp
 rw[decide_eq_false h];cases a;cases b;simp at h |-;exact h
theorem Ug (l:List iL)(o:iL)(U:l.length<=4194304):pz l o=some (decide (o∈l)):=by
 have ix:Ok (λr=>(o ∉ l/\r=-1)\/(o∈l/\0<=r)) (rV l o):=by
  unfold rV;refine lH 0 l.length (λn=>o ∉ l.take n) 0 rfl (Nat.zero_le _) ai aI (λi k hi hI hk=>?_) λk hI=>?_
  unfold su;refine iJ (λ_=>jl i rfl hi (uf ?_)) λh=>absurd (show (i:Int)<(l.length:Int) by omega) h;rw[ajk];refine iJ (λe=>iK (.inr ⟨e ▸ List.getElem_mem hi,by omega⟩)) λe=>hk ?_;rw[mr l i hi];simp only[List.mem_append,List.mem_singleton];exact λh=>h.elim hI λh=>e h
  unfold su;rw[qf] at hI;exact iJ (λh=>absurd h aB) λ_=>iK (.inl ⟨hI,rfl⟩)
 unfold pz;refine ok_eq (iO ix ?_)
 rintro r (⟨h,rfl⟩|⟨h,h2⟩)
 exact iK bu
 exact iK (by simp[h,h2])
theorem Yt (l:List iL)(o:iL)(R:l.length<=4194304):Ok (λr=>r=true↔∃ x∈l,x.a=o.a) (jZ l λa0=>uO a0 o):=by
 have ix:Ok (λr=>((¬ ∃ x∈l,x.a=o.a)/\r=-1)\/((∃ x∈l,x.a=o.a)/\0<=r)) (mi l λa0=>uO a0 o):=by
  unfold mi;refine lH 0 l.length (λn=>¬ ∃ x∈l.take n,x.a=o.a) 0 rfl (Nat.zero_le _) ai aI (λi k hi hI hk=>?_) λk hI=>?_
  unfold nU;refine iJ (λ_=>jl i rfl hi (iU (x:=decide (l[i].a=o.a)) rfl (iJ (λe=>iK (.inr ⟨⟨_,List.getElem_mem hi,e⟩,by omega⟩)) λe=>hk ?_))) λh=>absurd (show (i:Int)<(l.length:Int) by omega) h;rw[mr l i hi]
  rintro⟨x,hx,U⟩
  rcases List.mem_append.1 hx with hx|hx
  exact hI ⟨x,hx,U⟩
  rw[List.mem_singleton.1 hx] at U;exact e U
  unfold nU;rw[qf] at hI;exact iJ (λh=>absurd h aB) λ_=>iK (.inl ⟨hI,rfl⟩)
 unfold jZ;refine iO ix ?_
 rintro r (⟨h,rfl⟩|⟨h,h2⟩)
 exact iK ⟨λh=>(by simp at h),λT=>absurd T h⟩
 exact iK ⟨λ_=>h,λ_=>by simp[h2]⟩
theorem sT57 {cs:List PV}(h:Sn Tryz.prog 1048576 57 cs):∃ x:iL,cs=(iQ jT) x/\aph x:=by
 have h:=h.l7 Tryz.underlying57;obtain⟨n0,b0,rfl,w0,h⟩:=h.cs ru;obtain⟨n1,J,rfl,U,h⟩:=h.cs ru;obtain⟨R,I,rfl,T,h⟩:=h.cs ru;obtain rfl:=h.mO;exact⟨⟨n0,n1,R⟩,rfl,w0,U,T⟩
theorem sT53 {cs:List PV}(h:Sn Tryz.prog 1048576 53 cs):∃ x:List iL,cs=[.sl 3 (jT.m iL (iQ jT) x) false]/\anr x:=by
 obtain⟨I,e,h1,h2⟩:=h.qB Tryz.underlying53;have T:Tryz.prog.cellsOf 57=3:=by kernel_rfl
 rw[T] at e;obtain⟨l,R,U,J⟩:=vg λr hr=>sT57 (h1 r hr);exact⟨l,by rw[e,R];rfl,by omega,U⟩
theorem anS {p:PV}(h:SnV Tryz.prog 1048576 53 p):∃ x:List iL,p=.sl 3 (jT.m iL (iQ jT) x) false/\anr x:=by
 obtain⟨x,e,hx⟩:=sT53 (h.inv_one aH);cases e;exact⟨x,rfl,hx⟩
end Go.Proofs.YtlacmdnhabblcaaGreat
