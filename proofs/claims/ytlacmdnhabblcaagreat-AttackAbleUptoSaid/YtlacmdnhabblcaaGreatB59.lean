import Derived.Test.YtlacmdnhabblcaaGreatB45
import Derived.Test.YtlacmdnhabblcaaGreatB57
set_option linter.all false
namespace Go.Proofs.YtlacmdnhabblcaaGreat
open Go Go.Pv
set_option maxRecDepth 100000
theorem aeE (a:List iL)(h:a.length<=4194304):zH a a=some true:=by
 unfold zH;refine ok_eq (lI (λh=>absurd rfl h) λ_=>?_);refine lH 0 a.length (λ_=>True) 0 rfl (Nat.zero_le _) ai trivial (λi k hi _ hk=>?_) λk _=>?_
 unfold yX;refine iJ (λ_=>jl i rfl hi (jl i rfl hi (uf (iR (λh=>?_) λ_=>hk trivial)))) λh=>absurd (show (i:Int)<(a.length:Int) by omega) h;simp at h
 unfold yX;exact iJ (λh=>absurd h bV) λ_=>iK rfl
theorem VX (cards:List jI)(s:iT)(J:rO mY cards)(hs:kQ s):yY cards s=some true:=by
 have R:yB=some true:=rfl;unfold yY;refine ok_eq (iO (Yz cards s J hs) λy hy=>iR (λ_=>iU R (iK rfl)) λh=>?_);have V:=hy bI;refine iO (PW cards s J hs V.c (by have:=V.o;omega)) λT U=>?_;have I:=afL (CQ s.ji) s.ji.length s.nD;have C:=V.p;have g:=V.o;refine iU (P6 s T _ U.1 V.o ai (aad s s.nD hs V.act)) (iU (VU s T _ U.1 V.o ai (Yy s s.nD hs V.act)) (iU (aeE _ ?_) (oK rfl (iU R (iK rfl)))));have:=L8 s T (Zb (L6 (CQ s.ji) s.ji.length) s.nD) ai s.objects.length;omega
end Go.Proofs.YtlacmdnhabblcaaGreat
