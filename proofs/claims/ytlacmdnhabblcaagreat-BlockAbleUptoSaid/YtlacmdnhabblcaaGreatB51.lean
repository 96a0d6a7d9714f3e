import Derived.Test.YtlacmdnhabblcaaGreatB40
set_option linter.all false
namespace Go.Proofs.YtlacmdnhabblcaaGreat
open Go Go.Pv
set_option maxRecDepth 100000
theorem agC (a:List iL)(h:a.length<=4194304):Iy a a=some true:=by
 unfold Iy;refine ok_eq (lI (λh=>absurd rfl h) λ_=>?_);refine lH 0 a.length (λ_=>True) 0 rfl (Nat.zero_le _) ai trivial (λi k hi _ hk=>?_) λk _=>?_
 unfold Ey;refine iJ (λ_=>jl i rfl hi (jl i rfl hi (uf (iR (λh=>?_) λ_=>hk trivial)))) λh=>absurd (show (i:Int)<(a.length:Int) by omega) h;simp at h
 unfold Ey;exact iJ (λh=>absurd h bV) λ_=>iK rfl
theorem YA (cards:List jI)(s:iT)(p:Int)(R:rO mY cards)(hs:kQ s):zO cards s p=some true:=by
 have T:xZ=some true:=rfl;unfold zO;refine ok_eq (iO (RJ cards s R hs) λy1 h1=>iR (λ_=>iU T (iK rfl)) λh=>?_);obtain⟨_,V⟩:=h1 dw;refine iO (PW cards s R hs V.c V.o) λall U=>iU T (oK rfl ?_);obtain⟨r,e,hr⟩:=aab s all p U.2 V.o;exact iU (by rw[abu s all p U.2];exact e) (iU e (iU (agC r hr) (iK rfl)))
theorem sV3 {p:PV}(h:SnV Tryz.prog 1048576 3 p):∃ x:Int,p=.si .i64 x/\qY x:=by
 obtain⟨x,e,hx⟩:=ru (h.inv_one aH);cases e;exact⟨x,rfl,hx⟩
end Go.Proofs.YtlacmdnhabblcaaGreat
