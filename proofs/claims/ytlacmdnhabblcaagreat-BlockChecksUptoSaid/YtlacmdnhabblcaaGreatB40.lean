import Derived.Test.YtlacmdnhabblcaaGreatB31
import Derived.Test.YtlacmdnhabblcaaGreatB39
set_option linter.all false
namespace Go.Proofs.YtlacmdnhabblcaaGreat
open Go Go.Pv
set_option maxRecDepth 100000
theorem IB (t:iM)(j:Nat)(h0:0<=t.keys)(h1:t.keys<9223372036854775808)(hj:j<63):uy t ((2 ^ j:Nat):Int)=some (hasB t.keys j):=by
 obtain⟨m,U⟩:=Int.eq_ofNat_of_zero_le h0;unfold uy;rw[U];exact ok_eq (iU (ajj m j ai hj) (iK rfl))
theorem abt (b:iW)(tb:iM)(a:iW)(U:iM)(h1:0<=tb.line.types/\tb.line.types<9223372036854775808)(h2:0<=tb.keys/\tb.keys<9223372036854775808)(T:0<=U.keys/\U.keys<9223372036854775808):LH b tb a U=some (WQ b tb U):=by
 have e1:(decide ((kz .and .i64 tb.line.types 1)=0))=!hasB tb.line.types 0:=by
  obtain⟨m,R⟩:=Int.eq_ofNat_of_zero_le h1.1;rw[R];have:=Uf m 0 ai ai;rw[show (1:Int)=((2 ^ 0:Nat):Int) from rfl,this];unfold hasB
  by_cases h:m / 2 ^ 0 % 2=1
  rw[if_pos h,Int.toNat_natCast,decide_eq_true h];rfl
  rw[if_neg h,Int.toNat_natCast,decide_eq_false h];rfl
 have k0:=IB U 0 T.1 T.2 ai;have k1:=IB tb 0 h2.1 h2.2 ai;have k2:=IB tb 1 h2.1 h2.2 ai;have k3:=IB tb 15 h2.1 h2.2 ai;have k4:=IB U 13 T.1 T.2 ai;unfold LH WQ;rw[e1];refine ok_eq (jf (λs=>s=(!hasB tb.line.types 0 || b.nC || hasB tb.keys 15 || hasB U.keys 13)) ?_ ?_)
 intro k hk;refine iR (λc1=>hk _ (by simp[c1])) λc1=>iR (λc2=>hk _ (by simp[c2])) λc2=>iU k3 (iR (λc3=>hk _ (by simp[c3])) λc3=>iU k4 (hk _ (by simp[c1,c2,c3])))
 rintro s rfl
 refine iR (λc=>iK (by rw[c];rfl)) λc=>?_;rw[c];refine iU k0 (iR (λd1=>iK ?_) λd1=>iU k1 (iR (λd2=>iK ?_) λd2=>iU k2 (iK ?_)))
 simp at d1;simp[d1]
 simp[d2]
 simp at d1;simp[d1,d2]
theorem Yv (b:iW)(tb:iM)(a:iW)(U:iM)(h1:0<=tb.line.types/\tb.line.types<9223372036854775808)(h2:0<=tb.keys/\tb.keys<9223372036854775808)(T:0<=U.keys/\U.keys<9223372036854775808):TS b tb a U=some (WQ b tb U):=by
 have R:=NJ tb.line.types 0 h1.1 h1.2;have k0:=NJ U.keys 0 T.1 T.2;have k1:=NJ tb.keys 0 h2.1 h2.2;have k2:=NJ tb.keys 1 h2.1 h2.2;have k3:=NJ tb.keys 15 h2.1 h2.2;have k4:=NJ U.keys 13 T.1 T.2;unfold TS WQ;refine ok_eq (jf (λs=>s=(!hasB tb.line.types 0 || b.nC || hasB tb.keys 15 || hasB U.keys 13)) ?_ ?_)
 intro k hk;refine iU R (iR (λc1=>hk _ (by simp at c1;simp[c1])) λc1=>iR (λc2=>hk _ (by simp[c2])) λc2=>iU k3 (iR (λc3=>hk _ (by simp[c3])) λc3=>iU k4 (hk _ (by simp at c1;simp[c1,c2,c3]))))
 rintro s rfl
 refine iR (λc=>iK (by rw[c];rfl)) λc=>?_;rw[c];refine iU k0 (iR (λd1=>iK ?_) λd1=>iU k1 (iR (λd2=>iK ?_) λd2=>iU k2 (iK ?_)))
 simp at d1;simp[d1]
 simp[d2]
 simp at d1;simp[d1,d2]
theorem Vk {α β:Type}{o:Option α}{k U : α->Option β}(h:∀ x,o=some x->k x=U x):bnd o k=bnd o U:=by
 cases o with
 | none=>rfl
 | some x=>exact h x rfl
theorem Yw {all:List iM}(h:∀ t∈all,qX t){i:Int}{t:iM}(e:pq all i=some t):qX t:=by
 unfold pq at e
 have:Ok qX (pq all i)\/i<0:=by
  by_cases hi:0<=i
  refine .inl ?_;unfold pq;exact iJ (λh2=>mM hi (by simp only[iV] at h2;exact h2) λx hx=>iK (h x hx)) λ_=>iK zTr
  exact .inr ai
 rcases this with ⟨J,U,T⟩|hn
 unfold pq at U;rw[e] at U;cases U;exact T
 have h2:i<iV all:=by simp only[iV];omega
 have h2:decide (i<iV all)=true:=decide_eq_true h2;rw[h2] at e
 have R:kJ all i=none:=by
  cases hx:kJ all i with
  | none=>rfl
  | some x=>have:=(ajn.1 hx).1;omega
 rw[R] at e;cases e
theorem abu (s:iT)(all:List iM)(p:Int)(h:∀ t∈all,qX t):Ac s all p=yu s all p:=by
 have h1:∀ T k5 U,Ez s all p T k5 U=Aw s all p T k5 U:=by
  intro T k5 U
  funext s12 k13
  unfold Ez Aw
  congr 1
  congr 1
  funext k16
  refine Vk λx18 _=>?_
  congr 1
  funext k20
  congr 1
  congr 1
  refine Vk λy22 e1=>?_;refine Vk λy23 R=>?_;have t1:=Yw h e1;have t2:=Yw h R;rw[abt U y22 x18 y23 t1.t t1.k t2.k,Yv U y22 x18 y23 t1.t t1.k t2.k]
 have h2:EC s all p=Az s all p:=by
  funext T k2
  unfold EC Az;simp only[h1];rfl
 unfold Ac yu;rw[h2]
theorem aab (s:iT)(all:List iM)(p:Int)(h:∀ t∈all,qX t)(ho:s.objects.length<=2048):Ok (λr=>r.length<=4194304) (yu s all p):=by
 unfold yu
 have tr:∀ i:Nat,Ok qX (wC all (i:Int)):=λi=>by
  unfold wC;refine iJ (λh2=>?_) λ_=>iK zTr;have:i<all.length:=by simp only[iV] at h2;omega
  exact jl i rfl this (iK (h _ (List.getElem_mem this)))
 refine lK 0 s.objects.length (λi t=>t.length<=2048*i) 0 rfl (Nat.zero_le _) ai (Nat.zero_le _) (λi t k hi hI hk=>?_) λt k hI=>?_
 unfold Az;refine iJ (λ_=>jf (λu=>u.length<=2048*(i+1)) (λk5 J=>?_) λu hu=>hk u hu) λh=>absurd (show (i:Int)<(s.objects.length:Int) by omega) h;refine jl i rfl hi (jf (λ_=>True) (λg I=>lI (λ_=>I _ trivial) λ_=>iO (tr i) λ_ _=>I _ trivial) λb _=>iR (λ_=>J _ (by show t.length<=_;omega)) λ_=>?_);refine lK 0 s.objects.length (λj u=>u.length<=2048*i+j) 0 rfl (Nat.zero_le _) ai hI (λj u k13 hj C R=>?_) λu k13 C=>?_
 unfold Aw;refine iJ (λ_=>jf (λv=>v.length<=2048*i+(j+1)) (λk16 T=>?_) λv hv=>R v hv) λh=>absurd (show (j:Int)<(s.objects.length:Int) by omega) h;refine jl j rfl hj (jf (λ_=>True) (λk20 U=>?_) λb _=>iR (λ_=>uf (jG dU dQ (T _ di))) λ_=>T _ (by show u.length<=_;omega));exact iJ (λ_=>iJ (λ_=>iO (tr i) λt1 g1=>iO (tr j) λt2 g2=>iU (Yv _ _ _ _ g1.t g1.k g2.k) (U _ trivial)) λ_=>U _ trivial) λ_=>U _ trivial
 unfold Aw;exact iJ (λh=>absurd h az) λ_=>J _ (by show u.length<=_;omega)
 unfold Az;exact iJ (λh=>absurd h az) λ_=>iK (by show t.length<=_;omega)
end Go.Proofs.YtlacmdnhabblcaaGreat
