import Derived.Test.YtchmoabpofnbaaaGreatC104
set_option linter.all false
namespace Go.Pv
open Go
section
variable {ρ:Type}{Q:ρ->Prop}
theorem akg {σ:Type}{rest:σ->Option ρ}{body:(σ->Option ρ)->Option ρ}(h:Ok Q (body rest)):Ok Q (jn rest body):=h
theorem akh {rest:Unit->Option ρ}{body:(Unit->Option ρ)->Option ρ}(h1:∀ k,Ok Q (k ())->Ok Q (body k))(h2:Ok Q (rest ())):Ok Q (jn rest body):=h1 rest h2
theorem aki {x:Bool}{k:Bool->Option ρ}(hk:∀ y,Ok Q (k y)):Ok Q (lt x k):=hk x
theorem alF {N:Int}{A B:Int->(Int->Option ρ)->Option ρ}(h0:0<=N)(h1:N<=4000000000000000000)(hA:∀ i k,0<=i->i<N->Ok Q (k (addI i 1))->Ok Q (A i k))(hB:∀ k,Ok Q (B N k)):Ok Q (loopF (λi k=>br (decide (i<N)) (A i k) (B i k)) 0):=by
 obtain⟨n,rfl⟩:=Int.eq_ofNat_of_zero_le h0;refine ok_for1 0 n (λ_=>True) 0 rfl (Nat.zero_le _) ae trivial (λi k hi _ hk=>?_) λk _=>?_
 show Ok Q (br (decide ((i:Int)<(n:Int))) (A i k) (B i k));rw[decide_eq_true ae];exact hA _ k ae ae (hk trivial)
 show Ok Q (br (decide ((n:Int)<(n:Int))) (A n k) (B n k));rw[decide_eq_false ae];exact hB k
theorem alG {N:Int}{τ:Type}{A B:Int×τ->(Int×τ->Option ρ)->Option ρ}{t0:τ}(h0:0<=N)(h1:N<=4000000000000000000)(hA:∀ i t k,0<=i->i<N->(∀ T,Ok Q (k (addI i 1,T)))->Ok Q (A (i,t) k))(hB:∀ t k,Ok Q (B (N,t) k)):Ok Q (loopF (λs k=>br (decide (s.1<N)) (A s k) (B s k)) (0,t0)):=by
 obtain⟨n,rfl⟩:=Int.eq_ofNat_of_zero_le h0;refine iY 0 n (λ_ _=>True) 0 rfl (Nat.zero_le _) ae trivial (λi t k hi _ hk=>?_) λt k _=>?_
 show Ok Q (br (decide ((i:Int)<(n:Int))) (A (i,t) k) (B (i,t) k));rw[decide_eq_true ae];exact hA _ t k ae ae λT=>hk T trivial
 show Ok Q (br (decide ((n:Int)<(n:Int))) (A (n,t) k) (B (n,t) k));rw[decide_eq_false ae];exact hB t k
theorem alH {N:Int}{τ:Type}{A B:τ×Int->(τ×Int->Option ρ)->Option ρ}{t0:τ}(h0:0<=N)(h1:N<=4000000000000000000)(hA:∀ i t k,0<=i->i<N->(∀ T,Ok Q (k (T,addI i 1)))->Ok Q (A (t,i) k))(hB:∀ t k,Ok Q (B (t,N) k)):Ok Q (loopF (λs k=>br (decide (s.2<N)) (A s k) (B s k)) (t0,0)):=by
 obtain⟨n,rfl⟩:=Int.eq_ofNat_of_zero_le h0;refine DN 0 n (λ_ _=>True) 0 rfl (Nat.zero_le _) ae trivial (λi t k hi _ hk=>?_) λt k _=>?_
 show Ok Q (br (decide ((i:Int)<(n:Int))) (A (t,i) k) (B (t,i) k));rw[decide_eq_true ae];exact hA _ t k ae ae λT=>hk T trivial
 show Ok Q (br (decide ((n:Int)<(n:Int))) (A (t,n) k) (B (t,n) k));rw[decide_eq_false ae];exact hB t k
end
end Go.Pv
