import Derived.Test.YtchmoabpofnbaaaGreatD102
set_option linter.all false
namespace Go.Proofs.YtchmoabpofnbaaaGreat
open Go Go.Pv
set_option maxRecDepth 100000
set_option maxHeartbeats 20000000
variable [GM]
attribute [local irreducible] bnd br jn pI eH iI kD gW qx sG divO jU jc jM jD jR kK kE
variable {M:gm}[HM M]
instance c11 {cards}{s}{answers}:CC M 11 (BF cards s answers) [lQ M cards,.agg (fM M s),.sl 1 (M.m (List Int) (eL M 1 (eI .i64)) answers) false] (λr=>.sb r):=by
 have:=ct 14 [6] (λ_ s=>jf [(6,.sb s)]);have:=lo 12 [4,8,12,57,58,59] (λ_ s=>jf [(59,sI s)]);have:=lo 15 [4,8,12,13,14,57,58,59,65,66,67] (λ_ s=>jf [(67,sI s)]);have:=ct 55 [4,8,12,13,14,57,58,59,65,66,67] (λ_ (_:Unit)=>jf []);have:=ct 34 [4,8,12,13,14,16,57,58,59,65,66,67,87] (λ_ s=>jf [(87,.sb s)]);have:=lo 20 [4,8,12,13,14,16,17,18,57,58,59,65,66,67,90,91,92] (λ_ (s:fD×Bool×Int)=>up [(18,.sb s.2.1),(92,sI s.2.2)] [(4,(vR (jo M s.1)))]);have:=ct 49 [4,8,12,13,14,16,17,18,57,58,59,65,66,67,90,91,92] (λ_ (s:fD×Bool)=>up [(18,.sb s.2)] [(4,(vR (jo M s.1)))]);have:=ct 50 [4,8,12,13,14,57,58,59,65,66,67,143] (λ_ s=>jf [(143,.sb s)]);exact wA (fZ [14,34,49,50,55]) Tryz.func11 Tryz.call11
end Go.Proofs.YtchmoabpofnbaaaGreat
