import Derived.Test.YtchmoabpofnbaaaGreatD52
import Derived.Test.YtchmoabpofnbaaaGreatD54
set_option linter.all false
namespace Go.Proofs.YtchmoabpofnbaaaGreat
open Go Go.Pv
set_option maxRecDepth 100000
set_option maxHeartbeats 20000000
variable [GM]
attribute [local irreducible] bnd br jn pI eH iI kD gW qx sG divO jU jc jM jD jR kK kE
variable {M:gm}[HM M]
theorem amk {M:gm}(hM:M=kJ){data:List dV}{n:Int}{r:List dV}(U:ku data n og=some r):Pv.FnS Tryz.prog glF 369 [.os 0 0 (M.n dV data),sI n,.fn 300 []] [(0,(aR 76 (fA M data)))] 1 (λuu ss nn=>uu=.Ed []/\ss=[(0,(aR 76 (fA M r)))]/\nn=1):=by
 haveI:HM M:=⟨hM⟩
 refine Ad (T:=(Gh 1 [33] [])) (gJ 1 [33] []) wf Tryz.func369 rfl Tryz.call369 rfl ?_;intro S R O hR;have q:=sf hM O;unfold ku at U;cbv;refine Ji (gJ 1 [33] []) [] [0,1,2,6,7,8] (λt=>f4 63 [.os 0 0 (S.fE (fA M t.2.2)),sI n,.fn 300 [],sI 20,sI t.1,sI t.2.1] [aR 76 (fA M t.2.2)]) U ?_;intro Ik2 k2 t hk2 U e J;subst J;unfold ni at U;cbv;refine mP ?_ ?_
 intro U;cbv;refine uF O U (cZ hM) ah ah rfl rfl rfl rfl ?_;intro y4 J U;have q:=And.intro q (nT abb J).symm;cbv;exact uj
 intro U;cbv;refine uF O U (cZ hM) ah ah rfl rfl rfl rfl ?_;intro y5 J U;have q:=And.intro q (nT abb J).symm;cbv;refine Ji (gJ 1 [33] []) [] [0,1,2,6] (λC=>f4 63 [.os 0 0 (S.fE (fA M C.2)),sI n,.fn 300 [],sI C.1] [aR 76 (fA M C.2)]) U ?_;intro Ik7 k7 C hk7 U e J;subst J;unfold ng at U;cbv;refine mP ?_ ?_
 intro U;cbv;refine Ji (gJ 1 [33] []) [] [0,1,2,6,7,8] (λg=>f4 63 [.os 0 0 (S.fE (fA M g.2.2)),sI n,.fn 300 [],sI C.1,sI g.1,sI g.2.1] [aR 76 (fA M g.2.2)]) U ?_;intro Ik10 k10 g hk10 U e J;subst J;unfold mZ at U;cbv;refine mP ?_ ?_
 intro U;cbv;refine uF O U (λ_=>aja hM) ah ah rfl rfl rfl rfl ?_;intro y12 J U;have q:=And.intro q (nT V4 J).symm;cbv;exact uj
 intro U;cbv;refine DJ [] [0,1,2,6] (λI=>f4 63 [.os 0 0 (S.fE (fA M I)),sI n,.fn 300 [],sI C.1] [aR 76 (fA M I)]) U ?_ ?_
 intro Ik14 k14 hk14 U;cbv;refine mP ?_ ?_
 intro U;cbv;refine uF O U (λ_=>aja hM) ah ah rfl rfl rfl rfl ?_;intro y16 J U;have q:=And.intro q (nT V4 J).symm;cbv;exact uj
 exact tY
 intro I U;cbv;exact uj
 intro U;cbv;cases U;exact hR _ _ _ ah ah rfl
end Go.Proofs.YtchmoabpofnbaaaGreat
namespace Go.Proofs.YtchmoabpofnbaaaGreat
open Go Go.Pv Proofs.Tryz
set_option maxRecDepth 100000
set_option maxHeartbeats 20000000
variable [GM]
attribute [local irreducible] bnd br jn pI eH iI kD gW qx sG divO jU jc jM jD jR kK kE
variable {M:gm}[HM M]
instance c243 {cards}{s}:CC M 243 (GI cards s) [lQ M cards,.agg (gG M s)] (λr=>fU M r):=by
 have:=lo 3 [0,3,5,13,14,15] (λ_ (s:Int×(List eY))=>up [(5,.os 1 0 (M.n eY s.2)),(15,sI s.1)] [(1,(aR 23 (sF M s.2)))]) [.tO 5 23];have:=ct 25 [0,3,5,13,14,15] (λ_ s=>up [(5,.os 1 0 (M.n eY s))] [(1,(aR 23 (sF M s)))]) [.tO 5 23];have:=lo 7 [0,3,5,7,13,14,15,25,26,27] (λ_ (s:Int×(List eY))=>up [(5,.os 1 0 (M.n eY s.2)),(27,sI s.1)] [(1,(aR 23 (sF M s.2)))]) [.tO 5 23];have:=ct 23 [0,3,5,7,13,14,15,25,26,27] (λ_ s=>up [(5,.os 1 0 (M.n eY s))] [(1,(aR 23 (sF M s)))]) [.tO 5 23];have:=lo 14 [5,54,55,56] (λ_ (s:Int×(List eY))=>up [(5,.os 0 0 (M.n eY s.2)),(56,sI s.1)] [(0,(aR 23 (sF M s.2)))]);exact wA (fZ [23,25]) func243 call243
theorem gq178 {T S a b E Q0}(h:∀ Q,Q=Q0->opsE T S a b E Q):opsE T S a b E Q0:=h Q0 rfl
instance c178 {cards}{s}:CC M 178 (AV cards s) [lQ M cards,.agg (fM M s)] (λr=>vW M r):=by
 have:=lo 3 [0,3,5,6] (λ_ (s:Int×(List iH))=>up [(5,.os 1 0 (M.n iH s.2)),(6,sI s.1)] [(1,(aR 23 (Bq M s.2)))]);have:=ct 9 [0,3,5,6] (λ_ s=>up [(5,.os 1 0 (M.n iH s))] [(1,(aR 23 (Bq M s)))]);have:=lo 9 [0,3,5,6,7,8,9] (λ_ (s:Int×(List iH))=>up [(5,.os 1 0 (M.n iH s.2)),(9,sI s.1)] [(1,(aR 23 (Bq M s.2)))]);have:=ct 21 [0,3,5,6,7,8,9] (λ_ s=>up [(5,.os 1 0 (M.n iH s))] [(1,(aR 23 (Bq M s)))]);have:=lo 15 [3,5,11] (λ_ (s:Int×(List iH))=>up [(5,.os 1 0 (M.n iH s.2)),(11,sI s.1)] [(1,(aR 23 (Bq M s.2)))]);exact wA (fZ [9,21]) func178 call178 (h:=by
  intro r U S R O hR hT hW hM q
  cbv
  refine d_lA hT hW O rfl dH U dCl dCf dE ?_;intro I k s hk U e J;subst J;cbv
  refine PT O U dE ?_ ?_
  · intro U;exact dW
  intro U;cbv
  refine d_lA hT hW O rfl dH U dCl dCf dE ?_;intro I k s hk U e J;subst J;cbv
  refine PT O U dE ?_ ?_
  · intro U
    cbv
    refine ahw O hM U dE dE ?_
    intro _ U
    with_reducible refine gq178 ?_
    intro Q hQ
    cbv
    subst hQ
    cbv
    exact dW
  intro U;exact dW)
instance c110 {s}{all}{p}{l}:CC M 110 (EU s all p l) [.agg (fM M s),kH M all,sI p,pX M l] (λr=>sI r):=by
 have:=lo 3 [1,3,4,9,22,23,24] (λ_ s=>jf [(24,sI s)]);have:=ct 12 [1,3,4,9,22,23,24,40] (λ_ s=>jf [(40,.sb s)]);have:=lo 10 [1,3,43,44,45] (λ_ s=>jf [(45,sI s)]);have:=ct 45 [1,3,43,44,45] (λ_ (_:Unit)=>jf []);have:=lo 15 [1,3,14,15,43,44,45,56,57,58] (λ_ (s:Int×Int)=>jf [(15,sI s.1),(58,sI s.2)]);have:=ct 39 [1,3,14,15,43,44,45,56,57,58] (λ_ s=>jf [(15,sI s)]);exact wA (fZ [12,39,45]) func110 call110
instance c204 {s}{id}:CC M 204 (zW s id) [.agg (fM M s),sI id] (λr=>.Ed [.agg (jo M r.1),.sb r.2]):=by
 have:adA 2 [.tP 6]:=.mk;exact wA (alD [2] [14,18]) func204 call204
instance c118 {a}{b}:CC M 118 (Gi a b) [.agg (zu M a),.agg (zu M b)] (λr=>.sb r):=by
 have:=lo 4 [2,3,5] (λ_ s=>jf [(5,sI s)]);exact wA fG func118 call118
instance c384 {op}{f}:CC M 384 (MM op f) [sI op,.agg (jm M f)] (λr=>.sb r):=by
 have:=ct 9 [3,5] (λ_ s=>jf [(5,sI s)]);exact wA (fZ [9]) func384 call384
instance c241 {m}:CC M 241 (lS m) [.agg (zk M m)] (λr=>.sb r):=by
 have:=ct 2 [1,16] (λ_ s=>jf [(16,.sb s)]);exact wA (fZ [2]) func241 call241
instance c416 {m}:CC M 416 (Um m) [.agg (zk M m)] (λr=>.sb r):=by
 have:=ct 2 [1,12] (λ_ s=>jf [(12,.sb s)]);exact wA (fZ [2]) func416 call416
instance c316 {s}:CC M 316 (Sv s) [.agg (LY M s)] (λr=>.sb r):=by
 have:=ct 4 [2] (λ_ s=>jf [(2,.sb s)]);exact wA (fZ [4]) func316 call316
instance c119 {a}{b}:CC M 119 (Ah a b) [.agg (xk M a),.agg (xk M b)] (λr=>.sb r):=by
 exact wA fG func119 call119
instance c246 {f}{stage}:CC M 246 (ED f stage) [.agg (pK M f),sI stage] (λr=>.sb r):=by
 exact wA fG func246 call246
instance c172 {c}{a}:CC M 172 (KX c a) [.agg (jQ M c),.sl 1 (mI M a) false] (λr=>.sb r):=by
 exact wA fG func172 call172
instance c414 {s}{id}:CC M 414 (sD s id) [.agg (gG M s),sI id] (λr=>sI r):=by
 exact wA fG func414 call414
instance c315 {f}:CC M 315 (G7 f) [.agg (jm M f)] (λr=>.sb r):=by
 exact wA fG func315 call315
end Go.Proofs.YtchmoabpofnbaaaGreat
