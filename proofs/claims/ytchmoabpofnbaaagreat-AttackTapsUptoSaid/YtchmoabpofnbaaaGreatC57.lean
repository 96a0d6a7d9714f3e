import Derived.Test.YtchmoabpofnbaaaGreatC50
import Derived.Test.YtchmoabpofnbaaaGreatC51
set_option linter.all false
namespace Go.Proofs.YtchmoabpofnbaaaGreat
open Go Go.Pv
set_option maxRecDepth 100000
set_option maxHeartbeats 20000000
variable [GM]
attribute [local irreducible] bnd br jn oL loopF iq jS gu pO rG divO jF iO jA jm jE jY jU
variable {M:fP}[HM M]
instance c323 {f}:CC M 323 (Nz f) [.agg (jb M f)] (λr=>.str r):=by
 have hM:=HM.h (M:=M);refine⟨λr U=>?_⟩;refine CO (fO [24,27,34,37,44,47,54,57,67,68,71]) Tryz.func323 Tryz.call323 ?_;intro S R hS hR q;unfold Nz at U;cbv;refine qZ hS U (cI hM) ?_;intro y1 U;cbv;refine kQ ?_ ?_
 exact d_R
 intro U;cbv;refine qZ hS U (cI hM) ?_;intro y2 U;cbv;refine qZ hS U (cI hM) ?_;intro y3 U;cbv;refine qZ hS U (cI hM) ?_;intro y4 U;cbv;refine qZ hS U (cI hM) ?_;intro y5 U;cbv;refine zT ?_;intro x6 U;cbv;refine ajY hS [(1,false),(0,false)] rfl ?_;cbv;refine iR hS U (cZ hM) ah ah rfl rfl rfl rfl ?_;intro y7 U;cbv;refine zT ?_;intro x8 U;cbv;refine iR hS U (cZ hM) ah ah rfl rfl rfl rfl ?_;intro y9 U;cbv;refine zT ?_;intro x10 U;cbv;refine iR hS U (cZ hM) ah ah rfl rfl rfl rfl ?_;intro y11 U;cbv;refine Gg (fO [24,27,34,37,44,47,54,57,67,68,71]) [] [1,6,7,8] (λs12=>f4 145 [.lv 0 0,.sl 1 (M.m ByteArray eS y5) false,.os 1 0 (S.fE (M.m ByteArray eS s12.2)),sI s12.1] [vR (jb M f),aR 1 (M.m ByteArray eS s12.2)]) U ?_;intro Ik13 k13 s12 hk13 U e he;subst he;unfold IW at U;cbv;refine mO hS ?_;cbv;refine kQ ?_ ?_
 intro U;cbv;refine yE [] [1,6,7,8] (λs15=>f4 145 [.lv 0 0,.sl 1 (M.m ByteArray eS y5) false,.os 1 0 (S.fE (M.m ByteArray eS s15)),sI s12.1] [vR (jb M f),aR 1 (M.m ByteArray eS s15)]) U ?_ ?_
 intro Ik16 k16 hk16 U;cbv;refine qZ hS U (cI hM) ?_;intro y18 U;cbv;refine rf ?_ ?_
 intro U;cbv;refine qZ hS U (cI hM) ?_;intro y19 U;cbv;refine nG hS U jJ ?_;exact pW
 exact pW
 intro s15 U;cbv;exact sN
 intro U;cbv;refine Gg (fO [24,27,34,37,44,47,54,57,67,68,71]) [] [1,6,7,9] (λs20=>f4 145 [.lv 0 0,.sl 1 (M.m ByteArray eS y5) false,.os 1 0 (S.fE (M.m ByteArray eS s20.2)),sI s20.1] [vR (jb M f),aR 1 (M.m ByteArray eS s20.2)]) U ?_;intro Ik21 k21 s20 hk21 U e he;subst he;unfold IV at U;cbv;refine mO hS ?_;cbv;refine kQ ?_ ?_
 intro U;cbv;refine yE [] [1,6,7,9] (λs23=>f4 145 [.lv 0 0,.sl 1 (M.m ByteArray eS y5) false,.os 1 0 (S.fE (M.m ByteArray eS s23)),sI s20.1] [vR (jb M f),aR 1 (M.m ByteArray eS s23)]) U ?_ ?_
 intro Ik24 k24 hk24 U;cbv;refine qZ hS U (cI hM) ?_;intro y26 U;cbv;refine rf ?_ ?_
 intro U;cbv;refine qZ hS U (cI hM) ?_;intro y27 U;cbv;refine Yb hS U rfl rfl ?_;intro x28 U;cbv;refine nG hS U jJ ?_;exact pW
 exact pW
 intro s23 U;cbv;exact sN
 intro U;cbv;refine Gg (fO [24,27,34,37,44,47,54,57,67,68,71]) [] [1,6,7,10] (λs29=>f4 145 [.lv 0 0,.sl 1 (M.m ByteArray eS y5) false,.os 1 0 (S.fE (M.m ByteArray eS s29.2)),sI s29.1] [vR (jb M f),aR 1 (M.m ByteArray eS s29.2)]) U ?_;intro Ik30 k30 s29 hk30 U e he;subst he;unfold IU at U;cbv;refine mO hS ?_;cbv;refine kQ ?_ ?_
 intro U;cbv;refine yE [] [1,6,7,10] (λs32=>f4 145 [.lv 0 0,.sl 1 (M.m ByteArray eS y5) false,.os 1 0 (S.fE (M.m ByteArray eS s32)),sI s29.1] [vR (jb M f),aR 1 (M.m ByteArray eS s32)]) U ?_ ?_
 intro Ik33 k33 hk33 U;cbv;refine qZ hS U (cI hM) ?_;intro y35 U;cbv;refine rf ?_ ?_
 intro U;cbv;refine qZ hS U (cI hM) ?_;intro y36 U;cbv;refine nG hS U jJ ?_;exact pW
 exact pW
 intro s32 U;cbv;exact sN
 intro U;cbv;refine Gg (fO [24,27,34,37,44,47,54,57,67,68,71]) [] [1,6,7,11] (λs37=>f4 145 [.lv 0 0,.sl 1 (M.m ByteArray eS y5) false,.os 1 0 (S.fE (M.m ByteArray eS s37.2)),sI s37.1] [vR (jb M f),aR 1 (M.m ByteArray eS s37.2)]) U ?_;intro Ik38 k38 s37 hk38 U e he;subst he;unfold IQ at U;cbv;refine mO hS ?_;cbv;refine kQ ?_ ?_
 intro U;cbv;refine yE [] [1,6,7,11] (λs40=>f4 145 [.lv 0 0,.sl 1 (M.m ByteArray eS y5) false,.os 1 0 (S.fE (M.m ByteArray eS s40)),sI s37.1] [vR (jb M f),aR 1 (M.m ByteArray eS s40)]) U ?_ ?_
 intro Ik41 k41 hk41 U;cbv;refine qZ hS U (cI hM) ?_;intro y43 U;cbv;refine rf ?_ ?_
 intro U;cbv;refine qZ hS U (cI hM) ?_;intro y44 U;cbv;refine Yb hS U rfl rfl ?_;intro x45 U;cbv;refine nG hS U jJ ?_;exact pW
 exact pW
 intro s40 U;cbv;exact sN
 intro U;cbv;refine yE [] [1,6,7] (λs46=>f4 145 [.lv 0 0,.sl 1 (M.m ByteArray eS y5) false,.os 1 0 (S.fE (M.m ByteArray eS s46))] [vR (jb M f),aR 1 (M.m ByteArray eS s46)]) U ?_ ?_
 intro Ik47 k47 hk47 U;cbv;refine kQ ?_ ?_
 intro U;cbv;refine Yb hS U rfl rfl ?_;intro x49 U;cbv;refine nG hS U jJ ?_;exact pW
 exact pW
 intro s46 U;cbv;refine Gg (fO [24,27,34,37,44,47,54,57,67,68,71]) [] [1,6,7,12] (λs50=>f4 145 [.lv 0 0,.sl 1 (M.m ByteArray eS y5) false,.os 1 0 (S.fE (M.m ByteArray eS s50.2)),sI s50.1] [vR (jb M f),aR 1 (M.m ByteArray eS s50.2)]) U ?_;intro Ik51 k51 s50 hk51 U e he;subst he;unfold IP at U;cbv;refine mO hS ?_;cbv;refine kQ ?_ ?_
 intro U;cbv;refine yE [] [1,6,7,12] (λs53=>f4 145 [.lv 0 0,.sl 1 (M.m ByteArray eS y5) false,.os 1 0 (S.fE (M.m ByteArray eS s53)),sI s50.1] [vR (jb M f),aR 1 (M.m ByteArray eS s53)]) U ?_ ?_
 intro Ik54 k54 hk54 U;cbv;refine qZ hS U (cI hM) ?_;intro y56 U;cbv;refine rf ?_ ?_
 intro U;cbv;refine qZ hS U (cI hM) ?_;intro y57 U;cbv;refine Yb hS U rfl rfl ?_;intro x58 U;cbv;refine nG hS U jJ ?_;exact pW
 exact pW
 intro s53 U;cbv;exact sN
 intro U;cbv;refine zT ?_;intro x59 U;cbv;refine iR hS U (cZ hM) ah ah rfl rfl rfl rfl ?_;intro y60 U;cbv;refine qZ hS U (cI hM) ?_;intro y61 U;cbv;refine iR hS U (cZ hM) ah ah rfl rfl rfl rfl ?_;intro y62 U;cbv;refine qZ hS U (cI hM) ?_;intro y63 U;cbv;refine iR hS U (cZ hM) ah ah rfl rfl rfl rfl ?_;intro y64 U;cbv;refine qZ hS U (cI hM) ?_;intro y65 U;cbv;refine iR hS U (cZ hM) ah ah rfl rfl rfl rfl ?_;intro y66 U;cbv;refine kQ ?_ ?_
 exact d_R
 intro U;cbv;refine AV hS U (cI hM) JB (λ_=>rfl) ?_;exact SQ
theorem akW {M:fP}(hM:M=ku){data:List eP}{n:Int}{r:List eP}(U:jO data n nJ=some r):Pv.FnS Tryz.prog glF 369 [.os 0 0 (M.n eP data),sI n,.fn 300 []] [(0,(aR 76 (eY M data)))] 1 (λuu ss nn=>uu=.Eu []/\ss=[(0,(aR 76 (eY M r)))]/\nn=1):=by
 haveI:HM M:=⟨hM⟩
 refine yX (T:=(Fg 1 [33] [])) (gp 1 [33] []) wf Tryz.func369 rfl Tryz.call369 rfl ?_;intro S R hS hR;have q:=sf hM hS;unfold jO at U;cbv;refine Gg (gp 1 [33] []) [] [0,1,2,6,7,8] (λt=>f4 63 [.os 0 0 (S.fE (eY M t.2.2)),sI n,.fn 300 [],sI 20,sI t.1,sI t.2.1] [aR 76 (eY M t.2.2)]) U ?_;intro Ik2 k2 t hk2 U e J;subst J;unfold mM at U;cbv;refine kQ ?_ ?_
 intro U;cbv;refine uj hS U (cZ hM) ah ah rfl rfl rfl rfl ?_;intro y4 J U;have q:=And.intro q (mY aal J).symm;cbv;exact sN
 intro U;cbv;refine uj hS U (cZ hM) ah ah rfl rfl rfl rfl ?_;intro y5 J U;have q:=And.intro q (mY aal J).symm;cbv;refine Gg (gp 1 [33] []) [] [0,1,2,6] (λC=>f4 63 [.os 0 0 (S.fE (eY M C.2)),sI n,.fn 300 [],sI C.1] [aR 76 (eY M C.2)]) U ?_;intro Ik7 k7 C hk7 U e J;subst J;unfold mJ at U;cbv;refine kQ ?_ ?_
 intro U;cbv;refine Gg (gp 1 [33] []) [] [0,1,2,6,7,8] (λg=>f4 63 [.os 0 0 (S.fE (eY M g.2.2)),sI n,.fn 300 [],sI C.1,sI g.1,sI g.2.1] [aR 76 (eY M g.2.2)]) U ?_;intro Ik10 k10 g hk10 U e J;subst J;unfold mG at U;cbv;refine kQ ?_ ?_
 intro U;cbv;refine uj hS U (λ_=>ahO hM) ah ah rfl rfl rfl rfl ?_;intro y12 J U;have q:=And.intro q (mY Vk J).symm;cbv;exact sN
 intro U;cbv;refine yE [] [0,1,2,6] (λI=>f4 63 [.os 0 0 (S.fE (eY M I)),sI n,.fn 300 [],sI C.1] [aR 76 (eY M I)]) U ?_ ?_
 intro Ik14 k14 hk14 U;cbv;refine kQ ?_ ?_
 intro U;cbv;refine uj hS U (λ_=>ahO hM) ah ah rfl rfl rfl rfl ?_;intro y16 J U;have q:=And.intro q (mY Vk J).symm;cbv;exact sN
 exact pW
 intro I U;cbv;exact sN
 intro U;cbv;cases U;exact hR _ _ _ ah ah rfl
end Go.Proofs.YtchmoabpofnbaaaGreat
namespace Go.Proofs.YtchmoabpofnbaaaGreat
open Go Go.Pv Proofs.Tryz
set_option maxRecDepth 100000
set_option maxHeartbeats 20000000
variable [GM]
attribute [local irreducible] bnd br jn oL loopF iq jS gu pO rG divO jF iO jA jm jE jY jU
variable {M:fP}[HM M]
instance c243 {cards}{s}:CC M 243 (FM cards s) [kH M cards,.agg (fV M s)] (λr=>fK M r):=by
 have:=lo 3 [0,3,5,13,14,15] (λ_ (s:Int×(List GLayerForce))=>up [(5,.os 1 0 (M.n GLayerForce s.2)),(15,sI s.1)] [(1,(aR 23 (rF M s.2)))]) [.tO 5 23];have:=ct 25 [0,3,5,13,14,15] (λ_ s=>up [(5,.os 1 0 (M.n GLayerForce s))] [(1,(aR 23 (rF M s)))]) [.tO 5 23];have:=lo 7 [0,3,5,7,13,14,15,25,26,27] (λ_ (s:Int×(List GLayerForce))=>up [(5,.os 1 0 (M.n GLayerForce s.2)),(27,sI s.1)] [(1,(aR 23 (rF M s.2)))]) [.tO 5 23];have:=ct 23 [0,3,5,7,13,14,15,25,26,27] (λ_ s=>up [(5,.os 1 0 (M.n GLayerForce s))] [(1,(aR 23 (rF M s)))]) [.tO 5 23];have:=lo 14 [5,54,55,56] (λ_ (s:Int×(List GLayerForce))=>up [(5,.os 0 0 (M.n GLayerForce s.2)),(56,sI s.1)] [(0,(aR 23 (rF M s.2)))]);exact wA (fO [23,25]) func243 call243
theorem gq178 {T S a b E Q0}(h:∀ Q,Q=Q0->opsE T S a b E Q):opsE T S a b E Q0:=h Q0 rfl
instance c178 {cards}{s}:CC M 178 (LU cards s) [kH M cards,.agg (fD M s)] (λr=>vg M r):=by
 have:=lo 3 [0,3,5,6] (λ_ (s:Int×(List ig))=>up [(5,.os 1 0 (M.n ig s.2)),(6,sI s.1)] [(1,(aR 23 (Ah M s.2)))]);have:=ct 9 [0,3,5,6] (λ_ s=>up [(5,.os 1 0 (M.n ig s))] [(1,(aR 23 (Ah M s)))]);have:=lo 9 [0,3,5,6,7,8,9] (λ_ (s:Int×(List ig))=>up [(5,.os 1 0 (M.n ig s.2)),(9,sI s.1)] [(1,(aR 23 (Ah M s.2)))]);have:=ct 21 [0,3,5,6,7,8,9] (λ_ s=>up [(5,.os 1 0 (M.n ig s))] [(1,(aR 23 (Ah M s)))]);have:=lo 15 [3,5,11] (λ_ (s:Int×(List ig))=>up [(5,.os 1 0 (M.n ig s.2)),(11,sI s.1)] [(1,(aR 23 (Ah M s.2)))]);exact wA (fO [9,21]) func178 call178 (h:=by
  intro r U S R hS hR hT hW hM q
  cbv
  refine d_lA hT hW hS rfl dw U dCl dCf dE ?_;intro I k s hk U e J;subst J;cbv
  refine OU hS U dE ?_ ?_
  · intro U;exact dW
  intro U;cbv
  refine d_lA hT hW hS rfl dw U dCl dCf dE ?_;intro I k s hk U e J;subst J;cbv
  refine OU hS U dE ?_ ?_
  · intro U
    cbv
    refine agf hS hM U dE dE ?_
    intro _ U
    with_reducible refine gq178 ?_
    intro Q hQ
    cbv
    subst hQ
    cbv
    exact dW
  intro U;exact dW)
instance c412 {o}{t}{you}{source}{f}:CC M 412 (lX o t you source f) [.agg (ja M o),.agg (jh M t),sI you,sI source,.agg (jb M f)] (λr=>.sb r):=by
 have:=ct 2 [2,3,5,6,9,23] (λ_ s=>je [(23,.sb s)]);have:=ct 43 [6,9,13] (λ_ (_:Unit)=>je []);have:=ct 12 [2,3,5,6,9,12,13,30] (λ_ s=>je [(30,.sb s)]);have:=ct 18 [3,5,6,9,12,13,49] (λ_ s=>je [(49,.sb s)]);have:=ct 30 [5,6,9,13,88] (λ_ s=>je [(88,.sb s)]);have:=ct 36 [5,6,9,13,106] (λ_ s=>je [(106,.sb s)]);exact wA (fO [2,12,18,30,36,43]) func412 call412
end Go.Proofs.YtchmoabpofnbaaaGreat
