import Derived.Test.YtchmoabpofnbaaaGreatC24
import Derived.Test.YtchmoabpofnbaaaGreatC26
import Derived.Test.YtchmoabpofnbaaaGreatC29
set_option linter.all false
namespace Go.Proofs.YtchmoabpofnbaaaGreat
open Go Go.Pv
set_option maxRecDepth 100000
set_option maxHeartbeats 20000000
variable [GM]
attribute [local irreducible] bnd br jn oL loopF iq jS gu pO rG divO jF iO jA jm jE jY jU
variable {M:fP}[HM M]
instance c59 {s}:CC M 59 (sV s) [.agg (fD M s)] (λr=>.agg (fD M r)):=by
 have hM:=HM.h (M:=M);refine⟨λr U=>?_⟩;refine CO fG Tryz.func59 Tryz.call59 ?_;intro S R hS hR q;unfold sV at U;cbv;refine jl hS U (cZ hM) (le_eq rfl) ?_;intro y1 U;cbv;refine UQ hS fG wf [] [1,2,13,14] (λs2=>f3 138 [(1,.lv 0 0),(2,.lv 2 0),(13,sI (S.yf (M.n jB y1))),(14,sI s2.1)] [vR [.os 1 0 (S.fE (lu M s2.2)),nS M s.objects,.sl 1 (mI M s.iD) false,.sl 1 (mI M s.qV) false,UG M s.stack,sF M s.waiting,MI M s.jT,sI s.turn,sI s.jZ,sI s.step,.sb s.begun,sI s.priority,sI s.passes,sI s.nextId,sI s.kF,.si .u64 s.seed,.sl 1 (mI M s.extra) false,sI s.over,sI s.ql],aR 14 (lu M s2.2),vR [.sl 0 [] true,.sl 0 [] true,.sl 0 [] true,.sl 0 [] true,.sl 0 [] true,.sl 0 [] true,.sl 0 [] true,sI 0,sI 0,sI 0,.sb false,sI 0,sI 0,sI 0,sI 0,.si .u64 0,.sl 0 [] true,sI 0,sI 0]]) U ?_;intro Ik3 k3 s2 hk3 U e he;subst he;unfold BG at U;cbv;refine kQ ?_ ?_
 intro U;cbv;refine CB hS ?_;cbv;refine kM hS U jJ rfl ?_;intro j5 _ U;cbv;refine jc hS hM U rfl jJ ?_;intro x6 U;cbv;refine GX hS U (cI hM) ?_;intro y7 U;cbv;refine kM hS U jJ rfl ?_;intro j8 _ U;cbv;refine jc hS hM U rfl jJ ?_;exact sK
 intro U;cbv;refine jl hS U (cZ hM) (le_eq rfl) ?_;intro y10 U;cbv;refine jl hS U (cZ hM) (le_eq rfl) ?_;intro y11 U;cbv;refine jl hS U (cZ hM) (le_eq rfl) ?_;intro y12 U;cbv;refine jl hS U (cZ hM) (le_eq rfl) ?_;intro y13 U;cbv;refine UQ hS fG wf [] [1,2,46,47] (λs14=>f3 138 [(1,.lv 0 0),(2,.lv 6 0),(46,sI (S.yf (M.n oK y13))),(47,sI s14.1)] [vR [.os 1 0 (S.fE (lu M s2.2)),.os 2 0 (S.fE (jW M y10)),.os 3 0 (S.fE (mI M y11)),.os 4 0 (S.fE (mI M y12)),.os 5 0 (S.fE (uy M s14.2)),sF M s.waiting,MI M s.jT,sI s.turn,sI s.jZ,sI s.step,.sb s.begun,sI s.priority,sI s.passes,sI s.nextId,sI s.kF,.si .u64 s.seed,.sl 1 (mI M s.extra) false,sI s.over,sI s.ql],aR 14 (lu M s2.2),aR 19 (jW M y10),aR 1 (mI M y11),aR 1 (mI M y12),aR 94 (uy M s14.2),vR [.sl 0 [] true,.sl 0 [] true,.sl 0 [] true,.sl 0 [] true,.sl 0 [] true,.sl 0 [] true,.sl 0 [] true,sI 0,sI 0,sI 0,.sb false,sI 0,sI 0,sI 0,sI 0,.si .u64 0,.sl 0 [] true,sI 0,sI 0]]) U ?_;intro Ik15 k15 s14 hk15 U e he;subst he;unfold BF at U;cbv;refine kQ ?_ ?_
 intro U;cbv;refine CB hS ?_;cbv;refine kM hS U jJ rfl ?_;intro j17 _ U;cbv;refine jc hS hM U rfl jJ ?_;intro x18 U;cbv;refine GX hS U (cI hM) ?_;intro y19 U;cbv;refine kM hS U jJ rfl ?_;intro j20 _ U;cbv;refine jc hS hM U rfl jJ ?_;intro x21 U;cbv;refine CB hS ?_;cbv;refine kM hS U jJ rfl ?_;intro j22 _ U;cbv;refine jc hS hM (e:=(AZ M)) U jJ jJ ?_;intro x23 U;cbv;refine GX hS U (cI hM) ?_;intro y24 U;cbv;refine kM hS U jJ rfl ?_;intro j25 _ U;cbv;refine jc hS hM (e:=(AZ M)) U jJ jJ ?_;exact sK
 intro U;cbv;refine jl hS U (cZ hM) (le_eq rfl) ?_;intro y27 U;cbv;refine UQ hS fG wf [] [1,2,81,82] (λs28=>f3 138 [(1,.lv 0 0),(2,.lv 7 0),(81,sI (S.yf (M.n gm y27))),(82,sI s28.1)] [vR [.os 1 0 (S.fE (lu M s2.2)),.os 2 0 (S.fE (jW M y10)),.os 3 0 (S.fE (mI M y11)),.os 4 0 (S.fE (mI M y12)),.os 5 0 (S.fE (uy M s14.2)),.os 6 0 (S.fE (iP M s28.2)),MI M s.jT,sI s.turn,sI s.jZ,sI s.step,.sb s.begun,sI s.priority,sI s.passes,sI s.nextId,sI s.kF,.si .u64 s.seed,.sl 1 (mI M s.extra) false,sI s.over,sI s.ql],aR 14 (lu M s2.2),aR 19 (jW M y10),aR 1 (mI M y11),aR 1 (mI M y12),aR 94 (uy M s14.2),aR 89 (iP M s28.2),vR [.sl 0 [] true,.sl 0 [] true,.sl 0 [] true,.sl 0 [] true,.sl 0 [] true,.sl 0 [] true,.sl 0 [] true,sI 0,sI 0,sI 0,.sb false,sI 0,sI 0,sI 0,sI 0,.si .u64 0,.sl 0 [] true,sI 0,sI 0]]) U ?_;intro Ik29 k29 s28 hk29 U e he;subst he;unfold BD at U;cbv;refine kQ ?_ ?_
 intro U;cbv;refine CB hS ?_;cbv;refine kM hS U jJ rfl ?_;intro j31 _ U;cbv;refine jc hS hM U rfl jJ ?_;intro x32 U;cbv;refine GX hS U (cI hM) ?_;intro y33 U;cbv;refine kM hS U jJ rfl ?_;intro j34 _ U;cbv;refine jc hS hM U rfl jJ ?_;exact sK
 intro U;cbv;refine jl hS U (cZ hM) (le_eq rfl) ?_;intro y36 U;cbv;refine UQ hS fG wf [] [1,2,104,105] (λs37=>f3 138 [(1,.lv 0 0),(2,.lv 8 0),(104,sI (S.yf (M.n qc y36))),(105,sI s37.1)] [vR [.os 1 0 (S.fE (lu M s2.2)),.os 2 0 (S.fE (jW M y10)),.os 3 0 (S.fE (mI M y11)),.os 4 0 (S.fE (mI M y12)),.os 5 0 (S.fE (uy M s14.2)),.os 6 0 (S.fE (iP M s28.2)),.os 7 0 (S.fE (Ag M s37.2)),sI s.turn,sI s.jZ,sI s.step,.sb s.begun,sI s.priority,sI s.passes,sI s.nextId,sI s.kF,.si .u64 s.seed,.sl 1 (mI M s.extra) false,sI s.over,sI s.ql],aR 14 (lu M s2.2),aR 19 (jW M y10),aR 1 (mI M y11),aR 1 (mI M y12),aR 94 (uy M s14.2),aR 89 (iP M s28.2),aR 6 (Ag M s37.2),vR [.sl 0 [] true,.sl 0 [] true,.sl 0 [] true,.sl 0 [] true,.sl 0 [] true,.sl 0 [] true,.sl 0 [] true,sI 0,sI 0,sI 0,.sb false,sI 0,sI 0,sI 0,sI 0,.si .u64 0,.sl 0 [] true,sI 0,sI 0]]) U ?_;intro Ik38 k38 s37 hk38 U e he;subst he;unfold BC at U;cbv;refine kQ ?_ ?_
 intro U;cbv;refine CB hS ?_;cbv;refine kM hS U jJ rfl ?_;intro j40 _ U;cbv;refine jc hS hM U rfl jJ ?_;intro x41 U;cbv;refine GX hS U (cI hM) ?_;intro y42 U;cbv;refine kM hS U jJ rfl ?_;intro j43 _ U;cbv;refine jc hS hM U rfl jJ ?_;intro x44 U;cbv;refine CB hS ?_;cbv;refine kM hS U jJ rfl ?_;intro j45 _ U;cbv;refine jc hS hM (e:=(Df M)) U jJ jJ ?_;intro x46 U;cbv;refine GX hS U (cI hM) ?_;intro y47 U;cbv;refine kM hS U jJ rfl ?_;intro j48 _ U;cbv;refine jc hS hM (e:=(Df M)) U jJ jJ ?_;exact sK
 intro U;cbv;refine jl hS U (cZ hM) (le_eq rfl) ?_;exact SQ
instance amF {s}{w1:Int}:CZ M 151 (pU s (λa0=>uA a0 w1)) [.os 0 0 (M.n Int s),.fn 250 [.pp [sI w1]]] [(0,(aR 1 (mI M s)))] 1 (λr=>.os 1 0 (M.n Int r)) (λr=>[(0,none),(1,(aR 1 (mI M r)))]) 2:=by
 have hM:=HM.h (M:=M);refine⟨λr U=>?_⟩;refine yX (T:=(Fg 1 [13] [[(1,true)]])) (gp 1 [13] [[(1,true)]]) wf Tryz.func151 rfl Tryz.call151 rfl ?_;intro S R hS hR;have q:=sf hM hS;unfold pU at U;cbv;refine AV hS U (cI hM) JB (λ_=>rfl) ?_;intro y1 U;cbv;refine kQ ?_ ?_
 intro U;cbv;cases U;exact hR _ _ _ ah ah rfl
 intro U;cbv;refine Gg (gp 1 [13] [[(1,true)]]) [] [0,1,5,6] (λs2=>f4 42 [.os 0 0 (S.fE (mI M s2.2.2)),.fn 250 [.pp [sI w1]],sI s2.1,sI s2.2.1] [aR 1 (mI M s2.2.2)]) U ?_;intro Ik3 k3 s2 hk3 U e he;subst he;unfold uq at U;cbv;refine kQ ?_ ?_
 intro U;cbv;refine yE [] [0,1,5,6] (λs5=>f4 42 [.os 0 0 (S.fE (mI M s5.2)),.fn 250 [.pp [sI w1]],sI s5.1,sI s2.2.1] [aR 1 (mI M s5.2)]) U ?_ ?_
 intro Ik6 k6 hk6 U;cbv;refine kM hS U jJ rfl ?_;intro j8 _ U;cbv;refine jc hS hM U rfl jJ ?_;intro x9 U;cbv;refine qZ hS U (cI hM) ?_;intro y10 U;cbv;refine kQ ?_ ?_
 intro U;cbv;refine kM hS U jJ rfl ?_;intro j11 _ U;cbv;refine jc hS hM U rfl jJ ?_;exact sK
 exact pW
 intro s5 U;cbv;exact sN
 intro U;cbv;refine aa9 hS U jJ rfl jJ ?_;intro x13 bx13 U;cbv;refine JA hS (e:=(eI .i64)) U ah ?_;intro x14 U;cbv;refine aa9 hS U jJ rfl rfl ?_;intro x15 bx15 U;cbv;cases U;exact hR _ _ _ au au rfl
end Go.Proofs.YtchmoabpofnbaaaGreat
namespace Go.Proofs.YtchmoabpofnbaaaGreat
open Go Go.Pv Proofs.Tryz
set_option maxRecDepth 100000
set_option maxHeartbeats 20000000
variable [GM]
attribute [local irreducible] bnd br jn oL loopF iq jS gu pO rG divO jF iO jA jm jE jY jU
variable {M:fP}[HM M]
instance c450 {c}:CC M 450 (Q8 c) [.agg (qN M c)] (λr=>.str r):=by
 have:=lo 5 [1,3,4] (λ_ (s:ByteArray×Int)=>je [(3,.str s.1),(4,sI s.2)]);have:=ct 21 [1,3] (λ_ s=>je [(3,.str s)]);have:=lo 11 [1,3,5] (λ_ (s:ByteArray×Int)=>je [(3,.str s.1),(5,sI s.2)]);have:=lo 14 [1,3,5,6] (λ_ (s:ByteArray×Int)=>je [(3,.str s.1),(6,sI s.2)]);have:=ct 28 [1,3,5,6,35] (λ_ s=>je [(35,.sb s)]);exact wA (fO [21,22,28]) func450 call450
instance c403 {left}:CC M 403 (zg left) [.sl 1 (mI M left) false] (λr=>.sl 1 (mI M r) false):=by
 have:=lo 3 [3,6,7,8] (λ_ (s:Int×(List Int))=>up [(3,.os 0 0 (M.n Int s.2)),(8,sI s.1)] [(0,(aR 1 (mI M s.2)))]) [.tO 3 1];have:=ct 15 [3,6,7,8] (λ_ s=>up [(3,.os 0 0 (M.n Int s))] [(0,(aR 1 (mI M s)))]) [.tO 3 1];have:=ct 10 [3,5,6,7,8,19] (λ_ s=>je [(19,.sb s)]);exact wA (fO [10,15]) func403 call403
instance c322 {mask}:CC M 322 (Nw mask) [sI mask] (λr=>.str r):=by
 have:=lo 5 [0,3,4] (λ_ (s:Int×ByteArray×Int)=>je [(0,sI s.1),(3,.str s.2.1),(4,sI s.2.2)]);have:=ct 13 [0,3,4] (λ_ (s:Int×ByteArray)=>je [(0,sI s.1),(3,.str s.2)]);have:=ct 23 [0,3,4] (λ_ s=>je [(3,.str s)]);have:=ct 21 [0,3,4] (λ_ s=>je [(3,.str s)]);exact wA (fO [10,13,21,23]) func322 call322
instance amG {j}{c1}{c2}{w1}{w2:List (List Bool)}:CC M 405 (xH j c1 c2 (λa0 a1=>rZ a0 a1 w1 w2)) [sI j,.pp [sI c1],.pp [.sl 1 (M.m (List Bool) (eL M 1 eB) c2) false],.pp [.fn 455 [.pp [.sl 1 (mI M w1) false],.pp [.sl 1 (M.m (List Bool) (eL M 1 eB) w2) false]]]] (λr=>.sb r):=by
 exact wA fG func405 call405
instance c461 {c}{x}:CC M 461 (zH c x) [.agg (qN M c),sI x] (λr=>sI r):=by
 have:=lo 5 [1,2,5,14,15] (λ_ (s:Int×Int)=>je [(5,sI s.1),(15,sI s.2)]);have:=ct 12 [1,2,5,7,14,15] (λ_ s=>je [(7,sI s)]);exact wA (fO [10,12]) func461 call461
instance c252 {c}{a}:CC M 252 (pI c a) [.agg (jD M c),.sl 1 (mI M a) false] (λr=>.sb r):=by
 have:=lo 2 [1,2,7,8,9] (λ_ s=>je [(9,sI s)]);have:=ct 8 [1,2,7,8,9,29] (λ_ s=>je [(29,.sb s)]);exact wA (fO [8]) func252 call252
instance amH {s}{w1:Int}:CC M 402 (xG s (λa0=>wo a0 w1)) [PZ M s,.fn 328 [.pp [sI w1]]] (λr=>sI r):=by
 have:=lo 2 [0,1,7,8] (λ_ s=>je [(8,sI s)]);exact wA fG func402 call402
end Go.Proofs.YtchmoabpofnbaaaGreat
