import Derived.Test.YtchmoabpofnbaaaGreatW14a
set_option linter.all false
namespace Go.Proofs.YtchmoabpofnbaaaGreat
open Go Go.Pv Proofs.Tryz
set_option maxRecDepth 100000
set_option maxHeartbeats 20000000
variable [GM]
attribute [local irreducible] bnd br jn qR ig jK lK jS rQ uY divO lu jR kY lD lU mg l9
variable {M:iO}[HM M]
instance z49_1 {k}{cards}{s}{pe}{add}:CZ M 49 (AX k cards s pe add) [.lv 0 0,mD M cards,.agg (iQ M s),.agg (jm M pe),.sb add] [(0,(vR (jw M k)))] 1 (λr=>.agg (iQ M r.1)) (λr=>[(0,(vR (jw M r.2)))]) 1:=by
 have hM:=HM.h (M:=M);refine⟨λr O=>?_⟩;refine xe (T:=(FY 1 [4,10,15] [])) (iZ 1 [4,10,15] []) wf func49 rfl call49 rfl [] ?_;intro S R hS hR;have q:=sf hM hS;unfold AX at O;cbv;refine jT hS O (cZ hM) jC jC rfl rfl rfl rfl ?_;intro y1 O;cbv;refine Bd [] [0,1,7,8,10,31] (λs2=>f4 61 [.lv 0 0,mD M cards,.lv 1 0,.lv 2 0,.lv 3 0,.sb s2] [vR (jw M y1.2.2.2),vR (iQ M y1.1),vR (jm M y1.2.1),vR [.sl 0 [] true,.sl 0 [] true,.sl 0 [] true,.sl 0 [] true,.sl 0 [] true,.sl 0 [] true,.sl 0 [] true,sI 0,sI 0,sI 0,.sb false,sI 0,sI 0,sI 0,sI 0,.si .u64 0,.sl 0 [] true,sI 0,sI 0]]) O ?_ ?_
 intro Ik3 k3 hk3 O;cbv;refine pW ?_ ?_
 exact sV
 intro O;cbv;refine FX hS O (cI hM) ?_;exact zK
 intro s2 O;cbv;refine vH ?_ ?_
 exact fQ
 intro O;cbv;refine Bd [] [0,1,7,8,10,12] (λs6=>f4 61 [.lv 0 0,mD M cards,.lv 1 0,.lv 2 0,.lv 3 0,sI s6.1] [vR (jw M y1.2.2.2),vR (iQ M y1.1),vR [sI y1.2.1.kind,sI y1.2.1.source,sI y1.2.1.object,sI y1.2.1.kE,sI s6.2,sI y1.2.1.Jt,sI y1.2.1.to,sI y1.2.1.cause,sI y1.2.1.counter,sI y1.2.1.card,.sb y1.2.1.JY,.sb y1.2.1.qg,sI y1.2.1.extra.a0,sI y1.2.1.extra.a1,sI y1.2.1.extra.a2],vR [.sl 0 [] true,.sl 0 [] true,.sl 0 [] true,.sl 0 [] true,.sl 0 [] true,.sl 0 [] true,.sl 0 [] true,sI 0,sI 0,sI 0,.sb false,sI 0,sI 0,sI 0,sI 0,.si .u64 0,.sl 0 [] true,sI 0,sI 0]]) O ?_ ?_
 intro Ik7 k7 hk7 O;cbv;refine Bd [] [0,1,7,8,10,12,40] (λs9=>f4 61 [.lv 0 0,mD M cards,.lv 1 0,.lv 2 0,.lv 3 0,sI 0,.sb s9] [vR (jw M y1.2.2.2),vR (iQ M y1.1),vR (jm M y1.2.1),vR [.sl 0 [] true,.sl 0 [] true,.sl 0 [] true,.sl 0 [] true,.sl 0 [] true,.sl 0 [] true,.sl 0 [] true,sI 0,sI 0,sI 0,.sb false,sI 0,sI 0,sI 0,sI 0,.si .u64 0,.sl 0 [] true,sI 0,sI 0]]) O ?_ ?_
 intro Ik10 k10 hk10 O;cbv;refine pW ?_ ?_<;>exact sV
 intro s9 O;cbv;refine vH ?_ ?_
 intro O;cbv;replace O:=YI O;obtain⟨v12,gv12,ev12⟩:∃ z:Int,(S.bin .sub .i64 (S.acy y1.2.1.amount 2048) 1)=z/\(pF (if 2048<y1.2.1.amount then 2048 else y1.2.1.amount) 1)=z:=⟨_,rfl,mi⟩
 (try rw[gv12]);(try (conv at gv12=>(lhs;cbv)));(try rw[gv12]);(try rw[ev12] at O);clear gv12 ev12
 exact uB
 exact sV
 intro s6 O;cbv;refine jT hS O (cZ hM) jC jC rfl rfl rfl rfl ?_;intro y13 O;cbv;refine d_L (iZ 1 [4,10,15] []) [] [0,1,7,8,10,51,52] (λs14=>f4 61 [.lv 0 0,mD M cards,.lv 1 0,.lv 2 0,.lv 3 0,sI s6.1,sI 0] [vR (jw M y13.2),vR (iQ M y13.1),vR [sI y1.2.1.kind,sI y1.2.1.source,sI y1.2.1.object,sI y1.2.1.kE,sI s6.2,sI y1.2.1.Jt,sI y1.2.1.to,sI y1.2.1.cause,sI y1.2.1.counter,sI y1.2.1.card,.sb y1.2.1.JY,.sb y1.2.1.qg,sI y1.2.1.extra.a0,sI y1.2.1.extra.a1,sI y1.2.1.extra.a2],vR [.sl 0 [] true,.sl 0 [] true,.sl 0 [] true,.sl 0 [] true,.sl 0 [] true,.sl 0 [] true,.sl 0 [] true,sI 0,sI 0,sI 0,.sb false,sI 0,sI 0,sI 0,sI 0,.si .u64 0,.sl 0 [] true,sI 0,sI 0]]) O ?_;intro Ik15 k15 s14 hk15 O e he;subst he;unfold AV at O;cbv;refine pW ?_ ?_
 intro O;cbv;cases O
 intro O;cbv;cases O;exact hR _ _ _ jC jC rfl
instance s16 {k}{cards}{s}{pe}:CZ M 16 (zB k cards s pe) [.lv 0 0,mD M cards,.agg (iQ M s),.agg (jm M pe)] [(0,(vR (jw M k)))] 1 (λr=>.agg (iQ M r.1)) (λr=>[(0,(vR (jw M r.2)))]) 1:=by
 exact wZ (iZ 1 [] []) func16 call16
instance c14  : CC M 14 (Di ) [] (λr=>.sb r):=by
 have hM:=HM.h (M:=M);refine⟨λr O=>?_⟩;refine Ij (ja [4]) func14 call14 ?_;intro S R hS hR q;unfold Di at O;cbv;refine Nr hS (e:=(jQ M)) O jC ?_;intro x1 O;cbv;refine Nr hS (e:=(yY M)) O jC ?_;intro x2 O;cbv;refine Ub hS [.tF 1] ?_;cbv;refine Nr hS (e:=(jY M)) O jC ?_;intro x3 O;cbv;refine abb hS O (cI hM) (by subst hM;first|exact jC|exact LU) ?_;intro y4 O;cbv;refine Ii hS ?_;cbv;refine WR hS [.cF 0 0] O (cZ hM) di (λ_=>bC) ?_;intro y5 O;cbv;refine La hS O (cZ hM) (by subst hM;exact jC) jC rfl rfl ?_;intro y6 O;cbv;refine Ii hS ?_;cbv;refine WR hS [.cF 0 0] O (cZ hM) di (λ_=>bC) ?_;intro y7 O;cbv;refine La hS O (cZ hM) (by subst hM;exact jC) jC rfl rfl ?_;intro y8 O;cbv;refine pW ?_ ?_
 intro O;cbv;refine d_I ?_;intro x9 O;cbv;refine pW ?_ ?_
 intro O;cbv;refine pW ?_ ?_
 intro O;cbv;refine d_I ?_;exact ab2
 exact d_R
 exact d_R
 exact d_R
end Go.Proofs.YtchmoabpofnbaaaGreat
namespace Go.Proofs.YtchmoabpofnbaaaGreat
open Go Go.Pv
set_option maxRecDepth 100000
set_option maxHeartbeats 20000000
variable [GM]
attribute [local irreducible] bnd br jn qR ig jK lK jS rQ uY divO lu jR kY lD lU mg l9
variable {M:iO}[HM M]
instance c4 {cards}{s}{amount}:CC M 4 (sD cards s amount) [mD M cards,.agg (iQ M s),sI amount] (λr=>.sb r):=by
 have hM:=HM.h (M:=M);refine⟨λr O=>?_⟩;refine Ij (ja [2,11,16]) Tryz.func4 Tryz.call4 ?_;intro S R hS hR q;unfold sD at O;cbv;refine Bd [] [0,2,4,26] (λs1=>f4 74 [mD M cards,sI amount,.lv 0 0,.sb s1] [vR (iQ M s)]) O ?_ ?_
 intro Ik2 k2 hk2 O;cbv;refine FX hS O (cI hM) ?_;intro y4 O;cbv;refine pW ?_ ?_
 exact sV
 intro O;cbv;refine pW ?_ ?_
 exact sV
 intro O;cbv;refine pW ?_ ?_
 exact sV
 intro O;cbv;refine FX hS O (cI hM) ?_;exact zK
 intro s1 O;cbv;refine vH ?_ ?_
 intro O;cbv;refine FX hS O (cI hM) ?_;exact ab2
 intro O;cbv;refine d_L (ja [2,11,16]) [] [0,2,4,7] (λs7=>f4 74 [mD M cards,sI amount,.lv 0 0,sI s7] [vR (iQ M s)]) O ?_;intro Ik8 k8 s7 hk8 O e he;subst he;unfold sN at O;cbv;refine pW ?_ ?_
 intro O;cbv;refine Bd [] [0,2,4,7] (λs10=>f4 74 [mD M cards,sI amount,.lv 0 0,sI s7] [vR (iQ M s)]) O ?_ ?_
 intro Ik11 k11 hk11 O;cbv;refine d_I ?_;intro x13 O;cbv;refine vH ?_ ?_
 exact sV
 intro O;cbv;refine Ii hS ?_;cbv;refine WR hS [.cF 0 0] O (cZ hM) di (λ_=>bC) ?_;intro y14 O;cbv;refine La hS O (cZ hM) jC jC rfl rfl ?_;intro y15 O;cbv;refine Bd [] [0,2,4,7,72] (λs16=>f4 74 [mD M cards,sI amount,.lv 0 0,sI s7,.sb s16] [vR (iQ M s)]) O ?_ ?_
 intro Ik17 k17 hk17 O;cbv;refine Ii hS ?_;cbv;refine pW ?_ ?_
 exact sV
 intro O;cbv;refine d_I ?_;intro x19 O;cbv;refine d_I ?_;intro x20 O;cbv;replace O:=YI O;exact uB
 intro s16 O;cbv;refine vH ?_ ?_
 exact d_R
 exact sV
 intro s10 O;cbv;exact uB
 intro O;cbv;refine FX hS O (cI hM) ?_;exact ab2
end Go.Proofs.YtchmoabpofnbaaaGreat
