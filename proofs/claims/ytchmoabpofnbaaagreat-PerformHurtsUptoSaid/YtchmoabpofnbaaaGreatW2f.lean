import Derived.Test.YtchmoabpofnbaaaGreatW1a
import Derived.Test.YtchmoabpofnbaaaGreatW1e
import Derived.Test.YtchmoabpofnbaaaGreatW1i
import Derived.Test.YtchmoabpofnbaaaGreatB12
set_option linter.all false
namespace Go.Proofs.YtchmoabpofnbaaaGreat
open Go Go.Pv Proofs.Tryz
set_option maxRecDepth 100000
set_option maxHeartbeats 20000000
variable [GM]
attribute [local irreducible] bnd br jn qR ig jK lK jS rQ uY divO lu jR kY lD lU mg l9
variable {M:iO}[HM M]
instance c401 {a}:CC M 401 (uH a) [.agg (jQ M a)] (λr=>.agg (jQ M r)):=by
 have hM:=HM.h (M:=M);refine⟨λr O=>?_⟩;refine Ij iE func401 call401 ?_;intro S R hS hR q;unfold uH at O;cbv;refine mJ hS O (cZ hM) (le_eq rfl) ?_;intro y1 O;cbv;refine mJ hS O (cZ hM) (le_eq rfl) ?_;intro y2 O;cbv;refine mJ hS O (cZ hM) (le_eq rfl) ?_;intro y3 O;cbv;refine Z9 hS iE wf [] [1,2,18,19] (λs4=>f3 36 [(1,.lv 0 0),(2,.lv 4 0),(18,sI (S.Be (M.n jh y3))),(19,sI s4.1)] [vR ((([sI a.kind]++(jU M a.filter++([.os 1 0 (S.iD (UN M y1))]++(zZ M a.price++[.sb a.slow]))))++(pX M a.iM++[.sb a.may,.os 2 0 (S.iD (mSpec M y2)),.os 3 0 (S.iD (AZ M s4.2))]))++(oU M a.replace)),aR 20 (UN M y1),aR 18 (mSpec M y2),aR 64 (AZ M s4.2),vR [sI 0,sI 0,sI 0,sI 0,sI 0,sI 0,sI 0,sI 0,.str (bs []),sI 0,sI 0,sI 0,sI 0,sI 0,sI 0,sI 0,sI 0,.sl 0 [] true,sI 0,sI 0,sI 0,sI 0,sI 0,sI 0,sI 0,.sb false,.sb false,sI 0,.sb false,sI 0,sI 0,sI 0,sI 0,sI 0,sI 0,sI 0,sI 0,sI 0,.str (bs []),sI 0,sI 0,sI 0,sI 0,sI 0,sI 0,sI 0,sI 0,.sb false,.sl 0 [] true,.sl 0 [] true,sI 0,sI 0,sI 0,sI 0,sI 0,sI 0,sI 0,sI 0,sI 0,.str (bs []),sI 0,sI 0,sI 0,sI 0,sI 0,sI 0,sI 0,sI 0,sI 0,sI 0,sI 0,sI 0]]) O ?_;intro Ik5 k5 s4 hk5 O e he;subst he;unfold um at O;cbv;refine pW ?_ ?_
 intro O;cbv;refine Ii hS ?_;cbv;refine nZ hS O mi rfl ?_;intro j7 _ O;cbv;refine kR hS hM O rfl mi ?_;intro x8 O;cbv;refine d_c hS O (cI hM) ?_;intro y9 O;cbv;refine nZ hS O mi rfl ?_;intro j10 _ O;cbv;refine kR hS hM O rfl mi ?_;exact zK
 exact d_R
instance c488 {s}:CC M 488 (Pn s) [.str s] (λr=>.sb r):=by
 have hM:=HM.h (M:=M);refine⟨λr O=>?_⟩;refine Ij (ja [2,12]) func488 call488 ?_;intro S R hS hR q;unfold Pn at O;cbv;refine Bd [] [0,34] (λs1=>f4 61 [.str s,.sb s1] []) O ?_ ?_
 intro Ik2 k2 hk2 O;cbv;refine pW ?_ ?_
 exact sV
 intro O;cbv;refine pW ?_ ?_
 exact sV
 intro O;cbv;refine abe hS O rfl rfl ?_;intro x4 O;cbv;refine pW ?_ ?_
 exact sV
 intro O;cbv;refine abe hS O rfl rfl ?_;intro x5 O;cbv;refine pW ?_ ?_
 exact sV
 intro O;cbv;refine abe hS O rfl mi ?_;intro x6 O;cbv;refine pW ?_ ?_
 exact sV
 intro O;cbv;refine FX hS O (cI hM) ?_;exact zK
 intro s1 O;cbv;refine vH ?_ ?_
 exact d_R
 intro O;cbv;refine ahx hS hM O ⟨5,by kernel_rfl,by kernel_rfl⟩ rfl ?_;intro x8 O;cbv;refine d_L (ja [2,12]) [] [36,37,38] (λs9=>f4 61 [.sl 1 (M.m Int (eI .u8) x8) false,sI (S.len (M.m Int (eI .u8) x8)),sI s9] []) O ?_;intro Ik10 k10 s9 hk10 O e he;subst he;unfold NG at O;cbv;refine pW ?_ ?_
 intro O;cbv;refine d_I ?_;intro x12 O;cbv;refine Bd [] [36,37,38,59] (λs13=>f4 61 [.sl 1 (M.m Int (eI .u8) x8) false,sI (S.len (M.m Int (eI .u8) x8)),sI s9,.sb s13] []) O ?_ ?_
 intro Ik14 k14 hk14 O;cbv;refine pW ?_ ?_
 intro O;cbv;refine pW ?_ ?_
 exact sV
 intro O;cbv;refine pW ?_ ?_<;>exact sV
 intro O;cbv;refine pW ?_ ?_
 intro O;cbv;refine pW ?_ ?_
 exact sV
 intro O;cbv;refine pW ?_ ?_<;>exact sV
 exact sV
 intro s13 O;cbv;refine vH ?_ ?_
 exact d_R
 exact sV
 exact d_R
instance ain {w}:CZ M 336 (sK w) [.lv 0 0] [(0,(vR (iL M w.s++[iJ M w.forces,.os 1 0 (M.n gX w.iH),.os 2 0 (M.n Bool w.dropped),.os 3 0 (M.n Bool w.done),.os 4 0 (M.n (List Int) w.hits)]))),(1,(aR 17 (iK M w.iH))),(2,(aR 1 (M.m Bool eB w.dropped))),(3,(aR 1 (M.m Bool eB w.done))),(4,(aR 1 (M.m (List Int) (eL M 1 (eI .i64)) w.hits)))] 5 (λ_=>.lv 5 0) (λr=>[(0,(vR (iL M w.s++[iJ M w.forces,.os 1 0 (M.n gX w.iH),.os 2 0 (M.n Bool w.dropped),.os 3 0 (M.n Bool w.done),.os 4 0 (M.n (List Int) w.hits)]))),(1,(aR 17 (iK M w.iH))),(2,(aR 1 (M.m Bool eB w.dropped))),(3,(aR 1 (M.m Bool eB w.done))),(4,(aR 1 (M.m (List Int) (eL M 1 (eI .i64)) w.hits))),(5,(vR (iL M r.s++[iJ M r.forces,.os 6 0 (M.n gX r.iH),.os 7 0 (M.n Bool r.dropped),.os 8 0 (M.n Bool r.done),.os 9 0 (M.n (List Int) r.hits)]))),(6,(aR 17 (iK M r.iH))),(7,(aR 1 (M.m Bool eB r.dropped))),(8,(aR 1 (M.m Bool eB r.done))),(9,(aR 1 (M.m (List Int) (eL M 1 (eI .i64)) r.hits)))]) 10:=by
 exact wC (I7 5 [1002] 0 [] [(409,2),(410,2),(411,2)]) func336 call336 []
instance c399 {c}:CC M 399 (C9 c) [.agg (rV M c)] (λr=>sI r):=by
 have hM:=HM.h (M:=M);refine⟨λr O=>?_⟩;refine Ij (ja [2,10,12,19]) func399 call399 ?_;intro S R hS hR q;unfold C9 at O;cbv;refine Bd [] [1,14] (λs1=>f4 29 [.lv 0 0,.sb s1] [vR (rV M c)]) O ?_ ?_
 intro Ik2 k2 hk2 O;cbv;refine FX hS O (cI hM) ?_;intro y4 O;cbv;refine pW ?_ ?_
 exact sV
 intro O;cbv;replace O:=YI O;exact uB
 intro s1 O;cbv;refine vH ?_ ?_
 exact d_R
 intro O;cbv;refine d_L (ja [2,10,12,19]) [] [3,16,17] (λs6=>f4 29 [sI s6.1,.agg [sI c.color.a0,sI c.color.a1,sI c.color.a2,sI c.color.a3,sI c.color.a4],sI s6.2] []) O ?_;intro Ik7 k7 s6 hk7 O e he;subst he;unfold Fh at O;cbv;refine rF hS ?_;cbv;refine pW ?_ ?_
 intro O;cbv;refine Bd [] [3,16,17] (λs9=>f4 29 [sI s9,.agg [sI c.color.a0,sI c.color.a1,sI c.color.a2,sI c.color.a3,sI c.color.a4],sI s6.2] []) O ?_ ?_
 intro Ik10 k10 hk10 O;cbv;refine Bd [] [3,4,5,16,17] (λs12=>f4 29 [sI s6.1,sI s6.2,sI s12,.agg [sI c.color.a0,sI c.color.a1,sI c.color.a2,sI c.color.a3,sI c.color.a4],sI s6.2] []) O ?_ ?_
 intro Ik13 k13 hk13 O;cbv;obtain⟨j15,hj15,ej15,O⟩:=WQ O;refine adz hS rfl ⟨j15,hj15,ej15,?_⟩;rcases lt5 hj15 with rfl|rfl|rfl|rfl|rfl
 cbv;exact uB
 cbv;exact uB
 cbv;exact uB
 cbv;exact uB
 cbv;exact uB
 intro s12 O;cbv;refine pW ?_ ?_
 intro O;cbv;refine Vx hS O rfl rfl ?_;exact zK
 exact sV
 intro s9 O;cbv;exact uB
 exact d_R
end Go.Proofs.YtchmoabpofnbaaaGreat
