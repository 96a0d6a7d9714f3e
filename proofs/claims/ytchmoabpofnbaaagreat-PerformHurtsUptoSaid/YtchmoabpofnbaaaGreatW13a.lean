import Derived.Test.YtchmoabpofnbaaaGreatW12a
set_option linter.all false
namespace Go.Proofs.YtchmoabpofnbaaaGreat
open Go Go.Pv Proofs.Tryz
set_option maxRecDepth 100000
set_option maxHeartbeats 20000000
variable [GM]
attribute [local irreducible] bnd br jn qR ig jK lK jS rQ uY divO lu jR kY lD lU mg l9
variable {M:iO}[HM M]
instance z49_2 {k}{cards}{s}{pe}{add}:CZ M 49 (AU k cards s pe add) [.lv 0 0,mD M cards,.agg (iQ M s),.agg (jm M pe),.sb add] [(0,(vR (jw M k)))] 1 (λr=>.agg (iQ M r.1)) (λr=>[(0,(vR (jw M r.2)))]) 1:=by
 have hM:=HM.h (M:=M);refine⟨λr O=>?_⟩;refine xe (T:=(FY 1 [4,10,15] [[(0,false),(0,false),(0,false),(0,false),(0,false),(0,true),(0,false),(0,false),(0,false),(0,false),(0,false),(0,false),(0,false),(0,false),(0,false),(0,false),(0,false),(0,false),(0,false)]])) (iZ 1 [4,10,15] [[(0,false),(0,false),(0,false),(0,false),(0,false),(0,true),(0,false),(0,false),(0,false),(0,false),(0,false),(0,false),(0,false),(0,false),(0,false),(0,false),(0,false),(0,false),(0,false)]]) wf func49 rfl call49 rfl [] ?_;intro S R hS hR;have q:=sf hM hS;unfold AU at O;cbv;refine jT hS O (cZ hM) jC jC rfl rfl rfl rfl ?_;intro y1 O;cbv;refine Bd [] [0,1,7,8,10,31] (λs2=>f4 61 [.lv 0 0,mD M cards,.lv 1 0,.lv 2 0,.lv 3 0,.sb s2] [vR (jw M y1.2.2.2),vR (iQ M y1.1),vR (jm M y1.2.1),vR [.sl 0 [] true,.sl 0 [] true,.sl 0 [] true,.sl 0 [] true,.sl 0 [] true,.sl 0 [] true,.sl 0 [] true,sI 0,sI 0,sI 0,.sb false,sI 0,sI 0,sI 0,sI 0,.si .u64 0,.sl 0 [] true,sI 0,sI 0]]) O ?_ ?_
 intro Ik3 k3 hk3 O;cbv;refine pW ?_ ?_
 exact sV
 intro O;cbv;refine FX hS O (cI hM) ?_;exact zK
 intro s2 O;cbv;refine vH ?_ ?_
 exact fQ
 intro O;cbv;refine Bd [] [0,1,7,8,10,12] (λs6=>f4 61 [.lv 0 0,mD M cards,.lv 1 0,.lv 2 0,.lv 3 0,sI s6.1] [vR (jw M y1.2.2.2),vR (iQ M y1.1),vR [sI y1.2.1.kind,sI y1.2.1.source,sI y1.2.1.object,sI y1.2.1.kE,sI s6.2,sI y1.2.1.Jt,sI y1.2.1.to,sI y1.2.1.cause,sI y1.2.1.counter,sI y1.2.1.card,.sb y1.2.1.JY,.sb y1.2.1.qg,sI y1.2.1.extra.a0,sI y1.2.1.extra.a1,sI y1.2.1.extra.a2],vR [.sl 0 [] true,.sl 0 [] true,.sl 0 [] true,.sl 0 [] true,.sl 0 [] true,.sl 0 [] true,.sl 0 [] true,sI 0,sI 0,sI 0,.sb false,sI 0,sI 0,sI 0,sI 0,.si .u64 0,.sl 0 [] true,sI 0,sI 0]]) O ?_ ?_
 intro Ik7 k7 hk7 O;cbv;refine Bd [] [0,1,7,8,10,12,40] (λs9=>f4 61 [.lv 0 0,mD M cards,.lv 1 0,.lv 2 0,.lv 3 0,sI 0,.sb s9] [vR (jw M y1.2.2.2),vR (iQ M y1.1),vR (jm M y1.2.1),vR [.sl 0 [] true,.sl 0 [] true,.sl 0 [] true,.sl 0 [] true,.sl 0 [] true,.sl 0 [] true,.sl 0 [] true,sI 0,sI 0,sI 0,.sb false,sI 0,sI 0,sI 0,sI 0,.si .u64 0,.sl 0 [] true,sI 0,sI 0]]) O ?_ ?_
 intro Ik10 k10 hk10 O;cbv;refine pW ?_ ?_<;>exact sV
 intro s9 O;cbv;refine vH ?_ ?_
 intro O;cbv;replace O:=YI O;obtain⟨v12,gv12,ev12⟩:∃ z:Int,(S.bin .sub .i64 (S.acy y1.2.1.amount 2048) 1)=z/\(pF (if 2048<y1.2.1.amount then 2048 else y1.2.1.amount) 1)=z:=⟨_,rfl,mi⟩
 (try rw[gv12]);(try (conv at gv12=>(lhs;cbv)));(try rw[gv12]);(try rw[ev12] at O);clear gv12 ev12
 exact uB
 exact sV
 intro s6 O;cbv;refine jT hS O (cZ hM) jC jC rfl rfl rfl rfl ?_;intro y13 O;cbv;refine d_L (iZ 1 [4,10,15] [[(0,false),(0,false),(0,false),(0,false),(0,false),(0,true),(0,false),(0,false),(0,false),(0,false),(0,false),(0,false),(0,false),(0,false),(0,false),(0,false),(0,false),(0,false),(0,false)]]) [] [0,1,7,8,10,51,52] (λs14=>f4 61 [.lv 0 0,mD M cards,.lv 1 0,.lv 3 0,.lv 4 0,sI s6.1,sI 0] [vR (jw M y1.2.2.2),vR [Xp M y13.gU,pR M y13.objects,.sl 1 (mI M y13.jk) false,.sl 1 (mI M y13.qZ) false,abm M y13.stack,.os 2 0 (S.iD (jW M y13.waiting)),VK M y13.mf,sI y13.turn,sI y13.qy,sI y13.step,.sb y13.begun,sI y13.priority,sI y13.passes,sI y13.nextId,sI y13.lF,.si .u64 y13.seed,.sl 1 (mI M y13.extra) false,sI y13.over,sI y13.rX],aR 89 (jW M y13.waiting),vR [sI y1.2.1.kind,sI y1.2.1.source,sI y1.2.1.object,sI y1.2.1.kE,sI s6.2,sI y1.2.1.Jt,sI y1.2.1.to,sI y1.2.1.cause,sI y1.2.1.counter,sI y1.2.1.card,.sb y1.2.1.JY,.sb y1.2.1.qg,sI y1.2.1.extra.a0,sI y1.2.1.extra.a1,sI y1.2.1.extra.a2],vR [.sl 0 [] true,.sl 0 [] true,.sl 0 [] true,.sl 0 [] true,.sl 0 [] true,.sl 0 [] true,.sl 0 [] true,sI 0,sI 0,sI 0,.sb false,sI 0,sI 0,sI 0,sI 0,.si .u64 0,.sl 0 [] true,sI 0,sI 0]]) O ?_;intro Ik15 k15 s14 hk15 O e he;subst he;unfold AQ at O;cbv;refine pW ?_ ?_
 intro O;cbv;cases O
 intro O;cbv;cases O;exact hR _ _ _ jC jC rfl
instance c90 {s}:CC M 90 (LC s) [.agg (iQ M s)] (λr=>.sb r):=by
 have:=ct 2 [1,24] (λ_ s=>kG [(24,.sb s)]);have:=lo 4 [1,3] (λ_ s=>kG [(3,sI s)]);have:=lo 9 [1,3,4] (λ_ s=>kG [(4,sI s)]);have:=lo 14 [1,5] (λ_ s=>kG [(5,sI s)]);have:=ct 34 [1,5,86] (λ_ s=>kG [(86,.sb s)]);have:=lo 20 [1,7] (λ_ s=>kG [(7,sI s)]);have:=ct 46 [1,7,128] (λ_ s=>kG [(128,.sb s)]);exact wA (ja [2,34,46]) func90 call90
instance c43 {l}:CC M 43 (LG l) [mD M l] (λr=>.EJ [sI r.1,sI r.2]):=by
 have:=lo 4 [0,4] (λ_ s=>kG [(4,sI s)]);exact wA iE func43 call43
end Go.Proofs.YtchmoabpofnbaaaGreat
