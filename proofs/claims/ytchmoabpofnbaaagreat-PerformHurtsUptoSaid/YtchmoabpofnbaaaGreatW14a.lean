import Derived.Test.YtchmoabpofnbaaaGreatW13a
set_option linter.all false
namespace Go.Proofs.YtchmoabpofnbaaaGreat
open Go Go.Pv Proofs.Tryz
set_option maxRecDepth 100000
set_option maxHeartbeats 20000000
variable [GM]
attribute [local irreducible] bnd br jn qR ig jK lK jS rQ uY divO lu jR kY lD lU mg l9
variable {M:iO}[HM M]
instance c29 {cards}{s}:CC M 29 (yg cards s) [mD M cards,.agg (iQ M s)] (λr=>.sb r):=by
 have:=ct 2 [0,3,33] (λ_ s=>kG [(33,.sb s)]);have:=ct 6 [0,3,71] (λ_ s=>kG [(71,.sb s)]);have:=lo 6 [0,3,5] (λ_ s=>kG [(5,sI s)]);have:=ct 20 [0,3,106] (λ_ s=>kG [(106,.sb s)]);exact wA (ja [2,6,20]) func29 call29
instance z16_0 {k}{cards}{s}{pe}:CZ M 16 (xC k cards s pe) [.lv 0 0,mD M cards,.agg (iQ M s),.agg (jm M pe)] [(0,(vR (jw M k)))] 1 (λr=>.agg (iQ M r.1)) (λr=>[(0,(vR (jw M r.2)))]) 1:=by
 exact wC (iZ 1 [] []) func16 call16 []
instance aiY {k}{cards}{s}{pe}:CZ M 116 (tY k cards s pe) [.lv 0 0,mD M cards,.agg (iQ M s),.agg (jm M pe)] [(0,(vR (jw M k)))] 1 (λr=>.agg (iQ M r.1)) (λr=>[(0,(vR (jw M r.2)))]) 1:=by
 have hM:=HM.h (M:=M);refine⟨λr O=>?_⟩;refine xe (T:=(FY 1 [4,17,27,28] [[(0,false),(0,false),(0,false),(0,false),(0,false),(0,true),(0,false),(0,false),(0,false),(0,false),(0,false),(0,false),(0,false),(0,false),(0,false),(0,false),(0,false),(0,false),(0,false)]])) (iZ 1 [4,17,27,28] [[(0,false),(0,false),(0,false),(0,false),(0,false),(0,true),(0,false),(0,false),(0,false),(0,false),(0,false),(0,false),(0,false),(0,false),(0,false),(0,false),(0,false),(0,false),(0,false)]]) wf func116 rfl call116 rfl [] ?_;intro S R hS hR;have q:=sf hM hS;unfold tY at O;cbv;refine mJ hS O (cZ hM) (le_eq rfl) ?_;intro y1 O;cbv;refine Ub hS [.cF 13 0,.cF 13 1,.cF 13 2,.cF 13 3,.cF 13 4,.cF 13 6,.cF 13 16] ?_;cbv;refine adB hS rfl ?_;cbv;refine mJ hS O (cZ hM) LU ?_;intro y2 O;cbv;refine Ii hS ?_;cbv;refine Ns hS O (cI hM) LU ?_;intro y3 O;cbv;refine Ns hS O (cI hM) LU ?_;intro y4 O;cbv
 refine d_L (iZ 1 [4,17,27,28] [[(0,false),(0,false),(0,false),(0,false),(0,false),(0,true),(0,false),(0,false),(0,false),(0,false),(0,false),(0,false),(0,false),(0,false),(0,false),(0,false),(0,false),(0,false),(0,false)]]) [] [0,1,6,7,8,9,10,29,30,31] (λs5=>f4 93 [.lv 0 0,mD M cards,.lv 1 0,.lv 2 0,.lv 3 0,.os 4 0 (S.iD (iK M y1)),.lv 5 0,yF M y4,sI (S.len (jW M y4)),sI s5.1] [vR (jw M k),vR (iQ M s),vR (jm M pe),vR [.sl 0 [] true,.sl 0 [] true,.sl 0 [] true,.sl 0 [] true,.sl 0 [] true,.sl 0 [] true,.sl 0 [] true,sI 0,sI 0,sI 0,.sb false,sI 0,sI 0,sI 0,sI 0,.si .u64 0,.sl 0 [] true,sI 0,sI 0],some (.arr true 17 (iK M y1)),vR [.sl 14 (S.sub (qQ M y2.gU) 0 (M.n jO y2.gU)) false,.sl 19 (S.sub (mO M y2.objects) 0 (M.n iy y2.objects)) false,.sl 1 (S.sub (mI M y2.jk) 0 (M.n Int y2.jk)) false,.sl 1 (S.sub (mI M y2.qZ) 0 (M.n Int y2.qZ)) false,.sl 94 (S.sub (Bq M y2.stack) 0 (M.n oN y2.stack)) false,.os 6 0 (S.iD (jW M s5.2)),.sl 6 (S.sub (GG M y2.mf) 0 (M.n qc y2.mf)) false,sI y2.turn,sI y2.qy,sI y2.step,.sb y2.begun,sI y2.priority,sI y2.passes,sI y2.nextId,sI y2.lF,.si .u64 y2.seed,.sl 1 (S.sub (mI M y2.extra) 0 (M.n Int y2.extra)) false,sI y2.over,sI y2.rX],aR 89 (jW M s5.2)]) O ?_;intro Ik6 k6 s5 hk6 O e he;subst he;unfold tX at O;cbv;refine pW ?_ ?_
 intro O;cbv;refine Bd [] [0,1,6,7,8,9,10,29,30,31] (λs8=>f4 93 [.lv 0 0,mD M cards,.lv 1 0,.lv 2 0,.lv 3 0,.os 4 0 (S.iD (iK M y1)),.lv 5 0,yF M y4,sI (S.len (jW M y4)),sI s5.1] [vR (jw M k),vR (iQ M s),vR (jm M pe),vR [.sl 0 [] true,.sl 0 [] true,.sl 0 [] true,.sl 0 [] true,.sl 0 [] true,.sl 0 [] true,.sl 0 [] true,sI 0,sI 0,sI 0,.sb false,sI 0,sI 0,sI 0,sI 0,.si .u64 0,.sl 0 [] true,sI 0,sI 0],some (.arr true 17 (iK M y1)),vR [.sl 14 (S.sub (qQ M y2.gU) 0 (M.n jO y2.gU)) false,.sl 19 (S.sub (mO M y2.objects) 0 (M.n iy y2.objects)) false,.sl 1 (S.sub (mI M y2.jk) 0 (M.n Int y2.jk)) false,.sl 1 (S.sub (mI M y2.qZ) 0 (M.n Int y2.qZ)) false,.sl 94 (S.sub (Bq M y2.stack) 0 (M.n oN y2.stack)) false,.os 6 0 (S.iD (jW M s8)),.sl 6 (S.sub (GG M y2.mf) 0 (M.n qc y2.mf)) false,sI y2.turn,sI y2.qy,sI y2.step,.sb y2.begun,sI y2.priority,sI y2.passes,sI y2.nextId,sI y2.lF,.si .u64 y2.seed,.sl 1 (S.sub (mI M y2.extra) 0 (M.n Int y2.extra)) false,sI y2.over,sI y2.rX],aR 89 (jW M s8)]) O ?_ ?_
 intro Ik9 k9 hk9 O;cbv;refine d_I ?_;intro x11 O;cbv;refine pW ?_ ?_
 intro O;cbv;refine rU hS O mi ?_;exact sV
 exact sV
 intro s8 O;cbv;exact uB
 intro O;cbv;refine pW ?_ ?_
 exact fQ
 intro O;cbv;refine Bd [.cF 5 5] [0,1,6,7,8,9,10] (λs12=>f4 93 [.lv 0 0,mD M cards,.lv 1 0,.lv 2 0,.lv 3 0,.os 4 0 (S.iD (iK M y1)),.lv 5 0] [vR (jw M s12.1),vR (iQ M s),vR (jm M pe),vR [.sl 0 [] true,.sl 0 [] true,.sl 0 [] true,.sl 0 [] true,.sl 0 [] true,.sl 0 [] true,.sl 0 [] true,sI 0,sI 0,sI 0,.sb false,sI 0,sI 0,sI 0,sI 0,.si .u64 0,.sl 0 [] true,sI 0,sI 0],some (.arr true 17 (iK M y1)),vR (iQ M s12.2)]) O ?_ ?_
 intro Ik13 k13 hk13 O;cbv;refine pW ?_ ?_
 intro O;cbv;refine adA hS [(0,false),(0,false),(0,true),(0,false)] rfl ?_;cbv;refine jT hS O (cZ hM) jC jC rfl rfl rfl rfl ?_;exact zK
 exact sV
 intro s12 O;cbv;refine D6 hS O (cI hM) (le_eq rfl) (λ_=>rfl) ?_;intro y16 O;cbv;refine Bd [] [0,1,7,8,9,10,13,77] (λs17=>f4 93 [.lv 0 0,mD M cards,.lv 1 0,.lv 2 0,.os 3 0 (S.iD (iK M y1)),.lv 4 0,sI y16,.sb s17] [vR (jw M s12.1),vR (jm M pe),vR [.sl 0 [] true,.sl 0 [] true,.sl 0 [] true,.sl 0 [] true,.sl 0 [] true,.sl 0 [] true,.sl 0 [] true,sI 0,sI 0,sI 0,.sb false,sI 0,sI 0,sI 0,sI 0,.si .u64 0,.sl 0 [] true,sI 0,sI 0],some (.arr true 17 (iK M y1)),vR (iQ M s12.2)]) O ?_ ?_
 intro Ik18 k18 hk18 O;cbv;refine pW ?_ ?_
 intro O;cbv;refine nZ hS O mi rfl ?_;intro j20 _ O;cbv;refine kR hS hM O rfl mi ?_;intro x21 O;cbv;refine FX hS O (cI hM) ?_;exact zK
 exact sV
 intro s17 O;cbv;refine vH ?_ ?_
 intro O;cbv;refine Ii hS ?_;cbv;refine nZ hS O mi rfl ?_;intro j23 _ O;cbv;refine kR hS hM O rfl mi ?_;intro x24 O;cbv;refine La hS O (cZ hM) jC jC rfl rfl ?_;intro y25 O;cbv;cases O;exact hR _ _ _ jC jC rfl
 intro O;cbv;cases O;exact hR _ _ _ jC jC rfl
instance c12 {cards}{s}:CC M 12 (Kv cards s) [mD M cards,.agg (iQ M s)] (λr=>.sb r):=by
 exact wA iE func12 call12
end Go.Proofs.YtchmoabpofnbaaaGreat
