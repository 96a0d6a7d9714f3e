import Derived.Test.YtchmoabpofnbaaaGreatW11a
set_option linter.all false
namespace Go.Proofs.YtchmoabpofnbaaaGreat
open Go Go.Pv Proofs.Tryz
set_option maxRecDepth 100000
set_option maxHeartbeats 20000000
variable [GM]
attribute [local irreducible] bnd br jn qR ig jK lK jS rQ uY divO lu jR kY lD lU mg l9
variable {M:iO}[HM M]
instance aiX {k}{cards}{s}{pe}:CZ M 116 (tV k cards s pe) [.lv 0 0,mD M cards,.agg (iQ M s),.agg (jm M pe)] [(0,(vR (jw M k)))] 1 (λr=>.agg [Xp M r.gU,pR M r.objects,.sl 1 (mI M r.jk) false,.sl 1 (mI M r.qZ) false,abm M r.stack,.os 1 0 (M.n iP r.waiting),VK M r.mf,sI r.turn,sI r.qy,sI r.step,.sb r.begun,sI r.priority,sI r.passes,sI r.nextId,sI r.lF,.si .u64 r.seed,.sl 1 (mI M r.extra) false,sI r.over,sI r.rX]) (λr=>[(0,(vR (jw M k))),(1,(aR 89 (jW M r.waiting)))]) 2:=by
 have hM:=HM.h (M:=M);refine⟨λr O=>?_⟩;refine xe (T:=(FY 1 [4,17,28] [[(0,false),(0,false),(0,false),(0,false),(0,false),(89,true),(0,false),(0,false),(0,false),(0,false),(0,false),(0,false),(0,false),(0,false),(0,false),(0,false),(0,false),(0,false),(0,false)]])) (iZ 1 [4,17,28] [[(0,false),(0,false),(0,false),(0,false),(0,false),(89,true),(0,false),(0,false),(0,false),(0,false),(0,false),(0,false),(0,false),(0,false),(0,false),(0,false),(0,false),(0,false),(0,false)]]) wf func116 rfl call116 rfl [] ?_;intro S R hS hR;have q:=sf hM hS;unfold tV at O;cbv;refine mJ hS O (cZ hM) (le_eq rfl) ?_;intro y1 O;cbv;refine Ub hS [.cF 13 0,.cF 13 1,.cF 13 2,.cF 13 3,.cF 13 4,.cF 13 6,.cF 13 16] ?_;cbv;refine adB hS rfl ?_;cbv;refine mJ hS O (cZ hM) LU ?_;intro y2 O;cbv;refine Ii hS ?_;cbv;refine Ns hS O (cI hM) LU ?_;intro y3 O;cbv;refine Ns hS O (cI hM) LU ?_;intro y4 O;cbv
 refine d_L (iZ 1 [4,17,28] [[(0,false),(0,false),(0,false),(0,false),(0,false),(89,true),(0,false),(0,false),(0,false),(0,false),(0,false),(0,false),(0,false),(0,false),(0,false),(0,false),(0,false),(0,false),(0,false)]]) [] [0,1,6,7,8,9,10,29,30,31] (λs5=>f4 93 [.lv 0 0,mD M cards,.lv 1 0,.lv 2 0,.lv 3 0,.os 4 0 (S.iD (iK M y1)),.lv 5 0,yF M y4,sI (S.len (jW M y4)),sI s5.1] [vR (jw M k),vR (iQ M s),vR (jm M pe),vR [.sl 0 [] true,.sl 0 [] true,.sl 0 [] true,.sl 0 [] true,.sl 0 [] true,.sl 0 [] true,.sl 0 [] true,sI 0,sI 0,sI 0,.sb false,sI 0,sI 0,sI 0,sI 0,.si .u64 0,.sl 0 [] true,sI 0,sI 0],some (.arr true 17 (iK M y1)),vR [.sl 14 (S.sub (qQ M y2.gU) 0 (M.n jO y2.gU)) false,.sl 19 (S.sub (mO M y2.objects) 0 (M.n iy y2.objects)) false,.sl 1 (S.sub (mI M y2.jk) 0 (M.n Int y2.jk)) false,.sl 1 (S.sub (mI M y2.qZ) 0 (M.n Int y2.qZ)) false,.sl 94 (S.sub (Bq M y2.stack) 0 (M.n oN y2.stack)) false,.os 6 0 (S.iD (jW M s5.2)),.sl 6 (S.sub (GG M y2.mf) 0 (M.n qc y2.mf)) false,sI y2.turn,sI y2.qy,sI y2.step,.sb y2.begun,sI y2.priority,sI y2.passes,sI y2.nextId,sI y2.lF,.si .u64 y2.seed,.sl 1 (S.sub (mI M y2.extra) 0 (M.n Int y2.extra)) false,sI y2.over,sI y2.rX],aR 89 (jW M s5.2)]) O ?_;intro Ik6 k6 s5 hk6 O e he;subst he;unfold tK at O;cbv;refine pW ?_ ?_
 intro O;cbv;refine Bd [] [0,1,6,7,8,9,10,29,30,31] (λs8=>f4 93 [.lv 0 0,mD M cards,.lv 1 0,.lv 2 0,.lv 3 0,.os 4 0 (S.iD (iK M y1)),.lv 5 0,yF M y4,sI (S.len (jW M y4)),sI s5.1] [vR (jw M k),vR (iQ M s),vR (jm M pe),vR [.sl 0 [] true,.sl 0 [] true,.sl 0 [] true,.sl 0 [] true,.sl 0 [] true,.sl 0 [] true,.sl 0 [] true,sI 0,sI 0,sI 0,.sb false,sI 0,sI 0,sI 0,sI 0,.si .u64 0,.sl 0 [] true,sI 0,sI 0],some (.arr true 17 (iK M y1)),vR [.sl 14 (S.sub (qQ M y2.gU) 0 (M.n jO y2.gU)) false,.sl 19 (S.sub (mO M y2.objects) 0 (M.n iy y2.objects)) false,.sl 1 (S.sub (mI M y2.jk) 0 (M.n Int y2.jk)) false,.sl 1 (S.sub (mI M y2.qZ) 0 (M.n Int y2.qZ)) false,.sl 94 (S.sub (Bq M y2.stack) 0 (M.n oN y2.stack)) false,.os 6 0 (S.iD (jW M s8)),.sl 6 (S.sub (GG M y2.mf) 0 (M.n qc y2.mf)) false,sI y2.turn,sI y2.qy,sI y2.step,.sb y2.begun,sI y2.priority,sI y2.passes,sI y2.nextId,sI y2.lF,.si .u64 y2.seed,.sl 1 (S.sub (mI M y2.extra) 0 (M.n Int y2.extra)) false,sI y2.over,sI y2.rX],aR 89 (jW M s8)]) O ?_ ?_
 intro Ik9 k9 hk9 O;cbv;refine d_I ?_;intro x11 O;cbv;refine pW ?_ ?_
 intro O;cbv;refine rU hS O mi ?_;exact sV
 exact sV
 intro s8 O;cbv;exact uB
 intro O;cbv;refine pW ?_ ?_
 exact fQ
 intro O;cbv;refine pW ?_ ?_
 intro O;cbv;cases O
 intro O;cbv;refine D6 hS O (cI hM) (le_eq rfl) (λ_=>rfl) ?_;intro y12 O;cbv;refine Bd [] [0,1,7,8,9,10,13,77] (λs13=>f4 93 [.lv 0 0,mD M cards,.lv 1 0,.lv 2 0,.os 3 0 (S.iD (iK M y1)),.lv 4 0,sI y12,.sb s13] [vR (jw M k),vR (jm M pe),vR [.sl 0 [] true,.sl 0 [] true,.sl 0 [] true,.sl 0 [] true,.sl 0 [] true,.sl 0 [] true,.sl 0 [] true,sI 0,sI 0,sI 0,.sb false,sI 0,sI 0,sI 0,sI 0,.si .u64 0,.sl 0 [] true,sI 0,sI 0],some (.arr true 17 (iK M y1)),vR [.sl 14 (S.sub (qQ M y2.gU) 0 (M.n jO y2.gU)) false,.sl 19 (S.sub (mO M y2.objects) 0 (M.n iy y2.objects)) false,.sl 1 (S.sub (mI M y2.jk) 0 (M.n Int y2.jk)) false,.sl 1 (S.sub (mI M y2.qZ) 0 (M.n Int y2.qZ)) false,.sl 94 (S.sub (Bq M y2.stack) 0 (M.n oN y2.stack)) false,.os 5 0 (S.iD (jW M s5.2)),.sl 6 (S.sub (GG M y2.mf) 0 (M.n qc y2.mf)) false,sI y2.turn,sI y2.qy,sI y2.step,.sb y2.begun,sI y2.priority,sI y2.passes,sI y2.nextId,sI y2.lF,.si .u64 y2.seed,.sl 1 (S.sub (mI M y2.extra) 0 (M.n Int y2.extra)) false,sI y2.over,sI y2.rX],aR 89 (jW M s5.2)]) O ?_ ?_
 intro Ik14 k14 hk14 O;cbv;refine pW ?_ ?_
 intro O;cbv;refine nZ hS O mi rfl ?_;intro j16 _ O;cbv;refine kR hS hM O rfl mi ?_;intro x17 O;cbv;refine FX hS O (cI hM) ?_;exact zK
 exact sV
 intro s13 O;cbv;refine vH ?_ ?_
 intro O;cbv;refine Ii hS ?_;cbv;refine nZ hS O mi rfl ?_;intro j19 _ O;cbv;refine kR hS hM O rfl mi ?_;intro x20 O;cbv;cases O
 intro O;cbv;cases O;exact hR _ _ _ jC jC rfl
instance s114 {k}{cards}{s}{pe}{add}:CZ M 114 (uS k cards s pe add) [.lv 0 0,mD M cards,.agg (iQ M s),.agg (jm M pe),.sb add] [(0,(vR (jw M k)))] 1 (λr=>.EJ [.agg (iQ M r.1),.agg (jm M r.2.1),.sb r.2.2.1]) (λr=>[(0,(vR (jw M r.2.2.2)))]) 1:=by
 have:=lo 2 [0,6,7,8,9,10,11,13] (λ_ (_:Unit)=>kG []);exact wZ (iZ 1 [1006] []) func114 call114
instance c111 {c}:CC M 111 (ND c) [.agg (yY M c)] (λr=>.sb r):=by
 have:=ct 2 [1,36] (λ_ s=>kG [(36,.sb s)]);have:=ct 6 [1,75] (λ_ s=>kG [(75,.sb s)]);have:=lo 7 [1,3,4] (λ_ (s:Int×Int)=>kG [(3,sI s.1),(4,sI s.2)]);have:=ct 17 [1,3,4] (λ_ s=>kG [(3,sI s)]);have:=ct 28 [2] (λ_ s=>kG [(2,.sb s)]);exact wA (ja [2,6,17,28]) func111 call111
instance c164 {s}{x}:CC M 164 (O6 s x) [.agg (iQ M s),.agg (Dw M x)] (λr=>.sb r):=by
 have:=ct 2 [2,3,33] (λ_ s=>kG [(33,.sb s)]);have:=ct 12 [4] (λ_ s=>kG [(4,.sb s)]);exact wA (ja [2,12]) func164 call164
end Go.Proofs.YtchmoabpofnbaaaGreat
