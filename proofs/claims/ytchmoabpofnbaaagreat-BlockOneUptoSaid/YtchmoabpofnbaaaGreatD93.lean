import Derived.Test.YtchmoabpofnbaaaGreatD89
set_option linter.all false
namespace Go.Proofs.YtchmoabpofnbaaaGreat
open Go Go.Pv
set_option maxRecDepth 100000
set_option maxHeartbeats 20000000
variable [GM]
attribute [local irreducible] bnd br jn pI eH iI kD gW qx sG divO jU jc jM jD jR kK kE
variable {M:gm}[HM M]
instance aoq {k}{cards}{s}{pe}:CZ M 116 (Df k cards s pe) [.lv 0 0,lQ M cards,.agg (fM M s),.agg (jT M pe)] [(0,(vR (jY M k)))] 1 (λr=>.agg [PN M r.fV,oZ M r.objects,.sl 1 (mI M r.iF) false,.sl 1 (mI M r.pG) false,Vj M r.stack,.os 1 0 (M.n gU r.waiting),Nv M r.jB,sI r.turn,sI r.kX,sI r.step,.sb r.begun,sI r.priority,sI r.passes,sI r.nextId,sI r.jI,.si .u64 r.seed,.sl 1 (mI M r.extra) false,sI r.over,sI r.oC]) (λr=>[(0,(vR (jY M k))),(1,(aR 89 (iQ M r.waiting)))]) 2:=by
 have hM:=HM.h (M:=M);refine⟨λr U=>?_⟩;refine xY (T:=(Gh 1 [4,17] [[(0,false),(0,false),(0,false),(0,false),(0,false),(89,true),(0,false),(0,false),(0,false),(0,false),(0,false),(0,false),(0,false),(0,false),(0,false),(0,false),(0,false),(0,false),(0,false)]])) (gJ 1 [4,17] [[(0,false),(0,false),(0,false),(0,false),(0,false),(89,true),(0,false),(0,false),(0,false),(0,false),(0,false),(0,false),(0,false),(0,false),(0,false),(0,false),(0,false),(0,false),(0,false)]]) wf Tryz.func116 rfl Tryz.call116 rfl [] ?_;intro S R O hR;have q:=sf hM O;unfold Df at U;cbv;refine jC O U (cZ hM) (le_eq rfl) ?_;intro y1 U;cbv;refine aad O [.cF 13 0,.cF 13 1,.cF 13 2,.cF 13 3,.cF 13 4,.cF 13 6,.cF 13 16] ?_;cbv;refine aeS O rfl ?_;cbv;refine jC O U (cZ hM) NC ?_;intro y2 U;cbv;refine Fa O ?_;cbv;refine QA O U (cI hM) NC ?_;intro y3 U;cbv;refine QA O U (cI hM) NC ?_;intro y4 U;cbv
 refine Ji (gJ 1 [4,17] [[(0,false),(0,false),(0,false),(0,false),(0,false),(89,true),(0,false),(0,false),(0,false),(0,false),(0,false),(0,false),(0,false),(0,false),(0,false),(0,false),(0,false),(0,false),(0,false)]]) [] [0,1,6,7,8,9,10,29,30,31] (λs5=>f4 93 [.lv 0 0,lQ M cards,.lv 1 0,.lv 2 0,.lv 3 0,.os 4 0 (S.fE (fQ M y1)),.lv 5 0,tC M y4,sI (S.len (iQ M y4)),sI s5.1] [vR (jY M k),vR (fM M s),vR (jT M pe),vR [.sl 0 [] true,.sl 0 [] true,.sl 0 [] true,.sl 0 [] true,.sl 0 [] true,.sl 0 [] true,.sl 0 [] true,sI 0,sI 0,sI 0,.sb false,sI 0,sI 0,sI 0,sI 0,.si .u64 0,.sl 0 [] true,sI 0,sI 0],some (.arr true 17 (fQ M y1)),vR [.sl 14 (S.sub (kN M y2.fV) 0 (M.n jl y2.fV)) false,.sl 19 (S.sub (jO M y2.objects) 0 (M.n fD y2.objects)) false,.sl 1 (S.sub (mI M y2.iF) 0 (M.n Int y2.iF)) false,.sl 1 (S.sub (mI M y2.pG) 0 (M.n Int y2.pG)) false,.sl 94 (S.sub (rM M y2.stack) 0 (M.n nJ y2.stack)) false,.os 6 0 (S.fE (iQ M s5.2)),.sl 6 (S.sub (wY M y2.jB) 0 (M.n pF y2.jB)) false,sI y2.turn,sI y2.kX,sI y2.step,.sb y2.begun,sI y2.priority,sI y2.passes,sI y2.nextId,sI y2.jI,.si .u64 y2.seed,.sl 1 (S.sub (mI M y2.extra) 0 (M.n Int y2.extra)) false,sI y2.over,sI y2.oC],aR 89 (iQ M s5.2)]) U ?_;intro Ik6 k6 s5 hk6 U e he;subst he;unfold E5 at U;cbv;refine mP ?_ ?_
 intro U;cbv;refine DJ [] [0,1,6,7,8,9,10,29,30,31] (λs8=>f4 93 [.lv 0 0,lQ M cards,.lv 1 0,.lv 2 0,.lv 3 0,.os 4 0 (S.fE (fQ M y1)),.lv 5 0,tC M y4,sI (S.len (iQ M y4)),sI s5.1] [vR (jY M k),vR (fM M s),vR (jT M pe),vR [.sl 0 [] true,.sl 0 [] true,.sl 0 [] true,.sl 0 [] true,.sl 0 [] true,.sl 0 [] true,.sl 0 [] true,sI 0,sI 0,sI 0,.sb false,sI 0,sI 0,sI 0,sI 0,.si .u64 0,.sl 0 [] true,sI 0,sI 0],some (.arr true 17 (fQ M y1)),vR [.sl 14 (S.sub (kN M y2.fV) 0 (M.n jl y2.fV)) false,.sl 19 (S.sub (jO M y2.objects) 0 (M.n fD y2.objects)) false,.sl 1 (S.sub (mI M y2.iF) 0 (M.n Int y2.iF)) false,.sl 1 (S.sub (mI M y2.pG) 0 (M.n Int y2.pG)) false,.sl 94 (S.sub (rM M y2.stack) 0 (M.n nJ y2.stack)) false,.os 6 0 (S.fE (iQ M s8)),.sl 6 (S.sub (wY M y2.jB) 0 (M.n pF y2.jB)) false,sI y2.turn,sI y2.kX,sI y2.step,.sb y2.begun,sI y2.priority,sI y2.passes,sI y2.nextId,sI y2.jI,.si .u64 y2.seed,.sl 1 (S.sub (mI M y2.extra) 0 (M.n Int y2.extra)) false,sI y2.over,sI y2.oC],aR 89 (iQ M s8)]) U ?_ ?_
 intro Ik9 k9 hk9 U;cbv;refine Kr ?_;intro x11 U;cbv;refine mP ?_ ?_
 intro U;cbv;refine nM O U jW ?_;exact tY
 exact tY
 intro s8 U;cbv;exact uj
 intro U;cbv;refine mP ?_ ?_
 exact dR
 intro U;cbv;cases U
end Go.Proofs.YtchmoabpofnbaaaGreat
namespace Go.Proofs.YtchmoabpofnbaaaGreat
open Go Go.Pv Proofs.Tryz
set_option maxRecDepth 100000
set_option maxHeartbeats 20000000
variable [GM]
attribute [local irreducible] bnd br jn pI eH iI kD gW qx sG divO jU jc jM jD jR kK kE
variable {M:gm}[HM M]
instance c34 {cards}{s}:CC M 34 (BZ cards s) [lQ M cards,.agg (fM M s)] (λr=>kH M r):=by
 have hM:=HM.h (M:=M);refine⟨λr U=>?_⟩;refine EN (fZ [6]) func34 call34 ?_;intro S R O hR q;unfold BZ at U;cbv;refine wo O U (cI hM) ?_;intro y1 U;cbv;refine KJ O (fZ [6]) wf 10 ?_;intro g2 hg2;refine hg2 _ _ ?_;cbv;refine nz O ?_;cbv;refine wo O U (cI hM) ?_;intro y3 U;cbv;refine hg2 _ _ ?_;cbv;refine nz O ?_;cbv;refine wo O U (cI hM) ?_;intro y4 U;cbv;refine hg2 _ _ ?_;cbv;refine nz O ?_;cbv;refine wo O U (cI hM) ?_;intro y5 U;cbv;refine hg2 _ _ ?_;cbv;refine nz O ?_;cbv;refine wo O U (cI hM) ?_;intro y6 U;cbv;refine hg2 _ _ ?_;cbv;refine nz O ?_;cbv;refine wo O U (cI hM) ?_;intro y7 U;cbv;refine hg2 _ _ ?_;cbv;refine nz O ?_;cbv;refine wo O U (cI hM) ?_;intro y8 U;cbv;refine hg2 _ _ ?_;cbv;refine nz O ?_;cbv;refine wo O U (cI hM) ?_;intro y9 U;cbv;refine hg2 _ _ ?_;cbv;refine nz O ?_;cbv;refine wo O U (cI hM) ?_;intro y10 U;cbv;refine hg2 _ _ ?_;cbv;refine nz O ?_;cbv;exact ahA
instance aor {k}{cards}{s}{pe}{add}:CZ M 114 (uX k cards s pe add) [.lv 0 0,lQ M cards,.agg (fM M s),.agg (jT M pe),.sb add] [(0,(vR ([.os 1 0 (M.n (List Int) k.answers),sI k.used]++(jQ M k.pending++[.sb k.waits,.sb k.bad])))),(1,(aR 1 (M.m (List Int) (eL M 1 (eI .i64)) k.answers)))] 2 (λr=>.Ed [.agg (fM M r.1),.agg (jT M r.2.1),.sb r.2.2]) (λ_=>[(0,(vR ([.os 1 0 (M.n (List Int) k.answers),sI k.used]++(jQ M k.pending++[.sb k.waits,.sb k.bad])))),(1,(aR 1 (M.m (List Int) (eL M 1 (eI .i64)) k.answers)))]) 2:=by
 have:=lo 2 [0,6,7,8,9,10,11,13] (λ_ (_:Unit)=>jf []);exact wC (gJ 2 [1006] []) func114 call114 []
instance s114 {k}{cards}{s}{pe}{add}:CZ M 114 (KY k cards s pe add) [.lv 0 0,lQ M cards,.agg (fM M s),.agg (jT M pe),.sb add] [(0,(vR (jY M k)))] 1 (λr=>.Ed [.agg (fM M r.1),.agg (jT M r.2.1),.sb r.2.2.1]) (λr=>[(0,(vR (jY M r.2.2.2)))]) 1:=by
 have:=lo 2 [0,6,7,8,9,10,11,13] (λ_ (_:Unit)=>jf []);exact wZ (gJ 1 [1006] []) func114 call114
end Go.Proofs.YtchmoabpofnbaaaGreat
