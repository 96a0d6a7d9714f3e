import Derived.Test.YtchmoabpofnbaaaGreatC88
set_option linter.all false
namespace Go.Proofs.YtchmoabpofnbaaaGreat
open Go Go.Pv
set_option maxRecDepth 100000
set_option maxHeartbeats 20000000
variable [GM]
attribute [local irreducible] bnd br jn oL loopF iq jS gu pO rG divO jF iO jA jm jE jY jU
variable {M:fP}[HM M]
instance am6 {k}{cards}{s}{pe}:CZ M 116 (uf k cards s pe) [.lv 0 0,kH M cards,.agg (fD M s),.agg (jC M pe)] [(0,(vR (jL M k)))] 1 (λr=>.agg [OJ M r.fM,nS M r.objects,.sl 1 (mI M r.iD) false,.sl 1 (mI M r.qV) false,UG M r.stack,.os 1 0 (M.n gm r.waiting),MI M r.jT,sI r.turn,sI r.jZ,sI r.step,.sb r.begun,sI r.priority,sI r.passes,sI r.nextId,sI r.kF,.si .u64 r.seed,.sl 1 (mI M r.extra) false,sI r.over,sI r.ql]) (λr=>[(0,(vR (jL M k))),(1,(aR 89 (iP M r.waiting)))]) 2:=by
 have hM:=HM.h (M:=M);refine⟨λr U=>?_⟩;refine xw (T:=(Fg 1 [4,17] [[(0,false),(0,false),(0,false),(0,false),(0,false),(89,true),(0,false),(0,false),(0,false),(0,false),(0,false),(0,false),(0,false),(0,false),(0,false),(0,false),(0,false),(0,false),(0,false)]])) (gp 1 [4,17] [[(0,false),(0,false),(0,false),(0,false),(0,false),(89,true),(0,false),(0,false),(0,false),(0,false),(0,false),(0,false),(0,false),(0,false),(0,false),(0,false),(0,false),(0,false),(0,false)]]) wf Tryz.func116 rfl Tryz.call116 rfl [] ?_;intro S R hS hR;have q:=sf hM hS;unfold uf at U;cbv;refine jl hS U (cZ hM) (le_eq rfl) ?_;intro y1 U;cbv;refine Zg hS [.cF 13 0,.cF 13 1,.cF 13 2,.cF 13 3,.cF 13 4,.cF 13 6,.cF 13 16] ?_;cbv;refine aa8 hS rfl ?_;cbv;refine jl hS U (cZ hM) JB ?_;intro y2 U;cbv;refine CB hS ?_;cbv;refine PR hS U (cI hM) JB ?_;intro y3 U;cbv;refine PR hS U (cI hM) JB ?_;intro y4 U;cbv
 refine Gg (gp 1 [4,17] [[(0,false),(0,false),(0,false),(0,false),(0,false),(89,true),(0,false),(0,false),(0,false),(0,false),(0,false),(0,false),(0,false),(0,false),(0,false),(0,false),(0,false),(0,false),(0,false)]]) [] [0,1,6,7,8,9,10,29,30,31] (λs5=>f4 93 [.lv 0 0,kH M cards,.lv 1 0,.lv 2 0,.lv 3 0,.os 4 0 (S.fE (fJ M y1)),.lv 5 0,sF M y4,sI (S.len (iP M y4)),sI s5.1] [vR (jL M k),vR (fD M s),vR (jC M pe),vR [.sl 0 [] true,.sl 0 [] true,.sl 0 [] true,.sl 0 [] true,.sl 0 [] true,.sl 0 [] true,.sl 0 [] true,sI 0,sI 0,sI 0,.sb false,sI 0,sI 0,sI 0,sI 0,.si .u64 0,.sl 0 [] true,sI 0,sI 0],some (.arr true 17 (fJ M y1)),vR [.sl 14 (S.sub (lu M y2.fM) 0 (M.n jB y2.fM)) false,.sl 19 (S.sub (jW M y2.objects) 0 (M.n fC y2.objects)) false,.sl 1 (S.sub (mI M y2.iD) 0 (M.n Int y2.iD)) false,.sl 1 (S.sub (mI M y2.qV) 0 (M.n Int y2.qV)) false,.sl 94 (S.sub (uy M y2.stack) 0 (M.n oK y2.stack)) false,.os 6 0 (S.fE (iP M s5.2)),.sl 6 (S.sub (Ag M y2.jT) 0 (M.n qc y2.jT)) false,sI y2.turn,sI y2.jZ,sI y2.step,.sb y2.begun,sI y2.priority,sI y2.passes,sI y2.nextId,sI y2.kF,.si .u64 y2.seed,.sl 1 (S.sub (mI M y2.extra) 0 (M.n Int y2.extra)) false,sI y2.over,sI y2.ql],aR 89 (iP M s5.2)]) U ?_;intro Ik6 k6 s5 hk6 U e he;subst he;unfold tZ at U;cbv;refine kQ ?_ ?_
 intro U;cbv;refine yE [] [0,1,6,7,8,9,10,29,30,31] (λs8=>f4 93 [.lv 0 0,kH M cards,.lv 1 0,.lv 2 0,.lv 3 0,.os 4 0 (S.fE (fJ M y1)),.lv 5 0,sF M y4,sI (S.len (iP M y4)),sI s5.1] [vR (jL M k),vR (fD M s),vR (jC M pe),vR [.sl 0 [] true,.sl 0 [] true,.sl 0 [] true,.sl 0 [] true,.sl 0 [] true,.sl 0 [] true,.sl 0 [] true,sI 0,sI 0,sI 0,.sb false,sI 0,sI 0,sI 0,sI 0,.si .u64 0,.sl 0 [] true,sI 0,sI 0],some (.arr true 17 (fJ M y1)),vR [.sl 14 (S.sub (lu M y2.fM) 0 (M.n jB y2.fM)) false,.sl 19 (S.sub (jW M y2.objects) 0 (M.n fC y2.objects)) false,.sl 1 (S.sub (mI M y2.iD) 0 (M.n Int y2.iD)) false,.sl 1 (S.sub (mI M y2.qV) 0 (M.n Int y2.qV)) false,.sl 94 (S.sub (uy M y2.stack) 0 (M.n oK y2.stack)) false,.os 6 0 (S.fE (iP M s8)),.sl 6 (S.sub (Ag M y2.jT) 0 (M.n qc y2.jT)) false,sI y2.turn,sI y2.jZ,sI y2.step,.sb y2.begun,sI y2.priority,sI y2.passes,sI y2.nextId,sI y2.kF,.si .u64 y2.seed,.sl 1 (S.sub (mI M y2.extra) 0 (M.n Int y2.extra)) false,sI y2.over,sI y2.ql],aR 89 (iP M s8)]) U ?_ ?_
 intro Ik9 k9 hk9 U;cbv;refine zT ?_;intro x11 U;cbv;refine kQ ?_ ?_
 intro U;cbv;refine nG hS U jJ ?_;exact pW
 exact pW
 intro s8 U;cbv;exact sN
 intro U;cbv;refine kQ ?_ ?_
 exact eF
 intro U;cbv;cases U
end Go.Proofs.YtchmoabpofnbaaaGreat
namespace Go.Proofs.YtchmoabpofnbaaaGreat
open Go Go.Pv Proofs.Tryz
set_option maxRecDepth 100000
set_option maxHeartbeats 20000000
variable [GM]
attribute [local irreducible] bnd br jn oL loopF iq jS gu pO rG divO jF iO jA jm jE jY jU
variable {M:fP}[HM M]
instance c34 {cards}{s}:CC M 34 (FZ cards s) [kH M cards,.agg (fD M s)] (λr=>iE M r):=by
 have hM:=HM.h (M:=M);refine⟨λr U=>?_⟩;refine CO (fO [6]) func34 call34 ?_;intro S R hS hR q;unfold FZ at U;cbv;refine qZ hS U (cI hM) ?_;intro y1 U;cbv;refine J6 hS (fO [6]) wf 10 ?_;intro g2 hg2;refine hg2 _ _ ?_;cbv;refine mO hS ?_;cbv;refine qZ hS U (cI hM) ?_;intro y3 U;cbv;refine hg2 _ _ ?_;cbv;refine mO hS ?_;cbv;refine qZ hS U (cI hM) ?_;intro y4 U;cbv;refine hg2 _ _ ?_;cbv;refine mO hS ?_;cbv;refine qZ hS U (cI hM) ?_;intro y5 U;cbv;refine hg2 _ _ ?_;cbv;refine mO hS ?_;cbv;refine qZ hS U (cI hM) ?_;intro y6 U;cbv;refine hg2 _ _ ?_;cbv;refine mO hS ?_;cbv;refine qZ hS U (cI hM) ?_;intro y7 U;cbv;refine hg2 _ _ ?_;cbv;refine mO hS ?_;cbv;refine qZ hS U (cI hM) ?_;intro y8 U;cbv;refine hg2 _ _ ?_;cbv;refine mO hS ?_;cbv;refine qZ hS U (cI hM) ?_;intro y9 U;cbv;refine hg2 _ _ ?_;cbv;refine mO hS ?_;cbv;refine qZ hS U (cI hM) ?_;intro y10 U;cbv;refine hg2 _ _ ?_;cbv;refine mO hS ?_;cbv;exact aj1
instance am7 {k}{cards}{s}{pe}{add}:CZ M 114 (EU k cards s pe add) [.lv 0 0,kH M cards,.agg (fD M s),.agg (jC M pe),.sb add] [(0,(vR ([.os 1 0 (M.n (List Int) k.answers),sI k.used]++(jD M k.pending++[.sb k.waits,.sb k.bad])))),(1,(aR 1 (M.m (List Int) (eL M 1 (eI .i64)) k.answers)))] 2 (λr=>.Eu [.agg (fD M r.1),.agg (jC M r.2.1),.sb r.2.2]) (λ_=>[(0,(vR ([.os 1 0 (M.n (List Int) k.answers),sI k.used]++(jD M k.pending++[.sb k.waits,.sb k.bad])))),(1,(aR 1 (M.m (List Int) (eL M 1 (eI .i64)) k.answers)))]) 2:=by
 have:=lo 2 [0,6,7,8,9,10,11,13] (λ_ (_:Unit)=>je []);exact wC (gp 2 [1006] []) func114 call114 []
instance s114 {k}{cards}{s}{pe}{add}:CZ M 114 (yw k cards s pe add) [.lv 0 0,kH M cards,.agg (fD M s),.agg (jC M pe),.sb add] [(0,(vR (jL M k)))] 1 (λr=>.Eu [.agg (fD M r.1),.agg (jC M r.2.1),.sb r.2.2.1]) (λr=>[(0,(vR (jL M r.2.2.2)))]) 1:=by
 have:=lo 2 [0,6,7,8,9,10,11,13] (λ_ (_:Unit)=>je []);exact wZ (gp 1 [1006] []) func114 call114
end Go.Proofs.YtchmoabpofnbaaaGreat
