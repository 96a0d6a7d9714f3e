import Derived.Test.YtchmoabpofnbaaaGreatC63
import Derived.Test.YtchmoabpofnbaaaGreatC64
set_option linter.all false
namespace Go.Proofs.YtchmoabpofnbaaaGreat
open Go Go.Pv
set_option maxRecDepth 100000
set_option maxHeartbeats 20000000
variable [GM]
attribute [local irreducible] bnd br jn oL loopF iq jS gu pO rG divO jF iO jA jm jE jY jU
variable {M:fP}[HM M]
instance o211 {cards}{s}{all}{pe}:CZ M 211 (Tt cards s all pe) [kH M cards,.agg (fD M s),iE M all,.agg (jC M pe)] [] 0 (λr=>.agg [.os 0 0 (M.n jB r.fM),.os 1 0 (M.n fC r.objects),.os 2 0 (M.n Int r.iD),.os 3 0 (M.n Int r.qV),.os 4 0 (M.n oK r.stack),.os 5 0 (M.n gm r.waiting),.os 6 0 (M.n qc r.jT),sI r.turn,sI r.jZ,sI r.step,.sb r.begun,sI r.priority,sI r.passes,sI r.nextId,sI r.kF,.si .u64 r.seed,.os 7 0 (M.n Int r.extra),sI r.over,sI r.ql]) (λr=>[(0,(aR 14 (lu M r.fM))),(1,(aR 19 (jW M r.objects))),(2,(aR 1 (mI M r.iD))),(3,(aR 1 (mI M r.qV))),(4,(aR 94 (uy M r.stack))),(5,(aR 89 (iP M r.waiting))),(6,(aR 6 (Ag M r.jT))),(7,(aR 1 (mI M r.extra)))]) 8:=by
 have hM:=HM.h (M:=M);refine⟨λr U=>?_⟩;refine yX (T:=(Fg 0 [53] [[(14,true),(19,true),(1,true),(1,true),(94,true),(89,true),(6,true),(0,false),(0,false),(0,false),(0,false),(0,false),(0,false),(0,false),(0,false),(0,false),(1,true),(0,false),(0,false)]])) (gp 0 [53] [[(14,true),(19,true),(1,true),(1,true),(94,true),(89,true),(6,true),(0,false),(0,false),(0,false),(0,false),(0,false),(0,false),(0,false),(0,false),(0,false),(1,true),(0,false),(0,false)]]) wf Tryz.func211 rfl Tryz.call211 rfl ?_;intro S R hS hR;have q:=sf hM hS;unfold Tt at U;cbv;refine jl hS U (cZ hM) (le_eq rfl) ?_;intro y1 U;cbv;refine qZ hS U (cI hM) ?_;intro y2 U;cbv;refine kQ ?_ ?_
 exact eF
 intro U;cbv;refine kQ ?_ ?_
 exact dZ
 intro U;cbv;refine kQ ?_ ?_
 exact dZ
 intro U;cbv;refine kQ ?_ ?_
 exact dZ
 intro U;cbv;refine kQ ?_ ?_
 exact dZ
 intro U;cbv;refine kQ ?_ ?_
 exact dZ
 intro U;cbv;refine kQ ?_ ?_
 exact dZ
 intro U;cbv;refine kQ ?_ ?_
 exact dZ
 intro U;cbv;refine kQ ?_ ?_
 exact dZ
 intro U;cbv;refine kQ ?_ ?_
 intro U;cbv;refine yE [] [7,8,9] (λs3=>f4 85 [.lv 0 0,.lv 1 0,.lv 2 0] [vR (jC M pe),vR [.sl 0 [] true,.sl 0 [] true,.sl 0 [] true,.sl 0 [] true,.sl 0 [] true,.sl 0 [] true,.sl 0 [] true,sI 0,sI 0,sI 0,.sb false,sI 0,sI 0,sI 0,sI 0,.si .u64 0,.sl 0 [] true,sI 0,sI 0],vR [.os 3 0 (S.fE (lu M y1.fM)),.os 4 0 (S.fE (jW M s3)),.os 5 0 (S.fE (mI M y1.iD)),.os 6 0 (S.fE (mI M y1.qV)),.os 7 0 (S.fE (uy M y1.stack)),.os 8 0 (S.fE (iP M y1.waiting)),.os 9 0 (S.fE (Ag M y1.jT)),sI y1.turn,sI y1.jZ,sI y1.step,.sb y1.begun,sI y1.priority,sI y1.passes,sI y1.nextId,sI y1.kF,.si .u64 y1.seed,.os 10 0 (S.fE (mI M y1.extra)),sI y1.over,sI y1.ql],aR 14 (lu M y1.fM),aR 19 (jW M s3),aR 1 (mI M y1.iD),aR 1 (mI M y1.qV),aR 94 (uy M y1.stack),aR 89 (iP M y1.waiting),aR 6 (Ag M y1.jT),aR 1 (mI M y1.extra)]) U ?_ ?_
 intro Ik4 k4 hk4 U;cbv;refine iR hS U (cZ hM) gX gX rfl rfl rfl rfl ?_;intro y6 U;rcases y6 with _|j7
 cbv;exact sN
 cbv;refine CB hS ?_;cbv;refine GX hS U (cI hM) ?_;intro y8 U;cbv;refine Wl hS U (cZ hM) gX gX rfl rfl ?_;intro y9 he U;have q:=And.intro q (mY ajj he).symm;cbv;exact sN
 intro s3 U;cbv;refine iR hS U (cZ hM) gX gX rfl rfl rfl rfl ?_;intro y10 U;rcases y10 with _|j11
 cbv;refine kQ ?_ ?_
 exact eF
 intro U;cbv;cases U;exact hR _ _ _ gX gX rfl
 cbv;refine kQ ?_ ?_
 intro U;cbv;refine JA hS (e:=eB) U ah ?_;intro x12 U;cbv;refine jc hS hM U rfl rfl ?_;intro x13 U;cbv;cases U;exact hR _ _ _ gX gX rfl
 intro U;cbv;cases U;exact hR _ _ _ gX gX rfl
 intro U;cbv;refine kQ ?_ ?_
 exact dZ
 intro U;cbv;refine kQ ?_ ?_
 exact dZ
 intro U;cbv;refine kQ ?_ ?_
 exact dZ
 intro U;cbv;refine kQ ?_ ?_
 intro U;cbv;refine yE [] [7,8,9] (λs14=>f4 85 [.lv 0 0,.lv 1 0,.lv 2 0] [vR (jC M pe),vR [.sl 0 [] true,.sl 0 [] true,.sl 0 [] true,.sl 0 [] true,.sl 0 [] true,.sl 0 [] true,.sl 0 [] true,sI 0,sI 0,sI 0,.sb false,sI 0,sI 0,sI 0,sI 0,.si .u64 0,.sl 0 [] true,sI 0,sI 0],vR [.os 3 0 (S.fE (lu M y1.fM)),.os 4 0 (S.fE (jW M s14)),.os 5 0 (S.fE (mI M y1.iD)),.os 6 0 (S.fE (mI M y1.qV)),.os 7 0 (S.fE (uy M y1.stack)),.os 8 0 (S.fE (iP M y1.waiting)),.os 9 0 (S.fE (Ag M y1.jT)),sI y1.turn,sI y1.jZ,sI y1.step,.sb y1.begun,sI y1.priority,sI y1.passes,sI y1.nextId,sI y1.kF,.si .u64 y1.seed,.os 10 0 (S.fE (mI M y1.extra)),sI y1.over,sI y1.ql],aR 14 (lu M y1.fM),aR 19 (jW M s14),aR 1 (mI M y1.iD),aR 1 (mI M y1.qV),aR 94 (uy M y1.stack),aR 89 (iP M y1.waiting),aR 6 (Ag M y1.jT),aR 1 (mI M y1.extra)]) U ?_ ?_
 intro Ik15 k15 hk15 U;cbv;refine iR hS U (cZ hM) gX gX rfl rfl rfl rfl ?_;intro y17 U;rcases y17 with _|j18
 cbv;exact sN
 cbv;refine CB hS ?_;cbv;refine GX hS U (cI hM) ?_;intro y19 U;cbv;refine Wl hS U (cZ hM) gX gX rfl rfl ?_;intro y20 he U;have q:=And.intro q (mY ajj he).symm;cbv;exact sN
 intro s14 U;cbv;refine iR hS U (cZ hM) gX gX rfl rfl rfl rfl ?_;intro y21 U;rcases y21 with _|j22
 cbv;refine kQ ?_ ?_
 exact eF
 intro U;cbv;cases U;exact hR _ _ _ gX gX rfl
 cbv;refine kQ ?_ ?_
 intro U;cbv;refine JA hS (e:=eB) U ah ?_;intro x23 U;cbv;refine jc hS hM U rfl rfl ?_;intro x24 U;cbv;cases U;exact hR _ _ _ gX gX rfl
 intro U;cbv;cases U;exact hR _ _ _ gX gX rfl
 intro U;cbv;refine kQ ?_ ?_
 exact dZ
 intro U;cbv;cases U;exact hR _ _ _ gX gX rfl
end Go.Proofs.YtchmoabpofnbaaaGreat
namespace Go.Proofs.YtchmoabpofnbaaaGreat
open Go Go.Pv Proofs.Tryz
set_option maxRecDepth 100000
set_option maxHeartbeats 20000000
variable [GM]
attribute [local irreducible] bnd br jn oL loopF iq jS gu pO rG divO jF iO jA jm jE jY jU
variable {M:fP}[HM M]
instance c273 {w}{i}{stage}:CC M 273 (Af w i stage) [.agg (jr M w),sI i,sI stage] (λr=>.sl 1 (mI M r) false):=by
 have:=lo 4 [1,2,3,7,8,9] (λ_ (s:Int×(List Int))=>up [(7,.os 1 0 (M.n Int s.2)),(9,sI s.1)] [(1,(aR 1 (mI M s.2)))]);have:=ct 11 [1,2,3,7,8,9] (λ_ s=>up [(7,.os 1 0 (M.n Int s))] [(1,(aR 1 (mI M s)))]);have:=ct 21 [1,2,3,7,8,9,10] (λ_ s=>je [(10,sI s)]);exact wA (fO [11,21]) func273 call273
instance c247 {left}{stamps}{needs}:CC M 247 (I7 left stamps needs) [.sl 1 (mI M left) false,.sl 1 (mI M stamps) false,.sl 1 (M.m (List Bool) (eL M 1 eB) needs) false] (λr=>sI r):=by
 have:=lo 3 [1,7,14,15,16] (λ_ (s:Int×Int)=>je [(7,sI s.1),(16,sI s.2)]);have:=ct 21 [1,7,14,15,16] (λ_ s=>je [(7,sI s)]);have:=ct 16 [1,7,9,14,15,16,41] (λ_ s=>je [(41,.sb s)]);exact wA (fO [16,21]) func247 call247
instance c167 {l}:CC M 167 (tH l) [PZ M l] (λr=>.str r):=by
 have:=ct 2 [0,12] (λ_ s=>je [(12,.sb s)]);have:=lo 5 [0,3,4] (λ_ (s:ByteArray×Int)=>je [(3,.str s.1),(4,sI s.2)]);have:=ct 13 [0,3,4] (λ_ s=>je [(3,.str s)]);have:=ct 23 [0,3,4] (λ_ s=>je [(3,.str s)]);exact wA (fO [2,13,23]) func167 call167
instance c443 {kind}{id}{s}{all}{c4}{c5}:CC M 443 (lW kind id s all c4 c5) [sI kind,sI id,.agg (fV M s),iE M all,.pp (nH M c4),.pp (jy M c5)] (λr=>.sl 1 (mI M r) false):=by
 exact wA fG func443 call443
instance c238 {pr}:CC M 238 (Zy pr) [.agg (qy M pr)] (λr=>.sb r):=by
 have:=ct 12 [1,3,4] (λ_ (s:Bool×Bool)=>je [(3,.sb s.1),(4,.sb s.2)]);have:=ct 18 [1,3,51] (λ_ s=>je [(51,.sb s)]);exact wA (fO [12,18]) func238 call238
end Go.Proofs.YtchmoabpofnbaaaGreat
