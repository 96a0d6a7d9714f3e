import Derived.Test.YtchmoabpofnbaaaGreatW2a
import Derived.Test.YtchmoabpofnbaaaGreatW2b
import Derived.Test.YtchmoabpofnbaaaGreatW2f
import Derived.Test.YtchmoabpofnbaaaGreatW2j
import Derived.Test.YtchmoabpofnbaaaGreatW2n
set_option linter.all false
namespace Go.Proofs.YtchmoabpofnbaaaGreat
open Go Go.Pv Proofs.Tryz
set_option maxRecDepth 100000
set_option maxHeartbeats 20000000
variable [GM]
attribute [local irreducible] bnd br jn qR ig jK lK jS rQ uY divO lu jR kY lD lU mg l9
variable {M:iO}[HM M]
instance c325 {c}:CC M 325 (Ap c) [.agg (yY M c)] (λr=>.agg (lq M r)):=by
 have hM:=HM.h (M:=M);refine⟨λr O=>?_⟩;refine Ij iE func325 call325 ?_;intro S R hS hR q;unfold Ap at O;cbv;refine Ii hS ?_;cbv;refine d_c hS O (cI hM) ?_;intro y1 O;cbv;refine FX hS O (cI hM) ?_;intro y2 O;cbv;refine WS hS iE wf [.cO 2 15 72] [.cO 1 15 72] [2,3,32,33,34] (λs3=>f3 47 [(2,.lv 0 0),(3,.lv 1 0),(32,KD M c.gQ),(33,sI (S.len (uV M c.gQ))),(34,sI s3.1)] [vR [.str (bs []),sI 0,sI 0,sI 0,sI 0,sI 0,sI 0,sI 0,sI 0,sI 0,sI 0,.sl 0 [] true,sI 0,sI 0,sI 0,.sl 0 [] true,sI 0],vR ([.str c.name]++(rV M c.cost++[sI (S.bin .or .i64 y1 c.color),sI c.line.Gj,sI c.line.types,.sl 1 (M.m ByteArray eS y2) false,sI c.power,sI c.ji,sI c.keys,.os 2 0 (S.iD (uV M s3.2)),sI 0])),aR 72 (uV M s3.2)]) O bC ?_;intro Ik4 k4 s3 hk4 O e he;subst he;unfold yK at O;cbv;refine pW ?_ ?_
 intro O;cbv;refine d_I ?_;intro x6 O;cbv;refine Ii hS ?_;cbv;refine d_c hS O (cI hM) ?_;intro y7 O;cbv;refine rU hS O mi ?_;exact sV
 exact d_R
instance c121 {c}:CC M 121 (Dj c) [.agg (yY M c)] (λr=>.agg (lq M r)):=by
 have hM:=HM.h (M:=M);refine⟨λr O=>?_⟩;refine Ij iE func121 call121 ?_;intro S R hS hR q;unfold Dj at O;cbv;refine Ii hS ?_;cbv;refine d_c hS O (cI hM) ?_;intro y1 O;cbv;refine rU hS O mi ?_;intro O;cbv;refine Z9 hS iE wf [.cO 2 15 72] [1,2,3,4] (λs2=>f3 50 [(1,.lv 0 0),(2,.lv 1 0),(3,.lv 2 0),(4,sI s2.1)] [vR (yY M c),vR [.str (bs []),sI 0,sI 0,sI 0,sI 0,sI 0,sI 0,sI 0,sI 0,sI 0,sI 0,.sl 0 [] true,sI 0,sI 0,sI 0,.sl 0 [] true,sI 0],vR ([.str c.name]++(rV M c.cost++[sI (S.bin .or .i64 y1 c.color),sI c.line.Gj,sI c.line.types,.os 3 0 (S.iD (S.app (S.sub ([]) 0 0) (M.m ByteArray eS c.line.subs))),sI c.power,sI c.ji,sI c.keys,.os 4 0 (S.iD (uV M s2.2)),sI 0])),aR 1 (S.app (S.sub ([]) 0 0) (M.m ByteArray eS c.line.subs)),aR 72 (uV M s2.2)]) O ?_;intro Ik3 k3 s2 hk3 O e he;subst he;unfold AY at O;cbv;refine pW ?_ ?_
 intro O;cbv;refine Ii hS ?_;cbv;refine d_I ?_;intro x5 O;cbv;refine d_c hS O (cI hM) ?_;intro y6 O;cbv;refine rU hS O mi ?_;exact sV
 exact d_R
instance aiz {pl}{pj}{s}{pe}:CZ M 294 (wG pl pj s pe) [.lp 0 pj 0,.lv 1 0,.agg (jm M pe)] [(0,(aR 14 (qQ M pl))),(1,(vR [.os 0 0 (M.n jO pl),.os 2 0 (M.n iy s.objects),.os 3 0 (M.n Int s.jk),.os 4 0 (M.n Int s.qZ),.os 5 0 (M.n oN s.stack),.os 6 0 (M.n iP s.waiting),.os 7 0 (M.n qc s.mf),sI s.turn,sI s.qy,sI s.step,.sb s.begun,sI s.priority,sI s.passes,sI s.nextId,sI s.lF,.si .u64 s.seed,.os 8 0 (M.n Int s.extra),sI s.over,sI s.rX])),(2,(aR 19 (mO M s.objects))),(3,(aR 1 (mI M s.jk))),(4,(aR 1 (mI M s.qZ))),(5,(aR 94 (Bq M s.stack))),(6,(aR 89 (jW M s.waiting))),(7,(aR 6 (GG M s.mf))),(8,(aR 1 (mI M s.extra)))] 9 (λ_=>.EJ []) (λr=>[(0,(aR 14 (qQ M r.gU))),(1,(vR [.os 0 0 (M.n jO r.gU),.os 2 0 (M.n iy r.objects),.os 3 0 (M.n Int r.jk),.os 4 0 (M.n Int r.qZ),.os 5 0 (M.n oN r.stack),.os 6 0 (M.n iP r.waiting),.os 7 0 (M.n qc r.mf),sI r.turn,sI r.qy,sI r.step,.sb r.begun,sI r.priority,sI r.passes,sI r.nextId,sI r.lF,.si .u64 r.seed,.os 8 0 (M.n Int r.extra),sI r.over,sI r.rX])),(2,(aR 19 (mO M r.objects))),(3,(aR 1 (mI M r.jk))),(4,(aR 1 (mI M r.qZ))),(5,(aR 94 (Bq M r.stack))),(6,(aR 89 (jW M r.waiting))),(7,(aR 6 (GG M r.mf))),(8,(aR 1 (mI M r.extra)))]) 9:=by
 exact wC (iZ 9 [] []) func294 call294 []
instance z94_1 {k}{c}:CZ M 94 (Az k c) [.lv 0 0,.agg (Aa M c)] [(0,(vR (jw M k)))] 1 (λr=>.os 1 0 (M.n Int r.1)) (λr=>[(0,(vR (jw M r.2))),(1,(aR 1 (mI M r.1)))]) 2:=by
 have hM:=HM.h (M:=M);refine⟨λr O=>?_⟩;refine xe (T:=(FY 1 [2] [[(1,true)]])) (iZ 1 [2] [[(1,true)]]) wf func94 rfl call94 rfl [.cF 0 8] ?_;intro S R hS hR;have q:=sf hM hS;unfold Az at O;cbv;refine Bd [] [0,3,23] (λs1=>f4 77 [.lv 0 0,.lv 1 0,.sb s1] [vR (jw M k),vR (Aa M c)]) O ?_ ?_
 intro Ik2 k2 hk2 O;cbv;refine vH ?_ ?_
 exact sV
 intro O;cbv;refine vH ?_ ?_
 exact sV
 intro O;cbv;refine FX hS O (cI hM) ?_;exact zK
 intro s1 O;cbv;refine vH ?_ ?_
 intro O;cbv;refine mJ hS O (cZ hM) (le_eq rfl) ?_;intro y5 O;cbv;cases O;exact hR _ _ _ jC jC rfl
 intro O;cbv;refine Ii hS ?_;cbv;refine pW ?_ ?_
 intro O;cbv;refine mJ hS O (cZ hM) (le_eq rfl) ?_;intro y6 O;cbv;refine adB hS rfl ?_;cbv;refine mJ hS O (cZ hM) LU ?_;intro y7 O;cbv;cases O;exact hR _ _ _ jC jC rfl
 intro O;cbv;refine Ii hS ?_;cbv;refine d_I ?_;intro x8 O;cbv;cases O
instance c450 {c}:CC M 450 (O3 c) [.agg (rV M c)] (λr=>.str r):=by
 have:=lo 5 [1,3,4] (λ_ (s:ByteArray×Int)=>kG [(3,.str s.1),(4,sI s.2)]);have:=ct 21 [1,3] (λ_ s=>kG [(3,.str s)]);have:=lo 11 [1,3,5] (λ_ (s:ByteArray×Int)=>kG [(3,.str s.1),(5,sI s.2)]);have:=lo 14 [1,3,5,6] (λ_ (s:ByteArray×Int)=>kG [(3,.str s.1),(6,sI s.2)]);have:=ct 28 [1,3,5,6,35] (λ_ s=>kG [(35,.sb s)]);exact wA (ja [21,22,28]) func450 call450
instance c403 {left}:CC M 403 (yL left) [.sl 1 (mI M left) false] (λr=>.sl 1 (mI M r) false):=by
 have:=lo 3 [3,6,7,8] (λ_ (s:Int×(List Int))=>up [(3,.os 0 0 (M.n Int s.2)),(8,sI s.1)] [(0,(aR 1 (mI M s.2)))]) [.tO 3 1];have:=ct 15 [3,6,7,8] (λ_ s=>up [(3,.os 0 0 (M.n Int s))] [(0,(aR 1 (mI M s)))]) [.tO 3 1];have:=ct 10 [3,5,6,7,8,19] (λ_ s=>kG [(19,.sb s)]);exact wA (ja [10,15]) func403 call403
end Go.Proofs.YtchmoabpofnbaaaGreat
