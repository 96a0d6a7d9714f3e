import Derived.Test.YtchmoabpofnbaaaGreatW1a
import Derived.Test.YtchmoabpofnbaaaGreatW1e
import Derived.Test.YtchmoabpofnbaaaGreatW1i
import Derived.Test.YtchmoabpofnbaaaGreatB12
set_option linter.all false
namespace Go.Proofs.YtchmoabpofnbaaaGreat
open Go Go.Pv Proofs.Tryz
set_option maxRecDepth 100000
set_option maxHeartbeats 20000000
variable [GM]
attribute [local irreducible] bnd br jn qR ig jK lK jS rQ uY divO lu jR kY lD lU mg l9
variable {M:iO}[HM M]
instance c415 {t}:CC M 415 (Fp t) [.agg (lq M t)] (λr=>.agg (lq M r)):=by
 have hM:=HM.h (M:=M);refine⟨λr O=>?_⟩;refine Ij (I7 0 [12,27] 0 [] [(220,2)]) func415 call415 ?_;intro S R hS hR q;unfold Fp at O;cbv;refine mJ hS O (cZ hM) (le_eq rfl) ?_;intro y1 O;cbv;refine mJ hS O (cZ hM) (le_eq rfl) ?_;intro y2 O;cbv;refine d_L (I7 0 [12,27] 0 [] [(220,2)]) [] [1,2,18,19] (λs3=>f4 77 [.lv 0 0,.lv 3 0,sI (S.Be (M.n iG y2)),sI s3.1] [vR ([.str t.name]++(rV M t.cost++[sI t.kz,sI t.line.Gj,sI t.line.types,.os 1 0 (S.iD (M.m ByteArray eS y1)),sI t.power,sI t.ji,sI t.keys,.os 2 0 (S.iD (uV M s3.2)),sI t.control])),aR 1 (M.m ByteArray eS y1),aR 72 (uV M s3.2),vR [.str (bs []),sI 0,sI 0,sI 0,sI 0,sI 0,sI 0,sI 0,sI 0,sI 0,sI 0,.sl 0 [] true,sI 0,sI 0,sI 0,.sl 0 [] true,sI 0]]) O ?_;intro Ik4 k4 s3 hk4 O e he;subst he;unfold CE at O;cbv;refine pW ?_ ?_
 intro O;cbv;refine adE hS [.cl 2] ?_;cbv;refine adE hS [.op 4] ?_;cbv;refine nZ hS O mi rfl ?_;intro j6 _ O;cbv;refine kR hS hM O rfl mi ?_;intro x7 O;cbv;refine Ii hS ?_;cbv;refine yX hS rfl ?_;cbv;refine d_c hS O (cI hM) ?_;intro y8 O;cbv;refine yX hS rfl ?_;cbv;refine d_c hS O (cI hM) ?_;intro y9 O;cbv;refine yX hS rfl ?_;cbv;refine La hS O (cZ hM) ak ak rfl rfl ?_;intro y10 O;cbv;refine yX hS rfl ?_;cbv;refine yX hS rfl ?_;cbv;refine yX hS rfl ?_;cbv;refine yX hS rfl ?_;cbv;refine d_L (I7 0 [12,27] 0 [] [(220,2)]) [] [1,2,4,18,19,54,55] (λs11=>f4 77 [.lv 0 0,.lv 4 0,.lp 2 (S.LQ 0 j6) 0,sI (S.Be (M.n iG y2)),sI s3.1,sI (S.Be (M.n jh y10)),sI s11.1] [vR ([.str t.name]++(rV M t.cost++[sI t.kz,sI t.line.Gj,sI t.line.types,.os 1 0 (S.iD (M.m ByteArray eS y1)),sI t.power,sI t.ji,sI t.keys,.os 2 0 (S.iD (uV M s3.2)),sI t.control])),aR 1 (M.m ByteArray eS y1),some (.nor 72 (uV M s3.2) (S.LQ 0 j6) ((([sI x7.kind]++(jU M x7.filter++([RF M y8]++(zZ M x7.price++[.sb x7.slow]))))++(pX M x7.iM++[.sb x7.may,YR M y9,.os 3 0 (S.iD (AZ M s11.2))]))++(oU M x7.replace))),aR 64 (AZ M s11.2),vR [.str (bs []),sI 0,sI 0,sI 0,sI 0,sI 0,sI 0,sI 0,sI 0,sI 0,sI 0,.sl 0 [] true,sI 0,sI 0,sI 0,.sl 0 [] true,sI 0]]) O ?_;intro Ik12 k12 s11 hk12 O e he;subst he;unfold CB at O;cbv;refine pW ?_ ?_
 intro O;cbv;refine Ii hS ?_;cbv;refine yX hS rfl ?_;cbv;refine yX hS rfl ?_;cbv;refine nZ hS O mi rfl ?_;intro j14 _ O;cbv;refine kR hS hM O rfl mi ?_;intro x15 O;cbv;refine d_c hS O (cI hM) ?_;intro y16 O;cbv;refine nZ hS O mi rfl ?_;intro j17 _ O;cbv;refine kR hS hM O rfl mi ?_;exact zK
 exact sV
 exact d_R
theorem adT {M:iO}(hM:M=lC){yield:List gI}{c1:gW}{c2:List gX}{c3:Bool}{r:List gI}(O:pg yield c1 c2 c3=some r):Pv.FnY Tryz.prog glF 366 [.pp (iL M c1),.pp [ny M c2],.pp [.sb c3]] [(0,(vR [.os 1 0 (M.n gI yield)])),(1,(aR 76 (gY M yield)))] 2 (YcW M) (λuu ss nn=>uu=.EJ []/\ss=[(0,(vR [.os 2 0 (M.n gI r)])),(1,none),(2,(aR 76 (gY M r)))]/\nn=3):=by
 haveI:HM M:=⟨hM⟩
 refine adJ (T:=(FY 2 [16,21,23] [])) (iZ 2 [16,21,23] []) wf (Nat.succ_pos _) func366 rfl call366 rfl [.cR 0 0] ?_;intro l rc pv hyc S R hS hR;have q:=sf hM hS;unfold pg at O;cbv;refine d_L (jv.y (iZ 2 [16,21,23] [])) [.cR 0 0] [0,2,3,11,12,13] (λC=>f4 56 [.yl l,.pp [ny M c2],.pp [.sb c3],pR M c1.objects,sI (S.len (mO M c1.objects)),sI C.1] [vR [.os 2 0 (S.iD (gY M C.2))],none,aR 76 (gY M C.2)]) O ?_;intro Ik2 k2 C hk2 O e he;subst he;unfold qP at O;cbv;refine pW ?_ ?_
 intro O;cbv;refine Bd [.cR 0 0] [0,2,3,11,12,13] (λg=>f4 56 [.yl l,.pp [ny M c2],.pp [.sb c3],pR M c1.objects,sI (S.len (mO M c1.objects)),sI C.1] [vR [.os 2 0 (S.iD (gY M g))],none,aR 76 (gY M g)]) O ?_ ?_
 intro Ik5 k5 hk5 O;cbv;refine d_I ?_;intro x7 O;cbv;refine pW ?_ ?_
 exact sV
 intro O;cbv;refine FX hS O (cI hM) ?_;intro J O;cbv;refine d_L (jv.y (iZ 2 [16,21,23] [])) [.cR 0 0] [0,2,3,6,7,11,12,13,25,26,27] (λU=>f4 56 [.yl l,.pp [ny M c2],.pp [.sb c3],.lv 3 0,.lv 4 0,pR M c1.objects,sI (S.len (mO M c1.objects)),sI C.1,KD M J.gQ,sI (S.len (uV M J.gQ)),sI U.2.1] [vR [.os 2 0 (S.iD (gY M U.2.2))],none,aR 76 (gY M U.2.2),vR (jY M U.1),vR (lq M J)]) O ?_;intro Ik10 k10 U hk10 O e he;subst he;unfold uU at O;cbv;refine pW ?_ ?_
 intro O;cbv;refine Bd [.cR 0 0] [0,2,3,6,7,11,12,13,25,26,27] (λI=>f4 56 [.yl l,.pp [ny M c2],.pp [.sb c3],.lv 3 0,.lv 4 0,pR M c1.objects,sI (S.len (mO M c1.objects)),sI C.1,KD M J.gQ,sI (S.len (uV M J.gQ)),sI U.2.1] [vR [.os 2 0 (S.iD (gY M I.2))],none,aR 76 (gY M I.2),vR (jY M I.1),vR (lq M J)]) O ?_ ?_
 intro Ik13 k13 hk13 O;cbv;refine d_I ?_;intro x15 O;cbv;refine Bd [] [0,2,3,6,7,8,9,11,12,13,25,26,27,42] (λs16=>f4 56 [.yl l,.pp [ny M c2],.pp [.sb c3],.lv 3 0,.lv 4 0,sI U.2.1,.lv 5 0,pR M c1.objects,sI (S.len (mO M c1.objects)),sI C.1,KD M J.gQ,sI (S.len (uV M J.gQ)),sI U.2.1,.sb s16] [vR [.os 2 0 (S.iD (gY M U.2.2))],none,aR 76 (gY M U.2.2),vR (jY M U.1),vR (lq M J),vR (jQ M x15)]) O ?_ ?_
 intro Ik17 k17 hk17 O;cbv;refine Ii hS ?_;cbv;refine pW ?_ ?_
 exact sV
 intro O;cbv;refine d_c hS O (cI hM) ?_;exact zK
 intro s16 O;cbv;refine vH ?_ ?_
 exact sV
 intro O;cbv;refine ahL hS O rfl (λ_=>hyc _ _ _) jC jC rfl rfl rfl rfl rfl rfl rfl ?_;intro y20 O;cbv;refine pW ?_ ?_
 exact fQ
 exact sV
 intro I O;cbv;exact uB
 exact sV
 intro g O;cbv;exact uB
 intro O;cbv;cases O;exact hR _ _ _ jC jC rfl
instance c370 {a}:CC M 370 (qO a) [.agg (jQ M a)] (λr=>.agg (jQ M r)):=by
 have hM:=HM.h (M:=M);refine⟨λr O=>?_⟩;refine Ij iE func370 call370 ?_;intro S R hS hR q;unfold qO at O;cbv;refine mJ hS O (cZ hM) (le_eq rfl) ?_;intro y1 O;cbv;refine mJ hS O (cZ hM) (le_eq rfl) ?_;intro y2 O;cbv;refine mJ hS O (cZ hM) (le_eq rfl) ?_;intro y3 O;cbv;refine Z9 hS iE wf [] [1,2,18,19] (λs4=>f3 36 [(1,.lv 0 0),(2,.lv 4 0),(18,sI (S.Be (M.n jh y3))),(19,sI s4.1)] [vR ((([sI a.kind]++(jU M a.filter++([.os 1 0 (S.iD (UN M y1))]++(zZ M a.price++[.sb a.slow]))))++(pX M a.iM++[.sb a.may,.os 2 0 (S.iD (mSpec M y2)),.os 3 0 (S.iD (AZ M s4.2))]))++(oU M a.replace)),aR 20 (UN M y1),aR 18 (mSpec M y2),aR 64 (AZ M s4.2),vR [sI 0,sI 0,sI 0,sI 0,sI 0,sI 0,sI 0,sI 0,.str (bs []),sI 0,sI 0,sI 0,sI 0,sI 0,sI 0,sI 0,sI 0,.sl 0 [] true,sI 0,sI 0,sI 0,sI 0,sI 0,sI 0,sI 0,.sb false,.sb false,sI 0,.sb false,sI 0,sI 0,sI 0,sI 0,sI 0,sI 0,sI 0,sI 0,sI 0,.str (bs []),sI 0,sI 0,sI 0,sI 0,sI 0,sI 0,sI 0,sI 0,.sb false,.sl 0 [] true,.sl 0 [] true,sI 0,sI 0,sI 0,sI 0,sI 0,sI 0,sI 0,sI 0,sI 0,.str (bs []),sI 0,sI 0,sI 0,sI 0,sI 0,sI 0,sI 0,sI 0,sI 0,sI 0,sI 0,sI 0]]) O ?_;intro Ik5 k5 s4 hk5 O e he;subst he;unfold tJ at O;cbv;refine pW ?_ ?_
 intro O;cbv;refine Ii hS ?_;cbv;refine nZ hS O mi rfl ?_;intro j7 _ O;cbv;refine kR hS hM O rfl mi ?_;intro x8 O;cbv;refine d_c hS O (cI hM) ?_;intro y9 O;cbv;refine nZ hS O mi rfl ?_;intro j10 _ O;cbv;refine kR hS hM O rfl mi ?_;exact zK
 exact d_R
instance c132 {a}:CC M 132 (rJ a) [.agg (jQ M a)] (λr=>.agg (jQ M r)):=by
 have hM:=HM.h (M:=M);refine⟨λr O=>?_⟩;refine Ij iE func132 call132 ?_;intro S R hS hR q;unfold rJ at O;cbv;refine mJ hS O (cZ hM) (le_eq rfl) ?_;intro y1 O;cbv;refine mJ hS O (cZ hM) (le_eq rfl) ?_;intro y2 O;cbv;refine mJ hS O (cZ hM) (le_eq rfl) ?_;intro y3 O;cbv;refine Z9 hS iE wf [] [1,2,18,19] (λs4=>f3 36 [(1,.lv 0 0),(2,.lv 4 0),(18,sI (S.Be (M.n jh y3))),(19,sI s4.1)] [vR ((([sI a.kind]++(jU M a.filter++([.os 1 0 (S.iD (UN M y1))]++(zZ M a.price++[.sb a.slow]))))++(pX M a.iM++[.sb a.may,.os 2 0 (S.iD (mSpec M y2)),.os 3 0 (S.iD (AZ M s4.2))]))++(oU M a.replace)),aR 20 (UN M y1),aR 18 (mSpec M y2),aR 64 (AZ M s4.2),vR [sI 0,sI 0,sI 0,sI 0,sI 0,sI 0,sI 0,sI 0,.str (bs []),sI 0,sI 0,sI 0,sI 0,sI 0,sI 0,sI 0,sI 0,.sl 0 [] true,sI 0,sI 0,sI 0,sI 0,sI 0,sI 0,sI 0,.sb false,.sb false,sI 0,.sb false,sI 0,sI 0,sI 0,sI 0,sI 0,sI 0,sI 0,sI 0,sI 0,.str (bs []),sI 0,sI 0,sI 0,sI 0,sI 0,sI 0,sI 0,sI 0,.sb false,.sl 0 [] true,.sl 0 [] true,sI 0,sI 0,sI 0,sI 0,sI 0,sI 0,sI 0,sI 0,sI 0,.str (bs []),sI 0,sI 0,sI 0,sI 0,sI 0,sI 0,sI 0,sI 0,sI 0,sI 0,sI 0,sI 0]]) O ?_;intro Ik5 k5 s4 hk5 O e he;subst he;unfold uk at O;cbv;refine pW ?_ ?_
 intro O;cbv;refine Ii hS ?_;cbv;refine nZ hS O mi rfl ?_;intro j7 _ O;cbv;refine kR hS hM O rfl mi ?_;intro x8 O;cbv;refine d_c hS O (cI hM) ?_;intro y9 O;cbv;refine nZ hS O mi rfl ?_;intro j10 _ O;cbv;refine kR hS hM O rfl mi ?_;exact zK
 exact d_R
end Go.Proofs.YtchmoabpofnbaaaGreat
