import Derived.Test.YtchmoabpofnbaaaGreatD59
import Derived.Test.YtchmoabpofnbaaaGreatD60
set_option linter.all false
namespace Go.Proofs.YtchmoabpofnbaaaGreat
open Go Go.Pv
set_option maxRecDepth 100000
set_option maxHeartbeats 20000000
variable [GM]
attribute [local irreducible] bnd br jn pI eH iI kD gW qx sG divO jU jc jM jD jR kK kE
variable {M:gm}[HM M]
instance z94_3 {k}{c}:CZ M 94 (rC k c) [.lv 0 0,.agg (jQ M c)] [(0,(vR ([.os 1 0 (M.n (List Int) k.answers),sI k.used]++(jQ M k.pending++[.sb k.waits,.sb k.bad])))),(1,(aR 1 (M.m (List Int) (eL M 1 (eI .i64)) k.answers)))] 2 (λr=>.os 2 0 (M.n Int r.1)) (λr=>[(0,(vR ([.os 1 0 (M.n (List Int) r.2.answers),sI r.2.used]++(jQ M r.2.pending++[.sb r.2.waits,.sb r.2.bad])))),(1,(aR 1 (M.m (List Int) (eL M 1 (eI .i64)) r.2.answers))),(2,(aR 1 (mI M r.1)))]) 3:=by
 have hM:=HM.h (M:=M);refine⟨λr U=>?_⟩;refine xY (T:=(Gh 2 [2] [[(1,true)]])) (gJ 2 [2] [[(1,true)]]) wf Tryz.func94 rfl Tryz.call94 rfl [.cF 0 8] ?_;intro S R O hR;have q:=sf hM O;unfold rC at U;cbv;refine DJ [] [0,3,23] (λs1=>f4 77 [.lv 0 0,.lv 2 0,.sb s1] [vR ([.os 1 0 (S.fE (M.m (List Int) (eL M 1 (eI .i64)) k.answers)),sI k.used]++(jQ M k.pending++[.sb k.waits,.sb k.bad])),aR 1 (M.m (List Int) (eL M 1 (eI .i64)) k.answers),vR (jQ M c)]) U ?_ ?_
 intro Ik2 k2 hk2 U;cbv;refine xH ?_ ?_
 exact tY
 intro U;cbv;refine xH ?_ ?_
 exact tY
 intro U;cbv;refine wo O U (cI hM) ?_;exact yX
 intro s1 U;cbv;refine xH ?_ ?_
 intro U;cbv;refine jC O U (cZ hM) (le_eq rfl) ?_;intro y5 U;cbv;cases U;exact hR _ _ _ iU iU rfl
 intro U;cbv;refine Fa O ?_;cbv;refine mP ?_ ?_
 intro U;cbv;refine jC O U (cZ hM) (le_eq rfl) ?_;intro y6 U;cbv;refine aeS O rfl ?_;cbv;refine jC O U (cZ hM) NC ?_;intro y7 U;cbv;cases U;exact hR _ _ _ iU iU rfl
 intro U;cbv;refine Fa O ?_;cbv;refine lh O U jW rfl ?_;intro j8 _ U;cbv;refine jv O hM U rfl jW ?_;intro x9 U;cbv;refine wo O U (cI hM) ?_;intro y10 U;cbv;refine mP ?_ ?_
 intro U;cbv;refine jC O U (cZ hM) (le_eq rfl) ?_;intro y11 U;cbv;cases U;exact hR _ _ _ iU iU rfl
 intro U;cbv;refine jC O U (cZ hM) (le_eq rfl) ?_;intro y12 U;cbv;cases U;exact hR _ _ _ iU iU rfl
instance c98 {cards}{s}:CC M 98 (Bg cards s) [lQ M cards,.agg (fM M s)] (λr=>.agg (jG M r)):=by
 have hM:=HM.h (M:=M);refine⟨λr U=>?_⟩;refine EN fG Tryz.func98 Tryz.call98 ?_;intro S R O hR q;unfold Bg at U;cbv;refine Fa O ?_;cbv;refine Kq O U (cI hM) ?_;intro y1 U;cbv;refine Vw O fG wf [.cO 2 19 17] [0,3,4,5,6] (λs2=>f3 47 [(0,lQ M cards),(3,.lv 0 0),(4,.lv 1 0),(5,.lv 2 0),(6,sI s2.1)] [vR (fM M s),vR [.sl 0 [] true,.sl 0 [] true,.sl 0 [] true,.sl 0 [] true,.sl 0 [] true,.sl 0 [] true,.sl 0 [] true,sI 0,sI 0,sI 0,.sb false,sI 0,sI 0,sI 0,sI 0,.si .u64 0,.sl 0 [] true,sI 0,sI 0,.sl 0 [] true,.sl 0 [] true,.sl 0 [] true,.sl 0 [] true,.sl 0 [] true],vR (fM M s++[.os 3 0 (S.fE (fQ M s2.2)),vW M y1,.sl 0 [] true,.sl 0 [] true,.sl 0 [] true]),aR 17 (fQ M s2.2)]) U ?_;intro Ik3 k3 s2 hk3 U e he;subst he;unfold wL at U;cbv;refine mP ?_ ?_
 intro U;cbv;refine Fa O ?_;cbv;refine Kr ?_;intro x5 U;cbv;refine Kq O U (cI hM) ?_;intro y6 U;cbv;refine nM O U jW ?_;exact tY
 intro U;cbv;refine Nr O U jW jW ?_;intro j7 U;cbv;refine LV O (e:=eB) U ah ?_;intro x8 U;cbv;refine Nr O U jW jW ?_;intro j9 U;cbv;refine LV O (e:=(eL M 1 (eI .i64))) U (by(try simp only[eL,q]);repeat' constructor) ?_;intro x10 U;cbv;refine Nr O U jW jW ?_;intro j11 U;cbv;refine LV O (e:=eB) U ah ?_;intro x12 U;cbv;cases U;exact hR _ (d_l aZ)
end Go.Proofs.YtchmoabpofnbaaaGreat
namespace Go.Proofs.YtchmoabpofnbaaaGreat
open Go Go.Pv Proofs.Tryz
set_option maxRecDepth 100000
set_option maxHeartbeats 20000000
variable [GM]
attribute [local irreducible] bnd br jn pI eH iI kD gW qx sG divO jU jc jM jD jR kK kE
variable {M:gm}[HM M]
instance c51 {a}{b}:CC M 51 (O8 a b) [.agg (fM M a),.agg (fM M b)] (λr=>.sb r):=by
 have:=ct 2 [2,3,52] (λ_ s=>jf [(52,.sb s)]);have:=lo 4 [2,3,5] (λ_ s=>jf [(5,sI s)]);have:=lo 9 [2,3,6] (λ_ s=>jf [(6,sI s)]);have:=lo 14 [2,3,7] (λ_ s=>jf [(7,sI s)]);have:=lo 19 [2,3,8] (λ_ s=>jf [(8,sI s)]);have:=lo 24 [2,3,9] (λ_ s=>jf [(9,sI s)]);exact wA (fZ [2]) func51 call51
instance c272 {w}{i}:CC M 272 (uq w i) [.agg (jG M w),sI i] (λr=>.sl 1 (mI M r) false):=by
 have:=lo 8 [1,2,5,6,7] (λ_ (s:Int×(List Int))=>up [(5,.os 1 0 (M.n Int s.2)),(7,sI s.1)] [(1,(aR 1 (mI M s.2)))]);have:=ct 19 [1,2,5,6,7] (λ_ s=>up [(5,.os 1 0 (M.n Int s))] [(1,(aR 1 (mI M s)))]);have:=ct 24 [1,2,5,6,7,8,76] (λ_ s=>jf [(76,.sb s)]);exact wA (fZ [19,24]) func272 call272
instance c373 {s}{all}{w}{id}:CC M 373 (IK s all w id) [.agg (gG M s),kH M all,.agg (jK M w),sI id] (λr=>.sb r):=by
 have:=lo 2 [1,3,6,12,13,14] (λ_ s=>jf [(14,sI s)]);exact wA fG func373 call373
instance c340 {t}{m}{you}{count}:CC M 340 (D8 t m you count) [.agg (jd M t),.agg (zk M m),sI you,sI count] (λr=>.agg (jd M r)):=by
 exact wA (fZ [1028]) func340 call340
instance c408 {w}{i}:CC M 408 (oG w i) [.pp (zO M w),sI i] (λr=>.sb r):=by
 have:=ct 4 [0,5,24] (λ_ s=>jf [(24,.sb s)]);exact wA (fZ [4]) func408 call408
instance c339 {w}{i}:CC M 339 (oz w i) [.pp (zO M w),sI i] (λr=>sI r):=by
 have:=ct 6 [0,5,6,27] (λ_ s=>jf [(27,.sb s)]);exact wA (fZ [6]) func339 call339
instance c115 {cards}{s}{pe}:CC M 115 (EW cards s pe) [lQ M cards,.agg (fM M s),.agg (jT M pe)] (λr=>.sb r):=by
 exact wA fG func115 call115
instance c355 {t}{m}{you}{count}:CC M 355 (qU t m you count) [.agg (jd M t),.agg (zk M m),sI you,sI count] (λr=>.agg (jd M r)):=by
 exact wA fG func355 call355
instance c239 {l}:CC M 239 (PG l) [Vk M l] (λr=>.sb r):=by
 have:=lo 2 [0,3] (λ_ s=>jf [(3,sI s)]);exact wA fG func239 call239
instance c313 {pr}:CC M 313 (PD pr) [.agg (qR M pr)] (λr=>.sb r):=by
 have:=ct 2 [1,11] (λ_ s=>jf [(11,.sb s)]);exact wA (fZ [2]) func313 call313
instance c242 {m}:CC M 242 (Su m) [.agg (zk M m)] (λr=>.str r):=by
 exact wA fG func242 call242
end Go.Proofs.YtchmoabpofnbaaaGreat
