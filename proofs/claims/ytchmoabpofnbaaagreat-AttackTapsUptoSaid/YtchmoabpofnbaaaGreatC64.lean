import Derived.Test.YtchmoabpofnbaaaGreatC57
import Derived.Test.YtchmoabpofnbaaaGreatC59
set_option linter.all false
namespace Go.Proofs.YtchmoabpofnbaaaGreat
open Go Go.Pv
set_option maxRecDepth 100000
set_option maxHeartbeats 20000000
variable [GM]
attribute [local irreducible] bnd br jn oL loopF iq jS gu pO rG divO jF iO jA jm jE jY jU
variable {M:fP}[HM M]
instance z94_3 {k}{c}:CZ M 94 (wY k c) [.lv 0 0,.agg (jD M c)] [(0,(vR ([.os 1 0 (M.n (List Int) k.answers),sI k.used]++(jD M k.pending++[.sb k.waits,.sb k.bad])))),(1,(aR 1 (M.m (List Int) (eL M 1 (eI .i64)) k.answers)))] 2 (λr=>.os 2 0 (M.n Int r.1)) (λr=>[(0,(vR ([.os 1 0 (M.n (List Int) r.2.answers),sI r.2.used]++(jD M r.2.pending++[.sb r.2.waits,.sb r.2.bad])))),(1,(aR 1 (M.m (List Int) (eL M 1 (eI .i64)) r.2.answers))),(2,(aR 1 (mI M r.1)))]) 3:=by
 have hM:=HM.h (M:=M);refine⟨λr U=>?_⟩;refine xw (T:=(Fg 2 [2] [[(1,true)]])) (gp 2 [2] [[(1,true)]]) wf Tryz.func94 rfl Tryz.call94 rfl [.cF 0 8] ?_;intro S R hS hR;have q:=sf hM hS;unfold wY at U;cbv;refine yE [] [0,3,23] (λs1=>f4 77 [.lv 0 0,.lv 2 0,.sb s1] [vR ([.os 1 0 (S.fE (M.m (List Int) (eL M 1 (eI .i64)) k.answers)),sI k.used]++(jD M k.pending++[.sb k.waits,.sb k.bad])),aR 1 (M.m (List Int) (eL M 1 (eI .i64)) k.answers),vR (jD M c)]) U ?_ ?_
 intro Ik2 k2 hk2 U;cbv;refine rf ?_ ?_
 exact pW
 intro U;cbv;refine rf ?_ ?_
 exact pW
 intro U;cbv;refine qZ hS U (cI hM) ?_;exact sK
 intro s1 U;cbv;refine rf ?_ ?_
 intro U;cbv;refine jl hS U (cZ hM) (le_eq rfl) ?_;intro y5 U;cbv;cases U;exact hR _ _ _ gX gX rfl
 intro U;cbv;refine CB hS ?_;cbv;refine kQ ?_ ?_
 intro U;cbv;refine jl hS U (cZ hM) (le_eq rfl) ?_;intro y6 U;cbv;refine aa8 hS rfl ?_;cbv;refine jl hS U (cZ hM) JB ?_;intro y7 U;cbv;cases U;exact hR _ _ _ gX gX rfl
 intro U;cbv;refine CB hS ?_;cbv;refine kM hS U jJ rfl ?_;intro j8 _ U;cbv;refine jc hS hM U rfl jJ ?_;intro x9 U;cbv;refine qZ hS U (cI hM) ?_;intro y10 U;cbv;refine kQ ?_ ?_
 intro U;cbv;refine jl hS U (cZ hM) (le_eq rfl) ?_;intro y11 U;cbv;cases U;exact hR _ _ _ gX gX rfl
 intro U;cbv;refine jl hS U (cZ hM) (le_eq rfl) ?_;intro y12 U;cbv;cases U;exact hR _ _ _ gX gX rfl
instance c98 {cards}{s}:CC M 98 (Kv cards s) [kH M cards,.agg (fD M s)] (λr=>.agg (jr M r)):=by
 have hM:=HM.h (M:=M);refine⟨λr U=>?_⟩;refine CO fG Tryz.func98 Tryz.call98 ?_;intro S R hS hR q;unfold Kv at U;cbv;refine CB hS ?_;cbv;refine GX hS U (cI hM) ?_;intro y1 U;cbv;refine UQ hS fG wf [.cO 2 19 17] [0,3,4,5,6] (λs2=>f3 47 [(0,kH M cards),(3,.lv 0 0),(4,.lv 1 0),(5,.lv 2 0),(6,sI s2.1)] [vR (fD M s),vR [.sl 0 [] true,.sl 0 [] true,.sl 0 [] true,.sl 0 [] true,.sl 0 [] true,.sl 0 [] true,.sl 0 [] true,sI 0,sI 0,sI 0,.sb false,sI 0,sI 0,sI 0,sI 0,.si .u64 0,.sl 0 [] true,sI 0,sI 0,.sl 0 [] true,.sl 0 [] true,.sl 0 [] true,.sl 0 [] true,.sl 0 [] true],vR (fD M s++[.os 3 0 (S.fE (fJ M s2.2)),vg M y1,.sl 0 [] true,.sl 0 [] true,.sl 0 [] true]),aR 17 (fJ M s2.2)]) U ?_;intro Ik3 k3 s2 hk3 U e he;subst he;unfold FU at U;cbv;refine kQ ?_ ?_
 intro U;cbv;refine CB hS ?_;cbv;refine zT ?_;intro x5 U;cbv;refine GX hS U (cI hM) ?_;intro y6 U;cbv;refine nG hS U jJ ?_;exact pW
 intro U;cbv;refine MB hS U jJ jJ ?_;intro j7 U;cbv;refine JA hS (e:=eB) U ah ?_;intro x8 U;cbv;refine MB hS U jJ jJ ?_;intro j9 U;cbv;refine JA hS (e:=(eL M 1 (eI .i64))) U (by(try simp only[eL,q]);repeat' constructor) ?_;intro x10 U;cbv;refine MB hS U jJ jJ ?_;intro j11 U;cbv;refine JA hS (e:=eB) U ah ?_;intro x12 U;cbv;cases U;exact hR _ (d_l bG)
instance amU {w}{i}:CZ M 408 (pV w i) [.lv 0 0,sI i] [(0,(vR (fV M w.s++[fK M w.forces,.os 1 0 (M.n eQ w.traits),.os 2 0 (M.n Bool w.dropped),.os 3 0 (M.n Bool w.done),.os 4 0 (M.n (List Int) w.hits)]))),(1,(aR 17 (fJ M w.traits))),(2,(aR 1 (M.m Bool eB w.dropped))),(3,(aR 1 (M.m Bool eB w.done))),(4,(aR 1 (M.m (List Int) (eL M 1 (eI .i64)) w.hits)))] 5 (λr=>.sb r) (λ_=>[(0,(vR (fV M w.s++[fK M w.forces,.os 1 0 (M.n eQ w.traits),.os 2 0 (M.n Bool w.dropped),.os 3 0 (M.n Bool w.done),.os 4 0 (M.n (List Int) w.hits)]))),(1,(aR 17 (fJ M w.traits))),(2,(aR 1 (M.m Bool eB w.dropped))),(3,(aR 1 (M.m Bool eB w.done))),(4,(aR 1 (M.m (List Int) (eL M 1 (eI .i64)) w.hits)))]) 5:=by
 have:=ct 4 [0,5,24] (λ_ s=>je [(24,.sb s)]);exact wC (gp 5 [4] []) Tryz.func408 Tryz.call408 []
end Go.Proofs.YtchmoabpofnbaaaGreat
namespace Go.Proofs.YtchmoabpofnbaaaGreat
open Go Go.Pv Proofs.Tryz
set_option maxRecDepth 100000
set_option maxHeartbeats 20000000
variable [GM]
attribute [local irreducible] bnd br jn oL loopF iq jS gu pO rG divO jF iO jA jm jE jY jU
variable {M:fP}[HM M]
instance c272 {w}{i}:CC M 272 (Ae w i) [.agg (jr M w),sI i] (λr=>.sl 1 (mI M r) false):=by
 have:=lo 8 [1,2,5,6,7] (λ_ (s:Int×(List Int))=>up [(5,.os 1 0 (M.n Int s.2)),(7,sI s.1)] [(1,(aR 1 (mI M s.2)))]);have:=ct 19 [1,2,5,6,7] (λ_ s=>up [(5,.os 1 0 (M.n Int s))] [(1,(aR 1 (mI M s)))]);have:=ct 24 [1,2,5,6,7,8,76] (λ_ s=>je [(76,.sb s)]);exact wA (fO [19,24]) func272 call272
instance c37 {s}{all}{l}:CC M 37 (tY s all l) [.agg (fD M s),iE M all,jI M l] (λr=>sI r):=by
 have:=lo 3 [1,2,3,7,16,17,18] (λ_ s=>je [(18,sI s)]);have:=ct 12 [1,2,3,7,16,17,18,34] (λ_ s=>je [(34,.sb s)]);have:=lo 10 [2,38,39,40] (λ_ s=>je [(40,sI s)]);exact wA (fO [12]) func37 call37
instance c96 {s}{all}:CC M 96 (yT s all) [.agg (fD M s),iE M all] (λr=>jI M r):=by
 have:=lo 4 [5,6,15,16,17] (λ_ (s:Int×(List eX))=>up [(5,.os 0 0 (M.n eX s.2)),(17,sI s.1)] [(0,(aR 3 (jq M s.2)))]) [.tO 5 3];exact wA fG func96 call96
instance c373 {s}{all}{w}{id}:CC M 373 (Hr s all w id) [.agg (fV M s),iE M all,.agg (jy M w),sI id] (λr=>.sb r):=by
 have:=lo 2 [1,3,6,12,13,14] (λ_ s=>je [(14,sI s)]);exact wA fG func373 call373
instance c340 {t}{m}{you}{count}:CC M 340 (Dp t m you count) [.agg (jh M t),.agg (yz M m),sI you,sI count] (λr=>.agg (jh M r)):=by
 exact wA (fO [1028]) func340 call340
instance c408 {w}{i}:CC M 408 (nU w i) [.pp (yO M w),sI i] (λr=>.sb r):=by
 have:=ct 4 [0,5,24] (λ_ s=>je [(24,.sb s)]);exact wA (fO [4]) func408 call408
instance c339 {w}{i}:CC M 339 (nP w i) [.pp (yO M w),sI i] (λr=>sI r):=by
 have:=ct 6 [0,5,6,27] (λ_ s=>je [(27,.sb s)]);exact wA (fO [6]) func339 call339
instance c115 {cards}{s}{pe}:CC M 115 (Bh cards s pe) [kH M cards,.agg (fD M s),.agg (jC M pe)] (λr=>.sb r):=by
 exact wA fG func115 call115
instance c355 {t}{m}{you}{count}:CC M 355 (qK t m you count) [.agg (jh M t),.agg (yz M m),sI you,sI count] (λr=>.agg (jh M r)):=by
 exact wA fG func355 call355
instance c239 {l}:CC M 239 (OA l) [UH M l] (λr=>.sb r):=by
 have:=lo 2 [0,3] (λ_ s=>je [(3,sI s)]);exact wA fG func239 call239
end Go.Proofs.YtchmoabpofnbaaaGreat
