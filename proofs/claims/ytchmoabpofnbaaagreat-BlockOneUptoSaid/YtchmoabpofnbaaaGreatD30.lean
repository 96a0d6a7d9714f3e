import Derived.Test.YtchmoabpofnbaaaGreatD12
import Derived.Test.YtchmoabpofnbaaaGreatD13
import Derived.Test.YtchmoabpofnbaaaGreatD14
import Derived.Test.YtchmoabpofnbaaaGreatD16
set_option linter.all false
namespace Go.Proofs.YtchmoabpofnbaaaGreat
open Go Go.Pv
set_option maxRecDepth 100000
set_option maxHeartbeats 20000000
variable [GM]
attribute [local irreducible] bnd br jn pI eH iI kD gW qx sG divO jU jc jM jD jR kK kE
variable {M:gm}[HM M]
instance c401 {a}:CC M 401 (vF a) [.agg (jH M a)] (λr=>.agg (jH M r)):=by
 have hM:=HM.h (M:=M);refine⟨λr U=>?_⟩;refine EN fG Tryz.func401 Tryz.call401 ?_;intro S R O hR q;unfold vF at U;cbv;refine jC O U (cZ hM) (le_eq rfl) ?_;intro y1 U;cbv;refine jC O U (cZ hM) (le_eq rfl) ?_;intro y2 U;cbv;refine jC O U (cZ hM) (le_eq rfl) ?_;intro y3 U;cbv;refine Vw O fG wf [] [1,2,18,19] (λs4=>f3 36 [(1,.lv 0 0),(2,.lv 4 0),(18,sI (S.xQ (M.n iK y3))),(19,sI s4.1)] [vR ((([sI a.kind]++(jm M a.filter++([.os 1 0 (S.fE (Ur M y1))]++(BP M a.price++[.sb a.slow]))))++(qf M a.gI++[.sb a.may,.os 2 0 (S.fE (mSpec M y2)),.os 3 0 (S.fE (xP M s4.2))]))++(qR M a.replace)),aR 20 (Ur M y1),aR 18 (mSpec M y2),aR 64 (xP M s4.2),vR [sI 0,sI 0,sI 0,sI 0,sI 0,sI 0,sI 0,sI 0,.str (bs []),sI 0,sI 0,sI 0,sI 0,sI 0,sI 0,sI 0,sI 0,.sl 0 [] true,sI 0,sI 0,sI 0,sI 0,sI 0,sI 0,sI 0,.sb false,.sb false,sI 0,.sb false,sI 0,sI 0,sI 0,sI 0,sI 0,sI 0,sI 0,sI 0,sI 0,.str (bs []),sI 0,sI 0,sI 0,sI 0,sI 0,sI 0,sI 0,sI 0,.sb false,.sl 0 [] true,.sl 0 [] true,sI 0,sI 0,sI 0,sI 0,sI 0,sI 0,sI 0,sI 0,sI 0,.str (bs []),sI 0,sI 0,sI 0,sI 0,sI 0,sI 0,sI 0,sI 0,sI 0,sI 0,sI 0,sI 0]]) U ?_;intro Ik5 k5 s4 hk5 U e he;subst he;unfold uQ at U;cbv;refine mP ?_ ?_
 intro U;cbv;refine Fa O ?_;cbv;refine lh O U jW rfl ?_;intro j7 _ U;cbv;refine jv O hM U rfl jW ?_;intro x8 U;cbv;refine Kq O U (cI hM) ?_;intro y9 U;cbv;refine lh O U jW rfl ?_;intro j10 _ U;cbv;refine jv O hM U rfl jW ?_;exact yX
 exact d_R
instance c216 {c}:CC M 216 (AU c) [.agg (rD M c)] (λr=>sI r):=by
 have hM:=HM.h (M:=M);refine⟨λr U=>?_⟩;refine EN (fZ [12,15,16,21]) Tryz.func216 Tryz.call216 ?_;intro S R O hR q;unfold AU at U;cbv;refine wo O U (cI hM) ?_;intro y1 U;cbv;refine mP ?_ ?_
 exact d_R
 intro U;cbv;refine Ji (fZ [12,15,16,21]) [] [1,3,4,5] (λs2=>f4 24 [.lv 0 0,sI s2.1,sI s2.2.1,sI s2.2.2] [vR (rD M c)]) U ?_;intro Ik3 k3 s2 hk3 U e he;subst he;unfold Eo at U;cbv;refine nz O ?_;cbv;refine mP ?_ ?_
 intro U;cbv;refine DJ [] [1,3,4,5] (λs5=>f4 24 [.lv 0 0,sI s5,sI (S.bin .mul .i64 2 s2.2.1),sI s2.2.2] [vR (rD M c)]) U ?_ ?_
 intro Ik6 k6 hk6 U;cbv;refine DJ [] [1,3,4,5] (λs8=>f4 24 [.lv 0 0,sI s8,sI s2.2.1,sI s2.2.2] [vR (rD M c)]) U ?_ ?_
 intro Ik9 k9 hk9 U;cbv;refine DJ [] [1,3,4,5,17] (λs11=>f4 24 [.lv 0 0,sI s2.1,sI s2.2.1,sI s2.2.2,.sb s11] [vR (rD M c)]) U ?_ ?_
 intro Ik12 k12 hk12 U;cbv;obtain⟨j14,hj14,ej14,U⟩:=aac U;refine ahx O rfl ⟨j14,hj14,ej14,?_⟩;rcases lt5 hj14 with rfl|rfl|rfl|rfl|rfl
 cbv;exact uj
 cbv;exact uj
 cbv;exact uj
 cbv;exact uj
 cbv;exact uj
 intro s11 U;cbv;refine xH ?_ ?_<;>exact tY
 intro s8 U;cbv;exact uj
 intro s5 U;cbv;exact uj
 exact d_R
end Go.Proofs.YtchmoabpofnbaaaGreat
namespace Go.Proofs.YtchmoabpofnbaaaGreat
open Go Go.Pv Proofs.Tryz
set_option maxRecDepth 100000
set_option maxHeartbeats 20000000
variable [GM]
attribute [local irreducible] bnd br jn pI eH iI kD gW qx sG divO jU jc jM jD jR kK kE
variable {M:gm}[HM M]
instance c38 {s}{id}:CC M 38 (Si s id) [.agg (fM M s),sI id] (λr=>.Ed [.agg (jo M r.1),.sb r.2]):=by
 exact wA fG func38 call38
instance c487 {s}{v}:CC M 487 (slices_Contains_string s v) [.sl 1 (M.m ByteArray eS s) false,.str v] (λr=>.sb r):=by
 exact wA fG func487 call487
instance c458 {b}{n}{c2}:CC M 458 (vO b n c2) [.agg (En M b),sI n,.pp [.sb c2]] (λr=>.sb r):=by
 exact wA fG func458 call458
instance c17 {k}:CC M 17 (BQ k) [.pp (jY M k)] (λr=>.Ed [.agg (jQ M r.1),.sb r.2]):=by
 exact wA fG func17 call17
instance c375 {a}{b}:CC M 375 (KP a b) [.agg (xZ M a),.agg (xZ M b)] (λr=>.sb r):=by
 exact wA fG func375 call375
instance c120 {a}{b}:CC M 120 (Gl a b) [.agg (AQ M a),.agg (AQ M b)] (λr=>.sb r):=by
 exact wA fG func120 call120
instance c328 {m}{c1}:CC M 328 (wX m c1) [.agg (zk M m),.pp [sI c1]] (λr=>.sb r):=by
 exact wA fG func328 call328
instance c279 {t}{key}:CC M 279 (yz t key) [.agg (jd M t),sI key] (λr=>.sb r):=by
 exact wA fG func279 call279
instance c128 {p}:CC M 128 (Aw p) [.agg (vw M p)] (λr=>.agg (vw M r)):=by
 exact wA fG func128 call128
instance c427 {l}{sub}:CC M 427 (DW l sub) [.agg (Fq M l),.str sub] (λr=>.sb r):=by
 exact wA fG func427 call427
instance c78 {s}{v}:CC M 78 (slices_Contains_int s v) [.sl 1 (mI M s) false,sI v] (λr=>.sb r):=by
 exact wA fG func78 call78
instance c341 {l}{n}:CC M 341 (OC l n) [.sl 1 (mI M l) false,sI n] (λr=>sI r):=by
 exact wA fG func341 call341
instance c275 {l}{n}:CC M 275 (RU l n) [.sl 1 (mI M l) false,sI n] (λr=>.sb r):=by
 exact wA fG func275 call275
instance c88 {s}{p}:CC M 88 (rE s p) [.agg (fM M s),sI p] (λr=>.sb r):=by
 exact wA fG func88 call88
instance c486 {b}:CC M 486 (qO b) [.agg (En M b)] (λr=>.sb r):=by
 exact wA fG func486 call486
instance c184 {x}{y}:CC M 184 (cmp_Compare_int x y) [sI x,sI y] (λr=>sI r):=by
 exact wA fG func184 call184
instance c236 {p}:CC M 236 (Pz p) [.agg (BP M p)] (λr=>.sb r):=by
 exact wA fG func236 call236
instance c312 {when}:CC M 312 (Ew when) [sI when] (λr=>.sb r):=by
 exact wA fG func312 call312
instance c348 {a}{b}:CC M 348 (VT a b) [sI a,sI b] (λr=>sI r):=by
 exact wA fG func348 call348
instance c267 {a}{b}:CC M 267 (ou a b) [sI a,sI b] (λr=>sI r):=by
 exact wA fG func267 call267
instance c494 {a}{b}:CC M 494 (Gn a b) [sI a,sI b] (λr=>sI r):=by
 exact wA fG func494 call494
instance c288 {a}{b}:CC M 288 (PL a b) [sI a,sI b] (λr=>sI r):=by
 exact wA fG func288 call288
instance c289 {a}{b}:CC M 289 (PM a b) [sI a,sI b] (λr=>sI r):=by
 exact wA fG func289 call289
instance c68 {a}{b}:CC M 68 (Ez a b) [sI a,sI b] (λr=>sI r):=by
 exact wA fG func68 call68
instance c388 {i}:CC M 388 (Oj i) [sI i] (λr=>.str r):=by
 exact wA fG func388 call388
instance c324 {n}:CC M 324 (Cc n) [sI n] (λr=>.str r):=by
 exact wA fG func324 call324
end Go.Proofs.YtchmoabpofnbaaaGreat
