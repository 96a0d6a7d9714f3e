import Derived.Test.YtchmoabpofnbaaaGreatC12
import Derived.Test.YtchmoabpofnbaaaGreatC13
import Derived.Test.YtchmoabpofnbaaaGreatC14
import Derived.Test.YtchmoabpofnbaaaGreatC15
import Derived.Test.YtchmoabpofnbaaaGreatC11
set_option linter.all false
namespace Go.Proofs.YtchmoabpofnbaaaGreat
open Go Go.Pv
set_option maxRecDepth 100000
set_option maxHeartbeats 20000000
variable [GM]
attribute [local irreducible] bnd br jn oL loopF iq jS gu pO rG divO jF iO jA jm jE jY jU
variable {M:fP}[HM M]
instance c132 {a}:CC M 132 (rH a) [.agg (jv M a)] (λr=>.agg (jv M r)):=by
 have hM:=HM.h (M:=M);refine⟨λr U=>?_⟩;refine CO fG Tryz.func132 Tryz.call132 ?_;intro S R hS hR q;unfold rH at U;cbv;refine jl hS U (cZ hM) (le_eq rfl) ?_;intro y1 U;cbv;refine jl hS U (cZ hM) (le_eq rfl) ?_;intro y2 U;cbv;refine jl hS U (cZ hM) (le_eq rfl) ?_;intro y3 U;cbv;refine UQ hS fG wf [] [1,2,18,19] (λs4=>f3 36 [(1,.lv 0 0),(2,.lv 4 0),(18,sI (S.yf (M.n iy y3))),(19,sI s4.1)] [vR ((([sI a.kind]++(jb M a.filter++([.os 1 0 (S.fE (Tv M y1))]++(AY M a.price++[.sb a.slow]))))++(pg M a.fZ++[.sb a.may,.os 2 0 (S.fE (mSpec M y2)),.os 3 0 (S.fE (xg M s4.2))]))++(qy M a.replace)),aR 20 (Tv M y1),aR 18 (mSpec M y2),aR 64 (xg M s4.2),vR [sI 0,sI 0,sI 0,sI 0,sI 0,sI 0,sI 0,sI 0,.str (bs []),sI 0,sI 0,sI 0,sI 0,sI 0,sI 0,sI 0,sI 0,.sl 0 [] true,sI 0,sI 0,sI 0,sI 0,sI 0,sI 0,sI 0,.sb false,.sb false,sI 0,.sb false,sI 0,sI 0,sI 0,sI 0,sI 0,sI 0,sI 0,sI 0,sI 0,.str (bs []),sI 0,sI 0,sI 0,sI 0,sI 0,sI 0,sI 0,sI 0,.sb false,.sl 0 [] true,.sl 0 [] true,sI 0,sI 0,sI 0,sI 0,sI 0,sI 0,sI 0,sI 0,sI 0,.str (bs []),sI 0,sI 0,sI 0,sI 0,sI 0,sI 0,sI 0,sI 0,sI 0,sI 0,sI 0,sI 0]]) U ?_;intro Ik5 k5 s4 hk5 U e he;subst he;unfold uD at U;cbv;refine kQ ?_ ?_
 intro U;cbv;refine CB hS ?_;cbv;refine kM hS U jJ rfl ?_;intro j7 _ U;cbv;refine jc hS hM U rfl jJ ?_;intro x8 U;cbv;refine GX hS U (cI hM) ?_;intro y9 U;cbv;refine kM hS U jJ rfl ?_;intro j10 _ U;cbv;refine jc hS hM U rfl jJ ?_;exact sK
 exact d_R
instance c216 {c}:CC M 216 (zJ c) [.agg (qN M c)] (λr=>sI r):=by
 have hM:=HM.h (M:=M);refine⟨λr U=>?_⟩;refine CO (fO [12,15,16,21]) Tryz.func216 Tryz.call216 ?_;intro S R hS hR q;unfold zJ at U;cbv;refine qZ hS U (cI hM) ?_;intro y1 U;cbv;refine kQ ?_ ?_
 exact d_R
 intro U;cbv;refine Gg (fO [12,15,16,21]) [] [1,3,4,5] (λs2=>f4 24 [.lv 0 0,sI s2.1,sI s2.2.1,sI s2.2.2] [vR (qN M c)]) U ?_;intro Ik3 k3 s2 hk3 U e he;subst he;unfold D9 at U;cbv;refine mO hS ?_;cbv;refine kQ ?_ ?_
 intro U;cbv;refine yE [] [1,3,4,5] (λs5=>f4 24 [.lv 0 0,sI s5,sI (S.bin .mul .i64 2 s2.2.1),sI s2.2.2] [vR (qN M c)]) U ?_ ?_
 intro Ik6 k6 hk6 U;cbv;refine yE [] [1,3,4,5] (λs8=>f4 24 [.lv 0 0,sI s8,sI s2.2.1,sI s2.2.2] [vR (qN M c)]) U ?_ ?_
 intro Ik9 k9 hk9 U;cbv;refine yE [] [1,3,4,5,17] (λs11=>f4 24 [.lv 0 0,sI s2.1,sI s2.2.1,sI s2.2.2,.sb s11] [vR (qN M c)]) U ?_ ?_
 intro Ik12 k12 hk12 U;cbv;obtain⟨j14,hj14,ej14,U⟩:=Ze U;refine agh hS rfl ⟨j14,hj14,ej14,?_⟩;rcases lt5 hj14 with rfl|rfl|rfl|rfl|rfl
 cbv;exact sN
 cbv;exact sN
 cbv;exact sN
 cbv;exact sN
 cbv;exact sN
 intro s11 U;cbv;refine rf ?_ ?_<;>exact pW
 intro s8 U;cbv;exact sN
 intro s5 U;cbv;exact sN
 exact d_R
end Go.Proofs.YtchmoabpofnbaaaGreat
namespace Go.Proofs.YtchmoabpofnbaaaGreat
open Go Go.Pv Proofs.Tryz
set_option maxRecDepth 100000
set_option maxHeartbeats 20000000
variable [GM]
attribute [local irreducible] bnd br jn oL loopF iq jS gu pO rG divO jF iO jA jm jE jY jU
variable {M:fP}[HM M]
theorem akV {M:fP}(hM:M=ku){data:List eP}{a:Int}{m:Int}{b:Int}{r:List eP}(U:jM data a m b nJ=some r):Pv.FnS Tryz.prog glF 479 [.os 0 0 (M.n eP data),sI a,sI m,sI b,.fn 300 []] [(0,(aR 76 (eY M data)))] 1 (λt ss nn=>t=.Eu []/\ss=[(0,(aR 76 (eY M r)))]/\nn=1):=by
 haveI:HM M:=⟨hM⟩
 refine yX (T:=(Fg 1 [] [])) (gp 1 [] []) wf func479 rfl call479 rfl ?_;intro S R hS hR;have q:=sf hM hS;unfold jM at U;cbv;refine Gg (gp 1 [] []) [] [0,2,4,10,11] (λI=>f4 58 [.os 0 0 (S.fE (eY M I.2.2)),sI m,.fn 300 [],sI I.1,sI I.2.1] [aR 76 (eY M I.2.2)]) U ?_;intro C k2 I g U e J;subst J;unfold mF at U;cbv;refine kQ ?_ ?_
 intro U;cbv;refine kQ ?_ ?_
 intro U;cbv;refine uj hS U (cZ hM) ah ah rfl rfl rfl rfl ?_;intro y4 J U;have q:=And.intro q (mY TW J).symm;cbv;exact sN
 intro U;cbv;refine uj hS U (cZ hM) ah ah rfl rfl rfl rfl ?_;intro y5 J U;have q:=And.intro q (mY TW J).symm;cbv;exact sN
 intro U;cbv;refine uj hS U (cZ hM) ah ah rfl rfl rfl rfl ?_;intro y6 J U;have q:=And.intro q (mY TW J).symm;cbv;cases U;exact hR _ _ _ ah ah rfl
instance c422 {l}{needs}{i}:CC M 422 (Jd l needs i) [.sl 1 (mI M l) false,.sl 1 (M.m (List Bool) (eL M 1 eB) needs) false,sI i] (λr=>.sl 1 (mI M r) false):=by
 have:=lo 3 [0,1,2,7,8] (λ_ (s:Int×(List Int))=>up [(7,.os 0 0 (M.n Int s.2)),(8,sI s.1)] [(0,(aR 1 (mI M s.2)))]) [.tO 7 1];have:=ct 9 [0,1,2,7,8] (λ_ s=>up [(7,.os 0 0 (M.n Int s))] [(0,(aR 1 (mI M s)))]) [.tO 7 1];have:=lo 8 [0,1,7,9] (λ_ (s:Int×(List Int))=>up [(7,.os 0 0 (M.n Int s.2)),(9,sI s.1)] [(0,(aR 1 (mI M s.2)))]);have:=lo 11 [0,1,7,9,10] (λ_ (s:Int×(List Int))=>up [(7,.os 0 0 (M.n Int s.2)),(10,sI s.1)] [(0,(aR 1 (mI M s.2)))]);have:=ct 25 [0,1,7,9,10] (λ_ s=>up [(7,.os 0 0 (M.n Int s))] [(0,(aR 1 (mI M s)))]);have:=ct 26 [0,1,7,9,10,61] (λ_ s=>je [(61,.sb s)]);exact wA (fO [9,25,26]) func422 call422
instance c378 {op}{field}:CC M 378 (xB op field) [sI op,.si .u8 field] (λr=>.sb r):=by
 have:=lo 3 [1,5,6] (λ_ s=>je [(6,sI s)]);exact wA fG func378 call378
instance c104 {s}{v}:CC M 104 (oP s v) [jI M s,.agg (rU M v)] (λr=>.sb r):=by
 exact wA fG func104 call104
instance c334 {a}{b}:CC M 334 (uC a b) [.agg (ny M a),.agg (ny M b)] (λr=>.sb r):=by
 exact wA fG func334 call334
instance c38 {s}{id}:CC M 38 (Ef s id) [.agg (fD M s),sI id] (λr=>.Eu [.agg (ja M r.1),.sb r.2]):=by
 exact wA fG func38 call38
instance c487 {s}{v}:CC M 487 (slices_Contains_string s v) [.sl 1 (M.m ByteArray eS s) false,.str v] (λr=>.sb r):=by
 exact wA fG func487 call487
instance c458 {b}{n}{c2}:CC M 458 (uV b n c2) [.agg (DR M b),sI n,.pp [.sb c2]] (λr=>.sb r):=by
 exact wA fG func458 call458
instance c375 {a}{b}:CC M 375 (Q9 a b) [.agg (xA M a),.agg (xA M b)] (λr=>.sb r):=by
 exact wA fG func375 call375
instance c328 {m}{c1}:CC M 328 (wo m c1) [.agg (yz M m),.pp [sI c1]] (λr=>.sb r):=by
 exact wA fG func328 call328
instance c128 {p}:CC M 128 (zq p) [.agg (xx M p)] (λr=>.agg (xx M r)):=by
 exact wA fG func128 call128
instance c78 {s}{v}:CC M 78 (slices_Contains_int s v) [.sl 1 (mI M s) false,sI v] (λr=>.sb r):=by
 exact wA fG func78 call78
instance c427 {l}{sub}:CC M 427 (Du l sub) [.agg (GZ M l),.str sub] (λr=>.sb r):=by
 exact wA fG func427 call427
instance c341 {l}{n}:CC M 341 (I9 l n) [.sl 1 (mI M l) false,sI n] (λr=>sI r):=by
 exact wA fG func341 call341
instance c275 {l}{n}:CC M 275 (Rn l n) [.sl 1 (mI M l) false,sI n] (λr=>.sb r):=by
 exact wA fG func275 call275
instance c88 {s}{p}:CC M 88 (qO s p) [.agg (fD M s),sI p] (λr=>.sb r):=by
 exact wA fG func88 call88
instance c486 {b}:CC M 486 (qo b) [.agg (DR M b)] (λr=>.sb r):=by
 exact wA fG func486 call486
instance c184 {x}{y}:CC M 184 (cmp_Compare_int x y) [sI x,sI y] (λr=>sI r):=by
 exact wA fG func184 call184
instance c236 {p}:CC M 236 (Ox p) [.agg (AY M p)] (λr=>.sb r):=by
 exact wA fG func236 call236
instance c312 {when}:CC M 312 (DW when) [sI when] (λr=>.sb r):=by
 exact wA fG func312 call312
instance c288 {a}{b}:CC M 288 (OC a b) [sI a,sI b] (λr=>sI r):=by
 exact wA fG func288 call288
instance c289 {a}{b}:CC M 289 (OD a b) [sI a,sI b] (λr=>sI r):=by
 exact wA fG func289 call289
instance c348 {a}{b}:CC M 348 (Vb a b) [sI a,sI b] (λr=>sI r):=by
 exact wA fG func348 call348
instance c267 {a}{b}:CC M 267 (nR a b) [sI a,sI b] (λr=>sI r):=by
 exact wA fG func267 call267
instance c494 {a}{b}:CC M 494 (FW a b) [sI a,sI b] (λr=>sI r):=by
 exact wA fG func494 call494
instance c68 {a}{b}:CC M 68 (DX a b) [sI a,sI b] (λr=>sI r):=by
 exact wA fG func68 call68
instance c388 {i}:CC M 388 (Nv i) [sI i] (λr=>.str r):=by
 exact wA fG func388 call388
instance c324 {n}:CC M 324 (Bc n) [sI n] (λr=>.str r):=by
 exact wA fG func324 call324
end Go.Proofs.YtchmoabpofnbaaaGreat
