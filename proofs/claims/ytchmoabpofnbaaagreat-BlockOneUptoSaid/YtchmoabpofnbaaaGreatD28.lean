import Derived.Test.YtchmoabpofnbaaaGreatD12
import Derived.Test.YtchmoabpofnbaaaGreatD13
import Derived.Test.YtchmoabpofnbaaaGreatD14
import Derived.Test.YtchmoabpofnbaaaGreatD16
import Derived.Test.YtchmoabpofnbaaaGreatD11
set_option linter.all false
namespace Go.Proofs.YtchmoabpofnbaaaGreat
open Go Go.Pv
set_option maxRecDepth 100000
set_option maxHeartbeats 20000000
variable [GM]
attribute [local irreducible] bnd br jn pI eH iI kD gW qx sG divO jU jc jM jD jR kK kE
variable {M:gm}[HM M]
theorem ai8 {M:gm}(hM:M=kJ){yield:List dV}{c1:dZ}{c2:List eF}{c3:Bool}{r:List dV}(U:oU yield c1 c2 c3=some r):Pv.FnY Tryz.prog glF 366 [.pp (gG M c1),.pp [kH M c2],.pp [.sb c3]] [(0,(vR [.os 1 0 (M.n dV yield)])),(1,(aR 76 (fA M yield)))] 2 (YcW M) (λuu ss nn=>uu=.Ed []/\ss=[(0,(vR [.os 2 0 (M.n dV r)])),(1,none),(2,(aR 76 (fA M r)))]/\nn=3):=by
 haveI:HM M:=⟨hM⟩
 refine ahE (T:=(Gh 2 [16,21,23] [])) (gJ 2 [16,21,23] []) wf (Nat.succ_pos _) Tryz.func366 rfl Tryz.call366 rfl [.cR 0 0] ?_;intro l rc pv hyc S R O hR;have q:=sf hM O;unfold oU at U;cbv;refine Ji (iZ.y (gJ 2 [16,21,23] [])) [.cR 0 0] [0,2,3,11,12,13] (λt=>f4 56 [.yl l,.pp [kH M c2],.pp [.sb c3],oZ M c1.objects,sI (S.len (jO M c1.objects)),sI t.1] [vR [.os 2 0 (S.fE (fA M t.2))],none,aR 76 (fA M t.2)]) U ?_;intro Ik2 k2 t hk2 U e he;subst he;unfold ry at U;cbv;refine mP ?_ ?_
 intro U;cbv;refine DJ [.cR 0 0] [0,2,3,11,12,13] (λs4=>f4 56 [.yl l,.pp [kH M c2],.pp [.sb c3],oZ M c1.objects,sI (S.len (jO M c1.objects)),sI t.1] [vR [.os 2 0 (S.fE (fA M s4))],none,aR 76 (fA M s4)]) U ?_ ?_
 intro Ik5 k5 hk5 U;cbv;refine Kr ?_;intro x7 U;cbv;refine mP ?_ ?_
 exact tY
 intro U;cbv;refine wo O U (cI hM) ?_;intro I U;cbv;refine Ji (iZ.y (gJ 2 [16,21,23] [])) [.cR 0 0] [0,2,3,6,7,11,12,13,25,26,27] (λJ=>f4 56 [.yl l,.pp [kH M c2],.pp [.sb c3],.lv 3 0,.lv 4 0,oZ M c1.objects,sI (S.len (jO M c1.objects)),sI t.1,Dn M I.fC,sI (S.len (qC M I.fC)),sI J.2.1] [vR [.os 2 0 (S.fE (fA M J.2.2))],none,aR 76 (fA M J.2.2),vR (jo M J.1),vR (jd M I)]) U ?_;intro Ik10 k10 J hk10 U e he;subst he;unfold vV at U;cbv;refine mP ?_ ?_
 intro U;cbv;refine DJ [.cR 0 0] [0,2,3,6,7,11,12,13,25,26,27] (λC=>f4 56 [.yl l,.pp [kH M c2],.pp [.sb c3],.lv 3 0,.lv 4 0,oZ M c1.objects,sI (S.len (jO M c1.objects)),sI t.1,Dn M I.fC,sI (S.len (qC M I.fC)),sI J.2.1] [vR [.os 2 0 (S.fE (fA M C.2))],none,aR 76 (fA M C.2),vR (jo M C.1),vR (jd M I)]) U ?_ ?_
 intro Ik13 k13 hk13 U;cbv;refine Kr ?_;intro x15 U;cbv;refine DJ [] [0,2,3,6,7,8,9,11,12,13,25,26,27,42] (λg=>f4 56 [.yl l,.pp [kH M c2],.pp [.sb c3],.lv 3 0,.lv 4 0,sI J.2.1,.lv 5 0,oZ M c1.objects,sI (S.len (jO M c1.objects)),sI t.1,Dn M I.fC,sI (S.len (qC M I.fC)),sI J.2.1,.sb g] [vR [.os 2 0 (S.fE (fA M J.2.2))],none,aR 76 (fA M J.2.2),vR (jo M J.1),vR (jd M I),vR (jH M x15)]) U ?_ ?_
 intro Ik17 k17 hk17 U;cbv;refine Fa O ?_;cbv;refine mP ?_ ?_
 exact tY
 intro U;cbv;refine Kq O U (cI hM) ?_;exact yX
 intro g U;cbv;refine xH ?_ ?_
 exact tY
 intro U;cbv;refine amV O U rfl (λ_=>hyc _ _ _) iU iU rfl rfl rfl rfl rfl rfl rfl ?_;intro y20 U;cbv;refine mP ?_ ?_
 exact dR
 exact tY
 intro C U;cbv;exact uj
 exact tY
 intro s4 U;cbv;exact uj
 intro U;cbv;cases U;exact hR _ _ _ iU iU rfl
instance c399 {c}:CC M 399 (yC c) [.agg (rD M c)] (λr=>sI r):=by
 have hM:=HM.h (M:=M);refine⟨λr U=>?_⟩;refine EN (fZ [2,10,12,19]) Tryz.func399 Tryz.call399 ?_;intro S R O hR q;unfold yC at U;cbv;refine DJ [] [1,14] (λs1=>f4 29 [.lv 0 0,.sb s1] [vR (rD M c)]) U ?_ ?_
 intro Ik2 k2 hk2 U;cbv;refine wo O U (cI hM) ?_;intro y4 U;cbv;refine mP ?_ ?_
 exact tY
 intro U;cbv;replace U:=afR U;exact uj
 intro s1 U;cbv;refine xH ?_ ?_
 exact d_R
 intro U;cbv;refine Ji (fZ [2,10,12,19]) [] [3,16,17] (λs6=>f4 29 [sI s6.1,.agg [sI c.color.a0,sI c.color.a1,sI c.color.a2,sI c.color.a3,sI c.color.a4],sI s6.2] []) U ?_;intro Ik7 k7 s6 hk7 U e he;subst he;unfold yB at U;cbv;refine nz O ?_;cbv;refine mP ?_ ?_
 intro U;cbv;refine DJ [] [3,16,17] (λs9=>f4 29 [sI s9,.agg [sI c.color.a0,sI c.color.a1,sI c.color.a2,sI c.color.a3,sI c.color.a4],sI s6.2] []) U ?_ ?_
 intro Ik10 k10 hk10 U;cbv;refine DJ [] [3,4,5,16,17] (λs12=>f4 29 [sI s6.1,sI s6.2,sI s12,.agg [sI c.color.a0,sI c.color.a1,sI c.color.a2,sI c.color.a3,sI c.color.a4],sI s6.2] []) U ?_ ?_
 intro Ik13 k13 hk13 U;cbv;obtain⟨j15,hj15,ej15,U⟩:=aac U;refine ahx O rfl ⟨j15,hj15,ej15,?_⟩;rcases lt5 hj15 with rfl|rfl|rfl|rfl|rfl
 cbv;exact uj
 cbv;exact uj
 cbv;exact uj
 cbv;exact uj
 cbv;exact uj
 intro s12 U;cbv;refine mP ?_ ?_
 intro U;cbv;refine YT O U rfl rfl ?_;exact yX
 exact tY
 intro s9 U;cbv;exact uj
 exact d_R
end Go.Proofs.YtchmoabpofnbaaaGreat
namespace Go.Proofs.YtchmoabpofnbaaaGreat
open Go Go.Pv Proofs.Tryz
set_option maxRecDepth 100000
set_option maxHeartbeats 20000000
variable [GM]
attribute [local irreducible] bnd br jn pI eH iI kD gW qx sG divO jU jc jM jD jR kK kE
variable {M:gm}[HM M]
theorem amj {M:gm}(hM:M=kJ){data:List dV}{a:Int}{m:Int}{b:Int}{r:List dV}(U:jZ data a m b og=some r):Pv.FnS Tryz.prog glF 479 [.os 0 0 (M.n dV data),sI a,sI m,sI b,.fn 300 []] [(0,(aR 76 (fA M data)))] 1 (λg ss nn=>g=.Ed []/\ss=[(0,(aR 76 (fA M r)))]/\nn=1):=by
 haveI:HM M:=⟨hM⟩
 refine Ad (T:=(Gh 1 [] [])) (gJ 1 [] []) wf func479 rfl call479 rfl ?_;intro S R O hR;have q:=sf hM O;unfold jZ at U;cbv;refine Ji (gJ 1 [] []) [] [0,2,4,10,11] (λI=>f4 58 [.os 0 0 (S.fE (fA M I.2.2)),sI m,.fn 300 [],sI I.1,sI I.2.1] [aR 76 (fA M I.2.2)]) U ?_;intro C k2 I t U e J;subst J;unfold mY at U;cbv;refine mP ?_ ?_
 intro U;cbv;refine mP ?_ ?_
 intro U;cbv;refine uF O U (cZ hM) ah ah rfl rfl rfl rfl ?_;intro y4 J U;have q:=And.intro q (nT UK J).symm;cbv;exact uj
 intro U;cbv;refine uF O U (cZ hM) ah ah rfl rfl rfl rfl ?_;intro y5 J U;have q:=And.intro q (nT UK J).symm;cbv;exact uj
 intro U;cbv;refine uF O U (cZ hM) ah ah rfl rfl rfl rfl ?_;intro y6 J U;have q:=And.intro q (nT UK J).symm;cbv;cases U;exact hR _ _ _ ah ah rfl
instance c422 {l}{needs}{i}:CC M 422 (Jn l needs i) [.sl 1 (mI M l) false,.sl 1 (M.m (List Bool) (eL M 1 eB) needs) false,sI i] (λr=>.sl 1 (mI M r) false):=by
 have:=lo 3 [0,1,2,7,8] (λ_ (s:Int×(List Int))=>up [(7,.os 0 0 (M.n Int s.2)),(8,sI s.1)] [(0,(aR 1 (mI M s.2)))]) [.tO 7 1];have:=ct 9 [0,1,2,7,8] (λ_ s=>up [(7,.os 0 0 (M.n Int s))] [(0,(aR 1 (mI M s)))]) [.tO 7 1];have:=lo 8 [0,1,7,9] (λ_ (s:Int×(List Int))=>up [(7,.os 0 0 (M.n Int s.2)),(9,sI s.1)] [(0,(aR 1 (mI M s.2)))]);have:=lo 11 [0,1,7,9,10] (λ_ (s:Int×(List Int))=>up [(7,.os 0 0 (M.n Int s.2)),(10,sI s.1)] [(0,(aR 1 (mI M s.2)))]);have:=ct 25 [0,1,7,9,10] (λ_ s=>up [(7,.os 0 0 (M.n Int s))] [(0,(aR 1 (mI M s)))]);have:=ct 26 [0,1,7,9,10,61] (λ_ s=>jf [(61,.sb s)]);exact wA (fZ [9,25,26]) func422 call422
instance c277 {f}{stage}:CC M 277 (Pg f stage) [.agg (wJ M f),sI stage] (λr=>.sb r):=by
 have:=lo 2 [1,2,5] (λ_ s=>jf [(5,sI s)]);have:=ct 8 [1,2,5,30] (λ_ s=>jf [(30,.sb s)]);exact wA (fZ [8]) func277 call277
instance anX {s}{w1:Int}:CC M 226 (oN s (λa0=>uS a0 w1)) [.sl 1 (mI M s) false,.fn 250 [.pp [sI w1]]] (λr=>sI r):=by
 have:=lo 2 [0,1,7,8] (λ_ s=>jf [(8,sI s)]);exact wA fG func226 call226
instance c234 {s}{iL}{lI}:CC M 234 (Sm s iL lI) [.agg (fM M s),sI iL,sI lI] (λr=>.sl 1 (mI M r) false):=by
 have:=ct 12 [1,2,3,26] (λ_ s=>jf [(26,.sb s)]);exact wA (fZ [12]) func234 call234
instance c455 {i}{j}{c2}{c3}:CC M 455 (tq i j c2 c3) [sI i,sI j,.pp [.sl 1 (mI M c2) false],.pp [.sl 1 (M.m (List Bool) (eL M 1 eB) c3) false]] (λr=>.sb r):=by
 exact wA fG func455 call455
instance c117 {a}{b}:CC M 117 (BR a b) [.agg (vw M a),.agg (vw M b)] (λr=>.sb r):=by
 have:=ct 2 [2,3,44] (λ_ s=>jf [(44,.sb s)]);exact wA (fZ [2]) func117 call117
instance anY {s}{n}:CC M 489 (EY s n vN) [.str s,sI n,.fn 490 []] (λr=>sI r):=by
 have:=lo 2 [0,2,8,9] (λ_ s=>jf [(9,sI s)]);exact wA fG func489 call489
instance c180 {f}{stage}:CC M 180 (Jm f stage) [.agg (wJ M f),sI stage] (λr=>.sb r):=by
 have:=lo 2 [1,2,5] (λ_ s=>jf [(5,sI s)]);exact wA fG func180 call180
instance anZ {s}{n}:CC M 489 (EY s n xy) [.str s,sI n,.fn 491 []] (λr=>sI r):=by
 have:=lo 2 [0,2,8,9] (λ_ s=>jf [(9,sI s)]);exact wA fG func489 call489
instance c271 {w}{i}:CC M 271 (uJ w i) [.agg (jG M w),sI i] (λr=>.sb r):=by
 have:=ct 2 [1,2,18] (λ_ s=>jf [(18,.sb s)]);exact wA (fZ [2]) func271 call271
instance c274 {w}{i}:CC M 274 (Ep w i) [.agg (jG M w),sI i] (λr=>sI r):=by
 have:=ct 4 [1,2,5,24] (λ_ s=>jf [(24,.sb s)]);exact wA (fZ [4]) func274 call274
instance c378 {op}{field}:CC M 378 (yx op field) [sI op,.si .u8 field] (λr=>.sb r):=by
 have:=lo 3 [1,5,6] (λ_ s=>jf [(6,sI s)]);exact wA fG func378 call378
instance c104 {s}{v}:CC M 104 (pU s v) [pX M s,.agg (uk M v)] (λr=>.sb r):=by
 exact wA fG func104 call104
instance c334 {a}{b}:CC M 334 (uU a b) [.agg (nR M a),.agg (nR M b)] (λr=>.sb r):=by
 exact wA fG func334 call334
end Go.Proofs.YtchmoabpofnbaaaGreat
