import Derived.Test.YtchmoabpofnbaaaGreatC13
import Derived.Test.YtchmoabpofnbaaaGreatC14
import Derived.Test.YtchmoabpofnbaaaGreatC15
import Derived.Test.YtchmoabpofnbaaaGreatC16
set_option linter.all false
namespace Go.Proofs.YtchmoabpofnbaaaGreat
open Go Go.Pv
set_option maxRecDepth 100000
set_option maxHeartbeats 20000000
variable [GM]
attribute [local irreducible] bnd br jn qE gK jv lJ jl rD uo divO kT jL kN kP lI lS lM
variable {M:iG}[HM M]
theorem afx {M:iG}(hM:M=kX){yield:List gq}{c1:gB}{c2:List gG}{c3:Bool}{r:List gq}(O:pg yield c1 c2 c3=some r):Pv.FnY Tryz.prog glF 366 [.pp (iI M c1),.pp [lq M c2],.pp [.sb c3]] [(0,(vR [.os 1 0 (M.n gq yield)])),(1,(aR 76 (gQ M yield)))] 2 (YcW M) (λuu ss nn=>uu=.DJ []/\ss=[(0,(vR [.os 2 0 (M.n gq r)])),(1,none),(2,(aR 76 (gQ M r)))]/\nn=3):=by
 haveI:HM M:=⟨hM⟩
 refine ae3 (T:=(GY 2 [16,21,23] [])) (iV 2 [16,21,23] []) wf (Nat.succ_pos _) Tryz.func366 rfl Tryz.call366 rfl [.cR 0 0] ?_;intro l rc pv hyc S R hS hR;have q:=sf hM hS;unfold pg at O;cbv;refine d_L (jq.y (iV 2 [16,21,23] [])) [.cR 0 0] [0,2,3,11,12,13] (λC=>f4 56 [.yl l,.pp [lq M c2],.pp [.sb c3],oM M c1.objects,sI (S.len (kS M c1.objects)),sI C.1] [vR [.os 2 0 (S.gZ (gQ M C.2))],none,aR 76 (gQ M C.2)]) O ?_;intro Ik2 k2 C hk2 O e he;subst he;unfold rq at O;cbv;refine nZ ?_ ?_
 intro O;cbv;refine DR [.cR 0 0] [0,2,3,11,12,13] (λs4=>f4 56 [.yl l,.pp [lq M c2],.pp [.sb c3],oM M c1.objects,sI (S.len (kS M c1.objects)),sI C.1] [vR [.os 2 0 (S.gZ (gQ M s4))],none,aR 76 (gQ M s4)]) O ?_ ?_
 intro Ik5 k5 hk5 O;cbv;refine d_I ?_;intro x7 O;cbv;refine nZ ?_ ?_
 exact vF
 intro O;cbv;refine zn hS O (cI hM) ?_;intro J O;cbv;refine d_L (jq.y (iV 2 [16,21,23] [])) [.cR 0 0] [0,2,3,6,7,11,12,13,25,26,27] (λU=>f4 56 [.yl l,.pp [lq M c2],.pp [.sb c3],.lv 3 0,.lv 4 0,oM M c1.objects,sI (S.len (kS M c1.objects)),sI C.1,BJ M J.gU,sI (S.len (uk M J.gU)),sI U.2.1] [vR [.os 2 0 (S.gZ (gQ M U.2.2))],none,aR 76 (gQ M U.2.2),vR (jQ M U.1),vR (kU M J)]) O ?_;intro Ik10 k10 U hk10 O e he;subst he;unfold vg at O;cbv;refine nZ ?_ ?_
 intro O;cbv;refine DR [.cR 0 0] [0,2,3,6,7,11,12,13,25,26,27] (λI=>f4 56 [.yl l,.pp [lq M c2],.pp [.sb c3],.lv 3 0,.lv 4 0,oM M c1.objects,sI (S.len (kS M c1.objects)),sI C.1,BJ M J.gU,sI (S.len (uk M J.gU)),sI U.2.1] [vR [.os 2 0 (S.gZ (gQ M I.2))],none,aR 76 (gQ M I.2),vR (jQ M I.1),vR (kU M J)]) O ?_ ?_
 intro Ik13 k13 hk13 O;cbv;refine d_I ?_;intro x15 O;cbv;refine DR [] [0,2,3,6,7,8,9,11,12,13,25,26,27,42] (λg=>f4 56 [.yl l,.pp [lq M c2],.pp [.sb c3],.lv 3 0,.lv 4 0,sI U.2.1,.lv 5 0,oM M c1.objects,sI (S.len (kS M c1.objects)),sI C.1,BJ M J.gU,sI (S.len (uk M J.gU)),sI U.2.1,.sb g] [vR [.os 2 0 (S.gZ (gQ M U.2.2))],none,aR 76 (gQ M U.2.2),vR (jQ M U.1),vR (kU M J),vR (kC M x15)]) O ?_ ?_
 intro Ik17 k17 hk17 O;cbv;refine EF hS ?_;cbv;refine nZ ?_ ?_
 exact vF
 intro O;cbv;refine Je hS O (cI hM) ?_;exact xZ
 intro g O;cbv;refine vP ?_ ?_
 exact vF
 intro O;cbv;refine ai2 hS O rfl (λ_=>hyc _ _ _) ji ji rfl rfl rfl rfl rfl rfl rfl ?_;intro y20 O;cbv;refine nZ ?_ ?_
 exact fO
 exact vF
 intro I O;cbv;exact vw
 exact vF
 intro s4 O;cbv;exact vw
 intro O;cbv;cases O;exact hR _ _ _ ji ji rfl
instance c370 {a}:CC M 370 (rf a) [.agg (kC M a)] (λr=>.agg (kC M r)):=by
 have hM:=HM.h (M:=M);refine⟨λr O=>?_⟩;refine ES ig Tryz.func370 Tryz.call370 ?_;intro S R hS hR q;unfold rf at O;cbv;refine jM hS O (cZ hM) (le_eq rfl) ?_;intro y1 O;cbv;refine jM hS O (cZ hM) (le_eq rfl) ?_;intro y2 O;cbv;refine jM hS O (cZ hM) (le_eq rfl) ?_;intro y3 O;cbv;refine TF hS ig wf [] [1,2,18,19] (λs4=>f3 36 [(1,.lv 0 0),(2,.lv 4 0),(18,sI (S.yO (M.n jg y3))),(19,sI s4.1)] [vR ((([sI a.kind]++(jU M a.filter++([.os 1 0 (S.gZ (TJ M y1))]++(Dn M a.price++[.sb a.slow]))))++(qA M a.iK++[.sb a.may,.os 2 0 (S.gZ (mSpec M y2)),.os 3 0 (S.gZ (yz M s4.2))]))++(rY M a.replace)),aR 20 (TJ M y1),aR 18 (mSpec M y2),aR 64 (yz M s4.2),vR [sI 0,sI 0,sI 0,sI 0,sI 0,sI 0,sI 0,sI 0,.str (bs []),sI 0,sI 0,sI 0,sI 0,sI 0,sI 0,sI 0,sI 0,.sl 0 [] true,sI 0,sI 0,sI 0,sI 0,sI 0,sI 0,sI 0,.sb false,.sb false,sI 0,.sb false,sI 0,sI 0,sI 0,sI 0,sI 0,sI 0,sI 0,sI 0,sI 0,.str (bs []),sI 0,sI 0,sI 0,sI 0,sI 0,sI 0,sI 0,sI 0,.sb false,.sl 0 [] true,.sl 0 [] true,sI 0,sI 0,sI 0,sI 0,sI 0,sI 0,sI 0,sI 0,sI 0,.str (bs []),sI 0,sI 0,sI 0,sI 0,sI 0,sI 0,sI 0,sI 0,sI 0,sI 0,sI 0,sI 0]]) O ?_;intro Ik5 k5 s4 hk5 O e he;subst he;unfold ug at O;cbv;refine nZ ?_ ?_
 intro O;cbv;refine EF hS ?_;cbv;refine mG hS O lC rfl ?_;intro j7 _ O;cbv;refine jW hS hM O rfl lC ?_;intro x8 O;cbv;refine Je hS O (cI hM) ?_;intro y9 O;cbv;refine mG hS O lC rfl ?_;intro j10 _ O;cbv;refine jW hS hM O rfl lC ?_;exact xZ
 exact d_R
instance c399 {c}:CC M 399 (DX c) [.agg (rO M c)] (λr=>sI r):=by
 have hM:=HM.h (M:=M);refine⟨λr O=>?_⟩;refine ES (iO [2,10,12,19]) Tryz.func399 Tryz.call399 ?_;intro S R hS hR q;unfold DX at O;cbv;refine DR [] [1,14] (λs1=>f4 29 [.lv 0 0,.sb s1] [vR (rO M c)]) O ?_ ?_
 intro Ik2 k2 hk2 O;cbv;refine zn hS O (cI hM) ?_;intro y4 O;cbv;refine nZ ?_ ?_
 exact vF
 intro O;cbv;replace O:=adq O;exact vw
 intro s1 O;cbv;refine vP ?_ ?_
 exact d_R
 intro O;cbv;refine d_L (iO [2,10,12,19]) [] [3,16,17] (λs6=>f4 29 [sI s6.1,.agg [sI c.color.a0,sI c.color.a1,sI c.color.a2,sI c.color.a3,sI c.color.a4],sI s6.2] []) O ?_;intro Ik7 k7 s6 hk7 O e he;subst he;unfold Gp at O;cbv;refine oU hS ?_;cbv;refine nZ ?_ ?_
 intro O;cbv;refine DR [] [3,16,17] (λs9=>f4 29 [sI s9,.agg [sI c.color.a0,sI c.color.a1,sI c.color.a2,sI c.color.a3,sI c.color.a4],sI s6.2] []) O ?_ ?_
 intro Ik10 k10 hk10 O;cbv;refine DR [] [3,4,5,16,17] (λs12=>f4 29 [sI s6.1,sI s6.2,sI s12,.agg [sI c.color.a0,sI c.color.a1,sI c.color.a2,sI c.color.a3,sI c.color.a4],sI s6.2] []) O ?_ ?_
 intro Ik13 k13 hk13 O;cbv;obtain⟨j15,hj15,ej15,O⟩:=Ya O;refine aeX hS rfl ⟨j15,hj15,ej15,?_⟩;rcases lt5 hj15 with rfl|rfl|rfl|rfl|rfl
 cbv;exact vw
 cbv;exact vw
 cbv;exact vw
 cbv;exact vw
 cbv;exact vw
 intro s12 O;cbv;refine nZ ?_ ?_
 intro O;cbv;refine W9 hS O rfl rfl ?_;exact xZ
 exact vF
 intro s9 O;cbv;exact vw
 exact d_R
instance ajD {w}{i}{stage}:CZ M 332 (rP w i stage) [.lv 0 0,sI i,sI stage] [(0,(vR (iI M w.s++[iy M w.forces,.os 1 0 (M.n gG w.iE),.os 2 0 (M.n Bool w.dropped),.os 3 0 (M.n Bool w.done),.os 4 0 (M.n (List Int) w.hits)]))),(1,(aR 17 (iD M w.iE))),(2,(aR 1 (M.m Bool eB w.dropped))),(3,(aR 1 (M.m Bool eB w.done))),(4,(aR 1 (M.m (List Int) (eL M 1 (eI .i64)) w.hits)))] 5 (λr=>.sb r) (λ_=>[(0,(vR (iI M w.s++[iy M w.forces,.os 1 0 (M.n gG w.iE),.os 2 0 (M.n Bool w.dropped),.os 3 0 (M.n Bool w.done),.os 4 0 (M.n (List Int) w.hits)]))),(1,(aR 17 (iD M w.iE))),(2,(aR 1 (M.m Bool eB w.dropped))),(3,(aR 1 (M.m Bool eB w.done))),(4,(aR 1 (M.m (List Int) (eL M 1 (eI .i64)) w.hits)))]) 5:=by
 have:=lo 3 [0,1,2,7,18,19,20] (λ_ s=>jO [(20,sI s)]);have:=ct 10 [0,1,2,7,18,19,20,39] (λ_ s=>jO [(39,.sb s)]);exact wC (iV 5 [10] []) Tryz.func332 Tryz.call332 []
end Go.Proofs.YtchmoabpofnbaaaGreat
namespace Go.Proofs.YtchmoabpofnbaaaGreat
open Go Go.Pv Proofs.Tryz
set_option maxRecDepth 100000
set_option maxHeartbeats 20000000
variable [GM]
attribute [local irreducible] bnd br jn qE gK jv lJ jl rD uo divO kT jL kN kP lI lS lM
variable {M:iG}[HM M]
instance c101 {s}{o}{t}:CC M 101 (Ku s o t) [.agg (iF M s),.agg (jQ M o),.agg (kU M t)] (λr=>.sb r):=by
 have:=ct 2 [4,5,27] (λ_ s=>jO [(27,.sb s)]);have:=ct 6 [5,35] (λ_ s=>jO [(35,.sb s)]);exact wA (iO [2,6]) func101 call101
instance ajG {s}{w1:gX}:CC M 185 (nM s (λa0=>BG a0 w1)) [pF M s,.fn 103 [.pp (sJ M w1)]] (λr=>sI r):=by
 have:=lo 2 [0,1,7,8] (λ_ s=>jO [(8,sI s)]);exact wA ig func185 call185
instance ajH {s}{w1:Int}:CC M 175 (jK s (λa0=>Gm a0 w1)) [oM M s,.fn 431 [.pp [sI w1]]] (λr=>sI r):=by
 have:=lo 2 [0,1,7,8] (λ_ s=>jO [(8,sI s)]);exact wA ig func175 call175
instance ajI {s}{w1:Int}:CC M 185 (nM s (λa0=>BH a0 w1)) [pF M s,.fn 106 [.pp [sI w1]]] (λr=>sI r):=by
 have:=lo 2 [0,1,7,8] (λ_ s=>jO [(8,sI s)]);exact wA ig func185 call185
instance ajJ {s}{w1:Int}:CC M 175 (jK s (λa0=>Ko a0 w1)) [oM M s,.fn 221 [.pp [sI w1]]] (λr=>sI r):=by
 have:=lo 2 [0,1,7,8] (λ_ s=>jO [(8,sI s)]);exact wA ig func175 call175
instance ajK {s}{w1:ByteArray}:CC M 468 (qP s (λa0=>IK a0 w1)) [.sl 1 (M.m ByteArray eS s) false,.fn 469 [.pp [.str w1]]] (λr=>sI r):=by
 have:=lo 2 [0,1,7,8] (λ_ s=>jO [(8,sI s)]);exact wA ig func468 call468
instance ajL {s}{w1:Int}:CC M 175 (jK s (λa0=>Kv a0 w1)) [oM M s,.fn 176 [.pp [sI w1]]] (λr=>sI r):=by
 have:=lo 2 [0,1,7,8] (λ_ s=>jO [(8,sI s)]);exact wA ig func175 call175
instance c202 {s}{all}{pe}:CC M 202 (IJ s all pe) [.agg (iF M s),lq M all,.agg (jZ M pe)] (λr=>sI r):=by
 have:=lo 4 [1,5,15,16,17] (λ_ s=>jO [(17,sI s)]);exact wA ig func202 call202
instance ajM {s}{w1:Int}:CC M 226 (oW s (λa0=>uC a0 w1)) [.sl 1 (mI M s) false,.fn 250 [.pp [sI w1]]] (λr=>sI r):=by
 have:=lo 2 [0,1,7,8] (λ_ s=>jO [(8,sI s)]);exact wA ig func226 call226
instance c234 {s}{jE}{mV}:CC M 234 (Qg s jE mV) [.agg (iF M s),sI jE,sI mV] (λr=>.sl 1 (mI M r) false):=by
 have:=ct 12 [1,2,3,26] (λ_ s=>jO [(26,.sb s)]);exact wA (iO [12]) func234 call234
end Go.Proofs.YtchmoabpofnbaaaGreat
