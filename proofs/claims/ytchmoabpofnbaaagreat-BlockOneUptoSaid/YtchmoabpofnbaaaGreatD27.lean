import Derived.Test.YtchmoabpofnbaaaGreatD12
import Derived.Test.YtchmoabpofnbaaaGreatD13
import Derived.Test.YtchmoabpofnbaaaGreatD14
import Derived.Test.YtchmoabpofnbaaaGreatD16
set_option linter.all false
namespace Go.Proofs.YtchmoabpofnbaaaGreat
open Go Go.Pv
set_option maxRecDepth 100000
set_option maxHeartbeats 20000000
variable [GM]
attribute [local irreducible] bnd br jn pI eH iI kD gW qx sG divO jU jc jM jD jR kK kE
variable {M:gm}[HM M]
instance c415 {t}:CC M 415 (D7 t) [.agg (jd M t)] (λr=>.agg (jd M r)):=by
 have hM:=HM.h (M:=M);refine⟨λr U=>?_⟩;refine EN (LW 0 [12,27] 0 [] [(220,2)]) Tryz.func415 Tryz.call415 ?_;intro S R O hR q;unfold D7 at U;cbv;refine jC O U (cZ hM) (le_eq rfl) ?_;intro y1 U;cbv;refine jC O U (cZ hM) (le_eq rfl) ?_;intro y2 U;cbv;refine Ji (LW 0 [12,27] 0 [] [(220,2)]) [] [1,2,18,19] (λs3=>f4 77 [.lv 0 0,.lv 3 0,sI (S.xQ (M.n gz y2)),sI s3.1] [vR ([.str t.name]++(rD M t.cost++[sI t.gZ,sI t.line.KO,sI t.line.types,.os 1 0 (S.fE (M.m ByteArray eS y1)),sI t.power,sI t.gK,sI t.keys,.os 2 0 (S.fE (qC M s3.2)),sI t.control])),aR 1 (M.m ByteArray eS y1),aR 72 (qC M s3.2),vR [.str (bs []),sI 0,sI 0,sI 0,sI 0,sI 0,sI 0,sI 0,sI 0,sI 0,sI 0,.sl 0 [] true,sI 0,sI 0,sI 0,.sl 0 [] true,sI 0]]) U ?_;intro Ik4 k4 s3 hk4 U e he;subst he;unfold EH at U;cbv;refine mP ?_ ?_
 intro U;cbv;refine ahz O [.cl 2] ?_;cbv;refine ahz O [.op 4] ?_;cbv;refine lh O U jW rfl ?_;intro j6 _ U;cbv;refine jv O hM U rfl jW ?_;intro x7 U;cbv;refine Fa O ?_;cbv;refine zt O rfl ?_;cbv;refine Kq O U (cI hM) ?_;intro y8 U;cbv;refine zt O rfl ?_;cbv;refine Kq O U (cI hM) ?_;intro y9 U;cbv;refine zt O rfl ?_;cbv;refine VP O U (cZ hM) ah ah rfl rfl ?_;intro y10 U;cbv;refine zt O rfl ?_;cbv;refine zt O rfl ?_;cbv;refine zt O rfl ?_;cbv;refine zt O rfl ?_;cbv;refine Ji (LW 0 [12,27] 0 [] [(220,2)]) [] [1,2,4,18,19,54,55] (λs11=>f4 77 [.lv 0 0,.lv 4 0,.lp 2 (S.FY 0 j6) 0,sI (S.xQ (M.n gz y2)),sI s3.1,sI (S.xQ (M.n iK y10)),sI s11.1] [vR ([.str t.name]++(rD M t.cost++[sI t.gZ,sI t.line.KO,sI t.line.types,.os 1 0 (S.fE (M.m ByteArray eS y1)),sI t.power,sI t.gK,sI t.keys,.os 2 0 (S.fE (qC M s3.2)),sI t.control])),aR 1 (M.m ByteArray eS y1),some (.nor 72 (qC M s3.2) (S.FY 0 j6) ((([sI x7.kind]++(jm M x7.filter++([OH M y8]++(BP M x7.price++[.sb x7.slow]))))++(qf M x7.gI++[.sb x7.may,Vk M y9,.os 3 0 (S.fE (xP M s11.2))]))++(qR M x7.replace))),aR 64 (xP M s11.2),vR [.str (bs []),sI 0,sI 0,sI 0,sI 0,sI 0,sI 0,sI 0,sI 0,sI 0,sI 0,.sl 0 [] true,sI 0,sI 0,sI 0,.sl 0 [] true,sI 0]]) U ?_;intro Ik12 k12 s11 hk12 U e he;subst he;unfold EG at U;cbv;refine mP ?_ ?_
 intro U;cbv;refine Fa O ?_;cbv;refine zt O rfl ?_;cbv;refine zt O rfl ?_;cbv;refine lh O U jW rfl ?_;intro j14 _ U;cbv;refine jv O hM U rfl jW ?_;intro x15 U;cbv;refine Kq O U (cI hM) ?_;intro y16 U;cbv;refine lh O U jW rfl ?_;intro j17 _ U;cbv;refine jv O hM U rfl jW ?_;exact yX
 exact tY
 exact d_R
instance c488 {s}:CC M 488 (MS s) [.str s] (λr=>.sb r):=by
 have hM:=HM.h (M:=M);refine⟨λr U=>?_⟩;refine EN (fZ [2,12]) Tryz.func488 Tryz.call488 ?_;intro S R O hR q;unfold MS at U;cbv;refine DJ [] [0,34] (λs1=>f4 61 [.str s,.sb s1] []) U ?_ ?_
 intro Ik2 k2 hk2 U;cbv;refine mP ?_ ?_
 exact tY
 intro U;cbv;refine mP ?_ ?_
 exact tY
 intro U;cbv;refine aeU O U rfl rfl ?_;intro x4 U;cbv;refine mP ?_ ?_
 exact tY
 intro U;cbv;refine aeU O U rfl rfl ?_;intro x5 U;cbv;refine mP ?_ ?_
 exact tY
 intro U;cbv;refine aeU O U rfl jW ?_;intro x6 U;cbv;refine mP ?_ ?_
 exact tY
 intro U;cbv;refine wo O U (cI hM) ?_;exact yX
 intro s1 U;cbv;refine xH ?_ ?_
 exact d_R
 intro U;cbv;refine amI O hM U ⟨5,by kernel_rfl,by kernel_rfl⟩ rfl ?_;intro x8 U;cbv;refine Ji (fZ [2,12]) [] [36,37,38] (λs9=>f4 61 [.sl 1 (M.m Int (eI .u8) x8) false,sI (S.len (M.m Int (eI .u8) x8)),sI s9] []) U ?_;intro Ik10 k10 s9 hk10 U e he;subst he;unfold II at U;cbv;refine mP ?_ ?_
 intro U;cbv;refine Kr ?_;intro x12 U;cbv;refine DJ [] [36,37,38,59] (λs13=>f4 61 [.sl 1 (M.m Int (eI .u8) x8) false,sI (S.len (M.m Int (eI .u8) x8)),sI s9,.sb s13] []) U ?_ ?_
 intro Ik14 k14 hk14 U;cbv;refine mP ?_ ?_
 intro U;cbv;refine mP ?_ ?_
 exact tY
 intro U;cbv;refine mP ?_ ?_<;>exact tY
 intro U;cbv;refine mP ?_ ?_
 intro U;cbv;refine mP ?_ ?_
 exact tY
 intro U;cbv;refine mP ?_ ?_<;>exact tY
 exact tY
 intro s13 U;cbv;refine xH ?_ ?_
 exact d_R
 exact tY
 exact d_R
instance anQ {w}{i}{stage}:CZ M 332 (lU w i stage) [.lv 0 0,sI i,sI stage] [(0,(vR (gG M w.s++[fU M w.forces,.os 1 0 (M.n eF w.eG),.os 2 0 (M.n Bool w.dropped),.os 3 0 (M.n Bool w.done),.os 4 0 (M.n (List Int) w.hits)]))),(1,(aR 17 (fQ M w.eG))),(2,(aR 1 (M.m Bool eB w.dropped))),(3,(aR 1 (M.m Bool eB w.done))),(4,(aR 1 (M.m (List Int) (eL M 1 (eI .i64)) w.hits)))] 5 (λr=>.sb r) (λ_=>[(0,(vR (gG M w.s++[fU M w.forces,.os 1 0 (M.n eF w.eG),.os 2 0 (M.n Bool w.dropped),.os 3 0 (M.n Bool w.done),.os 4 0 (M.n (List Int) w.hits)]))),(1,(aR 17 (fQ M w.eG))),(2,(aR 1 (M.m Bool eB w.dropped))),(3,(aR 1 (M.m Bool eB w.done))),(4,(aR 1 (M.m (List Int) (eL M 1 (eI .i64)) w.hits)))]) 5:=by
 have:=lo 3 [0,1,2,7,18,19,20] (λ_ s=>jf [(20,sI s)]);have:=ct 10 [0,1,2,7,18,19,20,39] (λ_ s=>jf [(39,.sb s)]);exact wC (gJ 5 [10] []) Tryz.func332 Tryz.call332 []
end Go.Proofs.YtchmoabpofnbaaaGreat
namespace Go.Proofs.YtchmoabpofnbaaaGreat
open Go Go.Pv Proofs.Tryz
set_option maxRecDepth 100000
set_option maxHeartbeats 20000000
variable [GM]
attribute [local irreducible] bnd br jn pI eH iI kD gW qx sG divO jU jc jM jD jR kK kE
variable {M:gm}[HM M]
instance o15 {answers}:CZ M 15 (O7 answers) [.sl 1 (M.m (List Int) (eL M 1 (eI .i64)) answers) false] [] 0 (λ_=>.lv 0 0) (λr=>[(0,(vR ([.os 1 0 (M.n (List Int) r.answers),sI r.used]++(jQ M r.pending++[.sb r.waits,.sb r.bad])))),(1,(aR 1 (M.m (List Int) (eL M 1 (eI .i64)) r.answers)))]) 2:=by
 have:=lo 3 [3,8,9,10] (λ_ (s:Int×(List (List Int)))=>up [(10,sI s.1)] [(0,(vR [.os 1 0 (M.n (List Int) s.2),sI 0,sI 0,sI 0,sI 0,sI 0,sI 0,sI 0,.sl 0 [] true,.sb false,.sb false])),(1,(aR 1 (M.m (List Int) (eL M 1 (eI .i64)) s.2)))]) [.cO 0 0 1];exact wZ (gJ 0 [] []) func15 call15
instance c419 {left}:CC M 419 (Gq left) [.sl 1 (mI M left) false] (λr=>.sl 1 (mI M r) false):=by
 have:=lo 3 [0,3,4] (λ_ (s:Int×(List Int))=>up [(3,.os 0 0 (M.n Int s.2)),(4,sI s.1)] [(0,(aR 1 (mI M s.2)))]) [.tO 3 1];have:=ct 9 [0,3,4] (λ_ s=>up [(3,.os 0 0 (M.n Int s))] [(0,(aR 1 (mI M s)))]) [.tO 3 1];have:=ct 10 [0,3,4,24] (λ_ s=>jf [(24,.sb s)]);exact wA (fZ [9,10]) func419 call419
instance c385 {l}{mask}{pby}:CC M 385 (ML l mask pby) [.sl 1 (M.m ByteArray eS l) false,sI mask,.str pby] (λr=>.str r):=by
 have:=lo 3 [0,1,2,7,8] (λ_ (s:ByteArray×Int)=>jf [(7,.str s.1),(8,sI s.2)]);have:=ct 9 [0,1,2,7,8] (λ_ s=>jf [(7,.str s)]);have:=ct 17 [0,1,2,7,8] (λ_ s=>jf [(7,.str s)]);exact wA (fZ [9,17]) func385 call385
instance c162 {o}{cards}{fV}:CC M 162 (aas o cards fV) [.agg (jo M o),sI cards,sI fV] (λr=>.sb r):=by
 have:=ct 2 [1,2,3,52] (λ_ s=>jf [(52,.sb s)]);have:=ct 6 [1,2,3,90] (λ_ s=>jf [(90,.sb s)]);have:=ct 10 [3,116] (λ_ s=>jf [(116,.sb s)]);exact wA (fZ [2,6,10]) func162 call162
instance c113 {l}{c}:CC M 113 (Jy l c) [lQ M l,.agg (zy M c)] (λr=>.sb r):=by
 have:=lo 2 [0,3,5] (λ_ s=>jf [(5,sI s)]);have:=lo 5 [0,3,5,6] (λ_ s=>jf [(6,sI s)]);have:=ct 16 [0,3,5,6,44] (λ_ s=>jf [(44,.sb s)]);exact wA (fZ [16]) func113 call113
instance c190 {s}:CC M 190 (Oa s) [.str s] (λr=>.sb r):=by
 have:=ct 2 [0,25] (λ_ s=>jf [(25,.sb s)]);have:=lo 4 [0,3] (λ_ s=>jf [(3,sI s)]);have:=ct 12 [0,3,54] (λ_ s=>jf [(54,.sb s)]);have:=ct 16 [0,3,69] (λ_ s=>jf [(69,.sb s)]);exact wA (fZ [2,12,16]) func190 call190
instance c321 {mask}:CC M 321 (Oi mask) [sI mask] (λr=>.str r):=by
 have:=lo 7 [0,3,4] (λ_ (s:ByteArray×Int)=>jf [(3,.str s.1),(4,sI s.2)]);have:=ct 17 [0,3,4] (λ_ s=>jf [(3,.str s)]);have:=ct 25 [0,3,4] (λ_ s=>jf [(3,.str s)]);exact wA (fZ [14,17,25]) func321 call321
instance c297 {s}{all}{id}:CC M 297 (MW s all id) [.agg (fM M s),kH M all,sI id] (λr=>.sb r):=by
 have:=lo 2 [1,2,10,11,12] (λ_ s=>jf [(12,sI s)]);have:=ct 8 [1,2,7,10,11,12,26] (λ_ s=>jf [(26,.sb s)]);exact wA (fZ [8]) func297 call297
instance anR {s}{w1:kz}:CC M 175 (jb s (λa0=>CX a0 w1)) [oZ M s,.fn 483 [.pp (nY M w1)]] (λr=>sI r):=by
 have:=lo 2 [0,1,7,8] (λ_ s=>jf [(8,sI s)]);exact wA fG func175 call175
instance anS {s}{w1:kz}:CC M 175 (jb s (λa0=>CY a0 w1)) [oZ M s,.fn 484 [.pp (nY M w1)]] (λr=>sI r):=by
 have:=lo 2 [0,1,7,8] (λ_ s=>jf [(8,sI s)]);exact wA fG func175 call175
instance anT {s}{w1:fH}:CC M 185 (oM s (λa0=>Ey a0 w1)) [pX M s,.fn 189 [.pp (uk M w1)]] (λr=>sI r):=by
 have:=lo 2 [0,1,7,8] (λ_ s=>jf [(8,sI s)]);exact wA fG func185 call185
instance anU {s}{w1:Int}:CC M 175 (jb s (λa0=>IC a0 w1)) [oZ M s,.fn 431 [.pp [sI w1]]] (λr=>sI r):=by
 have:=lo 2 [0,1,7,8] (λ_ s=>jf [(8,sI s)]);exact wA fG func175 call175
instance anV {s}{w1:Int}:CC M 175 (jb s (λa0=>GG a0 w1)) [oZ M s,.fn 221 [.pp [sI w1]]] (λr=>sI r):=by
 have:=lo 2 [0,1,7,8] (λ_ s=>jf [(8,sI s)]);exact wA fG func175 call175
instance anW {s}{w1:ByteArray}:CC M 468 (mX s (λa0=>EI a0 w1)) [.sl 1 (M.m ByteArray eS s) false,.fn 469 [.pp [.str w1]]] (λr=>sI r):=by
 have:=lo 2 [0,1,7,8] (λ_ s=>jf [(8,sI s)]);exact wA fG func468 call468
instance c202 {s}{all}{pe}:CC M 202 (J3 s all pe) [.agg (fM M s),kH M all,.agg (jT M pe)] (λr=>sI r):=by
 have:=lo 4 [1,5,15,16,17] (λ_ s=>jf [(17,sI s)]);exact wA fG func202 call202
end Go.Proofs.YtchmoabpofnbaaaGreat
