import Derived.Test.YtchmoabpofnbaaaGreatC40
import Derived.Test.YtchmoabpofnbaaaGreatC41
import Derived.Test.YtchmoabpofnbaaaGreatC42
set_option linter.all false
namespace Go.Proofs.YtchmoabpofnbaaaGreat
open Go Go.Pv
set_option maxRecDepth 100000
set_option maxHeartbeats 20000000
variable [GM]
attribute [local irreducible] bnd br jn qE gK jv lJ jl rD uo divO kT jL kN kP lI lS lM
variable {M:iG}[HM M]
theorem afy {M:iG}(hM:M=kX):∀ (n:Nat) {data:List gq} {a:Int} {m:Int} {b:Int} {r:List gq} (O:jh n data a m b oJ=some r),Pv.FnS Tryz.prog glF 442 [.os 0 0 (M.n gq data),sI a,sI m,sI b,.fn 300 []] [(0,(aR 76 (gQ M data)))] 1 (λuu ss nn=>uu=.DJ []/\ss=[(0,(aR 76 (gQ M r)))]/\nn=1):=by
 haveI:HM M:=⟨hM⟩
 intro n
 induction n with
 | zero=>intro data a m b r O;cases O
 | succ n ih=>
  intro data a m b r O;refine AQ (T:=(GY 1 [65,78,82,83,87] [])) (iV 1 [65,78,82,83,87] []) wf Tryz.func442 rfl Tryz.call442 rfl ?_;intro S R hS hR;have q:=sf hM hS;unfold jh nI at O;cbv;refine nZ ?_ ?_
  intro O;cbv;refine d_L (iV 1 [65,78,82,83,87] []) [] [0,1,4,10,11] (λs1=>f4 220 [.os 0 0 (S.gZ (gQ M data)),sI a,.fn 300 [],sI s1.1,sI s1.2] [aR 76 (gQ M data)]) O ?_;intro Ik2 k2 s1 hk2 O e I;subst I;unfold mX at O;cbv;refine nZ ?_ ?_
  intro O;cbv;refine W9 hS O lC rfl ?_;intro x4 O;cbv;refine EF hS ?_;cbv;refine mG hS O lC lC ?_;intro j5 _ O;cbv;refine jW hS hM O rfl lC ?_;intro x6 O;cbv;refine mG hS O lC rfl ?_;intro j7 _ O;cbv;refine jW hS hM O rfl lC ?_;intro x8 O;cbv;refine Je hS O (cI hM) ?_;intro y9 O;cbv;refine nZ ?_ ?_<;>exact vF
  intro O;cbv;refine d_L (iV 1 [65,78,82,83,87] []) [] [0,10,13] (λs10=>f4 220 [.os 0 0 (S.gZ (gQ M s10.2)),sI s1.1,sI s10.1] [aR 76 (gQ M s10.2)]) O ?_;intro Ik11 k11 s10 hk11 O e I;subst I;unfold mW at O;cbv;refine nZ ?_ ?_
  intro O;cbv;refine EF hS ?_;cbv;refine mG hS O lC lC ?_;intro j13 _ O;cbv;refine jW hS hM O rfl lC ?_;intro x14 O;cbv;refine mG hS O lC rfl ?_;intro j15 _ O;cbv;refine jW hS hM O rfl lC ?_;intro x16 O;cbv;refine mG hS O lC rfl ?_;intro j17 _ O;cbv;refine jW hS hM O rfl lC ?_;intro x18 O;cbv;refine mG hS O lC lC ?_;intro j19 _ O;cbv;refine jW hS hM (e:=(jX M)) O lC lC ?_;exact xZ
  intro O;cbv;cases O;exact hR _ _ _ aj aj rfl
  intro O;cbv;refine nZ ?_ ?_
  intro O;cbv;refine d_L (iV 1 [65,78,82,83,87] []) [] [0,2,4,14,15] (λs21=>f4 220 [.os 0 0 (S.gZ (gQ M data)),sI m,.fn 300 [],sI s21.1,sI s21.2] [aR 76 (gQ M data)]) O ?_;intro Ik22 k22 s21 hk22 O e I;subst I;unfold mZ at O;cbv;refine nZ ?_ ?_
  intro O;cbv;refine W9 hS O lC rfl ?_;intro x24 O;cbv;refine EF hS ?_;cbv;refine mG hS O lC rfl ?_;intro j25 _ O;cbv;refine jW hS hM O rfl lC ?_;intro x26 O;cbv;refine mG hS O lC lC ?_;intro j27 _ O;cbv;refine jW hS hM O rfl lC ?_;intro x28 O;cbv;refine Je hS O (cI hM) ?_;intro y29 O;cbv;refine nZ ?_ ?_<;>exact vF
  intro O;cbv;refine d_L (iV 1 [65,78,82,83,87] []) [] [0,14,17] (λs30=>f4 220 [.os 0 0 (S.gZ (gQ M s30.2)),sI s21.1,sI s30.1] [aR 76 (gQ M s30.2)]) O ?_;intro Ik31 k31 s30 hk31 O e I;subst I;unfold mY at O;cbv;refine nZ ?_ ?_
  intro O;cbv;refine EF hS ?_;cbv;refine mG hS O lC lC ?_;intro j33 _ O;cbv;refine jW hS hM O rfl lC ?_;intro x34 O;cbv;refine mG hS O lC rfl ?_;intro j35 _ O;cbv;refine jW hS hM O rfl lC ?_;intro x36 O;cbv;refine mG hS O lC rfl ?_;intro j37 _ O;cbv;refine jW hS hM O rfl lC ?_;intro x38 O;cbv;refine mG hS O lC lC ?_;intro j39 _ O;cbv;refine jW hS hM (e:=(jX M)) O lC lC ?_;exact xZ
  intro O;cbv;cases O;exact hR _ _ _ aj aj rfl
  intro O;cbv;refine W9 hS O lC rfl ?_;intro U O;cbv;refine DR [] [0,1,2,3,4,18,19,20,21] (λs42=>f4 220 [.os 0 0 (S.gZ (gQ M data)),sI a,sI m,sI b,.fn 300 [],sI (S.conv .i64 U),sI (S.bin .add .i64 (S.conv .i64 U) m),sI s42.1,sI s42.2] [aR 76 (gQ M data)]) O ?_ ?_
  intro Ik43 k43 hk43 O;cbv;refine nZ ?_ ?_<;>exact vF
  intro s42 O;cbv;refine d_L (iV 1 [65,78,82,83,87] []) [] [0,1,2,3,4,18,19,20,21,22] (λJ=>f4 220 [.os 0 0 (S.gZ (gQ M data)),sI a,sI m,sI b,.fn 300 [],sI (S.conv .i64 U),sI (S.bin .add .i64 (S.conv .i64 U) m),sI J.1,sI J.2,sI (S.bin .sub .i64 (S.bin .add .i64 (S.conv .i64 U) m) 1)] [aR 76 (gQ M data)]) O ?_;intro Ik46 k46 J hk46 O e I;subst I;unfold ng at O;cbv;refine nZ ?_ ?_
  intro O;cbv;refine W9 hS O lC rfl ?_;intro x48 O;cbv;refine EF hS ?_;cbv;replace O:=adq O;obtain⟨v49,C,ev49⟩:∃ z:Int,(S.bin .sub .i64 (S.bin .sub .i64 (S.bin .add .i64 (S.conv .i64 U) m) 1) (S.conv .i64 x48))=z/\(qI (qI (iq (IntKind.wrap .i64 U) m) 1) (IntKind.wrap .i64 x48))=z:=⟨_,rfl,lC⟩
  (try rw[C]);(try (conv at C=>(lhs;cbv)));(try rw[C]);(try rw[ev49] at O);clear C ev49
  refine mG hS O lC rfl ?_;intro j50 _ O;cbv;refine jW hS hM O rfl lC ?_;intro x51 O;cbv;refine mG hS O lC lC ?_;intro j52 _ O;cbv;refine jW hS hM O rfl lC ?_;intro x53 O;cbv;refine Je hS O (cI hM) ?_;intro y54 O;cbv;refine nZ ?_ ?_<;>exact vF
  intro O;cbv;refine DR [] [0,1,3,4,18,20,24] (λg=>f4 220 [.os 0 0 (S.gZ (gQ M g)),sI a,sI b,.fn 300 [],sI (S.conv .i64 U),sI J.1,sI (S.bin .sub .i64 (S.bin .add .i64 (S.conv .i64 U) m) J.1)] [aR 76 (gQ M g)]) O ?_ ?_
  intro Ik56 k56 hk56 O;cbv;refine DR [] [0,1,2,3,4,18,20,24,185] (λs58=>f4 220 [.os 0 0 (S.gZ (gQ M data)),sI a,sI m,sI b,.fn 300 [],sI (S.conv .i64 U),sI J.1,sI (S.bin .sub .i64 (S.bin .add .i64 (S.conv .i64 U) m) J.1),.sb s58] [aR 76 (gQ M data)]) O ?_ ?_
  intro Ik59 k59 hk59 O;cbv;refine nZ ?_ ?_<;>exact vF
  intro s58 O;cbv;refine vP ?_ ?_
  intro O;cbv;refine wG hS O (λ_=>aik hM) aj aj rfl rfl rfl rfl ?_;intro y61 I O;have q:=And.intro q (pY afv I).symm;cbv;exact vw
  exact vF
  intro g O;cbv;refine DR [] [0,3,4,18,24] (λs62=>f4 220 [.os 0 0 (S.gZ (gQ M s62)),sI b,.fn 300 [],sI (S.conv .i64 U),sI (S.bin .sub .i64 (S.bin .add .i64 (S.conv .i64 U) m) J.1)] [aR 76 (gQ M s62)]) O ?_ ?_
  intro Ik63 k63 hk63 O;cbv;refine DR [] [0,1,3,4,18,20,24,199] (λs65=>f4 220 [.os 0 0 (S.gZ (gQ M g)),sI a,sI b,.fn 300 [],sI (S.conv .i64 U),sI J.1,sI (S.bin .sub .i64 (S.bin .add .i64 (S.conv .i64 U) m) J.1),.sb s65] [aR 76 (gQ M g)]) O ?_ ?_
  intro Ik66 k66 hk66 O;cbv;refine nZ ?_ ?_<;>exact vF
  intro s65 O;cbv;refine vP ?_ ?_
  intro O;cbv;refine wG hS O (λ_ h=>ih h) aj aj rfl rfl rfl rfl ?_;intro y68 I O;have q:=And.intro q (pY (YG _) I).symm;cbv;exact vw
  exact vF
  intro s62 O;cbv;replace O:=adq O;refine nZ ?_ ?_
  intro O;cbv;refine nZ ?_ ?_
  intro O;cbv;refine wG hS O (λ_ h=>ih h) aj aj rfl rfl rfl rfl ?_;intro y70 I O;have q:=And.intro q (pY (YG _) I).symm;cbv;cases O;exact hR _ _ _ aj aj rfl
  intro O;cbv;cases O;exact hR _ _ _ aj aj rfl
  intro O;cbv;cases O;exact hR _ _ _ aj aj rfl
theorem afz {M:iG}(hM:M=kX){data:List gq}{a:Int}{m:Int}{b:Int}{r:List gq}(O:l7 data a m b oJ=some r):Pv.FnS Tryz.prog glF 442 [.os 0 0 (M.n gq data),sI a,sI m,sI b,.fn 300 []] [(0,(aR 76 (gQ M data)))] 1 (λU ss nn=>U=.DJ []/\ss=[(0,(aR 76 (gQ M r)))]/\nn=1):=afy hM 70 O
instance ajW {w}:CZ M 245 (tY w) [.lv 0 0] [(0,(vR (iI M w.s++[iy M w.forces,.os 1 0 (M.n gG w.iE),.os 2 0 (M.n Bool w.dropped),.os 3 0 (M.n Bool w.done),.os 4 0 (M.n (List Int) w.hits)]))),(1,(aR 17 (iD M w.iE))),(2,(aR 1 (M.m Bool eB w.dropped))),(3,(aR 1 (M.m Bool eB w.done))),(4,(aR 1 (M.m (List Int) (eL M 1 (eI .i64)) w.hits)))] 5 (λ_=>.DJ []) (λr=>[(0,(vR (iI M r.s++[iy M r.forces,.os 1 0 (M.n gG r.iE),.os 2 0 (M.n Bool r.dropped),.os 3 0 (M.n Bool r.done),.os 4 0 (M.n (List Int) r.hits)]))),(1,(aR 17 (iD M r.iE))),(2,(aR 1 (M.m Bool eB r.dropped))),(3,(aR 1 (M.m Bool eB r.done))),(4,(aR 1 (M.m (List Int) (eL M 1 (eI .i64)) r.hits)))]) 5:=by
 have:=lo 1 [0,10,11,12] (λ_ (s:Int×(List gG))=>up [(12,sI s.1)] [(0,(vR (iI M w.s++[iy M w.forces,.os 1 0 (M.n gG s.2),.os 2 0 (M.n Bool w.dropped),.os 3 0 (M.n Bool w.done),.os 4 0 (M.n (List Int) w.hits)]))),(1,(aR 17 (iD M s.2)))]);have:=ct 15 [0,10,11,12] (λ_ s=>up [] [(0,(vR (iI M w.s++[iy M w.forces,.os 1 0 (M.n gG s),.os 2 0 (M.n Bool w.dropped),.os 3 0 (M.n Bool w.done),.os 4 0 (M.n (List Int) w.hits)]))),(1,(aR 17 (iD M s)))]);have:=ct 8 [0,3,4,10,11,12,34] (λ_ s=>jO [(34,.sb s)]);exact wC (iV 5 [8,15] []) Tryz.func245 Tryz.call245 []
end Go.Proofs.YtchmoabpofnbaaaGreat
