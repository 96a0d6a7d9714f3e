import Derived.Test.YtchmoabpofnbaaaGreatW3a
import Derived.Test.YtchmoabpofnbaaaGreatW3c
import Derived.Test.YtchmoabpofnbaaaGreatW3g
set_option linter.all false
namespace Go.Proofs.YtchmoabpofnbaaaGreat
open Go Go.Pv
set_option maxRecDepth 100000
set_option maxHeartbeats 20000000
variable [GM]
attribute [local irreducible] bnd br jn qR ig jK lK jS rQ uY divO lu jR kY lD lU mg l9
variable {M:iO}[HM M]
theorem adU {M:iO}(hM:M=lC):∀ (n:Nat) {data:List gI} {a:Int} {m:Int} {b:Int} {r:List gI} (O:jo n data a m b oL=some r),Pv.FnS Tryz.prog glF 442 [.os 0 0 (M.n gI data),sI a,sI m,sI b,.fn 300 []] [(0,(aR 76 (gY M data)))] 1 (λuu ss nn=>uu=.EJ []/\ss=[(0,(aR 76 (gY M r)))]/\nn=1):=by
 haveI:HM M:=⟨hM⟩
 intro n
 induction n with
 | zero=>intro data a m b r O;cases O
 | succ n ih =>
  intro data a m b r O;refine BV (T:=(FY 1 [65,78,82,83,87] [])) (iZ 1 [65,78,82,83,87] []) wf Tryz.func442 rfl Tryz.call442 rfl ?_;intro S R hS hR;have q:=sf hM hS;unfold jo nJ at O;cbv;refine pW ?_ ?_
  intro O;cbv;refine d_L (iZ 1 [65,78,82,83,87] []) [] [0,1,4,10,11] (λs1=>f4 220 [.os 0 0 (S.iD (gY M data)),sI a,.fn 300 [],sI s1.1,sI s1.2] [aR 76 (gY M data)]) O ?_;intro Ik2 k2 s1 hk2 O e I;subst I;unfold mY at O;cbv;refine pW ?_ ?_
  intro O;cbv;refine Vx hS O mi rfl ?_;intro x4 O;cbv;refine Ii hS ?_;cbv;refine nZ hS O mi mi ?_;intro j5 _ O;cbv;refine kR hS hM O rfl mi ?_;intro x6 O;cbv;refine nZ hS O mi rfl ?_;intro j7 _ O;cbv;refine kR hS hM O rfl mi ?_;intro x8 O;cbv;refine d_c hS O (cI hM) ?_;intro y9 O;cbv;refine pW ?_ ?_<;>exact sV
  intro O;cbv;refine d_L (iZ 1 [65,78,82,83,87] []) [] [0,10,13] (λs10=>f4 220 [.os 0 0 (S.iD (gY M s10.2)),sI s1.1,sI s10.1] [aR 76 (gY M s10.2)]) O ?_;intro Ik11 k11 s10 hk11 O e I;subst I;unfold mX at O;cbv;refine pW ?_ ?_
  intro O;cbv;refine Ii hS ?_;cbv;refine nZ hS O mi mi ?_;intro j13 _ O;cbv;refine kR hS hM O rfl mi ?_;intro x14 O;cbv;refine nZ hS O mi rfl ?_;intro j15 _ O;cbv;refine kR hS hM O rfl mi ?_;intro x16 O;cbv;refine nZ hS O mi rfl ?_;intro j17 _ O;cbv;refine kR hS hM O rfl mi ?_;intro x18 O;cbv;refine nZ hS O mi mi ?_;intro j19 _ O;cbv;refine kR hS hM (e:=(jZ M)) O mi mi ?_;exact zK
  intro O;cbv;cases O;exact hR _ _ _ ak ak rfl
  intro O;cbv;refine pW ?_ ?_
  intro O;cbv;refine d_L (iZ 1 [65,78,82,83,87] []) [] [0,2,4,14,15] (λs21=>f4 220 [.os 0 0 (S.iD (gY M data)),sI m,.fn 300 [],sI s21.1,sI s21.2] [aR 76 (gY M data)]) O ?_;intro Ik22 k22 s21 hk22 O e I;subst I;unfold ng at O;cbv;refine pW ?_ ?_
  intro O;cbv;refine Vx hS O mi rfl ?_;intro x24 O;cbv;refine Ii hS ?_;cbv;refine nZ hS O mi rfl ?_;intro j25 _ O;cbv;refine kR hS hM O rfl mi ?_;intro x26 O;cbv;refine nZ hS O mi mi ?_;intro j27 _ O;cbv;refine kR hS hM O rfl mi ?_;intro x28 O;cbv;refine d_c hS O (cI hM) ?_;intro y29 O;cbv;refine pW ?_ ?_<;>exact sV
  intro O;cbv;refine d_L (iZ 1 [65,78,82,83,87] []) [] [0,14,17] (λs30=>f4 220 [.os 0 0 (S.iD (gY M s30.2)),sI s21.1,sI s30.1] [aR 76 (gY M s30.2)]) O ?_;intro Ik31 k31 s30 hk31 O e I;subst I;unfold mZ at O;cbv;refine pW ?_ ?_
  intro O;cbv;refine Ii hS ?_;cbv;refine nZ hS O mi mi ?_;intro j33 _ O;cbv;refine kR hS hM O rfl mi ?_;intro x34 O;cbv;refine nZ hS O mi rfl ?_;intro j35 _ O;cbv;refine kR hS hM O rfl mi ?_;intro x36 O;cbv;refine nZ hS O mi rfl ?_;intro j37 _ O;cbv;refine kR hS hM O rfl mi ?_;intro x38 O;cbv;refine nZ hS O mi mi ?_;intro j39 _ O;cbv;refine kR hS hM (e:=(jZ M)) O mi mi ?_;exact zK
  intro O;cbv;cases O;exact hR _ _ _ ak ak rfl
  intro O;cbv;refine Vx hS O mi rfl ?_;intro U O;cbv;refine Bd [] [0,1,2,3,4,18,19,20,21] (λs42=>f4 220 [.os 0 0 (S.iD (gY M data)),sI a,sI m,sI b,.fn 300 [],sI (S.conv .i64 U),sI (S.bin .add .i64 (S.conv .i64 U) m),sI s42.1,sI s42.2] [aR 76 (gY M data)]) O ?_ ?_
  intro Ik43 k43 hk43 O;cbv;refine pW ?_ ?_<;>exact sV
  intro s42 O;cbv;refine d_L (iZ 1 [65,78,82,83,87] []) [] [0,1,2,3,4,18,19,20,21,22] (λJ=>f4 220 [.os 0 0 (S.iD (gY M data)),sI a,sI m,sI b,.fn 300 [],sI (S.conv .i64 U),sI (S.bin .add .i64 (S.conv .i64 U) m),sI J.1,sI J.2,sI (S.bin .sub .i64 (S.bin .add .i64 (S.conv .i64 U) m) 1)] [aR 76 (gY M data)]) O ?_;intro Ik46 k46 J hk46 O e I;subst I;unfold ni at O;cbv;refine pW ?_ ?_
  intro O;cbv;refine Vx hS O mi rfl ?_;intro x48 O;cbv;refine Ii hS ?_;cbv;replace O:=YI O;obtain⟨v49,C,ev49⟩:∃ z:Int,(S.bin .sub .i64 (S.bin .sub .i64 (S.bin .add .i64 (S.conv .i64 U) m) 1) (S.conv .i64 x48))=z/\(pF (pF (iI (IntKind.wrap .i64 U) m) 1) (IntKind.wrap .i64 x48))=z:=⟨_,rfl,mi⟩
  (try rw[C]);(try (conv at C=>(lhs;cbv)));(try rw[C]);(try rw[ev49] at O);clear C ev49
  refine nZ hS O mi rfl ?_;intro j50 _ O;cbv;refine kR hS hM O rfl mi ?_;intro x51 O;cbv;refine nZ hS O mi mi ?_;intro j52 _ O;cbv;refine kR hS hM O rfl mi ?_;intro x53 O;cbv;refine d_c hS O (cI hM) ?_;intro y54 O;cbv;refine pW ?_ ?_<;>exact sV
  intro O;cbv;refine Bd [] [0,1,3,4,18,20,24] (λg=>f4 220 [.os 0 0 (S.iD (gY M g)),sI a,sI b,.fn 300 [],sI (S.conv .i64 U),sI J.1,sI (S.bin .sub .i64 (S.bin .add .i64 (S.conv .i64 U) m) J.1)] [aR 76 (gY M g)]) O ?_ ?_
  intro Ik56 k56 hk56 O;cbv;refine Bd [] [0,1,2,3,4,18,20,24,185] (λs58=>f4 220 [.os 0 0 (S.iD (gY M data)),sI a,sI m,sI b,.fn 300 [],sI (S.conv .i64 U),sI J.1,sI (S.bin .sub .i64 (S.bin .add .i64 (S.conv .i64 U) m) J.1),.sb s58] [aR 76 (gY M data)]) O ?_ ?_
  intro Ik59 k59 hk59 O;cbv;refine pW ?_ ?_<;>exact sV
  intro s58 O;cbv;refine vH ?_ ?_
  intro O;cbv;refine vY hS O (λ_=>agH hM) ak ak rfl rfl rfl rfl ?_;intro y61 I O;have q:=And.intro q (pU adR I).symm;cbv;exact uB
  exact sV
  intro g O;cbv;refine Bd [] [0,3,4,18,24] (λs62=>f4 220 [.os 0 0 (S.iD (gY M s62)),sI b,.fn 300 [],sI (S.conv .i64 U),sI (S.bin .sub .i64 (S.bin .add .i64 (S.conv .i64 U) m) J.1)] [aR 76 (gY M s62)]) O ?_ ?_
  intro Ik63 k63 hk63 O;cbv;refine Bd [] [0,1,3,4,18,20,24,199] (λs65=>f4 220 [.os 0 0 (S.iD (gY M g)),sI a,sI b,.fn 300 [],sI (S.conv .i64 U),sI J.1,sI (S.bin .sub .i64 (S.bin .add .i64 (S.conv .i64 U) m) J.1),.sb s65] [aR 76 (gY M g)]) O ?_ ?_
  intro Ik66 k66 hk66 O;cbv;refine pW ?_ ?_<;>exact sV
  intro s65 O;cbv;refine vH ?_ ?_
  intro O;cbv;refine vY hS O (λ_ h=>ih h) ak ak rfl rfl rfl rfl ?_;intro y68 I O;have q:=And.intro q (pU (Xr _) I).symm;cbv;exact uB
  exact sV
  intro s62 O;cbv;replace O:=YI O;refine pW ?_ ?_
  intro O;cbv;refine pW ?_ ?_
  intro O;cbv;refine vY hS O (λ_ h=>ih h) ak ak rfl rfl rfl rfl ?_;intro y70 I O;have q:=And.intro q (pU (Xr _) I).symm;cbv;cases O;exact hR _ _ _ ak ak rfl
  intro O;cbv;cases O;exact hR _ _ _ ak ak rfl
  intro O;cbv;cases O;exact hR _ _ _ ak ak rfl
theorem adV {M:iO}(hM:M=lC){data:List gI}{a:Int}{m:Int}{b:Int}{r:List gI}(O:lY data a m b oL=some r):Pv.FnS Tryz.prog glF 442 [.os 0 0 (M.n gI data),sI a,sI m,sI b,.fn 300 []] [(0,(aR 76 (gY M data)))] 1 (λU ss nn=>U=.EJ []/\ss=[(0,(aR 76 (gY M r)))]/\nn=1):=adU hM 70 O
end Go.Proofs.YtchmoabpofnbaaaGreat
namespace Go.Proofs.YtchmoabpofnbaaaGreat
open Go Go.Pv Proofs.Tryz
set_option maxRecDepth 100000
set_option maxHeartbeats 20000000
variable [GM]
attribute [local irreducible] bnd br jn qR ig jK lK jS rQ uY divO lu jR kY lD lU mg l9
variable {M:iO}[HM M]
instance aiE {w}:CZ M 245 (tC w) [.lv 0 0] [(0,(vR (iL M w.s++[iJ M w.forces,.os 1 0 (M.n gX w.iH),.os 2 0 (M.n Bool w.dropped),.os 3 0 (M.n Bool w.done),.os 4 0 (M.n (List Int) w.hits)]))),(1,(aR 17 (iK M w.iH))),(2,(aR 1 (M.m Bool eB w.dropped))),(3,(aR 1 (M.m Bool eB w.done))),(4,(aR 1 (M.m (List Int) (eL M 1 (eI .i64)) w.hits)))] 5 (λ_=>.EJ []) (λr=>[(0,(vR (iL M r.s++[iJ M r.forces,.os 1 0 (M.n gX r.iH),.os 2 0 (M.n Bool r.dropped),.os 3 0 (M.n Bool r.done),.os 4 0 (M.n (List Int) r.hits)]))),(1,(aR 17 (iK M r.iH))),(2,(aR 1 (M.m Bool eB r.dropped))),(3,(aR 1 (M.m Bool eB r.done))),(4,(aR 1 (M.m (List Int) (eL M 1 (eI .i64)) r.hits)))]) 5:=by
 have:=lo 1 [0,10,11,12] (λ_ (s:Int×(List gX))=>up [(12,sI s.1)] [(0,(vR (iL M w.s++[iJ M w.forces,.os 1 0 (M.n gX s.2),.os 2 0 (M.n Bool w.dropped),.os 3 0 (M.n Bool w.done),.os 4 0 (M.n (List Int) w.hits)]))),(1,(aR 17 (iK M s.2)))]);have:=ct 15 [0,10,11,12] (λ_ s=>up [] [(0,(vR (iL M w.s++[iJ M w.forces,.os 1 0 (M.n gX s),.os 2 0 (M.n Bool w.dropped),.os 3 0 (M.n Bool w.done),.os 4 0 (M.n (List Int) w.hits)]))),(1,(aR 17 (iK M s)))]);have:=ct 8 [0,3,4,10,11,12,34] (λ_ s=>kG [(34,.sb s)]);exact wC (iZ 5 [8,15] []) func245 call245 []
instance c417 {l}{sub}:CC M 417 (Dh l sub) [.agg (JZ M l),.str sub] (λr=>.agg (JZ M r)):=by
 have hM:=HM.h (M:=M);refine⟨λr O=>?_⟩;refine Ij (ja [4,15]) func417 call417 ?_;intro S R hS hR q;unfold Dh at O;cbv;refine mJ hS O (cZ hM) (le_eq rfl) ?_;intro y1 O;cbv;refine Bd [] [2,3,4,23] (λs2=>f4 42 [.lv 0 0,.lv 2 0,.lv 3 0,.sb s2] [vR [sI l.Gj,sI l.types,.os 1 0 (S.iD (M.m ByteArray eS y1))],aR 1 (M.m ByteArray eS y1),vR [.str sub],vR [sI 0,sI 0,.sl 0 [] true]]) O ?_ ?_
 intro Ik3 k3 hk3 O;cbv;refine FX hS O (cI hM) ?_;intro y5 O;cbv;refine pW ?_ ?_
 exact sV
 intro O;cbv;refine D6 hS O (cI hM) LU (λ_=>rfl) ?_;intro y6 O;cbv;refine vH ?_ ?_<;>exact sV
 intro s2 O;cbv;refine vH ?_ ?_
 exact d_R
 intro O;cbv;refine D6 hS O (cI hM) LU (λ_=>rfl) ?_;intro y7 O;cbv;refine Bd [] [2,3,4,5] (λs8=>f4 42 [.lv 0 0,.lv 2 0,.lv 3 0,sI s8] [vR [sI l.Gj,sI l.types,.os 1 0 (S.iD (M.m ByteArray eS y1))],aR 1 (M.m ByteArray eS y1),vR [.str sub],vR [sI 0,sI 0,.sl 0 [] true]]) O ?_ ?_
 intro Ik9 k9 hk9 O;cbv;refine pW ?_ ?_<;>exact sV
 intro s8 O;cbv;refine jT hS O (cZ hM) ak ak rfl rfl rfl rfl ?_;exact ab2
instance aiF {data}{a}{b}:CZ M 441 (jE data a b oL) [.os 0 0 (M.n gI data),sI a,sI b,.fn 300 []] [(0,(aR 76 (gY M data)))] 1 (λ_=>.EJ []) (λr=>[(0,(aR 76 (gY M r)))]) 1:=by
 have:=lo 1 [0,1,2,3,8] (λ_ (s:Int×(List gI))=>up [(0,.os 0 0 (M.n gI s.2)),(8,sI s.1)] [(0,(aR 76 (gY M s.2)))]);have:=lo 4 [0,1,2,3,8,9] (λ_ (s:Int×(List gI))=>up [(0,.os 0 0 (M.n gI s.2)),(9,sI s.1)] [(0,(aR 76 (gY M s.2)))]);have:=ct 8 [0,1,2,3,8,9,34] (λ_ s=>kG [(34,.sb s)]);exact wZ (iZ 1 [8] []) func441 call441
end Go.Proofs.YtchmoabpofnbaaaGreat
