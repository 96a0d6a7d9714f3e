import Derived.Test.YtchmoabpofnbaaaGreatC41
import Derived.Test.YtchmoabpofnbaaaGreatC42
import Derived.Test.YtchmoabpofnbaaaGreatC44
set_option linter.all false
namespace Go.Proofs.YtchmoabpofnbaaaGreat
open Go Go.Pv
set_option maxRecDepth 100000
set_option maxHeartbeats 20000000
variable [GM]
attribute [local irreducible] bnd br jn oL loopF iq jS gu pO rG divO jF iO jA jm jE jY jU
variable {M:fP}[HM M]
theorem ahN {M:fP}(hM:M=ku):∀ (n:Nat) {data:List eP} {a:Int} {m:Int} {b:Int} {r:List eP} (U:iF n data a m b nJ=some r),Pv.FnS Tryz.prog glF 442 [.os 0 0 (M.n eP data),sI a,sI m,sI b,.fn 300 []] [(0,(aR 76 (eY M data)))] 1 (λuu ss nn=>uu=.Eu []/\ss=[(0,(aR 76 (eY M r)))]/\nn=1):=by
 haveI:HM M:=⟨hM⟩
 intro n
 induction n with
 | zero=>intro data a m b r U;cases U
 | succ n ih=>
  intro data a m b r U;refine yX (T:=(Fg 1 [65,78,82,83,87] [])) (gp 1 [65,78,82,83,87] []) wf Tryz.func442 rfl Tryz.call442 rfl ?_;intro S R hS hR;have q:=sf hM hS;unfold iF lY at U;cbv;refine kQ ?_ ?_
  intro U;cbv;refine Gg (gp 1 [65,78,82,83,87] []) [] [0,1,4,10,11] (λs1=>f4 220 [.os 0 0 (S.fE (eY M data)),sI a,.fn 300 [],sI s1.1,sI s1.2] [aR 76 (eY M data)]) U ?_;intro Ik2 k2 s1 hk2 U e C;subst C;unfold lM at U;cbv;refine kQ ?_ ?_
  intro U;cbv;refine Ya hS U jJ rfl ?_;intro x4 U;cbv;refine CB hS ?_;cbv;refine kM hS U jJ jJ ?_;intro j5 _ U;cbv;refine jc hS hM U rfl jJ ?_;intro x6 U;cbv;refine kM hS U jJ rfl ?_;intro j7 _ U;cbv;refine jc hS hM U rfl jJ ?_;intro x8 U;cbv;refine GX hS U (cI hM) ?_;intro y9 U;cbv;refine kQ ?_ ?_<;>exact pW
  intro U;cbv;refine Gg (gp 1 [65,78,82,83,87] []) [] [0,10,13] (λs10=>f4 220 [.os 0 0 (S.fE (eY M s10.2)),sI s1.1,sI s10.1] [aR 76 (eY M s10.2)]) U ?_;intro Ik11 k11 s10 hk11 U e C;subst C;unfold lL at U;cbv;refine kQ ?_ ?_
  intro U;cbv;refine CB hS ?_;cbv;refine kM hS U jJ jJ ?_;intro j13 _ U;cbv;refine jc hS hM U rfl jJ ?_;intro x14 U;cbv;refine kM hS U jJ rfl ?_;intro j15 _ U;cbv;refine jc hS hM U rfl jJ ?_;intro x16 U;cbv;refine kM hS U jJ rfl ?_;intro j17 _ U;cbv;refine jc hS hM U rfl jJ ?_;intro x18 U;cbv;refine kM hS U jJ jJ ?_;intro j19 _ U;cbv;refine jc hS hM (e:=(jy M)) U jJ jJ ?_;exact sK
  intro U;cbv;cases U;exact hR _ _ _ ah ah rfl
  intro U;cbv;refine kQ ?_ ?_
  intro U;cbv;refine Gg (gp 1 [65,78,82,83,87] []) [] [0,2,4,14,15] (λs21=>f4 220 [.os 0 0 (S.fE (eY M data)),sI m,.fn 300 [],sI s21.1,sI s21.2] [aR 76 (eY M data)]) U ?_;intro Ik22 k22 s21 hk22 U e C;subst C;unfold lQ at U;cbv;refine kQ ?_ ?_
  intro U;cbv;refine Ya hS U jJ rfl ?_;intro x24 U;cbv;refine CB hS ?_;cbv;refine kM hS U jJ rfl ?_;intro j25 _ U;cbv;refine jc hS hM U rfl jJ ?_;intro x26 U;cbv;refine kM hS U jJ jJ ?_;intro j27 _ U;cbv;refine jc hS hM U rfl jJ ?_;intro x28 U;cbv;refine GX hS U (cI hM) ?_;intro y29 U;cbv;refine kQ ?_ ?_<;>exact pW
  intro U;cbv;refine Gg (gp 1 [65,78,82,83,87] []) [] [0,14,17] (λs30=>f4 220 [.os 0 0 (S.fE (eY M s30.2)),sI s21.1,sI s30.1] [aR 76 (eY M s30.2)]) U ?_;intro Ik31 k31 s30 hk31 U e C;subst C;unfold lN at U;cbv;refine kQ ?_ ?_
  intro U;cbv;refine CB hS ?_;cbv;refine kM hS U jJ jJ ?_;intro j33 _ U;cbv;refine jc hS hM U rfl jJ ?_;intro x34 U;cbv;refine kM hS U jJ rfl ?_;intro j35 _ U;cbv;refine jc hS hM U rfl jJ ?_;intro x36 U;cbv;refine kM hS U jJ rfl ?_;intro j37 _ U;cbv;refine jc hS hM U rfl jJ ?_;intro x38 U;cbv;refine kM hS U jJ jJ ?_;intro j39 _ U;cbv;refine jc hS hM (e:=(jy M)) U jJ jJ ?_;exact sK
  intro U;cbv;cases U;exact hR _ _ _ ah ah rfl
  intro U;cbv;refine Ya hS U jJ rfl ?_;intro J U;cbv;refine yE [] [0,1,2,3,4,18,19,20,21] (λs42=>f4 220 [.os 0 0 (S.fE (eY M data)),sI a,sI m,sI b,.fn 300 [],sI (S.conv .i64 J),sI (S.bin .add .i64 (S.conv .i64 J) m),sI s42.1,sI s42.2] [aR 76 (eY M data)]) U ?_ ?_
  intro Ik43 k43 hk43 U;cbv;refine kQ ?_ ?_<;>exact pW
  intro s42 U;cbv;refine Gg (gp 1 [65,78,82,83,87] []) [] [0,1,2,3,4,18,19,20,21,22] (λI=>f4 220 [.os 0 0 (S.fE (eY M data)),sI a,sI m,sI b,.fn 300 [],sI (S.conv .i64 J),sI (S.bin .add .i64 (S.conv .i64 J) m),sI I.1,sI I.2,sI (S.bin .sub .i64 (S.bin .add .i64 (S.conv .i64 J) m) 1)] [aR 76 (eY M data)]) U ?_;intro Ik46 k46 I hk46 U e C;subst C;unfold lS at U;cbv;refine kQ ?_ ?_
  intro U;cbv;refine Ya hS U jJ rfl ?_;intro x48 U;cbv;refine CB hS ?_;cbv;replace U:=aeI U;obtain⟨v49,t,ev49⟩:∃ z:Int,(S.bin .sub .i64 (S.bin .sub .i64 (S.bin .add .i64 (S.conv .i64 J) m) 1) (S.conv .i64 x48))=z/\(qL (qL (addI (IntKind.wrap .i64 J) m) 1) (IntKind.wrap .i64 x48))=z:=⟨_,rfl,jJ⟩
  (try rw[t]);(try (conv at t=>(lhs;cbv)));(try rw[t]);(try rw[ev49] at U);clear t ev49
  refine kM hS U jJ rfl ?_;intro j50 _ U;cbv;refine jc hS hM U rfl jJ ?_;intro x51 U;cbv;refine kM hS U jJ jJ ?_;intro j52 _ U;cbv;refine jc hS hM U rfl jJ ?_;intro x53 U;cbv;refine GX hS U (cI hM) ?_;intro y54 U;cbv;refine kQ ?_ ?_<;>exact pW
  intro U;cbv;refine yE [] [0,1,3,4,18,20,24] (λg=>f4 220 [.os 0 0 (S.fE (eY M g)),sI a,sI b,.fn 300 [],sI (S.conv .i64 J),sI I.1,sI (S.bin .sub .i64 (S.bin .add .i64 (S.conv .i64 J) m) I.1)] [aR 76 (eY M g)]) U ?_ ?_
  intro Ik56 k56 hk56 U;cbv;refine yE [] [0,1,2,3,4,18,20,24,185] (λs58=>f4 220 [.os 0 0 (S.fE (eY M data)),sI a,sI m,sI b,.fn 300 [],sI (S.conv .i64 J),sI I.1,sI (S.bin .sub .i64 (S.bin .add .i64 (S.conv .i64 J) m) I.1),.sb s58] [aR 76 (eY M data)]) U ?_ ?_
  intro Ik59 k59 hk59 U;cbv;refine kQ ?_ ?_<;>exact pW
  intro s58 U;cbv;refine rf ?_ ?_
  intro U;cbv;refine uj hS U (λ_=>akV hM) ah ah rfl rfl rfl rfl ?_;intro y61 C U;have q:=And.intro q (mY aha C).symm;cbv;exact sN
  exact pW
  intro g U;cbv;refine yE [] [0,3,4,18,24] (λs62=>f4 220 [.os 0 0 (S.fE (eY M s62)),sI b,.fn 300 [],sI (S.conv .i64 J),sI (S.bin .sub .i64 (S.bin .add .i64 (S.conv .i64 J) m) I.1)] [aR 76 (eY M s62)]) U ?_ ?_
  intro Ik63 k63 hk63 U;cbv;refine yE [] [0,1,3,4,18,20,24,199] (λs65=>f4 220 [.os 0 0 (S.fE (eY M g)),sI a,sI b,.fn 300 [],sI (S.conv .i64 J),sI I.1,sI (S.bin .sub .i64 (S.bin .add .i64 (S.conv .i64 J) m) I.1),.sb s65] [aR 76 (eY M g)]) U ?_ ?_
  intro Ik66 k66 hk66 U;cbv;refine kQ ?_ ?_<;>exact pW
  intro s65 U;cbv;refine rf ?_ ?_
  intro U;cbv;refine uj hS U (λ_ h=>ih h) ah ah rfl rfl rfl rfl ?_;intro y68 C U;have q:=And.intro q (mY (aam _) C).symm;cbv;exact sN
  exact pW
  intro s62 U;cbv;replace U:=aeI U;refine kQ ?_ ?_
  intro U;cbv;refine kQ ?_ ?_
  intro U;cbv;refine uj hS U (λ_ h=>ih h) ah ah rfl rfl rfl rfl ?_;intro y70 C U;have q:=And.intro q (mY (aam _) C).symm;cbv;cases U;exact hR _ _ _ ah ah rfl
  intro U;cbv;cases U;exact hR _ _ _ ah ah rfl
  intro U;cbv;cases U;exact hR _ _ _ ah ah rfl
theorem ahO {M:fP}(hM:M=ku){data:List eP}{a:Int}{m:Int}{b:Int}{r:List eP}(U:kX data a m b nJ=some r):Pv.FnS Tryz.prog glF 442 [.os 0 0 (M.n eP data),sI a,sI m,sI b,.fn 300 []] [(0,(aR 76 (eY M data)))] 1 (λT ss nn=>T=.Eu []/\ss=[(0,(aR 76 (eY M r)))]/\nn=1):=ahN hM 70 U
end Go.Proofs.YtchmoabpofnbaaaGreat
namespace Go.Proofs.YtchmoabpofnbaaaGreat
open Go Go.Pv Proofs.Tryz
set_option maxRecDepth 100000
set_option maxHeartbeats 20000000
variable [GM]
attribute [local irreducible] bnd br jn oL loopF iq jS gu pO rG divO jF iO jA jm jE jY jU
variable {M:fP}[HM M]
instance c417 {l}{sub}:CC M 417 (xJ l sub) [.agg (GZ M l),.str sub] (λr=>.agg (GZ M r)):=by
 have hM:=HM.h (M:=M);refine⟨λr U=>?_⟩;refine CO (fO [4,15]) func417 call417 ?_;intro S R hS hR q;unfold xJ at U;cbv;refine jl hS U (cZ hM) (le_eq rfl) ?_;intro y1 U;cbv;refine yE [] [2,3,4,23] (λs2=>f4 42 [.lv 0 0,.lv 2 0,.lv 3 0,.sb s2] [vR [sI l.J9,sI l.types,.os 1 0 (S.fE (M.m ByteArray eS y1))],aR 1 (M.m ByteArray eS y1),vR [.str sub],vR [sI 0,sI 0,.sl 0 [] true]]) U ?_ ?_
 intro Ik3 k3 hk3 U;cbv;refine qZ hS U (cI hM) ?_;intro y5 U;cbv;refine kQ ?_ ?_
 exact pW
 intro U;cbv;refine AV hS U (cI hM) JB (λ_=>rfl) ?_;intro y6 U;cbv;refine rf ?_ ?_<;>exact pW
 intro s2 U;cbv;refine rf ?_ ?_
 exact d_R
 intro U;cbv;refine AV hS U (cI hM) JB (λ_=>rfl) ?_;intro y7 U;cbv;refine yE [] [2,3,4,5] (λs8=>f4 42 [.lv 0 0,.lv 2 0,.lv 3 0,sI s8] [vR [sI l.J9,sI l.types,.os 1 0 (S.fE (M.m ByteArray eS y1))],aR 1 (M.m ByteArray eS y1),vR [.str sub],vR [sI 0,sI 0,.sl 0 [] true]]) U ?_ ?_
 intro Ik9 k9 hk9 U;cbv;refine kQ ?_ ?_<;>exact pW
 intro s8 U;cbv;refine iR hS U (cZ hM) ah ah rfl rfl rfl rfl ?_;exact SQ
instance c35 {s}{all}:CC M 35 (oC s all) [.agg (fD M s),iE M all] (λr=>jI M r):=by
 have:=lo 4 [1,2,5,6,16,17,18] (λ_ (s:Int×(List eX))=>up [(5,.os 1 0 (M.n eX s.2)),(18,sI s.1)] [(1,(aR 3 (jq M s.2)))]) [.tO 5 3];have:=ct 25 [1,2,5,6,16,17,18] (λ_ s=>up [(5,.os 1 0 (M.n eX s))] [(1,(aR 3 (jq M s)))]) [.tO 5 3];have:=ct 12 [1,2,5,6,8,16,17,18,36] (λ_ s=>je [(36,.sb s)]);have:=lo 8 [1,2,5,6,8,16,17,18,37,38,39] (λ_ (s:Int×(List eX))=>up [(5,.os 1 0 (M.n eX s.2)),(39,sI s.1)] [(1,(aR 3 (jq M s.2)))]) [.tO 5 3];exact wA (fO [12,25]) func35 call35
instance amN {data}{a}{b}:CZ M 441 (iU data a b nJ) [.os 0 0 (M.n eP data),sI a,sI b,.fn 300 []] [(0,(aR 76 (eY M data)))] 1 (λ_=>.Eu []) (λr=>[(0,(aR 76 (eY M r)))]) 1:=by
 have:=lo 1 [0,1,2,3,8] (λ_ (s:Int×(List eP))=>up [(0,.os 0 0 (M.n eP s.2)),(8,sI s.1)] [(0,(aR 76 (eY M s.2)))]);have:=lo 4 [0,1,2,3,8,9] (λ_ (s:Int×(List eP))=>up [(0,.os 0 0 (M.n eP s.2)),(9,sI s.1)] [(0,(aR 76 (eY M s.2)))]);have:=ct 8 [0,1,2,3,8,9,34] (λ_ s=>je [(34,.sb s)]);exact wZ (gp 1 [8] []) func441 call441
instance amO {s}{w1}{w2}{w3}{w4:List (List Bool)}:CC M 226 (nZ s (λa0=>xH a0 w1 w2 (λa0 a1=>rZ a0 a1 w3 w4))) [.sl 1 (mI M s) false,.fn 405 [.pp [sI w1],.pp [.sl 1 (M.m (List Bool) (eL M 1 eB) w2) false],.pp [.fn 455 [.pp [.sl 1 (mI M w3) false],.pp [.sl 1 (M.m (List Bool) (eL M 1 eB) w4) false]]]]] (λr=>sI r):=by
 have:=lo 2 [0,1,7,8] (λ_ s=>je [(8,sI s)]);exact wA fG func226 call226
instance c270 {left}{stamps}{needs}:CC M 270 (Rq left stamps needs) [.sl 1 (mI M left) false,.sl 1 (mI M stamps) false,.sl 1 (M.m (List Bool) (eL M 1 eB) needs) false] (λr=>sI r):=by
 have:=lo 4 [1,7,8,9] (λ_ (s:Int×Int)=>je [(8,sI s.1),(9,sI s.2)]);have:=ct 11 [1,7,8,9] (λ_ s=>je [(8,sI s)]);have:=ct 14 [1,7,8,9,49] (λ_ s=>je [(49,.sb s)]);exact wA (fO [11,14]) func270 call270
instance c430 {l}{sub}:CC M 430 (xQ l sub) [.agg (GZ M l),.str sub] (λr=>.agg (GZ M r)):=by
 have:=ct 4 [1,2,4,5,24] (λS s=>je [(5,.os 2 0 (S.fE (S.app (S.sub ([]) 0 0) (M.m ByteArray eS l.subs)))),(24,.sb s)]);have:=lo 5 [1,2,4,5,6] (λ_ s=>je [(6,sI s)]);have:=ct 10 [1,2,4,5,6,42] (λ_ s=>je [(42,.sb s)]);exact wA (fO [4,10,1009]) func430 call430
instance c244 {cards}{o}:CC M 244 (I5 cards o) [kH M cards,.agg (ja M o)] (λr=>.agg (jh M r)):=by
 have:=ct 9 [0,3,4,5] (λ_ s=>je [(5,sI s)]);have:=ct 15 [3,4,6] (λ_ s=>up [] [(2,(vR (jh M s)))]) [.cS 2 11 1,.cS 2 15 72];have:=ct 10 [0,3,4,5,6,21] (λ_ s=>je [(21,.sb s)]);exact wA (fO [9,10,15]) func244 call244
end Go.Proofs.YtchmoabpofnbaaaGreat
