import Derived.Test.YtchmoabpofnbaaaGreatD43
import Derived.Test.YtchmoabpofnbaaaGreatD44
import Derived.Test.YtchmoabpofnbaaaGreatD46
set_option linter.all false
namespace Go.Proofs.YtchmoabpofnbaaaGreat
open Go Go.Pv
set_option maxRecDepth 100000
set_option maxHeartbeats 20000000
variable [GM]
attribute [local irreducible] bnd br jn pI eH iI kD gW qx sG divO jU jc jM jD jR kK kE
variable {M:gm}[HM M]
theorem ai9 {M:gm}(hM:M=kJ):∀ (n:Nat) {data:List dV} {a:Int} {m:Int} {b:Int} {r:List dV} (U:iP n data a m b og=some r),Pv.FnS Tryz.prog glF 442 [.os 0 0 (M.n dV data),sI a,sI m,sI b,.fn 300 []] [(0,(aR 76 (fA M data)))] 1 (λuu ss nn=>uu=.Ed []/\ss=[(0,(aR 76 (fA M r)))]/\nn=1):=by
 haveI:HM M:=⟨hM⟩
 intro n
 induction n with
 | zero=>intro data a m b r U;cases U
 | succ n ih=>
  intro data a m b r U;refine Ad (T:=(Gh 1 [65,78,82,83,87] [])) (gJ 1 [65,78,82,83,87] []) wf Tryz.func442 rfl Tryz.call442 rfl ?_;intro S R O hR;have q:=sf hM O;unfold iP mM at U;cbv;refine mP ?_ ?_
  intro U;cbv;refine Ji (gJ 1 [65,78,82,83,87] []) [] [0,1,4,10,11] (λs1=>f4 220 [.os 0 0 (S.fE (fA M data)),sI a,.fn 300 [],sI s1.1,sI s1.2] [aR 76 (fA M data)]) U ?_;intro Ik2 k2 s1 hk2 U e C;subst C;unfold l7 at U;cbv;refine mP ?_ ?_
  intro U;cbv;refine YT O U jW rfl ?_;intro x4 U;cbv;refine Fa O ?_;cbv;refine lh O U jW jW ?_;intro j5 _ U;cbv;refine jv O hM U rfl jW ?_;intro x6 U;cbv;refine lh O U jW rfl ?_;intro j7 _ U;cbv;refine jv O hM U rfl jW ?_;intro x8 U;cbv;refine Kq O U (cI hM) ?_;intro y9 U;cbv;refine mP ?_ ?_<;>exact tY
  intro U;cbv;refine Ji (gJ 1 [65,78,82,83,87] []) [] [0,10,13] (λs10=>f4 220 [.os 0 0 (S.fE (fA M s10.2)),sI s1.1,sI s10.1] [aR 76 (fA M s10.2)]) U ?_;intro Ik11 k11 s10 hk11 U e C;subst C;unfold lZ at U;cbv;refine mP ?_ ?_
  intro U;cbv;refine Fa O ?_;cbv;refine lh O U jW jW ?_;intro j13 _ U;cbv;refine jv O hM U rfl jW ?_;intro x14 U;cbv;refine lh O U jW rfl ?_;intro j15 _ U;cbv;refine jv O hM U rfl jW ?_;intro x16 U;cbv;refine lh O U jW rfl ?_;intro j17 _ U;cbv;refine jv O hM U rfl jW ?_;intro x18 U;cbv;refine lh O U jW jW ?_;intro j19 _ U;cbv;refine jv O hM (e:=(jK M)) U jW jW ?_;exact yX
  intro U;cbv;cases U;exact hR _ _ _ ah ah rfl
  intro U;cbv;refine mP ?_ ?_
  intro U;cbv;refine Ji (gJ 1 [65,78,82,83,87] []) [] [0,2,4,14,15] (λs21=>f4 220 [.os 0 0 (S.fE (fA M data)),sI m,.fn 300 [],sI s21.1,sI s21.2] [aR 76 (fA M data)]) U ?_;intro Ik22 k22 s21 hk22 U e C;subst C;unfold mg at U;cbv;refine mP ?_ ?_
  intro U;cbv;refine YT O U jW rfl ?_;intro x24 U;cbv;refine Fa O ?_;cbv;refine lh O U jW rfl ?_;intro j25 _ U;cbv;refine jv O hM U rfl jW ?_;intro x26 U;cbv;refine lh O U jW jW ?_;intro j27 _ U;cbv;refine jv O hM U rfl jW ?_;intro x28 U;cbv;refine Kq O U (cI hM) ?_;intro y29 U;cbv;refine mP ?_ ?_<;>exact tY
  intro U;cbv;refine Ji (gJ 1 [65,78,82,83,87] []) [] [0,14,17] (λs30=>f4 220 [.os 0 0 (S.fE (fA M s30.2)),sI s21.1,sI s30.1] [aR 76 (fA M s30.2)]) U ?_;intro Ik31 k31 s30 hk31 U e C;subst C;unfold l9 at U;cbv;refine mP ?_ ?_
  intro U;cbv;refine Fa O ?_;cbv;refine lh O U jW jW ?_;intro j33 _ U;cbv;refine jv O hM U rfl jW ?_;intro x34 U;cbv;refine lh O U jW rfl ?_;intro j35 _ U;cbv;refine jv O hM U rfl jW ?_;intro x36 U;cbv;refine lh O U jW rfl ?_;intro j37 _ U;cbv;refine jv O hM U rfl jW ?_;intro x38 U;cbv;refine lh O U jW jW ?_;intro j39 _ U;cbv;refine jv O hM (e:=(jK M)) U jW jW ?_;exact yX
  intro U;cbv;cases U;exact hR _ _ _ ah ah rfl
  intro U;cbv;refine YT O U jW rfl ?_;intro J U;cbv;refine DJ [] [0,1,2,3,4,18,19,20,21] (λs42=>f4 220 [.os 0 0 (S.fE (fA M data)),sI a,sI m,sI b,.fn 300 [],sI (S.conv .i64 J),sI (S.bin .add .i64 (S.conv .i64 J) m),sI s42.1,sI s42.2] [aR 76 (fA M data)]) U ?_ ?_
  intro Ik43 k43 hk43 U;cbv;refine mP ?_ ?_<;>exact tY
  intro s42 U;cbv;refine Ji (gJ 1 [65,78,82,83,87] []) [] [0,1,2,3,4,18,19,20,21,22] (λI=>f4 220 [.os 0 0 (S.fE (fA M data)),sI a,sI m,sI b,.fn 300 [],sI (S.conv .i64 J),sI (S.bin .add .i64 (S.conv .i64 J) m),sI I.1,sI I.2,sI (S.bin .sub .i64 (S.bin .add .i64 (S.conv .i64 J) m) 1)] [aR 76 (fA M data)]) U ?_;intro Ik46 k46 I hk46 U e C;subst C;unfold mi at U;cbv;refine mP ?_ ?_
  intro U;cbv;refine YT O U jW rfl ?_;intro x48 U;cbv;refine Fa O ?_;cbv;replace U:=afR U;obtain⟨v49,t,ev49⟩:∃ z:Int,(S.bin .sub .i64 (S.bin .sub .i64 (S.bin .add .i64 (S.conv .i64 J) m) 1) (S.conv .i64 x48))=z/\(rP (rP (fK (IntKind.wrap .i64 J) m) 1) (IntKind.wrap .i64 x48))=z:=⟨_,rfl,jW⟩
  (try rw[t]);(try (conv at t=>(lhs;cbv)));(try rw[t]);(try rw[ev49] at U);clear t ev49
  refine lh O U jW rfl ?_;intro j50 _ U;cbv;refine jv O hM U rfl jW ?_;intro x51 U;cbv;refine lh O U jW jW ?_;intro j52 _ U;cbv;refine jv O hM U rfl jW ?_;intro x53 U;cbv;refine Kq O U (cI hM) ?_;intro y54 U;cbv;refine mP ?_ ?_<;>exact tY
  intro U;cbv;refine DJ [] [0,1,3,4,18,20,24] (λg=>f4 220 [.os 0 0 (S.fE (fA M g)),sI a,sI b,.fn 300 [],sI (S.conv .i64 J),sI I.1,sI (S.bin .sub .i64 (S.bin .add .i64 (S.conv .i64 J) m) I.1)] [aR 76 (fA M g)]) U ?_ ?_
  intro Ik56 k56 hk56 U;cbv;refine DJ [] [0,1,2,3,4,18,20,24,185] (λs58=>f4 220 [.os 0 0 (S.fE (fA M data)),sI a,sI m,sI b,.fn 300 [],sI (S.conv .i64 J),sI I.1,sI (S.bin .sub .i64 (S.bin .add .i64 (S.conv .i64 J) m) I.1),.sb s58] [aR 76 (fA M data)]) U ?_ ?_
  intro Ik59 k59 hk59 U;cbv;refine mP ?_ ?_<;>exact tY
  intro s58 U;cbv;refine xH ?_ ?_
  intro U;cbv;refine uF O U (λ_=>amj hM) ah ah rfl rfl rfl rfl ?_;intro y61 C U;have q:=And.intro q (nT aiv C).symm;cbv;exact uj
  exact tY
  intro g U;cbv;refine DJ [] [0,3,4,18,24] (λs62=>f4 220 [.os 0 0 (S.fE (fA M s62)),sI b,.fn 300 [],sI (S.conv .i64 J),sI (S.bin .sub .i64 (S.bin .add .i64 (S.conv .i64 J) m) I.1)] [aR 76 (fA M s62)]) U ?_ ?_
  intro Ik63 k63 hk63 U;cbv;refine DJ [] [0,1,3,4,18,20,24,199] (λs65=>f4 220 [.os 0 0 (S.fE (fA M g)),sI a,sI b,.fn 300 [],sI (S.conv .i64 J),sI I.1,sI (S.bin .sub .i64 (S.bin .add .i64 (S.conv .i64 J) m) I.1),.sb s65] [aR 76 (fA M g)]) U ?_ ?_
  intro Ik66 k66 hk66 U;cbv;refine mP ?_ ?_<;>exact tY
  intro s65 U;cbv;refine xH ?_ ?_
  intro U;cbv;refine uF O U (λ_ h=>ih h) ah ah rfl rfl rfl rfl ?_;intro y68 C U;have q:=And.intro q (nT (abd _) C).symm;cbv;exact uj
  exact tY
  intro s62 U;cbv;replace U:=afR U;refine mP ?_ ?_
  intro U;cbv;refine mP ?_ ?_
  intro U;cbv;refine uF O U (λ_ h=>ih h) ah ah rfl rfl rfl rfl ?_;intro y70 C U;have q:=And.intro q (nT (abd _) C).symm;cbv;cases U;exact hR _ _ _ ah ah rfl
  intro U;cbv;cases U;exact hR _ _ _ ah ah rfl
  intro U;cbv;cases U;exact hR _ _ _ ah ah rfl
theorem aja {M:gm}(hM:M=kJ){data:List dV}{a:Int}{m:Int}{b:Int}{r:List dV}(U:lL data a m b og=some r):Pv.FnS Tryz.prog glF 442 [.os 0 0 (M.n dV data),sI a,sI m,sI b,.fn 300 []] [(0,(aR 76 (fA M data)))] 1 (λT ss nn=>T=.Ed []/\ss=[(0,(aR 76 (fA M r)))]/\nn=1):=ai9 hM 70 U
instance c179 {w}:CC M 179 (uo w) [.agg (jG M w)] (λr=>.agg (jG M r)):=by
 have hM:=HM.h (M:=M);refine⟨λr U=>?_⟩;refine EN (fZ [11,16,25]) Tryz.func179 Tryz.call179 ?_;intro S R O hR q;unfold uo at U;cbv;refine Ji (fZ [11,16,25]) [.cO 2 19 17] [1,2,3,4] (λs1=>f4 59 [.lv 0 0,.lv 1 0,.lv 2 0,sI s1.1] [vR (jG M w),vR [.sl 0 [] true,.sl 0 [] true,.sl 0 [] true,.sl 0 [] true,.sl 0 [] true,.sl 0 [] true,.sl 0 [] true,sI 0,sI 0,sI 0,.sb false,sI 0,sI 0,sI 0,sI 0,.si .u64 0,.sl 0 [] true,sI 0,sI 0,.sl 0 [] true,.sl 0 [] true,.sl 0 [] true,.sl 0 [] true,.sl 0 [] true],vR (fM M w.s++[.os 3 0 (S.fE (fQ M s1.2)),vW M w.l,.sl 1 (M.m Bool eB w.begun) false,.sl 1 (M.m (List Int) (eL M 1 (eI .i64)) w.sets) false,.sl 1 (M.m Bool eB w.blank) false]),aR 17 (fQ M s1.2)]) U ?_;intro Ik2 k2 s1 hk2 U e he;subst he;unfold yg at U;cbv;refine mP ?_ ?_
 intro U;cbv;refine DJ [] [1,2,3,4] (λs4=>f4 59 [.lv 0 0,.lv 1 0,.lv 2 0,sI s1.1] [vR (jG M w),vR [.sl 0 [] true,.sl 0 [] true,.sl 0 [] true,.sl 0 [] true,.sl 0 [] true,.sl 0 [] true,.sl 0 [] true,sI 0,sI 0,sI 0,.sb false,sI 0,sI 0,sI 0,sI 0,.si .u64 0,.sl 0 [] true,sI 0,sI 0,.sl 0 [] true,.sl 0 [] true,.sl 0 [] true,.sl 0 [] true,.sl 0 [] true],vR (fM M w.s++[.os 3 0 (S.fE (fQ M s4)),vW M w.l,.sl 1 (M.m Bool eB w.begun) false,.sl 1 (M.m (List Int) (eL M 1 (eI .i64)) w.sets) false,.sl 1 (M.m Bool eB w.blank) false]),aR 17 (fQ M s4)]) U ?_ ?_
 intro Ik5 k5 hk5 U;cbv;refine Kr ?_;intro x7 U;cbv;refine Kr ?_;intro x8 U;cbv;refine DJ [] [1,2,3,4,5] (λs9=>f4 59 [.lv 0 0,.lv 1 0,.lv 2 0,sI s1.1,.lv 4 0] [vR (jG M w),vR [.sl 0 [] true,.sl 0 [] true,.sl 0 [] true,.sl 0 [] true,.sl 0 [] true,.sl 0 [] true,.sl 0 [] true,sI 0,sI 0,sI 0,.sb false,sI 0,sI 0,sI 0,sI 0,.si .u64 0,.sl 0 [] true,sI 0,sI 0,.sl 0 [] true,.sl 0 [] true,.sl 0 [] true,.sl 0 [] true,.sl 0 [] true],vR (fM M w.s++[.os 3 0 (S.fE (fQ M s1.2)),vW M w.l,.sl 1 (M.m Bool eB w.begun) false,.sl 1 (M.m (List Int) (eL M 1 (eI .i64)) w.sets) false,.sl 1 (M.m Bool eB w.blank) false]),aR 17 (fQ M s1.2),vR ([.str x7.name]++(rD M x7.cost++[sI x7.gZ,sI x7.line.KO,sI x7.line.types,.sl 1 (M.m ByteArray eS x7.line.subs) false,sI s9.1,sI s9.2,sI x7.keys,Dn M x7.fC,sI x7.control]))]) U ?_ ?_
 intro Ik10 k10 hk10 U;cbv;refine DJ [] [1,2,3,4,5,6,38] (λs12=>f4 59 [.lv 0 0,.lv 1 0,.lv 2 0,sI s1.1,.lv 4 0,.lv 5 0,.sb s12] [vR (jG M w),vR [.sl 0 [] true,.sl 0 [] true,.sl 0 [] true,.sl 0 [] true,.sl 0 [] true,.sl 0 [] true,.sl 0 [] true,sI 0,sI 0,sI 0,.sb false,sI 0,sI 0,sI 0,sI 0,.si .u64 0,.sl 0 [] true,sI 0,sI 0,.sl 0 [] true,.sl 0 [] true,.sl 0 [] true,.sl 0 [] true,.sl 0 [] true],vR (fM M w.s++[.os 3 0 (S.fE (fQ M s1.2)),vW M w.l,.sl 1 (M.m Bool eB w.begun) false,.sl 1 (M.m (List Int) (eL M 1 (eI .i64)) w.sets) false,.sl 1 (M.m Bool eB w.blank) false]),aR 17 (fQ M s1.2),vR (jd M x7),vR (jo M x8)]) U ?_ ?_
 intro Ik13 k13 hk13 U;cbv;refine mP ?_ ?_
 intro U;cbv;refine Xg O U rfl rfl ?_;intro x15 U;cbv;refine Xg O U rfl rfl ?_;exact yX
 exact tY
 intro s12 U;cbv;refine xH ?_ ?_
 intro U;cbv;refine wo O U (cI hM) ?_;intro y17 U;cbv;refine wo O U (cI hM) ?_;intro y18 U;cbv;refine wo O U (cI hM) ?_;exact yX
 exact tY
 intro s9 U;cbv;refine nM O U jW ?_;exact tY
 intro s4 U;cbv;exact uj
 exact d_R
end Go.Proofs.YtchmoabpofnbaaaGreat
namespace Go.Proofs.YtchmoabpofnbaaaGreat
open Go Go.Pv Proofs.Tryz
set_option maxRecDepth 100000
set_option maxHeartbeats 20000000
variable [GM]
attribute [local irreducible] bnd br jn pI eH iI kD gW qx sG divO jU jc jM jD jR kK kE
variable {M:gm}[HM M]
instance c109 {s}{all}{p}:CC M 109 (yA s all p) [.agg (fM M s),kH M all,sI p] (λr=>pX M r):=by
 have:=lo 3 [1,2,3,7,13,14,15] (λ_ (s:Int×(List fH))=>up [(7,.os 1 0 (M.n fH s.2)),(15,sI s.1)] [(1,(aR 3 (ny M s.2)))]) [.tO 7 3];have:=ct 25 [1,2,3,7,13,14,15] (λ_ s=>up [(7,.os 1 0 (M.n fH s))] [(1,(aR 3 (ny M s)))]) [.tO 7 3];have:=ct 10 [1,2,3,7,8,9,13,14,15,30] (λ_ s=>jf [(30,.sb s)]);have:=lo 7 [1,2,3,7,8,9,13,14,15,32,33,34] (λ_ (s:Int×(List fH))=>up [(7,.os 1 0 (M.n fH s.2)),(34,sI s.1)] [(1,(aR 3 (ny M s.2)))]) [.tO 7 3];have:=ct 23 [1,2,3,7,8,9,13,14,15,32,33,34] (λ_ s=>up [(7,.os 1 0 (M.n fH s))] [(1,(aR 3 (ny M s)))]) [.tO 7 3];have:=ct 18 [1,2,3,7,8,9,11,13,14,15,32,33,34,58] (λ_ s=>jf [(58,.sb s)]);exact wA (fZ [10,18,23,25]) func109 call109
instance an7 {data}{a}{b}:CZ M 441 (jg data a b og) [.os 0 0 (M.n dV data),sI a,sI b,.fn 300 []] [(0,(aR 76 (fA M data)))] 1 (λ_=>.Ed []) (λr=>[(0,(aR 76 (fA M r)))]) 1:=by
 have:=lo 1 [0,1,2,3,8] (λ_ (s:Int×(List dV))=>up [(0,.os 0 0 (M.n dV s.2)),(8,sI s.1)] [(0,(aR 76 (fA M s.2)))]);have:=lo 4 [0,1,2,3,8,9] (λ_ (s:Int×(List dV))=>up [(0,.os 0 0 (M.n dV s.2)),(9,sI s.1)] [(0,(aR 76 (fA M s.2)))]);have:=ct 8 [0,1,2,3,8,9,34] (λ_ s=>jf [(34,.sb s)]);exact wZ (gJ 1 [8] []) func441 call441
instance an8 {s}{w1}{w2}{w3}{w4:List (List Bool)}:CC M 226 (oN s (λa0=>yE a0 w1 w2 (λa0 a1=>tq a0 a1 w3 w4))) [.sl 1 (mI M s) false,.fn 405 [.pp [sI w1],.pp [.sl 1 (M.m (List Bool) (eL M 1 eB) w2) false],.pp [.fn 455 [.pp [.sl 1 (mI M w3) false],.pp [.sl 1 (M.m (List Bool) (eL M 1 eB) w4) false]]]]] (λr=>sI r):=by
 have:=lo 2 [0,1,7,8] (λ_ s=>jf [(8,sI s)]);exact wA fG func226 call226
instance c270 {left}{stamps}{needs}:CC M 270 (RX left stamps needs) [.sl 1 (mI M left) false,.sl 1 (mI M stamps) false,.sl 1 (M.m (List Bool) (eL M 1 eB) needs) false] (λr=>sI r):=by
 have:=lo 4 [1,7,8,9] (λ_ (s:Int×Int)=>jf [(8,sI s.1),(9,sI s.2)]);have:=ct 11 [1,7,8,9] (λ_ s=>jf [(8,sI s)]);have:=ct 14 [1,7,8,9,49] (λ_ s=>jf [(49,.sb s)]);exact wA (fZ [11,14]) func270 call270
end Go.Proofs.YtchmoabpofnbaaaGreat
