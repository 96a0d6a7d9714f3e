import Derived.Test.YtlacmdnhabblcaaGreatB93
set_option linter.all false
namespace Go.Proofs.YtlacmdnhabblcaaGreat
open Go Go.Pv Proofs.Tryz
set_option maxRecDepth 100000
set_option maxHeartbeats 2000000
section
variable {M:kM}(hM:M=jT)
include hM
theorem c220 {c:jY}{a:List Int}{r:Bool}(O:Ee c a=some r):iI 220 [.agg (mg M c),.sl 1 (mI M a) false] (λu=>u=.sb r):=by
 refine jB (je [10,42]) func220 call220 ?_;intro S R hS hR;have q:=sf hM hS;unfold Ee at O;cbv;refine jc ?_ ?_
 exact jr
 intro O;cbv;refine jK hS O (λ_=>anO hM) ?_;intro y1 O;cbv;refine jA hS O rfl ?_ ?_
 intro O;cbv;refine jk hS [] [4] (λs2=>f3 125 [(4,.sb s2)] []) O ?_ ?_
 intro Ik3 k3 hk3 O;cbv;refine jc ?_ ?_
 intro O;cbv;refine qU hS O (λ_=>ajy hM) xB ?_;exact lu
 exact jv
 intro s2 O;cbv;exact tu
 intro O;cbv;refine jc ?_ ?_
 intro O;cbv;refine qU hS O (λ_=>ajy hM) xB ?_;intro y6 O;cbv;refine jA hS O rfl ?_ ?_
 intro O;cbv;refine jc ?_ ?_<;>exact jr
 exact jr
 intro O;cbv;refine jc ?_ ?_
 intro O;cbv;refine qU hS O (λ_=>ajy hM) xB ?_;intro y7 O;cbv;refine jA hS O rfl ?_ ?_<;>exact jr
 intro O;cbv;refine jc ?_ ?_
 intro O;cbv;refine rD hS ?_;cbv;refine jc ?_ ?_
 intro O;cbv;refine kV ?_;intro x8 O;cbv;refine jc ?_ ?_
 intro O;cbv;refine kV ?_;exact kS
 exact jr
 exact jr
 intro O;cbv;refine jc ?_ ?_
 intro O;cbv;refine qU hS O (λ_=>ajy hM) xB ?_;intro y10 O;cbv;refine jA hS O rfl ?_ ?_
 intro O;cbv;refine jK hS O (λ_=>apB hM) ?_;exact kS
 exact jr
 intro O;cbv;refine jc ?_ ?_
 intro O;cbv;refine qU hS O (λ_=>ajy hM) xB ?_;intro y12 O;cbv;refine jA hS O rfl ?_ ?_
 intro O;cbv;refine jK hS O (λ_=>apB hM) ?_;exact kS
 exact jr
 intro O;cbv;refine jc ?_ ?_
 intro O;cbv;refine kE hS (je [10,42]) wf [] [1,2,5,6,7] (λs14=>f3 125 [(1,.sl 1 (mI M a) false),(2,.lv 0 0),(5,sI (S.len (M.m iL (iQ M) c.options))),(6,sI s14.1),(7,sI s14.2)] [vR (mg M c)]) O ?_;intro Ik15 k15 s14 hk15 O e he;subst he;unfold yZ at O;cbv;refine jc ?_ ?_
 intro O;cbv;refine jk hS [] [1,2,5,6,7,108] (λs17=>f3 125 [(1,.sl 1 (mI M a) false),(2,.lv 0 0),(5,sI (S.len (M.m iL (iQ M) c.options))),(6,sI s14.1),(7,sI s14.2),(108,.sb s17)] [vR (mg M c)]) O ?_ ?_
 intro Ik18 k18 hk18 O;cbv;refine kV ?_;intro x20 O;cbv;refine jc ?_ ?_
 exact jv
 intro O;cbv;refine kV ?_;exact lu
 intro s17 O;cbv;refine jA hS O rfl ?_ ?_
 exact jr
 intro O;cbv;refine kV ?_;exact lu
 intro O;cbv;refine jc ?_ ?_<;>exact jr
 exact jr
end
section
variable {M:kM}(hM:M=jT)
include hM
theorem o37 {answers:List (List Int)}{r:jV}(O:NW answers=some r):Pv.FW Tryz.prog JE 37 [.sl 1 (M.m (List Int) (eL M 1 (eI .i64)) answers) false] [] 0 (λu s n=>u=.lv 0 0/\s=[(0,(vR [.os 1 0 (M.n (List Int) r.answers),sI r.choice.kind,sI r.choice.l9,sI r.choice.source,sI r.choice.least,sI r.choice.most,sI r.choice.n,.sl 3 (M.m iL (iQ M) r.choice.options) false,.sb r.waits,.sb r.wrong,sI r.n])),(1,(aR 1 (M.m (List Int) (eL M 1 (eI .i64)) r.answers)))]/\n=2):=by
 refine qw (T:=(Bg 0 [] [])) (mG 0 [] []) wf func37 rfl call37 rfl ?_;intro S R hS hR;have q:=sf hM hS;unfold NW at O;cbv;refine kE hS (mG 0 [] []) wf [.cO 0 0 1] [0,3,4] (λs1=>f3 28 [(0,.sl 1 (M.m (List Int) (eL M 1 (eI .i64)) answers) false),(3,.lv 0 0),(4,sI s1.1)] [vR [.os 1 0 (S.jD (M.m (List Int) (eL M 1 (eI .i64)) s1.2)),sI 0,sI 0,sI 0,sI 0,sI 0,sI 0,.sl 0 [] true,.sb false,.sb false,sI 0],aR 1 (M.m (List Int) (eL M 1 (eI .i64)) s1.2)]) O ?_;intro Ik2 k2 s1 hk2 O e he;subst he;unfold NV at O;cbv;refine jc ?_ ?_
 intro O;cbv;refine rD hS ?_;cbv;refine kV ?_;intro x4 O;cbv;refine rZ hS O (λ_=>c78 hM) ?_;intro y5 O;cbv;refine jM hS O lS ?_;exact jv
 intro O;cbv;cases O;exact hR _ _ _ oW oW rfl
theorem anP {c:jY}{r:List Int}(O:yE c=some r):iI 219 [.agg (mg M c)] (λu=>u=.sl 1 (mI M r) false):=by
 refine jB jm func219 call219 ?_;intro S R hS hR;have q:=sf hM hS;unfold yE at O;cbv;refine jK hS O (λ_=>anO hM) ?_;intro y1 O;cbv;refine jA hS O rfl ?_ ?_
 intro O;cbv;refine Dw hS (e:=(eI .i64)) O aj ?_;exact kS
 intro O;cbv;refine jc ?_ ?_
 intro O;cbv;refine qU hS O (λ_=>apC hM) xB ?_;exact kS
 intro O;cbv;refine jc ?_ ?_
 intro O;cbv;refine qU hS O (λ_=>apC hM) xB ?_;exact kS
 intro O;cbv;refine jc ?_ ?_
 exact jr
 intro O;cbv;refine jc ?_ ?_
 intro O;cbv;refine ZP hS O lS lS ?_;intro j5 O;cbv;refine Dw hS (e:=(eI .i64)) O aj ?_;intro U O;cbv;refine jc ?_ ?_
 intro O;cbv;refine wM hS O rfl rfl ?_;intro T _ O;cbv;refine qJ hS hM (e:=(eI .i64)) O lS lS ?_;exact kS
 exact jr
 intro O;cbv;cases O;exact hR _ aj
theorem c218 {c:jY}{r:Bool}(O:IP c=some r):iI 218 [.agg (mg M c)] (λu=>u=.sb r):=by
 refine jB (je [4]) func218 call218 ?_;intro S R hS hR;have q:=sf hM hS;unfold IP at O;cbv;refine jk hS [] [1,3,19] (λs1=>f3 54 [(1,.lv 0 0),(3,sI (S.len (M.m iL (iQ M) c.options))),(19,.sb s1)] [vR (mg M c)]) O ?_ ?_
 intro Ik2 k2 hk2 O;cbv;refine jK hS O (λ_=>anO hM) ?_;intro y4 O;cbv;refine jA hS O rfl ?_ ?_
 exact jv
 intro O;cbv;refine jc ?_ ?_<;>exact jv
 intro s1 O;cbv;refine jA hS O rfl ?_ ?_
 exact jr
 intro O;cbv;refine jc ?_ ?_
 exact jr
 intro O;cbv;refine jc ?_ ?_
 exact jr
 intro O;cbv;refine jc ?_ ?_
 intro O;cbv;refine jc ?_ ?_
 intro O;cbv;refine jc ?_ ?_<;>exact jr
 exact jr
 intro O;cbv;refine jc ?_ ?_<;>exact jr
end
section
variable {M:kM}(hM:M=jT)
include hM
theorem c91 {k:jy}{r:jY×Bool}(O:qy k=some r):iI 91 [.pp (mQ M k)] (λu=>u=.IX [.agg (mg M r.1),.sb r.2]):=by
 refine jB jm func91 call91 ?_;intro S R hS hR;have q:=sf hM hS;unfold qy at O;cbv;refine jc ?_ ?_
 exact gZ
 intro O;cbv;refine jK hS O (λ_=>c152 hM) ?_;exact kS
theorem c92 {k:jV}{r:jY×Bool}(O:qA k=some r):iI 92 [.pp (mD M k)] (λu=>u=.IX [.agg (mg M r.1),.sb r.2]):=by
 refine jB jm func92 call92 ?_;intro S R hS hR;have q:=sf hM hS;unfold qA at O;cbv;refine jc ?_ ?_
 exact gZ
 intro O;cbv;refine jK hS O (λ_=>apD hM) ?_;exact kS
end
section
variable {M:kM}(hM:M=jT)
include hM
theorem s151 {k:jV}{c:jY}{r:(List Int)×jV}(O:vX k c=some r):Pv.FW Tryz.prog JE 151 [.lv 0 0,.agg (mg M c)] [(0,(vR (mD M k)))] 1 (λu s n=>u=.sl 1 (mI M r.1) false/\s=[(0,(vR (mD M r.2)))]/\n=1):=by
 refine qw (T:=(Bg 1 [2] [])) (mG 1 [2] []) wf func151 rfl call151 rfl ?_;intro S R hS hR;have q:=sf hM hS;unfold vX at O;cbv;refine jk hS [] [0,3,23] (λs1=>f3 75 [(0,.lv 0 0),(3,.lv 1 0),(23,.sb s1)] [vR (mD M k),vR (mg M c)]) O ?_ ?_
 intro Ik2 k2 hk2 O;cbv;refine jK hS O (λ_=>c218 hM) ?_;intro y4 O;cbv;refine jA hS O rfl ?_ ?_
 exact jv
 intro O;cbv;refine jA hS O rfl ?_ ?_<;>exact jv
 intro s1 O;cbv;refine jA hS O rfl ?_ ?_
 intro O;cbv;refine jK hS O (λ_=>anP hM) ?_;intro y5 O;cbv;cases O;exact hR _ _ _ oW oW rfl
 intro O;cbv;refine rD hS ?_;cbv;refine jc ?_ ?_
 intro O;cbv;refine jK hS O (λ_=>apD hM) ?_;intro y6 O;cbv;refine jK hS O (λ_=>anP hM) ?_;intro y7 O;cbv;cases O;exact hR _ _ _ oW oW rfl
 intro O;cbv;refine rD hS ?_;cbv;refine kV ?_;intro x8 O;cbv;refine jK hS O (λ_=>c220 hM) ?_;intro y9 O;cbv;refine jc ?_ ?_
 intro O;cbv;refine jK hS O (λ_=>anP hM) ?_;intro y10 O;cbv;cases O;exact hR _ _ _ oW oW rfl
 intro O;cbv;refine jK hS O (λ_=>c78 hM) ?_;intro y11 O;cbv;cases O;exact hR _ _ _ oW oW rfl
theorem c40 {k:jy}{w:jV}{r:Bool×Bool}(O:zg k w=some r):iI 40 [.pp (mQ M k),.pp (mD M w)] (λu=>u=.IX [.sb r.1,.sb r.2]):=by
 refine jB jm func40 call40 ?_;intro S R hS hR;have q:=sf hM hS;unfold zg at O;cbv;refine jK hS O (λ_=>c91 hM) ?_;intro y1 O;cbv;refine jK hS O (λ_=>c92 hM) ?_;intro y2 O;cbv;refine jK hS O (λ_=>c93 hM) ?_;intro y3 O;cbv;refine jA hS O rfl ?_ ?_
 intro O;cbv;refine jc ?_ ?_
 intro O;cbv;refine jK hS O (λ_=>c94 hM) ?_;intro y4 O;cbv;refine jK hS O (λ_=>c95 hM) ?_;intro y5 O;cbv;refine jc ?_ ?_
 intro O;cbv;refine jK hS O (λ_=>c96 hM) ?_;intro y6 O;cbv;refine jK hS O (λ_=>c97 hM) ?_;exact kS
 exact jr
 exact jr
 exact jr
theorem c31 {o:iW}{t:iM}{deadly:Bool}{r:Int}(O:Ef o t deadly=some r):iI 31 [.agg (ja M o),.agg (iY M t),.sb deadly] (λu=>u=sI r):=by
 refine jB jm func31 call31 ?_;intro S R hS hR;have q:=sf hM hS;unfold Ef at O;cbv;refine jA hS O rfl ?_ ?_
 exact jr
 intro O;cbv;refine jK hS O (λ_=>c76 hM) ?_;exact kS
end
section
variable {M:kM}(hM:M=jT)
include hM
theorem s89 {k:jV}{s:iT}{all:List iM}{i:Int}{r:(List iZ)×Bool×jV}(O:CZ k s all i=some r):Pv.FW Tryz.prog JE 89 [.lv 0 0,.agg (jb M s),.sl 17 (M.m iM (iY M) all) false,sI i] [(0,(vR (mD M k)))] 1 (λu s n=>u=.IX [.os 1 0 (M.n iZ r.1),.sb r.2.1]/\s=[(0,(vR (mD M r.2.2))),(1,(aR 15 (M.m iZ (jC M) r.1)))]/\n=2):=by
 refine qw (T:=(Bg 1 [33,49,50] [[(15,true)],[(0,false)]])) (mG 1 [33,49,50] [[(15,true)],[(0,false)]]) wf func89 rfl call89 rfl ?_;intro S R hS hR;have q:=sf hM hS;unfold CZ at O;cbv;refine kV ?_;intro x1 O;cbv;refine jK hS O (λ_=>c87 hM) ?_;intro y2 O;cbv;refine jK hS O (λ_=>aiE hM) ?_;intro y3 O;cbv;refine jK hS O (λ_=>aiE hM) ?_;intro y4 O;cbv;refine jK hS O (λ_=>c34 hM) ?_;intro y5 O;cbv;refine alf hS (mG 1 [33,49,50] [[(15,true)],[(0,false)]]) wf [.tO 16 1,.cO 6 6 3] [.tO 16 1,.cO 4 6 3] [0,2,5,10,11,12,13,14,15,16,17] (λs6=>f3 160 [(0,.lv 0 0),(2,.sl 17 (M.m iM (iY M) all) false),(5,.lv 1 0),(10,.lv 2 0),(11,.lv 3 0),(12,.sb y3),(13,.sb y4),(14,.sl 1 (mI M y5) false),(15,.lv 4 0),(16,.os 6 0 (S.jD (mI M s6.2.2))),(17,sI s6.1)] [vR (mD M k),vR (jb M s),vR (ja M x1),vR (iY M y2),vR [sI 8,sI y2.control,sI x1.id,sI 0,sI 0,sI y2.power,.os 5 0 (S.jD (M.m iL (iQ M) s6.2.1))],aR 3 (M.m iL (iQ M) s6.2.1),aR 1 (mI M s6.2.2)]) O bZ ?_;intro Ik7 k7 s6 hk7 O e he;subst he;unfold zX at O;cbv;refine jc ?_ ?_
 intro O;cbv;refine rD hS ?_;cbv;refine kV ?_;intro x9 O;cbv;refine rZ hS O (λ_=>c90 hM) ?_;intro y10 O;cbv;refine rD hS ?_;cbv;refine kV ?_;intro x11 O;cbv;refine rZ hS O (λ_=>c87 hM) ?_;intro y12 O;cbv;refine rZ hS O (λ_=>c31 hM) ?_;intro y13 O;cbv;refine jM hS O lS ?_;intro O;cbv;refine rD hS ?_;cbv;refine kV ?_;intro x14 O;cbv;refine Dw hS (e:=(iQ M)) O oW ?_;intro x15 O;cbv;refine jM hS O lS ?_;exact jv
 intro O;cbv;refine jk hS [] [0,10,11,13,15,16] (λs16=>f3 160 [(0,.lv 0 0),(10,.lv 1 0),(11,.lv 2 0),(13,.sb y4),(15,.lv 3 0),(16,.os 5 0 (S.jD (mI M s6.2.2)))] [vR (mD M k),vR (ja M x1),vR (iY M y2),vR [sI 8,sI y2.control,sI x1.id,sI 0,sI 0,sI y2.power,.os 4 0 (S.jD (M.m iL (iQ M) s16))],aR 3 (M.m iL (iQ M) s16),aR 1 (mI M s6.2.2)]) O ?_ ?_
 intro Ik17 k17 hk17 O;cbv;refine jA hS O rfl ?_ ?_
 intro O;cbv;refine Dw hS (e:=(iQ M)) O oW ?_;intro x19 O;cbv;refine jM hS O lS ?_;exact jv
 exact jv
 intro s16 O;cbv;refine jc ?_ ?_
 exact ik
 intro O;cbv;refine ajl hS [(0,false),(0,true)] rfl ?_;cbv;refine uZ hS O (λ_=>s151 hM) oW oW rfl rfl rfl rfl ?_;intro y20 O;cbv;refine tN hS O (λ_=>c28 hM) xB (λ_=>rfl) ?_;intro y21 O;cbv;refine jc ?_ ?_
 exact ik
 intro O;cbv;refine kE hS (mG 1 [33,49,50] [[(15,true)],[(0,false)]]) wf [.tO 20 15] [10,15,19,20,21] (λs22=>f3 160 [(10,.lv 1 0),(15,.lv 2 0),(19,.sl 1 (mI M y20.1) false),(20,.os 4 0 (S.jD (M.m iZ (jC M) s22.2))),(21,sI s22.1)] [vR (mD M y20.2),vR (ja M x1),vR [sI 8,sI y2.control,sI x1.id,sI 0,sI 0,sI y2.power,.os 3 0 (S.jD (M.m iL (iQ M) s16))],some (.arr true 3 (M.m iL (iQ M) s16)),aR 15 (M.m iZ (jC M) s22.2)]) O ?_;intro Ik23 k23 s22 hk23 O e he;subst he;unfold wU at O;cbv;refine jc ?_ ?_
 intro O;cbv;refine jk hS [.tO 20 15] [10,15,19,20,21] (λs25=>f3 160 [(10,.lv 1 0),(15,.lv 2 0),(19,.sl 1 (mI M y20.1) false),(20,.os 4 0 (S.jD (M.m iZ (jC M) s25))),(21,sI s22.1)] [vR (mD M y20.2),vR (ja M x1),vR [sI 8,sI y2.control,sI x1.id,sI 0,sI 0,sI y2.power,.os 3 0 (S.jD (M.m iL (iQ M) s16))],some (.arr true 3 (M.m iL (iQ M) s16)),aR 15 (M.m iZ (jC M) s25)]) O ?_ ?_
 intro Ik26 k26 hk26 O;cbv;refine jk hS [] [10,15,19,20,21,125] (λs28=>f3 160 [(10,.lv 1 0),(15,.lv 2 0),(19,.sl 1 (mI M y20.1) false),(20,.os 4 0 (S.jD (M.m iZ (jC M) s22.2))),(21,sI s22.1),(125,.sb s28)] [vR (mD M y20.2),vR (ja M x1),vR [sI 8,sI y2.control,sI x1.id,sI 0,sI 0,sI y2.power,.os 3 0 (S.jD (M.m iL (iQ M) s16))],some (.arr true 3 (M.m iL (iQ M) s16)),aR 15 (M.m iZ (jC M) s22.2)]) O ?_ ?_
 intro Ik29 k29 hk29 O;cbv;refine kV ?_;intro x31 O;cbv;refine jc ?_ ?_
 intro O;cbv;refine wM hS O lS rfl ?_;intro j32 _ O;cbv;refine qJ hS hM O rfl lS ?_;exact lu
 exact jv
 intro s28 O;cbv;refine jA hS O rfl ?_ ?_
 intro O;cbv;refine rD hS ?_;cbv;refine wM hS O lS rfl ?_;intro j34 _ O;cbv;refine qJ hS hM O rfl lS ?_;intro x35 O;cbv;refine kV ?_;intro x36 O;cbv;refine rZ hS O (λ_=>c88 hM) ?_;intro y37 O;cbv;refine jM hS O lS ?_;exact jv
 intro O;cbv;refine kV ?_;intro x38 O;cbv;refine jc ?_ ?_
 intro O;cbv;refine rD hS ?_;cbv;refine kV ?_;intro x39 O;cbv;refine rZ hS O (λ_=>c88 hM) ?_;intro y40 O;cbv;refine jM hS O lS ?_;exact jv
 exact jv
 intro s25 O;cbv;exact ng
 intro O;cbv;cases O;exact hR _ _ _ oW oW rfl
end
end Go.Proofs.YtlacmdnhabblcaaGreat
