import Derived.Test.YtlacmdnhabblcaaGreatB15
import Derived.Test.YtlacmdnhabblcaaGreatB35
set_option linter.all false
namespace Go.Proofs.YtlacmdnhabblcaaGreat
open Go Go.Pv Proofs.Tryz
set_option maxRecDepth 100000
set_option maxHeartbeats 2000000
section
variable {M:kM}(hM:M=jT)
include hM
theorem c79 {s:iT}{all:List iM}{r:List iP}(O:ui s all=some r):iI 79 [.agg (jb M s),.sl 17 (M.m iM (iY M) all) false] (λu=>u=.sl 36 (M.m iP (jh M) r) false):=by
 refine jB (je [10,15]) func79 call79 ?_;intro S R hS hR;have q:=sf hM hS;unfold ui at O;cbv;refine kE hS (je [10,15]) wf [.tO 5 36] [1,5,9,10,11] (λs1=>f3 46 [(1,.sl 17 (M.m iM (iY M) all) false),(5,.os 0 0 (S.jD (M.m iP (jh M) s1.2))),(9,.sl 19 (M.m iW (ja M) s.objects) false),(10,sI (S.len (M.m iW (ja M) s.objects))),(11,sI s1.1)] [aR 36 (M.m iP (jh M) s1.2)]) O ?_;intro Ik2 k2 s1 hk2 O e he;subst he;unfold wE at O;cbv;refine jc ?_ ?_
 intro O;cbv;refine jk hS [.tO 5 36] [1,5,9,10,11] (λs4=>f3 46 [(1,.sl 17 (M.m iM (iY M) all) false),(5,.os 0 0 (S.jD (M.m iP (jh M) s4))),(9,.sl 19 (M.m iW (ja M) s.objects) false),(10,sI (S.len (M.m iW (ja M) s.objects))),(11,sI s1.1)] [aR 36 (M.m iP (jh M) s4)]) O ?_ ?_
 intro Ik5 k5 hk5 O;cbv;refine kV ?_;intro x7 O;cbv;refine jk hS [] [1,5,6,7,9,10,11,34] (λs8=>f3 46 [(1,.sl 17 (M.m iM (iY M) all) false),(5,.os 0 0 (S.jD (M.m iP (jh M) s1.2))),(6,sI s1.1),(7,.lv 1 0),(9,.sl 19 (M.m iW (ja M) s.objects) false),(10,sI (S.len (M.m iW (ja M) s.objects))),(11,sI s1.1),(34,.sb s8)] [aR 36 (M.m iP (jh M) s1.2),vR (ja M x7)]) O ?_ ?_
 intro Ik9 k9 hk9 O;cbv;refine jc ?_ ?_
 intro O;cbv;refine jc ?_ ?_
 intro O;cbv;refine kV ?_;exact lu
 exact jv
 exact jv
 intro s8 O;cbv;refine jA hS O rfl ?_ ?_
 intro O;cbv;refine rD hS ?_;cbv;refine kV ?_;intro x12 O;cbv;refine jM hS O lS ?_;exact jv
 exact jv
 intro s4 O;cbv;exact ng
 exact jr
theorem c33 {s:iT}{a:Int}{r:List Int}(O:mZ s a=some r):iI 33 [.agg (jb M s),sI a] (λu=>u=.sl 1 (mI M r) false):=by
 refine jB (je [10,15]) func33 call33 ?_;intro S R hS hR;have q:=sf hM hS;unfold mZ at O;cbv;refine kE hS (je [10,15]) wf [.tO 5 1] [1,5,9,10,11] (λs1=>f3 31 [(1,sI a),(5,.os 0 0 (S.jD (mI M s1.2))),(9,.sl 19 (M.m iW (ja M) s.objects) false),(10,sI (S.len (M.m iW (ja M) s.objects))),(11,sI s1.1)] [aR 1 (mI M s1.2)]) O ?_;intro Ik2 k2 s1 hk2 O e he;subst he;unfold oh at O;cbv;refine jc ?_ ?_
 intro O;cbv;refine jk hS [.tO 5 1] [1,5,9,10,11] (λs4=>f3 31 [(1,sI a),(5,.os 0 0 (S.jD (mI M s4))),(9,.sl 19 (M.m iW (ja M) s.objects) false),(10,sI (S.len (M.m iW (ja M) s.objects))),(11,sI s1.1)] [aR 1 (mI M s4)]) O ?_ ?_
 intro Ik5 k5 hk5 O;cbv;refine kV ?_;intro x7 O;cbv;refine jk hS [] [1,5,7,9,10,11,23] (λs8=>f3 31 [(1,sI a),(5,.os 0 0 (S.jD (mI M s1.2))),(7,.lv 1 0),(9,.sl 19 (M.m iW (ja M) s.objects) false),(10,sI (S.len (M.m iW (ja M) s.objects))),(11,sI s1.1),(23,.sb s8)] [aR 1 (mI M s1.2),vR (ja M x7)]) O ?_ ?_
 intro Ik9 k9 hk9 O;cbv;refine jc ?_ ?_<;>exact jv
 intro s8 O;cbv;refine jA hS O rfl ?_ ?_
 intro O;cbv;refine jM hS O lS ?_;exact jv
 exact jv
 intro s4 O;cbv;exact ng
 exact jr
end
section
variable {M:kM}(hM:M=jT)
include hM
theorem c215 {pe:jX}{r:Bool}(O:LU pe=some r):iI 215 [.agg (mf M pe)] (λu=>u=.sb r):=by
 refine jB (je [2,12]) func215 call215 ?_;intro S R hS hR;have q:=sf hM hS;unfold LU at O;cbv;refine jk hS [] [1,36] (λs1=>f3 63 [(1,.lv 0 0),(36,.sb s1)] [vR (mf M pe)]) O ?_ ?_
 intro Ik2 k2 hk2 O;cbv;refine jc ?_ ?_
 exact jv
 intro O;cbv;refine jc ?_ ?_
 exact jv
 intro O;cbv;refine jc ?_ ?_
 exact jv
 intro O;cbv;refine jc ?_ ?_<;>exact jv
 intro s1 O;cbv;refine jA hS O rfl ?_ ?_
 exact jr
 intro O;cbv;refine kE hS (je [2,12]) wf [] [1,3] (λs4=>f3 63 [(1,.lv 0 0),(3,sI s4)] [vR (mf M pe)]) O ?_;intro Ik5 k5 s4 hk5 O e he;subst he;unfold NK at O;cbv;refine jc ?_ ?_
 intro O;cbv;refine jk hS [] [1,3,62] (λs7=>f3 63 [(1,.lv 0 0),(3,sI s4),(62,.sb s7)] [vR (mf M pe)]) O ?_ ?_
 intro Ik8 k8 hk8 O;cbv;refine kV ?_;intro x10 O;cbv;refine jc ?_ ?_
 exact jv
 intro O;cbv;refine kV ?_;exact lu
 intro s7 O;cbv;refine jA hS O rfl ?_ ?_
 exact jr
 exact jv
 exact jr
end
section
variable {M:kM}(hM:M=jT)
include hM
theorem apl {n:Int}{r:List Int}(O:QG n=some r):Pv.FW Tryz.prog JE 237 [sI n] [] 0 (λu s n=>u=.os 0 0 (M.n Int r)/\s=[(0,(aR 1 (mI M r)))]/\n=1):=by
 refine qw (T:=(Bg 0 [] [[(1,true)]])) (mG 0 [] [[(1,true)]]) wf func237 rfl call237 rfl ?_;intro S R hS hR;have q:=sf hM hS;unfold QG at O;cbv;refine kE hS (mG 0 [] [[(1,true)]]) wf [.tO 3 1] [3,5,6] (λU=>f3 15 [(3,.os 0 0 (S.jD (mI M U.2))),(5,sI n),(6,sI U.1)] [aR 1 (mI M U.2)]) O ?_;intro I k2 U J O e he;subst he;unfold Uh at O;cbv;refine jc ?_ ?_
 intro O;cbv;refine jM hS O lS ?_;exact jv
 intro O;cbv;cases O;exact hR _ _ _ aj aj rfl
theorem apm {x:Int}{c1:Int}{r:Bool×Int}(O:oI x c1=some r):Pv.FW Tryz.prog JE 73 [sI x,.lv 0 0] [(0,(vR [sI c1]))] 1 (λu s n=>u=.sb r.1/\s=[(0,(vR [sI r.2]))]/\n=1):=by
 refine PX (T:=(Bg 1 [] [])) (mG 1 [] []) wf func73 rfl call73 rfl [] ?_;intro S R hS hR;have q:=sf hM hS;unfold oI at O;cbv;refine jc ?_ ?_
 exact gY
 intro O;cbv;refine jc ?_ ?_
 exact gY
 intro O;cbv;cases O;exact hR _ _ _ aj aj rfl
end
section
variable {M:kM}(hM:M=jT)
include hM
theorem c81 {f:iP}{id:Int}{p:Int}{n:Int}{r:iZ}(O:uQ f id p n=some r):iI 81 [.agg (jh M f),sI id,sI p,sI n] (λu=>u=.agg (jC M r)):=by
 refine jB jm func81 call81 ?_;intro S R hS hR;have q:=sf hM hS;unfold uQ at O;cbv;exact tu
end
section
variable {M:kM}(hM:M=jT)
include hM
theorem c216 {o:iW}{c1:Int}{r:Bool}(O:uj o c1=some r):iI 216 [.agg (ja M o),.pp [sI c1]] (λu=>u=.sb r):=by
 refine jB jm func216 call216 ?_;intro S R hS hR;have q:=sf hM hS;unfold uj at O;cbv;exact tu
theorem c217 {o:iW}{c1:Int}{r:Bool}(O:CB o c1=some r):iI 217 [.agg (ja M o),.pp [sI c1]] (λu=>u=.sb r):=by
 refine jB jm func217 call217 ?_;intro S R hS hR;have q:=sf hM hS;unfold CB at O;cbv;exact tu
theorem c85 {pe:iZ}{r:Bool}(O:qC pe=some r):iI 85 [.agg (jC M pe)] (λu=>u=.sb r):=by
 refine jB jm func85 call85 ?_;intro S R hS hR;have q:=sf hM hS;unfold qC at O;cbv;exact tu
theorem c145 {n:Int}{r:Int}(O:AL n=some r):iI 145 [sI n] (λu=>u=sI r):=by
 refine jB jm func145 call145 ?_;intro S R hS hR;have q:=sf hM hS;unfold AL at O;cbv;exact tu
theorem c26  {r:Bool}(O:ry=some r):iI 26 [] (λu=>u=.sb r):=by
 cases O;exact akZ
end
section
variable {M:kM}(hM:M=jT)
include hM
theorem c27 {need:List Int}{l:List Int}{sum:Int}{trample:Bool}{r:Bool}(O:pR need l sum trample=some r):iI 27 [.sl 1 (mI M need) false,.sl 1 (mI M l) false,sI sum,.sb trample] (λu=>u=.sb r):=by
 refine jB (je [9,24,28,33]) func27 call27 ?_;intro S R hS hR;have q:=sf hM hS;unfold pR at O;cbv;refine jk hS [] [0,1,2,9] (λs1=>f3 60 [(0,.sl 1 (mI M need) false),(1,.sl 1 (mI M l) false),(2,sI sum),(9,sI s1)] []) O ?_ ?_
 intro Ik2 k2 hk2 O;cbv;refine jA hS O rfl ?_ ?_<;>exact jv
 intro s1 O;cbv;refine jc ?_ ?_
 exact jr
 intro O;cbv;refine kE hS (je [9,24,28,33]) wf [] [0,10,11,12,26,27,28] (λs4=>f3 60 [(0,.sl 1 (mI M need) false),(10,.lv 0 0),(11,.fn 73 [.lv 0 0]),(12,.sb s4.1),(26,.sl 1 (mI M l) false),(27,sI (S.len (mI M l))),(28,sI s4.2.1)] [vR [sI s4.2.2]]) O ?_;intro Ik5 k5 s4 hk5 O e he;subst he;unfold oV at O;cbv;refine jc ?_ ?_
 intro O;cbv;refine jk hS [] [0,10,11,12,26,27,28] (λs7=>f3 60 [(0,.sl 1 (mI M need) false),(10,.lv 0 0),(11,.fn 73 [.lv 0 0]),(12,.sb s7.1),(26,.sl 1 (mI M l) false),(27,sI (S.len (mI M l))),(28,sI s4.2.1)] [vR [sI s7.2]]) O ?_ ?_
 intro Ik8 k8 hk8 O;cbv;refine kV ?_;intro x10 O;cbv;refine jk hS [] [0,10,11,12,13,14,26,27,28,44] (λs11=>f3 60 [(0,.sl 1 (mI M need) false),(10,.lv 0 0),(11,.fn 73 [.lv 0 0]),(12,.sb s4.1),(13,sI s4.2.1),(14,sI x10),(26,.sl 1 (mI M l) false),(27,sI (S.len (mI M l))),(28,sI s4.2.1),(44,.sb s11.1)] [vR [sI s11.2]]) O ?_ ?_
 intro Ik12 k12 hk12 O;cbv;refine uZ hS O (λ_=>apm hM) aj aj rfl rfl rfl rfl ?_;intro y14 O;cbv;refine jc ?_ ?_
 exact jv
 intro O;cbv;refine jc ?_ ?_<;>exact jv
 intro s11 O;cbv;refine jA hS O rfl ?_ ?_
 exact jr
 intro O;cbv;refine jk hS [] [0,10,11,12,26,27,28,56] (λs15=>f3 60 [(0,.sl 1 (mI M need) false),(10,.lv 0 0),(11,.fn 73 [.lv 0 0]),(12,.sb s4.1),(26,.sl 1 (mI M l) false),(27,sI (S.len (mI M l))),(28,sI s4.2.1),(56,.sb s15)] [vR [sI s11.2]]) O ?_ ?_
 intro Ik16 k16 hk16 O;cbv;refine jc ?_ ?_
 intro O;cbv;refine kV ?_;exact lu
 exact jv
 intro s15 O;cbv;refine jA hS O rfl ?_ ?_<;>exact jv
 intro s7 O;cbv;exact ng
 exact jr
theorem ak0 {c:jY}{r:List Int}(O:sJ c=some r):Pv.FW Tryz.prog JE 178 [.agg (mg M c)] [] 0 (λu s n=>u=.os 0 0 (M.n Int r)/\s=[(0,(aR 1 (mI M r)))]/\n=1):=by
 refine qw (T:=(Bg 0 [] [[(1,true)]])) (mG 0 [] [[(1,true)]]) wf func178 rfl call178 rfl ?_;intro S R hS hR;have q:=sf hM hS;unfold sJ at O;cbv;refine jc ?_ ?_
 intro O;cbv;refine Dw hS (e:=(eI .i64)) O aj ?_;intro x1 O;cbv;cases O;exact hR _ _ _ aj aj rfl
 intro O;cbv;refine jc ?_ ?_
 intro O;cbv;refine Dw hS (e:=(eI .i64)) O aj ?_;intro x2 O;cbv;cases O;exact hR _ _ _ aj aj rfl
 intro O;cbv;refine jc ?_ ?_
 intro O;cbv;refine Dw hS (e:=(eI .i64)) O aj ?_;intro C O;cbv;cases O;exact hR _ _ _ aj aj rfl
 intro O;cbv;refine jc ?_ ?_
 intro O;cbv;refine Dw hS (e:=(eI .i64)) O aj ?_;intro I O;cbv;cases O;exact hR _ _ _ aj aj rfl
 intro O;cbv;refine jc ?_ ?_
 intro O;cbv;refine Dw hS (e:=(eI .i64)) O aj ?_;intro x5 O;cbv;cases O;exact hR _ _ _ aj aj rfl
 intro O;cbv;refine jc ?_ ?_
 intro O;cbv;refine qi hS O (λ_=>apl hM) xB ?_;intro y6 O;cbv;cases O;exact hR _ _ _ aj aj rfl
 intro O;cbv;refine jc ?_ ?_
 intro O;cbv;refine qi hS O (λ_=>apl hM) xB ?_;intro J O;cbv;cases O;exact hR _ _ _ aj aj rfl
 intro O;cbv;refine jc ?_ ?_
 exact gY
 intro O;cbv;refine jc ?_ ?_
 intro O;cbv;refine jc ?_ ?_
 intro O;cbv;refine ZP hS O lS lS ?_;intro j8 O;cbv;refine Dw hS (e:=(eI .i64)) O aj ?_;intro g O;cbv;refine wM hS O rfl rfl ?_;intro U _ O;cbv;refine qJ hS hM (e:=(eI .i64)) O lS lS ?_;intro x11 O;cbv;cases O;exact hR _ _ _ aj aj rfl
 intro O;cbv;cases O;exact hR _ _ _ aj aj rfl
 intro O;cbv;cases O;exact hR _ _ _ aj aj rfl
end
section
variable {M:kM}(hM:M=jT)
include hM
theorem anw {s:List iW}{U:Int}{r:Int}(O:jF s (λa0=>uj a0 U)=some r):iI 114 [.sl 19 (M.m iW (ja M) s) false,.fn 216 [.pp [sI U]]] (λu=>u=sI r):=by
 refine jB jm func114 call114 ?_;intro S R hS hR;have q:=sf hM hS;unfold jF at O;cbv;refine kE hS jm wf [] [0,1,7,8] (λT=>f3 19 [(0,.sl 19 (M.m iW (ja M) s) false),(1,.fn 216 [.pp [sI U]]),(7,sI (S.len (M.m iW (ja M) s))),(8,sI T)] []) O ?_;intro I k2 T J O e he;subst he;unfold kG at O;cbv;refine jc ?_ ?_
 intro O;cbv;refine kV ?_;intro C O;cbv;refine jK hS O (λ_=>c216 hM) ?_;intro g O;cbv;refine jA hS O rfl ?_ ?_
 exact jr
 exact jv
 exact jr
theorem anx {s:List iW}{U:Int}{r:Int}(O:jF s (λa0=>CB a0 U)=some r):iI 114 [.sl 19 (M.m iW (ja M) s) false,.fn 217 [.pp [sI U]]] (λu=>u=sI r):=by
 refine jB jm func114 call114 ?_;intro S R hS hR;have q:=sf hM hS;unfold jF at O;cbv;refine kE hS jm wf [] [0,1,7,8] (λT=>f3 19 [(0,.sl 19 (M.m iW (ja M) s) false),(1,.fn 217 [.pp [sI U]]),(7,sI (S.len (M.m iW (ja M) s))),(8,sI T)] []) O ?_;intro I k2 T J O e he;subst he;unfold kG at O;cbv;refine jc ?_ ?_
 intro O;cbv;refine kV ?_;intro C O;cbv;refine jK hS O (λ_=>c217 hM) ?_;intro g O;cbv;refine jA hS O rfl ?_ ?_
 exact jr
 exact jv
 exact jr
theorem anz {s:List iZ}{r:Int}(O:qx s qC=some r):iI 149 [.sl 15 (M.m iZ (jC M) s) false,.fn 85 []] (λu=>u=sI r):=by
 refine jB jm func149 call149 ?_;intro S R hS hR;have q:=sf hM hS;unfold qx at O;cbv;refine kE hS jm wf [] [0,1,7,8] (λU=>f3 19 [(0,.sl 15 (M.m iZ (jC M) s) false),(1,.fn 85 []),(7,sI (S.len (M.m iZ (jC M) s))),(8,sI U)] []) O ?_;intro J k2 U T O e he;subst he;unfold qH at O;cbv;refine jc ?_ ?_
 intro O;cbv;refine kV ?_;intro I O;cbv;refine jK hS O (λ_=>c85 hM) ?_;intro C O;cbv;refine jA hS O rfl ?_ ?_
 exact jr
 exact jv
 exact jr
theorem c80 {f:iP}{first:Bool}{r:Bool}(O:nY f first=some r):iI 80 [.agg (jh M f),.sb first] (λu=>u=.sb r):=by
 refine jB jm func80 call80 ?_;intro S R hS hR;have q:=sf hM hS;unfold nY at O;cbv;refine rD hS ?_;cbv;refine rZ hS O (λ_=>c56 hM) ?_;intro y1 O;cbv;refine rZ hS O (λ_=>c56 hM) ?_;intro y2 O;cbv;refine jc ?_ ?_
 exact jr
 intro O;cbv;refine jA hS O rfl ?_ ?_
 intro O;cbv;refine jA hS O rfl ?_ ?_<;>exact jr
 intro O;cbv;refine jA hS O rfl ?_ ?_<;>exact jr
end
section
variable {M:kM}(hM:M=jT)
include hM
theorem c144 {l:List jX}{r:Bool}(O:zG l=some r):iI 144 [.sl 64 (M.m jX (mf M) l) false] (λu=>u=.sb r):=by
 refine jB jm func144 call144 ?_;intro S R hS hR;have q:=sf hM hS;unfold zG at O;cbv;refine kE hS jm wf [] [0,3] (λs1=>f3 19 [(0,.sl 64 (M.m jX (mf M) l) false),(3,sI s1)] []) O ?_;intro Ik2 k2 s1 hk2 O e he;subst he;unfold D7 at O;cbv;refine jc ?_ ?_
 intro O;cbv;refine kV ?_;intro x4 O;cbv;refine jK hS O (λ_=>c215 hM) ?_;intro y5 O;cbv;refine jc ?_ ?_
 exact jr
 exact jv
 exact jr
theorem c75 {a:Int}{b:Int}{r:Int}(O:QH a b=some r):iI 75 [sI a,sI b] (λu=>u=sI r):=by
 refine jB jm func75 call75 ?_;intro S R hS hR;have q:=sf hM hS;unfold QH at O;cbv;refine jK hS O (λ_=>c145 hM) ?_;intro y1 O;cbv;refine jK hS O (λ_=>c145 hM) ?_;intro y2 O;cbv;refine qU hS O (λ_=>c145 hM) xB ?_;exact kS
end
end Go.Proofs.YtlacmdnhabblcaaGreat
