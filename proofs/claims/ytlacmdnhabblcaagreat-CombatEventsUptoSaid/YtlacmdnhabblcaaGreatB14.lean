import Derived.Test.YtlacmdnhabblcaaGreatB12
import Derived.Test.YtlacmdnhabblcaaGreatB13
set_option linter.all false
namespace Go.Proofs.YtlacmdnhabblcaaGreat
open Go Go.Pv Proofs.Tryz
set_option maxRecDepth 100000
set_option maxHeartbeats 2000000
section
variable {M:kM}(hM:M=jT)
include hM
theorem c65 {x:iL}{c1:iL}{r:Bool}(O:uO x c1=some r):iI 65 [.agg (iQ M x),.pp (iQ M c1)] (λu=>u=.sb r):=by
 refine jB jm func65 call65 ?_;intro S R hS hR;have q:=sf hM hS;unfold uO at O;cbv;exact tu
theorem c56 {mask:Int}{key:Int}{r:Bool}(O:kZ mask key=some r):iI 56 [sI mask,sI key] (λu=>u=.sb r):=by
 refine jB jm func56 call56 ?_;intro S R hS hR;have q:=sf hM hS;unfold kZ at O;cbv;exact tu
theorem c268 {o:iW}{r:iW}(O:Lh o=some r):iI 268 [.agg (ja M o)] (λu=>u=.agg (ja M r)):=by
 refine jB jm func268 call268 ?_;intro S R hS hR;have q:=sf hM hS;unfold Lh at O;cbv;exact tu
theorem c267 {o:iW}{r:iW}(O:Px o=some r):iI 267 [.agg (ja M o)] (λu=>u=.agg (ja M r)):=by
 refine jB jm func267 call267 ?_;intro S R hS hR;have q:=sf hM hS;unfold Px at O;cbv;exact tu
theorem aiE {mask:Int}{key:Int}{r:Bool}(O:yR mask key=some r):iI 150 [sI mask,sI key] (λu=>u=.sb r):=by
 refine jB jm func150 call150 ?_;intro S R hS hR;have q:=sf hM hS;unfold yR at O;cbv;exact tu
theorem aeg {a:Int}{b:Int}{r:Bool}(O:rq a b=some r):iI 360 [sI a,sI b] (λu=>u=.sb r):=by
 refine jB jm func360 call360 ?_;intro S R hS hR;have q:=sf hM hS;unfold rq at O;cbv;exact tu
theorem c331  {r:List ByteArray}(O:yf =some r):iI 331 [] (λu=>u=.sl 1 (M.m ByteArray eS r) false):=by
 refine jB jm func331 call331 ?_;intro S R hS hR;have q:=sf hM hS;unfold yf at O;cbv;exact tu
theorem aoF  {r:List ByteArray}(O:wX =some r):iI 332 [] (λu=>u=.sl 1 (M.m ByteArray eS r) false):=by
 refine jB jm func332 call332 ?_;intro S R hS hR;have q:=sf hM hS;unfold wX at O;cbv;exact tu
theorem c419  {r:List ByteArray}(O:zA =some r):iI 419 [] (λu=>u=.sl 1 (M.m ByteArray eS r) false):=by
 refine jB jm func419 call419 ?_;intro S R hS hR;have q:=sf hM hS;unfold zA at O;cbv;exact tu
theorem c421  {r:List ByteArray}(O:zB =some r):iI 421 [] (λu=>u=.sl 1 (M.m ByteArray eS r) false):=by
 refine jB jm func421 call421 ?_;intro S R hS hR;have q:=sf hM hS;unfold zB at O;cbv;exact tu
theorem c420  {r:List ByteArray}(O:Bl =some r):iI 420 [] (λu=>u=.sl 1 (M.m ByteArray eS r) false):=by
 refine jB jm func420 call420 ?_;intro S R hS hR;have q:=sf hM hS;unfold Bl at O;cbv;exact tu
theorem c422  {r:List ByteArray}(O:Bo =some r):iI 422 [] (λu=>u=.sl 1 (M.m ByteArray eS r) false):=by
 refine jB jm func422 call422 ?_;intro S R hS hR;have q:=sf hM hS;unfold Bo at O;cbv;exact tu
theorem c468  {r:List ByteArray}(O:KR =some r):iI 468 [] (λu=>u=.sl 1 (M.m ByteArray eS r) false):=by
 refine jB jm func468 call468 ?_;intro S R hS hR;have q:=sf hM hS;unfold KR at O;cbv;exact tu
theorem c469  {r:List ByteArray}(O:KW =some r):iI 469 [] (λu=>u=.sl 1 (M.m ByteArray eS r) false):=by
 refine jB jm func469 call469 ?_;intro S R hS hR;have q:=sf hM hS;unfold KW at O;cbv;exact tu
theorem c187 {c:jI}{r:Bool}(O:Bi c=some r):iI 187 [.agg (lJ M c)] (λu=>u=.sb r):=by
 refine jB jm func187 call187 ?_;intro S R hS hR;have q:=sf hM hS;unfold Bi at O;cbv;exact tu
theorem c15  {r:Bool}(O:xZ=some r):iI 15 [] (λu=>u=.sb r):=by
 cases O;exact akP
end
section
variable {M:kM}(hM:M=jT)
include hM
theorem c356 {l:List Int}{needs:List (List Bool)}{i:Int}{r:List Int}(O:Fh l needs i=some r):iI 356 [.sl 1 (mI M l) false,.sl 1 (M.m (List Bool) (eL M 1 eB) needs) false,sI i] (λu=>u=.sl 1 (mI M r) false):=by
 refine jB (je [9,25,26]) func356 call356 ?_;intro S R hS hR;have q:=sf hM hS;unfold Fh at O;cbv;refine kE hS (je [9,25,26]) wf [.tO 7 1] [0,1,2,7,8] (λs1=>f3 70 [(0,.sl 1 (mI M l) false),(1,.sl 1 (M.m (List Bool) (eL M 1 eB) needs) false),(2,sI i),(7,.os 0 0 (S.jD (mI M s1.2))),(8,sI s1.1)] [aR 1 (mI M s1.2)]) O ?_;intro Ik2 k2 s1 hk2 O e he;subst he;unfold BR at O;cbv;refine jc ?_ ?_
 intro O;cbv;refine jk hS [.tO 7 1] [0,1,2,7,8] (λs4=>f3 70 [(0,.sl 1 (mI M l) false),(1,.sl 1 (M.m (List Bool) (eL M 1 eB) needs) false),(2,sI i),(7,.os 0 0 (S.jD (mI M s4))),(8,sI s1.1)] [aR 1 (mI M s4)]) O ?_ ?_
 intro Ik5 k5 hk5 O;cbv;refine kV ?_;intro x7 O;cbv;refine jK hS O (λ_=>amT hM) ?_;intro y8 O;cbv;refine jA hS O rfl ?_ ?_
 intro O;cbv;refine kV ?_;intro x9 O;cbv;refine jM hS O lS ?_;exact jv
 exact jv
 intro s4 O;cbv;exact ng
 intro O;cbv;refine kE hS (je [9,25,26]) wf [] [0,1,7,9] (λs10=>f3 70 [(0,.sl 1 (mI M l) false),(1,.sl 1 (M.m (List Bool) (eL M 1 eB) needs) false),(7,.os 0 0 (S.jD (mI M s10.2))),(9,sI s10.1)] [aR 1 (mI M s10.2)]) O ?_;intro Ik11 k11 s10 hk11 O e he;subst he;unfold Iw at O;cbv;refine jc ?_ ?_
 intro O;cbv;refine kE hS (je [9,25,26]) wf [] [0,1,7,9,10] (λs13=>f3 70 [(0,.sl 1 (mI M l) false),(1,.sl 1 (M.m (List Bool) (eL M 1 eB) needs) false),(7,.os 0 0 (S.jD (mI M s13.2))),(9,sI s10.1),(10,sI s13.1)] [aR 1 (mI M s13.2)]) O ?_;intro Ik14 k14 s13 hk14 O e he;subst he;unfold BQ at O;cbv;refine jc ?_ ?_
 intro O;cbv;refine jk hS [] [0,1,7,9,10] (λs16=>f3 70 [(0,.sl 1 (mI M l) false),(1,.sl 1 (M.m (List Bool) (eL M 1 eB) needs) false),(7,.os 0 0 (S.jD (mI M s16))),(9,sI s10.1),(10,sI s13.1)] [aR 1 (mI M s16)]) O ?_ ?_
 intro Ik17 k17 hk17 O;cbv;refine jk hS [] [0,1,7,9,10,61] (λs19=>f3 70 [(0,.sl 1 (mI M l) false),(1,.sl 1 (M.m (List Bool) (eL M 1 eB) needs) false),(7,.os 0 0 (S.jD (mI M s13.2))),(9,sI s10.1),(10,sI s13.1),(61,.sb s19)] [aR 1 (mI M s13.2)]) O ?_ ?_
 intro Ik20 k20 hk20 O;cbv;refine rD hS ?_;cbv;refine wM hS O lS rfl ?_;intro j22 _ O;cbv;refine qJ hS hM O rfl lS ?_;intro x23 O;cbv;refine kV ?_;intro x24 O;cbv;refine rZ hS O (λ_=>amT hM) ?_;intro y25 O;cbv;refine jA hS O rfl ?_ ?_
 intro O;cbv;refine kV ?_;intro x26 O;cbv;refine aaP hS O (λ_=>amS hM) xB (λ_=>rfl) ?_;exact lu
 exact jv
 intro s19 O;cbv;refine jA hS O rfl ?_ ?_
 intro O;cbv;refine kV ?_;intro x28 O;cbv;refine jM hS O lS ?_;exact jv
 exact jv
 intro s16 O;cbv;exact ng
 exact jv
 exact jr
end
section
variable {M:kM}(hM:M=jT)
include hM
theorem c193 {o:iW}{cards:Int}{ji:Int}{r:Bool}(O:Py o cards ji=some r):iI 193 [.agg (ja M o),sI cards,sI ji] (λu=>u=.sb r):=by
 refine jB (je [2,6,10]) func193 call193 ?_;intro S R hS hR;have q:=sf hM hS;unfold Py at O;cbv;refine jk hS [] [1,2,3,52] (λs1=>f3 148 [(1,sI cards),(2,sI ji),(3,.lv 0 0),(52,.sb s1)] [vR (ja M o)]) O ?_ ?_
 intro Ik2 k2 hk2 O;cbv;refine jc ?_ ?_
 exact jv
 intro O;cbv;refine jc ?_ ?_
 exact jv
 intro O;cbv;refine jc ?_ ?_
 exact jv
 intro O;cbv;refine jc ?_ ?_
 exact jv
 intro O;cbv;refine jc ?_ ?_
 exact jv
 intro O;cbv;refine jc ?_ ?_
 exact jv
 intro O;cbv;refine jc ?_ ?_
 exact jv
 intro O;cbv;refine jc ?_ ?_<;>exact jv
 intro s1 O;cbv;refine jA hS O rfl ?_ ?_
 exact jr
 intro O;cbv;refine jk hS [] [1,2,3,90] (λs4=>f3 148 [(1,sI cards),(2,sI ji),(3,.lv 0 0),(90,.sb s4)] [vR (ja M o)]) O ?_ ?_
 intro Ik5 k5 hk5 O;cbv;refine jc ?_ ?_
 exact jv
 intro O;cbv;refine jc ?_ ?_
 exact jv
 intro O;cbv;refine jc ?_ ?_
 exact jv
 intro O;cbv;refine jc ?_ ?_
 exact jv
 intro O;cbv;refine jc ?_ ?_
 exact jv
 intro O;cbv;refine jc ?_ ?_
 exact jv
 intro O;cbv;refine jc ?_ ?_<;>exact jv
 intro s4 O;cbv;refine jA hS O rfl ?_ ?_
 exact jr
 intro O;cbv;refine jk hS [] [3,116] (λs7=>f3 148 [(3,.lv 0 0),(116,.sb s7)] [vR (ja M o)]) O ?_ ?_
 intro Ik8 k8 hk8 O;cbv;refine jK hS O (λ_=>c266 hM) ?_;intro y10 O;cbv;refine jc ?_ ?_
 exact jv
 intro O;cbv;refine jc ?_ ?_
 exact jv
 intro O;cbv;refine jc ?_ ?_
 exact jv
 intro O;cbv;refine jc ?_ ?_<;>exact jv
 intro s7 O;cbv;refine jA hS O rfl ?_ ?_
 exact jr
 intro O;cbv;refine rD hS ?_;cbv;refine jc ?_ ?_
 exact jr
 intro O;cbv;refine rZ hS O (λ_=>c267 hM) ?_;intro y11 O;cbv;replace O:=pO O;refine jc ?_ ?_
 intro O;cbv;refine rZ hS O (λ_=>c268 hM) ?_;intro y13 O;cbv;replace O:=pO O;refine jc ?_ ?_
 intro O;cbv;refine jc ?_ ?_
 intro O;cbv;refine jc ?_ ?_
 intro O;cbv;replace O:=pO O;exact tu
 exact jr
 exact jr
 exact jr
 exact jr
theorem c183 {s:ByteArray}{r:Bool}(O:Rx s=some r):iI 183 [.str s] (λu=>u=.sb r):=by
 refine jB (je [2,12,16]) func183 call183 ?_;intro S R hS hR;have q:=sf hM hS;unfold Rx at O;cbv;refine jk hS [] [0,25] (λs1=>f3 70 [(0,.str s),(25,.sb s1)] []) O ?_ ?_
 intro Ik2 k2 hk2 O;cbv;refine jc ?_ ?_
 exact jv
 intro O;cbv;refine jc ?_ ?_
 exact jv
 intro O;cbv;refine QR hS O rfl rfl ?_;intro x4 O;cbv;refine jK hS O (λ_=>aoE hM) ?_;intro y5 O;cbv;refine jc ?_ ?_
 exact jv
 intro O;cbv;refine QR hS O rfl lS ?_;exact lu
 intro s1 O;cbv;refine jA hS O rfl ?_ ?_
 exact jr
 intro O;cbv;refine kE hS (je [2,12,16]) wf [] [0,3] (λs7=>f3 70 [(0,.str s),(3,sI s7)] []) O ?_;intro Ik8 k8 s7 hk8 O e he;subst he;unfold U1 at O;cbv;refine jc ?_ ?_
 intro O;cbv;refine jk hS [] [0,3,54] (λs10=>f3 70 [(0,.str s),(3,sI s7),(54,.sb s10)] []) O ?_ ?_
 intro Ik11 k11 hk11 O;cbv;refine QR hS O rfl rfl ?_;intro x13 O;cbv;refine jK hS O (λ_=>aoE hM) ?_;intro y14 O;cbv;refine jc ?_ ?_
 intro O;cbv;refine QR hS O rfl rfl ?_;intro x15 O;cbv;refine jc ?_ ?_
 intro O;cbv;refine QR hS O rfl rfl ?_;exact lu
 intro O;cbv;refine QR hS O rfl rfl ?_;intro x17 O;cbv;refine jc ?_ ?_
 intro O;cbv;refine QR hS O rfl rfl ?_;exact lu
 exact jv
 exact jv
 intro s10 O;cbv;refine jA hS O rfl ?_ ?_
 exact jr
 intro O;cbv;refine jk hS [] [0,3,69] (λs19=>f3 70 [(0,.str s),(3,sI s7),(69,.sb s19)] []) O ?_ ?_
 intro Ik20 k20 hk20 O;cbv;refine jc ?_ ?_
 intro O;cbv;refine QR hS O rfl rfl ?_;intro x22 O;cbv;refine jc ?_ ?_
 intro O;cbv;refine QR hS O rfl lS ?_;exact lu
 exact jv
 exact jv
 intro s19 O;cbv;refine jA hS O rfl ?_ ?_
 exact jr
 exact jv
 exact jr
theorem c274 {c:oH}{r:Int}(O:Io c=some r):iI 274 [.agg (pV M c)] (λu=>u=sI r):=by
 refine jB (je [12,15,16,21]) func274 call274 ?_;intro S R hS hR;have q:=sf hM hS;unfold Io at O;cbv;refine jK hS O (λ_=>agr hM) ?_;intro y1 O;cbv;refine jc ?_ ?_
 exact jr
 intro O;cbv;refine kE hS (je [12,15,16,21]) wf [] [1,3,4,5] (λs2=>f3 24 [(1,.lv 0 0),(3,sI s2.1),(4,sI s2.2.1),(5,sI s2.2.2)] [vR (pV M c)]) O ?_;intro Ik3 k3 s2 hk3 O e he;subst he;unfold JU at O;cbv;refine nJ hS ?_;cbv;refine jc ?_ ?_
 intro O;cbv;refine jk hS [] [1,3,4,5] (λs5=>f3 24 [(1,.lv 0 0),(3,sI s5),(4,sI (S.bin .mul .i64 2 s2.2.1)),(5,sI s2.2.2)] [vR (pV M c)]) O ?_ ?_
 intro Ik6 k6 hk6 O;cbv;refine jk hS [] [1,3,4,5] (λs8=>f3 24 [(1,.lv 0 0),(3,sI s8),(4,sI s2.2.1),(5,sI s2.2.2)] [vR (pV M c)]) O ?_ ?_
 intro Ik9 k9 hk9 O;cbv;refine jk hS [] [1,3,4,5,17] (λs11=>f3 24 [(1,.lv 0 0),(3,sI s2.1),(4,sI s2.2.1),(5,sI s2.2.2),(17,.sb s11)] [vR (pV M c)]) O ?_ ?_
 intro Ik12 k12 hk12 O;cbv;obtain⟨j14,hj14,ej14,O⟩:=oz O;refine tZ hS rfl ⟨j14,hj14,ej14,?_⟩;rcases lt5 hj14 with rfl|rfl|rfl|rfl|rfl
 exact gU
 exact gU
 exact gU
 exact gU
 cbv;exact ng
 intro s11 O;cbv;refine jA hS O rfl ?_ ?_<;>exact jv
 intro s8 O;cbv;exact ng
 intro s5 O;cbv;exact ng
 exact jr
theorem c353 {left:List Int}{r:List Int}(O:BP left=some r):iI 353 [.sl 1 (mI M left) false] (λu=>u=.sl 1 (mI M r) false):=by
 refine jB (je [9,10]) func353 call353 ?_;intro S R hS hR;have q:=sf hM hS;unfold BP at O;cbv;refine kE hS (je [9,10]) wf [.tO 3 1] [0,3,4] (λs1=>f3 33 [(0,.sl 1 (mI M left) false),(3,.os 0 0 (S.jD (mI M s1.2))),(4,sI s1.1)] [aR 1 (mI M s1.2)]) O ?_;intro Ik2 k2 s1 hk2 O e he;subst he;unfold zL at O;cbv;refine jc ?_ ?_
 intro O;cbv;refine jk hS [.tO 3 1] [0,3,4] (λs4=>f3 33 [(0,.sl 1 (mI M left) false),(3,.os 0 0 (S.jD (mI M s4))),(4,sI s1.1)] [aR 1 (mI M s4)]) O ?_ ?_
 intro Ik5 k5 hk5 O;cbv;refine jk hS [] [0,3,4,24] (λs7=>f3 33 [(0,.sl 1 (mI M left) false),(3,.os 0 0 (S.jD (mI M s1.2))),(4,sI s1.1),(24,.sb s7)] [aR 1 (mI M s1.2)]) O ?_ ?_
 intro Ik8 k8 hk8 O;cbv;refine kV ?_;intro x10 O;cbv;refine jc ?_ ?_
 intro O;cbv;refine kV ?_;intro x11 O;cbv;refine tN hS O (λ_=>amS hM) xB (λ_=>rfl) ?_;exact lu
 exact jv
 intro s7 O;cbv;refine jA hS O rfl ?_ ?_
 intro O;cbv;refine kV ?_;intro x13 O;cbv;refine jM hS O lS ?_;exact jv
 exact jv
 intro s4 O;cbv;exact ng
 exact jr
theorem aoG {mask:Int}{r:ByteArray}(O:KQ mask=some r):iI 349 [sI mask] (λu=>u=.str r):=by
 refine jB (je [14,17,25]) func349 call349 ?_;intro S R hS hR;have q:=sf hM hS;unfold KQ at O;cbv;refine jK hS O (λ_=>c416 hM) ?_;intro y1 O;cbv;refine jc ?_ ?_
 exact jr
 intro O;cbv;refine jc ?_ ?_
 exact jr
 intro O;cbv;refine kE hS (je [14,17,25]) wf [] [0,3,4] (λU=>f3 29 [(0,sI mask),(3,.str U.1),(4,sI U.2)] []) O ?_;intro Ik3 k3 U hk3 O e he;subst he;unfold Jg at O;cbv;refine nJ hS ?_;cbv;refine jc ?_ ?_
 intro O;cbv;refine jk hS [] [0,3,4] (λC=>f3 29 [(0,sI mask),(3,.str C),(4,sI U.2)] []) O ?_ ?_
 intro Ik6 k6 g O;cbv;refine aoj hS O rfl rfl ?_;intro x8 O;cbv;refine xW hS O rfl rfl ?_;intro x9 O;cbv;refine xW hS O rfl rfl ?_;intro x10 O;cbv;refine jc ?_ ?_
 intro O;cbv;refine jk hS [] [0,3,4] (λT=>f3 29 [(0,sI mask),(3,.str T),(4,sI U.2)] []) O ?_ ?_
 intro I k12 J O;cbv;refine jc ?_ ?_
 intro O;cbv;refine qK hS O rfl rfl ?_;exact lu
 exact jv
 intro T O;cbv;refine jK hS O (λ_=>amU hM) ?_;intro y15 O;cbv;refine qK hS O rfl rfl ?_;exact lu
 exact jv
 intro C O;cbv;exact ng
 exact jr
theorem c127 {l:List jI}{c:jI}{r:Bool}(O:EZ l c=some r):iI 127 [.sl 17 (M.m jI (lJ M) l) false,.agg (lJ M c)] (λu=>u=.sb r):=by
 refine jB (je [16]) func127 call127 ?_;intro S R hS hR;have q:=sf hM hS;unfold EZ at O;cbv;refine kE hS (je [16]) wf [] [0,3,5] (λs1=>f3 45 [(0,.sl 17 (M.m jI (lJ M) l) false),(3,.lv 0 0),(5,sI s1)] [vR (lJ M c)]) O ?_;intro Ik2 k2 s1 hk2 O e he;subst he;unfold BB at O;cbv;refine jc ?_ ?_
 intro O;cbv;refine kE hS (je [16]) wf [] [0,3,5,6] (λs4=>f3 45 [(0,.sl 17 (M.m jI (lJ M) l) false),(3,.lv 0 0),(5,sI s1),(6,sI s4)] [vR (lJ M c)]) O ?_;intro Ik5 k5 s4 hk5 O e he;subst he;unfold BA at O;cbv;refine kV ?_;intro x7 O;cbv;refine jc ?_ ?_
 intro O;cbv;refine kV ?_;intro x8 O;cbv;refine kV ?_;intro x9 O;cbv;refine jk hS [] [0,3,5,6,44] (λs10=>f3 45 [(0,.sl 17 (M.m jI (lJ M) l) false),(3,.lv 0 0),(5,sI s1),(6,sI s4),(44,.sb s10)] [vR (lJ M c)]) O ?_ ?_
 intro Ik11 k11 hk11 O;cbv;refine jc ?_ ?_
 intro O;cbv;refine jK hS O (λ_=>c190 hM) ?_;exact lu
 exact jv
 intro s10 O;cbv;refine jA hS O rfl ?_ ?_
 exact jr
 exact jv
 exact jv
 exact jr
theorem c270 {s:iT}{jQ:Int}{l9:Int}{r:List Int}(O:Pz s jQ l9=some r):iI 270 [.agg (jb M s),sI jQ,sI l9] (λu=>u=.sl 1 (mI M r) false):=by
 refine jB (je [12]) func270 call270 ?_;intro S R hS hR;have q:=sf hM hS;unfold Pz at O;cbv;refine jc ?_ ?_
 intro O;cbv;refine jK hS O (λ_=>aiD hM) ?_;exact kS
 intro O;cbv;refine jc ?_ ?_
 intro O;cbv;refine jK hS O (λ_=>aiD hM) ?_;exact kS
 intro O;cbv;refine jk hS [] [1,2,3,26] (λs3=>f3 55 [(1,sI jQ),(2,sI l9),(3,.lv 0 0),(26,.sb s3)] [vR (jb M s)]) O ?_ ?_
 intro Ik4 k4 hk4 O;cbv;refine jc ?_ ?_<;>exact jv
 intro s3 O;cbv;refine jA hS O rfl ?_ ?_
 intro O;cbv;cases O;exact hR _ aj
 intro O;cbv;refine jc ?_ ?_
 intro O;cbv;refine kV ?_;intro x6 O;cbv;refine jK hS O (λ_=>aiD hM) ?_;exact kS
 intro O;cbv;refine jc ?_ ?_
 intro O;cbv;refine kV ?_;intro x8 O;cbv;refine jK hS O (λ_=>aiD hM) ?_;exact kS
 intro O;cbv;refine jc ?_ ?_
 intro O;cbv;refine kV ?_;intro x10 O;cbv;refine jK hS O (λ_=>aiD hM) ?_;exact kS
 intro O;cbv;cases O;exact hR _ aj
end
end Go.Proofs.YtlacmdnhabblcaaGreat
