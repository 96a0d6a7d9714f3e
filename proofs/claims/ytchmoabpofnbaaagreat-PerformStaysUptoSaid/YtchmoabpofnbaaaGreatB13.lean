import Derived.Test.YtchmoabpofnbaaaGreatB10
set_option linter.all false
namespace Go.Proofs.YtchmoabpofnbaaaGreat
open Go Go.Pv Proofs.Tryz
set_option maxRecDepth 100000
set_option maxHeartbeats 2000000
variable [GM]
section
variable {M:EncM}(hM:M=mapE)
include hM
theorem aj9 {when:Int}{r:Bool}(O:AL when=some r):fV 311 [sI when] (λu=>u=.sb r):=by
 refine iw gW func311 call311 ?_;intro S R hS hR q;unfold AL at O;cbv;refine gu ?_ ?_
 exact gQ
 intro O;cbv;refine gu ?_ ?_
 exact gQ
 intro O;cbv;refine gu ?_ ?_
 exact gQ
 intro O;cbv;refine gu ?_ ?_
 exact gQ
 intro O;cbv;refine gu ?_ ?_<;>exact gQ
theorem c451 {p:Lj Int}{r:oQ}(O:JV p=some r):fV 451 [.agg [sI p.a0,sI p.a1,sI p.a2,sI p.a3,sI p.a4,sI p.a5]] (λu=>u=.agg (qy M r)):=by
 refine iw (gY [6]) func451 call451 ?_;intro S R hS hR q;unfold JV at O;cbv;refine Vk hS (gY [6]) wf 7 ?_;intro g1 hg1;refine hg1 _ _ ?_;cbv;refine qN hS ?_;cbv;refine hg1 _ _ ?_;cbv;refine qN hS ?_;cbv;refine hg1 _ _ ?_;cbv;refine qN hS ?_;cbv;refine hg1 _ _ ?_;cbv;refine qN hS ?_;cbv;refine hg1 _ _ ?_;cbv;refine qN hS ?_;cbv;refine hg1 _ _ ?_;cbv;refine qN hS ?_;cbv;exact qO
theorem ah4 {mask:Int}{i:Int}{r:Bool}(O:Iz mask i=some r):fV 282 [sI mask,sI i] (λu=>u=.sb r):=by
 refine iw gW func282 call282 ?_;intro S R hS hR q;unfold Iz at O;cbv;refine d_lp hS gW wf [] [0,1,5] (λU=>f3 16 [(0,sI U.1),(1,sI i),(5,sI U.2)] []) O ?_;intro T k2 U J O e he;subst he;unfold MI at O;cbv;refine gu ?_ ?_
 intro O;cbv;refine CB hS O rfl rfl ?_;exact jP
 intro O;cbv;refine CB hS O rfl rfl ?_;exact ja
theorem ad8 {mask:Int}{i:Int}{r:Bool}(O:Dc mask i=some r):fV 394 [sI mask,sI i] (λu=>u=.sb r):=by
 refine iw gW func394 call394 ?_;intro S R hS hR q;unfold Dc at O;cbv;refine d_lp hS gW wf [] [0,1,5] (λU=>f3 16 [(0,sI U.1),(1,sI i),(5,sI U.2)] []) O ?_;intro T k2 U J O e he;subst he;unfold MJ at O;cbv;refine gu ?_ ?_
 intro O;cbv;refine CB hS O rfl rfl ?_;exact jP
 intro O;cbv;refine CB hS O rfl rfl ?_;exact ja
theorem aka {b:qx}{n:Int}{r:Bool}(O:DJ b n=some r):fV 459 [.agg (C9 M b),sI n] (λu=>u=.sb r):=by
 refine iw gW func459 call459 ?_;intro S R hS hR q;unfold DJ at O;cbv;refine gu ?_ ?_
 exact gQ
 intro O;cbv;refine gu ?_ ?_
 exact gQ
 intro O;cbv;refine gu ?_ ?_
 exact gQ
 intro O;cbv;refine gu ?_ ?_<;>exact gQ
theorem c491 {i:Int}{r:ByteArray}(O:rJ i=some r):fV 491 [sI i] (λu=>u=.str r):=by
 refine iw gW func491 call491 ?_;intro S R hS hR q;unfold rJ at O;cbv;obtain⟨j1,hj1,ej1,O⟩:=ng O;refine vO hS rfl ⟨j1,hj1,ej1,?_⟩;rcases lt6 hj1 with rfl|rfl|rfl|rfl|rfl|rfl
 cbv;exact qO
 cbv;exact qO
 cbv;exact qO
 cbv;exact qO
 cbv;exact qO
 cbv;exact qO
theorem c400 {s:List ByteArray}{r:List ByteArray}(O:slices_Clone_string s=some r):fV 400 [.sl 1 (M.m ByteArray eS s) false] (λu=>u=.sl 1 (M.m ByteArray eS r) false):=by
 refine iw gW func400 call400 ?_;intro S R hS hR q;unfold slices_Clone_string at O;cbv;refine Gs hS hM O rfl aW ?_ ?_
 intro O;cbv;cases O;exact hR _ bK
 intro O;cbv;refine d_room hS O d_e ?_;exact gQ
theorem akb {kind:Int}{r:ByteArray}(O:GU kind=some r):fV 380 [sI kind] (λu=>u=.str r):=by
 refine iw gW func380 call380 ?_;intro S R hS hR q;unfold GU at O;cbv;refine gu ?_ ?_
 exact gQ
 intro O;cbv;refine gu ?_ ?_
 exact gQ
 intro O;cbv;refine gu ?_ ?_<;>exact gQ
theorem TD {s:GState}{p:Int}{r:Bool}(O:kS s p=some r):fV 207 [.agg (eGState M s),sI p] (λu=>u=.sb r):=by
 refine iw gW func207 call207 ?_;intro S R hS hR q;unfold kS at O;cbv;refine gu ?_ ?_
 intro O;cbv;refine gu ?_ ?_
 intro O;cbv;refine lH ?_;exact ja
 exact gQ
 exact gQ
theorem c130 {s:List Int}{r:List Int}(O:slices_Clone_int s=some r):fV 130 [.sl 1 (mI M s) false] (λu=>u=.sl 1 (mI M r) false):=by
 refine iw gW func130 call130 ?_;intro S R hS hR q;unfold slices_Clone_int at O;cbv;refine Gs hS hM O rfl aW ?_ ?_
 intro O;cbv;cases O;exact hR _ bK
 intro O;cbv;refine d_room hS O d_e ?_;exact gQ
theorem c44 {s:GState}{p:Int}{r:Bool}(O:tN s p=some r):fV 44 [.agg (eGState M s),sI p] (λu=>u=.sb r):=by
 refine iw gW func44 call44 ?_;intro S R hS hR q;unfold tN at O;cbv;refine gu ?_ ?_
 intro O;cbv;refine gu ?_ ?_
 intro O;cbv;refine lH ?_;exact ja
 exact gQ
 exact gQ
theorem Yq {U:Int}{J:Int}{T:Int}{r:Bool}(O:kK U J T=some r):fV 457 [sI U,sI J,sI T] (λu=>u=.sb r):=by
 refine iw gW func457 call457 ?_;intro S R hS hR q;unfold kK at O;cbv;refine gu ?_ ?_
 exact gQ
 intro O;cbv;refine gu ?_ ?_<;>exact gQ
theorem c219 {s:List oJ}{r:List oJ}(O:mY s=some r):fV 219 [Vr M s] (λu=>u=Vr M r):=by
 refine iw gW func219 call219 ?_;intro S R hS hR q;unfold mY at O;cbv;refine Gs hS hM O rfl aW ?_ ?_
 exact fJ
 intro O;cbv;refine d_room hS O d_e ?_;exact gQ
theorem ad9 {s:List jv}{r:List jv}(O:jL s=some r):fV 136 [xX M s] (λu=>u=xX M r):=by
 refine iw gW func136 call136 ?_;intro S R hS hR q;unfold jL at O;cbv;refine Gs hS hM O rfl aW ?_ ?_
 exact fJ
 intro O;cbv;refine d_room hS O d_e ?_;exact gQ
theorem akc {stamps:List Int}{i:Int}{r:Int}(O:wJ stamps i=some r):fV 331 [.sl 1 (mI M stamps) false,sI i] (λu=>u=sI r):=by
 refine iw gW func331 call331 ?_;intro S R hS hR q;unfold wJ at O;cbv;refine gu ?_ ?_
 intro O;cbv;refine lH ?_;exact ja
 exact gQ
theorem akd {mask:Int}{r:Bool}(O:DF mask=some r):fV 319 [sI mask] (λu=>u=.sb r):=by
 refine iw gW func319 call319 ?_;intro S R hS hR q;unfold DF at O;cbv;refine gu ?_ ?_
 intro O;cbv;refine gu ?_ ?_<;>exact gQ
 exact gQ
theorem c490 {i:Int}{r:ByteArray}(O:qE i=some r):fV 490 [sI i] (λu=>u=.str r):=by
 refine iw gW func490 call490 ?_;intro S R hS hR q;unfold qE at O;cbv;obtain⟨j1,hj1,ej1,O⟩:=ng O;refine vO hS rfl ⟨j1,hj1,ej1,?_⟩;rcases lt2 hj1 with rfl|rfl
 cbv;exact qO
 cbv;exact qO
theorem s470 {s:List ByteArray}{i:Int}{v:List ByteArray}{r:List ByteArray}(O:BO s i v=some r):Pv.FnS Tryz.prog glF 470 [.os 0 0 (M.n ByteArray s),sI i,.os 1 0 (M.n ByteArray v)] [(0,(aR 1 (M.m ByteArray eS s))),(1,(aR 1 (M.m ByteArray eS v)))] 2 (λu st n=>u=.os 2 0 (M.n ByteArray r)/\st=[(0,none),(1,none),(2,(aR 1 (M.m ByteArray eS r)))]/\n=3):=QO hM O
theorem TE {n:Int}{least:Int}{most:Int}{r:Bool}(O:xW n least most=some r):fV 465 [sI n,sI least,sI most] (λu=>u=.sb r):=by
 refine iw gW func465 call465 ?_;intro S R hS hR q;unfold xW at O;cbv;refine gu ?_ ?_<;>exact gQ
theorem c86 {n:Int}{least:Int}{most:Int}{r:Bool}(O:uS n least most=some r):fV 86 [sI n,sI least,sI most] (λu=>u=.sb r):=by
 refine iw gW func86 call86 ?_;intro S R hS hR q;unfold uS at O;cbv;refine gu ?_ ?_<;>exact gQ
theorem TF {n:Int}{most:Int}{r:Bool}(O:jG n most=some r):fV 485 [sI n,sI most] (λu=>u=.sb r):=by
 refine iw gW func485 call485 ?_;intro S R hS hR q;unfold jG at O;cbv;refine gu ?_ ?_<;>exact gQ
theorem c50 {l:List GOption}{r:List GOption}(O:zD l=some r):fV 50 [mQ M l] (λu=>u=mQ M r):=by
 refine iw gW func50 call50 ?_;intro S R hS hR q;unfold zD at O;cbv;refine d_room hS O d_e ?_;exact gQ
theorem c208 {pe:GEvent}{r:Bool}(O:qc pe=some r):fV 208 [.agg (eGEvent M pe)] (λu=>u=.sb r):=by
 refine iw gW func208 call208 ?_;intro S R hS hR q;unfold qc at O;cbv;refine gu ?_ ?_<;>exact gQ
theorem c449 {kind:Int}{r:Bool}(O:yX kind=some r):fV 449 [sI kind] (λu=>u=.sb r):=by
 refine iw gW func449 call449 ?_;intro S R hS hR q;unfold yX at O;cbv;refine gu ?_ ?_<;>exact gQ
theorem c48 {l:List Int}{r:List Int}(O:Ej l=some r):fV 48 [.sl 1 (mI M l) false] (λu=>u=.sl 1 (mI M r) false):=by
 refine iw gW func48 call48 ?_;intro S R hS hR q;unfold Ej at O;cbv;refine d_room hS O d_e ?_;exact gQ
theorem c156 {l:List Int}{r:List Int}(O:yS l=some r):fV 156 [.sl 1 (mI M l) false] (λu=>u=.sl 1 (mI M r) false):=by
 refine iw gW func156 call156 ?_;intro S R hS hR q;unfold yS at O;cbv;refine d_room hS O d_e ?_;exact gQ
theorem c195 {c:GCard}{r:Bool}(O:JY c=some r):fV 195 [.agg (eGCard M c)] (λu=>u=.sb r):=by
 refine iw gW func195 call195 ?_;intro S R hS hR q;unfold JY at O;cbv;refine gu ?_ ?_<;>exact gQ
theorem c386 {mask:Int}{r:Bool}(O:Tn mask=some r):fV 386 [sI mask] (λu=>u=.sb r):=by
 refine iw gW func386 call386 ?_;intro S R hS hR q;unfold Tn at O;cbv;refine gu ?_ ?_<;>exact gQ
theorem c193 {mask:Int}{r:Bool}(O:JH mask=some r):fV 193 [sI mask] (λu=>u=.sb r):=by
 refine iw gW func193 call193 ?_;intro S R hS hR q;unfold JH at O;cbv;refine gu ?_ ?_<;>exact gQ
theorem c45 {n:Int}{r:Bool}(O:l7 n=some r):fV 45 [sI n] (λu=>u=.sb r):=by
 refine iw gW func45 call45 ?_;intro S R hS hR q;unfold l7 at O;cbv;refine gu ?_ ?_<;>exact gQ
theorem ake {c:Int}{r:Bool}(O:KU c=some r):fV 280 [.si .u8 c] (λu=>u=.sb r):=by
 refine iw gW func280 call280 ?_;intro S R hS hR q;unfold KU at O;cbv;refine gu ?_ ?_<;>exact gQ
theorem c431 {o:GObject}{c1:Int}{r:Bool}(O:zo o c1=some r):fV 431 [.agg (eGObject M o),.pp [sI c1]] (λu=>u=.sb r):=by
 refine iw gW func431 call431 ?_;intro S R hS hR q;unfold zo at O;cbv;exact qO
theorem akf {k:Int}{c1:Int}{r:Bool}(O:pR k c1=some r):fV 250 [sI k,.pp [sI c1]] (λu=>u=.sb r):=by
 refine iw gW func250 call250 ?_;intro S R hS hR q;unfold pR at O;cbv;exact qO
theorem c221 {o:GObject}{c1:Int}{r:Bool}(O:Dh o c1=some r):fV 221 [.agg (eGObject M o),.pp [sI c1]] (λu=>u=.sb r):=by
 refine iw gW func221 call221 ?_;intro S R hS hR q;unfold Dh at O;cbv;exact qO
theorem c469 {s:ByteArray}{c1:ByteArray}{r:Bool}(O:Bl s c1=some r):fV 469 [.str s,.pp [.str c1]] (λu=>u=.sb r):=by
 refine iw gW func469 call469 ?_;intro S R hS hR q;unfold Bl at O;cbv;exact qO
theorem agi {mask:Int}{key:Int}{r:Bool}(O:sW mask key=some r):fV 177 [sI mask,sI key] (λu=>u=.sb r):=by
 refine iw gW func177 call177 ?_;intro S R hS hR q;unfold sW at O;cbv;exact qO
theorem c232 {o:GObject}{r:GObject}(O:Gw o=some r):fV 232 [.agg (eGObject M o)] (λu=>u=.agg (eGObject M r)):=by
 refine iw gW func232 call232 ?_;intro S R hS hR q;unfold Gw at O;cbv;exact qO
end
end Go.Proofs.YtchmoabpofnbaaaGreat
