import Derived.Test.YtchmoabpofnbaaaGreatB10
set_option linter.all false
namespace Go.Proofs.YtchmoabpofnbaaaGreat
open Go Go.Pv Proofs.Tryz
set_option maxRecDepth 100000
set_option maxHeartbeats 2000000
variable [GM]
section
variable {M:EncM}(hM:M=mapE)
include hM
theorem c186 {s:List GOption}{v:GOption}{r:Int}(O:wP s v=some r):fV 186 [mQ M s,.agg (eGOption M v)] (λu=>u=sI r):=by
 refine iw gW func186 call186 ?_;intro S R hS hR q;unfold wP at O;cbv;refine d_lp hS gW wf [] [0,3,7,8] (λs1=>f3 19 [(0,mQ M s),(3,.lv 0 0),(7,sI (S.len (kU M s))),(8,sI s1)] [vR (eGOption M v)]) O ?_;intro Ik2 k2 s1 hk2 O e he;subst he;unfold zi at O;cbv;refine gu ?_ ?_
 intro O;cbv;refine zU hS ?_;cbv;refine lH ?_;intro x4 O;cbv;replace O:=uZ O;refine gu ?_ ?_
 exact gQ
 exact iC
 exact gQ
theorem ahY {s:List (List Int)}{r:List (List Int)}(O:nV s=some r):Pv.FnS Tryz.prog glF 411 [.os 0 0 (M.n (List Int) s)] [(0,(aR 1 (M.m (List Int) (eL M 1 (eI .i64)) s)))] 1 (λU ss nn=>U=.os 1 0 (M.n (List Int) r)/\ss=[(0,(aR 1 (M.m (List Int) (eL M 1 (eI .i64)) s))),(1,(aR 1 (M.m (List Int) (eL M 1 (eI .i64)) r)))]/\nn=2):=by
 refine mr (T:=(tabx 1 [] [[(1,true)]])) (tabxOK 1 [] [[(1,true)]]) wf func411 rfl call411 rfl [] ?_;intro S R hS hR;have q:=sf hM hS;unfold nV at O;cbv;refine Gs hS hM O d_e aW ?_ ?_
 exact fE
 intro O;cbv;refine d_room hS O d_e ?_;intro O;cbv;cases O;exact hR _ _ _ ai ai rfl
theorem aj6 {u:Int}{r:ByteArray}(O:AB u=some r):fV 398 [.si .u64 u] (λu=>u=.str r):=by
 refine iw gW func398 call398 ?_;intro S R hS hR q;unfold AB at O;cbv;refine CB hS O rfl rfl ?_;intro I O;cbv;refine ag4 hS hM O ⟨5,by kernel_rfl,by kernel_rfl⟩ d_e ?_;intro x2 O;cbv;refine CB hS O rfl rfl ?_;intro x3 O;cbv;refine d_lp hS gW wf [] [0,3] (λU=>f3 25 [(0,.si .u64 U.1),(3,.str U.2)] []) O ?_;intro J k5 U T O e he;subst he;unfold FY at O;cbv;refine gu ?_ ?_
 intro O;cbv;refine CB hS O rfl rfl ?_;intro x7 O;cbv;refine ag4 hS hM O ⟨5,by kernel_rfl,by kernel_rfl⟩ d_e ?_;intro C O;cbv;refine nS hS O rfl rfl ?_;intro g O;cbv;refine CB hS O rfl rfl ?_;exact jP
 exact gQ
theorem ahZ {s:List GTraits}{r:List GTraits}(O:nG s=some r):Pv.FnS Tryz.prog glF 409 [.os 0 0 (M.n GTraits s)] [(0,(aR 17 (ig M s)))] 1 (λU ss nn=>U=.os 1 0 (M.n GTraits r)/\ss=[(0,(aR 17 (ig M s))),(1,(aR 17 (ig M r)))]/\nn=2):=by
 refine mr (T:=(tabx 1 [] [[(17,true)]])) (tabxOK 1 [] [[(17,true)]]) wf func409 rfl call409 rfl [] ?_;intro S R hS hR;have q:=sf hM hS;unfold nG at O;cbv;refine Gs hS hM O d_e aW ?_ ?_
 exact fE
 intro O;cbv;refine d_room hS O d_e ?_;intro O;cbv;cases O;exact hR _ _ _ ai ai rfl
theorem ah0 {b:qx}{r:Bool}(O:Az b=some r):fV 309 [.agg (C9 M b)] (λu=>u=.sb r):=by
 refine iw (gY [2]) func309 call309 ?_;intro S R hS hR q;unfold Az at O;cbv;refine jJ [] [1,20] (λU=>f4 29 [.lv 0 0,.sb U] [vR (C9 M b)]) O ?_ ?_
 intro T k2 J O;cbv;refine gu ?_ ?_
 exact iC
 intro O;cbv;refine gu ?_ ?_
 exact iC
 intro O;cbv;refine gu ?_ ?_<;>exact iC
 intro U O;cbv;refine iq ?_ ?_
 exact gQ
 intro O;cbv;refine gu ?_ ?_<;>exact gQ
theorem ad7 {s:List Bool}{r:List Bool}(O:mP s=some r):Pv.FnS Tryz.prog glF 410 [.os 0 0 (M.n Bool s)] [(0,(aR 1 (M.m Bool eB s)))] 1 (λU ss nn=>U=.os 1 0 (M.n Bool r)/\ss=[(0,(aR 1 (M.m Bool eB s))),(1,(aR 1 (M.m Bool eB r)))]/\nn=2):=by
 refine mr (T:=(tabx 1 [] [[(1,true)]])) (tabxOK 1 [] [[(1,true)]]) wf func410 rfl call410 rfl [] ?_;intro S R hS hR;have q:=sf hM hS;unfold mP at O;cbv;refine Gs hS hM O d_e aW ?_ ?_
 exact fE
 intro O;cbv;refine d_room hS O d_e ?_;intro O;cbv;cases O;exact hR _ _ _ ai ai rfl
theorem c500 {s:List ByteArray}{v:ByteArray}{r:Int}(O:slices_Index_string s v=some r):fV 500 [.sl 1 (M.m ByteArray eS s) false,.str v] (λu=>u=sI r):=by
 refine iw gW func500 call500 ?_;intro S R hS hR q;unfold slices_Index_string at O;cbv;refine d_lp hS gW wf [] [0,1,7,8] (λs1=>f3 19 [(0,.sl 1 (M.m ByteArray eS s) false),(1,.str v),(7,sI (S.len (M.m ByteArray eS s))),(8,sI s1)] []) O ?_;intro Ik2 k2 s1 hk2 O e he;subst he;unfold tY at O;cbv;refine gu ?_ ?_
 intro O;cbv;refine lH ?_;intro x4 O;cbv;refine gu ?_ ?_
 exact gQ
 exact iC
 exact gQ
theorem ah1 {s:List iT}{r:List iT}(O:qf s=some r):Pv.FnS Tryz.prog glF 220 [Fp M s] [] 0 (λU ss nn=>U=.os 0 0 (M.n iT r)/\ss=[(0,(aR 64 (KY M r)))]/\nn=1):=by
 refine mr (T:=(tabx 0 [] [[(64,true)]])) (tabxOK 0 [] [[(64,true)]]) wf func220 rfl call220 rfl [] ?_;intro S R hS hR;have q:=sf hM hS;unfold qf at O;cbv;refine Gs hS hM O rfl aW ?_ ?_
 exact fE
 intro O;cbv;refine d_room hS O d_e ?_;intro O;cbv;cases O;exact hR _ _ _ ai ai rfl
theorem ah2 {s:List Int}{v:Int}{r:Int}(O:slices_Index_int s v=some r):fV 155 [.sl 1 (mI M s) false,sI v] (λu=>u=sI r):=by
 refine iw gW func155 call155 ?_;intro S R hS hR q;unfold slices_Index_int at O;cbv;refine d_lp hS gW wf [] [0,1,7,8] (λU=>f3 19 [(0,.sl 1 (mI M s) false),(1,sI v),(7,sI (S.len (mI M s))),(8,sI U)] []) O ?_;intro T k2 U J O e he;subst he;unfold rX at O;cbv;refine gu ?_ ?_
 intro O;cbv;refine lH ?_;intro I O;cbv;refine gu ?_ ?_
 exact gQ
 exact iC
 exact gQ
theorem o464 {s:List GAbility}{r:List GAbility}(O:rq s=some r):Pv.FnS Tryz.prog glF 464 [xq M s] [] 0 (λuu ss nn=>uu=.os 0 0 (M.n GAbility r)/\ss=[(0,(aR 72 (pX M r)))]/\nn=1):=by
 refine fnS_dec (T:=(tabx 0 [] [[(72,true)]])) (tabxOK 0 [] [[(72,true)]]) wf func464 rfl call464 rfl ?_;intro S R hS hR;have q:=sf hM hS;unfold rq at O;cbv;refine Gs hS hM O rfl aW ?_ ?_
 exact fE
 intro O;cbv;refine d_room hS O d_e ?_;intro O;cbv;cases O;exact hR _ _ _ ai ai rfl
theorem o220 {s:List iT}{r:List iT}(O:rV s=some r):Pv.FnS Tryz.prog glF 220 [Fp M s] [] 0 (λuu ss nn=>uu=.os 0 0 (M.n iT r)/\ss=[(0,(aR 64 (KY M r)))]/\nn=1):=by
 refine fnS_dec (T:=(tabx 0 [] [[(64,true)]])) (tabxOK 0 [] [[(64,true)]]) wf func220 rfl call220 rfl ?_;intro S R hS hR;have q:=sf hM hS;unfold rV at O;cbv;refine Gs hS hM O rfl aW ?_ ?_
 exact fE
 intro O;cbv;refine d_room hS O d_e ?_;intro O;cbv;cases O;exact hR _ _ _ ai ai rfl
theorem aab {l:List ByteArray}{s:ByteArray}{r:List ByteArray}(O:yV l s=some r):Pv.FnS Tryz.prog glF 393 [.os 0 0 (M.n ByteArray l),.str s] [(0,(aR 1 (M.m ByteArray eS l)))] 1 (λU ss nn=>U=.os 1 0 (M.n ByteArray r)/\ss=[(0,none),(1,(aR 1 (M.m ByteArray eS r)))]/\nn=2):=by
 refine fnS_dec (T:=(tabx 1 [] [[(1,true)]])) (tabxOK 1 [] [[(1,true)]]) wf func393 rfl call393 rfl ?_;intro S R hS hR;have q:=sf hM hS;unfold yV at O;cbv;refine gu ?_ ?_
 exact fE
 intro O;cbv;refine d_room hS O d_e ?_;intro O;cbv;cases O;exact hR _ _ _ ai ai rfl
theorem aj7 {s:List ByteArray}{r:List ByteArray}(O:slices_Clone_string s=some r):Pv.FnS Tryz.prog glF 400 [.sl 1 (M.m ByteArray eS s) false] [] 0 (λU ss nn=>U=.os 0 0 (M.n ByteArray r)/\ss=[(0,(aR 1 (M.m ByteArray eS r)))]/\nn=1):=by
 refine fnS_dec (T:=(tabx 0 [] [[(1,true)]])) (tabxOK 0 [] [[(1,true)]]) wf func400 rfl call400 rfl ?_;intro S R hS hR;have q:=sf hM hS;unfold slices_Clone_string at O;cbv;refine Gs hS hM O rfl aW ?_ ?_
 exact fE
 intro O;cbv;refine d_room hS O d_e ?_;intro O;cbv;cases O;exact hR _ _ _ ai ai rfl
theorem o219 {s:List oJ}{r:List oJ}(O:mY s=some r):Pv.FnS Tryz.prog glF 219 [Vr M s] [] 0 (λuu ss nn=>uu=.os 0 0 (M.n oJ r)/\ss=[(0,(aR 18 (mSpec M r)))]/\nn=1):=by
 refine fnS_dec (T:=(tabx 0 [] [[(18,true)]])) (tabxOK 0 [] [[(18,true)]]) wf func219 rfl call219 rfl ?_;intro S R hS hR;have q:=sf hM hS;unfold mY at O;cbv;refine Gs hS hM O rfl aW ?_ ?_
 exact fE
 intro O;cbv;refine d_room hS O d_e ?_;intro O;cbv;cases O;exact hR _ _ _ ai ai rfl
theorem o136 {s:List jv}{r:List jv}(O:jL s=some r):Pv.FnS Tryz.prog glF 136 [xX M s] [] 0 (λuu ss nn=>uu=.os 0 0 (M.n jv r)/\ss=[(0,(aR 20 (Oj M r)))]/\nn=1):=by
 refine fnS_dec (T:=(tabx 0 [] [[(20,true)]])) (tabxOK 0 [] [[(20,true)]]) wf func136 rfl call136 rfl ?_;intro S R hS hR;have q:=sf hM hS;unfold jL at O;cbv;refine Gs hS hM O rfl aW ?_ ?_
 exact fE
 intro O;cbv;refine d_room hS O d_e ?_;intro O;cbv;cases O;exact hR _ _ _ ai ai rfl
theorem c166 {l:List Int}{r:Bool}(O:TA l=some r):fV 166 [.sl 1 (mI M l) false] (λu=>u=.sb r):=by
 refine iw gW func166 call166 ?_;intro S R hS hR q;unfold TA at O;cbv;refine d_lp hS gW wf [] [0,3] (λs1=>f3 20 [(0,.sl 1 (mI M l) false),(3,sI s1)] []) O ?_;intro Ik2 k2 s1 hk2 O e he;subst he;unfold PT at O;cbv;refine gu ?_ ?_
 intro O;cbv;refine zU hS ?_;cbv;refine d_idx hS hM O rfl d_e ?_;intro x4 O;cbv;refine lH ?_;intro x5 O;cbv;refine gu ?_ ?_
 exact gQ
 exact iC
 exact gQ
theorem c112 {l:List GCard}{name:ByteArray}{r:Int}(O:J4 l name=some r):fV 112 [jR M l,.str name] (λu=>u=sI r):=by
 refine iw gW func112 call112 ?_;intro S R hS hR q;unfold J4 at O;cbv;refine d_lp hS gW wf [] [0,1,5] (λs1=>f3 20 [(0,jR M l),(1,.str name),(5,sI s1)] []) O ?_;intro Ik2 k2 s1 hk2 O e he;subst he;unfold J3 at O;cbv;refine gu ?_ ?_
 intro O;cbv;refine lH ?_;intro x4 O;cbv;refine gu ?_ ?_
 exact gQ
 exact iC
 exact gQ
theorem aj8 {l:List ByteArray}{s:ByteArray}{r:Int}(O:DC l s=some r):fV 356 [.sl 1 (M.m ByteArray eS l) false,.str s] (λu=>u=sI r):=by
 refine iw gW func356 call356 ?_;intro S R hS hR q;unfold DC at O;cbv;refine d_lp hS gW wf [] [0,1,5] (λU=>f3 19 [(0,.sl 1 (M.m ByteArray eS l) false),(1,.str s),(5,sI U)] []) O ?_;intro T k2 U J O e he;subst he;unfold Iw at O;cbv;refine gu ?_ ?_
 intro O;cbv;refine lH ?_;intro I O;cbv;refine gu ?_ ?_
 exact gQ
 exact iC
 exact gQ
theorem c107 {s:GState}{id:Int}{r:Int}(O:yu s id=some r):fV 107 [.agg (eGState M s),sI id] (λu=>u=sI r):=by
 refine iw gW func107 call107 ?_;intro S R hS hR q;unfold yu at O;cbv;refine d_lp hS gW wf [] [1,2,5] (λs1=>f3 22 [(1,sI id),(2,.lv 0 0),(5,sI s1)] [vR (eGState M s)]) O ?_;intro Ik2 k2 s1 hk2 O e he;subst he;unfold yQ at O;cbv;refine gu ?_ ?_
 intro O;cbv;refine lH ?_;intro x4 O;cbv;refine gu ?_ ?_
 exact gQ
 exact iC
 exact gQ
theorem c377 {op:Int}{r:ByteArray}(O:JO op=some r):fV 377 [sI op] (λu=>u=.str r):=by
 refine iw (gY [2]) func377 call377 ?_;intro S R hS hR q;unfold JO at O;cbv;refine jJ [] [0,9] (λs1=>f4 16 [sI op,.sb s1] []) O ?_ ?_
 intro Ik2 k2 hk2 O;cbv;refine gu ?_ ?_<;>exact iC
 intro s1 O;cbv;refine iq ?_ ?_
 exact gQ
 intro O;cbv;refine rD hS O rfl d_e ?_;intro j4 _ O;cbv;refine mW hS hM (e:=eS) O d_e d_e ?_;exact ja
theorem ah3 {i:Int}{r:ByteArray}(O:Ef i=some r):fV 387 [sI i] (λu=>u=.str r):=by
 refine iw gW func387 call387 ?_;intro S R hS hR q;unfold Ef at O;cbv;refine gu ?_ ?_
 exact gQ
 intro O;cbv;refine gu ?_ ?_
 exact gQ
 intro O;cbv;refine gu ?_ ?_
 exact gQ
 intro O;cbv;refine gu ?_ ?_
 exact gQ
 intro O;cbv;refine gu ?_ ?_<;>exact gQ
end
end Go.Proofs.YtchmoabpofnbaaaGreat
