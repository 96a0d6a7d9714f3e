import Derived.Test.YtchmoabpofnbaaaGreatB30
set_option linter.all false
namespace Go.Proofs.YtchmoabpofnbaaaGreat
open Go Go.Pv Proofs.Tryz
set_option maxRecDepth 100000
set_option maxHeartbeats 2000000
variable [GM]
section
variable {M:EncM}(hM:M=mapE)
include hM
theorem c29 {cards:List GCard}{s:GState}{r:Bool}(O:AP cards s=some r):fV 29 [jR M cards,.agg (eGState M s)] (λu=>u=.sb r):=by
 refine iw (gY [2,6,20]) func29 call29 ?_;intro S R hS hR q;unfold AP at O;cbv;refine jJ [] [0,3,33] (λs1=>f4 114 [jR M cards,.lv 0 0,.sb s1] [vR (eGState M s)]) O ?_ ?_
 intro Ik2 k2 hk2 O;cbv;refine iH (c86 hM) ?_;intro y4 O;cbv;refine gu ?_ ?_
 exact iC
 intro O;cbv;refine iH (c86 hM) ?_;intro y5 O;cbv;refine gu ?_ ?_
 exact iC
 intro O;cbv;refine iH (c86 hM) ?_;intro y6 O;cbv;refine gu ?_ ?_
 exact iC
 intro O;cbv;refine iH (c86 hM) ?_;intro y7 O;cbv;refine gu ?_ ?_<;>exact iC
 intro s1 O;cbv;refine iq ?_ ?_
 exact gQ
 intro O;cbv;refine jJ [] [0,3,71] (λs8=>f4 114 [jR M cards,.lv 0 0,.sb s8] [vR (eGState M s)]) O ?_ ?_
 intro Ik9 k9 hk9 O;cbv;refine iH (c87 hM) ?_;intro y11 O;cbv;refine gu ?_ ?_
 exact iC
 intro O;cbv;refine iH (c88 hM) ?_;intro y12 O;cbv;refine gu ?_ ?_
 exact iC
 intro O;cbv;refine iH (c88 hM) ?_;intro y13 O;cbv;refine gu ?_ ?_
 exact iC
 intro O;cbv;refine tC hS O (λ_=>c86 hM) AQ ?_;intro y14 O;cbv;refine gu ?_ ?_
 exact iC
 intro O;cbv;refine gu ?_ ?_
 exact iC
 intro O;cbv;refine iH (c86 hM) ?_;exact jP
 intro s8 O;cbv;refine iq ?_ ?_
 exact gQ
 intro O;cbv;refine wB (gY [2,6,20]) [] [0,3,5] (λs16=>f4 114 [jR M cards,.lv 0 0,sI s16] [vR (eGState M s)]) O ?_;intro Ik17 k17 s16 hk17 O e he;subst he;unfold GX at O;cbv;refine gu ?_ ?_
 intro O;cbv;refine zU hS ?_;cbv;refine lH ?_;intro x19 O;cbv;refine Ac hS O (λ_=>c88 hM) ?_;intro y20 O;cbv;refine gu ?_ ?_
 exact gQ
 exact iC
 intro O;cbv;refine jJ [] [0,3,106] (λs21=>f4 114 [jR M cards,.lv 0 0,.sb s21] [vR (eGState M s)]) O ?_ ?_
 intro Ik22 k22 hk22 O;cbv;refine gu ?_ ?_
 intro O;cbv;refine iH (c88 hM) ?_;intro y24 O;cbv;refine gu ?_ ?_
 exact iC
 intro O;cbv;refine gu ?_ ?_<;>exact iC
 intro O;cbv;refine gu ?_ ?_<;>exact iC
 intro s21 O;cbv;refine iq ?_ ?_
 exact gQ
 intro O;cbv;refine iH (c89 hM) ?_;intro y25 O;cbv;refine iq ?_ ?_
 intro O;cbv;refine iH (c90 hM) ?_;exact ja
 exact gQ
theorem akC {k:kV}{cards:List GCard}{s:GState}{U:GEvent}{r:GState}(O:vX k cards s U=some r):Pv.FnS Tryz.prog glF 16 [.lv 0 0,jR M cards,.agg (eGState M s),.agg (eGEvent M U)] [(0,(vR [.os 1 0 (M.n (List Int) k.answers),sI k.used,sI k.pending.kind,sI k.pending.iY,sI k.pending.source,sI k.pending.least,sI k.pending.most,sI k.pending.n,mQ M k.pending.options,.sb k.waits,.sb k.bad])),(1,(aR 1 (M.m (List Int) (eL M 1 (eI .i64)) k.answers)))] 2 (λJ ss nn=>J=.agg (eGState M r)/\ss=[(0,some (.var true [.os 1 0 (M.n (List Int) k.answers),sI k.used,sI k.pending.kind,sI k.pending.iY,sI k.pending.source,sI k.pending.least,sI k.pending.most,sI k.pending.n,mQ M k.pending.options,.sb k.waits,.sb k.bad])),(1,some (.arr true 1 (M.m (List Int) (eL M 1 (eI .i64)) k.answers)))]/\nn=2):=by
 refine mr (T:=(tabx 2 [] [])) (tabxOK 2 [] []) wf func16 rfl call16 rfl [] ?_;intro S R hS hR;have q:=sf hM hS;unfold vX at O;cbv;refine jO hS O (λ_=>akB hM) d_st d_st rfl rfl rfl rfl ?_;intro I O;cbv;cases O;exact hR _ _ _ d_st d_st rfl
end
variable [GM]
section
variable {M:EncM}(hM:M=mapE)
include hM
theorem c12 {cards:List GCard}{s:GState}{r:Bool}(O:Fe cards s=some r):fV 12 [jR M cards,.agg (eGState M s)] (λu=>u=.sb r):=by
 refine iw gW func12 call12 ?_;intro S R hS hR q;unfold Fe at O;cbv;refine iH (c43 hM) ?_;intro y1 O;cbv;refine gu ?_ ?_
 intro O;cbv;refine iH (c29 hM) ?_;exact ja
 exact gQ
end
variable [GM]
section
variable {M:EncM}(hM:M=mapE)
include hM
theorem c3 {p:qA}{r:Bool}(O:uf p=some r):fV 3 [.agg (yt M p)] (λu=>u=.sb r):=by
 refine iw (gY [2]) func3 call3 ?_;intro S R hS hR q;unfold uf at O;cbv;refine jJ [] [1,21] (λs1=>f4 55 [.lv 0 0,.sb s1] [vR (yt M p)]) O ?_ ?_
 intro Ik2 k2 hk2 O;cbv;refine iH (c12 hM) ?_;intro y4 O;cbv;refine gu ?_ ?_
 exact iC
 intro O;cbv;refine iH (c13 hM) ?_;exact jP
 intro s1 O;cbv;refine iq ?_ ?_
 intro O;cbv;refine iH (c14 hM) ?_;exact ja
 intro O;cbv;refine CZ hS O (λ_=>o15 hM) (le_eq rfl) ?_;intro y7 O;cbv;refine jO hS O (λ_=>akC hM) d_st d_st rfl rfl rfl rfl ?_;intro y8 O;cbv;refine tC hS O (λ_=>c17 hM) AQ ?_;intro y9 O;cbv;refine iH (c14 hM) ?_;intro y10 O;cbv;refine iq ?_ ?_
 intro O;cbv;refine gu ?_ ?_
 intro O;cbv;refine tC hS O (λ_=>c18 hM) AQ ?_;intro y11 O;cbv;refine gu ?_ ?_
 intro O;cbv;refine iH (c19 hM) ?_;exact ja
 exact gQ
 exact gQ
 exact gQ
end
end Go.Proofs.YtchmoabpofnbaaaGreat
