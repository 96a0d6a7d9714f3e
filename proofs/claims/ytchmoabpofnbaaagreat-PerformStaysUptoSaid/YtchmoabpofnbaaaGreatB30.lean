import Derived.Test.YtchmoabpofnbaaaGreatB29
set_option linter.all false
namespace Go.Proofs.YtchmoabpofnbaaaGreat
open Go Go.Pv Proofs.Tryz
set_option maxRecDepth 100000
set_option maxHeartbeats 2000000
variable [GM]
section
variable {M:EncM}(hM:M=mapE)
include hM
theorem c111 {c:GCard}{r:Bool}(O:JZ c=some r):fV 111 [.agg (eGCard M c)] (λu=>u=.sb r):=by
 refine iw (gY [2,6,17,28]) func111 call111 ?_;intro S R hS hR q;unfold JZ at O;cbv;refine jJ [] [1,36] (λs1=>f4 139 [.lv 0 0,.sb s1] [vR (eGCard M c)]) O ?_ ?_
 intro Ik2 k2 hk2 O;cbv;refine iH (aiu hM) ?_;intro y4 O;cbv;refine gu ?_ ?_
 exact iC
 intro O;cbv;refine iH (ahX hM) ?_;intro y5 O;cbv;refine gu ?_ ?_
 exact iC
 intro O;cbv;refine iH (c192 hM) ?_;intro y6 O;cbv;refine gu ?_ ?_
 exact iC
 intro O;cbv;refine iH (c193 hM) ?_;intro y7 O;cbv;refine gu ?_ ?_
 exact iC
 intro O;cbv;refine gu ?_ ?_<;>exact iC
 intro s1 O;cbv;refine iq ?_ ?_
 exact gQ
 intro O;cbv;refine jJ [] [1,75] (λs8=>f4 139 [.lv 0 0,.sb s8] [vR (eGCard M c)]) O ?_ ?_
 intro Ik9 k9 hk9 O;cbv;refine gu ?_ ?_
 exact iC
 intro O;cbv;refine gu ?_ ?_
 exact iC
 intro O;cbv;refine gu ?_ ?_
 exact iC
 intro O;cbv;refine gu ?_ ?_
 exact iC
 intro O;cbv;refine iH (c194 hM) ?_;intro y11 O;cbv;refine gu ?_ ?_
 intro O;cbv;refine gu ?_ ?_
 exact iC
 intro O;cbv;refine gu ?_ ?_<;>exact iC
 exact iC
 intro s8 O;cbv;refine iq ?_ ?_
 exact gQ
 intro O;cbv;refine wB (gY [2,6,17,28]) [] [1,3,4] (λs12=>f4 139 [.lv 0 0,sI s12.1,sI s12.2] [vR (eGCard M c)]) O ?_;intro Ik13 k13 s12 hk13 O e he;subst he;unfold PW at O;cbv;refine gu ?_ ?_
 intro O;cbv;refine jJ [] [1,3,4] (λs15=>f4 139 [.lv 0 0,sI s15,sI s12.2] [vR (eGCard M c)]) O ?_ ?_
 intro Ik16 k16 hk16 O;cbv;refine lH ?_;intro x18 O;cbv;refine iH (agI hM) ?_;intro y19 O;cbv;refine gu ?_ ?_
 exact gQ
 intro O;cbv;refine lH ?_;intro x20 O;cbv;refine gu ?_ ?_<;>exact iC
 intro s15 O;cbv;exact nM
 intro O;cbv;refine iH (c195 hM) ?_;intro y21 O;cbv;refine iq ?_ ?_
 intro O;cbv;refine jJ [] [2] (λs22=>f4 139 [.sb s22] []) O ?_ ?_
 intro Ik23 k23 hk23 O;cbv;refine gu ?_ ?_
 intro O;cbv;refine gu ?_ ?_
 intro O;cbv;refine gu ?_ ?_<;>exact iC
 exact iC
 exact iC
 intro s22 O;cbv;exact qO
 intro O;cbv;refine gu ?_ ?_
 intro O;cbv;refine gu ?_ ?_
 intro O;cbv;refine gu ?_ ?_
 exact gQ
 intro O;cbv;replace O:=uZ O;exact qO
 intro O;cbv;replace O:=uZ O;exact qO
 exact gQ
theorem c164 {s:GState}{x:uA}{r:Bool}(O:JX s x=some r):fV 164 [.agg (eGState M s),.agg (Aq M x)] (λu=>u=.sb r):=by
 refine iw (gY [2,12]) func164 call164 ?_;intro S R hS hR q;unfold JX at O;cbv;refine jJ [] [2,3,33] (λs1=>f4 81 [.lv 0 0,.lv 1 0,.sb s1] [vR (eGState M s),vR (Aq M x)]) O ?_ ?_
 intro Ik2 k2 hk2 O;cbv;refine tC hS O (λ_=>c86 hM) AQ ?_;intro y4 O;cbv;refine gu ?_ ?_
 exact iC
 intro O;cbv;refine iH (c86 hM) ?_;intro y5 O;cbv;refine gu ?_ ?_
 exact iC
 intro O;cbv;refine gu ?_ ?_
 exact iC
 intro O;cbv;refine iH (c88 hM) ?_;exact jP
 intro s1 O;cbv;refine iq ?_ ?_
 exact gQ
 intro O;cbv;refine iH (c228 hM) ?_;intro y7 O;cbv;refine gu ?_ ?_
 intro O;cbv;refine tC hS O (λ_=>aiJ hM) d_st ?_;intro y8 O;cbv;refine jJ [] [4] (λs9=>f4 81 [.sb s9] []) O ?_ ?_
 intro Ik10 k10 hk10 O;cbv;refine gu ?_ ?_
 intro O;cbv;refine iq ?_ ?_
 intro O;cbv;refine gu ?_ ?_
 intro O;cbv;refine iq ?_ ?_
 exact iC
 intro O;cbv;refine iH (agI hM) ?_;exact jP
 exact iC
 exact iC
 exact iC
 intro s9 O;cbv;exact qO
 intro O;cbv;refine gu ?_ ?_
 intro O;cbv;refine gu ?_ ?_
 intro O;cbv;refine iH (agI hM) ?_;exact ja
 exact gQ
 exact gQ
theorem c114 {k:kV}{cards:List GCard}{s:GState}{pe:GEvent}{add:Bool}{r:GState×GEvent×Bool}(O:sS k cards s pe add=some r):fV 114 [.pp (Ar M k),jR M cards,.agg (eGState M s),.agg (eGEvent M pe),.sb add] (λu=>u=.FH [.agg (eGState M r.1),.agg (eGEvent M r.2.1),.sb r.2.2]):=by
 refine iw (gY [1006]) func114 call114 ?_;intro S R hS hR q;unfold sS at O;cbv;refine wB (gY [1006]) [] [0,6,7,8,9,10,11,13] (λs1=>f4 63 [.pp (Ar M k),.lv 0 0,.lv 1 0,.lv 2 0,.lv 3 0,.lv 4 0,.lv 5 0,.lv 6 0] [vR [jR M cards],vR (eGState M s),vR (eGEvent M pe),vR [.sb add],vR [.sl 0 [] true,.sl 0 [] true,.sl 0 [] true,.sl 0 [] true,.sl 0 [] true,.sl 0 [] true,.sl 0 [] true,sI 0,sI 0,sI 0,.sb false,sI 0,sI 0,sI 0,sI 0,.si .u64 0,.sl 0 [] true,sI 0,sI 0],vR [sI 0,sI 0,sI 0,sI 0,sI 0,sI 0,sI 0,sI 0,sI 0,sI 0,.sb false,.sb false,sI 0,sI 0,sI 0],vR [.sl 0 [] true]]) O ?_;intro Ik2 k2 s1 hk2 O e he;subst he;unfold wQ at O;cbv;refine iH (c93 hM) ?_;intro y4 O;cbv;refine ahM hS [.cO 6 0 3] rfl ?_;cbv;refine jO hS O (λ_=>aiW hM) d_st d_st rfl rfl rfl rfl ?_;intro y5 O;cbv;refine gu ?_ ?_
 intro O;cbv;refine Ih hS aP ?_;cbv;exact qO
 intro O;cbv;cases O
end
variable [GM]
section
variable {M:EncM}(hM:M=mapE)
include hM
theorem akB {k:kV}{cards:List GCard}{s:GState}{pe:GEvent}{add:Bool}{r:GState}(O:zC k cards s pe add=some r):Pv.FnS Tryz.prog glF 49 [.lv 0 0,jR M cards,.agg (eGState M s),.agg (eGEvent M pe),.sb add] [(0,(vR [.os 1 0 (M.n (List Int) k.answers),sI k.used,sI k.pending.kind,sI k.pending.iY,sI k.pending.source,sI k.pending.least,sI k.pending.most,sI k.pending.n,mQ M k.pending.options,.sb k.waits,.sb k.bad])),(1,(aR 1 (M.m (List Int) (eL M 1 (eI .i64)) k.answers)))] 2 (λuu ss nn=>uu=.agg (eGState M r)/\ss=[(0,some (.var true [.os 1 0 (M.n (List Int) k.answers),sI k.used,sI k.pending.kind,sI k.pending.iY,sI k.pending.source,sI k.pending.least,sI k.pending.most,sI k.pending.n,mQ M k.pending.options,.sb k.waits,.sb k.bad])),(1,some (.arr true 1 (M.m (List Int) (eL M 1 (eI .i64)) k.answers)))]/\nn=2):=by
 refine mr (T:=(tabx 2 [4,10,15] [])) (tabxOK 2 [4,10,15] []) wf func49 rfl call49 rfl [] ?_;intro S R hS hR;have q:=sf hM hS;unfold zC at O;cbv;refine abn hS O (λ_=>c114 hM) AQ ?_;intro U O;cbv;refine jJ [] [0,1,7,8,10,31] (λs2=>f4 61 [.lv 0 0,jR M cards,.lv 2 0,.lv 3 0,.lv 4 0,.sb s2] [some (.var true [.os 1 0 (S.lenN (M.m (List Int) (eL M 1 (eI .i64)) k.answers)),sI k.used,sI k.pending.kind,sI k.pending.iY,sI k.pending.source,sI k.pending.least,sI k.pending.most,sI k.pending.n,mQ M k.pending.options,.sb k.waits,.sb k.bad]),some (.arr true 1 (M.m (List Int) (eL M 1 (eI .i64)) k.answers)),vR (eGState M U.1),vR (eGEvent M U.2.1),vR [.sl 0 [] true,.sl 0 [] true,.sl 0 [] true,.sl 0 [] true,.sl 0 [] true,.sl 0 [] true,.sl 0 [] true,sI 0,sI 0,sI 0,.sb false,sI 0,sI 0,sI 0,sI 0,.si .u64 0,.sl 0 [] true,sI 0,sI 0]]) O ?_ ?_
 intro Ik3 k3 hk3 O;cbv;refine gu ?_ ?_
 exact iC
 intro O;cbv;refine iH (c115 hM) ?_;exact jP
 intro s2 O;cbv;refine iq ?_ ?_
 intro O;cbv;cases O;exact hR _ _ _ d_st d_st rfl
 intro O;cbv;refine jJ [] [0,1,7,8,10,12] (λC=>f4 61 [.lv 0 0,jR M cards,.lv 2 0,.lv 3 0,.lv 4 0,sI C.1] [some (.var true [.os 1 0 (S.lenN (M.m (List Int) (eL M 1 (eI .i64)) k.answers)),sI k.used,sI k.pending.kind,sI k.pending.iY,sI k.pending.source,sI k.pending.least,sI k.pending.most,sI k.pending.n,mQ M k.pending.options,.sb k.waits,.sb k.bad]),some (.arr true 1 (M.m (List Int) (eL M 1 (eI .i64)) k.answers)),vR (eGState M U.1),vR [sI U.2.1.kind,sI U.2.1.source,sI U.2.1.object,sI U.2.1.iY,sI C.2,sI U.2.1.Ad,sI U.2.1.to,sI U.2.1.cause,sI U.2.1.counter,sI U.2.1.card,.sb U.2.1.D9,.sb U.2.1.lQ,sI U.2.1.extra.a0,sI U.2.1.extra.a1,sI U.2.1.extra.a2],vR [.sl 0 [] true,.sl 0 [] true,.sl 0 [] true,.sl 0 [] true,.sl 0 [] true,.sl 0 [] true,.sl 0 [] true,sI 0,sI 0,sI 0,.sb false,sI 0,sI 0,sI 0,sI 0,.si .u64 0,.sl 0 [] true,sI 0,sI 0]]) O ?_ ?_
 intro Ik7 k7 hk7 O;cbv;refine jJ [] [0,1,7,8,10,12,40] (λg=>f4 61 [.lv 0 0,jR M cards,.lv 2 0,.lv 3 0,.lv 4 0,sI 0,.sb g] [some (.var true [.os 1 0 (S.lenN (M.m (List Int) (eL M 1 (eI .i64)) k.answers)),sI k.used,sI k.pending.kind,sI k.pending.iY,sI k.pending.source,sI k.pending.least,sI k.pending.most,sI k.pending.n,mQ M k.pending.options,.sb k.waits,.sb k.bad]),some (.arr true 1 (M.m (List Int) (eL M 1 (eI .i64)) k.answers)),vR (eGState M U.1),vR (eGEvent M U.2.1),vR [.sl 0 [] true,.sl 0 [] true,.sl 0 [] true,.sl 0 [] true,.sl 0 [] true,.sl 0 [] true,.sl 0 [] true,sI 0,sI 0,sI 0,.sb false,sI 0,sI 0,sI 0,sI 0,.si .u64 0,.sl 0 [] true,sI 0,sI 0]]) O ?_ ?_
 intro Ik10 k10 hk10 O;cbv;refine gu ?_ ?_<;>exact iC
 intro g O;cbv;refine iq ?_ ?_
 intro O;cbv;replace O:=uZ O;obtain⟨v12,J,I⟩:∃ z:Int,(S.bin .sub .i64 (S.afm U.2.1.amount 2048) 1)=z/\(Cc (if 2048<U.2.1.amount then 2048 else U.2.1.amount) 1)=z:=⟨_,rfl,d_e⟩
 (try rw[J]);(try (conv at J=>(lhs;cbv)));(try rw[J]);(try rw[I] at O);clear J I
 exact nM
 exact iC
 intro C O;cbv;cases O
theorem c90 {s:GState}{r:Bool}(O:GV s=some r):fV 90 [.agg (eGState M s)] (λu=>u=.sb r):=by
 refine iw (gY [2,34,46]) func90 call90 ?_;intro S R hS hR q;unfold GV at O;cbv;refine jJ [] [1,24] (λs1=>f4 129 [.lv 0 0,.sb s1] [vR (eGState M s)]) O ?_ ?_
 intro Ik2 k2 hk2 O;cbv;refine gu ?_ ?_
 exact iC
 intro O;cbv;refine gu ?_ ?_<;>exact iC
 intro s1 O;cbv;refine iq ?_ ?_
 exact gQ
 intro O;cbv;refine wB (gY [2,34,46]) [] [1,3] (λs4=>f4 129 [.lv 0 0,sI s4] [vR (eGState M s)]) O ?_;intro Ik5 k5 s4 hk5 O e he;subst he;unfold IG at O;cbv;refine gu ?_ ?_
 intro O;cbv;refine zU hS ?_;cbv;refine lH ?_;intro x7 O;cbv;refine Ac hS O (λ_=>c164 hM) ?_;intro y8 O;cbv;refine gu ?_ ?_
 exact gQ
 intro O;cbv;refine wB (gY [2,34,46]) [] [1,3,4] (λs9=>f4 129 [.lv 0 0,sI s4,sI s9] [vR (eGState M s)]) O ?_;intro Ik10 k10 s9 hk10 O e he;subst he;unfold IB at O;cbv;refine gu ?_ ?_
 intro O;cbv;refine zU hS ?_;cbv;refine lH ?_;intro x12 O;cbv;refine lH ?_;intro x13 O;cbv;refine gu ?_ ?_
 exact gQ
 exact iC
 exact iC
 intro O;cbv;refine wB (gY [2,34,46]) [] [1,5] (λs14=>f4 129 [.lv 0 0,sI s14] [vR (eGState M s)]) O ?_;intro Ik15 k15 s14 hk15 O e he;subst he;unfold IE at O;cbv;refine gu ?_ ?_
 intro O;cbv;refine lH ?_;intro x17 O;cbv;refine jJ [] [1,5,86] (λs18=>f4 129 [.lv 0 0,sI s14,.sb s18] [vR (eGState M s)]) O ?_ ?_
 intro Ik19 k19 hk19 O;cbv;refine iH (c88 hM) ?_;intro y21 O;cbv;refine gu ?_ ?_
 exact iC
 intro O;cbv;refine gu ?_ ?_
 exact iC
 intro O;cbv;refine iH (agI hM) ?_;exact jP
 intro s18 O;cbv;refine iq ?_ ?_
 exact gQ
 exact iC
 intro O;cbv;refine wB (gY [2,34,46]) [] [1,7] (λs23=>f4 129 [.lv 0 0,sI s23] [vR (eGState M s)]) O ?_;intro Ik24 k24 s23 hk24 O e he;subst he;unfold IC at O;cbv;refine gu ?_ ?_
 intro O;cbv;refine lH ?_;intro x26 O;cbv;refine jJ [] [1,7,128] (λs27=>f4 129 [.lv 0 0,sI s23,.sb s27] [vR (eGState M s)]) O ?_ ?_
 intro Ik28 k28 hk28 O;cbv;refine iH (c88 hM) ?_;intro y30 O;cbv;refine gu ?_ ?_
 exact iC
 intro O;cbv;refine gu ?_ ?_
 exact iC
 intro O;cbv;refine iH (c86 hM) ?_;intro y31 O;cbv;refine gu ?_ ?_
 exact iC
 intro O;cbv;refine iH (c166 hM) ?_;intro y32 O;cbv;refine gu ?_ ?_
 exact iC
 intro O;cbv;refine iH (c167 hM) ?_;exact jP
 intro s27 O;cbv;refine iq ?_ ?_
 exact gQ
 exact iC
 exact gQ
theorem c43 {l:List GCard}{r:Int×Int}(O:GZ l=some r):fV 43 [jR M l] (λu=>u=.FH [sI r.1,sI r.2]):=by
 refine iw gW func43 call43 ?_;intro S R hS hR q;unfold GZ at O;cbv;refine gu ?_ ?_
 exact gQ
 intro O;cbv;refine d_lp hS gW wf [] [0,4] (λs1=>f3 39 [(0,jR M l),(4,sI s1)] []) O ?_;intro Ik2 k2 s1 hk2 O e he;subst he;unfold Df at O;cbv;refine gu ?_ ?_
 intro O;cbv;refine lH ?_;intro x4 O;cbv;refine iH (c111 hM) ?_;intro y5 O;cbv;refine gu ?_ ?_
 exact gQ
 intro O;cbv;refine lH ?_;intro x6 O;cbv;refine iH (c112 hM) ?_;intro y7 O;cbv;refine gu ?_ ?_
 exact gQ
 intro O;cbv;refine lH ?_;intro x8 O;cbv;refine iH (c113 hM) ?_;intro y9 O;cbv;refine gu ?_ ?_
 exact gQ
 exact iC
 exact gQ
end
end Go.Proofs.YtchmoabpofnbaaaGreat
