import Derived.Test.YtchmoabpofnbaaaGreatB21
set_option linter.all false
namespace Go.Proofs.YtchmoabpofnbaaaGreat
open Go Go.Pv Proofs.Tryz
set_option maxRecDepth 100000
set_option maxHeartbeats 2000000
variable [GM]
section
variable {M:EncM}(hM:M=mapE)
include hM
theorem aiH {w:gI}{r:gI}(O:oK w=some r):Pv.FnS Tryz.prog glF 245 [.lv 0 0] [(0,(vR (eGState M w.s++[gV M w.forces,.os 1 0 (M.n GTraits w.gX),.os 2 0 (M.n Bool w.dropped),.os 3 0 (M.n Bool w.done),.os 4 0 (M.n (List Int) w.hits)]))),(1,(aR 17 (ig M w.gX))),(2,(aR 1 (M.m Bool eB w.dropped))),(3,(aR 1 (M.m Bool eB w.done))),(4,(aR 1 (M.m (List Int) (eL M 1 (eI .i64)) w.hits)))] 5 (λuu ss nn=>uu=.FH []/\ss=[(0,(vR (eGState M r.s++[gV M r.forces,.os 1 0 (M.n GTraits r.gX),.os 2 0 (M.n Bool r.dropped),.os 3 0 (M.n Bool r.done),.os 4 0 (M.n (List Int) r.hits)]))),(1,(aR 17 (ig M r.gX))),(2,(aR 1 (M.m Bool eB r.dropped))),(3,(aR 1 (M.m Bool eB r.done))),(4,(aR 1 (M.m (List Int) (eL M 1 (eI .i64)) r.hits)))]/\nn=5):=by
 refine mr (T:=(tabx 5 [8,15] [])) (tabxOK 5 [8,15] []) wf func245 rfl call245 rfl [] ?_;intro S R hS hR;have q:=sf hM hS;unfold oK at O;cbv;refine wB (tabxOK 5 [8,15] []) [] [0,10,11,12] (λU=>f4 57 [.lv 0 0,kP M w.s.objects,sI (S.len (lK M w.s.objects)),sI U.1] [vR (eGState M w.s++[gV M w.forces,.os 1 0 (S.lenN (ig M U.2)),.os 2 0 (S.lenN (M.m Bool eB w.dropped)),.os 3 0 (S.lenN (M.m Bool eB w.done)),.os 4 0 (S.lenN (M.m (List Int) (eL M 1 (eI .i64)) w.hits))]),aR 17 (ig M U.2),aR 1 (M.m Bool eB w.dropped),aR 1 (M.m Bool eB w.done),aR 1 (M.m (List Int) (eL M 1 (eI .i64)) w.hits)]) O ?_;intro Ik2 k2 U hk2 O e he;subst he;unfold oW at O;cbv;refine gu ?_ ?_
 ·intro O;cbv;refine jJ [] [0,10,11,12] (λJ=>f4 57 [.lv 0 0,kP M w.s.objects,sI (S.len (lK M w.s.objects)),sI U.1] [vR (eGState M w.s++[gV M w.forces,.os 1 0 (S.lenN (ig M J)),.os 2 0 (S.lenN (M.m Bool eB w.dropped)),.os 3 0 (S.lenN (M.m Bool eB w.done)),.os 4 0 (S.lenN (M.m (List Int) (eL M 1 (eI .i64)) w.hits))]),aR 17 (ig M J),aR 1 (M.m Bool eB w.dropped),aR 1 (M.m Bool eB w.done),aR 1 (M.m (List Int) (eL M 1 (eI .i64)) w.hits)]) O ?_ ?_
  ·intro Ik5 k5 hk5 O;cbv;refine lH ?_;intro x7 O;cbv;refine rD hS O d_e rfl ?_;intro j8 _ O;cbv;refine jJ [] [0,3,4,10,11,12,34] (λI=>f4 57 [.lv 0 0,.lv 5 0,.lp 1 (S.LQ 0 j8) 0,kP M w.s.objects,sI (S.len (lK M w.s.objects)),sI U.1,.sb I] [vR (eGState M w.s++[gV M w.forces,.os 1 0 (S.lenN (ig M U.2)),.os 2 0 (S.lenN (M.m Bool eB w.dropped)),.os 3 0 (S.lenN (M.m Bool eB w.done)),.os 4 0 (S.lenN (M.m (List Int) (eL M 1 (eI .i64)) w.hits))]),aR 17 (ig M U.2),aR 1 (M.m Bool eB w.dropped),aR 1 (M.m Bool eB w.done),aR 1 (M.m (List Int) (eL M 1 (eI .i64)) w.hits),vR (eGObject M x7)]) O ?_ ?_
   intro C k10 g O;cbv;refine gu ?_ ?_
   intro O;cbv;refine mW hS hM O rfl d_e ?_;exact jP
   exact iC
   intro I O;cbv;refine iq ?_ ?_
   intro O;cbv;refine iH (c326 hM) ?_;intro y13 O;cbv;refine zU hS ?_;cbv;refine mW hS hM O rfl d_e ?_;intro x14 O;cbv;refine Ac hS O (λ_=>c68 hM) ?_;intro y15 O;cbv;refine mW hS hM O rfl d_e ?_;intro x16 O;cbv;refine Ac hS O (λ_=>c68 hM) ?_;intro y17 O;cbv;refine mW hS hM O rfl d_e ?_;intro x18 O;cbv;refine mW hS hM (e:=(eGTraits M)) O d_e d_e ?_;exact jP
   exact iC
  intro J O;cbv;exact nM
 intro O;cbv;cases O;exact hR _ _ _ d_st d_st rfl
theorem c13 {cards:List GCard}{s:GState}{pe:GEvent}{r:Bool}(O:IJ cards s pe=some r):fV 13 [jR M cards,.agg (eGState M s),.agg (eGEvent M pe)] (λu=>u=.sb r):=by
 refine iw (gY [4]) func13 call13 ?_;intro S R hS hR q;unfold IJ at O;cbv;refine iH (c38 hM) ?_;intro y1 O;cbv;refine jJ [] [0,4,5,7,8,9] (λs2=>f4 190 [jR M cards,.lv 0 0,.lv 1 0,.lv 2 0,.sb y1.2,.sb s2] [vR (eGState M s),vR (eGEvent M pe),vR (eGObject M y1.1)]) O ?_ ?_
 intro Ik3 k3 hk3 O;cbv;refine iq ?_ ?_<;>exact iC
 intro s2 O;cbv;refine iH (c44 hM) ?_;intro y5 O;cbv;refine gu ?_ ?_
 intro O;cbv;refine iH (c45 hM) ?_;intro y6 O;cbv;refine iq ?_ ?_
 intro O;cbv;refine iq ?_ ?_
 exact gQ
 intro O;cbv;refine gu ?_ ?_<;>exact gQ
 exact gQ
 intro O;cbv;refine gu ?_ ?_
 intro O;cbv;refine iq ?_ ?_
 intro O;cbv;refine gu ?_ ?_
 intro O;cbv;refine gu ?_ ?_
 intro O;cbv;refine gu ?_ ?_
 intro O;cbv;refine gu ?_ ?_
 intro O;cbv;refine gu ?_ ?_<;>exact gQ
 exact gQ
 exact gQ
 exact gQ
 exact gQ
 exact gQ
 intro O;cbv;refine gu ?_ ?_
 exact gQ
 intro O;cbv;refine gu ?_ ?_
 exact gQ
 intro O;cbv;refine gu ?_ ?_
 exact gQ
 intro O;cbv;refine gu ?_ ?_
 exact gQ
 intro O;cbv;refine gu ?_ ?_
 intro O;cbv;refine iq ?_ ?_
 intro O;cbv;refine iH (c45 hM) ?_;exact ja
 exact gQ
 intro O;cbv;refine gu ?_ ?_
 intro O;cbv;refine iq ?_ ?_
 intro O;cbv;refine iH (c45 hM) ?_;exact ja
 exact gQ
 intro O;cbv;refine gu ?_ ?_
 intro O;cbv;refine iq ?_ ?_
 intro O;cbv;refine iH (c45 hM) ?_;exact ja
 exact gQ
 intro O;cbv;refine gu ?_ ?_
 intro O;cbv;refine iq ?_ ?_<;>exact gQ
 intro O;cbv;refine gu ?_ ?_
 intro O;cbv;refine iq ?_ ?_<;>exact gQ
 intro O;cbv;refine gu ?_ ?_
 intro O;cbv;refine iq ?_ ?_
 intro O;cbv;refine gu ?_ ?_
 intro O;cbv;refine gu ?_ ?_
 intro O;cbv;refine iH (c45 hM) ?_;exact ja
 exact gQ
 exact gQ
 exact gQ
 intro O;cbv;refine gu ?_ ?_
 intro O;cbv;refine iq ?_ ?_
 intro O;cbv;refine gu ?_ ?_
 intro O;cbv;refine gu ?_ ?_
 intro O;cbv;refine iH (c45 hM) ?_;exact ja
 exact gQ
 exact gQ
 exact gQ
 intro O;cbv;refine gu ?_ ?_
 intro O;cbv;refine iq ?_ ?_
 intro O;cbv;refine gu ?_ ?_
 intro O;cbv;refine gu ?_ ?_
 intro O;cbv;refine lH ?_;intro x12 O;cbv;refine iq ?_ ?_
 intro O;cbv;refine iH (c45 hM) ?_;exact ja
 exact gQ
 exact gQ
 exact gQ
 exact gQ
 intro O;cbv;refine gu ?_ ?_
 intro O;cbv;refine iq ?_ ?_
 intro O;cbv;refine gu ?_ ?_<;>exact gQ
 exact gQ
 intro O;cbv;refine gu ?_ ?_
 intro O;cbv;refine iq ?_ ?_<;>exact gQ
 intro O;cbv;refine gu ?_ ?_
 intro O;cbv;refine iq ?_ ?_
 intro O;cbv;refine iH (c46 hM) ?_;exact ja
 exact gQ
 exact gQ
theorem akw {f:jf}{r:Bool}(O:DI f=some r):fV 456 [.agg (iR M f)] (λu=>u=.sb r):=by
 refine iw (gY [2,6,10,14]) func456 call456 ?_;intro S R hS hR q;unfold DI at O;cbv;refine jJ [] [1,30] (λC=>f4 89 [.lv 0 0,.sb C] [vR (iR M f)]) O ?_ ?_
 intro Ik2 k2 hk2 O;cbv;refine iH (TF hM) ?_;intro y4 O;cbv;refine gu ?_ ?_
 exact iC
 intro O;cbv;refine iH (TF hM) ?_;intro y5 O;cbv;refine gu ?_ ?_
 exact iC
 intro O;cbv;refine iH (TF hM) ?_;intro y6 O;cbv;refine gu ?_ ?_
 exact iC
 intro O;cbv;refine iH (TF hM) ?_;intro y7 O;cbv;refine gu ?_ ?_
 exact iC
 intro O;cbv;refine iH (TF hM) ?_;exact jP
 intro C O;cbv;refine iq ?_ ?_
 exact gQ
 intro O;cbv;refine jJ [] [1,48] (λI=>f4 89 [.lv 0 0,.sb I] [vR (iR M f)]) O ?_ ?_
 intro Ik10 k10 hk10 O;cbv;refine iH (TF hM) ?_;intro y12 O;cbv;refine gu ?_ ?_
 exact iC
 intro O;cbv;refine iH (TF hM) ?_;intro y13 O;cbv;refine gu ?_ ?_<;>exact iC
 intro I O;cbv;refine iq ?_ ?_
 exact gQ
 intro O;cbv;refine jJ [] [1,66] (λU=>f4 89 [.lv 0 0,.sb U] [vR (iR M f)]) O ?_ ?_
 intro Ik15 k15 J O;cbv;refine iH (TF hM) ?_;intro y17 O;cbv;refine gu ?_ ?_
 exact iC
 intro O;cbv;refine iH (TF hM) ?_;intro y18 O;cbv;refine gu ?_ ?_<;>exact iC
 intro U O;cbv;refine iq ?_ ?_
 exact gQ
 intro O;cbv;refine jJ [] [1,75] (λT=>f4 89 [.lv 0 0,.sb T] [vR (iR M f)]) O ?_ ?_
 intro Ik20 k20 g O;cbv;refine gu ?_ ?_
 intro O;cbv;refine iH (agD hM) ?_;exact jP
 exact iC
 intro T O;cbv;refine iq ?_ ?_
 exact gQ
 intro O;cbv;refine iH (aiB hM) ?_;intro y23 O;cbv;refine iq ?_ ?_
 intro O;cbv;refine iH (aiB hM) ?_;intro y24 O;cbv;refine iq ?_ ?_
 intro O;cbv;refine iH (aiB hM) ?_;exact ja
 exact gQ
 exact gQ
end
variable [GM]
section
variable {M:EncM}(hM:M=mapE)
include hM
theorem WT {f:jf}{r:Bool}(O:AA f=some r):fV 235 [.agg (iR M f)] (λu=>u=.sb r):=by
 refine iw (gY [2,6,10]) func235 call235 ?_;intro S R hS hR q;unfold AA at O;cbv;refine jJ [] [1,40] (λT=>f4 87 [.lv 0 0,.sb T] [vR (iR M f)]) O ?_ ?_
 intro Ik2 k2 hk2 O;cbv;refine gu ?_ ?_
 exact iC
 intro O;cbv;refine gu ?_ ?_
 exact iC
 intro O;cbv;refine gu ?_ ?_
 exact iC
 intro O;cbv;refine gu ?_ ?_
 exact iC
 intro O;cbv;refine gu ?_ ?_
 exact iC
 intro O;cbv;refine gu ?_ ?_
 exact iC
 intro O;cbv;refine gu ?_ ?_<;>exact iC
 intro T O;cbv;refine iq ?_ ?_
 exact gQ
 intro O;cbv;refine jJ [] [1,54] (λI=>f4 87 [.lv 0 0,.sb I] [vR (iR M f)]) O ?_ ?_
 intro Ik5 k5 hk5 O;cbv;refine iH (ajY hM) ?_;intro y7 O;cbv;refine gu ?_ ?_
 exact iC
 intro O;cbv;refine iH (ajY hM) ?_;exact jP
 intro I O;cbv;refine iq ?_ ?_
 exact gQ
 intro O;cbv;refine jJ [] [1,73] (λU=>f4 87 [.lv 0 0,.sb U] [vR (iR M f)]) O ?_ ?_
 intro J k10 C O;cbv;refine gu ?_ ?_
 intro O;cbv;refine iH (agC hM) ?_;intro y12 O;cbv;refine gu ?_ ?_
 exact iC
 intro O;cbv;refine gu ?_ ?_<;>exact iC
 intro O;cbv;refine gu ?_ ?_<;>exact iC
 intro U O;cbv;refine iq ?_ ?_
 exact gQ
 intro O;cbv;refine iH (ah0 hM) ?_;intro y13 O;cbv;refine iq ?_ ?_
 intro O;cbv;refine iH (ah0 hM) ?_;intro g O;cbv;refine iq ?_ ?_
 intro O;cbv;refine iH (ah0 hM) ?_;exact ja
 exact gQ
 exact gQ
theorem aiI {cards:List GCard}{o:GObject}{r:GTraits}(O:IL cards o=some r):fV 244 [jR M cards,.agg (eGObject M o)] (λu=>u=.agg (eGTraits M r)):=by
 refine iw (gY [9,10,15]) func244 call244 ?_;intro S R hS hR q;unfold IL at O;cbv;refine jJ [] [0,3,4,5] (λU=>f4 42 [jR M cards,.lv 0 0,.lv 1 0,sI U] [vR (eGObject M o),vR [.str (bs []),sI 0,sI 0,sI 0,sI 0,sI 0,sI 0,sI 0,sI 0,sI 0,sI 0,.sl 0 [] true,sI 0,sI 0,sI 0,.sl 0 [] true,sI 0]]) O ?_ ?_
 intro Ik2 k2 hk2 O;cbv;refine gu ?_ ?_<;>exact iC
 intro U O;cbv;refine jJ [.cS 2 11 1,.cS 2 15 72] [3,4,6] (λJ=>f4 42 [.lv 0 0,.lv 1 0,.lv 2 0] [vR (eGObject M o),vR [.str (bs []),sI 0,sI 0,sI 0,sI 0,sI 0,sI 0,sI 0,sI 0,sI 0,sI 0,.sl 0 [] true,sI 0,sI 0,sI 0,.sl 0 [] true,sI 0],vR (eGTraits M J)]) O ?_ ?_
 intro Ik5 k5 g O;cbv;refine jJ [] [0,3,4,5,6,21] (λT=>f4 42 [jR M cards,.lv 0 0,.lv 1 0,sI U,.lv 2 0,.sb T] [vR (eGObject M o),vR [.str (bs []),sI 0,sI 0,sI 0,sI 0,sI 0,sI 0,sI 0,sI 0,sI 0,sI 0,.sl 0 [] true,sI 0,sI 0,sI 0,.sl 0 [] true,sI 0],vR [.str (bs []),sI 0,sI 0,sI 0,sI 0,sI 0,sI 0,sI 0,sI 0,sI 0,sI 0,.sl 0 [] true,sI 0,sI 0,sI 0,.sl 0 [] true,sI 0]]) O ?_ ?_
 intro I k8 C O;cbv;refine gu ?_ ?_<;>exact iC
 intro T O;cbv;refine iq ?_ ?_
 intro O;cbv;refine lH ?_;intro x10 O;cbv;refine iH (c325 hM) ?_;exact jP
 exact iC
 intro J O;cbv;refine gu ?_ ?_
 exact gQ
 intro O;cbv;refine gu ?_ ?_<;>exact gQ
theorem c192 {l:wO}{r:Bool}(O:FZ l=some r):fV 192 [.agg (DN M l)] (λu=>u=.sb r):=by
 refine iw (gY [2,12]) func192 call192 ?_;intro S R hS hR q;unfold FZ at O;cbv;refine jJ [] [1,27] (λs1=>f4 80 [.lv 0 0,.sb s1] [vR (DN M l)]) O ?_ ?_
 intro Ik2 k2 hk2 O;cbv;refine gu ?_ ?_
 exact iC
 intro O;cbv;refine gu ?_ ?_
 exact iC
 intro O;cbv;refine gu ?_ ?_
 exact iC
 intro O;cbv;refine gu ?_ ?_<;>exact iC
 intro s1 O;cbv;refine iq ?_ ?_
 exact gQ
 intro O;cbv;refine wB (gY [2,12]) [] [1,3] (λs4=>f4 80 [.lv 0 0,sI s4] [vR (DN M l)]) O ?_;intro Ik5 k5 s4 hk5 O e he;subst he;unfold PU at O;cbv;refine gu ?_ ?_
 intro O;cbv;refine jJ [] [1,3,59] (λs7=>f4 80 [.lv 0 0,sI s4,.sb s7] [vR (DN M l)]) O ?_ ?_
 intro Ik8 k8 hk8 O;cbv;refine zU hS ?_;cbv;refine lH ?_;intro x10 O;cbv;refine Ac hS O (λ_=>agC hM) ?_;intro y11 O;cbv;refine gu ?_ ?_
 exact iC
 intro O;cbv;refine gu ?_ ?_
 intro O;cbv;refine d_idx hS hM O rfl d_e ?_;intro x12 O;cbv;refine lH ?_;exact jP
 exact iC
 intro s7 O;cbv;refine iq ?_ ?_
 exact gQ
 exact iC
 intro O;cbv;refine gu ?_ ?_
 exact gQ
 intro O;cbv;refine gu ?_ ?_
 exact gQ
 intro O;cbv;refine iH (ah4 hM) ?_;intro y14 O;cbv;refine gu ?_ ?_
 intro O;cbv;refine iH (ah4 hM) ?_;exact ja
 exact gQ
theorem aiJ {a:GAbility}{b:GAbility}{r:Bool}(O:yZ a b=some r):fV 214 [.agg (eGAbility M a),.agg (eGAbility M b)] (λu=>u=.sb r):=by
 refine iw gW func214 call214 ?_;intro S R hS hR q;unfold yZ at O;cbv;refine gu ?_ ?_
 exact gQ
 intro O;cbv;refine d_lp hS gW wf [] [2,3,5] (λU=>f3 92 [(2,.lv 0 0),(3,.lv 1 0),(5,sI U)] [vR (eGAbility M a),vR (eGAbility M b)]) O ?_;intro J k2 U I O e he;subst he;unfold BI at O;cbv;refine gu ?_ ?_
 intro O;cbv;refine zU hS ?_;cbv;refine lH ?_;intro C O;cbv;refine lH ?_;intro g O;cbv;replace O:=uZ O;refine gu ?_ ?_
 exact gQ
 exact iC
 intro O;cbv;refine gu ?_ ?_
 intro O;cbv;replace O:=uZ O;refine gu ?_ ?_
 intro O;cbv;refine iH (aj2 hM) ?_;intro y8 O;cbv;refine iq ?_ ?_
 intro O;cbv;replace O:=uZ O;refine gu ?_ ?_
 intro O;cbv;refine gu ?_ ?_
 intro O;cbv;replace O:=uZ O;refine gu ?_ ?_
 intro O;cbv;refine gu ?_ ?_
 intro O;cbv;refine iH (c304 hM) ?_;intro T O;cbv;refine iq ?_ ?_
 exact fG
 exact gQ
 exact gQ
 exact gQ
 exact gQ
 exact gQ
 exact gQ
 exact gQ
 exact gQ
theorem c417 {l:wO}{sub:ByteArray}{r:wO}(O:BP l sub=some r):fV 417 [.agg (DN M l),.str sub] (λu=>u=.agg (DN M r)):=by
 refine iw (gY [4,15]) func417 call417 ?_;intro S R hS hR q;unfold BP at O;cbv;refine CZ hS O (λ_=>aj7 hM) (le_eq rfl) ?_;intro y1 O;cbv;refine jJ [] [2,3,4,23] (λs2=>f4 42 [.lv 0 0,.lv 2 0,.lv 3 0,.sb s2] [vR [sI l.Gt,sI l.types,.os 1 0 (S.lenN (M.m ByteArray eS y1))],aR 1 (M.m ByteArray eS y1),vR [.str sub],vR [sI 0,sI 0,.sl 0 [] true]]) O ?_ ?_
 intro Ik3 k3 hk3 O;cbv;refine iH (agD hM) ?_;intro y5 O;cbv;refine gu ?_ ?_
 exact iC
 intro O;cbv;refine oO hS O (λ_=>aeG hM) AQ (λ_=>rfl) ?_;intro y6 O;cbv;refine iq ?_ ?_<;>exact iC
 intro s2 O;cbv;refine iq ?_ ?_
 exact gQ
 intro O;cbv;refine oO hS O (λ_=>aix hM) AQ (λ_=>rfl) ?_;intro y7 O;cbv;refine jJ [] [2,3,4,5] (λs8=>f4 42 [.lv 0 0,.lv 2 0,.lv 3 0,sI s8] [vR [sI l.Gt,sI l.types,.os 1 0 (S.lenN (M.m ByteArray eS y1))],aR 1 (M.m ByteArray eS y1),vR [.str sub],vR [sI 0,sI 0,.sl 0 [] true]]) O ?_ ?_
 intro Ik9 k9 hk9 O;cbv;refine gu ?_ ?_<;>exact iC
 intro s8 O;cbv;refine jO hS O (λ_=>s470 hM) ai ai rfl rfl rfl rfl ?_;exact ja
theorem aeH {s:GState}{l:List Int}{iI:Int}{owner:Int}{r:Bool}(O:yR s l iI owner=some r):fV 161 [.agg (eGState M s),.sl 1 (mI M l) false,sI iI,sI owner] (λu=>u=.sb r):=by
 refine iw (gY [10]) func161 call161 ?_;intro S R hS hR q;unfold yR at O;cbv;refine wB (gY [10]) [] [1,2,3,4,9] (λU=>f4 54 [.sl 1 (mI M l) false,sI iI,sI owner,.lv 0 0,sI U] [vR (eGState M s)]) O ?_;intro I k2 U g O e he;subst he;unfold JC at O;cbv;refine gu ?_ ?_
 intro O;cbv;refine zU hS ?_;cbv;refine lH ?_;intro x4 O;cbv;refine Ac hS O (λ_=>c228 hM) ?_;intro y5 O;cbv;refine jJ [] [1,2,3,4,9,53] (λT=>f4 54 [.sl 1 (mI M l) false,sI iI,sI owner,.lv 0 0,sI U,.sb T] [vR (eGState M s)]) O ?_ ?_
 intro C k7 J O;cbv;refine gu ?_ ?_
 exact iC
 intro O;cbv;refine gu ?_ ?_
 exact iC
 intro O;cbv;refine gu ?_ ?_
 intro O;cbv;refine gu ?_ ?_
 exact iC
 intro O;cbv;refine lH ?_;intro x9 O;cbv;refine iH (c229 hM) ?_;exact jP
 intro O;cbv;refine lH ?_;intro x11 O;cbv;refine iH (c229 hM) ?_;exact jP
 intro T O;cbv;refine iq ?_ ?_
 exact gQ
 exact iC
 exact gQ
theorem c89 {cards:List GCard}{s:GState}{r:Bool}(O:sV cards s=some r):fV 89 [jR M cards,.agg (eGState M s)] (λu=>u=.sb r):=by
 refine iw (gY [14]) func89 call89 ?_;intro S R hS hR q;unfold sV at O;cbv;refine gu ?_ ?_
 exact gQ
 intro O;cbv;refine wB (gY [14]) [] [0,3,5] (λs1=>f4 65 [jR M cards,.lv 0 0,sI s1] [vR (eGState M s)]) O ?_;intro Ik2 k2 s1 hk2 O e he;subst he;unfold vS at O;cbv;refine gu ?_ ?_
 intro O;cbv;refine lH ?_;intro x4 O;cbv;refine jJ [] [0,3,5,6,60] (λs5=>f4 65 [jR M cards,.lv 0 0,sI s1,.lv 1 0,.sb s5] [vR (eGState M s),vR (eGObject M x4)]) O ?_ ?_
 intro Ik6 k6 hk6 O;cbv;refine zU hS ?_;cbv;refine Z4 hS O (λ_=>c162 hM) AQ ?_;intro y8 O;cbv;refine gu ?_ ?_
 exact iC
 intro O;cbv;refine gu ?_ ?_
 exact iC
 intro O;cbv;refine gu ?_ ?_
 exact iC
 intro O;cbv;refine gu ?_ ?_
 intro O;cbv;refine d_idx hS hM O rfl d_e ?_;exact jP
 exact iC
 intro s5 O;cbv;refine iq ?_ ?_
 exact gQ
 intro O;cbv;refine iH (c163 hM) ?_;intro y10 O;cbv;refine gu ?_ ?_
 exact gQ
 exact iC
 exact gQ
theorem aiK {s:List Int}{U:Int}{T:List (List Bool)}{I:List Int}{J:List (List Bool)}{r:Int}(O:kE s (λa0=>sN a0 U T (λa0 a1=>oL a0 a1 I J))=some r):fV 226 [.sl 1 (mI M s) false,.fn 405 [.pp [sI U],.pp [.sl 1 (M.m (List Bool) (eL M 1 eB) T) false],.pp [.fn 455 [.pp [.sl 1 (mI M I) false],.pp [.sl 1 (M.m (List Bool) (eL M 1 eB) J) false]]]]] (λu=>u=sI r):=by
 refine iw gW func226 call226 ?_;intro S R hS hR q;unfold kE at O;cbv;refine d_lp hS gW wf [] [0,1,7,8] (λC=>f3 19 [(0,.sl 1 (mI M s) false),(1,.fn 405 [.pp [sI U],.pp [.sl 1 (M.m (List Bool) (eL M 1 eB) T) false],.pp [.fn 455 [.pp [.sl 1 (mI M I) false],.pp [.sl 1 (M.m (List Bool) (eL M 1 eB) J) false]]]]),(7,sI (S.len (mI M s))),(8,sI C)] []) O ?_;intro g k2 C hk2 O e he;subst he;unfold mG at O;cbv;refine gu ?_ ?_
 intro O;cbv;refine lH ?_;intro x4 O;cbv;refine iH (aiE hM) ?_;intro y5 O;cbv;refine iq ?_ ?_
 exact gQ
 exact iC
 exact gQ
end
variable [GM]
section
variable {M:EncM}(hM:M=mapE)
include hM
theorem aiL {x:List GObject}{target:Int}{r:Int×Bool}(O:kT x target rO=some r):fV 462 [kP M x,sI target,.fn 463 []] (λu=>u=.FH [sI r.1,.sb r.2]):=by
 refine iw gW func462 call462 ?_;intro S R hS hR q;unfold kT at O;cbv;refine d_lp hS gW wf [] [0,1,2,8,9,10] (λU=>f3 49 [(0,kP M x),(1,sI target),(2,.fn 463 []),(8,sI (S.len (lK M x))),(9,sI U.1),(10,sI U.2)] []) O ?_;intro T k2 U J O e he;subst he;unfold ou at O;cbv;refine gu ?_ ?_
 intro O;cbv;refine Yj hS O d_e rfl ?_;intro I O;cbv;refine d_idx hS hM O rfl d_e ?_;intro C O;cbv;refine iH (akv hM) ?_;intro y6 O;cbv;refine gu ?_ ?_<;>exact iC
 intro O;cbv;refine gu ?_ ?_
 intro O;cbv;refine lH ?_;intro g O;cbv;refine iH (akv hM) ?_;exact ja
 exact gQ
theorem aiM {s:List GOption}{U:List GOption}{r:Int}(O:sH s (λa0=>vU a0 U)=some r):fV 185 [mQ M s,.fn 284 [.pp [mQ M U]]] (λu=>u=sI r):=by
 refine iw gW func185 call185 ?_;intro S R hS hR q;unfold sH at O;cbv;refine d_lp hS gW wf [] [0,1,7,8] (λT=>f3 19 [(0,mQ M s),(1,.fn 284 [.pp [mQ M U]]),(7,sI (S.len (kU M s))),(8,sI T)] []) O ?_;intro J k2 T I O e he;subst he;unfold vV at O;cbv;refine gu ?_ ?_
 intro O;cbv;refine lH ?_;intro C O;cbv;refine iH (aku hM) ?_;intro g O;cbv;refine iq ?_ ?_
 exact gQ
 exact iC
 exact gQ
theorem akx {i:Int}{r:ByteArray}(O:wG i=some r):fV 395 [sI i] (λu=>u=.str r):=by
 refine iw gW func395 call395 ?_;intro S R hS hR q;unfold wG at O;cbv;refine d_lp hS gW wf [] [0,3,4] (λU=>f3 14 [(0,sI i),(3,sI U.1),(4,sI U.2)] []) O ?_;intro T k2 U J O e he;subst he;unfold Ci at O;cbv;refine gu ?_ ?_
 exact iC
 intro O;cbv;refine iH (aiG hM) ?_;exact ja
theorem c62 {s:GState}{id:Int}{r:GObject×Bool}(O:yx s id=some r):fV 62 [.agg (eGState M s),sI id] (λu=>u=.FH [.agg (eGObject M r.1),.sb r.2]):=by
 refine iw gW func62 call62 ?_;intro S R hS hR q;unfold yx at O;cbv;refine iH (c137 hM) ?_;intro y1 O;cbv;refine gu ?_ ?_
 exact gQ
 intro O;cbv;refine lH ?_;exact ja
theorem c383 {p:Lj Int}{r:ByteArray}(O:yY p=some r):fV 383 [.agg [sI p.a0,sI p.a1,sI p.a2,sI p.a3,sI p.a4,sI p.a5]] (λu=>u=.str r):=by
 refine iw gW func383 call383 ?_;intro S R hS hR q;unfold yY at O;cbv;refine iH (c451 hM) ?_;intro y1 O;cbv;refine iH (c450 hM) ?_;exact ja
theorem aiN {s:List jv}{U:Int}{r:Bool}(O:pg s (λa0=>qQ a0 U)=some r):fV 327 [xX M s,.fn 328 [.pp [sI U]]] (λu=>u=.sb r):=by
 refine iw gW func327 call327 ?_;intro S R hS hR q;unfold pg at O;cbv;refine iH (aiD hM) ?_;exact ja
end
end Go.Proofs.YtchmoabpofnbaaaGreat
