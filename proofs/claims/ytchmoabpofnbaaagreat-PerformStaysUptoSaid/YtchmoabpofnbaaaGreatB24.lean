import Derived.Test.YtchmoabpofnbaaaGreatB22
set_option linter.all false
namespace Go.Proofs.YtchmoabpofnbaaaGreat
open Go Go.Pv Proofs.Tryz
set_option maxRecDepth 100000
set_option maxHeartbeats 2000000
variable [GM]
section
variable {M:EncM}(hM:M=mapE)
include hM
theorem c416 {m:jv}{r:Bool}(O:TB m=some r):fV 416 [.agg (uz M m)] (λu=>u=.sb r):=by
 refine iw (gY [2]) func416 call416 ?_;intro S R hS hR q;unfold TB at O;cbv;refine jJ [] [1,12] (λs1=>f4 74 [.lv 0 0,.sb s1] [vR (uz M m)]) O ?_ ?_
 intro Ik2 k2 hk2 O;cbv;refine zU hS ?_;cbv;refine Ac hS O (λ_=>TE hM) ?_;intro y4 O;cbv;refine gu ?_ ?_
 exact iC
 intro O;cbv;refine Ac hS O (λ_=>c466 hM) ?_;intro y5 O;cbv;replace O:=uZ O;exact nM
 intro s1 O;cbv;refine iq ?_ ?_
 exact gQ
 intro O;cbv;refine gu ?_ ?_
 intro O;cbv;refine iH (TE hM) ?_;intro y7 O;cbv;refine iq ?_ ?_<;>exact gQ
 intro O;cbv;refine gu ?_ ?_
 intro O;cbv;refine iH (TE hM) ?_;intro y8 O;cbv;refine iq ?_ ?_<;>exact gQ
 intro O;cbv;refine gu ?_ ?_
 intro O;cbv;refine iH (agD hM) ?_;exact ja
 intro O;cbv;refine gu ?_ ?_
 intro O;cbv;refine iH (agD hM) ?_;exact ja
 intro O;cbv;refine gu ?_ ?_
 intro O;cbv;refine iH (TE hM) ?_;exact ja
 intro O;cbv;refine gu ?_ ?_
 intro O;cbv;refine iH (TE hM) ?_;exact ja
 intro O;cbv;refine gu ?_ ?_
 intro O;cbv;refine iH (TE hM) ?_;exact ja
 intro O;cbv;refine gu ?_ ?_
 intro O;cbv;refine iH (TE hM) ?_;exact ja
 intro O;cbv;refine gu ?_ ?_
 intro O;cbv;refine iH (akw hM) ?_;exact ja
 intro O;cbv;refine gu ?_ ?_
 intro O;cbv;refine iH (TE hM) ?_;intro y16 O;cbv;refine iq ?_ ?_
 intro O;cbv;refine iH (TE hM) ?_;exact ja
 exact gQ
 intro O;cbv;refine gu ?_ ?_
 intro O;cbv;refine iH (TE hM) ?_;intro y18 O;cbv;refine iq ?_ ?_
 intro O;cbv;refine iH (TE hM) ?_;exact ja
 exact gQ
 exact gQ
theorem c381 {a:wC}{r:Bool}(O:Tv a=some r):fV 381 [.agg (BD M a)] (λu=>u=.sb r):=by
 refine iw (gY [10,20,33]) func381 call381 ?_;intro S R hS hR q;unfold Tv at O;cbv;refine jJ [] [1,3] (λs1=>f4 59 [.lv 0 0,.lv 1 0] [vR (BD M a),vR (BD M s1)]) O ?_ ?_
 intro Ik2 k2 hk2 O;cbv;refine gu ?_ ?_
 intro O;cbv;refine jJ [] [1,3,17] (λs4=>f4 59 [.lv 0 0,.lv 1 0,.sb s4] [vR (BD M a),vR [sI a.kind,sI 0,sI a.counter,sI a.filter.iI,sI a.filter.who,sI a.filter.self,sI a.filter.types,sI a.filter.iy,sI a.filter.iM,sI a.filter.gZ,.str a.filter.sub,sI a.filter.keys,sI a.filter.rE,sI a.filter.power.kind,sI a.filter.power.n,sI a.filter.ik.kind,sI a.filter.ik.n,sI a.filter.value.kind,sI a.filter.value.n]]) O ?_ ?_
 intro Ik5 k5 hk5 O;cbv;refine gu ?_ ?_<;>exact iC
 intro s4 O;cbv;refine iq ?_ ?_
 exact gQ
 exact iC
 intro O;cbv;refine gu ?_ ?_
 intro O;cbv;refine jJ [] [1,3,36] (λs7=>f4 59 [.lv 0 0,.lv 1 0,.sb s7] [vR (BD M a),vR [sI a.kind,sI 0,sI a.counter,sI 0,sI 0,sI 0,sI 0,sI 0,sI 0,sI 0,.str (bs []),sI 0,sI 0,sI 0,sI 0,sI 0,sI 0,sI 0,sI 0]]) O ?_ ?_
 intro Ik8 k8 hk8 O;cbv;refine gu ?_ ?_
 exact iC
 intro O;cbv;refine gu ?_ ?_
 exact iC
 intro O;cbv;refine iH (WT hM) ?_;exact jP
 intro s7 O;cbv;refine iq ?_ ?_
 exact gQ
 exact iC
 intro O;cbv;refine gu ?_ ?_
 intro O;cbv;refine iH (akb hM) ?_;intro y11 O;cbv;refine gu ?_ ?_
 exact gQ
 exact iC
 exact iC
 intro s1 O;cbv;refine gu ?_ ?_
 intro O;cbv;refine gu ?_ ?_
 exact fG
 exact gQ
 exact gQ
theorem aiO {s:List GOption}{I:List GOption}{r:List GOption}(O:rH s (λa0=>vU a0 I)=some r):Pv.FnS Tryz.prog glF 199 [.os 0 0 (M.n GOption s),.fn 284 [.pp [mQ M I]]] [(0,(aR 3 (kU M s)))] 1 (λuu ss nn=>uu=.os 1 0 (M.n GOption r)/\ss=[(0,none),(1,(aR 3 (kU M r)))]/\nn=2):=by
 refine fnS_dec (T:=(tabx 1 [13] [[(3,true)]])) (tabxOK 1 [13] [[(3,true)]]) wf func199 rfl call199 rfl ?_;intro S R hS hR;have q:=sf hM hS;unfold rH at O;cbv;refine oO hS O (λ_=>aiM hM) AQ (λ_=>rfl) ?_;intro y1 O;cbv;refine gu ?_ ?_
 exact fE
 intro O;cbv;refine wB (tabxOK 1 [13] [[(3,true)]]) [] [0,1,5,6] (λU=>f4 42 [.os 0 0 (S.lenN (kU M U.2.2)),.fn 284 [.pp [mQ M I]],sI U.1,sI U.2.1] [aR 3 (kU M U.2.2)]) O ?_;intro Ik3 k3 U hk3 O e he;subst he;unfold uY at O;cbv;refine gu ?_ ?_
 intro O;cbv;refine jJ [] [0,1,5,6] (λJ=>f4 42 [.os 0 0 (S.lenN (kU M J.2)),.fn 284 [.pp [mQ M I]],sI J.1,sI U.2.1] [aR 3 (kU M J.2)]) O ?_ ?_
 intro Ik6 k6 C O;cbv;refine rD hS O d_e rfl ?_;intro j8 _ O;cbv;refine mW hS hM O rfl d_e ?_;intro x9 O;cbv;refine iH (aku hM) ?_;intro g O;cbv;refine gu ?_ ?_
 intro O;cbv;refine rD hS O d_e rfl ?_;intro j11 _ O;cbv;refine mW hS hM O rfl d_e ?_;exact jP
 exact iC
 intro J O;cbv;exact nM
 intro O;cbv;refine abo hS O d_e rfl d_e ?_;intro x13 bx13 O;cbv;refine d_wk hS (e:=(eGOption M)) O d_st ?_;intro x14 O;cbv;refine abo hS O d_e rfl rfl ?_;intro x15 bx15 O;cbv;cases O;exact hR _ _ _ aA aA rfl
theorem c87 {s:GState}{r:Bool}(O:BG s=some r):fV 87 [.agg (eGState M s)] (λu=>u=.sb r):=by
 refine iw (gY [14,18]) func87 call87 ?_;intro S R hS hR q;unfold BG at O;cbv;refine tC hS O (λ_=>c86 hM) AQ ?_;intro y1 O;cbv;refine gu ?_ ?_
 exact gQ
 intro O;cbv;refine wB (gY [14,18]) [] [1,3] (λs2=>f4 76 [.lv 0 0,sI s2] [vR (eGState M s)]) O ?_;intro Ik3 k3 s2 hk3 O e he;subst he;unfold Eb at O;cbv;refine gu ?_ ?_
 intro O;cbv;refine lH ?_;intro x5 O;cbv;refine jJ [] [1,3,4,43] (λs6=>f4 76 [.lv 0 0,sI s2,.lv 1 0,.sb s6] [vR (eGState M s),vR (uy M x5)]) O ?_ ?_
 intro Ik7 k7 hk7 O;cbv;refine iH (c86 hM) ?_;intro y9 O;cbv;refine gu ?_ ?_
 exact iC
 intro O;cbv;refine iH (c86 hM) ?_;intro y10 O;cbv;refine gu ?_ ?_
 exact iC
 intro O;cbv;refine iH (c86 hM) ?_;intro y11 O;cbv;refine gu ?_ ?_
 exact iC
 intro O;cbv;refine iH (c160 hM) ?_;exact jP
 intro s6 O;cbv;refine iq ?_ ?_
 exact gQ
 intro O;cbv;refine jJ [] [1,3,65] (λs13=>f4 76 [.lv 0 0,sI s2,.sb s13] [vR (eGState M s)]) O ?_ ?_
 intro Ik14 k14 hk14 O;cbv;refine iH (aeH hM) ?_;intro y16 O;cbv;refine gu ?_ ?_
 exact iC
 intro O;cbv;refine iH (aeH hM) ?_;intro y17 O;cbv;refine gu ?_ ?_
 exact iC
 intro O;cbv;refine iH (aeH hM) ?_;exact jP
 intro s13 O;cbv;refine iq ?_ ?_
 exact gQ
 exact iC
 intro O;cbv;refine iH (aeH hM) ?_;intro y19 O;cbv;refine iq ?_ ?_
 intro O;cbv;refine iH (aeH hM) ?_;exact ja
 exact gQ
theorem c379 {pr:Tf}{specs:Int}{r:Bool}(O:Tu pr specs=some r):fV 379 [.agg (Qy M pr),sI specs] (λu=>u=.sb r):=by
 refine iw (gY [6,7,12,21]) func379 call379 ?_;intro S R hS hR q;unfold Tu at O;cbv;refine jJ [] [1,2] (λs1=>f4 40 [sI s1,.lv 0 0] [vR (Qy M pr)]) O ?_ ?_
 intro Ik2 k2 hk2 O;cbv;refine gu ?_ ?_<;>exact iC
 intro s1 O;cbv;refine jJ [] [1,2,14] (λs4=>f4 40 [sI s1,.lv 0 0,.sb s4] [vR (Qy M pr)]) O ?_ ?_
 intro Ik5 k5 hk5 O;cbv;refine gu ?_ ?_<;>exact iC
 intro s4 O;cbv;refine iq ?_ ?_
 exact gQ
 intro O;cbv;refine jJ [] [2] (λs7=>f4 40 [.lv 0 0] [vR (Qy M pr)]) O ?_ ?_
 intro Ik8 k8 hk8 O;cbv;refine iH (c449 hM) ?_;intro y10 O;cbv;refine iq ?_ ?_
 intro O;cbv;refine jJ [] [2,26] (λs11=>f4 40 [.lv 0 0,.sb s11] [vR (Qy M pr)]) O ?_ ?_
 intro Ik12 k12 hk12 O;cbv;refine gu ?_ ?_<;>exact iC
 intro s11 O;cbv;refine iq ?_ ?_
 exact gQ
 exact iC
 intro O;cbv;refine gu ?_ ?_
 exact gQ
 exact iC
 intro s7 O;cbv;refine gu ?_ ?_
 intro O;cbv;refine iH (WT hM) ?_;exact ja
 intro O;cbv;replace O:=uZ O;exact qO
theorem c118 {a:uA}{b:uA}{r:Bool}(O:zG a b=some r):fV 118 [.agg (Aq M a),.agg (Aq M b)] (λu=>u=.sb r):=by
 refine iw gW func118 call118 ?_;intro S R hS hR q;unfold zG at O;cbv;refine gu ?_ ?_
 exact gQ
 intro O;cbv;refine d_lp hS gW wf [] [2,3,5] (λs1=>f3 85 [(2,.lv 0 0),(3,.lv 1 0),(5,sI s1)] [vR (Aq M a),vR (Aq M b)]) O ?_;intro Ik2 k2 s1 hk2 O e he;subst he;unfold xN at O;cbv;refine gu ?_ ?_
 intro O;cbv;refine zU hS ?_;cbv;refine lH ?_;intro x4 O;cbv;refine lH ?_;intro x5 O;cbv;replace O:=uZ O;refine gu ?_ ?_
 exact gQ
 exact iC
 intro O;cbv;refine gu ?_ ?_
 intro O;cbv;refine gu ?_ ?_
 intro O;cbv;refine gu ?_ ?_
 intro O;cbv;refine gu ?_ ?_
 intro O;cbv;refine gu ?_ ?_
 intro O;cbv;refine gu ?_ ?_
 intro O;cbv;refine iH (aiJ hM) ?_;intro y7 O;cbv;refine iq ?_ ?_
 exact fG
 exact gQ
 exact gQ
 exact gQ
 exact gQ
 exact gQ
 exact gQ
 exact gQ
theorem c237 {t:vP}{r:Bool}(O:Tq t=some r):fV 237 [.agg (Dy M t)] (λu=>u=.sb r):=by
 refine iw (gY [2,17]) func237 call237 ?_;intro S R hS hR q;unfold Tq at O;cbv;refine jJ [] [1,28] (λs1=>f4 50 [.lv 0 0,.sb s1] [vR (Dy M t)]) O ?_ ?_
 intro Ik2 k2 hk2 O;cbv;refine iH (ajZ hM) ?_;intro y4 O;cbv;refine gu ?_ ?_
 exact iC
 intro O;cbv;refine gu ?_ ?_
 exact iC
 intro O;cbv;refine gu ?_ ?_
 exact iC
 intro O;cbv;refine iH (aj9 hM) ?_;intro y5 O;cbv;refine gu ?_ ?_<;>exact iC
 intro s1 O;cbv;refine iq ?_ ?_
 exact gQ
 intro O;cbv;refine iH (c312 hM) ?_;intro y6 O;cbv;refine gu ?_ ?_
 exact fG
 intro O;cbv;refine jJ [] [1,3] (λs8=>f4 50 [.lv 0 0,sI s8] [vR (Dy M t)]) O ?_ ?_
 intro Ik9 k9 hk9 O;cbv;refine gu ?_ ?_<;>exact iC
 intro s8 O;cbv;refine iH (WT hM) ?_;intro y11 O;cbv;refine iq ?_ ?_<;>exact gQ
theorem c206 {s:GState}{pe:GEvent}{r:Bool}(O:Fg s pe=some r):fV 206 [.agg (eGState M s),.agg (eGEvent M pe)] (λu=>u=.sb r):=by
 refine iw gW func206 call206 ?_;intro S R hS hR q;unfold Fg at O;cbv;refine iH (c62 hM) ?_;intro y1 O;cbv;refine iq ?_ ?_
 intro O;cbv;refine gu ?_ ?_
 intro O;cbv;refine gu ?_ ?_
 intro O;cbv;refine gu ?_ ?_
 intro O;cbv;refine gu ?_ ?_
 intro O;cbv;refine gu ?_ ?_<;>exact gQ
 exact gQ
 exact gQ
 exact gQ
 exact gQ
 exact gQ
end
variable [GM]
section
variable {M:EncM}(hM:M=mapE)
include hM
theorem c316 {s:oJ}{r:Bool}(O:JM s=some r):fV 316 [.agg (FW M s)] (λu=>u=.sb r):=by
 refine iw (gY [4]) func316 call316 ?_;intro S R hS hR q;unfold JM at O;cbv;refine gu ?_ ?_
 intro O;cbv;refine jJ [] [2] (λs1=>f4 33 [.sb s1] []) O ?_ ?_
 intro Ik2 k2 hk2 O;cbv;refine iq ?_ ?_
 intro O;cbv;replace O:=uZ O;exact nM
 exact iC
 intro s1 O;cbv;exact qO
 intro O;cbv;refine iH (WT hM) ?_;intro y5 O;cbv;refine iq ?_ ?_
 intro O;cbv;refine gu ?_ ?_
 exact gQ
 intro O;cbv;refine gu ?_ ?_<;>exact gQ
 exact gQ
theorem c384 {op:Int}{f:jf}{r:Bool}(O:Eg op f=some r):fV 384 [sI op,.agg (iR M f)] (λu=>u=.sb r):=by
 refine iw (gY [9]) func384 call384 ?_;intro S R hS hR q;unfold Eg at O;cbv;refine jJ [] [3,5] (λs1=>f4 16 [.lv 0 0,sI s1] [vR (iR M f)]) O ?_ ?_
 intro Ik2 k2 hk2 O;cbv;refine gu ?_ ?_<;>exact iC
 intro s1 O;cbv;refine iH (WT hM) ?_;intro y4 O;cbv;refine iq ?_ ?_<;>exact gQ
theorem c119 {a:mD}{b:mD}{r:Bool}(O:uJ a b=some r):fV 119 [.agg (wF M a),.agg (wF M b)] (λu=>u=.sb r):=by
 refine iw gW func119 call119 ?_;intro S R hS hR q;unfold uJ at O;cbv;refine gu ?_ ?_
 intro O;cbv;refine gu ?_ ?_
 intro O;cbv;refine iH (aiJ hM) ?_;intro y1 O;cbv;refine iq ?_ ?_
 exact fG
 exact gQ
 exact gQ
 exact gQ
theorem aiP {s:List Int}{J:Int}{U:List (List Bool)}{I:List Int}{T:List (List Bool)}{r:Bool}(O:mJ s (λa0=>sN a0 J U (λa0 a1=>oL a0 a1 I T))=some r):fV 222 [.sl 1 (mI M s) false,.fn 405 [.pp [sI J],.pp [.sl 1 (M.m (List Bool) (eL M 1 eB) U) false],.pp [.fn 455 [.pp [.sl 1 (mI M I) false],.pp [.sl 1 (M.m (List Bool) (eL M 1 eB) T) false]]]]] (λu=>u=.sb r):=by
 refine iw gW func222 call222 ?_;intro S R hS hR q;unfold mJ at O;cbv;refine iH (aiK hM) ?_;exact ja
theorem c361 {cards:List GCard}{s:GState}{pe:GEvent}{r:GObject×GTraits×Bool}(O:wH cards s pe=some r):fV 361 [jR M cards,.agg (eGState M s),.agg (eGEvent M pe)] (λu=>u=.FH [.agg (eGObject M r.1),.agg (eGTraits M r.2.1),.sb r.2.2]):=by
 refine iw (gY [1003,1004]) func361 call361 ?_;intro S R hS hR q;unfold wH at O;cbv;refine iH (c62 hM) ?_;intro y1 O;cbv;refine iH (aiI hM) ?_;intro y2 O;cbv;refine Ih hS aP ?_;cbv;refine Ih hS aP ?_;cbv;exact qO
theorem agE {s:GState}{id:Int}{r:GObject×Bool}(O:mX s id=some r):fV 204 [.agg (eGState M s),sI id] (λu=>u=.FH [.agg (eGObject M r.1),.sb r.2]):=by
 refine iw (ahQ [2] [14,18]) func204 call204 ?_;intro S R hS hR q;unfold mX at O;cbv;refine adW hS [.tP 6] ?_;cbv;refine iH (c62 hM) ?_;intro U O;cbv;refine zU hS ?_;cbv;refine iq ?_ ?_<;>exact gQ
theorem agF {s:GState}{id:Int}{r:Int}(O:rf s id=some r):fV 414 [.agg (eGState M s),sI id] (λu=>u=sI r):=by
 refine iw gW func414 call414 ?_;intro S R hS hR q;unfold rf at O;cbv;refine iH (aiL hM) ?_;intro U O;cbv;refine gu ?_ ?_<;>exact gQ
theorem aiQ {f:jf}{r:Bool}(O:AO f=some r):fV 315 [.agg (iR M f)] (λu=>u=.sb r):=by
 refine iw gW func315 call315 ?_;intro S R hS hR q;unfold AO at O;cbv;refine iH (WT hM) ?_;intro U O;cbv;refine iq ?_ ?_<;>exact gQ
theorem c246 {f:iD}{stage:Int}{r:Bool}(O:xk f stage=some r):fV 246 [.agg (jb M f),sI stage] (λu=>u=.sb r):=by
 refine iw gW func246 call246 ?_;intro S R hS hR q;unfold xk at O;cbv;refine oO hS O (λ_=>aiN hM) (le_eq rfl) (λ_=>rfl) ?_;exact ja
end
end Go.Proofs.YtchmoabpofnbaaaGreat
