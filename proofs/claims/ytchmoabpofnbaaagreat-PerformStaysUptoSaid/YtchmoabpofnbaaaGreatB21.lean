import Derived.Test.YtchmoabpofnbaaaGreatB19
import Derived.Test.YtchmoabpofnbaaaGreatB20
set_option linter.all false
namespace Go.Proofs.YtchmoabpofnbaaaGreat
open Go Go.Pv Proofs.Tryz
set_option maxRecDepth 100000
set_option maxHeartbeats 2000000
variable [GM]
section
variable {M:EncM}(hM:M=mapE)
include hM
theorem aiC {s:List Int}{I:Int}{r:List Int}(O:nU s (λa0=>pR a0 I)=some r):Pv.FnS Tryz.prog glF 151 [.os 0 0 (M.n Int s),.fn 250 [.pp [sI I]]] [(0,(aR 1 (mI M s)))] 1 (λuu ss nn=>uu=.os 1 0 (M.n Int r)/\ss=[(0,none),(1,(aR 1 (mI M r)))]/\nn=2):=by
 refine fnS_dec (T:=(tabx 1 [13] [[(1,true)]])) (tabxOK 1 [13] [[(1,true)]]) wf func151 rfl call151 rfl ?_;intro S R hS hR;have q:=sf hM hS;unfold nU at O;cbv;refine oO hS O (λ_=>aiy hM) AQ (λ_=>rfl) ?_;intro y1 O;cbv;refine gu ?_ ?_
 exact fE
 intro O;cbv;refine wB (tabxOK 1 [13] [[(1,true)]]) [] [0,1,5,6] (λU=>f4 42 [.os 0 0 (S.lenN (mI M U.2.2)),.fn 250 [.pp [sI I]],sI U.1,sI U.2.1] [aR 1 (mI M U.2.2)]) O ?_;intro Ik3 k3 U hk3 O e he;subst he;unfold rM at O;cbv;refine gu ?_ ?_
 intro O;cbv;refine jJ [] [0,1,5,6] (λJ=>f4 42 [.os 0 0 (S.lenN (mI M J.2)),.fn 250 [.pp [sI I]],sI J.1,sI U.2.1] [aR 1 (mI M J.2)]) O ?_ ?_
 intro Ik6 k6 C O;cbv;refine rD hS O d_e rfl ?_;intro j8 _ O;cbv;refine mW hS hM O rfl d_e ?_;intro x9 O;cbv;refine iH (akf hM) ?_;intro g O;cbv;refine gu ?_ ?_
 intro O;cbv;refine rD hS O d_e rfl ?_;intro j11 _ O;cbv;refine mW hS hM O rfl d_e ?_;exact jP
 exact iC
 intro J O;cbv;exact nM
 intro O;cbv;refine abo hS O d_e rfl d_e ?_;intro x13 bx13 O;cbv;refine d_wk hS (e:=(eI .i64)) O ai ?_;intro x14 O;cbv;refine abo hS O d_e rfl rfl ?_;intro x15 bx15 O;cbv;cases O;exact hR _ _ _ aA aA rfl
theorem c450 {c:oQ}{r:ByteArray}(O:JU c=some r):fV 450 [.agg (qy M c)] (λu=>u=.str r):=by
 refine iw (gY [21,22,28]) func450 call450 ?_;intro S R hS hR q;unfold JU at O;cbv;refine iH (ahX hM) ?_;intro y1 O;cbv;refine gu ?_ ?_
 exact gQ
 intro O;cbv;refine wB (gY [21,22,28]) [] [1,3,4] (λs2=>f4 47 [.lv 0 0,.str s2.1,sI s2.2] [vR (qy M c)]) O ?_;intro Ik3 k3 s2 hk3 O e he;subst he;unfold Fb at O;cbv;refine gu ?_ ?_
 intro O;cbv;refine nS hS O rfl rfl ?_;exact jP
 intro O;cbv;refine jJ [] [1,3] (λs6=>f4 47 [.lv 0 0,.str s6] [vR (qy M c)]) O ?_ ?_
 intro Ik7 k7 hk7 O;cbv;refine gu ?_ ?_
 intro O;cbv;refine iH (acF hM) ?_;intro y9 O;cbv;refine nS hS O rfl rfl ?_;exact jP
 exact iC
 intro s6 O;cbv;refine wB (gY [21,22,28]) [] [1,3,5] (λs11=>f4 47 [.lv 0 0,.str s11.1,sI s11.2] [vR (qy M c)]) O ?_;intro Ik12 k12 s11 hk12 O e he;subst he;unfold Fa at O;cbv;refine qN hS ?_;cbv;refine gu ?_ ?_
 intro O;cbv;refine wB (gY [21,22,28]) [] [1,3,5,6] (λs14=>f4 47 [.lv 0 0,.str s14.1,sI s11.2,sI s14.2] [vR (qy M c)]) O ?_;intro Ik15 k15 s14 hk15 O e he;subst he;unfold JS at O;cbv;refine jJ [] [1,3,5,6,35] (λs17=>f4 47 [.lv 0 0,.str s14.1,sI s11.2,sI s14.2,.sb s17] [vR (qy M c)]) O ?_ ?_
 intro Ik18 k18 hk18 O;cbv;obtain⟨j20,hj20,ej20,O⟩:=ng O;refine vO hS rfl ⟨j20,hj20,ej20,?_⟩;rcases lt5 hj20 with rfl|rfl|rfl|rfl|rfl
 exact fC
 exact fC
 exact fC
 exact fC
 cbv;exact nM
 intro s17 O;cbv;refine iq ?_ ?_
 intro O;cbv;refine ajP hS O rfl rfl d_e ?_;intro x21 O;cbv;refine nS hS O rfl rfl ?_;exact jP
 exact iC
 intro O;cbv;refine gu ?_ ?_<;>exact gQ
theorem akt {mask:Int}{r:ByteArray}(O:GG mask=some r):fV 322 [sI mask] (λu=>u=.str r):=by
 refine iw (gY [10,13,21,23]) func322 call322 ?_;intro S R hS hR q;unfold GG at O;cbv;refine iH (c193 hM) ?_;intro y1 O;cbv;refine gu ?_ ?_
 exact gQ
 intro O;cbv;refine wB (gY [10,13,21,23]) [] [0,3,4] (λU=>f4 28 [sI U.1,.str U.2.1,sI U.2.2] []) O ?_;intro Ik3 k3 U hk3 O e he;subst he;unfold JI at O;cbv;refine qN hS ?_;cbv;refine gu ?_ ?_
 intro O;cbv;refine jJ [] [0,3,4] (λJ=>f4 28 [sI J.1,.str J.2,sI U.2.2] []) O ?_ ?_
 intro Ik6 k6 hk6 O;cbv;refine jJ [] [0,3,4] (λC=>f4 28 [sI U.1,.str C,sI U.2.2] []) O ?_ ?_
 intro Ik9 k9 hk9 O;cbv;refine CB hS O rfl rfl ?_;intro x11 O;cbv;refine gu ?_ ?_
 intro O;cbv;refine jJ [] [0,3,4] (λT=>f4 28 [sI U.1,.str T,sI U.2.2] []) O ?_ ?_
 intro g k13 I O;cbv;refine gu ?_ ?_
 intro O;cbv;refine nS hS O rfl rfl ?_;exact jP
 exact iC
 intro T O;cbv;refine iH (aks hM) ?_;intro y16 O;cbv;refine nS hS O rfl rfl ?_;exact jP
 exact iC
 intro C O;cbv;refine CB hS O rfl rfl ?_;exact jP
 intro J O;cbv;exact nM
 intro O;cbv;refine gu ?_ ?_<;>exact gQ
theorem c403 {left:List Int}{r:List Int}(O:uI left=some r):fV 403 [.sl 1 (mI M left) false] (λu=>u=.sl 1 (mI M r) false):=by
 refine iw (gY [10,15]) func403 call403 ?_;intro S R hS hR q;unfold uI at O;cbv;refine wB (gY [10,15]) [.tO 3 1] [3,6,7,8] (λs1=>f4 26 [.os 0 0 (S.lenN (mI M s1.2)),.sl 1 (mI M left) false,sI (S.len (mI M left)),sI s1.1] [aR 1 (mI M s1.2)]) O ?_;intro Ik2 k2 s1 hk2 O e he;subst he;unfold tZ at O;cbv;refine gu ?_ ?_
 intro O;cbv;refine jJ [.tO 3 1] [3,6,7,8] (λs4=>f4 26 [.os 0 0 (S.lenN (mI M s4)),.sl 1 (mI M left) false,sI (S.len (mI M left)),sI s1.1] [aR 1 (mI M s4)]) O ?_ ?_
 intro Ik5 k5 hk5 O;cbv;refine lH ?_;intro x7 O;cbv;refine jJ [] [3,5,6,7,8,19] (λs8=>f4 26 [.os 0 0 (S.lenN (mI M s1.2)),sI x7,.sl 1 (mI M left) false,sI (S.len (mI M left)),sI s1.1,.sb s8] [aR 1 (mI M s1.2)]) O ?_ ?_
 intro Ik9 k9 hk9 O;cbv;refine gu ?_ ?_
 intro O;cbv;refine oO hS O (λ_=>c78 hM) AQ (λ_=>rfl) ?_;exact jP
 exact iC
 intro s8 O;cbv;refine iq ?_ ?_
 intro O;cbv;refine d_room hS O d_e ?_;exact iC
 exact iC
 intro s4 O;cbv;exact nM
 exact gQ
theorem c325 {c:GCard}{r:GTraits}(O:zq c=some r):fV 325 [.agg (eGCard M c)] (λu=>u=.agg (eGTraits M r)):=by
 refine iw gW func325 call325 ?_;intro S R hS hR q;unfold zq at O;cbv;refine zU hS ?_;cbv;refine Ac hS O (λ_=>c399 hM) ?_;intro y1 O;cbv;refine iH (c400 hM) ?_;intro y2 O;cbv;refine abt hS gW wf [.cO 2 15 72] [.cO 1 15 72] [2,3,32,33,34] (λs3=>f3 47 [(2,.lv 0 0),(3,.lv 1 0),(32,xq M c.abilities),(33,sI (S.len (pX M c.abilities))),(34,sI s3.1)] [vR [.str (bs []),sI 0,sI 0,sI 0,sI 0,sI 0,sI 0,sI 0,sI 0,sI 0,sI 0,.sl 0 [] true,sI 0,sI 0,sI 0,.sl 0 [] true,sI 0],vR [.str c.name,sI c.cost.generic,sI c.cost.x,sI c.cost.color.a0,sI c.cost.color.a1,sI c.cost.color.a2,sI c.cost.color.a3,sI c.cost.color.a4,sI (S.bin .or .i64 y1 c.color),sI c.line.Gt,sI c.line.types,.sl 1 (M.m ByteArray eS y2) false,sI c.power,sI c.ik,sI c.keys,.os 2 0 (S.lenN (pX M s3.2)),sI 0],aR 72 (pX M s3.2)]) O dV ?_;intro Ik4 k4 s3 hk4 O e he;subst he;unfold xA at O;cbv;refine gu ?_ ?_
 intro O;cbv;refine lH ?_;intro x6 O;cbv;refine zU hS ?_;cbv;refine Ac hS O (λ_=>c401 hM) ?_;intro y7 O;cbv;refine d_room hS O d_e ?_;exact iC
 exact gQ
theorem c461 {c:oQ}{x:Int}{r:Int}(O:Eo c x=some r):fV 461 [.agg (qy M c),sI x] (λu=>u=sI r):=by
 refine iw (gY [10,12]) func461 call461 ?_;intro S R hS hR q;unfold Eo at O;cbv;refine iH (ajX hM) ?_;intro y1 O;cbv;refine gu ?_ ?_
 exact gQ
 intro O;cbv;refine wB (gY [10,12]) [] [1,2,5,14,15] (λs2=>f4 29 [sI x,.lv 0 0,sI s2.1,.agg [sI c.color.a0,sI c.color.a1,sI c.color.a2,sI c.color.a3,sI c.color.a4],sI s2.2] [vR (qy M c)]) O ?_;intro Ik3 k3 s2 hk3 O e he;subst he;unfold F5 at O;cbv;refine qN hS ?_;cbv;refine gu ?_ ?_
 intro O;cbv;refine jJ [] [1,2,5,7,14,15] (λs5=>f4 29 [sI x,.lv 0 0,sI s2.1,sI s5,.agg [sI c.color.a0,sI c.color.a1,sI c.color.a2,sI c.color.a3,sI c.color.a4],sI s2.2] [vR (qy M c)]) O ?_ ?_
 intro Ik6 k6 hk6 O;cbv;obtain⟨j8,hj8,ej8,O⟩:=ng O;refine vO hS rfl ⟨j8,hj8,ej8,?_⟩;rcases lt5 hj8 with rfl|rfl|rfl|rfl|rfl
 exact fC
 exact fC
 exact fC
 exact fC
 cbv;exact nM
 intro s5 O;cbv;exact nM
 intro O;cbv;refine tC hS O (λ_=>c289 hM) AQ ?_;intro y9 O;cbv;refine iH (c68 hM) ?_;exact ja
theorem c304 {a:List iT}{b:List iT}{r:Bool}(O:tK a b=some r):fV 304 [Fp M a,Fp M b] (λu=>u=.sb r):=by
 refine iw gW func304 call304 ?_;intro S R hS hR q;unfold tK at O;cbv;refine gu ?_ ?_
 exact gQ
 intro O;cbv;refine d_lp hS gW wf [] [0,1,5] (λs1=>f3 27 [(0,Fp M a),(1,Fp M b),(5,sI s1)] []) O ?_;intro Ik2 k2 s1 hk2 O e he;subst he;unfold uG at O;cbv;refine gu ?_ ?_
 intro O;cbv;refine zU hS ?_;cbv;refine lH ?_;intro x4 O;cbv;refine lH ?_;intro x5 O;cbv;refine Ac hS O (λ_=>c375 hM) ?_;intro y6 O;cbv;refine gu ?_ ?_
 exact gQ
 exact iC
 exact gQ
theorem aiD {s:List jv}{U:Int}{r:Int}(O:qZ s (λa0=>qQ a0 U)=some r):fV 402 [xX M s,.fn 328 [.pp [sI U]]] (λu=>u=sI r):=by
 refine iw gW func402 call402 ?_;intro S R hS hR q;unfold qZ at O;cbv;refine d_lp hS gW wf [] [0,1,7,8] (λT=>f3 19 [(0,xX M s),(1,.fn 328 [.pp [sI U]]),(7,sI (S.len (Oj M s))),(8,sI T)] []) O ?_;intro J k2 T I O e he;subst he;unfold oZ at O;cbv;refine gu ?_ ?_
 intro O;cbv;refine lH ?_;intro C O;cbv;refine iH (c328 hM) ?_;intro g O;cbv;refine iq ?_ ?_
 exact gQ
 exact iC
 exact gQ
theorem c359 {s:GState}{all:List GTraits}{id:Int}{r:GObject×GTraits×Bool}(O:tX s all id=some r):fV 359 [.agg (eGState M s),oH M all,sI id] (λu=>u=.FH [.agg (eGObject M r.1),.agg (eGTraits M r.2.1),.sb r.2.2]):=by
 refine iw (gY [1006]) func359 call359 ?_;intro S R hS hR q;unfold tX at O;cbv;refine oO hS O (λ_=>aiv hM) (le_eq rfl) (λ_=>rfl) ?_;intro y1 O;cbv;refine gu ?_ ?_
 exact fJ
 intro O;cbv;refine gu ?_ ?_
 intro O;cbv;refine lH ?_;intro x2 O;cbv;cases O;exact hR _ d_st
 intro O;cbv;refine lH ?_;intro x3 O;cbv;refine lH ?_;intro x4 O;cbv;refine Ih hS aP ?_;cbv;exact qO
theorem aiE {j:Int}{c1:Int}{c2:List (List Bool)}{T:List Int}{U:List (List Bool)}{r:Bool}(O:sN j c1 c2 (λa0 a1=>oL a0 a1 T U)=some r):fV 405 [sI j,.pp [sI c1],.pp [.sl 1 (M.m (List Bool) (eL M 1 eB) c2) false],.pp [.fn 455 [.pp [.sl 1 (mI M T) false],.pp [.sl 1 (M.m (List Bool) (eL M 1 eB) U) false]]]] (λu=>u=.sb r):=by
 refine iw gW func405 call405 ?_;intro S R hS hR q;unfold sN at O;cbv;refine gu ?_ ?_
 intro O;cbv;refine iH (aj3 hM) ?_;intro J O;cbv;refine iq ?_ ?_
 intro O;cbv;refine iH (c455 hM) ?_;exact ja
 exact gQ
 exact gQ
theorem agC {s:ByteArray}{r:Bool}(O:yw s=some r):fV 281 [.str s] (λu=>u=.sb r):=by
 refine iw gW func281 call281 ?_;intro S R hS hR q;unfold yw at O;cbv;refine iH (aiu hM) ?_;intro U O;cbv;refine iq ?_ ?_
 intro O;cbv;refine iH (c357 hM) ?_;intro T O;cbv;refine iH (aj8 hM) ?_;intro y3 O;cbv;refine gu ?_ ?_
 intro O;cbv;refine iH (ako hM) ?_;intro y4 O;cbv;refine iH (aj8 hM) ?_;exact ja
 exact gQ
 exact gQ
theorem aiF {name:ByteArray}{b:qx}{r:ByteArray}(O:rG name b=some r):fV 396 [.str name,.agg (C9 M b)] (λu=>u=.str r):=by
 refine iw gW func396 call396 ?_;intro S R hS hR q;unfold rG at O;cbv;refine gu ?_ ?_
 exact gQ
 intro O;cbv;refine iH (c453 hM) ?_;intro U O;cbv;refine zU hS ?_;cbv;refine lH ?_;intro J O;cbv;refine nS hS O rfl rfl ?_;intro T O;cbv;refine Ac hS O (λ_=>acF hM) ?_;intro y4 O;cbv;refine nS hS O rfl rfl ?_;exact ja
end
variable [GM]
section
variable {M:EncM}(hM:M=mapE)
include hM
theorem agD {s:ByteArray}{r:Bool}(O:vW s=some r):fV 467 [.str s] (λu=>u=.sb r):=by
 refine iw gW func467 call467 ?_;intro S R hS hR q;unfold vW at O;cbv;refine iH (c488 hM) ?_;intro U O;cbv;refine iq ?_ ?_
 intro O;cbv;refine iH (aiz hM) ?_;intro T O;cbv;refine gu ?_ ?_
 intro O;cbv;refine iH (aiA hM) ?_;exact ja
 exact gQ
 exact gQ
theorem c163 {s:GState}{o:GObject}{r:Bool}(O:Ed s o=some r):fV 163 [.agg (eGState M s),.agg (eGObject M o)] (λu=>u=.sb r):=by
 refine iw gW func163 call163 ?_;intro S R hS hR q;unfold Ed at O;cbv;refine gu ?_ ?_
 intro O;cbv;refine iH (c233 hM) ?_;exact ja
 intro O;cbv;refine zU hS ?_;cbv;refine Ac hS O (λ_=>c234 hM) ?_;intro y2 O;cbv;refine Ac hS O (λ_=>c229 hM) ?_;exact ja
theorem aiG {mask:Int}{r:ByteArray}(O:rF mask=some r):fV 320 [sI mask] (λu=>u=.str r):=by
 refine iw gW func320 call320 ?_;intro S R hS hR q;unfold rF at O;cbv;refine gu ?_ ?_
 exact gQ
 intro O;cbv;refine gu ?_ ?_
 exact gQ
 intro O;cbv;refine iH (ako hM) ?_;intro U O;cbv;refine iH (c385 hM) ?_;exact ja
theorem c46 {s:GState}{id:Int}{iI:Int}{r:Bool}(O:ML s id iI=some r):fV 46 [.agg (eGState M s),sI id,sI iI] (λu=>u=.sb r):=by
 refine iw gW func46 call46 ?_;intro S R hS hR q;unfold ML at O;cbv;refine iH (c38 hM) ?_;intro y1 O;cbv;refine iq ?_ ?_<;>exact gQ
theorem aku {o:GOption}{c1:List GOption}{r:Bool}(O:vU o c1=some r):fV 284 [.agg (eGOption M o),.pp [mQ M c1]] (λu=>u=.sb r):=by
 refine iw gW func284 call284 ?_;intro S R hS hR q;unfold vU at O;cbv;refine iH (c104 hM) ?_;exact ja
theorem c228 {s:GState}{id:Int}{r:GObject×Bool}(O:Au s id=some r):fV 228 [.agg (eGState M s),sI id] (λu=>u=.FH [.agg (eGObject M r.1),.sb r.2]):=by
 refine iw gW func228 call228 ?_;intro S R hS hR q;unfold Au at O;cbv;refine iH (c38 hM) ?_;exact ja
theorem c137 {s:GState}{id:Int}{r:Int}(O:Em s id=some r):fV 137 [.agg (eGState M s),sI id] (λu=>u=sI r):=by
 refine iw gW func137 call137 ?_;intro S R hS hR q;unfold Em at O;cbv;refine oO hS O (λ_=>aiw hM) (le_eq rfl) (λ_=>rfl) ?_;exact ja
theorem c326 {c:NY Int}{r:Int}(O:xh c=some r):fV 326 [.agg [sI c.a0,sI c.a1,sI c.a2]] (λu=>u=sI r):=by
 refine iw gW func326 call326 ?_;intro S R hS hR q;unfold xh at O;cbv;refine iH (c288 hM) ?_;exact ja
theorem akv {o:GObject}{id:Int}{r:Int}(O:rO o id=some r):fV 463 [.agg (eGObject M o),sI id] (λu=>u=sI r):=by
 refine iw gW func463 call463 ?_;intro S R hS hR q;unfold rO at O;cbv;refine iH (c184 hM) ?_;exact ja
theorem aeG {l:wO}{sub:ByteArray}{r:Bool}(O:qY l sub=some r):fV 460 [.agg (DN M l),.str sub] (λu=>u=.sb r):=by
 refine iw gW func460 call460 ?_;intro S R hS hR q;unfold qY at O;cbv;refine iH (c487 hM) ?_;exact ja
end
end Go.Proofs.YtchmoabpofnbaaaGreat
