import Derived.Test.YtchmoabpofnbaaaGreatC11
set_option linter.all false
namespace Go.Proofs.YtchmoabpofnbaaaGreat
open Go Go.Pv Proofs.Tryz
set_option maxRecDepth 100000
set_option maxHeartbeats 20000000
variable [GM]
attribute [local irreducible] bnd br jn qE gK jv lJ jl rD uo divO kT jL kN kP lI lS lM
variable {M:iG}[HM M]
instance c91 {OJ}:CC M 91 (Il OJ) [.sb OJ] (λr=>.agg (iF M r)):=by
 have hM:=HM.h (M:=M);refine⟨λr O=>?_⟩;refine ES ig func91 call91 ?_;intro S R hS hR q;unfold Il at O;cbv;refine aiM hS [sI 20,sI 0,sI 0,sI 0,sI 0,sI 0,sI 0,sI 0,sI 0,.sb false,.sb false,.sl 1 (mI M ([])) false,.sl 1 (mI M ([])) false,.sl 1 (mI M ([])) false,sI 20,sI 0,sI 0,sI 0,sI 0,sI 0,sI 0,sI 0,sI 0,.sb false,.sb false,.sl 1 (mI M ([])) false,.sl 1 (mI M ([])) false,.sl 1 (mI M ([])) false] ji ?_;cbv;refine KN hS (e:=(jQ M)) O ji ?_;intro x1 O;cbv;refine KN hS (e:=(eI .i64)) O aj ?_;intro x2 O;cbv;cases O;exact hR _ ji
def YcW (M:iG)(l:Nat)(rc:Loop)(pv:Value):Prop:=∀ (a0:List gq) (a1:gq) (r:Bool×(List gq)),ve a0 a1=some r->YS Tryz.prog glF l rc pv [.agg (jX M a1)] [(0,(vR [.os 1 0 (M.n gq a0)])),(1,(aR 76 (gQ M a0)))] 2 (λuu ss nn=>uu=.sb r.1/\ss=[(0,(vR [.os 2 0 (M.n gq r.2)])),(1,none),(2,(aR 76 (gQ M r.2)))]/\nn=3)
instance c451 {p}:CC M 451 (LW p) [.agg [sI p.a0,sI p.a1,sI p.a2,sI p.a3,sI p.a4,sI p.a5]] (λr=>.agg (rO M r)):=by
 have hM:=HM.h (M:=M);refine⟨λr O=>?_⟩;refine ES (iO [6]) func451 call451 ?_;intro S R hS hR q;unfold LW at O;cbv;refine MX hS (iO [6]) wf 7 ?_;intro g1 hg1;refine hg1 _ _ ?_;cbv;refine oU hS ?_;cbv;refine hg1 _ _ ?_;cbv;refine oU hS ?_;cbv;refine hg1 _ _ ?_;cbv;refine oU hS ?_;cbv;refine hg1 _ _ ?_;cbv;refine oU hS ?_;cbv;refine hg1 _ _ ?_;cbv;refine oU hS ?_;cbv;refine hg1 _ _ ?_;cbv;refine oU hS ?_;cbv;exact ahN
instance ajA {s}:CZ M 410 (qL s) [.os 0 0 (M.n Bool s)] [(0,(aR 1 (M.m Bool eB s)))] 1 (λr=>.os 1 0 (M.n Bool r)) (λr=>[(0,(aR 1 (M.m Bool eB s))),(1,(aR 1 (M.m Bool eB r)))]) 2:=by
 exact wC (iV 1 [] [[(1,true)]]) func410 call410 []
instance s393 {l}{s}:CZ M 393 (Dt l s) [.os 0 0 (M.n ByteArray l),.str s] [(0,(aR 1 (M.m ByteArray eS l)))] 1 (λr=>.os 1 0 (M.n ByteArray r)) (λr=>[(0,none),(1,(aR 1 (M.m ByteArray eS r)))]) 2:=by
 exact wZ (iV 1 [] [[(1,true)]]) func393 call393
instance ajB {s}:CZ M 220 (vW s) [Io M s] [] 0 (λr=>.os 0 0 (M.n jg r)) (λr=>[(0,(aR 64 (yz M r)))]) 1:=by
 exact wC (iV 0 [] [[(64,true)]]) func220 call220 []
instance o464 {s}:CZ M 464 (xG s) [BJ M s] [] 0 (λr=>.os 0 0 (M.n iP r)) (λr=>[(0,(aR 72 (uk M r)))]) 1:=by
 exact wZ (iV 0 [] [[(72,true)]]) func464 call464
instance o134 {s}:CZ M 134 (xI s) [sU M s] [] 0 (λr=>.os 0 0 (M.n iL r)) (λr=>[(0,(aR 89 (jB M r)))]) 1:=by
 exact wZ (iV 0 [] [[(89,true)]]) func134 call134
instance o220 {s}:CZ M 220 (qc s) [Io M s] [] 0 (λr=>.os 0 0 (M.n jg r)) (λr=>[(0,(aR 64 (yz M r)))]) 1:=by
 exact wZ (iV 0 [] [[(64,true)]]) func220 call220
instance o127 {s}:CZ M 127 (yK s) [NF M s] [] 0 (λr=>.os 0 0 (M.n jP r)) (λr=>[(0,(aR 14 (mi M r)))]) 1:=by
 exact wZ (iV 0 [] [[(14,true)]]) func127 call127
instance o129 {s}:CZ M 129 (yL s) [oM M s] [] 0 (λr=>.os 0 0 (M.n iw r)) (λr=>[(0,(aR 19 (kS M r)))]) 1:=by
 exact wZ (iV 0 [] [[(19,true)]]) func129 call129
instance c230 {c}:CC M 230 (Yr c) [.agg [sI c.a0,sI c.a1,sI c.a2]] (λr=>.sb r):=by
 have:=lo 2 [1,3] (λ_ s=>jO [(3,sI s)]);have:=ct 8 [1,3,17] (λ_ s=>jO [(17,.sb s)]);exact wA (iO [4,8]) func230 call230
instance o50 {l}:CZ M 50 (wX l) [pF M l] [] 0 (λr=>.os 0 0 (M.n gX r)) (λr=>[(0,(aR 3 (ry M r)))]) 1:=by
 exact wZ (iV 0 [] [[(3,true)]]) func50 call50
instance o219 {s}:CZ M 219 (oC s) [Tu M s] [] 0 (λr=>.os 0 0 (M.n sH r)) (λr=>[(0,(aR 18 (mSpec M r)))]) 1:=by
 exact wZ (iV 0 [] [[(18,true)]]) func219 call219
instance c406 {needs}{i}{j}:CC M 406 (yZ needs i j) [.sl 1 (M.m (List Bool) (eL M 1 eB) needs) false,sI i,sI j] (λr=>.sb r):=by
 exact wA ig func406 call406
instance c309 {b}:CC M 309 (FM b) [.agg (ET M b)] (λr=>.sb r):=by
 have:=ct 2 [1,20] (λ_ s=>jO [(20,.sb s)]);exact wA (iO [2]) func309 call309
instance c219 {s}:CC M 219 (oC s) [Tu M s] (λr=>Tu M r):=by
 exact wA ig func219 call219
instance c367 {all}{i}:CC M 367 (Bz all i) [lq M all,sI i] (λr=>.agg (kU M r)):=by
 exact wA ig func367 call367
instance c136 {s}:CC M 136 (jR s) [MC M s] (λr=>MC M r):=by
 exact wA ig func136 call136
instance c400 {s}:CC M 400 (slices_Clone_string s) [.sl 1 (M.m ByteArray eS s) false] (λr=>.sl 1 (M.m ByteArray eS r) false):=by
 exact wA ig func400 call400
instance c457 {phave}{psome}{pnone}:CC M 457 (nT phave psome pnone) [sI phave,sI psome,sI pnone] (λr=>.sb r):=by
 exact wA ig func457 call457
instance c166 {l}:CC M 166 (YA l) [.sl 1 (mI M l) false] (λr=>.sb r):=by
 have:=lo 2 [0,3] (λ_ s=>jO [(3,sI s)]);exact wA ig func166 call166
instance c377 {op}:CC M 377 (Qp op) [sI op] (λr=>.str r):=by
 have:=ct 2 [0,9] (λ_ s=>jO [(9,.sb s)]);exact wA (iO [2]) func377 call377
instance c501 {s}{substr}:CC M 501 (strings_Contains s substr) [.str s,.str substr] (λr=>.sb r):=by
 have hM:=HM.h (M:=M);exact⟨λr O=>ae8 O⟩
instance c483 {o}{c1}:CC M 483 (BA o c1) [.agg (jQ M o),.pp (oI M c1)] (λr=>.sb r):=by
 exact wA ig func483 call483
instance c484 {o}{c1}:CC M 484 (BB o c1) [.agg (jQ M o),.pp (oI M c1)] (λr=>.sb r):=by
 exact wA ig func484 call484
instance c103 {x}{c1}:CC M 103 (BG x c1) [.agg (sJ M x),.pp (sJ M c1)] (λr=>.sb r):=by
 exact wA ig func103 call103
instance c331 {stamps}{i}:CC M 331 (Be stamps i) [.sl 1 (mI M stamps) false,sI i] (λr=>sI r):=by
 exact wA ig func331 call331
instance c465 {n}{least}{most}:CC M 465 (Bg n least most) [sI n,sI least,sI most] (λr=>.sb r):=by
 exact wA ig func465 call465
instance c431 {o}{c1}:CC M 431 (Gm o c1) [.agg (jQ M o),.pp [sI c1]] (λr=>.sb r):=by
 exact wA ig func431 call431
instance c106 {x}{c1}:CC M 106 (BH x c1) [.agg (sJ M x),.pp [sI c1]] (λr=>.sb r):=by
 exact wA ig func106 call106
end Go.Proofs.YtchmoabpofnbaaaGreat
