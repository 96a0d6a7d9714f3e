import Derived.Test.YtchmoabpofnbaaaGreatC10
set_option linter.all false
namespace Go.Proofs.YtchmoabpofnbaaaGreat
open Go Go.Pv Proofs.Tryz
set_option maxRecDepth 100000
set_option maxHeartbeats 20000000
variable [GM]
attribute [local irreducible] bnd br jn oL loopF iq jS gu pO rG divO jF iO jA jm jE jY jU
variable {M:fP}[HM M]
instance c91 {SS}:CC M 91 (Ji SS) [.sb SS] (λr=>.agg (fD M r)):=by
 have hM:=HM.h (M:=M);refine⟨λr U=>?_⟩;refine CO fG func91 call91 ?_;intro S R hS hR q;unfold Ji at U;cbv;refine age hS [sI 20,sI 0,sI 0,sI 0,sI 0,sI 0,sI 0,sI 0,sI 0,.sb false,.sb false,.sl 1 (mI M ([])) false,.sl 1 (mI M ([])) false,.sl 1 (mI M ([])) false,sI 20,sI 0,sI 0,sI 0,sI 0,sI 0,sI 0,sI 0,sI 0,.sb false,.sb false,.sl 1 (mI M ([])) false,.sl 1 (mI M ([])) false,.sl 1 (mI M ([])) false] gX ?_;cbv;refine JA hS (e:=(ja M)) U gX ?_;intro x1 U;cbv;refine JA hS (e:=(eI .i64)) U ah ?_;intro x2 U;cbv;cases U;exact hR _ gX
def YcW (M:fP)(l:Nat)(rc:Loop)(pv:Value):Prop:=∀ (a0:List eP) (a1:eP) (r:Bool×(List eP)),uZ a0 a1=some r->YS Tryz.prog glF l rc pv [.agg (jy M a1)] [(0,(vR [.os 1 0 (M.n eP a0)])),(1,(aR 76 (eY M a0)))] 2 (λuu ss nn=>uu=.sb r.1/\ss=[(0,(vR [.os 2 0 (M.n eP r.2)])),(1,none),(2,(aR 76 (eY M r.2)))]/\nn=3)
instance c451 {p}:CC M 451 (NH p) [.agg [sI p.a0,sI p.a1,sI p.a2,sI p.a3,sI p.a4,sI p.a5]] (λr=>.agg (qN M r)):=by
 have hM:=HM.h (M:=M);refine⟨λr U=>?_⟩;refine CO (fO [6]) func451 call451 ?_;intro S R hS hR q;unfold NH at U;cbv;refine J6 hS (fO [6]) wf 7 ?_;intro g1 hg1;refine hg1 _ _ ?_;cbv;refine mO hS ?_;cbv;refine hg1 _ _ ?_;cbv;refine mO hS ?_;cbv;refine hg1 _ _ ?_;cbv;refine mO hS ?_;cbv;refine hg1 _ _ ?_;cbv;refine mO hS ?_;cbv;refine hg1 _ _ ?_;cbv;refine mO hS ?_;cbv;refine hg1 _ _ ?_;cbv;refine mO hS ?_;cbv;exact aj1
instance c407 {f}{stage}:CC M 407 (layer_sensitive f stage) [.agg (jb M f),sI stage] (λr=>.sb r):=by
 have:=ct 2 [1,2,5] (λ_ s=>je [(5,.sb s)]);exact wA (fO [2]) func407 call407
instance s95 {x}:CZ M 95 (slices_Sort_int x) [.os 0 0 (M.n Int x)] [(0,(aR 1 (mI M x)))] 1 (λ_=>.Eu []) (λr=>[(0,(aR 1 (mI M r)))]) 1:=by
 have hM:=HM.h (M:=M);exact⟨λr U=>agu hM U⟩
instance c282 {mask}{i}:CC M 282 (Ot mask i) [sI mask,sI i] (λr=>.sb r):=by
 have:=lo 2 [0,1,5] (λ_ (s:Int×Int)=>je [(0,sI s.1),(5,sI s.2)]);exact wA fG func282 call282
instance c394 {mask}{i}:CC M 394 (IM mask i) [sI mask,sI i] (λr=>.sb r):=by
 have:=lo 2 [0,1,5] (λ_ (s:Int×Int)=>je [(0,sI s.1),(5,sI s.2)]);exact wA fG func394 call394
instance o130 {s}:CZ M 130 (slices_Clone_int s) [.sl 1 (mI M s) false] [] 0 (λr=>.os 0 0 (M.n Int r)) (λr=>[(0,(aR 1 (mI M r)))]) 1:=by
 exact wZ (gp 0 [] [[(1,true)]]) func130 call130
instance c356 {l}{s}:CC M 356 (zY l s) [.sl 1 (M.m ByteArray eS l) false,.str s] (λr=>sI r):=by
 have:=lo 2 [0,1,5] (λ_ s=>je [(5,sI s)]);exact wA fG func356 call356
instance o171 {c}:CZ M 171 (tK c) [.agg (jD M c)] [] 0 (λr=>.os 0 0 (M.n Int r)) (λr=>[(0,(aR 1 (mI M r)))]) 1:=by
 exact wZ (gp 0 [] [[(1,true)]]) func171 call171
instance o48 {l}:CZ M 48 (oO l) [.sl 1 (mI M l) false] [] 0 (λr=>.os 0 0 (M.n Int r)) (λr=>[(0,(aR 1 (mI M r)))]) 1:=by
 exact wZ (gp 0 [] [[(1,true)]]) func48 call48
instance c52 {a}{b}:CC M 52 (NL a b) [.sl 1 (mI M a) false,.sl 1 (mI M b) false] (λr=>.sb r):=by
 have:=lo 4 [0,1,5] (λ_ s=>je [(5,sI s)]);exact wA fG func52 call52
instance c155 {s}{v}:CC M 155 (slices_Index_int s v) [.sl 1 (mI M s) false,sI v] (λr=>sI r):=by
 have:=lo 2 [0,1,7,8] (λ_ s=>je [(8,sI s)]);exact wA fG func155 call155
instance c107 {s}{id}:CC M 107 (Gh s id) [.agg (fD M s),sI id] (λr=>sI r):=by
 have:=lo 2 [1,2,5] (λ_ s=>je [(5,sI s)]);exact wA fG func107 call107
instance c301 {vals}:CC M 301 (PX vals) [.sl 1 (mI M vals) false] (λr=>sI r):=by
 have:=lo 3 [3,6,7,8] (λ_ s=>je [(8,sI s)]);exact wA fG func301 call301
instance c352 {s}{id}:CC M 352 (Dt s id) [.agg (fD M s),sI id] (λr=>sI r):=by
 have:=lo 2 [1,2,5] (λ_ s=>je [(5,sI s)]);exact wA fG func352 call352
instance c133 {s}:CC M 133 (yJ s) [Rt M s] (λr=>Rt M r):=by
 exact wA fG func133 call133
instance c421 {l}{i}:CC M 421 (OH l i) [.sl 1 (mI M l) false,sI i] (λr=>.sb r):=by
 have:=lo 2 [0,1,5] (λ_ s=>je [(5,sI s)]);exact wA fG func421 call421
instance c406 {needs}{i}{j}:CC M 406 (yQ needs i j) [.sl 1 (M.m (List Bool) (eL M 1 eB) needs) false,sI i,sI j] (λr=>.sb r):=by
 exact wA fG func406 call406
instance c36 {l}{n}:CC M 36 (Ac l n) [.sl 1 (mI M l) false,sI n] (λr=>sI r):=by
 have:=lo 2 [0,1,5] (λ_ s=>je [(5,sI s)]);exact wA fG func36 call36
instance c309 {b}:CC M 309 (sS b) [.agg (DR M b)] (λr=>.sb r):=by
 have:=ct 2 [1,20] (λ_ s=>je [(20,.sb s)]);exact wA (fO [2]) func309 call309
instance c420 {needs}{i}{j}:CC M 420 (Kw needs i j) [.sl 1 (M.m (List Bool) (eL M 1 eB) needs) false,sI i,sI j] (λr=>.sb r):=by
 exact wA fG func420 call420
instance c219 {s}:CC M 219 (ng s) [UH M s] (λr=>UH M r):=by
 exact wA fG func219 call219
instance c367 {all}{i}:CC M 367 (BH all i) [iE M all,sI i] (λr=>.agg (jh M r)):=by
 exact wA fG func367 call367
instance c136 {s}:CC M 136 (jo s) [PZ M s] (λr=>PZ M r):=by
 exact wA fG func136 call136
instance c429 {all}{i}:CC M 429 (ZF all i) [iE M all,sI i] (λr=>.agg (jh M r)):=by
 exact wA fG func429 call429
instance c400 {s}:CC M 400 (slices_Clone_string s) [.sl 1 (M.m ByteArray eS s) false] (λr=>.sl 1 (M.m ByteArray eS r) false):=by
 exact wA fG func400 call400
instance c457 {phave}{psome}{pnone}:CC M 457 (kV phave psome pnone) [sI phave,sI psome,sI pnone] (λr=>.sb r):=by
 exact wA fG func457 call457
instance c166 {l}:CC M 166 (ZC l) [.sl 1 (mI M l) false] (λr=>.sb r):=by
 have:=lo 2 [0,3] (λ_ s=>je [(3,sI s)]);exact wA fG func166 call166
instance c377 {op}:CC M 377 (Q4 op) [sI op] (λr=>.str r):=by
 have:=ct 2 [0,9] (λ_ s=>je [(9,.sb s)]);exact wA (fO [2]) func377 call377
instance c501 {s}{substr}:CC M 501 (strings_Contains s substr) [.str s,.str substr] (λr=>.sb r):=by
 have hM:=HM.h (M:=M);exact⟨λr U=>agt U⟩
instance c483 {o}{c1}:CC M 483 (BI o c1) [.agg (ja M o),.pp (nH M c1)] (λr=>.sb r):=by
 exact wA fG func483 call483
instance c484 {o}{c1}:CC M 484 (BJ o c1) [.agg (ja M o),.pp (nH M c1)] (λr=>.sb r):=by
 exact wA fG func484 call484
end Go.Proofs.YtchmoabpofnbaaaGreat
