import Derived.Test.YtchmoabpofnbaaaGreatC11
set_option linter.all false
namespace Go.Proofs.YtchmoabpofnbaaaGreat
open Go Go.Pv Proofs.Tryz
set_option maxRecDepth 100000
set_option maxHeartbeats 20000000
variable [GM]
attribute [local irreducible] bnd br jn qE gK jv lJ jl rD uo divO kT jL kN kP lI lS lM
variable {M:iG}[HM M]
instance ajv {s}{id}:CZ M 295 (xH s id) [.lv 0 0,sI id] [(0,(vR [.os 1 0 (M.n jP s.iJ),.os 2 0 (M.n iw s.objects),.os 3 0 (M.n Int s.jd),.os 4 0 (M.n Int s.qK),.os 5 0 (M.n og s.stack),.os 6 0 (M.n iL s.waiting),.os 7 0 (M.n pM s.kW),sI s.turn,sI s.mJ,sI s.step,.sb s.begun,sI s.priority,sI s.passes,sI s.nextId,sI s.kD,.si .u64 s.seed,.os 8 0 (M.n Int s.extra),sI s.over,sI s.ql])),(1,(aR 14 (mi M s.iJ))),(2,(aR 19 (kS M s.objects))),(3,(aR 1 (mI M s.jd))),(4,(aR 1 (mI M s.qK))),(5,(aR 94 (uA M s.stack))),(6,(aR 89 (jB M s.waiting))),(7,(aR 6 (Ad M s.kW))),(8,(aR 1 (mI M s.extra)))] 9 (λr=>(match r with|none=>.GU|some j=>.lp 2 j 0)) (λ_=>[(0,(vR [.os 1 0 (M.n jP s.iJ),.os 2 0 (M.n iw s.objects),.os 3 0 (M.n Int s.jd),.os 4 0 (M.n Int s.qK),.os 5 0 (M.n og s.stack),.os 6 0 (M.n iL s.waiting),.os 7 0 (M.n pM s.kW),sI s.turn,sI s.mJ,sI s.step,.sb s.begun,sI s.priority,sI s.passes,sI s.nextId,sI s.kD,.si .u64 s.seed,.os 8 0 (M.n Int s.extra),sI s.over,sI s.ql])),(1,(aR 14 (mi M s.iJ))),(2,(aR 19 (kS M s.objects))),(3,(aR 1 (mI M s.jd))),(4,(aR 1 (mI M s.qK))),(5,(aR 94 (uA M s.stack))),(6,(aR 89 (jB M s.waiting))),(7,(aR 6 (Ad M s.kW))),(8,(aR 1 (mI M s.extra)))]) 9:=by
 have:=lo 2 [0,1,10,11] (λ_ s=>jO [(11,sI s)]);exact wC (iV 9 [] []) func295 call295 []
instance c398 {u}:CC M 398 (CJ u) [.si .u64 u] (λr=>.str r):=by
 have hM:=HM.h (M:=M);refine⟨λr O=>?_⟩;refine ES ig func398 call398 ?_;intro S R hS hR q;unfold CJ at O;cbv;refine Vf hS O rfl rfl ?_;intro x1 O;cbv;refine ag5 hS hM O ⟨5,by kernel_rfl,by kernel_rfl⟩ lC ?_;intro x2 O;cbv;refine Vf hS O rfl rfl ?_;intro x3 O;cbv;refine TF hS ig wf [] [0,3] (λs4=>f3 25 [(0,.si .u64 s4.1),(3,.str s4.2)] []) O ?_;intro Ik5 k5 s4 hk5 O e he;subst he;unfold II at O;cbv;refine nZ ?_ ?_
 intro O;cbv;refine Vf hS O rfl rfl ?_;intro x7 O;cbv;refine ag5 hS hM O ⟨5,by kernel_rfl,by kernel_rfl⟩ lC ?_;intro x8 O;cbv;refine Xa hS O rfl rfl ?_;intro x9 O;cbv;refine Vf hS O rfl rfl ?_;exact xZ
 exact d_R
instance o131 {s}:CZ M 131 (Bi s) [Tt M s] [] 0 (λr=>.os 0 0 (M.n og r)) (λr=>[(0,(aR 94 (uA M r)))]) 1:=by
 exact wZ (iV 0 [] [[(94,true)]]) func131 call131
instance c314 {pr}:CC M 314 (Nu pr) [.agg (rY M pr)] (λr=>.sb r):=by
 have:=ct 2 [1,10] (λ_ s=>jO [(10,.sb s)]);have:=ct 6 [1,18] (λ_ s=>jO [(18,.sb s)]);exact wA (iO [2,6]) func314 call314
instance o135 {s}:CZ M 135 (Bj s) [KH M s] [] 0 (λr=>.os 0 0 (M.n pM r)) (λr=>[(0,(aR 6 (Ad M r)))]) 1:=by
 exact wZ (iV 0 [] [[(6,true)]]) func135 call135
instance o400 {s}:CZ M 400 (slices_Clone_string s) [.sl 1 (M.m ByteArray eS s) false] [] 0 (λr=>.os 0 0 (M.n ByteArray r)) (λr=>[(0,(aR 1 (M.m ByteArray eS r)))]) 1:=by
 exact wZ (iV 0 [] [[(1,true)]]) func400 call400
instance c372 {s}{p}{you}{who}:CC M 372 (Fj s p you who) [.agg (iI M s),sI p,sI you,sI who] (λr=>.sb r):=by
 have:=ct 2 [1,2,3,25] (λ_ s=>jO [(25,.sb s)]);exact wA (iO [2]) func372 call372
instance o136 {s}:CZ M 136 (jR s) [MC M s] [] 0 (λr=>.os 0 0 (M.n lZ r)) (λr=>[(0,(aR 20 (TJ M r)))]) 1:=by
 exact wZ (iV 0 [] [[(20,true)]]) func136 call136
instance c303 {a}{b}:CC M 303 (vT a b) [MC M a,MC M b] (λr=>.sb r):=by
 have:=lo 4 [0,1,5] (λ_ s=>jO [(5,sI s)]);exact wA ig func303 call303
instance c215 {a}{b}:CC M 215 (EW a b) [MC M a,MC M b] (λr=>.sb r):=by
 have:=lo 4 [0,1,5] (λ_ s=>jO [(5,sI s)]);exact wA ig func215 call215
instance c186 {s}{v}:CC M 186 (yH s v) [pF M s,.agg (sJ M v)] (λr=>sI r):=by
 have:=lo 2 [0,3,7,8] (λ_ s=>jO [(8,sI s)]);exact wA ig func186 call186
instance c335 {ps1}{ps2}:CC M 335 (slices_Equal_int ps1 ps2) [.sl 1 (mI M ps1) false,.sl 1 (mI M ps2) false] (λr=>.sb r):=by
 have:=lo 4 [0,1,12,13] (λ_ s=>jO [(13,sI s)]);exact wA ig func335 call335
instance c112 {l}{name}:CC M 112 (QA l name) [oh M l,.str name] (λr=>sI r):=by
 have:=lo 2 [0,1,5] (λ_ s=>jO [(5,sI s)]);exact wA ig func112 call112
instance c500 {s}{v}:CC M 500 (slices_Index_string s v) [.sl 1 (M.m ByteArray eS s) false,.str v] (λr=>sI r):=by
 have:=lo 2 [0,1,7,8] (λ_ s=>jO [(8,sI s)]);exact wA ig func500 call500
instance c407 {f}{stage}:CC M 407 (wF f stage) [.agg (jU M f),sI stage] (λr=>.sb r):=by
 have:=ct 2 [1,2,5] (λ_ s=>jO [(5,.sb s)]);exact wA (iO [2]) func407 call407
instance s95 {x}:CZ M 95 (slices_Sort_int x) [.os 0 0 (M.n Int x)] [(0,(aR 1 (mI M x)))] 1 (λ_=>.DJ []) (λr=>[(0,(aR 1 (mI M r)))]) 1:=by
 have hM:=HM.h (M:=M);exact⟨λr O=>ae9 hM O⟩
instance c282 {mask}{i}:CC M 282 (Nl mask i) [sI mask,sI i] (λr=>.sb r):=by
 have:=lo 2 [0,1,5] (λ_ (s:Int×Int)=>jO [(0,sI s.1),(5,sI s.2)]);exact wA ig func282 call282
instance c394 {mask}{i}:CC M 394 (Hr mask i) [sI mask,sI i] (λr=>.sb r):=by
 have:=lo 2 [0,1,5] (λ_ (s:Int×Int)=>jO [(0,sI s.1),(5,sI s.2)]);exact wA ig func394 call394
instance o130 {s}:CZ M 130 (slices_Clone_int s) [.sl 1 (mI M s) false] [] 0 (λr=>.os 0 0 (M.n Int r)) (λr=>[(0,(aR 1 (mI M r)))]) 1:=by
 exact wZ (iV 0 [] [[(1,true)]]) func130 call130
instance c31 {l}:CC M 31 (yt l) [.sl 1 (M.m (List Int) (eL M 1 (eI .i64)) l) false] (λr=>.sb r):=by
 have:=lo 2 [0,3] (λ_ s=>jO [(3,sI s)]);exact wA ig func31 call31
instance c356 {l}{s}:CC M 356 (Jj l s) [.sl 1 (M.m ByteArray eS l) false,.str s] (λr=>sI r):=by
 have:=lo 2 [0,1,5] (λ_ s=>jO [(5,sI s)]);exact wA ig func356 call356
instance o171 {c}:CZ M 171 (uf c) [.agg (lN M c)] [] 0 (λr=>.os 0 0 (M.n Int r)) (λr=>[(0,(aR 1 (mI M r)))]) 1:=by
 exact wZ (iV 0 [] [[(1,true)]]) func171 call171
instance o48 {l}:CZ M 48 (uM l) [.sl 1 (mI M l) false] [] 0 (λr=>.os 0 0 (M.n Int r)) (λr=>[(0,(aR 1 (mI M r)))]) 1:=by
 exact wZ (iV 0 [] [[(1,true)]]) func48 call48
instance c52 {a}{b}:CC M 52 (yX a b) [.sl 1 (mI M a) false,.sl 1 (mI M b) false] (λr=>.sb r):=by
 have:=lo 4 [0,1,5] (λ_ s=>jO [(5,sI s)]);exact wA ig func52 call52
instance c155 {s}{v}:CC M 155 (slices_Index_int s v) [.sl 1 (mI M s) false,sI v] (λr=>sI r):=by
 have:=lo 2 [0,1,7,8] (λ_ s=>jO [(8,sI s)]);exact wA ig func155 call155
instance c107 {s}{id}:CC M 107 (Nj s id) [.agg (iF M s),sI id] (λr=>sI r):=by
 have:=lo 2 [1,2,5] (λ_ s=>jO [(5,sI s)]);exact wA ig func107 call107
instance c301 {vals}:CC M 301 (OY vals) [.sl 1 (mI M vals) false] (λr=>sI r):=by
 have:=lo 3 [3,6,7,8] (λ_ s=>jO [(8,sI s)]);exact wA ig func301 call301
instance c133 {s}:CC M 133 (yM s) [QI M s] (λr=>QI M r):=by
 exact wA ig func133 call133
end Go.Proofs.YtchmoabpofnbaaaGreat
