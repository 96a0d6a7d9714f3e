import Derived.Test.YtchmoabpofnbaaaGreatD10
set_option linter.all false
namespace Go.Proofs.YtchmoabpofnbaaaGreat
open Go Go.Pv Proofs.Tryz
set_option maxRecDepth 100000
set_option maxHeartbeats 20000000
variable [GM]
attribute [local irreducible] bnd br jn pI eH iI kD gW qx sG divO jU jc jM jD jR kK kE
variable {M:gm}[HM M]
instance o58 {fV}{first}{seed}:CZ M 58 (ae2 fV first seed) [sI fV,sI first,.si .u64 seed] [] 0 (λr=>.agg [.os 0 0 (M.n jl r.fV),.os 1 0 (M.n fD r.objects),.os 2 0 (M.n Int r.iF),.os 3 0 (M.n Int r.pG),.os 4 0 (M.n nJ r.stack),.os 5 0 (M.n gU r.waiting),.os 6 0 (M.n pF r.jB),sI r.turn,sI r.kX,sI r.step,.sb r.begun,sI r.priority,sI r.passes,sI r.nextId,sI r.jI,.si .u64 r.seed,.os 7 0 (M.n Int r.extra),sI r.over,sI r.oC]) (λr=>[(0,(aR 14 (kN M r.fV))),(1,(aR 19 (jO M r.objects))),(2,(aR 1 (mI M r.iF))),(3,(aR 1 (mI M r.pG))),(4,(aR 94 (rM M r.stack))),(5,(aR 89 (iQ M r.waiting))),(6,(aR 6 (wY M r.jB))),(7,(aR 1 (mI M r.extra)))]) 8:=by
 have:=lo 4 [1,6,7,8,9] (λ_ (s:Int×(List jl))=>up [(9,sI s.1)] [(1,(vR [.os 2 0 (M.n jl s.2),.sl 0 [] true,.sl 0 [] true,.sl 0 [] true,.sl 0 [] true,.sl 0 [] true,.sl 0 [] true,sI 0,sI 0,sI 0,.sb false,sI 0,sI 0,sI 1,sI 1,.si .u64 seed,.sl 0 [] true,sI 0,sI (-1)])),(2,(aR 14 (kN M s.2)))]) [.cO 1 0 14];have:=ct 14 [1,6,8,32] (λ_ s=>jf [(32,.sb s)]);exact wZ (gJ 0 [14] [[(14,true),(19,true),(1,true),(1,true),(94,true),(89,true),(6,true),(0,false),(0,false),(0,false),(0,false),(0,false),(0,false),(0,false),(0,false),(0,false),(1,true),(0,false),(0,false)]]) func58 call58
instance c398 {u}:CC M 398 (DZ u) [.si .u64 u] (λr=>.str r):=by
 have hM:=HM.h (M:=M);refine⟨λr U=>?_⟩;refine EN fG func398 call398 ?_;intro S R O hR q;unfold DZ at U;cbv;refine Xg O U rfl rfl ?_;intro x1 U;cbv;refine akD O hM U ⟨5,by kernel_rfl,by kernel_rfl⟩ jW ?_;intro x2 U;cbv;refine Xg O U rfl rfl ?_;intro x3 U;cbv;refine Vw O fG wf [] [0,3] (λs4=>f3 25 [(0,.si .u64 s4.1),(3,.str s4.2)] []) U ?_;intro Ik5 k5 s4 hk5 U e he;subst he;unfold JX at U;cbv;refine mP ?_ ?_
 intro U;cbv;refine Xg O U rfl rfl ?_;intro x7 U;cbv;refine akD O hM U ⟨5,by kernel_rfl,by kernel_rfl⟩ jW ?_;intro x8 U;cbv;refine YU O U rfl rfl ?_;intro x9 U;cbv;refine Xg O U rfl rfl ?_;exact yX
 exact d_R
instance anM {ol}{oj}{deadly}{pe}:CZ M 296 (EZ ol oj deadly pe) [.lp 0 oj 0,.sb deadly,.agg (jT M pe)] [(0,(aR 19 (jO M ol)))] 1 (λ_=>.Ed []) (λr=>[(0,(aR 19 (jO M r)))]) 1:=by
 exact wC (gJ 1 [] []) func296 call296 []
instance c454 {c}:CC M 454 (JB c) [.agg (rD M c)] (λr=>.sb r):=by
 have:=lo 2 [1,6,7] (λ_ s=>jf [(7,sI s)]);have:=ct 6 [1,4,6,7] (λ_ s=>jf [(4,sI s)]);have:=ct 8 [1,6,7,15] (λ_ s=>jf [(15,.sb s)]);exact wA (fZ [4,6,8]) func454 call454
instance c191 {c}:CC M 191 (Ih c) [.agg (rD M c)] (λr=>.sb r):=by
 have:=ct 2 [1,21] (λ_ s=>jf [(21,.sb s)]);have:=lo 4 [1,3] (λ_ s=>jf [(3,sI s)]);have:=ct 12 [1,3,37] (λ_ s=>jf [(37,.sb s)]);exact wA (fZ [2,8,12]) func191 call191
instance c229 {l}{n}:CC M 229 (G6 l n) [.sl 1 (mI M l) false,sI n] (λr=>sI r):=by
 have:=lo 3 [0,1,5,6] (λ_ (s:Int×Int)=>jf [(5,sI s.1),(6,sI s.2)]);have:=ct 9 [0,1,5,6] (λ_ s=>jf [(5,sI s)]);exact wA (fZ [9]) func229 call229
instance c196 {l}{name}:CC M 196 (PH l name) [lQ M l,.str name] (λr=>.sb r):=by
 have:=lo 2 [0,1,5] (λ_ s=>jf [(5,sI s)]);have:=ct 8 [0,1,5,25] (λ_ s=>jf [(25,.sb s)]);exact wA (fZ [8]) func196 call196
instance c160 {p}:CC M 160 (Pm p) [.agg [sI p.a0,sI p.a1,sI p.a2,sI p.a3,sI p.a4,sI p.a5]] (λr=>.sb r):=by
 have:=lo 2 [1,3] (λ_ s=>jf [(3,sI s)]);have:=ct 8 [1,3,17] (λ_ s=>jf [(17,.sb s)]);exact wA (fZ [4,8]) func160 call160
instance anN {s}:CZ M 410 (qP s) [.os 0 0 (M.n Bool s)] [(0,(aR 1 (M.m Bool eB s)))] 1 (λr=>.os 1 0 (M.n Bool r)) (λr=>[(0,(aR 1 (M.m Bool eB s))),(1,(aR 1 (M.m Bool eB r)))]) 2:=by
 exact wC (gJ 1 [] [[(1,true)]]) func410 call410 []
instance s393 {l}{s}:CZ M 393 (Eu l s) [.os 0 0 (M.n ByteArray l),.str s] [(0,(aR 1 (M.m ByteArray eS l)))] 1 (λr=>.os 1 0 (M.n ByteArray r)) (λr=>[(0,none),(1,(aR 1 (M.m ByteArray eS r)))]) 2:=by
 exact wZ (gJ 1 [] [[(1,true)]]) func393 call393
instance anO {s}:CZ M 220 (wR s) [JH M s] [] 0 (λr=>.os 0 0 (M.n iK r)) (λr=>[(0,(aR 64 (xP M r)))]) 1:=by
 exact wC (gJ 0 [] [[(64,true)]]) func220 call220 []
instance o464 {s}:CZ M 464 (yF s) [Dn M s] [] 0 (λr=>.os 0 0 (M.n gz r)) (λr=>[(0,(aR 72 (qC M r)))]) 1:=by
 exact wZ (gJ 0 [] [[(72,true)]]) func464 call464
instance c331 {stamps}{i}:CC M 331 (CB stamps i) [.sl 1 (mI M stamps) false,sI i] (λr=>sI r):=by
 exact wA fG func331 call331
instance c351 {stamps}{i}:CC M 351 (G5 stamps i) [.sl 1 (mI M stamps) false,sI i] (λr=>sI r):=by
 exact wA fG func351 call351
instance c465 {n}{least}{most}:CC M 465 (A8 n least most) [sI n,sI least,sI most] (λr=>.sb r):=by
 exact wA fG func465 call465
instance c424 {id}{source}{w}:CC M 424 (Xq id source w) [sI id,sI source,sI w] (λr=>.sb r):=by
 exact wA fG func424 call424
instance c431 {o}{c1}:CC M 431 (IC o c1) [.agg (jo M o),.pp [sI c1]] (λr=>.sb r):=by
 exact wA fG func431 call431
instance c221 {o}{c1}:CC M 221 (GG o c1) [.agg (jo M o),.pp [sI c1]] (λr=>.sb r):=by
 exact wA fG func221 call221
instance c86 {n}{least}{most}:CC M 86 (xJ n least most) [sI n,sI least,sI most] (λr=>.sb r):=by
 exact wA fG func86 call86
instance c130 {s}:CC M 130 (slices_Clone_int s) [.sl 1 (mI M s) false] (λr=>.sl 1 (mI M r) false):=by
 exact wA fG func130 call130
instance c48 {l}:CC M 48 (vC l) [.sl 1 (mI M l) false] (λr=>.sl 1 (mI M r) false):=by
 exact wA fG func48 call48
instance c466 {m}:CC M 466 (OB m) [.agg (zk M m)] (λr=>.agg (zk M r)):=by
 exact wA (fZ [1017]) func466 call466
instance c250 {k}{c1}:CC M 250 (uS k c1) [sI k,.pp [sI c1]] (λr=>.sb r):=by
 exact wA fG func250 call250
instance c156 {l}:CC M 156 (ET l) [.sl 1 (mI M l) false] (λr=>.sl 1 (mI M r) false):=by
 exact wA fG func156 call156
instance c232 {o}:CC M 232 (Po o) [.agg (jo M o)] (λr=>.agg (jo M r)):=by
 exact wA fG func232 call232
instance c177 {mask}{key}:CC M 177 (oL mask key) [sI mask,sI key] (λr=>.sb r):=by
 exact wA fG func177 call177
instance c469 {s}{c1}:CC M 469 (EI s c1) [.str s,.pp [.str c1]] (λr=>.sb r):=by
 exact wA fG func469 call469
instance c231 {o}:CC M 231 (Sl o) [.agg (jo M o)] (λr=>.agg (jo M r)):=by
 exact wA fG func231 call231
instance c425 {lu}{w}:CC M 425 (aap lu w) [.sb lu,sI w] (λr=>.sb r):=by
 exact wA fG func425 call425
instance c471 {b}{n}:CC M 471 (Bi b n) [.agg (En M b),sI n] (λr=>.sb r):=by
 exact wA fG func471 call471
instance c485 {n}{most}:CC M 485 (kC n most) [sI n,sI most] (λr=>.sb r):=by
 exact wA fG func485 call485
instance c459 {b}{n}:CC M 459 (D6 b n) [.agg (En M b),sI n] (λr=>.sb r):=by
 exact wA fG func459 call459
end Go.Proofs.YtchmoabpofnbaaaGreat
