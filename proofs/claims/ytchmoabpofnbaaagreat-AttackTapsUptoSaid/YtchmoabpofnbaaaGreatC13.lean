import Derived.Test.YtchmoabpofnbaaaGreatC10
set_option linter.all false
namespace Go.Proofs.YtchmoabpofnbaaaGreat
open Go Go.Pv Proofs.Tryz
set_option maxRecDepth 100000
set_option maxHeartbeats 20000000
variable [GM]
attribute [local irreducible] bnd br jn oL loopF iq jS gu pO rG divO jF iO jA jm jE jY jU
variable {M:fP}[HM M]
instance amj {s}{id}:CZ M 295 (tV s id) [.lv 0 0,sI id] [(0,(vR [.os 1 0 (M.n jB s.fM),.os 2 0 (M.n fC s.objects),.os 3 0 (M.n Int s.iD),.os 4 0 (M.n Int s.qV),.os 5 0 (M.n oK s.stack),.os 6 0 (M.n gm s.waiting),.os 7 0 (M.n qc s.jT),sI s.turn,sI s.jZ,sI s.step,.sb s.begun,sI s.priority,sI s.passes,sI s.nextId,sI s.kF,.si .u64 s.seed,.os 8 0 (M.n Int s.extra),sI s.over,sI s.ql])),(1,(aR 14 (lu M s.fM))),(2,(aR 19 (jW M s.objects))),(3,(aR 1 (mI M s.iD))),(4,(aR 1 (mI M s.qV))),(5,(aR 94 (uy M s.stack))),(6,(aR 89 (iP M s.waiting))),(7,(aR 6 (Ag M s.jT))),(8,(aR 1 (mI M s.extra)))] 9 (λr=>(match r with|none=>.Ip|some j=>.lp 2 j 0)) (λ_=>[(0,(vR [.os 1 0 (M.n jB s.fM),.os 2 0 (M.n fC s.objects),.os 3 0 (M.n Int s.iD),.os 4 0 (M.n Int s.qV),.os 5 0 (M.n oK s.stack),.os 6 0 (M.n gm s.waiting),.os 7 0 (M.n qc s.jT),sI s.turn,sI s.jZ,sI s.step,.sb s.begun,sI s.priority,sI s.passes,sI s.nextId,sI s.kF,.si .u64 s.seed,.os 8 0 (M.n Int s.extra),sI s.over,sI s.ql])),(1,(aR 14 (lu M s.fM))),(2,(aR 19 (jW M s.objects))),(3,(aR 1 (mI M s.iD))),(4,(aR 1 (mI M s.qV))),(5,(aR 94 (uy M s.stack))),(6,(aR 89 (iP M s.waiting))),(7,(aR 6 (Ag M s.jT))),(8,(aR 1 (mI M s.extra)))]) 9:=by
 have:=lo 2 [0,1,10,11] (λ_ s=>je [(11,sI s)]);exact wC (gp 9 [] []) func295 call295 []
instance c398 {u}:CC M 398 (Di u) [.si .u64 u] (λr=>.str r):=by
 have hM:=HM.h (M:=M);refine⟨λr U=>?_⟩;refine CO fG func398 call398 ?_;intro S R hS hR q;unfold Di at U;cbv;refine Wn hS U rfl rfl ?_;intro x1 U;cbv;refine ai8 hS hM U ⟨5,by kernel_rfl,by kernel_rfl⟩ jJ ?_;intro x2 U;cbv;refine Wn hS U rfl rfl ?_;intro x3 U;cbv;refine UQ hS fG wf [] [0,3] (λs4=>f3 25 [(0,.si .u64 s4.1),(3,.str s4.2)] []) U ?_;intro Ik5 k5 s4 hk5 U e he;subst he;unfold JF at U;cbv;refine kQ ?_ ?_
 intro U;cbv;refine Wn hS U rfl rfl ?_;intro x7 U;cbv;refine ai8 hS hM U ⟨5,by kernel_rfl,by kernel_rfl⟩ jJ ?_;intro x8 U;cbv;refine Yb hS U rfl rfl ?_;intro x9 U;cbv;refine Wn hS U rfl rfl ?_;exact sK
 exact d_R
instance c160 {p}:CC M 160 (Om p) [.agg [sI p.a0,sI p.a1,sI p.a2,sI p.a3,sI p.a4,sI p.a5]] (λr=>.sb r):=by
 have:=lo 2 [1,3] (λ_ s=>je [(3,sI s)]);have:=ct 8 [1,3,17] (λ_ s=>je [(17,.sb s)]);exact wA (fO [4,8]) func160 call160
instance amo {s}:CZ M 410 (qp s) [.os 0 0 (M.n Bool s)] [(0,(aR 1 (M.m Bool eB s)))] 1 (λr=>.os 1 0 (M.n Bool r)) (λr=>[(0,(aR 1 (M.m Bool eB s))),(1,(aR 1 (M.m Bool eB r)))]) 2:=by
 exact wC (gp 1 [] [[(1,true)]]) func410 call410 []
instance s393 {l}{s}:CZ M 393 (DV l s) [.os 0 0 (M.n ByteArray l),.str s] [(0,(aR 1 (M.m ByteArray eS l)))] 1 (λr=>.os 1 0 (M.n ByteArray r)) (λr=>[(0,none),(1,(aR 1 (M.m ByteArray eS r)))]) 2:=by
 exact wZ (gp 1 [] [[(1,true)]]) func393 call393
instance amq {s}:CZ M 220 (vU s) [Jj M s] [] 0 (λr=>.os 0 0 (M.n iy r)) (λr=>[(0,(aR 64 (xg M r)))]) 1:=by
 exact wC (gp 0 [] [[(64,true)]]) func220 call220 []
instance o464 {s}:CZ M 464 (xI s) [Cb M s] [] 0 (λr=>.os 0 0 (M.n fU r)) (λr=>[(0,(aR 72 (qX M r)))]) 1:=by
 exact wZ (gp 0 [] [[(72,true)]]) func464 call464
instance o134 {s}:CZ M 134 (xM s) [sF M s] [] 0 (λr=>.os 0 0 (M.n gm r)) (λr=>[(0,(aR 89 (iP M r)))]) 1:=by
 exact wZ (gp 0 [] [[(89,true)]]) func134 call134
instance o220 {s}:CZ M 220 (oW s) [Jj M s] [] 0 (λr=>.os 0 0 (M.n iy r)) (λr=>[(0,(aR 64 (xg M r)))]) 1:=by
 exact wZ (gp 0 [] [[(64,true)]]) func220 call220
instance o127 {s}:CZ M 127 (yH s) [OJ M s] [] 0 (λr=>.os 0 0 (M.n jB r)) (λr=>[(0,(aR 14 (lu M r)))]) 1:=by
 exact wZ (gp 0 [] [[(14,true)]]) func127 call127
instance o129 {s}:CZ M 129 (yI s) [nS M s] [] 0 (λr=>.os 0 0 (M.n fC r)) (λr=>[(0,(aR 19 (jW M r)))]) 1:=by
 exact wZ (gp 0 [] [[(19,true)]]) func129 call129
instance c230 {c}:CC M 230 (Zu c) [.agg [sI c.a0,sI c.a1,sI c.a2]] (λr=>.sb r):=by
 have:=lo 2 [1,3] (λ_ s=>je [(3,sI s)]);have:=ct 8 [1,3,17] (λ_ s=>je [(17,.sb s)]);exact wA (fO [4,8]) func230 call230
instance o50 {l}:CZ M 50 (Bv l) [jI M l] [] 0 (λr=>.os 0 0 (M.n eX r)) (λr=>[(0,(aR 3 (jq M r)))]) 1:=by
 exact wZ (gp 0 [] [[(3,true)]]) func50 call50
instance c426 {a}{b}:CC M 426 (kG a b) [sI a,sI b] (λr=>.sb r):=by
 exact wA fG func426 call426
instance c449 {kind}:CC M 449 (Fq kind) [sI kind] (λr=>.sb r):=by
 exact wA fG func449 call449
instance c195 {c}:CC M 195 (Ri c) [.agg (zD M c)] (λr=>.sb r):=by
 exact wA fG func195 call195
instance c371 {when}:CC M 371 (FO when) [sI when] (λr=>sI r):=by
 exact wA fG func371 call371
instance c311 {when}:CC M 311 (G8 when) [sI when] (λr=>.sb r):=by
 exact wA fG func311 call311
instance c319 {mask}:CC M 319 (zZ mask) [sI mask] (λr=>.sb r):=by
 exact wA fG func319 call319
instance c310 {when}:CC M 310 (NC when) [sI when] (λr=>.str r):=by
 exact wA fG func310 call310
instance c380 {kind}:CC M 380 (ND kind) [sI kind] (λr=>.str r):=by
 exact wA fG func380 call380
instance c329 {kind}:CC M 329 (uP kind) [sI kind] (λr=>sI r):=by
 exact wA fG func329 call329
instance c268 {kind}:CC M 268 (wJ kind) [sI kind] (λr=>sI r):=by
 exact wA fG func268 call268
instance c386 {mask}:CC M 386 (Zw mask) [sI mask] (λr=>.sb r):=by
 exact wA fG func386 call386
instance c193 {mask}:CC M 193 (WE mask) [sI mask] (λr=>.sb r):=by
 exact wA fG func193 call193
instance c490 {i}:CC M 490 (uU i) [sI i] (λr=>.str r):=by
 exact wA fG func490 call490
instance c491 {i}:CC M 491 (wI i) [sI i] (λr=>.str r):=by
 exact wA fG func491 call491
instance c278 {x}:CC M 278 (cmp_isNaN_int x) [sI x] (λr=>.sb r):=by
 exact wA fG func278 call278
instance c280 {c}:CC M 280 (Ls c) [.si .u8 c] (λr=>.sb r):=by
 exact wA fG func280 call280
instance c448 {op}:CC M 448 (Q5 op) [sI op] (λr=>.str r):=by
 exact wA fG func448 call448
instance c387 {i}:CC M 387 (Kq i) [sI i] (λr=>.str r):=by
 exact wA fG func387 call387
instance c140 {n}:CC M 140 (pz n) [sI n] (λr=>sI r):=by
 exact wA fG func140 call140
instance c349 {n}:CC M 349 (oD n) [sI n] (λr=>sI r):=by
 exact wA fG func349 call349
end Go.Proofs.YtchmoabpofnbaaaGreat
