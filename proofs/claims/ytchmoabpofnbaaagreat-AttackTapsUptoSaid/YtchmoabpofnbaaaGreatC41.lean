import Derived.Test.YtchmoabpofnbaaaGreatC24
import Derived.Test.YtchmoabpofnbaaaGreatC26
import Derived.Test.YtchmoabpofnbaaaGreatC29
set_option linter.all false
namespace Go.Proofs.YtchmoabpofnbaaaGreat
open Go Go.Pv
set_option maxRecDepth 100000
set_option maxHeartbeats 20000000
variable [GM]
attribute [local irreducible] bnd br jn oL loopF iq jS gu pO rG divO jF iO jA jm jE jY jU
variable {M:fP}[HM M]
instance o59 {s}:CZ M 59 (sV s) [.agg (fD M s)] [] 0 (λr=>.agg [.os 0 0 (M.n jB r.fM),.os 1 0 (M.n fC r.objects),.os 2 0 (M.n Int r.iD),.os 3 0 (M.n Int r.qV),.os 4 0 (M.n oK r.stack),.os 5 0 (M.n gm r.waiting),.os 6 0 (M.n qc r.jT),sI r.turn,sI r.jZ,sI r.step,.sb r.begun,sI r.priority,sI r.passes,sI r.nextId,sI r.kF,.si .u64 r.seed,.os 7 0 (M.n Int r.extra),sI r.over,sI r.ql]) (λr=>[(0,(aR 14 (lu M r.fM))),(1,(aR 19 (jW M r.objects))),(2,(aR 1 (mI M r.iD))),(3,(aR 1 (mI M r.qV))),(4,(aR 94 (uy M r.stack))),(5,(aR 89 (iP M r.waiting))),(6,(aR 6 (Ag M r.jT))),(7,(aR 1 (mI M r.extra)))]) 8:=by
 have hM:=HM.h (M:=M);refine⟨λr U=>?_⟩;refine yX (T:=(Fg 0 [] [[(14,true),(19,true),(1,true),(1,true),(94,true),(89,true),(6,true),(0,false),(0,false),(0,false),(0,false),(0,false),(0,false),(0,false),(0,false),(0,false),(1,true),(0,false),(0,false)]])) (gp 0 [] [[(14,true),(19,true),(1,true),(1,true),(94,true),(89,true),(6,true),(0,false),(0,false),(0,false),(0,false),(0,false),(0,false),(0,false),(0,false),(0,false),(1,true),(0,false),(0,false)]]) wf Tryz.func59 rfl Tryz.call59 rfl ?_;intro S R hS hR;have q:=sf hM hS;unfold sV at U;cbv;refine jl hS U (cZ hM) (le_eq rfl) ?_;intro y1 U;cbv;refine Gg (gp 0 [] [[(14,true),(19,true),(1,true),(1,true),(94,true),(89,true),(6,true),(0,false),(0,false),(0,false),(0,false),(0,false),(0,false),(0,false),(0,false),(0,false),(1,true),(0,false),(0,false)]]) [] [1,2,13,14] (λs2=>f4 138 [.lv 0 0,.lv 2 0,sI (S.yf (M.n jB y1)),sI s2.1] [vR [.os 1 0 (S.fE (lu M s2.2)),nS M s.objects,.sl 1 (mI M s.iD) false,.sl 1 (mI M s.qV) false,UG M s.stack,sF M s.waiting,MI M s.jT,sI s.turn,sI s.jZ,sI s.step,.sb s.begun,sI s.priority,sI s.passes,sI s.nextId,sI s.kF,.si .u64 s.seed,.sl 1 (mI M s.extra) false,sI s.over,sI s.ql],aR 14 (lu M s2.2),vR [.sl 0 [] true,.sl 0 [] true,.sl 0 [] true,.sl 0 [] true,.sl 0 [] true,.sl 0 [] true,.sl 0 [] true,sI 0,sI 0,sI 0,.sb false,sI 0,sI 0,sI 0,sI 0,.si .u64 0,.sl 0 [] true,sI 0,sI 0]]) U ?_
 intro Ik3 k3 s2 hk3 U e he;subst he;unfold BG at U;cbv;refine kQ ?_ ?_
 intro U;cbv;refine CB hS ?_;cbv;refine kM hS U jJ rfl ?_;intro j5 _ U;cbv;refine jc hS hM U rfl jJ ?_;intro x6 U;cbv;refine GX hS U (cI hM) ?_;intro y7 U;cbv;refine kM hS U jJ rfl ?_;intro j8 _ U;cbv;refine jc hS hM U rfl jJ ?_;exact sK
 intro U;cbv;refine jl hS U (cZ hM) (le_eq rfl) ?_;intro y10 U;cbv;refine jl hS U (cZ hM) (le_eq rfl) ?_;intro y11 U;cbv;refine jl hS U (cZ hM) (le_eq rfl) ?_;intro y12 U;cbv;refine jl hS U (cZ hM) (le_eq rfl) ?_;intro y13 U;cbv;refine Gg (gp 0 [] [[(14,true),(19,true),(1,true),(1,true),(94,true),(89,true),(6,true),(0,false),(0,false),(0,false),(0,false),(0,false),(0,false),(0,false),(0,false),(0,false),(1,true),(0,false),(0,false)]]) [] [1,2,46,47] (λs14=>f4 138 [.lv 0 0,.lv 6 0,sI (S.yf (M.n oK y13)),sI s14.1] [vR [.os 1 0 (S.fE (lu M s2.2)),.os 2 0 (S.fE (jW M y10)),.os 3 0 (S.fE (mI M y11)),.os 4 0 (S.fE (mI M y12)),.os 5 0 (S.fE (uy M s14.2)),sF M s.waiting,MI M s.jT,sI s.turn,sI s.jZ,sI s.step,.sb s.begun,sI s.priority,sI s.passes,sI s.nextId,sI s.kF,.si .u64 s.seed,.sl 1 (mI M s.extra) false,sI s.over,sI s.ql],aR 14 (lu M s2.2),aR 19 (jW M y10),aR 1 (mI M y11),aR 1 (mI M y12),aR 94 (uy M s14.2),vR [.sl 0 [] true,.sl 0 [] true,.sl 0 [] true,.sl 0 [] true,.sl 0 [] true,.sl 0 [] true,.sl 0 [] true,sI 0,sI 0,sI 0,.sb false,sI 0,sI 0,sI 0,sI 0,.si .u64 0,.sl 0 [] true,sI 0,sI 0]]) U ?_;intro Ik15 k15 s14 hk15 U e he;subst he;unfold BF at U;cbv;refine kQ ?_ ?_
 intro U;cbv;refine CB hS ?_;cbv;refine kM hS U jJ rfl ?_;intro j17 _ U;cbv;refine jc hS hM U rfl jJ ?_;intro x18 U;cbv;refine GX hS U (cI hM) ?_;intro y19 U;cbv;refine kM hS U jJ rfl ?_;intro j20 _ U;cbv;refine jc hS hM U rfl jJ ?_;intro x21 U;cbv;refine CB hS ?_;cbv;refine kM hS U jJ rfl ?_;intro j22 _ U;cbv;refine jc hS hM (e:=(AZ M)) U jJ jJ ?_;intro x23 U;cbv;refine GX hS U (cI hM) ?_;intro y24 U;cbv;refine kM hS U jJ rfl ?_;intro j25 _ U;cbv;refine jc hS hM (e:=(AZ M)) U jJ jJ ?_;exact sK
 intro U;cbv;refine jl hS U (cZ hM) (le_eq rfl) ?_;intro y27 U;cbv;refine Gg (gp 0 [] [[(14,true),(19,true),(1,true),(1,true),(94,true),(89,true),(6,true),(0,false),(0,false),(0,false),(0,false),(0,false),(0,false),(0,false),(0,false),(0,false),(1,true),(0,false),(0,false)]]) [] [1,2,81,82] (λs28=>f4 138 [.lv 0 0,.lv 7 0,sI (S.yf (M.n gm y27)),sI s28.1] [vR [.os 1 0 (S.fE (lu M s2.2)),.os 2 0 (S.fE (jW M y10)),.os 3 0 (S.fE (mI M y11)),.os 4 0 (S.fE (mI M y12)),.os 5 0 (S.fE (uy M s14.2)),.os 6 0 (S.fE (iP M s28.2)),MI M s.jT,sI s.turn,sI s.jZ,sI s.step,.sb s.begun,sI s.priority,sI s.passes,sI s.nextId,sI s.kF,.si .u64 s.seed,.sl 1 (mI M s.extra) false,sI s.over,sI s.ql],aR 14 (lu M s2.2),aR 19 (jW M y10),aR 1 (mI M y11),aR 1 (mI M y12),aR 94 (uy M s14.2),aR 89 (iP M s28.2),vR [.sl 0 [] true,.sl 0 [] true,.sl 0 [] true,.sl 0 [] true,.sl 0 [] true,.sl 0 [] true,.sl 0 [] true,sI 0,sI 0,sI 0,.sb false,sI 0,sI 0,sI 0,sI 0,.si .u64 0,.sl 0 [] true,sI 0,sI 0]]) U ?_;intro Ik29 k29 s28 hk29 U e he;subst he;unfold BD at U;cbv;refine kQ ?_ ?_
 intro U;cbv;refine CB hS ?_;cbv;refine kM hS U jJ rfl ?_;intro j31 _ U;cbv;refine jc hS hM U rfl jJ ?_;intro x32 U;cbv;refine GX hS U (cI hM) ?_;intro y33 U;cbv;refine kM hS U jJ rfl ?_;intro j34 _ U;cbv;refine jc hS hM U rfl jJ ?_;exact sK
 intro U;cbv;refine jl hS U (cZ hM) (le_eq rfl) ?_;intro y36 U;cbv;refine Gg (gp 0 [] [[(14,true),(19,true),(1,true),(1,true),(94,true),(89,true),(6,true),(0,false),(0,false),(0,false),(0,false),(0,false),(0,false),(0,false),(0,false),(0,false),(1,true),(0,false),(0,false)]]) [] [1,2,104,105] (λs37=>f4 138 [.lv 0 0,.lv 8 0,sI (S.yf (M.n qc y36)),sI s37.1] [vR [.os 1 0 (S.fE (lu M s2.2)),.os 2 0 (S.fE (jW M y10)),.os 3 0 (S.fE (mI M y11)),.os 4 0 (S.fE (mI M y12)),.os 5 0 (S.fE (uy M s14.2)),.os 6 0 (S.fE (iP M s28.2)),.os 7 0 (S.fE (Ag M s37.2)),sI s.turn,sI s.jZ,sI s.step,.sb s.begun,sI s.priority,sI s.passes,sI s.nextId,sI s.kF,.si .u64 s.seed,.sl 1 (mI M s.extra) false,sI s.over,sI s.ql],aR 14 (lu M s2.2),aR 19 (jW M y10),aR 1 (mI M y11),aR 1 (mI M y12),aR 94 (uy M s14.2),aR 89 (iP M s28.2),aR 6 (Ag M s37.2),vR [.sl 0 [] true,.sl 0 [] true,.sl 0 [] true,.sl 0 [] true,.sl 0 [] true,.sl 0 [] true,.sl 0 [] true,sI 0,sI 0,sI 0,.sb false,sI 0,sI 0,sI 0,sI 0,.si .u64 0,.sl 0 [] true,sI 0,sI 0]]) U ?_;intro Ik38 k38 s37 hk38 U e he;subst he;unfold BC at U;cbv;refine kQ ?_ ?_
 intro U;cbv;refine CB hS ?_;cbv;refine kM hS U jJ rfl ?_;intro j40 _ U;cbv;refine jc hS hM U rfl jJ ?_;intro x41 U;cbv;refine GX hS U (cI hM) ?_;intro y42 U;cbv;refine kM hS U jJ rfl ?_;intro j43 _ U;cbv;refine jc hS hM U rfl jJ ?_;intro x44 U;cbv;refine CB hS ?_;cbv;refine kM hS U jJ rfl ?_;intro j45 _ U;cbv;refine jc hS hM (e:=(Df M)) U jJ jJ ?_;intro x46 U;cbv;refine GX hS U (cI hM) ?_;intro y47 U;cbv;refine kM hS U jJ rfl ?_;intro j48 _ U;cbv;refine jc hS hM (e:=(Df M)) U jJ jJ ?_;exact sK
 intro U;cbv;refine jl hS U (cZ hM) (le_eq rfl) ?_;intro y50 U;cbv;cases U;exact hR _ _ _ gX gX rfl
instance c121 {c}:CC M 121 (vG c) [.agg (zD M c)] (λr=>.agg (jh M r)):=by
 have hM:=HM.h (M:=M);refine⟨λr U=>?_⟩;refine CO fG Tryz.func121 Tryz.call121 ?_;intro S R hS hR q;unfold vG at U;cbv;refine CB hS ?_;cbv;refine GX hS U (cI hM) ?_;intro y1 U;cbv;refine nG hS U jJ ?_;intro U;cbv;refine UQ hS fG wf [.cO 2 15 72] [1,2,3,4] (λs2=>f3 50 [(1,.lv 0 0),(2,.lv 1 0),(3,.lv 2 0),(4,sI s2.1)] [vR (zD M c),vR [.str (bs []),sI 0,sI 0,sI 0,sI 0,sI 0,sI 0,sI 0,sI 0,sI 0,sI 0,.sl 0 [] true,sI 0,sI 0,sI 0,.sl 0 [] true,sI 0],vR ([.str c.name]++(qN M c.cost++[sI (S.bin .or .i64 y1 c.color),sI c.line.J9,sI c.line.types,.os 3 0 (S.fE (S.app (S.sub ([]) 0 0) (M.m ByteArray eS c.line.subs))),sI c.power,sI c.gz,sI c.keys,.os 4 0 (S.fE (qX M s2.2)),sI 0])),aR 1 (S.app (S.sub ([]) 0 0) (M.m ByteArray eS c.line.subs)),aR 72 (qX M s2.2)]) U ?_;intro Ik3 k3 s2 hk3 U e he;subst he;unfold BQ at U;cbv;refine kQ ?_ ?_
 intro U;cbv;refine CB hS ?_;cbv;refine zT ?_;intro x5 U;cbv;refine GX hS U (cI hM) ?_;intro y6 U;cbv;refine nG hS U jJ ?_;exact pW
 exact d_R
end Go.Proofs.YtchmoabpofnbaaaGreat
namespace Go.Proofs.YtchmoabpofnbaaaGreat
open Go Go.Pv Proofs.Tryz
set_option maxRecDepth 100000
set_option maxHeartbeats 20000000
variable [GM]
attribute [local irreducible] bnd br jn oL loopF iq jS gu pO rG divO jF iO jA jm jE jY jU
variable {M:fP}[HM M]
instance c326 {c}:CC M 326 (wH c) [.agg [sI c.a0,sI c.a1,sI c.a2]] (λr=>sI r):=by
 exact wA fG func326 call326
instance c137 {s}{id}:CC M 137 (LJ s id) [.agg (fD M s),sI id] (λr=>sI r):=by
 exact wA fG func137 call137
instance c342 {l}{n}:CC M 342 (Tq l n) [.sl 1 (mI M l) false,sI n] (λr=>.sb r):=by
 exact wA fG func342 call342
instance c266 {c}:CC M 266 (Gp c) [.agg [sI c.a0,sI c.a1,sI c.a2]] (λr=>sI r):=by
 exact wA fG func266 call266
instance c320 {mask}:CC M 320 (wE mask) [sI mask] (λr=>.str r):=by
 exact wA fG func320 call320
instance c467 {s}:CC M 467 (vS s) [.str s] (λr=>.sb r):=by
 exact wA fG func467 call467
instance c281 {s}:CC M 281 (pq s) [.str s] (λr=>.sb r):=by
 exact wA fG func281 call281
end Go.Proofs.YtchmoabpofnbaaaGreat
