import Derived.Test.YtchmoabpofnbaaaGreatC83
set_option linter.all false
namespace Go.Proofs.YtchmoabpofnbaaaGreat
open Go Go.Pv
set_option maxRecDepth 100000
set_option maxHeartbeats 20000000
variable [GM]
attribute [local irreducible] bnd br jn qE gK jv lJ jl rD uo divO kT jL kN kP lI lS lM
variable {M:iG}[HM M]
instance aki {k}{cards}{s}{pe}:CZ M 116 (uj k cards s pe) [.lv 0 0,oh M cards,.agg (iF M s),.agg (jZ M pe)] [(0,(vR (lV M k)))] 1 (λr=>.agg [NF M r.iJ,oM M r.objects,.sl 1 (mI M r.jd) false,.sl 1 (mI M r.qK) false,Tt M r.stack,.os 1 0 (M.n iL r.waiting),KH M r.kW,sI r.turn,sI r.mJ,sI r.step,.sb r.begun,sI r.priority,sI r.passes,sI r.nextId,sI r.kD,.si .u64 r.seed,.sl 1 (mI M r.extra) false,sI r.over,sI r.ql]) (λr=>[(0,(vR (lV M k))),(1,(aR 89 (jB M r.waiting)))]) 2:=by
 have hM:=HM.h (M:=M);refine⟨λr O=>?_⟩;refine yS (T:=(GY 1 [4,17] [[(0,false),(0,false),(0,false),(0,false),(0,false),(89,true),(0,false),(0,false),(0,false),(0,false),(0,false),(0,false),(0,false),(0,false),(0,false),(0,false),(0,false),(0,false),(0,false)]])) (iV 1 [4,17] [[(0,false),(0,false),(0,false),(0,false),(0,false),(89,true),(0,false),(0,false),(0,false),(0,false),(0,false),(0,false),(0,false),(0,false),(0,false),(0,false),(0,false),(0,false),(0,false)]]) wf Tryz.func116 rfl Tryz.call116 rfl [] ?_;intro S R hS hR;have q:=sf hM hS;unfold uj at O;cbv;refine jM hS O (cZ hM) (le_eq rfl) ?_;intro y1 O;cbv;refine Yd hS [.cF 13 0,.cF 13 1,.cF 13 2,.cF 13 3,.cF 13 4,.cF 13 6,.cF 13 16] ?_;cbv;refine ZY hS rfl ?_;cbv;refine jM hS O (cZ hM) Lr ?_;intro y2 O;cbv;refine EF hS ?_;cbv;refine OE hS O (cI hM) Lr ?_;intro y3 O;cbv;refine OE hS O (cI hM) Lr ?_;intro y4 O;cbv
 refine d_L (iV 1 [4,17] [[(0,false),(0,false),(0,false),(0,false),(0,false),(89,true),(0,false),(0,false),(0,false),(0,false),(0,false),(0,false),(0,false),(0,false),(0,false),(0,false),(0,false),(0,false),(0,false)]]) [] [0,1,6,7,8,9,10,29,30,31] (λs5=>f4 93 [.lv 0 0,oh M cards,.lv 1 0,.lv 2 0,.lv 3 0,.os 4 0 (S.gZ (iD M y1)),.lv 5 0,sU M y4,sI (S.len (jB M y4)),sI s5.1] [vR (lV M k),vR (iF M s),vR (jZ M pe),vR [.sl 0 [] true,.sl 0 [] true,.sl 0 [] true,.sl 0 [] true,.sl 0 [] true,.sl 0 [] true,.sl 0 [] true,sI 0,sI 0,sI 0,.sb false,sI 0,sI 0,sI 0,sI 0,.si .u64 0,.sl 0 [] true,sI 0,sI 0],some (.arr true 17 (iD M y1)),vR [.sl 14 (S.sub (mi M y2.iJ) 0 (M.n jP y2.iJ)) false,.sl 19 (S.sub (kS M y2.objects) 0 (M.n iw y2.objects)) false,.sl 1 (S.sub (mI M y2.jd) 0 (M.n Int y2.jd)) false,.sl 1 (S.sub (mI M y2.qK) 0 (M.n Int y2.qK)) false,.sl 94 (S.sub (uA M y2.stack) 0 (M.n og y2.stack)) false,.os 6 0 (S.gZ (jB M s5.2)),.sl 6 (S.sub (Ad M y2.kW) 0 (M.n pM y2.kW)) false,sI y2.turn,sI y2.mJ,sI y2.step,.sb y2.begun,sI y2.priority,sI y2.passes,sI y2.nextId,sI y2.kD,.si .u64 y2.seed,.sl 1 (S.sub (mI M y2.extra) 0 (M.n Int y2.extra)) false,sI y2.over,sI y2.ql],aR 89 (jB M s5.2)]) O ?_;intro Ik6 k6 s5 hk6 O e he;subst he;unfold ui at O;cbv;refine nZ ?_ ?_
 intro O;cbv;refine DR [] [0,1,6,7,8,9,10,29,30,31] (λs8=>f4 93 [.lv 0 0,oh M cards,.lv 1 0,.lv 2 0,.lv 3 0,.os 4 0 (S.gZ (iD M y1)),.lv 5 0,sU M y4,sI (S.len (jB M y4)),sI s5.1] [vR (lV M k),vR (iF M s),vR (jZ M pe),vR [.sl 0 [] true,.sl 0 [] true,.sl 0 [] true,.sl 0 [] true,.sl 0 [] true,.sl 0 [] true,.sl 0 [] true,sI 0,sI 0,sI 0,.sb false,sI 0,sI 0,sI 0,sI 0,.si .u64 0,.sl 0 [] true,sI 0,sI 0],some (.arr true 17 (iD M y1)),vR [.sl 14 (S.sub (mi M y2.iJ) 0 (M.n jP y2.iJ)) false,.sl 19 (S.sub (kS M y2.objects) 0 (M.n iw y2.objects)) false,.sl 1 (S.sub (mI M y2.jd) 0 (M.n Int y2.jd)) false,.sl 1 (S.sub (mI M y2.qK) 0 (M.n Int y2.qK)) false,.sl 94 (S.sub (uA M y2.stack) 0 (M.n og y2.stack)) false,.os 6 0 (S.gZ (jB M s8)),.sl 6 (S.sub (Ad M y2.kW) 0 (M.n pM y2.kW)) false,sI y2.turn,sI y2.mJ,sI y2.step,.sb y2.begun,sI y2.priority,sI y2.passes,sI y2.nextId,sI y2.kD,.si .u64 y2.seed,.sl 1 (S.sub (mI M y2.extra) 0 (M.n Int y2.extra)) false,sI y2.over,sI y2.ql],aR 89 (jB M s8)]) O ?_ ?_
 intro Ik9 k9 hk9 O;cbv;refine d_I ?_;intro x11 O;cbv;refine nZ ?_ ?_
 intro O;cbv;refine tH hS O lC ?_;exact vF
 exact vF
 intro s8 O;cbv;exact vw
 intro O;cbv;refine nZ ?_ ?_
 exact fO
 intro O;cbv;cases O
end Go.Proofs.YtchmoabpofnbaaaGreat
namespace Go.Proofs.YtchmoabpofnbaaaGreat
open Go Go.Pv Proofs.Tryz
set_option maxRecDepth 100000
set_option maxHeartbeats 20000000
variable [GM]
attribute [local irreducible] bnd br jn qE gK jv lJ jl rD uo divO kT jL kN kP lI lS lM
variable {M:iG}[HM M]
instance akj {k}{cards}{s}{pe}{add}:CZ M 114 (EG k cards s pe add) [.lv 0 0,oh M cards,.agg (iF M s),.agg (jZ M pe),.sb add] [(0,(vR ([.os 1 0 (M.n (List Int) k.answers),sI k.used]++(lN M k.pending++[.sb k.waits,.sb k.bad])))),(1,(aR 1 (M.m (List Int) (eL M 1 (eI .i64)) k.answers)))] 2 (λr=>.DJ [.agg (iF M r.1),.agg (jZ M r.2.1),.sb r.2.2]) (λ_=>[(0,(vR ([.os 1 0 (M.n (List Int) k.answers),sI k.used]++(lN M k.pending++[.sb k.waits,.sb k.bad])))),(1,(aR 1 (M.m (List Int) (eL M 1 (eI .i64)) k.answers)))]) 2:=by
 have:=lo 2 [0,6,7,8,9,10,11,13] (λ_ (_:Unit)=>jO []);exact wC (iV 2 [1006] []) func114 call114 []
instance s114 {k}{cards}{s}{pe}{add}:CZ M 114 (yx k cards s pe add) [.lv 0 0,oh M cards,.agg (iF M s),.agg (jZ M pe),.sb add] [(0,(vR (lV M k)))] 1 (λr=>.DJ [.agg (iF M r.1),.agg (jZ M r.2.1),.sb r.2.2.1]) (λr=>[(0,(vR (lV M r.2.2.2)))]) 1:=by
 have:=lo 2 [0,6,7,8,9,10,11,13] (λ_ (_:Unit)=>jO []);exact wZ (iV 1 [1006] []) func114 call114
instance c111 {c}:CC M 111 (OV c) [.agg (zO M c)] (λr=>.sb r):=by
 have:=ct 2 [1,36] (λ_ s=>jO [(36,.sb s)]);have:=ct 6 [1,75] (λ_ s=>jO [(75,.sb s)]);have:=lo 7 [1,3,4] (λ_ (s:Int×Int)=>jO [(3,sI s.1),(4,sI s.2)]);have:=ct 17 [1,3,4] (λ_ s=>jO [(3,sI s)]);have:=ct 28 [2] (λ_ s=>jO [(2,.sb s)]);exact wA (iO [2,6,17,28]) func111 call111
instance c164 {s}{x}:CC M 164 (Qu s x) [.agg (iF M s),.agg (yF M x)] (λr=>.sb r):=by
 have:=ct 2 [2,3,33] (λ_ s=>jO [(33,.sb s)]);have:=ct 12 [4] (λ_ s=>jO [(4,.sb s)]);exact wA (iO [2,12]) func164 call164
end Go.Proofs.YtchmoabpofnbaaaGreat
