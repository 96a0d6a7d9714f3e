import Derived.Test.YtchmoabpofnbaaaGreatD10
set_option linter.all false
namespace Go.Proofs.YtchmoabpofnbaaaGreat
open Go Go.Pv Proofs.Tryz
set_option maxRecDepth 100000
set_option maxHeartbeats 20000000
variable [GM]
attribute [local irreducible] bnd br jn pI eH iI kD gW qx sG divO jU jc jM jD jR kK kE
variable {M:gm}[HM M]
instance c397 {l}{pby}:CC M 397 (Sr l pby) [.sl 1 (M.m ByteArray eS l) false,.str pby] (λr=>.str r):=by
 have:=lo 3 [0,1,5,6] (λ_ (s:ByteArray×Int)=>jf [(5,.str s.1),(6,sI s.2)]);have:=ct 9 [0,1,5,6] (λ_ s=>jf [(5,.str s)]);have:=ct 15 [0,1,5,6] (λ_ s=>jf [(5,.str s)]);exact wA (fZ [9,15]) func397 call397
instance c308 {a}{b}{most}:CC M 308 (DV a b most) [sI a,sI b,sI most] (λr=>.sb r):=by
 have:=ct 2 [0,1,23] (λ_ s=>jf [(23,.sb s)]);have:=lo 4 [0,1,7] (λ_ (s:Int×Int×Int)=>jf [(0,sI s.1),(1,sI s.2.1),(7,sI s.2.2)]);have:=ct 12 [0,1,7,35] (λ_ s=>jf [(35,.sb s)]);exact wA (fZ [2,8,12]) func308 call308
instance s470 {s}{i}{v}:CZ M 470 (uz s i v) [.os 0 0 (M.n ByteArray s),sI i,.os 1 0 (M.n ByteArray v)] [(0,(aR 1 (M.m ByteArray eS s))),(1,(aR 1 (M.m ByteArray eS v)))] 2 (λr=>.os 2 0 (M.n ByteArray r)) (λr=>[(0,none),(1,none),(2,(aR 1 (M.m ByteArray eS r)))]) 3:=by
 have hM:=HM.h (M:=M);exact⟨λr U=>Vx hM U⟩
instance anK {s}:CZ M 411 (tJ s) [.os 0 0 (M.n (List Int) s)] [(0,(aR 1 (M.m (List Int) (eL M 1 (eI .i64)) s)))] 1 (λr=>.os 1 0 (M.n (List Int) r)) (λr=>[(0,(aR 1 (M.m (List Int) (eL M 1 (eI .i64)) s))),(1,(aR 1 (M.m (List Int) (eL M 1 (eI .i64)) r)))]) 2:=by
 exact wC (gJ 1 [] [[(1,true)]]) func411 call411 []
instance c233 {s}{id}:CC M 233 (MJ s id) [.agg (fM M s),sI id] (λr=>sI r):=by
 have:=lo 3 [1,2,5,6] (λ_ (s:Int×Int)=>jf [(5,sI s.1),(6,sI s.2)]);have:=ct 9 [1,2,5,6] (λ_ s=>jf [(5,sI s)]);have:=ct 10 [1,2,5,6,30] (λ_ s=>jf [(30,.sb s)]);exact wA (fZ [9,10]) func233 call233
instance c360 {cards}{s}{all}{pe}{pr}{you}{source}:CC M 360 (Ai cards s all pe pr you source) [lQ M cards,.agg (fM M s),kH M all,.agg (jT M pe),.agg (qR M pr),sI you,sI source] (λr=>.sb r):=by
 exact wA fG func360 call360
instance anL {s}:CZ M 409 (rW s) [.os 0 0 (M.n eF s)] [(0,(aR 17 (fQ M s)))] 1 (λr=>.os 1 0 (M.n eF r)) (λr=>[(0,(aR 17 (fQ M s))),(1,(aR 17 (fQ M r)))]) 2:=by
 exact wC (gJ 1 [] [[(17,true)]]) func409 call409 []
instance c298 {s}{all}{earlier}:CC M 298 (Az s all earlier) [.agg (gG M s),kH M all,.sb earlier] (λr=>.fn 366 [.pp (gG M r.1),.pp [kH M r.2.1],.pp [.sb r.2.2]]):=by
 exact wA fG func298 call298
instance c372 {s}{p}{you}{who}:CC M 372 (GN s p you who) [.agg (gG M s),sI p,sI you,sI who] (λr=>.sb r):=by
 have:=ct 2 [1,2,3,25] (λ_ s=>jf [(25,.sb s)]);exact wA (fZ [2]) func372 call372
instance o136 {s}:CZ M 136 (jF s) [OH M s] [] 0 (λr=>.os 0 0 (M.n jP r)) (λr=>[(0,(aR 20 (Ur M r)))]) 1:=by
 exact wZ (gJ 0 [] [[(20,true)]]) func136 call136
instance c303 {a}{b}:CC M 303 (wK a b) [OH M a,OH M b] (λr=>.sb r):=by
 have:=lo 4 [0,1,5] (λ_ s=>jf [(5,sI s)]);exact wA fG func303 call303
instance c215 {a}{b}:CC M 215 (Gj a b) [OH M a,OH M b] (λr=>.sb r):=by
 have:=lo 4 [0,1,5] (λ_ s=>jf [(5,sI s)]);exact wA fG func215 call215
instance c186 {s}{v}:CC M 186 (zA s v) [pX M s,.agg (uk M v)] (λr=>sI r):=by
 have:=lo 2 [0,3,7,8] (λ_ s=>jf [(8,sI s)]);exact wA fG func186 call186
instance c335 {ps1}{ps2}:CC M 335 (slices_Equal_int ps1 ps2) [.sl 1 (mI M ps1) false,.sl 1 (mI M ps2) false] (λr=>.sb r):=by
 have:=lo 4 [0,1,12,13] (λ_ s=>jf [(13,sI s)]);exact wA fG func335 call335
instance c112 {l}{name}:CC M 112 (SI l name) [lQ M l,.str name] (λr=>sI r):=by
 have:=lo 2 [0,1,5] (λ_ s=>jf [(5,sI s)]);exact wA fG func112 call112
instance c500 {s}{v}:CC M 500 (slices_Index_string s v) [.sl 1 (M.m ByteArray eS s) false,.str v] (λr=>sI r):=by
 have:=lo 2 [0,1,7,8] (λ_ s=>jf [(8,sI s)]);exact wA fG func500 call500
instance c407 {f}{stage}:CC M 407 (lY f stage) [.agg (jm M f),sI stage] (λr=>.sb r):=by
 have:=ct 2 [1,2,5] (λ_ s=>jf [(5,.sb s)]);exact wA (fZ [2]) func407 call407
instance s95 {x}:CZ M 95 (slices_Sort_int x) [.os 0 0 (M.n Int x)] [(0,(aR 1 (mI M x)))] 1 (λ_=>.Ed []) (λr=>[(0,(aR 1 (mI M r)))]) 1:=by
 have hM:=HM.h (M:=M);exact⟨λr U=>ahN hM U⟩
instance c282 {mask}{i}:CC M 282 (Pq mask i) [sI mask,sI i] (λr=>.sb r):=by
 have:=lo 2 [0,1,5] (λ_ (s:Int×Int)=>jf [(0,sI s.1),(5,sI s.2)]);exact wA fG func282 call282
instance c394 {mask}{i}:CC M 394 (Jq mask i) [sI mask,sI i] (λr=>.sb r):=by
 have:=lo 2 [0,1,5] (λ_ (s:Int×Int)=>jf [(0,sI s.1),(5,sI s.2)]);exact wA fG func394 call394
instance o130 {s}:CZ M 130 (slices_Clone_int s) [.sl 1 (mI M s) false] [] 0 (λr=>.os 0 0 (M.n Int r)) (λr=>[(0,(aR 1 (mI M r)))]) 1:=by
 exact wZ (gJ 0 [] [[(1,true)]]) func130 call130
instance c356 {l}{s}:CC M 356 (Bh l s) [.sl 1 (M.m ByteArray eS l) false,.str s] (λr=>sI r):=by
 have:=lo 2 [0,1,5] (λ_ s=>jf [(5,sI s)]);exact wA fG func356 call356
instance o171 {c}:CZ M 171 (uA c) [.agg (jQ M c)] [] 0 (λr=>.os 0 0 (M.n Int r)) (λr=>[(0,(aR 1 (mI M r)))]) 1:=by
 exact wZ (gJ 0 [] [[(1,true)]]) func171 call171
instance o48 {l}:CZ M 48 (vC l) [.sl 1 (mI M l) false] [] 0 (λr=>.os 0 0 (M.n Int r)) (λr=>[(0,(aR 1 (mI M r)))]) 1:=by
 exact wZ (gJ 0 [] [[(1,true)]]) func48 call48
instance c52 {a}{b}:CC M 52 (um a b) [.sl 1 (mI M a) false,.sl 1 (mI M b) false] (λr=>.sb r):=by
 have:=lo 4 [0,1,5] (λ_ s=>jf [(5,sI s)]);exact wA fG func52 call52
instance c155 {s}{v}:CC M 155 (slices_Index_int s v) [.sl 1 (mI M s) false,sI v] (λr=>sI r):=by
 have:=lo 2 [0,1,7,8] (λ_ s=>jf [(8,sI s)]);exact wA fG func155 call155
instance c352 {s}{id}:CC M 352 (xq s id) [.agg (fM M s),sI id] (λr=>sI r):=by
 have:=lo 2 [1,2,5] (λ_ s=>jf [(5,sI s)]);exact wA fG func352 call352
instance c107 {s}{id}:CC M 107 (Pn s id) [.agg (fM M s),sI id] (λr=>sI r):=by
 have:=lo 2 [1,2,5] (λ_ s=>jf [(5,sI s)]);exact wA fG func107 call107
instance c301 {vals}:CC M 301 (QJ vals) [.sl 1 (mI M vals) false] (λr=>sI r):=by
 have:=lo 3 [3,6,7,8] (λ_ s=>jf [(8,sI s)]);exact wA fG func301 call301
instance c133 {s}:CC M 133 (zF s) [SS M s] (λr=>SS M r):=by
 exact wA fG func133 call133
instance c421 {l}{i}:CC M 421 (Ph l i) [.sl 1 (mI M l) false,sI i] (λr=>.sb r):=by
 have:=lo 2 [0,1,5] (λ_ s=>jf [(5,sI s)]);exact wA fG func421 call421
instance c406 {needs}{i}{j}:CC M 406 (zX needs i j) [.sl 1 (M.m (List Bool) (eL M 1 eB) needs) false,sI i,sI j] (λr=>.sb r):=by
 exact wA fG func406 call406
instance c36 {l}{n}:CC M 36 (Ue l n) [.sl 1 (mI M l) false,sI n] (λr=>sI r):=by
 have:=lo 2 [0,1,5] (λ_ s=>jf [(5,sI s)]);exact wA fG func36 call36
instance c50 {l}:CC M 50 (pM l) [pX M l] (λr=>pX M r):=by
 exact wA fG func50 call50
end Go.Proofs.YtchmoabpofnbaaaGreat
