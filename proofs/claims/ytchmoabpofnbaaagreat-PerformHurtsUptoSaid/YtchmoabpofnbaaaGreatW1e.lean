import Derived.Test.YtchmoabpofnbaaaGreatB11
set_option linter.all false
namespace Go.Proofs.YtchmoabpofnbaaaGreat
open Go Go.Pv Proofs.Tryz
set_option maxRecDepth 100000
set_option maxHeartbeats 20000000
variable [GM]
attribute [local irreducible] bnd br jn qR ig jK lK jS rQ uY divO lu jR kY lD lU mg l9
variable {M:iO}[HM M]
instance s470 {s}{i}{v}:CZ M 470 (Df s i v) [.os 0 0 (M.n ByteArray s),sI i,.os 1 0 (M.n ByteArray v)] [(0,(aR 1 (M.m ByteArray eS s))),(1,(aR 1 (M.m ByteArray eS v)))] 2 (λr=>.os 2 0 (M.n ByteArray r)) (λr=>[(0,none),(1,none),(2,(aR 1 (M.m ByteArray eS r)))]) 3:=by
 have hM:=HM.h (M:=M);exact⟨λr O=>RD hM O⟩
instance aij {s}:CZ M 411 (sJ s) [.os 0 0 (M.n (List Int) s)] [(0,(aR 1 (M.m (List Int) (eL M 1 (eI .i64)) s)))] 1 (λr=>.os 1 0 (M.n (List Int) r)) (λr=>[(0,(aR 1 (M.m (List Int) (eL M 1 (eI .i64)) s))),(1,(aR 1 (M.m (List Int) (eL M 1 (eI .i64)) r)))]) 2:=by
 exact wC (iZ 1 [] [[(1,true)]]) func411 call411 []
instance c233 {s}{id}:CC M 233 (Jd s id) [.agg (iQ M s),sI id] (λr=>sI r):=by
 have:=lo 3 [1,2,5,6] (λ_ (s:Int×Int)=>kG [(5,sI s.1),(6,sI s.2)]);have:=ct 9 [1,2,5,6] (λ_ s=>kG [(5,sI s)]);have:=ct 10 [1,2,5,6,30] (λ_ s=>kG [(30,.sb s)]);exact wA (ja [9,10]) func233 call233
instance aik {s}:CZ M 409 (rD s) [.os 0 0 (M.n gX s)] [(0,(aR 17 (iK M s)))] 1 (λr=>.os 1 0 (M.n gX r)) (λr=>[(0,(aR 17 (iK M s))),(1,(aR 17 (iK M r)))]) 2:=by
 exact wC (iZ 1 [] [[(17,true)]]) func409 call409 []
instance o251 {n}:CZ M 251 (Qv n) [sI n] [] 0 (λr=>.os 0 0 (M.n Int r)) (λr=>[(0,(aR 1 (mI M r)))]) 1:=by
 have:=lo 3 [3,5,6] (λ_ (s:Int×(List Int))=>up [(3,.os 0 0 (M.n Int s.2)),(6,sI s.1)] [(0,(aR 1 (mI M s.2)))]) [.tO 3 1];exact wZ (iZ 0 [] [[(1,true)]]) func251 call251
instance c298 {s}{all}{earlier}:CC M 298 (yR s all earlier) [.agg (iL M s),ny M all,.sb earlier] (λr=>.fn 366 [.pp (iL M r.1),.pp [ny M r.2.1],.pp [.sb r.2.2]]):=by
 exact wA iE func298 call298
instance c454 {c}:CC M 454 (Po c) [.agg (rV M c)] (λr=>.sb r):=by
 have:=lo 2 [1,6,7] (λ_ s=>kG [(7,sI s)]);have:=ct 6 [1,4,6,7] (λ_ s=>kG [(4,sI s)]);have:=ct 8 [1,6,7,15] (λ_ s=>kG [(15,.sb s)]);exact wA (ja [4,6,8]) func454 call454
instance c191 {c}:CC M 191 (Nz c) [.agg (rV M c)] (λr=>.sb r):=by
 have:=ct 2 [1,21] (λ_ s=>kG [(21,.sb s)]);have:=lo 4 [1,3] (λ_ s=>kG [(3,sI s)]);have:=ct 12 [1,3,37] (λ_ s=>kG [(37,.sb s)]);exact wA (ja [2,8,12]) func191 call191
instance c229 {l}{n}:CC M 229 (ED l n) [.sl 1 (mI M l) false,sI n] (λr=>sI r):=by
 have:=lo 3 [0,1,5,6] (λ_ (s:Int×Int)=>kG [(5,sI s.1),(6,sI s.2)]);have:=ct 9 [0,1,5,6] (λ_ s=>kG [(5,sI s)]);exact wA (ja [9]) func229 call229
instance c196 {l}{name}:CC M 196 (LD l name) [mD M l,.str name] (λr=>.sb r):=by
 have:=lo 2 [0,1,5] (λ_ s=>kG [(5,sI s)]);have:=ct 8 [0,1,5,25] (λ_ s=>kG [(25,.sb s)]);exact wA (ja [8]) func196 call196
instance c160 {p}:CC M 160 (Le p) [.agg [sI p.a0,sI p.a1,sI p.a2,sI p.a3,sI p.a4,sI p.a5]] (λr=>.sb r):=by
 have:=lo 2 [1,3] (λ_ s=>kG [(3,sI s)]);have:=ct 8 [1,3,17] (λ_ s=>kG [(17,.sb s)]);exact wA (ja [4,8]) func160 call160
instance ail {s}:CZ M 410 (qA s) [.os 0 0 (M.n Bool s)] [(0,(aR 1 (M.m Bool eB s)))] 1 (λr=>.os 1 0 (M.n Bool r)) (λr=>[(0,(aR 1 (M.m Bool eB s))),(1,(aR 1 (M.m Bool eB r)))]) 2:=by
 exact wC (iZ 1 [] [[(1,true)]]) func410 call410 []
instance s393 {l}{s}:CZ M 393 (Cc l s) [.os 0 0 (M.n ByteArray l),.str s] [(0,(aR 1 (M.m ByteArray eS l)))] 1 (λr=>.os 1 0 (M.n ByteArray r)) (λr=>[(0,none),(1,(aR 1 (M.m ByteArray eS r)))]) 2:=by
 exact wZ (iZ 1 [] [[(1,true)]]) func393 call393
instance aim {s}:CZ M 220 (vN s) [Px M s] [] 0 (λr=>.os 0 0 (M.n jh r)) (λr=>[(0,(aR 64 (AZ M r)))]) 1:=by
 exact wC (iZ 0 [] [[(64,true)]]) func220 call220 []
instance o134 {s}:CZ M 134 (xw s) [yF M s] [] 0 (λr=>.os 0 0 (M.n iP r)) (λr=>[(0,(aR 89 (jW M r)))]) 1:=by
 exact wZ (iZ 0 [] [[(89,true)]]) func134 call134
instance o464 {s}:CZ M 464 (xA s) [KD M s] [] 0 (λr=>.os 0 0 (M.n iG r)) (λr=>[(0,(aR 72 (uV M r)))]) 1:=by
 exact wZ (iZ 0 [] [[(72,true)]]) func464 call464
instance o127 {s}:CZ M 127 (yh s) [Xp M s] [] 0 (λr=>.os 0 0 (M.n jO r)) (λr=>[(0,(aR 14 (qQ M r)))]) 1:=by
 exact wZ (iZ 0 [] [[(14,true)]]) func127 call127
instance o129 {s}:CZ M 129 (yj s) [pR M s] [] 0 (λr=>.os 0 0 (M.n iy r)) (λr=>[(0,(aR 19 (mO M r)))]) 1:=by
 exact wZ (iZ 0 [] [[(19,true)]]) func129 call129
instance o220 {s}:CZ M 220 (pV s) [Px M s] [] 0 (λr=>.os 0 0 (M.n jh r)) (λr=>[(0,(aR 64 (AZ M r)))]) 1:=by
 exact wZ (iZ 0 [] [[(64,true)]]) func220 call220
instance c230 {c}:CC M 230 (Xe c) [.agg [sI c.a0,sI c.a1,sI c.a2]] (λr=>.sb r):=by
 have:=lo 2 [1,3] (λ_ s=>kG [(3,sI s)]);have:=ct 8 [1,3,17] (λ_ s=>kG [(17,.sb s)]);exact wA (ja [4,8]) func230 call230
instance o50 {l}:CZ M 50 (Gx l) [xW M l] [] 0 (λr=>.os 0 0 (M.n iU r)) (λr=>[(0,(aR 3 (uy M r)))]) 1:=by
 exact wZ (iZ 0 [] [[(3,true)]]) func50 call50
instance o131 {s}:CZ M 131 (Ak s) [abm M s] [] 0 (λr=>.os 0 0 (M.n oN r)) (λr=>[(0,(aR 94 (Bq M r)))]) 1:=by
 exact wZ (iZ 0 [] [[(94,true)]]) func131 call131
instance o219 {s}:CZ M 219 (oC s) [YR M s] [] 0 (λr=>.os 0 0 (M.n rW r)) (λr=>[(0,(aR 18 (mSpec M r)))]) 1:=by
 exact wZ (iZ 0 [] [[(18,true)]]) func219 call219
instance c314 {pr}:CC M 314 (Lt pr) [.agg (oU M pr)] (λr=>.sb r):=by
 have:=ct 2 [1,10] (λ_ s=>kG [(10,.sb s)]);have:=ct 6 [1,18] (λ_ s=>kG [(18,.sb s)]);exact wA (ja [2,6]) func314 call314
instance o135 {s}:CZ M 135 (Am s) [VK M s] [] 0 (λr=>.os 0 0 (M.n qc r)) (λr=>[(0,(aR 6 (GG M r)))]) 1:=by
 exact wZ (iZ 0 [] [[(6,true)]]) func135 call135
instance c372 {s}{p}{you}{who}:CC M 372 (Aj s p you who) [.agg (iL M s),sI p,sI you,sI who] (λr=>.sb r):=by
 have:=ct 2 [1,2,3,25] (λ_ s=>kG [(25,.sb s)]);exact wA (ja [2]) func372 call372
instance o400 {s}:CZ M 400 (slices_Clone_string s) [.sl 1 (M.m ByteArray eS s) false] [] 0 (λr=>.os 0 0 (M.n ByteArray r)) (λr=>[(0,(aR 1 (M.m ByteArray eS r)))]) 1:=by
 exact wZ (iZ 0 [] [[(1,true)]]) func400 call400
instance o136 {s}:CZ M 136 (jP s) [RF M s] [] 0 (λr=>.os 0 0 (M.n nC r)) (λr=>[(0,(aR 20 (UN M r)))]) 1:=by
 exact wZ (iZ 0 [] [[(20,true)]]) func136 call136
instance c303 {a}{b}:CC M 303 (Ag a b) [RF M a,RF M b] (λr=>.sb r):=by
 have:=lo 4 [0,1,5] (λ_ s=>kG [(5,sI s)]);exact wA iE func303 call303
instance c186 {s}{v}:CC M 186 (DL s v) [xW M s,.agg (vV M v)] (λr=>sI r):=by
 have:=lo 2 [0,3,7,8] (λ_ s=>kG [(8,sI s)]);exact wA iE func186 call186
instance c335 {ps1}{ps2}:CC M 335 (slices_Equal_int ps1 ps2) [.sl 1 (mI M ps1) false,.sl 1 (mI M ps2) false] (λr=>.sb r):=by
 have:=lo 4 [0,1,12,13] (λ_ s=>kG [(13,sI s)]);exact wA iE func335 call335
instance c112 {l}{name}:CC M 112 (Pj l name) [mD M l,.str name] (λr=>sI r):=by
 have:=lo 2 [0,1,5] (λ_ s=>kG [(5,sI s)]);exact wA iE func112 call112
instance c500 {s}{v}:CC M 500 (slices_Index_string s v) [.sl 1 (M.m ByteArray eS s) false,.str v] (λr=>sI r):=by
 have:=lo 2 [0,1,7,8] (λ_ s=>kG [(8,sI s)]);exact wA iE func500 call500
instance c407 {f}{stage}:CC M 407 (vX f stage) [.agg (jU M f),sI stage] (λr=>.sb r):=by
 have:=ct 2 [1,2,5] (λ_ s=>kG [(5,.sb s)]);exact wA (ja [2]) func407 call407
instance c282 {mask}{i}:CC M 282 (Ll mask i) [sI mask,sI i] (λr=>.sb r):=by
 have:=lo 2 [0,1,5] (λ_ (s:Int×Int)=>kG [(0,sI s.1),(5,sI s.2)]);exact wA iE func282 call282
instance c394 {mask}{i}:CC M 394 (Gl mask i) [sI mask,sI i] (λr=>.sb r):=by
 have:=lo 2 [0,1,5] (λ_ (s:Int×Int)=>kG [(0,sI s.1),(5,sI s.2)]);exact wA iE func394 call394
instance o130 {s}:CZ M 130 (slices_Clone_int s) [.sl 1 (mI M s) false] [] 0 (λr=>.os 0 0 (M.n Int r)) (λr=>[(0,(aR 1 (mI M r)))]) 1:=by
 exact wZ (iZ 0 [] [[(1,true)]]) func130 call130
instance c356 {l}{s}:CC M 356 (Io l s) [.sl 1 (M.m ByteArray eS l) false,.str s] (λr=>sI r):=by
 have:=lo 2 [0,1,5] (λ_ s=>kG [(5,sI s)]);exact wA iE func356 call356
instance c155 {s}{v}:CC M 155 (slices_Index_int s v) [.sl 1 (mI M s) false,sI v] (λr=>sI r):=by
 have:=lo 2 [0,1,7,8] (λ_ s=>kG [(8,sI s)]);exact wA iE func155 call155
instance c107 {s}{id}:CC M 107 (Lh s id) [.agg (iQ M s),sI id] (λr=>sI r):=by
 have:=lo 2 [1,2,5] (λ_ s=>kG [(5,sI s)]);exact wA iE func107 call107
instance c301 {vals}:CC M 301 (NI vals) [.sl 1 (mI M vals) false] (λr=>sI r):=by
 have:=lo 3 [3,6,7,8] (λ_ s=>kG [(8,sI s)]);exact wA iE func301 call301
instance c133 {s}:CC M 133 (yt s) [abn M s] (λr=>abn M r):=by
 exact wA iE func133 call133
instance c406 {needs}{i}{j}:CC M 406 (yD needs i j) [.sl 1 (M.m (List Bool) (eL M 1 eB) needs) false,sI i,sI j] (λr=>.sb r):=by
 exact wA iE func406 call406
end Go.Proofs.YtchmoabpofnbaaaGreat
