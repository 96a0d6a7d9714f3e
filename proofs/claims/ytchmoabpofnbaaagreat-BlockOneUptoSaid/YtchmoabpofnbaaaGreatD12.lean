import Derived.Test.YtchmoabpofnbaaaGreatD10
set_option linter.all false
namespace Go.Proofs.YtchmoabpofnbaaaGreat
open Go Go.Pv
set_option maxRecDepth 100000
set_option maxHeartbeats 20000000
variable [GM]
attribute [local irreducible] bnd br jn pI eH iI kD gW qx sG divO jU jc jM jD jR kK kE
variable {M:gm}[HM M]
instance c217 {a}:CC M 217 (Jl a) [.agg (jH M a)] (λr=>.agg (jH M r)):=by
 have:=lo 6 [1,2,3,4] (λS (s:Int×(List iK))=>up [(4,sI s.1)] [(2,(vR ((([sI a.kind]++(jm M a.filter++([.os 3 0 (S.fE (S.app (S.sub ([]) 0 0) (Ur M a.fP)))]++(BP M a.price++[.sb a.slow]))))++(qf M a.gI++[.sb a.may,.os 4 0 (S.fE (S.app (S.sub ([]) 0 0) (mSpec M a.specs))),.os 5 0 (M.n iK s.2)]))++(qR M a.replace)))),(5,(aR 64 (xP M s.2)))]) [.cO 2 49 64];exact wA fG Tryz.func217 Tryz.call217
end Go.Proofs.YtchmoabpofnbaaaGreat
namespace Go.Proofs.YtchmoabpofnbaaaGreat
open Go Go.Pv Proofs.Tryz
set_option maxRecDepth 100000
set_option maxHeartbeats 20000000
variable [GM]
attribute [local irreducible] bnd br jn pI eH iI kD gW qx sG divO jU jc jM jD jR kK kE
variable {M:gm}[HM M]
def YcW (M:gm)(l:Nat)(rc:Loop)(pv:Value):Prop:=∀ (a0:List dV) (a1:dV) (r:Bool×(List dV)),vU a0 a1=some r->YS Tryz.prog glF l rc pv [.agg (jK M a1)] [(0,(vR [.os 1 0 (M.n dV a0)])),(1,(aR 76 (fA M a0)))] 2 (λuu ss nn=>uu=.sb r.1/\ss=[(0,(vR [.os 2 0 (M.n dV r.2)])),(1,none),(2,(aR 76 (fA M r.2)))]/\nn=3)
instance c451 {p}:CC M 451 (Ox p) [.agg [sI p.a0,sI p.a1,sI p.a2,sI p.a3,sI p.a4,sI p.a5]] (λr=>.agg (rD M r)):=by
 have hM:=HM.h (M:=M);refine⟨λr U=>?_⟩;refine EN (fZ [6]) func451 call451 ?_;intro S R O hR q;unfold Ox at U;cbv;refine KJ O (fZ [6]) wf 7 ?_;intro g1 hg1;refine hg1 _ _ ?_;cbv;refine nz O ?_;cbv;refine hg1 _ _ ?_;cbv;refine nz O ?_;cbv;refine hg1 _ _ ?_;cbv;refine nz O ?_;cbv;refine hg1 _ _ ?_;cbv;refine nz O ?_;cbv;refine hg1 _ _ ?_;cbv;refine nz O ?_;cbv;refine hg1 _ _ ?_;cbv;refine nz O ?_;cbv;exact ahA
instance anJ {data}{a}{b}{n}:CZ M 497 (jk data a b n og) [.os 0 0 (M.n dV data),sI a,sI b,sI n,.fn 300 []] [(0,(aR 76 (fA M data)))] 1 (λ_=>.Ed []) (λr=>[(0,(aR 76 (fA M r)))]) 1:=by
 have:=lo 1 [0,1,2,3,10] (λ_ (s:Int×(List dV))=>up [(0,.os 0 0 (M.n dV s.2)),(10,sI s.1)] [(0,(aR 76 (fA M s.2)))]);exact wZ (gJ 1 [] []) func497 call497
instance c183 {l}{n}:CC M 183 (Jo l n) [.sl 1 (mI M l) false,sI n] (λr=>.sl 1 (mI M r) false):=by
 have:=lo 3 [0,1,5,6] (λ_ (s:Int×(List Int))=>up [(5,.os 0 0 (M.n Int s.2)),(6,sI s.1)] [(0,(aR 1 (mI M s.2)))]) [.tO 5 1];have:=ct 9 [0,1,5,6] (λ_ s=>up [(5,.os 0 0 (M.n Int s))] [(0,(aR 1 (mI M s)))]) [.tO 5 1];exact wA (fZ [9]) func183 call183
instance c65 {s}:CC M 65 (Gz s) [.agg (fM M s)] (λr=>.sl 1 (mI M r) false):=by
 have:=lo 3 [3,7,8,9] (λ_ (s:Int×(List Int))=>up [(3,.os 0 0 (M.n Int s.2)),(9,sI s.1)] [(0,(aR 1 (mI M s.2)))]) [.tO 3 1];have:=ct 15 [3,7,8,9] (λ_ s=>up [(3,.os 0 0 (M.n Int s))] [(0,(aR 1 (mI M s)))]) [.tO 3 1];exact wA (fZ [15]) func65 call65
instance o134 {s}:CZ M 134 (yI s) [tC M s] [] 0 (λr=>.os 0 0 (M.n gU r)) (λr=>[(0,(aR 89 (iQ M r)))]) 1:=by
 exact wZ (gJ 0 [] [[(89,true)]]) func134 call134
instance o220 {s}:CZ M 220 (pY s) [JH M s] [] 0 (λr=>.os 0 0 (M.n iK r)) (λr=>[(0,(aR 64 (xP M r)))]) 1:=by
 exact wZ (gJ 0 [] [[(64,true)]]) func220 call220
instance o127 {s}:CZ M 127 (zC s) [PN M s] [] 0 (λr=>.os 0 0 (M.n jl r)) (λr=>[(0,(aR 14 (kN M r)))]) 1:=by
 exact wZ (gJ 0 [] [[(14,true)]]) func127 call127
instance o129 {s}:CZ M 129 (zD s) [oZ M s] [] 0 (λr=>.os 0 0 (M.n fD r)) (λr=>[(0,(aR 19 (jO M r)))]) 1:=by
 exact wZ (gJ 0 [] [[(19,true)]]) func129 call129
instance c230 {c}:CC M 230 (aar c) [.agg [sI c.a0,sI c.a1,sI c.a2]] (λr=>.sb r):=by
 have:=lo 2 [1,3] (λ_ s=>jf [(3,sI s)]);have:=ct 8 [1,3,17] (λ_ s=>jf [(17,.sb s)]);exact wA (fZ [4,8]) func230 call230
instance o50 {l}:CZ M 50 (pM l) [pX M l] [] 0 (λr=>.os 0 0 (M.n fH r)) (λr=>[(0,(aR 3 (ny M r)))]) 1:=by
 exact wZ (gJ 0 [] [[(3,true)]]) func50 call50
instance o219 {s}:CZ M 219 (nN s) [Vk M s] [] 0 (λr=>.os 0 0 (M.n sS r)) (λr=>[(0,(aR 18 (mSpec M r)))]) 1:=by
 exact wZ (gJ 0 [] [[(18,true)]]) func219 call219
instance o131 {s}:CZ M 131 (CG s) [Vj M s] [] 0 (λr=>.os 0 0 (M.n nJ r)) (λr=>[(0,(aR 94 (rM M r)))]) 1:=by
 exact wZ (gJ 0 [] [[(94,true)]]) func131 call131
instance c314 {pr}:CC M 314 (PE pr) [.agg (qR M pr)] (λr=>.sb r):=by
 have:=ct 2 [1,10] (λ_ s=>jf [(10,.sb s)]);have:=ct 6 [1,18] (λ_ s=>jf [(18,.sb s)]);exact wA (fZ [2,6]) func314 call314
instance o135 {s}:CZ M 135 (CJ s) [Nv M s] [] 0 (λr=>.os 0 0 (M.n pF r)) (λr=>[(0,(aR 6 (wY M r)))]) 1:=by
 exact wZ (gJ 0 [] [[(6,true)]]) func135 call135
instance o400 {s}:CZ M 400 (slices_Clone_string s) [.sl 1 (M.m ByteArray eS s) false] [] 0 (λr=>.os 0 0 (M.n ByteArray r)) (λr=>[(0,(aR 1 (M.m ByteArray eS r)))]) 1:=by
 exact wZ (gJ 0 [] [[(1,true)]]) func400 call400
instance c309 {b}:CC M 309 (tZ b) [.agg (En M b)] (λr=>.sb r):=by
 have:=ct 2 [1,20] (λ_ s=>jf [(20,.sb s)]);exact wA (fZ [2]) func309 call309
instance c420 {needs}{i}{j}:CC M 420 (KT needs i j) [.sl 1 (M.m (List Bool) (eL M 1 eB) needs) false,sI i,sI j] (λr=>.sb r):=by
 exact wA fG func420 call420
instance c219 {s}:CC M 219 (nN s) [Vk M s] (λr=>Vk M r):=by
 exact wA fG func219 call219
instance c187 {all}{i}:CC M 187 (wM all i) [kH M all,sI i] (λr=>.agg (jd M r)):=by
 exact wA fG func187 call187
instance c367 {all}{i}:CC M 367 (CV all i) [kH M all,sI i] (λr=>.agg (jd M r)):=by
 exact wA fG func367 call367
instance c136 {s}:CC M 136 (jF s) [OH M s] (λr=>OH M r):=by
 exact wA fG func136 call136
instance c429 {all}{i}:CC M 429 (aaq all i) [kH M all,sI i] (λr=>.agg (jd M r)):=by
 exact wA fG func429 call429
instance c400 {s}:CC M 400 (slices_Clone_string s) [.sl 1 (M.m ByteArray eS s) false] (λr=>.sl 1 (M.m ByteArray eS r) false):=by
 exact wA fG func400 call400
instance c457 {phave}{psome}{pnone}:CC M 457 (lJ phave psome pnone) [sI phave,sI psome,sI pnone] (λr=>.sb r):=by
 exact wA fG func457 call457
instance c166 {l}:CC M 166 (aaz l) [.sl 1 (mI M l) false] (λr=>.sb r):=by
 have:=lo 2 [0,3] (λ_ s=>jf [(3,sI s)]);exact wA fG func166 call166
instance c377 {op}:CC M 377 (SA op) [sI op] (λr=>.str r):=by
 have:=ct 2 [0,9] (λ_ s=>jf [(9,.sb s)]);exact wA (fZ [2]) func377 call377
instance c501 {s}{substr}:CC M 501 (strings_Contains s substr) [.str s,.str substr] (λr=>.sb r):=by
 have hM:=HM.h (M:=M);exact⟨λr U=>ahM U⟩
instance c483 {o}{c1}:CC M 483 (CX o c1) [.agg (jo M o),.pp (nY M c1)] (λr=>.sb r):=by
 exact wA fG func483 call483
instance c484 {o}{c1}:CC M 484 (CY o c1) [.agg (jo M o),.pp (nY M c1)] (λr=>.sb r):=by
 exact wA fG func484 call484
instance c189 {x}{c1}:CC M 189 (Ey x c1) [.agg (uk M x),.pp (uk M c1)] (λr=>.sb r):=by
 exact wA fG func189 call189
instance c423 {control}{you}{w}:CC M 423 (RV control you w) [sI control,sI you,sI w] (λr=>.sb r):=by
 exact wA fG func423 call423
end Go.Proofs.YtchmoabpofnbaaaGreat
