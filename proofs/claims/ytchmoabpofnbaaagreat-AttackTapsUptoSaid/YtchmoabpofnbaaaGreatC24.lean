import Derived.Test.YtchmoabpofnbaaaGreatC12
import Derived.Test.YtchmoabpofnbaaaGreatC13
import Derived.Test.YtchmoabpofnbaaaGreatC14
import Derived.Test.YtchmoabpofnbaaaGreatC15
set_option linter.all false
namespace Go.Proofs.YtchmoabpofnbaaaGreat
open Go Go.Pv
set_option maxRecDepth 100000
set_option maxHeartbeats 20000000
variable [GM]
attribute [local irreducible] bnd br jn oL loopF iq jS gu pO rG divO jF iO jA jm jE jY jU
variable {M:fP}[HM M]
instance c404 {l}{needs}:CC M 404 (Bl l needs) [.sl 1 (mI M l) false,.sl 1 (M.m (List Bool) (eL M 1 eB) needs) false] (λr=>.fn 455 [.pp [.sl 1 (mI M r.1) false],.pp [.sl 1 (M.m (List Bool) (eL M 1 eB) r.2) false]]):=by
 have hM:=HM.h (M:=M);refine⟨λr U=>?_⟩;refine CO (JC [44,49] 2) Tryz.func404 Tryz.call404 ?_;intro S R hS hR q;have q1:=ajT hM hS;have q2:=ajU hM hS;unfold Bl at U;cbv;refine MB hS U af af ?_;intro j1 U;cbv;refine Zi hS (JC [44,49] 2) wf [] [1,2,5,6,17,18] (λs2 (g4:(Nat->Hdr))=>f3 86 [(1,.sl 1 (M.m (List Bool) (eL M 1 eB) needs) false),(2,.lv 0 0),(5,sI (S.len (mI M l))),(6,.lv 1 0),(17,sI (S.yf j1)),(18,sI s2.1)] [vR [.sl 1 (mI M l) false],vR [.os 2 0 (S.fE (M.h g4 (List Bool) (eO M 1 eB) s2.2))],some (.lq 1 (M.h g4 (List Bool) (eO M 1 eB) s2.2))]) ((λ_=>hd0)) U ay ?_;intro Ik3 k3 s2 g4 hk3 U e he;subst he;unfold zn at U;cbv;replace U:=aeI U;refine OU hS U af ?_ ?_
 intro U;cbv;refine CB hS ?_;cbv;refine MB hS U af af ?_;intro j6 U;cbv;refine JA hS (e:=eB) U aH ?_;intro x7 U;cbv;refine kM hS U af rfl ?_;intro j8 _ U;cbv;refine V7 hS aA ?_;cbv;refine AU hS hM U rfl af ?_;intro x10 U;cbv;refine aio hS ?_;intro h9;cbv;refine GV hS (JC [44,49] 2) wf [] [1,2,5,6,7,17,18,26,27] (λs11=>f3 86 [(1,.sl 1 (M.m (List Bool) (eL M 1 eB) needs) false),(2,.lv 0 0),(5,sI (S.len (mI M l))),(6,.lv 1 0),(7,sI s2.1),(17,sI (S.yf j1)),(18,sI s2.1),(26,sI (S.len (mI M l))),(27,sI s11.1)] [vR [.sl 1 (mI M l) false],vR [.os 2 0 (S.fE (M.h (M.up g4 j8 h9) (List Bool) (eO M 1 eB) s11.2))],some (.lq 1 (M.h (M.up g4 j8 h9) (List Bool) (eO M 1 eB) s11.2))]) U ay ?_;intro Ik12 k12 s11 hk12 U e he;subst he;unfold zh at U;cbv;refine OU hS U af ?_ ?_
 intro U;cbv;refine CB hS ?_;cbv;refine kM hS U af rfl ?_;intro j14 _ U;cbv;refine AU hS hM U rfl af ?_;intro x15 U;cbv;refine zT ?_;intro x16 U;cbv;refine zT ?_;intro x17 U;cbv;refine GX hS U (cI hM) ?_;intro y18 U;cbv;refine kM hS U af rfl ?_;intro j19 _ U;cbv;refine V7 hS aA ?_;cbv;refine AU hS hM U rfl af ?_;intro x20 U;cbv;refine yD hS rfl ?_;cbv;refine jc hS hM U rfl rfl ?_;intro x21 U;cbv;exact⟨_,U,by rw[hk12]<;>(conv=>lhs;cbv)<;>(try simp only[q1])<;>(try simp only[q2,eO,q])<;>(try rfl)<;>(try simp only[eL,q])<;>(try rfl)⟩
 intro U;cbv;exact⟨_,((M.up g4 j8 h9)),U,by rw[hk3]<;>(conv=>lhs;cbv)<;>(try simp only[q1])<;>(try simp only[q2,eO,q])<;>(try rfl)<;>(try simp only[eL,q])<;>(try rfl)⟩
 intro U;cbv;refine GV hS (JC [44,49] 2) wf [] [2,5,6,48,49] (λs22=>f3 86 [(2,.lv 0 0),(5,sI (S.len (mI M l))),(6,.lv 1 0),(48,sI (S.len (mI M l))),(49,sI s22.1)] [vR [.sl 1 (mI M l) false],vR [.os 2 0 (S.fE (M.h g4 (List Bool) (eO M 1 eB) s22.2))],some (.lq 1 (M.h g4 (List Bool) (eO M 1 eB) s22.2))]) U ay ?_;intro Ik23 k23 s22 hk23 U e he;subst he;unfold zl at U;cbv;refine OU hS U af ?_ ?_
 intro U;cbv;refine GV hS (JC [44,49] 2) wf [] [2,5,6,9,48,49,52,53] (λs25=>f3 86 [(2,.lv 0 0),(5,sI (S.len (mI M l))),(6,.lv 1 0),(9,sI s22.1),(48,sI (S.len (mI M l))),(49,sI s22.1),(52,sI (S.len (mI M l))),(53,sI s25.1)] [vR [.sl 1 (mI M l) false],vR [.os 2 0 (S.fE (M.h g4 (List Bool) (eO M 1 eB) s25.2))],some (.lq 1 (M.h g4 (List Bool) (eO M 1 eB) s25.2))]) U ay ?_;intro Ik26 k26 s25 hk26 U e he;subst he;unfold zk at U;cbv;refine OU hS U af ?_ ?_
 intro U;cbv;refine GV hS (JC [44,49] 2) wf [] [2,5,6,9,10,48,49,52,53,56,57] (λs28=>f3 86 [(2,.lv 0 0),(5,sI (S.len (mI M l))),(6,.lv 1 0),(9,sI s22.1),(10,sI s25.1),(48,sI (S.len (mI M l))),(49,sI s22.1),(52,sI (S.len (mI M l))),(53,sI s25.1),(56,sI (S.len (mI M l))),(57,sI s28.1)] [vR [.sl 1 (mI M l) false],vR [.os 2 0 (S.fE (M.h g4 (List Bool) (eO M 1 eB) s28.2))],some (.lq 1 (M.h g4 (List Bool) (eO M 1 eB) s28.2))]) U ay ?_;intro Ik29 k29 s28 hk29 U e he;subst he;unfold zi at U;cbv;refine OU hS U af ?_ ?_
 intro U;cbv;refine yE [] [2,5,6,9,10,48,49,52,53,56,57] (λs31=>f4 86 [.lv 0 0,sI (S.len (mI M l)),.lv 1 0,sI s22.1,sI s25.1,sI (S.len (mI M l)),sI s22.1,sI (S.len (mI M l)),sI s25.1,sI (S.len (mI M l)),sI s28.1] [vR [.sl 1 (mI M l) false],vR [.os 2 0 (S.fE (M.h g4 (List Bool) (eO M 1 eB) s31))],some (.lq 1 (M.h g4 (List Bool) (eO M 1 eB) s31))]) U ?_ ?_
 intro Ik32 k32 hk32 U;cbv;refine yE [] [2,5,6,9,10,11,48,49,52,53,56,57,75] (λs34=>f4 86 [.lv 0 0,sI (S.len (mI M l)),.lv 1 0,sI s22.1,sI s25.1,sI s28.1,sI (S.len (mI M l)),sI s22.1,sI (S.len (mI M l)),sI s25.1,sI (S.len (mI M l)),sI s28.1,.sb s34] [vR [.sl 1 (mI M l) false],vR [.os 2 0 (S.fE (M.h g4 (List Bool) (eO M 1 eB) s28.2))],some (.lq 1 (M.h g4 (List Bool) (eO M 1 eB) s28.2))]) U ?_ ?_
 intro Ik35 k35 hk35 U;cbv;refine kM hS U af rfl ?_;intro j37 _ U;cbv;refine AU hS hM U rfl af ?_;intro x38 U;cbv;refine kM hS U af rfl ?_;intro j39 _ U;cbv;refine AU hS hM U rfl af ?_;intro x40 U;cbv;refine yD hS rfl ?_;cbv;refine jc hS hM U rfl rfl ?_;intro x41 U;cbv;refine rf ?_ ?_
 intro U;cbv;refine kM hS U af rfl ?_;intro j42 _ U;cbv;refine AU hS hM U rfl af ?_;intro x43 U;cbv;refine kM hS U af rfl ?_;intro j44 _ U;cbv;refine AU hS hM U rfl af ?_;intro x45 U;cbv;refine yD hS rfl ?_;cbv;refine jc hS hM U rfl rfl ?_;intro x46 U;cbv;exact⟨_,U,by rw[hk35]<;>(conv=>lhs;cbv)<;>(try simp only[q1])<;>(try simp only[q2,eO,q])<;>(try rfl)<;>(try simp only[eL,q])<;>(try rfl)⟩
 intro U;cbv;exact⟨_,U,by rw[hk35]<;>(conv=>lhs;cbv)<;>(try simp only[q1])<;>(try simp only[q2,eO,q])<;>(try rfl)<;>(try simp only[eL,q])<;>(try rfl)⟩
 intro s34 U;cbv;refine rf ?_ ?_
 intro U;cbv;refine kM hS U af rfl ?_;intro j47 _ U;cbv;refine AU hS hM U rfl af ?_;intro x48 U;cbv;refine kM hS U af rfl ?_;intro j49 _ U;cbv;refine JA hS (e:=eB) U aH ?_;intro x50 U;cbv;refine AU hS hM U rfl af ?_;intro x51 U;cbv;refine yD hS rfl ?_;cbv;refine jc hS hM U rfl rfl ?_;intro x52 U;cbv;exact⟨_,U,by rw[hk32]<;>(conv=>lhs;cbv)<;>(try simp only[q1])<;>(try simp only[q2,eO,q])<;>(try rfl)<;>(try simp only[eL,q])<;>(try rfl)⟩
 intro U;cbv;exact⟨_,U,by rw[hk32]<;>(conv=>lhs;cbv)<;>(try simp only[q1])<;>(try simp only[q2,eO,q])<;>(try rfl)<;>(try simp only[eL,q])<;>(try rfl)⟩
 intro s31 U;cbv;exact⟨_,U,by rw[hk29]<;>(conv=>lhs;cbv)<;>(try simp only[q1])<;>(try simp only[q2,eO,q])<;>(try rfl)<;>(try simp only[eL,q])<;>(try rfl)⟩
 intro U;cbv;exact⟨_,U,by rw[hk26]<;>(conv=>lhs;cbv)<;>(try simp only[q1])<;>(try simp only[q2,eO,q])<;>(try rfl)<;>(try simp only[eL,q])<;>(try rfl)⟩
 intro U;cbv;exact⟨_,U,by rw[hk23]<;>(conv=>lhs;cbv)<;>(try simp only[q1])<;>(try simp only[q2,eO,q])<;>(try rfl)<;>(try simp only[eL,q])<;>(try rfl)⟩
 intro U;cbv;cases U;exact hR _ (Wj af)
instance c415 {t}:CC M 415 (Dn t) [.agg (jh M t)] (λr=>.agg (jh M r)):=by
 have hM:=HM.h (M:=M);refine⟨λr U=>?_⟩;refine CO (KZ 0 [12,27] 0 [] [(220,2)]) Tryz.func415 Tryz.call415 ?_;intro S R hS hR q;unfold Dn at U;cbv;refine jl hS U (cZ hM) (le_eq rfl) ?_;intro y1 U;cbv;refine jl hS U (cZ hM) (le_eq rfl) ?_;intro y2 U;cbv;refine Gg (KZ 0 [12,27] 0 [] [(220,2)]) [] [1,2,18,19] (λs3=>f4 77 [.lv 0 0,.lv 3 0,sI (S.yf (M.n fU y2)),sI s3.1] [vR ([.str t.name]++(qN M t.cost++[sI t.gK,sI t.line.J9,sI t.line.types,.os 1 0 (S.fE (M.m ByteArray eS y1)),sI t.power,sI t.gz,sI t.keys,.os 2 0 (S.fE (qX M s3.2)),sI t.control])),aR 1 (M.m ByteArray eS y1),aR 72 (qX M s3.2),vR [.str (bs []),sI 0,sI 0,sI 0,sI 0,sI 0,sI 0,sI 0,sI 0,sI 0,sI 0,.sl 0 [] true,sI 0,sI 0,sI 0,.sl 0 [] true,sI 0]]) U ?_;intro Ik4 k4 s3 hk4 U e he;subst he;unfold D7 at U;cbv;refine kQ ?_ ?_
 intro U;cbv;refine agj hS [.cl 2] ?_;cbv;refine agj hS [.op 4] ?_;cbv;refine kM hS U jJ rfl ?_;intro j6 _ U;cbv;refine jc hS hM U rfl jJ ?_;intro x7 U;cbv;refine CB hS ?_;cbv;refine yD hS rfl ?_;cbv;refine GX hS U (cI hM) ?_;intro y8 U;cbv;refine yD hS rfl ?_;cbv;refine GX hS U (cI hM) ?_;intro y9 U;cbv;refine yD hS rfl ?_;cbv;refine QL hS U (cZ hM) ah ah rfl rfl ?_;intro y10 U;cbv;refine yD hS rfl ?_;cbv;refine yD hS rfl ?_;cbv;refine yD hS rfl ?_;cbv;refine yD hS rfl ?_;cbv;refine Gg (KZ 0 [12,27] 0 [] [(220,2)]) [] [1,2,4,18,19,54,55] (λs11=>f4 77 [.lv 0 0,.lv 4 0,.lp 2 (S.EX 0 j6) 0,sI (S.yf (M.n fU y2)),sI s3.1,sI (S.yf (M.n iy y10)),sI s11.1] [vR ([.str t.name]++(qN M t.cost++[sI t.gK,sI t.line.J9,sI t.line.types,.os 1 0 (S.fE (M.m ByteArray eS y1)),sI t.power,sI t.gz,sI t.keys,.os 2 0 (S.fE (qX M s3.2)),sI t.control])),aR 1 (M.m ByteArray eS y1),some (.nor 72 (qX M s3.2) (S.EX 0 j6) ((([sI x7.kind]++(jb M x7.filter++([PZ M y8]++(AY M x7.price++[.sb x7.slow]))))++(pg M x7.fZ++[.sb x7.may,UH M y9,.os 3 0 (S.fE (xg M s11.2))]))++(qy M x7.replace))),aR 64 (xg M s11.2),vR [.str (bs []),sI 0,sI 0,sI 0,sI 0,sI 0,sI 0,sI 0,sI 0,sI 0,sI 0,.sl 0 [] true,sI 0,sI 0,sI 0,.sl 0 [] true,sI 0]]) U ?_;intro Ik12 k12 s11 hk12 U e he;subst he;unfold D6 at U;cbv;refine kQ ?_ ?_
 intro U;cbv;refine CB hS ?_;cbv;refine yD hS rfl ?_;cbv;refine yD hS rfl ?_;cbv;refine kM hS U jJ rfl ?_;intro j14 _ U;cbv;refine jc hS hM U rfl jJ ?_;intro x15 U;cbv;refine GX hS U (cI hM) ?_;intro y16 U;cbv;refine kM hS U jJ rfl ?_;intro j17 _ U;cbv;refine jc hS hM U rfl jJ ?_;exact sK
 exact pW
 exact d_R
instance c401 {a}:CC M 401 (uM a) [.agg (jv M a)] (λr=>.agg (jv M r)):=by
 have hM:=HM.h (M:=M);refine⟨λr U=>?_⟩;refine CO fG Tryz.func401 Tryz.call401 ?_;intro S R hS hR q;unfold uM at U;cbv;refine jl hS U (cZ hM) (le_eq rfl) ?_;intro y1 U;cbv;refine jl hS U (cZ hM) (le_eq rfl) ?_;intro y2 U;cbv;refine jl hS U (cZ hM) (le_eq rfl) ?_;intro y3 U;cbv;refine UQ hS fG wf [] [1,2,18,19] (λs4=>f3 36 [(1,.lv 0 0),(2,.lv 4 0),(18,sI (S.yf (M.n iy y3))),(19,sI s4.1)] [vR ((([sI a.kind]++(jb M a.filter++([.os 1 0 (S.fE (Tv M y1))]++(AY M a.price++[.sb a.slow]))))++(pg M a.fZ++[.sb a.may,.os 2 0 (S.fE (mSpec M y2)),.os 3 0 (S.fE (xg M s4.2))]))++(qy M a.replace)),aR 20 (Tv M y1),aR 18 (mSpec M y2),aR 64 (xg M s4.2),vR [sI 0,sI 0,sI 0,sI 0,sI 0,sI 0,sI 0,sI 0,.str (bs []),sI 0,sI 0,sI 0,sI 0,sI 0,sI 0,sI 0,sI 0,.sl 0 [] true,sI 0,sI 0,sI 0,sI 0,sI 0,sI 0,sI 0,.sb false,.sb false,sI 0,.sb false,sI 0,sI 0,sI 0,sI 0,sI 0,sI 0,sI 0,sI 0,sI 0,.str (bs []),sI 0,sI 0,sI 0,sI 0,sI 0,sI 0,sI 0,sI 0,.sb false,.sl 0 [] true,.sl 0 [] true,sI 0,sI 0,sI 0,sI 0,sI 0,sI 0,sI 0,sI 0,sI 0,.str (bs []),sI 0,sI 0,sI 0,sI 0,sI 0,sI 0,sI 0,sI 0,sI 0,sI 0,sI 0,sI 0]]) U ?_;intro Ik5 k5 s4 hk5 U e he;subst he;unfold uz at U;cbv;refine kQ ?_ ?_
 intro U;cbv;refine CB hS ?_;cbv;refine kM hS U jJ rfl ?_;intro j7 _ U;cbv;refine jc hS hM U rfl jJ ?_;intro x8 U;cbv;refine GX hS U (cI hM) ?_;intro y9 U;cbv;refine kM hS U jJ rfl ?_;intro j10 _ U;cbv;refine jc hS hM U rfl jJ ?_;exact sK
 exact d_R
instance c399 {c}:CC M 399 (xE c) [.agg (qN M c)] (λr=>sI r):=by
 have hM:=HM.h (M:=M);refine⟨λr U=>?_⟩;refine CO (fO [2,10,12,19]) Tryz.func399 Tryz.call399 ?_;intro S R hS hR q;unfold xE at U;cbv;refine yE [] [1,14] (λs1=>f4 29 [.lv 0 0,.sb s1] [vR (qN M c)]) U ?_ ?_
 intro Ik2 k2 hk2 U;cbv;refine qZ hS U (cI hM) ?_;intro y4 U;cbv;refine kQ ?_ ?_
 exact pW
 intro U;cbv;replace U:=aeI U;exact sN
 intro s1 U;cbv;refine rf ?_ ?_
 exact d_R
 intro U;cbv;refine Gg (fO [2,10,12,19]) [] [3,16,17] (λs6=>f4 29 [sI s6.1,.agg [sI c.color.a0,sI c.color.a1,sI c.color.a2,sI c.color.a3,sI c.color.a4],sI s6.2] []) U ?_;intro Ik7 k7 s6 hk7 U e he;subst he;unfold xC at U;cbv;refine mO hS ?_;cbv;refine kQ ?_ ?_
 intro U;cbv;refine yE [] [3,16,17] (λs9=>f4 29 [sI s9,.agg [sI c.color.a0,sI c.color.a1,sI c.color.a2,sI c.color.a3,sI c.color.a4],sI s6.2] []) U ?_ ?_
 intro Ik10 k10 hk10 U;cbv;refine yE [] [3,4,5,16,17] (λs12=>f4 29 [sI s6.1,sI s6.2,sI s12,.agg [sI c.color.a0,sI c.color.a1,sI c.color.a2,sI c.color.a3,sI c.color.a4],sI s6.2] []) U ?_ ?_
 intro Ik13 k13 hk13 U;cbv;obtain⟨j15,hj15,ej15,U⟩:=Ze U;refine agh hS rfl ⟨j15,hj15,ej15,?_⟩;rcases lt5 hj15 with rfl|rfl|rfl|rfl|rfl
 cbv;exact sN
 cbv;exact sN
 cbv;exact sN
 cbv;exact sN
 cbv;exact sN
 intro s12 U;cbv;refine kQ ?_ ?_
 intro U;cbv;refine Ya hS U rfl rfl ?_;exact sK
 exact pW
 intro s9 U;cbv;exact sN
 exact d_R
instance ams {w}{i}{stage}:CZ M 332 (layer_world_depends_z0 w i stage) [.lv 0 0,sI i,sI stage] [(0,(vR (fV M w.s++[fK M w.forces,.os 1 0 (M.n eQ w.traits),.os 2 0 (M.n Bool w.dropped),.os 3 0 (M.n Bool w.done),.os 4 0 (M.n (List Int) w.hits)]))),(1,(aR 17 (fJ M w.traits))),(2,(aR 1 (M.m Bool eB w.dropped))),(3,(aR 1 (M.m Bool eB w.done))),(4,(aR 1 (M.m (List Int) (eL M 1 (eI .i64)) w.hits)))] 5 (λr=>.sb r) (λ_=>[(0,(vR (fV M w.s++[fK M w.forces,.os 1 0 (M.n eQ w.traits),.os 2 0 (M.n Bool w.dropped),.os 3 0 (M.n Bool w.done),.os 4 0 (M.n (List Int) w.hits)]))),(1,(aR 17 (fJ M w.traits))),(2,(aR 1 (M.m Bool eB w.dropped))),(3,(aR 1 (M.m Bool eB w.done))),(4,(aR 1 (M.m (List Int) (eL M 1 (eI .i64)) w.hits)))]) 5:=by
 have:=lo 3 [0,1,2,7,18,19,20] (λ_ s=>je [(20,sI s)]);have:=ct 10 [0,1,2,7,18,19,20,39] (λ_ s=>je [(39,.sb s)]);exact wC (gp 5 [10] []) Tryz.func332 Tryz.call332 []
end Go.Proofs.YtchmoabpofnbaaaGreat
namespace Go.Proofs.YtchmoabpofnbaaaGreat
open Go Go.Pv Proofs.Tryz
set_option maxRecDepth 100000
set_option maxHeartbeats 20000000
variable [GM]
attribute [local irreducible] bnd br jn oL loopF iq jS gu pO rG divO jF iO jA jm jE jY jU
variable {M:fP}[HM M]
instance c321 {mask}:CC M 321 (Nu mask) [sI mask] (λr=>.str r):=by
 have:=lo 7 [0,3,4] (λ_ (s:ByteArray×Int)=>je [(3,.str s.1),(4,sI s.2)]);have:=ct 17 [0,3,4] (λ_ s=>je [(3,.str s)]);have:=ct 25 [0,3,4] (λ_ s=>je [(3,.str s)]);exact wA (fO [14,17,25]) func321 call321
instance c297 {s}{all}{id}:CC M 297 (Hq s all id) [.agg (fD M s),iE M all,sI id] (λr=>.sb r):=by
 have:=lo 2 [1,2,10,11,12] (λ_ s=>je [(12,sI s)]);have:=ct 8 [1,2,7,10,11,12,26] (λ_ s=>je [(26,.sb s)]);exact wA (fO [8]) func297 call297
instance amu {s}{w1:jP}:CC M 175 (gQ s (λa0=>BI a0 w1)) [nS M s,.fn 483 [.pp (nH M w1)]] (λr=>sI r):=by
 have:=lo 2 [0,1,7,8] (λ_ s=>je [(8,sI s)]);exact wA fG func175 call175
instance amv {s}{w1:jP}:CC M 175 (gQ s (λa0=>BJ a0 w1)) [nS M s,.fn 484 [.pp (nH M w1)]] (λr=>sI r):=by
 have:=lo 2 [0,1,7,8] (λ_ s=>je [(8,sI s)]);exact wA fG func175 call175
instance c101 {s}{o}{t}:CC M 101 (LQ s o t) [.agg (fD M s),.agg (ja M o),.agg (jh M t)] (λr=>.sb r):=by
 have:=ct 2 [4,5,27] (λ_ s=>je [(27,.sb s)]);have:=ct 6 [5,35] (λ_ s=>je [(35,.sb s)]);exact wA (fO [2,6]) func101 call101
instance amw {s}{w1:eX}:CC M 185 (mg s (λa0=>BN a0 w1)) [jI M s,.fn 103 [.pp (rU M w1)]] (λr=>sI r):=by
 have:=lo 2 [0,1,7,8] (λ_ s=>je [(8,sI s)]);exact wA fG func185 call185
instance amx {s}{w1:Int}:CC M 175 (gQ s (λa0=>He a0 w1)) [nS M s,.fn 431 [.pp [sI w1]]] (λr=>sI r):=by
 have:=lo 2 [0,1,7,8] (λ_ s=>je [(8,sI s)]);exact wA fG func175 call175
instance amy {s}{w1:Int}:CC M 185 (mg s (λa0=>BO a0 w1)) [jI M s,.fn 106 [.pp [sI w1]]] (λr=>sI r):=by
 have:=lo 2 [0,1,7,8] (λ_ s=>je [(8,sI s)]);exact wA fG func185 call185
instance amz {s}{w1:Int}:CC M 175 (gQ s (λa0=>FH a0 w1)) [nS M s,.fn 221 [.pp [sI w1]]] (λr=>sI r):=by
 have:=lo 2 [0,1,7,8] (λ_ s=>je [(8,sI s)]);exact wA fG func175 call175
end Go.Proofs.YtchmoabpofnbaaaGreat
