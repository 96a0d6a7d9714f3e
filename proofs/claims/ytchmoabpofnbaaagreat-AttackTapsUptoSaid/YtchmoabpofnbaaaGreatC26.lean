import Derived.Test.YtchmoabpofnbaaaGreatC12
import Derived.Test.YtchmoabpofnbaaaGreatC13
import Derived.Test.YtchmoabpofnbaaaGreatC14
import Derived.Test.YtchmoabpofnbaaaGreatC15
set_option linter.all false
namespace Go.Proofs.YtchmoabpofnbaaaGreat
open Go Go.Pv
set_option maxRecDepth 100000
set_option maxHeartbeats 20000000
variable [GM]
attribute [local irreducible] bnd br jn oL loopF iq jS gu pO rG divO jF iO jA jm jE jY jU
variable {M:fP}[HM M]
theorem ahM {M:fP}(hM:M=ku){yield:List eP}{c1:GState}{c2:List eQ}{c3:Bool}{r:List eP}(U:oz yield c1 c2 c3=some r):Pv.FnY Tryz.prog glF 366 [.pp (fV M c1),.pp [iE M c2],.pp [.sb c3]] [(0,(vR [.os 1 0 (M.n eP yield)])),(1,(aR 76 (eY M yield)))] 2 (YcW M) (λuu ss nn=>uu=.Eu []/\ss=[(0,(vR [.os 2 0 (M.n eP r)])),(1,none),(2,(aR 76 (eY M r)))]/\nn=3):=by
 haveI:HM M:=⟨hM⟩
 refine agn (T:=(Fg 2 [16,21,23] [])) (gp 2 [16,21,23] []) wf (Nat.succ_pos _) Tryz.func366 rfl Tryz.call366 rfl [.cR 0 0] ?_;intro l rc pv hyc S R hS hR;have q:=sf hM hS;unfold oz at U;cbv;refine Gg (iK.y (gp 2 [16,21,23] [])) [.cR 0 0] [0,2,3,11,12,13] (λt=>f4 56 [.yl l,.pp [iE M c2],.pp [.sb c3],nS M c1.objects,sI (S.len (jW M c1.objects)),sI t.1] [vR [.os 2 0 (S.fE (eY M t.2))],none,aR 76 (eY M t.2)]) U ?_;intro Ik2 k2 t hk2 U e he;subst he;unfold qJ at U;cbv;refine kQ ?_ ?_
 intro U;cbv;refine yE [.cR 0 0] [0,2,3,11,12,13] (λs4=>f4 56 [.yl l,.pp [iE M c2],.pp [.sb c3],nS M c1.objects,sI (S.len (jW M c1.objects)),sI t.1] [vR [.os 2 0 (S.fE (eY M s4))],none,aR 76 (eY M s4)]) U ?_ ?_
 intro Ik5 k5 hk5 U;cbv;refine zT ?_;intro x7 U;cbv;refine kQ ?_ ?_
 exact pW
 intro U;cbv;refine qZ hS U (cI hM) ?_;intro I U;cbv;refine Gg (iK.y (gp 2 [16,21,23] [])) [.cR 0 0] [0,2,3,6,7,11,12,13,25,26,27] (λJ=>f4 56 [.yl l,.pp [iE M c2],.pp [.sb c3],.lv 3 0,.lv 4 0,nS M c1.objects,sI (S.len (jW M c1.objects)),sI t.1,Cb M I.fB,sI (S.len (qX M I.fB)),sI J.2.1] [vR [.os 2 0 (S.fE (eY M J.2.2))],none,aR 76 (eY M J.2.2),vR (ja M J.1),vR (jh M I)]) U ?_;intro Ik10 k10 J hk10 U e he;subst he;unfold ve at U;cbv;refine kQ ?_ ?_
 intro U;cbv;refine yE [.cR 0 0] [0,2,3,6,7,11,12,13,25,26,27] (λC=>f4 56 [.yl l,.pp [iE M c2],.pp [.sb c3],.lv 3 0,.lv 4 0,nS M c1.objects,sI (S.len (jW M c1.objects)),sI t.1,Cb M I.fB,sI (S.len (qX M I.fB)),sI J.2.1] [vR [.os 2 0 (S.fE (eY M C.2))],none,aR 76 (eY M C.2),vR (ja M C.1),vR (jh M I)]) U ?_ ?_
 intro Ik13 k13 hk13 U;cbv;refine zT ?_;intro x15 U;cbv;refine yE [] [0,2,3,6,7,8,9,11,12,13,25,26,27,42] (λg=>f4 56 [.yl l,.pp [iE M c2],.pp [.sb c3],.lv 3 0,.lv 4 0,sI J.2.1,.lv 5 0,nS M c1.objects,sI (S.len (jW M c1.objects)),sI t.1,Cb M I.fB,sI (S.len (qX M I.fB)),sI J.2.1,.sb g] [vR [.os 2 0 (S.fE (eY M J.2.2))],none,aR 76 (eY M J.2.2),vR (ja M J.1),vR (jh M I),vR (jv M x15)]) U ?_ ?_
 intro Ik17 k17 hk17 U;cbv;refine CB hS ?_;cbv;refine kQ ?_ ?_
 exact pW
 intro U;cbv;refine GX hS U (cI hM) ?_;exact sK
 intro g U;cbv;refine rf ?_ ?_
 exact pW
 intro U;cbv;refine alA hS U rfl (λ_=>hyc _ _ _) gX gX rfl rfl rfl rfl rfl rfl rfl ?_;intro y20 U;cbv;refine kQ ?_ ?_
 exact eF
 exact pW
 intro C U;cbv;exact sN
 exact pW
 intro s4 U;cbv;exact sN
 intro U;cbv;cases U;exact hR _ _ _ gX gX rfl
instance c370 {a}:CC M 370 (qI a) [.agg (jv M a)] (λr=>.agg (jv M r)):=by
 have hM:=HM.h (M:=M);refine⟨λr U=>?_⟩;refine CO fG Tryz.func370 Tryz.call370 ?_;intro S R hS hR q;unfold qI at U;cbv;refine jl hS U (cZ hM) (le_eq rfl) ?_;intro y1 U;cbv;refine jl hS U (cZ hM) (le_eq rfl) ?_;intro y2 U;cbv;refine jl hS U (cZ hM) (le_eq rfl) ?_;intro y3 U;cbv;refine UQ hS fG wf [] [1,2,18,19] (λs4=>f3 36 [(1,.lv 0 0),(2,.lv 4 0),(18,sI (S.yf (M.n iy y3))),(19,sI s4.1)] [vR ((([sI a.kind]++(jb M a.filter++([.os 1 0 (S.fE (Tv M y1))]++(AY M a.price++[.sb a.slow]))))++(pg M a.fZ++[.sb a.may,.os 2 0 (S.fE (mSpec M y2)),.os 3 0 (S.fE (xg M s4.2))]))++(qy M a.replace)),aR 20 (Tv M y1),aR 18 (mSpec M y2),aR 64 (xg M s4.2),vR [sI 0,sI 0,sI 0,sI 0,sI 0,sI 0,sI 0,sI 0,.str (bs []),sI 0,sI 0,sI 0,sI 0,sI 0,sI 0,sI 0,sI 0,.sl 0 [] true,sI 0,sI 0,sI 0,sI 0,sI 0,sI 0,sI 0,.sb false,.sb false,sI 0,.sb false,sI 0,sI 0,sI 0,sI 0,sI 0,sI 0,sI 0,sI 0,sI 0,.str (bs []),sI 0,sI 0,sI 0,sI 0,sI 0,sI 0,sI 0,sI 0,.sb false,.sl 0 [] true,.sl 0 [] true,sI 0,sI 0,sI 0,sI 0,sI 0,sI 0,sI 0,sI 0,sI 0,.str (bs []),sI 0,sI 0,sI 0,sI 0,sI 0,sI 0,sI 0,sI 0,sI 0,sI 0,sI 0,sI 0]]) U ?_;intro Ik5 k5 s4 hk5 U e he;subst he;unfold tX at U;cbv;refine kQ ?_ ?_
 intro U;cbv;refine CB hS ?_;cbv;refine kM hS U jJ rfl ?_;intro j7 _ U;cbv;refine jc hS hM U rfl jJ ?_;intro x8 U;cbv;refine GX hS U (cI hM) ?_;intro y9 U;cbv;refine kM hS U jJ rfl ?_;intro j10 _ U;cbv;refine jc hS hM U rfl jJ ?_;exact sK
 exact d_R
instance c488 {s}:CC M 488 (LM s) [.str s] (λr=>.sb r):=by
 have hM:=HM.h (M:=M);refine⟨λr U=>?_⟩;refine CO (fO [2,12]) Tryz.func488 Tryz.call488 ?_;intro S R hS hR q;unfold LM at U;cbv;refine yE [] [0,34] (λs1=>f4 61 [.str s,.sb s1] []) U ?_ ?_
 intro Ik2 k2 hk2 U;cbv;refine kQ ?_ ?_
 exact pW
 intro U;cbv;refine kQ ?_ ?_
 exact pW
 intro U;cbv;refine adO hS U rfl rfl ?_;intro x4 U;cbv;refine kQ ?_ ?_
 exact pW
 intro U;cbv;refine adO hS U rfl rfl ?_;intro x5 U;cbv;refine kQ ?_ ?_
 exact pW
 intro U;cbv;refine adO hS U rfl jJ ?_;intro x6 U;cbv;refine kQ ?_ ?_
 exact pW
 intro U;cbv;refine qZ hS U (cI hM) ?_;exact sK
 intro s1 U;cbv;refine rf ?_ ?_
 exact d_R
 intro U;cbv;refine alk hS hM U ⟨5,by kernel_rfl,by kernel_rfl⟩ rfl ?_;intro x8 U;cbv;refine Gg (fO [2,12]) [] [36,37,38] (λs9=>f4 61 [.sl 1 (M.m Int (eI .u8) x8) false,sI (S.len (M.m Int (eI .u8) x8)),sI s9] []) U ?_;intro Ik10 k10 s9 hk10 U e he;subst he;unfold Hl at U;cbv;refine kQ ?_ ?_
 intro U;cbv;refine zT ?_;intro x12 U;cbv;refine yE [] [36,37,38,59] (λs13=>f4 61 [.sl 1 (M.m Int (eI .u8) x8) false,sI (S.len (M.m Int (eI .u8) x8)),sI s9,.sb s13] []) U ?_ ?_
 intro Ik14 k14 hk14 U;cbv;refine kQ ?_ ?_
 intro U;cbv;refine kQ ?_ ?_
 exact pW
 intro U;cbv;refine kQ ?_ ?_<;>exact pW
 intro U;cbv;refine kQ ?_ ?_
 intro U;cbv;refine kQ ?_ ?_
 exact pW
 intro U;cbv;refine kQ ?_ ?_<;>exact pW
 exact pW
 intro s13 U;cbv;refine rf ?_ ?_
 exact d_R
 exact pW
 exact d_R
instance amr {w}:CZ M 336 (sH w) [.lv 0 0] [(0,(vR (fV M w.s++[fK M w.forces,.os 1 0 (M.n eQ w.traits),.os 2 0 (M.n Bool w.dropped),.os 3 0 (M.n Bool w.done),.os 4 0 (M.n (List Int) w.hits)]))),(1,(aR 17 (fJ M w.traits))),(2,(aR 1 (M.m Bool eB w.dropped))),(3,(aR 1 (M.m Bool eB w.done))),(4,(aR 1 (M.m (List Int) (eL M 1 (eI .i64)) w.hits)))] 5 (λ_=>.lv 5 0) (λr=>[(0,(vR (fV M w.s++[fK M w.forces,.os 1 0 (M.n eQ w.traits),.os 2 0 (M.n Bool w.dropped),.os 3 0 (M.n Bool w.done),.os 4 0 (M.n (List Int) w.hits)]))),(1,(aR 17 (fJ M w.traits))),(2,(aR 1 (M.m Bool eB w.dropped))),(3,(aR 1 (M.m Bool eB w.done))),(4,(aR 1 (M.m (List Int) (eL M 1 (eI .i64)) w.hits))),(5,(vR (fV M r.s++[fK M r.forces,.os 6 0 (M.n eQ r.traits),.os 7 0 (M.n Bool r.dropped),.os 8 0 (M.n Bool r.done),.os 9 0 (M.n (List Int) r.hits)]))),(6,(aR 17 (fJ M r.traits))),(7,(aR 1 (M.m Bool eB r.dropped))),(8,(aR 1 (M.m Bool eB r.done))),(9,(aR 1 (M.m (List Int) (eL M 1 (eI .i64)) r.hits)))]) 10:=by
 exact wC (KZ 5 [1002] 0 [] [(409,2),(410,2),(411,2)]) Tryz.func336 Tryz.call336 []
end Go.Proofs.YtchmoabpofnbaaaGreat
namespace Go.Proofs.YtchmoabpofnbaaaGreat
open Go Go.Pv Proofs.Tryz
set_option maxRecDepth 100000
set_option maxHeartbeats 20000000
variable [GM]
attribute [local irreducible] bnd br jn oL loopF iq jS gu pO rG divO jF iO jA jm jE jY jU
variable {M:fP}[HM M]
instance o15 {answers}:CZ M 15 (Ll answers) [.sl 1 (M.m (List Int) (eL M 1 (eI .i64)) answers) false] [] 0 (λ_=>.lv 0 0) (λr=>[(0,(vR ([.os 1 0 (M.n (List Int) r.answers),sI r.used]++(jD M r.pending++[.sb r.waits,.sb r.bad])))),(1,(aR 1 (M.m (List Int) (eL M 1 (eI .i64)) r.answers)))]) 2:=by
 have:=lo 3 [3,8,9,10] (λ_ (s:Int×(List (List Int)))=>up [(10,sI s.1)] [(0,(vR [.os 1 0 (M.n (List Int) s.2),sI 0,sI 0,sI 0,sI 0,sI 0,sI 0,sI 0,.sl 0 [] true,.sb false,.sb false])),(1,(aR 1 (M.m (List Int) (eL M 1 (eI .i64)) s.2)))]) [.cO 0 0 1];exact wZ (gp 0 [] []) func15 call15
instance c419 {left}:CC M 419 (FY left) [.sl 1 (mI M left) false] (λr=>.sl 1 (mI M r) false):=by
 have:=lo 3 [0,3,4] (λ_ (s:Int×(List Int))=>up [(3,.os 0 0 (M.n Int s.2)),(4,sI s.1)] [(0,(aR 1 (mI M s.2)))]) [.tO 3 1];have:=ct 9 [0,3,4] (λ_ s=>up [(3,.os 0 0 (M.n Int s))] [(0,(aR 1 (mI M s)))]) [.tO 3 1];have:=ct 10 [0,3,4,24] (λ_ s=>je [(24,.sb s)]);exact wA (fO [9,10]) func419 call419
instance c385 {l}{mask}{pby}:CC M 385 (Lt l mask pby) [.sl 1 (M.m ByteArray eS l) false,sI mask,.str pby] (λr=>.str r):=by
 have:=lo 3 [0,1,2,7,8] (λ_ (s:ByteArray×Int)=>je [(7,.str s.1),(8,sI s.2)]);have:=ct 9 [0,1,2,7,8] (λ_ s=>je [(7,.str s)]);have:=ct 17 [0,1,2,7,8] (λ_ s=>je [(7,.str s)]);exact wA (fO [9,17]) func385 call385
instance c162 {o}{cards}{fM}:CC M 162 (Zv o cards fM) [.agg (ja M o),sI cards,sI fM] (λr=>.sb r):=by
 have:=ct 2 [1,2,3,52] (λ_ s=>je [(52,.sb s)]);have:=ct 6 [1,2,3,90] (λ_ s=>je [(90,.sb s)]);have:=ct 10 [3,116] (λ_ s=>je [(116,.sb s)]);exact wA (fO [2,6,10]) func162 call162
instance c113 {l}{c}:CC M 113 (IY l c) [kH M l,.agg (zD M c)] (λr=>.sb r):=by
 have:=lo 2 [0,3,5] (λ_ s=>je [(5,sI s)]);have:=lo 5 [0,3,5,6] (λ_ s=>je [(6,sI s)]);have:=ct 16 [0,3,5,6,44] (λ_ s=>je [(44,.sb s)]);exact wA (fO [16]) func113 call113
instance c190 {s}:CC M 190 (Nr s) [.str s] (λr=>.sb r):=by
 have:=ct 2 [0,25] (λ_ s=>je [(25,.sb s)]);have:=lo 4 [0,3] (λ_ s=>je [(3,sI s)]);have:=ct 12 [0,3,54] (λ_ s=>je [(54,.sb s)]);have:=ct 16 [0,3,69] (λ_ s=>je [(69,.sb s)]);exact wA (fO [2,12,16]) func190 call190
instance amA {s}{w1:ByteArray}:CC M 468 (mD s (λa0=>D8 a0 w1)) [.sl 1 (M.m ByteArray eS s) false,.fn 469 [.pp [.str w1]]] (λr=>sI r):=by
 have:=lo 2 [0,1,7,8] (λ_ s=>je [(8,sI s)]);exact wA fG func468 call468
instance amB {s}{w1:Int}:CC M 175 (gQ s (λa0=>FT a0 w1)) [nS M s,.fn 176 [.pp [sI w1]]] (λr=>sI r):=by
 have:=lo 2 [0,1,7,8] (λ_ s=>je [(8,sI s)]);exact wA fG func175 call175
instance c202 {s}{all}{pe}:CC M 202 (JG s all pe) [.agg (fD M s),iE M all,.agg (jC M pe)] (λr=>sI r):=by
 have:=lo 4 [1,5,15,16,17] (λ_ s=>je [(17,sI s)]);exact wA fG func202 call202
instance c277 {f}{stage}:CC M 277 (OE f stage) [.agg (vO M f),sI stage] (λr=>.sb r):=by
 have:=lo 2 [1,2,5] (λ_ s=>je [(5,sI s)]);have:=ct 8 [1,2,5,30] (λ_ s=>je [(30,.sb s)]);exact wA (fO [8]) func277 call277
instance amC {s}{w1:Int}:CC M 226 (nZ s (λa0=>uA a0 w1)) [.sl 1 (mI M s) false,.fn 250 [.pp [sI w1]]] (λr=>sI r):=by
 have:=lo 2 [0,1,7,8] (λ_ s=>je [(8,sI s)]);exact wA fG func226 call226
instance c234 {s}{iI}{lF}:CC M 234 (QV s iI lF) [.agg (fD M s),sI iI,sI lF] (λr=>.sl 1 (mI M r) false):=by
 have:=ct 12 [1,2,3,26] (λ_ s=>je [(26,.sb s)]);exact wA (fO [12]) func234 call234
instance c455 {i}{j}{c2}{c3}:CC M 455 (rZ i j c2 c3) [sI i,sI j,.pp [.sl 1 (mI M c2) false],.pp [.sl 1 (M.m (List Bool) (eL M 1 eB) c3) false]] (λr=>.sb r):=by
 exact wA fG func455 call455
instance amD {s}{n}:CC M 489 (Ej s n uU) [.str s,sI n,.fn 490 []] (λr=>sI r):=by
 have:=lo 2 [0,2,8,9] (λ_ s=>je [(9,sI s)]);exact wA fG func489 call489
instance amE {s}{n}:CC M 489 (Ej s n wI) [.str s,sI n,.fn 491 []] (λr=>sI r):=by
 have:=lo 2 [0,2,8,9] (λ_ s=>je [(9,sI s)]);exact wA fG func489 call489
instance c180 {f}{stage}:CC M 180 (Jc f stage) [.agg (vO M f),sI stage] (λr=>.sb r):=by
 have:=lo 2 [1,2,5] (λ_ s=>je [(5,sI s)]);exact wA fG func180 call180
instance c271 {w}{i}:CC M 271 (zK w i) [.agg (jr M w),sI i] (λr=>.sb r):=by
 have:=ct 2 [1,2,18] (λ_ s=>je [(18,.sb s)]);exact wA (fO [2]) func271 call271
instance c274 {w}{i}:CC M 274 (LW w i) [.agg (jr M w),sI i] (λr=>sI r):=by
 have:=ct 4 [1,2,5,24] (λ_ s=>je [(24,.sb s)]);exact wA (fO [4]) func274 call274
end Go.Proofs.YtchmoabpofnbaaaGreat
