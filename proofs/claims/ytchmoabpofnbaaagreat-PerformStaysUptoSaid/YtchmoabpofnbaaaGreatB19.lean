import Derived.Test.YtchmoabpofnbaaaGreatB18
set_option linter.all false
namespace Go.Proofs.YtchmoabpofnbaaaGreat
open Go Go.Pv Proofs.Tryz
set_option maxRecDepth 100000
set_option maxHeartbeats 2000000
variable [GM]
section
variable {M:EncM}(hM:M=mapE)
include hM
theorem ais {w:gI}{i:Int}{stage:Int}{r:Bool}(O:nD w i stage=some r):Pv.FnS Tryz.prog glF 332 [.lv 0 0,sI i,sI stage] [(0,(vR (eGState M w.s++[gV M w.forces,.os 1 0 (M.n GTraits w.gX),.os 2 0 (M.n Bool w.dropped),.os 3 0 (M.n Bool w.done),.os 4 0 (M.n (List Int) w.hits)]))),(1,(aR 17 (ig M w.gX))),(2,(aR 1 (M.m Bool eB w.dropped))),(3,(aR 1 (M.m Bool eB w.done))),(4,(aR 1 (M.m (List Int) (eL M 1 (eI .i64)) w.hits)))] 5 (λC ss nn=>C=.sb r/\ss=[(0,(vR (eGState M w.s++[gV M w.forces,.os 1 0 (M.n GTraits w.gX),.os 2 0 (M.n Bool w.dropped),.os 3 0 (M.n Bool w.done),.os 4 0 (M.n (List Int) w.hits)]))),(1,(aR 17 (ig M w.gX))),(2,(aR 1 (M.m Bool eB w.dropped))),(3,(aR 1 (M.m Bool eB w.done))),(4,(aR 1 (M.m (List Int) (eL M 1 (eI .i64)) w.hits)))]/\nn=5):=by
 refine mr (T:=(tabx 5 [10] [])) (tabxOK 5 [10] []) wf func332 rfl call332 rfl [] ?_;intro S R hS hR;have q:=sf hM hS;unfold nD at O;cbv;refine lH ?_;intro U O;cbv;refine wB (tabxOK 5 [10] []) [] [0,1,2,7,18,19,20] (λJ=>f4 64 [.lv 0 0,sI i,sI stage,.lv 5 0,xX M U.jY,sI (S.len (Oj M U.jY)),sI J] [vR (eGState M w.s++[gV M w.forces,.os 1 0 (S.lenN (ig M w.gX)),.os 2 0 (S.lenN (M.m Bool eB w.dropped)),.os 3 0 (S.lenN (M.m Bool eB w.done)),.os 4 0 (S.lenN (M.m (List Int) (eL M 1 (eI .i64)) w.hits))]),aR 17 (ig M w.gX),aR 1 (M.m Bool eB w.dropped),aR 1 (M.m Bool eB w.done),aR 1 (M.m (List Int) (eL M 1 (eI .i64)) w.hits),vR (jb M U)]) O ?_;intro Ik3 k3 J hk3 O e he;subst he;unfold nP at O;cbv;refine gu ?_ ?_
 ·intro O;cbv;refine lH ?_;intro x5 O;cbv;refine jJ [] [0,1,2,7,18,19,20,39] (λI=>f4 64 [.lv 0 0,sI i,sI stage,.lv 5 0,xX M U.jY,sI (S.len (Oj M U.jY)),sI J,.sb I] [vR (eGState M w.s++[gV M w.forces,.os 1 0 (S.lenN (ig M w.gX)),.os 2 0 (S.lenN (M.m Bool eB w.dropped)),.os 3 0 (S.lenN (M.m Bool eB w.done)),.os 4 0 (S.lenN (M.m (List Int) (eL M 1 (eI .i64)) w.hits))]),aR 17 (ig M w.gX),aR 1 (M.m Bool eB w.dropped),aR 1 (M.m Bool eB w.done),aR 1 (M.m (List Int) (eL M 1 (eI .i64)) w.hits),vR (jb M U)]) O ?_ ?_
  intro Ik7 k7 hk7 O;cbv;refine gu ?_ ?_
  intro O;cbv;refine iH (ad6 hM) ?_;intro y9 O;cbv;refine gu ?_ ?_
  intro O;cbv;refine iH (aj0 hM) ?_;exact jP
  exact iC
  exact iC
  intro I O;cbv;refine iq ?_ ?_
  exact fE
  exact iC
 intro O;cbv;refine gu ?_ ?_
 intro O;cbv;refine rD hS O d_e rfl ?_;intro g _ O;cbv;refine mW hS hM O rfl d_e ?_;intro x12 O;cbv;refine gu ?_ ?_
 intro O;cbv;refine gu ?_ ?_
 exact fE
 intro O;cbv;refine iH (aj0 hM) ?_;intro y13 O;cbv;cases O;exact hR _ _ _ ai ai rfl
 intro O;cbv;cases O;exact hR _ _ _ ai ai rfl
 intro O;cbv;cases O;exact hR _ _ _ ai ai rfl
theorem c415 {t:GTraits}{r:GTraits}(O:Ep t=some r):fV 415 [.agg (eGTraits M t)] (λu=>u=.agg (eGTraits M r)):=by
 refine iw (Io 0 [12,27] 0 [] [(220,2)]) func415 call415 ?_;intro S R hS hR q;unfold Ep at O;cbv;refine CZ hS O (λ_=>aj7 hM) (le_eq rfl) ?_;intro y1 O;cbv;refine CZ hS O (λ_=>o464 hM) (le_eq rfl) ?_;intro y2 O;cbv;refine wB (Io 0 [12,27] 0 [] [(220,2)]) [] [1,2,18,19] (λs3=>f4 77 [.lv 0 0,.lv 3 0,sI (S.FK (M.n GAbility y2)),sI s3.1] [vR [.str t.name,sI t.cost.generic,sI t.cost.x,sI t.cost.color.a0,sI t.cost.color.a1,sI t.cost.color.a2,sI t.cost.color.a3,sI t.cost.color.a4,sI t.iM,sI t.line.Gt,sI t.line.types,.os 1 0 (S.lenN (M.m ByteArray eS y1)),sI t.power,sI t.ik,sI t.keys,.os 2 0 (S.lenN (pX M s3.2)),sI t.control],aR 1 (M.m ByteArray eS y1),aR 72 (pX M s3.2),vR [.str (bs []),sI 0,sI 0,sI 0,sI 0,sI 0,sI 0,sI 0,sI 0,sI 0,sI 0,.sl 0 [] true,sI 0,sI 0,sI 0,.sl 0 [] true,sI 0]]) O ?_;intro Ik4 k4 s3 hk4 O e he;subst he;unfold Bj at O;cbv;refine gu ?_ ?_
 intro O;cbv;refine adZ hS [.cl 2] ?_;cbv;refine adZ hS [.op 4] ?_;cbv;refine rD hS O d_e rfl ?_;intro j6 _ O;cbv;refine mW hS hM O rfl d_e ?_;intro x7 O;cbv;refine zU hS ?_;cbv;refine yO hS rfl ?_;cbv;refine Ac hS O (λ_=>ad9 hM) ?_;intro y8 O;cbv;refine yO hS rfl ?_;cbv;refine Ac hS O (λ_=>c219 hM) ?_;intro y9 O;cbv;refine yO hS rfl ?_;cbv;refine Ij hS O (λ_=>ah1 hM) ai ai rfl rfl ?_;intro y10 O;cbv;refine yO hS rfl ?_;cbv;refine yO hS rfl ?_;cbv;refine yO hS rfl ?_;cbv;refine yO hS rfl ?_;cbv
 refine wB (Io 0 [12,27] 0 [] [(220,2)]) [] [1,2,4,18,19,54,55] (λs11=>f4 77 [.lv 0 0,.lv 4 0,.lp 2 (S.LQ 0 j6) 0,sI (S.FK (M.n GAbility y2)),sI s3.1,sI (S.FK (M.n iT y10)),sI s11.1] [vR [.str t.name,sI t.cost.generic,sI t.cost.x,sI t.cost.color.a0,sI t.cost.color.a1,sI t.cost.color.a2,sI t.cost.color.a3,sI t.cost.color.a4,sI t.iM,sI t.line.Gt,sI t.line.types,.os 1 0 (S.lenN (M.m ByteArray eS y1)),sI t.power,sI t.ik,sI t.keys,.os 2 0 (S.lenN (pX M s3.2)),sI t.control],aR 1 (M.m ByteArray eS y1),some (.nor 72 (pX M s3.2) (S.LQ 0 j6) [sI x7.kind,sI x7.filter.iI,sI x7.filter.who,sI x7.filter.self,sI x7.filter.types,sI x7.filter.iy,sI x7.filter.iM,sI x7.filter.gZ,.str x7.filter.sub,sI x7.filter.keys,sI x7.filter.rE,sI x7.filter.power.kind,sI x7.filter.power.n,sI x7.filter.ik.kind,sI x7.filter.ik.n,sI x7.filter.value.kind,sI x7.filter.value.n,xX M y8,sI x7.price.lV.generic,sI x7.price.lV.x,sI x7.price.lV.color.a0,sI x7.price.lV.color.a1,sI x7.price.lV.color.a2,sI x7.price.lV.color.a3,sI x7.price.lV.color.a4,.sb x7.price.rE,.sb x7.price.uN,sI x7.price.life,.sb x7.slow,sI x7.gG.when,sI x7.gG.who,sI x7.gG.filter.iI,sI x7.gG.filter.who,sI x7.gG.filter.self,sI x7.gG.filter.types,sI x7.gG.filter.iy,sI x7.gG.filter.iM,sI x7.gG.filter.gZ,.str x7.gG.filter.sub,sI x7.gG.filter.keys,sI x7.gG.filter.rE,sI x7.gG.filter.power.kind,sI x7.gG.filter.power.n,sI x7.gG.filter.ik.kind,sI x7.gG.filter.ik.n,sI x7.gG.filter.value.kind,sI x7.gG.filter.value.n,.sb x7.may,Vr M y9,.os 3 0 (S.lenN (KY M s11.2)),sI x7.replace.on,sI x7.replace.who,sI x7.replace.filter.iI,sI x7.replace.filter.who,sI x7.replace.filter.self,sI x7.replace.filter.types,sI x7.replace.filter.iy,sI x7.replace.filter.iM,sI x7.replace.filter.gZ,.str x7.replace.filter.sub,sI x7.replace.filter.keys,sI x7.replace.filter.rE,sI x7.replace.filter.power.kind,sI x7.replace.filter.power.n,sI x7.replace.filter.ik.kind,sI x7.replace.filter.ik.n,sI x7.replace.filter.value.kind,sI x7.replace.filter.value.n,sI x7.replace.doF,sI x7.replace.n,sI x7.replace.iI,sI x7.replace.counter]),aR 64 (KY M s11.2),vR [.str (bs []),sI 0,sI 0,sI 0,sI 0,sI 0,sI 0,sI 0,sI 0,sI 0,sI 0,.sl 0 [] true,sI 0,sI 0,sI 0,.sl 0 [] true,sI 0]]) O ?_
 intro Ik12 k12 s11 hk12 O e he;subst he;unfold Bi at O;cbv;refine gu ?_ ?_
 intro O;cbv;refine zU hS ?_;cbv;refine yO hS rfl ?_;cbv;refine yO hS rfl ?_;cbv;refine rD hS O d_e rfl ?_;intro j14 _ O;cbv;refine mW hS hM O rfl d_e ?_;intro x15 O;cbv;refine Ac hS O (λ_=>ad9 hM) ?_;intro y16 O;cbv;refine rD hS O d_e rfl ?_;intro j17 _ O;cbv;refine mW hS hM O rfl d_e ?_;exact jP
 exact iC
 exact gQ
theorem c401 {a:GAbility}{r:GAbility}(O:sJ a=some r):fV 401 [.agg (eGAbility M a)] (λu=>u=.agg (eGAbility M r)):=by
 refine iw gW func401 call401 ?_;intro S R hS hR q;unfold sJ at O;cbv;refine CZ hS O (λ_=>o136 hM) (le_eq rfl) ?_;intro y1 O;cbv;refine CZ hS O (λ_=>o219 hM) (le_eq rfl) ?_;intro y2 O;cbv;refine CZ hS O (λ_=>o220 hM) (le_eq rfl) ?_;intro y3 O;cbv
 refine d_lp hS gW wf [] [1,2,18,19] (λs4=>f3 36 [(1,.lv 0 0),(2,.lv 4 0),(18,sI (S.FK (M.n iT y3))),(19,sI s4.1)] [vR [sI a.kind,sI a.filter.iI,sI a.filter.who,sI a.filter.self,sI a.filter.types,sI a.filter.iy,sI a.filter.iM,sI a.filter.gZ,.str a.filter.sub,sI a.filter.keys,sI a.filter.rE,sI a.filter.power.kind,sI a.filter.power.n,sI a.filter.ik.kind,sI a.filter.ik.n,sI a.filter.value.kind,sI a.filter.value.n,.os 1 0 (S.lenN (Oj M y1)),sI a.price.lV.generic,sI a.price.lV.x,sI a.price.lV.color.a0,sI a.price.lV.color.a1,sI a.price.lV.color.a2,sI a.price.lV.color.a3,sI a.price.lV.color.a4,.sb a.price.rE,.sb a.price.uN,sI a.price.life,.sb a.slow,sI a.gG.when,sI a.gG.who,sI a.gG.filter.iI,sI a.gG.filter.who,sI a.gG.filter.self,sI a.gG.filter.types,sI a.gG.filter.iy,sI a.gG.filter.iM,sI a.gG.filter.gZ,.str a.gG.filter.sub,sI a.gG.filter.keys,sI a.gG.filter.rE,sI a.gG.filter.power.kind,sI a.gG.filter.power.n,sI a.gG.filter.ik.kind,sI a.gG.filter.ik.n,sI a.gG.filter.value.kind,sI a.gG.filter.value.n,.sb a.may,.os 2 0 (S.lenN (mSpec M y2)),.os 3 0 (S.lenN (KY M s4.2)),sI a.replace.on,sI a.replace.who,sI a.replace.filter.iI,sI a.replace.filter.who,sI a.replace.filter.self,sI a.replace.filter.types,sI a.replace.filter.iy,sI a.replace.filter.iM,sI a.replace.filter.gZ,.str a.replace.filter.sub,sI a.replace.filter.keys,sI a.replace.filter.rE,sI a.replace.filter.power.kind,sI a.replace.filter.power.n,sI a.replace.filter.ik.kind,sI a.replace.filter.ik.n,sI a.replace.filter.value.kind,sI a.replace.filter.value.n,sI a.replace.doF,sI a.replace.n,sI a.replace.iI,sI a.replace.counter],aR 20 (Oj M y1),aR 18 (mSpec M y2),aR 64 (KY M s4.2),vR [sI 0,sI 0,sI 0,sI 0,sI 0,sI 0,sI 0,sI 0,.str (bs []),sI 0,sI 0,sI 0,sI 0,sI 0,sI 0,sI 0,sI 0,.sl 0 [] true,sI 0,sI 0,sI 0,sI 0,sI 0,sI 0,sI 0,.sb false,.sb false,sI 0,.sb false,sI 0,sI 0,sI 0,sI 0,sI 0,sI 0,sI 0,sI 0,sI 0,.str (bs []),sI 0,sI 0,sI 0,sI 0,sI 0,sI 0,sI 0,sI 0,.sb false,.sl 0 [] true,.sl 0 [] true,sI 0,sI 0,sI 0,sI 0,sI 0,sI 0,sI 0,sI 0,sI 0,.str (bs []),sI 0,sI 0,sI 0,sI 0,sI 0,sI 0,sI 0,sI 0,sI 0,sI 0,sI 0,sI 0]]) O ?_
 intro Ik5 k5 s4 hk5 O e he;subst he;unfold rW at O;cbv;refine gu ?_ ?_
 intro O;cbv;refine zU hS ?_;cbv;refine rD hS O d_e rfl ?_;intro j7 _ O;cbv;refine mW hS hM O rfl d_e ?_;intro x8 O;cbv;refine Ac hS O (λ_=>ad9 hM) ?_;intro y9 O;cbv;refine rD hS O d_e rfl ?_;intro j10 _ O;cbv;refine mW hS hM O rfl d_e ?_;exact jP
 exact gQ
end
variable [GM]
section
variable {M:EncM}(hM:M=mapE)
include hM
theorem ait {w:gI}{r:gI}(O:nX w=some r):Pv.FnS Tryz.prog glF 336 [.lv 0 0] [(0,(vR (eGState M w.s++[gV M w.forces,.os 1 0 (M.n GTraits w.gX),.os 2 0 (M.n Bool w.dropped),.os 3 0 (M.n Bool w.done),.os 4 0 (M.n (List Int) w.hits)]))),(1,(aR 17 (ig M w.gX))),(2,(aR 1 (M.m Bool eB w.dropped))),(3,(aR 1 (M.m Bool eB w.done))),(4,(aR 1 (M.m (List Int) (eL M 1 (eI .i64)) w.hits)))] 5 (λU ss nn=>U=.lv 5 0/\ss=[(0,(vR (eGState M w.s++[gV M w.forces,.os 1 0 (M.n GTraits w.gX),.os 2 0 (M.n Bool w.dropped),.os 3 0 (M.n Bool w.done),.os 4 0 (M.n (List Int) w.hits)]))),(1,(aR 17 (ig M w.gX))),(2,(aR 1 (M.m Bool eB w.dropped))),(3,(aR 1 (M.m Bool eB w.done))),(4,(aR 1 (M.m (List Int) (eL M 1 (eI .i64)) w.hits))),(5,(vR (eGState M r.s++[gV M r.forces,.os 6 0 (M.n GTraits r.gX),.os 7 0 (M.n Bool r.dropped),.os 8 0 (M.n Bool r.done),.os 9 0 (M.n (List Int) r.hits)]))),(6,(aR 17 (ig M r.gX))),(7,(aR 1 (M.m Bool eB r.dropped))),(8,(aR 1 (M.m Bool eB r.done))),(9,(aR 1 (M.m (List Int) (eL M 1 (eI .i64)) r.hits)))]/\nn=10):=by
 refine mr (T:=(ahR 5 [1002] 0 [] [(409,2),(410,2),(411,2)])) (Io 5 [1002] 0 [] [(409,2),(410,2),(411,2)]) wf func336 rfl call336 rfl [] ?_;intro S R hS hR;have q:=sf hM hS;unfold nX at O;cbv;refine Ij hS O (λ_=>ahZ hM) ai ai rfl rfl ?_;intro J O;cbv;refine Ij hS O (λ_=>ad7 hM) ai ai rfl rfl ?_;intro I O;cbv;refine Ij hS O (λ_=>ad7 hM) ai ai rfl rfl ?_;intro y3 O;cbv;refine Ij hS O (λ_=>ahY hM) ai ai rfl rfl ?_;intro y4 O;cbv;refine Ih hS aP ?_;cbv;cases O;exact hR _ _ _ d_st d_st rfl
theorem c162 {o:GObject}{cards:Int}{jk:Int}{r:Bool}(O:JE o cards jk=some r):fV 162 [.agg (eGObject M o),sI cards,sI jk] (λu=>u=.sb r):=by
 refine iw (gY [2,6,10]) func162 call162 ?_;intro S R hS hR q;unfold JE at O;cbv;refine jJ [] [1,2,3,52] (λs1=>f4 148 [sI cards,sI jk,.lv 0 0,.sb s1] [vR (eGObject M o)]) O ?_ ?_
 intro Ik2 k2 hk2 O;cbv;refine gu ?_ ?_
 exact iC
 intro O;cbv;refine gu ?_ ?_
 exact iC
 intro O;cbv;refine gu ?_ ?_
 exact iC
 intro O;cbv;refine gu ?_ ?_
 exact iC
 intro O;cbv;refine gu ?_ ?_
 exact iC
 intro O;cbv;refine gu ?_ ?_
 exact iC
 intro O;cbv;refine gu ?_ ?_
 exact iC
 intro O;cbv;refine gu ?_ ?_<;>exact iC
 intro s1 O;cbv;refine iq ?_ ?_
 exact gQ
 intro O;cbv;refine jJ [] [1,2,3,90] (λs4=>f4 148 [sI cards,sI jk,.lv 0 0,.sb s4] [vR (eGObject M o)]) O ?_ ?_
 intro Ik5 k5 hk5 O;cbv;refine gu ?_ ?_
 exact iC
 intro O;cbv;refine gu ?_ ?_
 exact iC
 intro O;cbv;refine gu ?_ ?_
 exact iC
 intro O;cbv;refine gu ?_ ?_
 exact iC
 intro O;cbv;refine gu ?_ ?_
 exact iC
 intro O;cbv;refine gu ?_ ?_
 exact iC
 intro O;cbv;refine gu ?_ ?_<;>exact iC
 intro s4 O;cbv;refine iq ?_ ?_
 exact gQ
 intro O;cbv;refine jJ [] [3,116] (λs7=>f4 148 [.lv 0 0,.sb s7] [vR (eGObject M o)]) O ?_ ?_
 intro Ik8 k8 hk8 O;cbv;refine iH (c230 hM) ?_;intro y10 O;cbv;refine gu ?_ ?_
 exact iC
 intro O;cbv;refine gu ?_ ?_
 exact iC
 intro O;cbv;refine gu ?_ ?_
 exact iC
 intro O;cbv;refine gu ?_ ?_<;>exact iC
 intro s7 O;cbv;refine iq ?_ ?_
 exact gQ
 intro O;cbv;refine zU hS ?_;cbv;refine gu ?_ ?_
 exact gQ
 intro O;cbv;refine Ac hS O (λ_=>c231 hM) ?_;intro y11 O;cbv;replace O:=uZ O;refine gu ?_ ?_
 intro O;cbv;refine Ac hS O (λ_=>c232 hM) ?_;intro y13 O;cbv;replace O:=uZ O;refine gu ?_ ?_
 intro O;cbv;refine gu ?_ ?_
 intro O;cbv;refine gu ?_ ?_
 exact fG
 exact gQ
 exact gQ
 exact gQ
 exact gQ
theorem aiu {s:ByteArray}{r:Bool}(O:MH s=some r):fV 190 [.str s] (λu=>u=.sb r):=by
 refine iw (gY [2,12,16]) func190 call190 ?_;intro S R hS hR q;unfold MH at O;cbv;refine jJ [] [0,25] (λC=>f4 70 [.str s,.sb C] []) O ?_ ?_
 intro Ik2 k2 hk2 O;cbv;refine gu ?_ ?_
 exact iC
 intro O;cbv;refine gu ?_ ?_
 exact iC
 intro O;cbv;refine Gq hS O rfl rfl ?_;intro x4 O;cbv;refine iH (ake hM) ?_;intro y5 O;cbv;refine gu ?_ ?_
 exact iC
 intro O;cbv;refine Gq hS O rfl d_e ?_;exact jP
 intro C O;cbv;refine iq ?_ ?_
 exact gQ
 intro O;cbv;refine wB (gY [2,12,16]) [] [0,3] (λJ=>f4 70 [.str s,sI J] []) O ?_;intro Ik8 k8 J hk8 O e he;subst he;unfold PR at O;cbv;refine gu ?_ ?_
 intro O;cbv;refine jJ [] [0,3,54] (λU=>f4 70 [.str s,sI J,.sb U] []) O ?_ ?_
 intro Ik11 k11 I O;cbv;refine Gq hS O rfl rfl ?_;intro x13 O;cbv;refine iH (ake hM) ?_;intro y14 O;cbv;refine gu ?_ ?_
 intro O;cbv;refine Gq hS O rfl rfl ?_;intro x15 O;cbv;refine gu ?_ ?_
 intro O;cbv;refine Gq hS O rfl rfl ?_;exact jP
 intro O;cbv;refine Gq hS O rfl rfl ?_;intro x17 O;cbv;refine gu ?_ ?_
 intro O;cbv;refine Gq hS O rfl rfl ?_;exact jP
 exact iC
 exact iC
 intro U O;cbv;refine iq ?_ ?_
 exact gQ
 intro O;cbv;refine jJ [] [0,3,69] (λT=>f4 70 [.str s,sI J,.sb T] []) O ?_ ?_
 intro Ik20 k20 g O;cbv;refine gu ?_ ?_
 intro O;cbv;refine Gq hS O rfl rfl ?_;intro x22 O;cbv;refine gu ?_ ?_
 intro O;cbv;refine Gq hS O rfl d_e ?_;exact jP
 exact iC
 exact iC
 intro T O;cbv;refine iq ?_ ?_
 exact gQ
 exact iC
 exact gQ
theorem c488 {s:ByteArray}{r:Bool}(O:Og s=some r):fV 488 [.str s] (λu=>u=.sb r):=by
 refine iw (gY [2,12]) func488 call488 ?_;intro S R hS hR q;unfold Og at O;cbv;refine jJ [] [0,34] (λs1=>f4 61 [.str s,.sb s1] []) O ?_ ?_
 intro Ik2 k2 hk2 O;cbv;refine gu ?_ ?_
 exact iC
 intro O;cbv;refine gu ?_ ?_
 exact iC
 intro O;cbv;refine Gq hS O rfl rfl ?_;intro x4 O;cbv;refine gu ?_ ?_
 exact iC
 intro O;cbv;refine Gq hS O rfl rfl ?_;intro x5 O;cbv;refine gu ?_ ?_
 exact iC
 intro O;cbv;refine Gq hS O rfl d_e ?_;intro x6 O;cbv;refine gu ?_ ?_
 exact iC
 intro O;cbv;refine iH (c501 hM) ?_;exact jP
 intro s1 O;cbv;refine iq ?_ ?_
 exact gQ
 intro O;cbv;refine ajQ hS hM O ⟨5,by kernel_rfl,by kernel_rfl⟩ rfl ?_;intro x8 O;cbv;refine wB (gY [2,12]) [] [36,37,38] (λs9=>f4 61 [.sl 1 (M.m Int (eI .u8) x8) false,sI (S.len (M.m Int (eI .u8) x8)),sI s9] []) O ?_;intro Ik10 k10 s9 hk10 O e he;subst he;unfold MN at O;cbv;refine gu ?_ ?_
 intro O;cbv;refine lH ?_;intro x12 O;cbv;refine jJ [] [36,37,38,59] (λs13=>f4 61 [.sl 1 (M.m Int (eI .u8) x8) false,sI (S.len (M.m Int (eI .u8) x8)),sI s9,.sb s13] []) O ?_ ?_
 intro Ik14 k14 hk14 O;cbv;refine gu ?_ ?_
 intro O;cbv;refine gu ?_ ?_
 exact iC
 intro O;cbv;refine gu ?_ ?_<;>exact iC
 intro O;cbv;refine gu ?_ ?_
 intro O;cbv;refine gu ?_ ?_
 exact iC
 intro O;cbv;refine gu ?_ ?_<;>exact iC
 exact iC
 intro s13 O;cbv;refine iq ?_ ?_
 exact gQ
 exact iC
 exact gQ
theorem c399 {c:oQ}{r:Int}(O:BK c=some r):fV 399 [.agg (qy M c)] (λu=>u=sI r):=by
 refine iw (gY [2,10,12,19]) func399 call399 ?_;intro S R hS hR q;unfold BK at O;cbv;refine jJ [] [1,14] (λs1=>f4 29 [.lv 0 0,.sb s1] [vR (qy M c)]) O ?_ ?_
 intro Ik2 k2 hk2 O;cbv;refine iH (ajX hM) ?_;intro y4 O;cbv;refine gu ?_ ?_
 exact iC
 intro O;cbv;replace O:=uZ O;exact nM
 intro s1 O;cbv;refine iq ?_ ?_
 exact gQ
 intro O;cbv;refine wB (gY [2,10,12,19]) [] [3,16,17] (λs6=>f4 29 [sI s6.1,.agg [sI c.color.a0,sI c.color.a1,sI c.color.a2,sI c.color.a3,sI c.color.a4],sI s6.2] []) O ?_;intro Ik7 k7 s6 hk7 O e he;subst he;unfold En at O;cbv;refine qN hS ?_;cbv;refine gu ?_ ?_
 intro O;cbv;refine jJ [] [3,16,17] (λs9=>f4 29 [sI s9,.agg [sI c.color.a0,sI c.color.a1,sI c.color.a2,sI c.color.a3,sI c.color.a4],sI s6.2] []) O ?_ ?_
 intro Ik10 k10 hk10 O;cbv;refine jJ [] [3,4,5,16,17] (λs12=>f4 29 [sI s6.1,sI s6.2,sI s12,.agg [sI c.color.a0,sI c.color.a1,sI c.color.a2,sI c.color.a3,sI c.color.a4],sI s6.2] []) O ?_ ?_
 intro Ik13 k13 hk13 O;cbv;obtain⟨j15,hj15,ej15,O⟩:=ng O;refine vO hS rfl ⟨j15,hj15,ej15,?_⟩;rcases lt5 hj15 with rfl|rfl|rfl|rfl|rfl
 exact fC
 exact fC
 exact fC
 exact fC
 cbv;exact nM
 intro s12 O;cbv;refine gu ?_ ?_
 intro O;cbv;refine Yj hS O rfl rfl ?_;exact jP
 exact iC
 intro s9 O;cbv;exact nM
 exact gQ
theorem akq {mask:Int}{r:ByteArray}(O:Gx mask=some r):fV 321 [sI mask] (λu=>u=.str r):=by
 refine iw (gY [14,17,25]) func321 call321 ?_;intro S R hS hR q;unfold Gx at O;cbv;refine iH (c386 hM) ?_;intro y1 O;cbv;refine gu ?_ ?_
 exact gQ
 intro O;cbv;refine gu ?_ ?_
 exact gQ
 intro O;cbv;refine wB (gY [14,17,25]) [] [0,3,4] (λT=>f4 29 [sI mask,.str T.1,sI T.2] []) O ?_;intro Ik3 k3 T hk3 O e he;subst he;unfold EU at O;cbv;refine qN hS ?_;cbv;refine gu ?_ ?_
 intro O;cbv;refine jJ [] [0,3,4] (λJ=>f4 29 [sI mask,.str J,sI T.2] []) O ?_ ?_
 intro Ik6 k6 g O;cbv;refine Yj hS O rfl rfl ?_;intro x8 O;cbv;refine CB hS O rfl rfl ?_;intro x9 O;cbv;refine CB hS O rfl rfl ?_;intro x10 O;cbv;refine gu ?_ ?_
 intro O;cbv;refine jJ [] [0,3,4] (λU=>f4 29 [sI mask,.str U,sI T.2] []) O ?_ ?_
 intro I k12 C O;cbv;refine gu ?_ ?_
 intro O;cbv;refine nS hS O rfl rfl ?_;exact jP
 exact iC
 intro U O;cbv;refine iH (ah3 hM) ?_;intro y15 O;cbv;refine nS hS O rfl rfl ?_;exact jP
 exact iC
 intro J O;cbv;exact nM
 exact gQ
end
end Go.Proofs.YtchmoabpofnbaaaGreat
