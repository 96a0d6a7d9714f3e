import Derived.Test.YtchmoabpofnbaaaGreatB27
set_option linter.all false
namespace Go.Proofs.YtchmoabpofnbaaaGreat
open Go Go.Pv Proofs.Tryz
set_option maxRecDepth 100000
set_option maxHeartbeats 2000000
variable [GM]
section
variable {M:EncM}(hM:M=mapE)
include hM
theorem aiV {w:gI}{left:List Int}{stage:Int}{r:List (List Bool)}(O:oN w left stage=some r):Pv.FnS Tryz.prog glF 248 [.lv 0 0,.os 5 0 (M.n Int left),sI stage] [(0,(vR (eGState M w.s++[gV M w.forces,.os 1 0 (M.n GTraits w.gX),.os 2 0 (M.n Bool w.dropped),.os 3 0 (M.n Bool w.done),.os 4 0 (M.n (List Int) w.hits)]))),(1,(aR 17 (ig M w.gX))),(2,(aR 1 (M.m Bool eB w.dropped))),(3,(aR 1 (M.m Bool eB w.done))),(4,(aR 1 (M.m (List Int) (eL M 1 (eI .i64)) w.hits))),(5,(aR 1 (mI M left)))] 6 (λuu ss nn=>uu=.sl 1 (M.m (List Bool) (eL M 1 eB) r) false/\ss=[(0,(vR (eGState M w.s++[gV M w.forces,.os 1 0 (M.n GTraits w.gX),.os 2 0 (M.n Bool w.dropped),.os 3 0 (M.n Bool w.done),.os 4 0 (M.n (List Int) w.hits)]))),(1,(aR 17 (ig M w.gX))),(2,(aR 1 (M.m Bool eB w.dropped))),(3,(aR 1 (M.m Bool eB w.done))),(4,(aR 1 (M.m (List Int) (eL M 1 (eI .i64)) w.hits))),(5,(aR 1 (mI M left)))]/\nn=6):=by
 refine mr (T:=(ahR 6 [27,28,42,52,57] 2 [[(0,true)]] [])) (Io 6 [27,28,42,52,57] 2 [[(0,true)]] []) wf func248 rfl call248 rfl [] ?_;intro S R hS hR;have q:=sf hM hS;have q1:=ajN hM hS;have q2:=ajO hM hS;unfold oN at O;cbv;refine N7 hS O aj aj ?_;intro j1 O;cbv;refine abp hS (Io 6 [27,28,42,52,57] 2 [[(0,true)]] []) wf [] [0,1,2,7,27,28] (λg (g4:(Nat->Hdr))=>f3 114 [(0,.lv 0 0),(1,.os 5 0 (S.lenN (mI M left))),(2,sI stage),(7,.os 6 0 (S.lenN (M.h g4 (List Bool) (eO M 1 eB) g.2))),(27,sI (S.FK j1)),(28,sI g.1)] [vR (eGState M w.s++[gV M w.forces,.os 1 0 (S.lenN (ig M w.gX)),.os 2 0 (S.lenN (M.m Bool eB w.dropped)),.os 3 0 (S.lenN (M.m Bool eB w.done)),.os 4 0 (S.lenN (M.m (List Int) (eL M 1 (eI .i64)) w.hits))]),aR 17 (ig M w.gX),aR 1 (M.m Bool eB w.dropped),aR 1 (M.m Bool eB w.done),aR 1 (M.m (List Int) (eL M 1 (eI .i64)) w.hits),aR 1 (mI M left),some (.kH 1 (M.h g4 (List Bool) (eO M 1 eB) g.2))]) ((λ_=>hd0)) O aI ?_;intro Ik3 k3 g g4 hk3 O e he;subst he;unfold pK at O;cbv;replace O:=uZ O;refine d_br hS O aj ?_ ?_
 intro O;cbv;refine N7 hS O aj aj ?_;intro j6 O;cbv;refine d_wk hS (e:=eB) O aU ?_;intro x7 O;cbv;refine rD hS O aj rfl ?_;intro j8 _ O;cbv;refine Ce hS hM O rfl aj ?_;intro x10 O;cbv;refine ajE hS ?_;intro h9;cbv;exact⟨_,((M.up g4 j8 h9)),O,by rw[hk3]<;>(conv=>lhs;cbv)<;>(try simp only[q1])<;>(try simp only[q2,eO,q])<;>(try rfl)<;>(try simp only[eL,q])<;>(try rfl)⟩
 intro O;cbv;refine JA hS (Io 6 [27,28,42,52,57] 2 [[(0,true)]] []) wf [] [0,1,2,7,9,42,43,44] (λJ=>f3 114 [(0,.lv 0 0),(1,.os 5 0 (S.lenN (mI M left))),(2,sI stage),(7,.os 6 0 (S.lenN (M.h g4 (List Bool) (eO M 1 eB) g.2))),(9,.mp 7),(42,.os 5 0 (S.lenN (mI M left))),(43,sI (S.FK (S.lenN (mI M left)))),(44,sI J.1)] [vR (eGState M w.s++[gV M w.forces,.os 1 0 (S.lenN (ig M w.gX)),.os 2 0 (S.lenN (M.m Bool eB w.dropped)),.os 3 0 (S.lenN (M.m Bool eB w.done)),.os 4 0 (S.lenN (M.m (List Int) (eL M 1 (eI .i64)) w.hits))]),aR 17 (ig M w.gX),aR 1 (M.m Bool eB w.dropped),aR 1 (M.m Bool eB w.done),aR 1 (M.m (List Int) (eL M 1 (eI .i64)) w.hits),aR 1 (mI M left),some (.kH 1 (M.h g4 (List Bool) (eO M 1 eB) g.2)),some (.map (M.m (Int×jm) (eKV (mF M)) J.2))]) O aI ?_;intro Ik12 k12 J hk12 O e he;subst he;unfold pJ at O;cbv;refine d_br hS O aj ?_ ?_
 ·intro O;cbv;refine jJ [] [0,1,2,7,9,42,43,44] (λs14=>f4 114 [.lv 0 0,.os 5 0 (S.lenN (mI M left)),sI stage,.os 6 0 (S.lenN (M.h g4 (List Bool) (eO M 1 eB) g.2)),.mp 7,.os 5 0 (S.lenN (mI M left)),sI (S.FK (S.lenN (mI M left))),sI J.1] [vR (eGState M w.s++[gV M w.forces,.os 1 0 (S.lenN (ig M w.gX)),.os 2 0 (S.lenN (M.m Bool eB w.dropped)),.os 3 0 (S.lenN (M.m Bool eB w.done)),.os 4 0 (S.lenN (M.m (List Int) (eL M 1 (eI .i64)) w.hits))]),aR 17 (ig M w.gX),aR 1 (M.m Bool eB w.dropped),aR 1 (M.m Bool eB w.done),aR 1 (M.m (List Int) (eL M 1 (eI .i64)) w.hits),aR 1 (mI M left),some (.kH 1 (M.h g4 (List Bool) (eO M 1 eB) g.2)),some (.map (M.m (Int×jm) (eKV (mF M)) s14))]) O ?_ ?_
  intro Ik15 k15 hk15 O;cbv;refine rD hS O aj rfl ?_;intro j17 _ O;cbv;refine mW hS hM O rfl aj ?_;intro x18 O;cbv;refine jO hS O (λ_=>ais hM) d_st d_st rfl rfl rfl rfl ?_;intro y19 O;cbv;refine iq ?_ ?_
  intro O;cbv;refine jO hS O (λ_=>aiU hM) d_st d_st rfl rfl rfl rfl ?_;intro y20 O;cbv;exact⟨_,O,by rw[hk15]<;>(conv=>lhs;cbv)<;>(try simp only[q1])<;>(try simp only[q2,eO,q])<;>(try rfl)<;>(try simp only[eL,q])<;>(try rfl)⟩
  intro O;cbv;exact⟨_,O,by rw[hk15]<;>(conv=>lhs;cbv)<;>(try simp only[q1])<;>(try simp only[q2,eO,q])<;>(try rfl)<;>(try simp only[eL,q])<;>(try rfl)⟩
  intro s14 O;cbv;exact⟨_,O,by rw[hk12]<;>(conv=>lhs;cbv)<;>(try simp only[q1])<;>(try simp only[q2,eO,q])<;>(try rfl)<;>(try simp only[eL,q])<;>(try rfl)⟩
 intro O;cbv;refine jJ [] [0,1,2,7,9,66] (λs21=>f4 114 [.lv 0 0,.os 5 0 (S.lenN (mI M left)),sI stage,.os 6 0 (S.lenN (M.h g4 (List Bool) (eO M 1 eB) g.2)),.mp 7,.sb s21] [vR (eGState M w.s++[gV M w.forces,.os 1 0 (S.lenN (ig M w.gX)),.os 2 0 (S.lenN (M.m Bool eB w.dropped)),.os 3 0 (S.lenN (M.m Bool eB w.done)),.os 4 0 (S.lenN (M.m (List Int) (eL M 1 (eI .i64)) w.hits))]),aR 17 (ig M w.gX),aR 1 (M.m Bool eB w.dropped),aR 1 (M.m Bool eB w.done),aR 1 (M.m (List Int) (eL M 1 (eI .i64)) w.hits),aR 1 (mI M left),some (.kH 1 (M.h g4 (List Bool) (eO M 1 eB) g.2)),some (.map (M.m (Int×jm) (eKV (mF M)) J.2))]) O ?_ ?_
 intro Ik22 k22 hk22 O;cbv;refine d_br hS O aj ?_ ?_
 intro O;cbv;exact⟨_,O,by rw[hk22]<;>(conv=>lhs;cbv)<;>(try simp only[q1])<;>(try simp only[q2,eO,q])<;>(try rfl)<;>(try simp only[eL,q])<;>(try rfl)⟩
 intro O;cbv;exact⟨_,O,by rw[hk22]<;>(conv=>lhs;cbv)<;>(try simp only[q1])<;>(try simp only[q2,eO,q])<;>(try rfl)<;>(try simp only[eL,q])<;>(try rfl)⟩
 intro s21 O;cbv;refine iq ?_ ?_
 intro O;cbv;cases O;exact hR _ _ _ aU aU rfl
 intro O;cbv;refine JA hS (Io 6 [27,28,42,52,57] 2 [[(0,true)]] []) wf [] [0,1,2,7,9,12,68,69,70] (λC=>f3 114 [(0,.lv 0 0),(1,.os 5 0 (S.lenN (mI M left))),(2,sI stage),(7,.os 6 0 (S.lenN (M.h g4 (List Bool) (eO M 1 eB) C.2))),(9,.mp 7),(12,.fn 334 []),(68,.os 5 0 (S.lenN (mI M left))),(69,sI (S.FK (S.lenN (mI M left)))),(70,sI C.1)] [vR (eGState M w.s++[gV M w.forces,.os 1 0 (S.lenN (ig M w.gX)),.os 2 0 (S.lenN (M.m Bool eB w.dropped)),.os 3 0 (S.lenN (M.m Bool eB w.done)),.os 4 0 (S.lenN (M.m (List Int) (eL M 1 (eI .i64)) w.hits))]),aR 17 (ig M w.gX),aR 1 (M.m Bool eB w.dropped),aR 1 (M.m Bool eB w.done),aR 1 (M.m (List Int) (eL M 1 (eI .i64)) w.hits),aR 1 (mI M left),some (.kH 1 (M.h g4 (List Bool) (eO M 1 eB) C.2)),some (.map (M.m (Int×jm) (eKV (mF M)) J.2))]) O aI ?_;intro Ik25 k25 C hk25 O e he;subst he;unfold pI at O;cbv;refine d_br hS O aj ?_ ?_
 ·intro O;cbv;refine rD hS O aj rfl ?_;intro j27 _ O;cbv;refine mW hS hM O rfl aj ?_;intro x28 O;cbv;refine jO hS O (λ_=>ait hM) d_st d_st rfl rfl rfl rfl ?_;intro y29 O;cbv;refine adW hS [.cF 8 20,.cF 8 21,.cF 8 22,.cF 8 23,.tP 15] ?_;cbv;refine jO hS O (λ_=>aeL hM) d_st d_st rfl rfl rfl rfl ?_;intro U O;cbv
  refine JA hS (Io 6 [27,28,42,52,57] 2 [[(0,true)]] []) wf [] [0,1,2,7,9,12,14,15,68,69,70,80,81,82] (λI=>f3 114 [(0,.lv 0 0),(1,.os 5 0 (S.lenN (mI M left))),(2,sI stage),(7,.os 6 0 (S.lenN (M.h g4 (List Bool) (eO M 1 eB) I.2))),(9,.mp 7),(12,.fn 334 []),(14,sI x28),(15,.pp (eGState M U.s++[gV M U.forces,.sl 17 (S.sub (ig M U.gX) 0 (M.n GTraits U.gX)) false,.sl 1 (S.sub (M.m Bool eB U.dropped) 0 (M.n Bool U.dropped)) false,.sl 1 (S.sub (M.m Bool eB U.done) 0 (M.n Bool U.done)) false,.sl 1 (S.sub (M.m (List Int) (eL M 1 (eI .i64)) U.hits) 0 (M.n (List Int) U.hits)) false])),(68,.os 5 0 (S.lenN (mI M left))),(69,sI (S.FK (S.lenN (mI M left)))),(70,sI C.1),(80,.os 5 0 (S.lenN (mI M left))),(81,sI (S.FK (S.lenN (mI M left)))),(82,sI I.1)] [vR (eGState M w.s++[gV M w.forces,.os 1 0 (S.lenN (ig M w.gX)),.os 2 0 (S.lenN (M.m Bool eB w.dropped)),.os 3 0 (S.lenN (M.m Bool eB w.done)),.os 4 0 (S.lenN (M.m (List Int) (eL M 1 (eI .i64)) w.hits))]),aR 17 (ig M w.gX),aR 1 (M.m Bool eB w.dropped),aR 1 (M.m Bool eB w.done),aR 1 (M.m (List Int) (eL M 1 (eI .i64)) w.hits),aR 1 (mI M left),some (.kH 1 (M.h g4 (List Bool) (eO M 1 eB) I.2)),some (.map (M.m (Int×jm) (eKV (mF M)) J.2))]) O aI ?_;intro Ik32 k32 I hk32 O e he;subst he;unfold pG at O;cbv;refine d_br hS O aj ?_ ?_
  ·intro O;cbv;refine jJ [] [0,1,2,7,9,12,14,15,68,69,70,80,81,82] (λs34=>f4 114 [.lv 0 0,.os 5 0 (S.lenN (mI M left)),sI stage,.os 6 0 (S.lenN (M.h g4 (List Bool) (eO M 1 eB) s34)),.mp 7,.fn 334 [],sI x28,.pp (eGState M U.s++[gV M U.forces,.sl 17 (S.sub (ig M U.gX) 0 (M.n GTraits U.gX)) false,.sl 1 (S.sub (M.m Bool eB U.dropped) 0 (M.n Bool U.dropped)) false,.sl 1 (S.sub (M.m Bool eB U.done) 0 (M.n Bool U.done)) false,.sl 1 (S.sub (M.m (List Int) (eL M 1 (eI .i64)) U.hits) 0 (M.n (List Int) U.hits)) false]),.os 5 0 (S.lenN (mI M left)),sI (S.FK (S.lenN (mI M left))),sI C.1,.os 5 0 (S.lenN (mI M left)),sI (S.FK (S.lenN (mI M left))),sI I.1] [vR (eGState M w.s++[gV M w.forces,.os 1 0 (S.lenN (ig M w.gX)),.os 2 0 (S.lenN (M.m Bool eB w.dropped)),.os 3 0 (S.lenN (M.m Bool eB w.done)),.os 4 0 (S.lenN (M.m (List Int) (eL M 1 (eI .i64)) w.hits))]),aR 17 (ig M w.gX),aR 1 (M.m Bool eB w.dropped),aR 1 (M.m Bool eB w.done),aR 1 (M.m (List Int) (eL M 1 (eI .i64)) w.hits),aR 1 (mI M left),some (.kH 1 (M.h g4 (List Bool) (eO M 1 eB) s34)),some (.map (M.m (Int×jm) (eKV (mF M)) J.2))]) O ?_ ?_
   ·intro Ik35 k35 hk35 O;cbv;refine rD hS O aj rfl ?_;intro j37 _ O;cbv;refine mW hS hM O rfl aj ?_;intro x38 O;cbv;refine ahL hS hM O rfl rfl d_st ?_;intro x39 b40 O;cbv;refine jJ [] [0,1,2,7,9,12,14,15,17,18,68,69,70,80,81,82,97] (λs41=>f4 114 [.lv 0 0,.os 5 0 (S.lenN (mI M left)),sI stage,.os 6 0 (S.lenN (M.h g4 (List Bool) (eO M 1 eB) I.2)),.mp 7,.fn 334 [],sI x28,.pp (eGState M U.s++[gV M U.forces,.sl 17 (S.sub (ig M U.gX) 0 (M.n GTraits U.gX)) false,.sl 1 (S.sub (M.m Bool eB U.dropped) 0 (M.n Bool U.dropped)) false,.sl 1 (S.sub (M.m Bool eB U.done) 0 (M.n Bool U.done)) false,.sl 1 (S.sub (M.m (List Int) (eL M 1 (eI .i64)) U.hits) 0 (M.n (List Int) U.hits)) false]),sI x38,.lv 8 0,.os 5 0 (S.lenN (mI M left)),sI (S.FK (S.lenN (mI M left))),sI C.1,.os 5 0 (S.lenN (mI M left)),sI (S.FK (S.lenN (mI M left))),sI I.1,.sb s41] [vR (eGState M w.s++[gV M w.forces,.os 1 0 (S.lenN (ig M w.gX)),.os 2 0 (S.lenN (M.m Bool eB w.dropped)),.os 3 0 (S.lenN (M.m Bool eB w.done)),.os 4 0 (S.lenN (M.m (List Int) (eL M 1 (eI .i64)) w.hits))]),aR 17 (ig M w.gX),aR 1 (M.m Bool eB w.dropped),aR 1 (M.m Bool eB w.done),aR 1 (M.m (List Int) (eL M 1 (eI .i64)) w.hits),aR 1 (mI M left),some (.kH 1 (M.h g4 (List Bool) (eO M 1 eB) I.2)),some (.map (M.m (Int×jm) (eKV (mF M)) J.2)),vR (mF M x39)]) O ?_ ?_
    intro Ik42 k42 hk42 O;cbv;refine iq ?_ ?_
    intro O;cbv;exact⟨_,O,by rw[hk42]<;>(conv=>lhs;cbv)<;>(try simp only[q1])<;>(try simp only[q2,eO,q])<;>(try rfl)<;>(try simp only[eL,q])<;>(try rfl)⟩
    intro O;cbv;exact⟨_,O,by rw[hk42]<;>(conv=>lhs;cbv)<;>(try simp only[q1])<;>(try simp only[q2,eO,q])<;>(try rfl)<;>(try simp only[eL,q])<;>(try rfl)⟩
    intro s41 O;cbv;refine iq ?_ ?_
    intro O;cbv;refine zU hS ?_;cbv;refine rD hS O aj rfl ?_;intro j44 _ O;cbv;refine Ce hS hM O rfl aj ?_;intro x45 O;cbv;refine Z4 hS O (λ_=>c333 hM) (le_eq aj) ?_;intro y46 O;cbv;refine Ac hS O (λ_=>c334 hM) ?_;intro y47 O;cbv;refine rD hS O aj rfl ?_;intro j48 _ O;cbv;refine ZU hS aP ?_;cbv;refine Ce hS hM O rfl aj ?_;intro x49 O;cbv;refine yO hS rfl ?_;cbv;refine mW hS hM O rfl rfl ?_;intro x50 O;cbv;exact⟨_,O,by rw[hk35]<;>(conv=>lhs;cbv)<;>(try simp only[q1])<;>(try simp only[q2,eO,q])<;>(try rfl)<;>(try simp only[eL,q])<;>(try rfl)⟩
    intro O;cbv;exact⟨_,O,by rw[hk35]<;>(conv=>lhs;cbv)<;>(try simp only[q1])<;>(try simp only[q2,eO,q])<;>(try rfl)<;>(try simp only[eL,q])<;>(try rfl)⟩
   intro s34 O;cbv;exact⟨_,O,by rw[hk32]<;>(conv=>lhs;cbv)<;>(try simp only[q1])<;>(try simp only[q2,eO,q])<;>(try rfl)<;>(try simp only[eL,q])<;>(try rfl)⟩
  intro O;cbv;exact⟨_,O,by rw[hk25]<;>(conv=>lhs;cbv)<;>(try simp only[q1])<;>(try simp only[q2,eO,q])<;>(try rfl)<;>(try simp only[eL,q])<;>(try rfl)⟩
 intro O;cbv;cases O;exact hR _ _ _ aU aU rfl
end
variable [GM]
section
variable {M:EncM}(hM:M=mapE)
include hM
theorem c317 {pe:iT}{specs:Int}{r:Bool}(O:Tz pe specs=some r):fV 317 [.agg (ni M pe),sI specs] (λu=>u=.sb r):=by
 refine iw (gY [12,13,14,23,29,35,41,47]) func317 call317 ?_;intro S R hS hR q;unfold Tz at O;cbv;refine iH (c377 hM) ?_;intro y1 O;cbv;refine gu ?_ ?_
 exact gQ
 intro O;cbv;replace O:=uZ O;refine jJ [] [2,5] (λs3=>f4 138 [.lv 0 0,.sb s3] [vR (ni M pe)]) O ?_ ?_
 intro Ik4 k4 hk4 O;cbv;refine iH (YV hM) ?_;intro y6 O;cbv;refine iq ?_ ?_
 intro O;cbv;refine iH (c379 hM) ?_;exact jP
 exact iC
 intro s3 O;cbv;refine jJ [] [2,5,6] (λs8=>f4 138 [.lv 0 0,.sb s3,.sb s8] [vR (ni M pe)]) O ?_ ?_
 intro Ik9 k9 hk9 O;cbv;refine gu ?_ ?_
 exact iC
 intro O;cbv;refine iH (YV hM) ?_;intro y11 O;cbv;refine iq ?_ ?_
 intro O;cbv;refine gu ?_ ?_<;>exact iC
 exact iC
 intro s8 O;cbv;refine jJ [] [2,5,6,7] (λs12=>f4 138 [.lv 0 0,.sb s3,.sb s8,.sb s12] [vR (ni M pe)]) O ?_ ?_
 intro Ik13 k13 hk13 O;cbv;refine gu ?_ ?_
 exact iC
 intro O;cbv;refine iH (YV hM) ?_;intro y15 O;cbv;refine iq ?_ ?_
 intro O;cbv;refine iH (akb hM) ?_;exact jP
 exact iC
 intro s12 O;cbv;refine jJ [] [2,5,6,7,8] (λs17=>f4 138 [.lv 0 0,.sb s3,.sb s8,.sb s12,.sb s17] [vR (ni M pe)]) O ?_ ?_
 intro Ik18 k18 hk18 O;cbv;refine iH (YV hM) ?_;intro y20 O;cbv;refine iq ?_ ?_
 intro O;cbv;refine iH (aiu hM) ?_;exact jP
 exact iC
 intro s17 O;cbv;replace O:=uZ O;refine jJ [] [2,5,6,7,8,9] (λs23=>f4 138 [.lv 0 0,.sb s3,.sb s8,.sb s12,.sb s17,.sb s23] [vR (ni M pe)]) O ?_ ?_
 intro Ik24 k24 hk24 O;cbv;refine iH (YV hM) ?_;intro y26 O;cbv;refine iq ?_ ?_
 intro O;cbv;refine iH (c381 hM) ?_;exact jP
 exact iC
 intro s23 O;cbv;refine jJ [] [2,5,6,7,8,9,10] (λs28=>f4 138 [.lv 0 0,.sb s3,.sb s8,.sb s12,.sb s17,.sb s23,.sb s28] [vR (ni M pe)]) O ?_ ?_
 intro Ik29 k29 hk29 O;cbv;refine iH (YV hM) ?_;intro y31 O;cbv;refine iq ?_ ?_
 intro O;cbv;refine iH (c382 hM) ?_;exact jP
 exact iC
 intro s28 O;cbv;replace O:=uZ O;refine jJ [] [2,5,6,7,8,9,10,11] (λs34=>f4 138 [.lv 0 0,.sb s3,.sb s8,.sb s12,.sb s17,.sb s23,.sb s28,.sb s34] [vR (ni M pe)]) O ?_ ?_
 intro Ik35 k35 hk35 O;cbv;refine iH (YV hM) ?_;intro y37 O;cbv;refine iq ?_ ?_
 intro O;cbv;refine gu ?_ ?_
 intro O;cbv;refine iH (c383 hM) ?_;exact jP
 exact iC
 exact iC
 intro s34 O;cbv;replace O:=uZ O;refine jJ [] [5,6,7,8,9,10,11,12] (λs40=>f4 138 [.sb s3,.sb s8,.sb s12,.sb s17,.sb s23,.sb s28,.sb s34,.sb s40] []) O ?_ ?_
 intro Ik41 k41 hk41 O;cbv;refine iH (YV hM) ?_;intro y43 O;cbv;refine iq ?_ ?_
 intro O;cbv;refine iH (c384 hM) ?_;exact jP
 exact iC
 intro s40 O;cbv;refine iq ?_ ?_
 intro O;cbv;refine iq ?_ ?_
 intro O;cbv;refine iq ?_ ?_
 intro O;cbv;refine iq ?_ ?_
 intro O;cbv;refine iq ?_ ?_
 intro O;cbv;refine iq ?_ ?_
 intro O;cbv;refine iq ?_ ?_<;>exact gQ
 exact gQ
 exact gQ
 exact gQ
 exact gQ
 exact gQ
 exact gQ
theorem c198 {cards:List GCard}{s:GState}{all:List GTraits}{pe:GEvent}{used:List GOption}{r:List GOption}(O:Dj cards s all pe used=some r):fV 198 [jR M cards,.agg (eGState M s),oH M all,.agg (eGEvent M pe),mQ M used] (λu=>u=mQ M r):=by
 refine iw gW func198 call198 ?_;intro S R hS hR q;unfold Dj at O;cbv;refine CZ hS O (λ_=>o283 hM) (le_eq rfl) ?_;intro y1 O;cbv;refine ag3 hS [(3,false),(0,true)] rfl ?_;cbv;refine jO hS O (λ_=>aiO hM) ai ai rfl rfl rfl rfl ?_;exact ja
end
end Go.Proofs.YtchmoabpofnbaaaGreat
