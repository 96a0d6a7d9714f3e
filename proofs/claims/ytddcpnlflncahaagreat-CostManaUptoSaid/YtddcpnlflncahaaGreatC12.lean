import Derived.Test.YtddcpnlflncahaaGreatC08
import Derived.Test.YtddcpnlflncahaaGreatC09
import Derived.Test.YtddcpnlflncahaaGreatC10
set_option linter.all false
namespace Go.Proofs.YtddcpnlflncahaaGreat
open Go Go.Pv
set_option maxRecDepth 100000
set_option maxHeartbeats 2000000
theorem c45 {M:EncM} (hM:M=mapE) {p:Arr6 Int} {c:GCost} {x:Int} {r:(Arr6 Int) × Int} (hf:r08_Pay p c x=some r):Pv.Fn Tryz.prog glF 45 [.agg [.si .i64 p.a0,.si .i64 p.a1,.si .i64 p.a2,.si .i64 p.a3,.si .i64 p.a4,.si .i64 p.a5],.agg (eGCost M c),.si .i64 x] (fun u=>u=.tup [.agg [.si .i64 r.1.a0,.si .i64 r.1.a1,.si .i64 r.1.a2,.si .i64 r.1.a3,.si .i64 r.1.a4,.si .i64 r.1.a5],.si .i64 r.2]):=by
 refine fn_dec (T:=(tabc [2,12,32])) (tabcOK [2,12,32]) rfl wf Tryz.func45 rfl Tryz.call45 rfl ?_
 intro S R hS hR
 have q:=sf hM hS
 unfold r08_Pay at hf
 cbv
 refine d_cut hS [] [2,3,4,6,29] (fun s1=>⟨tpsL 0 97 [(2,.si .i64 x),(3,.lv 0 0),(4,.lv 1 0),(6,.lv 2 0),(29,.sb s1)],[(0,some (.var false [.si .i64 p.a0,.si .i64 p.a1,.si .i64 p.a2,.si .i64 p.a3,.si .i64 p.a4,.si .i64 p.a5])),(1,some (.var false (eGCost M c))),(2,some (.var false [.si .i64 0,.si .i64 0,.si .i64 0,.si .i64 0,.si .i64 0,.si .i64 0]))],3⟩) hf ?_ ?_
 ·intro Ik2 k2 hk2 hf; cbv
  refine d_p hS hf (fun _=>c102 hM) ?_
  intro y4 hf; cbv
  refine d_b hS hf ?_ ?_
  ·intro hf; cbv
   exact d_x hk2 hf
  intro hf; cbv
  refine d_p hS hf (fun _=>c103 hM) ?_
  intro y5 hf; cbv
  refine d_b hS hf ?_ ?_
  ·intro hf; cbv
   exact d_x hk2 hf
  intro hf; cbv
  refine d_b hS hf ?_ ?_
  ·intro hf; cbv
   exact d_x hk2 hf
  intro hf; cbv
  exact d_x hk2 hf
 intro s1 hf; cbv
 refine d_br hS hf rfl ?_ ?_
 ·intro hf; cbv
  cases hf; exact hR _ (lp_eq rfl)
 intro hf; cbv
 refine l_roundsF hS (tabcOK [2,12,32]) wf 7 ?_; intro g6 hg6
 refine hg6 _ _ ?_; cbv
 refine l_seq hS ?_; cbv
 refine d_o hS ?_; cbv
 refine d_b hS hf ?_ ?_
 ·intro hf; cbv
  cases hf; exact hR _ (lp_eq rfl)
 intro hf; cbv
 refine d_o hS ?_; cbv
 refine hg6 _ _ ?_; cbv
 refine l_seq hS ?_; cbv
 refine d_o hS ?_; cbv
 refine d_b hS hf ?_ ?_
 ·intro hf; cbv
  cases hf; exact hR _ (lp_eq rfl)
 intro hf; cbv
 refine d_o hS ?_; cbv
 replace hf:=d_lt hf
 obtain ⟨v7,gv7,ev7⟩:∃ z:Int,(S.bin .add .i64 (S.bin .add .i64 p.a0 (S.bin .sub .i64 p.a1 c.color.a0)) (S.bin .sub .i64 p.a2 c.color.a1))=z∧(addI (addI p.a0 (subI p.a1 c.color.a0)) (subI p.a2 c.color.a1))=z:=⟨_,rfl,d_e⟩
 (try rw [gv7]); (try (conv at gv7=>(lhs; cbv))); (try rw [gv7]); (try rw [ev7] at hf); clear gv7 ev7
 refine hg6 _ _ ?_; cbv
 refine l_seq hS ?_; cbv
 refine d_o hS ?_; cbv
 refine d_b hS hf ?_ ?_
 ·intro hf; cbv
  cases hf; exact hR _ (lp_eq rfl)
 intro hf; cbv
 refine d_o hS ?_; cbv
 refine hg6 _ _ ?_; cbv
 refine l_seq hS ?_; cbv
 refine d_o hS ?_; cbv
 refine d_b hS hf ?_ ?_
 ·intro hf; cbv
  cases hf; exact hR _ (lp_eq rfl)
 intro hf; cbv
 refine d_o hS ?_; cbv
 replace hf:=d_lt hf
 obtain ⟨v8,gv8,ev8⟩:∃ z:Int,(S.bin .add .i64 (S.bin .add .i64 v7 (S.bin .sub .i64 p.a3 c.color.a2)) (S.bin .sub .i64 p.a4 c.color.a3))=z∧(addI (addI v7 (subI p.a3 c.color.a2)) (subI p.a4 c.color.a3))=z:=⟨_,rfl,d_e⟩
 (try rw [gv8]); (try (conv at gv8=>(lhs; cbv))); (try rw [gv8]); (try rw [ev8] at hf); clear gv8 ev8
 refine hg6 _ _ ?_; cbv
 refine l_seq hS ?_; cbv
 refine d_o hS ?_; cbv
 refine d_b hS hf ?_ ?_
 ·intro hf; cbv
  cases hf; exact hR _ (lp_eq rfl)
 intro hf; cbv
 refine d_o hS ?_; cbv
 refine hg6 _ _ ?_; cbv
 refine l_seq hS ?_; cbv
 replace hf:=d_lt hf
 refine d_b hS hf ?_ ?_
 ·intro hf; cbv
  cases hf; exact hR _ (lp_eq rfl)
 intro hf; cbv
 refine l_roundsF hS (tabcOK [2,12,32]) wf 8 ?_; intro g10 hg10
 refine hg10 _ _ ?_; cbv
 refine l_seq hS ?_; cbv
 replace hf:=d_lt hf
 obtain ⟨v11,gv11,ev11⟩:∃ z:Int,(S.bin .sub .i64 p.a0 (S.smin (S.bin .add .i64 c.generic (S.bin .mul .i64 c.x x)) p.a0))=z∧(subI p.a0 (if p.a0<(addI c.generic (mulI c.x x)) then p.a0 else (addI c.generic (mulI c.x x))))=z:=⟨_,rfl,d_e⟩
 (try rw [gv11]); (try (conv at gv11=>(lhs; cbv))); (try rw [gv11]); (try rw [ev11] at hf); clear gv11 ev11
 replace hf:=d_lt hf
 obtain ⟨v12,gv12,ev12⟩:∃ z:Int,(S.bin .sub .i64 (S.bin .add .i64 c.generic (S.bin .mul .i64 c.x x)) (S.smin (S.bin .add .i64 c.generic (S.bin .mul .i64 c.x x)) p.a0))=z∧(subI (addI c.generic (mulI c.x x)) (if p.a0<(addI c.generic (mulI c.x x)) then p.a0 else (addI c.generic (mulI c.x x))))=z:=⟨_,rfl,d_e⟩
 (try rw [gv12]); (try (conv at gv12=>(lhs; cbv))); (try rw [gv12]); (try rw [ev12] at hf); clear gv12 ev12
 refine hg10 _ _ ?_; cbv
 refine l_seq hS ?_; cbv
 replace hf:=d_lt hf
 obtain ⟨v13,gv13,ev13⟩:∃ z:Int,(S.bin .sub .i64 (S.bin .sub .i64 p.a1 c.color.a0) (S.smin v12 (S.bin .sub .i64 p.a1 c.color.a0)))=z∧(subI (subI p.a1 c.color.a0) (if (subI p.a1 c.color.a0)<v12 then (subI p.a1 c.color.a0) else v12))=z:=⟨_,rfl,d_e⟩
 (try rw [gv13]); (try (conv at gv13=>(lhs; cbv))); (try rw [gv13]); (try rw [ev13] at hf); clear gv13 ev13
 replace hf:=d_lt hf
 obtain ⟨v14,gv14,ev14⟩:∃ z:Int,(S.bin .sub .i64 v12 (S.smin v12 (S.bin .sub .i64 p.a1 c.color.a0)))=z∧(subI v12 (if (subI p.a1 c.color.a0)<v12 then (subI p.a1 c.color.a0) else v12))=z:=⟨_,rfl,d_e⟩
 (try rw [gv14]); (try (conv at gv14=>(lhs; cbv))); (try rw [gv14]); (try rw [ev14] at hf); clear gv14 ev14
 refine hg10 _ _ ?_; cbv
 refine l_seq hS ?_; cbv
 replace hf:=d_lt hf
 obtain ⟨v15,gv15,ev15⟩:∃ z:Int,(S.bin .sub .i64 (S.bin .sub .i64 p.a2 c.color.a1) (S.smin v14 (S.bin .sub .i64 p.a2 c.color.a1)))=z∧(subI (subI p.a2 c.color.a1) (if (subI p.a2 c.color.a1)<v14 then (subI p.a2 c.color.a1) else v14))=z:=⟨_,rfl,d_e⟩
 (try rw [gv15]); (try (conv at gv15=>(lhs; cbv))); (try rw [gv15]); (try rw [ev15] at hf); clear gv15 ev15
 replace hf:=d_lt hf
 obtain ⟨v16,gv16,ev16⟩:∃ z:Int,(S.bin .sub .i64 v14 (S.smin v14 (S.bin .sub .i64 p.a2 c.color.a1)))=z∧(subI v14 (if (subI p.a2 c.color.a1)<v14 then (subI p.a2 c.color.a1) else v14))=z:=⟨_,rfl,d_e⟩
 (try rw [gv16]); (try (conv at gv16=>(lhs; cbv))); (try rw [gv16]); (try rw [ev16] at hf); clear gv16 ev16
 refine hg10 _ _ ?_; cbv
 refine l_seq hS ?_; cbv
 replace hf:=d_lt hf
 obtain ⟨v17,gv17,ev17⟩:∃ z:Int,(S.bin .sub .i64 (S.bin .sub .i64 p.a3 c.color.a2) (S.smin v16 (S.bin .sub .i64 p.a3 c.color.a2)))=z∧(subI (subI p.a3 c.color.a2) (if (subI p.a3 c.color.a2)<v16 then (subI p.a3 c.color.a2) else v16))=z:=⟨_,rfl,d_e⟩
 (try rw [gv17]); (try (conv at gv17=>(lhs; cbv))); (try rw [gv17]); (try rw [ev17] at hf); clear gv17 ev17
 replace hf:=d_lt hf
 obtain ⟨v18,gv18,ev18⟩:∃ z:Int,(S.bin .sub .i64 v16 (S.smin v16 (S.bin .sub .i64 p.a3 c.color.a2)))=z∧(subI v16 (if (subI p.a3 c.color.a2)<v16 then (subI p.a3 c.color.a2) else v16))=z:=⟨_,rfl,d_e⟩
 (try rw [gv18]); (try (conv at gv18=>(lhs; cbv))); (try rw [gv18]); (try rw [ev18] at hf); clear gv18 ev18
 refine hg10 _ _ ?_; cbv
 refine l_seq hS ?_; cbv
 replace hf:=d_lt hf
 obtain ⟨v19,gv19,ev19⟩:∃ z:Int,(S.bin .sub .i64 (S.bin .sub .i64 p.a4 c.color.a3) (S.smin v18 (S.bin .sub .i64 p.a4 c.color.a3)))=z∧(subI (subI p.a4 c.color.a3) (if (subI p.a4 c.color.a3)<v18 then (subI p.a4 c.color.a3) else v18))=z:=⟨_,rfl,d_e⟩
 (try rw [gv19]); (try (conv at gv19=>(lhs; cbv))); (try rw [gv19]); (try rw [ev19] at hf); clear gv19 ev19
 replace hf:=d_lt hf
 obtain ⟨v20,gv20,ev20⟩:∃ z:Int,(S.bin .sub .i64 v18 (S.smin v18 (S.bin .sub .i64 p.a4 c.color.a3)))=z∧(subI v18 (if (subI p.a4 c.color.a3)<v18 then (subI p.a4 c.color.a3) else v18))=z:=⟨_,rfl,d_e⟩
 (try rw [gv20]); (try (conv at gv20=>(lhs; cbv))); (try rw [gv20]); (try rw [ev20] at hf); clear gv20 ev20
 refine hg10 _ _ ?_; cbv
 refine l_seq hS ?_; cbv
 replace hf:=d_lt hf
 obtain ⟨v21,gv21,ev21⟩:∃ z:Int,(S.bin .sub .i64 (S.bin .sub .i64 p.a5 c.color.a4) (S.smin v20 (S.bin .sub .i64 p.a5 c.color.a4)))=z∧(subI (subI p.a5 c.color.a4) (if (subI p.a5 c.color.a4)<v20 then (subI p.a5 c.color.a4) else v20))=z:=⟨_,rfl,d_e⟩
 (try rw [gv21]); (try (conv at gv21=>(lhs; cbv))); (try rw [gv21]); (try rw [ev21] at hf); clear gv21 ev21
 replace hf:=d_lt hf
 obtain ⟨v22,gv22,ev22⟩:∃ z:Int,(S.bin .sub .i64 v20 (S.smin v20 (S.bin .sub .i64 p.a5 c.color.a4)))=z∧(subI v20 (if (subI p.a5 c.color.a4)<v20 then (subI p.a5 c.color.a4) else v20))=z:=⟨_,rfl,d_e⟩
 (try rw [gv22]); (try (conv at gv22=>(lhs; cbv))); (try rw [gv22]); (try rw [ev22] at hf); clear gv22 ev22
 refine hg10 _ _ ?_; cbv
 refine l_seq hS ?_; cbv
 cases hf; exact hR _ (lp_eq rfl)
theorem c78 {M:EncM} (hM:M=mapE) {a:GAbility} {r:GAbility} (hf:zone_copyAbility a=some r):Pv.Fn Tryz.prog glF 78 [.agg (eGAbility M a)] (fun u=>u=.agg (eGAbility M r)):=by
 refine fn_dec (T:=tab) tabOK rfl wf Tryz.func78 rfl Tryz.call78 rfl ?_
 intro S R hS hR
 have q:=sf hM hS
 unfold zone_copyAbility at hf
 cbv
 refine d_callo hS hf (fun _=>o82 hM) (le_eq rfl) ?_
 intro y1 hf; cbv
 refine d_callo hS hf (fun _=>o127 hM) (le_eq rfl) ?_
 intro y2 hf; cbv
 refine d_callo hS hf (fun _=>o128 hM) (le_eq rfl) ?_
 intro y3 hf; cbv
 refine d_lp hS tabOK wf [] [1,2,18,19] (fun s4=>⟨tpsL 0 36 [(1,.lv 0 0),(2,.lv 4 0),(18,.si .i64 (S.nint (M.n GEffect y3))),(19,.si .i64 s4.1)],[(0,some (.var false [.si .i64 a.kind,.si .i64 a.filter.zone,.si .i64 a.filter.who,.si .i64 a.filter.self,.si .i64 a.filter.types,.si .i64 a.filter.notTypes,.si .i64 a.filter.colors,.si .i64 a.filter.notColors,.str a.filter.sub,.si .i64 a.filter.keys,.si .i64 a.filter.tap,.si .i64 a.filter.power.kind,.si .i64 a.filter.power.n,.si .i64 a.filter.tough.kind,.si .i64 a.filter.tough.n,.si .i64 a.filter.value.kind,.si .i64 a.filter.value.n,.os 1 0 (S.lenN (M.m GMod (eGMod M) y1)),.si .i64 a.price.mana.generic,.si .i64 a.price.mana.x,.si .i64 a.price.mana.color.a0,.si .i64 a.price.mana.color.a1,.si .i64 a.price.mana.color.a2,.si .i64 a.price.mana.color.a3,.si .i64 a.price.mana.color.a4,.sb a.price.tap,.sb a.price.sacrifice,.si .i64 a.price.life,.sb a.slow,.si .i64 a.trigger.when,.si .i64 a.trigger.who,.si .i64 a.trigger.filter.zone,.si .i64 a.trigger.filter.who,.si .i64 a.trigger.filter.self,.si .i64 a.trigger.filter.types,.si .i64 a.trigger.filter.notTypes,.si .i64 a.trigger.filter.colors,.si .i64 a.trigger.filter.notColors,.str a.trigger.filter.sub,.si .i64 a.trigger.filter.keys,.si .i64 a.trigger.filter.tap,.si .i64 a.trigger.filter.power.kind,.si .i64 a.trigger.filter.power.n,.si .i64 a.trigger.filter.tough.kind,.si .i64 a.trigger.filter.tough.n,.si .i64 a.trigger.filter.value.kind,.si .i64 a.trigger.filter.value.n,.sb a.may,.os 2 0 (S.lenN (M.m GSpec (eGSpec M) y2)),.os 3 0 (S.lenN (M.m GEffect (eGEffect M) s4.2)),.si .i64 a.replace.on,.si .i64 a.replace.who,.si .i64 a.replace.filter.zone,.si .i64 a.replace.filter.who,.si .i64 a.replace.filter.self,.si .i64 a.replace.filter.types,.si .i64 a.replace.filter.notTypes,.si .i64 a.replace.filter.colors,.si .i64 a.replace.filter.notColors,.str a.replace.filter.sub,.si .i64 a.replace.filter.keys,.si .i64 a.replace.filter.tap,.si .i64 a.replace.filter.power.kind,.si .i64 a.replace.filter.power.n,.si .i64 a.replace.filter.tough.kind,.si .i64 a.replace.filter.tough.n,.si .i64 a.replace.filter.value.kind,.si .i64 a.replace.filter.value.n,.si .i64 a.replace.doF,.si .i64 a.replace.n,.si .i64 a.replace.zone,.si .i64 a.replace.counter])),(1,some (.arr false 20 (M.m GMod (eGMod M) y1))),(2,some (.arr false 18 (M.m GSpec (eGSpec M) y2))),(3,some (.arr false 64 (M.m GEffect (eGEffect M) s4.2))),(4,some (.var false [.si .i64 0,.si .i64 0,.si .i64 0,.si .i64 0,.si .i64 0,.si .i64 0,.si .i64 0,.si .i64 0,.str (bs []),.si .i64 0,.si .i64 0,.si .i64 0,.si .i64 0,.si .i64 0,.si .i64 0,.si .i64 0,.si .i64 0,.sl 0 [] true,.si .i64 0,.si .i64 0,.si .i64 0,.si .i64 0,.si .i64 0,.si .i64 0,.si .i64 0,.sb false,.sb false,.si .i64 0,.sb false,.si .i64 0,.si .i64 0,.si .i64 0,.si .i64 0,.si .i64 0,.si .i64 0,.si .i64 0,.si .i64 0,.si .i64 0,.str (bs []),.si .i64 0,.si .i64 0,.si .i64 0,.si .i64 0,.si .i64 0,.si .i64 0,.si .i64 0,.si .i64 0,.sb false,.sl 0 [] true,.sl 0 [] true,.si .i64 0,.si .i64 0,.si .i64 0,.si .i64 0,.si .i64 0,.si .i64 0,.si .i64 0,.si .i64 0,.si .i64 0,.str (bs []),.si .i64 0,.si .i64 0,.si .i64 0,.si .i64 0,.si .i64 0,.si .i64 0,.si .i64 0,.si .i64 0,.si .i64 0,.si .i64 0,.si .i64 0,.si .i64 0]))],5⟩) hf ?_
 intro Ik5 k5 s4 hk5 hf e he; subst he
 unfold zone_copyAbility_l1 at hf
 cbv
 refine d_b hS hf ?_ ?_
 ·intro hf; cbv
  refine d_o hS ?_; cbv
  refine d_ix hS hf d_e rfl ?_
  intro j7 _ hf; cbv
  refine d_row hS hM hf rfl d_e ?_
  intro x8 hf; cbv
  refine d_c hS hf (fun _=>c82 hM) ?_
  intro y9 hf; cbv
  refine d_ix hS hf d_e rfl ?_
  intro j10 _ hf; cbv
  refine d_row hS hM hf rfl d_e ?_
  intro x11 hf; cbv
  exact d_x hk5 hf
 intro hf; cbv
 cases hf; exact hR _ d_l
theorem c101 {M:EncM} (hM:M=mapE) {c:GChoice} {a:List Int} {r:Bool} (hf:r36_Valid c a=some r):Pv.Fn Tryz.prog glF 101 [.agg (eGChoice M c),.sl 1 (M.m Int (eI .i64) a) false] (fun u=>u=.sb r):=by
 refine fn_dec (T:=(tabc [10,42])) (tabcOK [10,42]) rfl wf Tryz.func101 rfl Tryz.call101 rfl ?_
 intro S R hS hR
 have q:=sf hM hS
 unfold r36_Valid at hf
 cbv
 refine d_b hS hf ?_ ?_
 ·intro hf; cbv
  cases hf; exact hR _ (lp_eq rfl)
 intro hf; cbv
 refine d_p hS hf (fun _=>c136 hM) ?_
 intro y1 hf; cbv
 refine d_br hS hf rfl ?_ ?_
 ·intro hf; cbv
  refine d_cut hS [] [4] (fun s2=>⟨tpsL 0 125 [(4,.sb s2)],[],0⟩) hf ?_ ?_
  ·intro Ik3 k3 hk3 hf; cbv
   refine d_b hS hf ?_ ?_
   ·intro hf; cbv
    refine d_callp hS hf (fun _=>c138 hM) d_le ?_
    intro y5 hf; cbv
    exact d_x hk3 hf
   intro hf; cbv
   exact d_x hk3 hf
  intro s2 hf; cbv
  cases hf; exact hR _ (lp_eq rfl)
 intro hf; cbv
 refine d_b hS hf ?_ ?_
 ·intro hf; cbv
  refine d_callp hS hf (fun _=>c138 hM) d_le ?_
  intro y6 hf; cbv
  refine d_br hS hf rfl ?_ ?_
  ·intro hf; cbv
   refine d_b hS hf ?_ ?_
   ·intro hf; cbv
    cases hf; exact hR _ d_l
   intro hf; cbv
   cases hf; exact hR _ (lp_eq rfl)
  intro hf; cbv
  cases hf; exact hR _ (lp_eq rfl)
 intro hf; cbv
 refine d_b hS hf ?_ ?_
 ·intro hf; cbv
  refine d_callp hS hf (fun _=>c138 hM) d_le ?_
  intro y7 hf; cbv
  refine d_br hS hf rfl ?_ ?_
  ·intro hf; cbv
   cases hf; exact hR _ d_l
  intro hf; cbv
  cases hf; exact hR _ (lp_eq rfl)
 intro hf; cbv
 refine d_b hS hf ?_ ?_
 ·intro hf; cbv
  refine d_o hS ?_; cbv
  refine d_b hS hf ?_ ?_
  ·intro hf; cbv
   refine d_idx hS hM hf rfl rfl ?_
   intro x8 hf; cbv
   refine d_b hS hf ?_ ?_
   ·intro hf; cbv
    refine d_idx hS hM hf rfl rfl ?_
    intro x9 hf; cbv
    cases hf; exact hR _ d_l
   intro hf; cbv
   cases hf; exact hR _ (lp_eq rfl)
  intro hf; cbv
  cases hf; exact hR _ (lp_eq rfl)
 intro hf; cbv
 refine d_b hS hf ?_ ?_
 ·intro hf; cbv
  refine d_callp hS hf (fun _=>c138 hM) d_le ?_
  intro y10 hf; cbv
  refine d_br hS hf rfl ?_ ?_
  ·intro hf; cbv
   refine d_p hS hf (fun _=>c139 hM) ?_
   intro y11 hf; cbv
   cases hf; exact hR _ (lp_eq rfl)
  intro hf; cbv
  cases hf; exact hR _ (lp_eq rfl)
 intro hf; cbv
 refine d_b hS hf ?_ ?_
 ·intro hf; cbv
  refine d_callp hS hf (fun _=>c138 hM) d_le ?_
  intro y12 hf; cbv
  refine d_br hS hf rfl ?_ ?_
  ·intro hf; cbv
   refine d_p hS hf (fun _=>c139 hM) ?_
   intro y13 hf; cbv
   cases hf; exact hR _ (lp_eq rfl)
  intro hf; cbv
  cases hf; exact hR _ (lp_eq rfl)
 intro hf; cbv
 refine d_b hS hf ?_ ?_
 ·intro hf; cbv
  refine d_lp hS (tabcOK [10,42]) wf [] [1,2,5,6,7] (fun s14=>⟨tpsL 0 125 [(1,.sl 1 (M.m Int (eI .i64) a) false),(2,.lv 0 0),(5,.si .i64 (S.len (M.m GOption (eGOption M) c.options))),(6,.si .i64 s14.1),(7,.si .i64 s14.2)],[(0,some (.var false (eGChoice M c)))],1⟩) hf ?_
  intro Ik15 k15 s14 hk15 hf e he; subst he
  unfold r36_Valid_l1 at hf
  cbv
  refine d_b hS hf ?_ ?_
  ·intro hf; cbv
   refine d_cut hS [] [1,2,5,6,7,108] (fun s17=>⟨tpsL 0 125 [(1,.sl 1 (M.m Int (eI .i64) a) false),(2,.lv 0 0),(5,.si .i64 (S.len (M.m GOption (eGOption M) c.options))),(6,.si .i64 s14.1),(7,.si .i64 s14.2),(108,.sb s17)],[(0,some (.var false (eGChoice M c)))],1⟩) hf ?_ ?_
   ·intro Ik18 k18 hk18 hf; cbv
    refine d_idx hS hM hf rfl rfl ?_
    intro x20 hf; cbv
    refine d_b hS hf ?_ ?_
    ·intro hf; cbv
     exact d_x hk18 hf
    intro hf; cbv
    refine d_idx hS hM hf rfl rfl ?_
    intro x21 hf; cbv
    exact d_x hk18 hf
   intro s17 hf; cbv
   refine d_br hS hf rfl ?_ ?_
   ·intro hf; cbv
    cases hf; exact hR _ (lp_eq rfl)
   intro hf; cbv
   refine d_idx hS hM hf rfl rfl ?_
   intro x22 hf; cbv
   exact d_x hk15 hf
  intro hf; cbv
  refine d_b hS hf ?_ ?_
  ·intro hf; cbv
   cases hf; exact hR _ d_l
  intro hf; cbv
  cases hf; exact hR _ (lp_eq rfl)
 intro hf; cbv
 cases hf; exact hR _ (lp_eq rfl)
theorem c120 {M:EncM} (hM:M=mapE) {o:GObject} {cards:Int} {players:Int} {r:Bool} (hf:r24_Is o cards players=some r):Pv.Fn Tryz.prog glF 120 [.agg (eGObject M o),.si .i64 cards,.si .i64 players] (fun u=>u=.sb r):=by
 refine fn_dec (T:=(tabc [2,6,10])) (tabcOK [2,6,10]) rfl wf Tryz.func120 rfl Tryz.call120 rfl ?_
 intro S R hS hR
 have q:=sf hM hS
 unfold r24_Is at hf
 cbv
 refine d_cut hS [] [1,2,3,52] (fun s1=>⟨tpsL 0 148 [(1,.si .i64 cards),(2,.si .i64 players),(3,.lv 0 0),(52,.sb s1)],[(0,some (.var false (eGObject M o)))],1⟩) hf ?_ ?_
 ·intro Ik2 k2 hk2 hf; cbv
  refine d_b hS hf ?_ ?_
  ·intro hf; cbv
   exact d_x hk2 hf
  intro hf; cbv
  refine d_b hS hf ?_ ?_
  ·intro hf; cbv
   exact d_x hk2 hf
  intro hf; cbv
  refine d_b hS hf ?_ ?_
  ·intro hf; cbv
   exact d_x hk2 hf
  intro hf; cbv
  refine d_b hS hf ?_ ?_
  ·intro hf; cbv
   exact d_x hk2 hf
  intro hf; cbv
  refine d_b hS hf ?_ ?_
  ·intro hf; cbv
   exact d_x hk2 hf
  intro hf; cbv
  refine d_b hS hf ?_ ?_
  ·intro hf; cbv
   exact d_x hk2 hf
  intro hf; cbv
  refine d_b hS hf ?_ ?_
  ·intro hf; cbv
   exact d_x hk2 hf
  intro hf; cbv
  refine d_b hS hf ?_ ?_
  ·intro hf; cbv
   exact d_x hk2 hf
  intro hf; cbv
  exact d_x hk2 hf
 intro s1 hf; cbv
 refine d_br hS hf rfl ?_ ?_
 ·intro hf; cbv
  cases hf; exact hR _ (lp_eq rfl)
 intro hf; cbv
 refine d_cut hS [] [1,2,3,90] (fun s4=>⟨tpsL 0 148 [(1,.si .i64 cards),(2,.si .i64 players),(3,.lv 0 0),(90,.sb s4)],[(0,some (.var false (eGObject M o)))],1⟩) hf ?_ ?_
 ·intro Ik5 k5 hk5 hf; cbv
  refine d_b hS hf ?_ ?_
  ·intro hf; cbv
   exact d_x hk5 hf
  intro hf; cbv
  refine d_b hS hf ?_ ?_
  ·intro hf; cbv
   exact d_x hk5 hf
  intro hf; cbv
  refine d_b hS hf ?_ ?_
  ·intro hf; cbv
   exact d_x hk5 hf
  intro hf; cbv
  refine d_b hS hf ?_ ?_
  ·intro hf; cbv
   exact d_x hk5 hf
  intro hf; cbv
  refine d_b hS hf ?_ ?_
  ·intro hf; cbv
   exact d_x hk5 hf
  intro hf; cbv
  refine d_b hS hf ?_ ?_
  ·intro hf; cbv
   exact d_x hk5 hf
  intro hf; cbv
  refine d_b hS hf ?_ ?_
  ·intro hf; cbv
   exact d_x hk5 hf
  intro hf; cbv
  exact d_x hk5 hf
 intro s4 hf; cbv
 refine d_br hS hf rfl ?_ ?_
 ·intro hf; cbv
  cases hf; exact hR _ (lp_eq rfl)
 intro hf; cbv
 refine d_cut hS [] [3,116] (fun s7=>⟨tpsL 0 148 [(3,.lv 0 0),(116,.sb s7)],[(0,some (.var false (eGObject M o)))],1⟩) hf ?_ ?_
 ·intro Ik8 k8 hk8 hf; cbv
  refine d_p hS hf (fun _=>c164 hM) ?_
  intro y10 hf; cbv
  refine d_b hS hf ?_ ?_
  ·intro hf; cbv
   exact d_x hk8 hf
  intro hf; cbv
  refine d_b hS hf ?_ ?_
  ·intro hf; cbv
   exact d_x hk8 hf
  intro hf; cbv
  refine d_b hS hf ?_ ?_
  ·intro hf; cbv
   exact d_x hk8 hf
  intro hf; cbv
  refine d_b hS hf ?_ ?_
  ·intro hf; cbv
   exact d_x hk8 hf
  intro hf; cbv
  exact d_x hk8 hf
 intro s7 hf; cbv
 refine d_br hS hf rfl ?_ ?_
 ·intro hf; cbv
  cases hf; exact hR _ (lp_eq rfl)
 intro hf; cbv
 refine d_o hS ?_; cbv
 refine d_b hS hf ?_ ?_
 ·intro hf; cbv
  cases hf; exact hR _ (lp_eq rfl)
 intro hf; cbv
 refine d_c hS hf (fun _=>c165 hM) ?_
 intro y11 hf; cbv
 replace hf:=d_lt hf
 refine d_b hS hf ?_ ?_
 ·intro hf; cbv
  refine d_c hS hf (fun _=>c166 hM) ?_
  intro y13 hf; cbv
  replace hf:=d_lt hf
  refine d_b hS hf ?_ ?_
  ·intro hf; cbv
   refine d_b hS hf ?_ ?_
   ·intro hf; cbv
    refine d_b hS hf ?_ ?_
    ·intro hf; cbv
     replace hf:=d_lt hf
     cases hf; exact hR _ d_l
    intro hf; cbv
    cases hf; exact hR _ (lp_eq rfl)
   intro hf; cbv
   cases hf; exact hR _ (lp_eq rfl)
  intro hf; cbv
  cases hf; exact hR _ (lp_eq rfl)
 intro hf; cbv
 cases hf; exact hR _ (lp_eq rfl)
theorem c112 {M:EncM} (hM:M=mapE) {s:ByteArray} {r:Bool} (hf:r02_Is s=some r):Pv.Fn Tryz.prog glF 112 [.str s] (fun u=>u=.sb r):=by
 refine fn_dec (T:=(tabc [2,12,16])) (tabcOK [2,12,16]) rfl wf Tryz.func112 rfl Tryz.call112 rfl ?_
 intro S R hS hR
 have q:=sf hM hS
 unfold r02_Is at hf
 cbv
 refine d_cut hS [] [0,25] (fun s1=>⟨tpsL 0 70 [(0,.str s),(25,.sb s1)],[],0⟩) hf ?_ ?_
 ·intro Ik2 k2 hk2 hf; cbv
  refine d_b hS hf ?_ ?_
  ·intro hf; cbv
   exact d_x hk2 hf
  intro hf; cbv
  refine d_b hS hf ?_ ?_
  ·intro hf; cbv
   exact d_x hk2 hf
  intro hf; cbv
  refine d_six hS hf rfl rfl ?_
  intro x4 hf; cbv
  refine d_p hS hf (fun _=>c153 hM) ?_
  intro y5 hf; cbv
  refine d_b hS hf ?_ ?_
  ·intro hf; cbv
   exact d_x hk2 hf
  intro hf; cbv
  refine d_six hS hf rfl d_e ?_
  intro x6 hf; cbv
  exact d_x hk2 hf
 intro s1 hf; cbv
 refine d_br hS hf rfl ?_ ?_
 ·intro hf; cbv
  cases hf; exact hR _ (lp_eq rfl)
 intro hf; cbv
 refine d_lp hS (tabcOK [2,12,16]) wf [] [0,3] (fun s7=>⟨tpsL 0 70 [(0,.str s),(3,.si .i64 s7)],[],0⟩) hf ?_
 intro Ik8 k8 s7 hk8 hf e he; subst he
 unfold r02_Is_l1 at hf
 cbv
 refine d_b hS hf ?_ ?_
 ·intro hf; cbv
  refine d_cut hS [] [0,3,54] (fun s10=>⟨tpsL 0 70 [(0,.str s),(3,.si .i64 s7),(54,.sb s10)],[],0⟩) hf ?_ ?_
  ·intro Ik11 k11 hk11 hf; cbv
   refine d_six hS hf rfl rfl ?_
   intro x13 hf; cbv
   refine d_p hS hf (fun _=>c153 hM) ?_
   intro y14 hf; cbv
   refine d_b hS hf ?_ ?_
   ·intro hf; cbv
    refine d_six hS hf rfl rfl ?_
    intro x15 hf; cbv
    refine d_b hS hf ?_ ?_
    ·intro hf; cbv
     refine d_six hS hf rfl rfl ?_
     intro x16 hf; cbv
     exact d_x hk11 hf
    intro hf; cbv
    refine d_six hS hf rfl rfl ?_
    intro x17 hf; cbv
    refine d_b hS hf ?_ ?_
    ·intro hf; cbv
     refine d_six hS hf rfl rfl ?_
     intro x18 hf; cbv
     exact d_x hk11 hf
    intro hf; cbv
    exact d_x hk11 hf
   intro hf; cbv
   exact d_x hk11 hf
  intro s10 hf; cbv
  refine d_br hS hf rfl ?_ ?_
  ·intro hf; cbv
   cases hf; exact hR _ (lp_eq rfl)
  intro hf; cbv
  refine d_cut hS [] [0,3,69] (fun s19=>⟨tpsL 0 70 [(0,.str s),(3,.si .i64 s7),(69,.sb s19)],[],0⟩) hf ?_ ?_
  ·intro Ik20 k20 hk20 hf; cbv
   refine d_b hS hf ?_ ?_
   ·intro hf; cbv
    refine d_six hS hf rfl rfl ?_
    intro x22 hf; cbv
    refine d_b hS hf ?_ ?_
    ·intro hf; cbv
     refine d_six hS hf rfl d_e ?_
     intro x23 hf; cbv
     exact d_x hk20 hf
    intro hf; cbv
    exact d_x hk20 hf
   intro hf; cbv
   exact d_x hk20 hf
  intro s19 hf; cbv
  refine d_br hS hf rfl ?_ ?_
  ·intro hf; cbv
   cases hf; exact hR _ (lp_eq rfl)
  intro hf; cbv
  exact d_x hk8 hf
 intro hf; cbv
 cases hf; exact hR _ (lp_eq rfl)
theorem c93 {M:EncM} (hM:M=mapE) {c:GChoice} {r:List Int} (hf:ask_Default c=some r):Pv.Fn Tryz.prog glF 93 [.agg (eGChoice M c)] (fun u=>u=.sl 1 (M.m Int (eI .i64) r) false):=by
 refine fn_dec (T:=tab) tabOK rfl wf Tryz.func93 rfl Tryz.call93 rfl ?_
 intro S R hS hR
 have q:=sf hM hS
 unfold ask_Default at hf
 cbv
 refine d_b hS hf ?_ ?_
 ·intro hf; cbv
  refine d_wk hS (e:=(eI .i64)) hf (by (try simp only [q]); repeat' constructor) ?_
  intro x1 hf; cbv
  cases hf; exact hR _ d_l
 intro hf; cbv
 refine d_b hS hf ?_ ?_
 ·intro hf; cbv
  refine d_wk hS (e:=(eI .i64)) hf (by (try simp only [q]); repeat' constructor) ?_
  intro x2 hf; cbv
  cases hf; exact hR _ d_l
 intro hf; cbv
 refine d_b hS hf ?_ ?_
 ·intro hf; cbv
  refine d_wk hS (e:=(eI .i64)) hf (by (try simp only [q]); repeat' constructor) ?_
  intro x3 hf; cbv
  cases hf; exact hR _ d_l
 intro hf; cbv
 refine d_b hS hf ?_ ?_
 ·intro hf; cbv
  refine d_wk hS (e:=(eI .i64)) hf (by (try simp only [q]); repeat' constructor) ?_
  intro x4 hf; cbv
  cases hf; exact hR _ d_l
 intro hf; cbv
 refine d_b hS hf ?_ ?_
 ·intro hf; cbv
  refine d_wk hS (e:=(eI .i64)) hf (by (try simp only [q]); repeat' constructor) ?_
  intro x5 hf; cbv
  cases hf; exact hR _ d_l
 intro hf; cbv
 refine d_b hS hf ?_ ?_
 ·intro hf; cbv
  refine d_callp hS hf (fun _=>c132 hM) d_le ?_
  intro y6 hf; cbv
  cases hf; exact hR _ (lp_eq rfl)
 intro hf; cbv
 refine d_b hS hf ?_ ?_
 ·intro hf; cbv
  refine d_callp hS hf (fun _=>c132 hM) d_le ?_
  intro y7 hf; cbv
  cases hf; exact hR _ (lp_eq rfl)
 intro hf; cbv
 refine d_b hS hf ?_ ?_
 ·intro hf; cbv
  cases hf; exact hR _ d_l
 intro hf; cbv
 refine d_b hS hf ?_ ?_
 ·intro hf; cbv
  refine d_b hS hf ?_ ?_
  ·intro hf; cbv
   refine d_mks hS hf d_e d_e ?_
   intro j8 hf; cbv
   refine d_wk hS (e:=(eI .i64)) hf (by (try simp only [q]); repeat' constructor) ?_
   intro x9 hf; cbv
   refine d_ix hS hf rfl rfl ?_
   intro j10 _ hf; cbv
   refine d_row hS hM (e:=(eI .i64)) hf d_e d_e ?_
   intro x11 hf; cbv
   cases hf; exact hR _ d_l
  intro hf; cbv
  cases hf; exact hR _ (by (try simp only [q]); repeat' constructor)
 intro hf; cbv
 cases hf; exact hR _ (by (try simp only [q]); repeat' constructor)
theorem c203 {M:EncM} (hM:M=mapE) {mask:Int} {r:ByteArray} (hf:r09_Text mask=some r):Pv.Fn Tryz.prog glF 203 [.si .i64 mask] (fun u=>u=.str r):=by
 refine fn_dec (T:=(tabc [14,17,25])) (tabcOK [14,17,25]) rfl wf Tryz.func203 rfl Tryz.call203 rfl ?_
 intro S R hS hR
 have q:=sf hM hS
 unfold r09_Text at hf
 cbv
 refine d_p hS hf (fun _=>c231 hM) ?_
 intro y1 hf; cbv
 refine d_b hS hf ?_ ?_
 ·intro hf; cbv
  cases hf; exact hR _ (lp_eq rfl)
 intro hf; cbv
 refine d_b hS hf ?_ ?_
 ·intro hf; cbv
  cases hf; exact hR _ (lp_eq rfl)
 intro hf; cbv
 refine d_lp hS (tabcOK [14,17,25]) wf [] [0,3,4] (fun s2=>⟨tpsL 0 29 [(0,.si .i64 mask),(3,.str s2.1),(4,.si .i64 s2.2)],[],0⟩) hf ?_
 intro Ik3 k3 s2 hk3 hf e he; subst he
 unfold r09_Text_l1 at hf
 cbv
 refine l_seq hS ?_; cbv
 refine d_b hS hf ?_ ?_
 ·intro hf; cbv
  refine d_cut hS [] [0,3,4] (fun s5=>⟨tpsL 0 29 [(0,.si .i64 mask),(3,.str s5),(4,.si .i64 s2.2)],[],0⟩) hf ?_ ?_
  ·intro Ik6 k6 hk6 hf; cbv
   refine d_shf hS hf rfl rfl ?_
   intro x8 hf; cbv
   refine d_div hS hf rfl rfl ?_
   intro x9 hf; cbv
   refine d_div hS hf rfl rfl ?_
   intro x10 hf; cbv
   refine d_b hS hf ?_ ?_
   ·intro hf; cbv
    refine d_cut hS [] [0,3,4] (fun s11=>⟨tpsL 0 29 [(0,.si .i64 mask),(3,.str s11),(4,.si .i64 s2.2)],[],0⟩) hf ?_ ?_
    ·intro Ik12 k12 hk12 hf; cbv
     refine d_b hS hf ?_ ?_
     ·intro hf; cbv
      refine d_cat hS hf rfl rfl ?_
      intro x14 hf; cbv
      exact d_x hk12 hf
     intro hf; cbv
     exact d_x hk12 hf
    intro s11 hf; cbv
    refine d_p hS hf (fun _=>c232 hM) ?_
    intro y15 hf; cbv
    refine d_cat hS hf rfl rfl ?_
    intro x16 hf; cbv
    exact d_x hk6 hf
   intro hf; cbv
   exact d_x hk6 hf
  intro s5 hf; cbv
  exact d_x hk3 hf
 intro hf; cbv
 cases hf; exact hR _ (lp_eq rfl)
end Go.Proofs.YtddcpnlflncahaaGreat
