import Derived.Test.YtddcpnlflncahaaGreatC08
import Derived.Test.YtddcpnlflncahaaGreatC09
import Derived.Test.YtddcpnlflncahaaGreatC10
set_option linter.all false
namespace Go.Proofs.YtddcpnlflncahaaGreat
open Go Go.Pv
set_option maxRecDepth 100000
set_option maxHeartbeats 2000000
theorem c42 {M:EncM} (hM:M=mapE) {p:Arr6 Int} {c:GCost} {x:Int} {r:(Arr6 Int) × Int} (hf:mana_Pay p c x=some r):Pv.Fn Tryz.prog glF 42 [.agg [.si .i64 p.a0,.si .i64 p.a1,.si .i64 p.a2,.si .i64 p.a3,.si .i64 p.a4,.si .i64 p.a5],.agg (eGCost M c),.si .i64 x] (fun u=>u=.tup [.agg [.si .i64 r.1.a0,.si .i64 r.1.a1,.si .i64 r.1.a2,.si .i64 r.1.a3,.si .i64 r.1.a4,.si .i64 r.1.a5],.si .i64 r.2]):=by
 refine fn_dec (T:=(tabc [2,8,16,18,20,22,30])) (tabcOK [2,8,16,18,20,22,30]) rfl wf Tryz.func42 rfl Tryz.call42 rfl ?_
 intro S R hS hR
 have q:=sf hM hS
 unfold mana_Pay at hf
 cbv
 refine d_cut hS [] [2,3,4,6,29] (fun s1=>⟨tpsL 0 90 [(2,.si .i64 x),(3,.lv 0 0),(4,.lv 1 0),(6,.lv 2 0),(29,.sb s1)],[(0,some (.var false [.si .i64 p.a0,.si .i64 p.a1,.si .i64 p.a2,.si .i64 p.a3,.si .i64 p.a4,.si .i64 p.a5])),(1,some (.var false (eGCost M c))),(2,some (.var false [.si .i64 0,.si .i64 0,.si .i64 0,.si .i64 0,.si .i64 0,.si .i64 0]))],3⟩) hf ?_ ?_
 ·intro Ik2 k2 hk2 hf; cbv
  refine d_p hS hf (fun _=>c96 hM) ?_
  intro y4 hf; cbv
  refine d_b hS hf ?_ ?_
  ·intro hf; cbv
   exact d_x hk2 hf
  intro hf; cbv
  refine d_p hS hf (fun _=>c97 hM) ?_
  intro y5 hf; cbv
  refine d_b hS hf ?_ ?_
  ·intro hf; cbv
   exact d_x hk2 hf
  intro hf; cbv
  refine d_b hS hf ?_ ?_
  ·intro hf; cbv
   exact d_x hk2 hf
  intro hf; cbv
  exact d_x hk2 hf
 intro s1 hf; cbv
 refine d_br hS hf rfl ?_ ?_
 ·intro hf; cbv
  cases hf; exact hR _ (lp_eq rfl)
 intro hf; cbv
 refine d_cut hS [] [3,4,6,8,45] (fun s6=>⟨tpsL 0 90 [(3,.lv 0 0),(4,.lv 1 0),(6,.lv 2 0),(8,.si .i64 (S.bin .add .i64 c.generic (S.bin .mul .i64 c.x x))),(45,.sb s6)],[(0,some (.var false [.si .i64 p.a0,.si .i64 p.a1,.si .i64 p.a2,.si .i64 p.a3,.si .i64 p.a4,.si .i64 p.a5])),(1,some (.var false (eGCost M c))),(2,some (.var false [.si .i64 0,.si .i64 0,.si .i64 0,.si .i64 0,.si .i64 0,.si .i64 0]))],3⟩) hf ?_ ?_
 ·intro Ik7 k7 hk7 hf; cbv
  replace hf:=d_lt hf
  refine d_b hS hf ?_ ?_
  ·intro hf; cbv
   replace hf:=d_lt hf
   exact d_x hk7 hf
  intro hf; cbv
  exact d_x hk7 hf
 intro s6 hf; cbv
 refine d_br hS hf rfl ?_ ?_
 ·intro hf; cbv
  cases hf; exact hR _ (lp_eq rfl)
 intro hf; cbv
 refine d_lp hS (tabcOK [2,8,16,18,20,22,30]) wf [] [6,8,9,49,50] (fun s11=>⟨tpsL 0 90 [(6,.lv 0 0),(8,.si .i64 (S.bin .add .i64 c.generic (S.bin .mul .i64 c.x x))),(9,.lv 1 0),(49,.agg [.si .i64 c.color.a0,.si .i64 c.color.a1,.si .i64 c.color.a2,.si .i64 c.color.a3,.si .i64 c.color.a4]),(50,.si .i64 s11.2)],[(0,some (.var false [.si .i64 0,.si .i64 0,.si .i64 0,.si .i64 0,.si .i64 0,.si .i64 0])),(1,some (.var false [.si .i64 s11.1.a0,.si .i64 s11.1.a1,.si .i64 s11.1.a2,.si .i64 s11.1.a3,.si .i64 s11.1.a4,.si .i64 s11.1.a5]))],2⟩) hf ?_
 intro Ik12 k12 s11 hk12 hf e he; subst he
 unfold mana_Pay_l1 at hf
 cbv
 refine l_seq hS ?_; cbv
 refine d_b hS hf ?_ ?_
 ·intro hf; cbv
  refine d_cut hS [] [6,8,9,10,11,49,50] (fun s14=>⟨tpsL 0 90 [(6,.lv 0 0),(8,.si .i64 (S.bin .add .i64 c.generic (S.bin .mul .i64 c.x x))),(9,.lv 1 0),(10,.si .i64 s11.2),(11,.si .i64 s14),(49,.agg [.si .i64 c.color.a0,.si .i64 c.color.a1,.si .i64 c.color.a2,.si .i64 c.color.a3,.si .i64 c.color.a4]),(50,.si .i64 s11.2)],[(0,some (.var false [.si .i64 0,.si .i64 0,.si .i64 0,.si .i64 0,.si .i64 0,.si .i64 0])),(1,some (.var false [.si .i64 s11.1.a0,.si .i64 s11.1.a1,.si .i64 s11.1.a2,.si .i64 s11.1.a3,.si .i64 s11.1.a4,.si .i64 s11.1.a5]))],2⟩) hf ?_ ?_
  ·intro Ik15 k15 hk15 hf; cbv
   obtain ⟨j17,hj17,ej17,hf⟩:=d_cases hf
   refine d_ixa hS rfl ⟨j17,hj17,ej17,?_⟩
   rcases lt5 hj17 with rfl | rfl | rfl | rfl | rfl
   ·cbv
    exact d_x hk15 hf
   ·cbv
    exact d_x hk15 hf
   ·cbv
    exact d_x hk15 hf
   ·cbv
    exact d_x hk15 hf
   cbv
   exact d_x hk15 hf
  intro s14 hf; cbv
  refine d_cut hS [] [6,8,9,10,49,50] (fun s18=>⟨tpsL 0 90 [(6,.lv 0 0),(8,.si .i64 (S.bin .add .i64 c.generic (S.bin .mul .i64 c.x x))),(9,.lv 1 0),(10,.si .i64 s11.2),(49,.agg [.si .i64 c.color.a0,.si .i64 c.color.a1,.si .i64 c.color.a2,.si .i64 c.color.a3,.si .i64 c.color.a4]),(50,.si .i64 s11.2)],[(0,some (.var false [.si .i64 0,.si .i64 0,.si .i64 0,.si .i64 0,.si .i64 0,.si .i64 0])),(1,some (.var false [.si .i64 s18.a0,.si .i64 s18.a1,.si .i64 s18.a2,.si .i64 s18.a3,.si .i64 s18.a4,.si .i64 s18.a5]))],2⟩) hf ?_ ?_
  ·intro Ik19 k19 hk19 hf; cbv
   obtain ⟨j21,hj21,ej21,hf⟩:=d_cases hf
   refine d_ixa hS d_e ⟨j21,hj21,ej21,?_⟩
   rcases lt6 hj21 with rfl | rfl | rfl | rfl | rfl | rfl
   ·cbv
    obtain ⟨j22,hj22,ej22,hf⟩:=d_cases hf
    refine d_ixa hS d_e ⟨j22,hj22,ej22,?_⟩
    rcases lt6 hj22 with rfl | rfl | rfl | rfl | rfl | rfl
    ·cbv
     exact d_x hk19 hf
    ·cbv
     exact d_x hk19 hf
    ·cbv
     exact d_x hk19 hf
    ·cbv
     exact d_x hk19 hf
    ·cbv
     exact d_x hk19 hf
    cbv
    exact d_x hk19 hf
   ·cbv
    obtain ⟨j23,hj23,ej23,hf⟩:=d_cases hf
    refine d_ixa hS d_e ⟨j23,hj23,ej23,?_⟩
    rcases lt6 hj23 with rfl | rfl | rfl | rfl | rfl | rfl
    ·cbv
     exact d_x hk19 hf
    ·cbv
     exact d_x hk19 hf
    ·cbv
     exact d_x hk19 hf
    ·cbv
     exact d_x hk19 hf
    ·cbv
     exact d_x hk19 hf
    cbv
    exact d_x hk19 hf
   ·cbv
    obtain ⟨j24,hj24,ej24,hf⟩:=d_cases hf
    refine d_ixa hS d_e ⟨j24,hj24,ej24,?_⟩
    rcases lt6 hj24 with rfl | rfl | rfl | rfl | rfl | rfl
    ·cbv
     exact d_x hk19 hf
    ·cbv
     exact d_x hk19 hf
    ·cbv
     exact d_x hk19 hf
    ·cbv
     exact d_x hk19 hf
    ·cbv
     exact d_x hk19 hf
    cbv
    exact d_x hk19 hf
   ·cbv
    obtain ⟨j25,hj25,ej25,hf⟩:=d_cases hf
    refine d_ixa hS d_e ⟨j25,hj25,ej25,?_⟩
    rcases lt6 hj25 with rfl | rfl | rfl | rfl | rfl | rfl
    ·cbv
     exact d_x hk19 hf
    ·cbv
     exact d_x hk19 hf
    ·cbv
     exact d_x hk19 hf
    ·cbv
     exact d_x hk19 hf
    ·cbv
     exact d_x hk19 hf
    cbv
    exact d_x hk19 hf
   ·cbv
    obtain ⟨j26,hj26,ej26,hf⟩:=d_cases hf
    refine d_ixa hS d_e ⟨j26,hj26,ej26,?_⟩
    rcases lt6 hj26 with rfl | rfl | rfl | rfl | rfl | rfl
    ·cbv
     exact d_x hk19 hf
    ·cbv
     exact d_x hk19 hf
    ·cbv
     exact d_x hk19 hf
    ·cbv
     exact d_x hk19 hf
    ·cbv
     exact d_x hk19 hf
    cbv
    exact d_x hk19 hf
   cbv
   obtain ⟨j27,hj27,ej27,hf⟩:=d_cases hf
   refine d_ixa hS d_e ⟨j27,hj27,ej27,?_⟩
   rcases lt6 hj27 with rfl | rfl | rfl | rfl | rfl | rfl
   ·cbv
    exact d_x hk19 hf
   ·cbv
    exact d_x hk19 hf
   ·cbv
    exact d_x hk19 hf
   ·cbv
    exact d_x hk19 hf
   ·cbv
    exact d_x hk19 hf
   cbv
   exact d_x hk19 hf
  intro s18 hf; cbv
  refine d_cut hS [] [6,8,9,49,50,65] (fun s28=>⟨tpsL 0 90 [(6,.lv 0 0),(8,.si .i64 (S.bin .add .i64 c.generic (S.bin .mul .i64 c.x x))),(9,.lv 1 0),(49,.agg [.si .i64 c.color.a0,.si .i64 c.color.a1,.si .i64 c.color.a2,.si .i64 c.color.a3,.si .i64 c.color.a4]),(50,.si .i64 s11.2),(65,.sb s28)],[(0,some (.var false [.si .i64 0,.si .i64 0,.si .i64 0,.si .i64 0,.si .i64 0,.si .i64 0])),(1,some (.var false [.si .i64 s18.a0,.si .i64 s18.a1,.si .i64 s18.a2,.si .i64 s18.a3,.si .i64 s18.a4,.si .i64 s18.a5]))],2⟩) hf ?_ ?_
  ·intro Ik29 k29 hk29 hf; cbv
   obtain ⟨j31,hj31,ej31,hf⟩:=d_cases hf
   refine d_ixa hS d_e ⟨j31,hj31,ej31,?_⟩
   rcases lt6 hj31 with rfl | rfl | rfl | rfl | rfl | rfl
   ·cbv
    exact d_x hk29 hf
   ·cbv
    exact d_x hk29 hf
   ·cbv
    exact d_x hk29 hf
   ·cbv
    exact d_x hk29 hf
   ·cbv
    exact d_x hk29 hf
   cbv
   exact d_x hk29 hf
  intro s28 hf; cbv
  refine d_br hS hf rfl ?_ ?_
  ·intro hf; cbv
   cases hf; exact hR _ (lp_eq rfl)
  intro hf; cbv
  exact d_x hk12 hf
 intro hf; cbv
 refine l_roundsF hS (tabcOK [2,8,16,18,20,22,30]) wf 8 ?_; intro g32 hg32
 refine hg32 _ _ ?_; cbv
 refine l_seq hS ?_; cbv
 replace hf:=d_lt hf
 obtain ⟨v33,gv33,ev33⟩:∃ z:Int,(S.bin .sub .i64 s11.1.a0 (S.smin (S.bin .add .i64 c.generic (S.bin .mul .i64 c.x x)) s11.1.a0))=z∧(subI s11.1.a0 (if s11.1.a0<(addI c.generic (mulI c.x x)) then s11.1.a0 else (addI c.generic (mulI c.x x))))=z:=⟨_,rfl,d_e⟩
 (try rw [gv33]); (try (conv at gv33=>(lhs; cbv))); (try rw [gv33]); (try rw [ev33] at hf); clear gv33 ev33
 replace hf:=d_lt hf
 obtain ⟨v34,gv34,ev34⟩:∃ z:Int,(S.bin .sub .i64 (S.bin .add .i64 c.generic (S.bin .mul .i64 c.x x)) (S.smin (S.bin .add .i64 c.generic (S.bin .mul .i64 c.x x)) s11.1.a0))=z∧(subI (addI c.generic (mulI c.x x)) (if s11.1.a0<(addI c.generic (mulI c.x x)) then s11.1.a0 else (addI c.generic (mulI c.x x))))=z:=⟨_,rfl,d_e⟩
 (try rw [gv34]); (try (conv at gv34=>(lhs; cbv))); (try rw [gv34]); (try rw [ev34] at hf); clear gv34 ev34
 refine hg32 _ _ ?_; cbv
 refine l_seq hS ?_; cbv
 refine hg32 _ _ ?_; cbv
 refine l_seq hS ?_; cbv
 replace hf:=d_lt hf
 obtain ⟨v35,gv35,ev35⟩:∃ z:Int,(S.bin .sub .i64 s11.1.a2 (S.smin (S.bin .sub .i64 v34 (S.smin v34 s11.1.a1)) s11.1.a2))=z∧(subI s11.1.a2 (if s11.1.a2<(subI v34 (if s11.1.a1<v34 then s11.1.a1 else v34)) then s11.1.a2 else (subI v34 (if s11.1.a1<v34 then s11.1.a1 else v34))))=z:=⟨_,rfl,d_e⟩
 (try rw [gv35]); (try (conv at gv35=>(lhs; cbv))); (try rw [gv35]); (try rw [ev35] at hf); clear gv35 ev35
 replace hf:=d_lt hf
 obtain ⟨v36,gv36,ev36⟩:∃ z:Int,(S.bin .sub .i64 (S.bin .sub .i64 v34 (S.smin v34 s11.1.a1)) (S.smin (S.bin .sub .i64 v34 (S.smin v34 s11.1.a1)) s11.1.a2))=z∧(subI (subI v34 (if s11.1.a1<v34 then s11.1.a1 else v34)) (if s11.1.a2<(subI v34 (if s11.1.a1<v34 then s11.1.a1 else v34)) then s11.1.a2 else (subI v34 (if s11.1.a1<v34 then s11.1.a1 else v34))))=z:=⟨_,rfl,d_e⟩
 (try rw [gv36]); (try (conv at gv36=>(lhs; cbv))); (try rw [gv36]); (try rw [ev36] at hf); clear gv36 ev36
 refine hg32 _ _ ?_; cbv
 refine l_seq hS ?_; cbv
 refine hg32 _ _ ?_; cbv
 refine l_seq hS ?_; cbv
 replace hf:=d_lt hf
 obtain ⟨v37,gv37,ev37⟩:∃ z:Int,(S.bin .sub .i64 s11.1.a4 (S.smin (S.bin .sub .i64 v36 (S.smin v36 s11.1.a3)) s11.1.a4))=z∧(subI s11.1.a4 (if s11.1.a4<(subI v36 (if s11.1.a3<v36 then s11.1.a3 else v36)) then s11.1.a4 else (subI v36 (if s11.1.a3<v36 then s11.1.a3 else v36))))=z:=⟨_,rfl,d_e⟩
 (try rw [gv37]); (try (conv at gv37=>(lhs; cbv))); (try rw [gv37]); (try rw [ev37] at hf); clear gv37 ev37
 replace hf:=d_lt hf
 obtain ⟨v38,gv38,ev38⟩:∃ z:Int,(S.bin .sub .i64 (S.bin .sub .i64 v36 (S.smin v36 s11.1.a3)) (S.smin (S.bin .sub .i64 v36 (S.smin v36 s11.1.a3)) s11.1.a4))=z∧(subI (subI v36 (if s11.1.a3<v36 then s11.1.a3 else v36)) (if s11.1.a4<(subI v36 (if s11.1.a3<v36 then s11.1.a3 else v36)) then s11.1.a4 else (subI v36 (if s11.1.a3<v36 then s11.1.a3 else v36))))=z:=⟨_,rfl,d_e⟩
 (try rw [gv38]); (try (conv at gv38=>(lhs; cbv))); (try rw [gv38]); (try rw [ev38] at hf); clear gv38 ev38
 refine hg32 _ _ ?_; cbv
 refine l_seq hS ?_; cbv
 refine hg32 _ _ ?_; cbv
 refine l_seq hS ?_; cbv
 replace hf:=d_lt hf
 refine d_b hS hf ?_ ?_
 ·intro hf; cbv
  cases hf; exact hR _ (lp_eq rfl)
 intro hf; cbv
 cases hf; exact hR _ d_l
theorem o33 {M:EncM} (hM:M=mapE) {s:GState} {r:GState} (hf:r25_Copy s=some r):Pv.FnS Tryz.prog glF 33 [.agg (eGState M s)] [] 0 (fun u s n=>u=.agg [.os 0 0 (M.n GPlayer r.players),.os 1 0 (M.n GObject r.objects),.sl 1 (M.m Int (eI .i64) r.battlefield) false,.sl 1 (M.m Int (eI .i64) r.exile) false,.os 2 0 (M.n GItem r.stack),.os 3 0 (M.n GWaiting r.waiting),.os 4 0 (M.n GCont r.conts),.si .i64 r.turn,.si .i64 r.active,.si .i64 r.step,.sb r.begun,.si .i64 r.priority,.si .i64 r.passes,.si .i64 r.nextId,.si .i64 r.nextStamp,.si .u64 r.seed,.sl 1 (M.m Int (eI .i64) r.extra) false,.si .i64 r.over,.si .i64 r.winner]∧s=[(0,some (.arr false 14 (M.m GPlayer (eGPlayer M) r.players))),(1,some (.arr false 19 (M.m GObject (eGObject M) r.objects))),(2,some (.arr false 94 (M.m GItem (eGItem M) r.stack))),(3,some (.arr false 89 (M.m GWaiting (eGWaiting M) r.waiting))),(4,some (.arr false 6 (M.m GCont (eGCont M) r.conts)))]∧n=5):=by
 refine fnS_dec (T:=(tabx 0 [] [[(14,true),(19,true),(0,false),(0,false),(94,true),(89,true),(6,true),(0,false),(0,false),(0,false),(0,false),(0,false),(0,false),(0,false),(0,false),(0,false),(0,false),(0,false),(0,false)]])) (tabxOK 0 [] [[(14,true),(19,true),(0,false),(0,false),(94,true),(89,true),(6,true),(0,false),(0,false),(0,false),(0,false),(0,false),(0,false),(0,false),(0,false),(0,false),(0,false),(0,false),(0,false)]]) wf Tryz.func33 rfl Tryz.call33 rfl ?_
 intro S R hS hR
 have q:=sf hM hS
 unfold r25_Copy at hf
 cbv
 refine d_lp hS (tabxOK 0 [] [[(14,true),(19,true),(0,false),(0,false),(94,true),(89,true),(6,true),(0,false),(0,false),(0,false),(0,false),(0,false),(0,false),(0,false),(0,false),(0,false),(0,false),(0,false),(0,false)]]) wf [.cO 2 0 14] [1,2,3,4] (fun s1=>⟨tpsL 0 141 [(1,.lv 0 0),(2,.lv 1 0),(3,.lv 2 0),(4,.si .i64 s1.1)],[(0,some (.var false (eGState M s))),(1,some (.var false [.sl 0 [] true,.sl 0 [] true,.sl 0 [] true,.sl 0 [] true,.sl 0 [] true,.sl 0 [] true,.sl 0 [] true,.si .i64 0,.si .i64 0,.si .i64 0,.sb false,.si .i64 0,.si .i64 0,.si .i64 0,.si .i64 0,.si .u64 0,.sl 0 [] true,.si .i64 0,.si .i64 0])),(2,some (.var false [.os 3 0 (S.lenN (M.m GPlayer (eGPlayer M) s1.2)),.sl 19 (M.m GObject (eGObject M) s.objects) false,.sl 1 (M.m Int (eI .i64) s.battlefield) false,.sl 1 (M.m Int (eI .i64) s.exile) false,.sl 94 (M.m GItem (eGItem M) s.stack) false,.sl 89 (M.m GWaiting (eGWaiting M) s.waiting) false,.sl 6 (M.m GCont (eGCont M) s.conts) false,.si .i64 s.turn,.si .i64 s.active,.si .i64 s.step,.sb s.begun,.si .i64 s.priority,.si .i64 s.passes,.si .i64 s.nextId,.si .i64 s.nextStamp,.si .u64 s.seed,.sl 1 (M.m Int (eI .i64) s.extra) false,.si .i64 s.over,.si .i64 s.winner])),(3,some (.arr false 14 (M.m GPlayer (eGPlayer M) s1.2)))],4⟩) hf ?_
 intro Ik2 k2 s1 hk2 hf e he; subst he
 unfold r25_Copy_l4 at hf
 cbv
 refine d_b hS hf ?_ ?_
 ·intro hf; cbv
  refine d_idx hS hM hf rfl rfl ?_
  intro x4 hf; cbv
  refine d_p hS hf (fun _=>c88 hM) ?_
  intro y5 hf; cbv
  refine d_p hS hf (fun _=>c88 hM) ?_
  intro y6 hf; cbv
  refine d_p hS hf (fun _=>c88 hM) ?_
  intro y7 hf; cbv
  refine d_room hS hf d_e ?_
  intro hf; cbv
  exact d_x hk2 hf
 intro hf; cbv
 refine d_room hS hf d_e ?_
 intro hf; cbv
 refine d_p hS hf (fun _=>c88 hM) ?_
 intro y8 hf; cbv
 refine d_p hS hf (fun _=>c88 hM) ?_
 intro y9 hf; cbv
 refine d_lp hS (tabxOK 0 [] [[(14,true),(19,true),(0,false),(0,false),(94,true),(89,true),(6,true),(0,false),(0,false),(0,false),(0,false),(0,false),(0,false),(0,false),(0,false),(0,false),(0,false),(0,false),(0,false)]]) wf [.cO 2 4 94] [1,2,3,6] (fun s10=>⟨tpsL 0 141 [(1,.lv 0 0),(2,.lv 1 0),(3,.lv 2 0),(6,.si .i64 s10.1)],[(0,some (.var false (eGState M s))),(1,some (.var false [.sl 0 [] true,.sl 0 [] true,.sl 0 [] true,.sl 0 [] true,.sl 0 [] true,.sl 0 [] true,.sl 0 [] true,.si .i64 0,.si .i64 0,.si .i64 0,.sb false,.si .i64 0,.si .i64 0,.si .i64 0,.si .i64 0,.si .u64 0,.sl 0 [] true,.si .i64 0,.si .i64 0])),(2,some (.var false [.os 3 0 (S.lenN (M.m GPlayer (eGPlayer M) s1.2)),.os 4 0 (S.lenN (S.app (S.sub ([]) 0 0) (M.m GObject (eGObject M) s.objects))),.sl 1 (M.m Int (eI .i64) y8) false,.sl 1 (M.m Int (eI .i64) y9) false,.os 5 0 (S.lenN (M.m GItem (eGItem M) s10.2)),.sl 89 (M.m GWaiting (eGWaiting M) s.waiting) false,.sl 6 (M.m GCont (eGCont M) s.conts) false,.si .i64 s.turn,.si .i64 s.active,.si .i64 s.step,.sb s.begun,.si .i64 s.priority,.si .i64 s.passes,.si .i64 s.nextId,.si .i64 s.nextStamp,.si .u64 s.seed,.sl 1 (M.m Int (eI .i64) s.extra) false,.si .i64 s.over,.si .i64 s.winner])),(3,some (.arr false 14 (M.m GPlayer (eGPlayer M) s1.2))),(4,some (.arr false 19 (S.app (S.sub ([]) 0 0) (M.m GObject (eGObject M) s.objects)))),(5,some (.arr false 94 (M.m GItem (eGItem M) s10.2)))],6⟩) hf ?_
 intro Ik11 k11 s10 hk11 hf e he; subst he
 unfold r25_Copy_l3 at hf
 cbv
 refine d_b hS hf ?_ ?_
 ·intro hf; cbv
  refine d_idx hS hM hf rfl rfl ?_
  intro x13 hf; cbv
  refine d_p hS hf (fun _=>c89 hM) ?_
  intro y14 hf; cbv
  refine d_room hS hf d_e ?_
  intro hf; cbv
  refine d_room hS hf d_e ?_
  intro hf; cbv
  exact d_x hk11 hf
 intro hf; cbv
 refine d_lp hS (tabxOK 0 [] [[(14,true),(19,true),(0,false),(0,false),(94,true),(89,true),(6,true),(0,false),(0,false),(0,false),(0,false),(0,false),(0,false),(0,false),(0,false),(0,false),(0,false),(0,false),(0,false)]]) wf [.cO 2 5 89] [1,2,3,8] (fun s15=>⟨tpsL 0 141 [(1,.lv 0 0),(2,.lv 1 0),(3,.lv 2 0),(8,.si .i64 s15.1)],[(0,some (.var false (eGState M s))),(1,some (.var false [.sl 0 [] true,.sl 0 [] true,.sl 0 [] true,.sl 0 [] true,.sl 0 [] true,.sl 0 [] true,.sl 0 [] true,.si .i64 0,.si .i64 0,.si .i64 0,.sb false,.si .i64 0,.si .i64 0,.si .i64 0,.si .i64 0,.si .u64 0,.sl 0 [] true,.si .i64 0,.si .i64 0])),(2,some (.var false [.os 3 0 (S.lenN (M.m GPlayer (eGPlayer M) s1.2)),.os 4 0 (S.lenN (S.app (S.sub ([]) 0 0) (M.m GObject (eGObject M) s.objects))),.sl 1 (M.m Int (eI .i64) y8) false,.sl 1 (M.m Int (eI .i64) y9) false,.os 5 0 (S.lenN (M.m GItem (eGItem M) s10.2)),.os 6 0 (S.lenN (M.m GWaiting (eGWaiting M) s15.2)),.sl 6 (M.m GCont (eGCont M) s.conts) false,.si .i64 s.turn,.si .i64 s.active,.si .i64 s.step,.sb s.begun,.si .i64 s.priority,.si .i64 s.passes,.si .i64 s.nextId,.si .i64 s.nextStamp,.si .u64 s.seed,.sl 1 (M.m Int (eI .i64) s.extra) false,.si .i64 s.over,.si .i64 s.winner])),(3,some (.arr false 14 (M.m GPlayer (eGPlayer M) s1.2))),(4,some (.arr false 19 (S.app (S.sub ([]) 0 0) (M.m GObject (eGObject M) s.objects)))),(5,some (.arr false 94 (M.m GItem (eGItem M) s10.2))),(6,some (.arr false 89 (M.m GWaiting (eGWaiting M) s15.2)))],7⟩) hf ?_
 intro Ik16 k16 s15 hk16 hf e he; subst he
 unfold r25_Copy_l2 at hf
 cbv
 refine d_b hS hf ?_ ?_
 ·intro hf; cbv
  refine d_idx hS hM hf rfl rfl ?_
  intro x18 hf; cbv
  refine d_p hS hf (fun _=>c89 hM) ?_
  intro y19 hf; cbv
  refine d_room hS hf d_e ?_
  intro hf; cbv
  exact d_x hk16 hf
 intro hf; cbv
 refine d_lp hS (tabxOK 0 [] [[(14,true),(19,true),(0,false),(0,false),(94,true),(89,true),(6,true),(0,false),(0,false),(0,false),(0,false),(0,false),(0,false),(0,false),(0,false),(0,false),(0,false),(0,false),(0,false)]]) wf [.cO 2 6 6] [1,2,3,10] (fun s20=>⟨tpsL 0 141 [(1,.lv 0 0),(2,.lv 1 0),(3,.lv 2 0),(10,.si .i64 s20.1)],[(0,some (.var false (eGState M s))),(1,some (.var false [.sl 0 [] true,.sl 0 [] true,.sl 0 [] true,.sl 0 [] true,.sl 0 [] true,.sl 0 [] true,.sl 0 [] true,.si .i64 0,.si .i64 0,.si .i64 0,.sb false,.si .i64 0,.si .i64 0,.si .i64 0,.si .i64 0,.si .u64 0,.sl 0 [] true,.si .i64 0,.si .i64 0])),(2,some (.var false [.os 3 0 (S.lenN (M.m GPlayer (eGPlayer M) s1.2)),.os 4 0 (S.lenN (S.app (S.sub ([]) 0 0) (M.m GObject (eGObject M) s.objects))),.sl 1 (M.m Int (eI .i64) y8) false,.sl 1 (M.m Int (eI .i64) y9) false,.os 5 0 (S.lenN (M.m GItem (eGItem M) s10.2)),.os 6 0 (S.lenN (M.m GWaiting (eGWaiting M) s15.2)),.os 7 0 (S.lenN (M.m GCont (eGCont M) s20.2)),.si .i64 s.turn,.si .i64 s.active,.si .i64 s.step,.sb s.begun,.si .i64 s.priority,.si .i64 s.passes,.si .i64 s.nextId,.si .i64 s.nextStamp,.si .u64 s.seed,.sl 1 (M.m Int (eI .i64) s.extra) false,.si .i64 s.over,.si .i64 s.winner])),(3,some (.arr false 14 (M.m GPlayer (eGPlayer M) s1.2))),(4,some (.arr false 19 (S.app (S.sub ([]) 0 0) (M.m GObject (eGObject M) s.objects)))),(5,some (.arr false 94 (M.m GItem (eGItem M) s10.2))),(6,some (.arr false 89 (M.m GWaiting (eGWaiting M) s15.2))),(7,some (.arr false 6 (M.m GCont (eGCont M) s20.2)))],8⟩) hf ?_
 intro Ik21 k21 s20 hk21 hf e he; subst he
 unfold r25_Copy_l1 at hf
 cbv
 refine d_b hS hf ?_ ?_
 ·intro hf; cbv
  refine d_idx hS hM hf rfl rfl ?_
  intro x23 hf; cbv
  refine d_p hS hf (fun _=>c88 hM) ?_
  intro y24 hf; cbv
  refine d_room hS hf d_e ?_
  intro hf; cbv
  refine d_room hS hf d_e ?_
  intro hf; cbv
  exact d_x hk21 hf
 intro hf; cbv
 refine d_p hS hf (fun _=>c88 hM) ?_
 intro y25 hf; cbv
 cases hf; exact hR _ _ _ d_st d_st rfl
end Go.Proofs.YtddcpnlflncahaaGreat
