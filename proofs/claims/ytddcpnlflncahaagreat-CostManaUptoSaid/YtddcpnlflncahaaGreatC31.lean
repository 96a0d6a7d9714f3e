import Derived.Test.YtddcpnlflncahaaGreatC07
import Derived.Test.YtddcpnlflncahaaGreatC30
set_option linter.all false
namespace Go.Proofs.YtddcpnlflncahaaGreat
open Go Go.Pv
set_option maxRecDepth 100000
def szGFilter (x:GFilter):Prop:=szB x.sub
def szGMod (x:GMod):Prop:=szB x.sub∧szGFilter x.filter
def szGTrigger (x:GTrigger):Prop:=szGFilter x.filter
def szGSpec (x:GSpec):Prop:=szGFilter x.filter
def szGRef (x:GRef):Prop:=szGFilter x.filter
def szGAmount (x:GAmount):Prop:=szGFilter x.filter
def szGEffect (x:GEffect):Prop:=szGRef x.ref∧szGAmount x.amount∧szB x.card∧szGFilter x.filter∧(szL szGMod) x.mods
def szGReplace (x:GReplace):Prop:=szGFilter x.filter
def szGAbility (x:GAbility):Prop:=szGFilter x.filter∧(szL szGMod) x.mods∧szGTrigger x.trigger∧(szL szGSpec) x.specs∧(szL szGEffect) x.effects∧szGReplace x.replace
def szGPlayer (x:GPlayer):Prop:=(szL (fun (_:Int)=>True)) x.library∧(szL (fun (_:Int)=>True)) x.hand∧(szL (fun (_:Int)=>True)) x.graveyard
def szGItem (x:GItem):Prop:=szGAbility x.ability∧(szL (fun (_:GTarget)=>True)) x.targets
def szGWaiting (x:GWaiting):Prop:=szGAbility x.ability
def szGCont (x:GCont):Prop:=(szL (fun (_:Int)=>True)) x.objects∧(szL szGMod) x.mods
def szGState (x:GState):Prop:=(szL szGPlayer) x.players∧(szL (fun (_:GObject)=>True)) x.objects∧(szL (fun (_:Int)=>True)) x.battlefield∧(szL (fun (_:Int)=>True)) x.exile∧(szL szGItem) x.stack∧(szL szGWaiting) x.waiting∧(szL szGCont) x.conts∧(szL (fun (_:Int)=>True)) x.extra
theorem five {i:Nat} (h:i<5):i=0∨i=1∨i=2∨i=3∨i=4:=by omega
theorem ok_seln {ρ:Type} {Q:ρ→Prop} {n m:Nat} {k:Nat→Option ρ} (h:n<m) (hk:Ok Q (k n)):Ok Q (sel (n:Int) m k):=ok_sel (by omega) (by omega) fun j hj=>by
 have:j=n:=by omega
 rw [this]; exact hk
def colN (c:Arr5 Int):Nat→Int
 | 0=>c.a0 | 1=>c.a1 | 2=>c.a2 | 3=>c.a3 | _=>c.a4
def isC (c:GCost):Prop:=(0≤c.generic∧c.generic≤99∧0≤c.x∧c.x≤2)∧∀ j,j<5→0≤colN c.color j∧colN c.color j≤9
theorem deq {p:Prop} [Decidable p] (h:(decide p == false)=false):p:=by simpa using h
theorem ok_ltb {ρ:Type} {Q:ρ→Prop} {x b:Bool} {k:Bool→Option ρ} (h:x=b) (hk:Ok Q (k b)):Ok Q (lt x k):=by subst h; exact hk
theorem ok_brt {ρ:Type} {Q:ρ→Prop} {c:Bool} {a b:Option ρ} (h:c=true) (hk:Ok Q a):Ok Q (br c a b):=by subst h; exact hk
theorem ok_brf {ρ:Type} {Q:ρ→Prop} {c:Bool} {a b:Option ρ} (h:c=false) (hk:Ok Q b):Ok Q (br c a b):=by subst h; exact hk
theorem six {i:Nat} (h:i<6):i=0∨i=1∨i=2∨i=3∨i=4∨i=5:=by omega
end Go.Proofs.YtddcpnlflncahaaGreat
namespace Go.Proofs.YtddcpnlflncahaaGreat
open Go Go.Pv
def poolN (p:Arr6 Int):Nat→Int
 | 0=>p.a0 | 1=>p.a1 | 2=>p.a2 | 3=>p.a3 | 4=>p.a4 | _=>p.a5
def whole (p:Arr6 Int):Prop:=∀ j,j<6→0≤poolN p j∧poolN p j≤1000000
def canF (p:Arr6 Int) (c:GCost) (x:Int):Prop:=isC c∧whole p∧0≤x∧x≤1000000 ∧
 (c.color.a0≤p.a1∧c.color.a1≤p.a2∧c.color.a2≤p.a3∧c.color.a3≤p.a4∧c.color.a4≤p.a5) ∧
 c.generic+c.x * x≤p.a0+(p.a1 - c.color.a0)+(p.a2 - c.color.a1)+(p.a3 - c.color.a2)+(p.a4 - c.color.a3)+(p.a5 - c.color.a4)
theorem mana_Is_ok (c:GCost):Ok (fun r=>r=true ↔ isC c) (mana_Is c):=by
 unfold mana_Is
 refine ok_for1 0 5 (fun n=>∀ j,j<n→0≤colN c.color j∧colN c.color j≤9) 0 rfl (by omega) (by omega) (fun j h=>by omega) ?_ ?_
 ·intro i k hi hI hk
  unfold mana_Is_l1
  refine ok_brd (fun _=>ok_jn (fun s=>s=colN c.color i) ?_ ?_) fun h=>absurd (show (i:Int)<5 by omega) h
  ·intro k4 h4
   rcases five hi with rfl | rfl | rfl | rfl | rfl <;> exact ok_seln (by omega) (h4 _ rfl)
  ·rintro s rfl
   refine ok_jn (fun s=>s=decide (colN c.color i<0∨9<colN c.color i)) ?_ ?_
   ·intro k7 h7
    exact ok_brd (fun h=>h7 _ (by simp [h])) fun h=>h7 _ (by simp [h])
   ·rintro s rfl
    refine ok_brd (fun h=>ok_some ?_) fun h=>hk fun j hj=>?_
    ·refine ⟨fun h=>(by cases h),fun hC=>?_⟩
     have:=hC.2 i hi; omega
    ·by_cases e:j=i
     ·subst e; omega
     ·exact hI j (by omega)
 ·intro k hI
  unfold mana_Is_l1
  refine ok_brd (fun h=>absurd h (by omega)) fun _=>ok_brd (fun h1=>ok_brd (fun h2=>ok_brd (fun h3=>ok_some ?_) fun h=>ok_some ?_) fun h=>ok_some ?_) fun h=>ok_some ?_
  ·rw [decide_eq_true_iff]
   exact ⟨fun h4=>⟨⟨h1,h2,h3,h4⟩,hI⟩,fun hC=>hC.1.2.2.2⟩
  all_goals exact ⟨fun h=>(by cases h),fun hC=>by have:=hC.1; omega⟩
theorem mana_Whole_ok (p:Arr6 Int):Ok (fun r=>r=true ↔ whole p) (mana_Whole p):=by
 unfold mana_Whole
 refine ok_for1 0 6 (fun n=>∀ j,j<n→0≤poolN p j∧poolN p j≤1000000) 0 rfl (by omega) (by omega) (fun j h=>by omega) ?_ ?_
 ·intro i k hi hI hk
  unfold mana_Whole_l1
  refine ok_brd (fun _=>ok_jn (fun s=>s=poolN p i) ?_ ?_) fun h=>absurd (show (i:Int)<6 by omega) h
  ·intro k4 h4
   rcases six hi with rfl | rfl | rfl | rfl | rfl | rfl <;> exact ok_seln (by omega) (h4 _ rfl)
  ·rintro s rfl
   refine ok_jn (fun s=>s=decide (poolN p i<0∨1000000<poolN p i)) ?_ ?_
   ·intro k7 h7
    exact ok_brd (fun h=>h7 _ (by simp [h])) fun h=>h7 _ (by simp [h])
   ·rintro s rfl
    refine ok_brd (fun h=>ok_some ?_) fun h=>hk fun j hj=>?_
    ·refine ⟨fun h=>(by cases h),fun hC=>?_⟩
     have:=hC i hi; omega
    ·by_cases e:j=i
     ·subst e; omega
     ·exact hI j (by omega)
 ·intro k hI
  unfold mana_Whole_l1
  exact ok_brd (fun h=>absurd h (by omega)) fun _=>ok_some ⟨fun _=>hI,fun _=>rfl⟩
theorem r08_Is_ok (c:GCost):Ok (fun r=>r=true ↔ isC c) (r08_Is c):=by
 unfold r08_Is
 refine ok_jn (fun s=>s=decide (c.generic<0∨99<c.generic∨c.x<0∨2<c.x)) ?_ ?_
 ·intro k2 h2
  exact ok_brd (fun h=>h2 _ (by simp [h])) fun a=>ok_brd (fun h=>h2 _ (by simp [h])) fun b=>ok_brd (fun h=>h2 _ (by simp [h])) fun d=>h2 _ (by simp [a,b,d])
 ·rintro s rfl
  refine ok_brd (fun h=>ok_some ⟨fun h=>(by cases h),fun hC=>by have:=hC.1; omega⟩) fun h0=>?_
  refine ok_for1 0 5 (fun n=>∀ j,j<n→0≤colN c.color j∧colN c.color j≤9) 0 rfl (by omega) (by omega) (fun j h=>by omega) ?_ ?_
  ·intro i k hi hI hk
   unfold r08_Is_l1
   refine ok_brd (fun _=>ok_jn (fun s=>s=decide (colN c.color i<0∨9<colN c.color i)) ?_ ?_) fun h=>absurd (show (i:Int)<5 by omega) h
   ·intro k6 h6
    rcases five hi with rfl | rfl | rfl | rfl | rfl <;>
     exact ok_seln (by omega) (ok_brd (fun h=>h6 _ (by simp only [colN]; simp [h])) fun h=>ok_seln (by omega) (h6 _ (by simp only [colN]; simp [h])))
   ·rintro s rfl
    refine ok_brd (fun h=>ok_some ?_) fun h=>hk fun j hj=>?_
    ·refine ⟨fun h=>(by cases h),fun hC=>?_⟩
     have:=hC.2 i hi; omega
    ·by_cases e:j=i
     ·subst e; omega
     ·exact hI j (by omega)
  ·intro k hI
   unfold r08_Is_l1
   exact ok_brd (fun h=>absurd h (by omega)) fun _=>ok_some ⟨fun _=>⟨by omega,hI⟩,fun _=>rfl⟩
theorem r08_Whole_ok (p:Arr6 Int):Ok (fun r=>r=true ↔ whole p) (r08_Whole p):=by
 unfold r08_Whole
 refine ok_for1 0 6 (fun n=>∀ j,j<n→0≤poolN p j∧poolN p j≤1000000) 0 rfl (by omega) (by omega) (fun j h=>by omega) ?_ ?_
 ·intro i k hi hI hk
  unfold r08_Whole_l1
  refine ok_brd (fun _=>ok_jn (fun s=>s=decide (poolN p i<0∨1000000<poolN p i)) ?_ ?_) fun h=>absurd (show (i:Int)<6 by omega) h
  ·intro k6 h6
   rcases six hi with rfl | rfl | rfl | rfl | rfl | rfl <;>
    exact ok_seln (by omega) (ok_brd (fun h=>h6 _ (by simp only [poolN]; simp [h])) fun h=>ok_seln (by omega) (h6 _ (by simp only [poolN]; simp [h])))
  ·rintro s rfl
   refine ok_brd (fun h=>ok_some ?_) fun h=>hk fun j hj=>?_
   ·refine ⟨fun h=>(by cases h),fun hC=>?_⟩
    have:=hC i hi; omega
   ·by_cases e:j=i
    ·subst e; omega
    ·exact hI j (by omega)
 ·intro k hI
  unfold r08_Whole_l1
  exact ok_brd (fun h=>absurd h (by omega)) fun _=>ok_some ⟨fun _=>hI,fun _=>rfl⟩
theorem minI {r n:Int} (hr:0≤r∧r≤1000000) (hn:0≤n∧n≤9000000):∃ m,(if r<n then r else n)=m∧subI r m=r - m∧subI n m=n - m∧0≤m∧m≤r∧m≤n∧(m=r∨m=n):=by
 refine ⟨_,rfl,?_⟩
 by_cases h:r<n
 ·rw [if_pos h]
  exact ⟨subI_eq (by omega) (by omega),subI_eq (by omega) (by omega),by omega,by omega,by omega,.inl rfl⟩
 ·rw [if_neg h]
  exact ⟨subI_eq (by omega) (by omega),subI_eq (by omega) (by omega),by omega,by omega,by omega,.inr rfl⟩
theorem need_ok {c:GCost} {x:Int} (hC:isC c) (hx:0≤x∧x≤1000000):addI c.generic (mulI c.x x)=c.generic+c.x * x∧0≤c.x * x∧c.x * x≤2000000:=by
 obtain ⟨⟨h1,h2,h3,h4⟩,_⟩:=hC
 have h5:0≤c.x * x∧c.x * x≤2000000:=by
  have:c.x=0∨c.x=1∨c.x=2:=by omega
  rcases this with e | e | e <;> rw [e] <;> omega
 refine ⟨?_,h5⟩
 rw [mulI_eq (by omega) (by omega),addI_eq (by omega) (by omega)]
def subP (p:Arr6 Int) (c:Arr5 Int) (n:Nat):Arr6 Int:=⟨p.a0,if 0<n then p.a1 - c.a0 else p.a1,if 1<n then p.a2 - c.a1 else p.a2,if 2<n then p.a3 - c.a2 else p.a3,if 3<n then p.a4 - c.a3 else p.a4,if 4<n then p.a5 - c.a4 else p.a5⟩
theorem mana_Pay_ok (p:Arr6 Int) (c:GCost) (x:Int):Ok (fun r=>r.2=0 ↔ canF p c x) (mana_Pay p c x):=by
 unfold mana_Pay
 refine ok_jn (fun s=>s=true ↔ ¬ (isC c∧whole p∧0≤x∧x≤1000000)) ?_ ?_
 ·intro k2 h2
  refine ok_bnd (mana_Is_ok c) fun y3 e3=>ok_br (fun h=>h2 _ ?_) fun h=>?_
  ·have:¬ isC c:=by rw [← e3]; simp at h; simp [h]
   simp [this]
  have hC:isC c:=e3.1 (by simpa using h)
  refine ok_bnd (mana_Whole_ok p) fun y4 e4=>ok_br (fun h=>h2 _ ?_) fun h=>?_
  ·have:¬ whole p:=by rw [← e4]; simp at h; simp [h]
   simp [this]
  have hW:whole p:=e4.1 (by simpa using h)
  refine ok_brd (fun h=>h2 _ ?_) fun h=>h2 _ ?_
  ·simp; intro _ _ h3; omega
  ·rw [decide_eq_true_iff]; constructor
   ·intro h4 h5; omega
   ·intro h4; exact Classical.byContradiction fun h5=>h4 ⟨hC,hW,by omega,by omega⟩
 ·intro s hs
  refine ok_br (fun h=>ok_some ?_) fun h=>?_
  ·have:=hs.1 h
   refine ⟨fun h=>(by cases h),fun hC=>absurd ⟨hC.1,hC.2.1,hC.2.2.1,hC.2.2.2.1⟩ this⟩
  obtain ⟨hC,hW,hx0,hx1⟩:isC c∧whole p∧0≤x∧x≤1000000:=Classical.byContradiction fun hn=>by rw [hs.2 hn] at h; cases h
  obtain ⟨hneed,hm0,hm1⟩:=need_ok hC ⟨hx0,hx1⟩
  have c0:=hC.2 0 (by omega); have c1:=hC.2 1 (by omega); have c2:=hC.2 2 (by omega); have c3:=hC.2 3 (by omega); have c4:=hC.2 4 (by omega)
  have w0:=hW 0 (by omega); have w1:=hW 1 (by omega); have w2:=hW 2 (by omega); have w3:=hW 3 (by omega); have w4:=hW 4 (by omega); have w5:=hW 5 (by omega)
  simp only [colN,poolN] at c0 c1 c2 c3 c4 w0 w1 w2 w3 w4 w5
  obtain ⟨g0,g1,g2,g3⟩:=hC.1
  refine ok_jn (fun s=>s=true→(p.a0=0∧p.a1=0∧p.a2=0∧p.a3=0∧p.a4=0∧p.a5=0)∧c.generic=0∧c.x=0∧c.color.a0=0∧c.color.a1=0∧c.color.a2=0∧c.color.a3=0∧c.color.a4=0) ?_ ?_
  ·intro k6 h6
   refine ok_lte fun v7 e7=>ok_br (fun h7=>ok_lte fun v8 e8=>h6 _ fun h8=>?_) fun _=>h6 _ fun h=>by cases h
   rw [e7] at h7; rw [e8] at h8
   simp only [Bool.and_eq_true,decide_eq_true_eq,and_true] at h7 h8
   exact ⟨h7,h8⟩
  ·intro s hs
   refine ok_br (fun h=>ok_some ?_) fun _=>?_
   ·obtain ⟨⟨e0,e1,e2,e3,e4,e5⟩,f0,f1,f2,f3,f4,f5,f6⟩:=hs h
    refine ⟨fun _=>⟨hC,hW,hx0,hx1,by omega,?_⟩,fun _=>rfl⟩
    rw [f1]; omega
   ·refine ok_forr 0 5 (fun n t=>t=subP p c.color n∧∀ j,j<n→colN c.color j≤poolN p (j+1)) 0 rfl (by omega) (by omega) ⟨rfl,fun j h=>by omega⟩ ?_ ?_
    ·rintro i t k hi ⟨rfl,hI⟩ hk
     have hsum:=addI_nat (n:=i) (by omega)
     unfold mana_Pay_l1
     simp only [hsum] at hk ⊢
     refine ok_brd (fun _=>ok_jn (fun s=>s=colN c.color i) ?_ ?_) fun h=>absurd (show (i:Int)<5 by omega) h
     ·intro k4 h4
      rcases five hi with rfl | rfl | rfl | rfl | rfl <;> exact ok_seln (by omega) (h4 _ rfl)
     ·rintro s rfl
      refine ok_jn (fun s=>s=subP p c.color (i+1)) ?_ ?_
      ·intro k15 h15
       rcases five hi with rfl | rfl | rfl | rfl | rfl
       all_goals
        refine ok_seln (by omega) (ok_seln (by omega) (h15 _ ?_))
        simp only [subP,colN]
        rw [subI_eq (by simp; omega) (by simp; omega)]
        simp
      ·rintro s rfl
       refine ok_jn (fun s=>s=decide (poolN p (i+1)<colN c.color i)) ?_ ?_
       ·intro k24 h24
        rcases five hi with rfl | rfl | rfl | rfl | rfl
        all_goals
         refine ok_seln (by omega) (h24 _ ?_)
         simp only [subP,colN,poolN]
         congr 1
         simp
         omega
       ·rintro s rfl
        refine ok_brd (fun h=>ok_some ?_) fun h=>hk _ ⟨rfl,fun j hj=>?_⟩
        ·refine ⟨fun h=>(by cases h),fun hF=>?_⟩
         have hcols:=hF.2.2.2.2.1
         rcases five hi with rfl | rfl | rfl | rfl | rfl <;> (simp only [poolN,colN] at h; omega)
        ·by_cases e:j=i
         ·subst e; omega
         ·exact hI j (by omega)
    ·rintro t k ⟨rfl,hI⟩
     have i0:=hI 0 (by omega); have i1:=hI 1 (by omega); have i2:=hI 2 (by omega); have i3:=hI 3 (by omega); have i4:=hI 4 (by omega)
     simp only [colN,poolN] at i0 i1 i2 i3 i4
     unfold mana_Pay_l1
     refine ok_brd (fun h=>absurd h (by omega)) fun _=>?_
     simp only [hneed,subP,Nat.reduceLT,if_true]
     obtain ⟨m0,e0,s0,t0,b0⟩:=minI (r:=p.a0) (n:=c.generic+c.x * x) (by omega) (by omega)
     rw [e0,s0,t0]
     refine ok_lte fun v26 _=>ok_lte fun v27 h27=>?_
     obtain ⟨m1,e1,s1,t1,b1⟩:=minI (r:=p.a1 - c.color.a0) (n:=v27) (by omega) (by omega)
     rw [e1,t1]
     obtain ⟨m2,e2,s2,t2,b2⟩:=minI (r:=p.a2 - c.color.a1) (n:=v27 - m1) (by omega) (by omega)
     rw [e2,s2,t2]
     refine ok_lte fun v28 _=>ok_lte fun v29 h29=>?_
     obtain ⟨m3,e3,s3,t3,b3⟩:=minI (r:=p.a3 - c.color.a2) (n:=v29) (by omega) (by omega)
     rw [e3,t3]
     obtain ⟨m4,e4,s4,t4,b4⟩:=minI (r:=p.a4 - c.color.a3) (n:=v29 - m3) (by omega) (by omega)
     rw [e4,s4,t4]
     refine ok_lte fun v30 _=>ok_lte fun v31 h31=>?_
     obtain ⟨m5,e5,s5,t5,b5⟩:=minI (r:=p.a5 - c.color.a4) (n:=v31) (by omega) (by omega)
     rw [e5,t5]
     refine ok_lte fun v32 h32=>ok_br (fun h=>ok_some ?_) fun h=>ok_some ?_
     ·rw [h32,decide_eq_true_iff] at h
      refine ⟨fun h=>(by cases h),fun hF=>?_⟩
      have:=hF.2.2.2.2.2; omega
     ·rw [h32,decide_eq_false_iff_not] at h
      exact ⟨fun _=>⟨hC,hW,hx0,hx1,by omega,by omega⟩,fun _=>rfl⟩
theorem r08_Pay_ok (p:Arr6 Int) (c:GCost) (x:Int):Ok (fun r=>r.2=0 ↔ canF p c x) (r08_Pay p c x):=by
 unfold r08_Pay
 refine ok_jn (fun s=>s=true ↔ ¬ (isC c∧whole p∧0≤x∧x≤1000000)) ?_ ?_
 ·intro k2 h2
  refine ok_bnd (r08_Is_ok c) fun y3 e3=>ok_br (fun h=>h2 _ ?_) fun h=>?_
  ·have:¬ isC c:=by rw [← e3]; simp at h; simp [h]
   simp [this]
  have hC:isC c:=e3.1 (by simpa using h)
  refine ok_bnd (r08_Whole_ok p) fun y4 e4=>ok_br (fun h=>h2 _ ?_) fun h=>?_
  ·have:¬ whole p:=by rw [← e4]; simp at h; simp [h]
   simp [this]
  have hW:whole p:=e4.1 (by simpa using h)
  refine ok_brd (fun h=>h2 _ ?_) fun h=>h2 _ ?_
  ·simp; intro _ _ h3; omega
  ·rw [decide_eq_true_iff]; constructor
   ·intro h4 h5; omega
   ·intro h4; exact Classical.byContradiction fun h5=>h4 ⟨hC,hW,by omega,by omega⟩
 ·intro s hs
  refine ok_br (fun h=>ok_some ?_) fun h=>?_
  ·have:=hs.1 h
   refine ⟨fun h=>(by cases h),fun hC=>absurd ⟨hC.1,hC.2.1,hC.2.2.1,hC.2.2.2.1⟩ this⟩
  obtain ⟨hC,hW,hx0,hx1⟩:isC c∧whole p∧0≤x∧x≤1000000:=Classical.byContradiction fun hn=>by rw [hs.2 hn] at h; cases h
  obtain ⟨hneed,hm0,hm1⟩:=need_ok hC ⟨hx0,hx1⟩
  have c0:=hC.2 0 (by omega); have c1:=hC.2 1 (by omega); have c2:=hC.2 2 (by omega); have c3:=hC.2 3 (by omega); have c4:=hC.2 4 (by omega)
  have w0:=hW 0 (by omega); have w1:=hW 1 (by omega); have w2:=hW 2 (by omega); have w3:=hW 3 (by omega); have w4:=hW 4 (by omega); have w5:=hW 5 (by omega)
  simp only [colN,poolN] at c0 c1 c2 c3 c4 w0 w1 w2 w3 w4 w5
  obtain ⟨g0,g1,g2,g3⟩:=hC.1
  have bad:(p.a1<c.color.a0∨p.a2<c.color.a1∨p.a3<c.color.a2∨p.a4<c.color.a3∨p.a5<c.color.a4)→Ok (fun r=>r.2=0 ↔ canF p c x) (some ((zArr6I,12):Arr6 Int × Int)):=fun hb =>
   ok_some ⟨fun h=>(by cases h),fun hF=>by have:=hF.2.2.2.2.1; omega⟩
  have s1:=subI_eq (a:=p.a1) (b:=c.color.a0) (by omega) (by omega)
  have s2:=subI_eq (a:=p.a2) (b:=c.color.a1) (by omega) (by omega)
  have s3:=subI_eq (a:=p.a3) (b:=c.color.a2) (by omega) (by omega)
  have s4:=subI_eq (a:=p.a4) (b:=c.color.a3) (by omega) (by omega)
  have s5:=subI_eq (a:=p.a5) (b:=c.color.a4) (by omega) (by omega)
  rw [hneed,s1,s2,s3,s4,s5]
  have a1:=addI_eq (a:=p.a0) (b:=p.a1 - c.color.a0) (by omega) (by omega)
  have a2:=addI_eq (a:=p.a0+(p.a1 - c.color.a0)) (b:=p.a2 - c.color.a1) (by omega) (by omega)
  refine ok_brd (fun h=>bad (by omega)) fun h1=>ok_brd (fun h=>bad (by omega)) fun h2=>ok_lte fun v5 e5=>?_
  rw [a1,a2] at e5
  have a3:=addI_eq (a:=v5) (b:=p.a3 - c.color.a2) (by omega) (by omega)
  have a4:=addI_eq (a:=v5+(p.a3 - c.color.a2)) (b:=p.a4 - c.color.a3) (by omega) (by omega)
  refine ok_brd (fun h=>bad (by omega)) fun h3=>ok_brd (fun h=>bad (by omega)) fun h4=>ok_lte fun v6 e6=>?_
  rw [a3,a4] at e6
  have a5:=addI_eq (a:=v6) (b:=p.a5 - c.color.a4) (by omega) (by omega)
  refine ok_brd (fun h=>bad (by omega)) fun h5=>ok_lte fun v7 e7=>?_
  rw [a5] at e7
  refine ok_br (fun h=>ok_some ?_) fun h=>?_
  ·rw [e7,decide_eq_true_iff] at h
   exact ⟨fun h=>(by cases h),fun hF=>by have:=hF.2.2.2.2.2; omega⟩
  ·rw [e7,decide_eq_false_iff_not] at h
   iterate 12 refine ok_lte fun _ _=>?_
   exact ok_some ⟨fun _=>⟨hC,hW,hx0,hx1,by omega,by omega⟩,fun _=>rfl⟩
def MostS (p:Arr6 Int) (c:GCost) (r:Int):Prop :=
 (¬ canF p c 0∧r=-1)∨(canF p c 0∧c.x=0∧r=0)∨(canF p c 0∧c.x ≠ 0∧canF p c r∧∀ y,r<y→y≤1000000→¬ canF p c y)
theorem MostS.one {p:Arr6 Int} {c:GCost} {r s:Int} (h:MostS p c r) (k:MostS p c s):r=s:=by
 rcases h with ⟨h1,h2⟩ | ⟨h1,h2,h3⟩ | ⟨h1,h2,h3,h4⟩ <;> rcases k with ⟨k1,k2⟩ | ⟨k1,k2,k3⟩ | ⟨k1,k2,k3,k4⟩
 ·omega
 ·exact absurd k1 h1
 ·exact absurd k1 h1
 ·exact absurd h1 k1
 ·omega
 ·exact absurd h2 k2
 ·exact absurd h1 k1
 ·exact absurd k2 h2
 ·rcases Int.lt_trichotomy r s with h | h | h
  ·exact absurd k3 (h4 s h k3.2.2.2.1)
  ·exact h
  ·exact absurd h3 (k4 r h h3.2.2.2.1)
theorem can_mono {p:Arr6 Int} {c:GCost} {x y:Int} (h:canF p c y) (h0:0≤x) (hxy:x≤y):canF p c x:=by
 obtain ⟨hC,hW,h1,h2,h3,h4⟩:=h
 refine ⟨hC,hW,h0,by omega,h3,?_⟩
 have h5:c.x * x≤c.x * y:=Int.mul_le_mul_of_nonneg_left hxy hC.1.2.2.1
 omega
theorem mana_CanPay_ok (p:Arr6 Int) (c:GCost) (x:Int):Ok (fun r=>r=true ↔ canF p c x) (mana_CanPay p c x):=by
 unfold mana_CanPay
 refine ok_bnd (mana_Pay_ok p c x) fun y hy=>ok_some ?_
 rw [decide_eq_true_iff]; exact hy
theorem r08_CanPay_ok (p:Arr6 Int) (c:GCost) (x:Int):Ok (fun r=>r=true ↔ canF p c x) (r08_CanPay p c x):=by
 unfold r08_CanPay
 refine ok_bnd (r08_Pay_ok p c x) fun y hy=>ok_some ?_
 rw [decide_eq_true_iff]; exact hy
theorem cost_MostX_1_ok (p:Arr6 Int) (c:GCost) (x:Int):Ok (fun r=>r=true ↔ canF p c x) (cost_MostX_1 x p c):=by
 unfold cost_MostX_1
 exact ok_bnd (mana_CanPay_ok p c x) fun y hy=>ok_some hy
theorem half {a:Int} (h0:0≤a) (h1:a≤9000000):IntKind.i64.wrap (a.tdiv 2)=a / 2:=by
 rw [Int.tdiv_eq_ediv_of_nonneg h0,wrap_in (by omega) (by omega)]
theorem MostX_ok (p:Arr6 Int) (c:GCost):Ok (MostS p c) (cost_MostX p c):=by
 unfold cost_MostX
 refine ok_bnd (cost_MostX_1_ok p c 0) fun y1 h1=>ok_br (fun h=>ok_some (.inl ⟨by rw [← h1]; simp at h; simp [h],rfl⟩)) fun h=>?_
 have h0:canF p c 0:=h1.1 (by simpa using h)
 refine ok_brd (fun h=>ok_some (.inr (.inl ⟨h0,h,rfl⟩))) fun hx=>?_
 refine ok_loop (fun s=>0≤s.1∧s.1≤s.2∧s.2≤1000000∧canF p c s.1∧∀ y,s.2<y→y≤1000000→¬ canF p c y) (fun s=>(s.2 - s.1).toNat) ⟨by decide,by decide,by decide,h0,fun y h1 h2=>by simp only at h1; omega⟩ (by show _<18446744073709551616; decide) ?_
 rintro ⟨lo,hi⟩ k ⟨i1,i2,i3,i4,i5⟩ hk
 simp only at i1 i2 i3 i4 i5
 unfold cost_MostX_l1
 refine ok_brd (fun h=>?_) fun h=>ok_some (.inr (.inr ⟨h0,hx,i4,fun y h1 h2=>i5 y (by simp only at h h1; omega) h2⟩))
 simp only at h ⊢
 have s1:=subI_eq (a:=hi) (b:=lo) (by omega) (by omega)
 refine ok_divquo (by decide) fun x4 hx4=>?_
 rw [s1,half (by omega) (by omega)] at hx4
 have s2:=subI_eq (a:=hi) (b:=x4) (by omega) (by omega)
 rw [s2]
 refine ok_bnd (cost_MostX_1_ok p c (hi - x4)) fun y5 h5=>ok_br (fun h=>?_) fun h=>?_
 ·exact hk (hi - x4,hi) ⟨by simp only; omega,by simp only; omega,i3,h5.1 h,i5⟩ (by simp only; omega)
 ·have s3:=subI_eq (a:=hi - x4) (b:=1) (by omega) (by omega)
  rw [s3]
  refine hk (lo,hi - x4 - 1) ⟨i1,by simp only; omega,by simp only; omega,i4,fun y g1 g2 g3=>?_⟩ (by simp only; omega)
  simp only at g1
  have:=h5.2 (can_mono g3 (by omega) (by omega))
  rw [h] at this; cases this
theorem MostX2_ok (p:Arr6 Int) (c:GCost):Ok (MostS p c) (r39_MostX p c):=by
 unfold r39_MostX
 refine ok_bnd (r08_CanPay_ok p c 0) fun y1 h1=>ok_br (fun h=>ok_some (.inl ⟨by rw [← h1]; simp at h; simp [h],rfl⟩)) fun h=>?_
 have h0:canF p c 0:=h1.1 (by simpa using h)
 refine ok_brd (fun h=>ok_some (.inr (.inl ⟨h0,h,rfl⟩))) fun hx=>?_
 refine ok_loop (fun s=>0≤s.1∧s.1≤s.2∧s.2≤1000000∧canF p c s.1∧∀ y,s.2<y→y≤1000000→¬ canF p c y) (fun s=>(s.2 - s.1).toNat) ⟨by decide,by decide,by decide,h0,fun y h1 h2=>by simp only at h1; omega⟩ (by show _<18446744073709551616; decide) ?_
 rintro ⟨lo,hi⟩ k ⟨i1,i2,i3,i4,i5⟩ hk
 simp only at i1 i2 i3 i4 i5
 unfold r39_MostX_l1
 refine ok_brd (fun h=>?_) fun h=>ok_some (.inr (.inr ⟨h0,hx,i4,fun y h1 h2=>i5 y (by simp only at h h1; omega) h2⟩))
 simp only at h ⊢
 have s1:=addI_eq (a:=lo) (b:=hi) (by omega) (by omega)
 have s2:=addI_eq (a:=lo+hi) (b:=1) (by omega) (by omega)
 refine ok_divquo (by decide) fun x4 hx4=>?_
 rw [s1,s2,half (by omega) (by omega)] at hx4
 refine ok_bnd (r08_CanPay_ok p c x4) fun y5 h5=>ok_br (fun h=>?_) fun h=>?_
 ·exact hk (x4,hi) ⟨by simp only; omega,by simp only; omega,i3,h5.1 h,i5⟩ (by simp only; omega)
 ·have s3:=subI_eq (a:=x4) (b:=1) (by omega) (by omega)
  rw [s3]
  refine hk (lo,x4 - 1) ⟨i1,by simp only; omega,by simp only; omega,i4,fun y g1 g2 g3=>?_⟩ (by simp only; omega)
  simp only at g1
  have:=h5.2 (can_mono g3 (by omega) (by omega))
  rw [h] at this; cases this
end Go.Proofs.YtddcpnlflncahaaGreat
namespace Go.Proofs.YtddcpnlflncahaaGreat
open Go Go.Pv
set_option maxHeartbeats 1000000
def pm (r n:Int):Int:=if r<n then r else n
def left6 (r0 r1 r2 r3 r4 r5 n:Int):Arr6 Int :=
 (fun m0=>(fun m1=>(fun m2=>(fun m3=>(fun m4=>(fun m5=>Arr6.mk (r0 - m0) (r1 - m1) (r2 - m2) (r3 - m3) (r4 - m4) (r5 - m5)) (pm r5 (n - m0 - m1 - m2 - m3 - m4))) (pm r4 (n - m0 - m1 - m2 - m3))) (pm r3 (n - m0 - m1 - m2))) (pm r2 (n - m0 - m1))) (pm r1 (n - m0))) (pm r0 n)
def leftF (p:Arr6 Int) (c:GCost) (x:Int):Arr6 Int:=left6 p.a0 (p.a1 - c.color.a0) (p.a2 - c.color.a1) (p.a3 - c.color.a2) (p.a4 - c.color.a3) (p.a5 - c.color.a4) (c.generic+c.x * x)
theorem left6_eq {r0 r1 r2 r3 r4 r5 n m0 m1 m2 m3 m4 m5:Int} (e0:pm r0 n=m0) (e1:pm r1 (n - m0)=m1) (e2:pm r2 (n - m0 - m1)=m2) (e3:pm r3 (n - m0 - m1 - m2)=m3) (e4:pm r4 (n - m0 - m1 - m2 - m3)=m4) (e5:pm r5 (n - m0 - m1 - m2 - m3 - m4)=m5) :
  left6 r0 r1 r2 r3 r4 r5 n=⟨r0 - m0,r1 - m1,r2 - m2,r3 - m3,r4 - m4,r5 - m5⟩:=by
 subst e0; subst e1; subst e2; subst e3; subst e4; subst e5; rfl
theorem parts {p:Arr6 Int} {c:GCost} {x:Int} (hF:canF p c x):∃ m0 m1 m2 m3 m4 m5:Int,∃ n:Int,n=c.generic+c.x * x ∧
  ((if p.a0<n then p.a0 else n)=m0∧subI p.a0 m0=p.a0 - m0∧subI n m0=n - m0) ∧
  ((if p.a1 - c.color.a0<n - m0 then p.a1 - c.color.a0 else n - m0)=m1∧subI (p.a1 - c.color.a0) m1=p.a1 - c.color.a0 - m1∧subI (n - m0) m1=n - m0 - m1) ∧
  ((if p.a2 - c.color.a1<n - m0 - m1 then p.a2 - c.color.a1 else n - m0 - m1)=m2∧subI (p.a2 - c.color.a1) m2=p.a2 - c.color.a1 - m2∧subI (n - m0 - m1) m2=n - m0 - m1 - m2) ∧
  ((if p.a3 - c.color.a2<n - m0 - m1 - m2 then p.a3 - c.color.a2 else n - m0 - m1 - m2)=m3∧subI (p.a3 - c.color.a2) m3=p.a3 - c.color.a2 - m3∧subI (n - m0 - m1 - m2) m3=n - m0 - m1 - m2 - m3) ∧
  ((if p.a4 - c.color.a3<n - m0 - m1 - m2 - m3 then p.a4 - c.color.a3 else n - m0 - m1 - m2 - m3)=m4∧subI (p.a4 - c.color.a3) m4=p.a4 - c.color.a3 - m4∧subI (n - m0 - m1 - m2 - m3) m4=n - m0 - m1 - m2 - m3 - m4) ∧
  ((if p.a5 - c.color.a4<n - m0 - m1 - m2 - m3 - m4 then p.a5 - c.color.a4 else n - m0 - m1 - m2 - m3 - m4)=m5∧subI (p.a5 - c.color.a4) m5=p.a5 - c.color.a4 - m5∧subI (n - m0 - m1 - m2 - m3 - m4) m5=n - m0 - m1 - m2 - m3 - m4 - m5) ∧
  n - m0 - m1 - m2 - m3 - m4 - m5=0∧0≤m0∧0≤m1∧0≤m2∧0≤m3∧0≤m4∧0≤m5 ∧
  m0≤p.a0∧m1≤p.a1 - c.color.a0∧m2≤p.a2 - c.color.a1∧m3≤p.a3 - c.color.a2∧m4≤p.a4 - c.color.a3∧m5≤p.a5 - c.color.a4 ∧
  leftF p c x=⟨p.a0 - m0,p.a1 - c.color.a0 - m1,p.a2 - c.color.a1 - m2,p.a3 - c.color.a2 - m3,p.a4 - c.color.a3 - m4,p.a5 - c.color.a4 - m5⟩:=by
 obtain ⟨hC,hW,hx0,hx1,⟨k0,k1,k2,k3,k4⟩,hsum⟩:=hF
 obtain ⟨hneed,hm0,hm1⟩:=need_ok hC ⟨hx0,hx1⟩
 have c0:=hC.2 0 (by omega); have c1:=hC.2 1 (by omega); have c2:=hC.2 2 (by omega); have c3:=hC.2 3 (by omega); have c4:=hC.2 4 (by omega)
 have w0:=hW 0 (by omega); have w1:=hW 1 (by omega); have w2:=hW 2 (by omega); have w3:=hW 3 (by omega); have w4:=hW 4 (by omega); have w5:=hW 5 (by omega)
 simp only [colN,poolN] at c0 c1 c2 c3 c4 w0 w1 w2 w3 w4 w5
 obtain ⟨g0,g1,g2,g3⟩:=hC.1
 unfold leftF
 generalize hn:c.generic+c.x * x=n at *
 obtain ⟨m0,e0,s0,t0,b0⟩:=minI (r:=p.a0) (n:=n) (by omega) (by omega)
 obtain ⟨m1,e1,s1,t1,b1⟩:=minI (r:=p.a1 - c.color.a0) (n:=n - m0) (by omega) (by omega)
 obtain ⟨m2,e2,s2,t2,b2⟩:=minI (r:=p.a2 - c.color.a1) (n:=n - m0 - m1) (by omega) (by omega)
 obtain ⟨m3,e3,s3,t3,b3⟩:=minI (r:=p.a3 - c.color.a2) (n:=n - m0 - m1 - m2) (by omega) (by omega)
 obtain ⟨m4,e4,s4,t4,b4⟩:=minI (r:=p.a4 - c.color.a3) (n:=n - m0 - m1 - m2 - m3) (by omega) (by omega)
 obtain ⟨m5,e5,s5,t5,b5⟩:=minI (r:=p.a5 - c.color.a4) (n:=n - m0 - m1 - m2 - m3 - m4) (by omega) (by omega)
 exact ⟨m0,m1,m2,m3,m4,m5,n,rfl,⟨e0,s0,t0⟩,⟨e1,s1,t1⟩,⟨e2,s2,t2⟩,⟨e3,s3,t3⟩,⟨e4,s4,t4⟩,⟨e5,s5,t5⟩,by omega,by omega,by omega,by omega,by omega,by omega,by omega,by omega,by omega,by omega,by omega,by omega,by omega,left6_eq e0 e1 e2 e3 e4 e5⟩
theorem mana_Pay_left {p:Arr6 Int} {c:GCost} {x:Int} (hF:canF p c x):mana_Pay p c x=some (leftF p c x,0):=by
 obtain ⟨m0,m1,m2,m3,m4,m5,n,hn,⟨e0,s0,t0⟩,⟨e1,s1,t1⟩,⟨e2,s2,t2⟩,⟨e3,s3,t3⟩,⟨e4,s4,t4⟩,⟨e5,s5,t5⟩,hz,_,_,_,_,_,_,l0,l1,l2,l3,l4,l5,hL⟩:=parts hF
 rw [hL]
 obtain ⟨hC,hW,hx0,hx1,⟨k0,k1,k2,k3,k4⟩,hsum⟩:=hF
 obtain ⟨hneed,hm0,hm1⟩:=need_ok hC ⟨hx0,hx1⟩
 have c0:=hC.2 0 (by omega); have c1:=hC.2 1 (by omega); have c2:=hC.2 2 (by omega); have c3:=hC.2 3 (by omega); have c4:=hC.2 4 (by omega)
 have w0:=hW 0 (by omega); have w1:=hW 1 (by omega); have w2:=hW 2 (by omega); have w3:=hW 3 (by omega); have w4:=hW 4 (by omega); have w5:=hW 5 (by omega)
 simp only [colN,poolN] at c0 c1 c2 c3 c4 w0 w1 w2 w3 w4 w5
 obtain ⟨g0,g1,g2,g3⟩:=hC.1
 unfold mana_Pay
 refine ok_eq (ok_jn (fun s=>s=false) ?_ ?_)
 ·intro k2 h2
  refine ok_bnd (mana_Is_ok c) fun y3 e3=>ok_br (fun h=>absurd (e3.2 hC) (by simp at h; simp [h])) fun h=>?_
  refine ok_bnd (mana_Whole_ok p) fun y4 e4=>ok_br (fun h=>absurd (e4.2 hW) (by simp at h; simp [h])) fun h=>?_
  exact ok_brd (fun h=>absurd h (by omega)) fun h=>h2 _ (by simp; omega)
 ·rintro s rfl
  refine ok_br (fun h=>by cases h) fun _=>?_
  refine ok_jn (fun s=>s=true→(p.a0=0∧p.a1=0∧p.a2=0∧p.a3=0∧p.a4=0∧p.a5=0)∧c.generic=0∧c.x=0∧c.color.a0=0∧c.color.a1=0∧c.color.a2=0∧c.color.a3=0∧c.color.a4=0) ?_ ?_
  ·intro k6 h6
   refine ok_lte fun v7 e7=>ok_br (fun h7=>ok_lte fun v8 e8=>h6 _ fun h8=>?_) fun _=>h6 _ fun h=>by cases h
   rw [e7] at h7; rw [e8] at h8
   simp only [Bool.and_eq_true,decide_eq_true_eq,and_true] at h7 h8
   exact ⟨h7,h8⟩
  ·intro s hs
   refine ok_br (fun h=>ok_some ?_) fun _=>?_
   ·obtain ⟨⟨f0,f1,f2,f3,f4,f5⟩,f6,f7,f8,f9,f10,f11,f12⟩:=hs h
    obtain ⟨a0,a1,a2,a3,a4,a5⟩:=p
    simp only at *
    congr 1
    congr 1 <;> omega
   ·refine ok_forr 0 5 (fun i t=>t=subP p c.color i) 0 rfl (by omega) (by omega) rfl ?_ ?_
    ·rintro i t k hi rfl hk
     have hsum:=addI_nat (n:=i) (by omega)
     unfold mana_Pay_l1
     simp only [hsum] at hk ⊢
     refine ok_brd (fun _=>ok_jn (fun s=>s=colN c.color i) ?_ ?_) fun h=>absurd (show (i:Int)<5 by omega) h
     ·intro k4 h4
      rcases five hi with rfl | rfl | rfl | rfl | rfl <;> exact ok_seln (by omega) (h4 _ rfl)
     ·rintro s rfl
      refine ok_jn (fun s=>s=subP p c.color (i+1)) ?_ ?_
      ·intro k15 h15
       rcases five hi with rfl | rfl | rfl | rfl | rfl
       all_goals
        refine ok_seln (by omega) (ok_seln (by omega) (h15 _ ?_))
        simp only [subP,colN]
        rw [subI_eq (by simp; omega) (by simp; omega)]
        simp
      ·rintro s rfl
       refine ok_jn (fun s=>s=false) ?_ ?_
       ·intro k24 h24
        rcases five hi with rfl | rfl | rfl | rfl | rfl
        all_goals
         refine ok_seln (by omega) (h24 _ ?_)
         simp only [subP]
         simp
         omega
       ·rintro s rfl
        exact ok_br (fun h=>by cases h) fun h=>hk _ rfl
    ·rintro t k rfl
     unfold mana_Pay_l1
     refine ok_brd (fun h=>absurd h (by omega)) fun _=>?_
     simp only [hneed,subP,Nat.reduceLT,if_true]
     rw [← hn]
     rw [e0,s0,t0]
     refine ok_lte fun v26 h26=>ok_lte fun v27 h27=>?_
     subst h27
     rw [e1,t1,e2,s2,t2]
     refine ok_lte fun v28 h28=>ok_lte fun v29 h29=>?_
     subst h29
     rw [e3,t3,e4,s4,t4]
     refine ok_lte fun v30 h30=>ok_lte fun v31 h31=>?_
     subst h31
     rw [e5,t5]
     refine ok_lte fun v32 h32=>ok_br (fun h=>?_) fun h=>ok_some ?_
     ·rw [h32,decide_eq_true_iff] at h; omega
     ·rw [h26,h28,h30,s1,s3,s5]
theorem r08_Pay_left {p:Arr6 Int} {c:GCost} {x:Int} (hF:canF p c x):r08_Pay p c x=some (leftF p c x,0):=by
 obtain ⟨m0,m1,m2,m3,m4,m5,n,hn,⟨e0,s0,t0⟩,⟨e1,s1,t1⟩,⟨e2,s2,t2⟩,⟨e3,s3,t3⟩,⟨e4,s4,t4⟩,⟨e5,s5,t5⟩,hz,_,_,_,_,_,_,l0,l1,l2,l3,l4,l5,hL⟩:=parts hF
 rw [hL]
 obtain ⟨hC,hW,hx0,hx1,⟨k0,k1,k2,k3,k4⟩,hsum⟩:=hF
 obtain ⟨hneed,hm0,hm1⟩:=need_ok hC ⟨hx0,hx1⟩
 have c0:=hC.2 0 (by omega); have c1:=hC.2 1 (by omega); have c2:=hC.2 2 (by omega); have c3:=hC.2 3 (by omega); have c4:=hC.2 4 (by omega)
 have w0:=hW 0 (by omega); have w1:=hW 1 (by omega); have w2:=hW 2 (by omega); have w3:=hW 3 (by omega); have w4:=hW 4 (by omega); have w5:=hW 5 (by omega)
 simp only [colN,poolN] at c0 c1 c2 c3 c4 w0 w1 w2 w3 w4 w5
 obtain ⟨g0,g1,g2,g3⟩:=hC.1
 unfold r08_Pay
 refine ok_eq (ok_jn (fun s=>s=false) ?_ ?_)
 ·intro k2 h2
  refine ok_bnd (r08_Is_ok c) fun y3 e3=>ok_br (fun h=>absurd (e3.2 hC) (by simp at h; simp [h])) fun h=>?_
  refine ok_bnd (r08_Whole_ok p) fun y4 e4=>ok_br (fun h=>absurd (e4.2 hW) (by simp at h; simp [h])) fun h=>?_
  exact ok_brd (fun h=>absurd h (by omega)) fun h=>h2 _ (by simp; omega)
 ·rintro s rfl
  refine ok_br (fun h=>by cases h) fun _=>?_
  have u1:=subI_eq (a:=p.a1) (b:=c.color.a0) (by omega) (by omega)
  have u2:=subI_eq (a:=p.a2) (b:=c.color.a1) (by omega) (by omega)
  have u3:=subI_eq (a:=p.a3) (b:=c.color.a2) (by omega) (by omega)
  have u4:=subI_eq (a:=p.a4) (b:=c.color.a3) (by omega) (by omega)
  have u5:=subI_eq (a:=p.a5) (b:=c.color.a4) (by omega) (by omega)
  rw [hneed,u1,u2,u3,u4,u5]
  have a1:=addI_eq (a:=p.a0) (b:=p.a1 - c.color.a0) (by omega) (by omega)
  have a2:=addI_eq (a:=p.a0+(p.a1 - c.color.a0)) (b:=p.a2 - c.color.a1) (by omega) (by omega)
  refine ok_brd (fun h=>absurd h (by omega)) fun h1=>ok_brd (fun h=>absurd h (by omega)) fun h2=>ok_lte fun v5 e5'=>?_
  rw [a1,a2] at e5'
  have a3:=addI_eq (a:=v5) (b:=p.a3 - c.color.a2) (by omega) (by omega)
  have a4:=addI_eq (a:=v5+(p.a3 - c.color.a2)) (b:=p.a4 - c.color.a3) (by omega) (by omega)
  refine ok_brd (fun h=>absurd h (by omega)) fun h3=>ok_brd (fun h=>absurd h (by omega)) fun h4=>ok_lte fun v6 e6=>?_
  rw [a3,a4] at e6
  have a5:=addI_eq (a:=v6) (b:=p.a5 - c.color.a4) (by omega) (by omega)
  refine ok_brd (fun h=>absurd h (by omega)) fun h5=>ok_lte fun v7 e7=>?_
  rw [a5] at e7
  refine ok_br (fun h=>?_) fun h=>?_
  ·rw [e7,decide_eq_true_iff] at h; omega
  ·rw [← hn,e0,s0,t0]
   refine ok_lte fun v11 h11=>ok_lte fun v12 h12=>?_
   subst h12; rw [e1,s1,t1]
   refine ok_lte fun v13 h13=>ok_lte fun v14 h14=>?_
   subst h14; rw [e2,s2,t2]
   refine ok_lte fun v15 h15=>ok_lte fun v16 h16=>?_
   subst h16; rw [e3,s3,t3]
   refine ok_lte fun v17 h17=>ok_lte fun v18 h18=>?_
   subst h18; rw [e4,s4,t4]
   refine ok_lte fun v19 h19=>ok_lte fun v20 h20=>?_
   subst h20; rw [e5,s5]
   refine ok_lte fun v21 h21=>ok_lte fun v22 h22=>ok_some ?_
   rw [h11,h13,h15,h17,h19,h21]
end Go.Proofs.YtddcpnlflncahaaGreat
namespace Go.Proofs.YtddcpnlflncahaaGreat
open Go Go.Pv
set_option maxRecDepth 100000
theorem cl_player {l:List GPlayer} (h:l.length≤1048576):slices_Clone_player l=some l:=ok_eq (ok_nl (ok_room (by omega) (by omega) (ok_some rfl)))
theorem cl_int {l:List Int} (h:l.length≤1048576):slices_Clone_int l=some l:=ok_eq (ok_nl (ok_room (by omega) (by omega) (ok_some rfl)))
theorem cl_object {l:List GObject} (h:l.length≤1048576):slices_Clone_object l=some l:=ok_eq (ok_nl (ok_room (by omega) (by omega) (ok_some rfl)))
theorem cl_item {l:List GItem} (h:l.length≤1048576):slices_Clone_item l=some l:=ok_eq (ok_nl (ok_room (by omega) (by omega) (ok_some rfl)))
theorem cl_spec {l:List GSpec} (h:l.length≤1048576):slices_Clone_spec l=some l:=ok_eq (ok_nl (ok_room (by omega) (by omega) (ok_some rfl)))
theorem cl_effect {l:List GEffect} (h:l.length≤1048576):slices_Clone_effect l=some l:=ok_eq (ok_nl (ok_room (by omega) (by omega) (ok_some rfl)))
theorem cl_mod {l:List GMod} (h:l.length≤1048576):slices_Clone_mod l=some l:=ok_eq (ok_nl (ok_room (by omega) (by omega) (ok_some rfl)))
theorem cl_target {l:List GTarget} (h:l.length≤1048576):slices_Clone_target l=some l:=ok_eq (ok_nl (ok_room (by omega) (by omega) (ok_some rfl)))
theorem cl_waiting {l:List GWaiting} (h:l.length≤1048576):slices_Clone_waiting l=some l:=ok_eq (ok_nl (ok_room (by omega) (by omega) (ok_some rfl)))
theorem cl_cont {l:List GCont} (h:l.length≤1048576):slices_Clone_cont l=some l:=ok_eq (ok_nl (ok_room (by omega) (by omega) (ok_some rfl)))
theorem setSelf {α:Type} {l:List α} {i:Nat} (h:i<l.length):l.set i l[i]=l:=List.set_getElem_self h
theorem szMods {e:GEffect} (h:szGEffect e):e.mods.length≤1048576:=h.2.2.2.2.1
theorem copyAbility_ok (a:GAbility) (ha:szGAbility a):zone_copyAbility a=some a:=by
 have h1:a.mods.length≤1048576:=ha.2.1.1
 have h2:a.specs.length≤1048576:=ha.2.2.2.1.1
 have h3:a.effects.length≤1048576:=ha.2.2.2.2.1.1
 unfold zone_copyAbility
 refine ok_eq (ok_bnde (cl_mod h1) (ok_bnde (cl_spec h2) (ok_bnde (cl_effect h3) ?_)))
 refine ok_for 0 a.effects.length (fun _ t=>t=a.effects) 0 rfl (Nat.zero_le _) (by omega) rfl ?_ ?_
 ·rintro i t k hi rfl hk
  have hm:=szMods (ha.2.2.2.2.1.2 _ (List.getElem_mem hi))
  unfold zone_copyAbility_l1
  exact ok_brd (fun _=>ok_ixO i rfl hi (ok_get hi (ok_bnde (cl_mod hm) (ok_ixO i rfl hi (ok_get hi (hk _ (setSelf hi))))))) fun h=>absurd (show (i:Int)<(a.effects.length:Int) by omega) h
 ·rintro t k rfl
  unfold zone_copyAbility_l1
  exact ok_brd (fun h=>absurd h (by show ¬ (a.effects.length:Int)<(a.effects.length:Int); omega)) fun _=>ok_some rfl
theorem copyPlayer_ok (p:GPlayer) (hp:szGPlayer p):zone_copyPlayer p=some p:=by
 unfold zone_copyPlayer
 exact ok_eq (ok_bnde (cl_int hp.1.1) (ok_bnde (cl_int hp.2.1.1) (ok_bnde (cl_int hp.2.2.1) (ok_some rfl))))
theorem zone_Copy_ok (s:GState) (hs:szGState s):zone_Copy s=some s:=by
 obtain ⟨p1,p2,p3,p4,p5,p6,p7,p8⟩:=hs
 have q1:=p1.1; have q2:=p2.1; have q3:=p3.1; have q4:=p4.1; have q5:=p5.1; have q6:=p6.1; have q7:=p7.1; have q8:=p8.1
 unfold zone_Copy
 refine ok_eq (ok_bnde (cl_player q1) ?_)
 refine ok_for 0 s.players.length (fun _ t=>t=s.players) 0 rfl (Nat.zero_le _) (by omega) rfl ?_ ?_
 ·rintro i t k hi rfl hk
  unfold zone_Copy_l4
  exact ok_brd (fun _=>ok_ixO i rfl hi (ok_get hi (ok_bnde (copyPlayer_ok _ (p1.2 _ (List.getElem_mem hi))) (ok_ixO i rfl hi (ok_get hi (hk _ (setSelf hi))))))) fun h=>absurd (show (i:Int)<(s.players.length:Int) by omega) h
 rintro t _ rfl
 unfold zone_Copy_l4
 refine ok_brd (fun h=>absurd h (by show ¬ (s.players.length:Int)<(s.players.length:Int); omega)) fun _=>?_
 refine ok_bnde (cl_object q2) (ok_bnde (cl_int q3) (ok_bnde (cl_int q4) (ok_bnde (cl_item q5) ?_)))
 refine ok_for 0 s.stack.length (fun _ t=>t=s.stack) 0 rfl (Nat.zero_le _) (by omega) rfl ?_ ?_
 ·rintro i t k hi rfl hk
  have z:=p5.2 _ (List.getElem_mem hi)
  have ht:(s.stack[i]).targets.length≤1048576:=z.2.1
  unfold zone_Copy_l3
  refine ok_brd (fun _=>ok_ixO i rfl hi (ok_get hi (ok_bnde (copyAbility_ok _ z.1) (ok_ixO i rfl hi (ok_get hi (ok_ixO i rfl hi ?_)))))) fun h=>absurd (show (i:Int)<(s.stack.length:Int) by omega) h
  have e:s.stack.set i { s.stack[i] with ability:=(s.stack[i]).ability }=s.stack:=setSelf hi
  simp only [e]
  exact ok_get hi (ok_bnde (cl_target ht) (ok_ixO i rfl hi (ok_get hi (hk _ (setSelf hi)))))
 rintro t _ rfl
 unfold zone_Copy_l3
 refine ok_brd (fun h=>absurd h (by show ¬ (s.stack.length:Int)<(s.stack.length:Int); omega)) fun _=>?_
 refine ok_bnde (cl_waiting q6) ?_
 refine ok_for 0 s.waiting.length (fun _ t=>t=s.waiting) 0 rfl (Nat.zero_le _) (by omega) rfl ?_ ?_
 ·rintro i t k hi rfl hk
  have z:szGAbility (s.waiting[i]).ability:=p6.2 _ (List.getElem_mem hi)
  unfold zone_Copy_l2
  exact ok_brd (fun _=>ok_ixO i rfl hi (ok_get hi (ok_bnde (copyAbility_ok _ z) (ok_ixO i rfl hi (ok_get hi (hk _ (setSelf hi))))))) fun h=>absurd (show (i:Int)<(s.waiting.length:Int) by omega) h
 rintro t _ rfl
 unfold zone_Copy_l2
 refine ok_brd (fun h=>absurd h (by show ¬ (s.waiting.length:Int)<(s.waiting.length:Int); omega)) fun _=>?_
 refine ok_bnde (cl_cont q7) ?_
 refine ok_for 0 s.conts.length (fun _ t=>t=s.conts) 0 rfl (Nat.zero_le _) (by omega) rfl ?_ ?_
 ·rintro i t k hi rfl hk
  have z:=p7.2 _ (List.getElem_mem hi)
  have z1:(s.conts[i]).objects.length≤1048576:=z.1.1
  have z2:(s.conts[i]).mods.length≤1048576:=z.2.1
  unfold zone_Copy_l1
  refine ok_brd (fun _=>ok_ixO i rfl hi (ok_get hi (ok_bnde (cl_int z1) (ok_ixO i rfl hi (ok_get hi (ok_ixO i rfl hi ?_)))))) fun h=>absurd (show (i:Int)<(s.conts.length:Int) by omega) h
  have e:s.conts.set i { s.conts[i] with objects:=(s.conts[i]).objects }=s.conts:=setSelf hi
  simp only [e]
  exact ok_get hi (ok_bnde (cl_mod z2) (ok_ixO i rfl hi (ok_get hi (hk _ (setSelf hi)))))
 rintro t _ rfl
 unfold zone_Copy_l1
 refine ok_brd (fun h=>absurd h (by show ¬ (s.conts.length:Int)<(s.conts.length:Int); omega)) fun _=>?_
 exact ok_bnde (cl_int q8) (ok_some rfl)
theorem takeS {α:Type} (l:List α) (n:Nat) (h:n<l.length):l.take (n+1)=l.take n ++ [l[n]]:=by
 rw [List.take_succ,List.getElem?_eq_getElem h]; rfl
theorem takeA {α:Type} (l:List α):l.take l.length=l:=List.take_of_length_le (Nat.le_refl _)
end Go.Proofs.YtddcpnlflncahaaGreat
namespace Go.Proofs.YtddcpnlflncahaaGreat
open Go Go.Pv
theorem ok_all {ρ α:Type} {Q:ρ→Prop} {step:Int→(Int→Option ρ)→Option ρ} (l:List α) (hl:l.length≤1048576) (h:∀ (i:Nat) (k:Int→Option ρ),i<l.length→Ok Q (k (addI (i:Int) 1))→Ok Q (step (i:Int) k)) (he:∀ k,Ok Q (step (l.length:Int) k)):Ok Q (loopF step 0) :=
 ok_for1 0 l.length (fun _=>True) 0 rfl (Nat.zero_le _) (by omega) trivial (fun i k hi _ hk=>h i k hi (hk trivial)) fun k _=>he k
theorem ltT {α:Type} {l:List α} {i:Nat} (h:i<l.length):decide ((i:Int)<lenI l)=true:=by simp [lenI]; omega
theorem ltF {α:Type} {l:List α}:decide ((l.length:Int)<lenI l)=false:=by simp [lenI]
theorem same_ints (a:List Int) (ha:a.length≤1048576):r03_Same a a=some true:=by
 unfold r03_Same
 refine ok_eq (ok_brf (by simp) (ok_all a ha (fun i k hi hk=>?_) fun k=>?_))
 ·unfold r03_Same_l1; exact ok_brt (ltT hi) (ok_ixL i rfl hi (ok_ixL i rfl hi (ok_brf (by simp) hk)))
 ·unfold r03_Same_l1; exact ok_brf ltF (ok_some rfl)
theorem same_mods (a:List GMod) (ha:a.length≤1048576):r17_SameMods a a=some true:=by
 unfold r17_SameMods
 refine ok_eq (ok_brf (by simp) (ok_all a ha (fun i k hi hk=>?_) fun k=>?_))
 ·unfold r17_SameMods_l1; exact ok_brt (ltT hi) (ok_ixL i rfl hi (ok_ixL i rfl hi (ok_ltb (b:=false) (by simp [stdScmp]) hk)))
 ·unfold r17_SameMods_l1; exact ok_brf ltF (ok_some rfl)
theorem same_mods2 (a:List GMod) (ha:a.length≤1048576):r26_SameMods a a=some true:=by
 unfold r26_SameMods
 refine ok_eq (ok_brf (by simp) (ok_all a ha (fun i k hi hk=>?_) fun k=>?_))
 ·unfold r26_SameMods_l1; exact ok_brt (ltT hi) (ok_ixL i rfl hi (ok_ixL i rfl hi (ok_ltb (b:=false) (by simp [stdScmp]) hk)))
 ·unfold r26_SameMods_l1; exact ok_brf ltF (ok_some rfl)
theorem same_effect (a:GEffect) (ha:szGEffect a):r17_Same a a=some true:=by
 unfold r17_Same
 exact ok_eq (ok_brt (by simp) (ok_ltb (b:=true) (by simp [stdScmp]) (ok_brt rfl (ok_ltb (b:=true) (by simp [stdScmp]) (ok_brt rfl (ok_brt (by simp) (ok_brt (by simp) (ok_brt (by simp [stdScmp]) (ok_ltb (b:=true) (by simp [stdScmp]) (ok_brt rfl (ok_ltb (b:=true) (by simp) (ok_brt rfl (ok_bnde (same_mods _ (szMods ha)) (ok_some rfl))))))))))))))
theorem same_effects (a:List GEffect) (ha:szL szGEffect a):r17_SameList a a=some true:=by
 unfold r17_SameList
 refine ok_eq (ok_brf (by simp) (ok_all a ha.1 (fun i k hi hk=>?_) fun k=>?_))
 ·unfold r17_SameList_l1; exact ok_brt (ltT hi) (ok_ixL i rfl hi (ok_ixL i rfl hi (ok_bnde (same_effect _ (ha.2 _ (List.getElem_mem hi))) (ok_brf (by simp) hk))))
 ·unfold r17_SameList_l1; exact ok_brf ltF (ok_some rfl)
theorem same_ability (a:GAbility) (ha:szGAbility a):r20_Same a a=some true:=by
 have h1:a.mods.length≤1048576:=ha.2.1.1
 have h2:a.specs.length≤1048576:=ha.2.2.2.1.1
 unfold r20_Same
 refine ok_eq (ok_brf (by simp) (ok_all a.specs h2 (fun i k hi hk=>?_) fun k=>?_))
 ·unfold r20_Same_l1; exact ok_brt (ltT hi) (ok_ixL i rfl hi (ok_ixL i rfl hi (ok_ltb (b:=false) (by simp [stdScmp]) hk)))
 ·unfold r20_Same_l1
  exact ok_brf ltF (ok_brt (by simp) (ok_ltb (b:=true) (by simp [stdScmp]) (ok_brt rfl (ok_bnde (same_mods _ h1) (ok_brt rfl (ok_ltb (b:=true) (by simp) (ok_brt rfl (ok_brt (by simp) (ok_ltb (b:=true) (by simp [stdScmp]) (ok_brt rfl (ok_brt (by simp) (ok_bnde (same_effects _ ha.2.2.2.2.1) (ok_brt rfl (ok_ltb (b:=true) (by simp [stdScmp]) (ok_some rfl)))))))))))))))
theorem same_item (a:GItem) (ha:szGItem a):r26_SameItem a a=some true:=by
 have h1:a.targets.length≤1048576:=ha.2.1
 unfold r26_SameItem
 refine ok_eq (ok_brf (by simp) (ok_all a.targets h1 (fun i k hi hk=>?_) fun k=>?_))
 ·unfold r26_SameItem_l1; exact ok_brt (ltT hi) (ok_ixL i rfl hi (ok_ixL i rfl hi (ok_ltb (b:=false) (by simp) hk)))
 ·unfold r26_SameItem_l1
  exact ok_brf ltF (ok_brt (by simp) (ok_brt (by simp) (ok_brt (by simp) (ok_brt (by simp) (ok_brt (by simp) (ok_brt (by simp) (ok_bnde (same_ability _ ha.1) (ok_brt rfl (ok_ltb (b:=true) (by simp) (ok_some rfl))))))))))
theorem same_waiting (a:GWaiting) (ha:szGWaiting a):r26_SameWaiting a a=some true:=by
 unfold r26_SameWaiting
 exact ok_eq (ok_brt (by simp) (ok_brt (by simp) (ok_bnde (same_ability _ ha) (ok_brt rfl (ok_ltb (b:=true) (by simp) (ok_some rfl))))))
theorem same_cont (a:GCont) (ha:szGCont a):r26_SameCont a a=some true:=by
 unfold r26_SameCont
 exact ok_eq (ok_brt (by simp) (ok_brt (by simp) (ok_brt (by simp) (ok_brt (by simp) (ok_bnde (same_ints _ ha.1.1) (ok_bnde (same_mods2 _ ha.2.1) (ok_some rfl)))))))
theorem same_player (a:GPlayer) (ha:szGPlayer a):r26_SamePlayer a a=some true:=by
 unfold r26_SamePlayer
 refine ok_eq (ok_jn (fun s=>s=false) ?_ ?_)
 ·intro k h
  exact ok_brf (by simp) (ok_brf (by simp) (ok_brf (by simp) (ok_ltb (b:=false) (by simp) (ok_brf rfl (ok_brf (by simp) (h _ (by simp)))))))
 ·rintro s rfl
  exact ok_bnde (same_ints _ ha.1.1) (ok_bnde (same_ints _ ha.2.1.1) (ok_bnde (same_ints _ ha.2.2.1) (ok_some rfl)))
theorem same_lists (a:GState) (ha:szGState a):r26_lists a a=some true:=by
 obtain ⟨p1,p2,p3,p4,p5,p6,p7,p8⟩:=ha
 unfold r26_lists
 refine ok_eq (ok_jn (fun s=>s=false) ?_ ?_)
 ·intro k h
  exact ok_brf (by simp) (ok_brf (by simp) (ok_brf (by simp) (ok_brf (by simp) (h _ (by simp)))))
 rintro s rfl
 refine ok_brf rfl (ok_all a.players p1.1 (fun i k hi hk=>?_) fun k=>?_)
 ·unfold r26_lists_l5; exact ok_brt (ltT hi) (ok_ixL i rfl hi (ok_ixL i rfl hi (ok_bnde (same_player _ (p1.2 _ (List.getElem_mem hi))) (ok_brf (by simp) hk))))
 unfold r26_lists_l5
 refine ok_brf ltF (ok_all a.objects p2.1 (fun i k hi hk=>?_) fun k=>?_)
 ·unfold r26_lists_l4; exact ok_brt (ltT hi) (ok_ixL i rfl hi (ok_ixL i rfl hi (ok_ltb (b:=false) (by simp) hk)))
 unfold r26_lists_l4
 refine ok_brf ltF (ok_all a.stack p5.1 (fun i k hi hk=>?_) fun k=>?_)
 ·unfold r26_lists_l3; exact ok_brt (ltT hi) (ok_ixL i rfl hi (ok_ixL i rfl hi (ok_bnde (same_item _ (p5.2 _ (List.getElem_mem hi))) (ok_brf (by simp) hk))))
 unfold r26_lists_l3
 refine ok_brf ltF (ok_all a.waiting p6.1 (fun i k hi hk=>?_) fun k=>?_)
 ·unfold r26_lists_l2; exact ok_brt (ltT hi) (ok_ixL i rfl hi (ok_ixL i rfl hi (ok_bnde (same_waiting _ (p6.2 _ (List.getElem_mem hi))) (ok_brf (by simp) hk))))
 unfold r26_lists_l2
 refine ok_brf ltF (ok_all a.conts p7.1 (fun i k hi hk=>?_) fun k=>?_)
 ·unfold r26_lists_l1; exact ok_brt (ltT hi) (ok_ixL i rfl hi (ok_ixL i rfl hi (ok_bnde (same_cont _ (p7.2 _ (List.getElem_mem hi))) (ok_brf (by simp) hk))))
 unfold r26_lists_l1
 exact ok_brf ltF (ok_some rfl)
theorem same_state (a:GState) (ha:szGState a):r26_Same a a=some true:=by
 unfold r26_Same
 refine ok_eq (ok_jn (fun s=>s=false) ?_ ?_)
 ·intro k h
  exact ok_brf (by simp) (ok_brf (by simp) (ok_brf (by simp) (ok_brf (by simp) (ok_brf (by simp) (ok_brf (by simp) (ok_brf (by simp) (ok_brf (by simp) (ok_brf (by simp) (ok_brf (by simp) (h _ (by simp)))))))))))
 rintro s rfl
 obtain ⟨p1,p2,p3,p4,p5,p6,p7,p8⟩:=id ha
 exact ok_bnde (same_lists a ha) (ok_bnde (same_ints _ p3.1) (ok_bnde (same_ints _ p4.1) (ok_bnde (same_ints _ p8.1) (ok_some rfl))))
end Go.Proofs.YtddcpnlflncahaaGreat
namespace Go.Proofs.YtddcpnlflncahaaGreat
open Go Go.Pv
theorem alive39_ok:law39_alive=some true:=by kernel_rfl
def numC (p src m:Int):GChoice:=GChoice.mk 5 p src 0 m 0 []
def vld (a:List Int) (m:Int):Bool:=match a with | [v]=>decide (0≤v) && decide (v≤m) | _=>false
def pkR (answers:List (List Int)) (m:Int):Int × Int × Bool × Bool :=
 if 0=m then (0,0,false,false) else match answers with
  | []=>(0,0,true,false)
  | a::_=>if vld a m=true then (a.headD 0,1,false,false) else (0,1,false,true)
theorem pkR_le (answers:List (List Int)) {m:Int} (hm:0≤m):0≤(pkR answers m).1∧(pkR answers m).1≤m:=by
 unfold pkR
 by_cases h:0=m
 ·rw [if_pos h]; simp only; omega
 ·rw [if_neg h]
  rcases answers with _ | ⟨a,l⟩
  ·simp only; omega
  ·by_cases hv:vld a m=true
   ·simp only [hv,if_true]
    rcases a with _ | ⟨v,_ | ⟨w,a⟩⟩
    ·cases hv
    ·simp only [vld,Bool.and_eq_true,decide_eq_true_eq] at hv
     exact hv
    ·cases hv
   ·simp only [hv]; simp; omega
def mkA (answers:List (List Int)):GAskAsker:=⟨answers,0,zGChoice,false,false⟩
def setA (answers:List (List Int)) (c:GChoice) (x:Int × Int × Bool × Bool):GAskAsker:=⟨answers,x.2.1,bif x.2.2.1 then c else zGChoice,x.2.2.1,x.2.2.2⟩
theorem ask_New_ok (answers:List (List Int)) (h:szL (szL (fun (_:Int)=>True)) answers):ask_New answers=some (mkA answers):=by
 unfold ask_New
 have hl:=h.1
 refine ok_eq (ok_for 0 answers.length (fun i t=>t=answers.take i) 0 rfl (Nat.zero_le _) (by omega) (by simp) ?_ ?_)
 ·rintro i t k hi rfl hk
  have ha:=(h.2 _ (List.getElem_mem hi)).1
  unfold ask_New_l1
  refine ok_brt (ltT hi) (ok_ixL i rfl hi (ok_bnde (x:=answers[i]) (ok_eq (ok_room (by omega) (by omega) (ok_some rfl))) (ok_room ?_ ?_ (hk _ (takeS _ _ hi).symm))))
  ·simp only [List.length_take,List.length_cons,List.length_nil]; omega
  ·simp only [List.length_take,List.length_cons,List.length_nil]; omega
 ·rintro t k rfl
  unfold ask_New_l1
  refine ok_brf ltF (ok_some ?_)
  rw [takeA]; rfl
theorem forced_num (p src m:Int):ask_Forced (numC p src m)=some (decide (0=m)):=rfl
theorem default_num (p src m:Int):ask_Default (numC p src m)=some [0]:=rfl
theorem valid_num (p src m:Int) (a:List Int):ask_Valid (numC p src m) a=some (vld a m):=by
 rcases a with _ | ⟨v,_ | ⟨w,a⟩⟩
 ·simp [ask_Valid,numC,br,lenI,vld]
 ·by_cases h0:0≤v <;> simp [ask_Valid,numC,br,lenI,vld,ixL,bnd,h0] <;> rfl
 ·have h1:¬ ((a.length:Int)+1+1=1):=by omega
  by_cases h0:256<(a.length:Int)+1+1 <;> simp [ask_Valid,numC,br,lenI,vld,h0,h1]
theorem ask_pick (answers:List (List Int)) (h:szL (szL (fun (_:Int)=>True)) answers) (p src m:Int) :
  ask_Asker_Pick (mkA answers) (numC p src m)=some ([(pkR answers m).1],setA answers (numC p src m) (pkR answers m)):=by
 have hl:=h.1
 unfold ask_Asker_Pick
 refine ok_eq (ok_jn (fun s=>s=decide (0=m)) ?_ ?_)
 ·intro k hk
  exact ok_brf rfl (ok_brf rfl (ok_bnde (forced_num _ _ _) (hk _ rfl)))
 ·rintro s rfl
  refine ok_brd (fun h0=>ok_bnde (default_num _ _ _) (ok_some ?_)) fun h0=>?_
  ·simp [pkR,h0,setA,mkA]
  rcases answers with _ | ⟨a,l⟩
  ·refine ok_brt rfl (ok_bnde (x:=[]) (ok_eq (ok_room (by simp [numC]) (by simp [numC]) (ok_some rfl))) (ok_bnde (default_num p src m) (ok_some ?_)))
   simp [pkR,h0,setA,mkA,numC]
  ·have ha:=(h.2 a (by simp)).1
   refine ok_brf (decide_eq_false (by show ¬ ((0:Int)=((a::l).length:Int)); simp only [List.length_cons]; omega)) (ok_ixL 0 rfl (by simp [mkA]) (ok_bnde (valid_num _ _ _ _) ?_))
   show Ok _ (br (vld a m == false) _ _)
   by_cases hv:vld a m=true
   ·refine ok_brf (by rw [hv]; rfl) (ok_bnde (x:=a) (ok_eq (ok_room (by simp [mkA]; omega) (by simp [mkA]; omega) (ok_some rfl))) (ok_some ?_))
    have e:(pkR (a::l) m)=(a.headD 0,1,false,false):=by unfold pkR; rw [if_neg h0]; simp only; rw [if_pos hv]
    rw [e]
    rcases a with _ | ⟨v,_ | ⟨w,a⟩⟩
    ·cases hv
    ·rfl
    ·cases hv
   ·have e:(pkR (a::l) m)=(0,1,false,true):=by unfold pkR; rw [if_neg h0]; simp only; rw [if_neg hv]
    refine ok_brt (by simp [hv]) (ok_bnde (default_num _ _ _) (ok_some ?_))
    rw [e]; rfl
def mpX (c:GCost) (m:Int) (answers:List (List Int)):Int × Int × Bool × Bool:=if 0<c.x then pkR answers m else (0,0,false,false)
theorem mpX_le (c:GCost) (answers:List (List Int)) {m:Int} (hm:0≤m):0≤(mpX c m answers).1∧(mpX c m answers).1≤m:=by
 unfold mpX; split
 ·exact pkR_le answers hm
 ·exact ⟨Int.le_refl 0,hm⟩
theorem MostS.can {p:Arr6 Int} {c:GCost} {m:Int} (h:MostS p c m):(canF p c 0 ↔ 0≤m)∧(0≤m→canF p c m):=by
 rcases h with ⟨h1,h2⟩ | ⟨h1,h2,h3⟩ | ⟨h1,h2,h3,h4⟩
 ·exact ⟨⟨fun h=>absurd h h1,fun h=>by omega⟩,fun h=>by omega⟩
 ·exact ⟨⟨fun _=>by omega,fun _=>h1⟩,fun _=>by rw [h3]; exact h1⟩
 ·exact ⟨⟨fun _=>h3.2.2.1,fun _=>h1⟩,fun _=>h3⟩
def paid (s:GState) (n:Nat) (x:GPlayer) (c:GCost) (v:Int):GState:={ s with players:=s.players.set n { x with pool:=leftF x.pool c v } }
theorem cost_Mana_bad (answers:List (List Int)) (s:GState) (hs:szGState s) (p src:Int) (c:GCost) (hp:¬ (0≤p∧p<(s.players.length:Int))):cost_Mana (mkA answers) s p src c=some (s,0,false,mkA answers):=by
 unfold cost_Mana
 refine ok_eq (ok_jn (fun b=>b=true) ?_ ?_)
 ·intro k hk
  exact ok_brd (fun _=>hk _ rfl) fun h=>hk _ (decide_eq_true (show (s.players.length:Int)≤p by omega))
 ·rintro b rfl
  exact ok_brt rfl (ok_bnde (zone_Copy_ok s hs) (ok_some rfl))
theorem cost_Mana_no (answers:List (List Int)) (s:GState) (hs:szGState s) (n:Nat) (hn:n<s.players.length) (src:Int) (c:GCost) {m:Int} (hm:MostS s.players[n].pool c m) (h0:m<0):cost_Mana (mkA answers) s (n:Int) src c=some (s,0,false,mkA answers):=by
 unfold cost_Mana
 refine ok_eq (ok_jn (fun b=>b=false) ?_ ?_)
 ·intro k hk
  exact ok_brd (fun h=>absurd h (by omega)) fun h=>hk _ (decide_eq_false (show ¬ (s.players.length:Int)≤(n:Int) by omega))
 ·rintro b rfl
  refine ok_brf rfl (ok_ixL n rfl hn (ok_bnd (MostX_ok _ _) fun y hy=>?_))
  rw [hy.one hm]
  exact ok_brt (by simp [h0]) (ok_bnde (zone_Copy_ok s hs) (ok_some rfl))
theorem cost_Mana_yes (answers:List (List Int)) (ha:szL (szL (fun (_:Int)=>True)) answers) (s:GState) (hs:szGState s) (n:Nat) (hn:n<s.players.length) (src:Int) (c:GCost) {m:Int} (hm:MostS s.players[n].pool c m) (h0:0≤m) :
  cost_Mana (mkA answers) s (n:Int) src c=some (paid s n s.players[n] c (mpX c m answers).1,(mpX c m answers).1,true,setA answers (numC n src m) (mpX c m answers)):=by
 have hx:=mpX_le c answers h0
 have hcan:=can_mono (hm.can.2 h0) hx.1 hx.2
 unfold cost_Mana
 refine ok_eq (ok_jn (fun b=>b=false) ?_ ?_)
 ·intro k hk
  exact ok_brd (fun h=>absurd h (by omega)) fun h=>hk _ (decide_eq_false (show ¬ (s.players.length:Int)≤(n:Int) by omega))
 ·rintro b rfl
  refine ok_brf rfl (ok_ixL n rfl hn (ok_bnd (MostX_ok _ _) fun y hy=>?_))
  rw [hy.one hm]
  refine ok_brf (by simp; omega) (ok_jn (fun z=>z=(setA answers (numC n src m) (mpX c m answers),(mpX c m answers).1)) ?_ ?_)
  ·intro k hk
   refine ok_brd (fun hc=>ok_bnde (ask_pick answers ha _ _ _) (ok_ixL 0 rfl (by simp) (hk _ ?_))) fun hc=>hk _ ?_
   ·simp only [mpX,if_pos hc]; rfl
   ·simp only [mpX,if_neg hc]; rfl
  ·rintro z rfl
   refine ok_ixL n rfl hn (ok_bnde (mana_Pay_left hcan) (ok_bnde (zone_Copy_ok s hs) (ok_ixO n rfl hn (ok_get hn (ok_some rfl)))))
end Go.Proofs.YtddcpnlflncahaaGreat
