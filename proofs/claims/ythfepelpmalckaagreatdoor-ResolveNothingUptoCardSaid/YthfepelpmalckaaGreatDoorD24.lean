import Derived.Test.YthfepelpmalckaaGreatDoorD23
set_option linter.all false
namespace Go.Proofs.YthfepelpmalckaaGreatDoor
open Go Go.Pv
set_option maxRecDepth 100000
def szGLine (x:GLine):Prop:=(szL szB) x.subs
def szGCard (x:GCard):Prop:=szB x.name∧szGLine x.line∧(szL szGAbility) x.abilities
def SW (n:Nat) (l:List ByteArray):Prop:=l.length=n∧n≤100∧∀ x∈l,x.size≤100
theorem SW.sz {n:Nat} {l:List ByteArray} (h:SW n l):szL szB l:=⟨by have:=h.1; have:=h.2.1; omega,fun x hx=>by have:=h.2.2 x hx; show x.size≤1048576; omega⟩
def WL (n:Nat) (l:List ByteArray):Prop:=l.length≤n∧∀ x∈l,x.size≤140737488360000
theorem WL.add {n:Nat} {l:List ByteArray} {x:ByteArray} (h:WL n l) (hx:x.size≤140737488360000):WL (n+1) (l ++ [x]):=⟨by have:=h.1; simp; omega,fun y hy=>by
 rcases List.mem_append.1 hy with hy | hy
 ·exact h.2 y hy
 ·rw [List.mem_singleton.1 hy]; exact hx⟩
theorem WL.mono {n m:Nat} {l:List ByteArray} (h:WL n l) (hm:n≤m):WL m l:=⟨by have:=h.1; omega,h.2⟩
theorem sz_zGAbility:szGAbility zGAbility:=by
 simp [szGAbility,szGFilter,szGTrigger,szGReplace,szB,szL,zGAbility,zGFilter,zGTrigger,zGReplace,bs_size]
theorem wrap_u64r (n:Int):0≤IntKind.u64.wrap n∧IntKind.u64.wrap n<18446744073709551616:=by rw [IntKind.wrap_u64]; omega
theorem u64q {x:Int} (h0:0≤x) (h1:x<18446744073709551616):IntKind.u64.wrap (x.tdiv 10)=x / 10:=by
 rw [Int.tdiv_eq_ediv_of_nonneg h0,IntKind.wrap_u64]; omega
theorem tot_r17_SameMods (a:List GMod) (b:List GMod) (zz_a:(szL szGMod) a) (zz_b:(szL szGMod) b):Ok (fun r=>True) (r17_SameMods a b):=by
 unfold r17_SameMods
 have z1:=(zz_a).1
 have z2:=(zz_a).2
 have z3:=(zz_b).1
 have z4:=(zz_b).2
 refine ok_brn (fun h5=>?_) (fun h5=>?_)
 ·(try simp only [lenI] at h5)
  exact ok_some trivial
 ·(try simp only [lenI] at h5)
  refine ok_loop (fun (s1:Int)=>0≤s1∧s1≤(a.length:Int)) (fun (s1:Int)=>((a.length:Int) - s1).toNat) ⟨(by (try simp only [List.length_append,List.length_cons,List.length_nil,List.length_set,List.length_replicate,bs_size]); omega),(by (try simp only [List.length_append,List.length_cons,List.length_nil,List.length_set,List.length_replicate,bs_size]); omega)⟩ (by show _<18446744073709551616; (try simp only [List.length_append,List.length_cons,List.length_nil]); omega) (fun s1 k2 hI6 hk7=>?_)
  obtain ⟨hI6_0,hI6_1⟩:=hI6
  unfold r17_SameMods_l1
  refine ok_brd (fun h8=>?_) (fun h8=>?_)
  ·(try simp only [lenI] at h8)
   refine ok_ix (by (try simp only [List.length_append,List.length_cons,List.length_nil,List.length_set,List.length_replicate,bs_size]); omega) (by (try simp only [List.length_append,List.length_cons,List.length_nil,List.length_set,List.length_replicate,bs_size]); omega) (fun x4 h9=>?_)
   have z10:szGMod x4:=z2 x4 h9
   have z11:x4.sub.size≤1048576:=(z10).1
   have z12:=(z10).2
   have z13:x4.filter.sub.size≤1048576:=((z10).2)
   refine ok_ix (by (try simp only [List.length_append,List.length_cons,List.length_nil,List.length_set,List.length_replicate,bs_size]); omega) (by (try simp only [List.length_append,List.length_cons,List.length_nil,List.length_set,List.length_replicate,bs_size]); omega) (fun x5 h14=>?_)
   have z15:szGMod x5:=z4 x5 h14
   have z16:x5.sub.size≤1048576:=(z15).1
   have z17:=(z15).2
   have z18:x5.filter.sub.size≤1048576:=((z15).2)
   refine ok_lte (fun v6 h19=>?_)
   refine ok_br (fun h20=>?_) (fun h20=>?_)
   ·skip
    exact ok_some trivial
   ·skip
    have h21:addI s1 1=s1+1:=addI_eq (by omega) (by omega)
    exact hk7 _ ⟨(by (try simp only [List.length_append,List.length_cons,List.length_nil,List.length_set,List.length_replicate,bs_size]); omega),(by (try simp only [List.length_append,List.length_cons,List.length_nil,List.length_set,List.length_replicate,bs_size]); omega)⟩ (by (try simp only [List.length_append,List.length_cons,List.length_nil,List.length_set,List.length_replicate,bs_size]); omega)
  ·(try simp only [lenI] at h8)
   exact ok_some trivial
theorem tot_r17_Same (a:GEffect) (b:GEffect) (zz_a:szGEffect a) (zz_b:szGEffect b):Ok (fun r=>True) (r17_Same a b):=by
 unfold r17_Same
 have z1:=(zz_a).1
 have z2:=((zz_a).1)
 have z3:a.ref.filter.sub.size≤1048576:=(((zz_a).1))
 have z4:=(zz_a).2.1
 have z5:=((zz_a).2.1)
 have z6:a.amount.filter.sub.size≤1048576:=(((zz_a).2.1))
 have z7:a.card.size≤1048576:=(zz_a).2.2.1
 have z8:=(zz_a).2.2.2.1
 have z9:a.filter.sub.size≤1048576:=((zz_a).2.2.2.1)
 have z10:=((zz_a).2.2.2.2).1
 have z11:=((zz_a).2.2.2.2).2
 have z12:=(zz_b).1
 have z13:=((zz_b).1)
 have z14:b.ref.filter.sub.size≤1048576:=(((zz_b).1))
 have z15:=(zz_b).2.1
 have z16:=((zz_b).2.1)
 have z17:b.amount.filter.sub.size≤1048576:=(((zz_b).2.1))
 have z18:b.card.size≤1048576:=(zz_b).2.2.1
 have z19:=(zz_b).2.2.2.1
 have z20:b.filter.sub.size≤1048576:=((zz_b).2.2.2.1)
 have z21:=((zz_b).2.2.2.2).1
 have z22:=((zz_b).2.2.2.2).2
 refine ok_brd (fun h23=>?_) (fun h23=>?_)
 ·skip
  refine ok_lte (fun v1 h24=>?_)
  refine ok_br (fun h25=>?_) (fun h25=>?_)
  ·skip
   refine ok_lte (fun v2 h26=>?_)
   refine ok_br (fun h27=>?_) (fun h27=>?_)
   ·skip
    refine ok_brd (fun h28=>?_) (fun h28=>?_)
    ·skip
     refine ok_brd (fun h29=>?_) (fun h29=>?_)
     ·skip
      refine ok_br (fun h30=>?_) (fun h30=>?_)
      ·skip
       refine ok_lte (fun v3 h31=>?_)
       refine ok_br (fun h32=>?_) (fun h32=>?_)
       ·skip
        refine ok_lte (fun v4 h33=>?_)
        refine ok_br (fun h34=>?_) (fun h34=>?_)
        ·skip
         refine ok_bnd (tot_r17_SameMods _ _ (by first | assumption | (refine ⟨by omega,?_⟩; first | (intro _ _; trivial) | assumption)) (by first | assumption | (refine ⟨by omega,?_⟩; first | (intro _ _; trivial) | assumption))) (fun y5 h35=>?_)
         exact ok_some trivial
        ·skip
         exact ok_some trivial
       ·skip
        exact ok_some trivial
      ·skip
       exact ok_some trivial
     ·skip
      exact ok_some trivial
    ·skip
     exact ok_some trivial
   ·skip
    exact ok_some trivial
  ·skip
   exact ok_some trivial
 ·skip
  exact ok_some trivial
theorem tot_r17_SameList (a:List GEffect) (b:List GEffect) (zz_a:(szL szGEffect) a) (zz_b:(szL szGEffect) b):Ok (fun r=>True) (r17_SameList a b):=by
 unfold r17_SameList
 have z1:=(zz_a).1
 have z2:=(zz_a).2
 have z3:=(zz_b).1
 have z4:=(zz_b).2
 refine ok_brn (fun h5=>?_) (fun h5=>?_)
 ·(try simp only [lenI] at h5)
  exact ok_some trivial
 ·(try simp only [lenI] at h5)
  refine ok_loop (fun (s1:Int)=>0≤s1∧s1≤(a.length:Int)) (fun (s1:Int)=>((a.length:Int) - s1).toNat) ⟨(by (try simp only [List.length_append,List.length_cons,List.length_nil,List.length_set,List.length_replicate,bs_size]); omega),(by (try simp only [List.length_append,List.length_cons,List.length_nil,List.length_set,List.length_replicate,bs_size]); omega)⟩ (by show _<18446744073709551616; (try simp only [List.length_append,List.length_cons,List.length_nil]); omega) (fun s1 k2 hI6 hk7=>?_)
  obtain ⟨hI6_0,hI6_1⟩:=hI6
  unfold r17_SameList_l1
  refine ok_brd (fun h8=>?_) (fun h8=>?_)
  ·(try simp only [lenI] at h8)
   refine ok_ix (by (try simp only [List.length_append,List.length_cons,List.length_nil,List.length_set,List.length_replicate,bs_size]); omega) (by (try simp only [List.length_append,List.length_cons,List.length_nil,List.length_set,List.length_replicate,bs_size]); omega) (fun x4 h9=>?_)
   have z10:szGEffect x4:=z2 x4 h9
   have z11:=(z10).1
   have z12:=((z10).1)
   have z13:x4.ref.filter.sub.size≤1048576:=(((z10).1))
   have z14:=(z10).2.1
   have z15:=((z10).2.1)
   have z16:x4.amount.filter.sub.size≤1048576:=(((z10).2.1))
   have z17:x4.card.size≤1048576:=(z10).2.2.1
   have z18:=(z10).2.2.2.1
   have z19:x4.filter.sub.size≤1048576:=((z10).2.2.2.1)
   have z20:=((z10).2.2.2.2).1
   have z21:=((z10).2.2.2.2).2
   refine ok_ix (by (try simp only [List.length_append,List.length_cons,List.length_nil,List.length_set,List.length_replicate,bs_size]); omega) (by (try simp only [List.length_append,List.length_cons,List.length_nil,List.length_set,List.length_replicate,bs_size]); omega) (fun x5 h22=>?_)
   have z23:szGEffect x5:=z4 x5 h22
   have z24:=(z23).1
   have z25:=((z23).1)
   have z26:x5.ref.filter.sub.size≤1048576:=(((z23).1))
   have z27:=(z23).2.1
   have z28:=((z23).2.1)
   have z29:x5.amount.filter.sub.size≤1048576:=(((z23).2.1))
   have z30:x5.card.size≤1048576:=(z23).2.2.1
   have z31:=(z23).2.2.2.1
   have z32:x5.filter.sub.size≤1048576:=((z23).2.2.2.1)
   have z33:=((z23).2.2.2.2).1
   have z34:=((z23).2.2.2.2).2
   refine ok_bnd (tot_r17_Same _ _ (by first | assumption | (refine ⟨by omega,?_⟩; first | (intro _ _; trivial) | assumption) | (unfold szGEffect; simp_all [szB,szL])) (by first | assumption | (refine ⟨by omega,?_⟩; first | (intro _ _; trivial) | assumption) | (unfold szGEffect; simp_all [szB,szL]))) (fun y6 h35=>?_)
   refine ok_br (fun h36=>?_) (fun h36=>?_)
   ·skip
    exact ok_some trivial
   ·skip
    have h37:addI s1 1=s1+1:=addI_eq (by omega) (by omega)
    exact hk7 _ ⟨(by (try simp only [List.length_append,List.length_cons,List.length_nil,List.length_set,List.length_replicate,bs_size]); omega),(by (try simp only [List.length_append,List.length_cons,List.length_nil,List.length_set,List.length_replicate,bs_size]); omega)⟩ (by (try simp only [List.length_append,List.length_cons,List.length_nil,List.length_set,List.length_replicate,bs_size]); omega)
  ·(try simp only [lenI] at h8)
   exact ok_some trivial
theorem tot_r20_Same (a:GAbility) (b:GAbility) (zz_a:szGAbility a) (zz_b:szGAbility b):Ok (fun r=>True) (r20_Same a b):=by
 unfold r20_Same
 have z1:=(zz_a).1
 have z2:a.filter.sub.size≤1048576:=((zz_a).1)
 have z3:=((zz_a).2.1).1
 have z4:=((zz_a).2.1).2
 have z5:=(zz_a).2.2.1
 have z6:=((zz_a).2.2.1)
 have z7:a.trigger.filter.sub.size≤1048576:=(((zz_a).2.2.1))
 have z8:=((zz_a).2.2.2.1).1
 have z9:=((zz_a).2.2.2.1).2
 have z10:=((zz_a).2.2.2.2.1).1
 have z11:=((zz_a).2.2.2.2.1).2
 have z12:=(zz_a).2.2.2.2.2
 have z13:=((zz_a).2.2.2.2.2)
 have z14:a.replace.filter.sub.size≤1048576:=(((zz_a).2.2.2.2.2))
 have z15:=(zz_b).1
 have z16:b.filter.sub.size≤1048576:=((zz_b).1)
 have z17:=((zz_b).2.1).1
 have z18:=((zz_b).2.1).2
 have z19:=(zz_b).2.2.1
 have z20:=((zz_b).2.2.1)
 have z21:b.trigger.filter.sub.size≤1048576:=(((zz_b).2.2.1))
 have z22:=((zz_b).2.2.2.1).1
 have z23:=((zz_b).2.2.2.1).2
 have z24:=((zz_b).2.2.2.2.1).1
 have z25:=((zz_b).2.2.2.2.1).2
 have z26:=(zz_b).2.2.2.2.2
 have z27:=((zz_b).2.2.2.2.2)
 have z28:b.replace.filter.sub.size≤1048576:=(((zz_b).2.2.2.2.2))
 refine ok_brn (fun h29=>?_) (fun h29=>?_)
 ·(try simp only [lenI] at h29)
  exact ok_some trivial
 ·(try simp only [lenI] at h29)
  refine ok_loop (fun (s1:Int)=>0≤s1∧s1≤(a.specs.length:Int)) (fun (s1:Int)=>((a.specs.length:Int) - s1).toNat) ⟨(by (try simp only [List.length_append,List.length_cons,List.length_nil,List.length_set,List.length_replicate,bs_size]); omega),(by (try simp only [List.length_append,List.length_cons,List.length_nil,List.length_set,List.length_replicate,bs_size]); omega)⟩ (by show _<18446744073709551616; (try simp only [List.length_append,List.length_cons,List.length_nil]); omega) (fun s1 k2 hI30 hk31=>?_)
  obtain ⟨hI30_0,hI30_1⟩:=hI30
  unfold r20_Same_l1
  refine ok_brd (fun h32=>?_) (fun h32=>?_)
  ·(try simp only [lenI] at h32)
   refine ok_ix (by (try simp only [List.length_append,List.length_cons,List.length_nil,List.length_set,List.length_replicate,bs_size]); omega) (by (try simp only [List.length_append,List.length_cons,List.length_nil,List.length_set,List.length_replicate,bs_size]); omega) (fun x4 h33=>?_)
   have z34:szGSpec x4:=z9 x4 h33
   have z35:=(z34)
   have z36:x4.filter.sub.size≤1048576:=((z34))
   refine ok_ix (by (try simp only [List.length_append,List.length_cons,List.length_nil,List.length_set,List.length_replicate,bs_size]); omega) (by (try simp only [List.length_append,List.length_cons,List.length_nil,List.length_set,List.length_replicate,bs_size]); omega) (fun x5 h37=>?_)
   have z38:szGSpec x5:=z23 x5 h37
   have z39:=(z38)
   have z40:x5.filter.sub.size≤1048576:=((z38))
   refine ok_lte (fun v6 h41=>?_)
   refine ok_br (fun h42=>?_) (fun h42=>?_)
   ·skip
    exact ok_some trivial
   ·skip
    have h43:addI s1 1=s1+1:=addI_eq (by omega) (by omega)
    exact hk31 _ ⟨(by (try simp only [List.length_append,List.length_cons,List.length_nil,List.length_set,List.length_replicate,bs_size]); omega),(by (try simp only [List.length_append,List.length_cons,List.length_nil,List.length_set,List.length_replicate,bs_size]); omega)⟩ (by (try simp only [List.length_append,List.length_cons,List.length_nil,List.length_set,List.length_replicate,bs_size]); omega)
  ·(try simp only [lenI] at h32)
   refine ok_brd (fun h44=>?_) (fun h44=>?_)
   ·skip
    refine ok_lte (fun v7 h45=>?_)
    refine ok_br (fun h46=>?_) (fun h46=>?_)
    ·skip
     refine ok_bnd (tot_r17_SameMods _ _ (by first | assumption | (refine ⟨by omega,?_⟩; first | (intro _ _; trivial) | assumption)) (by first | assumption | (refine ⟨by omega,?_⟩; first | (intro _ _; trivial) | assumption))) (fun y8 h47=>?_)
     refine ok_br (fun h48=>?_) (fun h48=>?_)
     ·skip
      refine ok_lte (fun v9 h49=>?_)
      refine ok_br (fun h50=>?_) (fun h50=>?_)
      ·skip
       refine ok_br (fun h51=>?_) (fun h51=>?_)
       ·skip
        refine ok_lte (fun v10 h52=>?_)
        refine ok_br (fun h53=>?_) (fun h53=>?_)
        ·skip
         refine ok_br (fun h54=>?_) (fun h54=>?_)
         ·skip
          refine ok_bnd (tot_r17_SameList _ _ (by first | assumption | (refine ⟨by omega,?_⟩; first | (intro _ _; trivial) | assumption)) (by first | assumption | (refine ⟨by omega,?_⟩; first | (intro _ _; trivial) | assumption))) (fun y11 h55=>?_)
          refine ok_br (fun h56=>?_) (fun h56=>?_)
          ·skip
           refine ok_lte (fun v12 h57=>?_)
           exact ok_some trivial
          ·skip
           exact ok_some trivial
         ·skip
          exact ok_some trivial
        ·skip
         exact ok_some trivial
       ·skip
        exact ok_some trivial
      ·skip
       exact ok_some trivial
     ·skip
      exact ok_some trivial
    ·skip
     exact ok_some trivial
   ·skip
    exact ok_some trivial
theorem tot_r25_ints (l:List Int) (zz_l:(szL (fun (_:Int)=>True)) l):Ok (fun r=>r=l) (r25_ints l):=by
 unfold r25_ints
 have z1:=(zz_l).1
 refine ok_room (by (try simp only [List.length_append,List.length_cons,List.length_nil,List.length_set,List.length_replicate,bs_size]); omega) (by (try simp only [List.length_append,List.length_cons,List.length_nil,List.length_set,List.length_replicate,bs_size]); omega) ?_
 exact ok_some rfl
theorem tot_r26_in (n:Int) (least:Int) (most:Int)  : Ok (fun r=>True) (r26_in n least most):=by
 unfold r26_in
 refine ok_brd (fun h1=>?_) (fun h1=>?_)
 ·skip
  exact ok_some trivial
 ·skip
  exact ok_some trivial
theorem tot_r26_player (s:GState) (p:Int) (zz_s:szGState s):Ok (fun r=>True) (r26_player s p):=by
 unfold r26_player
 have z1:=((zz_s).1).1
 have z2:=((zz_s).1).2
 have z3:=((zz_s).2.1).1
 have z4:=((zz_s).2.2.1).1
 have z5:=((zz_s).2.2.2.1).1
 have z6:=((zz_s).2.2.2.2.1).1
 have z7:=((zz_s).2.2.2.2.1).2
 have z8:=((zz_s).2.2.2.2.2.1).1
 have z9:=((zz_s).2.2.2.2.2.1).2
 have z10:=((zz_s).2.2.2.2.2.2.1).1
 have z11:=((zz_s).2.2.2.2.2.2.1).2
 have z12:=((zz_s).2.2.2.2.2.2.2).1
 refine ok_bnd (tot_r26_in _ _ _ ) (fun y1 h13=>?_)
 exact ok_some trivial
theorem tot_r08_Is (c:GCost):Ok (fun r=>r=true ↔ isC c) (r08_Is c):=by
 unfold r08_Is
 refine ok_jn (fun s=>s=decide (c.generic<0∨99<c.generic∨c.x<0∨2<c.x)) ?_ ?_
 ·intro k2 h2
  exact ok_brd (fun h=>h2 _ (by simp [h])) fun a=>ok_brd (fun h=>h2 _ (by simp [h])) fun b=>ok_brd (fun h=>h2 _ (by simp [h])) fun d=>h2 _ (by simp [a,b,d])
 ·rintro s rfl
  refine ok_brd (fun h=>ok_some ⟨fun h=>(by cases h),fun hC=>by have:=hC.1; omega⟩) fun h0=>?_
  refine ok_for1 0 5 (fun n=>∀ j,j<n→0≤colN c.color j∧colN c.color j≤9) 0 rfl (by omega) (by omega) (fun j h=>by omega) ?_ ?_
  ·intro i k hi hI hk
   unfold r08_Is_l1
   refine ok_brd (fun _=>ok_jn (fun s=>s=decide (colN c.color i<0∨9<colN c.color i)) ?_ ?_) fun h=>absurd (show (i:Int)<5 by omega) h
   ·intro k6 h6
    rcases five hi with rfl | rfl | rfl | rfl | rfl <;>
     exact ok_seln (by omega) (ok_brd (fun h=>h6 _ (by simp only [colN]; simp [h])) fun h=>ok_seln (by omega) (h6 _ (by simp only [colN]; simp [h])))
   ·rintro s rfl
    refine ok_brd (fun h=>ok_some ?_) fun h=>hk fun j hj=>?_
    ·refine ⟨fun h=>(by cases h),fun hC=>?_⟩
     have:=hC.2 i hi; omega
    ·by_cases e:j=i
     ·subst e; omega
     ·exact hI j (by omega)
  ·intro k hI
   unfold r08_Is_l1
   exact ok_brd (fun h=>absurd h (by omega)) fun _=>ok_some ⟨fun _=>⟨by omega,hI⟩,fun _=>rfl⟩
theorem tot_r02_low (c:Int)  : Ok (fun r=>True) (r02_low c):=by
 unfold r02_low
 refine ok_brd (fun h1=>?_) (fun h1=>?_)
 ·skip
  exact ok_some trivial
 ·skip
  exact ok_some trivial
theorem tot_r02_Is (s:ByteArray) (zz_s:szB s):Ok (fun r=>True) (r02_Is s):=by
 unfold r02_Is
 have z1:s.size≤1048576:=zz_s
 refine ok_jn (fun (s1:Bool)=>s1=false→¬((s.size:Int)<1)∧¬(32<(s.size:Int))) (fun k2 hk2=>?_) (fun s1 hs3=>?_)
 ·skip
  refine ok_brd (fun h4=>?_) (fun h4=>?_)
  ·skip
   exact hk2 _ (by intro hh; first | (cases hh; done) | omega | (have hh2:=of_decide_eq_false hh; (try simp only [lenI] at hh2); omega) | (simp at hh; (try simp only [lenI] at hh); omega))
  ·skip
   refine ok_brd (fun h5=>?_) (fun h5=>?_)
   ·skip
    exact hk2 _ (by intro hh; first | (cases hh; done) | omega | (have hh2:=of_decide_eq_false hh; (try simp only [lenI] at hh2); omega) | (simp at hh; (try simp only [lenI] at hh); omega))
   ·skip
    refine ok_six (by (try simp only [List.length_append,List.length_cons,List.length_nil,List.length_set,List.length_replicate,bs_size]); omega) (by (try simp only [List.length_append,List.length_cons,List.length_nil,List.length_set,List.length_replicate,bs_size]); omega) (fun x4 h6=>?_)
    refine ok_bnd (tot_r02_low _ ) (fun y5 h7=>?_)
    refine ok_br (fun h8=>?_) (fun h8=>?_)
    ·skip
     exact hk2 _ (by intro hh; first | (cases hh; done) | omega | (have hh2:=of_decide_eq_false hh; (try simp only [lenI] at hh2); omega) | (simp at hh; (try simp only [lenI] at hh); omega))
    ·skip
     have h9:subI (s.size:Int) 1=(s.size:Int) - 1:=subI_eq (by (try simp only [lenI]); omega) (by (try simp only [lenI]); omega)
     refine ok_six (by (try simp only [List.length_append,List.length_cons,List.length_nil,List.length_set,List.length_replicate,bs_size]); omega) (by (try simp only [List.length_append,List.length_cons,List.length_nil,List.length_set,List.length_replicate,bs_size]); omega) (fun x6 h10=>?_)
     exact hk2 _ (by intro hh; first | (cases hh; done) | omega | (have hh2:=of_decide_eq_false hh; (try simp only [lenI] at hh2); omega) | (simp at hh; (try simp only [lenI] at hh); omega))
 ·skip
  refine ok_br (fun h11=>?_) (fun h11=>?_)
  ·skip
   exact ok_some trivial
  ·skip
   have hf12:=hs3 h11
   refine ok_loop (fun (s7:Int)=>0≤s7∧s7≤(s.size:Int)) (fun (s7:Int)=>((s.size:Int) - s7).toNat) ⟨(by (try simp only [List.length_append,List.length_cons,List.length_nil,List.length_set,List.length_replicate,bs_size]); omega),(by (try simp only [List.length_append,List.length_cons,List.length_nil,List.length_set,List.length_replicate,bs_size]); omega)⟩ (by show _<18446744073709551616; (try simp only [List.length_append,List.length_cons,List.length_nil]); omega) (fun s7 k8 hI13 hk14=>?_)
   obtain ⟨hI13_0,hI13_1⟩:=hI13
   unfold r02_Is_l1
   refine ok_brd (fun h15=>?_) (fun h15=>?_)
   ·skip
    refine ok_jn (fun (s10:Bool)=>True) (fun k11 hk16=>?_) (fun s10 hs17=>?_)
    ·skip
     refine ok_six (by (try simp only [List.length_append,List.length_cons,List.length_nil,List.length_set,List.length_replicate,bs_size]); omega) (by (try simp only [List.length_append,List.length_cons,List.length_nil,List.length_set,List.length_replicate,bs_size]); omega) (fun x13 h18=>?_)
     refine ok_bnd (tot_r02_low _ ) (fun y14 h19=>?_)
     refine ok_br (fun h20=>?_) (fun h20=>?_)
     ·skip
      refine ok_six (by (try simp only [List.length_append,List.length_cons,List.length_nil,List.length_set,List.length_replicate,bs_size]); omega) (by (try simp only [List.length_append,List.length_cons,List.length_nil,List.length_set,List.length_replicate,bs_size]); omega) (fun x15 h21=>?_)
      refine ok_brd (fun h22=>?_) (fun h22=>?_)
      ·skip
       refine ok_six (by (try simp only [List.length_append,List.length_cons,List.length_nil,List.length_set,List.length_replicate,bs_size]); omega) (by (try simp only [List.length_append,List.length_cons,List.length_nil,List.length_set,List.length_replicate,bs_size]); omega) (fun x16 h23=>?_)
       exact hk16 _ trivial
      ·skip
       refine ok_six (by (try simp only [List.length_append,List.length_cons,List.length_nil,List.length_set,List.length_replicate,bs_size]); omega) (by (try simp only [List.length_append,List.length_cons,List.length_nil,List.length_set,List.length_replicate,bs_size]); omega) (fun x17 h24=>?_)
       refine ok_brd (fun h25=>?_) (fun h25=>?_)
       ·skip
        refine ok_six (by (try simp only [List.length_append,List.length_cons,List.length_nil,List.length_set,List.length_replicate,bs_size]); omega) (by (try simp only [List.length_append,List.length_cons,List.length_nil,List.length_set,List.length_replicate,bs_size]); omega) (fun x18 h26=>?_)
        exact hk16 _ trivial
       ·skip
        exact hk16 _ trivial
     ·skip
      exact hk16 _ trivial
    ·skip
     refine ok_br (fun h27=>?_) (fun h27=>?_)
     ·skip
      exact ok_some trivial
     ·skip
      refine ok_jn (fun (s19:Bool)=>True) (fun k20 hk28=>?_) (fun s19 hs29=>?_)
      ·skip
       refine ok_brd (fun h30=>?_) (fun h30=>?_)
       ·skip
        refine ok_six (by (try simp only [List.length_append,List.length_cons,List.length_nil,List.length_set,List.length_replicate,bs_size]); omega) (by (try simp only [List.length_append,List.length_cons,List.length_nil,List.length_set,List.length_replicate,bs_size]); omega) (fun x22 h31=>?_)
        refine ok_brd (fun h32=>?_) (fun h32=>?_)
        ·skip
         have h33:subI s7 1=s7 - 1:=subI_eq (by (try simp only [lenI]); omega) (by (try simp only [lenI]); omega)
         refine ok_six (by (try simp only [List.length_append,List.length_cons,List.length_nil,List.length_set,List.length_replicate,bs_size]); omega) (by (try simp only [List.length_append,List.length_cons,List.length_nil,List.length_set,List.length_replicate,bs_size]); omega) (fun x23 h34=>?_)
         exact hk28 _ trivial
        ·skip
         exact hk28 _ trivial
       ·skip
        exact hk28 _ trivial
      ·skip
       refine ok_br (fun h35=>?_) (fun h35=>?_)
       ·skip
        exact ok_some trivial
       ·skip
        have h36:addI s7 1=s7+1:=addI_eq (by omega) (by omega)
        exact hk14 _ ⟨(by (try simp only [List.length_append,List.length_cons,List.length_nil,List.length_set,List.length_replicate,bs_size]); omega),(by (try simp only [List.length_append,List.length_cons,List.length_nil,List.length_set,List.length_replicate,bs_size]); omega)⟩ (by (try simp only [List.length_append,List.length_cons,List.length_nil,List.length_set,List.length_replicate,bs_size]); omega)
   ·skip
    exact ok_some trivial
theorem tot_r10_index (l:List ByteArray) (s:ByteArray) (zz_l:(szL szB) l) (zz_s:szB s):Ok (fun r=>True) (r10_index l s):=by
 unfold r10_index
 have z1:=(zz_l).1
 have z2:=(zz_l).2
 have z3:s.size≤1048576:=zz_s
 refine ok_loop (fun (s1:Int)=>0≤s1∧s1≤(l.length:Int)) (fun (s1:Int)=>((l.length:Int) - s1).toNat) ⟨(by (try simp only [List.length_append,List.length_cons,List.length_nil,List.length_set,List.length_replicate,bs_size]); omega),(by (try simp only [List.length_append,List.length_cons,List.length_nil,List.length_set,List.length_replicate,bs_size]); omega)⟩ (by show _<18446744073709551616; (try simp only [List.length_append,List.length_cons,List.length_nil]); omega) (fun s1 k2 hI4 hk5=>?_)
 obtain ⟨hI4_0,hI4_1⟩:=hI4
 unfold r10_index_l1
 refine ok_brd (fun h6=>?_) (fun h6=>?_)
 ·(try simp only [lenI] at h6)
  refine ok_ix (by (try simp only [List.length_append,List.length_cons,List.length_nil,List.length_set,List.length_replicate,bs_size]); omega) (by (try simp only [List.length_append,List.length_cons,List.length_nil,List.length_set,List.length_replicate,bs_size]); omega) (fun x4 h7=>?_)
  have z8:szB x4:=z2 x4 h7
  have z9:x4.size≤1048576:=z8
  refine ok_br (fun h10=>?_) (fun h10=>?_)
  ·skip
   exact ok_some trivial
  ·skip
   have h11:addI s1 1=s1+1:=addI_eq (by omega) (by omega)
   exact hk5 _ ⟨(by (try simp only [List.length_append,List.length_cons,List.length_nil,List.length_set,List.length_replicate,bs_size]); omega),(by (try simp only [List.length_append,List.length_cons,List.length_nil,List.length_set,List.length_replicate,bs_size]); omega)⟩ (by (try simp only [List.length_append,List.length_cons,List.length_nil,List.length_set,List.length_replicate,bs_size]); omega)
 ·(try simp only [lenI] at h6)
  exact ok_some trivial
theorem tot_r10_superWords   : Ok (fun r=>SW 2 r) (r10_superWords ):=by
 unfold r10_superWords
 exact ok_some (by refine ⟨by simp,by omega,?_⟩; simp [bs_size])
theorem tot_r10_typeWords   : Ok (fun r=>SW 6 r) (r10_typeWords ):=by
 unfold r10_typeWords
 exact ok_some (by refine ⟨by simp,by omega,?_⟩; simp [bs_size])
theorem tot_r10_IsSub (s:ByteArray) (zz_s:szB s):Ok (fun r=>True) (r10_IsSub s):=by
 unfold r10_IsSub
 have z1:s.size≤1048576:=zz_s
 refine ok_bnd (tot_r02_Is _ (by first | assumption | (show _≤1048576; (try simp only [bs_size,List.length_cons,List.length_nil]); omega))) (fun y1 h2=>?_)
 refine ok_br (fun h3=>?_) (fun h3=>?_)
 ·skip
  refine ok_bnd (tot_r10_superWords  ) (fun y2 h4=>?_)
  refine ok_bnd (tot_r10_index _ _ (by first | assumption | exact SW.sz (by assumption)) (by first | assumption | (show _≤1048576; (try simp only [bs_size,List.length_cons,List.length_nil]); omega))) (fun y3 h5=>?_)
  refine ok_brd (fun h6=>?_) (fun h6=>?_)
  ·skip
   refine ok_bnd (tot_r10_typeWords  ) (fun y4 h7=>?_)
   refine ok_bnd (tot_r10_index _ _ (by first | assumption | exact SW.sz (by assumption)) (by first | assumption | (show _≤1048576; (try simp only [bs_size,List.length_cons,List.length_nil]); omega))) (fun y5 h8=>?_)
   exact ok_some trivial
  ·skip
   exact ok_some trivial
 ·skip
  exact ok_some trivial
theorem tot_r10_bit (mask:Int) (i:Int) (hi:i≤100):Ok (fun r=>True) (r10_bit mask i):=by
 unfold r10_bit
 refine ok_loop (fun (s1:Int × Int)=>0≤s1.2) (fun (s1:Int × Int)=>(i - s1.2).toNat) (by (try simp only [List.length_append,List.length_cons,List.length_nil,List.length_set,List.length_replicate,bs_size]); omega) (by show _<18446744073709551616; (try simp only [List.length_append,List.length_cons,List.length_nil]); omega) (fun s1 k2 hI1 hk2=>?_)
 unfold r10_bit_l1
 refine ok_brd (fun h3=>?_) (fun h3=>?_)
 ·skip
  refine ok_divquo (by decide) (fun x4 h4=>?_)
  have h5:addI s1.2 1=s1.2+1:=addI_eq (by omega) (by omega)
  exact hk2 _ (by (try simp only [List.length_append,List.length_cons,List.length_nil,List.length_set,List.length_replicate,bs_size]); omega) (by (try simp only [List.length_append,List.length_cons,List.length_nil,List.length_set,List.length_replicate,bs_size]); omega)
 ·skip
  refine ok_divrem (by decide) (fun x5 h6=>?_)
  exact ok_some trivial
theorem tot_r10_Is (l:GLine) (zz_l:szGLine l):Ok (fun r=>True) (r10_Is l):=by
 unfold r10_Is
 have z1:=((zz_l)).1
 have z2:=((zz_l)).2
 refine ok_jn (fun (s1:Bool)=>s1=false→¬(3<l.super)∧¬(63<l.types)∧¬(l.super<0)∧¬(l.types<1)∧¬(4<(l.subs.length:Int))) (fun k2 hk3=>?_) (fun s1 hs4=>?_)
 ·skip
  refine ok_brd (fun h5=>?_) (fun h5=>?_)
  ·skip
   exact hk3 _ (by intro hh; first | (cases hh; done) | omega | (have hh2:=of_decide_eq_false hh; (try simp only [lenI] at hh2); omega) | (simp at hh; (try simp only [lenI] at hh); omega))
  ·skip
   refine ok_brd (fun h6=>?_) (fun h6=>?_)
   ·skip
    exact hk3 _ (by intro hh; first | (cases hh; done) | omega | (have hh2:=of_decide_eq_false hh; (try simp only [lenI] at hh2); omega) | (simp at hh; (try simp only [lenI] at hh); omega))
   ·skip
    refine ok_brd (fun h7=>?_) (fun h7=>?_)
    ·skip
     exact hk3 _ (by intro hh; first | (cases hh; done) | omega | (have hh2:=of_decide_eq_false hh; (try simp only [lenI] at hh2); omega) | (simp at hh; (try simp only [lenI] at hh); omega))
    ·skip
     refine ok_brd (fun h8=>?_) (fun h8=>?_)
     ·skip
      exact hk3 _ (by intro hh; first | (cases hh; done) | omega | (have hh2:=of_decide_eq_false hh; (try simp only [lenI] at hh2); omega) | (simp at hh; (try simp only [lenI] at hh); omega))
     ·skip
      exact hk3 _ (by intro hh; first | (cases hh; done) | omega | (have hh2:=of_decide_eq_false hh; (try simp only [lenI] at hh2); omega) | (simp at hh; (try simp only [lenI] at hh); omega))
 ·skip
  refine ok_br (fun h9=>?_) (fun h9=>?_)
  ·skip
   exact ok_some trivial
  ·skip
   have hf10:=hs4 h9
   refine ok_loop (fun (s4:Int)=>0≤s4∧s4≤(l.subs.length:Int)) (fun (s4:Int)=>((l.subs.length:Int) - s4).toNat) ⟨(by (try simp only [List.length_append,List.length_cons,List.length_nil,List.length_set,List.length_replicate,bs_size]); omega),(by (try simp only [List.length_append,List.length_cons,List.length_nil,List.length_set,List.length_replicate,bs_size]); omega)⟩ (by show _<18446744073709551616; (try simp only [List.length_append,List.length_cons,List.length_nil]); omega) (fun s4 k5 hI11 hk12=>?_)
   obtain ⟨hI11_0,hI11_1⟩:=hI11
   unfold r10_Is_l1
   refine ok_brd (fun h13=>?_) (fun h13=>?_)
   ·(try simp only [lenI] at h13)
    refine ok_jn (fun (s7:Bool)=>True) (fun k8 hk14=>?_) (fun s7 hs15=>?_)
    ·skip
     refine ok_ix (by (try simp only [List.length_append,List.length_cons,List.length_nil,List.length_set,List.length_replicate,bs_size]); omega) (by (try simp only [List.length_append,List.length_cons,List.length_nil,List.length_set,List.length_replicate,bs_size]); omega) (fun x10 h16=>?_)
     have z17:szB x10:=z2 x10 h16
     have z18:x10.size≤1048576:=z17
     refine ok_bnd (tot_r10_IsSub _ (by first | assumption | (show _≤1048576; (try simp only [bs_size,List.length_cons,List.length_nil]); omega))) (fun y11 h19=>?_)
     refine ok_br (fun h20=>?_) (fun h20=>?_)
     ·skip
      exact hk14 _ trivial
     ·skip
      refine ok_brd (fun h21=>?_) (fun h21=>?_)
      ·skip
       have h22:subI s4 1=s4 - 1:=subI_eq (by (try simp only [lenI]); omega) (by (try simp only [lenI]); omega)
       refine ok_ix (by (try simp only [List.length_append,List.length_cons,List.length_nil,List.length_set,List.length_replicate,bs_size]); omega) (by (try simp only [List.length_append,List.length_cons,List.length_nil,List.length_set,List.length_replicate,bs_size]); omega) (fun x12 h23=>?_)
       have z24:szB x12:=z2 x12 h23
       have z25:x12.size≤1048576:=z24
       refine ok_ix (by (try simp only [List.length_append,List.length_cons,List.length_nil,List.length_set,List.length_replicate,bs_size]); omega) (by (try simp only [List.length_append,List.length_cons,List.length_nil,List.length_set,List.length_replicate,bs_size]); omega) (fun x13 h26=>?_)
       have z27:szB x13:=z2 x13 h26
       have z28:x13.size≤1048576:=z27
       exact hk14 _ trivial
      ·skip
       exact hk14 _ trivial
    ·skip
     refine ok_br (fun h29=>?_) (fun h29=>?_)
     ·skip
      exact ok_some trivial
     ·skip
      have h30:addI s4 1=s4+1:=addI_eq (by omega) (by omega)
      exact hk12 _ ⟨(by (try simp only [List.length_append,List.length_cons,List.length_nil,List.length_set,List.length_replicate,bs_size]); omega),(by (try simp only [List.length_append,List.length_cons,List.length_nil,List.length_set,List.length_replicate,bs_size]); omega)⟩ (by (try simp only [List.length_append,List.length_cons,List.length_nil,List.length_set,List.length_replicate,bs_size]); omega)
   ·(try simp only [lenI] at h13)
    refine ok_brd (fun h31=>?_) (fun h31=>?_)
    ·skip
     exact ok_some trivial
    ·skip
     refine ok_brd (fun h32=>?_) (fun h32=>?_)
     ·skip
      exact ok_some trivial
     ·skip
      refine ok_bnd (tot_r10_bit _ _ (by (try simp only [List.length_append,List.length_cons,List.length_nil,List.length_set,List.length_replicate,bs_size]); omega)) (fun y14 h33=>?_)
      refine ok_br (fun h34=>?_) (fun h34=>?_)
      ·skip
       refine ok_bnd (tot_r10_bit _ _ (by (try simp only [List.length_append,List.length_cons,List.length_nil,List.length_set,List.length_replicate,bs_size]); omega)) (fun y15 h35=>?_)
       exact ok_some trivial
      ·skip
       exact ok_some trivial
theorem tot_r11_Is (mask:Int)  : Ok (fun r=>True) (r11_Is mask):=by
 unfold r11_Is
 refine ok_brd (fun h1=>?_) (fun h1=>?_)
 ·skip
  exact ok_some trivial
 ·skip
  exact ok_some trivial
theorem tot_r21_creature (c:GCard) (zz_c:szGCard c):Ok (fun r=>True) (r21_creature c):=by
 unfold r21_creature
 have z1:c.name.size≤1048576:=(zz_c).1
 have z2:=(zz_c).2.1
 have z3:=(((zz_c).2.1)).1
 have z4:=(((zz_c).2.1)).2
 have z5:=((zz_c).2.2).1
 have z6:=((zz_c).2.2).2
 exact ok_some trivial
theorem tot_r13_apart (a b most:Int):Ok (fun r=>True) (r13_apart a b most):=by
 unfold r13_apart
 refine ok_jn (fun _=>True) ?_ ?_
 ·intro k h
  exact ok_brd (fun _=>h _ trivial) fun _=>ok_brd (fun _=>h _ trivial) fun _=>ok_brd (fun _=>h _ trivial) fun _=>h _ trivial
 ·intro s _
  refine ok_br (fun _=>ok_some trivial) fun _=>?_
  refine ok_loop (fun s=>0≤s.2.2∧s.2.2≤6) (fun s=>(6 - s.2.2).toNat) ⟨by simp only; omega,by simp only; omega⟩ (by show _<18446744073709551616; simp only; omega) ?_
  rintro ⟨x,y,n⟩ k ⟨h0,h1⟩ hk
  simp only at h0 h1
  unfold r13_apart_l1
  refine ok_brd (fun h=>ok_jn (fun _=>True) ?_ ?_) fun _=>ok_some trivial
  ·intro k6 h6
   exact ok_divrem (by decide) fun _ _=>ok_brd (fun _=>ok_divrem (by decide) fun _ _=>h6 _ trivial) fun _=>h6 _ trivial
  ·intro s _
   simp only at h ⊢
   rw [addI_eq (by omega) (by omega)]
   exact ok_br (fun _=>ok_some trivial) fun _=>ok_divquo (by decide) fun _ _=>ok_divquo (by decide) fun _ _=>hk _ ⟨by simp only; omega,by simp only; omega⟩ (by simp only; omega)
theorem tot_r13_bound (b:GBound):Ok (fun r=>r=true→0≤b.kind∧b.kind≤3) (r13_bound b):=by
 unfold r13_bound
 refine ok_jn (fun s=>s=false→0≤b.kind∧b.kind≤3) ?_ ?_
 ·intro k h
  exact ok_brd (fun _=>h _ (by intro e; cases e)) fun h1=>ok_brd (fun _=>h _ (by intro e; cases e)) fun h2=>ok_brd (fun _=>h _ (by intro e; cases e)) fun _=>h _ fun _=>by omega
 ·intro s hs
  exact ok_br (fun _=>ok_some (by intro e; cases e)) fun e=>ok_brn (fun _=>ok_some fun _=>hs e) fun _=>ok_some fun _=>hs e
def filterOK (f:GFilter):Prop:=(0≤f.zone∧f.zone≤5)∧(0≤f.who∧f.who≤2)∧(0≤f.self∧f.self≤2)∧(0≤f.tap∧f.tap≤2)∧(0≤f.power.kind∧f.power.kind≤3)∧(0≤f.tough.kind∧f.tough.kind≤3)∧(0≤f.value.kind∧f.value.kind≤3)
theorem tot_r13_Is (f:GFilter) (zz_f:szGFilter f):Ok (fun r=>r=true→filterOK f) (r13_Is f):=by
 unfold r13_Is
 have no:∀ {p:Prop},((false:Bool)=true→p):=fun e=>by cases e
 refine ok_jn (fun s=>s=false→(0≤f.zone∧f.zone≤5)∧(0≤f.who∧f.who≤2)∧(0≤f.self∧f.self≤2)∧(0≤f.tap∧f.tap≤2)) ?_ ?_
 ·intro k h
  iterate 7 refine ok_brd (fun _=>h _ (by intro e; cases e)) fun _=>?_
  exact h _ fun e=>by rw [decide_eq_false_iff_not] at e; omega
 ·intro s hs
  refine ok_br (fun _=>ok_some no) fun e=>ok_jn (fun _=>True) ?_ ?_
  ·intro k h
   exact ok_bnd (tot_r13_apart _ _ _) fun _ _=>ok_br (fun _=>h _ trivial) fun _=>ok_bnd (tot_r13_apart _ _ _) fun _ _=>h _ trivial
  ·intro s3 _
   refine ok_br (fun _=>ok_some no) fun _=>ok_jn (fun _=>True) ?_ ?_
   ·intro k h
    refine ok_br (fun _=>ok_bnd (tot_r10_IsSub _ zz_f) fun _ _=>ok_br (fun _=>h _ trivial) fun _=>ok_brd (fun _=>h _ trivial) fun _=>h _ trivial) fun _=>ok_brd (fun _=>h _ trivial) fun _=>h _ trivial
   ·intro s7 _
    refine ok_br (fun _=>ok_some no) fun _=>ok_bnd (tot_r13_bound _) fun y10 h10=>ok_br (fun e10=>ok_bnd (tot_r13_bound _) fun y11 h11=>ok_br (fun e11=>ok_bnd (tot_r13_bound _) fun y12 h12=>ok_some fun e12=>?_) fun _=>ok_some no) fun _=>ok_some no
    obtain ⟨a,b,c,d⟩:=hs e
    exact ⟨a,b,c,d,h10 e10,h11 e11,h12 e12⟩
theorem tot_r15_used (m:GMod) (zz_m:szGMod m):Ok (fun r=>True) (r15_used m):=by
 unfold r15_used
 have z1:m.sub.size≤1048576:=(zz_m).1
 have z2:=(zz_m).2
 have z3:m.filter.sub.size≤1048576:=((zz_m).2)
 refine ok_brd (fun h4=>?_) (fun h4=>?_)
 ·skip
  exact ok_some trivial
 ·skip
  refine ok_brd (fun h5=>?_) (fun h5=>?_)
  ·skip
   exact ok_some trivial
  ·skip
   refine ok_brd (fun h6=>?_) (fun h6=>?_)
   ·skip
    exact ok_some trivial
   ·skip
    refine ok_brd (fun h7=>?_) (fun h7=>?_)
    ·skip
     exact ok_some trivial
    ·skip
     refine ok_brd (fun h8=>?_) (fun h8=>?_)
     ·skip
      exact ok_some trivial
     ·skip
      refine ok_brd (fun h9=>?_) (fun h9=>?_)
      ·skip
       exact ok_some trivial
      ·skip
       refine ok_brd (fun h10=>?_) (fun h10=>?_)
       ·skip
        exact ok_some trivial
       ·skip
        refine ok_brd (fun h11=>?_) (fun h11=>?_)
        ·skip
         exact ok_some trivial
        ·skip
         refine ok_brd (fun h12=>?_) (fun h12=>?_)
         ·skip
          exact ok_some trivial
         ·skip
          refine ok_brd (fun h13=>?_) (fun h13=>?_)
          ·skip
           exact ok_some trivial
          ·skip
           refine ok_brd (fun h14=>?_) (fun h14=>?_)
           ·skip
            exact ok_some trivial
           ·skip
            exact ok_some trivial
theorem tot_r15_types (mask:Int)  : Ok (fun r=>True) (r15_types mask):=by
 unfold r15_types
 refine ok_brd (fun h1=>?_) (fun h1=>?_)
 ·skip
  refine ok_brd (fun h2=>?_) (fun h2=>?_)
  ·skip
   exact ok_some trivial
  ·skip
   exact ok_some trivial
 ·skip
  exact ok_some trivial
theorem tot_r15_Is (m:GMod) (zz_m:szGMod m):Ok (fun r=>True) (r15_Is m):=by
 unfold r15_Is
 have z1:m.sub.size≤1048576:=(zz_m).1
 have z2:=(zz_m).2
 have z3:m.filter.sub.size≤1048576:=((zz_m).2)
 refine ok_jn (fun (s1:Bool)=>s1=false→¬(14<m.kind)∧¬(m.kind<1)) (fun k2 hk4=>?_) (fun s1 hs5=>?_)
 ·skip
  refine ok_brd (fun h6=>?_) (fun h6=>?_)
  ·skip
   exact hk4 _ (by intro hh; first | (cases hh; done) | omega | (have hh2:=of_decide_eq_false hh; (try simp only [lenI] at hh2); omega) | (simp at hh; (try simp only [lenI] at hh); omega))
  ·skip
   refine ok_brd (fun h7=>?_) (fun h7=>?_)
   ·skip
    exact hk4 _ (by intro hh; first | (cases hh; done) | omega | (have hh2:=of_decide_eq_false hh; (try simp only [lenI] at hh2); omega) | (simp at hh; (try simp only [lenI] at hh); omega))
   ·skip
    refine ok_bnd (tot_r15_used _ (by first | assumption | (refine ⟨by omega,?_⟩; first | (intro _ _; trivial) | assumption) | (unfold szGMod; simp_all [szB,szL]))) (fun y4 h8=>?_)
    refine ok_lte (fun v5 h9=>?_)
    exact hk4 _ (by intro hh; first | (cases hh; done) | omega | (have hh2:=of_decide_eq_false hh; (try simp only [lenI] at hh2); omega) | (simp at hh; (try simp only [lenI] at hh); omega))
 ·skip
  refine ok_br (fun h10=>?_) (fun h10=>?_)
  ·skip
   exact ok_some trivial
  ·skip
   have hf11:=hs5 h10
   refine ok_brd (fun h12=>?_) (fun h12=>?_)
   ·skip
    refine ok_bnd (tot_r15_types _ ) (fun y6 h13=>?_)
    exact ok_some trivial
   ·skip
    refine ok_brd (fun h14=>?_) (fun h14=>?_)
    ·skip
     refine ok_bnd (tot_r15_types _ ) (fun y7 h15=>?_)
     exact ok_some trivial
    ·skip
     refine ok_brd (fun h16=>?_) (fun h16=>?_)
     ·skip
      refine ok_bnd (tot_r10_IsSub _ (by first | assumption | (show _≤1048576; (try simp only [bs_size,List.length_cons,List.length_nil]); omega))) (fun y8 h17=>?_)
      exact ok_some trivial
     ·skip
      refine ok_brd (fun h18=>?_) (fun h18=>?_)
      ·skip
       refine ok_bnd (tot_r10_IsSub _ (by first | assumption | (show _≤1048576; (try simp only [bs_size,List.length_cons,List.length_nil]); omega))) (fun y9 h19=>?_)
       exact ok_some trivial
      ·skip
       refine ok_brd (fun h20=>?_) (fun h20=>?_)
       ·skip
        refine ok_brd (fun h21=>?_) (fun h21=>?_)
        ·skip
         exact ok_some trivial
        ·skip
         exact ok_some trivial
       ·skip
        refine ok_brd (fun h22=>?_) (fun h22=>?_)
        ·skip
         refine ok_brd (fun h23=>?_) (fun h23=>?_)
         ·skip
          exact ok_some trivial
         ·skip
          exact ok_some trivial
        ·skip
         refine ok_brd (fun h24=>?_) (fun h24=>?_)
         ·skip
          refine ok_brd (fun h25=>?_) (fun h25=>?_)
          ·skip
           exact ok_some trivial
          ·skip
           exact ok_some trivial
         ·skip
          refine ok_brd (fun h26=>?_) (fun h26=>?_)
          ·skip
           refine ok_brd (fun h27=>?_) (fun h27=>?_)
           ·skip
            exact ok_some trivial
           ·skip
            exact ok_some trivial
          ·skip
           refine ok_brd (fun h28=>?_) (fun h28=>?_)
           ·skip
            refine ok_bnd (tot_r13_Is _ (by first | assumption | (refine ⟨by omega,?_⟩; first | (intro _ _; trivial) | assumption) | (unfold szGFilter; simp_all [szB,szL]))) (fun y10 h29=>?_)
            exact ok_some trivial
           ·skip
            refine ok_brd (fun h30=>?_) (fun h30=>?_)
            ·skip
             refine ok_brd (fun h31=>?_) (fun h31=>?_)
             ·skip
              refine ok_brd (fun h32=>?_) (fun h32=>?_)
              ·skip
               refine ok_brd (fun h33=>?_) (fun h33=>?_)
               ·skip
                exact ok_some trivial
               ·skip
                exact ok_some trivial
              ·skip
               exact ok_some trivial
             ·skip
              exact ok_some trivial
            ·skip
             refine ok_brd (fun h34=>?_) (fun h34=>?_)
             ·skip
              refine ok_brd (fun h35=>?_) (fun h35=>?_)
              ·skip
               refine ok_brd (fun h36=>?_) (fun h36=>?_)
               ·skip
                refine ok_brd (fun h37=>?_) (fun h37=>?_)
                ·skip
                 exact ok_some trivial
                ·skip
                 exact ok_some trivial
               ·skip
                exact ok_some trivial
              ·skip
               exact ok_some trivial
             ·skip
              exact ok_some trivial
theorem tot_r10_joined (l:List ByteArray) (mask:Int) (pby:ByteArray) (n:Nat) (hl:SW n l) (hb:pby.size≤10):Ok (fun r=>r.size≤11000) (r10_joined l mask pby):=by
 unfold r10_joined
 have hn:=hl.1; have hn2:=hl.2.1
 refine ok_forr 0 l.length (fun n t=>t.size≤110 * n) 0 rfl (Nat.zero_le _) (by omega) (by simp [bs_size]) ?_ ?_
 ·intro i t k hi hI hk
  unfold r10_joined_l1
  refine ok_brd (fun _=>ok_jn (fun s=>s.size≤110 * (i+1)) ?_ fun s hs=>hk s hs) fun h=>absurd (show (i:Int)<(l.length:Int) by omega) h
  intro k5 h5
  refine ok_bnd (tot_r10_bit _ _ (by simp only; omega)) fun y7 _=>ok_br (fun _=>ok_jn (fun s=>s.size≤110 * i+10) ?_ ?_) fun _=>h5 _ (by simp only; omega)
  ·intro k9 h9
   exact ok_br (fun _=>ok_cat (by simp only; omega) fun x hx=>h9 _ (by simp only at hx; omega)) fun _=>h9 _ (by simp only; omega)
  ·intro s hs
   refine ok_ix (by simp only; omega) (by simp only; omega) fun x hx=>ok_cat (by have:=hl.2.2 x hx; omega) fun y hy=>h5 _ (by have:=hl.2.2 x hx; omega)
 ·intro t k hI
  unfold r10_joined_l1
  exact ok_brd (fun h=>absurd h (by show ¬ (l.length:Int)<(l.length:Int); omega)) fun _=>ok_some (by simp only; omega)
theorem tot_r10_TypesText (mask:Int):Ok (fun r=>r.size≤11000) (r10_TypesText mask):=by
 unfold r10_TypesText
 exact ok_brd (fun _=>ok_some (by simp [bs_size])) fun _=>ok_brd (fun _=>ok_some (by simp [bs_size])) fun _=>ok_bnd tot_r10_typeWords fun y1 h1=>ok_bnd (tot_r10_joined _ _ _ _ h1 (by simp [bs_size])) fun y2 h2=>ok_some h2
theorem tot_r09_Is (mask:Int)  : Ok (fun r=>True) (r09_Is mask):=by
 unfold r09_Is
 refine ok_brd (fun h1=>?_) (fun h1=>?_)
 ·skip
  exact ok_some trivial
 ·skip
  exact ok_some trivial
theorem tot_r09_Name (i:Int)  : Ok (fun r=>r.size≤100) (r09_Name i):=by
 unfold r09_Name
 refine ok_brd (fun h1=>?_) (fun h1=>?_)
 ·skip
  exact ok_some (by simp [bs_size])
 ·skip
  refine ok_brd (fun h2=>?_) (fun h2=>?_)
  ·skip
   exact ok_some (by simp [bs_size])
  ·skip
   refine ok_brd (fun h3=>?_) (fun h3=>?_)
   ·skip
    exact ok_some (by simp [bs_size])
   ·skip
    refine ok_brd (fun h4=>?_) (fun h4=>?_)
    ·skip
     exact ok_some (by simp [bs_size])
    ·skip
     refine ok_brd (fun h5=>?_) (fun h5=>?_)
     ·skip
      exact ok_some (by simp [bs_size])
     ·skip
      exact ok_some (by simp [bs_size])
theorem tot_r09_Text (mask:Int):Ok (fun r=>r.size≤11000) (r09_Text mask):=by
 unfold r09_Text
 refine ok_bnd (tot_r09_Is _) fun y1 _=>ok_br (fun _=>ok_some (by simp [bs_size])) fun _=>ok_brd (fun _=>ok_some (by simp [bs_size])) fun _=>?_
 refine ok_forr 0 5 (fun n t=>t.size≤110 * n) 0 rfl (by omega) (by omega) (by simp [bs_size]) ?_ ?_
 ·intro i t k hi hI hk
  unfold r09_Text_l1
  refine ok_brd (fun _=>ok_jn (fun s=>s.size≤110 * (i+1)) ?_ fun s hs=>hk s hs) fun h=>absurd (show (i:Int)<5 by omega) h
  intro k5 h5
  refine ok_shf (by simp only; omega) fun x6 hx6=>ok_divquo ?_ fun x7 _=>ok_divrem (by decide) fun x8 _=>ok_brd (fun _=>ok_jn (fun s=>s.size≤110 * i+10) ?_ ?_) fun _=>h5 _ (by simp only; omega)
  ·rcases five hi with rfl | rfl | rfl | rfl | rfl
   all_goals
    have:x6 ≠ 0:=by
     intro e; subst e; revert hx6; simp only; decide
    exact this
  ·intro k9 h9
   exact ok_br (fun _=>ok_cat (by simp only [bs_size,List.length_cons,List.length_nil]; omega) fun x hx=>h9 _ (by simp only [bs_size,List.length_cons,List.length_nil] at hx; omega)) fun _=>h9 _ (by simp only; omega)
  ·intro s hs
   exact ok_bnd (tot_r09_Name _) fun y hy=>ok_cat (by omega) fun z hz=>h5 _ (by omega)
 ·intro t k hI
  unfold r09_Text_l1
  exact ok_brd (fun h=>absurd h (by simp only; omega)) fun _=>ok_some (by simp only; omega)
theorem tot_r11_names   : Ok (fun r=>SW 17 r) (r11_names ):=by
 unfold r11_names
 exact ok_some (by refine ⟨by simp,by omega,?_⟩; simp [bs_size])
theorem tot_r11_Name (i:Int):Ok (fun r=>r.size≤100) (r11_Name i):=by
 unfold r11_Name
 refine ok_brd (fun _=>ok_some (by simp [bs_size])) fun _=>ok_brd (fun _=>ok_some (by simp [bs_size])) fun _=>ok_bnd tot_r11_names fun y1 h1=>ok_ix (by omega) (by have:=h1.1; omega) fun x hx=>ok_some (h1.2.2 x hx)
theorem tot_r11_Text (mask:Int):Ok (fun r=>r.size≤11000) (r11_Text mask):=by
 unfold r11_Text
 refine ok_bnd (tot_r11_Is _) fun y1 _=>ok_br (fun _=>ok_some (by simp [bs_size])) fun _=>?_
 refine ok_loop (fun s=>∃ n:Nat,s.2.2=(n:Int)∧n≤17∧s.2.1.size≤110 * n) (fun s=>17 - s.2.2.toNat) ⟨0,rfl,by omega,by simp [bs_size]⟩ (by show 17 - _<18446744073709551616; omega) ?_
 rintro ⟨m,t,n'⟩ k ⟨n,e,hn,ht⟩ hk
 simp only at e ht; subst e
 unfold r11_Text_l1
 refine ok_brd (fun h=>ok_jn (fun s=>s.2.size≤110 * (n+1)) ?_ ?_) fun h=>ok_br (fun _=>ok_some (by simp [bs_size])) fun _=>ok_some (by simp only; omega)
 ·intro k6 h6
  refine ok_jn (fun s=>s.size≤110 * (n+1)) ?_ fun s hs=>ok_divquo (by decide) fun x _=>h6 _ hs
  intro k9 h9
  refine ok_divrem (by decide) fun x _=>ok_brd (fun _=>ok_jn (fun s=>s.size≤110 * n+10) ?_ ?_) fun _=>h9 _ (by simp only; omega)
  ·intro k13 h13
   exact ok_br (fun _=>ok_cat (by simp only [bs_size,List.length_cons,List.length_nil]; omega) fun x hx=>h13 _ (by simp only [bs_size,List.length_cons,List.length_nil] at hx; omega)) fun _=>h13 _ (by simp only; omega)
  ·intro s hs
   exact ok_bnd (tot_r11_Name _) fun y hy=>ok_cat (by omega) fun z hz=>h9 _ (by omega)
 ·rintro ⟨s1,s2⟩ hs
  simp only at h hs ⊢
  rw [addI_nat (by omega)]
  exact hk _ ⟨n+1,rfl,by omega,hs⟩ (by simp only [Int.toNat_natCast]; omega)
theorem tot_r13_zoneWords   : Ok (fun r=>SW 6 r) (r13_zoneWords ):=by
 unfold r13_zoneWords
 exact ok_some (by refine ⟨by simp,by omega,?_⟩; simp [bs_size])
theorem tot_r13_whoWords   : Ok (fun r=>SW 3 r) (r13_whoWords ):=by
 unfold r13_whoWords
 exact ok_some (by refine ⟨by simp,by omega,?_⟩; simp [bs_size])
theorem tot_r13_selfWords   : Ok (fun r=>SW 3 r) (r13_selfWords ):=by
 unfold r13_selfWords
 exact ok_some (by refine ⟨by simp,by omega,?_⟩; simp [bs_size])
theorem tot_r13_tapWords   : Ok (fun r=>SW 3 r) (r13_tapWords ):=by
 unfold r13_tapWords
 exact ok_some (by refine ⟨by simp,by omega,?_⟩; simp [bs_size])
theorem tot_r13_add (l:List ByteArray) (s:ByteArray) (n:Nat) (hl:WL n l) (hs:s.size≤140737488360000) (hn:n≤1000):Ok (fun r=>WL (n+1) r) (r13_add l s):=by
 unfold r13_add
 have:=hl.1
 exact ok_br (fun _=>ok_some (hl.mono (by omega))) fun _=>ok_room (by simp only [List.length_cons,List.length_nil]; omega) (by simp only [List.length_cons,List.length_nil]; omega) (ok_some (hl.add hs))
theorem tot_r13_bit (mask:Int) (i:Int) (hi:i≤100):Ok (fun r=>True) (r13_bit mask i):=by
 unfold r13_bit
 refine ok_loop (fun (s1:Int × Int)=>0≤s1.2) (fun (s1:Int × Int)=>(i - s1.2).toNat) (by (try simp only [List.length_append,List.length_cons,List.length_nil,List.length_set,List.length_replicate,bs_size]); omega) (by show _<18446744073709551616; (try simp only [List.length_append,List.length_cons,List.length_nil]); omega) (fun s1 k2 hI1 hk2=>?_)
 unfold r13_bit_l1
 refine ok_brd (fun h3=>?_) (fun h3=>?_)
 ·skip
  refine ok_divquo (by decide) (fun x4 h4=>?_)
  have h5:addI s1.2 1=s1.2+1:=addI_eq (by omega) (by omega)
  exact hk2 _ (by (try simp only [List.length_append,List.length_cons,List.length_nil,List.length_set,List.length_replicate,bs_size]); omega) (by (try simp only [List.length_append,List.length_cons,List.length_nil,List.length_set,List.length_replicate,bs_size]); omega)
 ·skip
  refine ok_divrem (by decide) (fun x5 h6=>?_)
  exact ok_some trivial
theorem tot_r13_typeWord (i:Int) (hi:i≤100):Ok (fun r=>r.size≤11000) (r13_typeWord i):=by
 unfold r13_typeWord
 refine ok_loop (fun (s1:Int × Int)=>0≤s1.2) (fun (s1:Int × Int)=>(i - s1.2).toNat) (by (try simp only [List.length_append,List.length_cons,List.length_nil,List.length_set,List.length_replicate,bs_size]); omega) (by show _<18446744073709551616; (try simp only [List.length_append,List.length_cons,List.length_nil]); omega) (fun s1 k2 hI1 hk2=>?_)
 unfold r13_typeWord_l1
 refine ok_brd (fun h3=>?_) (fun h3=>?_)
 ·skip
  have h4:addI s1.2 1=s1.2+1:=addI_eq (by omega) (by omega)
  exact hk2 _ (by (try simp only [List.length_append,List.length_cons,List.length_nil,List.length_set,List.length_replicate,bs_size]); omega) (by (try simp only [List.length_append,List.length_cons,List.length_nil,List.length_set,List.length_replicate,bs_size]); omega)
 ·skip
  refine ok_bnd (tot_r10_TypesText _ ) (fun y4 h5=>?_)
  exact ok_some (by first | omega | (simp [bs_size]; done))
theorem tot_r01_digits (u:Int) (hu:0≤u∧u<18446744073709551616):Ok (fun r=>r.size≤21) (r01_digits u):=by
 obtain ⟨h0,h1⟩:=hu
 unfold r01_digits
 refine ok_divrem (by decide) (fun x1 _=>ok_str1 (fun x2 h2=>ok_divquo (by decide) (fun x3 h3=>?_)))
 rw [u64q h0 h1] at h3
 refine ok_loop (fun s=>∃ k:Nat,s.2.size+k≤21∧0≤s.1∧s.1<10 ^ k) (fun s=>s.1.toNat) ⟨20,by simp only; omega,by simp only; omega,by simp only; omega⟩ (by show _<18446744073709551616; simp only; omega) ?_
 rintro ⟨a,b⟩ k5 ⟨k,g1,g2,g3⟩ hk
 simp only at g1 g2 g3
 unfold r01_digits_l1
 refine ok_brd (fun h=>?_) (fun _=>ok_some (by simp only; omega))
 simp only at h
 have hk1:k ≠ 0:=by intro e; subst e; simp at g3; omega
 obtain ⟨k',rfl⟩:∃ k',k=k'+1:=⟨k - 1,by omega⟩
 have hp:(10:Int) ^ (k'+1)=10 ^ k' * 10:=Int.pow_succ 10 k'
 rw [hp] at g3
 refine ok_divrem (by decide) (fun x6 _=>ok_str1 (fun x7 h7=>ok_cat (by simp only; omega) (fun x8 h8=>ok_divquo (by decide) (fun x9 h9=>?_))))
 simp only at h8 h9
 have hq:0≤x9∧x9≤a / 10:=by
  rw [h9,Int.tdiv_eq_ediv_of_nonneg g2,IntKind.wrap_u64]; omega
 exact hk _ ⟨k',by simp only; omega,hq.1,by simp only; omega⟩ (by simp only; omega)
theorem tot_r01_Text (n:Int)  : Ok (fun r=>r.size≤22) (r01_Text n):=by
 unfold r01_Text
 refine ok_brd (fun h1=>?_) (fun h1=>?_)
 ·skip
  refine ok_bnd (tot_r01_digits _ (wrap_u64r _)) (fun y1 h2=>?_)
  refine ok_cat (by (try simp only [List.length_append,List.length_cons,List.length_nil,List.length_set,List.length_replicate,bs_size]); omega) (fun x2 h3=>?_)
  simp only [bs_size,List.length_cons,List.length_nil] at h3
  exact ok_some (by first | omega | (simp [bs_size]; done))
 ·skip
  refine ok_bnd (tot_r01_digits _ (wrap_u64r _)) (fun y3 h4=>?_)
  exact ok_some (by first | omega | (simp [bs_size]; done))
theorem tot_r13_signs   : Ok (fun r=>SW 4 r) (r13_signs ):=by
 unfold r13_signs
 exact ok_some (by refine ⟨by simp,by omega,?_⟩; simp [bs_size])
theorem tot_r13_boundWord (name:ByteArray) (b:GBound) (hn:name.size≤100) (hk:0≤b.kind∧b.kind≤3):Ok (fun r=>r.size≤1000) (r13_boundWord name b):=by
 unfold r13_boundWord
 refine ok_brd (fun _=>ok_some (by simp [bs_size])) fun _=>ok_bnd tot_r13_signs fun y1 h1=>ok_ix (by omega) (by have:=h1.1; omega) fun x2 hx2=>?_
 have:=h1.2.2 x2 hx2
 exact ok_cat (by omega) fun x3 h3=>ok_bnd (tot_r01_Text _) fun y4 h4=>ok_cat (by omega) fun x5 h5=>ok_some (by omega)
theorem tot_r02_Join (l:List ByteArray) (pby:ByteArray) (hl:WL 200 l) (hb:pby.size≤10):Ok (fun r=>r.size≤28147497672002000) (r02_Join l pby):=by
 unfold r02_Join
 have hn:=hl.1
 refine ok_forr 0 l.length (fun n t=>t.size≤140737488360010 * n) 0 rfl (Nat.zero_le _) (by omega) (by simp [bs_size]) ?_ ?_
 ·intro i t k hi hI hk
  unfold r02_Join_l1
  refine ok_brd (fun _=>ok_jn (fun s=>s.size≤140737488360010 * (i+1)) ?_ fun s hs=>hk s hs) fun h=>absurd (show (i:Int)<(l.length:Int) by omega) h
  intro k5 h5
  refine ok_jn (fun s=>s.size≤140737488360010 * i+10) ?_ ?_
  ·intro k9 h9
   exact ok_brd (fun _=>ok_cat (by simp only; omega) fun x hx=>h9 _ (by simp only at hx; omega)) fun _=>h9 _ (by simp only; omega)
  ·intro s hs
   refine ok_ix (by simp only; omega) (by simp only; omega) fun x hx=>ok_cat (by have:=hl.2 x hx; omega) fun y hy=>h5 _ (by have:=hl.2 x hx; omega)
 ·intro t k hI
  unfold r02_Join_l1
  exact ok_brd (fun h=>absurd h (by show ¬ (l.length:Int)<(l.length:Int); omega)) fun _=>ok_some (by simp only; omega)
theorem tot_r13_Text (f:GFilter) (zz_f:szGFilter f):Ok (fun r=>r.size≤28147497672002000) (r13_Text f):=by
 have hsub:f.sub.size≤1048576:=zz_f
 unfold r13_Text
 refine ok_bnd (tot_r13_Is f zz_f) fun y1 h1=>ok_br (fun _=>ok_some (by simp [bs_size])) fun h=>?_
 obtain ⟨hz,hw,hs,ht,hp,hq,hv⟩:=h1 (by simpa using h)
 refine ok_bnd tot_r13_zoneWords fun y2 h2=>ok_bnd tot_r13_whoWords fun y3 h3=>ok_bnd tot_r13_selfWords fun y4 h4=>ok_bnd tot_r13_tapWords fun y5 h5=>?_
 have l5:=h5.1
 refine ok_ix (by omega) (by have:=h2.1; omega) fun x6 k6=>ok_bnd (tot_r13_add _ _ 0 ⟨by simp,by simp⟩ (by have:=h2.2.2 x6 k6; omega) (by omega)) fun y7 h7=>?_
 refine ok_ix (by omega) (by have:=h3.1; omega) fun x8 k8=>ok_bnd (tot_r13_add _ _ _ h7 (by have:=h3.2.2 x8 k8; omega) (by omega)) fun y9 h9=>?_
 refine ok_ix (by omega) (by have:=h4.1; omega) fun x10 k10=>ok_bnd (tot_r13_add _ _ _ h9 (by have:=h4.2.2 x10 k10; omega) (by omega)) fun y11 h11=>?_
 refine ok_for 0 6 (fun n t=>WL (3+n) t) 0 rfl (by omega) (by omega) h11 ?_ ?_
 ·intro i t k hi hI hk
  have hl:=hI.1
  unfold r13_Text_l5
  refine ok_brd (fun _=>ok_jn (fun s=>WL (3+i+1) s) ?_ fun s hs=>hk s hs) fun h=>absurd (show (i:Int)<6 by omega) h
  intro k16 h16
  exact ok_bnd (tot_r13_bit _ _ (by simp only; omega)) fun y18 _=>ok_br (fun _=>ok_bnd (tot_r13_typeWord _ (by simp only; omega)) fun y19 h19=>ok_room (by simp only [List.length_cons,List.length_nil]; omega) (by simp only [List.length_cons,List.length_nil]; omega) (h16 _ (hI.add (by omega)))) fun _=>h16 _ (hI.mono (by omega))
 intro t _ h12
 unfold r13_Text_l5
 refine ok_brd (fun h=>absurd h (by simp only; omega)) fun _=>?_
 refine ok_for 0 6 (fun n t=>WL (9+n) t) 0 rfl (by omega) (by omega) h12 ?_ ?_
 ·intro i t k hi hI hk
  have hl:=hI.1
  unfold r13_Text_l4
  refine ok_brd (fun _=>ok_jn (fun s=>WL (9+i+1) s) ?_ fun s hs=>hk s hs) fun h=>absurd (show (i:Int)<6 by omega) h
  intro k16 h16
  exact ok_bnd (tot_r13_bit _ _ (by simp only; omega)) fun y18 _=>ok_br (fun _=>ok_bnd (tot_r13_typeWord _ (by simp only; omega)) fun y19 h19=>ok_cat (by simp only [bs_size,List.length_cons,List.length_nil]; omega) fun x hx=>ok_room (by simp only [List.length_cons,List.length_nil]; omega) (by simp only [List.length_cons,List.length_nil]; omega) (h16 _ (hI.add (by simp only [bs_size,List.length_cons,List.length_nil] at hx; omega)))) fun _=>h16 _ (hI.mono (by omega))
 intro t _ h13
 unfold r13_Text_l4
 refine ok_brd (fun h=>absurd h (by simp only; omega)) fun _=>?_
 refine ok_for 0 5 (fun n t=>WL (15+n) t) 0 rfl (by omega) (by omega) h13 ?_ ?_
 ·intro i t k hi hI hk
  have hl:=hI.1
  unfold r13_Text_l3
  refine ok_brd (fun _=>ok_jn (fun s=>WL (15+i+1) s) ?_ fun s hs=>hk s hs) fun h=>absurd (show (i:Int)<5 by omega) h
  intro k16 h16
  exact ok_bnd (tot_r13_bit _ _ (by simp only; omega)) fun y18 _=>ok_br (fun _=>ok_bnd (tot_r09_Name _) fun y19 h19=>ok_room (by simp only [List.length_cons,List.length_nil]; omega) (by simp only [List.length_cons,List.length_nil]; omega) (h16 _ (hI.add (by omega)))) fun _=>h16 _ (hI.mono (by omega))
 intro t _ h14
 unfold r13_Text_l3
 refine ok_brd (fun h=>absurd h (by simp only; omega)) fun _=>?_
 refine ok_for 0 5 (fun n t=>WL (20+n) t) 0 rfl (by omega) (by omega) h14 ?_ ?_
 ·intro i t k hi hI hk
  have hl:=hI.1
  unfold r13_Text_l2
  refine ok_brd (fun _=>ok_jn (fun s=>WL (20+i+1) s) ?_ fun s hs=>hk s hs) fun h=>absurd (show (i:Int)<5 by omega) h
  intro k16 h16
  exact ok_bnd (tot_r13_bit _ _ (by simp only; omega)) fun y18 _=>ok_br (fun _=>ok_bnd (tot_r09_Name _) fun y19 h19=>ok_cat (by simp only [bs_size,List.length_cons,List.length_nil]; omega) fun x hx=>ok_room (by simp only [List.length_cons,List.length_nil]; omega) (by simp only [List.length_cons,List.length_nil]; omega) (h16 _ (hI.add (by simp only [bs_size,List.length_cons,List.length_nil] at hx; omega)))) fun _=>h16 _ (hI.mono (by omega))
 intro t _ h15
 have hl15:=h15.1
 unfold r13_Text_l2
 refine ok_brd (fun h=>absurd h (by simp only; omega)) fun _=>?_
 refine ok_jn (fun s=>WL 26 s) ?_ ?_
 ·intro k h
  exact ok_br (fun _=>ok_cat (by simp only [bs_size,List.length_cons,List.length_nil]; omega) fun x hx=>ok_room (by simp only [List.length_cons,List.length_nil]; omega) (by simp only [List.length_cons,List.length_nil]; omega) (h _ (h15.add (by simp only [bs_size,List.length_cons,List.length_nil] at hx; omega)))) fun _=>h _ (h15.mono (by omega))
 intro s46 h16
 refine ok_for 0 17 (fun n t=>WL (26+n) t) 0 rfl (by omega) (by omega) h16 ?_ ?_
 ·intro i t k hi hI hk
  have hl:=hI.1
  unfold r13_Text_l1
  refine ok_brd (fun _=>ok_jn (fun s=>WL (26+i+1) s) ?_ fun s hs=>hk s hs) fun h=>absurd (show (i:Int)<17 by omega) h
  intro k16 h16
  exact ok_bnd (tot_r13_bit _ _ (by simp only; omega)) fun y18 _=>ok_br (fun _=>ok_bnd (tot_r11_Name _) fun y19 h19=>ok_cat (by simp only [bs_size,List.length_cons,List.length_nil]; omega) fun x hx=>ok_room (by simp only [List.length_cons,List.length_nil]; omega) (by simp only [List.length_cons,List.length_nil]; omega) (h16 _ (hI.add (by simp only [bs_size,List.length_cons,List.length_nil] at hx; omega)))) fun _=>h16 _ (hI.mono (by omega))
 intro t _ h17
 unfold r13_Text_l1
 refine ok_brd (fun h=>absurd h (by simp only; omega)) fun _=>?_
 refine ok_ix (by omega) (by omega) fun x48 k48=>ok_bnd (tot_r13_add _ _ _ h17 (by have:=h5.2.2 x48 k48; omega) (by omega)) fun y49 h49=>?_
 refine ok_bnd (tot_r13_boundWord _ _ (by simp [bs_size]) hp) fun y50 h50=>ok_bnd (tot_r13_add _ _ _ h49 (by omega) (by omega)) fun y51 h51=>?_
 refine ok_bnd (tot_r13_boundWord _ _ (by simp [bs_size]) hq) fun y52 h52=>ok_bnd (tot_r13_add _ _ _ h51 (by omega) (by omega)) fun y53 h53=>?_
 refine ok_bnd (tot_r13_boundWord _ _ (by simp [bs_size]) hv) fun y54 h54=>ok_bnd (tot_r13_add _ _ _ h53 (by omega) (by omega)) fun y55 h55=>?_
 exact ok_brd (fun _=>ok_some (by simp [bs_size])) fun _=>ok_bnd (tot_r02_Join _ _ (h55.mono (by omega)) (by simp [bs_size])) fun y56 h56=>ok_some h56
theorem tot_r15_Text (m:GMod) (zz_m:szGMod m):Ok (fun r=>r.size≤28147497672100000) (r15_Text m):=by
 unfold r15_Text
 have z1:m.sub.size≤1048576:=(zz_m).1
 have z2:=(zz_m).2
 have z3:m.filter.sub.size≤1048576:=((zz_m).2)
 refine ok_bnd (tot_r15_Is _ (by first | assumption | (refine ⟨by omega,?_⟩; first | (intro _ _; trivial) | assumption) | (unfold szGMod; simp_all [szB,szL]))) (fun y1 h4=>?_)
 refine ok_br (fun h5=>?_) (fun h5=>?_)
 ·skip
  exact ok_some (by first | omega | (simp [bs_size]; done))
 ·skip
  refine ok_brd (fun h6=>?_) (fun h6=>?_)
  ·skip
   exact ok_some (by first | omega | (simp [bs_size]; done))
  ·skip
   refine ok_brd (fun h7=>?_) (fun h7=>?_)
   ·skip
    refine ok_bnd (tot_r10_TypesText _ ) (fun y2 h8=>?_)
    refine ok_cat (by (try simp only [List.length_append,List.length_cons,List.length_nil,List.length_set,List.length_replicate,bs_size]); omega) (fun x3 h9=>?_)
    simp only [bs_size,List.length_cons,List.length_nil] at h9
    exact ok_some (by first | omega | (simp [bs_size]; done))
   ·skip
    refine ok_brd (fun h10=>?_) (fun h10=>?_)
    ·skip
     refine ok_bnd (tot_r10_TypesText _ ) (fun y4 h11=>?_)
     refine ok_cat (by (try simp only [List.length_append,List.length_cons,List.length_nil,List.length_set,List.length_replicate,bs_size]); omega) (fun x5 h12=>?_)
     simp only [bs_size,List.length_cons,List.length_nil] at h12
     exact ok_some (by first | omega | (simp [bs_size]; done))
    ·skip
     refine ok_brd (fun h13=>?_) (fun h13=>?_)
     ·skip
      refine ok_cat (by (try simp only [List.length_append,List.length_cons,List.length_nil,List.length_set,List.length_replicate,bs_size]); omega) (fun x6 h14=>?_)
      simp only [bs_size,List.length_cons,List.length_nil] at h14
      exact ok_some (by first | omega | (simp [bs_size]; done))
     ·skip
      refine ok_brd (fun h15=>?_) (fun h15=>?_)
      ·skip
       refine ok_cat (by (try simp only [List.length_append,List.length_cons,List.length_nil,List.length_set,List.length_replicate,bs_size]); omega) (fun x7 h16=>?_)
       simp only [bs_size,List.length_cons,List.length_nil] at h16
       exact ok_some (by first | omega | (simp [bs_size]; done))
      ·skip
       refine ok_brd (fun h17=>?_) (fun h17=>?_)
       ·skip
        refine ok_bnd (tot_r09_Text _ ) (fun y8 h18=>?_)
        refine ok_cat (by (try simp only [List.length_append,List.length_cons,List.length_nil,List.length_set,List.length_replicate,bs_size]); omega) (fun x9 h19=>?_)
        simp only [bs_size,List.length_cons,List.length_nil] at h19
        exact ok_some (by first | omega | (simp [bs_size]; done))
       ·skip
        refine ok_brd (fun h20=>?_) (fun h20=>?_)
        ·skip
         refine ok_bnd (tot_r09_Text _ ) (fun y10 h21=>?_)
         refine ok_cat (by (try simp only [List.length_append,List.length_cons,List.length_nil,List.length_set,List.length_replicate,bs_size]); omega) (fun x11 h22=>?_)
         simp only [bs_size,List.length_cons,List.length_nil] at h22
         exact ok_some (by first | omega | (simp [bs_size]; done))
        ·skip
         refine ok_brd (fun h23=>?_) (fun h23=>?_)
         ·skip
          refine ok_bnd (tot_r11_Text _ ) (fun y12 h24=>?_)
          refine ok_cat (by (try simp only [List.length_append,List.length_cons,List.length_nil,List.length_set,List.length_replicate,bs_size]); omega) (fun x13 h25=>?_)
          simp only [bs_size,List.length_cons,List.length_nil] at h25
          exact ok_some (by first | omega | (simp [bs_size]; done))
         ·skip
          refine ok_brd (fun h26=>?_) (fun h26=>?_)
          ·skip
           refine ok_bnd (tot_r11_Text _ ) (fun y14 h27=>?_)
           refine ok_cat (by (try simp only [List.length_append,List.length_cons,List.length_nil,List.length_set,List.length_replicate,bs_size]); omega) (fun x15 h28=>?_)
           simp only [bs_size,List.length_cons,List.length_nil] at h28
           exact ok_some (by first | omega | (simp [bs_size]; done))
          ·skip
           refine ok_brd (fun h29=>?_) (fun h29=>?_)
           ·skip
            exact ok_some (by first | omega | (simp [bs_size]; done))
           ·skip
            refine ok_brd (fun h30=>?_) (fun h30=>?_)
            ·skip
             refine ok_bnd (tot_r13_Text _ (by first | assumption | (refine ⟨by omega,?_⟩; first | (intro _ _; trivial) | assumption) | (unfold szGFilter; simp_all [szB,szL]))) (fun y16 h31=>?_)
             refine ok_cat (by (try simp only [List.length_append,List.length_cons,List.length_nil,List.length_set,List.length_replicate,bs_size]); omega) (fun x17 h32=>?_)
             simp only [bs_size,List.length_cons,List.length_nil] at h32
             refine ok_cat (by (try simp only [List.length_append,List.length_cons,List.length_nil,List.length_set,List.length_replicate,bs_size]); omega) (fun x18 h33=>?_)
             simp only [bs_size,List.length_cons,List.length_nil] at h33
             exact ok_some (by first | omega | (simp [bs_size]; done))
            ·skip
             refine ok_brd (fun h34=>?_) (fun h34=>?_)
             ·skip
              refine ok_bnd (tot_r01_Text _ ) (fun y19 h35=>?_)
              refine ok_cat (by (try simp only [List.length_append,List.length_cons,List.length_nil,List.length_set,List.length_replicate,bs_size]); omega) (fun x20 h36=>?_)
              simp only [bs_size,List.length_cons,List.length_nil] at h36
              refine ok_cat (by (try simp only [List.length_append,List.length_cons,List.length_nil,List.length_set,List.length_replicate,bs_size]); omega) (fun x21 h37=>?_)
              simp only [bs_size,List.length_cons,List.length_nil] at h37
              refine ok_bnd (tot_r01_Text _ ) (fun y22 h38=>?_)
              refine ok_cat (by (try simp only [List.length_append,List.length_cons,List.length_nil,List.length_set,List.length_replicate,bs_size]); omega) (fun x23 h39=>?_)
              exact ok_some (by first | omega | (simp [bs_size]; done))
             ·skip
              refine ok_brd (fun h40=>?_) (fun h40=>?_)
              ·skip
               refine ok_bnd (tot_r01_Text _ ) (fun y24 h41=>?_)
               refine ok_cat (by (try simp only [List.length_append,List.length_cons,List.length_nil,List.length_set,List.length_replicate,bs_size]); omega) (fun x25 h42=>?_)
               simp only [bs_size,List.length_cons,List.length_nil] at h42
               refine ok_cat (by (try simp only [List.length_append,List.length_cons,List.length_nil,List.length_set,List.length_replicate,bs_size]); omega) (fun x26 h43=>?_)
               simp only [bs_size,List.length_cons,List.length_nil] at h43
               refine ok_bnd (tot_r01_Text _ ) (fun y27 h44=>?_)
               refine ok_cat (by (try simp only [List.length_append,List.length_cons,List.length_nil,List.length_set,List.length_replicate,bs_size]); omega) (fun x28 h45=>?_)
               exact ok_some (by first | omega | (simp [bs_size]; done))
              ·skip
               exact ok_some (by first | omega | (simp [bs_size]; done))
theorem tot_r15_ListText (l:List GMod) (zz_l:(szL szGMod) l):Ok (fun r=>True) (r15_ListText l):=by
 unfold r15_ListText
 refine ok_jn (fun s=>s=false→l.length≤6) ?_ ?_
 ·intro k h
  exact ok_brd (fun _=>h _ (by intro e; cases e)) fun _=>h _ fun e=>by rw [decide_eq_false_iff_not] at e; unfold lenI at e; omega
 ·intro s hs
  refine ok_br (fun _=>ok_some trivial) fun e=>?_
  have hl:=hs e
  refine ok_forr 0 l.length (fun n t=>t.size≤28147497672200000 * n) 0 rfl (Nat.zero_le _) (by omega) (by simp [bs_size]) ?_ ?_
  ·intro i t k hi hI hk
   unfold r15_ListText_l1
   refine ok_brd (fun _=>ok_jn (fun s=>s.size≤28147497672200000 * (i+1)) ?_ fun s hs=>hk s hs) fun h=>absurd (show (i:Int)<(l.length:Int) by omega) h
   intro k8 h8
   refine ok_ix (by simp only; omega) (by simp only; omega) fun x7 hx7=>ok_bnd (tot_r15_Is _ (zz_l.2 x7 hx7)) fun y8 _=>ok_br (fun _=>ok_some trivial) fun _=>ok_jn (fun s=>s.size≤28147497672200000 * i+2) ?_ ?_
   ·intro k13 h13
    exact ok_brd (fun _=>ok_cat (by simp only [bs_size,List.length_cons,List.length_nil]; omega) fun x hx=>h13 _ (by simp only [bs_size,List.length_cons,List.length_nil] at hx; omega)) fun _=>h13 _ (by simp only; omega)
   ·intro s hs
    exact ok_ix (by simp only; omega) (by simp only; omega) fun x hx=>ok_bnd (tot_r15_Text _ (zz_l.2 x hx)) fun y hy=>ok_cat (by omega) fun z hz=>h8 _ (by omega)
  ·intro t k hI
   unfold r15_ListText_l1
   exact ok_brd (fun h=>absurd h (by show ¬ (l.length:Int)<(l.length:Int); omega)) fun _=>ok_some trivial
theorem tot_r20_price (p:GPrice)  : Ok (fun r=>True) (r20_price p):=by
 unfold r20_price
 refine ok_bnd (tot_r08_Is _ ) (fun y1 h1=>?_)
 refine ok_br (fun h2=>?_) (fun h2=>?_)
 ·skip
  refine ok_brd (fun h3=>?_) (fun h3=>?_)
  ·skip
   refine ok_brd (fun h4=>?_) (fun h4=>?_)
   ·skip
    exact ok_some trivial
   ·skip
    exact ok_some trivial
  ·skip
   exact ok_some trivial
 ·skip
  exact ok_some trivial
theorem tot_r18_word (when:Int)  : Ok (fun r=>True) (r18_word when):=by
 unfold r18_word
 refine ok_brd (fun h1=>?_) (fun h1=>?_)
 ·skip
  exact ok_some trivial
 ·skip
  refine ok_brd (fun h2=>?_) (fun h2=>?_)
  ·skip
   exact ok_some trivial
  ·skip
   refine ok_brd (fun h3=>?_) (fun h3=>?_)
   ·skip
    exact ok_some trivial
   ·skip
    refine ok_brd (fun h4=>?_) (fun h4=>?_)
    ·skip
     exact ok_some trivial
    ·skip
     refine ok_brd (fun h5=>?_) (fun h5=>?_)
     ·skip
      exact ok_some trivial
     ·skip
      refine ok_brd (fun h6=>?_) (fun h6=>?_)
      ·skip
       exact ok_some trivial
      ·skip
       refine ok_brd (fun h7=>?_) (fun h7=>?_)
       ·skip
        exact ok_some trivial
       ·skip
        refine ok_brd (fun h8=>?_) (fun h8=>?_)
        ·skip
         exact ok_some trivial
        ·skip
         refine ok_brd (fun h9=>?_) (fun h9=>?_)
         ·skip
          exact ok_some trivial
         ·skip
          refine ok_brd (fun h10=>?_) (fun h10=>?_)
          ·skip
           exact ok_some trivial
          ·skip
           refine ok_brd (fun h11=>?_) (fun h11=>?_)
           ·skip
            exact ok_some trivial
           ·skip
            refine ok_brd (fun h12=>?_) (fun h12=>?_)
            ·skip
             exact ok_some trivial
            ·skip
             refine ok_brd (fun h13=>?_) (fun h13=>?_)
             ·skip
              exact ok_some trivial
             ·skip
              refine ok_brd (fun h14=>?_) (fun h14=>?_)
              ·skip
               exact ok_some trivial
              ·skip
               exact ok_some trivial
theorem tot_r18_hasWho (when:Int)  : Ok (fun r=>True) (r18_hasWho when):=by
 unfold r18_hasWho
 refine ok_brd (fun h1=>?_) (fun h1=>?_)
 ·skip
  exact ok_some trivial
 ·skip
  refine ok_brd (fun h2=>?_) (fun h2=>?_)
  ·skip
   exact ok_some trivial
  ·skip
   refine ok_brd (fun h3=>?_) (fun h3=>?_)
   ·skip
    exact ok_some trivial
   ·skip
    refine ok_brd (fun h4=>?_) (fun h4=>?_)
    ·skip
     exact ok_some trivial
    ·skip
     refine ok_brd (fun h5=>?_) (fun h5=>?_)
     ·skip
      exact ok_some trivial
     ·skip
      exact ok_some trivial
theorem tot_r18_hasFilter (when:Int)  : Ok (fun r=>True) (r18_hasFilter when):=by
 unfold r18_hasFilter
 refine ok_bnd (tot_r18_word _ ) (fun y1 h1=>?_)
 refine ok_br (fun h2=>?_) (fun h2=>?_)
 ·skip
  refine ok_bnd (tot_r18_hasWho _ ) (fun y2 h3=>?_)
  refine ok_br (fun h4=>?_) (fun h4=>?_)
  ·skip
   exact ok_some trivial
  ·skip
   exact ok_some trivial
 ·skip
  exact ok_some trivial
theorem tot_r18_Is (t:GTrigger) (zz_t:szGTrigger t):Ok (fun r=>True) (r18_Is t):=by
 unfold r18_Is
 have z1:=(zz_t)
 have z2:t.filter.sub.size≤1048576:=((zz_t))
 refine ok_jn (fun (s1:Bool)=>s1=false→¬(2<t.who)∧¬(t.who<0)) (fun k2 hk3=>?_) (fun s1 hs4=>?_)
 ·skip
  refine ok_bnd (tot_r18_word _ ) (fun y4 h5=>?_)
  refine ok_br (fun h6=>?_) (fun h6=>?_)
  ·skip
   exact hk3 _ (by intro hh; first | (cases hh; done) | omega | (have hh2:=of_decide_eq_false hh; (try simp only [lenI] at hh2); omega) | (simp at hh; (try simp only [lenI] at hh); omega))
  ·skip
   refine ok_brd (fun h7=>?_) (fun h7=>?_)
   ·skip
    exact hk3 _ (by intro hh; first | (cases hh; done) | omega | (have hh2:=of_decide_eq_false hh; (try simp only [lenI] at hh2); omega) | (simp at hh; (try simp only [lenI] at hh); omega))
   ·skip
    refine ok_brd (fun h8=>?_) (fun h8=>?_)
    ·skip
     exact hk3 _ (by intro hh; first | (cases hh; done) | omega | (have hh2:=of_decide_eq_false hh; (try simp only [lenI] at hh2); omega) | (simp at hh; (try simp only [lenI] at hh); omega))
    ·skip
     refine ok_bnd (tot_r18_hasWho _ ) (fun y5 h9=>?_)
     refine ok_br (fun h10=>?_) (fun h10=>?_)
     ·skip
      exact hk3 _ (by intro hh; first | (cases hh; done) | omega | (have hh2:=of_decide_eq_false hh; (try simp only [lenI] at hh2); omega) | (simp at hh; (try simp only [lenI] at hh); omega))
     ·skip
      exact hk3 _ (by intro hh; first | (cases hh; done) | omega | (have hh2:=of_decide_eq_false hh; (try simp only [lenI] at hh2); omega) | (simp at hh; (try simp only [lenI] at hh); omega))
 ·skip
  refine ok_br (fun h11=>?_) (fun h11=>?_)
  ·skip
   exact ok_some trivial
  ·skip
   have hf12:=hs4 h11
   refine ok_bnd (tot_r18_hasFilter _ ) (fun y6 h13=>?_)
   refine ok_br (fun h14=>?_) (fun h14=>?_)
   ·skip
    refine ok_lte (fun v7 h15=>?_)
    exact ok_some trivial
   ·skip
    refine ok_jn (fun (s8:Int)=>True) (fun k9 hk16=>?_) (fun s8 hs17=>?_)
    ·skip
     refine ok_brd (fun h18=>?_) (fun h18=>?_)
     ·skip
      exact hk16 _ trivial
     ·skip
      exact hk16 _ trivial
    ·skip
     refine ok_bnd (tot_r13_Is _ (by first | assumption | (refine ⟨by omega,?_⟩; first | (intro _ _; trivial) | assumption) | (unfold szGFilter; simp_all [szB,szL]))) (fun y11 h19=>?_)
     refine ok_br (fun h20=>?_) (fun h20=>?_)
     ·skip
      exact ok_some trivial
     ·skip
      exact ok_some trivial
theorem tot_r19_field (f:GFilter) (zz_f:szGFilter f):Ok (fun r=>True) (r19_field f):=by
 unfold r19_field
 have z1:f.sub.size≤1048576:=(zz_f)
 refine ok_bnd (tot_r13_Is _ (by first | assumption | (refine ⟨by omega,?_⟩; first | (intro _ _; trivial) | assumption) | (unfold szGFilter; simp_all [szB,szL]))) (fun y1 h2=>?_)
 refine ok_br (fun h3=>?_) (fun h3=>?_)
 ·skip
  exact ok_some trivial
 ·skip
  exact ok_some trivial
theorem tot_r19_moves (pr:GReplace) (zz_pr:szGReplace pr):Ok (fun r=>True) (r19_moves pr):=by
 unfold r19_moves
 have z1:=(zz_pr)
 have z2:pr.filter.sub.size≤1048576:=((zz_pr))
 refine ok_jn (fun (s1:Bool)=>s1=false→pr.who=0) (fun k2 hk3=>?_) (fun s1 hs4=>?_)
 ·skip
  refine ok_brn (fun h5=>?_) (fun h5=>?_)
  ·skip
   exact hk3 _ (by intro hh; first | (cases hh; done) | omega | (have hh2:=of_decide_eq_false hh; (try simp only [lenI] at hh2); omega) | (simp at hh; (try simp only [lenI] at hh); omega))
  ·skip
   refine ok_bnd (tot_r19_field _ (by first | assumption | (refine ⟨by omega,?_⟩; first | (intro _ _; trivial) | assumption) | (unfold szGFilter; simp_all [szB,szL]))) (fun y4 h6=>?_)
   exact hk3 _ (by intro hh; first | (cases hh; done) | omega | (have hh2:=of_decide_eq_false hh; (try simp only [lenI] at hh2); omega) | (simp at hh; (try simp only [lenI] at hh); omega))
 ·skip
  refine ok_br (fun h7=>?_) (fun h7=>?_)
  ·skip
   exact ok_some trivial
  ·skip
   have hf8:=hs4 h7
   refine ok_brd (fun h9=>?_) (fun h9=>?_)
   ·skip
    refine ok_brd (fun h10=>?_) (fun h10=>?_)
    ·skip
     refine ok_brd (fun h11=>?_) (fun h11=>?_)
     ·skip
      refine ok_brd (fun h12=>?_) (fun h12=>?_)
      ·skip
       exact ok_some trivial
      ·skip
       refine ok_brd (fun h13=>?_) (fun h13=>?_)
       ·skip
        exact ok_some trivial
       ·skip
        exact ok_some trivial
     ·skip
      exact ok_some trivial
    ·skip
     exact ok_some trivial
   ·skip
    refine ok_brd (fun h14=>?_) (fun h14=>?_)
    ·skip
     refine ok_brd (fun h15=>?_) (fun h15=>?_)
     ·skip
      refine ok_brd (fun h16=>?_) (fun h16=>?_)
      ·skip
       exact ok_some trivial
      ·skip
       exact ok_some trivial
     ·skip
      exact ok_some trivial
    ·skip
     refine ok_brd (fun h17=>?_) (fun h17=>?_)
     ·skip
      refine ok_brd (fun h18=>?_) (fun h18=>?_)
      ·skip
       refine ok_brd (fun h19=>?_) (fun h19=>?_)
       ·skip
        refine ok_brd (fun h20=>?_) (fun h20=>?_)
        ·skip
         refine ok_brd (fun h21=>?_) (fun h21=>?_)
         ·skip
          exact ok_some trivial
         ·skip
          exact ok_some trivial
        ·skip
         exact ok_some trivial
       ·skip
        exact ok_some trivial
      ·skip
       exact ok_some trivial
     ·skip
      exact ok_some trivial
theorem tot_r19_plain (pr:GReplace) (zz_pr:szGReplace pr):Ok (fun r=>True) (r19_plain pr):=by
 unfold r19_plain
 have z1:=(zz_pr)
 have z2:pr.filter.sub.size≤1048576:=((zz_pr))
 refine ok_jn (fun (s1:Bool)=>s1=false→pr.counter=0∧pr.zone=0) (fun k2 hk3=>?_) (fun s1 hs4=>?_)
 ·skip
  refine ok_brn (fun h5=>?_) (fun h5=>?_)
  ·skip
   exact hk3 _ (by intro hh; first | (cases hh; done) | omega | (have hh2:=of_decide_eq_false hh; (try simp only [lenI] at hh2); omega) | (simp at hh; (try simp only [lenI] at hh); omega))
  ·skip
   exact hk3 _ (by intro hh; first | (cases hh; done) | omega | (have hh2:=of_decide_eq_false hh; (try simp only [lenI] at hh2); omega) | (simp at hh; (try simp only [lenI] at hh); omega))
 ·skip
  refine ok_br (fun h6=>?_) (fun h6=>?_)
  ·skip
   exact ok_some trivial
  ·skip
   have hf7:=hs4 h6
   refine ok_jn (fun (s4:Bool)=>s4=false→¬(pr.doF=2)∧¬(pr.doF=4)) (fun k5 hk8=>?_) (fun s4 hs9=>?_)
   ·skip
    refine ok_brd (fun h10=>?_) (fun h10=>?_)
    ·skip
     exact hk8 _ (by intro hh; first | (cases hh; done) | omega | (have hh2:=of_decide_eq_false hh; (try simp only [lenI] at hh2); omega) | (simp at hh; (try simp only [lenI] at hh); omega))
    ·skip
     exact hk8 _ (by intro hh; first | (cases hh; done) | omega | (have hh2:=of_decide_eq_false hh; (try simp only [lenI] at hh2); omega) | (simp at hh; (try simp only [lenI] at hh); omega))
   ·skip
    refine ok_br (fun h11=>?_) (fun h11=>?_)
    ·skip
     refine ok_brd (fun h12=>?_) (fun h12=>?_)
     ·skip
      exact ok_some trivial
     ·skip
      exact ok_some trivial
    ·skip
     have hf13:=hs9 h11
     exact ok_some trivial
theorem tot_r19_Is (pr:GReplace) (zz_pr:szGReplace pr):Ok (fun r=>True) (r19_Is pr):=by
 unfold r19_Is
 have z1:=(zz_pr)
 have z2:pr.filter.sub.size≤1048576:=((zz_pr))
 refine ok_brd (fun h3=>?_) (fun h3=>?_)
 ·skip
  refine ok_bnd (tot_r19_moves _ (by first | assumption | (refine ⟨by omega,?_⟩; first | (intro _ _; trivial) | assumption) | (unfold szGReplace; simp_all [szB,szL]))) (fun y1 h4=>?_)
  exact ok_some trivial
 ·skip
  refine ok_bnd (tot_r19_plain _ (by first | assumption | (refine ⟨by omega,?_⟩; first | (intro _ _; trivial) | assumption) | (unfold szGReplace; simp_all [szB,szL]))) (fun y2 h5=>?_)
  refine ok_br (fun h6=>?_) (fun h6=>?_)
  ·skip
   exact ok_some trivial
  ·skip
   refine ok_lte (fun v3 h7=>?_)
   refine ok_jn (fun (s4:Bool × Bool)=>True) (fun k5 hk8=>?_) (fun s4 hs9=>?_)
   ·skip
    refine ok_brd (fun h10=>?_) (fun h10=>?_)
    ·skip
     exact hk8 _ trivial
    ·skip
     refine ok_brd (fun h11=>?_) (fun h11=>?_)
     ·skip
      exact hk8 _ trivial
     ·skip
      exact hk8 _ trivial
   ·skip
    refine ok_brd (fun h12=>?_) (fun h12=>?_)
    ·skip
     refine ok_jn (fun (s7:Bool)=>True) (fun k8 hk13=>?_) (fun s7 hs14=>?_)
     ·skip
      refine ok_brn (fun h15=>?_) (fun h15=>?_)
      ·skip
       refine ok_brn (fun h16=>?_) (fun h16=>?_)
       ·skip
        refine ok_brn (fun h17=>?_) (fun h17=>?_)
        ·skip
         exact hk13 _ trivial
        ·skip
         exact hk13 _ trivial
       ·skip
        exact hk13 _ trivial
      ·skip
       exact hk13 _ trivial
     ·skip
      refine ok_br (fun h18=>?_) (fun h18=>?_)
      ·skip
       exact ok_some trivial
      ·skip
       refine ok_brd (fun h19=>?_) (fun h19=>?_)
       ·skip
        refine ok_bnd (tot_r19_field _ (by first | assumption | (refine ⟨by omega,?_⟩; first | (intro _ _; trivial) | assumption) | (unfold szGFilter; simp_all [szB,szL]))) (fun y10 h20=>?_)
        refine ok_br (fun h21=>?_) (fun h21=>?_)
        ·skip
         exact ok_some trivial
        ·skip
         refine ok_brd (fun h22=>?_) (fun h22=>?_)
         ·skip
          exact ok_some trivial
         ·skip
          refine ok_brd (fun h23=>?_) (fun h23=>?_)
          ·skip
           exact ok_some trivial
          ·skip
           exact ok_some trivial
       ·skip
        refine ok_brd (fun h24=>?_) (fun h24=>?_)
        ·skip
         exact ok_some trivial
        ·skip
         refine ok_brd (fun h25=>?_) (fun h25=>?_)
         ·skip
          exact ok_some trivial
         ·skip
          exact ok_some trivial
    ·skip
     refine ok_brd (fun h26=>?_) (fun h26=>?_)
     ·skip
      refine ok_br (fun h27=>?_) (fun h27=>?_)
      ·skip
       refine ok_brd (fun h28=>?_) (fun h28=>?_)
       ·skip
        refine ok_bnd (tot_r19_field _ (by first | assumption | (refine ⟨by omega,?_⟩; first | (intro _ _; trivial) | assumption) | (unfold szGFilter; simp_all [szB,szL]))) (fun y11 h29=>?_)
        exact ok_some trivial
       ·skip
        exact ok_some trivial
      ·skip
       exact ok_some trivial
     ·skip
      refine ok_brd (fun h30=>?_) (fun h30=>?_)
      ·skip
       refine ok_brd (fun h31=>?_) (fun h31=>?_)
       ·skip
        refine ok_brd (fun h32=>?_) (fun h32=>?_)
        ·skip
         refine ok_brd (fun h33=>?_) (fun h33=>?_)
         ·skip
          exact ok_some trivial
         ·skip
          exact ok_some trivial
        ·skip
         exact ok_some trivial
       ·skip
        refine ok_brd (fun h34=>?_) (fun h34=>?_)
        ·skip
         refine ok_brd (fun h35=>?_) (fun h35=>?_)
         ·skip
          refine ok_brd (fun h36=>?_) (fun h36=>?_)
          ·skip
           exact ok_some trivial
          ·skip
           exact ok_some trivial
         ·skip
          exact ok_some trivial
        ·skip
         exact ok_some trivial
      ·skip
       refine ok_brd (fun h37=>?_) (fun h37=>?_)
       ·skip
        refine ok_br (fun h38=>?_) (fun h38=>?_)
        ·skip
         refine ok_brd (fun h39=>?_) (fun h39=>?_)
         ·skip
          refine ok_brd (fun h40=>?_) (fun h40=>?_)
          ·skip
           exact ok_some trivial
          ·skip
           exact ok_some trivial
         ·skip
          exact ok_some trivial
        ·skip
         exact ok_some trivial
       ·skip
        refine ok_brd (fun h41=>?_) (fun h41=>?_)
        ·skip
         refine ok_br (fun h42=>?_) (fun h42=>?_)
         ·skip
          refine ok_brd (fun h43=>?_) (fun h43=>?_)
          ·skip
           refine ok_brd (fun h44=>?_) (fun h44=>?_)
           ·skip
            exact ok_some trivial
           ·skip
            exact ok_some trivial
          ·skip
           exact ok_some trivial
         ·skip
          exact ok_some trivial
        ·skip
         refine ok_brd (fun h45=>?_) (fun h45=>?_)
         ·skip
          refine ok_br (fun h46=>?_) (fun h46=>?_)
          ·skip
           refine ok_brd (fun h47=>?_) (fun h47=>?_)
           ·skip
            refine ok_brd (fun h48=>?_) (fun h48=>?_)
            ·skip
             exact ok_some trivial
            ·skip
             exact ok_some trivial
           ·skip
            exact ok_some trivial
          ·skip
           exact ok_some trivial
         ·skip
          exact ok_some trivial
theorem tot_r20_spec (s:GSpec) (zz_s:szGSpec s):Ok (fun r=>True) (r20_spec s):=by
 unfold r20_spec
 have z1:=(zz_s)
 have z2:s.filter.sub.size≤1048576:=((zz_s))
 refine ok_br (fun h3=>?_) (fun h3=>?_)
 ·skip
  refine ok_jn (fun (s1:Bool)=>True) (fun k2 hk4=>?_) (fun s1 hs5=>?_)
  ·skip
   refine ok_br (fun h6=>?_) (fun h6=>?_)
   ·skip
    refine ok_lte (fun v4 h7=>?_)
    exact hk4 _ trivial
   ·skip
    exact hk4 _ trivial
  ·skip
   exact ok_some trivial
 ·skip
  refine ok_bnd (tot_r13_Is _ (by first | assumption | (refine ⟨by omega,?_⟩; first | (intro _ _; trivial) | assumption) | (unfold szGFilter; simp_all [szB,szL]))) (fun y5 h8=>?_)
  refine ok_br (fun h9=>?_) (fun h9=>?_)
  ·skip
   refine ok_brd (fun h10=>?_) (fun h10=>?_)
   ·skip
    exact ok_some trivial
   ·skip
    refine ok_brd (fun h11=>?_) (fun h11=>?_)
    ·skip
     exact ok_some trivial
    ·skip
     exact ok_some trivial
  ·skip
   exact ok_some trivial
theorem tot_r20_specs (l:List GSpec) (zz_l:(szL szGSpec) l):Ok (fun r=>True) (r20_specs l):=by
 unfold r20_specs
 have z1:=(zz_l).1
 have z2:=(zz_l).2
 refine ok_loop (fun (s1:Int)=>0≤s1∧s1≤(l.length:Int)) (fun (s1:Int)=>((l.length:Int) - s1).toNat) ⟨(by (try simp only [List.length_append,List.length_cons,List.length_nil,List.length_set,List.length_replicate,bs_size]); omega),(by (try simp only [List.length_append,List.length_cons,List.length_nil,List.length_set,List.length_replicate,bs_size]); omega)⟩ (by show _<18446744073709551616; (try simp only [List.length_append,List.length_cons,List.length_nil]); omega) (fun s1 k2 hI3 hk4=>?_)
 obtain ⟨hI3_0,hI3_1⟩:=hI3
 unfold r20_specs_l1
 refine ok_brd (fun h5=>?_) (fun h5=>?_)
 ·(try simp only [lenI] at h5)
  refine ok_ix (by (try simp only [List.length_append,List.length_cons,List.length_nil,List.length_set,List.length_replicate,bs_size]); omega) (by (try simp only [List.length_append,List.length_cons,List.length_nil,List.length_set,List.length_replicate,bs_size]); omega) (fun x4 h6=>?_)
  have z7:szGSpec x4:=z2 x4 h6
  have z8:=(z7)
  have z9:x4.filter.sub.size≤1048576:=((z7))
  refine ok_bnd (tot_r20_spec _ (by first | assumption | (refine ⟨by omega,?_⟩; first | (intro _ _; trivial) | assumption) | (unfold szGSpec; simp_all [szB,szL]))) (fun y5 h10=>?_)
  refine ok_br (fun h11=>?_) (fun h11=>?_)
  ·skip
   exact ok_some trivial
  ·skip
   have h12:addI s1 1=s1+1:=addI_eq (by omega) (by omega)
   exact hk4 _ ⟨(by (try simp only [List.length_append,List.length_cons,List.length_nil,List.length_set,List.length_replicate,bs_size]); omega),(by (try simp only [List.length_append,List.length_cons,List.length_nil,List.length_set,List.length_replicate,bs_size]); omega)⟩ (by (try simp only [List.length_append,List.length_cons,List.length_nil,List.length_set,List.length_replicate,bs_size]); omega)
 ·(try simp only [lenI] at h5)
  exact ok_some trivial
theorem tot_r17_Word (op:Int)  : Ok (fun r=>True) (r17_Word op):=by
 unfold r17_Word
 refine ok_jn (fun (s1:Bool)=>s1=false→¬(op<1)∧¬(26<op)) (fun k2 hk1=>?_) (fun s1 hs2=>?_)
 ·skip
  refine ok_brd (fun h3=>?_) (fun h3=>?_)
  ·skip
   exact hk1 _ (by intro hh; first | (cases hh; done) | omega | (have hh2:=of_decide_eq_false hh; (try simp only [lenI] at hh2); omega) | (simp at hh; (try simp only [lenI] at hh); omega))
  ·skip
   exact hk1 _ (by intro hh; first | (cases hh; done) | omega | (have hh2:=of_decide_eq_false hh; (try simp only [lenI] at hh2); omega) | (simp at hh; (try simp only [lenI] at hh); omega))
 ·skip
  refine ok_br (fun h4=>?_) (fun h4=>?_)
  ·skip
   exact ok_some trivial
  ·skip
   have hf5:=hs2 h4
   have h6:subI op 1=op - 1:=subI_eq (by (try simp only [lenI]); omega) (by (try simp only [lenI]); omega)
   refine ok_ixj (by (try simp only [List.length_append,List.length_cons,List.length_nil,List.length_set,List.length_replicate,bs_size]); omega) (by (try simp only [List.length_append,List.length_cons,List.length_nil,List.length_set,List.length_replicate,bs_size]); omega) (fun j4 h7 h8=>?_)
   refine ok_getx (by (try simp only [List.length_append,List.length_cons,List.length_nil,List.length_set,List.length_replicate,bs_size]); omega) (fun x5 h9=>?_)
   exact ok_some trivial
theorem tot_r17_Uses (op:Int)  : Ok (fun r=>r.size≤100) (r17_Uses op):=by
 unfold r17_Uses
 refine ok_brd (fun h1=>?_) (fun h1=>?_)
 ·skip
  exact ok_some (by simp [bs_size])
 ·skip
  refine ok_brd (fun h2=>?_) (fun h2=>?_)
  ·skip
   exact ok_some (by simp [bs_size])
  ·skip
   refine ok_brd (fun h3=>?_) (fun h3=>?_)
   ·skip
    exact ok_some (by simp [bs_size])
   ·skip
    refine ok_brd (fun h4=>?_) (fun h4=>?_)
    ·skip
     exact ok_some (by simp [bs_size])
    ·skip
     refine ok_brd (fun h5=>?_) (fun h5=>?_)
     ·skip
      exact ok_some (by simp [bs_size])
     ·skip
      refine ok_brd (fun h6=>?_) (fun h6=>?_)
      ·skip
       exact ok_some (by simp [bs_size])
      ·skip
       refine ok_brd (fun h7=>?_) (fun h7=>?_)
       ·skip
        exact ok_some (by simp [bs_size])
       ·skip
        refine ok_brd (fun h8=>?_) (fun h8=>?_)
        ·skip
         exact ok_some (by simp [bs_size])
        ·skip
         refine ok_brd (fun h9=>?_) (fun h9=>?_)
         ·skip
          exact ok_some (by simp [bs_size])
         ·skip
          refine ok_brd (fun h10=>?_) (fun h10=>?_)
          ·skip
           exact ok_some (by simp [bs_size])
          ·skip
           refine ok_brd (fun h11=>?_) (fun h11=>?_)
           ·skip
            exact ok_some (by simp [bs_size])
           ·skip
            refine ok_brd (fun h12=>?_) (fun h12=>?_)
            ·skip
             exact ok_some (by simp [bs_size])
            ·skip
             refine ok_brd (fun h13=>?_) (fun h13=>?_)
             ·skip
              exact ok_some (by simp [bs_size])
             ·skip
              refine ok_brd (fun h14=>?_) (fun h14=>?_)
              ·skip
               exact ok_some (by simp [bs_size])
              ·skip
               refine ok_brd (fun h15=>?_) (fun h15=>?_)
               ·skip
                exact ok_some (by simp [bs_size])
               ·skip
                refine ok_brd (fun h16=>?_) (fun h16=>?_)
                ·skip
                 exact ok_some (by simp [bs_size])
                ·skip
                 refine ok_brd (fun h17=>?_) (fun h17=>?_)
                 ·skip
                  exact ok_some (by simp [bs_size])
                 ·skip
                  refine ok_brd (fun h18=>?_) (fun h18=>?_)
                  ·skip
                   exact ok_some (by simp [bs_size])
                  ·skip
                   exact ok_some (by simp [bs_size])
theorem tot_r17_uses (op:Int) (field:Int)  : Ok (fun r=>True) (r17_uses op field):=by
 unfold r17_uses
 refine ok_bnd (tot_r17_Uses _ ) (fun y1 h1=>?_)
 refine ok_loop (fun (s2:Int)=>0≤s2∧s2≤(y1.size:Int)) (fun (s2:Int)=>((y1.size:Int) - s2).toNat) ⟨(by (try simp only [List.length_append,List.length_cons,List.length_nil,List.length_set,List.length_replicate,bs_size]); omega),(by (try simp only [List.length_append,List.length_cons,List.length_nil,List.length_set,List.length_replicate,bs_size]); omega)⟩ (by show _<18446744073709551616; (try simp only [List.length_append,List.length_cons,List.length_nil]); omega) (fun s2 k3 hI2 hk3=>?_)
 obtain ⟨hI2_0,hI2_1⟩:=hI2
 unfold r17_uses_l1
 refine ok_brd (fun h4=>?_) (fun h4=>?_)
 ·skip
  refine ok_six (by (try simp only [List.length_append,List.length_cons,List.length_nil,List.length_set,List.length_replicate,bs_size]); omega) (by (try simp only [List.length_append,List.length_cons,List.length_nil,List.length_set,List.length_replicate,bs_size]); omega) (fun x5 h5=>?_)
  refine ok_brd (fun h6=>?_) (fun h6=>?_)
  ·skip
   exact ok_some trivial
  ·skip
   have h7:addI s2 1=s2+1:=addI_eq (by omega) (by omega)
   exact hk3 _ ⟨(by (try simp only [List.length_append,List.length_cons,List.length_nil,List.length_set,List.length_replicate,bs_size]); omega),(by (try simp only [List.length_append,List.length_cons,List.length_nil,List.length_set,List.length_replicate,bs_size]); omega)⟩ (by (try simp only [List.length_append,List.length_cons,List.length_nil,List.length_set,List.length_replicate,bs_size]); omega)
 ·skip
  exact ok_some trivial
theorem tot_r16_numbered (kind:Int)  : Ok (fun r=>True) (r16_numbered kind):=by
 unfold r16_numbered
 refine ok_brd (fun h1=>?_) (fun h1=>?_)
 ·skip
  exact ok_some trivial
 ·skip
  exact ok_some trivial
theorem tot_r16_Is (pr:GRef) (specs:Int) (zz_pr:szGRef pr):Ok (fun r=>True) (r16_Is pr specs):=by
 unfold r16_Is
 have z1:=(zz_pr)
 have z2:pr.filter.sub.size≤1048576:=((zz_pr))
 refine ok_jn (fun (s1:Int)=>True) (fun k2 hk3=>?_) (fun s1 hs4=>?_)
 ·skip
  refine ok_brd (fun h5=>?_) (fun h5=>?_)
  ·skip
   exact hk3 _ trivial
  ·skip
   exact hk3 _ trivial
 ·skip
  refine ok_jn (fun (s4:Bool)=>s4=false→¬(pr.kind<1)∧¬(8<pr.kind)) (fun k5 hk6=>?_) (fun s4 hs7=>?_)
  ·skip
   refine ok_brd (fun h8=>?_) (fun h8=>?_)
   ·skip
    exact hk6 _ (by intro hh; first | (cases hh; done) | omega | (have hh2:=of_decide_eq_false hh; (try simp only [lenI] at hh2); omega) | (simp at hh; (try simp only [lenI] at hh); omega))
   ·skip
    exact hk6 _ (by intro hh; first | (cases hh; done) | omega | (have hh2:=of_decide_eq_false hh; (try simp only [lenI] at hh2); omega) | (simp at hh; (try simp only [lenI] at hh); omega))
  ·skip
   refine ok_br (fun h9=>?_) (fun h9=>?_)
   ·skip
    exact ok_some trivial
   ·skip
    have hf10:=hs7 h9
    refine ok_jn (fun (s7:Unit)=>True) (fun k8 hk11=>?_) (fun s7 hs12=>?_)
    ·skip
     refine ok_bnd (tot_r16_numbered _ ) (fun y10 h13=>?_)
     refine ok_br (fun h14=>?_) (fun h14=>?_)
     ·skip
      refine ok_jn (fun (s11:Bool)=>s11=false→¬(pr.n<1)∧¬(s1<pr.n)) (fun k12 hk15=>?_) (fun s11 hs16=>?_)
      ·skip
       refine ok_brd (fun h17=>?_) (fun h17=>?_)
       ·skip
        exact hk15 _ (by intro hh; first | (cases hh; done) | omega | (have hh2:=of_decide_eq_false hh; (try simp only [lenI] at hh2); omega) | (simp at hh; (try simp only [lenI] at hh); omega))
       ·skip
        exact hk15 _ (by intro hh; first | (cases hh; done) | omega | (have hh2:=of_decide_eq_false hh; (try simp only [lenI] at hh2); omega) | (simp at hh; (try simp only [lenI] at hh); omega))
      ·skip
       refine ok_br (fun h18=>?_) (fun h18=>?_)
       ·skip
        exact ok_some trivial
       ·skip
        have hf19:=hs16 h18
        exact hk11 _ trivial
     ·skip
      refine ok_brn (fun h20=>?_) (fun h20=>?_)
      ·skip
       exact ok_some trivial
      ·skip
       exact hk11 _ trivial
    ·skip
     refine ok_brd (fun h21=>?_) (fun h21=>?_)
     ·skip
      refine ok_bnd (tot_r13_Is _ (by first | assumption | (refine ⟨by omega,?_⟩; first | (intro _ _; trivial) | assumption) | (unfold szGFilter; simp_all [szB,szL]))) (fun y14 h22=>?_)
      exact ok_some trivial
     ·skip
      refine ok_lte (fun v15 h23=>?_)
      exact ok_some trivial
theorem tot_r12_Name (kind:Int)  : Ok (fun r=>True) (r12_Name kind):=by
 unfold r12_Name
 refine ok_brd (fun h1=>?_) (fun h1=>?_)
 ·skip
  exact ok_some trivial
 ·skip
  refine ok_brd (fun h2=>?_) (fun h2=>?_)
  ·skip
   exact ok_some trivial
  ·skip
   refine ok_brd (fun h3=>?_) (fun h3=>?_)
   ·skip
    exact ok_some trivial
   ·skip
    exact ok_some trivial
theorem tot_r14_Is (a:GAmount) (zz_a:szGAmount a):Ok (fun r=>True) (r14_Is a):=by
 unfold r14_Is
 have z1:=(zz_a)
 have z2:a.filter.sub.size≤1048576:=((zz_a))
 refine ok_jn (fun (s1:GAmount)=>True) (fun k2 hk3=>?_) (fun s1 hs4=>?_)
 ·skip
  refine ok_brd (fun h5=>?_) (fun h5=>?_)
  ·skip
   refine ok_jn (fun (s4:Bool)=>s4=false→¬(a.n<0)∧¬(1000000<a.n)) (fun k5 hk6=>?_) (fun s4 hs7=>?_)
   ·skip
    refine ok_brd (fun h8=>?_) (fun h8=>?_)
    ·skip
     exact hk6 _ (by intro hh; first | (cases hh; done) | omega | (have hh2:=of_decide_eq_false hh; (try simp only [lenI] at hh2); omega) | (simp at hh; (try simp only [lenI] at hh); omega))
    ·skip
     exact hk6 _ (by intro hh; first | (cases hh; done) | omega | (have hh2:=of_decide_eq_false hh; (try simp only [lenI] at hh2); omega) | (simp at hh; (try simp only [lenI] at hh); omega))
   ·skip
    refine ok_br (fun h9=>?_) (fun h9=>?_)
    ·skip
     exact ok_some trivial
    ·skip
     have hf10:=hs7 h9
     exact hk3 _ trivial
  ·skip
   refine ok_brd (fun h11=>?_) (fun h11=>?_)
   ·skip
    refine ok_jn (fun (s7:Bool)=>s7=false→¬(99<a.n)∧¬(a.n<1)) (fun k8 hk12=>?_) (fun s7 hs13=>?_)
    ·skip
     refine ok_brd (fun h14=>?_) (fun h14=>?_)
     ·skip
      exact hk12 _ (by intro hh; first | (cases hh; done) | omega | (have hh2:=of_decide_eq_false hh; (try simp only [lenI] at hh2); omega) | (simp at hh; (try simp only [lenI] at hh); omega))
     ·skip
      refine ok_brd (fun h15=>?_) (fun h15=>?_)
      ·skip
       exact hk12 _ (by intro hh; first | (cases hh; done) | omega | (have hh2:=of_decide_eq_false hh; (try simp only [lenI] at hh2); omega) | (simp at hh; (try simp only [lenI] at hh); omega))
      ·skip
       refine ok_bnd (tot_r13_Is _ (by first | assumption | (refine ⟨by omega,?_⟩; first | (intro _ _; trivial) | assumption) | (unfold szGFilter; simp_all [szB,szL]))) (fun y10 h16=>?_)
       exact hk12 _ (by intro hh; first | (cases hh; done) | omega | (have hh2:=of_decide_eq_false hh; (try simp only [lenI] at hh2); omega) | (simp at hh; (try simp only [lenI] at hh); omega))
    ·skip
     refine ok_br (fun h17=>?_) (fun h17=>?_)
     ·skip
      exact ok_some trivial
     ·skip
      have hf18:=hs13 h17
      exact hk3 _ trivial
   ·skip
    refine ok_brd (fun h19=>?_) (fun h19=>?_)
    ·skip
     refine ok_bnd (tot_r12_Name _ ) (fun y11 h20=>?_)
     refine ok_br (fun h21=>?_) (fun h21=>?_)
     ·skip
      exact ok_some trivial
     ·skip
      exact hk3 _ trivial
    ·skip
     exact hk3 _ trivial
 ·skip
  refine ok_brd (fun h22=>?_) (fun h22=>?_)
  ·skip
   refine ok_brd (fun h23=>?_) (fun h23=>?_)
   ·skip
    refine ok_lte (fun v12 h24=>?_)
    exact ok_some trivial
   ·skip
    exact ok_some trivial
  ·skip
   exact ok_some trivial
theorem tot_r17_mods (l:List GMod) (zz_l:(szL szGMod) l):Ok (fun r=>True) (r17_mods l):=by
 unfold r17_mods
 have z1:=(zz_l).1
 have z2:=(zz_l).2
 refine ok_bnd (tot_r15_ListText _ (by first | assumption | (refine ⟨by omega,?_⟩; first | (intro _ _; trivial) | assumption))) (fun y1 h3=>?_)
 exact ok_some trivial
theorem tot_r08_Text (c:GCost):Ok (fun r=>True) (r08_Text c):=by
 unfold r08_Text
 refine ok_bnd (tot_r08_Is c) fun y1 h1=>ok_br (fun _=>ok_some trivial) fun h=>?_
 obtain ⟨⟨_,_,hx0,hx1⟩,hcol⟩:=h1.1 (by simpa using h)
 obtain ⟨X,hX⟩:=Int.eq_ofNat_of_zero_le hx0
 refine ok_forr 0 X (fun n t=>t.size≤n) 0 rfl (Nat.zero_le _) (by omega) (by simp [bs_size]) ?_ ?_
 ·intro i t k hi hI hk
  unfold r08_Text_l3
  exact ok_brd (fun _=>ok_cat (by simp only [bs_size,List.length_cons,List.length_nil]; omega) fun x hx=>hk _ (by simp only [bs_size,List.length_cons,List.length_nil] at hx; omega)) fun h=>absurd (by simp only; omega) h
 ·intro t k hI
  unfold r08_Text_l3
  refine ok_brd (fun h=>absurd h (by simp only; omega)) fun _=>ok_jn (fun s=>s.size≤24) ?_ ?_
  ·intro k7 h7
   exact ok_brn (fun _=>ok_bnd (tot_r01_Text _) fun y hy=>ok_cat (by simp only; omega) fun x hx=>h7 _ (by simp only at hx; omega)) fun _=>h7 _ (by simp only; omega)
  ·intro s hs
   refine ok_forr 0 5 (fun n t=>t.size≤24+9 * n) 0 rfl (by omega) (by omega) (by omega) ?_ ?_
   ·intro i t k hi hI hk
    unfold r08_Text_l2
    refine ok_brd (fun _=>?_) fun h=>absurd (show (i:Int)<5 by omega) h
    have hc:=hcol i hi
    refine ok_loop (fun s=>∃ n:Nat,s.2=(n:Int)∧n≤9∧s.1.size≤24+9 * i+n) (fun s=>10 - s.2.toNat) ⟨0,rfl,by omega,by simp only; omega⟩ (by show 10 - _<18446744073709551616; omega) ?_
    rintro ⟨u,n'⟩ k15 ⟨n,e,hn,hu⟩ hk15
    simp only at e hu; subst e
    unfold r08_Text_l1
    refine ok_jn (fun s=>s=decide ((n:Int)<colN c.color i)) ?_ ?_
    ·intro k18 h18
     rcases five hi with rfl | rfl | rfl | rfl | rfl <;> exact ok_seln (by omega) (h18 _ rfl)
    ·rintro s rfl
     simp only
     refine ok_brd (fun h=>?_) fun h=>hk _ (by omega)
     have e1:=addI_nat (n:=i) (by omega)
     have e2:=addI_nat (n:=n) (by omega)
     rw [e1,e2]
     exact ok_ssl (by omega) (by omega) (by simp only [bs_size,List.length_cons,List.length_nil]; omega) fun x hx=>ok_cat (by omega) fun y hy=>hk15 _ ⟨n+1,rfl,by omega,by simp only; omega⟩ (by simp only [Int.toNat_natCast]; omega)
   ·intro t k hI
    unfold r08_Text_l2
    exact ok_brd (fun h=>absurd h (by simp only; omega)) fun _=>ok_br (fun _=>ok_some trivial) fun _=>ok_some trivial
theorem tot_r08_cost (p:Arr6 Int)  : Ok (fun r=>True) (r08_cost p):=by
 unfold r08_cost
 exact ok_some trivial
theorem tot_r08_PoolText (p:Arr6 Int)  : Ok (fun r=>True) (r08_PoolText p):=by
 unfold r08_PoolText
 refine ok_bnd (tot_r08_cost _ ) (fun y1 h1=>?_)
 refine ok_bnd (tot_r08_Text _ ) (fun y2 h2=>?_)
 exact ok_some trivial
theorem tot_r17_filter (op:Int) (f:GFilter) (zz_f:szGFilter f):Ok (fun r=>True) (r17_filter op f):=by
 unfold r17_filter
 have z1:f.sub.size≤1048576:=(zz_f)
 refine ok_jn (fun (s1:Int)=>True) (fun k2 hk2=>?_) (fun s1 hs3=>?_)
 ·skip
  refine ok_brd (fun h4=>?_) (fun h4=>?_)
  ·skip
   exact hk2 _ trivial
  ·skip
   exact hk2 _ trivial
 ·skip
  refine ok_bnd (tot_r13_Is _ (by first | assumption | (refine ⟨by omega,?_⟩; first | (intro _ _; trivial) | assumption) | (unfold szGFilter; simp_all [szB,szL]))) (fun y4 h5=>?_)
  refine ok_br (fun h6=>?_) (fun h6=>?_)
  ·skip
   exact ok_some trivial
  ·skip
   exact ok_some trivial
theorem tot_r17_Is (pe:GEffect) (specs:Int) (zz_pe:szGEffect pe):Ok (fun r=>True) (r17_Is pe specs):=by
 unfold r17_Is
 have z1:=(zz_pe).1
 have z2:=((zz_pe).1)
 have z3:pe.ref.filter.sub.size≤1048576:=(((zz_pe).1))
 have z4:=(zz_pe).2.1
 have z5:=((zz_pe).2.1)
 have z6:pe.amount.filter.sub.size≤1048576:=(((zz_pe).2.1))
 have z7:pe.card.size≤1048576:=(zz_pe).2.2.1
 have z8:=(zz_pe).2.2.2.1
 have z9:pe.filter.sub.size≤1048576:=((zz_pe).2.2.2.1)
 have z10:=((zz_pe).2.2.2.2).1
 have z11:=((zz_pe).2.2.2.2).2
 refine ok_bnd (tot_r17_Word _ ) (fun y1 h12=>?_)
 refine ok_br (fun h13=>?_) (fun h13=>?_)
 ·skip
  exact ok_some trivial
 ·skip
  refine ok_lte (fun v2 h14=>?_)
  refine ok_jn (fun (s3:Bool)=>True) (fun k4 hk15=>?_) (fun s3 hs16=>?_)
  ·skip
   refine ok_bnd (tot_r17_uses _ _ ) (fun y6 h17=>?_)
   refine ok_br (fun h18=>?_) (fun h18=>?_)
   ·skip
    refine ok_bnd (tot_r16_Is _ _ (by first | assumption | (refine ⟨by omega,?_⟩; first | (intro _ _; trivial) | assumption) | (unfold szGRef; simp_all [szB,szL]))) (fun y7 h19=>?_)
    exact hk15 _ trivial
   ·skip
    exact hk15 _ trivial
  ·skip
   refine ok_jn (fun (s8:Bool)=>s8=false→¬(pe.zone=0)) (fun k9 hk20=>?_) (fun s8 hs21=>?_)
   ·skip
    refine ok_brd (fun h22=>?_) (fun h22=>?_)
    ·skip
     exact hk20 _ (by intro hh; first | (cases hh; done) | omega | (have hh2:=of_decide_eq_false hh; (try simp only [lenI] at hh2); omega) | (simp at hh; (try simp only [lenI] at hh); omega))
    ·skip
     refine ok_bnd (tot_r17_uses _ _ ) (fun y11 h23=>?_)
     refine ok_br (fun h24=>?_) (fun h24=>?_)
     ·skip
      refine ok_brd (fun h25=>?_) (fun h25=>?_)
      ·skip
       exact hk20 _ (by intro hh; first | (cases hh; done) | omega | (have hh2:=of_decide_eq_false hh; (try simp only [lenI] at hh2); omega) | (simp at hh; (try simp only [lenI] at hh); omega))
      ·skip
       exact hk20 _ (by intro hh; first | (cases hh; done) | omega | (have hh2:=of_decide_eq_false hh; (try simp only [lenI] at hh2); omega) | (simp at hh; (try simp only [lenI] at hh); omega))
     ·skip
      exact hk20 _ (by intro hh; first | (cases hh; done) | omega | (have hh2:=of_decide_eq_false hh; (try simp only [lenI] at hh2); omega) | (simp at hh; (try simp only [lenI] at hh); omega))
   ·skip
    refine ok_jn (fun (s12:Bool)=>s12=false→¬(pe.counter=0)) (fun k13 hk26=>?_) (fun s12 hs27=>?_)
    ·skip
     refine ok_brd (fun h28=>?_) (fun h28=>?_)
     ·skip
      exact hk26 _ (by intro hh; first | (cases hh; done) | omega | (have hh2:=of_decide_eq_false hh; (try simp only [lenI] at hh2); omega) | (simp at hh; (try simp only [lenI] at hh); omega))
     ·skip
      refine ok_bnd (tot_r17_uses _ _ ) (fun y15 h29=>?_)
      refine ok_br (fun h30=>?_) (fun h30=>?_)
      ·skip
       refine ok_bnd (tot_r12_Name _ ) (fun y16 h31=>?_)
       exact hk26 _ (by intro hh; first | (cases hh; done) | omega | (have hh2:=of_decide_eq_false hh; (try simp only [lenI] at hh2); omega) | (simp at hh; (try simp only [lenI] at hh); omega))
      ·skip
       exact hk26 _ (by intro hh; first | (cases hh; done) | omega | (have hh2:=of_decide_eq_false hh; (try simp only [lenI] at hh2); omega) | (simp at hh; (try simp only [lenI] at hh); omega))
    ·skip
     refine ok_jn (fun (s17:Bool)=>True) (fun k18 hk32=>?_) (fun s17 hs33=>?_)
     ·skip
      refine ok_bnd (tot_r17_uses _ _ ) (fun y20 h34=>?_)
      refine ok_br (fun h35=>?_) (fun h35=>?_)
      ·skip
       refine ok_bnd (tot_r02_Is _ (by first | assumption | (show _≤1048576; (try simp only [bs_size,List.length_cons,List.length_nil]); omega))) (fun y21 h36=>?_)
       exact hk32 _ trivial
      ·skip
       exact hk32 _ trivial
     ·skip
      refine ok_lte (fun v22 h37=>?_)
      refine ok_jn (fun (s23:Bool)=>True) (fun k24 hk38=>?_) (fun s23 hs39=>?_)
      ·skip
       refine ok_bnd (tot_r17_uses _ _ ) (fun y26 h40=>?_)
       refine ok_br (fun h41=>?_) (fun h41=>?_)
       ·skip
        refine ok_bnd (tot_r14_Is _ (by first | assumption | (refine ⟨by omega,?_⟩; first | (intro _ _; trivial) | assumption) | (unfold szGAmount; simp_all [szB,szL]))) (fun y27 h42=>?_)
        exact hk38 _ trivial
       ·skip
        exact hk38 _ trivial
      ·skip
       refine ok_jn (fun (s28:Bool)=>True) (fun k29 hk43=>?_) (fun s28 hs44=>?_)
       ·skip
        refine ok_bnd (tot_r17_uses _ _ ) (fun y31 h45=>?_)
        refine ok_br (fun h46=>?_) (fun h46=>?_)
        ·skip
         refine ok_bnd (tot_r17_mods _ (by first | assumption | (refine ⟨by omega,?_⟩; first | (intro _ _; trivial) | assumption))) (fun y32 h47=>?_)
         exact hk43 _ trivial
        ·skip
         exact hk43 _ trivial
       ·skip
        refine ok_lte (fun v33 h48=>?_)
        refine ok_jn (fun (s34:Bool)=>True) (fun k35 hk49=>?_) (fun s34 hs50=>?_)
        ·skip
         refine ok_bnd (tot_r17_uses _ _ ) (fun y37 h51=>?_)
         refine ok_br (fun h52=>?_) (fun h52=>?_)
         ·skip
          refine ok_br (fun h53=>?_) (fun h53=>?_)
          ·skip
           refine ok_bnd (tot_r08_PoolText _ ) (fun y38 h54=>?_)
           exact hk49 _ trivial
          ·skip
           exact hk49 _ trivial
         ·skip
          exact hk49 _ trivial
        ·skip
         refine ok_lte (fun v39 h55=>?_)
         refine ok_jn (fun (s40:Bool)=>True) (fun k41 hk56=>?_) (fun s40 hs57=>?_)
         ·skip
          refine ok_bnd (tot_r17_uses _ _ ) (fun y43 h58=>?_)
          refine ok_br (fun h59=>?_) (fun h59=>?_)
          ·skip
           refine ok_bnd (tot_r17_filter _ _ (by first | assumption | (refine ⟨by omega,?_⟩; first | (intro _ _; trivial) | assumption) | (unfold szGFilter; simp_all [szB,szL]))) (fun y44 h60=>?_)
           exact hk56 _ trivial
          ·skip
           exact hk56 _ trivial
         ·skip
          refine ok_br (fun h61=>?_) (fun h61=>?_)
          ·skip
           refine ok_br (fun h62=>?_) (fun h62=>?_)
           ·skip
            refine ok_br (fun h63=>?_) (fun h63=>?_)
            ·skip
             refine ok_br (fun h64=>?_) (fun h64=>?_)
             ·skip
              refine ok_br (fun h65=>?_) (fun h65=>?_)
              ·skip
               refine ok_br (fun h66=>?_) (fun h66=>?_)
               ·skip
                refine ok_br (fun h67=>?_) (fun h67=>?_)
                ·skip
                 exact ok_some trivial
                ·skip
                 exact ok_some trivial
               ·skip
                exact ok_some trivial
              ·skip
               exact ok_some trivial
             ·skip
              exact ok_some trivial
            ·skip
             have hf68:=hs27 h63
             exact ok_some trivial
           ·skip
            have hf69:=hs21 h62
            exact ok_some trivial
          ·skip
           exact ok_some trivial
theorem tot_r20_effects (l:List GEffect) (n:Int) (zz_l:(szL szGEffect) l):Ok (fun r=>True) (r20_effects l n):=by
 unfold r20_effects
 have z1:=(zz_l).1
 have z2:=(zz_l).2
 refine ok_loop (fun (s1:Int)=>0≤s1∧s1≤(l.length:Int)) (fun (s1:Int)=>((l.length:Int) - s1).toNat) ⟨(by (try simp only [List.length_append,List.length_cons,List.length_nil,List.length_set,List.length_replicate,bs_size]); omega),(by (try simp only [List.length_append,List.length_cons,List.length_nil,List.length_set,List.length_replicate,bs_size]); omega)⟩ (by show _<18446744073709551616; (try simp only [List.length_append,List.length_cons,List.length_nil]); omega) (fun s1 k2 hI3 hk4=>?_)
 obtain ⟨hI3_0,hI3_1⟩:=hI3
 unfold r20_effects_l1
 refine ok_brd (fun h5=>?_) (fun h5=>?_)
 ·(try simp only [lenI] at h5)
  refine ok_ix (by (try simp only [List.length_append,List.length_cons,List.length_nil,List.length_set,List.length_replicate,bs_size]); omega) (by (try simp only [List.length_append,List.length_cons,List.length_nil,List.length_set,List.length_replicate,bs_size]); omega) (fun x4 h6=>?_)
  have z7:szGEffect x4:=z2 x4 h6
  have z8:=(z7).1
  have z9:=((z7).1)
  have z10:x4.ref.filter.sub.size≤1048576:=(((z7).1))
  have z11:=(z7).2.1
  have z12:=((z7).2.1)
  have z13:x4.amount.filter.sub.size≤1048576:=(((z7).2.1))
  have z14:x4.card.size≤1048576:=(z7).2.2.1
  have z15:=(z7).2.2.2.1
  have z16:x4.filter.sub.size≤1048576:=((z7).2.2.2.1)
  have z17:=((z7).2.2.2.2).1
  have z18:=((z7).2.2.2.2).2
  refine ok_bnd (tot_r17_Is _ _ (by first | assumption | (refine ⟨by omega,?_⟩; first | (intro _ _; trivial) | assumption) | (unfold szGEffect; simp_all [szB,szL]))) (fun y5 h19=>?_)
  refine ok_br (fun h20=>?_) (fun h20=>?_)
  ·skip
   exact ok_some trivial
  ·skip
   have h21:addI s1 1=s1+1:=addI_eq (by omega) (by omega)
   exact hk4 _ ⟨(by (try simp only [List.length_append,List.length_cons,List.length_nil,List.length_set,List.length_replicate,bs_size]); omega),(by (try simp only [List.length_append,List.length_cons,List.length_nil,List.length_set,List.length_replicate,bs_size]); omega)⟩ (by (try simp only [List.length_append,List.length_cons,List.length_nil,List.length_set,List.length_replicate,bs_size]); omega)
 ·(try simp only [lenI] at h5)
  refine ok_brd (fun h22=>?_) (fun h22=>?_)
  ·(try simp only [lenI] at h22)
   exact ok_some trivial
  ·(try simp only [lenI] at h22)
   exact ok_some trivial
theorem tot_r20_Is (a:GAbility) (zz_a:szGAbility a):Ok (fun r=>True) (r20_Is a):=by
 unfold r20_Is
 have z1:=(zz_a).1
 have z2:a.filter.sub.size≤1048576:=((zz_a).1)
 have z3:=((zz_a).2.1).1
 have z4:=((zz_a).2.1).2
 have z5:=(zz_a).2.2.1
 have z6:=((zz_a).2.2.1)
 have z7:a.trigger.filter.sub.size≤1048576:=(((zz_a).2.2.1))
 have z8:=((zz_a).2.2.2.1).1
 have z9:=((zz_a).2.2.2.1).2
 have z10:=((zz_a).2.2.2.2.1).1
 have z11:=((zz_a).2.2.2.2.1).2
 have z12:=(zz_a).2.2.2.2.2
 have z13:=((zz_a).2.2.2.2.2)
 have z14:a.replace.filter.sub.size≤1048576:=(((zz_a).2.2.2.2.2))
 refine ok_jn (fun (s1:Bool)=>s1=false→¬(a.kind<1)∧¬(5<a.kind)) (fun k2 hk15=>?_) (fun s1 hs16=>?_)
 ·skip
  refine ok_brd (fun h17=>?_) (fun h17=>?_)
  ·skip
   exact hk15 _ (by intro hh; first | (cases hh; done) | omega | (have hh2:=of_decide_eq_false hh; (try simp only [lenI] at hh2); omega) | (simp at hh; (try simp only [lenI] at hh); omega))
  ·skip
   exact hk15 _ (by intro hh; first | (cases hh; done) | omega | (have hh2:=of_decide_eq_false hh; (try simp only [lenI] at hh2); omega) | (simp at hh; (try simp only [lenI] at hh); omega))
 ·skip
  refine ok_br (fun h18=>?_) (fun h18=>?_)
  ·skip
   exact ok_some trivial
  ·skip
   have hf19:=hs16 h18
   refine ok_jn (fun (s4:Bool)=>s4=false→¬(a.kind=2)∧¬(a.kind=3)∧¬(a.kind=4)) (fun k5 hk20=>?_) (fun s4 hs21=>?_)
   ·skip
    refine ok_brd (fun h22=>?_) (fun h22=>?_)
    ·skip
     exact hk20 _ (by intro hh; first | (cases hh; done) | omega | (have hh2:=of_decide_eq_false hh; (try simp only [lenI] at hh2); omega) | (simp at hh; (try simp only [lenI] at hh); omega))
    ·skip
     refine ok_brd (fun h23=>?_) (fun h23=>?_)
     ·skip
      exact hk20 _ (by intro hh; first | (cases hh; done) | omega | (have hh2:=of_decide_eq_false hh; (try simp only [lenI] at hh2); omega) | (simp at hh; (try simp only [lenI] at hh); omega))
     ·skip
      exact hk20 _ (by intro hh; first | (cases hh; done) | omega | (have hh2:=of_decide_eq_false hh; (try simp only [lenI] at hh2); omega) | (simp at hh; (try simp only [lenI] at hh); omega))
   ·skip
    refine ok_jn (fun (s7:Unit)=>True) (fun k8 hk24=>?_) (fun s7 hs25=>?_)
    ·skip
     refine ok_brd (fun h26=>?_) (fun h26=>?_)
     ·skip
      refine ok_jn (fun (s10:Bool)=>s10=false→a.filter.zone=0) (fun k11 hk27=>?_) (fun s10 hs28=>?_)
      ·skip
       refine ok_bnd (tot_r13_Is _ (by first | assumption | (refine ⟨by omega,?_⟩; first | (intro _ _; trivial) | assumption) | (unfold szGFilter; simp_all [szB,szL]))) (fun y13 h29=>?_)
       refine ok_br (fun h30=>?_) (fun h30=>?_)
       ·skip
        exact hk27 _ (by intro hh; first | (cases hh; done) | omega | (have hh2:=of_decide_eq_false hh; (try simp only [lenI] at hh2); omega) | (simp at hh; (try simp only [lenI] at hh); omega))
       ·skip
        refine ok_brn (fun h31=>?_) (fun h31=>?_)
        ·skip
         exact hk27 _ (by intro hh; first | (cases hh; done) | omega | (have hh2:=of_decide_eq_false hh; (try simp only [lenI] at hh2); omega) | (simp at hh; (try simp only [lenI] at hh); omega))
        ·skip
         refine ok_bnd (tot_r15_ListText _ (by first | assumption | (refine ⟨by omega,?_⟩; first | (intro _ _; trivial) | assumption))) (fun y14 h32=>?_)
         exact hk27 _ (by intro hh; first | (cases hh; done) | omega | (have hh2:=of_decide_eq_false hh; (try simp only [lenI] at hh2); omega) | (simp at hh; (try simp only [lenI] at hh); omega))
      ·skip
       refine ok_br (fun h33=>?_) (fun h33=>?_)
       ·skip
        exact ok_some trivial
       ·skip
        have hf34:=hs28 h33
        exact hk24 _ trivial
     ·skip
      refine ok_jn (fun (s15:Bool)=>s15=false→¬(0<(a.mods.length:Int))) (fun k16 hk35=>?_) (fun s15 hs36=>?_)
      ·skip
       refine ok_lte (fun v18 h37=>?_)
       refine ok_br (fun h38=>?_) (fun h38=>?_)
       ·skip
        exact hk35 _ (by intro hh; first | (cases hh; done) | omega | (have hh2:=of_decide_eq_false hh; (try simp only [lenI] at hh2); omega) | (simp at hh; (try simp only [lenI] at hh); omega))
       ·skip
        exact hk35 _ (by intro hh; first | (cases hh; done) | omega | (have hh2:=of_decide_eq_false hh; (try simp only [lenI] at hh2); omega) | (simp at hh; (try simp only [lenI] at hh); omega))
      ·skip
       refine ok_br (fun h39=>?_) (fun h39=>?_)
       ·skip
        exact ok_some trivial
       ·skip
        have hf40:=hs36 h39
        exact hk24 _ trivial
    ·skip
     refine ok_jn (fun (s19:Unit)=>True) (fun k20 hk41=>?_) (fun s19 hs42=>?_)
     ·skip
      refine ok_brd (fun h43=>?_) (fun h43=>?_)
      ·skip
       refine ok_bnd (tot_r20_price _ ) (fun y22 h44=>?_)
       refine ok_br (fun h45=>?_) (fun h45=>?_)
       ·skip
        exact ok_some trivial
       ·skip
        exact hk41 _ trivial
      ·skip
       refine ok_jn (fun (s23:Bool)=>True) (fun k24 hk46=>?_) (fun s23 hs47=>?_)
       ·skip
        refine ok_lte (fun v26 h48=>?_)
        refine ok_br (fun h49=>?_) (fun h49=>?_)
        ·skip
         exact hk46 _ trivial
        ·skip
         exact hk46 _ trivial
       ·skip
        refine ok_br (fun h50=>?_) (fun h50=>?_)
        ·skip
         exact ok_some trivial
        ·skip
         exact hk41 _ trivial
     ·skip
      refine ok_jn (fun (s27:Unit)=>True) (fun k28 hk51=>?_) (fun s27 hs52=>?_)
      ·skip
       refine ok_brd (fun h53=>?_) (fun h53=>?_)
       ·skip
        refine ok_bnd (tot_r18_Is _ (by first | assumption | (refine ⟨by omega,?_⟩; first | (intro _ _; trivial) | assumption) | (unfold szGTrigger; simp_all [szB,szL]))) (fun y30 h54=>?_)
        refine ok_br (fun h55=>?_) (fun h55=>?_)
        ·skip
         exact ok_some trivial
        ·skip
         exact hk51 _ trivial
       ·skip
        refine ok_jn (fun (s31:Bool)=>True) (fun k32 hk56=>?_) (fun s31 hs57=>?_)
        ·skip
         refine ok_lte (fun v34 h58=>?_)
         refine ok_br (fun h59=>?_) (fun h59=>?_)
         ·skip
          exact hk56 _ trivial
         ·skip
          exact hk56 _ trivial
        ·skip
         refine ok_br (fun h60=>?_) (fun h60=>?_)
         ·skip
          exact ok_some trivial
         ·skip
          exact hk51 _ trivial
      ·skip
       refine ok_jn (fun (s35:Unit)=>True) (fun k36 hk61=>?_) (fun s35 hs62=>?_)
       ·skip
        refine ok_brd (fun h63=>?_) (fun h63=>?_)
        ·skip
         refine ok_bnd (tot_r19_Is _ (by first | assumption | (refine ⟨by omega,?_⟩; first | (intro _ _; trivial) | assumption) | (unfold szGReplace; simp_all [szB,szL]))) (fun y38 h64=>?_)
         refine ok_br (fun h65=>?_) (fun h65=>?_)
         ·skip
          exact ok_some trivial
         ·skip
          exact hk61 _ trivial
        ·skip
         refine ok_lte (fun v39 h66=>?_)
         refine ok_br (fun h67=>?_) (fun h67=>?_)
         ·skip
          exact ok_some trivial
         ·skip
          exact hk61 _ trivial
       ·skip
        refine ok_br (fun h68=>?_) (fun h68=>?_)
        ·skip
         refine ok_jn (fun (s40:Bool)=>True) (fun k41 hk69=>?_) (fun s40 hs70=>?_)
         ·skip
          refine ok_bnd (tot_r20_specs _ (by first | assumption | (refine ⟨by omega,?_⟩; first | (intro _ _; trivial) | assumption))) (fun y43 h71=>?_)
          refine ok_br (fun h72=>?_) (fun h72=>?_)
          ·skip
           refine ok_bnd (tot_r20_effects _ _ (by first | assumption | (refine ⟨by omega,?_⟩; first | (intro _ _; trivial) | assumption))) (fun y44 h73=>?_)
           exact hk69 _ trivial
          ·skip
           exact hk69 _ trivial
         ·skip
          exact ok_some trivial
        ·skip
         have hf74:=hs21 h68
         refine ok_brd (fun h75=>?_) (fun h75=>?_)
         ·(try simp only [lenI] at h75)
          exact ok_some trivial
         ·(try simp only [lenI] at h75)
          exact ok_some trivial
theorem tot_r21_fast (c:GCard) (zz_c:szGCard c):Ok (fun r=>True) (r21_fast c):=by
 unfold r21_fast
 have z1:c.name.size≤1048576:=(zz_c).1
 have z2:=(zz_c).2.1
 have z3:=(((zz_c).2.1)).1
 have z4:=(((zz_c).2.1)).2
 have z5:=((zz_c).2.2).1
 have z6:=((zz_c).2.2).2
 refine ok_brd (fun h7=>?_) (fun h7=>?_)
 ·skip
  exact ok_some trivial
 ·skip
  exact ok_some trivial
end Go.Proofs.YthfepelpmalckaaGreatDoor
