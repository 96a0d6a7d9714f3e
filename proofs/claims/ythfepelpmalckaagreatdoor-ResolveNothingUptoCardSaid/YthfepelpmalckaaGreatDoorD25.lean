import Derived.Test.YthfepelpmalckaaGreatDoorD24
set_option linter.all false
namespace Go.Proofs.YthfepelpmalckaaGreatDoor
open Go Go.Pv
set_option maxRecDepth 100000
theorem tot_r21_Is (c:GCard) (zz_c:szGCard c):Ok (fun r=>True) (r21_Is c):=by
 unfold r21_Is
 have z1:c.name.size≤1048576:=(zz_c).1
 have z2:=(zz_c).2.1
 have z3:=(((zz_c).2.1)).1
 have z4:=(((zz_c).2.1)).2
 have z5:=((zz_c).2.2).1
 have z6:=((zz_c).2.2).2
 refine ok_jn (fun (s1:Bool)=>s1=false→¬(c.color<0)∧¬(31<c.color)) (fun k2 hk7=>?_) (fun s1 hs8=>?_)
 ·skip
  refine ok_bnd (tot_r02_Is _ (by first | assumption | (show _≤1048576; (try simp only [bs_size,List.length_cons,List.length_nil]); omega))) (fun y4 h9=>?_)
  refine ok_br (fun h10=>?_) (fun h10=>?_)
  ·skip
   exact hk7 _ (by intro hh; first | (cases hh; done) | omega | (have hh2:=of_decide_eq_false hh; (try simp only [lenI] at hh2); omega) | (simp at hh; (try simp only [lenI] at hh); omega))
  ·skip
   refine ok_bnd (tot_r08_Is _ ) (fun y5 h11=>?_)
   refine ok_br (fun h12=>?_) (fun h12=>?_)
   ·skip
    exact hk7 _ (by intro hh; first | (cases hh; done) | omega | (have hh2:=of_decide_eq_false hh; (try simp only [lenI] at hh2); omega) | (simp at hh; (try simp only [lenI] at hh); omega))
   ·skip
    refine ok_bnd (tot_r10_Is _ (by first | assumption | (refine ⟨by omega,?_⟩; first | (intro _ _; trivial) | assumption) | (unfold szGLine; simp_all [szB,szL]))) (fun y6 h13=>?_)
    refine ok_br (fun h14=>?_) (fun h14=>?_)
    ·skip
     exact hk7 _ (by intro hh; first | (cases hh; done) | omega | (have hh2:=of_decide_eq_false hh; (try simp only [lenI] at hh2); omega) | (simp at hh; (try simp only [lenI] at hh); omega))
    ·skip
     refine ok_bnd (tot_r11_Is _ ) (fun y7 h15=>?_)
     refine ok_br (fun h16=>?_) (fun h16=>?_)
     ·skip
      exact hk7 _ (by intro hh; first | (cases hh; done) | omega | (have hh2:=of_decide_eq_false hh; (try simp only [lenI] at hh2); omega) | (simp at hh; (try simp only [lenI] at hh); omega))
     ·skip
      refine ok_brd (fun h17=>?_) (fun h17=>?_)
      ·skip
       exact hk7 _ (by intro hh; first | (cases hh; done) | omega | (have hh2:=of_decide_eq_false hh; (try simp only [lenI] at hh2); omega) | (simp at hh; (try simp only [lenI] at hh); omega))
      ·skip
       exact hk7 _ (by intro hh; first | (cases hh; done) | omega | (have hh2:=of_decide_eq_false hh; (try simp only [lenI] at hh2); omega) | (simp at hh; (try simp only [lenI] at hh); omega))
 ·skip
  refine ok_br (fun h18=>?_) (fun h18=>?_)
  ·skip
   exact ok_some trivial
  ·skip
   have hf19:=hs8 h18
   refine ok_jn (fun (s8:Bool)=>s8=false→¬(99<c.power)∧¬(99<c.tough)∧¬(c.power<0)∧¬(c.tough<0)∧¬(8<(c.abilities.length:Int))) (fun k9 hk20=>?_) (fun s8 hs21=>?_)
   ·skip
    refine ok_brd (fun h22=>?_) (fun h22=>?_)
    ·skip
     exact hk20 _ (by intro hh; first | (cases hh; done) | omega | (have hh2:=of_decide_eq_false hh; (try simp only [lenI] at hh2); omega) | (simp at hh; (try simp only [lenI] at hh); omega))
    ·skip
     refine ok_brd (fun h23=>?_) (fun h23=>?_)
     ·skip
      exact hk20 _ (by intro hh; first | (cases hh; done) | omega | (have hh2:=of_decide_eq_false hh; (try simp only [lenI] at hh2); omega) | (simp at hh; (try simp only [lenI] at hh); omega))
     ·skip
      refine ok_brd (fun h24=>?_) (fun h24=>?_)
      ·skip
       exact hk20 _ (by intro hh; first | (cases hh; done) | omega | (have hh2:=of_decide_eq_false hh; (try simp only [lenI] at hh2); omega) | (simp at hh; (try simp only [lenI] at hh); omega))
      ·skip
       refine ok_brd (fun h25=>?_) (fun h25=>?_)
       ·skip
        exact hk20 _ (by intro hh; first | (cases hh; done) | omega | (have hh2:=of_decide_eq_false hh; (try simp only [lenI] at hh2); omega) | (simp at hh; (try simp only [lenI] at hh); omega))
       ·skip
        refine ok_bnd (tot_r21_creature _ (by first | assumption | (refine ⟨by omega,?_⟩; first | (intro _ _; trivial) | assumption) | (unfold szGCard; simp_all [szB,szL]))) (fun y11 h26=>?_)
        refine ok_br (fun h27=>?_) (fun h27=>?_)
        ·skip
         refine ok_brn (fun h28=>?_) (fun h28=>?_)
         ·skip
          exact hk20 _ (by intro hh; first | (cases hh; done) | omega | (have hh2:=of_decide_eq_false hh; (try simp only [lenI] at hh2); omega) | (simp at hh; (try simp only [lenI] at hh); omega))
         ·skip
          refine ok_brn (fun h29=>?_) (fun h29=>?_)
          ·skip
           exact hk20 _ (by intro hh; first | (cases hh; done) | omega | (have hh2:=of_decide_eq_false hh; (try simp only [lenI] at hh2); omega) | (simp at hh; (try simp only [lenI] at hh); omega))
          ·skip
           exact hk20 _ (by intro hh; first | (cases hh; done) | omega | (have hh2:=of_decide_eq_false hh; (try simp only [lenI] at hh2); omega) | (simp at hh; (try simp only [lenI] at hh); omega))
        ·skip
         exact hk20 _ (by intro hh; first | (cases hh; done) | omega | (have hh2:=of_decide_eq_false hh; (try simp only [lenI] at hh2); omega) | (simp at hh; (try simp only [lenI] at hh); omega))
   ·skip
    refine ok_br (fun h30=>?_) (fun h30=>?_)
    ·skip
     exact ok_some trivial
    ·skip
     have hf31:=hs21 h30
     refine ok_loop (fun (s12:Int × Int)=>0≤s12.2∧s12.2≤(c.abilities.length:Int)) (fun (s12:Int × Int)=>((c.abilities.length:Int) - s12.2).toNat) ⟨(by (try simp only [List.length_append,List.length_cons,List.length_nil,List.length_set,List.length_replicate,bs_size]); omega),(by (try simp only [List.length_append,List.length_cons,List.length_nil,List.length_set,List.length_replicate,bs_size]); omega)⟩ (by show _<18446744073709551616; (try simp only [List.length_append,List.length_cons,List.length_nil]); omega) (fun s12 k13 hI32 hk33=>?_)
     obtain ⟨hI32_0,hI32_1⟩:=hI32
     unfold r21_Is_l1
     refine ok_brd (fun h34=>?_) (fun h34=>?_)
     ·(try simp only [lenI] at h34)
      refine ok_jn (fun (s15:Int)=>True) (fun k16 hk35=>?_) (fun s15 hs36=>?_)
      ·skip
       refine ok_ix (by (try simp only [List.length_append,List.length_cons,List.length_nil,List.length_set,List.length_replicate,bs_size]); omega) (by (try simp only [List.length_append,List.length_cons,List.length_nil,List.length_set,List.length_replicate,bs_size]); omega) (fun x18 h37=>?_)
       have z38:szGAbility x18:=z6 x18 h37
       have z39:=(z38).1
       have z40:x18.filter.sub.size≤1048576:=((z38).1)
       have z41:=((z38).2.1).1
       have z42:=((z38).2.1).2
       have z43:=(z38).2.2.1
       have z44:=((z38).2.2.1)
       have z45:x18.trigger.filter.sub.size≤1048576:=(((z38).2.2.1))
       have z46:=((z38).2.2.2.1).1
       have z47:=((z38).2.2.2.1).2
       have z48:=((z38).2.2.2.2.1).1
       have z49:=((z38).2.2.2.2.1).2
       have z50:=(z38).2.2.2.2.2
       have z51:=((z38).2.2.2.2.2)
       have z52:x18.replace.filter.sub.size≤1048576:=(((z38).2.2.2.2.2))
       refine ok_bnd (tot_r20_Is _ (by first | assumption | (refine ⟨by omega,?_⟩; first | (intro _ _; trivial) | assumption) | (unfold szGAbility; simp_all [szB,szL]))) (fun y19 h53=>?_)
       refine ok_br (fun h54=>?_) (fun h54=>?_)
       ·skip
        exact ok_some trivial
       ·skip
        refine ok_ix (by (try simp only [List.length_append,List.length_cons,List.length_nil,List.length_set,List.length_replicate,bs_size]); omega) (by (try simp only [List.length_append,List.length_cons,List.length_nil,List.length_set,List.length_replicate,bs_size]); omega) (fun x20 h55=>?_)
        have z56:szGAbility x20:=z6 x20 h55
        have z57:=(z56).1
        have z58:x20.filter.sub.size≤1048576:=((z56).1)
        have z59:=((z56).2.1).1
        have z60:=((z56).2.1).2
        have z61:=(z56).2.2.1
        have z62:=((z56).2.2.1)
        have z63:x20.trigger.filter.sub.size≤1048576:=(((z56).2.2.1))
        have z64:=((z56).2.2.2.1).1
        have z65:=((z56).2.2.2.1).2
        have z66:=((z56).2.2.2.2.1).1
        have z67:=((z56).2.2.2.2.1).2
        have z68:=(z56).2.2.2.2.2
        have z69:=((z56).2.2.2.2.2)
        have z70:x20.replace.filter.sub.size≤1048576:=(((z56).2.2.2.2.2))
        refine ok_brd (fun h71=>?_) (fun h71=>?_)
        ·skip
         exact hk35 _ trivial
        ·skip
         exact hk35 _ trivial
      ·skip
       have h72:addI s12.2 1=s12.2+1:=addI_eq (by omega) (by omega)
       exact hk33 _ ⟨(by (try simp only [List.length_append,List.length_cons,List.length_nil,List.length_set,List.length_replicate,bs_size]); omega),(by (try simp only [List.length_append,List.length_cons,List.length_nil,List.length_set,List.length_replicate,bs_size]); omega)⟩ (by (try simp only [List.length_append,List.length_cons,List.length_nil,List.length_set,List.length_replicate,bs_size]); omega)
     ·(try simp only [lenI] at h34)
      refine ok_bnd (tot_r21_fast _ (by first | assumption | (refine ⟨by omega,?_⟩; first | (intro _ _; trivial) | assumption) | (unfold szGCard; simp_all [szB,szL]))) (fun y21 h73=>?_)
      refine ok_br (fun h74=>?_) (fun h74=>?_)
      ·skip
       refine ok_jn (fun (s22:Bool)=>True) (fun k23 hk75=>?_) (fun s22 hs76=>?_)
       ·skip
        refine ok_br (fun h77=>?_) (fun h77=>?_)
        ·skip
         refine ok_brd (fun h78=>?_) (fun h78=>?_)
         ·skip
          refine ok_brd (fun h79=>?_) (fun h79=>?_)
          ·(try simp only [lenI] at h79)
           exact hk75 _ trivial
          ·(try simp only [lenI] at h79)
           exact hk75 _ trivial
         ·skip
          exact hk75 _ trivial
        ·skip
         exact hk75 _ trivial
       ·skip
        exact ok_some trivial
      ·skip
       refine ok_brd (fun h80=>?_) (fun h80=>?_)
       ·skip
        refine ok_br (fun h81=>?_) (fun h81=>?_)
        ·skip
         refine ok_brd (fun h82=>?_) (fun h82=>?_)
         ·skip
          exact ok_some trivial
         ·skip
          refine ok_lte (fun v25 h83=>?_)
          exact ok_some trivial
        ·skip
         refine ok_lte (fun v26 h84=>?_)
         exact ok_some trivial
       ·skip
        exact ok_some trivial
theorem tot_r22_Find (l:List GCard) (name:ByteArray) (zz_l:(szL szGCard) l) (zz_name:szB name):Ok (fun r=>True) (r22_Find l name):=by
 unfold r22_Find
 have z1:=(zz_l).1
 have z2:=(zz_l).2
 have z3:name.size≤1048576:=zz_name
 refine ok_loop (fun (s1:Int)=>0≤s1∧s1≤(l.length:Int)) (fun (s1:Int)=>((l.length:Int) - s1).toNat) ⟨(by (try simp only [List.length_append,List.length_cons,List.length_nil,List.length_set,List.length_replicate,bs_size]); omega),(by (try simp only [List.length_append,List.length_cons,List.length_nil,List.length_set,List.length_replicate,bs_size]); omega)⟩ (by show _<18446744073709551616; (try simp only [List.length_append,List.length_cons,List.length_nil]); omega) (fun s1 k2 hI4 hk5=>?_)
 obtain ⟨hI4_0,hI4_1⟩:=hI4
 unfold r22_Find_l1
 refine ok_brd (fun h6=>?_) (fun h6=>?_)
 ·(try simp only [lenI] at h6)
  refine ok_ix (by (try simp only [List.length_append,List.length_cons,List.length_nil,List.length_set,List.length_replicate,bs_size]); omega) (by (try simp only [List.length_append,List.length_cons,List.length_nil,List.length_set,List.length_replicate,bs_size]); omega) (fun x4 h7=>?_)
  have z8:szGCard x4:=z2 x4 h7
  have z9:x4.name.size≤1048576:=(z8).1
  have z10:=(z8).2.1
  have z11:=(((z8).2.1)).1
  have z12:=(((z8).2.1)).2
  have z13:=((z8).2.2).1
  have z14:=((z8).2.2).2
  refine ok_br (fun h15=>?_) (fun h15=>?_)
  ·skip
   exact ok_some trivial
  ·skip
   have h16:addI s1 1=s1+1:=addI_eq (by omega) (by omega)
   exact hk5 _ ⟨(by (try simp only [List.length_append,List.length_cons,List.length_nil,List.length_set,List.length_replicate,bs_size]); omega),(by (try simp only [List.length_append,List.length_cons,List.length_nil,List.length_set,List.length_replicate,bs_size]); omega)⟩ (by (try simp only [List.length_append,List.length_cons,List.length_nil,List.length_set,List.length_replicate,bs_size]); omega)
 ·(try simp only [lenI] at h6)
  exact ok_some trivial
theorem tot_r22_token (l:List GCard) (name:ByteArray) (zz_l:(szL szGCard) l) (zz_name:szB name):Ok (fun r=>True) (r22_token l name):=by
 unfold r22_token
 have z1:=(zz_l).1
 have z2:=(zz_l).2
 have z3:name.size≤1048576:=zz_name
 refine ok_loop (fun (s1:Int)=>0≤s1∧s1≤(l.length:Int)) (fun (s1:Int)=>((l.length:Int) - s1).toNat) ⟨(by (try simp only [List.length_append,List.length_cons,List.length_nil,List.length_set,List.length_replicate,bs_size]); omega),(by (try simp only [List.length_append,List.length_cons,List.length_nil,List.length_set,List.length_replicate,bs_size]); omega)⟩ (by show _<18446744073709551616; (try simp only [List.length_append,List.length_cons,List.length_nil]); omega) (fun s1 k2 hI4 hk5=>?_)
 obtain ⟨hI4_0,hI4_1⟩:=hI4
 unfold r22_token_l1
 refine ok_brd (fun h6=>?_) (fun h6=>?_)
 ·(try simp only [lenI] at h6)
  refine ok_jn (fun (s4:Bool)=>True) (fun k5 hk7=>?_) (fun s4 hs8=>?_)
  ·skip
   refine ok_ix (by (try simp only [List.length_append,List.length_cons,List.length_nil,List.length_set,List.length_replicate,bs_size]); omega) (by (try simp only [List.length_append,List.length_cons,List.length_nil,List.length_set,List.length_replicate,bs_size]); omega) (fun x7 h9=>?_)
   have z10:szGCard x7:=z2 x7 h9
   have z11:x7.name.size≤1048576:=(z10).1
   have z12:=(z10).2.1
   have z13:=(((z10).2.1)).1
   have z14:=(((z10).2.1)).2
   have z15:=((z10).2.2).1
   have z16:=((z10).2.2).2
   refine ok_br (fun h17=>?_) (fun h17=>?_)
   ·skip
    refine ok_ix (by (try simp only [List.length_append,List.length_cons,List.length_nil,List.length_set,List.length_replicate,bs_size]); omega) (by (try simp only [List.length_append,List.length_cons,List.length_nil,List.length_set,List.length_replicate,bs_size]); omega) (fun x8 h18=>?_)
    have z19:szGCard x8:=z2 x8 h18
    have z20:x8.name.size≤1048576:=(z19).1
    have z21:=(z19).2.1
    have z22:=(((z19).2.1)).1
    have z23:=(((z19).2.1)).2
    have z24:=((z19).2.2).1
    have z25:=((z19).2.2).2
    exact hk7 _ trivial
   ·skip
    exact hk7 _ trivial
  ·skip
   refine ok_br (fun h26=>?_) (fun h26=>?_)
   ·skip
    exact ok_some trivial
   ·skip
    have h27:addI s1 1=s1+1:=addI_eq (by omega) (by omega)
    exact hk5 _ ⟨(by (try simp only [List.length_append,List.length_cons,List.length_nil,List.length_set,List.length_replicate,bs_size]); omega),(by (try simp only [List.length_append,List.length_cons,List.length_nil,List.length_set,List.length_replicate,bs_size]); omega)⟩ (by (try simp only [List.length_append,List.length_cons,List.length_nil,List.length_set,List.length_replicate,bs_size]); omega)
 ·(try simp only [lenI] at h6)
  exact ok_some trivial
theorem tot_r22_creates (l:List GCard) (c:GCard) (zz_l:(szL szGCard) l) (zz_c:szGCard c):Ok (fun r=>True) (r22_creates l c):=by
 have za:(szL szGAbility) c.abilities:=zz_c.2.2
 have hla:=za.1
 unfold r22_creates
 refine ok_for1 0 c.abilities.length (fun _=>True) 0 rfl (Nat.zero_le _) (by omega) trivial ?_ ?_
 ·intro i k hi _ hk
  unfold r22_creates_l2
  refine ok_brd (fun _=>?_) fun h=>absurd (show (i:Int)<(c.abilities.length:Int) by omega) h
  have zx:szGAbility c.abilities[i]:=za.2 _ (List.getElem_mem hi)
  have ze:(szL szGEffect) (c.abilities[i]).effects:=zx.2.2.2.2.1
  have hle:=ze.1
  refine ok_for1 0 (c.abilities[i]).effects.length (fun _=>True) 0 rfl (Nat.zero_le _) (by omega) trivial ?_ ?_
  ·intro j k5 hj _ hk5
   unfold r22_creates_l1
   refine ok_ixL i rfl hi (ok_brd (fun _=>ok_ixL i rfl hi (ok_ixL j rfl hj (ok_jn (fun _=>True) ?_ ?_))) fun h=>absurd (show (j:Int)<((c.abilities[i]).effects.length:Int) by omega) h)
   ·intro k11 h11
    exact ok_brd (fun _=>ok_bnd (tot_r22_token _ _ zz_l (by have z:=ze.2 _ (List.getElem_mem hj); exact z.2.2.1)) fun _ _=>h11 _ trivial) fun _=>h11 _ trivial
   ·intro s _
    exact ok_br (fun _=>ok_some trivial) fun _=>hk5 trivial
  ·intro k5 _
   unfold r22_creates_l1
   exact ok_ixL i rfl hi (ok_brd (fun h=>absurd h (by show ¬ ((c.abilities[i]).effects.length:Int)<((c.abilities[i]).effects.length:Int); omega)) fun _=>hk trivial)
 ·intro k _
  unfold r22_creates_l2
  exact ok_brd (fun h=>absurd h (by show ¬ (c.abilities.length:Int)<(c.abilities.length:Int); omega)) fun _=>ok_some trivial
theorem tot_r22_Check (l:List GCard) (zz_l:(szL szGCard) l):Ok (fun r=>True) (r22_Check l):=by
 unfold r22_Check
 have z1:=(zz_l).1
 have z2:=(zz_l).2
 refine ok_brd (fun h3=>?_) (fun h3=>?_)
 ·(try simp only [lenI] at h3)
  exact ok_some trivial
 ·(try simp only [lenI] at h3)
  refine ok_loop (fun (s1:Int)=>0≤s1∧s1≤(l.length:Int)) (fun (s1:Int)=>((l.length:Int) - s1).toNat) ⟨(by (try simp only [List.length_append,List.length_cons,List.length_nil,List.length_set,List.length_replicate,bs_size]); omega),(by (try simp only [List.length_append,List.length_cons,List.length_nil,List.length_set,List.length_replicate,bs_size]); omega)⟩ (by show _<18446744073709551616; (try simp only [List.length_append,List.length_cons,List.length_nil]); omega) (fun s1 k2 hI4 hk5=>?_)
  obtain ⟨hI4_0,hI4_1⟩:=hI4
  unfold r22_Check_l1
  refine ok_brd (fun h6=>?_) (fun h6=>?_)
  ·(try simp only [lenI] at h6)
   refine ok_ix (by (try simp only [List.length_append,List.length_cons,List.length_nil,List.length_set,List.length_replicate,bs_size]); omega) (by (try simp only [List.length_append,List.length_cons,List.length_nil,List.length_set,List.length_replicate,bs_size]); omega) (fun x4 h7=>?_)
   have z8:szGCard x4:=z2 x4 h7
   have z9:x4.name.size≤1048576:=(z8).1
   have z10:=(z8).2.1
   have z11:=(((z8).2.1)).1
   have z12:=(((z8).2.1)).2
   have z13:=((z8).2.2).1
   have z14:=((z8).2.2).2
   refine ok_bnd (tot_r21_Is _ (by first | assumption | (refine ⟨by omega,?_⟩; first | (intro _ _; trivial) | assumption) | (unfold szGCard; simp_all [szB,szL]))) (fun y5 h15=>?_)
   refine ok_br (fun h16=>?_) (fun h16=>?_)
   ·skip
    exact ok_some trivial
   ·skip
    refine ok_ix (by (try simp only [List.length_append,List.length_cons,List.length_nil,List.length_set,List.length_replicate,bs_size]); omega) (by (try simp only [List.length_append,List.length_cons,List.length_nil,List.length_set,List.length_replicate,bs_size]); omega) (fun x6 h17=>?_)
    have z18:szGCard x6:=z2 x6 h17
    have z19:x6.name.size≤1048576:=(z18).1
    have z20:=(z18).2.1
    have z21:=(((z18).2.1)).1
    have z22:=(((z18).2.1)).2
    have z23:=((z18).2.2).1
    have z24:=((z18).2.2).2
    refine ok_bnd (tot_r22_Find _ _ (by first | assumption | (refine ⟨by omega,?_⟩; first | (intro _ _; trivial) | assumption)) (by first | assumption | (show _≤1048576; (try simp only [bs_size,List.length_cons,List.length_nil]); omega))) (fun y7 h25=>?_)
    refine ok_brd (fun h26=>?_) (fun h26=>?_)
    ·skip
     exact ok_some trivial
    ·skip
     refine ok_ix (by (try simp only [List.length_append,List.length_cons,List.length_nil,List.length_set,List.length_replicate,bs_size]); omega) (by (try simp only [List.length_append,List.length_cons,List.length_nil,List.length_set,List.length_replicate,bs_size]); omega) (fun x8 h27=>?_)
     have z28:szGCard x8:=z2 x8 h27
     have z29:x8.name.size≤1048576:=(z28).1
     have z30:=(z28).2.1
     have z31:=(((z28).2.1)).1
     have z32:=(((z28).2.1)).2
     have z33:=((z28).2.2).1
     have z34:=((z28).2.2).2
     refine ok_bnd (tot_r22_creates _ _ (by first | assumption | (refine ⟨by omega,?_⟩; first | (intro _ _; trivial) | assumption)) (by first | assumption | (refine ⟨by omega,?_⟩; first | (intro _ _; trivial) | assumption) | (unfold szGCard; simp_all [szB,szL]))) (fun y9 h35=>?_)
     refine ok_br (fun h36=>?_) (fun h36=>?_)
     ·skip
      exact ok_some trivial
     ·skip
      have h37:addI s1 1=s1+1:=addI_eq (by omega) (by omega)
      exact hk5 _ ⟨(by (try simp only [List.length_append,List.length_cons,List.length_nil,List.length_set,List.length_replicate,bs_size]); omega),(by (try simp only [List.length_append,List.length_cons,List.length_nil,List.length_set,List.length_replicate,bs_size]); omega)⟩ (by (try simp only [List.length_append,List.length_cons,List.length_nil,List.length_set,List.length_replicate,bs_size]); omega)
  ·(try simp only [lenI] at h6)
   exact ok_some trivial
theorem tot_r08_Whole (p:Arr6 Int)  : Ok (fun r=>True) (r08_Whole p):=by
 unfold r08_Whole
 refine ok_loop (fun (s1:Int)=>0≤s1∧s1≤6) (fun (s1:Int)=>(6 - s1).toNat) ⟨(by (try simp only [List.length_append,List.length_cons,List.length_nil,List.length_set,List.length_replicate,bs_size]); omega),(by (try simp only [List.length_append,List.length_cons,List.length_nil,List.length_set,List.length_replicate,bs_size]); omega)⟩ (by show _<18446744073709551616; (try simp only [List.length_append,List.length_cons,List.length_nil]); omega) (fun s1 k2 hI1 hk2=>?_)
 obtain ⟨hI1_0,hI1_1⟩:=hI1
 unfold r08_Whole_l1
 refine ok_brd (fun h3=>?_) (fun h3=>?_)
 ·skip
  refine ok_jn (fun (s4:Bool)=>True) (fun k5 hk4=>?_) (fun s4 hs5=>?_)
  ·skip
   refine ok_sel (by (try simp only [List.length_append,List.length_cons,List.length_nil,List.length_set,List.length_replicate,bs_size]); omega) (by (try simp only [List.length_append,List.length_cons,List.length_nil,List.length_set,List.length_replicate,bs_size]); omega) (fun j7 h6=>?_)
   split
   ·skip
    refine ok_brd (fun h7=>?_) (fun h7=>?_)
    ·skip
     exact hk4 _ trivial
    ·skip
     refine ok_sel (by (try simp only [List.length_append,List.length_cons,List.length_nil,List.length_set,List.length_replicate,bs_size]); omega) (by (try simp only [List.length_append,List.length_cons,List.length_nil,List.length_set,List.length_replicate,bs_size]); omega) (fun j8 h8=>?_)
     split
     ·skip
      exact hk4 _ trivial
     ·skip
      exact hk4 _ trivial
     ·skip
      exact hk4 _ trivial
     ·skip
      exact hk4 _ trivial
     ·skip
      exact hk4 _ trivial
     ·skip
      exact hk4 _ trivial
   ·skip
    refine ok_brd (fun h9=>?_) (fun h9=>?_)
    ·skip
     exact hk4 _ trivial
    ·skip
     refine ok_sel (by (try simp only [List.length_append,List.length_cons,List.length_nil,List.length_set,List.length_replicate,bs_size]); omega) (by (try simp only [List.length_append,List.length_cons,List.length_nil,List.length_set,List.length_replicate,bs_size]); omega) (fun j9 h10=>?_)
     split
     ·skip
      exact hk4 _ trivial
     ·skip
      exact hk4 _ trivial
     ·skip
      exact hk4 _ trivial
     ·skip
      exact hk4 _ trivial
     ·skip
      exact hk4 _ trivial
     ·skip
      exact hk4 _ trivial
   ·skip
    refine ok_brd (fun h11=>?_) (fun h11=>?_)
    ·skip
     exact hk4 _ trivial
    ·skip
     refine ok_sel (by (try simp only [List.length_append,List.length_cons,List.length_nil,List.length_set,List.length_replicate,bs_size]); omega) (by (try simp only [List.length_append,List.length_cons,List.length_nil,List.length_set,List.length_replicate,bs_size]); omega) (fun j10 h12=>?_)
     split
     ·skip
      exact hk4 _ trivial
     ·skip
      exact hk4 _ trivial
     ·skip
      exact hk4 _ trivial
     ·skip
      exact hk4 _ trivial
     ·skip
      exact hk4 _ trivial
     ·skip
      exact hk4 _ trivial
   ·skip
    refine ok_brd (fun h13=>?_) (fun h13=>?_)
    ·skip
     exact hk4 _ trivial
    ·skip
     refine ok_sel (by (try simp only [List.length_append,List.length_cons,List.length_nil,List.length_set,List.length_replicate,bs_size]); omega) (by (try simp only [List.length_append,List.length_cons,List.length_nil,List.length_set,List.length_replicate,bs_size]); omega) (fun j11 h14=>?_)
     split
     ·skip
      exact hk4 _ trivial
     ·skip
      exact hk4 _ trivial
     ·skip
      exact hk4 _ trivial
     ·skip
      exact hk4 _ trivial
     ·skip
      exact hk4 _ trivial
     ·skip
      exact hk4 _ trivial
   ·skip
    refine ok_brd (fun h15=>?_) (fun h15=>?_)
    ·skip
     exact hk4 _ trivial
    ·skip
     refine ok_sel (by (try simp only [List.length_append,List.length_cons,List.length_nil,List.length_set,List.length_replicate,bs_size]); omega) (by (try simp only [List.length_append,List.length_cons,List.length_nil,List.length_set,List.length_replicate,bs_size]); omega) (fun j12 h16=>?_)
     split
     ·skip
      exact hk4 _ trivial
     ·skip
      exact hk4 _ trivial
     ·skip
      exact hk4 _ trivial
     ·skip
      exact hk4 _ trivial
     ·skip
      exact hk4 _ trivial
     ·skip
      exact hk4 _ trivial
   ·skip
    refine ok_brd (fun h17=>?_) (fun h17=>?_)
    ·skip
     exact hk4 _ trivial
    ·skip
     refine ok_sel (by (try simp only [List.length_append,List.length_cons,List.length_nil,List.length_set,List.length_replicate,bs_size]); omega) (by (try simp only [List.length_append,List.length_cons,List.length_nil,List.length_set,List.length_replicate,bs_size]); omega) (fun j13 h18=>?_)
     split
     ·skip
      exact hk4 _ trivial
     ·skip
      exact hk4 _ trivial
     ·skip
      exact hk4 _ trivial
     ·skip
      exact hk4 _ trivial
     ·skip
      exact hk4 _ trivial
     ·skip
      exact hk4 _ trivial
  ·skip
   refine ok_br (fun h19=>?_) (fun h19=>?_)
   ·skip
    exact ok_some trivial
   ·skip
    have h20:addI s1 1=s1+1:=addI_eq (by omega) (by omega)
    exact hk2 _ ⟨(by (try simp only [List.length_append,List.length_cons,List.length_nil,List.length_set,List.length_replicate,bs_size]); omega),(by (try simp only [List.length_append,List.length_cons,List.length_nil,List.length_set,List.length_replicate,bs_size]); omega)⟩ (by (try simp only [List.length_append,List.length_cons,List.length_nil,List.length_set,List.length_replicate,bs_size]); omega)
 ·skip
  exact ok_some trivial
theorem tot_r25_place (s:GState) (id:Int) (zz_s:szGState s):Ok (fun r=>-1≤r∧r<(s.objects.length:Int)) (r25_place s id):=by
 unfold r25_place
 have z1:=((zz_s).1).1
 have z2:=((zz_s).1).2
 have z3:=((zz_s).2.1).1
 have z4:=((zz_s).2.2.1).1
 have z5:=((zz_s).2.2.2.1).1
 have z6:=((zz_s).2.2.2.2.1).1
 have z7:=((zz_s).2.2.2.2.1).2
 have z8:=((zz_s).2.2.2.2.2.1).1
 have z9:=((zz_s).2.2.2.2.2.1).2
 have z10:=((zz_s).2.2.2.2.2.2.1).1
 have z11:=((zz_s).2.2.2.2.2.2.1).2
 have z12:=((zz_s).2.2.2.2.2.2.2).1
 refine ok_loop (fun (s1:Int)=>0≤s1∧s1≤(s.objects.length:Int)) (fun (s1:Int)=>((s.objects.length:Int) - s1).toNat) ⟨(by (try simp only [List.length_append,List.length_cons,List.length_nil,List.length_set,List.length_replicate,bs_size]); omega),(by (try simp only [List.length_append,List.length_cons,List.length_nil,List.length_set,List.length_replicate,bs_size]); omega)⟩ (by show _<18446744073709551616; (try simp only [List.length_append,List.length_cons,List.length_nil]); omega) (fun s1 k2 hI13 hk14=>?_)
 obtain ⟨hI13_0,hI13_1⟩:=hI13
 unfold r25_place_l1
 refine ok_brd (fun h15=>?_) (fun h15=>?_)
 ·(try simp only [lenI] at h15)
  refine ok_ix (by (try simp only [List.length_append,List.length_cons,List.length_nil,List.length_set,List.length_replicate,bs_size]); omega) (by (try simp only [List.length_append,List.length_cons,List.length_nil,List.length_set,List.length_replicate,bs_size]); omega) (fun x4 h16=>?_)
  refine ok_brd (fun h17=>?_) (fun h17=>?_)
  ·skip
   exact ok_some (by omega)
  ·skip
   have h18:addI s1 1=s1+1:=addI_eq (by omega) (by omega)
   exact hk14 _ ⟨(by (try simp only [List.length_append,List.length_cons,List.length_nil,List.length_set,List.length_replicate,bs_size]); omega),(by (try simp only [List.length_append,List.length_cons,List.length_nil,List.length_set,List.length_replicate,bs_size]); omega)⟩ (by (try simp only [List.length_append,List.length_cons,List.length_nil,List.length_set,List.length_replicate,bs_size]); omega)
 ·(try simp only [lenI] at h15)
  exact ok_some (by omega)
theorem tot_r25_Find (s:GState) (id:Int) (zz_s:szGState s):Ok (fun r=>True) (r25_Find s id):=by
 unfold r25_Find
 have z1:=((zz_s).1).1
 have z2:=((zz_s).1).2
 have z3:=((zz_s).2.1).1
 have z4:=((zz_s).2.2.1).1
 have z5:=((zz_s).2.2.2.1).1
 have z6:=((zz_s).2.2.2.2.1).1
 have z7:=((zz_s).2.2.2.2.1).2
 have z8:=((zz_s).2.2.2.2.2.1).1
 have z9:=((zz_s).2.2.2.2.2.1).2
 have z10:=((zz_s).2.2.2.2.2.2.1).1
 have z11:=((zz_s).2.2.2.2.2.2.1).2
 have z12:=((zz_s).2.2.2.2.2.2.2).1
 refine ok_bnd (tot_r25_place _ _ (by first | assumption | (refine ⟨by omega,?_⟩; first | (intro _ _; trivial) | assumption) | (unfold szGState; simp_all [szB,szL]))) (fun y1 h13=>?_)
 refine ok_brd (fun h14=>?_) (fun h14=>?_)
 ·skip
  exact ok_some trivial
 ·skip
  refine ok_ix (by (try simp only [List.length_append,List.length_cons,List.length_nil,List.length_set,List.length_replicate,bs_size]); omega) (by (try simp only [List.length_append,List.length_cons,List.length_nil,List.length_set,List.length_replicate,bs_size]); omega) (fun x2 h15=>?_)
  exact ok_some trivial
theorem tot_r26_object (s:GState) (id:Int) (zz_s:szGState s):Ok (fun r=>True) (r26_object s id):=by
 unfold r26_object
 have z1:=((zz_s).1).1
 have z2:=((zz_s).1).2
 have z3:=((zz_s).2.1).1
 have z4:=((zz_s).2.2.1).1
 have z5:=((zz_s).2.2.2.1).1
 have z6:=((zz_s).2.2.2.2.1).1
 have z7:=((zz_s).2.2.2.2.1).2
 have z8:=((zz_s).2.2.2.2.2.1).1
 have z9:=((zz_s).2.2.2.2.2.1).2
 have z10:=((zz_s).2.2.2.2.2.2.1).1
 have z11:=((zz_s).2.2.2.2.2.2.1).2
 have z12:=((zz_s).2.2.2.2.2.2.2).1
 refine ok_bnd (tot_r25_Find _ _ (by first | assumption | (refine ⟨by omega,?_⟩; first | (intro _ _; trivial) | assumption) | (unfold szGState; simp_all [szB,szL]))) (fun y1 h13=>?_)
 exact ok_some trivial
theorem tot_r26_times (l:List Int) (n:Int) (zz_l:(szL (fun (_:Int)=>True)) l):Ok (fun r=>True) (r26_times l n):=by
 unfold r26_times
 have z1:=(zz_l).1
 refine ok_loop (fun (s1:Int × Int)=>0≤s1.2∧s1.2≤(l.length:Int)) (fun (s1:Int × Int)=>((l.length:Int) - s1.2).toNat) ⟨(by (try simp only [List.length_append,List.length_cons,List.length_nil,List.length_set,List.length_replicate,bs_size]); omega),(by (try simp only [List.length_append,List.length_cons,List.length_nil,List.length_set,List.length_replicate,bs_size]); omega)⟩ (by show _<18446744073709551616; (try simp only [List.length_append,List.length_cons,List.length_nil]); omega) (fun s1 k2 hI2 hk3=>?_)
 obtain ⟨hI2_0,hI2_1⟩:=hI2
 unfold r26_times_l1
 refine ok_brd (fun h4=>?_) (fun h4=>?_)
 ·(try simp only [lenI] at h4)
  refine ok_jn (fun (s4:Int)=>True) (fun k5 hk5=>?_) (fun s4 hs6=>?_)
  ·skip
   refine ok_ix (by (try simp only [List.length_append,List.length_cons,List.length_nil,List.length_set,List.length_replicate,bs_size]); omega) (by (try simp only [List.length_append,List.length_cons,List.length_nil,List.length_set,List.length_replicate,bs_size]); omega) (fun x7 h7=>?_)
   refine ok_brd (fun h8=>?_) (fun h8=>?_)
   ·skip
    exact hk5 _ trivial
   ·skip
    exact hk5 _ trivial
  ·skip
   have h9:addI s1.2 1=s1.2+1:=addI_eq (by omega) (by omega)
   exact hk3 _ ⟨(by (try simp only [List.length_append,List.length_cons,List.length_nil,List.length_set,List.length_replicate,bs_size]); omega),(by (try simp only [List.length_append,List.length_cons,List.length_nil,List.length_set,List.length_replicate,bs_size]); omega)⟩ (by (try simp only [List.length_append,List.length_cons,List.length_nil,List.length_set,List.length_replicate,bs_size]); omega)
 ·(try simp only [lenI] at h4)
  exact ok_some trivial
theorem tot_r26_list (s:GState) (l:List Int) (zone:Int) (owner:Int) (zz_s:szGState s) (zz_l:(szL (fun (_:Int)=>True)) l):Ok (fun r=>True) (r26_list s l zone owner):=by
 unfold r26_list
 have z1:=((zz_s).1).1
 have z2:=((zz_s).1).2
 have z3:=((zz_s).2.1).1
 have z4:=((zz_s).2.2.1).1
 have z5:=((zz_s).2.2.2.1).1
 have z6:=((zz_s).2.2.2.2.1).1
 have z7:=((zz_s).2.2.2.2.1).2
 have z8:=((zz_s).2.2.2.2.2.1).1
 have z9:=((zz_s).2.2.2.2.2.1).2
 have z10:=((zz_s).2.2.2.2.2.2.1).1
 have z11:=((zz_s).2.2.2.2.2.2.1).2
 have z12:=((zz_s).2.2.2.2.2.2.2).1
 have z13:=(zz_l).1
 refine ok_loop (fun (s1:Int)=>0≤s1∧s1≤(l.length:Int)) (fun (s1:Int)=>((l.length:Int) - s1).toNat) ⟨(by (try simp only [List.length_append,List.length_cons,List.length_nil,List.length_set,List.length_replicate,bs_size]); omega),(by (try simp only [List.length_append,List.length_cons,List.length_nil,List.length_set,List.length_replicate,bs_size]); omega)⟩ (by show _<18446744073709551616; (try simp only [List.length_append,List.length_cons,List.length_nil]); omega) (fun s1 k2 hI14 hk15=>?_)
 obtain ⟨hI14_0,hI14_1⟩:=hI14
 unfold r26_list_l1
 refine ok_brd (fun h16=>?_) (fun h16=>?_)
 ·(try simp only [lenI] at h16)
  refine ok_ix (by (try simp only [List.length_append,List.length_cons,List.length_nil,List.length_set,List.length_replicate,bs_size]); omega) (by (try simp only [List.length_append,List.length_cons,List.length_nil,List.length_set,List.length_replicate,bs_size]); omega) (fun x4 h17=>?_)
  refine ok_bnd (tot_r26_object _ _ (by first | assumption | (refine ⟨by omega,?_⟩; first | (intro _ _; trivial) | assumption) | (unfold szGState; simp_all [szB,szL]))) (fun y5 h18=>?_)
  refine ok_jn (fun (s6:Bool)=>s6=false→y5.1.zone=zone) (fun k7 hk19=>?_) (fun s6 hs20=>?_)
  ·skip
   refine ok_br (fun h21=>?_) (fun h21=>?_)
   ·skip
    exact hk19 _ (by intro hh; first | (cases hh; done) | omega | (have hh2:=of_decide_eq_false hh; (try simp only [lenI] at hh2); omega) | (simp at hh; (try simp only [lenI] at hh); omega))
   ·skip
    refine ok_brn (fun h22=>?_) (fun h22=>?_)
    ·skip
     exact hk19 _ (by intro hh; first | (cases hh; done) | omega | (have hh2:=of_decide_eq_false hh; (try simp only [lenI] at hh2); omega) | (simp at hh; (try simp only [lenI] at hh); omega))
    ·skip
     refine ok_brd (fun h23=>?_) (fun h23=>?_)
     ·skip
      refine ok_brn (fun h24=>?_) (fun h24=>?_)
      ·skip
       exact hk19 _ (by intro hh; first | (cases hh; done) | omega | (have hh2:=of_decide_eq_false hh; (try simp only [lenI] at hh2); omega) | (simp at hh; (try simp only [lenI] at hh); omega))
      ·skip
       refine ok_ix (by (try simp only [List.length_append,List.length_cons,List.length_nil,List.length_set,List.length_replicate,bs_size]); omega) (by (try simp only [List.length_append,List.length_cons,List.length_nil,List.length_set,List.length_replicate,bs_size]); omega) (fun x9 h25=>?_)
       refine ok_bnd (tot_r26_times _ _ (by first | assumption | (refine ⟨by omega,?_⟩; first | (intro _ _; trivial) | assumption))) (fun y10 h26=>?_)
       exact hk19 _ (by intro hh; first | (cases hh; done) | omega | (have hh2:=of_decide_eq_false hh; (try simp only [lenI] at hh2); omega) | (simp at hh; (try simp only [lenI] at hh); omega))
     ·skip
      refine ok_ix (by (try simp only [List.length_append,List.length_cons,List.length_nil,List.length_set,List.length_replicate,bs_size]); omega) (by (try simp only [List.length_append,List.length_cons,List.length_nil,List.length_set,List.length_replicate,bs_size]); omega) (fun x11 h27=>?_)
      refine ok_bnd (tot_r26_times _ _ (by first | assumption | (refine ⟨by omega,?_⟩; first | (intro _ _; trivial) | assumption))) (fun y12 h28=>?_)
      exact hk19 _ (by intro hh; first | (cases hh; done) | omega | (have hh2:=of_decide_eq_false hh; (try simp only [lenI] at hh2); omega) | (simp at hh; (try simp only [lenI] at hh); omega))
  ·skip
   refine ok_br (fun h29=>?_) (fun h29=>?_)
   ·skip
    exact ok_some trivial
   ·skip
    have hf30:=hs20 h29
    have h31:addI s1 1=s1+1:=addI_eq (by omega) (by omega)
    exact hk15 _ ⟨(by (try simp only [List.length_append,List.length_cons,List.length_nil,List.length_set,List.length_replicate,bs_size]); omega),(by (try simp only [List.length_append,List.length_cons,List.length_nil,List.length_set,List.length_replicate,bs_size]); omega)⟩ (by (try simp only [List.length_append,List.length_cons,List.length_nil,List.length_set,List.length_replicate,bs_size]); omega)
 ·(try simp only [lenI] at h16)
  exact ok_some trivial
theorem tot_r26_players (s:GState) (zz_s:szGState s):Ok (fun r=>True) (r26_players s):=by
 unfold r26_players
 have z1:=((zz_s).1).1
 have z2:=((zz_s).1).2
 have z3:=((zz_s).2.1).1
 have z4:=((zz_s).2.2.1).1
 have z5:=((zz_s).2.2.2.1).1
 have z6:=((zz_s).2.2.2.2.1).1
 have z7:=((zz_s).2.2.2.2.1).2
 have z8:=((zz_s).2.2.2.2.2.1).1
 have z9:=((zz_s).2.2.2.2.2.1).2
 have z10:=((zz_s).2.2.2.2.2.2.1).1
 have z11:=((zz_s).2.2.2.2.2.2.1).2
 have z12:=((zz_s).2.2.2.2.2.2.2).1
 refine ok_bnd (tot_r26_in _ _ _ ) (fun y1 h13=>?_)
 refine ok_br (fun h14=>?_) (fun h14=>?_)
 ·skip
  exact ok_some trivial
 ·skip
  refine ok_loop (fun (s2:Int)=>0≤s2∧s2≤(s.players.length:Int)) (fun (s2:Int)=>((s.players.length:Int) - s2).toNat) ⟨(by (try simp only [List.length_append,List.length_cons,List.length_nil,List.length_set,List.length_replicate,bs_size]); omega),(by (try simp only [List.length_append,List.length_cons,List.length_nil,List.length_set,List.length_replicate,bs_size]); omega)⟩ (by show _<18446744073709551616; (try simp only [List.length_append,List.length_cons,List.length_nil]); omega) (fun s2 k3 hI15 hk16=>?_)
  obtain ⟨hI15_0,hI15_1⟩:=hI15
  unfold r26_players_l1
  refine ok_brd (fun h17=>?_) (fun h17=>?_)
  ·(try simp only [lenI] at h17)
   refine ok_ix (by (try simp only [List.length_append,List.length_cons,List.length_nil,List.length_set,List.length_replicate,bs_size]); omega) (by (try simp only [List.length_append,List.length_cons,List.length_nil,List.length_set,List.length_replicate,bs_size]); omega) (fun x5 h18=>?_)
   have z19:szGPlayer x5:=z2 x5 h18
   have z20:=((z19).1).1
   have z21:=((z19).2.1).1
   have z22:=((z19).2.2).1
   refine ok_jn (fun (s6:Bool)=>True) (fun k7 hk23=>?_) (fun s6 hs24=>?_)
   ·skip
    refine ok_bnd (tot_r26_in _ _ _ ) (fun y9 h25=>?_)
    refine ok_br (fun h26=>?_) (fun h26=>?_)
    ·skip
     exact hk23 _ trivial
    ·skip
     refine ok_bnd (tot_r26_in _ _ _ ) (fun y10 h27=>?_)
     refine ok_br (fun h28=>?_) (fun h28=>?_)
     ·skip
      exact hk23 _ trivial
     ·skip
      refine ok_bnd (tot_r26_in _ _ _ ) (fun y11 h29=>?_)
      refine ok_br (fun h30=>?_) (fun h30=>?_)
      ·skip
       exact hk23 _ trivial
      ·skip
       refine ok_bnd (tot_r08_Whole _ ) (fun y12 h31=>?_)
       exact hk23 _ trivial
   ·skip
    refine ok_br (fun h32=>?_) (fun h32=>?_)
    ·skip
     exact ok_some trivial
    ·skip
     refine ok_jn (fun (s13:Bool)=>True) (fun k14 hk33=>?_) (fun s13 hs34=>?_)
     ·skip
      refine ok_bnd (tot_r26_list _ _ _ _ (by first | assumption | (refine ⟨by omega,?_⟩; first | (intro _ _; trivial) | assumption) | (unfold szGState; simp_all [szB,szL])) (by first | assumption | (refine ⟨by omega,?_⟩; first | (intro _ _; trivial) | assumption))) (fun y16 h35=>?_)
      refine ok_br (fun h36=>?_) (fun h36=>?_)
      ·skip
       exact hk33 _ trivial
      ·skip
       refine ok_bnd (tot_r26_list _ _ _ _ (by first | assumption | (refine ⟨by omega,?_⟩; first | (intro _ _; trivial) | assumption) | (unfold szGState; simp_all [szB,szL])) (by first | assumption | (refine ⟨by omega,?_⟩; first | (intro _ _; trivial) | assumption))) (fun y17 h37=>?_)
       refine ok_br (fun h38=>?_) (fun h38=>?_)
       ·skip
        exact hk33 _ trivial
       ·skip
        refine ok_bnd (tot_r26_list _ _ _ _ (by first | assumption | (refine ⟨by omega,?_⟩; first | (intro _ _; trivial) | assumption) | (unfold szGState; simp_all [szB,szL])) (by first | assumption | (refine ⟨by omega,?_⟩; first | (intro _ _; trivial) | assumption))) (fun y18 h39=>?_)
        exact hk33 _ trivial
     ·skip
      refine ok_br (fun h40=>?_) (fun h40=>?_)
      ·skip
       exact ok_some trivial
      ·skip
       have h41:addI s2 1=s2+1:=addI_eq (by omega) (by omega)
       exact hk16 _ ⟨(by (try simp only [List.length_append,List.length_cons,List.length_nil,List.length_set,List.length_replicate,bs_size]); omega),(by (try simp only [List.length_append,List.length_cons,List.length_nil,List.length_set,List.length_replicate,bs_size]); omega)⟩ (by (try simp only [List.length_append,List.length_cons,List.length_nil,List.length_set,List.length_replicate,bs_size]); omega)
  ·(try simp only [lenI] at h17)
   refine ok_bnd (tot_r26_list _ _ _ _ (by first | assumption | (refine ⟨by omega,?_⟩; first | (intro _ _; trivial) | assumption) | (unfold szGState; simp_all [szB,szL])) (by first | assumption | (refine ⟨by omega,?_⟩; first | (intro _ _; trivial) | assumption))) (fun y19 h42=>?_)
   refine ok_br (fun h43=>?_) (fun h43=>?_)
   ·skip
    refine ok_bnd (tot_r26_list _ _ _ _ (by first | assumption | (refine ⟨by omega,?_⟩; first | (intro _ _; trivial) | assumption) | (unfold szGState; simp_all [szB,szL])) (by first | assumption | (refine ⟨by omega,?_⟩; first | (intro _ _; trivial) | assumption))) (fun y20 h44=>?_)
    exact ok_some trivial
   ·skip
    exact ok_some trivial
theorem tot_r12_Is (c:Arr3 Int)  : Ok (fun r=>True) (r12_Is c):=by
 unfold r12_Is
 refine ok_loop (fun (s1:Int)=>0≤s1∧s1≤3) (fun (s1:Int)=>(3 - s1).toNat) ⟨(by (try simp only [List.length_append,List.length_cons,List.length_nil,List.length_set,List.length_replicate,bs_size]); omega),(by (try simp only [List.length_append,List.length_cons,List.length_nil,List.length_set,List.length_replicate,bs_size]); omega)⟩ (by show _<18446744073709551616; (try simp only [List.length_append,List.length_cons,List.length_nil]); omega) (fun s1 k2 hI1 hk2=>?_)
 obtain ⟨hI1_0,hI1_1⟩:=hI1
 unfold r12_Is_l1
 refine ok_brd (fun h3=>?_) (fun h3=>?_)
 ·skip
  refine ok_jn (fun (s4:Bool)=>True) (fun k5 hk4=>?_) (fun s4 hs5=>?_)
  ·skip
   refine ok_sel (by (try simp only [List.length_append,List.length_cons,List.length_nil,List.length_set,List.length_replicate,bs_size]); omega) (by (try simp only [List.length_append,List.length_cons,List.length_nil,List.length_set,List.length_replicate,bs_size]); omega) (fun j7 h6=>?_)
   split
   ·skip
    refine ok_brd (fun h7=>?_) (fun h7=>?_)
    ·skip
     exact hk4 _ trivial
    ·skip
     refine ok_sel (by (try simp only [List.length_append,List.length_cons,List.length_nil,List.length_set,List.length_replicate,bs_size]); omega) (by (try simp only [List.length_append,List.length_cons,List.length_nil,List.length_set,List.length_replicate,bs_size]); omega) (fun j8 h8=>?_)
     split
     ·skip
      exact hk4 _ trivial
     ·skip
      exact hk4 _ trivial
     ·skip
      exact hk4 _ trivial
   ·skip
    refine ok_brd (fun h9=>?_) (fun h9=>?_)
    ·skip
     exact hk4 _ trivial
    ·skip
     refine ok_sel (by (try simp only [List.length_append,List.length_cons,List.length_nil,List.length_set,List.length_replicate,bs_size]); omega) (by (try simp only [List.length_append,List.length_cons,List.length_nil,List.length_set,List.length_replicate,bs_size]); omega) (fun j9 h10=>?_)
     split
     ·skip
      exact hk4 _ trivial
     ·skip
      exact hk4 _ trivial
     ·skip
      exact hk4 _ trivial
   ·skip
    refine ok_brd (fun h11=>?_) (fun h11=>?_)
    ·skip
     exact hk4 _ trivial
    ·skip
     refine ok_sel (by (try simp only [List.length_append,List.length_cons,List.length_nil,List.length_set,List.length_replicate,bs_size]); omega) (by (try simp only [List.length_append,List.length_cons,List.length_nil,List.length_set,List.length_replicate,bs_size]); omega) (fun j10 h12=>?_)
     split
     ·skip
      exact hk4 _ trivial
     ·skip
      exact hk4 _ trivial
     ·skip
      exact hk4 _ trivial
  ·skip
   refine ok_br (fun h13=>?_) (fun h13=>?_)
   ·skip
    exact ok_some trivial
   ·skip
    have h14:addI s1 1=s1+1:=addI_eq (by omega) (by omega)
    exact hk2 _ ⟨(by (try simp only [List.length_append,List.length_cons,List.length_nil,List.length_set,List.length_replicate,bs_size]); omega),(by (try simp only [List.length_append,List.length_cons,List.length_nil,List.length_set,List.length_replicate,bs_size]); omega)⟩ (by (try simp only [List.length_append,List.length_cons,List.length_nil,List.length_set,List.length_replicate,bs_size]); omega)
 ·skip
  exact ok_some trivial
theorem tot_r24_Calm (o:GObject)  : Ok (fun r=>True) (r24_Calm o):=by
 unfold r24_Calm
 exact ok_some trivial
theorem tot_r24_Ended (o:GObject)  : Ok (fun r=>True) (r24_Ended o):=by
 unfold r24_Ended
 exact ok_some trivial
theorem tot_r24_Is (o:GObject) (cards:Int) (players:Int)  : Ok (fun r=>True) (r24_Is o cards players):=by
 unfold r24_Is
 refine ok_jn (fun (s1:Bool)=>s1=false→¬(cards≤o.card)∧¬(o.card<0)∧¬(o.control<0)∧¬(o.id<1)∧¬(o.owner<0)∧¬(o.zone<0)∧¬(players≤o.control)∧¬(players≤o.owner)∧¬(5<o.zone)) (fun k2 hk1=>?_) (fun s1 hs2=>?_)
 ·skip
  refine ok_brd (fun h3=>?_) (fun h3=>?_)
  ·skip
   exact hk1 _ (by intro hh; first | (cases hh; done) | omega | (have hh2:=of_decide_eq_false hh; (try simp only [lenI] at hh2); omega) | (simp at hh; (try simp only [lenI] at hh); omega))
  ·skip
   refine ok_brd (fun h4=>?_) (fun h4=>?_)
   ·skip
    exact hk1 _ (by intro hh; first | (cases hh; done) | omega | (have hh2:=of_decide_eq_false hh; (try simp only [lenI] at hh2); omega) | (simp at hh; (try simp only [lenI] at hh); omega))
   ·skip
    refine ok_brd (fun h5=>?_) (fun h5=>?_)
    ·skip
     exact hk1 _ (by intro hh; first | (cases hh; done) | omega | (have hh2:=of_decide_eq_false hh; (try simp only [lenI] at hh2); omega) | (simp at hh; (try simp only [lenI] at hh); omega))
    ·skip
     refine ok_brd (fun h6=>?_) (fun h6=>?_)
     ·skip
      exact hk1 _ (by intro hh; first | (cases hh; done) | omega | (have hh2:=of_decide_eq_false hh; (try simp only [lenI] at hh2); omega) | (simp at hh; (try simp only [lenI] at hh); omega))
     ·skip
      refine ok_brd (fun h7=>?_) (fun h7=>?_)
      ·skip
       exact hk1 _ (by intro hh; first | (cases hh; done) | omega | (have hh2:=of_decide_eq_false hh; (try simp only [lenI] at hh2); omega) | (simp at hh; (try simp only [lenI] at hh); omega))
      ·skip
       refine ok_brd (fun h8=>?_) (fun h8=>?_)
       ·skip
        exact hk1 _ (by intro hh; first | (cases hh; done) | omega | (have hh2:=of_decide_eq_false hh; (try simp only [lenI] at hh2); omega) | (simp at hh; (try simp only [lenI] at hh); omega))
       ·skip
        refine ok_brd (fun h9=>?_) (fun h9=>?_)
        ·skip
         exact hk1 _ (by intro hh; first | (cases hh; done) | omega | (have hh2:=of_decide_eq_false hh; (try simp only [lenI] at hh2); omega) | (simp at hh; (try simp only [lenI] at hh); omega))
        ·skip
         refine ok_brd (fun h10=>?_) (fun h10=>?_)
         ·skip
          exact hk1 _ (by intro hh; first | (cases hh; done) | omega | (have hh2:=of_decide_eq_false hh; (try simp only [lenI] at hh2); omega) | (simp at hh; (try simp only [lenI] at hh); omega))
         ·skip
          exact hk1 _ (by intro hh; first | (cases hh; done) | omega | (have hh2:=of_decide_eq_false hh; (try simp only [lenI] at hh2); omega) | (simp at hh; (try simp only [lenI] at hh); omega))
 ·skip
  refine ok_br (fun h11=>?_) (fun h11=>?_)
  ·skip
   exact ok_some trivial
  ·skip
   have hf12:=hs2 h11
   refine ok_jn (fun (s4:Bool)=>s4=false→¬(1000000<o.blocks)∧¬(1000000<o.damage)∧¬(1000000<o.stamp)∧¬(o.blocks<0)∧¬(o.damage<0)∧¬(o.shield<0)∧¬(o.stamp<0)∧¬(1000000<o.shield)) (fun k5 hk13=>?_) (fun s4 hs14=>?_)
   ·skip
    refine ok_brd (fun h15=>?_) (fun h15=>?_)
    ·skip
     exact hk13 _ (by intro hh; first | (cases hh; done) | omega | (have hh2:=of_decide_eq_false hh; (try simp only [lenI] at hh2); omega) | (simp at hh; (try simp only [lenI] at hh); omega))
    ·skip
     refine ok_brd (fun h16=>?_) (fun h16=>?_)
     ·skip
      exact hk13 _ (by intro hh; first | (cases hh; done) | omega | (have hh2:=of_decide_eq_false hh; (try simp only [lenI] at hh2); omega) | (simp at hh; (try simp only [lenI] at hh); omega))
     ·skip
      refine ok_brd (fun h17=>?_) (fun h17=>?_)
      ·skip
       exact hk13 _ (by intro hh; first | (cases hh; done) | omega | (have hh2:=of_decide_eq_false hh; (try simp only [lenI] at hh2); omega) | (simp at hh; (try simp only [lenI] at hh); omega))
      ·skip
       refine ok_brd (fun h18=>?_) (fun h18=>?_)
       ·skip
        exact hk13 _ (by intro hh; first | (cases hh; done) | omega | (have hh2:=of_decide_eq_false hh; (try simp only [lenI] at hh2); omega) | (simp at hh; (try simp only [lenI] at hh); omega))
       ·skip
        refine ok_brd (fun h19=>?_) (fun h19=>?_)
        ·skip
         exact hk13 _ (by intro hh; first | (cases hh; done) | omega | (have hh2:=of_decide_eq_false hh; (try simp only [lenI] at hh2); omega) | (simp at hh; (try simp only [lenI] at hh); omega))
        ·skip
         refine ok_brd (fun h20=>?_) (fun h20=>?_)
         ·skip
          exact hk13 _ (by intro hh; first | (cases hh; done) | omega | (have hh2:=of_decide_eq_false hh; (try simp only [lenI] at hh2); omega) | (simp at hh; (try simp only [lenI] at hh); omega))
         ·skip
          refine ok_brd (fun h21=>?_) (fun h21=>?_)
          ·skip
           exact hk13 _ (by intro hh; first | (cases hh; done) | omega | (have hh2:=of_decide_eq_false hh; (try simp only [lenI] at hh2); omega) | (simp at hh; (try simp only [lenI] at hh); omega))
          ·skip
           exact hk13 _ (by intro hh; first | (cases hh; done) | omega | (have hh2:=of_decide_eq_false hh; (try simp only [lenI] at hh2); omega) | (simp at hh; (try simp only [lenI] at hh); omega))
   ·skip
    refine ok_br (fun h22=>?_) (fun h22=>?_)
    ·skip
     exact ok_some trivial
    ·skip
     have hf23:=hs14 h22
     refine ok_jn (fun (s7:Bool)=>s7=false→¬(cards≤o.copy)∧¬(o.attack<(-1))∧¬(o.copy<(-1))∧¬(players≤o.attack)) (fun k8 hk24=>?_) (fun s7 hs25=>?_)
     ·skip
      refine ok_bnd (tot_r12_Is _ ) (fun y10 h26=>?_)
      refine ok_br (fun h27=>?_) (fun h27=>?_)
      ·skip
       exact hk24 _ (by intro hh; first | (cases hh; done) | omega | (have hh2:=of_decide_eq_false hh; (try simp only [lenI] at hh2); omega) | (simp at hh; (try simp only [lenI] at hh); omega))
      ·skip
       refine ok_brd (fun h28=>?_) (fun h28=>?_)
       ·skip
        exact hk24 _ (by intro hh; first | (cases hh; done) | omega | (have hh2:=of_decide_eq_false hh; (try simp only [lenI] at hh2); omega) | (simp at hh; (try simp only [lenI] at hh); omega))
       ·skip
        refine ok_brd (fun h29=>?_) (fun h29=>?_)
        ·skip
         exact hk24 _ (by intro hh; first | (cases hh; done) | omega | (have hh2:=of_decide_eq_false hh; (try simp only [lenI] at hh2); omega) | (simp at hh; (try simp only [lenI] at hh); omega))
        ·skip
         refine ok_brd (fun h30=>?_) (fun h30=>?_)
         ·skip
          exact hk24 _ (by intro hh; first | (cases hh; done) | omega | (have hh2:=of_decide_eq_false hh; (try simp only [lenI] at hh2); omega) | (simp at hh; (try simp only [lenI] at hh); omega))
         ·skip
          exact hk24 _ (by intro hh; first | (cases hh; done) | omega | (have hh2:=of_decide_eq_false hh; (try simp only [lenI] at hh2); omega) | (simp at hh; (try simp only [lenI] at hh); omega))
     ·skip
      refine ok_br (fun h31=>?_) (fun h31=>?_)
      ·skip
       exact ok_some trivial
      ·skip
       have hf32:=hs25 h31
       refine ok_brd (fun h33=>?_) (fun h33=>?_)
       ·skip
        exact ok_some trivial
       ·skip
        refine ok_bnd (tot_r24_Calm _ ) (fun y11 h34=>?_)
        refine ok_lte (fun v12 h35=>?_)
        refine ok_br (fun h36=>?_) (fun h36=>?_)
        ·skip
         refine ok_bnd (tot_r24_Ended _ ) (fun y13 h37=>?_)
         refine ok_lte (fun v14 h38=>?_)
         refine ok_br (fun h39=>?_) (fun h39=>?_)
         ·skip
          refine ok_br (fun h40=>?_) (fun h40=>?_)
          ·skip
           refine ok_br (fun h41=>?_) (fun h41=>?_)
           ·skip
            refine ok_lte (fun v15 h42=>?_)
            exact ok_some trivial
           ·skip
            exact ok_some trivial
          ·skip
           exact ok_some trivial
         ·skip
          exact ok_some trivial
        ·skip
         exact ok_some trivial
theorem tot_r26_spells (s:GState) (id:Int) (zz_s:szGState s):Ok (fun r=>True) (r26_spells s id):=by
 unfold r26_spells
 have z1:=((zz_s).1).1
 have z2:=((zz_s).1).2
 have z3:=((zz_s).2.1).1
 have z4:=((zz_s).2.2.1).1
 have z5:=((zz_s).2.2.2.1).1
 have z6:=((zz_s).2.2.2.2.1).1
 have z7:=((zz_s).2.2.2.2.1).2
 have z8:=((zz_s).2.2.2.2.2.1).1
 have z9:=((zz_s).2.2.2.2.2.1).2
 have z10:=((zz_s).2.2.2.2.2.2.1).1
 have z11:=((zz_s).2.2.2.2.2.2.1).2
 have z12:=((zz_s).2.2.2.2.2.2.2).1
 refine ok_loop (fun (s1:Int × Int)=>0≤s1.2∧s1.2≤(s.stack.length:Int)) (fun (s1:Int × Int)=>((s.stack.length:Int) - s1.2).toNat) ⟨(by (try simp only [List.length_append,List.length_cons,List.length_nil,List.length_set,List.length_replicate,bs_size]); omega),(by (try simp only [List.length_append,List.length_cons,List.length_nil,List.length_set,List.length_replicate,bs_size]); omega)⟩ (by show _<18446744073709551616; (try simp only [List.length_append,List.length_cons,List.length_nil]); omega) (fun s1 k2 hI13 hk14=>?_)
 obtain ⟨hI13_0,hI13_1⟩:=hI13
 unfold r26_spells_l1
 refine ok_brd (fun h15=>?_) (fun h15=>?_)
 ·(try simp only [lenI] at h15)
  refine ok_jn (fun (s4:Int)=>True) (fun k5 hk16=>?_) (fun s4 hs17=>?_)
  ·skip
   refine ok_jn (fun (s7:Bool)=>True) (fun k8 hk18=>?_) (fun s7 hs19=>?_)
   ·skip
    refine ok_ix (by (try simp only [List.length_append,List.length_cons,List.length_nil,List.length_set,List.length_replicate,bs_size]); omega) (by (try simp only [List.length_append,List.length_cons,List.length_nil,List.length_set,List.length_replicate,bs_size]); omega) (fun x10 h20=>?_)
    have z21:szGItem x10:=z7 x10 h20
    have z22:=(z21).1
    have z23:=((z21).1).1
    have z24:x10.ability.filter.sub.size≤1048576:=(((z21).1).1)
    have z25:=(((z21).1).2.1).1
    have z26:=(((z21).1).2.1).2
    have z27:=((z21).1).2.2.1
    have z28:=(((z21).1).2.2.1)
    have z29:x10.ability.trigger.filter.sub.size≤1048576:=((((z21).1).2.2.1))
    have z30:=(((z21).1).2.2.2.1).1
    have z31:=(((z21).1).2.2.2.1).2
    have z32:=(((z21).1).2.2.2.2.1).1
    have z33:=(((z21).1).2.2.2.2.1).2
    have z34:=((z21).1).2.2.2.2.2
    have z35:=(((z21).1).2.2.2.2.2)
    have z36:x10.ability.replace.filter.sub.size≤1048576:=((((z21).1).2.2.2.2.2))
    have z37:=((z21).2).1
    refine ok_brd (fun h38=>?_) (fun h38=>?_)
    ·skip
     refine ok_ix (by (try simp only [List.length_append,List.length_cons,List.length_nil,List.length_set,List.length_replicate,bs_size]); omega) (by (try simp only [List.length_append,List.length_cons,List.length_nil,List.length_set,List.length_replicate,bs_size]); omega) (fun x11 h39=>?_)
     have z40:szGItem x11:=z7 x11 h39
     have z41:=(z40).1
     have z42:=((z40).1).1
     have z43:x11.ability.filter.sub.size≤1048576:=(((z40).1).1)
     have z44:=(((z40).1).2.1).1
     have z45:=(((z40).1).2.1).2
     have z46:=((z40).1).2.2.1
     have z47:=(((z40).1).2.2.1)
     have z48:x11.ability.trigger.filter.sub.size≤1048576:=((((z40).1).2.2.1))
     have z49:=(((z40).1).2.2.2.1).1
     have z50:=(((z40).1).2.2.2.1).2
     have z51:=(((z40).1).2.2.2.2.1).1
     have z52:=(((z40).1).2.2.2.2.1).2
     have z53:=((z40).1).2.2.2.2.2
     have z54:=(((z40).1).2.2.2.2.2)
     have z55:x11.ability.replace.filter.sub.size≤1048576:=((((z40).1).2.2.2.2.2))
     have z56:=((z40).2).1
     exact hk18 _ trivial
    ·skip
     exact hk18 _ trivial
   ·skip
    refine ok_br (fun h57=>?_) (fun h57=>?_)
    ·skip
     exact hk16 _ trivial
    ·skip
     exact hk16 _ trivial
  ·skip
   have h58:addI s1.2 1=s1.2+1:=addI_eq (by omega) (by omega)
   exact hk14 _ ⟨(by (try simp only [List.length_append,List.length_cons,List.length_nil,List.length_set,List.length_replicate,bs_size]); omega),(by (try simp only [List.length_append,List.length_cons,List.length_nil,List.length_set,List.length_replicate,bs_size]); omega)⟩ (by (try simp only [List.length_append,List.length_cons,List.length_nil,List.length_set,List.length_replicate,bs_size]); omega)
 ·(try simp only [lenI] at h15)
  exact ok_some trivial
theorem tot_r25_List (s:GState) (zone:Int) (player:Int) (zz_s:szGState s):Ok (fun r=>r.length≤1048576) (r25_List s zone player):=by
 unfold r25_List
 have z1:=((zz_s).1).1
 have z2:=((zz_s).1).2
 have z3:=((zz_s).2.1).1
 have z4:=((zz_s).2.2.1).1
 have z5:=((zz_s).2.2.2.1).1
 have z6:=((zz_s).2.2.2.2.1).1
 have z7:=((zz_s).2.2.2.2.1).2
 have z8:=((zz_s).2.2.2.2.2.1).1
 have z9:=((zz_s).2.2.2.2.2.1).2
 have z10:=((zz_s).2.2.2.2.2.2.1).1
 have z11:=((zz_s).2.2.2.2.2.2.1).2
 have z12:=((zz_s).2.2.2.2.2.2.2).1
 refine ok_brd (fun h13=>?_) (fun h13=>?_)
 ·skip
  refine ok_bnd (tot_r25_ints _ (by first | assumption | (refine ⟨by omega,?_⟩; first | (intro _ _; trivial) | assumption))) (fun y1 h14=>?_)
  exact ok_some (by first | (subst_vars; assumption) | (subst_vars; omega) | simp)
 ·skip
  refine ok_brd (fun h15=>?_) (fun h15=>?_)
  ·skip
   refine ok_bnd (tot_r25_ints _ (by first | assumption | (refine ⟨by omega,?_⟩; first | (intro _ _; trivial) | assumption))) (fun y2 h16=>?_)
   exact ok_some (by first | (subst_vars; assumption) | (subst_vars; omega) | simp)
  ·skip
   refine ok_jn (fun (s3:Bool)=>s3=false→¬(player<0)∧¬((s.players.length:Int)≤player)) (fun k4 hk17=>?_) (fun s3 hs18=>?_)
   ·skip
    refine ok_brd (fun h19=>?_) (fun h19=>?_)
    ·skip
     exact hk17 _ (by intro hh; first | (cases hh; done) | omega | (have hh2:=of_decide_eq_false hh; (try simp only [lenI] at hh2); omega) | (simp at hh; (try simp only [lenI] at hh); omega))
    ·skip
     exact hk17 _ (by intro hh; first | (cases hh; done) | omega | (have hh2:=of_decide_eq_false hh; (try simp only [lenI] at hh2); omega) | (simp at hh; (try simp only [lenI] at hh); omega))
   ·skip
    refine ok_br (fun h20=>?_) (fun h20=>?_)
    ·skip
     exact ok_some (by first | (subst_vars; assumption) | (subst_vars; omega) | simp)
    ·skip
     have hf21:=hs18 h20
     refine ok_brd (fun h22=>?_) (fun h22=>?_)
     ·skip
      refine ok_ix (by (try simp only [List.length_append,List.length_cons,List.length_nil,List.length_set,List.length_replicate,bs_size]); omega) (by (try simp only [List.length_append,List.length_cons,List.length_nil,List.length_set,List.length_replicate,bs_size]); omega) (fun x6 h23=>?_)
      have z24:szGPlayer x6:=z2 x6 h23
      have z25:=((z24).1).1
      have z26:=((z24).2.1).1
      have z27:=((z24).2.2).1
      refine ok_bnd (tot_r25_ints _ (by first | assumption | (refine ⟨by omega,?_⟩; first | (intro _ _; trivial) | assumption))) (fun y7 h28=>?_)
      exact ok_some (by first | (subst_vars; assumption) | (subst_vars; omega) | simp)
     ·skip
      refine ok_brd (fun h29=>?_) (fun h29=>?_)
      ·skip
       refine ok_ix (by (try simp only [List.length_append,List.length_cons,List.length_nil,List.length_set,List.length_replicate,bs_size]); omega) (by (try simp only [List.length_append,List.length_cons,List.length_nil,List.length_set,List.length_replicate,bs_size]); omega) (fun x8 h30=>?_)
       have z31:szGPlayer x8:=z2 x8 h30
       have z32:=((z31).1).1
       have z33:=((z31).2.1).1
       have z34:=((z31).2.2).1
       refine ok_bnd (tot_r25_ints _ (by first | assumption | (refine ⟨by omega,?_⟩; first | (intro _ _; trivial) | assumption))) (fun y9 h35=>?_)
       exact ok_some (by first | (subst_vars; assumption) | (subst_vars; omega) | simp)
      ·skip
       refine ok_brd (fun h36=>?_) (fun h36=>?_)
       ·skip
        refine ok_ix (by (try simp only [List.length_append,List.length_cons,List.length_nil,List.length_set,List.length_replicate,bs_size]); omega) (by (try simp only [List.length_append,List.length_cons,List.length_nil,List.length_set,List.length_replicate,bs_size]); omega) (fun x10 h37=>?_)
        have z38:szGPlayer x10:=z2 x10 h37
        have z39:=((z38).1).1
        have z40:=((z38).2.1).1
        have z41:=((z38).2.2).1
        refine ok_bnd (tot_r25_ints _ (by first | assumption | (refine ⟨by omega,?_⟩; first | (intro _ _; trivial) | assumption))) (fun y11 h42=>?_)
        exact ok_some (by first | (subst_vars; assumption) | (subst_vars; omega) | simp)
       ·skip
        exact ok_some (by first | (subst_vars; assumption) | (subst_vars; omega) | simp)
theorem tot_r26_placed (s:GState) (o:GObject) (zz_s:szGState s):Ok (fun r=>True) (r26_placed s o):=by
 unfold r26_placed
 have z1:=((zz_s).1).1
 have z2:=((zz_s).1).2
 have z3:=((zz_s).2.1).1
 have z4:=((zz_s).2.2.1).1
 have z5:=((zz_s).2.2.2.1).1
 have z6:=((zz_s).2.2.2.2.1).1
 have z7:=((zz_s).2.2.2.2.1).2
 have z8:=((zz_s).2.2.2.2.2.1).1
 have z9:=((zz_s).2.2.2.2.2.1).2
 have z10:=((zz_s).2.2.2.2.2.2.1).1
 have z11:=((zz_s).2.2.2.2.2.2.1).2
 have z12:=((zz_s).2.2.2.2.2.2.2).1
 refine ok_brd (fun h13=>?_) (fun h13=>?_)
 ·skip
  refine ok_bnd (tot_r26_spells _ _ (by first | assumption | (refine ⟨by omega,?_⟩; first | (intro _ _; trivial) | assumption) | (unfold szGState; simp_all [szB,szL]))) (fun y1 h14=>?_)
  exact ok_some trivial
 ·skip
  refine ok_bnd (tot_r25_List _ _ _ (by first | assumption | (refine ⟨by omega,?_⟩; first | (intro _ _; trivial) | assumption) | (unfold szGState; simp_all [szB,szL]))) (fun y2 h15=>?_)
  refine ok_bnd (tot_r26_times _ _ (by first | assumption | (refine ⟨by omega,?_⟩; first | (intro _ _; trivial) | assumption))) (fun y3 h16=>?_)
  exact ok_some trivial
theorem tot_r26_objects (cards:List GCard) (s:GState) (zz_cards:(szL szGCard) cards) (zz_s:szGState s):Ok (fun r=>True) (r26_objects cards s):=by
 unfold r26_objects
 have z1:=(zz_cards).1
 have z2:=(zz_cards).2
 have z3:=((zz_s).1).1
 have z4:=((zz_s).1).2
 have z5:=((zz_s).2.1).1
 have z6:=((zz_s).2.2.1).1
 have z7:=((zz_s).2.2.2.1).1
 have z8:=((zz_s).2.2.2.2.1).1
 have z9:=((zz_s).2.2.2.2.1).2
 have z10:=((zz_s).2.2.2.2.2.1).1
 have z11:=((zz_s).2.2.2.2.2.1).2
 have z12:=((zz_s).2.2.2.2.2.2.1).1
 have z13:=((zz_s).2.2.2.2.2.2.1).2
 have z14:=((zz_s).2.2.2.2.2.2.2).1
 refine ok_brd (fun h15=>?_) (fun h15=>?_)
 ·(try simp only [lenI] at h15)
  exact ok_some trivial
 ·(try simp only [lenI] at h15)
  refine ok_loop (fun (s1:Int)=>0≤s1∧s1≤(s.objects.length:Int)) (fun (s1:Int)=>((s.objects.length:Int) - s1).toNat) ⟨(by (try simp only [List.length_append,List.length_cons,List.length_nil,List.length_set,List.length_replicate,bs_size]); omega),(by (try simp only [List.length_append,List.length_cons,List.length_nil,List.length_set,List.length_replicate,bs_size]); omega)⟩ (by show _<18446744073709551616; (try simp only [List.length_append,List.length_cons,List.length_nil]); omega) (fun s1 k2 hI16 hk17=>?_)
  obtain ⟨hI16_0,hI16_1⟩:=hI16
  unfold r26_objects_l1
  refine ok_brd (fun h18=>?_) (fun h18=>?_)
  ·(try simp only [lenI] at h18)
   refine ok_ix (by (try simp only [List.length_append,List.length_cons,List.length_nil,List.length_set,List.length_replicate,bs_size]); omega) (by (try simp only [List.length_append,List.length_cons,List.length_nil,List.length_set,List.length_replicate,bs_size]); omega) (fun x4 h19=>?_)
   refine ok_jn (fun (s5:Bool)=>s5=false→¬(s.nextId≤x4.id)∧¬(s.nextStamp≤x4.stamp)) (fun k6 hk20=>?_) (fun s5 hs21=>?_)
   ·skip
    refine ok_bnd (tot_r24_Is _ _ _ ) (fun y8 h22=>?_)
    refine ok_br (fun h23=>?_) (fun h23=>?_)
    ·skip
     exact hk20 _ (by intro hh; first | (cases hh; done) | omega | (have hh2:=of_decide_eq_false hh; (try simp only [lenI] at hh2); omega) | (simp at hh; (try simp only [lenI] at hh); omega))
    ·skip
     refine ok_brd (fun h24=>?_) (fun h24=>?_)
     ·skip
      exact hk20 _ (by intro hh; first | (cases hh; done) | omega | (have hh2:=of_decide_eq_false hh; (try simp only [lenI] at hh2); omega) | (simp at hh; (try simp only [lenI] at hh); omega))
     ·skip
      refine ok_brd (fun h25=>?_) (fun h25=>?_)
      ·skip
       exact hk20 _ (by intro hh; first | (cases hh; done) | omega | (have hh2:=of_decide_eq_false hh; (try simp only [lenI] at hh2); omega) | (simp at hh; (try simp only [lenI] at hh); omega))
      ·skip
       refine ok_brd (fun h26=>?_) (fun h26=>?_)
       ·skip
        have h27:subI s1 1=s1 - 1:=subI_eq (by (try simp only [lenI]); omega) (by (try simp only [lenI]); omega)
        refine ok_ix (by (try simp only [List.length_append,List.length_cons,List.length_nil,List.length_set,List.length_replicate,bs_size]); omega) (by (try simp only [List.length_append,List.length_cons,List.length_nil,List.length_set,List.length_replicate,bs_size]); omega) (fun x9 h28=>?_)
        exact hk20 _ (by intro hh; first | (cases hh; done) | omega | (have hh2:=of_decide_eq_false hh; (try simp only [lenI] at hh2); omega) | (simp at hh; (try simp only [lenI] at hh); omega))
       ·skip
        exact hk20 _ (by intro hh; first | (cases hh; done) | omega | (have hh2:=of_decide_eq_false hh; (try simp only [lenI] at hh2); omega) | (simp at hh; (try simp only [lenI] at hh); omega))
   ·skip
    refine ok_br (fun h29=>?_) (fun h29=>?_)
    ·skip
     exact ok_some trivial
    ·skip
     have hf30:=hs21 h29
     refine ok_bnd (tot_r26_placed _ _ (by first | assumption | (refine ⟨by omega,?_⟩; first | (intro _ _; trivial) | assumption) | (unfold szGState; simp_all [szB,szL]))) (fun y10 h31=>?_)
     refine ok_br (fun h32=>?_) (fun h32=>?_)
     ·skip
      exact ok_some trivial
     ·skip
      have h33:addI s1 1=s1+1:=addI_eq (by omega) (by omega)
      exact hk17 _ ⟨(by (try simp only [List.length_append,List.length_cons,List.length_nil,List.length_set,List.length_replicate,bs_size]); omega),(by (try simp only [List.length_append,List.length_cons,List.length_nil,List.length_set,List.length_replicate,bs_size]); omega)⟩ (by (try simp only [List.length_append,List.length_cons,List.length_nil,List.length_set,List.length_replicate,bs_size]); omega)
  ·(try simp only [lenI] at h18)
   exact ok_some trivial
theorem tot_r26_item (s:GState) (x:GItem) (zz_s:szGState s) (zz_x:szGItem x):Ok (fun r=>True) (r26_item s x):=by
 unfold r26_item
 have z1:=((zz_s).1).1
 have z2:=((zz_s).1).2
 have z3:=((zz_s).2.1).1
 have z4:=((zz_s).2.2.1).1
 have z5:=((zz_s).2.2.2.1).1
 have z6:=((zz_s).2.2.2.2.1).1
 have z7:=((zz_s).2.2.2.2.1).2
 have z8:=((zz_s).2.2.2.2.2.1).1
 have z9:=((zz_s).2.2.2.2.2.1).2
 have z10:=((zz_s).2.2.2.2.2.2.1).1
 have z11:=((zz_s).2.2.2.2.2.2.1).2
 have z12:=((zz_s).2.2.2.2.2.2.2).1
 have z13:=(zz_x).1
 have z14:=((zz_x).1).1
 have z15:x.ability.filter.sub.size≤1048576:=(((zz_x).1).1)
 have z16:=(((zz_x).1).2.1).1
 have z17:=(((zz_x).1).2.1).2
 have z18:=((zz_x).1).2.2.1
 have z19:=(((zz_x).1).2.2.1)
 have z20:x.ability.trigger.filter.sub.size≤1048576:=((((zz_x).1).2.2.1))
 have z21:=(((zz_x).1).2.2.2.1).1
 have z22:=(((zz_x).1).2.2.2.1).2
 have z23:=(((zz_x).1).2.2.2.2.1).1
 have z24:=(((zz_x).1).2.2.2.2.1).2
 have z25:=((zz_x).1).2.2.2.2.2
 have z26:=(((zz_x).1).2.2.2.2.2)
 have z27:x.ability.replace.filter.sub.size≤1048576:=((((zz_x).1).2.2.2.2.2))
 have z28:=((zz_x).2).1
 refine ok_jn (fun (s1:Bool)=>s1=false→¬(4<(x.targets.length:Int))) (fun k2 hk29=>?_) (fun s1 hs30=>?_)
 ·skip
  refine ok_bnd (tot_r26_in _ _ _ ) (fun y4 h31=>?_)
  refine ok_br (fun h32=>?_) (fun h32=>?_)
  ·skip
   exact hk29 _ (by intro hh; first | (cases hh; done) | omega | (have hh2:=of_decide_eq_false hh; (try simp only [lenI] at hh2); omega) | (simp at hh; (try simp only [lenI] at hh); omega))
  ·skip
   refine ok_bnd (tot_r26_in _ _ _ ) (fun y5 h33=>?_)
   refine ok_br (fun h34=>?_) (fun h34=>?_)
   ·skip
    exact hk29 _ (by intro hh; first | (cases hh; done) | omega | (have hh2:=of_decide_eq_false hh; (try simp only [lenI] at hh2); omega) | (simp at hh; (try simp only [lenI] at hh); omega))
   ·skip
    refine ok_brd (fun h35=>?_) (fun h35=>?_)
    ·(try simp only [lenI] at h35)
     exact hk29 _ (by intro hh; first | (cases hh; done) | omega | (have hh2:=of_decide_eq_false hh; (try simp only [lenI] at hh2); omega) | (simp at hh; (try simp only [lenI] at hh); omega))
    ·(try simp only [lenI] at h35)
     refine ok_bnd (tot_r26_player _ _ (by first | assumption | (refine ⟨by omega,?_⟩; first | (intro _ _; trivial) | assumption) | (unfold szGState; simp_all [szB,szL]))) (fun y6 h36=>?_)
     exact hk29 _ (by intro hh; first | (cases hh; done) | omega | (have hh2:=of_decide_eq_false hh; (try simp only [lenI] at hh2); omega) | (simp at hh; (try simp only [lenI] at hh); omega))
 ·skip
  refine ok_br (fun h37=>?_) (fun h37=>?_)
  ·skip
   exact ok_some trivial
  ·skip
   have hf38:=hs30 h37
   refine ok_bnd (tot_r26_object _ _ (by first | assumption | (refine ⟨by omega,?_⟩; first | (intro _ _; trivial) | assumption) | (unfold szGState; simp_all [szB,szL]))) (fun y7 h39=>?_)
   refine ok_brd (fun h40=>?_) (fun h40=>?_)
   ·skip
    refine ok_bnd (tot_r20_Same _ _ (by first | assumption | (refine ⟨by omega,?_⟩; first | (intro _ _; trivial) | assumption) | (unfold szGAbility; simp_all [szB,szL])) sz_zGAbility) (fun y8 h41=>?_)
    refine ok_jn (fun (s9:Bool)=>True) (fun k10 hk42=>?_) (fun s9 hs43=>?_)
    ·skip
     refine ok_brd (fun h44=>?_) (fun h44=>?_)
     ·skip
      refine ok_br (fun h45=>?_) (fun h45=>?_)
      ·skip
       refine ok_brd (fun h46=>?_) (fun h46=>?_)
       ·skip
        refine ok_br (fun h47=>?_) (fun h47=>?_)
        ·skip
         exact hk42 _ trivial
        ·skip
         refine ok_bnd (tot_r20_Is _ (by first | assumption | (refine ⟨by omega,?_⟩; first | (intro _ _; trivial) | assumption) | (unfold szGAbility; simp_all [szB,szL]))) (fun y12 h48=>?_)
         exact hk42 _ trivial
       ·skip
        exact hk42 _ trivial
      ·skip
       exact hk42 _ trivial
     ·skip
      exact hk42 _ trivial
    ·skip
     exact ok_some trivial
   ·skip
    refine ok_brd (fun h49=>?_) (fun h49=>?_)
    ·skip
     refine ok_br (fun h50=>?_) (fun h50=>?_)
     ·skip
      refine ok_bnd (tot_r20_Is _ (by first | assumption | (refine ⟨by omega,?_⟩; first | (intro _ _; trivial) | assumption) | (unfold szGAbility; simp_all [szB,szL]))) (fun y13 h51=>?_)
      exact ok_some trivial
     ·skip
      exact ok_some trivial
    ·skip
     exact ok_some trivial
theorem tot_r03_Is (l:List Int) (zz_l:(szL (fun (_:Int)=>True)) l):Ok (fun r=>True) (r03_Is l):=by
 unfold r03_Is
 have z1:=(zz_l).1
 refine ok_loop (fun (s1:Int)=>1≤s1) (fun (s1:Int)=>((l.length:Int) - s1).toNat) (by (try simp only [List.length_append,List.length_cons,List.length_nil,List.length_set,List.length_replicate,bs_size]); omega) (by show _<18446744073709551616; (try simp only [List.length_append,List.length_cons,List.length_nil]); omega) (fun s1 k2 hI2 hk3=>?_)
 unfold r03_Is_l1
 refine ok_brd (fun h4=>?_) (fun h4=>?_)
 ·(try simp only [lenI] at h4)
  have h5:subI s1 1=s1 - 1:=subI_eq (by (try simp only [lenI]); omega) (by (try simp only [lenI]); omega)
  refine ok_ix (by (try simp only [List.length_append,List.length_cons,List.length_nil,List.length_set,List.length_replicate,bs_size]); omega) (by (try simp only [List.length_append,List.length_cons,List.length_nil,List.length_set,List.length_replicate,bs_size]); omega) (fun x4 h6=>?_)
  refine ok_ix (by (try simp only [List.length_append,List.length_cons,List.length_nil,List.length_set,List.length_replicate,bs_size]); omega) (by (try simp only [List.length_append,List.length_cons,List.length_nil,List.length_set,List.length_replicate,bs_size]); omega) (fun x5 h7=>?_)
  refine ok_brd (fun h8=>?_) (fun h8=>?_)
  ·skip
   exact ok_some trivial
  ·skip
   have h9:addI s1 1=s1+1:=addI_eq (by omega) (by omega)
   exact hk3 _ (by (try simp only [List.length_append,List.length_cons,List.length_nil,List.length_set,List.length_replicate,bs_size]); omega) (by (try simp only [List.length_append,List.length_cons,List.length_nil,List.length_set,List.length_replicate,bs_size]); omega)
 ·(try simp only [lenI] at h4)
  exact ok_some trivial
theorem tot_r26_stack (s:GState) (zz_s:szGState s):Ok (fun r=>True) (r26_stack s):=by
 unfold r26_stack
 have z1:=((zz_s).1).1
 have z2:=((zz_s).1).2
 have z3:=((zz_s).2.1).1
 have z4:=((zz_s).2.2.1).1
 have z5:=((zz_s).2.2.2.1).1
 have z6:=((zz_s).2.2.2.2.1).1
 have z7:=((zz_s).2.2.2.2.1).2
 have z8:=((zz_s).2.2.2.2.2.1).1
 have z9:=((zz_s).2.2.2.2.2.1).2
 have z10:=((zz_s).2.2.2.2.2.2.1).1
 have z11:=((zz_s).2.2.2.2.2.2.1).2
 have z12:=((zz_s).2.2.2.2.2.2.2).1
 refine ok_jn (fun (s1:Bool)=>s1=false→¬(64<(s.stack.length:Int))∧¬(64<(s.waiting.length:Int))∧¬(64<(s.conts.length:Int))) (fun k2 hk13=>?_) (fun s1 hs14=>?_)
 ·skip
  refine ok_brd (fun h15=>?_) (fun h15=>?_)
  ·(try simp only [lenI] at h15)
   exact hk13 _ (by intro hh; first | (cases hh; done) | omega | (have hh2:=of_decide_eq_false hh; (try simp only [lenI] at hh2); omega) | (simp at hh; (try simp only [lenI] at hh); omega))
  ·(try simp only [lenI] at h15)
   refine ok_brd (fun h16=>?_) (fun h16=>?_)
   ·(try simp only [lenI] at h16)
    exact hk13 _ (by intro hh; first | (cases hh; done) | omega | (have hh2:=of_decide_eq_false hh; (try simp only [lenI] at hh2); omega) | (simp at hh; (try simp only [lenI] at hh); omega))
   ·(try simp only [lenI] at h16)
    exact hk13 _ (by intro hh; first | (cases hh; done) | omega | (have hh2:=of_decide_eq_false hh; (try simp only [lenI] at hh2); omega) | (simp at hh; (try simp only [lenI] at hh); omega))
 ·skip
  refine ok_br (fun h17=>?_) (fun h17=>?_)
  ·skip
   exact ok_some trivial
  ·skip
   have hf18:=hs14 h17
   refine ok_loop (fun (s4:Int)=>0≤s4∧s4≤(s.stack.length:Int)) (fun (s4:Int)=>((s.stack.length:Int) - s4).toNat) ⟨(by (try simp only [List.length_append,List.length_cons,List.length_nil,List.length_set,List.length_replicate,bs_size]); omega),(by (try simp only [List.length_append,List.length_cons,List.length_nil,List.length_set,List.length_replicate,bs_size]); omega)⟩ (by show _<18446744073709551616; (try simp only [List.length_append,List.length_cons,List.length_nil]); omega) (fun s4 k5 hI19 hk20=>?_)
   obtain ⟨hI19_0,hI19_1⟩:=hI19
   unfold r26_stack_l4
   refine ok_brd (fun h21=>?_) (fun h21=>?_)
   ·(try simp only [lenI] at h21)
    refine ok_ix (by (try simp only [List.length_append,List.length_cons,List.length_nil,List.length_set,List.length_replicate,bs_size]); omega) (by (try simp only [List.length_append,List.length_cons,List.length_nil,List.length_set,List.length_replicate,bs_size]); omega) (fun x7 h22=>?_)
    have z23:szGItem x7:=z7 x7 h22
    have z24:=(z23).1
    have z25:=((z23).1).1
    have z26:x7.ability.filter.sub.size≤1048576:=(((z23).1).1)
    have z27:=(((z23).1).2.1).1
    have z28:=(((z23).1).2.1).2
    have z29:=((z23).1).2.2.1
    have z30:=(((z23).1).2.2.1)
    have z31:x7.ability.trigger.filter.sub.size≤1048576:=((((z23).1).2.2.1))
    have z32:=(((z23).1).2.2.2.1).1
    have z33:=(((z23).1).2.2.2.1).2
    have z34:=(((z23).1).2.2.2.2.1).1
    have z35:=(((z23).1).2.2.2.2.1).2
    have z36:=((z23).1).2.2.2.2.2
    have z37:=(((z23).1).2.2.2.2.2)
    have z38:x7.ability.replace.filter.sub.size≤1048576:=((((z23).1).2.2.2.2.2))
    have z39:=((z23).2).1
    refine ok_bnd (tot_r26_item _ _ (by first | assumption | (refine ⟨by omega,?_⟩; first | (intro _ _; trivial) | assumption) | (unfold szGState; simp_all [szB,szL])) (by first | assumption | (refine ⟨by omega,?_⟩; first | (intro _ _; trivial) | assumption) | (unfold szGItem; simp_all [szB,szL]))) (fun y8 h40=>?_)
    refine ok_br (fun h41=>?_) (fun h41=>?_)
    ·skip
     exact ok_some trivial
    ·skip
     refine ok_loop (fun (s9:Int)=>0≤s9) (fun (s9:Int)=>(s4 - s9).toNat) (by (try simp only [List.length_append,List.length_cons,List.length_nil,List.length_set,List.length_replicate,bs_size]); omega) (by show _<18446744073709551616; (try simp only [List.length_append,List.length_cons,List.length_nil]); omega) (fun s9 k10 hI42 hk43=>?_)
     unfold r26_stack_l1
     refine ok_brd (fun h44=>?_) (fun h44=>?_)
     ·skip
      refine ok_ix (by (try simp only [List.length_append,List.length_cons,List.length_nil,List.length_set,List.length_replicate,bs_size]); omega) (by (try simp only [List.length_append,List.length_cons,List.length_nil,List.length_set,List.length_replicate,bs_size]); omega) (fun x12 h45=>?_)
      have z46:szGItem x12:=z7 x12 h45
      have z47:=(z46).1
      have z48:=((z46).1).1
      have z49:x12.ability.filter.sub.size≤1048576:=(((z46).1).1)
      have z50:=(((z46).1).2.1).1
      have z51:=(((z46).1).2.1).2
      have z52:=((z46).1).2.2.1
      have z53:=(((z46).1).2.2.1)
      have z54:x12.ability.trigger.filter.sub.size≤1048576:=((((z46).1).2.2.1))
      have z55:=(((z46).1).2.2.2.1).1
      have z56:=(((z46).1).2.2.2.1).2
      have z57:=(((z46).1).2.2.2.2.1).1
      have z58:=(((z46).1).2.2.2.2.1).2
      have z59:=((z46).1).2.2.2.2.2
      have z60:=(((z46).1).2.2.2.2.2)
      have z61:x12.ability.replace.filter.sub.size≤1048576:=((((z46).1).2.2.2.2.2))
      have z62:=((z46).2).1
      refine ok_ix (by (try simp only [List.length_append,List.length_cons,List.length_nil,List.length_set,List.length_replicate,bs_size]); omega) (by (try simp only [List.length_append,List.length_cons,List.length_nil,List.length_set,List.length_replicate,bs_size]); omega) (fun x13 h63=>?_)
      have z64:szGItem x13:=z7 x13 h63
      have z65:=(z64).1
      have z66:=((z64).1).1
      have z67:x13.ability.filter.sub.size≤1048576:=(((z64).1).1)
      have z68:=(((z64).1).2.1).1
      have z69:=(((z64).1).2.1).2
      have z70:=((z64).1).2.2.1
      have z71:=(((z64).1).2.2.1)
      have z72:x13.ability.trigger.filter.sub.size≤1048576:=((((z64).1).2.2.1))
      have z73:=(((z64).1).2.2.2.1).1
      have z74:=(((z64).1).2.2.2.1).2
      have z75:=(((z64).1).2.2.2.2.1).1
      have z76:=(((z64).1).2.2.2.2.1).2
      have z77:=((z64).1).2.2.2.2.2
      have z78:=(((z64).1).2.2.2.2.2)
      have z79:x13.ability.replace.filter.sub.size≤1048576:=((((z64).1).2.2.2.2.2))
      have z80:=((z64).2).1
      refine ok_brd (fun h81=>?_) (fun h81=>?_)
      ·skip
       exact ok_some trivial
      ·skip
       have h82:addI s9 1=s9+1:=addI_eq (by omega) (by omega)
       exact hk43 _ (by (try simp only [List.length_append,List.length_cons,List.length_nil,List.length_set,List.length_replicate,bs_size]); omega) (by (try simp only [List.length_append,List.length_cons,List.length_nil,List.length_set,List.length_replicate,bs_size]); omega)
     ·skip
      have h83:addI s4 1=s4+1:=addI_eq (by omega) (by omega)
      exact hk20 _ ⟨(by (try simp only [List.length_append,List.length_cons,List.length_nil,List.length_set,List.length_replicate,bs_size]); omega),(by (try simp only [List.length_append,List.length_cons,List.length_nil,List.length_set,List.length_replicate,bs_size]); omega)⟩ (by (try simp only [List.length_append,List.length_cons,List.length_nil,List.length_set,List.length_replicate,bs_size]); omega)
   ·(try simp only [lenI] at h21)
    refine ok_loop (fun (s14:Int)=>0≤s14∧s14≤(s.waiting.length:Int)) (fun (s14:Int)=>((s.waiting.length:Int) - s14).toNat) ⟨(by (try simp only [List.length_append,List.length_cons,List.length_nil,List.length_set,List.length_replicate,bs_size]); omega),(by (try simp only [List.length_append,List.length_cons,List.length_nil,List.length_set,List.length_replicate,bs_size]); omega)⟩ (by show _<18446744073709551616; (try simp only [List.length_append,List.length_cons,List.length_nil]); omega) (fun s14 k15 hI84 hk85=>?_)
    obtain ⟨hI84_0,hI84_1⟩:=hI84
    unfold r26_stack_l3
    refine ok_brd (fun h86=>?_) (fun h86=>?_)
    ·(try simp only [lenI] at h86)
     refine ok_ix (by (try simp only [List.length_append,List.length_cons,List.length_nil,List.length_set,List.length_replicate,bs_size]); omega) (by (try simp only [List.length_append,List.length_cons,List.length_nil,List.length_set,List.length_replicate,bs_size]); omega) (fun x17 h87=>?_)
     have z88:szGWaiting x17:=z9 x17 h87
     have z89:=(z88)
     have z90:=((z88)).1
     have z91:x17.ability.filter.sub.size≤1048576:=(((z88)).1)
     have z92:=(((z88)).2.1).1
     have z93:=(((z88)).2.1).2
     have z94:=((z88)).2.2.1
     have z95:=(((z88)).2.2.1)
     have z96:x17.ability.trigger.filter.sub.size≤1048576:=((((z88)).2.2.1))
     have z97:=(((z88)).2.2.2.1).1
     have z98:=(((z88)).2.2.2.1).2
     have z99:=(((z88)).2.2.2.2.1).1
     have z100:=(((z88)).2.2.2.2.1).2
     have z101:=((z88)).2.2.2.2.2
     have z102:=(((z88)).2.2.2.2.2)
     have z103:x17.ability.replace.filter.sub.size≤1048576:=((((z88)).2.2.2.2.2))
     refine ok_jn (fun (s18:Bool)=>s18=false→x17.ability.kind=4) (fun k19 hk104=>?_) (fun s18 hs105=>?_)
     ·skip
      refine ok_bnd (tot_r26_player _ _ (by first | assumption | (refine ⟨by omega,?_⟩; first | (intro _ _; trivial) | assumption) | (unfold szGState; simp_all [szB,szL]))) (fun y21 h106=>?_)
      refine ok_br (fun h107=>?_) (fun h107=>?_)
      ·skip
       exact hk104 _ (by intro hh; first | (cases hh; done) | omega | (have hh2:=of_decide_eq_false hh; (try simp only [lenI] at hh2); omega) | (simp at hh; (try simp only [lenI] at hh); omega))
      ·skip
       refine ok_brn (fun h108=>?_) (fun h108=>?_)
       ·skip
        exact hk104 _ (by intro hh; first | (cases hh; done) | omega | (have hh2:=of_decide_eq_false hh; (try simp only [lenI] at hh2); omega) | (simp at hh; (try simp only [lenI] at hh); omega))
       ·skip
        refine ok_bnd (tot_r20_Is _ (by first | assumption | (refine ⟨by omega,?_⟩; first | (intro _ _; trivial) | assumption) | (unfold szGAbility; simp_all [szB,szL]))) (fun y22 h109=>?_)
        exact hk104 _ (by intro hh; first | (cases hh; done) | omega | (have hh2:=of_decide_eq_false hh; (try simp only [lenI] at hh2); omega) | (simp at hh; (try simp only [lenI] at hh); omega))
     ·skip
      refine ok_br (fun h110=>?_) (fun h110=>?_)
      ·skip
       exact ok_some trivial
      ·skip
       have hf111:=hs105 h110
       have h112:addI s14 1=s14+1:=addI_eq (by omega) (by omega)
       exact hk85 _ ⟨(by (try simp only [List.length_append,List.length_cons,List.length_nil,List.length_set,List.length_replicate,bs_size]); omega),(by (try simp only [List.length_append,List.length_cons,List.length_nil,List.length_set,List.length_replicate,bs_size]); omega)⟩ (by (try simp only [List.length_append,List.length_cons,List.length_nil,List.length_set,List.length_replicate,bs_size]); omega)
    ·(try simp only [lenI] at h86)
     refine ok_loop (fun (s23:Int)=>0≤s23∧s23≤(s.conts.length:Int)) (fun (s23:Int)=>((s.conts.length:Int) - s23).toNat) ⟨(by (try simp only [List.length_append,List.length_cons,List.length_nil,List.length_set,List.length_replicate,bs_size]); omega),(by (try simp only [List.length_append,List.length_cons,List.length_nil,List.length_set,List.length_replicate,bs_size]); omega)⟩ (by show _<18446744073709551616; (try simp only [List.length_append,List.length_cons,List.length_nil]); omega) (fun s23 k24 hI113 hk114=>?_)
     obtain ⟨hI113_0,hI113_1⟩:=hI113
     unfold r26_stack_l2
     refine ok_brd (fun h115=>?_) (fun h115=>?_)
     ·(try simp only [lenI] at h115)
      refine ok_ix (by (try simp only [List.length_append,List.length_cons,List.length_nil,List.length_set,List.length_replicate,bs_size]); omega) (by (try simp only [List.length_append,List.length_cons,List.length_nil,List.length_set,List.length_replicate,bs_size]); omega) (fun x26 h116=>?_)
      have z117:szGCont x26:=z11 x26 h116
      have z118:=((z117).1).1
      have z119:=((z117).2).1
      have z120:=((z117).2).2
      refine ok_jn (fun (s27:Bool)=>s27=false→¬(s.nextStamp≤x26.stamp)) (fun k28 hk121=>?_) (fun s27 hs122=>?_)
      ·skip
       refine ok_bnd (tot_r26_player _ _ (by first | assumption | (refine ⟨by omega,?_⟩; first | (intro _ _; trivial) | assumption) | (unfold szGState; simp_all [szB,szL]))) (fun y30 h123=>?_)
       refine ok_br (fun h124=>?_) (fun h124=>?_)
       ·skip
        exact hk121 _ (by intro hh; first | (cases hh; done) | omega | (have hh2:=of_decide_eq_false hh; (try simp only [lenI] at hh2); omega) | (simp at hh; (try simp only [lenI] at hh); omega))
       ·skip
        refine ok_brd (fun h125=>?_) (fun h125=>?_)
        ·skip
         exact hk121 _ (by intro hh; first | (cases hh; done) | omega | (have hh2:=of_decide_eq_false hh; (try simp only [lenI] at hh2); omega) | (simp at hh; (try simp only [lenI] at hh); omega))
        ·skip
         refine ok_bnd (tot_r26_in _ _ _ ) (fun y31 h126=>?_)
         refine ok_br (fun h127=>?_) (fun h127=>?_)
         ·skip
          exact hk121 _ (by intro hh; first | (cases hh; done) | omega | (have hh2:=of_decide_eq_false hh; (try simp only [lenI] at hh2); omega) | (simp at hh; (try simp only [lenI] at hh); omega))
         ·skip
          refine ok_bnd (tot_r03_Is _ (by first | assumption | (refine ⟨by omega,?_⟩; first | (intro _ _; trivial) | assumption))) (fun y32 h128=>?_)
          refine ok_br (fun h129=>?_) (fun h129=>?_)
          ·skip
           exact hk121 _ (by intro hh; first | (cases hh; done) | omega | (have hh2:=of_decide_eq_false hh; (try simp only [lenI] at hh2); omega) | (simp at hh; (try simp only [lenI] at hh); omega))
          ·skip
           refine ok_bnd (tot_r15_ListText _ (by first | assumption | (refine ⟨by omega,?_⟩; first | (intro _ _; trivial) | assumption))) (fun y33 h130=>?_)
           exact hk121 _ (by intro hh; first | (cases hh; done) | omega | (have hh2:=of_decide_eq_false hh; (try simp only [lenI] at hh2); omega) | (simp at hh; (try simp only [lenI] at hh); omega))
      ·skip
       refine ok_br (fun h131=>?_) (fun h131=>?_)
       ·skip
        exact ok_some trivial
       ·skip
        have hf132:=hs122 h131
        have h133:addI s23 1=s23+1:=addI_eq (by omega) (by omega)
        exact hk114 _ ⟨(by (try simp only [List.length_append,List.length_cons,List.length_nil,List.length_set,List.length_replicate,bs_size]); omega),(by (try simp only [List.length_append,List.length_cons,List.length_nil,List.length_set,List.length_replicate,bs_size]); omega)⟩ (by (try simp only [List.length_append,List.length_cons,List.length_nil,List.length_set,List.length_replicate,bs_size]); omega)
     ·(try simp only [lenI] at h115)
      exact ok_some trivial
theorem tot_r26_Is (cards:List GCard) (s:GState) (zz_cards:(szL szGCard) cards) (zz_s:szGState s):Ok (fun r=>True) (r26_Is cards s):=by
 unfold r26_Is
 have z1:=(zz_cards).1
 have z2:=(zz_cards).2
 have z3:=((zz_s).1).1
 have z4:=((zz_s).1).2
 have z5:=((zz_s).2.1).1
 have z6:=((zz_s).2.2.1).1
 have z7:=((zz_s).2.2.2.1).1
 have z8:=((zz_s).2.2.2.2.1).1
 have z9:=((zz_s).2.2.2.2.1).2
 have z10:=((zz_s).2.2.2.2.2.1).1
 have z11:=((zz_s).2.2.2.2.2.1).2
 have z12:=((zz_s).2.2.2.2.2.2.1).1
 have z13:=((zz_s).2.2.2.2.2.2.1).2
 have z14:=((zz_s).2.2.2.2.2.2.2).1
 refine ok_jn (fun (s1:Bool)=>s1=false→¬(2048<(s.objects.length:Int))) (fun k2 hk15=>?_) (fun s1 hs16=>?_)
 ·skip
  refine ok_bnd (tot_r26_in _ _ _ ) (fun y4 h17=>?_)
  refine ok_br (fun h18=>?_) (fun h18=>?_)
  ·skip
   exact hk15 _ (by intro hh; first | (cases hh; done) | omega | (have hh2:=of_decide_eq_false hh; (try simp only [lenI] at hh2); omega) | (simp at hh; (try simp only [lenI] at hh); omega))
  ·skip
   refine ok_bnd (tot_r26_in _ _ _ ) (fun y5 h19=>?_)
   refine ok_br (fun h20=>?_) (fun h20=>?_)
   ·skip
    exact hk15 _ (by intro hh; first | (cases hh; done) | omega | (have hh2:=of_decide_eq_false hh; (try simp only [lenI] at hh2); omega) | (simp at hh; (try simp only [lenI] at hh); omega))
   ·skip
    refine ok_bnd (tot_r26_in _ _ _ ) (fun y6 h21=>?_)
    refine ok_br (fun h22=>?_) (fun h22=>?_)
    ·skip
     exact hk15 _ (by intro hh; first | (cases hh; done) | omega | (have hh2:=of_decide_eq_false hh; (try simp only [lenI] at hh2); omega) | (simp at hh; (try simp only [lenI] at hh); omega))
    ·skip
     refine ok_bnd (tot_r26_in _ _ _ ) (fun y7 h23=>?_)
     refine ok_br (fun h24=>?_) (fun h24=>?_)
     ·skip
      exact hk15 _ (by intro hh; first | (cases hh; done) | omega | (have hh2:=of_decide_eq_false hh; (try simp only [lenI] at hh2); omega) | (simp at hh; (try simp only [lenI] at hh); omega))
     ·skip
      exact hk15 _ (by intro hh; first | (cases hh; done) | omega | (have hh2:=of_decide_eq_false hh; (try simp only [lenI] at hh2); omega) | (simp at hh; (try simp only [lenI] at hh); omega))
 ·skip
  refine ok_br (fun h25=>?_) (fun h25=>?_)
  ·skip
   exact ok_some trivial
  ·skip
   have hf26:=hs16 h25
   refine ok_jn (fun (s8:Bool)=>s8=false→¬(500<(s.extra.length:Int))) (fun k9 hk27=>?_) (fun s8 hs28=>?_)
   ·skip
    refine ok_bnd (tot_r26_players _ (by first | assumption | (refine ⟨by omega,?_⟩; first | (intro _ _; trivial) | assumption) | (unfold szGState; simp_all [szB,szL]))) (fun y11 h29=>?_)
    refine ok_br (fun h30=>?_) (fun h30=>?_)
    ·skip
     exact hk27 _ (by intro hh; first | (cases hh; done) | omega | (have hh2:=of_decide_eq_false hh; (try simp only [lenI] at hh2); omega) | (simp at hh; (try simp only [lenI] at hh); omega))
    ·skip
     refine ok_bnd (tot_r26_player _ _ (by first | assumption | (refine ⟨by omega,?_⟩; first | (intro _ _; trivial) | assumption) | (unfold szGState; simp_all [szB,szL]))) (fun y12 h31=>?_)
     refine ok_br (fun h32=>?_) (fun h32=>?_)
     ·skip
      exact hk27 _ (by intro hh; first | (cases hh; done) | omega | (have hh2:=of_decide_eq_false hh; (try simp only [lenI] at hh2); omega) | (simp at hh; (try simp only [lenI] at hh); omega))
     ·skip
      refine ok_bnd (tot_r26_player _ _ (by first | assumption | (refine ⟨by omega,?_⟩; first | (intro _ _; trivial) | assumption) | (unfold szGState; simp_all [szB,szL]))) (fun y13 h33=>?_)
      refine ok_br (fun h34=>?_) (fun h34=>?_)
      ·skip
       exact hk27 _ (by intro hh; first | (cases hh; done) | omega | (have hh2:=of_decide_eq_false hh; (try simp only [lenI] at hh2); omega) | (simp at hh; (try simp only [lenI] at hh); omega))
      ·skip
       refine ok_bnd (tot_r26_in _ _ _ ) (fun y14 h35=>?_)
       refine ok_br (fun h36=>?_) (fun h36=>?_)
       ·skip
        exact hk27 _ (by intro hh; first | (cases hh; done) | omega | (have hh2:=of_decide_eq_false hh; (try simp only [lenI] at hh2); omega) | (simp at hh; (try simp only [lenI] at hh); omega))
       ·skip
        refine ok_brd (fun h37=>?_) (fun h37=>?_)
        ·(try simp only [lenI] at h37)
         exact hk27 _ (by intro hh; first | (cases hh; done) | omega | (have hh2:=of_decide_eq_false hh; (try simp only [lenI] at hh2); omega) | (simp at hh; (try simp only [lenI] at hh); omega))
        ·(try simp only [lenI] at h37)
         refine ok_bnd (tot_r26_in _ _ _ ) (fun y15 h38=>?_)
         exact hk27 _ (by intro hh; first | (cases hh; done) | omega | (have hh2:=of_decide_eq_false hh; (try simp only [lenI] at hh2); omega) | (simp at hh; (try simp only [lenI] at hh); omega))
   ·skip
    refine ok_br (fun h39=>?_) (fun h39=>?_)
    ·skip
     exact ok_some trivial
    ·skip
     have hf40:=hs28 h39
     refine ok_loop (fun (s16:Int)=>0≤s16∧s16≤(s.extra.length:Int)) (fun (s16:Int)=>((s.extra.length:Int) - s16).toNat) ⟨(by (try simp only [List.length_append,List.length_cons,List.length_nil,List.length_set,List.length_replicate,bs_size]); omega),(by (try simp only [List.length_append,List.length_cons,List.length_nil,List.length_set,List.length_replicate,bs_size]); omega)⟩ (by show _<18446744073709551616; (try simp only [List.length_append,List.length_cons,List.length_nil]); omega) (fun s16 k17 hI41 hk42=>?_)
     obtain ⟨hI41_0,hI41_1⟩:=hI41
     unfold r26_Is_l1
     refine ok_brd (fun h43=>?_) (fun h43=>?_)
     ·(try simp only [lenI] at h43)
      refine ok_ix (by (try simp only [List.length_append,List.length_cons,List.length_nil,List.length_set,List.length_replicate,bs_size]); omega) (by (try simp only [List.length_append,List.length_cons,List.length_nil,List.length_set,List.length_replicate,bs_size]); omega) (fun x19 h44=>?_)
      refine ok_bnd (tot_r26_player _ _ (by first | assumption | (refine ⟨by omega,?_⟩; first | (intro _ _; trivial) | assumption) | (unfold szGState; simp_all [szB,szL]))) (fun y20 h45=>?_)
      refine ok_br (fun h46=>?_) (fun h46=>?_)
      ·skip
       exact ok_some trivial
      ·skip
       have h47:addI s16 1=s16+1:=addI_eq (by omega) (by omega)
       exact hk42 _ ⟨(by (try simp only [List.length_append,List.length_cons,List.length_nil,List.length_set,List.length_replicate,bs_size]); omega),(by (try simp only [List.length_append,List.length_cons,List.length_nil,List.length_set,List.length_replicate,bs_size]); omega)⟩ (by (try simp only [List.length_append,List.length_cons,List.length_nil,List.length_set,List.length_replicate,bs_size]); omega)
     ·(try simp only [lenI] at h43)
      refine ok_jn (fun (s21:Bool)=>True) (fun k22 hk48=>?_) (fun s21 hs49=>?_)
      ·skip
       refine ok_brd (fun h50=>?_) (fun h50=>?_)
       ·skip
        refine ok_bnd (tot_r26_player _ _ (by first | assumption | (refine ⟨by omega,?_⟩; first | (intro _ _; trivial) | assumption) | (unfold szGState; simp_all [szB,szL]))) (fun y24 h51=>?_)
        refine ok_br (fun h52=>?_) (fun h52=>?_)
        ·skip
         exact hk48 _ trivial
        ·skip
         refine ok_brn (fun h53=>?_) (fun h53=>?_)
         ·skip
          exact hk48 _ trivial
         ·skip
          exact hk48 _ trivial
       ·skip
        refine ok_brn (fun h54=>?_) (fun h54=>?_)
        ·skip
         exact hk48 _ trivial
        ·skip
         exact hk48 _ trivial
      ·skip
       refine ok_br (fun h55=>?_) (fun h55=>?_)
       ·skip
        exact ok_some trivial
       ·skip
        refine ok_bnd (tot_r26_objects _ _ (by first | assumption | (refine ⟨by omega,?_⟩; first | (intro _ _; trivial) | assumption)) (by first | assumption | (refine ⟨by omega,?_⟩; first | (intro _ _; trivial) | assumption) | (unfold szGState; simp_all [szB,szL]))) (fun y25 h56=>?_)
        refine ok_br (fun h57=>?_) (fun h57=>?_)
        ·skip
         refine ok_bnd (tot_r26_stack _ (by first | assumption | (refine ⟨by omega,?_⟩; first | (intro _ _; trivial) | assumption) | (unfold szGState; simp_all [szB,szL]))) (fun y26 h58=>?_)
         exact ok_some trivial
        ·skip
         exact ok_some trivial
end Go.Proofs.YthfepelpmalckaaGreatDoor
namespace Go.Proofs.YthfepelpmalckaaGreatDoor
open Go Go.Pv
set_option maxRecDepth 100000
def szGContext (x:GContext):Prop:=(szL (fun (_:GTarget)=>True)) x.targets
theorem valid40 (cards:List GCard) (s:GState) (hc:szL szGCard cards) (hs:szGState s):Ok (fun _=>True) (law40_valid cards s):=by
 unfold law40_valid
 exact ok_bnd (tot_r22_Check cards hc) fun y1 _=>ok_br (fun _=>ok_bnd (tot_r26_Is cards s hc hs) fun y2 _=>ok_some trivial) fun _=>ok_some trivial
theorem new_nil:ask_New []=some (GAskAsker.mk [] 0 zGChoice false false):=by
 unfold ask_New
 refine ok_eq (ok_loop (fun s=>s=(0,[])) (fun _=>0) rfl (by decide) ?_)
 rintro s k rfl hk
 unfold ask_New_l1
 exact ok_brf rfl (ok_some rfl)
theorem effects_nil (k:GAskAsker) (cards:List GCard) (s:GState) (ctx:GContext) (hs:szGState s):resolve_Effects k cards s ctx []=some s:=by
 unfold resolve_Effects
 refine ok_eq (ok_bnde (zone_Copy_ok s hs) (ok_loop (fun _=>True) (fun _=>0) trivial (by decide) ?_))
 intro u k _ hk
 unfold resolve_Effects_l1
 exact ok_brf rfl (ok_some rfl)
theorem top_nil (k:GAskAsker) (cards:List GCard) (s:GState) (hs:szGState s) (h:s.stack=[]):resolve_Top k cards s=some s:=by
 unfold resolve_Top
 exact ok_eq (ok_brt (by rw [h]; rfl) (ok_bnde (zone_Copy_ok s hs) (ok_some rfl)))
theorem ResolveNothing_true (cards:List GCard) (s:GState) (ctx:GContext) (hc:szL szGCard cards) (hs:szGState s) (hx:szGContext ctx):law40_ResolveNothing cards s ctx=some true:=by
 have al:law40_alive=some true:=rfl
 have hs2:szGState { s with stack:=[] }:=by
  obtain ⟨p1,p2,p3,p4,p5,p6,p7,p8⟩:=hs
  exact ⟨p1,p2,p3,p4,⟨by simp,by simp⟩,p6,p7,p8⟩
 unfold law40_ResolveNothing
 refine ok_eq (ok_bnd (valid40 cards s hc hs) fun y1 _=>ok_br (fun _=>ok_bnde al (ok_some rfl)) fun _=>?_)
 refine ok_bnde new_nil (ok_bnde (effects_nil _ cards s ctx hs) ?_)
 refine ok_jn (fun t=>t={ s with stack:=[] }) (fun k hk=>?_) ?_
 ·refine ok_bnd (valid40 cards _ hc hs2) fun y8 _=>ok_br (fun _=>?_) fun _=>hk _ rfl
  exact ok_bnde (top_nil _ cards _ hs2 rfl) (hk _ rfl)
 rintro t rfl
 refine ok_bnde (x:=(zGChoice,false)) rfl (ok_bnde al (ok_brt rfl (ok_brt rfl (ok_bnde (same_state _ hs2) (ok_brt rfl (ok_some ?_))))))
 simp
end Go.Proofs.YthfepelpmalckaaGreatDoor
