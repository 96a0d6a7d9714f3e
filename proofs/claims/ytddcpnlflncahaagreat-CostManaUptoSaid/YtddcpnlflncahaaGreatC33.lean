import Derived.Test.YtddcpnlflncahaaGreatC31
import Derived.Test.YtddcpnlflncahaaGreatC32
set_option linter.all false
namespace Go.Proofs.YtddcpnlflncahaaGreat
open Go Go.Pv
set_option maxRecDepth 100000
theorem tot_r21_Is (c:GCard) (zz_c:szGCard c):Ok (fun r=>True) (r21_Is c):=by
 unfold r21_Is
 have z1:c.name.size≤1048576:=(zz_c).1
 have z2:szGLine (c.line):=(zz_c).2.1
 have z3:c.line.subs.length≤1048576:=(((zz_c).2.1)).1
 have z4:∀ y∈c.line.subs,szB y:=(((zz_c).2.1)).2
 have z5:c.abilities.length≤1048576:=((zz_c).2.2).1
 have z6:∀ y∈c.abilities,szGAbility y:=((zz_c).2.2).2
 refine ok_jn (fun (s1:Bool)=>s1=false→¬(c.color<0)∧¬(31<c.color)) (fun k2 hk7=>?_) (fun s1 hs8=>?_)
 ·skip
  refine ok_bnd (tot_r02_Is _ (by first | assumption | (show _≤1048576; (try simp only [bs_size,List.length_cons,List.length_nil]); omega))) (fun y4 h9=>?_)
  refine ok_br (fun h10=>?_) (fun h10=>?_)
  ·skip
   exact hk7 _ (by intro hh; first | (cases hh; done) | omega | (have hh2:=of_decide_eq_false hh; (try simp only [lenI] at hh2); omega) | (simp at hh; (try simp only [lenI] at hh); omega))
  ·skip
   refine ok_bnd (tot_r08_Is _ ) (fun y5 h11=>?_)
   refine ok_br (fun h12=>?_) (fun h12=>?_)
   ·skip
    exact hk7 _ (by intro hh; first | (cases hh; done) | omega | (have hh2:=of_decide_eq_false hh; (try simp only [lenI] at hh2); omega) | (simp at hh; (try simp only [lenI] at hh); omega))
   ·skip
    refine ok_bnd (tot_r10_Is _ (by first | assumption | (refine ⟨by omega,?_⟩; first | (intro _ _; trivial) | assumption) | (unfold szGLine; simp_all [szB,szL]))) (fun y6 h13=>?_)
    refine ok_br (fun h14=>?_) (fun h14=>?_)
    ·skip
     exact hk7 _ (by intro hh; first | (cases hh; done) | omega | (have hh2:=of_decide_eq_false hh; (try simp only [lenI] at hh2); omega) | (simp at hh; (try simp only [lenI] at hh); omega))
    ·skip
     refine ok_bnd (tot_r11_Is _ ) (fun y7 h15=>?_)
     refine ok_br (fun h16=>?_) (fun h16=>?_)
     ·skip
      exact hk7 _ (by intro hh; first | (cases hh; done) | omega | (have hh2:=of_decide_eq_false hh; (try simp only [lenI] at hh2); omega) | (simp at hh; (try simp only [lenI] at hh); omega))
     ·skip
      refine ok_brd (fun h17=>?_) (fun h17=>?_)
      ·skip
       exact hk7 _ (by intro hh; first | (cases hh; done) | omega | (have hh2:=of_decide_eq_false hh; (try simp only [lenI] at hh2); omega) | (simp at hh; (try simp only [lenI] at hh); omega))
      ·skip
       exact hk7 _ (by intro hh; first | (cases hh; done) | omega | (have hh2:=of_decide_eq_false hh; (try simp only [lenI] at hh2); omega) | (simp at hh; (try simp only [lenI] at hh); omega))
 ·skip
  refine ok_br (fun h18=>?_) (fun h18=>?_)
  ·skip
   exact ok_some trivial
  ·skip
   have hf19:=hs8 h18
   refine ok_jn (fun (s8:Bool)=>s8=false→¬(99<c.power)∧¬(99<c.tough)∧¬(c.power<0)∧¬(c.tough<0)∧¬(8<(c.abilities.length:Int))) (fun k9 hk20=>?_) (fun s8 hs21=>?_)
   ·skip
    refine ok_brd (fun h22=>?_) (fun h22=>?_)
    ·skip
     exact hk20 _ (by intro hh; first | (cases hh; done) | omega | (have hh2:=of_decide_eq_false hh; (try simp only [lenI] at hh2); omega) | (simp at hh; (try simp only [lenI] at hh); omega))
    ·skip
     refine ok_brd (fun h23=>?_) (fun h23=>?_)
     ·skip
      exact hk20 _ (by intro hh; first | (cases hh; done) | omega | (have hh2:=of_decide_eq_false hh; (try simp only [lenI] at hh2); omega) | (simp at hh; (try simp only [lenI] at hh); omega))
     ·skip
      refine ok_brd (fun h24=>?_) (fun h24=>?_)
      ·skip
       exact hk20 _ (by intro hh; first | (cases hh; done) | omega | (have hh2:=of_decide_eq_false hh; (try simp only [lenI] at hh2); omega) | (simp at hh; (try simp only [lenI] at hh); omega))
      ·skip
       refine ok_brd (fun h25=>?_) (fun h25=>?_)
       ·skip
        exact hk20 _ (by intro hh; first | (cases hh; done) | omega | (have hh2:=of_decide_eq_false hh; (try simp only [lenI] at hh2); omega) | (simp at hh; (try simp only [lenI] at hh); omega))
       ·skip
        refine ok_bnd (tot_r21_creature _ (by first | assumption | (refine ⟨by omega,?_⟩; first | (intro _ _; trivial) | assumption) | (unfold szGCard; simp_all [szB,szL]))) (fun y11 h26=>?_)
        refine ok_br (fun h27=>?_) (fun h27=>?_)
        ·skip
         refine ok_brn (fun h28=>?_) (fun h28=>?_)
         ·skip
          exact hk20 _ (by intro hh; first | (cases hh; done) | omega | (have hh2:=of_decide_eq_false hh; (try simp only [lenI] at hh2); omega) | (simp at hh; (try simp only [lenI] at hh); omega))
         ·skip
          refine ok_brn (fun h29=>?_) (fun h29=>?_)
          ·skip
           exact hk20 _ (by intro hh; first | (cases hh; done) | omega | (have hh2:=of_decide_eq_false hh; (try simp only [lenI] at hh2); omega) | (simp at hh; (try simp only [lenI] at hh); omega))
          ·skip
           exact hk20 _ (by intro hh; first | (cases hh; done) | omega | (have hh2:=of_decide_eq_false hh; (try simp only [lenI] at hh2); omega) | (simp at hh; (try simp only [lenI] at hh); omega))
        ·skip
         exact hk20 _ (by intro hh; first | (cases hh; done) | omega | (have hh2:=of_decide_eq_false hh; (try simp only [lenI] at hh2); omega) | (simp at hh; (try simp only [lenI] at hh); omega))
   ·skip
    refine ok_br (fun h30=>?_) (fun h30=>?_)
    ·skip
     exact ok_some trivial
    ·skip
     have hf31:=hs21 h30
     refine ok_loop (fun (s12:Int × Int)=>0≤s12.2∧s12.2≤(c.abilities.length:Int)) (fun (s12:Int × Int)=>((c.abilities.length:Int) - s12.2).toNat) ⟨(by (try simp only [List.length_append,List.length_cons,List.length_nil,List.length_set,List.length_replicate,bs_size]); omega),(by (try simp only [List.length_append,List.length_cons,List.length_nil,List.length_set,List.length_replicate,bs_size]); omega)⟩ (by show _<18446744073709551616; (try simp only [List.length_append,List.length_cons,List.length_nil]); omega) (fun s12 k13 hI32 hk33=>?_)
     obtain ⟨hI32_0,hI32_1⟩:=hI32
     unfold r21_Is_l1
     refine ok_brd (fun h34=>?_) (fun h34=>?_)
     ·(try simp only [lenI] at h34)
      refine ok_jn (fun (s15:Int)=>True) (fun k16 hk35=>?_) (fun s15 hs36=>?_)
      ·skip
       refine ok_ix (by (try simp only [List.length_append,List.length_cons,List.length_nil,List.length_set,List.length_replicate,bs_size]); omega) (by (try simp only [List.length_append,List.length_cons,List.length_nil,List.length_set,List.length_replicate,bs_size]); omega) (fun x18 h37=>?_)
       have z38:szGAbility x18:=z6 x18 h37
       have z39:szGFilter (x18.filter):=(z38).1
       have z40:x18.filter.sub.size≤1048576:=((z38).1)
       have z41:x18.mods.length≤1048576:=((z38).2.1).1
       have z42:∀ y∈x18.mods,szGMod y:=((z38).2.1).2
       have z43:szGTrigger (x18.trigger):=(z38).2.2.1
       have z44:szGFilter (x18.trigger.filter):=((z38).2.2.1)
       have z45:x18.trigger.filter.sub.size≤1048576:=(((z38).2.2.1))
       have z46:x18.specs.length≤1048576:=((z38).2.2.2.1).1
       have z47:∀ y∈x18.specs,szGSpec y:=((z38).2.2.2.1).2
       have z48:x18.effects.length≤1048576:=((z38).2.2.2.2.1).1
       have z49:∀ y∈x18.effects,szGEffect y:=((z38).2.2.2.2.1).2
       have z50:szGReplace (x18.replace):=(z38).2.2.2.2.2
       have z51:szGFilter (x18.replace.filter):=((z38).2.2.2.2.2)
       have z52:x18.replace.filter.sub.size≤1048576:=(((z38).2.2.2.2.2))
       refine ok_bnd (tot_r20_Is _ (by first | assumption | (refine ⟨by omega,?_⟩; first | (intro _ _; trivial) | assumption) | (unfold szGAbility; simp_all [szB,szL]))) (fun y19 h53=>?_)
       refine ok_br (fun h54=>?_) (fun h54=>?_)
       ·skip
        exact ok_some trivial
       ·skip
        refine ok_ix (by (try simp only [List.length_append,List.length_cons,List.length_nil,List.length_set,List.length_replicate,bs_size]); omega) (by (try simp only [List.length_append,List.length_cons,List.length_nil,List.length_set,List.length_replicate,bs_size]); omega) (fun x20 h55=>?_)
        have z56:szGAbility x20:=z6 x20 h55
        have z57:szGFilter (x20.filter):=(z56).1
        have z58:x20.filter.sub.size≤1048576:=((z56).1)
        have z59:x20.mods.length≤1048576:=((z56).2.1).1
        have z60:∀ y∈x20.mods,szGMod y:=((z56).2.1).2
        have z61:szGTrigger (x20.trigger):=(z56).2.2.1
        have z62:szGFilter (x20.trigger.filter):=((z56).2.2.1)
        have z63:x20.trigger.filter.sub.size≤1048576:=(((z56).2.2.1))
        have z64:x20.specs.length≤1048576:=((z56).2.2.2.1).1
        have z65:∀ y∈x20.specs,szGSpec y:=((z56).2.2.2.1).2
        have z66:x20.effects.length≤1048576:=((z56).2.2.2.2.1).1
        have z67:∀ y∈x20.effects,szGEffect y:=((z56).2.2.2.2.1).2
        have z68:szGReplace (x20.replace):=(z56).2.2.2.2.2
        have z69:szGFilter (x20.replace.filter):=((z56).2.2.2.2.2)
        have z70:x20.replace.filter.sub.size≤1048576:=(((z56).2.2.2.2.2))
        refine ok_brd (fun h71=>?_) (fun h71=>?_)
        ·skip
         exact hk35 _ trivial
        ·skip
         exact hk35 _ trivial
      ·skip
       have h72:addI s12.2 1=s12.2+1:=addI_eq (by omega) (by omega)
       exact hk33 _ ⟨(by (try simp only [List.length_append,List.length_cons,List.length_nil,List.length_set,List.length_replicate,bs_size]); omega),(by (try simp only [List.length_append,List.length_cons,List.length_nil,List.length_set,List.length_replicate,bs_size]); omega)⟩ (by (try simp only [List.length_append,List.length_cons,List.length_nil,List.length_set,List.length_replicate,bs_size]); omega)
     ·(try simp only [lenI] at h34)
      refine ok_bnd (tot_r21_fast _ (by first | assumption | (refine ⟨by omega,?_⟩; first | (intro _ _; trivial) | assumption) | (unfold szGCard; simp_all [szB,szL]))) (fun y21 h73=>?_)
      refine ok_br (fun h74=>?_) (fun h74=>?_)
      ·skip
       refine ok_jn (fun (s22:Bool)=>True) (fun k23 hk75=>?_) (fun s22 hs76=>?_)
       ·skip
        refine ok_br (fun h77=>?_) (fun h77=>?_)
        ·skip
         refine ok_brd (fun h78=>?_) (fun h78=>?_)
         ·skip
          refine ok_brd (fun h79=>?_) (fun h79=>?_)
          ·(try simp only [lenI] at h79)
           exact hk75 _ trivial
          ·(try simp only [lenI] at h79)
           exact hk75 _ trivial
         ·skip
          exact hk75 _ trivial
        ·skip
         exact hk75 _ trivial
       ·skip
        exact ok_some trivial
      ·skip
       refine ok_brd (fun h80=>?_) (fun h80=>?_)
       ·skip
        refine ok_br (fun h81=>?_) (fun h81=>?_)
        ·skip
         refine ok_brd (fun h82=>?_) (fun h82=>?_)
         ·skip
          exact ok_some trivial
         ·skip
          refine ok_lte (fun v25 h83=>?_)
          exact ok_some trivial
        ·skip
         refine ok_lte (fun v26 h84=>?_)
         exact ok_some trivial
       ·skip
        exact ok_some trivial
theorem tot_r22_Find (l:List GCard) (name:ByteArray) (zz_l:(szL szGCard) l) (zz_name:szB name):Ok (fun r=>True) (r22_Find l name):=by
 unfold r22_Find
 have z1:l.length≤1048576:=(zz_l).1
 have z2:∀ y∈l,szGCard y:=(zz_l).2
 have z3:name.size≤1048576:=zz_name
 refine ok_loop (fun (s1:Int)=>0≤s1∧s1≤(l.length:Int)) (fun (s1:Int)=>((l.length:Int) - s1).toNat) ⟨(by (try simp only [List.length_append,List.length_cons,List.length_nil,List.length_set,List.length_replicate,bs_size]); omega),(by (try simp only [List.length_append,List.length_cons,List.length_nil,List.length_set,List.length_replicate,bs_size]); omega)⟩ (by show _<18446744073709551616; (try simp only [List.length_append,List.length_cons,List.length_nil]); omega) (fun s1 k2 hI4 hk5=>?_)
 obtain ⟨hI4_0,hI4_1⟩:=hI4
 unfold r22_Find_l1
 refine ok_brd (fun h6=>?_) (fun h6=>?_)
 ·(try simp only [lenI] at h6)
  refine ok_ix (by (try simp only [List.length_append,List.length_cons,List.length_nil,List.length_set,List.length_replicate,bs_size]); omega) (by (try simp only [List.length_append,List.length_cons,List.length_nil,List.length_set,List.length_replicate,bs_size]); omega) (fun x4 h7=>?_)
  have z8:szGCard x4:=z2 x4 h7
  have z9:x4.name.size≤1048576:=(z8).1
  have z10:szGLine (x4.line):=(z8).2.1
  have z11:x4.line.subs.length≤1048576:=(((z8).2.1)).1
  have z12:∀ y∈x4.line.subs,szB y:=(((z8).2.1)).2
  have z13:x4.abilities.length≤1048576:=((z8).2.2).1
  have z14:∀ y∈x4.abilities,szGAbility y:=((z8).2.2).2
  refine ok_br (fun h15=>?_) (fun h15=>?_)
  ·skip
   exact ok_some trivial
  ·skip
   have h16:addI s1 1=s1+1:=addI_eq (by omega) (by omega)
   exact hk5 _ ⟨(by (try simp only [List.length_append,List.length_cons,List.length_nil,List.length_set,List.length_replicate,bs_size]); omega),(by (try simp only [List.length_append,List.length_cons,List.length_nil,List.length_set,List.length_replicate,bs_size]); omega)⟩ (by (try simp only [List.length_append,List.length_cons,List.length_nil,List.length_set,List.length_replicate,bs_size]); omega)
 ·(try simp only [lenI] at h6)
  exact ok_some trivial
theorem tot_r22_token (l:List GCard) (name:ByteArray) (zz_l:(szL szGCard) l) (zz_name:szB name):Ok (fun r=>True) (r22_token l name):=by
 unfold r22_token
 have z1:l.length≤1048576:=(zz_l).1
 have z2:∀ y∈l,szGCard y:=(zz_l).2
 have z3:name.size≤1048576:=zz_name
 refine ok_loop (fun (s1:Int)=>0≤s1∧s1≤(l.length:Int)) (fun (s1:Int)=>((l.length:Int) - s1).toNat) ⟨(by (try simp only [List.length_append,List.length_cons,List.length_nil,List.length_set,List.length_replicate,bs_size]); omega),(by (try simp only [List.length_append,List.length_cons,List.length_nil,List.length_set,List.length_replicate,bs_size]); omega)⟩ (by show _<18446744073709551616; (try simp only [List.length_append,List.length_cons,List.length_nil]); omega) (fun s1 k2 hI4 hk5=>?_)
 obtain ⟨hI4_0,hI4_1⟩:=hI4
 unfold r22_token_l1
 refine ok_brd (fun h6=>?_) (fun h6=>?_)
 ·(try simp only [lenI] at h6)
  refine ok_jn (fun (s4:Bool)=>True) (fun k5 hk7=>?_) (fun s4 hs8=>?_)
  ·skip
   refine ok_ix (by (try simp only [List.length_append,List.length_cons,List.length_nil,List.length_set,List.length_replicate,bs_size]); omega) (by (try simp only [List.length_append,List.length_cons,List.length_nil,List.length_set,List.length_replicate,bs_size]); omega) (fun x7 h9=>?_)
   have z10:szGCard x7:=z2 x7 h9
   have z11:x7.name.size≤1048576:=(z10).1
   have z12:szGLine (x7.line):=(z10).2.1
   have z13:x7.line.subs.length≤1048576:=(((z10).2.1)).1
   have z14:∀ y∈x7.line.subs,szB y:=(((z10).2.1)).2
   have z15:x7.abilities.length≤1048576:=((z10).2.2).1
   have z16:∀ y∈x7.abilities,szGAbility y:=((z10).2.2).2
   refine ok_br (fun h17=>?_) (fun h17=>?_)
   ·skip
    refine ok_ix (by (try simp only [List.length_append,List.length_cons,List.length_nil,List.length_set,List.length_replicate,bs_size]); omega) (by (try simp only [List.length_append,List.length_cons,List.length_nil,List.length_set,List.length_replicate,bs_size]); omega) (fun x8 h18=>?_)
    have z19:szGCard x8:=z2 x8 h18
    have z20:x8.name.size≤1048576:=(z19).1
    have z21:szGLine (x8.line):=(z19).2.1
    have z22:x8.line.subs.length≤1048576:=(((z19).2.1)).1
    have z23:∀ y∈x8.line.subs,szB y:=(((z19).2.1)).2
    have z24:x8.abilities.length≤1048576:=((z19).2.2).1
    have z25:∀ y∈x8.abilities,szGAbility y:=((z19).2.2).2
    exact hk7 _ trivial
   ·skip
    exact hk7 _ trivial
  ·skip
   refine ok_br (fun h26=>?_) (fun h26=>?_)
   ·skip
    exact ok_some trivial
   ·skip
    have h27:addI s1 1=s1+1:=addI_eq (by omega) (by omega)
    exact hk5 _ ⟨(by (try simp only [List.length_append,List.length_cons,List.length_nil,List.length_set,List.length_replicate,bs_size]); omega),(by (try simp only [List.length_append,List.length_cons,List.length_nil,List.length_set,List.length_replicate,bs_size]); omega)⟩ (by (try simp only [List.length_append,List.length_cons,List.length_nil,List.length_set,List.length_replicate,bs_size]); omega)
 ·(try simp only [lenI] at h6)
  exact ok_some trivial
theorem tot_r22_creates (l:List GCard) (c:GCard) (zz_l:(szL szGCard) l) (zz_c:szGCard c):Ok (fun r=>True) (r22_creates l c):=by
 have za:(szL szGAbility) c.abilities:=zz_c.2.2
 have hla:=za.1
 unfold r22_creates
 refine ok_for1 0 c.abilities.length (fun _=>True) 0 rfl (Nat.zero_le _) (by omega) trivial ?_ ?_
 ·intro i k hi _ hk
  unfold r22_creates_l2
  refine ok_brd (fun _=>?_) fun h=>absurd (show (i:Int)<(c.abilities.length:Int) by omega) h
  have zx:szGAbility c.abilities[i]:=za.2 _ (List.getElem_mem hi)
  have ze:(szL szGEffect) (c.abilities[i]).effects:=zx.2.2.2.2.1
  have hle:=ze.1
  refine ok_for1 0 (c.abilities[i]).effects.length (fun _=>True) 0 rfl (Nat.zero_le _) (by omega) trivial ?_ ?_
  ·intro j k5 hj _ hk5
   unfold r22_creates_l1
   refine ok_ixL i rfl hi (ok_brd (fun _=>ok_ixL i rfl hi (ok_ixL j rfl hj (ok_jn (fun _=>True) ?_ ?_))) fun h=>absurd (show (j:Int)<((c.abilities[i]).effects.length:Int) by omega) h)
   ·intro k11 h11
    exact ok_brd (fun _=>ok_bnd (tot_r22_token _ _ zz_l (by have z:=ze.2 _ (List.getElem_mem hj); exact z.2.2.1)) fun _ _=>h11 _ trivial) fun _=>h11 _ trivial
   ·intro s _
    exact ok_br (fun _=>ok_some trivial) fun _=>hk5 trivial
  ·intro k5 _
   unfold r22_creates_l1
   exact ok_ixL i rfl hi (ok_brd (fun h=>absurd h (by show ¬ ((c.abilities[i]).effects.length:Int)<((c.abilities[i]).effects.length:Int); omega)) fun _=>hk trivial)
 ·intro k _
  unfold r22_creates_l2
  exact ok_brd (fun h=>absurd h (by show ¬ (c.abilities.length:Int)<(c.abilities.length:Int); omega)) fun _=>ok_some trivial
theorem tot_r22_Check (l:List GCard) (zz_l:(szL szGCard) l):Ok (fun r=>True) (r22_Check l):=by
 unfold r22_Check
 have z1:l.length≤1048576:=(zz_l).1
 have z2:∀ y∈l,szGCard y:=(zz_l).2
 refine ok_brd (fun h3=>?_) (fun h3=>?_)
 ·(try simp only [lenI] at h3)
  exact ok_some trivial
 ·(try simp only [lenI] at h3)
  refine ok_loop (fun (s1:Int)=>0≤s1∧s1≤(l.length:Int)) (fun (s1:Int)=>((l.length:Int) - s1).toNat) ⟨(by (try simp only [List.length_append,List.length_cons,List.length_nil,List.length_set,List.length_replicate,bs_size]); omega),(by (try simp only [List.length_append,List.length_cons,List.length_nil,List.length_set,List.length_replicate,bs_size]); omega)⟩ (by show _<18446744073709551616; (try simp only [List.length_append,List.length_cons,List.length_nil]); omega) (fun s1 k2 hI4 hk5=>?_)
  obtain ⟨hI4_0,hI4_1⟩:=hI4
  unfold r22_Check_l1
  refine ok_brd (fun h6=>?_) (fun h6=>?_)
  ·(try simp only [lenI] at h6)
   refine ok_ix (by (try simp only [List.length_append,List.length_cons,List.length_nil,List.length_set,List.length_replicate,bs_size]); omega) (by (try simp only [List.length_append,List.length_cons,List.length_nil,List.length_set,List.length_replicate,bs_size]); omega) (fun x4 h7=>?_)
   have z8:szGCard x4:=z2 x4 h7
   have z9:x4.name.size≤1048576:=(z8).1
   have z10:szGLine (x4.line):=(z8).2.1
   have z11:x4.line.subs.length≤1048576:=(((z8).2.1)).1
   have z12:∀ y∈x4.line.subs,szB y:=(((z8).2.1)).2
   have z13:x4.abilities.length≤1048576:=((z8).2.2).1
   have z14:∀ y∈x4.abilities,szGAbility y:=((z8).2.2).2
   refine ok_bnd (tot_r21_Is _ (by first | assumption | (refine ⟨by omega,?_⟩; first | (intro _ _; trivial) | assumption) | (unfold szGCard; simp_all [szB,szL]))) (fun y5 h15=>?_)
   refine ok_br (fun h16=>?_) (fun h16=>?_)
   ·skip
    exact ok_some trivial
   ·skip
    refine ok_ix (by (try simp only [List.length_append,List.length_cons,List.length_nil,List.length_set,List.length_replicate,bs_size]); omega) (by (try simp only [List.length_append,List.length_cons,List.length_nil,List.length_set,List.length_replicate,bs_size]); omega) (fun x6 h17=>?_)
    have z18:szGCard x6:=z2 x6 h17
    have z19:x6.name.size≤1048576:=(z18).1
    have z20:szGLine (x6.line):=(z18).2.1
    have z21:x6.line.subs.length≤1048576:=(((z18).2.1)).1
    have z22:∀ y∈x6.line.subs,szB y:=(((z18).2.1)).2
    have z23:x6.abilities.length≤1048576:=((z18).2.2).1
    have z24:∀ y∈x6.abilities,szGAbility y:=((z18).2.2).2
    refine ok_bnd (tot_r22_Find _ _ (by first | assumption | (refine ⟨by omega,?_⟩; first | (intro _ _; trivial) | assumption)) (by first | assumption | (show _≤1048576; (try simp only [bs_size,List.length_cons,List.length_nil]); omega))) (fun y7 h25=>?_)
    refine ok_brd (fun h26=>?_) (fun h26=>?_)
    ·skip
     exact ok_some trivial
    ·skip
     refine ok_ix (by (try simp only [List.length_append,List.length_cons,List.length_nil,List.length_set,List.length_replicate,bs_size]); omega) (by (try simp only [List.length_append,List.length_cons,List.length_nil,List.length_set,List.length_replicate,bs_size]); omega) (fun x8 h27=>?_)
     have z28:szGCard x8:=z2 x8 h27
     have z29:x8.name.size≤1048576:=(z28).1
     have z30:szGLine (x8.line):=(z28).2.1
     have z31:x8.line.subs.length≤1048576:=(((z28).2.1)).1
     have z32:∀ y∈x8.line.subs,szB y:=(((z28).2.1)).2
     have z33:x8.abilities.length≤1048576:=((z28).2.2).1
     have z34:∀ y∈x8.abilities,szGAbility y:=((z28).2.2).2
     refine ok_bnd (tot_r22_creates _ _ (by first | assumption | (refine ⟨by omega,?_⟩; first | (intro _ _; trivial) | assumption)) (by first | assumption | (refine ⟨by omega,?_⟩; first | (intro _ _; trivial) | assumption) | (unfold szGCard; simp_all [szB,szL]))) (fun y9 h35=>?_)
     refine ok_br (fun h36=>?_) (fun h36=>?_)
     ·skip
      exact ok_some trivial
     ·skip
      have h37:addI s1 1=s1+1:=addI_eq (by omega) (by omega)
      exact hk5 _ ⟨(by (try simp only [List.length_append,List.length_cons,List.length_nil,List.length_set,List.length_replicate,bs_size]); omega),(by (try simp only [List.length_append,List.length_cons,List.length_nil,List.length_set,List.length_replicate,bs_size]); omega)⟩ (by (try simp only [List.length_append,List.length_cons,List.length_nil,List.length_set,List.length_replicate,bs_size]); omega)
  ·(try simp only [lenI] at h6)
   exact ok_some trivial
theorem tot_r08_Whole (p:Arr6 Int)  : Ok (fun r=>True) (r08_Whole p):=by
 unfold r08_Whole
 refine ok_loop (fun (s1:Int)=>0≤s1∧s1≤6) (fun (s1:Int)=>(6 - s1).toNat) ⟨(by (try simp only [List.length_append,List.length_cons,List.length_nil,List.length_set,List.length_replicate,bs_size]); omega),(by (try simp only [List.length_append,List.length_cons,List.length_nil,List.length_set,List.length_replicate,bs_size]); omega)⟩ (by show _<18446744073709551616; (try simp only [List.length_append,List.length_cons,List.length_nil]); omega) (fun s1 k2 hI1 hk2=>?_)
 obtain ⟨hI1_0,hI1_1⟩:=hI1
 unfold r08_Whole_l1
 refine ok_brd (fun h3=>?_) (fun h3=>?_)
 ·skip
  refine ok_jn (fun (s4:Bool)=>True) (fun k5 hk4=>?_) (fun s4 hs5=>?_)
  ·skip
   refine ok_sel (by (try simp only [List.length_append,List.length_cons,List.length_nil,List.length_set,List.length_replicate,bs_size]); omega) (by (try simp only [List.length_append,List.length_cons,List.length_nil,List.length_set,List.length_replicate,bs_size]); omega) (fun j7 h6=>?_)
   split
   ·skip
    refine ok_brd (fun h7=>?_) (fun h7=>?_)
    ·skip
     exact hk4 _ trivial
    ·skip
     refine ok_sel (by (try simp only [List.length_append,List.length_cons,List.length_nil,List.length_set,List.length_replicate,bs_size]); omega) (by (try simp only [List.length_append,List.length_cons,List.length_nil,List.length_set,List.length_replicate,bs_size]); omega) (fun j8 h8=>?_)
     split
     ·skip
      exact hk4 _ trivial
     ·skip
      exact hk4 _ trivial
     ·skip
      exact hk4 _ trivial
     ·skip
      exact hk4 _ trivial
     ·skip
      exact hk4 _ trivial
     ·skip
      exact hk4 _ trivial
   ·skip
    refine ok_brd (fun h9=>?_) (fun h9=>?_)
    ·skip
     exact hk4 _ trivial
    ·skip
     refine ok_sel (by (try simp only [List.length_append,List.length_cons,List.length_nil,List.length_set,List.length_replicate,bs_size]); omega) (by (try simp only [List.length_append,List.length_cons,List.length_nil,List.length_set,List.length_replicate,bs_size]); omega) (fun j9 h10=>?_)
     split
     ·skip
      exact hk4 _ trivial
     ·skip
      exact hk4 _ trivial
     ·skip
      exact hk4 _ trivial
     ·skip
      exact hk4 _ trivial
     ·skip
      exact hk4 _ trivial
     ·skip
      exact hk4 _ trivial
   ·skip
    refine ok_brd (fun h11=>?_) (fun h11=>?_)
    ·skip
     exact hk4 _ trivial
    ·skip
     refine ok_sel (by (try simp only [List.length_append,List.length_cons,List.length_nil,List.length_set,List.length_replicate,bs_size]); omega) (by (try simp only [List.length_append,List.length_cons,List.length_nil,List.length_set,List.length_replicate,bs_size]); omega) (fun j10 h12=>?_)
     split
     ·skip
      exact hk4 _ trivial
     ·skip
      exact hk4 _ trivial
     ·skip
      exact hk4 _ trivial
     ·skip
      exact hk4 _ trivial
     ·skip
      exact hk4 _ trivial
     ·skip
      exact hk4 _ trivial
   ·skip
    refine ok_brd (fun h13=>?_) (fun h13=>?_)
    ·skip
     exact hk4 _ trivial
    ·skip
     refine ok_sel (by (try simp only [List.length_append,List.length_cons,List.length_nil,List.length_set,List.length_replicate,bs_size]); omega) (by (try simp only [List.length_append,List.length_cons,List.length_nil,List.length_set,List.length_replicate,bs_size]); omega) (fun j11 h14=>?_)
     split
     ·skip
      exact hk4 _ trivial
     ·skip
      exact hk4 _ trivial
     ·skip
      exact hk4 _ trivial
     ·skip
      exact hk4 _ trivial
     ·skip
      exact hk4 _ trivial
     ·skip
      exact hk4 _ trivial
   ·skip
    refine ok_brd (fun h15=>?_) (fun h15=>?_)
    ·skip
     exact hk4 _ trivial
    ·skip
     refine ok_sel (by (try simp only [List.length_append,List.length_cons,List.length_nil,List.length_set,List.length_replicate,bs_size]); omega) (by (try simp only [List.length_append,List.length_cons,List.length_nil,List.length_set,List.length_replicate,bs_size]); omega) (fun j12 h16=>?_)
     split
     ·skip
      exact hk4 _ trivial
     ·skip
      exact hk4 _ trivial
     ·skip
      exact hk4 _ trivial
     ·skip
      exact hk4 _ trivial
     ·skip
      exact hk4 _ trivial
     ·skip
      exact hk4 _ trivial
   ·skip
    refine ok_brd (fun h17=>?_) (fun h17=>?_)
    ·skip
     exact hk4 _ trivial
    ·skip
     refine ok_sel (by (try simp only [List.length_append,List.length_cons,List.length_nil,List.length_set,List.length_replicate,bs_size]); omega) (by (try simp only [List.length_append,List.length_cons,List.length_nil,List.length_set,List.length_replicate,bs_size]); omega) (fun j13 h18=>?_)
     split
     ·skip
      exact hk4 _ trivial
     ·skip
      exact hk4 _ trivial
     ·skip
      exact hk4 _ trivial
     ·skip
      exact hk4 _ trivial
     ·skip
      exact hk4 _ trivial
     ·skip
      exact hk4 _ trivial
  ·skip
   refine ok_br (fun h19=>?_) (fun h19=>?_)
   ·skip
    exact ok_some trivial
   ·skip
    have h20:addI s1 1=s1+1:=addI_eq (by omega) (by omega)
    exact hk2 _ ⟨(by (try simp only [List.length_append,List.length_cons,List.length_nil,List.length_set,List.length_replicate,bs_size]); omega),(by (try simp only [List.length_append,List.length_cons,List.length_nil,List.length_set,List.length_replicate,bs_size]); omega)⟩ (by (try simp only [List.length_append,List.length_cons,List.length_nil,List.length_set,List.length_replicate,bs_size]); omega)
 ·skip
  exact ok_some trivial
theorem tot_r25_place (s:GState) (id:Int) (zz_s:szGState s):Ok (fun r=>-1≤r∧r<(s.objects.length:Int)) (r25_place s id):=by
 unfold r25_place
 have z1:s.players.length≤1048576:=((zz_s).1).1
 have z2:∀ y∈s.players,szGPlayer y:=((zz_s).1).2
 have z3:s.objects.length≤1048576:=((zz_s).2.1).1
 have z4:s.battlefield.length≤1048576:=((zz_s).2.2.1).1
 have z5:s.exile.length≤1048576:=((zz_s).2.2.2.1).1
 have z6:s.stack.length≤1048576:=((zz_s).2.2.2.2.1).1
 have z7:∀ y∈s.stack,szGItem y:=((zz_s).2.2.2.2.1).2
 have z8:s.waiting.length≤1048576:=((zz_s).2.2.2.2.2.1).1
 have z9:∀ y∈s.waiting,szGWaiting y:=((zz_s).2.2.2.2.2.1).2
 have z10:s.conts.length≤1048576:=((zz_s).2.2.2.2.2.2.1).1
 have z11:∀ y∈s.conts,szGCont y:=((zz_s).2.2.2.2.2.2.1).2
 have z12:s.extra.length≤1048576:=((zz_s).2.2.2.2.2.2.2).1
 refine ok_loop (fun (s1:Int)=>0≤s1∧s1≤(s.objects.length:Int)) (fun (s1:Int)=>((s.objects.length:Int) - s1).toNat) ⟨(by (try simp only [List.length_append,List.length_cons,List.length_nil,List.length_set,List.length_replicate,bs_size]); omega),(by (try simp only [List.length_append,List.length_cons,List.length_nil,List.length_set,List.length_replicate,bs_size]); omega)⟩ (by show _<18446744073709551616; (try simp only [List.length_append,List.length_cons,List.length_nil]); omega) (fun s1 k2 hI13 hk14=>?_)
 obtain ⟨hI13_0,hI13_1⟩:=hI13
 unfold r25_place_l1
 refine ok_brd (fun h15=>?_) (fun h15=>?_)
 ·(try simp only [lenI] at h15)
  refine ok_ix (by (try simp only [List.length_append,List.length_cons,List.length_nil,List.length_set,List.length_replicate,bs_size]); omega) (by (try simp only [List.length_append,List.length_cons,List.length_nil,List.length_set,List.length_replicate,bs_size]); omega) (fun x4 h16=>?_)
  refine ok_brd (fun h17=>?_) (fun h17=>?_)
  ·skip
   exact ok_some (by omega)
  ·skip
   have h18:addI s1 1=s1+1:=addI_eq (by omega) (by omega)
   exact hk14 _ ⟨(by (try simp only [List.length_append,List.length_cons,List.length_nil,List.length_set,List.length_replicate,bs_size]); omega),(by (try simp only [List.length_append,List.length_cons,List.length_nil,List.length_set,List.length_replicate,bs_size]); omega)⟩ (by (try simp only [List.length_append,List.length_cons,List.length_nil,List.length_set,List.length_replicate,bs_size]); omega)
 ·(try simp only [lenI] at h15)
  exact ok_some (by omega)
theorem tot_r25_Find (s:GState) (id:Int) (zz_s:szGState s):Ok (fun r=>True) (r25_Find s id):=by
 unfold r25_Find
 have z1:s.players.length≤1048576:=((zz_s).1).1
 have z2:∀ y∈s.players,szGPlayer y:=((zz_s).1).2
 have z3:s.objects.length≤1048576:=((zz_s).2.1).1
 have z4:s.battlefield.length≤1048576:=((zz_s).2.2.1).1
 have z5:s.exile.length≤1048576:=((zz_s).2.2.2.1).1
 have z6:s.stack.length≤1048576:=((zz_s).2.2.2.2.1).1
 have z7:∀ y∈s.stack,szGItem y:=((zz_s).2.2.2.2.1).2
 have z8:s.waiting.length≤1048576:=((zz_s).2.2.2.2.2.1).1
 have z9:∀ y∈s.waiting,szGWaiting y:=((zz_s).2.2.2.2.2.1).2
 have z10:s.conts.length≤1048576:=((zz_s).2.2.2.2.2.2.1).1
 have z11:∀ y∈s.conts,szGCont y:=((zz_s).2.2.2.2.2.2.1).2
 have z12:s.extra.length≤1048576:=((zz_s).2.2.2.2.2.2.2).1
 refine ok_bnd (tot_r25_place _ _ (by first | assumption | (refine ⟨by omega,?_⟩; first | (intro _ _; trivial) | assumption) | (unfold szGState; simp_all [szB,szL]))) (fun y1 h13=>?_)
 refine ok_brd (fun h14=>?_) (fun h14=>?_)
 ·skip
  exact ok_some trivial
 ·skip
  refine ok_ix (by (try simp only [List.length_append,List.length_cons,List.length_nil,List.length_set,List.length_replicate,bs_size]); omega) (by (try simp only [List.length_append,List.length_cons,List.length_nil,List.length_set,List.length_replicate,bs_size]); omega) (fun x2 h15=>?_)
  exact ok_some trivial
theorem tot_r26_object (s:GState) (id:Int) (zz_s:szGState s):Ok (fun r=>True) (r26_object s id):=by
 unfold r26_object
 have z1:s.players.length≤1048576:=((zz_s).1).1
 have z2:∀ y∈s.players,szGPlayer y:=((zz_s).1).2
 have z3:s.objects.length≤1048576:=((zz_s).2.1).1
 have z4:s.battlefield.length≤1048576:=((zz_s).2.2.1).1
 have z5:s.exile.length≤1048576:=((zz_s).2.2.2.1).1
 have z6:s.stack.length≤1048576:=((zz_s).2.2.2.2.1).1
 have z7:∀ y∈s.stack,szGItem y:=((zz_s).2.2.2.2.1).2
 have z8:s.waiting.length≤1048576:=((zz_s).2.2.2.2.2.1).1
 have z9:∀ y∈s.waiting,szGWaiting y:=((zz_s).2.2.2.2.2.1).2
 have z10:s.conts.length≤1048576:=((zz_s).2.2.2.2.2.2.1).1
 have z11:∀ y∈s.conts,szGCont y:=((zz_s).2.2.2.2.2.2.1).2
 have z12:s.extra.length≤1048576:=((zz_s).2.2.2.2.2.2.2).1
 refine ok_bnd (tot_r25_Find _ _ (by first | assumption | (refine ⟨by omega,?_⟩; first | (intro _ _; trivial) | assumption) | (unfold szGState; simp_all [szB,szL]))) (fun y1 h13=>?_)
 exact ok_some trivial
theorem tot_r26_times (l:List Int) (n:Int) (zz_l:(szL (fun (_:Int)=>True)) l):Ok (fun r=>True) (r26_times l n):=by
 unfold r26_times
 have z1:l.length≤1048576:=(zz_l).1
 refine ok_loop (fun (s1:Int × Int)=>0≤s1.2∧s1.2≤(l.length:Int)) (fun (s1:Int × Int)=>((l.length:Int) - s1.2).toNat) ⟨(by (try simp only [List.length_append,List.length_cons,List.length_nil,List.length_set,List.length_replicate,bs_size]); omega),(by (try simp only [List.length_append,List.length_cons,List.length_nil,List.length_set,List.length_replicate,bs_size]); omega)⟩ (by show _<18446744073709551616; (try simp only [List.length_append,List.length_cons,List.length_nil]); omega) (fun s1 k2 hI2 hk3=>?_)
 obtain ⟨hI2_0,hI2_1⟩:=hI2
 unfold r26_times_l1
 refine ok_brd (fun h4=>?_) (fun h4=>?_)
 ·(try simp only [lenI] at h4)
  refine ok_jn (fun (s4:Int)=>True) (fun k5 hk5=>?_) (fun s4 hs6=>?_)
  ·skip
   refine ok_ix (by (try simp only [List.length_append,List.length_cons,List.length_nil,List.length_set,List.length_replicate,bs_size]); omega) (by (try simp only [List.length_append,List.length_cons,List.length_nil,List.length_set,List.length_replicate,bs_size]); omega) (fun x7 h7=>?_)
   refine ok_brd (fun h8=>?_) (fun h8=>?_)
   ·skip
    exact hk5 _ trivial
   ·skip
    exact hk5 _ trivial
  ·skip
   have h9:addI s1.2 1=s1.2+1:=addI_eq (by omega) (by omega)
   exact hk3 _ ⟨(by (try simp only [List.length_append,List.length_cons,List.length_nil,List.length_set,List.length_replicate,bs_size]); omega),(by (try simp only [List.length_append,List.length_cons,List.length_nil,List.length_set,List.length_replicate,bs_size]); omega)⟩ (by (try simp only [List.length_append,List.length_cons,List.length_nil,List.length_set,List.length_replicate,bs_size]); omega)
 ·(try simp only [lenI] at h4)
  exact ok_some trivial
theorem tot_r26_list (s:GState) (l:List Int) (zone:Int) (owner:Int) (zz_s:szGState s) (zz_l:(szL (fun (_:Int)=>True)) l):Ok (fun r=>True) (r26_list s l zone owner):=by
 unfold r26_list
 have z1:s.players.length≤1048576:=((zz_s).1).1
 have z2:∀ y∈s.players,szGPlayer y:=((zz_s).1).2
 have z3:s.objects.length≤1048576:=((zz_s).2.1).1
 have z4:s.battlefield.length≤1048576:=((zz_s).2.2.1).1
 have z5:s.exile.length≤1048576:=((zz_s).2.2.2.1).1
 have z6:s.stack.length≤1048576:=((zz_s).2.2.2.2.1).1
 have z7:∀ y∈s.stack,szGItem y:=((zz_s).2.2.2.2.1).2
 have z8:s.waiting.length≤1048576:=((zz_s).2.2.2.2.2.1).1
 have z9:∀ y∈s.waiting,szGWaiting y:=((zz_s).2.2.2.2.2.1).2
 have z10:s.conts.length≤1048576:=((zz_s).2.2.2.2.2.2.1).1
 have z11:∀ y∈s.conts,szGCont y:=((zz_s).2.2.2.2.2.2.1).2
 have z12:s.extra.length≤1048576:=((zz_s).2.2.2.2.2.2.2).1
 have z13:l.length≤1048576:=(zz_l).1
 refine ok_loop (fun (s1:Int)=>0≤s1∧s1≤(l.length:Int)) (fun (s1:Int)=>((l.length:Int) - s1).toNat) ⟨(by (try simp only [List.length_append,List.length_cons,List.length_nil,List.length_set,List.length_replicate,bs_size]); omega),(by (try simp only [List.length_append,List.length_cons,List.length_nil,List.length_set,List.length_replicate,bs_size]); omega)⟩ (by show _<18446744073709551616; (try simp only [List.length_append,List.length_cons,List.length_nil]); omega) (fun s1 k2 hI14 hk15=>?_)
 obtain ⟨hI14_0,hI14_1⟩:=hI14
 unfold r26_list_l1
 refine ok_brd (fun h16=>?_) (fun h16=>?_)
 ·(try simp only [lenI] at h16)
  refine ok_ix (by (try simp only [List.length_append,List.length_cons,List.length_nil,List.length_set,List.length_replicate,bs_size]); omega) (by (try simp only [List.length_append,List.length_cons,List.length_nil,List.length_set,List.length_replicate,bs_size]); omega) (fun x4 h17=>?_)
  refine ok_bnd (tot_r26_object _ _ (by first | assumption | (refine ⟨by omega,?_⟩; first | (intro _ _; trivial) | assumption) | (unfold szGState; simp_all [szB,szL]))) (fun y5 h18=>?_)
  refine ok_jn (fun (s6:Bool)=>s6=false→y5.1.zone=zone) (fun k7 hk19=>?_) (fun s6 hs20=>?_)
  ·skip
   refine ok_br (fun h21=>?_) (fun h21=>?_)
   ·skip
    exact hk19 _ (by intro hh; first | (cases hh; done) | omega | (have hh2:=of_decide_eq_false hh; (try simp only [lenI] at hh2); omega) | (simp at hh; (try simp only [lenI] at hh); omega))
   ·skip
    refine ok_brn (fun h22=>?_) (fun h22=>?_)
    ·skip
     exact hk19 _ (by intro hh; first | (cases hh; done) | omega | (have hh2:=of_decide_eq_false hh; (try simp only [lenI] at hh2); omega) | (simp at hh; (try simp only [lenI] at hh); omega))
    ·skip
     refine ok_brd (fun h23=>?_) (fun h23=>?_)
     ·skip
      refine ok_brn (fun h24=>?_) (fun h24=>?_)
      ·skip
       exact hk19 _ (by intro hh; first | (cases hh; done) | omega | (have hh2:=of_decide_eq_false hh; (try simp only [lenI] at hh2); omega) | (simp at hh; (try simp only [lenI] at hh); omega))
      ·skip
       refine ok_ix (by (try simp only [List.length_append,List.length_cons,List.length_nil,List.length_set,List.length_replicate,bs_size]); omega) (by (try simp only [List.length_append,List.length_cons,List.length_nil,List.length_set,List.length_replicate,bs_size]); omega) (fun x9 h25=>?_)
       refine ok_bnd (tot_r26_times _ _ (by first | assumption | (refine ⟨by omega,?_⟩; first | (intro _ _; trivial) | assumption))) (fun y10 h26=>?_)
       exact hk19 _ (by intro hh; first | (cases hh; done) | omega | (have hh2:=of_decide_eq_false hh; (try simp only [lenI] at hh2); omega) | (simp at hh; (try simp only [lenI] at hh); omega))
     ·skip
      refine ok_ix (by (try simp only [List.length_append,List.length_cons,List.length_nil,List.length_set,List.length_replicate,bs_size]); omega) (by (try simp only [List.length_append,List.length_cons,List.length_nil,List.length_set,List.length_replicate,bs_size]); omega) (fun x11 h27=>?_)
      refine ok_bnd (tot_r26_times _ _ (by first | assumption | (refine ⟨by omega,?_⟩; first | (intro _ _; trivial) | assumption))) (fun y12 h28=>?_)
      exact hk19 _ (by intro hh; first | (cases hh; done) | omega | (have hh2:=of_decide_eq_false hh; (try simp only [lenI] at hh2); omega) | (simp at hh; (try simp only [lenI] at hh); omega))
  ·skip
   refine ok_br (fun h29=>?_) (fun h29=>?_)
   ·skip
    exact ok_some trivial
   ·skip
    have hf30:=hs20 h29
    have h31:addI s1 1=s1+1:=addI_eq (by omega) (by omega)
    exact hk15 _ ⟨(by (try simp only [List.length_append,List.length_cons,List.length_nil,List.length_set,List.length_replicate,bs_size]); omega),(by (try simp only [List.length_append,List.length_cons,List.length_nil,List.length_set,List.length_replicate,bs_size]); omega)⟩ (by (try simp only [List.length_append,List.length_cons,List.length_nil,List.length_set,List.length_replicate,bs_size]); omega)
 ·(try simp only [lenI] at h16)
  exact ok_some trivial
theorem tot_r26_players (s:GState) (zz_s:szGState s):Ok (fun r=>True) (r26_players s):=by
 unfold r26_players
 have z1:s.players.length≤1048576:=((zz_s).1).1
 have z2:∀ y∈s.players,szGPlayer y:=((zz_s).1).2
 have z3:s.objects.length≤1048576:=((zz_s).2.1).1
 have z4:s.battlefield.length≤1048576:=((zz_s).2.2.1).1
 have z5:s.exile.length≤1048576:=((zz_s).2.2.2.1).1
 have z6:s.stack.length≤1048576:=((zz_s).2.2.2.2.1).1
 have z7:∀ y∈s.stack,szGItem y:=((zz_s).2.2.2.2.1).2
 have z8:s.waiting.length≤1048576:=((zz_s).2.2.2.2.2.1).1
 have z9:∀ y∈s.waiting,szGWaiting y:=((zz_s).2.2.2.2.2.1).2
 have z10:s.conts.length≤1048576:=((zz_s).2.2.2.2.2.2.1).1
 have z11:∀ y∈s.conts,szGCont y:=((zz_s).2.2.2.2.2.2.1).2
 have z12:s.extra.length≤1048576:=((zz_s).2.2.2.2.2.2.2).1
 refine ok_bnd (tot_r26_in _ _ _ ) (fun y1 h13=>?_)
 refine ok_br (fun h14=>?_) (fun h14=>?_)
 ·skip
  exact ok_some trivial
 ·skip
  refine ok_loop (fun (s2:Int)=>0≤s2∧s2≤(s.players.length:Int)) (fun (s2:Int)=>((s.players.length:Int) - s2).toNat) ⟨(by (try simp only [List.length_append,List.length_cons,List.length_nil,List.length_set,List.length_replicate,bs_size]); omega),(by (try simp only [List.length_append,List.length_cons,List.length_nil,List.length_set,List.length_replicate,bs_size]); omega)⟩ (by show _<18446744073709551616; (try simp only [List.length_append,List.length_cons,List.length_nil]); omega) (fun s2 k3 hI15 hk16=>?_)
  obtain ⟨hI15_0,hI15_1⟩:=hI15
  unfold r26_players_l1
  refine ok_brd (fun h17=>?_) (fun h17=>?_)
  ·(try simp only [lenI] at h17)
   refine ok_ix (by (try simp only [List.length_append,List.length_cons,List.length_nil,List.length_set,List.length_replicate,bs_size]); omega) (by (try simp only [List.length_append,List.length_cons,List.length_nil,List.length_set,List.length_replicate,bs_size]); omega) (fun x5 h18=>?_)
   have z19:szGPlayer x5:=z2 x5 h18
   have z20:x5.library.length≤1048576:=((z19).1).1
   have z21:x5.hand.length≤1048576:=((z19).2.1).1
   have z22:x5.graveyard.length≤1048576:=((z19).2.2).1
   refine ok_jn (fun (s6:Bool)=>True) (fun k7 hk23=>?_) (fun s6 hs24=>?_)
   ·skip
    refine ok_bnd (tot_r26_in _ _ _ ) (fun y9 h25=>?_)
    refine ok_br (fun h26=>?_) (fun h26=>?_)
    ·skip
     exact hk23 _ trivial
    ·skip
     refine ok_bnd (tot_r26_in _ _ _ ) (fun y10 h27=>?_)
     refine ok_br (fun h28=>?_) (fun h28=>?_)
     ·skip
      exact hk23 _ trivial
     ·skip
      refine ok_bnd (tot_r26_in _ _ _ ) (fun y11 h29=>?_)
      refine ok_br (fun h30=>?_) (fun h30=>?_)
      ·skip
       exact hk23 _ trivial
      ·skip
       refine ok_bnd (tot_r08_Whole _ ) (fun y12 h31=>?_)
       exact hk23 _ trivial
   ·skip
    refine ok_br (fun h32=>?_) (fun h32=>?_)
    ·skip
     exact ok_some trivial
    ·skip
     refine ok_jn (fun (s13:Bool)=>True) (fun k14 hk33=>?_) (fun s13 hs34=>?_)
     ·skip
      refine ok_bnd (tot_r26_list _ _ _ _ (by first | assumption | (refine ⟨by omega,?_⟩; first | (intro _ _; trivial) | assumption) | (unfold szGState; simp_all [szB,szL])) (by first | assumption | (refine ⟨by omega,?_⟩; first | (intro _ _; trivial) | assumption))) (fun y16 h35=>?_)
      refine ok_br (fun h36=>?_) (fun h36=>?_)
      ·skip
       exact hk33 _ trivial
      ·skip
       refine ok_bnd (tot_r26_list _ _ _ _ (by first | assumption | (refine ⟨by omega,?_⟩; first | (intro _ _; trivial) | assumption) | (unfold szGState; simp_all [szB,szL])) (by first | assumption | (refine ⟨by omega,?_⟩; first | (intro _ _; trivial) | assumption))) (fun y17 h37=>?_)
       refine ok_br (fun h38=>?_) (fun h38=>?_)
       ·skip
        exact hk33 _ trivial
       ·skip
        refine ok_bnd (tot_r26_list _ _ _ _ (by first | assumption | (refine ⟨by omega,?_⟩; first | (intro _ _; trivial) | assumption) | (unfold szGState; simp_all [szB,szL])) (by first | assumption | (refine ⟨by omega,?_⟩; first | (intro _ _; trivial) | assumption))) (fun y18 h39=>?_)
        exact hk33 _ trivial
     ·skip
      refine ok_br (fun h40=>?_) (fun h40=>?_)
      ·skip
       exact ok_some trivial
      ·skip
       have h41:addI s2 1=s2+1:=addI_eq (by omega) (by omega)
       exact hk16 _ ⟨(by (try simp only [List.length_append,List.length_cons,List.length_nil,List.length_set,List.length_replicate,bs_size]); omega),(by (try simp only [List.length_append,List.length_cons,List.length_nil,List.length_set,List.length_replicate,bs_size]); omega)⟩ (by (try simp only [List.length_append,List.length_cons,List.length_nil,List.length_set,List.length_replicate,bs_size]); omega)
  ·(try simp only [lenI] at h17)
   refine ok_bnd (tot_r26_list _ _ _ _ (by first | assumption | (refine ⟨by omega,?_⟩; first | (intro _ _; trivial) | assumption) | (unfold szGState; simp_all [szB,szL])) (by first | assumption | (refine ⟨by omega,?_⟩; first | (intro _ _; trivial) | assumption))) (fun y19 h42=>?_)
   refine ok_br (fun h43=>?_) (fun h43=>?_)
   ·skip
    refine ok_bnd (tot_r26_list _ _ _ _ (by first | assumption | (refine ⟨by omega,?_⟩; first | (intro _ _; trivial) | assumption) | (unfold szGState; simp_all [szB,szL])) (by first | assumption | (refine ⟨by omega,?_⟩; first | (intro _ _; trivial) | assumption))) (fun y20 h44=>?_)
    exact ok_some trivial
   ·skip
    exact ok_some trivial
theorem tot_r12_Is (c:Arr3 Int)  : Ok (fun r=>True) (r12_Is c):=by
 unfold r12_Is
 refine ok_loop (fun (s1:Int)=>0≤s1∧s1≤3) (fun (s1:Int)=>(3 - s1).toNat) ⟨(by (try simp only [List.length_append,List.length_cons,List.length_nil,List.length_set,List.length_replicate,bs_size]); omega),(by (try simp only [List.length_append,List.length_cons,List.length_nil,List.length_set,List.length_replicate,bs_size]); omega)⟩ (by show _<18446744073709551616; (try simp only [List.length_append,List.length_cons,List.length_nil]); omega) (fun s1 k2 hI1 hk2=>?_)
 obtain ⟨hI1_0,hI1_1⟩:=hI1
 unfold r12_Is_l1
 refine ok_brd (fun h3=>?_) (fun h3=>?_)
 ·skip
  refine ok_jn (fun (s4:Bool)=>True) (fun k5 hk4=>?_) (fun s4 hs5=>?_)
  ·skip
   refine ok_sel (by (try simp only [List.length_append,List.length_cons,List.length_nil,List.length_set,List.length_replicate,bs_size]); omega) (by (try simp only [List.length_append,List.length_cons,List.length_nil,List.length_set,List.length_replicate,bs_size]); omega) (fun j7 h6=>?_)
   split
   ·skip
    refine ok_brd (fun h7=>?_) (fun h7=>?_)
    ·skip
     exact hk4 _ trivial
    ·skip
     refine ok_sel (by (try simp only [List.length_append,List.length_cons,List.length_nil,List.length_set,List.length_replicate,bs_size]); omega) (by (try simp only [List.length_append,List.length_cons,List.length_nil,List.length_set,List.length_replicate,bs_size]); omega) (fun j8 h8=>?_)
     split
     ·skip
      exact hk4 _ trivial
     ·skip
      exact hk4 _ trivial
     ·skip
      exact hk4 _ trivial
   ·skip
    refine ok_brd (fun h9=>?_) (fun h9=>?_)
    ·skip
     exact hk4 _ trivial
    ·skip
     refine ok_sel (by (try simp only [List.length_append,List.length_cons,List.length_nil,List.length_set,List.length_replicate,bs_size]); omega) (by (try simp only [List.length_append,List.length_cons,List.length_nil,List.length_set,List.length_replicate,bs_size]); omega) (fun j9 h10=>?_)
     split
     ·skip
      exact hk4 _ trivial
     ·skip
      exact hk4 _ trivial
     ·skip
      exact hk4 _ trivial
   ·skip
    refine ok_brd (fun h11=>?_) (fun h11=>?_)
    ·skip
     exact hk4 _ trivial
    ·skip
     refine ok_sel (by (try simp only [List.length_append,List.length_cons,List.length_nil,List.length_set,List.length_replicate,bs_size]); omega) (by (try simp only [List.length_append,List.length_cons,List.length_nil,List.length_set,List.length_replicate,bs_size]); omega) (fun j10 h12=>?_)
     split
     ·skip
      exact hk4 _ trivial
     ·skip
      exact hk4 _ trivial
     ·skip
      exact hk4 _ trivial
  ·skip
   refine ok_br (fun h13=>?_) (fun h13=>?_)
   ·skip
    exact ok_some trivial
   ·skip
    have h14:addI s1 1=s1+1:=addI_eq (by omega) (by omega)
    exact hk2 _ ⟨(by (try simp only [List.length_append,List.length_cons,List.length_nil,List.length_set,List.length_replicate,bs_size]); omega),(by (try simp only [List.length_append,List.length_cons,List.length_nil,List.length_set,List.length_replicate,bs_size]); omega)⟩ (by (try simp only [List.length_append,List.length_cons,List.length_nil,List.length_set,List.length_replicate,bs_size]); omega)
 ·skip
  exact ok_some trivial
theorem tot_r24_Calm (o:GObject)  : Ok (fun r=>True) (r24_Calm o):=by
 unfold r24_Calm
 exact ok_some trivial
theorem tot_r24_Ended (o:GObject)  : Ok (fun r=>True) (r24_Ended o):=by
 unfold r24_Ended
 exact ok_some trivial
theorem tot_r24_Is (o:GObject) (cards:Int) (players:Int)  : Ok (fun r=>True) (r24_Is o cards players):=by
 unfold r24_Is
 refine ok_jn (fun (s1:Bool)=>s1=false→¬(cards≤o.card)∧¬(o.card<0)∧¬(o.control<0)∧¬(o.id<1)∧¬(o.owner<0)∧¬(o.zone<0)∧¬(players≤o.control)∧¬(players≤o.owner)∧¬(5<o.zone)) (fun k2 hk1=>?_) (fun s1 hs2=>?_)
 ·skip
  refine ok_brd (fun h3=>?_) (fun h3=>?_)
  ·skip
   exact hk1 _ (by intro hh; first | (cases hh; done) | omega | (have hh2:=of_decide_eq_false hh; (try simp only [lenI] at hh2); omega) | (simp at hh; (try simp only [lenI] at hh); omega))
  ·skip
   refine ok_brd (fun h4=>?_) (fun h4=>?_)
   ·skip
    exact hk1 _ (by intro hh; first | (cases hh; done) | omega | (have hh2:=of_decide_eq_false hh; (try simp only [lenI] at hh2); omega) | (simp at hh; (try simp only [lenI] at hh); omega))
   ·skip
    refine ok_brd (fun h5=>?_) (fun h5=>?_)
    ·skip
     exact hk1 _ (by intro hh; first | (cases hh; done) | omega | (have hh2:=of_decide_eq_false hh; (try simp only [lenI] at hh2); omega) | (simp at hh; (try simp only [lenI] at hh); omega))
    ·skip
     refine ok_brd (fun h6=>?_) (fun h6=>?_)
     ·skip
      exact hk1 _ (by intro hh; first | (cases hh; done) | omega | (have hh2:=of_decide_eq_false hh; (try simp only [lenI] at hh2); omega) | (simp at hh; (try simp only [lenI] at hh); omega))
     ·skip
      refine ok_brd (fun h7=>?_) (fun h7=>?_)
      ·skip
       exact hk1 _ (by intro hh; first | (cases hh; done) | omega | (have hh2:=of_decide_eq_false hh; (try simp only [lenI] at hh2); omega) | (simp at hh; (try simp only [lenI] at hh); omega))
      ·skip
       refine ok_brd (fun h8=>?_) (fun h8=>?_)
       ·skip
        exact hk1 _ (by intro hh; first | (cases hh; done) | omega | (have hh2:=of_decide_eq_false hh; (try simp only [lenI] at hh2); omega) | (simp at hh; (try simp only [lenI] at hh); omega))
       ·skip
        refine ok_brd (fun h9=>?_) (fun h9=>?_)
        ·skip
         exact hk1 _ (by intro hh; first | (cases hh; done) | omega | (have hh2:=of_decide_eq_false hh; (try simp only [lenI] at hh2); omega) | (simp at hh; (try simp only [lenI] at hh); omega))
        ·skip
         refine ok_brd (fun h10=>?_) (fun h10=>?_)
         ·skip
          exact hk1 _ (by intro hh; first | (cases hh; done) | omega | (have hh2:=of_decide_eq_false hh; (try simp only [lenI] at hh2); omega) | (simp at hh; (try simp only [lenI] at hh); omega))
         ·skip
          exact hk1 _ (by intro hh; first | (cases hh; done) | omega | (have hh2:=of_decide_eq_false hh; (try simp only [lenI] at hh2); omega) | (simp at hh; (try simp only [lenI] at hh); omega))
 ·skip
  refine ok_br (fun h11=>?_) (fun h11=>?_)
  ·skip
   exact ok_some trivial
  ·skip
   have hf12:=hs2 h11
   refine ok_jn (fun (s4:Bool)=>s4=false→¬(1000000<o.blocks)∧¬(1000000<o.damage)∧¬(1000000<o.stamp)∧¬(o.blocks<0)∧¬(o.damage<0)∧¬(o.shield<0)∧¬(o.stamp<0)∧¬(1000000<o.shield)) (fun k5 hk13=>?_) (fun s4 hs14=>?_)
   ·skip
    refine ok_brd (fun h15=>?_) (fun h15=>?_)
    ·skip
     exact hk13 _ (by intro hh; first | (cases hh; done) | omega | (have hh2:=of_decide_eq_false hh; (try simp only [lenI] at hh2); omega) | (simp at hh; (try simp only [lenI] at hh); omega))
    ·skip
     refine ok_brd (fun h16=>?_) (fun h16=>?_)
     ·skip
      exact hk13 _ (by intro hh; first | (cases hh; done) | omega | (have hh2:=of_decide_eq_false hh; (try simp only [lenI] at hh2); omega) | (simp at hh; (try simp only [lenI] at hh); omega))
     ·skip
      refine ok_brd (fun h17=>?_) (fun h17=>?_)
      ·skip
       exact hk13 _ (by intro hh; first | (cases hh; done) | omega | (have hh2:=of_decide_eq_false hh; (try simp only [lenI] at hh2); omega) | (simp at hh; (try simp only [lenI] at hh); omega))
      ·skip
       refine ok_brd (fun h18=>?_) (fun h18=>?_)
       ·skip
        exact hk13 _ (by intro hh; first | (cases hh; done) | omega | (have hh2:=of_decide_eq_false hh; (try simp only [lenI] at hh2); omega) | (simp at hh; (try simp only [lenI] at hh); omega))
       ·skip
        refine ok_brd (fun h19=>?_) (fun h19=>?_)
        ·skip
         exact hk13 _ (by intro hh; first | (cases hh; done) | omega | (have hh2:=of_decide_eq_false hh; (try simp only [lenI] at hh2); omega) | (simp at hh; (try simp only [lenI] at hh); omega))
        ·skip
         refine ok_brd (fun h20=>?_) (fun h20=>?_)
         ·skip
          exact hk13 _ (by intro hh; first | (cases hh; done) | omega | (have hh2:=of_decide_eq_false hh; (try simp only [lenI] at hh2); omega) | (simp at hh; (try simp only [lenI] at hh); omega))
         ·skip
          refine ok_brd (fun h21=>?_) (fun h21=>?_)
          ·skip
           exact hk13 _ (by intro hh; first | (cases hh; done) | omega | (have hh2:=of_decide_eq_false hh; (try simp only [lenI] at hh2); omega) | (simp at hh; (try simp only [lenI] at hh); omega))
          ·skip
           exact hk13 _ (by intro hh; first | (cases hh; done) | omega | (have hh2:=of_decide_eq_false hh; (try simp only [lenI] at hh2); omega) | (simp at hh; (try simp only [lenI] at hh); omega))
   ·skip
    refine ok_br (fun h22=>?_) (fun h22=>?_)
    ·skip
     exact ok_some trivial
    ·skip
     have hf23:=hs14 h22
     refine ok_jn (fun (s7:Bool)=>s7=false→¬(cards≤o.copy)∧¬(o.attack<(-1))∧¬(o.copy<(-1))∧¬(players≤o.attack)) (fun k8 hk24=>?_) (fun s7 hs25=>?_)
     ·skip
      refine ok_bnd (tot_r12_Is _ ) (fun y10 h26=>?_)
      refine ok_br (fun h27=>?_) (fun h27=>?_)
      ·skip
       exact hk24 _ (by intro hh; first | (cases hh; done) | omega | (have hh2:=of_decide_eq_false hh; (try simp only [lenI] at hh2); omega) | (simp at hh; (try simp only [lenI] at hh); omega))
      ·skip
       refine ok_brd (fun h28=>?_) (fun h28=>?_)
       ·skip
        exact hk24 _ (by intro hh; first | (cases hh; done) | omega | (have hh2:=of_decide_eq_false hh; (try simp only [lenI] at hh2); omega) | (simp at hh; (try simp only [lenI] at hh); omega))
       ·skip
        refine ok_brd (fun h29=>?_) (fun h29=>?_)
        ·skip
         exact hk24 _ (by intro hh; first | (cases hh; done) | omega | (have hh2:=of_decide_eq_false hh; (try simp only [lenI] at hh2); omega) | (simp at hh; (try simp only [lenI] at hh); omega))
        ·skip
         refine ok_brd (fun h30=>?_) (fun h30=>?_)
         ·skip
          exact hk24 _ (by intro hh; first | (cases hh; done) | omega | (have hh2:=of_decide_eq_false hh; (try simp only [lenI] at hh2); omega) | (simp at hh; (try simp only [lenI] at hh); omega))
         ·skip
          exact hk24 _ (by intro hh; first | (cases hh; done) | omega | (have hh2:=of_decide_eq_false hh; (try simp only [lenI] at hh2); omega) | (simp at hh; (try simp only [lenI] at hh); omega))
     ·skip
      refine ok_br (fun h31=>?_) (fun h31=>?_)
      ·skip
       exact ok_some trivial
      ·skip
       have hf32:=hs25 h31
       refine ok_brd (fun h33=>?_) (fun h33=>?_)
       ·skip
        exact ok_some trivial
       ·skip
        refine ok_bnd (tot_r24_Calm _ ) (fun y11 h34=>?_)
        refine ok_lte (fun v12 h35=>?_)
        refine ok_br (fun h36=>?_) (fun h36=>?_)
        ·skip
         refine ok_bnd (tot_r24_Ended _ ) (fun y13 h37=>?_)
         refine ok_lte (fun v14 h38=>?_)
         refine ok_br (fun h39=>?_) (fun h39=>?_)
         ·skip
          refine ok_br (fun h40=>?_) (fun h40=>?_)
          ·skip
           refine ok_br (fun h41=>?_) (fun h41=>?_)
           ·skip
            refine ok_lte (fun v15 h42=>?_)
            exact ok_some trivial
           ·skip
            exact ok_some trivial
          ·skip
           exact ok_some trivial
         ·skip
          exact ok_some trivial
        ·skip
         exact ok_some trivial
theorem tot_r26_spells (s:GState) (id:Int) (zz_s:szGState s):Ok (fun r=>True) (r26_spells s id):=by
 unfold r26_spells
 have z1:s.players.length≤1048576:=((zz_s).1).1
 have z2:∀ y∈s.players,szGPlayer y:=((zz_s).1).2
 have z3:s.objects.length≤1048576:=((zz_s).2.1).1
 have z4:s.battlefield.length≤1048576:=((zz_s).2.2.1).1
 have z5:s.exile.length≤1048576:=((zz_s).2.2.2.1).1
 have z6:s.stack.length≤1048576:=((zz_s).2.2.2.2.1).1
 have z7:∀ y∈s.stack,szGItem y:=((zz_s).2.2.2.2.1).2
 have z8:s.waiting.length≤1048576:=((zz_s).2.2.2.2.2.1).1
 have z9:∀ y∈s.waiting,szGWaiting y:=((zz_s).2.2.2.2.2.1).2
 have z10:s.conts.length≤1048576:=((zz_s).2.2.2.2.2.2.1).1
 have z11:∀ y∈s.conts,szGCont y:=((zz_s).2.2.2.2.2.2.1).2
 have z12:s.extra.length≤1048576:=((zz_s).2.2.2.2.2.2.2).1
 refine ok_loop (fun (s1:Int × Int)=>0≤s1.2∧s1.2≤(s.stack.length:Int)) (fun (s1:Int × Int)=>((s.stack.length:Int) - s1.2).toNat) ⟨(by (try simp only [List.length_append,List.length_cons,List.length_nil,List.length_set,List.length_replicate,bs_size]); omega),(by (try simp only [List.length_append,List.length_cons,List.length_nil,List.length_set,List.length_replicate,bs_size]); omega)⟩ (by show _<18446744073709551616; (try simp only [List.length_append,List.length_cons,List.length_nil]); omega) (fun s1 k2 hI13 hk14=>?_)
 obtain ⟨hI13_0,hI13_1⟩:=hI13
 unfold r26_spells_l1
 refine ok_brd (fun h15=>?_) (fun h15=>?_)
 ·(try simp only [lenI] at h15)
  refine ok_jn (fun (s4:Int)=>True) (fun k5 hk16=>?_) (fun s4 hs17=>?_)
  ·skip
   refine ok_jn (fun (s7:Bool)=>True) (fun k8 hk18=>?_) (fun s7 hs19=>?_)
   ·skip
    refine ok_ix (by (try simp only [List.length_append,List.length_cons,List.length_nil,List.length_set,List.length_replicate,bs_size]); omega) (by (try simp only [List.length_append,List.length_cons,List.length_nil,List.length_set,List.length_replicate,bs_size]); omega) (fun x10 h20=>?_)
    have z21:szGItem x10:=z7 x10 h20
    have z22:szGAbility (x10.ability):=(z21).1
    have z23:szGFilter (x10.ability.filter):=((z21).1).1
    have z24:x10.ability.filter.sub.size≤1048576:=(((z21).1).1)
    have z25:x10.ability.mods.length≤1048576:=(((z21).1).2.1).1
    have z26:∀ y∈x10.ability.mods,szGMod y:=(((z21).1).2.1).2
    have z27:szGTrigger (x10.ability.trigger):=((z21).1).2.2.1
    have z28:szGFilter (x10.ability.trigger.filter):=(((z21).1).2.2.1)
    have z29:x10.ability.trigger.filter.sub.size≤1048576:=((((z21).1).2.2.1))
    have z30:x10.ability.specs.length≤1048576:=(((z21).1).2.2.2.1).1
    have z31:∀ y∈x10.ability.specs,szGSpec y:=(((z21).1).2.2.2.1).2
    have z32:x10.ability.effects.length≤1048576:=(((z21).1).2.2.2.2.1).1
    have z33:∀ y∈x10.ability.effects,szGEffect y:=(((z21).1).2.2.2.2.1).2
    have z34:szGReplace (x10.ability.replace):=((z21).1).2.2.2.2.2
    have z35:szGFilter (x10.ability.replace.filter):=(((z21).1).2.2.2.2.2)
    have z36:x10.ability.replace.filter.sub.size≤1048576:=((((z21).1).2.2.2.2.2))
    have z37:x10.targets.length≤1048576:=((z21).2).1
    refine ok_brd (fun h38=>?_) (fun h38=>?_)
    ·skip
     refine ok_ix (by (try simp only [List.length_append,List.length_cons,List.length_nil,List.length_set,List.length_replicate,bs_size]); omega) (by (try simp only [List.length_append,List.length_cons,List.length_nil,List.length_set,List.length_replicate,bs_size]); omega) (fun x11 h39=>?_)
     have z40:szGItem x11:=z7 x11 h39
     have z41:szGAbility (x11.ability):=(z40).1
     have z42:szGFilter (x11.ability.filter):=((z40).1).1
     have z43:x11.ability.filter.sub.size≤1048576:=(((z40).1).1)
     have z44:x11.ability.mods.length≤1048576:=(((z40).1).2.1).1
     have z45:∀ y∈x11.ability.mods,szGMod y:=(((z40).1).2.1).2
     have z46:szGTrigger (x11.ability.trigger):=((z40).1).2.2.1
     have z47:szGFilter (x11.ability.trigger.filter):=(((z40).1).2.2.1)
     have z48:x11.ability.trigger.filter.sub.size≤1048576:=((((z40).1).2.2.1))
     have z49:x11.ability.specs.length≤1048576:=(((z40).1).2.2.2.1).1
     have z50:∀ y∈x11.ability.specs,szGSpec y:=(((z40).1).2.2.2.1).2
     have z51:x11.ability.effects.length≤1048576:=(((z40).1).2.2.2.2.1).1
     have z52:∀ y∈x11.ability.effects,szGEffect y:=(((z40).1).2.2.2.2.1).2
     have z53:szGReplace (x11.ability.replace):=((z40).1).2.2.2.2.2
     have z54:szGFilter (x11.ability.replace.filter):=(((z40).1).2.2.2.2.2)
     have z55:x11.ability.replace.filter.sub.size≤1048576:=((((z40).1).2.2.2.2.2))
     have z56:x11.targets.length≤1048576:=((z40).2).1
     exact hk18 _ trivial
    ·skip
     exact hk18 _ trivial
   ·skip
    refine ok_br (fun h57=>?_) (fun h57=>?_)
    ·skip
     exact hk16 _ trivial
    ·skip
     exact hk16 _ trivial
  ·skip
   have h58:addI s1.2 1=s1.2+1:=addI_eq (by omega) (by omega)
   exact hk14 _ ⟨(by (try simp only [List.length_append,List.length_cons,List.length_nil,List.length_set,List.length_replicate,bs_size]); omega),(by (try simp only [List.length_append,List.length_cons,List.length_nil,List.length_set,List.length_replicate,bs_size]); omega)⟩ (by (try simp only [List.length_append,List.length_cons,List.length_nil,List.length_set,List.length_replicate,bs_size]); omega)
 ·(try simp only [lenI] at h15)
  exact ok_some trivial
theorem tot_r25_List (s:GState) (zone:Int) (player:Int) (zz_s:szGState s):Ok (fun r=>r.length≤1048576) (r25_List s zone player):=by
 unfold r25_List
 have z1:s.players.length≤1048576:=((zz_s).1).1
 have z2:∀ y∈s.players,szGPlayer y:=((zz_s).1).2
 have z3:s.objects.length≤1048576:=((zz_s).2.1).1
 have z4:s.battlefield.length≤1048576:=((zz_s).2.2.1).1
 have z5:s.exile.length≤1048576:=((zz_s).2.2.2.1).1
 have z6:s.stack.length≤1048576:=((zz_s).2.2.2.2.1).1
 have z7:∀ y∈s.stack,szGItem y:=((zz_s).2.2.2.2.1).2
 have z8:s.waiting.length≤1048576:=((zz_s).2.2.2.2.2.1).1
 have z9:∀ y∈s.waiting,szGWaiting y:=((zz_s).2.2.2.2.2.1).2
 have z10:s.conts.length≤1048576:=((zz_s).2.2.2.2.2.2.1).1
 have z11:∀ y∈s.conts,szGCont y:=((zz_s).2.2.2.2.2.2.1).2
 have z12:s.extra.length≤1048576:=((zz_s).2.2.2.2.2.2.2).1
 refine ok_brd (fun h13=>?_) (fun h13=>?_)
 ·skip
  refine ok_bnd (tot_r25_ints _ (by first | assumption | (refine ⟨by omega,?_⟩; first | (intro _ _; trivial) | assumption))) (fun y1 h14=>?_)
  exact ok_some (by first | (subst_vars; assumption) | (subst_vars; omega) | simp)
 ·skip
  refine ok_brd (fun h15=>?_) (fun h15=>?_)
  ·skip
   refine ok_bnd (tot_r25_ints _ (by first | assumption | (refine ⟨by omega,?_⟩; first | (intro _ _; trivial) | assumption))) (fun y2 h16=>?_)
   exact ok_some (by first | (subst_vars; assumption) | (subst_vars; omega) | simp)
  ·skip
   refine ok_jn (fun (s3:Bool)=>s3=false→¬(player<0)∧¬((s.players.length:Int)≤player)) (fun k4 hk17=>?_) (fun s3 hs18=>?_)
   ·skip
    refine ok_brd (fun h19=>?_) (fun h19=>?_)
    ·skip
     exact hk17 _ (by intro hh; first | (cases hh; done) | omega | (have hh2:=of_decide_eq_false hh; (try simp only [lenI] at hh2); omega) | (simp at hh; (try simp only [lenI] at hh); omega))
    ·skip
     exact hk17 _ (by intro hh; first | (cases hh; done) | omega | (have hh2:=of_decide_eq_false hh; (try simp only [lenI] at hh2); omega) | (simp at hh; (try simp only [lenI] at hh); omega))
   ·skip
    refine ok_br (fun h20=>?_) (fun h20=>?_)
    ·skip
     exact ok_some (by first | (subst_vars; assumption) | (subst_vars; omega) | simp)
    ·skip
     have hf21:=hs18 h20
     refine ok_brd (fun h22=>?_) (fun h22=>?_)
     ·skip
      refine ok_ix (by (try simp only [List.length_append,List.length_cons,List.length_nil,List.length_set,List.length_replicate,bs_size]); omega) (by (try simp only [List.length_append,List.length_cons,List.length_nil,List.length_set,List.length_replicate,bs_size]); omega) (fun x6 h23=>?_)
      have z24:szGPlayer x6:=z2 x6 h23
      have z25:x6.library.length≤1048576:=((z24).1).1
      have z26:x6.hand.length≤1048576:=((z24).2.1).1
      have z27:x6.graveyard.length≤1048576:=((z24).2.2).1
      refine ok_bnd (tot_r25_ints _ (by first | assumption | (refine ⟨by omega,?_⟩; first | (intro _ _; trivial) | assumption))) (fun y7 h28=>?_)
      exact ok_some (by first | (subst_vars; assumption) | (subst_vars; omega) | simp)
     ·skip
      refine ok_brd (fun h29=>?_) (fun h29=>?_)
      ·skip
       refine ok_ix (by (try simp only [List.length_append,List.length_cons,List.length_nil,List.length_set,List.length_replicate,bs_size]); omega) (by (try simp only [List.length_append,List.length_cons,List.length_nil,List.length_set,List.length_replicate,bs_size]); omega) (fun x8 h30=>?_)
       have z31:szGPlayer x8:=z2 x8 h30
       have z32:x8.library.length≤1048576:=((z31).1).1
       have z33:x8.hand.length≤1048576:=((z31).2.1).1
       have z34:x8.graveyard.length≤1048576:=((z31).2.2).1
       refine ok_bnd (tot_r25_ints _ (by first | assumption | (refine ⟨by omega,?_⟩; first | (intro _ _; trivial) | assumption))) (fun y9 h35=>?_)
       exact ok_some (by first | (subst_vars; assumption) | (subst_vars; omega) | simp)
      ·skip
       refine ok_brd (fun h36=>?_) (fun h36=>?_)
       ·skip
        refine ok_ix (by (try simp only [List.length_append,List.length_cons,List.length_nil,List.length_set,List.length_replicate,bs_size]); omega) (by (try simp only [List.length_append,List.length_cons,List.length_nil,List.length_set,List.length_replicate,bs_size]); omega) (fun x10 h37=>?_)
        have z38:szGPlayer x10:=z2 x10 h37
        have z39:x10.library.length≤1048576:=((z38).1).1
        have z40:x10.hand.length≤1048576:=((z38).2.1).1
        have z41:x10.graveyard.length≤1048576:=((z38).2.2).1
        refine ok_bnd (tot_r25_ints _ (by first | assumption | (refine ⟨by omega,?_⟩; first | (intro _ _; trivial) | assumption))) (fun y11 h42=>?_)
        exact ok_some (by first | (subst_vars; assumption) | (subst_vars; omega) | simp)
       ·skip
        exact ok_some (by first | (subst_vars; assumption) | (subst_vars; omega) | simp)
theorem tot_r26_placed (s:GState) (o:GObject) (zz_s:szGState s):Ok (fun r=>True) (r26_placed s o):=by
 unfold r26_placed
 have z1:s.players.length≤1048576:=((zz_s).1).1
 have z2:∀ y∈s.players,szGPlayer y:=((zz_s).1).2
 have z3:s.objects.length≤1048576:=((zz_s).2.1).1
 have z4:s.battlefield.length≤1048576:=((zz_s).2.2.1).1
 have z5:s.exile.length≤1048576:=((zz_s).2.2.2.1).1
 have z6:s.stack.length≤1048576:=((zz_s).2.2.2.2.1).1
 have z7:∀ y∈s.stack,szGItem y:=((zz_s).2.2.2.2.1).2
 have z8:s.waiting.length≤1048576:=((zz_s).2.2.2.2.2.1).1
 have z9:∀ y∈s.waiting,szGWaiting y:=((zz_s).2.2.2.2.2.1).2
 have z10:s.conts.length≤1048576:=((zz_s).2.2.2.2.2.2.1).1
 have z11:∀ y∈s.conts,szGCont y:=((zz_s).2.2.2.2.2.2.1).2
 have z12:s.extra.length≤1048576:=((zz_s).2.2.2.2.2.2.2).1
 refine ok_brd (fun h13=>?_) (fun h13=>?_)
 ·skip
  refine ok_bnd (tot_r26_spells _ _ (by first | assumption | (refine ⟨by omega,?_⟩; first | (intro _ _; trivial) | assumption) | (unfold szGState; simp_all [szB,szL]))) (fun y1 h14=>?_)
  exact ok_some trivial
 ·skip
  refine ok_bnd (tot_r25_List _ _ _ (by first | assumption | (refine ⟨by omega,?_⟩; first | (intro _ _; trivial) | assumption) | (unfold szGState; simp_all [szB,szL]))) (fun y2 h15=>?_)
  refine ok_bnd (tot_r26_times _ _ (by first | assumption | (refine ⟨by omega,?_⟩; first | (intro _ _; trivial) | assumption))) (fun y3 h16=>?_)
  exact ok_some trivial
theorem tot_r26_objects (cards:List GCard) (s:GState) (zz_cards:(szL szGCard) cards) (zz_s:szGState s):Ok (fun r=>True) (r26_objects cards s):=by
 unfold r26_objects
 have z1:cards.length≤1048576:=(zz_cards).1
 have z2:∀ y∈cards,szGCard y:=(zz_cards).2
 have z3:s.players.length≤1048576:=((zz_s).1).1
 have z4:∀ y∈s.players,szGPlayer y:=((zz_s).1).2
 have z5:s.objects.length≤1048576:=((zz_s).2.1).1
 have z6:s.battlefield.length≤1048576:=((zz_s).2.2.1).1
 have z7:s.exile.length≤1048576:=((zz_s).2.2.2.1).1
 have z8:s.stack.length≤1048576:=((zz_s).2.2.2.2.1).1
 have z9:∀ y∈s.stack,szGItem y:=((zz_s).2.2.2.2.1).2
 have z10:s.waiting.length≤1048576:=((zz_s).2.2.2.2.2.1).1
 have z11:∀ y∈s.waiting,szGWaiting y:=((zz_s).2.2.2.2.2.1).2
 have z12:s.conts.length≤1048576:=((zz_s).2.2.2.2.2.2.1).1
 have z13:∀ y∈s.conts,szGCont y:=((zz_s).2.2.2.2.2.2.1).2
 have z14:s.extra.length≤1048576:=((zz_s).2.2.2.2.2.2.2).1
 refine ok_brd (fun h15=>?_) (fun h15=>?_)
 ·(try simp only [lenI] at h15)
  exact ok_some trivial
 ·(try simp only [lenI] at h15)
  refine ok_loop (fun (s1:Int)=>0≤s1∧s1≤(s.objects.length:Int)) (fun (s1:Int)=>((s.objects.length:Int) - s1).toNat) ⟨(by (try simp only [List.length_append,List.length_cons,List.length_nil,List.length_set,List.length_replicate,bs_size]); omega),(by (try simp only [List.length_append,List.length_cons,List.length_nil,List.length_set,List.length_replicate,bs_size]); omega)⟩ (by show _<18446744073709551616; (try simp only [List.length_append,List.length_cons,List.length_nil]); omega) (fun s1 k2 hI16 hk17=>?_)
  obtain ⟨hI16_0,hI16_1⟩:=hI16
  unfold r26_objects_l1
  refine ok_brd (fun h18=>?_) (fun h18=>?_)
  ·(try simp only [lenI] at h18)
   refine ok_ix (by (try simp only [List.length_append,List.length_cons,List.length_nil,List.length_set,List.length_replicate,bs_size]); omega) (by (try simp only [List.length_append,List.length_cons,List.length_nil,List.length_set,List.length_replicate,bs_size]); omega) (fun x4 h19=>?_)
   refine ok_jn (fun (s5:Bool)=>s5=false→¬(s.nextId≤x4.id)∧¬(s.nextStamp≤x4.stamp)) (fun k6 hk20=>?_) (fun s5 hs21=>?_)
   ·skip
    refine ok_bnd (tot_r24_Is _ _ _ ) (fun y8 h22=>?_)
    refine ok_br (fun h23=>?_) (fun h23=>?_)
    ·skip
     exact hk20 _ (by intro hh; first | (cases hh; done) | omega | (have hh2:=of_decide_eq_false hh; (try simp only [lenI] at hh2); omega) | (simp at hh; (try simp only [lenI] at hh); omega))
    ·skip
     refine ok_brd (fun h24=>?_) (fun h24=>?_)
     ·skip
      exact hk20 _ (by intro hh; first | (cases hh; done) | omega | (have hh2:=of_decide_eq_false hh; (try simp only [lenI] at hh2); omega) | (simp at hh; (try simp only [lenI] at hh); omega))
     ·skip
      refine ok_brd (fun h25=>?_) (fun h25=>?_)
      ·skip
       exact hk20 _ (by intro hh; first | (cases hh; done) | omega | (have hh2:=of_decide_eq_false hh; (try simp only [lenI] at hh2); omega) | (simp at hh; (try simp only [lenI] at hh); omega))
      ·skip
       refine ok_brd (fun h26=>?_) (fun h26=>?_)
       ·skip
        have h27:subI s1 1=s1 - 1:=subI_eq (by (try simp only [lenI]); omega) (by (try simp only [lenI]); omega)
        refine ok_ix (by (try simp only [List.length_append,List.length_cons,List.length_nil,List.length_set,List.length_replicate,bs_size]); omega) (by (try simp only [List.length_append,List.length_cons,List.length_nil,List.length_set,List.length_replicate,bs_size]); omega) (fun x9 h28=>?_)
        exact hk20 _ (by intro hh; first | (cases hh; done) | omega | (have hh2:=of_decide_eq_false hh; (try simp only [lenI] at hh2); omega) | (simp at hh; (try simp only [lenI] at hh); omega))
       ·skip
        exact hk20 _ (by intro hh; first | (cases hh; done) | omega | (have hh2:=of_decide_eq_false hh; (try simp only [lenI] at hh2); omega) | (simp at hh; (try simp only [lenI] at hh); omega))
   ·skip
    refine ok_br (fun h29=>?_) (fun h29=>?_)
    ·skip
     exact ok_some trivial
    ·skip
     have hf30:=hs21 h29
     refine ok_bnd (tot_r26_placed _ _ (by first | assumption | (refine ⟨by omega,?_⟩; first | (intro _ _; trivial) | assumption) | (unfold szGState; simp_all [szB,szL]))) (fun y10 h31=>?_)
     refine ok_br (fun h32=>?_) (fun h32=>?_)
     ·skip
      exact ok_some trivial
     ·skip
      have h33:addI s1 1=s1+1:=addI_eq (by omega) (by omega)
      exact hk17 _ ⟨(by (try simp only [List.length_append,List.length_cons,List.length_nil,List.length_set,List.length_replicate,bs_size]); omega),(by (try simp only [List.length_append,List.length_cons,List.length_nil,List.length_set,List.length_replicate,bs_size]); omega)⟩ (by (try simp only [List.length_append,List.length_cons,List.length_nil,List.length_set,List.length_replicate,bs_size]); omega)
  ·(try simp only [lenI] at h18)
   exact ok_some trivial
theorem tot_r26_item (s:GState) (x:GItem) (zz_s:szGState s) (zz_x:szGItem x):Ok (fun r=>True) (r26_item s x):=by
 unfold r26_item
 have z1:s.players.length≤1048576:=((zz_s).1).1
 have z2:∀ y∈s.players,szGPlayer y:=((zz_s).1).2
 have z3:s.objects.length≤1048576:=((zz_s).2.1).1
 have z4:s.battlefield.length≤1048576:=((zz_s).2.2.1).1
 have z5:s.exile.length≤1048576:=((zz_s).2.2.2.1).1
 have z6:s.stack.length≤1048576:=((zz_s).2.2.2.2.1).1
 have z7:∀ y∈s.stack,szGItem y:=((zz_s).2.2.2.2.1).2
 have z8:s.waiting.length≤1048576:=((zz_s).2.2.2.2.2.1).1
 have z9:∀ y∈s.waiting,szGWaiting y:=((zz_s).2.2.2.2.2.1).2
 have z10:s.conts.length≤1048576:=((zz_s).2.2.2.2.2.2.1).1
 have z11:∀ y∈s.conts,szGCont y:=((zz_s).2.2.2.2.2.2.1).2
 have z12:s.extra.length≤1048576:=((zz_s).2.2.2.2.2.2.2).1
 have z13:szGAbility (x.ability):=(zz_x).1
 have z14:szGFilter (x.ability.filter):=((zz_x).1).1
 have z15:x.ability.filter.sub.size≤1048576:=(((zz_x).1).1)
 have z16:x.ability.mods.length≤1048576:=(((zz_x).1).2.1).1
 have z17:∀ y∈x.ability.mods,szGMod y:=(((zz_x).1).2.1).2
 have z18:szGTrigger (x.ability.trigger):=((zz_x).1).2.2.1
 have z19:szGFilter (x.ability.trigger.filter):=(((zz_x).1).2.2.1)
 have z20:x.ability.trigger.filter.sub.size≤1048576:=((((zz_x).1).2.2.1))
 have z21:x.ability.specs.length≤1048576:=(((zz_x).1).2.2.2.1).1
 have z22:∀ y∈x.ability.specs,szGSpec y:=(((zz_x).1).2.2.2.1).2
 have z23:x.ability.effects.length≤1048576:=(((zz_x).1).2.2.2.2.1).1
 have z24:∀ y∈x.ability.effects,szGEffect y:=(((zz_x).1).2.2.2.2.1).2
 have z25:szGReplace (x.ability.replace):=((zz_x).1).2.2.2.2.2
 have z26:szGFilter (x.ability.replace.filter):=(((zz_x).1).2.2.2.2.2)
 have z27:x.ability.replace.filter.sub.size≤1048576:=((((zz_x).1).2.2.2.2.2))
 have z28:x.targets.length≤1048576:=((zz_x).2).1
 refine ok_jn (fun (s1:Bool)=>s1=false→¬(4<(x.targets.length:Int))) (fun k2 hk29=>?_) (fun s1 hs30=>?_)
 ·skip
  refine ok_bnd (tot_r26_in _ _ _ ) (fun y4 h31=>?_)
  refine ok_br (fun h32=>?_) (fun h32=>?_)
  ·skip
   exact hk29 _ (by intro hh; first | (cases hh; done) | omega | (have hh2:=of_decide_eq_false hh; (try simp only [lenI] at hh2); omega) | (simp at hh; (try simp only [lenI] at hh); omega))
  ·skip
   refine ok_bnd (tot_r26_in _ _ _ ) (fun y5 h33=>?_)
   refine ok_br (fun h34=>?_) (fun h34=>?_)
   ·skip
    exact hk29 _ (by intro hh; first | (cases hh; done) | omega | (have hh2:=of_decide_eq_false hh; (try simp only [lenI] at hh2); omega) | (simp at hh; (try simp only [lenI] at hh); omega))
   ·skip
    refine ok_brd (fun h35=>?_) (fun h35=>?_)
    ·(try simp only [lenI] at h35)
     exact hk29 _ (by intro hh; first | (cases hh; done) | omega | (have hh2:=of_decide_eq_false hh; (try simp only [lenI] at hh2); omega) | (simp at hh; (try simp only [lenI] at hh); omega))
    ·(try simp only [lenI] at h35)
     refine ok_bnd (tot_r26_player _ _ (by first | assumption | (refine ⟨by omega,?_⟩; first | (intro _ _; trivial) | assumption) | (unfold szGState; simp_all [szB,szL]))) (fun y6 h36=>?_)
     exact hk29 _ (by intro hh; first | (cases hh; done) | omega | (have hh2:=of_decide_eq_false hh; (try simp only [lenI] at hh2); omega) | (simp at hh; (try simp only [lenI] at hh); omega))
 ·skip
  refine ok_br (fun h37=>?_) (fun h37=>?_)
  ·skip
   exact ok_some trivial
  ·skip
   have hf38:=hs30 h37
   refine ok_bnd (tot_r26_object _ _ (by first | assumption | (refine ⟨by omega,?_⟩; first | (intro _ _; trivial) | assumption) | (unfold szGState; simp_all [szB,szL]))) (fun y7 h39=>?_)
   refine ok_brd (fun h40=>?_) (fun h40=>?_)
   ·skip
    refine ok_bnd (tot_r20_Same _ _ (by first | assumption | (refine ⟨by omega,?_⟩; first | (intro _ _; trivial) | assumption) | (unfold szGAbility; simp_all [szB,szL])) sz_zGAbility) (fun y8 h41=>?_)
    refine ok_jn (fun (s9:Bool)=>True) (fun k10 hk42=>?_) (fun s9 hs43=>?_)
    ·skip
     refine ok_brd (fun h44=>?_) (fun h44=>?_)
     ·skip
      refine ok_br (fun h45=>?_) (fun h45=>?_)
      ·skip
       refine ok_brd (fun h46=>?_) (fun h46=>?_)
       ·skip
        refine ok_br (fun h47=>?_) (fun h47=>?_)
        ·skip
         exact hk42 _ trivial
        ·skip
         refine ok_bnd (tot_r20_Is _ (by first | assumption | (refine ⟨by omega,?_⟩; first | (intro _ _; trivial) | assumption) | (unfold szGAbility; simp_all [szB,szL]))) (fun y12 h48=>?_)
         exact hk42 _ trivial
       ·skip
        exact hk42 _ trivial
      ·skip
       exact hk42 _ trivial
     ·skip
      exact hk42 _ trivial
    ·skip
     exact ok_some trivial
   ·skip
    refine ok_brd (fun h49=>?_) (fun h49=>?_)
    ·skip
     refine ok_br (fun h50=>?_) (fun h50=>?_)
     ·skip
      refine ok_bnd (tot_r20_Is _ (by first | assumption | (refine ⟨by omega,?_⟩; first | (intro _ _; trivial) | assumption) | (unfold szGAbility; simp_all [szB,szL]))) (fun y13 h51=>?_)
      exact ok_some trivial
     ·skip
      exact ok_some trivial
    ·skip
     exact ok_some trivial
theorem tot_r03_Is (l:List Int) (zz_l:(szL (fun (_:Int)=>True)) l):Ok (fun r=>True) (r03_Is l):=by
 unfold r03_Is
 have z1:l.length≤1048576:=(zz_l).1
 refine ok_loop (fun (s1:Int)=>1≤s1) (fun (s1:Int)=>((l.length:Int) - s1).toNat) (by (try simp only [List.length_append,List.length_cons,List.length_nil,List.length_set,List.length_replicate,bs_size]); omega) (by show _<18446744073709551616; (try simp only [List.length_append,List.length_cons,List.length_nil]); omega) (fun s1 k2 hI2 hk3=>?_)
 unfold r03_Is_l1
 refine ok_brd (fun h4=>?_) (fun h4=>?_)
 ·(try simp only [lenI] at h4)
  have h5:subI s1 1=s1 - 1:=subI_eq (by (try simp only [lenI]); omega) (by (try simp only [lenI]); omega)
  refine ok_ix (by (try simp only [List.length_append,List.length_cons,List.length_nil,List.length_set,List.length_replicate,bs_size]); omega) (by (try simp only [List.length_append,List.length_cons,List.length_nil,List.length_set,List.length_replicate,bs_size]); omega) (fun x4 h6=>?_)
  refine ok_ix (by (try simp only [List.length_append,List.length_cons,List.length_nil,List.length_set,List.length_replicate,bs_size]); omega) (by (try simp only [List.length_append,List.length_cons,List.length_nil,List.length_set,List.length_replicate,bs_size]); omega) (fun x5 h7=>?_)
  refine ok_brd (fun h8=>?_) (fun h8=>?_)
  ·skip
   exact ok_some trivial
  ·skip
   have h9:addI s1 1=s1+1:=addI_eq (by omega) (by omega)
   exact hk3 _ (by (try simp only [List.length_append,List.length_cons,List.length_nil,List.length_set,List.length_replicate,bs_size]); omega) (by (try simp only [List.length_append,List.length_cons,List.length_nil,List.length_set,List.length_replicate,bs_size]); omega)
 ·(try simp only [lenI] at h4)
  exact ok_some trivial
theorem tot_r26_stack (s:GState) (zz_s:szGState s):Ok (fun r=>True) (r26_stack s):=by
 unfold r26_stack
 have z1:s.players.length≤1048576:=((zz_s).1).1
 have z2:∀ y∈s.players,szGPlayer y:=((zz_s).1).2
 have z3:s.objects.length≤1048576:=((zz_s).2.1).1
 have z4:s.battlefield.length≤1048576:=((zz_s).2.2.1).1
 have z5:s.exile.length≤1048576:=((zz_s).2.2.2.1).1
 have z6:s.stack.length≤1048576:=((zz_s).2.2.2.2.1).1
 have z7:∀ y∈s.stack,szGItem y:=((zz_s).2.2.2.2.1).2
 have z8:s.waiting.length≤1048576:=((zz_s).2.2.2.2.2.1).1
 have z9:∀ y∈s.waiting,szGWaiting y:=((zz_s).2.2.2.2.2.1).2
 have z10:s.conts.length≤1048576:=((zz_s).2.2.2.2.2.2.1).1
 have z11:∀ y∈s.conts,szGCont y:=((zz_s).2.2.2.2.2.2.1).2
 have z12:s.extra.length≤1048576:=((zz_s).2.2.2.2.2.2.2).1
 refine ok_jn (fun (s1:Bool)=>s1=false→¬(64<(s.stack.length:Int))∧¬(64<(s.waiting.length:Int))∧¬(64<(s.conts.length:Int))) (fun k2 hk13=>?_) (fun s1 hs14=>?_)
 ·skip
  refine ok_brd (fun h15=>?_) (fun h15=>?_)
  ·(try simp only [lenI] at h15)
   exact hk13 _ (by intro hh; first | (cases hh; done) | omega | (have hh2:=of_decide_eq_false hh; (try simp only [lenI] at hh2); omega) | (simp at hh; (try simp only [lenI] at hh); omega))
  ·(try simp only [lenI] at h15)
   refine ok_brd (fun h16=>?_) (fun h16=>?_)
   ·(try simp only [lenI] at h16)
    exact hk13 _ (by intro hh; first | (cases hh; done) | omega | (have hh2:=of_decide_eq_false hh; (try simp only [lenI] at hh2); omega) | (simp at hh; (try simp only [lenI] at hh); omega))
   ·(try simp only [lenI] at h16)
    exact hk13 _ (by intro hh; first | (cases hh; done) | omega | (have hh2:=of_decide_eq_false hh; (try simp only [lenI] at hh2); omega) | (simp at hh; (try simp only [lenI] at hh); omega))
 ·skip
  refine ok_br (fun h17=>?_) (fun h17=>?_)
  ·skip
   exact ok_some trivial
  ·skip
   have hf18:=hs14 h17
   refine ok_loop (fun (s4:Int)=>0≤s4∧s4≤(s.stack.length:Int)) (fun (s4:Int)=>((s.stack.length:Int) - s4).toNat) ⟨(by (try simp only [List.length_append,List.length_cons,List.length_nil,List.length_set,List.length_replicate,bs_size]); omega),(by (try simp only [List.length_append,List.length_cons,List.length_nil,List.length_set,List.length_replicate,bs_size]); omega)⟩ (by show _<18446744073709551616; (try simp only [List.length_append,List.length_cons,List.length_nil]); omega) (fun s4 k5 hI19 hk20=>?_)
   obtain ⟨hI19_0,hI19_1⟩:=hI19
   unfold r26_stack_l4
   refine ok_brd (fun h21=>?_) (fun h21=>?_)
   ·(try simp only [lenI] at h21)
    refine ok_ix (by (try simp only [List.length_append,List.length_cons,List.length_nil,List.length_set,List.length_replicate,bs_size]); omega) (by (try simp only [List.length_append,List.length_cons,List.length_nil,List.length_set,List.length_replicate,bs_size]); omega) (fun x7 h22=>?_)
    have z23:szGItem x7:=z7 x7 h22
    have z24:szGAbility (x7.ability):=(z23).1
    have z25:szGFilter (x7.ability.filter):=((z23).1).1
    have z26:x7.ability.filter.sub.size≤1048576:=(((z23).1).1)
    have z27:x7.ability.mods.length≤1048576:=(((z23).1).2.1).1
    have z28:∀ y∈x7.ability.mods,szGMod y:=(((z23).1).2.1).2
    have z29:szGTrigger (x7.ability.trigger):=((z23).1).2.2.1
    have z30:szGFilter (x7.ability.trigger.filter):=(((z23).1).2.2.1)
    have z31:x7.ability.trigger.filter.sub.size≤1048576:=((((z23).1).2.2.1))
    have z32:x7.ability.specs.length≤1048576:=(((z23).1).2.2.2.1).1
    have z33:∀ y∈x7.ability.specs,szGSpec y:=(((z23).1).2.2.2.1).2
    have z34:x7.ability.effects.length≤1048576:=(((z23).1).2.2.2.2.1).1
    have z35:∀ y∈x7.ability.effects,szGEffect y:=(((z23).1).2.2.2.2.1).2
    have z36:szGReplace (x7.ability.replace):=((z23).1).2.2.2.2.2
    have z37:szGFilter (x7.ability.replace.filter):=(((z23).1).2.2.2.2.2)
    have z38:x7.ability.replace.filter.sub.size≤1048576:=((((z23).1).2.2.2.2.2))
    have z39:x7.targets.length≤1048576:=((z23).2).1
    refine ok_bnd (tot_r26_item _ _ (by first | assumption | (refine ⟨by omega,?_⟩; first | (intro _ _; trivial) | assumption) | (unfold szGState; simp_all [szB,szL])) (by first | assumption | (refine ⟨by omega,?_⟩; first | (intro _ _; trivial) | assumption) | (unfold szGItem; simp_all [szB,szL]))) (fun y8 h40=>?_)
    refine ok_br (fun h41=>?_) (fun h41=>?_)
    ·skip
     exact ok_some trivial
    ·skip
     refine ok_loop (fun (s9:Int)=>0≤s9) (fun (s9:Int)=>(s4 - s9).toNat) (by (try simp only [List.length_append,List.length_cons,List.length_nil,List.length_set,List.length_replicate,bs_size]); omega) (by show _<18446744073709551616; (try simp only [List.length_append,List.length_cons,List.length_nil]); omega) (fun s9 k10 hI42 hk43=>?_)
     unfold r26_stack_l1
     refine ok_brd (fun h44=>?_) (fun h44=>?_)
     ·skip
      refine ok_ix (by (try simp only [List.length_append,List.length_cons,List.length_nil,List.length_set,List.length_replicate,bs_size]); omega) (by (try simp only [List.length_append,List.length_cons,List.length_nil,List.length_set,List.length_replicate,bs_size]); omega) (fun x12 h45=>?_)
      have z46:szGItem x12:=z7 x12 h45
      have z47:szGAbility (x12.ability):=(z46).1
      have z48:szGFilter (x12.ability.filter):=((z46).1).1
      have z49:x12.ability.filter.sub.size≤1048576:=(((z46).1).1)
      have z50:x12.ability.mods.length≤1048576:=(((z46).1).2.1).1
      have z51:∀ y∈x12.ability.mods,szGMod y:=(((z46).1).2.1).2
      have z52:szGTrigger (x12.ability.trigger):=((z46).1).2.2.1
      have z53:szGFilter (x12.ability.trigger.filter):=(((z46).1).2.2.1)
      have z54:x12.ability.trigger.filter.sub.size≤1048576:=((((z46).1).2.2.1))
      have z55:x12.ability.specs.length≤1048576:=(((z46).1).2.2.2.1).1
      have z56:∀ y∈x12.ability.specs,szGSpec y:=(((z46).1).2.2.2.1).2
      have z57:x12.ability.effects.length≤1048576:=(((z46).1).2.2.2.2.1).1
      have z58:∀ y∈x12.ability.effects,szGEffect y:=(((z46).1).2.2.2.2.1).2
      have z59:szGReplace (x12.ability.replace):=((z46).1).2.2.2.2.2
      have z60:szGFilter (x12.ability.replace.filter):=(((z46).1).2.2.2.2.2)
      have z61:x12.ability.replace.filter.sub.size≤1048576:=((((z46).1).2.2.2.2.2))
      have z62:x12.targets.length≤1048576:=((z46).2).1
      refine ok_ix (by (try simp only [List.length_append,List.length_cons,List.length_nil,List.length_set,List.length_replicate,bs_size]); omega) (by (try simp only [List.length_append,List.length_cons,List.length_nil,List.length_set,List.length_replicate,bs_size]); omega) (fun x13 h63=>?_)
      have z64:szGItem x13:=z7 x13 h63
      have z65:szGAbility (x13.ability):=(z64).1
      have z66:szGFilter (x13.ability.filter):=((z64).1).1
      have z67:x13.ability.filter.sub.size≤1048576:=(((z64).1).1)
      have z68:x13.ability.mods.length≤1048576:=(((z64).1).2.1).1
      have z69:∀ y∈x13.ability.mods,szGMod y:=(((z64).1).2.1).2
      have z70:szGTrigger (x13.ability.trigger):=((z64).1).2.2.1
      have z71:szGFilter (x13.ability.trigger.filter):=(((z64).1).2.2.1)
      have z72:x13.ability.trigger.filter.sub.size≤1048576:=((((z64).1).2.2.1))
      have z73:x13.ability.specs.length≤1048576:=(((z64).1).2.2.2.1).1
      have z74:∀ y∈x13.ability.specs,szGSpec y:=(((z64).1).2.2.2.1).2
      have z75:x13.ability.effects.length≤1048576:=(((z64).1).2.2.2.2.1).1
      have z76:∀ y∈x13.ability.effects,szGEffect y:=(((z64).1).2.2.2.2.1).2
      have z77:szGReplace (x13.ability.replace):=((z64).1).2.2.2.2.2
      have z78:szGFilter (x13.ability.replace.filter):=(((z64).1).2.2.2.2.2)
      have z79:x13.ability.replace.filter.sub.size≤1048576:=((((z64).1).2.2.2.2.2))
      have z80:x13.targets.length≤1048576:=((z64).2).1
      refine ok_brd (fun h81=>?_) (fun h81=>?_)
      ·skip
       exact ok_some trivial
      ·skip
       have h82:addI s9 1=s9+1:=addI_eq (by omega) (by omega)
       exact hk43 _ (by (try simp only [List.length_append,List.length_cons,List.length_nil,List.length_set,List.length_replicate,bs_size]); omega) (by (try simp only [List.length_append,List.length_cons,List.length_nil,List.length_set,List.length_replicate,bs_size]); omega)
     ·skip
      have h83:addI s4 1=s4+1:=addI_eq (by omega) (by omega)
      exact hk20 _ ⟨(by (try simp only [List.length_append,List.length_cons,List.length_nil,List.length_set,List.length_replicate,bs_size]); omega),(by (try simp only [List.length_append,List.length_cons,List.length_nil,List.length_set,List.length_replicate,bs_size]); omega)⟩ (by (try simp only [List.length_append,List.length_cons,List.length_nil,List.length_set,List.length_replicate,bs_size]); omega)
   ·(try simp only [lenI] at h21)
    refine ok_loop (fun (s14:Int)=>0≤s14∧s14≤(s.waiting.length:Int)) (fun (s14:Int)=>((s.waiting.length:Int) - s14).toNat) ⟨(by (try simp only [List.length_append,List.length_cons,List.length_nil,List.length_set,List.length_replicate,bs_size]); omega),(by (try simp only [List.length_append,List.length_cons,List.length_nil,List.length_set,List.length_replicate,bs_size]); omega)⟩ (by show _<18446744073709551616; (try simp only [List.length_append,List.length_cons,List.length_nil]); omega) (fun s14 k15 hI84 hk85=>?_)
    obtain ⟨hI84_0,hI84_1⟩:=hI84
    unfold r26_stack_l3
    refine ok_brd (fun h86=>?_) (fun h86=>?_)
    ·(try simp only [lenI] at h86)
     refine ok_ix (by (try simp only [List.length_append,List.length_cons,List.length_nil,List.length_set,List.length_replicate,bs_size]); omega) (by (try simp only [List.length_append,List.length_cons,List.length_nil,List.length_set,List.length_replicate,bs_size]); omega) (fun x17 h87=>?_)
     have z88:szGWaiting x17:=z9 x17 h87
     have z89:szGAbility (x17.ability):=(z88)
     have z90:szGFilter (x17.ability.filter):=((z88)).1
     have z91:x17.ability.filter.sub.size≤1048576:=(((z88)).1)
     have z92:x17.ability.mods.length≤1048576:=(((z88)).2.1).1
     have z93:∀ y∈x17.ability.mods,szGMod y:=(((z88)).2.1).2
     have z94:szGTrigger (x17.ability.trigger):=((z88)).2.2.1
     have z95:szGFilter (x17.ability.trigger.filter):=(((z88)).2.2.1)
     have z96:x17.ability.trigger.filter.sub.size≤1048576:=((((z88)).2.2.1))
     have z97:x17.ability.specs.length≤1048576:=(((z88)).2.2.2.1).1
     have z98:∀ y∈x17.ability.specs,szGSpec y:=(((z88)).2.2.2.1).2
     have z99:x17.ability.effects.length≤1048576:=(((z88)).2.2.2.2.1).1
     have z100:∀ y∈x17.ability.effects,szGEffect y:=(((z88)).2.2.2.2.1).2
     have z101:szGReplace (x17.ability.replace):=((z88)).2.2.2.2.2
     have z102:szGFilter (x17.ability.replace.filter):=(((z88)).2.2.2.2.2)
     have z103:x17.ability.replace.filter.sub.size≤1048576:=((((z88)).2.2.2.2.2))
     refine ok_jn (fun (s18:Bool)=>s18=false→x17.ability.kind=4) (fun k19 hk104=>?_) (fun s18 hs105=>?_)
     ·skip
      refine ok_bnd (tot_r26_player _ _ (by first | assumption | (refine ⟨by omega,?_⟩; first | (intro _ _; trivial) | assumption) | (unfold szGState; simp_all [szB,szL]))) (fun y21 h106=>?_)
      refine ok_br (fun h107=>?_) (fun h107=>?_)
      ·skip
       exact hk104 _ (by intro hh; first | (cases hh; done) | omega | (have hh2:=of_decide_eq_false hh; (try simp only [lenI] at hh2); omega) | (simp at hh; (try simp only [lenI] at hh); omega))
      ·skip
       refine ok_brn (fun h108=>?_) (fun h108=>?_)
       ·skip
        exact hk104 _ (by intro hh; first | (cases hh; done) | omega | (have hh2:=of_decide_eq_false hh; (try simp only [lenI] at hh2); omega) | (simp at hh; (try simp only [lenI] at hh); omega))
       ·skip
        refine ok_bnd (tot_r20_Is _ (by first | assumption | (refine ⟨by omega,?_⟩; first | (intro _ _; trivial) | assumption) | (unfold szGAbility; simp_all [szB,szL]))) (fun y22 h109=>?_)
        exact hk104 _ (by intro hh; first | (cases hh; done) | omega | (have hh2:=of_decide_eq_false hh; (try simp only [lenI] at hh2); omega) | (simp at hh; (try simp only [lenI] at hh); omega))
     ·skip
      refine ok_br (fun h110=>?_) (fun h110=>?_)
      ·skip
       exact ok_some trivial
      ·skip
       have hf111:=hs105 h110
       have h112:addI s14 1=s14+1:=addI_eq (by omega) (by omega)
       exact hk85 _ ⟨(by (try simp only [List.length_append,List.length_cons,List.length_nil,List.length_set,List.length_replicate,bs_size]); omega),(by (try simp only [List.length_append,List.length_cons,List.length_nil,List.length_set,List.length_replicate,bs_size]); omega)⟩ (by (try simp only [List.length_append,List.length_cons,List.length_nil,List.length_set,List.length_replicate,bs_size]); omega)
    ·(try simp only [lenI] at h86)
     refine ok_loop (fun (s23:Int)=>0≤s23∧s23≤(s.conts.length:Int)) (fun (s23:Int)=>((s.conts.length:Int) - s23).toNat) ⟨(by (try simp only [List.length_append,List.length_cons,List.length_nil,List.length_set,List.length_replicate,bs_size]); omega),(by (try simp only [List.length_append,List.length_cons,List.length_nil,List.length_set,List.length_replicate,bs_size]); omega)⟩ (by show _<18446744073709551616; (try simp only [List.length_append,List.length_cons,List.length_nil]); omega) (fun s23 k24 hI113 hk114=>?_)
     obtain ⟨hI113_0,hI113_1⟩:=hI113
     unfold r26_stack_l2
     refine ok_brd (fun h115=>?_) (fun h115=>?_)
     ·(try simp only [lenI] at h115)
      refine ok_ix (by (try simp only [List.length_append,List.length_cons,List.length_nil,List.length_set,List.length_replicate,bs_size]); omega) (by (try simp only [List.length_append,List.length_cons,List.length_nil,List.length_set,List.length_replicate,bs_size]); omega) (fun x26 h116=>?_)
      have z117:szGCont x26:=z11 x26 h116
      have z118:x26.objects.length≤1048576:=((z117).1).1
      have z119:x26.mods.length≤1048576:=((z117).2).1
      have z120:∀ y∈x26.mods,szGMod y:=((z117).2).2
      refine ok_jn (fun (s27:Bool)=>s27=false→¬(s.nextStamp≤x26.stamp)) (fun k28 hk121=>?_) (fun s27 hs122=>?_)
      ·skip
       refine ok_bnd (tot_r26_player _ _ (by first | assumption | (refine ⟨by omega,?_⟩; first | (intro _ _; trivial) | assumption) | (unfold szGState; simp_all [szB,szL]))) (fun y30 h123=>?_)
       refine ok_br (fun h124=>?_) (fun h124=>?_)
       ·skip
        exact hk121 _ (by intro hh; first | (cases hh; done) | omega | (have hh2:=of_decide_eq_false hh; (try simp only [lenI] at hh2); omega) | (simp at hh; (try simp only [lenI] at hh); omega))
       ·skip
        refine ok_brd (fun h125=>?_) (fun h125=>?_)
        ·skip
         exact hk121 _ (by intro hh; first | (cases hh; done) | omega | (have hh2:=of_decide_eq_false hh; (try simp only [lenI] at hh2); omega) | (simp at hh; (try simp only [lenI] at hh); omega))
        ·skip
         refine ok_bnd (tot_r26_in _ _ _ ) (fun y31 h126=>?_)
         refine ok_br (fun h127=>?_) (fun h127=>?_)
         ·skip
          exact hk121 _ (by intro hh; first | (cases hh; done) | omega | (have hh2:=of_decide_eq_false hh; (try simp only [lenI] at hh2); omega) | (simp at hh; (try simp only [lenI] at hh); omega))
         ·skip
          refine ok_bnd (tot_r03_Is _ (by first | assumption | (refine ⟨by omega,?_⟩; first | (intro _ _; trivial) | assumption))) (fun y32 h128=>?_)
          refine ok_br (fun h129=>?_) (fun h129=>?_)
          ·skip
           exact hk121 _ (by intro hh; first | (cases hh; done) | omega | (have hh2:=of_decide_eq_false hh; (try simp only [lenI] at hh2); omega) | (simp at hh; (try simp only [lenI] at hh); omega))
          ·skip
           refine ok_bnd (tot_r15_ListText _ (by first | assumption | (refine ⟨by omega,?_⟩; first | (intro _ _; trivial) | assumption))) (fun y33 h130=>?_)
           exact hk121 _ (by intro hh; first | (cases hh; done) | omega | (have hh2:=of_decide_eq_false hh; (try simp only [lenI] at hh2); omega) | (simp at hh; (try simp only [lenI] at hh); omega))
      ·skip
       refine ok_br (fun h131=>?_) (fun h131=>?_)
       ·skip
        exact ok_some trivial
       ·skip
        have hf132:=hs122 h131
        have h133:addI s23 1=s23+1:=addI_eq (by omega) (by omega)
        exact hk114 _ ⟨(by (try simp only [List.length_append,List.length_cons,List.length_nil,List.length_set,List.length_replicate,bs_size]); omega),(by (try simp only [List.length_append,List.length_cons,List.length_nil,List.length_set,List.length_replicate,bs_size]); omega)⟩ (by (try simp only [List.length_append,List.length_cons,List.length_nil,List.length_set,List.length_replicate,bs_size]); omega)
     ·(try simp only [lenI] at h115)
      exact ok_some trivial
end Go.Proofs.YtddcpnlflncahaaGreat
namespace Go.Proofs.YtddcpnlflncahaaGreat
open Go Go.Pv
set_option maxRecDepth 100000
theorem ints_ok {l:List Int} (h:l.length≤1048576):r25_ints l=some l:=ok_eq (ok_room (by omega) (by omega) (ok_some rfl))
theorem ability_ok (a:GAbility) (ha:szGAbility a):r25_ability a=some a:=by
 have h1:a.mods.length≤1048576:=ha.2.1.1
 have h2:a.specs.length≤1048576:=ha.2.2.2.1.1
 have h3:a.effects.length≤1048576:=ha.2.2.2.2.1.1
 unfold r25_ability
 refine ok_eq (ok_room (by omega) (by omega) (ok_room (by omega) (by omega) ?_))
 refine ok_for 0 a.effects.length (fun n t=>t=a.effects.take n) 0 rfl (Nat.zero_le _) (by omega) rfl ?_ ?_
 ·rintro i t k hi rfl hk
  have hm:=szMods (ha.2.2.2.2.1.2 _ (List.getElem_mem hi))
  have hl:(a.effects.take i).length≤1048576:=by simp; omega
  unfold r25_ability_l1
  exact ok_brd (fun _=>ok_ixL i rfl hi (ok_room (by omega) (by omega) (ok_room (by simp only [List.length_cons,List.length_nil]; omega) (by simp only [List.length_cons,List.length_nil]; omega) (hk _ (takeS _ _ hi).symm)))) fun h=>absurd (show (i:Int)<(a.effects.length:Int) by omega) h
 ·rintro t k rfl
  unfold r25_ability_l1
  exact ok_brd (fun h=>absurd h (by show ¬ (a.effects.length:Int)<(a.effects.length:Int); omega)) fun _=>ok_some (by simp only [takeA])
theorem r25_Copy_ok (s:GState) (hs:szGState s):r25_Copy s=some s:=by
 obtain ⟨p1,p2,p3,p4,p5,p6,p7,p8⟩:=hs
 have q1:=p1.1; have q2:=p2.1; have q3:=p3.1; have q4:=p4.1; have q5:=p5.1; have q6:=p6.1; have q7:=p7.1; have q8:=p8.1
 unfold r25_Copy
 refine ok_eq (ok_for 0 s.players.length (fun n t=>t=s.players.take n) 0 rfl (Nat.zero_le _) (by omega) rfl ?_ ?_)
 ·rintro i t k hi rfl hk
  have z:=p1.2 _ (List.getElem_mem hi)
  have hl:(s.players.take i).length≤1048576:=by simp; omega
  unfold r25_Copy_l4
  exact ok_brd (fun _=>ok_ixL i rfl hi (ok_bnde (ints_ok z.1.1) (ok_bnde (ints_ok z.2.1.1) (ok_bnde (ints_ok z.2.2.1) (ok_room (by simp only [List.length_cons,List.length_nil]; omega) (by simp only [List.length_cons,List.length_nil]; omega) (hk _ (takeS _ _ hi).symm)))))) fun h=>absurd (show (i:Int)<(s.players.length:Int) by omega) h
 rintro t _ rfl
 unfold r25_Copy_l4
 refine ok_brd (fun h=>absurd h (by show ¬ (s.players.length:Int)<(s.players.length:Int); omega)) fun _=>?_
 refine ok_room (by omega) (by omega) (ok_bnde (ints_ok q3) (ok_bnde (ints_ok q4) ?_))
 refine ok_for 0 s.stack.length (fun n t=>t=s.stack.take n) 0 rfl (Nat.zero_le _) (by omega) rfl ?_ ?_
 ·rintro i t k hi rfl hk
  have z:=p5.2 _ (List.getElem_mem hi)
  have ht:(s.stack[i]).targets.length≤1048576:=z.2.1
  have hl:(s.stack.take i).length≤1048576:=by simp; omega
  unfold r25_Copy_l3
  exact ok_brd (fun _=>ok_ixL i rfl hi (ok_bnde (ability_ok _ z.1) (ok_room (by omega) (by omega) (ok_room (by simp only [List.length_cons,List.length_nil]; omega) (by simp only [List.length_cons,List.length_nil]; omega) (hk _ (takeS _ _ hi).symm))))) fun h=>absurd (show (i:Int)<(s.stack.length:Int) by omega) h
 rintro t _ rfl
 unfold r25_Copy_l3
 refine ok_brd (fun h=>absurd h (by show ¬ (s.stack.length:Int)<(s.stack.length:Int); omega)) fun _=>?_
 refine ok_for 0 s.waiting.length (fun n t=>t=s.waiting.take n) 0 rfl (Nat.zero_le _) (by omega) rfl ?_ ?_
 ·rintro i t k hi rfl hk
  have z:szGAbility (s.waiting[i]).ability:=p6.2 _ (List.getElem_mem hi)
  have hl:(s.waiting.take i).length≤1048576:=by simp; omega
  unfold r25_Copy_l2
  exact ok_brd (fun _=>ok_ixL i rfl hi (ok_bnde (ability_ok _ z) (ok_room (by simp only [List.length_cons,List.length_nil]; omega) (by simp only [List.length_cons,List.length_nil]; omega) (hk _ (takeS _ _ hi).symm)))) fun h=>absurd (show (i:Int)<(s.waiting.length:Int) by omega) h
 rintro t _ rfl
 unfold r25_Copy_l2
 refine ok_brd (fun h=>absurd h (by show ¬ (s.waiting.length:Int)<(s.waiting.length:Int); omega)) fun _=>?_
 refine ok_for 0 s.conts.length (fun n t=>t=s.conts.take n) 0 rfl (Nat.zero_le _) (by omega) rfl ?_ ?_
 ·rintro i t k hi rfl hk
  have z:=p7.2 _ (List.getElem_mem hi)
  have z1:(s.conts[i]).objects.length≤1048576:=z.1.1
  have z2:(s.conts[i]).mods.length≤1048576:=z.2.1
  have hl:(s.conts.take i).length≤1048576:=by simp; omega
  unfold r25_Copy_l1
  exact ok_brd (fun _=>ok_ixL i rfl hi (ok_bnde (ints_ok z1) (ok_room (by omega) (by omega) (ok_room (by simp only [List.length_cons,List.length_nil]; omega) (by simp only [List.length_cons,List.length_nil]; omega) (hk _ (takeS _ _ hi).symm))))) fun h=>absurd (show (i:Int)<(s.conts.length:Int) by omega) h
 rintro t _ rfl
 unfold r25_Copy_l1
 refine ok_brd (fun h=>absurd h (by show ¬ (s.conts.length:Int)<(s.conts.length:Int); omega)) fun _=>?_
 exact ok_bnde (ints_ok q8) (ok_some (by simp only [takeA]))
end Go.Proofs.YtddcpnlflncahaaGreat
namespace Go.Proofs.YtddcpnlflncahaaGreat
open Go Go.Pv
theorem in_ok (n a b:Int):r26_in n a b=some (decide (a≤n∧n≤b)):=by
 unfold r26_in
 exact ok_eq (ok_brd (fun h=>ok_some (by simp [h])) fun h=>ok_some (by simp [h]))
theorem player_ok (s:GState) (p:Int) (hs:szGState s):r26_player s p=some (decide (0≤p∧p<(s.players.length:Int))):=by
 have h1:=hs.1.1
 unfold r26_player
 refine ok_eq (ok_bnde (in_ok _ _ _) (ok_some ?_))
 have:subI (lenI s.players) 1=(s.players.length:Int) - 1:=by unfold lenI; exact subI_eq (by omega) (by omega)
 rw [this]
 exact decide_eq_decide.2 (by omega)
structure ValidS (s:GState):Prop where
 act:0≤s.active∧s.active<(s.players.length:Int)
 ext:∀ x∈s.extra,0≤x∧x<(s.players.length:Int)
 step:0≤s.step∧s.step≤10
 turn:0≤s.turn∧s.turn≤500
 over:0≤s.over∧s.over≤2
theorem Is_ok (cards:List GCard) (s:GState) (hc:szL szGCard cards) (hs:szGState s):Ok (fun r=>r=true→ValidS s) (r26_Is cards s):=by
 have no:∀ {p:Prop},((false:Bool)=true→p):=fun e=>by cases e
 have yes:∀ {p:Prop},((true:Bool)=false→p):=fun e=>by cases e
 have hlen:=hs.1.1
 unfold r26_Is
 refine ok_jn (fun x=>x=false→(0≤s.step∧s.step≤10)∧(0≤s.turn∧s.turn≤500)) ?_ ?_
 ·intro k h
  refine ok_bnde (in_ok _ _ _) (ok_br (fun _=>h _ yes) fun _=>ok_bnde (in_ok _ _ _) (ok_br (fun _=>h _ yes) fun _=>ok_bnde (in_ok _ _ _) (ok_br (fun _=>h _ yes) fun e1=>ok_bnde (in_ok _ _ _) (ok_br (fun _=>h _ yes) fun e2=>h _ fun _=>⟨deq e2,deq e1⟩))))
 ·intro x hx
  refine ok_br (fun _=>ok_some no) fun e=>ok_jn (fun y=>y=false→(0≤s.active∧s.active<(s.players.length:Int))∧(0≤s.over∧s.over≤2)) ?_ ?_
  ·intro k h
   refine ok_bnd (tot_r26_players s hs) fun _ _=>ok_br (fun _=>h _ yes) fun _=>ok_bnde (player_ok s _ hs) (ok_br (fun _=>h _ yes) fun e1=>ok_bnde (player_ok s _ hs) (ok_br (fun _=>h _ yes) fun _=>ok_bnde (in_ok _ _ _) (ok_br (fun _=>h _ yes) fun _=>ok_brd (fun _=>h _ yes) fun _=>ok_bnde (in_ok _ _ _) (h _ fun e2=>⟨deq e1,deq e2⟩))))
  ·intro y hy
   refine ok_br (fun _=>ok_some no) fun e2=>?_
   have hel:=hs.2.2.2.2.2.2.2.1
   refine ok_for1 0 s.extra.length (fun n=>∀ z∈s.extra.take n,0≤z∧z<(s.players.length:Int)) 0 rfl (Nat.zero_le _) (by omega) (by simp) ?_ ?_
   ·intro i k hi hI hk
    unfold r26_Is_l1
    refine ok_brd (fun _=>ok_ixL i rfl hi (ok_bnde (player_ok s _ hs) (ok_br (fun _=>ok_some no) fun e3=>hk fun z hz=>?_))) fun h=>absurd (show (i:Int)<(s.extra.length:Int) by omega) h
    rw [List.take_succ,List.getElem?_eq_getElem hi] at hz
    rcases List.mem_append.1 hz with hz | hz
    ·exact hI z hz
    ·have:z=s.extra[i]:=by simpa using hz
     rw [this]; exact deq e3
   ·intro k hI
    rw [List.take_of_length_le (Nat.le_refl _)] at hI
    unfold r26_Is_l1
    refine ok_brd (fun h=>absurd h (by show ¬ (s.extra.length:Int)<(s.extra.length:Int); omega)) fun _=>ok_jn (fun _=>True) ?_ ?_
    ·intro k h
     exact ok_brd (fun _=>ok_bnde (player_ok s _ hs) (ok_br (fun _=>h _ trivial) fun _=>ok_brn (fun _=>h _ trivial) fun _=>h _ trivial)) fun _=>ok_brn (fun _=>h _ trivial) fun _=>h _ trivial
    ·intro z _
     refine ok_br (fun _=>ok_some no) fun _=>ok_bnd (tot_r26_objects cards s hc hs) fun _ _=>ok_br (fun _=>ok_bnd (tot_r26_stack s hs) fun _ _=>ok_some fun _=>?_) fun _=>ok_some no
     exact ⟨(hy e2).1,hI,(hx e).1,(hx e).2,(hy e2).2⟩
end Go.Proofs.YtddcpnlflncahaaGreat
namespace Go.Proofs.YtddcpnlflncahaaGreat
open Go Go.Pv
def mkR (answers:List (List Int)):GR36Asker:=⟨answers,zGChoice,false,false,0⟩
def setR (answers:List (List Int)) (c:GChoice) (x:Int × Int × Bool × Bool):GR36Asker:=⟨answers,bif x.2.2.1 then c else zGChoice,x.2.2.1,x.2.2.2,x.2.1⟩
theorem r36_New_ok (answers:List (List Int)) (h:szL (szL (fun (_:Int)=>True)) answers):r36_New answers=some (mkR answers):=by
 unfold r36_New
 have hl:=h.1
 refine ok_eq (ok_for 0 answers.length (fun i t=>t=answers.take i) 0 rfl (Nat.zero_le _) (by omega) (by simp) ?_ ?_)
 ·rintro i t k hi rfl hk
  have ha:=(h.2 _ (List.getElem_mem hi)).1
  unfold r36_New_l1
  refine ok_brt (ltT hi) (ok_ixL i rfl hi (ok_bnde (x:=answers[i]) (ok_eq (ok_room (by omega) (by omega) (ok_some rfl))) (ok_room ?_ ?_ (hk _ (takeS _ _ hi).symm))))
  ·simp only [List.length_take,List.length_cons,List.length_nil]; omega
  ·simp only [List.length_take,List.length_cons,List.length_nil]; omega
 ·rintro t k rfl
  unfold r36_New_l1
  refine ok_brf ltF (ok_some ?_)
  rw [takeA]; rfl
theorem forcedR_num (p src m:Int):r36_Forced (numC p src m)=some (decide (0=m)):=rfl
theorem defaultR_num (p src m:Int):r36_Default (numC p src m)=some [0]:=rfl
theorem single5:r36_single 5=some false:=rfl
theorem validR_num (p src m:Int) (a:List Int):r36_Valid (numC p src m) a=some (vld a m):=by
 rcases a with _ | ⟨v,_ | ⟨w,a⟩⟩
 ·simp [r36_Valid,numC,br,lenI,vld,single5,bnd]
 ·by_cases h0:0≤v <;> simp [r36_Valid,numC,br,lenI,vld,ixL,bnd,h0,single5] <;> rfl
 ·have h1:¬ ((a.length:Int)+1+1=1):=by omega
  by_cases h0:256<(a.length:Int)+1+1 <;> simp [r36_Valid,numC,br,lenI,vld,h0,h1,single5,bnd]
theorem ask_pickR (answers:List (List Int)) (h:szL (szL (fun (_:Int)=>True)) answers) (p src m:Int) :
  r36_Asker_Pick (mkR answers) (numC p src m)=some ([(pkR answers m).1],setR answers (numC p src m) (pkR answers m)):=by
 have hl:=h.1
 unfold r36_Asker_Pick
 refine ok_eq (ok_jn (fun s=>s=decide (0=m)) ?_ ?_)
 ·intro k hk
  refine ok_bnde (forcedR_num _ _ _) (ok_br (fun h=>hk _ h.symm) fun h=>ok_brf rfl (hk _ h.symm))
 ·rintro s rfl
  refine ok_brd (fun h0=>ok_bnde (defaultR_num _ _ _) (ok_some ?_)) fun h0=>?_
  ·simp [pkR,h0,setR,mkR]
  rcases answers with _ | ⟨a,l⟩
  ·refine ok_brt rfl (ok_bnde (x:=numC p src m) (ok_eq (ok_room (by simp [numC]) (by simp [numC]) (ok_some rfl))) (ok_bnde (defaultR_num p src m) (ok_some ?_)))
   simp [pkR,h0,setR,mkR,numC]
  ·have ha:=(h.2 a (by simp)).1
   refine ok_brf (decide_eq_false (by show ¬ (((a::l).length:Int)≤(0:Int)); simp only [List.length_cons]; omega)) (ok_ixL 0 rfl (by simp [mkR]) (ok_bnde (validR_num _ _ _ _) ?_))
   show Ok _ (br (vld a m == false) _ _)
   by_cases hv:vld a m=true
   ·refine ok_brf (by rw [hv]; rfl) (ok_bnde (x:=a) (ok_eq (ok_room (by simp [mkR]; omega) (by simp [mkR]; omega) (ok_some rfl))) (ok_some ?_))
    have e:(pkR (a::l) m)=(a.headD 0,1,false,false):=by unfold pkR; rw [if_neg h0]; simp only; rw [if_pos hv]
    rw [e]
    rcases a with _ | ⟨v,_ | ⟨w,a⟩⟩
    ·cases hv
    ·rfl
    ·cases hv
   ·have e:(pkR (a::l) m)=(0,1,false,true):=by unfold pkR; rw [if_neg h0]; simp only; rw [if_neg hv]
    refine ok_brt (by simp [hv]) (ok_bnde (defaultR_num _ _ _) (ok_some ?_))
    rw [e]; rfl
theorem r39_Mana_bad (answers:List (List Int)) (s:GState) (hs:szGState s) (p src:Int) (c:GCost) (hp:¬ (0≤p∧p<(s.players.length:Int))):r39_Mana (mkR answers) s p src c=some (s,0,false,mkR answers):=by
 unfold r39_Mana
 refine ok_eq (ok_bnde (r25_Copy_ok s hs) (ok_jn (fun b=>b=true) ?_ ?_))
 ·intro k hk
  exact ok_brd (fun _=>hk _ rfl) fun h=>hk _ (decide_eq_true (show (s.players.length:Int)≤p by omega))
 ·rintro b rfl
  exact ok_brt rfl (ok_some rfl)
theorem r39_Mana_no (answers:List (List Int)) (s:GState) (hs:szGState s) (n:Nat) (hn:n<s.players.length) (src:Int) (c:GCost) {m:Int} (hm:MostS s.players[n].pool c m) (h0:m<0):r39_Mana (mkR answers) s (n:Int) src c=some (s,0,false,mkR answers):=by
 unfold r39_Mana
 refine ok_eq (ok_bnde (r25_Copy_ok s hs) (ok_jn (fun b=>b=false) ?_ ?_))
 ·intro k hk
  exact ok_brd (fun h=>absurd h (by omega)) fun h=>hk _ (decide_eq_false (show ¬ (s.players.length:Int)≤(n:Int) by omega))
 ·rintro b rfl
  refine ok_brf rfl (ok_ixL n rfl hn (ok_bnd (MostX2_ok _ _) fun y hy=>?_))
  rw [hy.one hm]
  exact ok_brt (by simp [h0]) (ok_some rfl)
theorem r39_Mana_yes (answers:List (List Int)) (ha:szL (szL (fun (_:Int)=>True)) answers) (s:GState) (hs:szGState s) (n:Nat) (hn:n<s.players.length) (src:Int) (c:GCost) {m:Int} (hm:MostS s.players[n].pool c m) (h0:0≤m) :
  r39_Mana (mkR answers) s (n:Int) src c=some (paid s n s.players[n] c (mpX c m answers).1,(mpX c m answers).1,true,setR answers (numC n src m) (mpX c m answers)):=by
 have hx:=mpX_le c answers h0
 have hcan:=can_mono (hm.can.2 h0) hx.1 hx.2
 unfold r39_Mana
 refine ok_eq (ok_bnde (r25_Copy_ok s hs) (ok_jn (fun b=>b=false) ?_ ?_))
 ·intro k hk
  exact ok_brd (fun h=>absurd h (by omega)) fun h=>hk _ (decide_eq_false (show ¬ (s.players.length:Int)≤(n:Int) by omega))
 ·rintro b rfl
  refine ok_brf rfl (ok_ixL n rfl hn (ok_bnd (MostX2_ok _ _) fun y hy=>?_))
  rw [hy.one hm]
  refine ok_brf (by simp; omega) (ok_jn (fun z=>z=(setR answers (numC n src m) (mpX c m answers),(mpX c m answers).1)) ?_ ?_)
  ·intro k hk
   refine ok_brd (fun hc=>ok_bnde (ask_pickR answers ha _ _ _) (ok_brt rfl (ok_ixL 0 rfl (by simp) (hk _ ?_)))) fun hc=>hk _ ?_
   ·simp only [mpX,if_pos hc]; rfl
   ·simp only [mpX,if_neg hc]; rfl
  ·rintro z rfl
   refine ok_ixL n rfl hn (ok_bnde (r08_Pay_left hcan) (ok_ixO n rfl hn (ok_get hn (ok_some rfl))))
theorem settled_ok (answers:List (List Int)) (c:GChoice) (hc:c.options=[]) (x:Int × Int × Bool × Bool):law39_settled (setA answers c x) (setR answers c x)=some (true,x.2.2.1 == false):=by
 obtain ⟨v,u,w,b⟩:=x
 have key:∀ (d:GChoice × Bool),d.1.options=[]→ask_Asker_Pending (setA answers c (v,u,w,b))=some d→r36_Asker_Pending (setR answers c (v,u,w,b))=some d→d.2=w →
   law39_settled (setA answers c (v,u,w,b)) (setR answers c (v,u,w,b))=some (true,w == false):=by
  intro d hd h1 h2 hw
  unfold law39_settled
  refine ok_eq (ok_bnde h1 (ok_bnde h2 (ok_jn (fun z=>z=false) ?_ ?_)))
  ·intro k hk
   refine ok_brf (by simp) (ok_bnde (x:=b) rfl (ok_bnde (x:=b) rfl (ok_brf (by simp) (ok_bnde (x:=u) rfl (ok_bnde (x:=u) rfl (ok_brf (by simp) (hk _ (by simp))))))))
  ·rintro z rfl
   refine ok_brf rfl (ok_loop (fun s=>s=0) (fun _=>0) rfl (by decide) ?_)
   rintro s k rfl hk
   unfold law39_settled_l1
   refine ok_brf (by simp [hd,lenI]) (ok_brt (by simp) (ok_brt (by simp) (ok_brt (by simp) (ok_brt (by simp) (ok_brt (by simp) (ok_some (by simp [hw])))))))
 cases w with
 | false=>exact key (zGChoice,false) rfl rfl rfl rfl
 | true =>
  refine key (c,true) hc ?_ ?_ rfl
  ·show bnd (ask_copied_option c.options) _=_
   unfold ask_copied_option
   rw [hc]
   exact ok_eq (ok_bnde (ok_eq (ok_room (by simp) (by simp) (ok_some rfl))) (ok_some (by rw [← hc]; rfl)))
  ·show bnd (r36_Copy c) _=_
   unfold r36_Copy
   exact ok_eq (ok_bnde (ok_eq (ok_room (by simp [hc]) (by simp [hc]) (ok_some rfl))) (ok_some rfl))
def szGLaw39Use (x:GLaw39Use):Prop:=(szL szGCard) x.cards∧szGState x.s
theorem valid39_ok (cards:List GCard) (s:GState) (hc:szL szGCard cards) (hs:szGState s):Ok (fun r=>r=true→ValidS s) (law39_valid cards s):=by
 unfold law39_valid
 exact ok_bnd (tot_r22_Check cards hc) fun y _=>ok_brd (fun _=>ok_bnd (Is_ok cards s hc hs) fun r hr=>ok_some hr) fun _=>ok_some fun h=>by cases h
theorem leftF_sz {s:GState} (hs:szGState s) {n:Nat} (hn:n<s.players.length) (c:GCost) (v:Int):szGState (paid s n s.players[n] c v):=by
 refine ⟨⟨by simpa [paid] using hs.1.1,fun x hx=>?_⟩,hs.2⟩
 rcases List.mem_or_eq_of_mem_set hx with h | rfl
 ·exact hs.1.2 x h
 ·have:=hs.1.2 s.players[n] (List.getElem_mem hn)
  exact this
theorem CostMana_true (u:GLaw39Use) (c:GCost) (answers:List (List Int)) (hu:szGLaw39Use u) (ha:szL (szL (fun (_:Int)=>True)) answers):law39_CostMana u c answers=some true:=by
 obtain ⟨hc,hs⟩:=hu
 unfold law39_CostMana
 refine ok_eq (ok_bnd (valid39_ok u.cards u.s hc hs) fun r hr=>ok_br (fun _=>ok_bnde alive39_ok (ok_some rfl)) fun h=>?_)
 refine ok_bnde (ask_New_ok answers ha) (ok_bnde (r36_New_ok answers ha) ?_)
 have fin:∀ {a b:Bool} (s:GState) (x:Int) (_:szGState s),Ok (fun r=>r=true) (br true (br true (br (a == a) (br (b == false) (some true) (br (decide (x=x)) (bnd (r26_Same s s) fun y9=>some y9) (some false))) (some false)) (some false)) (some false)):=fun s x h =>
  ok_brt rfl (ok_brt rfl (ok_brt (by simp) (ok_br (fun _=>ok_some rfl) fun _=>ok_brt (by simp) (ok_bnde (same_state s h) (ok_some rfl)))))
 by_cases hp:0≤u.p∧u.p<(u.s.players.length:Int)
 ·obtain ⟨n,hn⟩:=Int.eq_ofNat_of_zero_le hp.1
  have hl:n<u.s.players.length:=by omega
  obtain ⟨m,_,hm⟩:=MostX_ok u.s.players[n].pool c
  rw [hn]
  by_cases h0:m<0
  ·refine ok_bnde (cost_Mana_no answers u.s hs n hl u.id c hm h0) (ok_bnde (r39_Mana_no answers u.s hs n hl u.id c hm h0) (ok_bnde (settled_ok answers (numC 0 0 0) rfl (0,0,false,false)) (ok_bnde alive39_ok ?_)))
   exact fin u.s 0 hs
  ·have h0:0≤m:=by omega
   refine ok_bnde (cost_Mana_yes answers ha u.s hs n hl u.id c hm h0) (ok_bnde (r39_Mana_yes answers ha u.s hs n hl u.id c hm h0) (ok_bnde (settled_ok answers (numC n u.id m) rfl (mpX c m answers)) (ok_bnde alive39_ok ?_)))
   exact fin _ _ (leftF_sz hs hl c _)
 ·refine ok_bnde (cost_Mana_bad answers u.s hs u.p u.id c hp) (ok_bnde (r39_Mana_bad answers u.s hs u.p u.id c hp) (ok_bnde (settled_ok answers (numC 0 0 0) rfl (0,0,false,false)) (ok_bnde alive39_ok ?_)))
  exact fin u.s 0 hs
end Go.Proofs.YtddcpnlflncahaaGreat
