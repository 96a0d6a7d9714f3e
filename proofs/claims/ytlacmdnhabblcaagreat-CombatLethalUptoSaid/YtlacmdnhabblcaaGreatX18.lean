import Derived.JoinedCond
import Derived.Test.YtlacmdnhabblcaaGreatX06
import Derived.Test.YtlacmdnhabblcaaGreatX11
import Derived.Test.YtlacmdnhabblcaaGreatX16
import Derived.Test.YtlacmdnhabblcaaGreatX17
set_option linter.all false
namespace Go.Proofs.YtlacmdnhabblcaaGreat
open Go Go.Pv
set_option maxRecDepth 100000
def szGFilter (x:GFilter):Prop:=szB x.sub
def szGMod (x:GMod):Prop:=szB x.sub∧szGFilter x.filter
def szGTrigger (x:GTrigger):Prop:=szGFilter x.filter
def szGSpec (x:GSpec):Prop:=szGFilter x.filter
def szGRef (x:GRef):Prop:=szGFilter x.filter
def szGAmount (x:GAmount):Prop:=szGFilter x.filter
def szGEffect (x:GEffect):Prop:=szGRef x.ref∧szGAmount x.amount∧szB x.card∧szGFilter x.filter∧(szL szGMod) x.mods
def szGReplace (x:GReplace):Prop:=szGFilter x.filter
def szGAbility (x:GAbility):Prop:=szGFilter x.filter∧(szL szGMod) x.mods∧szGTrigger x.trigger∧(szL szGSpec) x.specs∧(szL szGEffect) x.effects∧szGReplace x.replace
def szGPlayer (x:GPlayer):Prop:=(szL (fun (_:Int)=>True)) x.library∧(szL (fun (_:Int)=>True)) x.hand∧(szL (fun (_:Int)=>True)) x.graveyard
def szGItem (x:GItem):Prop:=szGAbility x.ability∧(szL (fun (_:GTarget)=>True)) x.targets
def szGWaiting (x:GWaiting):Prop:=szGAbility x.ability
def szGCont (x:GCont):Prop:=(szL (fun (_:Int)=>True)) x.objects∧(szL szGMod) x.mods
def szGState (x:GState):Prop:=(szL szGPlayer) x.players∧(szL (fun (_:GObject)=>True)) x.objects∧(szL (fun (_:Int)=>True)) x.battlefield∧(szL (fun (_:Int)=>True)) x.exile∧(szL szGItem) x.stack∧(szL szGWaiting) x.waiting∧(szL szGCont) x.conts∧(szL (fun (_:Int)=>True)) x.extra
theorem ok_brt {ρ:Type} {Q:ρ→Prop} {c:Bool} {a b:Option ρ} (h:c=true) (hk:Ok Q a):Ok Q (br c a b):=by subst h; exact hk
theorem ok_brf {ρ:Type} {Q:ρ→Prop} {c:Bool} {a b:Option ρ} (h:c=false) (hk:Ok Q b):Ok Q (br c a b):=by subst h; exact hk
end Go.Proofs.YtlacmdnhabblcaaGreat
namespace Go.Proofs.YtlacmdnhabblcaaGreat
open Go Go.Pv
set_option maxRecDepth 100000
def szGLine (x:GLine):Prop:=(szL szB) x.subs
def szGTraits (x:GTraits):Prop:=szB x.name∧szGLine x.line∧(szL szGAbility) x.abilities
def szGLaw46Pair (x:GLaw46Pair):Prop:=szGTraits x.tB∧szGTraits x.tA
theorem tot_r17_Light (pe:GEffect) (zz_pe:szGEffect pe):Ok (fun r=>True) (r17_Light pe):=by
 unfold r17_Light
 have z1:szGRef (pe.ref):=(zz_pe).1
 have z2:szGFilter (pe.ref.filter):=((zz_pe).1)
 have z3:pe.ref.filter.sub.size≤1048576:=(((zz_pe).1))
 have z4:szGAmount (pe.amount):=(zz_pe).2.1
 have z5:szGFilter (pe.amount.filter):=((zz_pe).2.1)
 have z6:pe.amount.filter.sub.size≤1048576:=(((zz_pe).2.1))
 have z7:pe.card.size≤1048576:=(zz_pe).2.2.1
 have z8:szGFilter (pe.filter):=(zz_pe).2.2.2.1
 have z9:pe.filter.sub.size≤1048576:=((zz_pe).2.2.2.1)
 have z10:pe.mods.length≤1048576:=((zz_pe).2.2.2.2).1
 have z11:∀ y∈pe.mods,szGMod y:=((zz_pe).2.2.2.2).2
 refine ok_jn (fun (s1:Bool)=>s1=false→¬(100<(pe.amount.filter.sub.size:Int))∧¬(100<(pe.card.size:Int))∧¬(100<(pe.filter.sub.size:Int))∧¬(100<(pe.ref.filter.sub.size:Int))∧¬(20<(pe.mods.length:Int))) (fun k2 hk12=>?_) (fun s1 hs13=>?_)
 ·skip
  refine ok_brd (fun h14=>?_) (fun h14=>?_)
  ·skip
   exact hk12 _ (by intro hh; first | (cases hh; done) | omega | (have hh2:=of_decide_eq_false hh; (try simp only [lenI] at hh2); omega) | (simp at hh; (try simp only [lenI] at hh); omega))
  ·skip
   refine ok_brd (fun h15=>?_) (fun h15=>?_)
   ·skip
    exact hk12 _ (by intro hh; first | (cases hh; done) | omega | (have hh2:=of_decide_eq_false hh; (try simp only [lenI] at hh2); omega) | (simp at hh; (try simp only [lenI] at hh); omega))
   ·skip
    refine ok_brd (fun h16=>?_) (fun h16=>?_)
    ·skip
     exact hk12 _ (by intro hh; first | (cases hh; done) | omega | (have hh2:=of_decide_eq_false hh; (try simp only [lenI] at hh2); omega) | (simp at hh; (try simp only [lenI] at hh); omega))
    ·skip
     refine ok_brd (fun h17=>?_) (fun h17=>?_)
     ·skip
      exact hk12 _ (by intro hh; first | (cases hh; done) | omega | (have hh2:=of_decide_eq_false hh; (try simp only [lenI] at hh2); omega) | (simp at hh; (try simp only [lenI] at hh); omega))
     ·skip
      exact hk12 _ (by intro hh; first | (cases hh; done) | omega | (have hh2:=of_decide_eq_false hh; (try simp only [lenI] at hh2); omega) | (simp at hh; (try simp only [lenI] at hh); omega))
 ·skip
  refine ok_br (fun h18=>?_) (fun h18=>?_)
  ·skip
   exact ok_some trivial
  ·skip
   have hf19:=hs13 h18
   refine ok_loop (fun (s4:Int)=>0≤s4∧s4≤(pe.mods.length:Int)) (fun (s4:Int)=>((pe.mods.length:Int) - s4).toNat) ⟨(by (try simp only [List.length_append,List.length_cons,List.length_nil,List.length_set,List.length_replicate,bs_size]); omega),(by (try simp only [List.length_append,List.length_cons,List.length_nil,List.length_set,List.length_replicate,bs_size]); omega)⟩ (by show _<18446744073709551616; (try simp only [List.length_append,List.length_cons,List.length_nil]); omega) (fun s4 k5 hI20 hk21=>?_)
   obtain ⟨hI20_0,hI20_1⟩:=hI20
   unfold r17_Light_l1
   refine ok_brd (fun h22=>?_) (fun h22=>?_)
   ·(try simp only [lenI] at h22)
    refine ok_jn (fun (s7:Bool)=>True) (fun k8 hk23=>?_) (fun s7 hs24=>?_)
    ·skip
     refine ok_ix (by (try simp only [List.length_append,List.length_cons,List.length_nil,List.length_set,List.length_replicate,bs_size]); omega) (by (try simp only [List.length_append,List.length_cons,List.length_nil,List.length_set,List.length_replicate,bs_size]); omega) (fun x10 h25=>?_)
     have z26:szGMod x10:=z11 x10 h25
     have z27:x10.sub.size≤1048576:=(z26).1
     have z28:szGFilter (x10.filter):=(z26).2
     have z29:x10.filter.sub.size≤1048576:=((z26).2)
     refine ok_brd (fun h30=>?_) (fun h30=>?_)
     ·skip
      exact hk23 _ trivial
     ·skip
      refine ok_ix (by (try simp only [List.length_append,List.length_cons,List.length_nil,List.length_set,List.length_replicate,bs_size]); omega) (by (try simp only [List.length_append,List.length_cons,List.length_nil,List.length_set,List.length_replicate,bs_size]); omega) (fun x11 h31=>?_)
      have z32:szGMod x11:=z11 x11 h31
      have z33:x11.sub.size≤1048576:=(z32).1
      have z34:szGFilter (x11.filter):=(z32).2
      have z35:x11.filter.sub.size≤1048576:=((z32).2)
      exact hk23 _ trivial
    ·skip
     refine ok_br (fun h36=>?_) (fun h36=>?_)
     ·skip
      exact ok_some trivial
     ·skip
      have h37:addI s4 1=s4+1:=addI_eq (by omega) (by omega)
      exact hk21 _ ⟨(by (try simp only [List.length_append,List.length_cons,List.length_nil,List.length_set,List.length_replicate,bs_size]); omega),(by (try simp only [List.length_append,List.length_cons,List.length_nil,List.length_set,List.length_replicate,bs_size]); omega)⟩ (by (try simp only [List.length_append,List.length_cons,List.length_nil,List.length_set,List.length_replicate,bs_size]); omega)
   ·(try simp only [lenI] at h22)
    exact ok_some trivial
theorem tot_r17_LightList (l:List GEffect) (zz_l:(szL szGEffect) l):Ok (fun r=>True) (r17_LightList l):=by
 unfold r17_LightList
 have z1:l.length≤1048576:=(zz_l).1
 have z2:∀ y∈l,szGEffect y:=(zz_l).2
 refine ok_loop (fun (s1:Int)=>0≤s1∧s1≤(l.length:Int)) (fun (s1:Int)=>((l.length:Int) - s1).toNat) ⟨(by (try simp only [List.length_append,List.length_cons,List.length_nil,List.length_set,List.length_replicate,bs_size]); omega),(by (try simp only [List.length_append,List.length_cons,List.length_nil,List.length_set,List.length_replicate,bs_size]); omega)⟩ (by show _<18446744073709551616; (try simp only [List.length_append,List.length_cons,List.length_nil]); omega) (fun s1 k2 hI3 hk4=>?_)
 obtain ⟨hI3_0,hI3_1⟩:=hI3
 unfold r17_LightList_l1
 refine ok_brd (fun h5=>?_) (fun h5=>?_)
 ·(try simp only [lenI] at h5)
  refine ok_ix (by (try simp only [List.length_append,List.length_cons,List.length_nil,List.length_set,List.length_replicate,bs_size]); omega) (by (try simp only [List.length_append,List.length_cons,List.length_nil,List.length_set,List.length_replicate,bs_size]); omega) (fun x4 h6=>?_)
  have z7:szGEffect x4:=z2 x4 h6
  have z8:szGRef (x4.ref):=(z7).1
  have z9:szGFilter (x4.ref.filter):=((z7).1)
  have z10:x4.ref.filter.sub.size≤1048576:=(((z7).1))
  have z11:szGAmount (x4.amount):=(z7).2.1
  have z12:szGFilter (x4.amount.filter):=((z7).2.1)
  have z13:x4.amount.filter.sub.size≤1048576:=(((z7).2.1))
  have z14:x4.card.size≤1048576:=(z7).2.2.1
  have z15:szGFilter (x4.filter):=(z7).2.2.2.1
  have z16:x4.filter.sub.size≤1048576:=((z7).2.2.2.1)
  have z17:x4.mods.length≤1048576:=((z7).2.2.2.2).1
  have z18:∀ y∈x4.mods,szGMod y:=((z7).2.2.2.2).2
  refine ok_bnd (tot_r17_Light _ (by first | assumption | (refine ⟨by omega,?_⟩; first | (intro _ _; trivial) | assumption) | (unfold szGEffect; simp_all [szB,szL]))) (fun y5 h19=>?_)
  refine ok_br (fun h20=>?_) (fun h20=>?_)
  ·skip
   exact ok_some trivial
  ·skip
   have h21:addI s1 1=s1+1:=addI_eq (by omega) (by omega)
   exact hk4 _ ⟨(by (try simp only [List.length_append,List.length_cons,List.length_nil,List.length_set,List.length_replicate,bs_size]); omega),(by (try simp only [List.length_append,List.length_cons,List.length_nil,List.length_set,List.length_replicate,bs_size]); omega)⟩ (by (try simp only [List.length_append,List.length_cons,List.length_nil,List.length_set,List.length_replicate,bs_size]); omega)
 ·(try simp only [lenI] at h5)
  exact ok_some trivial
theorem tot_r20_Light (a:GAbility) (zz_a:szGAbility a):Ok (fun r=>True) (r20_Light a):=by
 unfold r20_Light
 have z1:szGFilter (a.filter):=(zz_a).1
 have z2:a.filter.sub.size≤1048576:=((zz_a).1)
 have z3:a.mods.length≤1048576:=((zz_a).2.1).1
 have z4:∀ y∈a.mods,szGMod y:=((zz_a).2.1).2
 have z5:szGTrigger (a.trigger):=(zz_a).2.2.1
 have z6:szGFilter (a.trigger.filter):=((zz_a).2.2.1)
 have z7:a.trigger.filter.sub.size≤1048576:=(((zz_a).2.2.1))
 have z8:a.specs.length≤1048576:=((zz_a).2.2.2.1).1
 have z9:∀ y∈a.specs,szGSpec y:=((zz_a).2.2.2.1).2
 have z10:a.effects.length≤1048576:=((zz_a).2.2.2.2.1).1
 have z11:∀ y∈a.effects,szGEffect y:=((zz_a).2.2.2.2.1).2
 have z12:szGReplace (a.replace):=(zz_a).2.2.2.2.2
 have z13:szGFilter (a.replace.filter):=((zz_a).2.2.2.2.2)
 have z14:a.replace.filter.sub.size≤1048576:=(((zz_a).2.2.2.2.2))
 refine ok_jn (fun (s1:Bool)=>s1=false→¬(100<(a.filter.sub.size:Int))∧¬(100<(a.replace.filter.sub.size:Int))∧¬(100<(a.trigger.filter.sub.size:Int))∧¬(20<(a.mods.length:Int))∧¬(20<(a.specs.length:Int))) (fun k2 hk15=>?_) (fun s1 hs16=>?_)
 ·skip
  refine ok_brd (fun h17=>?_) (fun h17=>?_)
  ·skip
   exact hk15 _ (by intro hh; first | (cases hh; done) | omega | (have hh2:=of_decide_eq_false hh; (try simp only [lenI] at hh2); omega) | (simp at hh; (try simp only [lenI] at hh); omega))
  ·skip
   refine ok_brd (fun h18=>?_) (fun h18=>?_)
   ·(try simp only [lenI] at h18)
    exact hk15 _ (by intro hh; first | (cases hh; done) | omega | (have hh2:=of_decide_eq_false hh; (try simp only [lenI] at hh2); omega) | (simp at hh; (try simp only [lenI] at hh); omega))
   ·(try simp only [lenI] at h18)
    refine ok_brd (fun h19=>?_) (fun h19=>?_)
    ·skip
     exact hk15 _ (by intro hh; first | (cases hh; done) | omega | (have hh2:=of_decide_eq_false hh; (try simp only [lenI] at hh2); omega) | (simp at hh; (try simp only [lenI] at hh); omega))
    ·skip
     refine ok_brd (fun h20=>?_) (fun h20=>?_)
     ·(try simp only [lenI] at h20)
      exact hk15 _ (by intro hh; first | (cases hh; done) | omega | (have hh2:=of_decide_eq_false hh; (try simp only [lenI] at hh2); omega) | (simp at hh; (try simp only [lenI] at hh); omega))
     ·(try simp only [lenI] at h20)
      refine ok_brd (fun h21=>?_) (fun h21=>?_)
      ·skip
       exact hk15 _ (by intro hh; first | (cases hh; done) | omega | (have hh2:=of_decide_eq_false hh; (try simp only [lenI] at hh2); omega) | (simp at hh; (try simp only [lenI] at hh); omega))
      ·skip
       refine ok_bnd (tot_r17_LightList _ (by first | assumption | (refine ⟨by omega,?_⟩; first | (intro _ _; trivial) | assumption))) (fun y4 h22=>?_)
       exact hk15 _ (by intro hh; first | (cases hh; done) | omega | (have hh2:=of_decide_eq_false hh; (try simp only [lenI] at hh2); omega) | (simp at hh; (try simp only [lenI] at hh); omega))
 ·skip
  refine ok_br (fun h23=>?_) (fun h23=>?_)
  ·skip
   exact ok_some trivial
  ·skip
   have hf24:=hs16 h23
   refine ok_loop (fun (s5:Int)=>0≤s5∧s5≤(a.mods.length:Int)) (fun (s5:Int)=>((a.mods.length:Int) - s5).toNat) ⟨(by (try simp only [List.length_append,List.length_cons,List.length_nil,List.length_set,List.length_replicate,bs_size]); omega),(by (try simp only [List.length_append,List.length_cons,List.length_nil,List.length_set,List.length_replicate,bs_size]); omega)⟩ (by show _<18446744073709551616; (try simp only [List.length_append,List.length_cons,List.length_nil]); omega) (fun s5 k6 hI25 hk26=>?_)
   obtain ⟨hI25_0,hI25_1⟩:=hI25
   unfold r20_Light_l2
   refine ok_brd (fun h27=>?_) (fun h27=>?_)
   ·(try simp only [lenI] at h27)
    refine ok_jn (fun (s8:Bool)=>True) (fun k9 hk28=>?_) (fun s8 hs29=>?_)
    ·skip
     refine ok_ix (by (try simp only [List.length_append,List.length_cons,List.length_nil,List.length_set,List.length_replicate,bs_size]); omega) (by (try simp only [List.length_append,List.length_cons,List.length_nil,List.length_set,List.length_replicate,bs_size]); omega) (fun x11 h30=>?_)
     have z31:szGMod x11:=z4 x11 h30
     have z32:x11.sub.size≤1048576:=(z31).1
     have z33:szGFilter (x11.filter):=(z31).2
     have z34:x11.filter.sub.size≤1048576:=((z31).2)
     refine ok_brd (fun h35=>?_) (fun h35=>?_)
     ·skip
      exact hk28 _ trivial
     ·skip
      refine ok_ix (by (try simp only [List.length_append,List.length_cons,List.length_nil,List.length_set,List.length_replicate,bs_size]); omega) (by (try simp only [List.length_append,List.length_cons,List.length_nil,List.length_set,List.length_replicate,bs_size]); omega) (fun x12 h36=>?_)
      have z37:szGMod x12:=z4 x12 h36
      have z38:x12.sub.size≤1048576:=(z37).1
      have z39:szGFilter (x12.filter):=(z37).2
      have z40:x12.filter.sub.size≤1048576:=((z37).2)
      exact hk28 _ trivial
    ·skip
     refine ok_br (fun h41=>?_) (fun h41=>?_)
     ·skip
      exact ok_some trivial
     ·skip
      have h42:addI s5 1=s5+1:=addI_eq (by omega) (by omega)
      exact hk26 _ ⟨(by (try simp only [List.length_append,List.length_cons,List.length_nil,List.length_set,List.length_replicate,bs_size]); omega),(by (try simp only [List.length_append,List.length_cons,List.length_nil,List.length_set,List.length_replicate,bs_size]); omega)⟩ (by (try simp only [List.length_append,List.length_cons,List.length_nil,List.length_set,List.length_replicate,bs_size]); omega)
   ·(try simp only [lenI] at h27)
    refine ok_loop (fun (s13:Int)=>0≤s13∧s13≤(a.specs.length:Int)) (fun (s13:Int)=>((a.specs.length:Int) - s13).toNat) ⟨(by (try simp only [List.length_append,List.length_cons,List.length_nil,List.length_set,List.length_replicate,bs_size]); omega),(by (try simp only [List.length_append,List.length_cons,List.length_nil,List.length_set,List.length_replicate,bs_size]); omega)⟩ (by show _<18446744073709551616; (try simp only [List.length_append,List.length_cons,List.length_nil]); omega) (fun s13 k14 hI43 hk44=>?_)
    obtain ⟨hI43_0,hI43_1⟩:=hI43
    unfold r20_Light_l1
    refine ok_brd (fun h45=>?_) (fun h45=>?_)
    ·(try simp only [lenI] at h45)
     refine ok_ix (by (try simp only [List.length_append,List.length_cons,List.length_nil,List.length_set,List.length_replicate,bs_size]); omega) (by (try simp only [List.length_append,List.length_cons,List.length_nil,List.length_set,List.length_replicate,bs_size]); omega) (fun x16 h46=>?_)
     have z47:szGSpec x16:=z9 x16 h46
     have z48:szGFilter (x16.filter):=(z47)
     have z49:x16.filter.sub.size≤1048576:=((z47))
     refine ok_brd (fun h50=>?_) (fun h50=>?_)
     ·skip
      exact ok_some trivial
     ·skip
      have h51:addI s13 1=s13+1:=addI_eq (by omega) (by omega)
      exact hk44 _ ⟨(by (try simp only [List.length_append,List.length_cons,List.length_nil,List.length_set,List.length_replicate,bs_size]); omega),(by (try simp only [List.length_append,List.length_cons,List.length_nil,List.length_set,List.length_replicate,bs_size]); omega)⟩ (by (try simp only [List.length_append,List.length_cons,List.length_nil,List.length_set,List.length_replicate,bs_size]); omega)
    ·(try simp only [lenI] at h45)
     exact ok_some trivial
theorem sz_zGAbilityM (m:List GMod) (h:szL szGMod m):szGAbility (GAbility.mk 0 zGFilter m zGPrice false zGTrigger false ([]) ([]) zGReplace):=by
 simp [szGAbility,szGFilter,szGTrigger,szGReplace,szL,szB,zGFilter,zGTrigger,zGReplace,bs_size,h] <;> exact h
theorem tot_r26_Small (s:GState) (zz_s:szGState s):Ok (fun r=>True) (r26_Small s):=by
 obtain ⟨p1,p2,p3,p4,p5,p6,p7,p8⟩:=zz_s
 have q1:=p1.1
 have q5:=p5.1
 have q6:=p6.1
 have q7:=p7.1
 have w1:Ok (fun r=>True) (loopF (r26_Small_l1 s) 0):=by
  refine ok_for1 0 s.conts.length (fun _=>True) 0 rfl (Nat.zero_le _) (by omega) trivial (fun i k hi _ hk=>?_) fun k _=>?_
  ·unfold r26_Small_l1
   refine ok_brt (by simp [lenI]; omega) (ok_jn (fun _=>True) (fun k2 h2=>?_) fun b _=>?_)
   ·refine ok_ixL i rfl hi (ok_br (fun _=>h2 _ trivial) fun _=>ok_ixL i rfl hi (ok_bnd (tot_r20_Light _ (sz_zGAbilityM _ (p7.2 _ (List.getElem_mem hi)).2)) fun y _=>h2 _ trivial))
   ·exact ok_br (fun _=>ok_some trivial) fun _=>hk trivial
  ·unfold r26_Small_l1
   exact ok_brf (by simp [lenI]) (ok_some trivial)
 have w2:Ok (fun r=>True) (loopF (r26_Small_l2 s) 0):=by
  refine ok_for1 0 s.waiting.length (fun _=>True) 0 rfl (Nat.zero_le _) (by omega) trivial (fun i k hi _ hk=>?_) fun k _=>?_
  ·unfold r26_Small_l2
   exact ok_brt (by simp [lenI]; omega) (ok_ixL i rfl hi (ok_bnd (tot_r20_Light _ (p6.2 _ (List.getElem_mem hi))) fun y _=>ok_br (fun _=>ok_some trivial) fun _=>hk trivial))
  ·unfold r26_Small_l2
   exact ok_brf (by simp [lenI]) w1
 have w3:Ok (fun r=>True) (loopF (r26_Small_l3 s) 0):=by
  refine ok_for1 0 s.stack.length (fun _=>True) 0 rfl (Nat.zero_le _) (by omega) trivial (fun i k hi _ hk=>?_) fun k _=>?_
  ·unfold r26_Small_l3
   refine ok_brt (by simp [lenI]; omega) (ok_jn (fun _=>True) (fun k2 h2=>?_) fun b _=>?_)
   ·refine ok_ixL i rfl hi (ok_br (fun _=>h2 _ trivial) fun _=>ok_ixL i rfl hi (ok_bnd (tot_r20_Light _ (p5.2 _ (List.getElem_mem hi)).1) fun y _=>h2 _ trivial))
   ·exact ok_br (fun _=>ok_some trivial) fun _=>hk trivial
  ·unfold r26_Small_l3
   exact ok_brf (by simp [lenI]) w2
 unfold r26_Small
 refine ok_lt (ok_lt ?_)
 refine ok_forr 0 s.players.length (fun _ _=>True) 0 rfl (Nat.zero_le _) (by omega) trivial (fun i t k hi _ hk=>?_) fun t k _=>?_
 ·unfold r26_Small_l4
  refine ok_jn (fun _=>True) (fun k2 h2=>ok_br (fun _=>h2 _ trivial) fun _=>h2 _ trivial) fun b _=>ok_br (fun _=>ok_ixL i rfl hi (ok_ixL i rfl hi (ok_ixL i rfl hi (ok_lt (hk _ trivial))))) fun _=>ok_jn (fun _=>True) (fun k2 h2=>ok_br (fun _=>h2 _ trivial) fun _=>h2 _ trivial) fun b _=>ok_br (fun _=>ok_some trivial) fun _=>w3
 ·unfold r26_Small_l4
  refine ok_jn (fun b=>b=false) (fun k2 h2=>ok_brf (by simp [lenI]) (h2 _ rfl)) fun b hb=>?_
  subst hb
  exact ok_brf rfl (ok_jn (fun _=>True) (fun k2 h2=>ok_br (fun _=>h2 _ trivial) fun _=>h2 _ trivial) fun b _=>ok_br (fun _=>ok_some trivial) fun _=>w3)
end Go.Proofs.YtlacmdnhabblcaaGreat
namespace Go.Proofs.YtlacmdnhabblcaaGreat
open Go Go.Pv
set_option maxRecDepth 100000
def hasB (m:Int) (j:Nat):Bool:=decide (m.toNat / 2 ^ j % 2=1)
theorem i64_wf {x:Int} (h:(Lit.int .i64 x).wf=true) : -9223372036854775808≤x∧x≤9223372036854775807:=by
 have:(decide (IntKind.i64.min≤x) && decide (x≤IntKind.i64.max))=true:=h
 simp only [Bool.and_eq_true,decide_eq_true_eq] at this
 exact ⟨this.1,this.2⟩
theorem and_two (m j:Nat):m &&& 2 ^ j=if m / 2 ^ j % 2=1 then 2 ^ j else 0:=by
 have hb:m.testBit j=decide (m / 2 ^ j % 2=1):=Nat.testBit_eq_decide_div_mod_eq
 refine Nat.eq_of_testBit_eq fun i=>?_
 rw [Nat.testBit_and,Nat.testBit_two_pow]
 by_cases h:m / 2 ^ j % 2=1
 ·rw [if_pos h,Nat.testBit_two_pow]
  by_cases e:j=i
  ·subst e; rw [hb]; simp [h]
  ·simp [e]
 ·rw [if_neg h]
  by_cases e:j=i
  ·subst e; rw [hb]; simp [h]
  ·simp [e]
theorem and_bit (m j:Nat) (hm:m<2 ^ 63) (hj:j<63):stdBin .and .i64 (m:Int) ((2 ^ j:Nat):Int)=((if m / 2 ^ j % 2=1 then 2 ^ j else 0:Nat):Int):=by
 have hp:2 ^ j<2 ^ 63:=Nat.pow_lt_pow_right (by decide) hj
 have e:(BitVec.ofInt 64 (m:Int) &&& BitVec.ofInt 64 ((2 ^ j:Nat):Int)).toNat=if m / 2 ^ j % 2=1 then 2 ^ j else 0:=by
  rw [BitVec.toNat_and,BitVec.ofInt_natCast,BitVec.ofInt_natCast,BitVec.toNat_ofNat,BitVec.toNat_ofNat,Nat.mod_eq_of_lt (by omega),Nat.mod_eq_of_lt (by omega),and_two]
 show IntKind.i64.wrap (((BitVec.ofInt 64 (m:Int) &&& BitVec.ofInt 64 ((2 ^ j:Nat):Int)).toNat:Nat):Int)=_
 rw [e]
 refine wrap_in (by omega) ?_
 split <;> omega
theorem has46 (m j:Nat) (hm:m<2 ^ 63):r46_has (m:Int) ((2 ^ j:Nat):Int)=some (hasB m j):=by
 have hp:0<2 ^ j:=Nat.two_pow_pos j
 have hq:m / 2 ^ j≤m:=Nat.div_le_self _ _
 unfold r46_has hasB
 refine ok_eq (ok_divquo (by omega) fun x hx=>ok_divrem (by omega) fun y hy=>ok_some ?_)
 have e1:x=((m / 2 ^ j:Nat):Int):=by
  rw [hx,← Int.ofNat_tdiv]
  generalize m / 2 ^ j=z at hq
  exact wrap_in (by omega) (by omega)
 have e2:y=((m / 2 ^ j % 2:Nat):Int):=by
  rw [hy,e1]; rfl
 rw [e2,Int.toNat_natCast]
 exact decide_eq_decide.2 (by omega)
theorem key46 (m j:Nat) (hm:m<2 ^ 63) (hj:j<63):keyword_Has (m:Int) ((2 ^ j:Nat):Int)=some (hasB m j):=by
 have hp:0<2 ^ j:=Nat.two_pow_pos j
 unfold keyword_Has hasB
 rw [and_bit m j hm hj,Int.toNat_natCast]
 refine congrArg some (decide_eq_decide.2 ?_)
 by_cases h:m / 2 ^ j % 2=1
 ·rw [if_pos h]; simp [h]
 ·rw [if_neg h]; simp only [h,iff_false]; omega
theorem block_Can1 (t:GTraits) (j:Nat) (h0:0≤t.keys) (h1:t.keys<9223372036854775808) (hj:j<63):block_Can_1 t ((2 ^ j:Nat):Int)=some (hasB t.keys j):=by
 obtain ⟨m,hm⟩:=Int.eq_ofNat_of_zero_le h0
 unfold block_Can_1
 rw [hm]
 exact ok_eq (ok_bnde (key46 m j (by omega) hj) (ok_some rfl))
theorem has46i (k:Int) (j:Nat) (h0:0≤k) (h1:k<9223372036854775808):r46_has k ((2 ^ j:Nat):Int)=some (hasB k j):=by
 obtain ⟨m,rfl⟩:=Int.eq_ofNat_of_zero_le h0
 exact has46 m j (by omega)
def canR (b:GObject) (tb:GTraits) (ta:GTraits):Bool :=
 bif !hasB tb.line.types 0 || b.tapped || hasB tb.keys 15 || hasB ta.keys 13 then false else !hasB ta.keys 0 || hasB tb.keys 0 || hasB tb.keys 1
theorem block_Can_ok (b:GObject) (tb:GTraits) (a:GObject) (ta:GTraits) (h1:0≤tb.line.types∧tb.line.types<9223372036854775808) (h2:0≤tb.keys∧tb.keys<9223372036854775808) (h3:0≤ta.keys∧ta.keys<9223372036854775808):block_Can b tb a ta=some (canR b tb ta):=by
 have e1:(decide ((stdBin .and .i64 tb.line.types 1)=0))=!hasB tb.line.types 0:=by
  obtain ⟨m,hm⟩:=Int.eq_ofNat_of_zero_le h1.1
  rw [hm]
  have:=and_bit m 0 (by omega) (by omega)
  rw [show (1:Int)=((2 ^ 0:Nat):Int) from rfl,this]
  unfold hasB
  by_cases h:m / 2 ^ 0 % 2=1
  ·rw [if_pos h,Int.toNat_natCast,decide_eq_true h]; rfl
  ·rw [if_neg h,Int.toNat_natCast,decide_eq_false h]; rfl
 have k0:=block_Can1 ta 0 h3.1 h3.2 (by omega)
 have k1:=block_Can1 tb 0 h2.1 h2.2 (by omega)
 have k2:=block_Can1 tb 1 h2.1 h2.2 (by omega)
 have k3:=block_Can1 tb 15 h2.1 h2.2 (by omega)
 have k4:=block_Can1 ta 13 h3.1 h3.2 (by omega)
 unfold block_Can canR
 rw [e1]
 refine ok_eq (ok_jn (fun s=>s=(!hasB tb.line.types 0 || b.tapped || hasB tb.keys 15 || hasB ta.keys 13)) ?_ ?_)
 ·intro k hk
  refine ok_br (fun c1=>hk _ (by simp [c1])) fun c1=>ok_br (fun c2=>hk _ (by simp [c2])) fun c2=>ok_bnde k3 (ok_br (fun c3=>hk _ (by simp [c3])) fun c3=>ok_bnde k4 (hk _ (by simp [c1,c2,c3])))
 ·rintro s rfl
  refine ok_br (fun c=>ok_some (by rw [c]; rfl)) fun c=>?_
  rw [c]
  refine ok_bnde k0 (ok_br (fun d1=>ok_some ?_) fun d1=>ok_bnde k1 (ok_br (fun d2=>ok_some ?_) fun d2=>ok_bnde k2 (ok_some ?_)))
  ·simp at d1; simp [d1]
  ·simp [d2]
  ·simp at d1; simp [d1,d2]
theorem r46_Can_ok (b:GObject) (tb:GTraits) (a:GObject) (ta:GTraits) (h1:0≤tb.line.types∧tb.line.types<9223372036854775808) (h2:0≤tb.keys∧tb.keys<9223372036854775808) (h3:0≤ta.keys∧ta.keys<9223372036854775808):r46_Can b tb a ta=some (canR b tb ta):=by
 have kt:=has46i tb.line.types 0 h1.1 h1.2
 have k0:=has46i ta.keys 0 h3.1 h3.2
 have k1:=has46i tb.keys 0 h2.1 h2.2
 have k2:=has46i tb.keys 1 h2.1 h2.2
 have k3:=has46i tb.keys 15 h2.1 h2.2
 have k4:=has46i ta.keys 13 h3.1 h3.2
 unfold r46_Can canR
 refine ok_eq (ok_jn (fun s=>s=(!hasB tb.line.types 0 || b.tapped || hasB tb.keys 15 || hasB ta.keys 13)) ?_ ?_)
 ·intro k hk
  refine ok_bnde kt (ok_br (fun c1=>hk _ (by simp at c1; simp [c1])) fun c1=>ok_br (fun c2=>hk _ (by simp [c2])) fun c2=>ok_bnde k3 (ok_br (fun c3=>hk _ (by simp [c3])) fun c3=>ok_bnde k4 (hk _ (by simp at c1; simp [c1,c2,c3]))))
 ·rintro s rfl
  refine ok_br (fun c=>ok_some (by rw [c]; rfl)) fun c=>?_
  rw [c]
  refine ok_bnde k0 (ok_br (fun d1=>ok_some ?_) fun d1=>ok_bnde k1 (ok_br (fun d2=>ok_some ?_) fun d2=>ok_bnde k2 (ok_some ?_)))
  ·simp at d1; simp [d1]
  ·simp [d2]
  ·simp at d1; simp [d1,d2]
theorem BlockCan_true (p:GLaw46Pair) (w1:(Lit.int .i64 p.tB.line.types).wf=true) (w2:(Lit.int .i64 p.tB.keys).wf=true) (w3:(Lit.int .i64 p.tA.keys).wf=true):law46_BlockCan p=some true:=by
 have v1:=i64_wf w1
 have v2:=i64_wf w2
 have v3:=i64_wf w3
 have al:law46_alive=some true:=rfl
 unfold law46_BlockCan
 refine ok_eq (ok_jn (fun s=>s=false→0≤p.tB.line.types∧0≤p.tB.keys∧0≤p.tA.keys) ?_ ?_)
 ·intro k hk
  refine ok_brd (fun _=>hk _ (fun h=>by cases h)) fun a1=>ok_brd (fun _=>hk _ (fun h=>by cases h)) fun a2=>hk _ fun h=>?_
  have:=of_decide_eq_false h
  omega
 ·intro s hs
  refine ok_br (fun _=>ok_bnde al (ok_some rfl)) fun e=>ok_bnde al (ok_brt rfl ?_)
  have h:=hs e
  have g1:0≤p.tB.line.types∧p.tB.line.types<9223372036854775808:=⟨h.1,by omega⟩
  have g2:0≤p.tB.keys∧p.tB.keys<9223372036854775808:=⟨h.2.1,by omega⟩
  have g3:0≤p.tA.keys∧p.tA.keys<9223372036854775808:=⟨h.2.2,by omega⟩
  exact ok_bnde (block_Can_ok _ _ _ _ g1 g2 g3) (ok_bnde (r46_Can_ok _ _ _ _ g1 g2 g3) (ok_some (by simp)))
end Go.Proofs.YtlacmdnhabblcaaGreat
namespace Go.Proofs.YtlacmdnhabblcaaGreat
open Go Go.Pv
set_option maxRecDepth 100000
theorem bnd_ix {ρ α:Type} {l:List α} {i:Nat} {k:α→Option ρ} (h:i<l.length):bnd (ixL l (i:Int)) k=k l[i]:=by
 rw [ixL_nat,List.getElem?_eq_getElem h]; rfl
theorem br_t {ρ:Type} {c:Bool} {a b:Option ρ} (h:c=true):br c a b=a:=by subst h; rfl
theorem br_f {ρ:Type} {c:Bool} {a b:Option ρ} (h:c=false):br c a b=b:=by subst h; rfl
def legS (need l:List Int) (i:Nat) (ok:Bool) (left:Int):Option (Bool × Int) :=
 match l[i]? with
 | none=>none
 | some x=>bif decide (x<0) || decide (left<x) || (decide (0<x) && !ok) then none
  else some (match need[i]? with | some y=>(bif decide (x<y) then false else ok) | none=>ok,subI left x)
theorem legal_step (need l:List Int) (i:Nat) (hi:i<l.length) (ok:Bool) (left:Int) (k:Bool × Int × Int→Option Bool) :
  combat_Legal_l1 need l (ok,(i:Int),left) k=match legS need l i ok left with | none=>some false | some (o,v)=>k (o,addI (i:Int) 1,v):=by
 have e:l[i]?=some l[i]:=List.getElem?_eq_getElem hi
 unfold combat_Legal_l1 legS
 rw [e,br_t (by simp [lenI]; omega)]
 simp only [jn,bnd_ix hi,combat_Legal_1_z0]
 generalize l[i]=x
 by_cases h1:x<0
 ·simp [br,bnd,h1]
 by_cases h2:left<x
 ·simp [br,bnd,h1,h2]
 by_cases h3:(i:Int)<lenI need
 ·have h4:i<need.length:=by simp only [lenI] at h3; omega
  have e4:need[i]?=some need[i]:=List.getElem?_eq_getElem h4
  have e5:ixL need (i:Int)=some need[i]:=by rw [ixL_nat]; exact e4
  rw [e4]
  generalize need[i]=y at e5
  simp only [br,h1,h2,h3,e5,bnd,decide_true,decide_false,cond_true,cond_false,Bool.false_or]
  by_cases h5:0<x <;> by_cases h6:x<y <;> cases ok <;> simp [h5,h6]
 ·have h4:¬ i<need.length:=by simp only [lenI] at h3; omega
  have e4:need[i]?=none:=List.getElem?_eq_none (by omega)
  rw [e4]
  simp only [br,h1,h2,h3,bnd,decide_true,decide_false,cond_true,cond_false,Bool.false_or]
  by_cases h5:0<x <;> cases ok <;> simp [h5]
theorem r47_step (need l:List Int) (i:Nat) (hi:i<l.length) (ok:Bool) (left:Int) (k:Int × Bool × Int→Option Bool) :
  r47_Legal_l1 need l (left,ok,(i:Int)) k=match legS need l i ok left with | none=>some false | some (o,v)=>k (v,o,addI (i:Int) 1):=by
 have e:l[i]?=some l[i]:=List.getElem?_eq_getElem hi
 unfold r47_Legal_l1 legS
 rw [e,br_t (by simp [lenI]; omega)]
 simp only [jn,bnd_ix hi]
 generalize l[i]=x
 by_cases h1:x<0
 ·simp [br,bnd,h1]
 by_cases h2:left<x
 ·simp [br,bnd,h1,h2]
 by_cases h3:(i:Int)<lenI need
 ·have h4:i<need.length:=by simp only [lenI] at h3; omega
  have e4:need[i]?=some need[i]:=List.getElem?_eq_getElem h4
  have e5:ixL need (i:Int)=some need[i]:=by rw [ixL_nat]; exact e4
  rw [e4]
  generalize need[i]=y at e5
  simp only [br,h1,h2,h3,e5,bnd,decide_true,decide_false,cond_true,cond_false,Bool.false_or]
  by_cases h5:0<x <;> by_cases h6:x<y <;> cases ok <;> simp [h5,h6]
 ·have h4:¬ i<need.length:=by simp only [lenI] at h3; omega
  have e4:need[i]?=none:=List.getElem?_eq_none (by omega)
  rw [e4]
  simp only [br,h1,h2,h3,bnd,decide_true,decide_false,cond_true,cond_false,Bool.false_or]
  by_cases h5:0<x <;> cases ok <;> simp [h5]
theorem legal_end (need l:List Int) (ok:Bool) (left:Int) (k:Bool × Int × Int→Option Bool):combat_Legal_l1 need l (ok,(l.length:Int),left) k=some (decide (left=0)):=by
 unfold combat_Legal_l1
 rw [br_f (by simp [lenI])]
theorem r47_end (need l:List Int) (ok:Bool) (left:Int) (k:Int × Bool × Int→Option Bool):r47_Legal_l1 need l (left,ok,(l.length:Int)) k=some (decide (left=0)):=by
 unfold r47_Legal_l1
 rw [br_f (by simp [lenI])]
theorem legal_loops (need l:List Int) (sum:Int) (hl:l.length≤1048576):loopF (combat_Legal_l1 need l) (true,0,sum)=loopF (r47_Legal_l1 need l) (sum,true,0)∧Ok (fun _=>True) (loopF (combat_Legal_l1 need l) (true,0,sum)):=by
 constructor
 ·refine loop_rel (fun s t=>∃ i:Nat,i≤l.length∧s.2.1=(i:Int)∧t.2.2=(i:Int)∧s.1=t.2.1∧s.2.2=t.1) ⟨0,by omega,rfl,rfl,rfl,rfl⟩ ?_
  rintro ⟨ok,i',left⟩ ⟨left',ok',i''⟩ k k' ⟨i,hi,e1,e2,e3,e4⟩ hk
  simp only at e1 e2 e3 e4
  subst e1 e2 e3 e4
  by_cases h:i=l.length
  ·subst h; rw [legal_end,r47_end]
  ·rw [legal_step need l i (by omega),r47_step need l i (by omega)]
   rcases legS need l i ok left with _ | ⟨o,v⟩
   ·rfl
   ·exact hk _ _ ⟨i+1,by omega,addI_nat (by omega),addI_nat (by omega),rfl,rfl⟩
 ·refine ok_loop (fun s=>∃ i:Nat,s.2.1=(i:Int)∧i≤l.length) (fun s=>l.length - s.2.1.toNat) ⟨0,rfl,by omega⟩ (by show l.length - _<18446744073709551616; omega) ?_
  rintro ⟨ok,i',left⟩ k ⟨i,e,hi⟩ hk
  simp only at e; subst e
  by_cases h:i=l.length
  ·subst h; rw [legal_end]; exact ok_some trivial
  ·rw [legal_step need l i (by omega)]
   rcases legS need l i ok left with _ | ⟨o,v⟩
   ·exact ok_some trivial
   ·refine hk _ ⟨i+1,addI_nat (by omega),by omega⟩ ?_
    simp only [addI_nat (show i<4611686018427387904 by omega),Int.toNat_natCast]; omega
theorem legal_same (need l:List Int) (sum:Int) (tr:Bool) (hl:l.length≤1048576):combat_Legal need l sum tr=r47_Legal need l sum tr∧Ok (fun _=>True) (combat_Legal need l sum tr):=by
 obtain ⟨h1,h2⟩:=legal_loops need l sum hl
 unfold combat_Legal r47_Legal
 rw [h1] at h2 ⊢
 refine ⟨rfl,?_⟩
 cases tr <;> exact ok_br (fun _=>ok_some trivial) fun _=>h2
theorem CombatLegal_true (need l:List Int) (sum:Int) (z1:szL (fun (_:Int)=>True) need) (z2:szL (fun (_:Int)=>True) l):law47_CombatLegal need l sum=some true:=by
 have al:law47_alive=some true:=rfl
 obtain ⟨a1,r1,b1,_⟩:=legal_same need l sum true z2.1
 obtain ⟨a2,r2,b2,_⟩:=legal_same need l sum false z2.1
 unfold law47_CombatLegal
 refine ok_eq (ok_jn (fun _=>True) (fun k h=>ok_br (fun _=>h _ trivial) fun _=>h _ trivial) fun s _=>ok_br (fun _=>ok_bnde al (ok_some rfl)) fun _=>?_)
 exact ok_bnde b1 (ok_bnde (a1 ▸ b1) (ok_brt (by simp) (ok_bnde b2 (ok_bnde (a2 ▸ b2) (ok_brt (by simp) (ok_bnde al (ok_some rfl)))))))
def clampN (n:Int):Int:=if 1000000<n then 1000000 else if n < -1000000 then -1000000 else n
theorem num_Clamp_ok (n:Int):num_Clamp n=some (clampN n):=by
 unfold num_Clamp clampN
 congr 1
 split <;> split <;> (try split) <;> (try split) <;> omega
theorem r01_Clamp_ok (n:Int):r01_Clamp n=some (clampN n):=by
 unfold r01_Clamp clampN
 by_cases h1:1000000<n
 ·simp [br,h1]
 ·by_cases h2:n < -1000000 <;> simp [br,h1,h2]
def subN (a b:Int):Int:=clampN (subI (clampN a) (clampN b))
theorem num_Sub_ok (a b:Int):num_Sub a b=some (subN a b):=by
 unfold num_Sub
 exact ok_eq (ok_bnde (num_Clamp_ok _) (ok_bnde (num_Clamp_ok _) (ok_bnde (num_Clamp_ok _) (ok_some rfl))))
theorem r01_Sub_ok (a b:Int):r01_Sub a b=some (subN a b):=by
 unfold r01_Sub
 exact ok_eq (ok_bnde (r01_Clamp_ok _) (ok_bnde (r01_Clamp_ok _) (ok_bnde (r01_Clamp_ok _) (ok_some rfl))))
def lethalN (o:GObject) (t:GTraits):Int:=if 1<subN t.tough o.damage then subN t.tough o.damage else 1
theorem Lethal1 (o:GObject) (t:GTraits):combat_Lethal o t true=some 1:=rfl
theorem Lethal0 (o:GObject) (t:GTraits):combat_Lethal o t false=some (lethalN o t):=by
 unfold combat_Lethal
 exact ok_eq (ok_brf rfl (ok_bnde (num_Sub_ok _ _) (ok_some rfl)))
theorem r47_Lethal0 (o:GObject) (t:GTraits):r47_Lethal o t false=some (lethalN o t):=by
 unfold r47_Lethal
 exact ok_eq (ok_brf rfl (ok_bnde (r01_Sub_ok _ _) (ok_some rfl)))
theorem same_ints3 (a:List Int) (ha:a.length≤1048576):r03_Same a a=some true:=by
 unfold r03_Same
 refine ok_eq (ok_brf (by simp) (ok_for1 0 a.length (fun _=>True) 0 rfl (Nat.zero_le _) (by omega) trivial (fun i k hi _ hk=>?_) fun k _=>?_))
 ·unfold r03_Same_l1; exact ok_brt (by simp [lenI]; omega) (ok_ixL i rfl hi (ok_ixL i rfl hi (ok_brf (by simp) (hk trivial))))
 ·unfold r03_Same_l1; exact ok_brf (by simp [lenI]) (ok_some rfl)
theorem Blockers_ok (s:GState) (a:Int) (hs:s.objects.length≤1048576):∃ r,combat_Blockers s a=some r∧r47_Blockers s a=some r∧r.length≤1048576:=by
 have e:combat_Blockers s a=r47_Blockers s a:=by
  unfold combat_Blockers r47_Blockers
  refine loop_rel (fun x y=>x=y∧∃ i:Nat,x.1=(i:Int)) ⟨rfl,0,rfl⟩ ?_
  rintro ⟨i',acc⟩ _ k k' ⟨rfl,i,e⟩ hk
  simp only at e; subst e
  unfold combat_Blockers_l1 r47_Blockers_l1
  by_cases h:i<s.objects.length
  ·have hd:decide ((i:Int)<lenI s.objects)=true:=by simp [lenI]; omega
   rw [br_t hd,br_t hd]
   simp only [jn,bnd_ix h]
   have q:∀ t,(∃ j:Nat,t=(j:Int))→∀ u,k (t,u)=k' (t,u):=fun t ht u=>hk _ _ ⟨rfl,ht⟩
   by_cases hi:i<4611686018427387904
   ·have q1:=q (addI (i:Int) 1) ⟨i+1,addI_nat hi⟩
    by_cases h1:s.objects[i].zone=0 <;> by_cases h2:s.objects[i].blocks=a <;> simp [br,h1,h2,q1]
   ·omega
  ·have hd:decide ((i:Int)<lenI s.objects)=false:=by simp [lenI]; omega
   rw [br_f hd,br_f hd]
 have t:Ok (fun r=>r.length≤s.objects.length) (combat_Blockers s a):=by
  unfold combat_Blockers
  refine ok_for 0 s.objects.length (fun i t=>t.length≤i) 0 rfl (Nat.zero_le _) (by omega) (by simp) (fun i t k hi ht hk=>?_) fun t k ht=>?_
  ·unfold combat_Blockers_l1
   refine ok_brt (by simp [lenI]; omega) (ok_jn (fun u=>u.length≤i+1) (fun k2 h2=>?_) fun u hu=>hk _ hu)
   refine ok_ixL i rfl hi (ok_jn (fun _=>True) (fun k3 h3=>ok_br (fun _=>h3 _ trivial) fun _=>h3 _ trivial) fun b _=>ok_br (fun _=>ok_room (by simp; omega) (by simp; omega) (h2 _ (by simp; omega))) fun _=>h2 _ (by simp only; omega))
  ·unfold combat_Blockers_l1
   exact ok_brf (by simp [lenI]) (ok_some ht)
 obtain ⟨r,h1,h2⟩:=t
 exact ⟨r,h1,by rw [← e]; exact h1,by omega⟩
theorem CombatLethal_true (s:GState) (t:GTraits) (n:Int) (hs:szGState s) (ht:szGTraits t):law47_CombatLethal s t n=some true:=by
 have al:law47_alive=some true:=rfl
 have ho:s.objects.length≤1048576:=hs.2.1.1
 unfold law47_CombatLethal
 refine ok_eq (ok_bnd (tot_r26_Small s hs) fun y _=>ok_br (fun _=>ok_bnde al (ok_some rfl)) fun _=>?_)
 refine ok_for1 0 s.objects.length (fun _=>True) 0 rfl (Nat.zero_le _) (by omega) trivial (fun i k hi _ hk=>?_) fun k _=>?_
 ·unfold law47_CombatLethal_l1
  refine ok_brt (by simp [lenI]; omega) (ok_ixL i rfl hi (ok_jn (fun b=>b=false) (fun k2 h2=>?_) fun b hb=>?_))
  ·exact ok_bnde (Lethal1 _ _) (ok_brf (by simp) (ok_bnde (Lethal0 _ _) (ok_bnde (r47_Lethal0 _ _) (h2 _ (by simp)))))
  ·subst hb
   obtain ⟨r,b1,b2,b3⟩:=Blockers_ok s s.objects[i].id ho
   exact ok_brf rfl (ok_bnde b1 (ok_bnde b2 (ok_bnde (same_ints3 r b3) (ok_brf (by simp) (hk trivial)))))
 ·unfold law47_CombatLethal_l1
  obtain ⟨r,b1,b2,b3⟩:=Blockers_ok s n ho
  exact ok_brf (by simp [lenI]) (ok_bnde b1 (ok_bnde b2 (ok_bnde (same_ints3 r b3) (ok_brt rfl (ok_bnde al (ok_some rfl))))))
end Go.Proofs.YtlacmdnhabblcaaGreat
namespace Go.Proofs.YtlacmdnhabblcaaGreat
open Go Go.Pv
def ok3 (x:Int):Prop:=(Lit.int .i64 x).wf=true
theorem sT3 {cs:List PV} (h:Sn Tryz.prog 1048576 3 cs):∃ x:Int,cs=(eI .i64) x∧ok3 x:=by
 obtain ⟨n,e,hw⟩:=h.inv_int Tryz.underlying3
 exact ⟨n,e,hw⟩
def ok4 (_:Bool):Prop:=True
theorem sT4 {cs:List PV} (h:Sn Tryz.prog 1048576 4 cs):∃ x:Bool,cs=eB x∧ok4 x:=by
 obtain ⟨n,e⟩:=h.inv_bool Tryz.underlying4
 exact ⟨n,e,trivial⟩
def ok22 (x:Arr3 Int):Prop:=ok3 x.a0∧ok3 x.a1∧ok3 x.a2
theorem sT22 {cs:List PV} (h:Sn Tryz.prog 1048576 22 cs):∃ x:Arr3 Int,cs=(eArr3 (eI .i64)) x∧ok22 x:=by
 have h:=h.inv_arr Tryz.underlying22
 obtain ⟨a0,b0,rfl,k0,h⟩:=h.inv_cons
 obtain ⟨a1,b1,rfl,k1,h⟩:=h.inv_cons
 obtain ⟨a2,b2,rfl,k2,h⟩:=h.inv_cons
 obtain rfl:=h.inv_nil
 obtain ⟨n0,rfl,w0⟩:=sT3 k0
 obtain ⟨n1,rfl,w1⟩:=sT3 k1
 obtain ⟨n2,rfl,w2⟩:=sT3 k2
 exact ⟨⟨n0,n1,n2⟩,rfl,w0,w1,w2⟩
def ok24 (x:GObject):Prop:=ok3 x.id∧ok3 x.card∧ok3 x.owner∧ok3 x.control∧ok3 x.zone∧ok4 x.token∧ok4 x.tapped∧ok4 x.sick∧ok4 x.deadly∧ok3 x.damage∧ok22 x.counters∧ok3 x.stamp∧ok3 x.copy∧ok3 x.attack∧ok4 x.blocked∧ok3 x.blocks∧ok3 x.shield
theorem sT24 {cs:List PV} (h:Sn Tryz.prog 1048576 24 cs):∃ x:GObject,cs=(eGObject mapE) x∧ok24 x:=by
 have h:=h.inv_struct Tryz.underlying24
 obtain ⟨a0,b0,rfl,k0,h⟩:=h.inv_cons
 obtain ⟨a1,b1,rfl,k1,h⟩:=h.inv_cons
 obtain ⟨a2,b2,rfl,k2,h⟩:=h.inv_cons
 obtain ⟨a3,b3,rfl,k3,h⟩:=h.inv_cons
 obtain ⟨a4,b4,rfl,k4,h⟩:=h.inv_cons
 obtain ⟨a5,b5,rfl,k5,h⟩:=h.inv_cons
 obtain ⟨a6,b6,rfl,k6,h⟩:=h.inv_cons
 obtain ⟨a7,b7,rfl,k7,h⟩:=h.inv_cons
 obtain ⟨a8,b8,rfl,k8,h⟩:=h.inv_cons
 obtain ⟨a9,b9,rfl,k9,h⟩:=h.inv_cons
 obtain ⟨a10,b10,rfl,k10,h⟩:=h.inv_cons
 obtain ⟨a11,b11,rfl,k11,h⟩:=h.inv_cons
 obtain ⟨a12,b12,rfl,k12,h⟩:=h.inv_cons
 obtain ⟨a13,b13,rfl,k13,h⟩:=h.inv_cons
 obtain ⟨a14,b14,rfl,k14,h⟩:=h.inv_cons
 obtain ⟨a15,b15,rfl,k15,h⟩:=h.inv_cons
 obtain ⟨a16,b16,rfl,k16,h⟩:=h.inv_cons
 obtain rfl:=h.inv_nil
 obtain ⟨n0,rfl,w0⟩:=sT3 k0
 obtain ⟨n1,rfl,w1⟩:=sT3 k1
 obtain ⟨n2,rfl,w2⟩:=sT3 k2
 obtain ⟨n3,rfl,w3⟩:=sT3 k3
 obtain ⟨n4,rfl,w4⟩:=sT3 k4
 obtain ⟨n5,rfl,w5⟩:=sT4 k5
 obtain ⟨n6,rfl,w6⟩:=sT4 k6
 obtain ⟨n7,rfl,w7⟩:=sT4 k7
 obtain ⟨n8,rfl,w8⟩:=sT4 k8
 obtain ⟨n9,rfl,w9⟩:=sT3 k9
 obtain ⟨n10,rfl,w10⟩:=sT22 k10
 obtain ⟨n11,rfl,w11⟩:=sT3 k11
 obtain ⟨n12,rfl,w12⟩:=sT3 k12
 obtain ⟨n13,rfl,w13⟩:=sT3 k13
 obtain ⟨n14,rfl,w14⟩:=sT4 k14
 obtain ⟨n15,rfl,w15⟩:=sT3 k15
 obtain ⟨n16,rfl,w16⟩:=sT3 k16
 exact ⟨⟨n0,n1,n2,n3,n4,n5,n6,n7,n8,n9,n10,n11,n12,n13,n14,n15,n16⟩,rfl,w0,w1,w2,w3,w4,w5,w6,w7,w8,w9,w10,w11,w12,w13,w14,w15,w16⟩
def ok9 (s:ByteArray):Prop:=s.size≤1048576
theorem sT9 {cs:List PV} (h:Sn Tryz.prog 1048576 9 cs):∃ x:ByteArray,cs=eS x∧ok9 x:=by
 obtain ⟨n,e,hw⟩:=h.inv_str Tryz.underlying9
 exact ⟨n,e,hw⟩
def ok25 (x:Arr5 Int):Prop:=ok3 x.a0∧ok3 x.a1∧ok3 x.a2∧ok3 x.a3∧ok3 x.a4
theorem sT25 {cs:List PV} (h:Sn Tryz.prog 1048576 25 cs):∃ x:Arr5 Int,cs=(eArr5 (eI .i64)) x∧ok25 x:=by
 have h:=h.inv_arr Tryz.underlying25
 obtain ⟨a0,b0,rfl,k0,h⟩:=h.inv_cons
 obtain ⟨a1,b1,rfl,k1,h⟩:=h.inv_cons
 obtain ⟨a2,b2,rfl,k2,h⟩:=h.inv_cons
 obtain ⟨a3,b3,rfl,k3,h⟩:=h.inv_cons
 obtain ⟨a4,b4,rfl,k4,h⟩:=h.inv_cons
 obtain rfl:=h.inv_nil
 obtain ⟨n0,rfl,w0⟩:=sT3 k0
 obtain ⟨n1,rfl,w1⟩:=sT3 k1
 obtain ⟨n2,rfl,w2⟩:=sT3 k2
 obtain ⟨n3,rfl,w3⟩:=sT3 k3
 obtain ⟨n4,rfl,w4⟩:=sT3 k4
 exact ⟨⟨n0,n1,n2,n3,n4⟩,rfl,w0,w1,w2,w3,w4⟩
def ok27 (x:GCost):Prop:=ok3 x.generic∧ok3 x.x∧ok25 x.color
theorem sT27 {cs:List PV} (h:Sn Tryz.prog 1048576 27 cs):∃ x:GCost,cs=(eGCost mapE) x∧ok27 x:=by
 have h:=h.inv_struct Tryz.underlying27
 obtain ⟨a0,b0,rfl,k0,h⟩:=h.inv_cons
 obtain ⟨a1,b1,rfl,k1,h⟩:=h.inv_cons
 obtain ⟨a2,b2,rfl,k2,h⟩:=h.inv_cons
 obtain rfl:=h.inv_nil
 obtain ⟨n0,rfl,w0⟩:=sT3 k0
 obtain ⟨n1,rfl,w1⟩:=sT3 k1
 obtain ⟨n2,rfl,w2⟩:=sT25 k2
 exact ⟨⟨n0,n1,n2⟩,rfl,w0,w1,w2⟩
def ok28 (l:List ByteArray):Prop:=l.length≤1048576∧∀ x∈l,ok9 x
theorem sT28 {cs:List PV} (h:Sn Tryz.prog 1048576 28 cs):∃ x:List ByteArray,cs=[.sl 1 (mapE.m ByteArray eS x) false]∧ok28 x:=by
 obtain ⟨es,e,h1,h2⟩:=h.inv_slice Tryz.underlying28
 have hc:Tryz.prog.cellsOf 9=1:=by kernel_rfl
 rw [hc] at e
 obtain ⟨l,e2,h3,h4⟩:=rows_of fun r hr=>sT9 (h1 r hr)
 exact ⟨l,by rw [e,e2]; rfl,by omega,h3⟩
def ok30 (x:GLine):Prop:=ok3 x.super∧ok3 x.types∧ok28 x.subs
theorem sT30 {cs:List PV} (h:Sn Tryz.prog 1048576 30 cs):∃ x:GLine,cs=(eGLine mapE) x∧ok30 x:=by
 have h:=h.inv_struct Tryz.underlying30
 obtain ⟨a0,b0,rfl,k0,h⟩:=h.inv_cons
 obtain ⟨a1,b1,rfl,k1,h⟩:=h.inv_cons
 obtain ⟨a2,b2,rfl,k2,h⟩:=h.inv_cons
 obtain rfl:=h.inv_nil
 obtain ⟨n0,rfl,w0⟩:=sT3 k0
 obtain ⟨n1,rfl,w1⟩:=sT3 k1
 obtain ⟨n2,rfl,w2⟩:=sT28 k2
 exact ⟨⟨n0,n1,n2⟩,rfl,w0,w1,w2⟩
def ok127 (x:GBound):Prop:=ok3 x.kind∧ok3 x.n
theorem sT127 {cs:List PV} (h:Sn Tryz.prog 1048576 127 cs):∃ x:GBound,cs=(eGBound mapE) x∧ok127 x:=by
 have h:=h.inv_struct Tryz.underlying127
 obtain ⟨a0,b0,rfl,k0,h⟩:=h.inv_cons
 obtain ⟨a1,b1,rfl,k1,h⟩:=h.inv_cons
 obtain rfl:=h.inv_nil
 obtain ⟨n0,rfl,w0⟩:=sT3 k0
 obtain ⟨n1,rfl,w1⟩:=sT3 k1
 exact ⟨⟨n0,n1⟩,rfl,w0,w1⟩
def ok129 (x:GFilter):Prop:=ok3 x.zone∧ok3 x.who∧ok3 x.self∧ok3 x.types∧ok3 x.notTypes∧ok3 x.colors∧ok3 x.notColors∧ok9 x.sub∧ok3 x.keys∧ok3 x.tap∧ok127 x.power∧ok127 x.tough∧ok127 x.value
theorem sT129 {cs:List PV} (h:Sn Tryz.prog 1048576 129 cs):∃ x:GFilter,cs=(eGFilter mapE) x∧ok129 x:=by
 have h:=h.inv_struct Tryz.underlying129
 obtain ⟨a0,b0,rfl,k0,h⟩:=h.inv_cons
 obtain ⟨a1,b1,rfl,k1,h⟩:=h.inv_cons
 obtain ⟨a2,b2,rfl,k2,h⟩:=h.inv_cons
 obtain ⟨a3,b3,rfl,k3,h⟩:=h.inv_cons
 obtain ⟨a4,b4,rfl,k4,h⟩:=h.inv_cons
 obtain ⟨a5,b5,rfl,k5,h⟩:=h.inv_cons
 obtain ⟨a6,b6,rfl,k6,h⟩:=h.inv_cons
 obtain ⟨a7,b7,rfl,k7,h⟩:=h.inv_cons
 obtain ⟨a8,b8,rfl,k8,h⟩:=h.inv_cons
 obtain ⟨a9,b9,rfl,k9,h⟩:=h.inv_cons
 obtain ⟨a10,b10,rfl,k10,h⟩:=h.inv_cons
 obtain ⟨a11,b11,rfl,k11,h⟩:=h.inv_cons
 obtain ⟨a12,b12,rfl,k12,h⟩:=h.inv_cons
 obtain rfl:=h.inv_nil
 obtain ⟨n0,rfl,w0⟩:=sT3 k0
 obtain ⟨n1,rfl,w1⟩:=sT3 k1
 obtain ⟨n2,rfl,w2⟩:=sT3 k2
 obtain ⟨n3,rfl,w3⟩:=sT3 k3
 obtain ⟨n4,rfl,w4⟩:=sT3 k4
 obtain ⟨n5,rfl,w5⟩:=sT3 k5
 obtain ⟨n6,rfl,w6⟩:=sT3 k6
 obtain ⟨n7,rfl,w7⟩:=sT9 k7
 obtain ⟨n8,rfl,w8⟩:=sT3 k8
 obtain ⟨n9,rfl,w9⟩:=sT3 k9
 obtain ⟨n10,rfl,w10⟩:=sT127 k10
 obtain ⟨n11,rfl,w11⟩:=sT127 k11
 obtain ⟨n12,rfl,w12⟩:=sT127 k12
 exact ⟨⟨n0,n1,n2,n3,n4,n5,n6,n7,n8,n9,n10,n11,n12⟩,rfl,w0,w1,w2,w3,w4,w5,w6,w7,w8,w9,w10,w11,w12⟩
def ok207 (x:GMod):Prop:=ok3 x.kind∧ok3 x.n∧ok3 x.m∧ok9 x.sub∧ok129 x.filter
theorem sT207 {cs:List PV} (h:Sn Tryz.prog 1048576 207 cs):∃ x:GMod,cs=(eGMod mapE) x∧ok207 x:=by
 have h:=h.inv_struct Tryz.underlying207
 obtain ⟨a0,b0,rfl,k0,h⟩:=h.inv_cons
 obtain ⟨a1,b1,rfl,k1,h⟩:=h.inv_cons
 obtain ⟨a2,b2,rfl,k2,h⟩:=h.inv_cons
 obtain ⟨a3,b3,rfl,k3,h⟩:=h.inv_cons
 obtain ⟨a4,b4,rfl,k4,h⟩:=h.inv_cons
 obtain rfl:=h.inv_nil
 obtain ⟨n0,rfl,w0⟩:=sT3 k0
 obtain ⟨n1,rfl,w1⟩:=sT3 k1
 obtain ⟨n2,rfl,w2⟩:=sT3 k2
 obtain ⟨n3,rfl,w3⟩:=sT9 k3
 obtain ⟨n4,rfl,w4⟩:=sT129 k4
 exact ⟨⟨n0,n1,n2,n3,n4⟩,rfl,w0,w1,w2,w3,w4⟩
def ok130 (l:List GMod):Prop:=l.length≤1048576∧∀ x∈l,ok207 x
theorem sT130 {cs:List PV} (h:Sn Tryz.prog 1048576 130 cs):∃ x:List GMod,cs=[.sl 20 (mapE.m GMod (eGMod mapE) x) false]∧ok130 x:=by
 obtain ⟨es,e,h1,h2⟩:=h.inv_slice Tryz.underlying130
 have hc:Tryz.prog.cellsOf 207=20:=by kernel_rfl
 rw [hc] at e
 obtain ⟨l,e2,h3,h4⟩:=rows_of fun r hr=>sT207 (h1 r hr)
 exact ⟨l,by rw [e,e2]; rfl,by omega,h3⟩
def ok92 (x:GPrice):Prop:=ok27 x.mana∧ok4 x.tap∧ok4 x.sacrifice∧ok3 x.life
theorem sT92 {cs:List PV} (h:Sn Tryz.prog 1048576 92 cs):∃ x:GPrice,cs=(eGPrice mapE) x∧ok92 x:=by
 have h:=h.inv_struct Tryz.underlying92
 obtain ⟨a0,b0,rfl,k0,h⟩:=h.inv_cons
 obtain ⟨a1,b1,rfl,k1,h⟩:=h.inv_cons
 obtain ⟨a2,b2,rfl,k2,h⟩:=h.inv_cons
 obtain ⟨a3,b3,rfl,k3,h⟩:=h.inv_cons
 obtain rfl:=h.inv_nil
 obtain ⟨n0,rfl,w0⟩:=sT27 k0
 obtain ⟨n1,rfl,w1⟩:=sT4 k1
 obtain ⟨n2,rfl,w2⟩:=sT4 k2
 obtain ⟨n3,rfl,w3⟩:=sT3 k3
 exact ⟨⟨n0,n1,n2,n3⟩,rfl,w0,w1,w2,w3⟩
def ok132 (x:GTrigger):Prop:=ok3 x.when∧ok3 x.who∧ok129 x.filter
theorem sT132 {cs:List PV} (h:Sn Tryz.prog 1048576 132 cs):∃ x:GTrigger,cs=(eGTrigger mapE) x∧ok132 x:=by
 have h:=h.inv_struct Tryz.underlying132
 obtain ⟨a0,b0,rfl,k0,h⟩:=h.inv_cons
 obtain ⟨a1,b1,rfl,k1,h⟩:=h.inv_cons
 obtain ⟨a2,b2,rfl,k2,h⟩:=h.inv_cons
 obtain rfl:=h.inv_nil
 obtain ⟨n0,rfl,w0⟩:=sT3 k0
 obtain ⟨n1,rfl,w1⟩:=sT3 k1
 obtain ⟨n2,rfl,w2⟩:=sT129 k2
 exact ⟨⟨n0,n1,n2⟩,rfl,w0,w1,w2⟩
def ok209 (x:GSpec):Prop:=ok4 x.player∧ok4 x.object∧ok129 x.filter
theorem sT209 {cs:List PV} (h:Sn Tryz.prog 1048576 209 cs):∃ x:GSpec,cs=(eGSpec mapE) x∧ok209 x:=by
 have h:=h.inv_struct Tryz.underlying209
 obtain ⟨a0,b0,rfl,k0,h⟩:=h.inv_cons
 obtain ⟨a1,b1,rfl,k1,h⟩:=h.inv_cons
 obtain ⟨a2,b2,rfl,k2,h⟩:=h.inv_cons
 obtain rfl:=h.inv_nil
 obtain ⟨n0,rfl,w0⟩:=sT4 k0
 obtain ⟨n1,rfl,w1⟩:=sT4 k1
 obtain ⟨n2,rfl,w2⟩:=sT129 k2
 exact ⟨⟨n0,n1,n2⟩,rfl,w0,w1,w2⟩
def ok133 (l:List GSpec):Prop:=l.length≤1048576∧∀ x∈l,ok209 x
theorem sT133 {cs:List PV} (h:Sn Tryz.prog 1048576 133 cs):∃ x:List GSpec,cs=[.sl 18 (mapE.m GSpec (eGSpec mapE) x) false]∧ok133 x:=by
 obtain ⟨es,e,h1,h2⟩:=h.inv_slice Tryz.underlying133
 have hc:Tryz.prog.cellsOf 209=18:=by kernel_rfl
 rw [hc] at e
 obtain ⟨l,e2,h3,h4⟩:=rows_of fun r hr=>sT209 (h1 r hr)
 exact ⟨l,by rw [e,e2]; rfl,by omega,h3⟩
def ok247 (x:GRef):Prop:=ok3 x.kind∧ok3 x.n∧ok129 x.filter
theorem sT247 {cs:List PV} (h:Sn Tryz.prog 1048576 247 cs):∃ x:GRef,cs=(eGRef mapE) x∧ok247 x:=by
 have h:=h.inv_struct Tryz.underlying247
 obtain ⟨a0,b0,rfl,k0,h⟩:=h.inv_cons
 obtain ⟨a1,b1,rfl,k1,h⟩:=h.inv_cons
 obtain ⟨a2,b2,rfl,k2,h⟩:=h.inv_cons
 obtain rfl:=h.inv_nil
 obtain ⟨n0,rfl,w0⟩:=sT3 k0
 obtain ⟨n1,rfl,w1⟩:=sT3 k1
 obtain ⟨n2,rfl,w2⟩:=sT129 k2
 exact ⟨⟨n0,n1,n2⟩,rfl,w0,w1,w2⟩
def ok249 (x:GAmount):Prop:=ok3 x.kind∧ok3 x.n∧ok3 x.counter∧ok129 x.filter
theorem sT249 {cs:List PV} (h:Sn Tryz.prog 1048576 249 cs):∃ x:GAmount,cs=(eGAmount mapE) x∧ok249 x:=by
 have h:=h.inv_struct Tryz.underlying249
 obtain ⟨a0,b0,rfl,k0,h⟩:=h.inv_cons
 obtain ⟨a1,b1,rfl,k1,h⟩:=h.inv_cons
 obtain ⟨a2,b2,rfl,k2,h⟩:=h.inv_cons
 obtain ⟨a3,b3,rfl,k3,h⟩:=h.inv_cons
 obtain rfl:=h.inv_nil
 obtain ⟨n0,rfl,w0⟩:=sT3 k0
 obtain ⟨n1,rfl,w1⟩:=sT3 k1
 obtain ⟨n2,rfl,w2⟩:=sT3 k2
 obtain ⟨n3,rfl,w3⟩:=sT129 k3
 exact ⟨⟨n0,n1,n2,n3⟩,rfl,w0,w1,w2,w3⟩
def ok121 (x:Arr6 Int):Prop:=ok3 x.a0∧ok3 x.a1∧ok3 x.a2∧ok3 x.a3∧ok3 x.a4∧ok3 x.a5
theorem sT121 {cs:List PV} (h:Sn Tryz.prog 1048576 121 cs):∃ x:Arr6 Int,cs=(eArr6 (eI .i64)) x∧ok121 x:=by
 have h:=h.inv_arr Tryz.underlying121
 obtain ⟨a0,b0,rfl,k0,h⟩:=h.inv_cons
 obtain ⟨a1,b1,rfl,k1,h⟩:=h.inv_cons
 obtain ⟨a2,b2,rfl,k2,h⟩:=h.inv_cons
 obtain ⟨a3,b3,rfl,k3,h⟩:=h.inv_cons
 obtain ⟨a4,b4,rfl,k4,h⟩:=h.inv_cons
 obtain ⟨a5,b5,rfl,k5,h⟩:=h.inv_cons
 obtain rfl:=h.inv_nil
 obtain ⟨n0,rfl,w0⟩:=sT3 k0
 obtain ⟨n1,rfl,w1⟩:=sT3 k1
 obtain ⟨n2,rfl,w2⟩:=sT3 k2
 obtain ⟨n3,rfl,w3⟩:=sT3 k3
 obtain ⟨n4,rfl,w4⟩:=sT3 k4
 obtain ⟨n5,rfl,w5⟩:=sT3 k5
 exact ⟨⟨n0,n1,n2,n3,n4,n5⟩,rfl,w0,w1,w2,w3,w4,w5⟩
def ok251 (x:GEffect):Prop:=ok3 x.op∧ok247 x.ref∧ok249 x.amount∧ok3 x.counter∧ok3 x.zone∧ok9 x.card∧ok129 x.filter∧ok121 x.pool∧ok130 x.mods
theorem sT251 {cs:List PV} (h:Sn Tryz.prog 1048576 251 cs):∃ x:GEffect,cs=(eGEffect mapE) x∧ok251 x:=by
 have h:=h.inv_struct Tryz.underlying251
 obtain ⟨a0,b0,rfl,k0,h⟩:=h.inv_cons
 obtain ⟨a1,b1,rfl,k1,h⟩:=h.inv_cons
 obtain ⟨a2,b2,rfl,k2,h⟩:=h.inv_cons
 obtain ⟨a3,b3,rfl,k3,h⟩:=h.inv_cons
 obtain ⟨a4,b4,rfl,k4,h⟩:=h.inv_cons
 obtain ⟨a5,b5,rfl,k5,h⟩:=h.inv_cons
 obtain ⟨a6,b6,rfl,k6,h⟩:=h.inv_cons
 obtain ⟨a7,b7,rfl,k7,h⟩:=h.inv_cons
 obtain ⟨a8,b8,rfl,k8,h⟩:=h.inv_cons
 obtain rfl:=h.inv_nil
 obtain ⟨n0,rfl,w0⟩:=sT3 k0
 obtain ⟨n1,rfl,w1⟩:=sT247 k1
 obtain ⟨n2,rfl,w2⟩:=sT249 k2
 obtain ⟨n3,rfl,w3⟩:=sT3 k3
 obtain ⟨n4,rfl,w4⟩:=sT3 k4
 obtain ⟨n5,rfl,w5⟩:=sT9 k5
 obtain ⟨n6,rfl,w6⟩:=sT129 k6
 obtain ⟨n7,rfl,w7⟩:=sT121 k7
 obtain ⟨n8,rfl,w8⟩:=sT130 k8
 exact ⟨⟨n0,n1,n2,n3,n4,n5,n6,n7,n8⟩,rfl,w0,w1,w2,w3,w4,w5,w6,w7,w8⟩
def ok134 (l:List GEffect):Prop:=l.length≤1048576∧∀ x∈l,ok251 x
theorem sT134 {cs:List PV} (h:Sn Tryz.prog 1048576 134 cs):∃ x:List GEffect,cs=[.sl 64 (mapE.m GEffect (eGEffect mapE) x) false]∧ok134 x:=by
 obtain ⟨es,e,h1,h2⟩:=h.inv_slice Tryz.underlying134
 have hc:Tryz.prog.cellsOf 251=64:=by kernel_rfl
 rw [hc] at e
 obtain ⟨l,e2,h3,h4⟩:=rows_of fun r hr=>sT251 (h1 r hr)
 exact ⟨l,by rw [e,e2]; rfl,by omega,h3⟩
def ok136 (x:GReplace):Prop:=ok3 x.on∧ok3 x.who∧ok129 x.filter∧ok3 x.doF∧ok3 x.n∧ok3 x.zone∧ok3 x.counter
theorem sT136 {cs:List PV} (h:Sn Tryz.prog 1048576 136 cs):∃ x:GReplace,cs=(eGReplace mapE) x∧ok136 x:=by
 have h:=h.inv_struct Tryz.underlying136
 obtain ⟨a0,b0,rfl,k0,h⟩:=h.inv_cons
 obtain ⟨a1,b1,rfl,k1,h⟩:=h.inv_cons
 obtain ⟨a2,b2,rfl,k2,h⟩:=h.inv_cons
 obtain ⟨a3,b3,rfl,k3,h⟩:=h.inv_cons
 obtain ⟨a4,b4,rfl,k4,h⟩:=h.inv_cons
 obtain ⟨a5,b5,rfl,k5,h⟩:=h.inv_cons
 obtain ⟨a6,b6,rfl,k6,h⟩:=h.inv_cons
 obtain rfl:=h.inv_nil
 obtain ⟨n0,rfl,w0⟩:=sT3 k0
 obtain ⟨n1,rfl,w1⟩:=sT3 k1
 obtain ⟨n2,rfl,w2⟩:=sT129 k2
 obtain ⟨n3,rfl,w3⟩:=sT3 k3
 obtain ⟨n4,rfl,w4⟩:=sT3 k4
 obtain ⟨n5,rfl,w5⟩:=sT3 k5
 obtain ⟨n6,rfl,w6⟩:=sT3 k6
 exact ⟨⟨n0,n1,n2,n3,n4,n5,n6⟩,rfl,w0,w1,w2,w3,w4,w5,w6⟩
def ok138 (x:GAbility):Prop:=ok3 x.kind∧ok129 x.filter∧ok130 x.mods∧ok92 x.price∧ok4 x.slow∧ok132 x.trigger∧ok4 x.may∧ok133 x.specs∧ok134 x.effects∧ok136 x.replace
theorem sT138 {cs:List PV} (h:Sn Tryz.prog 1048576 138 cs):∃ x:GAbility,cs=(eGAbility mapE) x∧ok138 x:=by
 have h:=h.inv_struct Tryz.underlying138
 obtain ⟨a0,b0,rfl,k0,h⟩:=h.inv_cons
 obtain ⟨a1,b1,rfl,k1,h⟩:=h.inv_cons
 obtain ⟨a2,b2,rfl,k2,h⟩:=h.inv_cons
 obtain ⟨a3,b3,rfl,k3,h⟩:=h.inv_cons
 obtain ⟨a4,b4,rfl,k4,h⟩:=h.inv_cons
 obtain ⟨a5,b5,rfl,k5,h⟩:=h.inv_cons
 obtain ⟨a6,b6,rfl,k6,h⟩:=h.inv_cons
 obtain ⟨a7,b7,rfl,k7,h⟩:=h.inv_cons
 obtain ⟨a8,b8,rfl,k8,h⟩:=h.inv_cons
 obtain ⟨a9,b9,rfl,k9,h⟩:=h.inv_cons
 obtain rfl:=h.inv_nil
 obtain ⟨n0,rfl,w0⟩:=sT3 k0
 obtain ⟨n1,rfl,w1⟩:=sT129 k1
 obtain ⟨n2,rfl,w2⟩:=sT130 k2
 obtain ⟨n3,rfl,w3⟩:=sT92 k3
 obtain ⟨n4,rfl,w4⟩:=sT4 k4
 obtain ⟨n5,rfl,w5⟩:=sT132 k5
 obtain ⟨n6,rfl,w6⟩:=sT4 k6
 obtain ⟨n7,rfl,w7⟩:=sT133 k7
 obtain ⟨n8,rfl,w8⟩:=sT134 k8
 obtain ⟨n9,rfl,w9⟩:=sT136 k9
 exact ⟨⟨n0,n1,n2,n3,n4,n5,n6,n7,n8,n9⟩,rfl,w0,w1,w2,w3,w4,w5,w6,w7,w8,w9⟩
def ok31 (l:List GAbility):Prop:=l.length≤1048576∧∀ x∈l,ok138 x
theorem sT31 {cs:List PV} (h:Sn Tryz.prog 1048576 31 cs):∃ x:List GAbility,cs=[.sl 72 (mapE.m GAbility (eGAbility mapE) x) false]∧ok31 x:=by
 obtain ⟨es,e,h1,h2⟩:=h.inv_slice Tryz.underlying31
 have hc:Tryz.prog.cellsOf 138=72:=by kernel_rfl
 rw [hc] at e
 obtain ⟨l,e2,h3,h4⟩:=rows_of fun r hr=>sT138 (h1 r hr)
 exact ⟨l,by rw [e,e2]; rfl,by omega,h3⟩
def ok33 (x:GTraits):Prop:=ok9 x.name∧ok27 x.cost∧ok3 x.colors∧ok30 x.line∧ok3 x.power∧ok3 x.tough∧ok3 x.keys∧ok31 x.abilities∧ok3 x.control
theorem sT33 {cs:List PV} (h:Sn Tryz.prog 1048576 33 cs):∃ x:GTraits,cs=(eGTraits mapE) x∧ok33 x:=by
 have h:=h.inv_struct Tryz.underlying33
 obtain ⟨a0,b0,rfl,k0,h⟩:=h.inv_cons
 obtain ⟨a1,b1,rfl,k1,h⟩:=h.inv_cons
 obtain ⟨a2,b2,rfl,k2,h⟩:=h.inv_cons
 obtain ⟨a3,b3,rfl,k3,h⟩:=h.inv_cons
 obtain ⟨a4,b4,rfl,k4,h⟩:=h.inv_cons
 obtain ⟨a5,b5,rfl,k5,h⟩:=h.inv_cons
 obtain ⟨a6,b6,rfl,k6,h⟩:=h.inv_cons
 obtain ⟨a7,b7,rfl,k7,h⟩:=h.inv_cons
 obtain ⟨a8,b8,rfl,k8,h⟩:=h.inv_cons
 obtain rfl:=h.inv_nil
 obtain ⟨n0,rfl,w0⟩:=sT9 k0
 obtain ⟨n1,rfl,w1⟩:=sT27 k1
 obtain ⟨n2,rfl,w2⟩:=sT3 k2
 obtain ⟨n3,rfl,w3⟩:=sT30 k3
 obtain ⟨n4,rfl,w4⟩:=sT3 k4
 obtain ⟨n5,rfl,w5⟩:=sT3 k5
 obtain ⟨n6,rfl,w6⟩:=sT3 k6
 obtain ⟨n7,rfl,w7⟩:=sT31 k7
 obtain ⟨n8,rfl,w8⟩:=sT3 k8
 exact ⟨⟨n0,n1,n2,n3,n4,n5,n6,n7,n8⟩,rfl,w0,w1,w2,w3,w4,w5,w6,w7,w8⟩
def ok35 (x:GLaw46Pair):Prop:=ok24 x.b∧ok33 x.tB∧ok24 x.a∧ok33 x.tA
theorem sT35 {cs:List PV} (h:Sn Tryz.prog 1048576 35 cs):∃ x:GLaw46Pair,cs=(eGLaw46Pair mapE) x∧ok35 x:=by
 have h:=h.inv_struct Tryz.underlying35
 obtain ⟨a0,b0,rfl,k0,h⟩:=h.inv_cons
 obtain ⟨a1,b1,rfl,k1,h⟩:=h.inv_cons
 obtain ⟨a2,b2,rfl,k2,h⟩:=h.inv_cons
 obtain ⟨a3,b3,rfl,k3,h⟩:=h.inv_cons
 obtain rfl:=h.inv_nil
 obtain ⟨n0,rfl,w0⟩:=sT24 k0
 obtain ⟨n1,rfl,w1⟩:=sT33 k1
 obtain ⟨n2,rfl,w2⟩:=sT24 k2
 obtain ⟨n3,rfl,w3⟩:=sT33 k3
 exact ⟨⟨n0,n1,n2,n3⟩,rfl,w0,w1,w2,w3⟩
def ok42 (l:List Int):Prop:=l.length≤1048576∧∀ x∈l,ok3 x
theorem sT42 {cs:List PV} (h:Sn Tryz.prog 1048576 42 cs):∃ x:List Int,cs=[.sl 1 (mapE.m Int (eI .i64) x) false]∧ok42 x:=by
 obtain ⟨es,e,h1,h2⟩:=h.inv_slice Tryz.underlying42
 have hc:Tryz.prog.cellsOf 3=1:=by kernel_rfl
 rw [hc] at e
 obtain ⟨l,e2,h3,h4⟩:=rows_of fun r hr=>sT3 (h1 r hr)
 exact ⟨l,by rw [e,e2]; rfl,by omega,h3⟩
def ok123 (x:GPlayer):Prop:=ok3 x.life∧ok3 x.venom∧ok3 x.lands∧ok121 x.pool∧ok4 x.failed∧ok4 x.lost∧ok42 x.library∧ok42 x.hand∧ok42 x.graveyard
theorem sT123 {cs:List PV} (h:Sn Tryz.prog 1048576 123 cs):∃ x:GPlayer,cs=(eGPlayer mapE) x∧ok123 x:=by
 have h:=h.inv_struct Tryz.underlying123
 obtain ⟨a0,b0,rfl,k0,h⟩:=h.inv_cons
 obtain ⟨a1,b1,rfl,k1,h⟩:=h.inv_cons
 obtain ⟨a2,b2,rfl,k2,h⟩:=h.inv_cons
 obtain ⟨a3,b3,rfl,k3,h⟩:=h.inv_cons
 obtain ⟨a4,b4,rfl,k4,h⟩:=h.inv_cons
 obtain ⟨a5,b5,rfl,k5,h⟩:=h.inv_cons
 obtain ⟨a6,b6,rfl,k6,h⟩:=h.inv_cons
 obtain ⟨a7,b7,rfl,k7,h⟩:=h.inv_cons
 obtain ⟨a8,b8,rfl,k8,h⟩:=h.inv_cons
 obtain rfl:=h.inv_nil
 obtain ⟨n0,rfl,w0⟩:=sT3 k0
 obtain ⟨n1,rfl,w1⟩:=sT3 k1
 obtain ⟨n2,rfl,w2⟩:=sT3 k2
 obtain ⟨n3,rfl,w3⟩:=sT121 k3
 obtain ⟨n4,rfl,w4⟩:=sT4 k4
 obtain ⟨n5,rfl,w5⟩:=sT4 k5
 obtain ⟨n6,rfl,w6⟩:=sT42 k6
 obtain ⟨n7,rfl,w7⟩:=sT42 k7
 obtain ⟨n8,rfl,w8⟩:=sT42 k8
 exact ⟨⟨n0,n1,n2,n3,n4,n5,n6,n7,n8⟩,rfl,w0,w1,w2,w3,w4,w5,w6,w7,w8⟩
def ok40 (l:List GPlayer):Prop:=l.length≤1048576∧∀ x∈l,ok123 x
theorem sT40 {cs:List PV} (h:Sn Tryz.prog 1048576 40 cs):∃ x:List GPlayer,cs=[.sl 14 (mapE.m GPlayer (eGPlayer mapE) x) false]∧ok40 x:=by
 obtain ⟨es,e,h1,h2⟩:=h.inv_slice Tryz.underlying40
 have hc:Tryz.prog.cellsOf 123=14:=by kernel_rfl
 rw [hc] at e
 obtain ⟨l,e2,h3,h4⟩:=rows_of fun r hr=>sT123 (h1 r hr)
 exact ⟨l,by rw [e,e2]; rfl,by omega,h3⟩
def ok41 (l:List GObject):Prop:=l.length≤1048576∧∀ x∈l,ok24 x
theorem sT41 {cs:List PV} (h:Sn Tryz.prog 1048576 41 cs):∃ x:List GObject,cs=[.sl 19 (mapE.m GObject (eGObject mapE) x) false]∧ok41 x:=by
 obtain ⟨es,e,h1,h2⟩:=h.inv_slice Tryz.underlying41
 have hc:Tryz.prog.cellsOf 24=19:=by kernel_rfl
 rw [hc] at e
 obtain ⟨l,e2,h3,h4⟩:=rows_of fun r hr=>sT24 (h1 r hr)
 exact ⟨l,by rw [e,e2]; rfl,by omega,h3⟩
def ok221 (x:GTarget):Prop:=ok3 x.object∧ok3 x.player
theorem sT221 {cs:List PV} (h:Sn Tryz.prog 1048576 221 cs):∃ x:GTarget,cs=(eGTarget mapE) x∧ok221 x:=by
 have h:=h.inv_struct Tryz.underlying221
 obtain ⟨a0,b0,rfl,k0,h⟩:=h.inv_cons
 obtain ⟨a1,b1,rfl,k1,h⟩:=h.inv_cons
 obtain rfl:=h.inv_nil
 obtain ⟨n0,rfl,w0⟩:=sT3 k0
 obtain ⟨n1,rfl,w1⟩:=sT3 k1
 exact ⟨⟨n0,n1⟩,rfl,w0,w1⟩
def ok139 (l:List GTarget):Prop:=l.length≤1048576∧∀ x∈l,ok221 x
theorem sT139 {cs:List PV} (h:Sn Tryz.prog 1048576 139 cs):∃ x:List GTarget,cs=[.sl 2 (mapE.m GTarget (eGTarget mapE) x) false]∧ok139 x:=by
 obtain ⟨es,e,h1,h2⟩:=h.inv_slice Tryz.underlying139
 have hc:Tryz.prog.cellsOf 221=2:=by kernel_rfl
 rw [hc] at e
 obtain ⟨l,e2,h3,h4⟩:=rows_of fun r hr=>sT221 (h1 r hr)
 exact ⟨l,by rw [e,e2]; rfl,by omega,h3⟩
def ok87 (x:GEvent):Prop:=ok3 x.kind∧ok3 x.source∧ok3 x.object∧ok3 x.player∧ok3 x.amount∧ok3 x.fromF∧ok3 x.to∧ok3 x.cause∧ok3 x.counter∧ok3 x.card∧ok4 x.combat∧ok4 x.tapped∧ok22 x.extra
theorem sT87 {cs:List PV} (h:Sn Tryz.prog 1048576 87 cs):∃ x:GEvent,cs=(eGEvent mapE) x∧ok87 x:=by
 have h:=h.inv_struct Tryz.underlying87
 obtain ⟨a0,b0,rfl,k0,h⟩:=h.inv_cons
 obtain ⟨a1,b1,rfl,k1,h⟩:=h.inv_cons
 obtain ⟨a2,b2,rfl,k2,h⟩:=h.inv_cons
 obtain ⟨a3,b3,rfl,k3,h⟩:=h.inv_cons
 obtain ⟨a4,b4,rfl,k4,h⟩:=h.inv_cons
 obtain ⟨a5,b5,rfl,k5,h⟩:=h.inv_cons
 obtain ⟨a6,b6,rfl,k6,h⟩:=h.inv_cons
 obtain ⟨a7,b7,rfl,k7,h⟩:=h.inv_cons
 obtain ⟨a8,b8,rfl,k8,h⟩:=h.inv_cons
 obtain ⟨a9,b9,rfl,k9,h⟩:=h.inv_cons
 obtain ⟨a10,b10,rfl,k10,h⟩:=h.inv_cons
 obtain ⟨a11,b11,rfl,k11,h⟩:=h.inv_cons
 obtain ⟨a12,b12,rfl,k12,h⟩:=h.inv_cons
 obtain rfl:=h.inv_nil
 obtain ⟨n0,rfl,w0⟩:=sT3 k0
 obtain ⟨n1,rfl,w1⟩:=sT3 k1
 obtain ⟨n2,rfl,w2⟩:=sT3 k2
 obtain ⟨n3,rfl,w3⟩:=sT3 k3
 obtain ⟨n4,rfl,w4⟩:=sT3 k4
 obtain ⟨n5,rfl,w5⟩:=sT3 k5
 obtain ⟨n6,rfl,w6⟩:=sT3 k6
 obtain ⟨n7,rfl,w7⟩:=sT3 k7
 obtain ⟨n8,rfl,w8⟩:=sT3 k8
 obtain ⟨n9,rfl,w9⟩:=sT3 k9
 obtain ⟨n10,rfl,w10⟩:=sT4 k10
 obtain ⟨n11,rfl,w11⟩:=sT4 k11
 obtain ⟨n12,rfl,w12⟩:=sT22 k12
 exact ⟨⟨n0,n1,n2,n3,n4,n5,n6,n7,n8,n9,n10,n11,n12⟩,rfl,w0,w1,w2,w3,w4,w5,w6,w7,w8,w9,w10,w11,w12⟩
def ok141 (x:GItem):Prop:=ok3 x.id∧ok3 x.kind∧ok3 x.source∧ok3 x.control∧ok3 x.x∧ok4 x.copy∧ok138 x.ability∧ok139 x.targets∧ok87 x.event
theorem sT141 {cs:List PV} (h:Sn Tryz.prog 1048576 141 cs):∃ x:GItem,cs=(eGItem mapE) x∧ok141 x:=by
 have h:=h.inv_struct Tryz.underlying141
 obtain ⟨a0,b0,rfl,k0,h⟩:=h.inv_cons
 obtain ⟨a1,b1,rfl,k1,h⟩:=h.inv_cons
 obtain ⟨a2,b2,rfl,k2,h⟩:=h.inv_cons
 obtain ⟨a3,b3,rfl,k3,h⟩:=h.inv_cons
 obtain ⟨a4,b4,rfl,k4,h⟩:=h.inv_cons
 obtain ⟨a5,b5,rfl,k5,h⟩:=h.inv_cons
 obtain ⟨a6,b6,rfl,k6,h⟩:=h.inv_cons
 obtain ⟨a7,b7,rfl,k7,h⟩:=h.inv_cons
 obtain ⟨a8,b8,rfl,k8,h⟩:=h.inv_cons
 obtain rfl:=h.inv_nil
 obtain ⟨n0,rfl,w0⟩:=sT3 k0
 obtain ⟨n1,rfl,w1⟩:=sT3 k1
 obtain ⟨n2,rfl,w2⟩:=sT3 k2
 obtain ⟨n3,rfl,w3⟩:=sT3 k3
 obtain ⟨n4,rfl,w4⟩:=sT3 k4
 obtain ⟨n5,rfl,w5⟩:=sT4 k5
 obtain ⟨n6,rfl,w6⟩:=sT138 k6
 obtain ⟨n7,rfl,w7⟩:=sT139 k7
 obtain ⟨n8,rfl,w8⟩:=sT87 k8
 exact ⟨⟨n0,n1,n2,n3,n4,n5,n6,n7,n8⟩,rfl,w0,w1,w2,w3,w4,w5,w6,w7,w8⟩
def ok43 (l:List GItem):Prop:=l.length≤1048576∧∀ x∈l,ok141 x
theorem sT43 {cs:List PV} (h:Sn Tryz.prog 1048576 43 cs):∃ x:List GItem,cs=[.sl 94 (mapE.m GItem (eGItem mapE) x) false]∧ok43 x:=by
 obtain ⟨es,e,h1,h2⟩:=h.inv_slice Tryz.underlying43
 have hc:Tryz.prog.cellsOf 141=94:=by kernel_rfl
 rw [hc] at e
 obtain ⟨l,e2,h3,h4⟩:=rows_of fun r hr=>sT141 (h1 r hr)
 exact ⟨l,by rw [e,e2]; rfl,by omega,h3⟩
def ok144 (x:GWaiting):Prop:=ok3 x.source∧ok3 x.control∧ok138 x.ability∧ok87 x.event
theorem sT144 {cs:List PV} (h:Sn Tryz.prog 1048576 144 cs):∃ x:GWaiting,cs=(eGWaiting mapE) x∧ok144 x:=by
 have h:=h.inv_struct Tryz.underlying144
 obtain ⟨a0,b0,rfl,k0,h⟩:=h.inv_cons
 obtain ⟨a1,b1,rfl,k1,h⟩:=h.inv_cons
 obtain ⟨a2,b2,rfl,k2,h⟩:=h.inv_cons
 obtain ⟨a3,b3,rfl,k3,h⟩:=h.inv_cons
 obtain rfl:=h.inv_nil
 obtain ⟨n0,rfl,w0⟩:=sT3 k0
 obtain ⟨n1,rfl,w1⟩:=sT3 k1
 obtain ⟨n2,rfl,w2⟩:=sT138 k2
 obtain ⟨n3,rfl,w3⟩:=sT87 k3
 exact ⟨⟨n0,n1,n2,n3⟩,rfl,w0,w1,w2,w3⟩
def ok44 (l:List GWaiting):Prop:=l.length≤1048576∧∀ x∈l,ok144 x
theorem sT44 {cs:List PV} (h:Sn Tryz.prog 1048576 44 cs):∃ x:List GWaiting,cs=[.sl 89 (mapE.m GWaiting (eGWaiting mapE) x) false]∧ok44 x:=by
 obtain ⟨es,e,h1,h2⟩:=h.inv_slice Tryz.underlying44
 have hc:Tryz.prog.cellsOf 144=89:=by kernel_rfl
 rw [hc] at e
 obtain ⟨l,e2,h3,h4⟩:=rows_of fun r hr=>sT144 (h1 r hr)
 exact ⟨l,by rw [e,e2]; rfl,by omega,h3⟩
def ok146 (x:GCont):Prop:=ok3 x.stamp∧ok3 x.control∧ok3 x.source∧ok3 x.untilF∧ok42 x.objects∧ok130 x.mods
theorem sT146 {cs:List PV} (h:Sn Tryz.prog 1048576 146 cs):∃ x:GCont,cs=(eGCont mapE) x∧ok146 x:=by
 have h:=h.inv_struct Tryz.underlying146
 obtain ⟨a0,b0,rfl,k0,h⟩:=h.inv_cons
 obtain ⟨a1,b1,rfl,k1,h⟩:=h.inv_cons
 obtain ⟨a2,b2,rfl,k2,h⟩:=h.inv_cons
 obtain ⟨a3,b3,rfl,k3,h⟩:=h.inv_cons
 obtain ⟨a4,b4,rfl,k4,h⟩:=h.inv_cons
 obtain ⟨a5,b5,rfl,k5,h⟩:=h.inv_cons
 obtain rfl:=h.inv_nil
 obtain ⟨n0,rfl,w0⟩:=sT3 k0
 obtain ⟨n1,rfl,w1⟩:=sT3 k1
 obtain ⟨n2,rfl,w2⟩:=sT3 k2
 obtain ⟨n3,rfl,w3⟩:=sT3 k3
 obtain ⟨n4,rfl,w4⟩:=sT42 k4
 obtain ⟨n5,rfl,w5⟩:=sT130 k5
 exact ⟨⟨n0,n1,n2,n3,n4,n5⟩,rfl,w0,w1,w2,w3,w4,w5⟩
def ok45 (l:List GCont):Prop:=l.length≤1048576∧∀ x∈l,ok146 x
theorem sT45 {cs:List PV} (h:Sn Tryz.prog 1048576 45 cs):∃ x:List GCont,cs=[.sl 6 (mapE.m GCont (eGCont mapE) x) false]∧ok45 x:=by
 obtain ⟨es,e,h1,h2⟩:=h.inv_slice Tryz.underlying45
 have hc:Tryz.prog.cellsOf 146=6:=by kernel_rfl
 rw [hc] at e
 obtain ⟨l,e2,h3,h4⟩:=rows_of fun r hr=>sT146 (h1 r hr)
 exact ⟨l,by rw [e,e2]; rfl,by omega,h3⟩
def ok46 (x:Int):Prop:=(Lit.int .u64 x).wf=true
theorem sT46 {cs:List PV} (h:Sn Tryz.prog 1048576 46 cs):∃ x:Int,cs=(eI .u64) x∧ok46 x:=by
 obtain ⟨n,e,hw⟩:=h.inv_int Tryz.underlying46
 exact ⟨n,e,hw⟩
def ok48 (x:GState):Prop:=ok40 x.players∧ok41 x.objects∧ok42 x.battlefield∧ok42 x.exile∧ok43 x.stack∧ok44 x.waiting∧ok45 x.conts∧ok3 x.turn∧ok3 x.active∧ok3 x.step∧ok4 x.begun∧ok3 x.priority∧ok3 x.passes∧ok3 x.nextId∧ok3 x.nextStamp∧ok46 x.seed∧ok42 x.extra∧ok3 x.over∧ok3 x.winner
theorem sT48 {cs:List PV} (h:Sn Tryz.prog 1048576 48 cs):∃ x:GState,cs=(eGState mapE) x∧ok48 x:=by
 have h:=h.inv_struct Tryz.underlying48
 obtain ⟨a0,b0,rfl,k0,h⟩:=h.inv_cons
 obtain ⟨a1,b1,rfl,k1,h⟩:=h.inv_cons
 obtain ⟨a2,b2,rfl,k2,h⟩:=h.inv_cons
 obtain ⟨a3,b3,rfl,k3,h⟩:=h.inv_cons
 obtain ⟨a4,b4,rfl,k4,h⟩:=h.inv_cons
 obtain ⟨a5,b5,rfl,k5,h⟩:=h.inv_cons
 obtain ⟨a6,b6,rfl,k6,h⟩:=h.inv_cons
 obtain ⟨a7,b7,rfl,k7,h⟩:=h.inv_cons
 obtain ⟨a8,b8,rfl,k8,h⟩:=h.inv_cons
 obtain ⟨a9,b9,rfl,k9,h⟩:=h.inv_cons
 obtain ⟨a10,b10,rfl,k10,h⟩:=h.inv_cons
 obtain ⟨a11,b11,rfl,k11,h⟩:=h.inv_cons
 obtain ⟨a12,b12,rfl,k12,h⟩:=h.inv_cons
 obtain ⟨a13,b13,rfl,k13,h⟩:=h.inv_cons
 obtain ⟨a14,b14,rfl,k14,h⟩:=h.inv_cons
 obtain ⟨a15,b15,rfl,k15,h⟩:=h.inv_cons
 obtain ⟨a16,b16,rfl,k16,h⟩:=h.inv_cons
 obtain ⟨a17,b17,rfl,k17,h⟩:=h.inv_cons
 obtain ⟨a18,b18,rfl,k18,h⟩:=h.inv_cons
 obtain rfl:=h.inv_nil
 obtain ⟨n0,rfl,w0⟩:=sT40 k0
 obtain ⟨n1,rfl,w1⟩:=sT41 k1
 obtain ⟨n2,rfl,w2⟩:=sT42 k2
 obtain ⟨n3,rfl,w3⟩:=sT42 k3
 obtain ⟨n4,rfl,w4⟩:=sT43 k4
 obtain ⟨n5,rfl,w5⟩:=sT44 k5
 obtain ⟨n6,rfl,w6⟩:=sT45 k6
 obtain ⟨n7,rfl,w7⟩:=sT3 k7
 obtain ⟨n8,rfl,w8⟩:=sT3 k8
 obtain ⟨n9,rfl,w9⟩:=sT3 k9
 obtain ⟨n10,rfl,w10⟩:=sT4 k10
 obtain ⟨n11,rfl,w11⟩:=sT3 k11
 obtain ⟨n12,rfl,w12⟩:=sT3 k12
 obtain ⟨n13,rfl,w13⟩:=sT3 k13
 obtain ⟨n14,rfl,w14⟩:=sT3 k14
 obtain ⟨n15,rfl,w15⟩:=sT46 k15
 obtain ⟨n16,rfl,w16⟩:=sT42 k16
 obtain ⟨n17,rfl,w17⟩:=sT3 k17
 obtain ⟨n18,rfl,w18⟩:=sT3 k18
 exact ⟨⟨n0,n1,n2,n3,n4,n5,n6,n7,n8,n9,n10,n11,n12,n13,n14,n15,n16,n17,n18⟩,rfl,w0,w1,w2,w3,w4,w5,w6,w7,w8,w9,w10,w11,w12,w13,w14,w15,w16,w17,w18⟩
theorem z9 {x:ByteArray} (h:ok9 x):szB x:=h
theorem z28 {x:List ByteArray} (h:ok28 x):(szL szB) x:=⟨h.1,fun y hy=>z9 (h.2 y hy)⟩
theorem z30 {x:GLine} (h:ok30 x):szGLine x:=z28 (h.2.2)
theorem z129 {x:GFilter} (h:ok129 x):szGFilter x:=z9 (h.2.2.2.2.2.2.2.1)
theorem z207 {x:GMod} (h:ok207 x):szGMod x:=⟨z9 (h.2.2.2.1),z129 (h.2.2.2.2)⟩
theorem z130 {x:List GMod} (h:ok130 x):(szL szGMod) x:=⟨h.1,fun y hy=>z207 (h.2 y hy)⟩
theorem z132 {x:GTrigger} (h:ok132 x):szGTrigger x:=z129 (h.2.2)
theorem z209 {x:GSpec} (h:ok209 x):szGSpec x:=z129 (h.2.2)
theorem z133 {x:List GSpec} (h:ok133 x):(szL szGSpec) x:=⟨h.1,fun y hy=>z209 (h.2 y hy)⟩
theorem z247 {x:GRef} (h:ok247 x):szGRef x:=z129 (h.2.2)
theorem z249 {x:GAmount} (h:ok249 x):szGAmount x:=z129 (h.2.2.2)
theorem z251 {x:GEffect} (h:ok251 x):szGEffect x:=⟨z247 (h.2.1),z249 (h.2.2.1),z9 (h.2.2.2.2.2.1),z129 (h.2.2.2.2.2.2.1),z130 (h.2.2.2.2.2.2.2.2)⟩
theorem z134 {x:List GEffect} (h:ok134 x):(szL szGEffect) x:=⟨h.1,fun y hy=>z251 (h.2 y hy)⟩
theorem z136 {x:GReplace} (h:ok136 x):szGReplace x:=z129 (h.2.2.1)
theorem z138 {x:GAbility} (h:ok138 x):szGAbility x:=⟨z129 (h.2.1),z130 (h.2.2.1),z132 (h.2.2.2.2.2.1),z133 (h.2.2.2.2.2.2.2.1),z134 (h.2.2.2.2.2.2.2.2.1),z136 (h.2.2.2.2.2.2.2.2.2)⟩
theorem z31 {x:List GAbility} (h:ok31 x):(szL szGAbility) x:=⟨h.1,fun y hy=>z138 (h.2 y hy)⟩
theorem z33 {x:GTraits} (h:ok33 x):szGTraits x:=⟨z9 (h.1),z30 (h.2.2.2.1),z31 (h.2.2.2.2.2.2.2.1)⟩
theorem z35 {x:GLaw46Pair} (h:ok35 x):szGLaw46Pair x:=⟨z33 (h.2.1),z33 (h.2.2.2)⟩
theorem z42 {x:List Int} (h:ok42 x):(szL (fun (_:Int)=>True)) x:=⟨h.1,fun y hy=>trivial⟩
theorem z123 {x:GPlayer} (h:ok123 x):szGPlayer x:=⟨z42 (h.2.2.2.2.2.2.1),z42 (h.2.2.2.2.2.2.2.1),z42 (h.2.2.2.2.2.2.2.2)⟩
theorem z40 {x:List GPlayer} (h:ok40 x):(szL szGPlayer) x:=⟨h.1,fun y hy=>z123 (h.2 y hy)⟩
theorem z41 {x:List GObject} (h:ok41 x):(szL (fun (_:GObject)=>True)) x:=⟨h.1,fun y hy=>trivial⟩
theorem z139 {x:List GTarget} (h:ok139 x):(szL (fun (_:GTarget)=>True)) x:=⟨h.1,fun y hy=>trivial⟩
theorem z141 {x:GItem} (h:ok141 x):szGItem x:=⟨z138 (h.2.2.2.2.2.2.1),z139 (h.2.2.2.2.2.2.2.1)⟩
theorem z43 {x:List GItem} (h:ok43 x):(szL szGItem) x:=⟨h.1,fun y hy=>z141 (h.2 y hy)⟩
theorem z144 {x:GWaiting} (h:ok144 x):szGWaiting x:=z138 (h.2.2.1)
theorem z44 {x:List GWaiting} (h:ok44 x):(szL szGWaiting) x:=⟨h.1,fun y hy=>z144 (h.2 y hy)⟩
theorem z146 {x:GCont} (h:ok146 x):szGCont x:=⟨z42 (h.2.2.2.2.1),z130 (h.2.2.2.2.2)⟩
theorem z45 {x:List GCont} (h:ok45 x):(szL szGCont) x:=⟨h.1,fun y hy=>z146 (h.2 y hy)⟩
theorem z48 {x:GState} (h:ok48 x):szGState x:=⟨z40 (h.1),z41 (h.2.1),z42 (h.2.2.1),z42 (h.2.2.2.1),z43 (h.2.2.2.2.1),z44 (h.2.2.2.2.2.1),z45 (h.2.2.2.2.2.2.1),z42 (h.2.2.2.2.2.2.2.2.2.2.2.2.2.2.2.2.1)⟩
theorem sV3 {p:PV} (h:SnV Tryz.prog 1048576 3 p):∃ x:Int,p=.si .i64 x∧ok3 x:=by
 obtain ⟨x,e,hx⟩:=sT3 (h.inv_one (by kernel_rfl))
 cases e
 exact ⟨x,rfl,hx⟩
theorem sV33 {p:PV} (h:SnV Tryz.prog 1048576 33 p):∃ x:GTraits,p=.agg ((eGTraits mapE) x)∧ok33 x:=by
 obtain ⟨cs,rfl,h2⟩:=h.inv_agg (by kernel_rfl)
 obtain ⟨x,rfl,hx⟩:=sT33 h2
 exact ⟨x,rfl,hx⟩
theorem sV35 {p:PV} (h:SnV Tryz.prog 1048576 35 p):∃ x:GLaw46Pair,p=.agg ((eGLaw46Pair mapE) x)∧ok35 x:=by
 obtain ⟨cs,rfl,h2⟩:=h.inv_agg (by kernel_rfl)
 obtain ⟨x,rfl,hx⟩:=sT35 h2
 exact ⟨x,rfl,hx⟩
theorem sV42 {p:PV} (h:SnV Tryz.prog 1048576 42 p):∃ x:List Int,p=.sl 1 (mapE.m Int (eI .i64) x) false∧ok42 x:=by
 obtain ⟨x,e,hx⟩:=sT42 (h.inv_one (by kernel_rfl))
 cases e
 exact ⟨x,rfl,hx⟩
theorem sV48 {p:PV} (h:SnV Tryz.prog 1048576 48 p):∃ x:GState,p=.agg ((eGState mapE) x)∧ok48 x:=by
 obtain ⟨cs,rfl,h2⟩:=h.inv_agg (by kernel_rfl)
 obtain ⟨x,rfl,hx⟩:=sT48 h2
 exact ⟨x,rfl,hx⟩
end Go.Proofs.YtlacmdnhabblcaaGreat
namespace Go.Pv
open Go
theorem joined_parts {P:Program} {f:FuncId} {fn:Func} {s:ChangeSpec} {c:OpenClaim}
  (k0:(c.wf (OpenSpec.ofChange s))=true)
  (k1:(laidOutB P)=true)
  (k2:(mapsRowed P)=true)
  (k3:(fn.params.all (P.readableRec ·))=true)
  (k4:(namedTie P c.named s.vars)=true)
  (k5:((c.stops == []))=true)
  (k6:((P.stops == []))=true)
  (k7:((c.knobs == []))=true)
  (k8:((P.stopKnobs == []))=true)
  (k9:((c.inPlace == P.inPlace f))=true)
  (k10:((c.unfollowed == P.unfollowed f))=true)
  (k11:((c.recurses == P.recurses f))=true)
  (k12:((c.named == P.varsNamed f))=true)
  (k13:((c.maps == (fn.params.toList ++ s.plain.varTypes P).any (P.mapsRec ·)))=true)
  (k14:((c.ifaces == (fn.params.toList ++ s.plain.varTypes P).any (P.ifacesRec ·)))=true)
  (k15:((c.mapsOut == P.mapsAmong fn.resultTypes.toList))=true)
  (k16:((c.loops == (fn.params.toList ++ s.plain.varTypes P).any (P.loopsFrom ·)))=true)
  (k17:((c.wideKeys == (fn.params.toList ++ s.plain.varTypes P ++ fn.resultTypes.toList).any (P.wideKeysFrom ·)))=true)
  (k18:(s.vars.all (P.varReadable ·))=true)
  (k19:(fn.resultTypes.all (fun t=>P.readableRec t && decide (t<P.types.size)))=true)
  (k20:((c.ifacesOut == fn.resultTypes.toList.any (P.ifacesRec ·)))=true)
  (k21:((c.loopsOut == fn.resultTypes.toList.any (P.loopsFrom ·)))=true)
  (k22:((c.plainKeys == P.plainKeys))=true)
  (k23:(c.shortTexts.isNone)=true)
  (k24:(P.stopsHeard)=true)
  (k25:(P.mayEnter)=true)
  (k26:((c.lifted == P.liftsFinal))=true)
  (k27:((P.make == some c.make))=true)
  (k28:c.domain.isEmpty=true)
  (k32:(c.kinds == [])=true)
  (k29:((c.pinned == c.pinnedBy))=true)
  (k30:((c.veiled == (fn.params.toList ++ s.plain.varTypes P ++ fn.resultTypes.toList).any (P.veiledRec ·)))=true)
  (k31:(c.veiledFits P fn.params.toList (fn.params.toList ++ s.plain.varTypes P ++ fn.resultTypes.toList))=true)
  : joinedFacts P f fn s c=true:=by
 unfold joinedFacts
 simp only [Bool.and_eq_true]
 exact ⟨⟨⟨⟨⟨⟨⟨⟨⟨⟨⟨⟨⟨⟨⟨⟨⟨⟨⟨⟨⟨⟨⟨⟨⟨⟨⟨⟨⟨⟨⟨k0,k1⟩,k2⟩,k3⟩,k4⟩,k5⟩,k6⟩,k7⟩,k8⟩,k9⟩,k10⟩,k11⟩,k12⟩,k13⟩,k14⟩,k15⟩,k16⟩,k17⟩,k18⟩,k19⟩,k20⟩,k21⟩,k22⟩,k23⟩,k24⟩,k25⟩,k26⟩,k27⟩,by rw [if_pos k28]; exact k32⟩,k29⟩,k30⟩,k31⟩
end Go.Pv
