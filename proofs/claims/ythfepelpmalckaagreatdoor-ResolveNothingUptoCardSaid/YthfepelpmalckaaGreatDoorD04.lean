import Derived.MapKept
import Derived.Test.YthfepelpmalckaaGreatDoorD03
set_option linter.all false
namespace Go.Pv
open Go
theorem Nest.re {w0 w w' : World} {L Y Y' : Nat→Prop} {σ σ' : Sg} {st st' : St} (H:Nest w0 L w Y σ st) (R:Nat→Nat→Nat→Nat→Prop)
  (hR:∀ b r c h sz es,OwAt st' b r c h sz es→∃ b0 r0,OwAt st b0 r0 c h sz es∧R b r b0 r0)
  (hi:∀ b r b' r' b0 r0,R b r b0 r0→R b' r' b0 r0→b=b'∧r=r')
  (hk:∀ b r c h sz es,OwAt st b r c h sz es→NRep w Y h sz es→NRep w' Y' h sz es)
  (hs:∀ b r c h sz es b' x l,OwAt st b r c h sz es→lkS st' b'=some x→σ' b'=some l→l.cb ≠ h.ν):Nest w0 L w' Y' σ' st':=by
 refine ⟨fun b r c h sz es k=>?_,fun b r c h sz es k=>?_,fun b r c h sz es b' r' c' h' sz' es' k k' e=>?_,fun b r c h sz es b' x l k hx hl=>?_⟩
 ·obtain ⟨b0,r0,k0,_⟩:=hR _ _ _ _ _ _ k
  exact hk _ _ _ _ _ _ k0 (H.rep _ _ _ _ _ _ k0)
 ·obtain ⟨b0,r0,k0,_⟩:=hR _ _ _ _ _ _ k
  exact H.old _ _ _ _ _ _ k0
 ·obtain ⟨b0,r0,k0,g0⟩:=hR _ _ _ _ _ _ k
  obtain ⟨b1,r1,k1,g1⟩:=hR _ _ _ _ _ _ k'
  obtain ⟨e1,e2,e3⟩:=H.one _ _ _ _ _ _ _ _ _ _ _ _ k0 k1 e
  subst e1 e2
  obtain ⟨f1,f2⟩:=hi _ _ _ _ _ _ g0 g1
  exact ⟨f1,f2,e3⟩
 ·obtain ⟨b0,r0,k0,_⟩:=hR _ _ _ _ _ _ k
  exact hs _ _ _ _ _ _ _ _ _ k0 hx hl
theorem SW.retag {T:Tab} {C:Ctx T} {w:World} {Y:Nat→Prop} {σ:Sg} {ps:List PV} {vs:List Value} {st st' : St} {n:Nat} (H:SW C w Y σ ps vs st n)
  (hlook:∀ b x,lkS st' b=some x→∃ x0,lkS st b=some x0∧(x=x0∨∃ sz rows l,x0=.arr false sz rows∧x=.nar sz rows∧σ b=some l)) (hnest:Nest C.w0 C.L w Y σ st'):SW C w Y σ ps vs st' n:=by
 refine ⟨H.vals,⟨?_,?_⟩,H.next,H.yold,H.y0,H.c0,H.yshr,H.chg,?_,H.glob,H.fix,hnest⟩
 ·intro b x hx
  obtain ⟨x0,h0,e⟩:=hlook b x hx
  rcases e with rfl | ⟨sz,rows,l,rfl,rfl,hl⟩
  ·exact H.store.blk b x h0
  ·rcases H.store.blk b _ h0 with ⟨l',hl',hB⟩ | ⟨hn,_⟩
   ·refine .inl ⟨l',hl',?_⟩
    unfold BlkRep at hB ⊢
    exact ⟨hB.1,hB.2.1,hB.2.2.1,hB.2.2.2.1,hB.2.2.2.2.1,hB.2.2.2.2.2.1 rfl⟩
   ·rw [hl] at hn; cases hn
 ·intro b b' x x' l l' hx hx' hl hl' e
  obtain ⟨_,h0,_⟩:=hlook b x hx
  obtain ⟨_,h0',_⟩:=hlook b' x' hx'
  exact H.store.inj _ _ _ _ _ _ h0 h0' hl hl' e
 ·intro b x l hx hl
  obtain ⟨_,h0,_⟩:=hlook b x hx
  exact H.own _ _ _ h0 hl
section
variable {P:Program} {T:Tab} (hT:TabOK P T) {C:Ctx T} {o:Oper} {a:Act} {w:World} {Y:Nat→Prop} {σ:Sg} {ps:List PV} {st:St} {n id:Nat} {K:PV→Dl→Prop} {lk:Nat→Option Blk}
 (H:SW C w Y σ ps a.tmps.toList st n) (hlk:∀ b x,lk b=some x→lkS st b=some x) (hid:σ id=none∧T.pas≤id)
include hT H hlk hid in
theorem op_narB {t:TypeId} {len:Nat} {parts:Array (Nat × Operand)} (ho:o.op=.buildSlice t len parts) (h:narB T (Sig.std P T) t len parts ps lk id K):Res P C o a w σ ps st n id K:=by
 unfold narB at h
 split at h
 ·rename_i agg size z0 plain esz bytes z e
  obtain ⟨et,hu,rfl,_,hz⟩:=tab_slice hT e
  cases hb:(isPos (P.cellsOf et) && Nat.beq (lenL z) (P.cellsOf et) && Nat.ble (len * P.cellsOf et) 16777216 && noTop (evP T ps parts.toList) && Nat.beq (P.cellsOf et) 1) with
  | false=>rw [hb] at h; exact h.elim
  | true =>
   rw [hb] at h
   simp only [cond_true] at h
   simp only [Bool.and_eq_true,lenL_eq] at hb
   obtain ⟨⟨⟨⟨hb1,hb2⟩,hb3⟩,hb4⟩,hb5⟩:=hb
   have hone:=Nat.eq_of_beq_eq_true hb5
   have hpos:0<P.cellsOf et:=by omega
   have hzl:=Nat.eq_of_beq_eq_true hb2
   have hle:=Nat.le_of_ble_eq_true hb3
   split at h
   ·rename_i hf
    obtain ⟨vcs,hrep,hvl,hrun⟩:=buildSlice_core hT H ho hu hz hb1 hzl hle hb4 hf
    have hvl0:vcs.size=0:=by simpa using hvl
    obtain ⟨Y2,σ2,H2,hrep2,hoff⟩:=SW.newArrX (a:=a) (m:=0) (arr:=vcs) (rows:=[]) (sz:=1) (x:=.nar 1 []) H hid (.inr ⟨rfl,by simp⟩) et (by omega) (by simp) (by simpa using hvl0) (by
     intro w' Y' _ _; simp [RepR])
    exact ⟨_,_,_,_,Y2,σ2,h,.inl hrun,by simp only [applyD,nextI]; exact H2,hrep2,hoff⟩
   ·rename_i b r m hf
    split at h
    ·rename_i sz rows hbk
     obtain ⟨vcs,hrep,hvl,hrun⟩:=buildSlice_core hT H ho hu hz hb1 hzl hle hb4 hf
     have hst:=hlk _ _ hbk
     unfold RepL at hrep
     obtain ⟨v,vs',hvs,hv,hnil⟩:=hrep
     unfold RepL at hnil
     subst hnil
     have hvl1:vcs.size=1:=by rw [hvl,hone]
     have hv0:vcs[0]?=some v:=by rw [← Array.getElem?_toList,hvs]; rfl
     obtain ⟨hd,hwv,hloc⟩:∃ hd:Hdr,Rep w Y noSg (.ow hd sz ((rows.drop r).take m)) v∧((rows.drop r).take m ≠ []→∃ l,σ b=some l∧hd.ν=l.cb∧hd.o=l.co+r * l.sz∧hd.o+hd.cap * l.sz=l.tot∧((rows.drop r).take m).length≤hd.cap):=by
      unfold Rep at hv
      rcases hv with ⟨l2,cap,hl2,ey2,hcap,htot,hrm⟩ | ⟨hm1,a0,ey2⟩
      ·have hB2:BlkRep w Y σ l2 (.arr false sz rows):=BlkRep.of_lk H hlk hbk hl2
       unfold BlkRep at hB2
       obtain ⟨_,hsz2,hpos2,⟨hle2,hnr2⟩,hrows2,hm2,_⟩:=hB2
       have hlen:((rows.drop r).take m).length=m:=by rw [List.length_take,List.length_drop]; omega
       refine ⟨⟨l2.cb,l2.co+r * l2.sz,cap⟩,?_,fun _=>⟨l2,hl2,rfl,rfl,htot,by rw [hlen]; exact hcap⟩⟩
       unfold Rep
       by_cases hm0:m=0
       ·subst hm0
        exact .inr ⟨by simp,_,cap,ey2⟩
       ·exact .inl ⟨fun e=>by rw [e] at hlen; simp at hlen; exact hm0 hlen.symm,by rw [hlen]; exact ey2,by rw [hlen]; exact hcap⟩
      ·subst hm1
       refine ⟨⟨0,0,0⟩,?_,fun h=>absurd (by simp) h⟩
       unfold Rep
       exact .inr ⟨by simp,a0,0,ey2⟩
     cases hbi:Nat.beq b id with
     | true=>rw [hbi] at h; exact h.elim
     | false =>
     rw [hbi] at h
     have hbid:b ≠ id:=fun e=>by subst e; rw [Nat.beq_refl] at hbi; cases hbi
     generalize hes:(rows.drop r).take m=es at hwv hloc
     have h:∀ hd,K (.os id 0 1) [(b,none),(id,some (.nar 1 [[.ow hd sz ((rows.drop r).take m)]]))]:=h
     rw [hes] at h
     obtain ⟨Y2,σ2,H2,hrep2,hoff⟩:=SW.newArr (a:=a) (m:=1) (arr:=vcs) (rows:=[[.ow hd sz es]]) (sz:=1) H hid et (by omega) (by simp) (by omega) (by
      intro w' Y' hk hb
      unfold RepR
      refine ⟨⟨rfl,rfl⟩,?_,by unfold RepR; trivial⟩
      rw [RepC.iff]
      intro i p hi
      cases i with
      | zero =>
       simp only [List.getElem?_cons_zero,Option.some.injEq] at hi
       subst hi
       exact ⟨v,by rw [cell_of_block hb]; simpa using hv0,hk _ _ hwv⟩
      | succ i=>simp at hi)
     have hb1:lkS (inS st id (some (.arr false 1 [[.ow hd sz es]]))) b=some (.arr false sz rows):=by rw [lkS_inS,if_neg (fun e=>hbid e.symm)]; exact hst
     have look:∀ c x,lkS (inS (inS st b none) id (some (.nar 1 [[.ow hd sz es]]))) c=some x→(c=id∧x=.nar 1 [[.ow hd sz es]])∨(c ≠ id∧c ≠ b∧lkS (inS st id (some (.arr false 1 [[.ow hd sz es]]))) c=some x):=by
      intro c x hx
      rw [lkS_inS] at hx
      by_cases hc:id=c
      ·rw [if_pos hc] at hx; cases hx; exact .inl ⟨hc.symm,rfl⟩
      ·rw [if_neg hc,lkS_inS] at hx
       by_cases hc2:b=c
       ·rw [if_pos hc2] at hx; cases hx
       ·rw [if_neg hc2] at hx
        exact .inr ⟨fun e=>hc e.symm,fun e=>hc2 e.symm,by rw [lkS_inS,if_neg hc]; exact hx⟩
     have hidl:∃ l,σ2 id=some l:=by
      unfold Rep at hrep2
      rcases hrep2 with ⟨l,_,hl,_⟩ | ⟨h0,_⟩
      ·exact ⟨l,hl⟩
      ·cases h0
     obtain ⟨lid,hlid⟩:=hidl
     have ow:∀ {b' r' c' h' sz2 es'},OwAt (inS (inS st b none) id (some (.nar 1 [[.ow hd sz es]]))) b' r' c' h' sz2 es' →
       (b'=id∧r'=0∧c'=0∧h'=hd∧sz2=sz∧es'=es∧es ≠ [])∨(b' ≠ id∧OwAt (inS st id (some (.arr false 1 [[.ow hd sz es]]))) b' r' c' h' sz2 es'):=by
      rintro b' r' c' h' sz2 es' ⟨sz0,rs,rw0,g1,g2,g3,g4⟩
      rcases look _ _ g1 with ⟨e0,g5⟩ | ⟨e1,e2,g1⟩
      ·cases g5
       cases r' with
       | succ r'=>simp at g2
       | zero =>
        simp only [List.getElem?_cons_zero,Option.some.injEq] at g2
        subst g2
        cases c' with
        | succ c'=>simp at g3
        | zero =>
         simp only [List.getElem?_cons_zero,Option.some.injEq,PV.ow.injEq] at g3
         obtain ⟨f1,f2,f3⟩:=g3
         subst f1 f2 f3
         exact .inl ⟨e0,rfl,rfl,rfl,rfl,rfl,g4⟩
      ·exact .inr ⟨e1,⟨sz0,rs,rw0,g1,g2,g3,g4⟩⟩
     have nr:es ≠ []→∃ l,σ2 b=some l∧hd.ν=l.cb∧NRep (w.alloc (.cells vcs et)) Y2 hd sz es:=by
      intro hne
      obtain ⟨l,hl,g1,g2,g3,g4⟩:=hloc hne
      have hl2:σ2 b=some l:=by rw [hoff b hbid]; exact hl
      refine ⟨l,hl2,g1,?_⟩
      have hB2:BlkRep (w.alloc (.cells vcs et)) Y2 σ2 l (.arr false sz rows):=BlkRep.of_lk H2 (fun _ _ h=>h) hb1 hl2
      unfold BlkRep at hB2
      obtain ⟨⟨arr2,ty2,ha2,has2⟩,hsz2,hpos2,_,hrows2,hm2,_⟩:=hB2
      rw [hsz2] at g2 g3
      refine ⟨by rw [g1]; exact hm2 rfl,hpos2,⟨arr2,ty2,by rw [g1]; exact ha2,by rw [has2,g3]⟩,g4,?_⟩
      rw [g1,g2,← hes]
      exact (hrows2.drop r _ _).take m _ _
     refine ⟨_,_,_,_,Y2,σ2,h hd,.inl hrun,?_,hrep2,hoff⟩
     simp only [applyD,nextI]
     refine H2.retag (fun c x hx=>?_) ⟨fun b' r' c' h' sz2 es' hh=>?_,fun b' r' c' h' sz2 es' hh=>?_,fun b' r' c' h' sz2 es' b2 r2 c2 h2 sz3 es3 hh hh' e=>?_,fun b' r' c' h' sz2 es' b2 x l' hh hx hl'=>?_⟩
     ·rcases look _ _ hx with ⟨rfl,rfl⟩ | ⟨_,_,hx⟩
      ·exact ⟨_,by rw [lkS_inS,if_pos rfl],.inr ⟨_,_,lid,rfl,rfl,hlid⟩⟩
      ·exact ⟨_,hx,.inl rfl⟩
     ·rcases ow hh with ⟨_,_,_,rfl,rfl,rfl,hne⟩ | ⟨_,hh⟩
      ·exact (nr hne).choose_spec.2.2
      ·exact H2.nest.rep _ _ _ _ _ _ hh
     ·rcases ow hh with ⟨_,_,_,rfl,rfl,rfl,hne⟩ | ⟨_,hh⟩
      ·obtain ⟨l,hl,g1,_⟩:=nr hne
       rw [g1]; exact H2.own b _ l hb1 hl
      ·exact H2.nest.old _ _ _ _ _ _ hh
     ·rcases ow hh with ⟨e1,e2,e3,e4,_,_,hne⟩ | ⟨k1,hh1⟩ <;> rcases ow hh' with ⟨f1,f2,f3,f4,_,_,hne'⟩ | ⟨k2,hh2⟩
      ·exact ⟨by rw [e1,f1],by rw [e2,f2],by rw [e3,f3]⟩
      ·obtain ⟨l,hl,g1,_⟩:=nr hne
       exact absurd (by rw [← e,e4,g1]) (H2.nest.sep _ _ _ _ _ _ _ _ _ hh2 hb1 hl)
      ·obtain ⟨l,hl,g1,_⟩:=nr hne'
       exact absurd (by rw [e,f4,g1]) (H2.nest.sep _ _ _ _ _ _ _ _ _ hh1 hb1 hl)
      ·exact H2.nest.one _ _ _ _ _ _ _ _ _ _ _ _ hh1 hh2 e
     ·have hx2:b2 ≠ b∧∃ z,lkS (inS st id (some (.arr false 1 [[.ow hd sz es]]))) b2=some z:=by
       rcases look _ _ hx with ⟨rfl,_⟩ | ⟨_,e2,hx⟩
       ·exact ⟨fun e=>hbid e.symm,_,by rw [lkS_inS,if_pos rfl]⟩
       ·exact ⟨e2,_,hx⟩
      obtain ⟨hxi,z,hz⟩:=hx2
      rcases ow hh with ⟨_,_,_,rfl,_,_,hne⟩ | ⟨_,hh⟩
      ·obtain ⟨l,hl,g1,_⟩:=nr hne
       rw [g1]
       exact fun e=>hxi (H2.store.inj b2 b z _ l' l hz hb1 hl' hl e)
      ·exact H2.nest.sep _ _ _ _ _ _ _ _ _ hh hz hl'
    ·exact h.elim
   ·exact h.elim
 ·exact h.elim
include hT H hlk hid in
theorem op_narA {args:Array Operand} {ts:Array TypeId} {t u:TypeId} {tl:List TypeId} {b r m c:Nat} (ho:o.op=.call { callee:=.builtin .append,args:=args,argTypes:=ts }) (he:evA T ps args.toList=[.os b r m,.os c 0 1]) (ht:ts.toList=t::u::tl)
  (h:narA T (Sig.std P T) t u b r m c lk id K):Res P C o a w σ ps st n id K:=by
 have hargs:=evA_rep H args.toList
 unfold narA at h
 generalize hvs:args.toList.map a.eval=vs at hargs
 rw [he] at hargs
 obtain ⟨sv,xv,rfl,hs,hx⟩:=evA_twoX hargs
 have ht':=array_cons2 ht
 subst ht'
 split at h
 ·rename_i a1 s1 z1 p1 esz bytes z a2 s2 z2 p2 k1 k2 k3 e1 e2
  obtain ⟨et,hu,rfl,rfl,hz⟩:=tab_slice hT e1
  obtain ⟨eu,hu2,_⟩:=tab_slice hT e2
  split at h
  ·rename_i sz rows sz' row hbk hck
   cases hb:(isPos (P.cellsOf et) && Nat.beq (lenL z) (P.cellsOf et) && Nat.beq sz (P.cellsOf et) && Nat.beq sz' (P.cellsOf et) && (bif Nat.beq b c then false else bif Nat.beq b id then false else bif Nat.beq c id then false else true)) with
   | false=>rw [hb] at h; exact h.elim
   | true =>
    rw [hb] at h
    simp only [cond_true] at h
    rw [Bool.and_eq_true,Bool.and_eq_true,Bool.and_eq_true,Bool.and_eq_true,lenL_eq] at hb
    obtain ⟨⟨⟨⟨hb1,hb2⟩,hb3⟩,hb4⟩,hb5⟩:=hb
    have hinf:=info_of_pos hb1
    have hzl:=Nat.eq_of_beq_eq_true hb2
    have hsz:=Nat.eq_of_beq_eq_true hb3
    have hsz':=Nat.eq_of_beq_eq_true hb4
    subst hsz hsz'
    have hne:b ≠ c∧b ≠ id∧c ≠ id:=by
     refine ⟨fun e=>?_,fun e=>?_,fun e=>?_⟩
     ·subst e; rw [Nat.beq_refl] at hb5; cases hb5
     ·subst e; rw [Nat.beq_refl] at hb5; cases hq:Nat.beq b c <;> rw [hq] at hb5 <;> cases hb5
     ·subst e; rw [Nat.beq_refl] at hb5; cases hq:Nat.beq b c <;> rw [hq] at hb5 <;> (first | cases hb5 | (cases hq2:Nat.beq b c <;> simp_all))
    have hpos:0<P.cellsOf et:=by
     rcases Nat.eq_zero_or_pos (P.cellsOf et) with h0 | h0
     ·rw [h0] at hb1; simp [isPos] at hb1
     ·exact h0
    cases hi:P.info? et with
    | none=>exact absurd hi hinf
    | some inf =>
    have hbe:=bytesOf_eq hi
    obtain ⟨g1,g2,h⟩:=h
    have g1:(2 * (m+1)+192) * P.bytesOf et≤140737488355328:=g1
    have g2:m+1≤4611686018427387904:=g2
    have h:K (.os id 0 (m+1)) [(b,none),(c,none),(id,some (.nar (P.cellsOf et) ((rows.drop r).take m ++ [row])))]:=h
    have hst:=hlk _ _ hbk
    have hsc:=hlk _ _ hck
    obtain ⟨lc,capc,hlc,rfl,_,_,_⟩:∃ l cap,σ c=some l∧xv=.slice (some ⟨l.cb,l.co+0 * l.sz,none⟩) 1 cap∧1≤cap∧l.co+0 * l.sz+cap * l.sz=l.tot∧0+1≤l.nr:=by
     unfold Rep at hx
     rcases hx with ⟨l,cap,h1,h2,h3,h4,h5⟩ | ⟨h0,_⟩
     ·exact ⟨l,cap,h1,h2,h3,h4,h5⟩
     ·cases h0
    have hBc:BlkRep w Y σ lc (.nar (P.cellsOf et) [row]):=BlkRep.of_lk H hlk hck hlc
    unfold BlkRep at hBc
    obtain ⟨_,_,_,_,hrowc,_⟩:=hBc
    obtain ⟨vs,⟨v1,hone⟩,v2,htr⟩:=hrowc.vals
    have hvs2:vs.length=1 * P.cellsOf et∧(vs=[]∨∃ b o,some (⟨lc.cb,lc.co+0 * lc.sz,none⟩:Addr)=some ⟨b,o,none⟩∧∀ i v,vs[i]?=some v→w.cell? ⟨b,o+i,none⟩=some v) :=
     ⟨by simpa using v1,.inr ⟨lc.cb,lc.co+0 * lc.sz,rfl,by simpa using v2⟩⟩
    have look:∀ (x:Blk) d y,lkS (inS (inS (inS st b none) c none) id (some x)) d=some y→(d=id∧y=x)∨(d ≠ id∧d ≠ b∧d ≠ c∧lkS st d=some y):=by
     intro x d y hy
     rw [lkS_inS] at hy
     by_cases h1:id=d
     ·rw [if_pos h1] at hy; cases hy; exact .inl ⟨h1.symm,rfl⟩
     ·rw [if_neg h1,lkS_inS] at hy
      by_cases h2:c=d
      ·rw [if_pos h2] at hy; cases hy
      ·rw [if_neg h2,lkS_inS] at hy
       by_cases h3:b=d
       ·rw [if_pos h3] at hy; cases hy
       ·rw [if_neg h3] at hy
        exact .inr ⟨fun e=>h1 e.symm,fun e=>h3 e.symm,fun e=>h2 e.symm,hy⟩
    let R:Nat→Nat→Nat→Nat→Prop:=fun d k d0 k0=>(d=id∧d0=b∧k0=r+k∧k<((rows.drop r).take m).length)∨(d=id∧d0=c∧k0=0∧k=((rows.drop r).take m).length)∨(d ≠ id∧d ≠ b∧d ≠ c∧d0=d∧k0=k)
    have hRi:∀ d k d' k' d0 k0,R d k d0 k0→R d' k' d0 k0→d=d'∧k=k':=by
     intro d k d' k' d0 k0 h1 h2
     have hn1:=hne.1
     rcases h1 with ⟨a1,a2,a3,a4⟩ | ⟨a1,a2,a3,a4⟩ | ⟨a1,a2,a3,a4,a5⟩ <;> rcases h2 with ⟨c1,c2,c3,c4⟩ | ⟨c1,c2,c3,c4⟩ | ⟨c1,c2,c3,c4,c5⟩ <;> first | (exact ⟨by omega,by omega⟩) | (exfalso; omega)
    have hRo:∀ d k j h' s2 es,OwAt (inS (inS (inS st b none) c none) id (some (.nar (P.cellsOf et) ((rows.drop r).take m ++ [row])))) d k j h' s2 es→∃ d0 k0,OwAt st d0 k0 j h' s2 es∧R d k d0 k0:=by
     rintro d k j h' s2 es ⟨sz0,rs,rw0,q1,q2,q3,q4⟩
     rcases look _ _ _ q1 with ⟨e0,e5⟩ | ⟨e1,e2,e3,e4⟩
     ·cases e5
      by_cases hk:k<((rows.drop r).take m).length
      ·rw [List.getElem?_append_left hk] at q2
       refine ⟨b,r+k,⟨_,rows,rw0,hst,?_,q3,q4⟩,.inl ⟨e0,rfl,rfl,hk⟩⟩
       rw [List.getElem?_take,List.getElem?_drop] at q2
       split at q2
       ·exact q2
       ·cases q2
      ·rw [List.getElem?_append_right (by omega)] at q2
       have hk2:k=((rows.drop r).take m).length:=by
        by_cases hh:k - ((rows.drop r).take m).length=0
        ·omega
        ·obtain ⟨i,hi2⟩:∃ i,k - ((rows.drop r).take m).length=i+1:=⟨_,(Nat.succ_pred_eq_of_ne_zero hh).symm⟩
         rw [hi2] at q2; simp at q2
       refine ⟨c,0,⟨_,[row],rw0,hsc,?_,q3,q4⟩,.inr (.inl ⟨e0,rfl,rfl,hk2⟩)⟩
       rw [hk2] at q2; simpa using q2
     ·exact ⟨d,k,⟨sz0,rs,rw0,e4,q2,q3,q4⟩,.inr (.inr ⟨e1,e2,e3,rfl,rfl⟩)⟩
    have hml' : ((rows.drop r).take m ++ [row]).length=((rows.drop r).take m).length+1:=by simp
    obtain ⟨lb,hlb,hB⟩:∃ l,σ b=some l∧BlkRep w Y σ l (.nar (P.cellsOf et) rows):=by
     rcases H.store.blk b _ hst with hh | ⟨_,_,_,e0⟩
     ·exact hh
     ·cases e0
    have hB' : BlkRep w Y σ lb (.arr false (P.cellsOf et) rows):=by
     unfold BlkRep at hB ⊢
     exact ⟨hB.1,hB.2.1,hB.2.2.1,hB.2.2.2.1,hB.2.2.2.2.1,fun _=>hB.2.2.2.2.2,fun e=>by cases e⟩
    obtain ⟨sx,cap,rfl,hmc,hml,hr⟩:=os_rows hs (.inl ⟨lb,hlb,hB'⟩)
    by_cases hgrow:m+1≤cap
    ·
     unfold Rep at hs
     rcases hs with ⟨l,cap',hl,e,_,htot,hnr⟩ | ⟨rfl,sx',e⟩
     ·cases e
      rw [hlb] at hl; cases hl
      unfold BlkRep at hB
      obtain ⟨⟨arr,tyb,ha,has⟩,hlsz,_,⟨hle,hlnr⟩,hrows,hm⟩:=hB
      rw [hlsz] at htot
      have hbnd:lb.co+r * P.cellsOf et+(m+1) * P.cellsOf et≤arr.size:=by
       rw [has,← htot]
       have:=Nat.mul_le_mul_right (P.cellsOf et) hgrow
       omega
      obtain ⟨w',hrun,W⟩:=storeCells_run (P:=P) (o:=lb.co+r * P.cellsOf et+m * P.cellsOf et) vs 0 w arr ha (by rw [hvs2.1]; rw [Nat.add_mul] at hbnd; omega) hone
      have W:Wrote w w' lb.cb (lb.co+r * P.cellsOf et+m * P.cellsOf et) arr tyb vs:=by simpa using W
      obtain ⟨arr',h4,h5,h6⟩:=W.blk
      obtain ⟨σ',H',hid',hoff⟩:=H.rebase hid (x':=.arr false (P.cellsOf et) ((rows.drop r).take m ++ [row])) (l':=⟨lb.cb,lb.co+r * P.cellsOf et,P.cellsOf et,lb.tot,m+1⟩) hst (fun _ _ e=>by cases e) hlb hm rfl W.os W.tape W.output W.size W.other (by
       intro σ' _ hk
       unfold BlkRep
       refine ⟨⟨arr',tyb,h4,by rw [h5,has]⟩,rfl,hpos,⟨by rw [hml',← hml]; show lb.co+r * P.cellsOf et+(m+1) * P.cellsOf et≤lb.tot; omega,by rw [hml',← hml]⟩,?_,fun _=>hm,fun h=>by cases h⟩
       refine RepR.app _ _ _ ?_ ?_
       ·obtain ⟨us,⟨u1,_⟩,u2,u3⟩:=((hrows.drop r _ _).take m _ _).vals
        refine u3 w' Y noSg lb.cb _ hk (fun i v hv=>?_)
        have hc:=u2 i v hv
        rw [cell_of_block ha] at hc
        have hilt:i<us.length:=by
         by_cases hh:i<us.length
         ·exact hh
         ·rw [List.getElem?_eq_none (Nat.le_of_not_lt hh)] at hv; cases hv
        rw [u1,← hml] at hilt
        show w'.cell? ⟨lb.cb,lb.co+r * P.cellsOf et+i,none⟩=some v
        rw [cell_of_block h4,h6,if_neg (by omega)]
        exact hc
       ·refine htr w' Y noSg lb.cb _ hk (fun i v hv=>?_)
        have hilt:i<vs.length:=by
         by_cases hh:i<vs.length
         ·exact hh
         ·rw [List.getElem?_eq_none (Nat.le_of_not_lt hh)] at hv; cases hv
        show w'.cell? ⟨lb.cb,lb.co+r * P.cellsOf et+((rows.drop r).take m).length * P.cellsOf et+i,none⟩=some v
        rw [← hml,cell_of_block h4,h6,if_pos (by omega)]
        rw [show lb.co+r * P.cellsOf et+m * P.cellsOf et+i - (lb.co+r * P.cellsOf et+m * P.cellsOf et)=i by omega]
        exact hv)
      have H2:SW C w' Y σ' ps a.tmps.toList (inS (inS (inS st b none) c none) id (some (.nar (P.cellsOf et) ((rows.drop r).take m ++ [row])))) (max n (id+1)):=by
       have K0:Keep w w' Y Y noSg noSg:=⟨fun k _ hy=>W.other k (fun e=>hy (e ▸ hm)),fun _ _ h=>h,Nat.le_of_eq W.size.symm,SgLe.refl _⟩
       have notl:∀ {b' r' c' h' sz2 es'},OwAt st b' r' c' h' sz2 es'→h'.ν ≠ lb.cb:=fun hh=>(H.nest.sep _ _ _ _ _ _ _ _ _ hh hst hlb).symm
       refine H'.retag (fun d x hx=>?_) (H.nest.re R hRo hRi (fun _ _ _ _ _ _ hh hN=>hN.keep K0 (W.other _ (notl hh)) (fun h=>h)) fun d k j h' s2 es d' x l' hh hx hl'=>?_)
       ·rcases look _ _ _ hx with ⟨rfl,rfl⟩ | ⟨e1,e2,e3,e4⟩
        ·exact ⟨_,by rw [lkS_inS,if_pos rfl],.inr ⟨_,_,_,rfl,rfl,hid'⟩⟩
        ·exact ⟨x,by rw [lkS_inS,if_neg (fun e=>e1 e.symm),lkS_inS,if_neg (fun e=>e2 e.symm)]; exact e4,.inl rfl⟩
       ·rcases look _ _ _ hx with ⟨rfl,rfl⟩ | ⟨e1,e2,e3,e4⟩
        ·rw [hid'] at hl'; cases hl'
         show lb.cb ≠ _
         exact H.nest.sep _ _ _ _ _ _ _ _ lb hh hst hlb
        ·exact H.nest.sep _ _ _ _ _ _ _ _ _ hh e4 (by rw [← hoff d' e1]; exact hl')
      refine builtin_res ho (δ:=_) (cv:=.slice (some ⟨lb.cb,lb.co+r * lb.sz,none⟩) (m+1) cap) (w':=w') (Y':=Y) (σ':=σ') (fun ty cs=>?_) (by simp only [applyD,nextI]; exact H2) ?_ hoff h
      ·rw [hvs]
       have:=append_place (P:=P) (w:=w) (ts:=tl) (ty:=ty) (x:=some ⟨lb.cb,lb.co+r * lb.sz,none⟩) (sl:=m) (sc:=cap) (yc:=capc) (w':=w') hu hu2 hinf hvs2 hgrow (fun b o e=>by cases e; rw [hlsz]; exact hrun) (fun h=>by cases h) (fun a h=>by cases h; rfl)
       simp only [builtin,Sem.run_bind]
       rw [this]
       rfl
      ·unfold Rep
       refine .inl ⟨_,cap,hid',?_,hgrow,?_,?_⟩
       ·rw [hlsz]; simp
       ·simp; omega
       ·show 0+(m+1)≤m+1; omega
     ·cases e; omega
    ·
     have hold:∃ us:List Value,(us.length=m * P.cellsOf et∧(us=[]∨∃ b o,sx=some ⟨b,o,none⟩∧∀ i v,us[i]?=some v→w.cell? ⟨b,o+i,none⟩=some v)) ∧
       (∀ (w' : World) (Y' : Nat→Prop) (b' o' : Nat),(∀ p v,Rep w Y noSg p v→Rep w' Y' noSg p v)→(∀ i v,us[i]?=some v→w'.cell? ⟨b',o'+i,none⟩=some v)→RepR w' Y' noSg b' (P.cellsOf et) ((rows.drop r).take m) o'):=by
      rcases hr with hr | ⟨b',o',e,_,_,hr⟩
      ·rw [hr] at hml ⊢
       refine ⟨[],⟨by rw [hml]; simp,.inl rfl⟩,fun _ _ _ _ _ _=>by simp [RepR]⟩
      ·obtain ⟨us,⟨u1,_⟩,u2,u3⟩:=hr.vals
       exact ⟨us,⟨by rw [u1,← hml],.inr ⟨b',o',e,u2⟩⟩,fun w' Y' b' o' hk hc=>u3 w' Y' noSg b' o' hk hc⟩
     obtain ⟨us,hus,hutr⟩:=hold
     obtain ⟨cv,w',Y',σ',hrun,H',hrep,hoff⟩:=append_new (P:=P) (a:=a) (ty:=0) (x:=sx) (sc:=cap) (us:=us) (vs:=vs) (old:=(rows.drop r).take m) (new:=[row]) (ts:=tl) (yc:=capc) H hid hu hu2 hi hz.symm hpos hzl (sl:=m) hus hvs2 hml rfl
      (fun w' Y' b' hk hc=>by
       refine RepR.app _ _ _ (hutr w' Y' b' 0 hk (fun i v hv=>hc i v ?_)) (htr w' Y' noSg b' _ hk (fun i v hv=>?_))
       ·rw [List.getElem?_append_left]
        ·exact hv
        ·by_cases hh:i<us.length
         ·exact hh
         ·rw [List.getElem?_eq_none (Nat.le_of_not_lt hh)] at hv; cases hv
       ·have:=hc (us.length+i) v (by rw [List.getElem?_append_right (by omega)]; simpa using hv)
        rw [hus.1] at this
        rw [← hml]; simpa using this) hgrow (by rw [hbe] at g1; exact g1) g2
     have hidl:∃ l,σ' id=some l:=by
      unfold Rep at hrep
      rcases hrep with ⟨l,_,hl,_⟩ | ⟨h0,_⟩
      ·exact ⟨l,hl⟩
      ·simp at h0
     obtain ⟨lid,hlid⟩:=hidl
     have up:∀ {d k j h' s2 es},OwAt st d k j h' s2 es→OwAt (inS st id (some (.arr false (P.cellsOf et) ((rows.drop r).take m ++ [row])))) d k j h' s2 es∨d=id:=by
      rintro d k j h' s2 es ⟨sz0,rs,rw0,q1,q2⟩
      by_cases hd:d=id
      ·exact .inr hd
      ·exact .inl ⟨sz0,rs,rw0,by rw [lkS_inS,if_neg (fun e=>hd e.symm)]; exact q1,q2⟩
     have hst1:∀ d x,d ≠ id→lkS st d=some x→lkS (inS st id (some (.arr false (P.cellsOf et) ((rows.drop r).take m ++ [row])))) d=some x:=fun d x hd hx=>by rw [lkS_inS,if_neg (fun e=>hd e.symm)]; exact hx
     have hRo' : ∀ d k j h' s2 es,OwAt (inS (inS (inS st b none) c none) id (some (.nar (P.cellsOf et) ((rows.drop r).take m ++ [row])))) d k j h' s2 es→∃ d0 k0,OwAt (inS st id (some (.arr false (P.cellsOf et) ((rows.drop r).take m ++ [row])))) d0 k0 j h' s2 es∧R d k d0 k0:=by
      intro d k j h' s2 es hh
      obtain ⟨d0,k0,q1,q2⟩:=hRo _ _ _ _ _ _ hh
      refine ⟨d0,k0,(up q1).resolve_right fun e=>?_,q2⟩
      rcases q2 with ⟨_,q,_⟩ | ⟨_,q,_⟩ | ⟨q0,_,_,q,_⟩
      ·exact hne.2.1 (q ▸ e)
      ·exact hne.2.2 (q ▸ e)
      ·exact q0 (q ▸ e)
     have H2:SW C w' Y' σ' ps a.tmps.toList (inS (inS (inS st b none) c none) id (some (.nar (P.cellsOf et) ((rows.drop r).take m ++ [row])))) (max n (id+1)):=by
      refine H'.retag (fun d x hx=>?_) (H'.nest.re R hRo' hRi (fun _ _ _ _ _ _ _ hN=>hN) fun d k j h' s2 es d' x l' hh hx hl'=>?_)
      ·rcases look _ _ _ hx with ⟨rfl,rfl⟩ | ⟨e1,e2,e3,e4⟩
       ·exact ⟨_,by rw [lkS_inS,if_pos rfl],.inr ⟨_,_,lid,rfl,rfl,hlid⟩⟩
       ·exact ⟨x,hst1 _ _ e1 e4,.inl rfl⟩
      ·rcases look _ _ _ hx with ⟨rfl,rfl⟩ | ⟨e1,e2,e3,e4⟩
       ·exact H'.nest.sep _ _ _ _ _ _ _ _ _ hh (by rw [lkS_inS,if_pos rfl]) hl'
       ·exact H'.nest.sep _ _ _ _ _ _ _ _ _ hh (hst1 _ _ e1 e4) hl'
     refine builtin_res ho (δ:=_) (cv:=cv) (w':=w') (Y':=Y') (σ':=σ') (fun ty' cs=>?_) (by simp only [applyD,nextI]; exact H2) (by rw [← hml] at hrep; exact hrep) hoff h
     rw [hvs]
     simp only [builtin,Sem.run_bind]
     have:Builtin.append_ (t::u::tl).toArray ty' [Value.slice sx m cap,Value.slice (some ⟨lc.cb,lc.co+0 * lc.sz,none⟩) 1 capc].toArray=Builtin.append_ (t::u::tl).toArray 0 #[Value.slice sx m cap,Value.slice (some ⟨lc.cb,lc.co+0 * lc.sz,none⟩) [row].length capc]:=rfl
     erw [this,hrun]
     rfl
  ·exact h.elim
 ·exact h.elim
end
end Go.Pv
namespace Go.Pv
open Go Go.MapKept
theorem tab_map {P:Program} {T:Tab} (hT:TabOK P T) {t:TypeId} {agg:Bool} {plain:Option (List Nat)} {size sz:Nat} {z:Option (List PV)} {zs:List PV}
  (h:T t=⟨true,agg,size,z,plain,.map sz zs⟩):∃ k e,P.underlying t=some (.map k e)∧P.underlying k=some (.int .i64)∧zeroAg P e=some zs∧sz=P.cellsOf e:=by
 obtain ⟨i,d,h1,h2,h3,h4,h5,h6,h7,h8⟩:=tab_open hT h rfl
 cases d <;> simp at h8
 rename_i k e
 unfold mapTK at h8
 split at h8
 ·rename_i z hk hz
  cases h8
  exact ⟨k,e,h2,hk,hz,rfl⟩
 ·cases h8
theorem zeroAg_rep {P:Program} {t:TypeId} {z:List PV} (h:zeroAg P t=some z):∃ zs:List Value,(∀ w,(zeroValue t).run P w=.ok (.agg zs.toArray) w)∧∀ w Y σ,RepL w Y σ z zs:=by
 unfold zeroAg at h
 split at h
 ·rename_i i hi
  split at h
  ·rename_i cs hz
   cases h
   refine ⟨cs.toList,fun w=>?_,fun w Y σ=>ofCells_rep w Y σ _⟩
   simp [zeroValue,typeInfo,program,Sem.run,Result.andThen,hi,hz]
  ·cases h
 ·cases h
theorem MapRep.length {w:World} {Y:Nat→Prop}:∀ {es:List MapEntry} {rows:List (List PV)},MapRep w Y es rows→es.length=rows.length
 | [],_,h=>by unfold MapRep at h; subst h; rfl
 | _::es,_,⟨n,cs,rows',h1,_,_,h5⟩=>by subst h1; simp [MapRep.length h5]
theorem findNow_cons {n k:Int} {e:MapEntry} {es:List MapEntry} {i:Nat} (he:e.key=.int .i64 k) :
  Instr.findNow (.int .i64) (.int .i64 n) (e::es) i=if n=k then some (some (i,e.val)) else Instr.findNow (.int .i64) (.int .i64 n) es (i+1):=by
 have h1:Instr.sameNow (.int .i64) (.int .i64 n) e.key=some (n == k):=by rw [he]; simp [Instr.sameNow]
 rw [Instr.findNow,h1]
 by_cases h:n=k
 ·subst h; simp
 ·have:(n == k)=false:=by simpa using h
  rw [this,if_neg h]
theorem MapRep.find {w:World} {Y:Nat→Prop} (n:Int):∀ (es:List MapEntry) (rows:List (List PV)) (i:Nat),MapRep w Y es rows →
  (findM rows n=none∧Instr.findNow (.int .i64) (.int .i64 n) es i=some none) ∨
  ∃ j e cs vs,findM rows n=some cs∧Instr.findNow (.int .i64) (.int .i64 n) es i=some (some (i+j,e.val))∧es[j]?=some e∧e.key=.int .i64 n∧e.val=.agg (List.toArray vs)∧RepL w Y noSg cs vs
 | [],rows,i,h=>by unfold MapRep at h; subst h; exact .inl ⟨rfl,rfl⟩
 | e::es,rows,i,⟨k,cs,rows',h1,h2,⟨vs,h3,h4⟩,h5⟩=>by
  subst h1
  by_cases hk:k=n
  ·subst hk
   refine .inr ⟨0,e,cs,vs,by simp [findM],?_,rfl,h2,h3,h4⟩
   rw [findNow_cons h2,if_pos rfl]; rfl
  ·have hk' : ¬ n=k:=fun e=>hk e.symm
   rcases MapRep.find n es rows' (i+1) h5 with ⟨g1,g2⟩ | ⟨j,e',cs',vs',g1,g2,g3,g4⟩
   ·refine .inl ⟨by simp [findM,hk,g1],?_⟩
    rw [findNow_cons h2,if_neg hk',g2]
   ·refine .inr ⟨j+1,e',cs',vs',by simp [findM,hk,g1],?_,by simpa using g3,g4⟩
    rw [findNow_cons h2,if_neg hk',g2]
    congr 3; omega
theorem MapRep.push {w:World} {Y:Nat→Prop} {n:Int} {cs:List PV} {vs:List Value} {b:Nat} (hr:RepL w Y noSg cs vs):∀ (es:List MapEntry) (rows:List (List PV)),MapRep w Y es rows→findM rows n=none →
  MapRep w Y (es ++ [{ key:=.int .i64 n,val:=.agg vs.toArray,born:=b }]) (setM rows n cs)
 | [],rows,h,_=>by unfold MapRep at h; subst h; exact ⟨n,cs,[],rfl,rfl,⟨vs,rfl,hr⟩,rfl⟩
 | e::es,rows,⟨k,ks,rows',h1,h2,h3,h5⟩,hf=>by
  subst h1
  by_cases hk:k=n
  ·subst hk; simp [findM] at hf
  ·simp [findM,hk] at hf
   simp only [setM,if_neg hk,List.cons_append]
   exact ⟨k,ks,_,rfl,h2,h3,MapRep.push hr es rows' h5 hf⟩
theorem MapRep.modify {w:World} {Y:Nat→Prop} {n:Int} {cs:List PV} {vs:List Value} (hr:RepL w Y noSg cs vs):∀ (es:List MapEntry) (rows:List (List PV)) (i j:Nat) (v:Value),MapRep w Y es rows →
  Instr.findNow (.int .i64) (.int .i64 n) es i=some (some (i+j,v))→MapRep w Y (es.modify j fun e=>{ e with key:=.int .i64 n,val:=.agg vs.toArray }) (setM rows n cs)
 | [],_,i,j,v,_,h=>by simp [Instr.findNow] at h
 | e::es,rows,i,j,v,⟨k,ks,rows',h1,h2,h3,h5⟩,h=>by
  subst h1
  by_cases hk:k=n
  ·subst hk
   have hj:j=0:=by
    rw [findNow_cons h2,if_pos rfl] at h; simp at h; omega
   subst hj
   simp only [setM,if_pos rfl]
   exact ⟨k,cs,rows',rfl,rfl,⟨vs,rfl,hr⟩,h5⟩
  ·have hk' : ¬ n=k:=fun e=>hk e.symm
   rw [findNow_cons h2,if_neg hk'] at h
   have hpos:∀ (l:List MapEntry) (a m:Nat) (x:Value),Instr.findNow (.int .i64) (.int .i64 n) l a=some (some (m,x))→a≤m:=by
    intro l
    induction l with
    | nil=>intro a m x h; simp [Instr.findNow] at h
    | cons y l ih =>
     intro a m x h
     rw [Instr.findNow] at h
     split at h
     ·cases h; exact Nat.le_refl _
     ·have:=ih _ _ _ h; omega
     ·cases h
   have h9:=hpos _ _ _ _ h
   obtain ⟨j',rfl⟩:∃ j',j=j'+1:=⟨j - 1,by omega⟩
   simp only [setM,if_neg hk]
   refine ⟨k,ks,_,rfl,h2,h3,?_⟩
   exact MapRep.modify hr es rows' (i+1) j' v h5 (by rw [h]; congr 2; congr 1; omega)
section
variable {P:Program} {T:Tab} (hT:TabOK P T) {C:Ctx T} {o:Oper} {a:Act} {w:World} {Y:Nat→Prop} {σ:Sg} {ps:List PV} {st:St} {n id:Nat} {K:PV→Dl→Prop} {lk:Nat→Option Blk}
 (H:SW C w Y σ ps a.tmps.toList st n) (hlk:∀ b x,lk b=some x→lkS st b=some x) (hid:σ id=none∧T.pas≤id)
include H hid in
theorem op_mapNew {t:TypeId} (ho:o.op=.makeMap t none) (h:mapNew T t id K):Res P C o a w σ ps st n id K:=by
 unfold mapNew at h
 split at h
 ·obtain ⟨Y',σ',H',hs,_,_,hoff⟩:=H.allocO hid (.map #[] 0) ⟨w.heap.size,0,0,0,0⟩ rfl (.map []) (fun _ _ e=>by cases e) (by
   intro w' Y' σ' hk hY hb _
   unfold BlkRep
   exact ⟨⟨#[],0,hb,by simp [MapRep]⟩,hY⟩)
  refine ⟨_,_,.map (some w.heap.size),_,Y',σ',h,.inl ?_,H',?_,hoff⟩
  ·simp [execOp,ho,Instr.makeMap,newObj,Sem.run,Result.andThen]
  ·unfold Rep; exact ⟨_,hs,rfl⟩
 ·exact h.elim
include hT H hlk in
theorem op_mapLen {args:Array Operand} {ts:Array TypeId} {t:TypeId} {b:Nat} (ho:o.op=.call { callee:=.builtin .len,args:=args,argTypes:=ts }) (he:evA T ps args.toList=[.mp b]) (ht:ts.toList=[t])
  (h:mapLen T (Sig.std P T) t b lk K):Res P C o a w σ ps st n id K:=by
 have hargs:=evA_rep H args.toList
 generalize hvs:args.toList.map a.eval=vs at hargs
 unfold mapLen at h
 split at h
 ·rename_i e
  obtain ⟨k,et,hu,_⟩:=tab_map hT e
  split at h
  ·rename_i rows hb
   rw [he] at hargs
   obtain ⟨u,rfl,hu1⟩:=evA_one hargs
   have ht':=array_one ht
   subst ht'
   unfold Rep at hu1
   obtain ⟨l,hs,rfl⟩:=hu1
   have hB:BlkRep w Y σ l (.map rows):=BlkRep.of_lk H hlk hb hs
   unfold BlkRep at hB
   obtain ⟨⟨es,ck,h1,h2⟩,_⟩:=hB
   have hl:=h2.length
   refine builtin_quiet H ho (cv:=.int .i64 rows.length) (fun ty cs=>?_) (by simp [Rep,Sig.std]) h
   rw [hvs]
   simp [builtin,Builtin.len_,run_und hu,goInt_eq,MapKept.run_getObj_map h1,Result.andThen,← hl]
  ·exact h.elim
 ·exact h.elim
include hT H hlk in
theorem op_mapGet {t:TypeId} {m k:Operand} (ho:o.op=.lookup t m k true) (h:mapGet T (Sig.std P T) t (evL T ps m) (evL T ps k) lk K):Res P C o a w σ ps st n id K:=by
 have hm:=ev_rep H m
 have hk:=ev_rep H k
 unfold mapGet at h
 split at h
 ·rename_i agg size zero plain sz z b x e em ek
  obtain ⟨kt,et,hu,hku,hz,_⟩:=tab_map hT e
  obtain ⟨zs,hzr,hzrep⟩:=zeroAg_rep hz
  split at h
  ·rename_i rows hb
   rw [em] at hm
   unfold Rep at hm
   obtain ⟨l,hs,hme⟩:=hm
   have hke:a.eval k=.int .i64 x:=rep_intV hk ek
   have hB:BlkRep w Y σ l (.map rows):=BlkRep.of_lk H hlk hb hs
   unfold BlkRep at hB
   obtain ⟨⟨es,ck,h1,h2⟩,_⟩:=hB
   have hkey:IsKey (.int .i64) (.int .i64 x):=by simp [IsKey]
   rcases MapRep.find x es.toList rows 0 h2 with ⟨g1,g2⟩ | ⟨j,e',cs,vs,g1,g2,g3,g4,g5,g6⟩
   ·obtain ⟨zc,hzc,h⟩:=h.2 g1
    refine Res.quiet H (cv:=.tuple #[.agg zs.toArray,.bool false]) ?_ ?_ h
    ·simp [execOp,ho,hme,hke,Instr.lookup,run_und hu,MapKept.run_getObj_map h1,MapKept.run_checkKey hku hkey,MapKept.run_findKey hku g2,hzr,Result.andThen]
    ·unfold Rep
     refine ⟨[.agg zs.toArray,.bool false],rfl,?_⟩
     unfold RepL; refine ⟨_,_,rfl,?_,?_⟩
     ·unfold Rep; exact ⟨zs,rfl,hzc _ _ _ _ (hzrep w Y σ)⟩
     ·unfold RepL; refine ⟨_,_,rfl,by unfold Rep; rfl,by unfold RepL; rfl⟩
   ·have h:K (.tup [.agg cs,.sb true]) []:=h.1 cs g1
    refine Res.quiet H (cv:=.tuple #[e'.val,.bool true]) ?_ ?_ h
    ·simp [execOp,ho,hme,hke,Instr.lookup,run_und hu,MapKept.run_getObj_map h1,MapKept.run_checkKey hku hkey,MapKept.run_findKey hku g2,Result.andThen]
    ·unfold Rep
     refine ⟨[e'.val,.bool true],rfl,?_⟩
     unfold RepL; refine ⟨_,_,rfl,?_,?_⟩
     ·rw [g5]; unfold Rep; exact ⟨vs,rfl,RepL.keep cs ⟨fun _ _ _=>rfl,fun _ _ h=>h,Nat.le_refl _,fun _ _ h=>by cases h⟩ vs g6⟩
     ·unfold RepL; refine ⟨_,_,rfl,by unfold Rep; rfl,by unfold RepL; rfl⟩
  ·exact h.elim
 ·exact h.elim
include hT H hlk in
theorem op_mapUp {t:TypeId} {m k x:Operand} (ho:o.op=.mapUpdate t m k x∨o.op=.insert t m k x) (h:mapUp T (Sig.std P T) t (evL T ps m) (evL T ps k) (evL T ps x) lk K):Res P C o a w σ ps st n id K:=by
 have hm:=ev_rep H m
 have hk:=ev_rep H k
 have hx:=ev_rep H x
 unfold mapUp at h
 split at h
 ·rename_i agg size zero plain sz z b q e em ek
  obtain ⟨kt,et,hu,hku,hz,hsz⟩:=tab_map hT e
  split at h
  ·rename_i rows hb
   split at h
   ·rename_i xs ex
    split at h
    ·rename_i cs δ hp
     cases hmd:memD b δ with
     | true=>rw [hmd] at h; exact h.elim
     | false =>
      rw [hmd] at h
      simp only [cond_false] at h
      cases hl:Nat.beq (lenL cs) sz with
      | false=>rw [hl] at h; exact h.elim
      | true =>
       rw [hl] at h
       simp only [cond_true] at h
       obtain ⟨cs2,hl2,hc2,hw2,hK,_⟩:=wkC_std h
       rw [em] at hm
       unfold Rep at hm
       obtain ⟨l,hs,hme⟩:=hm
       have hke:a.eval k=.int .i64 q:=rep_intV hk ek
       rw [ex] at hx
       unfold Rep at hx
       obtain ⟨vs,hxe,hxr⟩:=hx
       obtain ⟨Y1,H1,hr1,hy1⟩:=pur_sound xs cs δ hp Y st H (fun b ro sz rows hb=>⟨ro,hlk _ _ hb⟩) vs hxr
       have hst1:lkS (applyD δ st) b=some (.map rows):=by rw [lkS_applyD δ st hmd]; exact hlk _ _ hb
       have hB:BlkRep w Y1 σ l (.map rows):=by
        rcases H1.store.blk b _ hst1 with ⟨l',hl',hB⟩ | ⟨hn,ro,s,e⟩
        ·rw [hs] at hl'; cases hl'; exact hB
        ·cases e
       have hBm:=hB
       unfold BlkRep at hB
       obtain ⟨⟨es,ck,h1,h2⟩,hY⟩:=hB
       have hkey:IsKey (.int .i64) (.int .i64 q):=by simp [IsKey]
       have hr2:=hw2 w Y1 noSg vs hr1
       have fin:∀ (es' : Array MapEntry) (ck' : Nat),MapRep w Y1 es'.toList (setM rows q cs2)→(Instr.mapUpdate t (.map (some l.cb)) (.int .i64 q) (.agg vs.toArray)).run P w=.ok () { w with heap:=w.heap.setIfInBounds l.cb (.map es' ck') }→Res P C o a w σ ps st n id K:=by
        intro es' ck' hR hrun
        have hset:=heap_set (o':=.map es' ck') h1
        have H2:SW C { w with heap:=w.heap.setIfInBounds l.cb (.map es' ck') } Y1 σ ps a.tmps.toList (inS (applyD δ st) b (some (.map (setM rows q cs2)))) n:=by
         refine H1.update hst1 hs hY rfl rfl rfl (by simp) (fun k hk=>hset.2 k hk) (fun _ _ e=>by cases e) fun hkp=>?_
         unfold BlkRep
         have K0:Keep w { w with heap:=w.heap.setIfInBounds l.cb (.map es' ck') } Y1 Y1 noSg noSg:=⟨fun k _ hy=>hset.2 k (fun e=>hy (e ▸ hY)),fun _ _ h=>h,by simp,SgLe.refl _⟩
         exact ⟨⟨es',ck',hset.1,hR.keep K0⟩,hY⟩
        refine ⟨_,_,Go.undef,{ w with heap:=w.heap.setIfInBounds l.cb (.map es' ck') },Y1,σ,hK,.inr ⟨?_,rfl⟩,?_,by simp [Rep],Off.refl _ _⟩
        ·rcases ho with ho | ho <;> simp [execOp,ho,hme,hke,hxe,hrun]
        ·rw [applyD_app]
         have:nextI (δ ++ [(b,some (Blk.map ((Sig.std P T).mset rows q cs2)))]) n id=max n (id+1):=by cases δ <;> rfl
         rw [this]
         exact H2.mono (by omega)
       rcases MapRep.find q es.toList rows 0 h2 with ⟨g1,g2⟩ | ⟨j,e',cs',vs',g1,g2,g3,g4,g5,g6⟩
       ·refine fin (es.push { key:=.int .i64 q,val:=.agg vs.toArray,born:=ck }) (ck+1) ?_ ?_
        ·rw [Array.toList_push]; exact MapRep.push hr2 _ _ h2 g1
        ·simp [Instr.mapUpdate,run_und hu,MapKept.run_getObj_map h1,MapKept.run_checkKey hku hkey,MapKept.run_findKey hku g2,MapKept.run_setObj_map _ h1,Result.andThen]
       ·refine fin (es.modify j fun e=>{ e with key:=.int .i64 q,val:=.agg vs.toArray }) ck ?_ ?_
        ·rw [Array.toList_modify]
         exact MapRep.modify hr2 _ _ 0 j _ h2 g2
        ·have g3' : es[j]?=some e':=by simpa using g3
         simp [Instr.mapUpdate,run_und hu,MapKept.run_getObj_map h1,MapKept.run_checkKey hku hkey,MapKept.run_findKey hku g2,g3',g4,MapKept.run_keyThatStays hkey,MapKept.run_setObj_map _ h1,Result.andThen]
    ·exact h.elim
   ·exact h.elim
  ·exact h.elim
 ·exact h.elim
end
end Go.Pv
namespace Go.Pv
open Go
structure PWf (P:Program):Prop where
 und:UndOK P
 flds:∀ t fs,t<P.types.size→P.underlying t=some (.struct fs)→∀ f∈fs.toList,P.info? f.type ≠ none
 elem:∀ t k e,t<P.types.size→P.underlying t=some (.array k e)→P.info? e ≠ none
 mixed:P.follows .mixedOrders=true
theorem build_ok {T:Tab} {S:Sig} {t:TypeId} {parts:Array (Nat × Operand)} {ps:List PV} {lk:Nat→Option Blk} {id:Nat} {K:PV→Dl→Prop} (h:opE T S (.build t parts) ps lk id K):(T t).ok=true:=by
 simp only [opE] at h
 split at h
 ·rename_i e; rw [e]
 ·rename_i e; rw [e]
 ·exact h.elim
section
variable {P:Program} {T:Tab} (hT:TabOK P T) (hW:PWf P) {C:Ctx T} {o:Oper} {a:Act} {w:World} {Y:Nat→Prop} {σ:Sg} {ps:List PV} {st:St} {n id:Nat} {K:PV→Dl→Prop} {lk:Nat→Option Blk}
 (H:SW C w Y σ ps a.tmps.toList st n) (hlk:∀ b x,lk b=some x→lkS st b=some x) (hid:σ id=none∧T.pas≤id)
include hT hW H hlk hid in
theorem opE_res (h:opE T (Sig.std P T) o.op ps lk id K):Res P C o a w σ ps st n id K:=by
 cases ho:o.op with
 | move x=>rw [ho] at h; exact op_move H ho h
 | assign x=>rw [ho] at h; exact op_assign H ho h
 | pick c x y=>rw [ho] at h; exact op_pick H ho h
 | alloc t=>rw [ho] at h; exact op_alloc hT H hid ho h
 | box t x=>rw [ho] at h; exact op_box H hid ho h
 | build t parts=>rw [ho] at h; exact op_build hT H ho (fun fs hu=>hW.flds t fs (hT t (build_ok h)).2 hu) (fun k e hu=>hW.elem t k e (hT t (build_ok h)).2 hu) h
 | buildSlice t len parts=>rw [ho] at h; exact op_buildSlice hT H hlk hid ho h
 | load t x=>rw [ho] at h; exact op_load hT H hlk ho h
 | store t x y=>rw [ho] at h; exact op_store hT H hlk hid ho h
 | nilCheck x=>rw [ho] at h; exact op_nilCheck H ho h
 | binOp op t x y u=>rw [ho] at h; exact op_binOp hT H hW.und ho h
 | unOp op t x =>
  rw [ho] at h
  cases op with
  | not=>exact op_unNot H ho h
  | neg=>exact op_unNeg H ho h
  | _=>exact (by simp [opE] at h)
 | convert s d x=>rw [ho] at h; exact op_convert hT H hlk ho h
 | makeFunc fn first cap =>
  rw [ho] at h
  cases fn with
  | func f=>exact op_makeFunc H ho h
  | _=>exact (by simp [opE] at h)
 | makeSlice t x y=>rw [ho] at h; exact op_makeSlice hT H hid ho h
 | slice t x lo hi mx=>rw [ho] at h; exact op_slice hT H hlk ho hid h
 | fieldAddr t x f=>rw [ho] at h; exact op_fieldAddr hT H ho h
 | field t x f=>rw [ho] at h; exact op_field hT H hW.und ho h
 | indexAddr t x i=>rw [ho] at h; exact op_indexAddr hT H hlk ho h
 | index t x i=>rw [ho] at h; exact op_index hT H hW.und ho h
 | extract t i=>rw [ho] at h; exact op_extract H ho h
 | call c =>
  rw [ho] at h
  obtain ⟨callee,args,ts⟩:=c
  cases callee with
  | builtin b =>
   cases b with
   | len=>exact op_len hT H ho h
   | min=>exact op_min hT H ho h
   | max=>exact op_max hT H ho h
   | append=>exact op_append hT H hlk hid ho h
   | clear=>exact op_clear hT H hlk hid ho h
   | _=>exact (by simp [opE] at h)
  | _=>exact (by simp [opE] at h)
 | _=>rw [ho] at h; exact (by simp [opE] at h)
include hT hW H hlk hid in
theorem opN_res (h:opN T (Sig.std P T) o.op ps lk id K):Res P C o a w σ ps st n id K:=by
 unfold opN at h
 split at h
 ·exact opE_res hT hW H hlk hid h
 ·split at h
  ·rename_i ho; exact op_mapNew H hid ho h
  ·rename_i ho; exact op_mapUp hT H hlk (.inl ho) h
  ·rename_i ho; exact op_mapUp hT H hlk (.inr ho) h
  ·rename_i ho; exact op_mapGet hT H hlk ho h
  ·rename_i ho
   split at h
   ·rename_i he ht; exact op_mapLen hT H hlk ho he ht h
   ·exact opE_res hT hW H hlk hid (by rw [ho]; exact h)
  ·rename_i ho
   split at h
   ·exact op_narB hT H hlk hid ho h
   ·exact opE_res hT hW H hlk hid (by rw [ho]; exact h)
  ·rename_i ho
   split at h
   ·rename_i he ht
    split at h
    ·exact op_narA hT H hlk hid ho he ht h
    ·exact opE_res hT hW H hlk hid (by rw [ho]; exact h)
   ·exact opE_res hT hW H hlk hid (by rw [ho]; exact h)
  ·exact opE_res hT hW H hlk hid h
end
theorem RepL.setSame {w:World} {Y:Nat→Prop} {σ:Sg} {p:PV}:∀ (ps:List PV) (vs:List Value) (t:Nat),RepL w Y σ ps vs→Rep w Y σ p (vs.getD t Go.undef)→RepL w Y σ (setL ps t p) vs
 | [],vs,t,h,_=>by simpa [setL] using h
 | q::ps,vs,0,h,hp=>by
  unfold RepL at h; obtain ⟨v,vs',rfl,h1,h2⟩:=h
  simp only [setL]; unfold RepL; exact ⟨v,vs',rfl,by simpa using hp,h2⟩
 | q::ps,vs,t+1,h,hp=>by
  unfold RepL at h; obtain ⟨v,vs',rfl,h1,h2⟩:=h
  simp only [setL]; unfold RepL; exact ⟨v,vs',rfl,h1,RepL.setSame ps vs' t h2 (by simpa using hp)⟩
theorem SW.setSame {T:Tab} {C:Ctx T} {w:World} {Y:Nat→Prop} {σ:Sg} {ps:List PV} {vs:List Value} {st:St} {n:Nat} (H:SW C w Y σ ps vs st n) {d:Nat} {b:Bool} (hb:getL ps d=.sb b) (c:Bool) (hc:b=c):SW C w Y σ (setL ps d (.bool c)) vs st n:=by
 refine (H.vals' ?_)
 refine RepL.setSame _ _ _ H.vals ?_
 have:=H.vals.get _ _ d
 rw [hb] at this
 rw [rep_sb this,hc]
 simp [Rep]
theorem ActRep.setSame {T:Tab} {C:Ctx T} {E:Env} {a:Act} {w:World} (h:ActRep C E a w) {d:Nat} {b:Bool} (hb:getL E.tmps d=.sb b) (c:Bool) (hc:b=c):ActRep C (putE E (some d) (.bool c)) a w:=by
 obtain ⟨⟨Y,σ,H⟩,hd⟩:=h
 refine ⟨⟨Y,σ,(H.vals' ?_)⟩,hd⟩
 refine RepL.setSame _ _ _ H.vals ?_
 have:=H.vals.get _ _ d
 rw [hb] at this
 rw [rep_sb this,hc]
 simp [Rep]
theorem ActRep.put {T:Tab} {C:Ctx T} {w:World} {Y:Nat→Prop} {σ:Sg} {a:Act} {ps:List PV} {st:St} {n:Nat} (H:SW C w Y σ ps a.tmps.toList st n) (hd:a.defers=[]) {v:PV} {cv:Value} (hv:Rep w Y σ v cv) (d:Option Nat) :
  ActRep C (putE ⟨ps,st,n⟩ d v) (a.put d cv) w:=by
 cases d with
 | none=>exact ⟨⟨Y,σ,H⟩,hd⟩
 | some d =>
  refine ⟨⟨Y,σ,(H.vals' ?_)⟩,hd⟩
  simp only [Act.put,putE,Array.toList_setIfInBounds]
  exact RepL.set hv _ _ _ H.vals
def OpT (P:Program) (T:Tab) (o:Oper) (E:Env) (K:Env→Prop):Prop :=
 ∀ (C:Ctx T) a w,ActRep C E a w→∀ next Q,(∀ E' a' w',ActRep C E' a' w'→K E'→next a' w')→o.wp P a w next Q
theorem opE_OpT {P:Program} {T:Tab} (hT:TabOK P T) (hW:PWf P) {o:Oper} {E:Env} {K:Env→Prop}
  (h:opE T (Sig.std P T) o.op E.tmps (lkS E.st) E.next fun v δ=>K (putE ⟨E.tmps,applyD δ E.st,nextD δ E.next⟩ o.dst v)):OpT P T o E K:=by
 intro C a w hA next Q hnext
 obtain ⟨⟨Y,σ,H⟩,hd⟩:=hA
 obtain ⟨v,δ,cv,w',Y',σ',hK,hrun,H',hv,_⟩:=opE_res hT hW H (fun _ _ h=>h) ⟨H.next _ (Nat.le_refl _),H.fix.1⟩ h
 have hn:nextI δ E.next E.next=nextD δ E.next:=by cases δ <;> simp [nextI,nextD]
 rw [hn] at H'
 have:=hnext _ _ _ (ActRep.put H' hd hv o.dst) hK
 unfold Oper.wp
 rcases hrun with hrun | ⟨hrun,rfl⟩
 ·rw [hrun]; exact this
 ·rw [hrun]; exact this
theorem opN_OpT {P:Program} {T:Tab} (hT:TabOK P T) (hW:PWf P) {o:Oper} {E:Env} {K:Env→Prop}
  (h:opN T (Sig.std P T) o.op E.tmps (lkS E.st) E.next fun v δ=>K (putE ⟨E.tmps,applyD δ E.st,nextD δ E.next⟩ o.dst v)):OpT P T o E K:=by
 intro C a w hA next Q hnext
 obtain ⟨⟨Y,σ,H⟩,hd⟩:=hA
 obtain ⟨v,δ,cv,w',Y',σ',hK,hrun,H',hv,_⟩:=opN_res hT hW H (fun _ _ h=>h) ⟨H.next _ (Nat.le_refl _),H.fix.1⟩ h
 have hn:nextI δ E.next E.next=nextD δ E.next:=by cases δ <;> simp [nextI,nextD]
 rw [hn] at H'
 have:=hnext _ _ _ (ActRep.put H' hd hv o.dst) hK
 unfold Oper.wp
 rcases hrun with hrun | ⟨hrun,rfl⟩
 ·rw [hrun]; exact this
 ·rw [hrun]; exact this
theorem stepO_OpT {P:Program} {T:Tab} (hT:TabOK P T) (hW:PWf P) {o:Oper} {E:Env} {K:Env→Prop} (h:stepO T (Sig.std P T) o E K):OpT P T o E K:=by
 unfold stepO at h
 split at h
 ·
  rename_i f args ts ho
  split at h
  ·rename_i k caps hf
   intro C a w hA next Q hnext
   obtain ⟨⟨Y,σ,H⟩,hd⟩:=hA
   have hfv:=ev_rep H f
   rw [hf] at hfv
   unfold Rep at hfv
   obtain ⟨cs,ef,hcs⟩:=hfv
   have hargs:=evA_rep H args.toList
   have hall:=RepL.app _ _ _ _ hargs hcs
   obtain ⟨hent,hcall⟩:=callE_sound h C Y σ w a.tmps.toList _ H hall
   unfold Oper.wp
   have hrun:(execOp a.eval o).run P w=.ok (.enter k (args.toList.map a.eval ++ cs).toArray) w:=by
    have hmap:args.map a.eval=(args.toList.map a.eval).toArray:=by apply Array.ext'; simp
    simp only [execOp,ho,resolve,ef,Deferred.ofValue,Sem.run_bind,Sem.run_pure,Result.andThen,invoke,hmap]
    have:(#[] ++ (args.toList.map a.eval).toArray ++ cs.toArray)=(args.toList.map a.eval ++ cs).toArray:=by apply Array.ext'; simp
    rw [this]
    exact hent
   rw [hrun]
   refine Calls.mono hcall fun e w' hh=>?_
   obtain ⟨cv,v,E',Y',σ',rfl,hK,H',hv⟩:=hh
   exact hnext _ _ _ (ActRep.put H' hd hv o.dst) hK
  ·exact h.elim
 ·split at h
  ·rename_i c x y ho
   split at h
   ·rename_i t hc
    obtain ⟨ht,hf⟩:=h
    intro C a w hA next Q hnext
    obtain ⟨⟨Y,σ,H⟩,hd⟩:=hA
    have hcv:=H.vals.get _ _ c
    rw [hc] at hcv
    have hcv:=rep_sb hcv
    have hcv' : a.eval (.tmp c)=.bool t:=by
     rw [← hcv]; simp [Act.eval,Array.getD_eq_getD_getElem?,List.getD_eq_getElem?_getD]
    have hrun:(execOp a.eval o).run P w=.ok (.value (if t then a.eval x else a.eval y)) w:=by
     simp [execOp,ho,hcv',asBool]
    unfold Oper.wp
    rw [hrun]
    cases t with
    | true=>exact hnext _ _ _ (ActRep.put (H.setSame hc true rfl) hd (v:=evL T E.tmps x) (ev_rep H x) o.dst) (ht rfl)
    | false=>exact hnext _ _ _ (ActRep.put (H.setSame hc false rfl) hd (v:=evL T E.tmps y) (ev_rep H y) o.dst) (hf rfl)
   ·exact opE_OpT hT hW (by rw [ho]; exact h)
  ·exact opN_OpT hT hW h
theorem gd_sound {P:Program} {T:Tab} {all:Array Oper} {o:Oper} {E:Env} {run skip:Env→Prop} (h:gd (Sig.std P T) all o.guard E run skip) {T:Tab} {C:Ctx T} {a:Act} {w:World} (hA:ActRep C E a w) :
  ∃ E',ActRep C E' a w∧((Region.wanted o (yielded all a.tmps)=true∧run E')∨(Region.wanted o (yielded all a.tmps)=false∧skip E')):=by
 unfold gd at h
 split at h
 ·rename_i hg
  exact ⟨E,hA,.inl ⟨by simp [Region.wanted,hg],h⟩⟩
 ·rename_i j want hg
  split at h
  ·rename_i oj hj
   split at h
   ·rename_i d hd
    have hval:∀ b,a.tmps.toList.getD d Go.undef=.bool b→yielded all a.tmps j=some b:=by
     intro b hb
     rw [List.getD_eq_getElem?_getD] at hb
     unfold yielded
     simp only [hj,Option.bind_some,hd]
     cases hx:a.tmps[d]? with
     | none=>rw [Array.getElem?_toList,hx] at hb; cases hb
     | some v=>rw [Array.getElem?_toList,hx] at hb; simp at hb; subst hb; rfl
    have hundef:a.tmps.toList.getD d Go.undef=Go.undef→yielded all a.tmps j=none:=by
     intro hb
     rw [List.getD_eq_getElem?_getD] at hb
     unfold yielded
     simp only [hj,Option.bind_some,hd]
     cases hx:a.tmps[d]? with
     | none=>rfl
     | some v=>rw [Array.getElem?_toList,hx] at hb; simp at hb; subst hb; rfl
    have wantb:∀ b,yielded all a.tmps j=some b→Region.wanted o (yielded all a.tmps)=(b == want):=by
     intro b hb; simp [Region.wanted,hg,hb]
    have hA':=hA
    obtain ⟨⟨Y,σ,H⟩,hdef⟩:=hA'
    have hg2:=H.vals.get _ _ d
    split at h
    ·rename_i e; rw [e] at hg2
     have hw:=wantb true (hval true (rep_bool hg2))
     refine ⟨E,hA,?_⟩
     rw [hw]
     cases want with
     | true=>exact .inl ⟨rfl,h⟩
     | false=>exact .inr ⟨rfl,h⟩
    ·rename_i e; rw [e] at hg2
     have hw:=wantb false (hval false (rep_bool hg2))
     refine ⟨E,hA,?_⟩
     rw [hw]
     cases want with
     | true=>exact .inr ⟨rfl,h⟩
     | false=>exact .inl ⟨rfl,h⟩
    ·rename_i b e
     have hg3:=hg2
     rw [e] at hg3
     have hw:=wantb b (hval b (rep_sb hg3))
     obtain ⟨h1,h2⟩:=h
     refine ⟨putE E (some d) (.bool b),⟨⟨Y,σ,H.setSame e b rfl⟩,hdef⟩,?_⟩
     rw [hw]
     cases b with
     | true =>
      have h1:=h1 rfl
      cases want with
      | true=>exact .inl ⟨rfl,h1⟩
      | false=>exact .inr ⟨rfl,h1⟩
     | false =>
      have h2:=h2 rfl
      cases want with
      | true=>exact .inr ⟨rfl,h2⟩
      | false=>exact .inl ⟨rfl,h2⟩
    ·rename_i e; rw [e] at hg2
     have hy:=hundef (by unfold Rep at hg2; exact hg2)
     exact ⟨E,hA,.inr ⟨by simp [Region.wanted,hg,hy],h⟩⟩
    ·exact h.elim
   ·exact h.elim
  ·exact h.elim
theorem opsE_sound {P:Program} {T:Tab} (hT:TabOK P T) (hW:PWf P) {all:Array Oper} {Q:Exit→Act→World→Prop} {C:Ctx T}:∀ (l:List Oper) (E:Env) (K:Env→Prop),opsE T (Sig.std P T) all l E K →
  ∀ a w,ActRep C E a w→(∀ E' a' w',ActRep C E' a' w'→K E'→Q .normal a' w')→wpList P all Q l a w
 | [],E,K,h,a,w,hA,hQ=>hQ E a w hA h
 | o::l,E,K,h,a,w,hA,hQ=>by
  simp only [opsE] at h
  obtain ⟨E',hA',hh⟩:=gd_sound h hA
  unfold wpList
  rcases hh with ⟨hw,hh⟩ | ⟨hw,hh⟩
  ·rw [if_pos hw]
   refine .inl (stepO_OpT hT hW hh C a w hA' _ _ fun E2 a2 w2 hA2 hK2=>?_)
   exact opsE_sound hT hW l E2 K hK2 a2 w2 hA2 hQ
  ·rw [if_neg (by rw [hw]; simp)]
   obtain ⟨⟨Y,σ,H⟩,hd⟩:=hA'
   exact opsE_sound hT hW l _ K hh _ w (ActRep.put H hd (v:=.undef) (cv:=Go.undef) (by simp [Rep]) o.dst) hQ
end Go.Pv
namespace Go.Pv
open Go
theorem evA_congr {T:Tab} {ps qs:List PV}:∀ (l:List Operand),(∀ x∈l,evL T ps x=evL T qs x)→evA T ps l=evA T qs l
 | [],_=>rfl
 | x::l,h=>by simp only [evA]; rw [h x (by simp),evA_congr l fun y hy=>h y (by simp [hy])]
theorem evP_congr {T:Tab} {ps qs:List PV}:∀ (l:List (Nat × Operand)),(∀ x∈l,evL T ps x.2=evL T qs x.2)→evP T ps l=evP T qs l
 | [],_=>rfl
 | (i,x)::l,h=>by simp only [evP]; rw [h (i,x) (by simp),evP_congr l fun y hy=>h y (by simp [hy])]
theorem evO_congr {T:Tab} {ps qs:List PV} (l:Option Operand) (h:∀ x,l=some x→evL T ps x=evL T qs x):evO T ps l=evO T qs l:=by
 cases l with
 | none=>rfl
 | some x=>simp only [evO]; rw [h x rfl]
theorem opE_congr {T:Tab} {S:Sig} {o:Op} {ps qs:List PV} {lk:Nat→Option Blk} {id:Nat} {K:PV→Dl→Prop} (h:∀ x∈o.operands,evL T ps x=evL T qs x) :
  opE T S o ps lk id K=opE T S o qs lk id K:=by
 cases o
 case build t parts =>
  have:=evP_congr (ps:=ps) (qs:=qs) parts.toList fun x hx=>h x.2 (by simp only [Op.operands,List.mem_toArray,List.mem_map]; exact ⟨x,hx,rfl⟩)
  simp only [opE,this]
 case buildSlice t len parts =>
  have:=evP_congr (ps:=ps) (qs:=qs) parts.toList fun x hx=>h x.2 (by simp only [Op.operands,List.mem_toArray,List.mem_map]; exact ⟨x,hx,rfl⟩)
  simp only [opE,this]
 case makeFunc fn first cap =>
  cases fn
  case func f =>
   have:=evA_congr (ps:=ps) (qs:=qs) cap.toList fun x hx=>h x (by simp only [Op.operands,Array.mem_append]; exact .inr (by simpa using hx))
   simp only [opE,this]
  all_goals simp only [opE]
 case slice t x lo hi mx =>
  have h0:=h x (by simp [Op.operands])
  have h1:=evO_congr (ps:=ps) (qs:=qs) lo fun y hy=>h y (by subst hy; simp [Op.operands])
  have h2:=evO_congr (ps:=ps) (qs:=qs) hi fun y hy=>h y (by subst hy; simp [Op.operands])
  have h3:=evO_congr (ps:=ps) (qs:=qs) mx fun y hy=>h y (by subst hy; simp [Op.operands])
  simp only [opE,h0,h1,h2,h3]
 case call c =>
  obtain ⟨callee,args,ts⟩:=c
  cases callee
  case builtin b =>
   have:=evA_congr (ps:=ps) (qs:=qs) args.toList fun x hx=>h x (by simp only [Op.operands,Call.operands]; simpa using hx)
   simp only [opE,this]
  all_goals simp only [opE]
 case unOp op t x =>
  have h0:=h x (by simp [Op.operands])
  cases op <;> simp only [opE,h0]
 all_goals (simp only [Op.operands,List.mem_toArray,List.mem_cons,List.not_mem_nil,or_false,forall_eq_or_imp,forall_eq] at h; simp only [opE,h])
theorem bifF {b:Bool} {p:Prop}:(bif b then p else False)=(b=true∧p):=by cases b <;> simp
theorem loadRow_det {agg:Bool} {size:Nat} {row:List PV} {c:Nat} {K:PV→Prop} (h:loadRow agg size row c K):∃ v,K v∧∀ K' : PV→Prop,K' v→loadRow agg size row c K':=by
 unfold loadRow at h ⊢
 cases agg <;> simp only [cond_true,cond_false,bifF] at h ⊢
 all_goals exact ⟨_,h.2,fun K' hk=>⟨h.1,hk⟩⟩
theorem binE_det {P:Program} {T:Tab} {op:BinOp} {t:TypeId} {x y:PV} {K:PV→Prop} (h:binE T (Sig.std P T) op t x y K):∃ v,K v∧∀ K' : PV→Prop,K' v→binE T (Sig.std P T) op t x y K':=by
 have spec:∀ {k k' : IntKind} {a b:Int},binS (Sig.std P T) op k a k' b K→∃ v,K v∧∀ K' : PV→Prop,K' v→binS (Sig.std P T) op k a k' b K':=by
  intro k k' a b h
  cases op <;> simp only [binS,bifF,Sig.std] at h ⊢
  case shl=>exact ⟨_,h.2,fun K' hk=>⟨h.1,hk⟩⟩
  case shr=>exact ⟨_,h.2,fun K' hk=>⟨h.1,hk⟩⟩
  case quo=>exact ⟨_,h.2.2,fun K' hk=>⟨h.1,h.2.1,hk⟩⟩
  case rem=>exact ⟨_,h.2.2,fun K' hk=>⟨h.1,h.2.1,hk⟩⟩
 have eqk:∀ {b:Bool},eqK (Sig.std P T) op b K→∃ v,K v∧∀ K' : PV→Prop,K' v→eqK (Sig.std P T) op b K':=by
  intro b h
  unfold eqK at h ⊢
  cases h1:isEql op <;> simp only [h1,cond_true,cond_false] at h ⊢
  ·cases h2:isNeq op <;> simp only [h2,cond_true,cond_false] at h ⊢
   exact ⟨_,h,fun K' hk=>hk⟩
  ·exact ⟨_,h,fun K' hk=>hk⟩
 have eql:∀ {b:Bool},eqL op b K→∃ v,K v∧∀ K' : PV→Prop,K' v→eqL op b K':=by
  intro b h
  unfold eqL at h ⊢
  cases h1:isEql op <;> simp only [h1,cond_true,cond_false] at h ⊢
  ·cases h2:isNeq op <;> simp only [h2,cond_true,cond_false] at h ⊢
   cases b <;> exact ⟨_,h,fun K' hk=>hk⟩
  ·exact ⟨_,h,fun K' hk=>hk⟩
 have ints:∀ {k k' : IntKind} {a b:Int} {v u:PV},(bif isSpec op then binS (Sig.std P T) op k a k' b K
   else bif kindEq k k' then (bif isArith op then K v else bif isCmp op then K u else False) else False) →
   ∃ r,K r∧∀ K' : PV→Prop,K' r→(bif isSpec op then binS (Sig.std P T) op k a k' b K'
   else bif kindEq k k' then (bif isArith op then K' v else bif isCmp op then K' u else False) else False):=by
  intro k k' a b v u h
  cases h1:isSpec op <;> simp only [h1,cond_true,cond_false] at h ⊢
  ·cases h2:kindEq k k' <;> simp only [h2,cond_true,cond_false] at h ⊢
   cases h3:isArith op <;> simp only [h3,cond_true,cond_false] at h ⊢
   ·cases h4:isCmp op <;> simp only [h4,cond_true,cond_false] at h ⊢
    exact ⟨_,h,fun K' hk=>hk⟩
   ·exact ⟨_,h,fun K' hk=>hk⟩
  ·exact spec h
 unfold binE at h ⊢
 split at h
 ·exact ints h
 ·cases h1:isAdd op <;> simp only [h1,cond_true,cond_false] at h ⊢
  ·cases h2:isCmp op <;> simp only [h2,cond_true,cond_false] at h ⊢
   exact ⟨_,h,fun K' hk=>hk⟩
  ·simp only [Sig.std] at h ⊢
   exact ⟨_,h.2,fun K' hk=>⟨h.1,hk⟩⟩
 ·split at h
  ·split at h
   ·exact eqk h
   ·exact h.elim
  ·exact h.elim
 ·split at h
  ·exact ints h
  ·split at h
   ·split at h
    ·exact eqk h
    ·exact h.elim
   ·split at h
    ·cases h1:(isNilP x && isNilP y) <;> simp only [h1,cond_true,cond_false] at h ⊢
     ·cases h2:((isNilP x && isPtrP y) || (isPtrP x && isNilP y)) <;> simp only [h2,cond_true,cond_false] at h ⊢
      exact eql h
     ·exact eql h
    ·exact h.elim
theorem det_and {c:Prop} {K:PV→Dl→Prop} {F:(PV→Dl→Prop)→Prop} (h0:c) (h:∃ v δ,K v δ∧∀ K' : PV→Dl→Prop,K' v δ→F K'):∃ v δ,K v δ∧∀ K' : PV→Dl→Prop,K' v δ→c∧F K':=by
 obtain ⟨v,δ,h1,h2⟩:=h
 exact ⟨v,δ,h1,fun K' hk=>⟨h0,h2 K' hk⟩⟩
theorem opE_det {P:Program} {T:Tab} {o:Op} {ps:List PV} {lk:Nat→Option Blk} {id:Nat} {K:PV→Dl→Prop} (hq:isQ o=true) (h:opE T (Sig.std P T) o ps lk id K) :
  ∃ v δ,K v δ∧∀ K' : PV→Dl→Prop,K' v δ→opE T (Sig.std P T) o ps lk id K':=by
 cases o
 case move x=>exact ⟨_,_,h,fun _ hk=>hk⟩
 case assign x=>exact ⟨_,_,h,fun _ hk=>hk⟩
 case pick c a b =>
  simp only [opE] at h ⊢
  split at h
  ·exact ⟨_,_,h,fun _ hk=>hk⟩
  ·exact ⟨_,_,h,fun _ hk=>hk⟩
  ·exact h.elim
 case nilCheck x =>
  simp only [opE] at h ⊢
  split at h
  all_goals first | exact ⟨_,_,h,fun _ hk=>hk⟩ | exact h.elim
 case extract t i =>
  simp only [opE] at h ⊢
  split at h
  ·simp only [bifF] at h ⊢; exact ⟨_,_,h.2,fun _ hk=>⟨h.1,hk⟩⟩
  ·exact h.elim
 case convert s d x =>
  simp only [opE] at h ⊢
  split at h
  ·split at h
   ·obtain ⟨h1,b,h2,h3⟩:=h
    exact ⟨_,_,h3,fun _ hk=>⟨h1,b,h2,hk⟩⟩
   ·exact h.elim
  ·split at h
   all_goals first | exact ⟨_,_,h,fun _ hk=>hk⟩ | exact h.elim
  ·exact h.elim
 case makeFunc fn first cap =>
  cases fn
  case func f =>
   simp only [opE] at h ⊢
   split at h
   all_goals first | exact ⟨_,_,h,fun _ hk=>hk⟩ | exact h.elim
  all_goals exact (by simp [opE] at h)
 case unOp op t x =>
  cases op
  case not =>
   simp only [opE] at h ⊢
   split at h
   all_goals first | exact ⟨_,_,h,fun _ hk=>hk⟩ | exact h.elim
  case neg =>
   simp only [opE] at h ⊢
   split at h
   all_goals first | exact ⟨_,_,h,fun _ hk=>hk⟩ | exact h.elim
  all_goals exact (by simp [opE] at h)
 case fieldAddr t x f =>
  simp only [opE] at h ⊢
  split at h
  ·split at h
   ·simp only [bifF] at h ⊢
    obtain ⟨h0,h⟩:=h
    split at h
    ·exact ⟨_,_,h,fun _ hk=>⟨h0,hk⟩⟩
    ·exact ⟨_,_,h,fun _ hk=>⟨h0,hk⟩⟩
    ·exact ⟨_,_,h,fun _ hk=>⟨h0,hk⟩⟩
    ·exact ⟨_,_,h.2,fun _ hk=>⟨h0,h.1,hk⟩⟩
    ·exact h.elim
   ·exact h.elim
  ·exact h.elim
 case field t x f =>
  simp only [opE] at h ⊢
  split at h
  ·split at h
   ·split at h
    ·simp only [bifF] at h ⊢
     obtain ⟨v,h1,h2⟩:=loadRow_det h.2
     exact ⟨v,_,h1,fun _ hk=>⟨h.1,h2 _ hk⟩⟩
    ·exact h.elim
   ·exact h.elim
  ·exact h.elim
 case load t x =>
  simp only [opE] at h ⊢
  split at h
  ·split at h
   ·split at h
    ·obtain ⟨v,h1,h2⟩:=loadRow_det h
     exact ⟨v,_,h1,fun _ hk=>h2 _ hk⟩
    ·exact h.elim
   ·split at h
    ·simp only [Sig.std] at h ⊢
     obtain ⟨row,h0,h⟩:=h
     obtain ⟨v,h1,h2⟩:=loadRow_det h
     exact ⟨v,_,h1,fun _ hk=>⟨row,h0,h2 _ hk⟩⟩
    ·simp only [Sig.std] at h ⊢
     obtain ⟨row,h0,h⟩:=h
     obtain ⟨v,h1,h2⟩:=loadRow_det h
     exact ⟨v,_,h1,fun _ hk=>⟨row,h0,h2 _ hk⟩⟩
    ·exact h.elim
   ·split at h
    ·simp only [Sig.std,bifF] at h ⊢
     obtain ⟨row,h0,h⟩:=h
     split at h
     ·rename_i h' sz' es he
      obtain ⟨h3,h4,er,h5,h⟩:=h
      obtain ⟨v,h1,h2⟩:=loadRow_det h
      refine ⟨v,_,h1,fun _ hk=>⟨row,h0,?_⟩⟩
      rw [he]
      exact ⟨h3,h4,er,h5,h2 _ hk⟩
     ·exact h.elim
    ·exact h.elim
   ·obtain ⟨v,h1,h2⟩:=loadRow_det h
    exact ⟨v,_,h1,fun _ hk=>h2 _ hk⟩
   ·exact h.elim
  ·exact h.elim
 case binOp op t x y u =>
  have hn:nilC y=false:=by
   cases hn:nilC y with
   | true=>simp only [isQ,hn] at hq; cases hq
   | false=>rfl
  simp only [opE] at h ⊢
  rw [hn] at h ⊢
  simp only at h ⊢
  split at h
  ·obtain ⟨v,h1,h2⟩:=binE_det h
   exact ⟨v,_,h1,fun _ hk=>h2 _ hk⟩
  ·exact h.elim
 case indexAddr t x i =>
  simp only [opE] at h ⊢
  split at h
  ·split at h
   ·simp only [bifF] at h ⊢
    obtain ⟨h0,j,row,h1,h2,h⟩:=h
    exact ⟨_,_,h,fun _ hk=>⟨h0,j,row,h1,h2,hk⟩⟩
   ·split at h
    ·simp only [bifF] at h ⊢
     obtain ⟨h0,j,h1,h2,h⟩:=h
     exact ⟨_,_,h,fun _ hk=>⟨h0,j,h1,h2,hk⟩⟩
    ·simp only [bifF] at h ⊢
     obtain ⟨h0,j,h1,h2,h⟩:=h
     exact ⟨_,_,h,fun _ hk=>⟨h0,j,h1,h2,hk⟩⟩
    ·exact h.elim
   ·simp only [bifF] at h ⊢
    obtain ⟨h0,j,h1,h2,h⟩:=h
    exact ⟨_,_,h,fun _ hk=>⟨h0,j,h1,h2,hk⟩⟩
   ·exact h.elim
  ·simp only [bifF] at h ⊢
   obtain ⟨h0,h⟩:=h
   split at h
   ·obtain ⟨h1,h⟩:=h
    split at h
    ·exact ⟨_,_,h,fun _ hk=>⟨h0,h1,hk⟩⟩
    ·exact ⟨_,_,h,fun _ hk=>⟨h0,h1,hk⟩⟩
    ·exact ⟨_,_,h.2,fun _ hk=>⟨h0,h1,h.1,hk⟩⟩
    ·exact h.elim
   ·obtain ⟨j,h1,h2,h⟩:=h
    split at h
    ·exact ⟨_,_,h,fun _ hk=>⟨h0,j,h1,h2,hk⟩⟩
    ·exact ⟨_,_,h,fun _ hk=>⟨h0,j,h1,h2,hk⟩⟩
    ·exact ⟨_,_,h.2,fun _ hk=>⟨h0,j,h1,h2,h.1,hk⟩⟩
    ·exact h.elim
   ·exact h.elim
  ·exact h.elim
 case index t x i =>
  simp only [opE] at h ⊢
  split at h
  ·simp only [Sig.std] at h ⊢
   obtain ⟨j,c,h1,h2,h⟩:=h
   exact ⟨_,_,h,fun _ hk=>⟨j,c,h1,h2,hk⟩⟩
  ·simp only [bifF] at h ⊢
   obtain ⟨h0,j,h1,h2,h⟩:=h
   obtain ⟨v,h3,h4⟩:=loadRow_det h
   exact ⟨v,_,h3,fun _ hk=>⟨h0,j,h1,h2,h4 _ hk⟩⟩
  ·exact h.elim
 case build t parts =>
  simp only [opE] at h ⊢
  split at h
  ·simp only [bifF] at h ⊢
   obtain ⟨h0,h⟩:=h
   split at h
   ·exact ⟨_,_,h,fun _ hk=>⟨h0,hk⟩⟩
   ·exact h.elim
  ·simp only [bifF] at h ⊢
   obtain ⟨h0,h⟩:=h
   split at h
   ·exact ⟨_,_,h,fun _ hk=>⟨h0,hk⟩⟩
   ·exact h.elim
  ·exact h.elim
 case call c =>
  obtain ⟨callee,args,ts⟩:=c
  cases callee
  case builtin b =>
   simp only [opE] at h ⊢
   split at h
   ·split at h
    ·exact ⟨_,_,h,fun _ hk=>hk⟩
    ·exact h.elim
   ·split at h
    ·exact ⟨_,_,h,fun _ hk=>hk⟩
    ·exact h.elim
   ·split at h
    ·exact ⟨_,_,h,fun _ hk=>hk⟩
    ·exact h.elim
   ·split at h
    ·exact ⟨_,_,h,fun _ hk=>hk⟩
    ·exact h.elim
   ·split at h
    ·simp only [bifF] at h ⊢; exact ⟨_,_,h.2,fun _ hk=>⟨h.1,hk⟩⟩
    ·split at h
     ·simp only [bifF] at h ⊢; exact ⟨_,_,h.2,fun _ hk=>⟨h.1,hk⟩⟩
     ·exact h.elim
   ·split at h
    ·simp only [bifF] at h ⊢; exact ⟨_,_,h.2,fun _ hk=>⟨h.1,hk⟩⟩
    ·split at h
     ·simp only [bifF] at h ⊢; exact ⟨_,_,h.2,fun _ hk=>⟨h.1,hk⟩⟩
     ·exact h.elim
   ·exact (by simp [isQ] at hq)
   ·exact (by simp [isQ] at hq)
   ·exact h.elim
  all_goals exact (by simp [isQ] at hq)
 case slice t x lo hi mx =>
  simp only [opE] at h ⊢
  split at h
  all_goals repeat' (first
   | exact h.elim
   | exact ⟨_,_,h,fun _ hk=>hk⟩
   | (obtain ⟨i,j,h1,h2,h3,h4,h5⟩:=h; exact ⟨_,_,h5,fun _ hk=>⟨i,j,h1,h2,h3,h4,hk⟩⟩)
   | (split at h)
   | (simp only [bifF] at h ⊢; refine det_and h.1 ?_; replace h:=h.2)
   | (refine det_and h.1 ?_; replace h:=h.2))
 all_goals exact (by simp [isQ] at hq)
end Go.Pv
namespace Go.Pv
open Go
def Eqv (p q:PV):Prop:=∀ w Y σ v,Rep w Y σ p v ↔ Rep w Y σ q v
theorem Eqv.refl (p:PV):Eqv p p:=fun _ _ _ _=>Iff.rfl
theorem Eqv.symm {p q:PV} (h:Eqv p q):Eqv q p:=fun w Y σ v=>(h w Y σ v).symm
theorem Eqv.trans {p q r:PV} (h:Eqv p q) (k:Eqv q r):Eqv p r:=fun w Y σ v=>(h w Y σ v).trans (k w Y σ v)
theorem Eqv.bool (b:Bool):Eqv (.sb b) (.bool b):=fun w Y σ v=>by simp [Rep]
def EqvL (ps qs:List PV):Prop:=ps.length=qs.length∧∀ t,Eqv (getL ps t) (getL qs t)
theorem EqvL.refl (ps:List PV):EqvL ps ps:=⟨rfl,fun _=>Eqv.refl _⟩
theorem EqvL.trans {ps qs rs:List PV} (h:EqvL ps qs) (k:EqvL qs rs):EqvL ps rs:=⟨h.1.trans k.1,fun t=>(h.2 t).trans (k.2 t)⟩
theorem EqvL.symm {ps qs:List PV} (h:EqvL ps qs):EqvL qs ps:=⟨h.1.symm,fun t=>(h.2 t).symm⟩
theorem getL_setL (l:List PV) (d t:Nat) (v:PV):getL (setL l d v) t=if d=t∧d<l.length then v else getL l t:=by
 rw [getL_eq,setL_eq,getL_eq,List.getD_eq_getElem?_getD,List.getD_eq_getElem?_getD,List.getElem?_set]
 by_cases h:d=t
 ·subst h
  by_cases hl:d<l.length
  ·simp [hl]
  ·simp [hl]
 ·simp [h]
theorem length_setL (l:List PV) (d:Nat) (v:PV):(setL l d v).length=l.length:=by rw [setL_eq]; simp
theorem getL_ge {l:List PV} {t:Nat} (h:l.length≤t):getL l t=.undef:=by rw [getL_eq,List.getD_eq_getElem?_getD,List.getElem?_eq_none h]; rfl
theorem RepL.eqv {w:World} {Y:Nat→Prop} {σ:Sg}:∀ {ps qs:List PV} {vs:List Value},EqvL ps qs→RepL w Y σ ps vs→RepL w Y σ qs vs
 | [],[],vs,_,h=>h
 | [],_::_,_,h,_=>by simp [EqvL] at h
 | _::_,[],_,h,_=>by simp [EqvL] at h
 | p::ps,q::qs,vs,h,hr=>by
  unfold RepL at hr ⊢
  obtain ⟨v,vs',e,h1,h2⟩:=hr
  refine ⟨v,vs',e,(h.2 0 _ _ _ _).1 h1,RepL.eqv ⟨by simpa using h.1,fun t=>h.2 (t+1)⟩ h2⟩
theorem SW.eqv {T:Tab} {C:Ctx T} {w:World} {Y:Nat→Prop} {σ:Sg} {ps qs:List PV} {vs:List Value} {st:St} {n:Nat} (H:SW C w Y σ ps vs st n) (h:EqvL ps qs):SW C w Y σ qs vs st n :=
 H.vals' (H.vals.eqv h)
def putT (ps:List PV):Option Nat→PV→List PV
 | none,_=>ps
 | some d,v=>setL ps d v
theorem putE_eq (E:Env) (d:Option Nat) (v:PV):putE E d v=⟨putT E.tmps d v,E.st,E.next⟩:=by cases d <;> rfl
theorem putT_length (ps:List PV) (d:Option Nat) (v:PV):(putT ps d v).length=ps.length:=by cases d <;> simp [putT,length_setL]
theorem putT_ne {ps:List PV} {d:Option Nat} {v:PV} {t:Nat} (h:d ≠ some t):getL (putT ps d v) t=getL ps t:=by
 cases d with
 | none=>rfl
 | some d=>simp only [putT,getL_setL]; rw [if_neg]; rintro ⟨rfl,_⟩; exact h rfl
theorem SW.putT {T:Tab} {C:Ctx T} {w:World} {Y:Nat→Prop} {σ:Sg} {ps:List PV} {a:Act} {st:St} {n:Nat} (H:SW C w Y σ ps a.tmps.toList st n) {v:PV} {cv:Value} (hv:Rep w Y σ v cv) (d:Option Nat) :
  SW C w Y σ (putT ps d v) (a.put d cv).tmps.toList st n:=by
 cases d with
 | none=>exact H
 | some d =>
  refine (H.vals' ?_)
  simp only [Act.put,Pv.putT,Array.toList_setIfInBounds]
  exact RepL.set hv _ _ _ H.vals
theorem put_defers (a:Act) (d:Option Nat) (v:Value):(a.put d v).defers=a.defers:=by cases d <;> rfl
section
variable {P:Program} {T:Tab}
def SemX (P:Program) (T:Tab) (all:Array Oper) (o:Oper) (er:List PV) (lk:Nat→Option Blk) (id:Nat) (v:PV) (δ:Dl) (big:Bool):Prop :=
 ∀ (C:Ctx T) ps Y σ (a:Act) w st n,(∀ t∈o.looksAt all,getL ps t=getL er t)→SW C w Y σ ps a.tmps.toList st n→a.defers=[]→(∀ b x,lk b=some x→lkS st b=some x) →
  (big=true→(∀ b,id≤b→b<id+32→σ b=none)∧T.pas≤id∧id+32≤n)→∀ next Q,(∀ cv w' Y' σ',SW C w' Y' σ' ps a.tmps.toList (applyD δ st) n→(∀ b,(b<id∨id+32≤b)→σ' b=σ b)→(big=false→σ'=σ)→Rep w' Y' σ' v cv→next (a.put o.dst cv) w')→o.wp P a w next Q
def SemGd (T:Tab) (all:Array Oper) (o:Oper) (er:List PV) (wb:Bool):Prop :=
 ∀ (C:Ctx T) ps Y σ (a:Act) w st n,(∀ t∈o.looksAt all,getL ps t=getL er t)→SW C w Y σ ps a.tmps.toList st n→a.defers=[]→Region.wanted o (yielded all a.tmps)=wb
theorem semGd_of {all:Array Oper} {o:Oper} {er:List PV} {wb:Bool}
  (h:∀ ps st n,(∀ t∈o.looksAt all,getL ps t=getL er t)→gd (Sig.std P T) all o.guard ⟨ps,st,n⟩ (fun _=>wb=true) (fun _=>wb=false)):SemGd T all o er wb:=by
 intro C ps Y σ a w st n hl H hd
 obtain ⟨E',_,hh⟩:=gd_sound (h ps st n hl) (C:=C) (a:=a) (w:=w) ⟨⟨Y,σ,H⟩,hd⟩
 rcases hh with ⟨h1,h2⟩ | ⟨h1,h2⟩
 ·rw [h1,h2]
 ·rw [h1,h2]
theorem gd_split {all:Array Oper} {o:Oper} {E:Env} {run skip:Env→Prop} (h:gd (Sig.std P T) all o.guard E run skip) :
  ∃ E1 wb,EqvL E.tmps E1.tmps∧E1.st=E.st∧E1.next=E.next∧SemGd T all o E1.tmps wb∧(wb=true→run E1)∧(wb=false→skip E1):=by
 unfold gd at h
 split at h
 ·rename_i hg
  exact ⟨E,true,EqvL.refl _,rfl,rfl,semGd_of (P:=P) fun ps _ _ _=>by simp [gd,hg],fun _=>h,fun e=>by cases e⟩
 ·rename_i j want hg
  split at h
  ·rename_i oj hj
   split at h
   ·rename_i d hd
    have hmem:d∈o.looksAt all:=by
     unfold Oper.looksAt
     refine List.mem_append_right _ ?_
     simp [hg,hj,hd]
    have sem:∀ (E1:Env) b,getL E1.tmps d=.bool b→SemGd T all o E1.tmps (b == want):=by
     intro E1 b hb
     refine semGd_of (P:=P) fun ps _ _ hps=>?_
     have:=hps d hmem
     rw [hb] at this
     simp only [gd,hg,hj,hd,this]
     cases b <;> cases want <;> rfl
    split at h
    ·rename_i e
     refine ⟨E,true == want,EqvL.refl _,rfl,rfl,sem E true e,?_,?_⟩ <;> intro hw <;> cases want <;> first | (cases hw; done) | exact h
    ·rename_i e
     refine ⟨E,false == want,EqvL.refl _,rfl,rfl,sem E false e,?_,?_⟩ <;> intro hw <;> cases want <;> first | (cases hw; done) | exact h
    ·rename_i b e
     have hlt:d<E.tmps.length:=by
      by_cases hh:d<E.tmps.length
      ·exact hh
      ·rw [getL_ge (Nat.le_of_not_lt hh)] at e; cases e
     have heq:EqvL E.tmps (putE E (some d) (.bool b)).tmps:=by
      refine ⟨by simp [putE,length_setL],fun t=>?_⟩
      simp only [putE,getL_setL]
      split
      ·rename_i hh; rw [← hh.1,e]; exact Eqv.bool b
      ·exact Eqv.refl _
     have hget:getL (putE E (some d) (.bool b)).tmps d=.bool b:=by simp [putE,getL_setL,hlt]
     obtain ⟨h1,h2⟩:=h
     refine ⟨putE E (some d) (.bool b),b == want,heq,rfl,rfl,sem _ b hget,?_,?_⟩
     ·intro hw
      cases b with
      | true=>have h1:=h1 rfl; cases want <;> first | (cases hw; done) | exact h1
      | false=>have h2:=h2 rfl; cases want <;> first | (cases hw; done) | exact h2
     ·intro hw
      cases b with
      | true=>have h1:=h1 rfl; cases want <;> first | (cases hw; done) | exact h1
      | false=>have h2:=h2 rfl; cases want <;> first | (cases hw; done) | exact h2
    ·rename_i e
     refine ⟨E,false,EqvL.refl _,rfl,rfl,semGd_of (P:=P) fun ps _ _ hps=>?_,(fun hw=>by cases hw),fun _=>h⟩
     have:=hps d hmem
     rw [e] at this
     simp only [gd,hg,hj,hd,this]
    ·exact h.elim
   ·exact h.elim
  ·exact h.elim
theorem tmp_looks {all:Array Oper} {o:Oper} {er ps:List PV} (h:∀ t∈o.looksAt all,getL ps t=getL er t):∀ x∈o.op.operands,evL T ps x=evL T er x:=by
 intro x hx
 cases x with
 | tmp t =>
  simp only [evL]
  refine h t ?_
  unfold Oper.looksAt
  exact List.mem_append_left _ (List.mem_filterMap.2 ⟨.tmp t,by simpa using hx,rfl⟩)
 | _=>rfl
theorem opE_id {T:Tab} {S:Sig} {o:Op} {ps:List PV} {lk:Nat→Option Blk} {id id' : Nat} {K:PV→Dl→Prop} (hq:isQ o=true):opE T S o ps lk id K=opE T S o ps lk id' K:=by
 cases o
 case call c =>
  obtain ⟨callee,args,ts⟩:=c
  cases callee
  case builtin b =>
   cases b
   case len=>simp only [opE]; generalize evA T ps args.toList=as; generalize ts.toList=tl; rcases as with _ | ⟨a,_ | ⟨b,_ | ⟨c,as⟩⟩⟩ <;> rcases tl with _ | ⟨t,_ | ⟨u,tl⟩⟩ <;> first | rfl | (cases a <;> first | rfl | (cases b <;> rfl))
   case min=>simp only [opE]; generalize evA T ps args.toList=as; generalize ts.toList=tl; rcases as with _ | ⟨a,_ | ⟨b,_ | ⟨c,as⟩⟩⟩ <;> rcases tl with _ | ⟨t,_ | ⟨u,tl⟩⟩ <;> first | rfl | (cases a <;> first | rfl | (cases b <;> rfl))
   case max=>simp only [opE]; generalize evA T ps args.toList=as; generalize ts.toList=tl; rcases as with _ | ⟨a,_ | ⟨b,_ | ⟨c,as⟩⟩⟩ <;> rcases tl with _ | ⟨t,_ | ⟨u,tl⟩⟩ <;> first | rfl | (cases a <;> first | rfl | (cases b <;> rfl))
   all_goals (simp [isQ] at hq)
  all_goals simp [isQ] at hq
 case makeFunc fn first cap=>cases fn <;> rfl
 case unOp op t x=>cases op <;> rfl
 all_goals first | rfl | (simp [isQ] at hq)
theorem opE_semQ (hT:TabOK P T) (hW:PWf P) {all:Array Oper} {o:Oper} {ps:List PV} {lk:Nat→Option Blk} {id i:Nat} {K:PV→Prop} (hq:isQ o.op=true) (h:opE T (Sig.std P T) o.op ps lk id (quietK K)) :
  ∃ v,SemX P T all o ps lk i v [] false∧K v:=by
 obtain ⟨v,δ,hK,hF⟩:=opE_det hq h
 cases δ with
 | cons x δ=>exact hK.elim
 | nil =>
  refine ⟨v,?_,hK⟩
  intro C qs Y σ a w st n hl H hd hlk _ next Q hnext
  have h2:=hF (fun v' δ'=>v'=v∧δ'=[]) ⟨rfl,rfl⟩
  rw [← opE_congr (tmp_looks hl),opE_id (id':=n) hq] at h2
  obtain ⟨v',δ',cv,w',Y',σ',⟨rfl,rfl⟩,hrun,H',hv,hoff⟩:=opE_res hT hW H hlk ⟨H.next _ (Nat.le_refl _),H.fix.1⟩ h2
  have hσ:σ'=σ:=by
   funext b
   by_cases hb:b=n
   ·subst hb; rw [H.next _ (Nat.le_refl _)]; exact H'.next _ (Nat.le_refl _)
   ·exact hoff b hb
  subst hσ
  have:=hnext cv w' Y' σ' H' (fun _ _=>rfl) (fun _=>rfl) hv
  unfold Oper.wp
  rcases hrun with hrun | ⟨hrun,rfl⟩
  ·rw [hrun]; exact this
  ·rw [hrun]; exact this
theorem call_run {P:Program} {o:Oper} {f:Operand} {args:Array Operand} {ts:Array TypeId} {a:Act} {w:World} {k:Nat} {cs:List Value} (ho:o.op=.call { callee:=.value f,args,argTypes:=ts })
  (ef:a.eval f=.func (.func k) #[] cs.toArray) (hent:(callFunc k (args.toList.map a.eval ++ cs).toArray).run P w=.ok (.enter k (args.toList.map a.eval ++ cs).toArray) w) :
  (execOp a.eval o).run P w=.ok (.enter k (args.toList.map a.eval ++ cs).toArray) w:=by
 have hmap:args.map a.eval=(args.toList.map a.eval).toArray:=by apply Array.ext'; simp
 simp only [execOp,ho,resolve,ef,Deferred.ofValue,Sem.run_bind,Sem.run_pure,Result.andThen,invoke,hmap]
 have:(#[] ++ (args.toList.map a.eval).toArray ++ cs.toArray)=(args.toList.map a.eval ++ cs).toArray:=by apply Array.ext'; simp
 rw [this]
 exact hent
theorem SW.allocRo {C:Ctx T} {w:World} {Y:Nat→Prop} {σ:Sg} {ps:List PV} {vs:List Value} {st:St} {n:Nat} (H:SW C w Y σ ps vs st n) (arr:Array Value) (ty:TypeId) :
  SW C (w.alloc (.cells arr ty)) Y σ ps vs st n∧∀ p v σ',Rep w Y σ' p v→Rep (w.alloc (.cells arr ty)) Y σ' p v:=by
 have heap:(w.alloc (.cells arr ty)).heap=w.heap.push (.cells arr ty):=rfl
 have hold:∀ k,k<w.heap.size→(w.alloc (.cells arr ty)).heap[k]?=w.heap[k]?:=by
  intro k hk; rw [heap,Array.getElem?_push,if_neg (by omega)]
 have hsz:(w.alloc (.cells arr ty)).heap.size=w.heap.size+1:=by rw [heap]; simp
 exact ⟨H.chgd ⟨rfl,rfl,rfl,by omega,hold⟩,fun p v σ' h=>Rep.keep p ⟨fun k hk _=>hold k hk,fun _ _ h=>h,by omega,SgLe.refl _⟩ v h⟩
theorem buildSlice_semQ (hT:TabOK P T) {all:Array Oper} {o:Oper} {ps:List PV} {lk:Nat→Option Blk} {id i:Nat} {K:PV→Prop} {t:TypeId} {len:Nat} {parts:Array (Nat × Operand)} (ho:o.op=.buildSlice t len parts) (h:opQ T (Sig.std P T) (.buildSlice t len parts) ps lk id K) :
  ∃ v,SemX P T all o ps noLk i v [] false∧K v:=by
 simp only [opQ] at h
 split at h
 ·rename_i agg size z0 plain esz bytes z e
  obtain ⟨et,hu,rfl,_,hz⟩:=tab_slice hT e
  cases hb:(isPos (P.cellsOf et) && Nat.beq (lenL z) (P.cellsOf et) && Nat.ble (len * P.cellsOf et) 16777216 && noTop (evP T ps parts.toList)) with
  | false=>rw [hb] at h; exact h.elim
  | true =>
   rw [hb] at h
   simp only [cond_true] at h
   simp only [Bool.and_eq_true,lenL_eq] at hb
   obtain ⟨⟨⟨hb1,hb2⟩,hb3⟩,hb4⟩:=hb
   have hpos:0<P.cellsOf et:=by
    rcases Nat.eq_zero_or_pos (P.cellsOf et) with h0 | h0
    ·rw [h0] at hb1; simp [isPos] at hb1
    ·exact h0
   have hzl:=Nat.eq_of_beq_eq_true hb2
   have hle:=Nat.le_of_ble_eq_true hb3
   split at h
   ·rename_i cs hf
    split at h
    ·rename_i cs0 hpur
     obtain ⟨cs',hl2,hc2,hw2,h,_⟩:=wkC_std h
     refine ⟨_,?_,h⟩
     intro C qs Y σ a w st n hl H hd _ _ next Q hnext
     have hev:=tmp_looks (T:=T) hl
     rw [ho] at hev
     have hP:=evP_congr (T:=T) (ps:=qs) (qs:=ps) parts.toList fun x hx=>hev x.2 (by simp only [Op.operands,List.mem_toArray,List.mem_map]; exact ⟨x,hx,rfl⟩)
     rw [← hP] at hf hb4
     obtain ⟨vcs,hrep,hvl,hrun⟩:=buildSlice_core hT H ho hu hz hb1 hzl hle hb4 hf
     have hLk:Lk (fun _=>none) st:=fun b ro sz rows h=>by cases h
     obtain ⟨Y1,H1,hr1,hy1⟩:=pur_sound cs cs0 [] hpur Y st H hLk _ hrep
     have hr1:=hw2 _ _ _ _ hr1
     obtain ⟨H2,hk2⟩:=H1.allocRo vcs et
     have hcsl:cs'.length=len * P.cellsOf et:=by rw [hl2,pur_len _ _ _ hpur,fillV_len _ _ _ _ hf,repL_length,hzl]
     unfold Oper.wp
     rw [hrun]
     refine hnext _ _ Y1 σ H2 (fun _ _=>rfl) (fun _=>rfl) ?_
     unfold Rep
     refine ⟨_,len,len,rfl,by rw [chunks_length],Nat.le_refl _,fun _=>rfl,.inr ⟨w.heap.size,0,rfl,⟨?_,fun hy=>?_⟩,?_⟩⟩
     ·show w.heap.size<(w.heap.push _).size; simp
     ·have:=H1.yold _ hy; omega
     ·refine RepC.chunks len cs' 0 ?_ (hc2 (pur_cell _ _ _ hpur).1) (by omega)
      rw [RepC.iff]
      intro j p hj
      obtain ⟨v,hv,hp'⟩:=hr1.get? hj
      refine ⟨v,?_,hk2 _ _ _ hp'⟩
      rw [cell_of_block (arr:=vcs) (ty:=et) (by show (w.heap.push _)[w.heap.size]?=_; simp)]
      simpa using hv
    ·exact h.elim
   ·exact h.elim
 ·exact h.elim
theorem opQ_sem (hT:TabOK P T) (hW:PWf P) {all:Array Oper} {o:Oper} {ps:List PV} {lk:Nat→Option Blk} {id:Nat} {K:PV→Prop} (i:Nat) (h:opQ T (Sig.std P T) o.op ps lk id K) :
  ∃ v,SemX P T all o ps lk i v [] false∧K v:=by
 have h0:=h
 unfold opQ at h
 split at h
 ·rename_i f args ts ho
  split at h
  ·rename_i k caps hf
   have main:∀ v,(∀ (C:Ctx T) Y σ w qs vs cargs st n,(∀ b x,lk b=some x→lkS st b=some x)→SW C w Y σ qs vs st n→RepL w Y σ (appL (evA T ps args.toList) caps) cargs→CallSem P k C Y σ w cargs qs vs st n v)→SemX P T all o ps lk i v [] false:=by
    intro v hsem C qs Y σ a w st n hl H hd hlk _ next Q hnext
    have hev:=tmp_looks (T:=T) hl
    rw [ho] at hev
    have hfv:=ev_rep H f
    rw [hev f (by simp [Op.operands,Call.operands]),hf] at hfv
    unfold Rep at hfv
    obtain ⟨cs,ef,hcs⟩:=hfv
    have hargs:=evA_rep H args.toList
    rw [evA_congr (ps:=qs) (qs:=ps) args.toList fun x hx=>hev x (by simp only [Op.operands,Call.operands]; simp; exact .inr (by simpa using hx))] at hargs
    have hall:=RepL.app _ _ _ _ hargs hcs
    obtain ⟨hent,hcall⟩:=hsem C Y σ w qs a.tmps.toList _ st n hlk H (by simpa using hall)
    unfold Oper.wp
    rw [call_run ho ef hent]
    refine Calls.mono hcall fun e w' hh=>?_
    obtain ⟨cv,rfl,H',hv⟩:=hh
    exact hnext cv w' Y σ H' (fun _ _=>rfl) (fun _=>rfl) hv
   unfold callD at h
   split at h
   ·rename_i as hm
    obtain ⟨v,hF,hK⟩:=h
    refine ⟨v,main v fun C Y σ w qs vs cargs st n hlk H hr=>call_ro H (fun b x hb=>?_) hm hr hF,hK⟩
    split at hb
    ·rename_i e; cases hb; exact ⟨hlk _ _ e,rfl⟩
    ·rename_i e; cases hb; exact ⟨hlk _ _ e,rfl⟩
    ·cases hb
   ·split at h
    ·rename_i as hm
     obtain ⟨v,hF,hf,hK⟩:=h
     exact ⟨v,main v fun C Y σ w qs vs cargs st n hlk H hr=>call_flat H hlk hm hr hF hf,hK⟩
    ·exact h.elim
  ·exact h.elim
 ·rename_i t len parts ho
  rw [ho] at h0
  obtain ⟨v,h1,h2⟩:=buildSlice_semQ hT (all:=all) (i:=i) ho h0
  exact ⟨v,fun C qs Y σ a w st n hl H hd _ hb next Q hnext=>h1 C qs Y σ a w st n hl H hd (fun _ _ h=>by cases h) hb next Q hnext,h2⟩
 ·rw [bifF] at h
  exact opE_semQ hT hW h.1 h.2
theorem stepQ_split (hT:TabOK P T) (hW:PWf P) {all:Array Oper} {o:Oper} {lk:Nat→Option Blk} {E:Env} {K:Env→Prop} (i:Nat) (h:stepQ T (Sig.std P T) o lk E K) :
  ∃ E1 v,EqvL E.tmps E1.tmps∧E1.st=E.st∧E1.next=E.next∧SemX P T all o E1.tmps lk i v [] false∧K (putE E1 o.dst v):=by
 unfold stepQ at h
 have gen:(opQ T (Sig.std P T) o.op E.tmps lk E.next fun v=>K (putE E o.dst v))→∃ E1 v,EqvL E.tmps E1.tmps∧E1.st=E.st∧E1.next=E.next∧SemX P T all o E1.tmps lk i v [] false∧K (putE E1 o.dst v):=fun h=>by
  obtain ⟨v,h1,h2⟩:=opQ_sem hT hW (all:=all) i h
  exact ⟨E,v,EqvL.refl _,rfl,rfl,h1,h2⟩
 split at h
 ·rename_i c x y ho
  split at h
  ·rename_i t hc
   have hlt:c<E.tmps.length:=by
    by_cases hh:c<E.tmps.length
    ·exact hh
    ·rw [getL_ge (Nat.le_of_not_lt hh)] at hc; cases hc
   have heq:EqvL E.tmps (putE E (some c) (.bool t)).tmps:=by
    refine ⟨by simp [putE,length_setL],fun u=>?_⟩
    simp only [putE,getL_setL]
    split
    ·rename_i hh; rw [← hh.1,hc]; exact Eqv.bool t
    ·exact Eqv.refl _
   have hget:getL (putE E (some c) (.bool t)).tmps c=.bool t:=by simp [putE,getL_setL,hlt]
   have evq:∀ z:Operand,Eqv (evL T (putE E (some c) (.bool t)).tmps z) (evL T E.tmps z):=by
    intro z
    cases z with
    | tmp u=>exact (heq.2 u).symm
    | _=>exact Eqv.refl _
   have hsem:SemX P T all o (putE E (some c) (.bool t)).tmps lk i (if t then evL T E.tmps x else evL T E.tmps y) [] false:=by
    intro C qs Y σ a w st n hl H hd _ _ next Q hnext
    have hev:=tmp_looks (T:=T) hl
    rw [ho] at hev
    have hcv:=ev_rep H (.tmp c)
    rw [hev (.tmp c) (by simp [Op.operands])] at hcv
    simp only [evL,hget] at hcv
    have hcv:=rep_bool hcv
    have hrun:(execOp a.eval o).run P w=.ok (.value (if t then a.eval x else a.eval y)) w:=by
     simp [execOp,ho,hcv,asBool]
    unfold Oper.wp
    rw [hrun]
    refine hnext _ _ Y σ H (fun _ _=>rfl) (fun _=>rfl) ?_
    have hx:=ev_rep H x
    have hy:=ev_rep H y
    rw [hev x (by simp [Op.operands])] at hx
    rw [hev y (by simp [Op.operands])] at hy
    cases t with
    | true=>exact (evq x _ _ _ _).1 hx
    | false=>exact (evq y _ _ _ _).1 hy
   refine ⟨_,_,heq,rfl,rfl,hsem,?_⟩
   cases t with
   | true=>exact h.1 rfl
   | false=>exact h.2 rfl
  ·rw [← ho] at h
   exact gen h
 ·exact gen h
theorem storeRow_det {size:Nat} {row:List PV} {c:Nat} {v:PV} {K:List PV→Prop} (h:storeRow size row c v K):∃ r,K r∧∀ K' : List PV→Prop,K' r→storeRow size row c v K':=by
 unfold storeRow at h ⊢
 simp only [bifF] at h ⊢
 exact ⟨_,h.2,fun K' hk=>⟨h.1,hk⟩⟩
theorem opE_det2 {o:Op} {ps:List PV} {lk:Nat→Option Blk} {id:Nat} {K:PV→Dl→Prop} (hc:clsO T o=1∨clsO T o=2) (hn:ndO T ps lk o=false) (h:opE T (Sig.std P T) o ps lk id K) :
  ∃ v δ,K v δ∧∀ K' : PV→Dl→Prop,K' v δ→opE T (Sig.std P T) o ps lk id K':=by
 cases o
 case binOp op t x y u =>
  simp only [clsO,isQ] at hc
  cases hy:nilC y <;> rw [hy] at hc <;> simp at hc
 case alloc t =>
  simp only [opE] at h ⊢
  split at h
  all_goals first | exact ⟨_,_,h,fun _ hk=>hk⟩ | exact h.elim
 case box t x =>
  simp only [opE] at h ⊢
  split at h
  ·exact h.elim
  ·exact ⟨_,_,h,fun _ hk=>hk⟩
 case makeSlice t x y =>
  simp only [opE] at h ⊢
  split at h
  ·simp only [bifF] at h ⊢
   obtain ⟨h0,j,h1,h2,h3,h4,h5⟩:=h
   obtain ⟨z2,_,_,_,h5,_,h6⟩:=wkN_std h5
   exact ⟨_,_,h5,fun _ hk=>⟨h0,j,h1,h2,h3,h4,h6 _ hk⟩⟩
  ·exact h.elim
 case store t x y =>
  simp only [opE] at h ⊢
  split at h
  ·split at h
   ·split at h
    ·obtain ⟨r,h1,h2⟩:=storeRow_det h
     exact ⟨_,_,h1,fun _ hk=>h2 _ hk⟩
    ·exact h.elim
   ·split at h
    ·split at h
     ·rename_i sz rows hb _ cs δ hp
      cases hm:memD _ δ with
      | true=>rw [hm] at h; exact h.elim
      | false =>
       rw [hm] at h
       simp only [cond_false] at h ⊢
       obtain ⟨cs2,_,_,_,⟨row,h0,h⟩,h9⟩:=wkC_std h
       obtain ⟨r',h1,h2⟩:=storeRow_det h
       exact ⟨_,_,h1,fun _ hk=>h9 _ ⟨row,h0,h2 _ hk⟩⟩
     ·exact h.elim
    ·rename_i e1 _ _ _ e2
     simp [ndO,e1,e2] at hn
    ·exact h.elim
   ·rename_i e1
    simp [ndO,e1] at hn
   ·exact h.elim
  ·exact h.elim
 case call c =>
  obtain ⟨callee,args,ts⟩:=c
  cases callee
  case builtin b =>
   cases b
   case append =>
    simp only [opE] at h ⊢
    split at h
    all_goals repeat' (first
     | contradiction
     | exact h.elim
     | exact ⟨_,_,h,fun _ hk=>hk⟩
     | (obtain ⟨h1,h2,h3⟩:=h; exact ⟨_,_,h3,fun _ hk=>⟨h1,h2,hk⟩⟩)
     | (split at h)
     | (simp only [bifF] at h ⊢; refine det_and h.1 ?_; replace h:=h.2)
     | (refine det_and h.1 ?_; replace h:=h.2))
   all_goals (rcases hc with hc | hc <;> simp [clsO,isQ] at hc)
  all_goals first | (simp only [opE] at h; done) | (simp only [opE] at h; exact h.elim) | (rcases hc with hc | hc <;> simp [clsO,isQ] at hc)
 all_goals (rcases hc with hc | hc <;> simp [clsO,isQ] at hc)
theorem storeRow_some {size:Nat} {row:List PV} {c:Nat} {v:PV} {K:List PV→Prop} (h:storeRow size row c v K):∃ r,K r:=by
 obtain ⟨r,h,_⟩:=storeRow_det h
 exact ⟨r,h⟩
theorem opE_some {o:Op} {ps:List PV} {lk:Nat→Option Blk} {id:Nat} {K:PV→Dl→Prop} (hn:ndO T ps lk o=true) (h:opE T (Sig.std P T) o ps lk id K):∃ v δ,K v δ:=by
 cases o
 case store t x y =>
  simp only [opE] at h
  split at h
  ·split at h
   ·rename_i e1; simp [ndO,e1] at hn
   ·rename_i b r c e1
    split at h
    ·rename_i e2; simp [ndO,e1,e2] at hn
    ·split at h
     ·split at h
      ·revert h
       generalize (_ && _:Bool)=bb
       intro h
       cases bb with
       | true=>exact h.elim
       | false =>
        obtain ⟨row,_,h⟩:=h
        obtain ⟨r,h⟩:=storeRow_some (h ⟨0,0,0⟩)
        exact ⟨_,_,h⟩
      ·exact h.elim
     ·split at h
      ·obtain ⟨row,_,h⟩:=h
       obtain ⟨r,h⟩:=storeRow_some h
       exact ⟨_,_,h⟩
      ·exact h.elim
    ·exact h.elim
   ·split at h
    ·split at h
     ·have h9:=wkC_std h
      clear h
      obtain ⟨_,_,_,_,⟨row,_,h⟩,_⟩:=h9
      split at h
      ·simp only [bifF,Sig.std] at h
       obtain ⟨_,_,er,_,h⟩:=h
       obtain ⟨r,h⟩:=storeRow_some h
       exact ⟨_,_,h⟩
      ·exact h.elim
     ·exact h.elim
    ·exact h.elim
   ·exact h.elim
  ·exact h.elim
 all_goals simp [ndO] at hn
theorem semX_big (hT:TabOK P T) (hW:PWf P) {all:Array Oper} {o:Oper} {ps:List PV} {lk:Nat→Option Blk} {id:Nat} {v:PV} {δ:Dl} (hF:∀ K' : PV→Dl→Prop,K' v δ→opE T (Sig.std P T) o.op ps lk id K'):SemX P T all o ps lk id v δ true:=by
 intro C qs Y σ a w st n hl H hd hlk hid next Q hnext
 obtain ⟨h1,h2,h3⟩:=hid rfl
 have h4:=hF (fun v' δ'=>v'=v∧δ'=δ) ⟨rfl,rfl⟩
 rw [← opE_congr (tmp_looks hl)] at h4
 obtain ⟨v',δ',cv,w',Y',σ',⟨rfl,rfl⟩,hrun,H',hv,hoff⟩:=opE_res hT hW H hlk ⟨h1 id (Nat.le_refl _) (by omega),h2⟩ h4
 have hn:nextI δ' n id≤n:=by cases δ' <;> simp [nextI] <;> omega
 have:=hnext cv w' Y' σ' (H'.mono hn) (fun b hb=>hoff b (by omega)) (fun e=>by cases e) hv
 unfold Oper.wp
 rcases hrun with hrun | ⟨hrun,rfl⟩
 ·rw [hrun]; exact this
 ·rw [hrun]; exact this
theorem opW_op {S:Sig} {o:Op} {ps:List PV} {lk:Nat→Option Blk} {st:St} {id:Nat} {c2:Bool} {K:PV→Dl→Prop} (hn:∀ f args ts,o=.call { callee:=.value f,args:=args,argTypes:=ts }→False):opW T S o ps lk st id c2 K=opE T S o ps lk id K:=by
 unfold opW
 split
 ·rename_i f args ts
  exact (hn f args ts rfl).elim
 ·rfl
theorem bakO_dl (f:Nat→Option Nat) (st1:St):∀ (l:List Nat) (i:Nat) (st:St),bakO f st1 i l st=applyD (dlO f st1 i l) st
 | [],i,st=>rfl
 | b::l,i,st=>by simp only [bakO,dlO,applyD]; exact bakO_dl f st1 l (i+1) _
theorem renS_congr (f:Nat→Option Nat) {st st' : St}:∀ (ρ:List Nat) (i:Nat),(∀ b∈ρ,lkS st b=lkS st' b)→renS f st i ρ=renS f st' i ρ
 | [],i,_=>rfl
 | b::ρ,i,h=>by
  simp only [renS]
  rw [h b (by simp),renS_congr f ρ (i+1) fun c hc=>h c (by simp [hc])]
theorem allS_spec {st:St}:∀ (ρ:List Nat),allS st ρ=true→∀ b∈ρ,∃ x,lkS st b=some x
 | [],_,b,h=>by cases h
 | c::ρ,h,b,hb=>by
  simp only [allS,Bool.and_eq_true] at h
  rcases List.mem_cons.1 hb with rfl | hb
  ·have:=h.1
   cases hx:lkS st b with
   | none=>rw [hx] at this; cases this
   | some x=>exact ⟨x,rfl⟩
  ·exact allS_spec ρ h.2 b hb
theorem opW_det {o:Op} {ps:List PV} {lk:Nat→Option Blk} {st:St} {id:Nat} {c2:Bool} {K:PV→Dl→Prop} (hc:clsO T o=1∨clsO T o=2) (hn:ndO T ps lk o=false) (h:opW T (Sig.std P T) o ps lk st id c2 K) :
  ∃ v δ,K v δ∧∀ K' : PV→Dl→Prop,K' v δ→opW T (Sig.std P T) o ps lk st id c2 K':=by
 by_cases hv:∃ f args ts,o=.call { callee:=.value f,args:=args,argTypes:=ts }
 ·obtain ⟨f,args,ts,rfl⟩:=hv
  unfold opW at h ⊢
  simp only at h ⊢
  split at h
  ·rename_i k caps hf
   cases c2 with
   | false =>
    simp only at h
    split at h
    ·rename_i as hm
     obtain ⟨v,x,hF,hK⟩:=h
     refine ⟨_,_,hK,fun K' hk=>?_⟩
     simp only [hm]
     exact ⟨v,x,hF,hk⟩
    ·exact h.elim
   | true =>
    simp only at h
    unfold callW2 at h
    split at h
    ·rename_i hcnd
     obtain ⟨v,st1,n1,h0,hF,hK⟩:=h
     split at hK
     ·rename_i hb
      refine ⟨_,_,hK,fun K' hk=>?_⟩
      simp only
      unfold callW2
      simp only [hcnd]
      refine ⟨v,st1,n1,h0,hF,?_⟩
      simp only [hb]; exact hk
     ·exact hK.elim
    ·exact h.elim
  ·exact h.elim
 ·have hv' : ∀ f args ts,o=.call { callee:=.value f,args:=args,argTypes:=ts }→False:=fun f args ts e=>hv ⟨f,args,ts,e⟩
  rw [opW_op hv'] at h
  obtain ⟨v,δ,h1,h2⟩:=opE_det2 hc hn h
  exact ⟨v,δ,h1,fun K' hk=>by rw [opW_op hv']; exact h2 K' hk⟩
theorem semX_W (hT:TabOK P T) (hW:PWf P) {all:Array Oper} {o:Oper} {ps:List PV} {lk:Nat→Option Blk} {st:St} {id:Nat} {v:PV} {δ:Dl} {c2:Bool} (hst:c2=true→lk=lkS st) (hF:∀ K' : PV→Dl→Prop,K' v δ→opW T (Sig.std P T) o.op ps lk st id c2 K'):SemX P T all o ps lk id v δ true:=by
 by_cases hv:∃ f args ts,o.op=.call { callee:=.value f,args:=args,argTypes:=ts }
 ·obtain ⟨f,args,ts,ho⟩:=hv
  intro C qs Y σ a w stn n hl H hd hlk hid next Q hnext
  obtain ⟨g1,g2,g3⟩:=hid rfl
  have h4:=hF (fun v' δ'=>v'=v∧δ'=δ) ⟨rfl,rfl⟩
  rw [ho] at h4
  unfold opW at h4
  simp only at h4
  split at h4
  ·rename_i k caps hf
   have hev:=tmp_looks (T:=T) hl
   rw [ho] at hev
   have hfv:=ev_rep H f
   rw [hev f (by simp [Op.operands,Call.operands]),hf] at hfv
   unfold Rep at hfv
   obtain ⟨cs,ef,hcs⟩:=hfv
   have hargs:=evA_rep H args.toList
   rw [evA_congr (ps:=qs) (qs:=ps) args.toList fun x hx=>hev x (by simp only [Op.operands,Call.operands]; simp; exact .inr (by simpa using hx))] at hargs
   have hall:=RepL.app _ _ _ _ hargs hcs
   cases c2 with
   | false =>
    simp only at h4
    split at h4
    ·rename_i as hm
     obtain ⟨v0,x,hF0,rfl,rfl⟩:=h4
     have hr0:=mapO_frz (P:=P) (T:=T) H.store (lk:=noLk) (fun b x h=>by cases h) (fun _ h=>h) (fun b x l h=>by cases h) (fun b sz rows hb=>by cases hb) hm hall
     have hr1:RepL w Y σ as _:=RepL.keep as (σ:=noSg) (σ':=σ) ⟨fun _ _ _=>rfl,fun _ _ h=>h,Nat.le_refl _,fun b l h=>by simp [noSg] at h⟩ _ hr0
     obtain ⟨hent,hcall⟩:=call_W (E:=⟨qs,stn,id⟩) (ρ:=[]) (n0:=n) (N:=n) (v:=v0) (st1:=[(0,some x)]) (n1:=1) H rfl rfl rfl g2 (fun b hb1 hb2=>by
      have:b=id:=by simp only [lenNs] at hb1 hb2; omega
      rw [this]; exact g1 id (Nat.le_refl _) (by omega)) ⟨by simp only [lenNs]; omega,Nat.le_refl _⟩ hr1 hF0
     unfold Oper.wp
     rw [call_run ho ef hent]
     refine Calls.mono hcall fun e w' hh=>?_
     obtain ⟨cv,Y',σ',rfl,H',hv',hoff⟩:=hh
     exact hnext cv w' Y' σ' H' (fun b hb=>hoff b (by simp only [lenNs]; omega)) (fun e=>by cases e) hv'
    ·exact h4.elim
   | true =>
    simp only at h4
    unfold callW2 at h4
    split at h4
    ·rename_i hcnd
     simp only [Bool.and_eq_true] at hcnd
     obtain ⟨c1,c2,c3⟩:=hcnd
     obtain ⟨v0,st1,n1,h0,hF0,hK⟩:=h4
     split at hK
     ·rename_i hb
      obtain ⟨rfl,rfl⟩:=hK
      have hb:=Nat.le_of_ble_eq_true hb
      have hlk':=hlk
      rw [hst rfl] at hlk'
      have hren:=renS_congr (st:=st) (st':=stn) (ixN (callN (appL (evA T ps args.toList) caps) st)) (callN (appL (evA T ps args.toList) caps) st) 0 fun b hb=>by
       obtain ⟨x,hx⟩:=allS_spec _ c3 b hb
       rw [hx,hlk' b x hx]
      rw [hren] at h0 hF0
      obtain ⟨hent,hcall⟩:=call_W (E:=⟨qs,stn,id⟩) (n0:=n) (N:=n) (v:=v0) (st1:=st1) H c2 c1 h0 g2 (fun b hb1 hb2=>g1 b hb1 (by simp only at hb2; omega)) ⟨by simp only; omega,Nat.le_refl _⟩ hall hF0
      unfold Oper.wp
      rw [call_run ho ef hent]
      refine Calls.mono hcall fun e w' hh=>?_
      obtain ⟨cv,Y',σ',rfl,H',hv',hoff⟩:=hh
      refine hnext cv w' Y' σ' ?_ (fun b hb'=>hoff b (by simp only; omega)) (fun e=>by cases e) hv'
      rw [← bakO_dl]; exact H'
     ·exact hK.elim
    ·exact h4.elim
  ·exact h4.elim
 ·have hv' : ∀ f args ts,o.op=.call { callee:=.value f,args:=args,argTypes:=ts }→False:=fun f args ts e=>hv ⟨f,args,ts,e⟩
  exact semX_big hT hW fun K' hk=>by have:=hF K' hk; rw [opW_op hv'] at this; exact this
end
end Go.Pv
namespace Go.Pv
open Go
section
variable {P:Program} {T:Tab}
structure Rec where
 e1:List PV
 er:List PV
 lk:Nat→Option Blk
 v:PV
 δ:Dl
 id:Nat
 big:Bool
 wb:Bool
 nd:Bool
def keysD (δ:Dl) (b:Nat):Prop:=∃ x,(b,x)∈δ
structure StepOK (P:Program) (T:Tab) (all:Array Oper) (o:Oper) (r:Rec) (p:List PV) (st:St) (nx:Nat) (pend:List Nat):Prop where
 e1:EqvL p r.e1
 er:EqvL p r.er
 gd:SemGd T all o r.e1 r.wb
 sem:r.wb=true→r.nd=false→SemX P T all o r.er r.lk r.id r.v r.δ r.big
 ndw:r.nd=true→r.wb=true∧r.big=true
 skip:r.wb=false→r.v=.undef
 cls:(r.big=false∧r.δ=[]∧(r.wb=true→∀ b x,r.lk b=some x→clsX T o=3∧b ∉ pend∧lkS st b=some x)) ∨
  (r.wb=true∧r.big=true∧r.id=nx∧clsX T o=1∧(∃ x,r.δ=[(nx,some x)])∧r.lk=noLk) ∨
  (r.wb=true∧r.big=true∧r.id=nx∧clsX T o=2∧(∀ b,keysD r.δ b→b<nx+32)∧r.lk=lkS st)
def bump (b:Bool) (n:Nat):Nat:=match b with | true=>n+32 | false=>n
def pendN (T:Tab) (o:Oper) (r:Rec) (pend:List Nat):List Nat:=match r.big with
 | false=>pend
 | true=>if clsX T o=1 then r.id::pend else []
def ChD (P:Program) (T:Tab) (all:Array Oper):List Oper→List Rec→List PV→St→Nat→List Nat→List PV→St→Nat→Prop
 | [],[],p,st,nx,_,f,stf,nxf=>p=f∧st=stf∧nx=nxf
 | o::l,r::rs,p,st,nx,pend,f,stf,nxf=>StepOK P T all o r p st nx pend∧ChD P T all l rs (putT r.er o.dst r.v) (applyD r.δ st) (bump r.big nx) (pendN T o r pend) f stf nxf
 | _,_,_,_,_,_,_,_,_=>False
def FinD (P:Program) (T:Tab) (all:Array Oper) (K:Env→Prop):List Oper→List Rec→St→List PV→St→Nat→Prop
 | o::l,r::rs,st,f,stf,nxf=>(r.nd=true→l=[]∧rs=[]∧lastOK all=true∧nxf=r.id+32∧opE T (Sig.std P T) o.op r.er (lkS st) r.id (fun v δ=>bif ltD (r.id+32) δ then K ⟨putT r.er o.dst v,applyD δ st,r.id+32⟩ else False))
  ∧ (r.nd=false→FinD P T all K l rs (applyD r.δ st) f stf nxf)
 | [],[],_,f,stf,nxf=>K ⟨f,stf,nxf⟩
 | _,_,_,_,_,_=>False
theorem ltD_spec {n:Nat}:∀ (δ:Dl),ltD n δ=true→∀ b,keysD δ b→b<n
 | [],_,b,h=>by obtain ⟨x,h⟩:=h; cases h
 | (c,y)::δ,h,b,hb=>by
  simp only [ltD,Bool.and_eq_true,Nat.blt_eq] at h
  obtain ⟨x,hb⟩:=hb
  rcases List.mem_cons.1 hb with e | hb
  ·cases e; exact h.1
  ·exact ltD_spec δ h.2 b ⟨x,hb⟩
theorem hideD_spec {pend:List Nat} {lk:Nat→Option Blk} {b:Nat} {x:Blk} (h:hideD pend lk b=some x):b ∉ pend∧lk b=some x:=by
 unfold hideD at h
 cases hb:hasN pend b with
 | true=>rw [hb] at h; cases h
 | false=>rw [hb] at h; exact ⟨(fun hm=>by rw [(hasN_iff _ _).2 hm] at hb; cases hb),h⟩
theorem clsX_ne {o:Oper} {c:Nat} (h:clsX T o=c) (hc:c ≠ 0):clsO T o.op=c:=by
 unfold clsX at h
 split at h
 ·exact absurd h.symm hc
 ·exact h
theorem clsX_of {o:Oper} (h:isQ o.op=false):clsX T o=clsO T o.op:=by
 have:qtO T o=false:=by
  unfold qtO
  split
  ·split
   ·exact h
   ·rfl
  ·rfl
 unfold clsX; rw [this]
theorem ndO_one {o:Op} {ps:List PV} {lk:Nat→Option Blk} (h:clsO T o=1):ndO T ps lk o=false:=by cases o <;> simp [ndO,clsO] at h ⊢
theorem opsD_chain (hT:TabOK P T) (hW:PWf P) {all:Array Oper}:∀ (l:List Oper) (pend:List Nat) (E:Env) (K:Env→Prop),opsD T (Sig.std P T) all l pend E K →
  ∃ rs f stf nxf,ChD P T all l rs E.tmps E.st E.next pend f stf nxf∧FinD P T all K l rs E.st f stf nxf
 | [],pend,E,K,h=>⟨[],E.tmps,E.st,E.next,⟨rfl,rfl,rfl⟩,h⟩
 | o::l,pend,E,K,h=>by
  simp only [opsD] at h
  obtain ⟨E1,wb,h1,h2,h3,h4,h5,h6⟩:=gd_split h
  cases wb with
  | false =>
   have k5:=h6 rfl
   rw [putE_eq,h2,h3] at k5
   obtain ⟨rs,f,stf,nxf,hc,hK⟩:=opsD_chain hT hW l pend _ _ k5
   exact ⟨⟨E1.tmps,E1.tmps,noLk,.undef,[],0,false,false,false⟩::rs,f,stf,nxf,⟨⟨h1,h1,h4,(fun e=>by cases e),(fun e=>by cases e),(fun _=>rfl),.inl ⟨rfl,rfl,fun e=>by cases e⟩⟩,hc⟩,(fun e=>by cases e),fun _=>hK⟩
  | true =>
   have h5:=h5 rfl
   unfold stepL at h5
   cases hnd:ndO T E1.tmps (lkS E1.st) o.op with
   | true =>
    rw [hnd] at h5
    cases l with
    | cons _ _=>exact h5.elim
    | nil =>
      obtain ⟨hlo,h5⟩:=h5
      obtain ⟨v,δ,hk⟩:=opE_some hnd h5
      cases hi:ltD (E1.next+32) δ with
      | false=>rw [hi] at hk; exact hk.elim
      | true =>
       have hq:isQ o.op=false:=by
        revert hnd
        cases o.op <;> simp [ndO,isQ]
       have hcl:clsX T o=2:=by
        rw [clsX_of hq]
        revert hnd
        cases o.op <;> simp [ndO,clsO]
       refine ⟨[⟨E1.tmps,E1.tmps,lkS E1.st,v,δ,E1.next,true,true,true⟩],_,_,_,⟨⟨h1,h1,h4,(fun _ e=>by cases e),(fun _=>⟨rfl,rfl⟩),(fun e=>by cases e),.inr (.inr ⟨rfl,rfl,h3,hcl,?_,by rw [h2]⟩)⟩,rfl,rfl,rfl⟩,fun _=>⟨rfl,rfl,hlo,by simp [bump,h3],?_⟩,fun e=>by cases e⟩
       ·rw [← h3]; exact ltD_spec δ hi
       ·simp only [putE_eq,h2] at h5; exact h5
   | false =>
   rw [hnd] at h5
   simp only at h5
   unfold stepD at h5
   have quiet:∀ lk,(clsX T o=0∧lk=noLk∨clsX T o=3∧lk=hideD pend (lkS E1.st))→stepQ T (Sig.std P T) o lk E1 (fun E=>opsD T (Sig.std P T) all l pend E K) →
     ∃ rs f stf nxf,ChD P T all (o::l) rs E.tmps E.st E.next pend f stf nxf∧FinD P T all K (o::l) rs E.st f stf nxf:=by
    intro lk hlk hs
    obtain ⟨E2,v,k1,k2,k3,k4,k5⟩:=stepQ_split hT hW (all:=all) 0 hs
    rw [putE_eq,k2,k3,h2,h3] at k5
    obtain ⟨rs,f,stf,nxf,hc,hK⟩:=opsD_chain hT hW l pend _ _ k5
    refine ⟨⟨E1.tmps,E2.tmps,lk,v,[],0,false,true,false⟩::rs,f,stf,nxf,⟨⟨h1,h1.trans k1,h4,fun _ _=>k4,(fun e=>by cases e),(fun e=>by cases e),.inl ⟨rfl,rfl,fun _ b x hb=>?_⟩⟩,hc⟩,(fun e=>by cases e),fun _=>hK⟩
    rcases hlk with ⟨c0,rfl⟩ | ⟨c3,rfl⟩
    ·cases hb
    ·obtain ⟨a1,a2⟩:=hideD_spec hb
     rw [h2] at a2
     exact ⟨c3,a1,a2⟩
   split at h5
   ·rename_i hc; exact quiet noLk (.inl ⟨hc,rfl⟩) h5
   ·rename_i hc
    obtain ⟨v,δ,hk,hf⟩:=opW_det (.inl (clsX_ne hc (by decide))) (ndO_one (clsX_ne hc (by decide))) h5
    split at hk
    ·rename_i id x
     cases hi:Nat.beq id E1.next with
     | false=>rw [hi] at hk; exact hk.elim
     | true =>
      rw [hi] at hk
      simp only [cond_true] at hk
      have hid:=Nat.eq_of_beq_eq_true hi
      subst hid
      rw [putE_eq,h2,h3] at hk
      obtain ⟨rs,f,stf,nxf,hc2,hK⟩:=opsD_chain hT hW l _ _ _ hk
      refine ⟨⟨E1.tmps,E1.tmps,noLk,v,[(E1.next,some x)],E1.next,true,true,false⟩::rs,f,stf,nxf,⟨⟨h1,h1,h4,fun _ _=>?_,(fun e=>by cases e),(fun e=>by cases e),.inr (.inl ⟨rfl,rfl,h3,hc,⟨x,by rw [h3]⟩,rfl⟩)⟩,?_⟩,(fun e=>by cases e),fun _=>?_⟩
      ·exact semX_W hT hW (fun e=>by cases e) hf
      ·simp only [applyD,bump,pendN,hc,if_true,h3]; exact hc2
      ·simp only [applyD,h3]; exact hK
    ·exact hk.elim
   ·rename_i hc
    obtain ⟨v,δ,hk,hf⟩:=opW_det (.inr (clsX_ne hc (by decide))) hnd h5
    cases hi:ltD (E1.next+32) δ with
    | false=>rw [hi] at hk; exact hk.elim
    | true =>
     rw [hi] at hk
     simp only [cond_true] at hk
     rw [putE_eq,h2,h3] at hk
     obtain ⟨rs,f,stf,nxf,hc2,hK⟩:=opsD_chain hT hW l _ _ _ hk
     refine ⟨⟨E1.tmps,E1.tmps,lkS E1.st,v,δ,E1.next,true,true,false⟩::rs,f,stf,nxf,⟨⟨h1,h1,h4,fun _ _=>?_,(fun e=>by cases e),(fun e=>by cases e),.inr (.inr ⟨rfl,rfl,h3,hc,?_,by rw [h2]⟩)⟩,?_⟩,(fun e=>by cases e),fun _=>hK⟩
     ·exact semX_W hT hW (fun _=>rfl) hf
     ·rw [← h3]; exact ltD_spec δ hi
     ·simp only [bump,pendN,hc,h3]; exact hc2
   ·rename_i hc; exact quiet _ (.inr ⟨hc,rfl⟩) h5
   ·exact h5.elim
theorem ChD.len {all:Array Oper}:∀ (l:List Oper) (rs:List Rec) {p:List PV} {st:St} {nx:Nat} {pend:List Nat} {f:List PV} {stf:St} {nxf:Nat},ChD P T all l rs p st nx pend f stf nxf→rs.length=l.length∧f.length=p.length
 | [],[],_,_,_,_,_,_,_,h=>⟨rfl,by rw [h.1]⟩
 | o::l,r::rs,_,_,_,_,_,_,_,h=>by
  obtain ⟨h1,h2⟩:=ChD.len l rs h.2
  exact ⟨by simp [h1],by rw [h2,putT_length,h.1.er.1]⟩
 | [],_::_,_,_,_,_,_,_,_,h=>h.elim
 | _::_,[],_,_,_,_,_,_,_,h=>h.elim
theorem ChD.keep {all:Array Oper} {t:Nat}:∀ (l:List Oper) (rs:List Rec) {p:List PV} {st:St} {nx:Nat} {pend:List Nat} {f:List PV} {stf:St} {nxf:Nat},ChD P T all l rs p st nx pend f stf nxf→(∀ o∈l,o.dst ≠ some t)→Eqv (getL p t) (getL f t)
 | [],[],_,_,_,_,_,_,_,h,_=>by rw [h.1]; exact Eqv.refl _
 | o::l,r::rs,_,_,_,_,_,_,_,h,hn=>by
  have:=ChD.keep l rs h.2 fun o ho=>hn o (by simp [ho])
  rw [putT_ne (hn o (by simp))] at this
  exact (h.1.er.2 t).trans this
 | [],_::_,_,_,_,_,_,_,_,h,_=>h.elim
 | _::_,[],_,_,_,_,_,_,_,h,_=>h.elim
def stAt:List Rec→St→Nat→St
 | _,st,0=>st
 | [],st,_+1=>st
 | r::rs,st,i+1=>stAt rs (applyD r.δ st) i
def nxAt:List Rec→Nat→Nat→Nat
 | _,n,0=>n
 | [],n,_+1=>n
 | r::rs,n,i+1=>nxAt rs (bump r.big n) i
def pendAt (T:Tab):List Oper→List Rec→List Nat→Nat→List Nat
 | _,_,pd,0=>pd
 | o::l,r::rs,pd,i+1=>pendAt T l rs (pendN T o r pd) i
 | _,_,pd,_=>pd
theorem ChD.get {all:Array Oper}:∀ (l:List Oper) (rs:List Rec) {p:List PV} {st:St} {nx:Nat} {pend:List Nat} {f:List PV} {stf:St} {nxf:Nat},ChD P T all l rs p st nx pend f stf nxf→∀ (i:Nat) (o:Oper),l[i]?=some o →
  ∃ r q,rs[i]?=some r∧q.length=p.length∧StepOK P T all o r q (stAt rs st i) (nxAt rs nx i) (pendAt T l rs pend i) ∧
   (∀ t,(∀ j oj,j<i→l[j]?=some oj→oj.dst ≠ some t)→Eqv (getL p t) (getL q t)) ∧
   (∀ t,(∀ j oj,i≤j→l[j]?=some oj→oj.dst ≠ some t)→Eqv (getL q t) (getL f t)) ∧
   (∀ d,o.dst=some d→d<p.length→(∀ j oj,i<j→l[j]?=some oj→oj.dst ≠ some d)→Eqv r.v (getL f d))
 | [],_,_,_,_,_,_,_,_,_,i,o,hi=>by simp at hi
 | _::_,[],_,_,_,_,_,_,_,h,_,_,_=>h.elim
 | o'::l,r::rs,p,_,_,_,f,_,_,h,0,o,hi=>by
  obtain ⟨h1,h6⟩:=h
  simp at hi; subst hi
  refine ⟨r,p,rfl,rfl,h1,fun t _=>Eqv.refl _,fun t ht=>?_,fun d hd hlt hn=>?_⟩
  ·have hk:=ChD.keep l rs h6 (t:=t) fun o ho=>by
    obtain ⟨j,hj⟩:=List.getElem?_of_mem ho
    exact ht (j+1) o (by omega) (by simpa using hj)
   rw [putT_ne (ht 0 o' (by omega) (by simp))] at hk
   exact (h1.er.2 t).trans hk
  ·have hk:=ChD.keep l rs h6 (t:=d) fun o ho=>by
    obtain ⟨j,hj⟩:=List.getElem?_of_mem ho
    exact hn (j+1) o (by omega) (by simpa using hj)
   rw [hd] at hk
   simp only [putT,getL_setL] at hk
   rw [if_pos ⟨trivial,by rw [← h1.er.1]; exact hlt⟩] at hk
   exact hk
 | o'::l,r::rs,p,_,_,_,f,_,_,h,i+1,o,hi=>by
  obtain ⟨h1,h6⟩:=h
  obtain ⟨r',q,a0,a1,a2,a6,a7,a8⟩:=ChD.get l rs h6 i o (by simpa using hi)
  have hl:(putT r.er o'.dst r.v).length=p.length:=by rw [putT_length,h1.er.1]
  refine ⟨r',q,by simpa using a0,by rw [a1,hl],a2,fun t ht=>?_,fun t ht=>?_,fun d hd hlt hn=>?_⟩
  ·have hk:=a6 t fun j oj hj hoj=>ht (j+1) oj (by omega) (by simpa using hoj)
   rw [putT_ne (ht 0 o' (by omega) (by simp))] at hk
   exact (h1.er.2 t).trans hk
  ·exact a7 t fun j oj hj hoj=>ht (j+1) oj (by omega) (by simpa using hoj)
  ·exact a8 d hd (by rw [hl]; exact hlt) fun j oj hj hoj=>hn (j+1) oj (by omega) (by simpa using hoj)
theorem ChD.fin {all:Array Oper}:∀ (l:List Oper) (rs:List Rec) {p:List PV} {st:St} {nx:Nat} {pend:List Nat} {f:List PV} {stf:St} {nxf:Nat},ChD P T all l rs p st nx pend f stf nxf→stf=stAt rs st rs.length∧nxf=nxAt rs nx rs.length
 | [],[],_,_,_,_,_,_,_,h=>⟨h.2.1.symm,h.2.2.symm⟩
 | o::l,r::rs,_,_,_,_,_,_,_,h=>ChD.fin l rs h.2
 | [],_::_,_,_,_,_,_,_,_,h=>h.elim
 | _::_,[],_,_,_,_,_,_,_,h=>h.elim
theorem bump_le (b:Bool) (n:Nat):n≤bump b n:=by cases b <;> simp [bump]
theorem nxAt_start:∀ (rs:List Rec) (n i:Nat),n≤nxAt rs n i
 | _,n,0=>by simp [nxAt]
 | [],n,i+1=>by simp [nxAt]
 | r::rs,n,i+1=>by simp only [nxAt]; exact Nat.le_trans (bump_le _ _) (nxAt_start rs _ i)
theorem nxAt_succ:∀ (rs:List Rec) (n i:Nat) (r:Rec),rs[i]?=some r→nxAt rs n (i+1)=bump r.big (nxAt rs n i)
 | [],n,i,r,h=>by simp at h
 | r::rs,n,0,r',h=>by simp at h; subst h; cases rs <;> simp [nxAt]
 | r::rs,n,i+1,r',h=>by simp only [nxAt]; exact nxAt_succ rs _ i r' (by simpa using h)
theorem nxAt_over:∀ (rs:List Rec) (n i:Nat),rs.length≤i→nxAt rs n (i+1)=nxAt rs n i
 | [],n,0,_=>by simp [nxAt]
 | [],n,i+1,_=>by simp [nxAt]
 | r::rs,n,0,h=>by simp at h
 | r::rs,n,i+1,h=>by simp only [nxAt]; exact nxAt_over rs _ i (by simpa using h)
theorem nxAt_mono {rs:List Rec} {n i j:Nat} (h:i≤j):nxAt rs n i≤nxAt rs n j:=by
 induction h with
 | refl=>exact Nat.le_refl _
 | step h ih =>
  rename_i m
  cases hm:rs[m]? with
  | some r=>rw [nxAt_succ _ _ _ _ hm]; exact Nat.le_trans ih (bump_le _ _)
  | none=>rw [nxAt_over _ _ _ (by rw [List.getElem?_eq_none_iff] at hm; exact hm)]; exact ih
def lastD:Dl→Nat→Option (Option Blk)
 | [],_=>none
 | (c,x)::δ,b=>match lastD δ b with
  | some y=>some y
  | none=>if c=b then some x else none
theorem lk_applyD:∀ (δ:Dl) (st:St) (b:Nat),lkS (applyD δ st) b=(match lastD δ b with | some x=>x | none=>lkS st b)
 | [],st,b=>rfl
 | (c,x)::δ,st,b=>by
  simp only [applyD,lk_applyD δ (inS st c x) b,lastD]
  cases lastD δ b with
  | some y=>rfl
  | none =>
   simp only [lkS_inS]
   by_cases h:c=b <;> simp [h]
theorem lastD_keys:∀ (δ:Dl) (b:Nat),lastD δ b ≠ none→keysD δ b
 | [],b,h=>absurd rfl h
 | (c,x)::δ,b,h=>by
  simp only [lastD] at h
  split at h
  ·rename_i y hy
   obtain ⟨z,hz⟩:=lastD_keys δ b (by rw [hy]; simp)
   exact ⟨z,List.mem_cons_of_mem _ hz⟩
  ·by_cases hc:c=b
   ·subst hc; exact ⟨x,by simp⟩
   ·rw [if_neg hc] at h; exact absurd rfl h
def lst:List Rec→(Nat→Bool)→Nat→Nat→Option (Option Blk)
 | [],_,_,_=>none
 | r::rs,D,i,b=>match lst rs D (i+1) b with
  | some y=>some y
  | none=>if D i then lastD r.δ b else none
def orS (st:St) (b:Nat):Option (Option Blk)→Option Blk
 | some x=>x
 | none=>lkS st b
theorem lst_agree:∀ (rs:List Rec) (D D' : Nat→Bool) (i b:Nat),(∀ k r,rs[k]?=some r→lastD r.δ b ≠ none→D (i+k)=D' (i+k))→lst rs D i b=lst rs D' i b
 | [],_,_,_,_,_=>rfl
 | r::rs,D,D',i,b,h=>by
  have ih:=lst_agree rs D D' (i+1) b fun k r' hr hb=>by
   have:=h (k+1) r' (by simpa using hr) hb
   rwa [show i+(k+1)=i+1+k by omega] at this
  simp only [lst,ih]
  split
  ·rfl
  ·by_cases hb:lastD r.δ b=none
   ·simp [hb]
   ·have:=h 0 r rfl hb
    simp only [Nat.add_zero] at this
    rw [this]
theorem lst_none:∀ (rs:List Rec) (D:Nat→Bool) (i b:Nat),(∀ k r,rs[k]?=some r→D (i+k)=true→lastD r.δ b=none)→lst rs D i b=none
 | [],_,_,_,_=>rfl
 | r::rs,D,i,b,h=>by
  have ih:=lst_none rs D (i+1) b fun k r' hr hb=>h (k+1) r' (by simpa using hr) (by rwa [show i+(k+1)=i+1+k by omega])
  simp only [lst,ih]
  split
  ·rename_i h0; exact h 0 r rfl (by simpa using h0)
  ·rfl
theorem lst_last:∀ (rs:List Rec) (D:Nat→Bool) (i m b:Nat) (r:Rec) (x:Option Blk),rs[m]?=some r→D (i+m)=true→lastD r.δ b=some x→(∀ k r',m<k→rs[k]?=some r'→D (i+k)=true→lastD r'.δ b=none)→lst rs D i b=some x
 | [],_,_,m,_,_,_,h,_,_,_=>by simp at h
 | r::rs,D,i,0,b,r',x,h,hD,hx,hl=>by
  simp at h; subst h
  have:=lst_none rs D (i+1) b fun k r' hr hb=>hl (k+1) r' (by omega) (by simpa using hr) (by rwa [show i+(k+1)=i+1+k by omega])
  simp only [lst,this]
  rw [if_pos (by simpa using hD)]; exact hx
 | r::rs,D,i,m+1,b,r',x,h,hD,hx,hl=>by
  have:=lst_last rs D (i+1) m b r' x (by simpa using h) (by rwa [show i+1+m=i+(m+1) by omega]) hx fun k r2 hk hr hb=>hl (k+1) r2 (by omega) (by simpa using hr) (by rwa [show i+(k+1)=i+1+k by omega])
  simp only [lst,this]
theorem lk_stAt:∀ (rs:List Rec) (st:St) (i j b:Nat),lkS (stAt rs st i) b=orS st b (lst rs (fun k=>decide (k<j+i)) j b)
 | [],st,0,j,b=>rfl
 | [],st,i+1,j,b=>rfl
 | r::rs,st,0,j,b=>by
  simp only [stAt]
  rw [lst_none _ _ _ _ fun k r' _ h=>by simp at h; omega]; rfl
 | r::rs,st,i+1,j,b=>by
  simp only [stAt,lk_stAt rs (applyD r.δ st) i (j+1) b,lst]
  rw [show (fun k=>decide (k<j+1+i))=(fun k=>decide (k<j+(i+1))) from funext fun k=>by congr 2; omega]
  cases lst rs (fun k=>decide (k<j+(i+1))) (j+1) b with
  | some y=>rfl
  | none =>
   simp only [orS,lk_applyD]
   rw [if_pos (by simp)]
theorem chkOne_spec {all:Array Oper} {i:Nat} {o:Oper} {lo:List Tmp}:∀ (l:List Oper) (j:Nat),chkOne all i o lo l j=true→∀ (k:Nat) (p:Oper),l[k]?=some p→pairOK all i o lo (j+k) p=true
 | [],_,_,k,p,hk=>by simp at hk
 | q::l,j,h,0,p,hk=>by simp at hk; subst hk; simp only [chkOne,Bool.and_eq_true] at h; exact h.1
 | q::l,j,h,k+1,p,hk=>by
  simp only [chkOne,Bool.and_eq_true] at h
  have:=chkOne_spec l (j+1) h.2 k p (by simpa using hk)
  rw [show j+(k+1)=j+1+k by omega]; exact this
theorem chkAll_spec {all:Array Oper}:∀ (l:List Oper) (i:Nat),chkAll all l i=true→∀ (k:Nat) (o:Oper),l[k]?=some o →
  (∀ e∈o.after,Region.binds .any e=true→e.on<i+k)∧∀ (j:Nat) (p:Oper),all[j]?=some p→pairOK all (i+k) o (o.looksAt all) j p=true
 | [],_,_,k,o,hk=>by simp at hk
 | q::l,i,h,0,o,hk=>by
  simp at hk; subst hk
  simp only [chkAll,Bool.and_eq_true] at h
  refine ⟨fun e he hb=>?_,fun j p hp=>?_⟩
  ·have:=Array.all_eq_true_iff_forall_mem.1 h.1.1 e he
   rw [hb,Bool.not_true,Bool.false_or,Nat.blt_eq] at this; simpa using this
  ·have:=chkOne_spec all.toList 0 h.1.2 j p (by simpa using hp)
   simpa using this
 | q::l,i,h,k+1,o,hk=>by
  simp only [chkAll,Bool.and_eq_true] at h
  have:=chkAll_spec l (i+1) h.2 k o (by simpa using hk)
  rw [show i+(k+1)=i+1+k by omega]; exact this
theorem drawOK_spec {all:Array Oper} (h0:drawOK T all=true) {i:Nat} {o:Oper} (hi:all[i]?=some o) :
  (∀ e∈o.after,Region.binds .any e=true→e.on<i)∧∀ (j:Nat) (p:Oper),all[j]?=some p→j ≠ i→∀ d,p.dst=some d→o.dst ≠ some d ∧
   (d∈o.looksAt all→(∃ e∈o.after,Region.binds .any e=true∧e.on=j)∨(∃ e∈p.after,Region.binds .any e=true∧e.on=i)):=by
 have h:chkAll all all.toList 0=true:=by unfold drawOK at h0; rw [Bool.and_eq_true] at h0; exact h0.1
 obtain ⟨h1,h2⟩:=chkAll_spec all.toList 0 h i o (by simpa using hi)
 rw [Nat.zero_add] at h1 h2
 refine ⟨h1,fun j p hp hne d hd=>?_⟩
 have:=h2 j p hp
 have hij:Nat.beq i j=false:=beqN fun e=>hne e.symm
 simp only [pairOK,hij,hd,Bool.false_or,Bool.and_eq_true,Bool.or_eq_true,bne_iff_ne,ne_eq,Bool.not_eq_true',List.contains_eq_mem,decide_eq_false_iff_not] at this
 refine ⟨this.1,fun hm=>?_⟩
 rcases this.2 with (hh | hh) | hh
 ·exact absurd hm hh
 ·obtain ⟨e,he,hb⟩:=Array.any_eq_true'.1 hh
  simp only [Bool.and_eq_true] at hb
  exact .inl ⟨e,he,hb.1,Nat.eq_of_beq_eq_true hb.2⟩
 ·obtain ⟨e,he,hb⟩:=Array.any_eq_true'.1 hh
  simp only [Bool.and_eq_true] at hb
  exact .inr ⟨e,he,hb.1,Nat.eq_of_beq_eq_true hb.2⟩
inductive Bef (all:Array Oper):Nat→Nat→Prop
 | one {i:Nat} {o:Oper} {e:Edge}:all[i]?=some o→e∈o.after→Region.binds .any e=true→Bef all e.on i
 | trans {i j k:Nat}:Bef all i j→Bef all j k→Bef all i k
theorem mem_unionN:∀ (l m:List Nat) (b:Nat),b∈unionN l m→b∈l∨b∈m
 | [],m,b,h=>.inr h
 | c::l,m,b,h=>by
  simp only [unionN] at h
  cases hc:hasN m c with
  | true =>
   rw [hc] at h
   rcases mem_unionN l m b h with h | h
   ·exact .inl (List.mem_cons_of_mem _ h)
   ·exact .inr h
  | false =>
   rw [hc] at h
   rcases mem_unionN l (c::m) b h with h | h
   ·exact .inl (List.mem_cons_of_mem _ h)
   ·rcases List.mem_cons.1 h with rfl | h
    ·exact .inl (by simp)
    ·exact .inr h
theorem getLL_eq:∀ (l:List (List Nat)) (i:Nat),getLL l i=l.getD i []
 | [],i=>by simp [getLL]
 | x::l,0=>by simp [getLL]
 | x::l,i+1=>by simpa [getLL] using getLL_eq l i
theorem mem_befOf (acc:List (List Nat)):∀ (l:List Nat) (b:Nat),b∈befOf acc l→∃ j∈l,b=j∨b∈getLL acc j
 | [],b,h=>by simp [befOf] at h
 | j::l,b,h=>by
  simp only [befOf] at h
  rcases mem_unionN _ _ _ h with h | h
  ·exact ⟨j,by simp,by simpa using h⟩
  ·obtain ⟨j',h1,h2⟩:=mem_befOf acc l b h
   exact ⟨j',by simp [h1],h2⟩
theorem befs_sound {all:Array Oper}:∀ (l:List Oper) (acc:List (List Nat)),(∀ k o,l[k]?=some o→all[acc.length+k]?=some o)→(∀ i b,b∈getLL acc i→Bef all b i)→∀ i b,b∈getLL (befs l acc) i→Bef all b i
 | [],acc,_,h2=>by simpa [befs] using h2
 | o::l,acc,h1,h2=>by
  simp only [befs]
  have hlen:(acc ++ [befOf acc (bindsOn o)]).length=acc.length+1:=by simp
  refine befs_sound l _ (fun k o' hk=>?_) fun i b hb=>?_
  ·have:=h1 (k+1) o' (by simpa using hk)
   rw [hlen,← this]; congr 1; omega
  ·rw [getLL_eq,List.getD_eq_getElem?_getD] at hb
   by_cases hi:i<acc.length
   ·rw [List.getElem?_append_left hi] at hb
    exact h2 i b (by rw [getLL_eq,List.getD_eq_getElem?_getD]; exact hb)
   ·rw [List.getElem?_append_right (by omega)] at hb
    have hi0:i - acc.length=0:=by
     by_cases h0:i - acc.length=0
     ·exact h0
     ·rw [List.getElem?_eq_none (by simp; omega)] at hb; simp at hb
    rw [hi0] at hb
    simp only [List.getElem?_cons_zero,Option.getD_some] at hb
    have hia:i=acc.length:=by omega
    obtain ⟨j,hj,hb⟩:=mem_befOf acc _ _ hb
    have hall:=h1 0 o rfl
    rw [Nat.add_zero] at hall
    simp only [bindsOn,List.mem_map,List.mem_filter] at hj
    obtain ⟨e,⟨he,hbind⟩,rfl⟩:=hj
    have hone:Bef all e.on i:=by rw [hia]; exact .one hall (by simpa using he) hbind
    rcases hb with rfl | hb
    ·exact hone
    ·exact .trans (h2 _ _ hb) hone
theorem wOne_spec {bef:List Nat} {c:Nat}:∀ (l:List Oper) (i:Nat),wOne T bef c l i=true→∀ k o,l[k]?=some o→clash (clsX T o) c=true→(i+k)∈bef
 | [],_,_,k,o,h,_=>by simp at h
 | q::l,i,h,0,o,hk,hc=>by
  simp at hk; subst hk
  simp only [wOne,Bool.and_eq_true,hc,cond_true] at h
  exact (hasN_iff _ _).1 h.1
 | q::l,i,h,k+1,o,hk,hc=>by
  simp only [wOne,Bool.and_eq_true] at h
  have:=wOne_spec l (i+1) h.2 k o (by simpa using hk) hc
  rwa [show i+1+k=i+(k+1) by omega] at this
theorem wAll_spec {L:List Oper} {B:List (List Nat)}:∀ (l:List Oper) (i:Nat),wAll T L B l i=true→∀ k o,l[k]?=some o→wOne T (getLL B (i+k)) (clsX T o) (L.take (i+k)) 0=true
 | [],_,_,k,o,h=>by simp at h
 | q::l,i,h,0,o,hk=>by
  simp at hk; subst hk
  simp only [wAll,Bool.and_eq_true] at h
  exact h.1
 | q::l,i,h,k+1,o,hk=>by
  simp only [wAll,Bool.and_eq_true] at h
  have:=wAll_spec l (i+1) h.2 k o (by simpa using hk)
  rwa [show i+1+k=i+(k+1) by omega] at this
theorem anyW_spec:∀ (l:List Oper),anyW T l=false→∀ o∈l,clsX T o ≠ 2
 | [],_,o,h=>by cases h
 | q::l,h,o,ho=>by
  simp only [anyW,Bool.or_eq_false_iff] at h
  rcases List.mem_cons.1 ho with rfl | ho
  ·intro e; rw [e] at h; simp at h
  ·exact anyW_spec l h.2 o ho
theorem clash_bef {all:Array Oper} (h:drawOK T all=true) {i j:Nat} {oi oj:Oper} (hij:i<j) (hi:all[i]?=some oi) (hj:all[j]?=some oj) (hc:clash (clsX T oi) (clsX T oj)=true):Bef all i j:=by
 unfold drawOK at h
 rw [Bool.and_eq_true] at h
 have h:=h.2
 have hi' : all.toList[i]?=some oi:=by simpa using hi
 have hj' : all.toList[j]?=some oj:=by simpa using hj
 cases hw:anyW T all.toList with
 | false =>
  have h1:=anyW_spec _ hw oi (List.mem_of_getElem? hi')
  have h2:=anyW_spec _ hw oj (List.mem_of_getElem? hj')
  exfalso
  simp only [clash,Bool.or_eq_true,Bool.and_eq_true] at hc
  rcases hc with hc | hc
  ·exact h1 (Nat.eq_of_beq_eq_true hc.1)
  ·exact h2 (Nat.eq_of_beq_eq_true hc.1)
 | true =>
  rw [hw] at h
  simp only [cond_true] at h
  have:=wAll_spec _ 0 h j oj hj'
  rw [Nat.zero_add] at this
  have:=wOne_spec _ 0 this i oi (by rw [List.getElem?_take_of_lt hij]; exact hi') hc
  rw [Nat.zero_add] at this
  exact befs_sound all.toList [] (fun k o hk=>by simpa using hk) (fun i b hb=>by simp [getLL] at hb) j i this
def patch (sl:List Tmp) (er ps:List PV):List PV:=(List.range ps.length).map fun t=>if t∈sl then getL er t else getL ps t
theorem patch_length (sl:List Tmp) (er ps:List PV):(patch sl er ps).length=ps.length:=by simp [patch]
theorem patch_get {sl:List Tmp} {er ps:List PV} {t:Nat} (h:t<ps.length):getL (patch sl er ps) t=if t∈sl then getL er t else getL ps t:=by
 rw [getL_eq,List.getD_eq_getElem?_getD]
 simp [patch,h]
theorem patch_eqv {sl:List Tmp} {er ps:List PV} (h:∀ t∈sl,Eqv (getL ps t) (getL er t)):EqvL ps (patch sl er ps):=by
 refine ⟨by simp [patch],fun t=>?_⟩
 by_cases ht:t<ps.length
 ·rw [patch_get ht]
  split
  ·rename_i hm; exact h t hm
  ·exact Eqv.refl _
 ·rw [getL_ge (Nat.le_of_not_lt ht),getL_ge (by rw [patch_length]; exact Nat.le_of_not_lt ht)]; exact Eqv.refl _
theorem patch_looks {sl:List Tmp} {er ps:List PV} (hl:er.length=ps.length):∀ t∈sl,getL (patch sl er ps) t=getL er t:=by
 intro t hm
 by_cases ht:t<ps.length
 ·rw [patch_get ht,if_pos hm]
 ·rw [getL_ge (by rw [patch_length]; exact Nat.le_of_not_lt ht),getL_ge (by rw [hl]; exact Nat.le_of_not_lt ht)]
theorem Bef.listed {all:Array Oper} {listed:Array Bool} (hclosed:∀ j o,all[j]?=some o→listed.getD j true=true→∀ e∈o.after,Region.binds .any e=true→listed.getD e.on true=true) {i j:Nat} (h:Bef all i j):listed.getD j true=true→listed.getD i true=true:=by
 induction h with
 | one h1 h2 h3=>intro h; exact hclosed _ _ h1 h _ h2 h3
 | trans _ _ ih1 ih2=>intro h; exact ih1 (ih2 h)
theorem set_listed {listed:Array Bool} {i j:Nat} (hi:listed.getD i true=false):(listed.setIfInBounds i true).getD j true=true ↔ (j=i∨listed.getD j true=true):=by
 have hlt:i<listed.size:=by
  rcases Nat.lt_or_ge i listed.size with h | h
  ·exact h
  ·simp [Array.getElem?_eq_none h] at hi
 by_cases hij:i=j
 ·subst hij; simp [hlt]
 ·rw [getD_set_ne true hij]
  constructor
  ·intro h; exact .inr h
  ·rintro (h | h)
   ·exact absurd h.symm hij
   ·exact h
theorem Bef.ready {all:Array Oper} {listed:Array Bool} (hclosed:∀ j o,all[j]?=some o→listed.getD j true=true→∀ e∈o.after,Region.binds .any e=true→listed.getD e.on true=true)
  {i j:Nat} (h:Bef all i j):∀ o,all[j]?=some o→(∀ e∈o.after,Region.binds .any e=true→listed.getD e.on true=true)→listed.getD i true=true:=by
 induction h with
 | one h1 h2 h3=>intro o ho hall; rw [h1] at ho; cases ho; exact hall _ h2 h3
 | trans h1 h2 ih1 ih2 =>
  intro o ho hall
  exact h1.listed hclosed (ih2 o ho hall)
end
end Go.Pv
