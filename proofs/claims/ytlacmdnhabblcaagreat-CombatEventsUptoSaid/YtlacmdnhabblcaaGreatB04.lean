import Derived.Test.YtlacmdnhabblcaaGreatB03
set_option linter.all false
namespace Go.Pv
open Go
theorem C9.re {w0 w w' : World}{L Y Y' : Nat->Prop}{σ σ' : Sg}{st st' : St}(H:C9 w0 L w Y σ st)(R:Nat->Nat->Nat->Nat->Prop)
  (hR:∀ b r c h sz U,pY st' b r c h sz U->∃ b0 r0,pY st b0 r0 c h sz U/\R b r b0 r0)
  (hi:∀ b r T J b0 r0,R b r b0 r0->R T J b0 r0->b=T/\r=J)
  (hk:∀ b r c h sz U,pY st b r c h sz U->aat w Y h sz U->aat w' Y' h sz U)
  (hs:∀ b r c h sz U T x l,pY st b r c h sz U->kR st' T=some x->σ' T=some l->l.cb≠h.ν):C9 w0 L w' Y' σ' st':=by
 refine⟨λb r c h sz U k=>?_,λb r c h sz U k=>?_,λb r c h sz U T J c' h' sz' g k I e=>?_,λb r c h sz U T x l k hx hl=>?_⟩
 obtain⟨b0,r0,k0,_⟩:=hR _ _ _ _ _ _ k;exact hk _ _ _ _ _ _ k0 (H.rep _ _ _ _ _ _ k0)
 obtain⟨b0,r0,k0,_⟩:=hR _ _ _ _ _ _ k;exact H.old _ _ _ _ _ _ k0
 obtain⟨b0,r0,k0,g0⟩:=hR _ _ _ _ _ _ k;obtain⟨b1,r1,k1,g1⟩:=hR _ _ _ _ _ _ I;obtain⟨e1,C,e3⟩:=H.one _ _ _ _ _ _ _ _ _ _ _ _ k0 k1 e;subst e1 C;obtain⟨f1,f2⟩:=hi _ _ _ _ _ _ g0 g1;exact⟨f1,f2,e3⟩
 obtain⟨b0,r0,k0,_⟩:=hR _ _ _ _ _ _ k;exact hs _ _ _ _ _ _ _ _ _ k0 hx hl
theorem SW.retag {T:Tab}{C:Ctx T}{w:World}{Y:Nat->Prop}{σ:Sg}{ps:List PV}{vs:List Value}{st st' : St}{n:Nat}(H:SW C w Y σ ps vs st n)
  (U:∀ b x,kR st' b=some x->∃ g,kR st b=some g/\(x=g\/∃ sz rows l,g=.arr false sz rows/\x=.pU sz rows/\σ b=some l)) (J:C9 C.w0 C.L w Y σ st'):SW C w Y σ ps vs st' n:=by
 refine⟨H.vals,⟨?_,?_⟩,H.next,H.yK,H.y0,H.c0,H.xI,H.qh,?_,H.zi,H.fix,J⟩
 intro b x hx;obtain⟨g,h0,e⟩:=U b x hx;rcases e with rfl|⟨sz,rows,l,rfl,rfl,I⟩
 exact H.store.blk b x h0
 rcases H.store.blk b _ h0 with ⟨l',R,hB⟩|⟨hn,_⟩
 refine .inl ⟨l',R,?_⟩;unfold jH at hB |-;exact⟨hB.1,hB.2.1,hB.2.2.1,hB.2.2.2.1,hB.2.2.2.2.1,hB.2.2.2.2.2.1 rfl⟩
 rw[I] at hn;cases hn
 intro b b' x x' l l' hx hx' I R e;obtain⟨_,h0,_⟩:=U b x hx;obtain⟨_,h0',_⟩:=U b' x' hx';exact H.store.inj _ _ _ _ _ _ h0 h0' I R e
 intro b x l hx I;obtain⟨_,h0,_⟩:=U b x hx;exact H.own _ _ _ h0 I
section
variable {P:Program}{T:Tab}(hT:lW P T){C:Ctx T}{o:Oper}{a:Act}{w:World}{Y:Nat->Prop}{σ:Sg}{ps:List PV}{st:St}{n id:Nat}{K:PV->Dl->Prop}{lk:Nat->Option mJ}
 (H:SW C w Y σ ps a.tmps.toList st n) (hlk:∀ b x,lk b=some x->kR st b=some x) (hid:σ id=none/\T.vY<=id)
include hT H hlk hid in
theorem ake {t:TypeId}{len:Nat}{parts:Array (Nat×Operand)}(ho:o.op=.buildSlice t len parts)(h:alM T (kK.lM P T) t len parts ps lk id K):rH P C o a w σ ps st n id K:=by
 unfold alM at h
 split at h
 ·rename_i agg size z0 plain esz bytes z e;obtain⟨et,hu,rfl,_,hz⟩:=nZ hT e
  cases hb:(lZ (P.cellsOf et)&&Nat.beq (pX z) (P.cellsOf et)&&Nat.ble (len*P.cellsOf et) 16777216&&Ag (evP T ps parts.toList)&&Nat.beq (P.cellsOf et) 1) with
  | false=>rw[hb] at h;exact h.elim
  | true =>
   rw[hb] at h;simp only[cond_true] at h;simp only[Bool.and_eq_true,pg] at hb;obtain⟨⟨⟨⟨hb1,hb2⟩,hb3⟩,hb4⟩,hb5⟩:=hb;have hone:=Nat.eq_of_beq_eq_true hb5;have hpos:0<P.cellsOf et:=by omega
   have hzl:=Nat.eq_of_beq_eq_true hb2;have hle:=Nat.le_of_ble_eq_true hb3
   split at h
   rename_i O;obtain⟨vcs,hrep,hvl,hrun⟩:=wL hT H ho hu hz hb1 hzl hle hb4 O;have hvl0:vcs.size=0:=by simpa using hvl
   obtain⟨Y2,σ2,H2,U,hoff⟩:=SW.aaE (a:=a) (m:=0) (arr:=vcs) (rows:=[]) (sz:=1) (x:=.pU 1 []) H hid (.inr ⟨rfl,by simp⟩) et ai aI (by simpa using hvl0) (by
    intro w' Y' _ _;simp[lV])
   exact⟨_,_,_,_,Y2,σ2,h,.inl hrun,by simp only[lh,uk];exact H2,U,hoff⟩
   ·rename_i b r m O
    split at h
    ·rename_i sz rows hbk;obtain⟨vcs,hrep,hvl,hrun⟩:=wL hT H ho hu hz hb1 hzl hle hb4 O;have hst:=hlk _ _ hbk;unfold jo at hrep;obtain⟨v,vs',hvs,hv,hnil⟩:=hrep;unfold jo at hnil;subst hnil;have hvl1:vcs.size=1:=by rw[hvl,hone]
     have hv0:vcs[0]?=some v:=by rw[<- Array.getElem?_toList,hvs];rfl
     obtain⟨R,hwv,hloc⟩:∃ R:Hdr,Rep w Y kX (.ow R sz ((rows.drop r).take m)) v/\((rows.drop r).take m≠[]->∃ l,σ b=some l/\R.ν=l.cb/\R.o=l.co+r*l.sz/\R.o+R.cap*l.sz=l.tot/\((rows.drop r).take m).length<=R.cap):=by
      unfold Rep at hv;rcases hv with ⟨l2,cap,hl2,ey2,hcap,htot,hrm⟩|⟨hm1,a0,ey2⟩
      have hB2:jH w Y σ l2 (.arr false sz rows):=jH.Hq H hlk hbk hl2;unfold jH at hB2;obtain⟨_,hsz2,hpos2,⟨hle2,hnr2⟩,hrows2,hm2,_⟩:=hB2;have hlen:((rows.drop r).take m).length=m:=by rw[List.length_take,List.length_drop];omega
      refine⟨⟨l2.cb,l2.co+r*l2.sz,cap⟩,?_,λ_=>⟨l2,hl2,rfl,rfl,htot,by rw[hlen];exact hcap⟩⟩;unfold Rep
      by_cases hm0:m=0
      subst hm0;exact .inr ⟨by simp,_,cap,ey2⟩
      exact .inl ⟨λe=>by rw[e] at hlen;simp at hlen;exact hm0 hlen.symm,by rw[hlen];exact ey2,by rw[hlen];exact hcap⟩
      subst hm1;refine⟨⟨0,0,0⟩,?_,λh=>absurd aI h⟩;unfold Rep;exact .inr ⟨by simp,a0,0,ey2⟩
     cases hbi:Nat.beq b id with
     | true=>rw[hbi] at h;exact h.elim
     | false =>
     rw[hbi] at h;have hbid:b≠id:=λe=>by subst e;rw[Nat.beq_refl] at hbi;cases hbi
     generalize hes:(rows.drop r).take m=es at hwv hloc;have h:∀ R,K (.os id 0 1) [(b,none),(id,some (.pU 1 [[.ow R sz ((rows.drop r).take m)]]))]:=h;rw[hes] at h
     obtain⟨Y2,σ2,H2,U,hoff⟩:=SW.adF (a:=a) (m:=1) (arr:=vcs) (rows:=[[.ow R sz es]]) (sz:=1) H hid et ai aI ai (by
      intro w' Y' hk hb;unfold lV;refine⟨⟨rfl,rfl⟩,?_,by unfold lV;trivial⟩;rw[lT.iff];intro i p hi
      cases i with
      | zero =>
       simp only[List.getElem?_cons_zero,Option.some.injEq] at hi;subst hi;exact⟨v,by rw[cell_of_block hb];simpa using hv0,hk _ _ hwv⟩
      | succ i=>simp at hi)
     have hb1:kR (rW st id (some (.arr false 1 [[.ow R sz es]]))) b=some (.arr false sz rows):=by rw[kC,if_neg (λe=>hbid e.symm)];exact hst
     have look:∀ c x,kR (rW (rW st b none) id (some (.pU 1 [[.ow R sz es]]))) c=some x->(c=id/\x=.pU 1 [[.ow R sz es]])\/(c≠id/\c≠b/\kR (rW st id (some (.arr false 1 [[.ow R sz es]]))) c=some x):=by
      intro c x hx;rw[kC] at hx
      by_cases hc:id=c
      rw[if_pos hc] at hx;cases hx;exact .inl ⟨hc.symm,rfl⟩
      rw[if_neg hc,kC] at hx
      by_cases hc2:b=c
      rw[if_pos hc2] at hx;cases hx
      rw[if_neg hc2] at hx;exact .inr ⟨λe=>hc e.symm,λe=>hc2 e.symm,by rw[kC,if_neg hc];exact hx⟩
     have hidl:∃ l,σ2 id=some l:=by
      unfold Rep at U;rcases U with ⟨l,_,hl,_⟩|⟨h0,_⟩
      exact⟨l,hl⟩
      cases h0
     obtain⟨lid,hlid⟩:=hidl
     have ow:∀ {b' r' c' h' I g},pY (rW (rW st b none) id (some (.pU 1 [[.ow R sz es]]))) b' r' c' h' I g ->
       (b'=id/\r'=0/\c'=0/\h'=R/\I=sz/\g=es/\es≠[])\/(b'≠id/\pY (rW st id (some (.arr false 1 [[.ow R sz es]]))) b' r' c' h' I g):=by
      rintro b' r' c' h' I g ⟨sz0,rs,rw0,g1,g2,g3,g4⟩
      rcases look _ _ g1 with ⟨e0,g5⟩|⟨e1,e2,g1⟩
      cases g5
      cases r' with
      | succ r'=>simp at g2
      | zero =>
       simp only[List.getElem?_cons_zero,Option.some.injEq] at g2;subst g2
       cases c' with
       | succ c'=>simp at g3
       | zero =>
        simp only[List.getElem?_cons_zero,Option.some.injEq,PV.ow.injEq] at g3;obtain⟨f1,f2,f3⟩:=g3;subst f1 f2 f3;exact .inl ⟨e0,rfl,rfl,rfl,rfl,rfl,g4⟩
      exact .inr ⟨e1,⟨sz0,rs,rw0,g1,g2,g3,g4⟩⟩
     have nr:es≠[]->∃ l,σ2 b=some l/\R.ν=l.cb/\aat (w.alloc (.cells vcs et)) Y2 R sz es:=by
      intro J;obtain⟨l,hl,g1,g2,g3,g4⟩:=hloc J;have hl2:σ2 b=some l:=by rw[hoff b hbid];exact hl
      refine⟨l,hl2,g1,?_⟩;have hB2:jH (w.alloc (.cells vcs et)) Y2 σ2 l (.arr false sz rows):=jH.Hq H2 (λ_ _ h=>h) hb1 hl2;unfold jH at hB2;obtain⟨⟨arr2,ty2,ha2,has2⟩,hsz2,hpos2,_,hrows2,hm2,_⟩:=hB2;rw[hsz2] at g2 g3;refine⟨by rw[g1];exact hm2 rfl,hpos2,⟨arr2,ty2,by rw[g1];exact ha2,by rw[has2,g3]⟩,g4,?_⟩;rw[g1,g2,<- hes];exact (hrows2.drop r _ _).take m _ _
     refine⟨_,_,_,_,Y2,σ2,h R,.inl hrun,?_,U,hoff⟩;simp only[lh,uk];refine H2.retag (λc x hx=>?_) ⟨λb' r' c' h' I g hh=>?_,λb' r' c' h' I g hh=>?_,λb' r' c' h' I g b2 r2 c2 h2 sz3 es3 hh hh' e=>?_,λb' r' c' h' I g b2 x l' hh hx hl'=>?_⟩
     rcases look _ _ hx with ⟨rfl,rfl⟩|⟨_,_,hx⟩
     exact⟨_,by rw[kC,if_pos rfl],.inr ⟨_,_,lid,rfl,rfl,hlid⟩⟩
     exact⟨_,hx,.inl rfl⟩
     rcases ow hh with ⟨_,_,_,rfl,rfl,rfl,J⟩|⟨_,hh⟩
     exact (nr J).choose_spec.2.2
     exact H2.nest.rep _ _ _ _ _ _ hh
     rcases ow hh with ⟨_,_,_,rfl,rfl,rfl,J⟩|⟨_,hh⟩
     obtain⟨l,hl,g1,_⟩:=nr J;rw[g1];exact H2.own b _ l hb1 hl
     exact H2.nest.old _ _ _ _ _ _ hh
     rcases ow hh with ⟨e1,e2,e3,e4,_,_,J⟩|⟨k1,hh1⟩<;>rcases ow hh' with ⟨f1,f2,f3,f4,_,_,hne'⟩|⟨k2,hh2⟩
     exact⟨by rw[e1,f1],by rw[e2,f2],by rw[e3,f3]⟩
     obtain⟨l,hl,g1,_⟩:=nr J;exact absurd (by rw[<- e,e4,g1]) (H2.nest.sep _ _ _ _ _ _ _ _ _ hh2 hb1 hl)
     obtain⟨l,hl,g1,_⟩:=nr hne';exact absurd (by rw[e,f4,g1]) (H2.nest.sep _ _ _ _ _ _ _ _ _ hh1 hb1 hl)
     exact H2.nest.one _ _ _ _ _ _ _ _ _ _ _ _ hh1 hh2 e
     have hx2:b2≠b/\∃ z,kR (rW st id (some (.arr false 1 [[.ow R sz es]]))) b2=some z:=by
      rcases look _ _ hx with ⟨rfl,_⟩|⟨_,e2,hx⟩
      exact⟨λe=>hbid e.symm,_,by rw[kC,if_pos rfl]⟩
      exact⟨e2,_,hx⟩
     obtain⟨hxi,z,hz⟩:=hx2;rcases ow hh with ⟨_,_,_,rfl,_,_,J⟩|⟨_,hh⟩
     obtain⟨l,hl,g1,_⟩:=nr J;rw[g1];exact λe=>hxi (H2.store.inj b2 b z _ l' l hz hb1 hl' hl e)
     exact H2.nest.sep _ _ _ _ _ _ _ _ _ hh hz hl'
    exact h.elim
   exact h.elim
 exact h.elim
include hT H hlk hid in
theorem akf {args:Array Operand}{ts:Array TypeId}{t u:TypeId}{tl:List TypeId}{b r m c:Nat}(ho:o.op=.call { callee:=.builtin .append,args:=args,argTypes:=ts })(he:evA T ps args.toList=[.os b r m,.os c 0 1])(ht:ts.toList=t::u::tl)
  (h:alN T (kK.lM P T) t u b r m c lk id K):rH P C o a w σ ps st n id K:=by
 have hargs:=yL H args.toList;unfold alN at h;generalize hvs:args.toList.map a.eval=vs at hargs;rw[he] at hargs;obtain⟨sv,xv,rfl,hs,hx⟩:=SK hargs;have ht':=VE ht;subst ht'
 split at h
 ·rename_i a1 s1 z1 p1 esz bytes z a2 s2 z2 p2 k1 k2 k3 e1 e2;obtain⟨U,hu,rfl,rfl,hz⟩:=nZ hT e1;obtain⟨eu,hu2,_⟩:=nZ hT e2
  split at h
  ·rename_i sz rows sz' row hbk hck
   cases hb:(lZ (P.cellsOf U)&&Nat.beq (pX z) (P.cellsOf U)&&Nat.beq sz (P.cellsOf U)&&Nat.beq sz' (P.cellsOf U)&&(bif Nat.beq b c then false else bif Nat.beq b id then false else bif Nat.beq c id then false else true)) with
   | false=>rw[hb] at h;exact h.elim
   | true =>
    rw[hb] at h;simp only[cond_true] at h;rw[Bool.and_eq_true,Bool.and_eq_true,Bool.and_eq_true,Bool.and_eq_true,pg] at hb;obtain⟨⟨⟨⟨hb1,hb2⟩,hb3⟩,hb4⟩,g⟩:=hb;have hinf:=ni hb1;have hzl:=Nat.eq_of_beq_eq_true hb2;have hsz:=Nat.eq_of_beq_eq_true hb3;have hsz':=Nat.eq_of_beq_eq_true hb4;subst hsz hsz'
    have hne:b≠c/\b≠id/\c≠id:=by
     refine⟨λe=>?_,λe=>?_,λe=>?_⟩
     subst e;rw[Nat.beq_refl] at g;cases g
     subst e;rw[Nat.beq_refl] at g;cases hq:Nat.beq b c<;>rw[hq] at g<;>cases g
     subst e;rw[Nat.beq_refl] at g;cases hq:Nat.beq b c<;>rw[hq] at g<;>(first|cases g|(cases hq2:Nat.beq b c<;>simp_all))
    have hpos:0<P.cellsOf U:=by
     rcases Nat.eq_zero_or_pos (P.cellsOf U) with h0|h0
     rw[h0] at hb1;simp[lZ] at hb1
     exact h0
    cases hi:P.info? U with
    | none=>exact absurd hi hinf
    | some inf =>
    have hbe:=Q8 hi;obtain⟨g1,g2,h⟩:=h;have g1:(2*(m+1)+192)*P.bytesOf U<=140737488355328:=g1;have g2:m+1<=4611686018427387904:=g2;have h:K (.os id 0 (m+1)) [(b,none),(c,none),(id,some (.pU (P.cellsOf U) ((rows.drop r).take m++[row])))]:=h;have hst:=hlk _ _ hbk;have hsc:=hlk _ _ hck
    obtain⟨lc,capc,hlc,rfl,_,_,_⟩:∃ l cap,σ c=some l/\xv=.slice (some ⟨l.cb,l.co+0*l.sz,none⟩) 1 cap/\1<=cap/\l.co+0*l.sz+cap*l.sz=l.tot/\0+1<=l.nr:=by
     unfold Rep at hx;rcases hx with ⟨l,cap,h1,h2,h3,h4,h5⟩|⟨h0,_⟩
     exact⟨l,cap,h1,h2,h3,h4,h5⟩
     cases h0
    have hBc:jH w Y σ lc (.pU (P.cellsOf U) [row]):=jH.Hq H hlk hck hlc;unfold jH at hBc;obtain⟨_,_,_,_,hrowc,_⟩:=hBc;obtain⟨vs,⟨v1,hone⟩,v2,htr⟩:=hrowc.vals
    have hvs2:vs.length=1*P.cellsOf U/\(vs=[]\/∃ b o,some (⟨lc.cb,lc.co+0*lc.sz,none⟩:Addr)=some ⟨b,o,none⟩/\∀ i v,vs[i]?=some v->w.cell? ⟨b,o+i,none⟩=some v) :=
     ⟨by simpa using v1,.inr ⟨lc.cb,lc.co+0*lc.sz,rfl,by simpa using v2⟩⟩
    have look:∀ (x:mJ) d y,kR (rW (rW (rW st b none) c none) id (some x)) d=some y->(d=id/\y=x)\/(d≠id/\d≠b/\d≠c/\kR st d=some y):=by
     intro x d y hy;rw[kC] at hy
     by_cases h1:id=d
     rw[if_pos h1] at hy;cases hy;exact .inl ⟨h1.symm,rfl⟩
     rw[if_neg h1,kC] at hy
     by_cases h2:c=d
     rw[if_pos h2] at hy;cases hy
     rw[if_neg h2,kC] at hy
     by_cases h3:b=d
     rw[if_pos h3] at hy;cases hy
     rw[if_neg h3] at hy;exact .inr ⟨λe=>h1 e.symm,λe=>h3 e.symm,λe=>h2 e.symm,hy⟩
    let R:Nat->Nat->Nat->Nat->Prop:=λd k d0 k0=>(d=id/\d0=b/\k0=r+k/\k<((rows.drop r).take m).length)\/(d=id/\d0=c/\k0=0/\k=((rows.drop r).take m).length)\/(d≠id/\d≠b/\d≠c/\d0=d/\k0=k)
    have hRi:∀ d k d' k' d0 k0,R d k d0 k0->R d' k' d0 k0->d=d'/\k=k':=by
     intro d k d' k' d0 k0 h1 h2;have hn1:=hne.1;rcases h1 with ⟨a1,a2,a3,a4⟩|⟨a1,a2,a3,a4⟩|⟨a1,a2,a3,a4,a5⟩<;>rcases h2 with ⟨c1,c2,c3,c4⟩|⟨c1,c2,c3,c4⟩|⟨c1,c2,c3,c4,c5⟩<;>first|(exact⟨by omega,by omega⟩)|(exfalso;omega)
    have hRo:∀ d k j h' s2 es,pY (rW (rW (rW st b none) c none) id (some (.pU (P.cellsOf U) ((rows.drop r).take m++[row])))) d k j h' s2 es->∃ d0 k0,pY st d0 k0 j h' s2 es/\R d k d0 k0:=by
     rintro d k j h' s2 es ⟨sz0,rs,rw0,q1,q2,q3,q4⟩
     rcases look _ _ _ q1 with ⟨e0,e5⟩|⟨e1,e2,e3,e4⟩
     cases e5
     by_cases hk:k<((rows.drop r).take m).length
     rw[List.getElem?_append_left hk] at q2;refine⟨b,r+k,⟨_,rows,rw0,hst,?_,q3,q4⟩,.inl ⟨e0,rfl,rfl,hk⟩⟩;rw[List.getElem?_take,List.getElem?_drop] at q2
     split at q2
     exact q2
     cases q2
     rw[List.getElem?_append_right ai] at q2
     have hk2:k=((rows.drop r).take m).length:=by
      by_cases hh:k-((rows.drop r).take m).length=0
      omega
      obtain⟨i,hi2⟩:∃ i,k-((rows.drop r).take m).length=i+1:=⟨_,(Nat.succ_pred_eq_of_ne_zero hh).symm⟩;rw[hi2] at q2;simp at q2
     refine⟨c,0,⟨_,[row],rw0,hsc,?_,q3,q4⟩,.inr (.inl ⟨e0,rfl,rfl,hk2⟩)⟩;rw[hk2] at q2;simpa using q2
     exact⟨d,k,⟨sz0,rs,rw0,e4,q2,q3,q4⟩,.inr (.inr ⟨e1,e2,e3,rfl,rfl⟩)⟩
    have hml' : ((rows.drop r).take m++[row]).length=((rows.drop r).take m).length+1:=by simp
    obtain⟨J,hlb,hB⟩:∃ l,σ b=some l/\jH w Y σ l (.pU (P.cellsOf U) rows):=by
     rcases H.store.blk b _ hst with hh|⟨_,_,_,e0⟩
     exact hh
     cases e0
    have hB' : jH w Y σ J (.arr false (P.cellsOf U) rows):=by
     unfold jH at hB |-;exact⟨hB.1,hB.2.1,hB.2.2.1,hB.2.2.2.1,hB.2.2.2.2.1,λ_=>hB.2.2.2.2.2,λe=>by cases e⟩
    obtain⟨sx,cap,rfl,hmc,hml,hr⟩:=MM hs (.inl ⟨J,hlb,hB'⟩)
    by_cases I:m+1<=cap
     
    unfold Rep at hs;rcases hs with ⟨l,cap',hl,e,_,htot,hnr⟩|⟨rfl,sx',e⟩
    cases e;rw[hlb] at hl;cases hl;unfold jH at hB;obtain⟨⟨arr,tyb,ha,has⟩,hlsz,_,⟨hle,hlnr⟩,hrows,hm⟩:=hB;rw[hlsz] at htot
    have hbnd:J.co+r*P.cellsOf U+(m+1)*P.cellsOf U<=arr.size:=by
     rw[has,<- htot];have:=Nat.mul_le_mul_right (P.cellsOf U) I;omega
    obtain⟨w',hrun,W⟩:=xN (P:=P) (o:=J.co+r*P.cellsOf U+m*P.cellsOf U) vs 0 w arr ha (by rw[hvs2.1];rw[Nat.add_mul] at hbnd;omega) hone;have W:Wrote w w' J.cb (J.co+r*P.cellsOf U+m*P.cellsOf U) arr tyb vs:=by simpa using W
    obtain⟨arr',h4,h5,h6⟩:=W.blk
    obtain⟨σ',H',hid',hoff⟩:=H.ahD hid (x':=.arr false (P.cellsOf U) ((rows.drop r).take m++[row])) (l':=⟨J.cb,J.co+r*P.cellsOf U,P.cellsOf U,J.tot,m+1⟩) hst (λ_ _ e=>by cases e) hlb hm rfl W.os W.tape W.output W.size W.other (by
     intro σ' _ hk;unfold jH;refine⟨⟨arr',tyb,h4,by rw[h5,has]⟩,rfl,hpos,⟨by rw[hml',<- hml];show J.co+r*P.cellsOf U+(m+1)*P.cellsOf U<=J.tot;omega,by rw[hml',<- hml]⟩,?_,λ_=>hm,λh=>by cases h⟩;refine lV.app _ _ _ ?_ ?_
     obtain⟨us,⟨u1,_⟩,u2,u3⟩:=((hrows.drop r _ _).take m _ _).vals;refine u3 w' Y kX J.cb _ hk (λi v hv=>?_);have hc:=u2 i v hv;rw[cell_of_block ha] at hc
     have hilt:i<us.length:=by
      by_cases hh:i<us.length
      exact hh
      rw[List.getElem?_eq_none (Nat.le_of_not_lt hh)] at hv;cases hv
     rw[u1,<- hml] at hilt;show w'.cell? ⟨J.cb,J.co+r*P.cellsOf U+i,none⟩=some v;rw[cell_of_block h4,h6,if_neg ai];exact hc
     refine htr w' Y kX J.cb _ hk (λi v hv=>?_)
     have hilt:i<vs.length:=by
      by_cases hh:i<vs.length
      exact hh
      rw[List.getElem?_eq_none (Nat.le_of_not_lt hh)] at hv;cases hv
     show w'.cell? ⟨J.cb,J.co+r*P.cellsOf U+((rows.drop r).take m).length*P.cellsOf U+i,none⟩=some v;rw[<- hml,cell_of_block h4,h6,if_pos ai];rw[show J.co+r*P.cellsOf U+m*P.cellsOf U+i-(J.co+r*P.cellsOf U+m*P.cellsOf U)=i by omega];exact hv)
    have H2:SW C w' Y σ' ps a.tmps.toList (rW (rW (rW st b none) c none) id (some (.pU (P.cellsOf U) ((rows.drop r).take m++[row])))) (max n (id+1)):=by
     have K0:Keep w w' Y Y kX kX:=⟨λk _ hy=>W.other k (λe=>hy (e ▸ hm)),λ_ _ h=>h,Nat.le_of_eq W.size.symm,qI.refl _⟩;have notl:∀ {b' r' c' h' sz2 es'},pY st b' r' c' h' sz2 es'->h'.ν≠J.cb:=λhh=>(H.nest.sep _ _ _ _ _ _ _ _ _ hh hst hlb).symm;refine H'.retag (λd x hx=>?_) (H.nest.re R hRo hRi (λ_ _ _ _ _ _ hh hN=>hN.keep K0 (W.other _ (notl hh)) (λh=>h)) λd k j h' s2 es d' x l' hh hx hl'=>?_)
     rcases look _ _ _ hx with ⟨rfl,rfl⟩|⟨e1,e2,e3,e4⟩
     exact⟨_,by rw[kC,if_pos rfl],.inr ⟨_,_,_,rfl,rfl,hid'⟩⟩
     exact⟨x,by rw[kC,if_neg (λe=>e1 e.symm),kC,if_neg (λe=>e2 e.symm)];exact e4,.inl rfl⟩
     rcases look _ _ _ hx with ⟨rfl,rfl⟩|⟨e1,e2,e3,e4⟩
     rw[hid'] at hl';cases hl';show J.cb≠_;exact H.nest.sep _ _ _ _ _ _ _ _ J hh hst hlb
     exact H.nest.sep _ _ _ _ _ _ _ _ _ hh e4 (by rw[<- hoff d' e1];exact hl')
    refine wo ho (δ:=_) (cv:=.slice (some ⟨J.cb,J.co+r*J.sz,none⟩) (m+1) cap) (w':=w') (Y':=Y) (σ':=σ') (λty cs=>?_) (by simp only[lh,uk];exact H2) ?_ hoff h
    rw[hvs];have:=SL (P:=P) (w:=w) (ts:=tl) (ty:=ty) (x:=some ⟨J.cb,J.co+r*J.sz,none⟩) (sl:=m) (sc:=cap) (yc:=capc) (w':=w') hu hu2 hinf hvs2 I (λb o e=>by cases e;rw[hlsz];exact hrun) (λh=>by cases h) (λa h=>by cases h;rfl);simp only[builtin,Sem.run_bind];rw[this];rfl
    unfold Rep;refine .inl ⟨_,cap,hid',?_,I,?_,?_⟩
    rw[hlsz];simp
    simp;omega
    show 0+(m+1)<=m+1;omega
    cases e;omega
     
    have hold:∃ us:List Value,(us.length=m*P.cellsOf U/\(us=[]\/∃ b o,sx=some ⟨b,o,none⟩/\∀ i v,us[i]?=some v->w.cell? ⟨b,o+i,none⟩=some v)) /\
      (∀ (w' : World) (Y' : Nat->Prop) (b' o' : Nat),(∀ p v,Rep w Y kX p v->Rep w' Y' kX p v)->(∀ i v,us[i]?=some v->w'.cell? ⟨b',o'+i,none⟩=some v)->lV w' Y' kX b' (P.cellsOf U) ((rows.drop r).take m) o'):=by
     rcases hr with hr|⟨b',o',e,_,_,hr⟩
     rw[hr] at hml |-;refine⟨[],⟨by rw[hml];simp,.inl rfl⟩,λ_ _ _ _ _ _=>by simp[lV]⟩
     obtain⟨us,⟨u1,_⟩,u2,u3⟩:=hr.vals;exact⟨us,⟨by rw[u1,<- hml],.inr ⟨b',o',e,u2⟩⟩,λw' Y' b' o' hk hc=>u3 w' Y' kX b' o' hk hc⟩
    obtain⟨us,hus,hutr⟩:=hold
    obtain⟨cv,w',Y',σ',hrun,H',hrep,hoff⟩:=Q9 (P:=P) (a:=a) (ty:=0) (x:=sx) (sc:=cap) (us:=us) (vs:=vs) (old:=(rows.drop r).take m) (new:=[row]) (ts:=tl) (yc:=capc) H hid hu hu2 hi hz.symm hpos hzl (sl:=m) hus hvs2 hml rfl
     (λw' Y' b' hk hc=>by
      refine lV.app _ _ _ (hutr w' Y' b' 0 hk (λi v hv=>hc i v ?_)) (htr w' Y' kX b' _ hk (λi v hv=>?_))
      rw[List.getElem?_append_left]
      exact hv
      by_cases hh:i<us.length
      exact hh
      rw[List.getElem?_eq_none (Nat.le_of_not_lt hh)] at hv;cases hv
      have:=hc (us.length+i) v eF;rw[hus.1] at this;rw[<- hml];simpa using this) I (by rw[hbe] at g1;exact g1) g2
    have hidl:∃ l,σ' id=some l:=by
     unfold Rep at hrep;rcases hrep with ⟨l,_,hl,_⟩|⟨h0,_⟩
     exact⟨l,hl⟩
     simp at h0
    obtain⟨lid,hlid⟩:=hidl
    have up:∀ {d k j h' s2 es},pY st d k j h' s2 es->pY (rW st id (some (.arr false (P.cellsOf U) ((rows.drop r).take m++[row])))) d k j h' s2 es\/d=id:=by
     rintro d k j h' s2 es ⟨sz0,rs,rw0,q1,q2⟩
     by_cases hd:d=id
     exact .inr hd
     exact .inl ⟨sz0,rs,rw0,by rw[kC,if_neg (λe=>hd e.symm)];exact q1,q2⟩
    have hst1:∀ d x,d≠id->kR st d=some x->kR (rW st id (some (.arr false (P.cellsOf U) ((rows.drop r).take m++[row])))) d=some x:=λd x hd hx=>by rw[kC,if_neg (λe=>hd e.symm)];exact hx
    have hRo' : ∀ d k j h' s2 es,pY (rW (rW (rW st b none) c none) id (some (.pU (P.cellsOf U) ((rows.drop r).take m++[row])))) d k j h' s2 es->∃ d0 k0,pY (rW st id (some (.arr false (P.cellsOf U) ((rows.drop r).take m++[row])))) d0 k0 j h' s2 es/\R d k d0 k0:=by
     intro d k j h' s2 es hh;obtain⟨d0,k0,q1,q2⟩:=hRo _ _ _ _ _ _ hh;refine⟨d0,k0,(up q1).resolve_right λe=>?_,q2⟩;rcases q2 with ⟨_,q,_⟩|⟨_,q,_⟩|⟨q0,_,_,q,_⟩
     exact hne.2.1 (q ▸ e)
     exact hne.2.2 (q ▸ e)
     exact q0 (q ▸ e)
    have H2:SW C w' Y' σ' ps a.tmps.toList (rW (rW (rW st b none) c none) id (some (.pU (P.cellsOf U) ((rows.drop r).take m++[row])))) (max n (id+1)):=by
     refine H'.retag (λd x hx=>?_) (H'.nest.re R hRo' hRi (λ_ _ _ _ _ _ _ hN=>hN) λd k j h' s2 es d' x l' hh hx hl'=>?_)
     rcases look _ _ _ hx with ⟨rfl,rfl⟩|⟨e1,e2,e3,e4⟩
     exact⟨_,by rw[kC,if_pos rfl],.inr ⟨_,_,lid,rfl,rfl,hlid⟩⟩
     exact⟨x,hst1 _ _ e1 e4,.inl rfl⟩
     rcases look _ _ _ hx with ⟨rfl,rfl⟩|⟨e1,e2,e3,e4⟩
     exact H'.nest.sep _ _ _ _ _ _ _ _ _ hh (by rw[kC,if_pos rfl]) hl'
     exact H'.nest.sep _ _ _ _ _ _ _ _ _ hh (hst1 _ _ e1 e4) hl'
    refine wo ho (δ:=_) (cv:=cv) (w':=w') (Y':=Y') (σ':=σ') (λty' cs=>?_) (by simp only[lh,uk];exact H2) (by rw[<- hml] at hrep;exact hrep) hoff h;rw[hvs];simp only[builtin,Sem.run_bind];have:Builtin.append_ (t::u::tl).toArray ty' [Value.slice sx m cap,Value.slice (some ⟨lc.cb,lc.co+0*lc.sz,none⟩) 1 capc].toArray=Builtin.append_ (t::u::tl).toArray 0 #[Value.slice sx m cap,Value.slice (some ⟨lc.cb,lc.co+0*lc.sz,none⟩) [row].length capc]:=rfl
    erw [this,hrun]
    rfl
  exact h.elim
 exact h.elim
end
end Go.Pv
namespace Go.Pv
open Go
structure I4 (P:Program):Prop where
 und:QP P
 flds:∀ t fs,t<P.types.size->P.underlying t=some (.struct fs)->∀ f∈fs.toList,P.info? f.type≠none
 elem:∀ t k e,t<P.types.size->P.underlying t=some (.array k e)->P.info? e≠none
 mixed:P.follows .mixedOrders=true
theorem acb {T:Tab}{S:kK}{t:TypeId}{parts:Array (Nat×Operand)}{ps:List PV}{lk:Nat->Option mJ}{id:Nat}{K:PV->Dl->Prop}(h:nK T S (.build t parts) ps lk id K):(T t).ok=true:=by
 simp only[nK] at h
 split at h
 rename_i e;rw[e]
 rename_i e;rw[e]
 exact h.elim
section
variable {P:Program}{T:Tab}(hT:lW P T)(hW:I4 P){C:Ctx T}{o:Oper}{a:Act}{w:World}{Y:Nat->Prop}{σ:Sg}{ps:List PV}{st:St}{n id:Nat}{K:PV->Dl->Prop}{lk:Nat->Option mJ}
 (H:SW C w Y σ ps a.tmps.toList st n) (hlk:∀ b x,lk b=some x->kR st b=some x) (hid:σ id=none/\T.vY<=id)
include hT hW H hlk hid in
theorem Ba (h:nK T (kK.lM P T) o.op ps lk id K):rH P C o a w σ ps st n id K:=by
 cases ho:o.op with
 | move x=>rw[ho] at h;exact aj1 H ho h
 | assign x=>rw[ho] at h;exact af1 H ho h
 | pick c x y=>rw[ho] at h;exact aj2 H ho h
 | alloc t=>rw[ho] at h;exact ahv hT H hid ho h
 | box t x=>rw[ho] at h;exact al5 H hid ho h
 | build t parts=>rw[ho] at h;exact ahA hT H ho (λU hu=>hW.flds t U (hT t (acb h)).2 hu) (λk e hu=>hW.elem t k e (hT t (acb h)).2 hu) h
 | buildSlice t len parts=>rw[ho] at h;exact YJ hT H hlk hid ho h
 | load t x=>rw[ho] at h;exact aj7 hT H hlk ho h
 | store t x y=>rw[ho] at h;exact ahu hT H hlk hid ho h
 | nilCheck x=>rw[ho] at h;exact abV H ho h
 | binOp op t x y u=>rw[ho] at h;exact ahz hT H hW.und ho h
 | unOp op t x =>
  rw[ho] at h
  cases op with
  | not=>exact ahr H ho h
  | neg=>exact ahs H ho h
  | _=>exact dS
 | convert s d x=>rw[ho] at h;exact adI hT H hlk ho h
 | makeFunc fn first cap =>
  rw[ho] at h
  cases fn with
  | func f=>exact ab1 H ho h
  | _=>exact dS
 | makeSlice t x y=>rw[ho] at h;exact aaF hT H hid ho h
 | slice t x lo hi R=>rw[ho] at h;exact ahC hT H hlk ho hid h
 | fieldAddr t x f=>rw[ho] at h;exact aay hT H ho h
 | field t x f=>rw[ho] at h;exact ahw hT H hW.und ho h
 | indexAddr t x i=>rw[ho] at h;exact aaC hT H hlk ho h
 | index t x i=>rw[ho] at h;exact ahx hT H hW.und ho h
 | extract t i=>rw[ho] at h;exact adD H ho h
 | call c =>
  rw[ho] at h;obtain⟨callee,args,ts⟩:=c
  cases callee with
  | builtin b =>
   cases b with
   | len=>exact al6 hT H ho h
   | min=>exact al7 hT H ho h
   | max=>exact al8 hT H ho h
   | append=>exact af7 hT H hlk hid ho h
   | clear=>exact ahE hT H hlk hid ho h
   | _=>exact dS
  | _=>exact dS
 | _=>rw[ho] at h;exact dS
include hT hW H hlk hid in
theorem akg (h:opN T (kK.lM P T) o.op ps lk id K):rH P C o a w σ ps st n id K:=by
 unfold opN at h
 split at h
 exact Ba hT hW H hlk hid h
 split at h
 rename_i ho
 split at h
 exact ake hT H hlk hid ho h
 exact Ba hT hW H hlk hid gJ
 rename_i ho
 split at h
 rename_i he ht
 split at h
 exact akf hT H hlk hid ho he ht h
 exact Ba hT hW H hlk hid gJ
 exact Ba hT hW H hlk hid gJ
 exact Ba hT hW H hlk hid h
end
theorem jo.rX {w:World}{Y:Nat->Prop}{σ:Sg}{p:PV}:∀ (ps:List PV) (vs:List Value) (t:Nat),jo w Y σ ps vs->Rep w Y σ p (vs.getD t Go.undef)->jo w Y σ (uX ps t p) vs
 | [],vs,t,h,_=>by simpa [uX] using h
 | q::ps,vs,0,h,hp=>by
  unfold jo at h;obtain⟨v,U,rfl,h1,h2⟩:=h;simp only[uX];unfold jo;exact⟨v,U,rfl,by simpa using hp,h2⟩
 | q::ps,vs,t+1,h,hp=>by
  unfold jo at h;obtain⟨v,U,rfl,h1,h2⟩:=h;simp only[uX];unfold jo;exact⟨v,U,rfl,h1,jo.rX ps U t h2 (by simpa using hp)⟩
theorem SW.rX {T:Tab}{C:Ctx T}{w:World}{Y:Nat->Prop}{σ:Sg}{ps:List PV}{vs:List Value}{st:St}{n:Nat}(H:SW C w Y σ ps vs st n){d:Nat}{b:Bool}(hb:kY ps d=.sb b)(c:Bool)(U:b=c):SW C w Y σ (uX ps d (.bool c)) vs st n:=by
 refine (H.uS ?_);refine jo.rX _ _ _ H.vals ?_;have:=H.vals.get _ _ d;rw[hb] at this;rw[OB this,U];simp[Rep]
theorem nX.rX {T:Tab}{C:Ctx T}{E:Env}{a:Act}{w:World}(h:nX C E a w){d:Nat}{b:Bool}(hb:kY E.tmps d=.sb b)(c:Bool)(R:b=c):nX C (rG E (some d) (.bool c)) a w:=by
 obtain⟨⟨Y,σ,H⟩,U⟩:=h;refine⟨⟨Y,σ,(H.uS ?_)⟩,U⟩;refine jo.rX _ _ _ H.vals ?_;have:=H.vals.get _ _ d;rw[hb] at this;rw[OB this,R];simp[Rep]
theorem nX.put {T:Tab}{C:Ctx T}{w:World}{Y:Nat->Prop}{σ:Sg}{a:Act}{ps:List PV}{st:St}{n:Nat}(H:SW C w Y σ ps a.tmps.toList st n)(U:a.defers=[]){v:PV}{cv:Value}(hv:Rep w Y σ v cv)(d:Option Nat) :
  nX C (rG ⟨ps,st,n⟩ d v) (a.put d cv) w:=by
 cases d with
 | none=>exact⟨⟨Y,σ,H⟩,U⟩
 | some d =>
  refine⟨⟨Y,σ,(H.uS ?_)⟩,U⟩;simp only[Act.put,rG,Array.toList_setIfInBounds];exact jo.set hv _ _ _ H.vals
def OpT (P:Program)(T:Tab)(o:Oper)(E:Env)(K:Env->Prop):Prop :=
 ∀ (C:Ctx T) a w,nX C E a w->∀ next Q,(∀ E' a' w',nX C E' a' w'->K E'->next a' w')->o.wp P a w next Q
theorem akh {P:Program}{T:Tab}(hT:lW P T)(hW:I4 P){o:Oper}{E:Env}{K:Env->Prop}
  (h:nK T (kK.lM P T) o.op E.tmps (kR E.st) E.next λv δ=>K (rG ⟨E.tmps,lh δ E.st,Di δ E.next⟩ o.dst v)):OpT P T o E K:=by
 intro C a w hA next Q R
 obtain⟨⟨Y,σ,H⟩,I⟩:=hA;obtain⟨v,δ,cv,w',Y',σ',hK,U,J,hv,_⟩:=Ba hT hW H (λ_ _ h=>h) ⟨H.next _ (Nat.le_refl _),H.fix.1⟩ h;have g:uk δ E.next E.next=Di δ E.next:=by cases δ<;>simp[uk,Di]
 rw[g] at J;have:=R _ _ _ (nX.put J I hv o.dst) hK;unfold Oper.wp;rcases U with U|⟨U,rfl⟩
 rw[U];exact this
 rw[U];exact this
theorem aki {P:Program}{T:Tab}(hT:lW P T)(hW:I4 P){o:Oper}{E:Env}{K:Env->Prop}
  (h:opN T (kK.lM P T) o.op E.tmps (kR E.st) E.next λv δ=>K (rG ⟨E.tmps,lh δ E.st,Di δ E.next⟩ o.dst v)):OpT P T o E K:=by
 intro C a w hA next Q R
 obtain⟨⟨Y,σ,H⟩,I⟩:=hA;obtain⟨v,δ,cv,w',Y',σ',hK,U,J,hv,_⟩:=akg hT hW H (λ_ _ h=>h) ⟨H.next _ (Nat.le_refl _),H.fix.1⟩ h;have g:uk δ E.next E.next=Di δ E.next:=by cases δ<;>simp[uk,Di]
 rw[g] at J;have:=R _ _ _ (nX.put J I hv o.dst) hK;unfold Oper.wp;rcases U with U|⟨U,rfl⟩
 rw[U];exact this
 rw[U];exact this
theorem af8 {P:Program}{T:Tab}(hT:lW P T)(hW:I4 P){o:Oper}{E:Env}{K:Env->Prop}(h:ag9 T (kK.lM P T) o E K):OpT P T o E K:=by
 unfold ag9 at h
 split at h
  
 rename_i f args ts ho
 split at h
 rename_i k caps O;intro C a w hA next Q U
 obtain⟨⟨Y,σ,H⟩,hd⟩:=hA;have I:=nM H f;rw[O] at I;unfold Rep at I;obtain⟨cs,ef,hcs⟩:=I;have g:=yL H args.toList;have hall:=jo.app _ _ _ _ g hcs;obtain⟨hent,hcall⟩:=OD h C Y σ w a.tmps.toList _ H hall;unfold Oper.wp
 have R:(execOp a.eval o).run P w=.ok (.enter k (args.toList.map a.eval++cs).toArray) w:=by
  have hmap:args.map a.eval=(args.toList.map a.eval).toArray:=by apply Array.ext';simp
  simp only[execOp,ho,resolve,ef,Deferred.ofValue,Sem.run_bind,Sem.run_pure,Result.andThen,invoke,hmap];have:(#[]++(args.toList.map a.eval).toArray++cs.toArray)=(args.toList.map a.eval++cs).toArray:=by apply Array.ext';simp
  rw[this];exact hent
 rw[R];refine Calls.mono hcall λe w' hh=>?_;obtain⟨cv,v,E',Y',σ',rfl,hK,H',hv⟩:=hh;exact U _ _ _ (nX.put H' hd hv o.dst) hK
 exact h.elim
 split at h
 rename_i c x y ho
 split at h
 rename_i t hc;obtain⟨ht,O⟩:=h;intro C a w hA next Q U
 obtain⟨⟨Y,σ,H⟩,hd⟩:=hA;have J:=H.vals.get _ _ c;rw[hc] at J;have J:=OB J
 have hcv' : a.eval (.tmp c)=.bool t:=by
  rw[<- J];simp[Act.eval,Array.getD_eq_getD_getElem?,List.getD_eq_getElem?_getD]
 have R:(execOp a.eval o).run P w=.ok (.value (if t then a.eval x else a.eval y)) w:=by
  simp[execOp,ho,hcv',asBool]
 unfold Oper.wp;rw[R]
 cases t with
 | true=>exact U _ _ _ (nX.put (H.rX hc true rfl) hd (v:=tK T E.tmps x) (nM H x) o.dst) (ht rfl)
 | false=>exact U _ _ _ (nX.put (H.rX hc false rfl) hd (v:=tK T E.tmps y) (nM H y) o.dst) (O rfl)
 exact akh hT hW gJ
 exact aki hT hW h
theorem Xt {P:Program}{T:Tab}{all:Array Oper}{o:Oper}{E:Env}{run skip:Env->Prop}(h:gd (kK.lM P T) all o.guard E run skip){T:Tab}{C:Ctx T}{a:Act}{w:World}(hA:nX C E a w) :
  ∃ E',nX C E' a w/\((Region.wanted o (yielded all a.tmps)=true/\run E')\/(Region.wanted o (yielded all a.tmps)=false/\skip E')):=by
 unfold gd at h
 split at h
 rename_i hg;exact⟨E,hA,.inl ⟨by simp[Region.wanted,hg],h⟩⟩
 rename_i j want hg
 split at h
 rename_i oj hj
 split at h
 rename_i d hd
 have J:∀ b,a.tmps.toList.getD d Go.undef=.bool b->yielded all a.tmps j=some b:=by
  intro b hb;rw[List.getD_eq_getElem?_getD] at hb;unfold yielded;simp only[hj,Option.bind_some,hd]
  cases hx:a.tmps[d]? with
  | none=>rw[Array.getElem?_toList,hx] at hb;cases hb
  | some v=>rw[Array.getElem?_toList,hx] at hb;simp at hb;subst hb;rfl
 have I:a.tmps.toList.getD d Go.undef=Go.undef->yielded all a.tmps j=none:=by
  intro hb;rw[List.getD_eq_getElem?_getD] at hb;unfold yielded;simp only[hj,Option.bind_some,hd]
  cases hx:a.tmps[d]? with
  | none=>rfl
  | some v=>rw[Array.getElem?_toList,hx] at hb;simp at hb;subst hb;rfl
 have R:∀ b,yielded all a.tmps j=some b->Region.wanted o (yielded all a.tmps)=(b==want):=by
  intro b hb;simp[Region.wanted,hg,hb]
 have hA':=hA;obtain⟨⟨Y,σ,H⟩,hdef⟩:=hA';have U:=H.vals.get _ _ d
 split at h
 rename_i e;rw[e] at U;have hw:=R true (J true (wK U));refine⟨E,hA,?_⟩;rw[hw]
 cases want with
 | true=>exact .inl ⟨rfl,h⟩
 | false=>exact .inr ⟨rfl,h⟩
 rename_i e;rw[e] at U;have hw:=R false (J false (wK U));refine⟨E,hA,?_⟩;rw[hw]
 cases want with
 | true=>exact .inr ⟨rfl,h⟩
 | false=>exact .inl ⟨rfl,h⟩
 rename_i b e;have g:=U;rw[e] at g;have hw:=R b (J b (OB g));obtain⟨h1,h2⟩:=h;refine⟨rG E (some d) (.bool b),⟨⟨Y,σ,H.rX e b rfl⟩,hdef⟩,?_⟩;rw[hw]
 cases b with
 | true =>
  have h1:=h1 rfl
  cases want with
  | true=>exact .inl ⟨rfl,h1⟩
  | false=>exact .inr ⟨rfl,h1⟩
 | false =>
  have h2:=h2 rfl
  cases want with
  | true=>exact .inr ⟨rfl,h2⟩
  | false=>exact .inl ⟨rfl,h2⟩
 rename_i e;rw[e] at U;have hy:=I (by unfold Rep at U;exact U);exact⟨E,hA,.inr ⟨by simp[Region.wanted,hg,hy],h⟩⟩
 exact h.elim
 exact h.elim
 exact h.elim
theorem Rh {P:Program}{T:Tab}(hT:lW P T)(hW:I4 P){all:Array Oper}{Q:Exit->Act->World->Prop}{C:Ctx T}:∀ (l:List Oper) (E:Env) (K:Env->Prop),opsE T (kK.lM P T) all l E K ->
  ∀ a w,nX C E a w->(∀ I a' w',nX C I a' w'->K I->Q .normal a' w')->wpList P all Q l a w
 | [],E,K,h,a,w,hA,hQ=>hQ E a w hA h
 | o::l,E,K,h,a,w,hA,hQ=>by
  simp only[opsE] at h;obtain⟨I,U,hh⟩:=Xt h hA;unfold wpList;rcases hh with ⟨R,hh⟩|⟨R,hh⟩
  rw[if_pos R];refine .inl (af8 hT hW hh C a w U _ _ λE2 a2 w2 J g=>?_);exact Rh hT hW l E2 K g a2 w2 J hQ
  rw[if_neg (by rw[R];simp)];obtain⟨⟨Y,σ,H⟩,hd⟩:=U;exact Rh hT hW l _ K hh _ w (nX.put H hd (v:=.undef) (cv:=Go.undef) bF o.dst) hQ
end Go.Pv
namespace Go.Pv
open Go
theorem GN {T:Tab}{ps qs:List PV}:∀ (l:List Operand),(∀ x∈l,tK T ps x=tK T qs x)->evA T ps l=evA T qs l
 | [],_=>rfl
 | x::l,h=>by simp only[evA];rw[h x aI,GN l λy hy=>h y (by simp[hy])]
theorem Qq {T:Tab}{ps qs:List PV}:∀ (l:List (Nat×Operand)),(∀ x∈l,tK T ps x.2=tK T qs x.2)->evP T ps l=evP T qs l
 | [],_=>rfl
 | (i,x)::l,h=>by simp only[evP];rw[h (i,x) aI,Qq l λy hy=>h y (by simp[hy])]
theorem UI {T:Tab}{ps qs:List PV}(l:Option Operand)(h:∀ x,l=some x->tK T ps x=tK T qs x):evO T ps l=evO T qs l:=by
 cases l with
 | none=>rfl
 | some x=>simp only[evO];rw[h x rfl]
theorem Qr {T:Tab}{S:kK}{o:Op}{ps qs:List PV}{lk:Nat->Option mJ}{id:Nat}{K:PV->Dl->Prop}(h:∀ x∈o.operands,tK T ps x=tK T qs x) :
  nK T S o ps lk id K=nK T S o qs lk id K:=by
 cases o
 case build t parts =>
  have:=Qq (ps:=ps) (qs:=qs) parts.toList λx hx=>h x.2 cZ;simp only[nK,this]
 case buildSlice t len parts =>
  have:=Qq (ps:=ps) (qs:=qs) parts.toList λx hx=>h x.2 cZ;simp only[nK,this]
 case makeFunc fn first cap =>
  cases fn
  case func f =>
   have:=GN (ps:=ps) (qs:=qs) cap.toList λx hx=>h x (by simp only[Op.operands,Array.mem_append];exact .inr (by simpa using hx));simp only[nK,this]
  all_goals simp only[nK]
 case slice t x lo hi mx =>
  have h0:=h x fH;have h1:=UI (ps:=ps) (qs:=qs) lo λy hy=>h y fV;have h2:=UI (ps:=ps) (qs:=qs) hi λy hy=>h y fV;have U:=UI (ps:=ps) (qs:=qs) mx λy hy=>h y fV;simp only[nK,h0,h1,h2,U]
 case call c =>
  obtain⟨callee,args,ts⟩:=c;cases callee
  case builtin b =>
   have:=GN (ps:=ps) (qs:=qs) args.toList λx hx=>h x (by simp only[Op.operands,Call.operands];simpa using hx);simp only[nK,this]
  all_goals simp only[nK]
 case unOp op t x =>
  have h0:=h x fH;cases op<;>simp only[nK,h0]
 all_goals (simp only[Op.operands,List.mem_toArray,List.mem_cons,List.not_mem_nil,or_false,forall_eq_or_imp,forall_eq] at h;simp only[nK,h])
theorem IW {b:Bool}{p:Prop}:(bif b then p else False)=(b=true/\p):=by cases b<;>simp
theorem Af {agg:Bool}{size:Nat}{row:List PV}{c:Nat}{K:PV->Prop}(h:loadRow agg size row c K):∃ v,K v/\∀ U : PV->Prop,U v->loadRow agg size row c U:=by
 unfold loadRow at h |-;cases agg<;>simp only[cond_true,cond_false,IW] at h |-
 all_goals exact⟨_,h.2,λU hk=>⟨h.1,hk⟩⟩
theorem ahH {P:Program}{T:Tab}{op:BinOp}{t:TypeId}{x y:PV}{K:PV->Prop}(h:AV T (kK.lM P T) op t x y K):∃ v,K v/\∀ U : PV->Prop,U v->AV T (kK.lM P T) op t x y U:=by
 have spec:∀ {k R : IntKind} {a b:Int},Si (kK.lM P T) op k a R b K->∃ v,K v/\∀ U : PV->Prop,U v->Si (kK.lM P T) op k a R b U:=by
  intro k R a b h;cases op<;>simp only[Si,IW,kK.lM] at h |-
  case shl=>exact⟨_,h.2,λU hk=>⟨h.1,hk⟩⟩
  case shr=>exact⟨_,h.2,λU hk=>⟨h.1,hk⟩⟩
  case quo=>exact⟨_,h.2.2,λU hk=>⟨h.1,h.2.1,hk⟩⟩
  case rem=>exact⟨_,h.2.2,λU hk=>⟨h.1,h.2.1,hk⟩⟩
 have J:∀ {b:Bool},eqK (kK.lM P T) op b K->∃ v,K v/\∀ U : PV->Prop,U v->eqK (kK.lM P T) op b U:=by
  intro b h;unfold eqK at h |-;cases h1:Dh op<;>simp only[h1,cond_true,cond_false] at h |-
  cases h2:I8 op<;>simp only[h2,cond_true,cond_false] at h |-
  exact⟨_,h,λU hk=>hk⟩
  exact⟨_,h,λU hk=>hk⟩
 have eql:∀ {b:Bool},eqL op b K->∃ v,K v/\∀ U : PV->Prop,U v->eqL op b U:=by
  intro b h;unfold eqL at h |-;cases h1:Dh op<;>simp only[h1,cond_true,cond_false] at h |-
  cases h2:I8 op<;>simp only[h2,cond_true,cond_false] at h |-
  cases b<;>exact⟨_,h,λU hk=>hk⟩
  exact⟨_,h,λU hk=>hk⟩
 have ints:∀ {k R : IntKind} {a b:Int} {v u:PV},(bif isSpec op then Si (kK.lM P T) op k a R b K
   else bif sW k R then (bif qF op then K v else bif zq op then K u else False) else False) ->
   ∃ r,K r/\∀ U : PV->Prop,U r->(bif isSpec op then Si (kK.lM P T) op k a R b U
   else bif sW k R then (bif qF op then U v else bif zq op then U u else False) else False):=by
  intro k R a b v u h;cases h1:isSpec op<;>simp only[h1,cond_true,cond_false] at h |-
  cases h2:sW k R<;>simp only[h2,cond_true,cond_false] at h |-
  cases I:qF op<;>simp only[I,cond_true,cond_false] at h |-
  cases C:zq op<;>simp only[C,cond_true,cond_false] at h |-
  exact⟨_,h,λU hk=>hk⟩
  exact⟨_,h,λU hk=>hk⟩
  exact spec h
 unfold AV at h |-
 split at h
 exact ints h
 cases h1:isAdd op<;>simp only[h1,cond_true,cond_false] at h |-
 cases h2:zq op<;>simp only[h2,cond_true,cond_false] at h |-
 exact⟨_,h,λU hk=>hk⟩
 simp only[kK.lM] at h |-;exact⟨_,h.2,λU hk=>⟨h.1,hk⟩⟩
 split at h
 split at h
 exact J h
 exact h.elim
 exact h.elim
 split at h
 exact ints h
 split at h
 split at h
 exact J h
 exact h.elim
 split at h
 cases h1:(qN x&&qN y)<;>simp only[h1,cond_true,cond_false] at h |-
 cases h2:((qN x&&A8 y) || (A8 x&&qN y))<;>simp only[h2,cond_true,cond_false] at h |-
 exact eql h
 exact eql h
 exact h.elim
theorem Wu {c:Prop}{K:PV->Dl->Prop}{F:(PV->Dl->Prop)->Prop}(h0:c)(h:∃ v δ,K v δ/\∀ U : PV->Dl->Prop,U v δ->F U):∃ v δ,K v δ/\∀ U : PV->Dl->Prop,U v δ->c/\F U:=by
 obtain⟨v,δ,h1,h2⟩:=h;exact⟨v,δ,h1,λU hk=>⟨h0,h2 U hk⟩⟩
theorem ae9 {P:Program}{T:Tab}{o:Op}{ps:List PV}{lk:Nat->Option mJ}{id:Nat}{K:PV->Dl->Prop}(hq:isQ o=true)(h:nK T (kK.lM P T) o ps lk id K) :
  ∃ v δ,K v δ/\∀ C : PV->Dl->Prop,C v δ->nK T (kK.lM P T) o ps lk id C:=by
 cases o
 case move x=>exact⟨_,_,h,λ_ hk=>hk⟩
 case assign x=>exact⟨_,_,h,λ_ hk=>hk⟩
 case pick c a b =>
  simp only[nK] at h |-
  split at h
  exact⟨_,_,h,λ_ hk=>hk⟩
  exact⟨_,_,h,λ_ hk=>hk⟩
  exact h.elim
 case nilCheck x =>
  simp only[nK] at h |-
  split at h
  all_goals first|exact⟨_,_,h,λ_ hk=>hk⟩|exact h.elim
 case extract t i =>
  simp only[nK] at h |-
  split at h
  exact iq
  exact h.elim
 case convert s d x =>
  simp only[nK] at h |-
  split at h
  split at h
  obtain⟨h1,b,h2,U⟩:=h;exact⟨_,_,U,λ_ hk=>⟨h1,b,h2,hk⟩⟩
  exact h.elim
  ·split at h
   all_goals first|exact⟨_,_,h,λ_ hk=>hk⟩|exact h.elim
  exact h.elim
 case makeFunc fn first cap =>
  cases fn
  case func f =>
   simp only[nK] at h |-
   split at h
   all_goals first|exact⟨_,_,h,λ_ hk=>hk⟩|exact h.elim
  all_goals exact dS
 case unOp op t x =>
  cases op
  case not =>
   simp only[nK] at h |-
   split at h
   all_goals first|exact⟨_,_,h,λ_ hk=>hk⟩|exact h.elim
  case neg =>
   simp only[nK] at h |-
   split at h
   all_goals first|exact⟨_,_,h,λ_ hk=>hk⟩|exact h.elim
  all_goals exact dS
 case fieldAddr t x f =>
  simp only[nK] at h |-
  split at h
  split at h
  simp only[IW] at h |-;obtain⟨h0,h⟩:=h
  split at h
  exact⟨_,_,h,λ_ hk=>⟨h0,hk⟩⟩
  exact⟨_,_,h,λ_ hk=>⟨h0,hk⟩⟩
  exact⟨_,_,h,λ_ hk=>⟨h0,hk⟩⟩
  exact⟨_,_,h.2,λ_ hk=>⟨h0,h.1,hk⟩⟩
  exact h.elim
  exact h.elim
  exact h.elim
 case field t x f =>
  simp only[nK] at h |-
  split at h
  split at h
  split at h
  simp only[IW] at h |-;obtain⟨v,h1,h2⟩:=Af h.2;exact⟨v,_,h1,λ_ hk=>⟨h.1,h2 _ hk⟩⟩
  exact h.elim
  exact h.elim
  exact h.elim
 case load t x =>
  simp only[nK] at h |-
  split at h
  split at h
  split at h
  obtain⟨v,h1,h2⟩:=Af h;exact⟨v,_,h1,λ_ hk=>h2 _ hk⟩
  exact h.elim
  split at h
  exact iH
  exact iH
  exact h.elim
  split at h
  simp only[kK.lM,IW] at h |-;obtain⟨row,h0,h⟩:=h
  split at h
  rename_i h' g es he;obtain⟨U,R,er,J,h⟩:=h;obtain⟨v,h1,h2⟩:=Af h;refine⟨v,_,h1,λ_ hk=>⟨row,h0,?_⟩⟩;rw[he];exact⟨U,R,er,J,h2 _ hk⟩
  exact h.elim
  exact h.elim
  obtain⟨v,h1,h2⟩:=Af h;exact⟨v,_,h1,λ_ hk=>h2 _ hk⟩
  exact h.elim
  exact h.elim
 case binOp op t x y u =>
  have I:Sj y=false:=by
   cases I:Sj y with
   | true=>simp only[isQ,I] at hq;cases hq
   | false=>rfl
  simp only[nK] at h |-;rw[I] at h |-;simp only at h |-
  split at h
  obtain⟨v,h1,h2⟩:=ahH h;exact⟨v,_,h1,λ_ hk=>h2 _ hk⟩
  exact h.elim
 case indexAddr t x i =>
  simp only[nK] at h |-
  split at h
  split at h
  simp only[IW] at h |-;obtain⟨h0,j,row,h1,h2,h⟩:=h;exact⟨_,_,h,λ_ hk=>⟨h0,j,row,h1,h2,hk⟩⟩
  split at h
  exact iD
  exact iD
  exact h.elim
  exact iD
  exact h.elim
  simp only[IW] at h |-;obtain⟨h0,h⟩:=h
  split at h
  obtain⟨h1,h⟩:=h
  split at h
  exact⟨_,_,h,λ_ hk=>⟨h0,h1,hk⟩⟩
  exact⟨_,_,h,λ_ hk=>⟨h0,h1,hk⟩⟩
  exact⟨_,_,h.2,λ_ hk=>⟨h0,h1,h.1,hk⟩⟩
  exact h.elim
  obtain⟨j,h1,h2,h⟩:=h
  split at h
  exact⟨_,_,h,λ_ hk=>⟨h0,j,h1,h2,hk⟩⟩
  exact⟨_,_,h,λ_ hk=>⟨h0,j,h1,h2,hk⟩⟩
  exact⟨_,_,h.2,λ_ hk=>⟨h0,j,h1,h2,h.1,hk⟩⟩
  exact h.elim
  exact h.elim
  exact h.elim
 case index t x i =>
  simp only[nK] at h |-
  split at h
  simp only[kK.lM] at h |-;obtain⟨j,c,h1,h2,h⟩:=h;exact⟨_,_,h,λ_ hk=>⟨j,c,h1,h2,hk⟩⟩
  simp only[IW] at h |-;obtain⟨h0,j,h1,h2,h⟩:=h;obtain⟨v,U,R⟩:=Af h;exact⟨v,_,U,λ_ hk=>⟨h0,j,h1,h2,R _ hk⟩⟩
  exact h.elim
 case build t parts =>
  simp only[nK] at h |-
  split at h
  simp only[IW] at h |-;obtain⟨h0,h⟩:=h
  split at h
  exact⟨_,_,h,λ_ hk=>⟨h0,hk⟩⟩
  exact h.elim
  simp only[IW] at h |-;obtain⟨h0,h⟩:=h
  split at h
  exact⟨_,_,h,λ_ hk=>⟨h0,hk⟩⟩
  exact h.elim
  exact h.elim
 case call c =>
  obtain⟨callee,args,ts⟩:=c;cases callee
  case builtin b =>
   simp only[nK] at h |-
   split at h
   split at h
   exact⟨_,_,h,λ_ hk=>hk⟩
   exact h.elim
   split at h
   exact⟨_,_,h,λ_ hk=>hk⟩
   exact h.elim
   split at h
   exact⟨_,_,h,λ_ hk=>hk⟩
   exact h.elim
   split at h
   exact⟨_,_,h,λ_ hk=>hk⟩
   exact h.elim
   split at h
   exact iq
   split at h
   exact iq
   exact h.elim
   split at h
   exact iq
   split at h
   exact iq
   exact h.elim
   exact gK
   exact gK
   exact h.elim
  all_goals exact gK
 case slice t x lo hi mx =>
  simp only[nK] at h |-
  split at h
  all_goals repeat' (first
   | exact h.elim
   | exact⟨_,_,h,λ_ hk=>hk⟩
   | (obtain⟨i,j,h1,h2,U,R,J⟩:=h;exact⟨_,_,J,λ_ hk=>⟨i,j,h1,h2,U,R,hk⟩⟩)
   | (split at h)
   | (simp only[IW] at h |-;refine Wu h.1 ?_;replace h:=h.2)
   | (refine Wu h.1 ?_;replace h:=h.2))
 all_goals exact gK
end Go.Pv
namespace Go.Pv
open Go
def Eqv (p q:PV):Prop:=∀ w Y σ v,Rep w Y σ p v↔Rep w Y σ q v
theorem Eqv.refl (p:PV):Eqv p p:=λ_ _ _ _=>Iff.rfl
theorem Eqv.symm {p q:PV}(h:Eqv p q):Eqv q p:=λw Y σ v=>(h w Y σ v).symm
theorem Eqv.trans {p q r:PV}(h:Eqv p q)(k:Eqv q r):Eqv p r:=λw Y σ v=>(h w Y σ v).trans (k w Y σ v)
theorem Eqv.bool (b:Bool):Eqv (.sb b) (.bool b):=λw Y σ v=>by simp[Rep]
def AX (ps qs:List PV):Prop:=ps.length=qs.length/\∀ t,Eqv (kY ps t) (kY qs t)
theorem AX.refl (ps:List PV):AX ps ps:=⟨rfl,λ_=>Eqv.refl _⟩
theorem AX.trans {ps qs rs:List PV}(h:AX ps qs)(k:AX qs rs):AX ps rs:=⟨h.1.trans k.1,λt=>(h.2 t).trans (k.2 t)⟩
theorem AX.symm {ps qs:List PV}(h:AX ps qs):AX qs ps:=⟨h.1.symm,λt=>(h.2 t).symm⟩
theorem wW (l:List PV)(d t:Nat)(v:PV):kY (uX l d v) t=if d=t/\d<l.length then v else kY l t:=by
 rw[Eh,um,Eh,List.getD_eq_getElem?_getD,List.getD_eq_getElem?_getD,List.getElem?_set]
 by_cases h:d=t
 subst h
 by_cases U:d<l.length
 simp[U]
 simp[U]
 simp[h]
theorem OE (l:List PV)(d:Nat)(v:PV):(uX l d v).length=l.length:=by rw[um];simp
theorem xh {l:List PV}{t:Nat}(h:l.length<=t):kY l t=.undef:=by rw[Eh,List.getD_eq_getElem?_getD,List.getElem?_eq_none h];rfl
theorem jo.eqv {w:World}{Y:Nat->Prop}{σ:Sg}:∀ {ps qs:List PV} {vs:List Value},AX ps qs->jo w Y σ ps vs->jo w Y σ qs vs
 | [],[],vs,_,h=>h
 | [],_::_,_,h,_=>by simp[AX] at h
 | _::_,[],_,h,_=>by simp[AX] at h
 | p::ps,q::qs,vs,h,hr=>by
  unfold jo at hr |-;obtain⟨v,U,e,h1,h2⟩:=hr;refine⟨v,U,e,(h.2 0 _ _ _ _).1 h1,jo.eqv ⟨by simpa using h.1,λt=>h.2 (t+1)⟩ h2⟩
theorem SW.eqv {T:Tab}{C:Ctx T}{w:World}{Y:Nat->Prop}{σ:Sg}{ps qs:List PV}{vs:List Value}{st:St}{n:Nat}(H:SW C w Y σ ps vs st n)(h:AX ps qs):SW C w Y σ qs vs st n :=
 H.uS (H.vals.eqv h)
def xR (ps:List PV):Option Nat->PV->List PV
 | none,_=>ps
 | some d,v=>uX ps d v
theorem SX (E:Env)(d:Option Nat)(v:PV):rG E d v=⟨xR E.tmps d v,E.st,E.next⟩:=by cases d<;>rfl
theorem oO (ps:List PV)(d:Option Nat)(v:PV):(xR ps d v).length=ps.length:=by cases d<;>simp[xR,OE]
theorem Em {ps:List PV}{d:Option Nat}{v:PV}{t:Nat}(h:d≠some t):kY (xR ps d v) t=kY ps t:=by
 cases d with
 | none=>rfl
 | some d=>simp only[xR,wW];rw[if_neg];rintro⟨rfl,_⟩;exact h rfl
theorem SW.xR {T:Tab}{C:Ctx T}{w:World}{Y:Nat->Prop}{σ:Sg}{ps:List PV}{a:Act}{st:St}{n:Nat}(H:SW C w Y σ ps a.tmps.toList st n){v:PV}{cv:Value}(hv:Rep w Y σ v cv)(d:Option Nat) :
  SW C w Y σ (xR ps d v) (a.put d cv).tmps.toList st n:=by
 cases d with
 | none=>exact H
 | some d =>
  refine (H.uS ?_);simp only[Act.put,Pv.xR,Array.toList_setIfInBounds];exact jo.set hv _ _ _ H.vals
theorem put_defers (a:Act)(d:Option Nat)(v:Value):(a.put d v).defers=a.defers:=by cases d<;>rfl
section
variable {P:Program}{T:Tab}
def YK (P:Program)(T:Tab)(all:Array Oper)(o:Oper)(er:List PV)(lk:Nat->Option mJ)(id:Nat)(v:PV)(δ:Dl)(big:Bool):Prop :=
 ∀ (C:Ctx T) ps Y σ (a:Act) w st n,(∀ t∈o.looksAt all,kY ps t=kY er t)->SW C w Y σ ps a.tmps.toList st n->a.defers=[]->(∀ b x,lk b=some x->kR st b=some x) ->
  (big=true->(∀ b,id<=b->b<id+32->σ b=none)/\T.vY<=id/\id+32<=n)->∀ next Q,(∀ cv w' Y' σ',SW C w' Y' σ' ps a.tmps.toList (lh δ st) n->(∀ b,(b<id\/id+32<=b)->σ' b=σ b)->(big=false->σ'=σ)->Rep w' Y' σ' v cv->next (a.put o.dst cv) w')->o.wp P a w next Q
def afa (T:Tab)(all:Array Oper)(o:Oper)(er:List PV)(wb:Bool):Prop :=
 ∀ (C:Ctx T) ps Y σ (a:Act) w st n,(∀ t∈o.looksAt all,kY ps t=kY er t)->SW C w Y σ ps a.tmps.toList st n->a.defers=[]->Region.wanted o (yielded all a.tmps)=wb
theorem Xu {all:Array Oper}{o:Oper}{er:List PV}{wb:Bool}
  (h:∀ ps st n,(∀ t∈o.looksAt all,kY ps t=kY er t)->gd (kK.lM P T) all o.guard ⟨ps,st,n⟩ (λ_=>wb=true) (λ_=>wb=false)):afa T all o er wb:=by
 intro C ps Y σ a w st n R H U;obtain⟨J,_,hh⟩:=Xt (h ps st n R) (C:=C) (a:=a) (w:=w) ⟨⟨Y,σ,H⟩,U⟩;rcases hh with ⟨h1,h2⟩|⟨h1,h2⟩
 rw[h1,h2]
 rw[h1,h2]
theorem ahI {all:Array Oper}{o:Oper}{E:Env}{run skip:Env->Prop}(h:gd (kK.lM P T) all o.guard E run skip) :
  ∃ R wb,AX E.tmps R.tmps/\R.st=E.st/\R.next=E.next/\afa T all o R.tmps wb/\(wb=true->run R)/\(wb=false->skip R):=by
 unfold gd at h
 split at h
 rename_i C;exact⟨E,true,AX.refl _,rfl,rfl,Xu (P:=P) λps _ _ _=>by simp[gd,C],λ_=>h,λe=>by cases e⟩
 ·rename_i j want C
  split at h
  ·rename_i oj hj
   split at h
   ·rename_i d hd
    have J:d∈o.looksAt all:=by
     unfold Oper.looksAt;refine List.mem_append_right _ ?_;simp[C,hj,hd]
    have sem:∀ (R:Env) b,kY R.tmps d=.bool b->afa T all o R.tmps (b==want):=by
     intro R b hb;refine Xu (P:=P) λps _ _ I=>?_;have:=I d J;rw[hb] at this;simp only[gd,C,hj,hd,this];cases b<;>cases want<;>rfl
    split at h
    ·rename_i e;refine⟨E,true==want,AX.refl _,rfl,rfl,sem E true e,?_,?_⟩<;>intro U<;>cases want<;>first|(cases U;done)|exact h
    ·rename_i e;refine⟨E,false==want,AX.refl _,rfl,rfl,sem E false e,?_,?_⟩<;>intro U<;>cases want<;>first|(cases U;done)|exact h
    ·rename_i b e
     have hlt:d<E.tmps.length:=by
      by_cases hh:d<E.tmps.length
      exact hh
      rw[xh (Nat.le_of_not_lt hh)] at e;cases e
     have heq:AX E.tmps (rG E (some d) (.bool b)).tmps:=by
      refine⟨by simp[rG,OE],λt=>?_⟩;simp only[rG,wW]
      split
      rename_i hh;rw[<- hh.1,e];exact Eqv.bool b
      exact Eqv.refl _
     have g:kY (rG E (some d) (.bool b)).tmps d=.bool b:=by simp[rG,wW,hlt]
     obtain⟨h1,h2⟩:=h;refine⟨rG E (some d) (.bool b),b==want,heq,rfl,rfl,sem _ b g,?_,?_⟩
     ·intro U
      cases b with
      | true=>have h1:=h1 rfl;cases want<;>first|(cases U;done)|exact h1
      | false=>have h2:=h2 rfl;cases want<;>first|(cases U;done)|exact h2
     ·intro U
      cases b with
      | true=>have h1:=h1 rfl;cases want<;>first|(cases U;done)|exact h1
      | false=>have h2:=h2 rfl;cases want<;>first|(cases U;done)|exact h2
    rename_i e;refine⟨E,false,AX.refl _,rfl,rfl,Xu (P:=P) λps _ _ I=>?_,(λU=>by cases U),λ_=>h⟩;have:=I d J;rw[e] at this;simp only[gd,C,hj,hd,this]
    exact h.elim
   exact h.elim
  exact h.elim
theorem yM {all:Array Oper}{o:Oper}{er ps:List PV}(h:∀ t∈o.looksAt all,kY ps t=kY er t):∀ x∈o.op.operands,tK T ps x=tK T er x:=by
 intro x hx
 cases x with
 | tmp t =>
  simp only[tK];refine h t ?_;unfold Oper.looksAt;exact List.mem_append_left _ (List.mem_filterMap.2 ⟨.tmp t,by simpa using hx,rfl⟩)
 | _=>rfl
theorem amf {T:Tab}{S:kK}{o:Op}{ps:List PV}{lk:Nat->Option mJ}{id id' : Nat}{K:PV->Dl->Prop}(hq:isQ o=true):nK T S o ps lk id K=nK T S o ps lk id' K:=by
 cases o
 case call c =>
  obtain⟨callee,args,ts⟩:=c;cases callee
  case builtin b =>
   cases b
   case len=>simp only[nK];generalize evA T ps args.toList=as;generalize ts.toList=tl;rcases as with _|⟨a,_|⟨b,_|⟨c,as⟩⟩⟩<;>rcases tl with _|⟨t,_|⟨u,tl⟩⟩<;>first|rfl|(cases a<;>first|rfl|(cases b<;>rfl))
   case min=>simp only[nK];generalize evA T ps args.toList=as;generalize ts.toList=tl;rcases as with _|⟨a,_|⟨b,_|⟨c,as⟩⟩⟩<;>rcases tl with _|⟨t,_|⟨u,tl⟩⟩<;>first|rfl|(cases a<;>first|rfl|(cases b<;>rfl))
   case max=>simp only[nK];generalize evA T ps args.toList=as;generalize ts.toList=tl;rcases as with _|⟨a,_|⟨b,_|⟨c,as⟩⟩⟩<;>rcases tl with _|⟨t,_|⟨u,tl⟩⟩<;>first|rfl|(cases a<;>first|rfl|(cases b<;>rfl))
   all_goals (simp[isQ] at hq)
  all_goals simp[isQ] at hq
 case makeFunc fn first cap=>cases fn<;>rfl
 case unOp op t x=>cases op<;>rfl
 all_goals first|rfl|(simp[isQ] at hq)
theorem ahJ (hT:lW P T)(hW:I4 P){all:Array Oper}{o:Oper}{ps:List PV}{lk:Nat->Option mJ}{id i:Nat}{K:PV->Prop}(hq:isQ o.op=true)(h:nK T (kK.lM P T) o.op ps lk id (aha K)) :
  ∃ v,YK P T all o ps lk i v [] false/\K v:=by
 obtain⟨v,δ,hK,hF⟩:=ae9 hq h
 cases δ with
 | cons x δ=>exact hK.elim
 | nil =>
  refine⟨v,?_,hK⟩;intro C qs Y σ a w st n hl H hd I _ next Q R
  have h2:=hF (λg δ'=>g=v/\δ'=[]) ⟨rfl,rfl⟩;rw[<- Qr (yM hl),amf (id':=n) hq] at h2;obtain⟨g,δ',cv,w',Y',σ',⟨rfl,rfl⟩,U,H',hv,J⟩:=Ba hT hW H I ⟨H.next _ (Nat.le_refl _),H.fix.1⟩ h2
  have hσ:σ'=σ:=by
   funext b
   by_cases hb:b=n
   subst hb;rw[H.next _ (Nat.le_refl _)];exact H'.next _ (Nat.le_refl _)
   exact J b hb
  subst hσ;have:=R cv w' Y' σ' H' (λ_ _=>rfl) (λ_=>rfl) hv;unfold Oper.wp;rcases U with U|⟨U,rfl⟩
  rw[U];exact this
  rw[U];exact this
theorem OG {P:Program}{o:Oper}{f:Operand}{args:Array Operand}{ts:Array TypeId}{a:Act}{w:World}{k:Nat}{cs:List Value}(ho:o.op=.call { callee:=.value f,args,argTypes:=ts })
  (R:a.eval f=.func (.func k) #[] cs.toArray) (T:(callFunc k (args.toList.map a.eval++cs).toArray).run P w=.ok (.enter k (args.toList.map a.eval++cs).toArray) w) :
  (execOp a.eval o).run P w=.ok (.enter k (args.toList.map a.eval++cs).toArray) w:=by
 have U:args.map a.eval=(args.toList.map a.eval).toArray:=by apply Array.ext';simp
 simp only[execOp,ho,resolve,R,Deferred.ofValue,Sem.run_bind,Sem.run_pure,Result.andThen,invoke,U];have:(#[]++(args.toList.map a.eval).toArray++cs.toArray)=(args.toList.map a.eval++cs).toArray:=by apply Array.ext';simp
 rw[this];exact T
theorem SW.afb {C:Ctx T}{w:World}{Y:Nat->Prop}{σ:Sg}{ps:List PV}{vs:List Value}{st:St}{n:Nat}(H:SW C w Y σ ps vs st n)(arr:Array Value)(ty:TypeId) :
  SW C (w.alloc (.cells arr ty)) Y σ ps vs st n/\∀ p v σ',Rep w Y σ' p v->Rep (w.alloc (.cells arr ty)) Y σ' p v:=by
 have heap:(w.alloc (.cells arr ty)).heap=w.heap.push (.cells arr ty):=rfl
 have hold:∀ k,k<w.heap.size->(w.alloc (.cells arr ty)).heap[k]?=w.heap[k]?:=by
  intro k hk;rw[heap,Array.getElem?_push,if_neg ai]
 have hsz:(w.alloc (.cells arr ty)).heap.size=w.heap.size+1:=by rw[heap];simp
 exact⟨H.amd ⟨rfl,rfl,rfl,by omega,hold⟩,λp v σ' h=>Rep.keep p ⟨λk hk _=>hold k hk,λ_ _ h=>h,by omega,qI.refl _⟩ v h⟩
theorem V8 (hT:lW P T){all:Array Oper}{o:Oper}{ps:List PV}{lk:Nat->Option mJ}{id i:Nat}{K:PV->Prop}{t:TypeId}{len:Nat}{parts:Array (Nat×Operand)}(ho:o.op=.buildSlice t len parts)(h:opQ T (kK.lM P T) (.buildSlice t len parts) ps lk id K) :
  ∃ v,YK P T all o ps VZ i v [] false/\K v:=by
 simp only[opQ] at h
 split at h
 rename_i agg size z0 plain esz bytes z e;obtain⟨R,hu,rfl,_,hz⟩:=nZ hT e
 cases hb:(lZ (P.cellsOf R)&&Nat.beq (pX z) (P.cellsOf R)&&Nat.ble (len*P.cellsOf R) 16777216&&Ag (evP T ps parts.toList)) with
 | false=>rw[hb] at h;exact h.elim
 | true =>
  rw[hb] at h;simp only[cond_true] at h;simp only[Bool.and_eq_true,pg] at hb;obtain⟨⟨⟨I,hb2⟩,hb3⟩,hb4⟩:=hb
  have hpos:0<P.cellsOf R:=by
   rcases Nat.eq_zero_or_pos (P.cellsOf R) with h0|h0
   rw[h0] at I;simp[lZ] at I
   exact h0
  have hzl:=Nat.eq_of_beq_eq_true hb2;have hle:=Nat.le_of_ble_eq_true hb3
  split at h
  rename_i cs O
  split at h
  rename_i cs0 U;obtain⟨cs',hl2,hc2,hw2,h,_⟩:=F7 h;refine⟨_,?_,h⟩;intro C qs Y σ a w st n hl H hd _ _ next Q g
  have hev:=yM (T:=T) hl;rw[ho] at hev;have hP:=Qq (T:=T) (ps:=qs) (qs:=ps) parts.toList λx hx=>hev x.2 cZ;rw[<- hP] at O hb4;obtain⟨vcs,hrep,hvl,hrun⟩:=wL hT H ho hu hz I hzl hle hb4 O;have hLk:Lk (λ_=>none) st:=λb ro sz rows h=>by cases h
  obtain⟨Y1,H1,J,hy1⟩:=KC cs cs0 [] U Y st H hLk _ hrep;have J:=hw2 _ _ _ _ J;obtain⟨H2,hk2⟩:=H1.afb vcs R;have hcsl:cs'.length=len*P.cellsOf R:=by rw[hl2,aaD _ _ _ U,Qm _ _ _ _ O,xP,hzl]
  unfold Oper.wp;rw[hrun];refine g _ _ Y1 σ H2 (λ_ _=>rfl) (λ_=>rfl) ?_;unfold Rep;refine⟨_,len,len,rfl,by rw[zt],Nat.le_refl _,λ_=>rfl,.inr ⟨w.heap.size,0,rfl,⟨?_,λhy=>?_⟩,?_⟩⟩
  show w.heap.size<(w.heap.push _).size;simp
  have:=H1.yK _ hy;omega
  refine lT.chunks len cs' 0 ?_ (hc2 (SG _ _ _ U).1) ai;rw[lT.iff];intro j p hj;obtain⟨v,hv,hp'⟩:=J.get? hj;refine⟨v,?_,hk2 _ _ _ hp'⟩;rw[cell_of_block (arr:=vcs) (ty:=R) (by show (w.heap.push _)[w.heap.size]?=_;simp)]
  simpa using hv
  exact h.elim
  exact h.elim
 exact h.elim
theorem akj (hT:lW P T)(hW:I4 P){all:Array Oper}{o:Oper}{ps:List PV}{lk:Nat->Option mJ}{id:Nat}{K:PV->Prop}(i:Nat)(h:opQ T (kK.lM P T) o.op ps lk id K) :
  ∃ v,YK P T all o ps lk i v [] false/\K v:=by
 have h0:=h;unfold opQ at h
 split at h
 rename_i f args ts ho
 split at h
 rename_i k caps O
 have main:∀ v,(∀ (C:Ctx T) Y σ w qs vs U st n,(∀ b x,lk b=some x->kR st b=some x)->SW C w Y σ qs vs st n->jo w Y σ (Dp (evA T ps args.toList) caps) U->Wp P k C Y σ w U qs vs st n v)->YK P T all o ps lk i v [] false:=by
  intro v hsem C qs Y σ a w st n hl H hd J _ next Q R
  have g:=yM (T:=T) hl;rw[ho] at g;have hfv:=nM H f;rw[g f fP,O] at hfv;unfold Rep at hfv;obtain⟨cs,ef,hcs⟩:=hfv;have I:=yL H args.toList;rw[GN (ps:=qs) (qs:=ps) args.toList λx hx=>g x bW] at I;have hall:=jo.app _ _ _ _ I hcs;obtain⟨hent,hcall⟩:=hsem C Y σ w qs a.tmps.toList _ st n J H (by simpa using hall);unfold Oper.wp;rw[OG ho ef hent];refine Calls.mono hcall λe w' hh=>?_;obtain⟨cv,rfl,H',hv⟩:=hh;exact R cv w' Y σ H' (λ_ _=>rfl) (λ_=>rfl) hv
 unfold aln at h
 split at h
 rename_i as hm;obtain⟨v,hF,hK⟩:=h;refine⟨v,main v λC Y σ w qs vs U st n J H hr=>aaI H (λb x hb=>?_) hm hr hF,hK⟩
 split at hb
 rename_i e;cases hb;exact⟨J _ _ e,rfl⟩
 rename_i e;cases hb;exact⟨J _ _ e,rfl⟩
 cases hb
 split at h
 rename_i as hm;obtain⟨v,hF,O,hK⟩:=h;exact⟨v,main v λC Y σ w qs vs U st n J H hr=>Zy H J hm hr hF O,hK⟩
 exact h.elim
 exact h.elim
 rename_i t len parts ho;rw[ho] at h0;obtain⟨v,h1,h2⟩:=V8 hT (all:=all) (i:=i) ho h0;exact⟨v,λC qs Y σ a w st n hl H hd _ hb next Q R=>h1 C qs Y σ a w st n hl H hd (λ_ _ h=>by cases h) hb next Q R,h2⟩
 rw[IW] at h;exact ahJ hT hW h.1 h.2
theorem acd (hT:lW P T)(hW:I4 P){all:Array Oper}{o:Oper}{lk:Nat->Option mJ}{E:Env}{K:Env->Prop}(i:Nat)(h:abK T (kK.lM P T) o lk E K) :
  ∃ R v,AX E.tmps R.tmps/\R.st=E.st/\R.next=E.next/\YK P T all o R.tmps lk i v [] false/\K (rG R o.dst v):=by
 unfold abK at h
 have gen:(opQ T (kK.lM P T) o.op E.tmps lk E.next λv=>K (rG E o.dst v))->∃ R v,AX E.tmps R.tmps/\R.st=E.st/\R.next=E.next/\YK P T all o R.tmps lk i v [] false/\K (rG R o.dst v):=λh=>by
  obtain⟨v,h1,h2⟩:=akj hT hW (all:=all) i h;exact⟨E,v,AX.refl _,rfl,rfl,h1,h2⟩
 split at h
 rename_i c x y ho
 split at h
 rename_i t hc
 have hlt:c<E.tmps.length:=by
  by_cases hh:c<E.tmps.length
  exact hh
  rw[xh (Nat.le_of_not_lt hh)] at hc;cases hc
 have heq:AX E.tmps (rG E (some c) (.bool t)).tmps:=by
  refine⟨by simp[rG,OE],λu=>?_⟩;simp only[rG,wW]
  split
  rename_i hh;rw[<- hh.1,hc];exact Eqv.bool t
  exact Eqv.refl _
 have hget:kY (rG E (some c) (.bool t)).tmps c=.bool t:=by simp[rG,wW,hlt]
 have g:∀ z:Operand,Eqv (tK T (rG E (some c) (.bool t)).tmps z) (tK T E.tmps z):=by
  intro z
  cases z with
  | tmp u=>exact (heq.2 u).symm
  | _=>exact Eqv.refl _
 have hsem:YK P T all o (rG E (some c) (.bool t)).tmps lk i (if t then tK T E.tmps x else tK T E.tmps y) [] false:=by
  intro C qs Y σ a w st n hl H hd _ _ next Q I
  have J:=yM (T:=T) hl;rw[ho] at J;have U:=nM H (.tmp c);rw[J (.tmp c) fH] at U;simp only[tK,hget] at U;have U:=wK U
  have hrun:(execOp a.eval o).run P w=.ok (.value (if t then a.eval x else a.eval y)) w:=by
   simp[execOp,ho,U,asBool]
  unfold Oper.wp;rw[hrun];refine I _ _ Y σ H (λ_ _=>rfl) (λ_=>rfl) ?_;have hx:=nM H x;have hy:=nM H y;rw[J x fH] at hx;rw[J y fH] at hy
  cases t with
  | true=>exact (g x _ _ _ _).1 hx
  | false=>exact (g y _ _ _ _).1 hy
 refine⟨_,_,heq,rfl,rfl,hsem,?_⟩
 cases t with
 | true=>exact h.1 rfl
 | false=>exact h.2 rfl
 rw[<- ho] at h;exact gen h
 exact gen h
theorem MQ {size:Nat}{row:List PV}{c:Nat}{v:PV}{K:List PV->Prop}(h:qo size row c v K):∃ r,K r/\∀ U : List PV->Prop,U r->qo size row c v U:=by
 unfold qo at h |-;simp only[IW] at h |-;exact⟨_,h.2,λU hk=>⟨h.1,hk⟩⟩
theorem ace {o:Op}{ps:List PV}{lk:Nat->Option mJ}{id:Nat}{K:PV->Dl->Prop}(U:sZ T o=1\/sZ T o=2)(I:ndO T ps lk o=false)(h:nK T (kK.lM P T) o ps lk id K) :
  ∃ v δ,K v δ/\∀ g : PV->Dl->Prop,g v δ->nK T (kK.lM P T) o ps lk id g:=by
 cases o
 case binOp op t x y u =>
  simp only[sZ,isQ] at U;cases hy:Sj y<;>rw[hy] at U<;>simp at U
 case alloc t =>
  simp only[nK] at h |-
  split at h
  all_goals first|exact⟨_,_,h,λ_ hk=>hk⟩|exact h.elim
 case box t x =>
  simp only[nK] at h |-
  split at h
  exact h.elim
  exact⟨_,_,h,λ_ hk=>hk⟩
 case makeSlice t x y =>
  simp only[nK] at h |-
  split at h
  simp only[IW] at h |-;obtain⟨h0,j,h1,h2,J,h4,R⟩:=h;obtain⟨z2,_,_,_,R,_,h6⟩:=ae5 R;exact⟨_,_,R,λ_ hk=>⟨h0,j,h1,h2,J,h4,h6 _ hk⟩⟩
  exact h.elim
 case store t x y =>
  simp only[nK] at h |-
  split at h
  split at h
  split at h
  obtain⟨r,h1,h2⟩:=MQ h;exact⟨_,_,h1,λ_ hk=>h2 _ hk⟩
  exact h.elim
  split at h
  split at h
  rename_i sz rows hb _ cs δ hp
  cases C:abI _ δ with
  | true=>rw[C] at h;exact h.elim
  | false =>
   rw[C] at h;simp only[cond_false] at h |-;obtain⟨cs2,_,_,_,⟨row,h0,h⟩,h9⟩:=F7 h;obtain⟨r',h1,h2⟩:=MQ h;exact⟨_,_,h1,λ_ hk=>h9 _ ⟨row,h0,h2 _ hk⟩⟩
  exact h.elim
  rename_i e1 _ _ _ e2;simp[ndO,e1,e2] at I
  exact h.elim
  rename_i e1;simp[ndO,e1] at I
  exact h.elim
  exact h.elim
 case call c =>
  obtain⟨callee,args,ts⟩:=c;cases callee
  case builtin b =>
   cases b
   case append =>
    simp only[nK] at h |-
    split at h
    all_goals repeat' (first
     | contradiction
     | exact h.elim
     | exact⟨_,_,h,λ_ hk=>hk⟩
     | (obtain⟨h1,h2,J⟩:=h;exact⟨_,_,J,λ_ hk=>⟨h1,h2,hk⟩⟩)
     | (split at h)
     | (simp only[IW] at h |-;refine Wu h.1 ?_;replace h:=h.2)
     | (refine Wu h.1 ?_;replace h:=h.2))
   all_goals (rcases U with U|U<;>simp[sZ,isQ] at U)
  all_goals first|(simp only[nK] at h;done)|(simp only[nK] at h;exact h.elim)|(rcases U with U|U<;>simp[sZ,isQ] at U)
 all_goals (rcases U with U|U<;>simp[sZ,isQ] at U)
theorem JK {size:Nat}{row:List PV}{c:Nat}{v:PV}{K:List PV->Prop}(h:qo size row c v K):∃ r,K r:=by
 obtain⟨r,h,_⟩:=MQ h;exact⟨r,h⟩
theorem ahK {o:Op}{ps:List PV}{lk:Nat->Option mJ}{id:Nat}{K:PV->Dl->Prop}(U:ndO T ps lk o=true)(h:nK T (kK.lM P T) o ps lk id K):∃ v δ,K v δ:=by
 cases o
 case store t x y =>
  simp only[nK] at h
  split at h
  split at h
  rename_i e1;simp[ndO,e1] at U
  rename_i b r c e1
  split at h
  rename_i J;simp[ndO,e1,J] at U
  split at h
  split at h
  revert h;generalize (_&&_:Bool)=bb;intro h
  cases bb with
  | true=>exact h.elim
  | false =>
   obtain⟨row,_,h⟩:=h;obtain⟨r,h⟩:=JK (h ⟨0,0,0⟩);exact⟨_,_,h⟩
  exact h.elim
  split at h
  obtain⟨row,_,h⟩:=h;obtain⟨r,h⟩:=JK h;exact⟨_,_,h⟩
  exact h.elim
  exact h.elim
  split at h
  split at h
  have R:=F7 h;clear h;obtain⟨_,_,_,_,⟨row,_,h⟩,_⟩:=R
  split at h
  simp only[IW,kK.lM] at h;obtain⟨_,_,er,_,h⟩:=h;obtain⟨r,h⟩:=JK h;exact⟨_,_,h⟩
  exact h.elim
  exact h.elim
  exact h.elim
  exact h.elim
  exact h.elim
 all_goals simp[ndO] at U
theorem ahL (hT:lW P T)(hW:I4 P){all:Array Oper}{o:Oper}{ps:List PV}{lk:Nat->Option mJ}{id:Nat}{v:PV}{δ:Dl}(hF:∀ K' : PV->Dl->Prop,K' v δ->nK T (kK.lM P T) o.op ps lk id K'):YK P T all o ps lk id v δ true:=by
 intro C qs Y σ a w st n hl H hd g hid next Q R
 obtain⟨h1,h2,h3⟩:=hid rfl;have h4:=hF (λv' I=>v'=v/\I=δ) ⟨rfl,rfl⟩;rw[<- Qr (yM hl)] at h4;obtain⟨v',I,cv,w',Y',σ',⟨rfl,rfl⟩,U,H',hv,J⟩:=Ba hT hW H g ⟨h1 id (Nat.le_refl _) ai,h2⟩ h4;have hn:uk I n id<=n:=by cases I<;>simp[uk]<;>omega
 have:=R cv w' Y' σ' (H'.mono hn) (λb hb=>J b ai) (λe=>by cases e) hv;unfold Oper.wp;rcases U with U|⟨U,rfl⟩
 rw[U];exact this
 rw[U];exact this
theorem adK {S:kK}{o:Op}{ps:List PV}{lk:Nat->Option mJ}{st:St}{id:Nat}{c2:Bool}{K:PV->Dl->Prop}(U:∀ f args ts,o=.call { callee:=.value f,args:=args,argTypes:=ts }->False):opW T S o ps lk st id c2 K=nK T S o ps lk id K:=by
 unfold opW
 split
 rename_i f args ts;exact (U f args ts rfl).elim
 rfl
theorem afc (f:Nat->Option Nat)(st1:St):∀ (l:List Nat) (i:Nat) (st:St),adv f st1 i l st=lh (dlO f st1 i l) st
 | [],i,st=>rfl
 | b::l,i,st=>by simp only[adv,dlO,lh];exact afc f st1 l (i+1) _
theorem Xv (f:Nat->Option Nat){st st' : St}:∀ (ρ:List Nat) (i:Nat),(∀ b∈ρ,kR st b=kR st' b)->Hl f st i ρ=Hl f st' i ρ
 | [],i,_=>rfl
 | b::ρ,i,h=>by
  simp only[Hl];rw[h b aI,Xv f ρ (i+1) λc U=>h c (by simp[U])]
theorem Zz {st:St}:∀ (ρ:List Nat),ajL st ρ=true->∀ b∈ρ,∃ x,kR st b=some x
 | [],_,b,h=>by cases h
 | c::ρ,h,b,hb=>by
  simp only[ajL,Bool.and_eq_true] at h;rcases List.mem_cons.1 hb with rfl|hb
  have:=h.1
  cases hx:kR st b with
  | none=>rw[hx] at this;cases this
  | some x=>exact⟨x,rfl⟩
  exact Zz ρ h.2 b hb
theorem afd {o:Op}{ps:List PV}{lk:Nat->Option mJ}{st:St}{id:Nat}{c2:Bool}{K:PV->Dl->Prop}(hc:sZ T o=1\/sZ T o=2)(g:ndO T ps lk o=false)(h:opW T (kK.lM P T) o ps lk st id c2 K) :
  ∃ v δ,K v δ/\∀ U : PV->Dl->Prop,U v δ->opW T (kK.lM P T) o ps lk st id c2 U:=by
 by_cases hv:∃ f args ts,o=.call { callee:=.value f,args:=args,argTypes:=ts }
 obtain⟨f,args,ts,rfl⟩:=hv;unfold opW at h |-;simp only at h |-
 split at h
 rename_i k C O
 cases c2 with
 | false =>
  simp only at h
  split at h
  rename_i as hm;obtain⟨v,x,hF,J⟩:=h;refine⟨_,_,J,λU hk=>?_⟩;simp only[hm];exact⟨v,x,hF,hk⟩
  exact h.elim
 | true =>
  simp only at h;unfold aap at h
  split at h
  rename_i I;obtain⟨v,st1,n1,h0,hF,J⟩:=h
  split at J
  rename_i hb;refine⟨_,_,J,λU hk=>?_⟩;simp only;unfold aap;simp only[I];refine⟨v,st1,n1,h0,hF,?_⟩;simp only[hb];exact hk
  exact J.elim
  exact h.elim
 exact h.elim
 have R : ∀ f args ts,o=.call { callee:=.value f,args:=args,argTypes:=ts }->False:=λf args ts e=>hv ⟨f,args,ts,e⟩;rw[adK R] at h;obtain⟨v,δ,h1,h2⟩:=ace hc g h;exact⟨v,δ,h1,λU hk=>by rw[adK R];exact h2 U hk⟩
theorem ahM (hT:lW P T)(hW:I4 P){all:Array Oper}{o:Oper}{ps:List PV}{lk:Nat->Option mJ}{st:St}{id:Nat}{v:PV}{δ:Dl}{c2:Bool}(hst:c2=true->lk=kR st)(hF:∀ K' : PV->Dl->Prop,K' v δ->opW T (kK.lM P T) o.op ps lk st id c2 K'):YK P T all o ps lk id v δ true:=by
 by_cases hv:∃ f args ts,o.op=.call { callee:=.value f,args:=args,argTypes:=ts }
 obtain⟨f,args,ts,ho⟩:=hv;intro C qs Y σ a w stn n hl H hd hlk hid next Q hnext
 obtain⟨g1,g2,g3⟩:=hid rfl;have R:=hF (λv' δ'=>v'=v/\δ'=δ) ⟨rfl,rfl⟩;rw[ho] at R;unfold opW at R;simp only at R
 split at R
 rename_i k caps O;have hev:=yM (T:=T) hl;rw[ho] at hev;have hfv:=nM H f;rw[hev f fP,O] at hfv;unfold Rep at hfv;obtain⟨cs,ef,hcs⟩:=hfv;have hargs:=yL H args.toList;rw[GN (ps:=qs) (qs:=ps) args.toList λx hx=>hev x bW] at hargs;have hall:=jo.app _ _ _ _ hargs hcs
 cases c2 with
 | false =>
  simp only at R
  split at R
  rename_i as hm;obtain⟨v0,x,hF0,rfl,rfl⟩:=R;have hr0:=SN (P:=P) (T:=T) H.store (lk:=VZ) (λb x h=>by cases h) (λ_ h=>h) (λb x l h=>by cases h) (λb sz rows hb=>by cases hb) hm hall;have hr1:jo w Y σ as _:=jo.keep as (σ:=kX) (σ':=σ) ⟨λ_ _ _=>rfl,λ_ _ h=>h,Nat.le_refl _,λb l h=>by simp[kX] at h⟩ _ hr0
  obtain⟨J,U⟩:=adJ (E:=⟨qs,stn,id⟩) (ρ:=[]) (n0:=n) (N:=n) (v:=v0) (st1:=[(0,some x)]) (n1:=1) H rfl rfl rfl g2 (λb hb1 hb2=>by
   have:b=id:=by simp only[oN] at hb1 hb2;omega
   rw[this];exact g1 id (Nat.le_refl _) ai) ⟨by simp only[oN];omega,Nat.le_refl _⟩ hr1 hF0
  unfold Oper.wp;rw[OG ho ef J];refine Calls.mono U λe w' hh=>?_;obtain⟨cv,Y',σ',rfl,H',g,I⟩:=hh;exact hnext cv w' Y' σ' H' (λb hb=>I b (by simp only[oN];omega)) (λe=>by cases e) g
  exact R.elim
 | true =>
  simp only at R;unfold aap at R
  split at R
  rename_i hcnd;simp only[Bool.and_eq_true] at hcnd;obtain⟨c1,c2,c3⟩:=hcnd;obtain⟨v0,st1,n1,h0,hF0,hK⟩:=R
  split at hK
  rename_i hb;obtain⟨rfl,rfl⟩:=hK;have hb:=Nat.le_of_ble_eq_true hb;have hlk':=hlk;rw[hst rfl] at hlk'
  have hren:=Xv (st:=st) (st':=stn) (ixN (Vu (Dp (evA T ps args.toList) caps) st)) (Vu (Dp (evA T ps args.toList) caps) st) 0 λb hb=>by
   obtain⟨x,hx⟩:=Zz _ c3 b hb;rw[hx,hlk' b x hx]
  rw[hren] at h0 hF0;obtain⟨J,U⟩:=adJ (E:=⟨qs,stn,id⟩) (n0:=n) (N:=n) (v:=v0) (st1:=st1) H c2 c1 h0 g2 (λb hb1 hb2=>g1 b hb1 (by simp only at hb2;omega)) ⟨by simp only;omega,Nat.le_refl _⟩ hall hF0;unfold Oper.wp;rw[OG ho ef J];refine Calls.mono U λe w' hh=>?_;obtain⟨cv,Y',σ',rfl,H',g,I⟩:=hh;refine hnext cv w' Y' σ' ?_ (λb hb'=>I b aF) (λe=>by cases e) g;rw[<- afc];exact H'
  exact hK.elim
  exact R.elim
 exact R.elim
 have g : ∀ f args ts,o.op=.call { callee:=.value f,args:=args,argTypes:=ts }->False:=λf args ts e=>hv ⟨f,args,ts,e⟩;exact ahL hT hW λK' hk=>by have:=hF K' hk;rw[adK g] at this;exact this
end
end Go.Pv
namespace Go.Pv
open Go
section
variable {P:Program}{T:Tab}
structure Rec where
 e1:List PV
 er:List PV
 lk:Nat->Option mJ
 v:PV
 δ:Dl
 id:Nat
 big:Bool
 wb:Bool
 nd:Bool
def afe (δ:Dl)(b:Nat):Prop:=∃ x,(b,x)∈δ
structure adL (P:Program)(T:Tab)(all:Array Oper)(o:Oper)(r:Rec)(p:List PV)(st:St)(nx:Nat)(pend:List Nat):Prop where
 e1:AX p r.e1
 er:AX p r.er
 gd:afa T all o r.e1 r.wb
 sem:r.wb=true->r.nd=false->YK P T all o r.er r.lk r.id r.v r.δ r.big
 ndw:r.nd=true->r.wb=true/\r.big=true
 skip:r.wb=false->r.v=.undef
 cls:(r.big=false/\r.δ=[]/\(r.wb=true->∀ b x,r.lk b=some x->sZ T o.op=3/\b ∉ pend/\kR st b=some x)) \/
  (r.wb=true/\r.big=true/\r.id=nx/\sZ T o.op=1/\(∃ x,r.δ=[(nx,some x)])/\r.lk=VZ) \/
  (r.wb=true/\r.big=true/\r.id=nx/\sZ T o.op=2/\(∀ b,afe r.δ b->b<nx+32)/\r.lk=kR st)
def bump (b:Bool)(n:Nat):Nat:=match b with|true=>n+32|false=>n
def SY (T:Tab)(o:Oper)(r:Rec)(pend:List Nat):List Nat:=match r.big with
 | false=>pend
 | true=>if sZ T o.op=1 then r.id::pend else []
def ChD (P:Program)(T:Tab)(all:Array Oper):List Oper->List Rec->List PV->St->Nat->List Nat->List PV->St->Nat->Prop
 | [],[],p,st,nx,_,f,stf,nxf=>p=f/\st=stf/\nx=nxf
 | o::l,r::rs,p,st,nx,pend,f,stf,nxf=>adL P T all o r p st nx pend/\ChD P T all l rs (xR r.er o.dst r.v) (lh r.δ st) (bump r.big nx) (SY T o r pend) f stf nxf
 | _,_,_,_,_,_,_,_,_=>False
def adM (P:Program)(T:Tab)(all:Array Oper)(K:Env->Prop):List Oper->List Rec->St->List PV->St->Nat->Prop
 | o::l,r::rs,st,f,stf,nxf=>(r.nd=true->l=[]/\rs=[]/\QZ all=true/\nxf=r.id+32/\nK T (kK.lM P T) o.op r.er (kR st) r.id (λv δ=>bif ltD (r.id+32) δ then K ⟨xR r.er o.dst v,lh δ st,r.id+32⟩ else False))
  /\ (r.nd=false->adM P T all K l rs (lh r.δ st) f stf nxf)
 | [],[],_,f,stf,nxf=>K ⟨f,stf,nxf⟩
 | _,_,_,_,_,_=>False
theorem Xw {n:Nat}:∀ (δ:Dl),ltD n δ=true->∀ b,afe δ b->b<n
 | [],_,b,h=>by obtain⟨x,h⟩:=h;cases h
 | (c,y)::δ,h,b,hb=>by
  simp only[ltD,Bool.and_eq_true,Nat.blt_eq] at h;obtain⟨x,hb⟩:=hb;rcases List.mem_cons.1 hb with e|hb
  cases e;exact h.1
  exact Xw δ h.2 b ⟨x,hb⟩
theorem adN {pend:List Nat}{lk:Nat->Option mJ}{b:Nat}{x:mJ}(h:aeR pend lk b=some x):b ∉ pend/\lk b=some x:=by
 unfold aeR at h
 cases hb:Aa pend b with
 | true=>rw[hb] at h;cases h
 | false=>rw[hb] at h;exact⟨(λU=>by rw[(KD _ _).2 U] at hb;cases hb),h⟩
theorem akk {o:Op}{ps:List PV}{lk:Nat->Option mJ}(h:sZ T o=1):ndO T ps lk o=false:=by cases o<;>simp[ndO,sZ] at h |-
theorem Hu (hT:lW P T)(hW:I4 P){all:Array Oper}:∀ (l:List Oper) (pend:List Nat) (E:Env) (K:Env->Prop),adx T (kK.lM P T) all l pend E K ->
  ∃ rs f U R,ChD P T all l rs E.tmps E.st E.next pend f U R/\adM P T all K l rs E.st f U R
 | [],pend,E,K,h=>⟨[],E.tmps,E.st,E.next,⟨rfl,rfl,rfl⟩,h⟩
 | o::l,pend,E,K,h=>by
  simp only[adx] at h;obtain⟨J,wb,h1,h2,g,h4,I,h6⟩:=ahI h
  cases wb with
  | false =>
   have k5:=h6 rfl;rw[SX,h2,g] at k5;obtain⟨rs,f,U,R,C,hK⟩:=Hu hT hW l pend _ _ k5;exact⟨⟨J.tmps,J.tmps,VZ,.undef,[],0,false,false,false⟩::rs,f,U,R,⟨⟨h1,h1,h4,(λe=>by cases e),(λe=>by cases e),(λ_=>rfl),.inl ⟨rfl,rfl,λe=>by cases e⟩⟩,C⟩,(λe=>by cases e),λ_=>hK⟩
  | true =>
   have I:=I rfl;unfold alo at I
   cases hnd:ndO T J.tmps (kR J.st) o.op with
   | true =>
    rw[hnd] at I
    cases l with
    | cons _ _=>exact I.elim
    | nil =>
      obtain⟨hlo,I⟩:=I;obtain⟨v,δ,hk⟩:=ahK hnd I
      cases hi:ltD (J.next+32) δ with
      | false=>rw[hi] at hk;exact hk.elim
      | true =>
       have hcl:sZ T o.op=2:=by
        revert hnd;cases o.op<;>simp[ndO,sZ]
       refine⟨[⟨J.tmps,J.tmps,kR J.st,v,δ,J.next,true,true,true⟩],_,_,_,⟨⟨h1,h1,h4,(λ_ e=>by cases e),(λ_=>⟨rfl,rfl⟩),(λe=>by cases e),.inr (.inr ⟨rfl,rfl,g,hcl,?_,by rw[h2]⟩)⟩,rfl,rfl,rfl⟩,λ_=>⟨rfl,rfl,hlo,by simp[bump,g],?_⟩,λe=>by cases e⟩
       rw[<- g];exact Xw δ hi
       simp only[SX,h2] at I;exact I
   | false =>
   rw[hnd] at I;simp only at I;unfold stepD at I
   have quiet:∀ lk,(sZ T o.op=0/\lk=VZ\/sZ T o.op=3/\lk=aeR pend (kR J.st))->abK T (kK.lM P T) o lk J (λE=>adx T (kK.lM P T) all l pend E K) ->
     ∃ rs f U R,ChD P T all (o::l) rs E.tmps E.st E.next pend f U R/\adM P T all K (o::l) rs E.st f U R:=by
    intro lk hlk hs;obtain⟨E2,v,k1,k2,k3,k4,k5⟩:=acd hT hW (all:=all) 0 hs;rw[SX,k2,k3,h2,g] at k5;obtain⟨rs,f,U,R,C,hK⟩:=Hu hT hW l pend _ _ k5;refine⟨⟨J.tmps,E2.tmps,lk,v,[],0,false,true,false⟩::rs,f,U,R,⟨⟨h1,h1.trans k1,h4,λ_ _=>k4,(λe=>by cases e),(λe=>by cases e),.inl ⟨rfl,rfl,λ_ b x hb=>?_⟩⟩,C⟩,(λe=>by cases e),λ_=>hK⟩;rcases hlk with ⟨c0,rfl⟩|⟨c3,rfl⟩
    cases hb
    obtain⟨a1,a2⟩:=adN hb;rw[h2] at a2;exact⟨c3,a1,a2⟩
   split at I
   rename_i C;exact quiet VZ (.inl ⟨C,rfl⟩) I
   rename_i C;obtain⟨v,δ,hk,O⟩:=afd (.inl C) (akk C) I
   split at hk
   rename_i id x
   cases hi:Nat.beq id J.next with
   | false=>rw[hi] at hk;exact hk.elim
   | true =>
    rw[hi] at hk;simp only[cond_true] at hk;have hid:=Nat.eq_of_beq_eq_true hi;subst hid;rw[SX,h2,g] at hk;obtain⟨rs,f,U,R,hc2,hK⟩:=Hu hT hW l _ _ _ hk;refine⟨⟨J.tmps,J.tmps,VZ,v,[(J.next,some x)],J.next,true,true,false⟩::rs,f,U,R,⟨⟨h1,h1,h4,λ_ _=>?_,(λe=>by cases e),(λe=>by cases e),.inr (.inl ⟨rfl,rfl,g,C,⟨x,by rw[g]⟩,rfl⟩)⟩,?_⟩,(λe=>by cases e),λ_=>?_⟩
    exact ahM hT hW (λe=>by cases e) O
    simp only[lh,bump,SY,C,if_true,g];exact hc2
    simp only[lh,g];exact hK
   exact hk.elim
   rename_i C;obtain⟨v,δ,hk,O⟩:=afd (.inr C) hnd I
   cases hi:ltD (J.next+32) δ with
   | false=>rw[hi] at hk;exact hk.elim
   | true =>
    rw[hi] at hk;simp only[cond_true] at hk;rw[SX,h2,g] at hk;obtain⟨rs,f,U,R,hc2,hK⟩:=Hu hT hW l _ _ _ hk;refine⟨⟨J.tmps,J.tmps,kR J.st,v,δ,J.next,true,true,false⟩::rs,f,U,R,⟨⟨h1,h1,h4,λ_ _=>?_,(λe=>by cases e),(λe=>by cases e),.inr (.inr ⟨rfl,rfl,g,C,?_,by rw[h2]⟩)⟩,?_⟩,(λe=>by cases e),λ_=>hK⟩
    exact ahM hT hW (λ_=>rfl) O
    rw[<- g];exact Xw δ hi
    simp only[bump,SY,C,g];exact hc2
   rename_i C;exact quiet _ (.inr ⟨C,rfl⟩) I
   exact I.elim
theorem ChD.len {all:Array Oper}:∀ (l:List Oper) (rs:List Rec) {p:List PV} {st:St} {nx:Nat} {pend:List Nat} {f:List PV} {R:St} {U:Nat},ChD P T all l rs p st nx pend f R U->rs.length=l.length/\f.length=p.length
 | [],[],_,_,_,_,_,_,_,h=>⟨rfl,by rw[h.1]⟩
 | o::l,r::rs,_,_,_,_,_,_,_,h=>by
  obtain⟨h1,h2⟩:=ChD.len l rs h.2;exact⟨by simp[h1],by rw[h2,oO,h.1.er.1]⟩
 | [],_::_,_,_,_,_,_,_,_,h=>h.elim
 | _::_,[],_,_,_,_,_,_,_,h=>h.elim
theorem ChD.keep {all:Array Oper}{t:Nat}:∀ (l:List Oper) (rs:List Rec) {p:List PV} {st:St} {nx:Nat} {pend:List Nat} {f:List PV} {R:St} {U:Nat},ChD P T all l rs p st nx pend f R U->(∀ o∈l,o.dst≠some t)->Eqv (kY p t) (kY f t)
 | [],[],_,_,_,_,_,_,_,h,_=>by rw[h.1];exact Eqv.refl _
 | o::l,r::rs,_,_,_,_,_,_,_,h,hn=>by
  have:=ChD.keep l rs h.2 λo ho=>hn o (by simp[ho]);rw[Em (hn o aI)] at this;exact (h.1.er.2 t).trans this
 | [],_::_,_,_,_,_,_,_,_,h,_=>h.elim
 | _::_,[],_,_,_,_,_,_,_,h,_=>h.elim
def AY:List Rec->St->Nat->St
 | _,st,0=>st
 | [],st,_+1=>st
 | r::rs,st,i+1=>AY rs (lh r.δ st) i
def Dc:List Rec->Nat->Nat->Nat
 | _,n,0=>n
 | [],n,_+1=>n
 | r::rs,n,i+1=>Dc rs (bump r.big n) i
def Ri (T:Tab):List Oper->List Rec->List Nat->Nat->List Nat
 | _,_,pd,0=>pd
 | o::l,r::rs,pd,i+1=>Ri T l rs (SY T o r pd) i
 | _,_,pd,_=>pd
theorem ChD.get {all:Array Oper}:∀ (l:List Oper) (rs:List Rec) {p:List PV} {st:St} {nx:Nat} {pend:List Nat} {f:List PV} {I:St} {g:Nat},ChD P T all l rs p st nx pend f I g->∀ (i:Nat) (o:Oper),l[i]?=some o ->
  ∃ r q,rs[i]?=some r/\q.length=p.length/\adL P T all o r q (AY rs st i) (Dc rs nx i) (Ri T l rs pend i) /\
   (∀ t,(∀ j oj,j<i->l[j]?=some oj->oj.dst≠some t)->Eqv (kY p t) (kY q t)) /\
   (∀ t,(∀ j oj,i<=j->l[j]?=some oj->oj.dst≠some t)->Eqv (kY q t) (kY f t)) /\
   (∀ d,o.dst=some d->d<p.length->(∀ j oj,i<j->l[j]?=some oj->oj.dst≠some d)->Eqv r.v (kY f d))
 | [],_,_,_,_,_,_,_,_,_,i,o,hi=>by simp at hi
 | _::_,[],_,_,_,_,_,_,_,h,_,_,_=>h.elim
 | o'::l,r::rs,p,_,_,_,f,_,_,h,0,o,hi=>by
  obtain⟨h1,R⟩:=h;simp at hi;subst hi;refine⟨r,p,rfl,rfl,h1,λt _=>Eqv.refl _,λt ht=>?_,λd J U C=>?_⟩
  have hk:=ChD.keep l rs R (t:=t) λo ho=>by
   obtain⟨j,hj⟩:=List.getElem?_of_mem ho;exact ht (j+1) o ai fJ
  rw[Em (ht 0 o' ai aI)] at hk;exact (h1.er.2 t).trans hk
  have hk:=ChD.keep l rs R (t:=d) λo ho=>by
   obtain⟨j,hj⟩:=List.getElem?_of_mem ho;exact C (j+1) o ai fJ
  rw[J] at hk;simp only[xR,wW] at hk;rw[if_pos ⟨trivial,by rw[<- h1.er.1];exact U⟩] at hk;exact hk
 | o'::l,r::rs,p,_,_,_,f,_,_,h,i+1,o,hi=>by
  obtain⟨h1,R⟩:=h;obtain⟨r',q,a0,a1,a2,a6,a7,a8⟩:=ChD.get l rs R i o df;have hl:(xR r.er o'.dst r.v).length=p.length:=by rw[oO,h1.er.1]
  refine⟨r',q,by simpa using a0,by rw[a1,hl],a2,λt ht=>?_,λt ht=>?_,λd J U C=>?_⟩
  have hk:=a6 t λj oj hj hoj=>ht (j+1) oj ai bY;rw[Em (ht 0 o' ai aI)] at hk;exact (h1.er.2 t).trans hk
  exact a7 t λj oj hj hoj=>ht (j+1) oj ai bY
  exact a8 d J (by rw[hl];exact U) λj oj hj hoj=>C (j+1) oj ai bY
theorem ChD.fin {all:Array Oper}:∀ (l:List Oper) (rs:List Rec) {p:List PV} {st:St} {nx:Nat} {pend:List Nat} {f:List PV} {R:St} {U:Nat},ChD P T all l rs p st nx pend f R U->R=AY rs st rs.length/\U=Dc rs nx rs.length
 | [],[],_,_,_,_,_,_,_,h=>⟨h.2.1.symm,h.2.2.symm⟩
 | o::l,r::rs,_,_,_,_,_,_,_,h=>ChD.fin l rs h.2
 | [],_::_,_,_,_,_,_,_,_,h=>h.elim
 | _::_,[],_,_,_,_,_,_,_,h=>h.elim
theorem bump_le (b:Bool)(n:Nat):n<=bump b n:=by cases b<;>simp[bump]
theorem Rj:∀ (rs:List Rec) (n i:Nat),n<=Dc rs n i
 | _,n,0=>by simp[Dc]
 | [],n,i+1=>by simp[Dc]
 | r::rs,n,i+1=>by simp only[Dc];exact Nat.le_trans (bump_le _ _) (Rj rs _ i)
theorem Qs:∀ (rs:List Rec) (n i:Nat) (r:Rec),rs[i]?=some r->Dc rs n (i+1)=bump r.big (Dc rs n i)
 | [],n,i,r,h=>by simp at h
 | r::rs,n,0,r',h=>by simp at h;subst h;cases rs<;>simp[Dc]
 | r::rs,n,i+1,r',h=>by simp only[Dc];exact Qs rs _ i r' bH
theorem ZA:∀ (rs:List Rec) (n i:Nat),rs.length<=i->Dc rs n (i+1)=Dc rs n i
 | [],n,0,_=>by simp[Dc]
 | [],n,i+1,_=>by simp[Dc]
 | r::rs,n,0,h=>by simp at h
 | r::rs,n,i+1,h=>by simp only[Dc];exact ZA rs _ i bH
theorem UJ {rs:List Rec}{n i j:Nat}(h:i<=j):Dc rs n i<=Dc rs n j:=by
 induction h with
 | refl=>exact Nat.le_refl _
 | step h ih =>
  rename_i m
  cases U:rs[m]? with
  | some r=>rw[Qs _ _ _ _ U];exact Nat.le_trans ih (bump_le _ _)
  | none=>rw[ZA _ _ _ (by rw[List.getElem?_eq_none_iff] at U;exact U)];exact ih
def lU:Dl->Nat->Option (Option mJ)
 | [],_=>none
 | (c,x)::δ,b=>match lU δ b with
  | some y=>some y
  | none=>if c=b then some x else none
theorem qO:∀ (δ:Dl) (st:St) (b:Nat),kR (lh δ st) b=(match lU δ b with|some x=>x|none=>kR st b)
 | [],st,b=>rfl
 | (c,x)::δ,st,b=>by
  simp only[lh,qO δ (rW st c x) b,lU]
  cases lU δ b with
  | some y=>rfl
  | none =>
   simp only[kC]
   by_cases h:c=b<;>simp[h]
theorem MR:∀ (δ:Dl) (b:Nat),lU δ b≠none->afe δ b
 | [],b,h=>absurd rfl h
 | (c,x)::δ,b,h=>by
  simp only[lU] at h
  split at h
  rename_i y hy;obtain⟨z,T⟩:=MR δ b (by rw[hy];simp);exact⟨z,List.mem_cons_of_mem _ T⟩
  by_cases U:c=b
  subst U;exact⟨x,by simp⟩
  rw[if_neg U] at h;exact absurd rfl h
def lst:List Rec->(Nat->Bool)->Nat->Nat->Option (Option mJ)
 | [],_,_,_=>none
 | r::rs,D,i,b=>match lst rs D (i+1) b with
  | some y=>some y
  | none=>if D i then lU r.δ b else none
def orS (st:St)(b:Nat):Option (Option mJ)->Option mJ
 | some x=>x
 | none=>kR st b
theorem Ai:∀ (rs:List Rec) (D U : Nat->Bool) (i b:Nat),(∀ k r,rs[k]?=some r->lU r.δ b≠none->D (i+k)=U (i+k))->lst rs D i b=lst rs U i b
 | [],_,_,_,_,_=>rfl
 | r::rs,D,U,i,b,h=>by
  have R:=Ai rs D U (i+1) b λk T hr hb=>by
   have:=h (k+1) T dF hb
   rwa [show i+(k+1)=i+1+k by omega] at this
  simp only[lst,R]
  split
  rfl
  by_cases hb:lU r.δ b=none
  simp[hb]
  have:=h 0 r rfl hb;simp only[Nat.add_zero] at this;rw[this]
theorem Hw:∀ (rs:List Rec) (D:Nat->Bool) (i b:Nat),(∀ k r,rs[k]?=some r->D (i+k)=true->lU r.δ b=none)->lst rs D i b=none
 | [],_,_,_,_=>rfl
 | r::rs,D,i,b,h=>by
  have T:=Hw rs D (i+1) b λk U hr hb=>h (k+1) U dF fK;simp only[lst,T]
  split
  rename_i h0;exact h 0 r rfl (by simpa using h0)
  rfl
theorem Xx:∀ (rs:List Rec) (D:Nat->Bool) (i m b:Nat) (r:Rec) (x:Option mJ),rs[m]?=some r->D (i+m)=true->lU r.δ b=some x->(∀ k U,m<k->rs[k]?=some U->D (i+k)=true->lU U.δ b=none)->lst rs D i b=some x
 | [],_,_,m,_,_,_,h,_,_,_=>by simp at h
 | r::rs,D,i,0,b,U,x,h,hD,hx,hl=>by
  simp at h;subst h;have:=Hw rs D (i+1) b λk U hr hb=>hl (k+1) U ai dF fK;simp only[lst,this];rw[if_pos (by simpa using hD)];exact hx
 | r::rs,D,i,m+1,b,U,x,h,hD,hx,hl=>by
  have:=Xx rs D (i+1) m b U x bH (by rwa [show i+1+m=i+(m+1) by omega]) hx λk r2 hk hr hb=>hl (k+1) r2 ai dF fK;simp only[lst,this]
theorem Qu:∀ (rs:List Rec) (st:St) (i j b:Nat),kR (AY rs st i) b=orS st b (lst rs (λk=>decide (k<j+i)) j b)
 | [],st,0,j,b=>rfl
 | [],st,i+1,j,b=>rfl
 | r::rs,st,0,j,b=>by
  simp only[AY];rw[Hw _ _ _ _ λk U _ h=>by simp at h;omega];rfl
 | r::rs,st,i+1,j,b=>by
  simp only[AY,Qu rs (lh r.δ st) i (j+1) b,lst];rw[show (λk=>decide (k<j+1+i))=(λk=>decide (k<j+(i+1))) from funext λk=>by congr 2;omega]
  cases lst rs (λk=>decide (k<j+(i+1))) (j+1) b with
  | some y=>rfl
  | none =>
   simp only[orS,qO];rw[if_pos aI]
theorem VF {all:Array Oper}{i:Nat}{o:Oper}{lo:List Tmp}:∀ (l:List Oper) (j:Nat),WT all i o lo l j=true->∀ (k:Nat) (p:Oper),l[k]?=some p->WS all i o lo (j+k) p=true
 | [],_,_,k,p,hk=>by simp at hk
 | q::l,j,h,0,p,hk=>by simp at hk;subst hk;simp only[WT,Bool.and_eq_true] at h;exact h.1
 | q::l,j,h,k+1,p,hk=>by
  simp only[WT,Bool.and_eq_true] at h;have:=VF l (j+1) h.2 k p fZ;rw[show j+(k+1)=j+1+k by omega];exact this
theorem OH {all:Array Oper}:∀ (l:List Oper) (i:Nat),FD all l i=true->∀ (k:Nat) (o:Oper),l[k]?=some o ->
  (∀ e∈o.after,Region.binds .any e=true->e.on<i+k)/\∀ (j:Nat) (p:Oper),all[j]?=some p->WS all (i+k) o (o.looksAt all) j p=true
 | [],_,_,k,o,hk=>by simp at hk
 | q::l,i,h,0,o,hk=>by
  simp at hk;subst hk;simp only[FD,Bool.and_eq_true] at h;refine⟨λe he hb=>?_,λj p U=>?_⟩
  have:=Array.all_eq_true_iff_forall_mem.1 h.1.1 e he;rw[hb,Bool.not_true,Bool.false_or,Nat.blt_eq] at this;simpa using this
  have:=VF all.toList 0 h.1.2 j p (by simpa using U)
  simpa using this
 | q::l,i,h,k+1,o,hk=>by
  simp only[FD,Bool.and_eq_true] at h;have:=OH l (i+1) h.2 k o fZ;rw[show i+(k+1)=i+1+k by omega];exact this
theorem ET {all:Array Oper}(h0:Ho T all=true){i:Nat}{o:Oper}(hi:all[i]?=some o) :
  (∀ e∈o.after,Region.binds .any e=true->e.on<i)/\∀ (j:Nat) (p:Oper),all[j]?=some p->j≠i->∀ d,p.dst=some d->o.dst≠some d /\
   (d∈o.looksAt all->(∃ e∈o.after,Region.binds .any e=true/\e.on=j)\/(∃ e∈p.after,Region.binds .any e=true/\e.on=i)):=by
 have h:FD all all.toList 0=true:=by unfold Ho at h0;rw[Bool.and_eq_true] at h0;exact h0.1
 obtain⟨h1,h2⟩:=OH all.toList 0 h i o df;rw[Nat.zero_add] at h1 h2;refine⟨h1,λj p J U d I=>?_⟩;have:=h2 j p J;have R:Nat.beq i j=false:=SB λe=>U e.symm;simp only[WS,R,I,Bool.false_or,Bool.and_eq_true,Bool.or_eq_true,bne_iff_ne,ne_eq,Bool.not_eq_true',List.contains_eq_mem,decide_eq_false_iff_not] at this;refine⟨this.1,λC=>?_⟩;rcases this.2 with (hh|hh)|hh
 exact absurd C hh
 obtain⟨e,he,hb⟩:=Array.any_eq_true'.1 hh;simp only[Bool.and_eq_true] at hb;exact .inl ⟨e,he,hb.1,Nat.eq_of_beq_eq_true hb.2⟩
 obtain⟨e,he,hb⟩:=Array.any_eq_true'.1 hh;simp only[Bool.and_eq_true] at hb;exact .inr ⟨e,he,hb.1,Nat.eq_of_beq_eq_true hb.2⟩
inductive Bef (all:Array Oper):Nat->Nat->Prop
 | one {i:Nat} {o:Oper} {e:Edge}:all[i]?=some o->e∈o.after->Region.binds .any e=true->Bef all e.on i
 | trans {i j k:Nat}:Bef all i j->Bef all j k->Bef all i k
theorem Rk:∀ (l m:List Nat) (b:Nat),b∈WU l m->b∈l\/b∈m
 | [],m,b,h=>.inr h
 | c::l,m,b,h=>by
  simp only[WU] at h
  cases U:Aa m c with
  | true =>
   rw[U] at h;rcases Rk l m b h with h|h
   exact .inl (List.mem_cons_of_mem _ h)
   exact .inr h
  | false =>
   rw[U] at h;rcases Rk l (c::m) b h with h|h
   exact .inl (List.mem_cons_of_mem _ h)
   rcases List.mem_cons.1 h with rfl|h
   exact .inl aI
   exact .inr h
theorem Xy:∀ (l:List (List Nat)) (i:Nat),Dj l i=l.getD i []
 | [],i=>by simp[Dj]
 | x::l,0=>by simp[Dj]
 | x::l,i+1=>by simpa [Dj] using Xy l i
theorem ZB (acc:List (List Nat)):∀ (l:List Nat) (b:Nat),b∈Zk acc l->∃ j∈l,b=j\/b∈Dj acc j
 | [],b,h=>by simp[Zk] at h
 | j::l,b,h=>by
  simp only[Zk] at h;rcases Rk _ _ _ h with h|h
  exact⟨j,by simp,by simpa using h⟩
  obtain⟨U,h1,h2⟩:=ZB acc l b h;exact⟨U,by simp[h1],h2⟩
theorem MS {all:Array Oper}:∀ (l:List Oper) (acc:List (List Nat)),(∀ k o,l[k]?=some o->all[acc.length+k]?=some o)->(∀ i b,b∈Dj acc i->Bef all b i)->∀ i b,b∈Dj (V3 l acc) i->Bef all b i
 | [],acc,_,h2=>by simpa [V3] using h2
 | o::l,acc,h1,h2=>by
  simp only[V3];have hlen:(acc++[Zk acc (aaq o)]).length=acc.length+1:=by simp
  refine MS l _ (λk C hk=>?_) λi b hb=>?_
  have:=h1 (k+1) C fZ;rw[hlen,<- this];congr 1;omega
  rw[Xy,List.getD_eq_getElem?_getD] at hb
  by_cases hi:i<acc.length
  rw[List.getElem?_append_left hi] at hb;exact h2 i b (by rw[Xy,List.getD_eq_getElem?_getD];exact hb)
  rw[List.getElem?_append_right ai] at hb
  have I:i-acc.length=0:=by
   by_cases h0:i-acc.length=0
   exact h0
   rw[List.getElem?_eq_none aT] at hb;simp at hb
  rw[I] at hb;simp only[List.getElem?_cons_zero,Option.getD_some] at hb;have J:i=acc.length:=by omega
  obtain⟨j,hj,hb⟩:=ZB acc _ _ hb;have T:=h1 0 o rfl;rw[Nat.add_zero] at T;simp only[aaq,List.mem_map,List.mem_filter] at hj;obtain⟨e,⟨he,R⟩,rfl⟩:=hj;have U:Bef all e.on i:=by rw[J];exact .one T (by simpa using he) R
  rcases hb with rfl|hb
  exact U
  exact .trans (h2 _ _ hb) U
theorem ZC {U:List Nat}{c:Nat}:∀ (l:List Oper) (i:Nat),afS T U c l i=true->∀ k o,l[k]?=some o->clash (sZ T o.op) c=true->(i+k)∈U
 | [],_,_,k,o,h,_=>by simp at h
 | q::l,i,h,0,o,hk,hc=>by
  simp at hk;subst hk;simp only[afS,Bool.and_eq_true,hc,cond_true] at h;exact (KD _ _).1 h.1
 | q::l,i,h,k+1,o,hk,hc=>by
  simp only[afS,Bool.and_eq_true] at h;have:=ZC l (i+1) h.2 k o fZ hc
  rwa [show i+1+k=i+(k+1) by omega] at this
theorem ZE {L:List Oper}{B:List (List Nat)}:∀ (l:List Oper) (i:Nat),ahb T L B l i=true->∀ k o,l[k]?=some o->afS T (Dj B (i+k)) (sZ T o.op) (L.take (i+k)) 0=true
 | [],_,_,k,o,h=>by simp at h
 | q::l,i,h,0,o,hk=>by
  simp at hk;subst hk;simp only[ahb,Bool.and_eq_true] at h;exact h.1
 | q::l,i,h,k+1,o,hk=>by
  simp only[ahb,Bool.and_eq_true] at h;have:=ZE l (i+1) h.2 k o fZ
  rwa [show i+1+k=i+(k+1) by omega] at this
theorem UK:∀ (l:List Oper),ahc T l=false->∀ o∈l,sZ T o.op≠2
 | [],_,o,h=>by cases h
 | q::l,h,o,ho=>by
  simp only[ahc,Bool.or_eq_false_iff] at h;rcases List.mem_cons.1 ho with rfl|ho
  intro e;rw[e] at h;simp at h
  exact UK l h.2 o ho
theorem GR {all:Array Oper}(h:Ho T all=true){i j:Nat}{I oj:Oper}(g:i<j)(hi:all[i]?=some I)(hj:all[j]?=some oj)(U:clash (sZ T I.op) (sZ T oj.op)=true):Bef all i j:=by
 unfold Ho at h;rw[Bool.and_eq_true] at h;have h:=h.2;have J : all.toList[i]?=some I:=by simpa using hi
 have R : all.toList[j]?=some oj:=by simpa using hj
 cases C:ahc T all.toList with
 | false =>
  have h1:=UK _ C I (List.mem_of_getElem? J);have h2:=UK _ C oj (List.mem_of_getElem? R)
  exfalso
  simp only[clash,Bool.or_eq_true,Bool.and_eq_true] at U;rcases U with U|U
  exact h1 (Nat.eq_of_beq_eq_true U.1)
  exact h2 (Nat.eq_of_beq_eq_true U.1)
 | true =>
  rw[C] at h;simp only[cond_true] at h;have:=ZE _ 0 h j oj R;rw[Nat.zero_add] at this;have:=ZC _ 0 this i I (by rw[List.getElem?_take_of_lt g];exact J) U;rw[Nat.zero_add] at this;exact MS all.toList [] (λk o hk=>by simpa using hk) (λi b hb=>by simp[Dj] at hb) j i this
def patch (sl:List Tmp)(er ps:List PV):List PV:=(List.range ps.length).map λt=>if t∈sl then kY er t else kY ps t
theorem aam (sl:List Tmp)(er ps:List PV):(patch sl er ps).length=ps.length:=by simp[patch]
theorem UL {sl:List Tmp}{er ps:List PV}{t:Nat}(h:t<ps.length):kY (patch sl er ps) t=if t∈sl then kY er t else kY ps t:=by
 rw[Eh,List.getD_eq_getElem?_getD];simp[patch,h]
theorem ZF {sl:List Tmp}{er ps:List PV}(h:∀ t∈sl,Eqv (kY ps t) (kY er t)):AX ps (patch sl er ps):=by
 refine⟨by simp[patch],λt=>?_⟩
 by_cases ht:t<ps.length
 rw[UL ht]
 split
 rename_i U;exact h t U
 exact Eqv.refl _
 rw[xh (Nat.le_of_not_lt ht),xh dO];exact Eqv.refl _
theorem VG {sl:List Tmp}{er ps:List PV}(T:er.length=ps.length):∀ t∈sl,kY (patch sl er ps) t=kY er t:=by
 intro t U
 by_cases ht:t<ps.length
 rw[UL ht,if_pos U]
 rw[xh dO,xh (by rw[T];exact Nat.le_of_not_lt ht)]
theorem Bef.listed {all:Array Oper}{listed:Array Bool}(U:∀ j o,all[j]?=some o->listed.getD j true=true->∀ e∈o.after,Region.binds .any e=true->listed.getD e.on true=true){i j:Nat}(h:Bef all i j):listed.getD j true=true->listed.getD i true=true:=by
 induction h with
 | one h1 h2 J=>intro h;exact U _ _ h1 h _ h2 J
 | trans _ _ T R=>intro h;exact T (R h)
theorem xU {listed:Array Bool}{i j:Nat}(hi:listed.getD i true=false):(listed.setIfInBounds i true).getD j true=true↔(j=i\/listed.getD j true=true):=by
 have T:i<listed.size:=by
  rcases Nat.lt_or_ge i listed.size with h|h
  exact h
  simp[Array.getElem?_eq_none h] at hi
 by_cases U:i=j
 subst U;simp[T]
 rw[getD_set_ne true U];constructor
 intro h;exact .inr h
 rintro (h|h)
 exact absurd h.symm U
 exact h
theorem Bef.ready {all:Array Oper}{listed:Array Bool}(T:∀ j o,all[j]?=some o->listed.getD j true=true->∀ e∈o.after,Region.binds .any e=true->listed.getD e.on true=true)
  {i j:Nat} (h:Bef all i j):∀ o,all[j]?=some o->(∀ e∈o.after,Region.binds .any e=true->listed.getD e.on true=true)->listed.getD i true=true:=by
 induction h with
 | one h1 h2 R=>intro o ho U;rw[h1] at ho;cases ho;exact U _ h2 R
 | trans h1 h2 ih1 ih2 =>
  intro o ho U;exact h1.listed T (ih2 o ho U)
end
end Go.Pv
