import Derived.MapKept
import Derived.Test.YtchmoabpofnbaaaGreatB03
set_option linter.all false
namespace Go.Pv
open Go
theorem yK.re {w0 w w' : World}{L Y Y' : Nat->Prop}{σ σ' : Sg}{st st' : St}(H:yK w0 L w Y σ st)(R:Nat->Nat->Nat->Nat->Prop)
  (hR:∀ b r c h sz U,lM st' b r c h sz U->∃ b0 r0,lM st b0 r0 c h sz U/\R b r b0 r0)
  (hi:∀ b r T J b0 r0,R b r b0 r0->R T J b0 r0->b=T/\r=J)
  (hk:∀ b r c h sz U,lM st b r c h sz U->VO w Y h sz U->VO w' Y' h sz U)
  (hs:∀ b r c h sz U T x l,lM st b r c h sz U->iO st' T=some x->σ' T=some l->l.cb≠h.ν):yK w0 L w' Y' σ' st':=by
 refine⟨λb r c h sz U k=>?_,λb r c h sz U k=>?_,λb r c h sz U T J c' h' sz' g k I e=>?_,λb r c h sz U T x l k hx hl=>?_⟩
 obtain⟨b0,r0,k0,_⟩:=hR _ _ _ _ _ _ k;exact hk _ _ _ _ _ _ k0 (H.rep _ _ _ _ _ _ k0)
 obtain⟨b0,r0,k0,_⟩:=hR _ _ _ _ _ _ k;exact H.old _ _ _ _ _ _ k0
 obtain⟨b0,r0,k0,g0⟩:=hR _ _ _ _ _ _ k;obtain⟨b1,r1,k1,g1⟩:=hR _ _ _ _ _ _ I;obtain⟨e1,C,e3⟩:=H.one _ _ _ _ _ _ _ _ _ _ _ _ k0 k1 e;subst e1 C;obtain⟨f1,f2⟩:=hi _ _ _ _ _ _ g0 g1;exact⟨f1,f2,e3⟩
 obtain⟨b0,r0,k0,_⟩:=hR _ _ _ _ _ _ k;exact hs _ _ _ _ _ _ _ _ _ k0 hx hl
theorem SW.retag {T:Tab}{C:Ctx T}{w:World}{Y:Nat->Prop}{σ:Sg}{ps:List PV}{vs:List Value}{st st' : St}{n:Nat}(H:SW C w Y σ ps vs st n)
  (U:∀ b x,iO st' b=some x->∃ I,iO st b=some I/\(x=I\/∃ sz rows l,I=.arr false sz rows/\x=.kH sz rows/\σ b=some l)) (J:yK C.w0 C.L w Y σ st'):SW C w Y σ ps vs st' n:=by
 refine⟨H.vals,⟨?_,?_⟩,H.next,H.vg,H.y0,H.c0,H.vk,H.mf,?_,H.wz,H.fix,J⟩
 intro b x hx;obtain⟨I,h0,e⟩:=U b x hx;rcases e with rfl|⟨sz,rows,l,rfl,rfl,hl⟩
 exact H.store.blk b x h0
 rcases H.store.blk b _ h0 with ⟨l',R,hB⟩|⟨hn,_⟩
 refine .inl ⟨l',R,?_⟩;unfold gJ at hB |-;exact⟨hB.1,hB.2.1,hB.2.2.1,hB.2.2.2.1,hB.2.2.2.2.1,hB.2.2.2.2.2.1 rfl⟩
 rw[hl] at hn;cases hn
 intro b b' x x' l l' hx hx' hl R e;obtain⟨_,h0,_⟩:=U b x hx;obtain⟨_,g,_⟩:=U b' x' hx';exact H.store.inj _ _ _ _ _ _ h0 g hl R e
 intro b x l hx hl;obtain⟨_,h0,_⟩:=U b x hx;exact H.own _ _ _ h0 hl
section
variable {P:Program}{T:Tab}(hT:jg P T){C:Ctx T}{o:Oper}{a:Act}{w:World}{Y:Nat->Prop}{σ:Sg}{ps:List PV}{st:St}{n id:Nat}{K:PV->Dl->Prop}{lk:Nat->Option jq}
 (H:SW C w Y σ ps a.tmps.toList st n) (hlk:∀ b x,lk b=some x->iO st b=some x) (hid:σ id=none/\T.qJ<=id)
include hT H hlk hid in
theorem afS {t:TypeId}{len:Nat}{parts:Array (Nat×Operand)}(ho:o.op=.buildSlice t len parts)(h:ahe T (iK.jd P T) t len parts ps lk id K):nY P C o a w σ ps st n id K:=by
 unfold ahe at h
 split at h
 ·rename_i agg size z0 plain esz bytes z e;obtain⟨et,hu,rfl,_,hz⟩:=ku hT e
  cases hb:(jo (P.cellsOf et)&&Nat.beq (lG z) (P.cellsOf et)&&Nat.ble (len*P.cellsOf et) 16777216&&xZ (evP T ps parts.toList)&&Nat.beq (P.cellsOf et) 1) with
  | false=>rw[hb] at h;exact h.elim
  | true =>
   rw[hb] at h;simp only[cond_true] at h;simp only[Bool.and_eq_true,kX] at hb;obtain⟨⟨⟨⟨hb1,hb2⟩,hb3⟩,hb4⟩,hb5⟩:=hb;have hone:=Nat.eq_of_beq_eq_true hb5;have hpos:0<P.cellsOf et:=by omega
   have hzl:=Nat.eq_of_beq_eq_true hb2;have hle:=Nat.le_of_ble_eq_true hb3
   split at h
   rename_i O;obtain⟨vcs,hrep,hvl,hrun⟩:=uq hT H ho hu hz hb1 hzl hle hb4 O;have hvl0:vcs.size=0:=by simpa using hvl
   obtain⟨Y2,σ2,H2,U,hoff⟩:=SW.V4 (a:=a) (m:=0) (arr:=vcs) (rows:=[]) (sz:=1) (x:=.kH 1 []) H hid (.inr ⟨rfl,by simp⟩) et ah aB (by simpa using hvl0) (by
    intro w' Y' _ _;simp[jh])
   exact⟨_,_,_,_,Y2,σ2,h,.inl hrun,by simp only[iW,ql];exact H2,U,hoff⟩
   ·rename_i b r m O
    split at h
    ·rename_i sz rows hbk;obtain⟨vcs,hrep,hvl,hrun⟩:=uq hT H ho hu hz hb1 hzl hle hb4 O;have hst:=hlk _ _ hbk;unfold gB at hrep;obtain⟨v,vs',hvs,hv,hnil⟩:=hrep;unfold gB at hnil;subst hnil;have hvl1:vcs.size=1:=by rw[hvl,hone]
     have hv0:vcs[0]?=some v:=by rw[<- Array.getElem?_toList,hvs];rfl
     obtain⟨R,hwv,hloc⟩:∃ R:Hdr,Rep w Y iQ (.ow R sz ((rows.drop r).take m)) v/\((rows.drop r).take m≠[]->∃ l,σ b=some l/\R.ν=l.cb/\R.o=l.co+r*l.sz/\R.o+R.cap*l.sz=l.tot/\((rows.drop r).take m).length<=R.cap):=by
      unfold Rep at hv;rcases hv with ⟨l2,cap,hl2,ey2,hcap,htot,hrm⟩|⟨hm1,a0,ey2⟩
      have hB2:gJ w Y σ l2 (.arr false sz rows):=gJ.wW H hlk hbk hl2;unfold gJ at hB2;obtain⟨_,hsz2,hpos2,⟨hle2,hnr2⟩,hrows2,hm2,_⟩:=hB2;have hlen:((rows.drop r).take m).length=m:=by rw[List.length_take,List.length_drop];omega
      refine⟨⟨l2.cb,l2.co+r*l2.sz,cap⟩,?_,λ_=>⟨l2,hl2,rfl,rfl,htot,by rw[hlen];exact hcap.1⟩⟩;unfold Rep
      by_cases hm0:m=0
      subst hm0;exact .inr ⟨by simp,_,cap,ey2⟩
      exact .inl ⟨λe=>by rw[e] at hlen;simp at hlen;exact hm0 hlen.symm,by rw[hlen];exact ey2,by rw[hlen];exact hcap.1⟩
      subst hm1;refine⟨⟨0,0,0⟩,?_,λh=>absurd aB h⟩;unfold Rep;exact .inr ⟨by simp,a0,0,ey2⟩
     cases hbi:Nat.beq b id with
     | true=>rw[hbi] at h;exact h.elim
     | false =>
     rw[hbi] at h;have hbid:b≠id:=λe=>by subst e;rw[Nat.beq_refl] at hbi;cases hbi
     generalize hes:(rows.drop r).take m=es at hwv hloc;have h:∀ R,K (.os id 0 1) [(b,none),(id,some (.kH 1 [[.ow R sz ((rows.drop r).take m)]]))]:=h;rw[hes] at h
     obtain⟨Y2,σ2,H2,U,hoff⟩:=SW.V5 (a:=a) (m:=1) (arr:=vcs) (rows:=[[.ow R sz es]]) (sz:=1) H hid et ah aB ah (by
      intro w' Y' hk hb;unfold jh;refine⟨⟨rfl,rfl⟩,?_,by unfold jh;trivial⟩;rw[jc.iff];intro i p hi
      cases i with
      | zero =>
       simp only[List.getElem?_cons_zero,Option.some.injEq] at hi;subst hi;exact⟨v,by rw[cell_of_block hb];simpa using hv0,hk _ _ hwv⟩
      | succ i=>simp at hi)
     have hb1:iO (nI st id (some (.arr false 1 [[.ow R sz es]]))) b=some (.arr false sz rows):=by rw[iG,if_neg (λe=>hbid e.symm)];exact hst
     have look:∀ c x,iO (nI (nI st b none) id (some (.kH 1 [[.ow R sz es]]))) c=some x->(c=id/\x=.kH 1 [[.ow R sz es]])\/(c≠id/\c≠b/\iO (nI st id (some (.arr false 1 [[.ow R sz es]]))) c=some x):=by
      intro c x hx;rw[iG] at hx
      by_cases hc:id=c
      rw[if_pos hc] at hx;cases hx;exact .inl ⟨hc.symm,rfl⟩
      rw[if_neg hc,iG] at hx
      by_cases hc2:b=c
      rw[if_pos hc2] at hx;cases hx
      rw[if_neg hc2] at hx;exact .inr ⟨λe=>hc e.symm,λe=>hc2 e.symm,by rw[iG,if_neg hc];exact hx⟩
     have hidl:∃ l,σ2 id=some l:=by
      unfold Rep at U;rcases U with ⟨l,_,hl,_⟩|⟨h0,_⟩
      exact⟨l,hl⟩
      cases h0
     obtain⟨lid,hlid⟩:=hidl
     have ow:∀ {b' r' c' h' I g},lM (nI (nI st b none) id (some (.kH 1 [[.ow R sz es]]))) b' r' c' h' I g ->
       (b'=id/\r'=0/\c'=0/\h'=R/\I=sz/\g=es/\es≠[])\/(b'≠id/\lM (nI st id (some (.arr false 1 [[.ow R sz es]]))) b' r' c' h' I g):=by
      rintro b' r' c' h' I g ⟨sz0,rs,rw0,g1,g2,g3,g4⟩
      rcases look _ _ g1 with ⟨e0,g5⟩|⟨e1,e2,g1⟩
      cases g5
      cases r' with
      | succ r'=>simp at g2
      | zero =>
       simp only[List.getElem?_cons_zero,Option.some.injEq] at g2;subst g2
       cases c' with
       | succ c'=>simp at g3
       | zero =>
        simp only[List.getElem?_cons_zero,Option.some.injEq,PV.ow.injEq] at g3;obtain⟨f1,f2,f3⟩:=g3;subst f1 f2 f3;exact .inl ⟨e0,rfl,rfl,rfl,rfl,rfl,g4⟩
      exact .inr ⟨e1,⟨sz0,rs,rw0,g1,g2,g3,g4⟩⟩
     have nr:es≠[]->∃ l,σ2 b=some l/\R.ν=l.cb/\VO (w.alloc (.cells vcs et)) Y2 R sz es:=by
      intro J;obtain⟨l,hl,g1,g2,g3,g4⟩:=hloc J;have hl2:σ2 b=some l:=by rw[hoff b hbid];exact hl
      refine⟨l,hl2,g1,?_⟩;have hB2:gJ (w.alloc (.cells vcs et)) Y2 σ2 l (.arr false sz rows):=gJ.wW H2 (λ_ _ h=>h) hb1 hl2;unfold gJ at hB2;obtain⟨⟨arr2,ty2,ha2,has2⟩,hsz2,hpos2,_,hrows2,hm2,_⟩:=hB2;rw[hsz2] at g2 g3;refine⟨by rw[g1];exact hm2 rfl,hpos2,⟨arr2,ty2,by rw[g1];exact ha2,by rw[has2,g3]⟩,g4,?_⟩;rw[g1,g2,<- hes];exact (hrows2.drop r _ _).take m _ _
     refine⟨_,_,_,_,Y2,σ2,h R,.inl hrun,?_,U,hoff⟩;simp only[iW,ql];refine H2.retag (λc x hx=>?_) ⟨λb' r' c' h' I g hh=>?_,λb' r' c' h' I g hh=>?_,λb' r' c' h' I g b2 r2 c2 h2 sz3 es3 hh hh' e=>?_,λb' r' c' h' I g b2 x l' hh hx hl'=>?_⟩
     rcases look _ _ hx with ⟨rfl,rfl⟩|⟨_,_,hx⟩
     exact⟨_,by rw[iG,if_pos rfl],.inr ⟨_,_,lid,rfl,rfl,hlid⟩⟩
     exact⟨_,hx,.inl rfl⟩
     rcases ow hh with ⟨_,_,_,rfl,rfl,rfl,J⟩|⟨_,hh⟩
     exact (nr J).choose_spec.2.2
     exact H2.nest.rep _ _ _ _ _ _ hh
     rcases ow hh with ⟨_,_,_,rfl,rfl,rfl,J⟩|⟨_,hh⟩
     obtain⟨l,hl,g1,_⟩:=nr J;rw[g1];exact H2.own b _ l hb1 hl
     exact H2.nest.old _ _ _ _ _ _ hh
     rcases ow hh with ⟨e1,e2,e3,e4,_,_,J⟩|⟨k1,hh1⟩<;>rcases ow hh' with ⟨f1,f2,f3,f4,_,_,hne'⟩|⟨k2,hh2⟩
     exact⟨by rw[e1,f1],by rw[e2,f2],by rw[e3,f3]⟩
     obtain⟨l,hl,g1,_⟩:=nr J;exact absurd (by rw[<- e,e4,g1]) (H2.nest.sep _ _ _ _ _ _ _ _ _ hh2 hb1 hl)
     obtain⟨l,hl,g1,_⟩:=nr hne';exact absurd (by rw[e,f4,g1]) (H2.nest.sep _ _ _ _ _ _ _ _ _ hh1 hb1 hl)
     exact H2.nest.one _ _ _ _ _ _ _ _ _ _ _ _ hh1 hh2 e
     have hx2:b2≠b/\∃ z,iO (nI st id (some (.arr false 1 [[.ow R sz es]]))) b2=some z:=by
      rcases look _ _ hx with ⟨rfl,_⟩|⟨_,e2,hx⟩
      exact⟨λe=>hbid e.symm,_,by rw[iG,if_pos rfl]⟩
      exact⟨e2,_,hx⟩
     obtain⟨hxi,z,hz⟩:=hx2;rcases ow hh with ⟨_,_,_,rfl,_,_,J⟩|⟨_,hh⟩
     obtain⟨l,hl,g1,_⟩:=nr J;rw[g1];exact λe=>hxi (H2.store.inj b2 b z _ l' l hz hb1 hl' hl e)
     exact H2.nest.sep _ _ _ _ _ _ _ _ _ hh hz hl'
    exact h.elim
   exact h.elim
 exact h.elim
include hT H hlk hid in
theorem afT {args:Array Operand}{ts:Array TypeId}{t u:TypeId}{tl:List TypeId}{b r m c:Nat}(ho:o.op=.call { callee:=.builtin .append,args:=args,argTypes:=ts })(he:evA T ps args.toList=[.os b r m,.os c 0 1])(ht:ts.toList=t::u::tl)
  (h:ahf T (iK.jd P T) t u b r m c lk id K):nY P C o a w σ ps st n id K:=by
 have hargs:=rU H args.toList;unfold ahf at h;generalize hvs:args.toList.map a.eval=vs at hargs;rw[he] at hargs;obtain⟨sv,xv,rfl,hs,hx⟩:=ND hargs;have ht':=Qp ht;subst ht'
 split at h
 ·rename_i a1 s1 z1 p1 esz bytes z a2 s2 z2 p2 k1 k2 k3 e1 e2;obtain⟨et,hu,rfl,rfl,hz⟩:=ku hT e1;obtain⟨eu,hu2,_⟩:=ku hT e2
  split at h
  ·rename_i sz rows sz' row hbk hck
   cases hb:(jo (P.cellsOf et)&&Nat.beq (lG z) (P.cellsOf et)&&Nat.beq sz (P.cellsOf et)&&Nat.beq sz' (P.cellsOf et)&&(bif Nat.beq b c then false else bif Nat.beq b id then false else bif Nat.beq c id then false else true)) with
   | false=>rw[hb] at h;exact h.elim
   | true =>
    rw[hb] at h;simp only[cond_true] at h;rw[Bool.and_eq_true,Bool.and_eq_true,Bool.and_eq_true,Bool.and_eq_true,kX] at hb;obtain⟨⟨⟨⟨hb1,hb2⟩,hb3⟩,hb4⟩,I⟩:=hb;have hinf:=jD hb1;have hzl:=Nat.eq_of_beq_eq_true hb2;have hsz:=Nat.eq_of_beq_eq_true hb3;have hsz':=Nat.eq_of_beq_eq_true hb4;subst hsz hsz'
    have hne:b≠c/\b≠id/\c≠id:=by
     refine⟨λe=>?_,λe=>?_,λe=>?_⟩
     subst e;rw[Nat.beq_refl] at I;cases I
     subst e;rw[Nat.beq_refl] at I;cases hq:Nat.beq b c<;>rw[hq] at I<;>cases I
     subst e;rw[Nat.beq_refl] at I;cases hq:Nat.beq b c<;>rw[hq] at I<;>(first|cases I|(cases hq2:Nat.beq b c<;>simp_all))
    have hpos:0<P.cellsOf et:=by
     rcases Nat.eq_zero_or_pos (P.cellsOf et) with h0|h0
     rw[h0] at hb1;simp[jo] at hb1
     exact h0
    cases hi:P.info? et with
    | none=>exact absurd hi hinf
    | some inf =>
    have hbe:=L8 hi;obtain⟨g1,g2,h⟩:=h;have g1:(2*(m+1)+192)*P.bytesOf et<=140737488355328:=g1;have g2:m+1<=4611686018427387904:=g2;have h:K (.os id 0 (m+1)) [(b,none),(c,none),(id,some (.kH (P.cellsOf et) ((rows.drop r).take m++[row])))]:=h;have hst:=hlk _ _ hbk;have hsc:=hlk _ _ hck
    obtain⟨lc,capc,hlc,rfl,_,_,_⟩:∃ l cap,σ c=some l/\xv=.slice (some ⟨l.cb,l.co+0*l.sz,none⟩) 1 cap/\1<=cap/\l.co+0*l.sz+cap*l.sz=l.tot/\0+1<=l.nr:=by
     unfold Rep at hx;rcases hx with ⟨l,cap,h1,h2,h3,h4,h5⟩|⟨h0,_⟩
     exact⟨l,cap,h1,h2,h3.1,h4,h5⟩
     cases h0
    have hBc:gJ w Y σ lc (.kH (P.cellsOf et) [row]):=gJ.wW H hlk hck hlc;unfold gJ at hBc;obtain⟨_,_,_,_,hrowc,_⟩:=hBc;obtain⟨vs,⟨v1,hone⟩,v2,htr⟩:=hrowc.vals
    have hvs2:vs.length=1*P.cellsOf et/\(vs=[]\/∃ b o,some (⟨lc.cb,lc.co+0*lc.sz,none⟩:Addr)=some ⟨b,o,none⟩/\∀ i v,vs[i]?=some v->w.cell? ⟨b,o+i,none⟩=some v) :=
     ⟨by simpa using v1,.inr ⟨lc.cb,lc.co+0*lc.sz,rfl,by simpa using v2⟩⟩
    have look:∀ (x:jq) d y,iO (nI (nI (nI st b none) c none) id (some x)) d=some y->(d=id/\y=x)\/(d≠id/\d≠b/\d≠c/\iO st d=some y):=by
     intro x d y hy;rw[iG] at hy
     by_cases h1:id=d
     rw[if_pos h1] at hy;cases hy;exact .inl ⟨h1.symm,rfl⟩
     rw[if_neg h1,iG] at hy
     by_cases h2:c=d
     rw[if_pos h2] at hy;cases hy
     rw[if_neg h2,iG] at hy
     by_cases h3:b=d
     rw[if_pos h3] at hy;cases hy
     rw[if_neg h3] at hy;exact .inr ⟨λe=>h1 e.symm,λe=>h3 e.symm,λe=>h2 e.symm,hy⟩
    let R:Nat->Nat->Nat->Nat->Prop:=λd k d0 k0=>(d=id/\d0=b/\k0=r+k/\k<((rows.drop r).take m).length)\/(d=id/\d0=c/\k0=0/\k=((rows.drop r).take m).length)\/(d≠id/\d≠b/\d≠c/\d0=d/\k0=k)
    have hRi:∀ d k d' k' d0 k0,R d k d0 k0->R d' k' d0 k0->d=d'/\k=k':=by
     intro d k d' k' d0 k0 h1 h2;have hn1:=hne.1;rcases h1 with ⟨a1,a2,a3,a4⟩|⟨a1,a2,a3,a4⟩|⟨a1,a2,a3,a4,a5⟩<;>rcases h2 with ⟨c1,c2,c3,c4⟩|⟨c1,c2,c3,c4⟩|⟨c1,c2,c3,c4,c5⟩<;>first|(exact⟨by omega,by omega⟩)|(exfalso;omega)
    have hRo:∀ d k j g s2 es,lM (nI (nI (nI st b none) c none) id (some (.kH (P.cellsOf et) ((rows.drop r).take m++[row])))) d k j g s2 es->∃ d0 k0,lM st d0 k0 j g s2 es/\R d k d0 k0:=by
     rintro d k j g s2 es ⟨sz0,rs,rw0,q1,q2,q3,q4⟩
     rcases look _ _ _ q1 with ⟨e0,e5⟩|⟨e1,e2,e3,e4⟩
     cases e5
     by_cases hk:k<((rows.drop r).take m).length
     rw[List.getElem?_append_left hk] at q2;refine⟨b,r+k,⟨_,rows,rw0,hst,?_,q3,q4⟩,.inl ⟨e0,rfl,rfl,hk⟩⟩;rw[List.getElem?_take,List.getElem?_drop] at q2
     split at q2
     exact q2
     cases q2
     rw[List.getElem?_append_right ah] at q2
     have hk2:k=((rows.drop r).take m).length:=by
      by_cases hh:k-((rows.drop r).take m).length=0
      omega
      obtain⟨i,hi2⟩:∃ i,k-((rows.drop r).take m).length=i+1:=⟨_,(Nat.succ_pred_eq_of_ne_zero hh).symm⟩;rw[hi2] at q2;simp at q2
     refine⟨c,0,⟨_,[row],rw0,hsc,?_,q3,q4⟩,.inr (.inl ⟨e0,rfl,rfl,hk2⟩)⟩;rw[hk2] at q2;simpa using q2
     exact⟨d,k,⟨sz0,rs,rw0,e4,q2,q3,q4⟩,.inr (.inr ⟨e1,e2,e3,rfl,rfl⟩)⟩
    have hml' : ((rows.drop r).take m++[row]).length=((rows.drop r).take m).length+1:=by simp
    obtain⟨U,hlb,hB⟩:∃ l,σ b=some l/\gJ w Y σ l (.kH (P.cellsOf et) rows):=by
     rcases H.store.blk b _ hst with hh|⟨_,_,_,e0⟩
     exact hh
     cases e0
    have hB' : gJ w Y σ U (.arr false (P.cellsOf et) rows):=by
     unfold gJ at hB |-;exact⟨hB.1,hB.2.1,hB.2.2.1,hB.2.2.2.1,hB.2.2.2.2.1,λ_=>hB.2.2.2.2.2,λe=>by cases e⟩
    obtain⟨sx,cap,rfl,hmc,hml,hr⟩:=ER hs (.inl ⟨U,hlb,hB'⟩)
    by_cases J:m+1<=cap
     
    unfold Rep at hs;rcases hs with ⟨l,cap',hl,e,⟨_,hc63⟩,htot,hnr⟩|⟨rfl,sx',e⟩
    cases e;rw[hlb] at hl;cases hl;unfold gJ at hB;obtain⟨⟨arr,tyb,ha,has⟩,hlsz,_,⟨hle,hlnr⟩,hrows,hm⟩:=hB;rw[hlsz] at htot
    have hbnd:U.co+r*P.cellsOf et+(m+1)*P.cellsOf et<=arr.size:=by
     rw[has,<- htot];have:=Nat.mul_le_mul_right (P.cellsOf et) J;omega
    obtain⟨w',hrun,W⟩:=vJ (P:=P) (o:=U.co+r*P.cellsOf et+m*P.cellsOf et) vs 0 w arr ha (by rw[hvs2.1];rw[Nat.add_mul] at hbnd;omega) hone;have W:Wrote w w' U.cb (U.co+r*P.cellsOf et+m*P.cellsOf et) arr tyb vs:=by simpa using W
    obtain⟨arr',h4,h5,h6⟩:=W.blk
    obtain⟨σ',H',hid',hoff⟩:=H.Zy hid (x':=.arr false (P.cellsOf et) ((rows.drop r).take m++[row])) (l':=⟨U.cb,U.co+r*P.cellsOf et,P.cellsOf et,U.tot,m+1⟩) hst (λ_ _ e=>by cases e) hlb hm rfl W.os W.tape W.output W.size W.other (by
     intro σ' _ hk;unfold gJ;refine⟨⟨arr',tyb,h4,by rw[h5,has]⟩,rfl,hpos,⟨by rw[hml',<- hml];show U.co+r*P.cellsOf et+(m+1)*P.cellsOf et<=U.tot;omega,by rw[hml',<- hml]⟩,?_,λ_=>hm,λh=>by cases h⟩;refine jh.app _ _ _ ?_ ?_
     obtain⟨us,⟨u1,_⟩,u2,u3⟩:=((hrows.drop r _ _).take m _ _).vals;refine u3 w' Y iQ U.cb _ hk (λi v hv=>?_);have hc:=u2 i v hv;rw[cell_of_block ha] at hc
     have hilt:i<us.length:=by
      by_cases hh:i<us.length
      exact hh
      rw[List.getElem?_eq_none (Nat.le_of_not_lt hh)] at hv;cases hv
     rw[u1,<- hml] at hilt;show w'.cell? ⟨U.cb,U.co+r*P.cellsOf et+i,none⟩=some v;rw[cell_of_block h4,h6,if_neg ah];exact hc
     refine htr w' Y iQ U.cb _ hk (λi v hv=>?_)
     have hilt:i<vs.length:=by
      by_cases hh:i<vs.length
      exact hh
      rw[List.getElem?_eq_none (Nat.le_of_not_lt hh)] at hv;cases hv
     show w'.cell? ⟨U.cb,U.co+r*P.cellsOf et+((rows.drop r).take m).length*P.cellsOf et+i,none⟩=some v;rw[<- hml,cell_of_block h4,h6,if_pos ah];rw[show U.co+r*P.cellsOf et+m*P.cellsOf et+i-(U.co+r*P.cellsOf et+m*P.cellsOf et)=i by omega];exact hv)
    have H2:SW C w' Y σ' ps a.tmps.toList (nI (nI (nI st b none) c none) id (some (.kH (P.cellsOf et) ((rows.drop r).take m++[row])))) (max n (id+1)):=by
     have K0:Keep w w' Y Y iQ iQ:=⟨λk _ hy=>W.other k (λe=>hy (e ▸ hm)),λ_ _ h=>h,Nat.le_of_eq W.size.symm,mg.refl _⟩;have notl:∀ {b' r' c' g sz2 es'},lM st b' r' c' g sz2 es'->g.ν≠U.cb:=λhh=>(H.nest.sep _ _ _ _ _ _ _ _ _ hh hst hlb).symm;refine H'.retag (λd x hx=>?_) (H.nest.re R hRo hRi (λ_ _ _ _ _ _ hh hN=>hN.keep K0 (W.other _ (notl hh)) (λh=>h)) λd k j g s2 es d' x l' hh hx hl'=>?_)
     rcases look _ _ _ hx with ⟨rfl,rfl⟩|⟨e1,e2,e3,e4⟩
     exact⟨_,by rw[iG,if_pos rfl],.inr ⟨_,_,_,rfl,rfl,hid'⟩⟩
     exact⟨x,by rw[iG,if_neg (λe=>e1 e.symm),iG,if_neg (λe=>e2 e.symm)];exact e4,.inl rfl⟩
     rcases look _ _ _ hx with ⟨rfl,rfl⟩|⟨e1,e2,e3,e4⟩
     rw[hid'] at hl';cases hl';show U.cb≠_;exact H.nest.sep _ _ _ _ _ _ _ _ U hh hst hlb
     exact H.nest.sep _ _ _ _ _ _ _ _ _ hh e4 (by rw[<- hoff d' e1];exact hl')
    refine sU ho (δ:=_) (cv:=.slice (some ⟨U.cb,U.co+r*U.sz,none⟩) (m+1) cap) (w':=w') (Y':=Y) (σ':=σ') (λty cs=>?_) (by simp only[iW,ql];exact H2) ?_ hoff h
    rw[hvs];have:=NF (P:=P) (w:=w) (ts:=tl) (ty:=ty) (x:=some ⟨U.cb,U.co+r*U.sz,none⟩) (sl:=m) (sc:=cap) (yc:=capc) (w':=w') hu hu2 hinf hvs2 J (λb o e=>by cases e;rw[hlsz];exact hrun) (λh=>by cases h) (λa h=>by cases h;rfl);simp only[builtin,Sem.run_bind];rw[this];rfl
    unfold Rep;refine .inl ⟨_,cap,hid',?_,⟨J,hc63⟩,?_,?_⟩
    rw[hlsz];simp
    simp;omega
    show 0+(m+1)<=m+1;omega
    cases e;omega
     
    have hold:∃ us:List Value,(us.length=m*P.cellsOf et/\(us=[]\/∃ b o,sx=some ⟨b,o,none⟩/\∀ i v,us[i]?=some v->w.cell? ⟨b,o+i,none⟩=some v)) /\
      (∀ (w' : World) (Y' : Nat->Prop) (b' o' : Nat),(∀ p v,Rep w Y iQ p v->Rep w' Y' iQ p v)->(∀ i v,us[i]?=some v->w'.cell? ⟨b',o'+i,none⟩=some v)->jh w' Y' iQ b' (P.cellsOf et) ((rows.drop r).take m) o'):=by
     rcases hr with hr|⟨b',o',e,_,_,hr⟩
     rw[hr] at hml |-;refine⟨[],⟨by rw[hml];simp,.inl rfl⟩,λ_ _ _ _ _ _=>by simp[jh]⟩
     obtain⟨us,⟨u1,_⟩,u2,u3⟩:=hr.vals;exact⟨us,⟨by rw[u1,<- hml],.inr ⟨b',o',e,u2⟩⟩,λw' Y' b' o' hk hc=>u3 w' Y' iQ b' o' hk hc⟩
    obtain⟨us,hus,hutr⟩:=hold
    obtain⟨cv,w',Y',σ',hrun,H',hrep,hoff⟩:=L9 (P:=P) (a:=a) (ty:=0) (x:=sx) (sc:=cap) (us:=us) (vs:=vs) (old:=(rows.drop r).take m) (new:=[row]) (ts:=tl) (yc:=capc) H hid hu hu2 hi hz.symm hpos hzl (sl:=m) hus hvs2 hml rfl
     (λw' Y' b' hk hc=>by
      refine jh.app _ _ _ (hutr w' Y' b' 0 hk (λi v hv=>hc i v ?_)) (htr w' Y' iQ b' _ hk (λi v hv=>?_))
      rw[List.getElem?_append_left]
      exact hv
      by_cases hh:i<us.length
      exact hh
      rw[List.getElem?_eq_none (Nat.le_of_not_lt hh)] at hv;cases hv
      have:=hc (us.length+i) v dm;rw[hus.1] at this;rw[<- hml];simpa using this) J (by rw[hbe] at g1;exact g1) g2
    have hidl:∃ l,σ' id=some l:=by
     unfold Rep at hrep;rcases hrep with ⟨l,_,hl,_⟩|⟨h0,_⟩
     exact⟨l,hl⟩
     simp at h0
    obtain⟨lid,hlid⟩:=hidl
    have up:∀ {d k j g s2 es},lM st d k j g s2 es->lM (nI st id (some (.arr false (P.cellsOf et) ((rows.drop r).take m++[row])))) d k j g s2 es\/d=id:=by
     rintro d k j g s2 es ⟨sz0,rs,rw0,q1,q2⟩
     by_cases hd:d=id
     exact .inr hd
     exact .inl ⟨sz0,rs,rw0,by rw[iG,if_neg (λe=>hd e.symm)];exact q1,q2⟩
    have hst1:∀ d x,d≠id->iO st d=some x->iO (nI st id (some (.arr false (P.cellsOf et) ((rows.drop r).take m++[row])))) d=some x:=λd x hd hx=>by rw[iG,if_neg (λe=>hd e.symm)];exact hx
    have hRo' : ∀ d k j g s2 es,lM (nI (nI (nI st b none) c none) id (some (.kH (P.cellsOf et) ((rows.drop r).take m++[row])))) d k j g s2 es->∃ d0 k0,lM (nI st id (some (.arr false (P.cellsOf et) ((rows.drop r).take m++[row])))) d0 k0 j g s2 es/\R d k d0 k0:=by
     intro d k j g s2 es hh;obtain⟨d0,k0,q1,q2⟩:=hRo _ _ _ _ _ _ hh;refine⟨d0,k0,(up q1).resolve_right λe=>?_,q2⟩;rcases q2 with ⟨_,q,_⟩|⟨_,q,_⟩|⟨q0,_,_,q,_⟩
     exact hne.2.1 (q ▸ e)
     exact hne.2.2 (q ▸ e)
     exact q0 (q ▸ e)
    have H2:SW C w' Y' σ' ps a.tmps.toList (nI (nI (nI st b none) c none) id (some (.kH (P.cellsOf et) ((rows.drop r).take m++[row])))) (max n (id+1)):=by
     refine H'.retag (λd x hx=>?_) (H'.nest.re R hRo' hRi (λ_ _ _ _ _ _ _ hN=>hN) λd k j g s2 es d' x l' hh hx hl'=>?_)
     rcases look _ _ _ hx with ⟨rfl,rfl⟩|⟨e1,e2,e3,e4⟩
     exact⟨_,by rw[iG,if_pos rfl],.inr ⟨_,_,lid,rfl,rfl,hlid⟩⟩
     exact⟨x,hst1 _ _ e1 e4,.inl rfl⟩
     rcases look _ _ _ hx with ⟨rfl,rfl⟩|⟨e1,e2,e3,e4⟩
     exact H'.nest.sep _ _ _ _ _ _ _ _ _ hh eQ hl'
     exact H'.nest.sep _ _ _ _ _ _ _ _ _ hh (hst1 _ _ e1 e4) hl'
    refine sU ho (δ:=_) (cv:=cv) (w':=w') (Y':=Y') (σ':=σ') (λty' cs=>?_) (by simp only[iW,ql];exact H2) (by rw[<- hml] at hrep;exact hrep) hoff h;rw[hvs];simp only[builtin,Sem.run_bind];have:Builtin.append_ (t::u::tl).toArray ty' [Value.slice sx m cap,Value.slice (some ⟨lc.cb,lc.co+0*lc.sz,none⟩) 1 capc].toArray=Builtin.append_ (t::u::tl).toArray 0 #[Value.slice sx m cap,Value.slice (some ⟨lc.cb,lc.co+0*lc.sz,none⟩) [row].length capc]:=rfl
    erw [this,hrun]
    rfl
  exact h.elim
 exact h.elim
end
end Go.Pv
namespace Go.Pv
open Go Go.MapKept
theorem V9 {P:Program}{T:Tab}(hT:jg P T){t:TypeId}{agg:Bool}{plain:Option (List Nat)}{size sz:Nat}{z:Option (List PV)}{zs:List PV}
  (h:T t=⟨true,agg,size,z,plain,.map sz zs⟩):∃ k e,P.underlying t=some (.map k e)/\P.underlying k=some (.int .i64)/\VL P e=some zs/\sz=P.cellsOf e:=by
 obtain⟨i,d,h1,h2,g,J,h5,I,C,U⟩:=um hT h rfl;cases d<;>simp at U
 rename_i k e;unfold Nc at U
 split at U
 rename_i z hk R;cases U;exact⟨k,e,h2,hk,R,rfl⟩
 cases U
theorem ZE {P:Program}{t:TypeId}{z:List PV}(h:VL P t=some z):∃ zs:List Value,(∀ w,(zeroValue t).run P w=.ok (.agg zs.toArray) w)/\∀ w Y σ,gB w Y σ z zs:=by
 unfold VL at h
 split at h
 rename_i i hi
 split at h
 rename_i cs U;cases h;refine⟨cs.toList,λw=>?_,λw Y σ=>EO w Y σ _⟩;simp[zeroValue,typeInfo,program,Sem.run,Result.andThen,hi,U]
 cases h
 cases h
theorem mV.length {w:World}{Y:Nat->Prop}:∀ {U:List MapEntry} {rows:List (List PV)},mV w Y U rows->U.length=rows.length
 | [],_,h=>by unfold mV at h;subst h;rfl
 | _::U,_,⟨n,cs,rows',h1,_,_,h5⟩=>by subst h1;simp[mV.length h5]
theorem yM {n k:Int}{e:MapEntry}{U:List MapEntry}{i:Nat}(he:e.key=.int .i64 k) :
  Instr.findNow (.int .i64) (.int .i64 n) (e::U) i=if n=k then some (some (i,e.val)) else Instr.findNow (.int .i64) (.int .i64 n) U (i+1):=by
 have h1:Instr.sameNow (.int .i64) (.int .i64 n) e.key=some (n==k):=by rw[he];simp[Instr.sameNow]
 rw[Instr.findNow,h1]
 by_cases h:n=k
 subst h;simp
 have:(n==k)=false:=by simpa using h
 rw[this,if_neg h]
theorem mV.find {w:World}{Y:Nat->Prop}(n:Int):∀ (U:List MapEntry) (rows:List (List PV)) (i:Nat),mV w Y U rows ->
  (Aa rows n=none/\Instr.findNow (.int .i64) (.int .i64 n) U i=some none) \/
  ∃ j e cs vs,Aa rows n=some cs/\Instr.findNow (.int .i64) (.int .i64 n) U i=some (some (i+j,e.val))/\U[j]?=some e/\e.key=.int .i64 n/\e.val=.agg (List.toArray vs)/\gB w Y iQ cs vs
 | [],rows,i,h=>by unfold mV at h;subst h;exact .inl ⟨rfl,rfl⟩
 | e::U,rows,i,⟨k,cs,rows',h1,h2,⟨vs,h3,h4⟩,h5⟩=>by
  subst h1
  by_cases hk:k=n
  subst hk;refine .inr ⟨0,e,cs,vs,by simp[Aa],?_,rfl,h2,h3,h4⟩;rw[yM h2,if_pos rfl];rfl
  have T : ¬ n=k:=λe=>hk e.symm;rcases mV.find n U rows' (i+1) h5 with ⟨g1,g2⟩|⟨j,I,J,R,g1,g2,g3,g4⟩
  refine .inl ⟨by simp[Aa,hk,g1],?_⟩;rw[yM h2,if_neg T,g2]
  refine .inr ⟨j+1,I,J,R,by simp[Aa,hk,g1],?_,by simpa using g3,g4⟩;rw[yM h2,if_neg T,g2]
  congr 3;omega
theorem mV.push {w:World}{Y:Nat->Prop}{n:Int}{cs:List PV}{vs:List Value}{b:Nat}(hr:gB w Y iQ cs vs):∀ (U:List MapEntry) (rows:List (List PV)),mV w Y U rows->Aa rows n=none ->
  mV w Y (U++[{ key:=.int .i64 n,val:=.agg vs.toArray,born:=b }]) (Pg rows n cs)
 | [],rows,h,_=>by unfold mV at h;subst h;exact⟨n,cs,[],rfl,rfl,⟨vs,rfl,hr⟩,rfl⟩
 | e::U,rows,⟨k,ks,rows',h1,h2,h3,h5⟩,O=>by
  subst h1
  by_cases hk:k=n
  subst hk;simp[Aa] at O
  simp[Aa,hk] at O;simp only[Pg,if_neg hk,List.cons_append];exact⟨k,ks,_,rfl,h2,h3,mV.push hr U rows' h5 O⟩
theorem mV.modify {w:World}{Y:Nat->Prop}{n:Int}{cs:List PV}{vs:List Value}(hr:gB w Y iQ cs vs):∀ (U:List MapEntry) (rows:List (List PV)) (i j:Nat) (v:Value),mV w Y U rows ->
  Instr.findNow (.int .i64) (.int .i64 n) U i=some (some (i+j,v))->mV w Y (U.modify j λe=>{ e with key:=.int .i64 n,val:=.agg vs.toArray }) (Pg rows n cs)
 | [],_,i,j,v,_,h=>by simp[Instr.findNow] at h
 | e::U,rows,i,j,v,⟨k,ks,rows',h1,h2,h3,h5⟩,h=>by
  subst h1
  by_cases hk:k=n
  subst hk
  have hj:j=0:=by
   rw[yM h2,if_pos rfl] at h;simp at h;omega
  subst hj;simp only[Pg,if_pos rfl];exact⟨k,cs,rows',rfl,rfl,⟨vs,rfl,hr⟩,h5⟩
  have J : ¬ n=k:=λe=>hk e.symm;rw[yM h2,if_neg J] at h
  have T:∀ (l:List MapEntry) (a m:Nat) (x:Value),Instr.findNow (.int .i64) (.int .i64 n) l a=some (some (m,x))->a<=m:=by
   intro l
   induction l with
   | nil=>intro a m x h;simp[Instr.findNow] at h
   | cons y l ih =>
    intro a m x h;rw[Instr.findNow] at h
    split at h
    cases h;exact Nat.le_refl _
    have:=ih _ _ _ h;omega
    cases h
  have I:=T _ _ _ _ h;obtain⟨R,rfl⟩:∃ R,j=R+1:=⟨j-1,by omega⟩;simp only[Pg,if_neg hk];refine⟨k,ks,_,rfl,h2,h3,?_⟩;exact mV.modify hr U rows' (i+1) R v h5 (by rw[h];congr 2;congr 1;omega)
section
variable {P:Program}{T:Tab}(hT:jg P T){C:Ctx T}{o:Oper}{a:Act}{w:World}{Y:Nat->Prop}{σ:Sg}{ps:List PV}{st:St}{n id:Nat}{K:PV->Dl->Prop}{lk:Nat->Option jq}
 (H:SW C w Y σ ps a.tmps.toList st n) (hlk:∀ b x,lk b=some x->iO st b=some x) (hid:σ id=none/\T.qJ<=id)
include H hid in
theorem ace {t:TypeId}(ho:o.op=.makeMap t none)(h:Zn T t id K):nY P C o a w σ ps st n id K:=by
 unfold Zn at h
 split at h
 obtain⟨Y',σ',J,hs,_,_,U⟩:=H.adu hid (.map #[] 0) ⟨w.heap.size,0,0,0,0⟩ rfl (.map []) (λ_ _ e=>by cases e) (by
  intro w' Y' σ' hk R hb _;unfold gJ;exact⟨⟨#[],0,hb,by simp[mV]⟩,R⟩)
 refine⟨_,_,.map (some w.heap.size),_,Y',σ',h,.inl ?_,J,?_,U⟩
 simp[execOp,ho,Instr.makeMap,newObj,Sem.run,Result.andThen]
 unfold Rep;exact⟨_,hs,rfl⟩
 exact h.elim
include hT H hlk in
theorem acf {args:Array Operand}{ts:Array TypeId}{t:TypeId}{b:Nat}(ho:o.op=.call { callee:=.builtin .len,args:=args,argTypes:=ts })(he:evA T ps args.toList=[.mp b])(ht:ts.toList=[t])
  (h:Zm T (iK.jd P T) t b lk K):nY P C o a w σ ps st n id K:=by
 have U:=rU H args.toList;generalize I:args.toList.map a.eval=vs at U;unfold Zm at h
 split at h
 rename_i e;obtain⟨k,et,hu,_⟩:=V9 hT e
 split at h
 rename_i rows hb;rw[he] at U;obtain⟨u,rfl,R⟩:=Ia U;have J:=Gj ht;subst J;unfold Rep at R;obtain⟨l,hs,rfl⟩:=R;have hB:gJ w Y σ l (.map rows):=gJ.wW H hlk hb hs;unfold gJ at hB;obtain⟨⟨es,g,h1,h2⟩,_⟩:=hB;have hl:=h2.length;refine rC H ho (cv:=.int .i64 rows.length) (λty cs=>?_) dB h;rw[I];simp[builtin,Builtin.len_,jA hu,Jo,MapKept.run_getObj_map h1,Result.andThen,<- hl]
 exact h.elim
 exact h.elim
include hT H hlk in
theorem acg {t:TypeId}{m k:Operand}(ho:o.op=.lookup t m k true)(h:Zl T (iK.jd P T) t (oD T ps m) (oD T ps k) lk K):nY P C o a w σ ps st n id K:=by
 have hm:=jw H m;have hk:=jw H k;unfold Zl at h
 split at h
 rename_i agg size zero plain sz z b x e em ek;obtain⟨kt,et,hu,U,hz,_⟩:=V9 hT e;obtain⟨zs,hzr,J⟩:=ZE hz
 split at h
 rename_i rows hb;rw[em] at hm;unfold Rep at hm;obtain⟨l,hs,g⟩:=hm;have I:a.eval k=.int .i64 x:=nR hk ek;have hB:gJ w Y σ l (.map rows):=gJ.wW H hlk hb hs;unfold gJ at hB;obtain⟨⟨es,ck,h1,h2⟩,_⟩:=hB;have R:IsKey (.int .i64) (.int .i64 x):=by simp[IsKey]
 rcases mV.find x es.toList rows 0 h2 with ⟨g1,g2⟩|⟨j,e',cs,vs,g1,g2,g3,g4,g5,g6⟩
 obtain⟨zc,hzc,h⟩:=h.2 g1;refine nY.quiet H (cv:=.tuple #[.agg zs.toArray,.bool false]) ?_ ?_ h
 simp[execOp,ho,g,I,Instr.lookup,jA hu,MapKept.run_getObj_map h1,MapKept.run_checkKey U R,MapKept.run_findKey U g2,hzr,Result.andThen]
 unfold Rep;refine⟨[.agg zs.toArray,.bool false],rfl,?_⟩;unfold gB;refine⟨_,_,rfl,?_,?_⟩
 unfold Rep;exact⟨zs,rfl,hzc _ _ _ _ (J w Y σ)⟩
 unfold gB;refine⟨_,_,rfl,by unfold Rep;rfl,by unfold gB;rfl⟩
 have h:K (.FH [.agg cs,.sb true]) []:=h.1 cs g1;refine nY.quiet H (cv:=.tuple #[e'.val,.bool true]) ?_ ?_ h
 simp[execOp,ho,g,I,Instr.lookup,jA hu,MapKept.run_getObj_map h1,MapKept.run_checkKey U R,MapKept.run_findKey U g2,Result.andThen]
 unfold Rep;refine⟨[e'.val,.bool true],rfl,?_⟩;unfold gB;refine⟨_,_,rfl,?_,?_⟩
 rw[g5];unfold Rep;exact⟨vs,rfl,gB.keep cs ⟨λ_ _ _=>rfl,λ_ _ h=>h,Nat.le_refl _,λ_ _ h=>by cases h⟩ vs g6⟩
 unfold gB;refine⟨_,_,rfl,by unfold Rep;rfl,by unfold gB;rfl⟩
 exact h.elim
 exact h.elim
include hT H hlk in
theorem X7 {t:TypeId}{m k x:Operand}(ho:o.op=.mapUpdate t m k x\/o.op=.insert t m k x)(h:aaO T (iK.jd P T) t (oD T ps m) (oD T ps k) (oD T ps x) lk K):nY P C o a w σ ps st n id K:=by
 have hm:=jw H m;have hk:=jw H k;have hx:=jw H x;unfold aaO at h
 split at h
 rename_i agg size zero plain sz z b q e em ek;obtain⟨kt,et,hu,g,hz,hsz⟩:=V9 hT e
 split at h
 rename_i rows hb
 split at h
 rename_i xs ex
 split at h
 rename_i cs δ hp
 cases hmd:Ut b δ with
 | true=>rw[hmd] at h;exact h.elim
 | false =>
  rw[hmd] at h;simp only[cond_false] at h
  cases hl:Nat.beq (lG cs) sz with
  | false=>rw[hl] at h;exact h.elim
  | true =>
   rw[hl] at h;simp only[cond_true] at h;obtain⟨cs2,hl2,hc2,hw2,hK,_⟩:=yL h;rw[em] at hm;unfold Rep at hm;obtain⟨l,hs,hme⟩:=hm;have hke:a.eval k=.int .i64 q:=nR hk ek;rw[ex] at hx;unfold Rep at hx;obtain⟨vs,hxe,hxr⟩:=hx;obtain⟨Y1,H1,hr1,hy1⟩:=Dw xs cs δ hp Y st H (λb ro sz rows hb=>⟨ro,hlk _ _ hb⟩) vs hxr;have hst1:iO (iW δ st) b=some (.map rows):=by rw[LZ δ st hmd];exact hlk _ _ hb
   have hB:gJ w Y1 σ l (.map rows):=by
    rcases H1.store.blk b _ hst1 with ⟨l',hl',hB⟩|⟨hn,ro,s,e⟩
    rw[hs] at hl';cases hl';exact hB
    cases e
   have hBm:=hB;unfold gJ at hB;obtain⟨⟨es,ck,h1,h2⟩,hY⟩:=hB;have J:IsKey (.int .i64) (.int .i64 q):=by simp[IsKey]
   have hr2:=hw2 w Y1 iQ vs hr1
   have fin:∀ (U : Array MapEntry) (R : Nat),mV w Y1 U.toList (Pg rows q cs2)->(Instr.mapUpdate t (.map (some l.cb)) (.int .i64 q) (.agg vs.toArray)).run P w=.ok () { w with heap:=w.heap.setIfInBounds l.cb (.map U R) }->nY P C o a w σ ps st n id K:=by
    intro U R hR hrun;have I:=heap_set (o':=.map U R) h1
    have H2:SW C { w with heap:=w.heap.setIfInBounds l.cb (.map U R) } Y1 σ ps a.tmps.toList (nI (iW δ st) b (some (.map (Pg rows q cs2)))) n:=by
     refine H1.update hst1 hs hY rfl rfl rfl aB (λk hk=>I.2 k hk) (λ_ _ e=>by cases e) λhkp=>?_;unfold gJ;have K0:Keep w { w with heap:=w.heap.setIfInBounds l.cb (.map U R) } Y1 Y1 iQ iQ:=⟨λk _ hy=>I.2 k (λe=>hy (e ▸ hY)),λ_ _ h=>h,by simp,mg.refl _⟩;exact⟨⟨U,R,I.1,hR.keep K0⟩,hY⟩
    refine⟨_,_,Go.undef,{ w with heap:=w.heap.setIfInBounds l.cb (.map U R) },Y1,σ,hK,.inr ⟨?_,rfl⟩,?_,by simp[Rep],Off.refl _ _⟩
    rcases ho with ho|ho<;>simp[execOp,ho,hme,hke,hxe,hrun]
    rw[L6];have:ql (δ++[(b,some (jq.map ((iK.jd P T).afo rows q cs2)))]) n id=max n (id+1):=by cases δ<;>rfl
    rw[this];exact H2.mono ah
   rcases mV.find q es.toList rows 0 h2 with ⟨g1,g2⟩|⟨j,e',cs',vs',g1,g2,g3,g4,g5,g6⟩
   refine fin (es.push { key:=.int .i64 q,val:=.agg vs.toArray,born:=ck }) (ck+1) ?_ ?_
   rw[Array.toList_push];exact mV.push hr2 _ _ h2 g1
   simp[Instr.mapUpdate,jA hu,MapKept.run_getObj_map h1,MapKept.run_checkKey g J,MapKept.run_findKey g g2,MapKept.run_setObj_map _ h1,Result.andThen]
   refine fin (es.modify j λe=>{ e with key:=.int .i64 q,val:=.agg vs.toArray }) ck ?_ ?_
   rw[Array.toList_modify];exact mV.modify hr2 _ _ 0 j _ h2 g2
   have g3' : es[j]?=some e':=by simpa using g3
   simp[Instr.mapUpdate,jA hu,MapKept.run_getObj_map h1,MapKept.run_checkKey g J,MapKept.run_findKey g g2,g3',g4,MapKept.run_keyThatStays J,MapKept.run_setObj_map _ h1,Result.andThen]
 exact h.elim
 exact h.elim
 exact h.elim
 exact h.elim
end
end Go.Pv
namespace Go.Pv
open Go
structure CW (P:Program):Prop where
 und:Lr P
 flds:∀ t fs,t<P.types.size->P.underlying t=some (.struct fs)->∀ f∈fs.toList,P.info? f.type≠none
 elem:∀ t k e,t<P.types.size->P.underlying t=some (.array k e)->P.info? e≠none
 mixed:P.follows .mixedOrders=true
theorem X8 {T:Tab}{S:iK}{t:TypeId}{parts:Array (Nat×Operand)}{ps:List PV}{lk:Nat->Option jq}{id:Nat}{K:PV->Dl->Prop}(h:jU T S (.build t parts) ps lk id K):(T t).ok=true:=by
 simp only[jU] at h
 split at h
 rename_i e;rw[e]
 rename_i e;rw[e]
 exact h.elim
section
variable {P:Program}{T:Tab}(hT:jg P T)(hW:CW P){C:Ctx T}{o:Oper}{a:Act}{w:World}{Y:Nat->Prop}{σ:Sg}{ps:List PV}{st:St}{n id:Nat}{K:PV->Dl->Prop}{lk:Nat->Option jq}
 (H:SW C w Y σ ps a.tmps.toList st n) (hlk:∀ b x,lk b=some x->iO st b=some x) (hid:σ id=none/\T.qJ<=id)
include hT hW H hlk hid in
theorem xx (h:jU T (iK.jd P T) o.op ps lk id K):nY P C o a w σ ps st n id K:=by
 cases ho:o.op with
 | move x=>rw[ho] at h;exact afF H ho h
 | assign x=>rw[ho] at h;exact ab7 H ho h
 | pick c x y=>rw[ho] at h;exact afG H ho h
 | alloc t=>rw[ho] at h;exact adw hT H hid ho h
 | box t x=>rw[ho] at h;exact ahy H hid ho h
 | build t parts=>rw[ho] at h;exact adB hT H ho (λU hu=>hW.flds t U (hT t (X8 h)).2 hu) (λk e hu=>hW.elem t k e (hT t (X8 h)).2 hu) h
 | buildSlice t len parts=>rw[ho] at h;exact Ux hT H hlk hid ho h
 | load t x=>rw[ho] at h;exact afJ hT H hlk ho h
 | store t x y=>rw[ho] at h;exact adv hT H hlk hid ho h
 | nilCheck x=>rw[ho] at h;exact XP H ho h
 | binOp op t x y u=>rw[ho] at h;exact adA hT H hW.und ho h
 | unOp op t x =>
  rw[ho] at h
  cases op with
  | not=>exact adr H ho h
  | neg=>exact ads H ho h
  | _=>exact dK
 | convert s d x=>rw[ho] at h;exact ZC hT H hlk ho h
 | makeFunc fn first cap =>
  rw[ho] at h
  cases fn with
  | func f=>exact XV H ho h
  | _=>exact dK
 | makeSlice t x y=>rw[ho] at h;exact V6 hT H hid ho h
 | slice t x lo hi R=>rw[ho] at h;exact adD hT H hlk ho hid h
 | fieldAddr t x f=>rw[ho] at h;exact VU hT H ho h
 | field t x f=>rw[ho] at h;exact adx hT H hW.und ho h
 | indexAddr t x i=>rw[ho] at h;exact VZ hT H hlk ho h
 | index t x i=>rw[ho] at h;exact ady hT H hW.und ho h
 | extract t i=>rw[ho] at h;exact Zv H ho h
 | call c =>
  rw[ho] at h;obtain⟨callee,args,ts⟩:=c
  cases callee with
  | builtin b =>
   cases b with
   | len=>exact ahz hT H ho h
   | min=>exact ahA hT H ho h
   | max=>exact ahB hT H ho h
   | append=>exact acd hT H hlk hid ho h
   | clear=>exact adE hT H hlk hid ho h
   | _=>exact dK
  | _=>exact dK
 | _=>rw[ho] at h;exact dK
include hT hW H hlk hid in
theorem afU (h:opN T (iK.jd P T) o.op ps lk id K):nY P C o a w σ ps st n id K:=by
 unfold opN at h
 split at h
 exact xx hT hW H hlk hid h
 split at h
 rename_i ho;exact ace H hid ho h
 rename_i ho;exact X7 hT H hlk (.inl ho) h
 rename_i ho;exact X7 hT H hlk (.inr ho) h
 rename_i ho;exact acg hT H hlk ho h
 rename_i ho
 split at h
 rename_i he ht;exact acf hT H hlk ho he ht h
 exact xx hT hW H hlk hid eX
 rename_i ho
 split at h
 exact afS hT H hlk hid ho h
 exact xx hT hW H hlk hid eX
 rename_i ho
 split at h
 rename_i he ht
 split at h
 exact afT hT H hlk hid ho he ht h
 exact xx hT hW H hlk hid eX
 exact xx hT hW H hlk hid eX
 exact xx hT hW H hlk hid h
end
theorem gB.oG {w:World}{Y:Nat->Prop}{σ:Sg}{p:PV}:∀ (ps:List PV) (vs:List Value) (t:Nat),gB w Y σ ps vs->Rep w Y σ p (vs.getD t Go.undef)->gB w Y σ (qU ps t p) vs
 | [],vs,t,h,_=>by simpa [qU] using h
 | q::ps,vs,0,h,hp=>by
  unfold gB at h;obtain⟨v,U,rfl,h1,h2⟩:=h;simp only[qU];unfold gB;exact⟨v,U,rfl,by simpa using hp,h2⟩
 | q::ps,vs,t+1,h,hp=>by
  unfold gB at h;obtain⟨v,U,rfl,h1,h2⟩:=h;simp only[qU];unfold gB;exact⟨v,U,rfl,h1,gB.oG ps U t h2 (by simpa using hp)⟩
theorem SW.oG {T:Tab}{C:Ctx T}{w:World}{Y:Nat->Prop}{σ:Sg}{ps:List PV}{vs:List Value}{st:St}{n:Nat}(H:SW C w Y σ ps vs st n){d:Nat}{b:Bool}(hb:iZ ps d=.sb b)(c:Bool)(U:b=c):SW C w Y σ (qU ps d (.bool c)) vs st n:=by
 refine (H.qo ?_);refine gB.oG _ _ _ H.vals ?_;have:=H.vals.get _ _ d;rw[hb] at this;rw[Jn this,U];simp[Rep]
theorem kC.oG {T:Tab}{C:Ctx T}{E:Env}{a:Act}{w:World}(h:kC C E a w){d:Nat}{b:Bool}(hb:iZ E.tmps d=.sb b)(c:Bool)(U:b=c):kC C (nZ E (some d) (.bool c)) a w:=by
 obtain⟨⟨Y,σ,H⟩,R⟩:=h;refine⟨⟨Y,σ,(H.qo ?_)⟩,R⟩;refine gB.oG _ _ _ H.vals ?_;have:=H.vals.get _ _ d;rw[hb] at this;rw[Jn this,U];simp[Rep]
theorem kC.put {T:Tab}{C:Ctx T}{w:World}{Y:Nat->Prop}{σ:Sg}{a:Act}{ps:List PV}{st:St}{n:Nat}(H:SW C w Y σ ps a.tmps.toList st n)(U:a.defers=[]){v:PV}{cv:Value}(hv:Rep w Y σ v cv)(d:Option Nat) :
  kC C (nZ ⟨ps,st,n⟩ d v) (a.put d cv) w:=by
 cases d with
 | none=>exact⟨⟨Y,σ,H⟩,U⟩
 | some d =>
  refine⟨⟨Y,σ,(H.qo ?_)⟩,U⟩;simp only[Act.put,nZ,Array.toList_setIfInBounds];exact gB.set hv _ _ _ H.vals
def OpT (P:Program)(T:Tab)(o:Oper)(E:Env)(K:Env->Prop):Prop :=
 ∀ (C:Ctx T) a w,kC C E a w->∀ next Q,(∀ E' a' w',kC C E' a' w'->K E'->next a' w')->o.wp P a w next Q
theorem afV {P:Program}{T:Tab}(hT:jg P T)(hW:CW P){o:Oper}{E:Env}{K:Env->Prop}
  (h:jU T (iK.jd P T) o.op E.tmps (iO E.st) E.next λv δ=>K (nZ ⟨E.tmps,iW δ E.st,zW δ E.next⟩ o.dst v)):OpT P T o E K:=by
 intro C a w hA next Q R
 obtain⟨⟨Y,σ,H⟩,I⟩:=hA;obtain⟨v,δ,cv,w',Y',σ',g,U,J,hv,_⟩:=xx hT hW H (λ_ _ h=>h) ⟨H.next _ (Nat.le_refl _),H.fix.1⟩ h;have hn:ql δ E.next E.next=zW δ E.next:=by cases δ<;>simp[ql,zW]
 rw[hn] at J;have:=R _ _ _ (kC.put J I hv o.dst) g;unfold Oper.wp;rcases U with U|⟨U,rfl⟩
 rw[U];exact this
 rw[U];exact this
theorem afW {P:Program}{T:Tab}(hT:jg P T)(hW:CW P){o:Oper}{E:Env}{K:Env->Prop}
  (h:opN T (iK.jd P T) o.op E.tmps (iO E.st) E.next λv δ=>K (nZ ⟨E.tmps,iW δ E.st,zW δ E.next⟩ o.dst v)):OpT P T o E K:=by
 intro C a w hA next Q R
 obtain⟨⟨Y,σ,H⟩,I⟩:=hA;obtain⟨v,δ,cv,w',Y',σ',g,U,J,hv,_⟩:=afU hT hW H (λ_ _ h=>h) ⟨H.next _ (Nat.le_refl _),H.fix.1⟩ h;have hn:ql δ E.next E.next=zW δ E.next:=by cases δ<;>simp[ql,zW]
 rw[hn] at J;have:=R _ _ _ (kC.put J I hv o.dst) g;unfold Oper.wp;rcases U with U|⟨U,rfl⟩
 rw[U];exact this
 rw[U];exact this
theorem ach {P:Program}{T:Tab}(hT:jg P T)(hW:CW P){o:Oper}{E:Env}{K:Env->Prop}(h:ac5 T (iK.jd P T) o E K):OpT P T o E K:=by
 unfold ac5 at h
 split at h
  
 rename_i f args ts ho
 split at h
 rename_i k caps O;intro C a w hA next Q U
 obtain⟨⟨Y,σ,H⟩,hd⟩:=hA;have g:=jw H f;rw[O] at g;unfold Rep at g;obtain⟨cs,ef,hcs⟩:=g;have hargs:=rU H args.toList;have hall:=gB.app _ _ _ _ hargs hcs;obtain⟨hent,I⟩:=Jr h C Y σ w a.tmps.toList _ H hall;unfold Oper.wp
 have R:(execOp a.eval o).run P w=.ok (.enter k (args.toList.map a.eval++cs).toArray) w:=by
  have hmap:args.map a.eval=(args.toList.map a.eval).toArray:=by apply Array.ext';simp
  simp only[execOp,ho,resolve,ef,Deferred.ofValue,Sem.run_bind,Sem.run_pure,Result.andThen,invoke,hmap];have:(#[]++(args.toList.map a.eval).toArray++cs.toArray)=(args.toList.map a.eval++cs).toArray:=by apply Array.ext';simp
  rw[this];exact hent
 rw[R];refine Calls.mono I λe w' hh=>?_;obtain⟨cv,v,E',Y',σ',rfl,hK,H',hv⟩:=hh;exact U _ _ _ (kC.put H' hd hv o.dst) hK
 exact h.elim
 split at h
 rename_i c x y ho
 split at h
 rename_i t hc;obtain⟨ht,O⟩:=h;intro C a w hA next Q U
 obtain⟨⟨Y,σ,H⟩,hd⟩:=hA;have J:=H.vals.get _ _ c;rw[hc] at J;have J:=Jn J
 have hcv' : a.eval (.tmp c)=.bool t:=by
  rw[<- J];simp[Act.eval,Array.getD_eq_getD_getElem?,List.getD_eq_getElem?_getD]
 have R:(execOp a.eval o).run P w=.ok (.value (if t then a.eval x else a.eval y)) w:=by
  simp[execOp,ho,hcv',asBool]
 unfold Oper.wp;rw[R]
 cases t with
 | true=>exact U _ _ _ (kC.put (H.oG hc true rfl) hd (v:=oD T E.tmps x) (jw H x) o.dst) (ht rfl)
 | false=>exact U _ _ _ (kC.put (H.oG hc false rfl) hd (v:=oD T E.tmps y) (jw H y) o.dst) (O rfl)
 exact afV hT hW eX
 exact afW hT hW h
theorem Su {P:Program}{T:Tab}{all:Array Oper}{o:Oper}{E:Env}{run skip:Env->Prop}(h:gd (iK.jd P T) all o.guard E run skip){T:Tab}{C:Ctx T}{a:Act}{w:World}(hA:kC C E a w) :
  ∃ E',kC C E' a w/\((Region.wanted o (yielded all a.tmps)=true/\run E')\/(Region.wanted o (yielded all a.tmps)=false/\skip E')):=by
 unfold gd at h
 split at h
 rename_i hg;exact⟨E,hA,.inl ⟨by simp[Region.wanted,hg],h⟩⟩
 rename_i j want hg
 split at h
 rename_i oj hj
 split at h
 rename_i d hd
 have J:∀ b,a.tmps.toList.getD d Go.undef=.bool b->yielded all a.tmps j=some b:=by
  intro b hb;rw[List.getD_eq_getElem?_getD] at hb;unfold yielded;simp only[hj,Option.bind_some,hd]
  cases hx:a.tmps[d]? with
  | none=>rw[Array.getElem?_toList,hx] at hb;cases hb
  | some v=>rw[Array.getElem?_toList,hx] at hb;simp at hb;subst hb;rfl
 have I:a.tmps.toList.getD d Go.undef=Go.undef->yielded all a.tmps j=none:=by
  intro hb;rw[List.getD_eq_getElem?_getD] at hb;unfold yielded;simp only[hj,Option.bind_some,hd]
  cases hx:a.tmps[d]? with
  | none=>rfl
  | some v=>rw[Array.getElem?_toList,hx] at hb;simp at hb;subst hb;rfl
 have R:∀ b,yielded all a.tmps j=some b->Region.wanted o (yielded all a.tmps)=(b==want):=by
  intro b hb;simp[Region.wanted,hg,hb]
 have hA':=hA;obtain⟨⟨Y,σ,H⟩,hdef⟩:=hA';have U:=H.vals.get _ _ d
 split at h
 rename_i e;rw[e] at U;have g:=R true (J true (uk U));refine⟨E,hA,?_⟩;rw[g]
 cases want with
 | true=>exact .inl ⟨rfl,h⟩
 | false=>exact .inr ⟨rfl,h⟩
 rename_i e;rw[e] at U;have g:=R false (J false (uk U));refine⟨E,hA,?_⟩;rw[g]
 cases want with
 | true=>exact .inr ⟨rfl,h⟩
 | false=>exact .inl ⟨rfl,h⟩
 rename_i b e;have hg3:=U;rw[e] at hg3;have g:=R b (J b (Jn hg3));obtain⟨h1,h2⟩:=h;refine⟨nZ E (some d) (.bool b),⟨⟨Y,σ,H.oG e b rfl⟩,hdef⟩,?_⟩;rw[g]
 cases b with
 | true =>
  have h1:=h1 rfl
  cases want with
  | true=>exact .inl ⟨rfl,h1⟩
  | false=>exact .inr ⟨rfl,h1⟩
 | false =>
  have h2:=h2 rfl
  cases want with
  | true=>exact .inr ⟨rfl,h2⟩
  | false=>exact .inl ⟨rfl,h2⟩
 rename_i e;rw[e] at U;have hy:=I (by unfold Rep at U;exact U);exact⟨E,hA,.inr ⟨by simp[Region.wanted,hg,hy],h⟩⟩
 exact h.elim
 exact h.elim
 exact h.elim
theorem Md {P:Program}{T:Tab}(hT:jg P T)(hW:CW P){all:Array Oper}{Q:Exit->Act->World->Prop}{C:Ctx T}:∀ (l:List Oper) (E:Env) (K:Env->Prop),opsE T (iK.jd P T) all l E K ->
  ∀ a w,kC C E a w->(∀ g a' w',kC C g a' w'->K g->Q .normal a' w')->wpList P all Q l a w
 | [],E,K,h,a,w,hA,hQ=>hQ E a w hA h
 | o::l,E,K,h,a,w,hA,hQ=>by
  simp only[opsE] at h;obtain⟨g,U,hh⟩:=Su h hA;unfold wpList;rcases hh with ⟨I,hh⟩|⟨I,hh⟩
  rw[if_pos I];refine .inl (ach hT hW hh C a w U _ _ λE2 a2 w2 R J=>?_);exact Md hT hW l E2 K J a2 w2 R hQ
  rw[if_neg (by rw[I];simp)];obtain⟨⟨Y,σ,H⟩,hd⟩:=U;exact Md hT hW l _ K hh _ w (kC.put H hd (v:=.undef) (cv:=Go.undef) bH o.dst) hQ
end Go.Pv
namespace Go.Pv
open Go
theorem yg {T:Tab}{ps qs:List PV}:∀ (l:List Operand),(∀ x∈l,oD T ps x=oD T qs x)->evA T ps l=evA T qs l
 | [],_=>rfl
 | x::l,h=>by simp only[evA];rw[h x aB,yg l λy hy=>h y (by simp[hy])]
theorem KL {T:Tab}{ps qs:List PV}:∀ (l:List (Nat×Operand)),(∀ x∈l,oD T ps x.2=oD T qs x.2)->evP T ps l=evP T qs l
 | [],_=>rfl
 | (i,x)::l,h=>by simp only[evP];rw[h (i,x) aB,KL l λy hy=>h y (by simp[hy])]
theorem Pz {T:Tab}{ps qs:List PV}(l:Option Operand)(h:∀ x,l=some x->oD T ps x=oD T qs x):evO T ps l=evO T qs l:=by
 cases l with
 | none=>rfl
 | some x=>simp only[evO];rw[h x rfl]
theorem KN {T:Tab}{S:iK}{o:Op}{ps qs:List PV}{lk:Nat->Option jq}{id:Nat}{K:PV->Dl->Prop}(h:∀ x∈o.operands,oD T ps x=oD T qs x) :
  jU T S o ps lk id K=jU T S o qs lk id K:=by
 cases o
 case build t parts =>
  have:=KL (ps:=ps) (qs:=qs) parts.toList λx hx=>h x.2 bW;simp only[jU,this]
 case buildSlice t len parts =>
  have:=KL (ps:=ps) (qs:=qs) parts.toList λx hx=>h x.2 bW;simp only[jU,this]
 case makeFunc fn first cap =>
  cases fn
  case func f =>
   have:=yg (ps:=ps) (qs:=qs) cap.toList λx hx=>h x (by simp only[Op.operands,Array.mem_append];exact .inr dZ);simp only[jU,this]
  all_goals simp only[jU]
 case slice t x lo hi mx =>
  have h0:=h x dY;have h1:=Pz (ps:=ps) (qs:=qs) lo λy hy=>h y eY;have h2:=Pz (ps:=ps) (qs:=qs) hi λy hy=>h y eY;have U:=Pz (ps:=ps) (qs:=qs) mx λy hy=>h y eY;simp only[jU,h0,h1,h2,U]
 case call c =>
  obtain⟨callee,args,ts⟩:=c;cases callee
  case builtin b =>
   have:=yg (ps:=ps) (qs:=qs) args.toList λx hx=>h x (by simp only[Op.operands,Call.operands];simpa using hx);simp only[jU,this]
  all_goals simp only[jU]
 case unOp op t x =>
  have h0:=h x dY;cases op<;>simp only[jU,h0]
 all_goals (simp only[Op.operands,List.mem_toArray,List.mem_cons,List.not_mem_nil,or_false,forall_eq_or_imp,forall_eq] at h;simp only[jU,h])
theorem EI {b:Bool}{p:Prop}:(bif b then p else False)=(b=true/\p):=by cases b<;>simp
theorem vF {agg:Bool}{size:Nat}{row:List PV}{c:Nat}{K:PV->Prop}(h:loadRow agg size row c K):∃ v,K v/\∀ U : PV->Prop,U v->loadRow agg size row c U:=by
 unfold loadRow at h |-;cases agg<;>simp only[cond_true,cond_false,EI] at h |-
 all_goals exact⟨_,h.2,λU hk=>⟨h.1,hk⟩⟩
theorem adH {P:Program}{T:Tab}{op:BinOp}{t:TypeId}{x y:PV}{K:PV->Prop}(h:yE T (iK.jd P T) op t x y K):∃ v,K v/\∀ U : PV->Prop,U v->yE T (iK.jd P T) op t x y U:=by
 have spec:∀ {k R : IntKind} {a b:Int},Nb (iK.jd P T) op k a R b K->∃ v,K v/\∀ U : PV->Prop,U v->Nb (iK.jd P T) op k a R b U:=by
  intro k R a b h;cases op<;>simp only[Nb,EI,iK.jd] at h |-
  case shl=>exact⟨_,h.2,λU hk=>⟨h.1,hk⟩⟩
  case shr=>exact⟨_,h.2,λU hk=>⟨h.1,hk⟩⟩
  case quo=>exact⟨_,h.2.2,λU hk=>⟨h.1,h.2.1,hk⟩⟩
  case rem=>exact⟨_,h.2.2,λU hk=>⟨h.1,h.2.1,hk⟩⟩
 have J:∀ {b:Bool},eqK (iK.jd P T) op b K->∃ v,K v/\∀ U : PV->Prop,U v->eqK (iK.jd P T) op b U:=by
  intro b h;unfold eqK at h |-;cases h1:zV op<;>simp only[h1,cond_true,cond_false] at h |-
  cases h2:EL op<;>simp only[h2,cond_true,cond_false] at h |-
  exact⟨_,h,λU hk=>hk⟩
  exact⟨_,h,λU hk=>hk⟩
 have eql:∀ {b:Bool},eqL op b K->∃ v,K v/\∀ U : PV->Prop,U v->eqL op b U:=by
  intro b h;unfold eqL at h |-;cases h1:zV op<;>simp only[h1,cond_true,cond_false] at h |-
  cases h2:EL op<;>simp only[h2,cond_true,cond_false] at h |-
  cases b<;>exact⟨_,h,λU hk=>hk⟩
  exact⟨_,h,λU hk=>hk⟩
 have ints:∀ {k R : IntKind} {a b:Int} {v u:PV},(bif isSpec op then Nb (iK.jd P T) op k a R b K
   else bif qm k R then (bif nN op then K v else bif wV op then K u else False) else False) ->
   ∃ r,K r/\∀ U : PV->Prop,U r->(bif isSpec op then Nb (iK.jd P T) op k a R b U
   else bif qm k R then (bif nN op then U v else bif wV op then U u else False) else False):=by
  intro k R a b v u h;cases h1:isSpec op<;>simp only[h1,cond_true,cond_false] at h |-
  cases h2:qm k R<;>simp only[h2,cond_true,cond_false] at h |-
  cases C:nN op<;>simp only[C,cond_true,cond_false] at h |-
  cases I:wV op<;>simp only[I,cond_true,cond_false] at h |-
  exact⟨_,h,λU hk=>hk⟩
  exact⟨_,h,λU hk=>hk⟩
  exact spec h
 unfold yE at h |-
 split at h
 exact ints h
 cases h1:isAdd op<;>simp only[h1,cond_true,cond_false] at h |-
 cases h2:wV op<;>simp only[h2,cond_true,cond_false] at h |-
 exact⟨_,h,λU hk=>hk⟩
 simp only[iK.jd] at h |-;exact⟨_,h.2,λU hk=>⟨h.1,hk⟩⟩
 split at h
 split at h
 exact J h
 exact h.elim
 exact h.elim
 split at h
 exact ints h
 split at h
 split at h
 exact J h
 exact h.elim
 split at h
 cases h1:(og x&&og y)<;>simp only[h1,cond_true,cond_false] at h |-
 cases h2:((og x&&yI y) || (yI x&&og y))<;>simp only[h2,cond_true,cond_false] at h |-
 exact eql h
 exact eql h
 exact h.elim
theorem QY {c:Prop}{K:PV->Dl->Prop}{F:(PV->Dl->Prop)->Prop}(h0:c)(h:∃ v δ,K v δ/\∀ U : PV->Dl->Prop,U v δ->F U):∃ v δ,K v δ/\∀ U : PV->Dl->Prop,U v δ->c/\F U:=by
 obtain⟨v,δ,h1,h2⟩:=h;exact⟨v,δ,h1,λU hk=>⟨h0,h2 U hk⟩⟩
theorem aa7 {P:Program}{T:Tab}{o:Op}{ps:List PV}{lk:Nat->Option jq}{id:Nat}{K:PV->Dl->Prop}(hq:isQ o=true)(h:jU T (iK.jd P T) o ps lk id K) :
  ∃ v δ,K v δ/\∀ J : PV->Dl->Prop,J v δ->jU T (iK.jd P T) o ps lk id J:=by
 cases o
 case move x=>exact⟨_,_,h,λ_ hk=>hk⟩
 case assign x=>exact⟨_,_,h,λ_ hk=>hk⟩
 case pick c a b =>
  simp only[jU] at h |-
  split at h
  exact⟨_,_,h,λ_ hk=>hk⟩
  exact⟨_,_,h,λ_ hk=>hk⟩
  exact h.elim
 case nilCheck x =>
  simp only[jU] at h |-
  split at h
  all_goals first|exact⟨_,_,h,λ_ hk=>hk⟩|exact h.elim
 case extract t i =>
  simp only[jU] at h |-
  split at h
  exact fM
  exact h.elim
 case convert s d x =>
  simp only[jU] at h |-
  split at h
  split at h
  obtain⟨h1,b,h2,U⟩:=h;exact⟨_,_,U,λ_ hk=>⟨h1,b,h2,hk⟩⟩
  exact h.elim
  split at h
  exact⟨_,_,h.2,λ_ hk=>⟨h.1,hk⟩⟩
  exact h.elim
  ·split at h
   all_goals first|exact⟨_,_,h,λ_ hk=>hk⟩|exact h.elim
  exact h.elim
 case makeFunc fn first cap =>
  cases fn
  case func f =>
   simp only[jU] at h |-
   split at h
   all_goals first|exact⟨_,_,h,λ_ hk=>hk⟩|exact h.elim
  all_goals exact dK
 case unOp op t x =>
  cases op
  case not =>
   simp only[jU] at h |-
   split at h
   all_goals first|exact⟨_,_,h,λ_ hk=>hk⟩|exact h.elim
  case neg =>
   simp only[jU] at h |-
   split at h
   all_goals first|exact⟨_,_,h,λ_ hk=>hk⟩|exact h.elim
  all_goals exact dK
 case fieldAddr t x f =>
  simp only[jU] at h |-
  split at h
  split at h
  simp only[EI] at h |-;obtain⟨h0,h⟩:=h
  split at h
  exact⟨_,_,h,λ_ hk=>⟨h0,hk⟩⟩
  exact⟨_,_,h,λ_ hk=>⟨h0,hk⟩⟩
  exact⟨_,_,h,λ_ hk=>⟨h0,hk⟩⟩
  exact⟨_,_,h.2,λ_ hk=>⟨h0,h.1,hk⟩⟩
  exact h.elim
  exact h.elim
  exact h.elim
 case field t x f =>
  simp only[jU] at h |-
  split at h
  split at h
  split at h
  simp only[EI] at h |-;obtain⟨v,h1,h2⟩:=vF h.2;exact⟨v,_,h1,λ_ hk=>⟨h.1,h2 _ hk⟩⟩
  exact h.elim
  exact h.elim
  exact h.elim
 case load t x =>
  simp only[jU] at h |-
  split at h
  split at h
  split at h
  obtain⟨v,h1,h2⟩:=vF h;exact⟨v,_,h1,λ_ hk=>h2 _ hk⟩
  exact h.elim
  split at h
  exact fU
  exact fU
  simp only[iK.jd] at h |-;obtain⟨h0,h⟩:=h;obtain⟨v,h1,h2⟩:=vF h;exact⟨v,_,h1,λ_ hk=>⟨h0,h2 _ hk⟩⟩
  exact h.elim
  split at h
  simp only[iK.jd,EI] at h |-;obtain⟨row,h0,h⟩:=h
  split at h
  rename_i g I C he;obtain⟨U,R,er,h5,h⟩:=h;obtain⟨v,h1,h2⟩:=vF h;refine⟨v,_,h1,λ_ hk=>⟨row,h0,?_⟩⟩;rw[he];exact⟨U,R,er,h5,h2 _ hk⟩
  exact h.elim
  exact h.elim
  obtain⟨v,h1,h2⟩:=vF h;exact⟨v,_,h1,λ_ hk=>h2 _ hk⟩
  exact h.elim
  exact h.elim
 case binOp op t x y u =>
  have hn:Nh y=false:=by
   cases hn:Nh y with
   | true=>simp only[isQ,hn] at hq;cases hq
   | false=>rfl
  simp only[jU] at h |-;rw[hn] at h |-;simp only at h |-
  split at h
  obtain⟨v,h1,h2⟩:=adH h;exact⟨v,_,h1,λ_ hk=>h2 _ hk⟩
  exact h.elim
 case indexAddr t x i =>
  simp only[jU] at h |-
  split at h
  split at h
  simp only[EI] at h |-;obtain⟨h0,j,row,h1,h2,h⟩:=h;exact⟨_,_,h,λ_ hk=>⟨h0,j,row,h1,h2,hk⟩⟩
  split at h
  exact fO
  exact fO
  exact fO
  exact h.elim
  exact fO
  exact h.elim
  simp only[EI] at h |-;obtain⟨h0,h⟩:=h
  split at h
  obtain⟨h1,h⟩:=h
  split at h
  exact⟨_,_,h,λ_ hk=>⟨h0,h1,hk⟩⟩
  exact⟨_,_,h,λ_ hk=>⟨h0,h1,hk⟩⟩
  exact⟨_,_,h.2,λ_ hk=>⟨h0,h1,h.1,hk⟩⟩
  exact h.elim
  obtain⟨j,h1,h2,h⟩:=h
  split at h
  exact⟨_,_,h,λ_ hk=>⟨h0,j,h1,h2,hk⟩⟩
  exact⟨_,_,h,λ_ hk=>⟨h0,j,h1,h2,hk⟩⟩
  exact⟨_,_,h.2,λ_ hk=>⟨h0,j,h1,h2,h.1,hk⟩⟩
  exact h.elim
  exact h.elim
  exact h.elim
 case index t x i =>
  simp only[jU] at h |-
  split at h
  simp only[iK.jd] at h |-;obtain⟨j,c,h1,h2,h⟩:=h;exact⟨_,_,h,λ_ hk=>⟨j,c,h1,h2,hk⟩⟩
  simp only[EI] at h |-;obtain⟨h0,j,h1,h2,h⟩:=h;obtain⟨v,U,R⟩:=vF h;exact⟨v,_,U,λ_ hk=>⟨h0,j,h1,h2,R _ hk⟩⟩
  exact h.elim
 case build t parts =>
  simp only[jU] at h |-
  split at h
  simp only[EI] at h |-;obtain⟨h0,h⟩:=h
  split at h
  exact⟨_,_,h,λ_ hk=>⟨h0,hk⟩⟩
  exact h.elim
  simp only[EI] at h |-;obtain⟨h0,h⟩:=h
  split at h
  exact⟨_,_,h,λ_ hk=>⟨h0,hk⟩⟩
  exact h.elim
  exact h.elim
 case call c =>
  obtain⟨callee,args,ts⟩:=c;cases callee
  case builtin b =>
   simp only[jU] at h |-
   split at h
   split at h
   exact⟨_,_,h,λ_ hk=>hk⟩
   exact h.elim
   split at h
   exact⟨_,_,h,λ_ hk=>hk⟩
   exact h.elim
   split at h
   exact⟨_,_,h,λ_ hk=>hk⟩
   exact h.elim
   split at h
   exact⟨_,_,h,λ_ hk=>hk⟩
   exact h.elim
   split at h
   exact fM
   split at h
   exact fM
   exact h.elim
   split at h
   exact fM
   split at h
   exact fM
   exact h.elim
   exact fB
   exact fB
   exact h.elim
  all_goals exact fB
 case slice t x lo hi mx =>
  simp only[jU] at h |-
  split at h
  all_goals repeat' (first
   | exact h.elim
   | exact⟨_,_,h,λ_ hk=>hk⟩
   | (obtain⟨i,j,h1,h2,U,R,h5⟩:=h;exact⟨_,_,h5,λ_ hk=>⟨i,j,h1,h2,U,R,hk⟩⟩)
   | (split at h)
   | (simp only[EI] at h |-;refine QY h.1 ?_;replace h:=h.2)
   | (refine QY h.1 ?_;replace h:=h.2))
 all_goals exact fB
end Go.Pv
namespace Go.Pv
open Go
def Eqv (p q:PV):Prop:=∀ w Y σ v,Rep w Y σ p v↔Rep w Y σ q v
theorem Eqv.refl (p:PV):Eqv p p:=λ_ _ _ _=>Iff.rfl
theorem Eqv.symm {p q:PV}(h:Eqv p q):Eqv q p:=λw Y σ v=>(h w Y σ v).symm
theorem Eqv.trans {p q r:PV}(h:Eqv p q)(k:Eqv q r):Eqv p r:=λw Y σ v=>(h w Y σ v).trans (k w Y σ v)
theorem Eqv.bool (b:Bool):Eqv (.sb b) (.bool b):=λw Y σ v=>by simp[Rep]
def yF (ps qs:List PV):Prop:=ps.length=qs.length/\∀ t,Eqv (iZ ps t) (iZ qs t)
theorem yF.refl (ps:List PV):yF ps ps:=⟨rfl,λ_=>Eqv.refl _⟩
theorem yF.trans {ps qs rs:List PV}(h:yF ps qs)(k:yF qs rs):yF ps rs:=⟨h.1.trans k.1,λt=>(h.2 t).trans (k.2 t)⟩
theorem yF.symm {ps qs:List PV}(h:yF ps qs):yF qs ps:=⟨h.1.symm,λt=>(h.2 t).symm⟩
theorem uM (l:List PV)(d t:Nat)(v:PV):iZ (qU l d v) t=if d=t/\d<l.length then v else iZ l t:=by
 rw[A8,qK,A8,List.getD_eq_getElem?_getD,List.getD_eq_getElem?_getD,List.getElem?_set]
 by_cases h:d=t
 subst h
 by_cases hl:d<l.length
 simp[hl]
 simp[hl]
 simp[h]
theorem Js (l:List PV)(d:Nat)(v:PV):(qU l d v).length=l.length:=by rw[qK];simp
theorem uU {l:List PV}{t:Nat}(h:l.length<=t):iZ l t=.undef:=by rw[A8,List.getD_eq_getElem?_getD,List.getElem?_eq_none h];rfl
theorem gB.eqv {w:World}{Y:Nat->Prop}{σ:Sg}:∀ {ps qs:List PV} {vs:List Value},yF ps qs->gB w Y σ ps vs->gB w Y σ qs vs
 | [],[],vs,_,h=>h
 | [],_::_,_,h,_=>by simp[yF] at h
 | _::_,[],_,h,_=>by simp[yF] at h
 | p::ps,q::qs,vs,h,hr=>by
  unfold gB at hr |-;obtain⟨v,U,e,h1,h2⟩:=hr;refine⟨v,U,e,(h.2 0 _ _ _ _).1 h1,gB.eqv ⟨by simpa using h.1,λt=>h.2 (t+1)⟩ h2⟩
theorem SW.eqv {T:Tab}{C:Ctx T}{w:World}{Y:Nat->Prop}{σ:Sg}{ps qs:List PV}{vs:List Value}{st:St}{n:Nat}(H:SW C w Y σ ps vs st n)(h:yF ps qs):SW C w Y σ qs vs st n :=
 H.qo (H.vals.eqv h)
def uw (ps:List PV):Option Nat->PV->List PV
 | none,_=>ps
 | some d,v=>qU ps d v
theorem NL (E:Env)(d:Option Nat)(v:PV):nZ E d v=⟨uw E.tmps d v,E.st,E.next⟩:=by cases d<;>rfl
theorem lh (ps:List PV)(d:Option Nat)(v:PV):(uw ps d v).length=ps.length:=by cases d<;>simp[uw,Js]
theorem Be {ps:List PV}{d:Option Nat}{v:PV}{t:Nat}(h:d≠some t):iZ (uw ps d v) t=iZ ps t:=by
 cases d with
 | none=>rfl
 | some d=>simp only[uw,uM];rw[if_neg];rintro⟨rfl,_⟩;exact h rfl
theorem SW.uw {T:Tab}{C:Ctx T}{w:World}{Y:Nat->Prop}{σ:Sg}{ps:List PV}{a:Act}{st:St}{n:Nat}(H:SW C w Y σ ps a.tmps.toList st n){v:PV}{cv:Value}(hv:Rep w Y σ v cv)(d:Option Nat) :
  SW C w Y σ (uw ps d v) (a.put d cv).tmps.toList st n:=by
 cases d with
 | none=>exact H
 | some d =>
  refine (H.qo ?_);simp only[Act.put,Pv.uw,Array.toList_setIfInBounds];exact gB.set hv _ _ _ H.vals
theorem put_defers (a:Act)(d:Option Nat)(v:Value):(a.put d v).defers=a.defers:=by cases d<;>rfl
section
variable {P:Program}{T:Tab}
def Uy (P:Program)(T:Tab)(all:Array Oper)(o:Oper)(er:List PV)(lk:Nat->Option jq)(id:Nat)(v:PV)(δ:Dl)(big:Bool):Prop :=
 ∀ (C:Ctx T) ps Y σ (a:Act) w st n,(∀ t∈o.looksAt all,iZ ps t=iZ er t)->SW C w Y σ ps a.tmps.toList st n->a.defers=[]->(∀ b x,lk b=some x->iO st b=some x) ->
  (big=true->(∀ b,id<=b->b<id+32->σ b=none)/\T.qJ<=id/\id+32<=n)->∀ next Q,(∀ cv w' Y' σ',SW C w' Y' σ' ps a.tmps.toList (iW δ st) n->(∀ b,(b<id\/id+32<=b)->σ' b=σ b)->(big=false->σ'=σ)->Rep w' Y' σ' v cv->next (a.put o.dst cv) w')->o.wp P a w next Q
def aa8 (T:Tab)(all:Array Oper)(o:Oper)(er:List PV)(wb:Bool):Prop :=
 ∀ (C:Ctx T) ps Y σ (a:Act) w st n,(∀ t∈o.looksAt all,iZ ps t=iZ er t)->SW C w Y σ ps a.tmps.toList st n->a.defers=[]->Region.wanted o (yielded all a.tmps)=wb
theorem Sv {all:Array Oper}{o:Oper}{er:List PV}{wb:Bool}
  (h:∀ ps st n,(∀ t∈o.looksAt all,iZ ps t=iZ er t)->gd (iK.jd P T) all o.guard ⟨ps,st,n⟩ (λ_=>wb=true) (λ_=>wb=false)):aa8 T all o er wb:=by
 intro C ps Y σ a w st n hl H U;obtain⟨R,_,hh⟩:=Su (h ps st n hl) (C:=C) (a:=a) (w:=w) ⟨⟨Y,σ,H⟩,U⟩;rcases hh with ⟨h1,h2⟩|⟨h1,h2⟩
 rw[h1,h2]
 rw[h1,h2]
theorem adI {all:Array Oper}{o:Oper}{E:Env}{run skip:Env->Prop}(h:gd (iK.jd P T) all o.guard E run skip) :
  ∃ R wb,yF E.tmps R.tmps/\R.st=E.st/\R.next=E.next/\aa8 T all o R.tmps wb/\(wb=true->run R)/\(wb=false->skip R):=by
 unfold gd at h
 split at h
 rename_i g;exact⟨E,true,yF.refl _,rfl,rfl,Sv (P:=P) λps _ _ _=>by simp[gd,g],λ_=>h,λe=>by cases e⟩
 ·rename_i j want g
  split at h
  ·rename_i oj hj
   split at h
   ·rename_i d hd
    have J:d∈o.looksAt all:=by
     unfold Oper.looksAt;refine List.mem_append_right _ ?_;simp[g,hj,hd]
    have sem:∀ (R:Env) b,iZ R.tmps d=.bool b->aa8 T all o R.tmps (b==want):=by
     intro R b hb;refine Sv (P:=P) λps _ _ I=>?_;have:=I d J;rw[hb] at this;simp only[gd,g,hj,hd,this];cases b<;>cases want<;>rfl
    split at h
    ·rename_i e;refine⟨E,true==want,yF.refl _,rfl,rfl,sem E true e,?_,?_⟩<;>intro U<;>cases want<;>first|(cases U;done)|exact h
    ·rename_i e;refine⟨E,false==want,yF.refl _,rfl,rfl,sem E false e,?_,?_⟩<;>intro U<;>cases want<;>first|(cases U;done)|exact h
    ·rename_i b e
     have hlt:d<E.tmps.length:=by
      by_cases hh:d<E.tmps.length
      exact hh
      rw[uU (Nat.le_of_not_lt hh)] at e;cases e
     have heq:yF E.tmps (nZ E (some d) (.bool b)).tmps:=by
      refine⟨by simp[nZ,Js],λt=>?_⟩;simp only[nZ,uM]
      split
      rename_i hh;rw[<- hh.1,e];exact Eqv.bool b
      exact Eqv.refl _
     have C:iZ (nZ E (some d) (.bool b)).tmps d=.bool b:=by simp[nZ,uM,hlt]
     obtain⟨h1,h2⟩:=h;refine⟨nZ E (some d) (.bool b),b==want,heq,rfl,rfl,sem _ b C,?_,?_⟩
     ·intro U
      cases b with
      | true=>have h1:=h1 rfl;cases want<;>first|(cases U;done)|exact h1
      | false=>have h2:=h2 rfl;cases want<;>first|(cases U;done)|exact h2
     ·intro U
      cases b with
      | true=>have h1:=h1 rfl;cases want<;>first|(cases U;done)|exact h1
      | false=>have h2:=h2 rfl;cases want<;>first|(cases U;done)|exact h2
    rename_i e;refine⟨E,false,yF.refl _,rfl,rfl,Sv (P:=P) λps _ _ I=>?_,(λU=>by cases U),λ_=>h⟩;have:=I d J;rw[e] at this;simp only[gd,g,hj,hd,this]
    exact h.elim
   exact h.elim
  exact h.elim
theorem sD {all:Array Oper}{o:Oper}{er ps:List PV}(h:∀ t∈o.looksAt all,iZ ps t=iZ er t):∀ x∈o.op.operands,oD T ps x=oD T er x:=by
 intro x hx
 cases x with
 | tmp t =>
  simp only[oD];refine h t ?_;unfold Oper.looksAt;exact List.mem_append_left _ (List.mem_filterMap.2 ⟨.tmp t,by simpa using hx,rfl⟩)
 | _=>rfl
theorem ahF {T:Tab}{S:iK}{o:Op}{ps:List PV}{lk:Nat->Option jq}{id id' : Nat}{K:PV->Dl->Prop}(hq:isQ o=true):jU T S o ps lk id K=jU T S o ps lk id' K:=by
 cases o
 case call c =>
  obtain⟨callee,args,ts⟩:=c;cases callee
  case builtin b =>
   cases b
   case len=>simp only[jU];generalize evA T ps args.toList=as;generalize ts.toList=tl;rcases as with _|⟨a,_|⟨b,_|⟨c,as⟩⟩⟩<;>rcases tl with _|⟨t,_|⟨u,tl⟩⟩<;>first|rfl|(cases a<;>first|rfl|(cases b<;>rfl))
   case min=>simp only[jU];generalize evA T ps args.toList=as;generalize ts.toList=tl;rcases as with _|⟨a,_|⟨b,_|⟨c,as⟩⟩⟩<;>rcases tl with _|⟨t,_|⟨u,tl⟩⟩<;>first|rfl|(cases a<;>first|rfl|(cases b<;>rfl))
   case max=>simp only[jU];generalize evA T ps args.toList=as;generalize ts.toList=tl;rcases as with _|⟨a,_|⟨b,_|⟨c,as⟩⟩⟩<;>rcases tl with _|⟨t,_|⟨u,tl⟩⟩<;>first|rfl|(cases a<;>first|rfl|(cases b<;>rfl))
   all_goals (simp[isQ] at hq)
  all_goals simp[isQ] at hq
 case makeFunc fn first cap=>cases fn<;>rfl
 case unOp op t x=>cases op<;>rfl
 all_goals first|rfl|(simp[isQ] at hq)
theorem adJ (hT:jg P T)(hW:CW P){all:Array Oper}{o:Oper}{ps:List PV}{lk:Nat->Option jq}{id i:Nat}{K:PV->Prop}(hq:isQ o.op=true)(h:jU T (iK.jd P T) o.op ps lk id (ac6 K)) :
  ∃ v,Uy P T all o ps lk i v [] false/\K v:=by
 obtain⟨v,δ,hK,hF⟩:=aa7 hq h
 cases δ with
 | cons x δ=>exact hK.elim
 | nil =>
  refine⟨v,?_,hK⟩;intro C qs Y σ a w st n hl H hd I _ next Q R
  have h2:=hF (λg δ'=>g=v/\δ'=[]) ⟨rfl,rfl⟩;rw[<- KN (sD hl),ahF (id':=n) hq] at h2;obtain⟨g,δ',cv,w',Y',σ',⟨rfl,rfl⟩,U,H',hv,J⟩:=xx hT hW H I ⟨H.next _ (Nat.le_refl _),H.fix.1⟩ h2
  have hσ:σ'=σ:=by
   funext b
   by_cases hb:b=n
   subst hb;rw[H.next _ (Nat.le_refl _)];exact H'.next _ (Nat.le_refl _)
   exact J b hb
  subst hσ;have:=R cv w' Y' σ' H' (λ_ _=>rfl) (λ_=>rfl) hv;unfold Oper.wp;rcases U with U|⟨U,rfl⟩
  rw[U];exact this
  rw[U];exact this
theorem DZ {P:Program}{o:Oper}{f:Operand}{args:Array Operand}{ts:Array TypeId}{a:Act}{w:World}{k:Nat}{cs:List Value}(ho:o.op=.call { callee:=.value f,args,argTypes:=ts })
  (R:a.eval f=.func (.func k) #[] cs.toArray) (T:(callFunc k (args.toList.map a.eval++cs).toArray).run P w=.ok (.enter k (args.toList.map a.eval++cs).toArray) w) :
  (execOp a.eval o).run P w=.ok (.enter k (args.toList.map a.eval++cs).toArray) w:=by
 have U:args.map a.eval=(args.toList.map a.eval).toArray:=by apply Array.ext';simp
 simp only[execOp,ho,resolve,R,Deferred.ofValue,Sem.run_bind,Sem.run_pure,Result.andThen,invoke,U];have:(#[]++(args.toList.map a.eval).toArray++cs.toArray)=(args.toList.map a.eval++cs).toArray:=by apply Array.ext';simp
 rw[this];exact T
theorem SW.aa9 {C:Ctx T}{w:World}{Y:Nat->Prop}{σ:Sg}{ps:List PV}{vs:List Value}{st:St}{n:Nat}(H:SW C w Y σ ps vs st n)(arr:Array Value)(ty:TypeId) :
  SW C (w.alloc (.cells arr ty)) Y σ ps vs st n/\∀ p v σ',Rep w Y σ' p v->Rep (w.alloc (.cells arr ty)) Y σ' p v:=by
 have heap:(w.alloc (.cells arr ty)).heap=w.heap.push (.cells arr ty):=rfl
 have hold:∀ k,k<w.heap.size->(w.alloc (.cells arr ty)).heap[k]?=w.heap[k]?:=by
  intro k hk;rw[heap,Array.getElem?_push,if_neg ah]
 have hsz:(w.alloc (.cells arr ty)).heap.size=w.heap.size+1:=by rw[heap];simp
 exact⟨H.afL ⟨rfl,rfl,rfl,by omega,hold⟩,λp v σ' h=>Rep.keep p ⟨λk hk _=>hold k hk,λ_ _ h=>h,by omega,mg.refl _⟩ v h⟩
theorem QM (hT:jg P T){all:Array Oper}{o:Oper}{ps:List PV}{lk:Nat->Option jq}{id i:Nat}{K:PV->Prop}{t:TypeId}{len:Nat}{parts:Array (Nat×Operand)}(ho:o.op=.buildSlice t len parts)(h:opQ T (iK.jd P T) (.buildSlice t len parts) ps lk id K) :
  ∃ v,Uy P T all o ps QI i v [] false/\K v:=by
 simp only[opQ] at h
 split at h
 rename_i agg size z0 plain esz bytes z e;obtain⟨et,hu,rfl,_,hz⟩:=ku hT e
 cases hb:(jo (P.cellsOf et)&&Nat.beq (lG z) (P.cellsOf et)&&Nat.ble (len*P.cellsOf et) 16777216&&xZ (evP T ps parts.toList)) with
 | false=>rw[hb] at h;exact h.elim
 | true =>
  rw[hb] at h;simp only[cond_true] at h;simp only[Bool.and_eq_true,kX] at hb;obtain⟨⟨⟨R,hb2⟩,hb3⟩,hb4⟩:=hb
  have hpos:0<P.cellsOf et:=by
   rcases Nat.eq_zero_or_pos (P.cellsOf et) with h0|h0
   rw[h0] at R;simp[jo] at R
   exact h0
  have hzl:=Nat.eq_of_beq_eq_true hb2;have hle:=Nat.le_of_ble_eq_true hb3
  split at h
  rename_i cs O
  split at h
  rename_i cs0 U;obtain⟨cs',hl2,hc2,hw2,h,_⟩:=yL h;refine⟨_,?_,h⟩;intro C qs Y σ a w st n hl H hd _ _ next Q J
  have hev:=sD (T:=T) hl;rw[ho] at hev;have hP:=KL (T:=T) (ps:=qs) (qs:=ps) parts.toList λx hx=>hev x.2 bW;rw[<- hP] at O hb4;obtain⟨vcs,hrep,hvl,g⟩:=uq hT H ho hu hz R hzl hle hb4 O;have hLk:Lk (λ_=>none) st:=λb ro sz rows h=>by cases h
  obtain⟨Y1,H1,I,hy1⟩:=Dw cs cs0 [] U Y st H hLk _ hrep;have I:=hw2 _ _ _ _ I;obtain⟨H2,hk2⟩:=H1.aa9 vcs et;have hcsl:cs'.length=len*P.cellsOf et:=by rw[hl2,V3 _ _ _ U,KJ _ _ _ _ O,vK,hzl]
  unfold Oper.wp;rw[g];refine J _ _ Y1 σ H2 (λ_ _=>rfl) (λ_=>rfl) ?_;unfold Rep;refine⟨_,len,len,rfl,by rw[wX],Nat.le_refl _,λ_=>rfl,.inr ⟨w.heap.size,0,rfl,⟨?_,λhy=>?_⟩,?_⟩⟩
  show w.heap.size<(w.heap.push _).size;simp
  have:=H1.vg _ hy;omega
  refine jc.chunks len cs' 0 ?_ (hc2 (Nz _ _ _ U).1) ah;rw[jc.iff];intro j p hj;obtain⟨v,hv,hp'⟩:=I.get? hj;refine⟨v,?_,hk2 _ _ _ hp'⟩;rw[cell_of_block (arr:=vcs) (ty:=et) (by show (w.heap.push _)[w.heap.size]?=_;simp)]
  simpa using hv
  exact h.elim
  exact h.elim
 exact h.elim
theorem afX (hT:jg P T)(hW:CW P){all:Array Oper}{o:Oper}{ps:List PV}{lk:Nat->Option jq}{id:Nat}{K:PV->Prop}(i:Nat)(h:opQ T (iK.jd P T) o.op ps lk id K) :
  ∃ v,Uy P T all o ps lk i v [] false/\K v:=by
 have h0:=h;unfold opQ at h
 split at h
 rename_i f args ts ho
 split at h
 rename_i k caps O
 have main:∀ v,(∀ (C:Ctx T) Y σ w qs vs U st n,(∀ b x,lk b=some x->iO st b=some x)->SW C w Y σ qs vs st n->gB w Y σ (wU (evA T ps args.toList) caps) U->NH P k C Y σ w U qs vs st n v)->Uy P T all o ps lk i v [] false:=by
  intro v hsem C qs Y σ a w st n hl H hd J _ next Q R
  have hev:=sD (T:=T) hl;rw[ho] at hev;have hfv:=jw H f;rw[hev f dw,O] at hfv;unfold Rep at hfv;obtain⟨cs,ef,hcs⟩:=hfv;have I:=rU H args.toList;rw[yg (ps:=qs) (qs:=ps) args.toList λx hx=>hev x bn] at I;have hall:=gB.app _ _ _ _ I hcs;obtain⟨hent,g⟩:=hsem C Y σ w qs a.tmps.toList _ st n J H (by simpa using hall);unfold Oper.wp;rw[DZ ho ef hent];refine Calls.mono g λe w' hh=>?_;obtain⟨cv,rfl,H',hv⟩:=hh;exact R cv w' Y σ H' (λ_ _=>rfl) (λ_=>rfl) hv
 unfold ac4 at h
 split at h
 rename_i as hm;obtain⟨v,hF,hK⟩:=h;refine⟨v,main v λC Y σ w qs vs U st n J H hr=>QX H (λb x hb=>?_) hm hr hF,hK⟩
 split at hb
 rename_i e;cases hb;exact⟨J _ _ e,rfl⟩
 rename_i e;cases hb;exact⟨J _ _ e,rfl⟩
 cases hb
 split at h
 rename_i as hm;obtain⟨v,hF,O,hK⟩:=h;exact⟨v,main v λC Y σ w qs vs U st n J H hr=>Po H J hm hr hF O,hK⟩
 exact h.elim
 exact h.elim
 rename_i t len parts ho;rw[ho] at h0;obtain⟨v,h1,h2⟩:=QM hT (all:=all) (i:=i) ho h0;exact⟨v,λC qs Y σ a w st n hl H hd _ hb next Q R=>h1 C qs Y σ a w st n hl H hd (λ_ _ h=>by cases h) hb next Q R,h2⟩
 rw[EI] at h;exact adJ hT hW h.1 h.2
theorem X9 (hT:jg P T)(hW:CW P){all:Array Oper}{o:Oper}{lk:Nat->Option jq}{E:Env}{K:Env->Prop}(i:Nat)(h:XF T (iK.jd P T) o lk E K) :
  ∃ R v,yF E.tmps R.tmps/\R.st=E.st/\R.next=E.next/\Uy P T all o R.tmps lk i v [] false/\K (nZ R o.dst v):=by
 unfold XF at h
 have gen:(opQ T (iK.jd P T) o.op E.tmps lk E.next λv=>K (nZ E o.dst v))->∃ R v,yF E.tmps R.tmps/\R.st=E.st/\R.next=E.next/\Uy P T all o R.tmps lk i v [] false/\K (nZ R o.dst v):=λh=>by
  obtain⟨v,h1,h2⟩:=afX hT hW (all:=all) i h;exact⟨E,v,yF.refl _,rfl,rfl,h1,h2⟩
 split at h
 rename_i c x y ho
 split at h
 rename_i t hc
 have hlt:c<E.tmps.length:=by
  by_cases hh:c<E.tmps.length
  exact hh
  rw[uU (Nat.le_of_not_lt hh)] at hc;cases hc
 have heq:yF E.tmps (nZ E (some c) (.bool t)).tmps:=by
  refine⟨by simp[nZ,Js],λu=>?_⟩;simp only[nZ,uM]
  split
  rename_i hh;rw[<- hh.1,hc];exact Eqv.bool t
  exact Eqv.refl _
 have hget:iZ (nZ E (some c) (.bool t)).tmps c=.bool t:=by simp[nZ,uM,hlt]
 have evq:∀ z:Operand,Eqv (oD T (nZ E (some c) (.bool t)).tmps z) (oD T E.tmps z):=by
  intro z
  cases z with
  | tmp u=>exact (heq.2 u).symm
  | _=>exact Eqv.refl _
 have g:Uy P T all o (nZ E (some c) (.bool t)).tmps lk i (if t then oD T E.tmps x else oD T E.tmps y) [] false:=by
  intro C qs Y σ a w st n hl H hd _ _ next Q I
  have J:=sD (T:=T) hl;rw[ho] at J;have U:=jw H (.tmp c);rw[J (.tmp c) dY] at U;simp only[oD,hget] at U;have U:=uk U
  have hrun:(execOp a.eval o).run P w=.ok (.value (if t then a.eval x else a.eval y)) w:=by
   simp[execOp,ho,U,asBool]
  unfold Oper.wp;rw[hrun];refine I _ _ Y σ H (λ_ _=>rfl) (λ_=>rfl) ?_;have hx:=jw H x;have hy:=jw H y;rw[J x dY] at hx;rw[J y dY] at hy
  cases t with
  | true=>exact (evq x _ _ _ _).1 hx
  | false=>exact (evq y _ _ _ _).1 hy
 refine⟨_,_,heq,rfl,rfl,g,?_⟩
 cases t with
 | true=>exact h.1 rfl
 | false=>exact h.2 rfl
 rw[<- ho] at h;exact gen h
 exact gen h
theorem CX {size:Nat}{row:List PV}{c:Nat}{v:PV}{K:List PV->Prop}(h:lL size row c v K):∃ r,K r/\∀ U : List PV->Prop,U r->lL size row c v U:=by
 unfold lL at h |-;simp only[EI] at h |-;exact⟨_,h.2,λU hk=>⟨h.1,hk⟩⟩
theorem Ya {o:Op}{ps:List PV}{lk:Nat->Option jq}{id:Nat}{K:PV->Dl->Prop}(U:Hu T o=1\/Hu T o=2)(hn:ndO T ps lk o=false)(h:jU T (iK.jd P T) o ps lk id K) :
  ∃ v δ,K v δ/\∀ J : PV->Dl->Prop,J v δ->jU T (iK.jd P T) o ps lk id J:=by
 cases o
 case binOp op t x y u =>
  simp only[Hu,isQ] at U;cases hy:Nh y<;>rw[hy] at U<;>simp at U
 case alloc t =>
  simp only[jU] at h |-
  split at h
  all_goals first|exact⟨_,_,h,λ_ hk=>hk⟩|exact h.elim
 case box t x =>
  simp only[jU] at h |-
  split at h
  exact h.elim
  exact⟨_,_,h,λ_ hk=>hk⟩
 case makeSlice t x y =>
  simp only[jU] at h |-
  split at h
  simp only[EI] at h |-;obtain⟨h0,j,h1,h2,R,h4,h5⟩:=h;obtain⟨z2,_,_,_,h5,_,C⟩:=aa3 h5;exact⟨_,_,h5,λ_ hk=>⟨h0,j,h1,h2,R,h4,C _ hk⟩⟩
  exact h.elim
 case store t x y =>
  simp only[jU] at h |-
  split at h
  split at h
  split at h
  obtain⟨r,h1,h2⟩:=CX h;exact⟨_,_,h1,λ_ hk=>h2 _ hk⟩
  exact h.elim
  split at h
  split at h
  rename_i sz rows hb _ cs δ hp
  cases I:Ut _ δ with
  | true=>rw[I] at h;exact h.elim
  | false =>
   rw[I] at h;simp only[cond_false] at h |-;obtain⟨cs2,_,_,_,⟨row,h0,h⟩,h9⟩:=yL h;obtain⟨r',h1,h2⟩:=CX h;exact⟨_,_,h1,λ_ hk=>h9 _ ⟨row,h0,h2 _ hk⟩⟩
  exact h.elim
  rename_i e1 _ _ _ g;simp[ndO,e1,g] at hn
  obtain⟨h0,h⟩:=h;obtain⟨r,h1,h2⟩:=CX h;exact⟨_,_,h1,λ_ hk=>⟨h0,h2 _ hk⟩⟩
  exact h.elim
  rename_i e1;simp[ndO,e1] at hn
  exact h.elim
  exact h.elim
 case call c =>
  obtain⟨callee,args,ts⟩:=c;cases callee
  case builtin b =>
   cases b
   case append =>
    simp only[jU] at h |-
    split at h
    all_goals repeat' (first
     | contradiction
     | exact h.elim
     | exact⟨_,_,h,λ_ hk=>hk⟩
     | (obtain⟨h1,h2,R⟩:=h;exact⟨_,_,R,λ_ hk=>⟨h1,h2,hk⟩⟩)
     | (split at h)
     | (simp only[EI] at h |-;refine QY h.1 ?_;replace h:=h.2)
     | (refine QY h.1 ?_;replace h:=h.2))
   all_goals (rcases U with U|U<;>simp[Hu,isQ] at U)
  all_goals first|(simp only[jU] at h;done)|(simp only[jU] at h;exact h.elim)|(rcases U with U|U<;>simp[Hu,isQ] at U)
 all_goals (rcases U with U|U<;>simp[Hu,isQ] at U)
theorem FQ {size:Nat}{row:List PV}{c:Nat}{v:PV}{K:List PV->Prop}(h:lL size row c v K):∃ r,K r:=by
 obtain⟨r,h,_⟩:=CX h;exact⟨r,h⟩
theorem adK {o:Op}{ps:List PV}{lk:Nat->Option jq}{id:Nat}{K:PV->Dl->Prop}(hn:ndO T ps lk o=true)(h:jU T (iK.jd P T) o ps lk id K):∃ v δ,K v δ:=by
 cases o
 case store t x y =>
  simp only[jU] at h
  split at h
  split at h
  rename_i e1;simp[ndO,e1] at hn
  rename_i b r c e1
  split at h
  rename_i U;simp[ndO,e1,U] at hn
  split at h
  split at h
  revert h;generalize (_&&_:Bool)=bb;intro h
  cases bb with
  | true=>exact h.elim
  | false =>
   obtain⟨row,_,h⟩:=h;obtain⟨r,h⟩:=FQ (h ⟨0,0,0⟩);exact⟨_,_,h⟩
  exact h.elim
  split at h
  obtain⟨row,_,h⟩:=h;obtain⟨r,h⟩:=FQ h;exact⟨_,_,h⟩
  exact h.elim
  rename_i U;simp[ndO,e1,U] at hn
  exact h.elim
  split at h
  split at h
  have R:=yL h;clear h;obtain⟨_,_,_,_,⟨row,_,h⟩,_⟩:=R
  split at h
  simp only[EI,iK.jd] at h;obtain⟨_,_,er,_,h⟩:=h;obtain⟨r,h⟩:=FQ h;exact⟨_,_,h⟩
  exact h.elim
  exact h.elim
  exact h.elim
  exact h.elim
  exact h.elim
 all_goals simp[ndO] at hn
theorem adL (hT:jg P T)(hW:CW P){all:Array Oper}{o:Oper}{ps:List PV}{lk:Nat->Option jq}{id:Nat}{v:PV}{δ:Dl}(hF:∀ K' : PV->Dl->Prop,K' v δ->jU T (iK.jd P T) o.op ps lk id K'):Uy P T all o ps lk id v δ true:=by
 intro C qs Y σ a w st n hl H hd g hid next Q R
 obtain⟨h1,h2,h3⟩:=hid rfl;have h4:=hF (λv' I=>v'=v/\I=δ) ⟨rfl,rfl⟩;rw[<- KN (sD hl)] at h4;obtain⟨v',I,cv,w',Y',σ',⟨rfl,rfl⟩,U,H',hv,J⟩:=xx hT hW H g ⟨h1 id (Nat.le_refl _) ah,h2⟩ h4;have hn:ql I n id<=n:=by cases I<;>simp[ql]<;>omega
 have:=R cv w' Y' σ' (H'.mono hn) (λb hb=>J b ah) (λe=>by cases e) hv;unfold Oper.wp;rcases U with U|⟨U,rfl⟩
 rw[U];exact this
 rw[U];exact this
theorem ZF {S:iK}{o:Op}{ps:List PV}{lk:Nat->Option jq}{st:St}{id:Nat}{c2:Bool}{K:PV->Dl->Prop}(hn:∀ f args ts,o=.call { callee:=.value f,args:=args,argTypes:=ts }->False):opW T S o ps lk st id c2 K=jU T S o ps lk id K:=by
 unfold opW
 split
 rename_i f args ts;exact (hn f args ts rfl).elim
 rfl
theorem We (f:Nat->Option Nat)(st1:St):∀ (l:List Nat) (i:Nat) (st:St),XE f st1 i l st=iW (dlO f st1 i l) st
 | [],i,st=>rfl
 | b::l,i,st=>by simp only[XE,dlO,iW];exact We f st1 l (i+1) _
theorem Me (f:Nat->Option Nat){st st' : St}:∀ (ρ:List Nat) (i:Nat),(∀ b∈ρ,iO st b=iO st' b)->DT f st i ρ=DT f st' i ρ
 | [],i,_=>rfl
 | b::ρ,i,h=>by
  simp only[DT];rw[h b aB,Me f ρ (i+1) λc U=>h c (by simp[U])]
theorem PD {st:St}:∀ (ρ:List Nat),afp st ρ=true->∀ b∈ρ,∃ x,iO st b=some x
 | [],_,b,h=>by cases h
 | c::ρ,h,b,hb=>by
  simp only[afp,Bool.and_eq_true] at h;rcases List.mem_cons.1 hb with rfl|hb
  have:=h.1
  cases hx:iO st b with
  | none=>rw[hx] at this;cases this
  | some x=>exact⟨x,rfl⟩
  exact PD ρ h.2 b hb
theorem Wh {o:Op}{ps:List PV}{lk:Nat->Option jq}{st:St}{id:Nat}{c2:Bool}{K:PV->Dl->Prop}(g:Hu T o=1\/Hu T o=2)(hn:ndO T ps lk o=false)(h:opW T (iK.jd P T) o ps lk st id c2 K) :
  ∃ v δ,K v δ/\∀ U : PV->Dl->Prop,U v δ->opW T (iK.jd P T) o ps lk st id c2 U:=by
 by_cases hv:∃ f args ts,o=.call { callee:=.value f,args:=args,argTypes:=ts }
 obtain⟨f,args,ts,rfl⟩:=hv;unfold opW at h |-;simp only at h |-
 split at h
 rename_i k C O
 cases c2 with
 | false =>
  simp only at h
  split at h
  rename_i as hm;obtain⟨v,x,hF,R⟩:=h;refine⟨_,_,R,λU hk=>?_⟩;simp only[hm];exact⟨v,x,hF,hk⟩
  exact h.elim
 | true =>
  simp only at h;unfold Rt at h
  split at h
  rename_i J;obtain⟨v,st1,n1,h0,hF,R⟩:=h
  split at R
  rename_i hb;refine⟨_,_,R,λU hk=>?_⟩;simp only;unfold Rt;simp only[J];refine⟨v,st1,n1,h0,hF,?_⟩;simp only[hb];exact hk
  exact R.elim
  exact h.elim
 exact h.elim
 have I : ∀ f args ts,o=.call { callee:=.value f,args:=args,argTypes:=ts }->False:=λf args ts e=>hv ⟨f,args,ts,e⟩;rw[ZF I] at h;obtain⟨v,δ,h1,h2⟩:=Ya g hn h;exact⟨v,δ,h1,λU hk=>by rw[ZF I];exact h2 U hk⟩
theorem adM (hT:jg P T)(hW:CW P){all:Array Oper}{o:Oper}{ps:List PV}{lk:Nat->Option jq}{st:St}{id:Nat}{v:PV}{δ:Dl}{c2:Bool}(hst:c2=true->lk=iO st)(hF:∀ K' : PV->Dl->Prop,K' v δ->opW T (iK.jd P T) o.op ps lk st id c2 K'):Uy P T all o ps lk id v δ true:=by
 by_cases hv:∃ f args ts,o.op=.call { callee:=.value f,args:=args,argTypes:=ts }
 obtain⟨f,args,ts,ho⟩:=hv;intro C qs Y σ a w stn n hl H hd hlk hid next Q hnext
 obtain⟨g1,g2,g3⟩:=hid rfl;have R:=hF (λv' δ'=>v'=v/\δ'=δ) ⟨rfl,rfl⟩;rw[ho] at R;unfold opW at R;simp only at R
 split at R
 rename_i k caps O;have hev:=sD (T:=T) hl;rw[ho] at hev;have hfv:=jw H f;rw[hev f dw,O] at hfv;unfold Rep at hfv;obtain⟨cs,ef,hcs⟩:=hfv;have hargs:=rU H args.toList;rw[yg (ps:=qs) (qs:=ps) args.toList λx hx=>hev x bn] at hargs;have hall:=gB.app _ _ _ _ hargs hcs
 cases c2 with
 | false =>
  simp only at R
  split at R
  rename_i as hm;obtain⟨v0,x,hF0,rfl,rfl⟩:=R;have hr0:=NG (P:=P) (T:=T) H.store (lk:=QI) (λb x h=>by cases h) (λ_ h=>h) (λb x l h=>by cases h) (λb sz rows hb=>by cases hb) hm hall;have hr1:gB w Y σ as _:=gB.keep as (σ:=iQ) (σ':=σ) ⟨λ_ _ _=>rfl,λ_ _ h=>h,Nat.le_refl _,λb l h=>by simp[iQ] at h⟩ _ hr0
  obtain⟨I,U⟩:=V8 (E:=⟨qs,stn,id⟩) (ρ:=[]) (n0:=n) (N:=n) (v:=v0) (st1:=[(0,some x)]) (n1:=1) H rfl rfl rfl g2 (λb hb1 hb2=>by
   have:b=id:=by simp only[kZ] at hb1 hb2;omega
   rw[this];exact g1 id (Nat.le_refl _) ah) ⟨by simp only[kZ];omega,Nat.le_refl _⟩ hr1 hF0
  unfold Oper.wp;rw[DZ ho ef I];refine Calls.mono U λe w' hh=>?_;obtain⟨cv,Y',σ',rfl,H',J,g⟩:=hh;exact hnext cv w' Y' σ' H' (λb hb=>g b (by simp only[kZ];omega)) (λe=>by cases e) J
  exact R.elim
 | true =>
  simp only at R;unfold Rt at R
  split at R
  rename_i hcnd;simp only[Bool.and_eq_true] at hcnd;obtain⟨c1,c2,c3⟩:=hcnd;obtain⟨v0,st1,n1,h0,hF0,hK⟩:=R
  split at hK
  rename_i hb;obtain⟨rfl,rfl⟩:=hK;have hb:=Nat.le_of_ble_eq_true hb;have hlk':=hlk;rw[hst rfl] at hlk'
  have hren:=Me (st:=st) (st':=stn) (ixN (I7 (wU (evA T ps args.toList) caps) st)) (I7 (wU (evA T ps args.toList) caps) st) 0 λb hb=>by
   obtain⟨x,hx⟩:=PD _ c3 b hb;rw[hx,hlk' b x hx]
  rw[hren] at h0 hF0;obtain⟨I,U⟩:=V8 (E:=⟨qs,stn,id⟩) (n0:=n) (N:=n) (v:=v0) (st1:=st1) H c2 c1 h0 g2 (λb hb1 hb2=>g1 b hb1 (by simp only at hb2;omega)) ⟨by simp only;omega,Nat.le_refl _⟩ hall hF0;unfold Oper.wp;rw[DZ ho ef I];refine Calls.mono U λe w' hh=>?_;obtain⟨cv,Y',σ',rfl,H',J,g⟩:=hh;refine hnext cv w' Y' σ' ?_ (λb hb'=>g b aC) (λe=>by cases e) J;rw[<- We];exact H'
  exact hK.elim
  exact R.elim
 exact R.elim
 have J : ∀ f args ts,o.op=.call { callee:=.value f,args:=args,argTypes:=ts }->False:=λf args ts e=>hv ⟨f,args,ts,e⟩;exact adL hT hW λK' hk=>by have:=hF K' hk;rw[ZF J] at this;exact this
end
end Go.Pv
namespace Go.Pv
open Go
section
variable {P:Program}{T:Tab}
structure Rec where
 e1:List PV
 er:List PV
 lk:Nat->Option jq
 v:PV
 δ:Dl
 id:Nat
 big:Bool
 wb:Bool
 nd:Bool
def aba (δ:Dl)(b:Nat):Prop:=∃ x,(b,x)∈δ
structure ZG (P:Program)(T:Tab)(all:Array Oper)(o:Oper)(r:Rec)(p:List PV)(st:St)(nx:Nat)(pend:List Nat):Prop where
 e1:yF p r.e1
 er:yF p r.er
 gd:aa8 T all o r.e1 r.wb
 sem:r.wb=true->r.nd=false->Uy P T all o r.er r.lk r.id r.v r.δ r.big
 ndw:r.nd=true->r.wb=true/\r.big=true
 skip:r.wb=false->r.v=.undef
 cls:(r.big=false/\r.δ=[]/\(r.wb=true->∀ b x,r.lk b=some x->uQ T o=3/\b ∉ pend/\iO st b=some x)) \/
  (r.wb=true/\r.big=true/\r.id=nx/\uQ T o=1/\(∃ x,r.δ=[(nx,some x)])/\r.lk=QI) \/
  (r.wb=true/\r.big=true/\r.id=nx/\uQ T o=2/\(∀ b,aba r.δ b->b<nx+32)/\r.lk=iO st)
def bump (b:Bool)(n:Nat):Nat:=match b with|true=>n+32|false=>n
def NM (T:Tab)(o:Oper)(r:Rec)(pend:List Nat):List Nat:=match r.big with
 | false=>pend
 | true=>if uQ T o=1 then r.id::pend else []
def ChD (P:Program)(T:Tab)(all:Array Oper):List Oper->List Rec->List PV->St->Nat->List Nat->List PV->St->Nat->Prop
 | [],[],p,st,nx,_,f,stf,nxf=>p=f/\st=stf/\nx=nxf
 | o::l,r::rs,p,st,nx,pend,f,stf,nxf=>ZG P T all o r p st nx pend/\ChD P T all l rs (uw r.er o.dst r.v) (iW r.δ st) (bump r.big nx) (NM T o r pend) f stf nxf
 | _,_,_,_,_,_,_,_,_=>False
def ZH (P:Program)(T:Tab)(all:Array Oper)(K:Env->Prop):List Oper->List Rec->St->List PV->St->Nat->Prop
 | o::l,r::rs,st,f,stf,nxf=>(r.nd=true->l=[]/\rs=[]/\LU all=true/\nxf=r.id+32/\jU T (iK.jd P T) o.op r.er (iO st) r.id (λv δ=>bif ltD (r.id+32) δ then K ⟨uw r.er o.dst v,iW δ st,r.id+32⟩ else False))
  /\ (r.nd=false->ZH P T all K l rs (iW r.δ st) f stf nxf)
 | [],[],_,f,stf,nxf=>K ⟨f,stf,nxf⟩
 | _,_,_,_,_,_=>False
theorem Sz {n:Nat}:∀ (δ:Dl),ltD n δ=true->∀ b,aba δ b->b<n
 | [],_,b,h=>by obtain⟨x,h⟩:=h;cases h
 | (c,y)::δ,h,b,hb=>by
  simp only[ltD,Bool.and_eq_true,Nat.blt_eq] at h;obtain⟨x,hb⟩:=hb;rcases List.mem_cons.1 hb with e|hb
  cases e;exact h.1
  exact Sz δ h.2 b ⟨x,hb⟩
theorem ZI {pend:List Nat}{lk:Nat->Option jq}{b:Nat}{x:jq}(h:aaP pend lk b=some x):b ∉ pend/\lk b=some x:=by
 unfold aaP at h
 cases hb:ve pend b with
 | true=>rw[hb] at h;cases h
 | false=>rw[hb] at h;exact⟨(λU=>by rw[(Gm _ _).2 U] at hb;cases hb),h⟩
theorem QZ {o:Oper}{c:Nat}(h:uQ T o=c)(U:c≠0):Hu T o.op=c:=by
 unfold uQ at h
 split at h
 exact absurd h.symm U
 exact h
theorem afY {o:Oper}(h:isQ o.op=false):uQ T o=Hu T o.op:=by
 have:qtO T o=false:=by
  unfold qtO
  split
  split
  exact h
  rfl
  rfl
 unfold uQ;rw[this]
theorem afZ {o:Op}{ps:List PV}{lk:Nat->Option jq}(h:Hu T o=1):ndO T ps lk o=false:=by cases o<;>simp[ndO,Hu] at h |-
theorem D5 (hT:jg P T)(hW:CW P){all:Array Oper}:∀ (l:List Oper) (pend:List Nat) (E:Env) (K:Env->Prop),Zo T (iK.jd P T) all l pend E K ->
  ∃ rs f U R,ChD P T all l rs E.tmps E.st E.next pend f U R/\ZH P T all K l rs E.st f U R
 | [],pend,E,K,h=>⟨[],E.tmps,E.st,E.next,⟨rfl,rfl,rfl⟩,h⟩
 | o::l,pend,E,K,h=>by
  simp only[Zo] at h;obtain⟨J,wb,h1,h2,C,h4,h5,h6⟩:=adI h
  cases wb with
  | false =>
   have k5:=h6 rfl;rw[NL,h2,C] at k5;obtain⟨rs,f,U,R,I,hK⟩:=D5 hT hW l pend _ _ k5;exact⟨⟨J.tmps,J.tmps,QI,.undef,[],0,false,false,false⟩::rs,f,U,R,⟨⟨h1,h1,h4,(λe=>by cases e),(λe=>by cases e),(λ_=>rfl),.inl ⟨rfl,rfl,λe=>by cases e⟩⟩,I⟩,(λe=>by cases e),λ_=>hK⟩
  | true =>
   have h5:=h5 rfl;unfold agU at h5
   cases g:ndO T J.tmps (iO J.st) o.op with
   | true =>
    rw[g] at h5
    cases l with
    | cons _ _=>exact h5.elim
    | nil =>
      obtain⟨hlo,h5⟩:=h5;obtain⟨v,δ,hk⟩:=adK g h5
      cases hi:ltD (J.next+32) δ with
      | false=>rw[hi] at hk;exact hk.elim
      | true =>
       have hq:isQ o.op=false:=by
        revert g;cases o.op<;>simp[ndO,isQ]
       have hcl:uQ T o=2:=by
        rw[afY hq];revert g;cases o.op<;>simp[ndO,Hu]
       refine⟨[⟨J.tmps,J.tmps,iO J.st,v,δ,J.next,true,true,true⟩],_,_,_,⟨⟨h1,h1,h4,(λ_ e=>by cases e),(λ_=>⟨rfl,rfl⟩),(λe=>by cases e),.inr (.inr ⟨rfl,rfl,C,hcl,?_,by rw[h2]⟩)⟩,rfl,rfl,rfl⟩,λ_=>⟨rfl,rfl,hlo,by simp[bump,C],?_⟩,λe=>by cases e⟩
       rw[<- C];exact Sz δ hi
       simp only[NL,h2] at h5;exact h5
   | false =>
   rw[g] at h5;simp only at h5;unfold stepD at h5
   have quiet:∀ lk,(uQ T o=0/\lk=QI\/uQ T o=3/\lk=aaP pend (iO J.st))->XF T (iK.jd P T) o lk J (λE=>Zo T (iK.jd P T) all l pend E K) ->
     ∃ rs f U R,ChD P T all (o::l) rs E.tmps E.st E.next pend f U R/\ZH P T all K (o::l) rs E.st f U R:=by
    intro lk hlk hs;obtain⟨E2,v,k1,k2,k3,k4,k5⟩:=X9 hT hW (all:=all) 0 hs;rw[NL,k2,k3,h2,C] at k5;obtain⟨rs,f,U,R,I,hK⟩:=D5 hT hW l pend _ _ k5;refine⟨⟨J.tmps,E2.tmps,lk,v,[],0,false,true,false⟩::rs,f,U,R,⟨⟨h1,h1.trans k1,h4,λ_ _=>k4,(λe=>by cases e),(λe=>by cases e),.inl ⟨rfl,rfl,λ_ b x hb=>?_⟩⟩,I⟩,(λe=>by cases e),λ_=>hK⟩;rcases hlk with ⟨c0,rfl⟩|⟨c3,rfl⟩
    cases hb
    obtain⟨a1,a2⟩:=ZI hb;rw[h2] at a2;exact⟨c3,a1,a2⟩
   split at h5
   rename_i I;exact quiet QI (.inl ⟨I,rfl⟩) h5
   rename_i I;obtain⟨v,δ,hk,O⟩:=Wh (.inl (QZ I bU)) (afZ (QZ I bU)) h5
   split at hk
   rename_i id x
   cases hi:Nat.beq id J.next with
   | false=>rw[hi] at hk;exact hk.elim
   | true =>
    rw[hi] at hk;simp only[cond_true] at hk;have hid:=Nat.eq_of_beq_eq_true hi;subst hid;rw[NL,h2,C] at hk;obtain⟨rs,f,U,R,hc2,hK⟩:=D5 hT hW l _ _ _ hk;refine⟨⟨J.tmps,J.tmps,QI,v,[(J.next,some x)],J.next,true,true,false⟩::rs,f,U,R,⟨⟨h1,h1,h4,λ_ _=>?_,(λe=>by cases e),(λe=>by cases e),.inr (.inl ⟨rfl,rfl,C,I,⟨x,by rw[C]⟩,rfl⟩)⟩,?_⟩,(λe=>by cases e),λ_=>?_⟩
    exact adM hT hW (λe=>by cases e) O
    simp only[iW,bump,NM,I,if_true,C];exact hc2
    simp only[iW,C];exact hK
   exact hk.elim
   rename_i I;obtain⟨v,δ,hk,O⟩:=Wh (.inr (QZ I bU)) g h5
   cases hi:ltD (J.next+32) δ with
   | false=>rw[hi] at hk;exact hk.elim
   | true =>
    rw[hi] at hk;simp only[cond_true] at hk;rw[NL,h2,C] at hk;obtain⟨rs,f,U,R,hc2,hK⟩:=D5 hT hW l _ _ _ hk;refine⟨⟨J.tmps,J.tmps,iO J.st,v,δ,J.next,true,true,false⟩::rs,f,U,R,⟨⟨h1,h1,h4,λ_ _=>?_,(λe=>by cases e),(λe=>by cases e),.inr (.inr ⟨rfl,rfl,C,I,?_,by rw[h2]⟩)⟩,?_⟩,(λe=>by cases e),λ_=>hK⟩
    exact adM hT hW (λ_=>rfl) O
    rw[<- C];exact Sz δ hi
    simp only[bump,NM,I,C];exact hc2
   rename_i I;exact quiet _ (.inr ⟨I,rfl⟩) h5
   exact h5.elim
theorem ChD.len {all:Array Oper}:∀ (l:List Oper) (rs:List Rec) {p:List PV} {st:St} {nx:Nat} {pend:List Nat} {f:List PV} {U:St} {R:Nat},ChD P T all l rs p st nx pend f U R->rs.length=l.length/\f.length=p.length
 | [],[],_,_,_,_,_,_,_,h=>⟨rfl,by rw[h.1]⟩
 | o::l,r::rs,_,_,_,_,_,_,_,h=>by
  obtain⟨h1,h2⟩:=ChD.len l rs h.2;exact⟨by simp[h1],by rw[h2,lh,h.1.er.1]⟩
 | [],_::_,_,_,_,_,_,_,_,h=>h.elim
 | _::_,[],_,_,_,_,_,_,_,h=>h.elim
theorem ChD.keep {all:Array Oper}{t:Nat}:∀ (l:List Oper) (rs:List Rec) {p:List PV} {st:St} {nx:Nat} {pend:List Nat} {f:List PV} {U:St} {R:Nat},ChD P T all l rs p st nx pend f U R->(∀ o∈l,o.dst≠some t)->Eqv (iZ p t) (iZ f t)
 | [],[],_,_,_,_,_,_,_,h,_=>by rw[h.1];exact Eqv.refl _
 | o::l,r::rs,_,_,_,_,_,_,_,h,hn=>by
  have:=ChD.keep l rs h.2 λo ho=>hn o (by simp[ho]);rw[Be (hn o aB)] at this;exact (h.1.er.2 t).trans this
 | [],_::_,_,_,_,_,_,_,_,h,_=>h.elim
 | _::_,[],_,_,_,_,_,_,_,h,_=>h.elim
def yG:List Rec->St->Nat->St
 | _,st,0=>st
 | [],st,_+1=>st
 | r::rs,st,i+1=>yG rs (iW r.δ st) i
def zT:List Rec->Nat->Nat->Nat
 | _,n,0=>n
 | [],n,_+1=>n
 | r::rs,n,i+1=>zT rs (bump r.big n) i
def MB (T:Tab):List Oper->List Rec->List Nat->Nat->List Nat
 | _,_,pd,0=>pd
 | o::l,r::rs,pd,i+1=>MB T l rs (NM T o r pd) i
 | _,_,pd,_=>pd
theorem ChD.get {all:Array Oper}:∀ (l:List Oper) (rs:List Rec) {p:List PV} {st:St} {nx:Nat} {pend:List Nat} {f:List PV} {J:St} {C:Nat},ChD P T all l rs p st nx pend f J C->∀ (i:Nat) (o:Oper),l[i]?=some o ->
  ∃ r q,rs[i]?=some r/\q.length=p.length/\ZG P T all o r q (yG rs st i) (zT rs nx i) (MB T l rs pend i) /\
   (∀ t,(∀ j oj,j<i->l[j]?=some oj->oj.dst≠some t)->Eqv (iZ p t) (iZ q t)) /\
   (∀ t,(∀ j oj,i<=j->l[j]?=some oj->oj.dst≠some t)->Eqv (iZ q t) (iZ f t)) /\
   (∀ d,o.dst=some d->d<p.length->(∀ j oj,i<j->l[j]?=some oj->oj.dst≠some d)->Eqv r.v (iZ f d))
 | [],_,_,_,_,_,_,_,_,_,i,o,hi=>by simp at hi
 | _::_,[],_,_,_,_,_,_,_,h,_,_,_=>h.elim
 | o'::l,r::rs,p,_,_,_,f,_,_,h,0,o,hi=>by
  obtain⟨h1,R⟩:=h;simp at hi;subst hi;refine⟨r,p,rfl,rfl,h1,λt _=>Eqv.refl _,λt ht=>?_,λd I U hn=>?_⟩
  have hk:=ChD.keep l rs R (t:=t) λo ho=>by
   obtain⟨j,hj⟩:=List.getElem?_of_mem ho;exact ht (j+1) o ah dN
  rw[Be (ht 0 o' ah aB)] at hk;exact (h1.er.2 t).trans hk
  have hk:=ChD.keep l rs R (t:=d) λo ho=>by
   obtain⟨j,hj⟩:=List.getElem?_of_mem ho;exact hn (j+1) o ah dN
  rw[I] at hk;simp only[uw,uM] at hk;rw[if_pos ⟨trivial,by rw[<- h1.er.1];exact U⟩] at hk;exact hk
 | o'::l,r::rs,p,_,_,_,f,_,_,h,i+1,o,hi=>by
  obtain⟨h1,R⟩:=h;obtain⟨r',q,a0,a1,a2,g,a7,a8⟩:=ChD.get l rs R i o cZ;have hl:(uw r.er o'.dst r.v).length=p.length:=by rw[lh,h1.er.1]
  refine⟨r',q,by simpa using a0,by rw[a1,hl],a2,λt ht=>?_,λt ht=>?_,λd I U hn=>?_⟩
  have hk:=g t λj oj hj hoj=>ht (j+1) oj ah bV;rw[Be (ht 0 o' ah aB)] at hk;exact (h1.er.2 t).trans hk
  exact a7 t λj oj hj hoj=>ht (j+1) oj ah bV
  exact a8 d I (by rw[hl];exact U) λj oj hj hoj=>hn (j+1) oj ah bV
theorem ChD.fin {all:Array Oper}:∀ (l:List Oper) (rs:List Rec) {p:List PV} {st:St} {nx:Nat} {pend:List Nat} {f:List PV} {U:St} {R:Nat},ChD P T all l rs p st nx pend f U R->U=yG rs st rs.length/\R=zT rs nx rs.length
 | [],[],_,_,_,_,_,_,_,h=>⟨h.2.1.symm,h.2.2.symm⟩
 | o::l,r::rs,_,_,_,_,_,_,_,h=>ChD.fin l rs h.2
 | [],_::_,_,_,_,_,_,_,_,h=>h.elim
 | _::_,[],_,_,_,_,_,_,_,h=>h.elim
theorem bump_le (b:Bool)(n:Nat):n<=bump b n:=by cases b<;>simp[bump]
theorem MC:∀ (rs:List Rec) (n i:Nat),n<=zT rs n i
 | _,n,0=>by simp[zT]
 | [],n,i+1=>by simp[zT]
 | r::rs,n,i+1=>by simp only[zT];exact Nat.le_trans (bump_le _ _) (MC rs _ i)
theorem KO:∀ (rs:List Rec) (n i:Nat) (r:Rec),rs[i]?=some r->zT rs n (i+1)=bump r.big (zT rs n i)
 | [],n,i,r,h=>by simp at h
 | r::rs,n,0,r',h=>by simp at h;subst h;cases rs<;>simp[zT]
 | r::rs,n,i+1,r',h=>by simp only[zT];exact KO rs _ i r' bY
theorem U5:∀ (rs:List Rec) (n i:Nat),rs.length<=i->zT rs n (i+1)=zT rs n i
 | [],n,0,_=>by simp[zT]
 | [],n,i+1,_=>by simp[zT]
 | r::rs,n,0,h=>by simp at h
 | r::rs,n,i+1,h=>by simp only[zT];exact U5 rs _ i bY
theorem PE {rs:List Rec}{n i j:Nat}(h:i<=j):zT rs n i<=zT rs n j:=by
 induction h with
 | refl=>exact Nat.le_refl _
 | step h ih =>
  rename_i m
  cases U:rs[m]? with
  | some r=>rw[KO _ _ _ _ U];exact Nat.le_trans ih (bump_le _ _)
  | none=>rw[U5 _ _ _ (by rw[List.getElem?_eq_none_iff] at U;exact U)];exact ih
def je:Dl->Nat->Option (Option jq)
 | [],_=>none
 | (c,x)::δ,b=>match je δ b with
  | some y=>some y
  | none=>if c=b then some x else none
theorem mi:∀ (δ:Dl) (st:St) (b:Nat),iO (iW δ st) b=(match je δ b with|some x=>x|none=>iO st b)
 | [],st,b=>rfl
 | (c,x)::δ,st,b=>by
  simp only[iW,mi δ (nI st c x) b,je]
  cases je δ b with
  | some y=>rfl
  | none =>
   simp only[iG]
   by_cases h:c=b<;>simp[h]
theorem Ib:∀ (δ:Dl) (b:Nat),je δ b≠none->aba δ b
 | [],b,h=>absurd rfl h
 | (c,x)::δ,b,h=>by
  simp only[je] at h
  split at h
  rename_i y hy;obtain⟨z,T⟩:=Ib δ b (by rw[hy];simp);exact⟨z,List.mem_cons_of_mem _ T⟩
  by_cases U:c=b
  subst U;exact⟨x,by simp⟩
  rw[if_neg U] at h;exact absurd rfl h
def lst:List Rec->(Nat->Bool)->Nat->Nat->Option (Option jq)
 | [],_,_,_=>none
 | r::rs,D,i,b=>match lst rs D (i+1) b with
  | some y=>some y
  | none=>if D i then je r.δ b else none
def orS (st:St)(b:Nat):Option (Option jq)->Option jq
 | some x=>x
 | none=>iO st b
theorem yh:∀ (rs:List Rec) (D U : Nat->Bool) (i b:Nat),(∀ k r,rs[k]?=some r->je r.δ b≠none->D (i+k)=U (i+k))->lst rs D i b=lst rs U i b
 | [],_,_,_,_,_=>rfl
 | r::rs,D,U,i,b,h=>by
  have R:=yh rs D U (i+1) b λk T hr hb=>by
   have:=h (k+1) T cu hb
   rwa [show i+(k+1)=i+1+k by omega] at this
  simp only[lst,R]
  split
  rfl
  by_cases hb:je r.δ b=none
  simp[hb]
  have:=h 0 r rfl hb;simp only[Nat.add_zero] at this;rw[this]
theorem D6:∀ (rs:List Rec) (D:Nat->Bool) (i b:Nat),(∀ k r,rs[k]?=some r->D (i+k)=true->je r.δ b=none)->lst rs D i b=none
 | [],_,_,_,_=>rfl
 | r::rs,D,i,b,h=>by
  have T:=D6 rs D (i+1) b λk U hr hb=>h (k+1) U cu eH;simp only[lst,T]
  split
  rename_i h0;exact h 0 r rfl (by simpa using h0)
  rfl
theorem SA:∀ (rs:List Rec) (D:Nat->Bool) (i m b:Nat) (r:Rec) (x:Option jq),rs[m]?=some r->D (i+m)=true->je r.δ b=some x->(∀ k U,m<k->rs[k]?=some U->D (i+k)=true->je U.δ b=none)->lst rs D i b=some x
 | [],_,_,m,_,_,_,h,_,_,_=>by simp at h
 | r::rs,D,i,0,b,U,x,h,hD,hx,hl=>by
  simp at h;subst h;have:=D6 rs D (i+1) b λk U hr hb=>hl (k+1) U ah cu eH;simp only[lst,this];rw[if_pos (by simpa using hD)];exact hx
 | r::rs,D,i,m+1,b,U,x,h,hD,hx,hl=>by
  have:=SA rs D (i+1) m b U x bY (by rwa [show i+1+m=i+(m+1) by omega]) hx λk r2 hk hr hb=>hl (k+1) r2 ah cu eH;simp only[lst,this]
theorem KP:∀ (rs:List Rec) (st:St) (i j b:Nat),iO (yG rs st i) b=orS st b (lst rs (λk=>decide (k<j+i)) j b)
 | [],st,0,j,b=>rfl
 | [],st,i+1,j,b=>rfl
 | r::rs,st,0,j,b=>by
  simp only[yG];rw[D6 _ _ _ _ λk U _ h=>by simp at h;omega];rfl
 | r::rs,st,i+1,j,b=>by
  simp only[yG,KP rs (iW r.δ st) i (j+1) b,lst];rw[show (λk=>decide (k<j+1+i))=(λk=>decide (k<j+(i+1))) from funext λk=>by congr 2;omega]
  cases lst rs (λk=>decide (k<j+(i+1))) (j+1) b with
  | some y=>rfl
  | none =>
   simp only[orS,mi];rw[if_pos aB]
theorem Qq {all:Array Oper}{i:Nat}{o:Oper}{lo:List Tmp}:∀ (l:List Oper) (j:Nat),Rw all i o lo l j=true->∀ (k:Nat) (p:Oper),l[k]?=some p->Ru all i o lo (j+k) p=true
 | [],_,_,k,p,hk=>by simp at hk
 | q::l,j,h,0,p,hk=>by simp at hk;subst hk;simp only[Rw,Bool.and_eq_true] at h;exact h.1
 | q::l,j,h,k+1,p,hk=>by
  simp only[Rw,Bool.and_eq_true] at h;have:=Qq l (j+1) h.2 k p fA;rw[show j+(k+1)=j+1+k by omega];exact this
theorem Jt {all:Array Oper}:∀ (l:List Oper) (i:Nat),BX all l i=true->∀ (k:Nat) (o:Oper),l[k]?=some o ->
  (∀ e∈o.after,Region.binds .any e=true->e.on<i+k)/\∀ (j:Nat) (p:Oper),all[j]?=some p->Ru all (i+k) o (o.looksAt all) j p=true
 | [],_,_,k,o,hk=>by simp at hk
 | q::l,i,h,0,o,hk=>by
  simp at hk;subst hk;simp only[BX,Bool.and_eq_true] at h;refine⟨λe he hb=>?_,λj p hp=>?_⟩
  have:=Array.all_eq_true_iff_forall_mem.1 h.1.1 e he;rw[hb,Bool.not_true,Bool.false_or,Nat.blt_eq] at this;simpa using this
  have:=Qq all.toList 0 h.1.2 j p (by simpa using hp)
  simpa using this
 | q::l,i,h,k+1,o,hk=>by
  simp only[BX,Bool.and_eq_true] at h;have:=Jt l (i+1) h.2 k o fA;rw[show i+(k+1)=i+1+k by omega];exact this
theorem BA {all:Array Oper}(h0:DV T all=true){i:Nat}{o:Oper}(hi:all[i]?=some o) :
  (∀ e∈o.after,Region.binds .any e=true->e.on<i)/\∀ (j:Nat) (p:Oper),all[j]?=some p->j≠i->∀ d,p.dst=some d->o.dst≠some d /\
   (d∈o.looksAt all->(∃ e∈o.after,Region.binds .any e=true/\e.on=j)\/(∃ e∈p.after,Region.binds .any e=true/\e.on=i)):=by
 have h:BX all all.toList 0=true:=by unfold DV at h0;rw[Bool.and_eq_true] at h0;exact h0.1
 obtain⟨h1,h2⟩:=Jt all.toList 0 h i o cZ;rw[Nat.zero_add] at h1 h2;refine⟨h1,λj p hp R d J=>?_⟩;have:=h2 j p hp;have U:Nat.beq i j=false:=Nv λe=>R e.symm;simp only[Ru,U,J,Bool.false_or,Bool.and_eq_true,Bool.or_eq_true,bne_iff_ne,ne_eq,Bool.not_eq_true',List.contains_eq_mem,decide_eq_false_iff_not] at this;refine⟨this.1,λI=>?_⟩;rcases this.2 with (hh|hh)|hh
 exact absurd I hh
 obtain⟨e,he,hb⟩:=Array.any_eq_true'.1 hh;simp only[Bool.and_eq_true] at hb;exact .inl ⟨e,he,hb.1,Nat.eq_of_beq_eq_true hb.2⟩
 obtain⟨e,he,hb⟩:=Array.any_eq_true'.1 hh;simp only[Bool.and_eq_true] at hb;exact .inr ⟨e,he,hb.1,Nat.eq_of_beq_eq_true hb.2⟩
inductive Bef (all:Array Oper):Nat->Nat->Prop
 | one {i:Nat} {o:Oper} {e:Edge}:all[i]?=some o->e∈o.after->Region.binds .any e=true->Bef all e.on i
 | trans {i j k:Nat}:Bef all i j->Bef all j k->Bef all i k
theorem MF:∀ (l m:List Nat) (b:Nat),b∈Rx l m->b∈l\/b∈m
 | [],m,b,h=>.inr h
 | c::l,m,b,h=>by
  simp only[Rx] at h
  cases U:ve m c with
  | true =>
   rw[U] at h;rcases MF l m b h with h|h
   exact .inl (List.mem_cons_of_mem _ h)
   exact .inr h
  | false =>
   rw[U] at h;rcases MF l (c::m) b h with h|h
   exact .inl (List.mem_cons_of_mem _ h)
   rcases List.mem_cons.1 h with rfl|h
   exact .inl aB
   exact .inr h
theorem SB:∀ (l:List (List Nat)) (i:Nat),zY l i=l.getD i []
 | [],i=>by simp[zY]
 | x::l,0=>by simp[zY]
 | x::l,i+1=>by simpa [zY] using SB l i
theorem U6 (acc:List (List Nat)):∀ (l:List Nat) (b:Nat),b∈UO acc l->∃ j∈l,b=j\/b∈zY acc j
 | [],b,h=>by simp[UO] at h
 | j::l,b,h=>by
  simp only[UO] at h;rcases MF _ _ _ h with h|h
  exact⟨j,by simp,by simpa using h⟩
  obtain⟨U,h1,h2⟩:=U6 acc l b h;exact⟨U,by simp[h1],h2⟩
theorem Ic {all:Array Oper}:∀ (l:List Oper) (acc:List (List Nat)),(∀ k o,l[k]?=some o->all[acc.length+k]?=some o)->(∀ i b,b∈zY acc i->Bef all b i)->∀ i b,b∈zY (QJ l acc) i->Bef all b i
 | [],acc,_,h2=>by simpa [QJ] using h2
 | o::l,acc,h1,h2=>by
  simp only[QJ];have hlen:(acc++[UO acc (VN o)]).length=acc.length+1:=by simp
  refine Ic l _ (λk o' hk=>?_) λi b hb=>?_
  have:=h1 (k+1) o' fA;rw[hlen,<- this];congr 1;omega
  rw[SB,List.getD_eq_getElem?_getD] at hb
  by_cases hi:i<acc.length
  rw[List.getElem?_append_left hi] at hb;exact h2 i b (by rw[SB,List.getD_eq_getElem?_getD];exact hb)
  rw[List.getElem?_append_right ah] at hb
  have J:i-acc.length=0:=by
   by_cases h0:i-acc.length=0
   exact h0
   rw[List.getElem?_eq_none bM] at hb;simp at hb
  rw[J] at hb;simp only[List.getElem?_cons_zero,Option.getD_some] at hb;have I:i=acc.length:=by omega
  obtain⟨j,hj,hb⟩:=U6 acc _ _ hb;have U:=h1 0 o rfl;rw[Nat.add_zero] at U;simp only[VN,List.mem_map,List.mem_filter] at hj;obtain⟨e,⟨he,R⟩,rfl⟩:=hj;have T:Bef all e.on i:=by rw[I];exact .one U (by simpa using he) R
  rcases hb with rfl|hb
  exact T
  exact .trans (h2 _ _ hb) T
theorem U7 {U:List Nat}{c:Nat}:∀ (l:List Oper) (i:Nat),abW T U c l i=true->∀ k o,l[k]?=some o->clash (uQ T o) c=true->(i+k)∈U
 | [],_,_,k,o,h,_=>by simp at h
 | q::l,i,h,0,o,hk,hc=>by
  simp at hk;subst hk;simp only[abW,Bool.and_eq_true,hc,cond_true] at h;exact (Gm _ _).1 h.1
 | q::l,i,h,k+1,o,hk,hc=>by
  simp only[abW,Bool.and_eq_true] at h;have:=U7 l (i+1) h.2 k o fA hc
  rwa [show i+1+k=i+(k+1) by omega] at this
theorem U8 {L:List Oper}{B:List (List Nat)}:∀ (l:List Oper) (i:Nat),ac7 T L B l i=true->∀ k o,l[k]?=some o->abW T (zY B (i+k)) (uQ T o) (L.take (i+k)) 0=true
 | [],_,_,k,o,h=>by simp at h
 | q::l,i,h,0,o,hk=>by
  simp at hk;subst hk;simp only[ac7,Bool.and_eq_true] at h;exact h.1
 | q::l,i,h,k+1,o,hk=>by
  simp only[ac7,Bool.and_eq_true] at h;have:=U8 l (i+1) h.2 k o fA
  rwa [show i+1+k=i+(k+1) by omega] at this
theorem PG:∀ (l:List Oper),ac8 T l=false->∀ o∈l,uQ T o≠2
 | [],_,o,h=>by cases h
 | q::l,h,o,ho=>by
  simp only[ac8,Bool.or_eq_false_iff] at h;rcases List.mem_cons.1 ho with rfl|ho
  intro e;rw[e] at h;simp at h
  exact PG l h.2 o ho
theorem Dx {all:Array Oper}(h:DV T all=true){i j:Nat}{J oj:Oper}(C:i<j)(hi:all[i]?=some J)(hj:all[j]?=some oj)(U:clash (uQ T J) (uQ T oj)=true):Bef all i j:=by
 unfold DV at h;rw[Bool.and_eq_true] at h;have h:=h.2;have I : all.toList[i]?=some J:=by simpa using hi
 have R : all.toList[j]?=some oj:=by simpa using hj
 cases g:ac8 T all.toList with
 | false =>
  have h1:=PG _ g J (List.mem_of_getElem? I);have h2:=PG _ g oj (List.mem_of_getElem? R)
  exfalso
  simp only[clash,Bool.or_eq_true,Bool.and_eq_true] at U;rcases U with U|U
  exact h1 (Nat.eq_of_beq_eq_true U.1)
  exact h2 (Nat.eq_of_beq_eq_true U.1)
 | true =>
  rw[g] at h;simp only[cond_true] at h;have:=U8 _ 0 h j oj R;rw[Nat.zero_add] at this;have:=U7 _ 0 this i J (by rw[List.getElem?_take_of_lt C];exact I) U;rw[Nat.zero_add] at this;exact Ic all.toList [] (λk o hk=>by simpa using hk) (λi b hb=>by simp[zY] at hb) j i this
def patch (sl:List Tmp)(er ps:List PV):List PV:=(List.range ps.length).map λt=>if t∈sl then iZ er t else iZ ps t
theorem VI (sl:List Tmp)(er ps:List PV):(patch sl er ps).length=ps.length:=by simp[patch]
theorem PH {sl:List Tmp}{er ps:List PV}{t:Nat}(h:t<ps.length):iZ (patch sl er ps) t=if t∈sl then iZ er t else iZ ps t:=by
 rw[A8,List.getD_eq_getElem?_getD];simp[patch,h]
theorem U9 {sl:List Tmp}{er ps:List PV}(h:∀ t∈sl,Eqv (iZ ps t) (iZ er t)):yF ps (patch sl er ps):=by
 refine⟨by simp[patch],λt=>?_⟩
 by_cases ht:t<ps.length
 rw[PH ht]
 split
 rename_i U;exact h t U
 exact Eqv.refl _
 rw[uU (Nat.le_of_not_lt ht),uU dG];exact Eqv.refl _
theorem Qr {sl:List Tmp}{er ps:List PV}(hl:er.length=ps.length):∀ t∈sl,iZ (patch sl er ps) t=iZ er t:=by
 intro t U
 by_cases ht:t<ps.length
 rw[PH ht,if_pos U]
 rw[uU dG,uU (by rw[hl];exact Nat.le_of_not_lt ht)]
theorem Bef.listed {all:Array Oper}{listed:Array Bool}(U:∀ j o,all[j]?=some o->listed.getD j true=true->∀ e∈o.after,Region.binds .any e=true->listed.getD e.on true=true){i j:Nat}(h:Bef all i j):listed.getD j true=true->listed.getD i true=true:=by
 induction h with
 | one h1 h2 J=>intro h;exact U _ _ h1 h _ h2 J
 | trans _ _ R T=>intro h;exact R (T h)
theorem vN {listed:Array Bool}{i j:Nat}(hi:listed.getD i true=false):(listed.setIfInBounds i true).getD j true=true↔(j=i\/listed.getD j true=true):=by
 have T:i<listed.size:=by
  rcases Nat.lt_or_ge i listed.size with h|h
  exact h
  simp[Array.getElem?_eq_none h] at hi
 by_cases U:i=j
 subst U;simp[T]
 rw[getD_set_ne true U];constructor
 intro h;exact .inr h
 rintro (h|h)
 exact absurd h.symm U
 exact h
theorem Bef.ready {all:Array Oper}{listed:Array Bool}(T:∀ j o,all[j]?=some o->listed.getD j true=true->∀ e∈o.after,Region.binds .any e=true->listed.getD e.on true=true)
  {i j:Nat} (h:Bef all i j):∀ o,all[j]?=some o->(∀ e∈o.after,Region.binds .any e=true->listed.getD e.on true=true)->listed.getD i true=true:=by
 induction h with
 | one h1 h2 R=>intro o ho U;rw[h1] at ho;cases ho;exact U _ h2 R
 | trans h1 h2 ih1 ih2 =>
  intro o ho U;exact h1.listed T (ih2 o ho U)
end
end Go.Pv
