import Derived.Lib.ConvBytes
import Derived.Laws.BytesString
import Derived.Test.YtchmoabpofnbaaaGreatC02
set_option linter.all false
namespace Go.Pv
open Go
section
variable {P:Program}{T:Tab}(hT:jq P T){C:Ctx T}{o:Oper}{a:Act}{w:World}{Y:Nat->Prop}{σ:Sg}{ps:List PV}{st:St}{n id:Nat}{K:PV->Dl->Prop}{lk:Nat->Option mO}
 (H:SW C w Y σ ps a.tmps.toList st n) (hlk:∀ b x,lk b=some x->jk st b=some x) (hid:σ id=none/\T.qf<=id) (hU:NR P)
theorem UL {w:World}{Y:Nat->Prop}{b:Nat}:∀ (rows:List (List PV)) (U:List (Option Int)) (o:Nat),jw w Y iU b 1 rows o->rows.map acf=U->∀ (j:Nat) (n:Int),U[j]?=some (some n)->w.cell? ⟨b,o+j,none⟩=some (.int .u8 n)
 | [],U,o,_,e,j,n,h=>by subst e;simp at h
 | r::rows,U,o,hR,e,j,n,h=>by
  subst e;unfold jw at hR;obtain⟨_,h2,T⟩:=hR
  cases j with
  | zero=>
   simp only[List.map_cons,List.getElem?_cons_zero,Option.some.injEq] at h;unfold acf at h
   split at h
   cases h;unfold jo at h2;obtain⟨⟨v,hc,hv⟩,_⟩:=h2;rw[Nat.add_zero,hc,UF hv]
   cases h;unfold jo at h2;obtain⟨⟨v,hc,hv⟩,_⟩:=h2;rw[Nat.add_zero,hc,vN hv]
   cases h
  | succ j=>
   have:=UL rows _ (o+1) T rfl j n bW;rw[show o+(j+1)=o+1+j by omega];exact this
theorem UM:∀ (l:List UInt8) (r:ByteArray),((l.map (λc=>(c.toNat:Int))).foldl (λr n=>r.push (UInt8.ofNat n.toNat)) r)=⟨r.data++l.toArray⟩
 | [],r=>by cases r;simp
 | c::l,r=>by
  simp only[List.map_cons,List.foldl_cons];rw[UM l];cases r;simp[ByteArray.push]
theorem SH {α:Type}{x:Array α}{t u:α}{l:List α}(h:x.toList=t::u::l):x=(t::u::l).toArray:=by apply Array.ext';simpa using h
theorem rV {b:Builtin}{args:Array Operand}{ts:Array TypeId}{v:PV}{δ:Dl}{cv:Value}{w' : World}{Y' : Nat->Prop}{σ' : Sg}(ho:o.op=.call { callee:=.builtin b,args:=args,argTypes:=ts })
  (hr:∀ ty cs,(builtin b ts ty cs (args.toList.map a.eval).toArray).run P w=.ok (.value cv) w') (H' : SW C w' Y' σ' ps a.tmps.toList (jJ δ st) (uH δ n id)) (hv:Rep w' Y' σ' v cv) (U:Off id σ σ') (J:K v δ):qG P C o a w σ ps st n id K:=by
 have T:args.map a.eval=(args.toList.map a.eval).toArray:=by apply Array.ext';simp
 refine⟨v,δ,cv,w',Y',σ',J,.inl ?_,H',hv,U⟩;simp only[execOp,ho,resolve,T,Sem.run_bind,Sem.run_pure,Result.andThen,invoke];exact hr _ _
include hT H hlk hid in
theorem adg {args:Array Operand}{ts:Array TypeId}(ho:o.op=.call { callee:=.builtin .append,args:=args,argTypes:=ts })(h:oO T (iW.jI P T) (.call { callee:=.builtin .append,args:=args,argTypes:=ts }) ps lk id K):qG P C o a w σ ps st n id K:=by
 have hargs:=vM H args.toList;simp only[oO] at h;generalize hvs:args.toList.map a.eval=vs at hargs
 split at h
 all_goals first|(exact h.elim)|skip
 contradiction
 contradiction
 contradiction
 contradiction
 contradiction
 contradiction
 ·rename_i s x t u tl hb he ht;rw[he] at hargs;obtain⟨sv,xv,rfl,hs,hx⟩:=PD hargs;have ht':=SH ht;subst ht'
  split at h
  ·rename_i a1 s1 z1 p1 esz bytes z a2 s2 z2 p2 k1 k2 k3 e1 e2;obtain⟨et,hu,rfl,rfl,hz⟩:=nJ hT e1;obtain⟨eu,hu2,_⟩:=nJ hT e2
   cases hb:(lX (P.cellsOf et)&&Nat.beq (oG z) (P.cellsOf et)) with
   | false=>rw[hb] at h;exact h.elim
   | true=>
    rw[hb] at h;simp only[cond_true] at h;rw[Bool.and_eq_true,vK] at hb;have hinf:=lu hb.1;have hzl:=Nat.eq_of_beq_eq_true hb.2
    have hpos:0<P.cellsOf et:=by
     rcases Nat.eq_zero_or_pos (P.cellsOf et) with h0|h0
     have:=hb.1;rw[h0] at this;simp[lX] at this
     exact h0
    cases hi:P.info? et with
    | none=>exact absurd hi hinf
    | some inf=>
    have hbe:=Ox hi
    have rd:∀ {new:List (List PV)},rowsOf (iW.jI P T) (P.cellsOf et) lk x=some new->∃ y yc vs,xv=.slice y new.length yc/\(vs.length=new.length*P.cellsOf et/\(vs=[]\/∃ b o,y=some ⟨b,o,none⟩/\∀ i v,vs[i]?=some v->w.cell? ⟨b,o+i,none⟩=some v))/\(∀ v∈vs,Ol v=true) /\
      (∀ (w' : World) (Y' : Nat->Prop) (b' o' : Nat),(∀ p v,Rep w Y iU p v->Rep w' Y' iU p v)->(∀ i v,vs[i]?=some v->w'.cell? ⟨b',o'+i,none⟩=some v)->jw w' Y' iU b' (P.cellsOf et) new o'):=by
     intro new hn;obtain⟨y,len,yc,rfl,rfl,hr⟩:=SG H hlk hx hn;rcases hr with rfl|⟨b,o',rfl,hr⟩
     exact⟨y,yc,[],rfl,⟨by simp,.inl rfl⟩,by simp,λ_ _ _ _ _ _=>by simp[jw]⟩
     obtain⟨vs,⟨g1,g1'⟩,g2,g3⟩:=hr.vals;exact⟨_,yc,vs,rfl,⟨g1,.inr ⟨b,o',rfl,g2⟩⟩,g1',λw' Y' b' o' hk hc=>g3 w' Y' iU b' o' hk hc⟩
    have fresh:∀ {st0:St} {sx:Option Addr} {new:List (List PV)} {δ:Dl} {ty:TypeId},SW C w Y σ ps a.tmps.toList st0 n->rowsOf (iW.jI P T) (P.cellsOf et) lk x=some new->sv=.slice sx 0 0 ->
      (2*new.length+192)*P.bytesOf et<=140737488355328->new.length<=4611686018427387904->jJ δ st=oH st0 id (some (.arr false (P.cellsOf et) new))->uH δ n id=max n (id+1)->K (.os id 0 new.length) δ->qG P C o a w σ ps st n id K:=by
     intro st0 sx new δ ty H0 hn hsv hroom hbig hδ hnx hK;obtain⟨y,yc,vs,rfl,hvs2,hone,htr⟩:=rd hn;subst hsv
     by_cases h0:new.length=0
     have hnil:new=[]:=List.eq_nil_of_length_eq_zero h0;subst hnil;have hvn:vs=[]:=List.eq_nil_of_length_eq_zero (by simpa using hvs2.1);refine rV ho (δ:=δ) (cv:=.slice sx 0 0) (w':=w) (Y':=Y) (σ':=σ) (λty cs=>?_) (by rw[hδ,hnx];exact H0.empty hid _) ?_ (Off.refl _ _) hK
     rw[hvs];have r2:=Az (P:=P) (w:=w) (size:=P.cellsOf et) (n:=0) (x:=y) (len:=0) (cap:=yc) (vs:=[]) aC (.inl rfl);simp only[builtin,Builtin.append_,List.getElem?_toArray,List.getElem?_cons_zero,List.getElem?_cons_succ,Sem.run_bind,lh hu,lh hu2,Result.andThen,run_sizeOf hinf,Sem.run_pure,List.length_nil];simp only[Bool.false_eq_true,if_false,Builtin.lenOf,Sem.run_bind,Sem.run_pure,Result.andThen];rw[if_pos (Nat.le_refl _)];simp only[Sem.run_bind,Bool.not_false,if_true,r2,Result.andThen];cases sx<;>simp[storeCells]
     unfold Rep;exact .inr ⟨rfl,sx,rfl⟩
     obtain⟨cv,w',Y',σ',g,H',hrep,I⟩:=JD (P:=P) (a:=a) (ty:=ty) (x:=sx) (sc:=0) (us:=[]) (vs:=vs) (old:=[]) (new:=new) (ts:=tl) (yc:=yc) H0 hid hu hu2 hi hz.symm hpos hzl (sl:=0) aC hvs2 aC rfl
      (λw' Y' b' hk hc=>by simpa using htr w' Y' b' 0 hk (λi v hv=>hc i v (by simpa using hv))) ah (by rw[hbe] at hroom;simpa using hroom) ah
     refine rV ho (δ:=δ) (cv:=cv) (w':=w') (Y':=Y') (σ':=σ') (λty' cs=>?_) (by rw[hδ,hnx];simpa using H') (by simpa using hrep) I hK;rw[hvs];simp only[builtin,Sem.run_bind];have:Builtin.append_ (t::u::tl).toArray ty' [Value.slice sx 0 0,Value.slice y new.length yc].toArray=Builtin.append_ (t::u::tl).toArray ty #[Value.slice sx 0 0,Value.slice y new.length yc]:=rfl;rw[this,g];rfl
    split at h
    rename_i sz new hn;obtain⟨g1,g2,h⟩:=h;unfold Rep at hs;obtain⟨sx,len,cap,rfl,hl,hc,O,_⟩:=hs;have:len=0:=by simpa using hl
    subst this;have:cap=0:=O rfl;subst this;exact fresh (ty:=0) H hn rfl g1 g2 rfl rfl h
    rename_i b r m new hn
    split at h
    rename_i sz rows hbk
    cases hsz:Nat.beq sz (P.cellsOf et) with
    | false=>rw[hsz] at h;exact h.elim
    | true=>
     rw[hsz] at h;simp only[cond_true] at h;have hsz:=Nat.eq_of_beq_eq_true hsz;subst hsz;obtain⟨g1,g2,h⟩:=h;have g1:(2*(m+new.length)+192)*P.bytesOf et<=140737488355328:=g1;have g2:m+new.length<=4611686018427387904:=g2;have hst:=hlk _ _ hbk;have hBS:=H.store.blk b _ hst;obtain⟨sx,cap,rfl,hmc,hml,hr⟩:=G9 hs hBS;have hsub:(iW.jI P T).sub rows r m=(rows.drop r).take m:=rfl;have happ:(iW.jI P T).app ((iW.jI P T).sub rows r m) new=(rows.drop r).take m++new:=rfl;rw[happ] at h;obtain⟨y,yc,vs,rfl,hvs2,hone,htr⟩:=rd hn
     by_cases U:m+new.length<=cap
        
     unfold Rep at hs;rcases hs with ⟨l,cap',hl,e,⟨_,hc63⟩,htot,hnr⟩|⟨rfl,sx',e⟩
     cases e;have hB:=gW.yR H hlk hbk hl;unfold gW at hB;obtain⟨⟨arr,tyb,ha,has⟩,hlsz,_,⟨hle,hlnr⟩,hrows,hm,_⟩:=hB;rw[hlsz] at htot
     have hbnd:l.co+r*P.cellsOf et+(m+new.length)*P.cellsOf et<=arr.size:=by
      rw[has,<- htot];have:=Nat.mul_le_mul_right (P.cellsOf et) U;omega
     obtain⟨w',g,W⟩:=uI (P:=P) (o:=l.co+r*P.cellsOf et+m*P.cellsOf et) vs 0 w arr ha dK hone;have W:Wrote w w' l.cb (l.co+r*P.cellsOf et+m*P.cellsOf et) arr tyb vs:=by simpa using W
     obtain⟨arr',h4,h5,h6⟩:=W.blk;have hml' : ((rows.drop r).take m++new).length=m+new.length:=by rw[List.length_append,<- hml]
     obtain⟨σ',H',hid',I⟩:=H.aaU hid (x':=.arr false (P.cellsOf et) ((rows.drop r).take m++new)) (l':=⟨l.cb,l.co+r*P.cellsOf et,P.cellsOf et,l.tot,m+new.length⟩) hst (λ_ _ e=>by cases e) hl (hm rfl) rfl W.os W.tape W.output W.size W.other (by
      intro σ' _ hk;unfold gW;refine⟨⟨arr',tyb,h4,by rw[h5,has]⟩,rfl,hpos,⟨by rw[hml'];show l.co+r*P.cellsOf et+(m+new.length)*P.cellsOf et<=l.tot;omega,hml'⟩,?_,λ_=>hm rfl,λh=>by cases h⟩;refine jw.app _ _ _ ?_ ?_
      obtain⟨us,⟨u1,_⟩,u2,u3⟩:=((hrows.drop r _ _).take m _ _).vals;refine u3 w' Y iU l.cb _ hk (λi v hv=>?_);have hc:=u2 i v hv;rw[cell_of_block ha] at hc
      have hilt:i<us.length:=by
       by_cases hh:i<us.length
       exact hh
       rw[List.getElem?_eq_none (Nat.le_of_not_lt hh)] at hv;cases hv
      rw[u1,<- hml] at hilt;show w'.cell? ⟨l.cb,l.co+r*P.cellsOf et+i,none⟩=some v;rw[cell_of_block h4,h6,if_neg ah];exact hc
      refine htr w' Y l.cb _ hk (λi v hv=>?_)
      have hilt:i<vs.length:=by
       by_cases hh:i<vs.length
       exact hh
       rw[List.getElem?_eq_none (Nat.le_of_not_lt hh)] at hv;cases hv
      show w'.cell? ⟨l.cb,l.co+r*P.cellsOf et+((rows.drop r).take m).length*P.cellsOf et+i,none⟩=some v;rw[<- hml,cell_of_block h4,h6,if_pos ah];rw[show l.co+r*P.cellsOf et+m*P.cellsOf et+i-(l.co+r*P.cellsOf et+m*P.cellsOf et)=i by omega];exact hv)
     refine rV ho (δ:=_) (cv:=.slice (some ⟨l.cb,l.co+r*l.sz,none⟩) (m+new.length) cap) (w':=w') (Y':=Y) (σ':=σ') (λty cs=>?_) dC ?_ I h
     rw[hvs];have:=JE (P:=P) (w:=w) (ts:=tl) (ty:=ty) (x:=some ⟨l.cb,l.co+r*l.sz,none⟩) (sl:=m) (sc:=cap) (yc:=yc) (w':=w') hu hu2 hinf hvs2 U (λb o e=>by cases e;rw[hlsz];exact g) (λh=>by cases h) (λa h=>by cases h;rfl);simp only[builtin,Sem.run_bind];rw[this];rfl
     unfold Rep;refine .inl ⟨_,cap,hid',?_,⟨U,hc63⟩,?_,?_⟩
     rw[hlsz];simp;rfl
     simp;omega
     show 0+(m+new.length)<=m+new.length;omega
     cases e;have hn0:new.length=0:=by omega
     have hn0' : new=[]:=List.eq_nil_of_length_eq_zero hn0;subst hn0';refine fresh (st0:=oH st b none) (ty:=0) (δ:=[(b,none),(id,some (.arr false (P.cellsOf et) ((rows.drop r).take 0++[])))]) (H.drop b) hn rfl (by simpa using g1) aC (by simp[jJ]) rfl ?_;exact h
        
     have hold:∃ us:List Value,(us.length=m*P.cellsOf et/\(us=[]\/∃ b o,sx=some ⟨b,o,none⟩/\∀ i v,us[i]?=some v->w.cell? ⟨b,o+i,none⟩=some v)) /\
       (∀ (w' : World) (Y' : Nat->Prop) (b' o' : Nat),(∀ p v,Rep w Y iU p v->Rep w' Y' iU p v)->(∀ i v,us[i]?=some v->w'.cell? ⟨b',o'+i,none⟩=some v)->jw w' Y' iU b' (P.cellsOf et) ((rows.drop r).take m) o'):=by
      rcases hr with hr|⟨b',o',e,_,_,hr⟩
      rw[hr] at hml |-;refine⟨[],⟨by rw[hml];simp,.inl rfl⟩,λ_ _ _ _ _ _=>by simp[jw]⟩
      obtain⟨us,⟨u1,_⟩,u2,u3⟩:=hr.vals;exact⟨us,⟨by rw[u1,<- hml],.inr ⟨b',o',e,u2⟩⟩,λw' Y' b' o' hk hc=>u3 w' Y' iU b' o' hk hc⟩
     obtain⟨us,hus,hutr⟩:=hold
     obtain⟨cv,w',Y',σ',g,H',hrep,I⟩:=JD (P:=P) (a:=a) (ty:=0) (x:=sx) (sc:=cap) (us:=us) (vs:=vs) (old:=(rows.drop r).take m) (new:=new) (ts:=tl) (yc:=yc) (H.drop b) hid hu hu2 hi hz.symm hpos hzl (sl:=m) hus hvs2 hml rfl
      (λw' Y' b' hk hc=>by
       refine jw.app _ _ _ (hutr w' Y' b' 0 hk (λi v hv=>hc i v ?_)) (htr w' Y' b' _ hk (λi v hv=>?_))
       rw[List.getElem?_append_left]
       exact hv
       by_cases hh:i<us.length
       exact hh
       rw[List.getElem?_eq_none (Nat.le_of_not_lt hh)] at hv;cases hv
       have:=hc (us.length+i) v bT;rw[hus.1] at this;rw[<- hml];simpa using this) U fG g2
     refine rV ho (δ:=_) (cv:=cv) (w':=w') (Y':=Y') (σ':=σ') (λty' cs=>?_) dC (by rw[<- hml] at hrep;exact hrep) I h;rw[hvs];simp only[builtin,Sem.run_bind];have:Builtin.append_ (t::u::tl).toArray ty' [Value.slice sx m cap,Value.slice y new.length yc].toArray=Builtin.append_ (t::u::tl).toArray 0 #[Value.slice sx m cap,Value.slice y new.length yc]:=rfl;rw[this,g];rfl
    exact h.elim
     
    rename_i b r c J sz m new hn
    split at h
    rename_i sz0 rows hbk
    cases hsz:Nat.beq sz (P.cellsOf et) with
    | false=>rw[hsz] at h;exact h.elim
    | true=>
     rw[hsz] at h;simp only[cond_true] at h;have hsz:=Nat.eq_of_beq_eq_true hsz;subst hsz;obtain⟨row,hrow,h⟩:=h
     split at h
     rename_i h' sz' es ec
     cases hb2:(Nat.beq sz' (P.cellsOf et)&&(bif Nat.beq b id then false else true)) with
     | false=>rw[hb2] at h;exact h.elim
     | true=>
      rw[hb2] at h;simp only[cond_true] at h;rw[Bool.and_eq_true] at hb2;have hs2:=Nat.eq_of_beq_eq_true hb2.1;subst hs2;have hbid:b≠id:=λe=>by have h3:=hb2.2;rw[e,show Nat.beq id id=true from Nat.beq_refl id] at h3;cases h3
      obtain⟨he,hm,g1,g2,h⟩:=h;subst he;have hm:m=es.length:=congrArg Hdr.ν hm;subst hm;have g1:(2*(es.length+new.length)+192)*P.bytesOf et<=140737488355328:=g1;have g2:es.length+new.length<=4611686018427387904:=g2;have hst:=hlk _ _ hbk;have hc:row[c]?=some (.ow J (P.cellsOf et) es):=by rw[Df,List.getD_eq_getElem?_getD] at ec;exact getD_some ec
      have h:K (.os id 0 (es.length+new.length)) [(b,some (.mg sz0 (rows.set r (row.set c (.bo b r c J (P.cellsOf et) es.length))))),(id,some (.arr false (P.cellsOf et) (es++new)))]:=by rw[<- rM];exact h
      obtain⟨y,yc,vs,rfl,hvs2,hone,htr⟩:=rd hn
      have toBo:∀ (w' : World) v,Rep w' Y iU (.ow J (P.cellsOf et) es) v->Rep w' Y iU (.bo b r c J (P.cellsOf et) es.length) v:=by
       intro w' v hp;unfold Rep at hp |-;rcases hp with hp|⟨h0,h1,hp⟩
       exact .inl hp
       exact .inr ⟨h0,by rw[h1];rfl,hp⟩
      have Hu:=H.ahx (q:=.bo b r c J (P.cellsOf et) es.length) hst hrow hc rfl (λ_ _ _ e=>by cases e) (toBo w);unfold Rep at hs;rcases hs with ⟨h0,rfl,hlen,hc63⟩|⟨h0,hl0,a0,rfl⟩
      have hO:ni st b r c J (P.cellsOf et) es:=⟨sz0,rows,row,hst,hrow,hc,h0⟩;have hN:=H.nest.rep _ _ _ _ _ _ hO;obtain⟨us,⟨u1,_⟩,u2,u3⟩:=hN.rows.vals
      by_cases U:es.length+new.length<=J.cap
           
      obtain⟨arr,tyb,ha,has⟩:=hN.blk
      have hbnd:J.o+(es.length+new.length)*P.cellsOf et<=arr.size:=by
       rw[has];have:=Nat.mul_le_mul_right (P.cellsOf et) U;omega
      obtain⟨w',g,W⟩:=uI (P:=P) (o:=J.o+es.length*P.cellsOf et) vs 0 w arr ha dK hone;have W:Wrote w w' J.ν (J.o+es.length*P.cellsOf et) arr tyb vs:=by simpa using W
      obtain⟨arr',h4,h5,h6⟩:=W.blk
      obtain⟨σ',H',hid',I⟩:=H.take hid hst hrow hc h0 hbid (es':=es++new) (q:=.bo b r c J (P.cellsOf et) es.length) rfl (λ_ _ _ e=>by cases e) (toBo w') W.os W.tape W.output W.size W.other (λhk=>by
       refine⟨⟨arr',tyb,h4,by rw[h5,has]⟩,by rw[List.length_append];exact U,jw.app _ _ _ ?_ ?_⟩
       refine u3 w' Y iU J.ν _ hk (λi v hv=>?_);have hcv:=u2 i v hv;rw[cell_of_block ha] at hcv
       have hilt:i<us.length:=by
        by_cases hh:i<us.length
        exact hh
        rw[List.getElem?_eq_none (Nat.le_of_not_lt hh)] at hv;cases hv
       rw[u1] at hilt;rw[cell_of_block h4,h6,if_neg ah];exact hcv
       refine htr w' Y J.ν _ hk (λi v hv=>?_)
       have hilt:i<vs.length:=by
        by_cases hh:i<vs.length
        exact hh
        rw[List.getElem?_eq_none (Nat.le_of_not_lt hh)] at hv;cases hv
       rw[cell_of_block h4,h6,if_pos ah];rw[show J.o+es.length*P.cellsOf et+i-(J.o+es.length*P.cellsOf et)=i by omega];exact hv)
      refine rV ho (δ:=_) (cv:=.slice (some ⟨J.ν,J.o,none⟩) (es.length+new.length) J.cap) (w':=w') (Y':=Y) (σ':=σ') (λty cs=>?_) dC ?_ I h
      rw[hvs];have:=JE (P:=P) (w:=w) (ts:=tl) (ty:=ty) (x:=some ⟨J.ν,J.o,none⟩) (sl:=es.length) (sc:=J.cap) (yc:=yc) (w':=w') hu hu2 hinf hvs2 U (λb o e=>by cases e;exact g) (λh=>by cases h) (λa h=>by cases h;rfl);simp only[builtin,Sem.run_bind];rw[this];rfl
      unfold Rep;refine .inl ⟨_,J.cap,hid',?_,⟨U,hc63⟩,?_,?_⟩
      simp
      simp
      show 0+(es.length+new.length)<=(es++new).length;rw[List.length_append];omega
           
      obtain⟨cv,w',Y',σ',g,H',hrep,I⟩:=JD (P:=P) (a:=a) (ty:=0) (x:=some ⟨J.ν,J.o,none⟩) (sc:=J.cap) (us:=us) (vs:=vs) (old:=es) (new:=new) (ts:=tl) (yc:=yc) Hu hid hu hu2 hi hz.symm hpos hzl (sl:=es.length) ⟨u1,.inr ⟨_,_,rfl,u2⟩⟩ hvs2 rfl rfl
       (λw' Y' b' hk hc=>by
        refine jw.app _ _ _ (u3 w' Y' iU b' 0 hk (λi v hv=>hc i v ?_)) (htr w' Y' b' _ hk (λi v hv=>?_))
        rw[List.getElem?_append_left]
        exact hv
        by_cases hh:i<us.length
        exact hh
        rw[List.getElem?_eq_none (Nat.le_of_not_lt hh)] at hv;cases hv
        have:=hc (us.length+i) v bT;rw[u1] at this
        simpa using this) U fG g2
      refine rV ho (δ:=_) (cv:=cv) (w':=w') (Y':=Y') (σ':=σ') (λty' cs=>?_) dC hrep I h;rw[hvs];simp only[builtin,Sem.run_bind];have:Builtin.append_ (t::u::tl).toArray ty' [Value.slice (some ⟨J.ν,J.o,none⟩) es.length J.cap,Value.slice y new.length yc].toArray=Builtin.append_ (t::u::tl).toArray 0 #[Value.slice (some ⟨J.ν,J.o,none⟩) es.length J.cap,Value.slice y new.length yc]:=rfl;rw[this,g];rfl
      have hes:es=[]:=List.eq_nil_of_length_eq_zero hl0;subst hes;refine fresh (st0:=oH st b (some (.mg sz0 (rows.set r (row.set c (.bo b r c J (P.cellsOf et) 0)))))) (ty:=0) (δ:=[(b,some (.mg sz0 (rows.set r (row.set c (.bo b r c J (P.cellsOf et) 0))))),(id,some (.arr false (P.cellsOf et) ([]++new)))]) Hu hn rfl (by simpa using g1) (by simpa using g2) (by simp[jJ]) rfl ?_;have h1:([]:List (List PV)).length+new.length=new.length:=by simp
      rw[h1] at h;exact h
     exact h.elim
    exact h.elim
    exact h.elim
  exact h.elim
 all_goals contradiction
theorem UN {w:World}{Y:Nat->Prop}{b:Nat}:∀ (l:List UInt8) (o:Nat),(∀ (j:Nat) (h:j<l.length),w.cell? ⟨b,o+j,none⟩=some (.int .u8 (l[j].toNat:Int)))->jw w Y iU b 1 (l.map λc=>[.si .u8 (c.toNat:Int)]) o
 | [],o,_=>by simp[jw]
 | c::l,o,h=>by
  simp only[List.map_cons];unfold jw;refine⟨⟨rfl,rfl⟩,?_,UN l (o+1) λj hj=>?_⟩
  have:=h 0 aC;simp only[jo];exact⟨⟨_,by simpa using this,by simp[Rep]⟩,trivial⟩
  have:=h (j+1) bg;rw[show o+1+j=o+(j+1) by omega]
  simpa using this
include hT H hlk in
theorem aaY {s d:TypeId}{x:Operand}(ho:o.op=.convert s d x)(h:oO T (iW.jI P T) (.convert s d x) ps lk id K):qG P C o a w σ ps st n id K:=by
 have hc:=lD H x;simp only[oO] at h
 split at h
 rename_i e1 e;obtain⟨_,hs,_⟩:=nJ hT e1;have g:=Pj hT e
 split at h
 rename_i rows hr;obtain⟨⟨el,hs2,he⟩,U,hb,hK⟩:=h;obtain⟨x',len,cap,ev,hl,hrep⟩:=SG H hlk hc hr;refine qG.quiet H (cv:=.string U) ?_ bU hK;have hlen:rows.length=U.data.toList.length:=by simpa using congrArg List.length hb
 have J:(Conv.bytesToString (.slice x' len cap)).run P w=.ok (.string U) w:=by
  cases x' with
  | none=>
   rcases hrep with rfl|⟨b,o',e0,_⟩
   have:U=ByteArray.empty:=by
    have:U.data.toList=[]:=by
     cases hh:U.data.toList with
     | nil=>rfl
     | cons _ _=>rw[hh] at hlen;simp at hlen
    cases U with
    | mk d=>simp at this;subst this;rfl
   subst this;simp[Conv.bytesToString]
   cases e0
  | some ad=>
   have I:(loadCells ad len).run P w=.ok ((U.data.toList.map (λc=>(c.toNat:Int))).map (Value.int .u8)).toArray w:=by
    rcases hrep with rfl|⟨b,o',e0,hR⟩
    have h0:U.data.toList=[]:=by
     cases hh:U.data.toList with
     | nil=>rfl
     | cons _ _=>rw[hh] at hlen;simp at hlen
    rw[hl,h0];simp[loadCells,loadCellsFrom]
    cases e0;have hlen2:len=((U.data.toList.map (λc=>(c.toNat:Int))).map (Value.int .u8)).length:=by rw[hl,hlen];simp
    rw[hlen2,loadCells]
    rw[Dh _ 0 #[] (λj v hj=>by
     obtain⟨c,hc1,hc2⟩:∃ c,U.data.toList[j]?=some c/\v=.int .u8 (c.toNat:Int):=by
      rw[List.getElem?_map,List.getElem?_map] at hj
      cases hh:U.data.toList[j]? with
      | none=>rw[hh] at hj;cases hj
      | some c=>rw[hh] at hj;exact⟨c,rfl,by simpa using hj.symm⟩
     have:=UL rows _ o' hR hb j (c.toNat:Int) (by rw[List.getElem?_map,hc1];rfl);rw[hc2,Nat.zero_add];exact this)]
    simp
   rw[run_bytesToString w ad len cap _ I,UM]
   cases U with
   | mk d=>rw[show ByteArray.empty.data++d.toList.toArray=d from by show #[]++d.toList.toArray=d;rw[Array.empty_append,Array.toArray_toList]]
 simp only[execOp,ho,ev,Sem.run_bind];rw[run_convert_bytes_string w s d el x' len cap hs2 he g,J];simp[Result.andThen]
 exact h.elim
 rename_i e1 e;have hs:=Pj hT e1;obtain⟨el0,hd0,_⟩:=nJ hT e
 split at h
 rename_i b hb;obtain⟨⟨el,g,he⟩,hK⟩:=h;rw[hb] at hc;have hc:=G8 hc
 have J:(execOp a.eval o).run P w=.ok (.value (.slice (some ⟨w.heap.size,0,none⟩) b.size (grownCap w b.size 0 el))) (Lib.bytesWorld w el b):=by
  simp only[execOp,ho,hc,Sem.run_bind];rw[Lib.run_convert_string_bytes w s d el b hs g he];simp[Result.andThen]
 have hchg:Chg w (Lib.bytesWorld w el b):=⟨rfl,rfl,rfl,by rw[Lib.bytesWorld_size];omega,λk hk=>Lib.bytesWorld_at_old w el b k hk⟩;refine⟨_,[],_,_,Y,σ,hK,.inl J,H.aep hchg,?_,Off.refl _ _⟩;unfold Rep;refine⟨_,b.size,grownCap w b.size 0 el,rfl,by rw[List.length_map,Array.length_toList];rfl,grownCap_ge _ _ _ _,(λe=>by cases e),.inr ⟨w.heap.size,0,rfl,⟨by rw[Lib.bytesWorld_size];omega,λhy=>?_⟩,?_⟩⟩
 have:=H.vJ _ hy;omega
 refine UN b.data.toList 0 λj hj=>?_;have hj2:j<b.size:=by rw[Array.length_toList] at hj;exact hj
 rw[Nat.zero_add,Lib.bytesWorld_cell w el b j hj2];unfold List.getD;rw[List.getElem?_eq_getElem hj];rfl
 exact h.elim
 rename_i k e1 e;obtain⟨_,u,_,hs,_⟩:=wz hT e1 rfl;have g:=af7 hT e
 split at h
 rename_i e;rw[e] at hc;have hc:=vN hc;refine qG.quiet H (cv:=.int k (k.wrap _)) ?_ dV h;simp[execOp,ho,hc,convert,lh hs,lh g,Conv.intToInt]
 rename_i e;rw[e] at hc;have hc:=UF hc;refine qG.quiet H (cv:=.int k (k.wrap _)) ?_ (by simp[Rep,iW.jI];rfl) h;simp[execOp,ho,hc,convert,lh hs,lh g,Conv.intToInt]
 exact h.elim
 exact h.elim
end
end Go.Pv
namespace Go.Pv
open Go
section
variable {P:Program}{T:Tab}(hT:jq P T){C:Ctx T}{o:Oper}{a:Act}{w:World}{Y:Nat->Prop}{σ:Sg}{ps:List PV}{st:St}{n id:Nat}{K:PV->Dl->Prop}{lk:Nat->Option mO}
 (H:SW C w Y σ ps a.tmps.toList st n) (hlk:∀ b x,lk b=some x->jk st b=some x) (hid:σ id=none/\T.qf<=id) (hU:NR P)
theorem ZB {α:Type}{x:Array α}{t:α}{l:List α}(h:x.toList=t::l):x=(t::l).toArray:=by apply Array.ext';simpa using h
include hT H hlk hid in
theorem aeA {args:Array Operand}{ts:Array TypeId}(ho:o.op=.call { callee:=.builtin .clear,args:=args,argTypes:=ts })(h:oO T (iW.jI P T) (.call { callee:=.builtin .clear,args:=args,argTypes:=ts }) ps lk id K):qG P C o a w σ ps st n id K:=by
 have J:=vM H args.toList;simp only[oO] at h;generalize hvs:args.toList.map a.eval=vs at J
 split at h
 all_goals first|(exact h.elim)|contradiction|skip
 rename_i b r m t tl hb he ht;rw[he] at J;unfold gI at J;obtain⟨sv,vs',rfl,hs,hnil⟩:=J;unfold gI at hnil;subst hnil;have ht':=ZB ht;subst ht'
 split at h
 ·rename_i a1 s1 z1 p1 esz bytes z e1;obtain⟨et,hu,rfl,rfl,hz⟩:=nJ hT e1;obtain⟨zv,hzr,I⟩:=FW hz.symm
  split at h
  ·rename_i sz rows hbk
   cases hb:(Nat.beq sz (P.cellsOf et)&&Nat.beq (oG z) sz&&lX sz&&iT z) with
   | false=>rw[hb] at h;exact h.elim
   | true=>
    rw[hb] at h;simp only[cond_true] at h;simp only[Bool.and_eq_true,vK] at hb;obtain⟨⟨⟨h1,h2⟩,h3⟩,h4⟩:=hb;have h1:=Nat.eq_of_beq_eq_true h1;have h2:=Nat.eq_of_beq_eq_true h2;subst h1
    have hpos:0<P.cellsOf et:=by
     rcases Nat.eq_zero_or_pos (P.cellsOf et) with h0|h0
     rw[h0] at h3;simp[lX] at h3
     exact h0
    have hinf:=lu h3
    cases hi:P.info? et with
    | none=>exact absurd hi hinf
    | some inf=>
    have hst:=hlk _ _ hbk;obtain⟨z2,hl2,hc2,hw2,h,_⟩:=Aw h;have hzrep2:∀ w Y σ,gI w Y σ z2 zv.cells.toList:=λw Y σ=>hw2 _ _ _ _ (I w Y σ);have hspl:(iW.jI P T).spl rows r ((iW.jI P T).rep m z2)=rows.take r++List.replicate m z2++rows.drop (r+m):=by simp[iW.jI]
    rw[hspl] at h;have U:zv.cells.size=P.cellsOf et:=by have:=(I w Y σ).length;rw[Array.length_toList] at this;omega
    have none0:m=0->∀ x cap,sv=.slice x 0 cap->qG P C o a w σ ps st n id K:=by
     intro hm x cap hsv;subst hm;have e0:rows.take r++List.replicate 0 z2++rows.drop (r+0)=rows:=by simp
     rw[e0] at h;refine rV ho (δ:=_) (cv:=.tuple #[]) (w':=w) (Y':=Y) (σ':=σ) (λty cs=>?_) ?_ ?_ (Off.refl _ _) h
     rw[hvs,hsv];cases x<;>simp[builtin,Builtin.clear_,Sem.run_bind,lh hu,Result.andThen,Sem.run_pure]
     exact(H.ext λc x hx=>by
      simp only[jJ] at hx;rw[iQ] at hx
      by_cases hc:b=c
      subst hc;rw[if_pos rfl] at hx;cases hx;exact hst
      rw[if_neg hc] at hx;exact hx).mono dX
     simp[Rep,gI]
    unfold Rep at hs;rcases hs with ⟨l,cap,hl,e,hmc,htot,hnr⟩|⟨e0,sx,e⟩
    by_cases hm0:m=0
    subst hm0;exact none0 rfl _ _ e
    subst e;have hB:=gW.yR H hlk hbk hl;unfold gW at hB;obtain⟨⟨arr,tyb,ha,has⟩,g,_,⟨hle,hlnr⟩,hrows,hm,_⟩:=hB;rw[g] at htot
    let zs:List Value:=(Builtin.zeroCells zv.cells m).toList;have hzs:zs.length=m*P.cellsOf et:=by simp[zs,Builtin.zeroCells,U]
    have hzg:∀ i,i<m*P.cellsOf et->zs[i]?=zv.cells.toList[i % P.cellsOf et]?:=by
     intro i hi2;have hlt:i % P.cellsOf et<zv.cells.size:=by rw[U];exact Nat.mod_lt _ hpos
     simp only[zs,Builtin.zeroCells,Array.getElem?_toList,Array.getElem?_map];rw[Array.getElem?_range,if_pos (by rw[U];exact hi2)];simp only[Option.map_some,U];rw[U] at hlt;rw[<- U] at hlt |-;simp[getElem!_def,hlt]
    have hone:∀ v∈zs,Ol v=true:=by
     intro v hv;obtain⟨i,hi2,e⟩:=List.mem_iff_getElem.1 hv;have:zs[i]?=some v:=by rw[List.getElem?_eq_getElem hi2,e]
     rw[hzg i (by rw[<- hzs];exact hi2)] at this;exact zW _ _ h4 (I w Y σ) v (List.mem_of_getElem? this)
    have hrm:r+m<=rows.length:=by omega
    have hbnd:l.co+r*P.cellsOf et+zs.length<=arr.size:=by
     rw[has,hzs];have:=Nat.mul_le_mul_right (P.cellsOf et) hrm;rw[Nat.add_mul] at this;omega
    obtain⟨w',hrun,W⟩:=uI (P:=P) (o:=l.co+r*P.cellsOf et) zs 0 w arr ha (by simpa using hbnd) hone;have W:Wrote w w' l.cb (l.co+r*P.cellsOf et) arr tyb zs:=by simpa using W
    obtain⟨arr',h5,h6,h7⟩:=W.blk;have K0:Keep w w' Y Y iU iU:=⟨λk _ hk=>W.other k (λe=>hk (e ▸ hm rfl)),λ_ _ h=>h,Nat.le_of_eq W.size.symm,oq.refl _⟩;have hlen:(rows.take r++List.replicate m z2++rows.drop (r+m)).length=rows.length:=by simp;omega
    refine rV ho (δ:=[(b,some (.arr false (P.cellsOf et) (rows.take r++List.replicate m z2++rows.drop (r+m))))]) (v:=.DJ []) (cv:=.tuple #[]) (w':=w') (Y':=Y) (σ':=σ) (λty cs=>?_) ((SW.update (x':=.arr false (P.cellsOf et) (rows.take r++List.replicate m z2++rows.drop (r+m))) H hst hl (hm rfl) W.os W.tape W.output W.size W.other (λ_ _ e=>by cases e) λ_=>?_).mono (Nat.le_max_left _ _)) (by simp[Rep,gI]) (Off.refl _ _) h
    rw[hvs];obtain⟨m',rfl⟩:∃ m',m=m'+1:=⟨m-1,by omega⟩;simp only[builtin,Builtin.clear_,List.getElem?_toArray,List.getElem?_cons_zero,Sem.run_bind,lh hu,Result.andThen,hzr,g];rw[show(storeCells ⟨l.cb,l.co+r*P.cellsOf et,none⟩ (Builtin.zeroCells zv.cells (m'+1)).toList).run P w=.ok () w' from hrun];simp[Sem.run_pure]
    unfold gW;refine⟨⟨arr',tyb,h5,by omega⟩,g,hpos,⟨by rw[hlen];exact hle,by rw[hlen];exact hlnr⟩,?_,hm,λh=>by cases h⟩;rw[jw.iff] at hrows |-;intro i q hq
    by_cases hin:r<=i/\i<r+m
    have hqz:q=z2:=by
     rw[List.append_assoc,List.getElem?_append_right bg,List.getElem?_append_left bg,List.getElem?_replicate] at hq
     split at hq
     exact(Option.some.inj hq).symm
     cases hq
    subst hqz;refine⟨⟨hl2.trans h2,hc2 h4⟩,?_⟩;rw[jo.iff];intro c p hc;obtain⟨v,hv,hrv⟩:=(hzrep2 w' Y iU).get? hc;refine⟨v,?_,hrv⟩
    have hcl:c<P.cellsOf et:=by
     rw[<- h2,<- hl2]
     by_cases hh:c<q.length
     exact hh
     rw[List.getElem?_eq_none (Nat.le_of_not_lt hh)] at hc;cases hc
    have e1:l.co+i*P.cellsOf et+c-(l.co+r*P.cellsOf et)=(i-r)*P.cellsOf et+c:=by
     obtain⟨d,rfl⟩:∃ d,i=r+d:=⟨i-r,by omega⟩;rw[Nat.add_mul,show r+d-r=d by omega];omega
    have e2:(i-r)*P.cellsOf et+c<m*P.cellsOf et:=by
     have:=Nat.mul_le_mul_right (P.cellsOf et) (show(i-r)+1<=m by omega);rw[Nat.add_mul] at this;omega
    have e3:=Nat.mul_le_mul_right (P.cellsOf et) hin.1;rw[cell_of_block h5,h7,if_pos ⟨by omega,by rw[hzs];omega⟩,e1,hzg _ e2];rw[show((i-r)*P.cellsOf et+c) % P.cellsOf et=c by rw[Nat.add_comm,Nat.add_mul_mod_self_right];exact Nat.mod_eq_of_lt hcl];exact hv
    have hq' : rows[i]?=some q:=by
     by_cases hir:i<r
     rw[List.append_assoc,List.getElem?_append_left bg,List.getElem?_take_of_lt hir] at hq;exact hq
     rw[List.getElem?_append_right bg,List.getElem?_drop] at hq;rw[<- hq];congr 1;simp;omega
    obtain⟨g1,g2⟩:=hrows i q hq';refine⟨g1,?_⟩;rw[jo.iff] at g2 |-;intro c p hc;obtain⟨v,hv,hrv⟩:=g2 c p hc;refine⟨v,?_,Rep.keep p K0 v hrv⟩
    have hcl:c<P.cellsOf et:=by
     rw[<- g1.1]
     by_cases hh:c<q.length
     exact hh
     rw[List.getElem?_eq_none (Nat.le_of_not_lt hh)] at hc;cases hc
    rw[cell_of_block ha] at hv;rw[cell_of_block h5,h7,if_neg,hv]
    rintro⟨g3,g4⟩
    rw[hzs] at g4;rcases Nat.lt_or_ge i r with g5|g5
    have:=Nat.mul_le_mul_right (P.cellsOf et) (show i+1<=r by omega);rw[Nat.add_mul] at this;omega
    have:=Nat.mul_le_mul_right (P.cellsOf et) (show r+m<=i by omega);rw[Nat.add_mul] at this;omega
    subst e0;exact none0 rfl _ _ e
  exact h.elim
 exact h.elim
end
end Go.Pv
namespace Go.Pv
open Go
theorem Q7 {f:PV->Option PV}:∀ {cs U:List PV},KJ f cs=some U->cs.length=U.length/\∀ (i:Nat) (c d:PV),cs[i]?=some c->U[i]?=some d->f c=some d
 | [],U,h=>by simp[KJ] at h;subst h;simp
 | c::cs,U,h=>by
  unfold KJ at h
  split at h
  cases h
  rename_i d C
  split at h
  cases h
  rename_i I T;cases h;obtain⟨h1,h2⟩:=Q7 T;refine⟨by simp[h1],λi g d' e1 J=>?_⟩
  cases i with
  | zero=>simp at e1 J;subst e1;subst J;exact C
  | succ i=>exact h2 i g d' (by simpa using e1) (by simpa using J)
theorem agh {w:World}{Y0:Nat->Prop}{b sz:Nat}:∀ {rows:List (List PV)},(∀ row∈rows,∀ (c:Nat) (h:Hdr) (T : Nat) (I:List (List PV)),row[c]?=some (.ow h T I)->h.cap≠0->(h.ν<w.heap.size/\¬ Y0 h.ν)/\jw w Y0 iU h.ν T I h.o) ->
  ∀ (o:Nat),jw w Y0 iU b sz rows o->jw w Y0 iU b sz (rows.map λrow=>row.map fzC) o:=by
 intro rows J o hr;rw[jw.iff] at hr |-;intro i q hi;rw[List.getElem?_map] at hi
 cases hq:rows[i]? with
 | none=>rw[hq] at hi;cases hi
 | some row=>
  rw[hq] at hi;simp only[Option.map_some,Option.some.injEq] at hi;subst hi;obtain⟨⟨h1,h2⟩,g⟩:=hr i row hq;refine⟨⟨by simpa using h1,?_⟩,?_⟩
  rw[qH] at h2 |-;intro p hp;obtain⟨p0,U,rfl⟩:=List.mem_map.1 hp;have:=h2 p0 U;unfold fzC
  split
  rfl
  exact this
  rw[jo.iff] at g |-;intro c p hc;rw[List.getElem?_map] at hc
  cases U:row[c]? with
  | none=>rw[U] at hc;cases hc
  | some p0=>
   rw[U] at hc;simp only[Option.map_some,Option.some.injEq] at hc;subst hc;obtain⟨v,hv,hp⟩:=g c p0 U;refine⟨v,hv,?_⟩;unfold fzC
   split
   rename_i h T I;unfold Rep at hp |-;rcases hp with ⟨C,p2,p3,_⟩|⟨_,p1,a,p2⟩
   obtain⟨g1,g2⟩:=J row (List.mem_of_getElem? hq) c h T I U C;exact⟨_,_,_,p2,rfl,p3,(λh=>by cases h),.inr ⟨_,_,rfl,g1,g2⟩⟩
   subst p1;exact⟨a,0,0,p2,rfl,Nat.zero_le _,(λh=>by cases h),.inl rfl⟩
   exact hp
theorem Cf {P:Program}{T:Tab}{w:World}{Y Y0:Nat->Prop}{σ:Sg}{st:St}{lk:Nat->Option mO}(hst:EE w Y σ st)(hlk:∀ b x,lk b=some x->jk st b=some x)
  (hY:∀ k,Y0 k->Y k) (U:∀ b x l,lk b=some x->σ b=some l->¬ Y0 l.cb) (C:∀ b sz rows,lk b=some (.mg sz rows)->∀ (r:Nat) (row:List PV) (c:Nat) (h:Hdr) (g : Nat) (es:List (List PV)),rows[r]?=some row->row[c]?=some (.ow h g es)->h.cap≠0->(h.ν<w.heap.size/\¬ Y0 h.ν)/\jw w Y iU h.ν g es h.o):∀ (d:Nat) (p q:PV) (v:Value),frz (iW.jI P T) lk d p=some q->Rep w Y σ p v->Rep w Y0 iU q v
 | 0,_,_,_,h,_=>by simp[frz] at h
 | d+1,p,q,v,h,hp=>by
  have K0:Keep w w Y Y0 iU iU:=⟨λ_ _ _=>rfl,λk _=>hY k,Nat.le_refl _,oq.refl _⟩
  have list:∀ {cs ds:List PV} {vs:List Value},KJ (frz (iW.jI P T) lk d) cs=some ds->gI w Y σ cs vs->gI w Y0 iU ds vs:=by
   intro cs ds vs hm hr;obtain⟨h1,h2⟩:=Q7 hm;refine gI.EO _ _ (by rw[hr.length,h1]) (λi e u e1 e2=>?_)
   have J:i<cs.length:=by
    rw[h1]
    by_cases hh:i<ds.length
    exact hh
    rw[List.getElem?_eq_none (Nat.le_of_not_lt hh)] at e1;cases e1
   have hc:cs[i]?=some cs[i]:=List.getElem?_eq_getElem J;obtain⟨u',e3,e4⟩:=hr.get? hc;rw[e2] at e3;cases e3;exact Cf hst hlk hY U C d _ _ _ (h2 i _ _ hc e1) e4
  unfold frz at h;cases p
  case bool b=>cases h;unfold Rep at hp |-;exact hp
  case sb b=>cases h;unfold Rep at hp |-;exact hp
  case int k n=>cases h;unfold Rep at hp |-;exact hp
  case si k n=>cases h;unfold Rep at hp |-;exact hp
  case str s=>cases h;unfold Rep at hp |-;exact hp
  case GU=>cases h;unfold Rep at hp |-;exact hp
  case Un=>cases h;unfold Rep at hp |-;exact hp
  case top=>cases h;simp[Rep]
  case hc=>cases h;unfold Rep at hp |-;exact hp
  case sl sz es full=>
   cases h
   have h2:Rep w Y iU (.sl sz es false) v:=by
    unfold Rep at hp |-;obtain⟨a,len,cap,e,hl,hc,_,hr⟩:=hp;exact⟨a,len,cap,e,hl,hc,(λh=>by cases h),hr⟩
   exact Rep.keep _ K0 v h2
  case pp cs=>
   cases h;have h2:Rep w Y iU (.pp cs) v:=by unfold Rep at hp |-;exact hp
   exact Rep.keep _ K0 v h2
  case agg cs=>
   simp only at h
   split at h
   rename_i ds hd;cases h;unfold Rep at hp |-;obtain⟨vs,e,hr⟩:=hp;exact⟨vs,e,list hd hr⟩
   cases h
  case DJ cs=>
   simp only at h
   split at h
   rename_i ds hd;cases h;unfold Rep at hp |-;obtain⟨vs,e,hr⟩:=hp;exact⟨vs,e,list hd hr⟩
   cases h
  case fn f cs=>
   simp only at h
   split at h
   rename_i ds hd;cases h;unfold Rep at hp |-;obtain⟨vs,e,hr⟩:=hp;exact⟨vs,e,list hd hr⟩
   cases h
  case lv b c=>
   simp only at h
   split at h
   rename_i ro row hb
   split at h
   rename_i ds hd;cases h;unfold Rep at hp;obtain⟨l,hl,e⟩:=hp;rcases hst.blk b _ (hlk _ _ hb) with ⟨l',I,hB⟩|⟨hn,_⟩
   rw[hl] at I;cases I;have J:=hB.lt;unfold gW at hB;rw[yP] at hd;obtain⟨vs,hr,hcell⟩:=(hB.2.2.2.1.drop c _ _).vals;unfold Rep;refine⟨l.cb,l.co+c,e,⟨J,U b _ l hb hl⟩,jo.Jz _ _ _ (list hd hr) hcell⟩
   rw[hl] at hn;cases hn
   cases h
   cases h
  case os b r n=>
   simp only at h
   split at h
   rename_i ro sz rows hb;cases h;obtain⟨a,cap,e1,e2,e3,e4⟩:=G9 hp (hst.blk b _ (hlk _ _ hb));unfold Rep;refine⟨a,n,cap,e1,e3,e2,(λh=>by cases h),?_⟩;rcases e4 with e4|⟨b',o,ea,eb,⟨l,el,el'⟩,er⟩
   exact .inl e4
   refine .inr ⟨b',o,ea,⟨eb,by rw[el'];exact U b _ l hb el⟩,?_⟩;exact jw.keep _ K0 (λ_=>rfl) _ er
   rename_i sz rows hb;cases h;unfold Rep at hp;rcases hp with ⟨l,cap,hl,e,hcap,htot,hrn⟩|⟨rfl,a,e⟩
   rcases hst.blk b _ (hlk _ _ hb) with ⟨l',I,hB⟩|⟨hn,_⟩
   rw[hl] at I;cases I;have J:=hB.lt;unfold gW at hB;have hlen:(((rows.drop r).take n).map λrow=>row.map fzC).length=n:=by rw[List.length_map,List.length_take,List.length_drop];omega
   unfold Rep;refine⟨_,n,cap,e,?_,hcap.1,(λh=>by cases h),.inr ⟨l.cb,_,rfl,⟨J,U b _ l hb hl⟩,?_⟩⟩
   exact hlen.symm
   rw[hB.2.1];have hr:=jw.keep _ K0 (λ_=>rfl) _ ((hB.2.2.2.2.1.drop r _ _).take n _ _);refine agh ?_ _ hr;intro row hrow c h g es hc hne;have hm:=List.mem_of_mem_drop (List.mem_of_mem_take hrow);obtain⟨i,hi⟩:=List.getElem?_of_mem hm;obtain⟨h1,h2⟩:=C b sz rows hb i row c h g es hi hc hne;exact⟨h1,jw.keep es K0 (λ_=>rfl) _ h2⟩
   rw[hl] at hn;cases hn
   unfold Rep;refine⟨a,0,0,e,?_,Nat.le_refl _,(λh=>by cases h),.inl ?_⟩
   show 0=(((rows.drop r).take 0).map λrow=>row.map fzC).length;simp
   show((rows.drop r).take 0).map (λrow=>row.map fzC)=[];simp
   cases h
  all_goals cases h
theorem PE {P:Program}{T:Tab}{w:World}{Y Y0:Nat->Prop}{σ:Sg}{st:St}{lk:Nat->Option mO}(C:EE w Y σ st)(hlk:∀ b x,lk b=some x->jk st b=some x)
  (hY:∀ k,Y0 k->Y k) (U:∀ b x l,lk b=some x->σ b=some l->¬ Y0 l.cb) (J:∀ b sz rows,lk b=some (.mg sz rows)->∀ (r:Nat) (row:List PV) (c:Nat) (h:Hdr) (I : Nat) (es:List (List PV)),rows[r]?=some row->row[c]?=some (.ow h I es)->h.cap≠0->(h.ν<w.heap.size/\¬ Y0 h.ν)/\jw w Y iU h.ν I es h.o) {d:Nat} {cs ds:List PV} {vs:List Value} (hm:KJ (frz (iW.jI P T) lk d) cs=some ds) (hr:gI w Y σ cs vs):gI w Y0 iU ds vs:=by
 obtain⟨h1,h2⟩:=Q7 hm;refine gI.EO _ _ (by rw[hr.length,h1]) (λi e u e1 e2=>?_)
 have g:i<cs.length:=by
  rw[h1]
  by_cases hh:i<ds.length
  exact hh
  rw[List.getElem?_eq_none (Nat.le_of_not_lt hh)] at e1;cases e1
 have hc:cs[i]?=some cs[i]:=List.getElem?_eq_getElem g;obtain⟨u',e3,e4⟩:=hr.get? hc;rw[e2] at e3;cases e3;exact Cf C hlk hY U J d _ _ _ (h2 i _ _ hc e1) e4
theorem ZC {w w' : World}{Y Y' : Nat->Prop}{σ σ' : Sg}:∀ (d:Nat) (p:PV) (v:Value),IZ d p=true->Rep w Y σ p v->Rep w' Y' σ' p v
 | 0,_,_,h,_=>by simp[IZ] at h
 | d+1,p,v,h,hp=>by
  have list:∀ (cs:List PV) (vs:List Value),Zl (IZ d) cs=true->gI w Y σ cs vs->gI w' Y' σ' cs vs:=by
   intro cs
   induction cs with
   | nil=>intro vs _ hr;unfold gI at hr |-;exact hr
   | cons c cs ih=>
    intro vs O hr;simp only[Zl,Bool.and_eq_true] at O;unfold gI at hr |-;obtain⟨u,us,e,h1,h2⟩:=hr;exact⟨u,us,e,ZC d c u O.1 h1,ih us O.2 h2⟩
  unfold IZ at h;cases p
  case agg cs=>unfold Rep at hp |-;obtain⟨vs,e,hr⟩:=hp;exact⟨vs,e,list _ _ h hr⟩
  case DJ cs=>unfold Rep at hp |-;obtain⟨vs,e,hr⟩:=hp;exact⟨vs,e,list _ _ h hr⟩
  all_goals first|(cases h;done)|(unfold Rep at hp |-;exact hp)
theorem Rep.aiy {w:World}{Y:Nat->Prop}{σ:Sg}{p:PV}{v:Value}(h:Rep w Y iU p v):Rep w Y σ p v :=
 Rep.keep p ⟨λ_ _ _=>rfl,λ_ _ h=>h,Nat.le_refl _,λ_ _ h=>by cases h⟩ v h
def PG {T:Tab}(P:Program)(k:Nat)(C:Ctx T)(Y:Nat->Prop)(σ:Sg)(w:World)(cargs:List Value)(ps:List PV)(vs:List Value)(st:St)(n:Nat)(v:PV):Prop := (callFunc k cargs.toArray).run P w=.ok (.enter k cargs.toArray) w /\ Calls P k cargs.toArray w λe w'=>∃ cv,e=.returned cv/\SW C w' Y σ ps vs st n/\Rep w' Y σ v cv
theorem Q8 {P:Program}{T:Tab}{C:Ctx T}{w:World}{Y:Nat->Prop}{σ:Sg}{ps:List PV}{vs:List Value}{st:St}{n:Nat}(H:SW C w Y σ ps vs st n){lk:Nat->Option mO}(I:∀ b x,lk b=some x->jk st b=some x){k d:Nat}{args as:List PV}{U:List Value}{v:PV}
  (hm:KJ (frz (iW.jI P T) lk d) args=some as) (hr:gI w Y σ args U) (hF:Fn P T.gl k as (λu=>u=v)) {f:Nat} (O:IZ f v=true):PG P k C Y σ w U ps vs st n v:=by
 obtain⟨h1,h2⟩:=hF w (λ_=>False) U (H.wU.keep ⟨λ_ _ _=>rfl,λ_ _ h=>h.elim,Nat.le_refl _,oq.refl _⟩) (λ_ h=>h.elim) (PE H.store I (λ_ h=>h.elim) (λ_ _ _ _ _ h=>h) (λb sz rows hb r row c h g es h1 h2 h3=>by
  have hO:=H.nest.rep _ _ _ _ _ _ ⟨sz,rows,row,I _ _ hb,h1,h2,h3⟩;exact⟨⟨hO.lt,λh=>h⟩,hO.rows⟩) hm hr)
 refine⟨h1,Calls.mono h2 λe w' h=>?_⟩;obtain⟨cv,u,rfl,rfl,hrep,J⟩:=h;exact⟨cv,rfl,H.aep J,ZC f _ _ O hrep⟩
theorem SB.aeB {P:Program}{T:Tab}{k:Nat}{args:List PV}{E:Env}{K:PV->Env->Prop}{v:PV}(J:K v E)
  (h:∀ (C:Ctx T) Y σ w vs U,SW C w Y σ E.tmps vs E.st E.next->gI w Y σ args U->PG P k C Y σ w U E.tmps vs E.st E.next v):SB P T k args E K:=by
 intro C Y σ w vs U H hr;obtain⟨h1,h2⟩:=h C Y σ w vs U H hr;refine⟨h1,Calls.mono h2 λe w' hh=>?_⟩;obtain⟨cv,rfl,H',hv⟩:=hh;exact⟨cv,v,E,Y,σ,rfl,J,H',hv⟩
end Go.Pv
namespace Go.Pv
open Go
theorem Ja:∀ (l:List Nat) (c:Nat),xe l c=true↔c∈l
 | [],c=>by simp[xe]
 | b::l,c=>by
  simp only[xe]
  by_cases h:b=c
  subst h;simp
  rw[Q4 h];simp only[cond_false,Ja l c,List.mem_cons];constructor
  intro hh;exact .inr hh
  rintro (hh|hh)
  exact absurd hh.symm h
  exact hh
theorem ZE:∀ (l:List Nat) (c:Nat),BU l c=l++[c]
 | [],c=>rfl
 | b::l,c=>by simp[BU,ZE l c]
theorem KW:∀ l:List Nat,lH l=l.length
 | []=>rfl
 | _::l=>by simp[lH,KW l]
theorem UO:∀ (l:List Nat) (i:Nat),Wu l i=l[i]?
 | [],i=>by simp[Wu]
 | b::l,0=>by simp[Wu]
 | b::l,i+1=>by simp[Wu,UO l i]
theorem ack:∀ l m:List Nat,ad5 l m=l++m
 | [],m=>rfl
 | b::l,m=>by simp[ad5,ack l m]
theorem PH:∀ (n i j:Nat),(upN i n)[j]?=if j<n then some (i+j) else none
 | 0,i,j=>by simp[upN]
 | n+1,i,0=>by simp[upN]
 | n+1,i,j+1=>by
  simp only[upN,List.getElem?_cons_succ,PH n (i+1) j]
  by_cases h:j<n
  rw[if_pos h,if_pos ah];congr 1;omega
  rw[if_neg h,if_neg ah]
theorem TU:∀ (n i:Nat),(upN i n).length=n
 | 0,i=>rfl
 | n+1,i=>by simp[upN,TU n (i+1)]
theorem acm {n i b:Nat}(h:b∈upN i n):i<=b/\b<i+n:=by
 obtain⟨j,hj⟩:=List.getElem?_of_mem h;rw[PH] at hj
 split at hj
 cases hj;omega
 cases hj
theorem Q9:∀ (n i:Nat),(upN i n).Nodup
 | 0,i=>by simp[upN]
 | n+1,i=>by
  simp only[upN,List.nodup_cons];exact⟨λh=>by have:=acm h;omega,Q9 n (i+1)⟩
theorem UQ:∀ l:List Nat,KP l=true->l.Nodup
 | [],_=>by simp
 | b::l,h=>by
  simp only[KP] at h
  cases U:xe l b with
  | true=>rw[U] at h;cases h
  | false=>
   rw[U] at h;rw[List.nodup_cons];exact And.intro (λT=>by rw[(Ja l b).2 T] at U;cases U) (UQ l h)
theorem XT:∀ (l:List Nat) (b i:Nat),DL l b=some i->l[i]?=some b
 | [],b,i,h=>by simp[DL] at h
 | c::l,b,i,h=>by
  simp only[DL] at h
  by_cases hc:c=b
  subst hc;simp at h;subst h;simp
  rw[Q4 hc] at h;simp only[cond_false] at h
  split at h
  rename_i j hj;cases h;simpa using XT l b j hj
  cases h
theorem Dj (f:PV->PV):∀ l,Ai f l=l.map f
 | []=>rfl
 | x::l=>by simp[Ai,Dj f l]
theorem Rf {l:List Nat}(h:l.Nodup){i j b:Nat}(hi:l[i]?=some b)(hj:l[j]?=some b):i=j:=by
 have h1:i<l.length:=by
  by_cases hh:i<l.length
  exact hh
  rw[List.getElem?_eq_none (Nat.le_of_not_lt hh)] at hi;cases hi
 exact(List.getElem?_inj h1 h).1 (by rw[hi,hj])
theorem KX {f:List Nat->PV->List Nat}(O:∀ acc v,acc.Nodup->(f acc v).Nodup/\∃ s,f acc v=acc++s):∀ (vs:List PV) (acc:List Nat),acc.Nodup->(Au f acc vs).Nodup/\∃ s,Au f acc vs=acc++s
 | [],acc,h=>⟨h,[],by simp[Au]⟩
 | v::vs,acc,h=>by
  obtain⟨h1,s,h2⟩:=O acc v h;obtain⟨U,T,J⟩:=KX O vs (f acc v) h1;exact⟨U,s++T,by simp only[Au];rw[J,h2,List.append_assoc]⟩
theorem TV (st:St):∀ (d:Nat) (acc:List Nat) (v:PV),acc.Nodup->(Ec st d acc v).Nodup/\∃ s,Ec st d acc v=acc++s
 | 0,acc,v,h=>⟨h,[],by simp[Ec]⟩
 | d+1,acc,v,h=>by
  have fold:=λ(vs:List PV) (acc:List Nat) (h:acc.Nodup)=>KX (f:=Ec st d) (λacc v=>TV st d acc v) vs acc h
  have one:∀ b,(bif xe acc b then acc else BU acc b).Nodup/\∃ s,(bif xe acc b then acc else BU acc b)=acc++s:=by
   intro b
   cases U:xe acc b with
   | true=>exact⟨h,[],by simp⟩
   | false=>
    simp only[cond_false,ZE];exact⟨by rw[List.nodup_append];exact⟨h,by simp,λa C c hc=>by simp at hc;subst hc;intro e;subst e;rw[(Ja acc a).2 C] at U;cases U⟩,[b],rfl⟩
  have nor:∀ b,(bif xe acc b then acc else match jk st b with|some (.nor _ _ _ row)=>Au (Ec st d) (BU acc b) row|_=>BU acc b).Nodup/\∃ s,(bif xe acc b then acc else match jk st b with|some (.nor _ _ _ row)=>Au (Ec st d) (BU acc b) row|_=>BU acc b)=acc++s:=by
   intro b;have h1:=one b
   cases U:xe acc b with
   | true=>exact⟨h,[],by simp⟩
   | false=>
    rw[U] at h1;simp only[cond_false] at h1 |-
    split
    rename_i row _;obtain⟨h2,s,T⟩:=fold row _ h1.1;obtain⟨_,J,I⟩:=h1;exact⟨h2,J++s,by rw[T,I,List.append_assoc]⟩
    exact h1
  unfold Ec
  split
  exact nor _
  exact nor _
  exact one _
  exact one _
  exact one _
  rename_i b c;have h1:=one b
  cases U:xe acc b with
  | true=>exact⟨h,[],by simp⟩
  | false=>
   rw[U] at h1;simp only[cond_false] at h1 |-
   split
   rename_i row _;obtain⟨h2,s,T⟩:=fold row _ h1.1;obtain⟨_,J,I⟩:=h1;exact⟨h2,J++s,by rw[T,I,List.append_assoc]⟩
   exact h1
  exact fold _ _ h
  exact fold _ _ h
  exact fold _ _ h
  exact⟨h,[],by simp⟩
theorem PI (st:St):∀ (l acc:List Nat),acc.Nodup->(Sv st acc l).Nodup/\∃ s,Sv st acc l=acc++s
 | [],acc,h=>⟨h,[],by simp[Sv]⟩
 | b::l,acc,h=>by
  unfold Sv
  split
  rename_i ro row _;obtain⟨h1,s,h2⟩:=KX (f:=Ec st 8) (λacc v=>TV st 8 acc v) row acc h;obtain⟨U,T,J⟩:=PI st l _ h1;exact⟨U,s++T,by rw[J,h2,List.append_assoc]⟩
  rename_i row _;obtain⟨h1,s,h2⟩:=KX (f:=Ec st 8) (λacc v=>TV st 8 acc v) row acc h;obtain⟨U,T,J⟩:=PI st l _ h1;exact⟨U,s++T,by rw[J,h2,List.append_assoc]⟩
  exact PI st l acc h
theorem KY (m:Nat)(st:St)(vs:List PV):(Sz m st vs).Nodup/\(∀ i,i<m->(Sz m st vs)[i]?=some i)/\m<=(Sz m st vs).length:=by
 obtain⟨h1,s,h2⟩:=PI st (upN 0 m) (upN 0 m) (Q9 m 0);obtain⟨U,T,J⟩:=KX (f:=Ec st 8) (λacc v=>TV st 8 acc v) vs _ h1;have e:Sz m st vs=upN 0 m++(s++T):=by unfold Sz;rw[J,h2,List.append_assoc]
 refine⟨U,λi hi=>?_,?_⟩
 rw[e,List.getElem?_append_left (by rw[TU];exact hi),PH,if_pos hi];simp
 rw[e,List.length_append,TU];omega
theorem gI.map {w:World}{Y:Nat->Prop}{σ σ' : Sg}{f:PV->PV}(O:∀ p v,Rep w Y σ p v->Rep w Y σ' (f p) v):∀ (ps:List PV) (vs:List Value),gI w Y σ ps vs->gI w Y σ' (ps.map f) vs
 | [],vs,h=>by unfold gI at h;subst h;simp[gI]
 | p::ps,vs,h=>by
  unfold gI at h;obtain⟨v,U,rfl,h1,h2⟩:=h;simp only[List.map_cons];unfold gI;exact⟨v,U,rfl,O _ _ h1,gI.map O ps U h2⟩
theorem jo.map {w:World}{Y:Nat->Prop}{σ σ' : Sg}{b:Nat}{f:PV->PV}(O:∀ p v,Rep w Y σ p v->Rep w Y σ' (f p) v):∀ (ps:List PV) (o:Nat),jo w Y σ b ps o->jo w Y σ' b (ps.map f) o
 | [],o,h=>by simp[jo]
 | p::ps,o,h=>by
  unfold jo at h;obtain⟨⟨v,hc,h1⟩,h2⟩:=h;simp only[List.map_cons];unfold jo;exact⟨⟨v,hc,O _ _ h1⟩,jo.map O ps (o+1) h2⟩
theorem zM {w:World}{Y:Nat->Prop}{σ σ' : Sg}{f:Nat->Option Nat}(O:∀ b i l,f b=some i->σ b=some l->σ' i=some l):∀ (d:Nat) (p:PV) (v:Value),Rep w Y σ p v->Rep w Y σ' (vI f d p) v
 | 0,p,v,_=>by simp[vI,Rep]
 | d+1,p,v,h=>by
  have U:=zM (w:=w) (Y:=Y) O d;unfold vI;cases p
  case os b r n=>
   simp only
   cases e:f b with
   | none=>simp[Rep]
   | some i=>
    unfold Rep at h |-;rcases h with ⟨l,cap,hl,h⟩|h
    exact .inl ⟨l,cap,O _ _ _ e hl,h⟩
    exact .inr h
  case lv b c=>
   simp only
   cases e:f b with
   | none=>simp[Rep]
   | some i=>unfold Rep at h |-;obtain⟨l,hl,h⟩:=h;exact⟨l,O _ _ _ e hl,h⟩
  case lp b r c=>
   simp only
   cases e:f b with
   | none=>simp[Rep]
   | some i=>unfold Rep at h |-;obtain⟨l,hl,h⟩:=h;exact⟨l,O _ _ _ e hl,h⟩
  case bo b r c hd sz n=>
   simp only
   cases e:f b with
   | none=>simp[Rep]
   | some i=>unfold Rep at h |-;exact h
  case np b r c hd sz j k=>
   simp only
   cases e:f b with
   | none=>simp[Rep]
   | some i=>unfold Rep at h |-;exact h
  case mp b=>
   simp only
   cases e:f b with
   | none=>simp[Rep]
   | some i=>
    unfold Rep at h |-;obtain⟨l,hs,T⟩:=h;exact⟨l,O _ _ _ e hs,T⟩
  case agg cs=>simp only[Dj];unfold Rep at h |-;obtain⟨vs,e,h⟩:=h;exact⟨vs,e,h.map U⟩
  case DJ cs=>simp only[Dj];unfold Rep at h |-;obtain⟨vs,e,h⟩:=h;exact⟨vs,e,h.map U⟩
  case fn k cs=>simp only[Dj];unfold Rep at h |-;obtain⟨vs,e,h⟩:=h;exact⟨vs,e,h.map U⟩
  all_goals (simp only;unfold Rep at h |-;exact h)
theorem Oy {w:World}{Y:Nat->Prop}{σ σ' : Sg}{f:Nat->Option Nat}(O:∀ b i l,f b=some i->σ b=some l->σ' i=some l){l:Loc}{x y:mO}(hx:Cc f (some x)=some y)(h:gW w Y σ l x):gW w Y σ' l y:=by
 cases x with
 | var ro row=>
  simp only[Cc,Option.some.injEq] at hx;subst hx;unfold gW at h |-;rw[Dj];obtain⟨h1,h2,U,T,h5⟩:=h;exact⟨h1,by simpa using h2,by simpa using U,T.map (zM O 8) _ _,h5⟩
 | arr ro sz rows=>
  simp only[Cc,Option.some.injEq] at hx;subst hx;unfold gW at h |-;exact h
 | mg sz rows=>
  simp only[Cc,Option.some.injEq] at hx;subst hx;unfold gW at h |-;exact h
 | map rows=>
  simp only[Cc,Option.some.injEq] at hx;subst hx;unfold gW at h |-;exact h
 | nor sz rows r row=>
  simp only[Cc,Option.some.injEq] at hx;subst hx;unfold gW at h |-;rw[Dj];obtain⟨h1,h2,U,T,⟨h5,I⟩,C,J,g⟩:=h;exact⟨h1,h2,U,T,⟨h5,by simpa using I⟩,C,J.map (zM O 8) _ _,g⟩
theorem UR {f:Nat->Option Nat}{x y:mO}(h:Cc f (some y)=some x)(hy:Emp y):Emp x:=by
 cases hy<;>(simp only[Cc,Option.some.injEq] at h;subst h;constructor)
theorem ZF {f:Nat->Option Nat}{x:mO}{sz:Nat}{rows:List (List PV)}(h:Cc f (some x)=some (.mg sz rows)):x=.mg sz rows:=by
 cases x with
 | var ro row=>simp[Cc] at h
 | arr ro s rs=>simp[Cc] at h
 | mg s rs=>simpa [Cc] using h
 | map rs=>simp[Cc] at h
 | nor s rs r row=>simp[Cc] at h
theorem Rh {f:Nat->Option Nat}{o:Option mO}{y:mO}(h:Cc f o=some y):∃ x,o=some x:=by
 cases o with
 | none=>simp[Cc] at h
 | some x=>exact⟨x,rfl⟩
theorem UT (f:Nat->Option Nat)(st:St):∀ (ρ:List Nat) (i j:Nat),jk (yD f st i ρ) j=if i<=j then(match ρ[j-i]? with|some b=>Cc f (jk st b)|none=>none) else none
 | [],i,j=>by simp[yD,jk]
 | b::ρ,i,j=>by
  simp only[yD,jk]
  by_cases h:i=j
  subst h;simp
  rw[Q4 h];simp only[cond_false,UT f st ρ (i+1) j]
  by_cases h2:i<=j
  rw[if_pos h2,if_pos ah,show j-i=(j-(i+1))+1 by omega];simp
  rw[if_neg h2,if_neg ah]
theorem SW.Zm {T:Tab}{C:Ctx T}{w:World}{Y:Nat->Prop}{σ:Sg}{ps:List PV}{vs:List Value}{st:St}{n:Nat}(H:SW C w Y σ ps vs st n){ρ:List Nat}(hnd:ρ.Nodup)(hpre:∀ i,i<T.qf->ρ[i]?=some i)(hlen:T.qf<=ρ.length) :
  ∃ σ',SW C w Y σ' (Ai (vI (DL ρ) 8) ps) vs (yD (DL ρ) st 0 ρ) (lH ρ)/\∀ p v d,Rep w Y σ p v->Rep w Y σ' (vI (DL ρ) d p) v:=by
 let σ' : Sg:=λi=>match ρ[i]? with|some b=>σ b|none=>none
 have O:∀ b i l,DL ρ b=some i->σ b=some l->σ' i=some l:=by
  intro b i l h1 h2;show(match ρ[i]? with|some b=>σ b|none=>none)=some l;rw[XT _ _ _ h1];exact h2
 have look:∀ i x,jk (yD (DL ρ) st 0 ρ) i=some x->∃ b y,ρ[i]?=some b/\jk st b=some y/\Cc (DL ρ) (some y)=some x/\σ' i=σ b:=by
  intro i x hx;rw[UT,if_pos (Nat.zero_le _),Nat.sub_zero] at hx
  split at hx
  rename_i b U;obtain⟨y,hy⟩:=Rh hx;rw[hy] at hx;refine⟨b,y,U,hy,hx,?_⟩;show(match ρ[i]? with|some b=>σ b|none=>none)=_;rw[U]
  cases hx
 refine⟨σ',⟨by rw[Dj];exact H.vals.map (zM O 8),⟨λi x hx=>?_,λi i' x x' l l' hx hx' hl hl' e=>?_⟩,λi hi=>?_,H.vJ,H.y0,H.c0,H.wS,H.qm,λi x l hx hl=>?_,H.wU,?_,?_⟩,λp v d h=>zM O d p v h⟩
 obtain⟨b,y,h1,h2,h3,g⟩:=look i x hx;rcases H.store.blk b y h2 with ⟨l,hl,hB⟩|⟨hn,hy⟩
 exact .inl ⟨l,by rw[g];exact hl,Oy O h3 hB⟩
 exact .inr ⟨by rw[g];exact hn,UR h3 hy⟩
 obtain⟨b,y,h1,h2,h3,g⟩:=look i x hx;obtain⟨b',y',J,h2',h3',h4'⟩:=look i' x' hx';rw[g] at hl;rw[h4'] at hl';have:=H.store.inj b b' y y' l l' h2 h2' hl hl' e;subst this;exact Rf hnd h1 J
 show(match ρ[i]? with|some b=>σ b|none=>none)=none;rw[List.getElem?_eq_none (by rw[KW] at hi;exact hi)]
 obtain⟨b,y,h1,h2,h3,g⟩:=look i x hx;rw[g] at hl;exact H.own b y l h2 hl
 refine⟨by rw[KW];exact hlen,λb U=>?_⟩;show(match ρ[b]? with|some b=>σ b|none=>none)=_;rw[hpre b U];exact H.fix.2 b U
 have ow:∀ {i r c h sz I},ni (yD (DL ρ) st 0 ρ) i r c h sz I->∃ b,ρ[i]?=some b/\ni st b r c h sz I:=by
  rintro i r c h sz I ⟨sz0,rows,row,h1,h2⟩
  obtain⟨b,y,g1,g2,g3,_⟩:=look i _ h1;have:=ZF g3;subst this;exact⟨b,g1,sz0,rows,row,g2,h2⟩
 refine⟨λi r c h sz I hk=>?_,λi r c h sz I hk=>?_,λi r c h sz I i' r' c' h' sz' es' hk hk' e=>?_,λi r c h sz I i' x l hk hx hl=>?_⟩
 obtain⟨b,_,U⟩:=ow hk;exact H.nest.rep _ _ _ _ _ _ U
 obtain⟨b,_,U⟩:=ow hk;exact H.nest.old _ _ _ _ _ _ U
 obtain⟨b,h1,U⟩:=ow hk;obtain⟨b',J,hb'⟩:=ow hk';obtain⟨e1,e2,e3⟩:=H.nest.one _ _ _ _ _ _ _ _ _ _ _ _ U hb' e;subst e1;exact⟨Rf hnd h1 J,e2,e3⟩
 obtain⟨b,_,U⟩:=ow hk;obtain⟨b',y,_,g2,_,g4⟩:=look i' x hx;rw[g4] at hl;exact H.nest.sep _ _ _ _ _ _ _ _ _ U g2 hl
theorem Jb {w:World}{Y:Nat->Prop}{σ:Sg}:∀ (ps:List PV) (keep:List Nat) (i:Nat) (vs:List Value),gI w Y σ ps vs->gI w Y σ (NP keep i ps) vs
 | [],keep,i,vs,h=>by simpa [NP] using h
 | p::ps,[],i,vs,h=>by
  unfold gI at h;obtain⟨v,U,rfl,h1,h2⟩:=h;simp only[NP];unfold gI;exact⟨v,U,rfl,by simp[Rep],Jb ps [] _ U h2⟩
 | p::ps,k::ks,i,vs,h=>by
  unfold gI at h;obtain⟨v,U,rfl,h1,h2⟩:=h;simp only[NP]
  cases Nat.beq k i with
  | true=>simp only[cond_true];unfold gI;exact⟨v,U,rfl,h1,Jb ps ks _ U h2⟩
  | false=>simp only[cond_false];unfold gI;exact⟨v,U,rfl,by simp[Rep],Jb ps (k::ks) _ U h2⟩
theorem FX {T:Tab}(keep:List Nat)(E:Env):Ent T E (GV T.qf keep E):=by
 intro C a w hA;obtain⟨⟨Y,σ,H⟩,J⟩:=hA;have H1:=H.rG (Jb _ keep 0 _ H.vals);obtain⟨h1,h2,U⟩:=KY T.qf E.st (NP keep 0 E.tmps);obtain⟨σ',I,_⟩:=H1.Zm h1 h2 U;exact⟨⟨Y,σ',I⟩,J⟩
theorem ZG (f:Nat->Option Nat)(st1:St):∀ (τ:List Nat) (i:Nat) (st:St) (b:Nat),τ.Nodup->(∀ j,τ[j]?=some b->jk (Zn f st1 i τ st) b=Cc f (jk st1 (i+j)))/\(b ∉ τ->jk (Zn f st1 i τ st) b=jk st b)
 | [],i,st,b,_=>⟨λj h=>by simp at h,λ_=>rfl⟩
 | c::τ,i,st,b,h=>by
  rw[List.nodup_cons] at h;obtain⟨h1,h2⟩:=ZG f st1 τ (i+1) (oH st c (Cc f (jk st1 i))) b h.2;simp only[Zn];refine⟨λj hj=>?_,λU=>?_⟩
  cases j with
  | zero=>
   simp at hj;subst hj;rw[h2 h.1,iQ,if_pos rfl];rfl
  | succ j=>
   rw[h1 j dD];congr 2;omega
  simp only[List.mem_cons,not_or] at U;rw[h2 U.2,iQ,if_neg λe=>U.1 e.symm]
theorem ZH {n:Nat}:∀ l,ltN n l=true->∀ b∈l,b<n
 | [],_,b,h=>by cases h
 | c::l,h,b,hb=>by
  simp only[ltN,Bool.and_eq_true,Nat.blt_eq] at h;rcases List.mem_cons.1 hb with rfl|hb
  exact h.1
  exact ZH l h.2 b hb
theorem XU {P:Program}{T:Tab}{C:Ctx T}{w:World}{Y:Nat->Prop}{σ:Sg}{E:Env}{vs:List Value}{n0 N:Nat}(H:SW C w Y σ E.tmps vs E.st n0){args:List PV}{cargs:List Value}{ρ:List Nat}{v:PV}{st1:St}{n1:Nat}
  (hnd:KP ρ=true) (hlt:ltN E.next ρ=true) (hid:T.qf<=E.next) (hwin:∀ b,E.next<=b->b<E.next+(n1-lH ρ)->σ b=none) (hN:E.next+(n1-lH ρ)<=N/\n0<=N) (hr:gI w Y σ args cargs)
  {X:(Ending->World->Prop)->Prop} {Z:World->(Nat->Prop)->Prop} (hX:∀ R R',(∀ e w',R e w'->R' e w')->X R->X R')
  (hF:∀ σc:Sg,(∀ i b,ρ[i]?=some b->σc i=σ b)->(∀ b,lH ρ<=b->σc b=none)->gI w Y σc (Ai (vI (DL ρ) 8) args) cargs->EE w Y σc (yD (DL ρ) E.st 0 ρ) ->
   X λe w'=>∃ cv u st' J Y' σ',e=.returned cv/\(u=v/\st'=st1/\J=n1)/\SW (xR ⟨λ_=>.bad,T.gl,lH ρ,[],0,[],[],none,λ_=>[]⟩ w Y σc (yD (DL ρ) E.st 0 ρ)) w' Y' σ' [u] [cv] st' J/\Z w' Y') :
  X λe w'=>∃ cv Y' σ',e=.returned cv/\SW C w' Y' σ' E.tmps vs (EM ρ E st1 n1).st N/\Rep w' Y' σ' (vI (BQ ρ E.next) 8 v) cv/\(∀ b,(b<E.next\/n1<=lH ρ+(b-E.next))->σ' b=σ b)/\Z w' Y':=by
 have hnd:=UQ _ hnd;have hlt:=ZH _ hlt
 let σc:Sg:=λi=>match ρ[i]? with|some b=>σ b|none=>none
 have hσc:∀ i b,ρ[i]?=some b->σc i=σ b:=by
  intro i b h;show(match ρ[i]? with|some b=>σ b|none=>none)=_;rw[h]
 have O:∀ b i l,DL ρ b=some i->σ b=some l->σc i=some l:=by
  intro b i l h1 h2;rw[hσc _ _ (XT _ _ _ h1)];exact h2
 have look:∀ i x,jk (yD (DL ρ) E.st 0 ρ) i=some x->∃ b y,ρ[i]?=some b/\jk E.st b=some y/\Cc (DL ρ) (some y)=some x/\σc i=σ b:=by
  intro i x hx;rw[UT,if_pos (Nat.zero_le _),Nat.sub_zero] at hx
  split at hx
  rename_i b hb;obtain⟨y,hy⟩:=Rh hx;rw[hy] at hx;exact⟨b,y,hb,hy,hx,hσc _ _ hb⟩
  cases hx
 have hst0:EE w Y σc (yD (DL ρ) E.st 0 ρ):=by
  refine⟨λi x hx=>?_,λi i' x x' l l' hx hx' hl hl' e=>?_⟩
  obtain⟨b,y,h1,h2,I,h4⟩:=look i x hx;rcases H.store.blk b y h2 with ⟨l,hl,hB⟩|⟨hn,hy⟩
  exact .inl ⟨l,by rw[h4];exact hl,Oy O I hB⟩
  exact .inr ⟨by rw[h4];exact hn,UR I hy⟩
  obtain⟨b,y,h1,h2,I,h4⟩:=look i x hx;obtain⟨U,y',h1',h2',h3',h4'⟩:=look i' x' hx';rw[h4] at hl;rw[h4'] at hl';have:=H.store.inj b U y y' l l' h2 h2' hl hl' e;subst this;exact Rf hnd h1 h1'
 have hnext:∀ b,lH ρ<=b->σc b=none:=by
  intro i hi;show(match ρ[i]? with|some b=>σ b|none=>none)=none;rw[List.getElem?_eq_none (by rw[KW] at hi;exact hi)]
 have inst:∀ k,Ed σc (yD (DL ρ) E.st 0 ρ) k->∃ b y l,b∈ρ/\jk E.st b=some y/\σ b=some l/\l.cb=k:=by
  rintro k ⟨i,x,l,hx,hl,rfl⟩
  obtain⟨b,y,h1,h2,I,h4⟩:=look i x hx;exact⟨b,y,l,List.mem_of_getElem? h1,h2,by rw[<- h4];exact hl,rfl⟩
 refine hX _ _ (λe w' hh=>?_) (hF σc hσc hnext (by rw[Dj];exact hr.map (zM O 8)) hst0);obtain⟨cv,u,st',J,Y',σ',rfl,⟨rfl,rfl,rfl⟩,H',hZ⟩:=hh;have hm:lH ρ<=J:=H'.fix.1;have hfix:∀ i,i<lH ρ->σ' i=σc i:=H'.fix.2;have hlen:=KW ρ
 let σn:Sg:=λb=>if b<E.next\/J<=lH ρ+(b-E.next) then σ b else σ' (lH ρ+(b-E.next))
 have hout:∀ b,(b<E.next\/J<=lH ρ+(b-E.next))->σn b=σ b:=λb h=>by
  show(if _ then σ b else _)=_;rw[if_pos h]
 have hbak:∀ i b,i<J->BQ ρ E.next i=some b->σn b=σ' i:=by
  intro i b hin h;unfold BQ at h;rw[UO] at h
  split at h
  rename_i c hc;have hcb:=Option.some.inj h;subst hcb
  have hi:i<lH ρ:=by
   rw[hlen]
   by_cases hh:i<ρ.length
   exact hh
   rw[List.getElem?_eq_none (Nat.le_of_not_lt hh)] at hc;cases hc
  rw[hout c (.inl (hlt c (List.mem_of_getElem? hc))),hfix i hi,hσc i c hc]
  rename_i hc;cases h
  have hi:lH ρ<=i:=by
   rw[hlen]
   by_cases hh:i<ρ.length
   rw[List.getElem?_eq_getElem hh] at hc;cases hc
   omega
  show(if _ then _ else σ' _)=_;rw[if_neg ah];congr 1;omega
 have hin' : ∀ i l,σ' i=some l->i<J:=λi l h=>by
  by_cases hh:i<J
  exact hh
  rw[H'.next i ah] at h;cases h
 have hfb:∀ i b l,BQ ρ E.next i=some b->σ' i=some l->σn b=some l:=λi b l h1 h2=>by rw[hbak i b (hin' i l h2) h1];exact h2
 have excl:∀ k,k<w.heap.size->Y' k->Y k:=by
  intro k hk hy;rcases H'.wS k hy hk with h|h
  exact h.1
  exact h.1
 have K:Keep w w' Y Y' σ σn:=by
  refine⟨λk hk hy=>H'.qm.block k hk λh=>hy h.1,excl,H'.qm.size,λb l hl=>?_⟩;rw[hout b ?_];· exact hl
  by_cases hh:b<E.next\/J<=lH ρ+(b-E.next)
  exact hh
  rw[hwin b ah ah] at hl;cases hl
 have hτ:(ρ++upN E.next (J - lH ρ)).Nodup:=by
  rw[List.nodup_append];refine⟨hnd,Q9 _ _,λa ha b hb e=>?_⟩;have:=hlt a ha;have:=(acm hb).1;omega
 have hτi:∀ i b,(ρ++upN E.next (J - lH ρ))[i]?=some b->BQ ρ E.next i=some b:=by
  intro i b h;unfold BQ;rw[UO]
  by_cases hh:i<ρ.length
  rw[List.getElem?_append_left hh] at h;rw[h]
  rw[List.getElem?_append_right ah,PH] at h;rw[List.getElem?_eq_none ah]
  split at h
  cases h;rw[hlen]
  cases h
 have hnot:∀ b,b ∉ (ρ++upN E.next (J - lH ρ))->b ∉ ρ/\(b<E.next\/J<=lH ρ+(b-E.next)):=by
  intro b hb;rw[List.mem_append,not_or] at hb;refine⟨hb.1,?_⟩
  by_cases h1:b<E.next
  exact .inl h1
  refine .inr ?_
  by_cases h2:b-E.next<J - lH ρ
  exact absurd (List.mem_of_getElem? (i:=b-E.next) (by rw[PH,if_pos h2];congr 1;omega)) hb.2
  omega
 have lk:∀ b x,jk (EM ρ E st' J).st b=some x->(∃ i y,BQ ρ E.next i=some b/\jk st' i=some y/\Cc (BQ ρ E.next) (some y)=some x/\σn b=σ' i) \/
   (b ∉ ρ/\(b<E.next\/J<=lH ρ+(b-E.next))/\jk E.st b=some x):=by
  intro b x hx;simp only[EM,ack] at hx;obtain⟨h1,h2⟩:=ZG (BQ ρ E.next) st' (ρ++upN E.next (J - lH ρ)) 0 E.st b hτ
  by_cases hb:b∈ρ++upN E.next (J - lH ρ)
  obtain⟨i,hi⟩:=List.getElem?_of_mem hb;rw[h1 i hi,Nat.zero_add] at hx;obtain⟨y,hy⟩:=Rh hx;rw[hy] at hx
  have hil:i<J:=by
   have hl:i<(ρ++upN E.next (J - lH ρ)).length:=by
    by_cases hh:i<(ρ++upN E.next (J - lH ρ)).length
    exact hh
    rw[List.getElem?_eq_none (Nat.le_of_not_lt hh)] at hi;cases hi
   rw[List.length_append,TU] at hl;omega
  exact .inl ⟨i,y,hτi i b hi,hy,hx,hbak i b hil (hτi i b hi)⟩
  rw[h2 hb] at hx;exact .inr ⟨(hnot b hb).1,(hnot b hb).2,hx⟩
 have nin:∀ b x l,b ∉ ρ->jk E.st b=some x->σ b=some l->¬ Ed σc (yD (DL ρ) E.st 0 ρ) l.cb:=by
  intro b x l hb hx hl hi;obtain⟨U,y,l',h1,h2,I,h4⟩:=inst _ hi;have:=H.store.inj U b y x l' l h2 hx I hl h4;subst this;exact hb h1
 have getσ:∀ b l,(b<E.next\/J<=lH ρ+(b-E.next))->σn b=some l->σ b=some l:=by
  intro b l h6 hl;rw[hout b h6] at hl;exact hl
 have owc:∀ {b r c h sz es},ni (EM ρ E st' J).st b r c h sz es->(∃ i,BQ ρ E.next i=some b/\ni st' i r c h sz es)\/ni E.st b r c h sz es:=by
  rintro b r c h sz es ⟨sz0,rows,row,h1,h2⟩
  rcases lk b _ h1 with ⟨i,y,g1,g2,g3,_⟩|⟨_,_,g3⟩
  have:=ZF g3;subst this;exact .inl ⟨i,g1,sz0,rows,row,g2,h2⟩
  exact .inr ⟨sz0,rows,row,g3,h2⟩
 have notIn:∀ {b r c h sz es},ni E.st b r c h sz es->¬ Ed σc (yD (DL ρ) E.st 0 ρ) h.ν:=by
  intro b r c h sz es hk hi;obtain⟨U,y,l',h1,h2,I,h4⟩:=inst _ hi;exact H.nest.sep _ _ _ _ _ _ _ _ _ hk h2 I h4
 have cross:∀ {i r c h sz es b r' c' h' sz' es'},ni st' i r c h sz es->ni E.st b r' c' h' sz' es'->h.ν≠h'.ν:=by
  intro i r c h sz es b r' c' h' sz' es' hk hk' e;rcases H'.nest.old _ _ _ _ _ _ hk with g|g
  have g:w.heap.size<=h.ν:=g;have:=(H.nest.rep _ _ _ _ _ _ hk').lt;omega
  rw[e] at g;exact notIn hk' g
 have nest:Aj C.w0 C.L w' Y' σn (EM ρ E st' J).st:=by
  refine⟨λb r c h sz es hk=>?_,λb r c h sz es hk=>?_,λb r c h sz es U r' c' h' sz' es' hk hk' e=>?_,λb r c h sz es U x l hk hx hl=>?_⟩
  rcases owc hk with ⟨i,_,hk⟩|hk
  exact H'.nest.rep _ _ _ _ _ _ hk
  have hN:=H.nest.rep _ _ _ _ _ _ hk;exact hN.keep K.none (H'.qm.block _ hN.lt λh=>notIn hk h.2) (λh=>H'.y0 _ ⟨h,notIn hk⟩)
  rcases owc hk with ⟨i,_,hk⟩|hk
  rcases H'.nest.old _ _ _ _ _ _ hk with h|h
  exact .inl (Nat.le_trans H.qm.size h)
  obtain⟨U,y',l',h5,h6,h7,h8⟩:=inst _ h;rw[<- h8];exact H.own U y' l' h6 h7
  exact H.nest.old _ _ _ _ _ _ hk
  rcases owc hk with ⟨i,g,hk⟩|hk<;>rcases owc hk' with ⟨i',g',hk'⟩|hk'
  obtain⟨e1,e2,e3⟩:=H'.nest.one _ _ _ _ _ _ _ _ _ _ _ _ hk hk' e;subst e1;rw[g] at g';cases g';exact⟨rfl,e2,e3⟩
  exact absurd e (cross hk hk')
  exact absurd e.symm (cross hk' hk)
  exact H.nest.one _ _ _ _ _ _ _ _ _ _ _ _ hk hk' e
  rcases owc hk with ⟨i,g,hk⟩|hk<;>rcases lk U x hx with ⟨i',y,g1,g2,g3,g4⟩|⟨g1,g2,g3⟩
  exact H'.nest.sep _ _ _ _ _ _ _ _ _ hk g2 (by rw[<- g4];exact hl)
  have hσ:=getσ U l g2 hl;intro e
  have hlt' : l.cb<w.heap.size:=by
   rcases H.store.blk U x g3 with ⟨l2,hl2,hB⟩|⟨hn,_⟩
   rw[hσ] at hl2;cases hl2;exact hB.lt
   rw[hσ] at hn;cases hn
  rcases H'.nest.old _ _ _ _ _ _ hk with h|h
  have h:w.heap.size<=_:=h;omega
  rw[<- e] at h;exact nin U x l g1 g3 hσ h
  intro e;rcases H'.own i' y l g2 (by rw[<- g4];exact hl) with h|h
  have h:w.heap.size<=l.cb:=h;have:=(H.nest.rep _ _ _ _ _ _ hk).lt;omega
  rw[e] at h;exact notIn hk h
  exact H.nest.sep _ _ _ _ _ _ _ _ _ hk g3 (getσ U l g2 hl)
 refine⟨cv,Y',σn,rfl,⟨gI.keep _ K _ H.vals,⟨λb x hx=>?_,λb U x x' l l' hx hx' hl hl' e=>?_⟩,λb hb=>?_,H'.vJ,λk hk=>?_,H.c0,λk hk hlt=>?_,?_,λb x l hx hl=>?_,H'.wU,?_,nest⟩,?_⟩
 rcases lk b x hx with ⟨i,y,h1,h2,I,h4⟩|⟨h1,h2,I⟩
 rcases H'.store.blk i y h2 with ⟨l,hl,hB⟩|⟨hn,hy⟩
 exact .inl ⟨l,by rw[h4];exact hl,Oy hfb I hB⟩
 exact .inr ⟨by rw[h4];exact hn,UR I hy⟩
 rcases H.store.blk b x I with ⟨l,hl,hB⟩|⟨hn,hy⟩
 have hni:=nin b x l h1 I hl;refine .inl ⟨l,K.sg b l hl,gW.keep K (H'.qm.block _ hB.lt λh=>hni h.2) ⟨excl _ hB.lt,λh=>H'.y0 _ ⟨h,hni⟩⟩ hB⟩
 exact .inr ⟨by rw[hout b h2];exact hn,hy⟩
 have side:∀ b U x x' l l',(∃ i y,BQ ρ E.next i=some b/\jk st' i=some y/\Cc (BQ ρ E.next) (some y)=some x/\σn b=σ' i)->(U ∉ ρ/\(U<E.next\/J<=lH ρ+(U - E.next))/\jk E.st U=some x') ->
   σn b=some l->σn U=some l'->l.cb=l'.cb->False:=by
  rintro b U x x' l l' ⟨i,y,h1,h2,I,h4⟩ ⟨h5,h6,h7⟩ hl hl' e
  have hσ:σ U=some l':=getσ U l' h6 hl'
  have hlt' : l'.cb<w.heap.size:=by
   rcases H.store.blk U x' h7 with ⟨l2,hl2,hB⟩|⟨hn,_⟩
   rw[hσ] at hl2;cases hl2;exact hB.lt
   rw[hσ] at hn;cases hn
  rcases H'.own i y l h2 (by rw[<- h4];exact hl) with h|h
  have h:w.heap.size<=l.cb:=h;omega
  rw[e] at h;exact nin U x' l' h5 h7 hσ h
 rcases lk b x hx with h|h<;>rcases lk U x' hx' with h'|h'
 obtain⟨i,y,h1,h2,I,h4⟩:=h;obtain⟨i',y',h1',h2',h3',h4'⟩:=h';have:=H'.store.inj i i' y y' l l' h2 h2' (by rw[<- h4];exact hl) (by rw[<- h4'];exact hl') e;subst this;rw[h1] at h1';cases h1';rfl
 exact(side b U x x' l l' h h' hl hl' e).elim
 exact(side U b x' x l' l h' h hl' hl e.symm).elim
 have get:∀ b x l,(b ∉ ρ/\(b<E.next\/J<=lH ρ+(b-E.next))/\jk E.st b=some x)->σn b=some l->σ b=some l:=by
  rintro b x l ⟨_,h6,_⟩ hl
  exact getσ b l h6 hl
 exact H.store.inj b U x x' l l' h.2.2 h'.2.2 (get b x l h hl) (get U x' l' h' hl') e
 rw[hout b ah];exact H.next b ah
 refine H'.y0 k ⟨H.y0 k hk,λhi=>?_⟩;obtain⟨b,y,l,h1,h2,I,rfl⟩:=inst k hi;exact H.away h2 I hk
 exact H.wS k (excl k (Nat.lt_of_lt_of_le hlt H.qm.size) hk) hlt
 refine⟨by rw[H'.qm.os];exact H.qm.os,by rw[H'.qm.tape];exact H.qm.tape,by rw[H'.qm.output];exact H.qm.output,Nat.le_trans H.qm.size H'.qm.size,λk hk hM=>?_⟩;rw[H'.qm.block k (Nat.lt_of_lt_of_le hk H.qm.size) λh=>?_]
 exact H.qm.block k hk hM
 obtain⟨h1,h2⟩:=h;rcases H.wS k h1 hk with I|I
 obtain⟨b,y,l,h4,h5,h6,rfl⟩:=inst k h2;exact H.away h5 h6 I
 exact hM I
 rcases lk b x hx with ⟨i,y,h1,h2,I,h4⟩|⟨h1,h2,I⟩
 rcases H'.own i y l h2 (by rw[<- h4];exact hl) with h|h
 exact .inl (Nat.le_trans H.qm.size h)
 obtain⟨U,y',l',h5,h6,h7,h8⟩:=inst _ h;rw[<- h8];exact H.own U y' l' h6 h7
 exact H.own b x l I (getσ b l h2 hl)
 refine⟨by have:=H.fix.1;omega,λb hb=>?_⟩;rw[hout b (.inl ah)];exact H.fix.2 b hb
 have:=H'.vals;unfold gI at this;obtain⟨c,cs,e,h1,h2⟩:=this;cases e;exact⟨zM hfb 8 _ _ h1,hout,hZ⟩
theorem XV {P:Program}{T:Tab}{C:Ctx T}{w:World}{Y:Nat->Prop}{σ:Sg}{E:Env}{vs:List Value}{n0 N:Nat}(H:SW C w Y σ E.tmps vs E.st n0){k:Nat}{args:List PV}{U:List Value}{ρ:List Nat}{v:PV}{st1:St}{n1:Nat}
  (hnd:KP ρ=true) (hlt:ltN E.next ρ=true) (hnn:lY (yD (DL ρ) E.st 0 ρ)=true) (hid:T.qf<=E.next) (g:∀ b,E.next<=b->b<E.next+(n1-lH ρ)->σ b=none) (hN:E.next+(n1-lH ρ)<=N/\n0<=N) (hr:gI w Y σ args U)
  (hF:FnS P T.gl k (Ai (vI (DL ρ) 8) args) (yD (DL ρ) E.st 0 ρ) (lH ρ) (λu st n=>u=v/\st=st1/\n=n1)) :
  (callFunc k U.toArray).run P w=.ok (.enter k U.toArray) w /\
  Calls P k U.toArray w λe w'=>∃ cv Y' σ',e=.returned cv/\SW C w' Y' σ' E.tmps vs (EM ρ E st1 n1).st N/\Rep w' Y' σ' (vI (BQ ρ E.next) 8 v) cv/\∀ b,(b<E.next\/n1<=lH ρ+(b-E.next))->σ' b=σ b :=
by
 have:=XU (P:=P) (X:=λR=>(callFunc k U.toArray).run P w=.ok (.enter k U.toArray) w/\Calls P k U.toArray w R) (Z:=λ_ _=>True) H hnd hlt hid g hN hr (λ_ _ h k=>⟨k.1,Calls.mono k.2 h⟩)
  λσc _ J hra I=>by
   obtain⟨h1,h2⟩:=hF w Y σc U H.wU H.vJ J hra I hnn;refine⟨h1,Calls.mono h2 λe w' hh=>?_⟩;obtain⟨cv,u,st',n',Y',σ',h3,h4,h5⟩:=hh;exact⟨cv,u,st',n',Y',σ',h3,h4,h5,trivial⟩
 refine⟨this.1,Calls.mono this.2 λe w' hh=>?_⟩;obtain⟨cv,Y',σ',h1,h2,h3,h4,_⟩:=hh;exact⟨cv,Y',σ',h1,h2,h3,h4⟩
theorem aeC {P:Program}{T:Tab}{C:Ctx T}{w:World}{Y:Nat->Prop}{σ:Sg}{E:Env}{vs:List Value}(H:SW C w Y σ E.tmps vs E.st E.next){k:Nat}{args:List PV}{U:List Value}{ρ:List Nat}{v:PV}{st1:St}{n1:Nat}
  (g:KP ρ=true) (I:ltN E.next ρ=true) (J:lY (yD (DL ρ) E.st 0 ρ)=true) (hr:gI w Y σ args U)
  (hF:FnS P T.gl k (Ai (vI (DL ρ) 8) args) (yD (DL ρ) E.st 0 ρ) (lH ρ) (λu st n=>u=v/\st=st1/\n=n1)) :
  (callFunc k U.toArray).run P w=.ok (.enter k U.toArray) w /\
  Calls P k U.toArray w λe w'=>∃ cv Y' σ',e=.returned cv/\SW C w' Y' σ' E.tmps vs (EM ρ E st1 n1).st (EM ρ E st1 n1).next/\Rep w' Y' σ' (vI (BQ ρ E.next) 8 v) cv:=by
 obtain⟨h1,h2⟩:=XV (N:=E.next+(n1-lH ρ)) H g I J H.fix.1 (λb hb _=>H.next b hb) ⟨Nat.le_refl _,Nat.le_add_right _ _⟩ hr hF;refine⟨h1,Calls.mono h2 λe w' hh=>?_⟩;obtain⟨cv,Y',σ',e1,h3,h4,_⟩:=hh;exact⟨cv,Y',σ',e1,h3,h4⟩
theorem He {st:St}{b:Nat}{x:mO}(h:aaM st b=some x):jk st b=some x/\x.ro=true:=by
 unfold aaM at h
 split at h
 rename_i e;cases h;exact⟨e,rfl⟩
 rename_i e;cases h;exact⟨e,rfl⟩
 cases h
theorem gW.ahy {w:World}{Y:Nat->Prop}{σ:Sg}{l:Loc}{x:mO}(h:gW w Y σ l x)(hr:x.ro=true):¬ Y l.cb:=by
 cases x with
 | var ro row=>unfold gW at h;exact h.2.2.2.2.2 hr
 | arr ro sz rows=>unfold gW at h;exact h.2.2.2.2.2.2 hr
 | mg sz rows=>cases hr
 | map rows=>cases hr
 | nor sz rows r row=>cases hr
theorem TW {P:Program}{T:Tab}{C:Ctx T}{w:World}{Y:Nat->Prop}{σ:Sg}{ps:List PV}{vs:List Value}{st:St}{n:Nat}(H:SW C w Y σ ps vs st n){lk:Nat->Option mO}(I:∀ b x,lk b=some x->jk st b=some x/\x.ro=true)
  {k d:Nat} {args as:List PV} {U:List Value} {v:PV}
  (hm:KJ (frz (iW.jI P T) lk d) args=some as) (hr:gI w Y σ args U) (hF:Fn P T.gl k as (λu=>u=v)):PG P k C Y σ w U ps vs st n v:=by
 have J:∀ b x l,lk b=some x->σ b=some l->¬ Y l.cb:=by
  intro b x l h1 h2;obtain⟨h3,h4⟩:=I b x h1;rcases H.store.blk b x h3 with ⟨l',hl',hB⟩|⟨hn,_⟩
  rw[h2] at hl';cases hl';exact hB.ahy h4
  rw[h2] at hn;cases hn
 obtain⟨h1,h2⟩:=hF w Y U H.wU H.vJ (PE H.store (λb x h=>(I b x h).1) (λ_ h=>h) J (λb sz rows hb=>by have:=(I _ _ hb).2;cases this) hm hr);refine⟨h1,Calls.mono h2 λe w' h=>?_⟩;obtain⟨cv,u,rfl,rfl,hrep,g⟩:=h;exact⟨cv,rfl,H.aep g,hrep.aiy⟩
theorem SW.roS {T:Tab}{C:Ctx T}{w:World}{σ:Sg}{ps:List PV}{vs:List Value}{n:Nat}:∀ (ρ:List Nat) {Y:Nat->Prop} {st:St},SW C w Y σ ps vs st n->∃ Y',SW C w Y' σ ps vs (Pv.roS st ρ) n/\∀ k,Y' k->Y k
 | [],Y,st,H=>⟨Y,H,λ_ h=>h⟩
 | b::l,Y,st,H=>by
  unfold Pv.roS
  split
  rename_i ro row U;obtain⟨g,H1,_,h1⟩:=H.freeze U (.inl ⟨ro,row,rfl,rfl⟩);obtain⟨I,J,h2⟩:=SW.roS l H1;exact⟨I,J,λk h=>h1 k (h2 k h)⟩
  rename_i ro sz rows U;obtain⟨g,H1,_,h1⟩:=H.freeze U (.inr ⟨ro,sz,rows,rfl,rfl⟩);obtain⟨I,J,h2⟩:=SW.roS l H1;exact⟨I,J,λk h=>h1 k (h2 k h)⟩
  exact SW.roS l H
theorem KZ {P:Program}{T:Tab}{k:Nat}{args:List PV}{E:Env}{K:PV->Env->Prop}(h:Uu (iW.jI P T) k args E K):SB P T k args E K:=by
 unfold Uu at h
 split at h
 rename_i as g;rcases h with ⟨v,hF,J⟩|⟨v,st1,n1,hF,J⟩|h
 exact SB.aeB J λC Y σ w vs U H hr=>TW H (λb x h=>He h) g hr hF
 intro C Y σ w vs U H hr
 have I:∀ b x l,aaM E.st b=some x->σ b=some l->¬ Y l.cb:=by
  intro b x l h1 h2;obtain⟨h3,h4⟩:=He h1;rcases H.store.blk b x h3 with ⟨l',hl',hB⟩|⟨hn,_⟩
  rw[h2] at hl';cases hl';exact hB.ahy h4
  rw[h2] at hn;cases hn
 have hr0:=PE (P:=P) (T:=T) H.store (λb x h=>(He h).1) (λ_ h=>h) I (λb sz rows hb=>by have:=(He hb).2;cases this) g hr;have hr1:gI w Y σ as U:=gI.keep as (σ:=iU) (σ':=σ) ⟨λ_ _ _=>rfl,λ_ _ h=>h,Nat.le_refl _,λb l h=>by simp[iU] at h⟩ _ hr0;obtain⟨h3,h4⟩:=aeC (ρ:=[]) (v:=v) (st1:=st1) (n1:=n1) H rfl rfl rfl hr1 hF;refine⟨h3,Calls.mono h4 λe w' hh=>?_⟩;obtain⟨cv,Y',σ',rfl,H2,hv⟩:=hh;exact⟨cv,_,_,Y',σ',rfl,J,H2,hv⟩
 exact h
 rcases h with ⟨bs,v,g,hF,O,J⟩|⟨bs,v,g,hF,J⟩|⟨v,st1,n1,h1,h2,h0,hF,J⟩|h
 exact SB.aeB J λC Y σ w vs U H hr=>Q8 H (λ_ _ h=>h) g hr hF O
 intro C Y σ w vs U H hr;obtain⟨Y',H',hY⟩:=SW.roS (G6 args E.st) H;have K0:Keep w w Y Y' σ σ:=⟨λ_ _ _=>rfl,λk _=>hY k,Nat.le_refl _,oq.refl _⟩;obtain⟨h1,h2⟩:=TW H' (λb x h=>He h) g (gI.keep _ K0 _ hr) hF;refine⟨h1,Calls.mono h2 λe w' hh=>?_⟩;obtain⟨cv,rfl,H2,hv⟩:=hh;exact⟨cv,v,_,Y',σ,rfl,J,H2,hv⟩
 intro C Y σ w vs U H hr;obtain⟨h3,h4⟩:=aeC H h1 h2 h0 hr hF;refine⟨h3,Calls.mono h4 λe w' hh=>?_⟩;obtain⟨cv,Y',σ',rfl,H2,hv⟩:=hh;exact⟨cv,_,_,Y',σ',rfl,J,H2,hv⟩
 exact h
end Go.Pv
namespace Go.Pv
open Go
theorem UU (sz:Nat):∀ (n:Nat) (l:List PV) (row:List PV),row∈chunks sz n l->∀ p∈row,p∈l
 | 0,_,_,h=>by simp[chunks] at h
 | n+1,l,row,h=>by
  simp only[chunks,List.mem_cons,KQ,yP] at h;intro p hp;rcases h with rfl|h
  exact List.mem_of_mem_take hp
  exact List.mem_of_mem_drop (UU sz n _ row h p hp)
theorem Aj.re {w0 w w' : World}{L Y Y' : Nat->Prop}{σ σ' : Sg}{st st' : St}(H:Aj w0 L w Y σ st)(R:Nat->Nat->Nat->Nat->Prop)
  (hR:∀ b r c h sz U,ni st' b r c h sz U->∃ b0 r0,ni st b0 r0 c h sz U/\R b r b0 r0)
  (hi:∀ b r T J b0 r0,R b r b0 r0->R T J b0 r0->b=T/\r=J)
  (hk:∀ b r c h sz U,ni st b r c h sz U->XE w Y h sz U->XE w' Y' h sz U)
  (hs:∀ b r c h sz U T x l,ni st b r c h sz U->jk st' T=some x->σ' T=some l->l.cb≠h.ν):Aj w0 L w' Y' σ' st':=by
 refine⟨λb r c h sz U k=>?_,λb r c h sz U k=>?_,λb r c h sz U T J c' h' I es' k C e=>?_,λb r c h sz U T x l k hx hl=>?_⟩
 obtain⟨b0,r0,k0,_⟩:=hR _ _ _ _ _ _ k;exact hk _ _ _ _ _ _ k0 (H.rep _ _ _ _ _ _ k0)
 obtain⟨b0,r0,k0,_⟩:=hR _ _ _ _ _ _ k;exact H.old _ _ _ _ _ _ k0
 obtain⟨b0,r0,k0,g0⟩:=hR _ _ _ _ _ _ k;obtain⟨b1,r1,k1,g1⟩:=hR _ _ _ _ _ _ C;obtain⟨e1,e2,g⟩:=H.one _ _ _ _ _ _ _ _ _ _ _ _ k0 k1 e;subst e1 e2;obtain⟨f1,f2⟩:=hi _ _ _ _ _ _ g0 g1;exact⟨f1,f2,g⟩
 obtain⟨b0,r0,k0,_⟩:=hR _ _ _ _ _ _ k;exact hs _ _ _ _ _ _ _ _ _ k0 hx hl
theorem SW.retag {T:Tab}{C:Ctx T}{w:World}{Y:Nat->Prop}{σ:Sg}{ps:List PV}{vs:List Value}{st st' : St}{n:Nat}(H:SW C w Y σ ps vs st n)
  (U:∀ b x,jk st' b=some x->∃ g,jk st b=some g/\(x=g\/∃ sz rows l,g=.arr false sz rows/\x=.mg sz rows/\σ b=some l)) (I:Aj C.w0 C.L w Y σ st'):SW C w Y σ ps vs st' n:=by
 refine⟨H.vals,⟨?_,?_⟩,H.next,H.vJ,H.y0,H.c0,H.wS,H.qm,?_,H.wU,H.fix,I⟩
 intro b x hx;obtain⟨g,h0,e⟩:=U b x hx;rcases e with rfl|⟨sz,rows,l,rfl,rfl,hl⟩
 exact H.store.blk b x h0
 rcases H.store.blk b _ h0 with ⟨l',J,hB⟩|⟨hn,_⟩
 refine .inl ⟨l',J,?_⟩;unfold gW at hB |-;exact⟨hB.1,hB.2.1,hB.2.2.1,hB.2.2.2.1,hB.2.2.2.2.1,hB.2.2.2.2.2.1 rfl⟩
 rw[hl] at hn;cases hn
 intro b b' x x' l l' hx hx' hl J e;obtain⟨_,h0,_⟩:=U b x hx;obtain⟨_,h0',_⟩:=U b' x' hx';exact H.store.inj _ _ _ _ _ _ h0 h0' hl J e
 intro b x l hx hl;obtain⟨_,h0,_⟩:=U b x hx;exact H.own _ _ _ h0 hl
section
variable {P:Program}{T:Tab}(hT:jq P T){C:Ctx T}{o:Oper}{a:Act}{w:World}{Y:Nat->Prop}{σ:Sg}{ps:List PV}{st:St}{n id:Nat}{K:PV->Dl->Prop}{lk:Nat->Option mO}
 (H:SW C w Y σ ps a.tmps.toList st n) (hlk:∀ b x,lk b=some x->jk st b=some x) (hid:σ id=none/\T.qf<=id)
include hT H hlk hid in
theorem agi {t:TypeId}{len:Nat}{parts:Array (Nat×Operand)}(ho:o.op=.buildSlice t len parts)(hE:oO T (iW.jI P T) (.buildSlice t len parts) ps lk id K->qG P C o a w σ ps st n id K)(h:ahk T (iW.jI P T) t len parts ps lk id K):qG P C o a w σ ps st n id K:=by
 unfold ahk at h
 split at h
 ·rename_i agg size z0 plain esz bytes z e;obtain⟨et,hu,rfl,_,hz⟩:=nJ hT e
  cases hb:(lX (P.cellsOf et)&&Nat.beq (oG z) (P.cellsOf et)&&Nat.ble (len*P.cellsOf et) 16777216&&ED (evP T ps parts.toList)) with
  | false=>rw[hb] at h;exact h.elim
  | true=>
   rw[hb] at h;simp only[cond_true] at h;simp only[Bool.and_eq_true,vK] at hb;obtain⟨⟨⟨I,hb2⟩,hb3⟩,hb4⟩:=hb
   have hpos:0<P.cellsOf et:=by
    rcases Nat.eq_zero_or_pos (P.cellsOf et) with h0|h0
    rw[h0] at I;simp[lX] at I
    exact h0
   have hzl:=Nat.eq_of_beq_eq_true hb2;have hle:=Nat.le_of_ble_eq_true hb3
   split at h
   ·rename_i O
    cases hb5:Nat.beq (P.cellsOf et) 1 with
    | false=>rw[hb5] at h;exact h.elim
    | true=>
    rw[hb5] at h;simp only[cond_true] at h;have hone:=Nat.eq_of_beq_eq_true hb5;obtain⟨vcs,hrep,hvl,hrun⟩:=wB hT H ho hu hz I hzl hle hb4 O;have hvl0:vcs.size=0:=by simpa using hvl
    obtain⟨Y2,σ2,H2,U,g⟩:=SW.TT (a:=a) (m:=0) (arr:=vcs) (rows:=[]) (sz:=1) (x:=.mg 1 []) H hid (.inr ⟨rfl,by simp⟩) et ah aC (by simpa using hvl0) (by
     intro w' Y' _ _;simp[jw])
    exact⟨_,_,_,_,Y2,σ2,h,.inl hrun,by simp only[jJ,uH];exact H2,U,g⟩
   ·rename_i b r m O
    cases hb5:Nat.beq (P.cellsOf et) 1 with
    | false=>rw[hb5] at h;exact h.elim
    | true=>
    rw[hb5] at h;simp only[cond_true] at h;have hone:=Nat.eq_of_beq_eq_true hb5
    split at h
    ·rename_i sz rows hbk;obtain⟨vcs,hrep,hvl,hrun⟩:=wB hT H ho hu hz I hzl hle hb4 O;have hst:=hlk _ _ hbk;unfold gI at hrep;obtain⟨v,vs',hvs,hv,hnil⟩:=hrep;unfold gI at hnil;subst hnil;have hvl1:vcs.size=1:=by rw[hvl,hone]
     have hv0:vcs[0]?=some v:=by rw[<- Array.getElem?_toList,hvs];rfl
     obtain⟨J,hwv,hloc⟩:∃ J:Hdr,Rep w Y iU (.ow J sz ((rows.drop r).take m)) v/\(J.cap≠0->∃ l,σ b=some l/\J.ν=l.cb/\J.o=l.co+r*l.sz/\J.o+J.cap*l.sz=l.tot/\((rows.drop r).take m).length<=J.cap):=by
      unfold Rep at hv;rcases hv with ⟨l2,cap,hl2,ey2,hcap,htot,hrm⟩|⟨hm1,a0,ey2⟩
      have hB2:gW w Y σ l2 (.arr false sz rows):=gW.yR H hlk hbk hl2;unfold gW at hB2;obtain⟨_,hsz2,hpos2,⟨hle2,hnr2⟩,hrows2,hm2,_⟩:=hB2;have hlen:((rows.drop r).take m).length=m:=by rw[List.length_take,List.length_drop];omega
      refine⟨⟨l2.cb,l2.co+r*l2.sz,cap⟩,?_,λ_=>⟨l2,hl2,rfl,rfl,htot,by rw[hlen];exact hcap.1⟩⟩;unfold Rep
      by_cases hm0:m=0
      by_cases hc0:cap=0
      subst hm0 hc0;exact .inr ⟨rfl,by simp,_,ey2⟩
      exact .inl ⟨hc0,by rw[hlen];exact ey2,by rw[hlen];exact hcap.1,hcap.2⟩
      exact .inl ⟨by have:=hcap.1;show cap≠0;omega,by rw[hlen];exact ey2,by rw[hlen];exact hcap.1,hcap.2⟩
      subst hm1;refine⟨⟨0,0,0⟩,?_,λh=>absurd rfl h⟩;unfold Rep;exact .inr ⟨rfl,by simp,a0,ey2⟩
     cases hbi:Nat.beq b id with
     | true=>rw[hbi] at h;exact h.elim
     | false=>
     rw[hbi] at h;have hbid:b≠id:=λe=>by subst e;rw[Nat.beq_refl] at hbi;cases hbi
     generalize hes:(rows.drop r).take m=es at hwv hloc;have h:∀ J,K (.os id 0 1) [(b,none),(id,some (.mg 1 [[.ow J sz ((rows.drop r).take m)]]))]:=h;rw[hes] at h
     obtain⟨Y2,σ2,H2,U,g⟩:=SW.XQ (a:=a) (m:=1) (arr:=vcs) (rows:=[[.ow J sz es]]) (sz:=1) H hid et ah aC ah (by
      intro w' Y' hk hb;unfold jw;refine⟨⟨rfl,rfl⟩,?_,by unfold jw;trivial⟩;rw[jo.iff];intro i p hi
      cases i with
      | zero=>
       simp only[List.getElem?_cons_zero,Option.some.injEq] at hi;subst hi;exact⟨v,by rw[cell_of_block hb];simpa using hv0,hk _ _ hwv⟩
      | succ i=>simp at hi)
     have I:jk (oH st id (some (.arr false 1 [[.ow J sz es]]))) b=some (.arr false sz rows):=by rw[iQ,if_neg (λe=>hbid e.symm)];exact hst
     have look:∀ c x,jk (oH (oH st b none) id (some (.mg 1 [[.ow J sz es]]))) c=some x->(c=id/\x=.mg 1 [[.ow J sz es]])\/(c≠id/\c≠b/\jk (oH st id (some (.arr false 1 [[.ow J sz es]]))) c=some x):=by
      intro c x hx;rw[iQ] at hx
      by_cases hc:id=c
      rw[if_pos hc] at hx;cases hx;exact .inl ⟨hc.symm,rfl⟩
      rw[if_neg hc,iQ] at hx
      by_cases hc2:b=c
      rw[if_pos hc2] at hx;cases hx
      rw[if_neg hc2] at hx;exact .inr ⟨λe=>hc e.symm,λe=>hc2 e.symm,by rw[iQ,if_neg hc];exact hx⟩
     have hidl:∃ l,σ2 id=some l:=by
      unfold Rep at U;rcases U with ⟨l,_,hl,_⟩|⟨h0,_⟩
      exact⟨l,hl⟩
      cases h0
     obtain⟨lid,hlid⟩:=hidl
     have ow:∀ {b' r' c' h' sz2 es'},ni (oH (oH st b none) id (some (.mg 1 [[.ow J sz es]]))) b' r' c' h' sz2 es' ->
       (b'=id/\r'=0/\c'=0/\h'=J/\sz2=sz/\es'=es/\J.cap≠0)\/(b'≠id/\ni (oH st id (some (.arr false 1 [[.ow J sz es]]))) b' r' c' h' sz2 es'):=by
      rintro b' r' c' h' sz2 es' ⟨sz0,rs,rw0,g1,g2,g3,g4⟩
      rcases look _ _ g1 with ⟨e0,g5⟩|⟨e1,e2,g1⟩
      cases g5
      cases r' with
      | succ r'=>simp at g2
      | zero=>
       simp only[List.getElem?_cons_zero,Option.some.injEq] at g2;subst g2
       cases c' with
       | succ c'=>simp at g3
       | zero=>
        simp only[List.getElem?_cons_zero,Option.some.injEq,PV.ow.injEq] at g3;obtain⟨f1,f2,f3⟩:=g3;subst f1 f2 f3;exact .inl ⟨e0,rfl,rfl,rfl,rfl,rfl,g4⟩
      exact .inr ⟨e1,⟨sz0,rs,rw0,g1,g2,g3,g4⟩⟩
     have nr:J.cap≠0->∃ l,σ2 b=some l/\J.ν=l.cb/\XE (w.alloc (.cells vcs et)) Y2 J sz es:=by
      intro hne;obtain⟨l,hl,g1,g2,g3,g4⟩:=hloc hne;have hl2:σ2 b=some l:=by rw[g b hbid];exact hl
      refine⟨l,hl2,g1,?_⟩;have hB2:gW (w.alloc (.cells vcs et)) Y2 σ2 l (.arr false sz rows):=gW.yR H2 (λ_ _ h=>h) I hl2;unfold gW at hB2;obtain⟨⟨arr2,ty2,ha2,has2⟩,hsz2,hpos2,_,hrows2,hm2,_⟩:=hB2;rw[hsz2] at g2 g3;refine⟨by rw[g1];exact hm2 rfl,hpos2,⟨arr2,ty2,by rw[g1];exact ha2,by rw[has2,g3]⟩,g4,?_⟩;rw[g1,g2,<- hes];exact(hrows2.drop r _ _).take m _ _
     refine⟨_,_,_,_,Y2,σ2,h J,.inl hrun,?_,U,g⟩;simp only[jJ,uH];refine H2.retag (λc x hx=>?_) ⟨λb' r' c' h' sz2 es' hh=>?_,λb' r' c' h' sz2 es' hh=>?_,λb' r' c' h' sz2 es' b2 r2 c2 h2 sz3 es3 hh hh' e=>?_,λb' r' c' h' sz2 es' b2 x l' hh hx hl'=>?_⟩
     rcases look _ _ hx with ⟨rfl,rfl⟩|⟨_,_,hx⟩
     exact⟨_,by rw[iQ,if_pos rfl],.inr ⟨_,_,lid,rfl,rfl,hlid⟩⟩
     exact⟨_,hx,.inl rfl⟩
     rcases ow hh with ⟨_,_,_,rfl,rfl,rfl,hne⟩|⟨_,hh⟩
     exact(nr hne).choose_spec.2.2
     exact H2.nest.rep _ _ _ _ _ _ hh
     rcases ow hh with ⟨_,_,_,rfl,rfl,rfl,hne⟩|⟨_,hh⟩
     obtain⟨l,hl,g1,_⟩:=nr hne;rw[g1];exact H2.own b _ l I hl
     exact H2.nest.old _ _ _ _ _ _ hh
     rcases ow hh with ⟨e1,e2,e3,e4,_,_,hne⟩|⟨k1,hh1⟩<;>rcases ow hh' with ⟨f1,f2,f3,f4,_,_,hne'⟩|⟨k2,hh2⟩
     exact⟨by rw[e1,f1],by rw[e2,f2],by rw[e3,f3]⟩
     obtain⟨l,hl,g1,_⟩:=nr hne;exact absurd (by rw[<- e,e4,g1]) (H2.nest.sep _ _ _ _ _ _ _ _ _ hh2 I hl)
     obtain⟨l,hl,g1,_⟩:=nr hne';exact absurd (by rw[e,f4,g1]) (H2.nest.sep _ _ _ _ _ _ _ _ _ hh1 I hl)
     exact H2.nest.one _ _ _ _ _ _ _ _ _ _ _ _ hh1 hh2 e
     have hx2:b2≠b/\∃ z,jk (oH st id (some (.arr false 1 [[.ow J sz es]]))) b2=some z:=by
      rcases look _ _ hx with ⟨rfl,_⟩|⟨_,e2,hx⟩
      exact⟨λe=>hbid e.symm,_,by rw[iQ,if_pos rfl]⟩
      exact⟨e2,_,hx⟩
     obtain⟨hxi,z,hz⟩:=hx2;rcases ow hh with ⟨_,_,_,rfl,_,_,hne⟩|⟨_,hh⟩
     obtain⟨l,hl,g1,_⟩:=nr hne;rw[g1];exact λe=>hxi (H2.store.inj b2 b z _ l' l hz I hl' hl e)
     exact H2.nest.sep _ _ _ _ _ _ _ _ _ hh hz hl'
    exact h.elim
   rename_i len _ _ cs _ _ O
   split at h
   rename_i nn hnn hnil
   split at h
   rename_i cs0 hpur;obtain⟨vcs,hrep,hvl,hrun⟩:=wB hT H ho hu hz I hzl hle hb4 O;have hr2:=XH nn _ _ (Pn hpur hrep);have hcsl:(owZ nn cs0).length=len*P.cellsOf et:=by rw[XI,TS _ _ _ hpur,I8 _ _ _ _ O,xq,hzl]
   have hch:(chunks (P.cellsOf et) len (owZ nn cs0)).length=len:=wJ _ _ _
   obtain⟨Y2,σ2,H2,U,g⟩:=SW.TT (a:=a) (m:=len) (arr:=vcs) (rows:=chunks (P.cellsOf et) len (owZ nn cs0)) (x:=.mg (P.cellsOf et) (chunks (P.cellsOf et) len (owZ nn cs0))) H hid (.inr ⟨rfl,λi row j J sz' es hi hj=>by
    have hm:=UU _ _ _ _ (List.mem_of_getElem? hi) _ (List.mem_of_getElem? hj);obtain⟨k,hk⟩:=List.getElem?_of_mem hm;exact Q3 (UH _ _ _ hpur) k hk⟩) et hpos ⟨by omega,Nat.le_trans (Nat.le_mul_of_pos_right len hpos) (Nat.le_trans hle bJ)⟩ hvl (by
    intro w' Y' hk hb;refine jo.chunks len (owZ nn cs0) 0 ?_ (by rw[UE];exact(Py _ _ _ hpur).1) ah;rw[jo.iff];intro i p hi;obtain⟨v,hv,hp'⟩:=hr2.get? hi;exact⟨v,by rw[cell_of_block hb];simpa using hv,hk _ _ hp'⟩)
   rw[hch] at U;exact⟨_,_,_,_,Y2,σ2,h,.inl hrun,by simp only[jJ,uH];exact H2,U,g⟩
   exact h.elim
   exact hE h
   exact h.elim
 exact h.elim
include hT H hlk hid in
theorem agj {args:Array Operand}{ts:Array TypeId}{t u:TypeId}{tl:List TypeId}{b r m c:Nat}(ho:o.op=.call { callee:=.builtin .append,args:=args,argTypes:=ts })(he:evA T ps args.toList=[.os b r m,.os c 0 1])(ht:ts.toList=t::u::tl)
  (h:ahl T (iW.jI P T) t u b r m c lk id K):qG P C o a w σ ps st n id K:=by
 have hargs:=vM H args.toList;unfold ahl at h;generalize hvs:args.toList.map a.eval=vs at hargs;rw[he] at hargs;obtain⟨sv,xv,rfl,hs,hx⟩:=PD hargs;have ht':=SH ht;subst ht'
 split at h
 ·rename_i a1 s1 z1 p1 esz bytes z a2 s2 z2 p2 k1 k2 k3 e1 e2;obtain⟨et,hu,rfl,rfl,hz⟩:=nJ hT e1;obtain⟨eu,hu2,_⟩:=nJ hT e2
  split at h
  ·rename_i sz rows sz' row hbk hck
   cases hb:(lX (P.cellsOf et)&&Nat.beq (oG z) (P.cellsOf et)&&Nat.beq sz (P.cellsOf et)&&Nat.beq sz' (P.cellsOf et)&&(bif Nat.beq b c then false else bif Nat.beq b id then false else bif Nat.beq c id then false else true)) with
   | false=>rw[hb] at h;exact h.elim
   | true=>
    rw[hb] at h;simp only[cond_true] at h;rw[Bool.and_eq_true,Bool.and_eq_true,Bool.and_eq_true,Bool.and_eq_true,vK] at hb;obtain⟨⟨⟨⟨hb1,hb2⟩,hb3⟩,hb4⟩,g⟩:=hb;have hinf:=lu hb1;have hzl:=Nat.eq_of_beq_eq_true hb2;have hsz:=Nat.eq_of_beq_eq_true hb3;have hsz':=Nat.eq_of_beq_eq_true hb4;subst hsz hsz'
    have hne:b≠c/\b≠id/\c≠id:=by
     refine⟨λe=>?_,λe=>?_,λe=>?_⟩
     subst e;rw[Nat.beq_refl] at g;cases g
     subst e;rw[Nat.beq_refl] at g;cases hq:Nat.beq b c<;>rw[hq] at g<;>cases g
     subst e;rw[Nat.beq_refl] at g;cases hq:Nat.beq b c<;>rw[hq] at g<;>(first|cases g|(cases hq2:Nat.beq b c<;>simp_all))
    have hpos:0<P.cellsOf et:=by
     rcases Nat.eq_zero_or_pos (P.cellsOf et) with h0|h0
     rw[h0] at hb1;simp[lX] at hb1
     exact h0
    cases hi:P.info? et with
    | none=>exact absurd hi hinf
    | some inf=>
    have hbe:=Ox hi;obtain⟨g1,g2,h⟩:=h;have g1:(2*(m+1)+192)*P.bytesOf et<=140737488355328:=g1;have g2:m+1<=4611686018427387904:=g2;have h:K (.os id 0 (m+1)) [(b,none),(c,none),(id,some (.mg (P.cellsOf et) ((rows.drop r).take m++[row])))]:=h;have hst:=hlk _ _ hbk;have hsc:=hlk _ _ hck
    obtain⟨lc,capc,hlc,rfl,_,_,_⟩:∃ l cap,σ c=some l/\xv=.slice (some ⟨l.cb,l.co+0*l.sz,none⟩) 1 cap/\1<=cap/\l.co+0*l.sz+cap*l.sz=l.tot/\0+1<=l.nr:=by
     unfold Rep at hx;rcases hx with ⟨l,cap,h1,h2,h3,h4,h5⟩|⟨h0,_⟩
     exact⟨l,cap,h1,h2,h3.1,h4,h5⟩
     cases h0
    have hBc:gW w Y σ lc (.mg (P.cellsOf et) [row]):=gW.yR H hlk hck hlc;unfold gW at hBc;obtain⟨_,_,_,_,hrowc,_⟩:=hBc;obtain⟨vs,⟨v1,hone⟩,v2,htr⟩:=hrowc.vals
    have hvs2:vs.length=1*P.cellsOf et/\(vs=[]\/∃ b o,some (⟨lc.cb,lc.co+0*lc.sz,none⟩:Addr)=some ⟨b,o,none⟩/\∀ i v,vs[i]?=some v->w.cell? ⟨b,o+i,none⟩=some v) :=
     ⟨by simpa using v1,.inr ⟨lc.cb,lc.co+0*lc.sz,rfl,by simpa using v2⟩⟩
    have look:∀ (x:mO) d y,jk (oH (oH (oH st b none) c none) id (some x)) d=some y->(d=id/\y=x)\/(d≠id/\d≠b/\d≠c/\jk st d=some y):=by
     intro x d y hy;rw[iQ] at hy
     by_cases h1:id=d
     rw[if_pos h1] at hy;cases hy;exact .inl ⟨h1.symm,rfl⟩
     rw[if_neg h1,iQ] at hy
     by_cases h2:c=d
     rw[if_pos h2] at hy;cases hy
     rw[if_neg h2,iQ] at hy
     by_cases h3:b=d
     rw[if_pos h3] at hy;cases hy
     rw[if_neg h3] at hy;exact .inr ⟨λe=>h1 e.symm,λe=>h3 e.symm,λe=>h2 e.symm,hy⟩
    let R:Nat->Nat->Nat->Nat->Prop:=λd k d0 k0=>(d=id/\d0=b/\k0=r+k/\k<((rows.drop r).take m).length)\/(d=id/\d0=c/\k0=0/\k=((rows.drop r).take m).length)\/(d≠id/\d≠b/\d≠c/\d0=d/\k0=k)
    have hRi:∀ d k d' k' d0 k0,R d k d0 k0->R d' k' d0 k0->d=d'/\k=k':=by
     intro d k d' k' d0 k0 h1 h2;have hn1:=hne.1;rcases h1 with ⟨a1,a2,a3,a4⟩|⟨a1,a2,a3,a4⟩|⟨a1,a2,a3,a4,a5⟩<;>rcases h2 with ⟨c1,c2,c3,c4⟩|⟨c1,c2,c3,c4⟩|⟨c1,c2,c3,c4,c5⟩<;>first|(exact⟨by omega,by omega⟩)|(exfalso;omega)
    have hRo:∀ d k j h' s2 es,ni (oH (oH (oH st b none) c none) id (some (.mg (P.cellsOf et) ((rows.drop r).take m++[row])))) d k j h' s2 es->∃ d0 k0,ni st d0 k0 j h' s2 es/\R d k d0 k0:=by
     rintro d k j h' s2 es ⟨sz0,rs,rw0,q1,q2,q3,q4⟩
     rcases look _ _ _ q1 with ⟨e0,e5⟩|⟨e1,e2,e3,e4⟩
     cases e5
     by_cases hk:k<((rows.drop r).take m).length
     rw[List.getElem?_append_left hk] at q2;refine⟨b,r+k,⟨_,rows,rw0,hst,?_,q3,q4⟩,.inl ⟨e0,rfl,rfl,hk⟩⟩;rw[List.getElem?_take,List.getElem?_drop] at q2
     split at q2
     exact q2
     cases q2
     rw[List.getElem?_append_right ah] at q2
     have hk2:k=((rows.drop r).take m).length:=by
      by_cases hh:k-((rows.drop r).take m).length=0
      omega
      obtain⟨i,hi2⟩:∃ i,k-((rows.drop r).take m).length=i+1:=⟨_,(Nat.succ_pred_eq_of_ne_zero hh).symm⟩;rw[hi2] at q2;simp at q2
     refine⟨c,0,⟨_,[row],rw0,hsc,?_,q3,q4⟩,.inr (.inl ⟨e0,rfl,rfl,hk2⟩)⟩;rw[hk2] at q2;simpa using q2
     exact⟨d,k,⟨sz0,rs,rw0,e4,q2,q3,q4⟩,.inr (.inr ⟨e1,e2,e3,rfl,rfl⟩)⟩
    have hml' : ((rows.drop r).take m++[row]).length=((rows.drop r).take m).length+1:=by simp
    have hB' : (∃ l,σ b=some l/\gW w Y σ l (.arr false (P.cellsOf et) rows))\/(σ b=none/\Emp (.arr false (P.cellsOf et) rows)):=by
     rcases H.store.blk b _ hst with ⟨U,hlb,hB⟩|⟨hn,e0⟩
     refine .inl ⟨U,hlb,?_⟩;unfold gW at hB |-;exact⟨hB.1,hB.2.1,hB.2.2.1,hB.2.2.2.1,hB.2.2.2.2.1,λ_=>hB.2.2.2.2.2,λe=>by cases e⟩
     cases e0;exact .inr ⟨hn,.arr _ _⟩
    obtain⟨sx,cap,rfl,hmc,hml,hr⟩:=G9 hs hB'
    by_cases I:m+1<=cap
     
    unfold Rep at hs;rcases hs with ⟨U,cap',hlb,e,⟨_,hc63⟩,htot,hnr⟩|⟨rfl,sx',e⟩
    cases e
    have hB:gW w Y σ U (.mg (P.cellsOf et) rows):=by
     rcases H.store.blk b _ hst with ⟨l',J,hh⟩|⟨hn,_⟩
     rw[hlb] at J;cases J;exact hh
     rw[hlb] at hn;cases hn
    unfold gW at hB;obtain⟨⟨arr,tyb,ha,has⟩,hlsz,_,⟨hle,hlnr⟩,hrows,hm⟩:=hB;rw[hlsz] at htot
    have hbnd:U.co+r*P.cellsOf et+(m+1)*P.cellsOf et<=arr.size:=by
     rw[has,<- htot];have:=Nat.mul_le_mul_right (P.cellsOf et) I;omega
    obtain⟨w',hrun,W⟩:=uI (P:=P) (o:=U.co+r*P.cellsOf et+m*P.cellsOf et) vs 0 w arr ha dK hone;have W:Wrote w w' U.cb (U.co+r*P.cellsOf et+m*P.cellsOf et) arr tyb vs:=by simpa using W
    obtain⟨arr',h4,h5,h6⟩:=W.blk
    obtain⟨σ',H',hid',hoff⟩:=H.aaU hid (x':=.arr false (P.cellsOf et) ((rows.drop r).take m++[row])) (l':=⟨U.cb,U.co+r*P.cellsOf et,P.cellsOf et,U.tot,m+1⟩) hst (λ_ _ e=>by cases e) hlb hm rfl W.os W.tape W.output W.size W.other (by
     intro σ' _ hk;unfold gW;refine⟨⟨arr',tyb,h4,by rw[h5,has]⟩,rfl,hpos,⟨by rw[hml',<- hml];show U.co+r*P.cellsOf et+(m+1)*P.cellsOf et<=U.tot;omega,by rw[hml',<- hml]⟩,?_,λ_=>hm,λh=>by cases h⟩;refine jw.app _ _ _ ?_ ?_
     obtain⟨us,⟨u1,_⟩,u2,u3⟩:=((hrows.drop r _ _).take m _ _).vals;refine u3 w' Y iU U.cb _ hk (λi v hv=>?_);have hc:=u2 i v hv;rw[cell_of_block ha] at hc
     have hilt:i<us.length:=by
      by_cases hh:i<us.length
      exact hh
      rw[List.getElem?_eq_none (Nat.le_of_not_lt hh)] at hv;cases hv
     rw[u1,<- hml] at hilt;show w'.cell? ⟨U.cb,U.co+r*P.cellsOf et+i,none⟩=some v;rw[cell_of_block h4,h6,if_neg ah];exact hc
     refine htr w' Y iU U.cb _ hk (λi v hv=>?_)
     have hilt:i<vs.length:=by
      by_cases hh:i<vs.length
      exact hh
      rw[List.getElem?_eq_none (Nat.le_of_not_lt hh)] at hv;cases hv
     show w'.cell? ⟨U.cb,U.co+r*P.cellsOf et+((rows.drop r).take m).length*P.cellsOf et+i,none⟩=some v;rw[<- hml,cell_of_block h4,h6,if_pos ah];rw[show U.co+r*P.cellsOf et+m*P.cellsOf et+i-(U.co+r*P.cellsOf et+m*P.cellsOf et)=i by omega];exact hv)
    have H2:SW C w' Y σ' ps a.tmps.toList (oH (oH (oH st b none) c none) id (some (.mg (P.cellsOf et) ((rows.drop r).take m++[row])))) (max n (id+1)):=by
     have K0:Keep w w' Y Y iU iU:=⟨λk _ hy=>W.other k (λe=>hy (e ▸ hm)),λ_ _ h=>h,Nat.le_of_eq W.size.symm,oq.refl _⟩;have notl:∀ {b' r' c' h' sz2 es'},ni st b' r' c' h' sz2 es'->h'.ν≠U.cb:=λhh=>(H.nest.sep _ _ _ _ _ _ _ _ _ hh hst hlb).symm;refine H'.retag (λd x hx=>?_) (H.nest.re R hRo hRi (λ_ _ _ _ _ _ hh hN=>hN.keep K0 (W.other _ (notl hh)) (λh=>h)) λd k j h' s2 es d' x l' hh hx J=>?_)
     rcases look _ _ _ hx with ⟨rfl,rfl⟩|⟨e1,e2,e3,e4⟩
     exact⟨_,by rw[iQ,if_pos rfl],.inr ⟨_,_,_,rfl,rfl,hid'⟩⟩
     exact⟨x,by rw[iQ,if_neg (λe=>e1 e.symm),iQ,if_neg (λe=>e2 e.symm)];exact e4,.inl rfl⟩
     rcases look _ _ _ hx with ⟨rfl,rfl⟩|⟨e1,e2,e3,e4⟩
     rw[hid'] at J;cases J;show U.cb≠_;exact H.nest.sep _ _ _ _ _ _ _ _ U hh hst hlb
     exact H.nest.sep _ _ _ _ _ _ _ _ _ hh e4 (by rw[<- hoff d' e1];exact J)
    refine rV ho (δ:=_) (cv:=.slice (some ⟨U.cb,U.co+r*U.sz,none⟩) (m+1) cap) (w':=w') (Y':=Y) (σ':=σ') (λty cs=>?_) (by simp only[jJ,uH];exact H2) ?_ hoff h
    rw[hvs];have:=JE (P:=P) (w:=w) (ts:=tl) (ty:=ty) (x:=some ⟨U.cb,U.co+r*U.sz,none⟩) (sl:=m) (sc:=cap) (yc:=capc) (w':=w') hu hu2 hinf hvs2 I (λb o e=>by cases e;rw[hlsz];exact hrun) (λh=>by cases h) (λa h=>by cases h;rfl);simp only[builtin,Sem.run_bind];rw[this];rfl
    unfold Rep;refine .inl ⟨_,cap,hid',?_,⟨I,hc63⟩,?_,?_⟩
    rw[hlsz];simp
    simp;omega
    show 0+(m+1)<=m+1;omega
    cases e;omega
     
    have hold:∃ us:List Value,(us.length=m*P.cellsOf et/\(us=[]\/∃ b o,sx=some ⟨b,o,none⟩/\∀ i v,us[i]?=some v->w.cell? ⟨b,o+i,none⟩=some v)) /\
      (∀ (w' : World) (Y' : Nat->Prop) (b' o' : Nat),(∀ p v,Rep w Y iU p v->Rep w' Y' iU p v)->(∀ i v,us[i]?=some v->w'.cell? ⟨b',o'+i,none⟩=some v)->jw w' Y' iU b' (P.cellsOf et) ((rows.drop r).take m) o'):=by
     rcases hr with hr|⟨b',o',e,_,_,hr⟩
     rw[hr] at hml |-;refine⟨[],⟨by rw[hml];simp,.inl rfl⟩,λ_ _ _ _ _ _=>by simp[jw]⟩
     obtain⟨us,⟨u1,_⟩,u2,u3⟩:=hr.vals;exact⟨us,⟨by rw[u1,<- hml],.inr ⟨b',o',e,u2⟩⟩,λw' Y' b' o' hk hc=>u3 w' Y' iU b' o' hk hc⟩
    obtain⟨us,hus,hutr⟩:=hold
    obtain⟨cv,w',Y',σ',hrun,H',hrep,hoff⟩:=JD (P:=P) (a:=a) (ty:=0) (x:=sx) (sc:=cap) (us:=us) (vs:=vs) (old:=(rows.drop r).take m) (new:=[row]) (ts:=tl) (yc:=capc) H hid hu hu2 hi hz.symm hpos hzl (sl:=m) hus hvs2 hml rfl
     (λw' Y' b' hk hc=>by
      refine jw.app _ _ _ (hutr w' Y' b' 0 hk (λi v hv=>hc i v ?_)) (htr w' Y' iU b' _ hk (λi v hv=>?_))
      rw[List.getElem?_append_left]
      exact hv
      by_cases hh:i<us.length
      exact hh
      rw[List.getElem?_eq_none (Nat.le_of_not_lt hh)] at hv;cases hv
      have:=hc (us.length+i) v bT;rw[hus.1] at this;rw[<- hml];simpa using this) I fG g2
    have hidl:∃ l,σ' id=some l:=by
     unfold Rep at hrep;rcases hrep with ⟨l,_,hl,_⟩|⟨h0,_⟩
     exact⟨l,hl⟩
     simp at h0
    obtain⟨lid,hlid⟩:=hidl
    have up:∀ {d k j h' s2 es},ni st d k j h' s2 es->ni (oH st id (some (.arr false (P.cellsOf et) ((rows.drop r).take m++[row])))) d k j h' s2 es\/d=id:=by
     rintro d k j h' s2 es ⟨sz0,rs,rw0,q1,q2⟩
     by_cases hd:d=id
     exact .inr hd
     exact .inl ⟨sz0,rs,rw0,by rw[iQ,if_neg (λe=>hd e.symm)];exact q1,q2⟩
    have hst1:∀ d x,d≠id->jk st d=some x->jk (oH st id (some (.arr false (P.cellsOf et) ((rows.drop r).take m++[row])))) d=some x:=λd x hd hx=>by rw[iQ,if_neg (λe=>hd e.symm)];exact hx
    have hRo' : ∀ d k j h' s2 es,ni (oH (oH (oH st b none) c none) id (some (.mg (P.cellsOf et) ((rows.drop r).take m++[row])))) d k j h' s2 es->∃ d0 k0,ni (oH st id (some (.arr false (P.cellsOf et) ((rows.drop r).take m++[row])))) d0 k0 j h' s2 es/\R d k d0 k0:=by
     intro d k j h' s2 es hh;obtain⟨d0,k0,q1,q2⟩:=hRo _ _ _ _ _ _ hh;refine⟨d0,k0,(up q1).resolve_right λe=>?_,q2⟩;rcases q2 with ⟨_,q,_⟩|⟨_,q,_⟩|⟨q0,_,_,q,_⟩
     exact hne.2.1 (q ▸ e)
     exact hne.2.2 (q ▸ e)
     exact q0 (q ▸ e)
    have H2:SW C w' Y' σ' ps a.tmps.toList (oH (oH (oH st b none) c none) id (some (.mg (P.cellsOf et) ((rows.drop r).take m++[row])))) (max n (id+1)):=by
     refine H'.retag (λd x hx=>?_) (H'.nest.re R hRo' hRi (λ_ _ _ _ _ _ _ hN=>hN) λd k j h' s2 es d' x l' hh hx J=>?_)
     rcases look _ _ _ hx with ⟨rfl,rfl⟩|⟨e1,e2,e3,e4⟩
     exact⟨_,by rw[iQ,if_pos rfl],.inr ⟨_,_,lid,rfl,rfl,hlid⟩⟩
     exact⟨x,hst1 _ _ e1 e4,.inl rfl⟩
     rcases look _ _ _ hx with ⟨rfl,rfl⟩|⟨e1,e2,e3,e4⟩
     exact H'.nest.sep _ _ _ _ _ _ _ _ _ hh eX J
     exact H'.nest.sep _ _ _ _ _ _ _ _ _ hh (hst1 _ _ e1 e4) J
    refine rV ho (δ:=_) (cv:=cv) (w':=w') (Y':=Y') (σ':=σ') (λty' cs=>?_) (by simp only[jJ,uH];exact H2) (by rw[<- hml] at hrep;exact hrep) hoff h;rw[hvs];simp only[builtin,Sem.run_bind];have:Builtin.append_ (t::u::tl).toArray ty' [Value.slice sx m cap,Value.slice (some ⟨lc.cb,lc.co+0*lc.sz,none⟩) 1 capc].toArray=Builtin.append_ (t::u::tl).toArray 0 #[Value.slice sx m cap,Value.slice (some ⟨lc.cb,lc.co+0*lc.sz,none⟩) [row].length capc]:=rfl
    erw [this,hrun]
    rfl
  exact h.elim
 exact h.elim
end
end Go.Pv
