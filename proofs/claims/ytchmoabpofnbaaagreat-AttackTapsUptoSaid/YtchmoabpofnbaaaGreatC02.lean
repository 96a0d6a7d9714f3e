import Derived.Lib.ConvBytes
import Derived.Laws.BytesString
import Derived.Test.YtchmoabpofnbaaaGreatC01
set_option linter.all false
namespace Go.Pv
open Go
theorem Qr {w:World}{Y:Nat->Prop}{σ:Sg}(place:Nat->Option (Nat×Nat)):∀ (parts:List (Nat×PV)) (J:List (Nat×Value)) (cells:List PV) (T:Array Value) (cs:List PV),
  (parts.length=J.length/\∀ (i:Nat) (p:Nat×PV) (v:Nat×Value),parts[i]?=some p->J[i]?=some v->p.1=v.1/\Rep w Y σ p.2 v.2) ->
  eU w Y σ cells T.toList->JR place cells parts=some cs->(∀ p∈parts,p.2≠.top)->∃ vcs:Array Value,Instr.fill place T J=some vcs/\eU w Y σ cs vcs.toList
 | [],J,cells,T,cs,I,hc,h,_=>by
  have:J=[]:=by grind
  subst this;simp[JR] at h;subst h;exact⟨T,rfl,hc⟩
 | (i,p)::parts,[],cells,T,cs,I,hc,h,_=>by simp at I
 | (i,p)::parts,(j,v)::J,cells,T,cs,I,hc,h,hnt=>by
  obtain⟨hl,I⟩:=I;have h0:=I 0 _ _ rfl rfl;simp only at h0;obtain⟨rfl,hrep⟩:=h0;simp only[JR] at h;simp only[Instr.fill]
  split at h
  cases h
  rename_i off size hpl;rw[hpl];simp only
  cases g:(Nat.beq (nN (lJ p)) size&&Nat.ble (off+size) (nN cells)) with
  | false=>grind
  | true=>
   rw[g] at h;simp only[cond_true] at h;simp only[Bool.and_eq_true,vK] at g;have h1:=Nat.eq_of_beq_eq_true g.1;have h2:=Nat.le_of_ble_eq_true g.2;have t:=VH hrep (hnt (i,p) aF);have hlen:=t.length;have hlen2:=hc.length;rw[Array.length_toList] at hlen hlen2
   have C:¬ (v.cells.size≠size || decide (off+v.cells.size > T.size))=true:=by
    simp;omega
   rw[if_neg C]
   have key:∀ (ps:List PV) (us:List Value) (k:Nat) (cells:List PV) (T:Array Value),eU w Y σ ps us->eU w Y σ cells T.toList ->
     eU w Y σ (lZ cells (off+k) ps) ((us.zipIdx k).foldl (λcs (x:Value×Nat)=>cs.setIfInBounds (off+x.2) x.1) T).toList:=by
    intro ps
    induction ps with
    | nil=>simp_all[eU,lZ]
    | cons q ps ih=>
     intro us k cells T h1 h2;unfold eU at h1;obtain⟨u,us',rfl,h1,h3⟩:=h1
     have:=ih us' (k+1) (nC cells (off+k) q) (T.setIfInBounds (off+k) u) h3 (by
      grind[eU.set])
     have e:lZ cells (off+k) (q::ps)=lZ (nC cells (off+k) q) (off+(k+1)) ps:=by cases cells<;>rfl
     simp_all
   refine Qr place parts J _ _ cs ⟨by simpa using hl,λn p' v' e1 e2=>I (n+1) p' v' (by simpa using e1) (by simpa using e2)⟩ ?_ h (λp I=>hnt p (by simp[I]));have:=key (lJ p) v.cells.toList 0 cells T t hc
   have e:v.cells.zipIdx.foldl (λcs (x:Value×Nat)=>cs.setIfInBounds (off+x.2) x.1) T=(v.cells.toList.zipIdx 0).foldl (λcs (x:Value×Nat)=>cs.setIfInBounds (off+x.2) x.1) T:=by
    grind[Array.toList_zipIdx]
   grind
theorem VJ {T:Tab}{C:Ctx T}{w:World}{Y:Nat->Prop}{σ:Sg}{ps:List PV}{a:Act}{st:St}{n:Nat}(h:SW C w Y σ ps a.tmps.toList st n):∀ (l:List (Nat×Operand)),
  (evP T ps l).length=(l.map λx=>(x.1,a.eval x.2)).length/\∀ (i:Nat) (p:Nat×PV) (v:Nat×Value),(evP T ps l)[i]?=some p->(l.map λx=>(x.1,a.eval x.2))[i]?=some v->p.1=v.1/\Rep w Y σ p.2 v.2
 | []=>by simp[evP]
 | (j,x)::l=>by
  obtain⟨h1,h2⟩:=VJ h l;refine⟨by simp[evP,h1],λi p v e1 J=>?_⟩
  cases i with
  | zero=>simp[evP] at e1 J;subst e1;subst J;exact⟨rfl,kJ h x⟩
  | succ i=>grind[evP]
theorem KO:∀ l,ES l=true->∀ p∈l,p.2≠PV.top
 | [],_,p,hp=>by simp at hp
 | (i,q)::l,h,p,hp=>by
  have J:q≠.top:=by grind[ES]
  have T:ES l=true:=by simp_all[ES]
  rcases List.mem_cons.1 hp with rfl|hp
  exact J
  exact KO l T p hp
end Go.Pv
namespace Go.Pv
open Go
theorem PG:∀ (δ:Dl) (st:St) (e:Nat×Option lI),jf (δ++[e]) st=nD (jf δ st) e.1 e.2
 | [],_,_=>rfl
 | d::δ,st,e=>by simp only[List.cons_append,jf];exact PG δ _ e
theorem aew (δ:Dl)(e:Nat×Option lI)(n id:Nat):uI (δ++[e]) n id=max n (id+1):=by cases δ<;>rfl
theorem xu:∀ (n:Nat) (l:List PV),(Pj n l).length=n*l.length
 | 0,l=>by simp[Pj]
 | n+1,l=>by simp[Pj,xu n l,Nat.add_mul];omega
theorem aaL:∀ (n:Nat) (l:List PV) (i:Nat),i<n*l.length->(Pj n l)[i]?=l[i % l.length]?
 | 0,l,i,h=>by simp at h
 | n+1,l,i,h=>by
  simp only[Pj,YI]
  by_cases h1:i<l.length
  grind[Nat.mod_eq_of_lt]
  rw[List.getElem?_append_right ae,aaL n l (i-l.length) ak]
  grind[Nat.mod_eq_sub_mod]
theorem wB (sz:Nat):∀ (n:Nat) (l:List PV),(chunks sz n l).length=n
 | 0,_=>rfl
 | n+1,l=>by simp[chunks,wB sz n]
theorem iG.chunks {w:World}{Y:Nat->Prop}{σ:Sg}{b sz:Nat}:∀ (n:Nat) (l:List PV) (o:Nat),iG w Y σ b l o->gW l=true->n*sz<=l.length->iQ w Y σ b sz (chunks sz n l) o
 | 0,l,o,_,_,_=>by simp[Pv.chunks,iQ]
 | n+1,l,o,h,ha,hle=>by
  rw[Nat.add_mul] at hle;simp only[Pv.chunks,MP,yL];unfold iQ;refine⟨⟨by simp;omega,?_⟩,h.take sz _ _,iG.chunks n _ _ (h.drop sz _ _) ?_ aY⟩<;>grind[tu]
theorem JX (place:Nat->Option (Nat×Nat)):∀ (parts:List (Nat×PV)) (cells cs:List PV),JR place cells parts=some cs->cs.length=cells.length
 | [],cells,cs,h=>by grind[JR]
 | (i,v)::parts,cells,cs,h=>by
  simp only[JR] at h
  split at h
  cases h
  rename_i off size _
  cases T:(Nat.beq (nN (lJ v)) size&&Nat.ble (off+size) (nN cells)) with
  | false=>grind
  | true=>
   rw[T] at h;rw[JX place parts _ cs h,xq]
theorem U0 {S:gV}{lk:Nat->Option lI}:∀ (ps T : List PV) (δ:Dl),pur S lk ps=some (T,δ)->T.length=ps.length
 | [],T,δ,h=>by grind[pur]
 | p::ps,T,δ,h=>by
  unfold pur at h
  cases J:pur S lk ps with
  | none=>grind
  | some r=>
   obtain⟨qs,d⟩:=r;rw[J] at h;simp only at h;have I:=U0 ps qs d J
   grind
theorem Qs {S:gV}{lk:Nat->Option lI}(ps T : List PV)(δ:Dl)(h:pur S lk ps=some (T,δ)):gW T=true/\gW ps=true:=Oc ps T δ h
section
variable {P:Program}{T:Tab}(hT:iK P T){C:Ctx T}{o:Oper}{a:Act}{w:World}{Y:Nat->Prop}{σ:Sg}{ps:List PV}{st:St}{n id:Nat}{K:PV->Dl->Prop}{lk:Nat->Option lI}
 (H:SW C w Y σ ps a.tmps.toList st n) (hlk:∀ b x,lk b=some x->iH st b=some x) (hid:σ id=none/\T.oZ<=id) (hU:OZ P)
include hT H in
theorem afM {t:TypeId}{parts:Array (Nat×Operand)}(ho:o.op=.build t parts)(hall:∀ fs:Array Field,P.underlying t=some (.struct fs)->∀ f∈fs.toList,P.info? f.type≠none)
  (helem:∀ k e,P.underlying t=some (.array k e)->P.info? e≠none) (h:nV T (gV.jd P T) (.build t parts) ps lk id K):qh P C o a w σ ps st n id K:=by
 have hp:=VJ H parts.toList;have hparts:(parts.map λ(x:Nat×Operand)=>(x.1,a.eval x.2)).toList=parts.toList.map λx=>(x.1,a.eval x.2):=by simp
 simp only[nV] at h
 split at h
 rename_i agg size z plain fs e;obtain⟨fl,hu,rfl,hz⟩:=Pz hT e;obtain⟨zv,hzr,I⟩:=GI hz.symm
 cases hb:ES (evP T ps parts.toList) with
 | false=>rw[hb] at h;exact h.elim
 | true=>
  rw[hb] at h;simp only[cond_true] at h
  split at h
  rename_i cs U;have hinf:=hall fl hu
  have places:(fl.mapM λf=>(do pure (f.offset,<- sizeOf f.type):Sem (Nat×Nat))).run P w=.ok (fl.map λf=>(f.offset,P.cellsOf f.type)) w:=by
   have key:∀ (l:List Field),(∀ f∈l,P.info? f.type≠none)->(l.mapM λf=>(do pure (f.offset,<- sizeOf f.type):Sem (Nat×Nat))).run P w=.ok (l.map λf=>(f.offset,P.cellsOf f.type)) w:=by
    intro l
    induction l with
    | nil=>intro _;simp
    | cons f l ih=>
     intro hl;rw[List.mapM_cons];simp only[Sem.run_bind,run_sizeOf (hl f aF),Result.andThen,Sem.run_pure,ih (λg hg=>hl g (by simp[hg]))];simp
   rw[Array.mapM_eq_mapM_toList];simp only[Sem.run_bind,map_eq_pure_bind];rw[key fl.toList hinf];simp only[Result.andThen,Sem.run_pure]
   congr 1
   apply Array.ext';simp
  obtain⟨vcs,J,hrep⟩:=Qr (w:=w) (Y:=Y) (σ:=σ) _ (evP T ps parts.toList) (parts.toList.map λx=>(x.1,a.eval x.2)) z zv.cells cs hp (I w Y σ) U (KO _ hb)
  have hplace:Vr (fl.toList.map λf=>({ off:=f.offset,size:=P.cellsOf f.type,agg:=kK P f.type }:FI))=((fl.map λf=>(f.offset,P.cellsOf f.type))[·]?):=by
   funext i
   unfold Vr;rw[KL,List.getElem?_map,Array.getElem?_map,<- Array.getElem?_toList];cases fl.toList[i]?<;>rfl
  rw[hplace] at J;refine qh.quiet H (cv:=.agg vcs) ?_ (by unfold Rep;exact⟨vcs.toList,by simp,hrep⟩) h;simp only[execOp,ho,Instr.build,Sem.run_bind,hzr,Result.andThen,kD hu,places,hparts,J];simp
  exact h.elim
 rename_i agg size z plain k esz ag e;obtain⟨et,hu,rfl,_,hz⟩:=Ql hT e;obtain⟨zv,hzr,I⟩:=GI hz.symm
 cases hb:ES (evP T ps parts.toList) with
 | false=>rw[hb] at h;exact h.elim
 | true=>
  rw[hb] at h;simp only[cond_true] at h
  split at h
  rename_i cs U;obtain⟨vcs,J,hrep⟩:=Qr (w:=w) (Y:=Y) (σ:=σ) _ (evP T ps parts.toList) (parts.toList.map λx=>(x.1,a.eval x.2)) z zv.cells cs hp (I w Y σ) U (KO _ hb);refine qh.quiet H (cv:=.agg vcs) ?_ (by unfold Rep;exact⟨vcs.toList,by simp,hrep⟩) h;simp only[execOp,ho,Instr.build,Sem.run_bind,hzr,Result.andThen,kD hu,run_sizeOf (helem _ _ hu),hparts,J];simp
  exact h.elim
 exact h.elim
theorem SW.U1 (H:SW C w Y σ ps a.tmps.toList st n)(hid:σ id=none/\T.oZ<=id){arr:Array Value}{rows:List (List PV)}{sz m:Nat}{x:lI}(hx:x=.arr false sz rows\/(x=.lq sz rows/\∀ (r:Nat) (row:List PV) (c:Nat) (h:Hdr) (sz' : Nat) (es:List (List PV)),rows[r]?=some row->row[c]?=some (PV.ow h sz' es)->h.cap=0))
  (ty:TypeId) (t:0<sz) (hm:rows.length<=m/\m<=9223372036854775807) (I:arr.size=m*sz)
  (J:∀ (w' : World) (Y' : Nat->Prop),(∀ p v,Rep w Y gJ p v->Rep w' Y' gJ p v)->w'.heap[w.heap.size]?=some (.cells arr ty (0,0))->iQ w' Y' gJ w.heap.size sz rows 0) :
  ∃ Y' σ',SW C (w.alloc (.cells arr ty)) Y' σ' ps a.tmps.toList (nD st id (some x)) (max n (id+1))/\Rep (w.alloc (.cells arr ty)) Y' σ' (.os id 0 rows.length) (.slice (some ⟨w.heap.size,0,none⟩) rows.length m)/\Off id σ σ':=by
 obtain⟨Y',σ',H',hs,_,_,g⟩:=H.alloc hid arr ty ⟨w.heap.size,0,sz,m*sz,rows.length⟩ rfl x (λsz1 rows1 e=>by
  grind) (by
  intro w' Y' σ' _ hY hb hk;have:=Nat.mul_le_mul_right sz hm.1;rcases hx with hx|⟨hx,_⟩<;>subst hx<;>unfold fF
  exact⟨⟨_,ty,hb,I⟩,rfl,t,⟨by simpa using this,rfl⟩,J w' Y' hk hb,λ_=>hY,λh=>by cases h⟩
  exact⟨⟨_,ty,hb,I⟩,rfl,t,⟨by simpa using this,rfl⟩,J w' Y' hk hb,hY⟩)
 refine⟨Y',σ',H',?_,g⟩
 simp_all[Rep]
theorem SW.YU (H:SW C w Y σ ps a.tmps.toList st n)(hid:σ id=none/\T.oZ<=id){arr:Array Value}{rows:List (List PV)}{sz m:Nat}(ty:TypeId)(t:0<sz)(g:rows.length<=m/\m<=9223372036854775807)(I:arr.size=m*sz)
  (J:∀ (w' : World) (Y' : Nat->Prop),(∀ p v,Rep w Y gJ p v->Rep w' Y' gJ p v)->w'.heap[w.heap.size]?=some (.cells arr ty (0,0))->iQ w' Y' gJ w.heap.size sz rows 0) :
  ∃ Y' σ',SW C (w.alloc (.cells arr ty)) Y' σ' ps a.tmps.toList (nD st id (some (.arr false sz rows))) (max n (id+1))/\Rep (w.alloc (.cells arr ty)) Y' σ' (.os id 0 rows.length) (.slice (some ⟨w.heap.size,0,none⟩) rows.length m)/\Off id σ σ' :=
 SW.U1 H hid (.inl rfl) ty t g I J
include hT H in
theorem vY {t:TypeId}{len:Nat}{parts:Array (Nat×Operand)}{z cs:List PV}{et:TypeId}(ho:o.op=.buildSlice t len parts)
  (hu:P.underlying t=some (.slice et)) (hz:some z=Iz P et) (hb1:kR (P.cellsOf et)=true) (C:z.length=P.cellsOf et) (hle:len*P.cellsOf et<=16777216) (hb4:ES (evP T ps parts.toList)=true)
  (U:JR (λi=>some (i*P.cellsOf et,P.cellsOf et)) (Pj len z) (evP T ps parts.toList)=some cs) :
  ∃ vcs:Array Value,eU w Y σ cs vcs.toList/\vcs.size=len*P.cellsOf et/\(execOp a.eval o).run P w=.ok (.value (.slice (some ⟨w.heap.size,0,none⟩) len len)) (w.alloc (.cells vcs et)):=by
 have hp:=VJ H parts.toList;have I:(parts.map λ(x:Nat×Operand)=>(x.1,a.eval x.2)).toList=parts.toList.map λx=>(x.1,a.eval x.2):=by simp
 obtain⟨zv,hzr,hzrep⟩:=GI hz.symm;have hinf:=kE hb1
 have hpos:0<P.cellsOf et:=by
  rcases Nat.eq_zero_or_pos (P.cellsOf et) with h0|h0
  rw[h0] at hb1;simp[kR] at hb1
  exact h0
 let g:Array Value:=if len*P.cellsOf et=0 then #[] else zv.cells
 have hz0:=hzrep w Y σ;have hzsz:zv.cells.size=P.cellsOf et:=by have:=hz0.length;rw[Array.length_toList] at this;omega
 have hvz:(if len*P.cellsOf et=0 then pure #[] else do pure (<- zeroValue et).cells:Sem (Array Value)).run P w=.ok g w:=by
  by_cases h0:len*P.cellsOf et=0
  simp[h0,g]
  simp only[h0,if_false,Sem.run_bind,hzr,Result.andThen,Sem.run_pure,g]
 have hcells:eU w Y σ (Pj len z) ((Array.range (len*P.cellsOf et)).map (g[· % g.size]!)).toList:=by
  by_cases h0:len*P.cellsOf et=0
  have:len=0:=by
   rcases Nat.mul_eq_zero.1 h0 with h|h
   exact h
   omega
  subst this;simp[Pj,eU]
  have hvz' : g=zv.cells:=by simp[g,h0]
  rw[hvz']
  have key:∀ (ps:List PV) (vs:List Value),ps.length=vs.length->(∀ (i:Nat) (p:PV) (v:Value),ps[i]?=some p->vs[i]?=some v->Rep w Y σ p v)->eU w Y σ ps vs:=by
   intro ps
   induction ps with
   | nil=>intro vs hl _;have:vs=[]:=List.eq_nil_of_length_eq_zero (by simpa using hl.symm);subst this;simp[eU]
   | cons p ps ih=>
    intro vs hl hh
    cases vs with
    | nil=>simp at hl
    | cons v vs=>unfold eU;exact⟨v,vs,rfl,hh 0 p v rfl rfl,ih vs (by simpa using hl) (λi p' v' h1 h2=>hh (i+1) p' v' dO dP)⟩
  refine key _ _ (by rw[xu];simp[C]) ?_;intro i p v h1 h2
  have hi:i<len*z.length:=by
   have:i<(Pj len z).length:=by
    by_cases hh:i<(Pj len z).length
    exact hh
    rw[List.getElem?_eq_none (Nat.le_of_not_lt hh)] at h1;cases h1
   rwa [xu] at this
  rw[aaL len z i hi] at h1;have hmod:i % z.length<zv.cells.size:=by rw[hzsz,<- C];exact Nat.mod_lt _ ae
  obtain⟨u,hu1,hu2⟩:=hz0.get? h1
  have:v=u:=by
   simp at h2;obtain⟨i',hi',h2⟩:=h2
   have:i'=i:=by
    rw[List.getElem?_range (by rw[<- C];exact hi)] at hi';exact(Option.some.inj hi').symm
   subst this;rw[<- h2];rw[Array.getElem?_toList] at hu1;rw[hzsz,<- C];simp[getElem!_def,hu1]
  rw[this];exact hu2
 obtain⟨vcs,J,hrep⟩:=Qr (w:=w) (Y:=Y) (σ:=σ) _ (evP T ps parts.toList) (parts.toList.map λx=>(x.1,a.eval x.2)) (Pj len z) _ cs hp hcells U (KO _ hb4)
 have hvl:vcs.size=len*P.cellsOf et:=by
  have:=hrep.length;rw[Array.length_toList,JX _ _ _ _ U,xu,C] at this;omega
 refine⟨vcs,hrep,hvl,?_⟩;simp only[execOp,ho,Instr.buildSlice,Sem.run_bind,kD hu,Result.andThen,run_sizeOf hinf];rw[if_neg ae]
 by_cases h0:len*P.cellsOf et=0
 have hv0:g=#[]:=by simp[g,h0]
 rw[hv0] at J;simp only[h0,if_true,Sem.run_bind,Sem.run_pure,Result.andThen,I] at J |-;rw[J];simp[newRow,newObj,Sem.run,Result.andThen]
 have hv0:g=zv.cells:=by simp[g,h0]
 rw[hv0] at J;simp only[h0,if_false,Sem.run_bind,hzr,Sem.run_pure,Result.andThen,I] at J |-;rw[J];simp[newRow,newObj,Sem.run,Result.andThen]
include hT H hlk hid in
theorem Xj {t:TypeId}{len:Nat}{parts:Array (Nat×Operand)}(ho:o.op=.buildSlice t len parts)(h:nV T (gV.jd P T) (.buildSlice t len parts) ps lk id K):qh P C o a w σ ps st n id K:=by
 simp only[nV] at h
 split at h
 rename_i agg size z0 plain esz bytes z e;obtain⟨et,hu,rfl,_,hz⟩:=l7 hT e
 cases hb:(kR (P.cellsOf et)&&Nat.beq (nN z) (P.cellsOf et)&&Nat.ble (len*P.cellsOf et) 16777216&&ES (evP T ps parts.toList)) with
 | false=>rw[hb] at h;exact h.elim
 | true=>
  rw[hb] at h;simp only[cond_true] at h;simp only[Bool.and_eq_true,vK] at hb;obtain⟨⟨⟨g,hb2⟩,hb3⟩,hb4⟩:=hb;have hinf:=kE g
  have hpos:0<P.cellsOf et:=by
   rcases Nat.eq_zero_or_pos (P.cellsOf et) with h0|h0
   rw[h0] at g;simp[kR] at g
   exact h0
  have hzl:=Nat.eq_of_beq_eq_true hb2;have hle:=Nat.le_of_ble_eq_true hb3
  split at h
  rename_i cs U
  split at h
  rename_i cs0 δ J;obtain⟨cs',hl2,hc2,hw2,h,_⟩:=AB h;obtain⟨vcs,hrep,hvl,hrun⟩:=vY hT H ho hu hz g hzl hle hb4 U;have hLk:Lk lk st:=λb ro sz rows h=>⟨ro,hlk _ _ h⟩
  obtain⟨Y1,H1,hr1,hy1⟩:=F9 cs cs0 δ J Y st H hLk _ hrep;have hr1:=hw2 _ _ _ _ hr1;have hcsl:cs'.length=len*P.cellsOf et:=by rw[hl2,U0 _ _ _ J,JX _ _ _ _ U,xu,hzl]
  have hch:(chunks (P.cellsOf et) len cs').length=len:=wB _ _ _
  obtain⟨Y2,σ2,H2,I,hoff⟩:=SW.YU (a:=a) (m:=len) (arr:=vcs) (rows:=chunks (P.cellsOf et) len cs') H1 hid et hpos ⟨by omega,Nat.le_trans (Nat.le_mul_of_pos_right len hpos) (Nat.le_trans hle aU)⟩ hvl (by
   intro w' Y' hk hb;refine iG.chunks len cs' 0 ?_ (hc2 (Qs _ _ _ J).1) ae;rw[iG.iff];intro i p hi;obtain⟨v,hv,hp'⟩:=hr1.get? hi;exact⟨v,by rw[cell_of_block hb];simpa using hv,hk _ _ hp'⟩)
  rw[hch] at I;refine⟨_,_,_,_,Y2,σ2,h,.inl ?_,by rw[PG,aew];exact H2,I,hoff⟩;exact hrun
  exact h.elim
  exact h.elim
 exact h.elim
end
end Go.Pv
namespace Go.Pv
open Go
section
variable {P:Program}{T:Tab}(hT:iK P T){C:Ctx T}{o:Oper}{a:Act}{w:World}{Y:Nat->Prop}{σ:Sg}{ps:List PV}{st:St}{n id:Nat}{K:PV->Dl->Prop}{lk:Nat->Option lI}
 (H:SW C w Y σ ps a.tmps.toList st n) (hlk:∀ b x,lk b=some x->iH st b=some x) (hid:σ id=none/\T.oZ<=id) (hU:OZ P)
theorem eU.Fa {w:World}{Y:Nat->Prop}{σ:Sg}:∀ (ps:List PV) (vs:List Value),ps.length=vs.length->(∀ (i:Nat) (p:PV) (v:Value),ps[i]?=some p->vs[i]?=some v->Rep w Y σ p v)->eU w Y σ ps vs
 | [],vs,hl,_=>by grind[eU]
 | p::ps,[],hl,_=>by simp at hl
 | p::ps,v::vs,hl,hh=>by
  unfold eU;exact⟨v,vs,rfl,hh 0 p v rfl rfl,eU.Fa ps vs (by simpa using hl) (λi J T h1 h2=>hh (i+1) J T dO dP)⟩
theorem Fb {P:Program}{w:World}{t:TypeId}{i:TypeInfo}(h:P.info? t=some i):(typeInfo t).run P w=.ok i w:=by
 simp_all[typeInfo]
theorem PH {P:Program}{t:TypeId}{i:TypeInfo}(h:P.info? t=some i):P.bytesOf t=i.bytes:=by simp[Program.bytesOf,h]
theorem wrap_i64 {m:Int}(h0:0<=m)(h1:m<=9223372036854775807):IntKind.i64.wrap m=m:=by
 have e1:IntKind.i64.bits=64:=rfl;have T:IntKind.i64.signed=true:=rfl;unfold IntKind.wrap
 grind
theorem Qu:∀ (vs:List Value) (h:Hdr) (sz:Nat) (T:List (List PV)),PV.ow h sz T ∉ EY vs
 | [],_,_,_=>by simp[EY]
 | v::vs,h,sz,T=>by
  simp only[EY,List.mem_cons,not_or];refine⟨?_,Qu vs h sz T⟩;unfold KH
  split<;>simp
theorem aex {P:Program}{e:TypeId}{z:List PV}(T:Iz P e=some z)(h:Hdr)(sz:Nat)(J:List (List PV)):PV.ow h sz J ∉ z:=by
 unfold Iz at T
 split at T
 split at T
 rename_i I _;cases T;unfold XG
 split
 exact Qu _ _ _ _
 unfold KH
 split<;>simp[lJ]
 cases T
 cases T
theorem ab8 {P:Program}{T:Tab}{e:TypeId}{z z2:List PV}{sz j:Nat}(g:Iz P e=some z)(t:∀ n,T.lq=n+1->Ue z=true->z2=owZ n z):afi T.lq sz z ((gV.jd P T).rep j z2)=.arr false sz ((gV.jd P T).rep j z2)\/(afi T.lq sz z ((gV.jd P T).rep j z2)=.lq sz ((gV.jd P T).rep j z2) /\
  ∀ (r:Nat) (row:List PV) (c:Nat) (h:Hdr) (J : Nat) (C:List (List PV)),((gV.jd P T).rep j z2)[r]?=some row->row[c]?=some (PV.ow h J C)->h.cap=0):=by
 unfold afi
 cases I:T.lq with
 | zero=>exact .inl rfl
 | succ n=>
  cases hs:Ue z with
  | false=>exact .inl rfl
  | true=>
   obtain rfl:=t n I hs;refine .inr ⟨rfl,λr row c h J C hr hc=>?_⟩
   have:row=owZ n z:=by
    have hr:(List.replicate j (owZ n z))[r]?=some row:=hr
    grind
   grind[Si,aex]
include hT H hid in
theorem YV {t:TypeId}{x y:Operand}(ho:o.op=.makeSlice t x y)(h:nV T (gV.jd P T) (.makeSlice t x y) ps lk id K):qh P C o a w σ ps st n id K:=by
 have hx:=kJ H x;have hy:=kJ H y;simp only[nV] at h
 split at h
 ·rename_i agg size z0 plain esz bytes z k1 m1 k2 m2 e hxe hye;obtain⟨et,hu,rfl,rfl,hz⟩:=l7 hT e;obtain⟨zv,hzr,I⟩:=GI hz.symm;have hxv:=pM hx hxe;have hyv:=pM hy hye
  cases hb:(kR (P.cellsOf et)&&Nat.beq (nN z) (P.cellsOf et)&&gW z) with
  | false=>rw[hb] at h;exact h.elim
  | true=>
   rw[hb] at h;simp only[cond_true] at h;simp only[Bool.and_eq_true,vK] at hb;have hbz:=hb.2;have hb:=hb.1;have hinf:=kE hb.1
   have hpos:0<P.cellsOf et:=by
    rcases Nat.eq_zero_or_pos (P.cellsOf et) with h0|h0
    have:=hb.1;rw[h0] at this;simp[kR] at this
    exact h0
   have hzl:=Nat.eq_of_beq_eq_true hb.2;obtain⟨j,rfl,hle,hby,hmax,h⟩:=h;obtain⟨z2,hl2,hc2,hw2,h,hn2,_⟩:=adt h;have J:∀ w Y σ,eU w Y σ z2 zv.cells.toList:=λw Y σ=>hw2 _ _ _ _ (I w Y σ);obtain⟨m,rfl⟩:∃ m:Nat,m2=(m:Int):=⟨m2.toNat,by omega⟩
   cases hi:P.info? et with
   | none=>exact absurd hi hinf
   | some inf=>
   have hbe:=PH hi;rw[hbe] at hby;have hz0:=I w Y σ;have hzsz:zv.cells.size=P.cellsOf et:=by have:=hz0.length;rw[Array.length_toList] at this;omega
   let arr:Array Value:=(Array.range (m*P.cellsOf et)).map (zv.cells[· % zv.cells.size]!)
   have harr:arr.size=m*P.cellsOf et:=by simp[arr]
   have g:((gV.jd P T).rep j z2).length=j:=by simp[gV.jd]
   obtain⟨Y2,σ2,H2,hrep2,hoff⟩:=SW.U1 (a:=a) (m:=m) (arr:=arr) (rows:=(gV.jd P T).rep j z2) (x:=afi T.lq (P.cellsOf et) z ((gV.jd P T).rep j z2)) H hid (ab8 hz.symm hn2) et hpos ⟨by rw[g];omega,by omega⟩ harr (by
    intro w' Y' hk hbl;rw[iQ.iff];intro i r hr
    have hr' : r=z2/\i<j:=by
     have:(gV.jd P T).rep j z2=List.replicate j z2:=rfl;rw[this,List.getElem?_replicate] at hr
     split at hr
     cases hr;exact⟨rfl,‹_›⟩
     cases hr
    obtain⟨rfl,hij⟩:=hr';refine⟨⟨hl2.trans hzl,hc2 hbz⟩,?_⟩;rw[iG.iff];intro c p hc;obtain⟨v,hv,_⟩:=(J w Y gJ).get? hc;have hrv:=(J w Y gJ).get? hc;obtain⟨v,hv,hrv⟩:=hrv;refine⟨v,?_,hk _ _ hrv⟩;rw[cell_of_block hbl]
    have hcl:c<P.cellsOf et:=by
     rw[<- hzl,<- hl2]
     by_cases hh:c<r.length
     exact hh
     rw[List.getElem?_eq_none (Nat.le_of_not_lt hh)] at hc;cases hc
    have hlt:0+i*P.cellsOf et+c<m*P.cellsOf et:=by
     have:=Nat.mul_le_mul_right (P.cellsOf et) (show i+1<=m by omega);rw[Nat.add_mul] at this;omega
    simp only[arr];rw[Array.getElem?_map,Array.getElem?_range,if_pos hlt];simp only[Option.map_some]
    congr 1
    rw[hzsz]
    have:(0+i*P.cellsOf et+c) % P.cellsOf et=c:=by
     rw[Nat.zero_add,Nat.add_comm,Nat.add_mul_mod_self_right];exact Nat.mod_eq_of_lt hcl
    rw[this];rw[Array.getElem?_toList] at hv;simp[getElem!_def,hv])
   rw[g] at hrep2;refine⟨_,_,_,_,Y2,σ2,h,.inl ?_,H2,hrep2,hoff⟩;have w1:IntKind.i64.wrap (j:Int)=(j:Int):=wrap_i64 ae ae;have w2:IntKind.i64.wrap (m:Int)=(m:Int):=wrap_i64 ae ae
   have c1:¬ ((((m:Int)<0 || decide ((inf.bytes:Int)*m > 2 ^ 48)) || decide ((j:Int)<0) || decide ((j:Int) > m))=true):=by
    simp;omega
   have c3:¬ (m*inf.bytes > roomBytes):=by
    unfold roomBytes;have:((inf.bytes*m:Nat):Int)<=140737488355328:=by simpa using hby
    rw[Nat.mul_comm];omega
   simp only[execOp,ho,Instr.makeSlice,Sem.run_bind,kD hu,Result.andThen,hxv,hyv,asInt,tC,Sem.run_pure,Fb hi,w1,w2];rw[if_neg c1];simp only[askRoom,Int.toNat_natCast];rw[if_neg c3];simp only[Sem.run_bind,Sem.run_pure,Result.andThen,run_sizeOf hinf]
   by_cases h0:m*P.cellsOf et=0
   have:arr=#[]:=by simp[arr,h0]
   rw[if_pos h0];simp only[h0,Sem.run_pure,Sem.run_bind,Result.andThen,newRow,newObj];rw[show(Array.range 0).map ((#[]:Array Value)[· % (#[]:Array Value).size]!)=arr by rw[this];simp]
   simp[Sem.run]
   rw[if_neg h0];simp only[Sem.run_bind,hzr,Sem.run_pure,Result.andThen,newRow,newObj];simp[Sem.run,arr]
 exact h.elim
theorem MR (m:Int):goInt m=.int .i64 m:=rfl
include H in
theorem um {b:Builtin}{args:Array Operand}{ts:Array TypeId}{v:PV}{cv:Value}(ho:o.op=.call { callee:=.builtin b,args:=args,argTypes:=ts })
  (hr:∀ ty cs,(builtin b ts ty cs (args.toList.map a.eval).toArray).run P w=.ok (.value cv) w) (hv:Rep w Y σ v cv) (J:K v []):qh P C o a w σ ps st n id K:=by
 have T:args.map a.eval=(args.toList.map a.eval).toArray:=by apply Array.ext';simp
 refine qh.quiet H (cv:=cv) ?_ hv J;simp only[execOp,ho,resolve,T,Sem.run_bind,Sem.run_pure,Result.andThen,invoke];exact hr _ _
theorem ah4 {w:World}{Y:Nat->Prop}{σ:Sg}{p q:PV}{l:List PV}{vs:List Value}(h:eU w Y σ (p::q::l) vs):∃ u v T,vs=u::v::T/\Rep w Y σ p u/\Rep w Y σ q v/\eU w Y σ l T:=by
 unfold eU at h;obtain⟨u,J,rfl,h1,h2⟩:=h;unfold eU at h2;grind
theorem II {w:World}{Y:Nat->Prop}{σ:Sg}{p:PV}{vs:List Value}(h:eU w Y σ [p] vs):∃ u,vs=[u]/\Rep w Y σ p u:=by
 unfold eU at h;obtain⟨u,T,rfl,h1,h2⟩:=h;unfold eU at h2;grind
theorem Qv {w:World}{Y:Nat->Prop}{σ:Sg}{p q:PV}{vs:List Value}(h:eU w Y σ [p,q] vs):∃ u v,vs=[u,v]/\Rep w Y σ p u/\Rep w Y σ q v:=by
 obtain⟨u,v,T,rfl,h1,h2,J⟩:=ah4 h;unfold eU at J;grind
theorem JY {α:Type}{x:Array α}{t:α}(h:x.toList=[t]):x=#[t]:=by grind
include hT H in
theorem ajF {args:Array Operand}{ts:Array TypeId}(ho:o.op=.call { callee:=.builtin .len,args:=args,argTypes:=ts })(h:nV T (gV.jd P T) (.call { callee:=.builtin .len,args:=args,argTypes:=ts }) ps lk id K):qh P C o a w σ ps st n id K:=by
 have J:=vM H args.toList;simp only[nV] at h;generalize hvs:args.toList.map a.eval=vs at J
 split at h
 all_goals first|(exact h.elim)|skip
 rename_i s t hb he ht;rw[he] at J;obtain⟨u,rfl,hu⟩:=II J;have g:=JY ht;subst g
 split at h
 rename_i e;refine um H ho (cv:=.int .i64 s.size) (λty cs=>?_) di h;rw[hvs,IE hu];simp[builtin,Builtin.len_,kD (Qm hT e),MR]
 exact h.elim
 rename_i sz es full t hb he ht;rw[he] at J;obtain⟨u,rfl,hu⟩:=II J;have g:=JY ht;subst g
 split at h
 rename_i e;obtain⟨et,I,_⟩:=l7 hT e;unfold Rep at hu;obtain⟨x,len,cap,rfl,hl,_⟩:=hu;refine um H ho (cv:=.int .i64 es.length) (λty cs=>?_) di h;rw[hvs];simp[builtin,Builtin.len_,kD I,MR,hl]
 exact h.elim
 rename_i b r c hd sz m t hb he ht;rw[he] at J;obtain⟨u,rfl,hu⟩:=II J;have g:=JY ht;subst g
 split at h
 rename_i e;obtain⟨et,I,_⟩:=l7 hT e
 have:∃ x c,u=.slice x m c:=by
  unfold Rep at hu;rcases hu with ⟨_,rfl,_⟩|⟨_,rfl,x,rfl⟩
  exact⟨_,_,rfl⟩
  exact⟨_,_,rfl⟩
 obtain⟨x,c,rfl⟩:=this;refine um H ho (cv:=.int .i64 m) (λty cs=>?_) di h;rw[hvs];simp[builtin,Builtin.len_,kD I,MR]
 exact h.elim
 rename_i b r m t hb he ht;rw[he] at J;obtain⟨u,rfl,hu⟩:=II J;have g:=JY ht;subst g
 split at h
 rename_i e;obtain⟨et,I,_⟩:=l7 hT e
 have:∃ x c,u=.slice x m c:=by
  unfold Rep at hu;rcases hu with ⟨l,cap,_,rfl,_⟩|⟨rfl,x,rfl⟩
  exact⟨_,_,rfl⟩
  exact⟨_,_,rfl⟩
 obtain⟨x,c,rfl⟩:=this;refine um H ho (cv:=.int .i64 m) (λty cs=>?_) di h;rw[hvs];simp[builtin,Builtin.len_,kD I,MR]
 exact h.elim
 all_goals contradiction
theorem afN {P:Program}{w:World}{ts:Array TypeId}{ty:TypeId}{k:IntKind}{m c:Int} :
  (Builtin.min_ ts ty #[.int k m,.int k c]).run P w=.ok (.int k (if c<m then c else m)) w/\(Builtin.max_ ts ty #[.int k m,.int k c]).run P w=.ok (.int k (if c > m then c else m)) w:=by
 simp_all[Builtin.min_,Builtin.min2,Builtin.max_,Builtin.max2]
include hT H in
theorem ajG {args:Array Operand}{ts:Array TypeId}(ho:o.op=.call { callee:=.builtin .min,args:=args,argTypes:=ts })(h:nV T (gV.jd P T) (.call { callee:=.builtin .min,args:=args,argTypes:=ts }) ps lk id K):qh P C o a w σ ps st n id K:=by
 have J:=vM H args.toList;simp only[nV] at h;generalize t:args.toList.map a.eval=vs at J
 split at h
 all_goals first|(exact h.elim)|skip
 contradiction
 contradiction
 contradiction
 contradiction
 rename_i p q l hb g;rw[g] at J;obtain⟨u,v,rfl,hu,hv⟩:=Qv J
 have fin:∀ {k I : IntKind} {m c:Int} (mk:Int->PV),(∀ z,Rep w Y σ (mk z) (.int k z))->u=.int k m->v=.int I c->(bif uk k I then K (mk (if c<m then c else m)) [] else False)->qh P C o a w σ ps st n id K:=by
  intro k I m c mk h1 e1 e2 hh
  cases hk:uk k I with
  | false=>rw[hk] at hh;exact hh.elim
  | true=>
   rw[hk] at hh;have:=F8 hk;subst this;refine um H ho (cv:=.int k (if c<m then c else m)) (λty cs=>?_) (h1 _) hh;rw[t,e1,e2];have:=(afN (P:=P) (w:=w) (ts:=ts) (ty:=ty) (k:=k) (m:=m) (c:=c)).1;simp only[builtin,Sem.run_bind,this,Result.andThen,Sem.run_pure]
 split at h
 exact fin (λz=>.int _ z) (λz=>by simp[Rep]) (vN hu) (vN hv) h
 split at h
 rename_i h1 h2;exact fin (λz=>.si _ z) (λz=>by simp[Rep]) (pM hu h1) (pM hv h2) h
 exact h.elim
 all_goals contradiction
include hT H in
theorem ajH {args:Array Operand}{ts:Array TypeId}(ho:o.op=.call { callee:=.builtin .max,args:=args,argTypes:=ts })(h:nV T (gV.jd P T) (.call { callee:=.builtin .max,args:=args,argTypes:=ts }) ps lk id K):qh P C o a w σ ps st n id K:=by
 have J:=vM H args.toList;simp only[nV] at h;generalize t:args.toList.map a.eval=vs at J
 split at h
 all_goals first|(exact h.elim)|skip
 contradiction
 contradiction
 contradiction
 contradiction
 contradiction
 rename_i p q l hb g;rw[g] at J;obtain⟨u,v,rfl,hu,hv⟩:=Qv J
 have fin:∀ {k I : IntKind} {m c:Int} (mk:Int->PV),(∀ z,Rep w Y σ (mk z) (.int k z))->u=.int k m->v=.int I c->(bif uk k I then K (mk (if m<c then c else m)) [] else False)->qh P C o a w σ ps st n id K:=by
  intro k I m c mk h1 e1 e2 hh
  cases hk:uk k I with
  | false=>rw[hk] at hh;exact hh.elim
  | true=>
   rw[hk] at hh;have:=F8 hk;subst this;refine um H ho (cv:=.int k (if m<c then c else m)) (λty cs=>?_) (h1 _) hh;rw[t,e1,e2];have:=(afN (P:=P) (w:=w) (ts:=ts) (ty:=ty) (k:=k) (m:=m) (c:=c)).2;simp only[builtin,Sem.run_bind,this,Result.andThen,Sem.run_pure]
 split at h
 exact fin (λz=>.int _ z) (λz=>by simp[Rep]) (vN hu) (vN hv) h
 split at h
 rename_i h1 h2;exact fin (λz=>.si _ z) (λz=>by simp[Rep]) (pM hu h1) (pM hv h2) h
 exact h.elim
 all_goals contradiction
end
end Go.Pv
namespace Go.Pv
open Go
def aey (x:Option Addr)(cap i j size:Nat):Value:=.slice (if cap=i then x else x.map (·.add (i*size))) (j-i) (cap-i)
theorem ajI {w:World}{Y:Nat->Prop}{σ:Sg}{sz i j len cap:Nat}{J:List (List PV)}{full T : Bool}{x:Option Addr}(h:Rep w Y σ (.sl sz J full) (.slice x len cap))(h1:i<=j)(h2:j<=J.length)(U:T=true->full=true/\j=J.length) :
  Rep w Y σ (.sl sz ((J.drop i).take (j-i)) T) (aey x cap i j sz):=by
 unfold Rep at h |-;obtain⟨x',I,C,e,hl,hc,g,hr⟩:=h;cases e;refine⟨_,_,_,rfl,?_,by omega,?_,?_⟩
 grind
 grind
 by_cases t:i=j
 simp_all
 rcases hr with hr|⟨b,o,rfl,hy,hr⟩
 grind
 right
 rw[if_neg ae];exact⟨b,o+i*sz,by simp[addr_add],hy,(hr.drop i _ _).take _ _ _⟩
theorem ajJ {w:World}{Y:Nat->Prop}{σ:Sg}{b r n i j cap len size:Nat}{x:Option Addr}(h:Rep w Y σ (.os b r n) (.slice x len cap))(h1:i<=j)(h2:j<=n)(hs:∀ l,σ b=some l->l.sz=size) :
  Rep w Y σ (.os b (r+i) (j-i)) (aey x cap i j size):=by
 unfold Rep at h |-;rcases h with ⟨l,J,T,e,C,I,hr⟩|⟨rfl,x',e⟩
 cases e;have hsz:=hs l T
 by_cases hc:cap=i
 right
 refine⟨by omega,some ⟨l.cb,l.co+r*l.sz,none⟩,?_⟩;simp only[aey,hc,if_true]
 grind
 left
 refine⟨l,cap-i,T,?_,by omega,?_,by omega⟩
 simp_all[aey,addr_add,Nat.add_mul]
 rw[<- I];have:i<=cap:=by omega
 rw[Nat.add_mul,Nat.sub_mul];have:=Nat.mul_le_mul_right l.sz this;omega
 cases e
 right
 have hi:i=0:=by omega
 have hj:j=0:=by omega
 subst hi;subst hj;exact⟨rfl,x,by simp[aey]⟩
theorem ED {P:Program}{w:World}{len cap:Nat}{lo hi:Option Value}{i j:Nat}(J:lo=none/\i=0\/∃ k,lo=some (.int k (i:Int)))(T:hi=none/\j=len\/∃ k,hi=some (.int k (j:Int)))(h1:i<=j)(h2:j<=cap)(b:Bool) :
  (Instr.sliceBounds b len cap lo hi none).run P w=.ok (i,j,cap) w:=by
 have e1:(0:Int)<=(i:Int)/\(i:Int)<=(j:Int):=by omega
 have C:(0:Int)<=(j:Int)/\(j:Int)<=(cap:Int):=by omega
 rcases J with ⟨rfl,rfl⟩|⟨k,rfl⟩<;>rcases T with ⟨rfl,rfl⟩|⟨I,rfl⟩
 simp[Instr.sliceBounds]
 simp[Instr.sliceBounds,Instr.sliceBound,tC,h2]
 simp[Instr.sliceBounds,Instr.sliceBound,tC,h1]
 simp[Instr.sliceBounds,Instr.sliceBound,tC,h1,h2]
theorem aek {P:Program}{w:World}{t e:TypeId}{x:Option Addr}{len cap i j:Nat}{lo hi:Option Value}(hu:P.underlying t=some (.slice e))(hinf:P.info? e≠none)
  (J:lo=none/\i=0\/∃ k,lo=some (.int k (i:Int))) (T:hi=none/\j=len\/∃ k,hi=some (.int k (j:Int))) (h1:i<=j) (h2:j<=cap) :
  (Instr.sliceAt t (.slice x len cap) lo hi none).run P w=.ok (aey x cap i j (P.cellsOf e)) w:=by
 simp only[Instr.sliceAt,Sem.run_bind,kD hu,Result.andThen,Instr.slice,ED J T h1 h2,run_sizeOf hinf,Sem.run_pure];rfl
theorem XQ {S:gV}{w:World}{Y:Nat->Prop}{σ:Sg}:∀ (ps:List PV) (vs:List Value) (r:List PV×Dl),pur S (λ_=>none) ps=some r->eU w Y σ ps vs->eU w Y gJ ps vs
 | [],vs,_,_,h=>by grind[eU]
 | p::ps,vs,r,hp,h=>by
  unfold eU at h;obtain⟨v,T,rfl,h1,h2⟩:=h;unfold pur at hp
  cases J:pur S (λ_=>none) ps with
  | none=>grind
  | some q=>
   rw[J] at hp;simp only at hp;have I:=XQ ps T q J h2;have fin:Rep w Y gJ p v->eU w Y gJ (p::ps) (v::T):=λh=>by unfold eU;grind
   cases p
   case os=>simp at hp
   case fn f cs=>
    cases cs<;>simp_all[Rep,eU]
   all_goals first
    | (simp at hp;done)
    | exact fin (by unfold Rep at h1 |-;exact h1)
theorem ah5 {P:Program}{w:World}{t:TypeId}{s:ByteArray}{i j:Nat}{lo hi:Option Value}(hu:P.underlying t=some .string)
  (J:lo=none/\i=0\/∃ k,lo=some (.int k (i:Int))) (T:hi=none/\j=s.size\/∃ k,hi=some (.int k (j:Int))) (h1:i<=j) (h2:j<=s.size) :
  (Instr.sliceAt t (.string s) lo hi none).run P w=.ok (.string (s.extract i j)) w:=by
 simp only[Instr.sliceAt,Sem.run_bind,kD hu,Result.andThen,Instr.slice,Option.isSome_none,Bool.false_eq_true,if_false,ED J T h1 h2,Sem.run_pure]
theorem adv {P:Program}{w:World}{t e:TypeId}{m b o:Nat}(hu:P.underlying t=some (.array m e))(hinf:P.info? e≠none) :
  (Instr.sliceAt t (.pointer (some ⟨b,o,none⟩)) none none none).run P w=.ok (.slice (some ⟨b,o,none⟩) m m) w:=by
 have T:=ED (P:=P) (w:=w) (len:=m) (cap:=m) (lo:=none) (hi:=none) (i:=0) (j:=m) (.inl ⟨rfl,rfl⟩) (.inl ⟨rfl,rfl⟩) ae ae false
 simp_all[Instr.sliceAt,kD,Instr.sureAddr,run_sizeOf,addr_add]
theorem XR {P:Program}{w:World}{t e:TypeId}{x:Option Addr}{len cap:Nat}{k T : IntKind}(hu:P.underlying t=some (.slice e))(hinf:P.info? e≠none) :
  (Instr.sliceAt t (.slice x len cap) none (some (.int k 0)) (some (.int T 0))).run P w=.ok (.slice x 0 0) w:=by
 simp_all[Instr.sliceAt,kD,Instr.slice,Instr.sliceBounds,Instr.sliceBound,tC,run_sizeOf]
section
variable {P:Program}{T:Tab}(hT:iK P T){C:Ctx T}{o:Oper}{a:Act}{w:World}{Y:Nat->Prop}{σ:Sg}{ps:List PV}{st:St}{n id:Nat}{K:PV->Dl->Prop}{lk:Nat->Option lI}
 (H:SW C w Y σ ps a.tmps.toList st n) (hlk:∀ b x,lk b=some x->iH st b=some x) (hid:σ id=none/\T.oZ<=id) (hU:OZ P)
theorem Sl {T:Tab}{C:Ctx T}{w:World}{Y:Nat->Prop}{σ:Sg}{ps:List PV}{a:Act}{st:St}{n:Nat}(h:SW C w Y σ ps a.tmps.toList st n)(x:Option Operand) :
  (evO T ps x=none/\x.map a.eval=none)\/∃ p v,evO T ps x=some p/\x.map a.eval=some v/\Rep w Y σ p v:=by
 cases x with
 | none=>exact .inl ⟨rfl,rfl⟩
 | some x=>exact .inr ⟨_,_,rfl,rfl,kJ h x⟩
include hT H hlk in
theorem afO {t:TypeId}{x:Operand}{lo hi mx:Option Operand}(ho:o.op=.slice t x lo hi mx)(hid:σ id=none/\T.oZ<=id)(h:nV T (gV.jd P T) (.slice t x lo hi mx) ps lk id K):qh P C o a w σ ps st n id K:=by
 have hx:=kJ H x;have I:=Sl H lo;have g:=Sl H hi;have hmx:=Sl H mx
 have run:∀ {r:Result Value},(Instr.sliceAt t (a.eval x) (lo.map a.eval) (hi.map a.eval) (mx.map a.eval)).run P w=r->(execOp a.eval o).run P w=r.andThen λv w'=>.ok (.value v) w':=by
  intro r hr;simp only[execOp,ho,Sem.run_bind,hr,Sem.run_pure]
 generalize lo.map a.eval=vlo at I run;generalize hi.map a.eval=vhi at g run;generalize mx.map a.eval=vmx at hmx run;simp only[nV] at h;generalize evO T ps lo=plo at I h;generalize evO T ps hi=phi at g h;generalize evO T ps mx=pmx at hmx h;generalize rM T ps x=p at hx h
 have bound:∀ {q:Option PV} {v:Option Value} {r:PV} {k:IntKind} {i:Nat},((q=none/\v=none)\/∃ p u,q=some p/\v=some u/\Rep w Y σ p u)->q=some r->Ec r=some (k,(i:Int))->∃ k,v=some (.int k (i:Int)):=by
  intro q v r k i hq e1 e2;rcases hq with ⟨e,_⟩|⟨p,u,e,e',hr⟩
  rw[e] at e1;cases e1
  rw[e] at e1;cases e1;exact⟨k,by rw[e',pM hr e2]⟩
 have J:∀ {q:Option PV} {v:Option Value},((q=none/\v=none)\/∃ p u,q=some p/\v=some u/\Rep w Y σ p u)->q=none->v=none:=by
  intro q v hq e;rcases hq with ⟨_,e'⟩|⟨p,u,e',_⟩
  exact e'
  rw[e] at e';cases e'
 split at h
 rename_i agg size z plain esz bytes z' sz es full e;obtain⟨et,hu,rfl,_,_⟩:=l7 hT e;have hm:=J hmx rfl;subst hm
 cases hb:(kR (P.cellsOf et)&&Nat.beq sz (P.cellsOf et)) with
 | false=>rw[hb] at h;exact h.elim
 | true=>
  rw[hb] at h;simp only[cond_true] at h;rw[Bool.and_eq_true] at hb;have hinf:=kE hb.1;have hsz:=Nat.eq_of_beq_eq_true hb.2;subst hsz;have hx':=hx;unfold Rep at hx';obtain⟨y,len,cap,ex,hl,hc,_,_⟩:=hx';rw[ex] at hx run
  have fin:∀ (i j:Nat) (full' : Bool),(vlo=none/\i=0\/∃ k,vlo=some (.int k (i:Int)))->(vhi=none/\j=len\/∃ k,vhi=some (.int k (j:Int)))->i<=j->j<=es.length->(full'=true->full=true/\j=es.length) ->
    K (.sl (P.cellsOf et) ((es.drop i).take (j-i)) full') []->qh P C o a w σ ps st n id K:=by
   intro i j full' g1 g2 g3 g4 g5 hK;exact qh.quiet H dK (ajI hx g3 g4 g5) hK
  split at h
  have hv:=J g rfl
  split at h
  have hv2:=J I rfl;refine fin 0 len full (.inl ⟨hv2,rfl⟩) (.inl ⟨hv,rfl⟩) ae ae (λh=>⟨h,hl⟩) ?_;rw[hl];simpa using h
  split at h
  rename_i hint;obtain⟨i,j,rfl,e2,g1,g2,h⟩:=h;have:j=es.length:=by have:((es.length:Nat):Int)=(j:Int):=e2;omega
  subst this;exact fin i es.length full (.inr (bound I rfl hint)) (.inl ⟨hv,hl.symm⟩) g1 (Nat.le_refl _) (λh=>⟨h,rfl⟩) h
  exact h.elim
  split at h
  rename_i hint
  split at h
  have hv2:=J I rfl;obtain⟨i,j,e1,rfl,g1,g2,h⟩:=h;have:i=0:=by omega
  subst this;exact fin 0 j false (.inl ⟨hv2,rfl⟩) (.inr (bound g rfl hint)) g1 g2 (λh=>by cases h) h
  split at h
  rename_i hint2;obtain⟨i,j,rfl,rfl,g1,g2,h⟩:=h;exact fin i j false (.inr (bound I rfl hint2)) (.inr (bound g rfl hint)) g1 g2 (λh=>by cases h) h
  exact h.elim
  exact h.elim
 rename_i agg size z plain esz bytes z' b r m e;obtain⟨et,hu,rfl,_,_⟩:=l7 hT e;have hm:=J hmx rfl;subst hm
 split at h
 rename_i ro sz rows hbk
 cases hb:(kR (P.cellsOf et)&&Nat.beq sz (P.cellsOf et)) with
 | false=>rw[hb] at h;exact h.elim
 | true=>
  rw[hb] at h;simp only[cond_true] at h;rw[Bool.and_eq_true] at hb;have hinf:=kE hb.1;have hsz:=Nat.eq_of_beq_eq_true hb.2
  have hls:∀ l,σ b=some l->l.sz=P.cellsOf et:=by
   intro l hl;have hB:=fF.yN H hlk hbk hl;unfold fF at hB;rw[hB.2.1,hsz]
  have hx' : ∃ y cap,a.eval x=.slice y m cap/\m<=cap:=by
   unfold Rep at hx;rcases hx with ⟨l,cap,_,e,hn,_⟩|⟨rfl,y,e⟩
   exact⟨_,cap,e,hn.1⟩
   exact⟨y,0,e,Nat.le_refl _⟩
  obtain⟨y,cap,ex,hmc⟩:=hx';rw[ex] at hx run
  have fin:∀ (i j:Nat),(vlo=none/\i=0\/∃ k,vlo=some (.int k (i:Int)))->(vhi=none/\j=m\/∃ k,vhi=some (.int k (j:Int)))->i<=j->j<=m->K (.os b (r+i) (j-i)) []->qh P C o a w σ ps st n id K:=by
   intro i j g1 g2 g3 g4 hK;exact qh.quiet H dK (ajJ hx g3 g4 hls) hK
  split at h
  have hv:=J g rfl
  split at h
  have hv2:=J I rfl;exact fin 0 m (.inl ⟨hv2,rfl⟩) (.inl ⟨hv,rfl⟩) ae ae h
  split at h
  rename_i hint;obtain⟨i,j,rfl,e2,g1,g2,h⟩:=h;have:j=m:=by have:(m:Int)=(j:Int):=e2;omega
  subst this;exact fin i j (.inr (bound I rfl hint)) (.inl ⟨hv,rfl⟩) g1 g2 h
  exact h.elim
  split at h
  rename_i hint
  split at h
  have hv2:=J I rfl;obtain⟨i,j,e1,rfl,g1,g2,h⟩:=h;have:i=0:=by omega
  subst this;exact fin 0 j (.inl ⟨hv2,rfl⟩) (.inr (bound g rfl hint)) g1 g2 h
  split at h
  rename_i hint2;obtain⟨i,j,rfl,rfl,g1,g2,h⟩:=h;exact fin i j (.inr (bound I rfl hint2)) (.inr (bound g rfl hint)) g1 g2 h
  exact h.elim
  exact h.elim
 exact h.elim
 rename_i agg size z plain esz bytes z' sz es full k1 k2 e;obtain⟨et,hu,rfl,_,_⟩:=l7 hT e
 cases hb:kR (P.cellsOf et) with
 | false=>rw[hb] at h;exact h.elim
 | true=>
  rw[hb] at h;have hinf:=kE hb;have hl:=J I rfl;subst hl;rcases g with ⟨e1,_⟩|⟨p1,v1,e1,rfl,r1⟩
  cases e1
  cases e1;rcases hmx with ⟨e1,_⟩|⟨p2,v2,e2,rfl,r2⟩
  cases e1
  cases e2;rw[vN r1,vN r2] at run;unfold Rep at hx;obtain⟨y,len,cap,ex,_⟩:=hx;rw[ex] at run;refine qh.quiet H (by rw[run (XR hu hinf)];rfl) ?_ h;unfold Rep;exact⟨y,0,0,rfl,rfl,Nat.le_refl _,λ_=>rfl,.inl rfl⟩
 rename_i agg size z plain esz bytes z' b r m k1 k2 e;obtain⟨et,hu,rfl,_,_⟩:=l7 hT e
 cases hb:kR (P.cellsOf et) with
 | false=>rw[hb] at h;exact h.elim
 | true=>
  rw[hb] at h;have hinf:=kE hb;have hl:=J I rfl;subst hl;rcases g with ⟨e1,_⟩|⟨p1,v1,e1,rfl,r1⟩
  cases e1
  cases e1;rcases hmx with ⟨e1,_⟩|⟨p2,v2,e2,rfl,r2⟩
  cases e1
  cases e2;rw[vN r1,vN r2] at run
  have hx' : ∃ y cap,a.eval x=.slice y m cap:=by
   unfold Rep at hx;rcases hx with ⟨l,cap,_,e,_⟩|⟨rfl,y,e⟩
   exact⟨_,cap,e⟩
   exact⟨y,0,e⟩
  obtain⟨y,cap,ex⟩:=hx';rw[ex] at run;refine qh.quiet H (by rw[run (XR hu hinf)];rfl) ?_ h;unfold Rep;exact⟨y,0,0,rfl,rfl,Nat.le_refl _,λ_=>rfl,.inl rfl⟩
 rename_i agg size z plain s e;have hu:=Qm hT e;have hm:=J hmx rfl;subst hm;rw[IE hx] at run
 have fin:∀ (i j:Nat),(vlo=none/\i=0\/∃ k,vlo=some (.int k (i:Int)))->(vhi=none/\j=s.size\/∃ k,vhi=some (.int k (j:Int)))->i<=j->j<=s.size->K (.str (s.extract i j)) []->qh P C o a w σ ps st n id K:=by
  intro i j g1 g2 g3 g4 hK;exact qh.quiet H (cv:=.string (s.extract i j)) (by rw[run (ah5 hu g1 g2 g3 g4)];rfl) bz hK
 split at h
 have hv2:=J I rfl
 split at h
 have hv:=J g rfl;refine fin 0 s.size (.inl ⟨hv2,rfl⟩) (.inl ⟨hv,rfl⟩) ae ae ?_
 simpa using h
 split at h
 rename_i hint;obtain⟨i,j,e1,rfl,g1,g2,h⟩:=h;have:i=0:=by omega
 subst this;exact fin 0 j (.inl ⟨hv2,rfl⟩) (.inr (bound g rfl hint)) g1 g2 h
 exact h.elim
 split at h
 rename_i hint
 split at h
 have hv:=J g rfl;obtain⟨i,j,rfl,e2,g1,g2,h⟩:=h;have:j=s.size:=by have:((s.size:Nat):Int)=(j:Int):=e2;omega
 subst this;exact fin i s.size (.inr (bound I rfl hint)) (.inl ⟨hv,rfl⟩) g1 g2 h
 split at h
 rename_i hint2;obtain⟨i,j,rfl,rfl,g1,g2,h⟩:=h;exact fin i j (.inr (bound I rfl hint)) (.inr (bound g rfl hint2)) g1 g2 h
 exact h.elim
 exact h.elim
 rename_i agg size z plain m esz ag b c e;obtain⟨et,hu,rfl,_,_⟩:=Ql hT e;have hm:=J hmx rfl;have hv:=J g rfl;have hl:=J I rfl;subst hm;subst hv;subst hl
 split at h
 rename_i ro row hbk
 cases hb:(kR (P.cellsOf et)&&Nat.ble (c+m*P.cellsOf et) (nN row)) with
 | false=>rw[hb] at h;exact h.elim
 | true=>
  rw[hb] at h;simp only[cond_true] at h;rw[Bool.and_eq_true] at hb;have hinf:=kE hb.1;have hle:=Nat.le_of_ble_eq_true hb.2;rw[vK] at hle
  split at h
  rename_i pr hpur;unfold Rep at hx;obtain⟨l,hs,ex⟩:=hx;rw[ex] at run;obtain⟨Y1,H1,hn1,hy1⟩:=H.freeze (hlk _ _ hbk) (x':=.var true row) (.inl ⟨ro,row,rfl,rfl⟩);have hB:=fF.yN H1 (lk:=iH (nD st b (some (.var true row)))) (λ_ _ h=>h) dR hs;have hlt:=hB.lt;unfold fF at hB;obtain⟨vs,hr,hcell⟩:=hB.2.2.2.1.vals;have hr':=XQ _ _ _ hpur hr;have hrc:=(iG.KJ row vs l.co hr' hcell).drop c _ _;refine⟨_,_,.slice (some ⟨l.cb,l.co+c,none⟩) m m,w,Y1,σ,h,.inl ?_,?_,?_,Off.refl _ _⟩
  rw[run (adv hu hinf)];rfl
  simp only[jf,uI];exact H1.mono ae
  unfold Rep;refine⟨_,_,_,rfl,by rw[wB],Nat.le_refl _,λ_=>rfl,.inr ⟨l.cb,_,rfl,⟨hlt,hn1 l hs⟩,?_⟩⟩;rw[yL];refine iG.chunks m _ _ hrc ?_ (by rw[List.length_drop];omega);have:=(Qs row _ _ hpur).2;rw[tu] at this |-;exact λp hp=>this p (List.mem_of_mem_drop hp)
  exact h.elim
 exact h.elim
 rename_i agg size z plain m esz ag cs e;obtain⟨et,hu,rfl,_,_⟩:=Ql hT e;have hm:=J hmx rfl;have hv:=J g rfl;have hl:=J I rfl;subst hm;subst hv;subst hl
 cases hb:(kR (P.cellsOf et)&&gW cs&&Nat.ble (m*P.cellsOf et) (nN cs)) with
 | false=>rw[hb] at h;exact h.elim
 | true=>
  rw[hb] at h;simp only[cond_true] at h;rw[Bool.and_eq_true,Bool.and_eq_true] at hb;have hinf:=kE hb.1.1;have hle:=Nat.le_of_ble_eq_true hb.2;rw[vK] at hle;unfold Rep at hx;obtain⟨b,o',ex,hy,hr⟩:=hx;rw[ex] at run;refine qh.quiet H (by rw[run (adv hu hinf)];rfl) ?_ h;unfold Rep;exact⟨_,_,_,rfl,by rw[wB],Nat.le_refl _,λ_=>rfl,.inr ⟨b,o',rfl,hy,iG.chunks m cs o' hr hb.1.2 hle⟩⟩
 exact h.elim
end
end Go.Pv
namespace Go.Pv
open Go
theorem SW.drawn {T:Tab}{C:Ctx T}{w:World}{Y:Nat->Prop}{σ:Sg}{ps:List PV}{vs:List Value}{st:St}{n:Nat}(H:SW C w Y σ ps vs st n)(d:Nat):SW C { w with drawn:=d } Y σ ps vs st n:=by
 have K:Keep w { w with drawn:=d } Y Y σ σ:=⟨λ_ _ _=>rfl,λ_ _ h=>h,Nat.le_refl _,mZ.refl _⟩;refine⟨eU.keep _ K _ H.vals,⟨λb x hx=>?_,H.store.inj⟩,H.next,H.vJ,H.y0,H.c0,H.wP,⟨H.pJ.os,H.pJ.tape,H.pJ.output,H.pJ.size,H.pJ.block⟩,H.own,H.wQ.keep K.none,H.fix,H.nest.heap (Nat.le_refl _) (λ_ _=>rfl)⟩;rcases H.store.blk b x hx with ⟨l,J,hB⟩|h
 exact .inl ⟨l,J,fF.keep K rfl Iff.rfl hB⟩
 exact .inr h
theorem Rep.drawn {w:World}{Y:Nat->Prop}{σ:Sg}{p:PV}{v:Value}(h:Rep w Y σ p v)(d:Nat):Rep { w with drawn:=d } Y σ p v :=
 Rep.keep (w:=w) (w':={ w with drawn:=d }) p ⟨λ_ _ _=>rfl,λ_ _ h=>h,Nat.le_refl _,mZ.refl _⟩ v h
theorem SW.afP {T:Tab}{C:Ctx T}{w:World}{Y:Nat->Prop}{σ:Sg}{ps:List PV}{vs:List Value}{st:St}{n id:Nat}(H:SW C w Y σ ps vs st n)(hid:σ id=none/\T.oZ<=id){x:lI}(hE:Emp x):SW C w Y σ ps vs (nD st id (some x)) (max n (id+1)):=by
 have hfree:=hid.1;refine⟨H.vals,⟨λb y hx=>?_,λb t y y' l l' hx J I hl' e=>?_⟩,λb hb=>H.next b ae,H.vJ,H.y0,H.c0,H.wP,H.pJ,λb y l hx I=>?_,H.wQ,⟨by grind,H.fix.2⟩,?_⟩
 rw[gG] at hx
 by_cases h:id=b
 grind
 rw[if_neg h] at hx;exact H.store.blk b y hx
 rw[gG] at hx J
 by_cases h:id=b
 grind
 by_cases h' : id=t
 grind
 rw[if_neg h] at hx;rw[if_neg h'] at J;exact H.store.inj b t y y' l l' hx J I hl' e
 rw[gG] at hx
 by_cases h:id=b
 grind
 rw[if_neg h] at hx;exact H.own b y l hx I
 have back:∀ {c r k h s g},lU (nD st id (some x)) c r k h s g->lU st c r k h s g:=by
  rintro c r k h s g ⟨sz0,rows,row,h1,h2,h3⟩
  rw[gG] at h1
  by_cases hc:id=c
  rw[if_pos hc] at h1;cases h1;cases hE;simp at h2
  rw[if_neg hc] at h1;exact⟨sz0,rows,row,h1,h2,h3⟩
 refine H.nest.keep ⟨λ_ _ _=>rfl,λ_ _ h=>h,Nat.le_refl _,mZ.refl _⟩ (λ_ _ _ _ _ _ k=>back k) (λ_ _ _ _ _ _ _=>rfl) (λ_ _ _ _ _ _ k=>(H.nest.rep _ _ _ _ _ _ (back k)).own) λc r k h s g t y l hk hx I=>?_;rw[gG] at hx
 by_cases hc:id=t
 grind
 rw[if_neg hc] at hx;exact H.nest.sep _ _ _ _ _ _ _ _ _ (back hk) hx I
theorem SW.empty {T:Tab}{C:Ctx T}{w:World}{Y:Nat->Prop}{σ:Sg}{ps:List PV}{vs:List Value}{st:St}{n id:Nat}(H:SW C w Y σ ps vs st n)(hid:σ id=none/\T.oZ<=id)(sz:Nat):SW C w Y σ ps vs (nD st id (some (.arr false sz []))) (max n (id+1)):=H.afP hid (.arr _ _)
theorem SW.ab9 {T:Tab}{C:Ctx T}{w w' : World}{Y:Nat->Prop}{σ:Sg}{ps:List PV}{vs:List Value}{st:St}{n id b:Nat}(H:SW C w Y σ ps vs st n)(hid:σ id=none/\T.oZ<=id){x x' : lI}{l l' : Loc}
  (hx:iH st b=some x) (hnar:∀ sz rows,x'≠.lq sz rows) (hl:σ b=some l) (hm:Y l.cb) (g:l'.cb=l.cb)
  (hos:w'.os=w.os) (htape:w'.tape=w.tape) (hout:w'.output=w.output) (hsize:w'.heap.size=w.heap.size) (J:∀ k,k≠l.cb->w'.heap[k]?=w.heap[k]?)
  (hnew:∀ σ',(∀ p v,Rep w Y σ p v->Rep w' Y σ' p v)->(∀ p v,Rep w Y gJ p v->Rep w' Y gJ p v)->fF w' Y σ' l' x') :
  ∃ σ',SW C w' Y σ' ps vs (nD (nD st b none) id (some x')) (max n (id+1))/\σ' id=some l'/\Off id σ σ':=by
 have hfree:=hid.1
 let σ' : Sg:=λc=>if c=id then some l' else σ c
 have hsg:mZ σ σ':=by
  intro c m h
  grind
 have K:Keep w w' Y Y σ σ':=⟨λk _ hk=>J k (λe=>hk (e ▸ hm)),λ_ _ h=>h,Nat.le_of_eq hsize.symm,hsg⟩;have own:=H.own b x l hx hl
 have look:∀ c y,iH (nD (nD st b none) id (some x')) c=some y->(c=id/\y=x')\/(c≠id/\c≠b/\iH st c=some y):=by
  intro c y h;rw[gG] at h
  by_cases hc:id=c
  grind
  rw[if_neg hc,gG] at h
  grind
 refine⟨σ',⟨eU.keep _ K _ H.vals,⟨?_,?_⟩,?_,λk hk=>by rw[hsize];exact H.vJ k hk,H.y0,H.c0,H.wP,?_,?_,H.wQ.keep K.none,⟨by grind,λb hb=>by show(if b=id then some l' else σ b)=_;rw[if_neg ae];exact H.fix.2 b hb⟩,?_⟩,by simp[σ'],λb hb=>by grind⟩
 intro c y h;rcases look c y h with ⟨rfl,rfl⟩|⟨h1,h2,t⟩
 exact .inl ⟨l',by simp[σ'],hnew σ' (λp v hp=>Rep.keep p K v hp) (λp v hp=>Rep.keep p K.none v hp)⟩
 rcases H.store.blk c y t with ⟨m,I,hB⟩|⟨hn,hy⟩
 refine .inl ⟨m,hsg _ _ I,fF.keep K (J _ λe=>h2 ?_) Iff.rfl hB⟩;exact H.store.inj c b y x m l t hx I hl e
 grind
 intro c c' y y' m m' h h' hm1 hm2 e;rcases look c y h with ⟨rfl,rfl⟩|⟨h1,h2,t⟩<;>rcases look c' y' h' with ⟨rfl,rfl⟩|⟨h1',h2',h3'⟩
 rfl
 exfalso
 simp[σ'] at hm1;subst hm1;have:σ c'=some m':=by grind
 exact h2' (H.store.inj c' b y' x m' l h3' hx this hl (by rw[<- e,g]))
 exfalso
 simp[σ'] at hm2;subst hm2;have:σ c=some m:=by grind
 exact h2 (H.store.inj c b y x m l t hx this hl (by rw[e,g]))
 have e1:σ c=some m:=by grind
 have e2:σ c'=some m':=by grind
 exact H.store.inj c c' y y' m m' t h3' e1 e2 e
 intro c hc;show(if c=id then some l' else σ c)=none;rw[if_neg ae];exact H.next c ae
 refine⟨by rw[hos];exact H.pJ.os,by rw[htape];exact H.pJ.tape,by rw[hout];exact H.pJ.output,by rw[hsize];exact H.pJ.size,λk hk hM=>?_⟩
 have hne:k≠l.cb:=λe=>by
  subst e;have h1:=H.away hx hl;rcases H.wP _ hm hk with h2|h2<;>grind
 rw[J k hne];exact H.pJ.block k hk hM
 intro c y m h I;rcases look c y h with ⟨rfl,rfl⟩|⟨h1,h2,t⟩
 grind
 exact H.own c y m t ak
 have back:∀ {c r k h s es},lU (nD (nD st b none) id (some x')) c r k h s es->lU st c r k h s es:=by
  rintro c r k h s es ⟨sz0,rows,row,h1,h2⟩
  rcases look _ _ h1 with ⟨_,e⟩|⟨_,_,t⟩
  grind
  exact⟨sz0,rows,row,t,h2⟩
 refine H.nest.keep K.none (λ_ _ _ _ _ _ k=>back k) (λc r k h s es hk=>J _ (H.nest.sep _ _ _ _ _ _ _ _ _ (back hk) hx hl).symm) (λ_ _ _ _ _ _ k=>(H.nest.rep _ _ _ _ _ _ (back k)).own) λc r k h s es b' y m hk hy I=>?_;rcases look _ _ hy with ⟨e,_⟩|⟨h1,h2,t⟩
 subst e;simp[σ'] at I;subst I;rw[g];exact H.nest.sep _ _ _ _ _ _ _ _ _ (back hk) hx hl
 exact H.nest.sep _ _ _ _ _ _ _ _ _ (back hk) t ak
theorem adw {w w' : World}{Y:Nat->Prop}{σ:Sg}{l:Loc}{J r c:Nat}{rows:List (List PV)}{row:List PV}{p q:PV}(hB:fF w Y σ l (.lq J rows))(I:rows[r]?=some row)(hc:row[c]?=some p)
  (K:Keep w w' Y Y gJ gJ) (hb:w'.heap[l.cb]?=w.heap[l.cb]?) (hq:xm q=true) (hpq:∀ v,Rep w' Y gJ p v->Rep w' Y gJ q v):fF w' Y σ l (.lq J (rows.set r (row.set c q))):=by
 unfold fF at hB |-;obtain⟨⟨arr,ty,b1,b2⟩,b3,b4,⟨b5,b6⟩,C,b8⟩:=hB;refine⟨⟨arr,ty,by grind,b2⟩,b3,b4,⟨by simpa using b5,by simpa using b6⟩,?_,b8⟩;have C:=iQ.keep rows K (λ_=>hb) _ C
 have T:r<rows.length:=by
  grind
 have g:c<row.length:=by
  grind
 rw[iQ.iff] at C |-;intro i x hi;rw[List.getElem?_set] at hi
 by_cases t:r=i
 subst t;rw[if_pos rfl,if_pos T] at hi;cases hi;obtain⟨⟨q1,q2⟩,q3⟩:=C r row I;refine⟨⟨by simpa using q1,?_⟩,?_⟩
 grind[tu]
 rw[iG.iff] at q3 |-
 grind
 grind
theorem aaM {st:St}{b sz0 r c:Nat}{rows:List (List PV)}{row:List PV}{q:PV}(hst:iH st b=some (.lq sz0 rows))(C:rows[r]?=some row)(hno:∀ h sz es,q≠.ow h sz es){d k j:Nat}{h2:Hdr}{s2:Nat}{e2:List (List PV)}
  (hO:∃ I rs T,(if d=b then some (.lq sz0 (rows.set r (row.set c q))) else iH st d)=some (.lq I rs)/\rs[k]?=some T/\T[j]?=some (.ow h2 s2 e2)/\h2.cap≠0):lU st d k j h2 s2 e2/\¬ (d=b/\k=r/\j=c):=by
 obtain⟨I,rs,T,g1,g2,g3,g4⟩:=hO
 have t:r<rows.length:=by
  grind
 by_cases e1:d=b
 subst e1;rw[if_pos rfl] at g1;cases g1;rw[List.getElem?_set] at g2
 by_cases J:r=k
 subst J;rw[if_pos rfl,if_pos t] at g2;cases g2;rw[List.getElem?_set] at g3
 by_cases g:c=j
 grind
 rw[if_neg g] at g3;exact⟨⟨_,rows,row,hst,C,g3,g4⟩,λhh=>g hh.2.2.symm⟩
 rw[if_neg J] at g2;exact⟨⟨_,rows,T,hst,g2,g3,g4⟩,λhh=>J hh.2.1.symm⟩
 rw[if_neg e1] at g1;exact⟨⟨I,rs,T,g1,g2,g3,g4⟩,λhh=>e1 hh.1⟩
theorem SW.ajK {T:Tab}{C:Ctx T}{w:World}{Y:Nat->Prop}{σ:Sg}{ps:List PV}{vs:List Value}{st:St}{n b r c J:Nat}{rows:List (List PV)}{row:List PV}{p q:PV}(H:SW C w Y σ ps vs st n)(hst:iH st b=some (.lq J rows))(I:rows[r]?=some row)(hc:row[c]?=some p)
  (hq:xm q=true) (hno:∀ h sz es,q≠.ow h sz es) (hpq:∀ v,Rep w Y gJ p v->Rep w Y gJ q v):SW C w Y σ ps vs (nD st b (some (.lq J (rows.set r (row.set c q))))) n:=by
 have K0:Keep w w Y Y gJ gJ:=⟨λ_ _ _=>rfl,λ_ _ h=>h,Nat.le_refl _,mZ.refl _⟩
 have look:∀ d y,iH (nD st b (some (.lq J (rows.set r (row.set c q))))) d=some y->(d=b/\y=.lq J (rows.set r (row.set c q)))\/(d≠b/\iH st d=some y):=by
  intro d y t;rw[gG] at t
  grind
 have back:∀ {d k j h2 s2 e2},lU (nD st b (some (.lq J (rows.set r (row.set c q))))) d k j h2 s2 e2->lU st d k j h2 s2 e2:=by
  rintro d k j h2 s2 e2 ⟨szx,rs,rw0,g1,g2,g3,g4⟩
  refine(aaM (c:=c) (q:=q) hst I hno ⟨szx,rs,rw0,?_,g2,g3,g4⟩).1
  grind
 have old:∀ d y,iH (nD st b (some (.lq J (rows.set r (row.set c q))))) d=some y->∃ z,iH st d=some z:=by
  grind
 refine⟨H.vals,⟨λd y t=>?_,λd d' y y' l l' t hd'=>?_⟩,H.next,H.vJ,H.y0,H.c0,H.wP,H.pJ,λd y l t hl=>?_,H.wQ,H.fix,?_⟩
 rcases look d y t with ⟨rfl,rfl⟩|⟨_,t⟩
 rcases H.store.blk d _ hst with ⟨l,hl,hB⟩|⟨_,hE⟩
 exact .inl ⟨l,hl,adw hB I hc K0 rfl hq hpq⟩
 cases hE;simp at I
 exact H.store.blk d y t
 obtain⟨z,g⟩:=old d y t;obtain⟨z',hz'⟩:=old d' y' hd';exact H.store.inj d d' z z' l l' g hz'
 obtain⟨z,g⟩:=old d y t;exact H.own d z l g hl
 exact H.nest.keep K0 (λ_ _ _ _ _ _ k=>back k) (λ_ _ _ _ _ _ _=>rfl) (λ_ _ _ _ _ _ k=>(H.nest.rep _ _ _ _ _ _ (back k)).own) λd k j h2 s2 e2 b' y l hk hy hl=>by
  obtain⟨z,g⟩:=old b' y hy;exact H.nest.sep _ _ _ _ _ _ _ _ _ (back hk) g hl
theorem SW.take {T:Tab}{C:Ctx T}{w w' : World}{Y:Nat->Prop}{σ:Sg}{ps:List PV}{vs:List Value}{st:St}{n id b r c I sz:Nat}{rows:List (List PV)}{row:List PV}{h:Hdr}{es es' : List (List PV)}{q:PV}(H:SW C w Y σ ps vs st n)(hid:σ id=none/\T.oZ<=id)
  (hst:iH st b=some (.lq I rows)) (t:rows[r]?=some row) (hc:row[c]?=some (.ow h sz es)) (hcap:h.cap≠0) (hbid:b≠id)
  (hq:xm q=true) (hno:∀ h sz es,q≠.ow h sz es) (hpq:∀ v,Rep w' Y gJ (.ow h sz es) v->Rep w' Y gJ q v)
  (hos:w'.os=w.os) (htape:w'.tape=w.tape) (hout:w'.output=w.output) (hsize:w'.heap.size=w.heap.size) (J:∀ k,k≠h.ν->w'.heap[k]?=w.heap[k]?)
  (hnew:(∀ p v,Rep w Y gJ p v->Rep w' Y gJ p v)->(∃ arr ty,w'.heap[h.ν]?=some (.cells arr ty (0,0))/\arr.size=h.o+h.cap*sz)/\es'.length<=h.cap/\iQ w' Y gJ h.ν sz es' h.o) :
  ∃ σ',SW C w' Y σ' ps vs (nD (nD st b (some (.lq I (rows.set r (row.set c q))))) id (some (.arr false sz es'))) (max n (id+1))/\σ' id=some ⟨h.ν,h.o,sz,h.o+h.cap*sz,es'.length⟩/\Off id σ σ':=by
 have hO:lU st b r c h sz es:=⟨I,rows,row,hst,t,hc,hcap⟩;have hN:=H.nest.rep _ _ _ _ _ _ hO;have hold:=H.nest.old _ _ _ _ _ _ hO;have hfree:=hid.1
 let l' : Loc:=⟨h.ν,h.o,sz,h.o+h.cap*sz,es'.length⟩
 let σ' : Sg:=λd=>if d=id then some l' else σ d
 have hsg:mZ σ σ':=by
  intro d m g
  grind
 have K:Keep w w' Y Y σ σ':=⟨λk _ hk=>J k (λe=>hk (e ▸ hN.own)),λ_ _ h=>h,Nat.le_of_eq hsize.symm,hsg⟩;have sepν:∀ d y m,iH st d=some y->σ d=some m->m.cb≠h.ν:=λd y m hy hm=>H.nest.sep _ _ _ _ _ _ _ _ _ hO hy hm;obtain⟨n1,n2,n3⟩:=hnew (λp v hp=>Rep.keep p K.none v hp)
 have look:∀ d y,iH (nD (nD st b (some (.lq I (rows.set r (row.set c q))))) id (some (.arr false sz es'))) d=some y ->
   (d=id/\y=.arr false sz es')\/(d≠id/\d=b/\y=.lq I (rows.set r (row.set c q)))\/(d≠id/\d≠b/\iH st d=some y):=by
  intro d y g;rw[gG] at g
  by_cases e:id=d
  grind
  rw[if_neg e,gG] at g
  grind
 have old:∀ d y,d≠id->iH (nD (nD st b (some (.lq I (rows.set r (row.set c q))))) id (some (.arr false sz es'))) d=some y->∃ z,iH st d=some z:=by
  grind
 have back:∀ {d k j h2 s2 e2},lU (nD (nD st b (some (.lq I (rows.set r (row.set c q))))) id (some (.arr false sz es'))) d k j h2 s2 e2->lU st d k j h2 s2 e2/\h2.ν≠h.ν:=by
  rintro d k j h2 s2 e2 ⟨szx,rs,rw0,g1,g2,g3,g4⟩
  have key:lU st d k j h2 s2 e2/\¬ (d=b/\k=r/\j=c):=by
   refine aaM (c:=c) (q:=q) hst t hno ⟨szx,rs,rw0,?_,g2,g3,g4⟩
   grind
  exact⟨key.1,λe=>key.2 (H.nest.one _ _ _ _ _ _ _ _ _ _ _ _ key.1 hO e)⟩
 have e1:∀ d m,d≠id->σ' d=some m->σ d=some m:=by
  grind
 have e2:∀ m,σ' id=some m->m=l':=by
  grind
 refine⟨σ',⟨eU.keep _ K _ H.vals,⟨λd y g=>?_,λd d' y y' m m' g hd' hm hm' e=>?_⟩,λd g=>?_,λk hk=>by rw[hsize];exact H.vJ k hk,H.y0,H.c0,H.wP,?_,λd y m g hm=>?_,H.wQ.keep K.none,⟨by grind,λd g=>by show(if d=id then some l' else σ d)=_;rw[if_neg ae];exact H.fix.2 d g⟩,?_⟩,by grind,λd g=>by grind⟩
 rcases look d y g with ⟨rfl,rfl⟩|⟨h1,rfl,rfl⟩|⟨h1,h2,h3⟩
 refine .inl ⟨l',by grind,?_⟩;unfold fF;refine⟨⟨n1⟩,rfl,hN.pos,⟨?_,rfl⟩,n3,λ_=>hN.own,λe=>by cases e⟩;show h.o+es'.length*sz<=h.o+h.cap*sz
 simp_all[Nat.mul_le_mul_right]
 rcases H.store.blk d _ hst with ⟨l,hl,hB⟩|⟨_,hE⟩
 refine .inl ⟨l,hsg _ _ hl,?_⟩;have:=adw (σ:=σ') (l:=l) (by unfold fF at hB |-;exact hB) t hc K.none (J _ (sepν _ _ _ hst hl)) hq hpq;exact this
 cases hE;simp at t
 rcases H.store.blk d y h3 with ⟨l,hl,hB⟩|⟨hn,hE⟩
 exact .inl ⟨l,hsg _ _ hl,fF.keep K (J _ (sepν _ _ _ h3 hl)) Iff.rfl hB⟩
 grind
 by_cases c1:d=id<;>by_cases c2:d'=id
 rw[c1,c2]
 grind
 grind
 obtain⟨z,hz⟩:=old d y c1 g;obtain⟨z',hz'⟩:=old d' y' c2 hd';exact H.store.inj d d' z z' m m' hz hz' (e1 d m c1 hm) (e1 d' m' c2 hm') e
 show(if d=id then some l' else σ d)=none;rw[if_neg ae];exact H.next d ae
 refine⟨by rw[hos];exact H.pJ.os,by rw[htape];exact H.pJ.tape,by rw[hout];exact H.pJ.output,by rw[hsize];exact H.pJ.size,λk hk hM=>?_⟩
 have hne:k≠h.ν:=λe=>by
  subst e;rcases H.wP _ hN.own hk with h2|h2
  obtain⟨k1,k2⟩:=H.c0 _ h2
  grind
  exact hM h2
 rw[J k hne];exact H.pJ.block k hk hM
 by_cases c1:d=id
 grind
 obtain⟨z,hz⟩:=old d y c1 g;exact H.own d z m hz (e1 d m c1 hm)
 refine H.nest.keep K.none (λ_ _ _ _ _ _ k=>(back k).1) (λ_ _ _ _ _ _ k=>J _ (back k).2) (λ_ _ _ _ _ _ k=>(H.nest.rep _ _ _ _ _ _ (back k).1).own) λd k j h2 s2 es2 b' y m hk hy hm=>?_
 by_cases c1:b'=id
 grind
 obtain⟨z,hz⟩:=old b' y c1 hy;exact H.nest.sep _ _ _ _ _ _ _ _ _ (back hk).1 hz (e1 b' m c1 hm)
theorem iQ.vals {w:World}{Y:Nat->Prop}{σ:Sg}{b sz:Nat}:∀ (rs:List (List PV)) (o:Nat),iQ w Y σ b sz rs o ->
  ∃ vs:List Value,(vs.length=rs.length*sz/\∀ v∈vs,Pq v=true)/\(∀ i v,vs[i]?=some v->w.cell? ⟨b,o+i,none⟩=some v) /\
   ∀ (w' : World) (Y' : Nat->Prop) (σ' : Sg) (I o' : Nat),(∀ p v,Rep w Y σ p v->Rep w' Y' σ' p v)->(∀ i v,vs[i]?=some v->w'.cell? ⟨I,o'+i,none⟩=some v)->iQ w' Y' σ' I sz rs o'
 | [],o,_=>⟨[],⟨by simp,by simp⟩,by simp,λ_ _ _ _ _ _ _=>by simp[iQ]⟩
 | r::rs,o,h=>by
  unfold iQ at h;obtain⟨h1,h2,h3⟩:=h;obtain⟨us,T,t⟩:=h2.vals;obtain⟨vs,⟨hv1,J⟩,g,C⟩:=iQ.vals rs (o+sz) h3;have hul:us.length=sz:=by rw[T.length];exact h1.1
  refine⟨us++vs,⟨?_,λv hv=>(List.mem_append.1 hv).elim (λh=>zM _ _ h1.2 T v h) (J v)⟩,?_,?_⟩
  grind
  grind
  intro w' Y' σ' I o' hk hc;unfold iQ;refine⟨h1,iG.KJ r us o' ?_ (λi v hi=>hc i v ak),C w' Y' σ' I (o'+sz) hk (λi v hi=>?_)⟩
  exact eU.Fa _ _ (by rw[T.length]) (λi p v e1 e2=>by
   obtain⟨v',e3,e4⟩:=T.get? e1
   grind)
  have:=hc (sz+i) v ak
  grind
theorem Um {P:Program}{T:Tab}{C:Ctx T}{w:World}{Y:Nat->Prop}{σ:Sg}{ps:List PV}{us:List Value}{st:St}{n J:Nat}(H:SW C w Y σ ps us st n){lk:Nat->Option lI}(g:∀ b x,lk b=some x->iH st b=some x)
  {p:PV} {v:Value} {rows:List (List PV)} (hv:Rep w Y σ p v) (h:rowsOf (gV.jd P T) J lk p=some rows) :
  ∃ x len cap,v=.slice x len cap/\len=rows.length/\(rows=[]\/∃ b o,x=some ⟨b,o,none⟩/\iQ w Y gJ b J rows o):=by
 cases p<;>simp[rowsOf] at h
 case sl sz es full=>
  unfold Rep at hv;obtain⟨x,len,cap,rfl,hl,_,_,hr⟩:=hv
  cases t:Nat.beq sz J with
  | true=>
   rw[t] at h;simp only[cond_true,Option.some.injEq] at h;subst h;have:=Nat.eq_of_beq_eq_true t
   grind
  | false=>
   grind
 case os b r m=>
  split at h
  rename_i ro sz rows' t
  cases I:Nat.beq sz J with
  | false=>grind
  | true=>
   rw[I] at h;simp only[cond_true,Option.some.injEq] at h;subst h;have:=Nat.eq_of_beq_eq_true I;subst this;obtain⟨x,cap,rfl,hn,hl,hr⟩:=IG hv (H.store.blk b _ (g _ _ t));exact⟨x,m,cap,rfl,hl,hr.imp id λ⟨b',o,e,_,_,hr⟩=>⟨b',o,e,hr⟩⟩
  cases h
theorem AL {P:Program}{w:World}{size n:Nat}{x:Option Addr}{len cap:Nat}{vs:List Value}(T:vs.length=n*size)(h:vs=[]\/∃ b o,x=some ⟨b,o,none⟩/\∀ i v,vs[i]?=some v->w.cell? ⟨b,o+i,none⟩=some v) :
  (Builtin.firstCells size n (.slice x len cap)).run P w=.ok vs.toArray w:=by
 cases x with
 | none=>
  rcases h with rfl|⟨b,o,e,_⟩
  simp[Builtin.firstCells]
  grind
 | some a=>
  rcases h with rfl|⟨b,o,e,hc⟩
  grind[Builtin.firstCells,loadCells,loadCellsFrom,Sem.run_pure]
  obtain rfl:a=⟨b,o,none⟩:=Option.some.inj e
  grind[Builtin.firstCells,loadCells,DD]
theorem XT:∀ (rounds T c:Nat),c<=T+T / 4+192->Builtin.growBy T rounds c<=T+T / 4+192
 | 0,T,c,h=>by simpa [Builtin.growBy] using h
 | rounds+1,T,c,h=>by
  simp only[Builtin.growBy]
  split
  exact h
  exact XT rounds T _ ae
theorem aca {T cap:Nat}(h:¬ T<=cap):Builtin.nextslicecap T cap<=2*T+192:=by
 grind[Builtin.nextslicecap,XT]
theorem acb {T old:Nat}{e:TypeId}(t:Nat)(h:T<=4611686018427387904):(Question.appendCap T old e).cut t<=9223372036854775807:=by
 simp only[Question.cut];have:=Nat.mod_lt t (show 2 ^ 63-T > 0 by omega);omega
theorem acd {T old:Nat}{e:TypeId}(t:Nat):T<=(Question.appendCap T old e).cut t:=by
 grind[Question.cut]
section
variable {P:Program}{T:Tab}(hT:iK P T){C:Ctx T}{o:Oper}{a:Act}{w:World}{Y:Nat->Prop}{σ:Sg}{ps:List PV}{st:St}{n id:Nat}{K:PV->Dl->Prop}{lk:Nat->Option lI}
 (H:SW C w Y σ ps a.tmps.toList st n) (hlk:∀ b x,lk b=some x->iH st b=some x) (hid:σ id=none/\T.oZ<=id) (hU:OZ P)
theorem KP (H:SW C w Y σ ps a.tmps.toList st n)(hid:σ id=none/\T.oZ<=id){t u:TypeId}{ts:List TypeId}{et:TypeId}{inf:TypeInfo}{z:List PV}{old new:List (List PV)}{x y:Option Addr}{sl sc yl yc:Nat}{ty:TypeId}{us vs:List Value}{eu:TypeId}
  (hu:P.underlying t=some (.slice et)) (hu2:P.underlying u=some (.slice eu)) (hi:P.info? et=some inf) (hz:Iz P et=some z) (hpos:0<P.cellsOf et) (hzl:z.length=P.cellsOf et)
  (hold:us.length=sl*P.cellsOf et/\(us=[]\/∃ b o,x=some ⟨b,o,none⟩/\∀ i v,us[i]?=some v->w.cell? ⟨b,o+i,none⟩=some v))
  (g:vs.length=yl*P.cellsOf et/\(vs=[]\/∃ b o,y=some ⟨b,o,none⟩/\∀ i v,vs[i]?=some v->w.cell? ⟨b,o+i,none⟩=some v))
  (hsl:sl=old.length) (hyl:yl=new.length)
  (hrows:∀ (w' : World) (Y' : Nat->Prop) (b' : Nat),(∀ p v,Rep w Y gJ p v->Rep w' Y' gJ p v)->(∀ i v,(us++vs)[i]?=some v->w'.cell? ⟨b',0+i,none⟩=some v)->iQ w' Y' gJ b' (P.cellsOf et) (old++new) 0)
  (I:¬ sl+yl<=sc) (hroom:(2*(sl+yl)+192)*inf.bytes<=140737488355328) (hbig:sl+yl<=4611686018427387904) :
  ∃ cv w' Y' σ',(Builtin.append_ (t::u::ts).toArray ty #[.slice x sl sc,.slice y yl yc]).run P w=.ok cv w' /\
   SW C w' Y' σ' ps a.tmps.toList (nD st id (some (.arr false (P.cellsOf et) (old++new)))) (max n (id+1))/\Rep w' Y' σ' (.os id 0 (old.length+new.length)) cv/\Off id σ σ':=by
 obtain⟨zv,hzr,hzrep⟩:=GI hz;have hinf:P.info? et≠none:=by rw[hi];simp
 let wd:World:={ w with drawn:=w.drawn+1 };obtain⟨cap,hcap⟩:∃ cap,cap=(Question.appendCap (sl+yl) sc et).cut (w.tape w.drawn (Question.appendCap (sl+yl) sc et)):=⟨_,rfl⟩;have hge:sl+yl<=cap:=by grind[acd]
 have Hd:=H.drawn (w.drawn+1)
 let rest:Array Value:=Builtin.zeroCells zv.cells (cap-(sl+yl))
 let arr:Array Value:=us.toArray++vs.toArray++rest
 have hzsz:zv.cells.size=P.cellsOf et:=by
  have:=(hzrep w Y gJ).length
  grind
 have harr:arr.size=cap*P.cellsOf et:=by
  simp only[arr,rest,Builtin.zeroCells,Array.size_append,List.size_toArray,hold.1,g.1,Array.size_map,Array.size_range,hzsz];rw[<- Nat.add_mul,<- Nat.add_mul]
  congr 1;omega
 obtain⟨Y2,σ2,H2,J,hoff⟩:=SW.YU (a:=a) (m:=cap) (arr:=arr) (rows:=old++new) Hd hid et hpos ⟨by grind,by grind[acb]⟩ harr (by
  intro w' Y' hk hb;refine hrows w' Y' _ (λp v hp=>hk p v (hp.drawn _)) (λi v hv=>?_);rw[cell_of_block hb]
  grind)
 rw[List.length_append] at J;refine⟨_,_,Y2,σ2,?_,H2,J,hoff⟩
 have c1:¬ (((sl+yl:Nat):Int) > IntKind.i64.max/\(False\/inf.bytes=0)):=by
  simp_all;omega
 have c2:¬ (Builtin.nextslicecap (sl+yl) sc*inf.bytes > 2 ^ 48):=by
  have:=Nat.mul_le_mul_right inf.bytes (aca I);omega
 have r1:=AL (P:=P) (w:=wd) (size:=P.cellsOf et) (n:=sl) (x:=x) (len:=sl) (cap:=sc) hold.1 hold.2;have r2:=AL (P:=P) (w:=wd) (size:=P.cellsOf et) (n:=yl) (x:=y) (len:=yl) (cap:=yc) g.1 g.2
 have ask:∀ k,(askRoom k).run P wd=.ok () wd:=by
  simp_all
 have ch:(choose (Question.appendCap (sl+yl) sc et)).run P w=.ok cap wd:=by
  grind[choose,Sem.run,Question.forced]
 simp only[Builtin.append_,List.getElem?_toArray,List.getElem?_cons_zero,List.getElem?_cons_succ,Sem.run_bind,kD hu,kD hu2,Result.andThen,run_sizeOf hinf,Sem.run_pure];simp only[Bool.false_eq_true,if_false,Builtin.lenOf,Sem.run_bind,Sem.run_pure,Result.andThen];rw[if_neg I];simp only[Sem.run_bind,Fb hi,Result.andThen];rw[if_neg c1];simp only[Sem.run_bind,Fb hi,Result.andThen];rw[if_neg c2];simp only[Sem.run_bind,ch,Fb hi,Result.andThen,ask,r1,Bool.not_false,if_true,r2,hzr,newRow,newObj,Sem.run_pure];simp only[Sem.run];rw[<- hsl,<- hyl];rfl
theorem KQ {t u:TypeId}{ts:List TypeId}{et:TypeId}{x y:Option Addr}{sl sc yl yc:Nat}{ty:TypeId}{vs:List Value}{eu:TypeId}
  (hu:P.underlying t=some (.slice et)) (I:P.underlying u=some (.slice eu)) (hinf:P.info? et≠none)
  (T:vs.length=yl*P.cellsOf et/\(vs=[]\/∃ b o,y=some ⟨b,o,none⟩/\∀ i v,vs[i]?=some v->w.cell? ⟨b,o+i,none⟩=some v))
  (J:sl+yl<=sc) {w' : World} (g:∀ b o,x=some ⟨b,o,none⟩->(storeCells ⟨b,o+sl*P.cellsOf et,none⟩ vs).run P w=.ok () w') (C:x=none->w'=w) (hx:∀ a,x=some a->a.spot=none) :
  (Builtin.append_ (t::u::ts).toArray ty #[.slice x sl sc,.slice y yl yc]).run P w=.ok (.slice x (sl+yl) sc) w':=by
 have r2:=AL (P:=P) (w:=w) (size:=P.cellsOf et) (n:=yl) (x:=y) (len:=yl) (cap:=yc) T.1 T.2;simp only[Builtin.append_,List.getElem?_toArray,List.getElem?_cons_zero,List.getElem?_cons_succ,Sem.run_bind,kD hu,kD I,Result.andThen,run_sizeOf hinf,Sem.run_pure];simp only[Bool.false_eq_true,if_false,Builtin.lenOf,Sem.run_bind,Sem.run_pure,Result.andThen];rw[if_pos J];simp only[Sem.run_bind,Bool.not_false,if_true,r2,Result.andThen]
 cases x with
 | none=>simp_all
 | some a=>
  obtain⟨b,o,sp⟩:=a;have:=hx _ rfl;simp only at this;subst this;simp only[Sem.run_bind,addr_add]
  simp_all
end
end Go.Pv
namespace Go.Pv
open Go
section
variable {P:Program}{T:Tab}(hT:iK P T){C:Ctx T}{o:Oper}{a:Act}{w:World}{Y:Nat->Prop}{σ:Sg}{ps:List PV}{st:St}{n id:Nat}{K:PV->Dl->Prop}{lk:Nat->Option lI}
 (H:SW C w Y σ ps a.tmps.toList st n) (hlk:∀ b x,lk b=some x->iH st b=some x) (hid:σ id=none/\T.oZ<=id) (hU:OZ P)
theorem VK {w:World}{Y:Nat->Prop}{b:Nat}:∀ (rows:List (List PV)) (T:List (Option Int)) (o:Nat),iQ w Y gJ b 1 rows o->rows.map ads=T->∀ (j:Nat) (n:Int),T[j]?=some (some n)->w.cell? ⟨b,o+j,none⟩=some (.int .u8 n)
 | [],T,o,_,e,j,n,h=>by grind
 | r::rows,T,o,hR,e,j,n,h=>by
  subst e;unfold iQ at hR;obtain⟨_,h2,J⟩:=hR
  cases j with
  | zero=>
   simp only[List.map_cons,List.getElem?_cons_zero,Option.some.injEq] at h;unfold ads at h
   split at h
   cases h;unfold iG at h2;obtain⟨⟨v,hc,hv⟩,_⟩:=h2;rw[Nat.add_zero,hc,VD hv]
   cases h;unfold iG at h2;obtain⟨⟨v,hc,hv⟩,_⟩:=h2;rw[Nat.add_zero,hc,vN hv]
   cases h
  | succ j=>
   have:=VK rows _ (o+1) J rfl j n bg
   grind
theorem VL:∀ (l:List UInt8) (r:ByteArray),((l.map (λc=>(c.toNat:Int))).foldl (λr n=>r.push (UInt8.ofNat n.toNat)) r)=⟨r.data++l.toArray⟩
 | [],r=>by cases r;simp
 | c::l,r=>by
  simp only[List.map_cons,List.foldl_cons];rw[VL l]
  simp_all
theorem Un {α:Type}{x:Array α}{t u:α}{l:List α}(h:x.toList=t::u::l):x=(t::u::l).toArray:=by grind
theorem rD {b:Builtin}{args:Array Operand}{ts:Array TypeId}{v:PV}{δ:Dl}{cv:Value}{w' : World}{Y' : Nat->Prop}{σ' : Sg}(ho:o.op=.call { callee:=.builtin b,args:=args,argTypes:=ts })
  (hr:∀ ty cs,(builtin b ts ty cs (args.toList.map a.eval).toArray).run P w=.ok (.value cv) w') (H' : SW C w' Y' σ' ps a.tmps.toList (jf δ st) (uI δ n id)) (hv:Rep w' Y' σ' v cv) (T:Off id σ σ') (I:K v δ):qh P C o a w σ ps st n id K:=by
 have J:args.map a.eval=(args.toList.map a.eval).toArray:=by grind
 refine⟨v,δ,cv,w',Y',σ',I,.inl ?_,H',hv,T⟩
 grind[execOp,resolve,invoke]
include hT H hlk hid in
theorem aez {args:Array Operand}{ts:Array TypeId}(ho:o.op=.call { callee:=.builtin .append,args:=args,argTypes:=ts })(h:nV T (gV.jd P T) (.call { callee:=.builtin .append,args:=args,argTypes:=ts }) ps lk id K):qh P C o a w σ ps st n id K:=by
 have hargs:=vM H args.toList;simp only[nV] at h;generalize hvs:args.toList.map a.eval=vs at hargs
 split at h
 all_goals first|(exact h.elim)|skip
 contradiction
 contradiction
 contradiction
 contradiction
 contradiction
 contradiction
 ·rename_i s x t u tl hb he ht;rw[he] at hargs;obtain⟨sv,xv,rfl,hs,hx⟩:=Qv hargs;have ht':=Un ht;subst ht'
  split at h
  ·rename_i a1 s1 z1 p1 esz bytes z a2 s2 z2 p2 k1 k2 k3 e1 e2;obtain⟨et,hu,rfl,rfl,hz⟩:=l7 hT e1;obtain⟨eu,hu2,_⟩:=l7 hT e2
   cases hb:(kR (P.cellsOf et)&&Nat.beq (nN z) (P.cellsOf et)) with
   | false=>rw[hb] at h;exact h.elim
   | true=>
    rw[hb] at h;simp only[cond_true] at h;rw[Bool.and_eq_true,vK] at hb;have hinf:=kE hb.1;have hzl:=Nat.eq_of_beq_eq_true hb.2
    have hpos:0<P.cellsOf et:=by
     rcases Nat.eq_zero_or_pos (P.cellsOf et) with h0|h0
     have:=hb.1;rw[h0] at this;simp[kR] at this
     exact h0
    cases hi:P.info? et with
    | none=>exact absurd hi hinf
    | some inf=>
    have hbe:=PH hi
    have rd:∀ {new:List (List PV)},rowsOf (gV.jd P T) (P.cellsOf et) lk x=some new->∃ y yc vs,xv=.slice y new.length yc/\(vs.length=new.length*P.cellsOf et/\(vs=[]\/∃ b o,y=some ⟨b,o,none⟩/\∀ i v,vs[i]?=some v->w.cell? ⟨b,o+i,none⟩=some v))/\(∀ v∈vs,Pq v=true) /\
      (∀ (w' : World) (Y' : Nat->Prop) (b' o' : Nat),(∀ p v,Rep w Y gJ p v->Rep w' Y' gJ p v)->(∀ i v,vs[i]?=some v->w'.cell? ⟨b',o'+i,none⟩=some v)->iQ w' Y' gJ b' (P.cellsOf et) new o'):=by
     intro new hn;obtain⟨y,len,yc,rfl,rfl,hr⟩:=Um H hlk hx hn;rcases hr with rfl|⟨b,o',rfl,hr⟩
     exact⟨y,yc,[],rfl,⟨by simp,.inl rfl⟩,by simp,λ_ _ _ _ _ _=>by simp[iQ]⟩
     obtain⟨vs,⟨g1,g1'⟩,g2,g3⟩:=hr.vals;exact⟨_,yc,vs,rfl,⟨g1,.inr ⟨b,o',rfl,g2⟩⟩,g1',λw' Y' b' o' hk hc=>g3 w' Y' gJ b' o' hk hc⟩
    have fresh:∀ {st0:St} {sx:Option Addr} {new:List (List PV)} {δ:Dl} {ty:TypeId},SW C w Y σ ps a.tmps.toList st0 n->rowsOf (gV.jd P T) (P.cellsOf et) lk x=some new->sv=.slice sx 0 0 ->
      (2*new.length+192)*P.bytesOf et<=140737488355328->new.length<=4611686018427387904->jf δ st=nD st0 id (some (.arr false (P.cellsOf et) new))->uI δ n id=max n (id+1)->K (.os id 0 new.length) δ->qh P C o a w σ ps st n id K:=by
     intro st0 sx new δ ty H0 hn hsv hroom hbig hδ hnx hK;obtain⟨y,yc,vs,rfl,hvs2,hone,htr⟩:=rd hn;subst hsv
     by_cases h0:new.length=0
     have hnil:new=[]:=List.eq_nil_of_length_eq_zero h0;subst hnil;have hvn:vs=[]:=List.eq_nil_of_length_eq_zero (by simpa using hvs2.1);refine rD ho (δ:=δ) (cv:=.slice sx 0 0) (w':=w) (Y':=Y) (σ':=σ) (λty cs=>?_) (by rw[hδ,hnx];exact H0.empty hid _) ?_ (Off.refl _ _) hK
     rw[hvs];have r2:=AL (P:=P) (w:=w) (size:=P.cellsOf et) (n:=0) (x:=y) (len:=0) (cap:=yc) (vs:=[]) aF (.inl rfl);simp only[builtin,Builtin.append_,List.getElem?_toArray,List.getElem?_cons_zero,List.getElem?_cons_succ,Sem.run_bind,kD hu,kD hu2,Result.andThen,run_sizeOf hinf,Sem.run_pure,List.length_nil];simp only[Bool.false_eq_true,if_false,Builtin.lenOf,Sem.run_bind,Sem.run_pure,Result.andThen];rw[if_pos (Nat.le_refl _)];simp only[Sem.run_bind,Bool.not_false,if_true,r2,Result.andThen];cases sx<;>simp[storeCells]
     unfold Rep;exact .inr ⟨rfl,sx,rfl⟩
     obtain⟨cv,w',Y',σ',g,H',hrep,hoff⟩:=KP (P:=P) (a:=a) (ty:=ty) (x:=sx) (sc:=0) (us:=[]) (vs:=vs) (old:=[]) (new:=new) (ts:=tl) (yc:=yc) H0 hid hu hu2 hi hz.symm hpos hzl (sl:=0) aF hvs2 aF rfl
      (λw' Y' b' hk hc=>by simpa using htr w' Y' b' 0 hk (λi v hv=>hc i v (by simpa using hv))) ae (by rw[hbe] at hroom;simpa using hroom) ae
     refine rD ho (δ:=δ) (cv:=cv) (w':=w') (Y':=Y') (σ':=σ') (λty' cs=>?_) (by rw[hδ,hnx];simpa using H') (by simpa using hrep) hoff hK;rw[hvs];simp only[builtin,Sem.run_bind];have:Builtin.append_ (t::u::tl).toArray ty' [Value.slice sx 0 0,Value.slice y new.length yc].toArray=Builtin.append_ (t::u::tl).toArray ty #[Value.slice sx 0 0,Value.slice y new.length yc]:=rfl;rw[this,g];rfl
    split at h
    rename_i sz new hn;obtain⟨g1,g2,h⟩:=h;unfold Rep at hs;obtain⟨sx,len,cap,rfl,hl,hc,U,_⟩:=hs;have:len=0:=by simpa using hl
    subst this;have:cap=0:=U rfl;subst this;exact fresh (ty:=0) H hn rfl g1 g2 rfl rfl h
    rename_i b r m new hn
    split at h
    rename_i sz rows hbk
    cases hsz:Nat.beq sz (P.cellsOf et) with
    | false=>rw[hsz] at h;exact h.elim
    | true=>
     rw[hsz] at h;simp only[cond_true] at h;have hsz:=Nat.eq_of_beq_eq_true hsz;subst hsz;obtain⟨g1,g2,h⟩:=h;have g1:(2*(m+new.length)+192)*P.bytesOf et<=140737488355328:=g1;have g2:m+new.length<=4611686018427387904:=g2;have hst:=hlk _ _ hbk;have hBS:=H.store.blk b _ hst;obtain⟨sx,cap,rfl,hmc,hml,hr⟩:=IG hs hBS;have hsub:(gV.jd P T).sub rows r m=(rows.drop r).take m:=rfl;have happ:(gV.jd P T).app ((gV.jd P T).sub rows r m) new=(rows.drop r).take m++new:=rfl;rw[happ] at h;obtain⟨y,yc,vs,rfl,hvs2,hone,htr⟩:=rd hn
     by_cases J:m+new.length<=cap
        
     unfold Rep at hs;rcases hs with ⟨l,cap',hl,e,⟨_,hc63⟩,htot,hnr⟩|⟨rfl,sx',e⟩
     cases e;have hB:=fF.yN H hlk hbk hl;unfold fF at hB;obtain⟨⟨arr,tyb,ha,has⟩,hlsz,_,⟨hle,hlnr⟩,hrows,hm,_⟩:=hB;rw[hlsz] at htot
     have hbnd:l.co+r*P.cellsOf et+(m+new.length)*P.cellsOf et<=arr.size:=by
      rw[has,<- htot];have:=Nat.mul_le_mul_right (P.cellsOf et) J;omega
     obtain⟨w',g,W⟩:=uJ (P:=P) (o:=l.co+r*P.cellsOf et+m*P.cellsOf et) vs 0 w arr ha bW hone;have W:Wrote w w' l.cb (l.co+r*P.cellsOf et+m*P.cellsOf et) arr tyb vs:=by simpa using W
     obtain⟨arr',h4,h5,h6⟩:=W.blk;have hml' : ((rows.drop r).take m++new).length=m+new.length:=by rw[List.length_append,<- hml]
     obtain⟨σ',H',hid',hoff⟩:=H.ab9 hid (x':=.arr false (P.cellsOf et) ((rows.drop r).take m++new)) (l':=⟨l.cb,l.co+r*P.cellsOf et,P.cellsOf et,l.tot,m+new.length⟩) hst (λ_ _ e=>by cases e) hl (hm rfl) rfl W.os W.tape W.output W.size W.other (by
      intro σ' _ hk;unfold fF;refine⟨⟨arr',tyb,h4,by rw[h5,has]⟩,rfl,hpos,⟨by rw[hml'];show l.co+r*P.cellsOf et+(m+new.length)*P.cellsOf et<=l.tot;omega,hml'⟩,?_,λ_=>hm rfl,λh=>by cases h⟩;refine iQ.app _ _ _ ?_ ?_
      obtain⟨us,⟨u1,_⟩,u2,u3⟩:=((hrows.drop r _ _).take m _ _).vals;refine u3 w' Y gJ l.cb _ hk (λi v hv=>?_);have hc:=u2 i v hv;rw[cell_of_block ha] at hc
      have hilt:i<us.length:=by
       by_cases hh:i<us.length
       exact hh
       rw[List.getElem?_eq_none (Nat.le_of_not_lt hh)] at hv;cases hv
      rw[u1,<- hml] at hilt;show w'.cell? ⟨l.cb,l.co+r*P.cellsOf et+i,none⟩=some v;rw[cell_of_block h4,h6,if_neg ae];exact hc
      refine htr w' Y l.cb _ hk (λi v hv=>?_)
      have hilt:i<vs.length:=by
       by_cases hh:i<vs.length
       exact hh
       rw[List.getElem?_eq_none (Nat.le_of_not_lt hh)] at hv;cases hv
      show w'.cell? ⟨l.cb,l.co+r*P.cellsOf et+((rows.drop r).take m).length*P.cellsOf et+i,none⟩=some v;rw[<- hml,cell_of_block h4,h6,if_pos ae];rw[show l.co+r*P.cellsOf et+m*P.cellsOf et+i-(l.co+r*P.cellsOf et+m*P.cellsOf et)=i by omega];exact hv)
     refine rD ho (δ:=_) (cv:=.slice (some ⟨l.cb,l.co+r*l.sz,none⟩) (m+new.length) cap) (w':=w') (Y':=Y) (σ':=σ') (λty cs=>?_) bT ?_ hoff h
     rw[hvs];have:=KQ (P:=P) (w:=w) (ts:=tl) (ty:=ty) (x:=some ⟨l.cb,l.co+r*l.sz,none⟩) (sl:=m) (sc:=cap) (yc:=yc) (w':=w') hu hu2 hinf hvs2 J (λb o e=>by cases e;rw[hlsz];exact g) (λh=>by cases h) (λa h=>by cases h;rfl);simp only[builtin,Sem.run_bind];rw[this];rfl
     unfold Rep;refine .inl ⟨_,cap,hid',?_,⟨J,hc63⟩,?_,?_⟩
     rw[hlsz];simp;rfl
     simp;omega
     show 0+(m+new.length)<=m+new.length;omega
     cases e;have hn0:new.length=0:=by omega
     have hn0' : new=[]:=List.eq_nil_of_length_eq_zero hn0;subst hn0';refine fresh (st0:=nD st b none) (ty:=0) (δ:=[(b,none),(id,some (.arr false (P.cellsOf et) ((rows.drop r).take 0++[])))]) (H.drop b) hn rfl (by simpa using g1) aF (by simp[jf]) rfl ?_;exact h
        
     have hold:∃ us:List Value,(us.length=m*P.cellsOf et/\(us=[]\/∃ b o,sx=some ⟨b,o,none⟩/\∀ i v,us[i]?=some v->w.cell? ⟨b,o+i,none⟩=some v)) /\
       (∀ (w' : World) (Y' : Nat->Prop) (b' o' : Nat),(∀ p v,Rep w Y gJ p v->Rep w' Y' gJ p v)->(∀ i v,us[i]?=some v->w'.cell? ⟨b',o'+i,none⟩=some v)->iQ w' Y' gJ b' (P.cellsOf et) ((rows.drop r).take m) o'):=by
      rcases hr with hr|⟨b',o',e,_,_,hr⟩
      rw[hr] at hml |-;refine⟨[],⟨by rw[hml];simp,.inl rfl⟩,λ_ _ _ _ _ _=>by simp[iQ]⟩
      obtain⟨us,⟨u1,_⟩,u2,u3⟩:=hr.vals;exact⟨us,⟨by rw[u1,<- hml],.inr ⟨b',o',e,u2⟩⟩,λw' Y' b' o' hk hc=>u3 w' Y' gJ b' o' hk hc⟩
     obtain⟨us,hus,hutr⟩:=hold
     obtain⟨cv,w',Y',σ',g,H',hrep,hoff⟩:=KP (P:=P) (a:=a) (ty:=0) (x:=sx) (sc:=cap) (us:=us) (vs:=vs) (old:=(rows.drop r).take m) (new:=new) (ts:=tl) (yc:=yc) (H.drop b) hid hu hu2 hi hz.symm hpos hzl (sl:=m) hus hvs2 hml rfl
      (λw' Y' b' hk hc=>by
       refine iQ.app _ _ _ (hutr w' Y' b' 0 hk (λi v hv=>hc i v ?_)) (htr w' Y' b' _ hk (λi v hv=>?_))
       rw[List.getElem?_append_left]
       exact hv
       by_cases hh:i<us.length
       exact hh
       rw[List.getElem?_eq_none (Nat.le_of_not_lt hh)] at hv;cases hv
       have:=hc (us.length+i) v bI;rw[hus.1] at this;rw[<- hml];simpa using this) J dV g2
     refine rD ho (δ:=_) (cv:=cv) (w':=w') (Y':=Y') (σ':=σ') (λty' cs=>?_) bT (by rw[<- hml] at hrep;exact hrep) hoff h;rw[hvs];simp only[builtin,Sem.run_bind];have:Builtin.append_ (t::u::tl).toArray ty' [Value.slice sx m cap,Value.slice y new.length yc].toArray=Builtin.append_ (t::u::tl).toArray 0 #[Value.slice sx m cap,Value.slice y new.length yc]:=rfl;rw[this,g];rfl
    exact h.elim
     
    rename_i b r c I sz m new hn
    split at h
    rename_i sz0 rows hbk
    cases hsz:Nat.beq sz (P.cellsOf et) with
    | false=>rw[hsz] at h;exact h.elim
    | true=>
     rw[hsz] at h;simp only[cond_true] at h;have hsz:=Nat.eq_of_beq_eq_true hsz;subst hsz;obtain⟨row,hrow,h⟩:=h
     split at h
     rename_i h' sz' es ec
     cases hb2:(Nat.beq sz' (P.cellsOf et)&&(bif Nat.beq b id then false else true)) with
     | false=>rw[hb2] at h;exact h.elim
     | true=>
      rw[hb2] at h;simp only[cond_true] at h;rw[Bool.and_eq_true] at hb2;have hs2:=Nat.eq_of_beq_eq_true hb2.1;subst hs2;have hbid:b≠id:=λe=>by have h3:=hb2.2;rw[e,show Nat.beq id id=true from Nat.beq_refl id] at h3;cases h3
      obtain⟨he,hm,g1,g2,h⟩:=h;subst he;have hm:m=es.length:=congrArg Hdr.ν hm;subst hm;have g1:(2*(es.length+new.length)+192)*P.bytesOf et<=140737488355328:=g1;have g2:es.length+new.length<=4611686018427387904:=g2;have hst:=hlk _ _ hbk;have hc:row[c]?=some (.ow I (P.cellsOf et) es):=by rw[E5,List.getD_eq_getElem?_getD] at ec;exact getD_some ec
      have h:K (.os id 0 (es.length+new.length)) [(b,some (.lq sz0 (rows.set r (row.set c (.bo b r c I (P.cellsOf et) es.length))))),(id,some (.arr false (P.cellsOf et) (es++new)))]:=by rw[<- tq];exact h
      obtain⟨y,yc,vs,rfl,hvs2,hone,htr⟩:=rd hn
      have toBo:∀ (w' : World) v,Rep w' Y gJ (.ow I (P.cellsOf et) es) v->Rep w' Y gJ (.bo b r c I (P.cellsOf et) es.length) v:=by
       intro w' v hp;unfold Rep at hp |-;rcases hp with hp|⟨h0,h1,hp⟩
       exact .inl hp
       exact .inr ⟨h0,by rw[h1];rfl,hp⟩
      have Hu:=H.ajK (q:=.bo b r c I (P.cellsOf et) es.length) hst hrow hc rfl (λ_ _ _ e=>by cases e) (toBo w);unfold Rep at hs;rcases hs with ⟨h0,rfl,hlen,hc63⟩|⟨h0,hl0,a0,rfl⟩
      have hO:lU st b r c I (P.cellsOf et) es:=⟨sz0,rows,row,hst,hrow,hc,h0⟩;have hN:=H.nest.rep _ _ _ _ _ _ hO;obtain⟨us,⟨u1,_⟩,u2,u3⟩:=hN.rows.vals
      by_cases J:es.length+new.length<=I.cap
           
      obtain⟨arr,tyb,ha,has⟩:=hN.blk
      have hbnd:I.o+(es.length+new.length)*P.cellsOf et<=arr.size:=by
       rw[has];have:=Nat.mul_le_mul_right (P.cellsOf et) J;omega
      obtain⟨w',g,W⟩:=uJ (P:=P) (o:=I.o+es.length*P.cellsOf et) vs 0 w arr ha bW hone;have W:Wrote w w' I.ν (I.o+es.length*P.cellsOf et) arr tyb vs:=by simpa using W
      obtain⟨arr',h4,h5,h6⟩:=W.blk
      obtain⟨σ',H',hid',hoff⟩:=H.take hid hst hrow hc h0 hbid (es':=es++new) (q:=.bo b r c I (P.cellsOf et) es.length) rfl (λ_ _ _ e=>by cases e) (toBo w') W.os W.tape W.output W.size W.other (λhk=>by
       refine⟨⟨arr',tyb,h4,by rw[h5,has]⟩,by rw[List.length_append];exact J,iQ.app _ _ _ ?_ ?_⟩
       refine u3 w' Y gJ I.ν _ hk (λi v hv=>?_);have hcv:=u2 i v hv;rw[cell_of_block ha] at hcv
       have hilt:i<us.length:=by
        by_cases hh:i<us.length
        exact hh
        rw[List.getElem?_eq_none (Nat.le_of_not_lt hh)] at hv;cases hv
       rw[u1] at hilt;rw[cell_of_block h4,h6,if_neg ae];exact hcv
       refine htr w' Y I.ν _ hk (λi v hv=>?_)
       have hilt:i<vs.length:=by
        by_cases hh:i<vs.length
        exact hh
        rw[List.getElem?_eq_none (Nat.le_of_not_lt hh)] at hv;cases hv
       rw[cell_of_block h4,h6,if_pos ae];rw[show I.o+es.length*P.cellsOf et+i-(I.o+es.length*P.cellsOf et)=i by omega];exact hv)
      refine rD ho (δ:=_) (cv:=.slice (some ⟨I.ν,I.o,none⟩) (es.length+new.length) I.cap) (w':=w') (Y':=Y) (σ':=σ') (λty cs=>?_) bT ?_ hoff h
      rw[hvs];have:=KQ (P:=P) (w:=w) (ts:=tl) (ty:=ty) (x:=some ⟨I.ν,I.o,none⟩) (sl:=es.length) (sc:=I.cap) (yc:=yc) (w':=w') hu hu2 hinf hvs2 J (λb o e=>by cases e;exact g) (λh=>by cases h) (λa h=>by cases h;rfl);simp only[builtin,Sem.run_bind];rw[this];rfl
      unfold Rep;refine .inl ⟨_,I.cap,hid',?_,⟨J,hc63⟩,?_,?_⟩
      simp
      simp
      show 0+(es.length+new.length)<=(es++new).length;rw[List.length_append];omega
           
      obtain⟨cv,w',Y',σ',g,H',hrep,hoff⟩:=KP (P:=P) (a:=a) (ty:=0) (x:=some ⟨I.ν,I.o,none⟩) (sc:=I.cap) (us:=us) (vs:=vs) (old:=es) (new:=new) (ts:=tl) (yc:=yc) Hu hid hu hu2 hi hz.symm hpos hzl (sl:=es.length) ⟨u1,.inr ⟨_,_,rfl,u2⟩⟩ hvs2 rfl rfl
       (λw' Y' b' hk hc=>by
        refine iQ.app _ _ _ (u3 w' Y' gJ b' 0 hk (λi v hv=>hc i v ?_)) (htr w' Y' b' _ hk (λi v hv=>?_))
        rw[List.getElem?_append_left]
        exact hv
        by_cases hh:i<us.length
        exact hh
        rw[List.getElem?_eq_none (Nat.le_of_not_lt hh)] at hv;cases hv
        have:=hc (us.length+i) v bI;rw[u1] at this
        simpa using this) J dV g2
      refine rD ho (δ:=_) (cv:=cv) (w':=w') (Y':=Y') (σ':=σ') (λty' cs=>?_) bT hrep hoff h;rw[hvs];simp only[builtin,Sem.run_bind];have:Builtin.append_ (t::u::tl).toArray ty' [Value.slice (some ⟨I.ν,I.o,none⟩) es.length I.cap,Value.slice y new.length yc].toArray=Builtin.append_ (t::u::tl).toArray 0 #[Value.slice (some ⟨I.ν,I.o,none⟩) es.length I.cap,Value.slice y new.length yc]:=rfl;rw[this,g];rfl
      have hes:es=[]:=List.eq_nil_of_length_eq_zero hl0;subst hes;refine fresh (st0:=nD st b (some (.lq sz0 (rows.set r (row.set c (.bo b r c I (P.cellsOf et) 0)))))) (ty:=0) (δ:=[(b,some (.lq sz0 (rows.set r (row.set c (.bo b r c I (P.cellsOf et) 0))))),(id,some (.arr false (P.cellsOf et) ([]++new)))]) Hu hn rfl (by simpa using g1) (by simpa using g2) (by simp[jf]) rfl ?_;have h1:([]:List (List PV)).length+new.length=new.length:=by simp
      rw[h1] at h;exact h
     exact h.elim
    exact h.elim
    exact h.elim
  exact h.elim
 all_goals contradiction
theorem VM {w:World}{Y:Nat->Prop}{b:Nat}:∀ (l:List UInt8) (o:Nat),(∀ (j:Nat) (h:j<l.length),w.cell? ⟨b,o+j,none⟩=some (.int .u8 (l[j].toNat:Int)))->iQ w Y gJ b 1 (l.map λc=>[.si .u8 (c.toNat:Int)]) o
 | [],o,_=>by simp[iQ]
 | c::l,o,h=>by
  simp only[List.map_cons];unfold iQ;refine⟨⟨rfl,rfl⟩,?_,VM l (o+1) λj hj=>?_⟩
  have:=h 0 aF
  simp_all[iG,Rep]
  have:=h (j+1) aY
  grind
include hT H hlk in
theorem ace {s d:TypeId}{x:Operand}(ho:o.op=.convert s d x)(h:nV T (gV.jd P T) (.convert s d x) ps lk id K):qh P C o a w σ ps st n id K:=by
 have hc:=kJ H x;simp only[nV] at h
 split at h
 rename_i e1 e;obtain⟨_,hs,_⟩:=l7 hT e1;have g:=Qm hT e
 split at h
 rename_i rows hr;obtain⟨⟨el,hs2,he⟩,J,hb,hK⟩:=h;obtain⟨x',len,cap,ev,hl,hrep⟩:=Um H hlk hc hr;refine qh.quiet H (cv:=.string J) ?_ bz hK;have hlen:rows.length=J.data.toList.length:=by simpa using congrArg List.length hb
 have I:(Conv.bytesToString (.slice x' len cap)).run P w=.ok (.string J) w:=by
  cases x' with
  | none=>
   rcases hrep with rfl|⟨b,o',e0,_⟩
   have:J=ByteArray.empty:=by
    have:J.data.toList=[]:=by
     cases hh:J.data.toList with
     | nil=>rfl
     | cons _ _=>rw[hh] at hlen;simp at hlen
    cases J with
    | mk d=>simp at this;subst this;rfl
   subst this;simp[Conv.bytesToString]
   cases e0
  | some ad=>
   have t:(loadCells ad len).run P w=.ok ((J.data.toList.map (λc=>(c.toNat:Int))).map (Value.int .u8)).toArray w:=by
    rcases hrep with rfl|⟨b,o',e0,hR⟩
    have h0:J.data.toList=[]:=by
     cases hh:J.data.toList with
     | nil=>rfl
     | cons _ _=>rw[hh] at hlen;simp at hlen
    rw[hl,h0];simp[loadCells,loadCellsFrom]
    cases e0;have hlen2:len=((J.data.toList.map (λc=>(c.toNat:Int))).map (Value.int .u8)).length:=by rw[hl,hlen];simp
    rw[hlen2,loadCells]
    rw[DD _ 0 #[] (λj v hj=>by
     obtain⟨c,hc1,hc2⟩:∃ c,J.data.toList[j]?=some c/\v=.int .u8 (c.toNat:Int):=by
      rw[List.getElem?_map,List.getElem?_map] at hj
      cases hh:J.data.toList[j]? with
      | none=>rw[hh] at hj;cases hj
      | some c=>rw[hh] at hj;exact⟨c,rfl,by simpa using hj.symm⟩
     have:=VK rows _ o' hR hb j (c.toNat:Int) (by rw[List.getElem?_map,hc1];rfl);rw[hc2,Nat.zero_add];exact this)]
    simp
   rw[run_bytesToString w ad len cap _ t,VL]
   cases J with
   | mk d=>rw[show ByteArray.empty.data++d.toList.toArray=d from by show #[]++d.toList.toArray=d;rw[Array.empty_append,Array.toArray_toList]]
 simp only[execOp,ho,ev,Sem.run_bind];rw[run_convert_bytes_string w s d el x' len cap hs2 he g,I];simp[Result.andThen]
 exact h.elim
 rename_i e1 e;have hs:=Qm hT e1;obtain⟨el0,hd0,_⟩:=l7 hT e
 split at h
 rename_i b hb;obtain⟨⟨el,g,he⟩,hK⟩:=h;rw[hb] at hc;have hc:=IE hc
 have I:(execOp a.eval o).run P w=.ok (.value (.slice (some ⟨w.heap.size,0,none⟩) b.size (grownCap w b.size 0 el))) (Lib.bytesWorld w el b):=by
  simp only[execOp,ho,hc,Sem.run_bind];rw[Lib.run_convert_string_bytes w s d el b hs g he];simp[Result.andThen]
 have hchg:Chg w (Lib.bytesWorld w el b):=⟨rfl,rfl,rfl,by rw[Lib.bytesWorld_size];omega,λk hk=>Lib.bytesWorld_at_old w el b k hk⟩;refine⟨_,[],_,_,Y,σ,hK,.inl I,H.afF hchg,?_,Off.refl _ _⟩;unfold Rep;refine⟨_,b.size,grownCap w b.size 0 el,rfl,by rw[List.length_map,Array.length_toList];rfl,grownCap_ge _ _ _ _,(λe=>by cases e),.inr ⟨w.heap.size,0,rfl,⟨by rw[Lib.bytesWorld_size];omega,λhy=>?_⟩,?_⟩⟩
 have:=H.vJ _ hy;omega
 refine VM b.data.toList 0 λj hj=>?_;have hj2:j<b.size:=by rw[Array.length_toList] at hj;exact hj
 rw[Nat.zero_add,Lib.bytesWorld_cell w el b j hj2];unfold List.getD;rw[List.getElem?_eq_getElem hj];rfl
 exact h.elim
 rename_i k e1 e;obtain⟨_,u,_,hs,_⟩:=vX hT e1 rfl;have g:=ahX hT e
 split at h
 rename_i e;rw[e] at hc;have hc:=vN hc;refine qh.quiet H (cv:=.int k (k.wrap _)) ?_ dH h;simp[execOp,ho,hc,convert,kD hs,kD g,Conv.intToInt]
 rename_i e;rw[e] at hc;have hc:=VD hc;refine qh.quiet H (cv:=.int k (k.wrap _)) ?_ (by simp[Rep,gV.jd];rfl) h;simp[execOp,ho,hc,convert,kD hs,kD g,Conv.intToInt]
 exact h.elim
 exact h.elim
end
end Go.Pv
namespace Go.Pv
open Go
section
variable {P:Program}{T:Tab}(hT:iK P T){C:Ctx T}{o:Oper}{a:Act}{w:World}{Y:Nat->Prop}{σ:Sg}{ps:List PV}{st:St}{n id:Nat}{K:PV->Dl->Prop}{lk:Nat->Option lI}
 (H:SW C w Y σ ps a.tmps.toList st n) (hlk:∀ b x,lk b=some x->iH st b=some x) (hid:σ id=none/\T.oZ<=id) (hU:OZ P)
theorem aaN {α:Type}{x:Array α}{t:α}{l:List α}(h:x.toList=t::l):x=(t::l).toArray:=by grind
include hT H hlk hid in
theorem afQ {args:Array Operand}{ts:Array TypeId}(ho:o.op=.call { callee:=.builtin .clear,args:=args,argTypes:=ts })(h:nV T (gV.jd P T) (.call { callee:=.builtin .clear,args:=args,argTypes:=ts }) ps lk id K):qh P C o a w σ ps st n id K:=by
 have I:=vM H args.toList;simp only[nV] at h;generalize hvs:args.toList.map a.eval=vs at I
 split at h
 all_goals first|(exact h.elim)|contradiction|skip
 rename_i b r m t tl hb he ht;rw[he] at I;unfold eU at I;obtain⟨sv,vs',rfl,hs,hnil⟩:=I;unfold eU at hnil;subst hnil;have ht':=aaN ht;subst ht'
 split at h
 ·rename_i a1 s1 z1 p1 esz bytes z e1;obtain⟨et,hu,rfl,rfl,hz⟩:=l7 hT e1;obtain⟨zv,hzr,g⟩:=GI hz.symm
  split at h
  ·rename_i sz rows hbk
   cases hb:(Nat.beq sz (P.cellsOf et)&&Nat.beq (nN z) sz&&kR sz&&gW z) with
   | false=>rw[hb] at h;exact h.elim
   | true=>
    rw[hb] at h;simp only[cond_true] at h;simp only[Bool.and_eq_true,vK] at hb;obtain⟨⟨⟨h1,h2⟩,h3⟩,h4⟩:=hb;have h1:=Nat.eq_of_beq_eq_true h1;have h2:=Nat.eq_of_beq_eq_true h2;subst h1
    have hpos:0<P.cellsOf et:=by
     rcases Nat.eq_zero_or_pos (P.cellsOf et) with h0|h0
     rw[h0] at h3;simp[kR] at h3
     exact h0
    have hinf:=kE h3
    cases hi:P.info? et with
    | none=>exact absurd hi hinf
    | some inf=>
    have hst:=hlk _ _ hbk;obtain⟨z2,hl2,hc2,hw2,h,_⟩:=AB h;have hzrep2:∀ w Y σ,eU w Y σ z2 zv.cells.toList:=λw Y σ=>hw2 _ _ _ _ (g w Y σ);have hspl:(gV.jd P T).spl rows r ((gV.jd P T).rep m z2)=rows.take r++List.replicate m z2++rows.drop (r+m):=by simp[gV.jd]
    rw[hspl] at h;have J:zv.cells.size=P.cellsOf et:=by have:=(g w Y σ).length;rw[Array.length_toList] at this;omega
    have none0:m=0->∀ x cap,sv=.slice x 0 cap->qh P C o a w σ ps st n id K:=by
     intro hm x cap hsv;subst hm;have e0:rows.take r++List.replicate 0 z2++rows.drop (r+0)=rows:=by simp
     rw[e0] at h;refine rD ho (δ:=_) (cv:=.tuple #[]) (w':=w) (Y':=Y) (σ':=σ) (λty cs=>?_) ?_ ?_ (Off.refl _ _) h
     rw[hvs,hsv];cases x<;>simp[builtin,Builtin.clear_,Sem.run_bind,kD hu,Result.andThen,Sem.run_pure]
     exact(H.ext λc x hx=>by
      simp only[jf] at hx;rw[gG] at hx
      by_cases hc:b=c
      subst hc;rw[if_pos rfl] at hx;cases hx;exact hst
      rw[if_neg hc] at hx;exact hx).mono dG
     simp[Rep,eU]
    unfold Rep at hs;rcases hs with ⟨l,cap,hl,e,hmc,htot,hnr⟩|⟨e0,sx,e⟩
    by_cases hm0:m=0
    subst hm0;exact none0 rfl _ _ e
    subst e;have hB:=fF.yN H hlk hbk hl;unfold fF at hB;obtain⟨⟨arr,tyb,ha,has⟩,hlsz,_,⟨hle,hlnr⟩,hrows,hm,_⟩:=hB;rw[hlsz] at htot
    let zs:List Value:=(Builtin.zeroCells zv.cells m).toList;have hzs:zs.length=m*P.cellsOf et:=by simp[zs,Builtin.zeroCells,J]
    have hzg:∀ i,i<m*P.cellsOf et->zs[i]?=zv.cells.toList[i % P.cellsOf et]?:=by
     intro i hi2;have hlt:i % P.cellsOf et<zv.cells.size:=by rw[J];exact Nat.mod_lt _ hpos
     simp only[zs,Builtin.zeroCells,Array.getElem?_toList,Array.getElem?_map];rw[Array.getElem?_range,if_pos (by rw[J];exact hi2)];simp only[Option.map_some,J];rw[J] at hlt;rw[<- J] at hlt |-;simp[getElem!_def,hlt]
    have hone:∀ v∈zs,Pq v=true:=by
     intro v hv;obtain⟨i,hi2,e⟩:=List.mem_iff_getElem.1 hv;have:zs[i]?=some v:=by rw[List.getElem?_eq_getElem hi2,e]
     rw[hzg i (by rw[<- hzs];exact hi2)] at this;exact zM _ _ h4 (g w Y σ) v (List.mem_of_getElem? this)
    have hrm:r+m<=rows.length:=by omega
    have hbnd:l.co+r*P.cellsOf et+zs.length<=arr.size:=by
     rw[has,hzs];have:=Nat.mul_le_mul_right (P.cellsOf et) hrm;rw[Nat.add_mul] at this;omega
    obtain⟨w',hrun,W⟩:=uJ (P:=P) (o:=l.co+r*P.cellsOf et) zs 0 w arr ha (by simpa using hbnd) hone;have W:Wrote w w' l.cb (l.co+r*P.cellsOf et) arr tyb zs:=by simpa using W
    obtain⟨arr',h5,h6,h7⟩:=W.blk;have K0:Keep w w' Y Y gJ gJ:=⟨λk _ hk=>W.other k (λe=>hk (e ▸ hm rfl)),λ_ _ h=>h,Nat.le_of_eq W.size.symm,mZ.refl _⟩;have hlen:(rows.take r++List.replicate m z2++rows.drop (r+m)).length=rows.length:=by simp;omega
    refine rD ho (δ:=[(b,some (.arr false (P.cellsOf et) (rows.take r++List.replicate m z2++rows.drop (r+m))))]) (v:=.Eu []) (cv:=.tuple #[]) (w':=w') (Y':=Y) (σ':=σ) (λty cs=>?_) ((SW.update (x':=.arr false (P.cellsOf et) (rows.take r++List.replicate m z2++rows.drop (r+m))) H hst hl (hm rfl) W.os W.tape W.output W.size W.other (λ_ _ e=>by cases e) λ_=>?_).mono (Nat.le_max_left _ _)) (by simp[Rep,eU]) (Off.refl _ _) h
    rw[hvs];obtain⟨m',rfl⟩:∃ m',m=m'+1:=⟨m-1,by omega⟩;simp only[builtin,Builtin.clear_,List.getElem?_toArray,List.getElem?_cons_zero,Sem.run_bind,kD hu,Result.andThen,hzr,hlsz];rw[show(storeCells ⟨l.cb,l.co+r*P.cellsOf et,none⟩ (Builtin.zeroCells zv.cells (m'+1)).toList).run P w=.ok () w' from hrun];simp[Sem.run_pure]
    unfold fF;refine⟨⟨arr',tyb,h5,by omega⟩,hlsz,hpos,⟨by rw[hlen];exact hle,by rw[hlen];exact hlnr⟩,?_,hm,λh=>by cases h⟩;rw[iQ.iff] at hrows |-;intro i q hq
    by_cases hin:r<=i/\i<r+m
    have hqz:q=z2:=by
     rw[List.append_assoc,List.getElem?_append_right aY,List.getElem?_append_left aY,List.getElem?_replicate] at hq
     split at hq
     exact(Option.some.inj hq).symm
     cases hq
    subst hqz;refine⟨⟨hl2.trans h2,hc2 h4⟩,?_⟩;rw[iG.iff];intro c p hc;obtain⟨v,hv,hrv⟩:=(hzrep2 w' Y gJ).get? hc;refine⟨v,?_,hrv⟩
    have hcl:c<P.cellsOf et:=by
     rw[<- h2,<- hl2]
     by_cases hh:c<q.length
     exact hh
     rw[List.getElem?_eq_none (Nat.le_of_not_lt hh)] at hc;cases hc
    have e1:l.co+i*P.cellsOf et+c-(l.co+r*P.cellsOf et)=(i-r)*P.cellsOf et+c:=by
     obtain⟨d,rfl⟩:∃ d,i=r+d:=⟨i-r,by omega⟩;rw[Nat.add_mul,show r+d-r=d by omega];omega
    have e2:(i-r)*P.cellsOf et+c<m*P.cellsOf et:=by
     have:=Nat.mul_le_mul_right (P.cellsOf et) (show(i-r)+1<=m by omega);rw[Nat.add_mul] at this;omega
    have e3:=Nat.mul_le_mul_right (P.cellsOf et) hin.1;rw[cell_of_block h5,h7,if_pos ⟨by omega,by rw[hzs];omega⟩,e1,hzg _ e2];rw[show((i-r)*P.cellsOf et+c) % P.cellsOf et=c by rw[Nat.add_comm,Nat.add_mul_mod_self_right];exact Nat.mod_eq_of_lt hcl];exact hv
    have hq' : rows[i]?=some q:=by
     by_cases hir:i<r
     rw[List.append_assoc,List.getElem?_append_left aY,List.getElem?_take_of_lt hir] at hq;exact hq
     rw[List.getElem?_append_right aY,List.getElem?_drop] at hq;rw[<- hq];congr 1;simp;omega
    obtain⟨g1,g2⟩:=hrows i q hq';refine⟨g1,?_⟩;rw[iG.iff] at g2 |-;intro c p hc;obtain⟨v,hv,hrv⟩:=g2 c p hc;refine⟨v,?_,Rep.keep p K0 v hrv⟩
    have hcl:c<P.cellsOf et:=by
     rw[<- g1.1]
     by_cases hh:c<q.length
     exact hh
     rw[List.getElem?_eq_none (Nat.le_of_not_lt hh)] at hc;cases hc
    rw[cell_of_block ha] at hv;rw[cell_of_block h5,h7,if_neg,hv]
    rintro⟨g3,g4⟩
    rw[hzs] at g4;rcases Nat.lt_or_ge i r with g5|g5
    have:=Nat.mul_le_mul_right (P.cellsOf et) (show i+1<=r by omega);rw[Nat.add_mul] at this;omega
    have:=Nat.mul_le_mul_right (P.cellsOf et) (show r+m<=i by omega);rw[Nat.add_mul] at this;omega
    subst e0;exact none0 rfl _ _ e
  exact h.elim
 exact h.elim
end
end Go.Pv
namespace Go.Pv
open Go
theorem Sm {f:PV->Option PV}:∀ {cs T:List PV},MK f cs=some T->cs.length=T.length/\∀ (i:Nat) (c d:PV),cs[i]?=some c->T[i]?=some d->f c=some d
 | [],T,h=>by grind[MK]
 | c::cs,T,h=>by
  unfold MK at h
  split at h
  cases h
  rename_i d C
  split at h
  cases h
  rename_i I J;cases h;obtain⟨h1,h2⟩:=Sm J
  grind
theorem ah6 {w:World}{Y0:Nat->Prop}{b sz:Nat}:∀ {rows:List (List PV)},(∀ row∈rows,∀ (c:Nat) (h:Hdr) (J : Nat) (C:List (List PV)),row[c]?=some (.ow h J C)->h.cap≠0->(h.ν<w.heap.size/\¬ Y0 h.ν)/\iQ w Y0 gJ h.ν J C h.o) ->
  ∀ (o:Nat),iQ w Y0 gJ b sz rows o->iQ w Y0 gJ b sz (rows.map λrow=>row.map fzC) o:=by
 intro rows t o hr;rw[iQ.iff] at hr |-;intro i q hi;rw[List.getElem?_map] at hi
 cases g:rows[i]? with
 | none=>grind
 | some row=>
  rw[g] at hi;simp only[Option.map_some,Option.some.injEq] at hi;subst hi;obtain⟨⟨h1,h2⟩,h3⟩:=hr i row g;refine⟨⟨by simpa using h1,?_⟩,?_⟩
  rw[tu] at h2 |-;intro p I;obtain⟨p0,T,rfl⟩:=List.mem_map.1 I;have:=h2 p0 T;unfold fzC
  split
  rfl
  exact this
  rw[iG.iff] at h3 |-;intro c p hc;rw[List.getElem?_map] at hc
  cases T:row[c]? with
  | none=>grind
  | some p0=>
   rw[T] at hc;simp only[Option.map_some,Option.some.injEq] at hc;subst hc;obtain⟨v,hv,I⟩:=h3 c p0 T;refine⟨v,hv,?_⟩;unfold fzC
   split
   rename_i h J C;unfold Rep at I |-
   grind
   exact I
theorem CX {P:Program}{T:Tab}{w:World}{Y Y0:Nat->Prop}{σ:Sg}{st:St}{lk:Nat->Option lI}(hst:ET w Y σ st)(g:∀ b x,lk b=some x->iH st b=some x)
  (hY:∀ k,Y0 k->Y k) (J:∀ b x l,lk b=some x->σ b=some l->¬ Y0 l.cb) (I:∀ b sz rows,lk b=some (.lq sz rows)->∀ (r:Nat) (row:List PV) (c:Nat) (h:Hdr) (t : Nat) (es:List (List PV)),rows[r]?=some row->row[c]?=some (.ow h t es)->h.cap≠0->(h.ν<w.heap.size/\¬ Y0 h.ν)/\iQ w Y gJ h.ν t es h.o):∀ (d:Nat) (p q:PV) (v:Value),frz (gV.jd P T) lk d p=some q->Rep w Y σ p v->Rep w Y0 gJ q v
 | 0,_,_,_,h,_=>by simp[frz] at h
 | d+1,p,q,v,h,hp=>by
  have K0:Keep w w Y Y0 gJ gJ:=⟨λ_ _ _=>rfl,λk _=>hY k,Nat.le_refl _,mZ.refl _⟩
  have list:∀ {cs ds:List PV} {vs:List Value},MK (frz (gV.jd P T) lk d) cs=some ds->eU w Y σ cs vs->eU w Y0 gJ ds vs:=by
   intro cs ds vs hm hr;obtain⟨h1,h2⟩:=Sm hm;refine eU.Fa _ _ (by rw[hr.length,h1]) (λi e u e1 e2=>?_)
   have hlt:i<cs.length:=by
    grind
   have hc:cs[i]?=some cs[i]:=List.getElem?_eq_getElem hlt;obtain⟨u',e3,e4⟩:=hr.get? hc;rw[e2] at e3;cases e3;exact CX hst g hY J I d _ _ _ (h2 i _ _ hc e1) e4
  unfold frz at h;cases p
  grind[Rep]
  grind[Rep]
  grind[Rep]
  grind[Rep]
  grind[Rep]
  case Ip=>grind[Rep]
  case Vo=>grind[Rep]
  case top=>cases h;simp[Rep]
  case hc=>grind[Rep]
  case sl sz es full=>
   grind[Rep,Rep.keep]
  case pp cs=>
   grind[Rep,Rep.keep]
  grind[Rep]
  grind[Rep]
  case fn f cs=>
   grind[Rep]
  case lv b c=>
   simp only at h
   split at h
   rename_i ro row hb
   split at h
   rename_i ds hd;cases h;unfold Rep at hp;obtain⟨l,hl,e⟩:=hp;rcases hst.blk b _ (g _ _ hb) with ⟨l',C,hB⟩|⟨hn,_⟩
   rw[hl] at C;cases C;have hlt:=hB.lt;unfold fF at hB;rw[yL] at hd;obtain⟨vs,hr,hcell⟩:=(hB.2.2.2.1.drop c _ _).vals
   grind[Rep,iG.KJ]
   grind
   cases h
   cases h
  case os b r n=>
   simp only at h
   split at h
   rename_i ro sz rows hb;cases h;obtain⟨a,cap,e1,e2,e3,e4⟩:=IG hp (hst.blk b _ (g _ _ hb));unfold Rep;refine⟨a,n,cap,e1,e3,e2,(λh=>by cases h),?_⟩;rcases e4 with e4|⟨b',o,ea,eb,⟨l,el,el'⟩,er⟩
   exact .inl e4
   refine .inr ⟨b',o,ea,⟨eb,by grind⟩,?_⟩;exact iQ.keep _ K0 (λ_=>rfl) _ er
   rename_i sz rows hb;cases h;unfold Rep at hp;rcases hp with ⟨l,cap,hl,e,hcap,htot,hrn⟩|⟨rfl,a,e⟩
   rcases hst.blk b _ (g _ _ hb) with ⟨l',C,hB⟩|⟨hn,_⟩
   rw[hl] at C;cases C;have hlt:=hB.lt;unfold fF at hB;have hlen:(((rows.drop r).take n).map λrow=>row.map fzC).length=n:=by grind
   unfold Rep;refine⟨_,n,cap,e,?_,hcap.1,(λh=>by cases h),.inr ⟨l.cb,_,rfl,⟨hlt,J b _ l hb hl⟩,?_⟩⟩
   exact hlen.symm
   rw[hB.2.1];have hr:=iQ.keep _ K0 (λ_=>rfl) _ ((hB.2.2.2.2.1.drop r _ _).take n _ _);refine ah6 ?_ _ hr;intro row hrow c h t es hc hne;have hm:=List.mem_of_mem_drop (List.mem_of_mem_take hrow);obtain⟨i,hi⟩:=List.getElem?_of_mem hm;obtain⟨h1,h2⟩:=I b sz rows hb i row c h t es hi hc hne;exact⟨h1,iQ.keep es K0 (λ_=>rfl) _ h2⟩
   grind
   unfold Rep;refine⟨a,0,0,e,?_,Nat.le_refl _,(λh=>by cases h),.inl ?_⟩
   show 0=(((rows.drop r).take 0).map λrow=>row.map fzC).length;simp
   show((rows.drop r).take 0).map (λrow=>row.map fzC)=[];simp
   cases h
  all_goals cases h
theorem Qw {P:Program}{T:Tab}{w:World}{Y Y0:Nat->Prop}{σ:Sg}{st:St}{lk:Nat->Option lI}(hst:ET w Y σ st)(hlk:∀ b x,lk b=some x->iH st b=some x)
  (hY:∀ k,Y0 k->Y k) (I:∀ b x l,lk b=some x->σ b=some l->¬ Y0 l.cb) (C:∀ b sz rows,lk b=some (.lq sz rows)->∀ (r:Nat) (row:List PV) (c:Nat) (h:Hdr) (J : Nat) (es:List (List PV)),rows[r]?=some row->row[c]?=some (.ow h J es)->h.cap≠0->(h.ν<w.heap.size/\¬ Y0 h.ν)/\iQ w Y gJ h.ν J es h.o) {d:Nat} {cs g:List PV} {vs:List Value} (hm:MK (frz (gV.jd P T) lk d) cs=some g) (hr:eU w Y σ cs vs):eU w Y0 gJ g vs:=by
 obtain⟨h1,h2⟩:=Sm hm;refine eU.Fa _ _ (by rw[hr.length,h1]) (λi e u e1 e2=>?_)
 have t:i<cs.length:=by
  grind
 have hc:cs[i]?=some cs[i]:=List.getElem?_eq_getElem t;obtain⟨u',e3,e4⟩:=hr.get? hc
 grind[CX]
theorem aaO {w w' : World}{Y Y' : Nat->Prop}{σ σ' : Sg}:∀ (d:Nat) (p:PV) (v:Value),JS d p=true->Rep w Y σ p v->Rep w' Y' σ' p v
 | 0,_,_,h,_=>by simp[JS] at h
 | d+1,p,v,h,hp=>by
  have list:∀ (cs:List PV) (vs:List Value),aaz (JS d) cs=true->eU w Y σ cs vs->eU w' Y' σ' cs vs:=by
   intro cs
   induction cs with
   | nil=>grind[eU]
   | cons c cs ih=>
    intro vs U hr;simp only[aaz,Bool.and_eq_true] at U;unfold eU at hr |-;obtain⟨u,us,e,h1,h2⟩:=hr;exact⟨u,us,e,aaO d c u U.1 h1,ih us U.2 h2⟩
  unfold JS at h
  grind[Rep]
theorem Rep.ak6 {w:World}{Y:Nat->Prop}{σ:Sg}{p:PV}{v:Value}(h:Rep w Y gJ p v):Rep w Y σ p v :=
 Rep.keep p ⟨λ_ _ _=>rfl,λ_ _ h=>h,Nat.le_refl _,λ_ _ h=>by cases h⟩ v h
def Qx {T:Tab}(P:Program)(k:Nat)(C:Ctx T)(Y:Nat->Prop)(σ:Sg)(w:World)(cargs:List Value)(ps:List PV)(vs:List Value)(st:St)(n:Nat)(v:PV):Prop := (callFunc k cargs.toArray).run P w=.ok (.enter k cargs.toArray) w /\ Calls P k cargs.toArray w λe w'=>∃ cv,e=.returned cv/\SW C w' Y σ ps vs st n/\Rep w' Y σ v cv
theorem Sr {P:Program}{T:Tab}{C:Ctx T}{w:World}{Y:Nat->Prop}{σ:Sg}{ps:List PV}{vs:List Value}{st:St}{n:Nat}(H:SW C w Y σ ps vs st n){lk:Nat->Option lI}(I:∀ b x,lk b=some x->iH st b=some x){k d:Nat}{args as:List PV}{J:List Value}{v:PV}
  (hm:MK (frz (gV.jd P T) lk d) args=some as) (hr:eU w Y σ args J) (hF:Fn P T.gl k as (λu=>u=v)) {f:Nat} (U:JS f v=true):Qx P k C Y σ w J ps vs st n v:=by
 obtain⟨h1,h2⟩:=hF w (λ_=>False) J (H.wQ.keep ⟨λ_ _ _=>rfl,λ_ _ h=>h.elim,Nat.le_refl _,mZ.refl _⟩) (λ_ h=>h.elim) (Qw H.store I (λ_ h=>h.elim) (λ_ _ _ _ _ h=>h) (λb sz rows hb r row c h g es h1 h2 h3=>by
  have hO:=H.nest.rep _ _ _ _ _ _ ⟨sz,rows,row,I _ _ hb,h1,h2,h3⟩;exact⟨⟨hO.lt,λh=>h⟩,hO.rows⟩) hm hr)
 refine⟨h1,Calls.mono h2 λe w' h=>?_⟩;obtain⟨cv,u,rfl,rfl,hrep,t⟩:=h;exact⟨cv,rfl,H.afF t,aaO f _ _ U hrep⟩
theorem Uj.afR {P:Program}{T:Tab}{k:Nat}{args:List PV}{E:Env}{K:PV->Env->Prop}{v:PV}(I:K v E)
  (h:∀ (C:Ctx T) Y σ w vs J,SW C w Y σ E.tmps vs E.st E.next->eU w Y σ args J->Qx P k C Y σ w J E.tmps vs E.st E.next v):Uj P T k args E K:=by
 intro C Y σ w vs J H hr;obtain⟨h1,h2⟩:=h C Y σ w vs J H hr;refine⟨h1,Calls.mono h2 λe w' hh=>?_⟩
 grind
end Go.Pv
