import Derived.Laws.StructEq
import Derived.ChangeKeysEq
import Derived.Test.YtchmoabpofnbaaaGreatC00
set_option linter.all false
namespace Go.Pv
open Go
theorem vX {P:Program}{T:Tab}(hT:iK P T){t:TypeId}{x:TI}(h:T t=x)(ok:x.ok=true) :
  ∃ i d,P.info? t=some i/\P.underlying t=some d/\x=afh P t/\x.agg=kK P t/\x.size=i.size/\x.zero=Iz P t /\
   x.plain=(if P.eqGuardType P.depth t then none else xn P 20 t) /\
   x.kind=(match d with
    | .struct J=>TK.struct (J.toList.map λf=>{ off:=f.offset,size:=P.cellsOf f.type,agg:=kK P f.type })
    | .array n e=>.arr n (P.cellsOf e) (kK P e)
    | .slice e=>.slice (P.cellsOf e) (P.bytesOf e) (Iz P e)
    | .int k=>.int k
    | .string=>.str
    | .pointer _=>.ptr
    | .map k e=>Qj P k e
    | _=>.oth):=by
 have e:=(hT t (by rw[h];exact ok)).1;rw[h] at e;subst h;unfold afh at e
 split at e
 rename_i i d h1 h2;rw[e];refine⟨i,d,h1,h2,?_,rfl,rfl,rfl,rfl,rfl⟩
 grind[afh]
 grind[TI.bad]
theorem Pz {P:Program}{T:Tab}(hT:iK P T){t:TypeId}{agg:Bool}{plain:Option (List Nat)}{size:Nat}{z:Option (List PV)}{I:List FI}
  (h:T t=⟨true,agg,size,z,plain,.struct I⟩):∃ J,P.underlying t=some (.struct J)/\I=(J.toList.map λf=>{ off:=f.offset,size:=P.cellsOf f.type,agg:=kK P f.type })/\z=Iz P t:=by
 obtain⟨i,d,h1,h2,h3,h4,h5,h6,g,C⟩:=vX hT h rfl
 grind[Qj]
theorem l7 {P:Program}{T:Tab}(hT:iK P T){t:TypeId}{agg:Bool}{plain:Option (List Nat)}{size sz bytes:Nat}{z J : Option (List PV)}
  (h:T t=⟨true,agg,size,z,plain,.slice sz bytes J⟩):∃ e,P.underlying t=some (.slice e)/\sz=P.cellsOf e/\bytes=P.bytesOf e/\J=Iz P e:=by
 obtain⟨i,d,h1,h2,g,h4,h5,h6,C,I⟩:=vX hT h rfl
 grind[Qj]
theorem Ql {P:Program}{T:Tab}(hT:iK P T){t:TypeId}{agg J:Bool}{plain:Option (List Nat)}{size n sz:Nat}{z:Option (List PV)}
  (h:T t=⟨true,agg,size,z,plain,.arr n sz J⟩):∃ e,P.underlying t=some (.array n e)/\sz=P.cellsOf e/\J=kK P e/\z=Iz P t:=by
 obtain⟨i,d,h1,h2,g,h4,h5,h6,C,I⟩:=vX hT h rfl;cases d<;>simp at I
 case map k e=>grind[Qj]
 grind
theorem ahX {P:Program}{T:Tab}(hT:iK P T){t:TypeId}{agg:Bool}{plain:Option (List Nat)}{size:Nat}{z:Option (List PV)}{k:IntKind}
  (h:T t=⟨true,agg,size,z,plain,.int k⟩):P.underlying t=some (.int k):=by
 obtain⟨i,d,h1,h2,C,h4,h5,g,I,J⟩:=vX hT h rfl
 grind[Qj]
theorem Qm {P:Program}{T:Tab}(hT:iK P T){t:TypeId}{agg:Bool}{plain:Option (List Nat)}{size:Nat}{z:Option (List PV)}
  (h:T t=⟨true,agg,size,z,plain,.str⟩):P.underlying t=some .string:=by
 obtain⟨i,d,h1,h2,C,h4,h5,g,I,J⟩:=vX hT h rfl
 grind[Qj]
theorem ahY {P:Program}{T:Tab}(hT:iK P T){t:TypeId}{agg:Bool}{plain:Option (List Nat)}{size:Nat}{z:Option (List PV)}
  (h:T t=⟨true,agg,size,z,plain,.ptr⟩):∃ e,P.underlying t=some (.pointer e):=by
 obtain⟨i,d,h1,h2,C,h4,h5,g,I,J⟩:=vX hT h rfl
 grind[Qj]
theorem VE {P:Program}{T:Tab}(hT:iK P T){t:TypeId}{agg:Bool}{plain:Option (List Nat)}{size:Nat}{z:Option (List PV)}{k:TK}
  (h:T t=⟨true,agg,size,z,plain,k⟩):P.info? t≠none/\size=P.cellsOf t/\agg=kK P t/\∃ d,P.underlying t=some d:=by
 obtain⟨i,d,h1,h2,C,h4,h5,g,I,J⟩:=vX hT h rfl
 grind[Program.cellsOf]
theorem KL:∀ (l:List FI) (n:Nat),IA l n=l[n]?
 | [],n=>by simp[IA]
 | f::l,0=>by simp[IA]
 | f::l,n+1=>by simp[IA,KL l n]
theorem run_sizeOf {P:Program}{w:World}{t:TypeId}(h:P.info? t≠none):(sizeOf t).run P w=.ok (P.cellsOf t) w:=by
 cases hi:P.info? t<;>simp_all[sizeOf,typeInfo,Program.cellsOf]
theorem JV {P:Program}{w:World}{t:TypeId}{d:TypeDesc}(h:P.underlying t=some d):(isAgg t).run P w=.ok (kK P t) w:=by
 have hu:(underlying t).run P w=.ok d w:=by simp_all[underlying]
 simp only[isAgg,kK,h,Sem.run_bind,hu,Result.andThen];cases d<;>simp
theorem kD {P:Program}{w:World}{t:TypeId}{d:TypeDesc}(h:P.underlying t=some d):(underlying t).run P w=.ok d w:=by
 simp_all[underlying]
theorem kE {P:Program}{t:TypeId}(h:kR (P.cellsOf t)=true):P.info? t≠none:=by
 grind[Program.cellsOf,kR]
theorem afB {P:Program}{w:World}{x:Addr}{v:Value}(h:w.cell? x=some v):(load x).run P w=.ok v w:=by
 simp_all
theorem addr_add (b o n:Nat):(⟨b,o,none⟩:Addr).add n=⟨b,o+n,none⟩:=by
 grind[Addr.add]
theorem DD {P:Program}{w:World}{b o:Nat}:∀ (vs:List Value) (i:Nat) (acc:Array Value),(∀ j v,vs[j]?=some v->w.cell? ⟨b,o+(i+j),none⟩=some v) ->
  (loadCellsFrom ⟨b,o,none⟩ i vs.length acc).run P w=.ok (acc++vs.toArray) w
 | [],i,acc,_=>by simp[loadCellsFrom]
 | v::vs,i,acc,h=>by
  have h0:=h 0 v rfl;simp only[List.length_cons,loadCellsFrom,Sem.run_bind,addr_add];rw[afB (by simpa using h0)];simp only[Result.andThen]
  rw[DD vs (i+1) (acc.push v) (λj u hu=>by
   have:=h (j+1) u (by simpa using hu)
   grind)]
  simp
section
variable {P:Program}{T:Tab}(hT:iK P T){C:Ctx T}{o:Oper}{a:Act}{w:World}{Y:Nat->Prop}{σ:Sg}{ps:List PV}{st:St}{n id:Nat}{K:PV->Dl->Prop}{lk:Nat->Option lI}
 (H:SW C w Y σ ps a.tmps.toList st n) (hlk:∀ b x,lk b=some x->iH st b=some x) (hid:σ id=none/\T.oZ<=id)
include hT H in
theorem YM {t:TypeId}{x:Operand}{f:Nat}(ho:o.op=.fieldAddr t x f)(h:nV T (gV.jd P T) (.fieldAddr t x f) ps lk id K):qh P C o a w σ ps st n id K:=by
 have hc:=kJ H x;simp only[nV] at h
 split at h
 rename_i fs e;obtain⟨fl,hu,rfl,_⟩:=Pz hT e
 split at h
 rename_i fd U;rw[KL,List.getElem?_map] at U
 cases hg:fl.toList[f]? with
 | none=>simp[hg] at U
 | some g=>
  simp[hg] at U;subst U;have hg' : fl[f]?=some g:=by simpa using hg
  cases hp:kR (P.cellsOf g.type) with
  | false=>simp only[hp] at h;exact h.elim
  | true=>
   simp only[hp] at h;have J:P.cellsOf g.type≠0:=by intro h0;rw[h0] at hp;simp[kR] at hp
   have I:P.info? g.type≠none:=by intro h0;apply J;simp[Program.cellsOf,h0]
   have run:∀ b off,a.eval x=.pointer (some ⟨b,off,none⟩)->(execOp a.eval o).run P w=.ok (.value (.pointer (some ⟨b,off+g.offset,none⟩))) w:=by
    intro b off hx;simp[execOp,ho,Instr.fieldAt,kD hu,hg',hx,Instr.sureAddr,fieldPlace,run_sizeOf I,J,addr_add]
   split at h
   rename_i b c e;rw[e] at hc;unfold Rep at hc;obtain⟨l,hs,e'⟩:=hc;refine qh.quiet H (run _ _ e') ?_ h;unfold Rep;exact⟨l,hs,by rw[Nat.add_assoc]⟩
   rename_i b r c e;rw[e] at hc;unfold Rep at hc;obtain⟨l,hs,e'⟩:=hc;refine qh.quiet H (run _ _ e') ?_ h;unfold Rep;exact⟨l,hs,by rw[Nat.add_assoc]⟩
   rename_i b r c hh sz j k e;rw[e] at hc;unfold Rep at hc;refine qh.quiet H (run _ _ hc) ?_ h;unfold Rep;rw[Nat.add_assoc]
   rename_i cs e;rw[e] at hc
   cases hb:Nat.ble g.offset (nN cs) with
   | false=>simp only[hb] at h;exact h.elim
   | true=>
    simp only[hb] at h;unfold Rep at hc;obtain⟨b,o',e',hy,hr⟩:=hc;refine qh.quiet H (run _ _ e') ?_ h;unfold Rep;rw[yL];exact⟨b,_,rfl,hy,hr.drop _ _ _⟩
   exact h.elim
 exact h.elim
 exact h.elim
theorem Uk {P:Program}{w:World}{Y:Nat->Prop}{σ:Sg}{t:TypeId}{b o' c:Nat}{row:List PV}{agg:Bool}{size:Nat}{K:PV->Prop}
  (T:P.info? t≠none) (hsize:size=P.cellsOf t) (J:agg=kK P t) (I:∃ d,P.underlying t=some d)
  (hr:iG w Y σ b row o') (h:loadRow agg size row c K) :
  ∃ v cv,K v/\(loadVar t ⟨b,o'+c,none⟩).run P w=.ok cv w/\Rep w Y σ v cv:=by
 obtain⟨d,hu⟩:=I;unfold loadRow at h
 cases agg with
 | true=>
  simp only[cond_true] at h
  cases g:Nat.ble (c+size) (nN row) with
  | false=>grind
  | true=>
   simp only[g,cond_true,MP,yL] at h;have hle:c+size<=row.length:=by simp_all
   have hr2:=(hr.drop c _ _).take size _ _;obtain⟨vs,hv,hcell⟩:=hr2.vals;refine⟨_,.agg vs.toArray,h,?_,by unfold Rep;grind⟩
   have hlen:vs.length=P.cellsOf t:=by
    rw[eU.length _ _ hv];simp;omega
   simp only[loadVar,Sem.run_bind,JV hu,<- J,Result.andThen,if_true,run_sizeOf T,loadCells];rw[<- hlen,DD vs 0 #[] (λj v hj=>by grind)];simp
 | false=>
  simp only[cond_false] at h
  cases g:Nat.blt c (nN row) with
  | false=>grind
  | true=>
   simp only[g,cond_true] at h;have C:c<row.length:=by simp_all
   obtain⟨v,hv,hrep⟩:=hr.get _ _ c C;refine⟨_,v,h,?_,hrep⟩
   simp_all[loadVar,JV]
theorem fF.yN {T:Tab}{C:Ctx T}{w:World}{Y:Nat->Prop}{σ:Sg}{ps:List PV}{vs:List Value}{st:St}{n:Nat}(H:SW C w Y σ ps vs st n){lk:Nat->Option lI}
  (I:∀ b x,lk b=some x->iH st b=some x) {b:Nat} {x:lI} {l:Loc} (h:lk b=some x) (hs:σ b=some l):fF w Y σ l x:=by
 rcases H.store.blk b x (I _ _ h) with ⟨l',J,t⟩|⟨J,_⟩<;>grind
theorem Qn {w:World}{Y:Nat->Prop}{σ:Sg}{p:PV}{v:Value}(h:Rep w Y gJ p v):Rep w Y σ p v :=
 Rep.keep p ⟨λ_ _ _=>rfl,λ_ _ h=>h,Nat.le_refl _,λ_ _ h=>by cases h⟩ v h
theorem getD_some {o:Option PV}{h:Hdr}{sz:Nat}{T:List (List PV)}(e:o.getD .undef=.ow h sz T):o=some (.ow h sz T):=by
 cases o<;>grind
theorem afC {P:Program}{T:Tab}{w:World}{Y:Nat->Prop}{σ:Sg}(b r c:Nat){p:PV}{v:Value}(h:Rep w Y σ p v):Rep w Y σ (ajw (gV.jd P T) b r c p) v:=by
 unfold ajw
 grind[Rep,gV.jd]
theorem aaG {P:Program}{T:Tab}{w:World}{Y:Nat->Prop}{σ:Sg}{J:Nat}(b r:Nat):∀ (ps:List PV) (c o:Nat),iG w Y σ J ps o->iG w Y σ J (afj (gV.jd P T) b r c ps) o
 | [],c,o,h=>by simpa [afj] using h
 | p::ps,c,o,h=>by
  unfold iG at h;obtain⟨⟨v,h1,h2⟩,I⟩:=h;simp only[afj];unfold iG;exact⟨⟨v,h1,afC b r c h2⟩,aaG b r ps (c+1) (o+1) I⟩
theorem SW.afD {T:Tab}{C:Ctx T}{w:World}{Y:Nat->Prop}{σ:Sg}{ps:List PV}{vs:List Value}{st:St}{n:Nat}(H:SW C w Y σ ps vs st n){b r c g sz:Nat}{rows:List (List PV)}{row:List PV}{h:Hdr}{es:List (List PV)}
  (t:iH st b=some (.lq g rows)) (J:rows[r]?=some row) (hc:row[c]?=some (.ow h sz es)) (hne:es≠[]):h.cap≠0:=by
 rcases H.store.blk b _ t with ⟨l,_,hB⟩|⟨_,hE⟩
 unfold fF at hB;have hr:=(iQ.row _ _ _ _ hB.2.2.2.2.1 J).2
 have I:c<row.length:=by
  grind
 obtain⟨v,_,hp⟩:=hr.get _ _ c I
 grind[E5,Rep]
 cases hE;simp at J
include hT H hlk in
theorem ahZ {t:TypeId}{x:Operand}(ho:o.op=.load t x)(h:nV T (gV.jd P T) (.load t x) ps lk id K):qh P C o a w σ ps st n id K:=by
 have hc:=kJ H x;simp only[nV] at h
 split at h
 rename_i agg size z plain kind e;obtain⟨hinfo,hsize,hagg,hund⟩:=VE hT e
 have fin:∀ (σ' : Sg) (b o' c:Nat) (row:List PV),a.eval x=.pointer (some ⟨b,o'+c,none⟩)->iG w Y σ' b row o'->(∀ p v,Rep w Y σ' p v->Rep w Y σ p v) ->
   loadRow agg size row c (λv=>K v [])->qh P C o a w σ ps st n id K:=by
  intro σ' b o' c row hx hr hσ hl;obtain⟨v,cv,hK,hrun,hrep⟩:=Uk hinfo hsize hagg hund hr hl;refine qh.quiet H (cv:=cv) ?_ (hσ _ _ hrep) hK;simp[execOp,ho,hx,Instr.loadAt,Instr.sureAddr,hrun]
 split at h
 rename_i b c e;rw[e] at hc;unfold Rep at hc;obtain⟨l,hs,e'⟩:=hc
 split at h
 rename_i ro row I;have hB:=fF.yN H hlk I hs;unfold fF at hB;exact fin σ _ _ _ _ e' hB.2.2.2.1 (λ_ _ h=>h) h
 exact h.elim
 rename_i b r c e;rw[e] at hc;unfold Rep at hc;obtain⟨l,hs,e'⟩:=hc
 split at h
 rename_i ro sz rows I;have hB:=fF.yN H hlk I hs;unfold fF at hB;obtain⟨row,J,h⟩:=h;have:=iQ.row _ _ _ _ hB.2.2.2.2.1 J;rw[<- hB.2.1] at this;exact fin gJ _ _ _ _ e' this.2 (λ_ _ h=>Qn h) h
 rename_i sz rows I;have hB:=fF.yN H hlk I hs;unfold fF at hB;obtain⟨row,J,h⟩:=h;have:=iQ.row _ _ _ _ hB.2.2.2.2.1 J;rw[<- hB.2.1] at this;exact fin gJ _ _ _ _ e' (aaG b r row 0 _ this.2) (λ_ _ h=>Qn h) h
 rename_i sz rows r0 row I;have hB:=fF.yN H hlk I hs;unfold fF at hB;obtain⟨hr0,h⟩:=h;cases hr0;obtain⟨_,h2,_,_,_,_,h8,_⟩:=hB;rw[<- h2] at h8;exact fin σ _ _ _ _ e' h8 (λ_ _ h=>h) h
 exact h.elim
 rename_i b r c hh sz j k e;rw[e] at hc;unfold Rep at hc
 split at h
 rename_i sz0 rows I;obtain⟨row,J,h⟩:=h
 split at h
 rename_i h' g es ec
 cases hs:Nat.beq g sz with
 | false=>rw[hs] at h;exact h.elim
 | true=>
  rw[hs] at h;simp only[cond_true] at h;have hs:=Nat.eq_of_beq_eq_true hs;subst hs;obtain⟨he,er,her,h⟩:=h;subst he;have hcc:row[c]?=some (.ow hh g es):=by rw[E5,List.getD_eq_getElem?_getD] at ec;exact getD_some ec
  have hN:=H.nest.rep b r c hh g es ⟨sz0,rows,row,hlk _ _ I,J,hcc,H.afD (hlk _ _ I) J hcc (by rintro rfl;simp at her)⟩;exact fin gJ _ _ _ _ hc (iQ.row _ _ _ _ hN.rows her).2 (λ_ _ h=>Qn h) h
 exact h.elim
 exact h.elim
 rename_i cs e;rw[e] at hc;unfold Rep at hc;obtain⟨b,o',e',hy,hr⟩:=hc;exact fin gJ b o' 0 cs (by simpa using e') hr (λ_ _ h=>Qn h) h
 exact h.elim
 exact h.elim
end
end Go.Pv
namespace Go.Pv
open Go
theorem VF {b c:Nat}(h:¬ b=c):Nat.beq b c=false:=by
 grind[Nat.eq_of_beq_eq_true]
theorem gG (st:St)(b:Nat)(x:Option lI)(c:Nat):iH (nD st b x) c=if b=c then x else iH st c:=by
 induction st with
 | nil=>
  simp_all[nD,iH]
 | cons p st ih=>
  obtain⟨T,y⟩:=p
  by_cases h:T=b
  grind[nD,iH,VF]
  have h0:Nat.beq T b=false:=VF h;simp only[nD,h0,cond_false,iH]
  grind
theorem fF.keep {w w' : World}{Y Y' : Nat->Prop}{σ σ' : Sg}{l:Loc}{x:lI}(K:Keep w w' Y Y' σ σ')(hb:w'.heap[l.cb]?=w.heap[l.cb]?)(C:Y' l.cb↔Y l.cb)
  (h:fF w Y σ l x):fF w' Y' σ' l x:=by
 cases x with
 | var ro row=>
  unfold fF at h |-;obtain⟨⟨arr,ty,h1,h2⟩,T,I,g,t,J⟩:=h;exact⟨⟨arr,ty,by grind,h2⟩,T,I,iG.keep row K (λ_=>hb) _ g,λe=>C.2 (t e),λe hy=>J e (C.1 hy)⟩
 | arr ro sz rows=>
  unfold fF at h |-;obtain⟨⟨arr,ty,h1,h2⟩,T,I,g,t,J,h8⟩:=h;exact⟨⟨arr,ty,by grind,h2⟩,T,I,g,iQ.keep rows K.none (λ_=>hb) _ t,λe=>C.2 (J e),λe hy=>h8 e (C.1 hy)⟩
 | map rows=>
  unfold fF at h |-;obtain⟨⟨es,ck,h1,h2⟩,T⟩:=h;exact⟨⟨es,ck,by grind,oI.keep K.none _ _ h2⟩,C.2 T⟩
 | lq sz rows=>
  unfold fF at h |-;obtain⟨⟨arr,ty,h1,h2⟩,T,I,g,t,J⟩:=h;exact⟨⟨arr,ty,by grind,h2⟩,T,I,g,iQ.keep rows K.none (λ_=>hb) _ t,C.2 J⟩
 | nor sz rows r row=>
  unfold fF at h |-;obtain⟨⟨arr,ty,h1,h2⟩,T,I,g,t,J,h8,h9⟩:=h;exact⟨⟨arr,ty,by grind,h2⟩,T,I,g,t,λi x hx hi=>⟨(J i x hx hi).1,iG.keep x K.none (λ_=>hb) _ (J i x hx hi).2⟩,iG.keep row K (λ_=>hb) _ h8,C.2 h9⟩
theorem fF.lt {w:World}{Y:Nat->Prop}{σ:Sg}{l:Loc}{x:lI}(h:fF w Y σ l x):l.cb<w.heap.size:=by
 have:∃ o,w.heap[l.cb]?=some o:=by
  cases x<;>(unfold fF at h;first|(obtain⟨⟨⟨arr,ty,h1,_⟩⟩,_⟩:=h;exact⟨_,h1⟩)|grind)
 grind
theorem SW.drop {T:Tab}{C:Ctx T}{w:World}{Y:Nat->Prop}{σ:Sg}{ps:List PV}{vs:List Value}{st:St}{n:Nat}(H:SW C w Y σ ps vs st n)(b:Nat):SW C w Y σ ps vs (nD st b none) n:=by
 have sub:∀ c x,iH (nD st b none) c=some x->iH st c=some x:=by
  simp_all[gG]
 refine⟨H.vals,⟨λc x h=>H.store.blk c x (sub c x h),λc J x x' l l' h I=>H.store.inj c J x x' l l' (sub _ _ h) (sub _ _ I)⟩,H.next,H.vJ,H.y0,H.c0,H.wP,H.pJ,λc x l h=>H.own c x l (sub _ _ h),H.wQ,H.fix,H.nest.sub sub⟩
theorem SW.ext {T:Tab}{C:Ctx T}{w:World}{Y:Nat->Prop}{σ:Sg}{ps:List PV}{vs:List Value}{st st' : St}{n:Nat}(H:SW C w Y σ ps vs st n)(h:∀ b x,iH st' b=some x->iH st b=some x):SW C w Y σ ps vs st' n :=
 ⟨H.vals,⟨λc x e=>H.store.blk c x (h c x e),λc J x x' l l' e I=>H.store.inj c J x x' l l' (h _ _ e) (h _ _ I)⟩,H.next,H.vJ,H.y0,H.c0,H.wP,H.pJ,λc x l e=>H.own c x l (h _ _ e),H.wQ,H.fix,H.nest.sub h⟩
theorem SW.update {T:Tab}{C:Ctx T}{w w' : World}{Y:Nat->Prop}{σ:Sg}{ps:List PV}{vs:List Value}{st:St}{n:Nat}(H:SW C w Y σ ps vs st n)
  {b:Nat} {x x' : lI} {l:Loc} (hx:iH st b=some x) (g:σ b=some l) (hm:Y l.cb)
  (hos:w'.os=w.os) (t:w'.tape=w.tape) (hout:w'.output=w.output) (hsize:w'.heap.size=w.heap.size)
  (J:∀ k,k≠l.cb->w'.heap[k]?=w.heap[k]?) (hnar:∀ sz rows,x'≠.lq sz rows) (hnew:(∀ p v,Rep w Y σ p v->Rep w' Y σ p v)->fF w' Y σ l x'):SW C w' Y σ ps vs (nD st b (some x')) n:=by
 have K:Keep w w' Y Y σ σ:=⟨λk _ hk=>J k (λe=>hk (e ▸ hm)),λ_ _ h=>h,Nat.le_of_eq hsize.symm,mZ.refl _⟩;have own:=H.own b x l hx g;refine⟨eU.keep _ K _ H.vals,⟨?_,?_⟩,H.next,λk hk=>by rw[hsize];exact H.vJ k hk,H.y0,H.c0,H.wP,?_,?_,H.wQ.keep K.none,H.fix,?_⟩
 intro c y h;rw[gG] at h
 by_cases hc:b=c
 rw[if_pos hc] at h;grind[Rep.keep]
 rw[if_neg hc] at h;rcases H.store.blk c y h with ⟨l',I,hb⟩|hn
 refine .inl ⟨l',I,fF.keep K (J _ λe=>hc ?_) Iff.rfl hb⟩;exact(H.store.inj c b y x l' l h hx I g e).symm
 exact .inr hn
 intro c c' y y' l1 l2 h h' h1 h2 e
 have old:∀ d z,iH (nD st b (some x')) d=some z->∃ z',iH st d=some z':=by
  intro d z hd;rw[gG] at hd
  grind
 obtain⟨z,hz⟩:=old _ _ h;obtain⟨z',hz'⟩:=old _ _ h';exact H.store.inj c c' z z' l1 l2 hz hz' h1 h2 e
 refine⟨by rw[hos];exact H.pJ.os,by rw[t];exact H.pJ.tape,by rw[hout];exact H.pJ.output,by rw[hsize];exact H.pJ.size,λk hk hM=>?_⟩
 have hne:k≠l.cb:=λe=>by
  subst e;have h1:=H.away hx g;rcases H.wP _ hm hk with h2|h2<;>grind
 rw[J k hne];exact H.pJ.block k hk hM
 intro c y l' h h1;rw[gG] at h
 by_cases hc:b=c
 grind
 rw[if_neg hc] at h;exact H.own c y l' h h1
 have back:∀ {c r k h sz es},lU (nD st b (some x')) c r k h sz es->lU st c r k h sz es:=by
  rintro c r k h sz es ⟨sz0,rows,row,h1,h2⟩
  rw[gG] at h1
  by_cases hc:b=c
  grind
  rw[if_neg hc] at h1;exact⟨sz0,rows,row,h1,h2⟩
 refine H.nest.keep K.none (λ_ _ _ _ _ _ k=>back k) (λc r k h sz es hk=>J _ (H.nest.sep _ _ _ _ _ _ _ _ _ (back hk) hx g).symm) (λc r k h sz es hk=>(H.nest.rep _ _ _ _ _ _ (back hk)).own) λc r k h sz es b' y l' hk hy I=>?_;rw[gG] at hy
 by_cases hc:b=b'
 subst hc;rw[g] at I;cases I;exact H.nest.sep _ _ _ _ _ _ _ _ _ (back hk) hx g
 rw[if_neg hc] at hy;exact H.nest.sep _ _ _ _ _ _ _ _ _ (back hk) hy I
theorem SW.afE {T:Tab}{C:Ctx T}{w:World}{Y:Nat->Prop}{σ:Sg}{ps:List PV}{vs:List Value}{st:St}{n id:Nat}(H:SW C w Y σ ps vs st n)(hid:σ id=none/\T.oZ<=id)
  (ob:Obj) (l:Loc) (hcb:l.cb=w.heap.size) (x:lI) (hnar:∀ sz rows,x=.lq sz rows->∀ (r:Nat) (row:List PV) (c:Nat) (h:Hdr) (sz' : Nat) (g:List (List PV)),rows[r]?=some row->row[c]?=some (PV.ow h sz' g)->h.cap=0)
  (hx:∀ w' Y' σ',(∀ p v,Rep w Y σ p v->Rep w' Y' σ' p v)->Y' l.cb->w'.heap[l.cb]?=some ob->(∀ p v,Rep w Y gJ p v->Rep w' Y' gJ p v)->fF w' Y' σ' l x) :
  ∃ Y' σ',SW C (w.alloc ob) Y' σ' ps vs (nD st id (some x)) (max n (id+1))/\σ' id=some l/\mZ σ σ'/\(∀ p v,Rep w Y σ p v->Rep (w.alloc ob) Y' σ' p v)/\Off id σ σ':=by
 have hfree:=hid.1;have heap:(w.alloc ob).heap=w.heap.push ob:=rfl;have hnew:(w.alloc ob).heap[l.cb]?=some ob:=by grind
 have hold:∀ k,k<w.heap.size->(w.alloc ob).heap[k]?=w.heap[k]?:=by
  grind
 let Y' : Nat->Prop:=λk=>Y k\/k=w.heap.size
 let σ' : Sg:=λb=>if b=id then some l else σ b
 have hsg:mZ σ σ':=by
  intro b m h
  grind
 have hsz:(w.alloc ob).heap.size=w.heap.size+1:=by rw[heap];simp
 have K:Keep w (w.alloc ob) Y Y' σ σ' :=
  ⟨λk hk _=>hold k hk,λk hk h=>h.resolve_right ae,by omega,hsg⟩
 refine⟨Y',σ',⟨eU.keep _ K _ H.vals,⟨?_,?_⟩,?_,?_,λk hk=>.inl (H.y0 k hk),H.c0,?_,?_,?_,H.wQ.keep K.none,⟨by grind,λb I=>by show(if b=id then some l else σ b)=_;rw[if_neg ae];exact H.fix.2 b I⟩,?_⟩,by simp[σ'],hsg,λp v hp=>Rep.keep p K v hp,λb I=>by grind⟩
 intro c y h;rw[gG] at h
 by_cases hc:id=c
 rw[if_pos hc] at h;cases h;subst hc;exact .inl ⟨l,by simp[σ'],hx _ Y' σ' (λp v hp=>Rep.keep p K v hp) (.inr hcb) hnew (λp v hp=>Rep.keep p K.none v hp)⟩
 rw[if_neg hc] at h;have t : c≠id:=λe=>hc e.symm;rcases H.store.blk c y h with ⟨l',J,I⟩|⟨hn,hx'⟩
 have hlt:=I.lt
 grind[fF.keep]
 grind
 intro c c' y y' l1 l2 h h' h1 h2 e;rw[gG] at h h'
 by_cases hc:id=c<;>by_cases t : id=c'
 omega
 exfalso
 rw[if_neg t] at h';subst hc;simp[σ'] at h1;subst h1;have h2' : σ c'=some l2:=by grind
 rcases H.store.blk c' y' h' with ⟨l',J,I⟩|⟨hn,_⟩
 rw[h2'] at J;cases J;have:=I.lt;omega
 grind
 exfalso
 rw[if_neg hc] at h;subst t;simp[σ'] at h2;subst h2;have h1' : σ c=some l1:=by grind
 rcases H.store.blk c y h with ⟨l',J,I⟩|⟨hn,_⟩
 rw[h1'] at J;cases J;have:=I.lt;omega
 grind
 rw[if_neg hc] at h;rw[if_neg t] at h';have h1' : σ c=some l1:=by grind
 have h2' : σ c'=some l2:=by grind
 exact H.store.inj c c' y y' l1 l2 h h' h1' h2' e
 intro b I;show(if b=id then some l else σ b)=none;rw[if_neg ae];exact H.next b ae
 intro k hk;rcases hk with hk|hk
 have:=H.vJ k hk;omega
 omega
 intro k hk hlt;rcases hk with hk|hk
 exact H.wP k hk hlt
 have:=H.pJ.size;omega
 refine⟨H.pJ.os,H.pJ.tape,H.pJ.output,by have:=H.pJ.size;omega,λk hk hM=>?_⟩;rw[hold k (by have:=H.pJ.size;omega)];exact H.pJ.block k hk hM
 intro c y l' h h1;rw[gG] at h
 by_cases hc:id=c
 subst hc;simp[σ'] at h1;subst h1;rw[hcb];exact .inl H.pJ.size
 rw[if_neg hc] at h;exact H.own c y l' h ak
 have back:∀ {c r k h sz g},lU (nD st id (some x)) c r k h sz g->lU st c r k h sz g:=by
  rintro c r k h sz g ⟨sz0,rows,row,h1,h2,h3⟩
  rw[gG] at h1
  by_cases hc:id=c
  grind
  rw[if_neg hc] at h1;exact⟨sz0,rows,row,h1,h2,h3⟩
 refine H.nest.keep K.none (λ_ _ _ _ _ _ k=>back k) (λc r k h sz g hk=>hold _ (H.nest.rep _ _ _ _ _ _ (back hk)).lt) (λc r k h sz g hk=>.inl (H.nest.rep _ _ _ _ _ _ (back hk)).own) λc r k h sz g b' y l' hk hy J=>?_;have hlt:=(H.nest.rep _ _ _ _ _ _ (back hk)).lt;rw[gG] at hy
 by_cases hc:id=b'
 grind
 rw[if_neg hc] at hy;exact H.nest.sep _ _ _ _ _ _ _ _ _ (back hk) hy ak
theorem SW.alloc {T:Tab}{C:Ctx T}{w:World}{Y:Nat->Prop}{σ:Sg}{ps:List PV}{vs:List Value}{st:St}{n id:Nat}(H:SW C w Y σ ps vs st n)(hid:σ id=none/\T.oZ<=id)
  (arr:Array Value) (ty:TypeId) (l:Loc) (t:l.cb=w.heap.size) (x:lI) (J:∀ sz rows,x=.lq sz rows->∀ (r:Nat) (row:List PV) (c:Nat) (h:Hdr) (I : Nat) (g:List (List PV)),rows[r]?=some row->row[c]?=some (PV.ow h I g)->h.cap=0)
  (hx:∀ w' Y' σ',(∀ p v,Rep w Y σ p v->Rep w' Y' σ' p v)->Y' l.cb->w'.heap[l.cb]?=some (.cells arr ty (0,0))->(∀ p v,Rep w Y gJ p v->Rep w' Y' gJ p v)->fF w' Y' σ' l x) :
  ∃ Y' σ',SW C (w.alloc (.cells arr ty)) Y' σ' ps vs (nD st id (some x)) (max n (id+1))/\σ' id=some l/\mZ σ σ'/\(∀ p v,Rep w Y σ p v->Rep (w.alloc (.cells arr ty)) Y' σ' p v)/\Off id σ σ' :=
 H.afE hid (.cells arr ty) l t x J hx
theorem SW.freeze {T:Tab}{C:Ctx T}{w:World}{Y:Nat->Prop}{σ:Sg}{ps:List PV}{vs:List Value}{st:St}{n:Nat}(H:SW C w Y σ ps vs st n){b:Nat}{x x' : lI}
  (hx:iH st b=some x) (hx' : (∃ ro row,x=.var ro row/\x'=.var true row)\/(∃ ro sz rows,x=.arr ro sz rows/\x'=.arr true sz rows)) :
  ∃ Y',SW C w Y' σ ps vs (nD st b (some x')) n/\(∀ l,σ b=some l->¬ Y' l.cb)/\(∀ k,Y' k->Y k):=by
 let Y' : Nat->Prop:=λk=>Y k/\∀ l,σ b=some l->k≠l.cb;have K:Keep w w Y Y' σ σ:=⟨λ_ _ _=>rfl,λ_ _ h=>h.1,Nat.le_refl _,mZ.refl _⟩;refine⟨Y',⟨eU.keep _ K _ H.vals,⟨?_,?_⟩,H.next,λk hk=>H.vJ k hk.1,?_,H.c0,λk hk=>H.wP k hk.1,H.pJ,?_,H.wQ.keep K.none,H.fix,?_⟩,λl I h=>h.2 l I rfl,λ_ h=>h.1⟩
 intro c y h;rw[gG] at h
 by_cases hc:b=c
 rw[if_pos hc] at h;cases h;subst hc;rcases H.store.blk b x hx with ⟨l,I,J⟩|⟨hn,he⟩
 refine .inl ⟨l,I,?_⟩;rcases hx' with ⟨ro,row,rfl,rfl⟩|⟨ro,sz,rows,rfl,rfl⟩
 unfold fF at J |-;exact⟨J.1,J.2.1,J.2.2.1,iG.keep row K (λ_=>rfl) _ J.2.2.2.1,λe=>bM,λ_ h=>h.2 l I rfl⟩
 unfold fF at J |-;exact⟨J.1,J.2.1,J.2.2.1,J.2.2.2.1,iQ.keep rows K.none (λ_=>rfl) _ J.2.2.2.2.1,λe=>bM,λ_ h=>h.2 l I rfl⟩
 rcases hx' with ⟨ro',row,rfl,rfl⟩|⟨ro',sz',rows,rfl,rfl⟩
 cases he
 cases he;exact .inr ⟨hn,.arr _ _⟩
 rw[if_neg hc] at h;rcases H.store.blk c y h with ⟨l',t,J⟩|hn
 refine .inl ⟨l',t,fF.keep K rfl ⟨λh=>h.1,λh=>⟨h,λl I e=>hc ?_⟩⟩ J⟩;exact(H.store.inj c b y x l' l ‹_› hx t I e).symm
 exact .inr hn
 intro c c' y y' l1 l2 h h' h1 h2 e
 have old:∀ d z,iH (nD st b (some x')) d=some z->∃ z',iH st d=some z':=by
  intro d z hd;rw[gG] at hd
  grind
 obtain⟨z,hz⟩:=old _ _ h;obtain⟨z',hz'⟩:=old _ _ h';exact H.store.inj c c' z z' l1 l2 hz hz' h1 h2 e
 intro k hk;refine⟨H.y0 k hk,λl I e=>?_⟩;exact H.away hx I (e ▸ hk)
 intro c y l' h h1;rw[gG] at h
 by_cases hc:b=c
 subst hc;exact H.own b x l' hx h1
 rw[if_neg hc] at h;exact H.own c y l' h h1
 have back:∀ {c r k h sz g},lU (nD st b (some x')) c r k h sz g->lU st c r k h sz g:=by
  rintro c r k h sz g ⟨sz0,rows,row,h1,h2⟩
  rw[gG] at h1
  by_cases hc:b=c
  grind
  rw[if_neg hc] at h1;exact⟨sz0,rows,row,h1,h2⟩
 refine H.nest.keep K.none (λ_ _ _ _ _ _ k=>back k) (λ_ _ _ _ _ _ _=>rfl) (λc r k h sz g hk=>⟨(H.nest.rep _ _ _ _ _ _ (back hk)).own,λl I e=>H.nest.sep _ _ _ _ _ _ _ _ _ (back hk) hx I e.symm⟩) λc r k h sz g b' y l' hk hy t=>?_;rw[gG] at hy
 by_cases hc:b=b'
 subst hc;exact H.nest.sep _ _ _ _ _ _ _ _ _ (back hk) hx t
 rw[if_neg hc] at hy;exact H.nest.sep _ _ _ _ _ _ _ _ _ (back hk) hy t
theorem SW.adu {T:Tab}{C:Ctx T}{w:World}{Y:Nat->Prop}{σ:Sg}{ps:List PV}{vs:List Value}{st:St}{n:Nat}(H:SW C w Y σ ps vs st n){b sz:Nat}{rows:List (List PV)}(hx:iH st b=some (.lq sz rows)) :
  ∃ Y',SW C w Y' σ ps vs (nD st b none) n/\(∀ l,σ b=some l->¬ Y' l.cb)/\(∀ r c h J t,lU st b r c h J t->¬ Y' h.ν)/\∀ k,Y' k->Y k:=by
 let Y' : Nat->Prop:=λk=>Y k/\(∀ l,σ b=some l->k≠l.cb)/\∀ r c h J t,lU st b r c h J t->k≠h.ν;have K:Keep w w Y Y' σ σ:=⟨λ_ _ _=>rfl,λ_ _ h=>h.1,Nat.le_refl _,mZ.refl _⟩
 have I : ∀ c y,iH (nD st b none) c=some y->b≠c/\iH st c=some y:=by
  simp_all[gG]
 have sub:∀ {c r k h sz t},lU (nD st b none) c r k h sz t->b≠c/\lU st c r k h sz t:=by
  rintro c r k h sz t ⟨sz0,rows,row,h1,h2⟩
  obtain⟨e1,e2⟩:=I _ _ h1;exact⟨e1,sz0,rows,row,e2,h2⟩
 refine⟨Y',⟨eU.keep _ K _ H.vals,⟨?_,?_⟩,H.next,λk hk=>H.vJ k hk.1,?_,H.c0,λk hk=>H.wP k hk.1,H.pJ,?_,H.wQ.keep K.none,H.fix,?_⟩,λl hl h=>h.2.1 l hl rfl,λr c h J t hk hh=>hh.2.2 _ _ _ _ _ hk rfl,λ_ h=>h.1⟩
 intro c y h;obtain⟨hc,h⟩:=I _ _ h;rcases H.store.blk c y h with ⟨l',g,hb⟩|hn
 refine .inl ⟨l',g,fF.keep K rfl ⟨λh=>h.1,λh0=>⟨h0,λl hl e=>hc ?_,λr c' h' J t hk e=>H.nest.sep _ _ _ _ _ _ _ _ _ hk h g e⟩⟩ hb⟩;exact(H.store.inj c b y _ l' l h hx g hl e).symm
 exact .inr hn
 intro c c' y y' l1 l2 h h' h1 h2 e;exact H.store.inj c c' y y' l1 l2 (I _ _ h).2 (I _ _ h').2 h1 h2 e
 intro k hk;refine⟨H.y0 k hk,λl hl e=>H.away hx hl (e ▸ hk),λr c h J t ho e=>?_⟩;obtain⟨k1,k2⟩:=H.c0 k hk;rcases H.nest.old _ _ _ _ _ _ ho with h1|h1<;>grind
 intro c y l' h h1;exact H.own c y l' (I _ _ h).2 h1
 refine H.nest.keep K.none (λ_ _ _ _ _ _ k=>(sub k).2) (λ_ _ _ _ _ _ _=>rfl) (λc r k h sz t hk=>⟨(H.nest.rep _ _ _ _ _ _ (sub hk).2).own,λl hl e=>H.nest.sep _ _ _ _ _ _ _ _ _ (sub hk).2 hx hl e.symm,λr' c' h' J es' ho e=>(sub hk).1 (H.nest.one _ _ _ _ _ _ _ _ _ _ _ _ (sub hk).2 ho e).1.symm⟩) λc r k h sz t b' y l' hk hy g=>H.nest.sep _ _ _ _ _ _ _ _ _ (sub hk).2 (I _ _ hy).2 g
theorem Keep.ajD {w w' : World}{Y:Nat->Prop}{σ:Sg}(h:Chg w w'):Keep w w' Y Y σ σ:=⟨λk hk _=>h.block k hk,λ_ _ h=>h,h.size,mZ.refl _⟩
theorem SW.afF {T:Tab}{C:Ctx T}{w w' : World}{Y:Nat->Prop}{σ:Sg}{ps:List PV}{vs:List Value}{st:St}{n:Nat}(H:SW C w Y σ ps vs st n)(h:Chg w w'):SW C w' Y σ ps vs st n:=by
 have K:Keep w w' Y Y σ σ:=Keep.ajD h;refine⟨eU.keep _ K _ H.vals,⟨λb x J=>?_,H.store.inj⟩,H.next,λk hk=>Nat.lt_of_lt_of_le (H.vJ k hk) h.size,H.y0,H.c0,H.wP,?_,H.own,H.wQ.keep K.none,H.fix,H.nest.heap h.size h.block⟩
 rcases H.store.blk b x J with ⟨l,I,hB⟩|hn
 exact .inl ⟨l,I,fF.keep K (h.block _ hB.lt) Iff.rfl hB⟩
 exact .inr hn
 exact⟨by rw[h.os];exact H.pJ.os,by rw[h.tape];exact H.pJ.tape,by rw[h.output];exact H.pJ.output,Nat.le_trans H.pJ.size h.size,λk hk hM=>by rw[h.block k (Nat.lt_of_lt_of_le hk H.pJ.size)];exact H.pJ.block k hk hM⟩
end Go.Pv
namespace Go.Pv
open Go
theorem CV {v:Value}(h:Pq v=true):v.cells=#[v]:=by
 cases v<;>simp[Pq] at h<;>rfl
theorem zM {w:World}{Y:Nat->Prop}{σ:Sg}:∀ (ps:List PV) (vs:List Value),gW ps=true->eU w Y σ ps vs->∀ v∈vs,Pq v=true
 | [],vs,_,h=>by grind[eU]
 | p::ps,vs,ha,h=>by
  unfold eU at h;obtain⟨v,T,rfl,h1,h2⟩:=h;simp[gW] at ha;intro u hu;rcases List.mem_cons.1 hu with rfl|hu
  exact Px ha.1 h1
  exact zM ps T ha.2 h2 u hu
theorem JW {w:World}{Y:Nat->Prop}{σ:Sg}{p:PV}{v:Value}(h:Rep w Y σ p v)(T:gW (lJ p)=true) :
  ∃ vs:List Value,v.cells=vs.toArray/\eU w Y σ (lJ p) vs/\∀ u∈vs,Pq u=true:=by
 cases p
 case agg cs=>
  simp only[lJ] at T |-;unfold Rep at h;obtain⟨vs,e,hr⟩:=h;subst e;exact⟨vs,rfl,hr,zM _ _ T hr⟩
 all_goals
  simp only[lJ,gW,Bool.and_true] at T |-;have h1:=Px T h;refine⟨[v],by rw[CV h1],by unfold eU;exact⟨v,[],rfl,h,by simp[eU]⟩,by simp[h1]⟩
theorem aev {P:Program}{w:World}{x:Addr}{v u:Value}(hv:Pq v=true)(hc:w.cell? x=some u)(U:w.frozen? x=false) :
  (store x v).run P w=.ok () (w.setCell x v):=by
 unfold store;cases v<;>simp[Pq] at hv<;>simp[Sem.run,hc,U]
theorem OY {w:World}{b o:Nat}{arr:Array Value}{ty:TypeId}(h:w.heap[b]?=some (.cells arr ty (0,0)))(v:Value) :
  (w.setCell ⟨b,o,none⟩ v).heap[b]?=some (.cells (arr.setIfInBounds o v) ty (0,0)):=by
 grind[World.setCell]
theorem cell_of_block {w:World}{b o:Nat}{arr:Array Value}{ty:TypeId}(h:w.heap[b]?=some (.cells arr ty (0,0))):w.cell? ⟨b,o,none⟩=arr[o]?:=by
 simp[World.cell?,h]
theorem sQ {w:World}{b o:Nat}{arr:Array Value}{ty:TypeId}(h:w.heap[b]?=some (.cells arr ty (0,0))):w.frozen? ⟨b,o,none⟩=false:=by
 simp[World.frozen?,h]
structure Wrote (w w' : World)(b o:Nat)(arr:Array Value)(ty:TypeId)(vs:List Value):Prop where
 os:w'.os=w.os
 tape:w'.tape=w.tape
 output:w'.output=w.output
 size:w'.heap.size=w.heap.size
 other:∀ k,k≠b->w'.heap[k]?=w.heap[k]?
 blk:∃ arr' : Array Value,w'.heap[b]?=some (.cells arr' ty (0,0))/\arr'.size=arr.size/\∀ j,arr'[j]?=if o<=j/\j<o+vs.length then vs[j-o]? else arr[j]?
theorem uJ {P:Program}{b o:Nat}{ty:TypeId}:∀ (vs:List Value) (i:Nat) (w:World) (arr:Array Value),w.heap[b]?=some (.cells arr ty (0,0))->o+i+vs.length<=arr.size->(∀ v∈vs,Pq v=true) ->
  ∃ w',(storeCells ⟨b,o,none⟩ vs i).run P w=.ok () w'/\Wrote w w' b (o+i) arr ty vs
 | [],i,w,arr,h,_,_=>⟨w,by simp[storeCells],rfl,rfl,rfl,rfl,λ_ _=>rfl,arr,h,rfl,λj=>by grind⟩
 | v::vs,i,w,arr,h,hle,hone=>by
  have J:o+i<arr.size:=by grind
  have hc:w.cell? ⟨b,o+i,none⟩=some arr[o+i]:=by rw[cell_of_block h];simp[J]
  have I:=aev (P:=P) (hone v aF) hc (sQ h);obtain⟨w',hr,T⟩:=uJ (P:=P) (o:=o) vs (i+1) (w.setCell ⟨b,o+i,none⟩ v) (arr.setIfInBounds (o+i) v) (OY h v) ak (λu hu=>hone u (by simp[hu]));refine⟨w',?_,?_⟩
  grind[storeCells,Sem.run_bind,addr_add,Result.andThen]
  obtain⟨arr',h1,h2,C⟩:=T.blk;refine⟨T.os,T.tape,T.output,?_,λk hk=>?_,arr',h1,by simpa using h2,λj=>?_⟩
  rw[T.size];simp_all
  rw[T.other k hk];simp only[World.setCell,Array.getElem?_modify];grind
  grind
theorem xq:∀ (vs l:List PV) (c:Nat),(lZ l c vs).length=l.length
 | [],l,c=>by grind[lZ]
 | v::vs,[],c=>by simpa [lZ,nC] using xq vs [] (c+1)
 | v::vs,x::l,c=>by rw[lZ,xq vs,tq];simp
theorem PD:∀ (vs l:List PV) (c j:Nat),c+vs.length<=l.length->(lZ l c vs)[j]?=if c<=j/\j<c+vs.length then vs[j-c]? else l[j]?
 | [],l,c,j,_=>by
  grind[lZ]
 | v::vs,[],c,j,h=>by simp at h
 | v::vs,x::l,c,j,h=>by
  rw[lZ,PD vs _ (c+1) j (by grind[tq]),tq]
  grind
theorem iG.iff {w:World}{Y:Nat->Prop}{σ:Sg}{b:Nat}:∀ (ps:List PV) (o:Nat),iG w Y σ b ps o↔∀ i p,ps[i]?=some p->∃ v,w.cell? ⟨b,o+i,none⟩=some v/\Rep w Y σ p v
 | [],o=>by simp[iG]
 | q::ps,o=>by
  unfold iG;rw[iG.iff ps (o+1)];constructor
  grind
  intro h;refine⟨by simpa using h 0 q rfl,λi p hi=>?_⟩;rw[show o+1+i=o+(i+1) by omega];simp_all
theorem eU.get? {w:World}{Y:Nat->Prop}{σ:Sg}:∀ {ps:List PV} {vs:List Value} {i:Nat} {p:PV},eU w Y σ ps vs->ps[i]?=some p->∃ v,vs[i]?=some v/\Rep w Y σ p v
 | [],_,_,_,_,hi=>by simp at hi
 | q::ps,vs,0,p,h,hi=>by
  unfold eU at h;grind
 | q::ps,vs,i+1,p,h,hi=>by
  unfold eU at h;obtain⟨v,T,rfl,_,h2⟩:=h
  simpa using eU.get? h2 bH
theorem Wrote.rep {w w' : World}{Y:Nat->Prop}{σ:Sg}{b o:Nat}{arr:Array Value}{ty:TypeId}{vs:List Value}{cs row:List PV}{c:Nat}(W:Wrote w w' b (o+c) arr ty vs)
  (g:w.heap[b]?=some (.cells arr ty (0,0))) (T:iG w Y σ b row o) (J:eU w Y σ cs vs) (hle:c+cs.length<=row.length) (hk:∀ p v,Rep w Y σ p v->Rep w' Y σ p v):iG w' Y σ b (lZ row c cs) o:=by
 obtain⟨arr',h1,h2,C⟩:=W.blk;have t:=J.length;rw[iG.iff] at T |-;intro i p hi;rw[PD _ _ _ _ hle] at hi;rw[cell_of_block h1,C]
 by_cases I:c<=i/\i<c+cs.length
 rw[if_pos I] at hi;rw[if_pos ae];obtain⟨v,hv,hr⟩:=J.get? hi
 grind
 rw[if_neg I] at hi;rw[if_neg ae]
 grind[cell_of_block]
theorem E8 {P:Program}{w:World}{t:TypeId}{b o size:Nat}{v:Value}{vs:List Value}{arr:Array Value}{ty:TypeId}(J:P.info? t≠none)(hsize:size=P.cellsOf t)
  (hv:v.cells=vs.toArray) (hlen:vs.length=size) (I:w.heap[b]?=some (.cells arr ty (0,0))) (hle:o+vs.length<=arr.size) (T:∀ u∈vs,Pq u=true) :
  ∃ w',(storeVar t ⟨b,o,none⟩ v).run P w=.ok () w'/\Wrote w w' b o arr ty vs:=by
 obtain⟨w',hr,C⟩:=uJ (P:=P) (o:=o) vs 0 w arr I (by simpa using hle) T
 simp_all[storeVar,run_sizeOf]
section
variable {P:Program}{T:Tab}(hT:iK P T){C:Ctx T}{o:Oper}{a:Act}{w:World}{Y:Nat->Prop}{σ:Sg}{ps:List PV}{st:St}{n id:Nat}{K:PV->Dl->Prop}{lk:Nat->Option lI}
 (H:SW C w Y σ ps a.tmps.toList st n) (hlk:∀ b x,lk b=some x->iH st b=some x) (hid:σ id=none/\T.oZ<=id)
theorem YN {vs:List Value}(H:SW C w Y σ ps vs st n){t:TypeId}{b c size:Nat}{l:Loc}{row:List PV}{p:PV}{v:Value}{K:List PV->Prop}
  (J:P.info? t≠none) (hsize:size=P.cellsOf t) (hst:iH st b=some (.var false row)) (hl:σ b=some l) (hv:Rep w Y σ p v) (h:nX size row c p K) :
  ∃ T w',K T/\(storeVar t ⟨l.cb,l.co+c,none⟩ v).run P w=.ok () w'/\SW C w' Y σ ps vs (nD st b (some (.var false T))) n:=by
 unfold nX at h
 cases hb:(gW (lJ p)&&Nat.beq (nN (lJ p)) size&&Nat.ble (c+nN (lJ p)) (nN row)) with
 | false=>grind
 | true=>
  rw[hb] at h;simp only[Bool.and_eq_true,vK] at hb;obtain⟨⟨h1,h2⟩,h3⟩:=hb;have h2:=Nat.eq_of_beq_eq_true h2;have h3:=Nat.le_of_ble_eq_true h3;obtain⟨vs',hvs,hr,hone⟩:=JW hv h1;have hlen:=hr.length
  have hB:fF w Y σ l (.var false row):=by
   rcases H.store.blk b _ hst with ⟨l',hl',hB⟩|⟨hn,_⟩<;>grind
  unfold fF at hB;obtain⟨⟨arr,ty,ha,has⟩,hsz,hle,g,hm,hr0⟩:=hB;obtain⟨w',I,W⟩:=E8 (P:=P) (o:=l.co+c) J hsize hvs ae ha ae hone;refine⟨_,w',h,I,SW.update H hst hl (hm rfl) W.os W.tape W.output W.size W.other (λ_ _ e=>by cases e) λhk=>?_⟩;obtain⟨arr',h4,h5,h6⟩:=W.blk;unfold fF;exact⟨⟨arr',ty,h4,by omega⟩,by rw[xq];exact hsz,by rw[xq];exact hle,W.rep ha g hr ae hk,hm,hr0⟩
theorem YO {vs:List Value}(H:SW C w Y σ ps vs st n){t:TypeId}{b c size sz r:Nat}{l:Loc}{rows:List (List PV)}{row:List PV}{p:PV}{v:Value}{K:List PV->Prop}
  (g:P.info? t≠none) (hsize:size=P.cellsOf t) (hst:iH st b=some (.nor sz rows r row)) (hl:σ b=some l) (hv:Rep w Y σ p v) (h:nX size row c p K) :
  ∃ I w',K I/\(storeVar t ⟨l.cb,l.co+r*l.sz+c,none⟩ v).run P w=.ok () w'/\SW C w' Y σ ps vs (nD st b (some (.nor sz rows r I))) n:=by
 unfold nX at h
 cases hb:(gW (lJ p)&&Nat.beq (nN (lJ p)) size&&Nat.ble (c+nN (lJ p)) (nN row)) with
 | false=>grind
 | true=>
  rw[hb] at h;simp only[Bool.and_eq_true,vK] at hb;obtain⟨⟨h1,h2⟩,h3⟩:=hb;have h2:=Nat.eq_of_beq_eq_true h2;have h3:=Nat.le_of_ble_eq_true h3;obtain⟨vs',hvs,hr,hone⟩:=JW hv h1;have hlen:=hr.length
  have hB:fF w Y σ l (.nor sz rows r row):=by
   rcases H.store.blk b _ hst with ⟨l',hl',hB⟩|⟨hn,_⟩<;>grind
  unfold fF at hB;obtain⟨⟨arr,ty,ha,has⟩,hsz,hpos,⟨hle,hnr⟩,⟨T,hrl⟩,J,hrow,hm⟩:=hB;rw[hsz];have hbnd:(r+1)*sz<=rows.length*sz:=Nat.mul_le_mul_right sz T;rw[Nat.add_mul] at hbnd;obtain⟨w',hrun,W⟩:=E8 (P:=P) (o:=l.co+r*sz+c) g hsize hvs ae ha ae hone;refine⟨_,w',h,hrun,SW.update H hst hl hm W.os W.tape W.output W.size W.other (λ_ _ e=>by cases e) λhk=>?_⟩;have K0:Keep w w' Y Y gJ gJ:=⟨λk _ hy=>W.other k (λe=>hy (e ▸ hm)),λ_ _ h=>h,Nat.le_of_eq W.size.symm,mZ.refl _⟩;obtain⟨arr',h4,h5,h6⟩:=W.blk;unfold fF;refine⟨⟨arr',ty,h4,by omega⟩,hsz,hpos,⟨hle,hnr⟩,⟨T,by rw[xq];exact hrl⟩,λi x hx hi=>⟨(J i x hx hi).1,?_⟩,W.rep ha hrow hr ae hk,hm⟩;obtain⟨⟨g1,_⟩,g2⟩:=J i x hx hi;rw[iG.iff] at g2 |-;intro k q hq;obtain⟨u,hu,hp⟩:=g2 k q hq;refine⟨u,?_,Rep.keep _ K0 _ hp⟩;rw[cell_of_block ha] at hu;rw[cell_of_block h4,h6,if_neg]
  exact hu
  have hk:k<x.length:=by
   grind
  rcases Nat.lt_or_gt_of_ne hi with hlt|hgt
  have:=Nat.mul_le_mul_right sz (show i+1<=r from hlt)
  grind
  have:=Nat.mul_le_mul_right sz (show r+1<=i from hgt)
  grind
end
end Go.Pv
namespace Go.Pv
open Go
theorem IG {w:World}{Y:Nat->Prop}{σ:Sg}{b r n:Nat}{ro:Bool}{sz:Nat}{rows:List (List PV)}{v:Value}(hv:Rep w Y σ (.os b r n) v)
  (C:(∃ l,σ b=some l/\fF w Y σ l (.arr ro sz rows))\/(σ b=none/\Emp (.arr ro sz rows))) :
  ∃ a cap,v=.slice a n cap/\n<=cap/\n=((rows.drop r).take n).length/\((rows.drop r).take n=[]\/∃ J o,a=some ⟨J,o,none⟩/\J<w.heap.size/\(∃ l,σ b=some l/\J=l.cb)/\iQ w Y gJ J sz ((rows.drop r).take n) o):=by
 unfold Rep at hv;rcases hv with ⟨l,cap,hs,rfl,t,g,hr⟩|⟨rfl,a,rfl⟩
 rcases C with ⟨l',T,hB⟩|⟨T,_⟩
 rw[hs] at T;cases T;have I:=hB.lt;unfold fF at hB;refine⟨_,cap,rfl,t.1,?_,.inr ⟨l.cb,_,rfl,I,⟨l,hs,rfl⟩,?_⟩⟩
 grind
 rw[hB.2.1];exact(hB.2.2.2.2.1.drop r _ _).take n _ _
 grind
 grind
def Lk (lk:Nat->Option lI)(st:St):Prop:=∀ b ro sz rows,lk b=some (.arr ro sz rows)->∃ ro',iH st b=some (.arr ro' sz rows)
theorem PE {b:Nat}:∀ (δ:Dl) (st:St),aay b δ=false->iH (jf δ st) b=iH st b
 | [],st,_=>rfl
 | (c,x)::δ,st,h=>by
  simp only[aay,Bool.or_eq_false_iff] at h;rw[jf,PE δ _ h.2,gG,if_neg];intro e;subst e;simp at h
theorem F9 {P:Program}{T:Tab}{C:Ctx T}{w:World}{σ:Sg}{qs:List PV}{us:List Value}{n:Nat}{lk:Nat->Option lI} :
  ∀ (ps I : List PV) (δ:Dl),pur (gV.jd P T) lk ps=some (I,δ)->∀ (Y:Nat->Prop) (st:St),SW C w Y σ qs us st n->Lk lk st->∀ vs,eU w Y σ ps vs ->
   ∃ Y',SW C w Y' σ qs us (jf δ st) n/\eU w Y' gJ I vs/\(∀ k,Y' k->Y k)
 | [],I,δ,h,Y,st,H,_,vs,hv=>by
  simp[pur] at h;obtain⟨rfl,rfl⟩:=h;unfold eU at hv;subst hv;exact⟨Y,H,by simp[eU],λ_ h=>h⟩
 | p::ps,I,δ,h,Y,st,H,hlk,vs,hv=>by
  unfold eU at hv;obtain⟨v,J,rfl,h1,h2⟩:=hv;unfold pur at h
  cases hp:pur (gV.jd P T) lk ps with
  | none=>grind
  | some r=>
   obtain⟨t,δ'⟩:=r;rw[hp] at h;simp only at h
   have plain:∀ (q:PV),Rep w Y gJ q v->(some (q::t,δ')=some (I,δ))->∃ Y',SW C w Y' σ qs us (jf δ st) n/\eU w Y' gJ I (v::J)/\(∀ k,Y' k->Y k):=by
    intro q hq e;cases e;obtain⟨Y',H',hr,hy⟩:=F9 ps t _ hp Y st H hlk J h2;refine⟨Y',H',?_,hy⟩;unfold eU;exact⟨v,J,rfl,Rep.keep q ⟨λ_ _ _=>rfl,λk _=>hy k,Nat.le_refl _,mZ.refl _⟩ v hq,hr⟩
   cases p
   case os b r m=>
    simp only at h
    split at h
    rename_i ro sz rows hb;cases h;obtain⟨ro',hst⟩:=hlk b ro sz rows hb;obtain⟨Y1,H1,hn1,hy1⟩:=H.freeze hst (x':=.arr true sz rows) (.inr ⟨ro',sz,rows,rfl,rfl⟩)
    have g:Lk lk (nD st b (some (.arr true sz rows))):=by
     intro c ro2 sz2 rows2 hc;rw[gG]
     by_cases e:b=c
     grind
     rw[if_neg e];exact hlk c _ _ _ hc
    have K1:Keep w w Y Y1 σ σ:=⟨λ_ _ _=>rfl,λk _=>hy1 k,Nat.le_refl _,mZ.refl _⟩;obtain⟨Y2,H2,hr2,hy2⟩:=F9 ps t δ' hp Y1 _ H1 g J (eU.keep ps K1 J h2);refine⟨Y2,H2,?_,λk hk=>hy1 k (hy2 k hk)⟩;unfold eU;refine⟨v,J,rfl,?_,hr2⟩;have hB:=H1.store.blk b (.arr true sz rows) dR;obtain⟨a,cap,e1,e2,e3,e4⟩:=IG (Rep.keep _ K1 v h1) (hB.imp id λ⟨x,y⟩=>⟨x,y⟩)
    have:Rep w Y1 gJ (.sl sz ((gV.jd P T).sub rows r m) false) v:=by
     unfold Rep;refine⟨a,m,cap,e1,e3,e2,(λh=>by cases h),?_⟩;rcases e4 with e4|⟨b',o,ea,eb,⟨l,el,el'⟩,er⟩
     exact .inl e4
     exact .inr ⟨b',o,ea,⟨eb,by grind⟩,er⟩
    exact Rep.keep _ ⟨λ_ _ _=>rfl,λk _=>hy2 k,Nat.le_refl _,mZ.refl _⟩ v this
    cases h
   case fn f cs=>
    cases cs<;>grind[Rep,eU]
   grind[Rep]
   grind[Rep]
   grind[Rep]
   grind[Rep]
   grind[Rep]
   case sl=>grind[Rep]
   case pp=>grind[Rep]
   case Ip=>grind[Rep]
   case Vo=>grind[Rep]
   all_goals cases h
theorem tu:∀ l,gW l=true↔∀ p∈l,xm p=true
 | []=>by simp[gW]
 | p::l=>by simp[gW,tu l]
theorem DI:∀ (vs l:List PV) (c:Nat),gW l=true->gW vs=true->gW (lZ l c vs)=true
 | [],l,c,h,_=>by grind[lZ]
 | v::vs,[],c,h,hv=>by
  simp only[gW,Bool.and_eq_true] at hv
  simpa [lZ,nC] using DI vs [] (c+1) h hv.2
 | v::vs,x::l,c,h,hv=>by
  simp only[gW,Bool.and_eq_true] at hv;rw[lZ];refine DI vs _ (c+1) ?_ hv.2
  grind[tq,tu]
theorem iQ.iff {w:World}{Y:Nat->Prop}{σ:Sg}{b sz:Nat}:∀ (rs:List (List PV)) (o:Nat),iQ w Y σ b sz rs o↔∀ i r,rs[i]?=some r->(r.length=sz/\gW r=true)/\iG w Y σ b r (o+i*sz)
 | [],o=>by simp[iQ]
 | q::rs,o=>by
  unfold iQ;rw[iQ.iff rs (o+sz)];constructor
  rintro⟨h0,h1,h2⟩ i r hi
  cases i<;>grind
  intro h;refine⟨(h 0 q rfl).1,by simpa using (h 0 q rfl).2,λi r hi=>?_⟩;rw[show o+sz+i*sz=o+(i+1)*sz by grind];grind
section
variable {P:Program}{T:Tab}(hT:iK P T){C:Ctx T}{o:Oper}{a:Act}{w:World}{Y:Nat->Prop}{σ:Sg}{ps:List PV}{st:St}{n id:Nat}{K:PV->Dl->Prop}{lk:Nat->Option lI}
 (H:SW C w Y σ ps a.tmps.toList st n) (hlk:∀ b x,lk b=some x->iH st b=some x) (hid:σ id=none/\T.oZ<=id)
theorem YP {vs:List Value}(H:SW C w Y σ ps vs st n){t:TypeId}{b r c size sz:Nat}{l:Loc}{rows:List (List PV)}{row cs:List PV}{v:Value}{K:List PV->Prop}
  (I:P.info? t≠none) (hsize:size=P.cellsOf t) (hst:iH st b=some (.arr false sz rows)) (hl:σ b=some l) (hrow:rows[r]?=some row)
  {us:List Value} (hcs:v.cells=us.toArray) (hv:eU w Y gJ cs us) (h:nX size row c (.agg cs) K) :
  ∃ J w',K J/\(storeVar t ⟨l.cb,l.co+r*l.sz+c,none⟩ v).run P w=.ok () w'/\SW C w' Y σ ps vs (nD st b (some (.arr false sz (rows.set r J)))) n:=by
 unfold nX at h;simp only[lJ] at h
 cases hb:(gW cs&&Nat.beq (nN cs) size&&Nat.ble (c+nN cs) (nN row)) with
 | false=>grind
 | true=>
  rw[hb] at h;simp only[Bool.and_eq_true,vK] at hb;obtain⟨⟨h1,h2⟩,h3⟩:=hb;have h2:=Nat.eq_of_beq_eq_true h2;have h3:=Nat.le_of_ble_eq_true h3;have hone:=zM _ _ h1 hv;have hlen:=hv.length
  have hB:fF w Y σ l (.arr false sz rows):=by
   rcases H.store.blk b _ hst with ⟨l',hl',hB⟩|⟨hn,_⟩<;>grind
  unfold fF at hB;obtain⟨⟨arr,ty,ha,has⟩,hsz,hpos,⟨hle,hnr⟩,T,hm,hr0⟩:=hB;have hr:=iQ.row _ _ _ _ T hrow
  have hrlt:r<rows.length:=by
   grind
  have hbound:r*sz+sz<=rows.length*sz:=by
   have:=Nat.mul_le_mul_right sz (show r+1<=rows.length by omega)
   grind
  rw[hsz];obtain⟨w',hrun,W⟩:=E8 (P:=P) (o:=l.co+r*sz+c) I hsize hcs ae ha ae hone;refine⟨_,w',h,hrun,SW.update H hst hl (hm rfl) W.os W.tape W.output W.size W.other (λ_ _ e=>by cases e) λ_=>?_⟩;have K0:Keep w w' Y Y gJ gJ:=⟨λk _ hk=>W.other k (λe=>hk (e ▸ hm rfl)),λ_ _ h=>h,Nat.le_of_eq W.size.symm,mZ.refl _⟩;obtain⟨arr',h4,h5,h6⟩:=W.blk;unfold fF;refine⟨⟨arr',ty,h4,by omega⟩,hsz,hpos,⟨by simpa using hle,by simpa using hnr⟩,?_,hm,hr0⟩;rw[iQ.iff] at T |-;intro i q hi;rw[List.getElem?_set] at hi
  by_cases g:r=i
  subst g;rw[if_pos rfl,if_pos hrlt] at hi;cases hi;refine⟨⟨by grind[xq],DI _ _ _ hr.1.2 h1⟩,?_⟩;exact W.rep ha hr.2 hv ae (λp v hp=>Rep.keep p K0 v hp)
  rw[if_neg g] at hi;obtain⟨h7,h8⟩:=T i q hi;refine⟨h7,?_⟩;rw[iG.iff] at h8 |-;intro j p hj;obtain⟨u,hu,hp⟩:=h8 j p hj
  have hjlt:j<q.length:=by
   grind
  refine⟨u,?_,Rep.keep p K0 u hp⟩;rw[cell_of_block ha] at hu;rw[cell_of_block h4,h6,if_neg,hu]
  rintro⟨h9,h10⟩
  rcases Nat.lt_or_gt_of_ne g with h11|h11
  have:=Nat.mul_le_mul_right sz (show r+1<=i by omega)
  grind
  have:=Nat.mul_le_mul_right sz (show i+1<=r by omega)
  grind
theorem Ob {cb co tot sz r c size:Nat}{arr:Array Value}{ty:TypeId}{rows:List (List PV)}{row cs:List PV}{v:Value}{t:TypeId}{K:List PV->Prop}
  (J:P.info? t≠none) (hsize:size=P.cellsOf t) (ha:w.heap[cb]?=some (.cells arr ty (0,0))) (has:arr.size=tot) (hle:co+rows.length*sz<=tot) (T:iQ w Y gJ cb sz rows co) (hm:Y cb) (hrow:rows[r]?=some row)
  {us:List Value} (hcs:v.cells=us.toArray) (hv:eU w Y gJ cs us) (h:nX size row c (.agg cs) K) :
  ∃ w',K (lZ row c cs)/\gW cs=true/\c+cs.length<=row.length/\(storeVar t ⟨cb,co+r*sz+c,none⟩ v).run P w=.ok () w'/\(w'.os=w.os/\w'.tape=w.tape/\w'.output=w.output/\w'.heap.size=w.heap.size/\∀ k,k≠cb->w'.heap[k]?=w.heap[k]?) /\
   (∃ arr',w'.heap[cb]?=some (.cells arr' ty (0,0))/\arr'.size=tot)/\iQ w' Y gJ cb sz (rows.set r (lZ row c cs)) co:=by
 unfold nX at h;simp only[lJ] at h
 cases hb:(gW cs&&Nat.beq (nN cs) size&&Nat.ble (c+nN cs) (nN row)) with
 | false=>grind
 | true=>
  rw[hb] at h;simp only[Bool.and_eq_true,vK] at hb;obtain⟨⟨h1,h2⟩,h3⟩:=hb;have h2:=Nat.eq_of_beq_eq_true h2;have h3:=Nat.le_of_ble_eq_true h3;have hone:=zM _ _ h1 hv;have hlen:=hv.length;have hr:=iQ.row _ _ _ _ T hrow
  have C:r<rows.length:=by
   grind
  have hbound:r*sz+sz<=rows.length*sz:=by
   have:=Nat.mul_le_mul_right sz (show r+1<=rows.length by omega)
   grind
  obtain⟨w',g,W⟩:=E8 (P:=P) (o:=co+r*sz+c) J hsize hcs ae ha ae hone;obtain⟨arr',h4,h5,h6⟩:=W.blk;have K0:Keep w w' Y Y gJ gJ:=⟨λk _ hk=>W.other k (λe=>hk (e ▸ hm)),λ_ _ h=>h,Nat.le_of_eq W.size.symm,mZ.refl _⟩;refine⟨w',h,h1,h3,g,⟨W.os,W.tape,W.output,W.size,W.other⟩,⟨arr',h4,by omega⟩,?_⟩;rw[iQ.iff] at T |-;intro i q hi;rw[List.getElem?_set] at hi
  by_cases I:r=i
  subst I;rw[if_pos rfl,if_pos C] at hi;cases hi;refine⟨⟨by grind[xq],DI _ _ _ hr.1.2 h1⟩,?_⟩;exact W.rep ha hr.2 hv ae (λp v hp=>Rep.keep p K0 v hp)
  rw[if_neg I] at hi;obtain⟨h7,h8⟩:=T i q hi;refine⟨h7,?_⟩;rw[iG.iff] at h8 |-;intro j p hj;obtain⟨u,hu,hp⟩:=h8 j p hj
  have hjlt:j<q.length:=by
   grind
  refine⟨u,?_,Rep.keep p K0 u hp⟩;rw[cell_of_block ha] at hu;rw[cell_of_block h4,h6,if_neg,hu]
  rintro⟨h9,h10⟩
  rcases Nat.lt_or_gt_of_ne I with h11|h11
  have:=Nat.mul_le_mul_right sz (show r+1<=i by omega)
  grind
  have:=Nat.mul_le_mul_right sz (show i+1<=r by omega)
  grind
theorem SW.YQ {vs:List Value}{w' : World}(H:SW C w Y σ ps vs st n){b:Nat}{x x' : lI}{l:Loc}{st' : St}(hx:iH st b=some x)(hl:σ b=some l){m:Nat}(hm:Y m)(hnb:∀ b' y l',b'≠b->iH st b'=some y->σ b'=some l'->l'.cb≠m)(hnm:C.w0.heap.size<=m\/C.L m)
  (hsub:∀ c y,iH st' c=some y->(c=b/\y=x')\/(c≠b/\iH st c=some y))
  (hos:w'.os=w.os) (I:w'.tape=w.tape) (t:w'.output=w.output) (hsize:w'.heap.size=w.heap.size)
  (T:∀ k,k≠m->w'.heap[k]?=w.heap[k]?) (g:(∀ p v,Rep w Y gJ p v->Rep w' Y gJ p v)->fF w' Y σ l x') (J:(∀ p v,Rep w Y gJ p v->Rep w' Y gJ p v)->Am C.w0 C.L w' Y σ st'):SW C w' Y σ ps vs st' n:=by
 have K:Keep w w' Y Y σ σ:=⟨λk _ hk=>T k (λe=>hk (e ▸ hm)),λ_ _ h=>h,Nat.le_of_eq hsize.symm,mZ.refl _⟩
 have old:∀ c y,iH st' c=some y->∃ z,iH st c=some z:=by
  grind
 refine⟨eU.keep _ K _ H.vals,⟨?_,?_⟩,H.next,λk hk=>by rw[hsize];exact H.vJ k hk,H.y0,H.c0,H.wP,?_,?_,H.wQ.keep K.none,H.fix,J λp v hp=>Rep.keep p K.none v hp⟩
 intro c y h;rcases hsub c y h with ⟨rfl,rfl⟩|⟨hc,h⟩
 exact .inl ⟨l,hl,g λp v hp=>Rep.keep p K.none v hp⟩
 rcases H.store.blk c y h with ⟨l',hl',hb⟩|hn
 exact .inl ⟨l',hl',fF.keep K (T _ (hnb c y l' hc h hl')) Iff.rfl hb⟩
 exact .inr hn
 intro c c' y y' l1 l2 h h' h1 h2 e;obtain⟨z,hz⟩:=old _ _ h;obtain⟨z',hz'⟩:=old _ _ h';exact H.store.inj c c' z z' l1 l2 hz hz' h1 h2 e
 refine⟨by rw[hos];exact H.pJ.os,by rw[I];exact H.pJ.tape,by rw[t];exact H.pJ.output,by rw[hsize];exact H.pJ.size,λk hk hM=>?_⟩
 have hne:k≠m:=λe=>by
  subst e;rcases H.wP _ hm hk with h2|h2
  have:=H.c0 _ h2
  grind
  exact hM h2
 rw[T k hne];exact H.pJ.block k hk hM
 intro c y l' h h1;obtain⟨z,hz⟩:=old _ _ h;exact H.own c z l' hz h1
theorem XN {row cs:List PV}{c i:Nat}{h:Hdr}{sz:Nat}{T:List (List PV)}(hle:c+cs.length<=row.length)(hi:(lZ row c cs)[i]?=some (.ow h sz T)):(c<=i/\i<c+cs.length/\PV.ow h sz T∈cs)\/((i<c\/c+cs.length<=i)/\row[i]?=some (.ow h sz T)):=by
 grind[PD]
theorem aaH {vs:List Value}{w' : World}(H:SW C w Y σ ps vs st n){b r c sz:Nat}{rows:List (List PV)}{row cs:List PV}{l:Loc}(J:iH st b=some (.lq sz rows))(hs:σ b=some l)(hm:Y l.cb)
  (others:∀ I y l',I≠b->iH st I=some y->σ I=some l'->l'.cb≠l.cb) (hrow:rows[r]?=some row) (h2:c+cs.length<=row.length) (hno:∀ h sz es,PV.ow h sz es∈cs->h.cap≠0->False)
  (w1:w'.os=w.os) (w2:w'.tape=w.tape) (w3:w'.output=w.output) (w4:w'.heap.size=w.heap.size) (w5:∀ k,k≠l.cb->w'.heap[k]?=w.heap[k]?)
  (hB:(∀ p v,Rep w Y gJ p v->Rep w' Y gJ p v)->fF w' Y σ l (.lq sz (rows.set r (lZ row c cs)))):SW C w' Y σ ps vs (nD st b (some (.lq sz (rows.set r (lZ row c cs))))) n:=by
 refine SW.YQ H J hs hm others (H.own b _ l J hs) (λt y' hh=>?_) w1 w2 w3 w4 w5 hB λhk=>?_
 rw[gG] at hh
 grind
 have K0:Keep w w' Y Y gJ gJ:=⟨λk _ hy=>w5 k (λe=>hy (e ▸ hm)),λ_ _ h=>h,Nat.le_of_eq w4.symm,mZ.refl _⟩
 have back:∀ {I g t h' T es'},lU (nD st b (some (.lq sz (rows.set r (lZ row c cs))))) I g t h' T es'->lU st I g t h' T es':=by
  rintro I g t h' T es' ⟨sz0,rs,rw0,g1,g2,g3,g4⟩
  rw[gG] at g1
  by_cases e1:b=I
  subst e1;rw[if_pos rfl] at g1;cases g1;rw[List.getElem?_set] at g2
  by_cases hr:r=g
  subst hr
  have hrlt:r<rows.length:=by
   grind
  rw[if_pos rfl,if_pos hrlt] at g2;cases g2;rcases XN h2 g3 with ⟨k1,k2,k3⟩|⟨k1,k2⟩
  grind
  exact⟨sz,rows,row,J,hrow,k2,g4⟩
  rw[if_neg hr] at g2;exact⟨sz,rows,rw0,J,g2,g3,g4⟩
  rw[if_neg e1] at g1;exact⟨sz0,rs,rw0,g1,g2,g3,g4⟩
 refine H.nest.keep K0 (λ_ _ _ _ _ _ hh=>back hh) (λI g t h' T es' hh=>w5 _ (H.nest.sep _ _ _ _ _ _ _ _ _ (back hh) J hs).symm) (λI g t h' T es' hh=>(H.nest.rep _ _ _ _ _ _ (back hh)).own) λI g t h' T es' b'' x l' hh hx hl'=>?_;rw[gG] at hx
 by_cases e1:b=b''
 subst e1;exact H.nest.sep _ _ _ _ _ _ _ _ _ (back hh) J hl'
 rw[if_neg e1] at hx;exact H.nest.sep _ _ _ _ _ _ _ _ _ (back hh) hx hl'
theorem Oc {S:gV}{lk:Nat->Option lI}:∀ (ps T : List PV) (δ:Dl),pur S lk ps=some (T,δ)->gW T=true/\gW ps=true
 | [],T,δ,h=>by simp[pur] at h;obtain⟨rfl,_⟩:=h;simp[gW]
 | p::ps,T,δ,h=>by
  unfold pur at h
  cases J:pur S lk ps with
  | none=>grind
  | some r=>
   obtain⟨q,I⟩:=r;rw[J] at h;obtain⟨C,i2⟩:=Oc ps q I J
   grind[gW,xm]
theorem Qo {S:gV}{lk:Nat->Option lI}:∀ {ps T : List PV} {us:List Value},pur S lk ps=some (T,[])->eU w Y σ ps us->eU w Y gJ T us
 | [],T,us,h,hr=>by grind[pur,eU]
 | p::ps,T,us,h,hr=>by
  unfold pur at h
  cases I:pur S lk ps with
  | none=>grind
  | some r=>
   obtain⟨q,C⟩:=r;rw[I] at h;simp only at h;unfold eU at hr;obtain⟨v,J,rfl,h1,h2⟩:=hr;cases p
   case os b r n=>
    grind
   case fn f cs=>
    cases cs<;>simp only at h<;>first|contradiction|skip
    cases h;unfold eU;refine⟨v,J,rfl,?_,Qo I h2⟩
    grind[Rep,eU]
   all_goals (simp only at h;first|contradiction|(cases h;unfold eU;refine⟨v,J,rfl,?_,Qo I h2⟩;unfold Rep at h1 |-;exact h1))
theorem VG {P:Program}{T:Tab}{lk:Nat->Option lI}:∀ (ps J : List PV) (δ:Dl),pur (gV.jd P T) lk ps=some (J,δ)->∀ h sz C,PV.ow h sz C ∉ J
 | [],J,δ,h=>by simp[pur] at h;grind
 | p::ps,J,δ,h=>by
  unfold pur at h
  cases I:pur (gV.jd P T) lk ps with
  | none=>grind
  | some r=>
   obtain⟨q,t⟩:=r;rw[I] at h;have g:=VG ps q t I
   grind
include hT H hlk hid in
theorem afG {t:TypeId}{x y:Operand}(ho:o.op=.store t x y)(h:nV T (gV.jd P T) (.store t x y) ps lk id K):qh P C o a w σ ps st n id K:=by
 have hx:=kJ H x;have hy:=kJ H y;simp only[nV] at h
 split at h
 rename_i agg size z plain kind e;obtain⟨hinfo,hsize,hagg,hund⟩:=VE hT e
 split at h
 rename_i b c e;rw[e] at hx;unfold Rep at hx;obtain⟨l,hs,e'⟩:=hx
 split at h
 rename_i row hb;obtain⟨row',w',hK,g,H'⟩:=YN H hinfo hsize (hlk _ _ hb) hs hy h;refine⟨_,_,Go.undef,w',Y,σ,hK,.inr ⟨?_,rfl⟩,?_,by simp[Rep],Off.refl _ _⟩
 simp[execOp,ho,e',Instr.storeAt,Instr.sureAddr,g]
 simp only[jf,uI];exact H'.mono ae
 exact h.elim
 rename_i b r c e;rw[e] at hx;unfold Rep at hx;obtain⟨l,hs,e'⟩:=hx
 split at h
 rename_i sz rows hb
 split at h
 rename_i cs δ hp
 cases hm:aay b δ with
 | true=>rw[hm] at h;exact h.elim
 | false=>
  rw[hm] at h;have h9:=AB h;clear h;obtain⟨cs2,hl2,hc2,hw2,⟨row,J,h⟩,h8⟩:=h9;clear hl2 hc2 h8
  have hall:gW (lJ (rM T ps y))=true:=by
   clear h hm hs e' J hb e hw2;generalize lJ (rM T ps y)=l at hp
   induction l generalizing cs δ with
   | nil=>rfl
   | cons p l ih=>
    unfold pur at hp
    cases hp2:pur (gV.jd P T) lk l with
    | none=>rw[hp2] at hp;cases hp
    | some r=>
     rw[hp2] at hp;simp only[gW,ih _ _ hp2,Bool.and_true];cases p<;>simp[xm] at hp |-
  obtain⟨us,hcs,hr,hone⟩:=JW hy hall;have hLk:Lk lk st:=λb ro sz rows h=>⟨ro,hlk _ _ h⟩
  obtain⟨Y',H',hr',hyy⟩:=F9 _ _ _ hp Y st H hLk us hr;have hst' : iH (jf δ st) b=some (.arr false sz rows):=by rw[PE δ st hm];exact hlk _ _ hb
  obtain⟨row',w',hK,g,H2⟩:=YP (P:=P) H' hinfo hsize hst' hs J hcs (hw2 _ _ _ _ hr') h;refine⟨_,_,Go.undef,w',Y',σ,hK,.inr ⟨?_,rfl⟩,?_,by simp[Rep],Off.refl _ _⟩
  simp[execOp,ho,e',Instr.storeAt,Instr.sureAddr,g]
  have:∀ (δ:Dl) (st:St) (e:Nat×Option lI),jf (δ++[e]) st=nD (jf δ st) e.1 e.2:=by
   intro δ;induction δ with
   | nil=>intro st e;rfl
   | cons d δ ih=>intro st e;simp only[List.cons_append,jf];exact ih _ _
  rw[this]
  have hn:n<=uI (δ++[(b,some (.arr false sz ((gV.jd P T).Gv rows r row')))]) n id:=by
   cases δ<;>simp[uI]<;>omega
  exact H2.mono hn
 exact h.elim
 rename_i sz rows hb;have hst:=hlk _ _ hb;have hB:fF w Y σ l (.lq sz rows):=fF.yN H hlk hb hs;unfold fF at hB;obtain⟨⟨arr,ty,ha,has⟩,hsz,hpos,⟨hle,hnr⟩,hrows,hm⟩:=hB;have others:∀ b' y l',b'≠b->iH st b'=some y->σ b'=some l'->l'.cb≠l.cb:=λb' y l' hne h1 h2 e=>hne (H.store.inj b' b y _ l' l h1 hst h2 hs e)
 have blk:∀ {w' : World} {rows' : List (List PV)} {arr' : Array Value},rows'.length=rows.length->w'.heap[l.cb]?=some (.cells arr' ty (0,0))->arr'.size=l.tot->iQ w' Y gJ l.cb sz rows' l.co->fF w' Y σ l (.lq sz rows'):=by
  intro w' rows' arr' h1 h2 h3 h4;unfold fF;exact⟨⟨arr',ty,h2,h3⟩,hsz,hpos,⟨by rw[h1];exact hle,by rw[h1];exact hnr⟩,h4,hm⟩
 split at h
 rename_i id0 r0 m ey;rw[ey] at hy
 split at h
 rename_i sz' rows' hb2
 cases hc:(Nat.beq size 1&&Nat.beq id0 b) with
 | true=>rw[hc] at h;exact h.elim
 | false=>
  rw[hc] at h;obtain⟨row,J,h⟩:=h;have hst2:=hlk _ _ hb2;have hne:id0≠b:=λe=>by rw[e] at hst2;rw[hst] at hst2;cases hst2
  unfold Rep at hy
  have hcase:(m=0/\∃ a0,a.eval y=.slice a0 0 0)\/(∃ l cap,(σ id0=some l/\a.eval y=.slice (some ⟨l.cb,l.co+r0*l.sz,none⟩) m cap/\(m<=cap/\cap<=9223372036854775807)/\l.co+r0*l.sz+cap*l.sz=l.tot/\r0+m<=l.nr)/\cap≠0):=by
   rcases hy with ⟨l2,cap,g1,g2,g3,g4⟩|hy
   by_cases hcap0:cap=0
   have hm0:m=0:=by have:=g3.1;omega
   subst hm0 hcap0;exact .inl ⟨rfl,_,g2⟩
   exact .inr ⟨l2,cap,⟨g1,g2,g3,g4⟩,hcap0⟩
   exact .inl hy
  rcases hcase with ⟨hm0,hsl⟩|⟨l2,cap,⟨hl2,ey2,hcap,htot,hrm⟩,hcap0⟩
        
  subst hm0
  let hd:Hdr:=⟨0,0,0⟩;have h:nX size row c (.agg [.ow hd sz' []]) (λrow'=>K PV.undef [(id0,none),(b,some (lI.lq sz ((gV.jd P T).Gv rows r row')))]):=h hd
  have hrep:eU w Y gJ [.ow hd sz' []] [a.eval y]:=by
   unfold eU;refine⟨_,_,rfl,?_,by unfold eU;rfl⟩;unfold Rep;exact .inr ⟨rfl,rfl,hsl⟩
  have hcells:(a.eval y).cells=#[a.eval y]:=CV (by obtain⟨a0,e⟩:=hsl;rw[e];rfl);obtain⟨w',hK,h1,h2,g,⟨w1,w2,w3,w4,w5⟩,⟨arr',h5,h6⟩,h7⟩:=Ob (P:=P) hinfo hsize ha has hle hrows hm J (us:=[a.eval y]) (by rw[hcells]) hrep h;have H2:=aaH H hst hs hm others J h2 (by intro h' I es' hh hne;simp only[List.mem_singleton,PV.ow.injEq] at hh;rw[hh.1] at hne;exact hne rfl) w1 w2 w3 w4 w5 (λ_=>blk (rows':=rows.set r (lZ row c [.ow hd sz' []])) aF h5 h6 h7);refine⟨_,_,Go.undef,w',Y,σ,hK,.inr ⟨?_,rfl⟩,?_,by simp[Rep],Off.refl _ _⟩
  rw[<- hsz] at g;simp[execOp,ho,e',Instr.storeAt,Instr.sureAddr,g]
  simp only[jf];refine SW.mono (n:=n) ?_ dG;refine H2.ext λc' y' hh=>?_;simp only[gG] at hh |-
  by_cases e1:b=c'
  rw[if_pos e1] at hh |-;exact hh
  rw[if_neg e1] at hh |-
  by_cases e2:id0=c'
  rw[if_pos e2] at hh;cases hh
  rw[if_neg e2] at hh;exact hh
  have hB2:fF w Y σ l2 (.arr false sz' rows'):=fF.yN H hlk hb2 hl2;unfold fF at hB2;obtain⟨⟨arr2,ty2,ha2,has2⟩,hsz2,hpos2,⟨hle2,hnr2⟩,hrows2,hm2,_⟩:=hB2;have hm2:=hm2 rfl
  let hd:Hdr:=⟨l2.cb,l2.co+r0*l2.sz,cap⟩;have hlen:((rows'.drop r0).take m).length=m:=by rw[List.length_take,List.length_drop];omega
  have h:nX size row c (.agg [.ow hd sz' ((rows'.drop r0).take m)]) (λrow'=>K PV.undef [(id0,none),(b,some (lI.lq sz ((gV.jd P T).Gv rows r row')))]):=h hd
  have hrep:eU w Y gJ [.ow hd sz' ((rows'.drop r0).take m)] [a.eval y]:=by
   unfold eU;refine⟨_,_,rfl,?_,by unfold eU;rfl⟩;unfold Rep;exact .inl ⟨hcap0,by rw[hlen];exact ey2,by rw[hlen];exact hcap.1,hcap.2⟩
  have hcells:(a.eval y).cells=#[a.eval y]:=CV (by rw[ey2];rfl);obtain⟨w',hK,h1,h2,g,⟨w1,w2,w3,w4,w5⟩,⟨arr',h5,h6⟩,h7⟩:=Ob (P:=P) hinfo hsize ha has hle hrows hm J (us:=[a.eval y]) (by rw[hcells]) hrep h
  have look:∀ c' y',iH (jf [(id0,none),(b,some (.lq sz (rows.set r (lZ row c [.ow hd sz' ((rows'.drop r0).take m)]))))] st) c'=some y'->(c'=b/\y'=.lq sz (rows.set r (lZ row c [.ow hd sz' ((rows'.drop r0).take m)])))\/(c'≠b/\c'≠id0/\iH st c'=some y'):=by
   intro c' y' hh;simp only[jf,gG] at hh
   by_cases e1:b=c'
   rw[if_pos e1] at hh;cases hh;exact .inl ⟨e1.symm,rfl⟩
   rw[if_neg e1] at hh
   by_cases e2:id0=c'
   rw[if_pos e2] at hh;cases hh
   rw[if_neg e2] at hh;exact .inr ⟨λe=>e1 e.symm,λe=>e2 e.symm,hh⟩
  have hν:hd.ν=l2.cb:=rfl;have hl12:l2.cb≠l.cb:=others id0 _ l2 hne hst2 hl2
  have ow:∀ {b' r' c' h' I es'},lU (jf [(id0,none),(b,some (.lq sz (rows.set r (lZ row c [.ow hd sz' ((rows'.drop r0).take m)]))))] st) b' r' c' h' I es' ->
    (b'=b/\r'=r/\c'=c/\h'=hd/\I=sz'/\es'=(rows'.drop r0).take m)\/(lU st b' r' c' h' I es'/\¬ (b'=b/\r'=r/\c'=c)):=by
   rintro b' r' c' h' I es' ⟨sz0,rs,rw0,g1,g2,g3,g4⟩
   rcases look _ _ g1 with ⟨e0,g5⟩|⟨e1,e2,g1⟩
   subst e0;cases g5;rw[List.getElem?_set] at g2
   by_cases hr:r=r'
   subst hr
   have hrlt:r<rows.length:=by
    by_cases hh:r<rows.length
    exact hh
    simp[List.getElem?_eq_none (Nat.le_of_not_lt hh)] at J
   rw[if_pos rfl,if_pos hrlt] at g2;cases g2;rcases XN h2 g3 with ⟨k1,k2,k3⟩|⟨k1,k2⟩
   simp only[List.mem_singleton,PV.ow.injEq] at k3;simp only[List.length_singleton] at k2;exact .inl ⟨rfl,rfl,by omega,k3.1,k3.2.1,k3.2.2⟩
   simp only[List.length_singleton] at k1;exact .inr ⟨⟨sz,rows,row,hst,J,k2,g4⟩,λhh=>by omega⟩
   rw[if_neg hr] at g2;exact .inr ⟨⟨sz,rows,rw0,hst,g2,g3,g4⟩,λhh=>hr hh.2.1.symm⟩
   exact .inr ⟨⟨sz0,rs,rw0,g1,g2,g3,g4⟩,λhh=>e1 hh.1⟩
  have H2:SW C w' Y σ ps a.tmps.toList (jf [(id0,none),(b,some (.lq sz (rows.set r (lZ row c [.ow hd sz' ((rows'.drop r0).take m)]))))] st) n:=by
   refine SW.YQ H hst hs hm others (H.own b _ l hst hs) (λc' y' hh=>(look c' y' hh).imp _root_.id λhh=>⟨hh.1,hh.2.2⟩) w1 w2 w3 w4 w5 (λ_=>blk aF h5 h6 h7) λhk=>?_;have K0:Keep w w' Y Y gJ gJ:=⟨λk _ hy=>w5 k (λe=>hy (e ▸ hm)),λ_ _ h=>h,Nat.le_of_eq w4.symm,mZ.refl _⟩;have notl:∀ {b' r' c' h' I es'},lU st b' r' c' h' I es'->h'.ν≠l.cb/\h'.ν≠l2.cb:=λhh=>⟨(H.nest.sep _ _ _ _ _ _ _ _ _ hh hst hs).symm,(H.nest.sep _ _ _ _ _ _ _ _ _ hh hst2 hl2).symm⟩
   refine⟨λb' r' c' h' I es' hh=>?_,λb' r' c' h' I es' hh=>?_,λb' r' c' h' I es' b'' r'' c'' h'' sz3 es'' hh hh' e=>?_,λb' r' c' h' I es' b'' x l' hh hx hl'=>?_⟩
   rcases ow hh with ⟨_,_,_,rfl,rfl,rfl⟩|⟨hh,_⟩
   refine⟨hm2,hpos2,⟨arr2,ty2,by rw[hν,w5 _ hl12];exact ha2,by rw[has2];show l2.tot=l2.co+r0*l2.sz+cap*I;rw[<- htot,hsz2]⟩,by rw[hlen];exact hcap.1,?_⟩;show iQ w' Y gJ l2.cb I _ (l2.co+r0*l2.sz);rw[hsz2];exact iQ.keep _ K0 (λ_=>w5 _ hl12) _ ((hrows2.drop r0 _ _).take m _ _)
   exact(H.nest.rep _ _ _ _ _ _ hh).keep K0 (w5 _ (notl hh).1) (λh=>h)
   rcases ow hh with ⟨_,_,_,rfl,rfl,rfl⟩|⟨hh,_⟩
   exact H.own id0 _ l2 hst2 hl2
   exact H.nest.old _ _ _ _ _ _ hh
   rcases ow hh with ⟨e1,e2,e3,e4,_⟩|⟨hh1,_⟩<;>rcases ow hh' with ⟨f1,f2,f3,f4,_⟩|⟨hh2,_⟩
   exact⟨by rw[e1,f1],by rw[e2,f2],by rw[e3,f3]⟩
   exact absurd (by rw[<- e,e4]) (notl hh2).2
   exact absurd (by rw[e,f4]) (notl hh1).2
   exact H.nest.one _ _ _ _ _ _ _ _ _ _ _ _ hh1 hh2 e
   have hx2:(b''=b\/b''≠b)/\b''≠id0/\∃ z,iH st b''=some z:=by
    rcases look _ _ hx with ⟨rfl,_⟩|⟨e1,e2,hx⟩
    exact⟨.inl rfl,λe=>hne e.symm,_,hst⟩
    exact⟨.inr e1,e2,_,hx⟩
   obtain⟨_,hxi,z,hz⟩:=hx2;rcases ow hh with ⟨_,_,_,rfl,_⟩|⟨hh,_⟩
   exact λe=>hxi (H.store.inj b'' id0 z _ l' l2 hz hst2 hl' hl2 e)
   exact H.nest.sep _ _ _ _ _ _ _ _ _ hh hz hl'
  refine⟨_,_,Go.undef,w',Y,σ,hK,.inr ⟨?_,rfl⟩,H2.mono dG,by simp[Rep],Off.refl _ _⟩;rw[<- hsz] at g;simp[execOp,ho,e',Instr.storeAt,Instr.sureAddr,g]
 exact h.elim
 split at h
 rename_i cs hp;have hall:gW (lJ (rM T ps y))=true:=(Oc _ _ _ hp).2;obtain⟨us,hcs,hr,hone⟩:=JW hy hall;have hLk:Lk lk st:=λb ro sz rows h=>⟨ro,hlk _ _ h⟩
 obtain⟨row,J,h⟩:=h;have hr':=Qo hp hr;obtain⟨w',hK,h1,h2,g,⟨w1,w2,w3,w4,w5⟩,⟨arr',h5,h6⟩,h7⟩:=Ob (P:=P) hinfo hsize ha has hle hrows hm J hcs hr' h;have H2:=aaH H hst hs hm others J h2 (by intro h' I es' hh hne;exact absurd hh (VG _ _ _ hp _ _ _)) w1 w2 w3 w4 w5 (λ_=>blk (rows':=rows.set r (lZ row c cs)) aF h5 h6 h7);refine⟨_,_,Go.undef,w',Y,σ,hK,.inr ⟨?_,rfl⟩,H2.mono dG,by simp[Rep],Off.refl _ _⟩;rw[<- hsz] at g;simp[execOp,ho,e',Instr.storeAt,Instr.sureAddr,g]
 exact h.elim
 rename_i sz rows r0 row hb;obtain⟨hr0,h⟩:=h;cases hr0;obtain⟨row',w',hK,g,H'⟩:=YO H hinfo hsize (hlk _ _ hb) hs hy h;refine⟨_,_,Go.undef,w',Y,σ,hK,.inr ⟨?_,rfl⟩,?_,by simp[Rep],Off.refl _ _⟩
 simp[execOp,ho,e',Instr.storeAt,Instr.sureAddr,g]
 simp only[jf,uI];exact H'.mono ae
 exact h.elim
 rename_i b r c hd sz j k e;rw[e] at hx;unfold Rep at hx
 split at h
 rename_i sz0 rows hb;have hst:=hlk _ _ hb
 split at h
 rename_i cs hp;have hall:gW (lJ (rM T ps y))=true:=(Oc _ _ _ hp).2;obtain⟨us,hcs,hr,hone⟩:=JW hy hall;have h9:=AB h;clear h;obtain⟨cs2,hl2,hc2,hw2,⟨row,J,h⟩,h8⟩:=h9;clear hl2 hc2 h8;have hr':=hw2 _ _ _ _ (Qo hp hr)
 split at h
 rename_i h' sz' es ec
 cases hs:Nat.beq sz' sz with
 | false=>rw[hs] at h;exact h.elim
 | true=>
  rw[hs] at h;simp only[cond_true] at h;have hs:=Nat.eq_of_beq_eq_true hs;subst hs;obtain⟨he,er,her,h⟩:=h;subst he;have hc:row[c]?=some (.ow hd sz' es):=by rw[E5,List.getD_eq_getElem?_getD] at ec;exact getD_some ec
  have hne:es≠[]:=by rintro rfl;simp at her
  have hcap:=H.afD hst J hc hne;have hO:lU st b r c hd sz' es:=⟨sz0,rows,row,hst,J,hc,hcap⟩;have hN:=H.nest.rep _ _ _ _ _ _ hO;obtain⟨arr,ty,ha,has⟩:=hN.blk;have hle:hd.o+es.length*sz'<=hd.o+hd.cap*sz':=by have:=Nat.mul_le_mul_right sz' hN.len;omega
  obtain⟨w',hK,h1,h2,g,⟨w1,w2,w3,w4,w5⟩,⟨arr',h5,h6⟩,h7⟩:=Ob (P:=P) hinfo hsize ha has hle hN.rows hN.own her hcs hr' h
  obtain⟨l,hl,hB⟩:∃ l,σ b=some l/\fF w Y σ l (.lq sz0 rows):=by
   rcases H.store.blk b _ hst with h|⟨_,hx⟩
   exact h
   cases hx;simp at J
  have hlν:l.cb≠hd.ν:=H.nest.sep _ _ _ _ _ _ _ _ _ hO hst hl
  have hclt:c<row.length:=by
   by_cases hh:c<row.length
   exact hh
   simp[List.getElem?_eq_none (Nat.le_of_not_lt hh)] at hc
  have hrlt:r<rows.length:=by
   by_cases hh:r<rows.length
   exact hh
   simp[List.getElem?_eq_none (Nat.le_of_not_lt hh)] at J
  have hne' : es.set j (lZ er k cs2)≠[]:=by
   intro h0;have:=congrArg List.length h0;simp at this;exact hne this
  have ow:∀ {b' r' c' h2 I es'},lU (nD st b (some (.lq sz0 (rows.set r (nC row c (.ow hd sz' (es.set j (lZ er k cs2)))))))) b' r' c' h2 I es' ->
    (b'=b/\r'=r/\c'=c/\h2=hd/\I=sz'/\es'=es.set j (lZ er k cs2))\/(lU st b' r' c' h2 I es'/\¬ (b'=b/\r'=r/\c'=c)):=by
   rintro b' r' c' h2 I es' ⟨szx,rs,rw0,g1,g2,g3,g4⟩
   rw[gG] at g1
   by_cases e1:b=b'
   subst e1;rw[if_pos rfl] at g1;cases g1;rw[List.getElem?_set] at g2
   by_cases hrr:r=r'
   subst hrr;rw[if_pos rfl,if_pos hrlt] at g2;cases g2;rw[tq,List.getElem?_set] at g3
   by_cases hcc:c=c'
   subst hcc;rw[if_pos rfl,if_pos hclt] at g3;cases g3;exact .inl ⟨rfl,rfl,rfl,rfl,rfl,rfl⟩
   rw[if_neg hcc] at g3;exact .inr ⟨⟨sz0,rows,row,hst,J,g3,g4⟩,λhh=>hcc hh.2.2.symm⟩
   rw[if_neg hrr] at g2;exact .inr ⟨⟨sz0,rows,rw0,hst,g2,g3,g4⟩,λhh=>hrr hh.2.1.symm⟩
   rw[if_neg e1] at g1;exact .inr ⟨⟨szx,rs,rw0,g1,g2,g3,g4⟩,λhh=>e1 hh.1.symm⟩
  have H2:SW C w' Y σ ps a.tmps.toList (nD st b (some (.lq sz0 (rows.set r (nC row c (.ow hd sz' (es.set j (lZ er k cs2)))))))) n:=by
   refine SW.YQ (b:=b) (x':=.lq sz0 (rows.set r (nC row c (.ow hd sz' (es.set j (lZ er k cs2)))))) H hst hl hN.own (λb' y l' _ h1 h2=>H.nest.sep _ _ _ _ _ _ _ _ _ hO h1 h2) (H.nest.old _ _ _ _ _ _ hO) (λc' y' hh=>?_) w1 w2 w3 w4 w5 (λhk=>?_) λhk=>?_
   rw[gG] at hh
   by_cases e1:b=c'
   rw[if_pos e1] at hh;cases hh;exact .inl ⟨e1.symm,rfl⟩
   rw[if_neg e1] at hh;exact .inr ⟨λe=>e1 e.symm,hh⟩
   unfold fF at hB |-;obtain⟨⟨arr0,ty0,b1,b2⟩,b3,b4,⟨b5,b6⟩,b7,b8⟩:=hB;refine⟨⟨arr0,ty0,by rw[w5 _ hlν];exact b1,b2⟩,b3,b4,⟨by simpa using b5,by simpa using b6⟩,?_,b8⟩;have K0:Keep w w' Y Y gJ gJ:=⟨λk _ hy=>w5 k (λe=>hy (e ▸ hN.own)),λ_ _ h=>h,Nat.le_of_eq w4.symm,mZ.refl _⟩;have b7:=iQ.keep rows K0 (λ_=>w5 _ hlν) _ b7;rw[iQ.iff] at b7 |-;intro i q hi;rw[List.getElem?_set] at hi
   by_cases hri:r=i
   subst hri;rw[if_pos rfl,if_pos hrlt] at hi;cases hi;obtain⟨⟨q1,q2⟩,q3⟩:=b7 r row J;refine⟨⟨by rw[tq];simpa using q1,?_⟩,?_⟩
   rw[tq,tu];rw[tu] at q2;intro p hp;rcases List.mem_or_eq_of_mem_set hp with hh|hh
   exact q2 p hh
   rw[hh];rfl
   rw[iG.iff] at q3 |-;intro i p hi;rw[tq,List.getElem?_set] at hi
   by_cases hci:c=i
   subst hci;rw[if_pos rfl,if_pos hclt] at hi;cases hi;obtain⟨v,hv,hp⟩:=q3 c _ hc;refine⟨v,hv,?_⟩;unfold Rep at hp |-;rcases hp with ⟨p1,p2,p3,p4⟩|⟨p1,_⟩
   exact .inl ⟨p1,by simpa using p2,by simpa using p3,p4⟩
   exact absurd p1 hcap
   rw[if_neg hci] at hi;exact q3 i p hi
   rw[if_neg hri] at hi;exact b7 i q hi
   have K0:Keep w w' Y Y gJ gJ:=⟨λk _ hy=>w5 k (λe=>hy (e ▸ hN.own)),λ_ _ h=>h,Nat.le_of_eq w4.symm,mZ.refl _⟩;have other:∀ {b' r' c' h2 I es'},lU st b' r' c' h2 I es'->¬ (b'=b/\r'=r/\c'=c)->h2.ν≠hd.ν:=λhh hn e=>hn (H.nest.one _ _ _ _ _ _ _ _ _ _ _ _ hh hO e);refine⟨λb' r' c' h2 I es' hh=>?_,λb' r' c' h2 I es' hh=>?_,λb' r' c' h2 I es' b'' r'' c'' h3 sz3 es'' hh hh' e=>?_,λb' r' c' h2 I es' b'' x l' hh hx hl'=>?_⟩
   rcases ow hh with ⟨_,_,_,rfl,rfl,rfl⟩|⟨hh,hn⟩
   exact⟨hN.own,hN.pos,⟨arr',ty,h5,h6⟩,by simpa using hN.len,h7⟩
   exact(H.nest.rep _ _ _ _ _ _ hh).keep K0 (w5 _ (other hh hn)) (λh=>h)
   rcases ow hh with ⟨_,_,_,rfl,rfl,rfl⟩|⟨hh,_⟩
   exact H.nest.old _ _ _ _ _ _ hO
   exact H.nest.old _ _ _ _ _ _ hh
   rcases ow hh with ⟨e1,e2,e3,e4,_⟩|⟨hh1,n1⟩<;>rcases ow hh' with ⟨f1,f2,f3,f4,_⟩|⟨hh2,n2⟩
   exact⟨by rw[e1,f1],by rw[e2,f2],by rw[e3,f3]⟩
   exact absurd (by rw[<- e,e4]) (other hh2 n2)
   exact absurd (by rw[e,f4]) (other hh1 n1)
   exact H.nest.one _ _ _ _ _ _ _ _ _ _ _ _ hh1 hh2 e
   have hz:∃ z,iH st b''=some z:=by
    rw[gG] at hx
    by_cases e1:b=b''
    subst e1;exact⟨_,hst⟩
    rw[if_neg e1] at hx;exact⟨_,hx⟩
   obtain⟨z,hz⟩:=hz;rcases ow hh with ⟨_,_,_,rfl,_⟩|⟨hh,_⟩
   exact H.nest.sep _ _ _ _ _ _ _ _ _ hO hz hl'
   exact H.nest.sep _ _ _ _ _ _ _ _ _ hh hz hl'
  refine⟨_,_,Go.undef,w',Y,σ,hK,.inr ⟨?_,rfl⟩,H2.mono dG,by simp[Rep],Off.refl _ _⟩;simp[execOp,ho,hx,Instr.storeAt,Instr.sureAddr,g]
 exact h.elim
 exact h.elim
 exact h.elim
 exact h.elim
 exact h.elim
end
end Go.Pv
namespace Go.Pv
open Go
theorem GI {P:Program}{t:TypeId}{z:List PV}(h:Iz P t=some z):∃ T,(∀ w,(zeroValue t).run P w=.ok T w)/\∀ w Y σ,eU w Y σ z T.cells.toList:=by
 unfold Iz at h
 split at h
 rename_i i hi
 split at h
 rename_i T I;cases h;refine⟨T,λw=>by simp_all[zeroValue,typeInfo],λw Y σ=>?_⟩;unfold XG
 split
 rename_i cs;exact IC w Y σ _
 rename_i J;have h1:lJ (KH T)=[KH T]:=by unfold KH;split<;>rfl
 have h2:T.cells=#[T]:=by
  cases T<;>first|rfl|(exact absurd rfl (J _))
 rw[h1,h2];unfold eU;exact⟨T,[],rfl,Py w Y σ T,by simp[eU]⟩
 cases h
 cases h
theorem VH {w:World}{Y:Nat->Prop}{σ:Sg}{p:PV}{v:Value}(h:Rep w Y σ p v)(T:p≠.top):eU w Y σ (lJ p) v.cells.toList:=by
 cases p
 case top=>exact absurd rfl T
 case hc=>
  have hc:v.cells=#[v]:=by unfold Rep at h;cases v<;>simp[Pq] at h<;>rfl
  rw[hc];simp only[lJ];unfold eU;exact⟨v,[],rfl,h,by simp[eU]⟩
 case agg cs=>unfold Rep at h;obtain⟨vs,rfl,hr⟩:=h;exact hr
 case os=>
  have hc:v.cells=#[v]:=by
   unfold Rep at h;rcases h with ⟨_,_,_,rfl,_⟩|⟨_,_,rfl⟩<;>rfl
  rw[hc];simp only[lJ];unfold eU;exact⟨v,[],rfl,h,by simp[eU]⟩
 case ow=>
  have hc:v.cells=#[v]:=by
   unfold Rep at h;rcases h with ⟨_,rfl,_⟩|⟨_,_,_,rfl⟩<;>rfl
  rw[hc];simp only[lJ];unfold eU;exact⟨v,[],rfl,h,by simp[eU]⟩
 case bo=>
  have hc:v.cells=#[v]:=by
   unfold Rep at h;rcases h with ⟨_,rfl,_⟩|⟨_,_,_,rfl⟩<;>rfl
  rw[hc];simp only[lJ];unfold eU;exact⟨v,[],rfl,h,by simp[eU]⟩
 all_goals
  have hc:v.cells=#[v]:=by
   unfold Rep at h
   first
    | (subst h;rfl)
    | (obtain⟨_,rfl,_⟩:=h;rfl)
    | (obtain⟨_,_,rfl⟩:=h;rfl)
    | (obtain⟨_,_,rfl,_⟩:=h;rfl)
    | (obtain⟨_,_,_,rfl,_⟩:=h;rfl)
  rw[hc];simp only[lJ];unfold eU;exact⟨v,[],rfl,h,by simp[eU]⟩
section
variable {P:Program}{T:Tab}(hT:iK P T){C:Ctx T}{o:Oper}{a:Act}{w:World}{Y:Nat->Prop}{σ:Sg}{ps:List PV}{st:St}{n id:Nat}{K:PV->Dl->Prop}{lk:Nat->Option lI}
 (H:SW C w Y σ ps a.tmps.toList st n) (hlk:∀ b x,lk b=some x->iH st b=some x) (hid:σ id=none/\T.oZ<=id)
theorem SW.newVar (H:SW C w Y σ ps a.tmps.toList st n)(hid:σ id=none/\T.oZ<=id){vs:List Value}{row:List PV}(ty:TypeId)(hr:eU w Y σ row vs) :
  ∃ Y' σ',SW C (w.alloc (.cells vs.toArray ty)) Y' σ' ps a.tmps.toList (nD st id (some (.var false row))) (max n (id+1))/\Rep (w.alloc (.cells vs.toArray ty)) Y' σ' (.lv id 0) (.pointer (some ⟨w.heap.size,0,none⟩))/\Off id σ σ':=by
 obtain⟨Y',σ',H',hs,_,_,J⟩:=H.alloc hid vs.toArray ty ⟨w.heap.size,0,row.length,vs.length,1⟩ rfl (.var false row) (λ_ _ e=>by cases e) (by
  intro w' Y' σ' hk g I _;unfold fF;refine⟨⟨_,ty,I,by simp⟩,rfl,by simp[hr.length],?_,λ_=>g,λh=>by cases h⟩;rw[iG.iff];intro i p hi;obtain⟨v,hv,t⟩:=hr.get? hi;exact⟨v,by rw[cell_of_block I];simpa using hv,hk _ _ t⟩)
 refine⟨Y',σ',H',?_,J⟩;unfold Rep;exact⟨_,hs,rfl⟩
include hT H hid in
theorem afH {t:TypeId}(ho:o.op=.alloc t)(h:nV T (gV.jd P T) (.alloc t) ps lk id K):qh P C o a w σ ps st n id K:=by
 simp only[nV] at h
 split at h
 rename_i agg size z plain kind e;obtain⟨i,d,h1,h2,h3,h4,h5,g,h7,h8⟩:=vX hT e rfl;obtain⟨zv,I,hr⟩:=GI g.symm;obtain⟨Y',σ',H',hrep,J⟩:=H.newVar hid t (hr w Y σ);refine⟨_,_,_,_,Y',σ',h,.inl ?_,H',hrep,J⟩;simp[execOp,ho,Instr.alloc,I,newVar,newRow,newObj,Sem.run,Result.andThen]
 exact h.elim
include H hid in
theorem ajE {t:TypeId}{x:Operand}(ho:o.op=.box t x)(h:nV T (gV.jd P T) (.box t x) ps lk id K):qh P C o a w σ ps st n id K:=by
 have hx:=kJ H x;simp only[nV] at h
 split at h
 exact h.elim
 rename_i I;obtain⟨Y',σ',H',hrep,J⟩:=H.newVar hid t (VH hx I);refine⟨_,_,_,_,Y',σ',h,.inl ?_,H',hrep,J⟩;simp[execOp,ho,Instr.box,newVar,newRow,newObj,Sem.run,Result.andThen]
include H in
theorem aaI {f:FuncId}{first cap:Array Operand}(ho:o.op=.makeFunc (.func f) first cap)(h:nV T (gV.jd P T) (.makeFunc (.func f) first cap) ps lk id K):qh P C o a w σ ps st n id K:=by
 simp only[nV] at h
 split at h
 rename_i U;have J : first=#[]:=by simpa using U
 subst J;refine qh.quiet H (cv:=.func (.func f) #[] (cap.map a.eval)) ?_ ?_ h
 simp[execOp,ho,Instr.makeFunc]
 unfold Rep;refine⟨cap.toList.map a.eval,?_,vM H _⟩
 congr 1
 apply Array.ext';simp
 exact h.elim
theorem tC {P:Program}{w:World}{k:IntKind}{m:Int}:(asIntOf (.int k m)).run P w=.ok (k,m) w:=by simp[asIntOf]
include hT H hlk in
theorem YR {t:TypeId}{x i:Operand}(ho:o.op=.indexAddr t x i)(h:nV T (gV.jd P T) (.indexAddr t x i) ps lk id K):qh P C o a w σ ps st n id K:=by
 have hx:=kJ H x;have hi:=kJ H i;simp only[nV] at h
 split at h
 rename_i agg size z plain esz bytes z' e;obtain⟨et,hu,rfl,_,_⟩:=l7 hT e
 have run:∀ (k:IntKind) (j len cap:Nat) (b off:Nat),a.eval i=.int k (j:Int)->a.eval x=.slice (some ⟨b,off,none⟩) len cap->j<len->P.info? et≠none ->
   (execOp a.eval o).run P w=.ok (.value (.pointer (some ⟨b,off+j*P.cellsOf et,none⟩))) w:=by
  intro k j len cap b off e1 e2 hj hinf;have:(0:Int)<=(j:Int)/\(j:Int)<(len:Int):=by omega
  simp[execOp,ho,Instr.indexAt,e1,e2,tC,kD hu,run_sizeOf hinf,this,addr_add]
 split at h
 rename_i sz es full k m g hie;rw[g] at hx;have hiv:=pM hi hie
 cases J:(kR (P.cellsOf et)&&Nat.beq sz (P.cellsOf et)) with
 | false=>rw[J] at h;exact h.elim
 | true=>
  rw[J] at h;rw[Bool.and_eq_true] at J;have hinf:=kE J.1;have J:=Nat.eq_of_beq_eq_true J.2;obtain⟨j,row,rfl,hrow,h⟩:=h;unfold Rep at hx;obtain⟨a',len,cap,ex,hl,hc,_,hr⟩:=hx
  have I:j<es.length:=by
   by_cases hh:j<es.length
   exact hh
   simp[List.getElem?_eq_none (Nat.le_of_not_lt hh)] at hrow
  rcases hr with hr|⟨b,off,rfl,hy,hr⟩
  rw[hr] at I;simp at I
  refine qh.quiet H (run k j len cap b off hiv ex ae hinf) ?_ h;unfold Rep;refine⟨b,_,rfl,hy,?_⟩;rw[<- J];exact(iQ.row _ _ _ _ hr hrow).2
 rename_i b r len k m g hie;rw[g] at hx;have hiv:=pM hi hie
 split at h
 rename_i ro sz rows hbk
 cases J:(kR (P.cellsOf et)&&Nat.beq sz (P.cellsOf et)) with
 | false=>rw[J] at h;exact h.elim
 | true=>
  rw[J] at h;rw[Bool.and_eq_true] at J;have hinf:=kE J.1;have J:=Nat.eq_of_beq_eq_true J.2;obtain⟨j,rfl,I,h⟩:=h;unfold Rep at hx;rcases hx with ⟨l,cap,hs,ex,hn,ht,hnr⟩|⟨rfl,_⟩
  have hB:=fF.yN H hlk hbk hs;unfold fF at hB;refine qh.quiet H (run k j len cap _ _ hiv ex I hinf) ?_ h;unfold Rep;refine⟨l,hs,?_⟩;have:l.sz=P.cellsOf et:=by rw[hB.2.1,J]
  show Value.pointer (some ⟨l.cb,l.co+r*l.sz+j*P.cellsOf et,none⟩)=Value.pointer (some ⟨l.cb,l.co+(r+j)*l.sz+0,none⟩);rw[<- this,Nat.add_mul];simp[Nat.add_assoc]
  omega
 rename_i sz rows hbk
 cases J:(kR (P.cellsOf et)&&Nat.beq sz (P.cellsOf et)) with
 | false=>rw[J] at h;exact h.elim
 | true=>
  rw[J] at h;rw[Bool.and_eq_true] at J;have hinf:=kE J.1;have J:=Nat.eq_of_beq_eq_true J.2;obtain⟨j,rfl,I,h⟩:=h;unfold Rep at hx;rcases hx with ⟨l,cap,hs,ex,hn,ht,hnr⟩|⟨rfl,_⟩
  have hB:=fF.yN H hlk hbk hs;unfold fF at hB;refine qh.quiet H (run k j len cap _ _ hiv ex I hinf) ?_ h;unfold Rep;refine⟨l,hs,?_⟩;have:l.sz=P.cellsOf et:=by rw[hB.2.1,J]
  show Value.pointer (some ⟨l.cb,l.co+r*l.sz+j*P.cellsOf et,none⟩)=Value.pointer (some ⟨l.cb,l.co+(r+j)*l.sz+0,none⟩);rw[<- this,Nat.add_mul];simp[Nat.add_assoc]
  omega
 rename_i sz _ _ _ hbk
 cases J:(kR (P.cellsOf et)&&Nat.beq sz (P.cellsOf et)) with
 | false=>rw[J] at h;exact h.elim
 | true=>
  rw[J] at h;rw[Bool.and_eq_true] at J;have hinf:=kE J.1;have J:=Nat.eq_of_beq_eq_true J.2;obtain⟨j,rfl,I,h⟩:=h;unfold Rep at hx;rcases hx with ⟨l,cap,hs,ex,hn,ht,hnr⟩|⟨rfl,_⟩
  have hB:=fF.yN H hlk hbk hs;unfold fF at hB;refine qh.quiet H (run k j len cap _ _ hiv ex I hinf) ?_ h;unfold Rep;refine⟨l,hs,?_⟩;have:l.sz=P.cellsOf et:=by rw[hB.2.1,J]
  show Value.pointer (some ⟨l.cb,l.co+r*l.sz+j*P.cellsOf et,none⟩)=Value.pointer (some ⟨l.cb,l.co+(r+j)*l.sz+0,none⟩);rw[<- this,Nat.add_mul];simp[Nat.add_assoc]
  omega
 exact h.elim
 rename_i b r c hd sz len k m g hie;rw[g] at hx;have hiv:=pM hi hie
 cases J:(kR (P.cellsOf et)&&Nat.beq sz (P.cellsOf et)) with
 | false=>rw[J] at h;exact h.elim
 | true=>
  rw[J] at h;rw[Bool.and_eq_true] at J;have hinf:=kE J.1;have J:=Nat.eq_of_beq_eq_true J.2;obtain⟨j,rfl,I,h⟩:=h;unfold Rep at hx;rcases hx with ⟨_,ex,hn⟩|⟨_,rfl,_⟩
  refine qh.quiet H (run k j len hd.cap _ _ hiv ex I hinf) ?_ h;unfold Rep;rw[<- J];rfl
  omega
 exact h.elim
 ·rename_i agg size z plain len esz ag e;obtain⟨et,hu,rfl,_,_⟩:=Ql hT e
  cases hpos:kR (P.cellsOf et) with
  | false=>rw[hpos] at h;exact h.elim
  | true=>
  rw[hpos] at h;simp only[cond_true] at h;have hinf:=kE hpos
  have run:∀ (k:IntKind) (j:Nat) (b off:Nat),a.eval i=.int k (j:Int)->a.eval x=.pointer (some ⟨b,off,none⟩)->j<len ->
    (execOp a.eval o).run P w=.ok (.value (.pointer (some ⟨b,off+j*P.cellsOf et,none⟩))) w:=by
   intro k j b off e1 e2 hj;have:(0:Int)<=(j:Int)/\(j:Int)<(len:Int):=by omega
   simp[execOp,ho,Instr.indexAt,e1,e2,tC,kD hu,run_sizeOf hinf,this,addr_add,Instr.sureAddr]
  have fin:∀ (k:IntKind) (j:Nat),a.eval i=.int k (j:Int)->j<len->(match rM T ps x with
    | .lv b c=>K (.lv b (c+j*P.cellsOf et)) []
    | .lp b r c=>K (.lp b r (c+j*P.cellsOf et)) []
    | .pp cs=>bif Nat.ble (j*P.cellsOf et) (nN cs) then K (.pp (Gw (j*P.cellsOf et) cs)) [] else False
    | _=>False)->qh P C o a w σ ps st n id K:=by
   intro k j hiv hj h
   split at h
   rename_i b c g;rw[g] at hx;unfold Rep at hx;obtain⟨l,hs,ex⟩:=hx;refine qh.quiet H (run k j _ _ hiv ex hj) ?_ h;unfold Rep;exact⟨l,hs,by rw[Nat.add_assoc]⟩
   rename_i b r c g;rw[g] at hx;unfold Rep at hx;obtain⟨l,hs,ex⟩:=hx;refine qh.quiet H (run k j _ _ hiv ex hj) ?_ h;unfold Rep;exact⟨l,hs,by rw[Nat.add_assoc]⟩
   rename_i cs g;rw[g] at hx;unfold Rep at hx;obtain⟨b,off,ex,hy,hr⟩:=hx
   cases J:Nat.ble (j*P.cellsOf et) (nN cs) with
   | false=>rw[J] at h;exact h.elim
   | true=>
    rw[J] at h;refine qh.quiet H (run k j _ _ hiv ex hj) ?_ h;unfold Rep;rw[yL];exact⟨b,_,rfl,hy,hr.drop _ _ _⟩
   exact h.elim
  split at h
  rename_i k m hie;rw[hie] at hi
  cases J:Nat.blt m len with
  | false=>simp only[J,cond_false] at h
  | true=>
   simp only[J,cond_true] at h;exact fin k m (vN hi) (by simpa [Nat.blt_eq] using J) h
  rename_i k m hie;rw[hie] at hi;obtain⟨j,rfl,hj,h⟩:=h;exact fin k j (VD hi) hj h
  exact h.elim
 exact h.elim
end
end Go.Pv
namespace Go.Pv
open Go
theorem aaJ {P:Program}{w:World}{Y:Nat->Prop}{σ:Sg}{t:TypeId}{c size:Nat}{cs:List PV}{vs:List Value}{agg:Bool}{K:PV->Prop}
  (C:P.info? t≠none) (hsize:size=P.cellsOf t) (g:agg=kK P t) (T:∃ d,P.underlying t=some d)
  (hr:eU w Y σ cs vs) (h:loadRow agg size cs c K) :
  ∃ v cv,K v/\(part t vs.toArray c).run P w=.ok cv w/\Rep w Y σ v cv:=by
 obtain⟨d,hu⟩:=T;unfold loadRow at h;have hlen:=hr.length
 cases agg with
 | true=>
  simp only[cond_true] at h
  cases J:Nat.ble (c+size) (nN cs) with
  | false=>grind
  | true=>
   simp only[J,cond_true,MP,yL] at h;have hle:c+size<=cs.length:=by simp_all
   refine⟨_,.agg ((vs.drop c).take size).toArray,h,?_,?_⟩
   simp_all[part,JV,run_sizeOf]
   unfold Rep;refine⟨_,rfl,?_⟩;clear h J hle hlen
   have drop:∀ (n:Nat) (cs:List PV) (vs:List Value),eU w Y σ cs vs->eU w Y σ (cs.drop n) (vs.drop n):=by
    intro n;induction n with
    | zero=>grind
    | succ n ih=>
     intro cs vs h
     cases cs with
     | nil=>grind[eU]
     | cons c cs=>unfold eU at h;grind
   have take:∀ (n:Nat) (cs:List PV) (vs:List Value),eU w Y σ cs vs->eU w Y σ (cs.take n) (vs.take n):=by
    intro n;induction n with
    | zero=>grind[eU]
    | succ n ih=>
     intro cs vs h
     cases cs with
     | nil=>grind[eU]
     | cons c cs=>
      unfold eU at h;obtain⟨v,vs',rfl,h1,h2⟩:=h;simp only[List.take_succ_cons];unfold eU;grind
   grind
 | false=>
  simp only[cond_false] at h
  cases J:Nat.blt c (nN cs) with
  | false=>grind
  | true=>
   simp only[J,cond_true] at h;have I:c<vs.length:=by simp_all
   have hg:=hr.get _ _ c;rw[List.getD_eq_getElem?_getD,List.getElem?_eq_getElem I] at hg;refine⟨_,vs[c],h,?_,hg⟩
   simp_all[part,JV]
def OZ (P:Program):Prop:=∀ t,P.info? t≠none->∃ d,P.underlying t=some d
section
variable {P:Program}{T:Tab}(hT:iK P T){C:Ctx T}{o:Oper}{a:Act}{w:World}{Y:Nat->Prop}{σ:Sg}{ps:List PV}{st:St}{n id:Nat}{K:PV->Dl->Prop}{lk:Nat->Option lI}
 (H:SW C w Y σ ps a.tmps.toList st n) (hlk:∀ b x,lk b=some x->iH st b=some x) (hid:σ id=none/\T.oZ<=id) (hU:OZ P)
include hT H hU in
theorem afI {t:TypeId}{x:Operand}{f:Nat}(ho:o.op=.field t x f)(h:nV T (gV.jd P T) (.field t x f) ps lk id K):qh P C o a w σ ps st n id K:=by
 have hc:=kJ H x;simp only[nV] at h
 split at h
 rename_i fs e;obtain⟨fl,hu,rfl,_⟩:=Pz hT e
 split at h
 rename_i fd U;rw[KL,List.getElem?_map] at U
 cases hg:fl.toList[f]? with
 | none=>simp[hg] at U
 | some g=>
  simp[hg] at U;subst U;have hg' : fl[f]?=some g:=by simpa using hg
  split at h
  rename_i cs e;rw[e] at hc
  cases hp:kR (P.cellsOf g.type) with
  | false=>simp only[hp] at h;exact h.elim
  | true=>
   simp only[hp,cond_true] at h;have J:=kE hp;unfold Rep at hc;obtain⟨vs,e',hr⟩:=hc;obtain⟨v,cv,hK,I,hrep⟩:=aaJ J rfl rfl (hU _ J) hr h;refine qh.quiet H (cv:=cv) ?_ hrep hK;simp[execOp,ho,Instr.field,kD hu,hg',e',asAgg,I]
  exact h.elim
 exact h.elim
 exact h.elim
include hT H hU in
theorem afJ {t:TypeId}{x i:Operand}(ho:o.op=.index t x i)(h:nV T (gV.jd P T) (.index t x i) ps lk id K):qh P C o a w σ ps st n id K:=by
 have hx:=kJ H x;have hi:=kJ H i;simp only[nV] at h
 split at h
 rename_i agg size z plain s k m e g I;rw[g] at hx;have hu:=Qm hT e;have hiv:=pM hi I;have hxv:=IE hx;obtain⟨j,c,rfl,hj,h⟩:=h;refine qh.quiet H (cv:=.int .u8 c.toNat) ?_ bz h;simp[execOp,ho,Instr.index,hiv,hxv,tC,kD hu,hj]
 rename_i agg size z plain len esz ag cs k m e g I;rw[g] at hx;obtain⟨et,hu,rfl,rfl,_⟩:=Ql hT e;have hiv:=pM hi I
 cases hp:kR (P.cellsOf et) with
 | false=>simp only[hp] at h;exact h.elim
 | true=>
  simp only[hp,cond_true] at h;have J:=kE hp;obtain⟨j,rfl,hj,h⟩:=h;unfold Rep at hx;obtain⟨vs,ex,hr⟩:=hx;obtain⟨v,cv,hK,hrun,hrep⟩:=aaJ J rfl rfl (hU _ J) hr h;refine qh.quiet H (cv:=cv) ?_ hrep hK;have:(0:Int)<=(j:Int)/\(j:Int)<(len:Int):=by omega
  simp[execOp,ho,Instr.index,hiv,ex,tC,kD hu,this,run_sizeOf J,hrun]
 exact h.elim
end
theorem bytes_beq (a b:ByteArray):(a.toList==b.toList)=decide (a=b):=by
 rw[Bool.eq_iff_iff];simp only[beq_iff_eq,decide_eq_true_eq,ByteArray.toList_eq];obtain⟨⟨x⟩⟩:=a;obtain⟨⟨y⟩⟩:=b;simp
def ceq:Nat->Value->Value->Option Bool
 | 0,.int k a,.int k' b=>if k=k' then some (a==b) else none
 | 1,.bool a,.bool b=>some (a==b)
 | 2,.string a,.string b=>some (a.toList==b.toList)
 | _,_,_=>none
def Ir:List Nat->List Value->List Value->Option Bool
 | [],[],[]=>some true
 | k::ks,x::xs,y::ys=>match ceq k x y with
  | none=>none
  | some a=>match Ir ks xs ys with
   | none=>none
   | some b=>some (a&&b)
 | _,_,_=>none
theorem ah0 {P:Program}{T:Tab}{w:World}{Y:Nat->Prop}{σ:Sg}{k:Nat}{p q:PV}{u v:Value}{b:Bool}(h:eqC (gV.jd P T) k p q=some b)(J:Rep w Y σ p u)(I:Rep w Y σ q v):ceq k u v=some b:=by
 unfold eqC at h
 split at h
 split at h
 rename_i k1 a k2 c h1 h2
 cases hk:uk k1 k2 with
 | false=>simp[hk] at h
 | true=>
  simp only[hk,cond_true,Option.some.injEq] at h;have:=F8 hk;subst this;rw[pM J h1,pM I h2];subst h;have:(a==c)=decide (a=c):=by grind
  simp[ceq,gV.jd,zA,this]
 cases h
 split at h
 rename_i a c h1 h2;rw[Oa J h1,Oa I h2]
 grind[ceq,gV.jd]
 cases h
 rw[IE J,IE I]
 simp_all[ceq,gV.jd,fQ,bytes_beq]
 cases h
theorem XO {P:Program}{T:Tab}{w:World}{Y:Nat->Prop}{σ:Sg}:∀ (J:List Nat) (ps qs:List PV) (us vs:List Value) (b:Bool),abX (gV.jd P T) J ps qs=some b->eU w Y σ ps us->eU w Y σ qs vs->Ir J us vs=some b
 | [],[],[],us,vs,b,h,hp,hq=>by
  unfold eU at hp hq;subst hp;subst hq;simp[abX] at h;subst h;rfl
 | k::J,p::ps,q::qs,us,vs,b,h,hp,hq=>by
  unfold eU at hp hq;obtain⟨u,us,rfl,I,t⟩:=hp;obtain⟨v,vs,rfl,C,g⟩:=hq;simp only[abX] at h
  cases h1:eqC (gV.jd P T) k p q with
  | none=>grind
  | some a=>
   rw[h1] at h
   cases h2:abX (gV.jd P T) J ps qs with
   | none=>grind
   | some c=>
    rw[h2] at h;simp only[Option.some.injEq] at h;subst h;simp only[Ir,ah0 h1 I C,XO J ps qs us vs c h2 t g];rfl
 | [],[],_::_,_,_,_,h,_,_|[],_::_,_,_,_,_,h,_,_|_::_,[],_,_,_,_,h,_,_|_::_,_::_,[],_,_,_,h,_,_=>by simp[abX] at h
theorem Qp:∀ (T:List Nat) (us vs:List Value) (b:Bool),Ir T us vs=some b->us.length=T.length/\vs.length=T.length
 | [],[],[],_,_=>by simp
 | k::T,u::us,v::vs,b,h=>by
  simp only[Ir] at h
  cases h1:ceq k u v with
  | none=>grind
  | some a=>
   rw[h1] at h
   cases h2:Ir T us vs with
   | none=>grind
   | some c=>have:=Qp T us vs c h2;simp[this]
 | [],[],_::_,_,h|[],_::_,_,_,h|_::_,[],_,_,h|_::_,_::_,[],_,h=>by simp[Ir] at h
theorem VI:∀ (T ls:List Nat) (us vs:List Value) (b:Bool),Ir (T++ls) us vs=some b ->
  ∃ I J,Ir T (us.take T.length) (vs.take T.length)=some I/\Ir ls (us.drop T.length) (vs.drop T.length)=some J/\b=(I&&J)
 | [],ls,us,vs,b,h=>⟨true,b,by simp[Ir],by simpa using h,by simp⟩
 | k::T,ls,[],vs,b,h=>by simp[Ir] at h
 | k::T,ls,u::us,[],b,h=>by simp[Ir] at h
 | k::T,ls,u::us,v::vs,b,h=>by
  simp only[List.cons_append,Ir] at h
  cases h1:ceq k u v with
  | none=>grind
  | some a=>
   rw[h1] at h
   cases h2:Ir (T++ls) us vs with
   | none=>grind
   | some c=>
    rw[h2] at h;simp only[Option.some.injEq] at h;obtain⟨I,J,e1,t,C⟩:=VI T ls us vs c h2
    grind[Ir]
def valOf (P:Program)(t:TypeId)(us:List Value):Value:=if kK P t then .agg us.toArray else us.headD Go.undef
theorem KN {P:Program}{w:World}{t:TypeId}(I:P.info? t≠none)(J:∃ d,P.underlying t=some d){us:List Value}{c s:Nat}(hs:s=P.cellsOf t)(hle:c+s<=us.length)(h1:kK P t=false->s=1) :
  (part t us.toArray c).run P w=.ok (valOf P t ((us.drop c).take s)) w:=by
 obtain⟨d,hu⟩:=J;simp only[part,Sem.run_bind,JV hu,Result.andThen];unfold valOf
 cases C:kK P t with
 | true=>
  simp_all[run_sizeOf]
 | false=>
  have:=h1 C;subst this;have T:c<us.length:=by omega
  simp only[Bool.false_eq_true,if_false];rw[show us.toArray[c]?=some us[c] by simp[T]];have:(us.drop c).take 1=[us[c]]:=by rw[List.drop_eq_getElem_cons T];rfl
  simp[this]
theorem XP {P:Program}:∀ (d:Nat) (t:TypeId) (T:List Nat),xn P d t=some T->kK P t=false->T.length=1
 | 0,_,_,h,_=>by simp[xn] at h
 | d+1,t,T,h,ha=>by
  grind[xn,kK]
theorem Ul:∀ (n:Nat) (l:List Nat),(abY n l).length=n*l.length
 | 0,l=>by simp[abY]
 | n+1,l=>by simp[abY,Ul n l,Nat.add_mul];omega
theorem Ju {P:Program}(g:OZ P):∀ (d:Nat) (t:TypeId) (I:List Nat),xn P d t=some I->∀ (D:Nat),d<=D->∀ (us vs:List Value) (b:Bool),Ir I us vs=some b ->
  ∀ w,(Op.equalIn D t (valOf P t us) (valOf P t vs)).run P w=.ok b w
 | 0,_,_,h=>by simp[xn] at h
 | d+1,t,I,h=>by
  intro D hD us vs b J w;obtain⟨D,rfl⟩:∃ D',D=D'+1:=⟨D-1,by omega⟩;have hD:d<=D:=by omega
  unfold xn at h
  have one:∀ k,I=[k]->∃ u v,us=[u]/\vs=[v]/\ceq k u v=some b:=by
   intro k e;subst e;have hl:=Qp _ _ _ _ J
   match us,vs,hl with
   | [u],[v],_=>
    simp only[Ir] at J
    grind
  split at h
  rename_i hu;cases h;obtain⟨u,v,rfl,rfl,hc⟩:=one 1 rfl;have:kK P t=false:=by simp[kK,hu]
  simp only[valOf,this,Bool.false_eq_true,if_false,List.headD_cons];unfold ceq at hc
  grind[run_equalIn_bool']
  rename_i k hu;cases h;obtain⟨u,v,rfl,rfl,hc⟩:=one 0 rfl;have:kK P t=false:=by simp[kK,hu]
  simp only[valOf,this,Bool.false_eq_true,if_false,List.headD_cons];unfold ceq at hc
  grind[run_equalIn_int]
  rename_i hu;cases h;obtain⟨u,v,rfl,rfl,hc⟩:=one 2 rfl;have:kK P t=false:=by simp[kK,hu]
  simp only[valOf,this,Bool.false_eq_true,if_false,List.headD_cons];unfold ceq at hc
  grind[run_equalIn_string]
  rename_i fs hu
  cases hst:P.stoodInHeld t with
  | true=>grind
  | false=>
   simp only[hst,Bool.false_eq_true,if_false] at h;have C:kK P t=true:=by simp[kK,hu]
   simp only[valOf,C,if_true];have U:P.fieldsOf t=fs:=by simp[Program.fieldsOf,hu]
   rw[run_equalIn_struct w D t _ _ ak hst,U]
   have key:∀ (l:List Field) (off:Nat) (I:List Nat) (b:Bool),N9 P (xn P d) l off=some I->Ir I (us.drop off) (vs.drop off)=some b ->
     (Op.eqFields D us.toArray vs.toArray l).run P w=.ok b w:=by
    intro l
    induction l with
    | nil=>
     intro off I b h J;simp[N9] at h;subst h
     have hb' : b=true:=by
      grind[Ir]
     simp_all[Op.eqFields]
    | cons f l ih=>
     intro off I b h J;unfold N9 at h
     split at h
     rename_i hc;obtain⟨ho,hn,hi⟩:=hc
     cases hs:xn P d f.type with
     | none=>grind
     | some s=>
      rw[hs] at h;simp only at h
      split at h
      rename_i hsz0;obtain⟨hsz,hpos⟩:=hsz0
      cases hr:N9 P (xn P d) l (off+s.length) with
      | none=>grind
      | some r=>
       rw[hr] at h;simp only[Option.some.injEq] at h;subst h;obtain⟨b1,b2,e1,e2,rfl⟩:=VI _ _ _ _ _ J;rw[List.drop_drop,List.drop_drop] at e2;have hl:=Qp _ _ _ _ e1
       have hle1:off+s.length<=us.length:=by
        grind
       have hle2:off+s.length<=vs.length:=by
        grind
       have T:kK P f.type=false->s.length=1:=λC=>XP d _ _ hs C;subst ho;simp only[Op.eqFields,ne_eq,hn,not_false_eq_true,if_true,Sem.run_bind];rw[KN hi (g _ hi) hsz.symm hle1 T];simp only[Result.andThen];rw[KN hi (g _ hi) hsz.symm hle2 T];simp only[Result.andThen];rw[Ju g d f.type s hs D hD _ _ b1 e1 w];simp only[Result.andThen];cases b1
       simp
       grind
      cases h
     cases h
   grind
  ·rename_i n e hu
   cases hs:xn P d e with
   | none=>grind
   | some s=>
    rw[hs] at h;simp only at h
    split at h
    ·rename_i hc;obtain⟨hsz,hi⟩:=hc;simp only[Option.some.injEq] at h;subst h;have C:kK P t=true:=by simp[kK,hu]
     simp only[valOf,C,if_true]
     cases hinf:P.info? e with
     | none=>grind
     | some inf=>
     rw[run_equalIn_array w D us.toArray vs.toArray hu hinf];have T:kK P e=false->s.length=1:=λC=>XP d _ _ hs C;have hl:=Qp _ _ _ _ J;rw[Ul] at hl
     have key:∀ (m i:Nat) (b:Bool),i+m=n->Ir (abY m s) (us.drop (i*s.length)) (vs.drop (i*s.length))=some b ->
       (Op.eqItems D e (P.cellsOf e) us.toArray vs.toArray (List.range' i m)).run P w=.ok b w:=by
      intro m
      induction m with
      | zero=>
       intro i b _ J
       have hb' : b=true:=by
        grind[Ir]
       simp_all[Op.eqItems]
      | succ m ih=>
       intro i b him J;simp only[abY] at J;obtain⟨b1,b2,e1,e2,rfl⟩:=VI _ _ _ _ _ J;rw[List.drop_drop,List.drop_drop] at e2
       have hb1:i*s.length+s.length<=n*s.length:=by
        grind[Nat.add_mul]
       simp only[List.range'_succ,Op.eqItems,Sem.run_bind,hsz];rw[KN hi (g _ hi) hsz.symm ae T];simp only[Result.andThen];rw[KN hi (g _ hi) hsz.symm ae T];simp only[Result.andThen];rw[Ju g d e s hs D hD _ _ b1 e1 w];simp only[Result.andThen];cases b1
       simp
       grind
     grind[List.range_eq_range']
    cases h
  cases h
end Go.Pv
namespace Go.Pv
open Go
section
variable {P:Program}{T:Tab}(hT:iK P T){C:Ctx T}{o:Oper}{a:Act}{w:World}{Y:Nat->Prop}{σ:Sg}{ps:List PV}{st:St}{n id:Nat}{K:PV->Dl->Prop}{lk:Nat->Option lI}
 (H:SW C w Y σ ps a.tmps.toList st n) (hlk:∀ b x,lk b=some x->iH st b=some x) (hid:σ id=none/\T.oZ<=id) (hU:OZ P)
theorem Qq {P:Program}{w:World}{op:BinOp}{t:TypeId}{x y:Operand}{u v:Value}(h:∀ cs,u≠.agg cs)(h2:u≠.nilIface):(eqGuard op t x y u v).run P w=.ok () w:=by
 have e:eqGuard op t x y u v=pure ():=by
  cases u<;>first|exact absurd rfl (h _)|exact absurd rfl h2|(cases op<;>rfl)
 rw[e];simp
theorem Xi {P:Program}{w:World}{op:BinOp}{t:TypeId}{k:IntKind}{m c:Int}(h:Iy op=true):(binOp op t (.int k m) (.int k c)).run P w=.ok (.int k (iL op k m c)) w:=by
 cases op<;>simp[Iy] at h<;>simp[binOp,Op.intArith,Op.intBits,iL]
theorem aaK {P:Program}{w:World}{op:BinOp}{t:TypeId}{k:IntKind}{m c:Int}(h:MN op=true):(binOp op t (.int k m) (.int k c)).run P w=.ok (.bool (zA op m c)) w:=by
 have e:(m==c)=decide (m=c):=by grind
 cases op<;>simp[MN] at h<;>simp[binOp,Op.intCmp,zA,e,bne]
theorem afK {P:Program}{w:World}{t:TypeId}{b c:Bool}(hu:P.underlying t=some .bool) :
  (binOp .eql t (.bool b) (.bool c)).run P w=.ok (.bool (b==c)) w/\(binOp .neq t (.bool b) (.bool c)).run P w=.ok (.bool (!(b==c))) w:=by
 simp_all[binOp,run_equal_bool]
theorem ab7 {P:Program}{t:TypeId}:∀ {d:Nat},xn P d t=some [1]->kK P t=false->P.underlying t=some .bool
 | 0,h,_=>by simp[xn] at h
 | d+1,h,ha=>by
  grind[xn,kK]
theorem ah1 {P:Program}{w:World}{t e:TypeId}{p q:Option Addr}(hu:P.underlying t=some (.pointer e))(h:p=none\/q=none) :
  (binOp .eql t (.pointer p) (.pointer q)).run P w=.ok (.bool (p.isNone&&q.isNone)) w/\(binOp .neq t (.pointer p) (.pointer q)).run P w=.ok (.bool (!(p.isNone&&q.isNone))) w:=by
 have key:(Op.equal t (.pointer p) (.pointer q)).run P w=.ok (p.isNone&&q.isNone) w:=by
  unfold Op.equal Op.maxDepth;unfold Op.equalIn;simp only[Sem.run_bind,kD hu,Result.andThen];rcases h with rfl|rfl
  cases q<;>simp
  cases p<;>simp
 simp_all[binOp]
theorem YT {P:Program}{w:World}{t e:TypeId}{x:Option Addr}{len cap:Nat}(hu:P.underlying t=some (.slice e)) :
  (binOp .eql t (.slice x len cap) (.slice none 0 0)).run P w=.ok (.bool x.isNone) w/\(binOp .neq t (.slice x len cap) (.slice none 0 0)).run P w=.ok (.bool (!x.isNone)) w:=by
 have key:(Op.equal t (.slice x len cap) (.slice none 0 0)).run P w=.ok x.isNone w:=by
  unfold Op.equal Op.maxDepth;unfold Op.equalIn;simp only[Sem.run_bind,kD hu,Result.andThen];cases x<;>simp
 simp_all[binOp]
theorem ah2 {x:Operand}(h:abZ x=true):x=.const (.slice none 0 0):=by
 grind[abZ]
include hT H hU in
theorem ah3 {op:BinOp}{t u:TypeId}{x y:Operand}(ho:o.op=.binOp op t x y u)(hy:abZ y=true)(h:nV T (gV.jd P T) (.binOp op t x y u) ps lk id K):qh P C o a w σ ps st n id K:=by
 have hx:=kJ H x;have hy':=ah2 hy;subst hy';simp only[nV] at h;rw[hy] at h;simp only at h
 split at h
 rename_i agg size z plain sz bytes z' e;obtain⟨el,hu,_⟩:=l7 hT e
 have key:∀ (ad:Option Addr) (len cap:Nat),a.eval x=.slice ad len cap->eqL op ad.isNone (λv=>K v [])->qh P C o a w σ ps st n id K:=by
  intro ad len cap I J;have g:a.eval (.const (.slice none 0 0))=.slice none 0 0:=rfl;obtain⟨r1,r2⟩:=YT (P:=P) (w:=w) (x:=ad) (len:=len) (cap:=cap) hu;have n1:∀ cs,a.eval x≠.agg cs:=by rw[I];intro cs e;cases e
  have n2:a.eval x≠.nilIface:=by rw[I];intro e;cases e
  have fin:∀ {v:PV} {cv:Value},(binOp op t (a.eval x) (a.eval (.const (.slice none 0 0)))).run P w=.ok cv w->Rep w Y σ v cv->K v []->qh P C o a w σ ps st n id K:=by
   intro v cv hr hv hK;refine qh.quiet H (cv:=cv) ?_ hv hK;simp[execOp,ho,Qq n1 n2,hr]
  unfold eqL at J
  cases g1:Uc op with
  | true=>
   rw[g1] at J;have:op=.eql:=by cases op<;>simp[Uc] at g1<;>rfl
   subst this;exact fin (by rw[I,g];exact r1) bz J
  | false=>
   rw[g1] at J
   cases g2:Ud op with
   | true=>
    rw[g2] at J;have:op=.neq:=by cases op<;>simp[Ud] at g2<;>rfl
    subst this
    cases hn:ad.isNone with
    | true=>rw[hn] at J r2;exact fin (by rw[I,g];exact r2) bz J
    | false=>rw[hn] at J r2;exact fin (by rw[I,g];exact r2) bz J
   | false=>rw[g2] at J;exact J.elim
 split at h
 rename_i sz' es full hp;rw[hp] at hx;unfold Rep at hx;obtain⟨ad,len,cap,I,hl,_,_,hes⟩:=hx
 have J:=h ad.isNone (λhn=>by
  rcases hes with h|⟨b,o',e,_⟩
  exact h
  rw[e] at hn;cases hn)
 exact key ad len cap I J
 rename_i b0 r0 n0 hp;rw[hp] at hx;unfold Rep at hx
 split at h
 rcases hx with ⟨l,cap,_,I,_⟩|⟨rfl,ad,I⟩
 exact key _ _ _ I (h false (λe=>by cases e))
 exact key _ _ _ I (h ad.isNone (λ_=>by simp[gV.jd]))
 exact h.elim
 exact h.elim
 exact h.elim
include hT H hU in
theorem afL {op:BinOp}{t u:TypeId}{x y:Operand}(ho:o.op=.binOp op t x y u)(h:nV T (gV.jd P T) (.binOp op t x y u) ps lk id K):qh P C o a w σ ps st n id K:=by
 cases hnil:abZ y with
 | true=>exact ah3 hT H hU ho hnil h
 | false=>
 have hx:=kJ H x;have hy:=kJ H y;simp only[nV] at h;rw[hnil] at h;simp only at h;generalize rM T ps x=p at hx h;generalize rM T ps y=q at hy h
 have fin:∀ {v:PV} {cv:Value},(∀ cs,a.eval x≠.agg cs)->a.eval x≠.nilIface->(binOp op t (a.eval x) (a.eval y)).run P w=.ok cv w->Rep w Y σ v cv->K v []->qh P C o a w σ ps st n id K:=by
  intro v cv h1 h2 hr hv hK;refine qh.quiet H (cv:=cv) ?_ hv hK;simp[execOp,ho,Qq h1 h2,hr]
 have special:∀ {k k' : IntKind} {m c:Int},a.eval x=.int k m->a.eval y=.int k' c->Xf (gV.jd P T) op k m k' c (λv=>K v [])->qh P C o a w σ ps st n id K:=by
  intro k k' m c e1 J h;have n1:∀ cs,a.eval x≠.agg cs:=by rw[e1];intro cs e;cases e
  have g:a.eval x≠.nilIface:=by rw[e1];intro e;cases e
  unfold Xf at h
  split at h
  obtain⟨h0,h⟩:=h;refine fin n1 g ?_ dH h;rw[e1,J];have:¬ c<0:=by omega
  simp[binOp,Op.shift,this]
  obtain⟨h0,h⟩:=h;refine fin n1 g ?_ dH h;rw[e1,J];have:¬ c<0:=by omega
  simp[binOp,Op.shift,this]
  cases hk:uk k k' with
  | false=>rw[hk] at h;exact h.elim
  | true=>
   rw[hk] at h;have:=F8 hk;subst this;obtain⟨h0,h⟩:=h;refine fin n1 g ?_ dH h;rw[e1,J];simp[binOp,Op.intDiv,h0]
  cases hk:uk k k' with
  | false=>rw[hk] at h;exact h.elim
  | true=>
   rw[hk] at h;have:=F8 hk;subst this;obtain⟨h0,h⟩:=h;refine fin n1 g ?_ dH h;rw[e1,J];simp[binOp,Op.intDiv,h0]
  exact h.elim
 have I:∀ {k k' : IntKind} {m c:Int} (mk:Int->PV) (mb:Bool->PV),(∀ v,Rep w Y σ (mk v) (.int k v))->(∀ b,Rep w Y σ (mb b) (.bool b))->a.eval x=.int k m->a.eval y=.int k' c ->
   (bif isSpec op then Xf (gV.jd P T) op k m k' c (λv=>K v []) else bif uk k k' then(bif Iy op then K (mk (iL op k m c)) [] else bif MN op then K (mb (zA op m c)) [] else False) else False)->qh P C o a w σ ps st n id K:=by
  intro k k' m c mk mb h1 h2 e1 J h
  cases hs:isSpec op with
  | true=>rw[hs] at h;exact special e1 J h
  | false=>
  rw[hs] at h;simp only[cond_false] at h
  cases hk:uk k k' with
  | false=>rw[hk] at h;exact h.elim
  | true=>
   rw[hk] at h;have:=F8 hk;subst this;simp only[cond_true] at h;have n1:∀ cs,a.eval x≠.agg cs:=by rw[e1];intro cs e;cases e
   have g:a.eval x≠.nilIface:=by rw[e1];intro e;cases e
   cases ha:Iy op with
   | true=>
    rw[ha] at h;exact fin n1 g (by rw[e1,J];exact Xi ha) (h1 _) h
   | false=>
    rw[ha] at h
    cases hc:MN op with
    | true=>
     rw[hc] at h;exact fin n1 g (by rw[e1,J];exact aaK hc) (h2 _) h
    | false=>rw[hc] at h;exact h.elim
 have eqs:∀ {b:Bool},(∀ {v:PV} {cv:Value},(binOp op t (a.eval x) (a.eval y)).run P w=.ok cv w->Rep w Y σ v cv->K v []->qh P C o a w σ ps st n id K) ->
   (binOp .eql t (a.eval x) (a.eval y)).run P w=.ok (.bool b) w->(binOp .neq t (a.eval x) (a.eval y)).run P w=.ok (.bool (!b)) w->eqK (gV.jd P T) op b (λv=>K v [])->qh P C o a w σ ps st n id K:=by
  intro b fin e1 J hh;unfold eqK at hh
  cases h1:Uc op with
  | true=>
   rw[h1] at hh;have:op=.eql:=by cases op<;>simp[Uc] at h1<;>rfl
   subst this;exact fin e1 bz hh
  | false=>
   rw[h1] at hh
   cases h2:Ud op with
   | true=>
    rw[h2] at hh;have:op=.neq:=by cases op<;>simp[Ud] at h2<;>rfl
    subst this;exact fin J di hh
   | false=>rw[h2] at hh;exact hh.elim
 split at h
 rename_i ti agg size z plain kind e;unfold afg at h
 split at h
 exact I (λv=>.int _ v) (λb=>.bool b) (λv=>by simp[Rep]) (λb=>by simp[Rep]) (vN hx) (vN hy) h
 rename_i s1 s2;have e1:=IE hx;have J:=IE hy;have n1:∀ cs,a.eval x≠.agg cs:=by rw[e1];intro cs e;cases e
 have g:a.eval x≠.nilIface:=by rw[e1];intro e;cases e
 cases h1:isAdd op with
 | true=>
  rw[h1] at h;have:op=.add:=by cases op<;>simp[isAdd] at h1<;>rfl
  subst this;obtain⟨hle,h⟩:=h;refine fin n1 g (cv:=.string (s1++s2)) ?_ bz h;rw[e1,J]
  have hb:¬ (((s1.size+s2.size:Nat):Int) > IntKind.i64.max):=by
   have:IntKind.i64.max=9223372036854775807:=by decide
   rw[this];omega
  simp only[binOp,Op.stringOp];rw[if_neg hb];simp
 | false=>
  rw[h1] at h
  cases h2:MN op with
  | true=>
   rw[h2] at h;refine fin n1 g (cv:=.bool (fQ op s1 s2)) ?_ dH h;rw[e1,J];cases op<;>simp[MN] at h2<;>simp[binOp,Op.stringOp,fQ,bytes_beq]
  | false=>rw[h2] at h;exact h.elim
 rename_i xs ys
 split at h
 rename_i size z ks kind e
 split at h
 rename_i b hb;obtain⟨i,d,h1,h2,h3,h4,h5,h6,h7,h8⟩:=vX hT e rfl;simp only at h7 h4
 have hg:P.eqGuardType P.depth t=false:=by
  cases hg:P.eqGuardType P.depth t with
  | true=>rw[hg] at h7;simp at h7
  | false=>rfl
 rw[hg] at h7;simp only[Bool.false_eq_true,if_false] at h7;unfold Rep at hx hy;obtain⟨us,e1,hu⟩:=hx;obtain⟨vs,J,hv⟩:=hy;have hc:=XO ks xs ys us vs b hb hu hv;have heq:=Ju hU 20 t ks h7.symm 10000 ae us vs b hc w;rw[show valOf P t us=.agg us.toArray by simp[valOf,<- h4],show valOf P t vs=.agg vs.toArray by simp[valOf,<- h4]] at heq;refine eqs (b:=b) (λ{v cv} hr hv hK=>qh.quiet H (cv:=cv) ?_ hv hK) ?_ ?_ h
 rw[e1,J] at hr;simp[execOp,ho,e1,J,run_eqGuard_agg w op t x y us.toArray vs.toArray hg,hr]
 rw[e1,J,run_eql_struct,heq];rfl
 rw[e1,J,run_neq_struct,heq];rfl
 exact h.elim
 exact h.elim
 split at h
 rename_i k m k' c h1 h2;exact I (λv=>.si _ v) (λb=>.sb b) (λv=>by simp[Rep]) (λb=>by simp[Rep]) (pM hx h1) (pM hy h2) h
 split at h
 rename_i b c h1 h2;have e1:=Oa hx h1;have J:=Oa hy h2;have n1:∀ cs,a.eval x≠.agg cs:=by rw[e1];intro cs e;cases e
 have g:a.eval x≠.nilIface:=by rw[e1];intro e;cases e
 split at h
 rename_i size2 z2 kind2 e3;obtain⟨i,d,g1,g2,g3,g4,g5,g6,g7,g8⟩:=vX hT e3 rfl;simp only at g7 g4
 have hg:P.eqGuardType P.depth t=false:=by
  cases hg:P.eqGuardType P.depth t with
  | true=>rw[hg] at g7;simp at g7
  | false=>rfl
 rw[hg] at g7;simp only[Bool.false_eq_true,if_false] at g7;have hu:=ab7 g7.symm g4.symm;obtain⟨r1,r2⟩:=afK (P:=P) (w:=w) (b:=b) (c:=c) hu;exact eqs (b:=b==c) (λ{v cv} hr hv hK=>fin n1 g hr hv hK) (by rw[e1,J];exact r1) (by rw[e1,J];exact r2) h
 exact h.elim
 split at h
 rename_i agg2 size2 z2 plain2 e3;obtain⟨e,hu⟩:=ahY hT e3
 have Vq:∀ (r:PV) (v:Value),Jq r=true->Rep w Y σ r v->v=.pointer none:=by
  intro r v h1 h2;cases r<;>simp[Jq] at h1;unfold Rep at h2;exact h2
 have ptrq:∀ (r:PV) (v:Value),RY r=true->Rep w Y σ r v->∃ x,v=.pointer (some x):=by
  intro r v h1 h2;cases r<;>simp[RY] at h1<;>unfold Rep at h2
  obtain⟨_,_,e⟩:=h2;exact⟨_,e⟩
  obtain⟨_,_,e⟩:=h2;exact⟨_,e⟩
  obtain⟨_,_,e,_⟩:=h2;exact⟨_,e⟩
  exact⟨_,h2⟩
 have go:∀ (p' q' : Option Addr) (b:Bool),a.eval x=.pointer p'->a.eval y=.pointer q'->(p'=none\/q'=none)->(p'.isNone&&q'.isNone)=b->eqL op b (λv=>K v [])->qh P C o a w σ ps st n id K:=by
  intro p' q' b e1 J hn hb hh;have n1:∀ cs,a.eval x≠.agg cs:=by rw[e1];intro cs e;cases e
  have g:a.eval x≠.nilIface:=by rw[e1];intro e;cases e
  obtain⟨r1,r2⟩:=ah1 (P:=P) (w:=w) hu hn;rw[hb] at r1 r2;clear h;unfold eqL at hh
  cases g1:Uc op with
  | true=>
   rw[g1] at hh;have:op=.eql:=by cases op<;>simp[Uc] at g1<;>rfl
   subst this;exact fin n1 g (by rw[e1,J];exact r1) bz hh
  | false=>
   rw[g1] at hh
   cases g2:Ud op with
   | true=>
    rw[g2] at hh;have:op=.neq:=by cases op<;>simp[Ud] at g2<;>rfl
    subst this
    cases b with
    | true=>exact fin n1 g (by rw[e1,J];exact r2) bz hh
    | false=>exact fin n1 g (by rw[e1,J];exact r2) bz hh
   | false=>rw[g2] at hh;exact hh.elim
 cases c1:(Jq p&&Jq q) with
 | true=>
  rw[c1] at h;rw[Bool.and_eq_true] at c1;exact go none none true (Vq _ _ c1.1 hx) (Vq _ _ c1.2 hy) (.inl rfl) rfl h
 | false=>
  rw[c1] at h;simp only[cond_false] at h
  cases c2:((Jq p&&RY q) || (RY p&&Jq q)) with
  | true=>
   rw[c2] at h;rw[Bool.or_eq_true,Bool.and_eq_true,Bool.and_eq_true] at c2;rcases c2 with ⟨d1,d2⟩|⟨d1,d2⟩
   obtain⟨z,ez⟩:=ptrq _ _ d2 hy;exact go none (some z) false (Vq _ _ d1 hx) ez (.inl rfl) rfl h
   obtain⟨z,ez⟩:=ptrq _ _ d1 hx;exact go (some z) none false ez (Vq _ _ d2 hy) (.inr rfl) rfl h
  | false=>rw[c2] at h;exact h.elim
 exact h.elim
 exact h.elim
end
end Go.Pv
