import Derived.Laws.StructEq
import Derived.ChangeKeysEq
import Derived.Test.YtchmoabpofnbaaaGreatD00
set_option linter.all false
namespace Go.Pv
open Go
theorem wU {P:Program}{T:Tab}(hT:iZ P T){t:TypeId}{x:TI}(h:T t=x)(ok:x.ok=true) :
  ∃ i d,P.info? t=some i/\P.underlying t=some d/\x=agB P t/\x.agg=kY P t/\x.size=i.size/\x.zero=I9 P t /\
   x.plain=(if P.eqGuardType P.depth t then none else xU P 20 t) /\
   x.kind=(match d with
    | .struct J=>TK.struct (J.toList.map λf=>{ off:=f.offset,size:=P.cellsOf f.type,agg:=kY P f.type })
    | .array n e=>.arr n (P.cellsOf e) (kY P e)
    | .slice e=>.slice (P.cellsOf e) (P.bytesOf e) (I9 P e)
    | .int k=>.int k
    | .string=>.str
    | .pointer _=>.ptr
    | .map k e=>QY P k e
    | _=>.oth):=by
 have e:=(hT t (by rw[h];exact ok)).1;rw[h] at e;subst h;unfold agB at e
 split at e
 rename_i i d h1 h2;rw[e];refine⟨i,d,h1,h2,?_,rfl,rfl,rfl,rfl,rfl⟩
 grind[agB]
 grind[TI.bad]
theorem Qo {P:Program}{T:Tab}(hT:iZ P T){t:TypeId}{agg:Bool}{plain:Option (List Nat)}{size:Nat}{z:Option (List PV)}{I:List FI}
  (h:T t=⟨true,agg,size,z,plain,.struct I⟩):∃ J,P.underlying t=some (.struct J)/\I=(J.toList.map λf=>{ off:=f.offset,size:=P.cellsOf f.type,agg:=kY P f.type })/\z=I9 P t:=by
 obtain⟨i,d,h1,h2,h3,g,h5,C,h7,h8⟩:=wU hT h rfl
 grind[QY]
theorem mQ {P:Program}{T:Tab}(hT:iZ P T){t:TypeId}{agg:Bool}{plain:Option (List Nat)}{size sz bytes:Nat}{z J : Option (List PV)}
  (h:T t=⟨true,agg,size,z,plain,.slice sz bytes J⟩):∃ e,P.underlying t=some (.slice e)/\sz=P.cellsOf e/\bytes=P.bytesOf e/\J=I9 P e:=by
 obtain⟨i,d,h1,h2,h3,C,h5,I,h7,g⟩:=wU hT h rfl
 grind[QY]
theorem Q4 {P:Program}{T:Tab}(hT:iZ P T){t:TypeId}{agg J:Bool}{plain:Option (List Nat)}{size n sz:Nat}{z:Option (List PV)}
  (h:T t=⟨true,agg,size,z,plain,.arr n sz J⟩):∃ e,P.underlying t=some (.array n e)/\sz=P.cellsOf e/\J=kY P e/\z=I9 P t:=by
 obtain⟨i,d,h1,h2,h3,g,h5,C,h7,I⟩:=wU hT h rfl;cases d<;>simp at I
 case map k e=>grind[QY]
 grind
theorem ajj {P:Program}{T:Tab}(hT:iZ P T){t:TypeId}{agg:Bool}{plain:Option (List Nat)}{size:Nat}{z:Option (List PV)}{k:IntKind}
  (h:T t=⟨true,agg,size,z,plain,.int k⟩):P.underlying t=some (.int k):=by
 obtain⟨i,d,h1,h2,h3,I,g,J,h7,C⟩:=wU hT h rfl
 grind[QY]
theorem Q5 {P:Program}{T:Tab}(hT:iZ P T){t:TypeId}{agg:Bool}{plain:Option (List Nat)}{size:Nat}{z:Option (List PV)}
  (h:T t=⟨true,agg,size,z,plain,.str⟩):P.underlying t=some .string:=by
 obtain⟨i,d,h1,h2,h3,I,g,J,h7,C⟩:=wU hT h rfl
 grind[QY]
theorem ajk {P:Program}{T:Tab}(hT:iZ P T){t:TypeId}{agg:Bool}{plain:Option (List Nat)}{size:Nat}{z:Option (List PV)}
  (h:T t=⟨true,agg,size,z,plain,.ptr⟩):∃ e,P.underlying t=some (.pointer e):=by
 obtain⟨i,d,h1,h2,h3,I,g,J,h7,C⟩:=wU hT h rfl
 grind[QY]
theorem Wv {P:Program}{T:Tab}(hT:iZ P T){t:TypeId}{agg:Bool}{plain:Option (List Nat)}{size:Nat}{z:Option (List PV)}{k:TK}
  (h:T t=⟨true,agg,size,z,plain,k⟩):P.info? t≠none/\size=P.cellsOf t/\agg=kY P t/\∃ d,P.underlying t=some d:=by
 obtain⟨i,d,h1,h2,h3,I,g,J,h7,C⟩:=wU hT h rfl
 grind[Program.cellsOf]
theorem Lu:∀ (l:List FI) (n:Nat),Ja l n=l[n]?
 | [],n=>by simp[Ja]
 | f::l,0=>by simp[Ja]
 | f::l,n+1=>by simp[Ja,Lu l n]
theorem run_sizeOf {P:Program}{w:World}{t:TypeId}(h:P.info? t≠none):(sizeOf t).run P w=.ok (P.cellsOf t) w:=by
 cases hi:P.info? t<;>simp_all[sizeOf,typeInfo,Program.cellsOf]
theorem Ky {P:Program}{w:World}{t:TypeId}{d:TypeDesc}(h:P.underlying t=some d):(isAgg t).run P w=.ok (kY P t) w:=by
 have hu:(underlying t).run P w=.ok d w:=by simp_all[underlying]
 simp only[isAgg,kY,h,Sem.run_bind,hu,Result.andThen];cases d<;>simp
theorem kS {P:Program}{w:World}{t:TypeId}{d:TypeDesc}(h:P.underlying t=some d):(underlying t).run P w=.ok d w:=by
 simp_all[underlying]
theorem kU {P:Program}{t:TypeId}(h:lC (P.cellsOf t)=true):P.info? t≠none:=by
 grind[Program.cellsOf,lC]
theorem agV {P:Program}{w:World}{x:Addr}{v:Value}(h:w.cell? x=some v):(load x).run P w=.ok v w:=by
 simp_all
theorem addr_add (b o n:Nat):(⟨b,o,none⟩:Addr).add n=⟨b,o+n,none⟩:=by
 grind[Addr.add]
theorem Ef {P:Program}{w:World}{b o:Nat}:∀ (vs:List Value) (i:Nat) (acc:Array Value),(∀ j v,vs[j]?=some v->w.cell? ⟨b,o+(i+j),none⟩=some v) ->
  (loadCellsFrom ⟨b,o,none⟩ i vs.length acc).run P w=.ok (acc++vs.toArray) w
 | [],i,acc,_=>by simp[loadCellsFrom]
 | v::vs,i,acc,h=>by
  have h0:=h 0 v rfl;simp only[List.length_cons,loadCellsFrom,Sem.run_bind,addr_add];rw[agV (by simpa using h0)];simp only[Result.andThen]
  rw[Ef vs (i+1) (acc.push v) (λj u hu=>by
   have:=h (j+1) u (by simpa using hu)
   grind)]
  simp
section
variable {P:Program}{T:Tab}(hT:iZ P T){C:Ctx T}{o:Oper}{a:Act}{w:World}{Y:Nat->Prop}{σ:Sg}{ps:List PV}{st:St}{n id:Nat}{K:PV->Dl->Prop}{lk:Nat->Option lW}
 (H:SW C w Y σ ps a.tmps.toList st n) (hlk:∀ b x,lk b=some x->iV st b=some x) (hid:σ id=none/\T.qc<=id)
include hT H in
theorem ZI {t:TypeId}{x:Operand}{f:Nat}(ho:o.op=.fieldAddr t x f)(h:oH T (iq.jq P T) (.fieldAddr t x f) ps lk id K):qL P C o a w σ ps st n id K:=by
 have hc:=kW H x;simp only[oH] at h
 split at h
 rename_i fs e;obtain⟨fl,hu,rfl,_⟩:=Qo hT e
 split at h
 rename_i fd U;rw[Lu,List.getElem?_map] at U
 cases hg:fl.toList[f]? with
 | none=>simp[hg] at U
 | some g=>
  simp[hg] at U;subst U;have hg' : fl[f]?=some g:=by simpa using hg
  cases hp:lC (P.cellsOf g.type) with
  | false=>simp only[hp] at h;exact h.elim
  | true=>
   simp only[hp] at h;have J:P.cellsOf g.type≠0:=by intro h0;rw[h0] at hp;simp[lC] at hp
   have I:P.info? g.type≠none:=by intro h0;apply J;simp[Program.cellsOf,h0]
   have run:∀ b off,a.eval x=.pointer (some ⟨b,off,none⟩)->(execOp a.eval o).run P w=.ok (.value (.pointer (some ⟨b,off+g.offset,none⟩))) w:=by
    intro b off hx;simp[execOp,ho,Instr.fieldAt,kS hu,hg',hx,Instr.sureAddr,fieldPlace,run_sizeOf I,J,addr_add]
   split at h
   rename_i b c e;rw[e] at hc;unfold Rep at hc;obtain⟨l,hs,e'⟩:=hc;refine qL.quiet H (run _ _ e') ?_ h;unfold Rep;exact⟨l,hs,by rw[Nat.add_assoc]⟩
   rename_i b r c e;rw[e] at hc;unfold Rep at hc;obtain⟨l,hs,e'⟩:=hc;refine qL.quiet H (run _ _ e') ?_ h;unfold Rep;exact⟨l,hs,by rw[Nat.add_assoc]⟩
   rename_i b r c hh sz j k e;rw[e] at hc;unfold Rep at hc;refine qL.quiet H (run _ _ hc) ?_ h;unfold Rep;rw[Nat.add_assoc]
   rename_i cs e;rw[e] at hc
   cases hb:Nat.ble g.offset (oq cs) with
   | false=>simp only[hb] at h;exact h.elim
   | true=>
    simp only[hb] at h;unfold Rep at hc;obtain⟨b,o',e',hy,hr⟩:=hc;refine qL.quiet H (run _ _ e') ?_ h;unfold Rep;rw[zL];exact⟨b,_,rfl,hy,hr.drop _ _ _⟩
   exact h.elim
 exact h.elim
 exact h.elim
theorem UZ {P:Program}{w:World}{Y:Nat->Prop}{σ:Sg}{t:TypeId}{b o' c:Nat}{row:List PV}{agg:Bool}{size:Nat}{K:PV->Prop}
  (T:P.info? t≠none) (hsize:size=P.cellsOf t) (I:agg=kY P t) (J:∃ d,P.underlying t=some d)
  (hr:iW w Y σ b row o') (h:loadRow agg size row c K) :
  ∃ v cv,K v/\(loadVar t ⟨b,o'+c,none⟩).run P w=.ok cv w/\Rep w Y σ v cv:=by
 obtain⟨d,hu⟩:=J;unfold loadRow at h
 cases agg with
 | true=>
  simp only[cond_true] at h
  cases C:Nat.ble (c+size) (oq row) with
  | false=>grind
  | true=>
   simp only[C,cond_true,NH,zL] at h;have hle:c+size<=row.length:=by simp_all
   have g:=(hr.drop c _ _).take size _ _;obtain⟨vs,hv,hcell⟩:=g.vals;refine⟨_,.agg vs.toArray,h,?_,by unfold Rep;grind⟩
   have hlen:vs.length=P.cellsOf t:=by
    rw[eQ.length _ _ hv];simp;omega
   simp only[loadVar,Sem.run_bind,Ky hu,<- I,Result.andThen,if_true,run_sizeOf T,loadCells];rw[<- hlen,Ef vs 0 #[] (λj v hj=>by grind)];simp
 | false=>
  simp only[cond_false] at h
  cases C:Nat.blt c (oq row) with
  | false=>grind
  | true=>
   simp only[C,cond_true] at h;have hlt:c<row.length:=by simp_all
   obtain⟨v,hv,hrep⟩:=hr.get _ _ c hlt;refine⟨_,v,h,?_,hrep⟩
   simp_all[loadVar,Ky]
theorem fF.zN {T:Tab}{C:Ctx T}{w:World}{Y:Nat->Prop}{σ:Sg}{ps:List PV}{vs:List Value}{st:St}{n:Nat}(H:SW C w Y σ ps vs st n){lk:Nat->Option lW}
  (J:∀ b x,lk b=some x->iV st b=some x) {b:Nat} {x:lW} {l:Loc} (h:lk b=some x) (hs:σ b=some l):fF w Y σ l x:=by
 rcases H.store.blk b x (J _ _ h) with ⟨l',I,t⟩|⟨I,_⟩<;>grind
theorem Q6 {w:World}{Y:Nat->Prop}{σ:Sg}{p:PV}{v:Value}(h:Rep w Y ik p v):Rep w Y σ p v :=
 Rep.keep p ⟨λ_ _ _=>rfl,λ_ _ h=>h,Nat.le_refl _,λ_ _ h=>by cases h⟩ v h
theorem getD_some {o:Option PV}{h:Hdr}{sz:Nat}{T:List (List PV)}(e:o.getD .undef=.ow h sz T):o=some (.ow h sz T):=by
 cases o<;>grind
theorem agW {P:Program}{T:Tab}{w:World}{Y:Nat->Prop}{σ:Sg}(b r c:Nat){p:PV}{v:Value}(h:Rep w Y σ p v):Rep w Y σ (akZ (iq.jq P T) b r c p) v:=by
 unfold akZ
 grind[Rep,iq.jq]
theorem abA {P:Program}{T:Tab}{w:World}{Y:Nat->Prop}{σ:Sg}{J:Nat}(b r:Nat):∀ (ps:List PV) (c o:Nat),iW w Y σ J ps o->iW w Y σ J (agD (iq.jq P T) b r c ps) o
 | [],c,o,h=>by simpa [agD] using h
 | p::ps,c,o,h=>by
  unfold iW at h;obtain⟨⟨v,h1,h2⟩,I⟩:=h;simp only[agD];unfold iW;exact⟨⟨v,h1,agW b r c h2⟩,abA b r ps (c+1) (o+1) I⟩
theorem SW.agX {T:Tab}{C:Ctx T}{w:World}{Y:Nat->Prop}{σ:Sg}{ps:List PV}{vs:List Value}{st:St}{n:Nat}(H:SW C w Y σ ps vs st n){b r c I sz:Nat}{rows:List (List PV)}{row:List PV}{h:Hdr}{es:List (List PV)}
  (t:iV st b=some (.lN I rows)) (J:rows[r]?=some row) (hc:row[c]?=some (.ow h sz es)) (hne:es≠[]):h.cap≠0:=by
 rcases H.store.blk b _ t with ⟨l,_,hB⟩|⟨_,hE⟩
 unfold fF at hB;have hr:=(je.row _ _ _ _ hB.2.2.2.2.1 J).2
 have g:c<row.length:=by
  grind
 obtain⟨v,_,hp⟩:=hr.get _ _ c g
 grind[F6,Rep]
 cases hE;simp at J
include hT H hlk in
theorem ajl {t:TypeId}{x:Operand}(ho:o.op=.load t x)(h:oH T (iq.jq P T) (.load t x) ps lk id K):qL P C o a w σ ps st n id K:=by
 have hc:=kW H x;simp only[oH] at h
 split at h
 rename_i agg size z plain kind e;obtain⟨hinfo,hsize,hagg,hund⟩:=Wv hT e
 have fin:∀ (σ' : Sg) (b o' c:Nat) (row:List PV),a.eval x=.pointer (some ⟨b,o'+c,none⟩)->iW w Y σ' b row o'->(∀ p v,Rep w Y σ' p v->Rep w Y σ p v) ->
   loadRow agg size row c (λv=>K v [])->qL P C o a w σ ps st n id K:=by
  intro σ' b o' c row hx hr hσ hl;obtain⟨v,cv,hK,hrun,hrep⟩:=UZ hinfo hsize hagg hund hr hl;refine qL.quiet H (cv:=cv) ?_ (hσ _ _ hrep) hK;simp[execOp,ho,hx,Instr.loadAt,Instr.sureAddr,hrun]
 split at h
 rename_i b c e;rw[e] at hc;unfold Rep at hc;obtain⟨l,hs,g⟩:=hc
 split at h
 rename_i ro row I;have hB:=fF.zN H hlk I hs;unfold fF at hB;exact fin σ _ _ _ _ g hB.2.2.2.1 (λ_ _ h=>h) h
 exact h.elim
 rename_i b r c e;rw[e] at hc;unfold Rep at hc;obtain⟨l,hs,g⟩:=hc
 split at h
 rename_i ro sz rows I;have hB:=fF.zN H hlk I hs;unfold fF at hB;obtain⟨row,J,h⟩:=h;have:=je.row _ _ _ _ hB.2.2.2.2.1 J;rw[<- hB.2.1] at this;exact fin ik _ _ _ _ g this.2 (λ_ _ h=>Q6 h) h
 rename_i sz rows I;have hB:=fF.zN H hlk I hs;unfold fF at hB;obtain⟨row,J,h⟩:=h;have:=je.row _ _ _ _ hB.2.2.2.2.1 J;rw[<- hB.2.1] at this;exact fin ik _ _ _ _ g (abA b r row 0 _ this.2) (λ_ _ h=>Q6 h) h
 rename_i sz rows r0 row I;have hB:=fF.zN H hlk I hs;unfold fF at hB;obtain⟨hr0,h⟩:=h;cases hr0;obtain⟨_,h2,_,_,_,_,h8,_⟩:=hB;rw[<- h2] at h8;exact fin σ _ _ _ _ g h8 (λ_ _ h=>h) h
 exact h.elim
 rename_i b r c hh sz j k e;rw[e] at hc;unfold Rep at hc
 split at h
 rename_i sz0 rows I;obtain⟨row,J,h⟩:=h
 split at h
 rename_i h' sz' es ec
 cases hs:Nat.beq sz' sz with
 | false=>rw[hs] at h;exact h.elim
 | true=>
  rw[hs] at h;simp only[cond_true] at h;have hs:=Nat.eq_of_beq_eq_true hs;subst hs;obtain⟨he,er,her,h⟩:=h;subst he;have hcc:row[c]?=some (.ow hh sz' es):=by rw[F6,List.getD_eq_getElem?_getD] at ec;exact getD_some ec
  have hN:=H.nest.rep b r c hh sz' es ⟨sz0,rows,row,hlk _ _ I,J,hcc,H.agX (hlk _ _ I) J hcc (by rintro rfl;simp at her)⟩;exact fin ik _ _ _ _ hc (je.row _ _ _ _ hN.rows her).2 (λ_ _ h=>Q6 h) h
 exact h.elim
 exact h.elim
 rename_i cs e;rw[e] at hc;unfold Rep at hc;obtain⟨b,o',g,hy,hr⟩:=hc;exact fin ik b o' 0 cs (by simpa using g) hr (λ_ _ h=>Q6 h) h
 exact h.elim
 exact h.elim
end
end Go.Pv
namespace Go.Pv
open Go
theorem Wx {b c:Nat}(h:¬ b=c):Nat.beq b c=false:=by
 grind[Nat.eq_of_beq_eq_true]
theorem ig (st:St)(b:Nat)(x:Option lW)(c:Nat):iV (nX st b x) c=if b=c then x else iV st c:=by
 induction st with
 | nil=>
  simp_all[nX,iV]
 | cons p st ih=>
  obtain⟨T,y⟩:=p
  by_cases h:T=b
  grind[nX,iV,Wx]
  have h0:Nat.beq T b=false:=Wx h;simp only[nX,h0,cond_false,iV]
  grind
theorem fF.keep {w w' : World}{Y Y' : Nat->Prop}{σ σ' : Sg}{l:Loc}{x:lW}(K:Keep w w' Y Y' σ σ')(hb:w'.heap[l.cb]?=w.heap[l.cb]?)(t:Y' l.cb↔Y l.cb)
  (h:fF w Y σ l x):fF w' Y' σ' l x:=by
 cases x with
 | var ro row=>
  unfold fF at h |-;obtain⟨⟨arr,ty,h1,h2⟩,T,C,g,I,J⟩:=h;exact⟨⟨arr,ty,by grind,h2⟩,T,C,iW.keep row K (λ_=>hb) _ g,λe=>t.2 (I e),λe hy=>J e (t.1 hy)⟩
 | arr ro sz rows=>
  unfold fF at h |-;obtain⟨⟨arr,ty,h1,h2⟩,T,C,g,I,J,h8⟩:=h;exact⟨⟨arr,ty,by grind,h2⟩,T,C,g,je.keep rows K.none (λ_=>hb) _ I,λe=>t.2 (J e),λe hy=>h8 e (t.1 hy)⟩
 | map rows=>
  unfold fF at h |-;obtain⟨⟨es,ck,h1,h2⟩,T⟩:=h;exact⟨⟨es,ck,by grind,pq.keep K.none _ _ h2⟩,t.2 T⟩
 | lN sz rows=>
  unfold fF at h |-;obtain⟨⟨arr,ty,h1,h2⟩,T,C,g,I,J⟩:=h;exact⟨⟨arr,ty,by grind,h2⟩,T,C,g,je.keep rows K.none (λ_=>hb) _ I,t.2 J⟩
 | nor sz rows r row=>
  unfold fF at h |-;obtain⟨⟨arr,ty,h1,h2⟩,T,C,g,I,J,h8,h9⟩:=h;exact⟨⟨arr,ty,by grind,h2⟩,T,C,g,I,λi x hx hi=>⟨(J i x hx hi).1,iW.keep x K.none (λ_=>hb) _ (J i x hx hi).2⟩,iW.keep row K (λ_=>hb) _ h8,t.2 h9⟩
theorem fF.lt {w:World}{Y:Nat->Prop}{σ:Sg}{l:Loc}{x:lW}(h:fF w Y σ l x):l.cb<w.heap.size:=by
 have:∃ o,w.heap[l.cb]?=some o:=by
  cases x<;>(unfold fF at h;first|(obtain⟨⟨⟨arr,ty,h1,_⟩⟩,_⟩:=h;exact⟨_,h1⟩)|grind)
 grind
theorem SW.drop {T:Tab}{C:Ctx T}{w:World}{Y:Nat->Prop}{σ:Sg}{ps:List PV}{vs:List Value}{st:St}{n:Nat}(H:SW C w Y σ ps vs st n)(b:Nat):SW C w Y σ ps vs (nX st b none) n:=by
 have sub:∀ c x,iV (nX st b none) c=some x->iV st c=some x:=by
  simp_all[ig]
 refine⟨H.vals,⟨λc x h=>H.store.blk c x (sub c x h),λc J x x' l l' h I=>H.store.inj c J x x' l l' (sub _ _ h) (sub _ _ I)⟩,H.next,H.wB,H.y0,H.c0,H.xE,H.qo,λc x l h=>H.own c x l (sub _ _ h),H.xG,H.fix,H.nest.sub sub⟩
theorem SW.ext {T:Tab}{C:Ctx T}{w:World}{Y:Nat->Prop}{σ:Sg}{ps:List PV}{vs:List Value}{st st' : St}{n:Nat}(H:SW C w Y σ ps vs st n)(h:∀ b x,iV st' b=some x->iV st b=some x):SW C w Y σ ps vs st' n :=
 ⟨H.vals,⟨λc x e=>H.store.blk c x (h c x e),λc I x x' l l' e J=>H.store.inj c I x x' l l' (h _ _ e) (h _ _ J)⟩,H.next,H.wB,H.y0,H.c0,H.xE,H.qo,λc x l e=>H.own c x l (h _ _ e),H.xG,H.fix,H.nest.sub h⟩
theorem SW.update {T:Tab}{C:Ctx T}{w w' : World}{Y:Nat->Prop}{σ:Sg}{ps:List PV}{vs:List Value}{st:St}{n:Nat}(H:SW C w Y σ ps vs st n)
  {b:Nat} {x x' : lW} {l:Loc} (hx:iV st b=some x) (hl:σ b=some l) (hm:Y l.cb)
  (hos:w'.os=w.os) (t:w'.tape=w.tape) (hout:w'.output=w.output) (hsize:w'.heap.size=w.heap.size)
  (J:∀ k,k≠l.cb->w'.heap[k]?=w.heap[k]?) (hnar:∀ sz rows,x'≠.lN sz rows) (hnew:(∀ p v,Rep w Y σ p v->Rep w' Y σ p v)->fF w' Y σ l x'):SW C w' Y σ ps vs (nX st b (some x')) n:=by
 have K:Keep w w' Y Y σ σ:=⟨λk _ hk=>J k (λe=>hk (e ▸ hm)),λ_ _ h=>h,Nat.le_of_eq hsize.symm,nK.refl _⟩;have own:=H.own b x l hx hl;refine⟨eQ.keep _ K _ H.vals,⟨?_,?_⟩,H.next,λk hk=>by rw[hsize];exact H.wB k hk,H.y0,H.c0,H.xE,?_,?_,H.xG.keep K.none,H.fix,?_⟩
 intro c y h;rw[ig] at h
 by_cases hc:b=c
 rw[if_pos hc] at h;grind[Rep.keep]
 rw[if_neg hc] at h;rcases H.store.blk c y h with ⟨l',I,hb⟩|hn
 refine .inl ⟨l',I,fF.keep K (J _ λe=>hc ?_) Iff.rfl hb⟩;exact(H.store.inj c b y x l' l h hx I hl e).symm
 exact .inr hn
 intro c c' y y' l1 l2 h h' h1 h2 e
 have old:∀ d z,iV (nX st b (some x')) d=some z->∃ z',iV st d=some z':=by
  intro d z hd;rw[ig] at hd
  grind
 obtain⟨z,hz⟩:=old _ _ h;obtain⟨z',hz'⟩:=old _ _ h';exact H.store.inj c c' z z' l1 l2 hz hz' h1 h2 e
 refine⟨by rw[hos];exact H.qo.os,by rw[t];exact H.qo.tape,by rw[hout];exact H.qo.output,by rw[hsize];exact H.qo.size,λk hk hM=>?_⟩
 have hne:k≠l.cb:=λe=>by
  subst e;have h1:=H.away hx hl;rcases H.xE _ hm hk with h2|h2<;>grind
 rw[J k hne];exact H.qo.block k hk hM
 intro c y l' h h1;rw[ig] at h
 by_cases hc:b=c
 grind
 rw[if_neg hc] at h;exact H.own c y l' h h1
 have back:∀ {c r k h sz g},mr (nX st b (some x')) c r k h sz g->mr st c r k h sz g:=by
  rintro c r k h sz g ⟨sz0,rows,row,h1,h2⟩
  rw[ig] at h1
  by_cases hc:b=c
  grind
  rw[if_neg hc] at h1;exact⟨sz0,rows,row,h1,h2⟩
 refine H.nest.keep K.none (λ_ _ _ _ _ _ k=>back k) (λc r k h sz g hk=>J _ (H.nest.sep _ _ _ _ _ _ _ _ _ (back hk) hx hl).symm) (λc r k h sz g hk=>(H.nest.rep _ _ _ _ _ _ (back hk)).own) λc r k h sz g b' y l' hk hy I=>?_;rw[ig] at hy
 by_cases hc:b=b'
 subst hc;rw[hl] at I;cases I;exact H.nest.sep _ _ _ _ _ _ _ _ _ (back hk) hx hl
 rw[if_neg hc] at hy;exact H.nest.sep _ _ _ _ _ _ _ _ _ (back hk) hy I
theorem SW.agY {T:Tab}{C:Ctx T}{w:World}{Y:Nat->Prop}{σ:Sg}{ps:List PV}{vs:List Value}{st:St}{n id:Nat}(H:SW C w Y σ ps vs st n)(hid:σ id=none/\T.qc<=id)
  (ob:Obj) (l:Loc) (hcb:l.cb=w.heap.size) (x:lW) (hnar:∀ sz rows,x=.lN sz rows->∀ (r:Nat) (row:List PV) (c:Nat) (h:Hdr) (sz' : Nat) (g:List (List PV)),rows[r]?=some row->row[c]?=some (PV.ow h sz' g)->h.cap=0)
  (hx:∀ w' Y' σ',(∀ p v,Rep w Y σ p v->Rep w' Y' σ' p v)->Y' l.cb->w'.heap[l.cb]?=some ob->(∀ p v,Rep w Y ik p v->Rep w' Y' ik p v)->fF w' Y' σ' l x) :
  ∃ Y' σ',SW C (w.alloc ob) Y' σ' ps vs (nX st id (some x)) (max n (id+1))/\σ' id=some l/\nK σ σ'/\(∀ p v,Rep w Y σ p v->Rep (w.alloc ob) Y' σ' p v)/\Off id σ σ':=by
 have hfree:=hid.1;have heap:(w.alloc ob).heap=w.heap.push ob:=rfl;have hnew:(w.alloc ob).heap[l.cb]?=some ob:=by grind
 have hold:∀ k,k<w.heap.size->(w.alloc ob).heap[k]?=w.heap[k]?:=by
  grind
 let Y' : Nat->Prop:=λk=>Y k\/k=w.heap.size
 let σ' : Sg:=λb=>if b=id then some l else σ b
 have hsg:nK σ σ':=by
  intro b m h
  grind
 have hsz:(w.alloc ob).heap.size=w.heap.size+1:=by rw[heap];simp
 have K:Keep w (w.alloc ob) Y Y' σ σ' :=
  ⟨λk hk _=>hold k hk,λk hk h=>h.resolve_right ae,by omega,hsg⟩
 refine⟨Y',σ',⟨eQ.keep _ K _ H.vals,⟨?_,?_⟩,?_,?_,λk hk=>.inl (H.y0 k hk),H.c0,?_,?_,?_,H.xG.keep K.none,⟨by grind,λb t=>by show(if b=id then some l else σ b)=_;rw[if_neg ae];exact H.fix.2 b t⟩,?_⟩,by simp[σ'],hsg,λp v hp=>Rep.keep p K v hp,λb t=>by grind⟩
 intro c y h;rw[ig] at h
 by_cases hc:id=c
 rw[if_pos hc] at h;cases h;subst hc;exact .inl ⟨l,by simp[σ'],hx _ Y' σ' (λp v hp=>Rep.keep p K v hp) (.inr hcb) hnew (λp v hp=>Rep.keep p K.none v hp)⟩
 rw[if_neg hc] at h;have I : c≠id:=λe=>hc e.symm;rcases H.store.blk c y h with ⟨l',J,t⟩|⟨hn,hx'⟩
 have hlt:=t.lt
 grind[fF.keep]
 grind
 intro c c' y y' l1 l2 h h' h1 h2 e;rw[ig] at h h'
 by_cases hc:id=c<;>by_cases I : id=c'
 omega
 exfalso
 rw[if_neg I] at h';subst hc;simp[σ'] at h1;subst h1;have h2' : σ c'=some l2:=by grind
 rcases H.store.blk c' y' h' with ⟨l',J,t⟩|⟨hn,_⟩
 rw[h2'] at J;cases J;have:=t.lt;omega
 grind
 exfalso
 rw[if_neg hc] at h;subst I;simp[σ'] at h2;subst h2;have h1' : σ c=some l1:=by grind
 rcases H.store.blk c y h with ⟨l',J,t⟩|⟨hn,_⟩
 rw[h1'] at J;cases J;have:=t.lt;omega
 grind
 rw[if_neg hc] at h;rw[if_neg I] at h';have h1' : σ c=some l1:=by grind
 have h2' : σ c'=some l2:=by grind
 exact H.store.inj c c' y y' l1 l2 h h' h1' h2' e
 intro b t;show(if b=id then some l else σ b)=none;rw[if_neg ae];exact H.next b ae
 intro k hk;rcases hk with hk|hk
 have:=H.wB k hk;omega
 omega
 intro k hk hlt;rcases hk with hk|hk
 exact H.xE k hk hlt
 have:=H.qo.size;omega
 refine⟨H.qo.os,H.qo.tape,H.qo.output,by have:=H.qo.size;omega,λk hk hM=>?_⟩;rw[hold k (by have:=H.qo.size;omega)];exact H.qo.block k hk hM
 intro c y l' h h1;rw[ig] at h
 by_cases hc:id=c
 subst hc;simp[σ'] at h1;subst h1;rw[hcb];exact .inl H.qo.size
 rw[if_neg hc] at h;exact H.own c y l' h ai
 have back:∀ {c r k h sz g},mr (nX st id (some x)) c r k h sz g->mr st c r k h sz g:=by
  rintro c r k h sz g ⟨sz0,rows,row,h1,h2,h3⟩
  rw[ig] at h1
  by_cases hc:id=c
  grind
  rw[if_neg hc] at h1;exact⟨sz0,rows,row,h1,h2,h3⟩
 refine H.nest.keep K.none (λ_ _ _ _ _ _ k=>back k) (λc r k h sz g hk=>hold _ (H.nest.rep _ _ _ _ _ _ (back hk)).lt) (λc r k h sz g hk=>.inl (H.nest.rep _ _ _ _ _ _ (back hk)).own) λc r k h sz g b' y l' hk hy J=>?_;have hlt:=(H.nest.rep _ _ _ _ _ _ (back hk)).lt;rw[ig] at hy
 by_cases hc:id=b'
 grind
 rw[if_neg hc] at hy;exact H.nest.sep _ _ _ _ _ _ _ _ _ (back hk) hy ai
theorem SW.alloc {T:Tab}{C:Ctx T}{w:World}{Y:Nat->Prop}{σ:Sg}{ps:List PV}{vs:List Value}{st:St}{n id:Nat}(H:SW C w Y σ ps vs st n)(hid:σ id=none/\T.qc<=id)
  (arr:Array Value) (ty:TypeId) (l:Loc) (I:l.cb=w.heap.size) (x:lW) (J:∀ sz rows,x=.lN sz rows->∀ (r:Nat) (row:List PV) (c:Nat) (h:Hdr) (t : Nat) (g:List (List PV)),rows[r]?=some row->row[c]?=some (PV.ow h t g)->h.cap=0)
  (hx:∀ w' Y' σ',(∀ p v,Rep w Y σ p v->Rep w' Y' σ' p v)->Y' l.cb->w'.heap[l.cb]?=some (.cells arr ty (0,0))->(∀ p v,Rep w Y ik p v->Rep w' Y' ik p v)->fF w' Y' σ' l x) :
  ∃ Y' σ',SW C (w.alloc (.cells arr ty)) Y' σ' ps vs (nX st id (some x)) (max n (id+1))/\σ' id=some l/\nK σ σ'/\(∀ p v,Rep w Y σ p v->Rep (w.alloc (.cells arr ty)) Y' σ' p v)/\Off id σ σ' :=
 H.agY hid (.cells arr ty) l I x J hx
theorem SW.freeze {T:Tab}{C:Ctx T}{w:World}{Y:Nat->Prop}{σ:Sg}{ps:List PV}{vs:List Value}{st:St}{n:Nat}(H:SW C w Y σ ps vs st n){b:Nat}{x x' : lW}
  (g:iV st b=some x) (hx' : (∃ ro row,x=.var ro row/\x'=.var true row)\/(∃ ro sz rows,x=.arr ro sz rows/\x'=.arr true sz rows)) :
  ∃ Y',SW C w Y' σ ps vs (nX st b (some x')) n/\(∀ l,σ b=some l->¬ Y' l.cb)/\(∀ k,Y' k->Y k):=by
 let Y' : Nat->Prop:=λk=>Y k/\∀ l,σ b=some l->k≠l.cb;have K:Keep w w Y Y' σ σ:=⟨λ_ _ _=>rfl,λ_ _ h=>h.1,Nat.le_refl _,nK.refl _⟩;refine⟨Y',⟨eQ.keep _ K _ H.vals,⟨?_,?_⟩,H.next,λk hk=>H.wB k hk.1,?_,H.c0,λk hk=>H.xE k hk.1,H.qo,?_,H.xG.keep K.none,H.fix,?_⟩,λl I h=>h.2 l I rfl,λ_ h=>h.1⟩
 intro c y h;rw[ig] at h
 by_cases hc:b=c
 rw[if_pos hc] at h;cases h;subst hc;rcases H.store.blk b x g with ⟨l,I,J⟩|⟨hn,he⟩
 refine .inl ⟨l,I,?_⟩;rcases hx' with ⟨ro,row,rfl,rfl⟩|⟨ro,sz,rows,rfl,rfl⟩
 unfold fF at J |-;exact⟨J.1,J.2.1,J.2.2.1,iW.keep row K (λ_=>rfl) _ J.2.2.2.1,λe=>bD,λ_ h=>h.2 l I rfl⟩
 unfold fF at J |-;exact⟨J.1,J.2.1,J.2.2.1,J.2.2.2.1,je.keep rows K.none (λ_=>rfl) _ J.2.2.2.2.1,λe=>bD,λ_ h=>h.2 l I rfl⟩
 rcases hx' with ⟨ro',row,rfl,rfl⟩|⟨ro',sz',rows,rfl,rfl⟩
 cases he
 cases he;exact .inr ⟨hn,.arr _ _⟩
 rw[if_neg hc] at h;rcases H.store.blk c y h with ⟨l',t,J⟩|hn
 refine .inl ⟨l',t,fF.keep K rfl ⟨λh=>h.1,λh=>⟨h,λl I e=>hc ?_⟩⟩ J⟩;exact(H.store.inj c b y x l' l ‹_› g t I e).symm
 exact .inr hn
 intro c c' y y' l1 l2 h h' h1 h2 e
 have old:∀ d z,iV (nX st b (some x')) d=some z->∃ z',iV st d=some z':=by
  intro d z hd;rw[ig] at hd
  grind
 obtain⟨z,hz⟩:=old _ _ h;obtain⟨z',hz'⟩:=old _ _ h';exact H.store.inj c c' z z' l1 l2 hz hz' h1 h2 e
 intro k hk;refine⟨H.y0 k hk,λl I e=>?_⟩;exact H.away g I (e ▸ hk)
 intro c y l' h h1;rw[ig] at h
 by_cases hc:b=c
 subst hc;exact H.own b x l' g h1
 rw[if_neg hc] at h;exact H.own c y l' h h1
 have back:∀ {c r k h sz es},mr (nX st b (some x')) c r k h sz es->mr st c r k h sz es:=by
  rintro c r k h sz es ⟨sz0,rows,row,h1,h2⟩
  rw[ig] at h1
  by_cases hc:b=c
  grind
  rw[if_neg hc] at h1;exact⟨sz0,rows,row,h1,h2⟩
 refine H.nest.keep K.none (λ_ _ _ _ _ _ k=>back k) (λ_ _ _ _ _ _ _=>rfl) (λc r k h sz es hk=>⟨(H.nest.rep _ _ _ _ _ _ (back hk)).own,λl I e=>H.nest.sep _ _ _ _ _ _ _ _ _ (back hk) g I e.symm⟩) λc r k h sz es b' y l' hk hy t=>?_;rw[ig] at hy
 by_cases hc:b=b'
 subst hc;exact H.nest.sep _ _ _ _ _ _ _ _ _ (back hk) g t
 rw[if_neg hc] at hy;exact H.nest.sep _ _ _ _ _ _ _ _ _ (back hk) hy t
theorem SW.aex {T:Tab}{C:Ctx T}{w:World}{Y:Nat->Prop}{σ:Sg}{ps:List PV}{vs:List Value}{st:St}{n:Nat}(H:SW C w Y σ ps vs st n){b sz:Nat}{rows:List (List PV)}(hx:iV st b=some (.lN sz rows)) :
  ∃ Y',SW C w Y' σ ps vs (nX st b none) n/\(∀ l,σ b=some l->¬ Y' l.cb)/\(∀ r c h J t,mr st b r c h J t->¬ Y' h.ν)/\∀ k,Y' k->Y k:=by
 let Y' : Nat->Prop:=λk=>Y k/\(∀ l,σ b=some l->k≠l.cb)/\∀ r c h J t,mr st b r c h J t->k≠h.ν;have K:Keep w w Y Y' σ σ:=⟨λ_ _ _=>rfl,λ_ _ h=>h.1,Nat.le_refl _,nK.refl _⟩
 have I : ∀ c y,iV (nX st b none) c=some y->b≠c/\iV st c=some y:=by
  simp_all[ig]
 have sub:∀ {c r k h sz t},mr (nX st b none) c r k h sz t->b≠c/\mr st c r k h sz t:=by
  rintro c r k h sz t ⟨sz0,rows,row,h1,h2⟩
  obtain⟨e1,e2⟩:=I _ _ h1;exact⟨e1,sz0,rows,row,e2,h2⟩
 refine⟨Y',⟨eQ.keep _ K _ H.vals,⟨?_,?_⟩,H.next,λk hk=>H.wB k hk.1,?_,H.c0,λk hk=>H.xE k hk.1,H.qo,?_,H.xG.keep K.none,H.fix,?_⟩,λl hl h=>h.2.1 l hl rfl,λr c h J t hk hh=>hh.2.2 _ _ _ _ _ hk rfl,λ_ h=>h.1⟩
 intro c y h;obtain⟨hc,h⟩:=I _ _ h;rcases H.store.blk c y h with ⟨l',g,hb⟩|hn
 refine .inl ⟨l',g,fF.keep K rfl ⟨λh=>h.1,λh0=>⟨h0,λl hl e=>hc ?_,λr c' h' J t hk e=>H.nest.sep _ _ _ _ _ _ _ _ _ hk h g e⟩⟩ hb⟩;exact(H.store.inj c b y _ l' l h hx g hl e).symm
 exact .inr hn
 intro c c' y y' l1 l2 h h' h1 h2 e;exact H.store.inj c c' y y' l1 l2 (I _ _ h).2 (I _ _ h').2 h1 h2 e
 intro k hk;refine⟨H.y0 k hk,λl hl e=>H.away hx hl (e ▸ hk),λr c h J t ho e=>?_⟩;obtain⟨k1,k2⟩:=H.c0 k hk;rcases H.nest.old _ _ _ _ _ _ ho with h1|h1<;>grind
 intro c y l' h h1;exact H.own c y l' (I _ _ h).2 h1
 refine H.nest.keep K.none (λ_ _ _ _ _ _ k=>(sub k).2) (λ_ _ _ _ _ _ _=>rfl) (λc r k h sz t hk=>⟨(H.nest.rep _ _ _ _ _ _ (sub hk).2).own,λl hl e=>H.nest.sep _ _ _ _ _ _ _ _ _ (sub hk).2 hx hl e.symm,λr' c' h' J es' ho e=>(sub hk).1 (H.nest.one _ _ _ _ _ _ _ _ _ _ _ _ (sub hk).2 ho e).1.symm⟩) λc r k h sz t b' y l' hk hy g=>H.nest.sep _ _ _ _ _ _ _ _ _ (sub hk).2 (I _ _ hy).2 g
theorem Keep.ak6 {w w' : World}{Y:Nat->Prop}{σ:Sg}(h:Chg w w'):Keep w w' Y Y σ σ:=⟨λk hk _=>h.block k hk,λ_ _ h=>h,h.size,nK.refl _⟩
theorem SW.agZ {T:Tab}{C:Ctx T}{w w' : World}{Y:Nat->Prop}{σ:Sg}{ps:List PV}{vs:List Value}{st:St}{n:Nat}(H:SW C w Y σ ps vs st n)(h:Chg w w'):SW C w' Y σ ps vs st n:=by
 have K:Keep w w' Y Y σ σ:=Keep.ak6 h;refine⟨eQ.keep _ K _ H.vals,⟨λb x I=>?_,H.store.inj⟩,H.next,λk hk=>Nat.lt_of_lt_of_le (H.wB k hk) h.size,H.y0,H.c0,H.xE,?_,H.own,H.xG.keep K.none,H.fix,H.nest.heap h.size h.block⟩
 rcases H.store.blk b x I with ⟨l,J,hB⟩|hn
 exact .inl ⟨l,J,fF.keep K (h.block _ hB.lt) Iff.rfl hB⟩
 exact .inr hn
 exact⟨by rw[h.os];exact H.qo.os,by rw[h.tape];exact H.qo.tape,by rw[h.output];exact H.qo.output,Nat.le_trans H.qo.size h.size,λk hk hM=>by rw[h.block k (Nat.lt_of_lt_of_le hk H.qo.size)];exact H.qo.block k hk hM⟩
end Go.Pv
namespace Go.Pv
open Go
theorem DL {v:Value}(h:Ql v=true):v.cells=#[v]:=by
 cases v<;>simp[Ql] at h<;>rfl
theorem Ba {w:World}{Y:Nat->Prop}{σ:Sg}:∀ (ps:List PV) (vs:List Value),iw ps=true->eQ w Y σ ps vs->∀ v∈vs,Ql v=true
 | [],vs,_,h=>by grind[eQ]
 | p::ps,vs,ha,h=>by
  unfold eQ at h;obtain⟨v,T,rfl,h1,h2⟩:=h;simp[iw] at ha;intro u hu;rcases List.mem_cons.1 hu with rfl|hu
  exact Qm ha.1 h1
  exact Ba ps T ha.2 h2 u hu
theorem Kz {w:World}{Y:Nat->Prop}{σ:Sg}{p:PV}{v:Value}(h:Rep w Y σ p v)(T:iw (lX p)=true) :
  ∃ vs:List Value,v.cells=vs.toArray/\eQ w Y σ (lX p) vs/\∀ u∈vs,Ql u=true:=by
 cases p
 case agg cs=>
  simp only[lX] at T |-;unfold Rep at h;obtain⟨vs,e,hr⟩:=h;subst e;exact⟨vs,rfl,hr,Ba _ _ T hr⟩
 all_goals
  simp only[lX,iw,Bool.and_true] at T |-;have h1:=Qm T h;refine⟨[v],by rw[DL h1],by unfold eQ;exact⟨v,[],rfl,h,by simp[eQ]⟩,by simp[h1]⟩
theorem afE {P:Program}{w:World}{x:Addr}{v u:Value}(hv:Ql v=true)(hc:w.cell? x=some u)(U:w.frozen? x=false) :
  (store x v).run P w=.ok () (w.setCell x v):=by
 unfold store;cases v<;>simp[Ql] at hv<;>simp[Sem.run,hc,U]
theorem PZ {w:World}{b o:Nat}{arr:Array Value}{ty:TypeId}(h:w.heap[b]?=some (.cells arr ty (0,0)))(v:Value) :
  (w.setCell ⟨b,o,none⟩ v).heap[b]?=some (.cells (arr.setIfInBounds o v) ty (0,0)):=by
 grind[World.setCell]
theorem cell_of_block {w:World}{b o:Nat}{arr:Array Value}{ty:TypeId}(h:w.heap[b]?=some (.cells arr ty (0,0))):w.cell? ⟨b,o,none⟩=arr[o]?:=by
 simp[World.cell?,h]
theorem tX {w:World}{b o:Nat}{arr:Array Value}{ty:TypeId}(h:w.heap[b]?=some (.cells arr ty (0,0))):w.frozen? ⟨b,o,none⟩=false:=by
 simp[World.frozen?,h]
structure Wrote (w w' : World)(b o:Nat)(arr:Array Value)(ty:TypeId)(vs:List Value):Prop where
 os:w'.os=w.os
 tape:w'.tape=w.tape
 output:w'.output=w.output
 size:w'.heap.size=w.heap.size
 other:∀ k,k≠b->w'.heap[k]?=w.heap[k]?
 blk:∃ arr' : Array Value,w'.heap[b]?=some (.cells arr' ty (0,0))/\arr'.size=arr.size/\∀ j,arr'[j]?=if o<=j/\j<o+vs.length then vs[j-o]? else arr[j]?
theorem vg {P:Program}{b o:Nat}{ty:TypeId}:∀ (vs:List Value) (i:Nat) (w:World) (arr:Array Value),w.heap[b]?=some (.cells arr ty (0,0))->o+i+vs.length<=arr.size->(∀ v∈vs,Ql v=true) ->
  ∃ w',(storeCells ⟨b,o,none⟩ vs i).run P w=.ok () w'/\Wrote w w' b (o+i) arr ty vs
 | [],i,w,arr,h,_,_=>⟨w,by simp[storeCells],rfl,rfl,rfl,rfl,λ_ _=>rfl,arr,h,rfl,λj=>by grind⟩
 | v::vs,i,w,arr,h,hle,hone=>by
  have J:o+i<arr.size:=by grind
  have hc:w.cell? ⟨b,o+i,none⟩=some arr[o+i]:=by rw[cell_of_block h];simp[J]
  have I:=afE (P:=P) (hone v aj) hc (tX h);obtain⟨w',hr,T⟩:=vg (P:=P) (o:=o) vs (i+1) (w.setCell ⟨b,o+i,none⟩ v) (arr.setIfInBounds (o+i) v) (PZ h v) ai (λu hu=>hone u (by simp[hu]));refine⟨w',?_,?_⟩
  grind[storeCells,Sem.run_bind,addr_add,Result.andThen]
  obtain⟨arr',h1,h2,C⟩:=T.blk;refine⟨T.os,T.tape,T.output,?_,λk hk=>?_,arr',h1,by simpa using h2,λj=>?_⟩
  rw[T.size];simp_all
  rw[T.other k hk];simp only[World.setCell,Array.getElem?_modify];grind
  grind
theorem xW:∀ (vs l:List PV) (c:Nat),(mO l c vs).length=l.length
 | [],l,c=>by grind[mO]
 | v::vs,[],c=>by simpa [mO,nV] using xW vs [] (c+1)
 | v::vs,x::l,c=>by rw[mO,xW vs,ug];simp
theorem Qp:∀ (vs l:List PV) (c j:Nat),c+vs.length<=l.length->(mO l c vs)[j]?=if c<=j/\j<c+vs.length then vs[j-c]? else l[j]?
 | [],l,c,j,_=>by
  grind[mO]
 | v::vs,[],c,j,h=>by simp at h
 | v::vs,x::l,c,j,h=>by
  rw[mO,Qp vs _ (c+1) j (by grind[ug]),ug]
  grind
theorem iW.iff {w:World}{Y:Nat->Prop}{σ:Sg}{b:Nat}:∀ (ps:List PV) (o:Nat),iW w Y σ b ps o↔∀ i p,ps[i]?=some p->∃ v,w.cell? ⟨b,o+i,none⟩=some v/\Rep w Y σ p v
 | [],o=>by simp[iW]
 | q::ps,o=>by
  unfold iW;rw[iW.iff ps (o+1)];constructor
  grind
  intro h;refine⟨by simpa using h 0 q rfl,λi p hi=>?_⟩;rw[show o+1+i=o+(i+1) by omega];simp_all
theorem eQ.get? {w:World}{Y:Nat->Prop}{σ:Sg}:∀ {ps:List PV} {vs:List Value} {i:Nat} {p:PV},eQ w Y σ ps vs->ps[i]?=some p->∃ v,vs[i]?=some v/\Rep w Y σ p v
 | [],_,_,_,_,hi=>by simp at hi
 | q::ps,vs,0,p,h,hi=>by
  unfold eQ at h;grind
 | q::ps,vs,i+1,p,h,hi=>by
  unfold eQ at h;obtain⟨v,T,rfl,_,h2⟩:=h
  simpa using eQ.get? h2 bH
theorem Wrote.rep {w w' : World}{Y:Nat->Prop}{σ:Sg}{b o:Nat}{arr:Array Value}{ty:TypeId}{vs:List Value}{cs row:List PV}{c:Nat}(W:Wrote w w' b (o+c) arr ty vs)
  (g:w.heap[b]?=some (.cells arr ty (0,0))) (J:iW w Y σ b row o) (T:eQ w Y σ cs vs) (hle:c+cs.length<=row.length) (hk:∀ p v,Rep w Y σ p v->Rep w' Y σ p v):iW w' Y σ b (mO row c cs) o:=by
 obtain⟨arr',h1,h2,C⟩:=W.blk;have t:=T.length;rw[iW.iff] at J |-;intro i p hi;rw[Qp _ _ _ _ hle] at hi;rw[cell_of_block h1,C]
 by_cases I:c<=i/\i<c+cs.length
 rw[if_pos I] at hi;rw[if_pos ae];obtain⟨v,hv,hr⟩:=T.get? hi
 grind
 rw[if_neg I] at hi;rw[if_neg ae]
 grind[cell_of_block]
theorem F7 {P:Program}{w:World}{t:TypeId}{b o size:Nat}{v:Value}{vs:List Value}{arr:Array Value}{ty:TypeId}(J:P.info? t≠none)(hsize:size=P.cellsOf t)
  (hv:v.cells=vs.toArray) (hlen:vs.length=size) (I:w.heap[b]?=some (.cells arr ty (0,0))) (hle:o+vs.length<=arr.size) (T:∀ u∈vs,Ql u=true) :
  ∃ w',(storeVar t ⟨b,o,none⟩ v).run P w=.ok () w'/\Wrote w w' b o arr ty vs:=by
 obtain⟨w',hr,C⟩:=vg (P:=P) (o:=o) vs 0 w arr I (by simpa using hle) T
 simp_all[storeVar,run_sizeOf]
section
variable {P:Program}{T:Tab}(hT:iZ P T){C:Ctx T}{o:Oper}{a:Act}{w:World}{Y:Nat->Prop}{σ:Sg}{ps:List PV}{st:St}{n id:Nat}{K:PV->Dl->Prop}{lk:Nat->Option lW}
 (H:SW C w Y σ ps a.tmps.toList st n) (hlk:∀ b x,lk b=some x->iV st b=some x) (hid:σ id=none/\T.qc<=id)
theorem ZJ {vs:List Value}(H:SW C w Y σ ps vs st n){t:TypeId}{b c size:Nat}{l:Loc}{row:List PV}{p:PV}{v:Value}{K:List PV->Prop}
  (J:P.info? t≠none) (hsize:size=P.cellsOf t) (g:iV st b=some (.var false row)) (hl:σ b=some l) (hv:Rep w Y σ p v) (h:oI size row c p K) :
  ∃ T w',K T/\(storeVar t ⟨l.cb,l.co+c,none⟩ v).run P w=.ok () w'/\SW C w' Y σ ps vs (nX st b (some (.var false T))) n:=by
 unfold oI at h
 cases hb:(iw (lX p)&&Nat.beq (oq (lX p)) size&&Nat.ble (c+oq (lX p)) (oq row)) with
 | false=>grind
 | true=>
  rw[hb] at h;simp only[Bool.and_eq_true,wE] at hb;obtain⟨⟨h1,h2⟩,h3⟩:=hb;have h2:=Nat.eq_of_beq_eq_true h2;have h3:=Nat.le_of_ble_eq_true h3;obtain⟨vs',hvs,hr,I⟩:=Kz hv h1;have hlen:=hr.length
  have hB:fF w Y σ l (.var false row):=by
   rcases H.store.blk b _ g with ⟨l',hl',hB⟩|⟨hn,_⟩<;>grind
  unfold fF at hB;obtain⟨⟨arr,ty,ha,has⟩,hsz,hle,hrow,hm,hr0⟩:=hB;obtain⟨w',hrun,W⟩:=F7 (P:=P) (o:=l.co+c) J hsize hvs ae ha ae I;refine⟨_,w',h,hrun,SW.update H g hl (hm rfl) W.os W.tape W.output W.size W.other (λ_ _ e=>by cases e) λhk=>?_⟩;obtain⟨arr',h4,h5,h6⟩:=W.blk;unfold fF;exact⟨⟨arr',ty,h4,by omega⟩,by rw[xW];exact hsz,by rw[xW];exact hle,W.rep ha hrow hr ae hk,hm,hr0⟩
theorem ZK {vs:List Value}(H:SW C w Y σ ps vs st n){t:TypeId}{b c size sz r:Nat}{l:Loc}{rows:List (List PV)}{row:List PV}{p:PV}{v:Value}{K:List PV->Prop}
  (g:P.info? t≠none) (hsize:size=P.cellsOf t) (hst:iV st b=some (.nor sz rows r row)) (hl:σ b=some l) (hv:Rep w Y σ p v) (h:oI size row c p K) :
  ∃ J w',K J/\(storeVar t ⟨l.cb,l.co+r*l.sz+c,none⟩ v).run P w=.ok () w'/\SW C w' Y σ ps vs (nX st b (some (.nor sz rows r J))) n:=by
 unfold oI at h
 cases hb:(iw (lX p)&&Nat.beq (oq (lX p)) size&&Nat.ble (c+oq (lX p)) (oq row)) with
 | false=>grind
 | true=>
  rw[hb] at h;simp only[Bool.and_eq_true,wE] at hb;obtain⟨⟨h1,h2⟩,h3⟩:=hb;have h2:=Nat.eq_of_beq_eq_true h2;have h3:=Nat.le_of_ble_eq_true h3;obtain⟨vs',hvs,hr,hone⟩:=Kz hv h1;have hlen:=hr.length
  have hB:fF w Y σ l (.nor sz rows r row):=by
   rcases H.store.blk b _ hst with ⟨l',hl',hB⟩|⟨hn,_⟩<;>grind
  unfold fF at hB;obtain⟨⟨arr,ty,ha,has⟩,hsz,hpos,⟨hle,hnr⟩,⟨T,hrl⟩,I,hrow,hm⟩:=hB;rw[hsz];have hbnd:(r+1)*sz<=rows.length*sz:=Nat.mul_le_mul_right sz T;rw[Nat.add_mul] at hbnd;obtain⟨w',hrun,W⟩:=F7 (P:=P) (o:=l.co+r*sz+c) g hsize hvs ae ha ae hone;refine⟨_,w',h,hrun,SW.update H hst hl hm W.os W.tape W.output W.size W.other (λ_ _ e=>by cases e) λhk=>?_⟩;have K0:Keep w w' Y Y ik ik:=⟨λk _ hy=>W.other k (λe=>hy (e ▸ hm)),λ_ _ h=>h,Nat.le_of_eq W.size.symm,nK.refl _⟩;obtain⟨arr',h4,h5,h6⟩:=W.blk;unfold fF;refine⟨⟨arr',ty,h4,by omega⟩,hsz,hpos,⟨hle,hnr⟩,⟨T,by rw[xW];exact hrl⟩,λi x hx hi=>⟨(I i x hx hi).1,?_⟩,W.rep ha hrow hr ae hk,hm⟩;obtain⟨⟨g1,_⟩,g2⟩:=I i x hx hi;rw[iW.iff] at g2 |-;intro k q hq;obtain⟨u,hu,hp⟩:=g2 k q hq;refine⟨u,?_,Rep.keep _ K0 _ hp⟩;rw[cell_of_block ha] at hu;rw[cell_of_block h4,h6,if_neg]
  exact hu
  have hk:k<x.length:=by
   grind
  rcases Nat.lt_or_gt_of_ne hi with hlt|hgt
  have:=Nat.mul_le_mul_right sz (show i+1<=r from hlt)
  grind
  have:=Nat.mul_le_mul_right sz (show r+1<=i from hgt)
  grind
end
end Go.Pv
namespace Go.Pv
open Go
theorem Je {w:World}{Y:Nat->Prop}{σ:Sg}{b r n:Nat}{ro:Bool}{sz:Nat}{rows:List (List PV)}{v:Value}(hv:Rep w Y σ (.os b r n) v)
  (I:(∃ l,σ b=some l/\fF w Y σ l (.arr ro sz rows))\/(σ b=none/\Emp (.arr ro sz rows))) :
  ∃ a cap,v=.slice a n cap/\n<=cap/\n=((rows.drop r).take n).length/\((rows.drop r).take n=[]\/∃ J o,a=some ⟨J,o,none⟩/\J<w.heap.size/\(∃ l,σ b=some l/\J=l.cb)/\je w Y ik J sz ((rows.drop r).take n) o):=by
 unfold Rep at hv;rcases hv with ⟨l,cap,hs,rfl,t,g,hr⟩|⟨rfl,a,rfl⟩
 rcases I with ⟨l',T,hB⟩|⟨T,_⟩
 rw[hs] at T;cases T;have C:=hB.lt;unfold fF at hB;refine⟨_,cap,rfl,t.1,?_,.inr ⟨l.cb,_,rfl,C,⟨l,hs,rfl⟩,?_⟩⟩
 grind
 rw[hB.2.1];exact(hB.2.2.2.2.1.drop r _ _).take n _ _
 grind
 grind
def Lk (lk:Nat->Option lW)(st:St):Prop:=∀ b ro sz rows,lk b=some (.arr ro sz rows)->∃ ro',iV st b=some (.arr ro' sz rows)
theorem Qq {b:Nat}:∀ (δ:Dl) (st:St),abr b δ=false->iV (jr δ st) b=iV st b
 | [],st,_=>rfl
 | (c,x)::δ,st,h=>by
  simp only[abr,Bool.or_eq_false_iff] at h;rw[jr,Qq δ _ h.2,ig,if_neg];intro e;subst e;simp at h
theorem GX {P:Program}{T:Tab}{C:Ctx T}{w:World}{σ:Sg}{qs:List PV}{us:List Value}{n:Nat}{lk:Nat->Option lW} :
  ∀ (ps J : List PV) (δ:Dl),pur (iq.jq P T) lk ps=some (J,δ)->∀ (Y:Nat->Prop) (st:St),SW C w Y σ qs us st n->Lk lk st->∀ vs,eQ w Y σ ps vs ->
   ∃ Y',SW C w Y' σ qs us (jr δ st) n/\eQ w Y' ik J vs/\(∀ k,Y' k->Y k)
 | [],J,δ,h,Y,st,H,_,vs,hv=>by
  simp[pur] at h;obtain⟨rfl,rfl⟩:=h;unfold eQ at hv;subst hv;exact⟨Y,H,by simp[eQ],λ_ h=>h⟩
 | p::ps,J,δ,h,Y,st,H,hlk,vs,hv=>by
  unfold eQ at hv;obtain⟨v,I,rfl,h1,h2⟩:=hv;unfold pur at h
  cases hp:pur (iq.jq P T) lk ps with
  | none=>grind
  | some r=>
   obtain⟨t,δ'⟩:=r;rw[hp] at h;simp only at h
   have plain:∀ (q:PV),Rep w Y ik q v->(some (q::t,δ')=some (J,δ))->∃ Y',SW C w Y' σ qs us (jr δ st) n/\eQ w Y' ik J (v::I)/\(∀ k,Y' k->Y k):=by
    intro q hq e;cases e;obtain⟨Y',H',hr,hy⟩:=GX ps t _ hp Y st H hlk I h2;refine⟨Y',H',?_,hy⟩;unfold eQ;exact⟨v,I,rfl,Rep.keep q ⟨λ_ _ _=>rfl,λk _=>hy k,Nat.le_refl _,nK.refl _⟩ v hq,hr⟩
   cases p
   case os b r m=>
    simp only at h
    split at h
    rename_i ro sz rows hb;cases h;obtain⟨ro',hst⟩:=hlk b ro sz rows hb;obtain⟨Y1,H1,hn1,g⟩:=H.freeze hst (x':=.arr true sz rows) (.inr ⟨ro',sz,rows,rfl,rfl⟩)
    have hlk1:Lk lk (nX st b (some (.arr true sz rows))):=by
     intro c ro2 sz2 rows2 hc;rw[ig]
     by_cases e:b=c
     grind
     rw[if_neg e];exact hlk c _ _ _ hc
    have K1:Keep w w Y Y1 σ σ:=⟨λ_ _ _=>rfl,λk _=>g k,Nat.le_refl _,nK.refl _⟩;obtain⟨Y2,H2,hr2,hy2⟩:=GX ps t δ' hp Y1 _ H1 hlk1 I (eQ.keep ps K1 I h2);refine⟨Y2,H2,?_,λk hk=>g k (hy2 k hk)⟩;unfold eQ;refine⟨v,I,rfl,?_,hr2⟩;have hB:=H1.store.blk b (.arr true sz rows) dG;obtain⟨a,cap,e1,e2,e3,e4⟩:=Je (Rep.keep _ K1 v h1) (hB.imp id λ⟨x,y⟩=>⟨x,y⟩)
    have:Rep w Y1 ik (.sl sz ((iq.jq P T).sub rows r m) false) v:=by
     unfold Rep;refine⟨a,m,cap,e1,e3,e2,(λh=>by cases h),?_⟩;rcases e4 with e4|⟨b',o,ea,eb,⟨l,el,el'⟩,er⟩
     exact .inl e4
     exact .inr ⟨b',o,ea,⟨eb,by grind⟩,er⟩
    exact Rep.keep _ ⟨λ_ _ _=>rfl,λk _=>hy2 k,Nat.le_refl _,nK.refl _⟩ v this
    cases h
   case fn f cs=>
    cases cs<;>grind[Rep,eQ]
   grind[Rep]
   grind[Rep]
   grind[Rep]
   grind[Rep]
   grind[Rep]
   case sl=>grind[Rep]
   case pp=>grind[Rep]
   case IY=>grind[Rep]
   case V5=>grind[Rep]
   all_goals cases h
theorem uh:∀ l,iw l=true↔∀ p∈l,xR p=true
 | []=>by simp[iw]
 | p::l=>by simp[iw,uh l]
theorem Eg:∀ (vs l:List PV) (c:Nat),iw l=true->iw vs=true->iw (mO l c vs)=true
 | [],l,c,h,_=>by grind[mO]
 | v::vs,[],c,h,hv=>by
  simp only[iw,Bool.and_eq_true] at hv
  simpa [mO,nV] using Eg vs [] (c+1) h hv.2
 | v::vs,x::l,c,h,hv=>by
  simp only[iw,Bool.and_eq_true] at hv;rw[mO];refine Eg vs _ (c+1) ?_ hv.2
  grind[ug,uh]
theorem je.iff {w:World}{Y:Nat->Prop}{σ:Sg}{b sz:Nat}:∀ (rs:List (List PV)) (o:Nat),je w Y σ b sz rs o↔∀ i r,rs[i]?=some r->(r.length=sz/\iw r=true)/\iW w Y σ b r (o+i*sz)
 | [],o=>by simp[je]
 | q::rs,o=>by
  unfold je;rw[je.iff rs (o+sz)];constructor
  rintro⟨h0,h1,h2⟩ i r hi
  cases i<;>grind
  intro h;refine⟨(h 0 q rfl).1,by simpa using (h 0 q rfl).2,λi r hi=>?_⟩;rw[show o+sz+i*sz=o+(i+1)*sz by grind];grind
section
variable {P:Program}{T:Tab}(hT:iZ P T){C:Ctx T}{o:Oper}{a:Act}{w:World}{Y:Nat->Prop}{σ:Sg}{ps:List PV}{st:St}{n id:Nat}{K:PV->Dl->Prop}{lk:Nat->Option lW}
 (H:SW C w Y σ ps a.tmps.toList st n) (hlk:∀ b x,lk b=some x->iV st b=some x) (hid:σ id=none/\T.qc<=id)
theorem ZL {vs:List Value}(H:SW C w Y σ ps vs st n){t:TypeId}{b r c size sz:Nat}{l:Loc}{rows:List (List PV)}{row cs:List PV}{v:Value}{K:List PV->Prop}
  (g:P.info? t≠none) (hsize:size=P.cellsOf t) (hst:iV st b=some (.arr false sz rows)) (hl:σ b=some l) (hrow:rows[r]?=some row)
  {us:List Value} (hcs:v.cells=us.toArray) (hv:eQ w Y ik cs us) (h:oI size row c (.agg cs) K) :
  ∃ J w',K J/\(storeVar t ⟨l.cb,l.co+r*l.sz+c,none⟩ v).run P w=.ok () w'/\SW C w' Y σ ps vs (nX st b (some (.arr false sz (rows.set r J)))) n:=by
 unfold oI at h;simp only[lX] at h
 cases hb:(iw cs&&Nat.beq (oq cs) size&&Nat.ble (c+oq cs) (oq row)) with
 | false=>grind
 | true=>
  rw[hb] at h;simp only[Bool.and_eq_true,wE] at hb;obtain⟨⟨h1,h2⟩,h3⟩:=hb;have h2:=Nat.eq_of_beq_eq_true h2;have h3:=Nat.le_of_ble_eq_true h3;have hone:=Ba _ _ h1 hv;have hlen:=hv.length
  have hB:fF w Y σ l (.arr false sz rows):=by
   rcases H.store.blk b _ hst with ⟨l',hl',hB⟩|⟨hn,_⟩<;>grind
  unfold fF at hB;obtain⟨⟨arr,ty,ha,has⟩,hsz,hpos,⟨hle,hnr⟩,T,hm,hr0⟩:=hB;have hr:=je.row _ _ _ _ T hrow
  have hrlt:r<rows.length:=by
   grind
  have hbound:r*sz+sz<=rows.length*sz:=by
   have:=Nat.mul_le_mul_right sz (show r+1<=rows.length by omega)
   grind
  rw[hsz];obtain⟨w',hrun,W⟩:=F7 (P:=P) (o:=l.co+r*sz+c) g hsize hcs ae ha ae hone;refine⟨_,w',h,hrun,SW.update H hst hl (hm rfl) W.os W.tape W.output W.size W.other (λ_ _ e=>by cases e) λ_=>?_⟩;have K0:Keep w w' Y Y ik ik:=⟨λk _ hk=>W.other k (λe=>hk (e ▸ hm rfl)),λ_ _ h=>h,Nat.le_of_eq W.size.symm,nK.refl _⟩;obtain⟨arr',h4,h5,h6⟩:=W.blk;unfold fF;refine⟨⟨arr',ty,h4,by omega⟩,hsz,hpos,⟨by simpa using hle,by simpa using hnr⟩,?_,hm,hr0⟩;rw[je.iff] at T |-;intro i q hi;rw[List.getElem?_set] at hi
  by_cases I:r=i
  subst I;rw[if_pos rfl,if_pos hrlt] at hi;cases hi;refine⟨⟨by grind[xW],Eg _ _ _ hr.1.2 h1⟩,?_⟩;exact W.rep ha hr.2 hv ae (λp v hp=>Rep.keep p K0 v hp)
  rw[if_neg I] at hi;obtain⟨h7,h8⟩:=T i q hi;refine⟨h7,?_⟩;rw[iW.iff] at h8 |-;intro j p hj;obtain⟨u,hu,hp⟩:=h8 j p hj
  have hjlt:j<q.length:=by
   grind
  refine⟨u,?_,Rep.keep p K0 u hp⟩;rw[cell_of_block ha] at hu;rw[cell_of_block h4,h6,if_neg,hu]
  rintro⟨h9,h10⟩
  rcases Nat.lt_or_gt_of_ne I with h11|h11
  have:=Nat.mul_le_mul_right sz (show r+1<=i by omega)
  grind
  have:=Nat.mul_le_mul_right sz (show i+1<=r by omega)
  grind
theorem OZ {cb co tot sz r c size:Nat}{arr:Array Value}{ty:TypeId}{rows:List (List PV)}{row cs:List PV}{v:Value}{t:TypeId}{K:List PV->Prop}
  (I:P.info? t≠none) (hsize:size=P.cellsOf t) (ha:w.heap[cb]?=some (.cells arr ty (0,0))) (has:arr.size=tot) (hle:co+rows.length*sz<=tot) (T:je w Y ik cb sz rows co) (hm:Y cb) (hrow:rows[r]?=some row)
  {us:List Value} (hcs:v.cells=us.toArray) (hv:eQ w Y ik cs us) (h:oI size row c (.agg cs) K) :
  ∃ w',K (mO row c cs)/\iw cs=true/\c+cs.length<=row.length/\(storeVar t ⟨cb,co+r*sz+c,none⟩ v).run P w=.ok () w'/\(w'.os=w.os/\w'.tape=w.tape/\w'.output=w.output/\w'.heap.size=w.heap.size/\∀ k,k≠cb->w'.heap[k]?=w.heap[k]?) /\
   (∃ arr',w'.heap[cb]?=some (.cells arr' ty (0,0))/\arr'.size=tot)/\je w' Y ik cb sz (rows.set r (mO row c cs)) co:=by
 unfold oI at h;simp only[lX] at h
 cases hb:(iw cs&&Nat.beq (oq cs) size&&Nat.ble (c+oq cs) (oq row)) with
 | false=>grind
 | true=>
  rw[hb] at h;simp only[Bool.and_eq_true,wE] at hb;obtain⟨⟨h1,h2⟩,h3⟩:=hb;have h2:=Nat.eq_of_beq_eq_true h2;have h3:=Nat.le_of_ble_eq_true h3;have g:=Ba _ _ h1 hv;have hlen:=hv.length;have hr:=je.row _ _ _ _ T hrow
  have C:r<rows.length:=by
   grind
  have hbound:r*sz+sz<=rows.length*sz:=by
   have:=Nat.mul_le_mul_right sz (show r+1<=rows.length by omega)
   grind
  obtain⟨w',hrun,W⟩:=F7 (P:=P) (o:=co+r*sz+c) I hsize hcs ae ha ae g;obtain⟨arr',h4,h5,h6⟩:=W.blk;have K0:Keep w w' Y Y ik ik:=⟨λk _ hk=>W.other k (λe=>hk (e ▸ hm)),λ_ _ h=>h,Nat.le_of_eq W.size.symm,nK.refl _⟩;refine⟨w',h,h1,h3,hrun,⟨W.os,W.tape,W.output,W.size,W.other⟩,⟨arr',h4,by omega⟩,?_⟩;rw[je.iff] at T |-;intro i q hi;rw[List.getElem?_set] at hi
  by_cases J:r=i
  subst J;rw[if_pos rfl,if_pos C] at hi;cases hi;refine⟨⟨by grind[xW],Eg _ _ _ hr.1.2 h1⟩,?_⟩;exact W.rep ha hr.2 hv ae (λp v hp=>Rep.keep p K0 v hp)
  rw[if_neg J] at hi;obtain⟨h7,h8⟩:=T i q hi;refine⟨h7,?_⟩;rw[iW.iff] at h8 |-;intro j p hj;obtain⟨u,hu,hp⟩:=h8 j p hj
  have hjlt:j<q.length:=by
   grind
  refine⟨u,?_,Rep.keep p K0 u hp⟩;rw[cell_of_block ha] at hu;rw[cell_of_block h4,h6,if_neg,hu]
  rintro⟨h9,h10⟩
  rcases Nat.lt_or_gt_of_ne J with h11|h11
  have:=Nat.mul_le_mul_right sz (show r+1<=i by omega)
  grind
  have:=Nat.mul_le_mul_right sz (show i+1<=r by omega)
  grind
theorem SW.ZM {vs:List Value}{w' : World}(H:SW C w Y σ ps vs st n){b:Nat}{x x' : lW}{l:Loc}{st' : St}(hx:iV st b=some x)(hl:σ b=some l){m:Nat}(hm:Y m)(hnb:∀ b' y l',b'≠b->iV st b'=some y->σ b'=some l'->l'.cb≠m)(hnm:C.w0.heap.size<=m\/C.L m)
  (g:∀ c y,iV st' c=some y->(c=b/\y=x')\/(c≠b/\iV st c=some y))
  (hos:w'.os=w.os) (I:w'.tape=w.tape) (hout:w'.output=w.output) (hsize:w'.heap.size=w.heap.size)
  (T:∀ k,k≠m->w'.heap[k]?=w.heap[k]?) (t:(∀ p v,Rep w Y ik p v->Rep w' Y ik p v)->fF w' Y σ l x') (J:(∀ p v,Rep w Y ik p v->Rep w' Y ik p v)->BB C.w0 C.L w' Y σ st'):SW C w' Y σ ps vs st' n:=by
 have K:Keep w w' Y Y σ σ:=⟨λk _ hk=>T k (λe=>hk (e ▸ hm)),λ_ _ h=>h,Nat.le_of_eq hsize.symm,nK.refl _⟩
 have old:∀ c y,iV st' c=some y->∃ z,iV st c=some z:=by
  grind
 refine⟨eQ.keep _ K _ H.vals,⟨?_,?_⟩,H.next,λk hk=>by rw[hsize];exact H.wB k hk,H.y0,H.c0,H.xE,?_,?_,H.xG.keep K.none,H.fix,J λp v hp=>Rep.keep p K.none v hp⟩
 intro c y h;rcases g c y h with ⟨rfl,rfl⟩|⟨hc,h⟩
 exact .inl ⟨l,hl,t λp v hp=>Rep.keep p K.none v hp⟩
 rcases H.store.blk c y h with ⟨l',hl',hb⟩|hn
 exact .inl ⟨l',hl',fF.keep K (T _ (hnb c y l' hc h hl')) Iff.rfl hb⟩
 exact .inr hn
 intro c c' y y' l1 l2 h h' h1 h2 e;obtain⟨z,hz⟩:=old _ _ h;obtain⟨z',hz'⟩:=old _ _ h';exact H.store.inj c c' z z' l1 l2 hz hz' h1 h2 e
 refine⟨by rw[hos];exact H.qo.os,by rw[I];exact H.qo.tape,by rw[hout];exact H.qo.output,by rw[hsize];exact H.qo.size,λk hk hM=>?_⟩
 have hne:k≠m:=λe=>by
  subst e;rcases H.xE _ hm hk with h2|h2
  have:=H.c0 _ h2
  grind
  exact hM h2
 rw[T k hne];exact H.qo.block k hk hM
 intro c y l' h h1;obtain⟨z,hz⟩:=old _ _ h;exact H.own c z l' hz h1
theorem Yy {row cs:List PV}{c i:Nat}{h:Hdr}{sz:Nat}{T:List (List PV)}(hle:c+cs.length<=row.length)(hi:(mO row c cs)[i]?=some (.ow h sz T)):(c<=i/\i<c+cs.length/\PV.ow h sz T∈cs)\/((i<c\/c+cs.length<=i)/\row[i]?=some (.ow h sz T)):=by
 grind[Qp]
theorem abB {vs:List Value}{w' : World}(H:SW C w Y σ ps vs st n){b r c sz:Nat}{rows:List (List PV)}{row cs:List PV}{l:Loc}(T:iV st b=some (.lN sz rows))(hs:σ b=some l)(hm:Y l.cb)
  (others:∀ I y l',I≠b->iV st I=some y->σ I=some l'->l'.cb≠l.cb) (hrow:rows[r]?=some row) (h2:c+cs.length<=row.length) (hno:∀ h sz es,PV.ow h sz es∈cs->h.cap≠0->False)
  (w1:w'.os=w.os) (w2:w'.tape=w.tape) (w3:w'.output=w.output) (w4:w'.heap.size=w.heap.size) (w5:∀ k,k≠l.cb->w'.heap[k]?=w.heap[k]?)
  (hB:(∀ p v,Rep w Y ik p v->Rep w' Y ik p v)->fF w' Y σ l (.lN sz (rows.set r (mO row c cs)))):SW C w' Y σ ps vs (nX st b (some (.lN sz (rows.set r (mO row c cs))))) n:=by
 refine SW.ZM H T hs hm others (H.own b _ l T hs) (λc' y' t=>?_) w1 w2 w3 w4 w5 hB λhk=>?_
 rw[ig] at t
 grind
 have K0:Keep w w' Y Y ik ik:=⟨λk _ hy=>w5 k (λe=>hy (e ▸ hm)),λ_ _ h=>h,Nat.le_of_eq w4.symm,nK.refl _⟩
 have back:∀ {I g c' h' J es'},mr (nX st b (some (.lN sz (rows.set r (mO row c cs))))) I g c' h' J es'->mr st I g c' h' J es':=by
  rintro I g c' h' J es' ⟨sz0,rs,rw0,g1,g2,g3,g4⟩
  rw[ig] at g1
  by_cases e1:b=I
  subst e1;rw[if_pos rfl] at g1;cases g1;rw[List.getElem?_set] at g2
  by_cases hr:r=g
  subst hr
  have hrlt:r<rows.length:=by
   grind
  rw[if_pos rfl,if_pos hrlt] at g2;cases g2;rcases Yy h2 g3 with ⟨k1,k2,k3⟩|⟨k1,k2⟩
  grind
  exact⟨sz,rows,row,T,hrow,k2,g4⟩
  rw[if_neg hr] at g2;exact⟨sz,rows,rw0,T,g2,g3,g4⟩
  rw[if_neg e1] at g1;exact⟨sz0,rs,rw0,g1,g2,g3,g4⟩
 refine H.nest.keep K0 (λ_ _ _ _ _ _ t=>back t) (λI g c' h' J es' t=>w5 _ (H.nest.sep _ _ _ _ _ _ _ _ _ (back t) T hs).symm) (λI g c' h' J es' t=>(H.nest.rep _ _ _ _ _ _ (back t)).own) λI g c' h' J es' b'' x l' t hx hl'=>?_;rw[ig] at hx
 by_cases e1:b=b''
 subst e1;exact H.nest.sep _ _ _ _ _ _ _ _ _ (back t) T hl'
 rw[if_neg e1] at hx;exact H.nest.sep _ _ _ _ _ _ _ _ _ (back t) hx hl'
theorem O0 {S:iq}{lk:Nat->Option lW}:∀ (ps T : List PV) (δ:Dl),pur S lk ps=some (T,δ)->iw T=true/\iw ps=true
 | [],T,δ,h=>by simp[pur] at h;obtain⟨rfl,_⟩:=h;simp[iw]
 | p::ps,T,δ,h=>by
  unfold pur at h
  cases J:pur S lk ps with
  | none=>grind
  | some r=>
   obtain⟨q,I⟩:=r;rw[J] at h;obtain⟨C,i2⟩:=O0 ps q I J
   grind[iw,xR]
theorem Q7 {S:iq}{lk:Nat->Option lW}:∀ {ps T : List PV} {us:List Value},pur S lk ps=some (T,[])->eQ w Y σ ps us->eQ w Y ik T us
 | [],T,us,h,hr=>by grind[pur,eQ]
 | p::ps,T,us,h,hr=>by
  unfold pur at h
  cases I:pur S lk ps with
  | none=>grind
  | some r=>
   obtain⟨q,C⟩:=r;rw[I] at h;simp only at h;unfold eQ at hr;obtain⟨v,J,rfl,h1,h2⟩:=hr;cases p
   case os b r n=>
    grind
   case fn f cs=>
    cases cs<;>simp only at h<;>first|contradiction|skip
    cases h;unfold eQ;refine⟨v,J,rfl,?_,Q7 I h2⟩
    grind[Rep,eQ]
   all_goals (simp only at h;first|contradiction|(cases h;unfold eQ;refine⟨v,J,rfl,?_,Q7 I h2⟩;unfold Rep at h1 |-;exact h1))
theorem Wy {P:Program}{T:Tab}{lk:Nat->Option lW}:∀ (ps J : List PV) (δ:Dl),pur (iq.jq P T) lk ps=some (J,δ)->∀ h sz t,PV.ow h sz t ∉ J
 | [],J,δ,h=>by simp[pur] at h;grind
 | p::ps,J,δ,h=>by
  unfold pur at h
  cases I:pur (iq.jq P T) lk ps with
  | none=>grind
  | some r=>
   obtain⟨q,C⟩:=r;rw[I] at h;have g:=Wy ps q C I
   grind
include hT H hlk hid in
theorem ag0 {t:TypeId}{x y:Operand}(ho:o.op=.store t x y)(h:oH T (iq.jq P T) (.store t x y) ps lk id K):qL P C o a w σ ps st n id K:=by
 have hx:=kW H x;have hy:=kW H y;simp only[oH] at h
 split at h
 rename_i agg size z plain kind e;obtain⟨hinfo,hsize,hagg,hund⟩:=Wv hT e
 split at h
 rename_i b c e;rw[e] at hx;unfold Rep at hx;obtain⟨l,hs,e'⟩:=hx
 split at h
 rename_i row hb;obtain⟨row',w',hK,hrun,H'⟩:=ZJ H hinfo hsize (hlk _ _ hb) hs hy h;refine⟨_,_,Go.undef,w',Y,σ,hK,.inr ⟨?_,rfl⟩,?_,by simp[Rep],Off.refl _ _⟩
 simp[execOp,ho,e',Instr.storeAt,Instr.sureAddr,hrun]
 simp only[jr,ve];exact H'.mono ae
 exact h.elim
 rename_i b r c e;rw[e] at hx;unfold Rep at hx;obtain⟨l,hs,e'⟩:=hx
 split at h
 rename_i sz rows hb
 split at h
 rename_i cs δ hp
 cases hm:abr b δ with
 | true=>rw[hm] at h;exact h.elim
 | false=>
  rw[hm] at h;have h9:=BH h;clear h;obtain⟨cs2,hl2,hc2,hw2,⟨row,I,h⟩,h8⟩:=h9;clear hl2 hc2 h8
  have hall:iw (lX (sK T ps y))=true:=by
   clear h hm hs e' I hb e hw2;generalize lX (sK T ps y)=l at hp
   induction l generalizing cs δ with
   | nil=>rfl
   | cons p l ih=>
    unfold pur at hp
    cases hp2:pur (iq.jq P T) lk l with
    | none=>rw[hp2] at hp;cases hp
    | some r=>
     rw[hp2] at hp;simp only[iw,ih _ _ hp2,Bool.and_true];cases p<;>simp[xR] at hp |-
  obtain⟨us,hcs,hr,hone⟩:=Kz hy hall;have hLk:Lk lk st:=λb ro sz rows h=>⟨ro,hlk _ _ h⟩
  obtain⟨Y',H',hr',hyy⟩:=GX _ _ _ hp Y st H hLk us hr;have hst' : iV (jr δ st) b=some (.arr false sz rows):=by rw[Qq δ st hm];exact hlk _ _ hb
  obtain⟨row',w',hK,hrun,H2⟩:=ZL (P:=P) H' hinfo hsize hst' hs I hcs (hw2 _ _ _ _ hr') h;refine⟨_,_,Go.undef,w',Y',σ,hK,.inr ⟨?_,rfl⟩,?_,by simp[Rep],Off.refl _ _⟩
  simp[execOp,ho,e',Instr.storeAt,Instr.sureAddr,hrun]
  have:∀ (δ:Dl) (st:St) (e:Nat×Option lW),jr (δ++[e]) st=nX (jr δ st) e.1 e.2:=by
   intro δ;induction δ with
   | nil=>intro st e;rfl
   | cons d δ ih=>intro st e;simp only[List.cons_append,jr];exact ih _ _
  rw[this]
  have hn:n<=ve (δ++[(b,some (.arr false sz ((iq.jq P T).Hg rows r row')))]) n id:=by
   cases δ<;>simp[ve]<;>omega
  exact H2.mono hn
 exact h.elim
 rename_i sz rows hb;have hst:=hlk _ _ hb;have hB:fF w Y σ l (.lN sz rows):=fF.zN H hlk hb hs;unfold fF at hB;obtain⟨⟨arr,ty,ha,has⟩,hsz,hpos,⟨hle,hnr⟩,hrows,hm⟩:=hB;have others:∀ b' y l',b'≠b->iV st b'=some y->σ b'=some l'->l'.cb≠l.cb:=λb' y l' hne h1 h2 e=>hne (H.store.inj b' b y _ l' l h1 hst h2 hs e)
 have blk:∀ {w' : World} {rows' : List (List PV)} {arr' : Array Value},rows'.length=rows.length->w'.heap[l.cb]?=some (.cells arr' ty (0,0))->arr'.size=l.tot->je w' Y ik l.cb sz rows' l.co->fF w' Y σ l (.lN sz rows'):=by
  intro w' rows' arr' h1 h2 h3 h4;unfold fF;exact⟨⟨arr',ty,h2,h3⟩,hsz,hpos,⟨by rw[h1];exact hle,by rw[h1];exact hnr⟩,h4,hm⟩
 split at h
 rename_i id0 r0 m ey;rw[ey] at hy
 split at h
 rename_i sz' rows' hb2
 cases hc:(Nat.beq size 1&&Nat.beq id0 b) with
 | true=>rw[hc] at h;exact h.elim
 | false=>
  rw[hc] at h;obtain⟨row,I,h⟩:=h;have hst2:=hlk _ _ hb2;have hne:id0≠b:=λe=>by rw[e] at hst2;rw[hst] at hst2;cases hst2
  unfold Rep at hy
  have hcase:(m=0/\∃ a0,a.eval y=.slice a0 0 0)\/(∃ l cap,(σ id0=some l/\a.eval y=.slice (some ⟨l.cb,l.co+r0*l.sz,none⟩) m cap/\(m<=cap/\cap<=9223372036854775807)/\l.co+r0*l.sz+cap*l.sz=l.tot/\r0+m<=l.nr)/\cap≠0):=by
   rcases hy with ⟨l2,cap,g1,g2,g3,g4⟩|hy
   by_cases hcap0:cap=0
   have hm0:m=0:=by have:=g3.1;omega
   subst hm0 hcap0;exact .inl ⟨rfl,_,g2⟩
   exact .inr ⟨l2,cap,⟨g1,g2,g3,g4⟩,hcap0⟩
   exact .inl hy
  rcases hcase with ⟨hm0,hsl⟩|⟨l2,cap,⟨hl2,ey2,hcap,htot,hrm⟩,hcap0⟩
        
  subst hm0
  let hd:Hdr:=⟨0,0,0⟩;have h:oI size row c (.agg [.ow hd sz' []]) (λrow'=>K PV.undef [(id0,none),(b,some (lW.lN sz ((iq.jq P T).Hg rows r row')))]):=h hd
  have hrep:eQ w Y ik [.ow hd sz' []] [a.eval y]:=by
   unfold eQ;refine⟨_,_,rfl,?_,by unfold eQ;rfl⟩;unfold Rep;exact .inr ⟨rfl,rfl,hsl⟩
  have hcells:(a.eval y).cells=#[a.eval y]:=DL (by obtain⟨a0,e⟩:=hsl;rw[e];rfl);obtain⟨w',hK,h1,h2,hrun,⟨w1,w2,w3,w4,w5⟩,⟨arr',h5,h6⟩,h7⟩:=OZ (P:=P) hinfo hsize ha has hle hrows hm I (us:=[a.eval y]) (by rw[hcells]) hrep h;have H2:=abB H hst hs hm others I h2 (by intro h' g es' J hne;simp only[List.mem_singleton,PV.ow.injEq] at J;rw[J.1] at hne;exact hne rfl) w1 w2 w3 w4 w5 (λ_=>blk (rows':=rows.set r (mO row c [.ow hd sz' []])) aj h5 h6 h7);refine⟨_,_,Go.undef,w',Y,σ,hK,.inr ⟨?_,rfl⟩,?_,by simp[Rep],Off.refl _ _⟩
  rw[<- hsz] at hrun;simp[execOp,ho,e',Instr.storeAt,Instr.sureAddr,hrun]
  simp only[jr];refine SW.mono (n:=n) ?_ di;refine H2.ext λc' y' J=>?_;simp only[ig] at J |-
  by_cases e1:b=c'
  rw[if_pos e1] at J |-;exact J
  rw[if_neg e1] at J |-
  by_cases e2:id0=c'
  rw[if_pos e2] at J;cases J
  rw[if_neg e2] at J;exact J
  have hB2:fF w Y σ l2 (.arr false sz' rows'):=fF.zN H hlk hb2 hl2;unfold fF at hB2;obtain⟨⟨arr2,ty2,ha2,has2⟩,hsz2,hpos2,⟨hle2,hnr2⟩,hrows2,hm2,_⟩:=hB2;have hm2:=hm2 rfl
  let hd:Hdr:=⟨l2.cb,l2.co+r0*l2.sz,cap⟩;have hlen:((rows'.drop r0).take m).length=m:=by rw[List.length_take,List.length_drop];omega
  have h:oI size row c (.agg [.ow hd sz' ((rows'.drop r0).take m)]) (λrow'=>K PV.undef [(id0,none),(b,some (lW.lN sz ((iq.jq P T).Hg rows r row')))]):=h hd
  have hrep:eQ w Y ik [.ow hd sz' ((rows'.drop r0).take m)] [a.eval y]:=by
   unfold eQ;refine⟨_,_,rfl,?_,by unfold eQ;rfl⟩;unfold Rep;exact .inl ⟨hcap0,by rw[hlen];exact ey2,by rw[hlen];exact hcap.1,hcap.2⟩
  have hcells:(a.eval y).cells=#[a.eval y]:=DL (by rw[ey2];rfl);obtain⟨w',hK,h1,h2,hrun,⟨w1,w2,w3,w4,w5⟩,⟨arr',h5,h6⟩,h7⟩:=OZ (P:=P) hinfo hsize ha has hle hrows hm I (us:=[a.eval y]) (by rw[hcells]) hrep h
  have look:∀ c' y',iV (jr [(id0,none),(b,some (.lN sz (rows.set r (mO row c [.ow hd sz' ((rows'.drop r0).take m)]))))] st) c'=some y'->(c'=b/\y'=.lN sz (rows.set r (mO row c [.ow hd sz' ((rows'.drop r0).take m)])))\/(c'≠b/\c'≠id0/\iV st c'=some y'):=by
   intro c' y' J;simp only[jr,ig] at J
   by_cases e1:b=c'
   rw[if_pos e1] at J;cases J;exact .inl ⟨e1.symm,rfl⟩
   rw[if_neg e1] at J
   by_cases e2:id0=c'
   rw[if_pos e2] at J;cases J
   rw[if_neg e2] at J;exact .inr ⟨λe=>e1 e.symm,λe=>e2 e.symm,J⟩
  have hν:hd.ν=l2.cb:=rfl;have hl12:l2.cb≠l.cb:=others id0 _ l2 hne hst2 hl2
  have ow:∀ {b' r' c' h' g es'},mr (jr [(id0,none),(b,some (.lN sz (rows.set r (mO row c [.ow hd sz' ((rows'.drop r0).take m)]))))] st) b' r' c' h' g es' ->
    (b'=b/\r'=r/\c'=c/\h'=hd/\g=sz'/\es'=(rows'.drop r0).take m)\/(mr st b' r' c' h' g es'/\¬ (b'=b/\r'=r/\c'=c)):=by
   rintro b' r' c' h' g es' ⟨sz0,rs,rw0,g1,g2,g3,g4⟩
   rcases look _ _ g1 with ⟨e0,g5⟩|⟨e1,e2,g1⟩
   subst e0;cases g5;rw[List.getElem?_set] at g2
   by_cases hr:r=r'
   subst hr
   have hrlt:r<rows.length:=by
    by_cases J:r<rows.length
    exact J
    simp[List.getElem?_eq_none (Nat.le_of_not_lt J)] at I
   rw[if_pos rfl,if_pos hrlt] at g2;cases g2;rcases Yy h2 g3 with ⟨k1,k2,k3⟩|⟨k1,k2⟩
   simp only[List.mem_singleton,PV.ow.injEq] at k3;simp only[List.length_singleton] at k2;exact .inl ⟨rfl,rfl,by omega,k3.1,k3.2.1,k3.2.2⟩
   simp only[List.length_singleton] at k1;exact .inr ⟨⟨sz,rows,row,hst,I,k2,g4⟩,λJ=>by omega⟩
   rw[if_neg hr] at g2;exact .inr ⟨⟨sz,rows,rw0,hst,g2,g3,g4⟩,λJ=>hr J.2.1.symm⟩
   exact .inr ⟨⟨sz0,rs,rw0,g1,g2,g3,g4⟩,λJ=>e1 J.1⟩
  have H2:SW C w' Y σ ps a.tmps.toList (jr [(id0,none),(b,some (.lN sz (rows.set r (mO row c [.ow hd sz' ((rows'.drop r0).take m)]))))] st) n:=by
   refine SW.ZM H hst hs hm others (H.own b _ l hst hs) (λc' y' J=>(look c' y' J).imp _root_.id λJ=>⟨J.1,J.2.2⟩) w1 w2 w3 w4 w5 (λ_=>blk aj h5 h6 h7) λhk=>?_;have K0:Keep w w' Y Y ik ik:=⟨λk _ hy=>w5 k (λe=>hy (e ▸ hm)),λ_ _ h=>h,Nat.le_of_eq w4.symm,nK.refl _⟩;have notl:∀ {b' r' c' h' g es'},mr st b' r' c' h' g es'->h'.ν≠l.cb/\h'.ν≠l2.cb:=λJ=>⟨(H.nest.sep _ _ _ _ _ _ _ _ _ J hst hs).symm,(H.nest.sep _ _ _ _ _ _ _ _ _ J hst2 hl2).symm⟩
   refine⟨λb' r' c' h' g es' J=>?_,λb' r' c' h' g es' J=>?_,λb' r' c' h' g es' b'' r'' c'' h'' sz3 es'' J hh' e=>?_,λb' r' c' h' g es' b'' x l' J hx hl'=>?_⟩
   rcases ow J with ⟨_,_,_,rfl,rfl,rfl⟩|⟨J,_⟩
   refine⟨hm2,hpos2,⟨arr2,ty2,by rw[hν,w5 _ hl12];exact ha2,by rw[has2];show l2.tot=l2.co+r0*l2.sz+cap*g;rw[<- htot,hsz2]⟩,by rw[hlen];exact hcap.1,?_⟩;show je w' Y ik l2.cb g _ (l2.co+r0*l2.sz);rw[hsz2];exact je.keep _ K0 (λ_=>w5 _ hl12) _ ((hrows2.drop r0 _ _).take m _ _)
   exact(H.nest.rep _ _ _ _ _ _ J).keep K0 (w5 _ (notl J).1) (λh=>h)
   rcases ow J with ⟨_,_,_,rfl,rfl,rfl⟩|⟨J,_⟩
   exact H.own id0 _ l2 hst2 hl2
   exact H.nest.old _ _ _ _ _ _ J
   rcases ow J with ⟨e1,e2,e3,e4,_⟩|⟨hh1,_⟩<;>rcases ow hh' with ⟨f1,f2,f3,f4,_⟩|⟨hh2,_⟩
   exact⟨by rw[e1,f1],by rw[e2,f2],by rw[e3,f3]⟩
   exact absurd (by rw[<- e,e4]) (notl hh2).2
   exact absurd (by rw[e,f4]) (notl hh1).2
   exact H.nest.one _ _ _ _ _ _ _ _ _ _ _ _ hh1 hh2 e
   have hx2:(b''=b\/b''≠b)/\b''≠id0/\∃ z,iV st b''=some z:=by
    rcases look _ _ hx with ⟨rfl,_⟩|⟨e1,e2,hx⟩
    exact⟨.inl rfl,λe=>hne e.symm,_,hst⟩
    exact⟨.inr e1,e2,_,hx⟩
   obtain⟨_,hxi,z,hz⟩:=hx2;rcases ow J with ⟨_,_,_,rfl,_⟩|⟨J,_⟩
   exact λe=>hxi (H.store.inj b'' id0 z _ l' l2 hz hst2 hl' hl2 e)
   exact H.nest.sep _ _ _ _ _ _ _ _ _ J hz hl'
  refine⟨_,_,Go.undef,w',Y,σ,hK,.inr ⟨?_,rfl⟩,H2.mono di,by simp[Rep],Off.refl _ _⟩;rw[<- hsz] at hrun;simp[execOp,ho,e',Instr.storeAt,Instr.sureAddr,hrun]
 exact h.elim
 split at h
 rename_i cs hp;have hall:iw (lX (sK T ps y))=true:=(O0 _ _ _ hp).2;obtain⟨us,hcs,hr,hone⟩:=Kz hy hall;have hLk:Lk lk st:=λb ro sz rows h=>⟨ro,hlk _ _ h⟩
 obtain⟨row,I,h⟩:=h;have hr':=Q7 hp hr;obtain⟨w',hK,h1,h2,hrun,⟨w1,w2,w3,w4,w5⟩,⟨arr',h5,h6⟩,h7⟩:=OZ (P:=P) hinfo hsize ha has hle hrows hm I hcs hr' h;have H2:=abB H hst hs hm others I h2 (by intro h' g es' J hne;exact absurd J (Wy _ _ _ hp _ _ _)) w1 w2 w3 w4 w5 (λ_=>blk (rows':=rows.set r (mO row c cs)) aj h5 h6 h7);refine⟨_,_,Go.undef,w',Y,σ,hK,.inr ⟨?_,rfl⟩,H2.mono di,by simp[Rep],Off.refl _ _⟩;rw[<- hsz] at hrun;simp[execOp,ho,e',Instr.storeAt,Instr.sureAddr,hrun]
 exact h.elim
 rename_i sz rows r0 row hb;obtain⟨hr0,h⟩:=h;cases hr0;obtain⟨row',w',hK,hrun,H'⟩:=ZK H hinfo hsize (hlk _ _ hb) hs hy h;refine⟨_,_,Go.undef,w',Y,σ,hK,.inr ⟨?_,rfl⟩,?_,by simp[Rep],Off.refl _ _⟩
 simp[execOp,ho,e',Instr.storeAt,Instr.sureAddr,hrun]
 simp only[jr,ve];exact H'.mono ae
 exact h.elim
 rename_i b r c hd sz j k e;rw[e] at hx;unfold Rep at hx
 split at h
 rename_i sz0 rows hb;have hst:=hlk _ _ hb
 split at h
 rename_i cs hp;have hall:iw (lX (sK T ps y))=true:=(O0 _ _ _ hp).2;obtain⟨us,hcs,hr,hone⟩:=Kz hy hall;have h9:=BH h;clear h;obtain⟨cs2,hl2,hc2,hw2,⟨row,I,h⟩,h8⟩:=h9;clear hl2 hc2 h8;have hr':=hw2 _ _ _ _ (Q7 hp hr)
 split at h
 rename_i h' sz' es ec
 cases hs:Nat.beq sz' sz with
 | false=>rw[hs] at h;exact h.elim
 | true=>
  rw[hs] at h;simp only[cond_true] at h;have hs:=Nat.eq_of_beq_eq_true hs;subst hs;obtain⟨he,er,her,h⟩:=h;subst he;have hc:row[c]?=some (.ow hd sz' es):=by rw[F6,List.getD_eq_getElem?_getD] at ec;exact getD_some ec
  have hne:es≠[]:=by rintro rfl;simp at her
  have hcap:=H.agX hst I hc hne;have hO:mr st b r c hd sz' es:=⟨sz0,rows,row,hst,I,hc,hcap⟩;have hN:=H.nest.rep _ _ _ _ _ _ hO;obtain⟨arr,ty,ha,has⟩:=hN.blk;have hle:hd.o+es.length*sz'<=hd.o+hd.cap*sz':=by have:=Nat.mul_le_mul_right sz' hN.len;omega
  obtain⟨w',hK,h1,h2,hrun,⟨w1,w2,w3,w4,w5⟩,⟨arr',h5,h6⟩,h7⟩:=OZ (P:=P) hinfo hsize ha has hle hN.rows hN.own her hcs hr' h
  obtain⟨l,hl,hB⟩:∃ l,σ b=some l/\fF w Y σ l (.lN sz0 rows):=by
   rcases H.store.blk b _ hst with h|⟨_,hx⟩
   exact h
   cases hx;simp at I
  have hlν:l.cb≠hd.ν:=H.nest.sep _ _ _ _ _ _ _ _ _ hO hst hl
  have hclt:c<row.length:=by
   by_cases J:c<row.length
   exact J
   simp[List.getElem?_eq_none (Nat.le_of_not_lt J)] at hc
  have hrlt:r<rows.length:=by
   by_cases J:r<rows.length
   exact J
   simp[List.getElem?_eq_none (Nat.le_of_not_lt J)] at I
  have hne' : es.set j (mO er k cs2)≠[]:=by
   intro h0;have:=congrArg List.length h0;simp at this;exact hne this
  have ow:∀ {b' r' c' h2 g es'},mr (nX st b (some (.lN sz0 (rows.set r (nV row c (.ow hd sz' (es.set j (mO er k cs2)))))))) b' r' c' h2 g es' ->
    (b'=b/\r'=r/\c'=c/\h2=hd/\g=sz'/\es'=es.set j (mO er k cs2))\/(mr st b' r' c' h2 g es'/\¬ (b'=b/\r'=r/\c'=c)):=by
   rintro b' r' c' h2 g es' ⟨szx,rs,rw0,g1,g2,g3,g4⟩
   rw[ig] at g1
   by_cases e1:b=b'
   subst e1;rw[if_pos rfl] at g1;cases g1;rw[List.getElem?_set] at g2
   by_cases hrr:r=r'
   subst hrr;rw[if_pos rfl,if_pos hrlt] at g2;cases g2;rw[ug,List.getElem?_set] at g3
   by_cases hcc:c=c'
   subst hcc;rw[if_pos rfl,if_pos hclt] at g3;cases g3;exact .inl ⟨rfl,rfl,rfl,rfl,rfl,rfl⟩
   rw[if_neg hcc] at g3;exact .inr ⟨⟨sz0,rows,row,hst,I,g3,g4⟩,λJ=>hcc J.2.2.symm⟩
   rw[if_neg hrr] at g2;exact .inr ⟨⟨sz0,rows,rw0,hst,g2,g3,g4⟩,λJ=>hrr J.2.1.symm⟩
   rw[if_neg e1] at g1;exact .inr ⟨⟨szx,rs,rw0,g1,g2,g3,g4⟩,λJ=>e1 J.1.symm⟩
  have H2:SW C w' Y σ ps a.tmps.toList (nX st b (some (.lN sz0 (rows.set r (nV row c (.ow hd sz' (es.set j (mO er k cs2)))))))) n:=by
   refine SW.ZM (b:=b) (x':=.lN sz0 (rows.set r (nV row c (.ow hd sz' (es.set j (mO er k cs2)))))) H hst hl hN.own (λb' y l' _ h1 h2=>H.nest.sep _ _ _ _ _ _ _ _ _ hO h1 h2) (H.nest.old _ _ _ _ _ _ hO) (λc' y' J=>?_) w1 w2 w3 w4 w5 (λhk=>?_) λhk=>?_
   rw[ig] at J
   by_cases e1:b=c'
   rw[if_pos e1] at J;cases J;exact .inl ⟨e1.symm,rfl⟩
   rw[if_neg e1] at J;exact .inr ⟨λe=>e1 e.symm,J⟩
   unfold fF at hB |-;obtain⟨⟨arr0,ty0,b1,b2⟩,b3,b4,⟨b5,b6⟩,b7,b8⟩:=hB;refine⟨⟨arr0,ty0,by rw[w5 _ hlν];exact b1,b2⟩,b3,b4,⟨by simpa using b5,by simpa using b6⟩,?_,b8⟩;have K0:Keep w w' Y Y ik ik:=⟨λk _ hy=>w5 k (λe=>hy (e ▸ hN.own)),λ_ _ h=>h,Nat.le_of_eq w4.symm,nK.refl _⟩;have b7:=je.keep rows K0 (λ_=>w5 _ hlν) _ b7;rw[je.iff] at b7 |-;intro i q hi;rw[List.getElem?_set] at hi
   by_cases hri:r=i
   subst hri;rw[if_pos rfl,if_pos hrlt] at hi;cases hi;obtain⟨⟨q1,q2⟩,q3⟩:=b7 r row I;refine⟨⟨by rw[ug];simpa using q1,?_⟩,?_⟩
   rw[ug,uh];rw[uh] at q2;intro p hp;rcases List.mem_or_eq_of_mem_set hp with J|J
   exact q2 p J
   rw[J];rfl
   rw[iW.iff] at q3 |-;intro i p hi;rw[ug,List.getElem?_set] at hi
   by_cases hci:c=i
   subst hci;rw[if_pos rfl,if_pos hclt] at hi;cases hi;obtain⟨v,hv,hp⟩:=q3 c _ hc;refine⟨v,hv,?_⟩;unfold Rep at hp |-;rcases hp with ⟨p1,p2,p3,p4⟩|⟨p1,_⟩
   exact .inl ⟨p1,by simpa using p2,by simpa using p3,p4⟩
   exact absurd p1 hcap
   rw[if_neg hci] at hi;exact q3 i p hi
   rw[if_neg hri] at hi;exact b7 i q hi
   have K0:Keep w w' Y Y ik ik:=⟨λk _ hy=>w5 k (λe=>hy (e ▸ hN.own)),λ_ _ h=>h,Nat.le_of_eq w4.symm,nK.refl _⟩;have other:∀ {b' r' c' h2 g es'},mr st b' r' c' h2 g es'->¬ (b'=b/\r'=r/\c'=c)->h2.ν≠hd.ν:=λJ hn e=>hn (H.nest.one _ _ _ _ _ _ _ _ _ _ _ _ J hO e);refine⟨λb' r' c' h2 g es' J=>?_,λb' r' c' h2 g es' J=>?_,λb' r' c' h2 g es' b'' r'' c'' h3 sz3 es'' J hh' e=>?_,λb' r' c' h2 g es' b'' x l' J hx hl'=>?_⟩
   rcases ow J with ⟨_,_,_,rfl,rfl,rfl⟩|⟨J,hn⟩
   exact⟨hN.own,hN.pos,⟨arr',ty,h5,h6⟩,by simpa using hN.len,h7⟩
   exact(H.nest.rep _ _ _ _ _ _ J).keep K0 (w5 _ (other J hn)) (λh=>h)
   rcases ow J with ⟨_,_,_,rfl,rfl,rfl⟩|⟨J,_⟩
   exact H.nest.old _ _ _ _ _ _ hO
   exact H.nest.old _ _ _ _ _ _ J
   rcases ow J with ⟨e1,e2,e3,e4,_⟩|⟨hh1,n1⟩<;>rcases ow hh' with ⟨f1,f2,f3,f4,_⟩|⟨hh2,n2⟩
   exact⟨by rw[e1,f1],by rw[e2,f2],by rw[e3,f3]⟩
   exact absurd (by rw[<- e,e4]) (other hh2 n2)
   exact absurd (by rw[e,f4]) (other hh1 n1)
   exact H.nest.one _ _ _ _ _ _ _ _ _ _ _ _ hh1 hh2 e
   have hz:∃ z,iV st b''=some z:=by
    rw[ig] at hx
    by_cases e1:b=b''
    subst e1;exact⟨_,hst⟩
    rw[if_neg e1] at hx;exact⟨_,hx⟩
   obtain⟨z,hz⟩:=hz;rcases ow J with ⟨_,_,_,rfl,_⟩|⟨J,_⟩
   exact H.nest.sep _ _ _ _ _ _ _ _ _ hO hz hl'
   exact H.nest.sep _ _ _ _ _ _ _ _ _ J hz hl'
  refine⟨_,_,Go.undef,w',Y,σ,hK,.inr ⟨?_,rfl⟩,H2.mono di,by simp[Rep],Off.refl _ _⟩;simp[execOp,ho,hx,Instr.storeAt,Instr.sureAddr,hrun]
 exact h.elim
 exact h.elim
 exact h.elim
 exact h.elim
 exact h.elim
end
end Go.Pv
namespace Go.Pv
open Go
theorem Hw {P:Program}{t:TypeId}{z:List PV}(h:I9 P t=some z):∃ T,(∀ w,(zeroValue t).run P w=.ok T w)/\∀ w Y σ,eQ w Y σ z T.cells.toList:=by
 unfold I9 at h
 split at h
 rename_i i hi
 split at h
 rename_i T I;cases h;refine⟨T,λw=>by simp_all[zeroValue,typeInfo],λw Y σ=>?_⟩;unfold Yq
 split
 rename_i cs;exact Jc w Y σ _
 rename_i J;have h1:lX (Lr T)=[Lr T]:=by unfold Lr;split<;>rfl
 have h2:T.cells=#[T]:=by
  cases T<;>first|rfl|(exact absurd rfl (J _))
 rw[h1,h2];unfold eQ;exact⟨T,[],rfl,Qn w Y σ T,by simp[eQ]⟩
 cases h
 cases h
theorem WA {w:World}{Y:Nat->Prop}{σ:Sg}{p:PV}{v:Value}(h:Rep w Y σ p v)(T:p≠.top):eQ w Y σ (lX p) v.cells.toList:=by
 cases p
 case top=>exact absurd rfl T
 case hc=>
  have hc:v.cells=#[v]:=by unfold Rep at h;cases v<;>simp[Ql] at h<;>rfl
  rw[hc];simp only[lX];unfold eQ;exact⟨v,[],rfl,h,by simp[eQ]⟩
 case agg cs=>unfold Rep at h;obtain⟨vs,rfl,hr⟩:=h;exact hr
 case os=>
  have hc:v.cells=#[v]:=by
   unfold Rep at h;rcases h with ⟨_,_,_,rfl,_⟩|⟨_,_,rfl⟩<;>rfl
  rw[hc];simp only[lX];unfold eQ;exact⟨v,[],rfl,h,by simp[eQ]⟩
 case ow=>
  have hc:v.cells=#[v]:=by
   unfold Rep at h;rcases h with ⟨_,rfl,_⟩|⟨_,_,_,rfl⟩<;>rfl
  rw[hc];simp only[lX];unfold eQ;exact⟨v,[],rfl,h,by simp[eQ]⟩
 case bo=>
  have hc:v.cells=#[v]:=by
   unfold Rep at h;rcases h with ⟨_,rfl,_⟩|⟨_,_,_,rfl⟩<;>rfl
  rw[hc];simp only[lX];unfold eQ;exact⟨v,[],rfl,h,by simp[eQ]⟩
 all_goals
  have hc:v.cells=#[v]:=by
   unfold Rep at h
   first
    | (subst h;rfl)
    | (obtain⟨_,rfl,_⟩:=h;rfl)
    | (obtain⟨_,_,rfl⟩:=h;rfl)
    | (obtain⟨_,_,rfl,_⟩:=h;rfl)
    | (obtain⟨_,_,_,rfl,_⟩:=h;rfl)
  rw[hc];simp only[lX];unfold eQ;exact⟨v,[],rfl,h,by simp[eQ]⟩
section
variable {P:Program}{T:Tab}(hT:iZ P T){C:Ctx T}{o:Oper}{a:Act}{w:World}{Y:Nat->Prop}{σ:Sg}{ps:List PV}{st:St}{n id:Nat}{K:PV->Dl->Prop}{lk:Nat->Option lW}
 (H:SW C w Y σ ps a.tmps.toList st n) (hlk:∀ b x,lk b=some x->iV st b=some x) (hid:σ id=none/\T.qc<=id)
theorem SW.newVar (H:SW C w Y σ ps a.tmps.toList st n)(hid:σ id=none/\T.qc<=id){vs:List Value}{row:List PV}(ty:TypeId)(hr:eQ w Y σ row vs) :
  ∃ Y' σ',SW C (w.alloc (.cells vs.toArray ty)) Y' σ' ps a.tmps.toList (nX st id (some (.var false row))) (max n (id+1))/\Rep (w.alloc (.cells vs.toArray ty)) Y' σ' (.lv id 0) (.pointer (some ⟨w.heap.size,0,none⟩))/\Off id σ σ':=by
 obtain⟨Y',σ',H',hs,_,_,J⟩:=H.alloc hid vs.toArray ty ⟨w.heap.size,0,row.length,vs.length,1⟩ rfl (.var false row) (λ_ _ e=>by cases e) (by
  intro w' Y' σ' hk t I _;unfold fF;refine⟨⟨_,ty,I,by simp⟩,rfl,by simp[hr.length],?_,λ_=>t,λh=>by cases h⟩;rw[iW.iff];intro i p hi;obtain⟨v,hv,g⟩:=hr.get? hi;exact⟨v,by rw[cell_of_block I];simpa using hv,hk _ _ g⟩)
 refine⟨Y',σ',H',?_,J⟩;unfold Rep;exact⟨_,hs,rfl⟩
include hT H hid in
theorem ag1 {t:TypeId}(ho:o.op=.alloc t)(h:oH T (iq.jq P T) (.alloc t) ps lk id K):qL P C o a w σ ps st n id K:=by
 simp only[oH] at h
 split at h
 rename_i agg size z plain kind e;obtain⟨i,d,h1,h2,h3,h4,h5,I,h7,h8⟩:=wU hT e rfl;obtain⟨zv,g,hr⟩:=Hw I.symm;obtain⟨Y',σ',H',hrep,J⟩:=H.newVar hid t (hr w Y σ);refine⟨_,_,_,_,Y',σ',h,.inl ?_,H',hrep,J⟩;simp[execOp,ho,Instr.alloc,g,newVar,newRow,newObj,Sem.run,Result.andThen]
 exact h.elim
include H hid in
theorem ak7 {t:TypeId}{x:Operand}(ho:o.op=.box t x)(h:oH T (iq.jq P T) (.box t x) ps lk id K):qL P C o a w σ ps st n id K:=by
 have g:=kW H x;simp only[oH] at h
 split at h
 exact h.elim
 rename_i I;obtain⟨Y',σ',H',hrep,J⟩:=H.newVar hid t (WA g I);refine⟨_,_,_,_,Y',σ',h,.inl ?_,H',hrep,J⟩;simp[execOp,ho,Instr.box,newVar,newRow,newObj,Sem.run,Result.andThen]
include H in
theorem abC {f:FuncId}{first cap:Array Operand}(ho:o.op=.makeFunc (.func f) first cap)(h:oH T (iq.jq P T) (.makeFunc (.func f) first cap) ps lk id K):qL P C o a w σ ps st n id K:=by
 simp only[oH] at h
 split at h
 rename_i U;have J : first=#[]:=by simpa using U
 subst J;refine qL.quiet H (cv:=.func (.func f) #[] (cap.map a.eval)) ?_ ?_ h
 simp[execOp,ho,Instr.makeFunc]
 unfold Rep;refine⟨cap.toList.map a.eval,?_,wF H _⟩
 congr 1
 apply Array.ext';simp
 exact h.elim
theorem ui {P:Program}{w:World}{k:IntKind}{m:Int}:(asIntOf (.int k m)).run P w=.ok (k,m) w:=by simp[asIntOf]
include hT H hlk in
theorem ZN {t:TypeId}{x i:Operand}(ho:o.op=.indexAddr t x i)(h:oH T (iq.jq P T) (.indexAddr t x i) ps lk id K):qL P C o a w σ ps st n id K:=by
 have hx:=kW H x;have hi:=kW H i;simp only[oH] at h
 split at h
 rename_i agg size z plain esz bytes z' e;obtain⟨et,hu,rfl,_,_⟩:=mQ hT e
 have run:∀ (k:IntKind) (j len cap:Nat) (b off:Nat),a.eval i=.int k (j:Int)->a.eval x=.slice (some ⟨b,off,none⟩) len cap->j<len->P.info? et≠none ->
   (execOp a.eval o).run P w=.ok (.value (.pointer (some ⟨b,off+j*P.cellsOf et,none⟩))) w:=by
  intro k j len cap b off e1 e2 hj hinf;have:(0:Int)<=(j:Int)/\(j:Int)<(len:Int):=by omega
  simp[execOp,ho,Instr.indexAt,e1,e2,ui,kS hu,run_sizeOf hinf,this,addr_add]
 split at h
 rename_i sz es full k m hxe hie;rw[hxe] at hx;have g:=qw hi hie
 cases J:(lC (P.cellsOf et)&&Nat.beq sz (P.cellsOf et)) with
 | false=>rw[J] at h;exact h.elim
 | true=>
  rw[J] at h;rw[Bool.and_eq_true] at J;have hinf:=kU J.1;have J:=Nat.eq_of_beq_eq_true J.2;obtain⟨j,row,rfl,hrow,h⟩:=h;unfold Rep at hx;obtain⟨a',len,cap,ex,hl,hc,_,hr⟩:=hx
  have I:j<es.length:=by
   by_cases hh:j<es.length
   exact hh
   simp[List.getElem?_eq_none (Nat.le_of_not_lt hh)] at hrow
  rcases hr with hr|⟨b,off,rfl,hy,hr⟩
  rw[hr] at I;simp at I
  refine qL.quiet H (run k j len cap b off g ex ae hinf) ?_ h;unfold Rep;refine⟨b,_,rfl,hy,?_⟩;rw[<- J];exact(je.row _ _ _ _ hr hrow).2
 rename_i b r len k m hxe hie;rw[hxe] at hx;have g:=qw hi hie
 split at h
 rename_i ro sz rows hbk
 cases J:(lC (P.cellsOf et)&&Nat.beq sz (P.cellsOf et)) with
 | false=>rw[J] at h;exact h.elim
 | true=>
  rw[J] at h;rw[Bool.and_eq_true] at J;have hinf:=kU J.1;have J:=Nat.eq_of_beq_eq_true J.2;obtain⟨j,rfl,I,h⟩:=h;unfold Rep at hx;rcases hx with ⟨l,cap,hs,ex,hn,ht,hnr⟩|⟨rfl,_⟩
  have hB:=fF.zN H hlk hbk hs;unfold fF at hB;refine qL.quiet H (run k j len cap _ _ g ex I hinf) ?_ h;unfold Rep;refine⟨l,hs,?_⟩;have:l.sz=P.cellsOf et:=by rw[hB.2.1,J]
  show Value.pointer (some ⟨l.cb,l.co+r*l.sz+j*P.cellsOf et,none⟩)=Value.pointer (some ⟨l.cb,l.co+(r+j)*l.sz+0,none⟩);rw[<- this,Nat.add_mul];simp[Nat.add_assoc]
  omega
 rename_i sz rows hbk
 cases J:(lC (P.cellsOf et)&&Nat.beq sz (P.cellsOf et)) with
 | false=>rw[J] at h;exact h.elim
 | true=>
  rw[J] at h;rw[Bool.and_eq_true] at J;have hinf:=kU J.1;have J:=Nat.eq_of_beq_eq_true J.2;obtain⟨j,rfl,I,h⟩:=h;unfold Rep at hx;rcases hx with ⟨l,cap,hs,ex,hn,ht,hnr⟩|⟨rfl,_⟩
  have hB:=fF.zN H hlk hbk hs;unfold fF at hB;refine qL.quiet H (run k j len cap _ _ g ex I hinf) ?_ h;unfold Rep;refine⟨l,hs,?_⟩;have:l.sz=P.cellsOf et:=by rw[hB.2.1,J]
  show Value.pointer (some ⟨l.cb,l.co+r*l.sz+j*P.cellsOf et,none⟩)=Value.pointer (some ⟨l.cb,l.co+(r+j)*l.sz+0,none⟩);rw[<- this,Nat.add_mul];simp[Nat.add_assoc]
  omega
 rename_i sz _ _ _ hbk
 cases J:(lC (P.cellsOf et)&&Nat.beq sz (P.cellsOf et)) with
 | false=>rw[J] at h;exact h.elim
 | true=>
  rw[J] at h;rw[Bool.and_eq_true] at J;have hinf:=kU J.1;have J:=Nat.eq_of_beq_eq_true J.2;obtain⟨j,rfl,I,h⟩:=h;unfold Rep at hx;rcases hx with ⟨l,cap,hs,ex,hn,ht,hnr⟩|⟨rfl,_⟩
  have hB:=fF.zN H hlk hbk hs;unfold fF at hB;refine qL.quiet H (run k j len cap _ _ g ex I hinf) ?_ h;unfold Rep;refine⟨l,hs,?_⟩;have:l.sz=P.cellsOf et:=by rw[hB.2.1,J]
  show Value.pointer (some ⟨l.cb,l.co+r*l.sz+j*P.cellsOf et,none⟩)=Value.pointer (some ⟨l.cb,l.co+(r+j)*l.sz+0,none⟩);rw[<- this,Nat.add_mul];simp[Nat.add_assoc]
  omega
 exact h.elim
 rename_i b r c hd sz len k m hxe hie;rw[hxe] at hx;have g:=qw hi hie
 cases J:(lC (P.cellsOf et)&&Nat.beq sz (P.cellsOf et)) with
 | false=>rw[J] at h;exact h.elim
 | true=>
  rw[J] at h;rw[Bool.and_eq_true] at J;have hinf:=kU J.1;have J:=Nat.eq_of_beq_eq_true J.2;obtain⟨j,rfl,I,h⟩:=h;unfold Rep at hx;rcases hx with ⟨_,ex,hn⟩|⟨_,rfl,_⟩
  refine qL.quiet H (run k j len hd.cap _ _ g ex I hinf) ?_ h;unfold Rep;rw[<- J];rfl
  omega
 exact h.elim
 ·rename_i agg size z plain len esz ag e;obtain⟨et,hu,rfl,_,_⟩:=Q4 hT e
  cases hpos:lC (P.cellsOf et) with
  | false=>rw[hpos] at h;exact h.elim
  | true=>
  rw[hpos] at h;simp only[cond_true] at h;have hinf:=kU hpos
  have run:∀ (k:IntKind) (j:Nat) (b off:Nat),a.eval i=.int k (j:Int)->a.eval x=.pointer (some ⟨b,off,none⟩)->j<len ->
    (execOp a.eval o).run P w=.ok (.value (.pointer (some ⟨b,off+j*P.cellsOf et,none⟩))) w:=by
   intro k j b off e1 e2 hj;have:(0:Int)<=(j:Int)/\(j:Int)<(len:Int):=by omega
   simp[execOp,ho,Instr.indexAt,e1,e2,ui,kS hu,run_sizeOf hinf,this,addr_add,Instr.sureAddr]
  have fin:∀ (k:IntKind) (j:Nat),a.eval i=.int k (j:Int)->j<len->(match sK T ps x with
    | .lv b c=>K (.lv b (c+j*P.cellsOf et)) []
    | .lp b r c=>K (.lp b r (c+j*P.cellsOf et)) []
    | .pp cs=>bif Nat.ble (j*P.cellsOf et) (oq cs) then K (.pp (Hl (j*P.cellsOf et) cs)) [] else False
    | _=>False)->qL P C o a w σ ps st n id K:=by
   intro k j g hj h
   split at h
   rename_i b c hxe;rw[hxe] at hx;unfold Rep at hx;obtain⟨l,hs,ex⟩:=hx;refine qL.quiet H (run k j _ _ g ex hj) ?_ h;unfold Rep;exact⟨l,hs,by rw[Nat.add_assoc]⟩
   rename_i b r c hxe;rw[hxe] at hx;unfold Rep at hx;obtain⟨l,hs,ex⟩:=hx;refine qL.quiet H (run k j _ _ g ex hj) ?_ h;unfold Rep;exact⟨l,hs,by rw[Nat.add_assoc]⟩
   rename_i cs hxe;rw[hxe] at hx;unfold Rep at hx;obtain⟨b,off,ex,hy,hr⟩:=hx
   cases J:Nat.ble (j*P.cellsOf et) (oq cs) with
   | false=>rw[J] at h;exact h.elim
   | true=>
    rw[J] at h;refine qL.quiet H (run k j _ _ g ex hj) ?_ h;unfold Rep;rw[zL];exact⟨b,_,rfl,hy,hr.drop _ _ _⟩
   exact h.elim
  split at h
  rename_i k m hie;rw[hie] at hi
  cases J:Nat.blt m len with
  | false=>simp only[J,cond_false] at h
  | true=>
   simp only[J,cond_true] at h;exact fin k m (wG hi) (by simpa [Nat.blt_eq] using J) h
  rename_i k m hie;rw[hie] at hi;obtain⟨j,rfl,hj,h⟩:=h;exact fin k j (Wu hi) hj h
  exact h.elim
 exact h.elim
end
end Go.Pv
namespace Go.Pv
open Go
theorem abD {P:Program}{w:World}{Y:Nat->Prop}{σ:Sg}{t:TypeId}{c size:Nat}{cs:List PV}{vs:List Value}{agg:Bool}{K:PV->Prop}
  (C:P.info? t≠none) (hsize:size=P.cellsOf t) (hagg:agg=kY P t) (T:∃ d,P.underlying t=some d)
  (hr:eQ w Y σ cs vs) (h:loadRow agg size cs c K) :
  ∃ v cv,K v/\(part t vs.toArray c).run P w=.ok cv w/\Rep w Y σ v cv:=by
 obtain⟨d,hu⟩:=T;unfold loadRow at h;have hlen:=hr.length
 cases agg with
 | true=>
  simp only[cond_true] at h
  cases J:Nat.ble (c+size) (oq cs) with
  | false=>grind
  | true=>
   simp only[J,cond_true,NH,zL] at h;have hle:c+size<=cs.length:=by simp_all
   refine⟨_,.agg ((vs.drop c).take size).toArray,h,?_,?_⟩
   simp_all[part,Ky,run_sizeOf]
   unfold Rep;refine⟨_,rfl,?_⟩;clear h J hle hlen
   have drop:∀ (n:Nat) (cs:List PV) (vs:List Value),eQ w Y σ cs vs->eQ w Y σ (cs.drop n) (vs.drop n):=by
    intro n;induction n with
    | zero=>grind
    | succ n ih=>
     intro cs vs h
     cases cs with
     | nil=>grind[eQ]
     | cons c cs=>unfold eQ at h;grind
   have take:∀ (n:Nat) (cs:List PV) (vs:List Value),eQ w Y σ cs vs->eQ w Y σ (cs.take n) (vs.take n):=by
    intro n;induction n with
    | zero=>grind[eQ]
    | succ n ih=>
     intro cs vs h
     cases cs with
     | nil=>grind[eQ]
     | cons c cs=>
      unfold eQ at h;obtain⟨v,vs',rfl,h1,h2⟩:=h;simp only[List.take_succ_cons];unfold eQ;grind
   grind
 | false=>
  simp only[cond_false] at h
  cases J:Nat.blt c (oq cs) with
  | false=>grind
  | true=>
   simp only[J,cond_true] at h;have I:c<vs.length:=by simp_all
   have g:=hr.get _ _ c;rw[List.getD_eq_getElem?_getD,List.getElem?_eq_getElem I] at g;refine⟨_,vs[c],h,?_,g⟩
   simp_all[part,Ky]
def P5 (P:Program):Prop:=∀ t,P.info? t≠none->∃ d,P.underlying t=some d
section
variable {P:Program}{T:Tab}(hT:iZ P T){C:Ctx T}{o:Oper}{a:Act}{w:World}{Y:Nat->Prop}{σ:Sg}{ps:List PV}{st:St}{n id:Nat}{K:PV->Dl->Prop}{lk:Nat->Option lW}
 (H:SW C w Y σ ps a.tmps.toList st n) (hlk:∀ b x,lk b=some x->iV st b=some x) (hid:σ id=none/\T.qc<=id) (hU:P5 P)
include hT H hU in
theorem ag2 {t:TypeId}{x:Operand}{f:Nat}(ho:o.op=.field t x f)(h:oH T (iq.jq P T) (.field t x f) ps lk id K):qL P C o a w σ ps st n id K:=by
 have hc:=kW H x;simp only[oH] at h
 split at h
 rename_i fs e;obtain⟨fl,hu,rfl,_⟩:=Qo hT e
 split at h
 rename_i fd U;rw[Lu,List.getElem?_map] at U
 cases hg:fl.toList[f]? with
 | none=>simp[hg] at U
 | some g=>
  simp[hg] at U;subst U;have hg' : fl[f]?=some g:=by simpa using hg
  split at h
  rename_i cs e;rw[e] at hc
  cases hp:lC (P.cellsOf g.type) with
  | false=>simp only[hp] at h;exact h.elim
  | true=>
   simp only[hp,cond_true] at h;have J:=kU hp;unfold Rep at hc;obtain⟨vs,e',hr⟩:=hc;obtain⟨v,cv,hK,I,hrep⟩:=abD J rfl rfl (hU _ J) hr h;refine qL.quiet H (cv:=cv) ?_ hrep hK;simp[execOp,ho,Instr.field,kS hu,hg',e',asAgg,I]
  exact h.elim
 exact h.elim
 exact h.elim
include hT H hU in
theorem ag3 {t:TypeId}{x i:Operand}(ho:o.op=.index t x i)(h:oH T (iq.jq P T) (.index t x i) ps lk id K):qL P C o a w σ ps st n id K:=by
 have hx:=kW H x;have hi:=kW H i;simp only[oH] at h
 split at h
 rename_i agg size z plain s k m e hxe g;rw[hxe] at hx;have hu:=Q5 hT e;have I:=qw hi g;have hxv:=Jd hx;obtain⟨j,c,rfl,hj,h⟩:=h;refine qL.quiet H (cv:=.int .u8 c.toNat) ?_ aS h;simp[execOp,ho,Instr.index,I,hxv,ui,kS hu,hj]
 rename_i agg size z plain len esz ag cs k m e hxe g;rw[hxe] at hx;obtain⟨et,hu,rfl,rfl,_⟩:=Q4 hT e;have I:=qw hi g
 cases hp:lC (P.cellsOf et) with
 | false=>simp only[hp] at h;exact h.elim
 | true=>
  simp only[hp,cond_true] at h;have J:=kU hp;obtain⟨j,rfl,hj,h⟩:=h;unfold Rep at hx;obtain⟨vs,ex,hr⟩:=hx;obtain⟨v,cv,hK,hrun,hrep⟩:=abD J rfl rfl (hU _ J) hr h;refine qL.quiet H (cv:=cv) ?_ hrep hK;have:(0:Int)<=(j:Int)/\(j:Int)<(len:Int):=by omega
  simp[execOp,ho,Instr.index,I,ex,ui,kS hu,this,run_sizeOf J,hrun]
 exact h.elim
end
theorem bytes_beq (a b:ByteArray):(a.toList==b.toList)=decide (a=b):=by
 rw[Bool.eq_iff_iff];simp only[beq_iff_eq,decide_eq_true_eq,ByteArray.toList_eq];obtain⟨⟨x⟩⟩:=a;obtain⟨⟨y⟩⟩:=b;simp
def ceq:Nat->Value->Value->Option Bool
 | 0,.int k a,.int k' b=>if k=k' then some (a==b) else none
 | 1,.bool a,.bool b=>some (a==b)
 | 2,.string a,.string b=>some (a.toList==b.toList)
 | _,_,_=>none
def I4:List Nat->List Value->List Value->Option Bool
 | [],[],[]=>some true
 | k::ks,x::xs,y::ys=>match ceq k x y with
  | none=>none
  | some a=>match I4 ks xs ys with
   | none=>none
   | some b=>some (a&&b)
 | _,_,_=>none
theorem ajm {P:Program}{T:Tab}{w:World}{Y:Nat->Prop}{σ:Sg}{k:Nat}{p q:PV}{u v:Value}{b:Bool}(h:eqC (iq.jq P T) k p q=some b)(J:Rep w Y σ p u)(I:Rep w Y σ q v):ceq k u v=some b:=by
 unfold eqC at h
 split at h
 split at h
 rename_i k1 a k2 c h1 h2
 cases hk:uH k1 k2 with
 | false=>simp[hk] at h
 | true=>
  simp only[hk,cond_true,Option.some.injEq] at h;have:=GV hk;subst this;rw[qw J h1,qw I h2];subst h;have:(a==c)=decide (a=c):=by grind
  simp[ceq,iq.jq,AL,this]
 cases h
 split at h
 rename_i a c h1 h2;rw[OY J h1,OY I h2]
 grind[ceq,iq.jq]
 cases h
 rw[Jd J,Jd I]
 simp_all[ceq,iq.jq,gp,bytes_beq]
 cases h
theorem Yz {P:Program}{T:Tab}{w:World}{Y:Nat->Prop}{σ:Sg}:∀ (J:List Nat) (ps qs:List PV) (us vs:List Value) (b:Bool),acV (iq.jq P T) J ps qs=some b->eQ w Y σ ps us->eQ w Y σ qs vs->I4 J us vs=some b
 | [],[],[],us,vs,b,h,hp,hq=>by
  unfold eQ at hp hq;subst hp;subst hq;simp[acV] at h;subst h;rfl
 | k::J,p::ps,q::qs,us,vs,b,h,hp,hq=>by
  unfold eQ at hp hq;obtain⟨u,us,rfl,C,t⟩:=hp;obtain⟨v,vs,rfl,g,I⟩:=hq;simp only[acV] at h
  cases h1:eqC (iq.jq P T) k p q with
  | none=>grind
  | some a=>
   rw[h1] at h
   cases h2:acV (iq.jq P T) J ps qs with
   | none=>grind
   | some c=>
    rw[h2] at h;simp only[Option.some.injEq] at h;subst h;simp only[I4,ajm h1 C g,Yz J ps qs us vs c h2 t I];rfl
 | [],[],_::_,_,_,_,h,_,_|[],_::_,_,_,_,_,h,_,_|_::_,[],_,_,_,_,h,_,_|_::_,_::_,[],_,_,_,h,_,_=>by simp[acV] at h
theorem Q8:∀ (T:List Nat) (us vs:List Value) (b:Bool),I4 T us vs=some b->us.length=T.length/\vs.length=T.length
 | [],[],[],_,_=>by simp
 | k::T,u::us,v::vs,b,h=>by
  simp only[I4] at h
  cases h1:ceq k u v with
  | none=>grind
  | some a=>
   rw[h1] at h
   cases h2:I4 T us vs with
   | none=>grind
   | some c=>have:=Q8 T us vs c h2;simp[this]
 | [],[],_::_,_,h|[],_::_,_,_,h|_::_,[],_,_,h|_::_,_::_,[],_,h=>by simp[I4] at h
theorem WB:∀ (T ls:List Nat) (us vs:List Value) (b:Bool),I4 (T++ls) us vs=some b ->
  ∃ J I,I4 T (us.take T.length) (vs.take T.length)=some J/\I4 ls (us.drop T.length) (vs.drop T.length)=some I/\b=(J&&I)
 | [],ls,us,vs,b,h=>⟨true,b,by simp[I4],by simpa using h,by simp⟩
 | k::T,ls,[],vs,b,h=>by simp[I4] at h
 | k::T,ls,u::us,[],b,h=>by simp[I4] at h
 | k::T,ls,u::us,v::vs,b,h=>by
  simp only[List.cons_append,I4] at h
  cases h1:ceq k u v with
  | none=>grind
  | some a=>
   rw[h1] at h
   cases h2:I4 (T++ls) us vs with
   | none=>grind
   | some c=>
    rw[h2] at h;simp only[Option.some.injEq] at h;obtain⟨J,I,e1,t,C⟩:=WB T ls us vs c h2
    grind[I4]
def valOf (P:Program)(t:TypeId)(us:List Value):Value:=if kY P t then .agg us.toArray else us.headD Go.undef
theorem LC {P:Program}{w:World}{t:TypeId}(I:P.info? t≠none)(T:∃ d,P.underlying t=some d){us:List Value}{c s:Nat}(hs:s=P.cellsOf t)(hle:c+s<=us.length)(h1:kY P t=false->s=1) :
  (part t us.toArray c).run P w=.ok (valOf P t ((us.drop c).take s)) w:=by
 obtain⟨d,hu⟩:=T;simp only[part,Sem.run_bind,Ky hu,Result.andThen];unfold valOf
 cases C:kY P t with
 | true=>
  simp_all[run_sizeOf]
 | false=>
  have:=h1 C;subst this;have J:c<us.length:=by omega
  simp only[Bool.false_eq_true,if_false];rw[show us.toArray[c]?=some us[c] by simp[J]];have:(us.drop c).take 1=[us[c]]:=by rw[List.drop_eq_getElem_cons J];rfl
  simp[this]
theorem YA {P:Program}:∀ (d:Nat) (t:TypeId) (T:List Nat),xU P d t=some T->kY P t=false->T.length=1
 | 0,_,_,h,_=>by simp[xU] at h
 | d+1,t,T,h,ha=>by
  grind[xU,kY]
theorem U0:∀ (n:Nat) (l:List Nat),(acW n l).length=n*l.length
 | 0,l=>by simp[acW]
 | n+1,l=>by simp[acW,U0 n l,Nat.add_mul];omega
theorem JQ {P:Program}(g:P5 P):∀ (d:Nat) (t:TypeId) (I:List Nat),xU P d t=some I->∀ (D:Nat),d<=D->∀ (us vs:List Value) (b:Bool),I4 I us vs=some b ->
  ∀ w,(Op.equalIn D t (valOf P t us) (valOf P t vs)).run P w=.ok b w
 | 0,_,_,h=>by simp[xU] at h
 | d+1,t,I,h=>by
  intro D hD us vs b J w;obtain⟨D,rfl⟩:∃ D',D=D'+1:=⟨D-1,by omega⟩;have hD:d<=D:=by omega
  unfold xU at h
  have one:∀ k,I=[k]->∃ u v,us=[u]/\vs=[v]/\ceq k u v=some b:=by
   intro k e;subst e;have hl:=Q8 _ _ _ _ J
   match us,vs,hl with
   | [u],[v],_=>
    simp only[I4] at J
    grind
  split at h
  rename_i hu;cases h;obtain⟨u,v,rfl,rfl,hc⟩:=one 1 rfl;have:kY P t=false:=by simp[kY,hu]
  simp only[valOf,this,Bool.false_eq_true,if_false,List.headD_cons];unfold ceq at hc
  grind[run_equalIn_bool']
  rename_i k hu;cases h;obtain⟨u,v,rfl,rfl,hc⟩:=one 0 rfl;have:kY P t=false:=by simp[kY,hu]
  simp only[valOf,this,Bool.false_eq_true,if_false,List.headD_cons];unfold ceq at hc
  grind[run_equalIn_int]
  rename_i hu;cases h;obtain⟨u,v,rfl,rfl,hc⟩:=one 2 rfl;have:kY P t=false:=by simp[kY,hu]
  simp only[valOf,this,Bool.false_eq_true,if_false,List.headD_cons];unfold ceq at hc
  grind[run_equalIn_string]
  rename_i fs hu
  cases hst:P.stoodInHeld t with
  | true=>grind
  | false=>
   simp only[hst,Bool.false_eq_true,if_false] at h;have C:kY P t=true:=by simp[kY,hu]
   simp only[valOf,C,if_true];have U:P.fieldsOf t=fs:=by simp[Program.fieldsOf,hu]
   rw[run_equalIn_struct w D t _ _ ai hst,U]
   have key:∀ (l:List Field) (off:Nat) (I:List Nat) (b:Bool),OX P (xU P d) l off=some I->I4 I (us.drop off) (vs.drop off)=some b ->
     (Op.eqFields D us.toArray vs.toArray l).run P w=.ok b w:=by
    intro l
    induction l with
    | nil=>
     intro off I b h J;simp[OX] at h;subst h
     have hb' : b=true:=by
      grind[I4]
     simp_all[Op.eqFields]
    | cons f l ih=>
     intro off I b h J;unfold OX at h
     split at h
     rename_i hc;obtain⟨ho,hn,hi⟩:=hc
     cases hs:xU P d f.type with
     | none=>grind
     | some s=>
      rw[hs] at h;simp only at h
      split at h
      rename_i hsz0;obtain⟨hsz,hpos⟩:=hsz0
      cases hr:OX P (xU P d) l (off+s.length) with
      | none=>grind
      | some r=>
       rw[hr] at h;simp only[Option.some.injEq] at h;subst h;obtain⟨b1,b2,e1,e2,rfl⟩:=WB _ _ _ _ _ J;rw[List.drop_drop,List.drop_drop] at e2;have hl:=Q8 _ _ _ _ e1
       have hle1:off+s.length<=us.length:=by
        grind
       have hle2:off+s.length<=vs.length:=by
        grind
       have T:kY P f.type=false->s.length=1:=λC=>YA d _ _ hs C;subst ho;simp only[Op.eqFields,ne_eq,hn,not_false_eq_true,if_true,Sem.run_bind];rw[LC hi (g _ hi) hsz.symm hle1 T];simp only[Result.andThen];rw[LC hi (g _ hi) hsz.symm hle2 T];simp only[Result.andThen];rw[JQ g d f.type s hs D hD _ _ b1 e1 w];simp only[Result.andThen];cases b1
       simp
       grind
      cases h
     cases h
   grind
  ·rename_i n e hu
   cases hs:xU P d e with
   | none=>grind
   | some s=>
    rw[hs] at h;simp only at h
    split at h
    ·rename_i hc;obtain⟨hsz,hi⟩:=hc;simp only[Option.some.injEq] at h;subst h;have C:kY P t=true:=by simp[kY,hu]
     simp only[valOf,C,if_true]
     cases hinf:P.info? e with
     | none=>grind
     | some inf=>
     rw[run_equalIn_array w D us.toArray vs.toArray hu hinf];have T:kY P e=false->s.length=1:=λC=>YA d _ _ hs C;have hl:=Q8 _ _ _ _ J;rw[U0] at hl
     have key:∀ (m i:Nat) (b:Bool),i+m=n->I4 (acW m s) (us.drop (i*s.length)) (vs.drop (i*s.length))=some b ->
       (Op.eqItems D e (P.cellsOf e) us.toArray vs.toArray (List.range' i m)).run P w=.ok b w:=by
      intro m
      induction m with
      | zero=>
       intro i b _ J
       have hb' : b=true:=by
        grind[I4]
       simp_all[Op.eqItems]
      | succ m ih=>
       intro i b him J;simp only[acW] at J;obtain⟨b1,b2,e1,e2,rfl⟩:=WB _ _ _ _ _ J;rw[List.drop_drop,List.drop_drop] at e2
       have hb1:i*s.length+s.length<=n*s.length:=by
        grind[Nat.add_mul]
       simp only[List.range'_succ,Op.eqItems,Sem.run_bind,hsz];rw[LC hi (g _ hi) hsz.symm ae T];simp only[Result.andThen];rw[LC hi (g _ hi) hsz.symm ae T];simp only[Result.andThen];rw[JQ g d e s hs D hD _ _ b1 e1 w];simp only[Result.andThen];cases b1
       simp
       grind
     grind[List.range_eq_range']
    cases h
  cases h
end Go.Pv
namespace Go.Pv
open Go
section
variable {P:Program}{T:Tab}(hT:iZ P T){C:Ctx T}{o:Oper}{a:Act}{w:World}{Y:Nat->Prop}{σ:Sg}{ps:List PV}{st:St}{n id:Nat}{K:PV->Dl->Prop}{lk:Nat->Option lW}
 (H:SW C w Y σ ps a.tmps.toList st n) (hlk:∀ b x,lk b=some x->iV st b=some x) (hid:σ id=none/\T.qc<=id) (hU:P5 P)
theorem Q9 {P:Program}{w:World}{op:BinOp}{t:TypeId}{x y:Operand}{u v:Value}(h:∀ cs,u≠.agg cs)(h2:u≠.nilIface):(eqGuard op t x y u v).run P w=.ok () w:=by
 have e:eqGuard op t x y u v=pure ():=by
  cases u<;>first|exact absurd rfl (h _)|exact absurd rfl h2|(cases op<;>rfl)
 rw[e];simp
theorem XZ {P:Program}{w:World}{op:BinOp}{t:TypeId}{k:IntKind}{m c:Int}(h:I8 op=true):(binOp op t (.int k m) (.int k c)).run P w=.ok (.int k (iM op k m c)) w:=by
 cases op<;>simp[I8] at h<;>simp[binOp,Op.intArith,Op.intBits,iM]
theorem abE {P:Program}{w:World}{op:BinOp}{t:TypeId}{k:IntKind}{m c:Int}(h:NF op=true):(binOp op t (.int k m) (.int k c)).run P w=.ok (.bool (AL op m c)) w:=by
 have e:(m==c)=decide (m=c):=by grind
 cases op<;>simp[NF] at h<;>simp[binOp,Op.intCmp,AL,e,bne]
theorem ag4 {P:Program}{w:World}{t:TypeId}{b c:Bool}(hu:P.underlying t=some .bool) :
  (binOp .eql t (.bool b) (.bool c)).run P w=.ok (.bool (b==c)) w/\(binOp .neq t (.bool b) (.bool c)).run P w=.ok (.bool (!(b==c))) w:=by
 simp_all[binOp,run_equal_bool]
theorem ac4 {P:Program}{t:TypeId}:∀ {d:Nat},xU P d t=some [1]->kY P t=false->P.underlying t=some .bool
 | 0,h,_=>by simp[xU] at h
 | d+1,h,ha=>by
  grind[xU,kY]
theorem ajn {P:Program}{w:World}{t e:TypeId}{p q:Option Addr}(hu:P.underlying t=some (.pointer e))(h:p=none\/q=none) :
  (binOp .eql t (.pointer p) (.pointer q)).run P w=.ok (.bool (p.isNone&&q.isNone)) w/\(binOp .neq t (.pointer p) (.pointer q)).run P w=.ok (.bool (!(p.isNone&&q.isNone))) w:=by
 have key:(Op.equal t (.pointer p) (.pointer q)).run P w=.ok (p.isNone&&q.isNone) w:=by
  unfold Op.equal Op.maxDepth;unfold Op.equalIn;simp only[Sem.run_bind,kS hu,Result.andThen];rcases h with rfl|rfl
  cases q<;>simp
  cases p<;>simp
 simp_all[binOp]
theorem ZO {P:Program}{w:World}{t e:TypeId}{x:Option Addr}{len cap:Nat}(hu:P.underlying t=some (.slice e)) :
  (binOp .eql t (.slice x len cap) (.slice none 0 0)).run P w=.ok (.bool x.isNone) w/\(binOp .neq t (.slice x len cap) (.slice none 0 0)).run P w=.ok (.bool (!x.isNone)) w:=by
 have key:(Op.equal t (.slice x len cap) (.slice none 0 0)).run P w=.ok x.isNone w:=by
  unfold Op.equal Op.maxDepth;unfold Op.equalIn;simp only[Sem.run_bind,kS hu,Result.andThen];cases x<;>simp
 simp_all[binOp]
theorem ajo {x:Operand}(h:acX x=true):x=.const (.slice none 0 0):=by
 grind[acX]
include hT H hU in
theorem ajp {op:BinOp}{t u:TypeId}{x y:Operand}(ho:o.op=.binOp op t x y u)(hy:acX y=true)(h:oH T (iq.jq P T) (.binOp op t x y u) ps lk id K):qL P C o a w σ ps st n id K:=by
 have hx:=kW H x;have hy':=ajo hy;subst hy';simp only[oH] at h;rw[hy] at h;simp only at h
 split at h
 rename_i agg size z plain sz bytes z' e;obtain⟨el,hu,_⟩:=mQ hT e
 have key:∀ (ad:Option Addr) (len cap:Nat),a.eval x=.slice ad len cap->eqL op ad.isNone (λv=>K v [])->qL P C o a w σ ps st n id K:=by
  intro ad len cap I J;have g:a.eval (.const (.slice none 0 0))=.slice none 0 0:=rfl;obtain⟨r1,r2⟩:=ZO (P:=P) (w:=w) (x:=ad) (len:=len) (cap:=cap) hu;have n1:∀ cs,a.eval x≠.agg cs:=by rw[I];intro cs e;cases e
  have n2:a.eval x≠.nilIface:=by rw[I];intro e;cases e
  have fin:∀ {v:PV} {cv:Value},(binOp op t (a.eval x) (a.eval (.const (.slice none 0 0)))).run P w=.ok cv w->Rep w Y σ v cv->K v []->qL P C o a w σ ps st n id K:=by
   intro v cv hr hv hK;refine qL.quiet H (cv:=cv) ?_ hv hK;simp[execOp,ho,Q9 n1 n2,hr]
  unfold eqL at J
  cases g1:UO op with
  | true=>
   rw[g1] at J;have:op=.eql:=by cases op<;>simp[UO] at g1<;>rfl
   subst this;exact fin (by rw[I,g];exact r1) aS J
  | false=>
   rw[g1] at J
   cases g2:UQ op with
   | true=>
    rw[g2] at J;have:op=.neq:=by cases op<;>simp[UQ] at g2<;>rfl
    subst this
    cases hn:ad.isNone with
    | true=>rw[hn] at J r2;exact fin (by rw[I,g];exact r2) aS J
    | false=>rw[hn] at J r2;exact fin (by rw[I,g];exact r2) aS J
   | false=>rw[g2] at J;exact J.elim
 split at h
 rename_i sz' es full hp;rw[hp] at hx;unfold Rep at hx;obtain⟨ad,len,cap,I,hl,_,_,hes⟩:=hx
 have J:=h ad.isNone (λhn=>by
  rcases hes with h|⟨b,o',e,_⟩
  exact h
  rw[e] at hn;cases hn)
 exact key ad len cap I J
 rename_i b0 r0 n0 hp;rw[hp] at hx;unfold Rep at hx
 split at h
 rcases hx with ⟨l,cap,_,I,_⟩|⟨rfl,ad,I⟩
 exact key _ _ _ I (h false (λe=>by cases e))
 exact key _ _ _ I (h ad.isNone (λ_=>by simp[iq.jq]))
 exact h.elim
 exact h.elim
 exact h.elim
include hT H hU in
theorem ag5 {op:BinOp}{t u:TypeId}{x y:Operand}(ho:o.op=.binOp op t x y u)(h:oH T (iq.jq P T) (.binOp op t x y u) ps lk id K):qL P C o a w σ ps st n id K:=by
 cases hnil:acX y with
 | true=>exact ajp hT H hU ho hnil h
 | false=>
 have hx:=kW H x;have hy:=kW H y;simp only[oH] at h;rw[hnil] at h;simp only at h;generalize sK T ps x=p at hx h;generalize sK T ps y=q at hy h
 have fin:∀ {v:PV} {cv:Value},(∀ cs,a.eval x≠.agg cs)->a.eval x≠.nilIface->(binOp op t (a.eval x) (a.eval y)).run P w=.ok cv w->Rep w Y σ v cv->K v []->qL P C o a w σ ps st n id K:=by
  intro v cv h1 h2 hr hv hK;refine qL.quiet H (cv:=cv) ?_ hv hK;simp[execOp,ho,Q9 h1 h2,hr]
 have special:∀ {k k' : IntKind} {m c:Int},a.eval x=.int k m->a.eval y=.int k' c->XW (iq.jq P T) op k m k' c (λv=>K v [])->qL P C o a w σ ps st n id K:=by
  intro k k' m c e1 J h;have n1:∀ cs,a.eval x≠.agg cs:=by rw[e1];intro cs e;cases e
  have n2:a.eval x≠.nilIface:=by rw[e1];intro e;cases e
  unfold XW at h
  split at h
  obtain⟨h0,h⟩:=h;refine fin n1 n2 ?_ dm h;rw[e1,J];have:¬ c<0:=by omega
  simp[binOp,Op.shift,this]
  obtain⟨h0,h⟩:=h;refine fin n1 n2 ?_ dm h;rw[e1,J];have:¬ c<0:=by omega
  simp[binOp,Op.shift,this]
  cases hk:uH k k' with
  | false=>rw[hk] at h;exact h.elim
  | true=>
   rw[hk] at h;have:=GV hk;subst this;obtain⟨h0,h⟩:=h;refine fin n1 n2 ?_ dm h;rw[e1,J];simp[binOp,Op.intDiv,h0]
  cases hk:uH k k' with
  | false=>rw[hk] at h;exact h.elim
  | true=>
   rw[hk] at h;have:=GV hk;subst this;obtain⟨h0,h⟩:=h;refine fin n1 n2 ?_ dm h;rw[e1,J];simp[binOp,Op.intDiv,h0]
  exact h.elim
 have g:∀ {k k' : IntKind} {m c:Int} (mk:Int->PV) (mb:Bool->PV),(∀ v,Rep w Y σ (mk v) (.int k v))->(∀ b,Rep w Y σ (mb b) (.bool b))->a.eval x=.int k m->a.eval y=.int k' c ->
   (bif isSpec op then XW (iq.jq P T) op k m k' c (λv=>K v []) else bif uH k k' then(bif I8 op then K (mk (iM op k m c)) [] else bif NF op then K (mb (AL op m c)) [] else False) else False)->qL P C o a w σ ps st n id K:=by
  intro k k' m c mk mb h1 h2 e1 J h
  cases hs:isSpec op with
  | true=>rw[hs] at h;exact special e1 J h
  | false=>
  rw[hs] at h;simp only[cond_false] at h
  cases hk:uH k k' with
  | false=>rw[hk] at h;exact h.elim
  | true=>
   rw[hk] at h;have:=GV hk;subst this;simp only[cond_true] at h;have n1:∀ cs,a.eval x≠.agg cs:=by rw[e1];intro cs e;cases e
   have n2:a.eval x≠.nilIface:=by rw[e1];intro e;cases e
   cases ha:I8 op with
   | true=>
    rw[ha] at h;exact fin n1 n2 (by rw[e1,J];exact XZ ha) (h1 _) h
   | false=>
    rw[ha] at h
    cases hc:NF op with
    | true=>
     rw[hc] at h;exact fin n1 n2 (by rw[e1,J];exact abE hc) (h2 _) h
    | false=>rw[hc] at h;exact h.elim
 have eqs:∀ {b:Bool},(∀ {v:PV} {cv:Value},(binOp op t (a.eval x) (a.eval y)).run P w=.ok cv w->Rep w Y σ v cv->K v []->qL P C o a w σ ps st n id K) ->
   (binOp .eql t (a.eval x) (a.eval y)).run P w=.ok (.bool b) w->(binOp .neq t (a.eval x) (a.eval y)).run P w=.ok (.bool (!b)) w->eqK (iq.jq P T) op b (λv=>K v [])->qL P C o a w σ ps st n id K:=by
  intro b fin e1 J I;unfold eqK at I
  cases h1:UO op with
  | true=>
   rw[h1] at I;have:op=.eql:=by cases op<;>simp[UO] at h1<;>rfl
   subst this;exact fin e1 aS I
  | false=>
   rw[h1] at I
   cases h2:UQ op with
   | true=>
    rw[h2] at I;have:op=.neq:=by cases op<;>simp[UQ] at h2<;>rfl
    subst this;exact fin J bT I
   | false=>rw[h2] at I;exact I.elim
 split at h
 rename_i ti agg size z plain kind e;unfold agA at h
 split at h
 exact g (λv=>.int _ v) (λb=>.bool b) (λv=>by simp[Rep]) (λb=>by simp[Rep]) (wG hx) (wG hy) h
 rename_i s1 s2;have e1:=Jd hx;have J:=Jd hy;have n1:∀ cs,a.eval x≠.agg cs:=by rw[e1];intro cs e;cases e
 have n2:a.eval x≠.nilIface:=by rw[e1];intro e;cases e
 cases h1:isAdd op with
 | true=>
  rw[h1] at h;have:op=.add:=by cases op<;>simp[isAdd] at h1<;>rfl
  subst this;obtain⟨hle,h⟩:=h;refine fin n1 n2 (cv:=.string (s1++s2)) ?_ aS h;rw[e1,J]
  have hb:¬ (((s1.size+s2.size:Nat):Int) > IntKind.i64.max):=by
   have:IntKind.i64.max=9223372036854775807:=by decide
   rw[this];omega
  simp only[binOp,Op.stringOp];rw[if_neg hb];simp
 | false=>
  rw[h1] at h
  cases h2:NF op with
  | true=>
   rw[h2] at h;refine fin n1 n2 (cv:=.bool (gp op s1 s2)) ?_ dm h;rw[e1,J];cases op<;>simp[NF] at h2<;>simp[binOp,Op.stringOp,gp,bytes_beq]
  | false=>rw[h2] at h;exact h.elim
 rename_i xs ys
 split at h
 rename_i size z ks kind e
 split at h
 rename_i b hb;obtain⟨i,d,h1,h2,h3,h4,h5,h6,h7,h8⟩:=wU hT e rfl;simp only at h7 h4
 have hg:P.eqGuardType P.depth t=false:=by
  cases hg:P.eqGuardType P.depth t with
  | true=>rw[hg] at h7;simp at h7
  | false=>rfl
 rw[hg] at h7;simp only[Bool.false_eq_true,if_false] at h7;unfold Rep at hx hy;obtain⟨us,e1,hu⟩:=hx;obtain⟨vs,J,hv⟩:=hy;have hc:=Yz ks xs ys us vs b hb hu hv;have heq:=JQ hU 20 t ks h7.symm 10000 ae us vs b hc w;rw[show valOf P t us=.agg us.toArray by simp[valOf,<- h4],show valOf P t vs=.agg vs.toArray by simp[valOf,<- h4]] at heq;refine eqs (b:=b) (λ{v cv} hr hv hK=>qL.quiet H (cv:=cv) ?_ hv hK) ?_ ?_ h
 rw[e1,J] at hr;simp[execOp,ho,e1,J,run_eqGuard_agg w op t x y us.toArray vs.toArray hg,hr]
 rw[e1,J,run_eql_struct,heq];rfl
 rw[e1,J,run_neq_struct,heq];rfl
 exact h.elim
 exact h.elim
 split at h
 rename_i k m k' c h1 h2;exact g (λv=>.si _ v) (λb=>.sb b) (λv=>by simp[Rep]) (λb=>by simp[Rep]) (qw hx h1) (qw hy h2) h
 split at h
 rename_i b c h1 h2;have e1:=OY hx h1;have J:=OY hy h2;have n1:∀ cs,a.eval x≠.agg cs:=by rw[e1];intro cs e;cases e
 have n2:a.eval x≠.nilIface:=by rw[e1];intro e;cases e
 split at h
 rename_i size2 z2 kind2 e3;obtain⟨i,d,g1,g2,g3,g4,g5,g6,g7,g8⟩:=wU hT e3 rfl;simp only at g7 g4
 have hg:P.eqGuardType P.depth t=false:=by
  cases hg:P.eqGuardType P.depth t with
  | true=>rw[hg] at g7;simp at g7
  | false=>rfl
 rw[hg] at g7;simp only[Bool.false_eq_true,if_false] at g7;have hu:=ac4 g7.symm g4.symm;obtain⟨r1,r2⟩:=ag4 (P:=P) (w:=w) (b:=b) (c:=c) hu;exact eqs (b:=b==c) (λ{v cv} hr hv hK=>fin n1 n2 hr hv hK) (by rw[e1,J];exact r1) (by rw[e1,J];exact r2) h
 exact h.elim
 split at h
 rename_i agg2 size2 z2 plain2 e3;obtain⟨e,hu⟩:=ajk hT e3
 have V7:∀ (r:PV) (v:Value),JL r=true->Rep w Y σ r v->v=.pointer none:=by
  intro r v h1 h2;cases r<;>simp[JL] at h1;unfold Rep at h2;exact h2
 have ptrq:∀ (r:PV) (v:Value),TB r=true->Rep w Y σ r v->∃ x,v=.pointer (some x):=by
  intro r v h1 h2;cases r<;>simp[TB] at h1<;>unfold Rep at h2
  obtain⟨_,_,e⟩:=h2;exact⟨_,e⟩
  obtain⟨_,_,e⟩:=h2;exact⟨_,e⟩
  obtain⟨_,_,e,_⟩:=h2;exact⟨_,e⟩
  exact⟨_,h2⟩
 have go:∀ (p' q' : Option Addr) (b:Bool),a.eval x=.pointer p'->a.eval y=.pointer q'->(p'=none\/q'=none)->(p'.isNone&&q'.isNone)=b->eqL op b (λv=>K v [])->qL P C o a w σ ps st n id K:=by
  intro p' q' b e1 J hn hb I;have n1:∀ cs,a.eval x≠.agg cs:=by rw[e1];intro cs e;cases e
  have n2:a.eval x≠.nilIface:=by rw[e1];intro e;cases e
  obtain⟨r1,r2⟩:=ajn (P:=P) (w:=w) hu hn;rw[hb] at r1 r2;clear h;unfold eqL at I
  cases g1:UO op with
  | true=>
   rw[g1] at I;have:op=.eql:=by cases op<;>simp[UO] at g1<;>rfl
   subst this;exact fin n1 n2 (by rw[e1,J];exact r1) aS I
  | false=>
   rw[g1] at I
   cases g2:UQ op with
   | true=>
    rw[g2] at I;have:op=.neq:=by cases op<;>simp[UQ] at g2<;>rfl
    subst this
    cases b with
    | true=>exact fin n1 n2 (by rw[e1,J];exact r2) aS I
    | false=>exact fin n1 n2 (by rw[e1,J];exact r2) aS I
   | false=>rw[g2] at I;exact I.elim
 cases c1:(JL p&&JL q) with
 | true=>
  rw[c1] at h;rw[Bool.and_eq_true] at c1;exact go none none true (V7 _ _ c1.1 hx) (V7 _ _ c1.2 hy) (.inl rfl) rfl h
 | false=>
  rw[c1] at h;simp only[cond_false] at h
  cases c2:((JL p&&TB q) || (TB p&&JL q)) with
  | true=>
   rw[c2] at h;rw[Bool.or_eq_true,Bool.and_eq_true,Bool.and_eq_true] at c2;rcases c2 with ⟨d1,d2⟩|⟨d1,d2⟩
   obtain⟨z,ez⟩:=ptrq _ _ d2 hy;exact go none (some z) false (V7 _ _ d1 hx) ez (.inl rfl) rfl h
   obtain⟨z,ez⟩:=ptrq _ _ d1 hx;exact go (some z) none false ez (V7 _ _ d2 hy) (.inr rfl) rfl h
  | false=>rw[c2] at h;exact h.elim
 exact h.elim
 exact h.elim
end
end Go.Pv
