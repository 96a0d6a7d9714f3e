import Derived.Laws.StructEq
import Derived.ChangeKeysEq
import Derived.Test.YtchmoabpofnbaaaGreatC00
set_option linter.all false
namespace Go.Pv
open Go
theorem wz {P:Program}{T:Tab}(hT:jq P T){t:TypeId}{x:TI}(h:T t=x)(ok:x.ok=true) :
  ∃ i d,P.info? t=some i/\P.underlying t=some d/\x=ad2 P t/\x.agg=lK P t/\x.size=i.size/\x.zero=GZ P t /\
   x.plain=(if P.eqGuardType P.depth t then none else xm P 20 t) /\
   x.kind=(match d with
    | .struct U=>TK.struct (U.toList.map λf=>{ off:=f.offset,size:=P.cellsOf f.type,agg:=lK P f.type })
    | .array n e=>.arr n (P.cellsOf e) (lK P e)
    | .slice e=>.slice (P.cellsOf e) (P.bytesOf e) (GZ P e)
    | .int k=>.int k
    | .string=>.str
    | .pointer _=>.ptr
    | .map k e=>O9 P k e
    | _=>.oth):=by
 have e:=(hT t (by rw[h];exact ok)).1;rw[h] at e;subst h;unfold ad2 at e
 split at e
 rename_i i d h1 h2;rw[e];refine⟨i,d,h1,h2,?_,rfl,rfl,rfl,rfl,rfl⟩;unfold ad2;rw[h1,h2]
 rw[e] at ok;simp[TI.bad] at ok
theorem Oq {P:Program}{T:Tab}(hT:jq P T){t:TypeId}{agg:Bool}{plain:Option (List Nat)}{size:Nat}{z:Option (List PV)}{I:List FI}
  (h:T t=⟨true,agg,size,z,plain,.struct I⟩):∃ J,P.underlying t=some (.struct J)/\I=(J.toList.map λf=>{ off:=f.offset,size:=P.cellsOf f.type,agg:=lK P f.type })/\z=GZ P t:=by
 obtain⟨i,d,h1,h2,g,h4,h5,C,h7,U⟩:=wz hT h rfl;cases d<;>simp at U
 case map k e=>unfold O9 at U;split at U<;>cases U
 rename_i J;exact⟨J,h2,U,C⟩
theorem nJ {P:Program}{T:Tab}(hT:jq P T){t:TypeId}{agg:Bool}{plain:Option (List Nat)}{size sz bytes:Nat}{z J : Option (List PV)}
  (h:T t=⟨true,agg,size,z,plain,.slice sz bytes J⟩):∃ e,P.underlying t=some (.slice e)/\sz=P.cellsOf e/\bytes=P.bytesOf e/\J=GZ P e:=by
 obtain⟨i,d,h1,h2,C,h4,h5,I,g,U⟩:=wz hT h rfl;cases d<;>simp at U
 case map k e=>unfold O9 at U;split at U<;>cases U
 rename_i e;exact⟨e,h2,U.1,U.2.1,U.2.2⟩
theorem Ph {P:Program}{T:Tab}(hT:jq P T){t:TypeId}{agg J:Bool}{plain:Option (List Nat)}{size n sz:Nat}{z:Option (List PV)}
  (h:T t=⟨true,agg,size,z,plain,.arr n sz J⟩):∃ e,P.underlying t=some (.array n e)/\sz=P.cellsOf e/\J=lK P e/\z=GZ P t:=by
 obtain⟨i,d,h1,h2,C,h4,h5,I,g,U⟩:=wz hT h rfl;cases d<;>simp at U
 case map k e=>unfold O9 at U;split at U<;>cases U
 rename_i m e;obtain⟨rfl,U⟩:=U;exact⟨e,h2,U.1,U.2,I⟩
theorem af7 {P:Program}{T:Tab}(hT:jq P T){t:TypeId}{agg:Bool}{plain:Option (List Nat)}{size:Nat}{z:Option (List PV)}{k:IntKind}
  (h:T t=⟨true,agg,size,z,plain,.int k⟩):P.underlying t=some (.int k):=by
 obtain⟨i,d,h1,h2,I,g,h5,J,C,U⟩:=wz hT h rfl;cases d<;>simp at U
 case map k e=>unfold O9 at U;split at U<;>cases U
 subst U;exact h2
theorem Pj {P:Program}{T:Tab}(hT:jq P T){t:TypeId}{agg:Bool}{plain:Option (List Nat)}{size:Nat}{z:Option (List PV)}
  (h:T t=⟨true,agg,size,z,plain,.str⟩):P.underlying t=some .string:=by
 obtain⟨i,d,h1,h2,I,g,h5,J,C,U⟩:=wz hT h rfl;cases d<;>simp at U
 case map k e=>unfold O9 at U;split at U<;>cases U
 exact h2
theorem af8 {P:Program}{T:Tab}(hT:jq P T){t:TypeId}{agg:Bool}{plain:Option (List Nat)}{size:Nat}{z:Option (List PV)}
  (h:T t=⟨true,agg,size,z,plain,.ptr⟩):∃ e,P.underlying t=some (.pointer e):=by
 obtain⟨i,d,h1,h2,I,g,h5,J,C,U⟩:=wz hT h rfl;cases d<;>simp at U
 case map k e=>unfold O9 at U;split at U<;>cases U
 exact⟨_,h2⟩
theorem UG {P:Program}{T:Tab}(hT:jq P T){t:TypeId}{agg:Bool}{plain:Option (List Nat)}{size:Nat}{z:Option (List PV)}{k:TK}
  (h:T t=⟨true,agg,size,z,plain,k⟩):P.info? t≠none/\size=P.cellsOf t/\agg=lK P t/\∃ d,P.underlying t=some d:=by
 obtain⟨i,d,h1,h2,C,U,h5,I,g,J⟩:=wz hT h rfl;refine⟨by rw[h1];simp,?_,U,d,h2⟩;simp[Program.cellsOf,h1];exact h5
theorem JA:∀ (l:List FI) (n:Nat),G5 l n=l[n]?
 | [],n=>by simp[G5]
 | f::l,0=>by simp[G5]
 | f::l,n+1=>by simp[G5,JA l n]
theorem run_sizeOf {P:Program}{w:World}{t:TypeId}(h:P.info? t≠none):(sizeOf t).run P w=.ok (P.cellsOf t) w:=by
 cases hi:P.info? t with
 | none=>exact absurd hi h
 | some i=>simp[sizeOf,typeInfo,program,Sem.run,Result.andThen,hi,Program.cellsOf]
theorem I5 {P:Program}{w:World}{t:TypeId}{d:TypeDesc}(h:P.underlying t=some d):(isAgg t).run P w=.ok (lK P t) w:=by
 have hu:(underlying t).run P w=.ok d w:=by simp[underlying,program,Sem.run,Result.andThen,h]
 simp only[isAgg,lK,h,Sem.run_bind,hu,Result.andThen];cases d<;>simp
theorem lh {P:Program}{w:World}{t:TypeId}{d:TypeDesc}(h:P.underlying t=some d):(underlying t).run P w=.ok d w:=by
 simp[underlying,program,Sem.run,Result.andThen,h]
theorem lu {P:Program}{t:TypeId}(h:lX (P.cellsOf t)=true):P.info? t≠none:=by
 intro h0;have:P.cellsOf t=0:=by simp[Program.cellsOf,h0]
 rw[this] at h;simp[lX] at h
theorem Zt {P:Program}{w:World}{x:Addr}{v:Value}(h:w.cell? x=some v):(load x).run P w=.ok v w:=by
 simp[load,Sem.run,h]
theorem addr_add (b o n:Nat):(⟨b,o,none⟩:Addr).add n=⟨b,o+n,none⟩:=by
 unfold Addr.add
 split<;>simp[*]
theorem Dh {P:Program}{w:World}{b o:Nat}:∀ (vs:List Value) (i:Nat) (acc:Array Value),(∀ j v,vs[j]?=some v->w.cell? ⟨b,o+(i+j),none⟩=some v) ->
  (loadCellsFrom ⟨b,o,none⟩ i vs.length acc).run P w=.ok (acc++vs.toArray) w
 | [],i,acc,_=>by simp[loadCellsFrom]
 | v::vs,i,acc,h=>by
  have h0:=h 0 v rfl;simp only[List.length_cons,loadCellsFrom,Sem.run_bind,addr_add];rw[Zt (by simpa using h0)];simp only[Result.andThen]
  rw[Dh vs (i+1) (acc.push v) (λj u hu=>by
   have:=h (j+1) u (by simpa using hu);rw[show i+1+j=i+(j+1) by omega];exact this)]
  simp
section
variable {P:Program}{T:Tab}(hT:jq P T){C:Ctx T}{o:Oper}{a:Act}{w:World}{Y:Nat->Prop}{σ:Sg}{ps:List PV}{st:St}{n id:Nat}{K:PV->Dl->Prop}{lk:Nat->Option mO}
 (H:SW C w Y σ ps a.tmps.toList st n) (hlk:∀ b x,lk b=some x->jk st b=some x) (hid:σ id=none/\T.qf<=id)
include hT H in
theorem XJ {t:TypeId}{x:Operand}{f:Nat}(ho:o.op=.fieldAddr t x f)(h:oO T (iW.jI P T) (.fieldAddr t x f) ps lk id K):qG P C o a w σ ps st n id K:=by
 have hc:=lD H x;simp only[oO] at h
 split at h
 rename_i fs e;obtain⟨fl,hu,rfl,_⟩:=Oq hT e
 split at h
 rename_i fd O;rw[JA,List.getElem?_map] at O
 cases hg:fl.toList[f]? with
 | none=>simp[hg] at O
 | some g=>
  simp[hg] at O;subst O;have hg' : fl[f]?=some g:=by simpa using hg
  cases hp:lX (P.cellsOf g.type) with
  | false=>simp only[hp] at h;exact h.elim
  | true=>
   simp only[hp] at h;have U:P.cellsOf g.type≠0:=by intro h0;rw[h0] at hp;simp[lX] at hp
   have J:P.info? g.type≠none:=by intro h0;apply U;simp[Program.cellsOf,h0]
   have run:∀ b off,a.eval x=.pointer (some ⟨b,off,none⟩)->(execOp a.eval o).run P w=.ok (.value (.pointer (some ⟨b,off+g.offset,none⟩))) w:=by
    intro b off hx;simp[execOp,ho,Instr.fieldAt,lh hu,hg',hx,Instr.sureAddr,fieldPlace,run_sizeOf J,U,addr_add]
   split at h
   rename_i b c e;rw[e] at hc;unfold Rep at hc;obtain⟨l,hs,I⟩:=hc;refine qG.quiet H (run _ _ I) ?_ h;unfold Rep;exact⟨l,hs,by rw[Nat.add_assoc]⟩
   rename_i b r c e;rw[e] at hc;unfold Rep at hc;obtain⟨l,hs,I⟩:=hc;refine qG.quiet H (run _ _ I) ?_ h;unfold Rep;exact⟨l,hs,by rw[Nat.add_assoc]⟩
   rename_i b r c hh sz j k e;rw[e] at hc;unfold Rep at hc;refine qG.quiet H (run _ _ hc) ?_ h;unfold Rep;rw[Nat.add_assoc]
   rename_i cs e;rw[e] at hc
   cases hb:Nat.ble g.offset (oG cs) with
   | false=>simp only[hb] at h;exact h.elim
   | true=>
    simp only[hb] at h;unfold Rep at hc;obtain⟨b,o',I,hy,hr⟩:=hc;refine qG.quiet H (run _ _ I) ?_ h;unfold Rep;rw[yP];exact⟨b,_,rfl,hy,hr.drop _ _ _⟩
   exact h.elim
 exact h.elim
 exact h.elim
theorem SC {P:Program}{w:World}{Y:Nat->Prop}{σ:Sg}{t:TypeId}{b o' c:Nat}{row:List PV}{agg:Bool}{size:Nat}{K:PV->Prop}
  (J:P.info? t≠none) (hsize:size=P.cellsOf t) (U:agg=lK P t) (I:∃ d,P.underlying t=some d)
  (hr:jo w Y σ b row o') (h:loadRow agg size row c K) :
  ∃ v cv,K v/\(loadVar t ⟨b,o'+c,none⟩).run P w=.ok cv w/\Rep w Y σ v cv:=by
 obtain⟨d,hu⟩:=I;unfold loadRow at h
 cases agg with
 | true=>
  simp only[cond_true] at h
  cases T:Nat.ble (c+size) (oG row) with
  | false=>simp only[T,cond_false] at h
  | true=>
   simp only[T,cond_true,KQ,yP] at h;have hle:c+size<=row.length:=by simpa using Nat.le_of_ble_eq_true T
   have g:=(hr.drop c _ _).take size _ _;obtain⟨vs,hv,hcell⟩:=g.vals;refine⟨_,.agg vs.toArray,h,?_,by unfold Rep;exact⟨vs,rfl,hv⟩⟩
   have hlen:vs.length=P.cellsOf t:=by
    rw[gI.length _ _ hv];simp;omega
   simp only[loadVar,Sem.run_bind,I5 hu,<- U,Result.andThen,if_true,run_sizeOf J,loadCells];rw[<- hlen,Dh vs 0 #[] (λj v hj=>by simpa using hcell j v hj)];simp
 | false=>
  simp only[cond_false] at h
  cases T:Nat.blt c (oG row) with
  | false=>simp only[T,cond_false] at h
  | true=>
   simp only[T,cond_true] at h;have C:c<row.length:=by simpa [Nat.blt_eq] using T
   obtain⟨v,hv,hrep⟩:=hr.get _ _ c C;refine⟨_,v,h,?_,hrep⟩;simp only[loadVar,Sem.run_bind,I5 hu,<- U,Result.andThen];simp only[Bool.false_eq_true,if_false];exact Zt hv
theorem gW.yR {T:Tab}{C:Ctx T}{w:World}{Y:Nat->Prop}{σ:Sg}{ps:List PV}{vs:List Value}{st:St}{n:Nat}(H:SW C w Y σ ps vs st n){lk:Nat->Option mO}
  (J:∀ b x,lk b=some x->jk st b=some x) {b:Nat} {x:mO} {l:Loc} (h:lk b=some x) (hs:σ b=some l):gW w Y σ l x:=by
 rcases H.store.blk b x (J _ _ h) with ⟨l',U,I⟩|⟨U,_⟩
 rw[hs] at U;cases U;exact I
 rw[hs] at U;cases U
theorem Pm {w:World}{Y:Nat->Prop}{σ:Sg}{p:PV}{v:Value}(h:Rep w Y iU p v):Rep w Y σ p v :=
 Rep.keep p ⟨λ_ _ _=>rfl,λ_ _ h=>h,Nat.le_refl _,λ_ _ h=>by cases h⟩ v h
theorem getD_some {o:Option PV}{h:Hdr}{sz:Nat}{U:List (List PV)}(e:o.getD .undef=.ow h sz U):o=some (.ow h sz U):=by
 cases o with
 | none=>cases e
 | some x=>simp at e;rw[e]
theorem aem {P:Program}{T:Tab}{w:World}{Y:Nat->Prop}{σ:Sg}(b r c:Nat){p:PV}{v:Value}(h:Rep w Y σ p v):Rep w Y σ (ahj (iW.jI P T) b r c p) v:=by
 unfold ahj
 split
 rename_i hh sz U;unfold Rep at h |-;simp only[iW.jI];rcases h with h|⟨h0,h1,h2⟩
 exact .inl h
 exact .inr ⟨h0,by rw[h1];rfl,h2⟩
 exact h
theorem Zu {P:Program}{T:Tab}{w:World}{Y:Nat->Prop}{σ:Sg}{U:Nat}(b r:Nat):∀ (ps:List PV) (c o:Nat),jo w Y σ U ps o->jo w Y σ U (ad4 (iW.jI P T) b r c ps) o
 | [],c,o,h=>by simpa [ad4] using h
 | p::ps,c,o,h=>by
  unfold jo at h;obtain⟨⟨v,h1,h2⟩,J⟩:=h;simp only[ad4];unfold jo;exact⟨⟨v,h1,aem b r c h2⟩,Zu b r ps (c+1) (o+1) J⟩
theorem SW.aen {T:Tab}{C:Ctx T}{w:World}{Y:Nat->Prop}{σ:Sg}{ps:List PV}{vs:List Value}{st:St}{n:Nat}(H:SW C w Y σ ps vs st n){b r c sz0 sz:Nat}{rows:List (List PV)}{row:List PV}{h:Hdr}{es:List (List PV)}
  (g:jk st b=some (.mg sz0 rows)) (U:rows[r]?=some row) (hc:row[c]?=some (.ow h sz es)) (I:es≠[]):h.cap≠0:=by
 rcases H.store.blk b _ g with ⟨l,_,hB⟩|⟨_,hE⟩
 unfold gW at hB;have hr:=(jw.row _ _ _ _ hB.2.2.2.2.1 U).2
 have J:c<row.length:=by
  by_cases hh:c<row.length
  exact hh
  simp[List.getElem?_eq_none (Nat.le_of_not_lt hh)] at hc
 obtain⟨v,_,hp⟩:=hr.get _ _ c J;rw[Df,List.getD_eq_getElem?_getD,hc] at hp;simp only[Option.getD_some] at hp;unfold Rep at hp;rcases hp with ⟨h0,_⟩|⟨_,h1,_⟩
 exact h0
 exact absurd h1 I
 cases hE;simp at U
include hT H hlk in
theorem af9 {t:TypeId}{x:Operand}(ho:o.op=.load t x)(h:oO T (iW.jI P T) (.load t x) ps lk id K):qG P C o a w σ ps st n id K:=by
 have hc:=lD H x;simp only[oO] at h
 split at h
 rename_i agg size z plain kind e;obtain⟨g,hsize,hagg,hund⟩:=UG hT e
 have fin:∀ (σ' : Sg) (b o' c:Nat) (row:List PV),a.eval x=.pointer (some ⟨b,o'+c,none⟩)->jo w Y σ' b row o'->(∀ p v,Rep w Y σ' p v->Rep w Y σ p v) ->
   loadRow agg size row c (λv=>K v [])->qG P C o a w σ ps st n id K:=by
  intro σ' b o' c row hx hr hσ hl;obtain⟨v,cv,hK,hrun,hrep⟩:=SC g hsize hagg hund hr hl;refine qG.quiet H (cv:=cv) ?_ (hσ _ _ hrep) hK;simp[execOp,ho,hx,Instr.loadAt,Instr.sureAddr,hrun]
 split at h
 rename_i b c e;rw[e] at hc;unfold Rep at hc;obtain⟨l,hs,e'⟩:=hc
 split at h
 rename_i ro row J;have hB:=gW.yR H hlk J hs;unfold gW at hB;exact fin σ _ _ _ _ e' hB.2.2.2.1 (λ_ _ h=>h) h
 exact h.elim
 rename_i b r c e;rw[e] at hc;unfold Rep at hc;obtain⟨l,hs,e'⟩:=hc
 split at h
 rename_i ro sz rows J;have hB:=gW.yR H hlk J hs;unfold gW at hB;obtain⟨row,U,h⟩:=h;have:=jw.row _ _ _ _ hB.2.2.2.2.1 U;rw[<- hB.2.1] at this;exact fin iU _ _ _ _ e' this.2 (λ_ _ h=>Pm h) h
 rename_i sz rows J;have hB:=gW.yR H hlk J hs;unfold gW at hB;obtain⟨row,U,h⟩:=h;have:=jw.row _ _ _ _ hB.2.2.2.2.1 U;rw[<- hB.2.1] at this;exact fin iU _ _ _ _ e' (Zu b r row 0 _ this.2) (λ_ _ h=>Pm h) h
 rename_i sz rows r0 row J;have hB:=gW.yR H hlk J hs;unfold gW at hB;obtain⟨hr0,h⟩:=h;cases hr0;obtain⟨_,h2,_,_,_,_,h8,_⟩:=hB;rw[<- h2] at h8;exact fin σ _ _ _ _ e' h8 (λ_ _ h=>h) h
 exact h.elim
 rename_i b r c hh sz j k e;rw[e] at hc;unfold Rep at hc
 split at h
 rename_i sz0 rows J;obtain⟨row,U,h⟩:=h
 split at h
 rename_i h' I es ec
 cases hs:Nat.beq I sz with
 | false=>rw[hs] at h;exact h.elim
 | true=>
  rw[hs] at h;simp only[cond_true] at h;have hs:=Nat.eq_of_beq_eq_true hs;subst hs;obtain⟨he,er,her,h⟩:=h;subst he;have hcc:row[c]?=some (.ow hh I es):=by rw[Df,List.getD_eq_getElem?_getD] at ec;exact getD_some ec
  have hN:=H.nest.rep b r c hh I es ⟨sz0,rows,row,hlk _ _ J,U,hcc,H.aen (hlk _ _ J) U hcc (by rintro rfl;simp at her)⟩;exact fin iU _ _ _ _ hc (jw.row _ _ _ _ hN.rows her).2 (λ_ _ h=>Pm h) h
 exact h.elim
 exact h.elim
 rename_i cs e;rw[e] at hc;unfold Rep at hc;obtain⟨b,o',e',hy,hr⟩:=hc;exact fin iU b o' 0 cs (by simpa using e') hr (λ_ _ h=>Pm h) h
 exact h.elim
 exact h.elim
end
end Go.Pv
namespace Go.Pv
open Go
theorem Q4 {b c:Nat}(h:¬ b=c):Nat.beq b c=false:=by
 cases e:Nat.beq b c with
 | false=>rfl
 | true=>exact absurd (Nat.eq_of_beq_eq_true e) h
theorem iQ (st:St)(b:Nat)(x:Option mO)(c:Nat):jk (oH st b x) c=if b=c then x else jk st c:=by
 induction st with
 | nil=>
  by_cases h:b=c
  simp[oH,jk,h]
  have:Nat.beq b c=false:=Q4 h;simp[oH,jk,this,h]
 | cons p st ih=>
  obtain⟨U,y⟩:=p
  by_cases h:U=b
  subst h
  by_cases h2:U=c
  subst h2;simp[oH,jk]
  have:Nat.beq U c=false:=Q4 h2;simp[oH,jk,this,h2]
  have h0:Nat.beq U b=false:=Q4 h;simp only[oH,h0,cond_false,jk]
  by_cases h2:U=c
  subst h2;simp;intro e;exact absurd e.symm h
  have:Nat.beq U c=false:=Q4 h2;simp only[this,cond_false,ih]
theorem gW.keep {w w' : World}{Y Y' : Nat->Prop}{σ σ' : Sg}{l:Loc}{x:mO}(K:Keep w w' Y Y' σ σ')(U:w'.heap[l.cb]?=w.heap[l.cb]?)(g:Y' l.cb↔Y l.cb)
  (h:gW w Y σ l x):gW w' Y' σ' l x:=by
 cases x with
 | var ro row=>
  unfold gW at h |-;obtain⟨⟨arr,ty,h1,h2⟩,T,C,h5,I,J⟩:=h;exact⟨⟨arr,ty,by rw[U];exact h1,h2⟩,T,C,jo.keep row K (λ_=>U) _ h5,λe=>g.2 (I e),λe hy=>J e (g.1 hy)⟩
 | arr ro sz rows=>
  unfold gW at h |-;obtain⟨⟨arr,ty,h1,h2⟩,T,C,h5,I,J,h8⟩:=h;exact⟨⟨arr,ty,by rw[U];exact h1,h2⟩,T,C,h5,jw.keep rows K.none (λ_=>U) _ I,λe=>g.2 (J e),λe hy=>h8 e (g.1 hy)⟩
 | map rows=>
  unfold gW at h |-;obtain⟨⟨es,ck,h1,h2⟩,T⟩:=h;exact⟨⟨es,ck,by rw[U];exact h1,pG.keep K.none _ _ h2⟩,g.2 T⟩
 | mg sz rows=>
  unfold gW at h |-;obtain⟨⟨arr,ty,h1,h2⟩,T,C,h5,I,J⟩:=h;exact⟨⟨arr,ty,by rw[U];exact h1,h2⟩,T,C,h5,jw.keep rows K.none (λ_=>U) _ I,g.2 J⟩
 | nor sz rows r row=>
  unfold gW at h |-;obtain⟨⟨arr,ty,h1,h2⟩,T,C,h5,I,J,h8,h9⟩:=h;exact⟨⟨arr,ty,by rw[U];exact h1,h2⟩,T,C,h5,I,λi x hx hi=>⟨(J i x hx hi).1,jo.keep x K.none (λ_=>U) _ (J i x hx hi).2⟩,jo.keep row K (λ_=>U) _ h8,g.2 h9⟩
theorem gW.lt {w:World}{Y:Nat->Prop}{σ:Sg}{l:Loc}{x:mO}(h:gW w Y σ l x):l.cb<w.heap.size:=by
 have:∃ o,w.heap[l.cb]?=some o:=by
  cases x<;>(unfold gW at h;first|(obtain⟨⟨⟨arr,ty,h1,_⟩⟩,_⟩:=h;exact⟨_,h1⟩)|(obtain⟨⟨J,T,h1,_⟩,_⟩:=h;exact⟨_,h1⟩))
 obtain⟨o,h1⟩:=this
 by_cases U:l.cb<w.heap.size
 exact U
 simp[Array.getElem?_eq_none (Nat.le_of_not_lt U)] at h1
theorem SW.drop {T:Tab}{C:Ctx T}{w:World}{Y:Nat->Prop}{σ:Sg}{ps:List PV}{vs:List Value}{st:St}{n:Nat}(H:SW C w Y σ ps vs st n)(b:Nat):SW C w Y σ ps vs (oH st b none) n:=by
 have sub:∀ c x,jk (oH st b none) c=some x->jk st c=some x:=by
  intro c x h;rw[iQ] at h
  by_cases U:b=c
  rw[if_pos U] at h;cases h
  rw[if_neg U] at h;exact h
 refine⟨H.vals,⟨λc x h=>H.store.blk c x (sub c x h),λc J x x' l l' h I=>H.store.inj c J x x' l l' (sub _ _ h) (sub _ _ I)⟩,H.next,H.vJ,H.y0,H.c0,H.wS,H.qm,λc x l h=>H.own c x l (sub _ _ h),H.wU,H.fix,H.nest.sub sub⟩
theorem SW.ext {T:Tab}{C:Ctx T}{w:World}{Y:Nat->Prop}{σ:Sg}{ps:List PV}{vs:List Value}{st st' : St}{n:Nat}(H:SW C w Y σ ps vs st n)(h:∀ b x,jk st' b=some x->jk st b=some x):SW C w Y σ ps vs st' n :=
 ⟨H.vals,⟨λc x e=>H.store.blk c x (h c x e),λc U x x' l l' e J=>H.store.inj c U x x' l l' (h _ _ e) (h _ _ J)⟩,H.next,H.vJ,H.y0,H.c0,H.wS,H.qm,λc x l e=>H.own c x l (h _ _ e),H.wU,H.fix,H.nest.sub h⟩
theorem SW.update {T:Tab}{C:Ctx T}{w w' : World}{Y:Nat->Prop}{σ:Sg}{ps:List PV}{vs:List Value}{st:St}{n:Nat}(H:SW C w Y σ ps vs st n)
  {b:Nat} {x x' : mO} {l:Loc} (hx:jk st b=some x) (hl:σ b=some l) (hm:Y l.cb)
  (hos:w'.os=w.os) (I:w'.tape=w.tape) (hout:w'.output=w.output) (hsize:w'.heap.size=w.heap.size)
  (U:∀ k,k≠l.cb->w'.heap[k]?=w.heap[k]?) (hnar:∀ sz rows,x'≠.mg sz rows) (hnew:(∀ p v,Rep w Y σ p v->Rep w' Y σ p v)->gW w' Y σ l x'):SW C w' Y σ ps vs (oH st b (some x')) n:=by
 have K:Keep w w' Y Y σ σ:=⟨λk _ hk=>U k (λe=>hk (e ▸ hm)),λ_ _ h=>h,Nat.le_of_eq hsize.symm,oq.refl _⟩;have own:=H.own b x l hx hl;refine⟨gI.keep _ K _ H.vals,⟨?_,?_⟩,H.next,λk hk=>by rw[hsize];exact H.vJ k hk,H.y0,H.c0,H.wS,?_,?_,H.wU.keep K.none,H.fix,?_⟩
 intro c y h;rw[iQ] at h
 by_cases hc:b=c
 rw[if_pos hc] at h;cases h;subst hc;exact .inl ⟨l,hl,hnew λp v hp=>Rep.keep p K v hp⟩
 rw[if_neg hc] at h;rcases H.store.blk c y h with ⟨l',J,hb⟩|hn
 refine .inl ⟨l',J,gW.keep K (U _ λe=>hc ?_) Iff.rfl hb⟩;exact(H.store.inj c b y x l' l h hx J hl e).symm
 exact .inr hn
 intro c c' y y' l1 l2 h h' h1 h2 e
 have old:∀ d z,jk (oH st b (some x')) d=some z->∃ z',jk st d=some z':=by
  intro d z hd;rw[iQ] at hd
  by_cases hc:b=d
  subst hc;exact⟨x,hx⟩
  rw[if_neg hc] at hd;exact⟨z,hd⟩
 obtain⟨z,hz⟩:=old _ _ h;obtain⟨z',hz'⟩:=old _ _ h';exact H.store.inj c c' z z' l1 l2 hz hz' h1 h2 e
 refine⟨by rw[hos];exact H.qm.os,by rw[I];exact H.qm.tape,by rw[hout];exact H.qm.output,by rw[hsize];exact H.qm.size,λk hk hM=>?_⟩
 have hne:k≠l.cb:=λe=>by
  subst e;have h1:=H.away hx hl;rcases H.wS _ hm hk with h2|h2
  exact h1 h2
  exact hM h2
 rw[U k hne];exact H.qm.block k hk hM
 intro c y l' h h1;rw[iQ] at h
 by_cases hc:b=c
 subst hc;rw[hl] at h1;cases h1;exact own
 rw[if_neg hc] at h;exact H.own c y l' h h1
 have back:∀ {c r k h sz g},ni (oH st b (some x')) c r k h sz g->ni st c r k h sz g:=by
  rintro c r k h sz g ⟨sz0,rows,row,h1,h2⟩
  rw[iQ] at h1
  by_cases hc:b=c
  rw[if_pos hc] at h1;exact absurd (Option.some.inj h1) (hnar _ _)
  rw[if_neg hc] at h1;exact⟨sz0,rows,row,h1,h2⟩
 refine H.nest.keep K.none (λ_ _ _ _ _ _ k=>back k) (λc r k h sz g hk=>U _ (H.nest.sep _ _ _ _ _ _ _ _ _ (back hk) hx hl).symm) (λc r k h sz g hk=>(H.nest.rep _ _ _ _ _ _ (back hk)).own) λc r k h sz g b' y l' hk hy J=>?_;rw[iQ] at hy
 by_cases hc:b=b'
 subst hc;rw[hl] at J;cases J;exact H.nest.sep _ _ _ _ _ _ _ _ _ (back hk) hx hl
 rw[if_neg hc] at hy;exact H.nest.sep _ _ _ _ _ _ _ _ _ (back hk) hy J
theorem SW.aeo {T:Tab}{C:Ctx T}{w:World}{Y:Nat->Prop}{σ:Sg}{ps:List PV}{vs:List Value}{st:St}{n id:Nat}(H:SW C w Y σ ps vs st n)(hid:σ id=none/\T.qf<=id)
  (ob:Obj) (l:Loc) (hcb:l.cb=w.heap.size) (x:mO) (hnar:∀ sz rows,x=.mg sz rows->∀ (r:Nat) (row:List PV) (c:Nat) (h:Hdr) (sz' : Nat) (es:List (List PV)),rows[r]?=some row->row[c]?=some (PV.ow h sz' es)->h.cap=0)
  (hx:∀ w' Y' σ',(∀ p v,Rep w Y σ p v->Rep w' Y' σ' p v)->Y' l.cb->w'.heap[l.cb]?=some ob->(∀ p v,Rep w Y iU p v->Rep w' Y' iU p v)->gW w' Y' σ' l x) :
  ∃ Y' σ',SW C (w.alloc ob) Y' σ' ps vs (oH st id (some x)) (max n (id+1))/\σ' id=some l/\oq σ σ'/\(∀ p v,Rep w Y σ p v->Rep (w.alloc ob) Y' σ' p v)/\Off id σ σ':=by
 have hfree:=hid.1;have heap:(w.alloc ob).heap=w.heap.push ob:=rfl;have hnew:(w.alloc ob).heap[l.cb]?=some ob:=by rw[heap,hcb];simp
 have hold:∀ k,k<w.heap.size->(w.alloc ob).heap[k]?=w.heap[k]?:=by
  intro k hk;rw[heap,Array.getElem?_push,if_neg ah]
 let Y' : Nat->Prop:=λk=>Y k\/k=w.heap.size
 let σ' : Sg:=λb=>if b=id then some l else σ b
 have hsg:oq σ σ':=by
  intro b m h;show(if b=id then some l else σ b)=some m
  by_cases I:b=id
  subst I;rw[hfree] at h;cases h
  rw[if_neg I];exact h
 have hsz:(w.alloc ob).heap.size=w.heap.size+1:=by rw[heap];simp
 have K:Keep w (w.alloc ob) Y Y' σ σ' :=
  ⟨λk hk _=>hold k hk,λk hk h=>h.resolve_right ah,by omega,hsg⟩
 refine⟨Y',σ',⟨gI.keep _ K _ H.vals,⟨?_,?_⟩,?_,?_,λk hk=>.inl (H.y0 k hk),H.c0,?_,?_,?_,H.wU.keep K.none,⟨by have:=H.fix.1;omega,λb I=>by show(if b=id then some l else σ b)=_;rw[if_neg ah];exact H.fix.2 b I⟩,?_⟩,by simp[σ'],hsg,λp v hp=>Rep.keep p K v hp,λb I=>by show(if b=id then some l else σ b)=_;rw[if_neg I]⟩
 intro c y h;rw[iQ] at h
 by_cases hc:id=c
 rw[if_pos hc] at h;cases h;subst hc;exact .inl ⟨l,by simp[σ'],hx _ Y' σ' (λp v hp=>Rep.keep p K v hp) (.inr hcb) hnew (λp v hp=>Rep.keep p K.none v hp)⟩
 rw[if_neg hc] at h;have J : c≠id:=λe=>hc e.symm;rcases H.store.blk c y h with ⟨l',U,I⟩|⟨hn,hx'⟩
 have hlt:=I.lt;exact .inl ⟨l',hsg _ _ U,gW.keep K (hold _ hlt) ⟨λh=>h.resolve_right ah,.inl⟩ I⟩
 exact .inr ⟨by simp[σ',J,hn],hx'⟩
 intro c c' y y' l1 l2 h h' h1 h2 e;rw[iQ] at h h'
 by_cases hc:id=c<;>by_cases J : id=c'
 omega
 exfalso
 rw[if_neg J] at h';subst hc;simp[σ'] at h1;subst h1;have g : σ c'=some l2:=by simpa [σ',show c'≠id from λe=>J e.symm] using h2
 rcases H.store.blk c' y' h' with ⟨l',U,I⟩|⟨hn,_⟩
 rw[g] at U;cases U;have:=I.lt;omega
 rw[g] at hn;cases hn
 exfalso
 rw[if_neg hc] at h;subst J;simp[σ'] at h2;subst h2;have h1' : σ c=some l1:=by simpa [σ',show c≠id from λe=>hc e.symm] using h1
 rcases H.store.blk c y h with ⟨l',U,I⟩|⟨hn,_⟩
 rw[h1'] at U;cases U;have:=I.lt;omega
 rw[h1'] at hn;cases hn
 rw[if_neg hc] at h;rw[if_neg J] at h';have h1' : σ c=some l1:=by simpa [σ',show c≠id from λe=>hc e.symm] using h1
 have g : σ c'=some l2:=by simpa [σ',show c'≠id from λe=>J e.symm] using h2
 exact H.store.inj c c' y y' l1 l2 h h' h1' g e
 intro b I;show(if b=id then some l else σ b)=none;rw[if_neg ah];exact H.next b ah
 intro k hk;rcases hk with hk|hk
 have:=H.vJ k hk;omega
 omega
 intro k hk hlt;rcases hk with hk|hk
 exact H.wS k hk hlt
 have:=H.qm.size;omega
 refine⟨H.qm.os,H.qm.tape,H.qm.output,by have:=H.qm.size;omega,λk hk hM=>?_⟩;rw[hold k (by have:=H.qm.size;omega)];exact H.qm.block k hk hM
 intro c y l' h h1;rw[iQ] at h
 by_cases hc:id=c
 subst hc;simp[σ'] at h1;subst h1;rw[hcb];exact .inl H.qm.size
 rw[if_neg hc] at h;exact H.own c y l' h (by simpa [σ',show c≠id from λe=>hc e.symm] using h1)
 have back:∀ {c r k h sz es},ni (oH st id (some x)) c r k h sz es->ni st c r k h sz es:=by
  rintro c r k h sz es ⟨sz0,rows,row,h1,h2,h3⟩
  rw[iQ] at h1
  by_cases hc:id=c
  rw[if_pos hc] at h1;exact absurd (hnar _ _ (Option.some.inj h1) _ _ _ _ _ _ h2 h3.1) h3.2
  rw[if_neg hc] at h1;exact⟨sz0,rows,row,h1,h2,h3⟩
 refine H.nest.keep K.none (λ_ _ _ _ _ _ k=>back k) (λc r k h sz es hk=>hold _ (H.nest.rep _ _ _ _ _ _ (back hk)).lt) (λc r k h sz es hk=>.inl (H.nest.rep _ _ _ _ _ _ (back hk)).own) λc r k h sz es b' y l' hk hy U=>?_;have hlt:=(H.nest.rep _ _ _ _ _ _ (back hk)).lt;rw[iQ] at hy
 by_cases hc:id=b'
 subst hc;simp[σ'] at U;subst U;omega
 rw[if_neg hc] at hy;exact H.nest.sep _ _ _ _ _ _ _ _ _ (back hk) hy (by simpa [σ',show b'≠id from λe=>hc e.symm] using U)
theorem SW.alloc {T:Tab}{C:Ctx T}{w:World}{Y:Nat->Prop}{σ:Sg}{ps:List PV}{vs:List Value}{st:St}{n id:Nat}(H:SW C w Y σ ps vs st n)(hid:σ id=none/\T.qf<=id)
  (arr:Array Value) (ty:TypeId) (l:Loc) (J:l.cb=w.heap.size) (x:mO) (U:∀ sz rows,x=.mg sz rows->∀ (r:Nat) (row:List PV) (c:Nat) (h:Hdr) (I : Nat) (g:List (List PV)),rows[r]?=some row->row[c]?=some (PV.ow h I g)->h.cap=0)
  (hx:∀ w' Y' σ',(∀ p v,Rep w Y σ p v->Rep w' Y' σ' p v)->Y' l.cb->w'.heap[l.cb]?=some (.cells arr ty (0,0))->(∀ p v,Rep w Y iU p v->Rep w' Y' iU p v)->gW w' Y' σ' l x) :
  ∃ Y' σ',SW C (w.alloc (.cells arr ty)) Y' σ' ps vs (oH st id (some x)) (max n (id+1))/\σ' id=some l/\oq σ σ'/\(∀ p v,Rep w Y σ p v->Rep (w.alloc (.cells arr ty)) Y' σ' p v)/\Off id σ σ' :=
 H.aeo hid (.cells arr ty) l J x U hx
theorem SW.freeze {T:Tab}{C:Ctx T}{w:World}{Y:Nat->Prop}{σ:Sg}{ps:List PV}{vs:List Value}{st:St}{n:Nat}(H:SW C w Y σ ps vs st n){b:Nat}{x x' : mO}
  (hx:jk st b=some x) (I : (∃ ro row,x=.var ro row/\x'=.var true row)\/(∃ ro sz rows,x=.arr ro sz rows/\x'=.arr true sz rows)) :
  ∃ Y',SW C w Y' σ ps vs (oH st b (some x')) n/\(∀ l,σ b=some l->¬ Y' l.cb)/\(∀ k,Y' k->Y k):=by
 let Y' : Nat->Prop:=λk=>Y k/\∀ l,σ b=some l->k≠l.cb;have K:Keep w w Y Y' σ σ:=⟨λ_ _ _=>rfl,λ_ _ h=>h.1,Nat.le_refl _,oq.refl _⟩;refine⟨Y',⟨gI.keep _ K _ H.vals,⟨?_,?_⟩,H.next,λk hk=>H.vJ k hk.1,?_,H.c0,λk hk=>H.wS k hk.1,H.qm,?_,H.wU.keep K.none,H.fix,?_⟩,λl hl h=>h.2 l hl rfl,λ_ h=>h.1⟩
 intro c y h;rw[iQ] at h
 by_cases hc:b=c
 rw[if_pos hc] at h;cases h;subst hc;rcases H.store.blk b x hx with ⟨l,hl,U⟩|⟨hn,he⟩
 refine .inl ⟨l,hl,?_⟩;rcases I with ⟨ro,row,rfl,rfl⟩|⟨ro,sz,rows,rfl,rfl⟩
 unfold gW at U |-;exact⟨U.1,U.2.1,U.2.2.1,jo.keep row K (λ_=>rfl) _ U.2.2.2.1,λe=>dw,λ_ h=>h.2 l hl rfl⟩
 unfold gW at U |-;exact⟨U.1,U.2.1,U.2.2.1,U.2.2.2.1,jw.keep rows K.none (λ_=>rfl) _ U.2.2.2.2.1,λe=>dw,λ_ h=>h.2 l hl rfl⟩
 rcases I with ⟨ro',row,rfl,rfl⟩|⟨ro',sz',rows,rfl,rfl⟩
 cases he
 cases he;exact .inr ⟨hn,.arr _ _⟩
 rw[if_neg hc] at h;rcases H.store.blk c y h with ⟨l',J,U⟩|hn
 refine .inl ⟨l',J,gW.keep K rfl ⟨λh=>h.1,λh=>⟨h,λl hl e=>hc ?_⟩⟩ U⟩;exact(H.store.inj c b y x l' l ‹_› hx J hl e).symm
 exact .inr hn
 intro c c' y y' l1 l2 h h' h1 h2 e
 have old:∀ d z,jk (oH st b (some x')) d=some z->∃ z',jk st d=some z':=by
  intro d z hd;rw[iQ] at hd
  by_cases hc:b=d
  subst hc;exact⟨x,hx⟩
  rw[if_neg hc] at hd;exact⟨z,hd⟩
 obtain⟨z,hz⟩:=old _ _ h;obtain⟨z',hz'⟩:=old _ _ h';exact H.store.inj c c' z z' l1 l2 hz hz' h1 h2 e
 intro k hk;refine⟨H.y0 k hk,λl hl e=>?_⟩;exact H.away hx hl (e ▸ hk)
 intro c y l' h h1;rw[iQ] at h
 by_cases hc:b=c
 subst hc;exact H.own b x l' hx h1
 rw[if_neg hc] at h;exact H.own c y l' h h1
 have back:∀ {c r k h sz g},ni (oH st b (some x')) c r k h sz g->ni st c r k h sz g:=by
  rintro c r k h sz g ⟨sz0,rows,row,h1,h2⟩
  rw[iQ] at h1
  by_cases hc:b=c
  rw[if_pos hc] at h1;rcases I with ⟨_,_,_,e⟩|⟨_,_,_,_,e⟩<;>(rw[e] at h1;cases h1)
  rw[if_neg hc] at h1;exact⟨sz0,rows,row,h1,h2⟩
 refine H.nest.keep K.none (λ_ _ _ _ _ _ k=>back k) (λ_ _ _ _ _ _ _=>rfl) (λc r k h sz g hk=>⟨(H.nest.rep _ _ _ _ _ _ (back hk)).own,λl hl e=>H.nest.sep _ _ _ _ _ _ _ _ _ (back hk) hx hl e.symm⟩) λc r k h sz g b' y l' hk hy J=>?_;rw[iQ] at hy
 by_cases hc:b=b'
 subst hc;exact H.nest.sep _ _ _ _ _ _ _ _ _ (back hk) hx J
 rw[if_neg hc] at hy;exact H.nest.sep _ _ _ _ _ _ _ _ _ (back hk) hy J
theorem SW.ach {T:Tab}{C:Ctx T}{w:World}{Y:Nat->Prop}{σ:Sg}{ps:List PV}{vs:List Value}{st:St}{n:Nat}(H:SW C w Y σ ps vs st n){b sz:Nat}{rows:List (List PV)}(hx:jk st b=some (.mg sz rows)) :
  ∃ Y',SW C w Y' σ ps vs (oH st b none) n/\(∀ l,σ b=some l->¬ Y' l.cb)/\(∀ r c h U I,ni st b r c h U I->¬ Y' h.ν)/\∀ k,Y' k->Y k:=by
 let Y' : Nat->Prop:=λk=>Y k/\(∀ l,σ b=some l->k≠l.cb)/\∀ r c h U I,ni st b r c h U I->k≠h.ν;have K:Keep w w Y Y' σ σ:=⟨λ_ _ _=>rfl,λ_ _ h=>h.1,Nat.le_refl _,oq.refl _⟩
 have J : ∀ c y,jk (oH st b none) c=some y->b≠c/\jk st c=some y:=by
  intro c y h;rw[iQ] at h
  by_cases hc:b=c
  rw[if_pos hc] at h;cases h
  rw[if_neg hc] at h;exact⟨hc,h⟩
 have sub:∀ {c r k h sz I},ni (oH st b none) c r k h sz I->b≠c/\ni st c r k h sz I:=by
  rintro c r k h sz I ⟨sz0,rows,row,h1,h2⟩
  obtain⟨e1,e2⟩:=J _ _ h1;exact⟨e1,sz0,rows,row,e2,h2⟩
 refine⟨Y',⟨gI.keep _ K _ H.vals,⟨?_,?_⟩,H.next,λk hk=>H.vJ k hk.1,?_,H.c0,λk hk=>H.wS k hk.1,H.qm,?_,H.wU.keep K.none,H.fix,?_⟩,λl hl h=>h.2.1 l hl rfl,λr c h U I hk hh=>hh.2.2 _ _ _ _ _ hk rfl,λ_ h=>h.1⟩
 intro c y h;obtain⟨hc,h⟩:=J _ _ h;rcases H.store.blk c y h with ⟨l',g,hb⟩|hn
 refine .inl ⟨l',g,gW.keep K rfl ⟨λh=>h.1,λh0=>⟨h0,λl hl e=>hc ?_,λr c' h' U I hk e=>H.nest.sep _ _ _ _ _ _ _ _ _ hk h g e⟩⟩ hb⟩;exact(H.store.inj c b y _ l' l h hx g hl e).symm
 exact .inr hn
 intro c c' y y' l1 l2 h h' h1 h2 e;exact H.store.inj c c' y y' l1 l2 (J _ _ h).2 (J _ _ h').2 h1 h2 e
 intro k hk;refine⟨H.y0 k hk,λl hl e=>H.away hx hl (e ▸ hk),λr c h U I ho e=>?_⟩;obtain⟨k1,k2⟩:=H.c0 k hk;rcases H.nest.old _ _ _ _ _ _ ho with h1|h1
 rw[<- e] at h1;omega
 rw[<- e] at h1;exact k2 h1
 intro c y l' h h1;exact H.own c y l' (J _ _ h).2 h1
 refine H.nest.keep K.none (λ_ _ _ _ _ _ k=>(sub k).2) (λ_ _ _ _ _ _ _=>rfl) (λc r k h sz I hk=>⟨(H.nest.rep _ _ _ _ _ _ (sub hk).2).own,λl hl e=>H.nest.sep _ _ _ _ _ _ _ _ _ (sub hk).2 hx hl e.symm,λr' c' h' U es' ho e=>(sub hk).1 (H.nest.one _ _ _ _ _ _ _ _ _ _ _ _ (sub hk).2 ho e).1.symm⟩) λc r k h sz I b' y l' hk hy g=>H.nest.sep _ _ _ _ _ _ _ _ _ (sub hk).2 (J _ _ hy).2 g
theorem Keep.ahq {w w' : World}{Y:Nat->Prop}{σ:Sg}(h:Chg w w'):Keep w w' Y Y σ σ:=⟨λk hk _=>h.block k hk,λ_ _ h=>h,h.size,oq.refl _⟩
theorem SW.aep {T:Tab}{C:Ctx T}{w w' : World}{Y:Nat->Prop}{σ:Sg}{ps:List PV}{vs:List Value}{st:St}{n:Nat}(H:SW C w Y σ ps vs st n)(h:Chg w w'):SW C w' Y σ ps vs st n:=by
 have K:Keep w w' Y Y σ σ:=Keep.ahq h;refine⟨gI.keep _ K _ H.vals,⟨λb x U=>?_,H.store.inj⟩,H.next,λk hk=>Nat.lt_of_lt_of_le (H.vJ k hk) h.size,H.y0,H.c0,H.wS,?_,H.own,H.wU.keep K.none,H.fix,H.nest.heap h.size h.block⟩
 rcases H.store.blk b x U with ⟨l,hl,hB⟩|hn
 exact .inl ⟨l,hl,gW.keep K (h.block _ hB.lt) Iff.rfl hB⟩
 exact .inr hn
 exact⟨by rw[h.os];exact H.qm.os,by rw[h.tape];exact H.qm.tape,by rw[h.output];exact H.qm.output,Nat.le_trans H.qm.size h.size,λk hk hM=>by rw[h.block k (Nat.lt_of_lt_of_le hk H.qm.size)];exact H.qm.block k hk hM⟩
end Go.Pv
namespace Go.Pv
open Go
theorem Ce {v:Value}(h:Ol v=true):v.cells=#[v]:=by
 cases v<;>simp[Ol] at h<;>rfl
theorem zW {w:World}{Y:Nat->Prop}{σ:Sg}:∀ (ps:List PV) (vs:List Value),iT ps=true->gI w Y σ ps vs->∀ v∈vs,Ol v=true
 | [],vs,_,h=>by unfold gI at h;subst h;simp
 | p::ps,vs,ha,h=>by
  unfold gI at h;obtain⟨v,U,rfl,h1,h2⟩:=h;simp[iT] at ha;intro u hu;rcases List.mem_cons.1 hu with rfl|hu
  exact Om ha.1 h1
  exact zW ps U ha.2 h2 u hu
theorem I7 {w:World}{Y:Nat->Prop}{σ:Sg}{p:PV}{v:Value}(h:Rep w Y σ p v)(U:iT (mQ p)=true) :
  ∃ vs:List Value,v.cells=vs.toArray/\gI w Y σ (mQ p) vs/\∀ u∈vs,Ol u=true:=by
 cases p
 case agg cs=>
  simp only[mQ] at U |-;unfold Rep at h;obtain⟨vs,e,hr⟩:=h;subst e;exact⟨vs,rfl,hr,zW _ _ U hr⟩
 all_goals
  simp only[mQ,iT,Bool.and_true] at U |-;have h1:=Om U h;refine⟨[v],by rw[Ce h1],by unfold gI;exact⟨v,[],rfl,h,by simp[gI]⟩,by simp[h1]⟩
theorem ada {P:Program}{w:World}{x:Addr}{v u:Value}(hv:Ol v=true)(hc:w.cell? x=some u)(O:w.frozen? x=false) :
  (store x v).run P w=.ok () (w.setCell x v):=by
 unfold store;cases v<;>simp[Ol] at hv<;>simp[Sem.run,hc,O]
theorem NQ {w:World}{b o:Nat}{arr:Array Value}{ty:TypeId}(h:w.heap[b]?=some (.cells arr ty (0,0)))(v:Value) :
  (w.setCell ⟨b,o,none⟩ v).heap[b]?=some (.cells (arr.setIfInBounds o v) ty (0,0)):=by
 simp[World.setCell,Array.getElem?_modify,h]
theorem cell_of_block {w:World}{b o:Nat}{arr:Array Value}{ty:TypeId}(h:w.heap[b]?=some (.cells arr ty (0,0))):w.cell? ⟨b,o,none⟩=arr[o]?:=by
 simp[World.cell?,h]
theorem tV {w:World}{b o:Nat}{arr:Array Value}{ty:TypeId}(h:w.heap[b]?=some (.cells arr ty (0,0))):w.frozen? ⟨b,o,none⟩=false:=by
 simp[World.frozen?,h]
structure Wrote (w w' : World)(b o:Nat)(arr:Array Value)(ty:TypeId)(vs:List Value):Prop where
 os:w'.os=w.os
 tape:w'.tape=w.tape
 output:w'.output=w.output
 size:w'.heap.size=w.heap.size
 other:∀ k,k≠b->w'.heap[k]?=w.heap[k]?
 blk:∃ arr' : Array Value,w'.heap[b]?=some (.cells arr' ty (0,0))/\arr'.size=arr.size/\∀ j,arr'[j]?=if o<=j/\j<o+vs.length then vs[j-o]? else arr[j]?
theorem uI {P:Program}{b o:Nat}{ty:TypeId}:∀ (vs:List Value) (i:Nat) (w:World) (arr:Array Value),w.heap[b]?=some (.cells arr ty (0,0))->o+i+vs.length<=arr.size->(∀ v∈vs,Ol v=true) ->
  ∃ w',(storeCells ⟨b,o,none⟩ vs i).run P w=.ok () w'/\Wrote w w' b (o+i) arr ty vs
 | [],i,w,arr,h,_,_=>⟨w,by simp[storeCells],rfl,rfl,rfl,rfl,λ_ _=>rfl,arr,h,rfl,λj=>by simp;intro h1 h2;omega⟩
 | v::vs,i,w,arr,h,hle,hone=>by
  have T:o+i<arr.size:=by simp at hle;omega
  have hc:w.cell? ⟨b,o+i,none⟩=some arr[o+i]:=by rw[cell_of_block h];simp[T]
  have J:=ada (P:=P) (hone v aC) hc (tV h);obtain⟨w',hr,U⟩:=uI (P:=P) (o:=o) vs (i+1) (w.setCell ⟨b,o+i,none⟩ v) (arr.setIfInBounds (o+i) v) (NQ h v) (by simp at hle |-;omega) (λu hu=>hone u (by simp[hu]));refine⟨w',?_,?_⟩
  simp only[storeCells,Sem.run_bind,addr_add,J,Result.andThen];exact hr
  obtain⟨arr',h1,h2,I⟩:=U.blk;refine⟨U.os,U.tape,U.output,?_,λk hk=>?_,arr',h1,by simpa using h2,λj=>?_⟩
  rw[U.size];simp[World.setCell]
  rw[U.other k hk];simp only[World.setCell,Array.getElem?_modify];rw[if_neg ah]
  rw[I j];simp only[List.length_cons]
  by_cases C:j=o+i
  subst C;rw[if_neg ah,if_pos ah];simp[T]
  by_cases h5:o+(i+1)<=j/\j<o+(i+1)+vs.length
  rw[if_pos h5,if_pos ah];rw[show j-(o+i)=(j-(o+(i+1)))+1 by omega];simp
  rw[if_neg h5,if_neg ah];rw[Array.getElem?_setIfInBounds];rw[if_neg ah]
theorem xn:∀ (vs l:List PV) (c:Nat),(mP l c vs).length=l.length
 | [],l,c=>by cases l<;>simp[mP]
 | v::vs,[],c=>by simpa [mP,nY] using xn vs [] (c+1)
 | v::vs,x::l,c=>by rw[mP,xn vs,rM];simp
theorem Ot:∀ (vs l:List PV) (c j:Nat),c+vs.length<=l.length->(mP l c vs)[j]?=if c<=j/\j<c+vs.length then vs[j-c]? else l[j]?
 | [],l,c,j,_=>by
  have:mP l c []=l:=by cases l<;>simp[mP]
  rw[this];simp;intro h1 h2;omega
 | v::vs,[],c,j,h=>by simp at h
 | v::vs,x::l,c,j,h=>by
  rw[mP,Ot vs _ (c+1) j (by rw[rM];simp at h |-;omega),rM];simp only[List.length_cons]
  by_cases U:j=c
  subst U;rw[if_neg ah,if_pos ah];simp at h;rw[List.getElem?_set];simp;omega
  by_cases h5:c+1<=j/\j<c+1+vs.length
  rw[if_pos h5,if_pos ah,show j-c=(j-(c+1))+1 by omega];simp
  rw[if_neg h5,if_neg ah,List.getElem?_set_ne ah]
theorem jo.iff {w:World}{Y:Nat->Prop}{σ:Sg}{b:Nat}:∀ (ps:List PV) (o:Nat),jo w Y σ b ps o↔∀ i p,ps[i]?=some p->∃ v,w.cell? ⟨b,o+i,none⟩=some v/\Rep w Y σ p v
 | [],o=>by simp[jo]
 | q::ps,o=>by
  unfold jo;rw[jo.iff ps (o+1)];constructor
  rintro⟨h1,h2⟩ i p hi
  cases i with
  | zero=>simp at hi;subst hi;simpa using h1
  | succ i=>rw[show o+(i+1)=o+1+i by omega];exact h2 i p cu
  intro h;refine⟨by simpa using h 0 q rfl,λi p hi=>?_⟩;rw[show o+1+i=o+(i+1) by omega];exact h (i+1) p cu
theorem gI.get? {w:World}{Y:Nat->Prop}{σ:Sg}:∀ {ps:List PV} {vs:List Value} {i:Nat} {p:PV},gI w Y σ ps vs->ps[i]?=some p->∃ v,vs[i]?=some v/\Rep w Y σ p v
 | [],_,_,_,_,hi=>by simp at hi
 | q::ps,vs,0,p,h,hi=>by
  unfold gI at h;obtain⟨v,U,rfl,h1,_⟩:=h;simp at hi;subst hi;exact⟨v,rfl,h1⟩
 | q::ps,vs,i+1,p,h,hi=>by
  unfold gI at h;obtain⟨v,U,rfl,_,h2⟩:=h
  simpa using gI.get? h2 cu
theorem Wrote.rep {w w' : World}{Y:Nat->Prop}{σ:Sg}{b o:Nat}{arr:Array Value}{ty:TypeId}{vs:List Value}{cs row:List PV}{c:Nat}(W:Wrote w w' b (o+c) arr ty vs)
  (I:w.heap[b]?=some (.cells arr ty (0,0))) (U:jo w Y σ b row o) (T:gI w Y σ cs vs) (hle:c+cs.length<=row.length) (hk:∀ p v,Rep w Y σ p v->Rep w' Y σ p v):jo w' Y σ b (mP row c cs) o:=by
 obtain⟨arr',h1,h2,C⟩:=W.blk;have hl:=T.length;rw[jo.iff] at U |-;intro i p hi;rw[Ot _ _ _ _ hle] at hi;rw[cell_of_block h1,C]
 by_cases J:c<=i/\i<c+cs.length
 rw[if_pos J] at hi;rw[if_pos ah];obtain⟨v,hv,hr⟩:=T.get? hi;exact⟨v,by rw[<- hv];congr 1;omega,hk _ _ hr⟩
 rw[if_neg J] at hi;rw[if_neg ah];obtain⟨v,hv,hr⟩:=U i p hi;rw[cell_of_block I] at hv;exact⟨v,hv,hk _ _ hr⟩
theorem EN {P:Program}{w:World}{t:TypeId}{b o size:Nat}{v:Value}{vs:List Value}{arr:Array Value}{ty:TypeId}(U:P.info? t≠none)(hsize:size=P.cellsOf t)
  (hv:v.cells=vs.toArray) (hlen:vs.length=size) (I:w.heap[b]?=some (.cells arr ty (0,0))) (hle:o+vs.length<=arr.size) (T:∀ u∈vs,Ol u=true) :
  ∃ w',(storeVar t ⟨b,o,none⟩ v).run P w=.ok () w'/\Wrote w w' b o arr ty vs:=by
 obtain⟨w',hr,J⟩:=uI (P:=P) (o:=o) vs 0 w arr I (by simpa using hle) T;refine⟨w',?_,by simpa using J⟩;simp only[storeVar,Sem.run_bind,run_sizeOf U,Result.andThen];rw[if_neg (by rw[hv];simp;omega)];simp only[hv];exact hr
section
variable {P:Program}{T:Tab}(hT:jq P T){C:Ctx T}{o:Oper}{a:Act}{w:World}{Y:Nat->Prop}{σ:Sg}{ps:List PV}{st:St}{n id:Nat}{K:PV->Dl->Prop}{lk:Nat->Option mO}
 (H:SW C w Y σ ps a.tmps.toList st n) (hlk:∀ b x,lk b=some x->jk st b=some x) (hid:σ id=none/\T.qf<=id)
theorem XK {vs:List Value}(H:SW C w Y σ ps vs st n){t:TypeId}{b c size:Nat}{l:Loc}{row:List PV}{p:PV}{v:Value}{K:List PV->Prop}
  (T:P.info? t≠none) (hsize:size=P.cellsOf t) (J:jk st b=some (.var false row)) (hl:σ b=some l) (hv:Rep w Y σ p v) (h:oQ size row c p K) :
  ∃ U w',K U/\(storeVar t ⟨l.cb,l.co+c,none⟩ v).run P w=.ok () w'/\SW C w' Y σ ps vs (oH st b (some (.var false U))) n:=by
 unfold oQ at h
 cases hb:(iT (mQ p)&&Nat.beq (oG (mQ p)) size&&Nat.ble (c+oG (mQ p)) (oG row)) with
 | false=>rw[hb] at h;exact h.elim
 | true=>
  rw[hb] at h;simp only[Bool.and_eq_true,vK] at hb;obtain⟨⟨h1,h2⟩,h3⟩:=hb;have h2:=Nat.eq_of_beq_eq_true h2;have h3:=Nat.le_of_ble_eq_true h3;obtain⟨vs',hvs,hr,I⟩:=I7 hv h1;have hlen:=hr.length
  have hB:gW w Y σ l (.var false row):=by
   rcases H.store.blk b _ J with ⟨l',g,hB⟩|⟨hn,_⟩
   rw[hl] at g;cases g;exact hB
   rw[hl] at hn;cases hn
  unfold gW at hB;obtain⟨⟨arr,ty,ha,has⟩,hsz,hle,hrow,hm,hr0⟩:=hB;obtain⟨w',hrun,W⟩:=EN (P:=P) (o:=l.co+c) T hsize hvs ah ha ah I;refine⟨_,w',h,hrun,SW.update H J hl (hm rfl) W.os W.tape W.output W.size W.other (λ_ _ e=>by cases e) λhk=>?_⟩;obtain⟨arr',h4,h5,h6⟩:=W.blk;unfold gW;exact⟨⟨arr',ty,h4,by omega⟩,by rw[xn];exact hsz,by rw[xn];exact hle,W.rep ha hrow hr ah hk,hm,hr0⟩
theorem XL {vs:List Value}(H:SW C w Y σ ps vs st n){t:TypeId}{b c size sz r:Nat}{l:Loc}{rows:List (List PV)}{row:List PV}{p:PV}{v:Value}{K:List PV->Prop}
  (I:P.info? t≠none) (hsize:size=P.cellsOf t) (g:jk st b=some (.nor sz rows r row)) (hl:σ b=some l) (hv:Rep w Y σ p v) (h:oQ size row c p K) :
  ∃ T w',K T/\(storeVar t ⟨l.cb,l.co+r*l.sz+c,none⟩ v).run P w=.ok () w'/\SW C w' Y σ ps vs (oH st b (some (.nor sz rows r T))) n:=by
 unfold oQ at h
 cases hb:(iT (mQ p)&&Nat.beq (oG (mQ p)) size&&Nat.ble (c+oG (mQ p)) (oG row)) with
 | false=>rw[hb] at h;exact h.elim
 | true=>
  rw[hb] at h;simp only[Bool.and_eq_true,vK] at hb;obtain⟨⟨h1,h2⟩,h3⟩:=hb;have h2:=Nat.eq_of_beq_eq_true h2;have h3:=Nat.le_of_ble_eq_true h3;obtain⟨vs',hvs,hr,hone⟩:=I7 hv h1;have hlen:=hr.length
  have hB:gW w Y σ l (.nor sz rows r row):=by
   rcases H.store.blk b _ g with ⟨l',hl',hB⟩|⟨hn,_⟩
   rw[hl] at hl';cases hl';exact hB
   rw[hl] at hn;cases hn
  unfold gW at hB;obtain⟨⟨arr,ty,ha,has⟩,hsz,hpos,⟨hle,hnr⟩,⟨J,hrl⟩,U,hrow,hm⟩:=hB;rw[hsz];have hbnd:(r+1)*sz<=rows.length*sz:=Nat.mul_le_mul_right sz J;rw[Nat.add_mul] at hbnd;obtain⟨w',hrun,W⟩:=EN (P:=P) (o:=l.co+r*sz+c) I hsize hvs ah ha ah hone;refine⟨_,w',h,hrun,SW.update H g hl hm W.os W.tape W.output W.size W.other (λ_ _ e=>by cases e) λhk=>?_⟩;have K0:Keep w w' Y Y iU iU:=⟨λk _ hy=>W.other k (λe=>hy (e ▸ hm)),λ_ _ h=>h,Nat.le_of_eq W.size.symm,oq.refl _⟩;obtain⟨arr',h4,h5,h6⟩:=W.blk;unfold gW;refine⟨⟨arr',ty,h4,by omega⟩,hsz,hpos,⟨hle,hnr⟩,⟨J,by rw[xn];exact hrl⟩,λi x hx hi=>⟨(U i x hx hi).1,?_⟩,W.rep ha hrow hr ah hk,hm⟩;obtain⟨⟨g1,_⟩,g2⟩:=U i x hx hi;rw[jo.iff] at g2 |-;intro k q hq;obtain⟨u,hu,hp⟩:=g2 k q hq;refine⟨u,?_,Rep.keep _ K0 _ hp⟩;rw[cell_of_block ha] at hu;rw[cell_of_block h4,h6,if_neg]
  exact hu
  have hk:k<x.length:=by
   by_cases hh:k<x.length
   exact hh
   rw[List.getElem?_eq_none (Nat.le_of_not_lt hh)] at hq;cases hq
  rcases Nat.lt_or_gt_of_ne hi with hlt|hgt
  have:=Nat.mul_le_mul_right sz (show i+1<=r from hlt);rw[Nat.add_mul] at this;omega
  have:=Nat.mul_le_mul_right sz (show r+1<=i from hgt);rw[Nat.add_mul] at this;omega
end
end Go.Pv
namespace Go.Pv
open Go
theorem G9 {w:World}{Y:Nat->Prop}{σ:Sg}{b r n:Nat}{ro:Bool}{sz:Nat}{rows:List (List PV)}{v:Value}(hv:Rep w Y σ (.os b r n) v)
  (I:(∃ l,σ b=some l/\gW w Y σ l (.arr ro sz rows))\/(σ b=none/\Emp (.arr ro sz rows))) :
  ∃ a cap,v=.slice a n cap/\n<=cap/\n=((rows.drop r).take n).length/\((rows.drop r).take n=[]\/∃ T o,a=some ⟨T,o,none⟩/\T<w.heap.size/\(∃ l,σ b=some l/\T=l.cb)/\jw w Y iU T sz ((rows.drop r).take n) o):=by
 unfold Rep at hv;rcases hv with ⟨l,cap,hs,rfl,hn,ht,hr⟩|⟨rfl,a,rfl⟩
 rcases I with ⟨l',U,hB⟩|⟨U,_⟩
 rw[hs] at U;cases U;have J:=hB.lt;unfold gW at hB;refine⟨_,cap,rfl,hn.1,?_,.inr ⟨l.cb,_,rfl,J,⟨l,hs,rfl⟩,?_⟩⟩
 rw[List.length_take,List.length_drop];have:=hB.2.2.2.1.2;omega
 rw[hB.2.1];exact(hB.2.2.2.2.1.drop r _ _).take n _ _
 rw[hs] at U;cases U
 exact⟨a,0,rfl,Nat.le_refl _,by simp,.inl aC⟩
def Lk (lk:Nat->Option mO)(st:St):Prop:=∀ b ro sz rows,lk b=some (.arr ro sz rows)->∃ ro',jk st b=some (.arr ro' sz rows)
theorem Ou {b:Nat}:∀ (δ:Dl) (st:St),Zk b δ=false->jk (jJ δ st) b=jk st b
 | [],st,_=>rfl
 | (c,x)::δ,st,h=>by
  simp only[Zk,Bool.or_eq_false_iff] at h;rw[jJ,Ou δ _ h.2,iQ,if_neg];intro e;subst e;simp at h
theorem FD {P:Program}{T:Tab}{C:Ctx T}{w:World}{σ:Sg}{qs:List PV}{us:List Value}{n:Nat}{lk:Nat->Option mO} :
  ∀ (ps J : List PV) (δ:Dl),pur (iW.jI P T) lk ps=some (J,δ)->∀ (Y:Nat->Prop) (st:St),SW C w Y σ qs us st n->Lk lk st->∀ vs,gI w Y σ ps vs ->
   ∃ Y',SW C w Y' σ qs us (jJ δ st) n/\gI w Y' iU J vs/\(∀ k,Y' k->Y k)
 | [],J,δ,h,Y,st,H,_,vs,hv=>by
  simp[pur] at h;obtain⟨rfl,rfl⟩:=h;unfold gI at hv;subst hv;exact⟨Y,H,by simp[gI],λ_ h=>h⟩
 | p::ps,J,δ,h,Y,st,H,hlk,vs,hv=>by
  unfold gI at hv;obtain⟨v,U,rfl,h1,h2⟩:=hv;unfold pur at h
  cases hp:pur (iW.jI P T) lk ps with
  | none=>rw[hp] at h;cases h
  | some r=>
   obtain⟨I,δ'⟩:=r;rw[hp] at h;simp only at h
   have plain:∀ (q:PV),Rep w Y iU q v->(some (q::I,δ')=some (J,δ))->∃ Y',SW C w Y' σ qs us (jJ δ st) n/\gI w Y' iU J (v::U)/\(∀ k,Y' k->Y k):=by
    intro q hq e;cases e;obtain⟨Y',H',hr,hy⟩:=FD ps I _ hp Y st H hlk U h2;refine⟨Y',H',?_,hy⟩;unfold gI;exact⟨v,U,rfl,Rep.keep q ⟨λ_ _ _=>rfl,λk _=>hy k,Nat.le_refl _,oq.refl _⟩ v hq,hr⟩
   cases p
   case os b r m=>
    simp only at h
    split at h
    rename_i ro sz rows hb;cases h;obtain⟨ro',hst⟩:=hlk b ro sz rows hb;obtain⟨Y1,H1,hn1,g⟩:=H.freeze hst (x':=.arr true sz rows) (.inr ⟨ro',sz,rows,rfl,rfl⟩)
    have hlk1:Lk lk (oH st b (some (.arr true sz rows))):=by
     intro c ro2 sz2 rows2 hc;rw[iQ]
     by_cases e:b=c
     subst e;rw[hb] at hc;cases hc;exact⟨true,by simp⟩
     rw[if_neg e];exact hlk c _ _ _ hc
    have K1:Keep w w Y Y1 σ σ:=⟨λ_ _ _=>rfl,λk _=>g k,Nat.le_refl _,oq.refl _⟩;obtain⟨Y2,H2,hr2,hy2⟩:=FD ps I δ' hp Y1 _ H1 hlk1 U (gI.keep ps K1 U h2);refine⟨Y2,H2,?_,λk hk=>g k (hy2 k hk)⟩;unfold gI;refine⟨v,U,rfl,?_,hr2⟩;have hB:=H1.store.blk b (.arr true sz rows) eX;obtain⟨a,cap,e1,e2,e3,e4⟩:=G9 (Rep.keep _ K1 v h1) (hB.imp id λ⟨x,y⟩=>⟨x,y⟩)
    have:Rep w Y1 iU (.sl sz ((iW.jI P T).sub rows r m) false) v:=by
     unfold Rep;refine⟨a,m,cap,e1,e3,e2,(λh=>by cases h),?_⟩;rcases e4 with e4|⟨b',o,ea,eb,⟨l,el,el'⟩,er⟩
     exact .inl e4
     exact .inr ⟨b',o,ea,⟨eb,by rw[el'];exact hn1 l el⟩,er⟩
    exact Rep.keep _ ⟨λ_ _ _=>rfl,λk _=>hy2 k,Nat.le_refl _,oq.refl _⟩ v this
    cases h
   case fn f cs=>
    cases cs with
    | nil=>exact plain _ bM h
    | cons _ _=>cases h
   case bool=>exact plain _ bG h
   case sb=>exact plain _ bG h
   case int=>exact plain _ bG h
   case si=>exact plain _ bG h
   case str=>exact plain _ bG h
   case sl=>exact plain _ bG h
   case pp=>exact plain _ bG h
   case GU=>exact plain _ bG h
   case Un=>exact plain _ bG h
   all_goals cases h
theorem qH:∀ l,iT l=true↔∀ p∈l,tu p=true
 | []=>by simp[iT]
 | p::l=>by simp[iT,qH l]
theorem Di:∀ (vs l:List PV) (c:Nat),iT l=true->iT vs=true->iT (mP l c vs)=true
 | [],l,c,h,_=>by cases l<;>simpa [mP] using h
 | v::vs,[],c,h,hv=>by
  simp only[iT,Bool.and_eq_true] at hv
  simpa [mP,nY] using Di vs [] (c+1) h hv.2
 | v::vs,x::l,c,h,hv=>by
  simp only[iT,Bool.and_eq_true] at hv;rw[mP];refine Di vs _ (c+1) ?_ hv.2;rw[rM,qH];rw[qH] at h;intro p hp;rcases List.mem_or_eq_of_mem_set hp with h1|h1
  exact h p h1
  rw[h1];exact hv.1
theorem jw.iff {w:World}{Y:Nat->Prop}{σ:Sg}{b sz:Nat}:∀ (rs:List (List PV)) (o:Nat),jw w Y σ b sz rs o↔∀ i r,rs[i]?=some r->(r.length=sz/\iT r=true)/\jo w Y σ b r (o+i*sz)
 | [],o=>by simp[jw]
 | q::rs,o=>by
  unfold jw;rw[jw.iff rs (o+sz)];constructor
  rintro⟨h0,h1,h2⟩ i r hi
  cases i with
  | zero=>simp at hi;subst hi;exact⟨h0,by simpa using h1⟩
  | succ i=>rw[show o+(i+1)*sz=o+sz+i*sz by rw[Nat.add_mul];omega];exact h2 i r cu
  intro h;refine⟨(h 0 q rfl).1,by simpa using (h 0 q rfl).2,λi r hi=>?_⟩;rw[show o+sz+i*sz=o+(i+1)*sz by rw[Nat.add_mul];omega];exact h (i+1) r cu
section
variable {P:Program}{T:Tab}(hT:jq P T){C:Ctx T}{o:Oper}{a:Act}{w:World}{Y:Nat->Prop}{σ:Sg}{ps:List PV}{st:St}{n id:Nat}{K:PV->Dl->Prop}{lk:Nat->Option mO}
 (H:SW C w Y σ ps a.tmps.toList st n) (hlk:∀ b x,lk b=some x->jk st b=some x) (hid:σ id=none/\T.qf<=id)
theorem XM {vs:List Value}(H:SW C w Y σ ps vs st n){t:TypeId}{b r c size sz:Nat}{l:Loc}{rows:List (List PV)}{row cs:List PV}{v:Value}{K:List PV->Prop}
  (g:P.info? t≠none) (hsize:size=P.cellsOf t) (hst:jk st b=some (.arr false sz rows)) (hl:σ b=some l) (T:rows[r]?=some row)
  {us:List Value} (hcs:v.cells=us.toArray) (hv:gI w Y iU cs us) (h:oQ size row c (.agg cs) K) :
  ∃ J w',K J/\(storeVar t ⟨l.cb,l.co+r*l.sz+c,none⟩ v).run P w=.ok () w'/\SW C w' Y σ ps vs (oH st b (some (.arr false sz (rows.set r J)))) n:=by
 unfold oQ at h;simp only[mQ] at h
 cases hb:(iT cs&&Nat.beq (oG cs) size&&Nat.ble (c+oG cs) (oG row)) with
 | false=>rw[hb] at h;exact h.elim
 | true=>
  rw[hb] at h;simp only[Bool.and_eq_true,vK] at hb;obtain⟨⟨h1,h2⟩,h3⟩:=hb;have h2:=Nat.eq_of_beq_eq_true h2;have h3:=Nat.le_of_ble_eq_true h3;have hone:=zW _ _ h1 hv;have hlen:=hv.length
  have hB:gW w Y σ l (.arr false sz rows):=by
   rcases H.store.blk b _ hst with ⟨l',hl',hB⟩|⟨hn,_⟩
   rw[hl] at hl';cases hl';exact hB
   rw[hl] at hn;cases hn
  unfold gW at hB;obtain⟨⟨arr,ty,ha,has⟩,hsz,hpos,⟨hle,hnr⟩,U,hm,hr0⟩:=hB;have hr:=jw.row _ _ _ _ U T
  have hrlt:r<rows.length:=by
   by_cases hh:r<rows.length
   exact hh
   simp[List.getElem?_eq_none (Nat.le_of_not_lt hh)] at T
  have hbound:r*sz+sz<=rows.length*sz:=by
   have:=Nat.mul_le_mul_right sz (show r+1<=rows.length by omega);rw[Nat.add_mul] at this;omega
  rw[hsz];obtain⟨w',hrun,W⟩:=EN (P:=P) (o:=l.co+r*sz+c) g hsize hcs ah ha ah hone;refine⟨_,w',h,hrun,SW.update H hst hl (hm rfl) W.os W.tape W.output W.size W.other (λ_ _ e=>by cases e) λ_=>?_⟩;have K0:Keep w w' Y Y iU iU:=⟨λk _ hk=>W.other k (λe=>hk (e ▸ hm rfl)),λ_ _ h=>h,Nat.le_of_eq W.size.symm,oq.refl _⟩;obtain⟨arr',h4,h5,h6⟩:=W.blk;unfold gW;refine⟨⟨arr',ty,h4,by omega⟩,hsz,hpos,⟨by simpa using hle,by simpa using hnr⟩,?_,hm,hr0⟩;rw[jw.iff] at U |-;intro i q hi;rw[List.getElem?_set] at hi
  by_cases I:r=i
  subst I;rw[if_pos rfl,if_pos hrlt] at hi;cases hi;refine⟨⟨by rw[xn];exact hr.1.1,Di _ _ _ hr.1.2 h1⟩,?_⟩;exact W.rep ha hr.2 hv ah (λp v hp=>Rep.keep p K0 v hp)
  rw[if_neg I] at hi;obtain⟨h7,h8⟩:=U i q hi;refine⟨h7,?_⟩;rw[jo.iff] at h8 |-;intro j p hj;obtain⟨u,hu,hp⟩:=h8 j p hj
  have hjlt:j<q.length:=by
   by_cases hh:j<q.length
   exact hh
   simp[List.getElem?_eq_none (Nat.le_of_not_lt hh)] at hj
  refine⟨u,?_,Rep.keep p K0 u hp⟩;rw[cell_of_block ha] at hu;rw[cell_of_block h4,h6,if_neg,hu]
  rintro⟨h9,h10⟩
  rcases Nat.lt_or_gt_of_ne I with h11|h11
  have:=Nat.mul_le_mul_right sz (show r+1<=i by omega);rw[Nat.add_mul] at this;omega
  have:=Nat.mul_le_mul_right sz (show i+1<=r by omega);rw[Nat.add_mul] at this;omega
theorem MO {cb co tot sz r c size:Nat}{arr:Array Value}{ty:TypeId}{rows:List (List PV)}{row cs:List PV}{v:Value}{t:TypeId}{K:List PV->Prop}
  (J:P.info? t≠none) (hsize:size=P.cellsOf t) (ha:w.heap[cb]?=some (.cells arr ty (0,0))) (has:arr.size=tot) (hle:co+rows.length*sz<=tot) (U:jw w Y iU cb sz rows co) (hm:Y cb) (T:rows[r]?=some row)
  {us:List Value} (hcs:v.cells=us.toArray) (hv:gI w Y iU cs us) (h:oQ size row c (.agg cs) K) :
  ∃ w',K (mP row c cs)/\iT cs=true/\c+cs.length<=row.length/\(storeVar t ⟨cb,co+r*sz+c,none⟩ v).run P w=.ok () w'/\(w'.os=w.os/\w'.tape=w.tape/\w'.output=w.output/\w'.heap.size=w.heap.size/\∀ k,k≠cb->w'.heap[k]?=w.heap[k]?) /\
   (∃ arr',w'.heap[cb]?=some (.cells arr' ty (0,0))/\arr'.size=tot)/\jw w' Y iU cb sz (rows.set r (mP row c cs)) co:=by
 unfold oQ at h;simp only[mQ] at h
 cases hb:(iT cs&&Nat.beq (oG cs) size&&Nat.ble (c+oG cs) (oG row)) with
 | false=>rw[hb] at h;exact h.elim
 | true=>
  rw[hb] at h;simp only[Bool.and_eq_true,vK] at hb;obtain⟨⟨h1,h2⟩,h3⟩:=hb;have h2:=Nat.eq_of_beq_eq_true h2;have h3:=Nat.le_of_ble_eq_true h3;have C:=zW _ _ h1 hv;have hlen:=hv.length;have hr:=jw.row _ _ _ _ U T
  have hrlt:r<rows.length:=by
   by_cases hh:r<rows.length
   exact hh
   simp[List.getElem?_eq_none (Nat.le_of_not_lt hh)] at T
  have hbound:r*sz+sz<=rows.length*sz:=by
   have:=Nat.mul_le_mul_right sz (show r+1<=rows.length by omega);rw[Nat.add_mul] at this;omega
  obtain⟨w',g,W⟩:=EN (P:=P) (o:=co+r*sz+c) J hsize hcs ah ha ah C;obtain⟨arr',h4,h5,h6⟩:=W.blk;have K0:Keep w w' Y Y iU iU:=⟨λk _ hk=>W.other k (λe=>hk (e ▸ hm)),λ_ _ h=>h,Nat.le_of_eq W.size.symm,oq.refl _⟩;refine⟨w',h,h1,h3,g,⟨W.os,W.tape,W.output,W.size,W.other⟩,⟨arr',h4,by omega⟩,?_⟩;rw[jw.iff] at U |-;intro i q hi;rw[List.getElem?_set] at hi
  by_cases I:r=i
  subst I;rw[if_pos rfl,if_pos hrlt] at hi;cases hi;refine⟨⟨by rw[xn];exact hr.1.1,Di _ _ _ hr.1.2 h1⟩,?_⟩;exact W.rep ha hr.2 hv ah (λp v hp=>Rep.keep p K0 v hp)
  rw[if_neg I] at hi;obtain⟨h7,h8⟩:=U i q hi;refine⟨h7,?_⟩;rw[jo.iff] at h8 |-;intro j p hj;obtain⟨u,hu,hp⟩:=h8 j p hj
  have hjlt:j<q.length:=by
   by_cases hh:j<q.length
   exact hh
   simp[List.getElem?_eq_none (Nat.le_of_not_lt hh)] at hj
  refine⟨u,?_,Rep.keep p K0 u hp⟩;rw[cell_of_block ha] at hu;rw[cell_of_block h4,h6,if_neg,hu]
  rintro⟨h9,h10⟩
  rcases Nat.lt_or_gt_of_ne I with h11|h11
  have:=Nat.mul_le_mul_right sz (show r+1<=i by omega);rw[Nat.add_mul] at this;omega
  have:=Nat.mul_le_mul_right sz (show i+1<=r by omega);rw[Nat.add_mul] at this;omega
theorem SW.XN {vs:List Value}{w' : World}(H:SW C w Y σ ps vs st n){b:Nat}{x x' : mO}{l:Loc}{st' : St}(hx:jk st b=some x)(hl:σ b=some l){m:Nat}(hm:Y m)(hnb:∀ b' y l',b'≠b->jk st b'=some y->σ b'=some l'->l'.cb≠m)(hnm:C.w0.heap.size<=m\/C.L m)
  (T:∀ c y,jk st' c=some y->(c=b/\y=x')\/(c≠b/\jk st c=some y))
  (hos:w'.os=w.os) (J:w'.tape=w.tape) (g:w'.output=w.output) (hsize:w'.heap.size=w.heap.size)
  (U:∀ k,k≠m->w'.heap[k]?=w.heap[k]?) (hnew:(∀ p v,Rep w Y iU p v->Rep w' Y iU p v)->gW w' Y σ l x') (I:(∀ p v,Rep w Y iU p v->Rep w' Y iU p v)->Aj C.w0 C.L w' Y σ st'):SW C w' Y σ ps vs st' n:=by
 have K:Keep w w' Y Y σ σ:=⟨λk _ hk=>U k (λe=>hk (e ▸ hm)),λ_ _ h=>h,Nat.le_of_eq hsize.symm,oq.refl _⟩
 have old:∀ c y,jk st' c=some y->∃ z,jk st c=some z:=by
  intro c y h;rcases T c y h with ⟨rfl,_⟩|⟨_,h⟩
  exact⟨x,hx⟩
  exact⟨y,h⟩
 refine⟨gI.keep _ K _ H.vals,⟨?_,?_⟩,H.next,λk hk=>by rw[hsize];exact H.vJ k hk,H.y0,H.c0,H.wS,?_,?_,H.wU.keep K.none,H.fix,I λp v hp=>Rep.keep p K.none v hp⟩
 intro c y h;rcases T c y h with ⟨rfl,rfl⟩|⟨hc,h⟩
 exact .inl ⟨l,hl,hnew λp v hp=>Rep.keep p K.none v hp⟩
 rcases H.store.blk c y h with ⟨l',hl',hb⟩|hn
 exact .inl ⟨l',hl',gW.keep K (U _ (hnb c y l' hc h hl')) Iff.rfl hb⟩
 exact .inr hn
 intro c c' y y' l1 l2 h h' h1 h2 e;obtain⟨z,hz⟩:=old _ _ h;obtain⟨z',hz'⟩:=old _ _ h';exact H.store.inj c c' z z' l1 l2 hz hz' h1 h2 e
 refine⟨by rw[hos];exact H.qm.os,by rw[J];exact H.qm.tape,by rw[g];exact H.qm.output,by rw[hsize];exact H.qm.size,λk hk hM=>?_⟩
 have hne:k≠m:=λe=>by
  subst e;rcases H.wS _ hm hk with h2|h2
  have:=H.c0 _ h2;rcases hnm with h3|h3
  omega
  exact this.2 h3
  exact hM h2
 rw[U k hne];exact H.qm.block k hk hM
 intro c y l' h h1;obtain⟨z,hz⟩:=old _ _ h;exact H.own c z l' hz h1
theorem WB {row cs:List PV}{c i:Nat}{h:Hdr}{sz:Nat}{U:List (List PV)}(hle:c+cs.length<=row.length)(hi:(mP row c cs)[i]?=some (.ow h sz U)):(c<=i/\i<c+cs.length/\PV.ow h sz U∈cs)\/((i<c\/c+cs.length<=i)/\row[i]?=some (.ow h sz U)):=by
 rw[Ot _ _ _ _ hle] at hi
 split at hi
 rename_i hh;exact .inl ⟨hh.1,hh.2,List.mem_of_getElem? hi⟩
 rename_i hh;exact .inr ⟨by omega,hi⟩
theorem Zv {vs:List Value}{w' : World}(H:SW C w Y σ ps vs st n){b r c sz:Nat}{rows:List (List PV)}{row cs:List PV}{l:Loc}(U:jk st b=some (.mg sz rows))(hs:σ b=some l)(hm:Y l.cb)
  (others:∀ J y l',J≠b->jk st J=some y->σ J=some l'->l'.cb≠l.cb) (g:rows[r]?=some row) (h2:c+cs.length<=row.length) (hno:∀ h sz es,PV.ow h sz es∈cs->h.cap≠0->False)
  (w1:w'.os=w.os) (w2:w'.tape=w.tape) (w3:w'.output=w.output) (w4:w'.heap.size=w.heap.size) (w5:∀ k,k≠l.cb->w'.heap[k]?=w.heap[k]?)
  (hB:(∀ p v,Rep w Y iU p v->Rep w' Y iU p v)->gW w' Y σ l (.mg sz (rows.set r (mP row c cs)))):SW C w' Y σ ps vs (oH st b (some (.mg sz (rows.set r (mP row c cs))))) n:=by
 refine SW.XN H U hs hm others (H.own b _ l U hs) (λI y' hh=>?_) w1 w2 w3 w4 w5 hB λhk=>?_
 rw[iQ] at hh
 by_cases e1:b=I
 rw[if_pos e1] at hh;cases hh;exact .inl ⟨e1.symm,rfl⟩
 rw[if_neg e1] at hh;exact .inr ⟨λe=>e1 e.symm,hh⟩
 have K0:Keep w w' Y Y iU iU:=⟨λk _ hy=>w5 k (λe=>hy (e ▸ hm)),λ_ _ h=>h,Nat.le_of_eq w4.symm,oq.refl _⟩
 have back:∀ {J r' I h' T es'},ni (oH st b (some (.mg sz (rows.set r (mP row c cs))))) J r' I h' T es'->ni st J r' I h' T es':=by
  rintro J r' I h' T es' ⟨sz0,rs,rw0,g1,g2,g3,g4⟩
  rw[iQ] at g1
  by_cases e1:b=J
  subst e1;rw[if_pos rfl] at g1;cases g1;rw[List.getElem?_set] at g2
  by_cases hr:r=r'
  subst hr
  have hrlt:r<rows.length:=by
   by_cases hh:r<rows.length
   exact hh
   simp[List.getElem?_eq_none (Nat.le_of_not_lt hh)] at g
  rw[if_pos rfl,if_pos hrlt] at g2;cases g2;rcases WB h2 g3 with ⟨k1,k2,k3⟩|⟨k1,k2⟩
  exact(hno _ _ _ k3 g4).elim
  exact⟨sz,rows,row,U,g,k2,g4⟩
  rw[if_neg hr] at g2;exact⟨sz,rows,rw0,U,g2,g3,g4⟩
  rw[if_neg e1] at g1;exact⟨sz0,rs,rw0,g1,g2,g3,g4⟩
 refine H.nest.keep K0 (λ_ _ _ _ _ _ hh=>back hh) (λJ r' I h' T es' hh=>w5 _ (H.nest.sep _ _ _ _ _ _ _ _ _ (back hh) U hs).symm) (λJ r' I h' T es' hh=>(H.nest.rep _ _ _ _ _ _ (back hh)).own) λJ r' I h' T es' b'' x l' hh hx hl'=>?_;rw[iQ] at hx
 by_cases e1:b=b''
 subst e1;exact H.nest.sep _ _ _ _ _ _ _ _ _ (back hh) U hl'
 rw[if_neg e1] at hx;exact H.nest.sep _ _ _ _ _ _ _ _ _ (back hh) hx hl'
theorem MP {S:iW}{lk:Nat->Option mO}:∀ (ps U : List PV) (δ:Dl),pur S lk ps=some (U,δ)->iT U=true/\iT ps=true
 | [],U,δ,h=>by simp[pur] at h;obtain⟨rfl,_⟩:=h;simp[iT]
 | p::ps,U,δ,h=>by
  unfold pur at h
  cases hp:pur S lk ps with
  | none=>rw[hp] at h;cases h
  | some r=>
   obtain⟨q,J⟩:=r;rw[hp] at h;obtain⟨T,i2⟩:=MP ps q J hp;simp only at h;cases p
   case os b r n=>
    simp only at h
    split at h
    cases h;exact⟨by simp[iT,tu,T],by simp[iT,tu,i2]⟩
    cases h
   case fn f cs=>cases cs<;>simp only at h<;>first|contradiction|(cases h;exact⟨by simp[iT,tu,T],by simp[iT,tu,i2]⟩)
   all_goals (simp only at h;first|contradiction|(cases h;exact⟨by simp[iT,tu,T],by simp[iT,tu,i2]⟩))
theorem Pn {S:iW}{lk:Nat->Option mO}:∀ {ps U : List PV} {us:List Value},pur S lk ps=some (U,[])->gI w Y σ ps us->gI w Y iU U us
 | [],U,us,h,hr=>by simp[pur] at h;subst h;unfold gI at hr |-;exact hr
 | p::ps,U,us,h,hr=>by
  unfold pur at h
  cases hp:pur S lk ps with
  | none=>rw[hp] at h;cases h
  | some r=>
   obtain⟨q,I⟩:=r;rw[hp] at h;simp only at h;unfold gI at hr;obtain⟨v,T,rfl,h1,h2⟩:=hr;cases p
   case os b r n=>
    simp only at h
    split at h
    cases h
    cases h
   case fn f cs=>
    cases cs<;>simp only at h<;>first|contradiction|skip
    cases h;unfold gI;refine⟨v,T,rfl,?_,Pn hp h2⟩;unfold Rep at h1 |-;obtain⟨zs,e1,J⟩:=h1;unfold gI at J;subst J;exact⟨[],e1,by unfold gI;rfl⟩
   all_goals (simp only at h;first|contradiction|(cases h;unfold gI;refine⟨v,T,rfl,?_,Pn hp h2⟩;unfold Rep at h1 |-;exact h1))
theorem UH {P:Program}{T:Tab}{lk:Nat->Option mO}:∀ (ps U : List PV) (δ:Dl),pur (iW.jI P T) lk ps=some (U,δ)->∀ h sz J,PV.ow h sz J ∉ U
 | [],U,δ,h=>by simp[pur] at h;obtain⟨rfl,_⟩:=h;simp
 | p::ps,U,δ,h=>by
  unfold pur at h
  cases hp:pur (iW.jI P T) lk ps with
  | none=>rw[hp] at h;cases h
  | some r=>
   obtain⟨q,δ1⟩:=r;rw[hp] at h;have C:=UH ps q δ1 hp;intro hh sz J g
   have key:∀ u I,some (u::q,I)=some (U,δ)->u≠.ow hh sz J->False:=by
    intro u I e hu;cases e;rcases List.mem_cons.1 g with e|e
    exact hu e.symm
    exact C _ _ _ e
   simp only at h;cases p
   case os b r n=>
    simp only at h
    split at h
    exact key _ _ h aC
    cases h
   case fn f cs=>cases cs<;>simp only at h<;>first|contradiction|exact key _ _ h aC
   all_goals (simp only at h;first|contradiction|exact key _ _ h aC)
include hT H hlk hid in
theorem aeq {t:TypeId}{x y:Operand}(ho:o.op=.store t x y)(h:oO T (iW.jI P T) (.store t x y) ps lk id K):qG P C o a w σ ps st n id K:=by
 have hx:=lD H x;have hy:=lD H y;simp only[oO] at h
 split at h
 rename_i agg size z plain kind e;obtain⟨hinfo,hsize,hagg,hund⟩:=UG hT e
 split at h
 rename_i b c e;rw[e] at hx;unfold Rep at hx;obtain⟨l,hs,e'⟩:=hx
 split at h
 rename_i row hb;obtain⟨row',w',hK,I,H'⟩:=XK H hinfo hsize (hlk _ _ hb) hs hy h;refine⟨_,_,Go.undef,w',Y,σ,hK,.inr ⟨?_,rfl⟩,?_,by simp[Rep],Off.refl _ _⟩
 simp[execOp,ho,e',Instr.storeAt,Instr.sureAddr,I]
 simp only[jJ,uH];exact H'.mono ah
 exact h.elim
 rename_i b r c e;rw[e] at hx;unfold Rep at hx;obtain⟨l,hs,e'⟩:=hx
 split at h
 rename_i sz rows hb
 split at h
 rename_i cs δ hp
 cases hm:Zk b δ with
 | true=>rw[hm] at h;exact h.elim
 | false=>
  rw[hm] at h;have h9:=Aw h;clear h;obtain⟨cs2,hl2,hc2,hw2,⟨row,U,h⟩,h8⟩:=h9;clear hl2 hc2 h8
  have hall:iT (mQ (sD T ps y))=true:=by
   clear h hm hs e' U hb e hw2;generalize mQ (sD T ps y)=l at hp
   induction l generalizing cs δ with
   | nil=>rfl
   | cons p l ih=>
    unfold pur at hp
    cases hp2:pur (iW.jI P T) lk l with
    | none=>rw[hp2] at hp;cases hp
    | some r=>
     rw[hp2] at hp;simp only[iT,ih _ _ hp2,Bool.and_true];cases p<;>simp[tu] at hp |-
  obtain⟨us,hcs,hr,hone⟩:=I7 hy hall;have hLk:Lk lk st:=λb ro sz rows h=>⟨ro,hlk _ _ h⟩
  obtain⟨Y',H',hr',hyy⟩:=FD _ _ _ hp Y st H hLk us hr;have hst' : jk (jJ δ st) b=some (.arr false sz rows):=by rw[Ou δ st hm];exact hlk _ _ hb
  obtain⟨row',w',hK,I,H2⟩:=XM (P:=P) H' hinfo hsize hst' hs U hcs (hw2 _ _ _ _ hr') h;refine⟨_,_,Go.undef,w',Y',σ,hK,.inr ⟨?_,rfl⟩,?_,by simp[Rep],Off.refl _ _⟩
  simp[execOp,ho,e',Instr.storeAt,Instr.sureAddr,I]
  have:∀ (δ:Dl) (st:St) (e:Nat×Option mO),jJ (δ++[e]) st=oH (jJ δ st) e.1 e.2:=by
   intro δ;induction δ with
   | nil=>intro st e;rfl
   | cons d δ ih=>intro st e;simp only[List.cons_append,jJ];exact ih _ _
  rw[this]
  have hn:n<=uH (δ++[(b,some (.arr false sz ((iW.jI P T).Oc rows r row')))]) n id:=by
   cases δ<;>simp[uH]<;>omega
  exact H2.mono hn
 exact h.elim
 rename_i sz rows hb;have hst:=hlk _ _ hb;have hB:gW w Y σ l (.mg sz rows):=gW.yR H hlk hb hs;unfold gW at hB;obtain⟨⟨arr,ty,ha,has⟩,hsz,hpos,⟨hle,hnr⟩,hrows,hm⟩:=hB;have others:∀ b' y l',b'≠b->jk st b'=some y->σ b'=some l'->l'.cb≠l.cb:=λb' y l' hne h1 h2 e=>hne (H.store.inj b' b y _ l' l h1 hst h2 hs e)
 have blk:∀ {w' : World} {rows' : List (List PV)} {arr' : Array Value},rows'.length=rows.length->w'.heap[l.cb]?=some (.cells arr' ty (0,0))->arr'.size=l.tot->jw w' Y iU l.cb sz rows' l.co->gW w' Y σ l (.mg sz rows'):=by
  intro w' rows' arr' h1 h2 h3 h4;unfold gW;exact⟨⟨arr',ty,h2,h3⟩,hsz,hpos,⟨by rw[h1];exact hle,by rw[h1];exact hnr⟩,h4,hm⟩
 split at h
 rename_i id0 r0 m ey;rw[ey] at hy
 split at h
 rename_i g rows' hb2
 cases hc:(Nat.beq size 1&&Nat.beq id0 b) with
 | true=>rw[hc] at h;exact h.elim
 | false=>
  rw[hc] at h;obtain⟨row,U,h⟩:=h;have hst2:=hlk _ _ hb2;have hne:id0≠b:=λe=>by rw[e] at hst2;rw[hst] at hst2;cases hst2
  unfold Rep at hy
  have hcase:(m=0/\∃ a0,a.eval y=.slice a0 0 0)\/(∃ l cap,(σ id0=some l/\a.eval y=.slice (some ⟨l.cb,l.co+r0*l.sz,none⟩) m cap/\(m<=cap/\cap<=9223372036854775807)/\l.co+r0*l.sz+cap*l.sz=l.tot/\r0+m<=l.nr)/\cap≠0):=by
   rcases hy with ⟨l2,cap,g1,g2,g3,g4⟩|hy
   by_cases hcap0:cap=0
   have hm0:m=0:=by have:=g3.1;omega
   subst hm0 hcap0;exact .inl ⟨rfl,_,g2⟩
   exact .inr ⟨l2,cap,⟨g1,g2,g3,g4⟩,hcap0⟩
   exact .inl hy
  rcases hcase with ⟨hm0,hsl⟩|⟨l2,cap,⟨hl2,ey2,hcap,htot,hrm⟩,hcap0⟩
        
  subst hm0
  let hd:Hdr:=⟨0,0,0⟩;have h:oQ size row c (.agg [.ow hd g []]) (λrow'=>K PV.undef [(id0,none),(b,some (mO.mg sz ((iW.jI P T).Oc rows r row')))]):=h hd
  have hrep:gI w Y iU [.ow hd g []] [a.eval y]:=by
   unfold gI;refine⟨_,_,rfl,?_,by unfold gI;rfl⟩;unfold Rep;exact .inr ⟨rfl,rfl,hsl⟩
  have hcells:(a.eval y).cells=#[a.eval y]:=Ce (by obtain⟨a0,e⟩:=hsl;rw[e];rfl);obtain⟨w',hK,h1,h2,I,⟨w1,w2,w3,w4,w5⟩,⟨arr',h5,h6⟩,h7⟩:=MO (P:=P) hinfo hsize ha has hle hrows hm U (us:=[a.eval y]) (by rw[hcells]) hrep h;have H2:=Zv H hst hs hm others U h2 (by intro h' J es' hh hne;simp only[List.mem_singleton,PV.ow.injEq] at hh;rw[hh.1] at hne;exact hne rfl) w1 w2 w3 w4 w5 (λ_=>blk (rows':=rows.set r (mP row c [.ow hd g []])) aC h5 h6 h7);refine⟨_,_,Go.undef,w',Y,σ,hK,.inr ⟨?_,rfl⟩,?_,by simp[Rep],Off.refl _ _⟩
  rw[<- hsz] at I;simp[execOp,ho,e',Instr.storeAt,Instr.sureAddr,I]
  simp only[jJ];refine SW.mono (n:=n) ?_ dX;refine H2.ext λc' y' hh=>?_;simp only[iQ] at hh |-
  by_cases e1:b=c'
  rw[if_pos e1] at hh |-;exact hh
  rw[if_neg e1] at hh |-
  by_cases e2:id0=c'
  rw[if_pos e2] at hh;cases hh
  rw[if_neg e2] at hh;exact hh
  have hB2:gW w Y σ l2 (.arr false g rows'):=gW.yR H hlk hb2 hl2;unfold gW at hB2;obtain⟨⟨arr2,ty2,ha2,has2⟩,hsz2,hpos2,⟨hle2,hnr2⟩,hrows2,hm2,_⟩:=hB2;have hm2:=hm2 rfl
  let hd:Hdr:=⟨l2.cb,l2.co+r0*l2.sz,cap⟩;have hlen:((rows'.drop r0).take m).length=m:=by rw[List.length_take,List.length_drop];omega
  have h:oQ size row c (.agg [.ow hd g ((rows'.drop r0).take m)]) (λrow'=>K PV.undef [(id0,none),(b,some (mO.mg sz ((iW.jI P T).Oc rows r row')))]):=h hd
  have hrep:gI w Y iU [.ow hd g ((rows'.drop r0).take m)] [a.eval y]:=by
   unfold gI;refine⟨_,_,rfl,?_,by unfold gI;rfl⟩;unfold Rep;exact .inl ⟨hcap0,by rw[hlen];exact ey2,by rw[hlen];exact hcap.1,hcap.2⟩
  have hcells:(a.eval y).cells=#[a.eval y]:=Ce (by rw[ey2];rfl);obtain⟨w',hK,h1,h2,I,⟨w1,w2,w3,w4,w5⟩,⟨arr',h5,h6⟩,h7⟩:=MO (P:=P) hinfo hsize ha has hle hrows hm U (us:=[a.eval y]) (by rw[hcells]) hrep h
  have look:∀ c' y',jk (jJ [(id0,none),(b,some (.mg sz (rows.set r (mP row c [.ow hd g ((rows'.drop r0).take m)]))))] st) c'=some y'->(c'=b/\y'=.mg sz (rows.set r (mP row c [.ow hd g ((rows'.drop r0).take m)])))\/(c'≠b/\c'≠id0/\jk st c'=some y'):=by
   intro c' y' hh;simp only[jJ,iQ] at hh
   by_cases e1:b=c'
   rw[if_pos e1] at hh;cases hh;exact .inl ⟨e1.symm,rfl⟩
   rw[if_neg e1] at hh
   by_cases e2:id0=c'
   rw[if_pos e2] at hh;cases hh
   rw[if_neg e2] at hh;exact .inr ⟨λe=>e1 e.symm,λe=>e2 e.symm,hh⟩
  have hν:hd.ν=l2.cb:=rfl;have hl12:l2.cb≠l.cb:=others id0 _ l2 hne hst2 hl2
  have ow:∀ {b' r' c' h' J es'},ni (jJ [(id0,none),(b,some (.mg sz (rows.set r (mP row c [.ow hd g ((rows'.drop r0).take m)]))))] st) b' r' c' h' J es' ->
    (b'=b/\r'=r/\c'=c/\h'=hd/\J=g/\es'=(rows'.drop r0).take m)\/(ni st b' r' c' h' J es'/\¬ (b'=b/\r'=r/\c'=c)):=by
   rintro b' r' c' h' J es' ⟨sz0,rs,rw0,g1,g2,g3,g4⟩
   rcases look _ _ g1 with ⟨e0,g5⟩|⟨e1,e2,g1⟩
   subst e0;cases g5;rw[List.getElem?_set] at g2
   by_cases hr:r=r'
   subst hr
   have hrlt:r<rows.length:=by
    by_cases hh:r<rows.length
    exact hh
    simp[List.getElem?_eq_none (Nat.le_of_not_lt hh)] at U
   rw[if_pos rfl,if_pos hrlt] at g2;cases g2;rcases WB h2 g3 with ⟨k1,k2,k3⟩|⟨k1,k2⟩
   simp only[List.mem_singleton,PV.ow.injEq] at k3;simp only[List.length_singleton] at k2;exact .inl ⟨rfl,rfl,by omega,k3.1,k3.2.1,k3.2.2⟩
   simp only[List.length_singleton] at k1;exact .inr ⟨⟨sz,rows,row,hst,U,k2,g4⟩,λhh=>by omega⟩
   rw[if_neg hr] at g2;exact .inr ⟨⟨sz,rows,rw0,hst,g2,g3,g4⟩,λhh=>hr hh.2.1.symm⟩
   exact .inr ⟨⟨sz0,rs,rw0,g1,g2,g3,g4⟩,λhh=>e1 hh.1⟩
  have H2:SW C w' Y σ ps a.tmps.toList (jJ [(id0,none),(b,some (.mg sz (rows.set r (mP row c [.ow hd g ((rows'.drop r0).take m)]))))] st) n:=by
   refine SW.XN H hst hs hm others (H.own b _ l hst hs) (λc' y' hh=>(look c' y' hh).imp _root_.id λhh=>⟨hh.1,hh.2.2⟩) w1 w2 w3 w4 w5 (λ_=>blk aC h5 h6 h7) λhk=>?_;have K0:Keep w w' Y Y iU iU:=⟨λk _ hy=>w5 k (λe=>hy (e ▸ hm)),λ_ _ h=>h,Nat.le_of_eq w4.symm,oq.refl _⟩;have notl:∀ {b' r' c' h' J es'},ni st b' r' c' h' J es'->h'.ν≠l.cb/\h'.ν≠l2.cb:=λhh=>⟨(H.nest.sep _ _ _ _ _ _ _ _ _ hh hst hs).symm,(H.nest.sep _ _ _ _ _ _ _ _ _ hh hst2 hl2).symm⟩
   refine⟨λb' r' c' h' J es' hh=>?_,λb' r' c' h' J es' hh=>?_,λb' r' c' h' J es' b'' r'' c'' h'' sz3 es'' hh hh' e=>?_,λb' r' c' h' J es' b'' x l' hh hx hl'=>?_⟩
   rcases ow hh with ⟨_,_,_,rfl,rfl,rfl⟩|⟨hh,_⟩
   refine⟨hm2,hpos2,⟨arr2,ty2,by rw[hν,w5 _ hl12];exact ha2,by rw[has2];show l2.tot=l2.co+r0*l2.sz+cap*J;rw[<- htot,hsz2]⟩,by rw[hlen];exact hcap.1,?_⟩;show jw w' Y iU l2.cb J _ (l2.co+r0*l2.sz);rw[hsz2];exact jw.keep _ K0 (λ_=>w5 _ hl12) _ ((hrows2.drop r0 _ _).take m _ _)
   exact(H.nest.rep _ _ _ _ _ _ hh).keep K0 (w5 _ (notl hh).1) (λh=>h)
   rcases ow hh with ⟨_,_,_,rfl,rfl,rfl⟩|⟨hh,_⟩
   exact H.own id0 _ l2 hst2 hl2
   exact H.nest.old _ _ _ _ _ _ hh
   rcases ow hh with ⟨e1,e2,e3,e4,_⟩|⟨hh1,_⟩<;>rcases ow hh' with ⟨f1,f2,f3,f4,_⟩|⟨hh2,_⟩
   exact⟨by rw[e1,f1],by rw[e2,f2],by rw[e3,f3]⟩
   exact absurd (by rw[<- e,e4]) (notl hh2).2
   exact absurd (by rw[e,f4]) (notl hh1).2
   exact H.nest.one _ _ _ _ _ _ _ _ _ _ _ _ hh1 hh2 e
   have hx2:(b''=b\/b''≠b)/\b''≠id0/\∃ z,jk st b''=some z:=by
    rcases look _ _ hx with ⟨rfl,_⟩|⟨e1,e2,hx⟩
    exact⟨.inl rfl,λe=>hne e.symm,_,hst⟩
    exact⟨.inr e1,e2,_,hx⟩
   obtain⟨_,hxi,z,hz⟩:=hx2;rcases ow hh with ⟨_,_,_,rfl,_⟩|⟨hh,_⟩
   exact λe=>hxi (H.store.inj b'' id0 z _ l' l2 hz hst2 hl' hl2 e)
   exact H.nest.sep _ _ _ _ _ _ _ _ _ hh hz hl'
  refine⟨_,_,Go.undef,w',Y,σ,hK,.inr ⟨?_,rfl⟩,H2.mono dX,by simp[Rep],Off.refl _ _⟩;rw[<- hsz] at I;simp[execOp,ho,e',Instr.storeAt,Instr.sureAddr,I]
 exact h.elim
 split at h
 rename_i cs hp;have hall:iT (mQ (sD T ps y))=true:=(MP _ _ _ hp).2;obtain⟨us,hcs,hr,hone⟩:=I7 hy hall;have hLk:Lk lk st:=λb ro sz rows h=>⟨ro,hlk _ _ h⟩
 obtain⟨row,U,h⟩:=h;have hr':=Pn hp hr;obtain⟨w',hK,h1,h2,I,⟨w1,w2,w3,w4,w5⟩,⟨arr',h5,h6⟩,h7⟩:=MO (P:=P) hinfo hsize ha has hle hrows hm U hcs hr' h;have H2:=Zv H hst hs hm others U h2 (by intro h' J es' hh hne;exact absurd hh (UH _ _ _ hp _ _ _)) w1 w2 w3 w4 w5 (λ_=>blk (rows':=rows.set r (mP row c cs)) aC h5 h6 h7);refine⟨_,_,Go.undef,w',Y,σ,hK,.inr ⟨?_,rfl⟩,H2.mono dX,by simp[Rep],Off.refl _ _⟩;rw[<- hsz] at I;simp[execOp,ho,e',Instr.storeAt,Instr.sureAddr,I]
 exact h.elim
 rename_i sz rows r0 row hb;obtain⟨hr0,h⟩:=h;cases hr0;obtain⟨row',w',hK,I,H'⟩:=XL H hinfo hsize (hlk _ _ hb) hs hy h;refine⟨_,_,Go.undef,w',Y,σ,hK,.inr ⟨?_,rfl⟩,?_,by simp[Rep],Off.refl _ _⟩
 simp[execOp,ho,e',Instr.storeAt,Instr.sureAddr,I]
 simp only[jJ,uH];exact H'.mono ah
 exact h.elim
 rename_i b r c hd sz j k e;rw[e] at hx;unfold Rep at hx
 split at h
 rename_i sz0 rows hb;have hst:=hlk _ _ hb
 split at h
 rename_i cs hp;have hall:iT (mQ (sD T ps y))=true:=(MP _ _ _ hp).2;obtain⟨us,hcs,hr,hone⟩:=I7 hy hall;have h9:=Aw h;clear h;obtain⟨cs2,hl2,hc2,hw2,⟨row,U,h⟩,h8⟩:=h9;clear hl2 hc2 h8;have hr':=hw2 _ _ _ _ (Pn hp hr)
 split at h
 rename_i h' g es ec
 cases hs:Nat.beq g sz with
 | false=>rw[hs] at h;exact h.elim
 | true=>
  rw[hs] at h;simp only[cond_true] at h;have hs:=Nat.eq_of_beq_eq_true hs;subst hs;obtain⟨he,er,her,h⟩:=h;subst he;have hc:row[c]?=some (.ow hd g es):=by rw[Df,List.getD_eq_getElem?_getD] at ec;exact getD_some ec
  have hne:es≠[]:=by rintro rfl;simp at her
  have hcap:=H.aen hst U hc hne;have hO:ni st b r c hd g es:=⟨sz0,rows,row,hst,U,hc,hcap⟩;have hN:=H.nest.rep _ _ _ _ _ _ hO;obtain⟨arr,ty,ha,has⟩:=hN.blk;have hle:hd.o+es.length*g<=hd.o+hd.cap*g:=by have:=Nat.mul_le_mul_right g hN.len;omega
  obtain⟨w',hK,h1,h2,I,⟨w1,w2,w3,w4,w5⟩,⟨arr',h5,h6⟩,h7⟩:=MO (P:=P) hinfo hsize ha has hle hN.rows hN.own her hcs hr' h
  obtain⟨l,hl,hB⟩:∃ l,σ b=some l/\gW w Y σ l (.mg sz0 rows):=by
   rcases H.store.blk b _ hst with h|⟨_,hx⟩
   exact h
   cases hx;simp at U
  have hlν:l.cb≠hd.ν:=H.nest.sep _ _ _ _ _ _ _ _ _ hO hst hl
  have hclt:c<row.length:=by
   by_cases hh:c<row.length
   exact hh
   simp[List.getElem?_eq_none (Nat.le_of_not_lt hh)] at hc
  have hrlt:r<rows.length:=by
   by_cases hh:r<rows.length
   exact hh
   simp[List.getElem?_eq_none (Nat.le_of_not_lt hh)] at U
  have hne' : es.set j (mP er k cs2)≠[]:=by
   intro h0;have:=congrArg List.length h0;simp at this;exact hne this
  have ow:∀ {b' r' c' h2 J es'},ni (oH st b (some (.mg sz0 (rows.set r (nY row c (.ow hd g (es.set j (mP er k cs2)))))))) b' r' c' h2 J es' ->
    (b'=b/\r'=r/\c'=c/\h2=hd/\J=g/\es'=es.set j (mP er k cs2))\/(ni st b' r' c' h2 J es'/\¬ (b'=b/\r'=r/\c'=c)):=by
   rintro b' r' c' h2 J es' ⟨szx,rs,rw0,g1,g2,g3,g4⟩
   rw[iQ] at g1
   by_cases e1:b=b'
   subst e1;rw[if_pos rfl] at g1;cases g1;rw[List.getElem?_set] at g2
   by_cases hrr:r=r'
   subst hrr;rw[if_pos rfl,if_pos hrlt] at g2;cases g2;rw[rM,List.getElem?_set] at g3
   by_cases hcc:c=c'
   subst hcc;rw[if_pos rfl,if_pos hclt] at g3;cases g3;exact .inl ⟨rfl,rfl,rfl,rfl,rfl,rfl⟩
   rw[if_neg hcc] at g3;exact .inr ⟨⟨sz0,rows,row,hst,U,g3,g4⟩,λhh=>hcc hh.2.2.symm⟩
   rw[if_neg hrr] at g2;exact .inr ⟨⟨sz0,rows,rw0,hst,g2,g3,g4⟩,λhh=>hrr hh.2.1.symm⟩
   rw[if_neg e1] at g1;exact .inr ⟨⟨szx,rs,rw0,g1,g2,g3,g4⟩,λhh=>e1 hh.1.symm⟩
  have H2:SW C w' Y σ ps a.tmps.toList (oH st b (some (.mg sz0 (rows.set r (nY row c (.ow hd g (es.set j (mP er k cs2)))))))) n:=by
   refine SW.XN (b:=b) (x':=.mg sz0 (rows.set r (nY row c (.ow hd g (es.set j (mP er k cs2)))))) H hst hl hN.own (λb' y l' _ h1 h2=>H.nest.sep _ _ _ _ _ _ _ _ _ hO h1 h2) (H.nest.old _ _ _ _ _ _ hO) (λc' y' hh=>?_) w1 w2 w3 w4 w5 (λhk=>?_) λhk=>?_
   rw[iQ] at hh
   by_cases e1:b=c'
   rw[if_pos e1] at hh;cases hh;exact .inl ⟨e1.symm,rfl⟩
   rw[if_neg e1] at hh;exact .inr ⟨λe=>e1 e.symm,hh⟩
   unfold gW at hB |-;obtain⟨⟨arr0,ty0,b1,b2⟩,b3,b4,⟨b5,b6⟩,b7,b8⟩:=hB;refine⟨⟨arr0,ty0,by rw[w5 _ hlν];exact b1,b2⟩,b3,b4,⟨by simpa using b5,by simpa using b6⟩,?_,b8⟩;have K0:Keep w w' Y Y iU iU:=⟨λk _ hy=>w5 k (λe=>hy (e ▸ hN.own)),λ_ _ h=>h,Nat.le_of_eq w4.symm,oq.refl _⟩;have b7:=jw.keep rows K0 (λ_=>w5 _ hlν) _ b7;rw[jw.iff] at b7 |-;intro i q hi;rw[List.getElem?_set] at hi
   by_cases hri:r=i
   subst hri;rw[if_pos rfl,if_pos hrlt] at hi;cases hi;obtain⟨⟨q1,q2⟩,q3⟩:=b7 r row U;refine⟨⟨by rw[rM];simpa using q1,?_⟩,?_⟩
   rw[rM,qH];rw[qH] at q2;intro p hp;rcases List.mem_or_eq_of_mem_set hp with hh|hh
   exact q2 p hh
   rw[hh];rfl
   rw[jo.iff] at q3 |-;intro i p hi;rw[rM,List.getElem?_set] at hi
   by_cases hci:c=i
   subst hci;rw[if_pos rfl,if_pos hclt] at hi;cases hi;obtain⟨v,hv,hp⟩:=q3 c _ hc;refine⟨v,hv,?_⟩;unfold Rep at hp |-;rcases hp with ⟨p1,p2,p3,p4⟩|⟨p1,_⟩
   exact .inl ⟨p1,by simpa using p2,by simpa using p3,p4⟩
   exact absurd p1 hcap
   rw[if_neg hci] at hi;exact q3 i p hi
   rw[if_neg hri] at hi;exact b7 i q hi
   have K0:Keep w w' Y Y iU iU:=⟨λk _ hy=>w5 k (λe=>hy (e ▸ hN.own)),λ_ _ h=>h,Nat.le_of_eq w4.symm,oq.refl _⟩;have other:∀ {b' r' c' h2 J es'},ni st b' r' c' h2 J es'->¬ (b'=b/\r'=r/\c'=c)->h2.ν≠hd.ν:=λhh hn e=>hn (H.nest.one _ _ _ _ _ _ _ _ _ _ _ _ hh hO e);refine⟨λb' r' c' h2 J es' hh=>?_,λb' r' c' h2 J es' hh=>?_,λb' r' c' h2 J es' b'' r'' c'' h3 sz3 es'' hh hh' e=>?_,λb' r' c' h2 J es' b'' x l' hh hx hl'=>?_⟩
   rcases ow hh with ⟨_,_,_,rfl,rfl,rfl⟩|⟨hh,hn⟩
   exact⟨hN.own,hN.pos,⟨arr',ty,h5,h6⟩,by simpa using hN.len,h7⟩
   exact(H.nest.rep _ _ _ _ _ _ hh).keep K0 (w5 _ (other hh hn)) (λh=>h)
   rcases ow hh with ⟨_,_,_,rfl,rfl,rfl⟩|⟨hh,_⟩
   exact H.nest.old _ _ _ _ _ _ hO
   exact H.nest.old _ _ _ _ _ _ hh
   rcases ow hh with ⟨e1,e2,e3,e4,_⟩|⟨hh1,n1⟩<;>rcases ow hh' with ⟨f1,f2,f3,f4,_⟩|⟨hh2,n2⟩
   exact⟨by rw[e1,f1],by rw[e2,f2],by rw[e3,f3]⟩
   exact absurd (by rw[<- e,e4]) (other hh2 n2)
   exact absurd (by rw[e,f4]) (other hh1 n1)
   exact H.nest.one _ _ _ _ _ _ _ _ _ _ _ _ hh1 hh2 e
   have hz:∃ z,jk st b''=some z:=by
    rw[iQ] at hx
    by_cases e1:b=b''
    subst e1;exact⟨_,hst⟩
    rw[if_neg e1] at hx;exact⟨_,hx⟩
   obtain⟨z,hz⟩:=hz;rcases ow hh with ⟨_,_,_,rfl,_⟩|⟨hh,_⟩
   exact H.nest.sep _ _ _ _ _ _ _ _ _ hO hz hl'
   exact H.nest.sep _ _ _ _ _ _ _ _ _ hh hz hl'
  refine⟨_,_,Go.undef,w',Y,σ,hK,.inr ⟨?_,rfl⟩,H2.mono dX,by simp[Rep],Off.refl _ _⟩;simp[execOp,ho,hx,Instr.storeAt,Instr.sureAddr,I]
 exact h.elim
 exact h.elim
 exact h.elim
 exact h.elim
 exact h.elim
end
end Go.Pv
namespace Go.Pv
open Go
theorem FW {P:Program}{t:TypeId}{z:List PV}(h:GZ P t=some z):∃ U,(∀ w,(zeroValue t).run P w=.ok U w)/\∀ w Y σ,gI w Y σ z U.cells.toList:=by
 unfold GZ at h
 split at h
 rename_i i hi
 split at h
 rename_i U J;cases h;refine⟨U,λw=>by simp[zeroValue,typeInfo,program,Sem.run,Result.andThen,hi,J],λw Y σ=>?_⟩;unfold Wq
 split
 rename_i cs;exact G7 w Y σ _
 rename_i T;have h1:mQ (Jw U)=[Jw U]:=by unfold Jw;split<;>rfl
 have h2:U.cells=#[U]:=by
  cases U<;>first|rfl|(exact absurd rfl (T _))
 rw[h1,h2];unfold gI;exact⟨U,[],rfl,Oo w Y σ U,by simp[gI]⟩
 cases h
 cases h
theorem UI {w:World}{Y:Nat->Prop}{σ:Sg}{p:PV}{v:Value}(h:Rep w Y σ p v)(hp:p≠.top):gI w Y σ (mQ p) v.cells.toList:=by
 cases p
 case top=>exact absurd rfl hp
 case hc=>
  have hc:v.cells=#[v]:=by unfold Rep at h;cases v<;>simp[Ol] at h<;>rfl
  rw[hc];simp only[mQ];unfold gI;exact⟨v,[],rfl,h,by simp[gI]⟩
 case agg cs=>unfold Rep at h;obtain⟨vs,rfl,hr⟩:=h;exact hr
 case os=>
  have hc:v.cells=#[v]:=by
   unfold Rep at h;rcases h with ⟨_,_,_,rfl,_⟩|⟨_,_,rfl⟩<;>rfl
  rw[hc];simp only[mQ];unfold gI;exact⟨v,[],rfl,h,by simp[gI]⟩
 case ow=>
  have hc:v.cells=#[v]:=by
   unfold Rep at h;rcases h with ⟨_,rfl,_⟩|⟨_,_,_,rfl⟩<;>rfl
  rw[hc];simp only[mQ];unfold gI;exact⟨v,[],rfl,h,by simp[gI]⟩
 case bo=>
  have hc:v.cells=#[v]:=by
   unfold Rep at h;rcases h with ⟨_,rfl,_⟩|⟨_,_,_,rfl⟩<;>rfl
  rw[hc];simp only[mQ];unfold gI;exact⟨v,[],rfl,h,by simp[gI]⟩
 all_goals
  have hc:v.cells=#[v]:=by
   unfold Rep at h
   first
    | (subst h;rfl)
    | (obtain⟨_,rfl,_⟩:=h;rfl)
    | (obtain⟨_,_,rfl⟩:=h;rfl)
    | (obtain⟨_,_,rfl,_⟩:=h;rfl)
    | (obtain⟨_,_,_,rfl,_⟩:=h;rfl)
  rw[hc];simp only[mQ];unfold gI;exact⟨v,[],rfl,h,by simp[gI]⟩
section
variable {P:Program}{T:Tab}(hT:jq P T){C:Ctx T}{o:Oper}{a:Act}{w:World}{Y:Nat->Prop}{σ:Sg}{ps:List PV}{st:St}{n id:Nat}{K:PV->Dl->Prop}{lk:Nat->Option mO}
 (H:SW C w Y σ ps a.tmps.toList st n) (hlk:∀ b x,lk b=some x->jk st b=some x) (hid:σ id=none/\T.qf<=id)
theorem SW.newVar (H:SW C w Y σ ps a.tmps.toList st n)(hid:σ id=none/\T.qf<=id){vs:List Value}{row:List PV}(ty:TypeId)(hr:gI w Y σ row vs) :
  ∃ Y' σ',SW C (w.alloc (.cells vs.toArray ty)) Y' σ' ps a.tmps.toList (oH st id (some (.var false row))) (max n (id+1))/\Rep (w.alloc (.cells vs.toArray ty)) Y' σ' (.lv id 0) (.pointer (some ⟨w.heap.size,0,none⟩))/\Off id σ σ':=by
 obtain⟨Y',σ',H',hs,_,_,U⟩:=H.alloc hid vs.toArray ty ⟨w.heap.size,0,row.length,vs.length,1⟩ rfl (.var false row) (λ_ _ e=>by cases e) (by
  intro w' Y' σ' hk I J _;unfold gW;refine⟨⟨_,ty,J,by simp⟩,rfl,by simp[hr.length],?_,λ_=>I,λh=>by cases h⟩;rw[jo.iff];intro i p hi;obtain⟨v,hv,hp⟩:=hr.get? hi;exact⟨v,by rw[cell_of_block J];simpa using hv,hk _ _ hp⟩)
 refine⟨Y',σ',H',?_,U⟩;unfold Rep;exact⟨_,hs,rfl⟩
include hT H hid in
theorem aer {t:TypeId}(ho:o.op=.alloc t)(h:oO T (iW.jI P T) (.alloc t) ps lk id K):qG P C o a w σ ps st n id K:=by
 simp only[oO] at h
 split at h
 rename_i agg size z plain kind e;obtain⟨i,d,h1,h2,h3,h4,h5,J,h7,h8⟩:=wz hT e rfl;obtain⟨g,I,hr⟩:=FW J.symm;obtain⟨Y',σ',H',hrep,U⟩:=H.newVar hid t (hr w Y σ);refine⟨_,_,_,_,Y',σ',h,.inl ?_,H',hrep,U⟩;simp[execOp,ho,Instr.alloc,I,newVar,newRow,newObj,Sem.run,Result.andThen]
 exact h.elim
include H hid in
theorem ahr {t:TypeId}{x:Operand}(ho:o.op=.box t x)(h:oO T (iW.jI P T) (.box t x) ps lk id K):qG P C o a w σ ps st n id K:=by
 have hx:=lD H x;simp only[oO] at h
 split at h
 exact h.elim
 rename_i J;obtain⟨Y',σ',H',hrep,U⟩:=H.newVar hid t (UI hx J);refine⟨_,_,_,_,Y',σ',h,.inl ?_,H',hrep,U⟩;simp[execOp,ho,Instr.box,newVar,newRow,newObj,Sem.run,Result.andThen]
include H in
theorem Zw {f:FuncId}{first cap:Array Operand}(ho:o.op=.makeFunc (.func f) first cap)(h:oO T (iW.jI P T) (.makeFunc (.func f) first cap) ps lk id K):qG P C o a w σ ps st n id K:=by
 simp only[oO] at h
 split at h
 rename_i O;have U : first=#[]:=by simpa using O
 subst U;refine qG.quiet H (cv:=.func (.func f) #[] (cap.map a.eval)) ?_ ?_ h
 simp[execOp,ho,Instr.makeFunc]
 unfold Rep;refine⟨cap.toList.map a.eval,?_,vM H _⟩
 congr 1
 apply Array.ext';simp
 exact h.elim
theorem tX {P:Program}{w:World}{k:IntKind}{m:Int}:(asIntOf (.int k m)).run P w=.ok (k,m) w:=by simp[asIntOf]
include hT H hlk in
theorem XO {t:TypeId}{x i:Operand}(ho:o.op=.indexAddr t x i)(h:oO T (iW.jI P T) (.indexAddr t x i) ps lk id K):qG P C o a w σ ps st n id K:=by
 have hx:=lD H x;have hi:=lD H i;simp only[oO] at h
 split at h
 rename_i agg size z plain esz bytes z' e;obtain⟨et,hu,rfl,_,_⟩:=nJ hT e
 have run:∀ (k:IntKind) (j len cap:Nat) (b off:Nat),a.eval i=.int k (j:Int)->a.eval x=.slice (some ⟨b,off,none⟩) len cap->j<len->P.info? et≠none ->
   (execOp a.eval o).run P w=.ok (.value (.pointer (some ⟨b,off+j*P.cellsOf et,none⟩))) w:=by
  intro k j len cap b off e1 e2 hj hinf;have:(0:Int)<=(j:Int)/\(j:Int)<(len:Int):=by omega
  simp[execOp,ho,Instr.indexAt,e1,e2,tX,lh hu,run_sizeOf hinf,this,addr_add]
 split at h
 rename_i sz es full k m I hie;rw[I] at hx;have g:=qo hi hie
 cases U:(lX (P.cellsOf et)&&Nat.beq sz (P.cellsOf et)) with
 | false=>rw[U] at h;exact h.elim
 | true=>
  rw[U] at h;rw[Bool.and_eq_true] at U;have hinf:=lu U.1;have U:=Nat.eq_of_beq_eq_true U.2;obtain⟨j,row,rfl,hrow,h⟩:=h;unfold Rep at hx;obtain⟨a',len,cap,ex,hl,hc,_,hr⟩:=hx
  have J:j<es.length:=by
   by_cases hh:j<es.length
   exact hh
   simp[List.getElem?_eq_none (Nat.le_of_not_lt hh)] at hrow
  rcases hr with hr|⟨b,off,rfl,hy,hr⟩
  rw[hr] at J;simp at J
  refine qG.quiet H (run k j len cap b off g ex ah hinf) ?_ h;unfold Rep;refine⟨b,_,rfl,hy,?_⟩;rw[<- U];exact(jw.row _ _ _ _ hr hrow).2
 rename_i b r len k m I hie;rw[I] at hx;have g:=qo hi hie
 split at h
 rename_i ro sz rows hbk
 cases U:(lX (P.cellsOf et)&&Nat.beq sz (P.cellsOf et)) with
 | false=>rw[U] at h;exact h.elim
 | true=>
  rw[U] at h;rw[Bool.and_eq_true] at U;have hinf:=lu U.1;have U:=Nat.eq_of_beq_eq_true U.2;obtain⟨j,rfl,J,h⟩:=h;unfold Rep at hx;rcases hx with ⟨l,cap,hs,ex,hn,ht,hnr⟩|⟨rfl,_⟩
  have hB:=gW.yR H hlk hbk hs;unfold gW at hB;refine qG.quiet H (run k j len cap _ _ g ex J hinf) ?_ h;unfold Rep;refine⟨l,hs,?_⟩;have:l.sz=P.cellsOf et:=by rw[hB.2.1,U]
  show Value.pointer (some ⟨l.cb,l.co+r*l.sz+j*P.cellsOf et,none⟩)=Value.pointer (some ⟨l.cb,l.co+(r+j)*l.sz+0,none⟩);rw[<- this,Nat.add_mul];simp[Nat.add_assoc]
  omega
 rename_i sz rows hbk
 cases U:(lX (P.cellsOf et)&&Nat.beq sz (P.cellsOf et)) with
 | false=>rw[U] at h;exact h.elim
 | true=>
  rw[U] at h;rw[Bool.and_eq_true] at U;have hinf:=lu U.1;have U:=Nat.eq_of_beq_eq_true U.2;obtain⟨j,rfl,J,h⟩:=h;unfold Rep at hx;rcases hx with ⟨l,cap,hs,ex,hn,ht,hnr⟩|⟨rfl,_⟩
  have hB:=gW.yR H hlk hbk hs;unfold gW at hB;refine qG.quiet H (run k j len cap _ _ g ex J hinf) ?_ h;unfold Rep;refine⟨l,hs,?_⟩;have:l.sz=P.cellsOf et:=by rw[hB.2.1,U]
  show Value.pointer (some ⟨l.cb,l.co+r*l.sz+j*P.cellsOf et,none⟩)=Value.pointer (some ⟨l.cb,l.co+(r+j)*l.sz+0,none⟩);rw[<- this,Nat.add_mul];simp[Nat.add_assoc]
  omega
 rename_i sz _ _ _ hbk
 cases U:(lX (P.cellsOf et)&&Nat.beq sz (P.cellsOf et)) with
 | false=>rw[U] at h;exact h.elim
 | true=>
  rw[U] at h;rw[Bool.and_eq_true] at U;have hinf:=lu U.1;have U:=Nat.eq_of_beq_eq_true U.2;obtain⟨j,rfl,J,h⟩:=h;unfold Rep at hx;rcases hx with ⟨l,cap,hs,ex,hn,ht,hnr⟩|⟨rfl,_⟩
  have hB:=gW.yR H hlk hbk hs;unfold gW at hB;refine qG.quiet H (run k j len cap _ _ g ex J hinf) ?_ h;unfold Rep;refine⟨l,hs,?_⟩;have:l.sz=P.cellsOf et:=by rw[hB.2.1,U]
  show Value.pointer (some ⟨l.cb,l.co+r*l.sz+j*P.cellsOf et,none⟩)=Value.pointer (some ⟨l.cb,l.co+(r+j)*l.sz+0,none⟩);rw[<- this,Nat.add_mul];simp[Nat.add_assoc]
  omega
 exact h.elim
 rename_i b r c hd sz len k m I hie;rw[I] at hx;have g:=qo hi hie
 cases U:(lX (P.cellsOf et)&&Nat.beq sz (P.cellsOf et)) with
 | false=>rw[U] at h;exact h.elim
 | true=>
  rw[U] at h;rw[Bool.and_eq_true] at U;have hinf:=lu U.1;have U:=Nat.eq_of_beq_eq_true U.2;obtain⟨j,rfl,J,h⟩:=h;unfold Rep at hx;rcases hx with ⟨_,ex,hn⟩|⟨_,rfl,_⟩
  refine qG.quiet H (run k j len hd.cap _ _ g ex J hinf) ?_ h;unfold Rep;rw[<- U];rfl
  omega
 exact h.elim
 ·rename_i agg size z plain len esz ag e;obtain⟨et,hu,rfl,_,_⟩:=Ph hT e
  cases hpos:lX (P.cellsOf et) with
  | false=>rw[hpos] at h;exact h.elim
  | true=>
  rw[hpos] at h;simp only[cond_true] at h;have hinf:=lu hpos
  have run:∀ (k:IntKind) (j:Nat) (b off:Nat),a.eval i=.int k (j:Int)->a.eval x=.pointer (some ⟨b,off,none⟩)->j<len ->
    (execOp a.eval o).run P w=.ok (.value (.pointer (some ⟨b,off+j*P.cellsOf et,none⟩))) w:=by
   intro k j b off e1 e2 hj;have:(0:Int)<=(j:Int)/\(j:Int)<(len:Int):=by omega
   simp[execOp,ho,Instr.indexAt,e1,e2,tX,lh hu,run_sizeOf hinf,this,addr_add,Instr.sureAddr]
  have fin:∀ (k:IntKind) (j:Nat),a.eval i=.int k (j:Int)->j<len->(match sD T ps x with
    | .lv b c=>K (.lv b (c+j*P.cellsOf et)) []
    | .lp b r c=>K (.lp b r (c+j*P.cellsOf et)) []
    | .pp cs=>bif Nat.ble (j*P.cellsOf et) (oG cs) then K (.pp (FP (j*P.cellsOf et) cs)) [] else False
    | _=>False)->qG P C o a w σ ps st n id K:=by
   intro k j g hj h
   split at h
   rename_i b c I;rw[I] at hx;unfold Rep at hx;obtain⟨l,hs,ex⟩:=hx;refine qG.quiet H (run k j _ _ g ex hj) ?_ h;unfold Rep;exact⟨l,hs,by rw[Nat.add_assoc]⟩
   rename_i b r c I;rw[I] at hx;unfold Rep at hx;obtain⟨l,hs,ex⟩:=hx;refine qG.quiet H (run k j _ _ g ex hj) ?_ h;unfold Rep;exact⟨l,hs,by rw[Nat.add_assoc]⟩
   rename_i cs I;rw[I] at hx;unfold Rep at hx;obtain⟨b,off,ex,hy,hr⟩:=hx
   cases U:Nat.ble (j*P.cellsOf et) (oG cs) with
   | false=>rw[U] at h;exact h.elim
   | true=>
    rw[U] at h;refine qG.quiet H (run k j _ _ g ex hj) ?_ h;unfold Rep;rw[yP];exact⟨b,_,rfl,hy,hr.drop _ _ _⟩
   exact h.elim
  split at h
  rename_i k m hie;rw[hie] at hi
  cases U:Nat.blt m len with
  | false=>simp only[U,cond_false] at h
  | true=>
   simp only[U,cond_true] at h;exact fin k m (vN hi) (by simpa [Nat.blt_eq] using U) h
  rename_i k m hie;rw[hie] at hi;obtain⟨j,rfl,hj,h⟩:=h;exact fin k j (UF hi) hj h
  exact h.elim
 exact h.elim
end
end Go.Pv
namespace Go.Pv
open Go
theorem Zx {P:Program}{w:World}{Y:Nat->Prop}{σ:Sg}{t:TypeId}{c size:Nat}{cs:List PV}{vs:List Value}{agg:Bool}{K:PV->Prop}
  (I:P.info? t≠none) (hsize:size=P.cellsOf t) (T:agg=lK P t) (C:∃ d,P.underlying t=some d)
  (hr:gI w Y σ cs vs) (h:loadRow agg size cs c K) :
  ∃ v cv,K v/\(part t vs.toArray c).run P w=.ok cv w/\Rep w Y σ v cv:=by
 obtain⟨d,hu⟩:=C;unfold loadRow at h;have hlen:=hr.length
 cases agg with
 | true=>
  simp only[cond_true] at h
  cases U:Nat.ble (c+size) (oG cs) with
  | false=>simp only[U,cond_false] at h
  | true=>
   simp only[U,cond_true,KQ,yP] at h;have hle:c+size<=cs.length:=by simpa using Nat.le_of_ble_eq_true U
   refine⟨_,.agg ((vs.drop c).take size).toArray,h,?_,?_⟩
   simp only[part,Sem.run_bind,I5 hu,<- T,Result.andThen,if_true,run_sizeOf I,<- hsize];simp only[Sem.run_pure]
   congr 2
   apply Array.ext';simp[List.extract_eq_take_drop]
   unfold Rep;refine⟨_,rfl,?_⟩;clear h U hle hlen
   have drop:∀ (n:Nat) (cs:List PV) (vs:List Value),gI w Y σ cs vs->gI w Y σ (cs.drop n) (vs.drop n):=by
    intro n;induction n with
    | zero=>intro cs vs h;simpa using h
    | succ n ih=>
     intro cs vs h
     cases cs with
     | nil=>unfold gI at h;subst h;simp[gI]
     | cons c cs=>unfold gI at h;obtain⟨v,J,rfl,_,h2⟩:=h;simpa using ih cs J h2
   have take:∀ (n:Nat) (cs:List PV) (vs:List Value),gI w Y σ cs vs->gI w Y σ (cs.take n) (vs.take n):=by
    intro n;induction n with
    | zero=>intro cs vs h;simp[gI]
    | succ n ih=>
     intro cs vs h
     cases cs with
     | nil=>unfold gI at h;subst h;simp[gI]
     | cons c cs=>
      unfold gI at h;obtain⟨v,J,rfl,h1,h2⟩:=h;simp only[List.take_succ_cons];unfold gI;exact⟨v,_,rfl,h1,ih cs J h2⟩
   exact take size _ _ (drop c _ _ hr)
 | false=>
  simp only[cond_false] at h
  cases U:Nat.blt c (oG cs) with
  | false=>simp only[U,cond_false] at h
  | true=>
   simp only[U,cond_true] at h;have g:c<vs.length:=by rw[hlen];simpa [Nat.blt_eq] using U
   have hg:=hr.get _ _ c;rw[List.getD_eq_getElem?_getD,List.getElem?_eq_getElem g] at hg;refine⟨_,vs[c],h,?_,hg⟩;simp only[part,Sem.run_bind,I5 hu,<- T,Result.andThen];simp[g]
def NR (P:Program):Prop:=∀ t,P.info? t≠none->∃ d,P.underlying t=some d
section
variable {P:Program}{T:Tab}(hT:jq P T){C:Ctx T}{o:Oper}{a:Act}{w:World}{Y:Nat->Prop}{σ:Sg}{ps:List PV}{st:St}{n id:Nat}{K:PV->Dl->Prop}{lk:Nat->Option mO}
 (H:SW C w Y σ ps a.tmps.toList st n) (hlk:∀ b x,lk b=some x->jk st b=some x) (hid:σ id=none/\T.qf<=id) (hU:NR P)
include hT H hU in
theorem aes {t:TypeId}{x:Operand}{f:Nat}(ho:o.op=.field t x f)(h:oO T (iW.jI P T) (.field t x f) ps lk id K):qG P C o a w σ ps st n id K:=by
 have hc:=lD H x;simp only[oO] at h
 split at h
 rename_i fs e;obtain⟨fl,hu,rfl,_⟩:=Oq hT e
 split at h
 rename_i fd O;rw[JA,List.getElem?_map] at O
 cases hg:fl.toList[f]? with
 | none=>simp[hg] at O
 | some g=>
  simp[hg] at O;subst O;have I : fl[f]?=some g:=by simpa using hg
  split at h
  rename_i cs e;rw[e] at hc
  cases hp:lX (P.cellsOf g.type) with
  | false=>simp only[hp] at h;exact h.elim
  | true=>
   simp only[hp,cond_true] at h;have U:=lu hp;unfold Rep at hc;obtain⟨vs,e',hr⟩:=hc;obtain⟨v,cv,hK,J,hrep⟩:=Zx U rfl rfl (hU _ U) hr h;refine qG.quiet H (cv:=cv) ?_ hrep hK;simp[execOp,ho,Instr.field,lh hu,I,e',asAgg,J]
  exact h.elim
 exact h.elim
 exact h.elim
include hT H hU in
theorem aet {t:TypeId}{x i:Operand}(ho:o.op=.index t x i)(h:oO T (iW.jI P T) (.index t x i) ps lk id K):qG P C o a w σ ps st n id K:=by
 have hx:=lD H x;have hi:=lD H i;simp only[oO] at h
 split at h
 rename_i agg size z plain s k m e J g;rw[J] at hx;have hu:=Pj hT e;have I:=qo hi g;have hxv:=G8 hx;obtain⟨j,c,rfl,hj,h⟩:=h;refine qG.quiet H (cv:=.int .u8 c.toNat) ?_ bU h;simp[execOp,ho,Instr.index,I,hxv,tX,lh hu,hj]
 rename_i agg size z plain len esz ag cs k m e J g;rw[J] at hx;obtain⟨et,hu,rfl,rfl,_⟩:=Ph hT e;have I:=qo hi g
 cases hp:lX (P.cellsOf et) with
 | false=>simp only[hp] at h;exact h.elim
 | true=>
  simp only[hp,cond_true] at h;have U:=lu hp;obtain⟨j,rfl,hj,h⟩:=h;unfold Rep at hx;obtain⟨vs,ex,hr⟩:=hx;obtain⟨v,cv,hK,hrun,hrep⟩:=Zx U rfl rfl (hU _ U) hr h;refine qG.quiet H (cv:=cv) ?_ hrep hK;have:(0:Int)<=(j:Int)/\(j:Int)<(len:Int):=by omega
  simp[execOp,ho,Instr.index,I,ex,tX,lh hu,this,run_sizeOf U,hrun]
 exact h.elim
end
theorem bytes_beq (a b:ByteArray):(a.toList==b.toList)=decide (a=b):=by
 rw[Bool.eq_iff_iff];simp only[beq_iff_eq,decide_eq_true_eq,ByteArray.toList_eq];obtain⟨⟨x⟩⟩:=a;obtain⟨⟨y⟩⟩:=b;simp
def ceq:Nat->Value->Value->Option Bool
 | 0,.int k a,.int k' b=>if k=k' then some (a==b) else none
 | 1,.bool a,.bool b=>some (a==b)
 | 2,.string a,.string b=>some (a.toList==b.toList)
 | _,_,_=>none
def GX:List Nat->List Value->List Value->Option Bool
 | [],[],[]=>some true
 | k::ks,x::xs,y::ys=>match ceq k x y with
  | none=>none
  | some a=>match GX ks xs ys with
   | none=>none
   | some b=>some (a&&b)
 | _,_,_=>none
theorem aga {P:Program}{T:Tab}{w:World}{Y:Nat->Prop}{σ:Sg}{k:Nat}{p q:PV}{u v:Value}{b:Bool}(h:eqC (iW.jI P T) k p q=some b)(hp:Rep w Y σ p u)(hq:Rep w Y σ q v):ceq k u v=some b:=by
 unfold eqC at h
 split at h
 split at h
 rename_i k1 a k2 c h1 h2
 cases hk:tC k1 k2 with
 | false=>simp[hk] at h
 | true=>
  simp only[hk,cond_true,Option.some.injEq] at h;have:=FC hk;subst this;rw[qo hp h1,qo hq h2];subst h;have:(a==c)=decide (a=c):=by rw[Bool.eq_iff_iff];simp
  simp[ceq,iW.jI,Ap,this]
 cases h
 split at h
 rename_i a c h1 h2;rw[MN hp h1,MN hq h2];simp only[Option.some.injEq] at h;subst h;simp[ceq,iW.jI]
 cases h
 rw[G8 hp,G8 hq];simp only[Option.some.injEq] at h;subst h;simp[ceq,iW.jI,jc,bytes_beq]
 cases h
theorem WC {P:Program}{T:Tab}{w:World}{Y:Nat->Prop}{σ:Sg}:∀ (U:List Nat) (ps qs:List PV) (us vs:List Value) (b:Bool),aaL (iW.jI P T) U ps qs=some b->gI w Y σ ps us->gI w Y σ qs vs->GX U us vs=some b
 | [],[],[],us,vs,b,h,hp,hq=>by
  unfold gI at hp hq;subst hp;subst hq;simp[aaL] at h;subst h;rfl
 | k::U,p::ps,q::qs,us,vs,b,h,hp,hq=>by
  unfold gI at hp hq;obtain⟨u,us,rfl,C,J⟩:=hp;obtain⟨v,vs,rfl,I,g⟩:=hq;simp only[aaL] at h
  cases h1:eqC (iW.jI P T) k p q with
  | none=>rw[h1] at h;cases h
  | some a=>
   rw[h1] at h
   cases h2:aaL (iW.jI P T) U ps qs with
   | none=>rw[h2] at h;cases h
   | some c=>
    rw[h2] at h;simp only[Option.some.injEq] at h;subst h;simp only[GX,aga h1 C I,WC U ps qs us vs c h2 J g];rfl
 | [],[],_::_,_,_,_,h,_,_|[],_::_,_,_,_,_,h,_,_|_::_,[],_,_,_,_,h,_,_|_::_,_::_,[],_,_,_,h,_,_=>by simp[aaL] at h
theorem Po:∀ (U:List Nat) (us vs:List Value) (b:Bool),GX U us vs=some b->us.length=U.length/\vs.length=U.length
 | [],[],[],_,_=>by simp
 | k::U,u::us,v::vs,b,h=>by
  simp only[GX] at h
  cases h1:ceq k u v with
  | none=>rw[h1] at h;cases h
  | some a=>
   rw[h1] at h
   cases h2:GX U us vs with
   | none=>rw[h2] at h;cases h
   | some c=>have:=Po U us vs c h2;simp[this]
 | [],[],_::_,_,h|[],_::_,_,_,h|_::_,[],_,_,h|_::_,_::_,[],_,h=>by simp[GX] at h
theorem UJ:∀ (U ls:List Nat) (us vs:List Value) (b:Bool),GX (U++ls) us vs=some b ->
  ∃ J T,GX U (us.take U.length) (vs.take U.length)=some J/\GX ls (us.drop U.length) (vs.drop U.length)=some T/\b=(J&&T)
 | [],ls,us,vs,b,h=>⟨true,b,by simp[GX],by simpa using h,by simp⟩
 | k::U,ls,[],vs,b,h=>by simp[GX] at h
 | k::U,ls,u::us,[],b,h=>by simp[GX] at h
 | k::U,ls,u::us,v::vs,b,h=>by
  simp only[List.cons_append,GX] at h
  cases h1:ceq k u v with
  | none=>rw[h1] at h;cases h
  | some a=>
   rw[h1] at h
   cases h2:GX (U++ls) us vs with
   | none=>rw[h2] at h;cases h
   | some c=>
    rw[h2] at h;simp only[Option.some.injEq] at h;obtain⟨J,T,e1,C,I⟩:=UJ U ls us vs c h2;refine⟨a&&J,T,by simp[GX,h1,e1],by simpa using C,?_⟩;rw[<- h,I,Bool.and_assoc]
def valOf (P:Program)(t:TypeId)(us:List Value):Value:=if lK P t then .agg us.toArray else us.headD Go.undef
theorem JB {P:Program}{w:World}{t:TypeId}(U:P.info? t≠none)(J:∃ d,P.underlying t=some d){us:List Value}{c s:Nat}(hs:s=P.cellsOf t)(hle:c+s<=us.length)(h1:lK P t=false->s=1) :
  (part t us.toArray c).run P w=.ok (valOf P t ((us.drop c).take s)) w:=by
 obtain⟨d,hu⟩:=J;simp only[part,Sem.run_bind,I5 hu,Result.andThen];unfold valOf
 cases I:lK P t with
 | true=>
  simp only[if_true,Sem.run_bind,run_sizeOf U,Result.andThen,Sem.run_pure,<- hs]
  congr 2
  apply Array.ext';simp[List.extract_eq_take_drop]
 | false=>
  have:=h1 I;subst this;have T:c<us.length:=by omega
  simp only[Bool.false_eq_true,if_false];rw[show us.toArray[c]?=some us[c] by simp[T]];have:(us.drop c).take 1=[us[c]]:=by rw[List.drop_eq_getElem_cons T];rfl
  simp[this]
theorem WE {P:Program}:∀ (d:Nat) (t:TypeId) (U:List Nat),xm P d t=some U->lK P t=false->U.length=1
 | 0,_,_,h,_=>by simp[xm] at h
 | d+1,t,U,h,ha=>by
  unfold xm at h;unfold lK at ha
  split at h
  all_goals first
   | (cases h;done)
   | (cases h;rfl)
   | (rename_i hu;simp[hu] at ha;done)
theorem SE:∀ (n:Nat) (l:List Nat),(Zj n l).length=n*l.length
 | 0,l=>by simp[Zj]
 | n+1,l=>by simp[Zj,SE n l,Nat.add_mul];omega
theorem IA {P:Program}(hU:NR P):∀ (d:Nat) (t:TypeId) (J:List Nat),xm P d t=some J->∀ (D:Nat),d<=D->∀ (us vs:List Value) (b:Bool),GX J us vs=some b ->
  ∀ w,(Op.equalIn D t (valOf P t us) (valOf P t vs)).run P w=.ok b w
 | 0,_,_,h=>by simp[xm] at h
 | d+1,t,J,h=>by
  intro D hD us vs b U w;obtain⟨D,rfl⟩:∃ D',D=D'+1:=⟨D-1,by omega⟩;have hD:d<=D:=by omega
  unfold xm at h
  have one:∀ k,J=[k]->∃ u v,us=[u]/\vs=[v]/\ceq k u v=some b:=by
   intro k e;subst e;have hl:=Po _ _ _ _ U
   match us,vs,hl with
   | [u],[v],_=>
    simp only[GX] at U
    cases h1:ceq k u v with
    | none=>rw[h1] at U;cases U
    | some a=>rw[h1] at U;simp at U;subst U;exact⟨u,v,rfl,rfl,h1⟩
  split at h
  rename_i hu;cases h;obtain⟨u,v,rfl,rfl,hc⟩:=one 1 rfl;have:lK P t=false:=by simp[lK,hu]
  simp only[valOf,this,Bool.false_eq_true,if_false,List.headD_cons];unfold ceq at hc
  split at hc
  rename_i h0;cases h0
  simp only[Option.some.injEq] at hc;subst hc;exact run_equalIn_bool' w D t _ _ hu
  rename_i h0;cases h0
  cases hc
  rename_i k hu;cases h;obtain⟨u,v,rfl,rfl,hc⟩:=one 0 rfl;have:lK P t=false:=by simp[lK,hu]
  simp only[valOf,this,Bool.false_eq_true,if_false,List.headD_cons];unfold ceq at hc
  split at hc
  split at hc
  simp only[Option.some.injEq] at hc;subst hc;rename_i hk;subst hk;exact run_equalIn_int w D t _ _ _ _ hu
  cases hc
  rename_i h0;cases h0
  rename_i h0;cases h0
  cases hc
  rename_i hu;cases h;obtain⟨u,v,rfl,rfl,hc⟩:=one 2 rfl;have:lK P t=false:=by simp[lK,hu]
  simp only[valOf,this,Bool.false_eq_true,if_false,List.headD_cons];unfold ceq at hc
  split at hc
  rename_i h0;cases h0
  rename_i h0;cases h0
  simp only[Option.some.injEq] at hc;subst hc;exact run_equalIn_string w D t _ _ hu
  cases hc
  rename_i fs hu
  cases C:P.stoodInHeld t with
  | true=>rw[C] at h;cases h
  | false=>
   simp only[C,Bool.false_eq_true,if_false] at h;have I:lK P t=true:=by simp[lK,hu]
   simp only[valOf,I,if_true];have O:P.fieldsOf t=fs:=by simp[Program.fieldsOf,hu]
   rw[run_equalIn_struct w D t _ _ (by rw[O];exact hu) C,O]
   have key:∀ (l:List Field) (off:Nat) (J:List Nat) (b:Bool),MM P (xm P d) l off=some J->GX J (us.drop off) (vs.drop off)=some b ->
     (Op.eqFields D us.toArray vs.toArray l).run P w=.ok b w:=by
    intro l
    induction l with
    | nil=>
     intro off J b h U;simp[MM] at h;subst h
     have g : b=true:=by
      generalize us.drop off=x at U;generalize vs.drop off=y at U;cases x<;>cases y<;>simp[GX] at U
      exact U
     subst g;simp[Op.eqFields]
    | cons f l ih=>
     intro off J b h U;unfold MM at h
     split at h
     rename_i hc;obtain⟨ho,hn,hi⟩:=hc
     cases hs:xm P d f.type with
     | none=>rw[hs] at h;cases h
     | some s=>
      rw[hs] at h;simp only at h
      split at h
      rename_i hsz0;obtain⟨hsz,hpos⟩:=hsz0
      cases hr:MM P (xm P d) l (off+s.length) with
      | none=>rw[hr] at h;cases h
      | some r=>
       rw[hr] at h;simp only[Option.some.injEq] at h;subst h;obtain⟨b1,b2,e1,e2,rfl⟩:=UJ _ _ _ _ _ U;rw[List.drop_drop,List.drop_drop] at e2;have hl:=Po _ _ _ _ e1
       have hle1:off+s.length<=us.length:=by
        have:=hl.1;rw[List.length_take,List.length_drop] at this;omega
       have hle2:off+s.length<=vs.length:=by
        have:=hl.2;rw[List.length_take,List.length_drop] at this;omega
       have T:lK P f.type=false->s.length=1:=λI=>WE d _ _ hs I;subst ho;simp only[Op.eqFields,ne_eq,hn,not_false_eq_true,if_true,Sem.run_bind];rw[JB hi (hU _ hi) hsz.symm hle1 T];simp only[Result.andThen];rw[JB hi (hU _ hi) hsz.symm hle2 T];simp only[Result.andThen];rw[IA hU d f.type s hs D hD _ _ b1 e1 w];simp only[Result.andThen];cases b1
       simp
       simpa using ih _ _ b2 hr e2
      cases h
     cases h
   exact key fs.toList 0 J b h (by simpa using U)
  ·rename_i n e hu
   cases hs:xm P d e with
   | none=>rw[hs] at h;cases h
   | some s=>
    rw[hs] at h;simp only at h
    split at h
    ·rename_i hc;obtain⟨hsz,hi⟩:=hc;simp only[Option.some.injEq] at h;subst h;have I:lK P t=true:=by simp[lK,hu]
     simp only[valOf,I,if_true]
     cases hinf:P.info? e with
     | none=>exact absurd hinf hi
     | some inf=>
     rw[run_equalIn_array w D us.toArray vs.toArray hu hinf];have T:lK P e=false->s.length=1:=λI=>WE d _ _ hs I;have hl:=Po _ _ _ _ U;rw[SE] at hl
     have key:∀ (m i:Nat) (b:Bool),i+m=n->GX (Zj m s) (us.drop (i*s.length)) (vs.drop (i*s.length))=some b ->
       (Op.eqItems D e (P.cellsOf e) us.toArray vs.toArray (List.range' i m)).run P w=.ok b w:=by
      intro m
      induction m with
      | zero=>
       intro i b _ U
       have g : b=true:=by
        simp only[Zj] at U;generalize us.drop (i*s.length)=x at U;generalize vs.drop (i*s.length)=y at U;cases x<;>cases y<;>simp[GX] at U
        exact U
       subst g;simp[Op.eqItems]
      | succ m ih=>
       intro i b him U;simp only[Zj] at U;obtain⟨b1,b2,e1,e2,rfl⟩:=UJ _ _ _ _ _ U;rw[List.drop_drop,List.drop_drop] at e2
       have hb1:i*s.length+s.length<=n*s.length:=by
        have:=Nat.mul_le_mul_right s.length (show i+1<=n by omega);rw[Nat.add_mul] at this;omega
       simp only[List.range'_succ,Op.eqItems,Sem.run_bind,hsz];rw[JB hi (hU _ hi) hsz.symm ah T];simp only[Result.andThen];rw[JB hi (hU _ hi) hsz.symm ah T];simp only[Result.andThen];rw[IA hU d e s hs D hD _ _ b1 e1 w];simp only[Result.andThen];cases b1
       simp
       have:=ih (i+1) b2 ah (by rw[Nat.add_mul,Nat.one_mul];exact e2);rw[hsz] at this
       simpa using this
     have:=key n 0 b ah (by simpa using U);rw[List.range_eq_range'];exact this
    cases h
  cases h
end Go.Pv
