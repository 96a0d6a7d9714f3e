import Derived.Laws.StructEq
import Derived.ChangeKeysEq
import Derived.Test.YtchmoabpofnbaaaGreatB00
set_option linter.all false
namespace Go.Pv
open Go
theorem vS {P:Program}{T:Tab}(hT:jv P T){t:TypeId}{x:TI}(h:T t=x)(ok:x.ok=true) :
  ∃ i d,P.info? t=some i/\P.underlying t=some d/\x=acD P t/\x.agg=lG P t/\x.size=i.size/\x.zero=FZ P t /\
   x.plain=(if P.eqGuardType P.depth t then none else wV P 20 t) /\
   x.kind=(match d with
    | .struct U=>TK.struct (U.toList.map λf=>{ off:=f.offset,size:=P.cellsOf f.type,agg:=lG P f.type })
    | .array n e=>.arr n (P.cellsOf e) (lG P e)
    | .slice e=>.slice (P.cellsOf e) (P.bytesOf e) (FZ P e)
    | .int k=>.int k
    | .string=>.str
    | .pointer _=>.ptr
    | .map k e=>NQ P k e
    | _=>.oth):=by
 have e:=(hT t (by rw[h];exact ok)).1;rw[h] at e;subst h;unfold acD at e
 split at e
 rename_i i d h1 h2;rw[e];refine⟨i,d,h1,h2,?_,rfl,rfl,rfl,rfl,rfl⟩;unfold acD;rw[h1,h2]
 rw[e] at ok;simp[TI.bad] at ok
theorem MX {P:Program}{T:Tab}(hT:jv P T){t:TypeId}{agg:Bool}{plain:Option (List Nat)}{size:Nat}{z:Option (List PV)}{I:List FI}
  (h:T t=⟨true,agg,size,z,plain,.struct I⟩):∃ J,P.underlying t=some (.struct J)/\I=(J.toList.map λf=>{ off:=f.offset,size:=P.cellsOf f.type,agg:=lG P f.type })/\z=FZ P t:=by
 obtain⟨i,d,h1,h2,h3,g,h5,C,h7,U⟩:=vS hT h rfl;cases d<;>simp at U
 case map k e=>unfold NQ at U;split at U<;>cases U
 rename_i J;exact⟨J,h2,U,C⟩
theorem nM {P:Program}{T:Tab}(hT:jv P T){t:TypeId}{agg:Bool}{plain:Option (List Nat)}{size sz bytes:Nat}{z J : Option (List PV)}
  (h:T t=⟨true,agg,size,z,plain,.slice sz bytes J⟩):∃ e,P.underlying t=some (.slice e)/\sz=P.cellsOf e/\bytes=P.bytesOf e/\J=FZ P e:=by
 obtain⟨i,d,h1,h2,C,I,h5,g,h7,U⟩:=vS hT h rfl;cases d<;>simp at U
 case map k e=>unfold NQ at U;split at U<;>cases U
 rename_i e;exact⟨e,h2,U.1,U.2.1,U.2.2⟩
theorem NT {P:Program}{T:Tab}(hT:jv P T){t:TypeId}{agg J:Bool}{plain:Option (List Nat)}{size n sz:Nat}{z:Option (List PV)}
  (h:T t=⟨true,agg,size,z,plain,.arr n sz J⟩):∃ e,P.underlying t=some (.array n e)/\sz=P.cellsOf e/\J=lG P e/\z=FZ P t:=by
 obtain⟨i,d,h1,h2,g,C,h5,I,h7,U⟩:=vS hT h rfl;cases d<;>simp at U
 case map k e=>unfold NQ at U;split at U<;>cases U
 rename_i m e;obtain⟨rfl,U⟩:=U;exact⟨e,h2,U.1,U.2,I⟩
theorem aeO {P:Program}{T:Tab}(hT:jv P T){t:TypeId}{agg:Bool}{plain:Option (List Nat)}{size:Nat}{z:Option (List PV)}{k:IntKind}
  (h:T t=⟨true,agg,size,z,plain,.int k⟩):P.underlying t=some (.int k):=by
 obtain⟨i,d,h1,h2,I,J,h5,C,h7,U⟩:=vS hT h rfl;cases d<;>simp at U
 case map k e=>unfold NQ at U;split at U<;>cases U
 subst U;exact h2
theorem NU {P:Program}{T:Tab}(hT:jv P T){t:TypeId}{agg:Bool}{plain:Option (List Nat)}{size:Nat}{z:Option (List PV)}
  (h:T t=⟨true,agg,size,z,plain,.str⟩):P.underlying t=some .string:=by
 obtain⟨i,d,h1,h2,I,J,h5,C,h7,U⟩:=vS hT h rfl;cases d<;>simp at U
 case map k e=>unfold NQ at U;split at U<;>cases U
 exact h2
theorem aeP {P:Program}{T:Tab}(hT:jv P T){t:TypeId}{agg:Bool}{plain:Option (List Nat)}{size:Nat}{z:Option (List PV)}
  (h:T t=⟨true,agg,size,z,plain,.ptr⟩):∃ e,P.underlying t=some (.pointer e):=by
 obtain⟨i,d,h1,h2,I,J,h5,C,h7,U⟩:=vS hT h rfl;cases d<;>simp at U
 case map k e=>unfold NQ at U;split at U<;>cases U
 exact⟨_,h2⟩
theorem Tj {P:Program}{T:Tab}(hT:jv P T){t:TypeId}{agg:Bool}{plain:Option (List Nat)}{size:Nat}{z:Option (List PV)}{k:TK}
  (h:T t=⟨true,agg,size,z,plain,k⟩):P.info? t≠none/\size=P.cellsOf t/\agg=lG P t/\∃ d,P.underlying t=some d:=by
 obtain⟨i,d,h1,h2,I,U,h5,C,h7,J⟩:=vS hT h rfl;refine⟨by rw[h1];simp,?_,U,d,h2⟩;simp[Program.cellsOf,h1];exact h5
theorem IK:∀ (l:List FI) (n:Nat),F5 l n=l[n]?
 | [],n=>by simp[F5]
 | f::l,0=>by simp[F5]
 | f::l,n+1=>by simp[F5,IK l n]
theorem run_sizeOf {P:Program}{w:World}{t:TypeId}(h:P.info? t≠none):(sizeOf t).run P w=.ok (P.cellsOf t) w:=by
 cases hi:P.info? t with
 | none=>exact absurd hi h
 | some i=>simp[sizeOf,typeInfo,program,Sem.run,Result.andThen,hi,Program.cellsOf]
theorem HY {P:Program}{w:World}{t:TypeId}{d:TypeDesc}(h:P.underlying t=some d):(isAgg t).run P w=.ok (lG P t) w:=by
 have hu:(underlying t).run P w=.ok d w:=by simp[underlying,program,Sem.run,Result.andThen,h]
 simp only[isAgg,lG,h,Sem.run_bind,hu,Result.andThen];cases d<;>simp
theorem kV {P:Program}{w:World}{t:TypeId}{d:TypeDesc}(h:P.underlying t=some d):(underlying t).run P w=.ok d w:=by
 simp[underlying,program,Sem.run,Result.andThen,h]
theorem kW {P:Program}{t:TypeId}(h:lQ (P.cellsOf t)=true):P.info? t≠none:=by
 intro h0;have:P.cellsOf t=0:=by simp[Program.cellsOf,h0]
 rw[this] at h;simp[lQ] at h
theorem Ye {P:Program}{w:World}{x:Addr}{v:Value}(h:w.cell? x=some v):(load x).run P w=.ok v w:=by
 simp[load,Sem.run,h]
theorem addr_add (b o n:Nat):(⟨b,o,none⟩:Addr).add n=⟨b,o+n,none⟩:=by
 unfold Addr.add
 split<;>simp[*]
theorem BP {P:Program}{w:World}{b o:Nat}:∀ (vs:List Value) (i:Nat) (acc:Array Value),(∀ j v,vs[j]?=some v->w.cell? ⟨b,o+(i+j),none⟩=some v) ->
  (loadCellsFrom ⟨b,o,none⟩ i vs.length acc).run P w=.ok (acc++vs.toArray) w
 | [],i,acc,_=>by simp[loadCellsFrom]
 | v::vs,i,acc,h=>by
  have h0:=h 0 v rfl;simp only[List.length_cons,loadCellsFrom,Sem.run_bind,addr_add];rw[Ye (by simpa using h0)];simp only[Result.andThen]
  rw[BP vs (i+1) (acc.push v) (λj u hu=>by
   have:=h (j+1) u (by simpa using hu);rw[show i+1+j=i+(j+1) by omega];exact this)]
  simp
section
variable {P:Program}{T:Tab}(hT:jv P T){C:Ctx T}{o:Oper}{a:Act}{w:World}{Y:Nat->Prop}{σ:Sg}{ps:List PV}{st:St}{n id:Nat}{K:PV->Dl->Prop}{lk:Nat->Option mP}
 (H:SW C w Y σ ps a.tmps.toList st n) (hlk:∀ b x,lk b=some x->jr st b=some x) (hid:σ id=none/\T.pG<=id)
include hT H in
theorem We {t:TypeId}{x:Operand}{f:Nat}(ho:o.op=.fieldAddr t x f)(h:oO T (jb.jJ P T) (.fieldAddr t x f) ps lk id K):qw P C o a w σ ps st n id K:=by
 have hc:=kX H x;simp only[oO] at h
 split at h
 rename_i fs e;obtain⟨fl,hu,rfl,_⟩:=MX hT e
 split at h
 rename_i fd O;rw[IK,List.getElem?_map] at O
 cases hg:fl.toList[f]? with
 | none=>simp[hg] at O
 | some g =>
  simp[hg] at O;subst O;have hg' : fl[f]?=some g:=by simpa using hg
  cases hp:lQ (P.cellsOf g.type) with
  | false=>simp only[hp] at h;exact h.elim
  | true =>
   simp only[hp] at h;have U:P.cellsOf g.type≠0:=by intro h0;rw[h0] at hp;simp[lQ] at hp
   have J:P.info? g.type≠none:=by intro h0;apply U;simp[Program.cellsOf,h0]
   have run:∀ b off,a.eval x=.pointer (some ⟨b,off,none⟩)->(execOp a.eval o).run P w=.ok (.value (.pointer (some ⟨b,off+g.offset,none⟩))) w:=by
    intro b off hx;simp[execOp,ho,Instr.fieldAt,kV hu,hg',hx,Instr.sureAddr,fieldPlace,run_sizeOf J,U,addr_add]
   split at h
   rename_i b c e;rw[e] at hc;unfold Rep at hc;obtain⟨l,hs,I⟩:=hc;refine qw.quiet H (run _ _ I) ?_ h;unfold Rep;exact⟨l,hs,by rw[Nat.add_assoc]⟩
   rename_i b r c e;rw[e] at hc;unfold Rep at hc;obtain⟨l,hs,I⟩:=hc;refine qw.quiet H (run _ _ I) ?_ h;unfold Rep;exact⟨l,hs,by rw[Nat.add_assoc]⟩
   rename_i b r c hh sz j k e;rw[e] at hc;unfold Rep at hc;refine qw.quiet H (run _ _ hc) ?_ h;unfold Rep;rw[Nat.add_assoc]
   rename_i cs e;rw[e] at hc
   cases hb:Nat.ble g.offset (oG cs) with
   | false=>simp only[hb] at h;exact h.elim
   | true =>
    simp only[hb] at h;unfold Rep at hc;obtain⟨b,o',I,hy,hr⟩:=hc;refine qw.quiet H (run _ _ I) ?_ h;unfold Rep;rw[yx];exact⟨b,_,rfl,hy,hr.drop _ _ _⟩
   exact h.elim
 exact h.elim
 exact h.elim
theorem QS {P:Program}{w:World}{Y:Nat->Prop}{σ:Sg}{t:TypeId}{b o' c:Nat}{row:List PV}{agg:Bool}{size:Nat}{K:PV->Prop}
  (T:P.info? t≠none) (hsize:size=P.cellsOf t) (U:agg=lG P t) (J:∃ d,P.underlying t=some d)
  (hr:jA w Y σ b row o') (h:loadRow agg size row c K) :
  ∃ v cv,K v/\(loadVar t ⟨b,o'+c,none⟩).run P w=.ok cv w/\Rep w Y σ v cv:=by
 obtain⟨d,hu⟩:=J;unfold loadRow at h
 cases agg with
 | true =>
  simp only[cond_true] at h
  cases hb:Nat.ble (c+size) (oG row) with
  | false=>simp only[hb,cond_false] at h
  | true =>
   simp only[hb,cond_true,JH,yx] at h;have hle:c+size<=row.length:=by simpa using Nat.le_of_ble_eq_true hb
   have I:=(hr.drop c _ _).take size _ _;obtain⟨vs,hv,hcell⟩:=I.vals;refine⟨_,.agg vs.toArray,h,?_,by unfold Rep;exact⟨vs,rfl,hv⟩⟩
   have hlen:vs.length=P.cellsOf t:=by
    rw[gV.length _ _ hv];simp;omega
   simp only[loadVar,Sem.run_bind,HY hu,<- U,Result.andThen,if_true,run_sizeOf T,loadCells];rw[<- hlen,BP vs 0 #[] (λj v hj=>by simpa using hcell j v hj)];simp
 | false =>
  simp only[cond_false] at h
  cases hb:Nat.blt c (oG row) with
  | false=>simp only[hb,cond_false] at h
  | true =>
   simp only[hb,cond_true] at h;have C:c<row.length:=by simpa [Nat.blt_eq] using hb
   obtain⟨v,hv,hrep⟩:=hr.get _ _ c C;refine⟨_,v,h,?_,hrep⟩;simp only[loadVar,Sem.run_bind,HY hu,<- U,Result.andThen];simp only[Bool.false_eq_true,if_false];exact Ye hv
theorem iw.yA {T:Tab}{C:Ctx T}{w:World}{Y:Nat->Prop}{σ:Sg}{ps:List PV}{vs:List Value}{st:St}{n:Nat}(H:SW C w Y σ ps vs st n){lk:Nat->Option mP}
  (J:∀ b x,lk b=some x->jr st b=some x) {b:Nat} {x:mP} {l:Loc} (h:lk b=some x) (hs:σ b=some l):iw w Y σ l x:=by
 rcases H.store.blk b x (J _ _ h) with ⟨l',U,hb⟩|⟨U,_⟩
 rw[hs] at U;cases U;exact hb
 rw[hs] at U;cases U
theorem NV {w:World}{Y:Nat->Prop}{σ:Sg}{p:PV}{v:Value}(h:Rep w Y iW p v):Rep w Y σ p v :=
 Rep.keep p ⟨λ_ _ _=>rfl,λ_ _ h=>h,Nat.le_refl _,λ_ _ h=>by cases h⟩ v h
theorem getD_some {o:Option PV}{h:Hdr}{sz:Nat}{U:List (List PV)}(e:o.getD .undef=.ow h sz U):o=some (.ow h sz U):=by
 cases o with
 | none=>cases e
 | some x=>simp at e;rw[e]
theorem acX {P:Program}{T:Tab}{w:World}{Y:Nat->Prop}{σ:Sg}(b r c:Nat){p:PV}{v:Value}(h:Rep w Y σ p v):Rep w Y σ (afY (jb.jJ P T) b r c p) v:=by
 unfold afY
 split
 rename_i hh sz U;unfold Rep at h |-;simp only[jb.jJ];rcases h with h|⟨h0,h1,h2⟩
 exact .inl h
 exact .inr ⟨h0,by rw[h1];rfl,h2⟩
 exact h
theorem Yf {P:Program}{T:Tab}{w:World}{Y:Nat->Prop}{σ:Sg}{U:Nat}(b r:Nat):∀ (ps:List PV) (c o:Nat),jA w Y σ U ps o->jA w Y σ U (acF (jb.jJ P T) b r c ps) o
 | [],c,o,h=>by simpa [acF] using h
 | p::ps,c,o,h=>by
  unfold jA at h;obtain⟨⟨v,h1,h2⟩,J⟩:=h;simp only[acF];unfold jA;exact⟨⟨v,h1,acX b r c h2⟩,Yf b r ps (c+1) (o+1) J⟩
theorem SW.acY {T:Tab}{C:Ctx T}{w:World}{Y:Nat->Prop}{σ:Sg}{ps:List PV}{vs:List Value}{st:St}{n:Nat}(H:SW C w Y σ ps vs st n){b r c J sz:Nat}{rows:List (List PV)}{row:List PV}{h:Hdr}{es:List (List PV)}
  (g:jr st b=some (.l7 J rows)) (U:rows[r]?=some row) (hc:row[c]?=some (.ow h sz es)) (I:es≠[]):h.cap≠0:=by
 rcases H.store.blk b _ g with ⟨l,_,hB⟩|⟨_,hE⟩
 unfold iw at hB;have hr:=(jG.row _ _ _ _ hB.2.2.2.2.1 U).2
 have hlt:c<row.length:=by
  by_cases hh:c<row.length
  exact hh
  simp[List.getElem?_eq_none (Nat.le_of_not_lt hh)] at hc
 obtain⟨v,_,hp⟩:=hr.get _ _ c hlt;rw[BO,List.getD_eq_getElem?_getD,hc] at hp;simp only[Option.getD_some] at hp;unfold Rep at hp;rcases hp with ⟨h0,_⟩|⟨_,h1,_⟩
 exact h0
 exact absurd h1 I
 cases hE;simp at U
include hT H hlk in
theorem aeQ {t:TypeId}{x:Operand}(ho:o.op=.load t x)(h:oO T (jb.jJ P T) (.load t x) ps lk id K):qw P C o a w σ ps st n id K:=by
 have hc:=kX H x;simp only[oO] at h
 split at h
 rename_i agg size z plain kind e;obtain⟨J,hsize,hagg,hund⟩:=Tj hT e
 have fin:∀ (σ' : Sg) (b o' c:Nat) (row:List PV),a.eval x=.pointer (some ⟨b,o'+c,none⟩)->jA w Y σ' b row o'->(∀ p v,Rep w Y σ' p v->Rep w Y σ p v) ->
   loadRow agg size row c (λv=>K v [])->qw P C o a w σ ps st n id K:=by
  intro σ' b o' c row hx hr hσ hl;obtain⟨v,cv,hK,hrun,hrep⟩:=QS J hsize hagg hund hr hl;refine qw.quiet H (cv:=cv) ?_ (hσ _ _ hrep) hK;simp[execOp,ho,hx,Instr.loadAt,Instr.sureAddr,hrun]
 split at h
 rename_i b c e;rw[e] at hc;unfold Rep at hc;obtain⟨l,hs,g⟩:=hc
 split at h
 rename_i ro row hb;have hB:=iw.yA H hlk hb hs;unfold iw at hB;exact fin σ _ _ _ _ g hB.2.2.2.1 (λ_ _ h=>h) h
 exact h.elim
 rename_i b r c e;rw[e] at hc;unfold Rep at hc;obtain⟨l,hs,g⟩:=hc
 split at h
 rename_i ro sz rows hb;have hB:=iw.yA H hlk hb hs;unfold iw at hB;obtain⟨row,U,h⟩:=h;have:=jG.row _ _ _ _ hB.2.2.2.2.1 U;rw[<- hB.2.1] at this;exact fin iW _ _ _ _ g this.2 (λ_ _ h=>NV h) h
 rename_i sz rows hb;have hB:=iw.yA H hlk hb hs;unfold iw at hB;obtain⟨row,U,h⟩:=h;have:=jG.row _ _ _ _ hB.2.2.2.2.1 U;rw[<- hB.2.1] at this;exact fin iW _ _ _ _ g (Yf b r row 0 _ this.2) (λ_ _ h=>NV h) h
 rename_i sz rows r0 row hb;have hB:=iw.yA H hlk hb hs;unfold iw at hB;obtain⟨hr0,h⟩:=h;cases hr0;obtain⟨_,h2,_,_,_,_,h8,_⟩:=hB;rw[<- h2] at h8;exact fin σ _ _ _ _ g h8 (λ_ _ h=>h) h
 exact h.elim
 rename_i b r c hh sz j k e;rw[e] at hc;unfold Rep at hc
 split at h
 rename_i sz0 rows hb;obtain⟨row,U,h⟩:=h
 split at h
 rename_i h' I es ec
 cases hs:Nat.beq I sz with
 | false=>rw[hs] at h;exact h.elim
 | true =>
  rw[hs] at h;simp only[cond_true] at h;have hs:=Nat.eq_of_beq_eq_true hs;subst hs;obtain⟨he,er,her,h⟩:=h;subst he;have hcc:row[c]?=some (.ow hh I es):=by rw[BO,List.getD_eq_getElem?_getD] at ec;exact getD_some ec
  have hN:=H.nest.rep b r c hh I es ⟨sz0,rows,row,hlk _ _ hb,U,hcc,H.acY (hlk _ _ hb) U hcc (by rintro rfl;simp at her)⟩;exact fin iW _ _ _ _ hc (jG.row _ _ _ _ hN.rows her).2 (λ_ _ h=>NV h) h
 exact h.elim
 exact h.elim
 rename_i cs e;rw[e] at hc;unfold Rep at hc;obtain⟨b,o',g,hy,hr⟩:=hc;exact fin iW b o' 0 cs (by simpa using g) hr (λ_ _ h=>NV h) h
 exact h.elim
 exact h.elim
end
end Go.Pv
namespace Go.Pv
open Go
theorem P6 {b c:Nat}(h:¬ b=c):Nat.beq b c=false:=by
 cases e:Nat.beq b c with
 | false=>rfl
 | true=>exact absurd (Nat.eq_of_beq_eq_true e) h
theorem iR (st:St)(b:Nat)(x:Option mP)(c:Nat):jr (oH st b x) c=if b=c then x else jr st c:=by
 induction st with
 | nil =>
  by_cases h:b=c
  simp[oH,jr,h]
  have:Nat.beq b c=false:=P6 h;simp[oH,jr,this,h]
 | cons p st ih =>
  obtain⟨U,y⟩:=p
  by_cases h:U=b
  subst h
  by_cases h2:U=c
  subst h2;simp[oH,jr]
  have:Nat.beq U c=false:=P6 h2;simp[oH,jr,this,h2]
  have h0:Nat.beq U b=false:=P6 h;simp only[oH,h0,cond_false,jr]
  by_cases h2:U=c
  subst h2;simp;intro e;exact absurd e.symm h
  have:Nat.beq U c=false:=P6 h2;simp only[this,cond_false,ih]
theorem iw.keep {w w' : World}{Y Y' : Nat->Prop}{σ σ' : Sg}{l:Loc}{x:mP}(K:Keep w w' Y Y' σ σ')(hb:w'.heap[l.cb]?=w.heap[l.cb]?)(J:Y' l.cb↔Y l.cb)
  (h:iw w Y σ l x):iw w' Y' σ' l x:=by
 cases x with
 | var ro row =>
  unfold iw at h |-;obtain⟨⟨arr,ty,h1,h2⟩,U,I,h5,T,h7⟩:=h;exact⟨⟨arr,ty,by rw[hb];exact h1,h2⟩,U,I,jA.keep row K (λ_=>hb) _ h5,λe=>J.2 (T e),λe hy=>h7 e (J.1 hy)⟩
 | arr ro sz rows =>
  unfold iw at h |-;obtain⟨⟨arr,ty,h1,h2⟩,U,I,h5,T,h7,C⟩:=h;exact⟨⟨arr,ty,by rw[hb];exact h1,h2⟩,U,I,h5,jG.keep rows K.none (λ_=>hb) _ T,λe=>J.2 (h7 e),λe hy=>C e (J.1 hy)⟩
 | map rows =>
  unfold iw at h |-;obtain⟨⟨es,g,h1,h2⟩,U⟩:=h;exact⟨⟨es,g,by rw[hb];exact h1,pz.keep K.none _ _ h2⟩,J.2 U⟩
 | l7 sz rows =>
  unfold iw at h |-;obtain⟨⟨arr,ty,h1,h2⟩,U,I,h5,T,h7⟩:=h;exact⟨⟨arr,ty,by rw[hb];exact h1,h2⟩,U,I,h5,jG.keep rows K.none (λ_=>hb) _ T,J.2 h7⟩
 | nor sz rows r row =>
  unfold iw at h |-;obtain⟨⟨arr,ty,h1,h2⟩,U,I,h5,T,h7,C,h9⟩:=h;exact⟨⟨arr,ty,by rw[hb];exact h1,h2⟩,U,I,h5,T,λi x hx hi=>⟨(h7 i x hx hi).1,jA.keep x K.none (λ_=>hb) _ (h7 i x hx hi).2⟩,jA.keep row K (λ_=>hb) _ C,J.2 h9⟩
theorem iw.lt {w:World}{Y:Nat->Prop}{σ:Sg}{l:Loc}{x:mP}(h:iw w Y σ l x):l.cb<w.heap.size:=by
 have:∃ o,w.heap[l.cb]?=some o:=by
  cases x<;>(unfold iw at h;first|(obtain⟨⟨⟨arr,ty,h1,_⟩⟩,_⟩:=h;exact⟨_,h1⟩)|(obtain⟨⟨U,T,h1,_⟩,_⟩:=h;exact⟨_,h1⟩))
 obtain⟨o,h1⟩:=this
 by_cases hb:l.cb<w.heap.size
 exact hb
 simp[Array.getElem?_eq_none (Nat.le_of_not_lt hb)] at h1
theorem SW.drop {T:Tab}{C:Ctx T}{w:World}{Y:Nat->Prop}{σ:Sg}{ps:List PV}{vs:List Value}{st:St}{n:Nat}(H:SW C w Y σ ps vs st n)(b:Nat):SW C w Y σ ps vs (oH st b none) n:=by
 have sub:∀ c x,jr (oH st b none) c=some x->jr st c=some x:=by
  intro c x h;rw[iR] at h
  by_cases hb:b=c
  rw[if_pos hb] at h;cases h
  rw[if_neg hb] at h;exact h
 refine⟨H.vals,⟨λc x h=>H.store.blk c x (sub c x h),λc J x x' l l' h U=>H.store.inj c J x x' l l' (sub _ _ h) (sub _ _ U)⟩,H.next,H.vw,H.y0,H.c0,H.wI,H.qh,λc x l h=>H.own c x l (sub _ _ h),H.wJ,H.fix,H.nest.sub sub⟩
theorem SW.ext {T:Tab}{C:Ctx T}{w:World}{Y:Nat->Prop}{σ:Sg}{ps:List PV}{vs:List Value}{st st' : St}{n:Nat}(H:SW C w Y σ ps vs st n)(h:∀ b x,jr st' b=some x->jr st b=some x):SW C w Y σ ps vs st' n :=
 ⟨H.vals,⟨λc x e=>H.store.blk c x (h c x e),λc J x x' l l' e U=>H.store.inj c J x x' l l' (h _ _ e) (h _ _ U)⟩,H.next,H.vw,H.y0,H.c0,H.wI,H.qh,λc x l e=>H.own c x l (h _ _ e),H.wJ,H.fix,H.nest.sub h⟩
theorem SW.update {T:Tab}{C:Ctx T}{w w' : World}{Y:Nat->Prop}{σ:Sg}{ps:List PV}{vs:List Value}{st:St}{n:Nat}(H:SW C w Y σ ps vs st n)
  {b:Nat} {x x' : mP} {l:Loc} (hx:jr st b=some x) (hl:σ b=some l) (hm:Y l.cb)
  (hos:w'.os=w.os) (I:w'.tape=w.tape) (hout:w'.output=w.output) (hsize:w'.heap.size=w.heap.size)
  (U:∀ k,k≠l.cb->w'.heap[k]?=w.heap[k]?) (hnar:∀ sz rows,x'≠.l7 sz rows) (hnew:(∀ p v,Rep w Y σ p v->Rep w' Y σ p v)->iw w' Y σ l x'):SW C w' Y σ ps vs (oH st b (some x')) n:=by
 have K:Keep w w' Y Y σ σ:=⟨λk _ hk=>U k (λe=>hk (e ▸ hm)),λ_ _ h=>h,Nat.le_of_eq hsize.symm,ou.refl _⟩;have own:=H.own b x l hx hl;refine⟨gV.keep _ K _ H.vals,⟨?_,?_⟩,H.next,λk hk=>by rw[hsize];exact H.vw k hk,H.y0,H.c0,H.wI,?_,?_,H.wJ.keep K.none,H.fix,?_⟩
 intro c y h;rw[iR] at h
 by_cases hc:b=c
 rw[if_pos hc] at h;cases h;subst hc;exact .inl ⟨l,hl,hnew λp v hp=>Rep.keep p K v hp⟩
 rw[if_neg hc] at h;rcases H.store.blk c y h with ⟨l',J,hb⟩|hn
 refine .inl ⟨l',J,iw.keep K (U _ λe=>hc ?_) Iff.rfl hb⟩;exact (H.store.inj c b y x l' l h hx J hl e).symm
 exact .inr hn
 intro c c' y y' l1 l2 h h' h1 h2 e
 have old:∀ d z,jr (oH st b (some x')) d=some z->∃ z',jr st d=some z':=by
  intro d z hd;rw[iR] at hd
  by_cases hc:b=d
  subst hc;exact⟨x,hx⟩
  rw[if_neg hc] at hd;exact⟨z,hd⟩
 obtain⟨z,hz⟩:=old _ _ h;obtain⟨z',hz'⟩:=old _ _ h';exact H.store.inj c c' z z' l1 l2 hz hz' h1 h2 e
 refine⟨by rw[hos];exact H.qh.os,by rw[I];exact H.qh.tape,by rw[hout];exact H.qh.output,by rw[hsize];exact H.qh.size,λk hk hM=>?_⟩
 have hne:k≠l.cb:=λe=>by
  subst e;have h1:=H.away hx hl;rcases H.wI _ hm hk with h2|h2
  exact h1 h2
  exact hM h2
 rw[U k hne];exact H.qh.block k hk hM
 intro c y l' h h1;rw[iR] at h
 by_cases hc:b=c
 subst hc;rw[hl] at h1;cases h1;exact own
 rw[if_neg hc] at h;exact H.own c y l' h h1
 have back:∀ {c r k h sz g},nz (oH st b (some x')) c r k h sz g->nz st c r k h sz g:=by
  rintro c r k h sz g ⟨sz0,rows,row,h1,h2⟩
  rw[iR] at h1
  by_cases hc:b=c
  rw[if_pos hc] at h1;exact absurd (Option.some.inj h1) (hnar _ _)
  rw[if_neg hc] at h1;exact⟨sz0,rows,row,h1,h2⟩
 refine H.nest.keep K.none (λ_ _ _ _ _ _ k=>back k) (λc r k h sz g hk=>U _ (H.nest.sep _ _ _ _ _ _ _ _ _ (back hk) hx hl).symm) (λc r k h sz g hk=>(H.nest.rep _ _ _ _ _ _ (back hk)).own) λc r k h sz g b' y l' hk hy J=>?_;rw[iR] at hy
 by_cases hc:b=b'
 subst hc;rw[hl] at J;cases J;exact H.nest.sep _ _ _ _ _ _ _ _ _ (back hk) hx hl
 rw[if_neg hc] at hy;exact H.nest.sep _ _ _ _ _ _ _ _ _ (back hk) hy J
theorem SW.acZ {T:Tab}{C:Ctx T}{w:World}{Y:Nat->Prop}{σ:Sg}{ps:List PV}{vs:List Value}{st:St}{n id:Nat}(H:SW C w Y σ ps vs st n)(hid:σ id=none/\T.pG<=id)
  (ob:Obj) (l:Loc) (hcb:l.cb=w.heap.size) (x:mP) (hnar:∀ sz rows,x=.l7 sz rows->∀ (r:Nat) (row:List PV) (c:Nat) (h:Hdr) (sz' : Nat) (es:List (List PV)),rows[r]?=some row->row[c]?=some (PV.ow h sz' es)->h.cap=0)
  (hx:∀ w' Y' σ',(∀ p v,Rep w Y σ p v->Rep w' Y' σ' p v)->Y' l.cb->w'.heap[l.cb]?=some ob->(∀ p v,Rep w Y iW p v->Rep w' Y' iW p v)->iw w' Y' σ' l x) :
  ∃ Y' σ',SW C (w.alloc ob) Y' σ' ps vs (oH st id (some x)) (max n (id+1))/\σ' id=some l/\ou σ σ'/\(∀ p v,Rep w Y σ p v->Rep (w.alloc ob) Y' σ' p v)/\Off id σ σ':=by
 have hfree:=hid.1;have heap:(w.alloc ob).heap=w.heap.push ob:=rfl;have hnew:(w.alloc ob).heap[l.cb]?=some ob:=by rw[heap,hcb];simp
 have hold:∀ k,k<w.heap.size->(w.alloc ob).heap[k]?=w.heap[k]?:=by
  intro k hk;rw[heap,Array.getElem?_push,if_neg ah]
 let Y' : Nat->Prop:=λk=>Y k\/k=w.heap.size
 let σ' : Sg:=λb=>if b=id then some l else σ b
 have hsg:ou σ σ':=by
  intro b m h;show (if b=id then some l else σ b)=some m
  by_cases hb:b=id
  subst hb;rw[hfree] at h;cases h
  rw[if_neg hb];exact h
 have hsz:(w.alloc ob).heap.size=w.heap.size+1:=by rw[heap];simp
 have K:Keep w (w.alloc ob) Y Y' σ σ' :=
  ⟨λk hk _=>hold k hk,λk hk h=>h.resolve_right ah,by omega,hsg⟩
 refine⟨Y',σ',⟨gV.keep _ K _ H.vals,⟨?_,?_⟩,?_,?_,λk hk=>.inl (H.y0 k hk),H.c0,?_,?_,?_,H.wJ.keep K.none,⟨by have:=H.fix.1;omega,λb hb=>by show (if b=id then some l else σ b)=_;rw[if_neg ah];exact H.fix.2 b hb⟩,?_⟩,by simp[σ'],hsg,λp v hp=>Rep.keep p K v hp,λb hb=>by show (if b=id then some l else σ b)=_;rw[if_neg hb]⟩
 intro c y h;rw[iR] at h
 by_cases hc:id=c
 rw[if_pos hc] at h;cases h;subst hc;exact .inl ⟨l,by simp[σ'],hx _ Y' σ' (λp v hp=>Rep.keep p K v hp) (.inr hcb) hnew (λp v hp=>Rep.keep p K.none v hp)⟩
 rw[if_neg hc] at h;have J : c≠id:=λe=>hc e.symm;rcases H.store.blk c y h with ⟨l',U,hb⟩|⟨hn,hx'⟩
 have hlt:=hb.lt;exact .inl ⟨l',hsg _ _ U,iw.keep K (hold _ hlt) ⟨λh=>h.resolve_right ah,.inl⟩ hb⟩
 exact .inr ⟨by simp[σ',J,hn],hx'⟩
 intro c c' y y' l1 l2 h h' h1 h2 e;rw[iR] at h h'
 by_cases hc:id=c<;>by_cases J : id=c'
 omega
 exfalso
 rw[if_neg J] at h';subst hc;simp[σ'] at h1;subst h1;have g : σ c'=some l2:=by simpa [σ',show c'≠id from λe=>J e.symm] using h2
 rcases H.store.blk c' y' h' with ⟨l',U,hb⟩|⟨hn,_⟩
 rw[g] at U;cases U;have:=hb.lt;omega
 rw[g] at hn;cases hn
 exfalso
 rw[if_neg hc] at h;subst J;simp[σ'] at h2;subst h2;have I : σ c=some l1:=by simpa [σ',show c≠id from λe=>hc e.symm] using h1
 rcases H.store.blk c y h with ⟨l',U,hb⟩|⟨hn,_⟩
 rw[I] at U;cases U;have:=hb.lt;omega
 rw[I] at hn;cases hn
 rw[if_neg hc] at h;rw[if_neg J] at h';have I : σ c=some l1:=by simpa [σ',show c≠id from λe=>hc e.symm] using h1
 have g : σ c'=some l2:=by simpa [σ',show c'≠id from λe=>J e.symm] using h2
 exact H.store.inj c c' y y' l1 l2 h h' I g e
 intro b hb;show (if b=id then some l else σ b)=none;rw[if_neg ah];exact H.next b ah
 intro k hk;rcases hk with hk|hk
 have:=H.vw k hk;omega
 omega
 intro k hk hlt;rcases hk with hk|hk
 exact H.wI k hk hlt
 have:=H.qh.size;omega
 refine⟨H.qh.os,H.qh.tape,H.qh.output,by have:=H.qh.size;omega,λk hk hM=>?_⟩;rw[hold k (by have:=H.qh.size;omega)];exact H.qh.block k hk hM
 intro c y l' h h1;rw[iR] at h
 by_cases hc:id=c
 subst hc;simp[σ'] at h1;subst h1;rw[hcb];exact .inl H.qh.size
 rw[if_neg hc] at h;exact H.own c y l' h (by simpa [σ',show c≠id from λe=>hc e.symm] using h1)
 have back:∀ {c r k h sz es},nz (oH st id (some x)) c r k h sz es->nz st c r k h sz es:=by
  rintro c r k h sz es ⟨sz0,rows,row,h1,h2,h3⟩
  rw[iR] at h1
  by_cases hc:id=c
  rw[if_pos hc] at h1;exact absurd (hnar _ _ (Option.some.inj h1) _ _ _ _ _ _ h2 h3.1) h3.2
  rw[if_neg hc] at h1;exact⟨sz0,rows,row,h1,h2,h3⟩
 refine H.nest.keep K.none (λ_ _ _ _ _ _ k=>back k) (λc r k h sz es hk=>hold _ (H.nest.rep _ _ _ _ _ _ (back hk)).lt) (λc r k h sz es hk=>.inl (H.nest.rep _ _ _ _ _ _ (back hk)).own) λc r k h sz es b' y l' hk hy U=>?_;have hlt:=(H.nest.rep _ _ _ _ _ _ (back hk)).lt;rw[iR] at hy
 by_cases hc:id=b'
 subst hc;simp[σ'] at U;subst U;omega
 rw[if_neg hc] at hy;exact H.nest.sep _ _ _ _ _ _ _ _ _ (back hk) hy (by simpa [σ',show b'≠id from λe=>hc e.symm] using U)
theorem SW.alloc {T:Tab}{C:Ctx T}{w:World}{Y:Nat->Prop}{σ:Sg}{ps:List PV}{vs:List Value}{st:St}{n id:Nat}(H:SW C w Y σ ps vs st n)(hid:σ id=none/\T.pG<=id)
  (arr:Array Value) (ty:TypeId) (l:Loc) (I:l.cb=w.heap.size) (x:mP) (U:∀ sz rows,x=.l7 sz rows->∀ (r:Nat) (row:List PV) (c:Nat) (h:Hdr) (J : Nat) (g:List (List PV)),rows[r]?=some row->row[c]?=some (PV.ow h J g)->h.cap=0)
  (hx:∀ w' Y' σ',(∀ p v,Rep w Y σ p v->Rep w' Y' σ' p v)->Y' l.cb->w'.heap[l.cb]?=some (.cells arr ty (0,0))->(∀ p v,Rep w Y iW p v->Rep w' Y' iW p v)->iw w' Y' σ' l x) :
  ∃ Y' σ',SW C (w.alloc (.cells arr ty)) Y' σ' ps vs (oH st id (some x)) (max n (id+1))/\σ' id=some l/\ou σ σ'/\(∀ p v,Rep w Y σ p v->Rep (w.alloc (.cells arr ty)) Y' σ' p v)/\Off id σ σ' :=
 H.acZ hid (.cells arr ty) l I x U hx
theorem SW.freeze {T:Tab}{C:Ctx T}{w:World}{Y:Nat->Prop}{σ:Sg}{ps:List PV}{vs:List Value}{st:St}{n:Nat}(H:SW C w Y σ ps vs st n){b:Nat}{x x' : mP}
  (hx:jr st b=some x) (J : (∃ ro row,x=.var ro row/\x'=.var true row)\/(∃ ro sz rows,x=.arr ro sz rows/\x'=.arr true sz rows)) :
  ∃ Y',SW C w Y' σ ps vs (oH st b (some x')) n/\(∀ l,σ b=some l->¬ Y' l.cb)/\(∀ k,Y' k->Y k):=by
 let Y' : Nat->Prop:=λk=>Y k/\∀ l,σ b=some l->k≠l.cb;have K:Keep w w Y Y' σ σ:=⟨λ_ _ _=>rfl,λ_ _ h=>h.1,Nat.le_refl _,ou.refl _⟩;refine⟨Y',⟨gV.keep _ K _ H.vals,⟨?_,?_⟩,H.next,λk hk=>H.vw k hk.1,?_,H.c0,λk hk=>H.wI k hk.1,H.qh,?_,H.wJ.keep K.none,H.fix,?_⟩,λl hl h=>h.2 l hl rfl,λ_ h=>h.1⟩
 intro c y h;rw[iR] at h
 by_cases hc:b=c
 rw[if_pos hc] at h;cases h;subst hc;rcases H.store.blk b x hx with ⟨l,hl,hb⟩|⟨hn,he⟩
 refine .inl ⟨l,hl,?_⟩;rcases J with ⟨ro,row,rfl,rfl⟩|⟨ro,sz,rows,rfl,rfl⟩
 unfold iw at hb |-;exact⟨hb.1,hb.2.1,hb.2.2.1,jA.keep row K (λ_=>rfl) _ hb.2.2.2.1,λe=>dB,λ_ h=>h.2 l hl rfl⟩
 unfold iw at hb |-;exact⟨hb.1,hb.2.1,hb.2.2.1,hb.2.2.2.1,jG.keep rows K.none (λ_=>rfl) _ hb.2.2.2.2.1,λe=>dB,λ_ h=>h.2 l hl rfl⟩
 rcases J with ⟨ro',row,rfl,rfl⟩|⟨ro',sz',rows,rfl,rfl⟩
 cases he
 cases he;exact .inr ⟨hn,.arr _ _⟩
 rw[if_neg hc] at h;rcases H.store.blk c y h with ⟨l',U,hb⟩|hn
 refine .inl ⟨l',U,iw.keep K rfl ⟨λh=>h.1,λh=>⟨h,λl hl e=>hc ?_⟩⟩ hb⟩;exact (H.store.inj c b y x l' l ‹_› hx U hl e).symm
 exact .inr hn
 intro c c' y y' l1 l2 h h' h1 h2 e
 have old:∀ d z,jr (oH st b (some x')) d=some z->∃ z',jr st d=some z':=by
  intro d z g;rw[iR] at g
  by_cases hc:b=d
  subst hc;exact⟨x,hx⟩
  rw[if_neg hc] at g;exact⟨z,g⟩
 obtain⟨z,hz⟩:=old _ _ h;obtain⟨z',hz'⟩:=old _ _ h';exact H.store.inj c c' z z' l1 l2 hz hz' h1 h2 e
 intro k hk;refine⟨H.y0 k hk,λl hl e=>?_⟩;exact H.away hx hl (e ▸ hk)
 intro c y l' h h1;rw[iR] at h
 by_cases hc:b=c
 subst hc;exact H.own b x l' hx h1
 rw[if_neg hc] at h;exact H.own c y l' h h1
 have back:∀ {c r k h sz I},nz (oH st b (some x')) c r k h sz I->nz st c r k h sz I:=by
  rintro c r k h sz I ⟨sz0,rows,row,h1,h2⟩
  rw[iR] at h1
  by_cases hc:b=c
  rw[if_pos hc] at h1;rcases J with ⟨_,_,_,e⟩|⟨_,_,_,_,e⟩<;>(rw[e] at h1;cases h1)
  rw[if_neg hc] at h1;exact⟨sz0,rows,row,h1,h2⟩
 refine H.nest.keep K.none (λ_ _ _ _ _ _ k=>back k) (λ_ _ _ _ _ _ _=>rfl) (λc r k h sz I hk=>⟨(H.nest.rep _ _ _ _ _ _ (back hk)).own,λl hl e=>H.nest.sep _ _ _ _ _ _ _ _ _ (back hk) hx hl e.symm⟩) λc r k h sz I b' y l' hk hy U=>?_;rw[iR] at hy
 by_cases hc:b=b'
 subst hc;exact H.nest.sep _ _ _ _ _ _ _ _ _ (back hk) hx U
 rw[if_neg hc] at hy;exact H.nest.sep _ _ _ _ _ _ _ _ _ (back hk) hy U
theorem SW.aaR {T:Tab}{C:Ctx T}{w:World}{Y:Nat->Prop}{σ:Sg}{ps:List PV}{vs:List Value}{st:St}{n:Nat}(H:SW C w Y σ ps vs st n){b sz:Nat}{rows:List (List PV)}(hx:jr st b=some (.l7 sz rows)) :
  ∃ Y',SW C w Y' σ ps vs (oH st b none) n/\(∀ l,σ b=some l->¬ Y' l.cb)/\(∀ r c h U I,nz st b r c h U I->¬ Y' h.ν)/\∀ k,Y' k->Y k:=by
 let Y' : Nat->Prop:=λk=>Y k/\(∀ l,σ b=some l->k≠l.cb)/\∀ r c h U I,nz st b r c h U I->k≠h.ν;have K:Keep w w Y Y' σ σ:=⟨λ_ _ _=>rfl,λ_ _ h=>h.1,Nat.le_refl _,ou.refl _⟩
 have J : ∀ c y,jr (oH st b none) c=some y->b≠c/\jr st c=some y:=by
  intro c y h;rw[iR] at h
  by_cases hc:b=c
  rw[if_pos hc] at h;cases h
  rw[if_neg hc] at h;exact⟨hc,h⟩
 have sub:∀ {c r k h sz I},nz (oH st b none) c r k h sz I->b≠c/\nz st c r k h sz I:=by
  rintro c r k h sz I ⟨sz0,rows,row,h1,h2⟩
  obtain⟨e1,e2⟩:=J _ _ h1;exact⟨e1,sz0,rows,row,e2,h2⟩
 refine⟨Y',⟨gV.keep _ K _ H.vals,⟨?_,?_⟩,H.next,λk hk=>H.vw k hk.1,?_,H.c0,λk hk=>H.wI k hk.1,H.qh,?_,H.wJ.keep K.none,H.fix,?_⟩,λl hl h=>h.2.1 l hl rfl,λr c h U I hk hh=>hh.2.2 _ _ _ _ _ hk rfl,λ_ h=>h.1⟩
 intro c y h;obtain⟨hc,h⟩:=J _ _ h;rcases H.store.blk c y h with ⟨l',g,hb⟩|hn
 refine .inl ⟨l',g,iw.keep K rfl ⟨λh=>h.1,λh0=>⟨h0,λl hl e=>hc ?_,λr c' h' U I hk e=>H.nest.sep _ _ _ _ _ _ _ _ _ hk h g e⟩⟩ hb⟩;exact (H.store.inj c b y _ l' l h hx g hl e).symm
 exact .inr hn
 intro c c' y y' l1 l2 h h' h1 h2 e;exact H.store.inj c c' y y' l1 l2 (J _ _ h).2 (J _ _ h').2 h1 h2 e
 intro k hk;refine⟨H.y0 k hk,λl hl e=>H.away hx hl (e ▸ hk),λr c h U I ho e=>?_⟩;obtain⟨k1,k2⟩:=H.c0 k hk;rcases H.nest.old _ _ _ _ _ _ ho with h1|h1
 rw[<- e] at h1;omega
 rw[<- e] at h1;exact k2 h1
 intro c y l' h h1;exact H.own c y l' (J _ _ h).2 h1
 refine H.nest.keep K.none (λ_ _ _ _ _ _ k=>(sub k).2) (λ_ _ _ _ _ _ _=>rfl) (λc r k h sz I hk=>⟨(H.nest.rep _ _ _ _ _ _ (sub hk).2).own,λl hl e=>H.nest.sep _ _ _ _ _ _ _ _ _ (sub hk).2 hx hl e.symm,λr' c' h' U es' ho e=>(sub hk).1 (H.nest.one _ _ _ _ _ _ _ _ _ _ _ _ (sub hk).2 ho e).1.symm⟩) λc r k h sz I b' y l' hk hy g=>H.nest.sep _ _ _ _ _ _ _ _ _ (sub hk).2 (J _ _ hy).2 g
theorem Keep.af6 {w w' : World}{Y:Nat->Prop}{σ:Sg}(h:Chg w w'):Keep w w' Y Y σ σ:=⟨λk hk _=>h.block k hk,λ_ _ h=>h,h.size,ou.refl _⟩
theorem SW.aeR {T:Tab}{C:Ctx T}{w w' : World}{Y:Nat->Prop}{σ:Sg}{ps:List PV}{vs:List Value}{st:St}{n:Nat}(H:SW C w Y σ ps vs st n)(h:Chg w w'):SW C w' Y σ ps vs st n:=by
 have K:Keep w w' Y Y σ σ:=Keep.af6 h;refine⟨gV.keep _ K _ H.vals,⟨λb x hb=>?_,H.store.inj⟩,H.next,λk hk=>Nat.lt_of_lt_of_le (H.vw k hk) h.size,H.y0,H.c0,H.wI,?_,H.own,H.wJ.keep K.none,H.fix,H.nest.heap h.size h.block⟩
 rcases H.store.blk b x hb with ⟨l,hl,hB⟩|hn
 exact .inl ⟨l,hl,iw.keep K (h.block _ hB.lt) Iff.rfl hB⟩
 exact .inr hn
 exact⟨by rw[h.os];exact H.qh.os,by rw[h.tape];exact H.qh.tape,by rw[h.output];exact H.qh.output,Nat.le_trans H.qh.size h.size,λk hk hM=>by rw[h.block k (Nat.lt_of_lt_of_le hk H.qh.size)];exact H.qh.block k hk hM⟩
end Go.Pv
namespace Go.Pv
open Go
theorem Bz {v:Value}(h:MS v=true):v.cells=#[v]:=by
 cases v<;>simp[MS] at h<;>rfl
theorem zk {w:World}{Y:Nat->Prop}{σ:Sg}:∀ (ps:List PV) (vs:List Value),iT ps=true->gV w Y σ ps vs->∀ v∈vs,MS v=true
 | [],vs,_,h=>by unfold gV at h;subst h;simp
 | p::ps,vs,ha,h=>by
  unfold gV at h;obtain⟨v,U,rfl,h1,h2⟩:=h;simp[iT] at ha;intro u hu;rcases List.mem_cons.1 hu with rfl|hu
  exact MV ha.1 h1
  exact zk ps U ha.2 h2 u hu
theorem H9 {w:World}{Y:Nat->Prop}{σ:Sg}{p:PV}{v:Value}(h:Rep w Y σ p v)(U:iT (mW p)=true) :
  ∃ vs:List Value,v.cells=vs.toArray/\gV w Y σ (mW p) vs/\∀ u∈vs,MS u=true:=by
 cases p
 case agg cs =>
  simp only[mW] at U |-;unfold Rep at h;obtain⟨vs,e,hr⟩:=h;subst e;exact⟨vs,rfl,hr,zk _ _ U hr⟩
 all_goals
  simp only[mW,iT,Bool.and_true] at U |-;have h1:=MV U h;refine⟨[v],by rw[Bz h1],by unfold gV;exact⟨v,[],rfl,h,by simp[gV]⟩,by simp[h1]⟩
theorem abO {P:Program}{w:World}{x:Addr}{v u:Value}(hv:MS v=true)(hc:w.cell? x=some u)(O:w.frozen? x=false) :
  (store x v).run P w=.ok () (w.setCell x v):=by
 unfold store;cases v<;>simp[MS] at hv<;>simp[Sem.run,hc,O]
theorem LZ {w:World}{b o:Nat}{arr:Array Value}{ty:TypeId}(h:w.heap[b]?=some (.cells arr ty (0,0)))(v:Value) :
  (w.setCell ⟨b,o,none⟩ v).heap[b]?=some (.cells (arr.setIfInBounds o v) ty (0,0)):=by
 simp[World.setCell,Array.getElem?_modify,h]
theorem cell_of_block {w:World}{b o:Nat}{arr:Array Value}{ty:TypeId}(h:w.heap[b]?=some (.cells arr ty (0,0))):w.cell? ⟨b,o,none⟩=arr[o]?:=by
 simp[World.cell?,h]
theorem vT {w:World}{b o:Nat}{arr:Array Value}{ty:TypeId}(h:w.heap[b]?=some (.cells arr ty (0,0))):w.frozen? ⟨b,o,none⟩=false:=by
 simp[World.frozen?,h]
structure Wrote (w w' : World)(b o:Nat)(arr:Array Value)(ty:TypeId)(vs:List Value):Prop where
 os:w'.os=w.os
 tape:w'.tape=w.tape
 output:w'.output=w.output
 size:w'.heap.size=w.heap.size
 other:∀ k,k≠b->w'.heap[k]?=w.heap[k]?
 blk:∃ arr' : Array Value,w'.heap[b]?=some (.cells arr' ty (0,0))/\arr'.size=arr.size/\∀ j,arr'[j]?=if o<=j/\j<o+vs.length then vs[j-o]? else arr[j]?
theorem uA {P:Program}{b o:Nat}{ty:TypeId}:∀ (vs:List Value) (i:Nat) (w:World) (arr:Array Value),w.heap[b]?=some (.cells arr ty (0,0))->o+i+vs.length<=arr.size->(∀ v∈vs,MS v=true) ->
  ∃ w',(storeCells ⟨b,o,none⟩ vs i).run P w=.ok () w'/\Wrote w w' b (o+i) arr ty vs
 | [],i,w,arr,h,_,_=>⟨w,by simp[storeCells],rfl,rfl,rfl,rfl,λ_ _=>rfl,arr,h,rfl,λj=>by simp;intro h1 h2;omega⟩
 | v::vs,i,w,arr,h,hle,hone=>by
  have J:o+i<arr.size:=by simp at hle;omega
  have hc:w.cell? ⟨b,o+i,none⟩=some arr[o+i]:=by rw[cell_of_block h];simp[J]
  have T:=abO (P:=P) (hone v aS) hc (vT h);obtain⟨w',hr,U⟩:=uA (P:=P) (o:=o) vs (i+1) (w.setCell ⟨b,o+i,none⟩ v) (arr.setIfInBounds (o+i) v) (LZ h v) (by simp at hle |-;omega) (λu hu=>hone u (by simp[hu]));refine⟨w',?_,?_⟩
  simp only[storeCells,Sem.run_bind,addr_add,T,Result.andThen];exact hr
  obtain⟨arr',h1,h2,C⟩:=U.blk;refine⟨U.os,U.tape,U.output,?_,λk hk=>?_,arr',h1,by simpa using h2,λj=>?_⟩
  rw[U.size];simp[World.setCell]
  rw[U.other k hk];simp only[World.setCell,Array.getElem?_modify];rw[if_neg ah]
  rw[C j];simp only[List.length_cons]
  by_cases I:j=o+i
  subst I;rw[if_neg ah,if_pos ah];simp[J]
  by_cases h5:o+(i+1)<=j/\j<o+(i+1)+vs.length
  rw[if_pos h5,if_pos ah];rw[show j-(o+i)=(j-(o+(i+1)))+1 by omega];simp
  rw[if_neg h5,if_neg ah];rw[Array.getElem?_setIfInBounds];rw[if_neg ah]
theorem wW:∀ (vs l:List PV) (c:Nat),(mV l c vs).length=l.length
 | [],l,c=>by cases l<;>simp[mV]
 | v::vs,[],c=>by simpa [mV,oq] using wW vs [] (c+1)
 | v::vs,x::l,c=>by rw[mV,wW vs,rq];simp
theorem MZ:∀ (vs l:List PV) (c j:Nat),c+vs.length<=l.length->(mV l c vs)[j]?=if c<=j/\j<c+vs.length then vs[j-c]? else l[j]?
 | [],l,c,j,_=>by
  have:mV l c []=l:=by cases l<;>simp[mV]
  rw[this];simp;intro h1 h2;omega
 | v::vs,[],c,j,h=>by simp at h
 | v::vs,x::l,c,j,h=>by
  rw[mV,MZ vs _ (c+1) j (by rw[rq];simp at h |-;omega),rq];simp only[List.length_cons]
  by_cases U:j=c
  subst U;rw[if_neg ah,if_pos ah];simp at h;rw[List.getElem?_set];simp;omega
  by_cases h5:c+1<=j/\j<c+1+vs.length
  rw[if_pos h5,if_pos ah,show j-c=(j-(c+1))+1 by omega];simp
  rw[if_neg h5,if_neg ah,List.getElem?_set_ne ah]
theorem jA.iff {w:World}{Y:Nat->Prop}{σ:Sg}{b:Nat}:∀ (ps:List PV) (o:Nat),jA w Y σ b ps o↔∀ i p,ps[i]?=some p->∃ v,w.cell? ⟨b,o+i,none⟩=some v/\Rep w Y σ p v
 | [],o=>by simp[jA]
 | q::ps,o=>by
  unfold jA;rw[jA.iff ps (o+1)];constructor
  rintro⟨h1,h2⟩ i p hi
  cases i with
  | zero=>simp at hi;subst hi;simpa using h1
  | succ i=>rw[show o+(i+1)=o+1+i by omega];exact h2 i p bZ
  intro h;refine⟨by simpa using h 0 q rfl,λi p hi=>?_⟩;rw[show o+1+i=o+(i+1) by omega];exact h (i+1) p bZ
theorem gV.get? {w:World}{Y:Nat->Prop}{σ:Sg}:∀ {ps:List PV} {vs:List Value} {i:Nat} {p:PV},gV w Y σ ps vs->ps[i]?=some p->∃ v,vs[i]?=some v/\Rep w Y σ p v
 | [],_,_,_,_,hi=>by simp at hi
 | q::ps,vs,0,p,h,hi=>by
  unfold gV at h;obtain⟨v,U,rfl,h1,_⟩:=h;simp at hi;subst hi;exact⟨v,rfl,h1⟩
 | q::ps,vs,i+1,p,h,hi=>by
  unfold gV at h;obtain⟨v,U,rfl,_,h2⟩:=h
  simpa using gV.get? h2 bZ
theorem Wrote.rep {w w' : World}{Y:Nat->Prop}{σ:Sg}{b o:Nat}{arr:Array Value}{ty:TypeId}{vs:List Value}{cs row:List PV}{c:Nat}(W:Wrote w w' b (o+c) arr ty vs)
  (hb:w.heap[b]?=some (.cells arr ty (0,0))) (U:jA w Y σ b row o) (T:gV w Y σ cs vs) (hle:c+cs.length<=row.length) (hk:∀ p v,Rep w Y σ p v->Rep w' Y σ p v):jA w' Y σ b (mV row c cs) o:=by
 obtain⟨arr',h1,h2,I⟩:=W.blk;have hl:=T.length;rw[jA.iff] at U |-;intro i p hi;rw[MZ _ _ _ _ hle] at hi;rw[cell_of_block h1,I]
 by_cases J:c<=i/\i<c+cs.length
 rw[if_pos J] at hi;rw[if_pos ah];obtain⟨v,hv,hr⟩:=T.get? hi;exact⟨v,by rw[<- hv];congr 1;omega,hk _ _ hr⟩
 rw[if_neg J] at hi;rw[if_neg ah];obtain⟨v,hv,hr⟩:=U i p hi;rw[cell_of_block hb] at hv;exact⟨v,hv,hk _ _ hr⟩
theorem DX {P:Program}{w:World}{t:TypeId}{b o size:Nat}{v:Value}{vs:List Value}{arr:Array Value}{ty:TypeId}(U:P.info? t≠none)(hsize:size=P.cellsOf t)
  (hv:v.cells=vs.toArray) (hlen:vs.length=size) (hb:w.heap[b]?=some (.cells arr ty (0,0))) (hle:o+vs.length<=arr.size) (T:∀ u∈vs,MS u=true) :
  ∃ w',(storeVar t ⟨b,o,none⟩ v).run P w=.ok () w'/\Wrote w w' b o arr ty vs:=by
 obtain⟨w',hr,J⟩:=uA (P:=P) (o:=o) vs 0 w arr hb (by simpa using hle) T;refine⟨w',?_,by simpa using J⟩;simp only[storeVar,Sem.run_bind,run_sizeOf U,Result.andThen];rw[if_neg (by rw[hv];simp;omega)];simp only[hv];exact hr
section
variable {P:Program}{T:Tab}(hT:jv P T){C:Ctx T}{o:Oper}{a:Act}{w:World}{Y:Nat->Prop}{σ:Sg}{ps:List PV}{st:St}{n id:Nat}{K:PV->Dl->Prop}{lk:Nat->Option mP}
 (H:SW C w Y σ ps a.tmps.toList st n) (hlk:∀ b x,lk b=some x->jr st b=some x) (hid:σ id=none/\T.pG<=id)
theorem Wh {vs:List Value}(H:SW C w Y σ ps vs st n){t:TypeId}{b c size:Nat}{l:Loc}{row:List PV}{p:PV}{v:Value}{K:List PV->Prop}
  (T:P.info? t≠none) (hsize:size=P.cellsOf t) (g:jr st b=some (.var false row)) (hl:σ b=some l) (hv:Rep w Y σ p v) (h:oP size row c p K) :
  ∃ U w',K U/\(storeVar t ⟨l.cb,l.co+c,none⟩ v).run P w=.ok () w'/\SW C w' Y σ ps vs (oH st b (some (.var false U))) n:=by
 unfold oP at h
 cases hb:(iT (mW p)&&Nat.beq (oG (mW p)) size&&Nat.ble (c+oG (mW p)) (oG row)) with
 | false=>rw[hb] at h;exact h.elim
 | true =>
  rw[hb] at h;simp only[Bool.and_eq_true,vC] at hb;obtain⟨⟨h1,h2⟩,h3⟩:=hb;have h2:=Nat.eq_of_beq_eq_true h2;have h3:=Nat.le_of_ble_eq_true h3;obtain⟨vs',hvs,hr,hone⟩:=H9 hv h1;have hlen:=hr.length
  have hB:iw w Y σ l (.var false row):=by
   rcases H.store.blk b _ g with ⟨l',J,hB⟩|⟨hn,_⟩
   rw[hl] at J;cases J;exact hB
   rw[hl] at hn;cases hn
  unfold iw at hB;obtain⟨⟨arr,ty,ha,has⟩,hsz,hle,hrow,hm,hr0⟩:=hB;obtain⟨w',I,W⟩:=DX (P:=P) (o:=l.co+c) T hsize hvs ah ha ah hone;refine⟨_,w',h,I,SW.update H g hl (hm rfl) W.os W.tape W.output W.size W.other (λ_ _ e=>by cases e) λhk=>?_⟩;obtain⟨arr',h4,h5,h6⟩:=W.blk;unfold iw;exact⟨⟨arr',ty,h4,by omega⟩,by rw[wW];exact hsz,by rw[wW];exact hle,W.rep ha hrow hr ah hk,hm,hr0⟩
theorem Wi {vs:List Value}(H:SW C w Y σ ps vs st n){t:TypeId}{b c size sz r:Nat}{l:Loc}{rows:List (List PV)}{row:List PV}{p:PV}{v:Value}{K:List PV->Prop}
  (I:P.info? t≠none) (hsize:size=P.cellsOf t) (hst:jr st b=some (.nor sz rows r row)) (hl:σ b=some l) (hv:Rep w Y σ p v) (h:oP size row c p K) :
  ∃ T w',K T/\(storeVar t ⟨l.cb,l.co+r*l.sz+c,none⟩ v).run P w=.ok () w'/\SW C w' Y σ ps vs (oH st b (some (.nor sz rows r T))) n:=by
 unfold oP at h
 cases hb:(iT (mW p)&&Nat.beq (oG (mW p)) size&&Nat.ble (c+oG (mW p)) (oG row)) with
 | false=>rw[hb] at h;exact h.elim
 | true =>
  rw[hb] at h;simp only[Bool.and_eq_true,vC] at hb;obtain⟨⟨h1,h2⟩,h3⟩:=hb;have h2:=Nat.eq_of_beq_eq_true h2;have h3:=Nat.le_of_ble_eq_true h3;obtain⟨vs',hvs,hr,hone⟩:=H9 hv h1;have hlen:=hr.length
  have hB:iw w Y σ l (.nor sz rows r row):=by
   rcases H.store.blk b _ hst with ⟨l',g,hB⟩|⟨hn,_⟩
   rw[hl] at g;cases g;exact hB
   rw[hl] at hn;cases hn
  unfold iw at hB;obtain⟨⟨arr,ty,ha,has⟩,hsz,hpos,⟨hle,hnr⟩,⟨U,hrl⟩,J,hrow,hm⟩:=hB;rw[hsz];have hbnd:(r+1)*sz<=rows.length*sz:=Nat.mul_le_mul_right sz U;rw[Nat.add_mul] at hbnd;obtain⟨w',hrun,W⟩:=DX (P:=P) (o:=l.co+r*sz+c) I hsize hvs ah ha ah hone;refine⟨_,w',h,hrun,SW.update H hst hl hm W.os W.tape W.output W.size W.other (λ_ _ e=>by cases e) λhk=>?_⟩;have K0:Keep w w' Y Y iW iW:=⟨λk _ hy=>W.other k (λe=>hy (e ▸ hm)),λ_ _ h=>h,Nat.le_of_eq W.size.symm,ou.refl _⟩;obtain⟨arr',h4,h5,h6⟩:=W.blk;unfold iw;refine⟨⟨arr',ty,h4,by omega⟩,hsz,hpos,⟨hle,hnr⟩,⟨U,by rw[wW];exact hrl⟩,λi x hx hi=>⟨(J i x hx hi).1,?_⟩,W.rep ha hrow hr ah hk,hm⟩;obtain⟨⟨g1,_⟩,g2⟩:=J i x hx hi;rw[jA.iff] at g2 |-;intro k q hq;obtain⟨u,hu,hp⟩:=g2 k q hq;refine⟨u,?_,Rep.keep _ K0 _ hp⟩;rw[cell_of_block ha] at hu;rw[cell_of_block h4,h6,if_neg]
  exact hu
  have hk:k<x.length:=by
   by_cases hh:k<x.length
   exact hh
   rw[List.getElem?_eq_none (Nat.le_of_not_lt hh)] at hq;cases hq
  rcases Nat.lt_or_gt_of_ne hi with hlt|hgt
  have:=Nat.mul_le_mul_right sz (show i+1<=r from hlt);rw[Nat.add_mul] at this;omega
  have:=Nat.mul_le_mul_right sz (show r+1<=i from hgt);rw[Nat.add_mul] at this;omega
end
end Go.Pv
namespace Go.Pv
open Go
theorem F9 {w:World}{Y:Nat->Prop}{σ:Sg}{b r n:Nat}{ro:Bool}{sz:Nat}{rows:List (List PV)}{v:Value}(hv:Rep w Y σ (.os b r n) v)
  (J:(∃ l,σ b=some l/\iw w Y σ l (.arr ro sz rows))\/(σ b=none/\Emp (.arr ro sz rows))) :
  ∃ a cap,v=.slice a n cap/\n<=cap/\n=((rows.drop r).take n).length/\((rows.drop r).take n=[]\/∃ T o,a=some ⟨T,o,none⟩/\T<w.heap.size/\(∃ l,σ b=some l/\T=l.cb)/\jG w Y iW T sz ((rows.drop r).take n) o):=by
 unfold Rep at hv;rcases hv with ⟨l,cap,hs,rfl,hn,ht,hr⟩|⟨rfl,a,rfl⟩
 rcases J with ⟨l',U,hB⟩|⟨U,_⟩
 rw[hs] at U;cases U;have I:=hB.lt;unfold iw at hB;refine⟨_,cap,rfl,hn.1,?_,.inr ⟨l.cb,_,rfl,I,⟨l,hs,rfl⟩,?_⟩⟩
 rw[List.length_take,List.length_drop];have:=hB.2.2.2.1.2;omega
 rw[hB.2.1];exact (hB.2.2.2.2.1.drop r _ _).take n _ _
 rw[hs] at U;cases U
 exact⟨a,0,rfl,Nat.le_refl _,by simp,.inl aS⟩
def Lk (lk:Nat->Option mP)(st:St):Prop:=∀ b ro sz rows,lk b=some (.arr ro sz rows)->∃ ro',jr st b=some (.arr ro' sz rows)
theorem Na {b:Nat}:∀ (δ:Dl) (st:St),X5 b δ=false->jr (jL δ st) b=jr st b
 | [],st,_=>rfl
 | (c,x)::δ,st,h=>by
  simp only[X5,Bool.or_eq_false_iff] at h;rw[jL,Na δ _ h.2,iR,if_neg];intro e;subst e;simp at h
theorem Ey {P:Program}{T:Tab}{C:Ctx T}{w:World}{σ:Sg}{qs:List PV}{us:List Value}{n:Nat}{lk:Nat->Option mP} :
  ∀ (ps U : List PV) (δ:Dl),pur (jb.jJ P T) lk ps=some (U,δ)->∀ (Y:Nat->Prop) (st:St),SW C w Y σ qs us st n->Lk lk st->∀ vs,gV w Y σ ps vs ->
   ∃ Y',SW C w Y' σ qs us (jL δ st) n/\gV w Y' iW U vs/\(∀ k,Y' k->Y k)
 | [],U,δ,h,Y,st,H,_,vs,hv=>by
  simp[pur] at h;obtain⟨rfl,rfl⟩:=h;unfold gV at hv;subst hv;exact⟨Y,H,by simp[gV],λ_ h=>h⟩
 | p::ps,U,δ,h,Y,st,H,hlk,vs,hv=>by
  unfold gV at hv;obtain⟨v,J,rfl,h1,h2⟩:=hv;unfold pur at h
  cases hp:pur (jb.jJ P T) lk ps with
  | none=>rw[hp] at h;cases h
  | some r =>
   obtain⟨I,δ'⟩:=r;rw[hp] at h;simp only at h
   have plain:∀ (q:PV),Rep w Y iW q v->(some (q::I,δ')=some (U,δ))->∃ Y',SW C w Y' σ qs us (jL δ st) n/\gV w Y' iW U (v::J)/\(∀ k,Y' k->Y k):=by
    intro q hq e;cases e;obtain⟨Y',H',hr,hy⟩:=Ey ps I _ hp Y st H hlk J h2;refine⟨Y',H',?_,hy⟩;unfold gV;exact⟨v,J,rfl,Rep.keep q ⟨λ_ _ _=>rfl,λk _=>hy k,Nat.le_refl _,ou.refl _⟩ v hq,hr⟩
   cases p
   case os b r m =>
    simp only at h
    split at h
    rename_i ro sz rows hb;cases h;obtain⟨ro',hst⟩:=hlk b ro sz rows hb;obtain⟨Y1,H1,hn1,g⟩:=H.freeze hst (x':=.arr true sz rows) (.inr ⟨ro',sz,rows,rfl,rfl⟩)
    have hlk1:Lk lk (oH st b (some (.arr true sz rows))):=by
     intro c ro2 sz2 rows2 hc;rw[iR]
     by_cases e:b=c
     subst e;rw[hb] at hc;cases hc;exact⟨true,by simp⟩
     rw[if_neg e];exact hlk c _ _ _ hc
    have K1:Keep w w Y Y1 σ σ:=⟨λ_ _ _=>rfl,λk _=>g k,Nat.le_refl _,ou.refl _⟩;obtain⟨Y2,H2,hr2,hy2⟩:=Ey ps I δ' hp Y1 _ H1 hlk1 J (gV.keep ps K1 J h2);refine⟨Y2,H2,?_,λk hk=>g k (hy2 k hk)⟩;unfold gV;refine⟨v,J,rfl,?_,hr2⟩;have hB:=H1.store.blk b (.arr true sz rows) fB;obtain⟨a,cap,e1,e2,e3,e4⟩:=F9 (Rep.keep _ K1 v h1) (hB.imp id λ⟨x,y⟩=>⟨x,y⟩)
    have:Rep w Y1 iW (.sl sz ((jb.jJ P T).sub rows r m) false) v:=by
     unfold Rep;refine⟨a,m,cap,e1,e3,e2,(λh=>by cases h),?_⟩;rcases e4 with e4|⟨b',o,ea,eb,⟨l,el,el'⟩,er⟩
     exact .inl e4
     exact .inr ⟨b',o,ea,⟨eb,by rw[el'];exact hn1 l el⟩,er⟩
    exact Rep.keep _ ⟨λ_ _ _=>rfl,λk _=>hy2 k,Nat.le_refl _,ou.refl _⟩ v this
    cases h
   case fn f cs =>
    cases cs with
    | nil=>exact plain _ dw h
    | cons _ _=>cases h
   case bool=>exact plain _ bD h
   case sb=>exact plain _ bD h
   case int=>exact plain _ bD h
   case si=>exact plain _ bD h
   case str=>exact plain _ bD h
   case sl=>exact plain _ bD h
   case pp=>exact plain _ bD h
   case FU=>exact plain _ bD h
   case SB=>exact plain _ bD h
   all_goals cases h
theorem qx:∀ l,iT l=true↔∀ p∈l,sO p=true
 | []=>by simp[iT]
 | p::l=>by simp[iT,qx l]
theorem BQ:∀ (vs l:List PV) (c:Nat),iT l=true->iT vs=true->iT (mV l c vs)=true
 | [],l,c,h,_=>by cases l<;>simpa [mV] using h
 | v::vs,[],c,h,hv=>by
  simp only[iT,Bool.and_eq_true] at hv
  simpa [mV,oq] using BQ vs [] (c+1) h hv.2
 | v::vs,x::l,c,h,hv=>by
  simp only[iT,Bool.and_eq_true] at hv;rw[mV];refine BQ vs _ (c+1) ?_ hv.2;rw[rq,qx];rw[qx] at h;intro p hp;rcases List.mem_or_eq_of_mem_set hp with h1|h1
  exact h p h1
  rw[h1];exact hv.1
theorem jG.iff {w:World}{Y:Nat->Prop}{σ:Sg}{b sz:Nat}:∀ (rs:List (List PV)) (o:Nat),jG w Y σ b sz rs o↔∀ i r,rs[i]?=some r->(r.length=sz/\iT r=true)/\jA w Y σ b r (o+i*sz)
 | [],o=>by simp[jG]
 | q::rs,o=>by
  unfold jG;rw[jG.iff rs (o+sz)];constructor
  rintro⟨h0,h1,h2⟩ i r hi
  cases i with
  | zero=>simp at hi;subst hi;exact⟨h0,by simpa using h1⟩
  | succ i=>rw[show o+(i+1)*sz=o+sz+i*sz by rw[Nat.add_mul];omega];exact h2 i r bZ
  intro h;refine⟨(h 0 q rfl).1,by simpa using (h 0 q rfl).2,λi r hi=>?_⟩;rw[show o+sz+i*sz=o+(i+1)*sz by rw[Nat.add_mul];omega];exact h (i+1) r bZ
section
variable {P:Program}{T:Tab}(hT:jv P T){C:Ctx T}{o:Oper}{a:Act}{w:World}{Y:Nat->Prop}{σ:Sg}{ps:List PV}{st:St}{n id:Nat}{K:PV->Dl->Prop}{lk:Nat->Option mP}
 (H:SW C w Y σ ps a.tmps.toList st n) (hlk:∀ b x,lk b=some x->jr st b=some x) (hid:σ id=none/\T.pG<=id)
theorem Wj {vs:List Value}(H:SW C w Y σ ps vs st n){t:TypeId}{b r c size sz:Nat}{l:Loc}{rows:List (List PV)}{row cs:List PV}{v:Value}{K:List PV->Prop}
  (I:P.info? t≠none) (hsize:size=P.cellsOf t) (hst:jr st b=some (.arr false sz rows)) (hl:σ b=some l) (T:rows[r]?=some row)
  {us:List Value} (hcs:v.cells=us.toArray) (hv:gV w Y iW cs us) (h:oP size row c (.agg cs) K) :
  ∃ J w',K J/\(storeVar t ⟨l.cb,l.co+r*l.sz+c,none⟩ v).run P w=.ok () w'/\SW C w' Y σ ps vs (oH st b (some (.arr false sz (rows.set r J)))) n:=by
 unfold oP at h;simp only[mW] at h
 cases hb:(iT cs&&Nat.beq (oG cs) size&&Nat.ble (c+oG cs) (oG row)) with
 | false=>rw[hb] at h;exact h.elim
 | true =>
  rw[hb] at h;simp only[Bool.and_eq_true,vC] at hb;obtain⟨⟨h1,h2⟩,h3⟩:=hb;have h2:=Nat.eq_of_beq_eq_true h2;have h3:=Nat.le_of_ble_eq_true h3;have hone:=zk _ _ h1 hv;have hlen:=hv.length
  have hB:iw w Y σ l (.arr false sz rows):=by
   rcases H.store.blk b _ hst with ⟨l',hl',hB⟩|⟨hn,_⟩
   rw[hl] at hl';cases hl';exact hB
   rw[hl] at hn;cases hn
  unfold iw at hB;obtain⟨⟨arr,ty,ha,has⟩,hsz,hpos,⟨hle,hnr⟩,U,hm,hr0⟩:=hB;have hr:=jG.row _ _ _ _ U T
  have hrlt:r<rows.length:=by
   by_cases hh:r<rows.length
   exact hh
   simp[List.getElem?_eq_none (Nat.le_of_not_lt hh)] at T
  have hbound:r*sz+sz<=rows.length*sz:=by
   have:=Nat.mul_le_mul_right sz (show r+1<=rows.length by omega);rw[Nat.add_mul] at this;omega
  rw[hsz];obtain⟨w',hrun,W⟩:=DX (P:=P) (o:=l.co+r*sz+c) I hsize hcs ah ha ah hone;refine⟨_,w',h,hrun,SW.update H hst hl (hm rfl) W.os W.tape W.output W.size W.other (λ_ _ e=>by cases e) λ_=>?_⟩;have K0:Keep w w' Y Y iW iW:=⟨λk _ hk=>W.other k (λe=>hk (e ▸ hm rfl)),λ_ _ h=>h,Nat.le_of_eq W.size.symm,ou.refl _⟩;obtain⟨arr',h4,h5,h6⟩:=W.blk;unfold iw;refine⟨⟨arr',ty,h4,by omega⟩,hsz,hpos,⟨by simpa using hle,by simpa using hnr⟩,?_,hm,hr0⟩;rw[jG.iff] at U |-;intro i q hi;rw[List.getElem?_set] at hi
  by_cases g:r=i
  subst g;rw[if_pos rfl,if_pos hrlt] at hi;cases hi;refine⟨⟨by rw[wW];exact hr.1.1,BQ _ _ _ hr.1.2 h1⟩,?_⟩;exact W.rep ha hr.2 hv ah (λp v hp=>Rep.keep p K0 v hp)
  rw[if_neg g] at hi;obtain⟨h7,h8⟩:=U i q hi;refine⟨h7,?_⟩;rw[jA.iff] at h8 |-;intro j p hj;obtain⟨u,hu,hp⟩:=h8 j p hj
  have hjlt:j<q.length:=by
   by_cases hh:j<q.length
   exact hh
   simp[List.getElem?_eq_none (Nat.le_of_not_lt hh)] at hj
  refine⟨u,?_,Rep.keep p K0 u hp⟩;rw[cell_of_block ha] at hu;rw[cell_of_block h4,h6,if_neg,hu]
  rintro⟨h9,h10⟩
  rcases Nat.lt_or_gt_of_ne g with h11|h11
  have:=Nat.mul_le_mul_right sz (show r+1<=i by omega);rw[Nat.add_mul] at this;omega
  have:=Nat.mul_le_mul_right sz (show i+1<=r by omega);rw[Nat.add_mul] at this;omega
theorem KR {cb co tot sz r c size:Nat}{arr:Array Value}{ty:TypeId}{rows:List (List PV)}{row cs:List PV}{v:Value}{t:TypeId}{K:List PV->Prop}
  (J:P.info? t≠none) (hsize:size=P.cellsOf t) (ha:w.heap[cb]?=some (.cells arr ty (0,0))) (has:arr.size=tot) (hle:co+rows.length*sz<=tot) (U:jG w Y iW cb sz rows co) (hm:Y cb) (T:rows[r]?=some row)
  {us:List Value} (hcs:v.cells=us.toArray) (hv:gV w Y iW cs us) (h:oP size row c (.agg cs) K) :
  ∃ w',K (mV row c cs)/\iT cs=true/\c+cs.length<=row.length/\(storeVar t ⟨cb,co+r*sz+c,none⟩ v).run P w=.ok () w'/\(w'.os=w.os/\w'.tape=w.tape/\w'.output=w.output/\w'.heap.size=w.heap.size/\∀ k,k≠cb->w'.heap[k]?=w.heap[k]?) /\
   (∃ arr',w'.heap[cb]?=some (.cells arr' ty (0,0))/\arr'.size=tot)/\jG w' Y iW cb sz (rows.set r (mV row c cs)) co:=by
 unfold oP at h;simp only[mW] at h
 cases hb:(iT cs&&Nat.beq (oG cs) size&&Nat.ble (c+oG cs) (oG row)) with
 | false=>rw[hb] at h;exact h.elim
 | true =>
  rw[hb] at h;simp only[Bool.and_eq_true,vC] at hb;obtain⟨⟨h1,h2⟩,h3⟩:=hb;have h2:=Nat.eq_of_beq_eq_true h2;have h3:=Nat.le_of_ble_eq_true h3;have hone:=zk _ _ h1 hv;have hlen:=hv.length;have hr:=jG.row _ _ _ _ U T
  have g:r<rows.length:=by
   by_cases hh:r<rows.length
   exact hh
   simp[List.getElem?_eq_none (Nat.le_of_not_lt hh)] at T
  have hbound:r*sz+sz<=rows.length*sz:=by
   have:=Nat.mul_le_mul_right sz (show r+1<=rows.length by omega);rw[Nat.add_mul] at this;omega
  obtain⟨w',C,W⟩:=DX (P:=P) (o:=co+r*sz+c) J hsize hcs ah ha ah hone;obtain⟨arr',h4,h5,h6⟩:=W.blk;have K0:Keep w w' Y Y iW iW:=⟨λk _ hk=>W.other k (λe=>hk (e ▸ hm)),λ_ _ h=>h,Nat.le_of_eq W.size.symm,ou.refl _⟩;refine⟨w',h,h1,h3,C,⟨W.os,W.tape,W.output,W.size,W.other⟩,⟨arr',h4,by omega⟩,?_⟩;rw[jG.iff] at U |-;intro i q hi;rw[List.getElem?_set] at hi
  by_cases I:r=i
  subst I;rw[if_pos rfl,if_pos g] at hi;cases hi;refine⟨⟨by rw[wW];exact hr.1.1,BQ _ _ _ hr.1.2 h1⟩,?_⟩;exact W.rep ha hr.2 hv ah (λp v hp=>Rep.keep p K0 v hp)
  rw[if_neg I] at hi;obtain⟨h7,h8⟩:=U i q hi;refine⟨h7,?_⟩;rw[jA.iff] at h8 |-;intro j p hj;obtain⟨u,hu,hp⟩:=h8 j p hj
  have hjlt:j<q.length:=by
   by_cases hh:j<q.length
   exact hh
   simp[List.getElem?_eq_none (Nat.le_of_not_lt hh)] at hj
  refine⟨u,?_,Rep.keep p K0 u hp⟩;rw[cell_of_block ha] at hu;rw[cell_of_block h4,h6,if_neg,hu]
  rintro⟨h9,h10⟩
  rcases Nat.lt_or_gt_of_ne I with h11|h11
  have:=Nat.mul_le_mul_right sz (show r+1<=i by omega);rw[Nat.add_mul] at this;omega
  have:=Nat.mul_le_mul_right sz (show i+1<=r by omega);rw[Nat.add_mul] at this;omega
theorem SW.Wl {vs:List Value}{w' : World}(H:SW C w Y σ ps vs st n){b:Nat}{x x' : mP}{l:Loc}{st' : St}(hx:jr st b=some x)(hl:σ b=some l){m:Nat}(hm:Y m)(hnb:∀ b' y l',b'≠b->jr st b'=some y->σ b'=some l'->l'.cb≠m)(hnm:C.w0.heap.size<=m\/C.L m)
  (T:∀ c y,jr st' c=some y->(c=b/\y=x')\/(c≠b/\jr st c=some y))
  (hos:w'.os=w.os) (I:w'.tape=w.tape) (hout:w'.output=w.output) (hsize:w'.heap.size=w.heap.size)
  (U:∀ k,k≠m->w'.heap[k]?=w.heap[k]?) (hnew:(∀ p v,Rep w Y iW p v->Rep w' Y iW p v)->iw w' Y σ l x') (J:(∀ p v,Rep w Y iW p v->Rep w' Y iW p v)->zQ C.w0 C.L w' Y σ st'):SW C w' Y σ ps vs st' n:=by
 have K:Keep w w' Y Y σ σ:=⟨λk _ hk=>U k (λe=>hk (e ▸ hm)),λ_ _ h=>h,Nat.le_of_eq hsize.symm,ou.refl _⟩
 have old:∀ c y,jr st' c=some y->∃ z,jr st c=some z:=by
  intro c y h;rcases T c y h with ⟨rfl,_⟩|⟨_,h⟩
  exact⟨x,hx⟩
  exact⟨y,h⟩
 refine⟨gV.keep _ K _ H.vals,⟨?_,?_⟩,H.next,λk hk=>by rw[hsize];exact H.vw k hk,H.y0,H.c0,H.wI,?_,?_,H.wJ.keep K.none,H.fix,J λp v hp=>Rep.keep p K.none v hp⟩
 intro c y h;rcases T c y h with ⟨rfl,rfl⟩|⟨hc,h⟩
 exact .inl ⟨l,hl,hnew λp v hp=>Rep.keep p K.none v hp⟩
 rcases H.store.blk c y h with ⟨l',g,hb⟩|hn
 exact .inl ⟨l',g,iw.keep K (U _ (hnb c y l' hc h g)) Iff.rfl hb⟩
 exact .inr hn
 intro c c' y y' l1 l2 h h' h1 h2 e;obtain⟨z,hz⟩:=old _ _ h;obtain⟨z',hz'⟩:=old _ _ h';exact H.store.inj c c' z z' l1 l2 hz hz' h1 h2 e
 refine⟨by rw[hos];exact H.qh.os,by rw[I];exact H.qh.tape,by rw[hout];exact H.qh.output,by rw[hsize];exact H.qh.size,λk hk hM=>?_⟩
 have hne:k≠m:=λe=>by
  subst e;rcases H.wI _ hm hk with h2|h2
  have:=H.c0 _ h2;rcases hnm with h3|h3
  omega
  exact this.2 h3
  exact hM h2
 rw[U k hne];exact H.qh.block k hk hM
 intro c y l' h h1;obtain⟨z,hz⟩:=old _ _ h;exact H.own c z l' hz h1
theorem Va {row cs:List PV}{c i:Nat}{h:Hdr}{sz:Nat}{U:List (List PV)}(hle:c+cs.length<=row.length)(hi:(mV row c cs)[i]?=some (.ow h sz U)):(c<=i/\i<c+cs.length/\PV.ow h sz U∈cs)\/((i<c\/c+cs.length<=i)/\row[i]?=some (.ow h sz U)):=by
 rw[MZ _ _ _ _ hle] at hi
 split at hi
 rename_i hh;exact .inl ⟨hh.1,hh.2,List.mem_of_getElem? hi⟩
 rename_i hh;exact .inr ⟨by omega,hi⟩
theorem Yg {vs:List Value}{w' : World}(H:SW C w Y σ ps vs st n){b r c sz:Nat}{rows:List (List PV)}{row cs:List PV}{l:Loc}(U:jr st b=some (.l7 sz rows))(hs:σ b=some l)(hm:Y l.cb)
  (others:∀ J y l',J≠b->jr st J=some y->σ J=some l'->l'.cb≠l.cb) (I:rows[r]?=some row) (h2:c+cs.length<=row.length) (hno:∀ h sz es,PV.ow h sz es∈cs->h.cap≠0->False)
  (w1:w'.os=w.os) (w2:w'.tape=w.tape) (w3:w'.output=w.output) (w4:w'.heap.size=w.heap.size) (w5:∀ k,k≠l.cb->w'.heap[k]?=w.heap[k]?)
  (hB:(∀ p v,Rep w Y iW p v->Rep w' Y iW p v)->iw w' Y σ l (.l7 sz (rows.set r (mV row c cs)))):SW C w' Y σ ps vs (oH st b (some (.l7 sz (rows.set r (mV row c cs))))) n:=by
 refine SW.Wl H U hs hm others (H.own b _ l U hs) (λg y' hh=>?_) w1 w2 w3 w4 w5 hB λhk=>?_
 rw[iR] at hh
 by_cases e1:b=g
 rw[if_pos e1] at hh;cases hh;exact .inl ⟨e1.symm,rfl⟩
 rw[if_neg e1] at hh;exact .inr ⟨λe=>e1 e.symm,hh⟩
 have K0:Keep w w' Y Y iW iW:=⟨λk _ hy=>w5 k (λe=>hy (e ▸ hm)),λ_ _ h=>h,Nat.le_of_eq w4.symm,ou.refl _⟩
 have back:∀ {J r' g h' T es'},nz (oH st b (some (.l7 sz (rows.set r (mV row c cs))))) J r' g h' T es'->nz st J r' g h' T es':=by
  rintro J r' g h' T es' ⟨sz0,rs,rw0,g1,g2,g3,g4⟩
  rw[iR] at g1
  by_cases e1:b=J
  subst e1;rw[if_pos rfl] at g1;cases g1;rw[List.getElem?_set] at g2
  by_cases hr:r=r'
  subst hr
  have hrlt:r<rows.length:=by
   by_cases hh:r<rows.length
   exact hh
   simp[List.getElem?_eq_none (Nat.le_of_not_lt hh)] at I
  rw[if_pos rfl,if_pos hrlt] at g2;cases g2;rcases Va h2 g3 with ⟨k1,k2,k3⟩|⟨k1,k2⟩
  exact (hno _ _ _ k3 g4).elim
  exact⟨sz,rows,row,U,I,k2,g4⟩
  rw[if_neg hr] at g2;exact⟨sz,rows,rw0,U,g2,g3,g4⟩
  rw[if_neg e1] at g1;exact⟨sz0,rs,rw0,g1,g2,g3,g4⟩
 refine H.nest.keep K0 (λ_ _ _ _ _ _ hh=>back hh) (λJ r' g h' T es' hh=>w5 _ (H.nest.sep _ _ _ _ _ _ _ _ _ (back hh) U hs).symm) (λJ r' g h' T es' hh=>(H.nest.rep _ _ _ _ _ _ (back hh)).own) λJ r' g h' T es' b'' x l' hh hx hl'=>?_;rw[iR] at hx
 by_cases e1:b=b''
 subst e1;exact H.nest.sep _ _ _ _ _ _ _ _ _ (back hh) U hl'
 rw[if_neg e1] at hx;exact H.nest.sep _ _ _ _ _ _ _ _ _ (back hh) hx hl'
theorem KT {S:jb}{lk:Nat->Option mP}:∀ (ps U : List PV) (δ:Dl),pur S lk ps=some (U,δ)->iT U=true/\iT ps=true
 | [],U,δ,h=>by simp[pur] at h;obtain⟨rfl,_⟩:=h;simp[iT]
 | p::ps,U,δ,h=>by
  unfold pur at h
  cases hp:pur S lk ps with
  | none=>rw[hp] at h;cases h
  | some r =>
   obtain⟨q,J⟩:=r;rw[hp] at h;obtain⟨T,i2⟩:=KT ps q J hp;simp only at h;cases p
   case os b r n =>
    simp only at h
    split at h
    cases h;exact⟨by simp[iT,sO,T],by simp[iT,sO,i2]⟩
    cases h
   case fn f cs=>cases cs<;>simp only at h<;>first|contradiction|(cases h;exact⟨by simp[iT,sO,T],by simp[iT,sO,i2]⟩)
   all_goals (simp only at h;first|contradiction|(cases h;exact⟨by simp[iT,sO,T],by simp[iT,sO,i2]⟩))
theorem NW {S:jb}{lk:Nat->Option mP}:∀ {ps U : List PV} {us:List Value},pur S lk ps=some (U,[])->gV w Y σ ps us->gV w Y iW U us
 | [],U,us,h,hr=>by simp[pur] at h;subst h;unfold gV at hr |-;exact hr
 | p::ps,U,us,h,hr=>by
  unfold pur at h
  cases hp:pur S lk ps with
  | none=>rw[hp] at h;cases h
  | some r =>
   obtain⟨q,I⟩:=r;rw[hp] at h;simp only at h;unfold gV at hr;obtain⟨v,T,rfl,h1,h2⟩:=hr;cases p
   case os b r n =>
    simp only at h
    split at h
    cases h
    cases h
   case fn f cs =>
    cases cs<;>simp only at h<;>first|contradiction|skip
    cases h;unfold gV;refine⟨v,T,rfl,?_,NW hp h2⟩;unfold Rep at h1 |-;obtain⟨zs,e1,J⟩:=h1;unfold gV at J;subst J;exact⟨[],e1,by unfold gV;rfl⟩
   all_goals (simp only at h;first|contradiction|(cases h;unfold gV;refine⟨v,T,rfl,?_,NW hp h2⟩;unfold Rep at h1 |-;exact h1))
theorem Tm {P:Program}{T:Tab}{lk:Nat->Option mP}:∀ (ps U : List PV) (δ:Dl),pur (jb.jJ P T) lk ps=some (U,δ)->∀ h sz J,PV.ow h sz J ∉ U
 | [],U,δ,h=>by simp[pur] at h;obtain⟨rfl,_⟩:=h;simp
 | p::ps,U,δ,h=>by
  unfold pur at h
  cases hp:pur (jb.jJ P T) lk ps with
  | none=>rw[hp] at h;cases h
  | some r =>
   obtain⟨q,g⟩:=r;rw[hp] at h;have ih:=Tm ps q g hp;intro hh sz J C
   have key:∀ u I,some (u::q,I)=some (U,δ)->u≠.ow hh sz J->False:=by
    intro u I e hu;cases e;rcases List.mem_cons.1 C with e|e
    exact hu e.symm
    exact ih _ _ _ e
   simp only at h;cases p
   case os b r n =>
    simp only at h
    split at h
    exact key _ _ h aS
    cases h
   case fn f cs=>cases cs<;>simp only at h<;>first|contradiction|exact key _ _ h aS
   all_goals (simp only at h;first|contradiction|exact key _ _ h aS)
include hT H hlk hid in
theorem ac0 {t:TypeId}{x y:Operand}(ho:o.op=.store t x y)(h:oO T (jb.jJ P T) (.store t x y) ps lk id K):qw P C o a w σ ps st n id K:=by
 have hx:=kX H x;have hy:=kX H y;simp only[oO] at h
 split at h
 rename_i agg size z plain kind e;obtain⟨hinfo,hsize,hagg,hund⟩:=Tj hT e
 split at h
 rename_i b c e;rw[e] at hx;unfold Rep at hx;obtain⟨l,hs,e'⟩:=hx
 split at h
 rename_i row hb;obtain⟨row',w',hK,I,H'⟩:=Wh H hinfo hsize (hlk _ _ hb) hs hy h;refine⟨_,_,Go.undef,w',Y,σ,hK,.inr ⟨?_,rfl⟩,?_,by simp[Rep],Off.refl _ _⟩
 simp[execOp,ho,e',Instr.storeAt,Instr.sureAddr,I]
 simp only[jL,uz];exact H'.mono ah
 exact h.elim
 rename_i b r c e;rw[e] at hx;unfold Rep at hx;obtain⟨l,hs,e'⟩:=hx
 split at h
 rename_i sz rows hb
 split at h
 rename_i cs δ hp
 cases hm:X5 b δ with
 | true=>rw[hm] at h;exact h.elim
 | false =>
  rw[hm] at h;have h9:=zS h;clear h;obtain⟨cs2,hl2,hc2,hw2,⟨row,U,h⟩,h8⟩:=h9;clear hl2 hc2 h8
  have hall:iT (mW (qY T ps y))=true:=by
   clear h hm hs e' U hb e hw2;generalize mW (qY T ps y)=l at hp
   induction l generalizing cs δ with
   | nil=>rfl
   | cons p l ih =>
    unfold pur at hp
    cases hp2:pur (jb.jJ P T) lk l with
    | none=>rw[hp2] at hp;cases hp
    | some r =>
     rw[hp2] at hp;simp only[iT,ih _ _ hp2,Bool.and_true];cases p<;>simp[sO] at hp |-
  obtain⟨us,hcs,hr,hone⟩:=H9 hy hall;have hLk:Lk lk st:=λb ro sz rows h=>⟨ro,hlk _ _ h⟩
  obtain⟨Y',H',hr',hyy⟩:=Ey _ _ _ hp Y st H hLk us hr;have hst' : jr (jL δ st) b=some (.arr false sz rows):=by rw[Na δ st hm];exact hlk _ _ hb
  obtain⟨row',w',hK,I,H2⟩:=Wj (P:=P) H' hinfo hsize hst' hs U hcs (hw2 _ _ _ _ hr') h;refine⟨_,_,Go.undef,w',Y',σ,hK,.inr ⟨?_,rfl⟩,?_,by simp[Rep],Off.refl _ _⟩
  simp[execOp,ho,e',Instr.storeAt,Instr.sureAddr,I]
  have:∀ (δ:Dl) (st:St) (e:Nat×Option mP),jL (δ++[e]) st=oH (jL δ st) e.1 e.2:=by
   intro δ;induction δ with
   | nil=>intro st e;rfl
   | cons d δ ih=>intro st e;simp only[List.cons_append,jL];exact ih _ _
  rw[this]
  have hn:n<=uz (δ++[(b,some (.arr false sz ((jb.jJ P T).MN rows r row')))]) n id:=by
   cases δ<;>simp[uz]<;>omega
  exact H2.mono hn
 exact h.elim
 rename_i sz rows hb;have hst:=hlk _ _ hb;have hB:iw w Y σ l (.l7 sz rows):=iw.yA H hlk hb hs;unfold iw at hB;obtain⟨⟨arr,ty,ha,has⟩,hsz,hpos,⟨hle,hnr⟩,hrows,hm⟩:=hB;have others:∀ b' y l',b'≠b->jr st b'=some y->σ b'=some l'->l'.cb≠l.cb:=λb' y l' hne h1 h2 e=>hne (H.store.inj b' b y _ l' l h1 hst h2 hs e)
 have blk:∀ {w' : World} {rows' : List (List PV)} {arr' : Array Value},rows'.length=rows.length->w'.heap[l.cb]?=some (.cells arr' ty (0,0))->arr'.size=l.tot->jG w' Y iW l.cb sz rows' l.co->iw w' Y σ l (.l7 sz rows'):=by
  intro w' rows' arr' h1 h2 h3 h4;unfold iw;exact⟨⟨arr',ty,h2,h3⟩,hsz,hpos,⟨by rw[h1];exact hle,by rw[h1];exact hnr⟩,h4,hm⟩
 split at h
 rename_i id0 r0 m ey;rw[ey] at hy
 split at h
 rename_i g rows' hb2
 cases hc:(Nat.beq size 1&&Nat.beq id0 b) with
 | true=>rw[hc] at h;exact h.elim
 | false =>
  rw[hc] at h;obtain⟨row,U,h⟩:=h;have hst2:=hlk _ _ hb2;have hne:id0≠b:=λe=>by rw[e] at hst2;rw[hst] at hst2;cases hst2
  unfold Rep at hy
  have hcase:(m=0/\∃ a0,a.eval y=.slice a0 0 0)\/(∃ l cap,(σ id0=some l/\a.eval y=.slice (some ⟨l.cb,l.co+r0*l.sz,none⟩) m cap/\(m<=cap/\cap<=9223372036854775807)/\l.co+r0*l.sz+cap*l.sz=l.tot/\r0+m<=l.nr)/\cap≠0):=by
   rcases hy with ⟨l2,cap,g1,g2,g3,g4⟩|hy
   by_cases hcap0:cap=0
   have hm0:m=0:=by have:=g3.1;omega
   subst hm0 hcap0;exact .inl ⟨rfl,_,g2⟩
   exact .inr ⟨l2,cap,⟨g1,g2,g3,g4⟩,hcap0⟩
   exact .inl hy
  rcases hcase with ⟨hm0,hsl⟩|⟨l2,cap,⟨hl2,ey2,hcap,htot,hrm⟩,hcap0⟩
        
  subst hm0
  let hd:Hdr:=⟨0,0,0⟩;have h:oP size row c (.agg [.ow hd g []]) (λrow'=>K PV.undef [(id0,none),(b,some (mP.l7 sz ((jb.jJ P T).MN rows r row')))]):=h hd
  have hrep:gV w Y iW [.ow hd g []] [a.eval y]:=by
   unfold gV;refine⟨_,_,rfl,?_,by unfold gV;rfl⟩;unfold Rep;exact .inr ⟨rfl,rfl,hsl⟩
  have hcells:(a.eval y).cells=#[a.eval y]:=Bz (by obtain⟨a0,e⟩:=hsl;rw[e];rfl);obtain⟨w',hK,h1,h2,I,⟨w1,w2,w3,w4,w5⟩,⟨arr',h5,h6⟩,h7⟩:=KR (P:=P) hinfo hsize ha has hle hrows hm U (us:=[a.eval y]) (by rw[hcells]) hrep h;have H2:=Yg H hst hs hm others U h2 (by intro h' J es' hh hne;simp only[List.mem_singleton,PV.ow.injEq] at hh;rw[hh.1] at hne;exact hne rfl) w1 w2 w3 w4 w5 (λ_=>blk (rows':=rows.set r (mV row c [.ow hd g []])) aS h5 h6 h7);refine⟨_,_,Go.undef,w',Y,σ,hK,.inr ⟨?_,rfl⟩,?_,by simp[Rep],Off.refl _ _⟩
  rw[<- hsz] at I;simp[execOp,ho,e',Instr.storeAt,Instr.sureAddr,I]
  simp only[jL];refine SW.mono (n:=n) ?_ dY;refine H2.ext λc' y' hh=>?_;simp only[iR] at hh |-
  by_cases e1:b=c'
  rw[if_pos e1] at hh |-;exact hh
  rw[if_neg e1] at hh |-
  by_cases e2:id0=c'
  rw[if_pos e2] at hh;cases hh
  rw[if_neg e2] at hh;exact hh
  have hB2:iw w Y σ l2 (.arr false g rows'):=iw.yA H hlk hb2 hl2;unfold iw at hB2;obtain⟨⟨arr2,ty2,ha2,has2⟩,hsz2,hpos2,⟨hle2,hnr2⟩,hrows2,hm2,_⟩:=hB2;have hm2:=hm2 rfl
  let hd:Hdr:=⟨l2.cb,l2.co+r0*l2.sz,cap⟩;have hlen:((rows'.drop r0).take m).length=m:=by rw[List.length_take,List.length_drop];omega
  have h:oP size row c (.agg [.ow hd g ((rows'.drop r0).take m)]) (λrow'=>K PV.undef [(id0,none),(b,some (mP.l7 sz ((jb.jJ P T).MN rows r row')))]):=h hd
  have hrep:gV w Y iW [.ow hd g ((rows'.drop r0).take m)] [a.eval y]:=by
   unfold gV;refine⟨_,_,rfl,?_,by unfold gV;rfl⟩;unfold Rep;exact .inl ⟨hcap0,by rw[hlen];exact ey2,by rw[hlen];exact hcap.1,hcap.2⟩
  have hcells:(a.eval y).cells=#[a.eval y]:=Bz (by rw[ey2];rfl);obtain⟨w',hK,h1,h2,I,⟨w1,w2,w3,w4,w5⟩,⟨arr',h5,h6⟩,h7⟩:=KR (P:=P) hinfo hsize ha has hle hrows hm U (us:=[a.eval y]) (by rw[hcells]) hrep h
  have look:∀ c' y',jr (jL [(id0,none),(b,some (.l7 sz (rows.set r (mV row c [.ow hd g ((rows'.drop r0).take m)]))))] st) c'=some y'->(c'=b/\y'=.l7 sz (rows.set r (mV row c [.ow hd g ((rows'.drop r0).take m)])))\/(c'≠b/\c'≠id0/\jr st c'=some y'):=by
   intro c' y' hh;simp only[jL,iR] at hh
   by_cases e1:b=c'
   rw[if_pos e1] at hh;cases hh;exact .inl ⟨e1.symm,rfl⟩
   rw[if_neg e1] at hh
   by_cases e2:id0=c'
   rw[if_pos e2] at hh;cases hh
   rw[if_neg e2] at hh;exact .inr ⟨λe=>e1 e.symm,λe=>e2 e.symm,hh⟩
  have hν:hd.ν=l2.cb:=rfl;have hl12:l2.cb≠l.cb:=others id0 _ l2 hne hst2 hl2
  have ow:∀ {b' r' c' h' J es'},nz (jL [(id0,none),(b,some (.l7 sz (rows.set r (mV row c [.ow hd g ((rows'.drop r0).take m)]))))] st) b' r' c' h' J es' ->
    (b'=b/\r'=r/\c'=c/\h'=hd/\J=g/\es'=(rows'.drop r0).take m)\/(nz st b' r' c' h' J es'/\¬ (b'=b/\r'=r/\c'=c)):=by
   rintro b' r' c' h' J es' ⟨sz0,rs,rw0,g1,g2,g3,g4⟩
   rcases look _ _ g1 with ⟨e0,g5⟩|⟨e1,e2,g1⟩
   subst e0;cases g5;rw[List.getElem?_set] at g2
   by_cases hr:r=r'
   subst hr
   have hrlt:r<rows.length:=by
    by_cases hh:r<rows.length
    exact hh
    simp[List.getElem?_eq_none (Nat.le_of_not_lt hh)] at U
   rw[if_pos rfl,if_pos hrlt] at g2;cases g2;rcases Va h2 g3 with ⟨k1,k2,k3⟩|⟨k1,k2⟩
   simp only[List.mem_singleton,PV.ow.injEq] at k3;simp only[List.length_singleton] at k2;exact .inl ⟨rfl,rfl,by omega,k3.1,k3.2.1,k3.2.2⟩
   simp only[List.length_singleton] at k1;exact .inr ⟨⟨sz,rows,row,hst,U,k2,g4⟩,λhh=>by omega⟩
   rw[if_neg hr] at g2;exact .inr ⟨⟨sz,rows,rw0,hst,g2,g3,g4⟩,λhh=>hr hh.2.1.symm⟩
   exact .inr ⟨⟨sz0,rs,rw0,g1,g2,g3,g4⟩,λhh=>e1 hh.1⟩
  have H2:SW C w' Y σ ps a.tmps.toList (jL [(id0,none),(b,some (.l7 sz (rows.set r (mV row c [.ow hd g ((rows'.drop r0).take m)]))))] st) n:=by
   refine SW.Wl H hst hs hm others (H.own b _ l hst hs) (λc' y' hh=>(look c' y' hh).imp _root_.id λhh=>⟨hh.1,hh.2.2⟩) w1 w2 w3 w4 w5 (λ_=>blk aS h5 h6 h7) λhk=>?_;have K0:Keep w w' Y Y iW iW:=⟨λk _ hy=>w5 k (λe=>hy (e ▸ hm)),λ_ _ h=>h,Nat.le_of_eq w4.symm,ou.refl _⟩;have notl:∀ {b' r' c' h' J es'},nz st b' r' c' h' J es'->h'.ν≠l.cb/\h'.ν≠l2.cb:=λhh=>⟨(H.nest.sep _ _ _ _ _ _ _ _ _ hh hst hs).symm,(H.nest.sep _ _ _ _ _ _ _ _ _ hh hst2 hl2).symm⟩
   refine⟨λb' r' c' h' J es' hh=>?_,λb' r' c' h' J es' hh=>?_,λb' r' c' h' J es' b'' r'' c'' h'' sz3 es'' hh hh' e=>?_,λb' r' c' h' J es' b'' x l' hh hx hl'=>?_⟩
   rcases ow hh with ⟨_,_,_,rfl,rfl,rfl⟩|⟨hh,_⟩
   refine⟨hm2,hpos2,⟨arr2,ty2,by rw[hν,w5 _ hl12];exact ha2,by rw[has2];show l2.tot=l2.co+r0*l2.sz+cap*J;rw[<- htot,hsz2]⟩,by rw[hlen];exact hcap.1,?_⟩;show jG w' Y iW l2.cb J _ (l2.co+r0*l2.sz);rw[hsz2];exact jG.keep _ K0 (λ_=>w5 _ hl12) _ ((hrows2.drop r0 _ _).take m _ _)
   exact (H.nest.rep _ _ _ _ _ _ hh).keep K0 (w5 _ (notl hh).1) (λh=>h)
   rcases ow hh with ⟨_,_,_,rfl,rfl,rfl⟩|⟨hh,_⟩
   exact H.own id0 _ l2 hst2 hl2
   exact H.nest.old _ _ _ _ _ _ hh
   rcases ow hh with ⟨e1,e2,e3,e4,_⟩|⟨hh1,_⟩<;>rcases ow hh' with ⟨f1,f2,f3,f4,_⟩|⟨hh2,_⟩
   exact⟨by rw[e1,f1],by rw[e2,f2],by rw[e3,f3]⟩
   exact absurd (by rw[<- e,e4]) (notl hh2).2
   exact absurd (by rw[e,f4]) (notl hh1).2
   exact H.nest.one _ _ _ _ _ _ _ _ _ _ _ _ hh1 hh2 e
   have hx2:(b''=b\/b''≠b)/\b''≠id0/\∃ z,jr st b''=some z:=by
    rcases look _ _ hx with ⟨rfl,_⟩|⟨e1,e2,hx⟩
    exact⟨.inl rfl,λe=>hne e.symm,_,hst⟩
    exact⟨.inr e1,e2,_,hx⟩
   obtain⟨_,hxi,z,hz⟩:=hx2;rcases ow hh with ⟨_,_,_,rfl,_⟩|⟨hh,_⟩
   exact λe=>hxi (H.store.inj b'' id0 z _ l' l2 hz hst2 hl' hl2 e)
   exact H.nest.sep _ _ _ _ _ _ _ _ _ hh hz hl'
  refine⟨_,_,Go.undef,w',Y,σ,hK,.inr ⟨?_,rfl⟩,H2.mono dY,by simp[Rep],Off.refl _ _⟩;rw[<- hsz] at I;simp[execOp,ho,e',Instr.storeAt,Instr.sureAddr,I]
 exact h.elim
 split at h
 rename_i cs hp;have hall:iT (mW (qY T ps y))=true:=(KT _ _ _ hp).2;obtain⟨us,hcs,hr,hone⟩:=H9 hy hall;have hLk:Lk lk st:=λb ro sz rows h=>⟨ro,hlk _ _ h⟩
 obtain⟨row,U,h⟩:=h;have hr':=NW hp hr;obtain⟨w',hK,h1,h2,I,⟨w1,w2,w3,w4,w5⟩,⟨arr',h5,h6⟩,h7⟩:=KR (P:=P) hinfo hsize ha has hle hrows hm U hcs hr' h;have H2:=Yg H hst hs hm others U h2 (by intro h' J es' hh hne;exact absurd hh (Tm _ _ _ hp _ _ _)) w1 w2 w3 w4 w5 (λ_=>blk (rows':=rows.set r (mV row c cs)) aS h5 h6 h7);refine⟨_,_,Go.undef,w',Y,σ,hK,.inr ⟨?_,rfl⟩,H2.mono dY,by simp[Rep],Off.refl _ _⟩;rw[<- hsz] at I;simp[execOp,ho,e',Instr.storeAt,Instr.sureAddr,I]
 exact h.elim
 rename_i sz rows r0 row hb;obtain⟨hr0,h⟩:=h;cases hr0;obtain⟨row',w',hK,I,H'⟩:=Wi H hinfo hsize (hlk _ _ hb) hs hy h;refine⟨_,_,Go.undef,w',Y,σ,hK,.inr ⟨?_,rfl⟩,?_,by simp[Rep],Off.refl _ _⟩
 simp[execOp,ho,e',Instr.storeAt,Instr.sureAddr,I]
 simp only[jL,uz];exact H'.mono ah
 exact h.elim
 rename_i b r c hd sz j k e;rw[e] at hx;unfold Rep at hx
 split at h
 rename_i sz0 rows hb;have hst:=hlk _ _ hb
 split at h
 rename_i cs hp;have hall:iT (mW (qY T ps y))=true:=(KT _ _ _ hp).2;obtain⟨us,hcs,hr,hone⟩:=H9 hy hall;have h9:=zS h;clear h;obtain⟨cs2,hl2,hc2,hw2,⟨row,U,h⟩,h8⟩:=h9;clear hl2 hc2 h8;have hr':=hw2 _ _ _ _ (NW hp hr)
 split at h
 rename_i h' g es ec
 cases hs:Nat.beq g sz with
 | false=>rw[hs] at h;exact h.elim
 | true =>
  rw[hs] at h;simp only[cond_true] at h;have hs:=Nat.eq_of_beq_eq_true hs;subst hs;obtain⟨he,er,her,h⟩:=h;subst he;have hc:row[c]?=some (.ow hd g es):=by rw[BO,List.getD_eq_getElem?_getD] at ec;exact getD_some ec
  have hne:es≠[]:=by rintro rfl;simp at her
  have hcap:=H.acY hst U hc hne;have hO:nz st b r c hd g es:=⟨sz0,rows,row,hst,U,hc,hcap⟩;have hN:=H.nest.rep _ _ _ _ _ _ hO;obtain⟨arr,ty,ha,has⟩:=hN.blk;have hle:hd.o+es.length*g<=hd.o+hd.cap*g:=by have:=Nat.mul_le_mul_right g hN.len;omega
  obtain⟨w',hK,h1,h2,I,⟨w1,w2,w3,w4,w5⟩,⟨arr',h5,h6⟩,h7⟩:=KR (P:=P) hinfo hsize ha has hle hN.rows hN.own her hcs hr' h
  obtain⟨l,hl,hB⟩:∃ l,σ b=some l/\iw w Y σ l (.l7 sz0 rows):=by
   rcases H.store.blk b _ hst with h|⟨_,hx⟩
   exact h
   cases hx;simp at U
  have hlν:l.cb≠hd.ν:=H.nest.sep _ _ _ _ _ _ _ _ _ hO hst hl
  have hclt:c<row.length:=by
   by_cases hh:c<row.length
   exact hh
   simp[List.getElem?_eq_none (Nat.le_of_not_lt hh)] at hc
  have hrlt:r<rows.length:=by
   by_cases hh:r<rows.length
   exact hh
   simp[List.getElem?_eq_none (Nat.le_of_not_lt hh)] at U
  have hne' : es.set j (mV er k cs2)≠[]:=by
   intro h0;have:=congrArg List.length h0;simp at this;exact hne this
  have ow:∀ {b' r' c' h2 J es'},nz (oH st b (some (.l7 sz0 (rows.set r (oq row c (.ow hd g (es.set j (mV er k cs2)))))))) b' r' c' h2 J es' ->
    (b'=b/\r'=r/\c'=c/\h2=hd/\J=g/\es'=es.set j (mV er k cs2))\/(nz st b' r' c' h2 J es'/\¬ (b'=b/\r'=r/\c'=c)):=by
   rintro b' r' c' h2 J es' ⟨szx,rs,rw0,g1,g2,g3,g4⟩
   rw[iR] at g1
   by_cases e1:b=b'
   subst e1;rw[if_pos rfl] at g1;cases g1;rw[List.getElem?_set] at g2
   by_cases hrr:r=r'
   subst hrr;rw[if_pos rfl,if_pos hrlt] at g2;cases g2;rw[rq,List.getElem?_set] at g3
   by_cases hcc:c=c'
   subst hcc;rw[if_pos rfl,if_pos hclt] at g3;cases g3;exact .inl ⟨rfl,rfl,rfl,rfl,rfl,rfl⟩
   rw[if_neg hcc] at g3;exact .inr ⟨⟨sz0,rows,row,hst,U,g3,g4⟩,λhh=>hcc hh.2.2.symm⟩
   rw[if_neg hrr] at g2;exact .inr ⟨⟨sz0,rows,rw0,hst,g2,g3,g4⟩,λhh=>hrr hh.2.1.symm⟩
   rw[if_neg e1] at g1;exact .inr ⟨⟨szx,rs,rw0,g1,g2,g3,g4⟩,λhh=>e1 hh.1.symm⟩
  have H2:SW C w' Y σ ps a.tmps.toList (oH st b (some (.l7 sz0 (rows.set r (oq row c (.ow hd g (es.set j (mV er k cs2)))))))) n:=by
   refine SW.Wl (b:=b) (x':=.l7 sz0 (rows.set r (oq row c (.ow hd g (es.set j (mV er k cs2)))))) H hst hl hN.own (λb' y l' _ h1 h2=>H.nest.sep _ _ _ _ _ _ _ _ _ hO h1 h2) (H.nest.old _ _ _ _ _ _ hO) (λc' y' hh=>?_) w1 w2 w3 w4 w5 (λhk=>?_) λhk=>?_
   rw[iR] at hh
   by_cases e1:b=c'
   rw[if_pos e1] at hh;cases hh;exact .inl ⟨e1.symm,rfl⟩
   rw[if_neg e1] at hh;exact .inr ⟨λe=>e1 e.symm,hh⟩
   unfold iw at hB |-;obtain⟨⟨arr0,ty0,b1,b2⟩,b3,b4,⟨b5,b6⟩,b7,b8⟩:=hB;refine⟨⟨arr0,ty0,by rw[w5 _ hlν];exact b1,b2⟩,b3,b4,⟨by simpa using b5,by simpa using b6⟩,?_,b8⟩;have K0:Keep w w' Y Y iW iW:=⟨λk _ hy=>w5 k (λe=>hy (e ▸ hN.own)),λ_ _ h=>h,Nat.le_of_eq w4.symm,ou.refl _⟩;have b7:=jG.keep rows K0 (λ_=>w5 _ hlν) _ b7;rw[jG.iff] at b7 |-;intro i q hi;rw[List.getElem?_set] at hi
   by_cases hri:r=i
   subst hri;rw[if_pos rfl,if_pos hrlt] at hi;cases hi;obtain⟨⟨q1,q2⟩,q3⟩:=b7 r row U;refine⟨⟨by rw[rq];simpa using q1,?_⟩,?_⟩
   rw[rq,qx];rw[qx] at q2;intro p hp;rcases List.mem_or_eq_of_mem_set hp with hh|hh
   exact q2 p hh
   rw[hh];rfl
   rw[jA.iff] at q3 |-;intro i p hi;rw[rq,List.getElem?_set] at hi
   by_cases hci:c=i
   subst hci;rw[if_pos rfl,if_pos hclt] at hi;cases hi;obtain⟨v,hv,hp⟩:=q3 c _ hc;refine⟨v,hv,?_⟩;unfold Rep at hp |-;rcases hp with ⟨p1,p2,p3,p4⟩|⟨p1,_⟩
   exact .inl ⟨p1,by simpa using p2,by simpa using p3,p4⟩
   exact absurd p1 hcap
   rw[if_neg hci] at hi;exact q3 i p hi
   rw[if_neg hri] at hi;exact b7 i q hi
   have K0:Keep w w' Y Y iW iW:=⟨λk _ hy=>w5 k (λe=>hy (e ▸ hN.own)),λ_ _ h=>h,Nat.le_of_eq w4.symm,ou.refl _⟩;have other:∀ {b' r' c' h2 J es'},nz st b' r' c' h2 J es'->¬ (b'=b/\r'=r/\c'=c)->h2.ν≠hd.ν:=λhh hn e=>hn (H.nest.one _ _ _ _ _ _ _ _ _ _ _ _ hh hO e);refine⟨λb' r' c' h2 J es' hh=>?_,λb' r' c' h2 J es' hh=>?_,λb' r' c' h2 J es' b'' r'' c'' h3 sz3 es'' hh hh' e=>?_,λb' r' c' h2 J es' b'' x l' hh hx hl'=>?_⟩
   rcases ow hh with ⟨_,_,_,rfl,rfl,rfl⟩|⟨hh,hn⟩
   exact⟨hN.own,hN.pos,⟨arr',ty,h5,h6⟩,by simpa using hN.len,h7⟩
   exact (H.nest.rep _ _ _ _ _ _ hh).keep K0 (w5 _ (other hh hn)) (λh=>h)
   rcases ow hh with ⟨_,_,_,rfl,rfl,rfl⟩|⟨hh,_⟩
   exact H.nest.old _ _ _ _ _ _ hO
   exact H.nest.old _ _ _ _ _ _ hh
   rcases ow hh with ⟨e1,e2,e3,e4,_⟩|⟨hh1,n1⟩<;>rcases ow hh' with ⟨f1,f2,f3,f4,_⟩|⟨hh2,n2⟩
   exact⟨by rw[e1,f1],by rw[e2,f2],by rw[e3,f3]⟩
   exact absurd (by rw[<- e,e4]) (other hh2 n2)
   exact absurd (by rw[e,f4]) (other hh1 n1)
   exact H.nest.one _ _ _ _ _ _ _ _ _ _ _ _ hh1 hh2 e
   have hz:∃ z,jr st b''=some z:=by
    rw[iR] at hx
    by_cases e1:b=b''
    subst e1;exact⟨_,hst⟩
    rw[if_neg e1] at hx;exact⟨_,hx⟩
   obtain⟨z,hz⟩:=hz;rcases ow hh with ⟨_,_,_,rfl,_⟩|⟨hh,_⟩
   exact H.nest.sep _ _ _ _ _ _ _ _ _ hO hz hl'
   exact H.nest.sep _ _ _ _ _ _ _ _ _ hh hz hl'
  refine⟨_,_,Go.undef,w',Y,σ,hK,.inr ⟨?_,rfl⟩,H2.mono dY,by simp[Rep],Off.refl _ _⟩;simp[execOp,ho,hx,Instr.storeAt,Instr.sureAddr,I]
 exact h.elim
 exact h.elim
 exact h.elim
 exact h.elim
 exact h.elim
end
end Go.Pv
namespace Go.Pv
open Go
theorem EP {P:Program}{t:TypeId}{z:List PV}(h:FZ P t=some z):∃ U,(∀ w,(zeroValue t).run P w=.ok U w)/\∀ w Y σ,gV w Y σ z U.cells.toList:=by
 unfold FZ at h
 split at h
 rename_i i hi
 split at h
 rename_i U J;cases h;refine⟨U,λw=>by simp[zeroValue,typeInfo,program,Sem.run,Result.andThen,hi,J],λw Y σ=>?_⟩;unfold U3
 split
 rename_i cs;exact F7 w Y σ _
 rename_i T;have h1:mW (IG U)=[IG U]:=by unfold IG;split<;>rfl
 have h2:U.cells=#[U]:=by
  cases U<;>first|rfl|(exact absurd rfl (T _))
 rw[h1,h2];unfold gV;exact⟨U,[],rfl,MW w Y σ U,by simp[gV]⟩
 cases h
 cases h
theorem Tn {w:World}{Y:Nat->Prop}{σ:Sg}{p:PV}{v:Value}(h:Rep w Y σ p v)(hp:p≠.top):gV w Y σ (mW p) v.cells.toList:=by
 cases p
 case top=>exact absurd rfl hp
 case hc =>
  have hc:v.cells=#[v]:=by unfold Rep at h;cases v<;>simp[MS] at h<;>rfl
  rw[hc];simp only[mW];unfold gV;exact⟨v,[],rfl,h,by simp[gV]⟩
 case agg cs=>unfold Rep at h;obtain⟨vs,rfl,hr⟩:=h;exact hr
 case os =>
  have hc:v.cells=#[v]:=by
   unfold Rep at h;rcases h with ⟨_,_,_,rfl,_⟩|⟨_,_,rfl⟩<;>rfl
  rw[hc];simp only[mW];unfold gV;exact⟨v,[],rfl,h,by simp[gV]⟩
 case ow =>
  have hc:v.cells=#[v]:=by
   unfold Rep at h;rcases h with ⟨_,rfl,_⟩|⟨_,_,_,rfl⟩<;>rfl
  rw[hc];simp only[mW];unfold gV;exact⟨v,[],rfl,h,by simp[gV]⟩
 case bo =>
  have hc:v.cells=#[v]:=by
   unfold Rep at h;rcases h with ⟨_,rfl,_⟩|⟨_,_,_,rfl⟩<;>rfl
  rw[hc];simp only[mW];unfold gV;exact⟨v,[],rfl,h,by simp[gV]⟩
 all_goals
  have hc:v.cells=#[v]:=by
   unfold Rep at h
   first
    | (subst h;rfl)
    | (obtain⟨_,rfl,_⟩:=h;rfl)
    | (obtain⟨_,_,rfl⟩:=h;rfl)
    | (obtain⟨_,_,rfl,_⟩:=h;rfl)
    | (obtain⟨_,_,_,rfl,_⟩:=h;rfl)
  rw[hc];simp only[mW];unfold gV;exact⟨v,[],rfl,h,by simp[gV]⟩
section
variable {P:Program}{T:Tab}(hT:jv P T){C:Ctx T}{o:Oper}{a:Act}{w:World}{Y:Nat->Prop}{σ:Sg}{ps:List PV}{st:St}{n id:Nat}{K:PV->Dl->Prop}{lk:Nat->Option mP}
 (H:SW C w Y σ ps a.tmps.toList st n) (hlk:∀ b x,lk b=some x->jr st b=some x) (hid:σ id=none/\T.pG<=id)
theorem SW.newVar (H:SW C w Y σ ps a.tmps.toList st n)(hid:σ id=none/\T.pG<=id){vs:List Value}{row:List PV}(ty:TypeId)(hr:gV w Y σ row vs) :
  ∃ Y' σ',SW C (w.alloc (.cells vs.toArray ty)) Y' σ' ps a.tmps.toList (oH st id (some (.var false row))) (max n (id+1))/\Rep (w.alloc (.cells vs.toArray ty)) Y' σ' (.lv id 0) (.pointer (some ⟨w.heap.size,0,none⟩))/\Off id σ σ':=by
 obtain⟨Y',σ',H',hs,_,_,U⟩:=H.alloc hid vs.toArray ty ⟨w.heap.size,0,row.length,vs.length,1⟩ rfl (.var false row) (λ_ _ e=>by cases e) (by
  intro w' Y' σ' hk J hb _;unfold iw;refine⟨⟨_,ty,hb,by simp⟩,rfl,by simp[hr.length],?_,λ_=>J,λh=>by cases h⟩;rw[jA.iff];intro i p hi;obtain⟨v,hv,hp⟩:=hr.get? hi;exact⟨v,by rw[cell_of_block hb];simpa using hv,hk _ _ hp⟩)
 refine⟨Y',σ',H',?_,U⟩;unfold Rep;exact⟨_,hs,rfl⟩
include hT H hid in
theorem ac1 {t:TypeId}(ho:o.op=.alloc t)(h:oO T (jb.jJ P T) (.alloc t) ps lk id K):qw P C o a w σ ps st n id K:=by
 simp only[oO] at h
 split at h
 rename_i agg size z plain kind e;obtain⟨i,d,h1,h2,h3,h4,h5,I,h7,g⟩:=vS hT e rfl;obtain⟨zv,J,hr⟩:=EP I.symm;obtain⟨Y',σ',H',hrep,U⟩:=H.newVar hid t (hr w Y σ);refine⟨_,_,_,_,Y',σ',h,.inl ?_,H',hrep,U⟩;simp[execOp,ho,Instr.alloc,J,newVar,newRow,newObj,Sem.run,Result.andThen]
 exact h.elim
include H hid in
theorem af7 {t:TypeId}{x:Operand}(ho:o.op=.box t x)(h:oO T (jb.jJ P T) (.box t x) ps lk id K):qw P C o a w σ ps st n id K:=by
 have hx:=kX H x;simp only[oO] at h
 split at h
 exact h.elim
 rename_i J;obtain⟨Y',σ',H',hrep,U⟩:=H.newVar hid t (Tn hx J);refine⟨_,_,_,_,Y',σ',h,.inl ?_,H',hrep,U⟩;simp[execOp,ho,Instr.box,newVar,newRow,newObj,Sem.run,Result.andThen]
include H in
theorem Yh {f:FuncId}{first cap:Array Operand}(ho:o.op=.makeFunc (.func f) first cap)(h:oO T (jb.jJ P T) (.makeFunc (.func f) first cap) ps lk id K):qw P C o a w σ ps st n id K:=by
 simp only[oO] at h
 split at h
 rename_i O;have U : first=#[]:=by simpa using O
 subst U;refine qw.quiet H (cv:=.func (.func f) #[] (cap.map a.eval)) ?_ ?_ h
 simp[execOp,ho,Instr.makeFunc]
 unfold Rep;refine⟨cap.toList.map a.eval,?_,vF H _⟩
 congr 1
 apply Array.ext';simp
 exact h.elim
theorem sZ {P:Program}{w:World}{k:IntKind}{m:Int}:(asIntOf (.int k m)).run P w=.ok (k,m) w:=by simp[asIntOf]
include hT H hlk in
theorem Wn {t:TypeId}{x i:Operand}(ho:o.op=.indexAddr t x i)(h:oO T (jb.jJ P T) (.indexAddr t x i) ps lk id K):qw P C o a w σ ps st n id K:=by
 have hx:=kX H x;have hi:=kX H i;simp only[oO] at h
 split at h
 rename_i agg size z plain esz bytes z' e;obtain⟨et,hu,rfl,_,_⟩:=nM hT e
 have run:∀ (k:IntKind) (j len cap:Nat) (b off:Nat),a.eval i=.int k (j:Int)->a.eval x=.slice (some ⟨b,off,none⟩) len cap->j<len->P.info? et≠none ->
   (execOp a.eval o).run P w=.ok (.value (.pointer (some ⟨b,off+j*P.cellsOf et,none⟩))) w:=by
  intro k j len cap b off e1 e2 hj hinf;have:(0:Int)<=(j:Int)/\(j:Int)<(len:Int):=by omega
  simp[execOp,ho,Instr.indexAt,e1,e2,sZ,kV hu,run_sizeOf hinf,this,addr_add]
 split at h
 rename_i sz es full k m J g;rw[J] at hx;have I:=qj hi g
 cases hb:(lQ (P.cellsOf et)&&Nat.beq sz (P.cellsOf et)) with
 | false=>rw[hb] at h;exact h.elim
 | true =>
  rw[hb] at h;rw[Bool.and_eq_true] at hb;have hinf:=kW hb.1;have hb:=Nat.eq_of_beq_eq_true hb.2;obtain⟨j,row,rfl,hrow,h⟩:=h;unfold Rep at hx;obtain⟨a',len,cap,ex,hl,hc,_,hr⟩:=hx
  have U:j<es.length:=by
   by_cases hh:j<es.length
   exact hh
   simp[List.getElem?_eq_none (Nat.le_of_not_lt hh)] at hrow
  rcases hr with hr|⟨b,off,rfl,hy,hr⟩
  rw[hr] at U;simp at U
  refine qw.quiet H (run k j len cap b off I ex ah hinf) ?_ h;unfold Rep;refine⟨b,_,rfl,hy,?_⟩;rw[<- hb];exact (jG.row _ _ _ _ hr hrow).2
 rename_i b r len k m J g;rw[J] at hx;have I:=qj hi g
 split at h
 rename_i ro sz rows hbk
 cases hb:(lQ (P.cellsOf et)&&Nat.beq sz (P.cellsOf et)) with
 | false=>rw[hb] at h;exact h.elim
 | true =>
  rw[hb] at h;rw[Bool.and_eq_true] at hb;have hinf:=kW hb.1;have hb:=Nat.eq_of_beq_eq_true hb.2;obtain⟨j,rfl,U,h⟩:=h;unfold Rep at hx;rcases hx with ⟨l,cap,hs,ex,hn,ht,hnr⟩|⟨rfl,_⟩
  have hB:=iw.yA H hlk hbk hs;unfold iw at hB;refine qw.quiet H (run k j len cap _ _ I ex U hinf) ?_ h;unfold Rep;refine⟨l,hs,?_⟩;have:l.sz=P.cellsOf et:=by rw[hB.2.1,hb]
  show Value.pointer (some ⟨l.cb,l.co+r*l.sz+j*P.cellsOf et,none⟩)=Value.pointer (some ⟨l.cb,l.co+(r+j)*l.sz+0,none⟩);rw[<- this,Nat.add_mul];simp[Nat.add_assoc]
  omega
 rename_i sz rows hbk
 cases hb:(lQ (P.cellsOf et)&&Nat.beq sz (P.cellsOf et)) with
 | false=>rw[hb] at h;exact h.elim
 | true =>
  rw[hb] at h;rw[Bool.and_eq_true] at hb;have hinf:=kW hb.1;have hb:=Nat.eq_of_beq_eq_true hb.2;obtain⟨j,rfl,U,h⟩:=h;unfold Rep at hx;rcases hx with ⟨l,cap,hs,ex,hn,ht,hnr⟩|⟨rfl,_⟩
  have hB:=iw.yA H hlk hbk hs;unfold iw at hB;refine qw.quiet H (run k j len cap _ _ I ex U hinf) ?_ h;unfold Rep;refine⟨l,hs,?_⟩;have:l.sz=P.cellsOf et:=by rw[hB.2.1,hb]
  show Value.pointer (some ⟨l.cb,l.co+r*l.sz+j*P.cellsOf et,none⟩)=Value.pointer (some ⟨l.cb,l.co+(r+j)*l.sz+0,none⟩);rw[<- this,Nat.add_mul];simp[Nat.add_assoc]
  omega
 rename_i sz _ _ _ hbk
 cases hb:(lQ (P.cellsOf et)&&Nat.beq sz (P.cellsOf et)) with
 | false=>rw[hb] at h;exact h.elim
 | true =>
  rw[hb] at h;rw[Bool.and_eq_true] at hb;have hinf:=kW hb.1;have hb:=Nat.eq_of_beq_eq_true hb.2;obtain⟨j,rfl,U,h⟩:=h;unfold Rep at hx;rcases hx with ⟨l,cap,hs,ex,hn,ht,hnr⟩|⟨rfl,_⟩
  have hB:=iw.yA H hlk hbk hs;unfold iw at hB;refine qw.quiet H (run k j len cap _ _ I ex U hinf) ?_ h;unfold Rep;refine⟨l,hs,?_⟩;have:l.sz=P.cellsOf et:=by rw[hB.2.1,hb]
  show Value.pointer (some ⟨l.cb,l.co+r*l.sz+j*P.cellsOf et,none⟩)=Value.pointer (some ⟨l.cb,l.co+(r+j)*l.sz+0,none⟩);rw[<- this,Nat.add_mul];simp[Nat.add_assoc]
  omega
 exact h.elim
 rename_i b r c hd sz len k m J g;rw[J] at hx;have I:=qj hi g
 cases hb:(lQ (P.cellsOf et)&&Nat.beq sz (P.cellsOf et)) with
 | false=>rw[hb] at h;exact h.elim
 | true =>
  rw[hb] at h;rw[Bool.and_eq_true] at hb;have hinf:=kW hb.1;have hb:=Nat.eq_of_beq_eq_true hb.2;obtain⟨j,rfl,U,h⟩:=h;unfold Rep at hx;rcases hx with ⟨_,ex,hn⟩|⟨_,rfl,_⟩
  refine qw.quiet H (run k j len hd.cap _ _ I ex U hinf) ?_ h;unfold Rep;rw[<- hb];rfl
  omega
 exact h.elim
 ·rename_i agg size z plain len esz ag e;obtain⟨et,hu,rfl,_,_⟩:=NT hT e
  cases hpos:lQ (P.cellsOf et) with
  | false=>rw[hpos] at h;exact h.elim
  | true =>
  rw[hpos] at h;simp only[cond_true] at h;have hinf:=kW hpos
  have run:∀ (k:IntKind) (j:Nat) (b off:Nat),a.eval i=.int k (j:Int)->a.eval x=.pointer (some ⟨b,off,none⟩)->j<len ->
    (execOp a.eval o).run P w=.ok (.value (.pointer (some ⟨b,off+j*P.cellsOf et,none⟩))) w:=by
   intro k j b off e1 e2 hj;have:(0:Int)<=(j:Int)/\(j:Int)<(len:Int):=by omega
   simp[execOp,ho,Instr.indexAt,e1,e2,sZ,kV hu,run_sizeOf hinf,this,addr_add,Instr.sureAddr]
  have fin:∀ (k:IntKind) (j:Nat),a.eval i=.int k (j:Int)->j<len->(match qY T ps x with
    | .lv b c=>K (.lv b (c+j*P.cellsOf et)) []
    | .lp b r c=>K (.lp b r (c+j*P.cellsOf et)) []
    | .pp cs=>bif Nat.ble (j*P.cellsOf et) (oG cs) then K (.pp (EK (j*P.cellsOf et) cs)) [] else False
    | _=>False)->qw P C o a w σ ps st n id K:=by
   intro k j I hj h
   split at h
   rename_i b c J;rw[J] at hx;unfold Rep at hx;obtain⟨l,hs,ex⟩:=hx;refine qw.quiet H (run k j _ _ I ex hj) ?_ h;unfold Rep;exact⟨l,hs,by rw[Nat.add_assoc]⟩
   rename_i b r c J;rw[J] at hx;unfold Rep at hx;obtain⟨l,hs,ex⟩:=hx;refine qw.quiet H (run k j _ _ I ex hj) ?_ h;unfold Rep;exact⟨l,hs,by rw[Nat.add_assoc]⟩
   rename_i cs J;rw[J] at hx;unfold Rep at hx;obtain⟨b,off,ex,hy,hr⟩:=hx
   cases hb:Nat.ble (j*P.cellsOf et) (oG cs) with
   | false=>rw[hb] at h;exact h.elim
   | true =>
    rw[hb] at h;refine qw.quiet H (run k j _ _ I ex hj) ?_ h;unfold Rep;rw[yx];exact⟨b,_,rfl,hy,hr.drop _ _ _⟩
   exact h.elim
  split at h
  rename_i k m g;rw[g] at hi
  cases hb:Nat.blt m len with
  | false=>simp only[hb,cond_false] at h
  | true =>
   simp only[hb,cond_true] at h;exact fin k m (vG hi) (by simpa [Nat.blt_eq] using hb) h
  rename_i k m g;rw[g] at hi;obtain⟨j,rfl,hj,h⟩:=h;exact fin k j (Ti hi) hj h
  exact h.elim
 exact h.elim
end
end Go.Pv
namespace Go.Pv
open Go
theorem Yi {P:Program}{w:World}{Y:Nat->Prop}{σ:Sg}{t:TypeId}{c size:Nat}{cs:List PV}{vs:List Value}{agg:Bool}{K:PV->Prop}
  (T:P.info? t≠none) (hsize:size=P.cellsOf t) (U:agg=lG P t) (I:∃ d,P.underlying t=some d)
  (hr:gV w Y σ cs vs) (h:loadRow agg size cs c K) :
  ∃ v cv,K v/\(part t vs.toArray c).run P w=.ok cv w/\Rep w Y σ v cv:=by
 obtain⟨d,hu⟩:=I;unfold loadRow at h;have hlen:=hr.length
 cases agg with
 | true =>
  simp only[cond_true] at h
  cases hb:Nat.ble (c+size) (oG cs) with
  | false=>simp only[hb,cond_false] at h
  | true =>
   simp only[hb,cond_true,JH,yx] at h;have hle:c+size<=cs.length:=by simpa using Nat.le_of_ble_eq_true hb
   refine⟨_,.agg ((vs.drop c).take size).toArray,h,?_,?_⟩
   simp only[part,Sem.run_bind,HY hu,<- U,Result.andThen,if_true,run_sizeOf T,<- hsize];simp only[Sem.run_pure]
   congr 2
   apply Array.ext';simp[List.extract_eq_take_drop]
   unfold Rep;refine⟨_,rfl,?_⟩;clear h hb hle hlen
   have drop:∀ (n:Nat) (cs:List PV) (vs:List Value),gV w Y σ cs vs->gV w Y σ (cs.drop n) (vs.drop n):=by
    intro n;induction n with
    | zero=>intro cs vs h;simpa using h
    | succ n ih =>
     intro cs vs h
     cases cs with
     | nil=>unfold gV at h;subst h;simp[gV]
     | cons c cs=>unfold gV at h;obtain⟨v,J,rfl,_,h2⟩:=h;simpa using ih cs J h2
   have take:∀ (n:Nat) (cs:List PV) (vs:List Value),gV w Y σ cs vs->gV w Y σ (cs.take n) (vs.take n):=by
    intro n;induction n with
    | zero=>intro cs vs h;simp[gV]
    | succ n ih =>
     intro cs vs h
     cases cs with
     | nil=>unfold gV at h;subst h;simp[gV]
     | cons c cs =>
      unfold gV at h;obtain⟨v,J,rfl,h1,h2⟩:=h;simp only[List.take_succ_cons];unfold gV;exact⟨v,_,rfl,h1,ih cs J h2⟩
   exact take size _ _ (drop c _ _ hr)
 | false =>
  simp only[cond_false] at h
  cases hb:Nat.blt c (oG cs) with
  | false=>simp only[hb,cond_false] at h
  | true =>
   simp only[hb,cond_true] at h;have C:c<vs.length:=by rw[hlen];simpa [Nat.blt_eq] using hb
   have g:=hr.get _ _ c;rw[List.getD_eq_getElem?_getD,List.getElem?_eq_getElem C] at g;refine⟨_,vs[c],h,?_,g⟩;simp only[part,Sem.run_bind,HY hu,<- U,Result.andThen];simp[C]
def L6 (P:Program):Prop:=∀ t,P.info? t≠none->∃ d,P.underlying t=some d
section
variable {P:Program}{T:Tab}(hT:jv P T){C:Ctx T}{o:Oper}{a:Act}{w:World}{Y:Nat->Prop}{σ:Sg}{ps:List PV}{st:St}{n id:Nat}{K:PV->Dl->Prop}{lk:Nat->Option mP}
 (H:SW C w Y σ ps a.tmps.toList st n) (hlk:∀ b x,lk b=some x->jr st b=some x) (hid:σ id=none/\T.pG<=id) (hU:L6 P)
include hT H hU in
theorem ac2 {t:TypeId}{x:Operand}{f:Nat}(ho:o.op=.field t x f)(h:oO T (jb.jJ P T) (.field t x f) ps lk id K):qw P C o a w σ ps st n id K:=by
 have hc:=kX H x;simp only[oO] at h
 split at h
 rename_i fs e;obtain⟨fl,hu,rfl,_⟩:=MX hT e
 split at h
 rename_i fd O;rw[IK,List.getElem?_map] at O
 cases I:fl.toList[f]? with
 | none=>simp[I] at O
 | some g =>
  simp[I] at O;subst O;have hg' : fl[f]?=some g:=by simpa using I
  split at h
  rename_i cs e;rw[e] at hc
  cases hp:lQ (P.cellsOf g.type) with
  | false=>simp only[hp] at h;exact h.elim
  | true =>
   simp only[hp,cond_true] at h;have U:=kW hp;unfold Rep at hc;obtain⟨vs,e',hr⟩:=hc;obtain⟨v,cv,hK,J,hrep⟩:=Yi U rfl rfl (hU _ U) hr h;refine qw.quiet H (cv:=cv) ?_ hrep hK;simp[execOp,ho,Instr.field,kV hu,hg',e',asAgg,J]
  exact h.elim
 exact h.elim
 exact h.elim
include hT H hU in
theorem ac3 {t:TypeId}{x i:Operand}(ho:o.op=.index t x i)(h:oO T (jb.jJ P T) (.index t x i) ps lk id K):qw P C o a w σ ps st n id K:=by
 have hx:=kX H x;have hi:=kX H i;simp only[oO] at h
 split at h
 rename_i agg size z plain s k m e I J;rw[I] at hx;have hu:=NU hT e;have g:=qj hi J;have hxv:=F8 hx;obtain⟨j,c,rfl,hj,h⟩:=h;refine qw.quiet H (cv:=.int .u8 c.toNat) ?_ bU h;simp[execOp,ho,Instr.index,g,hxv,sZ,kV hu,hj]
 rename_i agg size z plain len esz ag cs k m e I J;rw[I] at hx;obtain⟨et,hu,rfl,rfl,_⟩:=NT hT e;have g:=qj hi J
 cases hp:lQ (P.cellsOf et) with
 | false=>simp only[hp] at h;exact h.elim
 | true =>
  simp only[hp,cond_true] at h;have U:=kW hp;obtain⟨j,rfl,hj,h⟩:=h;unfold Rep at hx;obtain⟨vs,ex,hr⟩:=hx;obtain⟨v,cv,hK,hrun,hrep⟩:=Yi U rfl rfl (hU _ U) hr h;refine qw.quiet H (cv:=cv) ?_ hrep hK;have:(0:Int)<=(j:Int)/\(j:Int)<(len:Int):=by omega
  simp[execOp,ho,Instr.index,g,ex,sZ,kV hu,this,run_sizeOf U,hrun]
 exact h.elim
end
theorem bytes_beq (a b:ByteArray):(a.toList==b.toList)=decide (a=b):=by
 rw[Bool.eq_iff_iff];simp only[beq_iff_eq,decide_eq_true_eq,ByteArray.toList_eq];obtain⟨⟨x⟩⟩:=a;obtain⟨⟨y⟩⟩:=b;simp
def ceq:Nat->Value->Value->Option Bool
 | 0,.int k a,.int k' b=>if k=k' then some (a==b) else none
 | 1,.bool a,.bool b=>some (a==b)
 | 2,.string a,.string b=>some (a.toList==b.toList)
 | _,_,_=>none
def FW:List Nat->List Value->List Value->Option Bool
 | [],[],[]=>some true
 | k::ks,x::xs,y::ys=>match ceq k x y with
  | none=>none
  | some a=>match FW ks xs ys with
   | none=>none
   | some b=>some (a&&b)
 | _,_,_=>none
theorem aeS {P:Program}{T:Tab}{w:World}{Y:Nat->Prop}{σ:Sg}{k:Nat}{p q:PV}{u v:Value}{b:Bool}(h:eqC (jb.jJ P T) k p q=some b)(hp:Rep w Y σ p u)(hq:Rep w Y σ q v):ceq k u v=some b:=by
 unfold eqC at h
 split at h
 split at h
 rename_i k1 a k2 c h1 h2
 cases hk:sQ k1 k2 with
 | false=>simp[hk] at h
 | true =>
  simp only[hk,cond_true,Option.some.injEq] at h;have:=Ew hk;subst this;rw[qj hp h1,qj hq h2];subst h;have:(a==c)=decide (a=c):=by rw[Bool.eq_iff_iff];simp
  simp[ceq,jb.jJ,zL,this]
 cases h
 split at h
 rename_i a c h1 h2;rw[KQ hp h1,KQ hq h2];simp only[Option.some.injEq] at h;subst h;simp[ceq,jb.jJ]
 cases h
 rw[F8 hp,F8 hq];simp only[Option.some.injEq] at h;subst h;simp[ceq,jb.jJ,jf,bytes_beq]
 cases h
theorem Vb {P:Program}{T:Tab}{w:World}{Y:Nat->Prop}{σ:Sg}:∀ (U:List Nat) (ps qs:List PV) (us vs:List Value) (b:Bool),Zr (jb.jJ P T) U ps qs=some b->gV w Y σ ps us->gV w Y σ qs vs->FW U us vs=some b
 | [],[],[],us,vs,b,h,hp,hq=>by
  unfold gV at hp hq;subst hp;subst hq;simp[Zr] at h;subst h;rfl
 | k::U,p::ps,q::qs,us,vs,b,h,hp,hq=>by
  unfold gV at hp hq;obtain⟨u,us,rfl,C,g⟩:=hp;obtain⟨v,vs,rfl,I,J⟩:=hq;simp only[Zr] at h
  cases h1:eqC (jb.jJ P T) k p q with
  | none=>rw[h1] at h;cases h
  | some a =>
   rw[h1] at h
   cases h2:Zr (jb.jJ P T) U ps qs with
   | none=>rw[h2] at h;cases h
   | some c =>
    rw[h2] at h;simp only[Option.some.injEq] at h;subst h;simp only[FW,aeS h1 C I,Vb U ps qs us vs c h2 g J];rfl
 | [],[],_::_,_,_,_,h,_,_|[],_::_,_,_,_,_,h,_,_|_::_,[],_,_,_,_,h,_,_|_::_,_::_,[],_,_,_,h,_,_=>by simp[Zr] at h
theorem NY:∀ (U:List Nat) (us vs:List Value) (b:Bool),FW U us vs=some b->us.length=U.length/\vs.length=U.length
 | [],[],[],_,_=>by simp
 | k::U,u::us,v::vs,b,h=>by
  simp only[FW] at h
  cases h1:ceq k u v with
  | none=>rw[h1] at h;cases h
  | some a =>
   rw[h1] at h
   cases h2:FW U us vs with
   | none=>rw[h2] at h;cases h
   | some c=>have:=NY U us vs c h2;simp[this]
 | [],[],_::_,_,h|[],_::_,_,_,h|_::_,[],_,_,h|_::_,_::_,[],_,h=>by simp[FW] at h
theorem Tq:∀ (U ls:List Nat) (us vs:List Value) (b:Bool),FW (U++ls) us vs=some b ->
  ∃ T J,FW U (us.take U.length) (vs.take U.length)=some T/\FW ls (us.drop U.length) (vs.drop U.length)=some J/\b=(T&&J)
 | [],ls,us,vs,b,h=>⟨true,b,by simp[FW],by simpa using h,by simp⟩
 | k::U,ls,[],vs,b,h=>by simp[FW] at h
 | k::U,ls,u::us,[],b,h=>by simp[FW] at h
 | k::U,ls,u::us,v::vs,b,h=>by
  simp only[List.cons_append,FW] at h
  cases h1:ceq k u v with
  | none=>rw[h1] at h;cases h
  | some a =>
   rw[h1] at h
   cases h2:FW (U++ls) us vs with
   | none=>rw[h2] at h;cases h
   | some c =>
    rw[h2] at h;simp only[Option.some.injEq] at h;obtain⟨T,J,e1,I,C⟩:=Tq U ls us vs c h2;refine⟨a&&T,J,by simp[FW,h1,e1],by simpa using I,?_⟩;rw[<- h,C,Bool.and_assoc]
def valOf (P:Program)(t:TypeId)(us:List Value):Value:=if lG P t then .agg us.toArray else us.headD Go.undef
theorem IL {P:Program}{w:World}{t:TypeId}(U:P.info? t≠none)(T:∃ d,P.underlying t=some d){us:List Value}{c s:Nat}(hs:s=P.cellsOf t)(hle:c+s<=us.length)(h1:lG P t=false->s=1) :
  (part t us.toArray c).run P w=.ok (valOf P t ((us.drop c).take s)) w:=by
 obtain⟨d,hu⟩:=T;simp only[part,Sem.run_bind,HY hu,Result.andThen];unfold valOf
 cases I:lG P t with
 | true =>
  simp only[if_true,Sem.run_bind,run_sizeOf U,Result.andThen,Sem.run_pure,<- hs]
  congr 2
  apply Array.ext';simp[List.extract_eq_take_drop]
 | false =>
  have:=h1 I;subst this;have J:c<us.length:=by omega
  simp only[Bool.false_eq_true,if_false];rw[show us.toArray[c]?=some us[c] by simp[J]];have:(us.drop c).take 1=[us[c]]:=by rw[List.drop_eq_getElem_cons J];rfl
  simp[this]
theorem Vd {P:Program}:∀ (d:Nat) (t:TypeId) (U:List Nat),wV P d t=some U->lG P t=false->U.length=1
 | 0,_,_,h,_=>by simp[wV] at h
 | d+1,t,U,h,ha=>by
  unfold wV at h;unfold lG at ha
  split at h
  all_goals first
   | (cases h;done)
   | (cases h;rfl)
   | (rename_i hu;simp[hu] at ha;done)
theorem QT:∀ (n:Nat) (l:List Nat),(X4 n l).length=n*l.length
 | 0,l=>by simp[X4]
 | n+1,l=>by simp[X4,QT n l,Nat.add_mul];omega
theorem GX {P:Program}(g:L6 P):∀ (d:Nat) (t:TypeId) (T:List Nat),wV P d t=some T->∀ (D:Nat),d<=D->∀ (us vs:List Value) (b:Bool),FW T us vs=some b ->
  ∀ w,(Op.equalIn D t (valOf P t us) (valOf P t vs)).run P w=.ok b w
 | 0,_,_,h=>by simp[wV] at h
 | d+1,t,T,h=>by
  intro D hD us vs b hb w;obtain⟨D,rfl⟩:∃ D',D=D'+1:=⟨D-1,by omega⟩;have hD:d<=D:=by omega
  unfold wV at h
  have one:∀ k,T=[k]->∃ u v,us=[u]/\vs=[v]/\ceq k u v=some b:=by
   intro k e;subst e;have hl:=NY _ _ _ _ hb
   match us,vs,hl with
   | [u],[v],_ =>
    simp only[FW] at hb
    cases h1:ceq k u v with
    | none=>rw[h1] at hb;cases hb
    | some a=>rw[h1] at hb;simp at hb;subst hb;exact⟨u,v,rfl,rfl,h1⟩
  split at h
  rename_i hu;cases h;obtain⟨u,v,rfl,rfl,hc⟩:=one 1 rfl;have:lG P t=false:=by simp[lG,hu]
  simp only[valOf,this,Bool.false_eq_true,if_false,List.headD_cons];unfold ceq at hc
  split at hc
  rename_i h0;cases h0
  simp only[Option.some.injEq] at hc;subst hc;exact run_equalIn_bool' w D t _ _ hu
  rename_i h0;cases h0
  cases hc
  rename_i k hu;cases h;obtain⟨u,v,rfl,rfl,hc⟩:=one 0 rfl;have:lG P t=false:=by simp[lG,hu]
  simp only[valOf,this,Bool.false_eq_true,if_false,List.headD_cons];unfold ceq at hc
  split at hc
  split at hc
  simp only[Option.some.injEq] at hc;subst hc;rename_i hk;subst hk;exact run_equalIn_int w D t _ _ _ _ hu
  cases hc
  rename_i h0;cases h0
  rename_i h0;cases h0
  cases hc
  rename_i hu;cases h;obtain⟨u,v,rfl,rfl,hc⟩:=one 2 rfl;have:lG P t=false:=by simp[lG,hu]
  simp only[valOf,this,Bool.false_eq_true,if_false,List.headD_cons];unfold ceq at hc
  split at hc
  rename_i h0;cases h0
  rename_i h0;cases h0
  simp only[Option.some.injEq] at hc;subst hc;exact run_equalIn_string w D t _ _ hu
  cases hc
  rename_i fs hu
  cases J:P.stoodInHeld t with
  | true=>rw[J] at h;cases h
  | false =>
   simp only[J,Bool.false_eq_true,if_false] at h;have C:lG P t=true:=by simp[lG,hu]
   simp only[valOf,C,if_true];have O:P.fieldsOf t=fs:=by simp[Program.fieldsOf,hu]
   rw[run_equalIn_struct w D t _ _ (by rw[O];exact hu) J,O]
   have key:∀ (l:List Field) (off:Nat) (T:List Nat) (b:Bool),KP P (wV P d) l off=some T->FW T (us.drop off) (vs.drop off)=some b ->
     (Op.eqFields D us.toArray vs.toArray l).run P w=.ok b w:=by
    intro l
    induction l with
    | nil =>
     intro off T b h hb;simp[KP] at h;subst h
     have I : b=true:=by
      generalize us.drop off=x at hb;generalize vs.drop off=y at hb;cases x<;>cases y<;>simp[FW] at hb
      exact hb
     subst I;simp[Op.eqFields]
    | cons f l ih =>
     intro off T b h hb;unfold KP at h
     split at h
     rename_i hc;obtain⟨ho,hn,hi⟩:=hc
     cases hs:wV P d f.type with
     | none=>rw[hs] at h;cases h
     | some s =>
      rw[hs] at h;simp only at h
      split at h
      rename_i hsz0;obtain⟨hsz,hpos⟩:=hsz0
      cases hr:KP P (wV P d) l (off+s.length) with
      | none=>rw[hr] at h;cases h
      | some r =>
       rw[hr] at h;simp only[Option.some.injEq] at h;subst h;obtain⟨b1,b2,e1,e2,rfl⟩:=Tq _ _ _ _ _ hb;rw[List.drop_drop,List.drop_drop] at e2;have hl:=NY _ _ _ _ e1
       have hle1:off+s.length<=us.length:=by
        have:=hl.1;rw[List.length_take,List.length_drop] at this;omega
       have hle2:off+s.length<=vs.length:=by
        have:=hl.2;rw[List.length_take,List.length_drop] at this;omega
       have U:lG P f.type=false->s.length=1:=λC=>Vd d _ _ hs C;subst ho;simp only[Op.eqFields,ne_eq,hn,not_false_eq_true,if_true,Sem.run_bind];rw[IL hi (g _ hi) hsz.symm hle1 U];simp only[Result.andThen];rw[IL hi (g _ hi) hsz.symm hle2 U];simp only[Result.andThen];rw[GX g d f.type s hs D hD _ _ b1 e1 w];simp only[Result.andThen];cases b1
       simp
       simpa using ih _ _ b2 hr e2
      cases h
     cases h
   exact key fs.toList 0 T b h (by simpa using hb)
  ·rename_i n e hu
   cases hs:wV P d e with
   | none=>rw[hs] at h;cases h
   | some s =>
    rw[hs] at h;simp only at h
    split at h
    ·rename_i hc;obtain⟨hsz,hi⟩:=hc;simp only[Option.some.injEq] at h;subst h;have C:lG P t=true:=by simp[lG,hu]
     simp only[valOf,C,if_true]
     cases hinf:P.info? e with
     | none=>exact absurd hinf hi
     | some inf =>
     rw[run_equalIn_array w D us.toArray vs.toArray hu hinf];have U:lG P e=false->s.length=1:=λC=>Vd d _ _ hs C;have hl:=NY _ _ _ _ hb;rw[QT] at hl
     have key:∀ (m i:Nat) (b:Bool),i+m=n->FW (X4 m s) (us.drop (i*s.length)) (vs.drop (i*s.length))=some b ->
       (Op.eqItems D e (P.cellsOf e) us.toArray vs.toArray (List.range' i m)).run P w=.ok b w:=by
      intro m
      induction m with
      | zero =>
       intro i b _ hb
       have I : b=true:=by
        simp only[X4] at hb;generalize us.drop (i*s.length)=x at hb;generalize vs.drop (i*s.length)=y at hb;cases x<;>cases y<;>simp[FW] at hb
        exact hb
       subst I;simp[Op.eqItems]
      | succ m ih =>
       intro i b him hb;simp only[X4] at hb;obtain⟨b1,b2,e1,e2,rfl⟩:=Tq _ _ _ _ _ hb;rw[List.drop_drop,List.drop_drop] at e2
       have hb1:i*s.length+s.length<=n*s.length:=by
        have:=Nat.mul_le_mul_right s.length (show i+1<=n by omega);rw[Nat.add_mul] at this;omega
       simp only[List.range'_succ,Op.eqItems,Sem.run_bind,hsz];rw[IL hi (g _ hi) hsz.symm ah U];simp only[Result.andThen];rw[IL hi (g _ hi) hsz.symm ah U];simp only[Result.andThen];rw[GX g d e s hs D hD _ _ b1 e1 w];simp only[Result.andThen];cases b1
       simp
       have:=ih (i+1) b2 ah (by rw[Nat.add_mul,Nat.one_mul];exact e2);rw[hsz] at this
       simpa using this
     have:=key n 0 b ah (by simpa using hb);rw[List.range_eq_range'];exact this
    cases h
  cases h
end Go.Pv
