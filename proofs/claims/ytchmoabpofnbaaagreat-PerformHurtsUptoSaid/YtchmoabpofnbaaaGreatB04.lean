import Derived.MapKept
import Derived.TacticsIn
import Derived.RangeFuncRecord
import Derived.Test.YtchmoabpofnbaaaGreatB03
set_option linter.all false
namespace Go.Pv
open Go Go.MapKept
theorem Wy {P:Program}{T:Tab}(hT:jv P T){t:TypeId}{agg:Bool}{plain:Option (List Nat)}{size sz:Nat}{z:Option (List PV)}{zs:List PV}
  (h:T t=⟨true,agg,size,z,plain,.map sz zs⟩):∃ k e,P.underlying t=some (.map k e)/\P.underlying k=some (.int .i64)/\VZ P e=some zs/\sz=P.cellsOf e:=by
 obtain⟨i,d,h1,h2,C,I,h5,g,h7,U⟩:=vS hT h rfl;cases d<;>simp at U
 rename_i k e;unfold NQ at U
 split at U
 rename_i z hk J;cases U;exact⟨k,e,h2,hk,J,rfl⟩
 cases U
theorem ZH {P:Program}{t:TypeId}{z:List PV}(h:VZ P t=some z):∃ zs:List Value,(∀ w,(zeroValue t).run P w=.ok (.agg zs.toArray) w)/\∀ w Y σ,gV w Y σ z zs:=by
 unfold VZ at h
 split at h
 rename_i i hi
 split at h
 rename_i cs U;cases h;refine⟨cs.toList,λw=>?_,λw Y σ=>F7 w Y σ _⟩;simp[zeroValue,typeInfo,program,Sem.run,Result.andThen,hi,U]
 cases h
 cases h
theorem pz.length {w:World}{Y:Nat->Prop}:∀ {U:List MapEntry} {rows:List (List PV)},pz w Y U rows->U.length=rows.length
 | [],_,h=>by unfold pz at h;subst h;rfl
 | _::U,_,⟨n,cs,rows',h1,_,_,h5⟩=>by subst h1;simp[pz.length h5]
theorem zU {n k:Int}{e:MapEntry}{U:List MapEntry}{i:Nat}(T:e.key=.int .i64 k) :
  Instr.findNow (.int .i64) (.int .i64 n) (e::U) i=if n=k then some (some (i,e.val)) else Instr.findNow (.int .i64) (.int .i64 n) U (i+1):=by
 have h1:Instr.sameNow (.int .i64) (.int .i64 n) e.key=some (n==k):=by rw[T];simp[Instr.sameNow]
 rw[Instr.findNow,h1]
 by_cases h:n=k
 subst h;simp
 have:(n==k)=false:=by simpa using h
 rw[this,if_neg h]
theorem pz.find {w:World}{Y:Nat->Prop}(n:Int):∀ (U:List MapEntry) (rows:List (List PV)) (i:Nat),pz w Y U rows ->
  (Bl rows n=none/\Instr.findNow (.int .i64) (.int .i64 n) U i=some none) \/
  ∃ j e cs vs,Bl rows n=some cs/\Instr.findNow (.int .i64) (.int .i64 n) U i=some (some (i+j,e.val))/\U[j]?=some e/\e.key=.int .i64 n/\e.val=.agg (List.toArray vs)/\gV w Y iW cs vs
 | [],rows,i,h=>by unfold pz at h;subst h;exact .inl ⟨rfl,rfl⟩
 | e::U,rows,i,⟨k,cs,rows',h1,h2,⟨vs,h3,h4⟩,h5⟩=>by
  subst h1
  by_cases hk:k=n
  subst hk;refine .inr ⟨0,e,cs,vs,by simp[Bl],?_,rfl,h2,h3,h4⟩;rw[zU h2,if_pos rfl];rfl
  have T : ¬ n=k:=λe=>hk e.symm;rcases pz.find n U rows' (i+1) h5 with ⟨g1,g2⟩|⟨j,C,J,I,g1,g2,g3,g4⟩
  refine .inl ⟨by simp[Bl,hk,g1],?_⟩;rw[zU h2,if_neg T,g2]
  refine .inr ⟨j+1,C,J,I,by simp[Bl,hk,g1],?_,by simpa using g3,g4⟩;rw[zU h2,if_neg T,g2]
  congr 3;omega
theorem pz.push {w:World}{Y:Nat->Prop}{n:Int}{cs:List PV}{vs:List Value}{b:Nat}(hr:gV w Y iW cs vs):∀ (U:List MapEntry) (rows:List (List PV)),pz w Y U rows->Bl rows n=none ->
  pz w Y (U++[{ key:=.int .i64 n,val:=.agg vs.toArray,born:=b }]) (PZ rows n cs)
 | [],rows,h,_=>by unfold pz at h;subst h;exact⟨n,cs,[],rfl,rfl,⟨vs,rfl,hr⟩,rfl⟩
 | e::U,rows,⟨k,ks,rows',h1,h2,h3,h5⟩,O=>by
  subst h1
  by_cases hk:k=n
  subst hk;simp[Bl] at O
  simp[Bl,hk] at O;simp only[PZ,if_neg hk,List.cons_append];exact⟨k,ks,_,rfl,h2,h3,pz.push hr U rows' h5 O⟩
theorem pz.modify {w:World}{Y:Nat->Prop}{n:Int}{cs:List PV}{vs:List Value}(hr:gV w Y iW cs vs):∀ (U:List MapEntry) (rows:List (List PV)) (i j:Nat) (v:Value),pz w Y U rows ->
  Instr.findNow (.int .i64) (.int .i64 n) U i=some (some (i+j,v))->pz w Y (U.modify j λe=>{ e with key:=.int .i64 n,val:=.agg vs.toArray }) (PZ rows n cs)
 | [],_,i,j,v,_,h=>by simp[Instr.findNow] at h
 | e::U,rows,i,j,v,⟨k,ks,rows',h1,h2,h3,h5⟩,h=>by
  subst h1
  by_cases hk:k=n
  subst hk
  have hj:j=0:=by
   rw[zU h2,if_pos rfl] at h;simp at h;omega
  subst hj;simp only[PZ,if_pos rfl];exact⟨k,cs,rows',rfl,rfl,⟨vs,rfl,hr⟩,h5⟩
  have I : ¬ n=k:=λe=>hk e.symm;rw[zU h2,if_neg I] at h
  have T:∀ (l:List MapEntry) (a m:Nat) (x:Value),Instr.findNow (.int .i64) (.int .i64 n) l a=some (some (m,x))->a<=m:=by
   intro l
   induction l with
   | nil=>intro a m x h;simp[Instr.findNow] at h
   | cons y l ih =>
    intro a m x h;rw[Instr.findNow] at h
    split at h
    cases h;exact Nat.le_refl _
    have:=ih _ _ _ h;omega
    cases h
  have C:=T _ _ _ _ h;obtain⟨J,rfl⟩:∃ J,j=J+1:=⟨j-1,by omega⟩;simp only[PZ,if_neg hk];refine⟨k,ks,_,rfl,h2,h3,?_⟩;exact pz.modify hr U rows' (i+1) J v h5 (by rw[h];congr 2;congr 1;omega)
section
variable {P:Program}{T:Tab}(hT:jv P T){C:Ctx T}{o:Oper}{a:Act}{w:World}{Y:Nat->Prop}{σ:Sg}{ps:List PV}{st:St}{n id:Nat}{K:PV->Dl->Prop}{lk:Nat->Option mP}
 (H:SW C w Y σ ps a.tmps.toList st n) (hlk:∀ b x,lk b=some x->jr st b=some x) (hid:σ id=none/\T.pG<=id)
include H hid in
theorem abT {t:TypeId}(ho:o.op=.makeMap t none)(h:Zw T t id K):qw P C o a w σ ps st n id K:=by
 unfold Zw at h
 split at h
 obtain⟨Y',σ',H',hs,_,_,U⟩:=H.acZ hid (.map #[] 0) ⟨w.heap.size,0,0,0,0⟩ rfl (.map []) (λ_ _ e=>by cases e) (by
  intro w' Y' σ' hk J hb _;unfold iw;exact⟨⟨#[],0,hb,by simp[pz]⟩,J⟩)
 refine⟨_,_,.map (some w.heap.size),_,Y',σ',h,.inl ?_,H',?_,U⟩
 simp[execOp,ho,Instr.makeMap,newObj,Sem.run,Result.andThen]
 unfold Rep;exact⟨_,hs,rfl⟩
 exact h.elim
include hT H hlk in
theorem abU {args:Array Operand}{ts:Array TypeId}{t:TypeId}{b:Nat}(ho:o.op=.call { callee:=.builtin .len,args:=args,argTypes:=ts })(he:evA T ps args.toList=[.mp b])(ht:ts.toList=[t])
  (h:Zv T (jb.jJ P T) t b lk K):qw P C o a w σ ps st n id K:=by
 have U:=vF H args.toList;generalize g:args.toList.map a.eval=vs at U;unfold Zv at h
 split at h
 rename_i e;obtain⟨k,et,hu,_⟩:=Wy hT e
 split at h
 rename_i rows hb;rw[he] at U;obtain⟨u,rfl,J⟩:=Gf U;have I:=Ib ht;subst I;unfold Rep at J;obtain⟨l,hs,rfl⟩:=J;have hB:iw w Y σ l (.map rows):=iw.yA H hlk hb hs;unfold iw at hB;obtain⟨⟨es,ck,h1,h2⟩,_⟩:=hB;have hl:=h2.length;refine uf H ho (cv:=.int .i64 rows.length) (λty cs=>?_) dO h;rw[g];simp[builtin,Builtin.len_,kV hu,JK,MapKept.run_getObj_map h1,Result.andThen,<- hl]
 exact h.elim
 exact h.elim
include hT H hlk in
theorem abV {t:TypeId}{m k:Operand}(ho:o.op=.lookup t m k true)(h:Zu T (jb.jJ P T) t (qY T ps m) (qY T ps k) lk K):qw P C o a w σ ps st n id K:=by
 have hm:=kX H m;have hk:=kX H k;unfold Zu at h
 split at h
 rename_i agg size zero plain sz z b x e em ek;obtain⟨kt,et,hu,U,hz,_⟩:=Wy hT e;obtain⟨zs,hzr,I⟩:=ZH hz
 split at h
 rename_i rows hb;rw[em] at hm;unfold Rep at hm;obtain⟨l,hs,hme⟩:=hm;have g:a.eval k=.int .i64 x:=qj hk ek;have hB:iw w Y σ l (.map rows):=iw.yA H hlk hb hs;unfold iw at hB;obtain⟨⟨es,ck,h1,h2⟩,_⟩:=hB;have J:IsKey (.int .i64) (.int .i64 x):=by simp[IsKey]
 rcases pz.find x es.toList rows 0 h2 with ⟨g1,g2⟩|⟨j,e',cs,vs,g1,g2,g3,g4,g5,g6⟩
 obtain⟨zc,hzc,h⟩:=h.2 g1;refine qw.quiet H (cv:=.tuple #[.agg zs.toArray,.bool false]) ?_ ?_ h
 simp[execOp,ho,hme,g,Instr.lookup,kV hu,MapKept.run_getObj_map h1,MapKept.run_checkKey U J,MapKept.run_findKey U g2,hzr,Result.andThen]
 unfold Rep;refine⟨[.agg zs.toArray,.bool false],rfl,?_⟩;unfold gV;refine⟨_,_,rfl,?_,?_⟩
 unfold Rep;exact⟨zs,rfl,hzc _ _ _ _ (I w Y σ)⟩
 unfold gV;refine⟨_,_,rfl,by unfold Rep;rfl,by unfold gV;rfl⟩
 have h:K (.EJ [.agg cs,.sb true]) []:=h.1 cs g1;refine qw.quiet H (cv:=.tuple #[e'.val,.bool true]) ?_ ?_ h
 simp[execOp,ho,hme,g,Instr.lookup,kV hu,MapKept.run_getObj_map h1,MapKept.run_checkKey U J,MapKept.run_findKey U g2,Result.andThen]
 unfold Rep;refine⟨[e'.val,.bool true],rfl,?_⟩;unfold gV;refine⟨_,_,rfl,?_,?_⟩
 rw[g5];unfold Rep;exact⟨vs,rfl,gV.keep cs ⟨λ_ _ _=>rfl,λ_ _ h=>h,Nat.le_refl _,λ_ _ h=>by cases h⟩ vs g6⟩
 unfold gV;refine⟨_,_,rfl,by unfold Rep;rfl,by unfold gV;rfl⟩
 exact h.elim
 exact h.elim
include hT H hlk in
theorem Yt {t:TypeId}{m k x:Operand}(ho:o.op=.mapUpdate t m k x\/o.op=.insert t m k x)(h:aaN T (jb.jJ P T) t (qY T ps m) (qY T ps k) (qY T ps x) lk K):qw P C o a w σ ps st n id K:=by
 have hm:=kX H m;have hk:=kX H k;have hx:=kX H x;unfold aaN at h
 split at h
 rename_i agg size zero plain sz z b q e em ek;obtain⟨kt,et,hu,g,hz,hsz⟩:=Wy hT e
 split at h
 rename_i rows hb
 split at h
 rename_i xs ex
 split at h
 rename_i cs δ hp
 cases hmd:X5 b δ with
 | true=>rw[hmd] at h;exact h.elim
 | false =>
  rw[hmd] at h;simp only[cond_false] at h
  cases hl:Nat.beq (oG cs) sz with
  | false=>rw[hl] at h;exact h.elim
  | true =>
   rw[hl] at h;simp only[cond_true] at h;obtain⟨cs2,hl2,hc2,hw2,hK,_⟩:=zS h;rw[em] at hm;unfold Rep at hm;obtain⟨l,hs,hme⟩:=hm;have hke:a.eval k=.int .i64 q:=qj hk ek;rw[ex] at hx;unfold Rep at hx;obtain⟨vs,hxe,hxr⟩:=hx;obtain⟨Y1,H1,hr1,hy1⟩:=Ey xs cs δ hp Y st H (λb ro sz rows hb=>⟨ro,hlk _ _ hb⟩) vs hxr;have hst1:jr (jL δ st) b=some (.map rows):=by rw[Na δ st hmd];exact hlk _ _ hb
   have hB:iw w Y1 σ l (.map rows):=by
    rcases H1.store.blk b _ hst1 with ⟨l',hl',hB⟩|⟨hn,e⟩
    rw[hs] at hl';cases hl';exact hB
    cases e
   have hBm:=hB;unfold iw at hB;obtain⟨⟨es,ck,h1,h2⟩,hY⟩:=hB;have J:IsKey (.int .i64) (.int .i64 q):=by simp[IsKey]
   have hr2:=hw2 w Y1 iW vs hr1
   have fin:∀ (es' : Array MapEntry) (U : Nat),pz w Y1 es'.toList (PZ rows q cs2)->(Instr.mapUpdate t (.map (some l.cb)) (.int .i64 q) (.agg vs.toArray)).run P w=.ok () { w with heap:=w.heap.setIfInBounds l.cb (.map es' U) }->qw P C o a w σ ps st n id K:=by
    intro es' U hR hrun;have I:=heap_set (o':=.map es' U) h1
    have H2:SW C { w with heap:=w.heap.setIfInBounds l.cb (.map es' U) } Y1 σ ps a.tmps.toList (oH (jL δ st) b (some (.map (PZ rows q cs2)))) n:=by
     refine H1.update hst1 hs hY rfl rfl rfl aS (λk hk=>I.2 k hk) (λ_ _ e=>by cases e) λhkp=>?_;unfold iw;have K0:Keep w { w with heap:=w.heap.setIfInBounds l.cb (.map es' U) } Y1 Y1 iW iW:=⟨λk _ hy=>I.2 k (λe=>hy (e ▸ hY)),λ_ _ h=>h,by simp,ou.refl _⟩;exact⟨⟨es',U,I.1,hR.keep K0⟩,hY⟩
    refine⟨_,_,Go.undef,{ w with heap:=w.heap.setIfInBounds l.cb (.map es' U) },Y1,σ,hK,.inr ⟨?_,rfl⟩,?_,by simp[Rep],Off.refl _ _⟩
    rcases ho with ho|ho<;>simp[execOp,ho,hme,hke,hxe,hrun]
    rw[Nb];have:uz (δ++[(b,some (mP.map ((jb.jJ P T).aeH rows q cs2)))]) n id=max n (id+1):=by cases δ<;>rfl
    rw[this];exact H2.mono ah
   rcases pz.find q es.toList rows 0 h2 with ⟨g1,g2⟩|⟨j,e',cs',vs',g1,g2,g3,g4,g5,g6⟩
   refine fin (es.push { key:=.int .i64 q,val:=.agg vs.toArray,born:=ck }) (ck+1) ?_ ?_
   rw[Array.toList_push];exact pz.push hr2 _ _ h2 g1
   simp[Instr.mapUpdate,kV hu,MapKept.run_getObj_map h1,MapKept.run_checkKey g J,MapKept.run_findKey g g2,MapKept.run_setObj_map _ h1,Result.andThen]
   refine fin (es.modify j λe=>{ e with key:=.int .i64 q,val:=.agg vs.toArray }) ck ?_ ?_
   rw[Array.toList_modify];exact pz.modify hr2 _ _ 0 j _ h2 g2
   have g3' : es[j]?=some e':=by simpa using g3
   simp[Instr.mapUpdate,kV hu,MapKept.run_getObj_map h1,MapKept.run_checkKey g J,MapKept.run_findKey g g2,g3',g4,MapKept.run_keyThatStays J,MapKept.run_setObj_map _ h1,Result.andThen]
 exact h.elim
 exact h.elim
 exact h.elim
 exact h.elim
end
end Go.Pv
namespace Go.Pv
open Go
structure Bg (P:Program):Prop where
 und:L6 P
 flds:∀ t fs,t<P.types.size->P.underlying t=some (.struct fs)->∀ f∈fs.toList,P.info? f.type≠none
 elem:∀ t k e,t<P.types.size->P.underlying t=some (.array k e)->P.info? e≠none
 mixed:P.follows .mixedOrders=true
theorem Yu {T:Tab}{S:jb}{t:TypeId}{parts:Array (Nat×Operand)}{ps:List PV}{lk:Nat->Option mP}{id:Nat}{K:PV->Dl->Prop}(h:oO T S (.build t parts) ps lk id K):(T t).ok=true:=by
 simp only[oO] at h
 split at h
 rename_i e;rw[e]
 rename_i e;rw[e]
 exact h.elim
section
variable {P:Program}{T:Tab}(hT:jv P T)(hW:Bg P){C:Ctx T}{o:Oper}{a:Act}{w:World}{Y:Nat->Prop}{σ:Sg}{ps:List PV}{st:St}{n id:Nat}{K:PV->Dl->Prop}{lk:Nat->Option mP}
 (H:SW C w Y σ ps a.tmps.toList st n) (hlk:∀ b x,lk b=some x->jr st b=some x) (hid:σ id=none/\T.pG<=id)
include hT hW H hlk hid in
theorem yI (h:oO T (jb.jJ P T) o.op ps lk id K):qw P C o a w σ ps st n id K:=by
 cases ho:o.op with
 | move x=>rw[ho] at h;exact aeM H ho h
 | assign x=>rw[ho] at h;exact abN H ho h
 | pick c x y=>rw[ho] at h;exact aeN H ho h
 | alloc t=>rw[ho] at h;exact ac1 hT H hid ho h
 | box t x=>rw[ho] at h;exact af7 H hid ho h
 | build t parts=>rw[ho] at h;exact ac6 hT H ho (λU hu=>hW.flds t U (hT t (Yu h)).2 hu) (λk e hu=>hW.elem t k e (hT t (Yu h)).2 hu) h
 | buildSlice t len parts=>rw[ho] at h;exact UK hT H hlk hid ho h
 | load t x=>rw[ho] at h;exact aeQ hT H hlk ho h
 | store t x y=>rw[ho] at h;exact ac0 hT H hlk hid ho h
 | nilCheck x=>rw[ho] at h;exact Yd H ho h
 | binOp op t x y u=>rw[ho] at h;exact ac5 hT H hW.und ho h
 | unOp op t x =>
  rw[ho] at h
  cases op with
  | not=>exact acV H ho h
  | neg=>exact acW H ho h
  | _=>exact dN
 | convert s d x=>rw[ho] at h;exact ZG hT H hlk ho h
 | makeFunc fn first cap =>
  rw[ho] at h
  cases fn with
  | func f=>exact Yh H ho h
  | _=>exact dN
 | makeSlice t x y=>rw[ho] at h;exact Ws hT H hid ho h
 | slice t x lo hi J=>rw[ho] at h;exact ac8 hT H hlk ho hid h
 | fieldAddr t x f=>rw[ho] at h;exact We hT H ho h
 | field t x f=>rw[ho] at h;exact ac2 hT H hW.und ho h
 | indexAddr t x i=>rw[ho] at h;exact Wn hT H hlk ho h
 | index t x i=>rw[ho] at h;exact ac3 hT H hW.und ho h
 | extract t i=>rw[ho] at h;exact Zy H ho h
 | call c =>
  rw[ho] at h;obtain⟨callee,args,ts⟩:=c
  cases callee with
  | builtin b =>
   cases b with
   | len=>exact af8 hT H ho h
   | min=>exact af9 hT H ho h
   | max=>exact aga hT H ho h
   | append=>exact abS hT H hlk hid ho h
   | clear=>exact ada hT H hlk hid ho h
   | _=>exact dN
  | _=>exact dN
 | _=>rw[ho] at h;exact dN
include hT hW H hlk hid in
theorem ae1 (h:opN T (jb.jJ P T) o.op ps lk id K):qw P C o a w σ ps st n id K:=by
 unfold opN at h
 split at h
 exact yI hT hW H hlk hid h
 split at h
 rename_i ho;exact abT H hid ho h
 rename_i ho;exact Yt hT H hlk (.inl ho) h
 rename_i ho;exact Yt hT H hlk (.inr ho) h
 rename_i ho;exact abV hT H hlk ho h
 rename_i ho
 split at h
 rename_i U ht;exact abU hT H hlk ho U ht h
 exact yI hT hW H hlk hid fD
 rename_i ho
 split at h
 exact aeZ hT H hlk hid ho (λhE=>yI hT hW H hlk hid (by rw[ho];exact hE)) h
 exact yI hT hW H hlk hid fD
 rename_i ho
 split at h
 rename_i U ht
 split at h
 exact ae0 hT H hlk hid ho U ht h
 exact yI hT hW H hlk hid fD
 exact yI hT hW H hlk hid fD
 exact yI hT hW H hlk hid h
end
theorem gV.pI {w:World}{Y:Nat->Prop}{σ:Sg}{p:PV}:∀ (ps:List PV) (vs:List Value) (t:Nat),gV w Y σ ps vs->Rep w Y σ p (vs.getD t Go.undef)->gV w Y σ (oq ps t p) vs
 | [],vs,t,h,_=>by simpa [oq] using h
 | q::ps,vs,0,h,hp=>by
  unfold gV at h;obtain⟨v,U,rfl,h1,h2⟩:=h;simp only[oq];unfold gV;exact⟨v,U,rfl,by simpa using hp,h2⟩
 | q::ps,vs,t+1,h,hp=>by
  unfold gV at h;obtain⟨v,U,rfl,h1,h2⟩:=h;simp only[oq];unfold gV;exact⟨v,U,rfl,h1,gV.pI ps U t h2 (by simpa using hp)⟩
theorem SW.pI {T:Tab}{C:Ctx T}{w:World}{Y:Nat->Prop}{σ:Sg}{ps:List PV}{vs:List Value}{st:St}{n:Nat}(H:SW C w Y σ ps vs st n){d:Nat}{b:Bool}(hb:jD ps d=.sb b)(c:Bool)(hc:b=c):SW C w Y σ (oq ps d (.bool c)) vs st n:=by
 refine (H.rP ?_);refine gV.pI _ _ _ H.vals ?_;have:=H.vals.get _ _ d;rw[hb] at this;rw[JJ this,hc];simp[Rep]
theorem lI.pI {T:Tab}{C:Ctx T}{E:Env}{a:Act}{w:World}(h:lI C E a w){d:Nat}{b:Bool}(hb:jD E.tmps d=.sb b)(c:Bool)(hc:b=c):lI C (qf E (some d) (.bool c)) a w:=by
 obtain⟨⟨Y,σ,H⟩,U⟩:=h;refine⟨⟨Y,σ,(H.rP ?_)⟩,U⟩;refine gV.pI _ _ _ H.vals ?_;have:=H.vals.get _ _ d;rw[hb] at this;rw[JJ this,hc];simp[Rep]
theorem lI.put {T:Tab}{C:Ctx T}{w:World}{Y:Nat->Prop}{σ:Sg}{a:Act}{ps:List PV}{st:St}{n:Nat}(H:SW C w Y σ ps a.tmps.toList st n)(U:DF C a){v:PV}{cv:Value}(hv:Rep w Y σ v cv)(d:Option Nat) :
  lI C (qf ⟨ps,st,n⟩ d v) (a.put d cv) w:=by
 cases d with
 | none=>exact⟨⟨Y,σ,H⟩,U⟩
 | some d =>
  refine⟨⟨Y,σ,(H.rP ?_)⟩,U⟩;simp only[Act.put,qf,Array.toList_setIfInBounds];exact gV.set hv _ _ _ H.vals
def fW (ro:Option Nat):Fence:={ fn:=λ_=>True,depth:=none,alive:=false,round:=ro }
theorem abW {P:Program}{n:Nat}{row:String}{args:Array Value}{w:World}{R:Value->World->Prop}(h:Rows P row args w R):RowsIn Fence.wide n P row args w R :=
 λc cs _=>let ⟨v,w',r,s⟩:=h c cs;⟨v,w',r,stepsIn_wide.2 s⟩
theorem IU {P:Program}{o:Oper}{a:Act}{w:World}{next:Act->World->Prop}{Q:Exit->Act->World->Prop}{ro:Option Nat}(T:∀ c,o.op≠.defer c)(h:o.wp P a w next Q):o.wpIn (fW ro) 0 P a w next Q:=by
 refine⟨λ_ _=>trivial,?_⟩;show o.uponIn (fW ro) 0 P a next Q ((o.semAt ro a.eval).run P w)
 rw[Oper.semAt_eq _ _ _ T];unfold Oper.wp at h;generalize (execOp a.eval o).run P w=r at h
 cases r with
 | ok v w' =>
  cases v with
  | value v=>exact h
  | skip=>exact h
  | defer d=>exact h
  | enter f args=>exact⟨λU=>(by cases U),(callsIn_wide (n:=0-1)).2 h⟩
  | row r args=>exact⟨λU=>(by cases U),abW (n:=0-1) h⟩
  | _=>exact h.elim
 | halt v w'=>cases v<;>first|exact h|exact h.elim
theorem agf {T:Tab}{S:jb}{o:Op}{tmps:List PV}{lk:Nat->Option mP}{id:Nat}{K:PV->Dl->Prop}(h:oO T S o tmps lk id K):∀ c,o≠.defer c:=by
 rintro c rfl;exact h
theorem agh {T:Tab}{S:jb}{o:Op}{tmps:List PV}{lk:Nat->Option mP}{id:Nat}{K:PV->Dl->Prop}(h:opN T S o tmps lk id K):∀ c,o≠.defer c:=by
 rintro c rfl
 unfold opN at h
 split at h
 exact h
 exact h
theorem abX {P:Program}{T:Tab}{l:Nat}{rc:Loop}{pv:Value}{args:List PV}{E:Env}{K:PV->Env->Prop}{ρ:List Nat}{v:PV}{st1:St}{n1:Nat}
  (hnd:JF ρ=true) (hlt:ltN E.next ρ=true) (hnn:lS (xZ (CQ ρ) E.st 0 ρ)=true) (h0:ρ[0]?=some 0)
  (hF:YS P T.gl l rc pv (zH (vk (CQ ρ) 8) args) (xZ (CQ ρ) E.st 0 ρ) (lh ρ) (λu st n=>u=v/\st=st1/\n=n1)) (hK:K (vk (Bf ρ E.next) 8 v) (DV ρ E st1 n1)):af5 P T l rc pv args E K:=by
 intro C Y σ w vs U H hr hy0 hl I
 have:=Wv (P:=P) (N:=E.next+(n1-lh ρ)) (v:=v) (st1:=st1) (n1:=n1) (Z:=λ_ _=>True)
  (X:=λR=>U.length=rc.params.size/\RoundIn Fence.wide 0 P l rc.fn ((rc.params.zip U.toArray).foldl (λtmps (t,a)=>tmps.setIfInBounds t a) rc.tmps) rc.assign rc.body w R)
  H hnd hlt H.fix.1 (λb hb _=>H.next b hb) ⟨Nat.le_refl _,Nat.le_add_right _ _⟩ hr (by intro R R' h k;exact⟨k.1,RoundIn.mono k.2 h⟩)
  (λσc hσc J hra g=>by
   obtain⟨h1,h2⟩:=hF w Y σc U H.wJ H.vw J hra g hnn (H.y0 l hy0) hl (by unfold Rep at I |-;rw[hσc 0 0 h0];exact I);refine⟨h1,RoundIn.mono h2 λe w' hh=>?_⟩;obtain⟨cv,u,st',n',Y',σ',h3,h4,h5⟩:=hh;exact⟨cv,u,st',n',Y',σ',h3,h4,h5,trivial⟩)
 refine⟨this.1,RoundIn.mono this.2 λe w' hh=>?_⟩;obtain⟨cv,Y',σ',e1,h3,h4,_⟩:=hh;exact⟨cv,_,_,Y',σ',e1,hK,h3,h4⟩
def OpT (P:Program)(T:Tab)(o:Oper)(E:Env)(K:Env->Prop):Prop :=
 ∀ (ro:Option Nat) (C:Ctx T) a w,lI C E a w->∀ next Q,(∀ E' a' w',lI C E' a' w'->K E'->next a' w')->o.wpIn (fW ro) 0 P a w next Q
theorem ae2 {P:Program}{T:Tab}(hT:jv P T)(hW:Bg P){o:Oper}{E:Env}{K:Env->Prop}
  (h:oO T (jb.jJ P T) o.op E.tmps (jr E.st) E.next λv δ=>K (qf ⟨E.tmps,jL δ E.st,QN δ E.next⟩ o.dst v)):OpT P T o E K:=by
 intro ro C a w hA next Q J
 refine IU (agf h) ?_;obtain⟨⟨Y,σ,H⟩,g⟩:=hA;obtain⟨v,δ,cv,w',Y',σ',I,U,H',hv,_⟩:=yI hT hW H (λ_ _ h=>h) ⟨H.next _ (Nat.le_refl _),H.fix.1⟩ h;have hn:uz δ E.next E.next=QN δ E.next:=by cases δ<;>simp[uz,QN]
 rw[hn] at H';have:=J _ _ _ (lI.put H' g hv o.dst) I;unfold Oper.wp;rcases U with U|⟨U,rfl⟩
 rw[U];exact this
 rw[U];exact this
theorem ae3 {P:Program}{T:Tab}(hT:jv P T)(hW:Bg P){o:Oper}{E:Env}{K:Env->Prop}
  (h:opN T (jb.jJ P T) o.op E.tmps (jr E.st) E.next λv δ=>K (qf ⟨E.tmps,jL δ E.st,QN δ E.next⟩ o.dst v)):OpT P T o E K:=by
 intro ro C a w hA next Q J
 refine IU (agh h) ?_;obtain⟨⟨Y,σ,H⟩,g⟩:=hA;obtain⟨v,δ,cv,w',Y',σ',I,U,H',hv,_⟩:=ae1 hT hW H (λ_ _ h=>h) ⟨H.next _ (Nat.le_refl _),H.fix.1⟩ h;have hn:uz δ E.next E.next=QN δ E.next:=by cases δ<;>simp[uz,QN]
 rw[hn] at H';have:=J _ _ _ (lI.put H' g hv o.dst) I;unfold Oper.wp;rcases U with U|⟨U,rfl⟩
 rw[U];exact this
 rw[U];exact this
theorem abY {P:Program}{T:Tab}(hT:jv P T)(hW:Bg P){o:Oper}{E:Env}{K:Env->Prop}(h:acJ T (jb.jJ P T) o E K):OpT P T o E K:=by
 unfold acJ at h
 split at h
  
 rename_i f args ts ho
 split at h
 rename_i k caps O;intro ro C a w hA next Q U
 refine IU fE ?_;obtain⟨⟨Y,σ,H⟩,hd⟩:=hA;have I:=kX H f;rw[O] at I;unfold Rep at I;obtain⟨cs,ef,hcs⟩:=I;have hargs:=vF H args.toList;have hall:=Eu (T.hid k) _ _ (gV.app _ _ _ _ hargs hcs);obtain⟨hent,hcall⟩:=JP h C Y σ w a.tmps.toList _ H hall;unfold Oper.wp
 have J:(execOp a.eval o).run P w=.ok (.enter k (args.toList.map a.eval++cs).toArray) w:=by
  have g:args.map a.eval=(args.toList.map a.eval).toArray:=by apply Array.ext';simp
  simp only[execOp,ho,resolve,ef,Deferred.ofValue,Sem.run_bind,Sem.run_pure,Result.andThen,invoke,g];have:(#[]++(args.toList.map a.eval).toArray++cs.toArray)=(args.toList.map a.eval++cs).toArray:=by apply Array.ext';simp
  rw[this];exact hent
 rw[J];refine Calls.mono hcall λe w' hh=>?_;obtain⟨cv,v,E',Y',σ',rfl,hK,H',hv⟩:=hh;exact U _ _ _ (lI.put H' hd hv o.dst) hK
   
 rename_i l O;intro ro C a w hA next Q U
 obtain⟨⟨Y,σ,H⟩,hd⟩:=hA;have I:=kX H f;rw[O] at I;unfold Rep at I;obtain⟨rc,pv,v1,st1,n1,hyl,has,hst0,h1,h2,h3,h4,hF,hK1⟩:=h;have h:=abX (K:=λv E=>K (qf E o.dst v)) h1 h2 h3 h4 hF hK1;obtain⟨hy0,hm,hl0,hpas,l0,hb0,hpv⟩:=hd.2 l rc pv hyl;have hl:w.heap[l]?=some (.loop rc):=by rw[H.qh.block l (Array.getElem?_eq_some_iff.1 hl0).1 hm];exact hl0
 obtain⟨hlen,hround⟩:=h C Y σ w a.tmps.toList _ H (vF H args.toList) hy0 hl (by unfold Rep;exact⟨l0,by rw[H.fix.2 0 hpas];exact hb0,hpv⟩);refine⟨λ_ _=>trivial,?_⟩;show o.uponIn (fW ro) 0 P a next Q ((o.semAt ro a.eval).run P w)
 rw[Oper.semAt_eq _ _ _ fE];have g:args.map a.eval=(args.toList.map a.eval).toArray:=by apply Array.ext';simp
 have hy:=run_yield (P:=P) (args:=(args.toList.map a.eval).toArray) hl (by simpa using hlen)
 have J:(execOp a.eval o).run P w=.ok (.round l rc.fn ((rc.params.zip (args.toList.map a.eval).toArray).foldl (λtmps (t,a)=>tmps.setIfInBounds t a) rc.tmps) rc.assign rc.body) w:=by
  simp only[execOp,ho,resolve,I,Deferred.ofValue,Sem.run_bind,Sem.run_pure,Result.andThen,invoke,g];have:(#[]++(args.toList.map a.eval).toArray)=(args.toList.map a.eval).toArray:=by apply Array.ext';simp
  rw[this];exact hy
 rw[J];refine⟨λhd=>(by cases hd),?_⟩;show RoundIn Fence.wide 0 P l _ _ _ _ w _;refine RoundIn.mono hround λe w' hh=>?_;obtain⟨cv,v,E',Y',σ',rfl,hK,H',hv⟩:=hh;exact U _ _ _ (lI.put H' hd hv o.dst) hK
 exact h.elim
 split at h
 rename_i c x y ho
 split at h
 rename_i t hc;obtain⟨ht,O⟩:=h;intro ro C a w hA next Q U
 refine IU fE ?_;obtain⟨⟨Y,σ,H⟩,hd⟩:=hA;have hcv:=H.vals.get _ _ c;rw[hc] at hcv;have hcv:=JJ hcv
 have hcv' : a.eval (.tmp c)=.bool t:=by
  rw[<- hcv];simp[Act.eval,Array.getD_eq_getD_getElem?,List.getD_eq_getElem?_getD]
 have J:(execOp a.eval o).run P w=.ok (.value (if t then a.eval x else a.eval y)) w:=by
  simp[execOp,ho,hcv',asBool]
 unfold Oper.wp;rw[J]
 cases t with
 | true=>exact U _ _ _ (lI.put (H.pI hc true rfl) hd (v:=qY T E.tmps x) (kX H x) o.dst) (ht rfl)
 | false=>exact U _ _ _ (lI.put (H.pI hc false rfl) hd (v:=qY T E.tmps y) (kX H y) o.dst) (O rfl)
 exact ae2 hT hW fD
 exact ae3 hT hW h
theorem Yv {P:Program}{T:Tab}{all:Array Oper}{o:Oper}{E:Env}{run skip:Env->Prop}(h:gd (jb.jJ P T) all o.guard E run skip){T:Tab}{C:Ctx T}{a:Act}{w:World}(hA:lI C E a w) :
  ∃ E',lI C E' a w/\((Region.wanted o (yielded all a.tmps)=true/\run E')\/(Region.wanted o (yielded all a.tmps)=false/\skip E')):=by
 unfold gd at h
 split at h
 rename_i hg;exact⟨E,hA,.inl ⟨by simp[Region.wanted,hg],h⟩⟩
 rename_i j want hg
 split at h
 rename_i oj hj
 split at h
 rename_i d hd
 have I:∀ b,a.tmps.toList.getD d Go.undef=.bool b->yielded all a.tmps j=some b:=by
  intro b hb;rw[List.getD_eq_getElem?_getD] at hb;unfold yielded;simp only[hj,Option.bind_some,hd]
  cases hx:a.tmps[d]? with
  | none=>rw[Array.getElem?_toList,hx] at hb;cases hb
  | some v=>rw[Array.getElem?_toList,hx] at hb;simp at hb;subst hb;rfl
 have g:a.tmps.toList.getD d Go.undef=Go.undef->yielded all a.tmps j=none:=by
  intro hb;rw[List.getD_eq_getElem?_getD] at hb;unfold yielded;simp only[hj,Option.bind_some,hd]
  cases hx:a.tmps[d]? with
  | none=>rfl
  | some v=>rw[Array.getElem?_toList,hx] at hb;simp at hb;subst hb;rfl
 have J:∀ b,yielded all a.tmps j=some b->Region.wanted o (yielded all a.tmps)=(b==want):=by
  intro b hb;simp[Region.wanted,hg,hb]
 have hA':=hA;obtain⟨⟨Y,σ,H⟩,hdef⟩:=hA';have U:=H.vals.get _ _ d
 split at h
 rename_i e;rw[e] at U;have hw:=J true (I true (yz U));refine⟨E,hA,?_⟩;rw[hw]
 cases want with
 | true=>exact .inl ⟨rfl,h⟩
 | false=>exact .inr ⟨rfl,h⟩
 rename_i e;rw[e] at U;have hw:=J false (I false (yz U));refine⟨E,hA,?_⟩;rw[hw]
 cases want with
 | true=>exact .inr ⟨rfl,h⟩
 | false=>exact .inl ⟨rfl,h⟩
 rename_i b e;have hg3:=U;rw[e] at hg3;have hw:=J b (I b (JJ hg3));obtain⟨h1,h2⟩:=h;refine⟨qf E (some d) (.bool b),⟨⟨Y,σ,H.pI e b rfl⟩,hdef⟩,?_⟩;rw[hw]
 cases b with
 | true =>
  have h1:=h1 rfl
  cases want with
  | true=>exact .inl ⟨rfl,h1⟩
  | false=>exact .inr ⟨rfl,h1⟩
 | false =>
  have h2:=h2 rfl
  cases want with
  | true=>exact .inr ⟨rfl,h2⟩
  | false=>exact .inl ⟨rfl,h2⟩
 rename_i e;rw[e] at U;have hy:=g (by unfold Rep at U;exact U);exact⟨E,hA,.inr ⟨by simp[Region.wanted,hg,hy],h⟩⟩
 exact h.elim
 exact h.elim
 exact h.elim
theorem zV {P:Program}{T:Tab}(hT:jv P T)(hW:Bg P)(ro:Option Nat){all:Array Oper}{Q:Exit->Act->World->Prop}{C:Ctx T}:∀ (l:List Oper) (E:Env) (K:Env->Prop),opsE T (jb.jJ P T) all l E K ->
  ∀ a w,lI C E a w->(∀ E' a' w',lI C E' a' w'->K E'->Q .normal a' w')->wpListIn (fW ro) 0 P all Q l a w
 | [],E,K,h,a,w,hA,hQ=>hQ E a w hA h
 | o::l,E,K,h,a,w,hA,hQ=>by
  simp only[opsE] at h;obtain⟨E',U,hh⟩:=Yv h hA;unfold wpListIn;rcases hh with ⟨J,hh⟩|⟨J,hh⟩
  rw[if_pos J];refine abY hT hW hh ro C a w U _ _ λE2 a2 w2 I g=>?_;exact zV hT hW ro l E2 K g a2 w2 I hQ
  rw[if_neg (by rw[J];simp)];obtain⟨⟨Y,σ,H⟩,hd⟩:=U;exact⟨λ_ _=>trivial,zV hT hW ro l _ K hh _ w (lI.put H hd (v:=.undef) (cv:=Go.undef) bU o.dst) hQ⟩
theorem ZI {P:Program}{T:Tab}(hT:jv P T)(hW:Bg P){id:Nat}{l:Array Oper}{Q:Exit->Act->World->Prop}{C:Ctx T}{E:Env}{K:Env->Prop}(h:opsE T (jb.jJ P T) l l.toList E K){a:Act}{w:World}(hA:lI C E a w)
  (I:∀ J U w',lI C J U w'->K J->Q .normal U w'):(Code.region id l false).wp P Q a w :=
 wpIn_wide.1 (wpIn_region_list (F:=Fence.wide) (n:=0) (zV hT hW none l.toList E K h a w hA I))
end Go.Pv
namespace Go.Pv
open Go
theorem BB {T:Tab}{ps qs:List PV}:∀ (l:List Operand),(∀ x∈l,qY T ps x=qY T qs x)->evA T ps l=evA T qs l
 | [],_=>rfl
 | x::l,h=>by simp only[evA];rw[h x aS,BB l λy hy=>h y (by simp[hy])]
theorem KU {T:Tab}{ps qs:List PV}:∀ (l:List (Nat×Operand)),(∀ x∈l,qY T ps x.2=qY T qs x.2)->evP T ps l=evP T qs l
 | [],_=>rfl
 | (i,x)::l,h=>by simp only[evP];rw[h (i,x) aS,KU l λy hy=>h y (by simp[hy])]
theorem Qe {T:Tab}{ps qs:List PV}(l:Option Operand)(h:∀ x,l=some x->qY T ps x=qY T qs x):evO T ps l=evO T qs l:=by
 cases l with
 | none=>rfl
 | some x=>simp only[evO];rw[h x rfl]
theorem Qg {T:Tab}{S:jb}{o:Op}{ps qs:List PV}{lk:Nat->Option mP}{id:Nat}{K:PV->Dl->Prop}(h:∀ x∈o.operands,qY T ps x=qY T qs x) :
  oO T S o ps lk id K=oO T S o qs lk id K:=by
 cases o
 case build t parts =>
  have:=KU (ps:=ps) (qs:=qs) parts.toList λx hx=>h x.2 bV;simp only[oO,this]
 case buildSlice t len parts =>
  have:=KU (ps:=ps) (qs:=qs) parts.toList λx hx=>h x.2 bV;simp only[oO,this]
 case makeFunc fn first cap =>
  cases fn
  case func f =>
   have:=BB (ps:=ps) (qs:=qs) cap.toList λx hx=>h x (by simp only[Op.operands,Array.mem_append];exact .inr fG);simp only[oO,this]
  all_goals simp only[oO]
 case slice t x lo hi mx =>
  have h0:=h x eQ;have h1:=Qe (ps:=ps) (qs:=qs) lo λy hy=>h y fF;have h2:=Qe (ps:=ps) (qs:=qs) hi λy hy=>h y fF;have U:=Qe (ps:=ps) (qs:=qs) mx λy hy=>h y fF;simp only[oO,h0,h1,h2,U]
 case call c =>
  obtain⟨callee,args,ts⟩:=c;cases callee
  case builtin b =>
   have:=BB (ps:=ps) (qs:=qs) args.toList λx hx=>h x (by simp only[Op.operands,Call.operands];simpa using hx);simp only[oO,this]
  all_goals simp only[oO]
 case unOp op t x =>
  have h0:=h x eQ;cases op<;>simp only[oO,h0]
 all_goals (simp only[Op.operands,List.mem_toArray,List.mem_cons,List.not_mem_nil,or_false,forall_eq_or_imp,forall_eq] at h;simp only[oO,h])
theorem JC {b:Bool}{p:Prop}:(bif b then p else False)=(b=true/\p):=by cases b<;>simp
theorem wU {agg:Bool}{size:Nat}{row:List PV}{c:Nat}{K:PV->Prop}(h:loadRow agg size row c K):∃ v,K v/\∀ U : PV->Prop,U v->loadRow agg size row c U:=by
 unfold loadRow at h |-;cases agg<;>simp only[cond_true,cond_false,JC] at h |-
 all_goals exact⟨_,h.2,λU hk=>⟨h.1,hk⟩⟩
theorem adf {P:Program}{T:Tab}{op:BinOp}{t:TypeId}{x y:PV}{K:PV->Prop}(h:acC T (jb.jJ P T) op t x y K):∃ v,K v/\∀ U : PV->Prop,U v->acC T (jb.jJ P T) op t x y U:=by
 have spec:∀ {k J : IntKind} {a b:Int},UI (jb.jJ P T) op k a J b K->∃ v,K v/\∀ U : PV->Prop,U v->UI (jb.jJ P T) op k a J b U:=by
  intro k J a b h;cases op<;>simp only[UI,JC,jb.jJ] at h |-
  case shl=>exact⟨_,h.2,λU hk=>⟨h.1,hk⟩⟩
  case shr=>exact⟨_,h.2,λU hk=>⟨h.1,hk⟩⟩
  case quo=>exact⟨_,h.2.2,λU hk=>⟨h.1,h.2.1,hk⟩⟩
  case rem=>exact⟨_,h.2.2,λU hk=>⟨h.1,h.2.1,hk⟩⟩
 have I:∀ {b:Bool},eqK (jb.jJ P T) op b K->∃ v,K v/\∀ U : PV->Prop,U v->eqK (jb.jJ P T) op b U:=by
  intro b h;unfold eqK at h |-;cases h1:LW op<;>simp only[h1,cond_true,cond_false] at h |-
  cases h2:LX op<;>simp only[h2,cond_true,cond_false] at h |-
  exact⟨_,h,λU hk=>hk⟩
  exact⟨_,h,λU hk=>hk⟩
 have eql:∀ {b:Bool},eqL op b K->∃ v,K v/\∀ U : PV->Prop,U v->eqL op b U:=by
  intro b h;unfold eqL at h |-;cases h1:LW op<;>simp only[h1,cond_true,cond_false] at h |-
  cases h2:LX op<;>simp only[h2,cond_true,cond_false] at h |-
  cases b<;>exact⟨_,h,λU hk=>hk⟩
  exact⟨_,h,λU hk=>hk⟩
 have ints:∀ {k J : IntKind} {a b:Int} {v u:PV},(bif isSpec op then UI (jb.jJ P T) op k a J b K
   else bif sQ k J then (bif DU op then K v else bif Ht op then K u else False) else False) ->
   ∃ r,K r/\∀ U : PV->Prop,U r->(bif isSpec op then UI (jb.jJ P T) op k a J b U
   else bif sQ k J then (bif DU op then U v else bif Ht op then U u else False) else False):=by
  intro k J a b v u h;cases h1:isSpec op<;>simp only[h1,cond_true,cond_false] at h |-
  cases h2:sQ k J<;>simp only[h2,cond_true,cond_false] at h |-
  cases g:DU op<;>simp only[g,cond_true,cond_false] at h |-
  cases C:Ht op<;>simp only[C,cond_true,cond_false] at h |-
  exact⟨_,h,λU hk=>hk⟩
  exact⟨_,h,λU hk=>hk⟩
  exact spec h
 unfold acC at h |-
 split at h
 exact ints h
 cases h1:isAdd op<;>simp only[h1,cond_true,cond_false] at h |-
 cases h2:Ht op<;>simp only[h2,cond_true,cond_false] at h |-
 exact⟨_,h,λU hk=>hk⟩
 simp only[jb.jJ] at h |-;exact⟨_,h.2,λU hk=>⟨h.1,hk⟩⟩
 split at h
 split at h
 exact I h
 exact h.elim
 exact h.elim
 split at h
 exact ints h
 split at h
 split at h
 exact I h
 exact h.elim
 split at h
 cases h1:(zN x&&zN y)<;>simp only[h1,cond_true,cond_false] at h |-
 cases h2:((zN x&&JE y) || (JE x&&zN y))<;>simp only[h2,cond_true,cond_false] at h |-
 exact eql h
 exact eql h
 exact h.elim
theorem ae4 {rows:List (List PV)}{r:Nat}{row:List PV}{K:PV->Dl->Prop}{F:(PV->Dl->Prop)->List PV->Prop}(hr:rows[r]?=some row)(h:∃ v δ,K v δ/\∀ U : PV->Dl->Prop,U v δ->F U row):∃ v δ,K v δ/\∀ U : PV->Dl->Prop,U v δ->∃ row,rows[r]?=some row/\F U row:=by
 obtain⟨v,δ,h1,h2⟩:=h;exact⟨v,δ,h1,λU hk=>⟨row,hr,h2 U hk⟩⟩
theorem RX {c:Prop}{K:PV->Dl->Prop}{F:(PV->Dl->Prop)->Prop}(h0:c)(h:∃ v δ,K v δ/\∀ U : PV->Dl->Prop,U v δ->F U):∃ v δ,K v δ/\∀ U : PV->Dl->Prop,U v δ->c/\F U:=by
 obtain⟨v,δ,h1,h2⟩:=h;exact⟨v,δ,h1,λU hk=>⟨h0,h2 U hk⟩⟩
theorem aaW {P:Program}{T:Tab}{o:Op}{ps:List PV}{lk:Nat->Option mP}{id:Nat}{K:PV->Dl->Prop}(hq:isQ o=true)(h:oO T (jb.jJ P T) o ps lk id K) :
  ∃ v δ,K v δ/\∀ I : PV->Dl->Prop,I v δ->oO T (jb.jJ P T) o ps lk id I:=by
 cases o
 case move x=>exact⟨_,_,h,λ_ hk=>hk⟩
 case assign x=>exact⟨_,_,h,λ_ hk=>hk⟩
 case pick c a b =>
  simp only[oO] at h |-
  split at h
  exact⟨_,_,h,λ_ hk=>hk⟩
  exact⟨_,_,h,λ_ hk=>hk⟩
  exact h.elim
 case nilCheck x =>
  simp only[oO] at h |-
  split at h
  all_goals first|exact⟨_,_,h,λ_ hk=>hk⟩|exact h.elim
 case extract t i =>
  simp only[oO] at h |-
  split at h
  exact fU
  exact h.elim
 case convert s d x =>
  simp only[oO] at h |-
  split at h
  split at h
  obtain⟨h1,b,h2,U⟩:=h;exact⟨_,_,U,λ_ hk=>⟨h1,b,h2,hk⟩⟩
  exact h.elim
  split at h
  exact⟨_,_,h.2,λ_ hk=>⟨h.1,hk⟩⟩
  exact h.elim
  ·split at h
   all_goals first|exact⟨_,_,h,λ_ hk=>hk⟩|exact h.elim
  exact h.elim
 case makeFunc fn first cap =>
  cases fn
  case func f =>
   simp only[oO] at h |-
   split at h
   all_goals first|exact⟨_,_,h,λ_ hk=>hk⟩|exact h.elim
  all_goals exact dN
 case unOp op t x =>
  cases op
  case not =>
   simp only[oO] at h |-
   split at h
   all_goals first|exact⟨_,_,h,λ_ hk=>hk⟩|exact h.elim
  case neg =>
   simp only[oO] at h |-
   split at h
   all_goals first|exact⟨_,_,h,λ_ hk=>hk⟩|exact h.elim
  all_goals exact dN
 case fieldAddr t x f =>
  simp only[oO] at h |-
  split at h
  split at h
  simp only[JC] at h |-;obtain⟨h0,h⟩:=h
  split at h
  exact⟨_,_,h,λ_ hk=>⟨h0,hk⟩⟩
  exact⟨_,_,h,λ_ hk=>⟨h0,hk⟩⟩
  exact⟨_,_,h,λ_ hk=>⟨h0,hk⟩⟩
  exact⟨_,_,h.2,λ_ hk=>⟨h0,h.1,hk⟩⟩
  exact h.elim
  exact h.elim
  exact h.elim
 case field t x f =>
  simp only[oO] at h |-
  split at h
  split at h
  split at h
  simp only[JC] at h |-;obtain⟨v,h1,h2⟩:=wU h.2;exact⟨v,_,h1,λ_ hk=>⟨h.1,h2 _ hk⟩⟩
  exact h.elim
  exact h.elim
  exact h.elim
 case load t x =>
  simp only[oO] at h |-
  split at h
  split at h
  split at h
  obtain⟨v,h1,h2⟩:=wU h;exact⟨v,_,h1,λ_ hk=>h2 _ hk⟩
  exact h.elim
  split at h
  exact gm
  exact gm
  simp only[jb.jJ] at h |-;obtain⟨h0,h⟩:=h;obtain⟨v,h1,h2⟩:=wU h;exact⟨v,_,h1,λ_ hk=>⟨h0,h2 _ hk⟩⟩
  exact h.elim
  split at h
  simp only[jb.jJ,JC] at h |-;obtain⟨row,h0,h⟩:=h
  split at h
  rename_i h' g es C;obtain⟨U,J,er,h5,h⟩:=h;obtain⟨v,h1,h2⟩:=wU h;refine⟨v,_,h1,λ_ hk=>⟨row,h0,?_⟩⟩;rw[C];exact⟨U,J,er,h5,h2 _ hk⟩
  exact h.elim
  exact h.elim
  obtain⟨v,h1,h2⟩:=wU h;exact⟨v,_,h1,λ_ hk=>h2 _ hk⟩
  exact h.elim
  exact h.elim
 case binOp op t x y u =>
  have hn:V3 y=false:=by
   cases hn:V3 y with
   | true=>simp only[isQ,hn] at hq;cases hq
   | false=>rfl
  simp only[oO] at h |-;rw[hn] at h |-;simp only at h |-
  split at h
  obtain⟨v,h1,h2⟩:=adf h;exact⟨v,_,h1,λ_ hk=>h2 _ hk⟩
  exact h.elim
 case indexAddr t x i =>
  simp only[oO] at h |-
  split at h
  split at h
  simp only[JC] at h |-;obtain⟨h0,j,row,h1,h2,h⟩:=h;exact⟨_,_,h,λ_ hk=>⟨h0,j,row,h1,h2,hk⟩⟩
  split at h
  exact fV
  exact fV
  exact fV
  exact h.elim
  exact fV
  exact h.elim
  simp only[JC] at h |-;obtain⟨h0,h⟩:=h
  split at h
  obtain⟨h1,h⟩:=h
  split at h
  exact⟨_,_,h,λ_ hk=>⟨h0,h1,hk⟩⟩
  exact⟨_,_,h,λ_ hk=>⟨h0,h1,hk⟩⟩
  exact⟨_,_,h.2,λ_ hk=>⟨h0,h1,h.1,hk⟩⟩
  exact h.elim
  obtain⟨j,h1,h2,h⟩:=h
  split at h
  exact⟨_,_,h,λ_ hk=>⟨h0,j,h1,h2,hk⟩⟩
  exact⟨_,_,h,λ_ hk=>⟨h0,j,h1,h2,hk⟩⟩
  exact⟨_,_,h.2,λ_ hk=>⟨h0,j,h1,h2,h.1,hk⟩⟩
  exact h.elim
  exact h.elim
  exact h.elim
 case index t x i =>
  simp only[oO] at h |-
  split at h
  simp only[jb.jJ] at h |-;obtain⟨j,c,h1,h2,h⟩:=h;exact⟨_,_,h,λ_ hk=>⟨j,c,h1,h2,hk⟩⟩
  simp only[JC] at h |-;obtain⟨h0,j,h1,h2,h⟩:=h;obtain⟨v,U,J⟩:=wU h;exact⟨v,_,U,λ_ hk=>⟨h0,j,h1,h2,J _ hk⟩⟩
  exact h.elim
 case build t parts =>
  simp only[oO] at h |-
  split at h
  simp only[JC] at h |-;obtain⟨h0,h⟩:=h
  split at h
  exact⟨_,_,h,λ_ hk=>⟨h0,hk⟩⟩
  exact h.elim
  simp only[JC] at h |-;obtain⟨h0,h⟩:=h
  split at h
  exact⟨_,_,h,λ_ hk=>⟨h0,hk⟩⟩
  exact h.elim
  exact h.elim
 case call c =>
  obtain⟨callee,args,ts⟩:=c;cases callee
  case builtin b =>
   simp only[oO] at h |-
   split at h
   split at h
   exact⟨_,_,h,λ_ hk=>hk⟩
   exact h.elim
   split at h
   exact⟨_,_,h,λ_ hk=>hk⟩
   exact h.elim
   split at h
   exact⟨_,_,h,λ_ hk=>hk⟩
   exact h.elim
   split at h
   exact⟨_,_,h,λ_ hk=>hk⟩
   exact h.elim
   split at h
   exact fU
   split at h
   exact fU
   exact h.elim
   split at h
   exact fU
   split at h
   exact fU
   exact h.elim
   exact fK
   exact fK
   exact h.elim
  all_goals exact fK
 case slice t x lo hi mx =>
  simp only[oO] at h |-
  split at h
  all_goals repeat' (first
   | exact h.elim
   | exact⟨_,_,h,λ_ hk=>hk⟩
   | (obtain⟨i,j,h1,h2,U,J,h5⟩:=h;exact⟨_,_,h5,λ_ hk=>⟨i,j,h1,h2,U,J,hk⟩⟩)
   | (split at h)
   | (simp only[JC] at h |-;refine RX h.1 ?_;replace h:=h.2)
   | (refine RX h.1 ?_;replace h:=h.2))
 all_goals exact fK
end Go.Pv
namespace Go.Pv
open Go
def Eqv (p q:PV):Prop:=∀ w Y σ v,Rep w Y σ p v↔Rep w Y σ q v
theorem Eqv.refl (p:PV):Eqv p p:=λ_ _ _ _=>Iff.rfl
theorem Eqv.symm {p q:PV}(h:Eqv p q):Eqv q p:=λw Y σ v=>(h w Y σ v).symm
theorem Eqv.trans {p q r:PV}(h:Eqv p q)(k:Eqv q r):Eqv p r:=λw Y σ v=>(h w Y σ v).trans (k w Y σ v)
theorem Eqv.bool (b:Bool):Eqv (.sb b) (.bool b):=λw Y σ v=>by simp[Rep]
def zI (ps qs:List PV):Prop:=ps.length=qs.length/\∀ t,Eqv (jD ps t) (jD qs t)
theorem zI.refl (ps:List PV):zI ps ps:=⟨rfl,λ_=>Eqv.refl _⟩
theorem zI.trans {ps qs rs:List PV}(h:zI ps qs)(k:zI qs rs):zI ps rs:=⟨h.1.trans k.1,λt=>(h.2 t).trans (k.2 t)⟩
theorem zI.symm {ps qs:List PV}(h:zI ps qs):zI qs ps:=⟨h.1.symm,λt=>(h.2 t).symm⟩
theorem xJ (l:List PV)(d t:Nat)(v:PV):jD (oq l d v) t=if d=t/\d<l.length then v else jD l t:=by
 rw[BO,rq,BO,List.getD_eq_getElem?_getD,List.getD_eq_getElem?_getD,List.getElem?_set]
 by_cases h:d=t
 subst h
 by_cases hl:d<l.length
 simp[hl]
 simp[hl]
 simp[h]
theorem JQ (l:List PV)(d:Nat)(v:PV):(oq l d v).length=l.length:=by rw[rq];simp
theorem xK {l:List PV}{t:Nat}(h:l.length<=t):jD l t=.undef:=by rw[BO,List.getD_eq_getElem?_getD,List.getElem?_eq_none h];rfl
theorem gV.eqv {w:World}{Y:Nat->Prop}{σ:Sg}:∀ {ps qs:List PV} {vs:List Value},zI ps qs->gV w Y σ ps vs->gV w Y σ qs vs
 | [],[],vs,_,h=>h
 | [],_::_,_,h,_=>by simp[zI] at h
 | _::_,[],_,h,_=>by simp[zI] at h
 | p::ps,q::qs,vs,h,hr=>by
  unfold gV at hr |-;obtain⟨v,U,e,h1,h2⟩:=hr;refine⟨v,U,e,(h.2 0 _ _ _ _).1 h1,gV.eqv ⟨by simpa using h.1,λt=>h.2 (t+1)⟩ h2⟩
theorem SW.eqv {T:Tab}{C:Ctx T}{w:World}{Y:Nat->Prop}{σ:Sg}{ps qs:List PV}{vs:List Value}{st:St}{n:Nat}(H:SW C w Y σ ps vs st n)(h:zI ps qs):SW C w Y σ qs vs st n :=
 H.rP (H.vals.eqv h)
def zW (ps:List PV):Option Nat->PV->List PV
 | none,_=>ps
 | some d,v=>oq ps d v
theorem Oi (E:Env)(d:Option Nat)(v:PV):qf E d v=⟨zW E.tmps d v,E.st,E.next⟩:=by cases d<;>rfl
theorem uZ (ps:List PV)(d:Option Nat)(v:PV):(zW ps d v).length=ps.length:=by cases d<;>simp[zW,JQ]
theorem BU {ps:List PV}{d:Option Nat}{v:PV}{t:Nat}(h:d≠some t):jD (zW ps d v) t=jD ps t:=by
 cases d with
 | none=>rfl
 | some d=>simp only[zW,xJ];rw[if_neg];rintro⟨rfl,_⟩;exact h rfl
theorem SW.zW {T:Tab}{C:Ctx T}{w:World}{Y:Nat->Prop}{σ:Sg}{ps:List PV}{a:Act}{st:St}{n:Nat}(H:SW C w Y σ ps a.tmps.toList st n){v:PV}{cv:Value}(hv:Rep w Y σ v cv)(d:Option Nat) :
  SW C w Y σ (zW ps d v) (a.put d cv).tmps.toList st n:=by
 cases d with
 | none=>exact H
 | some d =>
  refine (H.rP ?_);simp only[Act.put,Pv.zW,Array.toList_setIfInBounds];exact gV.set hv _ _ _ H.vals
theorem put_defers (a:Act)(d:Option Nat)(v:Value):(a.put d v).defers=a.defers:=by cases d<;>rfl
section
variable {P:Program}{T:Tab}
def UL (P:Program)(T:Tab)(all:Array Oper)(o:Oper)(er:List PV)(lk:Nat->Option mP)(id:Nat)(v:PV)(δ:Dl)(big:Bool):Prop :=
 ∀ (C:Ctx T) ps Y σ (a:Act) w st n,(∀ t∈o.looksAt all,jD ps t=jD er t)->SW C w Y σ ps a.tmps.toList st n->DF C a->(∀ b x,lk b=some x->jr st b=some x) ->
  (big=true->(∀ b,id<=b->b<id+32->σ b=none)/\T.pG<=id/\id+32<=n)->∀ next Q,(∀ cv w' Y' σ',SW C w' Y' σ' ps a.tmps.toList (jL δ st) n->(∀ b,(b<id\/id+32<=b)->σ' b=σ b)->(big=false->σ'=σ)->Rep w' Y' σ' v cv->next (a.put o.dst cv) w')->o.wp P a w next Q
def aaX (T:Tab)(all:Array Oper)(o:Oper)(er:List PV)(wb:Bool):Prop :=
 ∀ (C:Ctx T) ps Y σ (a:Act) w st n,(∀ t∈o.looksAt all,jD ps t=jD er t)->SW C w Y σ ps a.tmps.toList st n->DF C a->Region.wanted o (yielded all a.tmps)=wb
theorem TG {all:Array Oper}{o:Oper}{er:List PV}{wb:Bool}
  (h:∀ ps st n,(∀ t∈o.looksAt all,jD ps t=jD er t)->gd (jb.jJ P T) all o.guard ⟨ps,st,n⟩ (λ_=>wb=true) (λ_=>wb=false)):aaX T all o er wb:=by
 intro C ps Y σ a w st n hl H U;obtain⟨J,_,hh⟩:=Yv (h ps st n hl) (C:=C) (a:=a) (w:=w) ⟨⟨Y,σ,H⟩,U⟩;rcases hh with ⟨h1,h2⟩|⟨h1,h2⟩
 rw[h1,h2]
 rw[h1,h2]
theorem adg {all:Array Oper}{o:Oper}{E:Env}{run skip:Env->Prop}(h:gd (jb.jJ P T) all o.guard E run skip) :
  ∃ J wb,zI E.tmps J.tmps/\J.st=E.st/\J.next=E.next/\aaX T all o J.tmps wb/\(wb=true->run J)/\(wb=false->skip J):=by
 unfold gd at h
 split at h
 rename_i g;exact⟨E,true,zI.refl _,rfl,rfl,TG (P:=P) λps _ _ _=>by simp[gd,g],λ_=>h,λe=>by cases e⟩
 ·rename_i j want g
  split at h
  ·rename_i oj hj
   split at h
   ·rename_i d hd
    have I:d∈o.looksAt all:=by
     unfold Oper.looksAt;refine List.mem_append_right _ ?_;simp[g,hj,hd]
    have sem:∀ (J:Env) b,jD J.tmps d=.bool b->aaX T all o J.tmps (b==want):=by
     intro J b hb;refine TG (P:=P) λps _ _ C=>?_;have:=C d I;rw[hb] at this;simp only[gd,g,hj,hd,this];cases b<;>cases want<;>rfl
    split at h
    ·rename_i e;refine⟨E,true==want,zI.refl _,rfl,rfl,sem E true e,?_,?_⟩<;>intro U<;>cases want<;>first|(cases U;done)|exact h
    ·rename_i e;refine⟨E,false==want,zI.refl _,rfl,rfl,sem E false e,?_,?_⟩<;>intro U<;>cases want<;>first|(cases U;done)|exact h
    ·rename_i b e
     have hlt:d<E.tmps.length:=by
      by_cases hh:d<E.tmps.length
      exact hh
      rw[xK (Nat.le_of_not_lt hh)] at e;cases e
     have heq:zI E.tmps (qf E (some d) (.bool b)).tmps:=by
      refine⟨by simp[qf,JQ],λt=>?_⟩;simp only[qf,xJ]
      split
      rename_i hh;rw[<- hh.1,e];exact Eqv.bool b
      exact Eqv.refl _
     have hget:jD (qf E (some d) (.bool b)).tmps d=.bool b:=by simp[qf,xJ,hlt]
     obtain⟨h1,h2⟩:=h;refine⟨qf E (some d) (.bool b),b==want,heq,rfl,rfl,sem _ b hget,?_,?_⟩
     ·intro U
      cases b with
      | true=>have h1:=h1 rfl;cases want<;>first|(cases U;done)|exact h1
      | false=>have h2:=h2 rfl;cases want<;>first|(cases U;done)|exact h2
     ·intro U
      cases b with
      | true=>have h1:=h1 rfl;cases want<;>first|(cases U;done)|exact h1
      | false=>have h2:=h2 rfl;cases want<;>first|(cases U;done)|exact h2
    rename_i e;refine⟨E,false,zI.refl _,rfl,rfl,TG (P:=P) λps _ _ C=>?_,(λU=>by cases U),λ_=>h⟩;have:=C d I;rw[e] at this;simp only[gd,g,hj,hd,this]
    exact h.elim
   exact h.elim
  exact h.elim
theorem xM {all:Array Oper}{o:Oper}{er ps:List PV}(h:∀ t∈o.looksAt all,jD ps t=jD er t):∀ x∈o.op.operands,qY T ps x=qY T er x:=by
 intro x hx
 cases x with
 | tmp t =>
  simp only[qY];refine h t ?_;unfold Oper.looksAt;exact List.mem_append_left _ (List.mem_filterMap.2 ⟨.tmp t,by simpa using hx,rfl⟩)
 | _=>rfl
theorem agi {T:Tab}{S:jb}{o:Op}{ps:List PV}{lk:Nat->Option mP}{id id' : Nat}{K:PV->Dl->Prop}(hq:isQ o=true):oO T S o ps lk id K=oO T S o ps lk id' K:=by
 cases o
 case call c =>
  obtain⟨callee,args,ts⟩:=c;cases callee
  case builtin b =>
   cases b
   case len=>simp only[oO];generalize evA T ps args.toList=as;generalize ts.toList=tl;rcases as with _|⟨a,_|⟨b,_|⟨c,as⟩⟩⟩<;>rcases tl with _|⟨t,_|⟨u,tl⟩⟩<;>first|rfl|(cases a<;>first|rfl|(cases b<;>rfl))
   case min=>simp only[oO];generalize evA T ps args.toList=as;generalize ts.toList=tl;rcases as with _|⟨a,_|⟨b,_|⟨c,as⟩⟩⟩<;>rcases tl with _|⟨t,_|⟨u,tl⟩⟩<;>first|rfl|(cases a<;>first|rfl|(cases b<;>rfl))
   case max=>simp only[oO];generalize evA T ps args.toList=as;generalize ts.toList=tl;rcases as with _|⟨a,_|⟨b,_|⟨c,as⟩⟩⟩<;>rcases tl with _|⟨t,_|⟨u,tl⟩⟩<;>first|rfl|(cases a<;>first|rfl|(cases b<;>rfl))
   all_goals (simp[isQ] at hq)
  all_goals simp[isQ] at hq
 case makeFunc fn first cap=>cases fn<;>rfl
 case unOp op t x=>cases op<;>rfl
 all_goals first|rfl|(simp[isQ] at hq)
theorem adh (hT:jv P T)(hW:Bg P){all:Array Oper}{o:Oper}{ps:List PV}{lk:Nat->Option mP}{id i:Nat}{K:PV->Prop}(hq:isQ o.op=true)(h:oO T (jb.jJ P T) o.op ps lk id (acK K)) :
  ∃ v,UL P T all o ps lk i v [] false/\K v:=by
 obtain⟨v,δ,hK,hF⟩:=aaW hq h
 cases δ with
 | cons x δ=>exact hK.elim
 | nil =>
  refine⟨v,?_,hK⟩;intro C qs Y σ a w st n hl H hd g _ next Q J
  have h2:=hF (λv' δ'=>v'=v/\δ'=[]) ⟨rfl,rfl⟩;rw[<- Qg (xM hl),agi (id':=n) hq] at h2;obtain⟨v',δ',cv,w',Y',σ',⟨rfl,rfl⟩,U,H',hv,I⟩:=yI hT hW H g ⟨H.next _ (Nat.le_refl _),H.fix.1⟩ h2
  have hσ:σ'=σ:=by
   funext b
   by_cases hb:b=n
   subst hb;rw[H.next _ (Nat.le_refl _)];exact H'.next _ (Nat.le_refl _)
   exact I b hb
  subst hσ;have:=J cv w' Y' σ' H' (λ_ _=>rfl) (λ_=>rfl) hv;unfold Oper.wp;rcases U with U|⟨U,rfl⟩
  rw[U];exact this
  rw[U];exact this
theorem JR {P:Program}{o:Oper}{f:Operand}{args:Array Operand}{ts:Array TypeId}{a:Act}{w:World}{k:Nat}{cs:List Value}(ho:o.op=.call { callee:=.value f,args,argTypes:=ts })
  (J:a.eval f=.func (.func k) #[] cs.toArray) (T:(callFunc k (args.toList.map a.eval++cs).toArray).run P w=.ok (.enter k (args.toList.map a.eval++cs).toArray) w) :
  (execOp a.eval o).run P w=.ok (.enter k (args.toList.map a.eval++cs).toArray) w:=by
 have U:args.map a.eval=(args.toList.map a.eval).toArray:=by apply Array.ext';simp
 simp only[execOp,ho,resolve,J,Deferred.ofValue,Sem.run_bind,Sem.run_pure,Result.andThen,invoke,U];have:(#[]++(args.toList.map a.eval).toArray++cs.toArray)=(args.toList.map a.eval++cs).toArray:=by apply Array.ext';simp
 rw[this];exact T
theorem SW.ae5 {C:Ctx T}{w:World}{Y:Nat->Prop}{σ:Sg}{ps:List PV}{vs:List Value}{st:St}{n:Nat}(H:SW C w Y σ ps vs st n)(arr:Array Value)(ty:TypeId) :
  SW C (w.alloc (.cells arr ty)) Y σ ps vs st n/\∀ p v σ',Rep w Y σ' p v->Rep (w.alloc (.cells arr ty)) Y σ' p v:=by
 have heap:(w.alloc (.cells arr ty)).heap=w.heap.push (.cells arr ty):=rfl
 have hold:∀ k,k<w.heap.size->(w.alloc (.cells arr ty)).heap[k]?=w.heap[k]?:=by
  intro k hk;rw[heap,Array.getElem?_push,if_neg ah]
 have hsz:(w.alloc (.cells arr ty)).heap.size=w.heap.size+1:=by rw[heap];simp
 exact⟨H.aeR ⟨rfl,rfl,rfl,by omega,hold⟩,λp v σ' h=>Rep.keep p ⟨λk hk _=>hold k hk,λ_ _ h=>h,by omega,ou.refl _⟩ v h⟩
theorem Rz (hT:jv P T){all:Array Oper}{o:Oper}{ps:List PV}{lk:Nat->Option mP}{id i:Nat}{K:PV->Prop}{t:TypeId}{len:Nat}{parts:Array (Nat×Operand)}(ho:o.op=.buildSlice t len parts)(h:opQ T (jb.jJ P T) (.buildSlice t len parts) ps lk id K) :
  ∃ v,UL P T all o ps SK i v [] false/\K v:=by
 simp only[opQ] at h
 split at h
 rename_i agg size z0 plain esz bytes z e;obtain⟨et,hu,rfl,_,hz⟩:=nM hT e
 cases hb:(lQ (P.cellsOf et)&&Nat.beq (oG z) (P.cellsOf et)&&Nat.ble (len*P.cellsOf et) 16777216&&DJ (evP T ps parts.toList)) with
 | false=>rw[hb] at h;exact h.elim
 | true =>
  rw[hb] at h;simp only[cond_true] at h;simp only[Bool.and_eq_true,vC] at hb;obtain⟨⟨⟨I,hb2⟩,hb3⟩,hb4⟩:=hb
  have hpos:0<P.cellsOf et:=by
   rcases Nat.eq_zero_or_pos (P.cellsOf et) with h0|h0
   rw[h0] at I;simp[lQ] at I
   exact h0
  have hzl:=Nat.eq_of_beq_eq_true hb2;have hle:=Nat.le_of_ble_eq_true hb3
  split at h
  rename_i cs O
  split at h
  rename_i cs0 U;obtain⟨cs',hl2,hc2,hw2,h,_⟩:=zS h;refine⟨_,?_,h⟩;intro C qs Y σ a w st n hl H hd _ _ next Q J
  have hev:=xM (T:=T) hl;rw[ho] at hev;have hP:=KU (T:=T) (ps:=qs) (qs:=ps) parts.toList λx hx=>hev x.2 bV;rw[<- hP] at O hb4;obtain⟨vcs,hrep,hvl,hrun⟩:=vU hT H ho hu hz I hzl hle hb4 O;have hLk:Lk (λ_=>none) st:=λb ro sz rows h=>by cases h
  obtain⟨Y1,H1,g,hy1⟩:=Ey cs cs0 [] U Y st H hLk _ hrep;have g:=hw2 _ _ _ _ g;obtain⟨H2,hk2⟩:=H1.ae5 vcs et;have hcsl:cs'.length=len*P.cellsOf et:=by rw[hl2,RP _ _ _ U,Ia _ _ _ _ O,wX,hzl]
  unfold Oper.wp;rw[hrun];refine J _ _ Y1 σ H2 (λ_ _=>rfl) (λ_=>rfl) ?_;unfold Rep;refine⟨_,len,len,rfl,by rw[wu],Nat.le_refl _,λ_=>rfl,.inr ⟨w.heap.size,0,rfl,⟨?_,λhy=>?_⟩,?_⟩⟩
  show w.heap.size<(w.heap.push _).size;simp
  have:=H1.vw _ hy;omega
  refine jA.chunks len cs' 0 ?_ (hc2 (N8 _ _ _ U).1) ah;rw[jA.iff];intro j p hj;obtain⟨v,hv,hp'⟩:=g.get? hj;refine⟨v,?_,hk2 _ _ _ hp'⟩;rw[cell_of_block (arr:=vcs) (ty:=et) (by show (w.heap.push _)[w.heap.size]?=_;simp)]
  simpa using hv
  exact h.elim
  exact h.elim
 exact h.elim
theorem ae6 (hT:jv P T)(hW:Bg P){all:Array Oper}{o:Oper}{ps:List PV}{lk:Nat->Option mP}{id:Nat}{K:PV->Prop}(i:Nat)(h:opQ T (jb.jJ P T) o.op ps lk id K) :
  ∃ v,UL P T all o ps lk i v [] false/\K v:=by
 have h0:=h;unfold opQ at h
 split at h
 rename_i f args ts ho
 split at h
 rename_i k caps O
 have main:∀ v,(∀ (C:Ctx T) Y σ w qs vs U st n,(∀ b x,lk b=some x->jr st b=some x)->SW C w Y σ qs vs st n->gV w Y σ (EL (T.hid k) (uX (evA T ps args.toList) caps)) U->Oc P k C Y σ w U qs vs st n v)->UL P T all o ps lk i v [] false:=by
  intro v hsem C qs Y σ a w st n hl H hd I _ next Q J
  have hev:=xM (T:=T) hl;rw[ho] at hev;have hfv:=kX H f;rw[hev f dI,O] at hfv;unfold Rep at hfv;obtain⟨cs,ef,hcs⟩:=hfv;have g:=vF H args.toList;rw[BB (ps:=qs) (qs:=ps) args.toList λx hx=>hev x bF] at g;have hall:=Eu (T.hid k) _ _ (gV.app _ _ _ _ g hcs);obtain⟨hent,hcall⟩:=hsem C Y σ w qs a.tmps.toList _ st n I H (by simpa using hall);unfold Oper.wp;rw[JR ho ef hent];refine Calls.mono hcall λe w' hh=>?_;obtain⟨cv,rfl,H',hv⟩:=hh;exact J cv w' Y σ H' (λ_ _=>rfl) (λ_=>rfl) hv
 unfold acH at h
 split at h
 rename_i as hm;obtain⟨v,hF,hK⟩:=h;refine⟨v,main v λC Y σ w qs vs U st n I H hr=>RV H (λb x hb=>?_) hm hr hF,hK⟩
 split at hb
 rename_i e;cases hb;exact⟨I _ _ e,rfl⟩
 rename_i e;cases hb;exact⟨I _ _ e,rfl⟩
 cases hb
 split at h
 rename_i as hm;obtain⟨v,hF,O,hK⟩:=h;exact⟨v,main v λC Y σ w qs vs U st n I H hr=>Qa H I hm hr hF O,hK⟩
 exact h.elim
 exact h.elim
 rename_i t len parts ho;rw[ho] at h0;obtain⟨v,h1,h2⟩:=Rz hT (all:=all) (i:=i) ho h0;exact⟨v,λC qs Y σ a w st n hl H hd _ hb next Q J=>h1 C qs Y σ a w st n hl H hd (λ_ _ h=>by cases h) hb next Q J,h2⟩
 rw[JC] at h;exact adh hT hW h.1 h.2
theorem Yw (hT:jv P T)(hW:Bg P){all:Array Oper}{o:Oper}{lk:Nat->Option mP}{E:Env}{K:Env->Prop}(i:Nat)(h:X9 T (jb.jJ P T) o lk E K) :
  ∃ J v,zI E.tmps J.tmps/\J.st=E.st/\J.next=E.next/\UL P T all o J.tmps lk i v [] false/\K (qf J o.dst v):=by
 unfold X9 at h
 have gen:(opQ T (jb.jJ P T) o.op E.tmps lk E.next λv=>K (qf E o.dst v))->∃ J v,zI E.tmps J.tmps/\J.st=E.st/\J.next=E.next/\UL P T all o J.tmps lk i v [] false/\K (qf J o.dst v):=λh=>by
  obtain⟨v,h1,h2⟩:=ae6 hT hW (all:=all) i h;exact⟨E,v,zI.refl _,rfl,rfl,h1,h2⟩
 split at h
 rename_i c x y ho
 split at h
 rename_i t hc
 have hlt:c<E.tmps.length:=by
  by_cases hh:c<E.tmps.length
  exact hh
  rw[xK (Nat.le_of_not_lt hh)] at hc;cases hc
 have heq:zI E.tmps (qf E (some c) (.bool t)).tmps:=by
  refine⟨by simp[qf,JQ],λu=>?_⟩;simp only[qf,xJ]
  split
  rename_i hh;rw[<- hh.1,hc];exact Eqv.bool t
  exact Eqv.refl _
 have hget:jD (qf E (some c) (.bool t)).tmps c=.bool t:=by simp[qf,xJ,hlt]
 have evq:∀ z:Operand,Eqv (qY T (qf E (some c) (.bool t)).tmps z) (qY T E.tmps z):=by
  intro z
  cases z with
  | tmp u=>exact (heq.2 u).symm
  | _=>exact Eqv.refl _
 have hsem:UL P T all o (qf E (some c) (.bool t)).tmps lk i (if t then qY T E.tmps x else qY T E.tmps y) [] false:=by
  intro C qs Y σ a w st n hl H hd _ _ next Q g
  have I:=xM (T:=T) hl;rw[ho] at I;have U:=kX H (.tmp c);rw[I (.tmp c) eQ] at U;simp only[qY,hget] at U;have U:=yz U
  have hrun:(execOp a.eval o).run P w=.ok (.value (if t then a.eval x else a.eval y)) w:=by
   simp[execOp,ho,U,asBool]
  unfold Oper.wp;rw[hrun];refine g _ _ Y σ H (λ_ _=>rfl) (λ_=>rfl) ?_;have hx:=kX H x;have hy:=kX H y;rw[I x eQ] at hx;rw[I y eQ] at hy
  cases t with
  | true=>exact (evq x _ _ _ _).1 hx
  | false=>exact (evq y _ _ _ _).1 hy
 refine⟨_,_,heq,rfl,rfl,hsem,?_⟩
 cases t with
 | true=>exact h.1 rfl
 | false=>exact h.2 rfl
 rw[<- ho] at h;exact gen h
 exact gen h
theorem D5 {size:Nat}{row:List PV}{c:Nat}{v:PV}{K:List PV->Prop}(h:oP size row c v K):∃ r,K r/\∀ U : List PV->Prop,U r->oP size row c v U:=by
 unfold oP at h |-;simp only[JC] at h |-;exact⟨_,h.2,λU hk=>⟨h.1,hk⟩⟩
theorem Yx {o:Op}{ps:List PV}{lk:Nat->Option mP}{id:Nat}{K:PV->Dl->Prop}(hc:II T o=1\/II T o=2)(hn:ndO T ps lk o=false)(h:oO T (jb.jJ P T) o ps lk id K) :
  ∃ v δ,K v δ/\∀ I : PV->Dl->Prop,I v δ->oO T (jb.jJ P T) o ps lk id I:=by
 cases o
 case binOp op t x y u =>
  simp only[II,isQ] at hc;cases hy:V3 y<;>rw[hy] at hc<;>simp at hc
 case alloc t =>
  simp only[oO] at h |-
  split at h
  all_goals first|exact⟨_,_,h,λ_ hk=>hk⟩|exact h.elim
 case box t x =>
  simp only[oO] at h |-
  split at h
  exact h.elim
  exact⟨_,_,h,λ_ hk=>hk⟩
 case makeSlice t x y =>
  simp only[oO] at h |-
  split at h
  simp only[JC] at h |-;obtain⟨h0,j,h1,h2,U,J,h5⟩:=h;obtain⟨z2,_,_,_,h5,_,h6⟩:=aaQ h5;exact⟨_,_,h5,λ_ hk=>⟨h0,j,h1,h2,U,J,h6 _ hk⟩⟩
  exact h.elim
 case store t x y =>
  simp only[oO] at h |-
  split at h
  split at h
  split at h
  obtain⟨r,h1,h2⟩:=D5 h;exact⟨_,_,h1,λ_ hk=>h2 _ hk⟩
  exact h.elim
  split at h
  split at h
  rename_i sz rows hb _ cs δ hp
  cases C:X5 _ δ with
  | true=>rw[C] at h;exact h.elim
  | false =>
   rw[C] at h;simp only[cond_false] at h |-;obtain⟨cs2,_,_,_,⟨row,h0,h⟩,h9⟩:=zS h;obtain⟨r',h1,h2⟩:=D5 h;exact⟨_,_,h1,λ_ hk=>h9 _ ⟨row,h0,h2 _ hk⟩⟩
  exact h.elim
  rename_i e1 _ _ _ g;simp[ndO,e1,g] at hn
  obtain⟨h0,h⟩:=h;obtain⟨r,h1,h2⟩:=D5 h;exact⟨_,_,h1,λ_ hk=>⟨h0,h2 _ hk⟩⟩
  exact h.elim
  rename_i e1;simp[ndO,e1] at hn
  exact h.elim
  exact h.elim
 case call c =>
  obtain⟨callee,args,ts⟩:=c;cases callee
  case builtin b =>
   cases b
   case append =>
    simp only[oO] at h |-
    split at h
    all_goals repeat' (first
     | contradiction
     | exact h.elim
     | exact⟨_,_,h,λ_ hk=>hk⟩
     | (obtain⟨h1,h2,U⟩:=h;exact⟨_,_,U,λ_ hk=>⟨h1,h2,hk⟩⟩)
     | (split at h)
     | (simp only[JC] at h |-;refine RX h.1 ?_;replace h:=h.2)
     | (obtain⟨row,hr,h⟩:=h;refine ae4 hr ?_)
     | (obtain⟨h1,h2,U,J,h5⟩:=h;exact⟨_,_,h5,λ_ hk=>⟨h1,h2,U,J,hk⟩⟩)
     | (refine RX h.1 ?_;replace h:=h.2))
   all_goals (rcases hc with hc|hc<;>simp[II,isQ] at hc)
  all_goals first|(simp only[oO] at h;done)|(simp only[oO] at h;exact h.elim)|(rcases hc with hc|hc<;>simp[II,isQ] at hc)
 all_goals (rcases hc with hc|hc<;>simp[II,isQ] at hc)
theorem GY {size:Nat}{row:List PV}{c:Nat}{v:PV}{K:List PV->Prop}(h:oP size row c v K):∃ r,K r:=by
 obtain⟨r,h,_⟩:=D5 h;exact⟨r,h⟩
theorem adi {o:Op}{ps:List PV}{lk:Nat->Option mP}{id:Nat}{K:PV->Dl->Prop}(hn:ndO T ps lk o=true)(h:oO T (jb.jJ P T) o ps lk id K):∃ v δ,K v δ:=by
 cases o
 case store t x y =>
  simp only[oO] at h
  split at h
  split at h
  rename_i e1;simp[ndO,e1] at hn
  rename_i b r c e1
  split at h
  rename_i U;simp[ndO,e1,U] at hn
  split at h
  split at h
  revert h;generalize (_&&_:Bool)=bb;intro h
  cases bb with
  | true=>exact h.elim
  | false =>
   obtain⟨row,_,h⟩:=h;obtain⟨r,h⟩:=GY (h ⟨0,0,0⟩);exact⟨_,_,h⟩
  exact h.elim
  split at h
  obtain⟨row,_,h⟩:=h;obtain⟨r,h⟩:=GY h;exact⟨_,_,h⟩
  exact h.elim
  rename_i U;simp[ndO,e1,U] at hn
  exact h.elim
  split at h
  split at h
  have J:=zS h;clear h;obtain⟨_,_,_,_,⟨row,_,h⟩,_⟩:=J
  split at h
  simp only[JC,jb.jJ] at h;obtain⟨_,_,er,_,h⟩:=h;obtain⟨r,h⟩:=GY h;exact⟨_,_,h⟩
  exact h.elim
  exact h.elim
  exact h.elim
  exact h.elim
  exact h.elim
 all_goals simp[ndO] at hn
theorem adk (hT:jv P T)(hW:Bg P){all:Array Oper}{o:Oper}{ps:List PV}{lk:Nat->Option mP}{id:Nat}{v:PV}{δ:Dl}(hF:∀ K' : PV->Dl->Prop,K' v δ->oO T (jb.jJ P T) o.op ps lk id K'):UL P T all o ps lk id v δ true:=by
 intro C qs Y σ a w st n hl H hd hlk hid next Q J
 obtain⟨h1,h2,h3⟩:=hid rfl;have h4:=hF (λv' g=>v'=v/\g=δ) ⟨rfl,rfl⟩;rw[<- Qg (xM hl)] at h4;obtain⟨v',g,cv,w',Y',σ',⟨rfl,rfl⟩,U,H',hv,I⟩:=yI hT hW H hlk ⟨h1 id (Nat.le_refl _) ah,h2⟩ h4;have hn:uz g n id<=n:=by cases g<;>simp[uz]<;>omega
 have:=J cv w' Y' σ' (H'.mono hn) (λb hb=>I b ah) (λe=>by cases e) hv;unfold Oper.wp;rcases U with U|⟨U,rfl⟩
 rw[U];exact this
 rw[U];exact this
theorem ZJ {S:jb}{o:Op}{ps:List PV}{lk:Nat->Option mP}{st:St}{id:Nat}{c2:Bool}{K:PV->Dl->Prop}(hn:∀ f args ts,o=.call { callee:=.value f,args:=args,argTypes:=ts }->False):opW T S o ps lk st id c2 K=oO T S o ps lk id K:=by
 unfold opW
 split
 rename_i f args ts;exact (hn f args ts rfl).elim
 rfl
theorem WA (f:Nat->Option Nat)(st1:St):∀ (l:List Nat) (i:Nat) (st:St),X8 f st1 i l st=jL (dlO f st1 i l) st
 | [],i,st=>rfl
 | b::l,i,st=>by simp only[X8,dlO,jL];exact WA f st1 l (i+1) _
theorem Nj (f:Nat->Option Nat){st st' : St}:∀ (ρ:List Nat) (i:Nat),(∀ b∈ρ,jr st b=jr st' b)->xZ f st i ρ=xZ f st' i ρ
 | [],i,_=>rfl
 | b::ρ,i,h=>by
  simp only[xZ];rw[h b aS,Nj f ρ (i+1) λc hc=>h c (by simp[hc])]
theorem Qh {st:St}:∀ (ρ:List Nat),aeJ st ρ=true->∀ b∈ρ,∃ x,jr st b=some x
 | [],_,b,h=>by cases h
 | c::ρ,h,b,hb=>by
  simp only[aeJ,Bool.and_eq_true] at h;rcases List.mem_cons.1 hb with rfl|hb
  have:=h.1
  cases hx:jr st b with
  | none=>rw[hx] at this;cases this
  | some x=>exact⟨x,rfl⟩
  exact Qh ρ h.2 b hb
theorem WB {o:Op}{ps:List PV}{lk:Nat->Option mP}{st:St}{id:Nat}{c2:Bool}{K:PV->Dl->Prop}(hc:II T o=1\/II T o=2)(hn:ndO T ps lk o=false)(h:opW T (jb.jJ P T) o ps lk st id c2 K) :
  ∃ v δ,K v δ/\∀ U : PV->Dl->Prop,U v δ->opW T (jb.jJ P T) o ps lk st id c2 U:=by
 by_cases hv:∃ f args ts,o=.call { callee:=.value f,args:=args,argTypes:=ts }
 obtain⟨f,args,ts,rfl⟩:=hv;unfold opW at h |-;simp only at h |-
 split at h
 rename_i k g O
 cases c2 with
 | false =>
  simp only at h
  split at h
  rename_i as hm;obtain⟨v,x,hF,J⟩:=h;refine⟨_,_,J,λU hk=>?_⟩;simp only[hm];exact⟨v,x,hF,hk⟩
  exact h.elim
 | true =>
  simp only at h;unfold SN at h
  split at h
  rename_i I;obtain⟨v,st1,n1,h0,hF,J⟩:=h
  split at J
  rename_i hb;refine⟨_,_,J,λU hk=>?_⟩;simp only;unfold SN;simp only[I];refine⟨v,st1,n1,h0,hF,?_⟩;simp only[hb];exact hk
  exact J.elim
  exact h.elim
 exact h.elim
 have C : ∀ f args ts,o=.call { callee:=.value f,args:=args,argTypes:=ts }->False:=λf args ts e=>hv ⟨f,args,ts,e⟩;rw[ZJ C] at h;obtain⟨v,δ,h1,h2⟩:=Yx hc hn h;exact⟨v,δ,h1,λU hk=>by rw[ZJ C];exact h2 U hk⟩
theorem adl (hT:jv P T)(hW:Bg P){all:Array Oper}{o:Oper}{ps:List PV}{lk:Nat->Option mP}{st:St}{id:Nat}{v:PV}{δ:Dl}{c2:Bool}(hst:c2=true->lk=jr st)(hF:∀ K' : PV->Dl->Prop,K' v δ->opW T (jb.jJ P T) o.op ps lk st id c2 K'):UL P T all o ps lk id v δ true:=by
 by_cases hv:∃ f args ts,o.op=.call { callee:=.value f,args:=args,argTypes:=ts }
 obtain⟨f,args,ts,ho⟩:=hv;intro C qs Y σ a w stn n hl H hd hlk hid next Q I
 obtain⟨g1,g2,g3⟩:=hid rfl;have J:=hF (λv' δ'=>v'=v/\δ'=δ) ⟨rfl,rfl⟩;rw[ho] at J;unfold opW at J;simp only at J
 split at J
 rename_i k caps O;have hev:=xM (T:=T) hl;rw[ho] at hev;have hfv:=kX H f;rw[hev f dI,O] at hfv;unfold Rep at hfv;obtain⟨cs,ef,hcs⟩:=hfv;have g:=vF H args.toList;rw[BB (ps:=qs) (qs:=ps) args.toList λx hx=>hev x bF] at g;have hall:=Eu (T.hid k) _ _ (gV.app _ _ _ _ g hcs)
 cases c2 with
 | false =>
  simp only at J
  split at J
  rename_i as hm;obtain⟨v0,x,hF0,rfl,rfl⟩:=J;have hr0:=Ob (P:=P) (T:=T) H.store (lk:=SK) (λb x h=>by cases h) (λ_ h=>h) (λb x l h=>by cases h) (λb sz rows hb=>by cases hb) hm hall;have hr1:gV w Y σ as _:=gV.keep as (σ:=iW) (σ':=σ) ⟨λ_ _ _=>rfl,λ_ _ h=>h,Nat.le_refl _,λb l h=>by simp[iW] at h⟩ _ hr0
  obtain⟨hent,U⟩:=Wx (E:=⟨qs,stn,id⟩) (ρ:=[]) (n0:=n) (N:=n) (v:=v0) (st1:=[(0,some x)]) (n1:=1) H rfl rfl rfl g2 (λb hb1 hb2=>by
   have:b=id:=by simp only[lh] at hb1 hb2;omega
   rw[this];exact g1 id (Nat.le_refl _) ah) ⟨by simp only[lh];omega,Nat.le_refl _⟩ hr1 hF0
  unfold Oper.wp;rw[JR ho ef hent];refine Calls.mono U λe w' hh=>?_;obtain⟨cv,Y',σ',rfl,H',hv',hoff⟩:=hh;exact I cv w' Y' σ' H' (λb hb=>hoff b (by simp only[lh];omega)) (λe=>by cases e) hv'
  exact J.elim
 | true =>
  simp only at J;unfold SN at J
  split at J
  rename_i hcnd;simp only[Bool.and_eq_true] at hcnd;obtain⟨c1,c2,c3⟩:=hcnd;obtain⟨v0,st1,n1,h0,hF0,hK⟩:=J
  split at hK
  rename_i hb;obtain⟨rfl,rfl⟩:=hK;have hb:=Nat.le_of_ble_eq_true hb;have hlk':=hlk;rw[hst rfl] at hlk'
  have hren:=Nj (st:=st) (st':=stn) (CQ (F6 (EL (T.hid k) (uX (evA T ps args.toList) caps)) st)) (F6 (EL (T.hid k) (uX (evA T ps args.toList) caps)) st) 0 λb hb=>by
   obtain⟨x,hx⟩:=Qh _ c3 b hb;rw[hx,hlk' b x hx]
  rw[hren] at h0 hF0;obtain⟨hent,U⟩:=Wx (E:=⟨qs,stn,id⟩) (n0:=n) (N:=n) (v:=v0) (st1:=st1) H c2 c1 h0 g2 (λb hb1 hb2=>g1 b hb1 (by simp only at hb2;omega)) ⟨by simp only;omega,Nat.le_refl _⟩ hall hF0;unfold Oper.wp;rw[JR ho ef hent];refine Calls.mono U λe w' hh=>?_;obtain⟨cv,Y',σ',rfl,H',hv',hoff⟩:=hh;refine I cv w' Y' σ' ?_ (λb hb'=>hoff b aC) (λe=>by cases e) hv';rw[<- WA];exact H'
  exact hK.elim
  exact J.elim
 exact J.elim
 have hv' : ∀ f args ts,o.op=.call { callee:=.value f,args:=args,argTypes:=ts }->False:=λf args ts e=>hv ⟨f,args,ts,e⟩;exact adk hT hW λK' hk=>by have:=hF K' hk;rw[ZJ hv'] at this;exact this
end
end Go.Pv
namespace Go.Pv
open Go
section
variable {P:Program}{T:Tab}
structure Rec where
 e1:List PV
 er:List PV
 lk:Nat->Option mP
 v:PV
 δ:Dl
 id:Nat
 big:Bool
 wb:Bool
 nd:Bool
def aaY (δ:Dl)(b:Nat):Prop:=∃ x,(b,x)∈δ
structure ZK (P:Program)(T:Tab)(all:Array Oper)(o:Oper)(r:Rec)(p:List PV)(st:St)(nx:Nat)(pend:List Nat):Prop where
 e1:zI p r.e1
 er:zI p r.er
 gd:aaX T all o r.e1 r.wb
 sem:r.wb=true->r.nd=false->UL P T all o r.er r.lk r.id r.v r.δ r.big
 ndw:r.nd=true->r.wb=true/\r.big=true
 skip:r.wb=false->r.v=.undef
 cls:(r.big=false/\r.δ=[]/\(r.wb=true->∀ b x,r.lk b=some x->wH T o=3/\b ∉ pend/\jr st b=some x)) \/
  (r.wb=true/\r.big=true/\r.id=nx/\wH T o=1/\(∃ x,r.δ=[(nx,some x)])/\r.lk=SK) \/
  (r.wb=true/\r.big=true/\r.id=nx/\wH T o=2/\(∀ b,aaY r.δ b->b<nx+32)/\r.lk=jr st)
def bump (b:Bool)(n:Nat):Nat:=match b with|true=>n+32|false=>n
def Oj (T:Tab)(o:Oper)(r:Rec)(pend:List Nat):List Nat:=match r.big with
 | false=>pend
 | true=>if wH T o=1 then r.id::pend else []
def ChD (P:Program)(T:Tab)(all:Array Oper):List Oper->List Rec->List PV->St->Nat->List Nat->List PV->St->Nat->Prop
 | [],[],p,st,nx,_,f,stf,nxf=>p=f/\st=stf/\nx=nxf
 | o::l,r::rs,p,st,nx,pend,f,stf,nxf=>ZK P T all o r p st nx pend/\ChD P T all l rs (zW r.er o.dst r.v) (jL r.δ st) (bump r.big nx) (Oj T o r pend) f stf nxf
 | _,_,_,_,_,_,_,_,_=>False
def ZL (P:Program)(T:Tab)(all:Array Oper)(K:Env->Prop):List Oper->List Rec->St->List PV->St->Nat->Prop
 | o::l,r::rs,st,f,stf,nxf=>(r.nd=true->l=[]/\rs=[]/\MP all=true/\nxf=r.id+32/\oO T (jb.jJ P T) o.op r.er (jr st) r.id (λv δ=>bif ltD (r.id+32) δ then K ⟨zW r.er o.dst v,jL δ st,r.id+32⟩ else False))
  /\ (r.nd=false->ZL P T all K l rs (jL r.δ st) f stf nxf)
 | [],[],_,f,stf,nxf=>K ⟨f,stf,nxf⟩
 | _,_,_,_,_,_=>False
theorem TJ {n:Nat}:∀ (δ:Dl),ltD n δ=true->∀ b,aaY δ b->b<n
 | [],_,b,h=>by obtain⟨x,h⟩:=h;cases h
 | (c,y)::δ,h,b,hb=>by
  simp only[ltD,Bool.and_eq_true,Nat.blt_eq] at h;obtain⟨x,hb⟩:=hb;rcases List.mem_cons.1 hb with e|hb
  cases e;exact h.1
  exact TJ δ h.2 b ⟨x,hb⟩
theorem ZM {pend:List Nat}{lk:Nat->Option mP}{b:Nat}{x:mP}(h:aaO pend lk b=some x):b ∉ pend/\lk b=some x:=by
 unfold aaO at h
 cases hb:wQ pend b with
 | true=>rw[hb] at h;cases h
 | false=>rw[hb] at h;exact⟨(λU=>by rw[(Ic _ _).2 U] at hb;cases hb),h⟩
theorem RY {o:Oper}{c:Nat}(h:wH T o=c)(hc:c≠0):II T o.op=c:=by
 unfold wH at h
 split at h
 exact absurd h.symm hc
 exact h
theorem ae7 {o:Oper}(h:isQ o.op=false):wH T o=II T o.op:=by
 have:qtO T o=false:=by
  unfold qtO
  split
  split
  exact h
  rfl
  rfl
 unfold wH;rw[this]
theorem ae8 {o:Op}{ps:List PV}{lk:Nat->Option mP}(h:II T o=1):ndO T ps lk o=false:=by cases o<;>simp[ndO,II] at h |-
theorem ES (hT:jv P T)(hW:Bg P){all:Array Oper}:∀ (l:List Oper) (pend:List Nat) (E:Env) (K:Env->Prop),Zx T (jb.jJ P T) all l pend E K ->
  ∃ rs f U J,ChD P T all l rs E.tmps E.st E.next pend f U J/\ZL P T all K l rs E.st f U J
 | [],pend,E,K,h=>⟨[],E.tmps,E.st,E.next,⟨rfl,rfl,rfl⟩,h⟩
 | o::l,pend,E,K,h=>by
  simp only[Zx] at h;obtain⟨I,wb,h1,h2,C,h4,h5,h6⟩:=adg h
  cases wb with
  | false =>
   have k5:=h6 rfl;rw[Oi,h2,C] at k5;obtain⟨rs,f,U,J,hc,hK⟩:=ES hT hW l pend _ _ k5;exact⟨⟨I.tmps,I.tmps,SK,.undef,[],0,false,false,false⟩::rs,f,U,J,⟨⟨h1,h1,h4,(λe=>by cases e),(λe=>by cases e),(λ_=>rfl),.inl ⟨rfl,rfl,λe=>by cases e⟩⟩,hc⟩,(λe=>by cases e),λ_=>hK⟩
  | true =>
   have h5:=h5 rfl;unfold afG at h5
   cases g:ndO T I.tmps (jr I.st) o.op with
   | true =>
    rw[g] at h5
    cases l with
    | cons _ _=>exact h5.elim
    | nil =>
      obtain⟨hlo,h5⟩:=h5;obtain⟨v,δ,hk⟩:=adi g h5
      cases hi:ltD (I.next+32) δ with
      | false=>rw[hi] at hk;exact hk.elim
      | true =>
       have hq:isQ o.op=false:=by
        revert g;cases o.op<;>simp[ndO,isQ]
       have hcl:wH T o=2:=by
        rw[ae7 hq];revert g;cases o.op<;>simp[ndO,II]
       refine⟨[⟨I.tmps,I.tmps,jr I.st,v,δ,I.next,true,true,true⟩],_,_,_,⟨⟨h1,h1,h4,(λ_ e=>by cases e),(λ_=>⟨rfl,rfl⟩),(λe=>by cases e),.inr (.inr ⟨rfl,rfl,C,hcl,?_,by rw[h2]⟩)⟩,rfl,rfl,rfl⟩,λ_=>⟨rfl,rfl,hlo,by simp[bump,C],?_⟩,λe=>by cases e⟩
       rw[<- C];exact TJ δ hi
       simp only[Oi,h2] at h5;exact h5
   | false =>
   rw[g] at h5;simp only at h5;unfold stepD at h5
   have quiet:∀ lk,(wH T o=0/\lk=SK\/wH T o=3/\lk=aaO pend (jr I.st))->X9 T (jb.jJ P T) o lk I (λE=>Zx T (jb.jJ P T) all l pend E K) ->
     ∃ rs f U J,ChD P T all (o::l) rs E.tmps E.st E.next pend f U J/\ZL P T all K (o::l) rs E.st f U J:=by
    intro lk hlk hs;obtain⟨E2,v,k1,k2,k3,k4,k5⟩:=Yw hT hW (all:=all) 0 hs;rw[Oi,k2,k3,h2,C] at k5;obtain⟨rs,f,U,J,hc,hK⟩:=ES hT hW l pend _ _ k5;refine⟨⟨I.tmps,E2.tmps,lk,v,[],0,false,true,false⟩::rs,f,U,J,⟨⟨h1,h1.trans k1,h4,λ_ _=>k4,(λe=>by cases e),(λe=>by cases e),.inl ⟨rfl,rfl,λ_ b x hb=>?_⟩⟩,hc⟩,(λe=>by cases e),λ_=>hK⟩;rcases hlk with ⟨c0,rfl⟩|⟨c3,rfl⟩
    cases hb
    obtain⟨a1,a2⟩:=ZM hb;rw[h2] at a2;exact⟨c3,a1,a2⟩
   split at h5
   rename_i hc;exact quiet SK (.inl ⟨hc,rfl⟩) h5
   rename_i hc;obtain⟨v,δ,hk,O⟩:=WB (.inl (RY hc bG)) (ae8 (RY hc bG)) h5
   split at hk
   rename_i id x
   cases hi:Nat.beq id I.next with
   | false=>rw[hi] at hk;exact hk.elim
   | true =>
    rw[hi] at hk;simp only[cond_true] at hk;have hid:=Nat.eq_of_beq_eq_true hi;subst hid;rw[Oi,h2,C] at hk;obtain⟨rs,f,U,J,hc2,hK⟩:=ES hT hW l _ _ _ hk;refine⟨⟨I.tmps,I.tmps,SK,v,[(I.next,some x)],I.next,true,true,false⟩::rs,f,U,J,⟨⟨h1,h1,h4,λ_ _=>?_,(λe=>by cases e),(λe=>by cases e),.inr (.inl ⟨rfl,rfl,C,hc,⟨x,by rw[C]⟩,rfl⟩)⟩,?_⟩,(λe=>by cases e),λ_=>?_⟩
    exact adl hT hW (λe=>by cases e) O
    simp only[jL,bump,Oj,hc,if_true,C];exact hc2
    simp only[jL,C];exact hK
   exact hk.elim
   rename_i hc;obtain⟨v,δ,hk,O⟩:=WB (.inr (RY hc bG)) g h5
   cases hi:ltD (I.next+32) δ with
   | false=>rw[hi] at hk;exact hk.elim
   | true =>
    rw[hi] at hk;simp only[cond_true] at hk;rw[Oi,h2,C] at hk;obtain⟨rs,f,U,J,hc2,hK⟩:=ES hT hW l _ _ _ hk;refine⟨⟨I.tmps,I.tmps,jr I.st,v,δ,I.next,true,true,false⟩::rs,f,U,J,⟨⟨h1,h1,h4,λ_ _=>?_,(λe=>by cases e),(λe=>by cases e),.inr (.inr ⟨rfl,rfl,C,hc,?_,by rw[h2]⟩)⟩,?_⟩,(λe=>by cases e),λ_=>hK⟩
    exact adl hT hW (λ_=>rfl) O
    rw[<- C];exact TJ δ hi
    simp only[bump,Oj,hc,C];exact hc2
   rename_i hc;exact quiet _ (.inr ⟨hc,rfl⟩) h5
   exact h5.elim
theorem ChD.len {all:Array Oper}:∀ (l:List Oper) (rs:List Rec) {p:List PV} {st:St} {nx:Nat} {pend:List Nat} {f:List PV} {U:St} {J:Nat},ChD P T all l rs p st nx pend f U J->rs.length=l.length/\f.length=p.length
 | [],[],_,_,_,_,_,_,_,h=>⟨rfl,by rw[h.1]⟩
 | o::l,r::rs,_,_,_,_,_,_,_,h=>by
  obtain⟨h1,h2⟩:=ChD.len l rs h.2;exact⟨by simp[h1],by rw[h2,uZ,h.1.er.1]⟩
 | [],_::_,_,_,_,_,_,_,_,h=>h.elim
 | _::_,[],_,_,_,_,_,_,_,h=>h.elim
theorem ChD.keep {all:Array Oper}{t:Nat}:∀ (l:List Oper) (rs:List Rec) {p:List PV} {st:St} {nx:Nat} {pend:List Nat} {f:List PV} {U:St} {J:Nat},ChD P T all l rs p st nx pend f U J->(∀ o∈l,o.dst≠some t)->Eqv (jD p t) (jD f t)
 | [],[],_,_,_,_,_,_,_,h,_=>by rw[h.1];exact Eqv.refl _
 | o::l,r::rs,_,_,_,_,_,_,_,h,hn=>by
  have:=ChD.keep l rs h.2 λo ho=>hn o (by simp[ho]);rw[BU (hn o aS)] at this;exact (h.1.er.2 t).trans this
 | [],_::_,_,_,_,_,_,_,_,h,_=>h.elim
 | _::_,[],_,_,_,_,_,_,_,h,_=>h.elim
def zJ:List Rec->St->Nat->St
 | _,st,0=>st
 | [],st,_+1=>st
 | r::rs,st,i+1=>zJ rs (jL r.δ st) i
def Bh:List Rec->Nat->Nat->Nat
 | _,n,0=>n
 | [],n,_+1=>n
 | r::rs,n,i+1=>Bh rs (bump r.big n) i
def Nk (T:Tab):List Oper->List Rec->List Nat->Nat->List Nat
 | _,_,pd,0=>pd
 | o::l,r::rs,pd,i+1=>Nk T l rs (Oj T o r pd) i
 | _,_,pd,_=>pd
theorem ChD.get {all:Array Oper}:∀ (l:List Oper) (rs:List Rec) {p:List PV} {st:St} {nx:Nat} {pend:List Nat} {f:List PV} {C:St} {g:Nat},ChD P T all l rs p st nx pend f C g->∀ (i:Nat) (o:Oper),l[i]?=some o ->
  ∃ r q,rs[i]?=some r/\q.length=p.length/\ZK P T all o r q (zJ rs st i) (Bh rs nx i) (Nk T l rs pend i) /\
   (∀ t,(∀ j oj,j<i->l[j]?=some oj->oj.dst≠some t)->Eqv (jD p t) (jD q t)) /\
   (∀ t,(∀ j oj,i<=j->l[j]?=some oj->oj.dst≠some t)->Eqv (jD q t) (jD f t)) /\
   (∀ d,o.dst=some d->d<p.length->(∀ j oj,i<j->l[j]?=some oj->oj.dst≠some d)->Eqv r.v (jD f d))
 | [],_,_,_,_,_,_,_,_,_,i,o,hi=>by simp at hi
 | _::_,[],_,_,_,_,_,_,_,h,_,_,_=>h.elim
 | o'::l,r::rs,p,_,_,_,f,_,_,h,0,o,hi=>by
  obtain⟨h1,J⟩:=h;simp at hi;subst hi;refine⟨r,p,rfl,rfl,h1,λt _=>Eqv.refl _,λt ht=>?_,λd I U hn=>?_⟩
  have hk:=ChD.keep l rs J (t:=t) λo ho=>by
   obtain⟨j,hj⟩:=List.getElem?_of_mem ho;exact ht (j+1) o ah dR
  rw[BU (ht 0 o' ah aS)] at hk;exact (h1.er.2 t).trans hk
  have hk:=ChD.keep l rs J (t:=d) λo ho=>by
   obtain⟨j,hj⟩:=List.getElem?_of_mem ho;exact hn (j+1) o ah dR
  rw[I] at hk;simp only[zW,xJ] at hk;rw[if_pos ⟨trivial,by rw[<- h1.er.1];exact U⟩] at hk;exact hk
 | o'::l,r::rs,p,_,_,_,f,_,_,h,i+1,o,hi=>by
  obtain⟨h1,J⟩:=h;obtain⟨r',q,a0,a1,a2,a6,a7,a8⟩:=ChD.get l rs J i o bZ;have hl:(zW r.er o'.dst r.v).length=p.length:=by rw[uZ,h1.er.1]
  refine⟨r',q,by simpa using a0,by rw[a1,hl],a2,λt ht=>?_,λt ht=>?_,λd I U hn=>?_⟩
  have hk:=a6 t λj oj hj hoj=>ht (j+1) oj ah dA;rw[BU (ht 0 o' ah aS)] at hk;exact (h1.er.2 t).trans hk
  exact a7 t λj oj hj hoj=>ht (j+1) oj ah dA
  exact a8 d I (by rw[hl];exact U) λj oj hj hoj=>hn (j+1) oj ah dA
theorem ChD.fin {all:Array Oper}:∀ (l:List Oper) (rs:List Rec) {p:List PV} {st:St} {nx:Nat} {pend:List Nat} {f:List PV} {U:St} {J:Nat},ChD P T all l rs p st nx pend f U J->U=zJ rs st rs.length/\J=Bh rs nx rs.length
 | [],[],_,_,_,_,_,_,_,h=>⟨h.2.1.symm,h.2.2.symm⟩
 | o::l,r::rs,_,_,_,_,_,_,_,h=>ChD.fin l rs h.2
 | [],_::_,_,_,_,_,_,_,_,h=>h.elim
 | _::_,[],_,_,_,_,_,_,_,h=>h.elim
theorem bump_le (b:Bool)(n:Nat):n<=bump b n:=by cases b<;>simp[bump]
theorem Nl:∀ (rs:List Rec) (n i:Nat),n<=Bh rs n i
 | _,n,0=>by simp[Bh]
 | [],n,i+1=>by simp[Bh]
 | r::rs,n,i+1=>by simp only[Bh];exact Nat.le_trans (bump_le _ _) (Nl rs _ i)
theorem KW:∀ (rs:List Rec) (n i:Nat) (r:Rec),rs[i]?=some r->Bh rs n (i+1)=bump r.big (Bh rs n i)
 | [],n,i,r,h=>by simp at h
 | r::rs,n,0,r',h=>by simp at h;subst h;cases rs<;>simp[Bh]
 | r::rs,n,i+1,r',h=>by simp only[Bh];exact KW rs _ i r' dh
theorem Vg:∀ (rs:List Rec) (n i:Nat),rs.length<=i->Bh rs n (i+1)=Bh rs n i
 | [],n,0,_=>by simp[Bh]
 | [],n,i+1,_=>by simp[Bh]
 | r::rs,n,0,h=>by simp at h
 | r::rs,n,i+1,h=>by simp only[Bh];exact Vg rs _ i dh
theorem Qi {rs:List Rec}{n i j:Nat}(h:i<=j):Bh rs n i<=Bh rs n j:=by
 induction h with
 | refl=>exact Nat.le_refl _
 | step h ih =>
  rename_i m
  cases U:rs[m]? with
  | some r=>rw[KW _ _ _ _ U];exact Nat.le_trans ih (bump_le _ _)
  | none=>rw[Vg _ _ _ (by rw[List.getElem?_eq_none_iff] at U;exact U)];exact ih
def kM:Dl->Nat->Option (Option mP)
 | [],_=>none
 | (c,x)::δ,b=>match kM δ b with
  | some y=>some y
  | none=>if c=b then some x else none
theorem xN:∀ (δ:Dl) (st:St) (b:Nat),jr (jL δ st) b=(match kM δ b with|some x=>x|none=>jr st b)
 | [],st,b=>rfl
 | (c,x)::δ,st,b=>by
  simp only[jL,xN δ (oH st c x) b,kM]
  cases kM δ b with
  | some y=>rfl
  | none =>
   simp only[iR]
   by_cases h:c=b<;>simp[h]
theorem Np:∀ (δ:Dl) (b:Nat),kM δ b≠none->aaY δ b
 | [],b,h=>absurd rfl h
 | (c,x)::δ,b,h=>by
  simp only[kM] at h
  split at h
  rename_i y hy;obtain⟨z,U⟩:=Np δ b (by rw[hy];simp);exact⟨z,List.mem_cons_of_mem _ U⟩
  by_cases hc:c=b
  subst hc;exact⟨x,by simp⟩
  rw[if_neg hc] at h;exact absurd rfl h
def lst:List Rec->(Nat->Bool)->Nat->Nat->Option (Option mP)
 | [],_,_,_=>none
 | r::rs,D,i,b=>match lst rs D (i+1) b with
  | some y=>some y
  | none=>if D i then kM r.δ b else none
def orS (st:St)(b:Nat):Option (Option mP)->Option mP
 | some x=>x
 | none=>jr st b
theorem zl:∀ (rs:List Rec) (D U : Nat->Bool) (i b:Nat),(∀ k r,rs[k]?=some r->kM r.δ b≠none->D (i+k)=U (i+k))->lst rs D i b=lst rs U i b
 | [],_,_,_,_,_=>rfl
 | r::rs,D,U,i,b,h=>by
  have J:=zl rs D U (i+1) b λk T hr hb=>by
   have:=h (k+1) T dn hb
   rwa [show i+(k+1)=i+1+k by omega] at this
  simp only[lst,J]
  split
  rfl
  by_cases hb:kM r.δ b=none
  simp[hb]
  have:=h 0 r rfl hb;simp only[Nat.add_zero] at this;rw[this]
theorem Ig:∀ (rs:List Rec) (D:Nat->Bool) (i b:Nat),(∀ k r,rs[k]?=some r->D (i+k)=true->kM r.δ b=none)->lst rs D i b=none
 | [],_,_,_,_=>rfl
 | r::rs,D,i,b,h=>by
  have T:=Ig rs D (i+1) b λk U hr hb=>h (k+1) U dn eY;simp only[lst,T]
  split
  rename_i h0;exact h 0 r rfl (by simpa using h0)
  rfl
theorem TL:∀ (rs:List Rec) (D:Nat->Bool) (i m b:Nat) (r:Rec) (x:Option mP),rs[m]?=some r->D (i+m)=true->kM r.δ b=some x->(∀ k U,m<k->rs[k]?=some U->D (i+k)=true->kM U.δ b=none)->lst rs D i b=some x
 | [],_,_,m,_,_,_,h,_,_,_=>by simp at h
 | r::rs,D,i,0,b,U,x,h,hD,hx,hl=>by
  simp at h;subst h;have:=Ig rs D (i+1) b λk U hr hb=>hl (k+1) U ah dn eY;simp only[lst,this];rw[if_pos (by simpa using hD)];exact hx
 | r::rs,D,i,m+1,b,U,x,h,hD,hx,hl=>by
  have:=TL rs D (i+1) m b U x dh (by rwa [show i+1+m=i+(m+1) by omega]) hx λk r2 hk hr hb=>hl (k+1) r2 ah dn eY;simp only[lst,this]
theorem KX:∀ (rs:List Rec) (st:St) (i j b:Nat),jr (zJ rs st i) b=orS st b (lst rs (λk=>decide (k<j+i)) j b)
 | [],st,0,j,b=>rfl
 | [],st,i+1,j,b=>rfl
 | r::rs,st,0,j,b=>by
  simp only[zJ];rw[Ig _ _ _ _ λk U _ h=>by simp at h;omega];rfl
 | r::rs,st,i+1,j,b=>by
  simp only[zJ,KX rs (jL r.δ st) i (j+1) b,lst];rw[show (λk=>decide (k<j+1+i))=(λk=>decide (k<j+(i+1))) from funext λk=>by congr 2;omega]
  cases lst rs (λk=>decide (k<j+(i+1))) (j+1) b with
  | some y=>rfl
  | none =>
   simp only[orS,xN];rw[if_pos aS]
theorem QW {all:Array Oper}{i:Nat}{o:Oper}{lo:List Tmp}:∀ (l:List Oper) (j:Nat),SS all i o lo l j=true->∀ (k:Nat) (p:Oper),l[k]?=some p->SQ all i o lo (j+k) p=true
 | [],_,_,k,p,hk=>by simp at hk
 | q::l,j,h,0,p,hk=>by simp at hk;subst hk;simp only[SS,Bool.and_eq_true] at h;exact h.1
 | q::l,j,h,k+1,p,hk=>by
  simp only[SS,Bool.and_eq_true] at h;have:=QW l (j+1) h.2 k p fH;rw[show j+(k+1)=j+1+k by omega];exact this
theorem JS {all:Array Oper}:∀ (l:List Oper) (i:Nat),EM all l i=true->∀ (k:Nat) (o:Oper),l[k]?=some o ->
  (∀ e∈o.after,Region.binds .any e=true->e.on<i+k)/\∀ (j:Nat) (p:Oper),all[j]?=some p->SQ all (i+k) o (o.looksAt all) j p=true
 | [],_,_,k,o,hk=>by simp at hk
 | q::l,i,h,0,o,hk=>by
  simp at hk;subst hk;simp only[EM,Bool.and_eq_true] at h;refine⟨λe U hb=>?_,λj p hp=>?_⟩
  have:=Array.all_eq_true_iff_forall_mem.1 h.1.1 e U;rw[hb,Bool.not_true,Bool.false_or,Nat.blt_eq] at this;simpa using this
  have:=QW all.toList 0 h.1.2 j p (by simpa using hp)
  simpa using this
 | q::l,i,h,k+1,o,hk=>by
  simp only[EM,Bool.and_eq_true] at h;have:=JS l (i+1) h.2 k o fH;rw[show i+(k+1)=i+1+k by omega];exact this
theorem CU {all:Array Oper}(h0:EN T all=true){i:Nat}{o:Oper}(hi:all[i]?=some o) :
  (∀ e∈o.after,Region.binds .any e=true->e.on<i)/\∀ (j:Nat) (p:Oper),all[j]?=some p->j≠i->∀ d,p.dst=some d->o.dst≠some d /\
   (d∈o.looksAt all->(∃ e∈o.after,Region.binds .any e=true/\e.on=j)\/(∃ e∈p.after,Region.binds .any e=true/\e.on=i)):=by
 have h:EM all all.toList 0=true:=by unfold EN at h0;rw[Bool.and_eq_true] at h0;exact h0.1
 obtain⟨h1,h2⟩:=JS all.toList 0 h i o bZ;rw[Nat.zero_add] at h1 h2;refine⟨h1,λj p hp U d C=>?_⟩;have:=h2 j p hp;have J:Nat.beq i j=false:=P6 λe=>U e.symm;simp only[SQ,J,C,Bool.false_or,Bool.and_eq_true,Bool.or_eq_true,bne_iff_ne,ne_eq,Bool.not_eq_true',List.contains_eq_mem,decide_eq_false_iff_not] at this;refine⟨this.1,λg=>?_⟩;rcases this.2 with (hh|hh)|hh
 exact absurd g hh
 obtain⟨e,I,hb⟩:=Array.any_eq_true'.1 hh;simp only[Bool.and_eq_true] at hb;exact .inl ⟨e,I,hb.1,Nat.eq_of_beq_eq_true hb.2⟩
 obtain⟨e,I,hb⟩:=Array.any_eq_true'.1 hh;simp only[Bool.and_eq_true] at hb;exact .inr ⟨e,I,hb.1,Nat.eq_of_beq_eq_true hb.2⟩
inductive Bef (all:Array Oper):Nat->Nat->Prop
 | one {i:Nat} {o:Oper} {e:Edge}:all[i]?=some o->e∈o.after->Region.binds .any e=true->Bef all e.on i
 | trans {i j k:Nat}:Bef all i j->Bef all j k->Bef all i k
theorem Nq:∀ (l m:List Nat) (b:Nat),b∈SV l m->b∈l\/b∈m
 | [],m,b,h=>.inr h
 | c::l,m,b,h=>by
  simp only[SV] at h
  cases hc:wQ m c with
  | true =>
   rw[hc] at h;rcases Nq l m b h with h|h
   exact .inl (List.mem_cons_of_mem _ h)
   exact .inr h
  | false =>
   rw[hc] at h;rcases Nq l (c::m) b h with h|h
   exact .inl (List.mem_cons_of_mem _ h)
   rcases List.mem_cons.1 h with rfl|h
   exact .inl aS
   exact .inr h
theorem TM:∀ (l:List (List Nat)) (i:Nat),Bj l i=l.getD i []
 | [],i=>by simp[Bj]
 | x::l,0=>by simp[Bj]
 | x::l,i+1=>by simpa [Bj] using TM l i
theorem Vh (acc:List (List Nat)):∀ (l:List Nat) (b:Nat),b∈U6 acc l->∃ j∈l,b=j\/b∈Bj acc j
 | [],b,h=>by simp[U6] at h
 | j::l,b,h=>by
  simp only[U6] at h;rcases Nq _ _ _ h with h|h
  exact⟨j,by simp,by simpa using h⟩
  obtain⟨U,h1,h2⟩:=Vh acc l b h;exact⟨U,by simp[h1],h2⟩
theorem IV {all:Array Oper}:∀ (l:List Oper) (acc:List (List Nat)),(∀ k o,l[k]?=some o->all[acc.length+k]?=some o)->(∀ i b,b∈Bj acc i->Bef all b i)->∀ i b,b∈Bj (SX l acc) i->Bef all b i
 | [],acc,_,h2=>by simpa [SX] using h2
 | o::l,acc,h1,h2=>by
  simp only[SX];have hlen:(acc++[U6 acc (V4 o)]).length=acc.length+1:=by simp
  refine IV l _ (λk o' hk=>?_) λi b hb=>?_
  have:=h1 (k+1) o' fH;rw[hlen,<- this];congr 1;omega
  rw[TM,List.getD_eq_getElem?_getD] at hb
  by_cases hi:i<acc.length
  rw[List.getElem?_append_left hi] at hb;exact h2 i b (by rw[TM,List.getD_eq_getElem?_getD];exact hb)
  rw[List.getElem?_append_right ah] at hb
  have C:i-acc.length=0:=by
   by_cases h0:i-acc.length=0
   exact h0
   rw[List.getElem?_eq_none bI] at hb;simp at hb
  rw[C] at hb;simp only[List.getElem?_cons_zero,Option.getD_some] at hb;have I:i=acc.length:=by omega
  obtain⟨j,hj,hb⟩:=Vh acc _ _ hb;have U:=h1 0 o rfl;rw[Nat.add_zero] at U;simp only[V4,List.mem_map,List.mem_filter] at hj;obtain⟨e,⟨g,J⟩,rfl⟩:=hj;have T:Bef all e.on i:=by rw[I];exact .one U (by simpa using g) J
  rcases hb with rfl|hb
  exact T
  exact .trans (h2 _ _ hb) T
theorem Vj {U:List Nat}{c:Nat}:∀ (l:List Oper) (i:Nat),abE T U c l i=true->∀ k o,l[k]?=some o->clash (wH T o) c=true->(i+k)∈U
 | [],_,_,k,o,h,_=>by simp at h
 | q::l,i,h,0,o,hk,hc=>by
  simp at hk;subst hk;simp only[abE,Bool.and_eq_true,hc,cond_true] at h;exact (Ic _ _).1 h.1
 | q::l,i,h,k+1,o,hk,hc=>by
  simp only[abE,Bool.and_eq_true] at h;have:=Vj l (i+1) h.2 k o fH hc
  rwa [show i+1+k=i+(k+1) by omega] at this
theorem Vk {L:List Oper}{B:List (List Nat)}:∀ (l:List Oper) (i:Nat),acL T L B l i=true->∀ k o,l[k]?=some o->abE T (Bj B (i+k)) (wH T o) (L.take (i+k)) 0=true
 | [],_,_,k,o,h=>by simp at h
 | q::l,i,h,0,o,hk=>by
  simp at hk;subst hk;simp only[acL,Bool.and_eq_true] at h;exact h.1
 | q::l,i,h,k+1,o,hk=>by
  simp only[acL,Bool.and_eq_true] at h;have:=Vk l (i+1) h.2 k o fH
  rwa [show i+1+k=i+(k+1) by omega] at this
theorem Qj:∀ (l:List Oper),acM T l=false->∀ o∈l,wH T o≠2
 | [],_,o,h=>by cases h
 | q::l,h,o,ho=>by
  simp only[acM,Bool.or_eq_false_iff] at h;rcases List.mem_cons.1 ho with rfl|ho
  intro e;rw[e] at h;simp at h
  exact Qj l h.2 o ho
theorem Ez {all:Array Oper}(h:EN T all=true){i j:Nat}{I oj:Oper}(g:i<j)(hi:all[i]?=some I)(hj:all[j]?=some oj)(hc:clash (wH T I) (wH T oj)=true):Bef all i j:=by
 unfold EN at h;rw[Bool.and_eq_true] at h;have h:=h.2;have J : all.toList[i]?=some I:=by simpa using hi
 have U : all.toList[j]?=some oj:=by simpa using hj
 cases C:acM T all.toList with
 | false =>
  have h1:=Qj _ C I (List.mem_of_getElem? J);have h2:=Qj _ C oj (List.mem_of_getElem? U)
  exfalso
  simp only[clash,Bool.or_eq_true,Bool.and_eq_true] at hc;rcases hc with hc|hc
  exact h1 (Nat.eq_of_beq_eq_true hc.1)
  exact h2 (Nat.eq_of_beq_eq_true hc.1)
 | true =>
  rw[C] at h;simp only[cond_true] at h;have:=Vk _ 0 h j oj U;rw[Nat.zero_add] at this;have:=Vj _ 0 this i I (by rw[List.getElem?_take_of_lt g];exact J) hc;rw[Nat.zero_add] at this;exact IV all.toList [] (λk o hk=>by simpa using hk) (λi b hb=>by simp[Bj] at hb) j i this
def patch (sl:List Tmp)(er ps:List PV):List PV:=(List.range ps.length).map λt=>if t∈sl then jD er t else jD ps t
theorem VY (sl:List Tmp)(er ps:List PV):(patch sl er ps).length=ps.length:=by simp[patch]
theorem Qk {sl:List Tmp}{er ps:List PV}{t:Nat}(h:t<ps.length):jD (patch sl er ps) t=if t∈sl then jD er t else jD ps t:=by
 rw[BO,List.getD_eq_getElem?_getD];simp[patch,h]
theorem Vl {sl:List Tmp}{er ps:List PV}(h:∀ t∈sl,Eqv (jD ps t) (jD er t)):zI ps (patch sl er ps):=by
 refine⟨by simp[patch],λt=>?_⟩
 by_cases ht:t<ps.length
 rw[Qk ht]
 split
 rename_i U;exact h t U
 exact Eqv.refl _
 rw[xK (Nat.le_of_not_lt ht),xK dJ];exact Eqv.refl _
theorem QX {sl:List Tmp}{er ps:List PV}(hl:er.length=ps.length):∀ t∈sl,jD (patch sl er ps) t=jD er t:=by
 intro t U
 by_cases ht:t<ps.length
 rw[Qk ht,if_pos U]
 rw[xK dJ,xK (by rw[hl];exact Nat.le_of_not_lt ht)]
theorem Bef.listed {all:Array Oper}{listed:Array Bool}(U:∀ j o,all[j]?=some o->listed.getD j true=true->∀ e∈o.after,Region.binds .any e=true->listed.getD e.on true=true){i j:Nat}(h:Bef all i j):listed.getD j true=true->listed.getD i true=true:=by
 induction h with
 | one h1 h2 I=>intro h;exact U _ _ h1 h _ h2 I
 | trans _ _ J T=>intro h;exact J (T h)
theorem wY {listed:Array Bool}{i j:Nat}(hi:listed.getD i true=false):(listed.setIfInBounds i true).getD j true=true↔(j=i\/listed.getD j true=true):=by
 have T:i<listed.size:=by
  rcases Nat.lt_or_ge i listed.size with h|h
  exact h
  simp[Array.getElem?_eq_none h] at hi
 by_cases U:i=j
 subst U;simp[T]
 rw[getD_set_ne true U];constructor
 intro h;exact .inr h
 rintro (h|h)
 exact absurd h.symm U
 exact h
theorem Bef.ready {all:Array Oper}{listed:Array Bool}(T:∀ j o,all[j]?=some o->listed.getD j true=true->∀ e∈o.after,Region.binds .any e=true->listed.getD e.on true=true)
  {i j:Nat} (h:Bef all i j):∀ o,all[j]?=some o->(∀ e∈o.after,Region.binds .any e=true->listed.getD e.on true=true)->listed.getD i true=true:=by
 induction h with
 | one h1 h2 J=>intro o ho U;rw[h1] at ho;cases ho;exact U _ h2 J
 | trans h1 h2 ih1 ih2 =>
  intro o ho U;exact h1.listed T (ih2 o ho U)
end
end Go.Pv
