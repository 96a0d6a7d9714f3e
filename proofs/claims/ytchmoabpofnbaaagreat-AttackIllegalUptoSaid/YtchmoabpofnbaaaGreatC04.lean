import Derived.MapKept
import Derived.TacticsIn
import Derived.RangeFuncRecord
import Derived.Test.YtchmoabpofnbaaaGreatC03
set_option linter.all false
namespace Go.Pv
open Go Go.MapKept
theorem XW {P:Program}{T:Tab}(hT:jq P T){t:TypeId}{agg:Bool}{plain:Option (List Nat)}{size sz:Nat}{z:Option (List PV)}{zs:List PV}
  (h:T t=⟨true,agg,size,z,plain,.map sz zs⟩):∃ k e,P.underlying t=some (.map k e)/\P.underlying k=some (.int .i64)/\XB P e=some zs/\sz=P.cellsOf e:=by
 obtain⟨i,d,h1,h2,C,h4,h5,I,g,U⟩:=wz hT h rfl;cases d<;>simp at U
 rename_i k e;unfold O9 at U
 split at U
 rename_i z hk J;cases U;exact⟨k,e,h2,hk,J,rfl⟩
 cases U
theorem aaZ {P:Program}{t:TypeId}{z:List PV}(h:XB P t=some z):∃ zs:List Value,(∀ w,(zeroValue t).run P w=.ok (.agg zs.toArray) w)/\∀ w Y σ,gI w Y σ z zs:=by
 unfold XB at h
 split at h
 rename_i i hi
 split at h
 rename_i cs U;cases h;refine⟨cs.toList,λw=>?_,λw Y σ=>G7 w Y σ _⟩;simp[zeroValue,typeInfo,program,Sem.run,Result.andThen,hi,U]
 cases h
 cases h
theorem pG.length {w:World}{Y:Nat->Prop}:∀ {U:List MapEntry} {rows:List (List PV)},pG w Y U rows->U.length=rows.length
 | [],_,h=>by unfold pG at h;subst h;rfl
 | _::U,_,⟨n,cs,rows',h1,_,_,h5⟩=>by subst h1;simp[pG.length h5]
theorem AA {n k:Int}{e:MapEntry}{U:List MapEntry}{i:Nat}(T:e.key=.int .i64 k) :
  Instr.findNow (.int .i64) (.int .i64 n) (e::U) i=if n=k then some (some (i,e.val)) else Instr.findNow (.int .i64) (.int .i64 n) U (i+1):=by
 have h1:Instr.sameNow (.int .i64) (.int .i64 n) e.key=some (n==k):=by rw[T];simp[Instr.sameNow]
 rw[Instr.findNow,h1]
 by_cases h:n=k
 subst h;simp
 have:(n==k)=false:=by simpa using h
 rw[this,if_neg h]
theorem pG.find {w:World}{Y:Nat->Prop}(n:Int):∀ (U:List MapEntry) (rows:List (List PV)) (i:Nat),pG w Y U rows ->
  (BX rows n=none/\Instr.findNow (.int .i64) (.int .i64 n) U i=some none) \/
  ∃ j e cs vs,BX rows n=some cs/\Instr.findNow (.int .i64) (.int .i64 n) U i=some (some (i+j,e.val))/\U[j]?=some e/\e.key=.int .i64 n/\e.val=.agg (List.toArray vs)/\gI w Y iU cs vs
 | [],rows,i,h=>by unfold pG at h;subst h;exact .inl ⟨rfl,rfl⟩
 | e::U,rows,i,⟨k,cs,rows',h1,h2,⟨vs,h3,h4⟩,h5⟩=>by
  subst h1
  by_cases hk:k=n
  subst hk;refine .inr ⟨0,e,cs,vs,by simp[BX],?_,rfl,h2,h3,h4⟩;rw[AA h2,if_pos rfl];rfl
  have T : ¬ n=k:=λe=>hk e.symm;rcases pG.find n U rows' (i+1) h5 with ⟨g1,g2⟩|⟨j,C,I,J,g1,g2,g3,g4⟩
  refine .inl ⟨by simp[BX,hk,g1],?_⟩;rw[AA h2,if_neg T,g2]
  refine .inr ⟨j+1,C,I,J,by simp[BX,hk,g1],?_,by simpa using g3,g4⟩;rw[AA h2,if_neg T,g2]
  congr 3;omega
theorem pG.push {w:World}{Y:Nat->Prop}{n:Int}{cs:List PV}{vs:List Value}{b:Nat}(hr:gI w Y iU cs vs):∀ (U:List MapEntry) (rows:List (List PV)),pG w Y U rows->BX rows n=none ->
  pG w Y (U++[{ key:=.int .i64 n,val:=.agg vs.toArray,born:=b }]) (QZ rows n cs)
 | [],rows,h,_=>by unfold pG at h;subst h;exact⟨n,cs,[],rfl,rfl,⟨vs,rfl,hr⟩,rfl⟩
 | e::U,rows,⟨k,ks,rows',h1,h2,h3,h5⟩,O=>by
  subst h1
  by_cases hk:k=n
  subst hk;simp[BX] at O
  simp[BX,hk] at O;simp only[QZ,if_neg hk,List.cons_append];exact⟨k,ks,_,rfl,h2,h3,pG.push hr U rows' h5 O⟩
theorem pG.modify {w:World}{Y:Nat->Prop}{n:Int}{cs:List PV}{vs:List Value}(hr:gI w Y iU cs vs):∀ (U:List MapEntry) (rows:List (List PV)) (i j:Nat) (v:Value),pG w Y U rows ->
  Instr.findNow (.int .i64) (.int .i64 n) U i=some (some (i+j,v))->pG w Y (U.modify j λe=>{ e with key:=.int .i64 n,val:=.agg vs.toArray }) (QZ rows n cs)
 | [],_,i,j,v,_,h=>by simp[Instr.findNow] at h
 | e::U,rows,i,j,v,⟨k,ks,rows',h1,h2,h3,h5⟩,h=>by
  subst h1
  by_cases hk:k=n
  subst hk
  have hj:j=0:=by
   rw[AA h2,if_pos rfl] at h;simp at h;omega
  subst hj;simp only[QZ,if_pos rfl];exact⟨k,cs,rows',rfl,rfl,⟨vs,rfl,hr⟩,h5⟩
  have J : ¬ n=k:=λe=>hk e.symm;rw[AA h2,if_neg J] at h
  have T:∀ (l:List MapEntry) (a m:Nat) (x:Value),Instr.findNow (.int .i64) (.int .i64 n) l a=some (some (m,x))->a<=m:=by
   intro l
   induction l with
   | nil=>intro a m x h;simp[Instr.findNow] at h
   | cons y l ih=>
    intro a m x h;rw[Instr.findNow] at h
    split at h
    cases h;exact Nat.le_refl _
    have:=ih _ _ _ h;omega
    cases h
  have C:=T _ _ _ _ h;obtain⟨I,rfl⟩:∃ I,j=I+1:=⟨j-1,by omega⟩;simp only[QZ,if_neg hk];refine⟨k,ks,_,rfl,h2,h3,?_⟩;exact pG.modify hr U rows' (i+1) I v h5 (by rw[h];congr 2;congr 1;omega)
section
variable {P:Program}{T:Tab}(hT:jq P T){C:Ctx T}{o:Oper}{a:Act}{w:World}{Y:Nat->Prop}{σ:Sg}{ps:List PV}{st:St}{n id:Nat}{K:PV->Dl->Prop}{lk:Nat->Option mO}
 (H:SW C w Y σ ps a.tmps.toList st n) (hlk:∀ b x,lk b=some x->jk st b=some x) (hid:σ id=none/\T.qf<=id)
include H hid in
theorem adh {t:TypeId}(ho:o.op=.makeMap t none)(h:aaP T t id K):qG P C o a w σ ps st n id K:=by
 unfold aaP at h
 split at h
 obtain⟨Y',σ',H',hs,_,_,U⟩:=H.aeo hid (.map #[] 0) ⟨w.heap.size,0,0,0,0⟩ rfl (.map []) (λ_ _ e=>by cases e) (by
  intro w' Y' σ' hk I J _;unfold gW;exact⟨⟨#[],0,J,by simp[pG]⟩,I⟩)
 refine⟨_,_,.map (some w.heap.size),_,Y',σ',h,.inl ?_,H',?_,U⟩
 simp[execOp,ho,Instr.makeMap,newObj,Sem.run,Result.andThen]
 unfold Rep;exact⟨_,hs,rfl⟩
 exact h.elim
include hT H hlk in
theorem adi {args:Array Operand}{ts:Array TypeId}{t:TypeId}{b:Nat}(ho:o.op=.call { callee:=.builtin .len,args:=args,argTypes:=ts })(he:evA T ps args.toList=[.mp b])(ht:ts.toList=[t])
  (h:aaO T (iW.jI P T) t b lk K):qG P C o a w σ ps st n id K:=by
 have U:=vM H args.toList;generalize I:args.toList.map a.eval=vs at U;unfold aaO at h
 split at h
 rename_i e;obtain⟨k,et,hu,_⟩:=XW hT e
 split at h
 rename_i rows hb;rw[he] at U;obtain⟨u,rfl,J⟩:=Ha U;have g:=I9 ht;subst g;unfold Rep at J;obtain⟨l,hs,rfl⟩:=J;have hB:gW w Y σ l (.map rows):=gW.yR H hlk hb hs;unfold gW at hB;obtain⟨⟨es,ck,h1,h2⟩,_⟩:=hB;have hl:=h2.length;refine uq H ho (cv:=.int .i64 rows.length) (λty cs=>?_) dO h;rw[I];simp[builtin,Builtin.len_,lh hu,KU,MapKept.run_getObj_map h1,Result.andThen,<- hl]
 exact h.elim
 exact h.elim
include hT H hlk in
theorem adk {t:TypeId}{m k:Operand}(ho:o.op=.lookup t m k true)(h:aaN T (iW.jI P T) t (sD T ps m) (sD T ps k) lk K):qG P C o a w σ ps st n id K:=by
 have hm:=lD H m;have hk:=lD H k;unfold aaN at h
 split at h
 rename_i agg size zero plain sz z b x e em ek;obtain⟨kt,et,hu,U,hz,_⟩:=XW hT e;obtain⟨zs,hzr,I⟩:=aaZ hz
 split at h
 rename_i rows hb;rw[em] at hm;unfold Rep at hm;obtain⟨l,hs,g⟩:=hm;have hke:a.eval k=.int .i64 x:=qo hk ek;have hB:gW w Y σ l (.map rows):=gW.yR H hlk hb hs;unfold gW at hB;obtain⟨⟨es,ck,h1,h2⟩,_⟩:=hB;have J:IsKey (.int .i64) (.int .i64 x):=by simp[IsKey]
 rcases pG.find x es.toList rows 0 h2 with ⟨g1,g2⟩|⟨j,e',cs,vs,g1,g2,g3,g4,g5,g6⟩
 obtain⟨zc,hzc,h⟩:=h.2 g1;refine qG.quiet H (cv:=.tuple #[.agg zs.toArray,.bool false]) ?_ ?_ h
 simp[execOp,ho,g,hke,Instr.lookup,lh hu,MapKept.run_getObj_map h1,MapKept.run_checkKey U J,MapKept.run_findKey U g2,hzr,Result.andThen]
 unfold Rep;refine⟨[.agg zs.toArray,.bool false],rfl,?_⟩;unfold gI;refine⟨_,_,rfl,?_,?_⟩
 unfold Rep;exact⟨zs,rfl,hzc _ _ _ _ (I w Y σ)⟩
 unfold gI;refine⟨_,_,rfl,by unfold Rep;rfl,by unfold gI;rfl⟩
 have h:K (.DJ [.agg cs,.sb true]) []:=h.1 cs g1;refine qG.quiet H (cv:=.tuple #[e'.val,.bool true]) ?_ ?_ h
 simp[execOp,ho,g,hke,Instr.lookup,lh hu,MapKept.run_getObj_map h1,MapKept.run_checkKey U J,MapKept.run_findKey U g2,Result.andThen]
 unfold Rep;refine⟨[e'.val,.bool true],rfl,?_⟩;unfold gI;refine⟨_,_,rfl,?_,?_⟩
 rw[g5];unfold Rep;exact⟨vs,rfl,gI.keep cs ⟨λ_ _ _=>rfl,λ_ _ h=>h,Nat.le_refl _,λ_ _ h=>by cases h⟩ vs g6⟩
 unfold gI;refine⟨_,_,rfl,by unfold Rep;rfl,by unfold gI;rfl⟩
 exact h.elim
 exact h.elim
include hT H hlk in
theorem ZI {t:TypeId}{m k x:Operand}(ho:o.op=.mapUpdate t m k x\/o.op=.insert t m k x)(h:acd T (iW.jI P T) t (sD T ps m) (sD T ps k) (sD T ps x) lk K):qG P C o a w σ ps st n id K:=by
 have hm:=lD H m;have hk:=lD H k;have hx:=lD H x;unfold acd at h
 split at h
 rename_i agg size zero plain sz z b q e em ek;obtain⟨kt,et,hu,g,hz,hsz⟩:=XW hT e
 split at h
 rename_i rows hb
 split at h
 rename_i xs ex
 split at h
 rename_i cs δ hp
 cases hmd:Zk b δ with
 | true=>rw[hmd] at h;exact h.elim
 | false=>
  rw[hmd] at h;simp only[cond_false] at h
  cases hl:Nat.beq (oG cs) sz with
  | false=>rw[hl] at h;exact h.elim
  | true=>
   rw[hl] at h;simp only[cond_true] at h;obtain⟨cs2,hl2,hc2,hw2,hK,_⟩:=Aw h;rw[em] at hm;unfold Rep at hm;obtain⟨l,hs,hme⟩:=hm;have hke:a.eval k=.int .i64 q:=qo hk ek;rw[ex] at hx;unfold Rep at hx;obtain⟨vs,hxe,hxr⟩:=hx;obtain⟨Y1,H1,hr1,hy1⟩:=FD xs cs δ hp Y st H (λb ro sz rows hb=>⟨ro,hlk _ _ hb⟩) vs hxr;have hst1:jk (jJ δ st) b=some (.map rows):=by rw[Ou δ st hmd];exact hlk _ _ hb
   have hB:gW w Y1 σ l (.map rows):=by
    rcases H1.store.blk b _ hst1 with ⟨l',hl',hB⟩|⟨hn,e⟩
    rw[hs] at hl';cases hl';exact hB
    cases e
   have hBm:=hB;unfold gW at hB;obtain⟨⟨es,ck,h1,h2⟩,hY⟩:=hB;have J:IsKey (.int .i64) (.int .i64 q):=by simp[IsKey]
   have hr2:=hw2 w Y1 iU vs hr1
   have fin:∀ (es' : Array MapEntry) (U : Nat),pG w Y1 es'.toList (QZ rows q cs2)->(Instr.mapUpdate t (.map (some l.cb)) (.int .i64 q) (.agg vs.toArray)).run P w=.ok () { w with heap:=w.heap.setIfInBounds l.cb (.map es' U) }->qG P C o a w σ ps st n id K:=by
    intro es' U hR hrun;have I:=heap_set (o':=.map es' U) h1
    have H2:SW C { w with heap:=w.heap.setIfInBounds l.cb (.map es' U) } Y1 σ ps a.tmps.toList (oH (jJ δ st) b (some (.map (QZ rows q cs2)))) n:=by
     refine H1.update hst1 hs hY rfl rfl rfl aC (λk hk=>I.2 k hk) (λ_ _ e=>by cases e) λhkp=>?_;unfold gW;have K0:Keep w { w with heap:=w.heap.setIfInBounds l.cb (.map es' U) } Y1 Y1 iU iU:=⟨λk _ hy=>I.2 k (λe=>hy (e ▸ hY)),λ_ _ h=>h,by simp,oq.refl _⟩;exact⟨⟨es',U,I.1,hR.keep K0⟩,hY⟩
    refine⟨_,_,Go.undef,{ w with heap:=w.heap.setIfInBounds l.cb (.map es' U) },Y1,σ,hK,.inr ⟨?_,rfl⟩,?_,by simp[Rep],Off.refl _ _⟩
    rcases ho with ho|ho<;>simp[execOp,ho,hme,hke,hxe,hrun]
    rw[Ov];have:uH (δ++[(b,some (mO.map ((iW.jI P T).afZ rows q cs2)))]) n id=max n (id+1):=by cases δ<;>rfl
    rw[this];exact H2.mono ah
   rcases pG.find q es.toList rows 0 h2 with ⟨g1,g2⟩|⟨j,e',cs',vs',g1,g2,g3,g4,g5,g6⟩
   refine fin (es.push { key:=.int .i64 q,val:=.agg vs.toArray,born:=ck }) (ck+1) ?_ ?_
   rw[Array.toList_push];exact pG.push hr2 _ _ h2 g1
   simp[Instr.mapUpdate,lh hu,MapKept.run_getObj_map h1,MapKept.run_checkKey g J,MapKept.run_findKey g g2,MapKept.run_setObj_map _ h1,Result.andThen]
   refine fin (es.modify j λe=>{ e with key:=.int .i64 q,val:=.agg vs.toArray }) ck ?_ ?_
   rw[Array.toList_modify];exact pG.modify hr2 _ _ 0 j _ h2 g2
   have g3' : es[j]?=some e':=by simpa using g3
   simp[Instr.mapUpdate,lh hu,MapKept.run_getObj_map h1,MapKept.run_checkKey g J,MapKept.run_findKey g g2,g3',g4,MapKept.run_keyThatStays J,MapKept.run_setObj_map _ h1,Result.andThen]
 exact h.elim
 exact h.elim
 exact h.elim
 exact h.elim
end
end Go.Pv
namespace Go.Pv
open Go
structure Ci (P:Program):Prop where
 und:NR P
 flds:∀ t fs,t<P.types.size->P.underlying t=some (.struct fs)->∀ f∈fs.toList,P.info? f.type≠none
 elem:∀ t k e,t<P.types.size->P.underlying t=some (.array k e)->P.info? e≠none
 mixed:P.follows .mixedOrders=true
theorem ZJ {T:Tab}{S:iW}{t:TypeId}{parts:Array (Nat×Operand)}{ps:List PV}{lk:Nat->Option mO}{id:Nat}{K:PV->Dl->Prop}(h:oO T S (.build t parts) ps lk id K):(T t).ok=true:=by
 simp only[oO] at h
 split at h
 rename_i e;rw[e]
 rename_i e;rw[e]
 exact h.elim
section
variable {P:Program}{T:Tab}(hT:jq P T)(hW:Ci P){C:Ctx T}{o:Oper}{a:Act}{w:World}{Y:Nat->Prop}{σ:Sg}{ps:List PV}{st:St}{n id:Nat}{K:PV->Dl->Prop}{lk:Nat->Option mO}
 (H:SW C w Y σ ps a.tmps.toList st n) (hlk:∀ b x,lk b=some x->jk st b=some x) (hid:σ id=none/\T.qf<=id)
include hT hW H hlk hid in
theorem zl (h:oO T (iW.jI P T) o.op ps lk id K):qG P C o a w σ ps st n id K:=by
 cases ho:o.op with
 | move x=>rw[ho] at h;exact af5 H ho h
 | assign x=>rw[ho] at h;exact ac9 H ho h
 | pick c x y=>rw[ho] at h;exact af6 H ho h
 | alloc t=>rw[ho] at h;exact aer hT H hid ho h
 | box t x=>rw[ho] at h;exact ahr H hid ho h
 | build t parts=>rw[ho] at h;exact aew hT H ho (λU hu=>hW.flds t U (hT t (ZJ h)).2 hu) (λk e hu=>hW.elem t k e (hT t (ZJ h)).2 hu) h
 | buildSlice t len parts=>rw[ho] at h;exact VQ hT H hlk hid ho h
 | load t x=>rw[ho] at h;exact af9 hT H hlk ho h
 | store t x y=>rw[ho] at h;exact aeq hT H hlk hid ho h
 | nilCheck x=>rw[ho] at h;exact Zr H ho h
 | binOp op t x y u=>rw[ho] at h;exact aev hT H hW.und ho h
 | unOp op t x=>
  rw[ho] at h
  cases op with
  | not=>exact aek H ho h
  | neg=>exact ael H ho h
  | _=>exact dN
 | convert s d x=>rw[ho] at h;exact aaY hT H hlk ho h
 | makeFunc fn first cap=>
  rw[ho] at h
  cases fn with
  | func f=>exact Zw H ho h
  | _=>exact dN
 | makeSlice t x y=>rw[ho] at h;exact XR hT H hid ho h
 | slice t x lo hi J=>rw[ho] at h;exact aey hT H hlk ho hid h
 | fieldAddr t x f=>rw[ho] at h;exact XJ hT H ho h
 | field t x f=>rw[ho] at h;exact aes hT H hW.und ho h
 | indexAddr t x i=>rw[ho] at h;exact XO hT H hlk ho h
 | index t x i=>rw[ho] at h;exact aet hT H hW.und ho h
 | extract t i=>rw[ho] at h;exact aaR H ho h
 | call c=>
  rw[ho] at h;obtain⟨callee,args,ts⟩:=c
  cases callee with
  | builtin b=>
   cases b with
   | len=>exact ahs hT H ho h
   | min=>exact aht hT H ho h
   | max=>exact ahu hT H ho h
   | append=>exact adg hT H hlk hid ho h
   | clear=>exact aeA hT H hlk hid ho h
   | _=>exact dN
  | _=>exact dN
 | _=>rw[ho] at h;exact dN
include hT hW H hlk hid in
theorem agk (h:opN T (iW.jI P T) o.op ps lk id K):qG P C o a w σ ps st n id K:=by
 unfold opN at h
 split at h
 exact zl hT hW H hlk hid h
 split at h
 rename_i ho;exact adh H hid ho h
 rename_i ho;exact ZI hT H hlk (.inl ho) h
 rename_i ho;exact ZI hT H hlk (.inr ho) h
 rename_i ho;exact adk hT H hlk ho h
 rename_i ho
 split at h
 rename_i U ht;exact adi hT H hlk ho U ht h
 exact zl hT hW H hlk hid fB
 rename_i ho
 split at h
 exact agi hT H hlk hid ho (λhE=>zl hT hW H hlk hid (by rw[ho];exact hE)) h
 exact zl hT hW H hlk hid fB
 rename_i ho
 split at h
 rename_i U ht
 split at h
 exact agj hT H hlk hid ho U ht h
 exact zl hT hW H hlk hid fB
 exact zl hT hW H hlk hid fB
 exact zl hT hW H hlk hid h
end
theorem gI.pI {w:World}{Y:Nat->Prop}{σ:Sg}{p:PV}:∀ (ps:List PV) (vs:List Value) (t:Nat),gI w Y σ ps vs->Rep w Y σ p (vs.getD t Go.undef)->gI w Y σ (nY ps t p) vs
 | [],vs,t,h,_=>by simpa [nY] using h
 | q::ps,vs,0,h,hp=>by
  unfold gI at h;obtain⟨v,U,rfl,h1,h2⟩:=h;simp only[nY];unfold gI;exact⟨v,U,rfl,by simpa using hp,h2⟩
 | q::ps,vs,t+1,h,hp=>by
  unfold gI at h;obtain⟨v,U,rfl,h1,h2⟩:=h;simp only[nY];unfold gI;exact⟨v,U,rfl,h1,gI.pI ps U t h2 (by simpa using hp)⟩
theorem SW.pI {T:Tab}{C:Ctx T}{w:World}{Y:Nat->Prop}{σ:Sg}{ps:List PV}{vs:List Value}{st:St}{n:Nat}(H:SW C w Y σ ps vs st n){d:Nat}{b:Bool}(U:jD ps d=.sb b)(c:Bool)(hc:b=c):SW C w Y σ (nY ps d (.bool c)) vs st n:=by
 refine(H.rG ?_);refine gI.pI _ _ _ H.vals ?_;have:=H.vals.get _ _ d;rw[U] at this;rw[KT this,hc];simp[Rep]
theorem lL.pI {T:Tab}{C:Ctx T}{E:Env}{a:Act}{w:World}(h:lL C E a w){d:Nat}{b:Bool}(J:jD E.tmps d=.sb b)(c:Bool)(hc:b=c):lL C (qj E (some d) (.bool c)) a w:=by
 obtain⟨⟨Y,σ,H⟩,U⟩:=h;refine⟨⟨Y,σ,(H.rG ?_)⟩,U⟩;refine gI.pI _ _ _ H.vals ?_;have:=H.vals.get _ _ d;rw[J] at this;rw[KT this,hc];simp[Rep]
theorem lL.put {T:Tab}{C:Ctx T}{w:World}{Y:Nat->Prop}{σ:Sg}{a:Act}{ps:List PV}{st:St}{n:Nat}(H:SW C w Y σ ps a.tmps.toList st n)(U:DF C a){v:PV}{cv:Value}(hv:Rep w Y σ v cv)(d:Option Nat) :
  lL C (qj ⟨ps,st,n⟩ d v) (a.put d cv) w:=by
 cases d with
 | none=>exact⟨⟨Y,σ,H⟩,U⟩
 | some d=>
  refine⟨⟨Y,σ,(H.rG ?_)⟩,U⟩;simp only[Act.put,qj,Array.toList_setIfInBounds];exact gI.set hv _ _ _ H.vals
def fW (ro:Option Nat):Fence:={ fn:=λ_=>True,depth:=none,alive:=false,round:=ro }
theorem adl {P:Program}{n:Nat}{row:String}{args:Array Value}{w:World}{R:Value->World->Prop}(h:Rows P row args w R):RowsIn Fence.wide n P row args w R :=
 λc cs _=>let ⟨v,w',r,s⟩:=h c cs;⟨v,w',r,stepsIn_wide.2 s⟩
theorem JF {P:Program}{o:Oper}{a:Act}{w:World}{next:Act->World->Prop}{Q:Exit->Act->World->Prop}{ro:Option Nat}(U:∀ c,o.op≠.defer c)(h:o.wp P a w next Q):o.wpIn (fW ro) 0 P a w next Q:=by
 refine⟨λ_ _=>trivial,?_⟩;show o.uponIn (fW ro) 0 P a next Q ((o.semAt ro a.eval).run P w)
 rw[Oper.semAt_eq _ _ _ U];unfold Oper.wp at h;generalize (execOp a.eval o).run P w=r at h
 cases r with
 | ok v w' =>
  cases v with
  | value v=>exact h
  | skip=>exact h
  | defer d=>exact h
  | enter f args=>exact⟨λT=>(by cases T),(callsIn_wide (n:=0-1)).2 h⟩
  | row r args=>exact⟨λT=>(by cases T),adl (n:=0-1) h⟩
  | _=>exact h.elim
 | halt v w'=>cases v<;>first|exact h|exact h.elim
theorem ahz {T:Tab}{S:iW}{o:Op}{tmps:List PV}{lk:Nat->Option mO}{id:Nat}{K:PV->Dl->Prop}(h:oO T S o tmps lk id K):∀ c,o≠.defer c:=by
 rintro c rfl;exact h
theorem ahA {T:Tab}{S:iW}{o:Op}{tmps:List PV}{lk:Nat->Option mO}{id:Nat}{K:PV->Dl->Prop}(h:opN T S o tmps lk id K):∀ c,o≠.defer c:=by
 rintro c rfl
 unfold opN at h
 split at h
 exact h
 exact h
theorem adm {P:Program}{T:Tab}{l:Nat}{rc:Loop}{pv:Value}{args:List PV}{E:Env}{K:PV->Env->Prop}{ρ:List Nat}{v:PV}{st1:St}{n1:Nat}
  (hnd:KP ρ=true) (hlt:ltN E.next ρ=true) (hnn:lY (yD (DL ρ) E.st 0 ρ)=true) (h0:ρ[0]?=some 0)
  (hF:YS P T.gl l rc pv (Ai (vI (DL ρ) 8) args) (yD (DL ρ) E.st 0 ρ) (lH ρ) (λu st n=>u=v/\st=st1/\n=n1)) (hK:K (vI (BQ ρ E.next) 8 v) (EM ρ E st1 n1)):ahp P T l rc pv args E K:=by
 intro C Y σ w vs U H hr hy0 hl g
 have:=XU (P:=P) (N:=E.next+(n1-lH ρ)) (v:=v) (st1:=st1) (n1:=n1) (Z:=λ_ _=>True)
  (X:=λR=>U.length=rc.params.size/\RoundIn Fence.wide 0 P l rc.fn ((rc.params.zip U.toArray).foldl (λtmps (t,a)=>tmps.setIfInBounds t a) rc.tmps) rc.assign rc.body w R)
  H hnd hlt H.fix.1 (λb hb _=>H.next b hb) ⟨Nat.le_refl _,Nat.le_add_right _ _⟩ hr (by intro R R' h k;exact⟨k.1,RoundIn.mono k.2 h⟩)
  (λσc hσc J hra I=>by
   obtain⟨h1,h2⟩:=hF w Y σc U H.wU H.vJ J hra I hnn (H.y0 l hy0) hl (by unfold Rep at g |-;rw[hσc 0 0 h0];exact g);refine⟨h1,RoundIn.mono h2 λe w' hh=>?_⟩;obtain⟨cv,u,st',n',Y',σ',h3,h4,h5⟩:=hh;exact⟨cv,u,st',n',Y',σ',h3,h4,h5,trivial⟩)
 refine⟨this.1,RoundIn.mono this.2 λe w' hh=>?_⟩;obtain⟨cv,Y',σ',e1,h3,h4,_⟩:=hh;exact⟨cv,_,_,Y',σ',e1,hK,h3,h4⟩
def OpT (P:Program)(T:Tab)(o:Oper)(E:Env)(K:Env->Prop):Prop := ∀ (ro:Option Nat) (C:Ctx T) a w,lL C E a w->∀ next Q,(∀ E' a' w',lL C E' a' w'->K E'->next a' w')->o.wpIn (fW ro) 0 P a w next Q
theorem agl {P:Program}{T:Tab}(hT:jq P T)(hW:Ci P){o:Oper}{E:Env}{K:Env->Prop}
  (h:oO T (iW.jI P T) o.op E.tmps (jk E.st) E.next λv δ=>K (qj ⟨E.tmps,jJ δ E.st,Su δ E.next⟩ o.dst v)):OpT P T o E K:=by
 intro ro C a w hA next Q J
 refine JF (ahz h) ?_;obtain⟨⟨Y,σ,H⟩,I⟩:=hA;obtain⟨v,δ,cv,w',Y',σ',g,U,H',hv,_⟩:=zl hT hW H (λ_ _ h=>h) ⟨H.next _ (Nat.le_refl _),H.fix.1⟩ h;have hn:uH δ E.next E.next=Su δ E.next:=by cases δ<;>simp[uH,Su]
 rw[hn] at H';have:=J _ _ _ (lL.put H' I hv o.dst) g;unfold Oper.wp;rcases U with U|⟨U,rfl⟩
 rw[U];exact this
 rw[U];exact this
theorem agm {P:Program}{T:Tab}(hT:jq P T)(hW:Ci P){o:Oper}{E:Env}{K:Env->Prop}
  (h:opN T (iW.jI P T) o.op E.tmps (jk E.st) E.next λv δ=>K (qj ⟨E.tmps,jJ δ E.st,Su δ E.next⟩ o.dst v)):OpT P T o E K:=by
 intro ro C a w hA next Q J
 refine JF (ahA h) ?_;obtain⟨⟨Y,σ,H⟩,I⟩:=hA;obtain⟨v,δ,cv,w',Y',σ',g,U,H',hv,_⟩:=agk hT hW H (λ_ _ h=>h) ⟨H.next _ (Nat.le_refl _),H.fix.1⟩ h;have hn:uH δ E.next E.next=Su δ E.next:=by cases δ<;>simp[uH,Su]
 rw[hn] at H';have:=J _ _ _ (lL.put H' I hv o.dst) g;unfold Oper.wp;rcases U with U|⟨U,rfl⟩
 rw[U];exact this
 rw[U];exact this
theorem adn {P:Program}{T:Tab}(hT:jq P T)(hW:Ci P){o:Oper}{E:Env}{K:Env->Prop}(h:ad8 T (iW.jI P T) o E K):OpT P T o E K:=by
 unfold ad8 at h
 split at h
  
 rename_i f args ts ho
 split at h
 rename_i k caps O;intro ro C a w hA next Q U
 refine JF fC ?_;obtain⟨⟨Y,σ,H⟩,hd⟩:=hA;have I:=lD H f;rw[O] at I;unfold Rep at I;obtain⟨cs,ef,hcs⟩:=I;have hargs:=vM H args.toList;have hall:=FB (T.hid k) _ _ (gI.app _ _ _ _ hargs hcs);obtain⟨hent,hcall⟩:=KZ h C Y σ w a.tmps.toList _ H hall;unfold Oper.wp
 have J:(execOp a.eval o).run P w=.ok (.enter k (args.toList.map a.eval++cs).toArray) w:=by
  have g:args.map a.eval=(args.toList.map a.eval).toArray:=by apply Array.ext';simp
  simp only[execOp,ho,resolve,ef,Deferred.ofValue,Sem.run_bind,Sem.run_pure,Result.andThen,invoke,g];have:(#[]++(args.toList.map a.eval).toArray++cs.toArray)=(args.toList.map a.eval++cs).toArray:=by apply Array.ext';simp
  rw[this];exact hent
 rw[J];refine Calls.mono hcall λe w' hh=>?_;obtain⟨cv,v,E',Y',σ',rfl,hK,H',hv⟩:=hh;exact U _ _ _ (lL.put H' hd hv o.dst) hK
   
 rename_i l O;intro ro C a w hA next Q U
 obtain⟨⟨Y,σ,H⟩,hd⟩:=hA;have I:=lD H f;rw[O] at I;unfold Rep at I;obtain⟨rc,pv,v1,st1,n1,hyl,has,hst0,h1,h2,h3,h4,hF,hK1⟩:=h;have h:=adm (K:=λv E=>K (qj E o.dst v)) h1 h2 h3 h4 hF hK1;obtain⟨hy0,hm,hl0,hpas,l0,hb0,hpv⟩:=hd.2 l rc pv hyl;have hl:w.heap[l]?=some (.loop rc):=by rw[H.qm.block l (Array.getElem?_eq_some_iff.1 hl0).1 hm];exact hl0
 obtain⟨hlen,hround⟩:=h C Y σ w a.tmps.toList _ H (vM H args.toList) hy0 hl (by unfold Rep;exact⟨l0,by rw[H.fix.2 0 hpas];exact hb0,hpv⟩);refine⟨λ_ _=>trivial,?_⟩;show o.uponIn (fW ro) 0 P a next Q ((o.semAt ro a.eval).run P w)
 rw[Oper.semAt_eq _ _ _ fC];have g:args.map a.eval=(args.toList.map a.eval).toArray:=by apply Array.ext';simp
 have hy:=run_yield (P:=P) (args:=(args.toList.map a.eval).toArray) hl (by simpa using hlen)
 have J:(execOp a.eval o).run P w=.ok (.round l rc.fn ((rc.params.zip (args.toList.map a.eval).toArray).foldl (λtmps (t,a)=>tmps.setIfInBounds t a) rc.tmps) rc.assign rc.body) w:=by
  simp only[execOp,ho,resolve,I,Deferred.ofValue,Sem.run_bind,Sem.run_pure,Result.andThen,invoke,g];have:(#[]++(args.toList.map a.eval).toArray)=(args.toList.map a.eval).toArray:=by apply Array.ext';simp
  rw[this];exact hy
 rw[J];refine⟨λhd=>(by cases hd),?_⟩;show RoundIn Fence.wide 0 P l _ _ _ _ w _;refine RoundIn.mono hround λe w' hh=>?_;obtain⟨cv,v,E',Y',σ',rfl,hK,H',hv⟩:=hh;exact U _ _ _ (lL.put H' hd hv o.dst) hK
 exact h.elim
 split at h
 rename_i c x y ho
 split at h
 rename_i t hc;obtain⟨ht,O⟩:=h;intro ro C a w hA next Q U
 refine JF fC ?_;obtain⟨⟨Y,σ,H⟩,hd⟩:=hA;have hcv:=H.vals.get _ _ c;rw[hc] at hcv;have hcv:=KT hcv
 have hcv' : a.eval (.tmp c)=.bool t:=by
  rw[<- hcv];simp[Act.eval,Array.getD_eq_getD_getElem?,List.getD_eq_getElem?_getD]
 have J:(execOp a.eval o).run P w=.ok (.value (if t then a.eval x else a.eval y)) w:=by
  simp[execOp,ho,hcv',asBool]
 unfold Oper.wp;rw[J]
 cases t with
 | true=>exact U _ _ _ (lL.put (H.pI hc true rfl) hd (v:=sD T E.tmps x) (lD H x) o.dst) (ht rfl)
 | false=>exact U _ _ _ (lL.put (H.pI hc false rfl) hd (v:=sD T E.tmps y) (lD H y) o.dst) (O rfl)
 exact agl hT hW fB
 exact agm hT hW h
theorem ZK {P:Program}{T:Tab}{all:Array Oper}{o:Oper}{E:Env}{run skip:Env->Prop}(h:gd (iW.jI P T) all o.guard E run skip){T:Tab}{C:Ctx T}{a:Act}{w:World}(hA:lL C E a w) :
  ∃ E',lL C E' a w/\((Region.wanted o (yielded all a.tmps)=true/\run E')\/(Region.wanted o (yielded all a.tmps)=false/\skip E')):=by
 unfold gd at h
 split at h
 rename_i hg;exact⟨E,hA,.inl ⟨by simp[Region.wanted,hg],h⟩⟩
 rename_i j want hg
 split at h
 rename_i oj hj
 split at h
 rename_i d hd
 have g:∀ b,a.tmps.toList.getD d Go.undef=.bool b->yielded all a.tmps j=some b:=by
  intro b I;rw[List.getD_eq_getElem?_getD] at I;unfold yielded;simp only[hj,Option.bind_some,hd]
  cases hx:a.tmps[d]? with
  | none=>rw[Array.getElem?_toList,hx] at I;cases I
  | some v=>rw[Array.getElem?_toList,hx] at I;simp at I;subst I;rfl
 have hundef:a.tmps.toList.getD d Go.undef=Go.undef->yielded all a.tmps j=none:=by
  intro I;rw[List.getD_eq_getElem?_getD] at I;unfold yielded;simp only[hj,Option.bind_some,hd]
  cases hx:a.tmps[d]? with
  | none=>rfl
  | some v=>rw[Array.getElem?_toList,hx] at I;simp at I;subst I;rfl
 have J:∀ b,yielded all a.tmps j=some b->Region.wanted o (yielded all a.tmps)=(b==want):=by
  intro b I;simp[Region.wanted,hg,I]
 have hA':=hA;obtain⟨⟨Y,σ,H⟩,hdef⟩:=hA';have U:=H.vals.get _ _ d
 split at h
 rename_i e;rw[e] at U;have hw:=J true (g true (yQ U));refine⟨E,hA,?_⟩;rw[hw]
 cases want with
 | true=>exact .inl ⟨rfl,h⟩
 | false=>exact .inr ⟨rfl,h⟩
 rename_i e;rw[e] at U;have hw:=J false (g false (yQ U));refine⟨E,hA,?_⟩;rw[hw]
 cases want with
 | true=>exact .inr ⟨rfl,h⟩
 | false=>exact .inl ⟨rfl,h⟩
 rename_i b e;have hg3:=U;rw[e] at hg3;have hw:=J b (g b (KT hg3));obtain⟨h1,h2⟩:=h;refine⟨qj E (some d) (.bool b),⟨⟨Y,σ,H.pI e b rfl⟩,hdef⟩,?_⟩;rw[hw]
 cases b with
 | true=>
  have h1:=h1 rfl
  cases want with
  | true=>exact .inl ⟨rfl,h1⟩
  | false=>exact .inr ⟨rfl,h1⟩
 | false=>
  have h2:=h2 rfl
  cases want with
  | true=>exact .inr ⟨rfl,h2⟩
  | false=>exact .inl ⟨rfl,h2⟩
 rename_i e;rw[e] at U;have hy:=hundef (by unfold Rep at U;exact U);exact⟨E,hA,.inr ⟨by simp[Region.wanted,hg,hy],h⟩⟩
 exact h.elim
 exact h.elim
 exact h.elim
theorem AB {P:Program}{T:Tab}(hT:jq P T)(hW:Ci P)(ro:Option Nat){all:Array Oper}{Q:Exit->Act->World->Prop}{C:Ctx T}:∀ (l:List Oper) (E:Env) (K:Env->Prop),opsE T (iW.jI P T) all l E K ->
  ∀ a w,lL C E a w->(∀ g a' w',lL C g a' w'->K g->Q .normal a' w')->wpListIn (fW ro) 0 P all Q l a w
 | [],E,K,h,a,w,hA,hQ=>hQ E a w hA h
 | o::l,E,K,h,a,w,hA,hQ=>by
  simp only[opsE] at h;obtain⟨g,U,hh⟩:=ZK h hA;unfold wpListIn;rcases hh with ⟨J,hh⟩|⟨J,hh⟩
  rw[if_pos J];refine adn hT hW hh ro C a w U _ _ λE2 a2 w2 hA2 I=>?_;exact AB hT hW ro l E2 K I a2 w2 hA2 hQ
  rw[if_neg (by rw[J];simp)];obtain⟨⟨Y,σ,H⟩,hd⟩:=U;exact⟨λ_ _=>trivial,AB hT hW ro l _ K hh _ w (lL.put H hd (v:=.undef) (cv:=Go.undef) bU o.dst) hQ⟩
theorem aa0 {P:Program}{T:Tab}(hT:jq P T)(hW:Ci P){id:Nat}{l:Array Oper}{Q:Exit->Act->World->Prop}{C:Ctx T}{E:Env}{K:Env->Prop}(h:opsE T (iW.jI P T) l l.toList E K){a:Act}{w:World}(hA:lL C E a w)
  (I:∀ U J w',lL C U J w'->K U->Q .normal J w'):(Code.region id l false).wp P Q a w :=
 wpIn_wide.1 (wpIn_region_list (F:=Fence.wide) (n:=0) (AB hT hW none l.toList E K h a w hA I))
end Go.Pv
namespace Go.Pv
open Go
theorem Cj {T:Tab}{ps qs:List PV}:∀ (l:List Operand),(∀ x∈l,sD T ps x=sD T qs x)->evA T ps l=evA T qs l
 | [],_=>rfl
 | x::l,h=>by simp only[evA];rw[h x aC,Cj l λy hy=>h y (by simp[hy])]
theorem MQ {T:Tab}{ps qs:List PV}:∀ (l:List (Nat×Operand)),(∀ x∈l,sD T ps x.2=sD T qs x.2)->evP T ps l=evP T qs l
 | [],_=>rfl
 | (i,x)::l,h=>by simp only[evP];rw[h (i,x) aC,MQ l λy hy=>h y (by simp[hy])]
theorem Ri {T:Tab}{ps qs:List PV}(l:Option Operand)(h:∀ x,l=some x->sD T ps x=sD T qs x):evO T ps l=evO T qs l:=by
 cases l with
 | none=>rfl
 | some x=>simp only[evO];rw[h x rfl]
theorem Rj {T:Tab}{S:iW}{o:Op}{ps qs:List PV}{lk:Nat->Option mO}{id:Nat}{K:PV->Dl->Prop}(h:∀ x∈o.operands,sD T ps x=sD T qs x) :
  oO T S o ps lk id K=oO T S o qs lk id K:=by
 cases o
 case build t parts=>
  have:=MQ (ps:=ps) (qs:=qs) parts.toList λx hx=>h x.2 bY;simp only[oO,this]
 case buildSlice t len parts=>
  have:=MQ (ps:=ps) (qs:=qs) parts.toList λx hx=>h x.2 bY;simp only[oO,this]
 case makeFunc fn first cap=>
  cases fn
  case func f=>
   have:=Cj (ps:=ps) (qs:=qs) cap.toList λx hx=>h x (by simp only[Op.operands,Array.mem_append];exact .inr fE);simp only[oO,this]
  all_goals simp only[oO]
 case slice t x lo hi mx=>
  have h0:=h x eH;have h1:=Ri (ps:=ps) (qs:=qs) lo λy hy=>h y fD;have h2:=Ri (ps:=ps) (qs:=qs) hi λy hy=>h y fD;have U:=Ri (ps:=ps) (qs:=qs) mx λy hy=>h y fD;simp only[oO,h0,h1,h2,U]
 case call c=>
  obtain⟨callee,args,ts⟩:=c;cases callee
  case builtin b=>
   have:=Cj (ps:=ps) (qs:=qs) args.toList λx hx=>h x (by simp only[Op.operands,Call.operands];simpa using hx);simp only[oO,this]
  all_goals simp only[oO]
 case unOp op t x=>
  have h0:=h x eH;cases op<;>simp only[oO,h0]
 all_goals (simp only[Op.operands,List.mem_toArray,List.mem_cons,List.not_mem_nil,or_false,forall_eq_or_imp,forall_eq] at h;simp only[oO,h])
theorem KI {b:Bool}{p:Prop}:(bif b then p else False)=(b=true/\p):=by cases b<;>simp
theorem xk {agg:Bool}{size:Nat}{row:List PV}{c:Nat}{K:PV->Prop}(h:loadRow agg size row c K):∃ v,K v/\∀ U : PV->Prop,U v->loadRow agg size row c U:=by
 unfold loadRow at h |-;cases agg<;>simp only[cond_true,cond_false,KI] at h |-
 all_goals exact⟨_,h.2,λU hk=>⟨h.1,hk⟩⟩
theorem aeD {P:Program}{T:Tab}{op:BinOp}{t:TypeId}{x y:PV}{K:PV->Prop}(h:ad1 T (iW.jI P T) op t x y K):∃ v,K v/\∀ U : PV->Prop,U v->ad1 T (iW.jI P T) op t x y U:=by
 have spec:∀ {k J : IntKind} {a b:Int},VN (iW.jI P T) op k a J b K->∃ v,K v/\∀ U : PV->Prop,U v->VN (iW.jI P T) op k a J b U:=by
  intro k J a b h;cases op<;>simp only[VN,KI,iW.jI] at h |-
  case shl=>exact⟨_,h.2,λU hk=>⟨h.1,hk⟩⟩
  case shr=>exact⟨_,h.2,λU hk=>⟨h.1,hk⟩⟩
  case quo=>exact⟨_,h.2.2,λU hk=>⟨h.1,h.2.1,hk⟩⟩
  case rem=>exact⟨_,h.2.2,λU hk=>⟨h.1,h.2.1,hk⟩⟩
 have I:∀ {b:Bool},eqK (iW.jI P T) op b K->∃ v,K v/\∀ U : PV->Prop,U v->eqK (iW.jI P T) op b U:=by
  intro b h;unfold eqK at h |-;cases h1:NL op<;>simp only[h1,cond_true,cond_false] at h |-
  cases h2:NM op<;>simp only[h2,cond_true,cond_false] at h |-
  exact⟨_,h,λU hk=>hk⟩
  exact⟨_,h,λU hk=>hk⟩
 have eql:∀ {b:Bool},eqL op b K->∃ v,K v/\∀ U : PV->Prop,U v->eqL op b U:=by
  intro b h;unfold eqL at h |-;cases h1:NL op<;>simp only[h1,cond_true,cond_false] at h |-
  cases h2:NM op<;>simp only[h2,cond_true,cond_false] at h |-
  cases b<;>exact⟨_,h,λU hk=>hk⟩
  exact⟨_,h,λU hk=>hk⟩
 have ints:∀ {k J : IntKind} {a b:Int} {v u:PV},(bif isSpec op then VN (iW.jI P T) op k a J b K
   else bif tC k J then(bif EL op then K v else bif IX op then K u else False) else False) ->
   ∃ r,K r/\∀ U : PV->Prop,U r->(bif isSpec op then VN (iW.jI P T) op k a J b U
   else bif tC k J then(bif EL op then U v else bif IX op then U u else False) else False):=by
  intro k J a b v u h;cases h1:isSpec op<;>simp only[h1,cond_true,cond_false] at h |-
  cases h2:tC k J<;>simp only[h2,cond_true,cond_false] at h |-
  cases g:EL op<;>simp only[g,cond_true,cond_false] at h |-
  cases C:IX op<;>simp only[C,cond_true,cond_false] at h |-
  exact⟨_,h,λU hk=>hk⟩
  exact⟨_,h,λU hk=>hk⟩
  exact spec h
 unfold ad1 at h |-
 split at h
 exact ints h
 cases h1:isAdd op<;>simp only[h1,cond_true,cond_false] at h |-
 cases h2:IX op<;>simp only[h2,cond_true,cond_false] at h |-
 exact⟨_,h,λU hk=>hk⟩
 simp only[iW.jI] at h |-;exact⟨_,h.2,λU hk=>⟨h.1,hk⟩⟩
 split at h
 split at h
 exact I h
 exact h.elim
 exact h.elim
 split at h
 exact ints h
 split at h
 split at h
 exact I h
 exact h.elim
 split at h
 cases h1:(Ar x&&Ar y)<;>simp only[h1,cond_true,cond_false] at h |-
 cases h2:((Ar x&&KO y) || (KO x&&Ar y))<;>simp only[h2,cond_true,cond_false] at h |-
 exact eql h
 exact eql h
 exact h.elim
theorem agn {rows:List (List PV)}{r:Nat}{row:List PV}{K:PV->Dl->Prop}{F:(PV->Dl->Prop)->List PV->Prop}(hr:rows[r]?=some row)(h:∃ v δ,K v δ/\∀ U : PV->Dl->Prop,U v δ->F U row):∃ v δ,K v δ/\∀ U : PV->Dl->Prop,U v δ->∃ row,rows[r]?=some row/\F U row:=by
 obtain⟨v,δ,h1,h2⟩:=h;exact⟨v,δ,h1,λU hk=>⟨row,hr,h2 U hk⟩⟩
theorem TY {c:Prop}{K:PV->Dl->Prop}{F:(PV->Dl->Prop)->Prop}(h0:c)(h:∃ v δ,K v δ/\∀ U : PV->Dl->Prop,U v δ->F U):∃ v δ,K v δ/\∀ U : PV->Dl->Prop,U v δ->c/\F U:=by
 obtain⟨v,δ,h1,h2⟩:=h;exact⟨v,δ,h1,λU hk=>⟨h0,h2 U hk⟩⟩
theorem acn {P:Program}{T:Tab}{o:Op}{ps:List PV}{lk:Nat->Option mO}{id:Nat}{K:PV->Dl->Prop}(hq:isQ o=true)(h:oO T (iW.jI P T) o ps lk id K) :
  ∃ v δ,K v δ/\∀ I : PV->Dl->Prop,I v δ->oO T (iW.jI P T) o ps lk id I:=by
 cases o
 case move x=>exact⟨_,_,h,λ_ hk=>hk⟩
 case assign x=>exact⟨_,_,h,λ_ hk=>hk⟩
 case pick c a b=>
  simp only[oO] at h |-
  split at h
  exact⟨_,_,h,λ_ hk=>hk⟩
  exact⟨_,_,h,λ_ hk=>hk⟩
  exact h.elim
 case nilCheck x=>
  simp only[oO] at h |-
  split at h
  all_goals first|exact⟨_,_,h,λ_ hk=>hk⟩|exact h.elim
 case extract t i=>
  simp only[oO] at h |-
  split at h
  exact fP
  exact h.elim
 case convert s d x=>
  simp only[oO] at h |-
  split at h
  split at h
  obtain⟨h1,b,h2,U⟩:=h;exact⟨_,_,U,λ_ hk=>⟨h1,b,h2,hk⟩⟩
  exact h.elim
  split at h
  exact⟨_,_,h.2,λ_ hk=>⟨h.1,hk⟩⟩
  exact h.elim
  ·split at h
   all_goals first|exact⟨_,_,h,λ_ hk=>hk⟩|exact h.elim
  exact h.elim
 case makeFunc fn first cap=>
  cases fn
  case func f=>
   simp only[oO] at h |-
   split at h
   all_goals first|exact⟨_,_,h,λ_ hk=>hk⟩|exact h.elim
  all_goals exact dN
 case unOp op t x=>
  cases op
  case not=>
   simp only[oO] at h |-
   split at h
   all_goals first|exact⟨_,_,h,λ_ hk=>hk⟩|exact h.elim
  case neg=>
   simp only[oO] at h |-
   split at h
   all_goals first|exact⟨_,_,h,λ_ hk=>hk⟩|exact h.elim
  all_goals exact dN
 case fieldAddr t x f=>
  simp only[oO] at h |-
  split at h
  split at h
  simp only[KI] at h |-;obtain⟨h0,h⟩:=h
  split at h
  exact⟨_,_,h,λ_ hk=>⟨h0,hk⟩⟩
  exact⟨_,_,h,λ_ hk=>⟨h0,hk⟩⟩
  exact⟨_,_,h,λ_ hk=>⟨h0,hk⟩⟩
  exact⟨_,_,h.2,λ_ hk=>⟨h0,h.1,hk⟩⟩
  exact h.elim
  exact h.elim
  exact h.elim
 case field t x f=>
  simp only[oO] at h |-
  split at h
  split at h
  split at h
  simp only[KI] at h |-;obtain⟨v,h1,h2⟩:=xk h.2;exact⟨v,_,h1,λ_ hk=>⟨h.1,h2 _ hk⟩⟩
  exact h.elim
  exact h.elim
  exact h.elim
 case load t x=>
  simp only[oO] at h |-
  split at h
  split at h
  split at h
  obtain⟨v,h1,h2⟩:=xk h;exact⟨v,_,h1,λ_ hk=>h2 _ hk⟩
  exact h.elim
  split at h
  exact fU
  exact fU
  simp only[iW.jI] at h |-;obtain⟨h0,h⟩:=h;obtain⟨v,h1,h2⟩:=xk h;exact⟨v,_,h1,λ_ hk=>⟨h0,h2 _ hk⟩⟩
  exact h.elim
  split at h
  simp only[iW.jI,KI] at h |-;obtain⟨row,h0,h⟩:=h
  split at h
  rename_i h' C es g;obtain⟨U,J,er,h5,h⟩:=h;obtain⟨v,h1,h2⟩:=xk h;refine⟨v,_,h1,λ_ hk=>⟨row,h0,?_⟩⟩;rw[g];exact⟨U,J,er,h5,h2 _ hk⟩
  exact h.elim
  exact h.elim
  obtain⟨v,h1,h2⟩:=xk h;exact⟨v,_,h1,λ_ hk=>h2 _ hk⟩
  exact h.elim
  exact h.elim
 case binOp op t x y u=>
  have hn:XC y=false:=by
   cases hn:XC y with
   | true=>simp only[isQ,hn] at hq;cases hq
   | false=>rfl
  simp only[oO] at h |-;rw[hn] at h |-;simp only at h |-
  split at h
  obtain⟨v,h1,h2⟩:=aeD h;exact⟨v,_,h1,λ_ hk=>h2 _ hk⟩
  exact h.elim
 case indexAddr t x i=>
  simp only[oO] at h |-
  split at h
  split at h
  simp only[KI] at h |-;obtain⟨h0,j,row,h1,h2,h⟩:=h;exact⟨_,_,h,λ_ hk=>⟨h0,j,row,h1,h2,hk⟩⟩
  split at h
  exact fQ
  exact fQ
  exact fQ
  exact h.elim
  exact fQ
  exact h.elim
  simp only[KI] at h |-;obtain⟨h0,h⟩:=h
  split at h
  obtain⟨h1,h⟩:=h
  split at h
  exact⟨_,_,h,λ_ hk=>⟨h0,h1,hk⟩⟩
  exact⟨_,_,h,λ_ hk=>⟨h0,h1,hk⟩⟩
  exact⟨_,_,h.2,λ_ hk=>⟨h0,h1,h.1,hk⟩⟩
  exact h.elim
  obtain⟨j,h1,h2,h⟩:=h
  split at h
  exact⟨_,_,h,λ_ hk=>⟨h0,j,h1,h2,hk⟩⟩
  exact⟨_,_,h,λ_ hk=>⟨h0,j,h1,h2,hk⟩⟩
  exact⟨_,_,h.2,λ_ hk=>⟨h0,j,h1,h2,h.1,hk⟩⟩
  exact h.elim
  exact h.elim
  exact h.elim
 case index t x i=>
  simp only[oO] at h |-
  split at h
  simp only[iW.jI] at h |-;obtain⟨j,c,h1,h2,h⟩:=h;exact⟨_,_,h,λ_ hk=>⟨j,c,h1,h2,hk⟩⟩
  simp only[KI] at h |-;obtain⟨h0,j,h1,h2,h⟩:=h;obtain⟨v,U,J⟩:=xk h;exact⟨v,_,U,λ_ hk=>⟨h0,j,h1,h2,J _ hk⟩⟩
  exact h.elim
 case build t parts=>
  simp only[oO] at h |-
  split at h
  simp only[KI] at h |-;obtain⟨h0,h⟩:=h
  split at h
  exact⟨_,_,h,λ_ hk=>⟨h0,hk⟩⟩
  exact h.elim
  simp only[KI] at h |-;obtain⟨h0,h⟩:=h
  split at h
  exact⟨_,_,h,λ_ hk=>⟨h0,hk⟩⟩
  exact h.elim
  exact h.elim
 case call c=>
  obtain⟨callee,args,ts⟩:=c;cases callee
  case builtin b=>
   simp only[oO] at h |-
   split at h
   split at h
   exact⟨_,_,h,λ_ hk=>hk⟩
   exact h.elim
   split at h
   exact⟨_,_,h,λ_ hk=>hk⟩
   exact h.elim
   split at h
   exact⟨_,_,h,λ_ hk=>hk⟩
   exact h.elim
   split at h
   exact⟨_,_,h,λ_ hk=>hk⟩
   exact h.elim
   split at h
   exact fP
   split at h
   exact fP
   exact h.elim
   split at h
   exact fP
   split at h
   exact fP
   exact h.elim
   exact fH
   exact fH
   exact h.elim
  all_goals exact fH
 case slice t x lo hi mx=>
  simp only[oO] at h |-
  split at h
  all_goals repeat' (first
   | exact h.elim
   | exact⟨_,_,h,λ_ hk=>hk⟩
   | (obtain⟨i,j,h1,h2,U,J,h5⟩:=h;exact⟨_,_,h5,λ_ hk=>⟨i,j,h1,h2,U,J,hk⟩⟩)
   | (split at h)
   | (simp only[KI] at h |-;refine TY h.1 ?_;replace h:=h.2)
   | (refine TY h.1 ?_;replace h:=h.2))
 all_goals exact fH
end Go.Pv
namespace Go.Pv
open Go
def Eqv (p q:PV):Prop:=∀ w Y σ v,Rep w Y σ p v↔Rep w Y σ q v
theorem Eqv.refl (p:PV):Eqv p p:=λ_ _ _ _=>Iff.rfl
theorem Eqv.symm {p q:PV}(h:Eqv p q):Eqv q p:=λw Y σ v=>(h w Y σ v).symm
theorem Eqv.trans {p q r:PV}(h:Eqv p q)(k:Eqv q r):Eqv p r:=λw Y σ v=>(h w Y σ v).trans (k w Y σ v)
theorem Eqv.bool (b:Bool):Eqv (.sb b) (.bool b):=λw Y σ v=>by simp[Rep]
def Ak (ps qs:List PV):Prop:=ps.length=qs.length/\∀ t,Eqv (jD ps t) (jD qs t)
theorem Ak.refl (ps:List PV):Ak ps ps:=⟨rfl,λ_=>Eqv.refl _⟩
theorem Ak.trans {ps qs rs:List PV}(h:Ak ps qs)(k:Ak qs rs):Ak ps rs:=⟨h.1.trans k.1,λt=>(h.2 t).trans (k.2 t)⟩
theorem Ak.symm {ps qs:List PV}(h:Ak ps qs):Ak qs ps:=⟨h.1.symm,λt=>(h.2 t).symm⟩
theorem xU (l:List PV)(d t:Nat)(v:PV):jD (nY l d v) t=if d=t/\d<l.length then v else jD l t:=by
 rw[Df,rM,Df,List.getD_eq_getElem?_getD,List.getD_eq_getElem?_getD,List.getElem?_set]
 by_cases h:d=t
 subst h
 by_cases hl:d<l.length
 simp[hl]
 simp[hl]
 simp[h]
theorem La (l:List PV)(d:Nat)(v:PV):(nY l d v).length=l.length:=by rw[rM];simp
theorem xW {l:List PV}{t:Nat}(h:l.length<=t):jD l t=.undef:=by rw[Df,List.getD_eq_getElem?_getD,List.getElem?_eq_none h];rfl
theorem gI.eqv {w:World}{Y:Nat->Prop}{σ:Sg}:∀ {ps qs:List PV} {vs:List Value},Ak ps qs->gI w Y σ ps vs->gI w Y σ qs vs
 | [],[],vs,_,h=>h
 | [],_::_,_,h,_=>by simp[Ak] at h
 | _::_,[],_,h,_=>by simp[Ak] at h
 | p::ps,q::qs,vs,h,hr=>by
  unfold gI at hr |-;obtain⟨v,U,e,h1,h2⟩:=hr;refine⟨v,U,e,(h.2 0 _ _ _ _).1 h1,gI.eqv ⟨by simpa using h.1,λt=>h.2 (t+1)⟩ h2⟩
theorem SW.eqv {T:Tab}{C:Ctx T}{w:World}{Y:Nat->Prop}{σ:Sg}{ps qs:List PV}{vs:List Value}{st:St}{n:Nat}(H:SW C w Y σ ps vs st n)(h:Ak ps qs):SW C w Y σ qs vs st n :=
 H.rG (H.vals.eqv h)
def AL (ps:List PV):Option Nat->PV->List PV
 | none,_=>ps
 | some d,v=>nY ps d v
theorem PL (E:Env)(d:Option Nat)(v:PV):qj E d v=⟨AL E.tmps d v,E.st,E.next⟩:=by cases d<;>rfl
theorem vC (ps:List PV)(d:Option Nat)(v:PV):(AL ps d v).length=ps.length:=by cases d<;>simp[AL,La]
theorem Dk {ps:List PV}{d:Option Nat}{v:PV}{t:Nat}(h:d≠some t):jD (AL ps d v) t=jD ps t:=by
 cases d with
 | none=>rfl
 | some d=>simp only[AL,xU];rw[if_neg];rintro⟨rfl,_⟩;exact h rfl
theorem SW.AL {T:Tab}{C:Ctx T}{w:World}{Y:Nat->Prop}{σ:Sg}{ps:List PV}{a:Act}{st:St}{n:Nat}(H:SW C w Y σ ps a.tmps.toList st n){v:PV}{cv:Value}(hv:Rep w Y σ v cv)(d:Option Nat) :
  SW C w Y σ (AL ps d v) (a.put d cv).tmps.toList st n:=by
 cases d with
 | none=>exact H
 | some d=>
  refine(H.rG ?_);simp only[Act.put,Pv.AL,Array.toList_setIfInBounds];exact gI.set hv _ _ _ H.vals
theorem put_defers (a:Act)(d:Option Nat)(v:Value):(a.put d v).defers=a.defers:=by cases d<;>rfl
section
variable {P:Program}{T:Tab}
def VR (P:Program)(T:Tab)(all:Array Oper)(o:Oper)(er:List PV)(lk:Nat->Option mO)(id:Nat)(v:PV)(δ:Dl)(big:Bool):Prop := ∀ (C:Ctx T) ps Y σ (a:Act) w st n,(∀ t∈o.looksAt all,jD ps t=jD er t)->SW C w Y σ ps a.tmps.toList st n->DF C a->(∀ b x,lk b=some x->jk st b=some x) -> (big=true->(∀ b,id<=b->b<id+32->σ b=none)/\T.qf<=id/\id+32<=n)->∀ next Q,(∀ cv w' Y' σ',SW C w' Y' σ' ps a.tmps.toList (jJ δ st) n->(∀ b,(b<id\/id+32<=b)->σ' b=σ b)->(big=false->σ'=σ)->Rep w' Y' σ' v cv->next (a.put o.dst cv) w')->o.wp P a w next Q
def aco (T:Tab)(all:Array Oper)(o:Oper)(er:List PV)(wb:Bool):Prop := ∀ (C:Ctx T) ps Y σ (a:Act) w st n,(∀ t∈o.looksAt all,jD ps t=jD er t)->SW C w Y σ ps a.tmps.toList st n->DF C a->Region.wanted o (yielded all a.tmps)=wb
theorem UW {all:Array Oper}{o:Oper}{er:List PV}{wb:Bool}
  (h:∀ ps st n,(∀ t∈o.looksAt all,jD ps t=jD er t)->gd (iW.jI P T) all o.guard ⟨ps,st,n⟩ (λ_=>wb=true) (λ_=>wb=false)):aco T all o er wb:=by
 intro C ps Y σ a w st n hl H U;obtain⟨J,_,hh⟩:=ZK (h ps st n hl) (C:=C) (a:=a) (w:=w) ⟨⟨Y,σ,H⟩,U⟩;rcases hh with ⟨h1,h2⟩|⟨h1,h2⟩
 rw[h1,h2]
 rw[h1,h2]
theorem aeE {all:Array Oper}{o:Oper}{E:Env}{run skip:Env->Prop}(h:gd (iW.jI P T) all o.guard E run skip) :
  ∃ J wb,Ak E.tmps J.tmps/\J.st=E.st/\J.next=E.next/\aco T all o J.tmps wb/\(wb=true->run J)/\(wb=false->skip J):=by
 unfold gd at h
 split at h
 rename_i hg;exact⟨E,true,Ak.refl _,rfl,rfl,UW (P:=P) λps _ _ _=>by simp[gd,hg],λ_=>h,λe=>by cases e⟩
 ·rename_i j want hg
  split at h
  ·rename_i oj hj
   split at h
   ·rename_i d hd
    have I:d∈o.looksAt all:=by
     unfold Oper.looksAt;refine List.mem_append_right _ ?_;simp[hg,hj,hd]
    have sem:∀ (J:Env) b,jD J.tmps d=.bool b->aco T all o J.tmps (b==want):=by
     intro J b hb;refine UW (P:=P) λps _ _ C=>?_;have:=C d I;rw[hb] at this;simp only[gd,hg,hj,hd,this];cases b<;>cases want<;>rfl
    split at h
    ·rename_i e;refine⟨E,true==want,Ak.refl _,rfl,rfl,sem E true e,?_,?_⟩<;>intro U<;>cases want<;>first|(cases U;done)|exact h
    ·rename_i e;refine⟨E,false==want,Ak.refl _,rfl,rfl,sem E false e,?_,?_⟩<;>intro U<;>cases want<;>first|(cases U;done)|exact h
    ·rename_i b e
     have hlt:d<E.tmps.length:=by
      by_cases hh:d<E.tmps.length
      exact hh
      rw[xW (Nat.le_of_not_lt hh)] at e;cases e
     have heq:Ak E.tmps (qj E (some d) (.bool b)).tmps:=by
      refine⟨by simp[qj,La],λt=>?_⟩;simp only[qj,xU]
      split
      rename_i hh;rw[<- hh.1,e];exact Eqv.bool b
      exact Eqv.refl _
     have g:jD (qj E (some d) (.bool b)).tmps d=.bool b:=by simp[qj,xU,hlt]
     obtain⟨h1,h2⟩:=h;refine⟨qj E (some d) (.bool b),b==want,heq,rfl,rfl,sem _ b g,?_,?_⟩
     ·intro U
      cases b with
      | true=>have h1:=h1 rfl;cases want<;>first|(cases U;done)|exact h1
      | false=>have h2:=h2 rfl;cases want<;>first|(cases U;done)|exact h2
     ·intro U
      cases b with
      | true=>have h1:=h1 rfl;cases want<;>first|(cases U;done)|exact h1
      | false=>have h2:=h2 rfl;cases want<;>first|(cases U;done)|exact h2
    rename_i e;refine⟨E,false,Ak.refl _,rfl,rfl,UW (P:=P) λps _ _ C=>?_,(λU=>by cases U),λ_=>h⟩;have:=C d I;rw[e] at this;simp only[gd,hg,hj,hd,this]
    exact h.elim
   exact h.elim
  exact h.elim
theorem xX {all:Array Oper}{o:Oper}{er ps:List PV}(h:∀ t∈o.looksAt all,jD ps t=jD er t):∀ x∈o.op.operands,sD T ps x=sD T er x:=by
 intro x hx
 cases x with
 | tmp t=>
  simp only[sD];refine h t ?_;unfold Oper.looksAt;exact List.mem_append_left _ (List.mem_filterMap.2 ⟨.tmp t,by simpa using hx,rfl⟩)
 | _=>rfl
theorem ahB {T:Tab}{S:iW}{o:Op}{ps:List PV}{lk:Nat->Option mO}{id id' : Nat}{K:PV->Dl->Prop}(hq:isQ o=true):oO T S o ps lk id K=oO T S o ps lk id' K:=by
 cases o
 case call c=>
  obtain⟨callee,args,ts⟩:=c;cases callee
  case builtin b=>
   cases b
   case len=>simp only[oO];generalize evA T ps args.toList=as;generalize ts.toList=tl;rcases as with _|⟨a,_|⟨b,_|⟨c,as⟩⟩⟩<;>rcases tl with _|⟨t,_|⟨u,tl⟩⟩<;>first|rfl|(cases a<;>first|rfl|(cases b<;>rfl))
   case min=>simp only[oO];generalize evA T ps args.toList=as;generalize ts.toList=tl;rcases as with _|⟨a,_|⟨b,_|⟨c,as⟩⟩⟩<;>rcases tl with _|⟨t,_|⟨u,tl⟩⟩<;>first|rfl|(cases a<;>first|rfl|(cases b<;>rfl))
   case max=>simp only[oO];generalize evA T ps args.toList=as;generalize ts.toList=tl;rcases as with _|⟨a,_|⟨b,_|⟨c,as⟩⟩⟩<;>rcases tl with _|⟨t,_|⟨u,tl⟩⟩<;>first|rfl|(cases a<;>first|rfl|(cases b<;>rfl))
   all_goals (simp[isQ] at hq)
  all_goals simp[isQ] at hq
 case makeFunc fn first cap=>cases fn<;>rfl
 case unOp op t x=>cases op<;>rfl
 all_goals first|rfl|(simp[isQ] at hq)
theorem aeF (hT:jq P T)(hW:Ci P){all:Array Oper}{o:Oper}{ps:List PV}{lk:Nat->Option mO}{id i:Nat}{K:PV->Prop}(hq:isQ o.op=true)(h:oO T (iW.jI P T) o.op ps lk id (ad9 K)) :
  ∃ v,VR P T all o ps lk i v [] false/\K v:=by
 obtain⟨v,δ,hK,hF⟩:=acn hq h
 cases δ with
 | cons x δ=>exact hK.elim
 | nil=>
  refine⟨v,?_,hK⟩;intro C qs Y σ a w st n hl H hd g _ next Q J
  have h2:=hF (λv' δ'=>v'=v/\δ'=[]) ⟨rfl,rfl⟩;rw[<- Rj (xX hl),ahB (id':=n) hq] at h2;obtain⟨v',δ',cv,w',Y',σ',⟨rfl,rfl⟩,U,H',hv,I⟩:=zl hT hW H g ⟨H.next _ (Nat.le_refl _),H.fix.1⟩ h2
  have hσ:σ'=σ:=by
   funext b
   by_cases hb:b=n
   subst hb;rw[H.next _ (Nat.le_refl _)];exact H'.next _ (Nat.le_refl _)
   exact I b hb
  subst hσ;have:=J cv w' Y' σ' H' (λ_ _=>rfl) (λ_=>rfl) hv;unfold Oper.wp;rcases U with U|⟨U,rfl⟩
  rw[U];exact this
  rw[U];exact this
theorem Lc {P:Program}{o:Oper}{f:Operand}{args:Array Operand}{ts:Array TypeId}{a:Act}{w:World}{k:Nat}{cs:List Value}(ho:o.op=.call { callee:=.value f,args,argTypes:=ts })
  (J:a.eval f=.func (.func k) #[] cs.toArray) (T:(callFunc k (args.toList.map a.eval++cs).toArray).run P w=.ok (.enter k (args.toList.map a.eval++cs).toArray) w) :
  (execOp a.eval o).run P w=.ok (.enter k (args.toList.map a.eval++cs).toArray) w:=by
 have U:args.map a.eval=(args.toList.map a.eval).toArray:=by apply Array.ext';simp
 simp only[execOp,ho,resolve,J,Deferred.ofValue,Sem.run_bind,Sem.run_pure,Result.andThen,invoke,U];have:(#[]++(args.toList.map a.eval).toArray++cs.toArray)=(args.toList.map a.eval++cs).toArray:=by apply Array.ext';simp
 rw[this];exact T
theorem SW.agp {C:Ctx T}{w:World}{Y:Nat->Prop}{σ:Sg}{ps:List PV}{vs:List Value}{st:St}{n:Nat}(H:SW C w Y σ ps vs st n)(arr:Array Value)(ty:TypeId) :
  SW C (w.alloc (.cells arr ty)) Y σ ps vs st n/\∀ p v σ',Rep w Y σ' p v->Rep (w.alloc (.cells arr ty)) Y σ' p v:=by
 have heap:(w.alloc (.cells arr ty)).heap=w.heap.push (.cells arr ty):=rfl
 have hold:∀ k,k<w.heap.size->(w.alloc (.cells arr ty)).heap[k]?=w.heap[k]?:=by
  intro k hk;rw[heap,Array.getElem?_push,if_neg ah]
 have hsz:(w.alloc (.cells arr ty)).heap.size=w.heap.size+1:=by rw[heap];simp
 exact⟨H.aep ⟨rfl,rfl,rfl,by omega,hold⟩,λp v σ' h=>Rep.keep p ⟨λk hk _=>hold k hk,λ_ _ h=>h,by omega,oq.refl _⟩ v h⟩
theorem TE (hT:jq P T){all:Array Oper}{o:Oper}{ps:List PV}{lk:Nat->Option mO}{id i:Nat}{K:PV->Prop}{t:TypeId}{len:Nat}{parts:Array (Nat×Operand)}(ho:o.op=.buildSlice t len parts)(h:opQ T (iW.jI P T) (.buildSlice t len parts) ps lk id K) :
  ∃ v,VR P T all o ps Uw i v [] false/\K v:=by
 simp only[opQ] at h
 split at h
 rename_i agg size z0 plain esz bytes z e;obtain⟨et,hu,rfl,_,hz⟩:=nJ hT e
 cases hb:(lX (P.cellsOf et)&&Nat.beq (oG z) (P.cellsOf et)&&Nat.ble (len*P.cellsOf et) 16777216&&ED (evP T ps parts.toList)) with
 | false=>rw[hb] at h;exact h.elim
 | true=>
  rw[hb] at h;simp only[cond_true] at h;simp only[Bool.and_eq_true,vK] at hb;obtain⟨⟨⟨J,hb2⟩,hb3⟩,hb4⟩:=hb
  have hpos:0<P.cellsOf et:=by
   rcases Nat.eq_zero_or_pos (P.cellsOf et) with h0|h0
   rw[h0] at J;simp[lX] at J
   exact h0
  have hzl:=Nat.eq_of_beq_eq_true hb2;have hle:=Nat.le_of_ble_eq_true hb3
  split at h
  rename_i cs O
  split at h
  rename_i cs0 U;obtain⟨cs',hl2,hc2,hw2,h,_⟩:=Aw h;refine⟨_,?_,h⟩;intro C qs Y σ a w st n hl H hd _ _ next Q I
  have hev:=xX (T:=T) hl;rw[ho] at hev;have hP:=MQ (T:=T) (ps:=qs) (qs:=ps) parts.toList λx hx=>hev x.2 bY;rw[<- hP] at O hb4;obtain⟨vcs,hrep,hvl,hrun⟩:=wB hT H ho hu hz J hzl hle hb4 O;have hLk:Lk (λ_=>none) st:=λb ro sz rows h=>by cases h
  obtain⟨Y1,H1,g,hy1⟩:=FD cs cs0 [] U Y st H hLk _ hrep;have g:=hw2 _ _ _ _ g;obtain⟨H2,hk2⟩:=H1.agp vcs et;have hcsl:cs'.length=len*P.cellsOf et:=by rw[hl2,TS _ _ _ U,I8 _ _ _ _ O,xq,hzl]
  unfold Oper.wp;rw[hrun];refine I _ _ Y1 σ H2 (λ_ _=>rfl) (λ_=>rfl) ?_;unfold Rep;refine⟨_,len,len,rfl,by rw[wJ],Nat.le_refl _,λ_=>rfl,.inr ⟨w.heap.size,0,rfl,⟨?_,λhy=>?_⟩,?_⟩⟩
  show w.heap.size<(w.heap.push _).size;simp
  have:=H1.vJ _ hy;omega
  refine jo.chunks len cs' 0 ?_ (hc2 (Py _ _ _ U).1) ah;rw[jo.iff];intro j p hj;obtain⟨v,hv,hp'⟩:=g.get? hj;refine⟨v,?_,hk2 _ _ _ hp'⟩;rw[cell_of_block (arr:=vcs) (ty:=et) (by show(w.heap.push _)[w.heap.size]?=_;simp)]
  simpa using hv
  exact h.elim
  exact h.elim
 exact h.elim
theorem agq (hT:jq P T)(hW:Ci P){all:Array Oper}{o:Oper}{ps:List PV}{lk:Nat->Option mO}{id:Nat}{K:PV->Prop}(i:Nat)(h:opQ T (iW.jI P T) o.op ps lk id K) :
  ∃ v,VR P T all o ps lk i v [] false/\K v:=by
 have h0:=h;unfold opQ at h
 split at h
 rename_i f args ts ho
 split at h
 rename_i k caps O
 have main:∀ v,(∀ (C:Ctx T) Y σ w qs vs U st n,(∀ b x,lk b=some x->jk st b=some x)->SW C w Y σ qs vs st n->gI w Y σ (FQ (T.hid k) (vk (evA T ps args.toList) caps)) U->PG P k C Y σ w U qs vs st n v)->VR P T all o ps lk i v [] false:=by
  intro v hsem C qs Y σ a w st n hl H hd I _ next Q J
  have hev:=xX (T:=T) hl;rw[ho] at hev;have hfv:=lD H f;rw[hev f dH,O] at hfv;unfold Rep at hfv;obtain⟨cs,ef,hcs⟩:=hfv;have g:=vM H args.toList;rw[Cj (ps:=qs) (qs:=ps) args.toList λx hx=>hev x bH] at g;have hall:=FB (T.hid k) _ _ (gI.app _ _ _ _ g hcs);obtain⟨hent,hcall⟩:=hsem C Y σ w qs a.tmps.toList _ st n I H (by simpa using hall);unfold Oper.wp;rw[Lc ho ef hent];refine Calls.mono hcall λe w' hh=>?_;obtain⟨cv,rfl,H',hv⟩:=hh;exact J cv w' Y σ H' (λ_ _=>rfl) (λ_=>rfl) hv
 unfold ad6 at h
 split at h
 rename_i as hm;obtain⟨v,hF,hK⟩:=h;refine⟨v,main v λC Y σ w qs vs U st n I H hr=>TW H (λb x hb=>?_) hm hr hF,hK⟩
 split at hb
 rename_i e;cases hb;exact⟨I _ _ e,rfl⟩
 rename_i e;cases hb;exact⟨I _ _ e,rfl⟩
 cases hb
 split at h
 rename_i as hm;obtain⟨v,hF,O,hK⟩:=h;exact⟨v,main v λC Y σ w qs vs U st n I H hr=>Q8 H I hm hr hF O,hK⟩
 exact h.elim
 exact h.elim
 rename_i t len parts ho;rw[ho] at h0;obtain⟨v,h1,h2⟩:=TE hT (all:=all) (i:=i) ho h0;exact⟨v,λC qs Y σ a w st n hl H hd _ hb next Q J=>h1 C qs Y σ a w st n hl H hd (λ_ _ h=>by cases h) hb next Q J,h2⟩
 rw[KI] at h;exact aeF hT hW h.1 h.2
theorem ZL (hT:jq P T)(hW:Ci P){all:Array Oper}{o:Oper}{lk:Nat->Option mO}{E:Env}{K:Env->Prop}(i:Nat)(h:Zo T (iW.jI P T) o lk E K) :
  ∃ U v,Ak E.tmps U.tmps/\U.st=E.st/\U.next=E.next/\VR P T all o U.tmps lk i v [] false/\K (qj U o.dst v):=by
 unfold Zo at h
 have gen:(opQ T (iW.jI P T) o.op E.tmps lk E.next λv=>K (qj E o.dst v))->∃ U v,Ak E.tmps U.tmps/\U.st=E.st/\U.next=E.next/\VR P T all o U.tmps lk i v [] false/\K (qj U o.dst v):=λh=>by
  obtain⟨v,h1,h2⟩:=agq hT hW (all:=all) i h;exact⟨E,v,Ak.refl _,rfl,rfl,h1,h2⟩
 split at h
 rename_i c x y ho
 split at h
 rename_i t hc
 have hlt:c<E.tmps.length:=by
  by_cases hh:c<E.tmps.length
  exact hh
  rw[xW (Nat.le_of_not_lt hh)] at hc;cases hc
 have heq:Ak E.tmps (qj E (some c) (.bool t)).tmps:=by
  refine⟨by simp[qj,La],λu=>?_⟩;simp only[qj,xU]
  split
  rename_i hh;rw[<- hh.1,hc];exact Eqv.bool t
  exact Eqv.refl _
 have hget:jD (qj E (some c) (.bool t)).tmps c=.bool t:=by simp[qj,xU,hlt]
 have evq:∀ z:Operand,Eqv (sD T (qj E (some c) (.bool t)).tmps z) (sD T E.tmps z):=by
  intro z
  cases z with
  | tmp u=>exact(heq.2 u).symm
  | _=>exact Eqv.refl _
 have hsem:VR P T all o (qj E (some c) (.bool t)).tmps lk i (if t then sD T E.tmps x else sD T E.tmps y) [] false:=by
  intro C qs Y σ a w st n hl H hd _ _ next Q g
  have I:=xX (T:=T) hl;rw[ho] at I;have J:=lD H (.tmp c);rw[I (.tmp c) eH] at J;simp only[sD,hget] at J;have J:=yQ J
  have hrun:(execOp a.eval o).run P w=.ok (.value (if t then a.eval x else a.eval y)) w:=by
   simp[execOp,ho,J,asBool]
  unfold Oper.wp;rw[hrun];refine g _ _ Y σ H (λ_ _=>rfl) (λ_=>rfl) ?_;have hx:=lD H x;have hy:=lD H y;rw[I x eH] at hx;rw[I y eH] at hy
  cases t with
  | true=>exact(evq x _ _ _ _).1 hx
  | false=>exact(evq y _ _ _ _).1 hy
 refine⟨_,_,heq,rfl,rfl,hsem,?_⟩
 cases t with
 | true=>exact h.1 rfl
 | false=>exact h.2 rfl
 rw[<- ho] at h;exact gen h
 exact gen h
theorem ER {size:Nat}{row:List PV}{c:Nat}{v:PV}{K:List PV->Prop}(h:oQ size row c v K):∃ r,K r/\∀ U : List PV->Prop,U r->oQ size row c v U:=by
 unfold oQ at h |-;simp only[KI] at h |-;exact⟨_,h.2,λU hk=>⟨h.1,hk⟩⟩
theorem ZM {o:Op}{ps:List PV}{lk:Nat->Option mO}{id:Nat}{K:PV->Dl->Prop}(hc:Jy T o=1\/Jy T o=2)(hn:ndO T ps lk o=false)(h:oO T (iW.jI P T) o ps lk id K) :
  ∃ v δ,K v δ/\∀ C : PV->Dl->Prop,C v δ->oO T (iW.jI P T) o ps lk id C:=by
 cases o
 case binOp op t x y u=>
  simp only[Jy,isQ] at hc;cases hy:XC y<;>rw[hy] at hc<;>simp at hc
 case alloc t=>
  simp only[oO] at h |-
  split at h
  all_goals first|exact⟨_,_,h,λ_ hk=>hk⟩|exact h.elim
 case box t x=>
  simp only[oO] at h |-
  split at h
  exact h.elim
  exact⟨_,_,h,λ_ hk=>hk⟩
 case makeSlice t x y=>
  simp only[oO] at h |-
  split at h
  simp only[KI] at h |-;obtain⟨h0,j,h1,h2,U,J,h5⟩:=h;obtain⟨z2,_,_,_,h5,_,g⟩:=acg h5;exact⟨_,_,h5,λ_ hk=>⟨h0,j,h1,h2,U,J,g _ hk⟩⟩
  exact h.elim
 case store t x y=>
  simp only[oO] at h |-
  split at h
  split at h
  split at h
  obtain⟨r,h1,h2⟩:=ER h;exact⟨_,_,h1,λ_ hk=>h2 _ hk⟩
  exact h.elim
  split at h
  split at h
  rename_i sz rows hb _ cs δ hp
  cases I:Zk _ δ with
  | true=>rw[I] at h;exact h.elim
  | false=>
   rw[I] at h;simp only[cond_false] at h |-;obtain⟨cs2,_,_,_,⟨row,h0,h⟩,h9⟩:=Aw h;obtain⟨r',h1,h2⟩:=ER h;exact⟨_,_,h1,λ_ hk=>h9 _ ⟨row,h0,h2 _ hk⟩⟩
  exact h.elim
  rename_i e1 _ _ _ e2;simp[ndO,e1,e2] at hn
  obtain⟨h0,h⟩:=h;obtain⟨r,h1,h2⟩:=ER h;exact⟨_,_,h1,λ_ hk=>⟨h0,h2 _ hk⟩⟩
  exact h.elim
  rename_i e1;simp[ndO,e1] at hn
  exact h.elim
  exact h.elim
 case call c=>
  obtain⟨callee,args,ts⟩:=c;cases callee
  case builtin b=>
   cases b
   case append=>
    simp only[oO] at h |-
    split at h
    all_goals repeat' (first
     | contradiction
     | exact h.elim
     | exact⟨_,_,h,λ_ hk=>hk⟩
     | (obtain⟨h1,h2,U⟩:=h;exact⟨_,_,U,λ_ hk=>⟨h1,h2,hk⟩⟩)
     | (split at h)
     | (simp only[KI] at h |-;refine TY h.1 ?_;replace h:=h.2)
     | (obtain⟨row,hr,h⟩:=h;refine agn hr ?_)
     | (obtain⟨h1,h2,U,J,h5⟩:=h;exact⟨_,_,h5,λ_ hk=>⟨h1,h2,U,J,hk⟩⟩)
     | (refine TY h.1 ?_;replace h:=h.2))
   all_goals (rcases hc with hc|hc<;>simp[Jy,isQ] at hc)
  all_goals first|(simp only[oO] at h;done)|(simp only[oO] at h;exact h.elim)|(rcases hc with hc|hc<;>simp[Jy,isQ] at hc)
 all_goals (rcases hc with hc|hc<;>simp[Jy,isQ] at hc)
theorem IB {size:Nat}{row:List PV}{c:Nat}{v:PV}{K:List PV->Prop}(h:oQ size row c v K):∃ r,K r:=by
 obtain⟨r,h,_⟩:=ER h;exact⟨r,h⟩
theorem aeG {o:Op}{ps:List PV}{lk:Nat->Option mO}{id:Nat}{K:PV->Dl->Prop}(hn:ndO T ps lk o=true)(h:oO T (iW.jI P T) o ps lk id K):∃ v δ,K v δ:=by
 cases o
 case store t x y=>
  simp only[oO] at h
  split at h
  split at h
  rename_i e1;simp[ndO,e1] at hn
  rename_i b r c e1
  split at h
  rename_i U;simp[ndO,e1,U] at hn
  split at h
  split at h
  revert h;generalize (_&&_:Bool)=bb;intro h
  cases bb with
  | true=>exact h.elim
  | false=>
   obtain⟨row,_,h⟩:=h;obtain⟨r,h⟩:=IB (h ⟨0,0,0⟩);exact⟨_,_,h⟩
  exact h.elim
  split at h
  obtain⟨row,_,h⟩:=h;obtain⟨r,h⟩:=IB h;exact⟨_,_,h⟩
  exact h.elim
  rename_i U;simp[ndO,e1,U] at hn
  exact h.elim
  split at h
  split at h
  have J:=Aw h;clear h;obtain⟨_,_,_,_,⟨row,_,h⟩,_⟩:=J
  split at h
  simp only[KI,iW.jI] at h;obtain⟨_,_,er,_,h⟩:=h;obtain⟨r,h⟩:=IB h;exact⟨_,_,h⟩
  exact h.elim
  exact h.elim
  exact h.elim
  exact h.elim
  exact h.elim
 all_goals simp[ndO] at hn
theorem aeH (hT:jq P T)(hW:Ci P){all:Array Oper}{o:Oper}{ps:List PV}{lk:Nat->Option mO}{id:Nat}{v:PV}{δ:Dl}(hF:∀ K' : PV->Dl->Prop,K' v δ->oO T (iW.jI P T) o.op ps lk id K'):VR P T all o ps lk id v δ true:=by
 intro C qs Y σ a w st n hl H hd hlk hid next Q J
 obtain⟨h1,h2,h3⟩:=hid rfl;have h4:=hF (λv' g=>v'=v/\g=δ) ⟨rfl,rfl⟩;rw[<- Rj (xX hl)] at h4;obtain⟨v',g,cv,w',Y',σ',⟨rfl,rfl⟩,U,H',hv,I⟩:=zl hT hW H hlk ⟨h1 id (Nat.le_refl _) ah,h2⟩ h4;have hn:uH g n id<=n:=by cases g<;>simp[uH]<;>omega
 have:=J cv w' Y' σ' (H'.mono hn) (λb hb=>I b ah) (λe=>by cases e) hv;unfold Oper.wp;rcases U with U|⟨U,rfl⟩
 rw[U];exact this
 rw[U];exact this
theorem aa1 {S:iW}{o:Op}{ps:List PV}{lk:Nat->Option mO}{st:St}{id:Nat}{c2:Bool}{K:PV->Dl->Prop}(hn:∀ f args ts,o=.call { callee:=.value f,args:=args,argTypes:=ts }->False):opW T S o ps lk st id c2 K=oO T S o ps lk id K:=by
 unfold opW
 split
 rename_i f args ts;exact(hn f args ts rfl).elim
 rfl
theorem XX (f:Nat->Option Nat)(st1:St):∀ (l:List Nat) (i:Nat) (st:St),Zn f st1 i l st=jJ (dlO f st1 i l) st
 | [],i,st=>rfl
 | b::l,i,st=>by simp only[Zn,dlO,jJ];exact XX f st1 l (i+1) _
theorem Oz (f:Nat->Option Nat){st st' : St}:∀ (ρ:List Nat) (i:Nat),(∀ b∈ρ,jk st b=jk st' b)->yD f st i ρ=yD f st' i ρ
 | [],i,_=>rfl
 | b::ρ,i,h=>by
  simp only[yD];rw[h b aC,Oz f ρ (i+1) λc hc=>h c (by simp[hc])]
theorem Rk {st:St}:∀ (ρ:List Nat),af1 st ρ=true->∀ b∈ρ,∃ x,jk st b=some x
 | [],_,b,h=>by cases h
 | c::ρ,h,b,hb=>by
  simp only[af1,Bool.and_eq_true] at h;rcases List.mem_cons.1 hb with rfl|hb
  have:=h.1
  cases hx:jk st b with
  | none=>rw[hx] at this;cases this
  | some x=>exact⟨x,rfl⟩
  exact Rk ρ h.2 b hb
theorem XY {o:Op}{ps:List PV}{lk:Nat->Option mO}{st:St}{id:Nat}{c2:Bool}{K:PV->Dl->Prop}(hc:Jy T o=1\/Jy T o=2)(hn:ndO T ps lk o=false)(h:opW T (iW.jI P T) o ps lk st id c2 K) :
  ∃ v δ,K v δ/\∀ U : PV->Dl->Prop,U v δ->opW T (iW.jI P T) o ps lk st id c2 U:=by
 by_cases hv:∃ f args ts,o=.call { callee:=.value f,args:=args,argTypes:=ts }
 obtain⟨f,args,ts,rfl⟩:=hv;unfold opW at h |-;simp only at h |-
 split at h
 rename_i k g O
 cases c2 with
 | false=>
  simp only at h
  split at h
  rename_i as hm;obtain⟨v,x,hF,C⟩:=h;refine⟨_,_,C,λU hk=>?_⟩;simp only[hm];exact⟨v,x,hF,hk⟩
  exact h.elim
 | true=>
  simp only at h;unfold Ux at h
  split at h
  rename_i I;obtain⟨v,st1,n1,h0,hF,C⟩:=h
  split at C
  rename_i hb;refine⟨_,_,C,λU hk=>?_⟩;simp only;unfold Ux;simp only[I];refine⟨v,st1,n1,h0,hF,?_⟩;simp only[hb];exact hk
  exact C.elim
  exact h.elim
 exact h.elim
 have J : ∀ f args ts,o=.call { callee:=.value f,args:=args,argTypes:=ts }->False:=λf args ts e=>hv ⟨f,args,ts,e⟩;rw[aa1 J] at h;obtain⟨v,δ,h1,h2⟩:=ZM hc hn h;exact⟨v,δ,h1,λU hk=>by rw[aa1 J];exact h2 U hk⟩
theorem aeI (hT:jq P T)(hW:Ci P){all:Array Oper}{o:Oper}{ps:List PV}{lk:Nat->Option mO}{st:St}{id:Nat}{v:PV}{δ:Dl}{c2:Bool}(hst:c2=true->lk=jk st)(hF:∀ K' : PV->Dl->Prop,K' v δ->opW T (iW.jI P T) o.op ps lk st id c2 K'):VR P T all o ps lk id v δ true:=by
 by_cases hv:∃ f args ts,o.op=.call { callee:=.value f,args:=args,argTypes:=ts }
 obtain⟨f,args,ts,ho⟩:=hv;intro C qs Y σ a w stn n hl H hd hlk hid next Q g
 obtain⟨g1,g2,g3⟩:=hid rfl;have J:=hF (λv' δ'=>v'=v/\δ'=δ) ⟨rfl,rfl⟩;rw[ho] at J;unfold opW at J;simp only at J
 split at J
 rename_i k caps O;have hev:=xX (T:=T) hl;rw[ho] at hev;have hfv:=lD H f;rw[hev f dH,O] at hfv;unfold Rep at hfv;obtain⟨cs,ef,hcs⟩:=hfv;have hargs:=vM H args.toList;rw[Cj (ps:=qs) (qs:=ps) args.toList λx hx=>hev x bH] at hargs;have hall:=FB (T.hid k) _ _ (gI.app _ _ _ _ hargs hcs)
 cases c2 with
 | false=>
  simp only at J
  split at J
  rename_i as hm;obtain⟨v0,x,hF0,rfl,rfl⟩:=J;have hr0:=PE (P:=P) (T:=T) H.store (lk:=Uw) (λb x h=>by cases h) (λ_ h=>h) (λb x l h=>by cases h) (λb sz rows hb=>by cases hb) hm hall;have hr1:gI w Y σ as _:=gI.keep as (σ:=iU) (σ':=σ) ⟨λ_ _ _=>rfl,λ_ _ h=>h,Nat.le_refl _,λb l h=>by simp[iU] at h⟩ _ hr0
  obtain⟨hent,U⟩:=XV (E:=⟨qs,stn,id⟩) (ρ:=[]) (n0:=n) (N:=n) (v:=v0) (st1:=[(0,some x)]) (n1:=1) H rfl rfl rfl g2 (λb hb1 hb2=>by
   have:b=id:=by simp only[lH] at hb1 hb2;omega
   rw[this];exact g1 id (Nat.le_refl _) ah) ⟨by simp only[lH];omega,Nat.le_refl _⟩ hr1 hF0
  unfold Oper.wp;rw[Lc ho ef hent];refine Calls.mono U λe w' hh=>?_;obtain⟨cv,Y',σ',rfl,H',hv',I⟩:=hh;exact g cv w' Y' σ' H' (λb hb=>I b (by simp only[lH];omega)) (λe=>by cases e) hv'
  exact J.elim
 | true=>
  simp only at J;unfold Ux at J
  split at J
  rename_i hcnd;simp only[Bool.and_eq_true] at hcnd;obtain⟨c1,c2,c3⟩:=hcnd;obtain⟨v0,st1,n1,h0,hF0,hK⟩:=J
  split at hK
  rename_i hb;obtain⟨rfl,rfl⟩:=hK;have hb:=Nat.le_of_ble_eq_true hb;have hlk':=hlk;rw[hst rfl] at hlk'
  have hren:=Oz (st:=st) (st':=stn) (DL (G6 (FQ (T.hid k) (vk (evA T ps args.toList) caps)) st)) (G6 (FQ (T.hid k) (vk (evA T ps args.toList) caps)) st) 0 λb hb=>by
   obtain⟨x,hx⟩:=Rk _ c3 b hb;rw[hx,hlk' b x hx]
  rw[hren] at h0 hF0;obtain⟨hent,U⟩:=XV (E:=⟨qs,stn,id⟩) (n0:=n) (N:=n) (v:=v0) (st1:=st1) H c2 c1 h0 g2 (λb hb1 hb2=>g1 b hb1 (by simp only at hb2;omega)) ⟨by simp only;omega,Nat.le_refl _⟩ hall hF0;unfold Oper.wp;rw[Lc ho ef hent];refine Calls.mono U λe w' hh=>?_;obtain⟨cv,Y',σ',rfl,H',hv',I⟩:=hh;refine g cv w' Y' σ' ?_ (λb hb'=>I b aF) (λe=>by cases e) hv';rw[<- XX];exact H'
  exact hK.elim
  exact J.elim
 exact J.elim
 have hv' : ∀ f args ts,o.op=.call { callee:=.value f,args:=args,argTypes:=ts }->False:=λf args ts e=>hv ⟨f,args,ts,e⟩;exact aeH hT hW λK' hk=>by have:=hF K' hk;rw[aa1 hv'] at this;exact this
end
end Go.Pv
namespace Go.Pv
open Go
section
variable {P:Program}{T:Tab}
structure Rec where
 e1:List PV
 er:List PV
 lk:Nat->Option mO
 v:PV
 δ:Dl
 id:Nat
 big:Bool
 wb:Bool
 nd:Bool
def acp (δ:Dl)(b:Nat):Prop:=∃ x,(b,x)∈δ
structure aa2 (P:Program)(T:Tab)(all:Array Oper)(o:Oper)(r:Rec)(p:List PV)(st:St)(nx:Nat)(pend:List Nat):Prop where
 e1:Ak p r.e1
 er:Ak p r.er
 gd:aco T all o r.e1 r.wb
 sem:r.wb=true->r.nd=false->VR P T all o r.er r.lk r.id r.v r.δ r.big
 ndw:r.nd=true->r.wb=true/\r.big=true
 skip:r.wb=false->r.v=.undef
 cls:(r.big=false/\r.δ=[]/\(r.wb=true->∀ b x,r.lk b=some x->wR T o=3/\b ∉ pend/\jk st b=some x)) \/
  (r.wb=true/\r.big=true/\r.id=nx/\wR T o=1/\(∃ x,r.δ=[(nx,some x)])/\r.lk=Uw) \/
  (r.wb=true/\r.big=true/\r.id=nx/\wR T o=2/\(∀ b,acp r.δ b->b<nx+32)/\r.lk=jk st)
def bump (b:Bool)(n:Nat):Nat:=match b with|true=>n+32|false=>n
def PM (T:Tab)(o:Oper)(r:Rec)(pend:List Nat):List Nat:=match r.big with
 | false=>pend
 | true=>if wR T o=1 then r.id::pend else []
def ChD (P:Program)(T:Tab)(all:Array Oper):List Oper->List Rec->List PV->St->Nat->List Nat->List PV->St->Nat->Prop
 | [],[],p,st,nx,_,f,stf,nxf=>p=f/\st=stf/\nx=nxf
 | o::l,r::rs,p,st,nx,pend,f,stf,nxf=>aa2 P T all o r p st nx pend/\ChD P T all l rs (AL r.er o.dst r.v) (jJ r.δ st) (bump r.big nx) (PM T o r pend) f stf nxf
 | _,_,_,_,_,_,_,_,_=>False
def aa3 (P:Program)(T:Tab)(all:Array Oper)(K:Env->Prop):List Oper->List Rec->St->List PV->St->Nat->Prop
 | o::l,r::rs,st,f,stf,nxf=>(r.nd=true->l=[]/\rs=[]/\Oh all=true/\nxf=r.id+32/\oO T (iW.jI P T) o.op r.er (jk st) r.id (λv δ=>bif ltD (r.id+32) δ then K ⟨AL r.er o.dst v,jJ δ st,r.id+32⟩ else False))
  /\ (r.nd=false->aa3 P T all K l rs (jJ r.δ st) f stf nxf)
 | [],[],_,f,stf,nxf=>K ⟨f,stf,nxf⟩
 | _,_,_,_,_,_=>False
theorem UX {n:Nat}:∀ (δ:Dl),ltD n δ=true->∀ b,acp δ b->b<n
 | [],_,b,h=>by obtain⟨x,h⟩:=h;cases h
 | (c,y)::δ,h,b,U=>by
  simp only[ltD,Bool.and_eq_true,Nat.blt_eq] at h;obtain⟨x,U⟩:=U;rcases List.mem_cons.1 U with e|U
  cases e;exact h.1
  exact UX δ h.2 b ⟨x,U⟩
theorem aa4 {pend:List Nat}{lk:Nat->Option mO}{b:Nat}{x:mO}(h:ace pend lk b=some x):b ∉ pend/\lk b=some x:=by
 unfold ace at h
 cases U:xe pend b with
 | true=>rw[U] at h;cases h
 | false=>rw[U] at h;exact⟨(λT=>by rw[(Ja _ _).2 T] at U;cases U),h⟩
theorem TZ {o:Oper}{c:Nat}(h:wR T o=c)(hc:c≠0):Jy T o.op=c:=by
 unfold wR at h
 split at h
 exact absurd h.symm hc
 exact h
theorem agr {o:Oper}(h:isQ o.op=false):wR T o=Jy T o.op:=by
 have:qtO T o=false:=by
  unfold qtO
  split
  split
  exact h
  rfl
  rfl
 unfold wR;rw[this]
theorem ags {o:Op}{ps:List PV}{lk:Nat->Option mO}(h:Jy T o=1):ndO T ps lk o=false:=by cases o<;>simp[ndO,Jy] at h |-
theorem FY (hT:jq P T)(hW:Ci P){all:Array Oper}:∀ (l:List Oper) (pend:List Nat) (E:Env) (K:Env->Prop),aaQ T (iW.jI P T) all l pend E K ->
  ∃ rs f U J,ChD P T all l rs E.tmps E.st E.next pend f U J/\aa3 P T all K l rs E.st f U J
 | [],pend,E,K,h=>⟨[],E.tmps,E.st,E.next,⟨rfl,rfl,rfl⟩,h⟩
 | o::l,pend,E,K,h=>by
  simp only[aaQ] at h;obtain⟨I,wb,h1,h2,C,h4,h5,h6⟩:=aeE h
  cases wb with
  | false=>
   have k5:=h6 rfl;rw[PL,h2,C] at k5;obtain⟨rs,f,U,J,hc,hK⟩:=FY hT hW l pend _ _ k5;exact⟨⟨I.tmps,I.tmps,Uw,.undef,[],0,false,false,false⟩::rs,f,U,J,⟨⟨h1,h1,h4,(λe=>by cases e),(λe=>by cases e),(λ_=>rfl),.inl ⟨rfl,rfl,λe=>by cases e⟩⟩,hc⟩,(λe=>by cases e),λ_=>hK⟩
  | true=>
   have h5:=h5 rfl;unfold agZ at h5
   cases g:ndO T I.tmps (jk I.st) o.op with
   | true=>
    rw[g] at h5
    cases l with
    | cons _ _=>exact h5.elim
    | nil=>
      obtain⟨hlo,h5⟩:=h5;obtain⟨v,δ,hk⟩:=aeG g h5
      cases hi:ltD (I.next+32) δ with
      | false=>rw[hi] at hk;exact hk.elim
      | true=>
       have hq:isQ o.op=false:=by
        revert g;cases o.op<;>simp[ndO,isQ]
       have hcl:wR T o=2:=by
        rw[agr hq];revert g;cases o.op<;>simp[ndO,Jy]
       refine⟨[⟨I.tmps,I.tmps,jk I.st,v,δ,I.next,true,true,true⟩],_,_,_,⟨⟨h1,h1,h4,(λ_ e=>by cases e),(λ_=>⟨rfl,rfl⟩),(λe=>by cases e),.inr (.inr ⟨rfl,rfl,C,hcl,?_,by rw[h2]⟩)⟩,rfl,rfl,rfl⟩,λ_=>⟨rfl,rfl,hlo,by simp[bump,C],?_⟩,λe=>by cases e⟩
       rw[<- C];exact UX δ hi
       simp only[PL,h2] at h5;exact h5
   | false=>
   rw[g] at h5;simp only at h5;unfold stepD at h5
   have quiet:∀ lk,(wR T o=0/\lk=Uw\/wR T o=3/\lk=ace pend (jk I.st))->Zo T (iW.jI P T) o lk I (λE=>aaQ T (iW.jI P T) all l pend E K) ->
     ∃ rs f U J,ChD P T all (o::l) rs E.tmps E.st E.next pend f U J/\aa3 P T all K (o::l) rs E.st f U J:=by
    intro lk hlk hs;obtain⟨E2,v,k1,k2,k3,k4,k5⟩:=ZL hT hW (all:=all) 0 hs;rw[PL,k2,k3,h2,C] at k5;obtain⟨rs,f,U,J,hc,hK⟩:=FY hT hW l pend _ _ k5;refine⟨⟨I.tmps,E2.tmps,lk,v,[],0,false,true,false⟩::rs,f,U,J,⟨⟨h1,h1.trans k1,h4,λ_ _=>k4,(λe=>by cases e),(λe=>by cases e),.inl ⟨rfl,rfl,λ_ b x hb=>?_⟩⟩,hc⟩,(λe=>by cases e),λ_=>hK⟩;rcases hlk with ⟨c0,rfl⟩|⟨c3,rfl⟩
    cases hb
    obtain⟨a1,a2⟩:=aa4 hb;rw[h2] at a2;exact⟨c3,a1,a2⟩
   split at h5
   rename_i hc;exact quiet Uw (.inl ⟨hc,rfl⟩) h5
   rename_i hc;obtain⟨v,δ,hk,O⟩:=XY (.inl (TZ hc bJ)) (ags (TZ hc bJ)) h5
   split at hk
   rename_i id x
   cases hi:Nat.beq id I.next with
   | false=>rw[hi] at hk;exact hk.elim
   | true=>
    rw[hi] at hk;simp only[cond_true] at hk;have hid:=Nat.eq_of_beq_eq_true hi;subst hid;rw[PL,h2,C] at hk;obtain⟨rs,f,U,J,hc2,hK⟩:=FY hT hW l _ _ _ hk;refine⟨⟨I.tmps,I.tmps,Uw,v,[(I.next,some x)],I.next,true,true,false⟩::rs,f,U,J,⟨⟨h1,h1,h4,λ_ _=>?_,(λe=>by cases e),(λe=>by cases e),.inr (.inl ⟨rfl,rfl,C,hc,⟨x,by rw[C]⟩,rfl⟩)⟩,?_⟩,(λe=>by cases e),λ_=>?_⟩
    exact aeI hT hW (λe=>by cases e) O
    simp only[jJ,bump,PM,hc,if_true,C];exact hc2
    simp only[jJ,C];exact hK
   exact hk.elim
   rename_i hc;obtain⟨v,δ,hk,O⟩:=XY (.inr (TZ hc bJ)) g h5
   cases hi:ltD (I.next+32) δ with
   | false=>rw[hi] at hk;exact hk.elim
   | true=>
    rw[hi] at hk;simp only[cond_true] at hk;rw[PL,h2,C] at hk;obtain⟨rs,f,U,J,hc2,hK⟩:=FY hT hW l _ _ _ hk;refine⟨⟨I.tmps,I.tmps,jk I.st,v,δ,I.next,true,true,false⟩::rs,f,U,J,⟨⟨h1,h1,h4,λ_ _=>?_,(λe=>by cases e),(λe=>by cases e),.inr (.inr ⟨rfl,rfl,C,hc,?_,by rw[h2]⟩)⟩,?_⟩,(λe=>by cases e),λ_=>hK⟩
    exact aeI hT hW (λ_=>rfl) O
    rw[<- C];exact UX δ hi
    simp only[bump,PM,hc,C];exact hc2
   rename_i hc;exact quiet _ (.inr ⟨hc,rfl⟩) h5
   exact h5.elim
theorem ChD.len {all:Array Oper}:∀ (l:List Oper) (rs:List Rec) {p:List PV} {st:St} {nx:Nat} {pend:List Nat} {f:List PV} {U:St} {J:Nat},ChD P T all l rs p st nx pend f U J->rs.length=l.length/\f.length=p.length
 | [],[],_,_,_,_,_,_,_,h=>⟨rfl,by rw[h.1]⟩
 | o::l,r::rs,_,_,_,_,_,_,_,h=>by
  obtain⟨h1,h2⟩:=ChD.len l rs h.2;exact⟨by simp[h1],by rw[h2,vC,h.1.er.1]⟩
 | [],_::_,_,_,_,_,_,_,_,h=>h.elim
 | _::_,[],_,_,_,_,_,_,_,h=>h.elim
theorem ChD.keep {all:Array Oper}{t:Nat}:∀ (l:List Oper) (rs:List Rec) {p:List PV} {st:St} {nx:Nat} {pend:List Nat} {f:List PV} {U:St} {J:Nat},ChD P T all l rs p st nx pend f U J->(∀ o∈l,o.dst≠some t)->Eqv (jD p t) (jD f t)
 | [],[],_,_,_,_,_,_,_,h,_=>by rw[h.1];exact Eqv.refl _
 | o::l,r::rs,_,_,_,_,_,_,_,h,hn=>by
  have:=ChD.keep l rs h.2 λo ho=>hn o (by simp[ho]);rw[Dk (hn o aC)] at this;exact(h.1.er.2 t).trans this
 | [],_::_,_,_,_,_,_,_,_,h,_=>h.elim
 | _::_,[],_,_,_,_,_,_,_,h,_=>h.elim
def Am:List Rec->St->Nat->St
 | _,st,0=>st
 | [],st,_+1=>st
 | r::rs,st,i+1=>Am rs (jJ r.δ st) i
def BR:List Rec->Nat->Nat->Nat
 | _,n,0=>n
 | [],n,_+1=>n
 | r::rs,n,i+1=>BR rs (bump r.big n) i
def OA (T:Tab):List Oper->List Rec->List Nat->Nat->List Nat
 | _,_,pd,0=>pd
 | o::l,r::rs,pd,i+1=>OA T l rs (PM T o r pd) i
 | _,_,pd,_=>pd
theorem ChD.get {all:Array Oper}:∀ (l:List Oper) (rs:List Rec) {p:List PV} {st:St} {nx:Nat} {pend:List Nat} {f:List PV} {C:St} {g:Nat},ChD P T all l rs p st nx pend f C g->∀ (i:Nat) (o:Oper),l[i]?=some o ->
  ∃ r q,rs[i]?=some r/\q.length=p.length/\aa2 P T all o r q (Am rs st i) (BR rs nx i) (OA T l rs pend i) /\
   (∀ t,(∀ j oj,j<i->l[j]?=some oj->oj.dst≠some t)->Eqv (jD p t) (jD q t)) /\
   (∀ t,(∀ j oj,i<=j->l[j]?=some oj->oj.dst≠some t)->Eqv (jD q t) (jD f t)) /\
   (∀ d,o.dst=some d->d<p.length->(∀ j oj,i<j->l[j]?=some oj->oj.dst≠some d)->Eqv r.v (jD f d))
 | [],_,_,_,_,_,_,_,_,_,i,o,hi=>by simp at hi
 | _::_,[],_,_,_,_,_,_,_,h,_,_,_=>h.elim
 | o'::l,r::rs,p,_,_,_,f,_,_,h,0,o,hi=>by
  obtain⟨h1,J⟩:=h;simp at hi;subst hi;refine⟨r,p,rfl,rfl,h1,λt _=>Eqv.refl _,λt ht=>?_,λd I U hn=>?_⟩
  have hk:=ChD.keep l rs J (t:=t) λo ho=>by
   obtain⟨j,hj⟩:=List.getElem?_of_mem ho;exact ht (j+1) o ah dD
  rw[Dk (ht 0 o' ah aC)] at hk;exact(h1.er.2 t).trans hk
  have hk:=ChD.keep l rs J (t:=d) λo ho=>by
   obtain⟨j,hj⟩:=List.getElem?_of_mem ho;exact hn (j+1) o ah dD
  rw[I] at hk;simp only[AL,xU] at hk;rw[if_pos ⟨trivial,by rw[<- h1.er.1];exact U⟩] at hk;exact hk
 | o'::l,r::rs,p,_,_,_,f,_,_,h,i+1,o,hi=>by
  obtain⟨h1,J⟩:=h;obtain⟨r',q,a0,a1,a2,a6,a7,a8⟩:=ChD.get l rs J i o cu;have hl:(AL r.er o'.dst r.v).length=p.length:=by rw[vC,h1.er.1]
  refine⟨r',q,by simpa using a0,by rw[a1,hl],a2,λt ht=>?_,λt ht=>?_,λd I U hn=>?_⟩
  have hk:=a6 t λj oj hj hoj=>ht (j+1) oj ah dn;rw[Dk (ht 0 o' ah aC)] at hk;exact(h1.er.2 t).trans hk
  exact a7 t λj oj hj hoj=>ht (j+1) oj ah dn
  exact a8 d I (by rw[hl];exact U) λj oj hj hoj=>hn (j+1) oj ah dn
theorem ChD.fin {all:Array Oper}:∀ (l:List Oper) (rs:List Rec) {p:List PV} {st:St} {nx:Nat} {pend:List Nat} {f:List PV} {U:St} {J:Nat},ChD P T all l rs p st nx pend f U J->U=Am rs st rs.length/\J=BR rs nx rs.length
 | [],[],_,_,_,_,_,_,_,h=>⟨h.2.1.symm,h.2.2.symm⟩
 | o::l,r::rs,_,_,_,_,_,_,_,h=>ChD.fin l rs h.2
 | [],_::_,_,_,_,_,_,_,_,h=>h.elim
 | _::_,[],_,_,_,_,_,_,_,h=>h.elim
theorem bump_le (b:Bool)(n:Nat):n<=bump b n:=by cases b<;>simp[bump]
theorem OB:∀ (rs:List Rec) (n i:Nat),n<=BR rs n i
 | _,n,0=>by simp[BR]
 | [],n,i+1=>by simp[BR]
 | r::rs,n,i+1=>by simp only[BR];exact Nat.le_trans (bump_le _ _) (OB rs _ i)
theorem MR:∀ (rs:List Rec) (n i:Nat) (r:Rec),rs[i]?=some r->BR rs n (i+1)=bump r.big (BR rs n i)
 | [],n,i,r,h=>by simp at h
 | r::rs,n,0,r',h=>by simp at h;subst h;cases rs<;>simp[BR]
 | r::rs,n,i+1,r',h=>by simp only[BR];exact MR rs _ i r' bW
theorem WJ:∀ (rs:List Rec) (n i:Nat),rs.length<=i->BR rs n (i+1)=BR rs n i
 | [],n,0,_=>by simp[BR]
 | [],n,i+1,_=>by simp[BR]
 | r::rs,n,0,h=>by simp at h
 | r::rs,n,i+1,h=>by simp only[BR];exact WJ rs _ i bW
theorem Rl {rs:List Rec}{n i j:Nat}(h:i<=j):BR rs n i<=BR rs n j:=by
 induction h with
 | refl=>exact Nat.le_refl _
 | step h ih=>
  rename_i m
  cases U:rs[m]? with
  | some r=>rw[MR _ _ _ _ U];exact Nat.le_trans ih (bump_le _ _)
  | none=>rw[WJ _ _ _ (by rw[List.getElem?_eq_none_iff] at U;exact U)];exact ih
def kM:Dl->Nat->Option (Option mO)
 | [],_=>none
 | (c,x)::δ,b=>match kM δ b with
  | some y=>some y
  | none=>if c=b then some x else none
theorem xY:∀ (δ:Dl) (st:St) (b:Nat),jk (jJ δ st) b=(match kM δ b with|some x=>x|none=>jk st b)
 | [],st,b=>rfl
 | (c,x)::δ,st,b=>by
  simp only[jJ,xY δ (oH st c x) b,kM]
  cases kM δ b with
  | some y=>rfl
  | none=>
   simp only[iQ]
   by_cases h:c=b<;>simp[h]
theorem OC:∀ (δ:Dl) (b:Nat),kM δ b≠none->acp δ b
 | [],b,h=>absurd rfl h
 | (c,x)::δ,b,h=>by
  simp only[kM] at h
  split at h
  rename_i y hy;obtain⟨z,U⟩:=OC δ b (by rw[hy];simp);exact⟨z,List.mem_cons_of_mem _ U⟩
  by_cases hc:c=b
  subst hc;exact⟨x,by simp⟩
  rw[if_neg hc] at h;exact absurd rfl h
def lst:List Rec->(Nat->Bool)->Nat->Nat->Option (Option mO)
 | [],_,_,_=>none
 | r::rs,D,i,b=>match lst rs D (i+1) b with
  | some y=>some y
  | none=>if D i then kM r.δ b else none
def orS (st:St)(b:Nat):Option (Option mO)->Option mO
 | some x=>x
 | none=>jk st b
theorem zX:∀ (rs:List Rec) (D U : Nat->Bool) (i b:Nat),(∀ k r,rs[k]?=some r->kM r.δ b≠none->D (i+k)=U (i+k))->lst rs D i b=lst rs U i b
 | [],_,_,_,_,_=>rfl
 | r::rs,D,U,i,b,h=>by
  have J:=zX rs D U (i+1) b λk I hr T=>by
   have:=h (k+1) I dm T
   rwa [show i+(k+1)=i+1+k by omega] at this
  simp only[lst,J]
  split
  rfl
  by_cases T:kM r.δ b=none
  simp[T]
  have:=h 0 r rfl T;simp only[Nat.add_zero] at this;rw[this]
theorem Jc:∀ (rs:List Rec) (D:Nat->Bool) (i b:Nat),(∀ k r,rs[k]?=some r->D (i+k)=true->kM r.δ b=none)->lst rs D i b=none
 | [],_,_,_,_=>rfl
 | r::rs,D,i,b,h=>by
  have U:=Jc rs D (i+1) b λk T hr J=>h (k+1) T dm eU;simp only[lst,U]
  split
  rename_i h0;exact h 0 r rfl (by simpa using h0)
  rfl
theorem UY:∀ (rs:List Rec) (D:Nat->Bool) (i m b:Nat) (r:Rec) (x:Option mO),rs[m]?=some r->D (i+m)=true->kM r.δ b=some x->(∀ k U,m<k->rs[k]?=some U->D (i+k)=true->kM U.δ b=none)->lst rs D i b=some x
 | [],_,_,m,_,_,_,h,_,_,_=>by simp at h
 | r::rs,D,i,0,b,U,x,h,hD,hx,hl=>by
  simp at h;subst h;have:=Jc rs D (i+1) b λk U hr T=>hl (k+1) U ah dm eU;simp only[lst,this];rw[if_pos (by simpa using hD)];exact hx
 | r::rs,D,i,m+1,b,U,x,h,hD,hx,hl=>by
  have:=UY rs D (i+1) m b U x bW (by rwa [show i+1+m=i+(m+1) by omega]) hx λk r2 hk hr T=>hl (k+1) r2 ah dm eU;simp only[lst,this]
theorem MS:∀ (rs:List Rec) (st:St) (i j b:Nat),jk (Am rs st i) b=orS st b (lst rs (λk=>decide (k<j+i)) j b)
 | [],st,0,j,b=>rfl
 | [],st,i+1,j,b=>rfl
 | r::rs,st,0,j,b=>by
  simp only[Am];rw[Jc _ _ _ _ λk U _ h=>by simp at h;omega];rfl
 | r::rs,st,i+1,j,b=>by
  simp only[Am,MS rs (jJ r.δ st) i (j+1) b,lst];rw[show(λk=>decide (k<j+1+i))=(λk=>decide (k<j+(i+1))) from funext λk=>by congr 2;omega]
  cases lst rs (λk=>decide (k<j+(i+1))) (j+1) b with
  | some y=>rfl
  | none=>
   simp only[orS,xY];rw[if_pos aC]
theorem SI {all:Array Oper}{i:Nat}{o:Oper}{lo:List Tmp}:∀ (l:List Oper) (j:Nat),Uz all i o lo l j=true->∀ (k:Nat) (p:Oper),l[k]?=some p->Uy all i o lo (j+k) p=true
 | [],_,_,k,p,hk=>by simp at hk
 | q::l,j,h,0,p,hk=>by simp at hk;subst hk;simp only[Uz,Bool.and_eq_true] at h;exact h.1
 | q::l,j,h,k+1,p,hk=>by
  simp only[Uz,Bool.and_eq_true] at h;have:=SI l (j+1) h.2 k p fF;rw[show j+(k+1)=j+1+k by omega];exact this
theorem Ld {all:Array Oper}:∀ (l:List Oper) (i:Nat),FT all l i=true->∀ (k:Nat) (o:Oper),l[k]?=some o ->
  (∀ e∈o.after,Region.binds .any e=true->e.on<i+k)/\∀ (j:Nat) (p:Oper),all[j]?=some p->Uy all (i+k) o (o.looksAt all) j p=true
 | [],_,_,k,o,hk=>by simp at hk
 | q::l,i,h,0,o,hk=>by
  simp at hk;subst hk;simp only[FT,Bool.and_eq_true] at h;refine⟨λe U T=>?_,λj p hp=>?_⟩
  have:=Array.all_eq_true_iff_forall_mem.1 h.1.1 e U;rw[T,Bool.not_true,Bool.false_or,Nat.blt_eq] at this;simpa using this
  have:=SI all.toList 0 h.1.2 j p (by simpa using hp)
  simpa using this
 | q::l,i,h,k+1,o,hk=>by
  simp only[FT,Bool.and_eq_true] at h;have:=Ld l (i+1) h.2 k o fF;rw[show i+(k+1)=i+1+k by omega];exact this
theorem DN {all:Array Oper}(h0:FU T all=true){i:Nat}{o:Oper}(hi:all[i]?=some o) :
  (∀ e∈o.after,Region.binds .any e=true->e.on<i)/\∀ (j:Nat) (p:Oper),all[j]?=some p->j≠i->∀ d,p.dst=some d->o.dst≠some d /\
   (d∈o.looksAt all->(∃ e∈o.after,Region.binds .any e=true/\e.on=j)\/(∃ e∈p.after,Region.binds .any e=true/\e.on=i)):=by
 have h:FT all all.toList 0=true:=by unfold FU at h0;rw[Bool.and_eq_true] at h0;exact h0.1
 obtain⟨h1,h2⟩:=Ld all.toList 0 h i o cu;rw[Nat.zero_add] at h1 h2;refine⟨h1,λj p hp J d g=>?_⟩;have:=h2 j p hp;have I:Nat.beq i j=false:=Q4 λe=>J e.symm;simp only[Uy,I,g,Bool.false_or,Bool.and_eq_true,Bool.or_eq_true,bne_iff_ne,ne_eq,Bool.not_eq_true',List.contains_eq_mem,decide_eq_false_iff_not] at this;refine⟨this.1,λhm=>?_⟩;rcases this.2 with (hh|hh)|hh
 exact absurd hm hh
 obtain⟨e,C,U⟩:=Array.any_eq_true'.1 hh;simp only[Bool.and_eq_true] at U;exact .inl ⟨e,C,U.1,Nat.eq_of_beq_eq_true U.2⟩
 obtain⟨e,C,U⟩:=Array.any_eq_true'.1 hh;simp only[Bool.and_eq_true] at U;exact .inr ⟨e,C,U.1,Nat.eq_of_beq_eq_true U.2⟩
inductive Bef (all:Array Oper):Nat->Nat->Prop
 | one {i:Nat} {o:Oper} {e:Edge}:all[i]?=some o->e∈o.after->Region.binds .any e=true->Bef all e.on i
 | trans {i j k:Nat}:Bef all i j->Bef all j k->Bef all i k
theorem OD:∀ (l m:List Nat) (b:Nat),b∈UA l m->b∈l\/b∈m
 | [],m,b,h=>.inr h
 | c::l,m,b,h=>by
  simp only[UA] at h
  cases hc:xe m c with
  | true=>
   rw[hc] at h;rcases OD l m b h with h|h
   exact .inl (List.mem_cons_of_mem _ h)
   exact .inr h
  | false=>
   rw[hc] at h;rcases OD l (c::m) b h with h|h
   exact .inl (List.mem_cons_of_mem _ h)
   rcases List.mem_cons.1 h with rfl|h
   exact .inl aC
   exact .inr h
theorem UZ:∀ (l:List (List Nat)) (i:Nat),BV l i=l.getD i []
 | [],i=>by simp[BV]
 | x::l,0=>by simp[BV]
 | x::l,i+1=>by simpa [BV] using UZ l i
theorem WM (acc:List (List Nat)):∀ (l:List Nat) (b:Nat),b∈Wv acc l->∃ j∈l,b=j\/b∈BV acc j
 | [],b,h=>by simp[Wv] at h
 | j::l,b,h=>by
  simp only[Wv] at h;rcases OD _ _ _ h with h|h
  exact⟨j,by simp,by simpa using h⟩
  obtain⟨U,h1,h2⟩:=WM acc l b h;exact⟨U,by simp[h1],h2⟩
theorem JG {all:Array Oper}:∀ (l:List Oper) (acc:List (List Nat)),(∀ k o,l[k]?=some o->all[acc.length+k]?=some o)->(∀ i b,b∈BV acc i->Bef all b i)->∀ i b,b∈BV (UB l acc) i->Bef all b i
 | [],acc,_,h2=>by simpa [UB] using h2
 | o::l,acc,h1,h2=>by
  simp only[UB];have hlen:(acc++[Wv acc (XD o)]).length=acc.length+1:=by simp
  refine JG l _ (λk o' hk=>?_) λi b U=>?_
  have:=h1 (k+1) o' fF;rw[hlen,<- this];congr 1;omega
  rw[UZ,List.getD_eq_getElem?_getD] at U
  by_cases hi:i<acc.length
  rw[List.getElem?_append_left hi] at U;exact h2 i b (by rw[UZ,List.getD_eq_getElem?_getD];exact U)
  rw[List.getElem?_append_right ah] at U
  have g:i-acc.length=0:=by
   by_cases h0:i-acc.length=0
   exact h0
   rw[List.getElem?_eq_none bg] at U;simp at U
  rw[g] at U;simp only[List.getElem?_cons_zero,Option.getD_some] at U;have C:i=acc.length:=by omega
  obtain⟨j,hj,U⟩:=WM acc _ _ U;have T:=h1 0 o rfl;rw[Nat.add_zero] at T;simp only[XD,List.mem_map,List.mem_filter] at hj;obtain⟨e,⟨he,I⟩,rfl⟩:=hj;have J:Bef all e.on i:=by rw[C];exact .one T (by simpa using he) I
  rcases U with rfl|U
  exact J
  exact .trans (h2 _ _ U) J
theorem WN {U:List Nat}{c:Nat}:∀ (l:List Oper) (i:Nat),ac2 T U c l i=true->∀ k o,l[k]?=some o->clash (wR T o) c=true->(i+k)∈U
 | [],_,_,k,o,h,_=>by simp at h
 | q::l,i,h,0,o,hk,hc=>by
  simp at hk;subst hk;simp only[ac2,Bool.and_eq_true,hc,cond_true] at h;exact(Ja _ _).1 h.1
 | q::l,i,h,k+1,o,hk,hc=>by
  simp only[ac2,Bool.and_eq_true] at h;have:=WN l (i+1) h.2 k o fF hc
  rwa [show i+1+k=i+(k+1) by omega] at this
theorem WO {L:List Oper}{B:List (List Nat)}:∀ (l:List Oper) (i:Nat),aea T L B l i=true->∀ k o,l[k]?=some o->ac2 T (BV B (i+k)) (wR T o) (L.take (i+k)) 0=true
 | [],_,_,k,o,h=>by simp at h
 | q::l,i,h,0,o,hk=>by
  simp at hk;subst hk;simp only[aea,Bool.and_eq_true] at h;exact h.1
 | q::l,i,h,k+1,o,hk=>by
  simp only[aea,Bool.and_eq_true] at h;have:=WO l (i+1) h.2 k o fF
  rwa [show i+1+k=i+(k+1) by omega] at this
theorem Rn:∀ (l:List Oper),aeb T l=false->∀ o∈l,wR T o≠2
 | [],_,o,h=>by cases h
 | q::l,h,o,ho=>by
  simp only[aeb,Bool.or_eq_false_iff] at h;rcases List.mem_cons.1 ho with rfl|ho
  intro e;rw[e] at h;simp at h
  exact Rn l h.2 o ho
theorem FH {all:Array Oper}(h:FU T all=true){i j:Nat}{U oj:Oper}(g:i<j)(hi:all[i]?=some U)(hj:all[j]?=some oj)(hc:clash (wR T U) (wR T oj)=true):Bef all i j:=by
 unfold FU at h;rw[Bool.and_eq_true] at h;have h:=h.2;have J : all.toList[i]?=some U:=by simpa using hi
 have I : all.toList[j]?=some oj:=by simpa using hj
 cases C:aeb T all.toList with
 | false=>
  have h1:=Rn _ C U (List.mem_of_getElem? J);have h2:=Rn _ C oj (List.mem_of_getElem? I)
  exfalso
  simp only[clash,Bool.or_eq_true,Bool.and_eq_true] at hc;rcases hc with hc|hc
  exact h1 (Nat.eq_of_beq_eq_true hc.1)
  exact h2 (Nat.eq_of_beq_eq_true hc.1)
 | true=>
  rw[C] at h;simp only[cond_true] at h;have:=WO _ 0 h j oj I;rw[Nat.zero_add] at this;have:=WN _ 0 this i U (by rw[List.getElem?_take_of_lt g];exact J) hc;rw[Nat.zero_add] at this;exact JG all.toList [] (λk o hk=>by simpa using hk) (λi b hb=>by simp[BV] at hb) j i this
def patch (sl:List Tmp)(er ps:List PV):List PV:=(List.range ps.length).map λt=>if t∈sl then jD er t else jD ps t
theorem XA (sl:List Tmp)(er ps:List PV):(patch sl er ps).length=ps.length:=by simp[patch]
theorem Ro {sl:List Tmp}{er ps:List PV}{t:Nat}(h:t<ps.length):jD (patch sl er ps) t=if t∈sl then jD er t else jD ps t:=by
 rw[Df,List.getD_eq_getElem?_getD];simp[patch,h]
theorem WQ {sl:List Tmp}{er ps:List PV}(h:∀ t∈sl,Eqv (jD ps t) (jD er t)):Ak ps (patch sl er ps):=by
 refine⟨by simp[patch],λt=>?_⟩
 by_cases ht:t<ps.length
 rw[Ro ht]
 split
 rename_i U;exact h t U
 exact Eqv.refl _
 rw[xW (Nat.le_of_not_lt ht),xW dJ];exact Eqv.refl _
theorem SK {sl:List Tmp}{er ps:List PV}(hl:er.length=ps.length):∀ t∈sl,jD (patch sl er ps) t=jD er t:=by
 intro t U
 by_cases ht:t<ps.length
 rw[Ro ht,if_pos U]
 rw[xW dJ,xW (by rw[hl];exact Nat.le_of_not_lt ht)]
theorem Bef.listed {all:Array Oper}{listed:Array Bool}(U:∀ j o,all[j]?=some o->listed.getD j true=true->∀ e∈o.after,Region.binds .any e=true->listed.getD e.on true=true){i j:Nat}(h:Bef all i j):listed.getD j true=true->listed.getD i true=true:=by
 induction h with
 | one h1 h2 I=>intro h;exact U _ _ h1 h _ h2 I
 | trans _ _ J T=>intro h;exact J (T h)
theorem xu {listed:Array Bool}{i j:Nat}(hi:listed.getD i true=false):(listed.setIfInBounds i true).getD j true=true↔(j=i\/listed.getD j true=true):=by
 have T:i<listed.size:=by
  rcases Nat.lt_or_ge i listed.size with h|h
  exact h
  simp[Array.getElem?_eq_none h] at hi
 by_cases U:i=j
 subst U;simp[T]
 rw[getD_set_ne true U];constructor
 intro h;exact .inr h
 rintro (h|h)
 exact absurd h.symm U
 exact h
theorem Bef.ready {all:Array Oper}{listed:Array Bool}(U:∀ j o,all[j]?=some o->listed.getD j true=true->∀ e∈o.after,Region.binds .any e=true->listed.getD e.on true=true)
  {i j:Nat} (h:Bef all i j):∀ o,all[j]?=some o->(∀ e∈o.after,Region.binds .any e=true->listed.getD e.on true=true)->listed.getD i true=true:=by
 induction h with
 | one h1 h2 J=>intro o ho T;rw[h1] at ho;cases ho;exact T _ h2 J
 | trans h1 h2 ih1 ih2=>
  intro o ho T;exact h1.listed U (ih2 o ho T)
end
end Go.Pv
