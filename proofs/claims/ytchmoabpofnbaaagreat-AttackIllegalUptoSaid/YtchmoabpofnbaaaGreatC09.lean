import Derived.Laws.IdiomCopy
import Derived.Laws.Append
import Derived.Shelf.Slices.In.SortNone
import Derived.Shelf.Sort.Plain
import Derived.Test.YtchmoabpofnbaaaGreatC06
set_option linter.all false
namespace Go.Pv
open Go
def adv {α:Type}(s:List α)(i:Int)(v:List α):Option (List α) := if 0<=i/\i<=(s.length:Int)/\0<v.length/\s.length+v.length<=1000000000 then some (s.take i.toNat++v++s.drop i.toNat) else none
theorem adw {α:Type}{s v:List α}{n:Nat}(h1:n<=s.length)(h2:0<v.length)(U:s.length+v.length<=1000000000):adv s (n:Int) v=some (s.take n++v++s.drop n):=by
 unfold adv;rw[if_pos ⟨by omega,by omega,h2,U⟩];simp
theorem acK (v:Value):Ol v=v.oneCell':=by cases v<;>rfl
theorem uJ {b:Nat}{ty:TypeId}:∀ (vs:List Value) (o:Nat) (w:World) (arr:Array Value),w.heap[b]?=some (.cells arr ty (0,0))->o+vs.length<=arr.size->Wrote w (w.setCells b o vs) b o arr ty vs
 | [],o,w,arr,h,_=>⟨rfl,rfl,rfl,rfl,λ_ _=>rfl,arr,h,rfl,λj=>by simp;intro h1 h2;omega⟩
 | v::vs,o,w,arr,h,hle=>by
  have T:o<arr.size:=by simp at hle;omega
  have U:=uJ vs (o+1) (w.setCell ⟨b,o,none⟩ v) (arr.setIfInBounds o v) (NQ h v) (by simp at hle |-;omega);obtain⟨arr',h1,h2,J⟩:=U.blk;refine⟨U.os,U.tape,U.output,?_,λk hk=>?_,arr',h1,by simpa using h2,λj=>?_⟩
  rw[World.setCells,U.size];simp[World.setCell]
  rw[World.setCells,U.other k hk];simp only[World.setCell,Array.getElem?_modify];rw[if_neg ah]
  rw[J j];simp only[List.length_cons]
  by_cases I:j=o
  subst I;rw[if_neg ah,if_pos ah];simp[T]
  by_cases h5:o+1<=j/\j<o+1+vs.length
  rw[if_pos h5,if_pos ah];rw[show j-o=(j-(o+1))+1 by omega];simp
  rw[if_neg h5,if_neg ah];rw[Array.getElem?_setIfInBounds];rw[if_neg ah]
structure aha (P:Program)(k:Nat)(et:TypeId)(z:Value)(B:Nat):Prop where
 shift:∀ (b off n c i vb voff m vc:Nat) (cs vs:List Value) (w:World),i<n->0<m->n+m<=c->c<=9223372036854775807->vb≠b->cs.length=n->vs.length=m ->
  (∀ j v,cs[j]?=some v->w.cell? ⟨b,off+j,none⟩=some v)->(∀ j,j<n+m->(w.cell? ⟨b,off+j,none⟩).isSome=true)->(∀ j,j<n+m->w.frozen? ⟨b,off+j,none⟩=false) ->
  (∀ j v,vs[j]?=some v->w.cell? ⟨vb,voff+j,none⟩=some v)->(∀ v∈cs,v.oneCell'=true)->(∀ v∈vs,v.oneCell'=true) ->
  ∀ (tA tB:TypeId) (kA kB:Nat),w.shape? vb=some (tA,kA)->w.shape? b=some (tB,kB)->kB≠0->w.frozen? ⟨vb,voff,none⟩=false->w.frozen? ⟨vb,kA,none⟩=false ->
  Calls P k #[.slice (some ⟨b,off,none⟩) n c,.int .i64 i,.slice (some ⟨vb,voff,none⟩) m vc] w λe w' =>
   e=.returned (.slice (some ⟨b,off,none⟩) (n+m) c)/\w'=(w.drew.setCells b (off+(i+m)) (cs.drop i)).setCells b (off+i) vs
 acL:∀ (b off n c vb voff m vc:Nat) (vs:List Value) (w:World),0<m->n+m<=c->c<=9223372036854775807->vs.length=m ->
  (∀ j,j<m->(w.cell? ⟨b,off+n+j,none⟩).isSome=true)->(∀ j,j<m->w.frozen? ⟨b,off+n+j,none⟩=false) ->
  (∀ j v,vs[j]?=some v->w.cell? ⟨vb,voff+j,none⟩=some v)->(∀ v∈vs,v.oneCell'=true) ->
  Calls P k #[.slice (some ⟨b,off,none⟩) n c,.int .i64 n,.slice (some ⟨vb,voff,none⟩) m vc] w λe w' =>
   e=.returned (.slice (some ⟨b,off,none⟩) (n+m) c)/\w'=w.setCells b (off+n) vs
 Yi:∀ (base:Option Addr) (n c vb voff m vc:Nat) (cs vs:List Value) (w:World),0<m->n<=c->c<n+m->(n+m)*B<=140737488355328 ->
  cs.length=n->vs.length=m->(base=none->n=0)->(∀ a,base=some a->∀ j v,cs[j]?=some v->w.cell? (a.add j)=some v) ->
  (∀ j v,vs[j]?=some v->w.cell? ⟨vb,voff+j,none⟩=some v)->(∀ v∈vs,v.oneCell'=true) ->
  Calls P k #[.slice base n c,.int .i64 n,.slice (some ⟨vb,voff,none⟩) m vc] w λe w' =>
   e=.returned (.slice (some ⟨w.heap.size,0,none⟩) (n+m) (grownCap w (n+m) c et)) /\
   w'=w.drew.alloc (.cells ((cs++vs).toArray++Builtin.zeroCells z.cells (grownCap w (n+m) c et-(n+m))) et)
 grow:∀ (b off n c i vb voff m vc:Nat) (cs vs:List Value) (w:World),i<n->0<m->n<=c->c<n+m->(n+m)*B<=140737488355328 ->
  cs.length=n->vs.length=m->(∀ j v,cs[j]?=some v->w.cell? ⟨b,off+j,none⟩=some v) ->
  (∀ j v,vs[j]?=some v->w.cell? ⟨vb,voff+j,none⟩=some v)->(∀ v∈cs,v.oneCell'=true)->(∀ v∈vs,v.oneCell'=true) ->
  Calls P k #[.slice (some ⟨b,off,none⟩) n c,.int .i64 i,.slice (some ⟨vb,voff,none⟩) m vc] w λe w' =>
   e=.returned (.slice (some ⟨w.heap.size,0,none⟩) (n+m) (grownCap w (n+m) c et)) /\
   w'=(((w.alloc (.cells ((cs.take i).toArray++Builtin.zeroCells z.cells (n+m-i)++Builtin.zeroCells z.cells (grownCap w (n+m) c et-(n+m))) et)).drew.setCells w.heap.size i vs).drew).setCells w.heap.size (i+m) (cs.drop i)
def Trv (w:World)(Y:Nat->Prop)(rs:List (List PV))(vs:List Value):Prop := ∀ (w' : World) (Y' : Nat->Prop) (σ' : Sg) (b' o' : Nat),(∀ p v,Rep w Y iU p v->Rep w' Y' σ' p v)->(∀ i v,vs[i]?=some v->w'.cell? ⟨b',o'+i,none⟩=some v)->jw w' Y' σ' b' 1 rs o'
theorem acM {w:World}{Y:Nat->Prop}{ra rb:List (List PV)}{us vs:List Value}(hl:us.length=ra.length)(h1:Trv w Y ra us)(h2:Trv w Y rb vs):Trv w Y (ra++rb) (us++vs):=by
 intro w' Y' σ' U o' hk hc;refine jw.app _ _ _ (h1 w' Y' σ' U o' hk λi v hv=>hc i v ?_) (h2 w' Y' σ' U _ hk λi v hv=>?_)
 rw[List.getElem?_append_left (by
  by_cases hh:i<us.length
  exact hh
  rw[List.getElem?_eq_none (Nat.le_of_not_lt hh)] at hv;cases hv)]
 exact hv
 have:=hc (us.length+i) v bT;rw[show o'+ra.length*1+i=o'+(us.length+i) by omega];exact this
section
variable {P:Program}{G:Nat->Option (List PV)}{k:Nat}{et:TypeId}{z:Value}{B:Nat}
theorem Xf {w w' : World}{Y:Nat->Prop}{σ:Sg}{args:List PV}{J:List Value}{ra rb rows:List (List PV)}{C:Ctx ⟨λ_=>.bad,G,2,[],0,[],[],none,λ_=>[]⟩}{l:Loc}{c:Nat}{arr' : Array Value}{ty:TypeId}{us:List Value}
  (H:SW C w Y σ args J [(0,some (.arr false 1 ra)),(1,some (.arr false 1 rb))] 2) (hl:σ 0=some l) (hy:Y l.cb) (hlen:us.length=rows.length) (htr:Trv w Y rows us) (hfit:l.co+c=l.tot) (hc:rows.length<=c) (g:c<=9223372036854775807)
  (hos:w'.os=w.os) (T:w'.tape=w.tape) (I:w'.output=w.output) (hsize:w'.heap.size=w.heap.size) (U:∀ k,k≠l.cb->w'.heap[k]?=w.heap[k]?)
  (hb:w'.heap[l.cb]?=some (.cells arr' ty (0,0))) (hsz:arr'.size=l.tot) (hcell:∀ (j:Nat) (v:Value),us[j]?=some v->arr'[l.co+j]?=some v) :
  ∃ cv v st' n' Y' σ',(.slice (some ⟨l.cb,l.co,none⟩) rows.length c:Value)=cv/\(v=.os 2 0 rows.length/\st'=[(0,none),(1,none),(2,some (.arr false 1 rows))]/\n'=3)/\SW C w' Y' σ' [v] [cv] st' n':=by
 obtain⟨σ',H',hid',_⟩:=H.aaU (id:=2) (b:=0) ⟨H.next 2 (Nat.le_refl _),Nat.le_refl _⟩ (x':=.arr false 1 rows) (l':=⟨l.cb,l.co,1,l.tot,rows.length⟩) rfl (λ_ _ e=>by cases e) hl hy rfl hos T I hsize U (by
  intro σ' _ hk;unfold gW;refine⟨⟨arr',ty,hb,hsz⟩,rfl,by omega,⟨by show l.co+rows.length*1<=l.tot;omega,rfl⟩,?_,λ_=>hy,λh=>by cases h⟩;exact htr w' Y iU l.cb l.co hk λi v hv=>by rw[cell_of_block hb];exact hcell i v hv)
 refine⟨_,_,_,_,Y,σ',rfl,⟨rfl,rfl,rfl⟩,(H'.drop 1).rG ?_⟩;unfold gI;refine⟨_,_,rfl,?_,by unfold gI;rfl⟩;unfold Rep;exact .inl ⟨_,c,hid',by simp,⟨hc,g⟩,by show l.co+0*1+c*1=l.tot;omega,by show 0+rows.length<=rows.length;omega⟩
theorem Yj {w w' : World}{Y:Nat->Prop}{σ:Sg}{args:List PV}{U:List Value}{ra rb rows:List (List PV)}{C:Ctx ⟨λ_=>.bad,G,2,[],0,[],[],none,λ_=>[]⟩}{c:Nat}{arr' : Array Value}{us:List Value}
  (H:SW C w Y σ args U [(0,some (.arr false 1 ra)),(1,some (.arr false 1 rb))] 2) (hlen:us.length=rows.length) (J:Trv w Y rows us) (hc:rows.length<=c) (T:c<=9223372036854775807)
  (hw:∃ d,w'={ w.alloc (.cells arr' et) with drawn:=d }) (hsz:arr'.size=c) (hcell:∀ (j:Nat) (v:Value),us[j]?=some v->arr'[j]?=some v) :
  ∃ cv v st' I Y' σ',(.slice (some ⟨w.heap.size,0,none⟩) rows.length c:Value)=cv/\(v=.os 2 0 rows.length/\st'=[(0,none),(1,none),(2,some (.arr false 1 rows))]/\I=3)/\SW C w' Y' σ' [v] [cv] st' I:=by
 obtain⟨d,rfl⟩:=hw
 obtain⟨Y2,g,H2,hrep,_⟩:=SW.XQ (a:={ tmps:=U.toArray,defers:=[] }) (id:=2) (arr:=arr') (rows:=rows) (sz:=1) (m:=c) (by simpa using H) ⟨H.next 2 (Nat.le_refl _),Nat.le_refl _⟩ et ah ⟨hc,T⟩ ah (by
  intro w' Y' hk hb;exact J w' Y' iU _ 0 hk λi v hv=>by rw[cell_of_block hb,Nat.zero_add];exact hcell i v hv)
 refine⟨_,_,_,_,Y2,g,rfl,⟨rfl,rfl,rfl⟩,(((H2.drawn d).drop 0).drop 1).rG ?_⟩;unfold gI;exact⟨_,_,rfl,hrep.drawn _,by unfold gI;rfl⟩
theorem NS {w v:World}{ob:Obj}{arr arr' : Array Value}{o:Nat}{us:List Value}(h0:v.heap=w.heap.push ob){U : World}(W:Wrote v U w.heap.size o arr et us)(T:U.heap[w.heap.size]?=some (.cells arr' et (0,0))):U.heap=w.heap.push (.cells arr' et):=by
 apply Array.ext_getElem?;intro j
 by_cases hj:j=w.heap.size
 subst hj;rw[T];simp
 rw[W.other j hj,h0,Array.getElem?_push,Array.getElem?_push,if_neg hj,if_neg hj]
theorem OH (cs:Array Value)(n:Nat)(h:cs.size=1):(Builtin.zeroCells cs n).size=n:=by simp[Builtin.zeroCells,h]
theorem agI (hI:aha P k et z B)(hB:B<=16)(hz:z.cells.size=1)(hcall:∀ args w,(callFunc k args).run P w=.ok (.enter k args) w){ra rb:List (List PV)}{i:Nat}(hi:i<=ra.length)(hm:0<rb.length)(hs:ra.length+rb.length<=1000000000) :
  FnS P G k [.os 0 0 ra.length,.si .i64 i,.os 1 0 rb.length] [(0,some (.arr false 1 ra)),(1,some (.arr false 1 rb))] 2
   (λu st n=>u=.os 2 0 (ra.take i++rb++ra.drop i).length/\st=[(0,none),(1,none),(2,some (.arr false 1 (ra.take i++rb++ra.drop i)))]/\n=3):=by
 intro w Y σ cargs hG hY hn J hst hnn;refine⟨hcall _ _,?_⟩
 let C:Ctx ⟨λ_=>.bad,G,2,[],0,[],[],none,λ_=>[]⟩:=xR ⟨λ_=>.bad,G,2,[],0,[],[],none,λ_=>[]⟩ w Y σ [(0,some (.arr false 1 ra)),(1,some (.arr false 1 rb))]
 have H0:SW C w Y σ [.os 0 0 ra.length,.si .i64 i,.os 1 0 rb.length] cargs [(0,some (.arr false 1 ra)),(1,some (.arr false 1 rb))] 2:=by
  refine⟨J,hst,hn,hY,λ_ h=>h.1,λk h=>⟨hY k h.1,h.2⟩,λk h _=>?_,KL.refl _ w,λb x l h1 h2=>.inr ⟨b,x,l,h1,h2,rfl⟩,hG,⟨Nat.le_refl _,λ_ _=>rfl⟩,Aj.none (FZ _ hnn)⟩
  by_cases hi:Ed σ [(0,some (.arr false 1 ra)),(1,some (.arr false 1 rb))] k
  exact .inr ⟨h,hi⟩
  exact .inl ⟨h,hi⟩
 have hrl:(ra.take i++rb++ra.drop i).length=ra.length+rb.length:=by simp;omega
 have hrl2:(ra.take i++rb++ra.drop i).length=ra.length+rb.length:=hrl;unfold gI at J;obtain⟨v0,_,rfl,h0,J⟩:=J;unfold gI at J;obtain⟨v1,_,rfl,h1,J⟩:=J;unfold gI at J;obtain⟨v2,_,rfl,h2,J⟩:=J;unfold gI at J;subst J;unfold Rep at h1;subst h1;unfold Rep at h2;rcases h2 with ⟨l1,c1,hl1,rfl,⟨hc1,_⟩,ht1,hr1⟩|⟨h,_⟩
 rotate_left
 omega
 obtain⟨l1',hl1',hB1⟩:∃ l,σ 1=some l/\gW w Y σ l (.arr false 1 rb):=by
  rcases hst.blk 1 (.arr false 1 rb) rfl with h|⟨h,_⟩
  exact h
  rw[h] at hl1;cases hl1
 rw[hl1] at hl1';cases hl1';unfold gW at hB1;obtain⟨⟨arr1,ty1,ha1,hs1⟩,hsz1,_,⟨hf1,_⟩,hR1,_,_⟩:=hB1;obtain⟨vs,⟨hvl,hv1⟩,hvc,hvr⟩:=jw.vals _ _ hR1;rw[Nat.mul_one] at hvl;have hv1' : ∀ v∈vs,v.oneCell'=true:=λv hv=>by rw[<- acK];exact hv1 v hv
 have e2:l1.co+0*l1.sz=l1.co:=by omega
 rw[e2];have hge:∀ c,ra.length+rb.length<=grownCap w (ra.length+rb.length) c et:=λc=>aaX _;have hlt:∀ c,grownCap w (ra.length+rb.length) c et<=9223372036854775807:=λc=>aaW _ ah;have hby:(ra.length+rb.length)*B<=140737488355328:=Nat.le_trans (Nat.mul_le_mul hs hB) bJ;unfold Rep at h0;rcases h0 with ⟨l0,c0,hl0,rfl,⟨hc0,hc63⟩,ht0,hr0⟩|⟨h00,a,rfl⟩
 obtain⟨l0',hl0',hB0⟩:∃ l,σ 0=some l/\gW w Y σ l (.arr false 1 ra):=by
  rcases hst.blk 0 (.arr false 1 ra) rfl with h|⟨h,_⟩
  exact h
  rw[h] at hl0;cases hl0
 rw[hl0] at hl0';cases hl0';unfold gW at hB0;obtain⟨⟨arr0,ty0,ha0,hs0⟩,hsz0,_,⟨hf0,_⟩,hR0,hy0,_⟩:=hB0;have hy0:=hy0 rfl
 have hne:l1.cb≠l0.cb:=λe=>by
  have:=hst.inj 1 0 _ _ l1 l0 rfl rfl hl1 hl0 e;omega
 rw[hsz0] at ht0;have ht0:l0.co+c0=l0.tot:=by omega
 obtain⟨U,⟨hu1,ho1⟩,hc1',htr1⟩:=jw.vals _ _ (hR0.take i _ _);obtain⟨T,⟨hu2,ho2⟩,hc2',htr2⟩:=jw.vals _ _ (hR0.drop i _ _);rw[Nat.mul_one] at hu1 hu2;rw[List.length_take,Nat.min_eq_left hi] at hu1;rw[List.length_drop] at hu2
 have htr:Trv w Y (ra.take i++rb++ra.drop i) (U++vs++T) :=
  acM (by simp only[List.length_append,List.length_take];omega) (acM (by rw[List.length_take];omega) htr1 hvr) htr2
 have hcs:∀ j v,(U++T)[j]?=some v->w.cell? ⟨l0.cb,l0.co+j,none⟩=some v:=by
  intro j v hj
  by_cases hh:j<U.length
  rw[List.getElem?_append_left hh] at hj;exact hc1' j v hj
  rw[List.getElem?_append_right ah] at hj;have:=hc2' _ v hj;rw[show l0.co+i*1+(j-U.length)=l0.co+j by omega] at this;exact this
 have hone:∀ v∈U++T,v.oneCell'=true:=λv hv=>by
  rw[<- acK];rcases List.mem_append.1 hv with h|h
  exact ho1 v h
  exact ho2 v h
 have htk:(U++T).take i=U:=by rw[<- hu1];simp
 have hdr:(U++T).drop i=T:=by rw[<- hu1];simp
 have hcl:(U++T).length=ra.length:=by simp;omega
 have hul:(U++vs++T).length=(ra.take i++rb++ra.drop i).length:=by rw[hrl];simp;omega
 have e0:l0.co+0*l0.sz=l0.co:=by omega
 rw[e0]
 have hget:∀ {arr' : Array Value} {o:Nat},(∀ j,j<U.length->arr'[o+j]?=U[j]?)->(∀ j,j<vs.length->arr'[o+i+j]?=vs[j]?)->(∀ j,j<T.length->arr'[o+(i+rb.length)+j]?=T[j]?)->∀ (j:Nat) (v:Value),(U++vs++T)[j]?=some v->arr'[o+j]?=some v:=by
  intro arr' o g1 g2 g3 j v hj
  by_cases hh:j<U.length+vs.length
  rw[List.getElem?_append_left (by simpa using hh)] at hj
  by_cases hh2:j<U.length
  rw[List.getElem?_append_left hh2] at hj;rw[g1 j hh2];exact hj
  rw[List.getElem?_append_right ah] at hj;have:=g2 (j-U.length) ah;rw[show o+i+(j-U.length)=o+j by omega] at this;rw[this];exact hj
  rw[List.getElem?_append_right (by simpa using Nat.le_of_not_lt hh)] at hj
  have hlt2:j-(U++vs).length<T.length:=by
   by_cases hq:j-(U++vs).length<T.length
   exact hq
   rw[List.getElem?_eq_none (Nat.le_of_not_lt hq)] at hj;cases hj
  have:=g3 _ hlt2;rw[List.length_append] at this hj;rw[show o+(i+rb.length)+(j-(U.length+vs.length))=o+j by omega] at this;rw[this];exact hj
 by_cases hroom:ra.length+rb.length<=c0
 by_cases hin:i<ra.length
 refine(hI.shift l0.cb l0.co ra.length c0 i l1.cb l1.co rb.length c1 (U++T) vs w hin hm hroom hc63 hne hcl hvl hcs (λj hj=>by rw[cell_of_block ha0];simp;omega) (λj _=>tV ha0) hvc hone hv1' ty1 ty0 arr1.size arr0.size (by simp[World.shape?,ha1]) (by simp[World.shape?,ha0]) ah (tV ha1) (tV ha1)).mono ?_
 rintro e w' ⟨rfl,rfl⟩
 rw[hdr];have W1:=uJ T (l0.co+(i+rb.length)) w.drew arr0 ha0 ah;obtain⟨arr2,q1,q2,q3⟩:=W1.blk;have g:=uJ vs (l0.co+i) (w.drew.setCells l0.cb (l0.co+(i+rb.length)) T) arr2 q1 ah;obtain⟨arr3,r1,r2,r3⟩:=g.blk
 have:=Xf H0 hl0 hy0 hul htr ht0 ah hc63 (g.os.trans W1.os) (g.tape.trans W1.tape) (g.output.trans W1.output) (g.size.trans W1.size) (λk hk=>(g.other k hk).trans (W1.other k hk)) r1 ah (hget (λj hj=>by
   rw[r3,if_neg ah,q3,if_neg ah,<- cell_of_block ha0];rw[List.getElem?_eq_getElem hj];exact hc1' j _ (List.getElem?_eq_getElem hj)) (λj hj=>by
   rw[r3,if_pos ah,show l0.co+i+j-(l0.co+i)=j by omega]) (λj hj=>by
   rw[r3,if_neg ah,q3,if_pos ah,show l0.co+(i+rb.length)+j-(l0.co+(i+rb.length))=j by omega]))
 rw[hrl2] at this |-;obtain⟨cv,v,st',n',Y',σ',e1,e2,e3⟩:=this;exact⟨cv,v,st',n',Y',σ',by rw[e1],e2,e3⟩
 have hie:i=ra.length:=by omega
 have hu0:T=[]:=List.length_eq_zero_iff.1 ah;subst hu0;subst hie;refine(hI.acL l0.cb l0.co ra.length c0 l1.cb l1.co rb.length c1 vs w hm hroom hc63 hvl (λj hj=>by rw[cell_of_block ha0];simp;omega) (λj _=>tV ha0) hvc hv1').mono ?_
 rintro e w' ⟨rfl,rfl⟩
 have g:=uJ vs (l0.co+ra.length) w arr0 ha0 ah;obtain⟨arr3,r1,r2,r3⟩:=g.blk
 have:=Xf H0 hl0 hy0 hul htr ht0 ah hc63 g.os g.tape g.output g.size g.other r1 ah (hget (λj hj=>by
   rw[r3,if_neg ah,<- cell_of_block ha0];rw[List.getElem?_eq_getElem hj];exact hc1' j _ (List.getElem?_eq_getElem hj)) (λj hj=>by
   rw[r3,if_pos ah,show l0.co+ra.length+j-(l0.co+ra.length)=j by omega]) (λj hj=>by simp at hj))
 rw[hrl2] at this |-;obtain⟨cv,v,st',n',Y',σ',e1,e2,e3⟩:=this;exact⟨cv,v,st',n',Y',σ',by rw[e1],e2,e3⟩
 by_cases hin:i<ra.length
 refine(hI.grow l0.cb l0.co ra.length c0 i l1.cb l1.co rb.length c1 (U++T) vs w hin hm hc0 ah hby hcl hvl hcs hvc hone hv1').mono ?_
 rintro e w' ⟨rfl,rfl⟩
 rw[hdr,htk];obtain⟨cap,hcap⟩:∃ cap,cap=grownCap w (ra.length+rb.length) c0 et:=⟨_,rfl⟩;have hcg:=hge c0;have I:=hlt c0;rw[<- hcap] at hcg I |-;obtain⟨arr,harr⟩:∃ arr:Array Value,arr=U.toArray++Builtin.zeroCells z.cells (ra.length+rb.length-i)++Builtin.zeroCells z.cells (cap-(ra.length+rb.length)):=⟨_,rfl⟩;rw[<- harr];have hasz:arr.size=cap:=by rw[harr];simp only[Array.size_append,List.size_toArray,OH _ _ hz];omega
 have hb0:(w.alloc (.cells arr et)).drew.heap[w.heap.size]?=some (.cells arr et (0,0)):=by show(w.heap.push (.cells arr et))[w.heap.size]?=_;simp
 have W1:=uJ vs i (w.alloc (.cells arr et)).drew arr hb0 ah;obtain⟨arr2,q1,q2,q3⟩:=W1.blk;have g1:=NS (w:=w) rfl W1 q1;obtain⟨w1,hw1⟩:∃ w1,w1=((w.alloc (.cells arr et)).drew.setCells w.heap.size i vs).drew:=⟨_,rfl⟩;have q1' : w1.heap[w.heap.size]?=some (.cells arr2 et (0,0)):=by rw[hw1];exact q1
 rw[<- hw1];have g:=uJ T (i+rb.length) w1 arr2 q1' ah;obtain⟨arr3,r1,r2,r3⟩:=g.blk;have g2:=NS (w:=w) (by rw[hw1];exact g1) g r1
 have e3:∃ d,w1.setCells w.heap.size (i+rb.length) T={ w.alloc (.cells arr3 et) with drawn:=d }:=by
  refine⟨(w1.setCells w.heap.size (i+rb.length) T).drawn,?_⟩;have k1:(w1.setCells w.heap.size (i+rb.length) T).os=w.os:=g.os.trans (by rw[hw1];exact W1.os);have k2:(w1.setCells w.heap.size (i+rb.length) T).tape=w.tape:=g.tape.trans (by rw[hw1];exact W1.tape);have k3:(w1.setCells w.heap.size (i+rb.length) T).output=w.output:=g.output.trans (by rw[hw1];exact W1.output);revert g2 k1 k2 k3;generalize w1.setCells w.heap.size (i+rb.length) T=x;intro g2 k1 k2 k3;cases x;simp only[World.alloc] at *;simp only[g2,k1,k2,k3]
 have:=Yj (et:=et) H0 hul htr (by rw[hrl];exact hcg) I e3 ah (by
  have:=hget (arr':=arr3) (o:=0) (λj hj=>by
   rw[r3,if_neg ah,q3,if_neg ah,harr];simp[Array.getElem?_append,hj]) (λj hj=>by
   rw[r3,if_neg ah,q3,if_pos ah,show 0+i+j-i=j by omega]) (λj hj=>by
   rw[r3,if_pos ah,show 0+(i+rb.length)+j-(i+rb.length)=j by omega])
  simpa using this)
 rw[hrl2] at this |-;obtain⟨cv,v,st',n',Y',σ',e1,e2,e3⟩:=this;exact⟨cv,v,st',n',Y',σ',by rw[e1],e2,e3⟩
 have hie:i=ra.length:=by omega
 have hu0:T=[]:=List.length_eq_zero_iff.1 ah;subst hu0;subst hie;refine(hI.Yi (some ⟨l0.cb,l0.co,none⟩) ra.length c0 l1.cb l1.co rb.length c1 (U++[]) vs w hm hc0 ah hby hcl hvl (λh=>by cases h) (λa h j v hj=>by cases h;rw[Addr.add_lit];exact hcs j v hj) hvc hv1').mono ?_
 rintro e w' ⟨rfl,rfl⟩
 obtain⟨cap,hcap⟩:∃ cap,cap=grownCap w (ra.length+rb.length) c0 et:=⟨_,rfl⟩;have hcg:=hge c0;have I:=hlt c0;rw[<- hcap] at hcg I |-
 have:=Yj (et:=et) (arr':=(U++[]++vs).toArray++Builtin.zeroCells z.cells (cap-(ra.length+rb.length))) H0 hul htr (by rw[hrl];exact hcg) I ⟨w.drawn+1,rfl⟩ (by simp only[Array.size_append,List.size_toArray,OH _ _ hz,List.length_append,List.length_nil];omega) (λj v hj=>by
  have hlt2:j<(U++[]++vs).length:=by
   by_cases hq:j<(U++[]++vs).length
   exact hq
   rw[List.getElem?_eq_none (by simpa using hq)] at hj;cases hj
  rw[Array.getElem?_append_left (by simpa using hlt2)]
  simpa using hj)
 rw[hrl2] at this |-;obtain⟨cv,v,st',n',Y',σ',e1,e2,e3⟩:=this;exact⟨cv,v,st',n',Y',σ',by rw[e1],e2,e3⟩
 have hra:ra=[]:=List.length_eq_zero_iff.1 h00;subst hra;have hi0:i=0:=by simpa using hi
 subst hi0;refine(hI.Yi a 0 0 l1.cb l1.co rb.length c1 [] vs w hm (Nat.le_refl _) ah (by simpa using hby) rfl hvl (λ_=>rfl) (λa h j v hj=>by simp at hj) hvc hv1').mono ?_
 rintro e w' ⟨rfl,rfl⟩
 obtain⟨cap,hcap⟩:∃ cap,cap=grownCap w (0+rb.length) 0 et:=⟨_,rfl⟩;have hcg:0+rb.length<=grownCap w (0+rb.length) 0 et:=aaX _;have I : grownCap w (0+rb.length) 0 et<=9223372036854775807:=aaW _ (by simp at hs;omega);rw[<- hcap] at hcg I |-
 have:=Yj (et:=et) (us:=vs) (rows:=rb) (arr':=([]++vs).toArray++Builtin.zeroCells z.cells (cap-(0+rb.length))) H0 hvl hvr ah I ⟨w.drawn+1,rfl⟩ (by simp only[Array.size_append,List.size_toArray,OH _ _ hz,List.nil_append];omega) (λj v hj=>by
  have hlt2:j<vs.length:=by
   by_cases hq:j<vs.length
   exact hq
   rw[List.getElem?_eq_none (by simpa using hq)] at hj;cases hj
  rw[Array.getElem?_append_left (by simpa using hlt2)]
  simpa using hj)
 obtain⟨cv,v,st',n',Y',σ',e1,e2,e3⟩:=this;refine⟨cv,v,st',n',Y',σ',?_,?_,e3⟩
 rw[<- e1,Nat.zero_add]
 simpa using e2
end
end Go.Pv
namespace Go.Pv
open Go Go.Sort
def BZ:List Int->List Int
 | []=>[]
 | [x]=>[x]
 | x::y::l=>(x::y::l).mergeSort λa b=>decide (a<=b)
theorem Z8 (l:List Int):BZ l=l.mergeSort λa b=>decide (a<=b):=by
 match l with
 | []=>simp[BZ]
 | [x]=>simp[BZ]
 | x::y::l=>rfl
theorem OI (l:List Int):(BZ l).Perm l:=by rw[Z8];exact List.mergeSort_perm _ _
def ae6 (l:List Int):Option (List Int):=if l.length<=1000000000 then some (BZ l) else none
theorem adx {l r:List Int}(h:ae6 l=some r):l.length<=1000000000/\r=BZ l:=by
 unfold ae6 at h
 split at h
 rename_i h1;cases h;exact⟨h1,rfl⟩
 cases h
theorem Vj {w:World}{Y:Nat->Prop}{σ:Sg}{b:Nat}:∀ (l:List Int) (o:Nat),jw w Y σ b 1 (l.map λx=>[PV.si .i64 x]) o->∀ j (h:j<l.length),w.cell? ⟨b,o+j,none⟩=some (.int .i64 l[j])
 | [],_,_,j,h=>by simp at h
 | x::l,o,hr,j,h=>by
  rw[List.map_cons] at hr;unfold jw at hr;obtain⟨_,h2,U⟩:=hr;unfold jo at h2;obtain⟨⟨v,hv,hx⟩,_⟩:=h2;unfold Rep at hx;subst hx
  cases j with
  | zero=>exact hv
  | succ j=>
   have:=Vj l (o+1) U j bW;rw[show o+1+j=o+(j+1) by omega] at this;exact this
theorem Z9 {w:World}{Y:Nat->Prop}{σ:Sg}{b:Nat}:∀ (l:List Int) (o:Nat),(∀ j (h:j<l.length),w.cell? ⟨b,o+j,none⟩=some (.int .i64 l[j]))->jw w Y σ b 1 (l.map λx=>[PV.si .i64 x]) o
 | [],_,_=>by simp[jw]
 | x::l,o,h=>by
  rw[List.map_cons];unfold jw;refine⟨⟨rfl,rfl⟩,?_,Z9 l (o+1) λj hj=>?_⟩
  unfold jo;exact⟨⟨_,h 0 aC,by unfold Rep;rfl⟩,by unfold jo;trivial⟩
  have:=h (j+1) dD;rw[show o+(j+1)=o+1+j by omega] at this;exact this
theorem ae7 {P:Program}{G:Nat->Option (List PV)}{k:Nat}(hcall:∀ args w,(callFunc k args).run P w=.ok (.enter k args) w)
  (hs:∀ (blk off cap:Nat) (zs:List Int) (w:World),Holds (Value.int .i64) w blk off zs.toArray->blk<w.heap.size->zs.length<4611686018427387904 ->
   Calls P k #[.slice (some ⟨blk,off,none⟩) zs.length cap] w λe w'=>e=.returned (.tuple #[])/\∃ n os,w'=grow (putRow (Value.int .i64) (Sort.ahead w n) blk off (zs.mergeSort λx y=>decide (x<=y)).toArray) os)
  (h0:∀ (p:Option Addr) (cap:Nat) (w:World),Calls P k #[.slice p 0 cap] w λe w'=>e=.returned (.tuple #[])/\w'=w)
  {l:List Int} (hl:l.length<=1000000000) :
  FnS P G k [.os 0 0 l.length] [(0,some (.arr false 1 (l.map λx=>[PV.si .i64 x])))] 1
   (λu st n=>u=.DJ []/\st=[(0,some (.arr false 1 ((BZ l).map λx=>[PV.si .i64 x])))]/\n=1):=by
 intro w Y σ cargs hG hY hn U hst hnn;refine⟨hcall _ _,?_⟩
 let C:Ctx ⟨λ_=>.bad,G,1,[],0,[],[],none,λ_=>[]⟩:=xR ⟨λ_=>.bad,G,1,[],0,[],[],none,λ_=>[]⟩ w Y σ [(0,some (.arr false 1 (l.map λx=>[PV.si .i64 x])))]
 have H0:SW C w Y σ [.os 0 0 l.length] cargs [(0,some (.arr false 1 (l.map λx=>[PV.si .i64 x])))] 1:=by
  refine⟨U,hst,hn,hY,λ_ h=>h.1,λk h=>⟨hY k h.1,h.2⟩,λk h _=>?_,KL.refl _ w,λb x l h1 h2=>.inr ⟨b,x,l,h1,h2,rfl⟩,hG,⟨Nat.le_refl _,λ_ _=>rfl⟩,Aj.none (FZ _ hnn)⟩
  by_cases hi:Ed σ [(0,some (.arr false 1 (l.map λx=>[PV.si .i64 x])))] k
  exact .inr ⟨h,hi⟩
  exact .inl ⟨h,hi⟩
 have hlen:(BZ l).length=l.length:=(OI l).length_eq;unfold gI at U;obtain⟨v0,_,rfl,ha,U⟩:=U;unfold gI at U;subst U;unfold Rep at ha;rcases ha with ⟨l0,c0,J,rfl,⟨hc0,hc63⟩,ht0,hr0⟩|⟨h00,a,rfl⟩
 obtain⟨l0',I,hB0⟩:∃ l',σ 0=some l'/\gW w Y σ l' (.arr false 1 (l.map λx=>[PV.si .i64 x])):=by
  rcases hst.blk 0 (.arr false 1 (l.map λx=>[PV.si .i64 x])) rfl with h|⟨h,_⟩
  exact h
  rw[h] at J;cases J
 rw[J] at I;cases I;have hB0':=hB0;unfold gW at hB0;obtain⟨⟨g,ty0,ha0,hs0⟩,hsz0,hnr0,⟨hf0,hf1⟩,hR0,hy0,hx0⟩:=hB0;have hy:=hy0 rfl;have hlt:l0.cb<w.heap.size:=hY _ hy;have e0:l0.co+0*l0.sz=l0.co:=by omega
 rw[e0]
 have hH:Holds (Value.int .i64) w l0.cb l0.co l.toArray:=by
  intro j hj;have hj' : j<l.length:=by simpa using hj
  refine⟨?_,tV ha0⟩;rw[Vj l l0.co hR0 j hj'];simp[hj']
 refine(hs l0.cb l0.co c0 l w hH hlt ah).mono ?_
 rintro e w' ⟨rfl,n,os,rfl⟩
 rw[<- Z8];have H1:SW C (Sort.ahead w n) Y σ _ _ _ 1:=H0.drawn (w.drawn+n);have hH1:Holds (Value.int .i64) (Sort.ahead w n) l0.cb l0.co l.toArray:=hH;have ha1:(Sort.ahead w n).heap[l0.cb]?=some (.cells g ty0 (0,0)):=ha0;obtain⟨w1,T⟩:∃ w1,w1=putRow (Value.int .i64) (Sort.ahead w n) l0.cb l0.co (BZ l).toArray:=⟨_,rfl⟩;have hsz1:w1.heap.size=(Sort.ahead w n).heap.size:=by rw[T];simp
 have hoth:∀ k,k≠l0.cb->w1.heap[k]?=(Sort.ahead w n).heap[k]?:=by
  intro k hk;rw[T];simp only[putRow,mapBlock,Array.getElem?_modify];rw[if_neg ah]
 have hblk:w1.heap[l0.cb]?=some (.cells (putCells (Value.int .i64) l0.co (BZ l).toArray g) ty0 (0,0)):=by
  rw[T];simp only[putRow,mapBlock,Array.getElem?_modify,if_true,ha1];rfl
 have hcell:∀ j (h:j<(BZ l).length),w1.cell? ⟨l0.cb,l0.co+j,none⟩=some (.int .i64 (BZ l)[j]):=by
  intro j h;rw[T,cell?_putRow (Value.int .i64) (Sort.ahead w n) l0.cb l0.co l.toArray (BZ l).toArray hH1 (by simpa using hlen) j bW];simp[h]
 have H2:=H1.update (b:=0) (x:=.arr false 1 (l.map λx=>[PV.si .i64 x])) (x':=.arr false 1 ((BZ l).map λx=>[PV.si .i64 x])) (w':=w1) rfl J hy
  (by rw[T];rfl) (by rw[T];rfl) (by rw[T];rfl) hsz1 hoth (λ_ _ e=>by cases e) (by
   intro hk;unfold gW;refine⟨⟨_,ty0,hblk,by rw[<- hs0];simp[putCells]⟩,hsz0,hnr0,⟨by simpa [hlen] using hf0,by simpa [hlen] using hf1⟩,Z9 _ _ hcell,λ_=>hy,λh=>by cases h⟩)
 rw[<- T];have H3:=H2.aep (w':=grow w1 os) ⟨rfl,rfl,rfl,by simp[grow],λk hk=>by simp[grow,Array.getElem?_append,hk]⟩;refine⟨_,_,_,_,Y,σ,rfl,⟨rfl,rfl,rfl⟩,H3.rG ?_⟩;unfold gI;exact⟨_,_,rfl,by unfold Rep;exact⟨[],rfl,by unfold gI;rfl⟩,by unfold gI;rfl⟩
 have J:l=[]:=List.length_eq_zero_iff.1 h00;subst J;refine(h0 a 0 w).mono ?_
 rintro e w' ⟨rfl,rfl⟩
 refine⟨_,_,_,_,Y,σ,rfl,⟨rfl,rfl,rfl⟩,H0.rG ?_⟩;unfold gI;exact⟨_,_,rfl,by unfold Rep;exact⟨[],rfl,by unfold gI;rfl⟩,by unfold gI;rfl⟩
end Go.Pv
