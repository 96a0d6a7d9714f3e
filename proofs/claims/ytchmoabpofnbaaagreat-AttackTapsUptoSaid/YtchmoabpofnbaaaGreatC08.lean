import Derived.Laws.IdiomCopy
import Derived.Laws.Append
import Derived.Shelf.Slices.In.SortNone
import Derived.Shelf.Sort.Plain
import Derived.Test.YtchmoabpofnbaaaGreatC06
set_option linter.all false
namespace Go.Pv
open Go
def aeN {α:Type}(s:List α)(i:Int)(v:List α):Option (List α) := if 0<=i/\i<=(s.length:Int)/\0<v.length/\s.length+v.length<=1000000000 then some (s.take i.toNat++v++s.drop i.toNat) else none
theorem Yh {α:Type}{s v:List α}{n:Nat}(h1:n<=s.length)(h2:0<v.length)(T:s.length+v.length<=1000000000):aeN s (n:Int) v=some (s.take n++v++s.drop n):=by
 simp_all[aeN]
theorem adS (v:Value):Pq v=v.oneCell':=by cases v<;>rfl
theorem uK {b:Nat}{ty:TypeId}:∀ (vs:List Value) (o:Nat) (w:World) (arr:Array Value),w.heap[b]?=some (.cells arr ty (0,0))->o+vs.length<=arr.size->Wrote w (w.setCells b o vs) b o arr ty vs
 | [],o,w,arr,h,_=>⟨rfl,rfl,rfl,rfl,λ_ _=>rfl,arr,h,rfl,λj=>by grind⟩
 | v::vs,o,w,arr,h,hle=>by
  have J:o<arr.size:=by grind
  have T:=uK vs (o+1) (w.setCell ⟨b,o,none⟩ v) (arr.setIfInBounds o v) (OY h v) ak;obtain⟨arr',h1,h2,I⟩:=T.blk;refine⟨T.os,T.tape,T.output,?_,λk hk=>?_,arr',h1,by simpa using h2,λj=>?_⟩
  rw[World.setCells,T.size];simp_all
  rw[World.setCells,T.other k hk];simp only[World.setCell,Array.getElem?_modify];grind
  grind
structure ajd (P:Program)(k:Nat)(et:TypeId)(z:Value)(B:Nat):Prop where
 shift:∀ (b off n c i vb voff m vc:Nat) (cs vs:List Value) (w:World),i<n->0<m->n+m<=c->c<=9223372036854775807->vb≠b->cs.length=n->vs.length=m ->
  (∀ j v,cs[j]?=some v->w.cell? ⟨b,off+j,none⟩=some v)->(∀ j,j<n+m->(w.cell? ⟨b,off+j,none⟩).isSome=true)->(∀ j,j<n+m->w.frozen? ⟨b,off+j,none⟩=false) ->
  (∀ j v,vs[j]?=some v->w.cell? ⟨vb,voff+j,none⟩=some v)->(∀ v∈cs,v.oneCell'=true)->(∀ v∈vs,v.oneCell'=true) ->
  ∀ (tA tB:TypeId) (kA kB:Nat),w.shape? vb=some (tA,kA)->w.shape? b=some (tB,kB)->kB≠0->w.frozen? ⟨vb,voff,none⟩=false->w.frozen? ⟨vb,kA,none⟩=false ->
  Calls P k #[.slice (some ⟨b,off,none⟩) n c,.int .i64 i,.slice (some ⟨vb,voff,none⟩) m vc] w λe w' =>
   e=.returned (.slice (some ⟨b,off,none⟩) (n+m) c)/\w'=(w.drew.setCells b (off+(i+m)) (cs.drop i)).setCells b (off+i) vs
 adT:∀ (b off n c vb voff m vc:Nat) (vs:List Value) (w:World),0<m->n+m<=c->c<=9223372036854775807->vs.length=m ->
  (∀ j,j<m->(w.cell? ⟨b,off+n+j,none⟩).isSome=true)->(∀ j,j<m->w.frozen? ⟨b,off+n+j,none⟩=false) ->
  (∀ j v,vs[j]?=some v->w.cell? ⟨vb,voff+j,none⟩=some v)->(∀ v∈vs,v.oneCell'=true) ->
  Calls P k #[.slice (some ⟨b,off,none⟩) n c,.int .i64 n,.slice (some ⟨vb,voff,none⟩) m vc] w λe w' =>
   e=.returned (.slice (some ⟨b,off,none⟩) (n+m) c)/\w'=w.setCells b (off+n) vs
 Zo:∀ (base:Option Addr) (n c vb voff m vc:Nat) (cs vs:List Value) (w:World),0<m->n<=c->c<n+m->(n+m)*B<=140737488355328 ->
  cs.length=n->vs.length=m->(base=none->n=0)->(∀ a,base=some a->∀ j v,cs[j]?=some v->w.cell? (a.add j)=some v) ->
  (∀ j v,vs[j]?=some v->w.cell? ⟨vb,voff+j,none⟩=some v)->(∀ v∈vs,v.oneCell'=true) ->
  Calls P k #[.slice base n c,.int .i64 n,.slice (some ⟨vb,voff,none⟩) m vc] w λe w' =>
   e=.returned (.slice (some ⟨w.heap.size,0,none⟩) (n+m) (grownCap w (n+m) c et)) /\
   w'=w.drew.alloc (.cells ((cs++vs).toArray++Builtin.zeroCells z.cells (grownCap w (n+m) c et-(n+m))) et)
 grow:∀ (b off n c i vb voff m vc:Nat) (cs vs:List Value) (w:World),i<n->0<m->n<=c->c<n+m->(n+m)*B<=140737488355328 ->
  cs.length=n->vs.length=m->(∀ j v,cs[j]?=some v->w.cell? ⟨b,off+j,none⟩=some v) ->
  (∀ j v,vs[j]?=some v->w.cell? ⟨vb,voff+j,none⟩=some v)->(∀ v∈cs,v.oneCell'=true)->(∀ v∈vs,v.oneCell'=true) ->
  Calls P k #[.slice (some ⟨b,off,none⟩) n c,.int .i64 i,.slice (some ⟨vb,voff,none⟩) m vc] w λe w' =>
   e=.returned (.slice (some ⟨w.heap.size,0,none⟩) (n+m) (grownCap w (n+m) c et)) /\
   w'=(((w.alloc (.cells ((cs.take i).toArray++Builtin.zeroCells z.cells (n+m-i)++Builtin.zeroCells z.cells (grownCap w (n+m) c et-(n+m))) et)).drew.setCells w.heap.size i vs).drew).setCells w.heap.size (i+m) (cs.drop i)
def Trv (w:World)(Y:Nat->Prop)(rs:List (List PV))(vs:List Value):Prop := ∀ (w' : World) (Y' : Nat->Prop) (σ' : Sg) (b' o' : Nat),(∀ p v,Rep w Y gJ p v->Rep w' Y' σ' p v)->(∀ i v,vs[i]?=some v->w'.cell? ⟨b',o'+i,none⟩=some v)->iQ w' Y' σ' b' 1 rs o'
theorem adU {w:World}{Y:Nat->Prop}{ra rb:List (List PV)}{us vs:List Value}(J:us.length=ra.length)(h1:Trv w Y ra us)(h2:Trv w Y rb vs):Trv w Y (ra++rb) (us++vs):=by
 intro w' Y' σ' T o' hk hc;refine iQ.app _ _ _ (h1 w' Y' σ' T o' hk λi v hv=>hc i v ?_) (h2 w' Y' σ' T _ hk λi v hv=>?_)
 grind
 have:=hc (us.length+i) v ak
 grind
section
variable {P:Program}{G:Nat->Option (List PV)}{k:Nat}{et:TypeId}{z:Value}{B:Nat}
theorem Yi {w w' : World}{Y:Nat->Prop}{σ:Sg}{args:List PV}{I:List Value}{ra rb rows:List (List PV)}{C:Ctx ⟨λ_=>.bad,G,2,[],0,[],[],none,λ_=>[]⟩}{l:Loc}{c:Nat}{arr' : Array Value}{ty:TypeId}{us:List Value}
  (H:SW C w Y σ args I [(0,some (.arr false 1 ra)),(1,some (.arr false 1 rb))] 2) (hl:σ 0=some l) (hy:Y l.cb) (hlen:us.length=rows.length) (g:Trv w Y rows us) (hfit:l.co+c=l.tot) (hc:rows.length<=c) (hc63:c<=9223372036854775807)
  (hos:w'.os=w.os) (J:w'.tape=w.tape) (t:w'.output=w.output) (hsize:w'.heap.size=w.heap.size) (T:∀ k,k≠l.cb->w'.heap[k]?=w.heap[k]?)
  (hb:w'.heap[l.cb]?=some (.cells arr' ty (0,0))) (hsz:arr'.size=l.tot) (hcell:∀ (j:Nat) (v:Value),us[j]?=some v->arr'[l.co+j]?=some v) :
  ∃ cv v st' n' Y' σ',(.slice (some ⟨l.cb,l.co,none⟩) rows.length c:Value)=cv/\(v=.os 2 0 rows.length/\st'=[(0,none),(1,none),(2,some (.arr false 1 rows))]/\n'=3)/\SW C w' Y' σ' [v] [cv] st' n':=by
 obtain⟨σ',H',hid',_⟩:=H.ab9 (id:=2) (b:=0) ⟨H.next 2 (Nat.le_refl _),Nat.le_refl _⟩ (x':=.arr false 1 rows) (l':=⟨l.cb,l.co,1,l.tot,rows.length⟩) rfl (λ_ _ e=>by cases e) hl hy rfl hos J t hsize T (by
  intro σ' _ hk;unfold fF;refine⟨⟨arr',ty,hb,hsz⟩,rfl,by omega,⟨by grind,rfl⟩,?_,λ_=>hy,λh=>by cases h⟩;exact g w' Y gJ l.cb l.co hk λi v hv=>by grind[cell_of_block])
 refine⟨_,_,_,_,Y,σ',rfl,⟨rfl,rfl,rfl⟩,(H'.drop 1).qU ?_⟩;unfold eU;refine⟨_,_,rfl,?_,by unfold eU;rfl⟩
 simp_all[Rep]
theorem Zp {w w' : World}{Y:Nat->Prop}{σ:Sg}{args:List PV}{T:List Value}{ra rb rows:List (List PV)}{C:Ctx ⟨λ_=>.bad,G,2,[],0,[],[],none,λ_=>[]⟩}{c:Nat}{arr' : Array Value}{us:List Value}
  (H:SW C w Y σ args T [(0,some (.arr false 1 ra)),(1,some (.arr false 1 rb))] 2) (hlen:us.length=rows.length) (I:Trv w Y rows us) (hc:rows.length<=c) (J:c<=9223372036854775807)
  (hw:∃ d,w'={ w.alloc (.cells arr' et) with drawn:=d }) (hsz:arr'.size=c) (hcell:∀ (j:Nat) (v:Value),us[j]?=some v->arr'[j]?=some v) :
  ∃ cv v st' t Y' σ',(.slice (some ⟨w.heap.size,0,none⟩) rows.length c:Value)=cv/\(v=.os 2 0 rows.length/\st'=[(0,none),(1,none),(2,some (.arr false 1 rows))]/\t=3)/\SW C w' Y' σ' [v] [cv] st' t:=by
 obtain⟨d,rfl⟩:=hw
 obtain⟨Y2,σ2,g,hrep,_⟩:=SW.YU (a:={ tmps:=T.toArray,defers:=[] }) (id:=2) (arr:=arr') (rows:=rows) (sz:=1) (m:=c) (by simpa using H) ⟨H.next 2 (Nat.le_refl _),Nat.le_refl _⟩ et ae ⟨hc,J⟩ ae (by
  intro w' Y' hk hb;exact I w' Y' gJ _ 0 hk λi v hv=>by rw[cell_of_block hb,Nat.zero_add];grind)
 refine⟨_,_,_,_,Y2,σ2,rfl,⟨rfl,rfl,rfl⟩,(((g.drawn d).drop 0).drop 1).qU ?_⟩;unfold eU;exact⟨_,_,rfl,hrep.drawn _,by unfold eU;rfl⟩
theorem O0 {w v:World}{ob:Obj}{arr arr' : Array Value}{o:Nat}{us:List Value}(h0:v.heap=w.heap.push ob){T : World}(W:Wrote v T w.heap.size o arr et us)(J:T.heap[w.heap.size]?=some (.cells arr' et (0,0))):T.heap=w.heap.push (.cells arr' et):=by
 apply Array.ext_getElem?;intro j
 by_cases hj:j=w.heap.size
 grind
 rw[W.other j hj,h0,Array.getElem?_push,Array.getElem?_push,if_neg hj,if_neg hj]
theorem PU (cs:Array Value)(n:Nat)(h:cs.size=1):(Builtin.zeroCells cs n).size=n:=by simp[Builtin.zeroCells,h]
theorem aix (hI:ajd P k et z B)(hB:B<=16)(hz:z.cells.size=1)(hcall:∀ args w,(callFunc k args).run P w=.ok (.enter k args) w){ra rb:List (List PV)}{i:Nat}(hi:i<=ra.length)(hm:0<rb.length)(hs:ra.length+rb.length<=1000000000) :
  FnS P G k [.os 0 0 ra.length,.si .i64 i,.os 1 0 rb.length] [(0,some (.arr false 1 ra)),(1,some (.arr false 1 rb))] 2
   (λu st n=>u=.os 2 0 (ra.take i++rb++ra.drop i).length/\st=[(0,none),(1,none),(2,some (.arr false 1 (ra.take i++rb++ra.drop i)))]/\n=3):=by
 intro w Y σ cargs hG hY hn T hst hnn;refine⟨hcall _ _,?_⟩
 let C:Ctx ⟨λ_=>.bad,G,2,[],0,[],[],none,λ_=>[]⟩:=yg ⟨λ_=>.bad,G,2,[],0,[],[],none,λ_=>[]⟩ w Y σ [(0,some (.arr false 1 ra)),(1,some (.arr false 1 rb))]
 have H0:SW C w Y σ [.os 0 0 ra.length,.si .i64 i,.os 1 0 rb.length] cargs [(0,some (.arr false 1 ra)),(1,some (.arr false 1 rb))] 2:=by
  refine⟨T,hst,hn,hY,λ_ h=>h.1,λk h=>⟨hY k h.1,h.2⟩,λk h _=>?_,ML.refl _ w,λb x l h1 h2=>.inr ⟨b,x,l,h1,h2,rfl⟩,hG,⟨Nat.le_refl _,λ_ _=>rfl⟩,Am.none (GR _ hnn)⟩
  by_cases hi:Ez σ [(0,some (.arr false 1 ra)),(1,some (.arr false 1 rb))] k
  exact .inr ⟨h,hi⟩
  exact .inl ⟨h,hi⟩
 have hrl:(ra.take i++rb++ra.drop i).length=ra.length+rb.length:=by simp;omega
 have hrl2:(ra.take i++rb++ra.drop i).length=ra.length+rb.length:=hrl;unfold eU at T;obtain⟨v0,_,rfl,h0,T⟩:=T;unfold eU at T;obtain⟨v1,_,rfl,h1,T⟩:=T;unfold eU at T;obtain⟨v2,_,rfl,h2,T⟩:=T;unfold eU at T;subst T;unfold Rep at h1;subst h1;unfold Rep at h2;rcases h2 with ⟨l1,c1,hl1,rfl,⟨hc1,_⟩,ht1,hr1⟩|⟨h,_⟩
 rotate_left
 omega
 obtain⟨l1',hl1',hB1⟩:∃ l,σ 1=some l/\fF w Y σ l (.arr false 1 rb):=by
  rcases hst.blk 1 (.arr false 1 rb) rfl with h|⟨h,_⟩
  exact h
  rw[h] at hl1;cases hl1
 rw[hl1] at hl1';cases hl1';unfold fF at hB1;obtain⟨⟨arr1,ty1,ha1,hs1⟩,hsz1,_,⟨hf1,_⟩,hR1,_,_⟩:=hB1;obtain⟨vs,⟨hvl,hv1⟩,hvc,hvr⟩:=iQ.vals _ _ hR1;rw[Nat.mul_one] at hvl;have hv1' : ∀ v∈vs,v.oneCell'=true:=λv hv=>by rw[<- adS];exact hv1 v hv
 have e2:l1.co+0*l1.sz=l1.co:=by omega
 rw[e2];have hge:∀ c,ra.length+rb.length<=grownCap w (ra.length+rb.length) c et:=λc=>acd _;have hlt:∀ c,grownCap w (ra.length+rb.length) c et<=9223372036854775807:=λc=>acb _ ae;have hby:(ra.length+rb.length)*B<=140737488355328:=Nat.le_trans (Nat.mul_le_mul hs hB) aU;unfold Rep at h0;rcases h0 with ⟨l0,c0,hl0,rfl,⟨hc0,hc63⟩,ht0,hr0⟩|⟨h00,a,rfl⟩
 obtain⟨l0',hl0',hB0⟩:∃ l,σ 0=some l/\fF w Y σ l (.arr false 1 ra):=by
  rcases hst.blk 0 (.arr false 1 ra) rfl with h|⟨h,_⟩
  exact h
  rw[h] at hl0;cases hl0
 rw[hl0] at hl0';cases hl0';unfold fF at hB0;obtain⟨⟨arr0,ty0,ha0,hs0⟩,hsz0,_,⟨hf0,_⟩,hR0,hy0,_⟩:=hB0;have hy0:=hy0 rfl
 have hne:l1.cb≠l0.cb:=λe=>by
  have:=hst.inj 1 0 _ _ l1 l0 rfl rfl hl1 hl0 e;omega
 rw[hsz0] at ht0;have ht0:l0.co+c0=l0.tot:=by omega
 obtain⟨I,⟨hu1,ho1⟩,hc1',htr1⟩:=iQ.vals _ _ (hR0.take i _ _);obtain⟨J,⟨hu2,ho2⟩,hc2',htr2⟩:=iQ.vals _ _ (hR0.drop i _ _);rw[Nat.mul_one] at hu1 hu2;rw[List.length_take,Nat.min_eq_left hi] at hu1;rw[List.length_drop] at hu2
 have htr:Trv w Y (ra.take i++rb++ra.drop i) (I++vs++J) :=
  adU (by simp only[List.length_append,List.length_take];omega) (adU (by rw[List.length_take];omega) htr1 hvr) htr2
 have hcs:∀ j v,(I++J)[j]?=some v->w.cell? ⟨l0.cb,l0.co+j,none⟩=some v:=by
  grind
 have hone:∀ v∈I++J,v.oneCell'=true:=λv hv=>by
  rw[<- adS];rcases List.mem_append.1 hv with h|h
  exact ho1 v h
  exact ho2 v h
 have htk:(I++J).take i=I:=by rw[<- hu1];simp
 have hdr:(I++J).drop i=J:=by rw[<- hu1];simp
 have hcl:(I++J).length=ra.length:=by simp;omega
 have hul:(I++vs++J).length=(ra.take i++rb++ra.drop i).length:=by rw[hrl];simp;omega
 have e0:l0.co+0*l0.sz=l0.co:=by omega
 rw[e0]
 have hget:∀ {arr' : Array Value} {o:Nat},(∀ j,j<I.length->arr'[o+j]?=I[j]?)->(∀ j,j<vs.length->arr'[o+i+j]?=vs[j]?)->(∀ j,j<J.length->arr'[o+(i+rb.length)+j]?=J[j]?)->∀ (j:Nat) (v:Value),(I++vs++J)[j]?=some v->arr'[o+j]?=some v:=by
  intro arr' o g1 g2 g3 j v hj
  by_cases hh:j<I.length+vs.length
  rw[List.getElem?_append_left (by simpa using hh)] at hj
  by_cases hh2:j<I.length
  rw[List.getElem?_append_left hh2] at hj;rw[g1 j hh2];exact hj
  rw[List.getElem?_append_right ae] at hj;have:=g2 (j-I.length) ae;rw[show o+i+(j-I.length)=o+j by omega] at this;rw[this];exact hj
  grind
 by_cases hroom:ra.length+rb.length<=c0
 by_cases hin:i<ra.length
 refine(hI.shift l0.cb l0.co ra.length c0 i l1.cb l1.co rb.length c1 (I++J) vs w hin hm hroom hc63 hne hcl hvl hcs (λj hj=>by rw[cell_of_block ha0];simp;omega) (λj _=>sQ ha0) hvc hone hv1' ty1 ty0 arr1.size arr0.size (by simp[World.shape?,ha1]) (by simp[World.shape?,ha0]) ae (sQ ha1) (sQ ha1)).mono ?_
 rintro e w' ⟨rfl,rfl⟩
 rw[hdr];have W1:=uK J (l0.co+(i+rb.length)) w.drew arr0 ha0 ae;obtain⟨arr2,q1,q2,q3⟩:=W1.blk;have g:=uK vs (l0.co+i) (w.drew.setCells l0.cb (l0.co+(i+rb.length)) J) arr2 q1 ae;obtain⟨arr3,r1,r2,r3⟩:=g.blk
 have:=Yi H0 hl0 hy0 hul htr ht0 ae hc63 (g.os.trans W1.os) (g.tape.trans W1.tape) (g.output.trans W1.output) (g.size.trans W1.size) (λk hk=>(g.other k hk).trans (W1.other k hk)) r1 ae (hget (λj hj=>by
   rw[r3,if_neg ae,q3,if_neg ae,<- cell_of_block ha0]
   grind) (λj hj=>by
   rw[r3,if_pos ae,show l0.co+i+j-(l0.co+i)=j by omega]) (λj hj=>by
   rw[r3,if_neg ae,q3,if_pos ae,show l0.co+(i+rb.length)+j-(l0.co+(i+rb.length))=j by omega]))
 grind
 have hie:i=ra.length:=by omega
 have hu0:J=[]:=List.length_eq_zero_iff.1 ae;subst hu0;subst hie;refine(hI.adT l0.cb l0.co ra.length c0 l1.cb l1.co rb.length c1 vs w hm hroom hc63 hvl (λj hj=>by rw[cell_of_block ha0];simp;omega) (λj _=>sQ ha0) hvc hv1').mono ?_
 rintro e w' ⟨rfl,rfl⟩
 have g:=uK vs (l0.co+ra.length) w arr0 ha0 ae;obtain⟨arr3,r1,r2,r3⟩:=g.blk
 have:=Yi H0 hl0 hy0 hul htr ht0 ae hc63 g.os g.tape g.output g.size g.other r1 ae (hget (λj hj=>by
   rw[r3,if_neg ae,<- cell_of_block ha0];rw[List.getElem?_eq_getElem hj];exact hc1' j _ (List.getElem?_eq_getElem hj)) (λj hj=>by
   rw[r3,if_pos ae,show l0.co+ra.length+j-(l0.co+ra.length)=j by omega]) (λj hj=>by simp at hj))
 grind
 by_cases hin:i<ra.length
 refine(hI.grow l0.cb l0.co ra.length c0 i l1.cb l1.co rb.length c1 (I++J) vs w hin hm hc0 ae hby hcl hvl hcs hvc hone hv1').mono ?_
 rintro e w' ⟨rfl,rfl⟩
 rw[hdr,htk];obtain⟨cap,hcap⟩:∃ cap,cap=grownCap w (ra.length+rb.length) c0 et:=⟨_,rfl⟩;have hcg:=hge c0;have t:=hlt c0;rw[<- hcap] at hcg t |-;obtain⟨arr,harr⟩:∃ arr:Array Value,arr=I.toArray++Builtin.zeroCells z.cells (ra.length+rb.length-i)++Builtin.zeroCells z.cells (cap-(ra.length+rb.length)):=⟨_,rfl⟩;rw[<- harr];have hasz:arr.size=cap:=by grind[PU]
 have hb0:(w.alloc (.cells arr et)).drew.heap[w.heap.size]?=some (.cells arr et (0,0)):=by show(w.heap.push (.cells arr et))[w.heap.size]?=_;simp
 have W1:=uK vs i (w.alloc (.cells arr et)).drew arr hb0 ae;obtain⟨arr2,q1,q2,q3⟩:=W1.blk;have g1:=O0 (w:=w) rfl W1 q1;obtain⟨w1,hw1⟩:∃ w1,w1=((w.alloc (.cells arr et)).drew.setCells w.heap.size i vs).drew:=⟨_,rfl⟩;have q1' : w1.heap[w.heap.size]?=some (.cells arr2 et (0,0)):=by rw[hw1];exact q1
 rw[<- hw1];have g:=uK J (i+rb.length) w1 arr2 q1' ae;obtain⟨arr3,r1,r2,r3⟩:=g.blk;have g2:=O0 (w:=w) (by rw[hw1];exact g1) g r1
 have e3:∃ d,w1.setCells w.heap.size (i+rb.length) J={ w.alloc (.cells arr3 et) with drawn:=d }:=by
  refine⟨(w1.setCells w.heap.size (i+rb.length) J).drawn,?_⟩;have k1:(w1.setCells w.heap.size (i+rb.length) J).os=w.os:=g.os.trans (by rw[hw1];exact W1.os);have k2:(w1.setCells w.heap.size (i+rb.length) J).tape=w.tape:=g.tape.trans (by rw[hw1];exact W1.tape);have k3:(w1.setCells w.heap.size (i+rb.length) J).output=w.output:=g.output.trans (by rw[hw1];exact W1.output);revert g2 k1 k2 k3;generalize w1.setCells w.heap.size (i+rb.length) J=x;intro g2 k1 k2 k3;cases x
  grind[World.alloc]
 have:=Zp (et:=et) H0 hul htr (by rw[hrl];exact hcg) t e3 ae (by
  have:=hget (arr':=arr3) (o:=0) (λj hj=>by
   rw[r3,if_neg ae,q3,if_neg ae,harr];simp[Array.getElem?_append,hj]) (λj hj=>by
   rw[r3,if_neg ae,q3,if_pos ae,show 0+i+j-i=j by omega]) (λj hj=>by
   rw[r3,if_pos ae,show 0+(i+rb.length)+j-(i+rb.length)=j by omega])
  simpa using this)
 grind
 have hie:i=ra.length:=by omega
 have hu0:J=[]:=List.length_eq_zero_iff.1 ae;subst hu0;subst hie;refine(hI.Zo (some ⟨l0.cb,l0.co,none⟩) ra.length c0 l1.cb l1.co rb.length c1 (I++[]) vs w hm hc0 ae hby hcl hvl (λh=>by cases h) (λa h j v hj=>by cases h;rw[Addr.add_lit];exact hcs j v hj) hvc hv1').mono ?_
 rintro e w' ⟨rfl,rfl⟩
 obtain⟨cap,hcap⟩:∃ cap,cap=grownCap w (ra.length+rb.length) c0 et:=⟨_,rfl⟩;have hcg:=hge c0;have t:=hlt c0;rw[<- hcap] at hcg t |-
 have:=Zp (et:=et) (arr':=(I++[]++vs).toArray++Builtin.zeroCells z.cells (cap-(ra.length+rb.length))) H0 hul htr (by rw[hrl];exact hcg) t ⟨w.drawn+1,rfl⟩ (by simp only[Array.size_append,List.size_toArray,PU _ _ hz,List.length_append,List.length_nil];omega) (λj v hj=>by
  grind)
 rw[hrl2] at this |-;obtain⟨cv,v,st',n',Y',σ',e1,e2,e3⟩:=this;exact⟨cv,v,st',n',Y',σ',by rw[e1],e2,e3⟩
 have hra:ra=[]:=List.length_eq_zero_iff.1 h00;subst hra;have hi0:i=0:=by simpa using hi
 subst hi0;refine(hI.Zo a 0 0 l1.cb l1.co rb.length c1 [] vs w hm (Nat.le_refl _) ae (by simpa using hby) rfl hvl (λ_=>rfl) (λa h j v hj=>by simp at hj) hvc hv1').mono ?_
 rintro e w' ⟨rfl,rfl⟩
 obtain⟨cap,hcap⟩:∃ cap,cap=grownCap w (0+rb.length) 0 et:=⟨_,rfl⟩;have hcg:0+rb.length<=grownCap w (0+rb.length) 0 et:=acd _;have t : grownCap w (0+rb.length) 0 et<=9223372036854775807:=acb _ (by simp at hs;omega);rw[<- hcap] at hcg t |-
 have:=Zp (et:=et) (us:=vs) (rows:=rb) (arr':=([]++vs).toArray++Builtin.zeroCells z.cells (cap-(0+rb.length))) H0 hvl hvr ae t ⟨w.drawn+1,rfl⟩ (by simp only[Array.size_append,List.size_toArray,PU _ _ hz,List.nil_append];omega) (λj v hj=>by
  grind)
 obtain⟨cv,v,st',n',Y',σ',e1,e2,e3⟩:=this;refine⟨cv,v,st',n',Y',σ',?_,?_,e3⟩
 rw[<- e1,Nat.zero_add]
 simpa using e2
end
end Go.Pv
namespace Go.Pv
open Go Go.Sort
def zU:List Int->List Int
 | []=>[]
 | [x]=>[x]
 | x::y::l=>(x::y::l).mergeSort λa b=>decide (a<=b)
theorem abd (l:List Int):zU l=l.mergeSort λa b=>decide (a<=b):=by
 match l with
 | []=>simp[zU]
 | [x]=>simp[zU]
 | x::y::l=>rfl
theorem La (l:List Int):(zU l).Perm l:=by rw[abd];exact List.mergeSort_perm _ _
def aeO (l:List Int):Option (List Int):=if l.length<=1000000000 then some (zU l) else none
theorem Yj {l r:List Int}(h:aeO l=some r):l.length<=1000000000/\r=zU l:=by
 unfold aeO at h
 grind
theorem Wu {w:World}{Y:Nat->Prop}{σ:Sg}{b:Nat}:∀ (l:List Int) (o:Nat),iQ w Y σ b 1 (l.map λx=>[PV.si .i64 x]) o->∀ j (h:j<l.length),w.cell? ⟨b,o+j,none⟩=some (.int .i64 l[j])
 | [],_,_,j,h=>by simp at h
 | x::l,o,hr,j,h=>by
  rw[List.map_cons] at hr;unfold iQ at hr;obtain⟨_,h2,T⟩:=hr;unfold iG at h2;obtain⟨⟨v,hv,hx⟩,_⟩:=h2;unfold Rep at hx;subst hx
  cases j with
  | zero=>exact hv
  | succ j=>
   have:=Wu l (o+1) T j bg
   grind
theorem abe {w:World}{Y:Nat->Prop}{σ:Sg}{b:Nat}:∀ (l:List Int) (o:Nat),(∀ j (h:j<l.length),w.cell? ⟨b,o+j,none⟩=some (.int .i64 l[j]))->iQ w Y σ b 1 (l.map λx=>[PV.si .i64 x]) o
 | [],_,_=>by simp[iQ]
 | x::l,o,h=>by
  rw[List.map_cons];unfold iQ;refine⟨⟨rfl,rfl⟩,?_,abe l (o+1) λj hj=>?_⟩
  unfold iG;exact⟨⟨_,h 0 aF,by unfold Rep;rfl⟩,by unfold iG;trivial⟩
  have:=h (j+1) dM
  grind
theorem agr {P:Program}{G:Nat->Option (List PV)}{k:Nat}(hcall:∀ args w,(callFunc k args).run P w=.ok (.enter k args) w)
  (hs:∀ (blk off cap:Nat) (zs:List Int) (w:World),Holds (Value.int .i64) w blk off zs.toArray->blk<w.heap.size->zs.length<4611686018427387904 ->
   Calls P k #[.slice (some ⟨blk,off,none⟩) zs.length cap] w λe w'=>e=.returned (.tuple #[])/\∃ n os,w'=grow (putRow (Value.int .i64) (Sort.ahead w n) blk off (zs.mergeSort λx y=>decide (x<=y)).toArray) os)
  (h0:∀ (p:Option Addr) (cap:Nat) (w:World),Calls P k #[.slice p 0 cap] w λe w'=>e=.returned (.tuple #[])/\w'=w)
  {l:List Int} (hl:l.length<=1000000000) :
  FnS P G k [.os 0 0 l.length] [(0,some (.arr false 1 (l.map λx=>[PV.si .i64 x])))] 1
   (λu st n=>u=.Eu []/\st=[(0,some (.arr false 1 ((zU l).map λx=>[PV.si .i64 x])))]/\n=1):=by
 intro w Y σ cargs hG hY hn T hst hnn;refine⟨hcall _ _,?_⟩
 let C:Ctx ⟨λ_=>.bad,G,1,[],0,[],[],none,λ_=>[]⟩:=yg ⟨λ_=>.bad,G,1,[],0,[],[],none,λ_=>[]⟩ w Y σ [(0,some (.arr false 1 (l.map λx=>[PV.si .i64 x])))]
 have H0:SW C w Y σ [.os 0 0 l.length] cargs [(0,some (.arr false 1 (l.map λx=>[PV.si .i64 x])))] 1:=by
  refine⟨T,hst,hn,hY,λ_ h=>h.1,λk h=>⟨hY k h.1,h.2⟩,λk h _=>?_,ML.refl _ w,λb x l h1 h2=>.inr ⟨b,x,l,h1,h2,rfl⟩,hG,⟨Nat.le_refl _,λ_ _=>rfl⟩,Am.none (GR _ hnn)⟩
  by_cases hi:Ez σ [(0,some (.arr false 1 (l.map λx=>[PV.si .i64 x])))] k
  exact .inr ⟨h,hi⟩
  exact .inl ⟨h,hi⟩
 have hlen:(zU l).length=l.length:=(La l).length_eq;unfold eU at T;obtain⟨v0,_,rfl,ha,T⟩:=T;unfold eU at T;subst T;unfold Rep at ha;rcases ha with ⟨l0,c0,I,rfl,⟨hc0,hc63⟩,ht0,hr0⟩|⟨h00,a,rfl⟩
 obtain⟨l0',g,hB0⟩:∃ l',σ 0=some l'/\fF w Y σ l' (.arr false 1 (l.map λx=>[PV.si .i64 x])):=by
  rcases hst.blk 0 (.arr false 1 (l.map λx=>[PV.si .i64 x])) rfl with h|⟨h,_⟩<;>grind
 rw[I] at g;cases g;have hB0':=hB0;unfold fF at hB0;obtain⟨⟨arr0,ty0,ha0,hs0⟩,hsz0,hnr0,⟨hf0,hf1⟩,hR0,hy0,hx0⟩:=hB0;have hy:=hy0 rfl;have hlt:l0.cb<w.heap.size:=hY _ hy;have e0:l0.co+0*l0.sz=l0.co:=by omega
 rw[e0]
 have hH:Holds (Value.int .i64) w l0.cb l0.co l.toArray:=by
  intro j hj;have hj' : j<l.length:=by simpa using hj
  refine⟨?_,sQ ha0⟩;rw[Wu l l0.co hR0 j hj'];simp[hj']
 refine(hs l0.cb l0.co c0 l w hH hlt ae).mono ?_
 rintro e w' ⟨rfl,n,os,rfl⟩
 rw[<- abd];have H1:SW C (Sort.ahead w n) Y σ _ _ _ 1:=H0.drawn (w.drawn+n);have hH1:Holds (Value.int .i64) (Sort.ahead w n) l0.cb l0.co l.toArray:=hH;have ha1:(Sort.ahead w n).heap[l0.cb]?=some (.cells arr0 ty0 (0,0)):=ha0;obtain⟨t,J⟩:∃ t,t=putRow (Value.int .i64) (Sort.ahead w n) l0.cb l0.co (zU l).toArray:=⟨_,rfl⟩;have hsz1:t.heap.size=(Sort.ahead w n).heap.size:=by rw[J];simp
 have hoth:∀ k,k≠l0.cb->t.heap[k]?=(Sort.ahead w n).heap[k]?:=by
  intro k hk;rw[J];simp only[putRow,mapBlock,Array.getElem?_modify]
  grind
 have hblk:t.heap[l0.cb]?=some (.cells (putCells (Value.int .i64) l0.co (zU l).toArray arr0) ty0 (0,0)):=by
  rw[J];simp only[putRow,mapBlock,Array.getElem?_modify,if_true,ha1];rfl
 have hcell:∀ j (h:j<(zU l).length),t.cell? ⟨l0.cb,l0.co+j,none⟩=some (.int .i64 (zU l)[j]):=by
  intro j h;rw[J,cell?_putRow (Value.int .i64) (Sort.ahead w n) l0.cb l0.co l.toArray (zU l).toArray hH1 (by simpa using hlen) j bg];simp[h]
 have H2:=H1.update (b:=0) (x:=.arr false 1 (l.map λx=>[PV.si .i64 x])) (x':=.arr false 1 ((zU l).map λx=>[PV.si .i64 x])) (w':=t) rfl I hy
  (by rw[J];rfl) (by rw[J];rfl) (by rw[J];rfl) hsz1 hoth (λ_ _ e=>by cases e) (by
   intro hk;unfold fF;refine⟨⟨_,ty0,hblk,by grind[putCells]⟩,hsz0,hnr0,⟨by grind,by grind⟩,abe _ _ hcell,λ_=>hy,λh=>by cases h⟩)
 rw[<- J];have H3:=H2.afF (w':=grow t os) ⟨rfl,rfl,rfl,by simp[grow],λk hk=>by grind[grow]⟩;refine⟨_,_,_,_,Y,σ,rfl,⟨rfl,rfl,rfl⟩,H3.qU ?_⟩;unfold eU;exact⟨_,_,rfl,by unfold Rep;exact⟨[],rfl,by unfold eU;rfl⟩,by unfold eU;rfl⟩
 have I:l=[]:=List.length_eq_zero_iff.1 h00;subst I;refine(h0 a 0 w).mono ?_
 rintro e w' ⟨rfl,rfl⟩
 refine⟨_,_,_,_,Y,σ,rfl,⟨rfl,rfl,rfl⟩,H0.qU ?_⟩;unfold eU;exact⟨_,_,rfl,by unfold Rep;exact⟨[],rfl,by unfold eU;rfl⟩,by unfold eU;rfl⟩
end Go.Pv
