import Derived.Laws.StructEq
import Derived.ChangeKeysEq
import Derived.Test.YtchmoabpofnbaaaGreatB01
set_option linter.all false
namespace Go.Pv
open Go
theorem ER {w:World}{Y:Nat->Prop}{σ:Sg}{b r n:Nat}{ro:Bool}{sz:Nat}{rows:List (List PV)}{v:Value}(hv:Rep w Y σ (.os b r n) v)
  (R:(∃ l,σ b=some l/\gJ w Y σ l (.arr ro sz rows))\/(σ b=none/\∃ C I,jq.arr ro sz rows=.arr C I [])) :
  ∃ a cap,v=.slice a n cap/\n<=cap/\n=((rows.drop r).take n).length/\((rows.drop r).take n=[]\/∃ T o,a=some ⟨T,o,none⟩/\T<w.heap.size/\(∃ l,σ b=some l/\T=l.cb)/\jh w Y iQ T sz ((rows.drop r).take n) o):=by
 unfold Rep at hv;rcases hv with ⟨l,cap,hs,rfl,hn,ht,hr⟩|⟨rfl,a,rfl⟩
 rcases R with ⟨l',U,hB⟩|⟨U,_⟩
 rw[hs] at U;cases U;have J:=hB.lt;unfold gJ at hB;refine⟨_,cap,rfl,hn.1,?_,.inr ⟨l.cb,_,rfl,J,⟨l,hs,rfl⟩,?_⟩⟩
 rw[List.length_take,List.length_drop];have:=hB.2.2.2.1.2;omega
 rw[hB.2.1];exact (hB.2.2.2.2.1.drop r _ _).take n _ _
 rw[hs] at U;cases U
 exact⟨a,0,rfl,Nat.le_refl _,by simp,.inl aB⟩
def Lk (lk:Nat->Option jq)(st:St):Prop:=∀ b ro sz rows,lk b=some (.arr ro sz rows)->∃ ro',iO st b=some (.arr ro' sz rows)
theorem LZ {b:Nat}:∀ (δ:Dl) (st:St),Ut b δ=false->iO (iW δ st) b=iO st b
 | [],st,_=>rfl
 | (c,x)::δ,st,h=>by
  simp only[Ut,Bool.or_eq_false_iff] at h;rw[iW,LZ δ _ h.2,iG,if_neg];intro e;subst e;simp at h
theorem Dw {P:Program}{T:Tab}{C:Ctx T}{w:World}{σ:Sg}{qs:List PV}{us:List Value}{n:Nat}{lk:Nat->Option jq} :
  ∀ (ps R : List PV) (δ:Dl),FM (iK.jd P T) lk ps=some (R,δ)->∀ (Y:Nat->Prop) (st:St),SW C w Y σ qs us st n->Lk lk st->∀ vs,gB w Y σ ps vs ->
   ∃ Y',SW C w Y' σ qs us (iW δ st) n/\gB w Y' iQ R vs/\(∀ k,Y' k->Y k)
 | [],R,δ,h,Y,st,H,_,vs,hv=>by
  simp[FM] at h;obtain⟨rfl,rfl⟩:=h;unfold gB at hv;subst hv;exact⟨Y,H,by simp[gB],λ_ h=>h⟩
 | p::ps,R,δ,h,Y,st,H,hlk,vs,hv=>by
  unfold gB at hv;obtain⟨v,U,rfl,h1,h2⟩:=hv;unfold FM at h
  cases hp:FM (iK.jd P T) lk ps with
  | none=>rw[hp] at h;cases h
  | some r =>
   obtain⟨J,δ'⟩:=r;rw[hp] at h;simp only at h
   have plain:∀ (q:PV),Rep w Y iQ q v->(some (q::J,δ')=some (R,δ))->∃ Y',SW C w Y' σ qs us (iW δ st) n/\gB w Y' iQ R (v::U)/\(∀ k,Y' k->Y k):=by
    intro q hq e;cases e;obtain⟨Y',H',hr,hy⟩:=Dw ps J _ hp Y st H hlk U h2;refine⟨Y',H',?_,hy⟩;unfold gB;exact⟨v,U,rfl,Rep.keep q ⟨λ_ _ _=>rfl,λk _=>hy k,Nat.le_refl _,mg.refl _⟩ v hq,hr⟩
   cases p
   case os b r m =>
    simp only at h
    split at h
    rename_i ro sz rows hb;cases h;obtain⟨ro',hst⟩:=hlk b ro sz rows hb;obtain⟨Y1,H1,hn1,hy1⟩:=H.freeze hst (x':=.arr true sz rows) (.inr ⟨ro',sz,rows,rfl,rfl⟩)
    have I:Lk lk (nI st b (some (.arr true sz rows))):=by
     intro c ro2 sz2 rows2 hc;rw[iG]
     by_cases e:b=c
     subst e;rw[hb] at hc;cases hc;exact⟨true,by simp⟩
     rw[if_neg e];exact hlk c _ _ _ hc
    have K1:Keep w w Y Y1 σ σ:=⟨λ_ _ _=>rfl,λk _=>hy1 k,Nat.le_refl _,mg.refl _⟩;obtain⟨Y2,H2,hr2,g⟩:=Dw ps J δ' hp Y1 _ H1 I U (gB.keep ps K1 U h2);refine⟨Y2,H2,?_,λk hk=>hy1 k (g k hk)⟩;unfold gB;refine⟨v,U,rfl,?_,hr2⟩;have hB:=H1.store.blk b (.arr true sz rows) eQ;obtain⟨a,cap,e1,e2,e3,e4⟩:=ER (Rep.keep _ K1 v h1) (hB.imp id λ⟨x,y⟩=>⟨x,y⟩)
    have:Rep w Y1 iQ (.sl sz ((iK.jd P T).sub rows r m) false) v:=by
     unfold Rep;refine⟨a,m,cap,e1,e3,e2,(λh=>by cases h),?_⟩;rcases e4 with e4|⟨b',o,ea,eb,⟨l,el,el'⟩,er⟩
     exact .inl e4
     exact .inr ⟨b',o,ea,⟨eb,by rw[el'];exact hn1 l el⟩,er⟩
    exact Rep.keep _ ⟨λ_ _ _=>rfl,λk _=>g k,Nat.le_refl _,mg.refl _⟩ v this
    cases h
   case fn f cs =>
    cases cs with
    | nil=>exact plain _ dA h
    | cons _ _=>cases h
   case bool=>exact plain _ bI h
   case sb=>exact plain _ bI h
   case int=>exact plain _ bI h
   case si=>exact plain _ bI h
   case str=>exact plain _ bI h
   case sl=>exact plain _ bI h
   case pp=>exact plain _ bI h
   case Bv=>exact plain _ bI h
   case LP=>exact plain _ bI h
   all_goals cases h
theorem qi:∀ l,iE l=true↔∀ p∈l,sZ p=true
 | []=>by simp[iE]
 | p::l=>by simp[iE,qi l]
theorem Bc:∀ (vs l:List PV) (c:Nat),iE l=true->iE vs=true->iE (jZ l c vs)=true
 | [],l,c,h,_=>by cases l<;>simpa [jZ] using h
 | v::vs,[],c,h,hv=>by
  simp only[iE,Bool.and_eq_true] at hv
  simpa [jZ,qU] using Bc vs [] (c+1) h hv.2
 | v::vs,x::l,c,h,hv=>by
  simp only[iE,Bool.and_eq_true] at hv;rw[jZ];refine Bc vs _ (c+1) ?_ hv.2;rw[qK,qi];rw[qi] at h;intro p hp;rcases List.mem_or_eq_of_mem_set hp with h1|h1
  exact h p h1
  rw[h1];exact hv.1
theorem jh.iff {w:World}{Y:Nat->Prop}{σ:Sg}{b sz:Nat}:∀ (rs:List (List PV)) (o:Nat),jh w Y σ b sz rs o↔∀ i r,rs[i]?=some r->(r.length=sz/\iE r=true)/\jc w Y σ b r (o+i*sz)
 | [],o=>by simp[jh]
 | q::rs,o=>by
  unfold jh;rw[jh.iff rs (o+sz)];constructor
  rintro⟨h0,h1,h2⟩ i r hi
  cases i with
  | zero=>simp at hi;subst hi;exact⟨h0,by simpa using h1⟩
  | succ i=>rw[show o+(i+1)*sz=o+sz+i*sz by rw[Nat.add_mul];omega];exact h2 i r cZ
  intro h;refine⟨(h 0 q rfl).1,by simpa using (h 0 q rfl).2,λi r hi=>?_⟩;rw[show o+sz+i*sz=o+(i+1)*sz by rw[Nat.add_mul];omega];exact h (i+1) r cZ
section
variable {P:Program}{T:Tab}(hT:jg P T){C:Ctx T}{o:Oper}{a:Act}{w:World}{Y:Nat->Prop}{σ:Sg}{ps:List PV}{st:St}{n id:Nat}{K:PV->Dl->Prop}{lk:Nat->Option jq}
 (H:SW C w Y σ ps a.tmps.toList st n) (hlk:∀ b x,lk b=some x->iO st b=some x) (hid:σ id=none/\T.qJ<=id)
theorem VX {vs:List Value}(H:SW C w Y σ ps vs st n){t:TypeId}{b r c size sz:Nat}{l:Loc}{rows:List (List PV)}{row cs:List PV}{v:Value}{K:List PV->Prop}
  (J:P.info? t≠none) (hsize:size=P.cellsOf t) (g:iO st b=some (.arr false sz rows)) (hl:σ b=some l) (R:rows[r]?=some row)
  {us:List Value} (hcs:v.cells=us.toArray) (hv:gB w Y iQ cs us) (h:lL size row c (.agg cs) K) :
  ∃ T w',K T/\(storeVar t ⟨l.cb,l.co+r*l.sz+c,none⟩ v).run P w=.ok () w'/\SW C w' Y σ ps vs (nI st b (some (.arr false sz (rows.set r T)))) n:=by
 unfold lL at h;simp only[jM] at h
 cases hb:(iE cs&&Nat.beq (lG cs) size&&Nat.ble (c+lG cs) (lG row)) with
 | false=>rw[hb] at h;exact h.elim
 | true =>
  rw[hb] at h;simp only[Bool.and_eq_true,kX] at hb;obtain⟨⟨h1,h2⟩,h3⟩:=hb;have h2:=Nat.eq_of_beq_eq_true h2;have h3:=Nat.le_of_ble_eq_true h3;have hone:=yf _ _ h1 hv;have hlen:=hv.length
  have hB:gJ w Y σ l (.arr false sz rows):=by
   rcases H.store.blk b _ g with ⟨l',hl',hB⟩|⟨hn,_⟩
   rw[hl] at hl';cases hl';exact hB
   rw[hl] at hn;cases hn
  unfold gJ at hB;obtain⟨⟨arr,ty,ha,has⟩,hsz,hpos,⟨hle,hnr⟩,U,hm,hr0⟩:=hB;have hr:=jh.row _ _ _ _ U R
  have hrlt:r<rows.length:=by
   by_cases hh:r<rows.length
   exact hh
   simp[List.getElem?_eq_none (Nat.le_of_not_lt hh)] at R
  have hbound:r*sz+sz<=rows.length*sz:=by
   have:=Nat.mul_le_mul_right sz (show r+1<=rows.length by omega);rw[Nat.add_mul] at this;omega
  rw[hsz];obtain⟨w',hrun,W⟩:=CQ (P:=P) (o:=l.co+r*sz+c) J hsize hcs ah ha ah hone;refine⟨_,w',h,hrun,SW.update H g hl (hm rfl) W.os W.tape W.output W.size W.other (λ_ _ e=>by cases e) λ_=>?_⟩;have K0:Keep w w' Y Y iQ iQ:=⟨λk _ hk=>W.other k (λe=>hk (e ▸ hm rfl)),λ_ _ h=>h,Nat.le_of_eq W.size.symm,mg.refl _⟩;obtain⟨arr',h4,h5,h6⟩:=W.blk;unfold gJ;refine⟨⟨arr',ty,h4,by omega⟩,hsz,hpos,⟨by simpa using hle,by simpa using hnr⟩,?_,hm,hr0⟩;rw[jh.iff] at U |-;intro i q hi;rw[List.getElem?_set] at hi
  by_cases I:r=i
  subst I;rw[if_pos rfl,if_pos hrlt] at hi;cases hi;refine⟨⟨by rw[tu];exact hr.1.1,Bc _ _ _ hr.1.2 h1⟩,?_⟩;exact W.rep ha hr.2 hv ah (λp v hp=>Rep.keep p K0 v hp)
  rw[if_neg I] at hi;obtain⟨h7,h8⟩:=U i q hi;refine⟨h7,?_⟩;rw[jc.iff] at h8 |-;intro j p hj;obtain⟨u,hu,hp⟩:=h8 j p hj
  have hjlt:j<q.length:=by
   by_cases hh:j<q.length
   exact hh
   simp[List.getElem?_eq_none (Nat.le_of_not_lt hh)] at hj
  refine⟨u,?_,Rep.keep p K0 u hp⟩;rw[cell_of_block ha] at hu;rw[cell_of_block h4,h6,if_neg,hu]
  rintro⟨h9,h10⟩
  rcases Nat.lt_or_gt_of_ne I with h11|h11
  have:=Nat.mul_le_mul_right sz (show r+1<=i by omega);rw[Nat.add_mul] at this;omega
  have:=Nat.mul_le_mul_right sz (show i+1<=r by omega);rw[Nat.add_mul] at this;omega
theorem KH {cb co tot sz r c size:Nat}{arr:Array Value}{ty:TypeId}{rows:List (List PV)}{row cs:List PV}{v:Value}{t:TypeId}{K:List PV->Prop}
  (R:P.info? t≠none) (hsize:size=P.cellsOf t) (ha:w.heap[cb]?=some (.cells arr ty (0,0))) (has:arr.size=tot) (hle:co+rows.length*sz<=tot) (U:jh w Y iQ cb sz rows co) (hm:Y cb) (T:rows[r]?=some row)
  {us:List Value} (hcs:v.cells=us.toArray) (hv:gB w Y iQ cs us) (h:lL size row c (.agg cs) K) :
  ∃ w',K (jZ row c cs)/\iE cs=true/\c+cs.length<=row.length/\(storeVar t ⟨cb,co+r*sz+c,none⟩ v).run P w=.ok () w'/\(w'.os=w.os/\w'.tape=w.tape/\w'.output=w.output/\w'.heap.size=w.heap.size/\∀ k,k≠cb->w'.heap[k]?=w.heap[k]?) /\
   (∃ arr',w'.heap[cb]?=some (.cells arr' ty (0,0))/\arr'.size=tot)/\jh w' Y iQ cb sz (rows.set r (jZ row c cs)) co:=by
 unfold lL at h;simp only[jM] at h
 cases hb:(iE cs&&Nat.beq (lG cs) size&&Nat.ble (c+lG cs) (lG row)) with
 | false=>rw[hb] at h;exact h.elim
 | true =>
  rw[hb] at h;simp only[Bool.and_eq_true,kX] at hb;obtain⟨⟨h1,h2⟩,h3⟩:=hb;have h2:=Nat.eq_of_beq_eq_true h2;have h3:=Nat.le_of_ble_eq_true h3;have I:=yf _ _ h1 hv;have hlen:=hv.length;have hr:=jh.row _ _ _ _ U T
  have C:r<rows.length:=by
   by_cases hh:r<rows.length
   exact hh
   simp[List.getElem?_eq_none (Nat.le_of_not_lt hh)] at T
  have hbound:r*sz+sz<=rows.length*sz:=by
   have:=Nat.mul_le_mul_right sz (show r+1<=rows.length by omega);rw[Nat.add_mul] at this;omega
  obtain⟨w',g,W⟩:=CQ (P:=P) (o:=co+r*sz+c) R hsize hcs ah ha ah I;obtain⟨arr',h4,h5,h6⟩:=W.blk;have K0:Keep w w' Y Y iQ iQ:=⟨λk _ hk=>W.other k (λe=>hk (e ▸ hm)),λ_ _ h=>h,Nat.le_of_eq W.size.symm,mg.refl _⟩;refine⟨w',h,h1,h3,g,⟨W.os,W.tape,W.output,W.size,W.other⟩,⟨arr',h4,by omega⟩,?_⟩;rw[jh.iff] at U |-;intro i q hi;rw[List.getElem?_set] at hi
  by_cases J:r=i
  subst J;rw[if_pos rfl,if_pos C] at hi;cases hi;refine⟨⟨by rw[tu];exact hr.1.1,Bc _ _ _ hr.1.2 h1⟩,?_⟩;exact W.rep ha hr.2 hv ah (λp v hp=>Rep.keep p K0 v hp)
  rw[if_neg J] at hi;obtain⟨h7,h8⟩:=U i q hi;refine⟨h7,?_⟩;rw[jc.iff] at h8 |-;intro j p hj;obtain⟨u,hu,hp⟩:=h8 j p hj
  have hjlt:j<q.length:=by
   by_cases hh:j<q.length
   exact hh
   simp[List.getElem?_eq_none (Nat.le_of_not_lt hh)] at hj
  refine⟨u,?_,Rep.keep p K0 u hp⟩;rw[cell_of_block ha] at hu;rw[cell_of_block h4,h6,if_neg,hu]
  rintro⟨h9,h10⟩
  rcases Nat.lt_or_gt_of_ne J with h11|h11
  have:=Nat.mul_le_mul_right sz (show r+1<=i by omega);rw[Nat.add_mul] at this;omega
  have:=Nat.mul_le_mul_right sz (show i+1<=r by omega);rw[Nat.add_mul] at this;omega
theorem SW.VY {vs:List Value}{w' : World}(H:SW C w Y σ ps vs st n){b:Nat}{x x' : jq}{l:Loc}{st' : St}(hx:iO st b=some x)(hl:σ b=some l){m:Nat}(hm:Y m)(hnb:∀ b' y l',b'≠b->iO st b'=some y->σ b'=some l'->l'.cb≠m)(hnm:C.w0.heap.size<=m\/C.L m)
  (T:∀ c y,iO st' c=some y->(c=b/\y=x')\/(c≠b/\iO st c=some y))
  (hos:w'.os=w.os) (J:w'.tape=w.tape) (hout:w'.output=w.output) (hsize:w'.heap.size=w.heap.size)
  (U:∀ k,k≠m->w'.heap[k]?=w.heap[k]?) (g:(∀ p v,Rep w Y iQ p v->Rep w' Y iQ p v)->gJ w' Y σ l x') (R:(∀ p v,Rep w Y iQ p v->Rep w' Y iQ p v)->yK C.w0 C.L w' Y σ st'):SW C w' Y σ ps vs st' n:=by
 have K:Keep w w' Y Y σ σ:=⟨λk _ hk=>U k (λe=>hk (e ▸ hm)),λ_ _ h=>h,Nat.le_of_eq hsize.symm,mg.refl _⟩
 have old:∀ c y,iO st' c=some y->∃ z,iO st c=some z:=by
  intro c y h;rcases T c y h with ⟨rfl,_⟩|⟨_,h⟩
  exact⟨x,hx⟩
  exact⟨y,h⟩
 refine⟨gB.keep _ K _ H.vals,⟨?_,?_⟩,H.next,λk hk=>by rw[hsize];exact H.vg k hk,H.y0,H.c0,H.vk,?_,?_,H.wz.keep K.none,H.fix,R λp v hp=>Rep.keep p K.none v hp⟩
 intro c y h;rcases T c y h with ⟨rfl,rfl⟩|⟨hc,h⟩
 exact .inl ⟨l,hl,g λp v hp=>Rep.keep p K.none v hp⟩
 rcases H.store.blk c y h with ⟨l',I,hb⟩|hn
 exact .inl ⟨l',I,gJ.keep K (U _ (hnb c y l' hc h I)) Iff.rfl hb⟩
 exact .inr hn
 intro c c' y y' l1 l2 h h' h1 h2 e;obtain⟨z,hz⟩:=old _ _ h;obtain⟨z',hz'⟩:=old _ _ h';exact H.store.inj c c' z z' l1 l2 hz hz' h1 h2 e
 refine⟨by rw[hos];exact H.mf.os,by rw[J];exact H.mf.tape,by rw[hout];exact H.mf.output,by rw[hsize];exact H.mf.size,λk hk hM=>?_⟩
 have hne:k≠m:=λe=>by
  subst e;rcases H.vk _ hm hk with h2|h2
  have:=H.c0 _ h2;rcases hnm with h3|h3
  omega
  exact this.2 h3
  exact hM h2
 rw[U k hne];exact H.mf.block k hk hM
 intro c y l' h h1;obtain⟨z,hz⟩:=old _ _ h;exact H.own c z l' hz h1
theorem UZ {row cs:List PV}{c i:Nat}{h:Hdr}{sz:Nat}{U:List (List PV)}(hle:c+cs.length<=row.length)(hi:(jZ row c cs)[i]?=some (.ow h sz U)):(c<=i/\i<c+cs.length/\PV.ow h sz U∈cs)\/((i<c\/c+cs.length<=i)/\row[i]?=some (.ow h sz U)):=by
 rw[H6 _ _ _ _ hle] at hi
 split at hi
 rename_i hh;exact .inl ⟨hh.1,hh.2,List.mem_of_getElem? hi⟩
 rename_i hh;exact .inr ⟨by omega,hi⟩
theorem XT {vs:List Value}{w' : World}(H:SW C w Y σ ps vs st n){b r c sz:Nat}{rows:List (List PV)}{row cs:List PV}{l:Loc}(U:iO st b=some (.kH sz rows))(hs:σ b=some l)(hm:Y l.cb)
  (others:∀ J y l',J≠b->iO st J=some y->σ J=some l'->l'.cb≠l.cb) (g:rows[r]?=some row) (h2:c+cs.length<=row.length) (hno:∀ h sz es,PV.ow h sz es∈cs->es≠[]->False)
  (w1:w'.os=w.os) (w2:w'.tape=w.tape) (w3:w'.output=w.output) (w4:w'.heap.size=w.heap.size) (w5:∀ k,k≠l.cb->w'.heap[k]?=w.heap[k]?)
  (hB:(∀ p v,Rep w Y iQ p v->Rep w' Y iQ p v)->gJ w' Y σ l (.kH sz (rows.set r (jZ row c cs)))):SW C w' Y σ ps vs (nI st b (some (.kH sz (rows.set r (jZ row c cs))))) n:=by
 refine SW.VY H U hs hm others (H.own b _ l U hs) (λI y' hh=>?_) w1 w2 w3 w4 w5 hB λhk=>?_
 rw[iG] at hh
 by_cases e1:b=I
 rw[if_pos e1] at hh;cases hh;exact .inl ⟨e1.symm,rfl⟩
 rw[if_neg e1] at hh;exact .inr ⟨λe=>e1 e.symm,hh⟩
 have K0:Keep w w' Y Y iQ iQ:=⟨λk _ hy=>w5 k (λe=>hy (e ▸ hm)),λ_ _ h=>h,Nat.le_of_eq w4.symm,mg.refl _⟩
 have back:∀ {J r' I h' T R},lM (nI st b (some (.kH sz (rows.set r (jZ row c cs))))) J r' I h' T R->lM st J r' I h' T R:=by
  rintro J r' I h' T R ⟨sz0,rs,rw0,g1,g2,g3,g4⟩
  rw[iG] at g1
  by_cases e1:b=J
  subst e1;rw[if_pos rfl] at g1;cases g1;rw[List.getElem?_set] at g2
  by_cases hr:r=r'
  subst hr
  have hrlt:r<rows.length:=by
   by_cases hh:r<rows.length
   exact hh
   simp[List.getElem?_eq_none (Nat.le_of_not_lt hh)] at g
  rw[if_pos rfl,if_pos hrlt] at g2;cases g2;rcases UZ h2 g3 with ⟨k1,k2,k3⟩|⟨k1,k2⟩
  exact (hno _ _ _ k3 g4).elim
  exact⟨sz,rows,row,U,g,k2,g4⟩
  rw[if_neg hr] at g2;exact⟨sz,rows,rw0,U,g2,g3,g4⟩
  rw[if_neg e1] at g1;exact⟨sz0,rs,rw0,g1,g2,g3,g4⟩
 refine H.nest.keep K0 (λ_ _ _ _ _ _ hh=>back hh) (λJ r' I h' T R hh=>w5 _ (H.nest.sep _ _ _ _ _ _ _ _ _ (back hh) U hs).symm) (λJ r' I h' T R hh=>(H.nest.rep _ _ _ _ _ _ (back hh)).own) λJ r' I h' T R b'' x l' hh hx hl'=>?_;rw[iG] at hx
 by_cases e1:b=b''
 subst e1;exact H.nest.sep _ _ _ _ _ _ _ _ _ (back hh) U hl'
 rw[if_neg e1] at hx;exact H.nest.sep _ _ _ _ _ _ _ _ _ (back hh) hx hl'
theorem KI {S:iK}{lk:Nat->Option jq}:∀ (ps U : List PV) (δ:Dl),FM S lk ps=some (U,δ)->iE U=true/\iE ps=true
 | [],U,δ,h=>by simp[FM] at h;obtain⟨rfl,_⟩:=h;simp[iE]
 | p::ps,U,δ,h=>by
  unfold FM at h
  cases hp:FM S lk ps with
  | none=>rw[hp] at h;cases h
  | some r =>
   obtain⟨q,R⟩:=r;rw[hp] at h;obtain⟨T,i2⟩:=KI ps q R hp;simp only at h;cases p
   case os b r n =>
    simp only at h
    split at h
    cases h;exact⟨by simp[iE,sZ,T],by simp[iE,sZ,i2]⟩
    cases h
   case fn f cs=>cases cs<;>simp only at h<;>first|contradiction|(cases h;exact⟨by simp[iE,sZ,T],by simp[iE,sZ,i2]⟩)
   all_goals (simp only at h;first|contradiction|(cases h;exact⟨by simp[iE,sZ,T],by simp[iE,sZ,i2]⟩))
theorem QT {S:iK}{lk:Nat->Option jq}:∀ {ps U : List PV} {us:List Value},FM S lk ps=some (U,[])->gB w Y σ ps us->gB w Y iQ U us
 | [],U,us,h,hr=>by simp[FM] at h;subst h;unfold gB at hr |-;exact hr
 | p::ps,U,us,h,hr=>by
  unfold FM at h
  cases hp:FM S lk ps with
  | none=>rw[hp] at h;cases h
  | some r =>
   obtain⟨q,J⟩:=r;rw[hp] at h;simp only at h;unfold gB at hr;obtain⟨v,T,rfl,h1,h2⟩:=hr;cases p
   case os b r n =>
    simp only at h
    split at h
    cases h
    cases h
   case fn f cs =>
    cases cs<;>simp only at h<;>first|contradiction|skip
    cases h;unfold gB;refine⟨v,T,rfl,?_,QT hp h2⟩;unfold Rep at h1 |-;obtain⟨zs,e1,R⟩:=h1;unfold gB at R;subst R;exact⟨[],e1,by unfold gB;rfl⟩
   all_goals (simp only at h;first|contradiction|(cases h;unfold gB;refine⟨v,T,rfl,?_,QT hp h2⟩;unfold Rep at h1 |-;exact h1))
theorem XU {P:Program}{T:Tab}{lk:Nat->Option jq}:∀ (ps U : List PV) (δ:Dl),FM (iK.jd P T) lk ps=some (U,δ)->∀ h sz R,PV.ow h sz R ∉ U
 | [],U,δ,h=>by simp[FM] at h;obtain⟨rfl,_⟩:=h;simp
 | p::ps,U,δ,h=>by
  unfold FM at h
  cases hp:FM (iK.jd P T) lk ps with
  | none=>rw[hp] at h;cases h
  | some r =>
   obtain⟨q,g⟩:=r;rw[hp] at h;have I:=XU ps q g hp;intro hh sz R C
   have key:∀ u J,some (u::q,J)=some (U,δ)->u≠.ow hh sz R->False:=by
    intro u J e hu;cases e;rcases List.mem_cons.1 C with e|e
    exact hu e.symm
    exact I _ _ _ e
   simp only at h;cases p
   case os b r n =>
    simp only at h
    split at h
    exact key _ _ h aB
    cases h
   case fn f cs=>cases cs<;>simp only at h<;>first|contradiction|exact key _ _ h aB
   all_goals (simp only at h;first|contradiction|exact key _ _ h aB)
include hT H hlk hid in
theorem adv {t:TypeId}{x y:Operand}(ho:o.op=.store t x y)(h:jU T (iK.jd P T) (.store t x y) ps lk id K):nY P C o a w σ ps st n id K:=by
 have hx:=jw H x;have hy:=jw H y;simp only[jU] at h
 split at h
 rename_i agg size z plain kind e;obtain⟨hinfo,hsize,hagg,hund⟩:=RQ hT e
 split at h
 rename_i b c e;rw[e] at hx;unfold Rep at hx;obtain⟨l,hs,e'⟩:=hx
 split at h
 rename_i row hb;obtain⟨row',w',hK,J,H'⟩:=VV H hinfo hsize (hlk _ _ hb) hs hy h;refine⟨_,_,Go.undef,w',Y,σ,hK,.inr ⟨?_,rfl⟩,?_,by simp[Rep],Off.refl _ _⟩
 simp[execOp,ho,e',Instr.storeAt,Instr.sureAddr,J]
 simp only[iW,ql];exact H'.mono ah
 exact h.elim
 rename_i b r c e;rw[e] at hx;unfold Rep at hx;obtain⟨l,hs,e'⟩:=hx
 split at h
 rename_i sz rows hb
 split at h
 rename_i cs δ hp
 cases hm:Ut b δ with
 | true=>rw[hm] at h;exact h.elim
 | false =>
  rw[hm] at h;have h9:=yL h;clear h;obtain⟨cs2,hl2,hc2,hw2,⟨row,R,h⟩,h8⟩:=h9;clear hl2 hc2 h8
  have hall:iE (jM (oD T ps y))=true:=by
   clear h hm hs e' R hb e hw2;generalize jM (oD T ps y)=l at hp
   induction l generalizing cs δ with
   | nil=>rfl
   | cons p l ih =>
    unfold FM at hp
    cases hp2:FM (iK.jd P T) lk l with
    | none=>rw[hp2] at hp;cases hp
    | some r =>
     rw[hp2] at hp;simp only[iE,ih _ _ hp2,Bool.and_true];cases p<;>simp[sZ] at hp |-
  obtain⟨us,hcs,hr,hone⟩:=Gi hy hall;have hLk:Lk lk st:=λb ro sz rows h=>⟨ro,hlk _ _ h⟩
  obtain⟨Y',H',hr',hyy⟩:=Dw _ _ _ hp Y st H hLk us hr;have hst' : iO (iW δ st) b=some (.arr false sz rows):=by rw[LZ δ st hm];exact hlk _ _ hb
  obtain⟨row',w',hK,J,H2⟩:=VX (P:=P) H' hinfo hsize hst' hs R hcs (hw2 _ _ _ _ hr') h;refine⟨_,_,Go.undef,w',Y',σ,hK,.inr ⟨?_,rfl⟩,?_,by simp[Rep],Off.refl _ _⟩
  simp[execOp,ho,e',Instr.storeAt,Instr.sureAddr,J]
  have:∀ (δ:Dl) (st:St) (e:Nat×Option jq),iW (δ++[e]) st=nI (iW δ st) e.1 e.2:=by
   intro δ;induction δ with
   | nil=>intro st e;rfl
   | cons d δ ih=>intro st e;simp only[List.cons_append,iW];exact ih _ _
  rw[this]
  have hn:n<=ql (δ++[(b,some (.arr false sz ((iK.jd P T).MZ rows r row')))]) n id:=by
   cases δ<;>simp[ql]<;>omega
  exact H2.mono hn
 exact h.elim
 rename_i sz rows hb;have hst:=hlk _ _ hb;have hB:gJ w Y σ l (.kH sz rows):=gJ.wW H hlk hb hs;unfold gJ at hB;obtain⟨⟨arr,ty,ha,has⟩,hsz,hpos,⟨hle,hnr⟩,hrows,hm⟩:=hB;have others:∀ b' y l',b'≠b->iO st b'=some y->σ b'=some l'->l'.cb≠l.cb:=λb' y l' hne h1 h2 e=>hne (H.store.inj b' b y _ l' l h1 hst h2 hs e)
 have blk:∀ {w' : World} {rows' : List (List PV)} {arr' : Array Value},rows'.length=rows.length->w'.heap[l.cb]?=some (.cells arr' ty (0,0))->arr'.size=l.tot->jh w' Y iQ l.cb sz rows' l.co->gJ w' Y σ l (.kH sz rows'):=by
  intro w' rows' arr' h1 h2 h3 h4;unfold gJ;exact⟨⟨arr',ty,h2,h3⟩,hsz,hpos,⟨by rw[h1];exact hle,by rw[h1];exact hnr⟩,h4,hm⟩
 split at h
 rename_i id0 r0 m ey;rw[ey] at hy
 split at h
 rename_i g rows' hb2
 cases hc:(Nat.beq size 1&&Nat.beq id0 b) with
 | true=>rw[hc] at h;exact h.elim
 | false =>
  rw[hc] at h;obtain⟨row,R,h⟩:=h;have hst2:=hlk _ _ hb2;have hne:id0≠b:=λe=>by rw[e] at hst2;rw[hst] at hst2;cases hst2
  unfold Rep at hy
  by_cases hm0:m=0
        
  subst hm0
  have hsl:∃ a0 cap0,a.eval y=.slice a0 0 cap0:=by
   rcases hy with ⟨l2,cap,_,ey2,_⟩|⟨_,a0,ey2⟩
   exact⟨_,cap,ey2⟩
   exact⟨a0,0,ey2⟩
  let hd:Hdr:=⟨0,0,0⟩;have h:lL size row c (.agg [.ow hd g []]) (λrow'=>K PV.undef [(id0,none),(b,some (jq.kH sz ((iK.jd P T).MZ rows r row')))]):=h hd
  have hrep:gB w Y iQ [.ow hd g []] [a.eval y]:=by
   unfold gB;refine⟨_,_,rfl,?_,by unfold gB;rfl⟩;unfold Rep;exact .inr ⟨rfl,hsl⟩
  have hcells:(a.eval y).cells=#[a.eval y]:=Ai (by obtain⟨a0,c0,e⟩:=hsl;rw[e];rfl);obtain⟨w',hK,h1,h2,J,⟨w1,w2,w3,w4,w5⟩,⟨arr',h5,h6⟩,h7⟩:=KH (P:=P) hinfo hsize ha has hle hrows hm R (us:=[a.eval y]) (by rw[hcells]) hrep h;have H2:=XT H hst hs hm others R h2 (by intro h' U I hh hne;simp only[List.mem_singleton,PV.ow.injEq] at hh;exact hne hh.2.2) w1 w2 w3 w4 w5 (λ_=>blk (rows':=rows.set r (jZ row c [.ow hd g []])) aB h5 h6 h7);refine⟨_,_,Go.undef,w',Y,σ,hK,.inr ⟨?_,rfl⟩,?_,by simp[Rep],Off.refl _ _⟩
  rw[<- hsz] at J;simp[execOp,ho,e',Instr.storeAt,Instr.sureAddr,J]
  simp only[iW];refine SW.mono (n:=n) ?_ dS;refine H2.ext λc' y' hh=>?_;simp only[iG] at hh |-
  by_cases e1:b=c'
  rw[if_pos e1] at hh |-;exact hh
  rw[if_neg e1] at hh |-
  by_cases e2:id0=c'
  rw[if_pos e2] at hh;cases hh
  rw[if_neg e2] at hh;exact hh
  rcases hy with ⟨l2,cap,hl2,ey2,hcap,htot,hrm⟩|⟨hm1,a0,ey2⟩
  have hB2:gJ w Y σ l2 (.arr false g rows'):=gJ.wW H hlk hb2 hl2;unfold gJ at hB2;obtain⟨⟨arr2,ty2,ha2,has2⟩,hsz2,hpos2,⟨hle2,hnr2⟩,hrows2,hm2,_⟩:=hB2;have hm2:=hm2 rfl
  let hd:Hdr:=⟨l2.cb,l2.co+r0*l2.sz,cap⟩;have hlen:((rows'.drop r0).take m).length=m:=by rw[List.length_take,List.length_drop];omega
  have h:lL size row c (.agg [.ow hd g ((rows'.drop r0).take m)]) (λrow'=>K PV.undef [(id0,none),(b,some (jq.kH sz ((iK.jd P T).MZ rows r row')))]):=h hd
  have hrep:gB w Y iQ [.ow hd g ((rows'.drop r0).take m)] [a.eval y]:=by
   unfold gB;refine⟨_,_,rfl,?_,by unfold gB;rfl⟩;unfold Rep;exact .inl ⟨λe=>by rw[e] at hlen;simp at hlen;exact hm0 hlen.symm,by rw[hlen];exact ey2,by rw[hlen];exact hcap.1⟩
  have hcells:(a.eval y).cells=#[a.eval y]:=Ai (by rw[ey2];rfl);obtain⟨w',hK,h1,h2,J,⟨w1,w2,w3,w4,w5⟩,⟨arr',h5,h6⟩,h7⟩:=KH (P:=P) hinfo hsize ha has hle hrows hm R (us:=[a.eval y]) (by rw[hcells]) hrep h
  have look:∀ c' y',iO (iW [(id0,none),(b,some (.kH sz (rows.set r (jZ row c [.ow hd g ((rows'.drop r0).take m)]))))] st) c'=some y'->(c'=b/\y'=.kH sz (rows.set r (jZ row c [.ow hd g ((rows'.drop r0).take m)])))\/(c'≠b/\c'≠id0/\iO st c'=some y'):=by
   intro c' y' hh;simp only[iW,iG] at hh
   by_cases e1:b=c'
   rw[if_pos e1] at hh;cases hh;exact .inl ⟨e1.symm,rfl⟩
   rw[if_neg e1] at hh
   by_cases e2:id0=c'
   rw[if_pos e2] at hh;cases hh
   rw[if_neg e2] at hh;exact .inr ⟨λe=>e1 e.symm,λe=>e2 e.symm,hh⟩
  have hν:hd.ν=l2.cb:=rfl;have hl12:l2.cb≠l.cb:=others id0 _ l2 hne hst2 hl2
  have ow:∀ {b' r' c' h' U I},lM (iW [(id0,none),(b,some (.kH sz (rows.set r (jZ row c [.ow hd g ((rows'.drop r0).take m)]))))] st) b' r' c' h' U I ->
    (b'=b/\r'=r/\c'=c/\h'=hd/\U=g/\I=(rows'.drop r0).take m)\/(lM st b' r' c' h' U I/\¬ (b'=b/\r'=r/\c'=c)):=by
   rintro b' r' c' h' U I ⟨sz0,rs,rw0,g1,g2,g3,g4⟩
   rcases look _ _ g1 with ⟨e0,g5⟩|⟨e1,e2,g1⟩
   subst e0;cases g5;rw[List.getElem?_set] at g2
   by_cases hr:r=r'
   subst hr
   have hrlt:r<rows.length:=by
    by_cases hh:r<rows.length
    exact hh
    simp[List.getElem?_eq_none (Nat.le_of_not_lt hh)] at R
   rw[if_pos rfl,if_pos hrlt] at g2;cases g2;rcases UZ h2 g3 with ⟨k1,k2,k3⟩|⟨k1,k2⟩
   simp only[List.mem_singleton,PV.ow.injEq] at k3;simp only[List.length_singleton] at k2;exact .inl ⟨rfl,rfl,by omega,k3.1,k3.2.1,k3.2.2⟩
   simp only[List.length_singleton] at k1;exact .inr ⟨⟨sz,rows,row,hst,R,k2,g4⟩,λhh=>by omega⟩
   rw[if_neg hr] at g2;exact .inr ⟨⟨sz,rows,rw0,hst,g2,g3,g4⟩,λhh=>hr hh.2.1.symm⟩
   exact .inr ⟨⟨sz0,rs,rw0,g1,g2,g3,g4⟩,λhh=>e1 hh.1⟩
  have H2:SW C w' Y σ ps a.tmps.toList (iW [(id0,none),(b,some (.kH sz (rows.set r (jZ row c [.ow hd g ((rows'.drop r0).take m)]))))] st) n:=by
   refine SW.VY H hst hs hm others (H.own b _ l hst hs) (λc' y' hh=>(look c' y' hh).imp _root_.id λhh=>⟨hh.1,hh.2.2⟩) w1 w2 w3 w4 w5 (λ_=>blk aB h5 h6 h7) λhk=>?_;have K0:Keep w w' Y Y iQ iQ:=⟨λk _ hy=>w5 k (λe=>hy (e ▸ hm)),λ_ _ h=>h,Nat.le_of_eq w4.symm,mg.refl _⟩;have notl:∀ {b' r' c' h' U I},lM st b' r' c' h' U I->h'.ν≠l.cb/\h'.ν≠l2.cb:=λhh=>⟨(H.nest.sep _ _ _ _ _ _ _ _ _ hh hst hs).symm,(H.nest.sep _ _ _ _ _ _ _ _ _ hh hst2 hl2).symm⟩
   refine⟨λb' r' c' h' U I hh=>?_,λb' r' c' h' U I hh=>?_,λb' r' c' h' U I b'' r'' c'' h'' sz3 es'' hh hh' e=>?_,λb' r' c' h' U I b'' x l' hh hx hl'=>?_⟩
   rcases ow hh with ⟨_,_,_,rfl,rfl,rfl⟩|⟨hh,_⟩
   refine⟨hm2,hpos2,⟨arr2,ty2,by rw[hν,w5 _ hl12];exact ha2,by rw[has2];show l2.tot=l2.co+r0*l2.sz+cap*U;rw[<- htot,hsz2]⟩,by rw[hlen];exact hcap.1,?_⟩;show jh w' Y iQ l2.cb U _ (l2.co+r0*l2.sz);rw[hsz2];exact jh.keep _ K0 (λ_=>w5 _ hl12) _ ((hrows2.drop r0 _ _).take m _ _)
   exact (H.nest.rep _ _ _ _ _ _ hh).keep K0 (w5 _ (notl hh).1) (λh=>h)
   rcases ow hh with ⟨_,_,_,rfl,rfl,rfl⟩|⟨hh,_⟩
   exact H.own id0 _ l2 hst2 hl2
   exact H.nest.old _ _ _ _ _ _ hh
   rcases ow hh with ⟨e1,e2,e3,e4,_⟩|⟨hh1,_⟩<;>rcases ow hh' with ⟨f1,f2,f3,f4,_⟩|⟨hh2,_⟩
   exact⟨by rw[e1,f1],by rw[e2,f2],by rw[e3,f3]⟩
   exact absurd (by rw[<- e,e4]) (notl hh2).2
   exact absurd (by rw[e,f4]) (notl hh1).2
   exact H.nest.one _ _ _ _ _ _ _ _ _ _ _ _ hh1 hh2 e
   have hx2:(b''=b\/b''≠b)/\b''≠id0/\∃ z,iO st b''=some z:=by
    rcases look _ _ hx with ⟨rfl,_⟩|⟨e1,e2,hx⟩
    exact⟨.inl rfl,λe=>hne e.symm,_,hst⟩
    exact⟨.inr e1,e2,_,hx⟩
   obtain⟨_,hxi,z,hz⟩:=hx2;rcases ow hh with ⟨_,_,_,rfl,_⟩|⟨hh,_⟩
   exact λe=>hxi (H.store.inj b'' id0 z _ l' l2 hz hst2 hl' hl2 e)
   exact H.nest.sep _ _ _ _ _ _ _ _ _ hh hz hl'
  refine⟨_,_,Go.undef,w',Y,σ,hK,.inr ⟨?_,rfl⟩,H2.mono dS,by simp[Rep],Off.refl _ _⟩;rw[<- hsz] at J;simp[execOp,ho,e',Instr.storeAt,Instr.sureAddr,J]
  exact absurd hm1 hm0
 exact h.elim
 split at h
 rename_i cs hp;have hall:iE (jM (oD T ps y))=true:=(KI _ _ _ hp).2;obtain⟨us,hcs,hr,hone⟩:=Gi hy hall;have hLk:Lk lk st:=λb ro sz rows h=>⟨ro,hlk _ _ h⟩
 obtain⟨row,R,h⟩:=h;have hr':=QT hp hr;obtain⟨w',hK,h1,h2,J,⟨w1,w2,w3,w4,w5⟩,⟨arr',h5,h6⟩,h7⟩:=KH (P:=P) hinfo hsize ha has hle hrows hm R hcs hr' h;have H2:=XT H hst hs hm others R h2 (by intro h' U I hh hne;exact absurd hh (XU _ _ _ hp _ _ _)) w1 w2 w3 w4 w5 (λ_=>blk (rows':=rows.set r (jZ row c cs)) aB h5 h6 h7);refine⟨_,_,Go.undef,w',Y,σ,hK,.inr ⟨?_,rfl⟩,H2.mono dS,by simp[Rep],Off.refl _ _⟩;rw[<- hsz] at J;simp[execOp,ho,e',Instr.storeAt,Instr.sureAddr,J]
 exact h.elim
 rename_i sz rows r0 row hb;obtain⟨hr0,h⟩:=h;cases hr0;obtain⟨row',w',hK,J,H'⟩:=VW H hinfo hsize (hlk _ _ hb) hs hy h;refine⟨_,_,Go.undef,w',Y,σ,hK,.inr ⟨?_,rfl⟩,?_,by simp[Rep],Off.refl _ _⟩
 simp[execOp,ho,e',Instr.storeAt,Instr.sureAddr,J]
 simp only[iW,ql];exact H'.mono ah
 exact h.elim
 rename_i b r c hd sz j k e;rw[e] at hx;unfold Rep at hx
 split at h
 rename_i sz0 rows hb;have hst:=hlk _ _ hb
 split at h
 rename_i cs hp;have hall:iE (jM (oD T ps y))=true:=(KI _ _ _ hp).2;obtain⟨us,hcs,hr,hone⟩:=Gi hy hall;have h9:=yL h;clear h;obtain⟨cs2,hl2,hc2,hw2,⟨row,R,h⟩,h8⟩:=h9;clear hl2 hc2 h8;have hr':=hw2 _ _ _ _ (QT hp hr)
 split at h
 rename_i h' g es ec
 cases hs:Nat.beq g sz with
 | false=>rw[hs] at h;exact h.elim
 | true =>
  rw[hs] at h;simp only[cond_true] at h;have hs:=Nat.eq_of_beq_eq_true hs;subst hs;obtain⟨he,er,her,h⟩:=h;subst he;have hc:row[c]?=some (.ow hd g es):=by rw[A8,List.getD_eq_getElem?_getD] at ec;exact getD_some ec
  have hne:es≠[]:=by rintro rfl;simp at her
  have hO:lM st b r c hd g es:=⟨sz0,rows,row,hst,R,hc,hne⟩;have hN:=H.nest.rep _ _ _ _ _ _ hO;obtain⟨arr,ty,ha,has⟩:=hN.blk;have hle:hd.o+es.length*g<=hd.o+hd.cap*g:=by have:=Nat.mul_le_mul_right g hN.len;omega
  obtain⟨w',hK,h1,h2,J,⟨w1,w2,w3,w4,w5⟩,⟨arr',h5,h6⟩,h7⟩:=KH (P:=P) hinfo hsize ha has hle hN.rows hN.own her hcs hr' h
  obtain⟨l,hl,hB⟩:∃ l,σ b=some l/\gJ w Y σ l (.kH sz0 rows):=by
   rcases H.store.blk b _ hst with h|⟨_,_,_,hx⟩
   exact h
   cases hx
  have hlν:l.cb≠hd.ν:=H.nest.sep _ _ _ _ _ _ _ _ _ hO hst hl
  have hclt:c<row.length:=by
   by_cases hh:c<row.length
   exact hh
   simp[List.getElem?_eq_none (Nat.le_of_not_lt hh)] at hc
  have hrlt:r<rows.length:=by
   by_cases hh:r<rows.length
   exact hh
   simp[List.getElem?_eq_none (Nat.le_of_not_lt hh)] at R
  have hne' : es.set j (jZ er k cs2)≠[]:=by
   intro h0;have:=congrArg List.length h0;simp at this;exact hne this
  have ow:∀ {b' r' c' h2 U I},lM (nI st b (some (.kH sz0 (rows.set r (qU row c (.ow hd g (es.set j (jZ er k cs2)))))))) b' r' c' h2 U I ->
    (b'=b/\r'=r/\c'=c/\h2=hd/\U=g/\I=es.set j (jZ er k cs2))\/(lM st b' r' c' h2 U I/\¬ (b'=b/\r'=r/\c'=c)):=by
   rintro b' r' c' h2 U I ⟨szx,rs,rw0,g1,g2,g3,g4⟩
   rw[iG] at g1
   by_cases e1:b=b'
   subst e1;rw[if_pos rfl] at g1;cases g1;rw[List.getElem?_set] at g2
   by_cases hrr:r=r'
   subst hrr;rw[if_pos rfl,if_pos hrlt] at g2;cases g2;rw[qK,List.getElem?_set] at g3
   by_cases hcc:c=c'
   subst hcc;rw[if_pos rfl,if_pos hclt] at g3;cases g3;exact .inl ⟨rfl,rfl,rfl,rfl,rfl,rfl⟩
   rw[if_neg hcc] at g3;exact .inr ⟨⟨sz0,rows,row,hst,R,g3,g4⟩,λhh=>hcc hh.2.2.symm⟩
   rw[if_neg hrr] at g2;exact .inr ⟨⟨sz0,rows,rw0,hst,g2,g3,g4⟩,λhh=>hrr hh.2.1.symm⟩
   rw[if_neg e1] at g1;exact .inr ⟨⟨szx,rs,rw0,g1,g2,g3,g4⟩,λhh=>e1 hh.1.symm⟩
  have H2:SW C w' Y σ ps a.tmps.toList (nI st b (some (.kH sz0 (rows.set r (qU row c (.ow hd g (es.set j (jZ er k cs2)))))))) n:=by
   refine SW.VY (b:=b) (x':=.kH sz0 (rows.set r (qU row c (.ow hd g (es.set j (jZ er k cs2)))))) H hst hl hN.own (λb' y l' _ h1 h2=>H.nest.sep _ _ _ _ _ _ _ _ _ hO h1 h2) (H.nest.old _ _ _ _ _ _ hO) (λc' y' hh=>?_) w1 w2 w3 w4 w5 (λhk=>?_) λhk=>?_
   rw[iG] at hh
   by_cases e1:b=c'
   rw[if_pos e1] at hh;cases hh;exact .inl ⟨e1.symm,rfl⟩
   rw[if_neg e1] at hh;exact .inr ⟨λe=>e1 e.symm,hh⟩
   unfold gJ at hB |-;obtain⟨⟨arr0,ty0,b1,b2⟩,b3,b4,⟨b5,b6⟩,b7,b8⟩:=hB;refine⟨⟨arr0,ty0,by rw[w5 _ hlν];exact b1,b2⟩,b3,b4,⟨by simpa using b5,by simpa using b6⟩,?_,b8⟩;have K0:Keep w w' Y Y iQ iQ:=⟨λk _ hy=>w5 k (λe=>hy (e ▸ hN.own)),λ_ _ h=>h,Nat.le_of_eq w4.symm,mg.refl _⟩;have b7:=jh.keep rows K0 (λ_=>w5 _ hlν) _ b7;rw[jh.iff] at b7 |-;intro i q hi;rw[List.getElem?_set] at hi
   by_cases hri:r=i
   subst hri;rw[if_pos rfl,if_pos hrlt] at hi;cases hi;obtain⟨⟨q1,q2⟩,q3⟩:=b7 r row R;refine⟨⟨by rw[qK];simpa using q1,?_⟩,?_⟩
   rw[qK,qi];rw[qi] at q2;intro p hp;rcases List.mem_or_eq_of_mem_set hp with hh|hh
   exact q2 p hh
   rw[hh];rfl
   rw[jc.iff] at q3 |-;intro i p hi;rw[qK,List.getElem?_set] at hi
   by_cases hci:c=i
   subst hci;rw[if_pos rfl,if_pos hclt] at hi;cases hi;obtain⟨v,hv,hp⟩:=q3 c _ hc;refine⟨v,hv,?_⟩;unfold Rep at hp |-;rcases hp with ⟨_,p2,p3⟩|⟨p1,_⟩
   exact .inl ⟨hne',by simpa using p2,by simpa using p3⟩
   exact absurd p1 hne
   rw[if_neg hci] at hi;exact q3 i p hi
   rw[if_neg hri] at hi;exact b7 i q hi
   have K0:Keep w w' Y Y iQ iQ:=⟨λk _ hy=>w5 k (λe=>hy (e ▸ hN.own)),λ_ _ h=>h,Nat.le_of_eq w4.symm,mg.refl _⟩;have other:∀ {b' r' c' h2 U I},lM st b' r' c' h2 U I->¬ (b'=b/\r'=r/\c'=c)->h2.ν≠hd.ν:=λhh hn e=>hn (H.nest.one _ _ _ _ _ _ _ _ _ _ _ _ hh hO e);refine⟨λb' r' c' h2 U I hh=>?_,λb' r' c' h2 U I hh=>?_,λb' r' c' h2 U I b'' r'' c'' h3 sz3 es'' hh hh' e=>?_,λb' r' c' h2 U I b'' x l' hh hx hl'=>?_⟩
   rcases ow hh with ⟨_,_,_,rfl,rfl,rfl⟩|⟨hh,hn⟩
   exact⟨hN.own,hN.pos,⟨arr',ty,h5,h6⟩,by simpa using hN.len,h7⟩
   exact (H.nest.rep _ _ _ _ _ _ hh).keep K0 (w5 _ (other hh hn)) (λh=>h)
   rcases ow hh with ⟨_,_,_,rfl,rfl,rfl⟩|⟨hh,_⟩
   exact H.nest.old _ _ _ _ _ _ hO
   exact H.nest.old _ _ _ _ _ _ hh
   rcases ow hh with ⟨e1,e2,e3,e4,_⟩|⟨hh1,n1⟩<;>rcases ow hh' with ⟨f1,f2,f3,f4,_⟩|⟨hh2,n2⟩
   exact⟨by rw[e1,f1],by rw[e2,f2],by rw[e3,f3]⟩
   exact absurd (by rw[<- e,e4]) (other hh2 n2)
   exact absurd (by rw[e,f4]) (other hh1 n1)
   exact H.nest.one _ _ _ _ _ _ _ _ _ _ _ _ hh1 hh2 e
   have hz:∃ z,iO st b''=some z:=by
    rw[iG] at hx
    by_cases e1:b=b''
    subst e1;exact⟨_,hst⟩
    rw[if_neg e1] at hx;exact⟨_,hx⟩
   obtain⟨z,hz⟩:=hz;rcases ow hh with ⟨_,_,_,rfl,_⟩|⟨hh,_⟩
   exact H.nest.sep _ _ _ _ _ _ _ _ _ hO hz hl'
   exact H.nest.sep _ _ _ _ _ _ _ _ _ hh hz hl'
  refine⟨_,_,Go.undef,w',Y,σ,hK,.inr ⟨?_,rfl⟩,H2.mono dS,by simp[Rep],Off.refl _ _⟩;simp[execOp,ho,hx,Instr.storeAt,Instr.sureAddr,J]
 exact h.elim
 exact h.elim
 exact h.elim
 exact h.elim
 exact h.elim
end
end Go.Pv
namespace Go.Pv
open Go
theorem DX {P:Program}{t:TypeId}{z:List PV}(h:EM P t=some z):∃ U,(∀ w,(zeroValue t).run P w=.ok U w)/\∀ w Y σ,gB w Y σ z U.cells.toList:=by
 unfold EM at h
 split at h
 rename_i i hi
 split at h
 rename_i U R;cases h;refine⟨U,λw=>by simp[zeroValue,typeInfo,program,Sem.run,Result.andThen,hi,R],λw Y σ=>?_⟩;unfold Rl
 split
 rename_i cs;exact EO w Y σ _
 rename_i T;have h1:jM (Ht U)=[Ht U]:=by unfold Ht;split<;>rfl
 have h2:U.cells=#[U]:=by
  cases U<;>first|rfl|(exact absurd rfl (T _))
 rw[h1,h2];unfold gB;exact⟨U,[],rfl,LX w Y σ U,by simp[gB]⟩
 cases h
 cases h
theorem RU {w:World}{Y:Nat->Prop}{σ:Sg}{p:PV}{v:Value}(h:Rep w Y σ p v)(hp:p≠.top):gB w Y σ (jM p) v.cells.toList:=by
 cases p
 case top=>exact absurd rfl hp
 case agg cs=>unfold Rep at h;obtain⟨vs,rfl,hr⟩:=h;exact hr
 case os =>
  have U:v.cells=#[v]:=by
   unfold Rep at h;rcases h with ⟨_,_,_,rfl,_⟩|⟨_,_,rfl⟩<;>rfl
  rw[U];simp only[jM];unfold gB;exact⟨v,[],rfl,h,by simp[gB]⟩
 case ow =>
  have U:v.cells=#[v]:=by
   unfold Rep at h;rcases h with ⟨_,rfl,_⟩|⟨_,_,_,rfl⟩<;>rfl
  rw[U];simp only[jM];unfold gB;exact⟨v,[],rfl,h,by simp[gB]⟩
 case bo =>
  have U:v.cells=#[v]:=by
   unfold Rep at h;rcases h with ⟨_,rfl,_⟩|⟨_,_,_,rfl⟩<;>rfl
  rw[U];simp only[jM];unfold gB;exact⟨v,[],rfl,h,by simp[gB]⟩
 all_goals
  have U:v.cells=#[v]:=by
   unfold Rep at h
   first
    | (subst h;rfl)
    | (obtain⟨_,rfl,_⟩:=h;rfl)
    | (obtain⟨_,_,rfl⟩:=h;rfl)
    | (obtain⟨_,_,rfl,_⟩:=h;rfl)
    | (obtain⟨_,_,_,rfl,_⟩:=h;rfl)
  rw[U];simp only[jM];unfold gB;exact⟨v,[],rfl,h,by simp[gB]⟩
section
variable {P:Program}{T:Tab}(hT:jg P T){C:Ctx T}{o:Oper}{a:Act}{w:World}{Y:Nat->Prop}{σ:Sg}{ps:List PV}{st:St}{n id:Nat}{K:PV->Dl->Prop}{lk:Nat->Option jq}
 (H:SW C w Y σ ps a.tmps.toList st n) (hlk:∀ b x,lk b=some x->iO st b=some x) (hid:σ id=none/\T.qJ<=id)
theorem SW.newVar (H:SW C w Y σ ps a.tmps.toList st n)(hid:σ id=none/\T.qJ<=id){vs:List Value}{row:List PV}(ty:TypeId)(hr:gB w Y σ row vs) :
  ∃ Y' σ',SW C (w.alloc (.cells vs.toArray ty)) Y' σ' ps a.tmps.toList (nI st id (some (.var false row))) (max n (id+1))/\Rep (w.alloc (.cells vs.toArray ty)) Y' σ' (.lv id 0) (.pointer (some ⟨w.heap.size,0,none⟩))/\Off id σ σ':=by
 obtain⟨Y',σ',J,hs,_,_,U⟩:=H.alloc hid vs.toArray ty ⟨w.heap.size,0,row.length,vs.length,1⟩ rfl (.var false row) (λ_ _ e=>by cases e) (by
  intro w' Y' σ' hk R hb _;unfold gJ;refine⟨⟨_,ty,hb,by simp⟩,rfl,by simp[hr.length],?_,λ_=>R,λh=>by cases h⟩;rw[jc.iff];intro i p hi;obtain⟨v,hv,hp⟩:=hr.get? hi;exact⟨v,by rw[cell_of_block hb];simpa using hv,hk _ _ hp⟩)
 refine⟨Y',σ',J,?_,U⟩;unfold Rep;exact⟨_,hs,rfl⟩
include hT H hid in
theorem adw {t:TypeId}(ho:o.op=.alloc t)(h:jU T (iK.jd P T) (.alloc t) ps lk id K):nY P C o a w σ ps st n id K:=by
 simp only[jU] at h
 split at h
 rename_i agg size z plain kind e;obtain⟨i,d,h1,h2,h3,g,h5,J,h7,h8⟩:=um hT e rfl;obtain⟨zv,R,hr⟩:=DX J.symm;obtain⟨Y',σ',I,hrep,U⟩:=H.newVar hid t (hr w Y σ);refine⟨_,_,_,_,Y',σ',h,.inl ?_,I,hrep,U⟩;simp[execOp,ho,Instr.alloc,R,newVar,newRow,newObj,Sem.run,Result.andThen]
 exact h.elim
include H hid in
theorem ahy {t:TypeId}{x:Operand}(ho:o.op=.box t x)(h:jU T (iK.jd P T) (.box t x) ps lk id K):nY P C o a w σ ps st n id K:=by
 have hx:=jw H x;simp only[jU] at h
 split at h
 exact h.elim
 rename_i R;obtain⟨Y',σ',J,hrep,U⟩:=H.newVar hid t (RU hx R);refine⟨_,_,_,_,Y',σ',h,.inl ?_,J,hrep,U⟩;simp[execOp,ho,Instr.box,newVar,newRow,newObj,Sem.run,Result.andThen]
include H in
theorem XV {f:FuncId}{first cap:Array Operand}(ho:o.op=.makeFunc (.func f) first cap)(h:jU T (iK.jd P T) (.makeFunc (.func f) first cap) ps lk id K):nY P C o a w σ ps st n id K:=by
 simp only[jU] at h
 split at h
 rename_i O;have U : first=#[]:=by simpa using O
 subst U;refine nY.quiet H (cv:=.func (.func f) #[] (cap.map a.eval)) ?_ ?_ h
 simp[execOp,ho,Instr.makeFunc]
 unfold Rep;refine⟨cap.toList.map a.eval,?_,rU H _⟩
 congr 1
 apply Array.ext';simp
 exact h.elim
theorem qV {P:Program}{w:World}{k:IntKind}{m:Int}:(asIntOf (.int k m)).run P w=.ok (k,m) w:=by simp[asIntOf]
include hT H hlk in
theorem VZ {t:TypeId}{x i:Operand}(ho:o.op=.indexAddr t x i)(h:jU T (iK.jd P T) (.indexAddr t x i) ps lk id K):nY P C o a w σ ps st n id K:=by
 have hx:=jw H x;have hi:=jw H i;simp only[jU] at h
 split at h
 rename_i agg size z plain esz bytes z' e;obtain⟨et,hu,rfl,_,_⟩:=ku hT e
 have run:∀ (k:IntKind) (j len cap:Nat) (b off:Nat),a.eval i=.int k (j:Int)->a.eval x=.slice (some ⟨b,off,none⟩) len cap->j<len->P.info? et≠none ->
   (execOp a.eval o).run P w=.ok (.value (.pointer (some ⟨b,off+j*P.cellsOf et,none⟩))) w:=by
  intro k j len cap b off e1 e2 hj hinf;have:(0:Int)<=(j:Int)/\(j:Int)<(len:Int):=by omega
  simp[execOp,ho,Instr.indexAt,e1,e2,qV,jA hu,run_sizeOf hinf,this,addr_add]
 split at h
 rename_i sz es full k m J I;rw[J] at hx;have R:=nR hi I
 cases hb:(jo (P.cellsOf et)&&Nat.beq sz (P.cellsOf et)) with
 | false=>rw[hb] at h;exact h.elim
 | true =>
  rw[hb] at h;rw[Bool.and_eq_true] at hb;have hinf:=jD hb.1;have hb:=Nat.eq_of_beq_eq_true hb.2;obtain⟨j,row,rfl,hrow,h⟩:=h;unfold Rep at hx;obtain⟨a',len,cap,ex,hl,hc,_,hr⟩:=hx
  have U:j<es.length:=by
   by_cases hh:j<es.length
   exact hh
   simp[List.getElem?_eq_none (Nat.le_of_not_lt hh)] at hrow
  rcases hr with hr|⟨b,off,rfl,hy,hr⟩
  rw[hr] at U;simp at U
  refine nY.quiet H (run k j len cap b off R ex ah hinf) ?_ h;unfold Rep;refine⟨b,_,rfl,hy,?_⟩;rw[<- hb];exact (jh.row _ _ _ _ hr hrow).2
 rename_i b r len k m J I;rw[J] at hx;have R:=nR hi I
 split at h
 rename_i ro sz rows hbk
 cases hb:(jo (P.cellsOf et)&&Nat.beq sz (P.cellsOf et)) with
 | false=>rw[hb] at h;exact h.elim
 | true =>
  rw[hb] at h;rw[Bool.and_eq_true] at hb;have hinf:=jD hb.1;have hb:=Nat.eq_of_beq_eq_true hb.2;obtain⟨j,rfl,U,h⟩:=h;unfold Rep at hx;rcases hx with ⟨l,cap,hs,ex,hn,ht,hnr⟩|⟨rfl,_⟩
  have hB:=gJ.wW H hlk hbk hs;unfold gJ at hB;refine nY.quiet H (run k j len cap _ _ R ex U hinf) ?_ h;unfold Rep;refine⟨l,hs,?_⟩;have:l.sz=P.cellsOf et:=by rw[hB.2.1,hb]
  show Value.pointer (some ⟨l.cb,l.co+r*l.sz+j*P.cellsOf et,none⟩)=Value.pointer (some ⟨l.cb,l.co+(r+j)*l.sz+0,none⟩);rw[<- this,Nat.add_mul];simp[Nat.add_assoc]
  omega
 rename_i sz rows hbk
 cases hb:(jo (P.cellsOf et)&&Nat.beq sz (P.cellsOf et)) with
 | false=>rw[hb] at h;exact h.elim
 | true =>
  rw[hb] at h;rw[Bool.and_eq_true] at hb;have hinf:=jD hb.1;have hb:=Nat.eq_of_beq_eq_true hb.2;obtain⟨j,rfl,U,h⟩:=h;unfold Rep at hx;rcases hx with ⟨l,cap,hs,ex,hn,ht,hnr⟩|⟨rfl,_⟩
  have hB:=gJ.wW H hlk hbk hs;unfold gJ at hB;refine nY.quiet H (run k j len cap _ _ R ex U hinf) ?_ h;unfold Rep;refine⟨l,hs,?_⟩;have:l.sz=P.cellsOf et:=by rw[hB.2.1,hb]
  show Value.pointer (some ⟨l.cb,l.co+r*l.sz+j*P.cellsOf et,none⟩)=Value.pointer (some ⟨l.cb,l.co+(r+j)*l.sz+0,none⟩);rw[<- this,Nat.add_mul];simp[Nat.add_assoc]
  omega
 rename_i sz _ _ _ hbk
 cases hb:(jo (P.cellsOf et)&&Nat.beq sz (P.cellsOf et)) with
 | false=>rw[hb] at h;exact h.elim
 | true =>
  rw[hb] at h;rw[Bool.and_eq_true] at hb;have hinf:=jD hb.1;have hb:=Nat.eq_of_beq_eq_true hb.2;obtain⟨j,rfl,U,h⟩:=h;unfold Rep at hx;rcases hx with ⟨l,cap,hs,ex,hn,ht,hnr⟩|⟨rfl,_⟩
  have hB:=gJ.wW H hlk hbk hs;unfold gJ at hB;refine nY.quiet H (run k j len cap _ _ R ex U hinf) ?_ h;unfold Rep;refine⟨l,hs,?_⟩;have:l.sz=P.cellsOf et:=by rw[hB.2.1,hb]
  show Value.pointer (some ⟨l.cb,l.co+r*l.sz+j*P.cellsOf et,none⟩)=Value.pointer (some ⟨l.cb,l.co+(r+j)*l.sz+0,none⟩);rw[<- this,Nat.add_mul];simp[Nat.add_assoc]
  omega
 exact h.elim
 rename_i b r c hd sz len k m J I;rw[J] at hx;have R:=nR hi I
 cases hb:(jo (P.cellsOf et)&&Nat.beq sz (P.cellsOf et)) with
 | false=>rw[hb] at h;exact h.elim
 | true =>
  rw[hb] at h;rw[Bool.and_eq_true] at hb;have hinf:=jD hb.1;have hb:=Nat.eq_of_beq_eq_true hb.2;obtain⟨j,rfl,U,h⟩:=h;unfold Rep at hx;rcases hx with ⟨_,ex,hn⟩|⟨rfl,_⟩
  refine nY.quiet H (run k j len hd.cap _ _ R ex U hinf) ?_ h;unfold Rep;rw[<- hb];rfl
  omega
 exact h.elim
 ·rename_i agg size z plain len esz ag e;obtain⟨et,hu,rfl,_,_⟩:=Nr hT e
  cases g:jo (P.cellsOf et) with
  | false=>rw[g] at h;exact h.elim
  | true =>
  rw[g] at h;simp only[cond_true] at h;have hinf:=jD g
  have run:∀ (k:IntKind) (j:Nat) (b off:Nat),a.eval i=.int k (j:Int)->a.eval x=.pointer (some ⟨b,off,none⟩)->j<len ->
    (execOp a.eval o).run P w=.ok (.value (.pointer (some ⟨b,off+j*P.cellsOf et,none⟩))) w:=by
   intro k j b off e1 e2 hj;have:(0:Int)<=(j:Int)/\(j:Int)<(len:Int):=by omega
   simp[execOp,ho,Instr.indexAt,e1,e2,qV,jA hu,run_sizeOf hinf,this,addr_add,Instr.sureAddr]
  have fin:∀ (k:IntKind) (j:Nat),a.eval i=.int k (j:Int)->j<len->(match oD T ps x with
    | .lv b c=>K (.lv b (c+j*P.cellsOf et)) []
    | .lp b r c=>K (.lp b r (c+j*P.cellsOf et)) []
    | .pp cs=>bif Nat.ble (j*P.cellsOf et) (lG cs) then K (.pp (Cj (j*P.cellsOf et) cs)) [] else False
    | _=>False)->nY P C o a w σ ps st n id K:=by
   intro k j R hj h
   split at h
   rename_i b c J;rw[J] at hx;unfold Rep at hx;obtain⟨l,hs,ex⟩:=hx;refine nY.quiet H (run k j _ _ R ex hj) ?_ h;unfold Rep;exact⟨l,hs,by rw[Nat.add_assoc]⟩
   rename_i b r c J;rw[J] at hx;unfold Rep at hx;obtain⟨l,hs,ex⟩:=hx;refine nY.quiet H (run k j _ _ R ex hj) ?_ h;unfold Rep;exact⟨l,hs,by rw[Nat.add_assoc]⟩
   rename_i cs J;rw[J] at hx;unfold Rep at hx;obtain⟨b,off,ex,hy,hr⟩:=hx
   cases hb:Nat.ble (j*P.cellsOf et) (lG cs) with
   | false=>rw[hb] at h;exact h.elim
   | true =>
    rw[hb] at h;refine nY.quiet H (run k j _ _ R ex hj) ?_ h;unfold Rep;rw[su];exact⟨b,_,rfl,hy,hr.drop _ _ _⟩
   exact h.elim
  split at h
  rename_i k m I;rw[I] at hi
  cases hb:Nat.blt m len with
  | false=>simp only[hb,cond_false] at h
  | true =>
   simp only[hb,cond_true] at h;exact fin k m (tq hi) (by simpa [Nat.blt_eq] using hb) h
  rename_i k m I;rw[I] at hi;obtain⟨j,rfl,hj,h⟩:=h;exact fin k j (RP hi) hj h
  exact h.elim
 exact h.elim
end
end Go.Pv
namespace Go.Pv
open Go
theorem XW {P:Program}{w:World}{Y:Nat->Prop}{σ:Sg}{t:TypeId}{c size:Nat}{cs:List PV}{vs:List Value}{agg:Bool}{K:PV->Prop}
  (R:P.info? t≠none) (hsize:size=P.cellsOf t) (U:agg=jW P t) (J:∃ d,P.underlying t=some d)
  (hr:gB w Y σ cs vs) (h:loadRow agg size cs c K) :
  ∃ v cv,K v/\(part t vs.toArray c).run P w=.ok cv w/\Rep w Y σ v cv:=by
 obtain⟨d,hu⟩:=J;unfold loadRow at h;have hlen:=hr.length
 cases agg with
 | true =>
  simp only[cond_true] at h
  cases hb:Nat.ble (c+size) (lG cs) with
  | false=>simp only[hb,cond_false] at h
  | true =>
   simp only[hb,cond_true,Gg,su] at h;have hle:c+size<=cs.length:=by simpa using Nat.le_of_ble_eq_true hb
   refine⟨_,.agg ((vs.drop c).take size).toArray,h,?_,?_⟩
   simp only[part,Sem.run_bind,Gh hu,<- U,Result.andThen,if_true,run_sizeOf R,<- hsize];simp only[Sem.run_pure]
   congr 2
   apply Array.ext';simp[List.extract_eq_take_drop]
   unfold Rep;refine⟨_,rfl,?_⟩;clear h hb hle hlen
   have drop:∀ (n:Nat) (cs:List PV) (vs:List Value),gB w Y σ cs vs->gB w Y σ (cs.drop n) (vs.drop n):=by
    intro n;induction n with
    | zero=>intro cs vs h;simpa using h
    | succ n ih =>
     intro cs vs h
     cases cs with
     | nil=>unfold gB at h;subst h;simp[gB]
     | cons c cs=>unfold gB at h;obtain⟨v,T,rfl,_,h2⟩:=h;simpa using ih cs T h2
   have take:∀ (n:Nat) (cs:List PV) (vs:List Value),gB w Y σ cs vs->gB w Y σ (cs.take n) (vs.take n):=by
    intro n;induction n with
    | zero=>intro cs vs h;simp[gB]
    | succ n ih =>
     intro cs vs h
     cases cs with
     | nil=>unfold gB at h;subst h;simp[gB]
     | cons c cs =>
      unfold gB at h;obtain⟨v,T,rfl,h1,h2⟩:=h;simp only[List.take_succ_cons];unfold gB;exact⟨v,_,rfl,h1,ih cs T h2⟩
   exact take size _ _ (drop c _ _ hr)
 | false =>
  simp only[cond_false] at h
  cases hb:Nat.blt c (lG cs) with
  | false=>simp only[hb,cond_false] at h
  | true =>
   simp only[hb,cond_true] at h;have I:c<vs.length:=by rw[hlen];simpa [Nat.blt_eq] using hb
   have C:=hr.get _ _ c;rw[List.getD_eq_getElem?_getD,List.getElem?_eq_getElem I] at C;refine⟨_,vs[c],h,?_,C⟩;simp only[part,Sem.run_bind,Gh hu,<- U,Result.andThen];simp[I]
def Lr (P:Program):Prop:=∀ t,P.info? t≠none->∃ d,P.underlying t=some d
section
variable {P:Program}{T:Tab}(hT:jg P T){C:Ctx T}{o:Oper}{a:Act}{w:World}{Y:Nat->Prop}{σ:Sg}{ps:List PV}{st:St}{n id:Nat}{K:PV->Dl->Prop}{lk:Nat->Option jq}
 (H:SW C w Y σ ps a.tmps.toList st n) (hlk:∀ b x,lk b=some x->iO st b=some x) (hid:σ id=none/\T.qJ<=id) (hU:Lr P)
include hT H hU in
theorem adx {t:TypeId}{x:Operand}{f:Nat}(ho:o.op=.field t x f)(h:jU T (iK.jd P T) (.field t x f) ps lk id K):nY P C o a w σ ps st n id K:=by
 have J:=jw H x;simp only[jU] at h
 split at h
 rename_i fs e;obtain⟨fl,hu,rfl,_⟩:=LY hT e
 split at h
 rename_i fd O;rw[HY,List.getElem?_map] at O
 cases hg:fl.toList[f]? with
 | none=>simp[hg] at O
 | some g =>
  simp[hg] at O;subst O;have I : fl[f]?=some g:=by simpa using hg
  split at h
  rename_i cs e;rw[e] at J
  cases hp:jo (P.cellsOf g.type) with
  | false=>simp only[hp] at h;exact h.elim
  | true =>
   simp only[hp,cond_true] at h;have U:=jD hp;unfold Rep at J;obtain⟨vs,e',hr⟩:=J;obtain⟨v,cv,hK,R,hrep⟩:=XW U rfl rfl (hU _ U) hr h;refine nY.quiet H (cv:=cv) ?_ hrep hK;simp[execOp,ho,Instr.field,jA hu,I,e',asAgg,R]
  exact h.elim
 exact h.elim
 exact h.elim
include hT H hU in
theorem ady {t:TypeId}{x i:Operand}(ho:o.op=.index t x i)(h:jU T (iK.jd P T) (.index t x i) ps lk id K):nY P C o a w σ ps st n id K:=by
 have hx:=jw H x;have hi:=jw H i;simp only[jU] at h
 split at h
 rename_i agg size z plain s k m e I R;rw[I] at hx;have hu:=Ns hT e;have J:=nR hi R;have hxv:=EP hx;obtain⟨j,c,rfl,hj,h⟩:=h;refine nY.quiet H (cv:=.int .u8 c.toNat) ?_ bH h;simp[execOp,ho,Instr.index,J,hxv,qV,jA hu,hj]
 rename_i agg size z plain len esz ag cs k m e I R;rw[I] at hx;obtain⟨et,hu,rfl,rfl,_⟩:=Nr hT e;have J:=nR hi R
 cases hp:jo (P.cellsOf et) with
 | false=>simp only[hp] at h;exact h.elim
 | true =>
  simp only[hp,cond_true] at h;have U:=jD hp;obtain⟨j,rfl,hj,h⟩:=h;unfold Rep at hx;obtain⟨vs,ex,hr⟩:=hx;obtain⟨v,cv,hK,g,hrep⟩:=XW U rfl rfl (hU _ U) hr h;refine nY.quiet H (cv:=cv) ?_ hrep hK;have:(0:Int)<=(j:Int)/\(j:Int)<(len:Int):=by omega
  simp[execOp,ho,Instr.index,J,ex,qV,jA hu,this,run_sizeOf U,g]
 exact h.elim
end
theorem bytes_beq (a b:ByteArray):(a.toList==b.toList)=decide (a=b):=by
 rw[Bool.eq_iff_iff];simp only[beq_iff_eq,decide_eq_true_eq,ByteArray.toList_eq];obtain⟨⟨x⟩⟩:=a;obtain⟨⟨y⟩⟩:=b;simp
def ceq:Nat->Value->Value->Option Bool
 | 0,.int k a,.int k' b=>if k=k' then some (a==b) else none
 | 1,.bool a,.bool b=>some (a==b)
 | 2,.string a,.string b=>some (a.toList==b.toList)
 | _,_,_=>none
def EK:List Nat->List Value->List Value->Option Bool
 | [],[],[]=>some true
 | k::ks,x::xs,y::ys=>match ceq k x y with
  | none=>none
  | some a=>match EK ks xs ys with
   | none=>none
   | some b=>some (a&&b)
 | _,_,_=>none
theorem afM {P:Program}{T:Tab}{w:World}{Y:Nat->Prop}{σ:Sg}{k:Nat}{p q:PV}{u v:Value}{b:Bool}(h:eqC (iK.jd P T) k p q=some b)(hp:Rep w Y σ p u)(hq:Rep w Y σ q v):ceq k u v=some b:=by
 unfold eqC at h
 split at h
 split at h
 rename_i k1 a k2 c h1 h2
 cases hk:qm k1 k2 with
 | false=>simp[hk] at h
 | true =>
  simp only[hk,cond_true,Option.some.injEq] at h;have:=Dv hk;subst this;rw[nR hp h1,nR hq h2];subst h;have:(a==c)=decide (a=c):=by rw[Bool.eq_iff_iff];simp
  simp[ceq,iK.jd,xQ,this]
 cases h
 split at h
 rename_i a c h1 h2;rw[KG hp h1,KG hq h2];simp only[Option.some.injEq] at h;subst h;simp[ceq,iK.jd]
 cases h
 rw[EP hp,EP hq];simp only[Option.some.injEq] at h;subst h;simp[ceq,iK.jd,iP,bytes_beq]
 cases h
theorem U0 {P:Program}{T:Tab}{w:World}{Y:Nat->Prop}{σ:Sg}:∀ (U:List Nat) (ps qs:List PV) (us vs:List Value) (b:Bool),VK (iK.jd P T) U ps qs=some b->gB w Y σ ps us->gB w Y σ qs vs->EK U us vs=some b
 | [],[],[],us,vs,b,h,hp,hq=>by
  unfold gB at hp hq;subst hp;subst hq;simp[VK] at h;subst h;rfl
 | k::U,p::ps,q::qs,us,vs,b,h,hp,hq=>by
  unfold gB at hp hq;obtain⟨u,us,rfl,I,J⟩:=hp;obtain⟨v,vs,rfl,C,R⟩:=hq;simp only[VK] at h
  cases h1:eqC (iK.jd P T) k p q with
  | none=>rw[h1] at h;cases h
  | some a =>
   rw[h1] at h
   cases h2:VK (iK.jd P T) U ps qs with
   | none=>rw[h2] at h;cases h
   | some c =>
    rw[h2] at h;simp only[Option.some.injEq] at h;subst h;simp only[EK,afM h1 I C,U0 U ps qs us vs c h2 J R];rfl
 | [],[],_::_,_,_,_,h,_,_|[],_::_,_,_,_,_,h,_,_|_::_,[],_,_,_,_,h,_,_|_::_,_::_,[],_,_,_,h,_,_=>by simp[VK] at h
theorem Nw:∀ (U:List Nat) (us vs:List Value) (b:Bool),EK U us vs=some b->us.length=U.length/\vs.length=U.length
 | [],[],[],_,_=>by simp
 | k::U,u::us,v::vs,b,h=>by
  simp only[EK] at h
  cases h1:ceq k u v with
  | none=>rw[h1] at h;cases h
  | some a =>
   rw[h1] at h
   cases h2:EK U us vs with
   | none=>rw[h2] at h;cases h
   | some c=>have:=Nw U us vs c h2;simp[this]
 | [],[],_::_,_,h|[],_::_,_,_,h|_::_,[],_,_,h|_::_,_::_,[],_,h=>by simp[EK] at h
theorem RV:∀ (U ls:List Nat) (us vs:List Value) (b:Bool),EK (U++ls) us vs=some b ->
  ∃ R T,EK U (us.take U.length) (vs.take U.length)=some R/\EK ls (us.drop U.length) (vs.drop U.length)=some T/\b=(R&&T)
 | [],ls,us,vs,b,h=>⟨true,b,by simp[EK],by simpa using h,by simp⟩
 | k::U,ls,[],vs,b,h=>by simp[EK] at h
 | k::U,ls,u::us,[],b,h=>by simp[EK] at h
 | k::U,ls,u::us,v::vs,b,h=>by
  simp only[List.cons_append,EK] at h
  cases h1:ceq k u v with
  | none=>rw[h1] at h;cases h
  | some a =>
   rw[h1] at h
   cases h2:EK (U++ls) us vs with
   | none=>rw[h2] at h;cases h
   | some c =>
    rw[h2] at h;simp only[Option.some.injEq] at h;obtain⟨R,T,e1,I,J⟩:=RV U ls us vs c h2;refine⟨a&&R,T,by simp[EK,h1,e1],by simpa using I,?_⟩;rw[<- h,J,Bool.and_assoc]
def valOf (P:Program)(t:TypeId)(us:List Value):Value:=if jW P t then .agg us.toArray else us.headD Go.undef
theorem H7 {P:Program}{w:World}{t:TypeId}(U:P.info? t≠none)(T:∃ d,P.underlying t=some d){us:List Value}{c s:Nat}(hs:s=P.cellsOf t)(hle:c+s<=us.length)(h1:jW P t=false->s=1) :
  (part t us.toArray c).run P w=.ok (valOf P t ((us.drop c).take s)) w:=by
 obtain⟨d,hu⟩:=T;simp only[part,Sem.run_bind,Gh hu,Result.andThen];unfold valOf
 cases J:jW P t with
 | true =>
  simp only[if_true,Sem.run_bind,run_sizeOf U,Result.andThen,Sem.run_pure,<- hs]
  congr 2
  apply Array.ext';simp[List.extract_eq_take_drop]
 | false =>
  have:=h1 J;subst this;have R:c<us.length:=by omega
  simp only[Bool.false_eq_true,if_false];rw[show us.toArray[c]?=some us[c] by simp[R]];have:(us.drop c).take 1=[us[c]]:=by rw[List.drop_eq_getElem_cons R];rfl
  simp[this]
theorem U1 {P:Program}:∀ (d:Nat) (t:TypeId) (U:List Nat),vG P d t=some U->jW P t=false->U.length=1
 | 0,_,_,h,_=>by simp[vG] at h
 | d+1,t,U,h,ha=>by
  unfold vG at h;unfold jW at ha
  split at h
  all_goals first
   | (cases h;done)
   | (cases h;rfl)
   | (rename_i hu;simp[hu] at ha;done)
theorem Qn:∀ (n:Nat) (l:List Nat),(XC n l).length=n*l.length
 | 0,l=>by simp[XC]
 | n+1,l=>by simp[XC,Qn n l,Nat.add_mul];omega
theorem FP {P:Program}(g:Lr P):∀ (d:Nat) (t:TypeId) (R:List Nat),vG P d t=some R->∀ (D:Nat),d<=D->∀ (us vs:List Value) (b:Bool),EK R us vs=some b ->
  ∀ w,(Op.equalIn D t (valOf P t us) (valOf P t vs)).run P w=.ok b w
 | 0,_,_,h=>by simp[vG] at h
 | d+1,t,R,h=>by
  intro D hD us vs b hb w;obtain⟨D,rfl⟩:∃ D',D=D'+1:=⟨D-1,by omega⟩;have hD:d<=D:=by omega
  unfold vG at h
  have one:∀ k,R=[k]->∃ u v,us=[u]/\vs=[v]/\ceq k u v=some b:=by
   intro k e;subst e;have hl:=Nw _ _ _ _ hb
   match us,vs,hl with
   | [u],[v],_ =>
    simp only[EK] at hb
    cases h1:ceq k u v with
    | none=>rw[h1] at hb;cases hb
    | some a=>rw[h1] at hb;simp at hb;subst hb;exact⟨u,v,rfl,rfl,h1⟩
  split at h
  rename_i hu;cases h;obtain⟨u,v,rfl,rfl,U⟩:=one 1 rfl;have:jW P t=false:=by simp[jW,hu]
  simp only[valOf,this,Bool.false_eq_true,if_false,List.headD_cons];unfold ceq at U
  split at U
  rename_i h0;cases h0
  simp only[Option.some.injEq] at U;subst U;exact run_equalIn_bool' w D t _ _ hu
  rename_i h0;cases h0
  cases U
  rename_i k hu;cases h;obtain⟨u,v,rfl,rfl,U⟩:=one 0 rfl;have:jW P t=false:=by simp[jW,hu]
  simp only[valOf,this,Bool.false_eq_true,if_false,List.headD_cons];unfold ceq at U
  split at U
  split at U
  simp only[Option.some.injEq] at U;subst U;rename_i hk;subst hk;exact run_equalIn_int w D t _ _ _ _ hu
  cases U
  rename_i h0;cases h0
  rename_i h0;cases h0
  cases U
  rename_i hu;cases h;obtain⟨u,v,rfl,rfl,U⟩:=one 2 rfl;have:jW P t=false:=by simp[jW,hu]
  simp only[valOf,this,Bool.false_eq_true,if_false,List.headD_cons];unfold ceq at U
  split at U
  rename_i h0;cases h0
  rename_i h0;cases h0
  simp only[Option.some.injEq] at U;subst U;exact run_equalIn_string w D t _ _ hu
  cases U
  rename_i fs hu
  cases I:P.stoodInHeld t with
  | true=>rw[I] at h;cases h
  | false =>
   simp only[I,Bool.false_eq_true,if_false] at h;have C:jW P t=true:=by simp[jW,hu]
   simp only[valOf,C,if_true];have O:P.fieldsOf t=fs:=by simp[Program.fieldsOf,hu]
   rw[run_equalIn_struct w D t _ _ (by rw[O];exact hu) I,O]
   have key:∀ (l:List Field) (off:Nat) (R:List Nat) (b:Bool),KD P (vG P d) l off=some R->EK R (us.drop off) (vs.drop off)=some b ->
     (Op.eqFields D us.toArray vs.toArray l).run P w=.ok b w:=by
    intro l
    induction l with
    | nil =>
     intro off R b h hb;simp[KD] at h;subst h
     have J : b=true:=by
      generalize us.drop off=x at hb;generalize vs.drop off=y at hb;cases x<;>cases y<;>simp[EK] at hb
      exact hb
     subst J;simp[Op.eqFields]
    | cons f l ih =>
     intro off R b h hb;unfold KD at h
     split at h
     rename_i U;obtain⟨ho,hn,hi⟩:=U
     cases hs:vG P d f.type with
     | none=>rw[hs] at h;cases h
     | some s =>
      rw[hs] at h;simp only at h
      split at h
      rename_i hsz0;obtain⟨hsz,hpos⟩:=hsz0
      cases hr:KD P (vG P d) l (off+s.length) with
      | none=>rw[hr] at h;cases h
      | some r =>
       rw[hr] at h;simp only[Option.some.injEq] at h;subst h;obtain⟨b1,b2,e1,e2,rfl⟩:=RV _ _ _ _ _ hb;rw[List.drop_drop,List.drop_drop] at e2;have hl:=Nw _ _ _ _ e1
       have hle1:off+s.length<=us.length:=by
        have:=hl.1;rw[List.length_take,List.length_drop] at this;omega
       have hle2:off+s.length<=vs.length:=by
        have:=hl.2;rw[List.length_take,List.length_drop] at this;omega
       have T:jW P f.type=false->s.length=1:=λC=>U1 d _ _ hs C;subst ho;simp only[Op.eqFields,ne_eq,hn,not_false_eq_true,if_true,Sem.run_bind];rw[H7 hi (g _ hi) hsz.symm hle1 T];simp only[Result.andThen];rw[H7 hi (g _ hi) hsz.symm hle2 T];simp only[Result.andThen];rw[FP g d f.type s hs D hD _ _ b1 e1 w];simp only[Result.andThen];cases b1
       simp
       simpa using ih _ _ b2 hr e2
      cases h
     cases h
   exact key fs.toList 0 R b h (by simpa using hb)
  ·rename_i n e hu
   cases hs:vG P d e with
   | none=>rw[hs] at h;cases h
   | some s =>
    rw[hs] at h;simp only at h
    split at h
    ·rename_i U;obtain⟨hsz,hi⟩:=U;simp only[Option.some.injEq] at h;subst h;have C:jW P t=true:=by simp[jW,hu]
     simp only[valOf,C,if_true]
     cases hinf:P.info? e with
     | none=>exact absurd hinf hi
     | some inf =>
     rw[run_equalIn_array w D us.toArray vs.toArray hu hinf];have T:jW P e=false->s.length=1:=λC=>U1 d _ _ hs C;have hl:=Nw _ _ _ _ hb;rw[Qn] at hl
     have key:∀ (m i:Nat) (b:Bool),i+m=n->EK (XC m s) (us.drop (i*s.length)) (vs.drop (i*s.length))=some b ->
       (Op.eqItems D e (P.cellsOf e) us.toArray vs.toArray (List.range' i m)).run P w=.ok b w:=by
      intro m
      induction m with
      | zero =>
       intro i b _ hb
       have J : b=true:=by
        simp only[XC] at hb;generalize us.drop (i*s.length)=x at hb;generalize vs.drop (i*s.length)=y at hb;cases x<;>cases y<;>simp[EK] at hb
        exact hb
       subst J;simp[Op.eqItems]
      | succ m ih =>
       intro i b him hb;simp only[XC] at hb;obtain⟨b1,b2,e1,e2,rfl⟩:=RV _ _ _ _ _ hb;rw[List.drop_drop,List.drop_drop] at e2
       have hb1:i*s.length+s.length<=n*s.length:=by
        have:=Nat.mul_le_mul_right s.length (show i+1<=n by omega);rw[Nat.add_mul] at this;omega
       simp only[List.range'_succ,Op.eqItems,Sem.run_bind,hsz];rw[H7 hi (g _ hi) hsz.symm ah T];simp only[Result.andThen];rw[H7 hi (g _ hi) hsz.symm ah T];simp only[Result.andThen];rw[FP g d e s hs D hD _ _ b1 e1 w];simp only[Result.andThen];cases b1
       simp
       have:=ih (i+1) b2 ah (by rw[Nat.add_mul,Nat.one_mul];exact e2);rw[hsz] at this
       simpa using this
     have:=key n 0 b ah (by simpa using hb);rw[List.range_eq_range'];exact this
    cases h
  cases h
end Go.Pv
namespace Go.Pv
open Go
section
variable {P:Program}{T:Tab}(hT:jg P T){C:Ctx T}{o:Oper}{a:Act}{w:World}{Y:Nat->Prop}{σ:Sg}{ps:List PV}{st:St}{n id:Nat}{K:PV->Dl->Prop}{lk:Nat->Option jq}
 (H:SW C w Y σ ps a.tmps.toList st n) (hlk:∀ b x,lk b=some x->iO st b=some x) (hid:σ id=none/\T.qJ<=id) (hU:Lr P)
theorem CS {P:Program}{w:World}{op:BinOp}{t:TypeId}{x y:Operand}{u v:Value}(h:∀ cs,u≠.agg cs)(h2:u≠.nilIface):(eqGuard op t x y u v).run P w=.ok () w:=by
 have e:eqGuard op t x y u v=pure ():=by
  cases u<;>first|exact absurd rfl (h _)|exact absurd rfl h2|(cases op<;>rfl)
 rw[e];simp
theorem Uw {P:Program}{w:World}{op:BinOp}{t:TypeId}{k:IntKind}{m c:Int}(h:nN op=true):(binOp op t (.int k m) (.int k c)).run P w=.ok (.int k (jS op k m c)) w:=by
 cases op<;>simp[nN] at h<;>simp[binOp,Op.intArith,Op.intBits,jS]
theorem XX {P:Program}{w:World}{op:BinOp}{t:TypeId}{k:IntKind}{m c:Int}(h:wV op=true):(binOp op t (.int k m) (.int k c)).run P w=.ok (.bool (xQ op m c)) w:=by
 have e:(m==c)=decide (m=c):=by rw[Bool.eq_iff_iff];simp
 cases op<;>simp[wV] at h<;>simp[binOp,Op.intCmp,xQ,e,bne]
theorem adz {P:Program}{w:World}{t:TypeId}{b c:Bool}(hu:P.underlying t=some .bool) :
  (binOp .eql t (.bool b) (.bool c)).run P w=.ok (.bool (b==c)) w/\(binOp .neq t (.bool b) (.bool c)).run P w=.ok (.bool (!(b==c))) w:=by
 constructor<;>simp[binOp,run_equal_bool w t b c hu]
theorem Zw {P:Program}{t:TypeId}:∀ {d:Nat},vG P d t=some [1]->jW P t=false->P.underlying t=some .bool
 | 0,h,_=>by simp[vG] at h
 | d+1,h,ha=>by
  unfold vG at h;unfold jW at ha
  split at h
  all_goals first
   | assumption
   | (cases h;done)
   | (rename_i hu;simp[hu] at ha;done)
theorem afN {P:Program}{w:World}{t e:TypeId}{p q:Option Addr}(hu:P.underlying t=some (.pointer e))(h:p=none\/q=none) :
  (binOp .eql t (.pointer p) (.pointer q)).run P w=.ok (.bool (p.isNone&&q.isNone)) w/\(binOp .neq t (.pointer p) (.pointer q)).run P w=.ok (.bool (!(p.isNone&&q.isNone))) w:=by
 have key:(Op.equal t (.pointer p) (.pointer q)).run P w=.ok (p.isNone&&q.isNone) w:=by
  unfold Op.equal Op.maxDepth;unfold Op.equalIn;simp only[Sem.run_bind,jA hu,Result.andThen];rcases h with rfl|rfl
  cases q<;>simp
  cases p<;>simp
 constructor<;>simp[binOp,key]
theorem H8 {P:Program}{w:World}{t e:TypeId}{x:Option Addr}{len cap:Nat}(hu:P.underlying t=some (.slice e)) :
  (binOp .eql t (.slice x len cap) (.slice none 0 0)).run P w=.ok (.bool x.isNone) w/\(binOp .neq t (.slice x len cap) (.slice none 0 0)).run P w=.ok (.bool (!x.isNone)) w:=by
 have key:(Op.equal t (.slice x len cap) (.slice none 0 0)).run P w=.ok x.isNone w:=by
  unfold Op.equal Op.maxDepth;unfold Op.equalIn;simp only[Sem.run_bind,jA hu,Result.andThen];cases x<;>simp
 constructor<;>simp[binOp,key]
theorem aa4 {x:Operand}(h:Nh x=true):x=.const (.slice none 0 0):=by
 unfold Nh at h
 split at h
 rfl
 cases h
include hT H hU in
theorem afO {op:BinOp}{t u:TypeId}{x y:Operand}(ho:o.op=.binOp op t x y u)(hy:Nh y=true)(h:jU T (iK.jd P T) (.binOp op t x y u) ps lk id K):nY P C o a w σ ps st n id K:=by
 have hx:=jw H x;have I:=aa4 hy;subst I;simp only[jU] at h;rw[hy] at h;simp only at h
 split at h
 rename_i agg size z plain sz bytes z' e;obtain⟨el,hu,_⟩:=ku hT e
 have key:∀ (R:Option Addr) (len cap:Nat),a.eval x=.slice R len cap->eqL op R.isNone (λv=>K v [])->nY P C o a w σ ps st n id K:=by
  intro R len cap U hb;have J:a.eval (.const (.slice none 0 0))=.slice none 0 0:=rfl;obtain⟨r1,r2⟩:=H8 (P:=P) (w:=w) (x:=R) (len:=len) (cap:=cap) hu;have n1:∀ cs,a.eval x≠.agg cs:=by rw[U];intro cs e;cases e
  have n2:a.eval x≠.nilIface:=by rw[U];intro e;cases e
  have fin:∀ {v:PV} {cv:Value},(binOp op t (a.eval x) (a.eval (.const (.slice none 0 0)))).run P w=.ok cv w->Rep w Y σ v cv->K v []->nY P C o a w σ ps st n id K:=by
   intro v cv hr hv hK;refine nY.quiet H (cv:=cv) ?_ hv hK;simp[execOp,ho,CS n1 n2,hr]
  unfold eqL at hb
  cases g1:zV op with
  | true =>
   rw[g1] at hb;have:op=.eql:=by cases op<;>simp[zV] at g1<;>rfl
   subst this;exact fin (by rw[U,J];exact r1) bH hb
  | false =>
   rw[g1] at hb
   cases g2:EL op with
   | true =>
    rw[g2] at hb;have:op=.neq:=by cases op<;>simp[EL] at g2<;>rfl
    subst this
    cases hn:R.isNone with
    | true=>rw[hn] at hb r2;exact fin (by rw[U,J];exact r2) bH hb
    | false=>rw[hn] at hb r2;exact fin (by rw[U,J];exact r2) bH hb
   | false=>rw[g2] at hb;exact hb.elim
 split at h
 rename_i sz' es full hp;rw[hp] at hx;unfold Rep at hx;obtain⟨R,len,cap,U,hl,_,_,g⟩:=hx
 have hb:=h R.isNone (λhn=>by
  rcases g with h|⟨b,o',e,_⟩
  exact h
  rw[e] at hn;cases hn)
 exact key R len cap U hb
 rename_i b0 r0 n0 hp;rw[hp] at hx;unfold Rep at hx
 split at h
 rcases hx with ⟨l,cap,_,U,_⟩|⟨rfl,R,U⟩
 exact key _ _ _ U (h false (λe=>by cases e))
 exact key _ _ _ U (h R.isNone (λ_=>by simp[iK.jd]))
 exact h.elim
 exact h.elim
 exact h.elim
include hT H hU in
theorem adA {op:BinOp}{t u:TypeId}{x y:Operand}(ho:o.op=.binOp op t x y u)(h:jU T (iK.jd P T) (.binOp op t x y u) ps lk id K):nY P C o a w σ ps st n id K:=by
 cases hnil:Nh y with
 | true=>exact afO hT H hU ho hnil h
 | false =>
 have hx:=jw H x;have hy:=jw H y;simp only[jU] at h;rw[hnil] at h;simp only at h;generalize oD T ps x=p at hx h;generalize oD T ps y=q at hy h
 have fin:∀ {v:PV} {cv:Value},(∀ cs,a.eval x≠.agg cs)->a.eval x≠.nilIface->(binOp op t (a.eval x) (a.eval y)).run P w=.ok cv w->Rep w Y σ v cv->K v []->nY P C o a w σ ps st n id K:=by
  intro v cv h1 h2 hr hv hK;refine nY.quiet H (cv:=cv) ?_ hv hK;simp[execOp,ho,CS h1 h2,hr]
 have g:∀ {k I : IntKind} {m c:Int},a.eval x=.int k m->a.eval y=.int I c->Nb (iK.jd P T) op k m I c (λv=>K v [])->nY P C o a w σ ps st n id K:=by
  intro k I m c e1 U h;have n1:∀ cs,a.eval x≠.agg cs:=by rw[e1];intro cs e;cases e
  have J:a.eval x≠.nilIface:=by rw[e1];intro e;cases e
  unfold Nb at h
  split at h
  obtain⟨h0,h⟩:=h;refine fin n1 J ?_ dU h;rw[e1,U];have:¬ c<0:=by omega
  simp[binOp,Op.shift,this]
  obtain⟨h0,h⟩:=h;refine fin n1 J ?_ dU h;rw[e1,U];have:¬ c<0:=by omega
  simp[binOp,Op.shift,this]
  cases hk:qm k I with
  | false=>rw[hk] at h;exact h.elim
  | true =>
   rw[hk] at h;have:=Dv hk;subst this;obtain⟨h0,h⟩:=h;refine fin n1 J ?_ dU h;rw[e1,U];simp[binOp,Op.intDiv,h0]
  cases hk:qm k I with
  | false=>rw[hk] at h;exact h.elim
  | true =>
   rw[hk] at h;have:=Dv hk;subst this;obtain⟨h0,h⟩:=h;refine fin n1 J ?_ dU h;rw[e1,U];simp[binOp,Op.intDiv,h0]
  exact h.elim
 have R:∀ {k I : IntKind} {m c:Int} (mk:Int->PV) (mb:Bool->PV),(∀ v,Rep w Y σ (mk v) (.int k v))->(∀ b,Rep w Y σ (mb b) (.bool b))->a.eval x=.int k m->a.eval y=.int I c ->
   (bif isSpec op then Nb (iK.jd P T) op k m I c (λv=>K v []) else bif qm k I then (bif nN op then K (mk (jS op k m c)) [] else bif wV op then K (mb (xQ op m c)) [] else False) else False)->nY P C o a w σ ps st n id K:=by
  intro k I m c mk mb h1 h2 e1 U h
  cases hs:isSpec op with
  | true=>rw[hs] at h;exact g e1 U h
  | false =>
  rw[hs] at h;simp only[cond_false] at h
  cases hk:qm k I with
  | false=>rw[hk] at h;exact h.elim
  | true =>
   rw[hk] at h;have:=Dv hk;subst this;simp only[cond_true] at h;have n1:∀ cs,a.eval x≠.agg cs:=by rw[e1];intro cs e;cases e
   have J:a.eval x≠.nilIface:=by rw[e1];intro e;cases e
   cases ha:nN op with
   | true =>
    rw[ha] at h;exact fin n1 J (by rw[e1,U];exact Uw ha) (h1 _) h
   | false =>
    rw[ha] at h
    cases hc:wV op with
    | true =>
     rw[hc] at h;exact fin n1 J (by rw[e1,U];exact XX hc) (h2 _) h
    | false=>rw[hc] at h;exact h.elim
 have eqs:∀ {b:Bool},(∀ {v:PV} {cv:Value},(binOp op t (a.eval x) (a.eval y)).run P w=.ok cv w->Rep w Y σ v cv->K v []->nY P C o a w σ ps st n id K) ->
   (binOp .eql t (a.eval x) (a.eval y)).run P w=.ok (.bool b) w->(binOp .neq t (a.eval x) (a.eval y)).run P w=.ok (.bool (!b)) w->eqK (iK.jd P T) op b (λv=>K v [])->nY P C o a w σ ps st n id K:=by
  intro b fin e1 U hh;unfold eqK at hh
  cases h1:zV op with
  | true =>
   rw[h1] at hh;have:op=.eql:=by cases op<;>simp[zV] at h1<;>rfl
   subst this;exact fin e1 bH hh
  | false =>
   rw[h1] at hh
   cases h2:EL op with
   | true =>
    rw[h2] at hh;have:op=.neq:=by cases op<;>simp[EL] at h2<;>rfl
    subst this;exact fin U dB hh
   | false=>rw[h2] at hh;exact hh.elim
 split at h
 rename_i ti agg size z plain kind e;unfold yE at h
 split at h
 exact R (λv=>.int _ v) (λb=>.bool b) (λv=>by simp[Rep]) (λb=>by simp[Rep]) (tq hx) (tq hy) h
 rename_i s1 s2;have e1:=EP hx;have U:=EP hy;have n1:∀ cs,a.eval x≠.agg cs:=by rw[e1];intro cs e;cases e
 have J:a.eval x≠.nilIface:=by rw[e1];intro e;cases e
 cases h1:isAdd op with
 | true =>
  rw[h1] at h;have:op=.add:=by cases op<;>simp[isAdd] at h1<;>rfl
  subst this;obtain⟨hle,h⟩:=h;refine fin n1 J (cv:=.string (s1++s2)) ?_ bH h;rw[e1,U]
  have hb:¬ (((s1.size+s2.size:Nat):Int) > IntKind.i64.max):=by
   have:IntKind.i64.max=9223372036854775807:=by decide
   rw[this];omega
  simp only[binOp,Op.stringOp];rw[if_neg hb];simp
 | false =>
  rw[h1] at h
  cases h2:wV op with
  | true =>
   rw[h2] at h;refine fin n1 J (cv:=.bool (iP op s1 s2)) ?_ dU h;rw[e1,U];cases op<;>simp[wV] at h2<;>simp[binOp,Op.stringOp,iP,bytes_beq]
  | false=>rw[h2] at h;exact h.elim
 rename_i xs ys
 split at h
 rename_i size z ks kind e
 split at h
 rename_i b hb;obtain⟨i,d,h1,h2,h3,h4,h5,h6,h7,h8⟩:=um hT e rfl;simp only at h7 h4
 have hg:P.eqGuardType P.depth t=false:=by
  cases hg:P.eqGuardType P.depth t with
  | true=>rw[hg] at h7;simp at h7
  | false=>rfl
 rw[hg] at h7;simp only[Bool.false_eq_true,if_false] at h7;unfold Rep at hx hy;obtain⟨us,e1,hu⟩:=hx;obtain⟨vs,U,hv⟩:=hy;have hc:=U0 ks xs ys us vs b hb hu hv;have heq:=FP hU 20 t ks h7.symm 10000 ah us vs b hc w;rw[show valOf P t us=.agg us.toArray by simp[valOf,<- h4],show valOf P t vs=.agg vs.toArray by simp[valOf,<- h4]] at heq;refine eqs (b:=b) (λ{v cv} hr hv hK=>nY.quiet H (cv:=cv) ?_ hv hK) ?_ ?_ h
 rw[e1,U] at hr;simp[execOp,ho,e1,U,run_eqGuard_agg w op t x y us.toArray vs.toArray hg,hr]
 rw[e1,U,run_eql_struct,heq];rfl
 rw[e1,U,run_neq_struct,heq];rfl
 exact h.elim
 exact h.elim
 split at h
 rename_i k m I c h1 h2;exact R (λv=>.si _ v) (λb=>.sb b) (λv=>by simp[Rep]) (λb=>by simp[Rep]) (nR hx h1) (nR hy h2) h
 split at h
 rename_i b c h1 h2;have e1:=KG hx h1;have U:=KG hy h2;have n1:∀ cs,a.eval x≠.agg cs:=by rw[e1];intro cs e;cases e
 have J:a.eval x≠.nilIface:=by rw[e1];intro e;cases e
 split at h
 rename_i size2 z2 kind2 e3;obtain⟨i,d,g1,g2,g3,g4,g5,g6,g7,g8⟩:=um hT e3 rfl;simp only at g7 g4
 have hg:P.eqGuardType P.depth t=false:=by
  cases hg:P.eqGuardType P.depth t with
  | true=>rw[hg] at g7;simp at g7
  | false=>rfl
 rw[hg] at g7;simp only[Bool.false_eq_true,if_false] at g7;have hu:=Zw g7.symm g4.symm;obtain⟨r1,r2⟩:=adz (P:=P) (w:=w) (b:=b) (c:=c) hu;exact eqs (b:=b==c) (λ{v cv} hr hv hK=>fin n1 J hr hv hK) (by rw[e1,U];exact r1) (by rw[e1,U];exact r2) h
 exact h.elim
 split at h
 rename_i agg2 size2 z2 plain2 e3;obtain⟨e,hu⟩:=afI hT e3
 have VJ:∀ (r:PV) (v:Value),og r=true->Rep w Y σ r v->v=.pointer none:=by
  intro r v h1 h2;cases r<;>simp[og] at h1;unfold Rep at h2;exact h2
 have ptrq:∀ (r:PV) (v:Value),yI r=true->Rep w Y σ r v->∃ x,v=.pointer (some x):=by
  intro r v h1 h2;cases r<;>simp[yI] at h1<;>unfold Rep at h2
  obtain⟨_,_,e⟩:=h2;exact⟨_,e⟩
  obtain⟨_,_,e⟩:=h2;exact⟨_,e⟩
  obtain⟨_,_,e,_⟩:=h2;exact⟨_,e⟩
  exact⟨_,h2⟩
 have go:∀ (p' q' : Option Addr) (b:Bool),a.eval x=.pointer p'->a.eval y=.pointer q'->(p'=none\/q'=none)->(p'.isNone&&q'.isNone)=b->eqL op b (λv=>K v [])->nY P C o a w σ ps st n id K:=by
  intro p' q' b e1 U hn hb hh;have n1:∀ cs,a.eval x≠.agg cs:=by rw[e1];intro cs e;cases e
  have J:a.eval x≠.nilIface:=by rw[e1];intro e;cases e
  obtain⟨r1,r2⟩:=afN (P:=P) (w:=w) hu hn;rw[hb] at r1 r2;clear h;unfold eqL at hh
  cases g1:zV op with
  | true =>
   rw[g1] at hh;have:op=.eql:=by cases op<;>simp[zV] at g1<;>rfl
   subst this;exact fin n1 J (by rw[e1,U];exact r1) bH hh
  | false =>
   rw[g1] at hh
   cases g2:EL op with
   | true =>
    rw[g2] at hh;have:op=.neq:=by cases op<;>simp[EL] at g2<;>rfl
    subst this
    cases b with
    | true=>exact fin n1 J (by rw[e1,U];exact r2) bH hh
    | false=>exact fin n1 J (by rw[e1,U];exact r2) bH hh
   | false=>rw[g2] at hh;exact hh.elim
 cases c1:(og p&&og q) with
 | true =>
  rw[c1] at h;rw[Bool.and_eq_true] at c1;exact go none none true (VJ _ _ c1.1 hx) (VJ _ _ c1.2 hy) (.inl rfl) rfl h
 | false =>
  rw[c1] at h;simp only[cond_false] at h
  cases c2:((og p&&yI q) || (yI p&&og q)) with
  | true =>
   rw[c2] at h;rw[Bool.or_eq_true,Bool.and_eq_true,Bool.and_eq_true] at c2;rcases c2 with ⟨d1,d2⟩|⟨d1,d2⟩
   obtain⟨z,ez⟩:=ptrq _ _ d2 hy;exact go none (some z) false (VJ _ _ d1 hx) ez (.inl rfl) rfl h
   obtain⟨z,ez⟩:=ptrq _ _ d1 hx;exact go (some z) none false ez (VJ _ _ d2 hy) (.inr rfl) rfl h
  | false=>rw[c2] at h;exact h.elim
 exact h.elim
 exact h.elim
end
end Go.Pv
namespace Go.Pv
open Go
theorem Ny {w:World}{Y:Nat->Prop}{σ:Sg}(place:Nat->Option (Nat×Nat)):∀ (parts:List (Nat×PV)) (T:List (Nat×Value)) (cells:List PV) (U:Array Value) (cs:List PV),
  (parts.length=T.length/\∀ (i:Nat) (p:Nat×PV) (v:Nat×Value),parts[i]?=some p->T[i]?=some v->p.1=v.1/\Rep w Y σ p.2 v.2) ->
  gB w Y σ cells U.toList->Cm place cells parts=some cs->(∀ p∈parts,p.2≠.top)->∃ vcs:Array Value,Instr.fill place U T=some vcs/\gB w Y σ cs vcs.toList
 | [],T,cells,U,cs,hp,hc,h,_=>by
  have:T=[]:=by have:=hp.1;simp at this;exact List.eq_nil_of_length_eq_zero this.symm
  subst this;simp[Cm] at h;subst h;exact⟨U,rfl,hc⟩
 | (i,p)::parts,[],cells,U,cs,hp,hc,h,_=>by simp at hp
 | (i,p)::parts,(j,v)::T,cells,U,cs,hp,hc,h,hnt=>by
  obtain⟨hl,hp⟩:=hp;have h0:=hp 0 _ _ rfl rfl;simp only at h0;obtain⟨rfl,hrep⟩:=h0;simp only[Cm] at h;simp only[Instr.fill]
  split at h
  cases h
  rename_i off size I;rw[I];simp only
  cases hb:(Nat.beq (lG (jM p)) size&&Nat.ble (off+size) (lG cells)) with
  | false=>rw[hb] at h;cases h
  | true =>
   rw[hb] at h;simp only[cond_true] at h;simp only[Bool.and_eq_true,kX] at hb;have h1:=Nat.eq_of_beq_eq_true hb.1;have h2:=Nat.le_of_ble_eq_true hb.2;have J:=RU hrep (hnt (i,p) aB);have hlen:=J.length;have hlen2:=hc.length;rw[Array.length_toList] at hlen hlen2
   have R:¬ (v.cells.size≠size || decide (off+v.cells.size > U.size))=true:=by
    simp;omega
   rw[if_neg R]
   have key:∀ (ps:List PV) (us:List Value) (k:Nat) (cells:List PV) (U:Array Value),gB w Y σ ps us->gB w Y σ cells U.toList ->
     gB w Y σ (jZ cells (off+k) ps) ((us.zipIdx k).foldl (λcs (x:Value×Nat)=>cs.setIfInBounds (off+x.2) x.1) U).toList:=by
    intro ps
    induction ps with
    | nil =>
     intro us k cells U h1 h2;unfold gB at h1;subst h1;have:jZ cells (off+k) []=cells:=by cases cells<;>simp[jZ]
     rw[this];simpa using h2
    | cons q ps ih =>
     intro us k cells U h1 h2;unfold gB at h1;obtain⟨u,C,rfl,h1,h3⟩:=h1
     have:=ih C (k+1) (qU cells (off+k) q) (U.setIfInBounds (off+k) u) h3 (by
      rw[Array.toList_setIfInBounds];exact gB.set h1 _ _ _ h2)
     have e:jZ cells (off+k) (q::ps)=jZ (qU cells (off+k) q) (off+(k+1)) ps:=by cases cells<;>rfl
     rw[e]
     simpa using this
   refine Ny place parts T _ _ cs ⟨by simpa using hl,λn p' g e1 e2=>hp (n+1) p' g (by simpa using e1) (by simpa using e2)⟩ ?_ h (λp hp=>hnt p (by simp[hp]));have:=key (jM p) v.cells.toList 0 cells U J hc
   have e:v.cells.zipIdx.foldl (λcs (x:Value×Nat)=>cs.setIfInBounds (off+x.2) x.1) U=(v.cells.toList.zipIdx 0).foldl (λcs (x:Value×Nat)=>cs.setIfInBounds (off+x.2) x.1) U:=by
    rw[<- Array.foldl_toList,Array.toList_zipIdx]
   simp only[Nat.add_zero] at this;rw[<- e] at this;exact this
theorem RX {T:Tab}{C:Ctx T}{w:World}{Y:Nat->Prop}{σ:Sg}{ps:List PV}{a:Act}{st:St}{n:Nat}(h:SW C w Y σ ps a.tmps.toList st n):∀ (l:List (Nat×Operand)),
  (evP T ps l).length=(l.map λx=>(x.1,a.eval x.2)).length/\∀ (i:Nat) (p:Nat×PV) (v:Nat×Value),(evP T ps l)[i]?=some p->(l.map λx=>(x.1,a.eval x.2))[i]?=some v->p.1=v.1/\Rep w Y σ p.2 v.2
 | []=>by simp[evP]
 | (j,x)::l=>by
  obtain⟨h1,h2⟩:=RX h l;refine⟨by simp[evP,h1],λi p v e1 U=>?_⟩
  cases i with
  | zero=>simp[evP] at e1 U;subst e1;subst U;exact⟨rfl,jw h x⟩
  | succ i=>simp[evP] at e1 U;exact h2 i p v e1 (by simpa using U)
theorem H9:∀ l,xZ l=true->∀ p∈l,p.2≠PV.top
 | [],_,p,hp=>by simp at hp
 | (i,q)::l,h,p,hp=>by
  have hq:q≠.top:=by intro e;subst e;simp[xZ] at h
  have hl:xZ l=true:=by cases q<;>simp_all[xZ]
  rcases List.mem_cons.1 hp with rfl|hp
  exact hq
  exact H9 l hl p hp
end Go.Pv
namespace Go.Pv
open Go
theorem L6:∀ (δ:Dl) (st:St) (e:Nat×Option jq),iW (δ++[e]) st=nI (iW δ st) e.1 e.2
 | [],_,_=>rfl
 | d::δ,st,e=>by simp only[List.cons_append,iW];exact L6 δ _ e
theorem ab9 (δ:Dl)(e:Nat×Option jq)(n id:Nat):ql (δ++[e]) n id=max n (id+1):=by cases δ<;>rfl
theorem vK:∀ (n:Nat) (l:List PV),(Jb n l).length=n*l.length
 | 0,l=>by simp[Jb]
 | n+1,l=>by simp[Jb,vK n l,Nat.add_mul];omega
theorem XY:∀ (n:Nat) (l:List PV) (i:Nat),i<n*l.length->(Jb n l)[i]?=l[i % l.length]?
 | 0,l,i,h=>by simp at h
 | n+1,l,i,h=>by
  simp only[Jb,KF]
  by_cases h1:i<l.length
  rw[List.getElem?_append_left h1,Nat.mod_eq_of_lt h1]
  rw[List.getElem?_append_right ah,XY n l (i-l.length) (by rw[Nat.add_mul] at h;omega)]
  congr 1
  rw[Nat.mod_eq_sub_mod (by omega:i ≥ l.length)]
theorem wX (sz:Nat):∀ (n:Nat) (l:List PV),(chunks sz n l).length=n
 | 0,_=>rfl
 | n+1,l=>by simp[chunks,wX sz n]
theorem jc.chunks {w:World}{Y:Nat->Prop}{σ:Sg}{b sz:Nat}:∀ (n:Nat) (l:List PV) (o:Nat),jc w Y σ b l o->iE l=true->n*sz<=l.length->jh w Y σ b sz (chunks sz n l) o
 | 0,l,o,_,_,_=>by simp[Pv.chunks,jh]
 | n+1,l,o,h,ha,hle=>by
  rw[Nat.add_mul] at hle;simp only[Pv.chunks,Gg,su];unfold jh;refine⟨⟨by simp;omega,?_⟩,h.take sz _ _,jc.chunks n _ _ (h.drop sz _ _) ?_ bM⟩
  rw[qi] at ha |-;exact λp hp=>ha p (List.mem_of_mem_take hp)
  rw[qi] at ha |-;exact λp hp=>ha p (List.mem_of_mem_drop hp)
theorem KJ (place:Nat->Option (Nat×Nat)):∀ (parts:List (Nat×PV)) (cells cs:List PV),Cm place cells parts=some cs->cs.length=cells.length
 | [],cells,cs,h=>by simp[Cm] at h;rw[h]
 | (i,v)::parts,cells,cs,h=>by
  simp only[Cm] at h
  split at h
  cases h
  rename_i off size _
  cases hb:(Nat.beq (lG (jM v)) size&&Nat.ble (off+size) (lG cells)) with
  | false=>rw[hb] at h;cases h
  | true =>
   rw[hb] at h;rw[KJ place parts _ cs h,tu]
theorem V3 {S:iK}{lk:Nat->Option jq}:∀ (ps U : List PV) (δ:Dl),FM S lk ps=some (U,δ)->U.length=ps.length
 | [],U,δ,h=>by simp[FM] at h;simp[<- h.1]
 | p::ps,U,δ,h=>by
  unfold FM at h
  cases hp:FM S lk ps with
  | none=>rw[hp] at h;cases h
  | some r =>
   obtain⟨qs,d⟩:=r;rw[hp] at h;simp only at h;have T:=V3 ps qs d hp
   split at h
   split at h
   cases h;simp[T]
   cases h
   all_goals first
    | (cases h;done)
    | (cases h;simp[T])
theorem Nz {S:iK}{lk:Nat->Option jq}(ps U : List PV)(δ:Dl)(h:FM S lk ps=some (U,δ)):iE U=true/\iE ps=true:=KI ps U δ h
section
variable {P:Program}{T:Tab}(hT:jg P T){C:Ctx T}{o:Oper}{a:Act}{w:World}{Y:Nat->Prop}{σ:Sg}{ps:List PV}{st:St}{n id:Nat}{K:PV->Dl->Prop}{lk:Nat->Option jq}
 (H:SW C w Y σ ps a.tmps.toList st n) (hlk:∀ b x,lk b=some x->iO st b=some x) (hid:σ id=none/\T.qJ<=id) (hU:Lr P)
include hT H in
theorem adB {t:TypeId}{parts:Array (Nat×Operand)}(ho:o.op=.build t parts)(hall:∀ fs:Array Field,P.underlying t=some (.struct fs)->∀ f∈fs.toList,P.info? f.type≠none)
  (helem:∀ k e,P.underlying t=some (.array k e)->P.info? e≠none) (h:jU T (iK.jd P T) (.build t parts) ps lk id K):nY P C o a w σ ps st n id K:=by
 have hp:=RX H parts.toList;have J:(parts.map λ(x:Nat×Operand)=>(x.1,a.eval x.2)).toList=parts.toList.map λx=>(x.1,a.eval x.2):=by simp
 simp only[jU] at h
 split at h
 rename_i agg size z plain fs e;obtain⟨fl,hu,rfl,hz⟩:=LY hT e;obtain⟨zv,hzr,R⟩:=DX hz.symm
 cases hb:xZ (evP T ps parts.toList) with
 | false=>rw[hb] at h;exact h.elim
 | true =>
  rw[hb] at h;simp only[cond_true] at h
  split at h
  rename_i cs O;have hinf:=hall fl hu
  have places:(fl.mapM λf=>(do pure (f.offset,<- sizeOf f.type):Sem (Nat×Nat))).run P w=.ok (fl.map λf=>(f.offset,P.cellsOf f.type)) w:=by
   have key:∀ (l:List Field),(∀ f∈l,P.info? f.type≠none)->(l.mapM λf=>(do pure (f.offset,<- sizeOf f.type):Sem (Nat×Nat))).run P w=.ok (l.map λf=>(f.offset,P.cellsOf f.type)) w:=by
    intro l
    induction l with
    | nil=>intro _;simp
    | cons f l ih =>
     intro hl;rw[List.mapM_cons];simp only[Sem.run_bind,run_sizeOf (hl f aB),Result.andThen,Sem.run_pure,ih (λg hg=>hl g (by simp[hg]))];simp
   rw[Array.mapM_eq_mapM_toList];simp only[Sem.run_bind,map_eq_pure_bind];rw[key fl.toList hinf];simp only[Result.andThen,Sem.run_pure]
   congr 1
   apply Array.ext';simp
  obtain⟨vcs,U,hrep⟩:=Ny (w:=w) (Y:=Y) (σ:=σ) _ (evP T ps parts.toList) (parts.toList.map λx=>(x.1,a.eval x.2)) z zv.cells cs hp (R w Y σ) O (H9 _ hb)
  have I:Jg (fl.toList.map λf=>({ off:=f.offset,size:=P.cellsOf f.type,agg:=jW P f.type }:FI))=((fl.map λf=>(f.offset,P.cellsOf f.type))[·]?):=by
   funext i
   unfold Jg;rw[HY,List.getElem?_map,Array.getElem?_map,<- Array.getElem?_toList];cases fl.toList[i]?<;>rfl
  rw[I] at U;refine nY.quiet H (cv:=.agg vcs) ?_ (by unfold Rep;exact⟨vcs.toList,by simp,hrep⟩) h;simp only[execOp,ho,Instr.build,Sem.run_bind,hzr,Result.andThen,jA hu,places,J,U];simp
  exact h.elim
 rename_i agg size z plain k esz ag e;obtain⟨et,hu,rfl,_,hz⟩:=Nr hT e;obtain⟨zv,hzr,R⟩:=DX hz.symm
 cases hb:xZ (evP T ps parts.toList) with
 | false=>rw[hb] at h;exact h.elim
 | true =>
  rw[hb] at h;simp only[cond_true] at h
  split at h
  rename_i cs O;obtain⟨vcs,U,hrep⟩:=Ny (w:=w) (Y:=Y) (σ:=σ) _ (evP T ps parts.toList) (parts.toList.map λx=>(x.1,a.eval x.2)) z zv.cells cs hp (R w Y σ) O (H9 _ hb);refine nY.quiet H (cv:=.agg vcs) ?_ (by unfold Rep;exact⟨vcs.toList,by simp,hrep⟩) h;simp only[execOp,ho,Instr.build,Sem.run_bind,hzr,Result.andThen,jA hu,run_sizeOf (helem _ _ hu),J,U];simp
  exact h.elim
 exact h.elim
theorem SW.V4 (H:SW C w Y σ ps a.tmps.toList st n)(hid:σ id=none/\T.qJ<=id){arr:Array Value}{rows:List (List PV)}{sz m:Nat}{x:jq}(hx:x=.arr false sz rows\/(x=.kH sz rows/\∀ (r:Nat) (row:List PV) (c:Nat) (h:Hdr) (sz' : Nat) (es:List (List PV)),rows[r]?=some row->row[c]?=some (PV.ow h sz' es)->es=[]))
  (ty:TypeId) (J:0<sz) (hm:rows.length<=m/\m<=9223372036854775807) (R:arr.size=m*sz)
  (U:∀ (w' : World) (Y' : Nat->Prop),(∀ p v,Rep w Y iQ p v->Rep w' Y' iQ p v)->w'.heap[w.heap.size]?=some (.cells arr ty (0,0))->jh w' Y' iQ w.heap.size sz rows 0) :
  ∃ Y' σ',SW C (w.alloc (.cells arr ty)) Y' σ' ps a.tmps.toList (nI st id (some x)) (max n (id+1))/\Rep (w.alloc (.cells arr ty)) Y' σ' (.os id 0 rows.length) (.slice (some ⟨w.heap.size,0,none⟩) rows.length m)/\Off id σ σ':=by
 obtain⟨Y',σ',H',hs,_,_,I⟩:=H.alloc hid arr ty ⟨w.heap.size,0,sz,m*sz,rows.length⟩ rfl x (λsz1 g e=>by
  rcases hx with hx|⟨hx,hno⟩
  rw[hx] at e;cases e
  rw[hx] at e;cases e;exact hno) (by
  intro w' Y' σ' _ hY hb hk;have:=Nat.mul_le_mul_right sz hm.1;rcases hx with hx|⟨hx,_⟩<;>subst hx<;>unfold gJ
  exact⟨⟨_,ty,hb,R⟩,rfl,J,⟨by simpa using this,rfl⟩,U w' Y' hk hb,λ_=>hY,λh=>by cases h⟩
  exact⟨⟨_,ty,hb,R⟩,rfl,J,⟨by simpa using this,rfl⟩,U w' Y' hk hb,hY⟩)
 refine⟨Y',σ',H',?_,I⟩;unfold Rep;refine .inl ⟨_,m,hs,by simp,hm,by simp,by simp⟩
theorem SW.V5 (H:SW C w Y σ ps a.tmps.toList st n)(hid:σ id=none/\T.qJ<=id){arr:Array Value}{rows:List (List PV)}{sz m:Nat}(ty:TypeId)(J:0<sz)(I:rows.length<=m/\m<=9223372036854775807)(R:arr.size=m*sz)
  (U:∀ (w' : World) (Y' : Nat->Prop),(∀ p v,Rep w Y iQ p v->Rep w' Y' iQ p v)->w'.heap[w.heap.size]?=some (.cells arr ty (0,0))->jh w' Y' iQ w.heap.size sz rows 0) :
  ∃ Y' σ',SW C (w.alloc (.cells arr ty)) Y' σ' ps a.tmps.toList (nI st id (some (.arr false sz rows))) (max n (id+1))/\Rep (w.alloc (.cells arr ty)) Y' σ' (.os id 0 rows.length) (.slice (some ⟨w.heap.size,0,none⟩) rows.length m)/\Off id σ σ' :=
 SW.V4 H hid (.inl rfl) ty J I R U
include hT H in
theorem uq {t:TypeId}{len:Nat}{parts:Array (Nat×Operand)}{z cs:List PV}{et:TypeId}(ho:o.op=.buildSlice t len parts)
  (hu:P.underlying t=some (.slice et)) (hz:some z=EM P et) (hb1:jo (P.cellsOf et)=true) (I:z.length=P.cellsOf et) (hle:len*P.cellsOf et<=16777216) (hb4:xZ (evP T ps parts.toList)=true)
  (O:Cm (λi=>some (i*P.cellsOf et,P.cellsOf et)) (Jb len z) (evP T ps parts.toList)=some cs) :
  ∃ vcs:Array Value,gB w Y σ cs vcs.toList/\vcs.size=len*P.cellsOf et/\(execOp a.eval o).run P w=.ok (.value (.slice (some ⟨w.heap.size,0,none⟩) len len)) (w.alloc (.cells vcs et)):=by
 have hp:=RX H parts.toList;have R:(parts.map λ(x:Nat×Operand)=>(x.1,a.eval x.2)).toList=parts.toList.map λx=>(x.1,a.eval x.2):=by simp
 obtain⟨zv,hzr,hzrep⟩:=DX hz.symm;have hinf:=jD hb1
 have hpos:0<P.cellsOf et:=by
  rcases Nat.eq_zero_or_pos (P.cellsOf et) with h0|h0
  rw[h0] at hb1;simp[jo] at hb1
  exact h0
 let J:Array Value:=if len*P.cellsOf et=0 then #[] else zv.cells
 have hz0:=hzrep w Y σ;have g:zv.cells.size=P.cellsOf et:=by have:=hz0.length;rw[Array.length_toList] at this;omega
 have hvz:(if len*P.cellsOf et=0 then pure #[] else do pure (<- zeroValue et).cells:Sem (Array Value)).run P w=.ok J w:=by
  by_cases h0:len*P.cellsOf et=0
  simp[h0,J]
  simp only[h0,if_false,Sem.run_bind,hzr,Result.andThen,Sem.run_pure,J]
 have C:gB w Y σ (Jb len z) ((Array.range (len*P.cellsOf et)).map (J[· % J.size]!)).toList:=by
  by_cases h0:len*P.cellsOf et=0
  have:len=0:=by
   rcases Nat.mul_eq_zero.1 h0 with h|h
   exact h
   omega
  subst this;simp[Jb,gB]
  have hvz' : J=zv.cells:=by simp[J,h0]
  rw[hvz']
  have key:∀ (ps:List PV) (vs:List Value),ps.length=vs.length->(∀ (i:Nat) (p:PV) (v:Value),ps[i]?=some p->vs[i]?=some v->Rep w Y σ p v)->gB w Y σ ps vs:=by
   intro ps
   induction ps with
   | nil=>intro vs hl _;have:vs=[]:=List.eq_nil_of_length_eq_zero (by simpa using hl.symm);subst this;simp[gB]
   | cons p ps ih =>
    intro vs hl hh
    cases vs with
    | nil=>simp at hl
    | cons v vs=>unfold gB;exact⟨v,vs,rfl,hh 0 p v rfl rfl,ih vs (by simpa using hl) (λi p' v' h1 h2=>hh (i+1) p' v' eF eG)⟩
  refine key _ _ (by rw[vK];simp[I]) ?_;intro i p v h1 h2
  have hi:i<len*z.length:=by
   have:i<(Jb len z).length:=by
    by_cases hh:i<(Jb len z).length
    exact hh
    rw[List.getElem?_eq_none (Nat.le_of_not_lt hh)] at h1;cases h1
   rwa [vK] at this
  rw[XY len z i hi] at h1;have hmod:i % z.length<zv.cells.size:=by rw[g,<- I];exact Nat.mod_lt _ ah
  obtain⟨u,hu1,hu2⟩:=hz0.get? h1
  have:v=u:=by
   simp at h2;obtain⟨i',hi',h2⟩:=h2
   have:i'=i:=by
    rw[List.getElem?_range (by rw[<- I];exact hi)] at hi';exact (Option.some.inj hi').symm
   subst this;rw[<- h2];rw[Array.getElem?_toList] at hu1;rw[g,<- I];simp[getElem!_def,hu1]
  rw[this];exact hu2
 obtain⟨vcs,U,hrep⟩:=Ny (w:=w) (Y:=Y) (σ:=σ) _ (evP T ps parts.toList) (parts.toList.map λx=>(x.1,a.eval x.2)) (Jb len z) _ cs hp C O (H9 _ hb4)
 have hvl:vcs.size=len*P.cellsOf et:=by
  have:=hrep.length;rw[Array.length_toList,KJ _ _ _ _ O,vK,I] at this;omega
 refine⟨vcs,hrep,hvl,?_⟩;simp only[execOp,ho,Instr.buildSlice,Sem.run_bind,jA hu,Result.andThen,run_sizeOf hinf];rw[if_neg ah]
 by_cases h0:len*P.cellsOf et=0
 have hv0:J=#[]:=by simp[J,h0]
 rw[hv0] at U;simp only[h0,if_true,Sem.run_bind,Sem.run_pure,Result.andThen,R] at U |-;rw[U];simp[newRow,newObj,Sem.run,Result.andThen]
 have hv0:J=zv.cells:=by simp[J,h0]
 rw[hv0] at U;simp only[h0,if_false,Sem.run_bind,hzr,Sem.run_pure,Result.andThen,R] at U |-;rw[U];simp[newRow,newObj,Sem.run,Result.andThen]
include hT H hlk hid in
theorem Ux {t:TypeId}{len:Nat}{parts:Array (Nat×Operand)}(ho:o.op=.buildSlice t len parts)(h:jU T (iK.jd P T) (.buildSlice t len parts) ps lk id K):nY P C o a w σ ps st n id K:=by
 simp only[jU] at h
 split at h
 rename_i agg size z0 plain esz bytes z e;obtain⟨et,hu,rfl,_,hz⟩:=ku hT e
 cases hb:(jo (P.cellsOf et)&&Nat.beq (lG z) (P.cellsOf et)&&Nat.ble (len*P.cellsOf et) 16777216&&xZ (evP T ps parts.toList)) with
 | false=>rw[hb] at h;exact h.elim
 | true =>
  rw[hb] at h;simp only[cond_true] at h;simp only[Bool.and_eq_true,kX] at hb;obtain⟨⟨⟨J,hb2⟩,hb3⟩,hb4⟩:=hb;have hinf:=jD J
  have g:0<P.cellsOf et:=by
   rcases Nat.eq_zero_or_pos (P.cellsOf et) with h0|h0
   rw[h0] at J;simp[jo] at J
   exact h0
  have hzl:=Nat.eq_of_beq_eq_true hb2;have hle:=Nat.le_of_ble_eq_true hb3
  split at h
  rename_i cs O
  split at h
  rename_i cs0 δ U;obtain⟨I,hl2,hc2,hw2,h,_⟩:=yL h;obtain⟨vcs,hrep,hvl,hrun⟩:=uq hT H ho hu hz J hzl hle hb4 O;have hLk:Lk lk st:=λb ro sz rows h=>⟨ro,hlk _ _ h⟩
  obtain⟨Y1,H1,hr1,hy1⟩:=Dw cs cs0 δ U Y st H hLk _ hrep;have hr1:=hw2 _ _ _ _ hr1;have hcsl:I.length=len*P.cellsOf et:=by rw[hl2,V3 _ _ _ U,KJ _ _ _ _ O,vK,hzl]
  have hch:(chunks (P.cellsOf et) len I).length=len:=wX _ _ _
  obtain⟨Y2,σ2,H2,R,hoff⟩:=SW.V5 (a:=a) (m:=len) (arr:=vcs) (rows:=chunks (P.cellsOf et) len I) H1 hid et g ⟨by omega,Nat.le_trans (Nat.le_mul_of_pos_right len g) (Nat.le_trans hle bU)⟩ hvl (by
   intro w' Y' hk hb;refine jc.chunks len I 0 ?_ (hc2 (Nz _ _ _ U).1) ah;rw[jc.iff];intro i p hi;obtain⟨v,hv,hp'⟩:=hr1.get? hi;exact⟨v,by rw[cell_of_block hb];simpa using hv,hk _ _ hp'⟩)
  rw[hch] at R;refine⟨_,_,_,_,Y2,σ2,h,.inl ?_,by rw[L6,ab9];exact H2,R,hoff⟩;exact hrun
  exact h.elim
  exact h.elim
 exact h.elim
end
end Go.Pv
namespace Go.Pv
open Go
section
variable {P:Program}{T:Tab}(hT:jg P T){C:Ctx T}{o:Oper}{a:Act}{w:World}{Y:Nat->Prop}{σ:Sg}{ps:List PV}{st:St}{n id:Nat}{K:PV->Dl->Prop}{lk:Nat->Option jq}
 (H:SW C w Y σ ps a.tmps.toList st n) (hlk:∀ b x,lk b=some x->iO st b=some x) (hid:σ id=none/\T.qJ<=id) (hU:Lr P)
theorem gB.CU {w:World}{Y:Nat->Prop}{σ:Sg}:∀ (ps:List PV) (vs:List Value),ps.length=vs.length->(∀ (i:Nat) (p:PV) (v:Value),ps[i]?=some p->vs[i]?=some v->Rep w Y σ p v)->gB w Y σ ps vs
 | [],vs,hl,_=>by have:vs=[]:=List.eq_nil_of_length_eq_zero (by simpa using hl.symm);subst this;simp[gB]
 | p::ps,[],hl,_=>by simp at hl
 | p::ps,v::vs,hl,hh=>by
  unfold gB;exact⟨v,vs,rfl,hh 0 p v rfl rfl,gB.CU ps vs (by simpa using hl) (λi T U h1 h2=>hh (i+1) T U eF eG)⟩
theorem CV {P:Program}{w:World}{t:TypeId}{i:TypeInfo}(h:P.info? t=some i):(typeInfo t).run P w=.ok i w:=by
 simp[typeInfo,program,Sem.run,Result.andThen,h]
theorem L8 {P:Program}{t:TypeId}{i:TypeInfo}(h:P.info? t=some i):P.bytesOf t=i.bytes:=by simp[Program.bytesOf,h]
theorem wrap_i64 {m:Int}(h0:0<=m)(h1:m<=9223372036854775807):IntKind.i64.wrap m=m:=by
 have e1:IntKind.i64.bits=64:=rfl;have U:IntKind.i64.signed=true:=rfl;unfold IntKind.wrap;rw[e1,U];have h2:m % (2:Int) ^ 64=m:=Int.emod_eq_of_lt h0 ah;simp only[h2,Bool.true_and];rw[if_neg];simp;omega
theorem NC:∀ (vs:List Value) (h:Hdr) (sz:Nat) (U:List (List PV)),PV.ow h sz U ∉ CG vs
 | [],_,_,_=>by simp[CG]
 | v::vs,h,sz,U=>by
  simp only[CG,List.mem_cons,not_or];refine⟨?_,NC vs h sz U⟩;unfold Ht
  split<;>simp
theorem aca {P:Program}{e:TypeId}{z:List PV}(U:EM P e=some z)(h:Hdr)(sz:Nat)(T:List (List PV)):PV.ow h sz T ∉ z:=by
 unfold EM at U
 split at U
 split at U
 rename_i R _;cases U;unfold Rl
 split
 exact NC _ _ _ _
 unfold Ht
 split<;>simp[jM]
 cases U
 cases U
theorem Zx {P:Program}{T:Tab}{e:TypeId}{z z2:List PV}{sz j:Nat}(C:EM P e=some z)(hn:∀ n,T.kH=n+1->Qe z=true->z2=owZ n z):ac2 T.kH sz z ((iK.jd P T).rep j z2)=.arr false sz ((iK.jd P T).rep j z2)\/(ac2 T.kH sz z ((iK.jd P T).rep j z2)=.kH sz ((iK.jd P T).rep j z2) /\
  ∀ (r:Nat) (row:List PV) (c:Nat) (h:Hdr) (J : Nat) (R:List (List PV)),((iK.jd P T).rep j z2)[r]?=some row->row[c]?=some (PV.ow h J R)->R=[]):=by
 unfold ac2
 cases U:T.kH with
 | zero=>exact .inl rfl
 | succ n =>
  cases hs:Qe z with
  | false=>exact .inl rfl
  | true =>
   obtain rfl:=hn n U hs;refine .inr ⟨rfl,λr row c h J R hr I=>?_⟩
   have:row=owZ n z:=by
    have hr:(List.replicate j (owZ n z))[r]?=some row:=hr;rw[List.getElem?_replicate] at hr
    split at hr
    cases hr;rfl
    cases hr
   subst this;exact UY (λh sz R=>aca C h sz R) c I
include hT H hid in
theorem V6 {t:TypeId}{x y:Operand}(ho:o.op=.makeSlice t x y)(h:jU T (iK.jd P T) (.makeSlice t x y) ps lk id K):nY P C o a w σ ps st n id K:=by
 have hx:=jw H x;have hy:=jw H y;simp only[jU] at h
 split at h
 ·rename_i agg size z0 plain esz bytes z k1 m1 k2 m2 e hxe hye;obtain⟨et,hu,rfl,rfl,hz⟩:=ku hT e;obtain⟨zv,hzr,R⟩:=DX hz.symm;have hxv:=nR hx hxe;have hyv:=nR hy hye
  cases hb:(jo (P.cellsOf et)&&Nat.beq (lG z) (P.cellsOf et)&&iE z) with
  | false=>rw[hb] at h;exact h.elim
  | true =>
   rw[hb] at h;simp only[cond_true] at h;simp only[Bool.and_eq_true,kX] at hb;have hbz:=hb.2;have hb:=hb.1;have hinf:=jD hb.1
   have hpos:0<P.cellsOf et:=by
    rcases Nat.eq_zero_or_pos (P.cellsOf et) with h0|h0
    have:=hb.1;rw[h0] at this;simp[jo] at this
    exact h0
   have hzl:=Nat.eq_of_beq_eq_true hb.2;obtain⟨j,rfl,hle,hby,hmax,h⟩:=h;obtain⟨z2,hl2,hc2,hw2,h,hn2,_⟩:=aa3 h;have U:∀ w Y σ,gB w Y σ z2 zv.cells.toList:=λw Y σ=>hw2 _ _ _ _ (R w Y σ);obtain⟨m,rfl⟩:∃ m:Nat,m2=(m:Int):=⟨m2.toNat,by omega⟩
   cases hi:P.info? et with
   | none=>exact absurd hi hinf
   | some inf =>
   have hbe:=L8 hi;rw[hbe] at hby;have hz0:=R w Y σ;have hzsz:zv.cells.size=P.cellsOf et:=by have:=hz0.length;rw[Array.length_toList] at this;omega
   let arr:Array Value:=(Array.range (m*P.cellsOf et)).map (zv.cells[· % zv.cells.size]!)
   have harr:arr.size=m*P.cellsOf et:=by simp[arr]
   have J:((iK.jd P T).rep j z2).length=j:=by simp[iK.jd]
   obtain⟨Y2,σ2,H2,I,hoff⟩:=SW.V4 (a:=a) (m:=m) (arr:=arr) (rows:=(iK.jd P T).rep j z2) (x:=ac2 T.kH (P.cellsOf et) z ((iK.jd P T).rep j z2)) H hid (Zx hz.symm hn2) et hpos ⟨by rw[J];omega,by omega⟩ harr (by
    intro w' Y' hk hbl;rw[jh.iff];intro i r hr
    have hr' : r=z2/\i<j:=by
     have:(iK.jd P T).rep j z2=List.replicate j z2:=rfl;rw[this,List.getElem?_replicate] at hr
     split at hr
     cases hr;exact⟨rfl,‹_›⟩
     cases hr
    obtain⟨rfl,hij⟩:=hr';refine⟨⟨hl2.trans hzl,hc2 hbz⟩,?_⟩;rw[jc.iff];intro c p hc;obtain⟨v,hv,_⟩:=(U w Y iQ).get? hc;have g:=(U w Y iQ).get? hc;obtain⟨v,hv,g⟩:=g;refine⟨v,?_,hk _ _ g⟩;rw[cell_of_block hbl]
    have hcl:c<P.cellsOf et:=by
     rw[<- hzl,<- hl2]
     by_cases hh:c<r.length
     exact hh
     rw[List.getElem?_eq_none (Nat.le_of_not_lt hh)] at hc;cases hc
    have hlt:0+i*P.cellsOf et+c<m*P.cellsOf et:=by
     have:=Nat.mul_le_mul_right (P.cellsOf et) (show i+1<=m by omega);rw[Nat.add_mul] at this;omega
    simp only[arr];rw[Array.getElem?_map,Array.getElem?_range,if_pos hlt];simp only[Option.map_some]
    congr 1
    rw[hzsz]
    have:(0+i*P.cellsOf et+c) % P.cellsOf et=c:=by
     rw[Nat.zero_add,Nat.add_comm,Nat.add_mul_mod_self_right];exact Nat.mod_eq_of_lt hcl
    rw[this];rw[Array.getElem?_toList] at hv;simp[getElem!_def,hv])
   rw[J] at I;refine⟨_,_,_,_,Y2,σ2,h,.inl ?_,H2,I,hoff⟩;have w1:IntKind.i64.wrap (j:Int)=(j:Int):=wrap_i64 ah ah;have w2:IntKind.i64.wrap (m:Int)=(m:Int):=wrap_i64 ah ah
   have c1:¬ ((((m:Int)<0 || decide ((inf.bytes:Int)*m > 2 ^ 48)) || decide ((j:Int)<0) || decide ((j:Int) > m))=true):=by
    simp;omega
   have c3:¬ (m*inf.bytes > roomBytes):=by
    unfold roomBytes;have:((inf.bytes*m:Nat):Int)<=140737488355328:=by simpa using hby
    rw[Nat.mul_comm];omega
   simp only[execOp,ho,Instr.makeSlice,Sem.run_bind,jA hu,Result.andThen,hxv,hyv,asInt,qV,Sem.run_pure,CV hi,w1,w2];rw[if_neg c1];simp only[askRoom,Int.toNat_natCast];rw[if_neg c3];simp only[Sem.run_bind,Sem.run_pure,Result.andThen,run_sizeOf hinf]
   by_cases h0:m*P.cellsOf et=0
   have:arr=#[]:=by simp[arr,h0]
   rw[if_pos h0];simp only[h0,Sem.run_pure,Sem.run_bind,Result.andThen,newRow,newObj];rw[show (Array.range 0).map ((#[]:Array Value)[· % (#[]:Array Value).size]!)=arr by rw[this];simp]
   simp[Sem.run]
   rw[if_neg h0];simp only[Sem.run_bind,hzr,Sem.run_pure,Result.andThen,newRow,newObj];simp[Sem.run,arr]
 exact h.elim
theorem Jo (m:Int):goInt m=.int .i64 m:=rfl
include H in
theorem rC {b:Builtin}{args:Array Operand}{ts:Array TypeId}{v:PV}{cv:Value}(ho:o.op=.call { callee:=.builtin b,args:=args,argTypes:=ts })
  (hr:∀ ty cs,(builtin b ts ty cs (args.toList.map a.eval).toArray).run P w=.ok (.value cv) w) (hv:Rep w Y σ v cv) (T:K v []):nY P C o a w σ ps st n id K:=by
 have U:args.map a.eval=(args.toList.map a.eval).toArray:=by apply Array.ext';simp
 refine nY.quiet H (cv:=cv) ?_ hv T;simp only[execOp,ho,resolve,U,Sem.run_bind,Sem.run_pure,Result.andThen,invoke];exact hr _ _
theorem afP {w:World}{Y:Nat->Prop}{σ:Sg}{p q:PV}{l:List PV}{vs:List Value}(h:gB w Y σ (p::q::l) vs):∃ u v U,vs=u::v::U/\Rep w Y σ p u/\Rep w Y σ q v/\gB w Y σ l U:=by
 unfold gB at h;obtain⟨u,I,rfl,h1,h2⟩:=h;unfold gB at h2;obtain⟨v,T,rfl,J,R⟩:=h2;exact⟨u,v,T,rfl,h1,J,R⟩
theorem Ia {w:World}{Y:Nat->Prop}{σ:Sg}{p:PV}{vs:List Value}(h:gB w Y σ [p] vs):∃ u,vs=[u]/\Rep w Y σ p u:=by
 unfold gB at h;obtain⟨u,U,rfl,h1,h2⟩:=h;unfold gB at h2;subst h2;exact⟨u,rfl,h1⟩
theorem ND {w:World}{Y:Nat->Prop}{σ:Sg}{p q:PV}{vs:List Value}(h:gB w Y σ [p,q] vs):∃ u v,vs=[u,v]/\Rep w Y σ p u/\Rep w Y σ q v:=by
 obtain⟨u,v,T,rfl,h1,h2,U⟩:=afP h;unfold gB at U;subst U;exact⟨u,v,rfl,h1,h2⟩
theorem Gj {α:Type}{x:Array α}{t:α}(h:x.toList=[t]):x=#[t]:=by apply Array.ext';simpa using h
include hT H in
theorem ahz {args:Array Operand}{ts:Array TypeId}(ho:o.op=.call { callee:=.builtin .len,args:=args,argTypes:=ts })(h:jU T (iK.jd P T) (.call { callee:=.builtin .len,args:=args,argTypes:=ts }) ps lk id K):nY P C o a w σ ps st n id K:=by
 have U:=rU H args.toList;simp only[jU] at h;generalize I:args.toList.map a.eval=vs at U
 split at h
 all_goals first|(exact h.elim)|skip
 rename_i s t hb he ht;rw[he] at U;obtain⟨u,rfl,hu⟩:=Ia U;have J:=Gj ht;subst J
 split at h
 rename_i e;refine rC H ho (cv:=.int .i64 s.size) (λty cs=>?_) dB h;rw[I,EP hu];simp[builtin,Builtin.len_,jA (Ns hT e),Jo]
 exact h.elim
 rename_i sz g full t hb he ht;rw[he] at U;obtain⟨u,rfl,hu⟩:=Ia U;have J:=Gj ht;subst J
 split at h
 rename_i e;obtain⟨et,R,_⟩:=ku hT e;unfold Rep at hu;obtain⟨x,len,cap,rfl,hl,_⟩:=hu;refine rC H ho (cv:=.int .i64 g.length) (λty cs=>?_) dB h;rw[I];simp[builtin,Builtin.len_,jA R,Jo,hl]
 exact h.elim
 rename_i b r c hd sz m t hb he ht;rw[he] at U;obtain⟨u,rfl,hu⟩:=Ia U;have J:=Gj ht;subst J
 split at h
 rename_i e;obtain⟨et,R,_⟩:=ku hT e
 have:∃ x c,u=.slice x m c:=by
  unfold Rep at hu;rcases hu with ⟨_,rfl,_⟩|⟨rfl,x,c,rfl⟩
  exact⟨_,_,rfl⟩
  exact⟨_,_,rfl⟩
 obtain⟨x,c,rfl⟩:=this;refine rC H ho (cv:=.int .i64 m) (λty cs=>?_) dB h;rw[I];simp[builtin,Builtin.len_,jA R,Jo]
 exact h.elim
 rename_i b r m t hb he ht;rw[he] at U;obtain⟨u,rfl,hu⟩:=Ia U;have J:=Gj ht;subst J
 split at h
 rename_i e;obtain⟨et,R,_⟩:=ku hT e
 have:∃ x c,u=.slice x m c:=by
  unfold Rep at hu;rcases hu with ⟨l,cap,_,rfl,_⟩|⟨rfl,x,rfl⟩
  exact⟨_,_,rfl⟩
  exact⟨_,_,rfl⟩
 obtain⟨x,c,rfl⟩:=this;refine rC H ho (cv:=.int .i64 m) (λty cs=>?_) dB h;rw[I];simp[builtin,Builtin.len_,jA R,Jo]
 exact h.elim
 all_goals contradiction
theorem adC {P:Program}{w:World}{ts:Array TypeId}{ty:TypeId}{k:IntKind}{m c:Int} :
  (Builtin.min_ ts ty #[.int k m,.int k c]).run P w=.ok (.int k (if c<m then c else m)) w/\(Builtin.max_ ts ty #[.int k m,.int k c]).run P w=.ok (.int k (if c > m then c else m)) w:=by
 constructor
 simp[Builtin.min_,Builtin.min2]
 simp[Builtin.max_,Builtin.max2]
include hT H in
theorem ahA {args:Array Operand}{ts:Array TypeId}(ho:o.op=.call { callee:=.builtin .min,args:=args,argTypes:=ts })(h:jU T (iK.jd P T) (.call { callee:=.builtin .min,args:=args,argTypes:=ts }) ps lk id K):nY P C o a w σ ps st n id K:=by
 have U:=rU H args.toList;simp only[jU] at h;generalize J:args.toList.map a.eval=vs at U
 split at h
 all_goals first|(exact h.elim)|skip
 contradiction
 contradiction
 contradiction
 contradiction
 rename_i p q l hb he;rw[he] at U;obtain⟨u,v,rfl,hu,hv⟩:=ND U
 have fin:∀ {k R : IntKind} {m c:Int} (mk:Int->PV),(∀ z,Rep w Y σ (mk z) (.int k z))->u=.int k m->v=.int R c->(bif qm k R then K (mk (if c<m then c else m)) [] else False)->nY P C o a w σ ps st n id K:=by
  intro k R m c mk h1 e1 I hh
  cases hk:qm k R with
  | false=>rw[hk] at hh;exact hh.elim
  | true =>
   rw[hk] at hh;have:=Dv hk;subst this;refine rC H ho (cv:=.int k (if c<m then c else m)) (λty cs=>?_) (h1 _) hh;rw[J,e1,I];have:=(adC (P:=P) (w:=w) (ts:=ts) (ty:=ty) (k:=k) (m:=m) (c:=c)).1;simp only[builtin,Sem.run_bind,this,Result.andThen,Sem.run_pure]
 split at h
 exact fin (λz=>.int _ z) (λz=>by simp[Rep]) (tq hu) (tq hv) h
 split at h
 rename_i h1 h2;exact fin (λz=>.si _ z) (λz=>by simp[Rep]) (nR hu h1) (nR hv h2) h
 exact h.elim
 all_goals contradiction
include hT H in
theorem ahB {args:Array Operand}{ts:Array TypeId}(ho:o.op=.call { callee:=.builtin .max,args:=args,argTypes:=ts })(h:jU T (iK.jd P T) (.call { callee:=.builtin .max,args:=args,argTypes:=ts }) ps lk id K):nY P C o a w σ ps st n id K:=by
 have U:=rU H args.toList;simp only[jU] at h;generalize J:args.toList.map a.eval=vs at U
 split at h
 all_goals first|(exact h.elim)|skip
 contradiction
 contradiction
 contradiction
 contradiction
 contradiction
 rename_i p q l hb he;rw[he] at U;obtain⟨u,v,rfl,hu,hv⟩:=ND U
 have fin:∀ {k R : IntKind} {m c:Int} (mk:Int->PV),(∀ z,Rep w Y σ (mk z) (.int k z))->u=.int k m->v=.int R c->(bif qm k R then K (mk (if m<c then c else m)) [] else False)->nY P C o a w σ ps st n id K:=by
  intro k R m c mk h1 e1 I hh
  cases hk:qm k R with
  | false=>rw[hk] at hh;exact hh.elim
  | true =>
   rw[hk] at hh;have:=Dv hk;subst this;refine rC H ho (cv:=.int k (if m<c then c else m)) (λty cs=>?_) (h1 _) hh;rw[J,e1,I];have:=(adC (P:=P) (w:=w) (ts:=ts) (ty:=ty) (k:=k) (m:=m) (c:=c)).2;simp only[builtin,Sem.run_bind,this,Result.andThen,Sem.run_pure]
 split at h
 exact fin (λz=>.int _ z) (λz=>by simp[Rep]) (tq hu) (tq hv) h
 split at h
 rename_i h1 h2;exact fin (λz=>.si _ z) (λz=>by simp[Rep]) (nR hu h1) (nR hv h2) h
 exact h.elim
 all_goals contradiction
end
end Go.Pv
