import Derived.KernelRfl
import Derived.Test.YtchmoabpofnbaaaGreatC109
set_option linter.all false
namespace Go.Proofs.YtchmoabpofnbaaaGreat
open Go Go.Pv
set_option maxRecDepth 100000
theorem drop_no {stage:Int}(h:stage≠4)(ms:List GMod):dropB stage ms=false:=by
 rw[dropB,List.any_eq_false];intro m _ hc;rw[Bool.and_eq_true,decide_eq_true_iff,decide_eq_true_iff] at hc;obtain⟨h1,h2⟩:=hc;rw[h2] at h1;exact h h1.symm
section
variable {s:GState}{L:List GLayerForce}(H:HypE s L){w:GLayerWorld}(W:WLK s L w){B:List Bool}{S:List (List Int)}(V:VR s L w B S)
include H W
theorem dep_is {n:Nat}(I:n<L.length)(stage:Int):Ok (λr=>r=false->(∀ m∈(L[n]).mods,m.kind=11->stg m.kind=stage->layer_sensitive m.filter stage=some false)/\((L[n]).fixed=true\/w.done.getD n false=true\/(stage≠4/\layer_sensitive (L[n]).filter stage=some false))) (layer_world_depends_z0 w n stage):=by
 obtain⟨e1,_⟩:=fr_p (B:=w.done) (S:=w.hits) H W I;have J:=H.f _ (List.getElem_mem I);have d1:=ixN (l:=w.done) false (n:=n) (by rw[W.don];exact I);unfold layer_world_depends_z0;rw[e1];show Ok _ (loopF _ _);generalize L[n]=f at *;have hml:=J.2.2.1;have no:∀ {p:Prop},((true:Bool)=false->p):=λe=>by cases e
 refine ok_for1 0 f.mods.length (λi=>∀ m∈f.mods.take i,m.kind=11->stg m.kind=stage->layer_sensitive m.filter stage=some false) 0 rfl (Nat.zero_le _) ae aF (λi k hi T hk=>?_) λk T=>?_
 have hsz:=J.2.2.2 _ (List.getElem_mem hi);obtain⟨b,t,_⟩:=tot_layer_sensitive f.mods[i].filter stage hsz.2
 have nx:((f.mods[i]).kind=11->stg (f.mods[i]).kind=stage->b=false)->∀ m∈f.mods.take (i+1),m.kind=11->stg m.kind=stage->layer_sensitive m.filter stage=some false:=by
  grind[take_succ_get]
 unfold layer_world_depends_z0_l1;refine ok_brd (λ_=>ok_ixL i rfl hi (ok_jn (λc=>c=false->(f.mods[i]).kind=11->stg (f.mods[i]).kind=stage->b=false) (λk7 C=>?_) λc hc=>ok_br (λ_=>ok_some no) λh=>hk (nx (hc h)))) λh=>absurd (show(i:Int)<(f.mods.length:Int) by omega) h;exact ok_brd (λh1=>ok_bnde (stg_p _) (ok_brd (λh2=>ok_bnde t (C _ λh _ _=>h)) λh2=>C _ λ_ _ g=>absurd g h2)) λh1=>C _ λ_ h=>absurd h h1
 ·unfold layer_world_depends_z0_l1;rw[List.take_length] at T;rw[ixO_get,d1];obtain⟨b,t,_⟩:=tot_layer_sensitive f.filter stage J.2.1;refine ok_brd (λh=>absurd h aQ) λ_=>?_;cases hx:f.fixed
  ·cases hd:w.done.getD n false
   grind[ok_brd,ok_some,ok_bnde]
   exact ok_some λ_=>⟨T,.inr (.inl rfl)⟩
  exact ok_some λ_=>⟨T,.inl rfl⟩
theorem list_ins {w' : GLayerWorld}(J : WLK s L w'){stage y T : Int}(c:Int){f:GFilter}(U:szGFilter f)(hv:r13_Is f=some true)(hi:Ins stage f)(hc:∀ k,Ch stage (w.traits.getD k zGTraits) (w'.traits.getD k zGTraits))(hy:stage≠1->T=y):lstP s w'.traits T c f=lstP s w.traits y c f:=by
 have ho:=H.ho;obtain⟨_,e1⟩:=list_p H W y c f U hv;obtain⟨_,g⟩:=list_p H J T c f U hv;rw[W.st] at e1;rw[J.st] at g
 have:r29_List s w'.traits T c f=r29_List s w.traits y c f:=by
  unfold r29_List;refine loop_rel (λa b=>a=b/\∃ i:Nat,i<=s.objects.length/\a.1=(i:Int)) ⟨rfl,0,by omega,rfl⟩ ?_
  rintro⟨i',t⟩ _ k I ⟨rfl,i,C,e⟩ hk
  simp only at e;subst e;unfold r29_List_l1
  by_cases h:i<s.objects.length
  have hkk:∀ u,k (addI (i:Int) 1,u)=I (addI (i:Int) 1,u):=λu=>hk _ _ ⟨rfl,i+1,h,addI_nat ae⟩
  grind[at_p,bnd,obj_ins]
  simp[br,lenI,h]
 grind
include V
theorem dep_no {i j:Nat}(hi:i<L.length)(hj:j<L.length)(t:i≠j)(stage:Int)(hd:layer_world_depends_z0 w i stage=some false):chgB s w (appW s w L[j] j stage) L[i] i stage=false:=by
 obtain⟨r,e,h⟩:=dep_is H W hi stage;rw[hd] at e;cases e;obtain⟨h1,h2⟩:=h rfl;have I:=apply_w H W V hj stage;have J:=H.f _ (List.getElem_mem hi);have hv:=H.fv _ (List.getElem_mem hi);have g:(appW s w L[j] j stage).done.getD i false=w.done.getD i false:=by show(w.done.set j true).getD i false=_;grind
 have C:(appW s w L[j] j stage).hits.getD i []=w.hits.getD i []:=by show(w.hits.set j _).getD i []=_;grind
 have hc:∀ k,Ch stage (w.traits.getD k zGTraits) ((appW s w L[j] j stage).traits.getD k zGTraits):=λk=>appT_ch _ _ _
 have hD:stage≠4->(appW s w L[j] j stage).dropped=w.dropped:=λh4=>by
  show appD _ (dropB stage _) w.dropped=_;rw[drop_no h4];exact List.ext_getElem (by simp[appD]) λi h1 h2=>by simp[appD]
 have hy:stage≠1->youP s (appW s w L[j] j stage).traits L[i]=youP s w.traits L[i]:=λh1=>by
  unfold youP;rw[(hc _).control h1]
 have num:numL s w.traits L[i] stage=numL s (appW s w L[j] j stage).traits L[i] stage:=by
  unfold numL;rw[List.map_inj_left];intro m T;unfold numF
  by_cases hk:m.kind=11/\stg m.kind=stage
  have hs:=sens_no m.filter stage ((hv.2 m T).2 hk.1) (h1 m T hk.1 hk.2);rw[list_ins H W I _ (J.2.2.2 m T).2 ((hv.2 m T).2 hk.1) hs hc hy]
  grind
 have act:actP s w.dropped L[i] (w.done.getD i false)=actP s (appW s w L[j] j stage).dropped L[i] ((appW s w L[j] j stage).done.getD i false)/\affP s w L[i] i=affP s (appW s w L[j] j stage) L[i] i:=by
  unfold actP affP;rw[g,C]
  cases hdn:w.done.getD i false with
  | true=>simp
  | false=>
  have hD' : (L[i]).fixed=false->drpP s (appW s w L[j] j stage).dropped L[i]=drpP s w.dropped L[i]:=λh=>by
   grind
  have hA:affL s (appW s w L[j] j stage).traits L[i]=affL s w.traits L[i]:=by
   unfold affL
   congr 1
   refine List.filter_congr λk _=>?_;unfold hitB
   cases U:(L[i]).fixed with
   | true=>grind
   | false=>
    rcases h2 with h2|h2|⟨h2,h3⟩
    grind
    grind
    have hs:=sens_no _ stage (hv.1 U) h3;simp only[cond_false];rw[mat_eq _ _ _ _ _ (hv.1 U) (tr_D H I k) J.2.1,mat_eq _ _ _ _ _ (hv.1 U) (tr_D H W k) J.2.1,obj_ins _ _ hs (hc k) hy]
  grind
 grind[chgB]
end
theorem W9 {α:Type}(n:Int)(v:α)(m:Int):∀ l:List (Int×α),zC (QK l n v) m=if n=m then some v else zC l m
 | []=>by simp[QK,zC]
 | (k,w)::l=>by
  unfold QK
  by_cases h:k=n
  subst h;rw[if_pos rfl]
  grind[zC]
  rw[if_neg h];simp only[zC]
  by_cases e:k=m
  grind
  rw[if_neg e,W9 n v m l,if_neg e]
theorem Mat.congr {n:Nat}{f g:Nat->Nat->Bool}{R:List (List Bool)}(h:Mat n f R)(e:∀ a b,a<n->b<n->g a b=f a b):Mat n g R:=by
 obtain⟨T,h⟩:=h;refine⟨T,λa row hr=>?_⟩;have J:a<n:=by grind
 obtain⟨h1,h2⟩:=h a row hr;refine⟨h1,λb v hv=>?_⟩
 grind
theorem Mat.ext {n:Nat}{f:Nat->Nat->Bool}{R T : List (List Bool)}(h:Mat n f R)(J : Mat n f T):R=T:=by
 refine List.ext_getElem (by rw[h.1,J.1]) λa h1 h2=>?_;have r1:=h.2 a _ (List.getElem?_eq_getElem h1);have r2:=J.2 a _ (List.getElem?_eq_getElem h2);refine List.ext_getElem (by rw[r1.1,r2.1]) λb C I=>?_;rw[r1.2 b _ (List.getElem?_eq_getElem C),r2.2 b _ (List.getElem?_eq_getElem I)]
theorem Mat.zero (n:Nat){R:List (List Bool)}(T:R.length=n)(h:∀ j (hj:j<R.length),R[j]=List.replicate n false):Mat n (λ_ _=>false) R:=by
 refine⟨T,λa row hr=>?_⟩;obtain⟨J,e⟩:=List.getElem?_eq_some_iff.1 hr;rw[<- e,h a J];refine⟨by simp,λb v hv=>?_⟩
 grind
def spM (left:List Int)(c:Nat->Nat->Bool)(a b:Nat):Bool:=decide ((a:Int)∈left)&&(decide ((b:Int)∈left)&&(!decide (a=b)&&c a b))
theorem NZ {l:List Int}{i:Nat}(hi:i<l.length)(x:Int):x∈l.take (i+1)↔x∈l.take i\/x=l[i]:=by
 grind[take_succ_get]
section
variable {s:GState}{L:List GLayerForce}(H:HypE s L){w:GLayerWorld}(W:WLK s L w){B:List Bool}{S:List (List Int)}(V:VR s L w B S)
include H W
theorem ahc:sH w=some w:=by
 have ho:=H.ho;have J:=H.len;have a1:=W.all;have a2:=W.don;have a3:=W.hit;have a4:=W.drp;unfold sH;have c1:ry w.traits=some w.traits:=by grind[ry,rP]
 have c2:∀ l:List Bool,l.length<=2000000->qp l=some l:=λl T=>by grind[qp,rP]
 have c3:sG w.hits=some w.hits:=by grind[sG,rP]
 rw[c1,c2 _ ae,c2 _ ae,c3];rfl
include V
theorem aiQ (left:List Int)(stage:Int)(hr:∀ x∈left,0<=x/\x<(L.length:Int))(hlen:left.length<=L.length)(ch:Nat->Nat->Bool)(hch:∀ i j (hi:i<L.length) (hj:j<L.length),ch i j=chgB s w (appW s w L[j] j stage) L[i] i stage) :
  Ok (Mat L.length (spM left ch)) (qw w left stage):=by
 have hL:=H.len
 let dep:Nat->Bool:=λi=>(layer_world_depends_z0 w i stage).getD true
 let lk:Nat->jV:=λi=>(lV w i stage).getD Np
 have hdep:∀ i,i<L.length->layer_world_depends_z0 w i stage=some (dep i):=λi hi=>by
  obtain⟨r,e,_⟩:=dep_is H W hi stage
  grind
 have hno:∀ i j,i<L.length->j<L.length->i≠j->dep i=false->ch i j=false:=λi j hi hj hij h=>by
  grind[dep_no]
 unfold qw;rw[W.l];refine PS (n:=L.length) rfl rfl ae ae ?_;refine iY 0 L.length (λi t=>t.length=L.length/\∀ j (hj:j<t.length),j<i->t[j]=List.replicate L.length false) 0 rfl (Nat.zero_le _) ae ⟨by simp,λ_ _ h=>by omega⟩ (λi t k hi hI hk=>?_) λt k hI=>?_
 unfold qH;rw[W.l];refine zS (ok_brd (λ_=>PS (n:=L.length) rfl rfl ae ae (zS ?_)) λh=>absurd (show(i:Int)<lenI (List.replicate L.length ([]:List Bool)) by simp[lenI];omega) h);have it:i<t.length:=by omega
 refine gU i rfl it (gB it (hk _ ⟨by simp[hI.1],λj hj hji=>?_⟩))
 grind
 unfold qH;refine zS (ok_brd (λh=>absurd h dY) λ_=>?_);have M0:Mat L.length (λ_ _=>false) t:=Mat.zero _ hI.1 λj hj=>hI.2 j hj ae;refine iY 0 left.length (λa (u:List (Int×jV))=>∀ m,m<L.length->zC u (m:Int)=if (m:Int)∈left.take a/\dep m=true then some (lk m) else none) 0 rfl (Nat.zero_le _) ae (λm _=>by simp[zC]) (λa u k2 J hU hk2=>?_) λu k2 hU=>?_
 unfold qG;obtain⟨a1,a2⟩:=hr _ (List.getElem_mem J);have mt:=NZ J;refine ok_brd (λ_=>ok_jn (λv=>∀ m,m<L.length->zC v (m:Int)=if (m:Int)∈left.take (a+1)/\dep m=true then some (lk m) else none) (λk5 h5=>?_) λv hv=>hk2 v hv) λh=>absurd (show(a:Int)<(left.length:Int) by omega) h;refine gU a rfl J (gB J ?_);generalize left[a]=la at a1 a2 mt;obtain⟨m,rfl⟩:=Int.eq_ofNat_of_zero_le a1;have I:m<L.length:=by omega
 refine ok_bnde (hdep m I) (ok_br (λhd=>?_) λhd=>h5 _ λx hx=>?_)
 have hl:lV w m stage=some (lk m):=by
  obtain⟨x,y,e,_⟩:=ajh H W V I I stage
  grind
 rw[akq,hl];refine h5 _ λx hx=>?_;rw[W9,hU x hx]
 grind
 grind
 unfold qG;rw[List.take_length] at hU;refine ok_brd (λh=>absurd h bP) λ_=>ok_jn (λb=>b=true->∀ x y,x<L.length->y<L.length->spM left ch x y=false) (λk5 h5=>ok_brd (λh0=>h5 _ λ_=>?_) λ_=>h5 _ λC=>?_) λb C=>ok_br (λg=>ok_some (M0.congr λx y hx hy=>C g x y hx hy)) λ_=>?_
 simp_all[lenI,spM,zC]
 have C:=of_decide_eq_true C;intro x y hx hy;unfold spM
 by_cases h1:(x:Int)∈left
 by_cases h2:(y:Int)∈left
 have:x=y:=by
  have hl:left.length<=1:=by grind[lenI]
  obtain⟨p,hp,ep⟩:=List.getElem_of_mem h1;obtain⟨q,hq,eq⟩:=List.getElem_of_mem h2
  grind
 simp[this]
 simp[h2]
 simp[h1]
 refine iY 0 left.length (λa R=>Mat L.length (λx y=>decide ((y:Int)∈left.take a)&&spM left ch x y) R) 0 rfl (Nat.zero_le _) ae (M0.congr λ_ _ _ _=>by simp) (λa R k6 J hV hk6=>?_) λR k6 hV=>?_
 unfold qF;obtain⟨a1,a2⟩:=hr _ (List.getElem_mem J);have mt:=NZ J;have mm:=List.getElem_mem J;refine ok_brd (λ_=>gU a rfl J (gB J ?_)) λh=>absurd (show(a:Int)<(left.length:Int) by omega) h;generalize left[a]=la at a1 a2 mt mm;obtain⟨m,rfl⟩:=Int.eq_ofNat_of_zero_le a1;have I:m<L.length:=by omega
 refine ok_bnde (ahc H W) (ok_bnde (aea H W I stage (V.nd m I)) ?_);refine iY 0 left.length (λc R=>Mat L.length (λx y=>(decide ((y:Int)∈left.take a) || (decide (y=m)&&decide ((x:Int)∈left.take c)))&&spM left ch x y) R) 0 rfl (Nat.zero_le _) ae (hV.congr λ_ _ _ _=>by simp) (λc R2 k7 hc T hk7=>?_) λR2 k7 T=>?_
 unfold qE;obtain⟨c1,c2⟩:=hr _ (List.getElem_mem hc);have mt2:=NZ hc;have mm2:=List.getElem_mem hc;refine ok_brd (λ_=>ok_jn (λR=>Mat L.length (λx y=>(decide ((y:Int)∈left.take a) || (decide (y=m)&&decide ((x:Int)∈left.take (c+1))))&&spM left ch x y) R) (λk8 h8=>?_) λv3 hv3=>hk7 v3 hv3) λh=>absurd (show(c:Int)<(left.length:Int) by omega) h;refine gU c rfl hc (gB hc ?_);generalize left[c]=lc at c1 c2 mt2 mm2;obtain⟨p,rfl⟩:=Int.eq_ofNat_of_zero_le c1;have hp:p<L.length:=by omega
 have same:spM left ch p m=false->Mat L.length (λx y=>(decide ((y:Int)∈left.take a) || (decide (y=m)&&decide ((x:Int)∈left.take (c+1))))&&spM left ch x y) R2:=λh0=>T.congr λx y _ _=>by
  by_cases e:x=p/\y=m<;>grind
 have hk:=hU p hp;unfold rG;rw[hk]
 by_cases hd:dep p=true
 rw[if_pos ⟨mm2,hd⟩];refine ok_jn (λb=>b=!decide (p=m)) (λk9 h9=>show Ok _ (k9 _) from h9 _ ?_) λb C=>ok_br (λg=>?_) λg=>h8 _ (same ?_)
 grind
 have hpm:p≠m:=by grind
 obtain⟨h1,h2,h3⟩:=T.get hp I;obtain⟨x,y,e1,e2,e3⟩:=ajh H W V hp I stage;have hx:lk p=x:=by grind
 refine gU p rfl h1 (gB h1 (ok_bnde e2 (ok_bnde (by rw[hx];exact e3) (gU m rfl h2 (gB h1 (gB h2 (h8 _ ?_)))))));refine(T.set m h1 _).congr λx y hx hy=>?_;unfold upM
 by_cases e:x=p/\y=m
 simp_all[spM]
 grind
 grind[spM]
 rw[if_neg (λh=>hd h.2)]
 refine ok_jn (λb=>b=false) (λk9 h9=>h9 _ rfl) λb C=>by
  subst C;refine h8 _ (same ?_)
  grind[spM]
 unfold qE;refine ok_brd (λh=>absurd h ak) λ_=>hk6 _ (T.congr λx y _ _=>?_);rw[List.take_length];simp only[mt]
 grind[spM]
 unfold qF;refine ok_brd (λh=>absurd h ak) λ_=>ok_some (hV.congr λx y _ _=>?_)
 grind[spM]
end
def bel (stage:Int)(f:GLayerForce):Bool:=f.mods.any λm=>decide (stg m.kind=stage)
theorem alL (f:GLayerForce)(stage:Int)(I:f.mods.length<=1048576):DY f stage=some (bel stage f):=by
 unfold DY uS xG;refine ok_eq (fA (R:=λb=>b=bel stage f) (fA (R:=λy=>(bel stage f=true/\0<=y)\/(bel stage f=false/\y=-1)) ?_ λy hy=>?_) λb J=>ok_some J)
 refine ok_for1 0 f.mods.length (λi=>(f.mods.take i).any (λm=>decide (stg m.kind=stage))=false) 0 rfl (Nat.zero_le _) ae rfl (λi k hi T hk=>?_) λk T=>?_
 unfold uQ wo;refine ok_brd (λ_=>ok_ixL i rfl hi (ok_bnde (x:=decide (stg (f.mods[i]).kind=stage)) (by grind[bnd,stg_p]) (ok_br (λh=>ok_some (.inl ⟨by grind[bel],by omega⟩)) λh=>hk (by grind[take_succ_get])))) λh=>absurd (show(i:Int)<(f.mods.length:Int) by omega) h
 unfold uQ;rw[List.take_length] at T;exact ok_brd (λh=>absurd h aQ) λ_=>ok_some (.inr ⟨T,rfl⟩)
 rcases hy with ⟨h,h2⟩|⟨h,rfl⟩
 grind[ok_some]
 grind[ok_some]
theorem alM (f:GLayerForce)(stage:Int)(J:f.mods.length<=1048576):Jc (f30 f) stage=some (bel stage f):=by
 unfold Jc;refine ok_eq (ok_for1 0 f.mods.length (λi=>(f.mods.take i).any (λm=>decide (stg m.kind=stage))=false) 0 rfl (Nat.zero_le _) ae rfl (λi k hi T hk=>?_) λk T=>?_)
 unfold Ic;refine ok_brd (λ_=>ok_ixL i rfl hi (ok_bnde (abD _) (ok_brd (λ(h:stg (f.mods[i]).kind=stage)=>ok_some (by rw[bel,eq_comm,List.any_eq_true];grind)) λ(h:¬ stg (f.mods[i]).kind=stage)=>hk (by grind[take_succ_get])))) λh=>absurd (show(i:Int)<(f.mods.length:Int) by omega) h
 unfold Ic;rw[List.take_length] at T;exact ok_brd (λh=>absurd h aQ) λ_=>ok_some T.symm
def TyO (T:List eQ):Prop:=∀ t∈T,0<=t.line.types/\t.line.types<=63
theorem ty1 (n:Int)(h:0<=n/\n<=63):∃ x y,divO .quo .i64 n 1=some x/\divO .rem .i64 x 2=some y/\(decide (y=1))=!decide (iL .and .i64 n 1=0):=by
 obtain⟨m,rfl⟩:=Int.eq_ofNat_of_zero_le h.1;have T:m<64:=by omega
 have e:IntKind.i64.wrap (((m:Nat):Int).tdiv 1)=(m:Int):=by rw[Int.tdiv_one];grind[wrap_in]
 refine⟨_,_,rfl,rfl,?_⟩;simp only;rw[e];have:∀ m:Nat,m<64->(decide (((m:Nat):Int).tmod 2=1))=!decide (iL .and .i64 (m:Int) 1=0):=by decide +kernel
 exact this m T
def ad (a b:Int):Int:=(nR a b).getD 0
theorem aiR (a b:Int):nR a b=some (ad a b):=by
 obtain⟨v,e,_⟩:=Ai a b
 grind[add_eq,ad]
def cpw (o:fC):Int:=(Gp o.counters).getD 0
theorem ajl (o:fC):Gp o.counters=some (cpw o):=by
 obtain⟨v,e,_⟩:=RJ o.counters
 grind[abz,cpw]
def OW (o:fC)(t:eQ):eQ:=bif decide (o.iI=0)&&!decide (iL .and .i64 t.line.types 1=0) then { t with power:=ad t.power (cpw o),gz:=ad t.gz (cpw o) } else t
def Iw (s:GState)(T:List eQ):List eQ:=T.mapIdx λk t=>OW (s.objects.getD k qi) t
section
variable {s:GState}{L:List GLayerForce}(H:HypE s L){w:GLayerWorld}(W:WLK s L w){B:List Bool}{S:List (List Int)}(V:VR s L w B S)
include H W
theorem aiS:qm w=some { w with traits:=Iw s w.traits }:=by
 have e:=W.st;subst e;have ho:=H.ho;have g:=W.all;unfold qm;refine ok_eq (iY 0 w.s.objects.length (λi t=>t=w.traits.mapIdx λk t=>bif decide (k<i) then OW (w.s.objects.getD k qi) t else t) 0 rfl (Nat.zero_le _) ae (List.ext_getElem aF λi h1 h2=>by simp) (λi t k hi T hk=>?_) λt k T=>?_)
 have it:i<t.length:=by grind
 have iT:i<w.traits.length:=by omega
 have ti:t[i]=w.traits[i]:=by simp[T]
 have go:w.s.objects.getD i qi=w.s.objects[i]:=by simp[hi]
 have st:t.set i (OW w.s.objects[i] w.traits[i])=w.traits.mapIdx λk t=>bif decide (k<i+1) then OW (w.s.objects.getD k qi) t else t:=by
  subst T;refine List.ext_getElem aF λj h1 h2=>?_
  grind
 have no:OW w.s.objects[i] w.traits[i]=w.traits[i]->t=w.traits.mapIdx λk t=>bif decide (k<i+1) then OW (w.s.objects.getD k qi) t else t:=λe=>by
  rw[<- st,e,<- ti];simp
 unfold uO;refine ok_brd (λ_=>ok_jn (λu=>u=w.traits.mapIdx λk t=>bif decide (k<i+1) then OW (w.s.objects.getD k qi) t else t) (λk5 J=>?_) λu hu=>hk u hu) λh=>absurd (show(i:Int)<(w.s.objects.length:Int) by omega) h;refine ok_ixL i rfl hi (gU i rfl it (ok_jn (λb=>b=(decide ((w.s.objects[i]).iI=0)&&!decide (iL .and .i64 (w.traits[i]).line.types 1=0))) (λk10 C=>?_) λb I=>ok_br (λh=>?_) λh=>J _ (no ?_)))
 grind[ok_brd,gB,decide_eq_false]
 rw[I] at h;have c1:OW w.s.objects[i] w.traits[i]={ w.traits[i] with power:=ad (w.traits[i]).power (cpw w.s.objects[i]),gz:=ad (w.traits[i]).gz (cpw w.s.objects[i]) }:=by grind[OW]
 refine ok_bnde (by rw[abz];exact ajl _) (gB it (ok_bnde (by rw[add_eq];exact aiR _ _) (gB it (ok_bnde (by rw[add_eq];exact aiR _ _) (gB it (gB (by simpa using it) (J _ ?_)))))))
 simp_all
 grind[OW]
 unfold uO;refine ok_brd (λh=>absurd h (by show ¬ (w.s.objects.length:Int)<(w.s.objects.length:Int);omega)) λ_=>ok_some ?_
 have:t=Iw w.s w.traits:=by
  subst T;refine List.ext_getElem (by simp[Iw]) λj h1 h2=>?_
  grind[Iw]
 rw[this]
theorem aiT (hT:TyO w.traits):Aa (v30 w B S)=some (v30 { w with traits:=Iw s w.traits } B S):=by
 have ho:=H.ho;have wa:=W.all;unfold Aa;refine ok_eq (iY 0 s.objects.length (λi t=>t=(Iw s w.traits).take i) 0 rfl (Nat.zero_le _) ae rfl (λi t k hi C hk=>?_) λt k C=>?_)
 ·have J:i<w.traits.length:=by omega
  have go:s.objects.getD i qi=s.objects[i]:=by simp[hi]
  have iC:i<(Iw s w.traits).length:=by simp[Iw,J]
  have tl:t.length<=i:=by grind
  have ci:(Iw s w.traits)[i]=OW s.objects[i] w.traits[i]:=by grind[Iw]
  obtain⟨x,y,e1,e2,e3⟩:=ty1 _ (hT _ (List.getElem_mem J));unfold BR;simp only[show(v30 w B S).s=s from W.st,show(v30 w B S).all=w.traits from rfl];refine ok_brd (λ_=>ok_jn (λu=>u=(Iw s w.traits).take (i+1)) (λk5 h5=>?_) λu hu=>hk u hu) λh=>absurd (show(i:Int)<(w.traits.length:Int) by omega) h;refine ok_ixL i rfl J (ok_ixL i rfl hi (ok_jn (λp=>{ w.traits[i] with power:=p.1,gz:=p.2 }=(Iw s w.traits)[i]) (λk10 T=>?_) λp hp=>?_))
  ·refine ok_jn (λb=>b=(decide ((s.objects[i]).iI=0)&&!decide (iL .and .i64 (w.traits[i]).line.types 1=0))) (λk13 g=>?_) λb I=>?_
   grind[ok_brd,ok_bnde,decide_eq_false]
   ·refine ok_br (λh=>ok_bnde (ajl _) (ok_bnde (aiR _ _) (ok_bnde (aiR _ _) (T _ ?_)))) λh=>T _ ?_
    all_goals
     rw[I] at h;rw[ci];unfold OW;rw[h];rfl
  grind[gZ,take_succ_get]
 unfold BR;rw[show(v30 w B S).all=w.traits from rfl];refine ok_brd (λh=>absurd h (by show ¬ (s.objects.length:Int)<(w.traits.length:Int);omega)) λ_=>ok_some ?_;have:t=Iw s w.traits:=by grind[List.take_of_length_le,Iw]
 rw[this];rfl
include V
theorem aku (left:List Int)(stage:Int)(hr:∀ x∈left,0<=x/\x<(L.length:Int))(hlen:left.length<=L.length)(ch:Nat->Nat->Bool)(hch:∀ i j (hi:i<L.length) (hj:j<L.length),ch i j=chgB s w (appW s w L[j] j stage) L[i] i stage)
  (M:List (List Bool)) (hM:Mat L.length (spM left ch) M):NQ (v30 w B S) left stage=some (Jk (L.map (·.stamp)) (xU (elF left) M)):=by
 have hL:=H.len;have hl:(v30 w B S).l=L.map f30:=by show w.forces.map f30=_;rw[W.l]
 unfold NQ;refine ok_eq (iY 0 L.length (λi t=>t=((L.take i).map (·.stamp),List.replicate i (List.replicate L.length false))) 0 rfl (Nat.zero_le _) ae aF (λi t k hi J hk=>?_) λt k J=>?_)
 subst J;unfold Jg;rw[hl];have l1:((L.take i).map (·.stamp)).length=i:=by simp;omega
 refine ok_brd (λ_=>ok_ixL i rfl bH (gZ ak ak (PS (n:=L.length) dY dY ae ae (zS (gZ ak ak (hk _ ?_)))))) λh=>absurd (show(i:Int)<lenI (L.map f30) by grind[lenI]) h
 grind[List.replicate_succ',f30,List.take_append_getElem]
 subst J;unfold Jg;rw[hl,List.take_length];have M0:Mat L.length (λ_ _=>false) (List.replicate L.length (List.replicate L.length false)):=Mat.zero _ aF λj hj=>by simp
 refine ok_brd (λh=>absurd h bQ) λ_=>?_;refine iY 0 left.length (λa R=>Mat L.length (λx y=>decide ((x:Int)∈left.take a)&&spM left ch x y) R) 0 rfl (Nat.zero_le _) ae (M0.congr λ_ _ _ _=>by simp) (λa R k6 I hV hk6=>?_) λR k6 hV=>?_
 unfold Jf;obtain⟨a1,a2⟩:=hr _ (List.getElem_mem I);have mt:=NZ I;have mm:=List.getElem_mem I;have ea:gu left (a:Int)=some left[a]:=by grind[ni]
 refine ok_brd (λ_=>?_) λh=>absurd (show(a:Int)<(left.length:Int) by omega) h;generalize left[a]=la at a1 a2 mt mm ea;obtain⟨m,rfl⟩:=Int.eq_ofNat_of_zero_le a1;have hm:m<L.length:=by omega
 refine iY 0 left.length (λc R=>Mat L.length (λx y=>(decide ((x:Int)∈left.take a) || (decide (x=m)&&decide ((y:Int)∈left.take c)))&&spM left ch x y) R) 0 rfl (Nat.zero_le _) ae (hV.congr λ_ _ _ _=>by simp) (λc R2 k7 hc T g=>?_) λR2 k7 T=>?_
 unfold Je;obtain⟨c1,c2⟩:=hr _ (List.getElem_mem hc);have mt2:=NZ hc;have mm2:=List.getElem_mem hc;have C:gu left (c:Int)=some left[c]:=by grind[ni]
 refine ok_brd (λ_=>?_) λh=>absurd (show(c:Int)<(left.length:Int) by omega) h;generalize left[c]=lc at c1 c2 mt2 mm2 C;obtain⟨p,rfl⟩:=Int.eq_ofNat_of_zero_le c1;have hp:p<L.length:=by omega
 obtain⟨h1,h2,h3⟩:=T.get hm hp;refine ok_bnde ea (gU m rfl h1 (gB h1 (ok_bnde C (ok_bnde ea (ok_bnde C (ok_bnde (aiP H W V hm hp stage) (gU p rfl h2 (gB h1 (gB h2 (g _ ?_))))))))));refine(T.set p h1 _).congr λx y hx hy=>?_;unfold upM
 by_cases e:x=m/\y=p
 simp_all[spM]
 grind
 unfold Je;refine ok_brd (λh=>absurd h bP) λ_=>hk6 _ (T.congr λx y _ _=>?_);rw[List.take_length];simp only[mt]
 grind[spM]
 unfold Jf
 have:R=M:=by
  refine Mat.ext (hV.congr λx y _ _=>?_) hM
  grind[spM]
 subst this;exact ok_brd (λh=>absurd h bP) λ_=>ok_bnde (ag1 left _ R ae) (ok_some rfl)
end
theorem ae7 (l:rX)(b:ByteArray):If (λr=>r.types=l.types) (xQ l b):=by
 unfold xQ;refine Vh (xk (λ_=>True) (λk hk=>jk λ_ _=>iM (λ_=>hk _ trivial) λ_=>jk λ_ _=>iM (λ_=>hk _ trivial) λ_=>hk _ trivial) λx _=>iM (λ_=>jK rfl) λ_=>Jo (λ_=>True) trivial λi k _ hk=>?_);unfold yU;refine xk (λ_=>True) (λk2 T=>iM (λ_=>jk λ_ _=>jk λ_ _=>T _ trivial) λ_=>T _ trivial) λx _=>iM (λ_=>hk _ trivial) λ_=>?_;exact jk λ_ _=>Vh (Vh (jk λ_ _=>Vh (jK rfl)))
theorem abJ (n:Int):If (λr=>r=true->0<=n/\n<=63) (zZ n):=by
 grind[zZ,pY,jK]
theorem akv (m:GMod):If (λr=>r=true->m.kind=2\/m.kind=3->0<=m.n/\m.n<=63) (lG m):=by
 unfold lG;refine xk (λ_=>True) (λk hk=>iM (λ_=>hk _ trivial) λ_=>iM (λ_=>hk _ trivial) λ_=>jk λ_ _=>hk _ trivial) λs _=>iM (λ_=>jK λh=>by cases h) λ_=>?_;exact pY (λ_=>jk λy e=>jK λh _=>abJ _ _ e h) λh2=>pY (λ_=>jk λy e=>jK λh _=>abJ _ _ e h) λT _ _ _ h=>by omega
theorem alN {a b:Int}(J:0<=a/\a<=63)(T:0<=b/\b<=63):0<=iL .or .i64 a b/\iL .or .i64 a b<=63:=by
 obtain⟨x,rfl⟩:=Int.eq_ofNat_of_zero_le J.1;obtain⟨y,rfl⟩:=Int.eq_ofNat_of_zero_le T.1;show 0<=IntKind.i64.wrap (((BitVec.ofInt 64 (x:Int) ||| BitVec.ofInt 64 (y:Int)).toNat:Nat):Int)/\IntKind.i64.wrap (((BitVec.ofInt 64 (x:Int) ||| BitVec.ofInt 64 (y:Int)).toNat:Nat):Int)<=63;rw[BitVec.toNat_or,BitVec.ofInt_natCast,BitVec.ofInt_natCast,BitVec.toNat_ofNat,BitVec.toNat_ofNat,Nat.mod_eq_of_lt ae,Nat.mod_eq_of_lt ae];have I:x ||| y<2 ^ 6:=Nat.or_lt_two_pow ae ae
 grind[wrap_in]
def Ty1 (t:eQ):Prop:=0<=t.line.types/\t.line.types<=63
theorem alO {t:eQ}{m:GMod}{y n:Int}{x:eQ}(hv:lG m=some true)(h:qK t m y n=some x)(C:Ty1 t):Ty1 x:=by
 have J:=akv m _ hv rfl;have hc:=aji t m y n h
 by_cases g:x.line.types=t.line.types
 grind[Ty1]
 unfold qK at h;rw[hv] at h;simp only[bnd,br,show((true:Bool)==false)=false from rfl] at h
 by_cases h1:m.kind=1
 grind
 rw[decide_eq_false h1] at h
 by_cases h2:m.kind=2
 rw[decide_eq_true h2] at h;cases h;exact J (.inl h2)
 rw[decide_eq_false h2] at h
 by_cases T:m.kind=3
 rw[decide_eq_true T] at h;cases h;exact alN C (J (.inr T))
 rw[decide_eq_false T] at h
 by_cases h4:m.kind=4
 grind
 rw[decide_eq_false h4] at h
 by_cases h5:m.kind=5
 rw[decide_eq_true h5] at h
 cases I:xQ t.line m.sub with
 | none=>grind
 | some l=>
  rw[I] at h;cases h;have:=ae7 t.line m.sub _ I
  grind
 refine absurd (hc.line ?_) λe=>g (by rw[e]);unfold stg wJ
 grind[decide_eq_false,br]
theorem aed (stage y:Int)(g:GMod->Int):∀ (ms:List GMod),(∀ m∈ms,lG m=some true)->∀ t,Ty1 t->Ty1 (wu stage y g ms t)
 | [],_,t,ht=>ht
 | m::ms,h,t,ht=>by
  show Ty1 (wu stage y g ms _);refine aed stage y g ms (λm T=>h m (by simp[T])) _ ?_;dsimp only;cases decide (stg m.kind=stage)
  exact ht
  cases e:qK t m y (g m)<;>grind[qK,alO]
theorem aiU {s:GState}{w:GLayerWorld}{f:GLayerForce}(U:FV f)(n:Nat)(stage:Int)(hT:TyO w.traits):TyO (appW s w f n stage).traits:=by
 intro t J;obtain⟨i,hi,e⟩:=List.getElem_of_mem J;have T : i<w.traits.length:=by simpa [appW,Cj] using hi
 have:t=bif decide ((i:Int)∈affP s w f n) then wu stage (youP s w.traits f) (numF s w.traits f stage) f.mods w.traits[i] else w.traits[i]:=by grind[appW,Cj]
 rw[this];cases decide ((i:Int)∈affP s w f n)
 exact hT _ (List.getElem_mem T)
 exact aed _ _ _ _ (λm I=>(U.2 m I).1) _ (hT _ (List.getElem_mem T))
theorem aiV {s:GState}{T:List eQ}(hT:TyO T):TyO (Iw s T):=by
 intro t I;obtain⟨i,hi,e⟩:=List.getElem_of_mem I;have J : i<T.length:=by simpa [Iw] using hi
 have:t=OW (s.objects.getD i qi) T[i]:=by rw[<- e];simp[Iw]
 rw[this];unfold OW;have h0:=hT _ (List.getElem_mem J)
 grind
theorem adb (l:List Int)(n:Int)(I:l.length<=2000000):Jh l n=some (l.filter λx=>!decide (x=n)):=by
 unfold Jh;refine ok_eq (iY 0 l.length (λi t=>t=(l.take i).filter λx=>!decide (x=n)) 0 rfl (Nat.zero_le _) ae rfl (λi t k hi T hk=>?_) λt k T=>?_)
 have tl:t.length<=i:=by grind
 have e:(l.take (i+1)).filter (λx=>!decide (x=n))=bif decide (l[i]=n) then t else t++[l[i]]:=by
  grind[take_succ_get]
 unfold Ih;refine ok_brd (λ_=>ok_jn (λu=>u=(l.take (i+1)).filter λx=>!decide (x=n)) (λk5 J=>?_) λu hu=>hk u hu) λh=>absurd (show(i:Int)<(l.length:Int) by omega) h;refine ok_ixL i rfl hi (qM (λh=>ok_ixL i rfl hi (gZ ak ak (J _ ?_))) λh=>J _ ?_)
 grind
 grind
 unfold Ih;rw[nM] at T;exact ok_brd (λh=>absurd h aB) λ_=>ok_some T
def TY (L:List GLayerForce)(stage:Int)(n:Nat):List Int:=RU ((List.range n).filter λk=>bel stage (L.getD k QR))
theorem aee (L:List GLayerForce)(stage:Int)(n:Nat):(TY L stage n).Nodup/\(∀ x∈TY L stage n,0<=x/\x<(n:Int))/\(TY L stage n).length<=n:=by
 refine⟨?_,λx hx=>?_,?_⟩
 unfold TY RU;rw[List.Nodup,List.pairwise_map];exact(List.nodup_range.filter _).imp λh e=>h (Int.ofNat.inj e)
 unfold TY RU at hx
 grind
 grind[TY,RU]
structure Both (s:GState)(L:List GLayerForce)(w:GLayerWorld)(v:ik):Prop where
 W:WLK s L w
 ty:TyO w.traits
 v:∃ B S,v=v30 w B S/\VR s L w B S
section
variable {s:GState}{L:List GLayerForce}(H:HypE s L)
include H
theorem abK {w:GLayerWorld}{v:ik}(h:Both s L w v)(stage:Int):Two (λr r'=>Both s L r.2 r'.1) (loopF (kW stage w) (0,[],[])) (loopF (wK stage v) (0,[])):=by
 have hL:=H.len;obtain⟨W,ty,B,S,rfl,V⟩:=h;have hl:(v30 w B S).l=L.map f30:=by show w.forces.map f30=_;rw[W.l]
 refine WU L.length (λi t t'=>t=(TY L stage i,(L.take i).map (·.stamp))/\t'=TY L stage i) ae ⟨rfl,rfl⟩ (λi t t' k k' hi hI hk=>?_) λt t' k k' hI=>?_
 obtain⟨rfl,rfl⟩:=hI;have hz:=(H.f _ (List.getElem_mem hi)).2.2.1;have ll:=(aee L stage i).2.2;have sl:((L.take i).map (·.stamp)).length=i:=by simp;omega
 have nx:TY L stage (i+1)=bif bel stage L[i] then TY L stage i++[(i:Int)] else TY L stage i:=by
  grind[TY,Ci,WY]
 have ns:(L.take (i+1)).map (·.stamp)=(L.take i).map (·.stamp)++[(L[i]).stamp]:=by grind[take_succ_get]
 unfold kW wK;simp only[W.l,hl]
 grind[lenI,ni,br,jn,gY,Nat.ble_eq_true_of_le,bnd,alL,alM]
 obtain⟨rfl,rfl⟩:=hI;obtain⟨l1,l2,l3⟩:=aee L stage L.length;unfold kW wK;simp only[W.l,hl];have c1:decide ((L.length:Int)<lenI L)=false:=decide_eq_false bQ;have c2:decide ((L.length:Int)<lenI (L.map f30))=false:=decide_eq_false bQ;rw[c1,c2,List.take_length];simp only[br];generalize TY L stage L.length=left0 at *;refine ad3 (λa b=>Both s L a.1 b.1/\b.2.1=a.2.1/\a.2.1.Nodup/\(∀ y∈a.2.1,0<=y/\y<(L.length:Int))/\a.2.2.2=L.map (·.stamp)/\∃ i:Nat,b.2.2.1=(i:Int)/\i+a.2.1.length=left0.length/\a.2.2.1.length=i/\b.2.2.2.length=i) (λa=>a.2.1.length) ⟨⟨W,ty,B,S,rfl,V⟩,rfl,l1,l2,rfl,0,rfl,by simp,rfl,rfl⟩ (by show left0.length<18446744073709551616;omega) ?_
 rintro⟨w,left,ord,st⟩ ⟨v,T,n',ord'⟩ k k' ⟨⟨W,ty,B,S,rfl,V⟩,e2,nd,rg,e3,i,e4,e5,e6,e7⟩ hk
 simp only at e2 nd rg e3 e4 e5 e6 e7;subst e2 e3 e4;unfold uY O3;simp only
 by_cases J:T=[]
 subst J;have c1:decide ((0:Int)<lenI ([]:List Int))=false:=rfl;have c2:decide ((i:Int)<lenI left0)=false:=decide_eq_false bQ;rw[c1,c2];exact Vf ⟨W,ty,B,S,rfl,V⟩
 have hpos:0<T.length:=List.length_pos_iff.2 J;have c1:decide ((0:Int)<lenI T)=true:=decide_eq_true bQ;have c2:decide ((i:Int)<lenI left0)=true:=decide_eq_true bQ;rw[c1,c2];simp only[br];have hch:∀ i j (hi:i<L.length) (hj:j<L.length),(λa b=>(if h:a<L.length/\b<L.length then chgB s w (appW s w L[b] b stage) L[a] a stage else false)) i j=chgB s w (appW s w L[j] j stage) L[i] i stage:=λi j hi hj=>by grind
 obtain⟨M,eM,hM⟩:=aiQ H W V T stage rg ae _ hch;have eN:=aku H W V T stage rg ae _ hch M hM;have hel:elF T=T:=aiB T nd λx hx=>(rg x hx).1;have hy:Jk (L.map (·.stamp)) (xU T M)∈T:=OL _ _ _ (Yq _ _ (λx hx=>(rg x (OL _ _ _ hx)).1) (agE T M nd J)).1
 refine NW eM (NW (aiC T _ M ae) (TP eN ?_));rw[hel];have gy:=rg _ hy;generalize Jk (L.map (·.stamp)) (xU T M)=y at hy gy
 rw[decide_eq_false (by omega:¬ y<0)];obtain⟨m,rfl⟩:=Int.eq_ofNat_of_zero_le gy.1;have g:m<L.length:=by omega
 obtain⟨B',S',eA,V',_⟩:=TV H W V g stage;have U:=O4 T _ nd hy;refine NW (aea H W g stage (V.nd m g)) ?_;refine Vg ⟨by grind,by grind⟩ ⟨by grind,by grind⟩ ?_;refine NW (aeS T _ (λx=>decide (x=(m:Int))) ae λx _=>rfl) ?_;refine TP eA ?_;refine TP (adb T _ ae) ?_;have I:(T.filter λx=>!decide (x=(m:Int))).Nodup:=List.Pairwise.filter _ nd;have C:∀ z∈T.filter (λx=>!decide (x=(m:Int))),0<=z/\z<(L.length:Int):=λz hz=>rg z (List.mem_filter.1 hz).1;have bo:Both s L (appW s w L[m] m stage) (v30 (appW s w L[m] m stage) B' S'):=⟨apply_w H W V g stage,aiU (H.fv _ (List.getElem_mem g)) m stage ty,B',S',rfl,V'⟩;generalize T.filter (λx=>!decide (x=(m:Int)))=left2 at I C U;generalize appW s w L[m] m stage=w2 at bo;generalize v30 w2 B' S'=v2 at bo;refine hk (w2,left2,ord++[(m:Int)],L.map (·.stamp)) (v2,left2,_,ord'++[(m:Int)]) ⟨bo,rfl,I,C,rfl,i+1,addI_nat ae,?_,?_,?_⟩ ?_
 grind
 simp[e6]
 simp[e7]
 grind
theorem ahd {w:GLayerWorld}{B:List Bool}{S:List (List Int)}(W:WLK s L w)(ty:TyO w.traits)(V:VR s L w B S):Both s L { w with traits:=Iw s w.traits } (v30 { w with traits:=Iw s w.traits } B S):=by
 refine⟨⟨W.st,W.l,by simp[Iw,W.all],λt J=>?_,W.don,W.hit,W.akk,W.drp⟩,aiV ty,B,S,rfl,⟨V.bl,V.sl,V.nd,V.r⟩⟩;obtain⟨i,hi,e⟩:=List.getElem_of_mem J;have T : i<w.traits.length:=by simpa [Iw] using hi
 have h0:=W.tr _ (List.getElem_mem T);have:t=OW (s.objects.getD i qi) w.traits[i]:=by rw[<- e];simp[Iw]
 rw[this];unfold OW;cases (decide ((s.objects.getD i qi).iI=0)&&!decide (iL .and .i64 (w.traits[i]).line.types 1=0))<;>exact h0
theorem Aj {w:GLayerWorld}{v:ik}(h:Both s L w v)(stage:Int):Two (λr J=>Both s L r.2 J.1) (ji w stage) (qP v stage):=by
 have e1:ji w stage=br (decide (stage=7)) (bnd (qm w) λy=>loopF (kW stage y) (0,[],[])) (loopF (kW stage w) (0,[],[])):=by grind[ji,jn]
 have T:qP v stage=br (decide (stage=7)) (bnd (Aa v) λy=>loopF (wK stage y) (0,[])) (loopF (wK stage v) (0,[])):=by grind[qP,jn]
 rw[e1,T];refine ajf (λ_=>?_) λ_=>abK H h stage;obtain⟨W,ty,B,S,rfl,V⟩:=h;refine NW (aiS H W) ?_
 grind[TP,aiT,abK,ahd]
end
theorem alP (m:GMod):If (λr=>r=true->m.kind=11->r13_Is m.filter=some true) (lG m):=by
 unfold lG;refine xk (λ_=>True) (λk hk=>iM (λ_=>hk _ trivial) λ_=>iM (λ_=>hk _ trivial) λ_=>jk λ_ _=>hk _ trivial) λs _=>iM (λ_=>jK λh=>by cases h) λ_=>?_;have no:∀ {p:Prop} {o:Option Bool},(p->m.kind≠11)->p->If (λr=>r=true->m.kind=11->r13_Is m.filter=some true) o:=λh T _ _ _ h2=>absurd h2 (h T);refine pY (no ae) λ_=>pY (no ae) λ_=>pY (no ae) λ_=>pY (no ae) λ_=>pY (no ae) λ_=>pY (no ae) λ_=>pY (no ae) λ_=>pY (no ae) λ_=>pY (λ_=>jk λy e=>jK λh _=>by rw[e,h]) λh=>no (λ_=>h) trivial
structure Io (c:gq):Prop where
 types:0<=c.line.types/\c.line.types<=63
 len:c.fB.length<=8
 ab:∀ a∈c.fB,a.kind=1->r13_Is a.filter=some true/\∀ m∈a.mods,lG m=some true
theorem ae8 (cards:List gq)(o:fC)(hc:sZ lC cards):Ok (λt=>∃ c,(c∈cards\/c=SY)/\acW c t) (I5 cards o):=by
 unfold I5;refine ok_jn (λ_=>True) (λk hk=>ok_brd (λ_=>hk _ trivial) λ_=>hk _ trivial) λi _=>?_;refine ok_jn (λt=>∃ c,(c∈cards\/c=SY)/\acW c t) (λk hk=>?_) λt J=>?_
 refine ok_jn (λb=>b=true->0<=i/\i<lenI cards) (λk8 I=>ok_brd (λh=>I _ λh2=>⟨h,of_decide_eq_true h2⟩) λ_=>I _ λh=>by cases h) λb C=>?_;refine ok_br (λh=>?_) λ_=>hk _ ⟨SY,.inr rfl,rfl,rfl,rfl,rfl,rfl,rfl⟩;obtain⟨g1,g2⟩:=C h;exact xh g1 g2 λc T=>fA (abt c (hc.2 c T)) λt J=>hk t ⟨c,.inl T,J⟩
 obtain⟨c,h1,h2⟩:=J;exact ok_brd (λ_=>ok_some ⟨c,h1,h2.name,h2.line,h2.keys,h2.aeT,h2.power,h2.gz⟩) λ_=>ok_brd (λ_=>ok_some ⟨c,h1,h2.name,h2.line,h2.keys,h2.aeT,h2.power,h2.gz⟩) λ_=>ok_some ⟨c,h1,h2.name,h2.line,h2.keys,h2.aeT,h2.power,h2.gz⟩
theorem aan (n b:Nat)(h0:0<b)(T:b*n<=140737488355328):jm (n:Int) (n:Int) b=some n:=by
 have:bnd (jm (n:Int) (n:Int) b) some=some n:=ok_eq (PS rfl rfl h0 T (ok_some rfl))
 cases h:jm (n:Int) (n:Int) b with
 | none=>rw[h] at this;cases this
 | some x=>rw[h] at this;exact this
section
variable {cards:List gq}{s:GState}(hc:sZ lC cards)(hs:jX s)(hv:∀ c∈cards,Io c)(ho:s.objects.length<=2048)
include hc hv in
theorem ahe (o:fC):∃ t,I5 cards o=some t/\Tu cards o=some t/\jG t/\Ty1 t/\t.fB.length<=8/\∀ a∈t.fB,kz a/\(a.kind=1->r13_Is a.filter=some true/\∀ m∈a.mods,lG m=some true):=by
 obtain⟨t,e,c,T,U⟩:=ae8 cards o hc;refine⟨t,e,by rw[<- of_eq cards o hc];exact e,?_⟩
 have I:lC c/\Io c:=by
  rcases T with h|rfl
  exact⟨hc.2 c h,hv c h⟩
  exact⟨by simp[lC,Ce,szB,sZ,SY,WA,vH],⟨by decide,by decide⟩,by decide,by simp[SY]⟩
 obtain⟨h1,h2⟩:=I;refine⟨⟨by rw[U.name];exact h1.1,by rw[U.line];exact h1.2.1,by rw[U.aeT];exact h1.2.2⟩,?_,by rw[U.aeT];exact h2.len,by rw[U.aeT];exact λa J=>⟨h1.2.2.2 a J,h2.ab a J⟩⟩;unfold Ty1;rw[U.line];exact h2.types
include hc hs hv ho
theorem ade (ha:Asc s.objects)(hcn:∀ c∈s.jT,∀ m∈c.mods,lG m=some true):Two (λL L'=>HypE s L/\L'=L.map f30) (FM cards s) (LU cards s):=by
 have g:=hs.2.2.2.2.2.2.1;have hcl1:=g.1;have mf:∀ m:GMod,lG m=some true->lG m=some true/\(m.kind=11->r13_Is m.filter=some true):=λm h=>⟨h,alP m _ h rfl⟩
 unfold FM LU;refine WU s.objects.length (λi t J=>J=t.map f30/\t.length<=8*i/\∀ f∈t,Eb f/\FV f) ae ⟨rfl,by simp,by simp⟩ (λi t J k k' hi T hk=>?_) λt J k k' T=>?_
 obtain⟨rfl,h1,h2⟩:=T;unfold EI JM;rw[decide_eq_true (show(i:Int)<lenI s.objects by grind[lenI])];simp only[br,jn];have e1:gu s.objects (i:Int)=some s.objects[i]:=by grind[ni]
 refine NW e1 (TP e1 (ajf (λ_=>hk _ _ ⟨rfl,by omega,h2⟩) λ_=>?_));obtain⟨tr,e2,e3,C,ty,hal,hab⟩:=ahe hc hv s.objects[i];refine NW e2 (TP e3 ?_);refine WU tr.fB.length (λj u u'=>u'=u.map f30/\u.length<=8*i+j/\∀ f∈u,Eb f/\FV f) ae ⟨rfl,h1,h2⟩ (λj u u' k2 k2' hj hJ hk2=>?_) λu u' k2 k2' hJ=>?_
 obtain⟨rfl,j1,j2⟩:=hJ;obtain⟨az,av⟩:=hab _ (List.getElem_mem hj);have zm:=az.2.1.1;have e4:gu tr.fB (j:Int)=some tr.fB[j]:=by grind[ni]
 unfold EG JK;rw[decide_eq_true (show(j:Int)<lenI tr.fB by grind[lenI])];simp only[br,jn];refine NW e4 (TP e4 ?_)
 by_cases I:(tr.fB[j]).kind=1
 rw[decide_eq_true I];simp only;refine NW dm ?_;refine Vg ⟨by grind,by grind⟩ ⟨by grind,by grind⟩ (hk2 _ _ ⟨by rw[List.map_append];rfl,by grind,λf U=>?_⟩);rcases List.mem_append.1 U with U|U
 exact j2 f U
 rw[List.mem_singleton.1 U];exact⟨⟨⟨by simp,λ_ _=>trivial⟩,az.1,az.2.1⟩,λ_=>(av I).1,λm hm=>mf m ((av I).2 m hm)⟩
 grind
 obtain⟨rfl,j1,j2⟩:=hJ;unfold EG JK;rw[decide_eq_false (show ¬ (tr.fB.length:Int)<lenI tr.fB by grind[lenI])];exact hk _ _ ⟨rfl,by grind,j2⟩
 obtain⟨rfl,h1,h2⟩:=T;unfold EI JM;rw[decide_eq_false (show ¬ (s.objects.length:Int)<lenI s.objects by grind[lenI])];refine WU s.jT.length (λi t J=>J=t.map f30/\t.length<=16384+i/\∀ f∈t,Eb f/\FV f) ae ⟨rfl,by grind,h2⟩ (λi t J k k' hi T hk=>?_) λt J k k' T=>?_
 obtain⟨rfl,h1,h2⟩:=T;have C:=g.2 _ (List.getElem_mem hi);have z1:=C.1.1;have z2:=C.2.1;have e1:gu s.jT (i:Int)=some s.jT[i]:=by grind[ni]
 unfold EH JL;rw[decide_eq_true (show(i:Int)<lenI s.jT by grind[lenI])];refine NW e1 (TP e1 (NW (by unfold slices_Clone_int;exact rP ae ae) (NW dm ?_)));refine Vg ⟨by grind,by grind⟩ ⟨by grind,by grind⟩ (hk _ _ ⟨by rw[List.map_append];rfl,by grind,λf U=>?_⟩);rcases List.mem_append.1 U with U|U
 exact h2 f U
 rw[List.mem_singleton.1 U];refine⟨⟨C.1,?_,C.2⟩,λh=>bY,λm hm=>mf m (hcn _ (List.getElem_mem hi) m hm)⟩;simp[szGFilter,szB,kP,vH]
 obtain⟨rfl,h1,h2⟩:=T;unfold EH JL;rw[decide_eq_false (show ¬ (s.jT.length:Int)<lenI s.jT by grind[lenI])];exact Vf ⟨⟨⟨hs,ho,by grind,λf U=>(h2 f U).1⟩,ha,λf U=>(h2 f U).2⟩,rfl⟩
theorem ae9 (ha:Asc s.objects)(C:∀ c∈s.jT,∀ m∈c.mods,lG m=some true):Two (λw v=>∃ L,HypE s L/\Both s L w v) (Ei cards s) (Kv cards s):=by
 unfold Ei Kv;refine JQ (ade hc hs hv ho ha C) λL L' h=>?_;obtain⟨H,rfl⟩:=h;have hL:=H.len;refine NW (aan s.objects.length 1 ae ae) ?_;refine WU s.objects.length (λi t T=>t=(T,List.replicate s.objects.length false)/\T.length=i/\(∀ x∈T,jG x)/\TyO T) ae ⟨rfl,rfl,by simp,λt ht=>by cases ht⟩ (λi t T k k' hi J hk=>?_) λt T k k' J=>?_
 obtain⟨rfl,h1,h2,g⟩:=J;unfold Bj FU;rw[decide_eq_true (show(i:Int)<lenI s.objects by grind[lenI])];have e1:gu s.objects (i:Int)=some s.objects[i]:=by grind[ni]
 obtain⟨tr,e2,e3,hz,ty,_⟩:=ahe hc hv s.objects[i];refine NW e1 (TP e1 (NW e2 (TP e3 (Vg ⟨by grind,by grind⟩ ⟨by grind,by grind⟩ (hk _ _ ⟨rfl,by simp[h1],λx hx=>?_,λx hx=>?_⟩)))))
 grind
 rcases List.mem_append.1 hx with hx|hx
 exact g x hx
 rw[List.mem_singleton.1 hx];exact ty
 obtain⟨rfl,h1,h2,g⟩:=J;unfold Bj FU;rw[decide_eq_false (show ¬ (s.objects.length:Int)<lenI s.objects by grind[lenI])];have m1:=aan L.length 1 ae ae;have m2:=aan L.length 24 ae ae;have m3:jm (lenI (L.map f30)) (lenI (L.map f30)) 1=some L.length:=by grind[lenI]
 have m4:jm (lenI (L.map f30)) (lenI (L.map f30)) 24=some L.length:=by grind[lenI]
 refine NW m1 (NW m2 (TP m3 (TP m4 (TP (aan s.objects.length 1 ae ae) (Vf ⟨L,H,⟨rfl,rfl,h1,h2,by simp,by simp,λx hx=>?_,by simp⟩,g,_,_,rfl,by simp,by simp,λn I=>by simp[I],λn I=>.inl ⟨by simp,by simp[I]⟩⟩)))));rw[(List.mem_replicate.1 hx).2];exact⟨by simp,by simp⟩
theorem aef (J:Asc s.objects)(T:∀ c∈s.jT,∀ m∈c.mods,lG m=some true):∃ all,ou cards s=some all/\FZ cards s=some all/\all.length=s.objects.length/\∀ t∈all,jG t:=by
 have:Two (λa b=>b=a/\a.length=s.objects.length/\∀ t∈a,jG t) (ou cards s) (FZ cards s):=by
  unfold ou FZ;refine JQ (ae9 hc hs hv ho J T) λw v h=>?_;obtain⟨L,H,b⟩:=h;refine JQ (Aj H b 1) λ_ _ b=>JQ (Aj H b 2) λ_ _ b=>JQ (Aj H b 3) λ_ _ b=>JQ (Aj H b 4) λ_ _ b=>JQ (Aj H b 5) λ_ _ b=>JQ (Aj H b 6) λ_ _ b=>JQ (Aj H b 7) λ_ _ b=>JQ (Aj H b 8) λx y b=>?_;obtain⟨W,_,B,S,e,_⟩:=b;exact Vf ⟨by rw[e];rfl,W.all,W.tr⟩
 obtain⟨x,y,e1,I,rfl,h1,h2⟩:=this
 grind
end
theorem adf (c:gq)(T:lC c):Ok (λr=>True) (Tj c):=by
 unfold Tj Ti;have:=@P7;have:=@P6;have:=@acN;have:=@WO;have:=@TF;have:=@Md;have:=@Z8;exact TT
theorem aao (l:List gq)(name:ByteArray)(J:(sZ lC) l)(T:szB name):Ok (λr=>True) (Rj l name):=by
 unfold Rj UE;exact TT
theorem Xw (l:List gq)(name:ByteArray)(J:(sZ lC) l)(T:szB name):Ok (λr=>True) (OB l name):=by
 unfold OB Rk;exact TT
theorem UW (l:List gq)(c:gq)(I:(sZ lC) l)(T:lC c):Ok (λr=>True) (IY l c):=by
 have t:(sZ kz) c.fB:=T.2.2;have hla:=t.1;unfold IY;refine ok_for1 0 c.fB.length (λ_=>True) 0 rfl (Nat.zero_le _) ae trivial ?_ ?_
 intro i k hi _ hk;unfold Ha;refine ok_brd (λ_=>?_) λh=>absurd (show(i:Int)<(c.fB.length:Int) by omega) h;have zx:kz c.fB[i]:=t.2 _ (List.getElem_mem hi);have g:(sZ rJ) (c.fB[i]).jw:=zx.2.2.2.2.1;have hle:=g.1;refine ok_for1 0 (c.fB[i]).jw.length (λ_=>True) 0 rfl (Nat.zero_le _) ae trivial ?_ ?_
 intro j k5 hj _ C;unfold G9;refine ok_ixL i rfl hi (ok_brd (λ_=>ok_ixL i rfl hi (ok_ixL j rfl hj (ok_jn (λ_=>True) ?_ ?_))) λh=>absurd (show(j:Int)<((c.fB[i]).jw.length:Int) by omega) h)
 intro k11 J;exact ok_brd (λ_=>fA (Xw _ _ I (by have z:=g.2 _ (List.getElem_mem hj);exact z.2.2.1)) λ_ _=>J _ trivial) λ_=>J _ trivial
 intro s _;exact ok_br (λ_=>ok_some trivial) λ_=>C trivial
 intro k5 _;unfold G9;exact ok_ixL i rfl hi (ok_brd (λh=>absurd h (by show ¬ ((c.fB[i]).jw.length:Int)<((c.fB[i]).jw.length:Int);omega)) λ_=>hk trivial)
 intro k _;unfold Ha;exact ok_brd (λh=>absurd h aZ) λ_=>ok_some trivial
theorem Xx (l:List gq)(T:(sZ lC) l):Ok (λr=>True) (Gm l):=by
 unfold Gm LH;have:=@adf;have:=@aao;have:=@UW;exact TT
theorem Xy (p:SK Int)  : Ok (λr=>True) (Om p):=by
 unfold Om QS;exact TT
theorem Xz (s:GState)(id:Int)(T:jX s):Ok (λr=>-1<=r/\r<(s.objects.length:Int)) (Gh s id):=by
 unfold Gh Lm;exact TT
theorem aap (s:GState)(id:Int)(T:jX s):Ok (λr=>True) (Ef s id):=by
 unfold Ef;have:=@Xz;exact TT
theorem N7 (s:GState)(id:Int)(T:jX s):Ok (λr=>True) (G5 s id):=by
 unfold G5;have:=@aap;exact TT
theorem Pg (l:List Int)(n:Int)(T:(sZ (λ(_:Int)=>True)) l):Ok (λr=>True) (Gi l n):=by
 unfold Gi QT;exact TT
theorem aaq (s:GState)(l:List Int)(iI:Int)(owner:Int)(T:jX s)(J:(sZ (λ(_:Int)=>True)) l):Ok (λr=>True) (Eg s l iI owner):=by
 unfold Eg Uz;have:=@N7;have:=@Pg;exact TT
theorem UX (s:GState)(T:jX s):Ok (λr=>True) (IL s):=by
 unfold IL Nq;have:=@Dx;have:=@Xy;have:=@aaq;exact TT
theorem adg (c:Nk Int)  : Ok (λr=>True) (Zu c):=by
 unfold Zu Yl;exact TT
theorem aar (o:fC)  : Ok (λr=>True) (QU o):=by
 unfold QU;exact TT
theorem XA (o:fC)  : Ok (λr=>True) (Oo o):=by
 unfold Oo;exact TT
theorem adh (o:fC)(cards:Int)(fM:Int)  : Ok (λr=>True) (Zv o cards fM):=by
 unfold Zv;have:=@adg;have:=@aar;have:=@XA;exact TT
theorem Xa (s:GState)(id:Int)(T:jX s):Ok (λr=>True) (Lp s id):=by
 unfold Lp O1;exact TT
theorem aas (s:GState)(iI:Int)(lF:Int)(T:jX s):Ok (λr=>r.length<=1048576) (QV s iI lF):=by
 unfold QV;have:=@ZP;exact TT
theorem Xb (s:GState)(o:fC)(T:jX s):Ok (λr=>True) (Lr s o):=by
 unfold Lr;have:=@Xa;have:=@aas;have:=@Pg;exact TT
theorem UY (cards:List gq)(s:GState)(T:(sZ lC) cards)(J:jX s):Ok (λr=>True) (zX cards s):=by
 unfold zX G6;have:=@adh;have:=@Xb;exact TT
theorem aat (s:GState)(x:oK)(zz_s:jX s)(g:OM x):Ok (λr=>True) (Rh s x):=by
 unfold Rh;have z13:=(g).1;refine ok_jn (λ(s1:Bool)=>s1=false->¬(4<(x.targets.length:Int))) (λk2 J=>?_) (λs1 t=>?_)
 refine fA (Dx _ _ _ ) (λy4 h31=>?_);refine ok_br (λh32=>J _ aj) (λh32=>?_);refine fA (Dx _ _ _ ) (λy5 h33=>?_);refine ok_br (λh34=>J _ aj) (λh34=>?_);apply ok_brd<;>intro C
 (try simp only[lenI] at C)
 exact J _ aj
 (try simp only[lenI] at C)
 exact fA (Ii _ _ bn) (λy6 h36=>J _ aj)
 refine ok_br (λI=>ok_some trivial) (λI=>?_);have hf38:=t I;exact fA (N7 _ _ bn) (λy7 h39=>ok_brd (λh40=>fA (ZO _ _ aS ZM) (λy8 h41=>ok_jn (λ(s9:Bool)=>True) (λk10 T=>ok_brd (λh44=>ok_br (λh45=>ok_brd (λh46=>ok_br (λh47=>T _ trivial) (λh47=>fA (Md _ aS) (λy12 h48=>T _ trivial))) (λh46=>T _ trivial)) (λh45=>T _ trivial)) (λh44=>T _ trivial)) (λs9 hs43=>ok_some trivial))) (λh40=>ok_brd (λh49=>ok_br (λh50=>fA (Md _ aS) (λy13 h51=>ok_some trivial)) (λh50=>ok_some trivial)) (λh49=>ok_some trivial)))
theorem adi (l:List Int)(J:(sZ (λ(_:Int)=>True)) l):Ok (λr=>True) (ZC l):=by
 unfold ZC;have z1:=(J).1;refine jQ (λ(T:Int)=>1<=T) (λ(T:Int)=>((l.length:Int)-T).toNat) ai aK (λT k2 g I=>?_);unfold Ym;apply ok_brd<;>intro C
 (try simp only[lenI] at C)
 have h5:qL T 1=T-1:=Cc (by(try simp only[lenI]);omega) (by(try simp only[lenI]);omega);refine xh ai ai (λx4 h6=>?_);refine xh ai ai (λx5 h7=>?_);refine ok_brd (λt=>ok_some trivial) (λt=>?_);have h9:addI T 1=T+1:=wV ae ae;exact I _ ai ai
 (try simp only[lenI] at C)
 exact ok_some trivial
theorem XB (s:GState)(T:jX s):Ok (λr=>True) (Gl s):=by
 unfold Gl LG LD FC FB;have:=@aat;have:=@Ii;have:=@Md;have:=@Dx;have:=@adi;have:=@Dy;exact TT
theorem adk (cards:List gq)(s:GState)(T:(sZ lC) cards)(J:jX s):Ok (λr=>True) (Td cards s):=by
 unfold Td S9;have:=@Dx;have:=@UX;have:=@Ii;have:=@UY;have:=@XB;exact TT
theorem ltT {α:Type}{l:List α}{i:Nat}(h:i<l.length):decide ((i:Int)<lenI l)=true:=by simp[lenI];omega
theorem ltF {α:Type}{l:List α}:decide ((l.length:Int)<lenI l)=false:=by simp[lenI]
theorem ahf {ρ:Type}{Q:ρ->Prop}{c:Bool}{a b:Option ρ}(h:c=true)(k:If Q a):If Q (br c a b):=by subst h;exact k
theorem if_f {ρ:Type}{Q:ρ->Prop}{c:Bool}{a b:Option ρ}(h:c=false)(k:If Q b):If Q (br c a b):=by subst h;exact k
theorem no {p:Prop}:((false:Bool)=true->p):=λe=>by cases e
theorem Ew {p:Prop}:((true:Bool)=false->p):=λe=>by cases e
theorem Et {α:Type}{P:α->Prop}{l:List α}{i:Nat}(hi:i<l.length)(h:∀ x∈l.take i,P x)(h2:P l[i]):∀ x∈l.take (i+1),P x:=by
 grind[take_succ_get]
theorem UK (l:List GMod)(C:l.length<=1048576):If (λr=>fQ .eql r (bs [])=false->∀ m∈l,lG m=some true) (tH l):=by
 have g:fQ .eql (bs []) (bs [])=true:=rfl;unfold tH;refine xk (λ_=>True) (λk hk=>iM (λ_=>hk _ trivial) λ_=>hk _ trivial) λb _=>iM (λ_=>jK ak) λ_=>?_;refine ad4 l.length (λi _=>∀ m∈l.take i,lG m=some true) ae aF (λi t k hi I hk=>?_) λt k I=>?_
 unfold vZ;refine ahf (ltT hi) (xk (λ_=>lG l[i]=some true) (λk2 J=>RQ λ_=>jk λy e=>iM (λ_=>jK ak) λhy=>?_) λx hx=>hk _ (Et hi I hx));have e:lG l[i]=some true:=by grind
 exact xk (λ_=>True) (λk3 T=>iM (λ_=>jk λ_ _=>T _ trivial) λ_=>T _ trivial) λx _=>jk λ_ _=>jk λ_ _=>jk λ_ _=>J _ e
 grind[vZ,if_f,ltF,jK]
def AbV (a:fU):Prop:=a.kind=1->r13_Is a.filter=some true/\∀ m∈a.mods,lG m=some true
theorem Xc (a:fU)(I:a.mods.length<=1048576):If (λr=>r=true->AbV a) (LC a):=by
 unfold LC;refine xk (λ_=>True) (λk hk=>iM (λ_=>hk _ trivial) λ_=>hk _ trivial) λb _=>iM (λ_=>jK no) λ_=>?_;refine xk (λ_=>True) (λk hk=>iM (λ_=>hk _ trivial) λ_=>iM (λ_=>hk _ trivial) λ_=>hk _ trivial) λb _=>?_;refine xk (λ_=>AbV a) (λk hk=>pY (λh1=>?_) λh1=>?_) λ_ h _ _ _=>h
 refine xk (λb=>b=false->AbV a) (λk2 T=>jk λy e=>iM (λ_=>T _ Ew) λhy=>iM (λ_=>T _ Ew) λ_=>jk λz t=>T _ λJ _=>⟨?_,UK _ I z t J⟩) λb C=>iM (λ_=>jK no) λh=>hk _ (C h)
 grind
 exact xk (λ_=>True) (λk2 T=>iM (λ_=>T _ trivial) λ_=>T _ trivial) λb _=>iM (λ_=>jK no) λ_=>hk _ λh=>absurd h h1
theorem aiW (l:rX):If (λr=>r=true->0<=l.types/\l.types<=63) (Tf l):=by
 unfold Tf;refine xk (λb=>b=false->0<=l.types/\l.types<=63) (λk hk=>pY (λ_=>hk _ Ew) λ_=>pY (λ_=>hk _ Ew) λ_=>pY (λ_=>hk _ Ew) λh1=>pY (λ_=>hk _ Ew) λh2=>hk _ λ_=>⟨by omega,by omega⟩) λb T=>iM (λ_=>jK no) λh _ _ _=>T h
theorem aiX (c:gq)(C:lC c):If (λr=>r=true->Io c) (Tj c):=by
 have hal:=C.2.2.1;unfold Tj;refine xk (λb=>b=false->0<=c.line.types/\c.line.types<=63) (λk hk=>jk λ_ _=>iM (λ_=>hk _ Ew) λ_=>jk λ_ _=>iM (λ_=>hk _ Ew) λ_=>jk λy e=>iM (λ_=>hk _ Ew) λhy=>jk λ_ _=>iM (λ_=>hk _ Ew) λ_=>iM (λ_=>hk _ Ew) λ_=>hk _ λ_=>aiW _ y e ak) λb I=>iM (λ_=>jK no) λh=>?_;have g:=I h;refine xk (λb=>b=false->c.fB.length<=8) (λk hk=>?_) λb I=>iM (λ_=>jK no) λh=>?_
 have last:If (λr=>r=true->Io c) (k (decide (8<lenI c.fB))):=hk _ λh=>by grind[lenI]
 exact iM (λ_=>hk _ Ew) λ_=>iM (λ_=>hk _ Ew) λ_=>iM (λ_=>hk _ Ew) λ_=>iM (λ_=>hk _ Ew) λ_=>jk λ_ _=>iM (λ_=>iM (λ_=>hk _ Ew) λ_=>iM (λ_=>hk _ Ew) λ_=>last) λ_=>last
 have h8:=I h;refine ad4 c.fB.length (λi _=>∀ a∈c.fB.take i,AbV a) ae aF (λi t k hi J hk=>?_) λt k J r _ _=>⟨g,h8,λa ha=>by rw[List.take_length] at J;exact J a ha⟩
 have hx:=C.2.2.2 _ (List.getElem_mem hi);unfold Ti;exact ahf (ltT hi) (xk (λ_=>AbV c.fB[i]) (λk2 T=>RQ λ_=>jk λy e=>iM (λ_=>jK no) λhy=>RQ λ_=>iM (λ_=>T _ (Xc _ hx.2.1.1 y e ak)) λ_=>T _ (Xc _ hx.2.1.1 y e ak)) λx hx=>hk _ (Et hi J hx))
theorem ahg (l:List gq)(T:sZ lC l):If (λr=>r.2=0->∀ c∈l,Io c) (Gm l):=by
 have hlen:=T.1;unfold Gm;refine iM (λ_=>jK λh=>by cases h) λ_=>?_;refine aae l.length (λi=>∀ c∈l.take i,Io c) ae aF (λi k hi J hk=>?_) λk J r _ _=>by grind
 unfold LH;refine ahf (ltT hi) (RQ λ_=>jk λy e=>iM (λ_=>jK λh=>by cases h) λhy=>?_);have:=aiX _ (T.2 _ (List.getElem_mem hi)) y e ak;exact RQ λ_=>jk λ_ _=>iM (λ_=>jK λh=>by cases h) λ_=>RQ λ_=>jk λ_ _=>iM (λ_=>jK λh=>by cases h) λ_=>hk (Et hi J this)
theorem adl (cards:List gq)(s:GState)(hs:jX s):If (λr=>r=true->Asc s.objects) (zX cards s):=by
 have hlen:=hs.2.1.1;unfold zX;refine iM (λ_=>jK no) λ_=>?_;refine aae s.objects.length (λn=>∀ i (h:i+1<s.objects.length),i+1<n->(s.objects[i]).id<(s.objects[i+1]).id) ae (λi h h2=>by omega) (λi k hi I hk=>?_) λk I r _ _=>?_
 unfold G6;refine ahf (ltT hi) (RQ λ_=>xk (λb=>b=false->∀ j (h:j+1<s.objects.length),j+1=i->(s.objects[j]).id<(s.objects[j+1]).id) (λk2 T=>jk λ_ _=>iM (λ_=>T _ Ew) λ_=>iM (λ_=>T _ Ew) λ_=>iM (λ_=>T _ Ew) λ_=>pY (λh0=>?_) λh0=>T _ λ_ j h e=>by omega) λb C=>iM (λ_=>jK no) λh=>jk λ_ _=>iM (λ_=>jK no) λ_=>hk λj h2 t=>?_)
 obtain⟨m,rfl⟩:∃ m,i=m+1:=⟨i-1,by omega⟩
 grind[Cc,RQ]
 grind
 have key:∀ d i (h:i+1+d<s.objects.length),(s.objects[i]).id<(s.objects[i+1+d]).id:=by
  intro d
  induction d<;>grind
 intro i j hi hj J;have:=key (j-i-1) i ae
 grind
def ahh (s:GState):Prop:=∀ c∈s.jT,∀ m∈c.mods,lG m=some true
theorem ahi (s:GState)(hs:jX s):If (λr=>r=true->ahh s) (Gl s):=by
 have J:=hs.2.2.2.2.2.2.1;have C:=J.1
 have Q2:If (λr=>r=true->ahh s) (loopF (FB s) 0):=by
  refine aae s.jT.length (λi=>∀ c∈s.jT.take i,∀ m∈c.mods,lG m=some true) ae aF (λi k hi I hk=>?_) λk I r _ _=>by rw[List.take_length] at I;exact I
  have hx:=J.2 _ (List.getElem_mem hi);unfold FB;exact ahf (ltT hi) (RQ λ_=>xk (λb=>b=false->∀ m∈(s.jT[i]).mods,lG m=some true) (λk2 T=>jk λ_ _=>iM (λ_=>T _ Ew) λ_=>iM (λ_=>T _ Ew) λ_=>jk λ_ _=>iM (λ_=>T _ Ew) λ_=>jk λ_ _=>iM (λ_=>T _ Ew) λ_=>jk λz ez=>T _ λt=>UK _ hx.2.1 z ez t) λb g=>iM (λ_=>jK no) λh=>hk (Et hi I (g h)))
 have Q3:If (λr=>r=true->ahh s) (loopF (FC s) 0):=by
  refine Jo (λ_=>True) trivial λi k _ hk=>?_;unfold FC;exact iM (λ_=>jk λ_ _=>xk (λ_=>True) (λk2 T=>jk λ_ _=>iM (λ_=>T _ trivial) λ_=>iM (λ_=>T _ trivial) λ_=>jk λ_ _=>T _ trivial) λb _=>iM (λ_=>jK no) λ_=>hk _ trivial) λ_=>Q2
 unfold Gl;refine xk (λ_=>True) (λk hk=>iM (λ_=>hk _ trivial) λ_=>iM (λ_=>hk _ trivial) λ_=>hk _ trivial) λb _=>iM (λ_=>jK no) λ_=>?_;refine Jo (λ_=>True) trivial λi k _ hk=>?_;unfold LG;refine iM (λ_=>jk λ_ _=>jk λ_ _=>iM (λ_=>jK no) λ_=>?_) λ_=>Q3;refine Jo (λ_=>True) trivial λj k2 _ T=>?_;unfold LD;exact iM (λ_=>jk λ_ _=>jk λ_ _=>iM (λ_=>jK no) λ_=>T _ trivial) λ_=>hk _ trivial
theorem afa (s:GState)(p:Int)(T:s.fM.length<=1048576):If (λr=>r=true->0<=p/\p<(s.fM.length:Int)) (qO s p):=by
 unfold qO wR;refine jk λy e=>jK λh=>?_;subst h
 by_cases h1:0<=p
 have e:decide (p<=qL (lenI s.fM) 1)=true:=by grind[br]
 have:=of_decide_eq_true e
 grind[lenI,Cc]
 grind[br]
structure StV (s:GState):Prop where
 len:s.objects.length<=2048
 asc:Asc s.objects
 con:ahh s
 act:0<=s.jZ/\s.jZ<(s.fM.length:Int)
theorem alQ (cards:List gq)(s:GState)(hs:jX s):If (λr=>r=true->StV s) (Td cards s):=by
 have C:=hs.1.1;unfold Td;refine xk (λb=>b=false->s.objects.length<=2048) (λk hk=>jk λ_ _=>iM (λ_=>hk _ Ew) λ_=>jk λ_ _=>iM (λ_=>hk _ Ew) λ_=>jk λ_ _=>iM (λ_=>hk _ Ew) λ_=>jk λ_ _=>iM (λ_=>hk _ Ew) λ_=>hk _ λh=>by grind[lenI]) λb J=>iM (λ_=>jK no) λh=>?_;have ho:=J h;refine xk (λb=>b=false->0<=s.jZ/\s.jZ<(s.fM.length:Int)) (λk hk=>jk λ_ _=>iM (λ_=>hk _ Ew) λ_=>jk λy e=>iM (λ_=>hk _ Ew) λhy=>?_) λb J=>iM (λ_=>jK no) λh=>?_
 have:=afa s _ C y e ak;exact jk λ_ _=>iM (λ_=>hk _ Ew) λ_=>jk λ_ _=>iM (λ_=>hk _ Ew) λ_=>iM (λ_=>hk _ Ew) λ_=>jk λ_ _=>hk _ λ_=>this
 have g:=J h;refine Jo (λ_=>True) trivial λi k _ hk=>?_;unfold S9;refine iM (λ_=>jk λ_ _=>jk λ_ _=>iM (λ_=>jK no) λ_=>hk _ trivial) λ_=>xk (λ_=>True) (λk2 T=>iM (λ_=>jk λ_ _=>iM (λ_=>T _ trivial) λ_=>iM (λ_=>T _ trivial) λ_=>T _ trivial) λ_=>iM (λ_=>T _ trivial) λ_=>T _ trivial) λb _=>iM (λ_=>jK no) λ_=>jk λy e=>iM (λhy=>jk λz t=>jK λI=>?_) λ_=>jK no;subst hy I;exact⟨ho,adl cards s hs _ e rfl,ahi s hs _ t rfl,g⟩
theorem ahj (cards:List gq)(s:GState)(hc:sZ lC cards)(hs:jX s):If (λr=>r=true->(∀ c∈cards,Io c)/\StV s/\s.objects.length<=60/\s.fM.length<=4) (vF cards s):=by
 unfold vF;refine xk (λb=>b=false->s.fM.length<=4/\s.objects.length<=60) (λk hk=>pY (λ_=>hk _ Ew) λ_=>pY (λ_=>hk _ Ew) λh1=>pY (λ_=>hk _ Ew) λh2=>pY (λ_=>hk _ Ew) λ_=>pY (λ_=>hk _ Ew) λ_=>pY (λ_=>hk _ Ew) λ_=>pY (λ_=>hk _ Ew) λ_=>pY (λ_=>hk _ Ew) λ_=>hk _ λ_=>by grind[lenI]) λb I=>iM (λ_=>jK no) λh=>?_;have T:=I h;refine Jo (λ_=>True) trivial λi k _ hk=>?_;unfold Be;refine iM (λ_=>jk λ_ _=>jk λ_ _=>jk λ_ _=>iM (λ_=>jK no) λ_=>hk _ trivial) λ_=>jk λy e=>pY (λh0=>jk λz C=>jK λJ=>?_) λ_=>jK no;subst J;exact⟨ahg cards hc _ e h0,alQ cards s hs _ C rfl,T.2,T.1⟩
theorem abL (cards:List gq)(s:GState)(hc:sZ lC cards)(hs:jX s):Ok (λr=>r=true->(∀ c∈cards,Io c)/\StV s/\s.objects.length<=60/\s.fM.length<=4) (vF cards s):=by
 have J:=hs.1.1
 have:Ok (λ_=>True) (vF cards s):=by
  unfold vF;refine ok_jn (λ_=>True) (λk hk=>ok_br (λ_=>hk _ trivial) λ_=>ok_br (λ_=>hk _ trivial) λ_=>ok_br (λ_=>hk _ trivial) λ_=>ok_br (λ_=>hk _ trivial) λ_=>ok_br (λ_=>hk _ trivial) λ_=>ok_br (λ_=>hk _ trivial) λ_=>ok_br (λ_=>hk _ trivial) λ_=>ok_br (λ_=>hk _ trivial) λ_=>hk _ trivial) λb _=>ok_br (λ_=>ok_some trivial) λ_=>?_;refine ok_for1 0 s.fM.length (λ_=>True) 0 rfl (Nat.zero_le _) ae trivial (λi k hi _ hk=>?_) λk _=>?_
  unfold Be;exact ok_br (λ_=>ok_ixL i rfl hi (ok_ixL i rfl hi (ok_ixL i rfl hi (zS (ok_br (λ_=>ok_some trivial) λ_=>hk trivial))))) λh=>by grind[ltT]
  unfold Be;exact ok_br (λh=>by grind[ltF]) λ_=>fA (Xx cards hc) λT _=>ok_br (λ_=>fA (adk cards s hc hs) λI _=>ok_some trivial) λ_=>ok_some trivial
 obtain⟨r,e,_⟩:=this;exact⟨r,e,ahj cards s hc hs r e⟩
structure StA (s:GState):Prop where
 sz:jX s
 ob:s.objects.length<=2048
 asc:Asc s.objects
 con:ahh s
def KE (e:jg):Prop:=e.kind=6\/e.kind=12
theorem aiY {l:List fC}(h:Asc l){j:Nat}(hj:j<l.length){u:fC}(hu:u.id=(l[j]).id):Asc (l.set j u):=by
 have e:∀ i (h1:i<(l.set j u).length) (h2:i<l.length),((l.set j u)[i]).id=(l[i]).id:=λi h1 h2=>by
  grind
 intro i k hi hk T;rw[e i hi bH,e k hk dN];exact h i k _ _ T
theorem StA.obs {s:GState}(H:StA s){j:Nat}(hj:j<s.objects.length){u:fC}(hu:u.id=(s.objects[j]).id):StA { s with objects:=s.objects.set j u }:=by
 obtain⟨z1,z2,z3⟩:=H.sz;exact⟨⟨z1,⟨by show(s.objects.set j u).length<=_;rw[List.length_set];exact z2.1,λ_ _=>trivial⟩,z3⟩,by show(s.objects.set j u).length<=_;rw[List.length_set];exact H.ob,aiY H.asc hj hu,H.con⟩
theorem StA.wait {s:GState}(H:StA s){w:List gm}(T:sZ pX w):StA { s with waiting:=w }:=by
 obtain⟨z1,z2,z3,z4,z5,z6,z7,z8⟩:=H.sz;exact⟨⟨z1,z2,z3,z4,z5,T,z7,z8⟩,H.ob,H.asc,H.con⟩
theorem ahk {s:GState}(H:StA s)(id:Int):Ok (λ_=>True) (Kt s id):=by
 have ho:=H.ob;unfold Kt LJ;exact fA (R:=λr=>r<(s.objects.length:Int)) (fA (OQ _ _ ae λx=>ok_some trivial) λy hy=>ok_some hy) λy hy=>ok_brd (λ_=>ok_some trivial) λh=>xh ae hy λ_ _=>ok_some trivial
theorem abM {s:GState}(H:StA s)(id:Int):Ok (λ_=>True) (wG s id):=by
 unfold wG;exact fA (ahk H id) λy _=>ok_br (λ_=>ok_some trivial) λ_=>ok_some trivial
theorem adm (s:GState)(p:Int):Ok (λ_=>True) (Bg s p):=by
 unfold Bg;exact ok_brd (λh=>ok_brd (λh2=>xh h h2 λ_ _=>ok_some trivial) λ_=>ok_some trivial) λ_=>ok_some trivial
theorem akw {s:GState}(H:StA s)(cards:List gq){e:jg}(he:KE e):Ok (λ_=>True) (Bh cards s e):=by
 unfold Bh;refine fA (abM H _) λy _=>?_;rcases he with h|h<;>rw[h]
 ·iterate 9 refine iJ rfl ?_
  exact lh rfl (ok_br (λ_=>ok_some trivial) λ_=>ok_some trivial)
 ·iterate 15 refine iJ rfl ?_
  exact lh rfl (ok_br (λ_=>fA (adm _ _) λ_ _=>ok_some trivial) λ_=>ok_some trivial)
theorem afb (s:GState)(hs:s.objects.length<=2048)(id:Int):Ok (λr=>∀ j,r=some j->j<s.objects.length) (tV s id):=by
 unfold tV;refine ok_for1 0 s.objects.length (λ_=>True) 0 rfl (Nat.zero_le _) ae trivial (λi k hi _ hk=>?_) λk _=>?_
 unfold Bz;exact lh (ltT hi) (gU i rfl hi (gB hi (ok_brd (λ_=>gU i rfl hi (ok_some λj e=>by grind)) λ_=>hk trivial)))
 grind[Bz,iJ,ltF,ok_some]
theorem Xd (s:GState)(all:List eQ)(id:Int)(hs:s.objects.length<=2048):Ok (λ_=>True) (Hq s all id):=by
 unfold Hq;refine ok_for1 0 s.objects.length (λ_=>True) 0 rfl (Nat.zero_le _) ae trivial (λi k hi _ hk=>?_) λk _=>?_
 unfold JH;refine lh (ltT hi) (ok_ixL i rfl hi (ok_jn (λb=>b=true->i<all.length) (λk6 T=>ok_brd (λ_=>T _ λh=>?_) λ_=>T _ λh=>by cases h) λb J=>ok_br (λh=>ok_ixL i rfl (J h) (fA (sW _ _) λ_ _=>ok_some trivial)) λ_=>hk trivial))
 simp_all[lenI]
 simp_all[JH,iJ,ltF,ok_some]
def Xe (e:jg)(o:fC):fC:=bif decide (e.kind=6) then { o with kN:=true } else { o with nT:=e.lF }
theorem aiZ {s:GState}(ho:s.objects.length<=2048)(J:Asc s.objects){j:Nat}(hj:j<s.objects.length):tV s (s.objects[j]).id=some (some j):=by
 unfold tV;refine ok_eq (ok_for1 0 s.objects.length (λi=>∀ k (h:k<s.objects.length),k<i->(s.objects[k]).id≠(s.objects[j]).id) 0 rfl (Nat.zero_le _) ae (λ_ _ h=>by omega) (λi k hi T hk=>?_) λk T=>absurd rfl (T j hj hj));unfold Bz;refine lh (ltT hi) (gU i rfl hi (gB hi (ok_brd (λe=>gU i rfl hi (ok_some (by rw[Jp J hi hj e]))) λe=>hk λm I h=>?_)))
 grind
theorem alR (l:List fC)(f:fC->Option Bool)(id:Int)(J:l.length<=2000000)(U:∀ x,f x=some (decide (x.id=id))):Ok (λr=>(r=-1/\∀ x∈l,x.id≠id)\/∃ j:Nat,r=(j:Int)/\∃ h:j<l.length,(l[j]).id=id) (gQ l f):=by
 unfold gQ;refine ok_for1 0 l.length (λi=>∀ x∈l.take i,x.id≠id) 0 rfl (Nat.zero_le _) ae aF (λi k hi T hk=>?_) λk T=>?_
 unfold mP;exact lh (ltT hi) (ok_ixL i rfl hi (ok_bnde (U _) (ok_brd (λe=>ok_some (.inr ⟨i,rfl,hi,e⟩)) λe=>hk (Et hi T e))))
 unfold mP;rw[List.take_length] at T;exact iJ ltF (ok_some (.inl ⟨rfl,T⟩))
theorem ahl {l:List fC}(J:Asc l)(T:l.length<=2000000){f:fC->Option Bool}{j:Nat}(hj:j<l.length)(U:∀ x,f x=some (decide (x.id=(l[j]).id))):gQ l f=some (j:Int):=by
 refine ok_eq (Zj (alR l f _ T U) ?_)
 rintro r (⟨_,h⟩|⟨i,rfl,hi,e⟩)
 grind
 grind[Jp]
def TZ (s:GState)(p:Int):Prop:=∃ j:Nat,p=(j:Int)/\∃ h:j<s.fM.length,(s.fM[j]).lost=false
def afc (s:GState)(e:jg)(j:Nat):Prop:=∃ h:j<s.objects.length,(s.objects[j]).id=e.object/\(s.objects[j]).iI=0/\((e.kind=6/\(s.objects[j]).kN=false)\/(e.kind=12/\TZ s e.lF))
theorem alS {s:GState}(H:StA s)(I:Asc s.objects)(cards:List gq){e:jg}{j:Nat}(hc:afc s e j):Bh cards s e=some true:=by
 obtain⟨hj,h1,h2,C⟩:=hc;have ho:=H.ob
 have T:wG s e.object=some (s.objects[j],true):=by
  unfold wG Kt LJ;have J:gQ s.objects (λa0=>FH a0 (s.objects[j]).id)=some (j:Int):=ahl I ae hj λx=>rfl
  grind[bnd,decide_eq_false,ni,br]
 unfold Bh;rw[T];rcases C with ⟨k,t⟩|⟨k,m,em,hm,g⟩<;>simp_all[Bg,lenI,ni,br,bnd]
theorem ahm {l:List fC}{j:Nat}(hj:j<l.length)(d:Bool){e:jg}(he:KE e):xK l j d e=some (l.set j (Xe e l[j])):=by
 have e1:l[j]?=some l[j]:=List.getElem?_eq_getElem hj;unfold xK Xe;rw[e1];rcases he with h|h<;>rw[h]<;>rfl
theorem do_p {s:GState}(H:StA s)(g:Asc s.objects)(cards:List gq)(all:List eQ){e:jg}{j:Nat}(hc:afc s e j):∃ h:j<s.objects.length,Tt cards s all e=some { s with objects:=s.objects.set j (Xe e s.objects[j]) }:=by
 have hi:=alS H g cards hc;obtain⟨hj,h1,h2,h3⟩:=hc;have he:KE e:=h3.elim (λh=>.inl h.1) λh=>.inr h.1;have ho:=H.ob;refine⟨hj,ok_eq ?_⟩;have U:=aiZ ho g hj;rw[h1] at U;have T:=he;obtain⟨t,C,_⟩:=afb { s with objects:=s.objects.set j (Xe e s.objects[j]) } ak e.source;unfold Tt;refine ok_bnde (RP s H.sz) (ok_bnde hi (iJ rfl ?_));rcases he with h|h<;>rw[h]
 ·iterate 8 refine iJ rfl ?_
  refine lh rfl (ok_jn (λl=>l=s.objects.set j (Xe e s.objects[j])) (λk4 I=>ok_bnde U (fA (Xd s all _ ho) λd _=>ok_bnde (ahm hj d T) (I _ rfl))) λl J=>?_);subst J;refine ok_bnde C ?_;cases t<;>exact iJ rfl (ok_some rfl)
 ·iterate 12 refine iJ rfl ?_
  refine lh rfl (ok_jn (λl=>l=s.objects.set j (Xe e s.objects[j])) (λk4 I=>ok_bnde U (fA (Xd s all _ ho) λd _=>ok_bnde (ahm hj d T) (I _ rfl))) λl J=>?_);subst J;refine ok_bnde C ?_;cases t<;>exact iJ rfl (ok_some rfl)
theorem abN {s:GState}(H:StA s){all:List eQ}(J:abv all)(id:Int):Ok (λr=>jG r.2.1) (Bi s all id):=by
 have ho:=H.ob;unfold Bi;refine fA (OQ _ _ ae λx=>ok_some trivial) λy hy=>ok_brd (λ_=>ok_some agJ) λh0=>ok_brd (λ_=>xh ae hy λ_ _=>ok_some agJ) λh1=>xh ae hy λ_ _=>xh ae bQ λt T=>ok_some (J t T)
theorem adn (cards:List gq)(s:GState)(all:List eQ){e:jg}(he:KE e)(T:qj)(you source:Int):yZ cards s all e T you source=some false:=by
 unfold yZ;refine ok_eq (qM (λ_=>ok_some rfl) λ_=>?_);rcases he with h|h<;>rw[h]
 ·iterate 7 refine iJ rfl ?_
  exact ok_some rfl
 ·iterate 7 refine iJ rfl ?_
  exact ok_some rfl
theorem abO {s:GState}(H:StA s)(cards:List gq){all:List eQ}(ha:abv all){e:jg}(he:KE e):zf cards s all e=some []:=by
 have ho:=H.ob;have k1:e.kind≠1:=by rcases he with h|h<;>omega
 have k2:e.kind≠2:=by rcases he with h|h<;>omega
 unfold zf;obtain⟨b,eb,_⟩:=akw H cards he;refine ok_eq (ok_bnde eb (ok_br (λ_=>ok_some rfl) λ_=>ok_jn (λ_=>True) (λk3 h3=>?_) λu _=>?_))
 refine fA (abN H ha _) λy _=>ok_jn (λb=>b=false) (λk7 h7=>?_) λb J=>by subst J;exact iJ rfl (h3 _ trivial)
 exact ok_br (λ_=>ok_brd (λh1=>absurd h1 k1) λ_=>h7 _ rfl) λ_=>h7 _ rfl
 refine iY 0 s.objects.length (λ_ l=>l=[]) 0 rfl (Nat.zero_le _) ae rfl (λi l k hi C hk=>?_) λl k C=>?_
 subst C;unfold zF;refine lh (ltT hi) (ok_ixL i rfl hi (fA (abN H ha _) λy hy=>?_));have hla:=hy.2.2.1;refine jQ (λq=>∃ j:Nat,q.2.1=(j:Int)/\j<=y.2.1.fB.length/\q.2.2=[]) (λq=>y.2.1.fB.length-q.2.1.toNat) ⟨0,rfl,by omega,rfl⟩ (by show y.2.1.fB.length-_<18446744073709551616;omega) ?_
 rintro⟨o,j',u⟩ k15 ⟨j,ej,hj,hu⟩ hk15
 simp only at ej hu;subst ej;subst hu;unfold Hf;refine ok_brd (λh=>?_) λh=>hk _ rfl;have t:j<y.2.1.fB.length:=by grind[lenI]
 refine ok_jn (λq=>q.2=[]) (λk18 g=>?_) λq hq=>hk15 _ ⟨j+1,addI_nat ae,by omega,hq⟩ cu;exact ok_ixL j rfl t (ok_jn (λb=>b=false) (λk22 T=>ok_brd (λ_=>ok_brd (λ_=>ok_bnde (adn cards s all he _ _ _) (T _ rfl)) λ_=>T _ rfl) λ_=>T _ rfl) λb J=>by subst J;exact iJ rfl (g _ rfl))
 subst C;unfold zF;exact iJ ltF (ok_jn (λb=>b=true) (λk28 I=>qM (λ_=>I _ rfl) λh=>absurd h k2) λb J=>by subst J;exact lh rfl (ok_some rfl))
theorem ai0 (l w0:List gm)(g:l.length<=5000000000)(h1:∀ x∈l,pX x)(h0:sZ pX w0){ρ:Type}{Q:ρ->Prop}{step:Int×List gm->(Int×List gm->Option ρ)->Option ρ}
  (hs:∀ (i:Nat) (t:List gm) (k:Int×List gm->Option ρ),i<l.length->step ((i:Int),t) k=br (decide ((i:Int)<lenI l)) (jn (λC:(List gm)=>k ((addI (i:Int) 1),C)) λJ=>bnd (gu l (i:Int)) λx11=>br (decide ((lenI t)<64)) (gY (t.length+([x11]).length) 768 (J (t++[x11]))) (J t)) none)
  (he:∀ t k,sZ pX t->Ok Q (step ((l.length:Int),t) k)):Ok Q (loopF step (0,w0)):=by
 refine iY 0 l.length (λ_ t=>sZ pX t) 0 rfl (Nat.zero_le _) ae h0 (λi t k hi T hk=>?_) λt k T=>he t k T;rw[hs i t k hi];refine ok_brd (λ_=>ok_jn (sZ pX) (λJ I=>ok_ixL i rfl hi (ok_brd (λh=>?_) λ_=>I _ T)) λu hu=>hk u hu) λh=>absurd (show(i:Int)<(l.length:Int) by omega) h;have h:t.length<64:=by grind[lenI]
 refine gZ ak ak (I _ ⟨by simp;omega,λx hx=>?_⟩);rcases List.mem_append.1 hx with hx|hx
 exact T.2 x hx
 grind
section
theorem lay {cards:List gq}(hc:sZ lC cards)(hv:∀ c∈cards,Io c){s:GState}(H:StA s):Ok (λr=>r.length=s.objects.length/\∀ t∈r,jG t) (ou cards s):=by
 obtain⟨T,e,_,h⟩:=aef hc H.sz hv H.ob H.asc H.con;exact⟨T,e,h⟩
variable {cards:List gq}(hc:sZ lC cards)(hv:∀ c∈cards,Io c){s:GState}(H:StA s){e:jg}(he:KE e)
include hc hv H he
theorem XC (k:fH):yw k cards s e true=some (s,e,true,k):=by
 unfold yw;refine ok_eq (jQ (λ_=>True) (λ_=>0) trivial aU λI k2 _ _=>?_);unfold EW;refine fA (lay hc hv H) λall T=>?_
 have J:pR cards s all e [] true=some []:=by
  unfold pR FK;rw[abO H cards T.2 he];rfl
 exact ok_bnde J (lh rfl (ok_some rfl))
structure akx (s:GState)(e:jg)(j:Nat)(h:j<s.objects.length)(t:GState):Prop where
 st:StA t
 ob:t.objects=s.objects.set j (Xe e s.objects[j])
 pl:t.fM=s.fM
theorem ahn (g:Asc s.objects){j:Nat}(T:afc s e j)(k:fH):∃ h:j<s.objects.length,Ok (akx s e j h) (uf k cards s e):=by
 have k1:e.kind≠1:=by rcases he with h|h<;>omega
 have k2:e.kind≠2:=by rcases he with h|h<;>omega
 have k10:e.kind≠10:=by rcases he with h|h<;>omega
 have hj:=T.1;refine⟨hj,?_⟩;unfold uf;refine fA (lay hc hv H) λa I=>?_;obtain⟨_,ed⟩:=do_p H g cards a T;have J:StA { s with objects:=s.objects.set j (Xe e s.objects[j]) }:=H.obs hj (by grind[Xe]);refine ok_bnde ed (fA (lay hc hv J) λb t=>fA (agM _ _ _ _ _ ⟨H.ob,J.ob,I.2,t.2,k2,k10⟩) λl C=>?_);refine ai0 l _ C.1 C.2 J.sz.2.2.2.2.2.1 (λi u k hi=>?_) λu k hu=>?_
 unfold tZ;have e1:decide ((i:Int)<lenI l)=true:=ltT hi;simp only[e1];rfl
 unfold tZ;exact iJ ltF (qM (λ_=>ok_some ⟨J.wait hu,rfl,rfl⟩) λh=>absurd h k1)
theorem ajm (g:Asc s.objects){j:Nat}(T:afc s e j)(k:fH):∃ h:j<s.objects.length,Ok (λr=>akx s e j h r.1) (xP k cards s e):=by
 obtain⟨hj,hh⟩:=ahn hc hv H he g T k;have k3:e.kind≠3:=by rcases he with h|h<;>omega
 refine⟨hj,?_⟩;unfold xP Ia;refine fA (R:=λr=>akx s e j hj r.1) ?_ λt J=>ok_some J
 refine ok_bnde (XC hc hv H he k) (ok_jn (λb=>b=false) (λk3 h3=>iJ rfl (ok_bnde (alS H g cards T) (h3 _ rfl))) λb I=>by
  subst I;refine iJ rfl (ok_jn (λ_=>True) (λk7 h7=>?_) λu _=>fA hh λt J=>jQ (λ_=>True) (λ_=>0) trivial aU λ_ k _ _=>?_)
  exact ok_jn (λb=>b=false) (λk10 C=>ok_brd (λh=>absurd h k3) λ_=>C _ rfl) λb I=>by subst I;exact iJ rfl (h7 _ trivial)
  unfold Ja;exact iJ rfl (ok_some J))
end
theorem aho (s:GState)(hs:jX s):Ok (λl=>l.length<=s.fM.length/\∀ p∈l,TZ s p) (FQ s):=by
 have h1:=hs.1.1;unfold FQ;refine iY 0 s.fM.length (λi t=>t.length<=i/\∀ p∈t,TZ s p) 0 rfl (Nat.zero_le _) ae ⟨Nat.le_refl _,by simp⟩ (λi t k hi J hk=>?_) λt k J=>?_
 have g1:=J.1;unfold EL;refine lh (ltT hi) (ok_jn (λu=>u.length<=i+1/\∀ p∈u,TZ s p) (λk5 I=>ok_ixL i rfl hi (ok_br (λh=>gZ ak ak (I _ ⟨by simp;omega,λp T=>?_⟩)) λ_=>I _ ⟨by grind,J.2⟩)) λu hu=>hk u hu);rcases List.mem_append.1 T with T|T
 grind
 exact⟨i,List.mem_singleton.1 T,hi,by grind⟩
 grind[EL,iJ,ltF,ok_some]
theorem ahp (s:GState)(p0:Int)(hs:jX s)(C:0<=p0/\p0<(s.fM.length:Int)):Ok (λl=>l.length<=s.fM.length/\∀ p∈l,TZ s p/\p≠p0) (vV s p0):=by
 have h1:=hs.1.1;unfold vV;refine ok_jn (λx=>x=p0) (λk2 h2=>ok_jn (λb=>b=false) (λk5 h5=>ok_brd (λh=>by omega) λ_=>h5 _ (decide_eq_false bQ)) λb I=>by subst I;exact iJ rfl (h2 _ rfl)) λx hx=>fA (aho s hs) λy hy=>?_;subst hx;have hy1:=hy.1;refine iY 0 y.length (λi (t:List Int×List Int)=>t.1.length+t.2.length<=i/\(∀ p∈t.1,TZ s p/\p≠x)/\∀ p∈t.2,TZ s p/\p≠x) 0 rfl (Nat.zero_le _) ae aF (λi t k hi J hk=>?_) λt k J=>?_
 obtain⟨g1,g2,g3⟩:=J;have gy:=hy.2 _ (List.getElem_mem hi);unfold EM;refine lh (ltT hi) (ok_jn (λ(u:List Int×List Int)=>u.1.length+u.2.length<=i+1/\(∀ p∈u.1,TZ s p/\p≠x)/\∀ p∈u.2,TZ s p/\p≠x) (λk12 T=>ok_ixL i rfl hi ?_) λu hu=>hk u hu);obtain⟨c,g,c1,c2⟩:=ac9 y[i] x
 have add:c≠0->∀ (l:List Int),(∀ p∈l,TZ s p/\p≠x)->∀ p∈l++[y[i]],TZ s p/\p≠x:=λh0 l hl p C=>by
  grind
 refine ok_bnde g (ok_brd (λh=>gZ ak ak (T _ ⟨by simp;omega,add ae _ g2,g3⟩)) λ_=>ok_brd (λh=>gZ ak ak (T _ ⟨by simp;omega,g2,add ae _ g3⟩)) λ_=>T _ ⟨by grind,g2,g3⟩)
 grind[EM,iJ,ltF,gZ,ok_some]
theorem alT (s:GState)(o:fC)(t:eQ):Ok (λr=>r=true->o.iI=0/\o.kN=false) (LQ s o t):=by
 unfold LQ;refine ok_jn (λb=>b=false->o.iI=0/\o.kN=false) (λk2 h2=>qM (λ_=>h2 _ Ew) λI=>ok_brd (λ_=>h2 _ Ew) λ_=>qM (λ_=>h2 _ Ew) λ_=>h2 _ λJ=>⟨I,J⟩) λb C=>ok_br (λ_=>ok_some no) λh=>?_;have hh:=C h;exact ok_jn (λ_=>True) (λk5 T=>ok_br (λ_=>fA (sW _ _) λ_ _=>T _ trivial) λ_=>T _ trivial) λb _=>ok_br (λ_=>ok_some no) λ_=>fA (sW _ _) λ_ _=>ok_br (λ_=>fA (sW _ _) λ_ _=>ok_some λ_=>hh) λ_=>ok_some no
def abP (s:GState)(y:List Int)(x:eX):Prop:=x.kind=7/\x.b∈y/\∃ j,∃ h:j<s.objects.length,(s.objects[j]).id=x.a/\(s.objects[j]).iI=0/\(s.objects[j]).kN=false
theorem aky (s:GState)(T:List eQ)(y:List Int)(hy:y.length<=4)(ho:s.objects.length<=60)(e:vV s s.jZ=some y):Ok (λr=>r.length<=240/\∀ x∈r,abP s y x) (oC s T):=by
 unfold oC;refine ok_bnde e (iY 0 s.objects.length (λi t=>t.length<=4*i/\∀ x∈t,abP s y x) 0 rfl (Nat.zero_le _) ae ⟨by simp,by simp⟩ (λi t k hi g hk=>?_) λt k g=>?_)
 obtain⟨i1,i2⟩:=g;unfold HY;refine lh (ltT hi) (ok_jn (λu=>u.length<=4*(i+1)/\∀ x∈u,abP s y x) (λk6 h6=>ok_ixL i rfl hi (ok_jn (λb=>b=false->(s.objects[i]).iI=0/\(s.objects[i]).kN=false) (λk10 J=>ok_brd (λ_=>J _ Ew) λh=>xh ae bQ λx _=>fA (alT _ _ _) λb I=>J _ λh=>I ak) λb I=>ok_br (λ_=>h6 _ ⟨by grind,i2⟩) λU=>?_)) λu hu=>hk u hu);have hz:=I U;refine iY 0 y.length (λj t=>t.length<=4*i+j/\∀ x∈t,abP s y x) 0 rfl (Nat.zero_le _) ae ⟨i1,i2⟩ (λj t k2 hj hJ C=>?_) λt k2 hJ=>?_
 obtain⟨j1,j2⟩:=hJ;unfold Hz;refine lh (ltT hj) (ok_ixL j rfl hj (zS (gZ ak ak (C _ ⟨by simp;omega,λx hx=>?_⟩))));rcases List.mem_append.1 hx with hx|hx
 exact j2 x hx
 rw[List.mem_singleton.1 hx];exact⟨rfl,List.getElem_mem hj,i,hi,rfl,hz⟩
 grind[Hz,iJ,ltF]
 grind[HY,iJ,ltF,ok_some]
theorem ahq (l:List eX)(f:eX->Option Bool)(p:eX->Bool)(J:l.length<=2000000)(U:∀ x,f x=some (p x)):kZ l f=some (l.any p):=by
 unfold kZ mg;refine ok_eq (fA (R:=λy=>(l.any p=true/\0<=y)\/(l.any p=false/\y=-1)) (ok_for1 0 l.length (λi=>(l.take i).any p=false) 0 rfl (Nat.zero_le _) ae rfl (λi k hi T hk=>?_) λk T=>?_) ?_)
 unfold rY;exact lh (ltT hi) (ok_ixL i rfl hi (ok_bnde (U _) (ok_br (λh=>ok_some (.inl ⟨List.any_eq_true.2 ⟨_,List.getElem_mem hi,h⟩,by omega⟩)) λh=>hk (by grind[take_succ_get]))))
 unfold rY;rw[List.take_length] at T;exact iJ ltF (ok_some (.inr ⟨T,rfl⟩))
 rintro y (⟨h,h2⟩|⟨h,rfl⟩)
 grind[ok_some]
 grind[ok_some]
open Classical in
theorem akz (l:List eX)(o:eX)(t:l.length<=2000000):oP l o=some (decide (o∈l)):=by
 unfold oP yF;refine ok_eq (fA (R:=λy=>(o∈l/\0<=y)\/(o ∉ l/\y=-1)) (ok_for1 0 l.length (λi=>o ∉ l.take i) 0 rfl (Nat.zero_le _) ae aF (λi k hi J hk=>?_) λk J=>?_) ?_)
 have eo:∀ {x:eX},(decide (o.kind=x.kind)&&(decide (o.a=x.a)&&(decide (o.b=x.b)&&true)))=true↔o=x:=λ{x}=>by
  obtain⟨a,b,c⟩:=o;obtain⟨g,C,I⟩:=x;simp
 unfold vP;refine lh (ltT hi) (ok_ixL i rfl hi (zS (ok_br (λh=>ok_some (.inl ⟨eo.1 h ▸ List.getElem_mem hi,by omega⟩)) λh=>hk λT=>?_)));rw[take_succ_get l i hi] at T;rcases List.mem_append.1 T with T|T
 exact J T
 rw[eo.2 (List.mem_singleton.1 T)] at h;cases h
 unfold vP;rw[List.take_length] at J;exact iJ ltF (ok_some (.inr ⟨J,rfl⟩))
 rintro y (⟨h,h2⟩|⟨h,rfl⟩)
 exact ok_some (by simp[h,h2])
 exact ok_some dI
def hasB (s:GState)(T:List eQ)(id key:Int):Bool:=(uw s T id key).getD false
theorem ajn (s:GState)(T:List eQ)(id key:Int)(ho:s.objects.length<=60):uw s T id key=some (hasB s T id key):=by
 have:Ok (λ_=>True) (uw s T id key):=by
  unfold uw;exact fA (OQ _ _ ae λx=>ok_some trivial) λy hy=>ok_brd (λh0=>ok_brd (λh1=>xh h0 h1 λx _=>fA (sW _ _) λ_ _=>ok_some trivial) λ_=>ok_some trivial) λ_=>ok_some trivial
 obtain⟨r,e,_⟩:=this;rw[hasB,e];rfl
theorem ahr {s:GState}{T:List eQ}(key:Int)(ho:s.objects.length<=60)(I:Asc s.objects){j:Nat}(hj:j<s.objects.length)(hT:j<T.length):hasB s T (s.objects[j]).id key=decide (iL .and .i64 (T[j]).keys key=key):=by
 have J:gQ s.objects (λa0=>FT a0 (s.objects[j]).id)=some (j:Int):=ahl I ae hj λx=>rfl;unfold hasB uw;rw[J];simp only[bnd];rw[decide_eq_true (show(0:Int)<=(j:Int) by omega),decide_eq_true (show(j:Int)<lenI T by grind[lenI]),ni,List.getElem?_eq_getElem hT];rfl
def N8 (able:List eX)(m:List Int)(l:List eX):Prop:=(∀ x∈l,x∈able)/\l.Pairwise (λx y=>x.a≠y.a)/\∀ id∈m,∃ x∈l,x.a=id
section
variable {s:GState}{T:List eQ}{able:List eX}(ho:s.objects.length<=60)(e:oC s T=some able)(hab:able.length<=240)
include ho e hab
theorem akA:Ok (λm=>m.length<=able.length/\m.Nodup/\∀ id,id∈m↔∃ x∈able,x.a=id/\hasB s T id 65536=true) (xO s T):=by
 unfold xO;refine ok_bnde e (iY 0 able.length (λi t=>t.length<=i/\t.Nodup/\∀ id,id∈t↔∃ x∈able.take i,x.a=id/\hasB s T id 65536=true) 0 rfl (Nat.zero_le _) ae ⟨Nat.le_refl _,by simp,by simp⟩ (λi t k hi I hk=>?_) λt k I=>?_)
 obtain⟨i1,i2,i3⟩:=I
 have st:∀ id,(∃ x∈able.take (i+1),x.a=id/\hasB s T id 65536=true)↔(∃ x∈able.take i,x.a=id/\hasB s T id 65536=true)\/((able[i]).a=id/\hasB s T id 65536=true):=λid=>by
  rw[take_succ_get able i hi]
  grind
 unfold H9;refine lh (ltT hi) (ok_jn (λu=>u.length<=i+1/\u.Nodup/\∀ id,id∈u↔∃ x∈able.take (i+1),x.a=id/\hasB s T id 65536=true) (λk6 C=>ok_ixL i rfl hi (ok_jn (λb=>b=(hasB s T (able[i]).a 65536&&!decide ((able[i]).a∈t))) (λk10 J=>ok_bnde (ajn s T _ _ ho) (ok_br (λh=>ok_bnde (Jl t _ ae) (J _ ak)) λh=>J _ (by rw[h];rfl))) λb g=>ok_br (λh=>gZ ak ak (C _ ⟨by simp;omega,?_,λid=>?_⟩)) λh=>C _ ⟨by grind,i2,λid=>?_⟩)) λu hu=>hk u hu)
 grind
 grind
 grind
 grind[H9,iJ,ltF,ok_some]
theorem aau {m:List Int}(em:xO s T=some m)(hm:m.length<=able.length)(l:List eX)(hl:l.length<=60):Ok (λc=>c=0↔N8 able m l) (tY s T l):=by
 classical
 unfold tY;refine ok_bnde e (ok_for1 0 l.length (λi=>(∀ x∈l.take i,x∈able)/\(l.take i).Pairwise λx y=>x.a≠y.a) 0 rfl (Nat.zero_le _) ae aF (λi k hi J hk=>?_) λk J=>?_)
 have bad:(¬ l[i]∈able\/∃ x∈l.take i,x.a=(l[i]).a)->((18:Int)=0↔N8 able m l):=λh=>by
  refine⟨λh=>bY,λhc=>?_⟩;rcases h with h|⟨x,hx,ex⟩
  exact absurd (hc.1 _ (List.getElem_mem hi)) h
  obtain⟨j,hj,C⟩:=List.getElem_of_mem hx;simp only[List.length_take] at hj;rw[List.getElem_take] at C;exact absurd ex (C ▸ List.pairwise_iff_getElem.1 hc.2.1 j i ae hi ae)
 have sub:Az l 0 (i-0)=l.take i:=by simp[Az]
 unfold EO;refine lh (ltT hi) (ok_ixL i rfl hi (Wp (i:=0) (j:=i) rfl rfl (Nat.zero_le _) ae ?_));simp only;rw[sub];refine ok_bnde (ahq _ _ (λx=>decide (x.a=(l[i]).a)) aY λx=>rfl) (ok_jn (λb=>(b=true->(¬ l[i]∈able\/∃ x∈l.take i,x.a=(l[i]).a))/\(b=false->l[i]∈able/\∀ x∈l.take i,x.a≠(l[i]).a)) (λk9 g=>ok_br (λh=>g _ ⟨λ_=>.inr ?_,Ew⟩) λh=>ok_bnde (akz _ _ ae) (g _ ⟨λh2=>.inl ?_,λh2=>⟨?_,?_⟩⟩)) λb t=>ok_br (λh=>ok_some (bad (t.1 h))) λh=>hk ?_)
 grind
 grind
 grind
 grind
 obtain⟨g1,g2⟩:=t.2 h;refine⟨Et hi J.1 g1,?_⟩
 grind[take_succ_get]
 unfold EO;rw[List.take_length] at J;refine iJ ltF (ok_bnde em (ok_for1 0 m.length (λi=>∀ id∈m.take i,∃ x∈l,x.a=id) 0 rfl (Nat.zero_le _) ae aF (λi k hi I hk=>?_) λk I=>?_))
 unfold EN;refine lh (ltT hi) (ok_ixL i rfl hi (ok_bnde (ahq _ _ (λx=>decide (x.a=m[i])) ae λx=>rfl) (ok_br (λh=>ok_some ⟨λh=>bY,λhc=>?_⟩) λh=>hk (Et hi I ?_))))
 obtain⟨x,hx,ex⟩:=hc.2.2 _ (List.getElem_mem hi)
 grind
 grind
 unfold EN;rw[List.take_length] at I;exact iJ ltF (ok_some ⟨λ_=>⟨J.1,J.2,I⟩,λ_=>rfl⟩)
end
def tpF (m:List eX)(vig:Int->Bool)(o:fC):fC:={ o with kN:=o.kN || (m.any (λx=>decide (x.a=o.id))&&!vig o.id) }
def atF (m:List eX)(o:fC):fC:=match m.find? (λx=>decide (x.a=o.id)) with|some x=>{ o with nT:=x.b }|none=>o
theorem ado (m:List eX)(o:fC):(atF m o).id=o.id:=by grind[atF]
theorem aeg {O:List fC}{F G:fC->fC}{j:Nat}(hj:j<O.length){u:fC}(hu:u=G O[j])(h:∀ i (hi:i<O.length),i≠j->G O[i]=F O[i]):(O.map F).set j u=O.map G:=by
 refine List.ext_getElem aF λi h1 h2=>?_
 grind
theorem aav {O:List fC}(J:Asc O){F:fC->fC}(hF:∀ o,(F o).id=o.id):Asc (O.map F):=by
 intro i j hi hj T;simp only[List.getElem_map,hF];exact J i j bH dM T
structure ahs (s:GState)(l:List eX):Prop where
 one:l.Pairwise λx y=>x.a≠y.a
 can:∀ x∈l,(∃ j,∃ h:j<s.objects.length,(s.objects[j]).id=x.a/\(s.objects[j]).iI=0/\(s.objects[j]).kN=false)/\TZ s x.b
theorem fresh {l:List eX}(h:l.Pairwise λx y=>x.a≠y.a){i:Nat}(hi:i<l.length):∀ x∈l.take i,x.a≠(l[i]).a:=by
 grind[List.getElem_of_mem,List.pairwise_iff_getElem]
theorem akB {cards:List gq}(hc:sZ lC cards)(hv:∀ c∈cards,Io c){s:GState}(H:StA s)(ha:Asc s.objects)(ho:s.objects.length<=60)(T:List eQ){l:List eX}(hl:l.length<=1000)(G:ahs s l)(J:Int->Bool)(hvig:∀ id,uw s T id 8=some (J id))(k:fH) :
  Ok (λr=>r.2.1=true/\r.1.objects=s.objects.map λo=>atF l (tpF l J o)) (loopF (ug cards s T l) (k,s,0)):=by
 have any_no:∀ {m:List eX} {x:eX} {id:Int},x.a≠id->(m++[x]).any (λx=>decide (x.a=id))=m.any (λx=>decide (x.a=id)):=λ{m x id} h=>by simp[h]
 refine jQ (λq=>∃ j:Nat,q.2.2=(j:Int)/\j<=l.length/\StA q.2.1/\q.2.1.fM=s.fM/\q.2.1.objects=s.objects.map (tpF (l.take j) J)) (λq=>l.length-q.2.2.toNat) ⟨0,rfl,by omega,H,rfl,?_⟩ (by show l.length-_<18446744073709551616;omega) ?_
 simp_all[List.map_id'',tpF]
 rintro⟨ka,t,j'⟩ k19 ⟨j,ej,hj,Ht,hp,C⟩ hk19
 simp only at ej Ht hp C;subst ej;unfold ug;refine ok_brd (λh=>?_) λh=>?_
 have I:j<l.length:=by grind[lenI]
 have nx:∀ (kb:fH) (t' : GState),StA t'->t'.fM=s.fM->t'.objects=s.objects.map (tpF (l.take (j+1)) J)->Ok _ (k19 (kb,t',addI (j:Int) 1)):=λkb t' h1 h2 h3=>hk19 _ ⟨j+1,addI_nat ae,by omega,h1,h2,h3⟩ cu;obtain⟨⟨i,hi,x1,x2,x3⟩,xl⟩:=G.can _ (List.getElem_mem I);have tk:=take_succ_get l j I;refine ok_jn (λq=>StA q.2/\q.2.fM=s.fM/\q.2.objects=s.objects.map (tpF (l.take (j+1)) J)) (λk22 h22=>ok_ixL j rfl I (ok_bnde (hvig _) (ok_br (λhv'=>?_) λhv'=>h22 _ ⟨Ht,hp,?_⟩))) λq hq=>nx _ _ hq.1 hq.2.1 hq.2.2
 have hv' : J (l[j]).a=false:=by grind
 have hit:i<t.objects.length:=by grind
 have oi:t.objects[i]=tpF (l.take j) J s.objects[i]:=by simp[C]
 have fr:=fresh G.one I
 have an:(l.take j).any (λx=>decide (x.a=(s.objects[i]).id))=false:=by
  grind
 have ce:afc t (jg.mk 6 0 (l[j]).a 0 0 0 0 0 0 0 false false Jy) i:=⟨hit,by rw[oi];exact x1,by rw[oi];exact x2,.inl ⟨rfl,by grind[tpF]⟩⟩;obtain⟨_,r,er,hr⟩:=ajm hc hv Ht (.inl rfl) (by rw[C];exact aav ha λ_=>rfl) ce ka;refine ok_bnde er (h22 (r.2,r.1) ⟨hr.st,by rw[hr.pl,hp],?_⟩);rw[hr.ob,oi,C,tk]
 grind[aeg,tpF,Xe,Jp]
 grind[List.map_congr_left,tpF]
 have e:j=l.length:=by grind[lenI]
 subst e;rw[List.take_length] at C;refine jQ (λq=>∃ j:Nat,q.2.2=(j:Int)/\j<=l.length/\StA q.2.1/\q.2.1.fM=s.fM/\q.2.1.objects=s.objects.map λo=>atF (l.take j) (tpF l J o)) (λq=>l.length-q.2.2.toNat) ⟨0,rfl,by omega,Ht,hp,C⟩ (by show l.length-_<18446744073709551616;omega) ?_
 rintro⟨kb,u,i'⟩ k28 ⟨j,ej,hj,Hu,hpu,g⟩ hk28
 simp only at ej Hu hpu g;subst ej;unfold BP;refine ok_brd (λh=>?_) λh=>?_
 have I:j<l.length:=by grind
 obtain⟨⟨i,hi,x1,x2,x3⟩,xl⟩:=G.can _ (List.getElem_mem I);have tk:=take_succ_get l j I;have hit:i<u.objects.length:=by grind
 have oi:u.objects[i]=atF (l.take j) (tpF l J s.objects[i]):=by simp[g]
 have fr:=fresh G.one I
 have fn:(l.take j).find? (λx=>decide (x.a=(s.objects[i]).id))=none:=by
  grind
 have a1:atF (l.take j) (tpF l J s.objects[i])=tpF l J s.objects[i]:=by
  unfold atF;rw[show(tpF l J s.objects[i]).id=(s.objects[i]).id from rfl,fn]
 have ce:afc u (jg.mk 12 0 (l[j]).a (l[j]).b 0 0 0 0 0 0 false false Jy) i:=⟨hit,by rw[oi,a1];exact x1,by rw[oi,a1];exact x2,.inr ⟨rfl,by obtain⟨p,e1,e2,e3⟩:=xl;exact⟨p,e1,by grind,by grind⟩⟩⟩;obtain⟨_,r,er,hr⟩:=ajm hc hv Hu (.inr rfl) (by rw[g];exact aav ha λo=>ado _ _) ce kb;refine ok_ixL j rfl I (ok_bnde er (hk28 (r.2,r.1,addI (j:Int) 1) ⟨j+1,addI_nat ae,by omega,hr.st,by rw[hr.pl,hpu],?_⟩ cu));rw[hr.ob,oi,g,tk];refine aeg hi ?_ λm hm hmi=>?_
 rw[a1];unfold atF;rw[show(tpF l J s.objects[i]).id=(s.objects[i]).id from rfl,List.find?_append,fn];simp[-List.take_append_getElem,x1,Xe];exact x1
 have hne:¬ (l[j]).a=(s.objects[m]).id:=λe=>hmi (Jp ha hm hi ak);unfold atF;rw[show(tpF l J s.objects[m]).id=(s.objects[m]).id from rfl,List.find?_append]
 grind
 have e:j=l.length:=by grind[lenI]
 subst e;rw[List.take_length] at g;exact ok_some ⟨rfl,g⟩
theorem aeh {s:GState}{T:List eQ}{l:List eX}{t:GState}(h:t.objects=s.objects.map λo=>atF l (tpF l (λid=>hasB s T id 8) o))(ha:Asc s.objects)(hl:l.Pairwise λx y=>x.a≠y.a)(ho:s.objects.length<=60){i:Nat}(hi:i<s.objects.length) :
  ∃ n,Ef t (s.objects[i]).id=some (n,true)/\(∀ x∈l,x.a=(s.objects[i]).id->n.nT=x.b/\(n.kN=false->hasB s T (s.objects[i]).id 8=true))/\((∀ x∈l,x.a≠(s.objects[i]).id)->n.nT=(s.objects[i]).nT):=by
 have hlen:t.objects.length=s.objects.length:=by rw[h];simp
 have hit:i<t.objects.length:=by omega
 have I:t.objects[i]=atF l (tpF l (λid=>hasB s T id 8) s.objects[i]):=by simp[h]
 have oid:(t.objects[i]).id=(s.objects[i]).id:=by rw[I,ado];rfl
 have hat:Asc t.objects:=by rw[h];exact aav ha λo=>ado _ _
 refine⟨t.objects[i],?_,λx hx e=>?_,λJ=>?_⟩
 unfold Ef
 have:Gh t (s.objects[i]).id=some (i:Int):=by
  unfold Gh;refine ok_eq (ok_for1 0 t.objects.length (λm=>∀ k (h:k<t.objects.length),k<m->(t.objects[k]).id≠(s.objects[i]).id) 0 rfl (Nat.zero_le _) ae (λ_ _ h=>by omega) (λm k g hI hk=>?_) λk hI=>absurd oid (hI i hit hit));unfold Lm;refine lh (ltT g) (ok_ixL m rfl g (ok_brd (λe=>ok_some (by grind[Jp])) λe=>hk λq hq h=>?_))
  grind
 rw[this];simp only[bnd];rw[decide_eq_false (show ¬ (i:Int)<0 by omega),ni,List.getElem?_eq_getElem hit];rfl
 have U:l.find? (λx=>decide (x.a=(s.objects[i]).id))=some x:=by
  cases U:l.find? (λx=>decide (x.a=(s.objects[i]).id)) with
  | none=>grind
  | some y=>
   have hy:=List.mem_of_find?_eq_some U;have ey:=List.find?_some U;have ey:=of_decide_eq_true ey
   grind[List.getElem_of_mem,List.pairwise_iff_getElem]
 have e2:t.objects[i]={ tpF l (λid=>hasB s T id 8) s.objects[i] with nT:=x.b }:=by
  rw[I];unfold atF;rw[show(tpF l (λid=>hasB s T id 8) s.objects[i]).id=(s.objects[i]).id from rfl,U];rfl
 rw[e2];refine⟨rfl,λC=>?_⟩;have C:((s.objects[i]).kN || (l.any (λx=>decide (x.a=(s.objects[i]).id))&&!hasB s T (s.objects[i]).id 8))=false:=C
 grind
 have U:l.find? (λx=>decide (x.a=(s.objects[i]).id))=none:=List.find?_eq_none.2 λx hx e=>J x hx (of_decide_eq_true e);rw[I];unfold atF;rw[show(tpF l (λid=>hasB s T id 8) s.objects[i]).id=(s.objects[i]).id from rfl,U];rfl
theorem Dz:uh=some true:=by kernel_rfl
def opt (able:List eX)(x:Int):eX:=able.getD x.toNat QO
theorem aaw {able:List eX}{x:Int}(h:0<=x/\x<(able.length:Int)):gu able x=some (opt able x):=ixD QO h.1 h.2
theorem aht (a:List Int)(J:a.length<=1000)(T:a.Nodup){i:Nat}(hi:i<a.length):I9 a a[i]=some (i:Int):=by
 unfold I9;refine ok_eq (fA (Rw a _ ae) ?_)
 rintro r (⟨h,_⟩|⟨n,rfl,h⟩)
 grind
 obtain⟨h1,h2⟩:=List.getElem?_eq_some_iff.1 h;rw[(List.getElem_inj T).1 h2];exact ok_some rfl
theorem aei (p:Int)(able:List eX)(a:List Int)(ha:a.length<=60)(hr:∀ x∈a,0<=x/\x<(able.length:Int))(g:a.Nodup)(C:(a.map (opt able)).Pairwise λx y=>x.a≠y.a):Gn (nO.mk 6 p 0 0 0 0 able) a=some true:=by
 have e1:pI (nO.mk 6 p 0 0 0 0 able) a=some true:=by
  unfold pI;refine ok_eq (ok_for1 0 a.length (λ_=>True) 0 rfl (Nat.zero_le _) ae trivial (λi k hi _ hk=>?_) λk _=>?_)
  have h:=hr _ (List.getElem_mem hi);unfold Ho;refine lh (ltT hi) (ok_ixL i rfl hi (ok_jn (λb=>b=false) (λk6 h6=>ok_brd (λh2=>by omega) λ_=>ok_brd (λ(h2:lenI able<=a[i])=>by grind[lenI]) λ_=>ok_bnde (aht a ae g hi) (h6 _ aF)) λb I=>by subst I;exact iJ rfl (hk trivial)))
  unfold Ho;exact iJ ltF (ok_some rfl)
 have e2:Bq (nO.mk 6 p 0 0 0 0 able) a=some true:=by
  unfold Bq;refine ok_eq (iY 0 a.length (λi t=>t=((a.map (opt able)).take i).map (·.a)) 0 rfl (Nat.zero_le _) ae rfl (λi t k hi hI hk=>?_) λt k _=>?_)
  have h:=hr _ (List.getElem_mem hi);have T:i<(a.map (opt able)).length:=by simpa using hi
  have fr:=fresh C T;have gi:(a.map (opt able))[i]=opt able a[i]:=by simp
  have hl:t.length<=i:=by grind
  have J:(opt able a[i]).a ∉ t:=by
   grind
  unfold EK Tq;refine lh (ltT hi) (ok_ixL i rfl hi (ok_bnde (aaw h) (ok_bnde (x:=false) ?_ (iJ rfl (ok_bnde (aaw h) (gZ ak ak (hk _ ?_)))))))
  rw[Jl t _ ae,decide_eq_false J];rfl
  grind[take_succ_get]
  unfold EK;exact iJ ltF (ok_some rfl)
 unfold Gn;refine ok_eq (ok_brd (λ(h:256<lenI a)=>by grind[lenI]) λ_=>?_)
 iterate 8 refine iJ rfl ?_
 exact lh rfl (ok_bnde e1 (lh rfl (ok_bnde e2 (ok_some rfl))))
theorem ahu (p:Int)(able:List eX)(a:List Int)(J:a.length<=60)(hv:Gn (nO.mk 6 p 0 0 0 0 able) a=some true)(he:able=[]->a=[]):∃ k,oU ⟨[a],0,AX,false,false⟩ (nO.mk 6 p 0 0 0 0 able)=some (a,k):=by
 have F:Hm (nO.mk 6 p 0 0 0 0 able)=some (decide (lenI able=0)):=by
  unfold Hm;refine ok_eq ?_
  iterate 7 refine iJ rfl ?_
  exact lh rfl (ok_some rfl)
 have C:oO a=some a:=by
  unfold oO;exact ok_eq (gZ ae ae (ok_some rfl))
 have D:tK (nO.mk 6 p 0 0 0 0 able)=some []:=by
  unfold tK;rfl
 by_cases h:lenI able=0
 have:able=[]:=by grind[lenI,List.length_eq_zero_iff]
 refine⟨⟨[a],0,AX,false,false⟩,?_⟩;unfold oU;exact ok_eq (ok_jn (λb=>b=true) (λk2 h2=>iJ rfl (iJ rfl (ok_bnde F (h2 _ (decide_eq_true h))))) λb T=>by subst T;exact lh rfl (ok_bnde D (ok_some (by rw[he this]))))
 refine⟨{ (⟨[a],0,AX,false,false⟩:fH) with used:=addI 0 1 },?_⟩;unfold oU;exact ok_eq (ok_jn (λb=>b=false) (λk2 h2=>iJ rfl (iJ rfl (ok_bnde F (h2 _ (decide_eq_false h))))) λb T=>by subst T;exact iJ rfl (iJ rfl (ok_ixL 0 rfl aF (ok_bnde hv (iJ rfl (ok_bnde C (ok_some rfl)))))))
theorem alU {Q:GState×Bool×fH->Prop}(cards:List gq)(s:GState)(T:List eQ)(able:List eX)(y3:List Int×fH)(p:List Int)(C:p.length<=60)(hr:∀ x∈p,0<=x/\x<(able.length:Int))
  (h:∀ k,Ok Q (oV cards s T able y3 p ((p.length:Int),p.map (opt able),p) k)):Ok Q (loopF (oV cards s T able y3 p) (0,[],p)):=by
 refine iY 0 p.length (λi t=>t=((p.take i).map (opt able),p)) 0 rfl (Nat.zero_le _) ae rfl (λi t k hi J hk=>?_) λt k J=>by grind
 subst J;unfold oV;have I:((p.take i).map (opt able)).length<=i:=by simp;omega
 refine lh (ltT hi) (gU i rfl hi (gB hi (ok_bnde (aaw (hr _ (List.getElem_mem hi))) (gZ ak ak (hk _ ?_)))))
 grind[take_succ_get]
theorem ajo (a:List Int)(h:a.length<=60):Ll [a]=some ⟨[a],0,AX,false,false⟩:=by
 have C:oO a=some a:=by
  unfold oO;exact ok_eq (gZ ae ae (ok_some rfl))
 unfold Ll;refine ok_eq (iY 0 1 (λi t=>t=[a].take i) 0 rfl (Nat.zero_le _) ae aF (λi t k hi T hk=>?_) λt k T=>?_)
 obtain rfl:i=0:=by omega
 subst T;unfold PW;exact lh rfl (ok_ixL 0 rfl aF (ok_bnde C (gZ ak ak (hk _ rfl))))
 subst T;unfold PW;exact iJ rfl (ok_some rfl)
structure Fld (cards:List gq)(s:GState)(T:List eQ)(y:List Int)(able:List eX)(m:List Int):Prop where
 hc:sZ lC cards
 hs:jX s
 hv:∀ c∈cards,Io c
 st:StV s
 ob:s.objects.length<=60
 all:ou cards s=some T
 ref:FZ cards s=some T
 tl:T.length=s.objects.length
 yl:y.length<=4
 yp:∀ p∈y,TZ s p/\p≠s.jZ
 eo:vV s s.jZ=some y
 ea:oC s T=some able
 al:able.length<=240
 av:∀ x∈able,abP s y x
 em:xO s T=some m
 ml:m.length<=able.length
 mn:m.Nodup
 mi:∀ id,id∈m↔∃ x∈able,x.a=id/\hasB s T id 65536=true
theorem ajp (cards:List gq)(s:GState)(hc:sZ lC cards)(hs:jX s)(hv:∀ c∈cards,Io c)(J:StV s)(ho:s.objects.length<=60)(g:s.fM.length<=4):∃ T y able m,Fld cards s T y able m:=by
 obtain⟨T,e1,t,tl,_⟩:=aef hc hs hv J.len J.asc J.con;obtain⟨y,C,hy,hyp⟩:=ahp s s.jZ hs J.act;obtain⟨able,ea,hab,I⟩:=aky s T y ae ho C;obtain⟨m,em,ml,mn,mi⟩:=akA ho ea hab;exact⟨T,y,able,m,hc,hs,hv,J,ho,e1,t,tl,by omega,hyp,C,ea,hab,I,em,ml,mn,mi⟩
section
variable {cards:List gq}{s:GState}{T:List eQ}{y:List Int}{able:List eX}{m:List Int}(F:Fld cards s T y able m)
include F
theorem alV (l:List eX)(I:l.length<=1000)(G:ahs s l)(k:fH):Ok (λr=>r.2.1=true/\r.1.objects=s.objects.map λo=>atF l (tpF l (λid=>hasB s T id 8) o)) (bnd (sV s) λJ=>loopF (ug cards s T l) (k,J,0)) :=
 ok_bnde (RP s F.hs) (akB F.hc F.hv ⟨F.hs,F.st.len,F.st.asc,F.st.con⟩ F.st.asc F.ob T I G _ (λid=>ajn s T id 8 F.ob) k)
end
end Go.Proofs.YtchmoabpofnbaaaGreat
