import Derived.KernelRfl
import Derived.Test.YtchmoabpofnbaaaGreatD109
set_option linter.all false
namespace Go.Proofs.YtchmoabpofnbaaaGreat
open Go Go.Pv
set_option maxRecDepth 100000
theorem ake {stage:Int}(h:stage≠4)(ms:List jP):uO stage ms=false:=by
 rw[uO,List.any_eq_false];intro m _ hc;rw[Bool.and_eq_true,decide_eq_true_iff,decide_eq_true_iff] at hc;obtain⟨h1,h2⟩:=hc;rw[h2] at h1;exact h h1.symm
section
variable {s:dZ}{L:List eY}(H:VA s L){w:eX}(W:WLK s L w){B:List Bool}{S:List (List Int)}(V:VR s L w B S)
include H W
theorem aix {n:Nat}(C:n<L.length)(stage:Int):Ok (λr=>r=false->(∀ m∈(L[n]).fP,m.kind=11->Kt m.kind=stage->lY m.filter stage=some false)/\((L[n]).fixed=true\/w.done.getD n false=true\/(stage≠4/\lY (L[n]).filter stage=some false))) (lU w n stage):=by
 obtain⟨e1,_⟩:=ad8 (B:=w.done) (S:=w.hits) H W C;have I:=H.f _ (List.getElem_mem C);have d1:=zK (l:=w.done) false (n:=n) (by rw[W.don];exact C);unfold lU;rw[e1];show Ok _ (eH _ _);generalize L[n]=f at *;have hml:=I.2.2.1;have no:∀ {p:Prop},((true:Bool)=false->p):=λe=>by cases e
 refine kM 0 f.fP.length (λi=>∀ m∈f.fP.take i,m.kind=11->Kt m.kind=stage->lY m.filter stage=some false) 0 rfl (Nat.zero_le _) ae aj (λi k hi T hk=>?_) λk T=>?_
 have hsz:=I.2.2.2 _ (List.getElem_mem hi);obtain⟨b,t,_⟩:=FX f.fP[i].filter stage hsz.2
 have nx:((f.fP[i]).kind=11->Kt (f.fP[i]).kind=stage->b=false)->∀ m∈f.fP.take (i+1),m.kind=11->Kt m.kind=stage->lY m.filter stage=some false:=by
  grind[gQ]
 unfold tV;refine dY (λ_=>fO i rfl hi (gu (λc=>c=false->(f.fP[i]).kind=11->Kt (f.fP[i]).kind=stage->b=false) (λk7 J=>?_) λc hc=>gq (λ_=>dX no) λh=>hk (nx (hc h)))) λh=>absurd (show(i:Int)<(f.fP.length:Int) by omega) h;exact dY (λh1=>eP (afd _) (dY (λh2=>eP t (J _ λh _ _=>h)) λh2=>J _ λ_ _ g=>absurd g h2)) λh1=>J _ λ_ h=>absurd h h1
 ·unfold tV;rw[List.take_length] at T;rw[Tv,d1];obtain⟨b,t,_⟩:=FX f.filter stage I.2.1;refine dY (λh=>absurd h aH) λ_=>?_;cases hx:f.fixed
  ·cases hd:w.done.getD n false
   grind[dY,dX,eP]
   exact dX λ_=>⟨T,.inr (.inl rfl)⟩
  exact dX λ_=>⟨T,.inl rfl⟩
theorem aiy {w' : eX}(J : WLK s L w'){stage y T : Int}(c:Int){f:iO}(U:kL f)(hv:pO f=some true)(hi:Ins stage f)(hc:∀ k,Ch stage (w.eG.getD k jw) (w'.eG.getD k jw))(hy:stage≠1->T=y):aa7 s w'.eG T c f=aa7 s w.eG y c f:=by
 have ho:=H.ho;obtain⟨_,e1⟩:=ad9 H W y c f U hv;obtain⟨_,e2⟩:=ad9 H J T c f U hv;rw[W.st] at e1;rw[J.st] at e2
 have:yh s w'.eG T c f=yh s w.eG y c f:=by
  unfold yh;refine ab6 (λa b=>a=b/\∃ i:Nat,i<=s.objects.length/\a.1=(i:Int)) ⟨rfl,0,by omega,rfl⟩ ?_
  rintro⟨i',t⟩ _ k C ⟨rfl,i,I,e⟩ hk
  simp only at e;subst e;unfold Bj
  by_cases h:i<s.objects.length
  have g:∀ u,k (fK (i:Int) 1,u)=C (fK (i:Int) 1,u):=λu=>hk _ _ ⟨rfl,i+1,h,iY ae⟩
  grind[am5,bnd,afk]
  simp[br,eU,h]
 grind
include V
theorem alU {i j:Nat}(hi:i<L.length)(hj:j<L.length)(hij:i≠j)(stage:Int)(C:lU w i stage=some false):Yg s w (appW s w L[j] j stage) L[i] i stage=false:=by
 obtain⟨r,e,h⟩:=aix H W hi stage;rw[C] at e;cases e;obtain⟨h1,h2⟩:=h rfl;have I:=V3 H W V hj stage;have J:=H.f _ (List.getElem_mem hi);have hv:=H.fv _ (List.getElem_mem hi);have dn:(appW s w L[j] j stage).done.getD i false=w.done.getD i false:=by show(w.done.set j true).getD i false=_;grind
 have t:(appW s w L[j] j stage).hits.getD i []=w.hits.getD i []:=by show(w.hits.set j _).getD i []=_;grind
 have hc:∀ k,Ch stage (w.eG.getD k jw) ((appW s w L[j] j stage).eG.getD k jw):=λk=>akd _ _ _
 have hD:stage≠4->(appW s w L[j] j stage).dropped=w.dropped:=λh4=>by
  show Fe _ (uO stage _) w.dropped=_;rw[ake h4];exact List.ext_getElem (by simp[Fe]) λi h1 h2=>by simp[Fe]
 have hy:stage≠1->Ko s (appW s w L[j] j stage).eG L[i]=Ko s w.eG L[i]:=λh1=>by
  unfold Ko;rw[(hc _).control h1]
 have num:aeb s w.eG L[i] stage=aeb s (appW s w L[j] j stage).eG L[i] stage:=by
  unfold aeb;rw[List.map_inj_left];intro m T;unfold zi
  by_cases hk:m.kind=11/\Kt m.kind=stage
  have hs:=afj m.filter stage ((hv.2 m T).2 hk.1) (h1 m T hk.1 hk.2);rw[aiy H W I _ (J.2.2.2 m T).2 ((hv.2 m T).2 hk.1) hs hc hy]
  grind
 have act:Yf s w.dropped L[i] (w.done.getD i false)=Yf s (appW s w L[j] j stage).dropped L[i] ((appW s w L[j] j stage).done.getD i false)/\zJ s w L[i] i=zJ s (appW s w L[j] j stage) L[i] i:=by
  unfold Yf zJ;rw[dn,t]
  cases g:w.done.getD i false with
  | true=>simp
  | false=>
  have hD' : (L[i]).fixed=false->FT s (appW s w L[j] j stage).dropped L[i]=FT s w.dropped L[i]:=λh=>by
   grind
  have hA:ND s (appW s w L[j] j stage).eG L[i]=ND s w.eG L[i]:=by
   unfold ND
   congr 1
   refine List.filter_congr λk _=>?_;unfold VB
   cases U:(L[i]).fixed with
   | true=>grind
   | false=>
    rcases h2 with h2|h2|⟨h2,h3⟩
    grind
    grind
    have hs:=afj _ stage (hv.1 U) h3;simp only[cond_false];rw[aa8 _ _ _ _ _ (hv.1 U) (agf H I k) J.2.1,aa8 _ _ _ _ _ (hv.1 U) (agf H W k) J.2.1,afk _ _ hs (hc k) hy]
  grind
 grind[Yg]
end
theorem XL {α:Type}(n:Int)(v:α)(m:Int):∀ l:List (Int×α),AP (RH l n v) m=if n=m then some v else AP l m
 | []=>by simp[RH,AP]
 | (k,w)::l=>by
  unfold RH
  by_cases h:k=n
  subst h;rw[if_pos rfl]
  grind[AP]
  rw[if_neg h];simp only[AP]
  by_cases e:k=m
  grind
  rw[if_neg e,XL n v m l,if_neg e]
theorem Mat.congr {n:Nat}{f g:Nat->Nat->Bool}{R:List (List Bool)}(h:Mat n f R)(e:∀ a b,a<n->b<n->g a b=f a b):Mat n g R:=by
 obtain⟨T,h⟩:=h;refine⟨T,λa row hr=>?_⟩;have J:a<n:=by grind
 obtain⟨h1,h2⟩:=h a row hr;refine⟨h1,λb v hv=>?_⟩
 grind
theorem Mat.ext {n:Nat}{f:Nat->Nat->Bool}{R J : List (List Bool)}(h:Mat n f R)(T : Mat n f J):R=J:=by
 refine List.ext_getElem (by rw[h.1,T.1]) λa h1 h2=>?_;have r1:=h.2 a _ (List.getElem?_eq_getElem h1);have r2:=T.2 a _ (List.getElem?_eq_getElem h2);refine List.ext_getElem (by rw[r1.1,r2.1]) λb I C=>?_;rw[r1.2 b _ (List.getElem?_eq_getElem I),r2.2 b _ (List.getElem?_eq_getElem C)]
theorem Mat.zero (n:Nat){R:List (List Bool)}(J:R.length=n)(h:∀ j (hj:j<R.length),R[j]=List.replicate n false):Mat n (λ_ _=>false) R:=by
 refine⟨J,λa row hr=>?_⟩;obtain⟨T,e⟩:=List.getElem?_eq_some_iff.1 hr;rw[<- e,h a T];refine⟨by simp,λb v hv=>?_⟩
 grind
def spM (left:List Int)(c:Nat->Nat->Bool)(a b:Nat):Bool:=decide ((a:Int)∈left)&&(decide ((b:Int)∈left)&&(!decide (a=b)&&c a b))
theorem OU {l:List Int}{i:Nat}(hi:i<l.length)(x:Int):x∈l.take (i+1)↔x∈l.take i\/x=l[i]:=by
 grind[gQ]
section
variable {s:dZ}{L:List eY}(H:VA s L){w:eX}(W:WLK s L w){B:List Bool}{S:List (List Int)}(V:VR s L w B S)
include H W
theorem aiz:tK w=some w:=by
 have ho:=H.ho;have T:=H.len;have a1:=W.all;have a2:=W.don;have a3:=W.hit;have a4:=W.drp;unfold tK;have c1:rW w.eG=some w.eG:=by grind[rW,sN]
 have c2:∀ l:List Bool,l.length<=2000000->qP l=some l:=λl J=>by grind[qP,sN]
 have c3:tJ w.hits=some w.hits:=by grind[tJ,sN]
 rw[c1,c2 _ ae,c2 _ ae,c3];rfl
include V
theorem akf (left:List Int)(stage:Int)(hr:∀ x∈left,0<=x/\x<(L.length:Int))(hlen:left.length<=L.length)(ch:Nat->Nat->Bool)(hch:∀ i j (hi:i<L.length) (hj:j<L.length),ch i j=Yg s w (appW s w L[j] j stage) L[i] i stage) :
  Ok (Mat L.length (spM left ch)) (qQ w left stage):=by
 have hL:=H.len
 let dep:Nat->Bool:=λi=>(lU w i stage).getD true
 let lk:Nat->kG:=λi=>(mD w i stage).getD N8
 have hdep:∀ i,i<L.length->lU w i stage=some (dep i):=λi hi=>by
  obtain⟨r,e,_⟩:=aix H W hi stage
  grind
 have hno:∀ i j,i<L.length->j<L.length->i≠j->dep i=false->ch i j=false:=λi j hi hj hij h=>by
  grind[alU]
 unfold qQ;rw[W.l];refine QB (n:=L.length) rfl rfl ae ae ?_;refine jA 0 L.length (λi t=>t.length=L.length/\∀ j (hj:j<t.length),j<i->t[j]=List.replicate L.length false) 0 rfl (Nat.zero_le _) ae ⟨by simp,λ_ _ h=>by omega⟩ (λi t k hi hI hk=>?_) λt k hI=>?_
 unfold rq;rw[W.l];refine BN (dY (λ_=>QB (n:=L.length) rfl rfl ae ae (BN ?_)) λh=>absurd (show(i:Int)<eU (List.replicate L.length ([]:List Bool)) by simp[eU];omega) h);have it:i<t.length:=by omega
 refine iD i rfl it (gY it (hk _ ⟨by simp[hI.1],λj hj hji=>?_⟩))
 grind
 unfold rq;refine BN (dY (λh=>absurd h dP) λ_=>?_);have M0:Mat L.length (λ_ _=>false) t:=Mat.zero _ hI.1 λj hj=>hI.2 j hj ae;refine jA 0 left.length (λa (u:List (Int×kG))=>∀ m,m<L.length->AP u (m:Int)=if (m:Int)∈left.take a/\dep m=true then some (lk m) else none) 0 rfl (Nat.zero_le _) ae (λm _=>by simp[AP]) (λa u k2 J hU hk2=>?_) λu k2 hU=>?_
 unfold rf;obtain⟨a1,a2⟩:=hr _ (List.getElem_mem J);have mt:=OU J;refine dY (λ_=>gu (λv=>∀ m,m<L.length->AP v (m:Int)=if (m:Int)∈left.take (a+1)/\dep m=true then some (lk m) else none) (λk5 h5=>?_) λv hv=>hk2 v hv) λh=>absurd (show(a:Int)<(left.length:Int) by omega) h;refine iD a rfl J (gY J ?_);generalize left[a]=la at a1 a2 mt;obtain⟨m,rfl⟩:=Int.eq_ofNat_of_zero_le a1;have I:m<L.length:=by omega
 refine eP (hdep m I) (gq (λhd=>?_) λhd=>h5 _ λx C=>?_)
 have hl:mD w m stage=some (lk m):=by
  obtain⟨x,y,e,_⟩:=akN H W V I I stage
  grind
 rw[alQ,hl];refine h5 _ λx C=>?_;rw[XL,hU x C]
 grind
 grind
 unfold rf;rw[List.take_length] at hU;refine dY (λh=>absurd h bF) λ_=>gu (λb=>b=true->∀ x y,x<L.length->y<L.length->spM left ch x y=false) (λk5 h5=>dY (λh0=>h5 _ λ_=>?_) λ_=>h5 _ λg=>?_) λb g=>gq (λhb2=>dX (M0.congr λx y C hy=>g hb2 x y C hy)) λ_=>?_
 simp_all[eU,spM,AP]
 have g:=of_decide_eq_true g;intro x y C hy;unfold spM
 by_cases h1:(x:Int)∈left
 by_cases h2:(y:Int)∈left
 have:x=y:=by
  have hl:left.length<=1:=by grind[eU]
  obtain⟨p,hp,ep⟩:=List.getElem_of_mem h1;obtain⟨q,hq,eq⟩:=List.getElem_of_mem h2
  grind
 simp[this]
 simp[h2]
 simp[h1]
 refine jA 0 left.length (λa R=>Mat L.length (λx y=>decide ((y:Int)∈left.take a)&&spM left ch x y) R) 0 rfl (Nat.zero_le _) ae (M0.congr λ_ _ _ _=>by simp) (λa R k6 J hV hk6=>?_) λR k6 hV=>?_
 unfold qZ;obtain⟨a1,a2⟩:=hr _ (List.getElem_mem J);have mt:=OU J;have mm:=List.getElem_mem J;refine dY (λ_=>iD a rfl J (gY J ?_)) λh=>absurd (show(a:Int)<(left.length:Int) by omega) h;generalize left[a]=la at a1 a2 mt mm;obtain⟨m,rfl⟩:=Int.eq_ofNat_of_zero_le a1;have I:m<L.length:=by omega
 refine eP (aiz H W) (eP (afg H W I stage (V.nd m I)) ?_);refine jA 0 left.length (λc R=>Mat L.length (λx y=>(decide ((y:Int)∈left.take a) || (decide (y=m)&&decide ((x:Int)∈left.take c)))&&spM left ch x y) R) 0 rfl (Nat.zero_le _) ae (hV.congr λ_ _ _ _=>by simp) (λc R2 k7 hc T hk7=>?_) λR2 k7 T=>?_
 unfold qY;obtain⟨c1,c2⟩:=hr _ (List.getElem_mem hc);have mt2:=OU hc;have mm2:=List.getElem_mem hc;refine dY (λ_=>gu (λR=>Mat L.length (λx y=>(decide ((y:Int)∈left.take a) || (decide (y=m)&&decide ((x:Int)∈left.take (c+1))))&&spM left ch x y) R) (λk8 h8=>?_) λv3 hv3=>hk7 v3 hv3) λh=>absurd (show(c:Int)<(left.length:Int) by omega) h;refine iD c rfl hc (gY hc ?_);generalize left[c]=lc at c1 c2 mt2 mm2;obtain⟨p,rfl⟩:=Int.eq_ofNat_of_zero_le c1;have hp:p<L.length:=by omega
 have same:spM left ch p m=false->Mat L.length (λx y=>(decide ((y:Int)∈left.take a) || (decide (y=m)&&decide ((x:Int)∈left.take (c+1))))&&spM left ch x y) R2:=λh0=>T.congr λx y _ _=>by
  by_cases e:x=p/\y=m<;>grind
 have hk:=hU p hp;unfold sG;rw[hk]
 by_cases hd:dep p=true
 rw[if_pos ⟨mm2,hd⟩];refine gu (λb=>b=!decide (p=m)) (λk9 h9=>show Ok _ (k9 _) from h9 _ ?_) λb g=>gq (λhb2=>?_) λhb2=>h8 _ (same ?_)
 grind
 have hpm:p≠m:=by grind
 obtain⟨h1,h2,h3⟩:=T.get hp I;obtain⟨x,y,e1,e2,e3⟩:=akN H W V hp I stage;have C:lk p=x:=by grind
 refine iD p rfl h1 (gY h1 (eP e2 (eP (by rw[C];exact e3) (iD m rfl h2 (gY h1 (gY h2 (h8 _ ?_)))))));refine(T.set m h1 _).congr λx y C hy=>?_;unfold upM
 by_cases e:x=p/\y=m
 simp_all[spM]
 grind
 grind[spM]
 rw[if_neg (λh=>hd h.2)]
 refine gu (λb=>b=false) (λk9 h9=>h9 _ rfl) λb g=>by
  subst g;refine h8 _ (same ?_)
  grind[spM]
 unfold qY;refine dY (λh=>absurd h ai) λ_=>hk6 _ (T.congr λx y _ _=>?_);rw[List.take_length];simp only[mt]
 grind[spM]
 unfold qZ;refine dY (λh=>absurd h ai) λ_=>dX (hV.congr λx y _ _=>?_)
 grind[spM]
end
def bel (stage:Int)(f:eY):Bool:=f.fP.any λm=>decide (Kt m.kind=stage)
theorem am8 (f:eY)(stage:Int)(I:f.fP.length<=1048576):ED f stage=some (bel stage f):=by
 unfold ED vK yD;refine ok_eq (fB (R:=λb=>b=bel stage f) (fB (R:=λy=>(bel stage f=true/\0<=y)\/(bel stage f=false/\y=-1)) ?_ λy hy=>?_) λb J=>dX J)
 refine kM 0 f.fP.length (λi=>(f.fP.take i).any (λm=>decide (Kt m.kind=stage))=false) 0 rfl (Nat.zero_le _) ae rfl (λi k hi T hk=>?_) λk T=>?_
 unfold vJ wX;refine dY (λ_=>fO i rfl hi (eP (x:=decide (Kt (f.fP[i]).kind=stage)) (by grind[bnd,afd]) (gq (λh=>dX (.inl ⟨by grind[bel],by omega⟩)) λh=>hk (by grind[gQ])))) λh=>absurd (show(i:Int)<(f.fP.length:Int) by omega) h
 unfold vJ;rw[List.take_length] at T;exact dY (λh=>absurd h aH) λ_=>dX (.inr ⟨T,rfl⟩)
 rcases hy with ⟨h,h2⟩|⟨h,rfl⟩
 grind[dX]
 grind[dX]
theorem am9 (f:eY)(stage:Int)(J:f.fP.length<=1048576):Jm (f30 f) stage=some (bel stage f):=by
 unfold Jm;refine ok_eq (kM 0 f.fP.length (λi=>(f.fP.take i).any (λm=>decide (Kt m.kind=stage))=false) 0 rfl (Nat.zero_le _) ae rfl (λi k hi T hk=>?_) λk T=>?_)
 unfold Ij;refine dY (λ_=>fO i rfl hi (eP (acC _) (dY (λ(h:Kt (f.fP[i]).kind=stage)=>dX (by rw[bel,eq_comm,List.any_eq_true];grind)) λ(h:¬ Kt (f.fP[i]).kind=stage)=>hk (by grind[gQ])))) λh=>absurd (show(i:Int)<(f.fP.length:Int) by omega) h
 unfold Ij;rw[List.take_length] at T;exact dY (λh=>absurd h aH) λ_=>dX T.symm
def TyO (T:List eF):Prop:=∀ t∈T,0<=t.line.types/\t.line.types<=63
theorem ty1 (n:Int)(h:0<=n/\n<=63):∃ x y,divO .quo .i64 n 1=some x/\divO .rem .i64 x 2=some y/\(decide (y=1))=!decide (iM .and .i64 n 1=0):=by
 obtain⟨m,rfl⟩:=Int.eq_ofNat_of_zero_le h.1;have T:m<64:=by omega
 have e:IntKind.i64.wrap (((m:Nat):Int).tdiv 1)=(m:Int):=by rw[Int.tdiv_one];grind[wrap_in]
 refine⟨_,_,rfl,rfl,?_⟩;simp only;rw[e];have:∀ m:Nat,m<64->(decide (((m:Nat):Int).tmod 2=1))=!decide (iM .and .i64 (m:Int) 1=0):=by decide +kernel
 exact this m T
def ad (a b:Int):Int:=(ou a b).getD 0
theorem akg (a b:Int):ou a b=some (ad a b):=by
 obtain⟨v,e,_⟩:=Bv a b
 grind[add_eq,ad]
def cpw (o:fD):Int:=(GZ o.counters).getD 0
theorem akP (o:fD):GZ o.counters=some (cpw o):=by
 obtain⟨v,e,_⟩:=Tn o.counters
 grind[acy,cpw]
def PX (o:fD)(t:eF):eF:=bif decide (o.iL=0)&&!decide (iM .and .i64 t.line.types 1=0) then { t with power:=ad t.power (cpw o),gK:=ad t.gK (cpw o) } else t
def I7 (s:dZ)(T:List eF):List eF:=T.mapIdx λk t=>PX (s.objects.getD k nC) t
section
variable {s:dZ}{L:List eY}(H:VA s L){w:eX}(W:WLK s L w){B:List Bool}{S:List (List Int)}(V:VR s L w B S)
include H W
theorem akh:qN w=some { w with eG:=I7 s w.eG }:=by
 have e:=W.st;subst e;have ho:=H.ho;have wa:=W.all;unfold qN;refine ok_eq (jA 0 w.s.objects.length (λi t=>t=w.eG.mapIdx λk t=>bif decide (k<i) then PX (w.s.objects.getD k nC) t else t) 0 rfl (Nat.zero_le _) ae (List.ext_getElem aj λi h1 h2=>by simp) (λi t k hi T hk=>?_) λt k T=>?_)
 have it:i<t.length:=by grind
 have g:i<w.eG.length:=by omega
 have ti:t[i]=w.eG[i]:=by simp[T]
 have go:w.s.objects.getD i nC=w.s.objects[i]:=by simp[hi]
 have st:t.set i (PX w.s.objects[i] w.eG[i])=w.eG.mapIdx λk t=>bif decide (k<i+1) then PX (w.s.objects.getD k nC) t else t:=by
  subst T;refine List.ext_getElem aj λj h1 h2=>?_
  grind
 have no:PX w.s.objects[i] w.eG[i]=w.eG[i]->t=w.eG.mapIdx λk t=>bif decide (k<i+1) then PX (w.s.objects.getD k nC) t else t:=λe=>by
  rw[<- st,e,<- ti];simp
 unfold vH;refine dY (λ_=>gu (λu=>u=w.eG.mapIdx λk t=>bif decide (k<i+1) then PX (w.s.objects.getD k nC) t else t) (λk5 J=>?_) λu hu=>hk u hu) λh=>absurd (show(i:Int)<(w.s.objects.length:Int) by omega) h;refine fO i rfl hi (iD i rfl it (gu (λb=>b=(decide ((w.s.objects[i]).iL=0)&&!decide (iM .and .i64 (w.eG[i]).line.types 1=0))) (λk10 I=>?_) λb C=>gq (λh=>?_) λh=>J _ (no ?_)))
 grind[dY,gY,decide_eq_false]
 rw[C] at h;have c1:PX w.s.objects[i] w.eG[i]={ w.eG[i] with power:=ad (w.eG[i]).power (cpw w.s.objects[i]),gK:=ad (w.eG[i]).gK (cpw w.s.objects[i]) }:=by grind[PX]
 refine eP (by rw[acy];exact akP _) (gY it (eP (by rw[add_eq];exact akg _ _) (gY it (eP (by rw[add_eq];exact akg _ _) (gY it (gY (by simpa using it) (J _ ?_)))))))
 simp_all
 grind[PX]
 unfold vH;refine dY (λh=>absurd h (by show ¬ (w.s.objects.length:Int)<(w.s.objects.length:Int);omega)) λ_=>dX ?_
 have:t=I7 w.s w.eG:=by
  subst T;refine List.ext_getElem (by simp[I7]) λj h1 h2=>?_
  grind[I7]
 rw[this]
theorem aki (hT:TyO w.eG):uo (v30 w B S)=some (v30 { w with eG:=I7 s w.eG } B S):=by
 have ho:=H.ho;have wa:=W.all;unfold uo;refine ok_eq (jA 0 s.objects.length (λi t=>t=(I7 s w.eG).take i) 0 rfl (Nat.zero_le _) ae rfl (λi t k hi C hk=>?_) λt k C=>?_)
 ·have J:i<w.eG.length:=by omega
  have go:s.objects.getD i nC=s.objects[i]:=by simp[hi]
  have iC:i<(I7 s w.eG).length:=by simp[I7,J]
  have tl:t.length<=i:=by grind
  have ci:(I7 s w.eG)[i]=PX s.objects[i] w.eG[i]:=by grind[I7]
  obtain⟨x,y,e1,e2,e3⟩:=ty1 _ (hT _ (List.getElem_mem J));unfold yg;simp only[show(v30 w B S).s=s from W.st,show(v30 w B S).all=w.eG from rfl];refine dY (λ_=>gu (λu=>u=(I7 s w.eG).take (i+1)) (λk5 h5=>?_) λu hu=>hk u hu) λh=>absurd (show(i:Int)<(w.eG.length:Int) by omega) h;refine fO i rfl J (fO i rfl hi (gu (λp=>{ w.eG[i] with power:=p.1,gK:=p.2 }=(I7 s w.eG)[i]) (λk10 T=>?_) λp hp=>?_))
  ·refine gu (λb=>b=(decide ((s.objects[i]).iL=0)&&!decide (iM .and .i64 (w.eG[i]).line.types 1=0))) (λk13 I=>?_) λb g=>?_
   grind[dY,eP,decide_eq_false]
   ·refine gq (λh=>eP (akP _) (eP (akg _ _) (eP (akg _ _) (T _ ?_)))) λh=>T _ ?_
    all_goals
     rw[g] at h;rw[ci];unfold PX;rw[h];rfl
  grind[iJ,gQ]
 unfold yg;rw[show(v30 w B S).all=w.eG from rfl];refine dY (λh=>absurd h (by show ¬ (s.objects.length:Int)<(w.eG.length:Int);omega)) λ_=>dX ?_;have:t=I7 s w.eG:=by grind[List.take_of_length_le,I7]
 rw[this];rfl
include V
theorem alV (left:List Int)(stage:Int)(hr:∀ x∈left,0<=x/\x<(L.length:Int))(hlen:left.length<=L.length)(ch:Nat->Nat->Bool)(hch:∀ i j (hi:i<L.length) (hj:j<L.length),ch i j=Yg s w (appW s w L[j] j stage) L[i] i stage)
  (M:List (List Bool)) (hM:Mat L.length (spM left ch) M):ER (v30 w B S) left stage=some (JI (L.map (·.stamp)) (yM (elF left) M)):=by
 have hL:=H.len;have hl:(v30 w B S).l=L.map f30:=by show w.forces.map f30=_;rw[W.l]
 unfold ER;refine ok_eq (jA 0 L.length (λi t=>t=((L.take i).map (·.stamp),List.replicate i (List.replicate L.length false))) 0 rfl (Nat.zero_le _) ae aj (λi t k hi hI hk=>?_) λt k hI=>?_)
 subst hI;unfold yw;rw[hl];have l1:((L.take i).map (·.stamp)).length=i:=by simp;omega
 refine dY (λ_=>fO i rfl bH (iJ ai ai (QB (n:=L.length) dP dP ae ae (BN (iJ ai ai (hk _ ?_)))))) λh=>absurd (show(i:Int)<eU (L.map f30) by grind[eU]) h
 grind[List.replicate_succ',f30,List.take_append_getElem]
 subst hI;unfold yw;rw[hl,List.take_length];have M0:Mat L.length (λ_ _=>false) (List.replicate L.length (List.replicate L.length false)):=Mat.zero _ aj λj hj=>by simp
 refine dY (λh=>absurd h bM) λ_=>?_;refine jA 0 left.length (λa R=>Mat L.length (λx y=>decide ((x:Int)∈left.take a)&&spM left ch x y) R) 0 rfl (Nat.zero_le _) ae (M0.congr λ_ _ _ _=>by simp) (λa R k6 ha J hk6=>?_) λR k6 J=>?_
 unfold yu;obtain⟨a1,a2⟩:=hr _ (List.getElem_mem ha);have mt:=OU ha;have mm:=List.getElem_mem ha;have g:gW left (a:Int)=some left[a]:=by grind[qH]
 refine dY (λ_=>?_) λh=>absurd (show(a:Int)<(left.length:Int) by omega) h;generalize left[a]=la at a1 a2 mt mm g;obtain⟨m,rfl⟩:=Int.eq_ofNat_of_zero_le a1;have hm:m<L.length:=by omega
 refine jA 0 left.length (λc R=>Mat L.length (λx y=>(decide ((x:Int)∈left.take a) || (decide (x=m)&&decide ((y:Int)∈left.take c)))&&spM left ch x y) R) 0 rfl (Nat.zero_le _) ae (J.congr λ_ _ _ _=>by simp) (λc R2 k7 hc T hk7=>?_) λR2 k7 T=>?_
 unfold yt;obtain⟨c1,c2⟩:=hr _ (List.getElem_mem hc);have I:=OU hc;have C:=List.getElem_mem hc;have ec:gW left (c:Int)=some left[c]:=by grind[qH]
 refine dY (λ_=>?_) λh=>absurd (show(c:Int)<(left.length:Int) by omega) h;generalize left[c]=lc at c1 c2 I C ec;obtain⟨p,rfl⟩:=Int.eq_ofNat_of_zero_le c1;have hp:p<L.length:=by omega
 obtain⟨h1,h2,h3⟩:=T.get hm hp;refine eP g (iD m rfl h1 (gY h1 (eP ec (eP g (eP ec (eP (akc H W V hm hp stage) (iD p rfl h2 (gY h1 (gY h2 (hk7 _ ?_))))))))));refine(T.set p h1 _).congr λx y hx hy=>?_;unfold upM
 by_cases e:x=m/\y=p
 simp_all[spM]
 grind
 unfold yt;refine dY (λh=>absurd h bF) λ_=>hk6 _ (T.congr λx y _ _=>?_);rw[List.take_length];simp only[mt]
 grind[spM]
 unfold yu
 have:R=M:=by
  refine Mat.ext (J.congr λx y _ _=>?_) hM
  grind[spM]
 subst this;exact dY (λh=>absurd h bF) λ_=>eP (aim left _ R ae) (dX rfl)
end
theorem agk (l:rZ)(b:ByteArray):If (λr=>r.types=l.types) (yj l b):=by
 unfold yj;refine VY (yQ (λ_=>True) (λk hk=>jL λ_ _=>jh (λ_=>hk _ trivial) λ_=>jL λ_ _=>jh (λ_=>hk _ trivial) λ_=>hk _ trivial) λx _=>jh (λ_=>kT rfl) λ_=>Nl (λ_=>True) trivial λi k _ hk=>?_);unfold zU;refine yQ (λ_=>True) (λk2 T=>jh (λ_=>jL λ_ _=>jL λ_ _=>T _ trivial) λ_=>T _ trivial) λx _=>jh (λ_=>hk _ trivial) λ_=>?_;exact jL λ_ _=>VY (VY (jL λ_ _=>VY (kT rfl)))
theorem acI (n:Int):If (λr=>r=true->0<=n/\n<=63) (Bl n):=by
 grind[Bl,xK,kT]
theorem alW (m:jP):If (λr=>r=true->m.kind=2\/m.kind=3->0<=m.n/\m.n<=63) (lS m):=by
 unfold lS;refine yQ (λ_=>True) (λk hk=>jh (λ_=>hk _ trivial) λ_=>jh (λ_=>hk _ trivial) λ_=>jL λ_ _=>hk _ trivial) λs _=>jh (λ_=>kT λh=>by cases h) λ_=>?_;exact xK (λ_=>jL λy e=>kT λh _=>acI _ _ e h) λh2=>xK (λ_=>jL λy e=>kT λh _=>acI _ _ e h) λT _ _ _ h=>by omega
theorem ana {a b:Int}(J:0<=a/\a<=63)(T:0<=b/\b<=63):0<=iM .or .i64 a b/\iM .or .i64 a b<=63:=by
 obtain⟨x,rfl⟩:=Int.eq_ofNat_of_zero_le J.1;obtain⟨y,rfl⟩:=Int.eq_ofNat_of_zero_le T.1;show 0<=IntKind.i64.wrap (((BitVec.ofInt 64 (x:Int) ||| BitVec.ofInt 64 (y:Int)).toNat:Nat):Int)/\IntKind.i64.wrap (((BitVec.ofInt 64 (x:Int) ||| BitVec.ofInt 64 (y:Int)).toNat:Nat):Int)<=63;rw[BitVec.toNat_or,BitVec.ofInt_natCast,BitVec.ofInt_natCast,BitVec.toNat_ofNat,BitVec.toNat_ofNat,Nat.mod_eq_of_lt ae,Nat.mod_eq_of_lt ae];have I:x ||| y<2 ^ 6:=Nat.or_lt_two_pow ae ae
 grind[wrap_in]
def Ty1 (t:eF):Prop:=0<=t.line.types/\t.line.types<=63
theorem anb {t:eF}{m:jP}{y n:Int}{x:eF}(hv:lS m=some true)(h:qU t m y n=some x)(C:Ty1 t):Ty1 x:=by
 have J:=alW m _ hv rfl;have hc:=akO t m y n h
 by_cases g:x.line.types=t.line.types
 grind[Ty1]
 unfold qU at h;rw[hv] at h;simp only[bnd,br,show((true:Bool)==false)=false from rfl] at h
 by_cases h1:m.kind=1
 grind
 rw[decide_eq_false h1] at h
 by_cases h2:m.kind=2
 rw[decide_eq_true h2] at h;cases h;exact J (.inl h2)
 rw[decide_eq_false h2] at h
 by_cases T:m.kind=3
 rw[decide_eq_true T] at h;cases h;exact ana C (J (.inr T))
 rw[decide_eq_false T] at h
 by_cases h4:m.kind=4
 grind
 rw[decide_eq_false h4] at h
 by_cases h5:m.kind=5
 rw[decide_eq_true h5] at h
 cases I:yj t.line m.sub with
 | none=>grind
 | some l=>
  rw[I] at h;cases h;have:=agk t.line m.sub _ I
  grind
 refine absurd (hc.line ?_) λe=>g (by rw[e]);unfold Kt xn
 grind[decide_eq_false,br]
theorem afl (stage y:Int)(g:jP->Int):∀ (ms:List jP),(∀ m∈ms,lS m=some true)->∀ t,Ty1 t->Ty1 (xe stage y g ms t)
 | [],_,t,ht=>ht
 | m::ms,h,t,ht=>by
  show Ty1 (xe stage y g ms _);refine afl stage y g ms (λm T=>h m (by simp[T])) _ ?_;dsimp only;cases decide (Kt m.kind=stage)
  exact ht
  cases e:qU t m y (g m)<;>grind[qU,anb]
theorem akj {s:dZ}{w:eX}{f:eY}(U:FV f)(n:Nat)(stage:Int)(hT:TyO w.eG):TyO (appW s w f n stage).eG:=by
 intro t I;obtain⟨i,hi,e⟩:=List.getElem_of_mem I;have T : i<w.eG.length:=by simpa [appW,Du] using hi
 have:t=bif decide ((i:Int)∈zJ s w f n) then xe stage (Ko s w.eG f) (zi s w.eG f stage) f.fP w.eG[i] else w.eG[i]:=by grind[appW,Du]
 rw[this];cases decide ((i:Int)∈zJ s w f n)
 exact hT _ (List.getElem_mem T)
 exact afl _ _ _ _ (λm J=>(U.2 m J).1) _ (hT _ (List.getElem_mem T))
theorem akk {s:dZ}{T:List eF}(hT:TyO T):TyO (I7 s T):=by
 intro t I;obtain⟨i,hi,e⟩:=List.getElem_of_mem I;have J : i<T.length:=by simpa [I7] using hi
 have:t=PX (s.objects.getD i nC) T[i]:=by rw[<- e];simp[I7]
 rw[this];unfold PX;have h0:=hT _ (List.getElem_mem J)
 grind
theorem aec (l:List Int)(n:Int)(I:l.length<=2000000):Jo l n=some (l.filter λx=>!decide (x=n)):=by
 unfold Jo;refine ok_eq (jA 0 l.length (λi t=>t=(l.take i).filter λx=>!decide (x=n)) 0 rfl (Nat.zero_le _) ae rfl (λi t k hi T hk=>?_) λt k T=>?_)
 have tl:t.length<=i:=by grind
 have e:(l.take (i+1)).filter (λx=>!decide (x=n))=bif decide (l[i]=n) then t else t++[l[i]]:=by
  grind[gQ]
 unfold Io;refine dY (λ_=>gu (λu=>u=(l.take (i+1)).filter λx=>!decide (x=n)) (λk5 J=>?_) λu hu=>hk u hu) λh=>absurd (show(i:Int)<(l.length:Int) by omega) h;refine fO i rfl hi (rQ (λh=>fO i rfl hi (iJ ai ai (J _ ?_))) λh=>J _ ?_)
 grind
 grind
 unfold Io;rw[oh] at T;exact dY (λh=>absurd h ax) λ_=>dX T
def UL (L:List eY)(stage:Int)(n:Nat):List Int:=Tz ((List.range n).filter λk=>bel stage (L.getD k RQ))
theorem afm (L:List eY)(stage:Int)(n:Nat):(UL L stage n).Nodup/\(∀ x∈UL L stage n,0<=x/\x<(n:Int))/\(UL L stage n).length<=n:=by
 refine⟨?_,λx T=>?_,?_⟩
 unfold UL Tz;rw[List.Nodup,List.pairwise_map];exact(List.nodup_range.filter _).imp λh e=>h (Int.ofNat.inj e)
 unfold UL Tz at T
 grind
 grind[UL,Tz]
structure Both (s:dZ)(L:List eY)(w:eX)(v:gB):Prop where
 W:WLK s L w
 ty:TyO w.eG
 v:∃ B S,v=v30 w B S/\VR s L w B S
section
variable {s:dZ}{L:List eY}(H:VA s L)
include H
theorem acJ {w:eX}{v:gB}(h:Both s L w v)(stage:Int):Two (λr r'=>Both s L r.2 r'.1) (eH (lK stage w) (0,[],[])) (eH (qJ stage v) (0,[])):=by
 have hL:=H.len;obtain⟨W,ty,B,S,rfl,V⟩:=h;have hl:(v30 w B S).l=L.map f30:=by show w.forces.map f30=_;rw[W.l]
 refine XF L.length (λi t t'=>t=(UL L stage i,(L.take i).map (·.stamp))/\t'=UL L stage i) ae ⟨rfl,rfl⟩ (λi t t' k k' hi hI hk=>?_) λt t' k k' hI=>?_
 obtain⟨rfl,rfl⟩:=hI;have hz:=(H.f _ (List.getElem_mem hi)).2.2.1;have ll:=(afm L stage i).2.2;have sl:((L.take i).map (·.stamp)).length=i:=by simp;omega
 have nx:UL L stage (i+1)=bif bel stage L[i] then UL L stage i++[(i:Int)] else UL L stage i:=by
  grind[UL,Dt,XJ]
 have ns:(L.take (i+1)).map (·.stamp)=(L.take i).map (·.stamp)++[(L[i]).stamp]:=by grind[gQ]
 unfold lK qJ;simp only[W.l,hl]
 grind[eU,qH,br,jn,iy,Nat.ble_eq_true_of_le,bnd,am8,am9]
 obtain⟨rfl,rfl⟩:=hI;obtain⟨l1,l2,l3⟩:=afm L stage L.length;unfold lK qJ;simp only[W.l,hl];have c1:decide ((L.length:Int)<eU L)=false:=decide_eq_false bM;have c2:decide ((L.length:Int)<eU (L.map f30))=false:=decide_eq_false bM;rw[c1,c2,List.take_length];simp only[br];generalize UL L stage L.length=left0 at *;refine ae8 (λa b=>Both s L a.1 b.1/\b.2.1=a.2.1/\a.2.1.Nodup/\(∀ y∈a.2.1,0<=y/\y<(L.length:Int))/\a.2.2.2=L.map (·.stamp)/\∃ i:Nat,b.2.2.1=(i:Int)/\i+a.2.1.length=left0.length/\a.2.2.1.length=i/\b.2.2.2.length=i) (λa=>a.2.1.length) ⟨⟨W,ty,B,S,rfl,V⟩,rfl,l1,l2,rfl,0,rfl,by simp,rfl,rfl⟩ (by show left0.length<18446744073709551616;omega) ?_
 rintro⟨w,left,ord,st⟩ ⟨v,T,n',ord'⟩ k k' ⟨⟨W,ty,B,S,rfl,V⟩,e2,nd,rg,e3,i,e4,e5,e6,e7⟩ hk
 simp only at e2 nd rg e3 e4 e5 e6 e7;subst e2 e3 e4;unfold vS zV;simp only
 by_cases J:T=[]
 subst J;have c1:decide ((0:Int)<eU ([]:List Int))=false:=rfl;have c2:decide ((i:Int)<eU left0)=false:=decide_eq_false bM;rw[c1,c2];exact VW ⟨W,ty,B,S,rfl,V⟩
 have hpos:0<T.length:=List.length_pos_iff.2 J;have c1:decide ((0:Int)<eU T)=true:=decide_eq_true bM;have c2:decide ((i:Int)<eU left0)=true:=decide_eq_true bM;rw[c1,c2];simp only[br];have g:∀ i j (hi:i<L.length) (hj:j<L.length),(λa b=>(if h:a<L.length/\b<L.length then Yg s w (appW s w L[b] b stage) L[a] a stage else false)) i j=Yg s w (appW s w L[j] j stage) L[i] i stage:=λi j hi hj=>by grind
 obtain⟨M,eM,hM⟩:=akf H W V T stage rg ae _ g;have eN:=alV H W V T stage rg ae _ g M hM;have hel:elF T=T:=ajW T nd λx hx=>(rg x hx).1;have hy:JI (L.map (·.stamp)) (yM T M)∈T:=PO _ _ _ (Ze _ _ (λx hx=>(rg x (PO _ _ _ hx)).1) (ahW T M nd J)).1
 refine OQ eM (OQ (ajX T _ M ae) (UE eN ?_));rw[hel];have gy:=rg _ hy;generalize JI (L.map (·.stamp)) (yM T M)=y at hy gy
 rw[decide_eq_false (by omega:¬ y<0)];obtain⟨m,rfl⟩:=Int.eq_ofNat_of_zero_le gy.1;have I:m<L.length:=by omega
 obtain⟨B',S',eA,V',_⟩:=UJ H W V I stage;have U:=P8 T _ nd hy;refine OQ (afg H W I stage (V.nd m I)) ?_;refine VX ⟨by grind,by grind⟩ ⟨by grind,by grind⟩ ?_;refine OQ (af1 T _ (λx=>decide (x=(m:Int))) ae λx _=>rfl) ?_;refine UE eA ?_;refine UE (aec T _ ae) ?_;have C:(T.filter λx=>!decide (x=(m:Int))).Nodup:=List.Pairwise.filter _ nd;have rg2:∀ z∈T.filter (λx=>!decide (x=(m:Int))),0<=z/\z<(L.length:Int):=λz hz=>rg z (List.mem_filter.1 hz).1;have bo:Both s L (appW s w L[m] m stage) (v30 (appW s w L[m] m stage) B' S'):=⟨V3 H W V I stage,akj (H.fv _ (List.getElem_mem I)) m stage ty,B',S',rfl,V'⟩;generalize T.filter (λx=>!decide (x=(m:Int)))=left2 at C rg2 U;generalize appW s w L[m] m stage=w2 at bo;generalize v30 w2 B' S'=v2 at bo;refine hk (w2,left2,ord++[(m:Int)],L.map (·.stamp)) (v2,left2,_,ord'++[(m:Int)]) ⟨bo,rfl,C,rg2,rfl,i+1,iY ae,?_,?_,?_⟩ ?_
 grind
 simp[e6]
 simp[e7]
 grind
theorem aiA {w:eX}{B:List Bool}{S:List (List Int)}(W:WLK s L w)(ty:TyO w.eG)(V:VR s L w B S):Both s L { w with eG:=I7 s w.eG } (v30 { w with eG:=I7 s w.eG } B S):=by
 refine⟨⟨W.st,W.l,by simp[I7,W.all],λt J=>?_,W.don,W.hit,W.alK,W.drp⟩,akk ty,B,S,rfl,⟨V.bl,V.sl,V.nd,V.r⟩⟩;obtain⟨i,hi,e⟩:=List.getElem_of_mem J;have T : i<w.eG.length:=by simpa [I7] using hi
 have h0:=W.tr _ (List.getElem_mem T);have:t=PX (s.objects.getD i nC) w.eG[i]:=by rw[<- e];simp[I7]
 rw[this];unfold PX;cases (decide ((s.objects.getD i nC).iL=0)&&!decide (iM .and .i64 (w.eG[i]).line.types 1=0))<;>exact h0
theorem Bz {w:eX}{v:gB}(h:Both s L w v)(stage:Int):Two (λr T=>Both s L r.2 T.1) (jy w stage) (oD v stage):=by
 have e1:jy w stage=br (decide (stage=7)) (bnd (qN w) λy=>eH (lK stage y) (0,[],[])) (eH (lK stage w) (0,[],[])):=by grind[jy,jn]
 have J:oD v stage=br (decide (stage=7)) (bnd (uo v) λy=>eH (qJ stage y) (0,[])) (eH (qJ stage v) (0,[])):=by grind[oD,jn]
 rw[e1,J];refine akL (λ_=>?_) λ_=>acJ H h stage;obtain⟨W,ty,B,S,rfl,V⟩:=h;refine OQ (akh H W) ?_
 grind[UE,aki,acJ,aiA]
end
theorem anc (m:jP):If (λr=>r=true->m.kind=11->pO m.filter=some true) (lS m):=by
 unfold lS;refine yQ (λ_=>True) (λk hk=>jh (λ_=>hk _ trivial) λ_=>jh (λ_=>hk _ trivial) λ_=>jL λ_ _=>hk _ trivial) λs _=>jh (λ_=>kT λh=>by cases h) λ_=>?_;have no:∀ {p:Prop} {o:Option Bool},(p->m.kind≠11)->p->If (λr=>r=true->m.kind=11->pO m.filter=some true) o:=λh T _ _ _ h2=>absurd h2 (h T);refine xK (no ae) λ_=>xK (no ae) λ_=>xK (no ae) λ_=>xK (no ae) λ_=>xK (no ae) λ_=>xK (no ae) λ_=>xK (no ae) λ_=>xK (no ae) λ_=>xK (λ_=>jL λy e=>kT λh _=>by rw[e,h]) λh=>no (λ_=>h) trivial
structure Vo (c:gV):Prop where
 types:0<=c.line.types/\c.line.types<=63
 len:c.fC.length<=8
 ab:∀ a∈c.fC,a.kind=1->pO a.filter=some true/\∀ m∈a.fP,lS m=some true
theorem agl (cards:List gV)(o:fD)(hc:uZ nU cards):Ok (λt=>∃ c,(c∈cards\/c=Ud)/\adT c t) (JC cards o):=by
 unfold JC;refine gu (λ_=>True) (λk hk=>dY (λ_=>hk _ trivial) λ_=>hk _ trivial) λi _=>?_;refine gu (λt=>∃ c,(c∈cards\/c=Ud)/\adT c t) (λk hk=>?_) λt J=>?_
 refine gu (λb=>b=true->0<=i/\i<eU cards) (λk8 I=>dY (λh=>I _ λh2=>⟨h,of_decide_eq_true h2⟩) λ_=>I _ λh=>by cases h) λb C=>?_;refine gq (λh=>?_) λ_=>hk _ ⟨Ud,.inr rfl,rfl,rfl,rfl,rfl,rfl,rfl⟩;obtain⟨g1,g2⟩:=C h;exact yL g1 g2 λc T=>fB (acs c (hc.2 c T)) λt J=>hk t ⟨c,.inl T,J⟩
 obtain⟨c,h1,h2⟩:=J;exact dY (λ_=>dX ⟨c,h1,h2.name,h2.line,h2.keys,h2.af4,h2.power,h2.gK⟩) λ_=>dY (λ_=>dX ⟨c,h1,h2.name,h2.line,h2.keys,h2.af4,h2.power,h2.gK⟩) λ_=>dX ⟨c,h1,h2.name,h2.line,h2.keys,h2.af4,h2.power,h2.gK⟩
theorem abe (n b:Nat)(h0:0<b)(T:b*n<=140737488355328):jD (n:Int) (n:Int) b=some n:=by
 have:bnd (jD (n:Int) (n:Int) b) some=some n:=ok_eq (QB rfl rfl h0 T (dX rfl))
 cases h:jD (n:Int) (n:Int) b with
 | none=>rw[h] at this;cases this
 | some x=>rw[h] at this;exact this
section
variable {cards:List gV}{s:dZ}(hc:uZ nU cards)(hs:kR s)(hv:∀ c∈cards,Vo c)(ho:s.objects.length<=2048)
include hc hv in
theorem aiB (o:fD):∃ t,JC cards o=some t/\N9 cards o=some t/\jX t/\Ty1 t/\t.fC.length<=8/\∀ a∈t.fC,kQ a/\(a.kind=1->pO a.filter=some true/\∀ m∈a.fP,lS m=some true):=by
 obtain⟨t,e,c,T,U⟩:=agl cards o hc;refine⟨t,e,by rw[<- of_eq cards o hc];exact e,?_⟩
 have I:nU c/\Vo c:=by
  rcases T with h|rfl
  exact⟨hc.2 c h,hv c h⟩
  exact⟨by simp[nU,Dp,szB,uZ,Ud,Xo,uP],⟨by decide,by decide⟩,by decide,by simp[Ud]⟩
 obtain⟨h1,h2⟩:=I;refine⟨⟨by rw[U.name];exact h1.1,by rw[U.line];exact h1.2.1,by rw[U.af4];exact h1.2.2⟩,?_,by rw[U.af4];exact h2.len,by rw[U.af4];exact λa J=>⟨h1.2.2.2 a J,h2.ab a J⟩⟩;unfold Ty1;rw[U.line];exact h2.types
include hc hs hv ho
theorem aed (ha:Asc s.objects)(hcn:∀ c∈s.jB,∀ m∈c.fP,lS m=some true):Two (λL L'=>VA s L/\L'=L.map f30) (GI cards s) (AV cards s):=by
 have g:=hs.2.2.2.2.2.2.1;have hcl1:=g.1;have mf:∀ m:jP,lS m=some true->lS m=some true/\(m.kind=11->pO m.filter=some true):=λm h=>⟨h,anc m _ h rfl⟩
 unfold GI AV;refine XF s.objects.length (λi t I=>I=t.map f30/\t.length<=8*i/\∀ f∈t,EK f/\FV f) ae ⟨rfl,by simp,by simp⟩ (λi t I k k' hi T hk=>?_) λt I k k' T=>?_
 obtain⟨rfl,h1,h2⟩:=T;unfold FM xm;rw[decide_eq_true (show(i:Int)<eU s.objects by grind[eU])];simp only[br,jn];have e1:gW s.objects (i:Int)=some s.objects[i]:=by grind[qH]
 refine OQ e1 (UE e1 (akL (λ_=>hk _ _ ⟨rfl,by omega,h2⟩) λ_=>?_));obtain⟨tr,e2,e3,C,ty,hal,hab⟩:=aiB hc hv s.objects[i];refine OQ e2 (UE e3 ?_);refine XF tr.fC.length (λj u u'=>u'=u.map f30/\u.length<=8*i+j/\∀ f∈u,EK f/\FV f) ae ⟨rfl,h1,h2⟩ (λj u u' k2 k2' hj hJ hk2=>?_) λu u' k2 k2' hJ=>?_
 obtain⟨rfl,j1,j2⟩:=hJ;obtain⟨az,av⟩:=hab _ (List.getElem_mem hj);have zm:=az.2.1.1;have e4:gW tr.fC (j:Int)=some tr.fC[j]:=by grind[qH]
 unfold FH zQ;rw[decide_eq_true (show(j:Int)<eU tr.fC by grind[eU])];simp only[br,jn];refine OQ e4 (UE e4 ?_)
 by_cases J:(tr.fC[j]).kind=1
 rw[decide_eq_true J];simp only;refine OQ bU ?_;refine VX ⟨by grind,by grind⟩ ⟨by grind,by grind⟩ (hk2 _ _ ⟨by rw[List.map_append];rfl,by grind,λf U=>?_⟩);rcases List.mem_append.1 U with U|U
 exact j2 f U
 rw[List.mem_singleton.1 U];exact⟨⟨⟨by simp,λ_ _=>trivial⟩,az.1,az.2.1⟩,λ_=>(av J).1,λm hm=>mf m ((av J).2 m hm)⟩
 grind
 obtain⟨rfl,j1,j2⟩:=hJ;unfold FH zQ;rw[decide_eq_false (show ¬ (tr.fC.length:Int)<eU tr.fC by grind[eU])];exact hk _ _ ⟨rfl,by grind,j2⟩
 obtain⟨rfl,h1,h2⟩:=T;unfold FM xm;rw[decide_eq_false (show ¬ (s.objects.length:Int)<eU s.objects by grind[eU])];refine XF s.jB.length (λi t I=>I=t.map f30/\t.length<=16384+i/\∀ f∈t,EK f/\FV f) ae ⟨rfl,by grind,h2⟩ (λi t I k k' hi T hk=>?_) λt I k k' T=>?_
 obtain⟨rfl,h1,h2⟩:=T;have C:=g.2 _ (List.getElem_mem hi);have z1:=C.1.1;have z2:=C.2.1;have e1:gW s.jB (i:Int)=some s.jB[i]:=by grind[qH]
 unfold FK zS;rw[decide_eq_true (show(i:Int)<eU s.jB by grind[eU])];refine OQ e1 (UE e1 (OQ (by unfold slices_Clone_int;exact sN ae ae) (OQ bU ?_)));refine VX ⟨by grind,by grind⟩ ⟨by grind,by grind⟩ (hk _ _ ⟨by rw[List.map_append];rfl,by grind,λf U=>?_⟩);rcases List.mem_append.1 U with U|U
 exact h2 f U
 rw[List.mem_singleton.1 U];refine⟨⟨C.1,?_,C.2⟩,λh=>bW,λm hm=>mf m (hcn _ (List.getElem_mem hi) m hm)⟩;simp[kL,szB,lq,uP]
 obtain⟨rfl,h1,h2⟩:=T;unfold FK zS;rw[decide_eq_false (show ¬ (s.jB.length:Int)<eU s.jB by grind[eU])];exact VW ⟨⟨⟨hs,ho,by grind,λf U=>(h2 f U).1⟩,ha,λf U=>(h2 f U).2⟩,rfl⟩
theorem agm (ha:Asc s.objects)(I:∀ c∈s.jB,∀ m∈c.fP,lS m=some true):Two (λw v=>∃ L,VA s L/\Both s L w v) (EX cards s) (Bg cards s):=by
 unfold EX Bg;refine J9 (aed hc hs hv ho ha I) λL L' h=>?_;obtain⟨H,rfl⟩:=h;have hL:=H.len;refine OQ (abe s.objects.length 1 ae ae) ?_;refine XF s.objects.length (λi t J=>t=(J,List.replicate s.objects.length false)/\J.length=i/\(∀ x∈J,jX x)/\TyO J) ae ⟨rfl,rfl,by simp,λt ht=>by cases ht⟩ (λi t J k k' hi g hk=>?_) λt J k k' g=>?_
 obtain⟨rfl,h1,h2,C⟩:=g;unfold Cj wL;rw[decide_eq_true (show(i:Int)<eU s.objects by grind[eU])];have e1:gW s.objects (i:Int)=some s.objects[i]:=by grind[qH]
 obtain⟨tr,e2,e3,hz,ty,_⟩:=aiB hc hv s.objects[i];refine OQ e1 (UE e1 (OQ e2 (UE e3 (VX ⟨by grind,by grind⟩ ⟨by grind,by grind⟩ (hk _ _ ⟨rfl,by simp[h1],λx T=>?_,λx T=>?_⟩)))))
 grind
 rcases List.mem_append.1 T with T|T
 exact C x T
 rw[List.mem_singleton.1 T];exact ty
 obtain⟨rfl,h1,h2,C⟩:=g;unfold Cj wL;rw[decide_eq_false (show ¬ (s.objects.length:Int)<eU s.objects by grind[eU])];have m1:=abe L.length 1 ae ae;have m2:=abe L.length 24 ae ae;have m3:jD (eU (L.map f30)) (eU (L.map f30)) 1=some L.length:=by grind[eU]
 have m4:jD (eU (L.map f30)) (eU (L.map f30)) 24=some L.length:=by grind[eU]
 refine OQ m1 (OQ m2 (UE m3 (UE m4 (UE (abe s.objects.length 1 ae ae) (VW ⟨L,H,⟨rfl,rfl,h1,h2,by simp,by simp,λx T=>?_,by simp⟩,C,_,_,rfl,by simp,by simp,λn hn=>by simp[hn],λn hn=>.inl ⟨by simp,by simp[hn]⟩⟩)))));rw[(List.mem_replicate.1 T).2];exact⟨by simp,by simp⟩
theorem afn (J:Asc s.objects)(T:∀ c∈s.jB,∀ m∈c.fP,lS m=some true):∃ all,qj cards s=some all/\BZ cards s=some all/\all.length=s.objects.length/\∀ t∈all,jX t:=by
 have:Two (λa b=>b=a/\a.length=s.objects.length/\∀ t∈a,jX t) (qj cards s) (BZ cards s):=by
  unfold qj BZ;refine J9 (agm hc hs hv ho J T) λw v h=>?_;obtain⟨L,H,b⟩:=h;refine J9 (Bz H b 1) λ_ _ b=>J9 (Bz H b 2) λ_ _ b=>J9 (Bz H b 3) λ_ _ b=>J9 (Bz H b 4) λ_ _ b=>J9 (Bz H b 5) λ_ _ b=>J9 (Bz H b 6) λ_ _ b=>J9 (Bz H b 7) λ_ _ b=>J9 (Bz H b 8) λx y b=>?_;obtain⟨W,_,B,S,e,_⟩:=b;exact VW ⟨by rw[e];rfl,W.all,W.tr⟩
 obtain⟨x,y,e1,I,rfl,h1,h2⟩:=this
 grind
end
theorem aee (c:gV)(T:nU c):Ok (λr=>True) (Uj c):=by
 unfold Uj Ui;have:=@QM;have:=@QL;have:=@adK;have:=@Xz;have:=@Uy;have:=@Nh;have:=@aaW;exact TT
theorem abf (l:List gV)(name:ByteArray)(J:(uZ nU) l)(T:szB name):Ok (λr=>True) (SI l name):=by
 unfold SI Vh;exact TT
theorem Yh (l:List gV)(name:ByteArray)(J:(uZ nU) l)(T:szB name):Ok (λr=>True) (PH l name):=by
 unfold PH SK;exact TT
theorem VC (l:List gV)(c:gV)(T:(uZ nU) l)(J:nU c):Ok (λr=>True) (Jy l c):=by
 have t:(uZ kQ) c.fC:=J.2.2;have hla:=t.1;unfold Jy;refine kM 0 c.fC.length (λ_=>True) 0 rfl (Nat.zero_le _) ae trivial ?_ ?_
 intro i k hi _ hk;unfold Iy;refine dY (λ_=>?_) λh=>absurd (show(i:Int)<(c.fC.length:Int) by omega) h;have zx:kQ c.fC[i]:=t.2 _ (List.getElem_mem hi);have C:(uZ qG) (c.fC[i]).jJ:=zx.2.2.2.2.1;have hle:=C.1;refine kM 0 (c.fC[i]).jJ.length (λ_=>True) 0 rfl (Nat.zero_le _) ae trivial ?_ ?_
 intro j k5 hj _ hk5;unfold Iw;refine fO i rfl hi (dY (λ_=>fO i rfl hi (fO j rfl hj (gu (λ_=>True) ?_ ?_))) λh=>absurd (show(j:Int)<((c.fC[i]).jJ.length:Int) by omega) h)
 intro g I;exact dY (λ_=>fB (Yh _ _ T (by have z:=C.2 _ (List.getElem_mem hj);exact z.2.2.1)) λ_ _=>I _ trivial) λ_=>I _ trivial
 simp_all[gq,dX]
 intro k5 _;unfold Iw;exact fO i rfl hi (dY (λh=>absurd h (by show ¬ ((c.fC[i]).jJ.length:Int)<((c.fC[i]).jJ.length:Int);omega)) λ_=>hk trivial)
 intro k _;unfold Iy;exact dY (λh=>absurd h aP) λ_=>dX trivial
theorem Yi (l:List gV)(T:(uZ nU) l):Ok (λr=>True) (G9 l):=by
 unfold G9 MQ;have:=@aee;have:=@abf;have:=@VC;exact TT
theorem Yj (p:TZ Int)  : Ok (λr=>True) (Pm p):=by
 unfold Pm RY;exact TT
theorem Yk (s:dZ)(id:Int)(T:kR s):Ok (λr=>-1<=r/\r<(s.objects.length:Int)) (Pn s id):=by
 unfold Pn RZ;exact TT
theorem abg (s:dZ)(id:Int)(T:kR s):Ok (λr=>True) (Si s id):=by
 unfold Si;have:=@Yk;exact TT
theorem OV (s:dZ)(id:Int)(T:kR s):Ok (λr=>True) (Ip s id):=by
 unfold Ip;have:=@abg;exact TT
theorem Qe (l:List Int)(n:Int)(T:(uZ (λ(_:Int)=>True)) l):Ok (λr=>True) (G6 l n):=by
 unfold G6 Sj;exact TT
theorem abh (s:dZ)(l:List Int)(iL:Int)(owner:Int)(J:kR s)(T:(uZ (λ(_:Int)=>True)) l):Ok (λr=>True) (ES s l iL owner):=by
 unfold ES Vd;have:=@OV;have:=@Qe;exact TT
theorem VD (s:dZ)(T:kR s):Ok (λr=>True) (Jp s):=by
 unfold Jp Og;have:=@IP;have:=@Yj;have:=@abh;exact TT
theorem aef (c:NW Int)  : Ok (λr=>True) (aar c):=by
 unfold aar Y9;exact TT
theorem abj (o:fD)  : Ok (λr=>True) (Sl o):=by
 unfold Sl;exact TT
theorem Yl (o:fD)  : Ok (λr=>True) (Po o):=by
 unfold Po;exact TT
theorem aeg (o:fD)(cards:Int)(fV:Int)  : Ok (λr=>True) (aas o cards fV):=by
 unfold aas;have:=@aef;have:=@abj;have:=@Yl;exact TT
theorem XM (s:dZ)(id:Int)(T:kR s):Ok (λr=>True) (MJ s id):=by
 unfold MJ P7;exact TT
theorem abk (s:dZ)(iL:Int)(lI:Int)(T:kR s):Ok (λr=>r.length<=1048576) (Sm s iL lI):=by
 unfold Sm;have:=@aaJ;exact TT
theorem XN (s:dZ)(o:fD)(T:kR s):Ok (λr=>True) (MK s o):=by
 unfold MK;have:=@XM;have:=@abk;have:=@Qe;exact TT
theorem VE (cards:List gV)(s:dZ)(T:(uZ nU) cards)(J:kR s):Ok (λr=>True) (Bo cards s):=by
 unfold Bo Iq;have:=@aeg;have:=@XN;exact TT
theorem abl (s:dZ)(x:nJ)(zz_s:kR s)(J:Na x):Ok (λr=>True) (SG s x):=by
 unfold SG;have z13:=(J).1;refine gu (λ(s1:Bool)=>s1=false->¬(4<(x.targets.length:Int))) (λk2 hk29=>?_) (λs1 C=>?_)
 grind[fB,IP,eU,dY,IQ]
 refine gq (λI=>dX trivial) (λI=>?_);have hf38:=C I;exact fB (OV _ _ ai) (λy7 h39=>dY (λg=>fB (aaI _ _ ai aaG) (λy8 h41=>gu (λ(s9:Bool)=>True) (λk10 T=>dY (λh44=>gq (λh45=>dY (λh46=>gq (λh47=>T _ trivial) (λh47=>fB (Nh _ ai) (λy12 h48=>T _ trivial))) (λh46=>T _ trivial)) (λh45=>T _ trivial)) (λh44=>T _ trivial)) (λs9 hs43=>dX trivial))) (λg=>dY (λt=>gq (λh50=>fB (Nh _ ai) (λy13 h51=>dX trivial)) (λh50=>dX trivial)) (λt=>dX trivial)))
theorem aeh (l:List Int)(J:(uZ (λ(_:Int)=>True)) l):Ok (λr=>True) (aaz l):=by
 unfold aaz;have z1:=(J).1;refine kF (λ(T:Int)=>1<=T) (λ(T:Int)=>((l.length:Int)-T).toNat) ai aX (λT k2 t C=>?_);unfold Za;apply dY<;>intro g
 (try simp only[eU] at g)
 have h5:rP T 1=T-1:=EJ ai ai;refine yL ai ai (λx4 h6=>?_);refine yL ai ai (λx5 h7=>?_);refine dY (λI=>dX trivial) (λI=>?_)
 grind[wH]
 simp_all[dX]
theorem Ym (s:dZ)(T:kR s):Ok (λr=>True) (G8 s):=by
 unfold G8 MP MO Gx Gw;have:=@abl;have:=@IQ;have:=@Nh;have:=@IP;have:=@aeh;have:=@Eb;exact TT
theorem aei (cards:List gV)(s:dZ)(T:(uZ nU) cards)(J:kR s):Ok (λr=>True) (Ug cards s):=by
 unfold Ug Uf;have:=@IP;have:=@VD;have:=@IQ;have:=@VE;have:=@Ym;exact TT
theorem ltT {α:Type}{l:List α}{i:Nat}(h:i<l.length):decide ((i:Int)<eU l)=true:=by simp[eU];omega
theorem ltF {α:Type}{l:List α}:decide ((l.length:Int)<eU l)=false:=by simp[eU]
theorem aiC {ρ:Type}{Q:ρ->Prop}{c:Bool}{a b:Option ρ}(h:c=true)(k:If Q a):If Q (br c a b):=by subst h;exact k
theorem if_f {ρ:Type}{Q:ρ->Prop}{c:Bool}{a b:Option ρ}(h:c=false)(k:If Q b):If Q (br c a b):=by subst h;exact k
theorem no {p:Prop}:((false:Bool)=true->p):=λe=>by cases e
theorem Lm {p:Prop}:((true:Bool)=false->p):=λe=>by cases e
theorem OW {α:Type}{P:α->Prop}{l:List α}{i:Nat}(hi:i<l.length)(h:∀ x∈l.take i,P x)(h2:P l[i]):∀ x∈l.take (i+1),P x:=by
 grind[gQ]
theorem Vp (l:List jP)(g:l.length<=1048576):If (λr=>gp .eql r (bs [])=false->∀ m∈l,lS m=some true) (uy l):=by
 have e0:gp .eql (bs []) (bs [])=true:=rfl;unfold uy;refine yQ (λ_=>True) (λk hk=>jh (λ_=>hk _ trivial) λ_=>hk _ trivial) λb _=>jh (λ_=>kT ai) λ_=>?_;refine ae9 l.length (λi _=>∀ m∈l.take i,lS m=some true) ae aj (λi t k hi I hk=>?_) λt k I=>?_
 unfold wW;refine aiC (ltT hi) (yQ (λ_=>lS l[i]=some true) (λk2 J=>Tt λ_=>jL λy e=>jh (λ_=>kT ai) λhy=>?_) λx C=>hk _ (OW hi I C));have e:lS l[i]=some true:=by grind
 exact yQ (λ_=>True) (λk3 T=>jh (λ_=>jL λ_ _=>T _ trivial) λ_=>T _ trivial) λx _=>jL λ_ _=>jL λ_ _=>jL λ_ _=>J _ e
 grind[wW,if_f,ltF,kT]
def AbV (a:gz):Prop:=a.kind=1->pO a.filter=some true/\∀ m∈a.fP,lS m=some true
theorem XO (a:gz)(t:a.fP.length<=1048576):If (λr=>r=true->AbV a) (MN a):=by
 unfold MN;refine yQ (λ_=>True) (λk hk=>jh (λ_=>hk _ trivial) λ_=>hk _ trivial) λb _=>jh (λ_=>kT no) λ_=>?_;refine yQ (λ_=>True) (λk hk=>jh (λ_=>hk _ trivial) λ_=>jh (λ_=>hk _ trivial) λ_=>hk _ trivial) λb _=>?_;refine yQ (λ_=>AbV a) (λk hk=>xK (λh1=>?_) λh1=>?_) λ_ h _ _ _=>h
 refine yQ (λb=>b=false->AbV a) (λk2 T=>jL λy e=>jh (λ_=>T _ Lm) λhy=>jh (λ_=>T _ Lm) λ_=>jL λz J=>T _ λC _=>⟨?_,Vp _ t z J C⟩) λb I=>jh (λ_=>kT no) λh=>hk _ (I h)
 grind
 exact yQ (λ_=>True) (λk2 T=>jh (λ_=>T _ trivial) λ_=>T _ trivial) λb _=>jh (λ_=>kT no) λ_=>hk _ λh=>absurd h h1
theorem akl (l:rZ):If (λr=>r=true->0<=l.types/\l.types<=63) (Uh l):=by
 unfold Uh;refine yQ (λb=>b=false->0<=l.types/\l.types<=63) (λk hk=>xK (λ_=>hk _ Lm) λ_=>xK (λ_=>hk _ Lm) λ_=>xK (λ_=>hk _ Lm) λh1=>xK (λ_=>hk _ Lm) λh2=>hk _ λ_=>⟨by omega,by omega⟩) λb T=>jh (λ_=>kT no) λh _ _ _=>T h
theorem akm (c:gV)(g:nU c):If (λr=>r=true->Vo c) (Uj c):=by
 have hal:=g.2.2.1;unfold Uj;refine yQ (λb=>b=false->0<=c.line.types/\c.line.types<=63) (λk hk=>jL λ_ _=>jh (λ_=>hk _ Lm) λ_=>jL λ_ _=>jh (λ_=>hk _ Lm) λ_=>jL λy e=>jh (λ_=>hk _ Lm) λhy=>jL λ_ _=>jh (λ_=>hk _ Lm) λ_=>jh (λ_=>hk _ Lm) λ_=>hk _ λ_=>akl _ y e ai) λb C=>jh (λ_=>kT no) λh=>?_;have ht:=C h;refine yQ (λb=>b=false->c.fC.length<=8) (λk hk=>?_) λb C=>jh (λ_=>kT no) λh=>?_
 have last:If (λr=>r=true->Vo c) (k (decide (8<eU c.fC))):=hk _ λh=>by grind[eU]
 exact jh (λ_=>hk _ Lm) λ_=>jh (λ_=>hk _ Lm) λ_=>jh (λ_=>hk _ Lm) λ_=>jh (λ_=>hk _ Lm) λ_=>jL λ_ _=>jh (λ_=>jh (λ_=>hk _ Lm) λ_=>jh (λ_=>hk _ Lm) λ_=>last) λ_=>last
 have h8:=C h;refine ae9 c.fC.length (λi _=>∀ a∈c.fC.take i,AbV a) ae aj (λi t k hi J hk=>?_) λt k J r _ _=>⟨ht,h8,λa ha=>by rw[List.take_length] at J;exact J a ha⟩
 have I:=g.2.2.2 _ (List.getElem_mem hi);unfold Ui;exact aiC (ltT hi) (yQ (λ_=>AbV c.fC[i]) (λk2 T=>Tt λ_=>jL λy e=>jh (λ_=>kT no) λhy=>Tt λ_=>jh (λ_=>T _ (XO _ I.2.1.1 y e ai)) λ_=>T _ (XO _ I.2.1.1 y e ai)) λx I=>hk _ (OW hi J I))
theorem aiD (l:List gV)(J:uZ nU l):If (λr=>r.2=0->∀ c∈l,Vo c) (G9 l):=by
 have hlen:=J.1;unfold G9;refine jh (λ_=>kT λh=>by cases h) λ_=>?_;refine aa2 l.length (λi=>∀ c∈l.take i,Vo c) ae aj (λi k hi T hk=>?_) λk T r _ _=>by grind
 unfold MQ;refine aiC (ltT hi) (Tt λ_=>jL λy e=>jh (λ_=>kT λh=>by cases h) λhy=>?_);have:=akm _ (J.2 _ (List.getElem_mem hi)) y e ai;exact Tt λ_=>jL λ_ _=>jh (λ_=>kT λh=>by cases h) λ_=>Tt λ_=>jL λ_ _=>jh (λ_=>kT λh=>by cases h) λ_=>hk (OW hi T this)
theorem aej (cards:List gV)(s:dZ)(hs:kR s):If (λr=>r=true->Asc s.objects) (Bo cards s):=by
 have hlen:=hs.2.1.1;unfold Bo;refine jh (λ_=>kT no) λ_=>?_;refine aa2 s.objects.length (λn=>∀ i (h:i+1<s.objects.length),i+1<n->(s.objects[i]).id<(s.objects[i+1]).id) ae (λi h h2=>by omega) (λi k hi J hk=>?_) λk J r _ _=>?_
 unfold Iq;refine aiC (ltT hi) (Tt λ_=>yQ (λb=>b=false->∀ j (h:j+1<s.objects.length),j+1=i->(s.objects[j]).id<(s.objects[j+1]).id) (λk2 T=>jL λ_ _=>jh (λ_=>T _ Lm) λ_=>jh (λ_=>T _ Lm) λ_=>jh (λ_=>T _ Lm) λ_=>xK (λh0=>?_) λh0=>T _ λ_ j h e=>by omega) λb C=>jh (λ_=>kT no) λh=>jL λ_ _=>jh (λ_=>kT no) λ_=>hk λj h2 t=>?_)
 obtain⟨m,rfl⟩:∃ m,i=m+1:=⟨i-1,by omega⟩
 grind[EJ,Tt]
 grind
 have key:∀ d i (h:i+1+d<s.objects.length),(s.objects[i]).id<(s.objects[i+1+d]).id:=by
  intro d
  induction d<;>grind
 intro i j hi hj I;have:=key (j-i-1) i ae
 grind
def akn (s:dZ):Prop:=∀ c∈s.jB,∀ m∈c.fP,lS m=some true
theorem aiE (s:dZ)(hs:kR s):If (λr=>r=true->akn s) (G8 s):=by
 have J:=hs.2.2.2.2.2.2.1;have C:=J.1
 have g:If (λr=>r=true->akn s) (eH (Gw s) 0):=by
  refine aa2 s.jB.length (λi=>∀ c∈s.jB.take i,∀ m∈c.fP,lS m=some true) ae aj (λi k hi I hk=>?_) λk I r _ _=>by rw[List.take_length] at I;exact I
  have hx:=J.2 _ (List.getElem_mem hi);unfold Gw;exact aiC (ltT hi) (Tt λ_=>yQ (λb=>b=false->∀ m∈(s.jB[i]).fP,lS m=some true) (λk2 T=>jL λ_ _=>jh (λ_=>T _ Lm) λ_=>jh (λ_=>T _ Lm) λ_=>jL λ_ _=>jh (λ_=>T _ Lm) λ_=>jL λ_ _=>jh (λ_=>T _ Lm) λ_=>jL λz ez=>T _ λhz=>Vp _ hx.2.1 z ez hz) λb hb=>jh (λ_=>kT no) λh=>hk (OW hi I (hb h)))
 have t:If (λr=>r=true->akn s) (eH (Gx s) 0):=by
  refine Nl (λ_=>True) trivial λi k _ hk=>?_;unfold Gx;exact jh (λ_=>jL λ_ _=>yQ (λ_=>True) (λk2 T=>jL λ_ _=>jh (λ_=>T _ trivial) λ_=>jh (λ_=>T _ trivial) λ_=>jL λ_ _=>T _ trivial) λb _=>jh (λ_=>kT no) λ_=>hk _ trivial) λ_=>g
 unfold G8;refine yQ (λ_=>True) (λk hk=>jh (λ_=>hk _ trivial) λ_=>jh (λ_=>hk _ trivial) λ_=>hk _ trivial) λb _=>jh (λ_=>kT no) λ_=>?_;refine Nl (λ_=>True) trivial λi k _ hk=>?_;unfold MP;refine jh (λ_=>jL λ_ _=>jL λ_ _=>jh (λ_=>kT no) λ_=>?_) λ_=>t;refine Nl (λ_=>True) trivial λj k2 _ T=>?_;unfold MO;exact jh (λ_=>jL λ_ _=>jL λ_ _=>jh (λ_=>kT no) λ_=>T _ trivial) λ_=>hk _ trivial
theorem agn (s:dZ)(p:Int)(T:s.fV.length<=1048576):If (λr=>r=true->0<=p/\p<(s.fV.length:Int)) (rE s p):=by
 unfold rE xJ;refine jL λy e=>kT λh=>?_;subst h
 by_cases h1:0<=p
 have e:decide (p<=rP (eU s.fV) 1)=true:=by grind[br]
 have:=of_decide_eq_true e
 grind[eU,EJ]
 grind[br]
structure StV (s:dZ):Prop where
 len:s.objects.length<=2048
 asc:Asc s.objects
 con:akn s
 act:0<=s.kX/\s.kX<(s.fV.length:Int)
theorem ane (cards:List gV)(s:dZ)(hs:kR s):If (λr=>r=true->StV s) (Ug cards s):=by
 have I:=hs.1.1;unfold Ug;refine yQ (λb=>b=false->s.objects.length<=2048) (λk hk=>jL λ_ _=>jh (λ_=>hk _ Lm) λ_=>jL λ_ _=>jh (λ_=>hk _ Lm) λ_=>jL λ_ _=>jh (λ_=>hk _ Lm) λ_=>jL λ_ _=>jh (λ_=>hk _ Lm) λ_=>hk _ λh=>by grind[eU]) λb J=>jh (λ_=>kT no) λh=>?_;have ho:=J h;refine yQ (λb=>b=false->0<=s.kX/\s.kX<(s.fV.length:Int)) (λk hk=>jL λ_ _=>jh (λ_=>hk _ Lm) λ_=>jL λy e=>jh (λ_=>hk _ Lm) λhy=>?_) λb J=>jh (λ_=>kT no) λh=>?_
 have:=agn s _ I y e ai;exact jL λ_ _=>jh (λ_=>hk _ Lm) λ_=>jL λ_ _=>jh (λ_=>hk _ Lm) λ_=>jh (λ_=>hk _ Lm) λ_=>jL λ_ _=>hk _ λ_=>this
 have C:=J h;refine Nl (λ_=>True) trivial λi k _ hk=>?_;unfold Uf;refine jh (λ_=>jL λ_ _=>jL λ_ _=>jh (λ_=>kT no) λ_=>hk _ trivial) λ_=>yQ (λ_=>True) (λk2 T=>jh (λ_=>jL λ_ _=>jh (λ_=>T _ trivial) λ_=>jh (λ_=>T _ trivial) λ_=>T _ trivial) λ_=>jh (λ_=>T _ trivial) λ_=>T _ trivial) λb _=>jh (λ_=>kT no) λ_=>jL λy e=>jh (λhy=>jL λz g=>kT λt=>?_) λ_=>kT no;subst hy t;exact⟨ho,aej cards s hs _ e rfl,aiE s hs _ g rfl,C⟩
def nO (o:fD):fD:={ o with blocks:=0,blocked:=false }
def nS (s:dZ):dZ:={ s with objects:=s.objects.map nO,waiting:=[] }
def nW (w:gB):gB:={ w with s:=nS w.s }
section
variable {α β σ σ' ρ ρ' : Type}
theorem XP (l:List α)(f:α->β):eU (l.map f)=eU l:=by simp[eU]
theorem aek (l:List α)(f:α->β)(i:Int)(k:β->Option ρ):bnd (gW (l.map f) i) k=bnd (gW l i) λx=>k (f x):=by
 have:gW (l.map f) i=(gW l i).map f:=by
  unfold gW;cases i<;>simp
 rw[this];cases gW l i<;>rfl
theorem ako (o:Option α)(f:α->β)(k:β->Option ρ):bnd (o.map f) k=bnd o λx=>k (f x):=by cases o<;>rfl
theorem Vq (o:Option α)(k:α->Option ρ)(g:ρ->ρ'):(bnd o k).map g=bnd o λx=>(k x).map g:=by cases o<;>rfl
theorem ael (c:Bool)(a b:Option ρ)(g:ρ->ρ'):(br c a b).map g=br c (a.map g) (b.map g):=by cases c<;>rfl
theorem XQ (n b:Nat)(k:Option ρ)(g:ρ->ρ'):(iy n b k).map g=iy n b (k.map g):=by
 unfold iy;cases (Nat.ble ((2*n+192)*b) 140737488355328&&Nat.ble n 4611686018427387904)<;>rfl
theorem XR {step:σ->(σ->Option ρ)->Option ρ}{T : σ'->(σ'->Option ρ')->Option ρ'}(N:σ->σ')(g:ρ->ρ')(h:∀ s k J,(∀ t,J (N t)=(k t).map g)->T (N s) J=(step s k).map g)(s:σ):eH T (N s)=(eH step s).map g:=by
 have key:∀ n s,iI T n (N s)=(iI step n s).map g:=by
  intro n
  induction n with
  | zero=>intro s;rfl
  | succ n I=>intro s;exact h s _ _ I
 exact key _ s
end
theorem anf (cards:List gV)(o:fD):N9 cards (nO o)=N9 cards o:=rfl
theorem akQ (o:fD):qF (nO o)=qF o:=rfl
theorem agp (o:fD):(nO o).id=o.id/\(nO o).iL=o.iL/\(nO o).counters=o.counters:=⟨rfl,rfl,rfl⟩
theorem n_s (s:dZ):(nS s).objects=s.objects.map nO/\(nS s).jB=s.jB:=⟨rfl,rfl⟩
theorem n_w (w:gB):(nW w).s=nS w.s/\(nW w).all=w.all/\(nW w).l=w.l/\(nW w).begun=w.begun/\(nW w).sets=w.sets/\(nW w).blank=w.blank:=⟨rfl,rfl,rfl,rfl,rfl,rfl⟩
theorem afo (s:dZ)(id:Int):xq (nS s) id=xq s id:=by
 have:zf (nS s) id=zf s id:=by
  funext a k
  simp only[zf,n_s,XP,aek,agp]
 simp only[xq,this]
theorem alX (s:dZ)(all:List eF)(you source:Int)(f:iO):yh (nS s) all you source f=yh s all you source f:=by
 have:Bj (nS s) all you source f=Bj s all you source f:=by
  funext a k
  simp only[Bj,n_s,XP,aek,agp,akQ]
 simp only[yh,this]
theorem aiF (cards:List gV)(s:dZ):AV cards (nS s)=AV cards s:=by
 have h1:∀ k x,zQ k (nO x)=zQ k x:=λk x=>rfl;have h2:zS (nS s)=zS s:=rfl
 have:xm cards (nS s)=xm cards s:=by
  funext a k
  simp only[xm,n_s,XP,aek,agp,anf,h1,h2]
 simp only[AV,this]
theorem aiG (w:gB)(i:Int):Ep (nW w) i=Ep w i:=by simp only[Ep,n_w,afo]
theorem XT (w:gB)(i:Int):uJ (nW w) i=uJ w i:=by simp only[uJ,n_w,afo]
theorem Zt (w:gB)(i:Int):uq (nW w) i=uq w i:=by
 have:∀ x,sU (nW w) i x=sU w i x:=λx=>by
  funext a k
  simp only[sU,n_w,n_s,XP,aek,agp,akQ,aiG]
 simp only[uq,n_w,XT,this]
theorem Zu (w:gB)(i stage:Int):uw (nW w) i stage=uw w i stage:=by
 have:∀ x,sV (nW w) i stage x=sV w i stage x:=λx=>by
  funext a k
  simp only[sV,n_w,aiG,alX]
 simp only[uw,n_w,this]
theorem Zv (w:gB)(i stage:Int):su (nW w) i stage=(su w i stage).map nW:=by
 have:∀ J y3 y4 j5 I T s,eH (sW (nW w) i stage J y3 y4 j5 I T) s=(eH (sW w i stage J y3 y4 j5 I T) s).map nW:=λJ y3 y4 j5 I T s=>by
  refine XR (λx=>x) nW (λs k C hk=>?_) s;simp only[sW,n_w,n_s,XP,aek,agp,ael,Vq,jn,lt,hk];rfl
 simp only[su,n_w,XT,Zt,Zu,aiG,this,ael,Vq,XQ,lt];rfl
theorem akp (w:gB)(i j stage:Int):DY (nW w) i j stage=DY w i j stage:=by
 simp only[DY,Zv,ako,XT,Zt,Zu]
theorem alY (w:gB)(left:List Int)(stage:Int):ER (nW w) left stage=ER w left stage:=by
 have h1:∀ s k,yt (nW w) left stage s k=yt w left stage s k:=λs k=>by
  funext a b
  simp only[yt,akp]
 have h2:∀ s,yu (nW w) left stage s=yu w left stage s:=λs=>by
  funext a b
  simp only[yu,h1]
 have T:yw (nW w) left stage=yw w left stage:=by
  funext a b
  simp only[yw,n_w,h2]
 simp only[ER,T]
theorem agq (w:gB):uo (nW w)=(uo w).map nW:=by
 unfold uo;refine XR (λx=>x) nW (λs k T hk=>?_) _;simp only[yg,n_w,n_s,XP,aek,agp,ael,Vq,XQ,jn,lt,hk];rfl
def nP (r:gB×List Int):gB×List Int:=(nW r.1,r.2)
theorem aiH (w:gB)(stage:Int):oD (nW w) stage=(oD w stage).map nP:=by
 have h1:∀ (J:Int×List Int) w a b c,eH (zV stage J) (nW w,a,b,c)=(eH (zV stage J) (w,a,b,c)).map nP:=λJ w a b c=>by
  refine XR (λx:gB×List Int×Int×List Int=>(nW x.1,x.2)) nP (λs k I hk=>?_) (w,a,b,c);have T : ∀ w a b c,I (nW w,a,b,c)=(k (w,a,b,c)).map nP:=λw a b c=>hk (w,a,b,c);simp only[zV,alY,Zv,ako,ael,Vq,XQ,T];rfl
 have h2:∀ w s,eH (qJ stage (nW w)) s=(eH (qJ stage w) s).map nP:=λw s=>by
  refine XR (λx=>x) nP (λs k I hk=>?_) s;simp only[qJ,n_w,h1,ael,Vq,XQ,jn,hk]
 simp only[oD,jn,agq,ako,h2,ael,Vq]
theorem akq (cards:List gV)(s:dZ):Bg cards (nS s)=(Bg cards s).map nW:=by
 have:∀ y T,eH (wL cards (nS s) y) T=(eH (wL cards s y) T).map nW:=λy T=>by
  refine XR (λx=>x) nW (λs k J hk=>?_) T;simp only[wL,n_s,XP,aek,anf,ael,Vq,XQ,lt,hk];rfl
 simp only[Bg,aiF,this,Vq]
theorem n_P (r:gB×List Int):(nP r).1=nW r.1:=rfl
theorem akR (cards:List gV)(s:dZ):BZ cards (nS s)=BZ cards s:=by
 simp only[BZ,akq,aiH,ako,n_P,n_w]
theorem aiI {l l' : List fD}(h:Asc l)(J:l'.length=l.length)(hu:∀ i (h1:i<l'.length) (h2:i<l.length),(l'[i]).id=(l[i]).id):Asc l':=by
 intro i k hi hk T;rw[hu i hi ae,hu k hk ae];exact h i k _ _ T
def blO (l:List fD)(j m:Nat)(b:Int):List fD := (l.set j { l.getD j nC with blocks:=b }).set m { (l.set j { l.getD j nC with blocks:=b }).getD m nC with blocked:=true }
theorem afp {l:List fD}{j m:Nat}{b:Int}:(blO l j m b).length=l.length:=by simp[blO]
theorem aiJ {l:List fD}{j m:Nat}{b:Int}{i:Nat}(h:i<(blO l j m b).length)(h2:i<l.length):nO (blO l j m b)[i]=nO l[i]/\((blO l j m b)[i]).blocks=if i=j then b else(l[i]).blocks:=by
 unfold blO nO
 grind
structure StB (s t:dZ):Prop where
 sz:kR t
 nm:nS t=nS s
theorem aiK {s t:dZ}(h:nS t=nS s):t.objects.map nO=s.objects.map nO/\t.fV=s.fV/\t.jB=s.jB/\t.kX=s.kX:=by
 unfold nS at h;simp only[dZ.mk.injEq] at h;exact⟨h.2.1,h.1,h.2.2.2.2.2.2.1,h.2.2.2.2.2.2.2.2.1⟩
theorem XU {s t:dZ}(h:nS t=nS s):t.objects.length=s.objects.length:=by
 have:=congrArg List.length (aiK h).1
 simpa using this
theorem Zw {s t:dZ}(h:nS t=nS s){i:Nat}(h1:i<t.objects.length)(h2:i<s.objects.length):(t.objects[i]).id=(s.objects[i]).id/\(t.objects[i]).iL=(s.objects[i]).iL/\(t.objects[i]).lu=(s.objects[i]).lu/\(t.objects[i]).xI=(s.objects[i]).xI:=by
 have e:nO t.objects[i]=nO s.objects[i]:=by
  have T:(t.objects.map nO)[i]?=(s.objects.map nO)[i]?:=by rw[(aiK h).1]
  simpa [h1,h2] using T
 unfold nO at e;simp only[fD.mk.injEq] at e;exact⟨e.1,e.2.2.2.2.1,e.2.2.2.2.2.2.1,e.2.2.2.2.2.2.2.2.2.2.2.2.2.1⟩
structure akr (s:dZ)(e:jS)(j m:Nat):Prop where
 k:e.kind=13
 j:∃ h:j<s.objects.length,(s.objects[j]).id=e.object/\(s.objects[j]).iL=0
 m:∃ h:m<s.objects.length,(s.objects[m]).id=e.source/\(s.objects[m]).iL=0
theorem alZ {l:List fD}(J:Asc l)(I:l.length<=2000000){f:fD->Option Bool}{j:Nat}(hj:j<l.length)(U:∀ x,f x=some (decide (x.id=(l[j]).id))):jb l f=some (j:Int):=by
 unfold jb;refine ok_eq (kM 0 l.length (λi=>i<=j) 0 rfl (Nat.zero_le _) ae ae (λi k hi T hk=>?_) λk T=>by omega);unfold pV;refine iR (ltT hi) (fO i rfl hi (eP (U _) (dY (λe=>dX (by rw[Np J hi hj e])) λe=>hk ?_)));rcases Nat.lt_or_ge i j with h|h
 omega
 obtain rfl:i=j:=by omega
 exact absurd rfl e
theorem afq {s:dZ}(ho:s.objects.length<=2048)(J:Asc s.objects){j:Nat}(hj:j<s.objects.length):yH s (s.objects[j]).id=some (some j):=by
 unfold yH;refine ok_eq (kM 0 s.objects.length (λi=>i<=j) 0 rfl (Nat.zero_le _) ae ae (λi k hi T hk=>?_) λk T=>by omega);unfold OD;refine iR (ltT hi) (iD i rfl hi (gY hi (dY (λe=>iD i rfl hi (dX (by rw[Np J hi hj e]))) λe=>hk ?_)));rcases Nat.lt_or_ge i j with h|h
 omega
 obtain rfl:i=j:=by omega
 exact absurd rfl e
theorem Zx {s:dZ}(ho:s.objects.length<=2048)(T:Asc s.objects){j:Nat}(hj:j<s.objects.length)(I:(s.objects[j]).iL=0):zW s (s.objects[j]).id=some (s.objects[j],true):=by
 unfold zW Uk QI;have J:jb s.objects (λa0=>GG a0 (s.objects[j]).id)=some (j:Int):=alZ T ae hj λx=>rfl
 grind[bnd,decide_eq_false,qH,br]
theorem ang {s:dZ}(ho:s.objects.length<=2048)(T:Asc s.objects)(cards:List gV){e:jS}{j m:Nat}(hc:akr s e j m):EW cards s e=some true:=by
 obtain⟨hk,⟨hj,h1,h2⟩,⟨C,I,t⟩⟩:=hc;have e1:=Zx ho T hj h2;have J:=Zx ho T C t;rw[h1] at e1;rw[I] at J;unfold EW;rw[e1,hk];refine ok_eq (eP rfl ?_)
 iterate 16 refine iE rfl ?_
 exact iR rfl (eP J (iR rfl (dX rfl)))
theorem aem (s:dZ)(all:List eF)(id:Int)(hs:s.objects.length<=2048):Ok (λ_=>True) (MW s all id):=by
 unfold MW;refine kM 0 s.objects.length (λ_=>True) 0 rfl (Nat.zero_le _) ae trivial (λi k hi _ hk=>?_) λk _=>?_
 unfold J4;refine iR (ltT hi) (fO i rfl hi (gu (λb=>b=true->i<all.length) (λk6 T=>dY (λ_=>T _ λh=>?_) λ_=>T _ λh=>by cases h) λb J=>gq (λh=>fO i rfl (J h) (fB (FP _ _) λ_ _=>dX trivial)) λ_=>hk trivial))
 simp_all[eU]
 simp_all[J4,iE,ltF,dX]
theorem do_p {s:dZ}(hs:kR s)(ho:s.objects.length<=2048)(C:Asc s.objects)(cards:List gV)(all:List eF){e:jS}{j m:Nat}(hc:akr s e j m):Uo cards s all e=some { s with objects:=blO s.objects j m e.source }:=by
 have hi:=ang ho C cards hc;obtain⟨hk,⟨hj,h1,h2⟩,⟨J,h3,t⟩⟩:=hc;have U:=afq ho C hj;rw[h1] at U;have ej:s.objects.getD j nC=s.objects[j]:=by simp[hj]
 have I:yH { s with objects:=s.objects.set j { s.objects[j] with blocks:=e.source } } e.source=some (some m):=by
  have hid:∀ i (h1:i<(s.objects.set j { s.objects[j] with blocks:=e.source }).length) (h2:i<s.objects.length),((s.objects.set j { s.objects[j] with blocks:=e.source })[i]).id=(s.objects[i]).id:=λi h1 h2=>by grind
  have T:m<(s.objects.set j { s.objects[j] with blocks:=e.source }).length:=by simpa using J
  have:=afq (s:={ s with objects:=s.objects.set j { s.objects[j] with blocks:=e.source } }) (by simpa using ho) (aiI C aj hid) T;have e3:=(hid m T J).trans h3;have g:yH _ _=some (some m):=this;simp only[e3] at g;exact g
 unfold Uo;refine ok_eq (eP (Nk s hs) (eP hi (iE rfl ?_)));rw[hk]
 iterate 13 refine iE rfl ?_
 refine iR rfl (gu (λl=>l=s.objects.set j { s.objects[j] with blocks:=e.source }) (λk4 t=>eP U (fB (aem s all _ ho) λd _=>eP (x:=s.objects.set j { s.objects[j] with blocks:=e.source }) ?_ (t _ rfl))) λl hl=>?_)
 unfold EZ;rw[hk,List.getElem?_eq_getElem hj];rfl
 subst hl;have T:m<(s.objects.set j { s.objects[j] with blocks:=e.source }).length:=by simpa using J
 refine eP I (iR rfl (BN (gY T (dX ?_))));unfold blO;rw[ej]
 have:(s.objects.set j { s.objects[j] with blocks:=e.source }).getD m nC=(s.objects.set j { s.objects[j] with blocks:=e.source })[m]:=by
  rw[List.getD_eq_getElem?_getD,List.getElem?_eq_getElem T];rfl
 rw[this]
theorem acK {s:dZ}(ho:s.objects.length<=2048){all:List eF}(T:aaZ all)(id:Int):Ok (λr=>jX r.2.1) (Ci s all id):=by
 unfold Ci;refine fB (Zk _ _ ae λx=>dX trivial) λy hy=>dY (λ_=>dX ah2) λh0=>dY (λ_=>yL ae hy λ_ _=>dX ah2) λh1=>yL ae hy λ_ _=>yL ae bM λt J=>dX (T t J)
theorem aen (cards:List gV)(s:dZ)(all:List eF){e:jS}(J:e.kind=13)(T:qM)(you source:Int):Ai cards s all e T you source=some false:=by
 unfold Ai;refine ok_eq (rQ (λ_=>dX rfl) λ_=>?_);rw[J]
 iterate 7 refine iE rfl ?_
 exact dX rfl
theorem acL {s:dZ}(ho:s.objects.length<=2048)(cards:List gV){all:List eF}(ha:aaZ all){e:jS}(he:e.kind=13)(hi:EW cards s e=some true):Aj cards s all e=some []:=by
 have k1:e.kind≠1:=by omega
 have k2:e.kind≠2:=by omega
 unfold Aj;refine ok_eq (eP hi (iE rfl (gu (λ_=>True) (λk3 h3=>?_) λu _=>?_)))
 refine fB (acK ho ha _) λy _=>gu (λb=>b=false) (λk7 h7=>?_) λb J=>by subst J;exact iE rfl (h3 _ trivial)
 exact gq (λ_=>dY (λh1=>absurd h1 k1) λ_=>h7 _ rfl) λ_=>h7 _ rfl
 refine jA 0 s.objects.length (λ_ l=>l=[]) 0 rfl (Nat.zero_le _) ae rfl (λi l k hi g hk=>?_) λl k g=>?_
 subst g;unfold AY;refine iR (ltT hi) (fO i rfl hi (fB (acK ho ha _) λy hy=>?_));have hla:=hy.2.2.1;refine kF (λq=>∃ j:Nat,q.2.1=(j:Int)/\j<=y.2.1.fC.length/\q.2.2=[]) (λq=>y.2.1.fC.length-q.2.1.toNat) ⟨0,rfl,by omega,rfl⟩ (by show y.2.1.fC.length-_<18446744073709551616;omega) ?_
 rintro⟨o,j',u⟩ k15 ⟨j,ej,hj,hu⟩ hk15
 simp only at ej hu;subst ej;subst hu;unfold IE;refine dY (λh=>?_) λh=>hk _ rfl;have C:j<y.2.1.fC.length:=by grind[eU]
 refine gu (λq=>q.2=[]) (λk18 I=>?_) λq hq=>hk15 _ ⟨j+1,iY ae,by omega,hq⟩ dw;exact fO j rfl C (gu (λb=>b=false) (λk22 T=>dY (λ_=>dY (λ_=>eP (aen cards s all he _ _ _) (T _ rfl)) λ_=>T _ rfl) λ_=>T _ rfl) λb J=>by subst J;exact iE rfl (I _ rfl))
 subst g;unfold AY;exact iE ltF (gu (λb=>b=true) (λk28 t=>rQ (λ_=>t _ rfl) λh=>absurd h k2) λb J=>by subst J;exact iR rfl (dX rfl))
structure Fld (cards:List gV)(s:dZ)(T:List eF):Prop where
 hc:uZ nU cards
 hv:∀ c∈cards,Vo c
 hs:kR s
 st:StV s
 tl:T.length=s.objects.length
 tz:aaZ T
 ref:BZ cards s=some T
section
variable {cards:List gV}{s:dZ}{T:List eF}(F:Fld cards s T){t:dZ}(H:StB s t)
include F H
theorem StB.ob:t.objects.length<=2048:=by have:=F.st.len;rw[XU H.nm];exact this
theorem StB.asc:Asc t.objects:=aiI F.st.asc (XU H.nm) λi h1 h2=>(Zw H.nm h1 h2).1
theorem StB.lay:qj cards t=some T:=by
 obtain⟨T',e,J,_⟩:=afn F.hc H.sz F.hv (H.ob F) (H.asc F) (by rw[(aiK H.nm).2.2.1];exact F.st.con);have:some T'=some T:=by rw[<- J,<- akR,H.nm,akR,F.ref]
 rw[e,this]
def aks (s t:dZ)(j:Nat)(b:Int)(u:dZ):Prop:=StB s u/\∀ i (h1:i<u.objects.length) (h2:i<t.objects.length),(u.objects[i]).blocks=if i=j then b else(t.objects[i]).blocks
variable {e:jS}{j m:Nat}(hc:akr t e j m)
include hc
theorem StB.does (w:List gU)(T:uZ tH w):aks s t j e.source { t with objects:=blO t.objects j m e.source,waiting:=w }:=by
 obtain⟨z1,z2,z3,z4,z5,z6,z7,z8⟩:=H.sz;refine⟨⟨⟨z1,⟨by show(blO _ _ _ _).length<=_;rw[afp];exact z2.1,λ_ _=>trivial⟩,z3,z4,z5,T,z7,z8⟩,?_⟩,λi h1 h2=>(aiJ h1 h2).2⟩;rw[<- H.nm]
 have:(blO t.objects j m e.source).map nO=t.objects.map nO:=by
  refine List.ext_getElem (by simp[afp]) λi h1 h2=>?_;simp only[List.getElem_map];exact(aiJ _ bV).1
 unfold nS;simp only[this]
theorem anh (k:fJ):Ok (aks s t j e.source) (Di k cards t e):=by
 have ho:=H.ob F;have ha:=H.asc F;have hk:=hc.k;have hi:=ang ho ha cards hc;have k1:e.kind≠1:=by omega
 have k2:e.kind≠2:=by omega
 have k3:e.kind≠3:=by omega
 have k10:e.kind≠10:=by omega
 have rep:uX k cards t e true=some (t,e,true):=by
  unfold uX;refine ok_eq (kF (λ_=>True) (λ_=>0) trivial aJ λs1 k2 _ _=>?_);unfold Dh
  have C:qy cards t T e [] true=some []:=by
   unfold qy GH;rw[acL ho cards F.tz hk hi];rfl
  exact eP (H.lay F) (eP C (iR rfl (dX rfl)))
 have g:Ok (aks s t j e.source) (uD k cards t e):=by
  unfold uD;have hu:=H.does F hc t.waiting H.sz.2.2.2.2.2.1;refine eP (H.lay F) (eP (do_p H.sz ho ha cards T hc) (eP (hu.1.lay F) (fB (ah5 _ _ _ _ _ ⟨ho,hu.1.ob F,F.tz,F.tz,k2,k10⟩) λl C=>?_)));refine jA 0 l.length (λ_ t=>uZ tH t) 0 rfl (Nat.zero_le _) (by have:=C.1;omega) H.sz.2.2.2.2.2.1 (λi t k hi I hk=>?_) λt k I=>?_
  unfold uC;refine iR (ltT hi) (gu (uZ tH) (λk9 h9=>fO i rfl hi (dY (λh=>?_) λ_=>h9 _ I)) λu hu=>hk u hu);have h:t.length<64:=by grind[eU]
  refine iJ ai ai (h9 _ ⟨by simp;omega,λx J=>?_⟩);rcases List.mem_append.1 J with J|J
  exact I.2 x J
  rw[List.mem_singleton.1 J];exact C.2 _ (List.getElem_mem hi)
  unfold uC;exact iE ltF (rQ (λ_=>dX (H.does F hc _ I)) λh=>absurd h k1)
 unfold Di IM;refine fB (R:=aks s t j e.source) ?_ λu hu=>dX hu
 refine eP rep (gu (λb=>b=false) (λk3 h3=>iE rfl (eP hi (h3 _ rfl))) λb hb=>by
  subst hb;refine iE rfl (gu (λ_=>True) (λk7 h7=>?_) λu _=>fB g λu hu=>kF (λ_=>True) (λ_=>0) trivial aJ λ_ k _ _=>?_)
  exact gu (λb=>b=false) (λk10 h10=>dY (λh=>absurd h k3) λ_=>h10 _ rfl) λb hb=>by subst hb;exact iE rfl (h7 _ trivial)
  unfold JF;exact iE rfl (dX hu))
end
theorem aeo (s:dZ)(hs:kR s):Ok (λl=>l.length<=s.fV.length) (Gz s):=by
 have h1:=hs.1.1;unfold Gz;refine jA 0 s.fV.length (λi t=>t.length<=i) 0 rfl (Nat.zero_le _) ae (Nat.le_refl _) (λi t k hi T hk=>?_) λt k T=>?_
 unfold FC;exact iR (ltT hi) (gu (λu=>u.length<=i+1) (λk5 J=>fO i rfl hi (gq (λ_=>iJ ai ai (J _ ai)) λ_=>J _ ai)) λu hu=>hk u hu)
 unfold FC;exact iE ltF (dX T)
theorem aiL (s:dZ)(p0:Int)(hs:kR s)(g:0<=p0/\p0<(s.fV.length:Int)):Ok (λl=>l.length<=s.fV.length/\∀ p∈l,p≠p0) (Ce s p0):=by
 have h1:=hs.1.1;unfold Ce;refine gu (λx=>x=p0) (λk2 h2=>gu (λb=>b=false) (λk5 h5=>dY (λh=>by omega) λ_=>h5 _ (decide_eq_false bM)) λb hb=>by subst hb;exact iE rfl (h2 _ rfl)) λx I=>fB (aeo s hs) λy hy=>?_;subst I;refine jA 0 y.length (λi (t:List Int×List Int)=>t.1.length+t.2.length<=i/\(∀ p∈t.1,p≠x)/\∀ p∈t.2,p≠x) 0 rfl (Nat.zero_le _) ae aj (λi t k hi J hk=>?_) λt k J=>?_
 obtain⟨g1,g2,g3⟩:=J;unfold FD;refine iR (ltT hi) (gu (λ(u:List Int×List Int)=>u.1.length+u.2.length<=i+1/\(∀ p∈u.1,p≠x)/\∀ p∈u.2,p≠x) (λk12 T=>fO i rfl hi ?_) λu hu=>hk u hu);obtain⟨c,C,c1,c2⟩:=ad7 y[i] x
 have add:c≠0->∀ (l:List Int),(∀ p∈l,p≠x)->∀ p∈l++[y[i]],p≠x:=λh0 l hl p g=>by
  grind
 refine eP C (dY (λh=>iJ ai ai (T _ ⟨by simp;omega,add ae _ g2,g3⟩)) λ_=>dY (λh=>iJ ai ai (T _ ⟨by simp;omega,g2,add ae _ g3⟩)) λ_=>T _ ⟨by grind,g2,g3⟩)
 grind[FD,iE,ltF,iJ,dX]
theorem afr {T:List eF}{i:Nat}(h:i<T.length):wM T (i:Int)=some T[i]:=by
 unfold wM;exact ok_eq (iR (ltT h) (fO i rfl h (dX rfl)))
def Zy (s:dZ)(T:List eF)(p:Int)(x:fH):Prop:=∃ i j,∃ (hi:i<s.objects.length) (hj:j<s.objects.length) (ht:i<T.length),(s.objects[i]).id=x.a/\(s.objects[i]).iL=0/\(s.objects[i]).lu=false/\iM .and .i64 (T[i]).line.types 1≠0/\(T[i]).control=p/\(s.objects[j]).id=x.b/\(s.objects[j]).iL=0/\(s.objects[j]).xI=p
theorem ani (b:fD)(tb:eF)(a:fD)(J:eF):Ok (λr=>r=true->b.lu=false/\iM .and .i64 tb.line.types 1≠0) (PI b tb a J):=by
 unfold PI yz oL;refine gu (λc=>c=false->b.lu=false/\iM .and .i64 tb.line.types 1≠0) (λk2 h2=>dY (λ_=>h2 _ Lm) λg1=>gq (λ_=>h2 _ Lm) λg2=>eP rfl (gq (λ_=>h2 _ Lm) λ_=>eP rfl (h2 _ λ_=>⟨g2,g1⟩))) λc hc=>gq (λ_=>dX no) λh=>?_;have T:=hc h;exact eP rfl (gq (λ_=>dX λ_=>T) λ_=>eP rfl (gq (λ_=>dX λ_=>T) λ_=>eP rfl (dX λ_=>T)))
theorem al0 (s:dZ)(T:List eF)(p:Int)(ho:s.objects.length<=2048)(tl:T.length=s.objects.length):Ok (λr=>r.length<=4194304/\∀ x∈r,Zy s T p x) (yA s T p):=by
 unfold yA;refine jA 0 s.objects.length (λi t=>t.length<=2048*i/\∀ x∈t,Zy s T p x) 0 rfl (Nat.zero_le _) ae ⟨by simp,by simp⟩ (λi t k hi g hk=>?_) λt k g=>?_
 obtain⟨i1,i2⟩:=g;have hiT:i<T.length:=by omega
 unfold JZ;refine iR (ltT hi) (gu (λu=>u.length<=2048*(i+1)/\∀ x∈u,Zy s T p x) (λk5 h5=>fO i rfl hi (gu (λb=>b=false->(s.objects[i]).iL=0/\(T[i]).control=p) (λk9 J=>rQ (λ_=>J _ Lm) λhz=>eP (afr hiT) (J _ λh=>⟨hz,by simpa using h⟩)) λb hb=>gq (λ_=>h5 _ ⟨by grind,i2⟩) λU=>?_)) λu hu=>hk u hu);obtain⟨g1,g2⟩:=hb U;refine jA 0 s.objects.length (λj t=>t.length<=2048*i+j/\∀ x∈t,Zy s T p x) 0 rfl (Nat.zero_le _) ae ⟨i1,i2⟩ (λj t k2 hj C hk2=>?_) λt k2 C=>?_
 obtain⟨j1,j2⟩:=C;have hjT:j<T.length:=by omega
 unfold JY;refine iR (ltT hj) (gu (λu=>u.length<=2048*i+(j+1)/\∀ x∈u,Zy s T p x) (λk6 h6=>fO j rfl hj (gu (λb=>b=true->(s.objects[j]).iL=0/\(s.objects[j]).xI=p/\(s.objects[i]).lu=false/\iM .and .i64 (T[i]).line.types 1≠0) (λk9 J=>dY (λz1=>dY (λz2=>eP (afr hiT) (eP (afr hjT) (fB (ani _ _ _ _) λc hc=>J _ λh=>⟨z1,z2,hc h⟩))) λ_=>J _ no) λ_=>J _ no) λb hb=>gq (λh=>BN (iJ ai ai (h6 _ ⟨by simp;omega,λx I=>?_⟩))) λ_=>h6 _ ⟨by grind,j2⟩)) λu hu=>hk2 u hu);obtain⟨z1,z2,z3,z4⟩:=hb h;rcases List.mem_append.1 I with I|I
 exact j2 x I
 rw[List.mem_singleton.1 I];exact⟨i,j,hi,hj,hiT,rfl,g1,z3,z4,g2,rfl,z1,z2⟩
 unfold JY;exact iE ltF (h5 _ ⟨by grind,C.2⟩)
 unfold JZ;exact iE ltF (dX ⟨by grind,g.2⟩)
theorem aiM (l:List fH)(f:fH->Option Bool)(T:l.length<=4194304)(U:∀ x,Ok (λ_=>True) (f x)):Ok (λ_=>True) (pR l f):=by
 unfold pR oM;refine fB (R:=λ_=>True) (kM 0 l.length (λ_=>True) 0 rfl (Nat.zero_le _) ae trivial (λi k hi _ hk=>?_) λk _=>?_) λ_ _=>dX trivial
 unfold sZ;exact iR (ltT hi) (fO i rfl hi (fB (U _) λ_ _=>gq (λ_=>dX trivial) λ_=>hk trivial))
 unfold sZ;exact iE ltF (dX trivial)
theorem aiN (l:List fH)(o:fH)(T:l.length<=4194304):Ok (λ_=>True) (pU l o):=by
 unfold pU zA;refine fB (R:=λ_=>True) (kM 0 l.length (λ_=>True) 0 rfl (Nat.zero_le _) ae trivial (λi k hi _ hk=>?_) λk _=>?_) λ_ _=>dX trivial
 unfold wO;exact iR (ltT hi) (fO i rfl hi (BN (gq (λ_=>dX trivial) λ_=>hk trivial)))
 unfold wO;exact iE ltF (dX trivial)
theorem agr {s:dZ}{T:List eF}{p:Int}{J:List fH}(ho:s.objects.length<=2048)(tl:T.length=s.objects.length)(ea:yA s T p=some J)(g:J.length<=4194304)(l:List fH)(hl:l.length<=256):Ok (λ_=>True) (EU s T p l):=by
 unfold EU;refine eP ea (kM 0 l.length (λ_=>True) 0 rfl (Nat.zero_le _) ae trivial (λi k hi _ hk=>?_) λk _=>?_)
 unfold IB;exact iR (ltT hi) (fO i rfl hi (Xh (i:=0) (j:=i) rfl rfl (Nat.zero_le _) ae (fB (aiM _ _ (by simp[Dw];omega) λx=>dX trivial) λb _=>gu (λ_=>True) (λk9 h9=>gq (λ_=>h9 _ trivial) λ_=>fB (aiN _ _ g) λ_ _=>h9 _ trivial) λb _=>gq (λ_=>dX trivial) λ_=>hk trivial)))
 unfold IB;refine iE ltF (kM 0 s.objects.length (λ_=>True) 0 rfl (Nat.zero_le _) ae trivial (λi k hi _ hk=>?_) λk _=>?_)
 unfold IA;refine iR (ltT hi) (gu (λ_=>True) (λk16 C=>fO i rfl hi (eP (afr ae) (fB (FP _ _) λb _=>gq (λ_=>C _ trivial) λ_=>?_))) λ_ _=>hk trivial);refine BO 0 l.length (λ_ _=>True) 0 rfl (Nat.zero_le _) ae trivial (λj t k2 hj _ hk2=>?_) λt k2 _=>?_
 unfold Iz;exact iR (ltT hj) (gu (λ_=>True) (λk25 I=>fO j rfl hj (gq (λ_=>I _ trivial) λ_=>I _ trivial)) λu _=>hk2 u trivial)
 unfold Iz;exact iE ltF (gq (λ_=>dX trivial) λ_=>C _ trivial)
 unfold IA;exact iE ltF (dX trivial)
theorem akt (c:oV)(a:List Int)(C:a.length<=1000):Ok (λr=>r=true->∀ x∈a,0<=x/\x<(c.options.length:Int)) (qm c a):=by
 unfold qm;refine kM 0 a.length (λn=>∀ x∈a.take n,0<=x/\x<(c.options.length:Int)) 0 rfl (Nat.zero_le _) ae aj (λi k hi T hk=>?_) λk T=>?_
 unfold IJ;refine iR (ltT hi) (fO i rfl hi (gu (λb=>b=false->0<=a[i]/\a[i]<(c.options.length:Int)) (λk6 J=>dY (λ_=>J _ Lm) λh1=>dY (λ_=>J _ Lm) λh2=>fB (R:=λ_=>True) ?_ λy _=>J _ λ_=>by grind[eU]) λb I=>gq (λ_=>dX no) λU=>hk (OW hi T (I U))));unfold OC;exact fB (SX a _ ae) λ_ _=>dX trivial
 unfold IJ;rw[List.take_length] at T;exact iE ltF (dX λ_=>T)
theorem abm (c:oV)(a:List Int)(I:a.length<=1000)(h:∀ x∈a,0<=x/\x<(c.options.length:Int)):Ok (λ_=>True) (CE c a):=by
 unfold CE;refine jA 0 a.length (λi t=>t.length=i) 0 rfl (Nat.zero_le _) ae rfl (λi t k hi T hk=>?_) λt k T=>?_
 obtain⟨h1,h2⟩:=h _ (List.getElem_mem hi);unfold FO Un;exact iR (ltT hi) (fO i rfl hi (yL h1 h2 λx _=>fB (R:=λ_=>True) (eP (OJ t _ ae) (dX trivial)) λy _=>gq (λ_=>dX trivial) λ_=>yL h1 h2 λJ _=>iJ ai ai (hk _ ai)))
 unfold FO;exact iE ltF (dX trivial)
theorem ags (c:oV)(hk:c.kind=7)(a:List Int):Ok (λr=>r=true->a.length<=256/\∀ x∈a,0<=x/\x<(c.options.length:Int)) (KX c a):=by
 unfold KX;refine dY (λ_=>dX no) λT=>?_;have T:a.length<=256:=by grind[eU]
 rw[hk]
 iterate 9 refine iE rfl ?_
 exact iR rfl (fB (akt c a ae) λy hy=>gq (λh1=>fB (abm c a ae (hy h1)) λz _=>dX λ_=>⟨T,hy h1⟩) λ_=>dX no)
structure KI (k:fJ):Prop where
 u:0<=k.used/\k.used<=(k.answers.length:Int)
 l:k.answers.length<=1048576
 p:k.pending.options.length<=4194304
theorem aiO {k:fJ}(K:KI k)(p:Int)(T:List fH)(J:T.length<=4194304) :
  Ok (λr=>r.1.length<=256/\(∀ x∈r.1,0<=x/\x<(T.length:Int))/\KI r.2) (rC k (oV.mk 7 p 0 0 0 0 T)):=by
 obtain⟨⟨g,u2⟩,t,pp⟩:=K
 have D:uA (oV.mk 7 p 0 0 0 0 T)=some []:=by
  unfold uA;rfl
 unfold rC;refine gu (λ_=>True) (λk2 h2=>gq (λ_=>h2 _ trivial) λ_=>gq (λ_=>h2 _ trivial) λ_=>fB (R:=λ_=>True) ?_ λ_ _=>h2 _ trivial) λb _=>gq (λ_=>eP D (dX ⟨by simp,by simp,⟨g,u2⟩,t,pp⟩)) λ_=>dY (λ_=>?_) λhu=>?_
 ·unfold MV
  iterate 8 refine iE rfl ?_
  exact iR rfl (dX trivial)
 unfold pM;exact eP (x:=T) (ok_eq (iJ (by show(2*T.length+192)*24<=_;omega) (by show T.length<=_;omega) (dX rfl))) (eP D (dX ⟨by simp,by simp,⟨g,u2⟩,t,J⟩))
 have I:k.used<(k.answers.length:Int):=by omega
 have ea:fK k.used 1=k.used+1:=wH ae ae;have K2:∀ b,KI { k with used:=fK k.used 1,bad:=b }:=λb=>⟨⟨by show 0<=fK k.used 1;omega,by show fK k.used 1<=(k.answers.length:Int);omega⟩,t,pp⟩
 refine ahR g I λj hj C=>gY C (fB (ags _ rfl _) λy hy=>gq (λ_=>eP D (dX ⟨by simp,by simp,K2 _⟩)) λU=>?_);obtain⟨g1,g2⟩:=hy (by simpa using U);refine eP (x:=k.answers[j]) (ok_eq ?_) (dX ⟨g1,g2,K2 _⟩);unfold vC;exact iJ ae ae (dX rfl)
def aiP (s:dZ)(T:List eF)(i:Nat)(b:Int):Prop:=∃ j,∃ (hi:i<s.objects.length) (hj:j<s.objects.length) (ht:i<T.length),(s.objects[j]).id=b/\(T[i]).control≠s.kX/\(s.objects[j]).xI=(T[i]).control/\(s.objects[i]).iL=0/\(s.objects[i]).lu=false/\iM .and .i64 (T[i]).line.types 1≠0
structure aiQ (s:dZ)(T:List eF)(t:dZ):Prop where
 st:StB s t
 ok:∀ i (h1:i<t.objects.length) (h2:i<s.objects.length),(t.objects[i]).blocks=(s.objects[i]).blocks\/aiP s T i (t.objects[i]).blocks
theorem agt {cards:List gV}{s:dZ}{T:List eF}(F:Fld cards s T){k:fJ}(K:KI k):Ok (λr=>KI r.2.2/\(r.2.1=false->r.1=s)/\aiQ s T r.1) (sJ k cards s):=by
 have hpl:=F.hs.1.1;have tl:=F.tl;have ho:=F.st.len;have I0:aiQ s T s:=⟨⟨F.hs,rfl⟩,λi h1 h2=>.inl rfl⟩;unfold sJ;refine fB (aiL s s.kX F.hs F.st.act) λy hy=>?_;refine kF (λq=>∃ j:Nat,q.2.2=(j:Int)/\j<=y.length/\KI q.1/\aiQ s T q.2.1) (λq=>y.length-q.2.2.toNat) ⟨0,rfl,by omega,K,I0⟩ (by show y.length-_<18446744073709551616;omega) ?_
 rintro⟨ka,t,j'⟩ k3 ⟨j,ej,hj,Ka,I⟩ hk3
 simp only at ej Ka I;subst ej;have to:=I.st.ob F;have tlen:=XU I.st.nm;unfold zH;refine dY (λh=>?_) λ_=>eP (Nk t I.st.sz) (dX ⟨Ka,λh=>bW,I⟩);have hjl:j<y.length:=by grind[eU]
 refine gu (λq=>KI q.1/\aiQ s T q.2) (λk6 h6=>?_) λq hq=>hk3 _ ⟨j+1,iY ae,by omega,hq.1,hq.2⟩ dw;obtain⟨g,ea,hab,hav⟩:=al0 t T y[j] to ae;have hp:=hy.2 _ (List.getElem_mem hjl);refine fO j rfl hjl (eP (I.st.lay F) (eP ea (dY (λ_=>h6 _ ⟨Ka,I⟩) λ_=>fB (aiO Ka _ g hab) λr hr=>?_)));obtain⟨r1,r2,r3⟩:=hr;have hlen:=(Ic r.1).length_eq;have hmem:∀ x∈DK r.1,0<=x/\x<(g.length:Int):=λx hx=>r2 x ((Ic r.1).mem_iff.1 hx);refine eP (x:=DK r.1) (by unfold slices_Sort_int ahJ;rw[if_pos ae]) ?_;refine jA 0 (DK r.1).length (λi (q:List fH×List Int)=>q.1.length=i/\q.2=DK r.1/\∀ x∈q.1,Zy t T y[j] x) 0 rfl (Nat.zero_le _) ae ⟨rfl,rfl,by simp⟩ (λi q k hi hI hk=>?_) λq k hI=>?_
 obtain⟨q1,q2⟩:=q;obtain⟨i1,i2,i3⟩:=hI;simp only at i1 i2 i3;subst i2;obtain⟨m1,m2⟩:=hmem _ (List.getElem_mem hi);unfold uY;refine iR (ltT hi) (iD i rfl hi (gY hi (yL m1 m2 λx hx=>iJ ai ai (hk _ ⟨by grind,rfl,λz hz=>?_⟩))));rcases List.mem_append.1 hz with hz|hz
 exact i3 z hz
 rw[List.mem_singleton.1 hz];exact hav x hx
 obtain⟨l,q2⟩:=q;obtain⟨i1,i2,i3⟩:=hI;simp only at i1 i2 i3;unfold uY;refine iE ltF (fB (agr to ae ea hab l ae) λc _=>rQ (λ_=>eP (Nk s F.hs) (dX ⟨r3,λ_=>rfl,I0⟩)) λ_=>?_);refine kF (λq=>∃ i:Nat,q.2=(i:Int)/\i<=l.length/\aiQ s T q.1) (λq=>l.length-q.2.toNat) ⟨0,rfl,by omega,I⟩ (by show l.length-_<18446744073709551616;omega) ?_
 rintro⟨u,i'⟩ k22 ⟨i,ei,hi,Iu⟩ hk22
 simp only at ei Iu;subst ei;have ulen:=XU Iu.st.nm;unfold zG;refine dY (λh=>?_) λ_=>h6 _ ⟨r3,Iu⟩;have hil:i<l.length:=by grind[eU]
 obtain⟨a,b,ha,hb,hT,e1,e2,e3,e4,e5,e6,e7,e8⟩:=i3 _ (List.getElem_mem hil);have C:=Zw I.st.nm ha ae;have J:=Zw I.st.nm hb ae;have hau:=Zw Iu.st.nm (i:=a) ae ae;have hbu:=Zw Iu.st.nm (i:=b) ae ae;have cb:akr u (jS.mk 13 (l[i]).b (l[i]).a 0 0 0 0 0 0 0 false false NY) a b:=⟨rfl,⟨by omega,by show _=(l[i]).a;rw[hau.1,<- C.1,e1],by rw[hau.2.1,<- C.2.1,e2]⟩,⟨by omega,by show _=(l[i]).b;rw[hbu.1,<- J.1,e6],by rw[hbu.2.1,<- J.2.1,e7]⟩⟩;have good:aiP s T a (l[i]).b:=⟨b,by omega,by omega,hT,by rw[<- J.1,e6],by rw[e5];exact hp,by rw[<- J.2.2.2,e8,e5],by rw[<- C.2.1,e2],by rw[<- C.2.2.1,e3],e4⟩;refine iD i rfl hil (gY hil (fB (anh F Iu.st cb r.2) λv hv=>hk22 _ ⟨i+1,iY ae,by omega,hv.1,λn h1 h2=>?_⟩ dw));have hn:=hv.2 n h1 ae;have ho:=Iu.ok n ae h2;rw[hn]
 split
 next e=>subst e;exact .inr good
 exact ho
theorem aku (answers:List (List Int))(h:uZ (uZ (λ(_:Int)=>True)) answers):O7 answers=some ⟨answers,0,N7,false,false⟩:=by
 unfold O7;have J:=h.1;refine ok_eq (jA 0 answers.length (λi t=>t=answers.take i) 0 rfl (Nat.zero_le _) ae aj ?_ ?_)
 rintro i t k hi rfl hk
 have T:=(h.2 _ (List.getElem_mem hi)).1;unfold QG;refine iR (ltT hi) (fO i rfl hi (eP (x:=answers[i]) (ok_eq (iJ ae ae (dX rfl))) (iJ ai ai (hk _ (gQ answers i hi).symm))))
 rintro t k rfl
 unfold QG;rw[List.take_length];exact iE ltF (dX rfl)
theorem IX {ρ α:Type}{Q:ρ->Prop}{step:Int->(Int->Option ρ)->Option ρ}(l:List α)(J:l.length<=1048576)(h:∀ (i:Nat) (k:Int->Option ρ),i<l.length->Ok Q (k (fK (i:Int) 1))->Ok Q (step (i:Int) k))(T:∀ k,Ok Q (step (l.length:Int) k)):Ok Q (eH step 0) :=
 kM 0 l.length (λ_=>True) 0 rfl (Nat.zero_le _) ae trivial (λi k hi _ hk=>h i k hi (hk trivial)) λk _=>T k
theorem Ec (a:List Int)(T:a.length<=1048576):um a a=some true:=by
 unfold um;refine ok_eq (iE aj (IX a T (λi k hi hk=>?_) λk=>?_))
 unfold Jj;exact iR (ltT hi) (fO i rfl hi (fO i rfl hi (iE aj hk)))
 unfold Jj;exact iE ltF (dX rfl)
theorem Zz (a:List jP)(T:a.length<=1048576):wK a a=some true:=by
 unfold wK;refine ok_eq (iE aj (IX a T (λi k hi hk=>?_) λk=>?_))
 unfold Af;exact iR (ltT hi) (fO i rfl hi (fO i rfl hi (zI (b:=false) bg hk)))
 unfold Af;exact iE ltF (dX rfl)
theorem aep (a:List jP)(T:a.length<=1048576):Gj a a=some true:=by
 unfold Gj;refine ok_eq (iE aj (IX a T (λi k hi hk=>?_) λk=>?_))
 unfold Fz;exact iR (ltT hi) (fO i rfl hi (fO i rfl hi (zI (b:=false) bg hk)))
 unfold Fz;exact iE ltF (dX rfl)
theorem acM (a:iK)(T:qG a):KP a a=some true:=by
 unfold KP;exact ok_eq (iR aj (zI (b:=true) bg (iR rfl (zI (b:=true) bg (iR rfl (iR aj (iR aj (iR bg (zI (b:=true) bg (iR rfl (zI (b:=true) aj (iR rfl (eP (Zz _ (ah6 T)) (dX rfl))))))))))))))
theorem abn (a:List iK)(T:uZ qG a):yZ a a=some true:=by
 unfold yZ;refine ok_eq (iE aj (IX a T.1 (λi k hi hk=>?_) λk=>?_))
 unfold Ag;exact iR (ltT hi) (fO i rfl hi (fO i rfl hi (eP (acM _ (T.2 _ (List.getElem_mem hi))) (iE aj hk))))
 unfold Ag;exact iE ltF (dX rfl)
theorem TA (a:gz)(T:kQ a):EP a a=some true:=by
 have h1:a.fP.length<=1048576:=T.2.1.1;have h2:a.specs.length<=1048576:=T.2.2.2.1.1;unfold EP;refine ok_eq (iE aj (IX a.specs h2 (λi k hi hk=>?_) λk=>?_))
 unfold Jk;exact iR (ltT hi) (fO i rfl hi (fO i rfl hi (zI (b:=false) bg hk)))
 unfold Jk;exact iE ltF (iR aj (zI (b:=true) bg (iR rfl (eP (Zz _ h1) (iR rfl (zI (b:=true) aj (iR rfl (iR aj (zI (b:=true) bg (iR rfl (iR aj (eP (abn _ T.2.2.2.2.1) (iR rfl (zI (b:=true) bg (dX rfl)))))))))))))))
theorem agu (a:nJ)(T:Na a):Gi a a=some true:=by
 have h1:a.targets.length<=1048576:=T.2.1;unfold Gi;refine ok_eq (iE aj (IX a.targets h1 (λi k hi hk=>?_) λk=>?_))
 unfold Fv;exact iR (ltT hi) (fO i rfl hi (fO i rfl hi (zI (b:=false) aj hk)))
 unfold Fv;exact iE ltF (iR aj (iR aj (iR aj (iR aj (iR aj (iR aj (eP (TA _ T.1) (iR rfl (zI (b:=true) aj (dX rfl))))))))))
theorem abo (a:gU)(T:tH a):Ah a a=some true:=by
 unfold Ah;exact ok_eq (iR aj (iR aj (eP (TA _ T) (iR rfl (zI (b:=true) aj (dX rfl))))))
theorem agv (a:pF)(T:PQ a):Gl a a=some true:=by
 unfold Gl;exact ok_eq (iR aj (iR aj (iR aj (iR aj (eP (Ec _ T.1.1) (eP (aep _ T.2.1) (dX rfl)))))))
theorem acN (a:jl)(T:Ea a):BR a a=some true:=by
 unfold BR;refine ok_eq (gu (λs=>s=false) ?_ ?_)
 intro k h;exact iE aj (iE aj (iE aj (zI (b:=false) aj (iE rfl (iE aj (h _ aj))))))
 rintro s rfl
 exact eP (Ec _ T.1.1) (eP (Ec _ T.2.1.1) (eP (Ec _ T.2.2.1) (dX rfl)))
theorem aeq (a:dZ)(T:kR a):O8 a a=some true:=by
 obtain⟨p1,p2,p3,p4,p5,p6,p7,p8⟩:=T;unfold O8;refine ok_eq (gu (λs=>s=false) ?_ ?_)
 intro k h;exact iE aj (iE aj (iE aj (iE aj (h _ aj))))
 rintro s rfl
 refine iE rfl (IX a.fV p1.1 (λi k hi hk=>?_) λk=>?_)
 unfold Me;exact iR (ltT hi) (fO i rfl hi (fO i rfl hi (eP (acN _ (p1.2 _ (List.getElem_mem hi))) (iE aj hk))))
 unfold Me;refine iE ltF (IX a.objects p2.1 (λi k hi hk=>?_) λk=>?_)
 unfold Md;exact iR (ltT hi) (fO i rfl hi (fO i rfl hi (zI (b:=false) aj hk)))
 unfold Md;refine iE ltF (IX a.stack p5.1 (λi k hi hk=>?_) λk=>?_)
 unfold Mc;exact iR (ltT hi) (fO i rfl hi (fO i rfl hi (eP (agu _ (p5.2 _ (List.getElem_mem hi))) (iE aj hk))))
 unfold Mc;refine iE ltF (IX a.waiting p6.1 (λi k hi hk=>?_) λk=>?_)
 unfold L9;exact iR (ltT hi) (fO i rfl hi (fO i rfl hi (eP (abo _ (p6.2 _ (List.getElem_mem hi))) (iE aj hk))))
 unfold L9;refine iE ltF (IX a.jB p7.1 (λi k hi hk=>?_) λk=>?_)
 unfold L8;exact iR (ltT hi) (fO i rfl hi (fO i rfl hi (eP (agv _ (p7.2 _ (List.getElem_mem hi))) (iE aj hk))))
 unfold L8;exact iE ltF (dX rfl)
theorem aer (a:dZ)(T:kR a):RS a a=some true:=by
 unfold RS;refine ok_eq (gu (λs=>s=false) ?_ ?_)
 intro k h;exact iE aj (iE aj (iE aj (iE aj (iE aj (iE aj (iE aj (iE aj (iE aj (iE aj (h _ aj))))))))))
 rintro s rfl
 obtain⟨p1,p2,p3,p4,p5,p6,p7,p8⟩:=id T;exact eP (aeq a T) (eP (Ec _ p3.1) (eP (Ec _ p4.1) (eP (Ec _ p8.1) (dX rfl))))
theorem Nq:yK=some true:=by kernel_rfl
theorem aiR (cards:List gV)(s:dZ)(hc:uZ nU cards)(hs:kR s):Ok (λr=>r=true->(∀ c∈cards,Vo c)/\StV s) (Jz cards s):=by
 unfold Jz;obtain⟨J,e1,_⟩:=Yi cards hc;obtain⟨I,T,_⟩:=aei cards s hc hs;refine eP e1 (dY (λh0=>eP T (dX λh=>?_)) λ_=>dX no);subst h;exact⟨aiD cards hc _ e1 h0,ane cards s hs _ T rfl⟩
theorem XV (cards:List gV)(s:dZ)(answers:List (List Int))(hc:uZ nU cards)(hs:kR s)(ha:uZ (uZ (λ(_:Int)=>True)) answers):BF cards s answers=some true:=by
 unfold BF;refine ok_eq (fB (aiR cards s hc hs) λv hv=>gq (λ_=>eP Nq (dX rfl)) λh=>?_);obtain⟨cv,st⟩:=hv aN;obtain⟨T,e1,e2,tl,tz⟩:=afn hc hs cv st.len st.asc st.con;have F:Fld cards s T:=⟨hc,cv,hs,st,tl,tz,e2⟩;have ho:=st.len;refine eP (aku answers ha) (fB (agt F ⟨⟨Int.le_refl _,by show(0:Int)<=_;omega⟩,ha.1,by show(0:Nat)<=_;omega⟩) λr hr=>?_);obtain⟨rk,rs,I⟩:=hr;have tlen:=XU I.st.nm;refine fB (R:=λ_=>True) ?_ λpe _=>gq (λh=>?_) λh=>gq (λ_=>eP Nq (dX rfl)) λ_=>eP e2 ?_
 unfold BQ pM;have:=rk.p;exact gq (λ_=>dX trivial) λ_=>fB (R:=λ_=>True) (iJ ae ae (dX trivial)) λ_ _=>dX trivial
 rw[rs aN];exact gu (λb=>b=true) (λk7 h7=>eP Nq (iR rfl (gq (λ_=>h7 _ rfl) λ_=>eP (aer s hs) (h7 _ rfl)))) λb g=>dX g
 refine kM 0 s.objects.length (λ_=>True) 0 rfl (Nat.zero_le _) ae trivial (λi k hi _ hk=>?_) λk _=>?_
 have hiT:i<T.length:=by omega
 unfold Dk;refine iR (ltT hi) (fO i rfl hi (kM 0 r.1.objects.length (λ_=>True) 0 rfl (Nat.zero_le _) ae trivial (λm k2 hm _ hk2=>?_) λk2 _=>?_))
 have C:m<s.objects.length:=by omega
 unfold Dj;refine iR (ltT hm) (ah0 (λk21 h21=>fO m rfl hm (gu (λb=>b=false->aiP s T i (r.1.objects[m]).blocks) (λk25 J=>rQ (λ_=>J _ Lm) λg1=>dY (λ_=>J _ Lm) λg2=>J _ λ_=>?_) λb g=>gq (λ_=>h21) λh=>?_)) (hk2 trivial))
 have hat:=Zw I.st.nm hm C;obtain rfl:m=i:=Np st.asc C hi (by rw[<- hat.1,g1]);exact(I.ok m hm C).resolve_left g2
 obtain⟨j,_,hj,_,c1,c2,c3,c4,c5,c6⟩:=g h;refine kF (λq=>∃ n:Nat,q.2.2=(n:Int)/\n<=s.objects.length/\(j<n->q.1=s.objects[j]/\q.2.1=true)) (λq=>s.objects.length-q.2.2.toNat) ⟨0,rfl,by omega,λh=>by omega⟩ (by show s.objects.length-_<18446744073709551616;omega) ?_
 rintro⟨a,th,n'⟩ k28 ⟨n,en,hn,hI⟩ hk28
 simp only at en hI;subst en;unfold JG;refine dY (λh2=>?_) λh2=>?_
 have t:n<s.objects.length:=by grind[eU]
 refine gu (λq=>j<n+1->q.1=s.objects[j]/\q.2=true) (λk31 h31=>fO n rfl t (dY (λe=>h31 _ λ_=>?_) λe=>h31 _ λh3=>?_)) λq hq=>hk28 _ ⟨n+1,iY ae,by omega,hq⟩ dw
 obtain rfl:n=j:=Np st.asc t hj (by rw[e,c1]);exact⟨rfl,rfl⟩
 refine hI ?_;rcases Nat.lt_or_ge j n with h4|h4
 exact h4
 obtain rfl:j=n:=by omega
 exact absurd c1 e
 have en:n=s.objects.length:=by grind[eU]
 obtain⟨a1,a2⟩:=hI ae;subst a1 a2;exact gu (λb=>b=false) (λk35 h35=>iE rfl (fO i rfl hiT (dY (λe=>absurd e c2) λ_=>fO i rfl hiT (rQ (λe=>absurd c3 e) λ_=>rQ (λe=>absurd c4 e) λ_=>gq (λe=>by rw[c5] at e;cases e) λ_=>fO i rfl hiT (h35 _ (decide_eq_false c6)))))) λb g=>by subst g;exact iE rfl h21
 unfold Dj;exact iE ltF (hk trivial)
 unfold Dk;exact iE ltF (eP Nq (dX rfl))
end Go.Proofs.YtchmoabpofnbaaaGreat
