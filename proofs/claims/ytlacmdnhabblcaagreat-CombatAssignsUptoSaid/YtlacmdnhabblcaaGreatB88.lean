import Derived.Test.YtlacmdnhabblcaaGreatB32
import Derived.Test.YtlacmdnhabblcaaGreatB50
import Derived.Test.YtlacmdnhabblcaaGreatB86
set_option linter.all false
namespace Go.Proofs.YtlacmdnhabblcaaGreat
open Go Go.Pv
set_option maxRecDepth 100000
theorem ald (o:iW)(c p:Int):Ok (λr=>r=true->1<=o.id) (Py o c p):=by
 obtain⟨r,e,_⟩:=RG o c p;refine⟨r,e,λh=>?_⟩;subst h;refine Classical.byContradiction λU=>?_
 have:Py o c p=some false:=by
  unfold Py;refine ok_eq (jf (λb=>b=true) (λk hk=>iJ (λ_=>hk _ rfl) λh=>absurd (show o.id<1 by omega) h) λb hb=>by subst hb;exact iK rfl)
 rw[e] at this;cases this
theorem adl (cards:List jI)(s:iT)(J:rO mY cards)(hs:kQ s):Ok (λr=>r=true->∀ o∈s.objects,1<=o.id) (sG cards s):=by
 have hlen:=hs.2.1.1;have no:∀ {p:Prop},((true:Bool)=false->p):=λe=>by cases e
 unfold sG;refine iJ (λ_=>iK λh=>by cases h) λ_=>?_;refine lH 0 s.objects.length (λn=>∀ o∈s.objects.take n,1<=o.id) 0 rfl (Nat.zero_le _) ai aI (λi k hi hI hk=>?_) λk hI=>?_
 unfold tC;refine iJ (λ_=>jl i rfl hi (jf (λb=>b=false->1<=s.objects[i].id) (λk6 U=>?_) λb hb=>?_)) λh=>absurd (show (i:Int)<(s.objects.length:Int) by omega) h
 refine iO (ald _ _ _) λy hy=>iR (λ_=>U _ no) λh=>?_;have R:=hy bI;refine iJ (λ_=>U _ no) λ_=>iJ (λ_=>U _ no) λ_=>iJ (λh=>?_) λh=>U _ λ_=>R;have T:jS (i:Int) 1=((i-1:Nat):Int):=by rw[qW ai ai];omega
 rw[T];exact jl (i-1) rfl ai (U _ λ_=>R)
 refine iR (λ_=>iK λh=>by cases h) λh=>iO (IA _ _ hs) λ_ _=>iR (λ_=>iK λh=>by cases h) λ_=>hk λo ho=>?_;rw[mr _ i hi] at ho;rcases List.mem_append.1 ho with ho|ho
 exact hI o ho
 rw[List.mem_singleton.1 ho];exact hb h
 unfold tC;rw[qf] at hI;exact iJ (λh=>absurd h az) λ_=>iK λ_=>hI
theorem agT (x:Int)(l:List Int):I5 (x::l)=x+I5 l:=by
 have:=ac1 [x] l;have e:I5 [x]=x:=by simp[I5]
 rw[e] at this;exact this
theorem VV:∀ l:List Int,(∀ x∈l,0<=x)->0<=I5 l
 | [],_=>by simp[I5]
 | x::l,h=>by
  have h1:=h x (List.mem_cons_self ..);have h2:=VV l λy hy=>h y (List.mem_cons_of_mem _ hy);rw[agT];omega
theorem adm (id:Int)(e:iZ):wQ id [e]=if e.source=id then e.amount else 0:=by
 unfold wQ Yq
 by_cases h:e.source=id
 rw[if_pos h,List.filter_cons_of_pos bH];simp[I5]
 rw[if_neg h,List.filter_cons_of_neg bH];simp[I5]
theorem Vq (id:Int)(e:iZ)(l:List iZ):wQ id (e::l)=(if e.source=id then e.amount else 0)+wQ id l:=by
 have:=LQ id [e] l;rw[adm] at this;exact this
theorem VW (id:Int)(l:List iZ)(h:∀ e∈l,0<=e.amount):0<=wQ id l:=by
 unfold wQ Yq;refine VV _ λx hx=>?_;obtain⟨e,he,rfl⟩:=List.mem_map.1 hx;exact h e (List.mem_filter.1 he).1
theorem abz (id:Int):∀ l:List iZ,wQ id (l.filter FC)=wQ id l
 | []=>rfl
 | e::l=>by
  by_cases h:e.amount=0
  rw[List.filter_cons_of_neg (by simp[FC,h]),abz id l,Vq,h]
  split<;>omega
  rw[List.filter_cons_of_pos (by simp[FC,h]),Vq,Vq,abz id l]
theorem agU (id:Int)(l:List iZ)(i:Nat)(hi:i<l.length):wQ id (l.take (i+1))=wQ id (l.take i)+if (l[i]).source=id then (l[i]).amount else 0:=by
 rw[uV l i hi,LQ,adm]
theorem Uo (id:Int)(l:List iZ)(i:Nat)(h:∀ e∈l,0<=e.amount):0<=wQ id (l.take i)/\wQ id (l.take i)<=wQ id l:=by
 have h1:=VW id (l.take i) λe he=>h e (List.mem_of_mem_take he);have h2:=VW id (l.drop i) λe he=>h e (List.mem_of_mem_drop he);have U:wQ id l=wQ id (l.take i)+wQ id (l.drop i):=by rw[<- LQ,List.take_append_drop]
 omega
theorem ajx {s:iT}{T:List iM}(h:Asc s.objects):List.Pairwise (λa b:iP=>a.o.id≠b.o.id) (wF s T):=by
 unfold wF;rw[List.pairwise_map];refine List.Pairwise.sublist List.filter_sublist ?_;rw[List.pairwise_iff_getElem];intro i j hi hj U;rw[List.length_zip] at hi hj;rw[List.getElem_zip,List.getElem_zip];intro e;have:=h.inj (List.getElem?_eq_getElem (show i<s.objects.length by omega)) (List.getElem?_eq_getElem (show j<s.objects.length by omega)) e;omega
theorem ale {s:iT}{T:List iM}{i:Nat}(h1:i<s.objects.length)(h2:i<T.length)(J:s.objects[i].jQ=0)(R:RN T[i]=true):(⟨s.objects[i],T[i]⟩:iP)∈wF s T:=by
 unfold wF;refine List.mem_map.2 ⟨(s.objects[i],T[i]),List.mem_filter.2 ⟨?_,by simp[AZ,J,R]⟩,rfl⟩;have U:i<(s.objects.zip T).length:=by rw[List.length_zip];omega
 have:=List.getElem_mem U;rw[List.getElem_zip] at this;exact this
theorem RV (x:nI)(hx:Jy x):vM x=some true:=by
 obtain⟨hc,hs,_⟩:=hx;have al:ry=some true:=rfl;unfold vM;refine ok_eq (iO (abr x hc hs) λy1 h1=>iR (λ_=>iU al (iK rfl)) λh=>?_);have F:=h1 dw;have hasc:=abo x.cards x.s hc hs F.i;have hpos:∀ o∈x.s.objects,1<=o.id:=afH x.cards x.s hc hs (adl x.cards x.s hc hs) F.i;have hob:=F.o;refine iO (PW x.cards x.s hc hs F.c ai) λT hT=>iO (ajp x.answers F.a F.e) λk4 K4=>iO (aaf k4 x.s T x.first hT.1 hT.2 hob K4) λU E5=>iR (λe=>?_) λe=>?_
 have hb:=E5.bad (by cases h5:U.2.1 with|true=>rw[h5] at e;cases e|false=>rfl);exact jf (λb=>b=true) (λk7 h7=>iJ (λ_=>iU al (h7 _ rfl)) λh=>absurd (show iV U.1=0 by rw[hb];rfl) h) λb hb=>iK hb
 obtain⟨o1,o2,P1,P2,I⟩:=E5.good (by cases h5:U.2.1 with|true=>rfl|false=>rw[h5] at e;cases e);have pw:=ajx (T:=T) hasc
 have hall:∀ R∈U.1,R.kind=1/\R.Ib=true/\0<=R.amount/\R.amount≠0/\R.source≠0:=by
  intro R hev;rw[I,List.mem_filter] at hev;have hz:R.amount≠0:=by have:=hev.2;simpa [FC] using this
  have key:∀ f∈wF x.s T,R.source=f.o.id->R.source≠0:=λf O he=>by
   obtain⟨i,h1,h2,rfl,_,_⟩:=LX O;have:=hpos _ (List.getElem_mem h1);rw[he];show x.s.objects[i].id≠0;omega
  rcases List.mem_append.1 hev.1 with hm|hm
  obtain⟨a,b,c,f,O,d⟩:=P1.all R hm;exact⟨a,b,c,hz,key f O d⟩
  obtain⟨a,b,c,f,O,d⟩:=P2.all R hm;exact⟨a,b,c,hz,key f O d⟩
 have hlen:U.1.length<=4000:=by
  have a:=P1.len;have b:=P2.len;have c:=PZ x.s T hob;rw[I];refine Nat.le_trans (List.length_filter_le _ _) ?_;rw[List.length_append];omega
 have hsum:∀ id,wQ id U.1=wQ id o1+wQ id o2:=λid=>by rw[I,abz,LQ]
 have key:∀ (i:Nat) (h1:i<x.s.objects.length) (h2:i<T.length),wQ x.s.objects[i].id U.1=0\/(x.s.objects[i].jQ=0/\RN T[i]=true/\yA T[i] x.first=true/\((wQ x.s.objects[i].id U.1=T[i].power/\(0<=x.s.objects[i].lG\/x.s.objects[i].blocks≠0))\/(wQ x.s.objects[i].id U.1=2*T[i].power/\0<=x.s.objects[i].lG/\x.s.objects[i].blocks≠0))):=by
  intro i h1 h2;rw[hsum]
  by_cases O:x.s.objects[i].jQ=0/\RN T[i]=true
  have hmem:=ale h1 h2 O.1 O.2;rcases P1.one pw _ hmem with a|⟨a,a1,a2⟩<;>rcases P2.one pw _ hmem with b|⟨b,b1,b2⟩<;>dsimp only at a b
  left;omega
  right;dsimp only at b1 b2;exact⟨O.1,O.2,b2,.inl ⟨by omega,.inr b1⟩⟩
  right;dsimp only at a1 a2;exact⟨O.1,O.2,a2,.inl ⟨by omega,.inl a1⟩⟩
  right;dsimp only at a1 a2 b1;exact⟨O.1,O.2,a2,.inr ⟨by omega,a1,b1⟩⟩
  left
  have hn:∀ f∈wF x.s T,f.o.id≠x.s.objects[i].id:=λf hfm he=>by
   obtain⟨j,g1,g2,rfl,g3,g4⟩:=LX hfm;have:=hasc.inj (List.getElem?_eq_getElem g1) (List.getElem?_eq_getElem h1) he;subst this;exact O ⟨g3,g4⟩
  rw[P1.zero _ hn,P2.zero _ hn];rfl
 refine lH 0 x.s.objects.length (λ_=>True) 0 rfl (Nat.zero_le _) ai trivial (λi k hi _ hk=>?_) λk _=>?_
 unfold sF;refine iJ (λ_=>jl i rfl hi ?_) λh=>absurd (show (i:Int)<(x.s.objects.length:Int) by omega) h;have h2:i<T.length:=by rw[hT.1];exact hi
 have C:=hT.2 _ (List.getElem_mem h2);have hpt:=C.pt;have J:=key i hi h2
 have hbd:wQ x.s.objects[i].id U.1<=100000000:=by
  rcases J with e|⟨_,_,_,⟨e,_⟩|⟨e,_⟩⟩<;>rw[e]<;>omega
 have hnn:∀ R∈U.1,0<=R.amount:=λR he=>(hall R he).2.2.1;refine ve 0 U.1.length (λj t=>t=wQ x.s.objects[i].id (U.1.take j)) 0 rfl (Nat.zero_le _) ai rfl (λj t k15 hj hJ hk15=>?_) λt k15 hJ=>?_
 unfold sD;obtain⟨a1,a2,a3,a4,a5⟩:=hall _ (List.getElem_mem hj);have b1:=Uo x.s.objects[i].id U.1 j hnn;have b2:=Uo x.s.objects[i].id U.1 (j+1) hnn;have b3:=agU x.s.objects[i].id U.1 j hj;refine iJ (λ_=>jf (λu=>u=wQ x.s.objects[i].id (U.1.take (j+1))) (λk18 h18=>?_) λu hu=>hk15 u hu) λh=>absurd (show (j:Int)<(U.1.length:Int) by omega) h;refine oJ j rfl hj (oD hj (jf (λu=>u=wQ x.s.objects[i].id (U.1.take (j+1))) (λk23 h23=>?_) λu hu=>?_))
 refine iJ (λh=>h23 _ ?_) λh=>h23 _ ?_
 show jq t _=_;rw[if_pos h] at b3;rw[hJ,b3];exact lN ai ai
 show t=_;rw[if_neg h] at b3;rw[hJ,b3];omega
 refine jf (λb=>b=false) (λk26 h26=>?_) λb hb=>lQ hb (h18 _ hu);exact lI (λh=>absurd a1 h) λ_=>iR (λh=>by rw[a2] at h;cases h) λ_=>iJ (λh=>absurd h ai) λ_=>h26 _ (decide_eq_false a5)
 unfold sD;rw[List.take_length] at hJ;subst hJ;generalize wQ x.s.objects[i].id U.1=n at *;refine iJ (λh=>absurd h (by show ¬ (U.1.length:Int)<(U.1.length:Int);omega)) λ_=>jl i rfl h2 (jf (λb=>b=false) (λk30 h30=>?_) λb hb=>lQ hb (jf (λb=>b=false) (λk33 h33=>?_) λb hb=>lQ hb (hk trivial)))
 refine iJ (λhn=>?_) λ_=>h30 _ rfl;rcases J with e|⟨hz,hcr,g,hab⟩
 exact absurd hn (by show ¬ (0:Int)<n;omega)
 have hab2:0<=x.s.objects[i].lG\/x.s.objects[i].blocks≠0:=by
  rcases hab with ⟨_,q⟩|⟨_,q,_⟩
  exact q
  exact .inl q
 have e1:decide (kz .and .i64 T[i].line.types 1=0)=false:=by rw[aeB C,hcr];rfl
 have e5:decide (kz .and .i64 T[i].keys 32=0)=!hasB T[i].keys 5:=ak2 C 5 ai;have e6:decide (kz .and .i64 T[i].keys 64=0)=!hasB T[i].keys 6:=ak2 C 6 ai;have ez:(!decide (x.s.objects[i].jQ=0))=false:=by rw[hz];rfl
 unfold yA at g;rw[Bool.and_eq_true] at g;have g:=g.2;rw[e5,e6];refine lQ e1 (lQ ez ?_);revert g;generalize hasB T[i].keys 5=q5;generalize hasB T[i].keys 6=q6;generalize x.first=fi
 intro g
 have rest:Ok (λr=>r=true) (br fi (br ((!(!q5))==false) (br ((!(!q6))==false) (k30 true) (br (fi==false) (br (!(!q5)) (k30 ((!(!q6))==false)) (k30 false)) (k30 false))) (br (fi==false) (br (!(!q5)) (k30 ((!(!q6))==false)) (k30 false)) (k30 false))) (br (fi==false) (br (!(!q5)) (k30 ((!(!q6))==false)) (k30 false)) (k30 false))):=by
  cases fi<;>cases q5<;>cases q6<;>first|exact h30 _ rfl|exact absurd g aQ
 exact iJ (λha=>iJ (λhb=>absurd hb (hab2.elim (λq=>absurd ha ai) id)) λ_=>rest) λ_=>rest
 refine iJ (λhn=>lI (λhne=>?_) λ_=>h33 _ rfl) λ_=>h33 _ rfl;rcases J with e|⟨hz,hcr,g,⟨e,_⟩|⟨e,q1,q2⟩⟩
 exact absurd hn (by show ¬ (0:Int)<n;omega)
 exact absurd e hne
 refine iJ (λ_=>lI (λ_=>h33 _ ?_) λhb=>absurd hb q2) λhb=>absurd q1 hb;rw[afA ai ai,decide_eq_true e];rfl
 unfold sF;exact iJ (λh=>absurd h (by show ¬ (x.s.objects.length:Int)<(x.s.objects.length:Int);omega)) λ_=>iU al (iK rfl)
end Go.Proofs.YtlacmdnhabblcaaGreat
