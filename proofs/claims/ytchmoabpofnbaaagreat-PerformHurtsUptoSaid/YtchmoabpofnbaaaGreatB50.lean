import Derived.KernelRfl
import Derived.Test.YtchmoabpofnbaaaGreatW16a
import Derived.Test.YtchmoabpofnbaaaGreatB49
set_option linter.all false
namespace Go.Proofs.YtchmoabpofnbaaaGreat
open Go Go.Pv Proofs.Tryz
set_option maxRecDepth 100000
theorem UG (c:rG)  : Ok (λr=>True) (FB c):=by
 unfold FB;refine gJ (FO _ ) (λy1 h1=>?_);apply gK<;>intro h2
 exact fP
 refine jg (λ(T:Int×Int×Int)=>0<=T.2.2/\T.2.2<=5) (λ(T:Int×Int×Int)=>(5-T.2.2).toNat) ⟨ae,ae⟩ aj (λT k3 hI3 hk4=>?_);obtain⟨I,C⟩:=hI3;unfold Hf;apply gG<;>intro h5
 refine gZ (λ(s5:Int)=>True) (λk6 hk6=>?_) (λs5 hs7=>?_)
 refine gZ (λ(s8:Int)=>True) (λk9 J=>?_) (λs8 hs9=>?_)
 refine gZ (λ(g:Bool)=>True) (λk12 U=>?_) (λg hs11=>?_)
 refine wK ae ae (λj14 h12=>?_)
 split
 exact U _ trivial
 exact U _ trivial
 exact U _ trivial
 exact U _ trivial
 exact U _ trivial
 apply gK<;>intro h13
 exact J _ trivial
 exact J _ trivial
 exact hk6 _ trivial
 have h14:iI T.2.2 1=T.2.2+1:=kC ah ah;exact hk4 _ ⟨ae,ae⟩ ae
 exact fP
def cidx (o:iy):Int:=if o.copy<0 then o.card else o.copy
def Hq (cards:List jc)(o:iy):List iG:=if 0<=cidx o/\cidx o<ik cards then ((cards[(cidx o).toNat]?).map (·.gQ)).getD [] else []
theorem QH {cards:List jc}{o:iy}{n:Nat}(h:cidx o=(n:Int))(hn:n<cards.length):Hq cards o=cards[n].gQ:=by
 unfold Hq;rw[if_pos ⟨by omega,by simp only[ik];omega⟩,h];simp[hn]
theorem QI {cards:List jc}{o:iy}(h:¬(0<=cidx o/\cidx o<ik cards)):Hq cards o=[]:=by
 unfold Hq;rw[if_neg h]
theorem aeh (cards:List jc)(o:iy)(hc:rM mG cards):Ok (λt=>t.gQ=Hq cards o) (En cards o):=by
 unfold En;refine gZ (λi=>i=cidx o) (λk hk=>gG (λh=>hk _ (by simp[cidx,h])) λh=>hk _ (by simp[cidx,h])) λi hi=>?_;subst hi;refine gZ (λt=>t.gQ=Hq cards o) (λk hk=>?_) λt ht=>gG (λ_=>gB ht) λ_=>gG (λ_=>gB ht) λ_=>gB ht;refine gZ (λb=>b=decide (0<=cidx o/\cidx o<ik cards)) (λk8 U=>gG (λh=>U _ bW) λh=>U _ bW) λb hb=>?_;subst hb;refine gG (λh=>?_) λh=>hk _ (QI h).symm;obtain⟨n,hn⟩:=Int.eq_ofNat_of_zero_le h.1;have hl:n<cards.length:=by have:=h.2;simp only[ik] at this;omega
 exact je n hn hl (gJ (Rt _ (hc.2 _ (List.getElem_mem hl))) λt ht=>hk _ (by rw[ht.ach,QH hn hl]))
theorem aei (a:iG)(h:lL a):Gy a=some a:=by
 obtain⟨_,g1,_,g2,g3,_⟩:=h;have p1:=g1.1;have p2:=g2.1;have p3:=g3.1;unfold Gy;refine ok_eq (ku ah ah (ku ah ah ?_));refine kN 0 a.jX.length (λn l=>l=a.jX.take n) 0 rfl (Nat.zero_le _) ah aS (λj l2 k2 hj T U=>?_) λl2 k2 T=>?_
 subst T;have J:=(g3.2 _ (List.getElem_mem hj)).2.2.2.2.1;unfold FC;refine gG (λ_=>je j rfl hj (ku ah ah (ku ?_ ?_ (U _ (kQ _ j hj).symm)))) λh=>absurd (show (j:Int)<(a.jX.length:Int) by omega) h
 exact fZ
 exact fZ
 subst T;unfold FC;rw[sF];exact gG (λh=>absurd h bQ) λ_=>gB rfl
theorem aej (c:jc)(h:mG c):Ok (λt=>t.gQ=c.gQ) (Dj c):=by
 obtain⟨h1,h2,T⟩:=h;have J:=T.1;have q2:=h2.1;unfold Dj;refine gJ (UG c.cost) λy _=>ku ah ah ?_;refine kN 0 c.gQ.length (λn t=>t=c.gQ.take n) 0 rfl (Nat.zero_le _) ah aS (λi t k hi U hk=>?_) λt k U=>?_
 subst U;unfold AY;refine gG (λ_=>je i rfl hi (iq (aei _ (T.2 _ (List.getElem_mem hi))) (ku ?_ ?_ (hk _ (kQ _ i hi).symm)))) λh=>absurd (show (i:Int)<(c.gQ.length:Int) by omega) h
 exact fZ
 exact fZ
 subst U;unfold AY;rw[sF];exact gG (λh=>absurd h cu) λ_=>gB rfl
theorem afA (cards:List jc)(o:iy)(hc:rM mG cards):Ok (λt=>t.gQ=Hq cards o) (Xo cards o):=by
 unfold Xo;refine gZ (λi=>i=cidx o) (λk hk=>gG (λh=>hk _ (by simp[cidx,h])) λh=>hk _ (by simp[cidx,h])) λi hi=>?_;subst hi;refine gZ (λt=>t.gQ=Hq cards o) (λk hk=>?_) λt ht=>gG (λ_=>gB ht) λ_=>gG (λ_=>gB ht) λ_=>gB ht;refine gZ (λb=>b=decide (0<=cidx o/\cidx o<ik cards)) (λk8 U=>gG (λh=>U _ bW) λh=>U _ bW) λb hb=>?_;subst hb;refine gG (λh=>?_) λh=>hk _ (QI h).symm;obtain⟨n,hn⟩:=Int.eq_ofNat_of_zero_le h.1;have hl:n<cards.length:=by have:=h.2;simp only[ik] at this;omega
 exact je n hn hl (gJ (aej _ (hc.2 _ (List.getElem_mem hl))) λt ht=>hk _ (by rw[ht,QH hn hl]))
theorem aaJ (cards:List jc)(o:iy)(hv:∀ c∈cards,c.gQ.length<=8):(Hq cards o).length<=8:=by
 by_cases h:0<=cidx o/\cidx o<ik cards
 obtain⟨n,hn⟩:=Int.eq_ofNat_of_zero_le h.1;have hl:n<cards.length:=by have:=h.2;simp only[ik] at this;omega
 rw[QH hn hl];exact hv _ (List.getElem_mem hl)
 rw[QI h];simp
def Zi (cards:List jc)(l:List iy):Prop:=∀ o∈l,o.jB=0->∀ a∈Hq cards o,a.kind≠5
theorem aek (cards:List jc)(s:gW)(hc:rM mG cards)(hv:∀ c∈cards,c.gQ.length<=8)(ho:s.objects.length<=2048):Ok (λr=>0<=r/\(r=0->Zi cards s.objects)) (Gz cards s 5 0):=by
 unfold Gz;refine D7 0 s.objects.length (λi c=>0<=c/\c<=(i:Int)*9/\(c=0->Zi cards (s.objects.take i))) 0 rfl (Nat.zero_le _) ah ⟨by omega,by omega,λ_ o h=>by simp at h⟩ (λi c k hi hI hk=>?_) λc k hI=>?_
 obtain⟨c0,c1,c2⟩:=hI;unfold FH;refine gG (λ_=>?_) λh=>absurd (show (i:Int)<(s.objects.length:Int) by omega) h;refine gZ (λc=>0<=c/\c<=((i+1:Nat):Int)*9/\(c=0->Zi cards (s.objects.take (i+1)))) (λk5 h5=>?_) λc hc=>hk c hc;refine je i rfl hi (gZ (λb=>b=true->(s.objects[i]).jB≠0) (λk9 h9=>lN (λh=>h9 _ λ_=>h) λ_=>h9 _ λh=>by cases h) λb hb=>gK (λht=>h5 _ ⟨c0,by omega,λe o U=>?_⟩) λ_=>?_)
 rw[kQ _ i hi] at U;rcases List.mem_append.1 U with U|U
 exact c2 e o U
 rw[List.mem_singleton.1 U];exact λhz=>absurd hz (hb ht)
 refine gZ (λd=>c<=d/\d<=c+1) (λk12 C=>gG (λ_=>C _ ?_) λ_=>C _ ⟨Int.le_refl _,by omega⟩) λd hd=>?_
 rw[kC ah ah];omega
 obtain⟨t,et,ht⟩:=afA cards s.objects[i] hc;have hlen:t.gQ.length<=8:=by rw[ht];exact aaJ cards _ hv
 refine iq et ?_;refine D7 0 t.gQ.length (λj e=>0<=e/\e<=d+(j:Int)/\(e=0->c=0/\∀ a∈t.gQ.take j,a.kind≠5)) 0 rfl (Nat.zero_le _) ah ⟨by omega,by omega,λe=>⟨by omega,λa h=>by simp at h⟩⟩ (λj e k2 hj hJ hk2=>?_) λe k2 hJ=>?_
 obtain⟨e0,e1,g⟩:=hJ;unfold FD;refine gG (λ_=>?_) λh=>absurd (show (j:Int)<(t.gQ.length:Int) by omega) h;refine gZ (λe=>0<=e/\e<=d+((j+1:Nat):Int)/\(e=0->c=0/\∀ a∈t.gQ.take (j+1),a.kind≠5)) (λk19 I=>?_) λe he=>hk2 e he;refine je j rfl hj (gG (λ_=>I _ ?_) λhne=>I _ ⟨e0,by omega,λez=>⟨(g ez).1,λa J=>?_⟩⟩)
 show 0<=iI e 1/\iI e 1<=_/\(iI e 1=0->_);rw[kC ah ah];exact⟨by omega,by omega,λh=>by omega⟩
 rw[kQ _ j hj] at J;rcases List.mem_append.1 J with J|J
 exact (g ez).2 a J
 rw[List.mem_singleton.1 J];exact hne
 obtain⟨e0,e1,g⟩:=hJ;unfold FD;refine gG (λh=>absurd h dP) λ_=>h5 _ ⟨e0,by show e<=_;omega,λez o U=>?_⟩;obtain⟨cz,T⟩:=g ez;rw[kQ _ i hi] at U;rcases List.mem_append.1 U with U|U
 exact c2 cz o U
 rw[List.mem_singleton.1 U];intro _ a J;rw[sF] at T;exact T a (by rw[ht];exact J)
 obtain⟨c0,c1,c2⟩:=hI;unfold FH;rw[sF] at c2;exact gG (λh=>absurd h aG) λ_=>gB ⟨c0,c2⟩
theorem acx {l:List iy}{f:iy->Option Bool}{g:iy->Bool}(hl:l.length<=2000000)(O:∀ x,f x=some (g x)){i:Nat}(hi:i<l.length)(h1:g l[i]=true)(h2:∀ (j:Nat) (hj:j<l.length),j<i->g l[j]=false):iY l f=some (i:Int):=by
 unfold iY;refine ok_eq (qi 0 l.length (λn=>n<=i) 0 rfl (Nat.zero_le _) ah (Nat.zero_le _) (λj k hj U hk=>?_) λk U=>absurd U ah);unfold lX;refine gG (λ_=>je j rfl hj (iq (O _) (gK (λht=>gB ?_) λhn=>hk ?_))) λh=>absurd (show (j:Int)<(l.length:Int) by omega) h
 by_cases e:j=i
 rw[e]
 rw[h2 j hj ah] at ht;cases ht
 by_cases e:j=i
 subst e;rw[h1] at hn;cases hn
 omega
theorem QJ {l:List iy}{f:iy->Option Bool}{g:iy->Bool}(hl:l.length<=2000000)(O:∀ x,f x=some (g x))(h:∀ x∈l,g x=false):iY l f=some (-1):=by
 unfold iY;refine ok_eq (qi 0 l.length (λ_=>True) 0 rfl (Nat.zero_le _) ah trivial (λj k hj _ hk=>?_) λk _=>?_)
 unfold lX;exact gG (λ_=>je j rfl hj (iq (O _) (lV (h _ (List.getElem_mem hj)) (hk trivial)))) λh=>absurd (show (j:Int)<(l.length:Int) by omega) h
 unfold lX;exact gG (λh=>absurd h aO) λ_=>gB rfl
structure RJ (cards:List jc)(s:gW):Prop where
 sz:kZ s
 ob:s.objects.length<=2048
 asc:Asc s.objects
 pos:∀ o∈s.objects,1<=o.id
 rep:Zi cards s.objects
section
variable {cards:List jc}(hc:rM mG cards)(hv:∀ c∈cards,c.gQ.length<=8)
section
variable {s:gW}(H:RJ cards s)
include H
theorem afB {all:List gX}(U:all.length=s.objects.length){i:Nat}(hi:i<s.objects.length):pK s all (s.objects[i]).id=some (s.objects[i],all[i],true):=by
 have ho:=H.ob;unfold pK;refine ok_eq (iq (acx (g:=λo=>decide (o.id=(s.objects[i]).id)) ah (λx=>rfl) hi aS λj hj T=>?_) ?_)
 refine decide_eq_false λe=>?_;have:=H.asc.inj (List.getElem?_eq_getElem hj) (List.getElem?_eq_getElem hi) e;omega
 exact gG (λh=>by omega) λ_=>gG (λh=>by simp only[ik] at h;omega) λ_=>je i rfl hi (je i rfl ah (gB rfl))
theorem agO (all:List gX):pK s all 0=some (CV,xm,false):=by
 have ho:=H.ob;unfold pK;refine ok_eq (iq (QJ (g:=λo=>decide (o.id=0)) ah (λx=>rfl) λx hx=>?_) (BL rfl (gB rfl)));have:=H.pos x hx;exact decide_eq_false ah
theorem agP:EH s 0=some (CV,false):=by
 have ho:=H.ob;unfold EH NF;refine ok_eq (iq (x:=-1) (ok_eq (iq (QJ (g:=λo=>decide (o.id=0)) ah (λx=>rfl) λx hx=>?_) (gB rfl))) (BL rfl (gB rfl)));have:=H.pos x hx;exact decide_eq_false ah
theorem VW:ui s 0=some (CV,false):=by
 unfold ui;rw[agP H];rfl
theorem abx:mr s 0=some none:=by
 have ho:=H.ob;unfold mr;refine ok_eq (qi 0 s.objects.length (λ_=>True) 0 rfl (Nat.zero_le _) ah trivial (λj k hj _ hk=>?_) λk _=>?_)
 have:=H.pos _ (List.getElem_mem hj);unfold Fq;exact gG (λ_=>jd j rfl hj (iV hj (gG (λe=>by omega) λ_=>hk trivial))) λh=>absurd (show (j:Int)<(s.objects.length:Int) by omega) h
 unfold Fq;exact gG (λh=>absurd h aG) λ_=>gB rfl
end
def evD (p n:Int):jI:=jI.mk 1 0 0 p n 0 0 0 0 0 false false G5
def qY (p n:Int):jI:=jI.mk 5 0 0 p n 0 0 0 0 0 false false G5
structure Hit (s:gW)(p:Nat)(n:Int):Prop where
 lt:p<s.gU.length
 live:(s.gU[p]'lt).lost=false
 n1:1<=n
 n2:n<=1000000
section
variable {s:gW}(H:RJ cards s){p:Nat}{n:Int}(K:Hit s p n)
theorem Zj (K:Hit s p n):nI s (p:Int)=some true:=by
 have:=K.lt;unfold nI;refine ok_eq (gG (λ_=>gG (λ_=>je p rfl K.lt (gB (by rw[K.live];rfl))) λh=>absurd (show (p:Int)<(s.gU.length:Int) by omega) h) λh=>absurd (show (0:Int)<=p by omega) h)
theorem Zk {e:jI}(h1:1<=e.amount)(h2:e.amount<=1000000):ry e=some true:=by
 unfold ry;exact ok_eq (gG (λ_=>gB (decide_eq_true h2)) λh=>absurd h1 h)
include H K
theorem agQ:xq cards s (evD p n)=some true:=by
 unfold xq Ky;refine ok_eq (iq (VW H) (BL rfl (iq (x:=true) (ok_eq (iq (Zk K.n1 K.n2) (lV rfl (BL rfl (iq (Zj K) (gB rfl)))))) (gB rfl))))
theorem agR:xq cards s (qY p n)=some true:=by
 unfold xq;refine ok_eq (iq (VW H) ?_);refine lV rfl (lV rfl (lV rfl (lV rfl (lV rfl (lV rfl (lV rfl (BL rfl (iq (Zj K) (BL rfl (iq (Zk K.n1 K.n2) (gB rfl)))))))))))
end
section
variable {s:gW}(H:RJ cards s)
include hc H
theorem aaK {all:List gX}(I:all.length=s.objects.length)(C:TrA (VU cards s) all){e:jI}(he:xq cards s e=some true)(h2:e.kind≠2)(h0:e.object=0):sW cards s all e=some []:=by
 have ho:=H.ob;unfold sW;refine ok_eq (iq he (lV rfl (gZ (λl=>l=[]) (λk3 h3=>?_) λl hl=>?_)))
 rw[h0];refine iq (agO H all) (gZ (λb=>b=false) (λk7 h7=>lV rfl (h7 _ rfl)) λb hb=>by subst hb;exact h3 _ rfl)
 subst hl;refine kN 0 s.objects.length (λ_ l=>l=[]) 0 rfl (Nat.zero_le _) ah rfl (λi l k hi hI hk=>?_) λl k hI=>?_
 subst hI;unfold zg;refine gG (λ_=>je i rfl hi (iq (afB H I hi) ?_)) λh=>absurd (show (i:Int)<(s.objects.length:Int) by omega) h;have J:i<all.length:=by omega
 have hz:=(C.sz _ (List.getElem_mem J)).2.2.1;obtain⟨bt,ebt,hbt⟩:=aeh cards s.objects[i] hc
 have hno:(s.objects[i]).jB=0->∀ a∈(all[i]).gQ,a.kind≠5:=by
  intro U a g;rcases C.at J with h|h
  rw[h] at g;simp at g
  rw[h,Y8 hi ebt,hbt] at g;exact H.rep _ (List.getElem_mem hi) U a g
 refine kN 0 (all[i]).gQ.length (λ_ l=>l=[]) 0 rfl (Nat.zero_le _) ah rfl (λj l k2 hj hJ hk2=>?_) λl k2 hJ=>?_
 subst hJ;unfold zf;refine gG (λ_=>gZ (λl=>l=[]) (λk19 h19=>?_) λl hl=>hk2 l hl) λh=>absurd (show (j:Int)<((all[i]).gQ.length:Int) by omega) h;refine je j rfl hj (gZ (λb=>b=false) (λk23 T=>gG (λU=>gG (λh5=>absurd h5 (hno U _ (List.getElem_mem hj))) λ_=>T _ rfl) λ_=>T _ rfl) λb hb=>by subst hb;exact lV rfl (h19 _ rfl))
 subst hJ;unfold zf;exact gG (λh=>absurd h (by show ¬ ((all[i]).gQ.length:Int)<((all[i]).gQ.length:Int);omega)) λ_=>hk _ rfl
 subst hI;unfold zg;refine gG (λh=>absurd h aG) λ_=>gZ (λb=>b=true) (λk28 h28=>lN (λ_=>h28 _ rfl) λh=>absurd h h2) λb hb=>by subst hb;exact BL rfl (gB rfl)
include hv
theorem Rw (k:jq){e:jI}(T:xq cards s e=some true)(h2:e.kind≠2)(h0:e.object=0):uS k cards s e true=some (s,e,true,k):=by
 unfold uS;refine ok_eq (jg (λ_=>True) (λ_=>0) trivial bG λJ k2 _ _=>?_);unfold DN;refine gJ (PS cards s hc H.sz hv H.ob) λall U=>?_
 have hl:sH cards s all e [] true=some []:=by
  unfold sH Eg;rw[aaK hc H U.1 U.2 T h2 h0];rfl
 exact iq hl (BL rfl (gB rfl))
end
theorem aby (l w0:List iP)(hl:l.length<=5000000000)(h1:∀ x∈l,qV x)(h0:rM qV w0){ρ:Type}{Q:ρ->Prop}{step:Int×List iP->(Int×List iP->Option ρ)->Option ρ}
  (hs:∀ (i:Nat) (t:List iP) (k:Int×List iP->Option ρ),i<l.length->step ((i:Int),t) k=br (decide ((i:Int)<ik l)) (jn (λC:(List iP)=>k ((iI (i:Int) 1),C)) λT=>bnd (jS l (i:Int)) λx11=>br (decide ((ik t)<64)) (kT (t.length+([x11]).length) 768 (T (t++[x11]))) (T t)) none)
  (I:∀ t k,rM qV t->Ok Q (step ((l.length:Int),t) k)):Ok Q (ig step (0,w0)):=by
 refine kN 0 l.length (λ_ t=>rM qV t) 0 rfl (Nat.zero_le _) ah h0 (λi t k hi U hk=>?_) λt k U=>I t k U;rw[hs i t k hi];refine gG (λ_=>gZ (rM qV) (λT J=>je i rfl hi (gG (λh=>?_) λ_=>J _ U)) λu hu=>hk u hu) λh=>absurd (show (i:Int)<(l.length:Int) by omega) h;have h:t.length<64:=by simp only[ik] at h;omega
 refine ku (by show (2*(t.length+1)+192)*768<=_;omega) bM (J _ ⟨by simp;omega,λx hx=>?_⟩);rcases List.mem_append.1 hx with hx|hx
 exact U.2 x hx
 rw[List.mem_singleton.1 hx];exact h1 _ (List.getElem_mem hi)
theorem ael {a n:Int}(h1 : -1000000<=a)(h2:a<=1000000)(T:1<=n)(J:n<=1000000):Jn a n=some (if a-n < -1000000 then -1000000 else a-n):=by
 have C:∀ x:Int,oI x=some (if 1000000<(if x<(-1000000) then (-1000000) else x) then 1000000 else (if x<(-1000000) then (-1000000) else x)):=λx=>rfl;have e1:oI a=some a:=by rw[C];congr 1;split<;>split<;>omega
 have U:oI n=some n:=by rw[C];congr 1;split<;>split<;>omega
 unfold Jn;rw[e1,U];show bnd (oI (pF a n)) _=_;rw[xX ah ah,C];show some _=some _
 congr 1
 split<;>split<;>omega
def afS (s:gW)(w:List iP):gW:={ s with waiting:=w }
def aem (s:gW)(p:Nat)(h:p<s.gU.length)(v:Int):gW:={ s with gU:=s.gU.set p { s.gU[p] with life:=v } }
theorem RJ.wait {s:gW}(H:RJ cards s){w:List iP}(U:rM qV w):RJ cards (afS s w):=by
 obtain⟨z1,z2,z3,z4,z5,z6,z7,z8⟩:=H.sz;exact⟨⟨z1,z2,z3,z4,z5,U,z7,z8⟩,H.ob,H.asc,H.pos,H.rep⟩
theorem RJ.life {s:gW}(H:RJ cards s){p:Nat}(h:p<s.gU.length)(v:Int):RJ cards (aem s p h v):=by
 obtain⟨z1,z2,z3,z4,z5,z6,z7,z8⟩:=H.sz;refine⟨⟨⟨by show (s.gU.set _ _).length<=_;rw[List.length_set];exact z1.1,λx hx=>?_⟩,z2,z3,z4,z5,z6,z7,z8⟩,H.ob,H.asc,H.pos,H.rep⟩;rcases List.mem_or_eq_of_mem_set hx with hx|hx
 exact z1.2 x hx
 have U:=z1.2 _ (List.getElem_mem h);rw[hx];exact⟨U.1,U.2.1,U.2.2⟩
section
variable {s:gW}(H:RJ cards s){p:Nat}{n:Int}(K:Hit s p n)
include H K
theorem do_D (all:List gX):NH cards s all (evD p n)=some s:=by
 unfold NH;refine ok_eq (iq (PT s H.sz) (iq (agQ H K) (lV rfl (lV rfl (lV rfl (lV rfl (lV rfl (lV rfl (lV rfl (lV rfl (BL rfl ?_)))))))))));exact iq (abx H) (iq (abx H) (lV rfl (gB rfl)))
theorem do_L (all:List gX)(h1 : -1000000<=(s.gU[p]'K.lt).life)(h2:(s.gU[p]'K.lt).life<=1000000):NH cards s all (qY p n)=some (aem s p K.lt (if (s.gU[p]'K.lt).life-n < -1000000 then -1000000 else (s.gU[p]'K.lt).life-n)):=by
 unfold NH;refine ok_eq (iq (PT s H.sz) (iq (agR H K) (lV rfl (lV rfl (lV rfl (lV rfl (lV rfl (BL rfl ?_))))))));refine jd p rfl K.lt (iq (x:=aem s p K.lt (if (s.gU[p]'K.lt).life-n < -1000000 then -1000000 else (s.gU[p]'K.lt).life-n)) (ok_eq ?_) (gB rfl));unfold wG;exact lV rfl (BL rfl (iV K.lt (iq (ael h1 h2 K.n1 K.n2) (iV K.lt (gB rfl)))))
end
theorem Zl {s t:gW}{a b:List gX}{e:jI}(h1:s.objects.length<=2048)(h2:t.objects.length<=2048)(U:Zd a)(T:Zd b)(k2:e.kind≠2)(k10:e.kind≠10):PW ⟨s,t,a,b,e⟩:=⟨h1,h2,U,T,k2,k10⟩
section
include hc hv
variable {s:gW}(H:RJ cards s){p:Nat}{n:Int}(K:Hit s p n)
include H K
theorem aen (k:jq)(h1 : -1000000<=(s.gU[p]'K.lt).life)(h2:(s.gU[p]'K.lt).life<=1000000) :
  Ok (λt=>t.gU=s.gU.set p { (s.gU[p]'K.lt) with life:=(if (s.gU[p]'K.lt).life-n < -1000000 then -1000000 else (s.gU[p]'K.lt).life-n) }) (tV k cards s (qY p n)):=by
 unfold tV;refine gJ (PS cards s hc H.sz hv H.ob) λa T=>iq (do_L H K a h1 h2) ?_;have U:=H.life K.lt (if (s.gU[p]'K.lt).life-n < -1000000 then -1000000 else (s.gU[p]'K.lt).life-n);refine gJ (PS cards _ hc U.sz hv U.ob) λb hb=>gJ (Zh _ _ _ _ _ (Zl H.ob U.ob T.2.sz hb.2.sz (by show (5:Int)≠2;decide) (by show (5:Int)≠10;decide))) λl hl=>?_;refine aby l _ hl.1 hl.2 U.sz.2.2.2.2.2.1 (λi t k hi=>?_) λt k ht=>?_
 unfold tK;have e:decide ((i:Int)<ik l)=true:=decide_eq_true (by simp only[ik];omega);simp only[e];rfl
 unfold tK;exact gG (λh=>absurd h aO) λ_=>BL rfl (gB rfl)
theorem ahS (k:jq)(h1 : -1000000<=(s.gU[p]'K.lt).life)(h2:(s.gU[p]'K.lt).life<=1000000) :
  Ok (λt=>t.1.gU=s.gU.set p { (s.gU[p]'K.lt) with life:=(if (s.gU[p]'K.lt).life-n < -1000000 then -1000000 else (s.gU[p]'K.lt).life-n) }) (xC k cards s (qY p n)):=by
 unfold xC AU;refine gJ (R:=λt=>t.1.gU=s.gU.set p { (s.gU[p]'K.lt) with life:=(if (s.gU[p]'K.lt).life-n < -1000000 then -1000000 else (s.gU[p]'K.lt).life-n) }) ?_ λt ht=>gB ht;refine iq (Rw hc hv H k (agR H K) (by show (5:Int)≠2;decide) rfl) ?_;refine gZ (λb=>b=false) (λk3 U=>lV rfl (iq (agR H K) (U _ rfl))) λb hb=>?_;subst hb;refine lV rfl (gZ (λx=>x=(0,n)) (λk7 h7=>?_) λx hx=>?_)
 exact gp
 subst hx;refine gJ (aen hc hv H K k h1 h2) λt ht=>?_;refine jg (λ_=>True) (λ_=>0) trivial bG λT k2 _ _=>?_;unfold AQ;exact lV rfl (gB ht)
theorem aeo (k:jq)(h1 : -1000000<=(s.gU[p]'K.lt).life)(h2:(s.gU[p]'K.lt).life<=1000000) :
  Ok (λt=>t.1.gU=s.gU.set p { (s.gU[p]'K.lt) with life:=(if (s.gU[p]'K.lt).life-n < -1000000 then -1000000 else (s.gU[p]'K.lt).life-n) }) (tY k cards s (evD p n)):=by
 have ho:=H.ob;unfold tY;refine gJ (PS cards s hc H.sz hv H.ob) λa I=>iq (do_D H K a) ?_;refine gJ (PS cards _ hc H.sz hv H.ob) λb hb=>gJ (Zh _ _ _ _ _ (Zl H.ob H.ob I.2.sz hb.2.sz (by show (1:Int)≠2;decide) (by show (1:Int)≠10;decide))) λl hl=>?_;refine aby l _ hl.1 hl.2 H.sz.2.2.2.2.2.1 (λi t k hi=>?_) λt k2 ht=>?_
 unfold tX;have e:decide ((i:Int)<ik l)=true:=decide_eq_true (by simp only[ik];omega);simp only[e];rfl
 have J:=H.wait ht;have C:Hit (afS s t) p n:=⟨K.lt,K.live,K.n1,K.n2⟩;unfold tX;refine gG (λh=>absurd h aO) λ_=>lV rfl ?_;refine gZ (λt=>t.2.gU=s.gU.set p { (s.gU[p]'K.lt) with life:=(if (s.gU[p]'K.lt).life-n < -1000000 then -1000000 else (s.gU[p]'K.lt).life-n) }) (λk13 T=>BL rfl (gJ (ahS hc hv J C k h1 h2) λu hu=>T (u.2,u.1) hu)) λu hu=>?_;refine iq (x:=-1) (QJ (g:=λo=>decide (o.id=0)) ah (λx=>rfl) λx hx=>?_) ?_
 have:=H.pos x hx;exact decide_eq_false ah
 exact gZ (λb=>b=false) (λk18 U=>lV rfl (U _ rfl)) λb hb=>by subst hb;exact lV rfl (gB hu)
theorem ahT (k:jq)(h1 : -1000000<=(s.gU[p]'K.lt).life)(h2:(s.gU[p]'K.lt).life<=1000000) :
  Ok (λt=>t.1.gU=s.gU.set p { (s.gU[p]'K.lt) with life:=(if (s.gU[p]'K.lt).life-n < -1000000 then -1000000 else (s.gU[p]'K.lt).life-n) }) (zB k cards s (evD p n)):=by
 unfold zB AX;refine gJ (R:=λt=>t.1.gU=s.gU.set p { (s.gU[p]'K.lt) with life:=(if (s.gU[p]'K.lt).life-n < -1000000 then -1000000 else (s.gU[p]'K.lt).life-n) }) ?_ λt ht=>gB ht;refine iq (Rw hc hv H k (agQ H K) (by show (1:Int)≠2;decide) rfl) ?_;refine gZ (λb=>b=false) (λk3 U=>lV rfl (iq (agQ H K) (U _ rfl))) λb hb=>?_;subst hb;refine lV rfl (gZ (λx=>x=(0,n)) (λk7 h7=>?_) λx hx=>?_)
 exact gp
 subst hx;refine gJ (aeo hc hv H K k h1 h2) λt ht=>?_;refine jg (λ_=>True) (λ_=>0) trivial bG λT k2 _ _=>?_;unfold AV;exact lV rfl (gB ht)
end
end
theorem ML (n a b:Int):vJ n a b=some (decide (a<=n/\n<=b)):=by
 unfold vJ;exact ok_eq (gG (λh=>gB bW) λh=>gB bW)
theorem XX (s:gW)(hs:kZ s):Ok (λr=>r=true->∀ p∈s.gU,-1000000<=p.life/\p.life<=1000000) (zu s):=by
 have hlen:=hs.1.1;have no:∀ {p:Prop},((true:Bool)=false->p):=λe=>by cases e
 unfold zu;refine iq (ML _ _ _) (gK (λ_=>gB λh=>by cases h) λ_=>?_);refine qi 0 s.gU.length (λn=>∀ p∈s.gU.take n,-1000000<=p.life/\p.life<=1000000) 0 rfl (Nat.zero_le _) ah aS (λi k hi T hk=>?_) λk T=>?_
 have J:=hs.1.2 _ (List.getElem_mem hi);unfold Ac;refine gG (λ_=>je i rfl hi (gZ (λb=>b=false->-1000000<=(s.gU[i]).life/\(s.gU[i]).life<=1000000) (λk7 h7=>?_) λb hb=>gK (λ_=>gB λh=>by cases h) λO=>gZ (λ_=>True) (λk14 U=>?_) λb _=>gK (λ_=>gB λh=>by cases h) λ_=>hk λp hp=>?_)) λh=>absurd (show (i:Int)<(s.gU.length:Int) by omega) h
 refine iq (ML _ _ _) (gK (λ_=>h7 _ no) λh=>?_);have hl : -1000000<=(s.gU[i]).life/\(s.gU[i]).life<=1000000:=by simpa using h
 exact iq (ML _ _ _) (gK (λ_=>h7 _ no) λ_=>iq (ML _ _ _) (gK (λ_=>h7 _ no) λ_=>gJ (MK _) λ_ _=>h7 _ λ_=>hl))
 exact gJ (qp _ _ _ _ hs J.1) λ_ _=>gK (λ_=>U _ trivial) λ_=>gJ (qp _ _ _ _ hs J.2.1) λ_ _=>gK (λ_=>U _ trivial) λ_=>gJ (qp _ _ _ _ hs J.2.2) λ_ _=>U _ trivial
 rw[kQ _ i hi] at hp;rcases List.mem_append.1 hp with hp|hp
 exact T p hp
 rw[List.mem_singleton.1 hp];exact hb O
 unfold Ac;rw[sF] at T;exact gG (λh=>absurd h dm) λ_=>gJ (qp _ _ _ _ hs hs.2.2.1) λ_ _=>gK (λ_=>gJ (qp _ _ _ _ hs hs.2.2.2.1) λ_ _=>gB λ_=>T) λ_=>gB λh=>by cases h
theorem afC (cards:List jc)(s:gW)(hc:rM mG cards)(hs:kZ s)(h:yg cards s=some true):∀ p∈s.gU,-1000000<=p.life/\p.life<=1000000:=by
 have U:=hs.2.2.2.2.2.2.2;have no:∀ {p:Prop},((true:Bool)=false->p):=λe=>by cases e
 have:Ok (λr=>r=true->∀ p∈s.gU,-1000000<=p.life/\p.life<=1000000) (yg cards s):=by
  unfold yg;refine gZ (λ_=>True) (λk hk=>?_) λb _=>?_
  exact iq (ML _ _ _) (gK (λ_=>hk _ trivial) λ_=>iq (ML _ _ _) (gK (λ_=>hk _ trivial) λ_=>iq (ML _ _ _) (gK (λ_=>hk _ trivial) λ_=>iq (ML _ _ _) (gK (λ_=>hk _ trivial) λ_=>hk _ trivial))))
  refine gK (λ_=>gB λh=>by cases h) λ_=>gZ (λb=>b=false->∀ p∈s.gU,-1000000<=p.life/\p.life<=1000000) (λk hk=>?_) λb hb=>?_
  refine gJ (XX s hs) λy hy=>gK (λ_=>hk _ no) λO=>?_;have hl:=hy (by cases y with|true=>rfl|false=>cases O);exact gJ (lH _ _ hs) λ_ _=>gK (λ_=>hk _ no) λ_=>gJ (lH _ _ hs) λ_ _=>gK (λ_=>hk _ no) λ_=>iq (ML _ _ _) (gK (λ_=>hk _ no) λ_=>gG (λ_=>hk _ no) λ_=>iq (ML _ _ _) (hk _ λ_=>hl))
  refine gK (λ_=>gB λh=>by cases h) λO=>?_;have hl:=hb O;refine qi 0 s.extra.length (λ_=>True) 0 rfl (Nat.zero_le _) (by have:=U.1;omega) trivial (λi k hi _ hk=>?_) λk _=>?_
  unfold EG;exact gG (λ_=>je i rfl hi (gJ (lH _ _ hs) λ_ _=>gK (λ_=>gB λh=>by cases h) λ_=>hk trivial)) λh=>absurd (show (i:Int)<(s.extra.length:Int) by omega) h
  unfold EG;refine gG (λh=>absurd h dZ) λ_=>gZ (λ_=>True) (λk hk=>?_) λb _=>?_
  exact gq
  refine gK (λ_=>gB λh=>by cases h) λ_=>gJ (JB cards s hc hs) λ_ _=>gK (λ_=>gJ (Ho s hs) λ_ _=>gB λ_=>hl) λ_=>gB λh=>by cases h
 obtain⟨r,e,hr⟩:=this;rw[h] at e;cases e;exact hr rfl
theorem afD:LH []=some ⟨[],0,OE,false,false⟩:=by
 unfold LH;refine ok_eq (kN 0 0 (λ_ t=>t=[]) 0 rfl (Nat.zero_le _) ah rfl (λi _ _ h=>by omega) λt k ht=>?_);subst ht;unfold Ul;exact lV rfl (gB rfl)
theorem aaL {α β γ:Type}(o:Option α)(f:α->Option β)(g:β->Option γ):bnd (bnd o f) g=bnd o (λx=>bnd (f x) g):=by cases o<;>rfl
theorem afE {α:Type}(o:Option α):bnd o (λy=>some y)=o:=by cases o<;>rfl
theorem UH:Di=some true:=by kernel_rfl
theorem PX (cards:List jc)(s:gW)(n:Int)(hc:rM mG cards)(hs:kZ s):sD cards s n=some true:=by
 unfold sD;refine ok_eq (gZ (λb=>b=false->((∀ c∈cards,XV c)/\yg cards s=some true)/\(1<=n/\n<=1000000)/\Zi cards s.objects) (λk hk=>?_) λb hb=>?_)
 unfold Kv;rw[aaL];refine gJ (aco cards hc) λy1 h1=>?_;show Ok _ (bnd (br (decide (y1.2=0)) _ _) _)
 by_cases h0:y1.2=0
 rw[decide_eq_true h0];obtain⟨J,e,h2⟩:=aed cards s hc hs;show Ok _ (bnd (bnd (yg cards s) _) _);rw[afE];refine iq e (gK (λ_=>hk _ λh=>by cases h) λhy=>?_);have hy:J=true:=by cases J with|true=>rfl|false=>cases hy
 subst hy;refine gG (λ_=>hk _ λh=>by cases h) λg1=>gG (λ_=>hk _ λh=>by cases h) λg2=>gJ (aek cards s hc (λc h=>(h1 h0 c h).ach) (h2 rfl)) λc hcn=>hk _ λO=>⟨⟨h1 h0,e⟩,by omega,hcn.2 ?_⟩
 have:=of_decide_eq_false O;omega
 rw[decide_eq_false h0];exact hk _ λh=>by cases h
 refine gK (λ_=>iq UH (gB rfl)) λhb2=>?_;obtain⟨⟨I,U⟩,⟨n1,n2⟩,g⟩:=hb hb2;obtain⟨J,e,h2⟩:=aed cards s hc hs;rw[U] at e;cases e;have hv:=λc h=>(I c h).ach;have H:RJ cards s:=⟨hs,h2 rfl,agM cards s hc hs U,abv cards s hc hs (Za cards s hc hs) U,g⟩;have hlf:=afC cards s hc hs U;have hpl:=hs.1.1;refine qi 0 s.gU.length (λ_=>True) 0 rfl (Nat.zero_le _) ah trivial (λi k hi _ hk=>?_) λk _=>?_
 obtain⟨l1,l2⟩:=hlf _ (List.getElem_mem hi);unfold sN;refine gG (λ_=>gZ (λ_=>True) (λk11 T=>?_) λ_ _=>hk trivial) λh=>absurd (show (i:Int)<(s.gU.length:Int) by omega) h;refine je i rfl hi (gK (λ_=>T _ trivial) λhl=>iq afD ?_);have K:Hit s i n:=⟨hi,hl,n1,n2⟩;refine gJ (ahT hc hv H K _ l1 l2) λt ht=>gZ (λb=>b=false) (λk17 C=>?_) λb hb=>by subst hb;exact lV rfl (T _ trivial)
 have hle:t.1.gU.length=s.gU.length:=by rw[ht,List.length_set]
 refine lN (λh=>absurd (show ik t.1.gU=ik s.gU by simp only[ik];rw[hle]) h) λ_=>je i rfl ah (je i rfl hi (oh λv hv=>?_))
 have hx:(t.1.gU[i]' ah).life=(if (s.gU[i]).life-n < -1000000 then -1000000 else (s.gU[i]).life-n):=by
  have:t.1.gU[i]?=some { (s.gU[i]) with life:=(if (s.gU[i]).life-n < -1000000 then -1000000 else (s.gU[i]).life-n) }:=by rw[ht,List.getElem?_set_self hi]
  rw[List.getElem?_eq_getElem ah] at this;rw[Option.some.inj this]
 refine C _ ?_;rw[hv,hx,xX ah ah];simp
 unfold sN;exact gG (λh=>absurd h dm) λ_=>iq UH (gB rfl)
end Go.Proofs.YtchmoabpofnbaaaGreat
namespace Go.Pv
theorem SnL.cs {P:Program}{N:Nat}{t:TypeId}{ts:List TypeId}{cs:List PV}(h:SnL P N (t::ts) cs){α:Type}{e:α->List PV}{ok:α->Prop}(s:∀ {c:List PV},Sn P N t c->∃ x,c=e x/\ok x):∃ x b,cs=e x++b/\ok x/\SnL P N ts b:=by
 obtain⟨a,b,rfl,k,g⟩:=h.EU;obtain⟨x,rfl,w⟩:=s k;exact⟨x,b,rfl,w,g⟩
end Go.Pv
namespace Go.Proofs.YtchmoabpofnbaaaGreat
open Go Go.Pv Proofs.Tryz
def ok9 (s:ByteArray):Prop:=s.size<=1048576
theorem sT9 {cs:List PV}(h:Sn Tryz.prog 1048576 9 cs):∃ x:ByteArray,cs=eS x/\ok9 x:=by
 obtain⟨n,e,U⟩:=h.aa8 underlying9;exact⟨n,e,U⟩
def ok4 (_:Bool):Prop:=True
theorem sT4 {cs:List PV}(h:Sn Tryz.prog 1048576 4 cs):∃ x:Bool,cs=eB x/\ok4 x:=by
 obtain⟨n,e⟩:=h.YG underlying4;exact⟨n,e,trivial⟩
def qW (x:Int):Prop:=(Lit.int .i64 x).wf=true
theorem qX {cs:List PV}(h:Sn Tryz.prog 1048576 3 cs):∃ x:Int,cs=(eI .i64) x/\qW x:=by
 obtain⟨n,e,U⟩:=h.WM underlying3;exact⟨n,e,U⟩
def ahU (x:Z5 Int):Prop:=qW x.a0/\qW x.a1/\qW x.a2/\qW x.a3/\qW x.a4
theorem sT83 {cs:List PV}(h:Sn Tryz.prog 1048576 83 cs):∃ x:Z5 Int,cs=(ahq (eI .i64)) x/\ahU x:=by
 have h:=h.Si underlying83;obtain⟨n0,b0,rfl,w0,h⟩:=h.cs qX;obtain⟨n1,C,rfl,T,h⟩:=h.cs qX;obtain⟨n2,g,rfl,U,h⟩:=h.cs qX;obtain⟨n3,b3,rfl,J,h⟩:=h.cs qX;obtain⟨n4,b4,rfl,I,h⟩:=h.cs qX;obtain rfl:=h.nH;exact⟨⟨n0,n1,n2,n3,n4⟩,rfl,w0,T,U,J,I⟩
def agS (x:rG):Prop:=qW x.generic/\qW x.x/\ahU x.color
theorem ahV {cs:List PV}(h:Sn Tryz.prog 1048576 85 cs):∃ x:rG,cs=(rV lC) x/\agS x:=by
 have h:=h.kS underlying85;obtain⟨n0,b0,rfl,w0,h⟩:=h.cs qX;obtain⟨n1,J,rfl,U,h⟩:=h.cs qX;obtain⟨n2,I,rfl,T,h⟩:=h.cs sT83;obtain rfl:=h.nH;exact⟨⟨n0,n1,n2⟩,rfl,w0,U,T⟩
def agT (l:List ByteArray):Prop:=l.length<=1048576/\∀ x∈l,ok9 x
theorem sT86 {cs:List PV}(h:Sn Tryz.prog 1048576 86 cs):∃ x:List ByteArray,cs=[.sl 1 (lC.m ByteArray eS x) false]/\agT x:=by
 obtain⟨J,e,h1,h2⟩:=h.qC underlying86;have hc:Tryz.prog.cellsOf 9=1:=by kernel_rfl
 rw[hc] at e;obtain⟨l,T,U,I⟩:=wM λr hr=>sT9 (h1 r hr);exact⟨l,by rw[e,T];rfl,by omega,U⟩
def agU (x:zt):Prop:=qW x.Gj/\qW x.types/\agT x.subs
theorem sT88 {cs:List PV}(h:Sn Tryz.prog 1048576 88 cs):∃ x:zt,cs=(JZ lC) x/\agU x:=by
 have h:=h.kS underlying88;obtain⟨n0,b0,rfl,w0,h⟩:=h.cs qX;obtain⟨n1,J,rfl,U,h⟩:=h.cs qX;obtain⟨n2,I,rfl,T,h⟩:=h.cs sT86;obtain rfl:=h.nH;exact⟨⟨n0,n1,n2⟩,rfl,w0,U,T⟩
def abz (x:vI):Prop:=qW x.kind/\qW x.n
theorem aep {cs:List PV}(h:Sn Tryz.prog 1048576 101 cs):∃ x:vI,cs=(D8 lC) x/\abz x:=by
 have h:=h.kS underlying101;obtain⟨n0,b0,rfl,w0,h⟩:=h.cs qX;obtain⟨n1,T,rfl,U,h⟩:=h.cs qX;obtain rfl:=h.nH;exact⟨⟨n0,n1⟩,rfl,w0,U⟩
def MM (x:kD):Prop:=qW x.jB/\qW x.who/\qW x.self/\qW x.types/\qW x.jH/\qW x.kz/\qW x.jl/\ok9 x.sub/\qW x.keys/\qW x.BX/\abz x.power/\abz x.ji/\abz x.value
theorem Rx {cs:List PV}(h:Sn Tryz.prog 1048576 103 cs):∃ x:kD,cs=(jU lC) x/\MM x:=by
 have h:=h.kS underlying103;obtain⟨n0,b0,rfl,w0,h⟩:=h.cs qX;obtain⟨n1,b1,rfl,w1,h⟩:=h.cs qX;obtain⟨n2,b2,rfl,C,h⟩:=h.cs qX;obtain⟨n3,b3,rfl,w3,h⟩:=h.cs qX;obtain⟨n4,b4,rfl,w4,h⟩:=h.cs qX;obtain⟨n5,b5,rfl,w5,h⟩:=h.cs qX;obtain⟨n6,b6,rfl,w6,h⟩:=h.cs qX;obtain⟨n7,b7,rfl,g,h⟩:=h.cs sT9;obtain⟨n8,b8,rfl,w8,h⟩:=h.cs qX;obtain⟨n9,b9,rfl,I,h⟩:=h.cs qX;obtain⟨n10,b10,rfl,U,h⟩:=h.cs aep;obtain⟨n11,b11,rfl,J,h⟩:=h.cs aep;obtain⟨n12,b12,rfl,T,h⟩:=h.cs aep;obtain rfl:=h.nH;exact⟨⟨n0,n1,n2,n3,n4,n5,n6,n7,n8,n9,n10,n11,n12⟩,rfl,w0,w1,C,w3,w4,w5,w6,g,w8,I,U,J,T⟩
def aeq (x:nC):Prop:=qW x.kind/\qW x.n/\qW x.m/\ok9 x.sub/\MM x.filter
theorem ahW {cs:List PV}(h:Sn Tryz.prog 1048576 215 cs):∃ x:nC,cs=(zo lC) x/\aeq x:=by
 have h:=h.kS underlying215;obtain⟨n0,b0,rfl,w0,h⟩:=h.cs qX;obtain⟨n1,C,rfl,T,h⟩:=h.cs qX;obtain⟨n2,g,rfl,U,h⟩:=h.cs qX;obtain⟨n3,b3,rfl,J,h⟩:=h.cs sT9;obtain⟨n4,b4,rfl,I,h⟩:=h.cs Rx;obtain rfl:=h.nH;exact⟨⟨n0,n1,n2,n3,n4⟩,rfl,w0,T,U,J,I⟩
def Zm (l:List nC):Prop:=l.length<=1048576/\∀ x∈l,aeq x
theorem aer {cs:List PV}(h:Sn Tryz.prog 1048576 106 cs):∃ x:List nC,cs=[.sl 20 (lC.m nC (zo lC) x) false]/\Zm x:=by
 obtain⟨J,e,h1,h2⟩:=h.qC underlying106;have hc:Tryz.prog.cellsOf 215=20:=by kernel_rfl
 rw[hc] at e;obtain⟨l,T,U,I⟩:=wM λr hr=>ahW (h1 r hr);exact⟨l,by rw[e,T];rfl,by omega,U⟩
def afT (x:I8):Prop:=agS x.Dv/\ok4 x.BX/\ok4 x.Il/\qW x.life
theorem ahX {cs:List PV}(h:Sn Tryz.prog 1048576 108 cs):∃ x:I8,cs=(zZ lC) x/\afT x:=by
 have h:=h.kS underlying108;obtain⟨n0,b0,rfl,w0,h⟩:=h.cs ahV;obtain⟨n1,I,rfl,U,h⟩:=h.cs sT4;obtain⟨n2,C,rfl,J,h⟩:=h.cs sT4;obtain⟨n3,b3,rfl,T,h⟩:=h.cs qX;obtain rfl:=h.nH;exact⟨⟨n0,n1,n2,n3⟩,rfl,w0,U,J,T⟩
def aes (x:xh):Prop:=qW x.when/\qW x.who/\MM x.filter
theorem ahY {cs:List PV}(h:Sn Tryz.prog 1048576 110 cs):∃ x:xh,cs=(pX lC) x/\aes x:=by
 have h:=h.kS underlying110;obtain⟨n0,b0,rfl,w0,h⟩:=h.cs qX;obtain⟨n1,J,rfl,U,h⟩:=h.cs qX;obtain⟨n2,I,rfl,T,h⟩:=h.cs Rx;obtain rfl:=h.nH;exact⟨⟨n0,n1,n2⟩,rfl,w0,U,T⟩
def aet (x:rW):Prop:=ok4 x.kE/\ok4 x.object/\MM x.filter
theorem ahZ {cs:List PV}(h:Sn Tryz.prog 1048576 284 cs):∃ x:rW,cs=(I9 lC) x/\aet x:=by
 have h:=h.kS underlying284;obtain⟨n0,b0,rfl,w0,h⟩:=h.cs sT4;obtain⟨n1,J,rfl,U,h⟩:=h.cs sT4;obtain⟨n2,I,rfl,T,h⟩:=h.cs Rx;obtain rfl:=h.nH;exact⟨⟨n0,n1,n2⟩,rfl,w0,U,T⟩
def aeu (l:List rW):Prop:=l.length<=1048576/\∀ x∈l,aet x
theorem ah0 {cs:List PV}(h:Sn Tryz.prog 1048576 111 cs):∃ x:List rW,cs=[.sl 18 (lC.m rW (I9 lC) x) false]/\aeu x:=by
 obtain⟨J,e,h1,h2⟩:=h.qC underlying111;have hc:Tryz.prog.cellsOf 284=18:=by kernel_rfl
 rw[hc] at e;obtain⟨l,T,U,I⟩:=wM λr hr=>ahZ (h1 r hr);exact⟨l,by rw[e,T];rfl,by omega,U⟩
def aev (x:Ug):Prop:=qW x.kind/\qW x.n/\MM x.filter
theorem ah1 {cs:List PV}(h:Sn Tryz.prog 1048576 263 cs):∃ x:Ug,cs=(VE lC) x/\aev x:=by
 have h:=h.kS underlying263;obtain⟨n0,b0,rfl,w0,h⟩:=h.cs qX;obtain⟨n1,J,rfl,U,h⟩:=h.cs qX;obtain⟨n2,I,rfl,T,h⟩:=h.cs Rx;obtain rfl:=h.nH;exact⟨⟨n0,n1,n2⟩,rfl,w0,U,T⟩
def aew (x:xO):Prop:=qW x.kind/\qW x.n/\qW x.counter/\MM x.filter
theorem ah2 {cs:List PV}(h:Sn Tryz.prog 1048576 265 cs):∃ x:xO,cs=(EY lC) x/\aew x:=by
 have h:=h.kS underlying265;obtain⟨n0,b0,rfl,w0,h⟩:=h.cs qX;obtain⟨n1,I,rfl,U,h⟩:=h.cs qX;obtain⟨n2,C,rfl,J,h⟩:=h.cs qX;obtain⟨n3,b3,rfl,T,h⟩:=h.cs Rx;obtain rfl:=h.nH;exact⟨⟨n0,n1,n2,n3⟩,rfl,w0,U,J,T⟩
def agV (x:Qm Int):Prop:=qW x.a0/\qW x.a1/\qW x.a2/\qW x.a3/\qW x.a4/\qW x.a5
theorem ah3 {cs:List PV}(h:Sn Tryz.prog 1048576 54 cs):∃ x:Qm Int,cs=(ahr (eI .i64)) x/\agV x:=by
 have h:=h.Si underlying54;obtain⟨n0,b0,rfl,w0,h⟩:=h.cs qX;obtain⟨n1,g,rfl,T,h⟩:=h.cs qX;obtain⟨n2,b2,rfl,U,h⟩:=h.cs qX;obtain⟨n3,b3,rfl,J,h⟩:=h.cs qX;obtain⟨n4,b4,rfl,C,h⟩:=h.cs qX;obtain⟨n5,b5,rfl,I,h⟩:=h.cs qX;obtain rfl:=h.nH;exact⟨⟨n0,n1,n2,n3,n4,n5⟩,rfl,w0,T,U,J,C,I⟩
def aex (x:jh):Prop:=qW x.op/\aev x.ref/\aew x.amount/\qW x.counter/\qW x.jB/\ok9 x.card/\MM x.filter/\agV x.pool/\Zm x.mQ
theorem ah4 {cs:List PV}(h:Sn Tryz.prog 1048576 267 cs):∃ x:jh,cs=(xk lC) x/\aex x:=by
 have h:=h.kS underlying267;obtain⟨n0,b0,rfl,w0,h⟩:=h.cs qX;obtain⟨n1,b1,rfl,I,h⟩:=h.cs ah1;obtain⟨n2,b2,rfl,T,h⟩:=h.cs ah2;obtain⟨n3,b3,rfl,g,h⟩:=h.cs qX;obtain⟨n4,b4,rfl,w4,h⟩:=h.cs qX;obtain⟨n5,b5,rfl,w5,h⟩:=h.cs sT9;obtain⟨n6,b6,rfl,U,h⟩:=h.cs Rx;obtain⟨n7,b7,rfl,J,h⟩:=h.cs ah3;obtain⟨n8,b8,rfl,C,h⟩:=h.cs aer;obtain rfl:=h.nH;exact⟨⟨n0,n1,n2,n3,n4,n5,n6,n7,n8⟩,rfl,w0,I,T,g,w4,w5,U,J,C⟩
def aey (l:List jh):Prop:=l.length<=1048576/\∀ x∈l,aex x
theorem ah5 {cs:List PV}(h:Sn Tryz.prog 1048576 112 cs):∃ x:List jh,cs=[.sl 64 (lC.m jh (xk lC) x) false]/\aey x:=by
 obtain⟨J,e,h1,h2⟩:=h.qC underlying112;have hc:Tryz.prog.cellsOf 267=64:=by kernel_rfl
 rw[hc] at e;obtain⟨l,T,U,I⟩:=wM λr hr=>ah4 (h1 r hr);exact⟨l,by rw[e,T];rfl,by omega,U⟩
def aez (x:oQ):Prop:=qW x.on/\qW x.who/\MM x.filter/\qW x.doF/\qW x.n/\qW x.jB/\qW x.counter
theorem ah6 {cs:List PV}(h:Sn Tryz.prog 1048576 105 cs):∃ x:oQ,cs=(oU lC) x/\aez x:=by
 have h:=h.kS underlying105;obtain⟨n0,b0,rfl,w0,h⟩:=h.cs qX;obtain⟨n1,b1,rfl,J,h⟩:=h.cs qX;obtain⟨n2,b2,rfl,T,h⟩:=h.cs Rx;obtain⟨n3,b3,rfl,I,h⟩:=h.cs qX;obtain⟨n4,b4,rfl,g,h⟩:=h.cs qX;obtain⟨n5,b5,rfl,C,h⟩:=h.cs qX;obtain⟨n6,b6,rfl,U,h⟩:=h.cs qX;obtain rfl:=h.nH;exact⟨⟨n0,n1,n2,n3,n4,n5,n6⟩,rfl,w0,J,T,I,g,C,U⟩
def Zn (x:iG):Prop:=qW x.kind/\MM x.filter/\Zm x.mQ/\afT x.price/\ok4 x.slow/\aes x.iM/\ok4 x.may/\aeu x.specs/\aey x.jX/\aez x.replace
theorem aeA {cs:List PV}(h:Sn Tryz.prog 1048576 114 cs):∃ x:iG,cs=(jQ lC) x/\Zn x:=by
 have h:=h.kS underlying114;obtain⟨n0,b0,rfl,w0,h⟩:=h.cs qX;obtain⟨n1,b1,rfl,C,h⟩:=h.cs Rx;obtain⟨n2,b2,rfl,J,h⟩:=h.cs aer;obtain⟨n3,b3,rfl,w3,h⟩:=h.cs ahX;obtain⟨n4,b4,rfl,w4,h⟩:=h.cs sT4;obtain⟨n5,b5,rfl,w5,h⟩:=h.cs ahY;obtain⟨n6,b6,rfl,T,h⟩:=h.cs sT4;obtain⟨n7,b7,rfl,I,h⟩:=h.cs ah0;obtain⟨n8,b8,rfl,g,h⟩:=h.cs ah5;obtain⟨n9,b9,rfl,U,h⟩:=h.cs ah6;obtain rfl:=h.nH;exact⟨⟨n0,n1,n2,n3,n4,n5,n6,n7,n8,n9⟩,rfl,w0,C,J,w3,w4,w5,T,I,g,U⟩
def agW (l:List iG):Prop:=l.length<=1048576/\∀ x∈l,Zn x
theorem sT89 {cs:List PV}(h:Sn Tryz.prog 1048576 89 cs):∃ x:List iG,cs=[.sl 72 (lC.m iG (jQ lC) x) false]/\agW x:=by
 obtain⟨J,e,h1,h2⟩:=h.qC underlying89;have hc:Tryz.prog.cellsOf 114=72:=by kernel_rfl
 rw[hc] at e;obtain⟨l,T,U,I⟩:=wM λr hr=>aeA (h1 r hr);exact⟨l,by rw[e,T];rfl,by omega,U⟩
def agX (x:jc):Prop:=ok9 x.name/\ok4 x.token/\agS x.cost/\qW x.color/\agU x.line/\qW x.power/\qW x.ji/\qW x.keys/\agW x.gQ
theorem sT98 {cs:List PV}(h:Sn Tryz.prog 1048576 98 cs):∃ x:jc,cs=(yY lC) x/\agX x:=by
 have h:=h.kS underlying98;obtain⟨n0,b0,rfl,w0,h⟩:=h.cs sT9;obtain⟨n1,b1,rfl,I,h⟩:=h.cs sT4;obtain⟨n2,b2,rfl,T,h⟩:=h.cs ahV;obtain⟨n3,b3,rfl,g,h⟩:=h.cs qX;obtain⟨n4,b4,rfl,w4,h⟩:=h.cs sT88;obtain⟨n5,b5,rfl,w5,h⟩:=h.cs qX;obtain⟨n6,b6,rfl,U,h⟩:=h.cs qX;obtain⟨n7,b7,rfl,J,h⟩:=h.cs qX;obtain⟨n8,b8,rfl,C,h⟩:=h.cs sT89;obtain rfl:=h.nH;exact⟨⟨n0,n1,n2,n3,n4,n5,n6,n7,n8⟩,rfl,w0,I,T,g,w4,w5,U,J,C⟩
def agY (l:List jc):Prop:=l.length<=1048576/\∀ x∈l,agX x
theorem sT22 {cs:List PV}(h:Sn Tryz.prog 1048576 22 cs):∃ x:List jc,cs=[.sl 17 (lC.m jc (yY lC) x) false]/\agY x:=by
 obtain⟨J,e,h1,h2⟩:=h.qC underlying22;have hc:Tryz.prog.cellsOf 98=17:=by kernel_rfl
 rw[hc] at e;obtain⟨l,T,U,I⟩:=wM λr hr=>sT98 (h1 r hr);exact⟨l,by rw[e,T];rfl,by omega,U⟩
def XY (l:List Int):Prop:=l.length<=1048576/\∀ x∈l,qW x
theorem aaM {cs:List PV}(h:Sn Tryz.prog 1048576 25 cs):∃ x:List Int,cs=[.sl 1 (lC.m Int (eI .i64) x) false]/\XY x:=by
 obtain⟨J,e,h1,h2⟩:=h.qC underlying25;have hc:Tryz.prog.cellsOf 3=1:=by kernel_rfl
 rw[hc] at e;obtain⟨l,T,U,I⟩:=wM λr hr=>qX (h1 r hr);exact⟨l,by rw[e,T];rfl,by omega,U⟩
def agZ (x:jO):Prop:=qW x.life/\qW x.YO/\qW x.lands/\agV x.pool/\ok4 x.failed/\ok4 x.lost/\XY x.library/\XY x.hand/\XY x.BC
theorem sT56 {cs:List PV}(h:Sn Tryz.prog 1048576 56 cs):∃ x:jO,cs=(xg lC) x/\agZ x:=by
 have h:=h.kS underlying56;obtain⟨n0,b0,rfl,w0,h⟩:=h.cs qX;obtain⟨n1,b1,rfl,I,h⟩:=h.cs qX;obtain⟨n2,b2,rfl,T,h⟩:=h.cs qX;obtain⟨n3,b3,rfl,g,h⟩:=h.cs ah3;obtain⟨n4,b4,rfl,w4,h⟩:=h.cs sT4;obtain⟨n5,b5,rfl,w5,h⟩:=h.cs sT4;obtain⟨n6,b6,rfl,U,h⟩:=h.cs aaM;obtain⟨n7,b7,rfl,J,h⟩:=h.cs aaM;obtain⟨n8,b8,rfl,C,h⟩:=h.cs aaM;obtain rfl:=h.nH;exact⟨⟨n0,n1,n2,n3,n4,n5,n6,n7,n8⟩,rfl,w0,I,T,g,w4,w5,U,J,C⟩
def ag0 (l:List jO):Prop:=l.length<=1048576/\∀ x∈l,agZ x
theorem sT23 {cs:List PV}(h:Sn Tryz.prog 1048576 23 cs):∃ x:List jO,cs=[.sl 14 (lC.m jO (xg lC) x) false]/\ag0 x:=by
 obtain⟨J,e,h1,h2⟩:=h.qC underlying23;have hc:Tryz.prog.cellsOf 56=14:=by kernel_rfl
 rw[hc] at e;obtain⟨l,T,U,I⟩:=wM λr hr=>sT56 (h1 r hr);exact⟨l,by rw[e,T];rfl,by omega,U⟩
def ok32 (x:Oy Int):Prop:=qW x.a0/\qW x.a1/\qW x.a2
theorem ah7 {cs:List PV}(h:Sn Tryz.prog 1048576 32 cs):∃ x:Oy Int,cs=(ahp (eI .i64)) x/\ok32 x:=by
 have h:=h.Si underlying32;obtain⟨n0,b0,rfl,w0,h⟩:=h.cs qX;obtain⟨n1,J,rfl,U,h⟩:=h.cs qX;obtain⟨n2,I,rfl,T,h⟩:=h.cs qX;obtain rfl:=h.nH;exact⟨⟨n0,n1,n2⟩,rfl,w0,U,T⟩
def ah8 (x:iy):Prop:=qW x.id/\qW x.card/\qW x.owner/\qW x.control/\qW x.jB/\ok4 x.token/\ok4 x.qg/\ok4 x.aae/\ok4 x.deadly/\qW x.EX/\ok32 x.counters/\qW x.stamp/\qW x.copy/\qW x.Du/\ok4 x.blocked/\qW x.blocks/\qW x.BD
theorem sT66 {cs:List PV}(h:Sn Tryz.prog 1048576 66 cs):∃ x:iy,cs=(jY lC) x/\ah8 x:=by
 have h:=h.kS underlying66;obtain⟨n0,b0,rfl,w0,h⟩:=h.cs qX;obtain⟨n1,b1,rfl,w1,h⟩:=h.cs qX;obtain⟨n2,b2,rfl,w2,h⟩:=h.cs qX;obtain⟨n3,b3,rfl,w3,h⟩:=h.cs qX;obtain⟨n4,b4,rfl,w4,h⟩:=h.cs qX;obtain⟨n5,b5,rfl,w5,h⟩:=h.cs sT4;obtain⟨n6,b6,rfl,w6,h⟩:=h.cs sT4;obtain⟨n7,b7,rfl,w7,h⟩:=h.cs sT4;obtain⟨n8,b8,rfl,w8,h⟩:=h.cs sT4;obtain⟨n9,b9,rfl,w9,h⟩:=h.cs qX;obtain⟨n10,b10,rfl,U,h⟩:=h.cs ah7;obtain⟨n11,b11,rfl,J,h⟩:=h.cs qX;obtain⟨n12,b12,rfl,T,h⟩:=h.cs qX;obtain⟨n13,b13,rfl,g,h⟩:=h.cs qX;obtain⟨n14,b14,rfl,I,h⟩:=h.cs sT4;obtain⟨n15,b15,rfl,C,h⟩:=h.cs qX;obtain⟨n16,b16,rfl,w16,h⟩:=h.cs qX;obtain rfl:=h.nH;exact⟨⟨n0,n1,n2,n3,n4,n5,n6,n7,n8,n9,n10,n11,n12,n13,n14,n15,n16⟩,rfl,w0,w1,w2,w3,w4,w5,w6,w7,w8,w9,U,J,T,g,I,C,w16⟩
def ag1 (l:List iy):Prop:=l.length<=1048576/\∀ x∈l,ah8 x
theorem sT24 {cs:List PV}(h:Sn Tryz.prog 1048576 24 cs):∃ x:List iy,cs=[.sl 19 (lC.m iy (jY lC) x) false]/\ag1 x:=by
 obtain⟨J,e,h1,h2⟩:=h.qC underlying24;have hc:Tryz.prog.cellsOf 66=19:=by kernel_rfl
 rw[hc] at e;obtain⟨l,T,U,I⟩:=wM λr hr=>sT66 (h1 r hr);exact⟨l,by rw[e,T];rfl,by omega,U⟩
def afU (x:ru):Prop:=qW x.object/\qW x.kE
theorem ah9 {cs:List PV}(h:Sn Tryz.prog 1048576 210 cs):∃ x:ru,cs=(EZ lC) x/\afU x:=by
 have h:=h.kS underlying210;obtain⟨n0,b0,rfl,w0,h⟩:=h.cs qX;obtain⟨n1,T,rfl,U,h⟩:=h.cs qX;obtain rfl:=h.nH;exact⟨⟨n0,n1⟩,rfl,w0,U⟩
def aeB (l:List ru):Prop:=l.length<=1048576/\∀ x∈l,afU x
theorem aia {cs:List PV}(h:Sn Tryz.prog 1048576 145 cs):∃ x:List ru,cs=[.sl 2 (lC.m ru (EZ lC) x) false]/\aeB x:=by
 obtain⟨J,e,h1,h2⟩:=h.qC underlying145;have hc:Tryz.prog.cellsOf 210=2:=by kernel_rfl
 rw[hc] at e;obtain⟨l,T,U,I⟩:=wM λr hr=>ah9 (h1 r hr);exact⟨l,by rw[e,T];rfl,by omega,U⟩
def ag2 (x:jI):Prop:=qW x.kind/\qW x.source/\qW x.object/\qW x.kE/\qW x.amount/\qW x.Jt/\qW x.to/\qW x.cause/\qW x.counter/\qW x.card/\ok4 x.JY/\ok4 x.qg/\ok32 x.extra
theorem aib {cs:List PV}(h:Sn Tryz.prog 1048576 34 cs):∃ x:jI,cs=(jm lC) x/\ag2 x:=by
 have h:=h.kS underlying34;obtain⟨n0,b0,rfl,w0,h⟩:=h.cs qX;obtain⟨n1,b1,rfl,w1,h⟩:=h.cs qX;obtain⟨n2,b2,rfl,C,h⟩:=h.cs qX;obtain⟨n3,b3,rfl,w3,h⟩:=h.cs qX;obtain⟨n4,b4,rfl,w4,h⟩:=h.cs qX;obtain⟨n5,b5,rfl,w5,h⟩:=h.cs qX;obtain⟨n6,b6,rfl,w6,h⟩:=h.cs qX;obtain⟨n7,b7,rfl,g,h⟩:=h.cs qX;obtain⟨n8,b8,rfl,w8,h⟩:=h.cs qX;obtain⟨n9,b9,rfl,I,h⟩:=h.cs qX;obtain⟨n10,b10,rfl,U,h⟩:=h.cs sT4;obtain⟨n11,b11,rfl,J,h⟩:=h.cs sT4;obtain⟨n12,b12,rfl,T,h⟩:=h.cs ah7;obtain rfl:=h.nH;exact⟨⟨n0,n1,n2,n3,n4,n5,n6,n7,n8,n9,n10,n11,n12⟩,rfl,w0,w1,C,w3,w4,w5,w6,g,w8,I,U,J,T⟩
def aeC (x:oN):Prop:=qW x.id/\qW x.kind/\qW x.source/\qW x.control/\qW x.x/\ok4 x.copy/\Zn x.jM/\aeB x.targets/\ag2 x.event
theorem aic {cs:List PV}(h:Sn Tryz.prog 1048576 147 cs):∃ x:oN,cs=(Dw lC) x/\aeC x:=by
 have h:=h.kS underlying147;obtain⟨n0,b0,rfl,w0,h⟩:=h.cs qX;obtain⟨n1,b1,rfl,I,h⟩:=h.cs qX;obtain⟨n2,b2,rfl,T,h⟩:=h.cs qX;obtain⟨n3,b3,rfl,g,h⟩:=h.cs qX;obtain⟨n4,b4,rfl,w4,h⟩:=h.cs qX;obtain⟨n5,b5,rfl,w5,h⟩:=h.cs sT4;obtain⟨n6,b6,rfl,U,h⟩:=h.cs aeA;obtain⟨n7,b7,rfl,J,h⟩:=h.cs aia;obtain⟨n8,b8,rfl,C,h⟩:=h.cs aib;obtain rfl:=h.nH;exact⟨⟨n0,n1,n2,n3,n4,n5,n6,n7,n8⟩,rfl,w0,I,T,g,w4,w5,U,J,C⟩
def ag3 (l:List oN):Prop:=l.length<=1048576/\∀ x∈l,aeC x
theorem sT26 {cs:List PV}(h:Sn Tryz.prog 1048576 26 cs):∃ x:List oN,cs=[.sl 94 (lC.m oN (Dw lC) x) false]/\ag3 x:=by
 obtain⟨J,e,h1,h2⟩:=h.qC underlying26;have hc:Tryz.prog.cellsOf 147=94:=by kernel_rfl
 rw[hc] at e;obtain⟨l,T,U,I⟩:=wM λr hr=>aic (h1 r hr);exact⟨l,by rw[e,T];rfl,by omega,U⟩
def aeD (x:iP):Prop:=qW x.source/\qW x.control/\Zn x.jM/\ag2 x.event
theorem aid {cs:List PV}(h:Sn Tryz.prog 1048576 151 cs):∃ x:iP,cs=(zq lC) x/\aeD x:=by
 have h:=h.kS underlying151;obtain⟨n0,b0,rfl,w0,h⟩:=h.cs qX;obtain⟨n1,I,rfl,U,h⟩:=h.cs qX;obtain⟨n2,C,rfl,J,h⟩:=h.cs aeA;obtain⟨n3,b3,rfl,T,h⟩:=h.cs aib;obtain rfl:=h.nH;exact⟨⟨n0,n1,n2,n3⟩,rfl,w0,U,J,T⟩
def ag4 (l:List iP):Prop:=l.length<=1048576/\∀ x∈l,aeD x
theorem sT27 {cs:List PV}(h:Sn Tryz.prog 1048576 27 cs):∃ x:List iP,cs=[.sl 89 (lC.m iP (zq lC) x) false]/\ag4 x:=by
 obtain⟨J,e,h1,h2⟩:=h.qC underlying27;have hc:Tryz.prog.cellsOf 151=89:=by kernel_rfl
 rw[hc] at e;obtain⟨l,T,U,I⟩:=wM λr hr=>aid (h1 r hr);exact⟨l,by rw[e,T];rfl,by omega,U⟩
def aeE (x:qc):Prop:=qW x.stamp/\qW x.control/\qW x.source/\qW x.aaf/\XY x.objects/\Zm x.mQ
theorem aie {cs:List PV}(h:Sn Tryz.prog 1048576 155 cs):∃ x:qc,cs=(E5 lC) x/\aeE x:=by
 have h:=h.kS underlying155;obtain⟨n0,b0,rfl,w0,h⟩:=h.cs qX;obtain⟨n1,g,rfl,T,h⟩:=h.cs qX;obtain⟨n2,b2,rfl,U,h⟩:=h.cs qX;obtain⟨n3,b3,rfl,J,h⟩:=h.cs qX;obtain⟨n4,b4,rfl,C,h⟩:=h.cs aaM;obtain⟨n5,b5,rfl,I,h⟩:=h.cs aer;obtain rfl:=h.nH;exact⟨⟨n0,n1,n2,n3,n4,n5⟩,rfl,w0,T,U,J,C,I⟩
def ag5 (l:List qc):Prop:=l.length<=1048576/\∀ x∈l,aeE x
theorem sT28 {cs:List PV}(h:Sn Tryz.prog 1048576 28 cs):∃ x:List qc,cs=[.sl 6 (lC.m qc (E5 lC) x) false]/\ag5 x:=by
 obtain⟨J,e,h1,h2⟩:=h.qC underlying28;have hc:Tryz.prog.cellsOf 155=6:=by kernel_rfl
 rw[hc] at e;obtain⟨l,T,U,I⟩:=wM λr hr=>aie (h1 r hr);exact⟨l,by rw[e,T];rfl,by omega,U⟩
def aif (x:Int):Prop:=(Lit.int .u64 x).wf=true
theorem sT29 {cs:List PV}(h:Sn Tryz.prog 1048576 29 cs):∃ x:Int,cs=(eI .u64) x/\aif x:=by
 obtain⟨n,e,U⟩:=h.WM underlying29;exact⟨n,e,U⟩
def ag6 (x:gW):Prop:=ag0 x.gU/\ag1 x.objects/\XY x.jk/\XY x.qZ/\ag3 x.stack/\ag4 x.waiting/\ag5 x.mf/\qW x.turn/\qW x.qy/\qW x.step/\ok4 x.begun/\qW x.priority/\qW x.passes/\qW x.nextId/\qW x.lF/\aif x.seed/\XY x.extra/\qW x.over/\qW x.rX
theorem sT31 {cs:List PV}(h:Sn Tryz.prog 1048576 31 cs):∃ x:gW,cs=(iQ lC) x/\ag6 x:=by
 have h:=h.kS underlying31;obtain⟨n0,b0,rfl,w0,h⟩:=h.cs sT23;obtain⟨n1,b1,rfl,w1,h⟩:=h.cs sT24;obtain⟨n2,b2,rfl,w2,h⟩:=h.cs aaM;obtain⟨n3,b3,rfl,w3,h⟩:=h.cs aaM;obtain⟨n4,b4,rfl,w4,h⟩:=h.cs sT26;obtain⟨n5,b5,rfl,w5,h⟩:=h.cs sT27;obtain⟨n6,b6,rfl,w6,h⟩:=h.cs sT28;obtain⟨n7,b7,rfl,w7,h⟩:=h.cs qX;obtain⟨n8,b8,rfl,w8,h⟩:=h.cs qX;obtain⟨n9,b9,rfl,w9,h⟩:=h.cs qX;obtain⟨n10,b10,rfl,T,h⟩:=h.cs sT4;obtain⟨n11,b11,rfl,I,h⟩:=h.cs qX;obtain⟨n12,b12,rfl,J,h⟩:=h.cs qX;obtain⟨n13,b13,rfl,w13,h⟩:=h.cs qX;obtain⟨n14,b14,rfl,C,h⟩:=h.cs qX;obtain⟨n15,b15,rfl,g,h⟩:=h.cs sT29;obtain⟨n16,b16,rfl,w16,h⟩:=h.cs aaM;obtain⟨n17,b17,rfl,U,h⟩:=h.cs qX;obtain⟨n18,b18,rfl,w18,h⟩:=h.cs qX;obtain rfl:=h.nH;exact⟨⟨n0,n1,n2,n3,n4,n5,n6,n7,n8,n9,n10,n11,n12,n13,n14,n15,n16,n17,n18⟩,rfl,w0,w1,w2,w3,w4,w5,w6,w7,w8,w9,T,I,J,w13,C,g,w16,U,w18⟩
theorem z9 {x:ByteArray}(h:ok9 x):Hr x:=h
theorem z86 {x:List ByteArray}(h:agT x):(rM Hr) x:=⟨h.1,λy hy=>z9 (h.2 y hy)⟩
theorem z88 {x:zt}(h:agU x):zM x:=z86 (h.2.2)
theorem Zo {x:kD}(h:MM x):mF x:=z9 (h.2.2.2.2.2.2.2.1)
theorem z215 {x:nC}(h:aeq x):wS x:=⟨z9 (h.2.2.2.1),Zo (h.2.2.2.2)⟩
theorem ag7 {x:List nC}(h:Zm x):(rM wS) x:=⟨h.1,λy hy=>z215 (h.2 y hy)⟩
theorem z110 {x:xh}(h:aes x):FN x:=Zo (h.2.2)
theorem z284 {x:rW}(h:aet x):GI x:=Zo (h.2.2)
theorem z111 {x:List rW}(h:aeu x):(rM GI) x:=⟨h.1,λy hy=>z284 (h.2 y hy)⟩
theorem z263 {x:Ug}(h:aev x):Xv x:=Zo (h.2.2)
theorem z265 {x:xO}(h:aew x):LK x:=Zo (h.2.2.2)
theorem z267 {x:jh}(h:aex x):qo x:=⟨z263 (h.2.1),z265 (h.2.2.1),z9 (h.2.2.2.2.2.1),Zo (h.2.2.2.2.2.2.1),ag7 (h.2.2.2.2.2.2.2.2)⟩
theorem z112 {x:List jh}(h:aey x):(rM qo) x:=⟨h.1,λy hy=>z267 (h.2 y hy)⟩
theorem z105 {x:oQ}(h:aez x):yU x:=Zo (h.2.2.1)
theorem ag8 {x:iG}(h:Zn x):lL x:=⟨Zo (h.2.1),ag7 (h.2.2.1),z110 (h.2.2.2.2.2.1),z111 (h.2.2.2.2.2.2.2.1),z112 (h.2.2.2.2.2.2.2.2.1),z105 (h.2.2.2.2.2.2.2.2.2)⟩
theorem z89 {x:List iG}(h:agW x):(rM lL) x:=⟨h.1,λy hy=>ag8 (h.2 y hy)⟩
theorem z98 {x:jc}(h:agX x):mG x:=⟨z9 (h.1),z88 (h.2.2.2.2.1),z89 (h.2.2.2.2.2.2.2.2)⟩
theorem z22 {x:List jc}(h:agY x):(rM mG) x:=⟨h.1,λy hy=>z98 (h.2 y hy)⟩
theorem z25 {x:List Int}(h:XY x):(rM (λ(_:Int)=>True)) x:=⟨h.1,λy hy=>trivial⟩
theorem z56 {x:jO}(h:agZ x):zF x:=⟨z25 (h.2.2.2.2.2.2.1),z25 (h.2.2.2.2.2.2.2.1),z25 (h.2.2.2.2.2.2.2.2)⟩
theorem z23 {x:List jO}(h:ag0 x):(rM zF) x:=⟨h.1,λy hy=>z56 (h.2 y hy)⟩
theorem z24 {x:List iy}(h:ag1 x):(rM (λ(_:iy)=>True)) x:=⟨h.1,λy hy=>trivial⟩
theorem z145 {x:List ru}(h:aeB x):(rM (λ(_:ru)=>True)) x:=⟨h.1,λy hy=>trivial⟩
theorem z147 {x:oN}(h:aeC x):LM x:=⟨ag8 (h.2.2.2.2.2.2.1),z145 (h.2.2.2.2.2.2.2.1)⟩
theorem z26 {x:List oN}(h:ag3 x):(rM LM) x:=⟨h.1,λy hy=>z147 (h.2 y hy)⟩
theorem z151 {x:iP}(h:aeD x):qV x:=ag8 (h.2.2.1)
theorem z27 {x:List iP}(h:ag4 x):(rM qV) x:=⟨h.1,λy hy=>z151 (h.2 y hy)⟩
theorem z155 {x:qc}(h:aeE x):Sv x:=⟨z25 (h.2.2.2.2.1),ag7 (h.2.2.2.2.2)⟩
theorem z28 {x:List qc}(h:ag5 x):(rM Sv) x:=⟨h.1,λy hy=>z155 (h.2 y hy)⟩
theorem z31 {x:gW}(h:ag6 x):kZ x:=⟨z23 (h.1),z24 (h.2.1),z25 (h.2.2.1),z25 (h.2.2.2.1),z26 (h.2.2.2.2.1),z27 (h.2.2.2.2.2.1),z28 (h.2.2.2.2.2.2.1),z25 (h.2.2.2.2.2.2.2.2.2.2.2.2.2.2.2.2.1)⟩
theorem sV3 {p:PV}(h:SnV Tryz.prog 1048576 3 p):∃ x:Int,p=.si .i64 x/\qW x:=by
 obtain⟨x,e,hx⟩:=qX (h.inv_one aV);cases e;exact⟨x,rfl,hx⟩
theorem sV22 {p:PV}(h:SnV Tryz.prog 1048576 22 p):∃ x:List jc,p=.sl 17 (lC.m jc (yY lC) x) false/\agY x:=by
 obtain⟨x,e,hx⟩:=sT22 (h.inv_one aV);cases e;exact⟨x,rfl,hx⟩
theorem sV31 {p:PV}(h:SnV Tryz.prog 1048576 31 p):∃ x:gW,p=.agg ((iQ lC) x)/\ag6 x:=by
 obtain⟨cs,rfl,h2⟩:=h.aa9 aV;obtain⟨x,rfl,hx⟩:=sT31 h2;exact⟨x,rfl,hx⟩
end Go.Proofs.YtchmoabpofnbaaaGreat
