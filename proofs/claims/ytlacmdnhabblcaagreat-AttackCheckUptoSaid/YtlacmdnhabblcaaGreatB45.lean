import Derived.Test.YtlacmdnhabblcaaGreatB32
import Derived.Test.YtlacmdnhabblcaaGreatB42
set_option linter.all false
namespace Go.Proofs.YtlacmdnhabblcaaGreat
open Go Go.Pv
set_option maxRecDepth 100000
theorem deq {p:Prop}[Decidable p](h:(decide p==false)=false):p:=by simpa using h
theorem ltT {α:Type}{l:List α}{i:Nat}(h:i<l.length):decide ((i:Int)<iV l)=true:=by simp[iV];omega
theorem ltF {α:Type}{l:List α}:decide ((l.length:Int)<iV l)=false:=by simp[iV]
theorem Yx (n a b:Int):vT n a b=some (decide (a<=n/\n<=b)):=by
 unfold vT;exact ok_eq (iJ (λh=>iK bu) λh=>iK bu)
theorem LZ (s:iT)(p:Int)(hs:kQ s):pF s p=some (decide (0<=p/\p<(s.ji.length:Int))):=by
 have h1:=hs.1.1;unfold pF;refine ok_eq (iU (Yx _ _ _) (iK ?_));have:jS (iV s.ji) 1=(s.ji.length:Int)-1:=by unfold iV;exact qW ai ai
 rw[this];exact decide_eq_decide.2 ai
theorem apr (cards:List jI)(s:iT)(I:rO mY cards)(hs:kQ s):Ok (λr=>r=true->anb s) (uN cards s):=by
 have no:∀ {p:Prop},((false:Bool)=true->p):=λe=>by cases e
 have yes:∀ {p:Prop},((true:Bool)=false->p):=λe=>by cases e
 have hlen:=hs.1.1;unfold uN;refine jf (λx=>x=false->(0<=s.step/\s.step<=10)/\(0<=s.turn/\s.turn<=500)) ?_ ?_
 intro k h;refine iU (Yx _ _ _) (iR (λ_=>h _ yes) λ_=>iU (Yx _ _ _) (iR (λ_=>h _ yes) λ_=>iU (Yx _ _ _) (iR (λ_=>h _ yes) λe1=>iU (Yx _ _ _) (iR (λ_=>h _ yes) λU=>h _ λ_=>⟨deq U,deq e1⟩))))
 intro x hx;refine iR (λ_=>iK no) λe=>jf (λy=>y=false->(0<=s.nD/\s.nD<(s.ji.length:Int))/\(0<=s.over/\s.over<=2)) ?_ ?_
 intro k h;refine iO (FT s hs) λ_ _=>iR (λ_=>h _ yes) λ_=>iU (LZ s _ hs) (iR (λ_=>h _ yes) λe1=>iU (LZ s _ hs) (iR (λ_=>h _ yes) λ_=>iU (Yx _ _ _) (iR (λ_=>h _ yes) λ_=>iJ (λ_=>h _ yes) λ_=>iU (Yx _ _ _) (h _ λU=>⟨deq e1,deq U⟩))))
 intro y hy;refine iR (λ_=>iK no) λU=>?_;have J:=hs.2.2.2.2.2.2.2.1;refine lH 0 s.extra.length (λn=>∀ z∈s.extra.take n,0<=z/\z<(s.ji.length:Int)) 0 rfl (Nat.zero_le _) ai aI ?_ ?_
 intro i k hi hI hk;unfold DN;refine iJ (λ_=>jl i rfl hi (iU (LZ s _ hs) (iR (λ_=>iK no) λR=>hk λz T=>?_))) λh=>absurd (show (i:Int)<(s.extra.length:Int) by omega) h;rw[List.take_succ,List.getElem?_eq_getElem hi] at T;rcases List.mem_append.1 T with T|T
 exact hI z T
 have:z=s.extra[i]:=by simpa using T
 rw[this];exact deq R
 intro k hI;rw[List.take_of_length_le (Nat.le_refl _)] at hI;unfold DN;refine iJ (λh=>absurd h fA) λ_=>jf (λ_=>True) ?_ ?_
 intro k h;exact iJ (λ_=>iU (LZ s _ hs) (iR (λ_=>h _ trivial) λ_=>lI (λ_=>h _ trivial) λ_=>h _ trivial)) λ_=>lI (λ_=>h _ trivial) λ_=>h _ trivial
 intro z _;refine iR (λ_=>iK no) λ_=>iO (Oa cards s I hs) λ_ _=>iR (λ_=>iO (J4 s hs) λ_ _=>iK λ_=>?_) λ_=>iK no;exact⟨(hy U).1,hI,(hx e).1,(hx e).2,(hy U).2⟩
def CQ (l:List kD)(n:Nat):Bool:=match l[n]? with|some p=>p.lost|none=>true
theorem ac9 {l:List kD}{i:Nat}(h:i<l.length):CQ l i=l[i].lost:=by simp[CQ,h]
def L6 (f:Nat->Bool):Nat->List Int
 | 0=>[]
 | n+1=>L6 f n++(if f n=true then [] else [(n:Int)])
theorem P5 (f:Nat->Bool):∀ n,(L6 f n).length<=n
 | 0=>by simp[L6]
 | n+1=>by have:=P5 f n;simp only[L6,List.length_append];split<;>simp<;>omega
theorem aac (s:iT)(hs:kQ s):CG s=some (L6 (CQ s.ji) s.ji.length):=by
 have T:=hs.1.1;unfold CG;refine ok_eq (lK 0 s.ji.length (λn t=>t=L6 (CQ s.ji) n) 0 rfl (Nat.zero_le _) ai rfl ?_ ?_)
 rintro i t k hi rfl hk
 have R:=P5 (CQ s.ji) i;unfold zQ;refine iJ (λ_=>jf (λu=>u=L6 (CQ s.ji) (i+1)) ?_ λu hu=>hk u hu) λh=>absurd (show (i:Int)<(s.ji.length:Int) by omega) h;intro k5 U;refine jl i rfl hi (iR (λh=>jG aA aA (U _ ?_)) λh=>U _ ?_)
 have:s.ji[i].lost=false:=by simpa using h
 simp[L6,ac9 hi,this]
 have:s.ji[i].lost=true:=by simpa using h
 simp[L6,ac9 hi,this]
 rintro t k rfl
 unfold zQ;exact lQ ltF (iK rfl)
theorem aeC (s:iT)(hs:kQ s):NP s=some (L6 (CQ s.ji) s.ji.length):=aac s hs
def Zb (L:List Int)(p:Int):List Int:=L.filter (λx=>decide (p<x))++L.filter (λx=>decide (x<p))
theorem anB (x y:Int):cmp_Compare_int x y=some (if x<y then -1 else if y<x then 1 else 0):=by
 unfold cmp_Compare_int cmp_isNaN_int;refine ok_eq (iU rfl (iU rfl (lQ aI (lQ aI (iJ (λh=>iK (by rw[if_pos h])) λh=>iJ (λh2=>iK (by rw[if_neg h,if_pos h2])) λh2=>iK (by rw[if_neg h,if_neg h2]))))))
theorem Gv (L:List Int)(f:Int->Bool)(i:Nat)(h:i<L.length):(L.take (i+1)).filter f=(L.take i).filter f++(if f L[i]=true then [L[i]] else []):=by
 rw[uV L i h,List.filter_append];congr 1
 by_cases h:f L[i]=true<;>simp[h]
theorem aad (s:iT)(p:Int)(hs:kQ s)(J:0<=p/\p<(s.ji.length:Int)):yU s p=some (Zb (L6 (CQ s.ji) s.ji.length) p):=by
 have I:=hs.1.1;have C:=P5 (CQ s.ji) s.ji.length;unfold yU;refine ok_eq (jf (λx=>x=p) ?_ ?_)
 intro k2 h2;refine jf (λb=>b=false) ?_ ?_
 intro k5 R;exact iJ (λh=>absurd h ai) λ_=>R _ (decide_eq_false (by unfold iV;omega))
 rintro b rfl
 exact lQ rfl (h2 _ rfl)
 intro x hx;have T : x=p:=hx;subst T;refine iU (aac s hs) ?_;generalize L6 (CQ s.ji) s.ji.length=L at *;refine lK 0 L.length (λn t=>t.1=(L.take n).filter (λy=>decide (y<x))/\t.2=(L.take n).filter (λy=>decide (x<y))) 0 rfl (Nat.zero_le _) ai ⟨by simp,by simp⟩ ?_ ?_
 rintro i ⟨a,b⟩ k hi ⟨rfl,rfl⟩ hk
 have h1:((L.take i).filter (λy=>decide (y<x))).length<=L.length:=Nat.le_trans (List.length_filter_le _ _) aT;have h2:((L.take i).filter (λy=>decide (x<y))).length<=L.length:=Nat.le_trans (List.length_filter_le _ _) aT;unfold zS;refine oK (ltT hi) (jf (λu=>u.1=(L.take (i+1)).filter (λy=>decide (y<x))/\u.2=(L.take (i+1)).filter (λy=>decide (x<y))) ?_ λu hu=>hk (u.1,u.2) hu);intro k12 U;refine jl i rfl hi (iU (anB _ _) ?_);rw[Gv _ _ _ hi,Gv _ _ _ hi] at U;rcases Int.lt_trichotomy L[i] x with h|h|h
 refine iJ (λ_=>jG aA aA (U _ ⟨by simp[h],by simp;omega⟩)) λe=>absurd (by rw[if_pos h]) e
 refine iJ (λe=>absurd e (by rw[if_neg ai,if_neg ai];decide)) λ_=>iJ (λe=>absurd e (by rw[if_neg ai,if_neg ai];decide)) λ_=>U _ ⟨by simp;omega,by simp;omega⟩
 refine iJ (λe=>absurd e (by rw[if_neg ai,if_pos h];decide)) λ_=>iJ (λ_=>jG aA aA (U _ ⟨by simp;omega,by simp[h]⟩)) λe=>absurd (by rw[if_neg ai,if_pos h]) e
 rintro⟨a,b⟩ k ⟨rfl,rfl⟩
 have h1:((L.take L.length).filter (λy=>decide (y<x))).length<=L.length:=Nat.le_trans (List.length_filter_le _ _) aI;have h2:((L.take L.length).filter (λy=>decide (x<y))).length<=L.length:=Nat.le_trans (List.length_filter_le _ _) aI;unfold zS;exact lQ ltF (jG aF aF (iK (by simp only[takeA,Zb])))
theorem Yy (s:iT)(p:Int)(hs:kQ s)(J:0<=p/\p<(s.ji.length:Int)):Ea s p=some (Zb (L6 (CQ s.ji) s.ji.length) p):=by
 have C:=hs.1.1;have g:=P5 (CQ s.ji) s.ji.length;have T:pF s p=some true:=by rw[LZ s p hs];simp[J]
 unfold Ea;refine ok_eq (iU (aeC s hs) ?_);generalize L6 (CQ s.ji) s.ji.length=L at *;refine lK 0 L.length (λn t=>t=(L.take n).filter (λy=>decide (p<y))) 0 rfl (Nat.zero_le _) ai aI ?_ ?_
 rintro i t k hi rfl hk
 have h2:((L.take i).filter (λy=>decide (p<y))).length<=L.length:=Nat.le_trans (List.length_filter_le _ _) aT;unfold EI;refine oK (ltT hi) (jf (λu=>u=(L.take (i+1)).filter (λy=>decide (p<y))) ?_ λu hu=>hk u hu);intro k6 U;rw[Gv _ _ _ hi] at U;refine jf (λb=>b=decide (p<L[i])) ?_ ?_
 intro I R;exact iU T (oK rfl (jl i rfl hi (R _ rfl)))
 rintro b rfl
 refine iJ (λh=>jl i rfl hi (jG aA aA (U _ bu))) λh=>U _ bu
 rintro t k rfl
 unfold EI;refine lQ ltF ?_;simp only[takeA];refine lK 0 L.length (λn t=>t=L.filter (λy=>decide (p<y))++(L.take n).filter (λy=>decide (y<p))) 0 rfl (Nat.zero_le _) ai aI ?_ ?_
 rintro i t k hi rfl hk
 have h1:(L.filter (λy=>decide (p<y))).length<=L.length:=List.length_filter_le _ _;have h2:((L.take i).filter (λy=>decide (y<p))).length<=L.length:=Nat.le_trans (List.length_filter_le _ _) aT;unfold EH;refine oK (ltT hi) (jf (λu=>u=L.filter (λy=>decide (p<y))++(L.take (i+1)).filter (λy=>decide (y<p))) ?_ λu hu=>hk u hu);intro k6 U;rw[Gv _ _ _ hi] at U;refine jf (λb=>b=decide (L[i]<p)) ?_ ?_
 intro I R;exact iU T (lQ aI (jl i rfl hi (R _ rfl)))
 rintro b rfl
 refine iJ (λh=>jl i rfl hi (jG dM dM (U _ bu))) λh=>U _ bu
 rintro t k rfl
 unfold EH;exact lQ ltF (iK (by simp only[takeA,Zb]))
theorem Yz (cards:List jI)(s:iT)(U:rO mY cards)(hs:kQ s):Ok (λb=>b=true->aiV cards s) (AO cards s):=by
 have R:=hs.1.1;unfold AO;refine jf (λb=>b=false->s.ji.length<=4/\s.objects.length<=60) (λk hk=>?_) λb hb=>?_
 have no:∀ {p:Prop},((true:Bool)=false->p):=λe=>by cases e
 refine iJ (λ_=>hk _ no) λ_=>iJ (λ_=>hk _ no) λh1=>iJ (λ_=>hk _ no) λh2=>iJ (λ_=>hk _ no) λ_=>iJ (λ_=>hk _ no) λ_=>iJ (λ_=>hk _ no) λ_=>iJ (λ_=>hk _ no) λ_=>iJ (λ_=>hk _ no) λ_=>hk _ λ_=>?_;simp only[iV] at h1 h2;omega
 refine iR (λ_=>iK λh=>by cases h) λh=>?_;obtain⟨g1,g2⟩:=hb h;refine lH 0 s.ji.length (λ_=>True) 0 rfl (Nat.zero_le _) ai trivial (λi k hi _ hk=>?_) λk _=>?_
 unfold CE;exact iJ (λ_=>jl i rfl hi (jl i rfl hi (jl i rfl hi (uf (iJ (λ_=>iK λh=>by cases h) λ_=>hk trivial))))) λh=>absurd (show (i:Int)<(s.ji.length:Int) by omega) h
 unfold CE;refine iJ (λh=>absurd h dm) λ_=>iO (Vg cards U) λy1 h1=>iJ (λh=>?_) λ_=>iK λh=>by cases h
 obtain⟨J,e,h2⟩:=apr cards s U hs;refine iU e (iK λT=>?_);rw[T] at e;exact⟨h1 h,g2,g1,(h2 T).act,abo cards s U hs e⟩
def kB (k key:Int):Bool:=decide (kz .and .i64 k key=key)
theorem afK (k key:Int):kZ k key=some (kB k key):=rfl
theorem aps (k key:Int):yR k key=some (kB k key):=rfl
def RQ (s:iT)(o:iW)(t:iM):Bool :=
 bif !decide (o.jQ=0) || (decide (kz .and .i64 t.line.types 1=0) || (!decide (t.control=s.nD) || o.nC)) then false
 else bif o.Df&&!kB t.keys 4 then false else !kB t.keys 1024&&!kB t.keys 16384
theorem Zc (s:iT)(o:iW)(t:iM):IC s o t=some (RQ s o t):=by
 unfold IC RQ;refine ok_eq (jf (λb=>b=(!decide (o.jQ=0) || (decide (kz .and .i64 t.line.types 1=0) || (!decide (t.control=s.nD) || o.nC)))) (λk hk=>?_) λb hb=>?_)
 refine lI (λh=>hk _ bu) λh=>iJ (λh2=>hk _ (by simp[h2])) λh2=>lI (λU=>hk _ (by simp[U])) λU=>hk _ (by simp[h,h2,U])
 subst hb;refine iR (λh=>iK dH) λh=>?_;rw[h];refine jf (λb=>b=(o.Df&&!kB t.keys 4)) (λk hk=>iR (λh=>iU (afK _ _) (hk _ (by rw[h];cases kB t.keys 4<;>rfl))) λh=>hk _ dH) λb hb=>?_;subst hb;refine iR (λh=>iK dH) λh=>?_;rw[h];refine iU (afK _ _) (iR (λh=>iU (afK _ _) (iK ?_)) λh=>iK ?_)
 cases h1:kB t.keys 1024 with
 | true=>rw[h1] at h;cases h
 | false=>show _=(!false&&!kB t.keys 16384);cases kB t.keys 16384<;>rfl
 cases h1:kB t.keys 1024 with
 | true=>rfl
 | false=>rw[h1] at h;cases h
theorem NQ (T:List iM)(i:Nat)(key:Int)(hi:i<T.length):zT T (i:Int) key=some (kB T[i].keys key):=by
 unfold zT;exact ok_eq (iJ (λ_=>jl i rfl hi (iU (aps _ _) (iK rfl))) λh=>absurd (show (i:Int)<(T.length:Int) by omega) h)
theorem aeD (s:iT)(T:List iM)(i:Nat)(hi:i<s.objects.length)(R:i<T.length):Uk s T (i:Int)=some (RQ s s.objects[i] T[i]):=by
 unfold Uk RQ;refine ok_eq (jl i rfl hi (jf (λb=>b=(!decide (s.objects[i].jQ=0) || (decide (kz .and .i64 T[i].line.types 1=0) || (!decide (T[i].control=s.nD) || s.objects[i].nC)))) (λk hk=>?_) λb hb=>?_))
 refine iJ (λh=>absurd h (by show ¬ (T.length:Int)<=(i:Int);omega)) λ_=>jl i rfl R (iJ (λh=>hk _ bu) λh=>lI (λh2=>hk _ (by simp[h2])) λh2=>jl i rfl R (lI (λU=>hk _ (by simp[U])) λU=>hk _ (by simp[h,h2,U])))
 subst hb;refine iR (λh=>iK dH) λh=>?_;rw[h]
 have fin:Ok (λr=>r=(!kB T[i].keys 1024&&!kB T[i].keys 16384)) (bnd (zT T (i:Int) 1024) λJ=>br (J==false) (bnd (zT T (i:Int) 16384) λI=>some (I==false)) (some false)):=by
  refine iU (NQ T i _ R) (iR (λh=>iU (NQ T i _ R) (iK ?_)) λh=>iK ?_)
  cases h1:kB T[i].keys 1024 with
  | true=>rw[h1] at h;cases h
  | false=>cases kB T[i].keys 16384<;>rfl
  cases h1:kB T[i].keys 1024 with
  | true=>rfl
  | false=>rw[h1] at h;cases h
 refine iR (λh=>?_) λh=>iU (NQ T i _ R) (iR (λh2=>?_) λh2=>iK ?_)
 have:s.objects[i].Df=false:=by cases hh:s.objects[i].Df with|true=>rw[hh] at h;cases h|false=>rfl
 rw[this];exact fin
 rw[h2];have:(s.objects[i].Df&&!true)=false:=by cases s.objects[i].Df<;>rfl
 rw[this];exact fin
 have U:s.objects[i].Df=true:=by cases hh:s.objects[i].Df with|true=>rfl|false=>rw[hh] at h;cases h
 rw[h2,U];rfl
def Vl (o:iW)(y:List Int):List iL:=y.map λp=>iL.mk 7 o.id p
theorem aae (o:iW)(y:List Int)(n:Nat)(U:n<y.length):Vl o (y.take (n+1))=Vl o (y.take n)++[iL.mk 7 o.id y[n]]:=by
 unfold Vl;rw[uV y n U,List.map_append];rfl
noncomputable def FX (s:iT)(T:List iM)(y:List Int):Nat->List iL
 | 0=>[]
 | n+1=>FX s T y n++(if h:n<s.objects.length then (if RQ s s.objects[n] (trA T n) then Vl s.objects[n] y else []) else [])
theorem NR (s:iT)(T:List iM)(y:List Int){n:Nat}(U:n<s.objects.length):FX s T y (n+1)=FX s T y n++(if RQ s s.objects[n] (trA T n) then Vl s.objects[n] y else []):=by
 show _++(dite _ _ _)=_;rw[dif_pos U]
theorem L8 (s:iT)(T:List iM)(y:List Int)(hy:y.length<=4):∀ n,(FX s T y n).length<=4*n
 | 0=>by simp[FX]
 | n+1=>by
  have:=L8 s T y hy n;unfold FX;rw[List.length_append]
  split
  split
  simp only[Vl,List.length_map];omega
  simp;omega
  simp;omega
theorem Vm {T:List iM}{i:Nat}(h:i<T.length):trA T i=T[i]:=by unfold trA;rw[dif_pos h]
theorem P6 (s:iT)(T:List iM)(y:List Int)(hT:T.length=s.objects.length)(ho:s.objects.length<=60)(hy:y.length<=4)(e:yU s s.nD=some y):uD s T=some (FX s T y s.objects.length):=by
 unfold uD;refine ok_eq (iU e ?_);refine lK 0 s.objects.length (λn t=>t=FX s T y n) 0 rfl (Nat.zero_le _) ai rfl (λi t k hi hI hk=>?_) λt k hI=>?_
 have hlen:=L8 s T y hy i;have U:i<T.length:=by omega
 unfold CO;refine iJ (λ_=>jf (λu=>u=FX s T y (i+1)) (λk6 C=>?_) λu hu=>hk u hu) λh=>absurd (show (i:Int)<(s.objects.length:Int) by omega) h;refine jl i rfl hi (jf (λb=>b=!RQ s s.objects[i] T[i]) (λk10 J=>?_) λb hb=>?_)
 refine iJ (λh=>absurd h (by show ¬ (T.length:Int)<=(i:Int);omega)) λ_=>jl i rfl U (iU (Zc _ _ _) (J _ (by cases RQ s s.objects[i] T[i]<;>rfl)))
 subst hb;refine iR (λh=>C _ ?_) λh=>?_
 have:RQ s s.objects[i] T[i]=false:=by cases hh:RQ s s.objects[i] T[i] with|true=>rw[hh] at h;cases h|false=>rfl
 rw[NR s T y hi,Vm U,this];simp[hI]
 have hc:RQ s s.objects[i] T[i]=true:=by cases hh:RQ s s.objects[i] T[i] with|true=>rfl|false=>rw[hh] at h;cases h
 refine lK 0 y.length (λn u=>u=t++Vl s.objects[i] (y.take n)) 0 rfl (Nat.zero_le _) ai (by simp[Vl]) (λn u k15 I hu R=>?_) λu k15 hu=>?_
 have g:u.length<=1000:=by rw[hu,hI];simp only[List.length_append,Vl,List.length_map,List.length_take];omega
 unfold CJ;refine iJ (λ_=>jl n rfl I (uf (jG dU dQ (R _ ?_)))) λh=>absurd (show (n:Int)<(y.length:Int) by omega) h;show u++[_]=_;rw[hu,aae _ y n I,List.append_assoc]
 unfold CJ;refine iJ (λh=>absurd h (by show ¬ (y.length:Int)<(y.length:Int);omega)) λ_=>C _ ?_;show u=_;rw[takeA] at hu;rw[hu,NR s T y hi,Vm U,hc,hI];simp
 unfold CO;exact iJ (λh=>absurd h az) λ_=>iK hI
theorem VU (s:iT)(T:List iM)(y:List Int)(hT:T.length=s.objects.length)(ho:s.objects.length<=60)(hy:y.length<=4)(e:Ea s s.nD=some y):CP s T=some (FX s T y s.objects.length):=by
 unfold CP;refine ok_eq (iU e ?_);refine lK 0 s.objects.length (λn t=>t=FX s T y n) 0 rfl (Nat.zero_le _) ai rfl (λi t k hi hI hk=>?_) λt k hI=>?_
 have hlen:=L8 s T y hy i;have U:i<T.length:=by omega
 unfold JA;refine iJ (λ_=>?_) λh=>absurd (show (i:Int)<(s.objects.length:Int) by omega) h;refine lK 0 y.length (λn u=>u=t++(if RQ s s.objects[i] T[i] then Vl s.objects[i] (y.take n) else [])/\(0<n->RQ s s.objects[i] T[i]=true)) 0 rfl (Nat.zero_le _) ai ⟨by simp[Vl],λh=>by omega⟩ (λn u k6 I hu R=>?_) λu k6 hu=>?_
 have g:u.length<=1000:=by
  rw[hu.1,hI];split
  simp only[List.length_append,Vl,List.length_map,List.length_take];omega
  simp;omega
 unfold Jz;refine jf (λb=>b=RQ s s.objects[i] T[i]) (λC J=>iJ (λ_=>iU (aeD s T i hi U) (J _ rfl)) λh=>absurd (show (n:Int)<(y.length:Int) by omega) h) λb hb=>?_;subst hb;refine iR (λh=>jl i rfl hi (jl n rfl I (uf (jG dU dQ (R _ ⟨?_,λ_=>h⟩))))) λh=>hk _ ?_
 show u++[_]=_;rw[hu.1,if_pos h,if_pos h,aae _ y n I,List.append_assoc]
 show u=_;rw[hu.1,h,NR s T y hi,Vm U,h,hI];simp
 unfold Jz;refine jf (λb=>b=false) (λC J=>iJ (λh=>absurd h (by show ¬ (y.length:Int)<(y.length:Int);omega)) λ_=>J _ rfl) λb hb=>?_;subst hb;refine iR (λh=>by cases h) λ_=>hk _ ?_;show u=_;rw[hu.1,takeA,NR s T y hi,Vm U,hI]
 unfold JA;exact iJ (λh=>absurd h az) λ_=>iK hI
theorem afL (f:Nat->Bool)(n:Nat)(p:Int):(Zb (L6 f n) p).length<=n:=by
 have h1:=P5 f n;unfold Zb;rw[List.length_append]
 have:∀ L:List Int,(L.filter λx=>decide (p<x)).length+(L.filter λx=>decide (x<p)).length<=L.length:=by
  intro L
  induction L with
  | nil=>simp
  | cons x L ih =>
   by_cases h1:p<x
   have h2:¬ x<p:=by omega
   simp[h1,h2];omega
   by_cases h2:x<p
   simp[h1,h2];omega
   simp[h1,h2];omega
 have:=this (L6 f n);omega
end Go.Proofs.YtlacmdnhabblcaaGreat
