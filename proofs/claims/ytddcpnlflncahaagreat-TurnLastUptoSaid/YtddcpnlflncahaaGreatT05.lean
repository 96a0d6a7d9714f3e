import Derived.JoinedCond
import Derived.Test.YtddcpnlflncahaaGreatT04
set_option linter.all false
namespace Go.Pv
open Go
section
variable {α β σ τ ρ:Type}
def Ok (Q:ρ→Prop) (o:Option ρ):Prop:=∃ r,o=some r∧Q r
theorem ok_some {Q:ρ→Prop} {x:ρ} (h:Q x):Ok Q (some x):=⟨x,rfl,h⟩
theorem ok_eq {c:ρ} {o:Option ρ} (h:Ok (fun r=>r=c) o):o=some c:=by obtain ⟨r,e,q⟩:=h; subst q; exact e
theorem ok_br {Q:ρ→Prop} {c:Bool} {a b:Option ρ} (h1:c=true→Ok Q a) (h2:c=false→Ok Q b):Ok Q (br c a b):=by
 cases c with
 | true=>exact h1 rfl
 | false=>exact h2 rfl
theorem ok_brd {Q:ρ→Prop} {p:Prop} [Decidable p] {a b:Option ρ} (h1:p→Ok Q a) (h2:¬p→Ok Q b):Ok Q (br (decide p) a b) :=
 ok_br (fun h=>h1 (of_decide_eq_true h)) (fun h=>h2 (of_decide_eq_false h))
theorem ok_brn {Q:ρ→Prop} {p:Prop} [Decidable p] {a b:Option ρ} (h1:¬p→Ok Q a) (h2:p→Ok Q b):Ok Q (br (!decide p) a b) :=
 ok_br (fun h=>h1 (by simpa using h)) (fun h=>h2 (by simpa using h))
theorem ok_bnd {Q:ρ→Prop} {R:α→Prop} {o:Option α} {k:α→Option ρ} (h:Ok R o) (hk:∀ x,R x→Ok Q (k x)):Ok Q (bnd o k):=by
 obtain ⟨x,e,q⟩:=h
 rw [e]; exact hk x q
theorem ok_bnde {Q:ρ→Prop} {o:Option α} {x:α} {k:α→Option ρ} (h:o=some x) (hk:Ok Q (k x)):Ok Q (bnd o k):=by
 rw [h]; exact hk
theorem ok_lt {Q:ρ→Prop} {x:α} {k:α→Option ρ} (hk:Ok Q (k x)):Ok Q (lt x k):=hk
theorem ok_jn {Q:ρ→Prop} (J:σ→Prop) {rest:σ→Option ρ} {body:(σ→Option ρ)→Option ρ} (h1:∀ k,(∀ s,J s→Ok Q (k s))→Ok Q (body k)) (h2:∀ s,J s→Ok Q (rest s)):Ok Q (jn rest body):=h1 rest h2
theorem ok_room {Q:ρ→Prop} {n b:Nat} {k:Option ρ} (h1:(2 * n+192) * b≤140737488355328) (h2:n≤4611686018427387904) (hk:Ok Q k):Ok Q (roomO n b k):=by
 unfold roomO
 rw [Nat.ble_eq_true_of_le h1,Nat.ble_eq_true_of_le h2]; exact hk
theorem ixL_nat (l:List α) (n:Nat):ixL l (n:Int)=l[n]?:=rfl
theorem ok_ixL {Q:ρ→Prop} {l:List α} {i:Int} {k:α→Option ρ} (n:Nat) (hi:i=(n:Int)) (hn:n<l.length) (hk:Ok Q (k (l[n]))):Ok Q (bnd (ixL l i) k):=by
 subst hi
 rw [ixL_nat,List.getElem?_eq_getElem hn]; exact hk
theorem ok_ixO {Q:ρ→Prop} {m:Nat} {i:Int} {k:Nat→Option ρ} (n:Nat) (hi:i=(n:Int)) (hn:n<m) (hk:Ok Q (k n)):Ok Q (bnd (ixO m i) k):=by
 subst hi
 show Ok Q (bnd (bif Nat.blt n m then some n else none) k)
 have:Nat.blt n m=true:=by rw [Nat.blt_eq]; exact hn
 rw [this]; exact hk
theorem ok_get {Q:ρ→Prop} {l:List α} {n:Nat} {k:α→Option ρ} (hn:n<l.length) (hk:Ok Q (k (l[n]))):Ok Q (bnd (l[n]?) k):=by
 rw [List.getElem?_eq_getElem hn]; exact hk
theorem ok_slc {Q:ρ→Prop} {a b:Int} {n i j:Nat} {k:Nat × Nat→Option ρ} (ha:a=(i:Int)) (hb:b=(j:Int)) (hij:i≤j) (hj:j≤n) (hk:Ok Q (k (i,j))):Ok Q (bnd (slcO n a b) k):=by
 subst ha hb
 have:slcO n (i:Int) (j:Int)=some (i,j):=by
  unfold slcO
  rw [decide_eq_true (show 0≤(i:Int)∧(i:Int)≤(j:Int)∧(j:Int)≤(n:Int) from ⟨by omega,by omega,by omega⟩)]
  rfl
 rw [this]; exact hk
theorem wrap_in {n:Int} (h1 : -9223372036854775808≤n) (h2:n<9223372036854775808):IntKind.i64.wrap n=n:=by rw [IntKind.wrap_i64]; omega
theorem addI_eq {a b:Int} (h1 : -9223372036854775808≤a+b) (h2:a+b<9223372036854775808):addI a b=a+b:=by
 show IntKind.i64.wrap (a+b)=a+b
 exact wrap_in h1 h2
theorem addI_nat {n:Nat} (h:n<4611686018427387904):addI (n:Int) 1=((n+1:Nat):Int):=by
 rw [addI_eq (by omega) (by omega)]; rfl
theorem ok_loop {Q:ρ→Prop} {step:σ→(σ→Option ρ)→Option ρ} {s0:σ} (Inv:σ→Prop) (μ:σ→Nat) (h0:Inv s0) (hμ:μ s0<fuel)
  (h:∀ s k,Inv s→(∀ s',Inv s'→μ s'<μ s→Ok Q (k s'))→Ok Q (step s k)):Ok Q (loopF step s0):=by
 have key:∀ n s,Inv s→μ s<n→Ok Q (loopK step n s):=by
  intro n
  induction n with
  | zero=>intro s _ h; omega
  | succ n ih=>intro s hs hn; exact h s _ hs fun s' hs' hl=>ih s' hs' (by omega)
 exact key fuel s0 h0 hμ
theorem ok_for {Q:ρ→Prop} {step:Int × τ→(Int × τ→Option ρ)→Option ρ} {t0:τ} (a n:Nat) (Inv:Nat→τ→Prop) (i0:Int) (hi0:i0=(a:Int)) (ha:a≤n) (hn:n<4611686018427387904) (h0:Inv a t0)
  (h:∀ i t k,i<n→Inv i t→(∀ t',Inv (i+1) t'→Ok Q (k (addI (i:Int) 1,t')))→Ok Q (step ((i:Int),t) k))
  (he:∀ t k,Inv n t→Ok Q (step ((n:Int),t) k)):Ok Q (loopF step (i0,t0)):=by
 subst hi0
 refine ok_loop (fun s=>∃ i:Nat,s.1=(i:Int)∧i≤n∧Inv i s.2) (fun s=>n - s.1.toNat) ⟨a,rfl,ha,h0⟩ (by show n - _<18446744073709551616; omega) ?_
 rintro ⟨i',t⟩ k ⟨i,e,hi,hI⟩ hk
 simp only at e hI; subst e
 by_cases h' : i=n
 ·subst h'; exact he t k hI
 ·refine h i t k (by omega) hI fun t' ht'=>hk _ ⟨i+1,addI_nat (by omega),by omega,ht'⟩ ?_
  rw [addI_nat (by omega)]
  simp only [Int.toNat_natCast]; omega
theorem ok_for1 {Q:ρ→Prop} {step:Int→(Int→Option ρ)→Option ρ} (a n:Nat) (Inv:Nat→Prop) (i0:Int) (hi0:i0=(a:Int)) (ha:a≤n) (hn:n<4611686018427387904) (h0:Inv a)
  (h:∀ i k,i<n→Inv i→(Inv (i+1)→Ok Q (k (addI (i:Int) 1)))→Ok Q (step (i:Int) k))
  (he:∀ k,Inv n→Ok Q (step (n:Int) k)):Ok Q (loopF step i0):=by
 subst hi0
 refine ok_loop (fun s=>∃ i:Nat,s=(i:Int)∧i≤n∧Inv i) (fun s=>n - s.toNat) ⟨a,rfl,ha,h0⟩ (by show n - _<18446744073709551616; omega) ?_
 rintro i' k ⟨i,e,hi,hI⟩ hk
 subst e
 by_cases h' : i=n
 ·subst h'; exact he k hI
 ·refine h i k (by omega) hI fun ht'=>hk _ ⟨i+1,addI_nat (by omega),by omega,ht'⟩ ?_
  rw [addI_nat (by omega)]
  simp only [Int.toNat_natCast]; omega
theorem ok_forr {Q:ρ→Prop} {step:τ × Int→(τ × Int→Option ρ)→Option ρ} {t0:τ} (a n:Nat) (Inv:Nat→τ→Prop) (i0:Int) (hi0:i0=(a:Int)) (ha:a≤n) (hn:n<4611686018427387904) (h0:Inv a t0)
  (h:∀ i t k,i<n→Inv i t→(∀ t',Inv (i+1) t'→Ok Q (k (t',addI (i:Int) 1)))→Ok Q (step (t,(i:Int)) k))
  (he:∀ t k,Inv n t→Ok Q (step (t,(n:Int)) k)):Ok Q (loopF step (t0,i0)):=by
 subst hi0
 refine ok_loop (fun s=>∃ i:Nat,s.2=(i:Int)∧i≤n∧Inv i s.1) (fun s=>n - s.2.toNat) ⟨a,rfl,ha,h0⟩ (by show n - _<18446744073709551616; omega) ?_
 rintro ⟨t,i'⟩ k ⟨i,e,hi,hI⟩ hk
 simp only at e hI; subst e
 by_cases h' : i=n
 ·subst h'; exact he t k hI
 ·refine h i t k (by omega) hI fun t' ht'=>hk _ ⟨i+1,addI_nat (by omega),by omega,ht'⟩ ?_
  rw [addI_nat (by omega)]
  simp only [Int.toNat_natCast]; omega
end
end Go.Pv
namespace Go.Pv
open Go
theorem rows_of {α:Type} {enc:α→List PV} {ok:α→Prop}:∀ {es:List (List PV)},(∀ r∈es,∃ x,r=enc x∧ok x)→∃ l:List α,es=l.map enc∧(∀ x∈l,ok x)∧l.length=es.length
 | [],_=>⟨[],rfl,by simp,rfl⟩
 | r::es,h=>by
  obtain ⟨x,e,hx⟩:=h r (by simp)
  obtain ⟨l,e2,h2,h3⟩:=rows_of fun r hr=>h r (List.mem_cons_of_mem _ hr)
  refine ⟨x::l,by rw [e,e2]; rfl,fun y hy=>?_,by simp [h3]⟩
  rcases List.mem_cons.1 hy with rfl | hy
  ·exact hx
  ·exact h2 y hy
end Go.Pv
namespace Go.Pv
open Go
structure Fit {H:Type} (N:Nat) (fit:DataW H→Prop):Prop where
 str:∀ b,fit (.lit (.string b))→b.length≤N
 sl:∀ es rest,fit (.slice es rest)→es.length≤N∧∀ e∈es,fit e
 agg:∀ es,fit (.agg es)→∀ e∈es,fit e
 ptr:∀ d,fit (.ptr d)→fit d
mutual
inductive Sn (P:Program) (N:Nat):TypeId→List PV→Prop
 | int {t:TypeId} {k:IntKind} {n:Int}:P.underlying t=some (.int k)→(Lit.int k n).wf=true→Sn P N t [.si k n]
 | bool {t:TypeId} {b:Bool}:P.underlying t=some .bool→Sn P N t [.sb b]
 | str {t:TypeId} {s:ByteArray}:P.underlying t=some .string→s.size≤N→Sn P N t [.str s]
 | nilp {t e:TypeId}:P.underlying t=some (.pointer e)→Sn P N t [.nilp]
 | pp {t e:TypeId} {cs:List PV}:P.underlying t=some (.pointer e)→Sn P N e cs→Sn P N t [.pp cs]
 | sl {t e:TypeId} {es:List (List PV)}:P.underlying t=some (.slice e)→(∀ r∈es,Sn P N e r)→es.length≤N→Sn P N t [.sl (P.cellsOf e) es false]
 | struct {t:TypeId} {fs:Array Field} {cs:List PV}:P.underlying t=some (.struct fs)→SnL P N (fs.toList.map (·.type)) cs→Sn P N t cs
 | arr {t e:TypeId} {n:Nat} {cs:List PV}:P.underlying t=some (.array n e)→SnL P N (List.replicate n e) cs→Sn P N t cs
inductive SnL (P:Program) (N:Nat):List TypeId→List PV→Prop
 | nil:SnL P N [] []
 | cons {t:TypeId} {ts:List TypeId} {a b:List PV}:Sn P N t a→SnL P N ts b→SnL P N (t::ts) (a ++ b)
end
section
variable {H:Type} {enc:TypeId × Value→H} {P:Program} {w:World} {base:Nat} {sp:Nat→Bool} {held:Bool} {N:Nat} {fit:DataW H→Prop}
mutual
theorem Sn.cells {t:TypeId} {cs:List PV}:Sn P N t cs→allCell cs=true
 | .int _ _=>rfl
 | .bool _=>rfl
 | .str _ _=>rfl
 | .nilp _=>rfl
 | .pp _ _=>rfl
 | .sl _ _ _=>rfl
 | .struct _ h=>SnL.cells h
 | .arr _ h=>SnL.cells h
theorem SnL.cells {ts:List TypeId} {cs:List PV}:SnL P N ts cs→allCell cs=true
 | .nil=>rfl
 | .cons h k=>allCell_app _ _ (Sn.cells h) (SnL.cells k)
end
theorem fields_readN {ts:List TypeId} {cs:List Value} {xs:Nat→Option (DataW H × List MemPlace)} {m:Nat}
  (ih:∀ (t:TypeId) (cs:List Value) x,t∈ts→DataW.trod enc P w base sp held m t cs=some x→fit x.1→∃ ps,RepL w NoY noSg ps cs∧Sn P N t ps∧cs.length=P.cellsOf t) :
  ∀ (fs:List Field) (n k:Nat),contig P ts fs n=some cs.length→n≤cs.length →
   (∀ (i:Nat) (f:Field),fs[i]?=some f→DataW.trod enc P w base sp held m f.type ((cs.drop f.offset).take (P.cellsOf f.type))=xs (k+i)∧∃ y,xs (k+i)=some y∧fit y.1) →
   ∃ ps,RepL w NoY noSg ps (cs.drop n)∧SnL P N (fs.map (·.type)) ps
 | [],n,k,hc,hn,_=>by
  simp only [contig,Option.some.injEq] at hc
  subst hc
  exact ⟨[],by simp [RepL],.nil⟩
 | f::fs,n,k,hc,hn,hx=>by
  simp only [contig] at hc
  cases hb:(Nat.beq f.offset n && ts.contains f.type) with
  | false=>rw [hb] at hc; cases hc
  | true =>
   rw [hb] at hc
   simp only [cond_true] at hc
   simp only [Bool.and_eq_true] at hb
   have hoff:=Nat.eq_of_beq_eq_true hb.1
   obtain ⟨h1,y,h2,h3⟩:=hx 0 f rfl
   rw [h2,hoff] at h1
   obtain ⟨ps,hr,hs,hl⟩:=ih _ _ _ (by simpa using hb.2) h1 h3
   have hle:n+P.cellsOf f.type≤cs.length:=by
    rw [List.length_take,List.length_drop] at hl
    omega
   obtain ⟨qs,hr2,hs2⟩:=fields_readN ih fs (n+P.cellsOf f.type) (k+1) hc hle fun i g hg=>by
    have:=hx (i+1) g (by simpa using hg)
    rw [show k+(i+1)=k+1+i by omega] at this
    exact this
   refine ⟨ps ++ qs,?_,by simpa using SnL.cons hs hs2⟩
   have:=hr.append hr2
   rwa [← List.drop_drop,List.take_append_drop] at this
theorem elems_readN {e:TypeId} {cs:List Value} {m sz:Nat} {xs:Nat→Option (DataW H × List MemPlace)}
  (ih:∀ (cs:List Value) x,DataW.trod enc P w base sp held m e cs=some x→fit x.1→∃ ps,RepL w NoY noSg ps cs∧Sn P N e ps∧cs.length=P.cellsOf e) (hsz:sz=P.cellsOf e) :
  ∀ (k s:Nat),cs.length=(s+k) * sz→(∀ i,i<s+k→DataW.trod enc P w base sp held m e ((cs.drop (i * sz)).take sz)=xs i∧∃ y,xs i=some y∧fit y.1) →
   ∃ ps,RepL w NoY noSg ps (cs.drop (s * sz))∧SnL P N (List.replicate k e) ps
 | 0,s,hl,_=>by
  refine ⟨[],?_,.nil⟩
  rw [List.drop_eq_nil_of_le (by rw [hl]; simp)]
  simp [RepL]
 | k+1,s,hl,hx=>by
  obtain ⟨h1,y,h2,h3⟩:=hx s (by omega)
  rw [h2] at h1
  obtain ⟨ps,hr,hs,hl2⟩:=ih _ _ h1 h3
  obtain ⟨qs,hr2,hs2⟩:=elems_readN ih hsz k (s+1) (by rw [hl]; congr 1; omega) fun i hi=>hx i (by omega)
  refine ⟨ps ++ qs,?_,by rw [List.replicate_succ]; exact .cons hs hs2⟩
  have:=hr.append hr2
  rwa [show (s+1) * sz=s * sz+sz by rw [Nat.add_mul]; omega,← List.drop_drop,List.take_append_drop] at this
theorem rows_readN {e:TypeId} {m:Nat} {a:Addr} {xs:Nat→Option (DataW H × List MemPlace)} (hspot:a.spot=none)
  (ih:∀ (cs:List Value) x,DataW.trod enc P w base sp held m e cs=some x→fit x.1→∃ ps,RepL w NoY noSg ps cs∧Sn P N e ps∧cs.length=P.cellsOf e) :
  ∀ (k s:Nat),(∀ i,i<s+k→(w.cells? base (a.add (i * P.cellsOf e)) (P.cellsOf e)).bind (DataW.trod enc P w base sp held m e)=xs i∧∃ y,xs i=some y∧fit y.1) →
   ∃ es,RepR w NoY noSg a.block (P.cellsOf e) es (a.off+s * P.cellsOf e)∧(∀ r∈es,Sn P N e r)∧es.length=k
 | 0,s,_=>⟨[],by simp [RepR],by simp,rfl⟩
 | k+1,s,hx=>by
  obtain ⟨h1,y,h2,h3⟩:=hx s (by omega)
  rw [h2] at h1
  obtain ⟨vs,hv,ht⟩:=Option.bind_eq_some_iff.1 h1
  obtain ⟨ps,hr,hs,hl⟩:=ih _ _ ht h3
  obtain ⟨es,hr2,hs2,hl2⟩:=rows_readN hspot ih k (s+1) fun i hi=>hx i (by omega)
  rw [addr_plus hspot] at hv
  refine ⟨ps::es,?_,?_,by simp [hl2]⟩
  ·unfold RepR
   refine ⟨⟨by rw [← hr.length,hl],hs.cells⟩,row_of_cells hv hr,?_⟩
   rw [show a.off+s * P.cellsOf e+P.cellsOf e=a.off+(s+1) * P.cellsOf e by rw [Nat.add_mul]; omega]
   exact hr2
  ·intro r hr'
   rcases List.mem_cons.1 hr' with rfl | h
   ·exact hs
   ·exact hs2 r h
theorem trod_shpN {ts:List TypeId} (F:Fit N fit) (hts:layAll P ts ts=true):∀ (fuel:Nat) (t:TypeId) (cs:List Value) (x:DataW H × List MemPlace),t∈ts →
  DataW.trod enc P w base sp held fuel t cs=some x→fit x.1→∃ ps,RepL w NoY noSg ps cs∧Sn P N t ps∧cs.length=P.cellsOf t
 | 0,t,cs,x,_,h,_=>by simp [DataW.trod] at h
 | m+1,t,cs,x,hmem,h,hft=>by
  have hl:=layAll_spec ts hts t hmem
  have ih:=trod_shpN F hts m
  have one:∀ {p:PV} {v:Value},Rep w NoY noSg p v→RepL w NoY noSg [p] [v]:=fun h=>by unfold RepL; exact ⟨_,_,rfl,h,by unfold RepL; rfl⟩
  unfold lay1 at hl
  split at hl
  ·rename_i hu
   obtain ⟨b,rfl,_⟩:=DataW.trod_bool hu h
   exact ⟨[.sb b],one (by simp [Rep]),.bool hu,(Nat.eq_of_beq_eq_true hl).symm⟩
  ·rename_i k hu
   obtain ⟨n,rfl,_,hw⟩:=DataW.trod_int hu h
   exact ⟨[.si k n],one (by simp [Rep]),.int hu hw,(Nat.eq_of_beq_eq_true hl).symm⟩
  ·rename_i hu
   obtain ⟨s,rfl,rfl,hs⟩:=DataW.trod_string hu h
   exact ⟨[.str s],one (by simp [Rep]),.str hu (by simpa using F.str _ hft),(Nat.eq_of_beq_eq_true hl).symm⟩
  ·rename_i e hu
   simp only [Bool.and_eq_true,Nat.blt_eq] at hl
   obtain ⟨⟨h1,h2⟩,h3⟩:=hl
   have h3:e∈ts:=by simpa using h3
   have h1:=(Nat.eq_of_beq_eq_true h1).symm
   rcases DataW.trod_pointer hu h with ⟨rfl,_⟩ | ⟨a,cs',y,n,hf,rfl,rfl,hc,ht⟩
   ·exact ⟨[.nilp],one (by simp [Rep]),.nilp hu,h1⟩
   ·cases hf
    obtain ⟨ps,hr,hs,_⟩:=ih e _ _ h3 ht (F.ptr _ hft)
    obtain ⟨hsp,hlt⟩:=first_cell h2 hc
    refine ⟨[.pp ps],one ?_,.pp hu hs,h1⟩
    have ha:a=⟨a.block,a.off,none⟩:=by cases a; simp at hsp; simp [hsp]
    rw [ha] at hc
    unfold Rep
    exact ⟨a.block,a.off,by rw [← ha],⟨hlt,fun h=>h⟩,row_of_cells hc hr⟩
  ·rename_i e hu
   simp only [Bool.and_eq_true,Nat.blt_eq] at hl
   obtain ⟨⟨h1,h2⟩,h3⟩:=hl
   have h3:e∈ts:=by simpa using h3
   have h1:=(Nat.eq_of_beq_eq_true h1).symm
   rcases DataW.trod_slice hu h with ⟨rfl,_⟩ | ⟨a,len,cap,elems,rest,n,hf,rfl,rfl,_,hle,hmax,hlen,hel,_⟩
   ·refine ⟨[.sl (P.cellsOf e) [] false],one ?_,.sl hu (by simp) (by simp),h1⟩
    unfold Rep
    exact ⟨none,0,0,rfl,rfl,Nat.le_refl _,(fun h=>by cases h),.inl rfl⟩
   ·cases hf
    obtain ⟨hN,hfe⟩:=F.sl _ _ hft
    have hN:len≤N:=by simpa [hlen] using hN
    by_cases h0:len=0
    ·subst h0
     refine ⟨[.sl (P.cellsOf e) [] false],one ?_,.sl hu (by simp) (by simp),h1⟩
     unfold Rep
     exact ⟨some a,0,cap,rfl,rfl,hle,(fun h=>by cases h),.inl rfl⟩
    ·have hx:∀ i,i<len→∃ y,elems[i]?=some y∧fit y.1:=fun i hi=>⟨_,List.getElem?_eq_getElem (by omega),hfe _ (List.mem_map.2 ⟨_,List.getElem_mem _,rfl⟩)⟩
     obtain ⟨y,hy,_⟩:=hx 0 (by omega)
     have he0:=hel 0 (by omega)
     rw [hy] at he0
     obtain ⟨vs,hv,_⟩:=Option.bind_eq_some_iff.1 he0
     obtain ⟨hsp,hlt⟩:=first_cell h2 hv
     rw [Nat.zero_mul,show a.add 0=a by simp [Addr.add]] at hsp hlt
     obtain ⟨es,hr,hs,hl2⟩:=rows_readN (xs:=fun i=>elems[i]?) hsp (fun cs x hx hf=>ih e cs x h3 hx hf) len 0 fun i hi=>⟨hel i (by omega),hx i (by omega)⟩
     refine ⟨[.sl (P.cellsOf e) es false],one ?_,.sl hu hs (by rw [hl2]; omega),h1⟩
     have ha:a=⟨a.block,a.off,none⟩:=by cases a; simp at hsp; simp [hsp]
     unfold Rep
     refine ⟨some a,len,cap,rfl,hl2.symm,hle,(fun h=>by cases h),.inr ⟨a.block,a.off,by rw [← ha],⟨hlt,fun h=>h⟩,?_⟩⟩
     simpa using hr
  ·rename_i fs hu
   split at hl
   ·rename_i n hc
    obtain ⟨xs,n',hf,rfl,hcl,hxl,hx⟩:=DataW.trod_struct hu h
    cases hf
    have hn:=Nat.eq_of_beq_eq_true hl
    obtain ⟨ps,hr,hs⟩:=fields_readN (ts:=ts) (xs:=fun i=>xs[i]?) (fun t cs x=>ih t cs x) fs.toList 0 0 (by rw [hc,hn,hcl]) (Nat.zero_le _) fun i f hi=>by
     have hi' : fs[i]?=some f:=by simpa using hi
     have hlt:i<fs.size:=by
      by_cases h:i<fs.size
      ·exact h
      ·rw [Array.getElem?_eq_none (Nat.le_of_not_lt h)] at hi'; cases hi'
     refine ⟨by simpa using hx i f hi',_,by rw [Nat.zero_add]; exact List.getElem?_eq_getElem (by omega),F.agg _ hft _ (List.mem_map.2 ⟨_,List.getElem_mem _,rfl⟩)⟩
    exact ⟨ps,by simpa using hr,.struct hu hs,hcl⟩
   ·cases hl
  ·rename_i n e hu
   simp only [Bool.and_eq_true] at hl
   have h3:e∈ts:=by simpa using hl.2
   obtain ⟨xs,m',hf,rfl,hcl,hxl,hx⟩:=DataW.trod_array hu h
   cases hf
   obtain ⟨ps,hr,hs⟩:=elems_readN (xs:=fun i=>xs[i]?) (fun cs x hx hf=>ih e cs x h3 hx hf) rfl n 0 (by rw [hcl,Nat.zero_add]; exact Nat.eq_of_beq_eq_true hl.1) fun i hi=>⟨hx i (by omega),_,List.getElem?_eq_getElem (by omega),F.agg _ hft _ (List.mem_map.2 ⟨_,List.getElem_mem _,rfl⟩)⟩
   exact ⟨ps,by simpa using hr,.arr hu hs,hcl⟩
  ·cases hl
inductive SnV (P:Program) (N:Nat) (t:TypeId):PV→Prop
 | one {p:PV}:Sn P N t [p]→isAggT P t=false→SnV P N t p
 | agg {cs:List PV}:Sn P N t cs→isAggT P t=true→SnV P N t (.agg cs)
inductive SnVL (P:Program) (N:Nat):List TypeId→List PV→Prop
 | nil:SnVL P N [] []
 | cons {t:TypeId} {ts:List TypeId} {p:PV} {ps:List PV}:SnV P N t p→SnVL P N ts ps→SnVL P N (t::ts) (p::ps)
theorem value_shpN {ts:List TypeId} (F:Fit N fit) (hts:layAll P ts ts=true) {t:TypeId} (hmem:t∈ts) {v:Value} {d:DataW H} {pl:List MemPlace} {r:Reach} {b0:Nat} (hval:Value.okWide P w r b0 t v) (h:DataW.Trod enc P w base sp held t v d pl) (hft:fit d) :
  ∃ p,Rep w NoY noSg p v∧SnV P N t p:=by
 obtain ⟨fuel,h⟩:=h
 obtain ⟨ps,hr,hs,_⟩:=trod_shpN F hts fuel t _ _ hmem h hft
 have hl:=layAll_spec ts hts t hmem
 have agg:(∃ cs,v=.agg cs)→isAggT P t=true→∃ p,Rep w NoY noSg p v∧SnV P N t p:=by
  rintro ⟨cs,rfl⟩ ha
  refine ⟨.agg ps,?_,.agg hs ha⟩
  unfold Rep
  exact ⟨cs.toList,by simp,by simpa [Value.cells] using hr⟩
 have one:v.cells.toList=[v]→isAggT P t=false→∃ p,Rep w NoY noSg p v∧SnV P N t p:=by
  intro hv ha
  rw [hv] at hr
  have hlen:=hr.length
  match ps,hr,hs,hlen with
  | [p],hr,hs,_ =>
   obtain ⟨u,e,hp⟩:=evA_one hr
   cases e
   exact ⟨p,hp,.one hs ha⟩
 unfold lay1 at hl
 unfold Value.okWide at hval
 split at hl
 ·rename_i hu
  rw [hu] at hval
  obtain ⟨b,hb,_⟩:=DataW.trod_bool hu h
  refine one ?_ (by simp [isAggT,hu])
  cases v <;> simp_all [Value.cells,Cell.okWide,Cell.ok]
 ·rename_i k hu
  rw [hu] at hval
  obtain ⟨b,hb,_⟩:=DataW.trod_int hu h
  refine one ?_ (by simp [isAggT,hu])
  cases v <;> simp_all [Value.cells,Cell.okWide,Cell.ok]
 ·rename_i hu
  rw [hu] at hval
  obtain ⟨b,hb,_⟩:=DataW.trod_string hu h
  refine one ?_ (by simp [isAggT,hu])
  cases v <;> simp_all [Value.cells,Cell.okWide,Cell.ok]
 ·rename_i e hu
  rw [hu] at hval
  refine one ?_ (by simp [isAggT,hu])
  cases v <;> simp_all [Value.cells,Cell.okWide,Cell.ok]
 ·rename_i e hu
  rw [hu] at hval
  refine one ?_ (by simp [isAggT,hu])
  cases v <;> simp_all [Value.cells,Cell.okWide,Cell.ok]
 ·rename_i fs hu
  rw [hu] at hval
  obtain ⟨cs,hc,_⟩:=hval
  exact agg ⟨cs,hc⟩ (by simp [isAggT,hu])
 ·rename_i n e hu
  rw [hu] at hval
  obtain ⟨cs,hc,_⟩:=hval
  exact agg ⟨cs,hc⟩ (by simp [isAggT,hu])
 ·cases hl
theorem args_shpN {ts:List TypeId} (F:Fit N fit) (hts:layAll P ts ts=true) {r:Reach} {b0:Nat}:∀ (params:List TypeId) (vs:List Value) (ds:List (DataW H)) (pl:List MemPlace),(∀ t∈params,t∈ts) →
  (∀ (j:Nat) t v,params[j]?=some t→vs[j]?=some v→Value.okWide P w r b0 t v)→DataW.TrodAll enc P w base sp held params vs ds pl→(∀ d∈ds,fit d) →
  ∃ ps,RepL w NoY noSg ps vs∧SnVL P N params ps∧ds.length=params.length
 | [],[],[],_,_,_,_,_=>⟨[],by simp [RepL],.nil,rfl⟩
 | t::params,v::vs,d::ds,pl,hm,hval,h,hft=>by
  obtain ⟨p,q,h1,h2,_⟩:=h
  obtain ⟨x,hx,hs⟩:=value_shpN F hts (hm t (by simp)) (hval 0 t v rfl rfl) h1 (hft d (by simp))
  obtain ⟨xs,hxs,hss,hl⟩:=args_shpN F hts params vs ds q (fun t ht=>hm t (by simp [ht])) (fun j t v h1 h2=>hval (j+1) t v (by simpa using h1) (by simpa using h2)) h2 (fun d hd=>hft d (by simp [hd]))
  exact ⟨x::xs,by unfold RepL; exact ⟨v,vs,rfl,hx,hxs⟩,.cons hs hss,by simp [hl]⟩
 | [],_::_,_,_,_,_,h,_=>h.elim
 | [],[],_::_,_,_,_,h,_=>h.elim
 | _::_,[],_,_,_,_,h,_=>h.elim
 | _::_,_::_,[],_,_,_,h,_=>h.elim
theorem law_callsN (F:Fit N fit) {f:FuncId} {fn:Func} {s:ChangeSpec} {apart:Bool} {ts:List TypeId} (hB:lawB P ts fn.params.toList=true) (hvars:s.vars=[]) {tb:TypeId} (hres:fn.resultTypes=#[tb]) (hb:P.underlying tb=some .bool)
  (hspec:∀ (ds:List (DataW H)),ds.length=fn.params.toList.length→(s.fn H ds).results=[.lit (.bool true)]∧(s.fn H ds).args=ds∧(s.fn H ds).vars=[])
  {G:Nat→Option (List PV)} (hFn:∀ pvs,SnVL P N fn.params.toList pvs→Fn P G f pvs (fun u=>u=.sb true))
  (W:World) (hG:Glob G W NoY) (base:Nat) (args:Array Value) (ds gs:List (DataW H)) (before:List MemPlace)
  (hval:∀ (j:Nat) t v,fn.params[j]?=some t→args[j]?=some v→Value.okWide P W .any base t v)
  (hft:∀ d∈ds,fit d) (hW:DataW.Whole enc P fn.params.toList s.vars apart W args.toList ds gs before) :
  Calls P f args W fun e W'=>∃ v,e=.returned v∧s.post enc P fn apart true false false W args v W':=by
 unfold lawB at hB
 simp only [Bool.and_eq_true,List.all_eq_true] at hB
 obtain ⟨⟨hl,hts⟩,hp⟩:=hB
 have hp:∀ t∈fn.params.toList,t∈ts∧P.readableRec t=true∧t<P.types.size:=fun t ht=>by
  have:=hp t ht
  rw [Nat.blt_eq] at this
  exact ⟨by simpa using this.1.1,this.1.2,this.2⟩
 have hW0:=hW
 obtain ⟨pa,pv,hA,hV,hbef,_,_⟩:=hW
 obtain ⟨pvs,hr,hs,hlen⟩:=args_shpN F hts fn.params.toList args.toList ds pa (fun t ht=>(hp t ht).1) (fun j t v h1 h2=>hval j t v (by simpa using h1) (by simpa using h2)) hA hft
 obtain ⟨_,hcalls⟩:=hFn pvs hs W NoY args.toList hG (fun _ h=>h.elim) hr
 refine Calls.mono hcalls fun e W' h=>?_
 obtain ⟨cv,v,rfl,rfl,hrep,hchg⟩:=h
 have hcv:=rep_sb hrep
 subst hcv
 refine ⟨.bool true,rfl,?_⟩
 rw [hvars] at hV
 have hgs:gs=[]∧pv=[]:=by
  cases gs with
  | nil=>exact ⟨rfl,hV⟩
  | cons g gs=>exact hV.elim
 obtain ⟨rfl,rfl⟩:=hgs
 obtain ⟨s1,s2,s3⟩:=hspec ds hlen
 have hbefore:∀ p∈before,p.block<W.heap.size:=fun p hp=>by simpa using hW0.lt p hp
 unfold ChangeSpec.post
 refine ⟨ds,[],before,[],pa,[],hW0,?_,?_,?_,hchg.below.frame _,fun h=>by cases h⟩
 ·rw [List.append_nil,s1,hres]
  refine ⟨[],[],⟨1,?_⟩,rfl,rfl⟩
  simp [DataW.trod,hb,Value.cells]
 ·rw [List.append_nil,s2]
  exact args_stay hl hchg.below _ _ _ _ (fun t ht=>(hp t ht).2) (fun x hx=>hbefore x (by rw [hbef]; simp [hx])) hA
 ·rw [List.append_nil,s3,hvars]
  rfl
end
section
variable {P:Program} {N:Nat} {t e:TypeId} {cs:List PV} {p:PV}
theorem Sn.inv_int {k:IntKind} (hu:P.underlying t=some (.int k)) (h:Sn P N t cs):∃ n,cs=[.si k n]∧(Lit.int k n).wf=true:=by
 cases h with
 | int h1 h2=>rw [hu] at h1; cases h1; exact ⟨_,rfl,h2⟩
 | _=>simp_all
theorem Sn.inv_bool (hu:P.underlying t=some .bool) (h:Sn P N t cs):∃ b,cs=[.sb b]:=by
 cases h with
 | bool h1=>exact ⟨_,rfl⟩
 | _=>simp_all
theorem Sn.inv_str (hu:P.underlying t=some .string) (h:Sn P N t cs):∃ s,cs=[.str s]∧s.size≤N:=by
 cases h with
 | str h1 h2=>exact ⟨_,rfl,h2⟩
 | _=>simp_all
theorem Sn.inv_slice (hu:P.underlying t=some (.slice e)) (h:Sn P N t cs):∃ es,cs=[.sl (P.cellsOf e) es false]∧(∀ r∈es,Sn P N e r)∧es.length≤N:=by
 cases h with
 | sl h1 h2 h3=>rw [hu] at h1; cases h1; exact ⟨_,rfl,h2,h3⟩
 | _=>simp_all
theorem Sn.inv_struct {fs:Array Field} (hu:P.underlying t=some (.struct fs)) (h:Sn P N t cs):SnL P N (fs.toList.map (·.type)) cs:=by
 cases h with
 | struct h1 h2=>rw [hu] at h1; cases h1; exact h2
 | _=>simp_all
theorem Sn.inv_arr {n:Nat} (hu:P.underlying t=some (.array n e)) (h:Sn P N t cs):SnL P N (List.replicate n e) cs:=by
 cases h with
 | arr h1 h2=>rw [hu] at h1; cases h1; exact h2
 | _=>simp_all
theorem SnL.inv_cons {ts:List TypeId} (h:SnL P N (t::ts) cs):∃ a b,cs=a ++ b∧Sn P N t a∧SnL P N ts b:=by
 cases h with
 | cons h1 h2=>exact ⟨_,_,rfl,h1,h2⟩
theorem SnL.inv_nil (h:SnL P N [] cs):cs=[]:=by cases h; rfl
theorem SnV.inv_agg (ha:isAggT P t=true) (h:SnV P N t p):∃ cs,p=.agg cs∧Sn P N t cs:=by
 cases h with
 | one h1 h2=>rw [ha] at h2; cases h2
 | agg h1 h2=>exact ⟨_,rfl,h1⟩
theorem SnV.inv_one (ha:isAggT P t=false) (h:SnV P N t p):Sn P N t [p]:=by
 cases h with
 | one h1 h2=>exact h1
 | agg h1 h2=>rw [ha] at h2; cases h2
theorem SnVL.inv_cons {ts:List TypeId} {ps:List PV} (h:SnVL P N (t::ts) ps):∃ a b,ps=a::b∧SnV P N t a∧SnVL P N ts b:=by
 cases h with
 | cons h1 h2=>exact ⟨_,_,rfl,h1,h2⟩
theorem SnVL.inv_nil {ps:List PV} (h:SnVL P N [] ps):ps=[]:=by cases h; rfl
end
end Go.Pv
namespace Go.Pv
open Go
section
variable {P:Program} {T:Tab} {S:Sig} {M:EncM} {α β σ ρ:Type} {r:ρ}
theorem d_b (hS:S=Sig.std P T) {c c' : Bool} {fa fb:Option ρ} {A B:Unit→Prop} (hf:br c' fa fb=some r) (ha:fa=some r→A ()) (hb:fb=some r→B ()) (e:c=c':=by simp only [q]; try first | rfl | simp [stdCmp,eI,eB,eL,eS,q]):S.br c A B:=d_br hS hf e ha hb
theorem d_x {I F:σ→Env} {k:σ→Option ρ} {s:σ} {E:Env} (hk:∀ s,I s=F s) (hf:k s=some r) (e:E=F s:=by (conv=>lhs; cbv) <;> (try simp only [q]) <;> (try rfl) <;> (try simp only [eL,q]) <;> (try rfl)):∃ s,k s=some r∧E=I s:=⟨s,hf,e.trans (hk s).symm⟩
theorem d_l {u v:PV} (e:u=v:=by simp only [q]; try first | rfl | simp [stdCmp,eI,eB,eL,eS,q]):LeP u v:=lp_eq e
theorem d_e {α:Sort _} {u v:α} (e:u=v:=by simp only [q]; try first | rfl | simp [stdCmp,eI,eB,eL,eS,q]):u=v:=e
theorem d_lp (hS:S=Sig.std P T) (hT:TabOK P T) (hW:PWf P) {b:Code} {Q:Post} {E:Env} {step:σ→(σ→Option ρ)→Option ρ} {s0:σ} (cvs:List Cv) (keep:List Nat) (F:σ→Env) (hf:loopF step s0=some r)
  (h:∀ (I:σ→Env) (k:σ→Option ρ) (s:σ),(∀ s,I s=F s)→step s k=some r→∀ e,e=F s→pwp T S b (seqQ (fun E'=>∃ s',k s'=some r∧canE T.pas keep (wkE (cvE S cvs E'))=I s') Q) e) (he:canE T.pas keep (wkE (cvE S cvs E))=F s0:=by (conv=>lhs; cbv) <;> (try simp only [q]) <;> (try rfl)):S.loop b Q E:=d_loop hS hT hW cvs keep F hf he h
theorem d_p (hS:S=Sig.std P T) {k:Nat} {args as bs:List PV} {cargs:List PV} {E:Env} {K:PV→Env→Prop} {g:Option α} {v:α→PV} {kk:α→Option ρ} (hf:bnd g kk=some r) (hF:∀ y,g=some y→Fn P T.gl k cargs (fun u=>u=v y)) (h:∀ y,kk y=some r→K (v y) E) (ha:as=cargs:=by rfl):S.callp k args as bs E K:=d_callp hS hf hF (le_eq ha) h
theorem d_c (hS:S=Sig.std P T) {k:Nat} {args:List PV} {cargs:List PV} {K:PV→Prop} {g:Option α} {v:α→PV} {kk:α→Option ρ} (hf:bnd g kk=some r) (hF:∀ y,g=some y→Fn P T.gl k cargs (fun u=>u=v y)) (h:∀ y,kk y=some r→K (v y)) (ha:args=cargs:=by rfl):S.callq k args K:=d_call hS hf hF (le_eq ha) h
theorem d_o (hS:S=Sig.std P T) {l:Array Oper} {p:Prop} (h:p) (hd:drawOK T l=true:=by kernel_rfl):S.order l p:=l_order hS hd h
end
end Go.Pv
