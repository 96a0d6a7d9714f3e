import Derived.Lib.ConvBytes
import Derived.Laws.BytesString
import Derived.Test.YtchmoabpofnbaaaGreatB02
set_option linter.all false
namespace Go.Pv
open Go
def acb (x:Option Addr)(cap i j size:Nat):Value:=.slice (if cap=i then x else x.map (·.add (i*size))) (j-i) (cap-i)
theorem ahC {w:World}{Y:Nat->Prop}{σ:Sg}{sz i j len cap:Nat}{T:List (List PV)}{full U : Bool}{x:Option Addr}(h:Rep w Y σ (.sl sz T full) (.slice x len cap))(h1:i<=j)(h2:j<=T.length)(O:U=true->full=true/\j=T.length) :
  Rep w Y σ (.sl sz ((T.drop i).take (j-i)) U) (acb x cap i j sz):=by
 unfold Rep at h |-;obtain⟨x',C,I,e,hl,hc,R,hr⟩:=h;cases e;refine⟨_,_,_,rfl,?_,by omega,?_,?_⟩
 rw[List.length_take,List.length_drop];omega
 intro g;obtain⟨g1,g2⟩:=O g;have:=R g1;omega
 by_cases J:i=j
 left;rw[J];simp
 rcases hr with hr|⟨b,o,rfl,hy,hr⟩
 left;rw[hr];simp
 right
 rw[if_neg ah];exact⟨b,o+i*sz,by simp[addr_add],hy,(hr.drop i _ _).take _ _ _⟩
theorem ahD {w:World}{Y:Nat->Prop}{σ:Sg}{b r n i j cap len size:Nat}{x:Option Addr}(h:Rep w Y σ (.os b r n) (.slice x len cap))(h1:i<=j)(h2:j<=n)(hs:∀ l,σ b=some l->l.sz=size) :
  Rep w Y σ (.os b (r+i) (j-i)) (acb x cap i j size):=by
 unfold Rep at h |-;rcases h with ⟨l,T,hl,e,hn,ht,hr⟩|⟨rfl,x',e⟩
 cases e;have hsz:=hs l hl
 by_cases U:cap=i
 right
 refine⟨by omega,some ⟨l.cb,l.co+r*l.sz,none⟩,?_⟩;simp only[acb,U,if_true];have e1:j-i=0:=by omega
 have R:i-i=0:=by omega
 rw[e1,R]
 left
 refine⟨l,cap-i,hl,?_,by omega,?_,by omega⟩
 simp only[acb,U,if_false,Option.map_some,addr_add];rw[<- hsz,Nat.add_mul,Nat.add_assoc]
 rw[<- ht];have:i<=cap:=by omega
 rw[Nat.add_mul,Nat.sub_mul];have:=Nat.mul_le_mul_right l.sz this;omega
 cases e
 right
 have hi:i=0:=by omega
 have hj:j=0:=by omega
 subst hi;subst hj;exact⟨rfl,x,by simp[acb]⟩
theorem Cb {P:Program}{w:World}{len cap:Nat}{lo hi:Option Value}{i j:Nat}(T:lo=none/\i=0\/∃ k,lo=some (.int k (i:Int)))(U:hi=none/\j=len\/∃ k,hi=some (.int k (j:Int)))(h1:i<=j)(h2:j<=cap)(b:Bool) :
  (Instr.sliceBounds b len cap lo hi none).run P w=.ok (i,j,cap) w:=by
 have e1:(0:Int)<=(i:Int)/\(i:Int)<=(j:Int):=by omega
 have J:(0:Int)<=(j:Int)/\(j:Int)<=(cap:Int):=by omega
 rcases T with ⟨rfl,rfl⟩|⟨k,rfl⟩<;>rcases U with ⟨rfl,rfl⟩|⟨R,rfl⟩
 simp[Instr.sliceBounds]
 simp[Instr.sliceBounds,Instr.sliceBound,qV,h2]
 simp[Instr.sliceBounds,Instr.sliceBound,qV,h1]
 simp[Instr.sliceBounds,Instr.sliceBound,qV,h1,h2]
theorem abU {P:Program}{w:World}{t e:TypeId}{x:Option Addr}{len cap i j:Nat}{lo hi:Option Value}(hu:P.underlying t=some (.slice e))(hinf:P.info? e≠none)
  (T:lo=none/\i=0\/∃ k,lo=some (.int k (i:Int))) (U:hi=none/\j=len\/∃ k,hi=some (.int k (j:Int))) (h1:i<=j) (h2:j<=cap) :
  (Instr.sliceAt t (.slice x len cap) lo hi none).run P w=.ok (acb x cap i j (P.cellsOf e)) w:=by
 simp only[Instr.sliceAt,Sem.run_bind,jA hu,Result.andThen,Instr.slice,Cb T U h1 h2,run_sizeOf hinf,Sem.run_pure];rfl
theorem Pj {S:iK}{w:World}{Y:Nat->Prop}{σ:Sg}:∀ (ps:List PV) (vs:List Value) (r:List PV×Dl),FM S (λ_=>none) ps=some r->gB w Y σ ps vs->gB w Y iQ ps vs
 | [],vs,_,_,h=>by unfold gB at h |-;exact h
 | p::ps,vs,r,hp,h=>by
  unfold gB at h;obtain⟨v,U,rfl,h1,h2⟩:=h;unfold FM at hp
  cases hq:FM S (λ_=>none) ps with
  | none=>rw[hq] at hp;cases hp
  | some q =>
   rw[hq] at hp;simp only at hp;have T:=Pj ps U q hq h2;have fin:Rep w Y iQ p v->gB w Y iQ (p::ps) (v::U):=λh=>by unfold gB;exact⟨v,U,rfl,h,T⟩
   cases p
   case os=>simp at hp
   case fn f cs =>
    cases cs with
    | nil=>exact fin dA
    | cons _ _=>simp at hp
   all_goals first
    | (simp at hp;done)
    | exact fin bI
theorem afQ {P:Program}{w:World}{t:TypeId}{s:ByteArray}{i j:Nat}{lo hi:Option Value}(hu:P.underlying t=some .string)
  (T:lo=none/\i=0\/∃ k,lo=some (.int k (i:Int))) (U:hi=none/\j=s.size\/∃ k,hi=some (.int k (j:Int))) (h1:i<=j) (h2:j<=s.size) :
  (Instr.sliceAt t (.string s) lo hi none).run P w=.ok (.string (s.extract i j)) w:=by
 simp only[Instr.sliceAt,Sem.run_bind,jA hu,Result.andThen,Instr.slice,Option.isSome_none,Bool.false_eq_true,if_false,Cb T U h1 h2,Sem.run_pure]
theorem aa5 {P:Program}{w:World}{t e:TypeId}{m b o:Nat}(hu:P.underlying t=some (.array m e))(hinf:P.info? e≠none) :
  (Instr.sliceAt t (.pointer (some ⟨b,o,none⟩)) none none none).run P w=.ok (.slice (some ⟨b,o,none⟩) m m) w:=by
 have hb:=Cb (P:=P) (w:=w) (len:=m) (cap:=m) (lo:=none) (hi:=none) (i:=0) (j:=m) (.inl ⟨rfl,rfl⟩) (.inl ⟨rfl,rfl⟩) ah ah false;simp only[Instr.sliceAt,Sem.run_bind,jA hu,Result.andThen,Instr.sureAddr,Sem.run_pure,hb,run_sizeOf hinf,Nat.zero_mul,addr_add];simp
theorem U3 {P:Program}{w:World}{t e:TypeId}{x:Option Addr}{len cap:Nat}{k U : IntKind}(hu:P.underlying t=some (.slice e))(hinf:P.info? e≠none) :
  (Instr.sliceAt t (.slice x len cap) none (some (.int k 0)) (some (.int U 0))).run P w=.ok (.slice x 0 0) w:=by
 have c1:(0:Int)<=0/\(0:Int)<=(cap:Int):=by omega
 simp[Instr.sliceAt,jA hu,Instr.slice,Instr.sliceBounds,Instr.sliceBound,qV,run_sizeOf hinf]
section
variable {P:Program}{T:Tab}(hT:jg P T){C:Ctx T}{o:Oper}{a:Act}{w:World}{Y:Nat->Prop}{σ:Sg}{ps:List PV}{st:St}{n id:Nat}{K:PV->Dl->Prop}{lk:Nat->Option jq}
 (H:SW C w Y σ ps a.tmps.toList st n) (hlk:∀ b x,lk b=some x->iO st b=some x) (hid:σ id=none/\T.qJ<=id) (hU:Lr P)
theorem Pm {T:Tab}{C:Ctx T}{w:World}{Y:Nat->Prop}{σ:Sg}{ps:List PV}{a:Act}{st:St}{n:Nat}(h:SW C w Y σ ps a.tmps.toList st n)(x:Option Operand) :
  (evO T ps x=none/\x.map a.eval=none)\/∃ p v,evO T ps x=some p/\x.map a.eval=some v/\Rep w Y σ p v:=by
 cases x with
 | none=>exact .inl ⟨rfl,rfl⟩
 | some x=>exact .inr ⟨_,_,rfl,rfl,jw h x⟩
include hT H hlk in
theorem adD {t:TypeId}{x:Operand}{lo hi mx:Option Operand}(ho:o.op=.slice t x lo hi mx)(hid:σ id=none/\T.qJ<=id)(h:jU T (iK.jd P T) (.slice t x lo hi mx) ps lk id K):nY P C o a w σ ps st n id K:=by
 have hx:=jw H x;have R:=Pm H lo;have J:=Pm H hi;have hmx:=Pm H mx
 have run:∀ {r:Result Value},(Instr.sliceAt t (a.eval x) (lo.map a.eval) (hi.map a.eval) (mx.map a.eval)).run P w=r->(execOp a.eval o).run P w=r.andThen λv w'=>.ok (.value v) w':=by
  intro r hr;simp only[execOp,ho,Sem.run_bind,hr,Sem.run_pure]
 generalize lo.map a.eval=vlo at R run;generalize hi.map a.eval=vhi at J run;generalize mx.map a.eval=vmx at hmx run;simp only[jU] at h;generalize evO T ps lo=plo at R h;generalize evO T ps hi=phi at J h;generalize evO T ps mx=pmx at hmx h;generalize oD T ps x=p at hx h
 have bound:∀ {q:Option PV} {v:Option Value} {r:PV} {k:IntKind} {i:Nat},((q=none/\v=none)\/∃ p u,q=some p/\v=some u/\Rep w Y σ p u)->q=some r->ui r=some (k,(i:Int))->∃ k,v=some (.int k (i:Int)):=by
  intro q v r k i hq e1 e2;rcases hq with ⟨e,_⟩|⟨p,u,e,e',hr⟩
  rw[e] at e1;cases e1
  rw[e] at e1;cases e1;exact⟨k,by rw[e',nR hr e2]⟩
 have U:∀ {q:Option PV} {v:Option Value},((q=none/\v=none)\/∃ p u,q=some p/\v=some u/\Rep w Y σ p u)->q=none->v=none:=by
  intro q v hq e;rcases hq with ⟨_,e'⟩|⟨p,u,e',_⟩
  exact e'
  rw[e] at e';cases e'
 split at h
 rename_i agg size z plain esz bytes z' sz es full e;obtain⟨et,hu,rfl,_,_⟩:=ku hT e;have hm:=U hmx rfl;subst hm
 cases hb:(jo (P.cellsOf et)&&Nat.beq sz (P.cellsOf et)) with
 | false=>rw[hb] at h;exact h.elim
 | true =>
  rw[hb] at h;simp only[cond_true] at h;rw[Bool.and_eq_true] at hb;have hinf:=jD hb.1;have hsz:=Nat.eq_of_beq_eq_true hb.2;subst hsz;have hx':=hx;unfold Rep at hx';obtain⟨y,len,cap,ex,hl,hc,_,_⟩:=hx';rw[ex] at hx run
  have fin:∀ (i j:Nat) (full' : Bool),(vlo=none/\i=0\/∃ k,vlo=some (.int k (i:Int)))->(vhi=none/\j=len\/∃ k,vhi=some (.int k (j:Int)))->i<=j->j<=es.length->(full'=true->full=true/\j=es.length) ->
    K (.sl (P.cellsOf et) ((es.drop i).take (j-i)) full') []->nY P C o a w σ ps st n id K:=by
   intro i j full' g1 g2 g3 g4 g5 hK;exact nY.quiet H dX (ahC hx g3 g4 g5) hK
  split at h
  have hv:=U J rfl
  split at h
  have g:=U R rfl;refine fin 0 len full (.inl ⟨g,rfl⟩) (.inl ⟨hv,rfl⟩) ah ah (λh=>⟨h,hl⟩) ?_;rw[hl];simpa using h
  split at h
  rename_i hint;obtain⟨i,j,rfl,e2,g1,g2,h⟩:=h;have:j=es.length:=by have:((es.length:Nat):Int)=(j:Int):=e2;omega
  subst this;exact fin i es.length full (.inr (bound R rfl hint)) (.inl ⟨hv,hl.symm⟩) g1 (Nat.le_refl _) (λh=>⟨h,rfl⟩) h
  exact h.elim
  split at h
  rename_i hint
  split at h
  have g:=U R rfl;obtain⟨i,j,e1,rfl,g1,g2,h⟩:=h;have:i=0:=by omega
  subst this;exact fin 0 j false (.inl ⟨g,rfl⟩) (.inr (bound J rfl hint)) g1 g2 (λh=>by cases h) h
  split at h
  rename_i I;obtain⟨i,j,rfl,rfl,g1,g2,h⟩:=h;exact fin i j false (.inr (bound R rfl I)) (.inr (bound J rfl hint)) g1 g2 (λh=>by cases h) h
  exact h.elim
  exact h.elim
 rename_i agg size z plain esz bytes z' b r m e;obtain⟨et,hu,rfl,_,_⟩:=ku hT e;have hm:=U hmx rfl;subst hm
 split at h
 rename_i ro sz rows hbk
 cases hb:(jo (P.cellsOf et)&&Nat.beq sz (P.cellsOf et)) with
 | false=>rw[hb] at h;exact h.elim
 | true =>
  rw[hb] at h;simp only[cond_true] at h;rw[Bool.and_eq_true] at hb;have hinf:=jD hb.1;have hsz:=Nat.eq_of_beq_eq_true hb.2
  have hls:∀ l,σ b=some l->l.sz=P.cellsOf et:=by
   intro l hl;have hB:=gJ.wW H hlk hbk hl;unfold gJ at hB;rw[hB.2.1,hsz]
  have hx' : ∃ y cap,a.eval x=.slice y m cap/\m<=cap:=by
   unfold Rep at hx;rcases hx with ⟨l,cap,_,e,hn,_⟩|⟨rfl,y,e⟩
   exact⟨_,cap,e,hn.1⟩
   exact⟨y,0,e,Nat.le_refl _⟩
  obtain⟨y,cap,ex,hmc⟩:=hx';rw[ex] at hx run
  have fin:∀ (i j:Nat),(vlo=none/\i=0\/∃ k,vlo=some (.int k (i:Int)))->(vhi=none/\j=m\/∃ k,vhi=some (.int k (j:Int)))->i<=j->j<=m->K (.os b (r+i) (j-i)) []->nY P C o a w σ ps st n id K:=by
   intro i j g1 g2 g3 g4 hK;exact nY.quiet H dX (ahD hx g3 g4 hls) hK
  split at h
  have hv:=U J rfl
  split at h
  have g:=U R rfl;exact fin 0 m (.inl ⟨g,rfl⟩) (.inl ⟨hv,rfl⟩) ah ah h
  split at h
  rename_i hint;obtain⟨i,j,rfl,e2,g1,g2,h⟩:=h;have:j=m:=by have:(m:Int)=(j:Int):=e2;omega
  subst this;exact fin i j (.inr (bound R rfl hint)) (.inl ⟨hv,rfl⟩) g1 g2 h
  exact h.elim
  split at h
  rename_i hint
  split at h
  have g:=U R rfl;obtain⟨i,j,e1,rfl,g1,g2,h⟩:=h;have:i=0:=by omega
  subst this;exact fin 0 j (.inl ⟨g,rfl⟩) (.inr (bound J rfl hint)) g1 g2 h
  split at h
  rename_i I;obtain⟨i,j,rfl,rfl,g1,g2,h⟩:=h;exact fin i j (.inr (bound R rfl I)) (.inr (bound J rfl hint)) g1 g2 h
  exact h.elim
  exact h.elim
 exact h.elim
 rename_i agg size z plain esz bytes z' sz es full k1 k2 e;obtain⟨et,hu,rfl,_,_⟩:=ku hT e
 cases hb:jo (P.cellsOf et) with
 | false=>rw[hb] at h;exact h.elim
 | true =>
  rw[hb] at h;have hinf:=jD hb;have hl:=U R rfl;subst hl;rcases J with ⟨e1,_⟩|⟨p1,v1,e1,rfl,r1⟩
  cases e1
  cases e1;rcases hmx with ⟨e1,_⟩|⟨p2,v2,e2,rfl,r2⟩
  cases e1
  cases e2;rw[tq r1,tq r2] at run;unfold Rep at hx;obtain⟨y,len,cap,ex,_⟩:=hx;rw[ex] at run;refine nY.quiet H (by rw[run (U3 hu hinf)];rfl) ?_ h;unfold Rep;exact⟨y,0,0,rfl,rfl,Nat.le_refl _,λ_=>rfl,.inl rfl⟩
 rename_i agg size z plain esz bytes z' b r m k1 k2 e;obtain⟨et,hu,rfl,_,_⟩:=ku hT e
 cases hb:jo (P.cellsOf et) with
 | false=>rw[hb] at h;exact h.elim
 | true =>
  rw[hb] at h;have hinf:=jD hb;have hl:=U R rfl;subst hl;rcases J with ⟨e1,_⟩|⟨p1,v1,e1,rfl,r1⟩
  cases e1
  cases e1;rcases hmx with ⟨e1,_⟩|⟨p2,v2,e2,rfl,r2⟩
  cases e1
  cases e2;rw[tq r1,tq r2] at run
  have hx' : ∃ y cap,a.eval x=.slice y m cap:=by
   unfold Rep at hx;rcases hx with ⟨l,cap,_,e,_⟩|⟨rfl,y,e⟩
   exact⟨_,cap,e⟩
   exact⟨y,0,e⟩
  obtain⟨y,cap,ex⟩:=hx';rw[ex] at run;refine nY.quiet H (by rw[run (U3 hu hinf)];rfl) ?_ h;unfold Rep;exact⟨y,0,0,rfl,rfl,Nat.le_refl _,λ_=>rfl,.inl rfl⟩
 rename_i agg size z plain s e;have hu:=Ns hT e;have hm:=U hmx rfl;subst hm;rw[EP hx] at run
 have fin:∀ (i j:Nat),(vlo=none/\i=0\/∃ k,vlo=some (.int k (i:Int)))->(vhi=none/\j=s.size\/∃ k,vhi=some (.int k (j:Int)))->i<=j->j<=s.size->K (.str (s.extract i j)) []->nY P C o a w σ ps st n id K:=by
  intro i j g1 g2 g3 g4 hK;exact nY.quiet H (cv:=.string (s.extract i j)) (by rw[run (afQ hu g1 g2 g3 g4)];rfl) bH hK
 split at h
 have g:=U R rfl
 split at h
 have hv:=U J rfl;refine fin 0 s.size (.inl ⟨g,rfl⟩) (.inl ⟨hv,rfl⟩) ah ah ?_
 simpa using h
 split at h
 rename_i hint;obtain⟨i,j,e1,rfl,g1,g2,h⟩:=h;have:i=0:=by omega
 subst this;exact fin 0 j (.inl ⟨g,rfl⟩) (.inr (bound J rfl hint)) g1 g2 h
 exact h.elim
 split at h
 rename_i hint
 split at h
 have hv:=U J rfl;obtain⟨i,j,rfl,e2,g1,g2,h⟩:=h;have:j=s.size:=by have:((s.size:Nat):Int)=(j:Int):=e2;omega
 subst this;exact fin i s.size (.inr (bound R rfl hint)) (.inl ⟨hv,rfl⟩) g1 g2 h
 split at h
 rename_i I;obtain⟨i,j,rfl,rfl,g1,g2,h⟩:=h;exact fin i j (.inr (bound R rfl hint)) (.inr (bound J rfl I)) g1 g2 h
 exact h.elim
 exact h.elim
 rename_i agg size z plain m esz ag b c e;obtain⟨et,hu,rfl,_,_⟩:=Nr hT e;have hm:=U hmx rfl;have hv:=U J rfl;have hl:=U R rfl;subst hm;subst hv;subst hl
 split at h
 rename_i ro row hbk
 cases hb:(jo (P.cellsOf et)&&Nat.ble (c+m*P.cellsOf et) (lG row)) with
 | false=>rw[hb] at h;exact h.elim
 | true =>
  rw[hb] at h;simp only[cond_true] at h;rw[Bool.and_eq_true] at hb;have hinf:=jD hb.1;have hle:=Nat.le_of_ble_eq_true hb.2;rw[kX] at hle
  split at h
  rename_i pr hpur;unfold Rep at hx;obtain⟨l,hs,ex⟩:=hx;rw[ex] at run;obtain⟨Y1,H1,hn1,hy1⟩:=H.freeze (hlk _ _ hbk) (x':=.var true row) (.inl ⟨ro,row,rfl,rfl⟩);have hB:=gJ.wW H1 (lk:=iO (nI st b (some (.var true row)))) (λ_ _ h=>h) eQ hs;have hlt:=hB.lt;unfold gJ at hB;obtain⟨vs,hr,hcell⟩:=hB.2.2.2.1.vals;have hr':=Pj _ _ _ hpur hr;have hrc:=(jc.Hw row vs l.co hr' hcell).drop c _ _;refine⟨_,_,.slice (some ⟨l.cb,l.co+c,none⟩) m m,w,Y1,σ,h,.inl ?_,?_,?_,Off.refl _ _⟩
  rw[run (aa5 hu hinf)];rfl
  simp only[iW,ql];exact H1.mono ah
  unfold Rep;refine⟨_,_,_,rfl,by rw[wX],Nat.le_refl _,λ_=>rfl,.inr ⟨l.cb,_,rfl,⟨hlt,hn1 l hs⟩,?_⟩⟩;rw[su];refine jc.chunks m _ _ hrc ?_ (by rw[List.length_drop];omega);have:=(Nz row _ _ hpur).2;rw[qi] at this |-;exact λp hp=>this p (List.mem_of_mem_drop hp)
  exact h.elim
 exact h.elim
 rename_i agg size z plain m esz ag cs e;obtain⟨et,hu,rfl,_,_⟩:=Nr hT e;have hm:=U hmx rfl;have hv:=U J rfl;have hl:=U R rfl;subst hm;subst hv;subst hl
 cases hb:(jo (P.cellsOf et)&&iE cs&&Nat.ble (m*P.cellsOf et) (lG cs)) with
 | false=>rw[hb] at h;exact h.elim
 | true =>
  rw[hb] at h;simp only[cond_true] at h;rw[Bool.and_eq_true,Bool.and_eq_true] at hb;have hinf:=jD hb.1.1;have hle:=Nat.le_of_ble_eq_true hb.2;rw[kX] at hle;unfold Rep at hx;obtain⟨b,o',ex,hy,hr⟩:=hx;rw[ex] at run;refine nY.quiet H (by rw[run (aa5 hu hinf)];rfl) ?_ h;unfold Rep;exact⟨_,_,_,rfl,by rw[wX],Nat.le_refl _,λ_=>rfl,.inr ⟨b,o',rfl,hy,jc.chunks m cs o' hr hb.1.2 hle⟩⟩
 exact h.elim
end
end Go.Pv
namespace Go.Pv
open Go
theorem SW.drawn {T:Tab}{C:Ctx T}{w:World}{Y:Nat->Prop}{σ:Sg}{ps:List PV}{vs:List Value}{st:St}{n:Nat}(H:SW C w Y σ ps vs st n)(d:Nat):SW C { w with drawn:=d } Y σ ps vs st n:=by
 have K:Keep w { w with drawn:=d } Y Y σ σ:=⟨λ_ _ _=>rfl,λ_ _ h=>h,Nat.le_refl _,mg.refl _⟩;refine⟨gB.keep _ K _ H.vals,⟨λb x hx=>?_,H.store.inj⟩,H.next,H.vg,H.y0,H.c0,H.vk,⟨H.mf.os,H.mf.tape,H.mf.output,H.mf.size,H.mf.block⟩,H.own,H.wz.keep K.none,H.fix,H.nest.heap (Nat.le_refl _) (λ_ _=>rfl)⟩;rcases H.store.blk b x hx with ⟨l,hl,hB⟩|h
 exact .inl ⟨l,hl,gJ.keep K rfl Iff.rfl hB⟩
 exact .inr h
theorem Rep.drawn {w:World}{Y:Nat->Prop}{σ:Sg}{p:PV}{v:Value}(h:Rep w Y σ p v)(d:Nat):Rep { w with drawn:=d } Y σ p v :=
 Rep.keep (w:=w) (w':={ w with drawn:=d }) p ⟨λ_ _ _=>rfl,λ_ _ h=>h,Nat.le_refl _,mg.refl _⟩ v h
theorem SW.empty {T:Tab}{C:Ctx T}{w:World}{Y:Nat->Prop}{σ:Sg}{ps:List PV}{vs:List Value}{st:St}{n id:Nat}(H:SW C w Y σ ps vs st n)(hid:σ id=none/\T.qJ<=id)(sz:Nat):SW C w Y σ ps vs (nI st id (some (.arr false sz []))) (max n (id+1)):=by
 have U:=hid.1;refine⟨H.vals,⟨λb x hx=>?_,λb g x x' l l' hx J hl R e=>?_⟩,λb hb=>H.next b ah,H.vg,H.y0,H.c0,H.vk,H.mf,λb x l hx hl=>?_,H.wz,⟨by have:=H.fix.1;omega,H.fix.2⟩,?_⟩
 rw[iG] at hx
 by_cases h:id=b
 rw[if_pos h] at hx;cases hx;subst h;exact .inr ⟨U,false,sz,rfl⟩
 rw[if_neg h] at hx;exact H.store.blk b x hx
 rw[iG] at hx J
 by_cases h:id=b
 subst h;rw[U] at hl;cases hl
 by_cases h' : id=g
 subst h';rw[U] at R;cases R
 rw[if_neg h] at hx;rw[if_neg h'] at J;exact H.store.inj b g x x' l l' hx J hl R e
 rw[iG] at hx
 by_cases h:id=b
 subst h;rw[U] at hl;cases hl
 rw[if_neg h] at hx;exact H.own b x l hx hl
 have back:∀ {c r k h s es},lM (nI st id (some (.arr false sz []))) c r k h s es->lM st c r k h s es:=by
  rintro c r k h s es ⟨sz0,rows,row,h1,h2⟩
  rw[iG] at h1
  by_cases I:id=c
  rw[if_pos I] at h1;cases h1
  rw[if_neg I] at h1;exact⟨sz0,rows,row,h1,h2⟩
 refine H.nest.keep ⟨λ_ _ _=>rfl,λ_ _ h=>h,Nat.le_refl _,mg.refl _⟩ (λ_ _ _ _ _ _ k=>back k) (λ_ _ _ _ _ _ _=>rfl) (λ_ _ _ _ _ _ k=>(H.nest.rep _ _ _ _ _ _ (back k)).own) λc r k h s es g x l hk hx hl=>?_;rw[iG] at hx
 by_cases I:id=g
 subst I;rw[U] at hl;cases hl
 rw[if_neg I] at hx;exact H.nest.sep _ _ _ _ _ _ _ _ _ (back hk) hx hl
theorem SW.Zy {T:Tab}{C:Ctx T}{w w' : World}{Y:Nat->Prop}{σ:Sg}{ps:List PV}{vs:List Value}{st:St}{n id b:Nat}(H:SW C w Y σ ps vs st n)(hid:σ id=none/\T.qJ<=id){x x' : jq}{l l' : Loc}
  (hx:iO st b=some x) (hnar:∀ sz rows,x'≠.kH sz rows) (hl:σ b=some l) (hm:Y l.cb) (hcb:l'.cb=l.cb)
  (hos:w'.os=w.os) (htape:w'.tape=w.tape) (hout:w'.output=w.output) (hsize:w'.heap.size=w.heap.size) (U:∀ k,k≠l.cb->w'.heap[k]?=w.heap[k]?)
  (hnew:∀ σ',(∀ p v,Rep w Y σ p v->Rep w' Y σ' p v)->(∀ p v,Rep w Y iQ p v->Rep w' Y iQ p v)->gJ w' Y σ' l' x') :
  ∃ σ',SW C w' Y σ' ps vs (nI (nI st b none) id (some x')) (max n (id+1))/\σ' id=some l'/\Off id σ σ':=by
 have hfree:=hid.1
 let σ' : Sg:=λc=>if c=id then some l' else σ c
 have hsg:mg σ σ':=by
  intro c m h;show (if c=id then some l' else σ c)=some m
  by_cases hc:c=id
  subst hc;rw[hfree] at h;cases h
  rw[if_neg hc];exact h
 have K:Keep w w' Y Y σ σ':=⟨λk _ hk=>U k (λe=>hk (e ▸ hm)),λ_ _ h=>h,Nat.le_of_eq hsize.symm,hsg⟩;have own:=H.own b x l hx hl
 have look:∀ c y,iO (nI (nI st b none) id (some x')) c=some y->(c=id/\y=x')\/(c≠id/\c≠b/\iO st c=some y):=by
  intro c y h;rw[iG] at h
  by_cases hc:id=c
  rw[if_pos hc] at h;cases h;exact .inl ⟨hc.symm,rfl⟩
  rw[if_neg hc,iG] at h
  by_cases hc2:b=c
  rw[if_pos hc2] at h;cases h
  rw[if_neg hc2] at h;exact .inr ⟨λe=>hc e.symm,λe=>hc2 e.symm,h⟩
 refine⟨σ',⟨gB.keep _ K _ H.vals,⟨?_,?_⟩,?_,λk hk=>by rw[hsize];exact H.vg k hk,H.y0,H.c0,H.vk,?_,?_,H.wz.keep K.none,⟨by have:=H.fix.1;omega,λb hb=>by show (if b=id then some l' else σ b)=_;rw[if_neg ah];exact H.fix.2 b hb⟩,?_⟩,by simp[σ'],λb hb=>by show (if b=id then some l' else σ b)=_;rw[if_neg hb]⟩
 intro c y h;rcases look c y h with ⟨rfl,rfl⟩|⟨h1,h2,J⟩
 exact .inl ⟨l',by simp[σ'],hnew σ' (λp v hp=>Rep.keep p K v hp) (λp v hp=>Rep.keep p K.none v hp)⟩
 rcases H.store.blk c y J with ⟨m,R,hB⟩|⟨hn,hy⟩
 refine .inl ⟨m,hsg _ _ R,gJ.keep K (U _ λe=>h2 ?_) Iff.rfl hB⟩;exact H.store.inj c b y x m l J hx R hl e
 exact .inr ⟨by simp[σ',h1,hn],hy⟩
 intro c c' y y' m m' h h' I g e;rcases look c y h with ⟨rfl,rfl⟩|⟨h1,h2,J⟩<;>rcases look c' y' h' with ⟨rfl,rfl⟩|⟨h1',h2',h3'⟩
 rfl
 exfalso
 simp[σ'] at I;subst I;have:σ c'=some m':=by simpa [σ',h1'] using g
 exact h2' (H.store.inj c' b y' x m' l h3' hx this hl (by rw[<- e,hcb]))
 exfalso
 simp[σ'] at g;subst g;have:σ c=some m:=by simpa [σ',h1] using I
 exact h2 (H.store.inj c b y x m l J hx this hl (by rw[e,hcb]))
 have e1:σ c=some m:=by simpa [σ',h1] using I
 have e2:σ c'=some m':=by simpa [σ',h1'] using g
 exact H.store.inj c c' y y' m m' J h3' e1 e2 e
 intro c hc;show (if c=id then some l' else σ c)=none;rw[if_neg ah];exact H.next c ah
 refine⟨by rw[hos];exact H.mf.os,by rw[htape];exact H.mf.tape,by rw[hout];exact H.mf.output,by rw[hsize];exact H.mf.size,λk hk hM=>?_⟩
 have hne:k≠l.cb:=λe=>by
  subst e;have h1:=H.away hx hl;rcases H.vk _ hm hk with h2|h2
  exact h1 h2
  exact hM h2
 rw[U k hne];exact H.mf.block k hk hM
 intro c y m h R;rcases look c y h with ⟨rfl,rfl⟩|⟨h1,h2,J⟩
 simp[σ'] at R;subst R;rw[hcb];exact own
 exact H.own c y m J (by simpa [σ',h1] using R)
 have back:∀ {c r k h s es},lM (nI (nI st b none) id (some x')) c r k h s es->lM st c r k h s es:=by
  rintro c r k h s es ⟨sz0,rows,row,h1,h2⟩
  rcases look _ _ h1 with ⟨_,e⟩|⟨_,_,J⟩
  exact absurd e.symm (hnar _ _)
  exact⟨sz0,rows,row,J,h2⟩
 refine H.nest.keep K.none (λ_ _ _ _ _ _ k=>back k) (λc r k h s es hk=>U _ (H.nest.sep _ _ _ _ _ _ _ _ _ (back hk) hx hl).symm) (λ_ _ _ _ _ _ k=>(H.nest.rep _ _ _ _ _ _ (back k)).own) λc r k h s es b' y m hk hy R=>?_;rcases look _ _ hy with ⟨e,_⟩|⟨h1,h2,J⟩
 subst e;simp[σ'] at R;subst R;rw[hcb];exact H.nest.sep _ _ _ _ _ _ _ _ _ (back hk) hx hl
 exact H.nest.sep _ _ _ _ _ _ _ _ _ (back hk) J (by simpa [σ',h1] using R)
theorem jh.vals {w:World}{Y:Nat->Prop}{σ:Sg}{b sz:Nat}:∀ (rs:List (List PV)) (o:Nat),jh w Y σ b sz rs o ->
  ∃ vs:List Value,(vs.length=rs.length*sz/\∀ v∈vs,Ph v=true)/\(∀ i v,vs[i]?=some v->w.cell? ⟨b,o+i,none⟩=some v) /\
   ∀ (w' : World) (Y' : Nat->Prop) (σ' : Sg) (J o' : Nat),(∀ p v,Rep w Y σ p v->Rep w' Y' σ' p v)->(∀ i v,vs[i]?=some v->w'.cell? ⟨J,o'+i,none⟩=some v)->jh w' Y' σ' J sz rs o'
 | [],o,_=>⟨[],⟨by simp,by simp⟩,by simp,λ_ _ _ _ _ _ _=>by simp[jh]⟩
 | r::rs,o,h=>by
  unfold jh at h;obtain⟨h1,h2,h3⟩:=h;obtain⟨us,U,hu2⟩:=h2.vals;obtain⟨vs,⟨I,R⟩,g,C⟩:=jh.vals rs (o+sz) h3;have T:us.length=sz:=by rw[U.length];exact h1.1
  refine⟨us++vs,⟨?_,λv hv=>(List.mem_append.1 hv).elim (λh=>yf _ _ h1.2 U v h) (R v)⟩,?_,?_⟩
  rw[List.length_append,I,T,List.length_cons,Nat.add_mul];omega
  intro i v hi
  by_cases hlt:i<us.length
  rw[List.getElem?_append_left hlt] at hi;exact hu2 i v hi
  rw[List.getElem?_append_right ah] at hi;have:=g (i-us.length) v hi;rw[T] at this;rw[show o+i=o+sz+(i-sz) by omega];exact this
  intro w' Y' σ' J o' hk hc;unfold jh;refine⟨h1,jc.Hw r us o' ?_ (λi v hi=>hc i v (by rw[List.getElem?_append_left];exact hi;(by_cases hh:i<us.length;exact hh;rw[List.getElem?_eq_none ah] at hi;cases hi))),C w' Y' σ' J (o'+sz) hk (λi v hi=>?_)⟩
  exact gB.CU _ _ (by rw[U.length]) (λi p v e1 e2=>by
   obtain⟨v',e3,e4⟩:=U.get? e1;rw[e2] at e3;cases e3;exact hk _ _ e4)
  have:=hc (sz+i) v (by rw[List.getElem?_append_right ah,T];simpa using hi);rw[show o'+sz+i=o'+(sz+i) by omega];exact this
theorem Qo {P:Program}{T:Tab}{C:Ctx T}{w:World}{Y:Nat->Prop}{σ:Sg}{ps:List PV}{us:List Value}{st:St}{n U:Nat}(H:SW C w Y σ ps us st n){lk:Nat->Option jq}(J:∀ b x,lk b=some x->iO st b=some x)
  {p:PV} {v:Value} {rows:List (List PV)} (hv:Rep w Y σ p v) (h:rowsOf (iK.jd P T) U lk p=some rows) :
  ∃ x len cap,v=.slice x len cap/\len=rows.length/\(rows=[]\/∃ b o,x=some ⟨b,o,none⟩/\jh w Y iQ b U rows o):=by
 cases p<;>simp[rowsOf] at h
 case sl sz es full =>
  unfold Rep at hv;obtain⟨x,len,cap,rfl,hl,_,_,hr⟩:=hv
  cases hb:Nat.beq sz U with
  | true =>
   rw[hb] at h;simp only[cond_true,Option.some.injEq] at h;subst h;have:=Nat.eq_of_beq_eq_true hb;subst this;exact⟨x,len,cap,rfl,hl,hr.imp id λ⟨b,o,e,_,hr⟩=>⟨b,o,e,hr⟩⟩
  | false =>
   rw[hb] at h;simp only[cond_false] at h
   cases es with
   | nil=>simp at h;subst h;exact⟨x,len,cap,rfl,hl,.inl rfl⟩
   | cons _ _=>simp at h
 case os b r m =>
  split at h
  rename_i ro sz rows' hb
  cases R:Nat.beq sz U with
  | false=>rw[R] at h;simp at h
  | true =>
   rw[R] at h;simp only[cond_true,Option.some.injEq] at h;subst h;have:=Nat.eq_of_beq_eq_true R;subst this;obtain⟨x,cap,rfl,hn,hl,hr⟩:=ER hv (H.store.blk b _ (J _ _ hb));exact⟨x,m,cap,rfl,hl,hr.imp id λ⟨I,o,e,_,_,hr⟩=>⟨I,o,e,hr⟩⟩
  cases h
theorem vM {P:Program}{w:World}{size n:Nat}{x:Option Addr}{len cap:Nat}{vs:List Value}(hl:vs.length=n*size)(h:vs=[]\/∃ b o,x=some ⟨b,o,none⟩/\∀ i v,vs[i]?=some v->w.cell? ⟨b,o+i,none⟩=some v) :
  (Builtin.firstCells size n (.slice x len cap)).run P w=.ok vs.toArray w:=by
 cases x with
 | none =>
  rcases h with rfl|⟨b,o,e,_⟩
  simp[Builtin.firstCells]
  exact absurd e aB
 | some a =>
  rcases h with rfl|⟨b,o,e,hc⟩
  simp only[List.length_nil] at hl;simp only[Builtin.firstCells,<- hl,loadCells,loadCellsFrom,Sem.run_pure]
  obtain rfl:a=⟨b,o,none⟩:=Option.some.inj e;simp only[Builtin.firstCells,<- hl,loadCells];rw[Ba vs 0 #[] (λj v hj=>by simpa using hc j v hj)];simp
theorem U4:∀ (rounds U c:Nat),c<=U+U / 4+192->Builtin.growBy U rounds c<=U+U / 4+192
 | 0,U,c,h=>by simpa [Builtin.growBy] using h
 | rounds+1,U,c,h=>by
  simp only[Builtin.growBy]
  split
  exact h
  exact U4 rounds U _ ah
theorem Zz {U cap:Nat}(h:¬ U<=cap):Builtin.nextslicecap U cap<=2*U+192:=by
 unfold Builtin.nextslicecap
 split
 omega
 split
 omega
 have:=U4 4 U cap ah;omega
theorem ZA {U old:Nat}{e:TypeId}(t:Nat)(h:U<=4611686018427387904):(Question.appendCap U old e).cut t<=9223372036854775807:=by
 simp only[Question.cut];have:=Nat.mod_lt t (show 2 ^ 63-U > 0 by omega);omega
theorem ZB {U old:Nat}{e:TypeId}(t:Nat):U<=(Question.appendCap U old e).cut t:=by
 simp only[Question.cut];omega
section
variable {P:Program}{T:Tab}(hT:jg P T){C:Ctx T}{o:Oper}{a:Act}{w:World}{Y:Nat->Prop}{σ:Sg}{ps:List PV}{st:St}{n id:Nat}{K:PV->Dl->Prop}{lk:Nat->Option jq}
 (H:SW C w Y σ ps a.tmps.toList st n) (hlk:∀ b x,lk b=some x->iO st b=some x) (hid:σ id=none/\T.qJ<=id) (hU:Lr P)
theorem L9 (H:SW C w Y σ ps a.tmps.toList st n)(hid:σ id=none/\T.qJ<=id){t u:TypeId}{ts:List TypeId}{et:TypeId}{inf:TypeInfo}{z:List PV}{old new:List (List PV)}{x y:Option Addr}{sl sc U yc:Nat}{ty:TypeId}{us vs:List Value}{eu:TypeId}
  (hu:P.underlying t=some (.slice et)) (hu2:P.underlying u=some (.slice eu)) (hi:P.info? et=some inf) (hz:EM P et=some z) (hpos:0<P.cellsOf et) (hzl:z.length=P.cellsOf et)
  (hold:us.length=sl*P.cellsOf et/\(us=[]\/∃ b o,x=some ⟨b,o,none⟩/\∀ i v,us[i]?=some v->w.cell? ⟨b,o+i,none⟩=some v))
  (R:vs.length=U*P.cellsOf et/\(vs=[]\/∃ b o,y=some ⟨b,o,none⟩/\∀ i v,vs[i]?=some v->w.cell? ⟨b,o+i,none⟩=some v))
  (hsl:sl=old.length) (hyl:U=new.length)
  (hrows:∀ (w' : World) (Y' : Nat->Prop) (b' : Nat),(∀ p v,Rep w Y iQ p v->Rep w' Y' iQ p v)->(∀ i v,(us++vs)[i]?=some v->w'.cell? ⟨b',0+i,none⟩=some v)->jh w' Y' iQ b' (P.cellsOf et) (old++new) 0)
  (J:¬ sl+U<=sc) (hroom:(2*(sl+U)+192)*inf.bytes<=140737488355328) (hbig:sl+U<=4611686018427387904) :
  ∃ cv w' Y' σ',(Builtin.append_ (t::u::ts).toArray ty #[.slice x sl sc,.slice y U yc]).run P w=.ok cv w' /\
   SW C w' Y' σ' ps a.tmps.toList (nI st id (some (.arr false (P.cellsOf et) (old++new)))) (max n (id+1))/\Rep w' Y' σ' (.os id 0 (old.length+new.length)) cv/\Off id σ σ':=by
 obtain⟨zv,hzr,hzrep⟩:=DX hz;have hinf:P.info? et≠none:=by rw[hi];simp
 let wd:World:={ w with drawn:=w.drawn+1 };obtain⟨cap,I⟩:∃ cap,cap=(Question.appendCap (sl+U) sc et).cut (w.tape w.drawn (Question.appendCap (sl+U) sc et)):=⟨_,rfl⟩;have hge:sl+U<=cap:=by rw[I];exact ZB _
 have Hd:=H.drawn (w.drawn+1)
 let rest:Array Value:=Builtin.zeroCells zv.cells (cap-(sl+U))
 let arr:Array Value:=us.toArray++vs.toArray++rest
 have hzsz:zv.cells.size=P.cellsOf et:=by
  have:=(hzrep w Y iQ).length;rw[Array.length_toList] at this;omega
 have harr:arr.size=cap*P.cellsOf et:=by
  simp only[arr,rest,Builtin.zeroCells,Array.size_append,List.size_toArray,hold.1,R.1,Array.size_map,Array.size_range,hzsz];rw[<- Nat.add_mul,<- Nat.add_mul]
  congr 1;omega
 obtain⟨Y2,σ2,H2,g,hoff⟩:=SW.V5 (a:=a) (m:=cap) (arr:=arr) (rows:=old++new) Hd hid et hpos ⟨by rw[List.length_append];omega,by rw[I];exact ZA _ hbig⟩ harr (by
  intro w' Y' hk hb;refine hrows w' Y' _ (λp v hp=>hk p v (hp.drawn _)) (λi v hv=>?_);rw[cell_of_block hb]
  have hlt:i<(us++vs).length:=by
   by_cases hh:i<(us++vs).length
   exact hh
   rw[List.getElem?_eq_none (Nat.le_of_not_lt hh)] at hv;cases hv
  simp only[arr,Nat.zero_add];rw[Array.getElem?_append_left (by simpa using hlt)];rw[<- hv];simp)
 rw[List.length_append] at g;refine⟨_,_,Y2,σ2,?_,H2,g,hoff⟩
 have c1:¬ (((sl+U:Nat):Int) > IntKind.i64.max/\(False\/inf.bytes=0)):=by
  have:IntKind.i64.max=9223372036854775807:=by decide
  rw[this];omega
 have c2:¬ (Builtin.nextslicecap (sl+U) sc*inf.bytes > 2 ^ 48):=by
  have:=Nat.mul_le_mul_right inf.bytes (Zz J);omega
 have r1:=vM (P:=P) (w:=wd) (size:=P.cellsOf et) (n:=sl) (x:=x) (len:=sl) (cap:=sc) hold.1 hold.2;have r2:=vM (P:=P) (w:=wd) (size:=P.cellsOf et) (n:=U) (x:=y) (len:=U) (cap:=yc) R.1 R.2
 have ask:∀ k,(askRoom k).run P wd=.ok () wd:=by
  intro k;unfold askRoom;split<;>simp[mark,Sem.run]
 have ch:(choose (Question.appendCap (sl+U) sc et)).run P w=.ok cap wd:=by
  rw[I];simp[choose,Sem.run,Question.forced,wd]
 simp only[Builtin.append_,List.getElem?_toArray,List.getElem?_cons_zero,List.getElem?_cons_succ,Sem.run_bind,jA hu,jA hu2,Result.andThen,run_sizeOf hinf,Sem.run_pure];simp only[Bool.false_eq_true,if_false,Builtin.lenOf,Sem.run_bind,Sem.run_pure,Result.andThen];rw[if_neg J];simp only[Sem.run_bind,CV hi,Result.andThen];rw[if_neg c1];simp only[Sem.run_bind,CV hi,Result.andThen];rw[if_neg c2];simp only[Sem.run_bind,ch,CV hi,Result.andThen,ask,r1,Bool.not_false,if_true,r2,hzr,newRow,newObj,Sem.run_pure];simp only[Sem.run];rw[<- hsl,<- hyl];rfl
theorem NF {t u:TypeId}{ts:List TypeId}{et:TypeId}{x y:Option Addr}{sl sc R yc:Nat}{ty:TypeId}{vs:List Value}{g:TypeId}
  (hu:P.underlying t=some (.slice et)) (C:P.underlying u=some (.slice g)) (hinf:P.info? et≠none)
  (U:vs.length=R*P.cellsOf et/\(vs=[]\/∃ b o,y=some ⟨b,o,none⟩/\∀ i v,vs[i]?=some v->w.cell? ⟨b,o+i,none⟩=some v))
  (T:sl+R<=sc) {w' : World} (J:∀ b o,x=some ⟨b,o,none⟩->(storeCells ⟨b,o+sl*P.cellsOf et,none⟩ vs).run P w=.ok () w') (I:x=none->w'=w) (hx:∀ a,x=some a->a.spot=none) :
  (Builtin.append_ (t::u::ts).toArray ty #[.slice x sl sc,.slice y R yc]).run P w=.ok (.slice x (sl+R) sc) w':=by
 have r2:=vM (P:=P) (w:=w) (size:=P.cellsOf et) (n:=R) (x:=y) (len:=R) (cap:=yc) U.1 U.2;simp only[Builtin.append_,List.getElem?_toArray,List.getElem?_cons_zero,List.getElem?_cons_succ,Sem.run_bind,jA hu,jA C,Result.andThen,run_sizeOf hinf,Sem.run_pure];simp only[Bool.false_eq_true,if_false,Builtin.lenOf,Sem.run_bind,Sem.run_pure,Result.andThen];rw[if_pos T];simp only[Sem.run_bind,Bool.not_false,if_true,r2,Result.andThen]
 cases x with
 | none=>simp only[Sem.run_pure];rw[I rfl]
 | some a =>
  obtain⟨b,o,sp⟩:=a;have:=hx _ rfl;simp only at this;subst this;simp only[Sem.run_bind,addr_add];have:=J b o rfl;simp only[this,Result.andThen,Sem.run_pure]
end
end Go.Pv
namespace Go.Pv
open Go
section
variable {P:Program}{T:Tab}(hT:jg P T){C:Ctx T}{o:Oper}{a:Act}{w:World}{Y:Nat->Prop}{σ:Sg}{ps:List PV}{st:St}{n id:Nat}{K:PV->Dl->Prop}{lk:Nat->Option jq}
 (H:SW C w Y σ ps a.tmps.toList st n) (hlk:∀ b x,lk b=some x->iO st b=some x) (hid:σ id=none/\T.qJ<=id) (hU:Lr P)
theorem RY {w:World}{Y:Nat->Prop}{b:Nat}:∀ (rows:List (List PV)) (U:List (Option Int)) (o:Nat),jh w Y iQ b 1 rows o->rows.map aa0=U->∀ (j:Nat) (n:Int),U[j]?=some (some n)->w.cell? ⟨b,o+j,none⟩=some (.int .u8 n)
 | [],U,o,_,e,j,n,h=>by subst e;simp at h
 | r::rows,U,o,hR,e,j,n,h=>by
  subst e;unfold jh at hR;obtain⟨_,h2,R⟩:=hR
  cases j with
  | zero =>
   simp only[List.map_cons,List.getElem?_cons_zero,Option.some.injEq] at h;unfold aa0 at h
   split at h
   cases h;unfold jc at h2;obtain⟨⟨v,T,hv⟩,_⟩:=h2;rw[Nat.add_zero,T,RP hv]
   cases h;unfold jc at h2;obtain⟨⟨v,T,hv⟩,_⟩:=h2;rw[Nat.add_zero,T,tq hv]
   cases h
  | succ j =>
   have:=RY rows _ (o+1) R rfl j n bY;rw[show o+(j+1)=o+1+j by omega];exact this
theorem RZ:∀ (l:List UInt8) (r:ByteArray),((l.map (λc=>(c.toNat:Int))).foldl (λr n=>r.push (UInt8.ofNat n.toNat)) r)=⟨r.data++l.toArray⟩
 | [],r=>by cases r;simp
 | c::l,r=>by
  simp only[List.map_cons,List.foldl_cons];rw[RZ l];cases r;simp[ByteArray.push]
theorem Qp {α:Type}{x:Array α}{t u:α}{l:List α}(h:x.toList=t::u::l):x=(t::u::l).toArray:=by apply Array.ext';simpa using h
theorem sU {b:Builtin}{args:Array Operand}{ts:Array TypeId}{v:PV}{δ:Dl}{cv:Value}{w' : World}{Y' : Nat->Prop}{σ' : Sg}(ho:o.op=.call { callee:=.builtin b,args:=args,argTypes:=ts })
  (hr:∀ ty cs,(builtin b ts ty cs (args.toList.map a.eval).toArray).run P w=.ok (.value cv) w') (R : SW C w' Y' σ' ps a.tmps.toList (iW δ st) (ql δ n id)) (hv:Rep w' Y' σ' v cv) (T:Off id σ σ') (J:K v δ):nY P C o a w σ ps st n id K:=by
 have U:args.map a.eval=(args.toList.map a.eval).toArray:=by apply Array.ext';simp
 refine⟨v,δ,cv,w',Y',σ',J,.inl ?_,R,hv,T⟩;simp only[execOp,ho,resolve,U,Sem.run_bind,Sem.run_pure,Result.andThen,invoke];exact hr _ _
include hT H hlk hid in
theorem acd {args:Array Operand}{ts:Array TypeId}(ho:o.op=.call { callee:=.builtin .append,args:=args,argTypes:=ts })(h:jU T (iK.jd P T) (.call { callee:=.builtin .append,args:=args,argTypes:=ts }) ps lk id K):nY P C o a w σ ps st n id K:=by
 have hargs:=rU H args.toList;simp only[jU] at h;generalize hvs:args.toList.map a.eval=vs at hargs
 split at h
 all_goals first|(exact h.elim)|skip
 contradiction
 contradiction
 contradiction
 contradiction
 contradiction
 contradiction
 ·rename_i s x t u tl hb he ht;rw[he] at hargs;obtain⟨sv,xv,rfl,hs,hx⟩:=ND hargs;have ht':=Qp ht;subst ht'
  split at h
  ·rename_i a1 s1 z1 p1 esz bytes z a2 s2 z2 p2 k1 k2 k3 e1 e2;obtain⟨et,hu,rfl,rfl,hz⟩:=ku hT e1;obtain⟨eu,hu2,_⟩:=ku hT e2
   cases hb:(jo (P.cellsOf et)&&Nat.beq (lG z) (P.cellsOf et)) with
   | false=>rw[hb] at h;exact h.elim
   | true =>
    rw[hb] at h;simp only[cond_true] at h;rw[Bool.and_eq_true,kX] at hb;have hinf:=jD hb.1;have hzl:=Nat.eq_of_beq_eq_true hb.2
    have hpos:0<P.cellsOf et:=by
     rcases Nat.eq_zero_or_pos (P.cellsOf et) with h0|h0
     have:=hb.1;rw[h0] at this;simp[jo] at this
     exact h0
    cases hi:P.info? et with
    | none=>exact absurd hi hinf
    | some inf =>
    have hbe:=L8 hi
    have rd:∀ {new:List (List PV)},rowsOf (iK.jd P T) (P.cellsOf et) lk x=some new->∃ y yc vs,xv=.slice y new.length yc/\(vs.length=new.length*P.cellsOf et/\(vs=[]\/∃ b o,y=some ⟨b,o,none⟩/\∀ i v,vs[i]?=some v->w.cell? ⟨b,o+i,none⟩=some v))/\(∀ v∈vs,Ph v=true) /\
      (∀ (w' : World) (Y' : Nat->Prop) (g o' : Nat),(∀ p v,Rep w Y iQ p v->Rep w' Y' iQ p v)->(∀ i v,vs[i]?=some v->w'.cell? ⟨g,o'+i,none⟩=some v)->jh w' Y' iQ g (P.cellsOf et) new o'):=by
     intro new hn;obtain⟨y,len,yc,rfl,rfl,hr⟩:=Qo H hlk hx hn;rcases hr with rfl|⟨b,o',rfl,hr⟩
     exact⟨y,yc,[],rfl,⟨by simp,.inl rfl⟩,by simp,λ_ _ _ _ _ _=>by simp[jh]⟩
     obtain⟨vs,⟨g1,g1'⟩,g2,g3⟩:=hr.vals;exact⟨_,yc,vs,rfl,⟨g1,.inr ⟨b,o',rfl,g2⟩⟩,g1',λw' Y' g o' hk hc=>g3 w' Y' iQ g o' hk hc⟩
    have fresh:∀ {st0:St} {sx:Option Addr} {new:List (List PV)} {δ:Dl} {ty:TypeId},SW C w Y σ ps a.tmps.toList st0 n->rowsOf (iK.jd P T) (P.cellsOf et) lk x=some new->sv=.slice sx 0 0 ->
      (2*new.length+192)*P.bytesOf et<=140737488355328->new.length<=4611686018427387904->iW δ st=nI st0 id (some (.arr false (P.cellsOf et) new))->ql δ n id=max n (id+1)->K (.os id 0 new.length) δ->nY P C o a w σ ps st n id K:=by
     intro st0 sx new δ ty H0 hn hsv hroom hbig hδ hnx hK;obtain⟨y,yc,vs,rfl,U,hone,htr⟩:=rd hn;subst hsv
     by_cases h0:new.length=0
     have hnil:new=[]:=List.eq_nil_of_length_eq_zero h0;subst hnil;have hvn:vs=[]:=List.eq_nil_of_length_eq_zero (by simpa using U.1);refine sU ho (δ:=δ) (cv:=.slice sx 0 0) (w':=w) (Y':=Y) (σ':=σ) (λty cs=>?_) (by rw[hδ,hnx];exact H0.empty hid _) ?_ (Off.refl _ _) hK
     rw[hvs];have r2:=vM (P:=P) (w:=w) (size:=P.cellsOf et) (n:=0) (x:=y) (len:=0) (cap:=yc) (vs:=[]) aB (.inl rfl);simp only[builtin,Builtin.append_,List.getElem?_toArray,List.getElem?_cons_zero,List.getElem?_cons_succ,Sem.run_bind,jA hu,jA hu2,Result.andThen,run_sizeOf hinf,Sem.run_pure,List.length_nil];simp only[Bool.false_eq_true,if_false,Builtin.lenOf,Sem.run_bind,Sem.run_pure,Result.andThen];rw[if_pos (Nat.le_refl _)];simp only[Sem.run_bind,Bool.not_false,if_true,r2,Result.andThen];cases sx<;>simp[storeCells]
     unfold Rep;exact .inr ⟨rfl,sx,rfl⟩
     obtain⟨cv,w',Y',σ',J,H',hrep,I⟩:=L9 (P:=P) (a:=a) (ty:=ty) (x:=sx) (sc:=0) (us:=[]) (vs:=vs) (old:=[]) (new:=new) (ts:=tl) (yc:=yc) H0 hid hu hu2 hi hz.symm hpos hzl (sl:=0) aB U aB rfl
      (λw' Y' g hk hc=>by simpa using htr w' Y' g 0 hk (λi v hv=>hc i v (by simpa using hv))) ah (by rw[hbe] at hroom;simpa using hroom) ah
     refine sU ho (δ:=δ) (cv:=cv) (w':=w') (Y':=Y') (σ':=σ') (λty' cs=>?_) (by rw[hδ,hnx];simpa using H') (by simpa using hrep) I hK;rw[hvs];simp only[builtin,Sem.run_bind];have:Builtin.append_ (t::u::tl).toArray ty' [Value.slice sx 0 0,Value.slice y new.length yc].toArray=Builtin.append_ (t::u::tl).toArray ty #[Value.slice sx 0 0,Value.slice y new.length yc]:=rfl;rw[this,J];rfl
    split at h
    rename_i sz new hn;obtain⟨g1,g2,h⟩:=h;unfold Rep at hs;obtain⟨sx,len,cap,rfl,hl,hc,O,_⟩:=hs;have:len=0:=by simpa using hl
    subst this;have:cap=0:=O rfl;subst this;exact fresh (ty:=0) H hn rfl g1 g2 rfl rfl h
    rename_i b r m new hn
    split at h
    rename_i sz rows hbk
    cases hsz:Nat.beq sz (P.cellsOf et) with
    | false=>rw[hsz] at h;exact h.elim
    | true =>
     rw[hsz] at h;simp only[cond_true] at h;have hsz:=Nat.eq_of_beq_eq_true hsz;subst hsz;obtain⟨g1,g2,h⟩:=h;have g1:(2*(m+new.length)+192)*P.bytesOf et<=140737488355328:=g1;have g2:m+new.length<=4611686018427387904:=g2;have hst:=hlk _ _ hbk;have hBS:=H.store.blk b _ hst;obtain⟨sx,cap,rfl,hmc,hml,hr⟩:=ER hs hBS;have hsub:(iK.jd P T).sub rows r m=(rows.drop r).take m:=rfl;have happ:(iK.jd P T).app ((iK.jd P T).sub rows r m) new=(rows.drop r).take m++new:=rfl;rw[happ] at h;obtain⟨y,yc,vs,rfl,U,hone,htr⟩:=rd hn
     by_cases R:m+new.length<=cap
        
     unfold Rep at hs;rcases hs with ⟨l,cap',hl,e,⟨_,hc63⟩,htot,hnr⟩|⟨rfl,sx',e⟩
     cases e;have hB:=gJ.wW H hlk hbk hl;unfold gJ at hB;obtain⟨⟨arr,tyb,ha,has⟩,hlsz,_,⟨hle,hlnr⟩,hrows,hm,_⟩:=hB;rw[hlsz] at htot
     have hbnd:l.co+r*P.cellsOf et+(m+new.length)*P.cellsOf et<=arr.size:=by
      rw[has,<- htot];have:=Nat.mul_le_mul_right (P.cellsOf et) R;omega
     obtain⟨w',J,W⟩:=vJ (P:=P) (o:=l.co+r*P.cellsOf et+m*P.cellsOf et) vs 0 w arr ha (by rw[U.1];rw[Nat.add_mul] at hbnd;omega) hone;have W:Wrote w w' l.cb (l.co+r*P.cellsOf et+m*P.cellsOf et) arr tyb vs:=by simpa using W
     obtain⟨arr',h4,h5,h6⟩:=W.blk;have hml' : ((rows.drop r).take m++new).length=m+new.length:=by rw[List.length_append,<- hml]
     obtain⟨σ',H',hid',I⟩:=H.Zy hid (x':=.arr false (P.cellsOf et) ((rows.drop r).take m++new)) (l':=⟨l.cb,l.co+r*P.cellsOf et,P.cellsOf et,l.tot,m+new.length⟩) hst (λ_ _ e=>by cases e) hl (hm rfl) rfl W.os W.tape W.output W.size W.other (by
      intro σ' _ hk;unfold gJ;refine⟨⟨arr',tyb,h4,by rw[h5,has]⟩,rfl,hpos,⟨by rw[hml'];show l.co+r*P.cellsOf et+(m+new.length)*P.cellsOf et<=l.tot;omega,hml'⟩,?_,λ_=>hm rfl,λh=>by cases h⟩;refine jh.app _ _ _ ?_ ?_
      obtain⟨us,⟨u1,_⟩,u2,u3⟩:=((hrows.drop r _ _).take m _ _).vals;refine u3 w' Y iQ l.cb _ hk (λi v hv=>?_);have hc:=u2 i v hv;rw[cell_of_block ha] at hc
      have hilt:i<us.length:=by
       by_cases hh:i<us.length
       exact hh
       rw[List.getElem?_eq_none (Nat.le_of_not_lt hh)] at hv;cases hv
      rw[u1,<- hml] at hilt;show w'.cell? ⟨l.cb,l.co+r*P.cellsOf et+i,none⟩=some v;rw[cell_of_block h4,h6,if_neg ah];exact hc
      refine htr w' Y l.cb _ hk (λi v hv=>?_)
      have hilt:i<vs.length:=by
       by_cases hh:i<vs.length
       exact hh
       rw[List.getElem?_eq_none (Nat.le_of_not_lt hh)] at hv;cases hv
      show w'.cell? ⟨l.cb,l.co+r*P.cellsOf et+((rows.drop r).take m).length*P.cellsOf et+i,none⟩=some v;rw[<- hml,cell_of_block h4,h6,if_pos ah];rw[show l.co+r*P.cellsOf et+m*P.cellsOf et+i-(l.co+r*P.cellsOf et+m*P.cellsOf et)=i by omega];exact hv)
     refine sU ho (δ:=_) (cv:=.slice (some ⟨l.cb,l.co+r*l.sz,none⟩) (m+new.length) cap) (w':=w') (Y':=Y) (σ':=σ') (λty cs=>?_) (by simp only[iW,ql];exact H') ?_ I h
     rw[hvs];have:=NF (P:=P) (w:=w) (ts:=tl) (ty:=ty) (x:=some ⟨l.cb,l.co+r*l.sz,none⟩) (sl:=m) (sc:=cap) (yc:=yc) (w':=w') hu hu2 hinf U R (λb o e=>by cases e;rw[hlsz];exact J) (λh=>by cases h) (λa h=>by cases h;rfl);simp only[builtin,Sem.run_bind];rw[this];rfl
     unfold Rep;refine .inl ⟨_,cap,hid',?_,⟨R,hc63⟩,?_,?_⟩
     rw[hlsz];simp;rfl
     simp;omega
     show 0+(m+new.length)<=m+new.length;omega
     cases e;have hn0:new.length=0:=by omega
     have hn0' : new=[]:=List.eq_nil_of_length_eq_zero hn0;subst hn0';refine fresh (st0:=nI st b none) (ty:=0) (δ:=[(b,none),(id,some (.arr false (P.cellsOf et) ((rows.drop r).take 0++[])))]) (H.drop b) hn rfl (by simpa using g1) aB (by simp[iW]) rfl ?_;exact h
        
     have hold:∃ us:List Value,(us.length=m*P.cellsOf et/\(us=[]\/∃ b o,sx=some ⟨b,o,none⟩/\∀ i v,us[i]?=some v->w.cell? ⟨b,o+i,none⟩=some v)) /\
       (∀ (w' : World) (Y' : Nat->Prop) (g o' : Nat),(∀ p v,Rep w Y iQ p v->Rep w' Y' iQ p v)->(∀ i v,us[i]?=some v->w'.cell? ⟨g,o'+i,none⟩=some v)->jh w' Y' iQ g (P.cellsOf et) ((rows.drop r).take m) o'):=by
      rcases hr with hr|⟨g,o',e,_,_,hr⟩
      rw[hr] at hml |-;refine⟨[],⟨by rw[hml];simp,.inl rfl⟩,λ_ _ _ _ _ _=>by simp[jh]⟩
      obtain⟨us,⟨u1,_⟩,u2,u3⟩:=hr.vals;exact⟨us,⟨by rw[u1,<- hml],.inr ⟨g,o',e,u2⟩⟩,λw' Y' g o' hk hc=>u3 w' Y' iQ g o' hk hc⟩
     obtain⟨us,hus,hutr⟩:=hold
     obtain⟨cv,w',Y',σ',J,H',hrep,I⟩:=L9 (P:=P) (a:=a) (ty:=0) (x:=sx) (sc:=cap) (us:=us) (vs:=vs) (old:=(rows.drop r).take m) (new:=new) (ts:=tl) (yc:=yc) (H.drop b) hid hu hu2 hi hz.symm hpos hzl (sl:=m) hus U hml rfl
      (λw' Y' g hk hc=>by
       refine jh.app _ _ _ (hutr w' Y' g 0 hk (λi v hv=>hc i v ?_)) (htr w' Y' g _ hk (λi v hv=>?_))
       rw[List.getElem?_append_left]
       exact hv
       by_cases hh:i<us.length
       exact hh
       rw[List.getElem?_eq_none (Nat.le_of_not_lt hh)] at hv;cases hv
       have:=hc (us.length+i) v dm;rw[hus.1] at this;rw[<- hml];simpa using this) R (by rw[hbe] at g1;exact g1) g2
     refine sU ho (δ:=_) (cv:=cv) (w':=w') (Y':=Y') (σ':=σ') (λty' cs=>?_) (by simp only[iW,ql];exact H') (by rw[<- hml] at hrep;exact hrep) I h;rw[hvs];simp only[builtin,Sem.run_bind];have:Builtin.append_ (t::u::tl).toArray ty' [Value.slice sx m cap,Value.slice y new.length yc].toArray=Builtin.append_ (t::u::tl).toArray 0 #[Value.slice sx m cap,Value.slice y new.length yc]:=rfl;rw[this,J];rfl
    exact h.elim
    exact h.elim
  exact h.elim
 all_goals contradiction
theorem Si {w:World}{Y:Nat->Prop}{b:Nat}:∀ (l:List UInt8) (o:Nat),(∀ (j:Nat) (h:j<l.length),w.cell? ⟨b,o+j,none⟩=some (.int .u8 (l[j].toNat:Int)))->jh w Y iQ b 1 (l.map λc=>[.si .u8 (c.toNat:Int)]) o
 | [],o,_=>by simp[jh]
 | c::l,o,h=>by
  simp only[List.map_cons];unfold jh;refine⟨⟨rfl,rfl⟩,?_,Si l (o+1) λj hj=>?_⟩
  have:=h 0 aB;simp only[jc];exact⟨⟨_,by simpa using this,by simp[Rep]⟩,trivial⟩
  have:=h (j+1) bM;rw[show o+1+j=o+(j+1) by omega]
  simpa using this
include hT H hlk in
theorem ZC {s d:TypeId}{x:Operand}(ho:o.op=.convert s d x)(h:jU T (iK.jd P T) (.convert s d x) ps lk id K):nY P C o a w σ ps st n id K:=by
 have R:=jw H x;simp only[jU] at h
 split at h
 rename_i e1 e;obtain⟨_,hs,_⟩:=ku hT e1;have g:=Ns hT e
 split at h
 rename_i rows hr;obtain⟨⟨el,hs2,he⟩,U,hb,hK⟩:=h;obtain⟨x',len,cap,ev,hl,hrep⟩:=Qo H hlk R hr;refine nY.quiet H (cv:=.string U) ?_ bH hK;have hlen:rows.length=U.data.toList.length:=by simpa using congrArg List.length hb
 have J:(Conv.bytesToString (.slice x' len cap)).run P w=.ok (.string U) w:=by
  cases x' with
  | none =>
   rcases hrep with rfl|⟨b,o',e0,_⟩
   have:U=ByteArray.empty:=by
    have:U.data.toList=[]:=by
     cases hh:U.data.toList with
     | nil=>rfl
     | cons _ _=>rw[hh] at hlen;simp at hlen
    cases U with
    | mk d=>simp at this;subst this;rfl
   subst this;simp[Conv.bytesToString]
   cases e0
  | some ad =>
   have I:(loadCells ad len).run P w=.ok ((U.data.toList.map (λc=>(c.toNat:Int))).map (Value.int .u8)).toArray w:=by
    rcases hrep with rfl|⟨b,o',e0,hR⟩
    have h0:U.data.toList=[]:=by
     cases hh:U.data.toList with
     | nil=>rfl
     | cons _ _=>rw[hh] at hlen;simp at hlen
    rw[hl,h0];simp[loadCells,loadCellsFrom]
    cases e0;have hlen2:len=((U.data.toList.map (λc=>(c.toNat:Int))).map (Value.int .u8)).length:=by rw[hl,hlen];simp
    rw[hlen2,loadCells]
    rw[Ba _ 0 #[] (λj v hj=>by
     obtain⟨c,hc1,hc2⟩:∃ c,U.data.toList[j]?=some c/\v=.int .u8 (c.toNat:Int):=by
      rw[List.getElem?_map,List.getElem?_map] at hj
      cases hh:U.data.toList[j]? with
      | none=>rw[hh] at hj;cases hj
      | some c=>rw[hh] at hj;exact⟨c,rfl,by simpa using hj.symm⟩
     have:=RY rows _ o' hR hb j (c.toNat:Int) (by rw[List.getElem?_map,hc1];rfl);rw[hc2,Nat.zero_add];exact this)]
    simp
   rw[run_bytesToString w ad len cap _ I,RZ]
   cases U with
   | mk d=>rw[show ByteArray.empty.data++d.toList.toArray=d from by show #[]++d.toList.toArray=d;rw[Array.empty_append,Array.toArray_toList]]
 simp only[execOp,ho,ev,Sem.run_bind];rw[run_convert_bytes_string w s d el x' len cap hs2 he g,J];simp[Result.andThen]
 exact h.elim
 rename_i e1 e;have hs:=Ns hT e1;obtain⟨el0,hd0,_⟩:=ku hT e
 split at h
 rename_i b hb;obtain⟨⟨el,g,he⟩,hK⟩:=h;rw[hb] at R;have R:=EP R
 have J:(execOp a.eval o).run P w=.ok (.value (.slice (some ⟨w.heap.size,0,none⟩) b.size (grownCap w b.size 0 el))) (Lib.bytesWorld w el b):=by
  simp only[execOp,ho,R,Sem.run_bind];rw[Lib.run_convert_string_bytes w s d el b hs g he];simp[Result.andThen]
 have hchg:Chg w (Lib.bytesWorld w el b):=⟨rfl,rfl,rfl,by rw[Lib.bytesWorld_size];omega,λk hk=>Lib.bytesWorld_at_old w el b k hk⟩;refine⟨_,[],_,_,Y,σ,hK,.inl J,H.afL hchg,?_,Off.refl _ _⟩;unfold Rep;refine⟨_,b.size,grownCap w b.size 0 el,rfl,by rw[List.length_map,Array.length_toList];rfl,grownCap_ge _ _ _ _,(λe=>by cases e),.inr ⟨w.heap.size,0,rfl,⟨by rw[Lib.bytesWorld_size];omega,λhy=>?_⟩,?_⟩⟩
 have:=H.vg _ hy;omega
 refine Si b.data.toList 0 λj hj=>?_;have hj2:j<b.size:=by rw[Array.length_toList] at hj;exact hj
 rw[Nat.zero_add,Lib.bytesWorld_cell w el b j hj2];unfold List.getD;rw[List.getElem?_eq_getElem hj];rfl
 exact h.elim
 rename_i k e1 e;obtain⟨_,u,_,hs,_⟩:=um hT e1 rfl;have g:=afH hT e
 split at h
 rename_i e;rw[e] at R;have R:=tq R;refine nY.quiet H (cv:=.int k (k.wrap _)) ?_ dU h;simp[execOp,ho,R,convert,jA hs,jA g,Conv.intToInt]
 rename_i e;rw[e] at R;have R:=RP R;refine nY.quiet H (cv:=.int k (k.wrap _)) ?_ (by simp[Rep,iK.jd];rfl) h;simp[execOp,ho,R,convert,jA hs,jA g,Conv.intToInt]
 exact h.elim
 exact h.elim
end
end Go.Pv
namespace Go.Pv
open Go
section
variable {P:Program}{T:Tab}(hT:jg P T){C:Ctx T}{o:Oper}{a:Act}{w:World}{Y:Nat->Prop}{σ:Sg}{ps:List PV}{st:St}{n id:Nat}{K:PV->Dl->Prop}{lk:Nat->Option jq}
 (H:SW C w Y σ ps a.tmps.toList st n) (hlk:∀ b x,lk b=some x->iO st b=some x) (hid:σ id=none/\T.qJ<=id) (hU:Lr P)
theorem XZ {α:Type}{x:Array α}{t:α}{l:List α}(h:x.toList=t::l):x=(t::l).toArray:=by apply Array.ext';simpa using h
include hT H hlk hid in
theorem adE {args:Array Operand}{ts:Array TypeId}(ho:o.op=.call { callee:=.builtin .clear,args:=args,argTypes:=ts })(h:jU T (iK.jd P T) (.call { callee:=.builtin .clear,args:=args,argTypes:=ts }) ps lk id K):nY P C o a w σ ps st n id K:=by
 have R:=rU H args.toList;simp only[jU] at h;generalize hvs:args.toList.map a.eval=vs at R
 split at h
 all_goals first|(exact h.elim)|contradiction|skip
 rename_i b r m t tl hb he ht;rw[he] at R;unfold gB at R;obtain⟨sv,vs',rfl,hs,hnil⟩:=R;unfold gB at hnil;subst hnil;have ht':=XZ ht;subst ht'
 split at h
 ·rename_i a1 s1 z1 p1 esz bytes z e1;obtain⟨et,hu,rfl,rfl,hz⟩:=ku hT e1;obtain⟨zv,hzr,J⟩:=DX hz.symm
  split at h
  ·rename_i sz rows hbk
   cases hb:(Nat.beq sz (P.cellsOf et)&&Nat.beq (lG z) sz&&jo sz&&iE z) with
   | false=>rw[hb] at h;exact h.elim
   | true =>
    rw[hb] at h;simp only[cond_true] at h;simp only[Bool.and_eq_true,kX] at hb;obtain⟨⟨⟨h1,h2⟩,h3⟩,h4⟩:=hb;have h1:=Nat.eq_of_beq_eq_true h1;have h2:=Nat.eq_of_beq_eq_true h2;subst h1
    have hpos:0<P.cellsOf et:=by
     rcases Nat.eq_zero_or_pos (P.cellsOf et) with h0|h0
     rw[h0] at h3;simp[jo] at h3
     exact h0
    have hinf:=jD h3
    cases hi:P.info? et with
    | none=>exact absurd hi hinf
    | some inf =>
    have hst:=hlk _ _ hbk;obtain⟨z2,hl2,hc2,hw2,h,_⟩:=yL h;have hzrep2:∀ w Y σ,gB w Y σ z2 zv.cells.toList:=λw Y σ=>hw2 _ _ _ _ (J w Y σ);have hspl:(iK.jd P T).spl rows r ((iK.jd P T).rep m z2)=rows.take r++List.replicate m z2++rows.drop (r+m):=by simp[iK.jd]
    rw[hspl] at h;have U:zv.cells.size=P.cellsOf et:=by have:=(J w Y σ).length;rw[Array.length_toList] at this;omega
    have I:m=0->∀ x cap,sv=.slice x 0 cap->nY P C o a w σ ps st n id K:=by
     intro hm x cap hsv;subst hm;have e0:rows.take r++List.replicate 0 z2++rows.drop (r+0)=rows:=by simp
     rw[e0] at h;refine sU ho (δ:=_) (cv:=.tuple #[]) (w':=w) (Y':=Y) (σ':=σ) (λty cs=>?_) ?_ ?_ (Off.refl _ _) h
     rw[hvs,hsv];cases x<;>simp[builtin,Builtin.clear_,Sem.run_bind,jA hu,Result.andThen,Sem.run_pure]
     exact (H.ext λc x hx=>by
      simp only[iW] at hx;rw[iG] at hx
      by_cases hc:b=c
      subst hc;rw[if_pos rfl] at hx;cases hx;exact hst
      rw[if_neg hc] at hx;exact hx).mono dS
     simp[Rep,gB]
    unfold Rep at hs;rcases hs with ⟨l,cap,hl,e,hmc,htot,hnr⟩|⟨e0,sx,e⟩
    by_cases hm0:m=0
    subst hm0;exact I rfl _ _ e
    subst e;have hB:=gJ.wW H hlk hbk hl;unfold gJ at hB;obtain⟨⟨arr,tyb,ha,has⟩,g,_,⟨hle,hlnr⟩,hrows,hm,_⟩:=hB;rw[g] at htot
    let zs:List Value:=(Builtin.zeroCells zv.cells m).toList;have hzs:zs.length=m*P.cellsOf et:=by simp[zs,Builtin.zeroCells,U]
    have hzg:∀ i,i<m*P.cellsOf et->zs[i]?=zv.cells.toList[i % P.cellsOf et]?:=by
     intro i hi2;have hlt:i % P.cellsOf et<zv.cells.size:=by rw[U];exact Nat.mod_lt _ hpos
     simp only[zs,Builtin.zeroCells,Array.getElem?_toList,Array.getElem?_map];rw[Array.getElem?_range,if_pos (by rw[U];exact hi2)];simp only[Option.map_some,U];rw[U] at hlt;rw[<- U] at hlt |-;simp[getElem!_def,hlt]
    have hone:∀ v∈zs,Ph v=true:=by
     intro v hv;obtain⟨i,hi2,e⟩:=List.mem_iff_getElem.1 hv;have:zs[i]?=some v:=by rw[List.getElem?_eq_getElem hi2,e]
     rw[hzg i (by rw[<- hzs];exact hi2)] at this;exact yf _ _ h4 (J w Y σ) v (List.mem_of_getElem? this)
    have hrm:r+m<=rows.length:=by omega
    have hbnd:l.co+r*P.cellsOf et+zs.length<=arr.size:=by
     rw[has,hzs];have:=Nat.mul_le_mul_right (P.cellsOf et) hrm;rw[Nat.add_mul] at this;omega
    obtain⟨w',hrun,W⟩:=vJ (P:=P) (o:=l.co+r*P.cellsOf et) zs 0 w arr ha (by simpa using hbnd) hone;have W:Wrote w w' l.cb (l.co+r*P.cellsOf et) arr tyb zs:=by simpa using W
    obtain⟨arr',h5,h6,h7⟩:=W.blk;have K0:Keep w w' Y Y iQ iQ:=⟨λk _ hk=>W.other k (λe=>hk (e ▸ hm rfl)),λ_ _ h=>h,Nat.le_of_eq W.size.symm,mg.refl _⟩;have hlen:(rows.take r++List.replicate m z2++rows.drop (r+m)).length=rows.length:=by simp;omega
    refine sU ho (δ:=[(b,some (.arr false (P.cellsOf et) (rows.take r++List.replicate m z2++rows.drop (r+m))))]) (v:=.FH []) (cv:=.tuple #[]) (w':=w') (Y':=Y) (σ':=σ) (λty cs=>?_) ((SW.update (x':=.arr false (P.cellsOf et) (rows.take r++List.replicate m z2++rows.drop (r+m))) H hst hl (hm rfl) W.os W.tape W.output W.size W.other (λ_ _ e=>by cases e) λ_=>?_).mono (Nat.le_max_left _ _)) (by simp[Rep,gB]) (Off.refl _ _) h
    rw[hvs];obtain⟨m',rfl⟩:∃ m',m=m'+1:=⟨m-1,by omega⟩;simp only[builtin,Builtin.clear_,List.getElem?_toArray,List.getElem?_cons_zero,Sem.run_bind,jA hu,Result.andThen,hzr,g];rw[show (storeCells ⟨l.cb,l.co+r*P.cellsOf et,none⟩ (Builtin.zeroCells zv.cells (m'+1)).toList).run P w=.ok () w' from hrun];simp[Sem.run_pure]
    unfold gJ;refine⟨⟨arr',tyb,h5,by omega⟩,g,hpos,⟨by rw[hlen];exact hle,by rw[hlen];exact hlnr⟩,?_,hm,λh=>by cases h⟩;rw[jh.iff] at hrows |-;intro i q hq
    by_cases hin:r<=i/\i<r+m
    have hqz:q=z2:=by
     rw[List.append_assoc,List.getElem?_append_right bM,List.getElem?_append_left bM,List.getElem?_replicate] at hq
     split at hq
     exact (Option.some.inj hq).symm
     cases hq
    subst hqz;refine⟨⟨hl2.trans h2,hc2 h4⟩,?_⟩;rw[jc.iff];intro c p hc;obtain⟨v,hv,hrv⟩:=(hzrep2 w' Y iQ).get? hc;refine⟨v,?_,hrv⟩
    have hcl:c<P.cellsOf et:=by
     rw[<- h2,<- hl2]
     by_cases hh:c<q.length
     exact hh
     rw[List.getElem?_eq_none (Nat.le_of_not_lt hh)] at hc;cases hc
    have e1:l.co+i*P.cellsOf et+c-(l.co+r*P.cellsOf et)=(i-r)*P.cellsOf et+c:=by
     obtain⟨d,rfl⟩:∃ d,i=r+d:=⟨i-r,by omega⟩;rw[Nat.add_mul,show r+d-r=d by omega];omega
    have e2:(i-r)*P.cellsOf et+c<m*P.cellsOf et:=by
     have:=Nat.mul_le_mul_right (P.cellsOf et) (show (i-r)+1<=m by omega);rw[Nat.add_mul] at this;omega
    have e3:=Nat.mul_le_mul_right (P.cellsOf et) hin.1;rw[cell_of_block h5,h7,if_pos ⟨by omega,by rw[hzs];omega⟩,e1,hzg _ e2];rw[show ((i-r)*P.cellsOf et+c) % P.cellsOf et=c by rw[Nat.add_comm,Nat.add_mul_mod_self_right];exact Nat.mod_eq_of_lt hcl];exact hv
    have hq' : rows[i]?=some q:=by
     by_cases hir:i<r
     rw[List.append_assoc,List.getElem?_append_left bM,List.getElem?_take_of_lt hir] at hq;exact hq
     rw[List.getElem?_append_right bM,List.getElem?_drop] at hq;rw[<- hq];congr 1;simp;omega
    obtain⟨g1,g2⟩:=hrows i q hq';refine⟨g1,?_⟩;rw[jc.iff] at g2 |-;intro c p hc;obtain⟨v,hv,hrv⟩:=g2 c p hc;refine⟨v,?_,Rep.keep p K0 v hrv⟩
    have hcl:c<P.cellsOf et:=by
     rw[<- g1.1]
     by_cases hh:c<q.length
     exact hh
     rw[List.getElem?_eq_none (Nat.le_of_not_lt hh)] at hc;cases hc
    rw[cell_of_block ha] at hv;rw[cell_of_block h5,h7,if_neg,hv]
    rintro⟨g3,g4⟩
    rw[hzs] at g4;rcases Nat.lt_or_ge i r with g5|g5
    have:=Nat.mul_le_mul_right (P.cellsOf et) (show i+1<=r by omega);rw[Nat.add_mul] at this;omega
    have:=Nat.mul_le_mul_right (P.cellsOf et) (show r+m<=i by omega);rw[Nat.add_mul] at this;omega
    subst e0;exact I rfl _ _ e
  exact h.elim
 exact h.elim
end
end Go.Pv
namespace Go.Pv
open Go
theorem Pn {f:PV->Option PV}:∀ {cs U:List PV},Jc f cs=some U->cs.length=U.length/\∀ (i:Nat) (c d:PV),cs[i]?=some c->U[i]?=some d->f c=some d
 | [],U,h=>by simp[Jc] at h;subst h;simp
 | c::cs,U,h=>by
  unfold Jc at h
  split at h
  cases h
  rename_i d C
  split at h
  cases h
  rename_i J T;cases h;obtain⟨h1,h2⟩:=Pn T;refine⟨by simp[h1],λi I g e1 R=>?_⟩
  cases i with
  | zero=>simp at e1 R;subst e1;subst R;exact C
  | succ i=>exact h2 i I g (by simpa using e1) (by simpa using R)
theorem afR {w:World}{Y0:Nat->Prop}{b sz:Nat}:∀ {rows:List (List PV)},(∀ row∈rows,∀ (c:Nat) (h:Hdr) (T : Nat) (I:List (List PV)),row[c]?=some (.ow h T I)->I≠[]->(h.ν<w.heap.size/\¬ Y0 h.ν)/\jh w Y0 iQ h.ν T I h.o) ->
  ∀ (o:Nat),jh w Y0 iQ b sz rows o->jh w Y0 iQ b sz (rows.map λrow=>row.map fzC) o:=by
 intro rows J o hr;rw[jh.iff] at hr |-;intro i q hi;rw[List.getElem?_map] at hi
 cases hq:rows[i]? with
 | none=>rw[hq] at hi;cases hi
 | some row =>
  rw[hq] at hi;simp only[Option.map_some,Option.some.injEq] at hi;subst hi;obtain⟨⟨h1,h2⟩,g⟩:=hr i row hq;refine⟨⟨by simpa using h1,?_⟩,?_⟩
  rw[qi] at h2 |-;intro p hp;obtain⟨p0,U,rfl⟩:=List.mem_map.1 hp;have:=h2 p0 U;unfold fzC
  split
  rfl
  exact this
  rw[jc.iff] at g |-;intro c p R;rw[List.getElem?_map] at R
  cases U:row[c]? with
  | none=>rw[U] at R;cases R
  | some p0 =>
   rw[U] at R;simp only[Option.map_some,Option.some.injEq] at R;subst R;obtain⟨v,hv,hp⟩:=g c p0 U;refine⟨v,hv,?_⟩;unfold fzC
   split
   rename_i h T I;unfold Rep at hp |-;rcases hp with ⟨C,p2,p3⟩|⟨p1,a,cap,p2⟩
   obtain⟨g1,g2⟩:=J row (List.mem_of_getElem? hq) c h T I U C;exact⟨_,_,_,p2,rfl,p3,(λh=>by cases h),.inr ⟨_,_,rfl,g1,g2⟩⟩
   subst p1;exact⟨a,0,cap,p2,rfl,Nat.zero_le _,(λh=>by cases h),.inl rfl⟩
   exact hp
theorem Gl {P:Program}{T:Tab}{w:World}{Y Y0:Nat->Prop}{σ:Sg}{st:St}{lk:Nat->Option jq}(g:I8 w Y σ st)(C:∀ b x,lk b=some x->iO st b=some x)
  (hY:∀ k,Y0 k->Y k) (U:∀ b x l,lk b=some x->σ b=some l->¬ Y0 l.cb) (J:∀ b sz rows,lk b=some (.kH sz rows)->∀ (r:Nat) (row:List PV) (c:Nat) (h:Hdr) (sz' : Nat) (es:List (List PV)),rows[r]?=some row->row[c]?=some (.ow h sz' es)->es≠[]->(h.ν<w.heap.size/\¬ Y0 h.ν)/\jh w Y iQ h.ν sz' es h.o):∀ (d:Nat) (p q:PV) (v:Value),frz (iK.jd P T) lk d p=some q->Rep w Y σ p v->Rep w Y0 iQ q v
 | 0,_,_,_,h,_=>by simp[frz] at h
 | d+1,p,q,v,h,hp=>by
  have K0:Keep w w Y Y0 iQ iQ:=⟨λ_ _ _=>rfl,λk _=>hY k,Nat.le_refl _,mg.refl _⟩
  have list:∀ {cs ds:List PV} {vs:List Value},Jc (frz (iK.jd P T) lk d) cs=some ds->gB w Y σ cs vs->gB w Y0 iQ ds vs:=by
   intro cs ds vs hm hr;obtain⟨h1,h2⟩:=Pn hm;refine gB.CU _ _ (by rw[hr.length,h1]) (λi e u e1 e2=>?_)
   have I:i<cs.length:=by
    rw[h1]
    by_cases hh:i<ds.length
    exact hh
    rw[List.getElem?_eq_none (Nat.le_of_not_lt hh)] at e1;cases e1
   have hc:cs[i]?=some cs[i]:=List.getElem?_eq_getElem I;obtain⟨u',e3,e4⟩:=hr.get? hc;rw[e2] at e3;cases e3;exact Gl g C hY U J d _ _ _ (h2 i _ _ hc e1) e4
  unfold frz at h;cases p
  case bool b=>cases h;unfold Rep at hp |-;exact hp
  case sb b=>cases h;unfold Rep at hp |-;exact hp
  case int k n=>cases h;unfold Rep at hp |-;exact hp
  case si k n=>cases h;unfold Rep at hp |-;exact hp
  case str s=>cases h;unfold Rep at hp |-;exact hp
  case Bv=>cases h;unfold Rep at hp |-;exact hp
  case LP=>cases h;unfold Rep at hp |-;exact hp
  case sl sz es full =>
   cases h
   have h2:Rep w Y iQ (.sl sz es false) v:=by
    unfold Rep at hp |-;obtain⟨a,len,cap,e,hl,hc,_,hr⟩:=hp;exact⟨a,len,cap,e,hl,hc,(λh=>by cases h),hr⟩
   exact Rep.keep _ K0 v h2
  case pp cs =>
   cases h;have h2:Rep w Y iQ (.pp cs) v:=by unfold Rep at hp |-;exact hp
   exact Rep.keep _ K0 v h2
  case agg cs =>
   simp only at h
   split at h
   rename_i ds hd;cases h;unfold Rep at hp |-;obtain⟨vs,e,hr⟩:=hp;exact⟨vs,e,list hd hr⟩
   cases h
  case FH cs =>
   simp only at h
   split at h
   rename_i ds hd;cases h;unfold Rep at hp |-;obtain⟨vs,e,hr⟩:=hp;exact⟨vs,e,list hd hr⟩
   cases h
  case fn f cs =>
   simp only at h
   split at h
   rename_i ds hd;cases h;unfold Rep at hp |-;obtain⟨vs,e,hr⟩:=hp;exact⟨vs,e,list hd hr⟩
   cases h
  case lv b c =>
   simp only at h
   split at h
   rename_i ro row hb
   split at h
   rename_i ds hd;cases h;unfold Rep at hp;obtain⟨l,hl,e⟩:=hp;rcases g.blk b _ (C _ _ hb) with ⟨l',R,hB⟩|⟨hn,_⟩
   rw[hl] at R;cases R;have I:=hB.lt;unfold gJ at hB;rw[su] at hd;obtain⟨vs,hr,hcell⟩:=(hB.2.2.2.1.drop c _ _).vals;unfold Rep;refine⟨l.cb,l.co+c,e,⟨I,U b _ l hb hl⟩,jc.Hw _ _ _ (list hd hr) hcell⟩
   rw[hl] at hn;cases hn
   cases h
   cases h
  case os b r n =>
   simp only at h
   split at h
   rename_i ro sz rows hb;cases h;obtain⟨a,cap,e1,e2,e3,e4⟩:=ER hp (g.blk b _ (C _ _ hb));unfold Rep;refine⟨a,n,cap,e1,e3,e2,(λh=>by cases h),?_⟩;rcases e4 with e4|⟨b',o,ea,eb,⟨l,el,el'⟩,er⟩
   exact .inl e4
   refine .inr ⟨b',o,ea,⟨eb,by rw[el'];exact U b _ l hb el⟩,?_⟩;exact jh.keep _ K0 (λ_=>rfl) _ er
   rename_i sz rows hb;cases h;unfold Rep at hp;rcases hp with ⟨l,cap,hl,e,hcap,htot,hrn⟩|⟨rfl,a,e⟩
   rcases g.blk b _ (C _ _ hb) with ⟨l',R,hB⟩|⟨hn,_⟩
   rw[hl] at R;cases R;have I:=hB.lt;unfold gJ at hB;have hlen:(((rows.drop r).take n).map λrow=>row.map fzC).length=n:=by rw[List.length_map,List.length_take,List.length_drop];omega
   unfold Rep;refine⟨_,n,cap,e,?_,hcap.1,(λh=>by cases h),.inr ⟨l.cb,_,rfl,⟨I,U b _ l hb hl⟩,?_⟩⟩
   exact hlen.symm
   rw[hB.2.1];have hr:=jh.keep _ K0 (λ_=>rfl) _ ((hB.2.2.2.2.1.drop r _ _).take n _ _);refine afR ?_ _ hr;intro row hrow c h sz' es hc hne;have hm:=List.mem_of_mem_drop (List.mem_of_mem_take hrow);obtain⟨i,hi⟩:=List.getElem?_of_mem hm;obtain⟨h1,h2⟩:=J b sz rows hb i row c h sz' es hi hc hne;exact⟨h1,jh.keep es K0 (λ_=>rfl) _ h2⟩
   rw[hl] at hn;cases hn
   unfold Rep;refine⟨a,0,0,e,?_,Nat.le_refl _,(λh=>by cases h),.inl ?_⟩
   show 0=(((rows.drop r).take 0).map λrow=>row.map fzC).length;simp
   show ((rows.drop r).take 0).map (λrow=>row.map fzC)=[];simp
   cases h
  all_goals cases h
theorem NG {P:Program}{T:Tab}{w:World}{Y Y0:Nat->Prop}{σ:Sg}{st:St}{lk:Nat->Option jq}(g:I8 w Y σ st)(C:∀ b x,lk b=some x->iO st b=some x)
  (hY:∀ k,Y0 k->Y k) (U:∀ b x l,lk b=some x->σ b=some l->¬ Y0 l.cb) (R:∀ b sz rows,lk b=some (.kH sz rows)->∀ (r:Nat) (row:List PV) (c:Nat) (h:Hdr) (J : Nat) (es:List (List PV)),rows[r]?=some row->row[c]?=some (.ow h J es)->es≠[]->(h.ν<w.heap.size/\¬ Y0 h.ν)/\jh w Y iQ h.ν J es h.o) {d:Nat} {cs I:List PV} {vs:List Value} (hm:Jc (frz (iK.jd P T) lk d) cs=some I) (hr:gB w Y σ cs vs):gB w Y0 iQ I vs:=by
 obtain⟨h1,h2⟩:=Pn hm;refine gB.CU _ _ (by rw[hr.length,h1]) (λi e u e1 e2=>?_)
 have hlt:i<cs.length:=by
  rw[h1]
  by_cases hh:i<I.length
  exact hh
  rw[List.getElem?_eq_none (Nat.le_of_not_lt hh)] at e1;cases e1
 have hc:cs[i]?=some cs[i]:=List.getElem?_eq_getElem hlt;obtain⟨u',e3,e4⟩:=hr.get? hc;rw[e2] at e3;cases e3;exact Gl g C hY U R d _ _ _ (h2 i _ _ hc e1) e4
theorem X0 {w w' : World}{Y Y' : Nat->Prop}{σ σ' : Sg}:∀ (d:Nat) (p:PV) (v:Value),Gf d p=true->Rep w Y σ p v->Rep w' Y' σ' p v
 | 0,_,_,h,_=>by simp[Gf] at h
 | d+1,p,v,h,hp=>by
  have list:∀ (cs:List PV) (vs:List Value),XD (Gf d) cs=true->gB w Y σ cs vs->gB w' Y' σ' cs vs:=by
   intro cs
   induction cs with
   | nil=>intro vs _ hr;unfold gB at hr |-;exact hr
   | cons c cs ih =>
    intro vs O hr;simp only[XD,Bool.and_eq_true] at O;unfold gB at hr |-;obtain⟨u,us,e,h1,h2⟩:=hr;exact⟨u,us,e,X0 d c u O.1 h1,ih us O.2 h2⟩
  unfold Gf at h;cases p
  case agg cs=>unfold Rep at hp |-;obtain⟨vs,e,hr⟩:=hp;exact⟨vs,e,list _ _ h hr⟩
  case FH cs=>unfold Rep at hp |-;obtain⟨vs,e,hr⟩:=hp;exact⟨vs,e,list _ _ h hr⟩
  all_goals first|(cases h;done)|(unfold Rep at hp |-;exact hp)
theorem Rep.ajA {w:World}{Y:Nat->Prop}{σ:Sg}{p:PV}{v:Value}(h:Rep w Y iQ p v):Rep w Y σ p v :=
 Rep.keep p ⟨λ_ _ _=>rfl,λ_ _ h=>h,Nat.le_refl _,λ_ _ h=>by cases h⟩ v h
def NH {T:Tab}(P:Program)(k:Nat)(C:Ctx T)(Y:Nat->Prop)(σ:Sg)(w:World)(cargs:List Value)(ps:List PV)(vs:List Value)(st:St)(n:Nat)(v:PV):Prop :=
 (callFunc k cargs.toArray).run P w=.ok (.enter k cargs.toArray) w /\
 Calls P k cargs.toArray w λe w'=>∃ cv,e=.returned cv/\SW C w' Y σ ps vs st n/\Rep w' Y σ v cv
theorem Po {P:Program}{T:Tab}{C:Ctx T}{w:World}{Y:Nat->Prop}{σ:Sg}{ps:List PV}{vs:List Value}{st:St}{n:Nat}(H:SW C w Y σ ps vs st n){lk:Nat->Option jq}(R:∀ b x,lk b=some x->iO st b=some x){k d:Nat}{args as:List PV}{U:List Value}{v:PV}
  (I:Jc (frz (iK.jd P T) lk d) args=some as) (hr:gB w Y σ args U) (hF:Fn P T.gl k as (λu=>u=v)) {f:Nat} (O:Gf f v=true):NH P k C Y σ w U ps vs st n v:=by
 obtain⟨h1,h2⟩:=hF w (λ_=>False) U (H.wz.keep ⟨λ_ _ _=>rfl,λ_ _ h=>h.elim,Nat.le_refl _,mg.refl _⟩) (λ_ h=>h.elim) (NG H.store R (λ_ h=>h.elim) (λ_ _ _ _ _ h=>h) (λb sz rows hb r row c h sz' es h1 h2 g=>by
  have hO:=H.nest.rep _ _ _ _ _ _ ⟨sz,rows,row,R _ _ hb,h1,h2,g⟩;exact⟨⟨hO.lt,λh=>h⟩,hO.rows⟩) I hr)
 refine⟨h1,Calls.mono h2 λe w' h=>?_⟩;obtain⟨cv,u,rfl,rfl,hrep,J⟩:=h;exact⟨cv,rfl,H.afL J,X0 f _ _ O hrep⟩
theorem Ql.adF {P:Program}{T:Tab}{k:Nat}{args:List PV}{E:Env}{K:PV->Env->Prop}{v:PV}(J:K v E)
  (h:∀ (C:Ctx T) Y σ w vs U,SW C w Y σ E.tmps vs E.st E.next->gB w Y σ args U->NH P k C Y σ w U E.tmps vs E.st E.next v):Ql P T k args E K:=by
 intro C Y σ w vs U H hr;obtain⟨h1,h2⟩:=h C Y σ w vs U H hr;refine⟨h1,Calls.mono h2 λe w' hh=>?_⟩;obtain⟨cv,rfl,R,hv⟩:=hh;exact⟨cv,v,E,Y,σ,rfl,J,R,hv⟩
end Go.Pv
namespace Go.Pv
open Go
theorem Gm:∀ (l:List Nat) (c:Nat),ve l c=true↔c∈l
 | [],c=>by simp[ve]
 | b::l,c=>by
  simp only[ve]
  by_cases h:b=c
  subst h;simp
  rw[Nv h];simp only[cond_false,Gm l c,List.mem_cons];constructor
  intro hh;exact .inr hh
  rintro (hh|hh)
  exact absurd hh.symm h
  exact hh
theorem X3:∀ (l:List Nat) (c:Nat),zX l c=l++[c]
 | [],c=>rfl
 | b::l,c=>by simp[zX,X3 l c]
theorem Jp:∀ l:List Nat,kZ l=l.length
 | []=>rfl
 | _::l=>by simp[kZ,Jp l]
theorem Sj:∀ (l:List Nat) (i:Nat),UN l i=l[i]?
 | [],i=>by simp[UN]
 | b::l,0=>by simp[UN]
 | b::l,i+1=>by simp[UN,Sj l i]
theorem QU:∀ l m:List Nat,Zj l m=l++m
 | [],m=>rfl
 | b::l,m=>by simp[Zj,QU l m]
theorem NI:∀ (n i j:Nat),(upN i n)[j]?=if j<n then some (i+j) else none
 | 0,i,j=>by simp[upN]
 | n+1,i,0=>by simp[upN]
 | n+1,i,j+1=>by
  simp only[upN,List.getElem?_cons_succ,NI n (i+1) j]
  by_cases h:j<n
  rw[if_pos h,if_pos ah];congr 1;omega
  rw[if_neg h,if_neg ah]
theorem QV:∀ (n i:Nat),(upN i n).length=n
 | 0,i=>rfl
 | n+1,i=>by simp[upN,QV n (i+1)]
theorem aa6 {n i b:Nat}(h:b∈upN i n):i<=b/\b<i+n:=by
 obtain⟨j,hj⟩:=List.getElem?_of_mem h;rw[NI] at hj
 split at hj
 cases hj;omega
 cases hj
theorem Pq:∀ (n i:Nat),(upN i n).Nodup
 | 0,i=>by simp[upN]
 | n+1,i=>by
  simp only[upN,List.nodup_cons];exact⟨λh=>by have:=aa6 h;omega,Pq n (i+1)⟩
theorem Sl:∀ l:List Nat,VM l=true->l.Nodup
 | [],_=>by simp
 | b::l,h=>by
  simp only[VM] at h
  cases hb:ve l b with
  | true=>rw[hb] at h;cases h
  | false =>
   rw[hb] at h;rw[List.nodup_cons];exact And.intro (λU=>by rw[(Gm l b).2 U] at hb;cases hb) (Sl l h)
theorem V7:∀ (l:List Nat) (b i:Nat),ixN l b=some i->l[i]?=some b
 | [],b,i,h=>by simp[ixN] at h
 | c::l,b,i,h=>by
  simp only[ixN] at h
  by_cases U:c=b
  subst U;simp at h;subst h;simp
  rw[Nv U] at h;simp only[cond_false] at h
  split at h
  rename_i j hj;cases h;simpa using V7 l b j hj
  cases h
theorem Bd (f:PV->PV):∀ l,DR f l=l.map f
 | []=>rfl
 | x::l=>by simp[DR,Bd f l]
theorem Px {l:List Nat}(h:l.Nodup){i j b:Nat}(hi:l[i]?=some b)(hj:l[j]?=some b):i=j:=by
 have h1:i<l.length:=by
  by_cases hh:i<l.length
  exact hh
  rw[List.getElem?_eq_none (Nat.le_of_not_lt hh)] at hi;cases hi
 exact (List.getElem?_inj h1 h).1 (by rw[hi,hj])
theorem Jq {f:List Nat->PV->List Nat}(O:∀ acc v,acc.Nodup->(f acc v).Nodup/\∃ s,f acc v=acc++s):∀ (vs:List PV) (acc:List Nat),acc.Nodup->(yJ f acc vs).Nodup/\∃ s,yJ f acc vs=acc++s
 | [],acc,h=>⟨h,[],by simp[yJ]⟩
 | v::vs,acc,h=>by
  obtain⟨h1,s,h2⟩:=O acc v h;obtain⟨R,U,T⟩:=Jq O vs (f acc v) h1;exact⟨R,s++U,by simp only[yJ];rw[T,h2,List.append_assoc]⟩
theorem QW (st:St):∀ (d:Nat) (acc:List Nat) (v:PV),acc.Nodup->(BV st d acc v).Nodup/\∃ s,BV st d acc v=acc++s
 | 0,acc,v,h=>⟨h,[],by simp[BV]⟩
 | d+1,acc,v,h=>by
  have fold:=λ(vs:List PV) (acc:List Nat) (h:acc.Nodup)=>Jq (f:=BV st d) (λacc v=>QW st d acc v) vs acc h
  have one:∀ b,(bif ve acc b then acc else zX acc b).Nodup/\∃ s,(bif ve acc b then acc else zX acc b)=acc++s:=by
   intro b
   cases hb:ve acc b with
   | true=>exact⟨h,[],by simp⟩
   | false =>
    simp only[cond_false,X3];exact⟨by rw[List.nodup_append];exact⟨h,by simp,λa I c J=>by simp at J;subst J;intro e;subst e;rw[(Gm acc a).2 I] at hb;cases hb⟩,[b],rfl⟩
  have nor:∀ b,(bif ve acc b then acc else match iO st b with|some (.nor _ _ _ row)=>yJ (BV st d) (zX acc b) row|_=>zX acc b).Nodup/\∃ s,(bif ve acc b then acc else match iO st b with|some (.nor _ _ _ row)=>yJ (BV st d) (zX acc b) row|_=>zX acc b)=acc++s:=by
   intro b;have h1:=one b
   cases hb:ve acc b with
   | true=>exact⟨h,[],by simp⟩
   | false =>
    rw[hb] at h1;simp only[cond_false] at h1 |-
    split
    rename_i row _;obtain⟨h2,s,R⟩:=fold row _ h1.1;obtain⟨_,U,T⟩:=h1;exact⟨h2,U++s,by rw[R,T,List.append_assoc]⟩
    exact h1
  unfold BV
  split
  exact nor _
  exact nor _
  exact one _
  exact one _
  exact one _
  rename_i b c;have h1:=one b
  cases hb:ve acc b with
  | true=>exact⟨h,[],by simp⟩
  | false =>
   rw[hb] at h1;simp only[cond_false] at h1 |-
   split
   rename_i row _;obtain⟨h2,s,R⟩:=fold row _ h1.1;obtain⟨_,U,T⟩:=h1;exact⟨h2,U++s,by rw[R,T,List.append_assoc]⟩
   exact h1
  exact fold _ _ h
  exact fold _ _ h
  exact fold _ _ h
  exact⟨h,[],by simp⟩
theorem NJ (st:St):∀ (l acc:List Nat),acc.Nodup->(Qg st acc l).Nodup/\∃ s,Qg st acc l=acc++s
 | [],acc,h=>⟨h,[],by simp[Qg]⟩
 | b::l,acc,h=>by
  unfold Qg
  split
  rename_i ro row _;obtain⟨h1,s,h2⟩:=Jq (f:=BV st 8) (λacc v=>QW st 8 acc v) row acc h;obtain⟨R,U,T⟩:=NJ st l _ h1;exact⟨R,s++U,by rw[T,h2,List.append_assoc]⟩
  rename_i row _;obtain⟨h1,s,h2⟩:=Jq (f:=BV st 8) (λacc v=>QW st 8 acc v) row acc h;obtain⟨R,U,T⟩:=NJ st l _ h1;exact⟨R,s++U,by rw[T,h2,List.append_assoc]⟩
  exact NJ st l acc h
theorem NK (m:Nat)(st:St)(vs:List PV):(Ro m st vs).Nodup/\(∀ i,i<m->(Ro m st vs)[i]?=some i)/\m<=(Ro m st vs).length:=by
 obtain⟨h1,s,h2⟩:=NJ st (upN 0 m) (upN 0 m) (Pq m 0);obtain⟨R,U,T⟩:=Jq (f:=BV st 8) (λacc v=>QW st 8 acc v) vs _ h1;have e:Ro m st vs=upN 0 m++(s++U):=by unfold Ro;rw[T,h2,List.append_assoc]
 refine⟨R,λi hi=>?_,?_⟩
 rw[e,List.getElem?_append_left (by rw[QV];exact hi),NI,if_pos hi];simp
 rw[e,List.length_append,QV];omega
theorem gB.map {w:World}{Y:Nat->Prop}{σ σ' : Sg}{f:PV->PV}(O:∀ p v,Rep w Y σ p v->Rep w Y σ' (f p) v):∀ (ps:List PV) (vs:List Value),gB w Y σ ps vs->gB w Y σ' (ps.map f) vs
 | [],vs,h=>by unfold gB at h;subst h;simp[gB]
 | p::ps,vs,h=>by
  unfold gB at h;obtain⟨v,U,rfl,h1,h2⟩:=h;simp only[List.map_cons];unfold gB;exact⟨v,U,rfl,O _ _ h1,gB.map O ps U h2⟩
theorem jc.map {w:World}{Y:Nat->Prop}{σ σ' : Sg}{b:Nat}{f:PV->PV}(O:∀ p v,Rep w Y σ p v->Rep w Y σ' (f p) v):∀ (ps:List PV) (o:Nat),jc w Y σ b ps o->jc w Y σ' b (ps.map f) o
 | [],o,h=>by simp[jc]
 | p::ps,o,h=>by
  unfold jc at h;obtain⟨⟨v,U,h1⟩,h2⟩:=h;simp only[List.map_cons];unfold jc;exact⟨⟨v,U,O _ _ h1⟩,jc.map O ps (o+1) h2⟩
theorem xU {w:World}{Y:Nat->Prop}{σ σ' : Sg}{f:Nat->Option Nat}(O:∀ b i l,f b=some i->σ b=some l->σ' i=some l):∀ (d:Nat) (p:PV) (v:Value),Rep w Y σ p v->Rep w Y σ' (Af f d p) v
 | 0,p,v,_=>by simp[Af,Rep]
 | d+1,p,v,h=>by
  have U:=xU (w:=w) (Y:=Y) O d;unfold Af;cases p
  case os b r n =>
   simp only
   cases e:f b with
   | none=>simp[Rep]
   | some i =>
    unfold Rep at h |-;rcases h with ⟨l,cap,hl,h⟩|h
    exact .inl ⟨l,cap,O _ _ _ e hl,h⟩
    exact .inr h
  case lv b c =>
   simp only
   cases e:f b with
   | none=>simp[Rep]
   | some i=>unfold Rep at h |-;obtain⟨l,hl,h⟩:=h;exact⟨l,O _ _ _ e hl,h⟩
  case lp b r c =>
   simp only
   cases e:f b with
   | none=>simp[Rep]
   | some i=>unfold Rep at h |-;obtain⟨l,hl,h⟩:=h;exact⟨l,O _ _ _ e hl,h⟩
  case bo b r c hd sz n =>
   simp only
   cases e:f b with
   | none=>simp[Rep]
   | some i=>unfold Rep at h |-;exact h
  case np b r c hd sz j k =>
   simp only
   cases e:f b with
   | none=>simp[Rep]
   | some i=>unfold Rep at h |-;exact h
  case mp b =>
   simp only
   cases e:f b with
   | none=>simp[Rep]
   | some i =>
    unfold Rep at h |-;obtain⟨l,hs,T⟩:=h;exact⟨l,O _ _ _ e hs,T⟩
  case agg cs=>simp only[Bd];unfold Rep at h |-;obtain⟨vs,e,h⟩:=h;exact⟨vs,e,h.map U⟩
  case FH cs=>simp only[Bd];unfold Rep at h |-;obtain⟨vs,e,h⟩:=h;exact⟨vs,e,h.map U⟩
  case fn k cs=>simp only[Bd];unfold Rep at h |-;obtain⟨vs,e,h⟩:=h;exact⟨vs,e,h.map U⟩
  all_goals (simp only;unfold Rep at h |-;exact h)
theorem Mc {w:World}{Y:Nat->Prop}{σ σ' : Sg}{f:Nat->Option Nat}(O:∀ b i l,f b=some i->σ b=some l->σ' i=some l){l:Loc}{x y:jq}(hx:Ag f (some x)=some y)(h:gJ w Y σ l x):gJ w Y σ' l y:=by
 cases x with
 | var ro row =>
  simp only[Ag,Option.some.injEq] at hx;subst hx;unfold gJ at h |-;rw[Bd];obtain⟨h1,h2,T,U,h5⟩:=h;exact⟨h1,by simpa using h2,by simpa using T,U.map (xU O 8) _ _,h5⟩
 | arr ro sz rows =>
  simp only[Ag,Option.some.injEq] at hx;subst hx;unfold gJ at h |-;exact h
 | kH sz rows =>
  simp only[Ag,Option.some.injEq] at hx;subst hx;unfold gJ at h |-;exact h
 | map rows =>
  simp only[Ag,Option.some.injEq] at hx;subst hx;unfold gJ at h |-;exact h
 | nor sz rows r row =>
  simp only[Ag,Option.some.injEq] at hx;subst hx;unfold gJ at h |-;rw[Bd];obtain⟨h1,h2,T,U,⟨h5,I⟩,C,R,J⟩:=h;exact⟨h1,h2,T,U,⟨h5,by simpa using I⟩,C,R.map (xU O 8) _ _,J⟩
theorem X4 {f:Nat->Option Nat}{x:jq}{sz:Nat}{rows:List (List PV)}(h:Ag f (some x)=some (.kH sz rows)):x=.kH sz rows:=by
 cases x with
 | var ro row=>simp[Ag] at h
 | arr ro s rs=>simp[Ag] at h
 | kH s rs=>simpa [Ag] using h
 | map rs=>simp[Ag] at h
 | nor s rs r row=>simp[Ag] at h
theorem Sm {f:Nat->Option Nat}{ro:Bool}{sz:Nat}:∀ {x y:jq},Ag f (some x)=some y->x=.arr ro sz []->y=.arr ro sz []:=by
 intro x y h e;subst e;simp[Ag] at h;exact h.symm
theorem Py {f:Nat->Option Nat}{o:Option jq}{y:jq}(h:Ag f o=some y):∃ x,o=some x:=by
 cases o with
 | none=>simp[Ag] at h
 | some x=>exact⟨x,rfl⟩
theorem Sr (f:Nat->Option Nat)(st:St):∀ (ρ:List Nat) (i j:Nat),iO (DT f st i ρ) j=if i<=j then (match ρ[j-i]? with|some b=>Ag f (iO st b)|none=>none) else none
 | [],i,j=>by simp[DT,iO]
 | b::ρ,i,j=>by
  simp only[DT,iO]
  by_cases h:i=j
  subst h;simp
  rw[Nv h];simp only[cond_false,Sr f st ρ (i+1) j]
  by_cases h2:i<=j
  rw[if_pos h2,if_pos ah,show j-i=(j-(i+1))+1 by omega];simp
  rw[if_neg h2,if_neg ah]
theorem SW.abV {T:Tab}{C:Ctx T}{w:World}{Y:Nat->Prop}{σ:Sg}{ps:List PV}{vs:List Value}{st:St}{n:Nat}(H:SW C w Y σ ps vs st n){ρ:List Nat}(g:ρ.Nodup)(hpre:∀ i,i<T.qJ->ρ[i]?=some i)(hlen:T.qJ<=ρ.length) :
  ∃ σ',SW C w Y σ' (DR (Af (ixN ρ) 8) ps) vs (DT (ixN ρ) st 0 ρ) (kZ ρ)/\∀ p v d,Rep w Y σ p v->Rep w Y σ' (Af (ixN ρ) d p) v:=by
 let σ' : Sg:=λi=>match ρ[i]? with|some b=>σ b|none=>none
 have O:∀ b i l,ixN ρ b=some i->σ b=some l->σ' i=some l:=by
  intro b i l h1 h2;show (match ρ[i]? with|some b=>σ b|none=>none)=some l;rw[V7 _ _ _ h1];exact h2
 have look:∀ i x,iO (DT (ixN ρ) st 0 ρ) i=some x->∃ b y,ρ[i]?=some b/\iO st b=some y/\Ag (ixN ρ) (some y)=some x/\σ' i=σ b:=by
  intro i x hx;rw[Sr,if_pos (Nat.zero_le _),Nat.sub_zero] at hx
  split at hx
  rename_i b hb;obtain⟨y,hy⟩:=Py hx;rw[hy] at hx;refine⟨b,y,hb,hy,hx,?_⟩;show (match ρ[i]? with|some b=>σ b|none=>none)=_;rw[hb]
  cases hx
 refine⟨σ',⟨by rw[Bd];exact H.vals.map (xU O 8),⟨λi x hx=>?_,λi i' x x' l l' hx hx' hl I e=>?_⟩,λi hi=>?_,H.vg,H.y0,H.c0,H.vk,H.mf,λi x l hx hl=>?_,H.wz,?_,?_⟩,λp v d h=>xU O d p v h⟩
 obtain⟨b,y,h1,h2,h3,J⟩:=look i x hx;rcases H.store.blk b y h2 with ⟨l,hl,hB⟩|⟨hn,ro,sz,hy⟩
 exact .inl ⟨l,by rw[J];exact hl,Mc O h3 hB⟩
 exact .inr ⟨by rw[J];exact hn,ro,sz,Sm h3 hy⟩
 obtain⟨b,y,h1,h2,h3,J⟩:=look i x hx;obtain⟨b',y',R,h2',h3',h4'⟩:=look i' x' hx';rw[J] at hl;rw[h4'] at I;have:=H.store.inj b b' y y' l l' h2 h2' hl I e;subst this;exact Px g h1 R
 show (match ρ[i]? with|some b=>σ b|none=>none)=none;rw[List.getElem?_eq_none (by rw[Jp] at hi;exact hi)]
 obtain⟨b,y,h1,h2,h3,J⟩:=look i x hx;rw[J] at hl;exact H.own b y l h2 hl
 refine⟨by rw[Jp];exact hlen,λb hb=>?_⟩;show (match ρ[b]? with|some b=>σ b|none=>none)=_;rw[hpre b hb];exact H.fix.2 b hb
 have ow:∀ {i r c h sz U},lM (DT (ixN ρ) st 0 ρ) i r c h sz U->∃ b,ρ[i]?=some b/\lM st b r c h sz U:=by
  rintro i r c h sz U ⟨sz0,rows,row,h1,h2⟩
  obtain⟨b,y,g1,g2,g3,_⟩:=look i _ h1;have:=X4 g3;subst this;exact⟨b,g1,sz0,rows,row,g2,h2⟩
 refine⟨λi r c h sz U hk=>?_,λi r c h sz U hk=>?_,λi r c h sz U i' r' c' h' sz' es' hk hk' e=>?_,λi r c h sz U i' x l hk hx hl=>?_⟩
 obtain⟨b,_,hb⟩:=ow hk;exact H.nest.rep _ _ _ _ _ _ hb
 obtain⟨b,_,hb⟩:=ow hk;exact H.nest.old _ _ _ _ _ _ hb
 obtain⟨b,h1,hb⟩:=ow hk;obtain⟨b',R,hb'⟩:=ow hk';obtain⟨e1,e2,e3⟩:=H.nest.one _ _ _ _ _ _ _ _ _ _ _ _ hb hb' e;subst e1;exact⟨Px g h1 R,e2,e3⟩
 obtain⟨b,_,hb⟩:=ow hk;obtain⟨b',y,_,g2,_,g4⟩:=look i' x hx;rw[g4] at hl;exact H.nest.sep _ _ _ _ _ _ _ _ _ hb g2 hl
theorem Gn {w:World}{Y:Nat->Prop}{σ:Sg}:∀ (ps:List PV) (keep:List Nat) (i:Nat) (vs:List Value),gB w Y σ ps vs->gB w Y σ (Lm keep i ps) vs
 | [],keep,i,vs,h=>by simpa [Lm] using h
 | p::ps,[],i,vs,h=>by
  unfold gB at h;obtain⟨v,U,rfl,h1,h2⟩:=h;simp only[Lm];unfold gB;exact⟨v,U,rfl,by simp[Rep],Gn ps [] _ U h2⟩
 | p::ps,k::ks,i,vs,h=>by
  unfold gB at h;obtain⟨v,U,rfl,h1,h2⟩:=h;simp only[Lm]
  cases Nat.beq k i with
  | true=>simp only[cond_true];unfold gB;exact⟨v,U,rfl,h1,Gn ps ks _ U h2⟩
  | false=>simp only[cond_false];unfold gB;exact⟨v,U,rfl,by simp[Rep],Gn ps (k::ks) _ U h2⟩
theorem DY {T:Tab}(keep:List Nat)(E:Env):Ent T E (Jh T.qJ keep E):=by
 intro C a w hA;obtain⟨⟨Y,σ,H⟩,U⟩:=hA;have H1:=H.qo (Gn _ keep 0 _ H.vals);obtain⟨h1,h2,J⟩:=NK T.qJ E.st (Lm keep 0 E.tmps);obtain⟨σ',R,_⟩:=H1.abV h1 h2 J;exact⟨⟨Y,σ',R⟩,U⟩
theorem X5 (f:Nat->Option Nat)(st1:St):∀ (τ:List Nat) (i:Nat) (st:St) (b:Nat),τ.Nodup->(∀ j,τ[j]?=some b->iO (XE f st1 i τ st) b=Ag f (iO st1 (i+j)))/\(b ∉ τ->iO (XE f st1 i τ st) b=iO st b)
 | [],i,st,b,_=>⟨λj h=>by simp at h,λ_=>rfl⟩
 | c::τ,i,st,b,h=>by
  rw[List.nodup_cons] at h;obtain⟨h1,h2⟩:=X5 f st1 τ (i+1) (nI st c (Ag f (iO st1 i))) b h.2;simp only[XE];refine⟨λj hj=>?_,λhb=>?_⟩
  cases j with
  | zero =>
   simp at hj;subst hj;rw[h2 h.1,iG,if_pos rfl];rfl
  | succ j =>
   rw[h1 j dN];congr 2;omega
  simp only[List.mem_cons,not_or] at hb;rw[h2 hb.2,iG,if_neg λe=>hb.1 e.symm]
theorem X6 {n:Nat}:∀ l,ltN n l=true->∀ b∈l,b<n
 | [],_,b,h=>by cases h
 | c::l,h,b,hb=>by
  simp only[ltN,Bool.and_eq_true,Nat.blt_eq] at h;rcases List.mem_cons.1 hb with rfl|hb
  exact h.1
  exact X6 l h.2 b hb
theorem V8 {P:Program}{T:Tab}{C:Ctx T}{w:World}{Y:Nat->Prop}{σ:Sg}{E:Env}{vs:List Value}{n0 N:Nat}(H:SW C w Y σ E.tmps vs E.st n0){k:Nat}{args:List PV}{cargs:List Value}{ρ:List Nat}{v:PV}{st1:St}{n1:Nat}
  (hnd:VM ρ=true) (hlt:ltN E.next ρ=true) (hnn:qM (DT (ixN ρ) E.st 0 ρ)=true) (hid:T.qJ<=E.next) (hwin:∀ b,E.next<=b->b<E.next+(n1-kZ ρ)->σ b=none) (hN:E.next+(n1-kZ ρ)<=N/\n0<=N) (hr:gB w Y σ args cargs)
  (hF:FnS P T.gl k (DR (Af (ixN ρ) 8) args) (DT (ixN ρ) E.st 0 ρ) (kZ ρ) (λu st n=>u=v/\st=st1/\n=n1)) :
  (callFunc k cargs.toArray).run P w=.ok (.enter k cargs.toArray) w /\
  Calls P k cargs.toArray w λe w'=>∃ cv Y' σ',e=.returned cv/\SW C w' Y' σ' E.tmps vs (QH ρ E st1 n1).st N/\Rep w' Y' σ' (Af (DU ρ E.next) 8 v) cv/\∀ b,(b<E.next\/n1<=kZ ρ+(b-E.next))->σ' b=σ b:=by
 have hnd:=Sl _ hnd;have hlt:=X6 _ hlt
 let σc:Sg:=λi=>match ρ[i]? with|some b=>σ b|none=>none
 have hσc:∀ i b,ρ[i]?=some b->σc i=σ b:=by
  intro i b h;show (match ρ[i]? with|some b=>σ b|none=>none)=_;rw[h]
 have O:∀ b i l,ixN ρ b=some i->σ b=some l->σc i=some l:=by
  intro b i l h1 h2;rw[hσc _ _ (V7 _ _ _ h1)];exact h2
 have look:∀ i x,iO (DT (ixN ρ) E.st 0 ρ) i=some x->∃ b y,ρ[i]?=some b/\iO E.st b=some y/\Ag (ixN ρ) (some y)=some x/\σc i=σ b:=by
  intro i x hx;rw[Sr,if_pos (Nat.zero_le _),Nat.sub_zero] at hx
  split at hx
  rename_i b hb;obtain⟨y,hy⟩:=Py hx;rw[hy] at hx;exact⟨b,y,hb,hy,hx,hσc _ _ hb⟩
  cases hx
 have hst0:I8 w Y σc (DT (ixN ρ) E.st 0 ρ):=by
  refine⟨λi x hx=>?_,λi i' x x' l l' hx hx' hl hl' e=>?_⟩
  obtain⟨b,y,h1,h2,J,h4⟩:=look i x hx;rcases H.store.blk b y h2 with ⟨l,hl,hB⟩|⟨hn,ro,sz,hy⟩
  exact .inl ⟨l,by rw[h4];exact hl,Mc O J hB⟩
  exact .inr ⟨by rw[h4];exact hn,ro,sz,Sm J hy⟩
  obtain⟨b,y,h1,h2,J,h4⟩:=look i x hx;obtain⟨U,y',h1',h2',h3',h4'⟩:=look i' x' hx';rw[h4] at hl;rw[h4'] at hl';have:=H.store.inj b U y y' l l' h2 h2' hl hl' e;subst this;exact Px hnd h1 h1'
 have hnext:∀ b,kZ ρ<=b->σc b=none:=by
  intro i hi;show (match ρ[i]? with|some b=>σ b|none=>none)=none;rw[List.getElem?_eq_none (by rw[Jp] at hi;exact hi)]
 have inst:∀ k,BZ σc (DT (ixN ρ) E.st 0 ρ) k->∃ b y l,b∈ρ/\iO E.st b=some y/\σ b=some l/\l.cb=k:=by
  rintro k ⟨i,x,l,hx,hl,rfl⟩
  obtain⟨b,y,h1,h2,J,h4⟩:=look i x hx;exact⟨b,y,l,List.mem_of_getElem? h1,h2,by rw[<- h4];exact hl,rfl⟩
 obtain⟨hent,hcall⟩:=hF w Y σc cargs H.wz H.vg hnext (by rw[Bd];exact hr.map (xU O 8)) hst0 hnn;refine⟨hent,Calls.mono hcall λe w' hh=>?_⟩;obtain⟨cv,u,st',I,Y',σ',rfl,⟨rfl,rfl,rfl⟩,R⟩:=hh;have hm:kZ ρ<=I:=R.fix.1;have hfix:∀ i,i<kZ ρ->σ' i=σc i:=R.fix.2;have hlen:=Jp ρ
 let σn:Sg:=λb=>if b<E.next\/I<=kZ ρ+(b-E.next) then σ b else σ' (kZ ρ+(b-E.next))
 have hout:∀ b,(b<E.next\/I<=kZ ρ+(b-E.next))->σn b=σ b:=λb h=>by
  show (if _ then σ b else _)=_;rw[if_pos h]
 have hbak:∀ i b,i<I->DU ρ E.next i=some b->σn b=σ' i:=by
  intro i b hin h;unfold DU at h;rw[Sj] at h
  split at h
  rename_i c hc;have hcb:=Option.some.inj h;subst hcb
  have hi:i<kZ ρ:=by
   rw[hlen]
   by_cases hh:i<ρ.length
   exact hh
   rw[List.getElem?_eq_none (Nat.le_of_not_lt hh)] at hc;cases hc
  rw[hout c (.inl (hlt c (List.mem_of_getElem? hc))),hfix i hi,hσc i c hc]
  rename_i hc;cases h
  have hi:kZ ρ<=i:=by
   rw[hlen]
   by_cases hh:i<ρ.length
   rw[List.getElem?_eq_getElem hh] at hc;cases hc
   omega
  show (if _ then _ else σ' _)=_;rw[if_neg ah];congr 1;omega
 have hin' : ∀ i l,σ' i=some l->i<I:=λi l h=>by
  by_cases hh:i<I
  exact hh
  rw[R.next i ah] at h;cases h
 have hfb:∀ i b l,DU ρ E.next i=some b->σ' i=some l->σn b=some l:=λi b l h1 h2=>by rw[hbak i b (hin' i l h2) h1];exact h2
 have excl:∀ k,k<w.heap.size->Y' k->Y k:=by
  intro k hk hy;rcases R.vk k hy hk with h|h
  exact h.1
  exact h.1
 have K:Keep w w' Y Y' σ σn:=by
  refine⟨λk hk hy=>R.mf.block k hk λh=>hy h.1,excl,R.mf.size,λb l hl=>?_⟩;rw[hout b ?_];· exact hl
  by_cases hh:b<E.next\/I<=kZ ρ+(b-E.next)
  exact hh
  rw[hwin b ah ah] at hl;cases hl
 have hτ:(ρ++upN E.next (I - kZ ρ)).Nodup:=by
  rw[List.nodup_append];refine⟨hnd,Pq _ _,λa ha b hb e=>?_⟩;have:=hlt a ha;have:=(aa6 hb).1;omega
 have hτi:∀ i b,(ρ++upN E.next (I - kZ ρ))[i]?=some b->DU ρ E.next i=some b:=by
  intro i b h;unfold DU;rw[Sj]
  by_cases hh:i<ρ.length
  rw[List.getElem?_append_left hh] at h;rw[h]
  rw[List.getElem?_append_right ah,NI] at h;rw[List.getElem?_eq_none ah]
  split at h
  cases h;rw[hlen]
  cases h
 have hnot:∀ b,b ∉ (ρ++upN E.next (I - kZ ρ))->b ∉ ρ/\(b<E.next\/I<=kZ ρ+(b-E.next)):=by
  intro b hb;rw[List.mem_append,not_or] at hb;refine⟨hb.1,?_⟩
  by_cases h1:b<E.next
  exact .inl h1
  refine .inr ?_
  by_cases h2:b-E.next<I - kZ ρ
  exact absurd (List.mem_of_getElem? (i:=b-E.next) (by rw[NI,if_pos h2];congr 1;omega)) hb.2
  omega
 have lk:∀ b x,iO (QH ρ E st' I).st b=some x->(∃ i y,DU ρ E.next i=some b/\iO st' i=some y/\Ag (DU ρ E.next) (some y)=some x/\σn b=σ' i) \/
   (b ∉ ρ/\(b<E.next\/I<=kZ ρ+(b-E.next))/\iO E.st b=some x):=by
  intro b x hx;simp only[QH,QU] at hx;obtain⟨h1,h2⟩:=X5 (DU ρ E.next) st' (ρ++upN E.next (I - kZ ρ)) 0 E.st b hτ
  by_cases hb:b∈ρ++upN E.next (I - kZ ρ)
  obtain⟨i,hi⟩:=List.getElem?_of_mem hb;rw[h1 i hi,Nat.zero_add] at hx;obtain⟨y,hy⟩:=Py hx;rw[hy] at hx
  have hil:i<I:=by
   have hl:i<(ρ++upN E.next (I - kZ ρ)).length:=by
    by_cases hh:i<(ρ++upN E.next (I - kZ ρ)).length
    exact hh
    rw[List.getElem?_eq_none (Nat.le_of_not_lt hh)] at hi;cases hi
   rw[List.length_append,QV] at hl;omega
  exact .inl ⟨i,y,hτi i b hi,hy,hx,hbak i b hil (hτi i b hi)⟩
  rw[h2 hb] at hx;exact .inr ⟨(hnot b hb).1,(hnot b hb).2,hx⟩
 have nin:∀ b x l,b ∉ ρ->iO E.st b=some x->σ b=some l->¬ BZ σc (DT (ixN ρ) E.st 0 ρ) l.cb:=by
  intro b x l hb hx hl hi;obtain⟨U,y,l',h1,h2,J,h4⟩:=inst _ hi;have:=H.store.inj U b y x l' l h2 hx J hl h4;subst this;exact hb h1
 have getσ:∀ b l,(b<E.next\/I<=kZ ρ+(b-E.next))->σn b=some l->σ b=some l:=by
  intro b l h6 hl;rw[hout b h6] at hl;exact hl
 have owc:∀ {b r c h sz es},lM (QH ρ E st' I).st b r c h sz es->(∃ i,DU ρ E.next i=some b/\lM st' i r c h sz es)\/lM E.st b r c h sz es:=by
  rintro b r c h sz es ⟨sz0,rows,row,h1,h2⟩
  rcases lk b _ h1 with ⟨i,y,g1,g2,g3,_⟩|⟨_,_,g3⟩
  have:=X4 g3;subst this;exact .inl ⟨i,g1,sz0,rows,row,g2,h2⟩
  exact .inr ⟨sz0,rows,row,g3,h2⟩
 have notIn:∀ {b r c h sz es},lM E.st b r c h sz es->¬ BZ σc (DT (ixN ρ) E.st 0 ρ) h.ν:=by
  intro b r c h sz es hk hi;obtain⟨U,y,l',h1,h2,J,h4⟩:=inst _ hi;exact H.nest.sep _ _ _ _ _ _ _ _ _ hk h2 J h4
 have cross:∀ {i r c h sz es b r' c' h' sz' es'},lM st' i r c h sz es->lM E.st b r' c' h' sz' es'->h.ν≠h'.ν:=by
  intro i r c h sz es b r' c' h' sz' es' hk hk' e;rcases R.nest.old _ _ _ _ _ _ hk with g|g
  have g:w.heap.size<=h.ν:=g;have:=(H.nest.rep _ _ _ _ _ _ hk').lt;omega
  rw[e] at g;exact notIn hk' g
 have nest:yK C.w0 C.L w' Y' σn (QH ρ E st' I).st:=by
  refine⟨λb r c h sz es hk=>?_,λb r c h sz es hk=>?_,λb r c h sz es U r' c' h' sz' es' hk hk' e=>?_,λb r c h sz es U x l hk hx hl=>?_⟩
  rcases owc hk with ⟨i,_,hk⟩|hk
  exact R.nest.rep _ _ _ _ _ _ hk
  have hN:=H.nest.rep _ _ _ _ _ _ hk;exact hN.keep K.none (R.mf.block _ hN.lt λh=>notIn hk h.2) (λh=>R.y0 _ ⟨h,notIn hk⟩)
  rcases owc hk with ⟨i,_,hk⟩|hk
  rcases R.nest.old _ _ _ _ _ _ hk with h|h
  exact fH
  obtain⟨U,y',l',h5,h6,h7,h8⟩:=inst _ h;rw[<- h8];exact H.own U y' l' h6 h7
  exact H.nest.old _ _ _ _ _ _ hk
  rcases owc hk with ⟨i,g,hk⟩|hk<;>rcases owc hk' with ⟨i',g',hk'⟩|hk'
  obtain⟨e1,e2,e3⟩:=R.nest.one _ _ _ _ _ _ _ _ _ _ _ _ hk hk' e;subst e1;rw[g] at g';cases g';exact⟨rfl,e2,e3⟩
  exact absurd e (cross hk hk')
  exact absurd e.symm (cross hk' hk)
  exact H.nest.one _ _ _ _ _ _ _ _ _ _ _ _ hk hk' e
  rcases owc hk with ⟨i,g,hk⟩|hk<;>rcases lk U x hx with ⟨i',y,g1,g2,g3,g4⟩|⟨g1,g2,g3⟩
  exact R.nest.sep _ _ _ _ _ _ _ _ _ hk g2 (by rw[<- g4];exact hl)
  have hσ:=getσ U l g2 hl;intro e
  have hlt' : l.cb<w.heap.size:=by
   rcases H.store.blk U x g3 with ⟨l2,hl2,hB⟩|⟨hn,_⟩
   rw[hσ] at hl2;cases hl2;exact hB.lt
   rw[hσ] at hn;cases hn
  rcases R.nest.old _ _ _ _ _ _ hk with h|h
  have h:w.heap.size<=_:=h;omega
  rw[<- e] at h;exact nin U x l g1 g3 hσ h
  intro e;rcases R.own i' y l g2 (by rw[<- g4];exact hl) with h|h
  have h:w.heap.size<=l.cb:=h;have:=(H.nest.rep _ _ _ _ _ _ hk).lt;omega
  rw[e] at h;exact notIn hk h
  exact H.nest.sep _ _ _ _ _ _ _ _ _ hk g3 (getσ U l g2 hl)
 refine⟨cv,Y',σn,rfl,⟨gB.keep _ K _ H.vals,⟨λb x hx=>?_,λb U x x' l l' hx hx' hl hl' e=>?_⟩,λb hb=>?_,R.vg,λk hk=>?_,H.c0,λk hk hlt=>?_,?_,λb x l hx hl=>?_,R.wz,?_,nest⟩,?_⟩
 rcases lk b x hx with ⟨i,y,h1,h2,J,h4⟩|⟨h1,h2,J⟩
 rcases R.store.blk i y h2 with ⟨l,hl,hB⟩|⟨hn,ro,sz,hy⟩
 exact .inl ⟨l,by rw[h4];exact hl,Mc hfb J hB⟩
 exact .inr ⟨by rw[h4];exact hn,ro,sz,Sm J hy⟩
 rcases H.store.blk b x J with ⟨l,hl,hB⟩|⟨hn,ro,sz,hy⟩
 have hni:=nin b x l h1 J hl;refine .inl ⟨l,K.sg b l hl,gJ.keep K (R.mf.block _ hB.lt λh=>hni h.2) ⟨excl _ hB.lt,λh=>R.y0 _ ⟨h,hni⟩⟩ hB⟩
 exact .inr ⟨by rw[hout b h2];exact hn,ro,sz,hy⟩
 have side:∀ b U x x' l l',(∃ i y,DU ρ E.next i=some b/\iO st' i=some y/\Ag (DU ρ E.next) (some y)=some x/\σn b=σ' i)->(U ∉ ρ/\(U<E.next\/I<=kZ ρ+(U - E.next))/\iO E.st U=some x') ->
   σn b=some l->σn U=some l'->l.cb=l'.cb->False:=by
  rintro b U x x' l l' ⟨i,y,h1,h2,J,h4⟩ ⟨h5,h6,h7⟩ hl hl' e
  have hσ:σ U=some l':=getσ U l' h6 hl'
  have hlt' : l'.cb<w.heap.size:=by
   rcases H.store.blk U x' h7 with ⟨l2,hl2,hB⟩|⟨hn,_⟩
   rw[hσ] at hl2;cases hl2;exact hB.lt
   rw[hσ] at hn;cases hn
  rcases R.own i y l h2 (by rw[<- h4];exact hl) with h|h
  have h:w.heap.size<=l.cb:=h;omega
  rw[e] at h;exact nin U x' l' h5 h7 hσ h
 rcases lk b x hx with h|h<;>rcases lk U x' hx' with h'|h'
 obtain⟨i,y,h1,h2,J,h4⟩:=h;obtain⟨i',y',h1',h2',h3',h4'⟩:=h';have:=R.store.inj i i' y y' l l' h2 h2' (by rw[<- h4];exact hl) (by rw[<- h4'];exact hl') e;subst this;rw[h1] at h1';cases h1';rfl
 exact (side b U x x' l l' h h' hl hl' e).elim
 exact (side U b x' x l' l h' h hl' hl e.symm).elim
 have get:∀ b x l,(b ∉ ρ/\(b<E.next\/I<=kZ ρ+(b-E.next))/\iO E.st b=some x)->σn b=some l->σ b=some l:=by
  rintro b x l ⟨_,h6,_⟩ hl
  exact getσ b l h6 hl
 exact H.store.inj b U x x' l l' h.2.2 h'.2.2 (get b x l h hl) (get U x' l' h' hl') e
 rw[hout b ah];exact H.next b ah
 refine R.y0 k ⟨H.y0 k hk,λhi=>?_⟩;obtain⟨b,y,l,h1,h2,J,rfl⟩:=inst k hi;exact H.away h2 J hk
 exact H.vk k (excl k (Nat.lt_of_lt_of_le hlt H.mf.size) hk) hlt
 refine⟨by rw[R.mf.os];exact H.mf.os,by rw[R.mf.tape];exact H.mf.tape,by rw[R.mf.output];exact H.mf.output,Nat.le_trans H.mf.size R.mf.size,λk hk hM=>?_⟩;rw[R.mf.block k (Nat.lt_of_lt_of_le hk H.mf.size) λh=>?_]
 exact H.mf.block k hk hM
 obtain⟨h1,h2⟩:=h;rcases H.vk k h1 hk with J|J
 obtain⟨b,y,l,h4,h5,h6,rfl⟩:=inst k h2;exact H.away h5 h6 J
 exact hM J
 rcases lk b x hx with ⟨i,y,h1,h2,J,h4⟩|⟨h1,h2,J⟩
 rcases R.own i y l h2 (by rw[<- h4];exact hl) with h|h
 exact fH
 obtain⟨U,y',l',h5,h6,h7,h8⟩:=inst _ h;rw[<- h8];exact H.own U y' l' h6 h7
 exact H.own b x l J (getσ b l h2 hl)
 refine⟨by have:=H.fix.1;omega,λb hb=>?_⟩;rw[hout b (.inl ah)];exact H.fix.2 b hb
 have:=R.vals;unfold gB at this;obtain⟨c,cs,e,h1,h2⟩:=this;cases e;exact⟨xU hfb 8 _ _ h1,hout⟩
theorem adG {P:Program}{T:Tab}{C:Ctx T}{w:World}{Y:Nat->Prop}{σ:Sg}{E:Env}{vs:List Value}(H:SW C w Y σ E.tmps vs E.st E.next){k:Nat}{args:List PV}{U:List Value}{ρ:List Nat}{v:PV}{st1:St}{n1:Nat}
  (J:VM ρ=true) (I:ltN E.next ρ=true) (R:qM (DT (ixN ρ) E.st 0 ρ)=true) (hr:gB w Y σ args U)
  (hF:FnS P T.gl k (DR (Af (ixN ρ) 8) args) (DT (ixN ρ) E.st 0 ρ) (kZ ρ) (λu st n=>u=v/\st=st1/\n=n1)) :
  (callFunc k U.toArray).run P w=.ok (.enter k U.toArray) w /\
  Calls P k U.toArray w λe w'=>∃ cv Y' σ',e=.returned cv/\SW C w' Y' σ' E.tmps vs (QH ρ E st1 n1).st (QH ρ E st1 n1).next/\Rep w' Y' σ' (Af (DU ρ E.next) 8 v) cv:=by
 obtain⟨h1,h2⟩:=V8 (N:=E.next+(n1-kZ ρ)) H J I R H.fix.1 (λb hb _=>H.next b hb) ⟨Nat.le_refl _,Nat.le_add_right _ _⟩ hr hF;refine⟨h1,Calls.mono h2 λe w' hh=>?_⟩;obtain⟨cv,Y',σ',e1,g,h4,_⟩:=hh;exact⟨cv,Y',σ',e1,g,h4⟩
theorem ES {st:St}{b:Nat}{x:jq}(h:Zk st b=some x):iO st b=some x/\x.ro=true:=by
 unfold Zk at h
 split at h
 rename_i e;cases h;exact⟨e,rfl⟩
 rename_i e;cases h;exact⟨e,rfl⟩
 cases h
theorem gJ.ahE {w:World}{Y:Nat->Prop}{σ:Sg}{l:Loc}{x:jq}(h:gJ w Y σ l x)(hr:x.ro=true):¬ Y l.cb:=by
 cases x with
 | var ro row=>unfold gJ at h;exact h.2.2.2.2.2 hr
 | arr ro sz rows=>unfold gJ at h;exact h.2.2.2.2.2.2 hr
 | kH sz rows=>cases hr
 | map rows=>cases hr
 | nor sz rows r row=>cases hr
theorem QX {P:Program}{T:Tab}{C:Ctx T}{w:World}{Y:Nat->Prop}{σ:Sg}{ps:List PV}{vs:List Value}{st:St}{n:Nat}(H:SW C w Y σ ps vs st n){lk:Nat->Option jq}(R:∀ b x,lk b=some x->iO st b=some x/\x.ro=true)
  {k d:Nat} {args as:List PV} {U:List Value} {v:PV}
  (hm:Jc (frz (iK.jd P T) lk d) args=some as) (hr:gB w Y σ args U) (hF:Fn P T.gl k as (λu=>u=v)):NH P k C Y σ w U ps vs st n v:=by
 have J:∀ b x l,lk b=some x->σ b=some l->¬ Y l.cb:=by
  intro b x l h1 h2;obtain⟨h3,h4⟩:=R b x h1;rcases H.store.blk b x h3 with ⟨l',I,hB⟩|⟨hn,_⟩
  rw[h2] at I;cases I;exact hB.ahE h4
  rw[h2] at hn;cases hn
 obtain⟨h1,h2⟩:=hF w Y U H.wz H.vg (NG H.store (λb x h=>(R b x h).1) (λ_ h=>h) J (λb sz rows hb=>by have:=(R _ _ hb).2;cases this) hm hr);refine⟨h1,Calls.mono h2 λe w' h=>?_⟩;obtain⟨cv,u,rfl,rfl,hrep,g⟩:=h;exact⟨cv,rfl,H.afL g,hrep.ajA⟩
theorem SW.roS {T:Tab}{C:Ctx T}{w:World}{σ:Sg}{ps:List PV}{vs:List Value}{n:Nat}:∀ (ρ:List Nat) {Y:Nat->Prop} {st:St},SW C w Y σ ps vs st n->∃ Y',SW C w Y' σ ps vs (Pv.roS st ρ) n/\∀ k,Y' k->Y k
 | [],Y,st,H=>⟨Y,H,λ_ h=>h⟩
 | b::l,Y,st,H=>by
  unfold Pv.roS
  split
  rename_i ro row hb;obtain⟨J,H1,_,h1⟩:=H.freeze hb (.inl ⟨ro,row,rfl,rfl⟩);obtain⟨R,U,h2⟩:=SW.roS l H1;exact⟨R,U,λk h=>h1 k (h2 k h)⟩
  rename_i ro sz rows hb;obtain⟨J,H1,_,h1⟩:=H.freeze hb (.inr ⟨ro,sz,rows,rfl,rfl⟩);obtain⟨R,U,h2⟩:=SW.roS l H1;exact⟨R,U,λk h=>h1 k (h2 k h)⟩
  exact SW.roS l H
theorem Jr {P:Program}{T:Tab}{k:Nat}{args:List PV}{E:Env}{K:PV->Env->Prop}(h:Rq (iK.jd P T) k args E K):Ql P T k args E K:=by
 unfold Rq at h
 split at h
 rename_i as I;rcases h with ⟨v,hF,R⟩|⟨v,st1,n1,hF,R⟩|h
 exact Ql.adF R λC Y σ w vs U H hr=>QX H (λb x h=>ES h) I hr hF
 intro C Y σ w vs U H hr
 have J:∀ b x l,Zk E.st b=some x->σ b=some l->¬ Y l.cb:=by
  intro b x l h1 h2;obtain⟨h3,h4⟩:=ES h1;rcases H.store.blk b x h3 with ⟨l',hl',hB⟩|⟨hn,_⟩
  rw[h2] at hl';cases hl';exact hB.ahE h4
  rw[h2] at hn;cases hn
 have hr0:=NG (P:=P) (T:=T) H.store (λb x h=>(ES h).1) (λ_ h=>h) J (λb sz rows hb=>by have:=(ES hb).2;cases this) I hr;have hr1:gB w Y σ as U:=gB.keep as (σ:=iQ) (σ':=σ) ⟨λ_ _ _=>rfl,λ_ _ h=>h,Nat.le_refl _,λb l h=>by simp[iQ] at h⟩ _ hr0;obtain⟨h3,h4⟩:=adG (ρ:=[]) (v:=v) (st1:=st1) (n1:=n1) H rfl rfl rfl hr1 hF;refine⟨h3,Calls.mono h4 λe w' hh=>?_⟩;obtain⟨cv,Y',σ',rfl,g,hv⟩:=hh;exact⟨cv,_,_,Y',σ',rfl,R,g,hv⟩
 exact h
 rcases h with ⟨bs,v,I,hF,O,R⟩|⟨bs,v,I,hF,R⟩|⟨v,st1,n1,h1,h2,h0,hF,R⟩|h
 exact Ql.adF R λC Y σ w vs U H hr=>Po H (λ_ _ h=>h) I hr hF O
 intro C Y σ w vs U H hr;obtain⟨Y',H',hY⟩:=SW.roS (I7 args E.st) H;have K0:Keep w w Y Y' σ σ:=⟨λ_ _ _=>rfl,λk _=>hY k,Nat.le_refl _,mg.refl _⟩;obtain⟨h1,h2⟩:=QX H' (λb x h=>ES h) I (gB.keep _ K0 _ hr) hF;refine⟨h1,Calls.mono h2 λe w' hh=>?_⟩;obtain⟨cv,rfl,g,hv⟩:=hh;exact⟨cv,v,_,Y',σ,rfl,R,g,hv⟩
 intro C Y σ w vs U H hr;obtain⟨h3,h4⟩:=adG H h1 h2 h0 hr hF;refine⟨h3,Calls.mono h4 λe w' hh=>?_⟩;obtain⟨cv,Y',σ',rfl,g,hv⟩:=hh;exact⟨cv,_,_,Y',σ',rfl,R,g,hv⟩
 exact h
end Go.Pv
