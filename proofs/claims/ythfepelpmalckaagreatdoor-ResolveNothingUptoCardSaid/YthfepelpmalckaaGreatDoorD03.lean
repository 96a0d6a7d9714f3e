import Derived.Laws.BytesString
import Derived.Test.YthfepelpmalckaaGreatDoorD02
set_option linter.all false
namespace Go.Pv
open Go
def sval (x:Option Addr) (cap i j size:Nat):Value:=.slice (if cap=i then x else x.map (·.add (i * size))) (j - i) (cap - i)
theorem sl_sub {w:World} {Y:Nat→Prop} {σ:Sg} {sz i j len cap:Nat} {es:List (List PV)} {full full' : Bool} {x:Option Addr} (h:Rep w Y σ (.sl sz es full) (.slice x len cap)) (h1:i≤j) (h2:j≤es.length) (hf:full'=true→full=true∧j=es.length) :
  Rep w Y σ (.sl sz ((es.drop i).take (j - i)) full') (sval x cap i j sz):=by
 unfold Rep at h ⊢
 obtain ⟨x',len',cap',e,hl,hc,hfu,hr⟩:=h
 cases e
 refine ⟨_,_,_,rfl,?_,by omega,?_,?_⟩
 ·rw [List.length_take,List.length_drop]; omega
 ·intro h'; obtain ⟨g1,g2⟩:=hf h'; have:=hfu g1; omega
 ·by_cases hij:i=j
  ·left; rw [hij]; simp
  ·rcases hr with hr | ⟨b,o,rfl,hy,hr⟩
   ·left; rw [hr]; simp
   ·right
    rw [if_neg (by omega)]
    exact ⟨b,o+i * sz,by simp [addr_add],hy,(hr.drop i _ _).take _ _ _⟩
theorem os_sub {w:World} {Y:Nat→Prop} {σ:Sg} {b r n i j cap len size:Nat} {x:Option Addr} (h:Rep w Y σ (.os b r n) (.slice x len cap)) (h1:i≤j) (h2:j≤n) (hs:∀ l,σ b=some l→l.sz=size) :
  Rep w Y σ (.os b (r+i) (j - i)) (sval x cap i j size):=by
 unfold Rep at h ⊢
 rcases h with ⟨l,cap',hl,e,hn,ht,hr⟩ | ⟨rfl,x',e⟩
 ·cases e
  have hsz:=hs l hl
  by_cases hc:cap=i
  ·right
   refine ⟨by omega,some ⟨l.cb,l.co+r * l.sz,none⟩,?_⟩
   simp only [sval,hc,if_true]
   have e1:j - i=0:=by omega
   have e2:i - i=0:=by omega
   rw [e1,e2]
  ·left
   refine ⟨l,cap - i,hl,?_,by omega,?_,by omega⟩
   ·simp only [sval,hc,if_false,Option.map_some,addr_add]
    rw [← hsz,Nat.add_mul,Nat.add_assoc]
   ·rw [← ht]
    have:i≤cap:=by omega
    rw [Nat.add_mul,Nat.sub_mul]
    have:=Nat.mul_le_mul_right l.sz this
    omega
 ·cases e
  right
  have hi:i=0:=by omega
  have hj:j=0:=by omega
  subst hi; subst hj
  exact ⟨rfl,x,by simp [sval]⟩
theorem sliceBounds_run {P:Program} {w:World} {len cap:Nat} {lo hi:Option Value} {i j:Nat} (hlo:lo=none∧i=0∨∃ k,lo=some (.int k (i:Int))) (hhi:hi=none∧j=len∨∃ k,hi=some (.int k (j:Int))) (h1:i≤j) (h2:j≤cap) (b:Bool) :
  (Instr.sliceBounds b len cap lo hi none).run P w=.ok (i,j,cap) w:=by
 have e1:(0:Int)≤(i:Int)∧(i:Int)≤(j:Int):=by omega
 have e2:(0:Int)≤(j:Int)∧(j:Int)≤(cap:Int):=by omega
 rcases hlo with ⟨rfl,rfl⟩ | ⟨k,rfl⟩ <;> rcases hhi with ⟨rfl,rfl⟩ | ⟨k',rfl⟩
 ·simp [Instr.sliceBounds]
 ·simp [Instr.sliceBounds,Instr.sliceBound,run_asIntOf,h2]
 ·simp [Instr.sliceBounds,Instr.sliceBound,run_asIntOf,h1]
 ·simp [Instr.sliceBounds,Instr.sliceBound,run_asIntOf,h1,h2]
theorem slice_run {P:Program} {w:World} {t e:TypeId} {x:Option Addr} {len cap i j:Nat} {lo hi:Option Value} (hu:P.underlying t=some (.slice e)) (hinf:P.info? e ≠ none)
  (hlo:lo=none∧i=0∨∃ k,lo=some (.int k (i:Int))) (hhi:hi=none∧j=len∨∃ k,hi=some (.int k (j:Int))) (h1:i≤j) (h2:j≤cap) :
  (Instr.sliceAt t (.slice x len cap) lo hi none).run P w=.ok (sval x cap i j (P.cellsOf e)) w:=by
 simp only [Instr.sliceAt,Sem.run_bind,run_und hu,Result.andThen,Instr.slice,sliceBounds_run hlo hhi h1 h2,run_sizeOf hinf,Sem.run_pure]
 rfl
theorem plain_rep {S:Sig} {w:World} {Y:Nat→Prop} {σ:Sg}:∀ (ps:List PV) (vs:List Value) (r:List PV × Dl),pur S (fun _=>none) ps=some r→RepL w Y σ ps vs→RepL w Y noSg ps vs
 | [],vs,_,_,h=>by unfold RepL at h ⊢; exact h
 | p::ps,vs,r,hp,h=>by
  unfold RepL at h
  obtain ⟨v,vs',rfl,h1,h2⟩:=h
  unfold pur at hp
  cases hq:pur S (fun _=>none) ps with
  | none=>rw [hq] at hp; cases hp
  | some q =>
   rw [hq] at hp
   simp only at hp
   have ih:=plain_rep ps vs' q hq h2
   have fin:Rep w Y noSg p v→RepL w Y noSg (p::ps) (v::vs'):=fun h=>by unfold RepL; exact ⟨v,vs',rfl,h,ih⟩
   cases p
   case os=>simp at hp
   case fn f cs =>
    cases cs with
    | nil=>exact fin (by unfold Rep at h1 ⊢; obtain ⟨ws,e,hr⟩:=h1; exact ⟨ws,e,by unfold RepL at hr ⊢; exact hr⟩)
    | cons _ _=>simp at hp
   all_goals first
    | (simp at hp; done)
    | exact fin (by unfold Rep at h1 ⊢; exact h1)
theorem str_run {P:Program} {w:World} {t:TypeId} {s:ByteArray} {i j:Nat} {lo hi:Option Value} (hu:P.underlying t=some .string)
  (hlo:lo=none∧i=0∨∃ k,lo=some (.int k (i:Int))) (hhi:hi=none∧j=s.size∨∃ k,hi=some (.int k (j:Int))) (h1:i≤j) (h2:j≤s.size) :
  (Instr.sliceAt t (.string s) lo hi none).run P w=.ok (.string (s.extract i j)) w:=by
 simp only [Instr.sliceAt,Sem.run_bind,run_und hu,Result.andThen,Instr.slice,Option.isSome_none,Bool.false_eq_true,if_false,sliceBounds_run hlo hhi h1 h2,Sem.run_pure]
theorem arr_run {P:Program} {w:World} {t e:TypeId} {m b o:Nat} (hu:P.underlying t=some (.array m e)) (hinf:P.info? e ≠ none) :
  (Instr.sliceAt t (.pointer (some ⟨b,o,none⟩)) none none none).run P w=.ok (.slice (some ⟨b,o,none⟩) m m) w:=by
 have hb:=sliceBounds_run (P:=P) (w:=w) (len:=m) (cap:=m) (lo:=none) (hi:=none) (i:=0) (j:=m) (.inl ⟨rfl,rfl⟩) (.inl ⟨rfl,rfl⟩) (by omega) (by omega) false
 simp only [Instr.sliceAt,Sem.run_bind,run_und hu,Result.andThen,Instr.sureAddr,Sem.run_pure,hb,run_sizeOf hinf,Nat.zero_mul,addr_add]
 simp
theorem three_run {P:Program} {w:World} {t e:TypeId} {x:Option Addr} {len cap:Nat} {k k' : IntKind} (hu:P.underlying t=some (.slice e)) (hinf:P.info? e ≠ none) :
  (Instr.sliceAt t (.slice x len cap) none (some (.int k 0)) (some (.int k' 0))).run P w=.ok (.slice x 0 0) w:=by
 have c1:(0:Int)≤0∧(0:Int)≤(cap:Int):=by omega
 simp [Instr.sliceAt,run_und hu,Instr.slice,Instr.sliceBounds,Instr.sliceBound,run_asIntOf,run_sizeOf hinf]
section
variable {P:Program} {T:Tab} (hT:TabOK P T) {C:Ctx T} {o:Oper} {a:Act} {w:World} {Y:Nat→Prop} {σ:Sg} {ps:List PV} {st:St} {n id:Nat} {K:PV→Dl→Prop} {lk:Nat→Option Blk}
 (H:SW C w Y σ ps a.tmps.toList st n) (hlk:∀ b x,lk b=some x→lkS st b=some x) (hid:σ id=none∧T.pas≤id) (hU:UndOK P)
theorem evO_cases {T:Tab} {C:Ctx T} {w:World} {Y:Nat→Prop} {σ:Sg} {ps:List PV} {a:Act} {st:St} {n:Nat} (h:SW C w Y σ ps a.tmps.toList st n) (x:Option Operand) :
  (evO T ps x=none∧x.map a.eval=none)∨∃ p v,evO T ps x=some p∧x.map a.eval=some v∧Rep w Y σ p v:=by
 cases x with
 | none=>exact .inl ⟨rfl,rfl⟩
 | some x=>exact .inr ⟨_,_,rfl,rfl,ev_rep h x⟩
include hT H hlk in
theorem op_slice {t:TypeId} {x:Operand} {lo hi mx:Option Operand} (ho:o.op=.slice t x lo hi mx) (hid:σ id=none∧T.pas≤id) (h:opE T (Sig.std P T) (.slice t x lo hi mx) ps lk id K):Res P C o a w σ ps st n id K:=by
 have hx:=ev_rep H x
 have hlo:=evO_cases H lo
 have hhi:=evO_cases H hi
 have hmx:=evO_cases H mx
 have run:∀ {r:Result Value},(Instr.sliceAt t (a.eval x) (lo.map a.eval) (hi.map a.eval) (mx.map a.eval)).run P w=r→(execOp a.eval o).run P w=r.andThen fun v w'=>.ok (.value v) w':=by
  intro r hr
  simp only [execOp,ho,Sem.run_bind,hr,Sem.run_pure]
 generalize lo.map a.eval=vlo at hlo run
 generalize hi.map a.eval=vhi at hhi run
 generalize mx.map a.eval=vmx at hmx run
 simp only [opE] at h
 generalize evO T ps lo=plo at hlo h
 generalize evO T ps hi=phi at hhi h
 generalize evO T ps mx=pmx at hmx h
 generalize evL T ps x=p at hx h
 have bound:∀ {q:Option PV} {v:Option Value} {r:PV} {k:IntKind} {i:Nat},((q=none∧v=none)∨∃ p u,q=some p∧v=some u∧Rep w Y σ p u)→q=some r→intV r=some (k,(i:Int))→∃ k,v=some (.int k (i:Int)):=by
  intro q v r k i hq e1 e2
  rcases hq with ⟨e,_⟩ | ⟨p,u,e,e',hr⟩
  ·rw [e] at e1; cases e1
  ·rw [e] at e1; cases e1
   exact ⟨k,by rw [e',rep_intV hr e2]⟩
 have nope:∀ {q:Option PV} {v:Option Value},((q=none∧v=none)∨∃ p u,q=some p∧v=some u∧Rep w Y σ p u)→q=none→v=none:=by
  intro q v hq e
  rcases hq with ⟨_,e'⟩ | ⟨p,u,e',_⟩
  ·exact e'
  ·rw [e] at e'; cases e'
 split at h
 ·rename_i agg size z plain esz bytes z' sz es full e
  obtain ⟨et,hu,rfl,_,_⟩:=tab_slice hT e
  have hm:=nope hmx rfl
  subst hm
  cases hb:(isPos (P.cellsOf et) && Nat.beq sz (P.cellsOf et)) with
  | false=>rw [hb] at h; exact h.elim
  | true =>
   rw [hb] at h
   simp only [cond_true] at h
   rw [Bool.and_eq_true] at hb
   have hinf:=info_of_pos hb.1
   have hsz:=Nat.eq_of_beq_eq_true hb.2
   subst hsz
   have hx':=hx
   unfold Rep at hx'
   obtain ⟨y,len,cap,ex,hl,hc,_,_⟩:=hx'
   rw [ex] at hx run
   have fin:∀ (i j:Nat) (full' : Bool),(vlo=none∧i=0∨∃ k,vlo=some (.int k (i:Int)))→(vhi=none∧j=len∨∃ k,vhi=some (.int k (j:Int)))→i≤j→j≤es.length→(full'=true→full=true∧j=es.length) →
     K (.sl (P.cellsOf et) ((es.drop i).take (j - i)) full') []→Res P C o a w σ ps st n id K:=by
    intro i j full' g1 g2 g3 g4 g5 hK
    exact Res.quiet H (by rw [run (slice_run hu hinf g1 g2 g3 (by omega))]; rfl) (sl_sub hx g3 g4 g5) hK
   split at h
   ·have hv:=nope hhi rfl
    split at h
    ·have hv2:=nope hlo rfl
     refine fin 0 len full (.inl ⟨hv2,rfl⟩) (.inl ⟨hv,rfl⟩) (by omega) (by omega) (fun h=>⟨h,hl⟩) ?_
     rw [hl]; simpa using h
    ·split at h
     ·rename_i hint
      obtain ⟨i,j,rfl,e2,g1,g2,h⟩:=h
      have:j=es.length:=by have:((es.length:Nat):Int)=(j:Int):=e2; omega
      subst this
      exact fin i es.length full (.inr (bound hlo rfl hint)) (.inl ⟨hv,hl.symm⟩) g1 (Nat.le_refl _) (fun h=>⟨h,rfl⟩) h
     ·exact h.elim
   ·split at h
    ·rename_i hint
     split at h
     ·have hv2:=nope hlo rfl
      obtain ⟨i,j,e1,rfl,g1,g2,h⟩:=h
      have:i=0:=by omega
      subst this
      exact fin 0 j false (.inl ⟨hv2,rfl⟩) (.inr (bound hhi rfl hint)) g1 g2 (fun h=>by cases h) h
     ·split at h
      ·rename_i hint2
       obtain ⟨i,j,rfl,rfl,g1,g2,h⟩:=h
       exact fin i j false (.inr (bound hlo rfl hint2)) (.inr (bound hhi rfl hint)) g1 g2 (fun h=>by cases h) h
      ·exact h.elim
    ·exact h.elim
 ·rename_i agg size z plain esz bytes z' b r m e
  obtain ⟨et,hu,rfl,_,_⟩:=tab_slice hT e
  have hm:=nope hmx rfl
  subst hm
  split at h
  ·rename_i ro sz rows hbk
   cases hb:(isPos (P.cellsOf et) && Nat.beq sz (P.cellsOf et)) with
   | false=>rw [hb] at h; exact h.elim
   | true =>
    rw [hb] at h
    simp only [cond_true] at h
    rw [Bool.and_eq_true] at hb
    have hinf:=info_of_pos hb.1
    have hsz:=Nat.eq_of_beq_eq_true hb.2
    have hls:∀ l,σ b=some l→l.sz=P.cellsOf et:=by
     intro l hl
     have hB:=BlkRep.of_lk H hlk hbk hl
     unfold BlkRep at hB
     rw [hB.2.1,hsz]
    have hx' : ∃ y cap,a.eval x=.slice y m cap∧m≤cap:=by
     unfold Rep at hx
     rcases hx with ⟨l,cap,_,e,hn,_⟩ | ⟨rfl,y,e⟩
     ·exact ⟨_,cap,e,hn⟩
     ·exact ⟨y,0,e,Nat.le_refl _⟩
    obtain ⟨y,cap,ex,hmc⟩:=hx'
    rw [ex] at hx run
    have fin:∀ (i j:Nat),(vlo=none∧i=0∨∃ k,vlo=some (.int k (i:Int)))→(vhi=none∧j=m∨∃ k,vhi=some (.int k (j:Int)))→i≤j→j≤m→K (.os b (r+i) (j - i)) []→Res P C o a w σ ps st n id K:=by
     intro i j g1 g2 g3 g4 hK
     exact Res.quiet H (by rw [run (slice_run hu hinf g1 g2 g3 (by omega))]; rfl) (os_sub hx g3 g4 hls) hK
    split at h
    ·have hv:=nope hhi rfl
     split at h
     ·have hv2:=nope hlo rfl
      exact fin 0 m (.inl ⟨hv2,rfl⟩) (.inl ⟨hv,rfl⟩) (by omega) (by omega) h
     ·split at h
      ·rename_i hint
       obtain ⟨i,j,rfl,e2,g1,g2,h⟩:=h
       have:j=m:=by have:(m:Int)=(j:Int):=e2; omega
       subst this
       exact fin i j (.inr (bound hlo rfl hint)) (.inl ⟨hv,rfl⟩) g1 g2 h
      ·exact h.elim
    ·split at h
     ·rename_i hint
      split at h
      ·have hv2:=nope hlo rfl
       obtain ⟨i,j,e1,rfl,g1,g2,h⟩:=h
       have:i=0:=by omega
       subst this
       exact fin 0 j (.inl ⟨hv2,rfl⟩) (.inr (bound hhi rfl hint)) g1 g2 h
      ·split at h
       ·rename_i hint2
        obtain ⟨i,j,rfl,rfl,g1,g2,h⟩:=h
        exact fin i j (.inr (bound hlo rfl hint2)) (.inr (bound hhi rfl hint)) g1 g2 h
       ·exact h.elim
     ·exact h.elim
  ·exact h.elim
 ·rename_i agg size z plain esz bytes z' sz es full k1 k2 e
  obtain ⟨et,hu,rfl,_,_⟩:=tab_slice hT e
  cases hb:isPos (P.cellsOf et) with
  | false=>rw [hb] at h; exact h.elim
  | true =>
   rw [hb] at h
   have hinf:=info_of_pos hb
   have hl:=nope hlo rfl
   subst hl
   rcases hhi with ⟨e1,_⟩ | ⟨p1,v1,e1,rfl,r1⟩
   ·cases e1
   ·cases e1
    rcases hmx with ⟨e1,_⟩ | ⟨p2,v2,e2,rfl,r2⟩
    ·cases e1
    ·cases e2
     rw [rep_int r1,rep_int r2] at run
     unfold Rep at hx
     obtain ⟨y,len,cap,ex,_⟩:=hx
     rw [ex] at run
     refine Res.quiet H (by rw [run (three_run hu hinf)]; rfl) ?_ h
     unfold Rep
     exact ⟨y,0,0,rfl,rfl,Nat.le_refl _,fun _=>rfl,.inl rfl⟩
 ·rename_i agg size z plain esz bytes z' b r m k1 k2 e
  obtain ⟨et,hu,rfl,_,_⟩:=tab_slice hT e
  cases hb:isPos (P.cellsOf et) with
  | false=>rw [hb] at h; exact h.elim
  | true =>
   rw [hb] at h
   have hinf:=info_of_pos hb
   have hl:=nope hlo rfl
   subst hl
   rcases hhi with ⟨e1,_⟩ | ⟨p1,v1,e1,rfl,r1⟩
   ·cases e1
   ·cases e1
    rcases hmx with ⟨e1,_⟩ | ⟨p2,v2,e2,rfl,r2⟩
    ·cases e1
    ·cases e2
     rw [rep_int r1,rep_int r2] at run
     have hx' : ∃ y cap,a.eval x=.slice y m cap:=by
      unfold Rep at hx
      rcases hx with ⟨l,cap,_,e,_⟩ | ⟨rfl,y,e⟩
      ·exact ⟨_,cap,e⟩
      ·exact ⟨y,0,e⟩
     obtain ⟨y,cap,ex⟩:=hx'
     rw [ex] at run
     refine Res.quiet H (by rw [run (three_run hu hinf)]; rfl) ?_ h
     unfold Rep
     exact ⟨y,0,0,rfl,rfl,Nat.le_refl _,fun _=>rfl,.inl rfl⟩
 ·rename_i agg size z plain s e
  have hu:=tab_str hT e
  have hm:=nope hmx rfl
  subst hm
  rw [rep_str hx] at run
  have fin:∀ (i j:Nat),(vlo=none∧i=0∨∃ k,vlo=some (.int k (i:Int)))→(vhi=none∧j=s.size∨∃ k,vhi=some (.int k (j:Int)))→i≤j→j≤s.size→K (.str (s.extract i j)) []→Res P C o a w σ ps st n id K:=by
   intro i j g1 g2 g3 g4 hK
   exact Res.quiet H (cv:=.string (s.extract i j)) (by rw [run (str_run hu g1 g2 g3 g4)]; rfl) (by simp [Rep]) hK
  split at h
  ·have hv2:=nope hlo rfl
   split at h
   ·have hv:=nope hhi rfl
    refine fin 0 s.size (.inl ⟨hv2,rfl⟩) (.inl ⟨hv,rfl⟩) (by omega) (by omega) ?_
    simpa using h
   ·split at h
    ·rename_i hint
     obtain ⟨i,j,e1,rfl,g1,g2,h⟩:=h
     have:i=0:=by omega
     subst this
     exact fin 0 j (.inl ⟨hv2,rfl⟩) (.inr (bound hhi rfl hint)) g1 g2 h
    ·exact h.elim
  ·split at h
   ·rename_i hint
    split at h
    ·have hv:=nope hhi rfl
     obtain ⟨i,j,rfl,e2,g1,g2,h⟩:=h
     have:j=s.size:=by have:((s.size:Nat):Int)=(j:Int):=e2; omega
     subst this
     exact fin i s.size (.inr (bound hlo rfl hint)) (.inl ⟨hv,rfl⟩) g1 g2 h
    ·split at h
     ·rename_i hint2
      obtain ⟨i,j,rfl,rfl,g1,g2,h⟩:=h
      exact fin i j (.inr (bound hlo rfl hint)) (.inr (bound hhi rfl hint2)) g1 g2 h
     ·exact h.elim
   ·exact h.elim
 ·rename_i agg size z plain m esz ag b c e
  obtain ⟨et,hu,rfl,_,_⟩:=tab_arr hT e
  have hm:=nope hmx rfl; have hv:=nope hhi rfl; have hl:=nope hlo rfl
  subst hm; subst hv; subst hl
  split at h
  ·rename_i ro row hbk
   cases hb:(isPos (P.cellsOf et) && Nat.ble (c+m * P.cellsOf et) (lenL row)) with
   | false=>rw [hb] at h; exact h.elim
   | true =>
    rw [hb] at h
    simp only [cond_true] at h
    rw [Bool.and_eq_true] at hb
    have hinf:=info_of_pos hb.1
    have hle:=Nat.le_of_ble_eq_true hb.2
    rw [lenL_eq] at hle
    split at h
    ·rename_i pr hpur
     unfold Rep at hx
     obtain ⟨l,hs,ex⟩:=hx
     rw [ex] at run
     obtain ⟨Y1,H1,hn1,hy1⟩:=H.freeze (hlk _ _ hbk) (x':=.var true row) (.inl ⟨ro,row,rfl,rfl⟩)
     have hB:=BlkRep.of_lk H1 (lk:=lkS (inS st b (some (.var true row)))) (fun _ _ h=>h) (by rw [lkS_inS,if_pos rfl]) hs
     have hlt:=hB.lt
     unfold BlkRep at hB
     obtain ⟨vs,hr,hcell⟩:=hB.2.2.2.1.vals
     have hr':=plain_rep _ _ _ hpur hr
     have hrc:=(RepC.of_vals row vs l.co hr' hcell).drop c _ _
     refine ⟨_,_,.slice (some ⟨l.cb,l.co+c,none⟩) m m,w,Y1,σ,h,.inl ?_,?_,?_,Off.refl _ _⟩
     ·rw [run (arr_run hu hinf)]; rfl
     ·simp only [applyD,nextI]
      exact H1.mono (by omega)
     ·unfold Rep
      refine ⟨_,_,_,rfl,by rw [chunks_length],Nat.le_refl _,fun _=>rfl,.inr ⟨l.cb,_,rfl,⟨hlt,hn1 l hs⟩,?_⟩⟩
      rw [dropL_eq]
      refine RepC.chunks m _ _ hrc ?_ (by rw [List.length_drop]; omega)
      have:=(pur_cell row _ _ hpur).2
      rw [allCell_iff] at this ⊢; exact fun p hp=>this p (List.mem_of_mem_drop hp)
    ·exact h.elim
  ·exact h.elim
 ·rename_i agg size z plain m esz ag cs e
  obtain ⟨et,hu,rfl,_,_⟩:=tab_arr hT e
  have hm:=nope hmx rfl; have hv:=nope hhi rfl; have hl:=nope hlo rfl
  subst hm; subst hv; subst hl
  cases hb:(isPos (P.cellsOf et) && allCell cs && Nat.ble (m * P.cellsOf et) (lenL cs)) with
  | false=>rw [hb] at h; exact h.elim
  | true =>
   rw [hb] at h
   simp only [cond_true] at h
   rw [Bool.and_eq_true,Bool.and_eq_true] at hb
   have hinf:=info_of_pos hb.1.1
   have hle:=Nat.le_of_ble_eq_true hb.2
   rw [lenL_eq] at hle
   unfold Rep at hx
   obtain ⟨b,o',ex,hy,hr⟩:=hx
   rw [ex] at run
   refine Res.quiet H (by rw [run (arr_run hu hinf)]; rfl) ?_ h
   unfold Rep
   exact ⟨_,_,_,rfl,by rw [chunks_length],Nat.le_refl _,fun _=>rfl,.inr ⟨b,o',rfl,hy,RepC.chunks m cs o' hr hb.1.2 hle⟩⟩
 ·exact h.elim
end
end Go.Pv
namespace Go.Pv
open Go
theorem SW.drawn {T:Tab} {C:Ctx T} {w:World} {Y:Nat→Prop} {σ:Sg} {ps:List PV} {vs:List Value} {st:St} {n:Nat} (H:SW C w Y σ ps vs st n) (d:Nat):SW C { w with drawn:=d } Y σ ps vs st n:=by
 have K:Keep w { w with drawn:=d } Y Y σ σ:=⟨fun _ _ _=>rfl,fun _ _ h=>h,Nat.le_refl _,SgLe.refl _⟩
 refine ⟨RepL.keep _ K _ H.vals,⟨fun b x hx=>?_,H.store.inj⟩,H.next,H.yold,H.y0,H.c0,H.yshr,⟨H.chg.os,H.chg.tape,H.chg.output,H.chg.size,H.chg.block⟩,H.own,H.glob.keep K.none,H.fix,H.nest.heap (Nat.le_refl _) (fun _ _=>rfl)⟩
 rcases H.store.blk b x hx with ⟨l,hl,hB⟩ | h
 ·exact .inl ⟨l,hl,BlkRep.keep K rfl Iff.rfl hB⟩
 ·exact .inr h
theorem Rep.drawn {w:World} {Y:Nat→Prop} {σ:Sg} {p:PV} {v:Value} (h:Rep w Y σ p v) (d:Nat):Rep { w with drawn:=d } Y σ p v :=
 Rep.keep (w:=w) (w':={ w with drawn:=d }) p ⟨fun _ _ _=>rfl,fun _ _ h=>h,Nat.le_refl _,SgLe.refl _⟩ v h
theorem SW.empty {T:Tab} {C:Ctx T} {w:World} {Y:Nat→Prop} {σ:Sg} {ps:List PV} {vs:List Value} {st:St} {n id:Nat} (H:SW C w Y σ ps vs st n) (hid:σ id=none∧T.pas≤id) (sz:Nat):SW C w Y σ ps vs (inS st id (some (.arr false sz []))) (max n (id+1)):=by
 have hfree:=hid.1
 refine ⟨H.vals,⟨fun b x hx=>?_,fun b b' x x' l l' hx hx' hl hl' e=>?_⟩,fun b hb=>H.next b (by omega),H.yold,H.y0,H.c0,H.yshr,H.chg,fun b x l hx hl=>?_,H.glob,⟨by have:=H.fix.1; omega,H.fix.2⟩,?_⟩
 ·rw [lkS_inS] at hx
  by_cases h:id=b
  ·rw [if_pos h] at hx; cases hx; subst h; exact .inr ⟨hfree,false,sz,rfl⟩
  ·rw [if_neg h] at hx; exact H.store.blk b x hx
 ·rw [lkS_inS] at hx hx'
  by_cases h:id=b
  ·subst h; rw [hfree] at hl; cases hl
  ·by_cases h' : id=b'
   ·subst h'; rw [hfree] at hl'; cases hl'
   ·rw [if_neg h] at hx; rw [if_neg h'] at hx'
    exact H.store.inj b b' x x' l l' hx hx' hl hl' e
 ·rw [lkS_inS] at hx
  by_cases h:id=b
  ·subst h; rw [hfree] at hl; cases hl
  ·rw [if_neg h] at hx; exact H.own b x l hx hl
 ·have back:∀ {c r k h s es},OwAt (inS st id (some (.arr false sz []))) c r k h s es→OwAt st c r k h s es:=by
   rintro c r k h s es ⟨sz0,rows,row,h1,h2⟩
   rw [lkS_inS] at h1
   by_cases hc:id=c
   ·rw [if_pos hc] at h1; cases h1
   ·rw [if_neg hc] at h1; exact ⟨sz0,rows,row,h1,h2⟩
  refine H.nest.keep ⟨fun _ _ _=>rfl,fun _ _ h=>h,Nat.le_refl _,SgLe.refl _⟩ (fun _ _ _ _ _ _ k=>back k) (fun _ _ _ _ _ _ _=>rfl) (fun _ _ _ _ _ _ k=>(H.nest.rep _ _ _ _ _ _ (back k)).own) fun c r k h s es b' x l hk hx hl=>?_
  rw [lkS_inS] at hx
  by_cases hc:id=b'
  ·subst hc; rw [hfree] at hl; cases hl
  ·rw [if_neg hc] at hx; exact H.nest.sep _ _ _ _ _ _ _ _ _ (back hk) hx hl
theorem SW.rebase {T:Tab} {C:Ctx T} {w w' : World} {Y:Nat→Prop} {σ:Sg} {ps:List PV} {vs:List Value} {st:St} {n id b:Nat} (H:SW C w Y σ ps vs st n) (hid:σ id=none∧T.pas≤id) {x x' : Blk} {l l' : Loc}
  (hx:lkS st b=some x) (hnar:∀ sz rows,x' ≠ .nar sz rows) (hl:σ b=some l) (hm:Y l.cb) (hcb:l'.cb=l.cb)
  (hos:w'.os=w.os) (htape:w'.tape=w.tape) (hout:w'.output=w.output) (hsize:w'.heap.size=w.heap.size) (hother:∀ k,k ≠ l.cb→w'.heap[k]?=w.heap[k]?)
  (hnew:∀ σ',(∀ p v,Rep w Y σ p v→Rep w' Y σ' p v)→(∀ p v,Rep w Y noSg p v→Rep w' Y noSg p v)→BlkRep w' Y σ' l' x') :
  ∃ σ',SW C w' Y σ' ps vs (inS (inS st b none) id (some x')) (max n (id+1))∧σ' id=some l'∧Off id σ σ':=by
 have hfree:=hid.1
 let σ' : Sg:=fun c=>if c=id then some l' else σ c
 have hsg:SgLe σ σ':=by
  intro c m h
  show (if c=id then some l' else σ c)=some m
  by_cases hc:c=id
  ·subst hc; rw [hfree] at h; cases h
  ·rw [if_neg hc]; exact h
 have K:Keep w w' Y Y σ σ':=⟨fun k _ hk=>hother k (fun e=>hk (e ▸ hm)),fun _ _ h=>h,Nat.le_of_eq hsize.symm,hsg⟩
 have own:=H.own b x l hx hl
 have look:∀ c y,lkS (inS (inS st b none) id (some x')) c=some y→(c=id∧y=x')∨(c ≠ id∧c ≠ b∧lkS st c=some y):=by
  intro c y h
  rw [lkS_inS] at h
  by_cases hc:id=c
  ·rw [if_pos hc] at h; cases h; exact .inl ⟨hc.symm,rfl⟩
  ·rw [if_neg hc,lkS_inS] at h
   by_cases hc2:b=c
   ·rw [if_pos hc2] at h; cases h
   ·rw [if_neg hc2] at h; exact .inr ⟨fun e=>hc e.symm,fun e=>hc2 e.symm,h⟩
 refine ⟨σ',⟨RepL.keep _ K _ H.vals,⟨?_,?_⟩,?_,fun k hk=>by rw [hsize]; exact H.yold k hk,H.y0,H.c0,H.yshr,?_,?_,H.glob.keep K.none,⟨by have:=H.fix.1; omega,fun b hb=>by show (if b=id then some l' else σ b)=_; rw [if_neg (by omega)]; exact H.fix.2 b hb⟩,?_⟩,by simp [σ'],fun b hb=>by show (if b=id then some l' else σ b)=_; rw [if_neg hb]⟩
 ·intro c y h
  rcases look c y h with ⟨rfl,rfl⟩ | ⟨h1,h2,h3⟩
  ·exact .inl ⟨l',by simp [σ'],hnew σ' (fun p v hp=>Rep.keep p K v hp) (fun p v hp=>Rep.keep p K.none v hp)⟩
  ·rcases H.store.blk c y h3 with ⟨m,hm',hB⟩ | ⟨hn,hy⟩
   ·refine .inl ⟨m,hsg _ _ hm',BlkRep.keep K (hother _ fun e=>h2 ?_) Iff.rfl hB⟩
    exact H.store.inj c b y x m l h3 hx hm' hl e
   ·exact .inr ⟨by simp [σ',h1,hn],hy⟩
 ·intro c c' y y' m m' h h' hm1 hm2 e
  rcases look c y h with ⟨rfl,rfl⟩ | ⟨h1,h2,h3⟩ <;> rcases look c' y' h' with ⟨rfl,rfl⟩ | ⟨h1',h2',h3'⟩
  ·rfl
  ·exfalso
   simp [σ'] at hm1; subst hm1
   have:σ c'=some m':=by simpa [σ',h1'] using hm2
   exact h2' (H.store.inj c' b y' x m' l h3' hx this hl (by rw [← e,hcb]))
  ·exfalso
   simp [σ'] at hm2; subst hm2
   have:σ c=some m:=by simpa [σ',h1] using hm1
   exact h2 (H.store.inj c b y x m l h3 hx this hl (by rw [e,hcb]))
  ·have e1:σ c=some m:=by simpa [σ',h1] using hm1
   have e2:σ c'=some m':=by simpa [σ',h1'] using hm2
   exact H.store.inj c c' y y' m m' h3 h3' e1 e2 e
 ·intro c hc
  show (if c=id then some l' else σ c)=none
  rw [if_neg (by omega)]; exact H.next c (by omega)
 ·refine ⟨by rw [hos]; exact H.chg.os,by rw [htape]; exact H.chg.tape,by rw [hout]; exact H.chg.output,by rw [hsize]; exact H.chg.size,fun k hk hM=>?_⟩
  have hne:k ≠ l.cb:=fun e=>by
   subst e
   have h1:=H.away hx hl
   rcases H.yshr _ hm hk with h2 | h2
   ·exact h1 h2
   ·exact hM h2
  rw [hother k hne]; exact H.chg.block k hk hM
 ·intro c y m h hm'
  rcases look c y h with ⟨rfl,rfl⟩ | ⟨h1,h2,h3⟩
  ·simp [σ'] at hm'; subst hm'; rw [hcb]; exact own
  ·exact H.own c y m h3 (by simpa [σ',h1] using hm')
 ·have back:∀ {c r k h s es},OwAt (inS (inS st b none) id (some x')) c r k h s es→OwAt st c r k h s es:=by
   rintro c r k h s es ⟨sz0,rows,row,h1,h2⟩
   rcases look _ _ h1 with ⟨_,e⟩ | ⟨_,_,h3⟩
   ·exact absurd e.symm (hnar _ _)
   ·exact ⟨sz0,rows,row,h3,h2⟩
  refine H.nest.keep K.none (fun _ _ _ _ _ _ k=>back k) (fun c r k h s es hk=>hother _ (H.nest.sep _ _ _ _ _ _ _ _ _ (back hk) hx hl).symm) (fun _ _ _ _ _ _ k=>(H.nest.rep _ _ _ _ _ _ (back k)).own) fun c r k h s es b' y m hk hy hm'=>?_
  rcases look _ _ hy with ⟨e,_⟩ | ⟨h1,h2,h3⟩
  ·subst e; simp [σ'] at hm'; subst hm'; rw [hcb]; exact H.nest.sep _ _ _ _ _ _ _ _ _ (back hk) hx hl
  ·exact H.nest.sep _ _ _ _ _ _ _ _ _ (back hk) h3 (by simpa [σ',h1] using hm')
theorem RepR.vals {w:World} {Y:Nat→Prop} {σ:Sg} {b sz:Nat}:∀ (rs:List (List PV)) (o:Nat),RepR w Y σ b sz rs o →
  ∃ vs:List Value,(vs.length=rs.length * sz∧∀ v∈vs,oneC v=true)∧(∀ i v,vs[i]?=some v→w.cell? ⟨b,o+i,none⟩=some v) ∧
   ∀ (w' : World) (Y' : Nat→Prop) (σ' : Sg) (b' o' : Nat),(∀ p v,Rep w Y σ p v→Rep w' Y' σ' p v)→(∀ i v,vs[i]?=some v→w'.cell? ⟨b',o'+i,none⟩=some v)→RepR w' Y' σ' b' sz rs o'
 | [],o,_=>⟨[],⟨by simp,by simp⟩,by simp,fun _ _ _ _ _ _ _=>by simp [RepR]⟩
 | r::rs,o,h=>by
  unfold RepR at h
  obtain ⟨h1,h2,h3⟩:=h
  obtain ⟨us,hu1,hu2⟩:=h2.vals
  obtain ⟨vs,⟨hv1,hone⟩,hv2,hv3⟩:=RepR.vals rs (o+sz) h3
  have hul:us.length=sz:=by rw [hu1.length]; exact h1.1
  refine ⟨us ++ vs,⟨?_,fun v hv=>(List.mem_append.1 hv).elim (fun h=>allCell_one _ _ h1.2 hu1 v h) (hone v)⟩,?_,?_⟩
  ·rw [List.length_append,hv1,hul,List.length_cons,Nat.add_mul]; omega
  ·intro i v hi
   by_cases hlt:i<us.length
   ·rw [List.getElem?_append_left hlt] at hi; exact hu2 i v hi
   ·rw [List.getElem?_append_right (by omega)] at hi
    have:=hv2 (i - us.length) v hi
    rw [hul] at this
    rw [show o+i=o+sz+(i - sz) by omega]; exact this
  ·intro w' Y' σ' b' o' hk hc
   unfold RepR
   refine ⟨h1,RepC.of_vals r us o' ?_ (fun i v hi=>hc i v (by rw [List.getElem?_append_left]; exact hi; (by_cases hh:i<us.length; exact hh; rw [List.getElem?_eq_none (by omega)] at hi; cases hi))),hv3 w' Y' σ' b' (o'+sz) hk (fun i v hi=>?_)⟩
   ·exact RepL.of_pointwise _ _ (by rw [hu1.length]) (fun i p v e1 e2=>by
     obtain ⟨v',e3,e4⟩:=hu1.get? e1
     rw [e2] at e3; cases e3
     exact hk _ _ e4)
   ·have:=hc (sz+i) v (by rw [List.getElem?_append_right (by omega),hul]; simpa using hi)
    rw [show o'+sz+i=o'+(sz+i) by omega]; exact this
theorem rowsOf_read {P:Program} {T:Tab} {C:Ctx T} {w:World} {Y:Nat→Prop} {σ:Sg} {ps:List PV} {us:List Value} {st:St} {n esz:Nat} (H:SW C w Y σ ps us st n) {lk:Nat→Option Blk} (hlk:∀ b x,lk b=some x→lkS st b=some x)
  {p:PV} {v:Value} {rows:List (List PV)} (hv:Rep w Y σ p v) (h:rowsOf (Sig.std P T) esz lk p=some rows) :
  ∃ x len cap,v=.slice x len cap∧len=rows.length∧(rows=[]∨∃ b o,x=some ⟨b,o,none⟩∧RepR w Y noSg b esz rows o):=by
 cases p <;> simp [rowsOf] at h
 case sl sz es full =>
  unfold Rep at hv
  obtain ⟨x,len,cap,rfl,hl,_,_,hr⟩:=hv
  cases hb:Nat.beq sz esz with
  | true =>
   rw [hb] at h
   simp only [cond_true,Option.some.injEq] at h
   subst h
   have:=Nat.eq_of_beq_eq_true hb
   subst this
   exact ⟨x,len,cap,rfl,hl,hr.imp id fun ⟨b,o,e,_,hr⟩=>⟨b,o,e,hr⟩⟩
  | false =>
   rw [hb] at h
   simp only [cond_false] at h
   cases es with
   | nil=>simp at h; subst h; exact ⟨x,len,cap,rfl,hl,.inl rfl⟩
   | cons _ _=>simp at h
 case os b r m =>
  split at h
  ·rename_i ro sz rows' hb
   cases hbb:Nat.beq sz esz with
   | false=>rw [hbb] at h; simp at h
   | true =>
    rw [hbb] at h
    simp only [cond_true,Option.some.injEq] at h
    subst h
    have:=Nat.eq_of_beq_eq_true hbb
    subst this
    obtain ⟨x,cap,rfl,hn,hl,hr⟩:=os_rows hv (H.store.blk b _ (hlk _ _ hb))
    exact ⟨x,m,cap,rfl,hl,hr.imp id fun ⟨b',o,e,_,_,hr⟩=>⟨b',o,e,hr⟩⟩
  ·cases h
theorem firstCells_run {P:Program} {w:World} {size n:Nat} {x:Option Addr} {len cap:Nat} {vs:List Value} (hl:vs.length=n * size) (h:vs=[]∨∃ b o,x=some ⟨b,o,none⟩∧∀ i v,vs[i]?=some v→w.cell? ⟨b,o+i,none⟩=some v) :
  (Builtin.firstCells size n (.slice x len cap)).run P w=.ok vs.toArray w:=by
 cases x with
 | none =>
  rcases h with rfl | ⟨b,o,e,_⟩
  ·simp [Builtin.firstCells]
  ·exact absurd e (by simp)
 | some a =>
  rcases h with rfl | ⟨b,o,e,hc⟩
  ·simp only [List.length_nil] at hl
   simp only [Builtin.firstCells,← hl,loadCells,loadCellsFrom,Sem.run_pure]
  ·obtain rfl:a=⟨b,o,none⟩:=Option.some.inj e
   simp only [Builtin.firstCells,← hl,loadCells]
   rw [loadCells_run vs 0 #[] (fun j v hj=>by simpa using hc j v hj)]
   simp
theorem growBy_le:∀ (rounds newLen c:Nat),c≤newLen+newLen / 4+192→Builtin.growBy newLen rounds c≤newLen+newLen / 4+192
 | 0,newLen,c,h=>by simpa [Builtin.growBy] using h
 | rounds+1,newLen,c,h=>by
  simp only [Builtin.growBy]
  split
  ·exact h
  ·exact growBy_le rounds newLen _ (by omega)
theorem nextcap_le {need cap:Nat} (h:¬ need≤cap):Builtin.nextslicecap need cap≤2 * need+192:=by
 unfold Builtin.nextslicecap
 split
 ·omega
 ·split
  ·omega
  ·have:=growBy_le 4 need cap (by omega)
   omega
theorem cut_ge {need old:Nat} {e:TypeId} (t:Nat):need≤(Question.appendCap need old e).cut t:=by
 simp only [Question.cut]; omega
section
variable {P:Program} {T:Tab} (hT:TabOK P T) {C:Ctx T} {o:Oper} {a:Act} {w:World} {Y:Nat→Prop} {σ:Sg} {ps:List PV} {st:St} {n id:Nat} {K:PV→Dl→Prop} {lk:Nat→Option Blk}
 (H:SW C w Y σ ps a.tmps.toList st n) (hlk:∀ b x,lk b=some x→lkS st b=some x) (hid:σ id=none∧T.pas≤id) (hU:UndOK P)
theorem append_new (H:SW C w Y σ ps a.tmps.toList st n) (hid:σ id=none∧T.pas≤id) {t u:TypeId} {ts:List TypeId} {et:TypeId} {inf:TypeInfo} {z:List PV} {old new:List (List PV)} {x y:Option Addr} {sl sc yl yc:Nat} {ty:TypeId} {us vs:List Value} {eu:TypeId}
  (hu:P.underlying t=some (.slice et)) (hu2:P.underlying u=some (.slice eu)) (hi:P.info? et=some inf) (hz:zeroT P et=some z) (hpos:0<P.cellsOf et) (hzl:z.length=P.cellsOf et)
  (hold:us.length=sl * P.cellsOf et∧(us=[]∨∃ b o,x=some ⟨b,o,none⟩∧∀ i v,us[i]?=some v→w.cell? ⟨b,o+i,none⟩=some v))
  (hnew:vs.length=yl * P.cellsOf et∧(vs=[]∨∃ b o,y=some ⟨b,o,none⟩∧∀ i v,vs[i]?=some v→w.cell? ⟨b,o+i,none⟩=some v))
  (hsl:sl=old.length) (hyl:yl=new.length)
  (hrows:∀ (w' : World) (Y' : Nat→Prop) (b' : Nat),(∀ p v,Rep w Y noSg p v→Rep w' Y' noSg p v)→(∀ i v,(us ++ vs)[i]?=some v→w'.cell? ⟨b',0+i,none⟩=some v)→RepR w' Y' noSg b' (P.cellsOf et) (old ++ new) 0)
  (hgrow:¬ sl+yl≤sc) (hroom:(2 * (sl+yl)+192) * inf.bytes≤140737488355328) (hbig:sl+yl≤4611686018427387904) :
  ∃ cv w' Y' σ',(Builtin.append_ (t::u::ts).toArray ty #[.slice x sl sc,.slice y yl yc]).run P w=.ok cv w' ∧
   SW C w' Y' σ' ps a.tmps.toList (inS st id (some (.arr false (P.cellsOf et) (old ++ new)))) (max n (id+1))∧Rep w' Y' σ' (.os id 0 (old.length+new.length)) cv∧Off id σ σ':=by
 obtain ⟨zv,hzr,hzrep⟩:=zero_rep hz
 have hinf:P.info? et ≠ none:=by rw [hi]; simp
 let wd:World:={ w with drawn:=w.drawn+1 }
 obtain ⟨cap,hcap⟩:∃ cap,cap=(Question.appendCap (sl+yl) sc et).cut (w.tape w.drawn (Question.appendCap (sl+yl) sc et)):=⟨_,rfl⟩
 have hge:sl+yl≤cap:=by rw [hcap]; exact cut_ge _
 have Hd:=H.drawn (w.drawn+1)
 let rest:Array Value:=Builtin.zeroCells zv.cells (cap - (sl+yl))
 let arr:Array Value:=us.toArray ++ vs.toArray ++ rest
 have hzsz:zv.cells.size=P.cellsOf et:=by
  have:=(hzrep w Y noSg).length
  rw [Array.length_toList] at this; omega
 have harr:arr.size=cap * P.cellsOf et:=by
  simp only [arr,rest,Builtin.zeroCells,Array.size_append,List.size_toArray,hold.1,hnew.1,Array.size_map,Array.size_range,hzsz]
  rw [← Nat.add_mul,← Nat.add_mul]
  congr 1; omega
 obtain ⟨Y2,σ2,H2,hrep2,hoff⟩:=SW.newArr (a:=a) (m:=cap) (arr:=arr) (rows:=old ++ new) Hd hid et hpos (by rw [List.length_append]; omega) harr (by
  intro w' Y' hk hb
  refine hrows w' Y' _ (fun p v hp=>hk p v (hp.drawn _)) (fun i v hv=>?_)
  rw [cell_of_block hb]
  have hlt:i<(us ++ vs).length:=by
   by_cases hh:i<(us ++ vs).length
   ·exact hh
   ·rw [List.getElem?_eq_none (Nat.le_of_not_lt hh)] at hv; cases hv
  simp only [arr,Nat.zero_add]
  rw [Array.getElem?_append_left (by simpa using hlt)]
  rw [← hv]; simp)
 rw [List.length_append] at hrep2
 refine ⟨_,_,Y2,σ2,?_,H2,hrep2,hoff⟩
 have c1:¬ (((sl+yl:Nat):Int) > IntKind.i64.max∧(False∨inf.bytes=0)):=by
  have:IntKind.i64.max=9223372036854775807:=by decide
  rw [this]; omega
 have c2:¬ (Builtin.nextslicecap (sl+yl) sc * inf.bytes > 2 ^ 48):=by
  have:=Nat.mul_le_mul_right inf.bytes (nextcap_le hgrow)
  omega
 have r1:=firstCells_run (P:=P) (w:=wd) (size:=P.cellsOf et) (n:=sl) (x:=x) (len:=sl) (cap:=sc) hold.1 hold.2
 have r2:=firstCells_run (P:=P) (w:=wd) (size:=P.cellsOf et) (n:=yl) (x:=y) (len:=yl) (cap:=yc) hnew.1 hnew.2
 have ask:∀ k,(askRoom k).run P wd=.ok () wd:=by
  intro k; unfold askRoom; split <;> simp [mark,Sem.run]
 have ch:(choose (Question.appendCap (sl+yl) sc et)).run P w=.ok cap wd:=by
  rw [hcap]; simp [choose,Sem.run,Question.forced,wd]
 simp only [Builtin.append_,List.getElem?_toArray,List.getElem?_cons_zero,List.getElem?_cons_succ,Sem.run_bind,run_und hu,run_und hu2,Result.andThen,run_sizeOf hinf,Sem.run_pure]
 simp only [Bool.false_eq_true,if_false,Builtin.lenOf,Sem.run_bind,Sem.run_pure,Result.andThen]
 rw [if_neg hgrow]
 simp only [Sem.run_bind,typeInfo_run hi,Result.andThen]
 rw [if_neg c1]
 simp only [Sem.run_bind,typeInfo_run hi,Result.andThen]
 rw [if_neg c2]
 simp only [Sem.run_bind,ch,typeInfo_run hi,Result.andThen,ask,r1,Bool.not_false,if_true,r2,hzr,newRow,newObj,Sem.run_pure]
 simp only [Sem.run]
 rw [← hsl,← hyl]
 rfl
theorem append_place {t u:TypeId} {ts:List TypeId} {et:TypeId} {x y:Option Addr} {sl sc yl yc:Nat} {ty:TypeId} {vs:List Value} {eu:TypeId}
  (hu:P.underlying t=some (.slice et)) (hu2:P.underlying u=some (.slice eu)) (hinf:P.info? et ≠ none)
  (hnew:vs.length=yl * P.cellsOf et∧(vs=[]∨∃ b o,y=some ⟨b,o,none⟩∧∀ i v,vs[i]?=some v→w.cell? ⟨b,o+i,none⟩=some v))
  (hgrow:sl+yl≤sc) {w' : World} (hst:∀ b o,x=some ⟨b,o,none⟩→(storeCells ⟨b,o+sl * P.cellsOf et,none⟩ vs).run P w=.ok () w') (hno:x=none→w'=w) (hx:∀ a,x=some a→a.spot=none) :
  (Builtin.append_ (t::u::ts).toArray ty #[.slice x sl sc,.slice y yl yc]).run P w=.ok (.slice x (sl+yl) sc) w':=by
 have r2:=firstCells_run (P:=P) (w:=w) (size:=P.cellsOf et) (n:=yl) (x:=y) (len:=yl) (cap:=yc) hnew.1 hnew.2
 simp only [Builtin.append_,List.getElem?_toArray,List.getElem?_cons_zero,List.getElem?_cons_succ,Sem.run_bind,run_und hu,run_und hu2,Result.andThen,run_sizeOf hinf,Sem.run_pure]
 simp only [Bool.false_eq_true,if_false,Builtin.lenOf,Sem.run_bind,Sem.run_pure,Result.andThen]
 rw [if_pos hgrow]
 simp only [Sem.run_bind,Bool.not_false,if_true,r2,Result.andThen]
 cases x with
 | none=>simp only [Sem.run_pure]; rw [hno rfl]
 | some a =>
  obtain ⟨b,o,sp⟩:=a
  have:=hx _ rfl
  simp only at this
  subst this
  simp only [Sem.run_bind,addr_add]
  have:=hst b o rfl
  simp only [this,Result.andThen,Sem.run_pure]
end
end Go.Pv
namespace Go.Pv
open Go
section
variable {P:Program} {T:Tab} (hT:TabOK P T) {C:Ctx T} {o:Oper} {a:Act} {w:World} {Y:Nat→Prop} {σ:Sg} {ps:List PV} {st:St} {n id:Nat} {K:PV→Dl→Prop} {lk:Nat→Option Blk}
 (H:SW C w Y σ ps a.tmps.toList st n) (hlk:∀ b x,lk b=some x→lkS st b=some x) (hid:σ id=none∧T.pas≤id) (hU:UndOK P)
theorem byteR_cell {w:World} {Y:Nat→Prop} {b:Nat}:∀ (rows:List (List PV)) (ns:List (Option Int)) (o:Nat),RepR w Y noSg b 1 rows o→rows.map byteR=ns→∀ (j:Nat) (n:Int),ns[j]?=some (some n)→w.cell? ⟨b,o+j,none⟩=some (.int .u8 n)
 | [],ns,o,_,e,j,n,h=>by subst e; simp at h
 | r::rows,ns,o,hR,e,j,n,h=>by
  subst e
  unfold RepR at hR
  obtain ⟨_,h2,h3⟩:=hR
  cases j with
  | zero =>
   simp only [List.map_cons,List.getElem?_cons_zero,Option.some.injEq] at h
   unfold byteR at h
   split at h
   ·cases h
    unfold RepC at h2
    obtain ⟨⟨v,hc,hv⟩,_⟩:=h2
    rw [Nat.add_zero,hc,rep_si hv]
   ·cases h
    unfold RepC at h2
    obtain ⟨⟨v,hc,hv⟩,_⟩:=h2
    rw [Nat.add_zero,hc,rep_int hv]
   ·cases h
  | succ j =>
   have:=byteR_cell rows _ (o+1) h3 rfl j n (by simpa using h)
   rw [show o+(j+1)=o+1+j by omega]; exact this
theorem fold_bytes:∀ (l:List UInt8) (r:ByteArray),((l.map (fun c=>(c.toNat:Int))).foldl (fun r n=>r.push (UInt8.ofNat n.toNat)) r)=⟨r.data ++ l.toArray⟩
 | [],r=>by cases r; simp
 | c::l,r=>by
  simp only [List.map_cons,List.foldl_cons]
  rw [fold_bytes l]
  cases r
  simp [ByteArray.push]
theorem array_cons2 {α:Type} {x:Array α} {t u:α} {l:List α} (h:x.toList=t::u::l):x=(t::u::l).toArray:=by apply Array.ext'; simpa using h
theorem builtin_res {b:Builtin} {args:Array Operand} {ts:Array TypeId} {v:PV} {δ:Dl} {cv:Value} {w' : World} {Y' : Nat→Prop} {σ' : Sg} (ho:o.op=.call { callee:=.builtin b,args:=args,argTypes:=ts })
  (hr:∀ ty cs,(builtin b ts ty cs (args.toList.map a.eval).toArray).run P w=.ok (.value cv) w') (H' : SW C w' Y' σ' ps a.tmps.toList (applyD δ st) (nextI δ n id)) (hv:Rep w' Y' σ' v cv) (hoff:Off id σ σ') (hK:K v δ):Res P C o a w σ ps st n id K:=by
 have hmap:args.map a.eval=(args.toList.map a.eval).toArray:=by apply Array.ext'; simp
 refine ⟨v,δ,cv,w',Y',σ',hK,.inl ?_,H',hv,hoff⟩
 simp only [execOp,ho,resolve,hmap,Sem.run_bind,Sem.run_pure,Result.andThen,invoke]
 exact hr _ _
include hT H hlk hid in
theorem op_append {args:Array Operand} {ts:Array TypeId} (ho:o.op=.call { callee:=.builtin .append,args:=args,argTypes:=ts }) (h:opE T (Sig.std P T) (.call { callee:=.builtin .append,args:=args,argTypes:=ts }) ps lk id K):Res P C o a w σ ps st n id K:=by
 have hargs:=evA_rep H args.toList
 simp only [opE] at h
 generalize hvs:args.toList.map a.eval=vs at hargs
 split at h
 all_goals first | (exact h.elim) | skip
 ·contradiction
 ·contradiction
 ·contradiction
 ·contradiction
 ·contradiction
 ·contradiction
 ·rename_i s x t u tl hb he ht
  rw [he] at hargs
  obtain ⟨sv,xv,rfl,hs,hx⟩:=evA_twoX hargs
  have ht':=array_cons2 ht
  subst ht'
  split at h
  ·rename_i a1 s1 z1 p1 esz bytes z a2 s2 z2 p2 k1 k2 k3 e1 e2
   obtain ⟨et,hu,rfl,rfl,hz⟩:=tab_slice hT e1
   obtain ⟨eu,hu2,_⟩:=tab_slice hT e2
   cases hb:(isPos (P.cellsOf et) && Nat.beq (lenL z) (P.cellsOf et)) with
   | false=>rw [hb] at h; exact h.elim
   | true =>
    rw [hb] at h
    simp only [cond_true] at h
    rw [Bool.and_eq_true,lenL_eq] at hb
    have hinf:=info_of_pos hb.1
    have hzl:=Nat.eq_of_beq_eq_true hb.2
    have hpos:0<P.cellsOf et:=by
     rcases Nat.eq_zero_or_pos (P.cellsOf et) with h0 | h0
     ·have:=hb.1; rw [h0] at this; simp [isPos] at this
     ·exact h0
    cases hi:P.info? et with
    | none=>exact absurd hi hinf
    | some inf =>
    have hbe:=bytesOf_eq hi
    have rd:∀ {new:List (List PV)},rowsOf (Sig.std P T) (P.cellsOf et) lk x=some new→∃ y yc vs,xv=.slice y new.length yc∧(vs.length=new.length * P.cellsOf et∧(vs=[]∨∃ b o,y=some ⟨b,o,none⟩∧∀ i v,vs[i]?=some v→w.cell? ⟨b,o+i,none⟩=some v))∧(∀ v∈vs,oneC v=true) ∧
      (∀ (w' : World) (Y' : Nat→Prop) (b' o' : Nat),(∀ p v,Rep w Y noSg p v→Rep w' Y' noSg p v)→(∀ i v,vs[i]?=some v→w'.cell? ⟨b',o'+i,none⟩=some v)→RepR w' Y' noSg b' (P.cellsOf et) new o'):=by
     intro new hn
     obtain ⟨y,len,yc,rfl,rfl,hr⟩:=rowsOf_read H hlk hx hn
     rcases hr with rfl | ⟨b,o',rfl,hr⟩
     ·exact ⟨y,yc,[],rfl,⟨by simp,.inl rfl⟩,by simp,fun _ _ _ _ _ _=>by simp [RepR]⟩
     ·obtain ⟨vs,⟨g1,g1'⟩,g2,g3⟩:=hr.vals
      exact ⟨_,yc,vs,rfl,⟨g1,.inr ⟨b,o',rfl,g2⟩⟩,g1',fun w' Y' b' o' hk hc=>g3 w' Y' noSg b' o' hk hc⟩
    have fresh:∀ {st0:St} {sx:Option Addr} {new:List (List PV)} {δ:Dl} {ty:TypeId},SW C w Y σ ps a.tmps.toList st0 n→rowsOf (Sig.std P T) (P.cellsOf et) lk x=some new→sv=.slice sx 0 0 →
      (2 * new.length+192) * P.bytesOf et≤140737488355328→new.length≤4611686018427387904→applyD δ st=inS st0 id (some (.arr false (P.cellsOf et) new))→nextI δ n id=max n (id+1)→K (.os id 0 new.length) δ→Res P C o a w σ ps st n id K:=by
     intro st0 sx new δ ty H0 hn hsv hroom hbig hδ hnx hK
     obtain ⟨y,yc,vs,rfl,hvs2,hone,htr⟩:=rd hn
     subst hsv
     by_cases h0:new.length=0
     ·have hnil:new=[]:=List.eq_nil_of_length_eq_zero h0
      subst hnil
      have hvn:vs=[]:=List.eq_nil_of_length_eq_zero (by simpa using hvs2.1)
      refine builtin_res ho (δ:=δ) (cv:=.slice sx 0 0) (w':=w) (Y':=Y) (σ':=σ) (fun ty cs=>?_) (by rw [hδ,hnx]; exact H0.empty hid _) ?_ (Off.refl _ _) hK
      ·rw [hvs]
       have r2:=firstCells_run (P:=P) (w:=w) (size:=P.cellsOf et) (n:=0) (x:=y) (len:=0) (cap:=yc) (vs:=[]) (by simp) (.inl rfl)
       simp only [builtin,Builtin.append_,List.getElem?_toArray,List.getElem?_cons_zero,List.getElem?_cons_succ,Sem.run_bind,run_und hu,run_und hu2,Result.andThen,run_sizeOf hinf,Sem.run_pure,List.length_nil]
       simp only [Bool.false_eq_true,if_false,Builtin.lenOf,Sem.run_bind,Sem.run_pure,Result.andThen]
       rw [if_pos (Nat.le_refl _)]
       simp only [Sem.run_bind,Bool.not_false,if_true,r2,Result.andThen]
       cases sx <;> simp [storeCells]
      ·unfold Rep; exact .inr ⟨rfl,sx,rfl⟩
     ·obtain ⟨cv,w',Y',σ',hrun,H',hrep,hoff⟩:=append_new (P:=P) (a:=a) (ty:=ty) (x:=sx) (sc:=0) (us:=[]) (vs:=vs) (old:=[]) (new:=new) (ts:=tl) (yc:=yc) H0 hid hu hu2 hi hz.symm hpos hzl (sl:=0) (by simp) hvs2 (by simp) rfl
       (fun w' Y' b' hk hc=>by simpa using htr w' Y' b' 0 hk (fun i v hv=>hc i v (by simpa using hv))) (by omega) (by rw [hbe] at hroom; simpa using hroom) (by omega)
      refine builtin_res ho (δ:=δ) (cv:=cv) (w':=w') (Y':=Y') (σ':=σ') (fun ty' cs=>?_) (by rw [hδ,hnx]; simpa using H') (by simpa using hrep) hoff hK
      rw [hvs]
      simp only [builtin,Sem.run_bind]
      have:Builtin.append_ (t::u::tl).toArray ty' [Value.slice sx 0 0,Value.slice y new.length yc].toArray=Builtin.append_ (t::u::tl).toArray ty #[Value.slice sx 0 0,Value.slice y new.length yc]:=rfl
      rw [this,hrun]
      rfl
    split at h
    ·rename_i sz new hn
     obtain ⟨g1,g2,h⟩:=h
     unfold Rep at hs
     obtain ⟨sx,len,cap,rfl,hl,hc,hf,_⟩:=hs
     have:len=0:=by simpa using hl
     subst this
     have:cap=0:=hf rfl
     subst this
     exact fresh (ty:=0) H hn rfl g1 g2 rfl rfl h
    ·rename_i b r m new hn
     split at h
     ·rename_i sz rows hbk
      cases hsz:Nat.beq sz (P.cellsOf et) with
      | false=>rw [hsz] at h; exact h.elim
      | true =>
       rw [hsz] at h
       simp only [cond_true] at h
       have hsz:=Nat.eq_of_beq_eq_true hsz
       subst hsz
       obtain ⟨g1,g2,h⟩:=h
       have g1:(2 * (m+new.length)+192) * P.bytesOf et≤140737488355328:=g1
       have g2:m+new.length≤4611686018427387904:=g2
       have hst:=hlk _ _ hbk
       have hBS:=H.store.blk b _ hst
       obtain ⟨sx,cap,rfl,hmc,hml,hr⟩:=os_rows hs hBS
       have hsub:(Sig.std P T).sub rows r m=(rows.drop r).take m:=rfl
       have happ:(Sig.std P T).app ((Sig.std P T).sub rows r m) new=(rows.drop r).take m ++ new:=rfl
       rw [happ] at h
       obtain ⟨y,yc,vs,rfl,hvs2,hone,htr⟩:=rd hn
       by_cases hgrow:m+new.length≤cap
       ·
        unfold Rep at hs
        rcases hs with ⟨l,cap',hl,e,_,htot,hnr⟩ | ⟨rfl,sx',e⟩
        ·cases e
         have hB:=BlkRep.of_lk H hlk hbk hl
         unfold BlkRep at hB
         obtain ⟨⟨arr,tyb,ha,has⟩,hlsz,_,⟨hle,hlnr⟩,hrows,hm,_⟩:=hB
         rw [hlsz] at htot
         have hbnd:l.co+r * P.cellsOf et+(m+new.length) * P.cellsOf et≤arr.size:=by
          rw [has,← htot]
          have:=Nat.mul_le_mul_right (P.cellsOf et) hgrow
          omega
         obtain ⟨w',hrun,W⟩:=storeCells_run (P:=P) (o:=l.co+r * P.cellsOf et+m * P.cellsOf et) vs 0 w arr ha (by rw [hvs2.1]; rw [Nat.add_mul] at hbnd; omega) hone
         have W:Wrote w w' l.cb (l.co+r * P.cellsOf et+m * P.cellsOf et) arr tyb vs:=by simpa using W
         obtain ⟨arr',h4,h5,h6⟩:=W.blk
         have hml' : ((rows.drop r).take m ++ new).length=m+new.length:=by rw [List.length_append,← hml]
         obtain ⟨σ',H',hid',hoff⟩:=H.rebase hid (x':=.arr false (P.cellsOf et) ((rows.drop r).take m ++ new)) (l':=⟨l.cb,l.co+r * P.cellsOf et,P.cellsOf et,l.tot,m+new.length⟩) hst (fun _ _ e=>by cases e) hl (hm rfl) rfl W.os W.tape W.output W.size W.other (by
          intro σ' _ hk
          unfold BlkRep
          refine ⟨⟨arr',tyb,h4,by rw [h5,has]⟩,rfl,hpos,⟨by rw [hml']; show l.co+r * P.cellsOf et+(m+new.length) * P.cellsOf et≤l.tot; omega,hml'⟩,?_,fun _=>hm rfl,fun h=>by cases h⟩
          refine RepR.app _ _ _ ?_ ?_
          ·obtain ⟨us,⟨u1,_⟩,u2,u3⟩:=((hrows.drop r _ _).take m _ _).vals
           refine u3 w' Y noSg l.cb _ hk (fun i v hv=>?_)
           have hc:=u2 i v hv
           rw [cell_of_block ha] at hc
           have hilt:i<us.length:=by
            by_cases hh:i<us.length
            ·exact hh
            ·rw [List.getElem?_eq_none (Nat.le_of_not_lt hh)] at hv; cases hv
           rw [u1,← hml] at hilt
           show w'.cell? ⟨l.cb,l.co+r * P.cellsOf et+i,none⟩=some v
           rw [cell_of_block h4,h6,if_neg (by omega)]
           exact hc
          ·refine htr w' Y l.cb _ hk (fun i v hv=>?_)
           have hilt:i<vs.length:=by
            by_cases hh:i<vs.length
            ·exact hh
            ·rw [List.getElem?_eq_none (Nat.le_of_not_lt hh)] at hv; cases hv
           show w'.cell? ⟨l.cb,l.co+r * P.cellsOf et+((rows.drop r).take m).length * P.cellsOf et+i,none⟩=some v
           rw [← hml,cell_of_block h4,h6,if_pos (by omega)]
           rw [show l.co+r * P.cellsOf et+m * P.cellsOf et+i - (l.co+r * P.cellsOf et+m * P.cellsOf et)=i by omega]
           exact hv)
         refine builtin_res ho (δ:=_) (cv:=.slice (some ⟨l.cb,l.co+r * l.sz,none⟩) (m+new.length) cap) (w':=w') (Y':=Y) (σ':=σ') (fun ty cs=>?_) (by simp only [applyD,nextI]; exact H') ?_ hoff h
         ·rw [hvs]
          have:=append_place (P:=P) (w:=w) (ts:=tl) (ty:=ty) (x:=some ⟨l.cb,l.co+r * l.sz,none⟩) (sl:=m) (sc:=cap) (yc:=yc) (w':=w') hu hu2 hinf hvs2 hgrow (fun b o e=>by cases e; rw [hlsz]; exact hrun) (fun h=>by cases h) (fun a h=>by cases h; rfl)
          simp only [builtin,Sem.run_bind]
          rw [this]
          rfl
         ·unfold Rep
          refine .inl ⟨_,cap,hid',?_,hgrow,?_,?_⟩
          ·rw [hlsz]; simp; rfl
          ·simp; omega
          ·show 0+(m+new.length)≤m+new.length; omega
        ·cases e
         have hn0:new.length=0:=by omega
         have hn0' : new=[]:=List.eq_nil_of_length_eq_zero hn0
         subst hn0'
         refine fresh (st0:=inS st b none) (ty:=0) (δ:=[(b,none),(id,some (.arr false (P.cellsOf et) ((rows.drop r).take 0 ++ [])))]) (H.drop b) hn rfl (by simpa using g1) (by simp) (by simp [applyD]) rfl ?_
         exact h
       ·
        have hold:∃ us:List Value,(us.length=m * P.cellsOf et∧(us=[]∨∃ b o,sx=some ⟨b,o,none⟩∧∀ i v,us[i]?=some v→w.cell? ⟨b,o+i,none⟩=some v)) ∧
          (∀ (w' : World) (Y' : Nat→Prop) (b' o' : Nat),(∀ p v,Rep w Y noSg p v→Rep w' Y' noSg p v)→(∀ i v,us[i]?=some v→w'.cell? ⟨b',o'+i,none⟩=some v)→RepR w' Y' noSg b' (P.cellsOf et) ((rows.drop r).take m) o'):=by
         rcases hr with hr | ⟨b',o',e,_,_,hr⟩
         ·rw [hr] at hml ⊢
          refine ⟨[],⟨by rw [hml]; simp,.inl rfl⟩,fun _ _ _ _ _ _=>by simp [RepR]⟩
         ·obtain ⟨us,⟨u1,_⟩,u2,u3⟩:=hr.vals
          exact ⟨us,⟨by rw [u1,← hml],.inr ⟨b',o',e,u2⟩⟩,fun w' Y' b' o' hk hc=>u3 w' Y' noSg b' o' hk hc⟩
        obtain ⟨us,hus,hutr⟩:=hold
        obtain ⟨cv,w',Y',σ',hrun,H',hrep,hoff⟩:=append_new (P:=P) (a:=a) (ty:=0) (x:=sx) (sc:=cap) (us:=us) (vs:=vs) (old:=(rows.drop r).take m) (new:=new) (ts:=tl) (yc:=yc) (H.drop b) hid hu hu2 hi hz.symm hpos hzl (sl:=m) hus hvs2 hml rfl
         (fun w' Y' b' hk hc=>by
          refine RepR.app _ _ _ (hutr w' Y' b' 0 hk (fun i v hv=>hc i v ?_)) (htr w' Y' b' _ hk (fun i v hv=>?_))
          ·rw [List.getElem?_append_left]
           ·exact hv
           ·by_cases hh:i<us.length
            ·exact hh
            ·rw [List.getElem?_eq_none (Nat.le_of_not_lt hh)] at hv; cases hv
          ·have:=hc (us.length+i) v (by rw [List.getElem?_append_right (by omega)]; simpa using hv)
           rw [hus.1] at this
           rw [← hml]; simpa using this) hgrow (by rw [hbe] at g1; exact g1) g2
        refine builtin_res ho (δ:=_) (cv:=cv) (w':=w') (Y':=Y') (σ':=σ') (fun ty' cs=>?_) (by simp only [applyD,nextI]; exact H') (by rw [← hml] at hrep; exact hrep) hoff h
        rw [hvs]
        simp only [builtin,Sem.run_bind]
        have:Builtin.append_ (t::u::tl).toArray ty' [Value.slice sx m cap,Value.slice y new.length yc].toArray=Builtin.append_ (t::u::tl).toArray 0 #[Value.slice sx m cap,Value.slice y new.length yc]:=rfl
        rw [this,hrun]
        rfl
     ·exact h.elim
    ·exact h.elim
  ·exact h.elim
 all_goals contradiction
include hT H hlk in
theorem op_convert {s d:TypeId} {x:Operand} (ho:o.op=.convert s d x) (h:opE T (Sig.std P T) (.convert s d x) ps lk id K):Res P C o a w σ ps st n id K:=by
 have hc:=ev_rep H x
 simp only [opE] at h
 split at h
 ·rename_i e1 e
  obtain ⟨_,hs,_⟩:=tab_slice hT e1
  have hd:=tab_str hT e
  split at h
  ·rename_i rows hr
   obtain ⟨⟨el,hs2,he⟩,s',hb,hK⟩:=h
   obtain ⟨x',len,cap,ev,hl,hrep⟩:=rowsOf_read H hlk hc hr
   refine Res.quiet H (cv:=.string s') ?_ (by simp [Rep]) hK
   have hlen:rows.length=s'.data.toList.length:=by simpa using congrArg List.length hb
   have hrun:(Conv.bytesToString (.slice x' len cap)).run P w=.ok (.string s') w:=by
    cases x' with
    | none =>
     rcases hrep with rfl | ⟨b,o',e0,_⟩
     ·have:s'=ByteArray.empty:=by
       have:s'.data.toList=[]:=by
        cases hh:s'.data.toList with
        | nil=>rfl
        | cons _ _=>rw [hh] at hlen; simp at hlen
       cases s' with
       | mk d=>simp at this; subst this; rfl
      subst this
      simp [Conv.bytesToString]
     ·cases e0
    | some ad =>
     have hcells:(loadCells ad len).run P w=.ok ((s'.data.toList.map (fun c=>(c.toNat:Int))).map (Value.int .u8)).toArray w:=by
      rcases hrep with rfl | ⟨b,o',e0,hR⟩
      ·have h0:s'.data.toList=[]:=by
        cases hh:s'.data.toList with
        | nil=>rfl
        | cons _ _=>rw [hh] at hlen; simp at hlen
       rw [hl,h0]; simp [loadCells,loadCellsFrom]
      ·cases e0
       have hlen2:len=((s'.data.toList.map (fun c=>(c.toNat:Int))).map (Value.int .u8)).length:=by rw [hl,hlen]; simp
       rw [hlen2,loadCells]
       rw [loadCells_run _ 0 #[] (fun j v hj=>by
        obtain ⟨c,hc1,hc2⟩:∃ c,s'.data.toList[j]?=some c∧v=.int .u8 (c.toNat:Int):=by
         rw [List.getElem?_map,List.getElem?_map] at hj
         cases hh:s'.data.toList[j]? with
         | none=>rw [hh] at hj; cases hj
         | some c=>rw [hh] at hj; exact ⟨c,rfl,by simpa using hj.symm⟩
        have:=byteR_cell rows _ o' hR hb j (c.toNat:Int) (by rw [List.getElem?_map,hc1]; rfl)
        rw [hc2,Nat.zero_add]; exact this)]
       simp
     rw [run_bytesToString w ad len cap _ hcells,fold_bytes]
     cases s' with
     | mk d=>rw [show ByteArray.empty.data ++ d.toList.toArray=d from by show #[] ++ d.toList.toArray=d; rw [Array.empty_append,Array.toArray_toList]]
   simp only [execOp,ho,ev,Sem.run_bind]
   rw [run_convert_bytes_string w s d el x' len cap hs2 he hd,hrun]
   simp [Result.andThen]
  ·exact h.elim
 ·rename_i k e1 e
  obtain ⟨_,u,_,hs,_⟩:=tab_open hT e1 rfl
  have hd:=tab_int hT e
  split at h
  ·rename_i e; rw [e] at hc; have hc:=rep_int hc
   refine Res.quiet H (cv:=.int k (k.wrap _)) ?_ (by simp [Rep]; rfl) h
   simp [execOp,ho,hc,convert,run_und hs,run_und hd,Conv.intToInt]
  ·rename_i e; rw [e] at hc; have hc:=rep_si hc
   refine Res.quiet H (cv:=.int k (k.wrap _)) ?_ (by simp [Rep,Sig.std]; rfl) h
   simp [execOp,ho,hc,convert,run_und hs,run_und hd,Conv.intToInt]
  ·exact h.elim
 ·exact h.elim
end
end Go.Pv
namespace Go.Pv
open Go
section
variable {P:Program} {T:Tab} (hT:TabOK P T) {C:Ctx T} {o:Oper} {a:Act} {w:World} {Y:Nat→Prop} {σ:Sg} {ps:List PV} {st:St} {n id:Nat} {K:PV→Dl→Prop} {lk:Nat→Option Blk}
 (H:SW C w Y σ ps a.tmps.toList st n) (hlk:∀ b x,lk b=some x→lkS st b=some x) (hid:σ id=none∧T.pas≤id) (hU:UndOK P)
theorem array_cons1 {α:Type} {x:Array α} {t:α} {l:List α} (h:x.toList=t::l):x=(t::l).toArray:=by apply Array.ext'; simpa using h
include hT H hlk hid in
theorem op_clear {args:Array Operand} {ts:Array TypeId} (ho:o.op=.call { callee:=.builtin .clear,args:=args,argTypes:=ts }) (h:opE T (Sig.std P T) (.call { callee:=.builtin .clear,args:=args,argTypes:=ts }) ps lk id K):Res P C o a w σ ps st n id K:=by
 have hargs:=evA_rep H args.toList
 simp only [opE] at h
 generalize hvs:args.toList.map a.eval=vs at hargs
 split at h
 all_goals first | (exact h.elim) | contradiction | skip
 rename_i b r m t tl hb he ht
 rw [he] at hargs
 unfold RepL at hargs
 obtain ⟨sv,vs',rfl,hs,hnil⟩:=hargs
 unfold RepL at hnil
 subst hnil
 have ht':=array_cons1 ht
 subst ht'
 split at h
 ·rename_i a1 s1 z1 p1 esz bytes z e1
  obtain ⟨et,hu,rfl,rfl,hz⟩:=tab_slice hT e1
  obtain ⟨zv,hzr,hzrep⟩:=zero_rep hz.symm
  split at h
  ·rename_i sz rows hbk
   cases hb:(Nat.beq sz (P.cellsOf et) && Nat.beq (lenL z) sz && isPos sz && allCell z) with
   | false=>rw [hb] at h; exact h.elim
   | true =>
    rw [hb] at h
    simp only [cond_true] at h
    simp only [Bool.and_eq_true,lenL_eq] at hb
    obtain ⟨⟨⟨h1,h2⟩,h3⟩,h4⟩:=hb
    have h1:=Nat.eq_of_beq_eq_true h1
    have h2:=Nat.eq_of_beq_eq_true h2
    subst h1
    have hpos:0<P.cellsOf et:=by
     rcases Nat.eq_zero_or_pos (P.cellsOf et) with h0 | h0
     ·rw [h0] at h3; simp [isPos] at h3
     ·exact h0
    have hinf:=info_of_pos h3
    cases hi:P.info? et with
    | none=>exact absurd hi hinf
    | some inf =>
    have hst:=hlk _ _ hbk
    obtain ⟨z2,hl2,hc2,hw2,h,_⟩:=wkC_std h
    have hzrep2:∀ w Y σ,RepL w Y σ z2 zv.cells.toList:=fun w Y σ=>hw2 _ _ _ _ (hzrep w Y σ)
    have hspl:(Sig.std P T).spl rows r ((Sig.std P T).rep m z2)=rows.take r ++ List.replicate m z2 ++ rows.drop (r+m):=by simp [Sig.std]
    rw [hspl] at h
    have hzsz:zv.cells.size=P.cellsOf et:=by have:=(hzrep w Y σ).length; rw [Array.length_toList] at this; omega
    have none0:m=0→∀ x cap,sv=.slice x 0 cap→Res P C o a w σ ps st n id K:=by
     intro hm x cap hsv
     subst hm
     have e0:rows.take r ++ List.replicate 0 z2 ++ rows.drop (r+0)=rows:=by simp
     rw [e0] at h
     refine builtin_res ho (δ:=_) (cv:=.tuple #[]) (w':=w) (Y':=Y) (σ':=σ) (fun ty cs=>?_) ?_ ?_ (Off.refl _ _) h
     ·rw [hvs,hsv]
      cases x <;> simp [builtin,Builtin.clear_,Sem.run_bind,run_und hu,Result.andThen,Sem.run_pure]
     ·exact (H.ext fun c x hx=>by
       simp only [applyD] at hx
       rw [lkS_inS] at hx
       by_cases hc:b=c
       ·subst hc; rw [if_pos rfl] at hx; cases hx; exact hst
       ·rw [if_neg hc] at hx; exact hx).mono (by simp [nextI]; omega)
     ·simp [Rep,RepL]
    unfold Rep at hs
    rcases hs with ⟨l,cap,hl,e,hmc,htot,hnr⟩ | ⟨e0,sx,e⟩
    ·by_cases hm0:m=0
     ·subst hm0; exact none0 rfl _ _ e
     subst e
     have hB:=BlkRep.of_lk H hlk hbk hl
     unfold BlkRep at hB
     obtain ⟨⟨arr,tyb,ha,has⟩,hlsz,_,⟨hle,hlnr⟩,hrows,hm,_⟩:=hB
     rw [hlsz] at htot
     let zs:List Value:=(Builtin.zeroCells zv.cells m).toList
     have hzs:zs.length=m * P.cellsOf et:=by simp [zs,Builtin.zeroCells,hzsz]
     have hzg:∀ i,i<m * P.cellsOf et→zs[i]?=zv.cells.toList[i % P.cellsOf et]?:=by
      intro i hi2
      have hlt:i % P.cellsOf et<zv.cells.size:=by rw [hzsz]; exact Nat.mod_lt _ hpos
      simp only [zs,Builtin.zeroCells,Array.getElem?_toList,Array.getElem?_map]
      rw [Array.getElem?_range,if_pos (by rw [hzsz]; exact hi2)]
      simp only [Option.map_some,hzsz]
      rw [hzsz] at hlt
      rw [← hzsz] at hlt ⊢
      simp [getElem!_def,hlt]
     have hone:∀ v∈zs,oneC v=true:=by
      intro v hv
      obtain ⟨i,hi2,e⟩:=List.mem_iff_getElem.1 hv
      have:zs[i]?=some v:=by rw [List.getElem?_eq_getElem hi2,e]
      rw [hzg i (by rw [← hzs]; exact hi2)] at this
      exact allCell_one _ _ h4 (hzrep w Y σ) v (List.mem_of_getElem? this)
     have hrm:r+m≤rows.length:=by omega
     have hbnd:l.co+r * P.cellsOf et+zs.length≤arr.size:=by
      rw [has,hzs]
      have:=Nat.mul_le_mul_right (P.cellsOf et) hrm
      rw [Nat.add_mul] at this
      omega
     obtain ⟨w',hrun,W⟩:=storeCells_run (P:=P) (o:=l.co+r * P.cellsOf et) zs 0 w arr ha (by simpa using hbnd) hone
     have W:Wrote w w' l.cb (l.co+r * P.cellsOf et) arr tyb zs:=by simpa using W
     obtain ⟨arr',h5,h6,h7⟩:=W.blk
     have K0:Keep w w' Y Y noSg noSg:=⟨fun k _ hk=>W.other k (fun e=>hk (e ▸ hm rfl)),fun _ _ h=>h,Nat.le_of_eq W.size.symm,SgLe.refl _⟩
     have hlen:(rows.take r ++ List.replicate m z2 ++ rows.drop (r+m)).length=rows.length:=by simp; omega
     refine builtin_res ho (δ:=[(b,some (.arr false (P.cellsOf et) (rows.take r ++ List.replicate m z2 ++ rows.drop (r+m))))]) (v:=.tup []) (cv:=.tuple #[]) (w':=w') (Y':=Y) (σ':=σ) (fun ty cs=>?_) ((SW.update (x':=.arr false (P.cellsOf et) (rows.take r ++ List.replicate m z2 ++ rows.drop (r+m))) H hst hl (hm rfl) W.os W.tape W.output W.size W.other (fun _ _ e=>by cases e) fun _=>?_).mono (Nat.le_max_left _ _)) (by simp [Rep,RepL]) (Off.refl _ _) h
     ·rw [hvs]
      obtain ⟨m',rfl⟩:∃ m',m=m'+1:=⟨m - 1,by omega⟩
      simp only [builtin,Builtin.clear_,List.getElem?_toArray,List.getElem?_cons_zero,Sem.run_bind,run_und hu,Result.andThen,hzr,hlsz]
      rw [show (storeCells ⟨l.cb,l.co+r * P.cellsOf et,none⟩ (Builtin.zeroCells zv.cells (m'+1)).toList).run P w=.ok () w' from hrun]
      simp [Sem.run_pure]
     ·unfold BlkRep
      refine ⟨⟨arr',tyb,h5,by omega⟩,hlsz,hpos,⟨by rw [hlen]; exact hle,by rw [hlen]; exact hlnr⟩,?_,hm,fun h=>by cases h⟩
      rw [RepR.iff] at hrows ⊢
      intro i q hq
      by_cases hin:r≤i∧i<r+m
      ·have hqz:q=z2:=by
        rw [List.append_assoc,List.getElem?_append_right (by simp; omega),List.getElem?_append_left (by simp; omega),List.getElem?_replicate] at hq
        split at hq
        ·exact (Option.some.inj hq).symm
        ·cases hq
       subst hqz
       refine ⟨⟨hl2.trans h2,hc2 h4⟩,?_⟩
       rw [RepC.iff]
       intro c p hc
       obtain ⟨v,hv,hrv⟩:=(hzrep2 w' Y noSg).get? hc
       refine ⟨v,?_,hrv⟩
       have hcl:c<P.cellsOf et:=by
        rw [← h2,← hl2]
        by_cases hh:c<q.length
        ·exact hh
        ·rw [List.getElem?_eq_none (Nat.le_of_not_lt hh)] at hc; cases hc
       have e1:l.co+i * P.cellsOf et+c - (l.co+r * P.cellsOf et)=(i - r) * P.cellsOf et+c:=by
        obtain ⟨d,rfl⟩:∃ d,i=r+d:=⟨i - r,by omega⟩
        rw [Nat.add_mul,show r+d - r=d by omega]; omega
       have e2:(i - r) * P.cellsOf et+c<m * P.cellsOf et:=by
        have:=Nat.mul_le_mul_right (P.cellsOf et) (show (i - r)+1≤m by omega)
        rw [Nat.add_mul] at this; omega
       have e3:=Nat.mul_le_mul_right (P.cellsOf et) hin.1
       rw [cell_of_block h5,h7,if_pos ⟨by omega,by rw [hzs]; omega⟩,e1,hzg _ e2]
       rw [show ((i - r) * P.cellsOf et+c) % P.cellsOf et=c by rw [Nat.add_comm,Nat.add_mul_mod_self_right]; exact Nat.mod_eq_of_lt hcl]
       exact hv
      ·have hq' : rows[i]?=some q:=by
        by_cases hir:i<r
        ·rw [List.append_assoc,List.getElem?_append_left (by simp; omega),List.getElem?_take_of_lt hir] at hq; exact hq
        ·rw [List.getElem?_append_right (by simp; omega),List.getElem?_drop] at hq
         rw [← hq]; congr 1; simp; omega
       obtain ⟨g1,g2⟩:=hrows i q hq'
       refine ⟨g1,?_⟩
       rw [RepC.iff] at g2 ⊢
       intro c p hc
       obtain ⟨v,hv,hrv⟩:=g2 c p hc
       refine ⟨v,?_,Rep.keep p K0 v hrv⟩
       have hcl:c<P.cellsOf et:=by
        rw [← g1.1]
        by_cases hh:c<q.length
        ·exact hh
        ·rw [List.getElem?_eq_none (Nat.le_of_not_lt hh)] at hc; cases hc
       rw [cell_of_block ha] at hv
       rw [cell_of_block h5,h7,if_neg,hv]
       rintro ⟨g3,g4⟩
       rw [hzs] at g4
       rcases Nat.lt_or_ge i r with g5 | g5
       ·have:=Nat.mul_le_mul_right (P.cellsOf et) (show i+1≤r by omega)
        rw [Nat.add_mul] at this; omega
       ·have:=Nat.mul_le_mul_right (P.cellsOf et) (show r+m≤i by omega)
        rw [Nat.add_mul] at this; omega
    ·subst e0
     exact none0 rfl _ _ e
  ·exact h.elim
 ·exact h.elim
end
end Go.Pv
namespace Go.Pv
open Go
theorem mapO_some {f:PV→Option PV}:∀ {cs ds:List PV},mapO f cs=some ds→cs.length=ds.length∧∀ (i:Nat) (c d:PV),cs[i]?=some c→ds[i]?=some d→f c=some d
 | [],ds,h=>by simp [mapO] at h; subst h; simp
 | c::cs,ds,h=>by
  unfold mapO at h
  split at h
  ·cases h
  ·rename_i d hd
   split at h
   ·cases h
   ·rename_i ds' hds
    cases h
    obtain ⟨h1,h2⟩:=mapO_some hds
    refine ⟨by simp [h1],fun i c' d' e1 e2=>?_⟩
    cases i with
    | zero=>simp at e1 e2; subst e1; subst e2; exact hd
    | succ i=>exact h2 i c' d' (by simpa using e1) (by simpa using e2)
theorem fz_rows {w:World} {Y0:Nat→Prop} {b sz:Nat}:∀ {rows:List (List PV)},(∀ row∈rows,∀ (c:Nat) (h:Hdr) (sz' : Nat) (es:List (List PV)),row[c]?=some (.ow h sz' es)→es ≠ []→(h.ν<w.heap.size∧¬ Y0 h.ν)∧RepR w Y0 noSg h.ν sz' es h.o) →
  ∀ (o:Nat),RepR w Y0 noSg b sz rows o→RepR w Y0 noSg b sz (rows.map fun row=>row.map fzC) o:=by
 intro rows hall o hr
 rw [RepR.iff] at hr ⊢
 intro i q hi
 rw [List.getElem?_map] at hi
 cases hq:rows[i]? with
 | none=>rw [hq] at hi; cases hi
 | some row =>
  rw [hq] at hi
  simp only [Option.map_some,Option.some.injEq] at hi
  subst hi
  obtain ⟨⟨h1,h2⟩,h3⟩:=hr i row hq
  refine ⟨⟨by simpa using h1,?_⟩,?_⟩
  ·rw [allCell_iff] at h2 ⊢
   intro p hp
   obtain ⟨p0,hp0,rfl⟩:=List.mem_map.1 hp
   have:=h2 p0 hp0
   unfold fzC
   split
   ·rfl
   ·exact this
  ·rw [RepC.iff] at h3 ⊢
   intro c p hc
   rw [List.getElem?_map] at hc
   cases hp0:row[c]? with
   | none=>rw [hp0] at hc; cases hc
   | some p0 =>
    rw [hp0] at hc
    simp only [Option.map_some,Option.some.injEq] at hc
    subst hc
    obtain ⟨v,hv,hp⟩:=h3 c p0 hp0
    refine ⟨v,hv,?_⟩
    unfold fzC
    split
    ·rename_i h sz' es
     unfold Rep at hp ⊢
     rcases hp with ⟨hne,p2,p3⟩ | ⟨p1,a,cap,p2⟩
     ·obtain ⟨g1,g2⟩:=hall row (List.mem_of_getElem? hq) c h sz' es hp0 hne
      exact ⟨_,_,_,p2,rfl,p3,(fun h=>by cases h),.inr ⟨_,_,rfl,g1,g2⟩⟩
     ·subst p1
      exact ⟨a,0,cap,p2,rfl,Nat.zero_le _,(fun h=>by cases h),.inl rfl⟩
    ·exact hp
theorem frz_sound {P:Program} {T:Tab} {w:World} {Y Y0:Nat→Prop} {σ:Sg} {st:St} {lk:Nat→Option Blk} (hst:StRep w Y σ st) (hlk:∀ b x,lk b=some x→lkS st b=some x)
  (hY:∀ k,Y0 k→Y k) (hfree:∀ b x l,lk b=some x→σ b=some l→¬ Y0 l.cb) (hnest:∀ b sz rows,lk b=some (.nar sz rows)→∀ (r:Nat) (row:List PV) (c:Nat) (h:Hdr) (sz' : Nat) (es:List (List PV)),rows[r]?=some row→row[c]?=some (.ow h sz' es)→es ≠ []→(h.ν<w.heap.size∧¬ Y0 h.ν)∧RepR w Y noSg h.ν sz' es h.o):∀ (d:Nat) (p q:PV) (v:Value),frz (Sig.std P T) lk d p=some q→Rep w Y σ p v→Rep w Y0 noSg q v
 | 0,_,_,_,h,_=>by simp [frz] at h
 | d+1,p,q,v,h,hp=>by
  have K0:Keep w w Y Y0 noSg noSg:=⟨fun _ _ _=>rfl,fun k _=>hY k,Nat.le_refl _,SgLe.refl _⟩
  have list:∀ {cs ds:List PV} {vs:List Value},mapO (frz (Sig.std P T) lk d) cs=some ds→RepL w Y σ cs vs→RepL w Y0 noSg ds vs:=by
   intro cs ds vs hm hr
   obtain ⟨h1,h2⟩:=mapO_some hm
   refine RepL.of_pointwise _ _ (by rw [hr.length,h1]) (fun i e u e1 e2=>?_)
   have hlt:i<cs.length:=by
    rw [h1]
    by_cases hh:i<ds.length
    ·exact hh
    ·rw [List.getElem?_eq_none (Nat.le_of_not_lt hh)] at e1; cases e1
   have hc:cs[i]?=some cs[i]:=List.getElem?_eq_getElem hlt
   obtain ⟨u',e3,e4⟩:=hr.get? hc
   rw [e2] at e3; cases e3
   exact frz_sound hst hlk hY hfree hnest d _ _ _ (h2 i _ _ hc e1) e4
  unfold frz at h
  cases p
  case bool b=>cases h; unfold Rep at hp ⊢; exact hp
  case sb b=>cases h; unfold Rep at hp ⊢; exact hp
  case int k n=>cases h; unfold Rep at hp ⊢; exact hp
  case si k n=>cases h; unfold Rep at hp ⊢; exact hp
  case str s=>cases h; unfold Rep at hp ⊢; exact hp
  case nilp=>cases h; unfold Rep at hp ⊢; exact hp
  case nilf=>cases h; unfold Rep at hp ⊢; exact hp
  case sl sz es full =>
   cases h
   have h2:Rep w Y noSg (.sl sz es false) v:=by
    unfold Rep at hp ⊢
    obtain ⟨a,len,cap,e,hl,hc,_,hr⟩:=hp
    exact ⟨a,len,cap,e,hl,hc,(fun h=>by cases h),hr⟩
   exact Rep.keep _ K0 v h2
  case pp cs =>
   cases h
   have h2:Rep w Y noSg (.pp cs) v:=by unfold Rep at hp ⊢; exact hp
   exact Rep.keep _ K0 v h2
  case agg cs =>
   simp only at h
   split at h
   ·rename_i ds hd; cases h
    unfold Rep at hp ⊢; obtain ⟨vs,e,hr⟩:=hp; exact ⟨vs,e,list hd hr⟩
   ·cases h
  case tup cs =>
   simp only at h
   split at h
   ·rename_i ds hd; cases h
    unfold Rep at hp ⊢; obtain ⟨vs,e,hr⟩:=hp; exact ⟨vs,e,list hd hr⟩
   ·cases h
  case fn f cs =>
   simp only at h
   split at h
   ·rename_i ds hd; cases h
    unfold Rep at hp ⊢; obtain ⟨vs,e,hr⟩:=hp; exact ⟨vs,e,list hd hr⟩
   ·cases h
  case lv b c =>
   simp only at h
   split at h
   ·rename_i ro row hb
    split at h
    ·rename_i ds hd; cases h
     unfold Rep at hp
     obtain ⟨l,hl,e⟩:=hp
     rcases hst.blk b _ (hlk _ _ hb) with ⟨l',hl',hB⟩ | ⟨hn,_⟩
     ·rw [hl] at hl'; cases hl'
      have hlt:=hB.lt
      unfold BlkRep at hB
      rw [dropL_eq] at hd
      obtain ⟨vs,hr,hcell⟩:=(hB.2.2.2.1.drop c _ _).vals
      unfold Rep
      refine ⟨l.cb,l.co+c,e,⟨hlt,hfree b _ l hb hl⟩,RepC.of_vals _ _ _ (list hd hr) hcell⟩
     ·rw [hl] at hn; cases hn
    ·cases h
   ·cases h
  case os b r n =>
   simp only at h
   split at h
   ·rename_i ro sz rows hb
    cases h
    obtain ⟨a,cap,e1,e2,e3,e4⟩:=os_rows hp (hst.blk b _ (hlk _ _ hb))
    unfold Rep
    refine ⟨a,n,cap,e1,e3,e2,(fun h=>by cases h),?_⟩
    rcases e4 with e4 | ⟨b',o,ea,eb,⟨l,el,el'⟩,er⟩
    ·exact .inl e4
    ·refine .inr ⟨b',o,ea,⟨eb,by rw [el']; exact hfree b _ l hb el⟩,?_⟩
     exact RepR.keep _ K0 (fun _=>rfl) _ er
   ·rename_i sz rows hb
    cases h
    unfold Rep at hp
    rcases hp with ⟨l,cap,hl,e,hcap,htot,hrn⟩ | ⟨rfl,a,e⟩
    ·rcases hst.blk b _ (hlk _ _ hb) with ⟨l',hl',hB⟩ | ⟨hn,_⟩
     ·rw [hl] at hl'; cases hl'
      have hlt:=hB.lt
      unfold BlkRep at hB
      have hlen:(((rows.drop r).take n).map fun row=>row.map fzC).length=n:=by rw [List.length_map,List.length_take,List.length_drop]; omega
      unfold Rep
      refine ⟨_,n,cap,e,?_,hcap,(fun h=>by cases h),.inr ⟨l.cb,_,rfl,⟨hlt,hfree b _ l hb hl⟩,?_⟩⟩
      ·exact hlen.symm
      ·rw [hB.2.1]
       have hr:=RepR.keep _ K0 (fun _=>rfl) _ ((hB.2.2.2.2.1.drop r _ _).take n _ _)
       refine fz_rows ?_ _ hr
       intro row hrow c h sz' es hc hne
       have hm:=List.mem_of_mem_drop (List.mem_of_mem_take hrow)
       obtain ⟨i,hi⟩:=List.getElem?_of_mem hm
       obtain ⟨h1,h2⟩:=hnest b sz rows hb i row c h sz' es hi hc hne
       exact ⟨h1,RepR.keep es K0 (fun _=>rfl) _ h2⟩
     ·rw [hl] at hn; cases hn
    ·unfold Rep
     refine ⟨a,0,0,e,?_,Nat.le_refl _,(fun h=>by cases h),.inl ?_⟩
     ·show 0=(((rows.drop r).take 0).map fun row=>row.map fzC).length; simp
     ·show ((rows.drop r).take 0).map (fun row=>row.map fzC)=[]; simp
   ·cases h
  all_goals cases h
theorem mapO_frz {P:Program} {T:Tab} {w:World} {Y Y0:Nat→Prop} {σ:Sg} {st:St} {lk:Nat→Option Blk} (hst:StRep w Y σ st) (hlk:∀ b x,lk b=some x→lkS st b=some x)
  (hY:∀ k,Y0 k→Y k) (hfree:∀ b x l,lk b=some x→σ b=some l→¬ Y0 l.cb) (hnest:∀ b sz rows,lk b=some (.nar sz rows)→∀ (r:Nat) (row:List PV) (c:Nat) (h:Hdr) (sz' : Nat) (es:List (List PV)),rows[r]?=some row→row[c]?=some (.ow h sz' es)→es ≠ []→(h.ν<w.heap.size∧¬ Y0 h.ν)∧RepR w Y noSg h.ν sz' es h.o) {d:Nat} {cs ds:List PV} {vs:List Value} (hm:mapO (frz (Sig.std P T) lk d) cs=some ds) (hr:RepL w Y σ cs vs):RepL w Y0 noSg ds vs:=by
 obtain ⟨h1,h2⟩:=mapO_some hm
 refine RepL.of_pointwise _ _ (by rw [hr.length,h1]) (fun i e u e1 e2=>?_)
 have hlt:i<cs.length:=by
  rw [h1]
  by_cases hh:i<ds.length
  ·exact hh
  ·rw [List.getElem?_eq_none (Nat.le_of_not_lt hh)] at e1; cases e1
 have hc:cs[i]?=some cs[i]:=List.getElem?_eq_getElem hlt
 obtain ⟨u',e3,e4⟩:=hr.get? hc
 rw [e2] at e3; cases e3
 exact frz_sound hst hlk hY hfree hnest d _ _ _ (h2 i _ _ hc e1) e4
theorem flat_rep {w w' : World} {Y Y' : Nat→Prop} {σ σ' : Sg}:∀ (d:Nat) (p:PV) (v:Value),flatV d p=true→Rep w Y σ p v→Rep w' Y' σ' p v
 | 0,_,_,h,_=>by simp [flatV] at h
 | d+1,p,v,h,hp=>by
  have list:∀ (cs:List PV) (vs:List Value),flatL (flatV d) cs=true→RepL w Y σ cs vs→RepL w' Y' σ' cs vs:=by
   intro cs
   induction cs with
   | nil=>intro vs _ hr; unfold RepL at hr ⊢; exact hr
   | cons c cs ih =>
    intro vs hf hr
    simp only [flatL,Bool.and_eq_true] at hf
    unfold RepL at hr ⊢
    obtain ⟨u,us,e,h1,h2⟩:=hr
    exact ⟨u,us,e,flat_rep d c u hf.1 h1,ih us hf.2 h2⟩
  unfold flatV at h
  cases p
  case agg cs=>unfold Rep at hp ⊢; obtain ⟨vs,e,hr⟩:=hp; exact ⟨vs,e,list _ _ h hr⟩
  case tup cs=>unfold Rep at hp ⊢; obtain ⟨vs,e,hr⟩:=hp; exact ⟨vs,e,list _ _ h hr⟩
  all_goals first | (cases h; done) | (unfold Rep at hp ⊢; exact hp)
theorem Keep.of_chg {w w' : World} {Y:Nat→Prop} {σ:Sg} (h:Chg w w'):Keep w w' Y Y σ σ:=⟨fun k hk _=>h.block k hk,fun _ _ h=>h,h.size,SgLe.refl _⟩
theorem SW.chgd {T:Tab} {C:Ctx T} {w w' : World} {Y:Nat→Prop} {σ:Sg} {ps:List PV} {vs:List Value} {st:St} {n:Nat} (H:SW C w Y σ ps vs st n) (h:Chg w w'):SW C w' Y σ ps vs st n:=by
 have K:Keep w w' Y Y σ σ:=Keep.of_chg h
 refine ⟨RepL.keep _ K _ H.vals,⟨fun b x hb=>?_,H.store.inj⟩,H.next,fun k hk=>Nat.lt_of_lt_of_le (H.yold k hk) h.size,H.y0,H.c0,H.yshr,?_,H.own,H.glob.keep K.none,H.fix,H.nest.heap h.size h.block⟩
 ·rcases H.store.blk b x hb with ⟨l,hl,hB⟩ | hn
  ·exact .inl ⟨l,hl,BlkRep.keep K (h.block _ hB.lt) Iff.rfl hB⟩
  ·exact .inr hn
 ·exact ⟨by rw [h.os]; exact H.chg.os,by rw [h.tape]; exact H.chg.tape,by rw [h.output]; exact H.chg.output,Nat.le_trans H.chg.size h.size,fun k hk hM=>by rw [h.block k (Nat.lt_of_lt_of_le hk H.chg.size)]; exact H.chg.block k hk hM⟩
theorem Rep.of_no {w:World} {Y:Nat→Prop} {σ:Sg} {p:PV} {v:Value} (h:Rep w Y noSg p v):Rep w Y σ p v :=
 Rep.keep p ⟨fun _ _ _=>rfl,fun _ _ h=>h,Nat.le_refl _,fun _ _ h=>by cases h⟩ v h
def CallSem {T:Tab} (P:Program) (k:Nat) (C:Ctx T) (Y:Nat→Prop) (σ:Sg) (w:World) (cargs:List Value) (ps:List PV) (vs:List Value) (st:St) (n:Nat) (v:PV):Prop :=
 (callFunc k cargs.toArray).run P w=.ok (.enter k cargs.toArray) w ∧
 Calls P k cargs.toArray w fun e w'=>∃ cv,e=.returned cv∧SW C w' Y σ ps vs st n∧Rep w' Y σ v cv
theorem call_flat {P:Program} {T:Tab} {C:Ctx T} {w:World} {Y:Nat→Prop} {σ:Sg} {ps:List PV} {vs:List Value} {st:St} {n:Nat} (H:SW C w Y σ ps vs st n) {lk:Nat→Option Blk} (hlk:∀ b x,lk b=some x→lkS st b=some x) {k d:Nat} {args as:List PV} {cargs:List Value} {v:PV}
  (hm:mapO (frz (Sig.std P T) lk d) args=some as) (hr:RepL w Y σ args cargs) (hF:Fn P T.gl k as (fun u=>u=v)) {f:Nat} (hf:flatV f v=true):CallSem P k C Y σ w cargs ps vs st n v:=by
 obtain ⟨h1,h2⟩:=hF w (fun _=>False) cargs (H.glob.keep ⟨fun _ _ _=>rfl,fun _ _ h=>h.elim,Nat.le_refl _,SgLe.refl _⟩) (fun _ h=>h.elim) (mapO_frz H.store hlk (fun _ h=>h.elim) (fun _ _ _ _ _ h=>h) (fun b sz rows hb r row c h sz' es h1 h2 h3=>by
  have hO:=H.nest.rep _ _ _ _ _ _ ⟨sz,rows,row,hlk _ _ hb,h1,h2,h3⟩
  exact ⟨⟨hO.lt,fun h=>h⟩,hO.rows⟩) hm hr)
 refine ⟨h1,Calls.mono h2 fun e w' h=>?_⟩
 obtain ⟨cv,u,rfl,rfl,hrep,hchg⟩:=h
 exact ⟨cv,rfl,H.chgd hchg,flat_rep f _ _ hf hrep⟩
theorem CallT.of_sem {P:Program} {T:Tab} {k:Nat} {args:List PV} {E:Env} {K:PV→Env→Prop} {v:PV} (hK:K v E)
  (h:∀ (C:Ctx T) Y σ w vs cargs,SW C w Y σ E.tmps vs E.st E.next→RepL w Y σ args cargs→CallSem P k C Y σ w cargs E.tmps vs E.st E.next v):CallT P T k args E K:=by
 intro C Y σ w vs cargs H hr
 obtain ⟨h1,h2⟩:=h C Y σ w vs cargs H hr
 refine ⟨h1,Calls.mono h2 fun e w' hh=>?_⟩
 obtain ⟨cv,rfl,H',hv⟩:=hh
 exact ⟨cv,v,E,Y,σ,rfl,hK,H',hv⟩
end Go.Pv
namespace Go.Pv
open Go
theorem hasN_iff:∀ (l:List Nat) (c:Nat),hasN l c=true ↔ c∈l
 | [],c=>by simp [hasN]
 | b::l,c=>by
  simp only [hasN]
  by_cases h:b=c
  ·subst h; simp
  ·rw [beqN h]; simp only [cond_false,hasN_iff l c,List.mem_cons]
   constructor
   ·intro hh; exact .inr hh
   ·rintro (hh | hh)
    ·exact absurd hh.symm h
    ·exact hh
theorem snocN_eq:∀ (l:List Nat) (c:Nat),snocN l c=l ++ [c]
 | [],c=>rfl
 | b::l,c=>by simp [snocN,snocN_eq l c]
theorem lenNs_eq:∀ l:List Nat,lenNs l=l.length
 | []=>rfl
 | _::l=>by simp [lenNs,lenNs_eq l]
theorem getNs_eq:∀ (l:List Nat) (i:Nat),getNs l i=l[i]?
 | [],i=>by simp [getNs]
 | b::l,0=>by simp [getNs]
 | b::l,i+1=>by simp [getNs,getNs_eq l i]
theorem appN_eq:∀ l m:List Nat,appN l m=l ++ m
 | [],m=>rfl
 | b::l,m=>by simp [appN,appN_eq l m]
theorem upN_get:∀ (n i j:Nat),(upN i n)[j]?=if j<n then some (i+j) else none
 | 0,i,j=>by simp [upN]
 | n+1,i,0=>by simp [upN]
 | n+1,i,j+1=>by
  simp only [upN,List.getElem?_cons_succ,upN_get n (i+1) j]
  by_cases h:j<n
  ·rw [if_pos h,if_pos (by omega)]; congr 1; omega
  ·rw [if_neg h,if_neg (by omega)]
theorem upN_len:∀ (n i:Nat),(upN i n).length=n
 | 0,i=>rfl
 | n+1,i=>by simp [upN,upN_len n (i+1)]
theorem upN_mem {n i b:Nat} (h:b∈upN i n):i≤b∧b<i+n:=by
 obtain ⟨j,hj⟩:=List.getElem?_of_mem h
 rw [upN_get] at hj
 split at hj
 ·cases hj; omega
 ·cases hj
theorem upN_nodup:∀ (n i:Nat),(upN i n).Nodup
 | 0,i=>by simp [upN]
 | n+1,i=>by
  simp only [upN,List.nodup_cons]
  exact ⟨fun h=>by have:=upN_mem h; omega,upN_nodup n (i+1)⟩
theorem nodN_nodup:∀ l:List Nat,nodN l=true→l.Nodup
 | [],_=>by simp
 | b::l,h=>by
  simp only [nodN] at h
  cases hb:hasN l b with
  | true=>rw [hb] at h; cases h
  | false =>
   rw [hb] at h
   rw [List.nodup_cons]
   exact And.intro (fun hm=>by rw [(hasN_iff l b).2 hm] at hb; cases hb) (nodN_nodup l h)
theorem ixN_get:∀ (l:List Nat) (b i:Nat),ixN l b=some i→l[i]?=some b
 | [],b,i,h=>by simp [ixN] at h
 | c::l,b,i,h=>by
  simp only [ixN] at h
  by_cases hc:c=b
  ·subst hc; simp at h; subst h; simp
  ·rw [beqN hc] at h
   simp only [cond_false] at h
   split at h
   ·rename_i j hj; cases h; simpa using ixN_get l b j hj
   ·cases h
theorem mapV_eq (f:PV→PV):∀ l,mapV f l=l.map f
 | []=>rfl
 | x::l=>by simp [mapV,mapV_eq f l]
theorem nodup_get {l:List Nat} (h:l.Nodup) {i j b:Nat} (hi:l[i]?=some b) (hj:l[j]?=some b):i=j:=by
 have h1:i<l.length:=by
  by_cases hh:i<l.length
  ·exact hh
  ·rw [List.getElem?_eq_none (Nat.le_of_not_lt hh)] at hi; cases hi
 exact (List.getElem?_inj h1 h).1 (by rw [hi,hj])
theorem foldN_ok {f:List Nat→PV→List Nat} (hf:∀ acc v,acc.Nodup→(f acc v).Nodup∧∃ s,f acc v=acc ++ s):∀ (vs:List PV) (acc:List Nat),acc.Nodup→(foldN f acc vs).Nodup∧∃ s,foldN f acc vs=acc ++ s
 | [],acc,h=>⟨h,[],by simp [foldN]⟩
 | v::vs,acc,h=>by
  obtain ⟨h1,s,h2⟩:=hf acc v h
  obtain ⟨h3,s',h4⟩:=foldN_ok hf vs (f acc v) h1
  exact ⟨h3,s ++ s',by simp only [foldN]; rw [h4,h2,List.append_assoc]⟩
theorem namV_ok (st:St):∀ (d:Nat) (acc:List Nat) (v:PV),acc.Nodup→(namV st d acc v).Nodup∧∃ s,namV st d acc v=acc ++ s
 | 0,acc,v,h=>⟨h,[],by simp [namV]⟩
 | d+1,acc,v,h=>by
  have fold:=fun (vs:List PV) (acc:List Nat) (h:acc.Nodup)=>foldN_ok (f:=namV st d) (fun acc v=>namV_ok st d acc v) vs acc h
  have one:∀ b,(bif hasN acc b then acc else snocN acc b).Nodup∧∃ s,(bif hasN acc b then acc else snocN acc b)=acc ++ s:=by
   intro b
   cases hb:hasN acc b with
   | true=>exact ⟨h,[],by simp⟩
   | false =>
    simp only [cond_false,snocN_eq]
    exact ⟨by rw [List.nodup_append]; exact ⟨h,by simp,fun a ha c hc=>by simp at hc; subst hc; intro e; subst e; rw [(hasN_iff acc a).2 ha] at hb; cases hb⟩,[b],rfl⟩
  unfold namV
  split
  ·exact one _
  ·exact one _
  ·exact one _
  ·exact one _
  ·exact one _
  ·rename_i b c
   have h1:=one b
   cases hb:hasN acc b with
   | true=>exact ⟨h,[],by simp⟩
   | false =>
    rw [hb] at h1
    simp only [cond_false] at h1 ⊢
    split
    ·rename_i row _
     obtain ⟨h2,s,h3⟩:=fold row _ h1.1
     obtain ⟨_,s',h4⟩:=h1
     exact ⟨h2,s' ++ s,by rw [h3,h4,List.append_assoc]⟩
    ·exact h1
  ·exact fold _ _ h
  ·exact fold _ _ h
  ·exact fold _ _ h
  ·exact ⟨h,[],by simp⟩
theorem rowsN_ok (st:St):∀ (l acc:List Nat),acc.Nodup→(rowsN st acc l).Nodup∧∃ s,rowsN st acc l=acc ++ s
 | [],acc,h=>⟨h,[],by simp [rowsN]⟩
 | b::l,acc,h=>by
  unfold rowsN
  split
  ·rename_i ro row _
   obtain ⟨h1,s,h2⟩:=foldN_ok (f:=namV st 8) (fun acc v=>namV_ok st 8 acc v) row acc h
   obtain ⟨h3,s',h4⟩:=rowsN_ok st l _ h1
   exact ⟨h3,s ++ s',by rw [h4,h2,List.append_assoc]⟩
  ·exact rowsN_ok st l acc h
theorem seenN_ok (m:Nat) (st:St) (vs:List PV):(seenN m st vs).Nodup∧(∀ i,i<m→(seenN m st vs)[i]?=some i)∧m≤(seenN m st vs).length:=by
 obtain ⟨h1,s,h2⟩:=rowsN_ok st (upN 0 m) (upN 0 m) (upN_nodup m 0)
 obtain ⟨h3,s',h4⟩:=foldN_ok (f:=namV st 8) (fun acc v=>namV_ok st 8 acc v) vs _ h1
 have e:seenN m st vs=upN 0 m ++ (s ++ s'):=by unfold seenN; rw [h4,h2,List.append_assoc]
 refine ⟨h3,fun i hi=>?_,?_⟩
 ·rw [e,List.getElem?_append_left (by rw [upN_len]; exact hi),upN_get,if_pos hi]; simp
 ·rw [e,List.length_append,upN_len]; omega
theorem RepL.map {w:World} {Y:Nat→Prop} {σ σ' : Sg} {f:PV→PV} (hf:∀ p v,Rep w Y σ p v→Rep w Y σ' (f p) v):∀ (ps:List PV) (vs:List Value),RepL w Y σ ps vs→RepL w Y σ' (ps.map f) vs
 | [],vs,h=>by unfold RepL at h; subst h; simp [RepL]
 | p::ps,vs,h=>by
  unfold RepL at h; obtain ⟨v,vs',rfl,h1,h2⟩:=h
  simp only [List.map_cons]; unfold RepL; exact ⟨v,vs',rfl,hf _ _ h1,RepL.map hf ps vs' h2⟩
theorem RepC.map {w:World} {Y:Nat→Prop} {σ σ' : Sg} {b:Nat} {f:PV→PV} (hf:∀ p v,Rep w Y σ p v→Rep w Y σ' (f p) v):∀ (ps:List PV) (o:Nat),RepC w Y σ b ps o→RepC w Y σ' b (ps.map f) o
 | [],o,h=>by simp [RepC]
 | p::ps,o,h=>by
  unfold RepC at h; obtain ⟨⟨v,hc,h1⟩,h2⟩:=h
  simp only [List.map_cons]; unfold RepC; exact ⟨⟨v,hc,hf _ _ h1⟩,RepC.map hf ps (o+1) h2⟩
theorem renV_sound {w:World} {Y:Nat→Prop} {σ σ' : Sg} {f:Nat→Option Nat} (hf:∀ b i l,f b=some i→σ b=some l→σ' i=some l):∀ (d:Nat) (p:PV) (v:Value),Rep w Y σ p v→Rep w Y σ' (renV f d p) v
 | 0,p,v,_=>by simp [renV,Rep]
 | d+1,p,v,h=>by
  have ih:=renV_sound (w:=w) (Y:=Y) hf d
  unfold renV
  cases p
  case os b r n =>
   simp only
   cases e:f b with
   | none=>simp [Rep]
   | some i =>
    unfold Rep at h ⊢
    rcases h with ⟨l,cap,hl,h⟩ | h
    ·exact .inl ⟨l,cap,hf _ _ _ e hl,h⟩
    ·exact .inr h
  case lv b c =>
   simp only
   cases e:f b with
   | none=>simp [Rep]
   | some i=>unfold Rep at h ⊢; obtain ⟨l,hl,h⟩:=h; exact ⟨l,hf _ _ _ e hl,h⟩
  case lp b r c =>
   simp only
   cases e:f b with
   | none=>simp [Rep]
   | some i=>unfold Rep at h ⊢; obtain ⟨l,hl,h⟩:=h; exact ⟨l,hf _ _ _ e hl,h⟩
  case bo b r c hd sz n =>
   simp only
   cases e:f b with
   | none=>simp [Rep]
   | some i=>unfold Rep at h ⊢; exact h
  case np b r c hd sz j k =>
   simp only
   cases e:f b with
   | none=>simp [Rep]
   | some i=>unfold Rep at h ⊢; exact h
  case mp b =>
   simp only
   cases e:f b with
   | none=>simp [Rep]
   | some i =>
    unfold Rep at h ⊢
    obtain ⟨l,hs,e'⟩:=h
    exact ⟨l,hf _ _ _ e hs,e'⟩
  case agg cs=>simp only [mapV_eq]; unfold Rep at h ⊢; obtain ⟨vs,e,h⟩:=h; exact ⟨vs,e,h.map ih⟩
  case tup cs=>simp only [mapV_eq]; unfold Rep at h ⊢; obtain ⟨vs,e,h⟩:=h; exact ⟨vs,e,h.map ih⟩
  case fn k cs=>simp only [mapV_eq]; unfold Rep at h ⊢; obtain ⟨vs,e,h⟩:=h; exact ⟨vs,e,h.map ih⟩
  all_goals (simp only; unfold Rep at h ⊢; exact h)
theorem renB_sound {w:World} {Y:Nat→Prop} {σ σ' : Sg} {f:Nat→Option Nat} (hf:∀ b i l,f b=some i→σ b=some l→σ' i=some l) {l:Loc} {x y:Blk} (hx:renB f (some x)=some y) (h:BlkRep w Y σ l x):BlkRep w Y σ' l y:=by
 cases x with
 | var ro row =>
  simp only [renB,Option.some.injEq] at hx; subst hx
  unfold BlkRep at h ⊢
  rw [mapV_eq]
  obtain ⟨h1,h2,h3,h4,h5⟩:=h
  exact ⟨h1,by simpa using h2,by simpa using h3,h4.map (renV_sound hf 8) _ _,h5⟩
 | arr ro sz rows =>
  simp only [renB,Option.some.injEq] at hx; subst hx
  unfold BlkRep at h ⊢; exact h
 | nar sz rows =>
  simp only [renB,Option.some.injEq] at hx; subst hx
  unfold BlkRep at h ⊢; exact h
 | map rows =>
  simp only [renB,Option.some.injEq] at hx; subst hx
  unfold BlkRep at h ⊢; exact h
theorem renB_nar {f:Nat→Option Nat} {x:Blk} {sz:Nat} {rows:List (List PV)} (h:renB f (some x)=some (.nar sz rows)):x=.nar sz rows:=by
 cases x with
 | var ro row=>simp [renB] at h
 | arr ro s rs=>simp [renB] at h
 | nar s rs=>simpa [renB] using h
 | map rs=>simp [renB] at h
theorem renB_arr {f:Nat→Option Nat} {ro:Bool} {sz:Nat}:∀ {x y:Blk},renB f (some x)=some y→x=.arr ro sz []→y=.arr ro sz []:=by
 intro x y h e; subst e; simp [renB] at h; exact h.symm
theorem renB_some {f:Nat→Option Nat} {o:Option Blk} {y:Blk} (h:renB f o=some y):∃ x,o=some x:=by
 cases o with
 | none=>simp [renB] at h
 | some x=>exact ⟨x,rfl⟩
theorem lkS_renS (f:Nat→Option Nat) (st:St):∀ (ρ:List Nat) (i j:Nat),lkS (renS f st i ρ) j=if i≤j then (match ρ[j - i]? with | some b=>renB f (lkS st b) | none=>none) else none
 | [],i,j=>by simp [renS,lkS]
 | b::ρ,i,j=>by
  simp only [renS,lkS]
  by_cases h:i=j
  ·subst h; simp
  ·rw [beqN h]
   simp only [cond_false,lkS_renS f st ρ (i+1) j]
   by_cases h2:i≤j
   ·rw [if_pos h2,if_pos (by omega),show j - i=(j - (i+1))+1 by omega]; simp
   ·rw [if_neg h2,if_neg (by omega)]
theorem SW.canR {T:Tab} {C:Ctx T} {w:World} {Y:Nat→Prop} {σ:Sg} {ps:List PV} {vs:List Value} {st:St} {n:Nat} (H:SW C w Y σ ps vs st n) {ρ:List Nat} (hnd:ρ.Nodup) (hpre:∀ i,i<T.pas→ρ[i]?=some i) (hlen:T.pas≤ρ.length) :
  ∃ σ',SW C w Y σ' (mapV (renV (ixN ρ) 8) ps) vs (renS (ixN ρ) st 0 ρ) (lenNs ρ)∧∀ p v d,Rep w Y σ p v→Rep w Y σ' (renV (ixN ρ) d p) v:=by
 let σ' : Sg:=fun i=>match ρ[i]? with | some b=>σ b | none=>none
 have hf:∀ b i l,ixN ρ b=some i→σ b=some l→σ' i=some l:=by
  intro b i l h1 h2
  show (match ρ[i]? with | some b=>σ b | none=>none)=some l
  rw [ixN_get _ _ _ h1]; exact h2
 have look:∀ i x,lkS (renS (ixN ρ) st 0 ρ) i=some x→∃ b y,ρ[i]?=some b∧lkS st b=some y∧renB (ixN ρ) (some y)=some x∧σ' i=σ b:=by
  intro i x hx
  rw [lkS_renS,if_pos (Nat.zero_le _),Nat.sub_zero] at hx
  split at hx
  ·rename_i b hb
   obtain ⟨y,hy⟩:=renB_some hx
   rw [hy] at hx
   refine ⟨b,y,hb,hy,hx,?_⟩
   show (match ρ[i]? with | some b=>σ b | none=>none)=_
   rw [hb]
  ·cases hx
 refine ⟨σ',⟨by rw [mapV_eq]; exact H.vals.map (renV_sound hf 8),⟨fun i x hx=>?_,fun i i' x x' l l' hx hx' hl hl' e=>?_⟩,fun i hi=>?_,H.yold,H.y0,H.c0,H.yshr,H.chg,fun i x l hx hl=>?_,H.glob,?_,?_⟩,fun p v d h=>renV_sound hf d p v h⟩
 ·obtain ⟨b,y,h1,h2,h3,h4⟩:=look i x hx
  rcases H.store.blk b y h2 with ⟨l,hl,hB⟩ | ⟨hn,ro,sz,hy⟩
  ·exact .inl ⟨l,by rw [h4]; exact hl,renB_sound hf h3 hB⟩
  ·exact .inr ⟨by rw [h4]; exact hn,ro,sz,renB_arr h3 hy⟩
 ·obtain ⟨b,y,h1,h2,h3,h4⟩:=look i x hx
  obtain ⟨b',y',h1',h2',h3',h4'⟩:=look i' x' hx'
  rw [h4] at hl; rw [h4'] at hl'
  have:=H.store.inj b b' y y' l l' h2 h2' hl hl' e
  subst this
  exact nodup_get hnd h1 h1'
 ·show (match ρ[i]? with | some b=>σ b | none=>none)=none
  rw [List.getElem?_eq_none (by rw [lenNs_eq] at hi; exact hi)]
 ·obtain ⟨b,y,h1,h2,h3,h4⟩:=look i x hx
  rw [h4] at hl
  exact H.own b y l h2 hl
 ·refine ⟨by rw [lenNs_eq]; exact hlen,fun b hb=>?_⟩
  show (match ρ[b]? with | some b=>σ b | none=>none)=_
  rw [hpre b hb]; exact H.fix.2 b hb
 ·have ow:∀ {i r c h sz es},OwAt (renS (ixN ρ) st 0 ρ) i r c h sz es→∃ b,ρ[i]?=some b∧OwAt st b r c h sz es:=by
   rintro i r c h sz es ⟨sz0,rows,row,h1,h2⟩
   obtain ⟨b,y,g1,g2,g3,_⟩:=look i _ h1
   have:=renB_nar g3
   subst this
   exact ⟨b,g1,sz0,rows,row,g2,h2⟩
  refine ⟨fun i r c h sz es hk=>?_,fun i r c h sz es hk=>?_,fun i r c h sz es i' r' c' h' sz' es' hk hk' e=>?_,fun i r c h sz es i' x l hk hx hl=>?_⟩
  ·obtain ⟨b,_,hb⟩:=ow hk; exact H.nest.rep _ _ _ _ _ _ hb
  ·obtain ⟨b,_,hb⟩:=ow hk; exact H.nest.old _ _ _ _ _ _ hb
  ·obtain ⟨b,h1,hb⟩:=ow hk
   obtain ⟨b',h1',hb'⟩:=ow hk'
   obtain ⟨e1,e2,e3⟩:=H.nest.one _ _ _ _ _ _ _ _ _ _ _ _ hb hb' e
   subst e1
   exact ⟨nodup_get hnd h1 h1',e2,e3⟩
  ·obtain ⟨b,_,hb⟩:=ow hk
   obtain ⟨b',y,_,g2,_,g4⟩:=look i' x hx
   rw [g4] at hl
   exact H.nest.sep _ _ _ _ _ _ _ _ _ hb g2 hl
theorem maskL_rep {w:World} {Y:Nat→Prop} {σ:Sg}:∀ (ps:List PV) (keep:List Nat) (i:Nat) (vs:List Value),RepL w Y σ ps vs→RepL w Y σ (maskL keep i ps) vs
 | [],keep,i,vs,h=>by simpa [maskL] using h
 | p::ps,[],i,vs,h=>by
  unfold RepL at h; obtain ⟨v,vs',rfl,h1,h2⟩:=h
  simp only [maskL]; unfold RepL; exact ⟨v,vs',rfl,by simp [Rep],maskL_rep ps [] _ vs' h2⟩
 | p::ps,k::ks,i,vs,h=>by
  unfold RepL at h; obtain ⟨v,vs',rfl,h1,h2⟩:=h
  simp only [maskL]
  cases Nat.beq k i with
  | true=>simp only [cond_true]; unfold RepL; exact ⟨v,vs',rfl,h1,maskL_rep ps ks _ vs' h2⟩
  | false=>simp only [cond_false]; unfold RepL; exact ⟨v,vs',rfl,by simp [Rep],maskL_rep ps (k::ks) _ vs' h2⟩
theorem ent_canE {T:Tab} (keep:List Nat) (E:Env):Ent T E (canE T.pas keep E):=by
 intro C a w hA
 obtain ⟨⟨Y,σ,H⟩,hd⟩:=hA
 have H1:=H.vals' (maskL_rep _ keep 0 _ H.vals)
 obtain ⟨h1,h2,h3⟩:=seenN_ok T.pas E.st (maskL keep 0 E.tmps)
 obtain ⟨σ',H2,_⟩:=H1.canR h1 h2 h3
 exact ⟨⟨Y,σ',H2⟩,hd⟩
theorem lkS_bakO (f:Nat→Option Nat) (st1:St):∀ (τ:List Nat) (i:Nat) (st:St) (b:Nat),τ.Nodup→(∀ j,τ[j]?=some b→lkS (bakO f st1 i τ st) b=renB f (lkS st1 (i+j)))∧(b ∉ τ→lkS (bakO f st1 i τ st) b=lkS st b)
 | [],i,st,b,_=>⟨fun j h=>by simp at h,fun _=>rfl⟩
 | c::τ,i,st,b,h=>by
  rw [List.nodup_cons] at h
  obtain ⟨h1,h2⟩:=lkS_bakO f st1 τ (i+1) (inS st c (renB f (lkS st1 i))) b h.2
  simp only [bakO]
  refine ⟨fun j hj=>?_,fun hb=>?_⟩
  ·cases j with
   | zero =>
    simp at hj; subst hj
    rw [h2 h.1,lkS_inS,if_pos rfl]; rfl
   | succ j =>
    rw [h1 j (by simpa using hj)]; congr 2; omega
  ·simp only [List.mem_cons,not_or] at hb
   rw [h2 hb.2,lkS_inS,if_neg fun e=>hb.1 e.symm]
theorem ltN_spec {n:Nat}:∀ l,ltN n l=true→∀ b∈l,b<n
 | [],_,b,h=>by cases h
 | c::l,h,b,hb=>by
  simp only [ltN,Bool.and_eq_true,Nat.blt_eq] at h
  rcases List.mem_cons.1 hb with rfl | hb
  ·exact h.1
  ·exact ltN_spec l h.2 b hb
theorem call_W {P:Program} {T:Tab} {C:Ctx T} {w:World} {Y:Nat→Prop} {σ:Sg} {E:Env} {vs:List Value} {n0 N:Nat} (H:SW C w Y σ E.tmps vs E.st n0) {k:Nat} {args:List PV} {cargs:List Value} {ρ:List Nat} {v:PV} {st1:St} {n1:Nat}
  (hnd:nodN ρ=true) (hlt:ltN E.next ρ=true) (hnn:noNar (renS (ixN ρ) E.st 0 ρ)=true) (hid:T.pas≤E.next) (hwin:∀ b,E.next≤b→b<E.next+(n1 - lenNs ρ)→σ b=none) (hN:E.next+(n1 - lenNs ρ)≤N∧n0≤N) (hr:RepL w Y σ args cargs)
  (hF:FnS P T.gl k (mapV (renV (ixN ρ) 8) args) (renS (ixN ρ) E.st 0 ρ) (lenNs ρ) (fun u st n=>u=v∧st=st1∧n=n1)) :
  (callFunc k cargs.toArray).run P w=.ok (.enter k cargs.toArray) w ∧
  Calls P k cargs.toArray w fun e w'=>∃ cv Y' σ',e=.returned cv∧SW C w' Y' σ' E.tmps vs (bakE ρ E st1 n1).st N∧Rep w' Y' σ' (renV (bakN ρ E.next) 8 v) cv∧∀ b,(b<E.next∨n1≤lenNs ρ+(b - E.next))→σ' b=σ b:=by
 have hnd:=nodN_nodup _ hnd
 have hlt:=ltN_spec _ hlt
 let σc:Sg:=fun i=>match ρ[i]? with | some b=>σ b | none=>none
 have hσc:∀ i b,ρ[i]?=some b→σc i=σ b:=by
  intro i b h
  show (match ρ[i]? with | some b=>σ b | none=>none)=_
  rw [h]
 have hf:∀ b i l,ixN ρ b=some i→σ b=some l→σc i=some l:=by
  intro b i l h1 h2
  rw [hσc _ _ (ixN_get _ _ _ h1)]; exact h2
 have look:∀ i x,lkS (renS (ixN ρ) E.st 0 ρ) i=some x→∃ b y,ρ[i]?=some b∧lkS E.st b=some y∧renB (ixN ρ) (some y)=some x∧σc i=σ b:=by
  intro i x hx
  rw [lkS_renS,if_pos (Nat.zero_le _),Nat.sub_zero] at hx
  split at hx
  ·rename_i b hb
   obtain ⟨y,hy⟩:=renB_some hx
   rw [hy] at hx
   exact ⟨b,y,hb,hy,hx,hσc _ _ hb⟩
  ·cases hx
 have hst0:StRep w Y σc (renS (ixN ρ) E.st 0 ρ):=by
  refine ⟨fun i x hx=>?_,fun i i' x x' l l' hx hx' hl hl' e=>?_⟩
  ·obtain ⟨b,y,h1,h2,h3,h4⟩:=look i x hx
   rcases H.store.blk b y h2 with ⟨l,hl,hB⟩ | ⟨hn,ro,sz,hy⟩
   ·exact .inl ⟨l,by rw [h4]; exact hl,renB_sound hf h3 hB⟩
   ·exact .inr ⟨by rw [h4]; exact hn,ro,sz,renB_arr h3 hy⟩
  ·obtain ⟨b,y,h1,h2,h3,h4⟩:=look i x hx
   obtain ⟨b',y',h1',h2',h3',h4'⟩:=look i' x' hx'
   rw [h4] at hl; rw [h4'] at hl'
   have:=H.store.inj b b' y y' l l' h2 h2' hl hl' e
   subst this
   exact nodup_get hnd h1 h1'
 have hnext:∀ b,lenNs ρ≤b→σc b=none:=by
  intro i hi
  show (match ρ[i]? with | some b=>σ b | none=>none)=none
  rw [List.getElem?_eq_none (by rw [lenNs_eq] at hi; exact hi)]
 have inst:∀ k,InSt σc (renS (ixN ρ) E.st 0 ρ) k→∃ b y l,b∈ρ∧lkS E.st b=some y∧σ b=some l∧l.cb=k:=by
  rintro k ⟨i,x,l,hx,hl,rfl⟩
  obtain ⟨b,y,h1,h2,h3,h4⟩:=look i x hx
  exact ⟨b,y,l,List.mem_of_getElem? h1,h2,by rw [← h4]; exact hl,rfl⟩
 obtain ⟨hent,hcall⟩:=hF w Y σc cargs H.glob H.yold hnext (by rw [mapV_eq]; exact hr.map (renV_sound hf 8)) hst0 hnn
 refine ⟨hent,Calls.mono hcall fun e w' hh=>?_⟩
 obtain ⟨cv,u,st',n',Y',σ',rfl,⟨rfl,rfl,rfl⟩,H'⟩:=hh
 have hm:lenNs ρ≤n':=H'.fix.1
 have hfix:∀ i,i<lenNs ρ→σ' i=σc i:=H'.fix.2
 have hlen:=lenNs_eq ρ
 let σn:Sg:=fun b=>if b<E.next∨n'≤lenNs ρ+(b - E.next) then σ b else σ' (lenNs ρ+(b - E.next))
 have hout:∀ b,(b<E.next∨n'≤lenNs ρ+(b - E.next))→σn b=σ b:=fun b h=>by
  show (if _ then σ b else _)=_
  rw [if_pos h]
 have hbak:∀ i b,i<n'→bakN ρ E.next i=some b→σn b=σ' i:=by
  intro i b hin h
  unfold bakN at h
  rw [getNs_eq] at h
  split at h
  ·rename_i c hc
   have hcb:=Option.some.inj h
   subst hcb
   have hi:i<lenNs ρ:=by
    rw [hlen]
    by_cases hh:i<ρ.length
    ·exact hh
    ·rw [List.getElem?_eq_none (Nat.le_of_not_lt hh)] at hc; cases hc
   rw [hout c (.inl (hlt c (List.mem_of_getElem? hc))),hfix i hi,hσc i c hc]
  ·rename_i hc
   cases h
   have hi:lenNs ρ≤i:=by
    rw [hlen]
    by_cases hh:i<ρ.length
    ·rw [List.getElem?_eq_getElem hh] at hc; cases hc
    ·omega
   show (if _ then _ else σ' _)=_
   rw [if_neg (by omega)]; congr 1; omega
 have hin' : ∀ i l,σ' i=some l→i<n':=fun i l h=>by
  by_cases hh:i<n'
  ·exact hh
  ·rw [H'.next i (by omega)] at h; cases h
 have hfb:∀ i b l,bakN ρ E.next i=some b→σ' i=some l→σn b=some l:=fun i b l h1 h2=>by rw [hbak i b (hin' i l h2) h1]; exact h2
 have excl:∀ k,k<w.heap.size→Y' k→Y k:=by
  intro k hk hy
  rcases H'.yshr k hy hk with h | h
  ·exact h.1
  ·exact h.1
 have K:Keep w w' Y Y' σ σn:=by
  refine ⟨fun k hk hy=>H'.chg.block k hk fun h=>hy h.1,excl,H'.chg.size,fun b l hl=>?_⟩
  rw [hout b ?_]; · exact hl
  by_cases hh:b<E.next∨n'≤lenNs ρ+(b - E.next)
  ·exact hh
  ·rw [hwin b (by omega) (by omega)] at hl; cases hl
 have hτ:(ρ ++ upN E.next (n' - lenNs ρ)).Nodup:=by
  rw [List.nodup_append]
  refine ⟨hnd,upN_nodup _ _,fun a ha b hb e=>?_⟩
  have:=hlt a ha
  have:=(upN_mem hb).1
  omega
 have hτi:∀ i b,(ρ ++ upN E.next (n' - lenNs ρ))[i]?=some b→bakN ρ E.next i=some b:=by
  intro i b h
  unfold bakN
  rw [getNs_eq]
  by_cases hh:i<ρ.length
  ·rw [List.getElem?_append_left hh] at h; rw [h]
  ·rw [List.getElem?_append_right (by omega),upN_get] at h
   rw [List.getElem?_eq_none (by omega)]
   split at h
   ·cases h; rw [hlen]
   ·cases h
 have hnot:∀ b,b ∉ (ρ ++ upN E.next (n' - lenNs ρ))→b ∉ ρ∧(b<E.next∨n'≤lenNs ρ+(b - E.next)):=by
  intro b hb
  rw [List.mem_append,not_or] at hb
  refine ⟨hb.1,?_⟩
  by_cases h1:b<E.next
  ·exact .inl h1
  ·refine .inr ?_
   by_cases h2:b - E.next<n' - lenNs ρ
   ·exact absurd (List.mem_of_getElem? (i:=b - E.next) (by rw [upN_get,if_pos h2]; congr 1; omega)) hb.2
   ·omega
 have lk:∀ b x,lkS (bakE ρ E st' n').st b=some x→(∃ i y,bakN ρ E.next i=some b∧lkS st' i=some y∧renB (bakN ρ E.next) (some y)=some x∧σn b=σ' i) ∨
   (b ∉ ρ∧(b<E.next∨n'≤lenNs ρ+(b - E.next))∧lkS E.st b=some x):=by
  intro b x hx
  simp only [bakE,appN_eq] at hx
  obtain ⟨h1,h2⟩:=lkS_bakO (bakN ρ E.next) st' (ρ ++ upN E.next (n' - lenNs ρ)) 0 E.st b hτ
  by_cases hb:b∈ρ ++ upN E.next (n' - lenNs ρ)
  ·obtain ⟨i,hi⟩:=List.getElem?_of_mem hb
   rw [h1 i hi,Nat.zero_add] at hx
   obtain ⟨y,hy⟩:=renB_some hx
   rw [hy] at hx
   have hil:i<n':=by
    have hl:i<(ρ ++ upN E.next (n' - lenNs ρ)).length:=by
     by_cases hh:i<(ρ ++ upN E.next (n' - lenNs ρ)).length
     ·exact hh
     ·rw [List.getElem?_eq_none (Nat.le_of_not_lt hh)] at hi; cases hi
    rw [List.length_append,upN_len] at hl; omega
   exact .inl ⟨i,y,hτi i b hi,hy,hx,hbak i b hil (hτi i b hi)⟩
  ·rw [h2 hb] at hx
   exact .inr ⟨(hnot b hb).1,(hnot b hb).2,hx⟩
 have nin:∀ b x l,b ∉ ρ→lkS E.st b=some x→σ b=some l→¬ InSt σc (renS (ixN ρ) E.st 0 ρ) l.cb:=by
  intro b x l hb hx hl hi
  obtain ⟨b',y,l',h1,h2,h3,h4⟩:=inst _ hi
  have:=H.store.inj b' b y x l' l h2 hx h3 hl h4
  subst this; exact hb h1
 have getσ:∀ b l,(b<E.next∨n'≤lenNs ρ+(b - E.next))→σn b=some l→σ b=some l:=by
  intro b l h6 hl
  rw [hout b h6] at hl; exact hl
 have owc:∀ {b r c h sz es},OwAt (bakE ρ E st' n').st b r c h sz es→(∃ i,bakN ρ E.next i=some b∧OwAt st' i r c h sz es)∨OwAt E.st b r c h sz es:=by
  rintro b r c h sz es ⟨sz0,rows,row,h1,h2⟩
  rcases lk b _ h1 with ⟨i,y,g1,g2,g3,_⟩ | ⟨_,_,g3⟩
  ·have:=renB_nar g3
   subst this
   exact .inl ⟨i,g1,sz0,rows,row,g2,h2⟩
  ·exact .inr ⟨sz0,rows,row,g3,h2⟩
 have notIn:∀ {b r c h sz es},OwAt E.st b r c h sz es→¬ InSt σc (renS (ixN ρ) E.st 0 ρ) h.ν:=by
  intro b r c h sz es hk hi
  obtain ⟨b',y,l',h1,h2,h3,h4⟩:=inst _ hi
  exact H.nest.sep _ _ _ _ _ _ _ _ _ hk h2 h3 h4
 have cross:∀ {i r c h sz es b r' c' h' sz' es'},OwAt st' i r c h sz es→OwAt E.st b r' c' h' sz' es'→h.ν ≠ h'.ν:=by
  intro i r c h sz es b r' c' h' sz' es' hk hk' e
  rcases H'.nest.old _ _ _ _ _ _ hk with g | g
  ·have g:w.heap.size≤h.ν:=g
   have:=(H.nest.rep _ _ _ _ _ _ hk').lt
   omega
  ·rw [e] at g; exact notIn hk' g
 have nest:Nest C.w0 C.L w' Y' σn (bakE ρ E st' n').st:=by
  refine ⟨fun b r c h sz es hk=>?_,fun b r c h sz es hk=>?_,fun b r c h sz es b' r' c' h' sz' es' hk hk' e=>?_,fun b r c h sz es b' x l hk hx hl=>?_⟩
  ·rcases owc hk with ⟨i,_,hk⟩ | hk
   ·exact H'.nest.rep _ _ _ _ _ _ hk
   ·have hN:=H.nest.rep _ _ _ _ _ _ hk
    exact hN.keep K.none (H'.chg.block _ hN.lt fun h=>notIn hk h.2) (fun h=>H'.y0 _ ⟨h,notIn hk⟩)
  ·rcases owc hk with ⟨i,_,hk⟩ | hk
   ·rcases H'.nest.old _ _ _ _ _ _ hk with h | h
    ·exact .inl (Nat.le_trans H.chg.size h)
    ·obtain ⟨b',y',l',h5,h6,h7,h8⟩:=inst _ h
     rw [← h8]; exact H.own b' y' l' h6 h7
   ·exact H.nest.old _ _ _ _ _ _ hk
  ·rcases owc hk with ⟨i,g,hk⟩ | hk <;> rcases owc hk' with ⟨i',g',hk'⟩ | hk'
   ·obtain ⟨e1,e2,e3⟩:=H'.nest.one _ _ _ _ _ _ _ _ _ _ _ _ hk hk' e
    subst e1; rw [g] at g'; cases g'
    exact ⟨rfl,e2,e3⟩
   ·exact absurd e (cross hk hk')
   ·exact absurd e.symm (cross hk' hk)
   ·exact H.nest.one _ _ _ _ _ _ _ _ _ _ _ _ hk hk' e
  ·rcases owc hk with ⟨i,g,hk⟩ | hk <;> rcases lk b' x hx with ⟨i',y,g1,g2,g3,g4⟩ | ⟨g1,g2,g3⟩
   ·exact H'.nest.sep _ _ _ _ _ _ _ _ _ hk g2 (by rw [← g4]; exact hl)
   ·have hσ:=getσ b' l g2 hl
    intro e
    have hlt' : l.cb<w.heap.size:=by
     rcases H.store.blk b' x g3 with ⟨l2,hl2,hB⟩ | ⟨hn,_⟩
     ·rw [hσ] at hl2; cases hl2; exact hB.lt
     ·rw [hσ] at hn; cases hn
    rcases H'.nest.old _ _ _ _ _ _ hk with h | h
    ·have h:w.heap.size≤_:=h
     omega
    ·rw [← e] at h; exact nin b' x l g1 g3 hσ h
   ·intro e
    rcases H'.own i' y l g2 (by rw [← g4]; exact hl) with h | h
    ·have h:w.heap.size≤l.cb:=h
     have:=(H.nest.rep _ _ _ _ _ _ hk).lt
     omega
    ·rw [e] at h; exact notIn hk h
   ·exact H.nest.sep _ _ _ _ _ _ _ _ _ hk g3 (getσ b' l g2 hl)
 refine ⟨cv,Y',σn,rfl,⟨RepL.keep _ K _ H.vals,⟨fun b x hx=>?_,fun b b' x x' l l' hx hx' hl hl' e=>?_⟩,fun b hb=>?_,H'.yold,fun k hk=>?_,H.c0,fun k hk hlt=>?_,?_,fun b x l hx hl=>?_,H'.glob,?_,nest⟩,?_⟩
 ·rcases lk b x hx with ⟨i,y,h1,h2,h3,h4⟩ | ⟨h1,h2,h3⟩
  ·rcases H'.store.blk i y h2 with ⟨l,hl,hB⟩ | ⟨hn,ro,sz,hy⟩
   ·exact .inl ⟨l,by rw [h4]; exact hl,renB_sound hfb h3 hB⟩
   ·exact .inr ⟨by rw [h4]; exact hn,ro,sz,renB_arr h3 hy⟩
  ·rcases H.store.blk b x h3 with ⟨l,hl,hB⟩ | ⟨hn,ro,sz,hy⟩
   ·have hni:=nin b x l h1 h3 hl
    refine .inl ⟨l,K.sg b l hl,BlkRep.keep K (H'.chg.block _ hB.lt fun h=>hni h.2) ⟨excl _ hB.lt,fun h=>H'.y0 _ ⟨h,hni⟩⟩ hB⟩
   ·exact .inr ⟨by rw [hout b h2]; exact hn,ro,sz,hy⟩
 ·have side:∀ b b' x x' l l',(∃ i y,bakN ρ E.next i=some b∧lkS st' i=some y∧renB (bakN ρ E.next) (some y)=some x∧σn b=σ' i)→(b' ∉ ρ∧(b'<E.next∨n'≤lenNs ρ+(b' - E.next))∧lkS E.st b'=some x') →
    σn b=some l→σn b'=some l'→l.cb=l'.cb→False:=by
   rintro b b' x x' l l' ⟨i,y,h1,h2,h3,h4⟩ ⟨h5,h6,h7⟩ hl hl' e
   have hσ:σ b'=some l':=getσ b' l' h6 hl'
   have hlt' : l'.cb<w.heap.size:=by
    rcases H.store.blk b' x' h7 with ⟨l2,hl2,hB⟩ | ⟨hn,_⟩
    ·rw [hσ] at hl2; cases hl2; exact hB.lt
    ·rw [hσ] at hn; cases hn
   rcases H'.own i y l h2 (by rw [← h4]; exact hl) with h | h
   ·have h:w.heap.size≤l.cb:=h
    omega
   ·rw [e] at h
    exact nin b' x' l' h5 h7 hσ h
  rcases lk b x hx with h | h <;> rcases lk b' x' hx' with h' | h'
  ·obtain ⟨i,y,h1,h2,h3,h4⟩:=h
   obtain ⟨i',y',h1',h2',h3',h4'⟩:=h'
   have:=H'.store.inj i i' y y' l l' h2 h2' (by rw [← h4]; exact hl) (by rw [← h4']; exact hl') e
   subst this
   rw [h1] at h1'; cases h1'; rfl
  ·exact (side b b' x x' l l' h h' hl hl' e).elim
  ·exact (side b' b x' x l' l h' h hl' hl e.symm).elim
  ·have get:∀ b x l,(b ∉ ρ∧(b<E.next∨n'≤lenNs ρ+(b - E.next))∧lkS E.st b=some x)→σn b=some l→σ b=some l:=by
    rintro b x l ⟨_,h6,_⟩ hl
    exact getσ b l h6 hl
   exact H.store.inj b b' x x' l l' h.2.2 h'.2.2 (get b x l h hl) (get b' x' l' h' hl') e
 ·rw [hout b (by omega)]; exact H.next b (by omega)
 ·refine H'.y0 k ⟨H.y0 k hk,fun hi=>?_⟩
  obtain ⟨b,y,l,h1,h2,h3,rfl⟩:=inst k hi
  exact H.away h2 h3 hk
 ·exact H.yshr k (excl k (Nat.lt_of_lt_of_le hlt H.chg.size) hk) hlt
 ·refine ⟨by rw [H'.chg.os]; exact H.chg.os,by rw [H'.chg.tape]; exact H.chg.tape,by rw [H'.chg.output]; exact H.chg.output,Nat.le_trans H.chg.size H'.chg.size,fun k hk hM=>?_⟩
  rw [H'.chg.block k (Nat.lt_of_lt_of_le hk H.chg.size) fun h=>?_]
  ·exact H.chg.block k hk hM
  ·obtain ⟨h1,h2⟩:=h
   rcases H.yshr k h1 hk with h3 | h3
   ·obtain ⟨b,y,l,h4,h5,h6,rfl⟩:=inst k h2
    exact H.away h5 h6 h3
   ·exact hM h3
 ·rcases lk b x hx with ⟨i,y,h1,h2,h3,h4⟩ | ⟨h1,h2,h3⟩
  ·rcases H'.own i y l h2 (by rw [← h4]; exact hl) with h | h
   ·exact .inl (Nat.le_trans H.chg.size h)
   ·obtain ⟨b',y',l',h5,h6,h7,h8⟩:=inst _ h
    rw [← h8]; exact H.own b' y' l' h6 h7
  ·exact H.own b x l h3 (getσ b l h2 hl)
 ·refine ⟨by have:=H.fix.1; omega,fun b hb=>?_⟩
  rw [hout b (.inl (by omega))]; exact H.fix.2 b hb
 ·have:=H'.vals
  unfold RepL at this
  obtain ⟨c,cs,e,h1,h2⟩:=this
  cases e
  exact ⟨renV_sound hfb 8 _ _ h1,hout⟩
theorem call_S {P:Program} {T:Tab} {C:Ctx T} {w:World} {Y:Nat→Prop} {σ:Sg} {E:Env} {vs:List Value} (H:SW C w Y σ E.tmps vs E.st E.next) {k:Nat} {args:List PV} {cargs:List Value} {ρ:List Nat} {v:PV} {st1:St} {n1:Nat}
  (hnd:nodN ρ=true) (hlt:ltN E.next ρ=true) (hnn:noNar (renS (ixN ρ) E.st 0 ρ)=true) (hr:RepL w Y σ args cargs)
  (hF:FnS P T.gl k (mapV (renV (ixN ρ) 8) args) (renS (ixN ρ) E.st 0 ρ) (lenNs ρ) (fun u st n=>u=v∧st=st1∧n=n1)) :
  (callFunc k cargs.toArray).run P w=.ok (.enter k cargs.toArray) w ∧
  Calls P k cargs.toArray w fun e w'=>∃ cv Y' σ',e=.returned cv∧SW C w' Y' σ' E.tmps vs (bakE ρ E st1 n1).st (bakE ρ E st1 n1).next∧Rep w' Y' σ' (renV (bakN ρ E.next) 8 v) cv:=by
 obtain ⟨h1,h2⟩:=call_W (N:=E.next+(n1 - lenNs ρ)) H hnd hlt hnn H.fix.1 (fun b hb _=>H.next b hb) ⟨Nat.le_refl _,Nat.le_add_right _ _⟩ hr hF
 refine ⟨h1,Calls.mono h2 fun e w' hh=>?_⟩
 obtain ⟨cv,Y',σ',e1,h3,h4,_⟩:=hh
 exact ⟨cv,Y',σ',e1,h3,h4⟩
theorem lkRo_le {st:St} {b:Nat} {x:Blk} (h:lkRo st b=some x):lkS st b=some x∧x.ro=true:=by
 unfold lkRo at h
 split at h
 ·rename_i e; cases h; exact ⟨e,rfl⟩
 ·rename_i e; cases h; exact ⟨e,rfl⟩
 ·cases h
theorem BlkRep.notY {w:World} {Y:Nat→Prop} {σ:Sg} {l:Loc} {x:Blk} (h:BlkRep w Y σ l x) (hr:x.ro=true):¬ Y l.cb:=by
 cases x with
 | var ro row=>unfold BlkRep at h; exact h.2.2.2.2.2 hr
 | arr ro sz rows=>unfold BlkRep at h; exact h.2.2.2.2.2.2 hr
 | nar sz rows=>cases hr
 | map rows=>cases hr
theorem call_ro {P:Program} {T:Tab} {C:Ctx T} {w:World} {Y:Nat→Prop} {σ:Sg} {ps:List PV} {vs:List Value} {st:St} {n:Nat} (H:SW C w Y σ ps vs st n) {lk:Nat→Option Blk} (hlk:∀ b x,lk b=some x→lkS st b=some x∧x.ro=true)
  {k d:Nat} {args as:List PV} {cargs:List Value} {v:PV}
  (hm:mapO (frz (Sig.std P T) lk d) args=some as) (hr:RepL w Y σ args cargs) (hF:Fn P T.gl k as (fun u=>u=v)):CallSem P k C Y σ w cargs ps vs st n v:=by
 have hfree:∀ b x l,lk b=some x→σ b=some l→¬ Y l.cb:=by
  intro b x l h1 h2
  obtain ⟨h3,h4⟩:=hlk b x h1
  rcases H.store.blk b x h3 with ⟨l',hl',hB⟩ | ⟨hn,_⟩
  ·rw [h2] at hl'; cases hl'; exact hB.notY h4
  ·rw [h2] at hn; cases hn
 obtain ⟨h1,h2⟩:=hF w Y cargs H.glob H.yold (mapO_frz H.store (fun b x h=>(hlk b x h).1) (fun _ h=>h) hfree (fun b sz rows hb=>by have:=(hlk _ _ hb).2; cases this) hm hr)
 refine ⟨h1,Calls.mono h2 fun e w' h=>?_⟩
 obtain ⟨cv,u,rfl,rfl,hrep,hchg⟩:=h
 exact ⟨cv,rfl,H.chgd hchg,hrep.of_no⟩
theorem SW.roS {T:Tab} {C:Ctx T} {w:World} {σ:Sg} {ps:List PV} {vs:List Value} {n:Nat}:∀ (ρ:List Nat) {Y:Nat→Prop} {st:St},SW C w Y σ ps vs st n→∃ Y',SW C w Y' σ ps vs (Pv.roS st ρ) n∧∀ k,Y' k→Y k
 | [],Y,st,H=>⟨Y,H,fun _ h=>h⟩
 | b::l,Y,st,H=>by
  unfold Pv.roS
  split
  ·rename_i ro row hb
   obtain ⟨Y1,H1,_,h1⟩:=H.freeze hb (.inl ⟨ro,row,rfl,rfl⟩)
   obtain ⟨Y2,H2,h2⟩:=SW.roS l H1
   exact ⟨Y2,H2,fun k h=>h1 k (h2 k h)⟩
  ·rename_i ro sz rows hb
   obtain ⟨Y1,H1,_,h1⟩:=H.freeze hb (.inr ⟨ro,sz,rows,rfl,rfl⟩)
   obtain ⟨Y2,H2,h2⟩:=SW.roS l H1
   exact ⟨Y2,H2,fun k h=>h1 k (h2 k h)⟩
  ·exact SW.roS l H
theorem callE_sound {P:Program} {T:Tab} {k:Nat} {args:List PV} {E:Env} {K:PV→Env→Prop} (h:callE (Sig.std P T) k args E K):CallT P T k args E K:=by
 unfold callE at h
 split at h
 ·rename_i as hm
  rcases h with ⟨v,hF,hK⟩ | ⟨v,st1,n1,hF,hK⟩ | h
  ·exact CallT.of_sem hK fun C Y σ w vs cargs H hr=>call_ro H (fun b x h=>lkRo_le h) hm hr hF
  ·intro C Y σ w vs cargs H hr
   have hfree:∀ b x l,lkRo E.st b=some x→σ b=some l→¬ Y l.cb:=by
    intro b x l h1 h2
    obtain ⟨h3,h4⟩:=lkRo_le h1
    rcases H.store.blk b x h3 with ⟨l',hl',hB⟩ | ⟨hn,_⟩
    ·rw [h2] at hl'; cases hl'; exact hB.notY h4
    ·rw [h2] at hn; cases hn
   have hr0:=mapO_frz (P:=P) (T:=T) H.store (fun b x h=>(lkRo_le h).1) (fun _ h=>h) hfree (fun b sz rows hb=>by have:=(lkRo_le hb).2; cases this) hm hr
   have hr1:RepL w Y σ as cargs:=RepL.keep as (σ:=noSg) (σ':=σ) ⟨fun _ _ _=>rfl,fun _ _ h=>h,Nat.le_refl _,fun b l h=>by simp [noSg] at h⟩ _ hr0
   obtain ⟨h3,h4⟩:=call_S (ρ:=[]) (v:=v) (st1:=st1) (n1:=n1) H rfl rfl rfl hr1 hF
   refine ⟨h3,Calls.mono h4 fun e w' hh=>?_⟩
   obtain ⟨cv,Y',σ',rfl,H2,hv⟩:=hh
   exact ⟨cv,_,_,Y',σ',rfl,hK,H2,hv⟩
  ·exact h
 ·rcases h with ⟨bs,v,hm,hF,hf,hK⟩ | ⟨bs,v,hm,hF,hK⟩ | ⟨v,st1,n1,h1,h2,h0,hF,hK⟩ | h
  ·exact CallT.of_sem hK fun C Y σ w vs cargs H hr=>call_flat H (fun _ _ h=>h) hm hr hF hf
  ·intro C Y σ w vs cargs H hr
   obtain ⟨Y',H',hY⟩:=SW.roS (callN args E.st) H
   have K0:Keep w w Y Y' σ σ:=⟨fun _ _ _=>rfl,fun k _=>hY k,Nat.le_refl _,SgLe.refl _⟩
   obtain ⟨h1,h2⟩:=call_ro H' (fun b x h=>lkRo_le h) hm (RepL.keep _ K0 _ hr) hF
   refine ⟨h1,Calls.mono h2 fun e w' hh=>?_⟩
   obtain ⟨cv,rfl,H2,hv⟩:=hh
   exact ⟨cv,v,_,Y',σ,rfl,hK,H2,hv⟩
  ·intro C Y σ w vs cargs H hr
   obtain ⟨h3,h4⟩:=call_S H h1 h2 h0 hr hF
   refine ⟨h3,Calls.mono h4 fun e w' hh=>?_⟩
   obtain ⟨cv,Y',σ',rfl,H2,hv⟩:=hh
   exact ⟨cv,_,_,Y',σ',rfl,hK,H2,hv⟩
  ·exact h
end Go.Pv
