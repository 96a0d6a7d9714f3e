import Derived.Test.YtddcpnlflncahaaGreatT05
import Derived.Test.YtddcpnlflncahaaGreatT28
import Derived.Test.YtddcpnlflncahaaGreatT29
import Derived.Test.YtddcpnlflncahaaGreatT33
set_option linter.all false
namespace Go.Proofs.YtddcpnlflncahaaGreat
open Go Go.Pv
def lostN (l:List GPlayer) (n:Nat):Bool:=match l[n]? with | some p=>p.lost | none=>true
theorem lostN_at {l:List GPlayer} {i:Nat} (h:i<l.length):lostN l i=l[i].lost:=by simp [lostN,h]
def livN (f:Nat→Bool):Nat→List Int
 | 0=>[]
 | n+1=>livN f n ++ (if f n=true then [] else [(n:Int)])
theorem livN_len (f:Nat→Bool):∀ n,(livN f n).length≤n
 | 0=>by simp [livN]
 | n+1=>by have:=livN_len f n; simp only [livN,List.length_append]; split <;> simp <;> omega
theorem livN_mem (f:Nat→Bool) (x:Int):∀ n,x∈livN f n ↔ ∃ i:Nat,i<n∧x=(i:Int)∧f i=false
 | 0=>by simp [livN]
 | n+1=>by
  simp only [livN,List.mem_append,livN_mem f x n]
  constructor
  ·rintro (⟨i,h1,h2,h3⟩ | h)
   ·exact ⟨i,by omega,h2,h3⟩
   ·split at h
    ·simp at h
    ·rename_i hf; exact ⟨n,by omega,by simpa using h,by simpa using hf⟩
  ·rintro ⟨i,h1,h2,h3⟩
   by_cases e:i=n
   ·subst e; right; rw [if_neg (by simp [h3])]; simp [h2]
   ·exact .inl ⟨i,by omega,h2,h3⟩
theorem living_ok (s:GState) (hs:szGState s):state_Living s=some (livN (lostN s.players) s.players.length):=by
 have hl:=hs.1.1
 unfold state_Living
 refine ok_eq (ok_for 0 s.players.length (fun n t=>t=livN (lostN s.players) n) 0 rfl (Nat.zero_le _) (by omega) rfl ?_ ?_)
 ·rintro i t k hi rfl hk
  have hn:=livN_len (lostN s.players) i
  unfold state_Living_l1
  refine ok_brd (fun _=>ok_jn (fun u=>u=livN (lostN s.players) (i+1)) ?_ fun u hu=>hk u hu) fun h=>absurd (show (i:Int)<(s.players.length:Int) by omega) h
  intro k5 h5
  refine ok_ixL i rfl hi (ok_br (fun h=>ok_room (by simp only [List.length_cons,List.length_nil]; omega) (by simp only [List.length_cons,List.length_nil]; omega) (h5 _ ?_)) fun h=>h5 _ ?_)
  ·have:s.players[i].lost=false:=by simpa using h
   simp [livN,lostN_at hi,this]
  ·have:s.players[i].lost=true:=by simpa using h
   simp [livN,lostN_at hi,this]
 ·rintro t k rfl
  unfold state_Living_l1
  exact ok_brf ltF (ok_some rfl)
theorem living2_ok (s:GState) (hs:szGState s):r26_Living s=some (livN (lostN s.players) s.players.length):=living_ok s hs
def othF (L:List Int) (p:Int):List Int:=L.filter (fun x=>decide (p<x)) ++ L.filter (fun x=>decide (x<p))
theorem cmp_ok (x y:Int):cmp_Compare_int x y=some (if x<y then -1 else if y<x then 1 else 0):=by
 unfold cmp_Compare_int cmp_isNaN_int
 refine ok_eq (ok_bnde rfl (ok_bnde rfl (ok_brf (by simp) (ok_brf (by simp) (ok_brd (fun h=>ok_some (by rw [if_pos h])) fun h=>ok_brd (fun h2=>ok_some (by rw [if_neg h,if_pos h2])) fun h2=>ok_some (by rw [if_neg h,if_neg h2]))))))
theorem filter_takeS (L:List Int) (f:Int→Bool) (i:Nat) (h:i<L.length):(L.take (i+1)).filter f=(L.take i).filter f ++ (if f L[i]=true then [L[i]] else []):=by
 rw [takeS L i h,List.filter_append]; congr 1
 by_cases h:f L[i]=true <;> simp [h]
theorem others_ok (s:GState) (p:Int) (hs:szGState s) (hp:0≤p∧p<(s.players.length:Int)):state_Others s p=some (othF (livN (lostN s.players) s.players.length) p):=by
 have hl:=hs.1.1
 have hn:=livN_len (lostN s.players) s.players.length
 unfold state_Others
 refine ok_eq (ok_jn (fun x=>x=p) ?_ ?_)
 ·intro k2 h2
  refine ok_jn (fun b=>b=false) ?_ ?_
  ·intro k5 h5
   exact ok_brd (fun h=>absurd h (by omega)) fun _=>h5 _ (decide_eq_false (by unfold lenI; omega))
  ·rintro b rfl
   exact ok_brf rfl (h2 _ rfl)
 ·intro x hx
  have hx' : x=p:=hx
  subst hx'
  refine ok_bnde (living_ok s hs) ?_
  generalize livN (lostN s.players) s.players.length=L at *
  refine ok_for 0 L.length (fun n t=>t.1=(L.take n).filter (fun y=>decide (y<x))∧t.2=(L.take n).filter (fun y=>decide (x<y))) 0 rfl (Nat.zero_le _) (by omega) ⟨by simp,by simp⟩ ?_ ?_
  ·rintro i ⟨a,b⟩ k hi ⟨rfl,rfl⟩ hk
   have h1:((L.take i).filter (fun y=>decide (y<x))).length≤L.length:=Nat.le_trans (List.length_filter_le _ _) (by simp; omega)
   have h2:((L.take i).filter (fun y=>decide (x<y))).length≤L.length:=Nat.le_trans (List.length_filter_le _ _) (by simp; omega)
   unfold state_Others_l1
   refine ok_brt (ltT hi) (ok_jn (fun u=>u.1=(L.take (i+1)).filter (fun y=>decide (y<x))∧u.2=(L.take (i+1)).filter (fun y=>decide (x<y))) ?_ fun u hu=>hk (u.1,u.2) hu)
   intro k12 h12
   refine ok_ixL i rfl hi (ok_bnde (cmp_ok _ _) ?_)
   rw [filter_takeS _ _ _ hi,filter_takeS _ _ _ hi] at h12
   rcases Int.lt_trichotomy L[i] x with h | h | h
   ·refine ok_brd (fun _=>ok_room (by simp only [List.length_cons,List.length_nil]; omega) (by simp only [List.length_cons,List.length_nil]; omega) (h12 _ ⟨by simp [h],by simp; omega⟩)) fun e=>absurd (by rw [if_pos h]) e
   ·refine ok_brd (fun e=>absurd e (by rw [if_neg (by omega),if_neg (by omega)]; decide)) fun _=>ok_brd (fun e=>absurd e (by rw [if_neg (by omega),if_neg (by omega)]; decide)) fun _=>h12 _ ⟨by simp; omega,by simp; omega⟩
   ·refine ok_brd (fun e=>absurd e (by rw [if_neg (by omega),if_pos h]; decide)) fun _=>ok_brd (fun _=>ok_room (by simp only [List.length_cons,List.length_nil]; omega) (by simp only [List.length_cons,List.length_nil]; omega) (h12 _ ⟨by simp; omega,by simp [h]⟩)) fun e=>absurd (by rw [if_neg (by omega),if_pos h]) e
  ·rintro ⟨a,b⟩ k ⟨rfl,rfl⟩
   have h1:((L.take L.length).filter (fun y=>decide (y<x))).length≤L.length:=Nat.le_trans (List.length_filter_le _ _) (by simp)
   have h2:((L.take L.length).filter (fun y=>decide (x<y))).length≤L.length:=Nat.le_trans (List.length_filter_le _ _) (by simp)
   unfold state_Others_l1
   exact ok_brf ltF (ok_room (by simp only; omega) (by simp only; omega) (ok_some (by simp only [takeA,othF])))
theorem others2_ok (s:GState) (p:Int) (hs:szGState s) (hp:0≤p∧p<(s.players.length:Int)):r26_Others s p=some (othF (livN (lostN s.players) s.players.length) p):=by
 have hl:=hs.1.1
 have hn:=livN_len (lostN s.players) s.players.length
 have hpl:r26_player s p=some true:=by rw [player_ok s p hs]; simp [hp]
 unfold r26_Others
 refine ok_eq (ok_bnde (living2_ok s hs) ?_)
 generalize livN (lostN s.players) s.players.length=L at *
 refine ok_for 0 L.length (fun n t=>t=(L.take n).filter (fun y=>decide (p<y))) 0 rfl (Nat.zero_le _) (by omega) (by simp) ?_ ?_
 ·rintro i t k hi rfl hk
  have h2:((L.take i).filter (fun y=>decide (p<y))).length≤L.length:=Nat.le_trans (List.length_filter_le _ _) (by simp; omega)
  unfold r26_Others_l2
  refine ok_brt (ltT hi) (ok_jn (fun u=>u=(L.take (i+1)).filter (fun y=>decide (p<y))) ?_ fun u hu=>hk u hu)
  intro k6 h6
  rw [filter_takeS _ _ _ hi] at h6
  refine ok_jn (fun b=>b=decide (p<L[i])) ?_ ?_
  ·intro k9 h9
   exact ok_bnde hpl (ok_brt rfl (ok_ixL i rfl hi (h9 _ rfl)))
  ·rintro b rfl
   refine ok_brd (fun h=>ok_ixL i rfl hi (ok_room (by simp only [List.length_cons,List.length_nil]; omega) (by simp only [List.length_cons,List.length_nil]; omega) (h6 _ (by simp [h])))) fun h=>h6 _ (by simp [h])
 ·rintro t k rfl
  unfold r26_Others_l2
  refine ok_brf ltF ?_
  simp only [takeA]
  refine ok_for 0 L.length (fun n t=>t=L.filter (fun y=>decide (p<y)) ++ (L.take n).filter (fun y=>decide (y<p))) 0 rfl (Nat.zero_le _) (by omega) (by simp) ?_ ?_
  ·rintro i t k hi rfl hk
   have h1:(L.filter (fun y=>decide (p<y))).length≤L.length:=List.length_filter_le _ _
   have h2:((L.take i).filter (fun y=>decide (y<p))).length≤L.length:=Nat.le_trans (List.length_filter_le _ _) (by simp; omega)
   unfold r26_Others_l1
   refine ok_brt (ltT hi) (ok_jn (fun u=>u=L.filter (fun y=>decide (p<y)) ++ (L.take (i+1)).filter (fun y=>decide (y<p))) ?_ fun u hu=>hk u hu)
   intro k6 h6
   rw [filter_takeS _ _ _ hi] at h6
   refine ok_jn (fun b=>b=decide (L[i]<p)) ?_ ?_
   ·intro k9 h9
    exact ok_bnde hpl (ok_brf (by simp) (ok_ixL i rfl hi (h9 _ rfl)))
   ·rintro b rfl
    refine ok_brd (fun h=>ok_ixL i rfl hi (ok_room (by simp only [List.length_cons,List.length_nil,List.length_append]; omega) (by simp only [List.length_cons,List.length_nil,List.length_append]; omega) (h6 _ (by simp [h])))) fun h=>h6 _ (by simp [h])
  ·rintro t k rfl
   unfold r26_Others_l1
   exact ok_brf ltF (ok_some (by simp only [takeA,othF]))
def aftF (f:Nat→Bool) (n:Nat) (p:Int):Int:=match othF (livN f n) p with
 | x::_=>x
 | []=>if f p.toNat=true then -1 else p
theorem after_ok (s:GState) (p:Int) (hs:szGState s) (hp:0≤p∧p<(s.players.length:Int)):state_After s p=some (aftF (lostN s.players) s.players.length p):=by
 obtain ⟨q,rfl⟩:=Int.eq_ofNat_of_zero_le hp.1
 have hq:q<s.players.length:=by omega
 unfold state_After
 refine ok_eq (ok_bnde (others_ok s _ hs hp) ?_)
 unfold aftF
 cases h:othF (livN (lostN s.players) s.players.length) (q:Int) with
 | cons x l=>exact ok_brt (by simp [lenI]) (ok_ixL 0 rfl (by simp) (ok_some rfl))
 | nil =>
  refine ok_brf (by simp [lenI]) (ok_brt (by simp) (ok_brt (by simp [lenI]; omega) (ok_ixL q rfl hq (ok_br (fun e=>ok_some ?_) fun e=>ok_some ?_))))
  ·have:s.players[q].lost=false:=by simpa using e
   simp [lostN_at hq,this]
  ·have:s.players[q].lost=true:=by simpa using e
   simp [lostN_at hq,this]
theorem after2_ok (s:GState) (p:Int) (hs:szGState s) (hp:0≤p∧p<(s.players.length:Int)):r26_After s p=some (aftF (lostN s.players) s.players.length p):=by
 have hpl:r26_player s p=some true:=by rw [player_ok s p hs]; simp [hp]
 obtain ⟨q,rfl⟩:=Int.eq_ofNat_of_zero_le hp.1
 have hq:q<s.players.length:=by omega
 unfold r26_After
 refine ok_eq (ok_bnde (others2_ok s _ hs hp) ?_)
 unfold aftF
 cases h:othF (livN (lostN s.players) s.players.length) (q:Int) with
 | cons x l=>exact ok_brt (by simp [lenI]) (ok_ixL 0 rfl (by simp) (ok_some rfl))
 | nil =>
  refine ok_brf (by simp [lenI]) (ok_bnde hpl (ok_brt rfl (ok_ixL q rfl hq (ok_br (fun e=>ok_some ?_) fun e=>ok_some ?_))))
  ·have:s.players[q].lost=false:=by simpa using e
   simp [lostN_at hq,this]
  ·have:s.players[q].lost=true:=by simpa using e
   simp [lostN_at hq,this]
def nxtN (f:Nat→Bool) (m:Nat) (act:Int) (extra:List Int):Nat→Int × List Int
 | 0=>(if 0≤aftF f m act then aftF f m act else act,[])
 | n+1=>if extra.getD n 0∈livN f m then (extra.getD n 0,extra.take n) else nxtN f m act extra n
theorem index_ok (s:List Int) (v:Int) (hs:s.length≤1048576):Ok (fun r=>(v ∉ s∧r=-1)∨∃ n:Nat,r=(n:Int)∧v∈s) (slices_Index_int s v):=by
 unfold slices_Index_int
 refine ok_for1 0 s.length (fun n=>v ∉ s.take n) 0 rfl (Nat.zero_le _) (by omega) (by simp) ?_ ?_
 ·intro i k hi hI hk
  unfold slices_Index_int_l1
  refine ok_brt (ltT hi) (ok_ixL i rfl hi (ok_brd (fun e=>?_) fun e=>hk ?_))
  ·exact ok_some (.inr ⟨i,rfl,e ▸ List.getElem_mem hi⟩)
  ·rw [takeS s i hi]; simp only [List.mem_append,List.mem_singleton]; exact fun h=>h.elim hI e
 ·intro k hI
  unfold slices_Index_int_l1
  exact ok_brf ltF (ok_some (.inl ⟨by rwa [takeA] at hI,rfl⟩))
theorem contains_ok (s:List Int) (v:Int) (hs:s.length≤1048576):slices_Contains_int s v=some (decide (v∈s)):=by
 unfold slices_Contains_int
 refine ok_eq (ok_bnd (index_ok s v hs) ?_)
 rintro r (⟨h,rfl⟩ | ⟨n,rfl,h⟩)
 ·exact ok_some (by simp [h])
 ·exact ok_some (by simp [h])
theorem getD_at {l:List Int} {n:Nat} (h:n<l.length):l.getD n 0=l[n]:=by simp [h]
theorem next_ok (s:GState) (hs:szGState s) (hp:0≤s.active∧s.active<(s.players.length:Int)):turn_next s=some (nxtN (lostN s.players) s.players.length s.active s.extra s.extra.length):=by
 have hl:=hs.1.1
 have he:=hs.2.2.2.2.2.2.2.1
 have hn:=livN_len (lostN s.players) s.players.length
 unfold turn_next
 refine ok_eq (ok_bnde (living_ok s hs) ?_)
 have e0:subI (lenI s.extra) 1=(s.extra.length:Int) - 1:=by unfold lenI; exact subI_eq (by omega) (by omega)
 rw [e0]
 refine ok_loop (fun i=>∃ n:Nat,i=(n:Int) - 1∧n≤s.extra.length∧nxtN (lostN s.players) s.players.length s.active s.extra n=nxtN (lostN s.players) s.players.length s.active s.extra s.extra.length) (fun i=>(i+1).toNat) ⟨s.extra.length,rfl,Nat.le_refl _,rfl⟩ (by show _<18446744073709551616; omega) ?_
 rintro i' k ⟨n,rfl,h1,h2⟩ hk
 unfold turn_next_l1
 cases n with
 | zero =>
  refine ok_brd (fun h=>absurd h (by omega)) fun _=>ok_bnde (after_ok s _ hs hp) ?_
  rw [← h2]
  exact ok_brd (fun h=>ok_some (by simp [nxtN,h])) fun h=>ok_some (by simp [nxtN,h])
 | succ n =>
  have e1:((n+1:Nat):Int) - 1=(n:Int):=by omega
  rw [e1] at hk ⊢
  have hlt:n<s.extra.length:=by omega
  refine ok_brd (fun _=>ok_ixL n rfl hlt (ok_bnde (contains_ok _ _ (by omega)) (ok_brd (fun h=>?_) fun h=>?_))) fun h=>absurd (by omega) h
  ·refine ok_ixL n rfl hlt (ok_slc (i:=0) (j:=n) rfl rfl (by omega) (by omega) (ok_some ?_))
   rw [← h2]
   simp only [nxtN,getD_at hlt,if_pos h]
   simp [subL]
  ·have e2:subI (n:Int) 1=(n:Int) - 1:=subI_eq (by omega) (by omega)
   rw [e2]
   refine hk _ ⟨n,rfl,by omega,?_⟩ (by omega)
   rw [← h2]
   simp only [nxtN,getD_at hlt,if_neg h]
end Go.Proofs.YtddcpnlflncahaaGreat
namespace Go.Proofs.YtddcpnlflncahaaGreat
open Go Go.Pv
def clrP (p:GPlayer):GPlayer:={ p with pool:=zArr6I }
def updN (l:List GPlayer):List GPlayer:=l.map clrP
theorem lostN_upd (l:List GPlayer):lostN (updN l)=lostN l:=by
 funext n
 simp only [lostN,updN,List.getElem?_map]
 cases l[n]? <;> rfl
theorem updN_len (l:List GPlayer):(updN l).length=l.length:=by simp [updN]
def clrI (l:List GPlayer) (i:Nat):List GPlayer:=(l.take i).map clrP ++ l.drop i
theorem clrI_len {l:List GPlayer} {i:Nat} (h:i≤l.length):(clrI l i).length=l.length:=by simp [clrI]; omega
theorem clrI_at {l:List GPlayer} {i:Nat} (h:i<l.length):(clrI l i)[i]?=some l[i]:=by
 have e:((l.take i).map clrP).length=i:=by simp; omega
 rw [clrI,List.getElem?_append_right (by omega),e]; simp [h]
theorem clrI_set {l:List GPlayer} {i:Nat} (h:i<l.length):(clrI l i).set i (clrP l[i])=clrI l (i+1):=by
 have e:((l.take i).map clrP).length=i:=by simp; omega
 rw [clrI,clrI,List.set_append_right _ _ (by omega),e,List.drop_eq_getElem_cons h,takeS l i h]
 simp only [List.map_append,List.map_cons,List.map_nil,List.set_cons_zero,Nat.sub_self,List.append_assoc,List.cons_append,List.nil_append]
theorem clrI_all (l:List GPlayer):clrI l l.length=updN l:=by simp [clrI,updN]
theorem szUpd {l:List GPlayer} (h:szL szGPlayer l):szL szGPlayer (updN l):=by
 refine ⟨by rw [updN_len]; exact h.1,fun x hx=>?_⟩
 obtain ⟨y,hy,rfl⟩:=List.mem_map.1 hx
 exact h.2 y hy
def figO (o:GObject):Bool:=decide (o.zone=0) && decide (0≤o.attack)
def figN (l:List GObject):Bool:=l.any figO
theorem fight1_ok (o:GObject):turn_fighting_1 o=some (figO o):=by
 unfold turn_fighting_1 figO
 exact ok_eq (ok_brd (fun h=>ok_some (by simp [h])) fun h=>ok_some (by simp [h]))
theorem any_takeS {l:List GObject} {i:Nat} (h:i<l.length):(l.take (i+1)).any figO=((l.take i).any figO || figO l[i]):=by rw [takeS l i h,List.any_append]; simp only [List.any_cons,List.any_nil,Bool.or_false]
theorem fighting_ok (s:GState) (hs:szGState s):turn_fighting s=some (figN s.objects):=by
 have hl:=hs.2.1.1
 unfold turn_fighting slices_ContainsFunc_object
 refine ok_eq (ok_bnd (R:=fun r=>r=figN s.objects) (ok_bnd (R:=fun r=>decide (0≤r)=figN s.objects) ?_ fun r h=>ok_some h) fun r h=>ok_some h)
 unfold slices_IndexFunc_object
 refine ok_for1 0 s.objects.length (fun n=>(s.objects.take n).any figO=false) 0 rfl (Nat.zero_le _) (by omega) (by simp) ?_ ?_
 ·intro i k hi hI hk
  unfold slices_IndexFunc_object_l1
  refine ok_brt (ltT hi) (ok_ixL i rfl hi (ok_bnde (fight1_ok _) (ok_br (fun e=>ok_some ?_) fun e=>hk ?_)))
  ·have:figN s.objects=true:=List.any_eq_true.2 ⟨_,List.getElem_mem hi,e⟩
   rw [this]; simp
  ·rw [any_takeS hi,hI,e]; rfl
 ·intro k hI
  unfold slices_IndexFunc_object_l1
  rw [takeA] at hI
  exact ok_brf ltF (ok_some (by rw [show figN s.objects=false from hI]; decide))
theorem combat_ok (s:GState) (hs:szGState s):r48_combat s=some (figN s.objects):=by
 have hl:=hs.2.1.1
 unfold r48_combat
 refine ok_eq (ok_for1 0 s.objects.length (fun n=>(s.objects.take n).any figO=false) 0 rfl (Nat.zero_le _) (by omega) (by simp) ?_ ?_)
 ·intro i k hi hI hk
  unfold r48_combat_l1
  refine ok_brt (ltT hi) (ok_jn (fun b=>b=figO s.objects[i]) ?_ ?_)
  ·intro k5 h5
   exact ok_ixL i rfl hi (ok_brd (fun h=>ok_ixL i rfl hi (h5 _ (by simp [figO,h]))) fun h=>h5 _ (by simp [figO,h]))
  ·rintro b rfl
   refine ok_br (fun e=>ok_some ?_) fun e=>hk ?_
   ·exact (List.any_eq_true.2 ⟨_,List.getElem_mem hi,e⟩:figN s.objects=true).symm
   ·rw [any_takeS hi,hI,e]; rfl
 ·intro k hI
  unfold r48_combat_l1
  rw [takeA] at hI
  exact ok_brf ltF (ok_some (show figN s.objects=false from hI).symm)
def drawF (s:GState):GState:=if s.over=0 then { s with over:=2,winner:=-1 } else s
theorem draws_ok (s:GState) (hs:szGState s):state_Draws_o s=some (drawF s):=by
 unfold state_Draws_o drawF
 refine ok_eq (ok_bnde (zone_Copy_ok s hs) (ok_brd (fun h=>ok_some ?_) fun h=>ok_some ?_))
 ·rw [if_pos h]
 ·rw [if_neg h]
theorem draws2_ok (s:GState) (hs:szGState s):r26_Draws_o s=some (drawF s):=by
 unfold r26_Draws_o drawF
 refine ok_eq (ok_bnde (r25_Copy_ok s hs) (ok_brd (fun h=>ok_some ?_) fun h=>ok_some ?_))
 ·rw [if_pos h]
 ·rw [if_neg h]
def nx (s:GState):Int × List Int:=nxtN (lostN s.players) s.players.length s.active s.extra s.extra.length
def nextF (s:GState):GState :=
 if s.step=10 then
  if 500≤s.turn then drawF { s with players:=updN s.players,begun:=false,priority:=s.active,passes:=0 }
  else { s with players:=updN s.players,turn:=s.turn+1,active:=(nx s).1,step:=0,begun:=false,priority:=(nx s).1,passes:=0,extra:=(nx s).2 }
 else { s with players:=updN s.players,step:=if s.step=4∧figN s.objects=false then 8 else s.step+1,begun:=false,priority:=s.active,passes:=0 }
theorem turn_Next_ok (s:GState) (hs:szGState s) (hv:ValidS s):turn_Next s=some (nextF s):=by
 have hl:=hs.1.1
 have ht:=hv.turn
 have hst:=hv.step
 unfold turn_Next
 refine ok_eq (ok_bnde (zone_Copy_ok s hs) ?_)
 refine ok_for 0 s.players.length (fun i t=>t=clrI s.players i) 0 rfl (Nat.zero_le _) (by omega) (by simp [clrI]) ?_ ?_
 ·rintro i t k hi rfl hk
  unfold turn_Next_l1
  exact ok_brt (ltT hi) (ok_ixO i rfl (by rw [clrI_len (by omega)]; exact hi) (ok_lt (ok_bnde (clrI_at hi) (hk _ (clrI_set hi)))))
 ·rintro t k rfl
  unfold turn_Next_l1
  rw [clrI_all]
  refine ok_brf ltF (ok_jn (fun b=>b=decide (s.step=10∧500≤s.turn)) ?_ ?_)
  ·intro k9 h9
   exact ok_brd (fun h=>h9 _ (by simp [h])) fun h=>h9 _ (by simp [h])
  ·rintro b rfl
   refine ok_brd (fun h=>?_) fun h=>ok_brd (fun h1=>?_) fun h1=>?_
   ·refine ok_bnde (draws_ok _ ⟨szUpd hs.1,hs.2⟩) (ok_some ?_)
    unfold nextF
    rw [if_pos h.1,if_pos h.2]
   ·have h2:¬ 500≤s.turn:=fun e=>h ⟨h1,e⟩
    refine ok_bnde (next_ok _ ⟨szUpd hs.1,hs.2⟩ (by simp only [updN_len]; exact hv.act)) (ok_some ?_)
    unfold nextF
    rw [if_pos h1,if_neg h2,addI_eq (by omega) (by omega)]
    simp only [lostN_upd,updN_len,nx]
   ·refine ok_jn (fun b=>b=decide (s.step=4∧figN s.objects=false)) ?_ ?_
    ·intro k14 h14
     refine ok_brd (fun e=>ok_bnde (fighting_ok _ ⟨szUpd hs.1,hs.2⟩) (h14 _ ?_)) fun e=>h14 _ (by simp [e])
     show (figN s.objects == false)=_
     cases figN s.objects <;> simp [e]
    ·rintro b rfl
     refine ok_brd (fun e=>ok_some ?_) fun e=>ok_some ?_
     ·unfold nextF; rw [if_neg h1,if_pos e]
     ·unfold nextF; rw [if_neg h1,if_neg e,addI_eq (by omega) (by omega)]
theorem liv_iff {s:GState} {x:Nat} (h:x<s.players.length):((x:Int)∈livN (lostN s.players) s.players.length) ↔ s.players[x].lost=false:=by
 rw [livN_mem]
 constructor
 ·rintro ⟨i,h1,h2,h3⟩
  have:i=x:=by omega
  subst this
  rwa [lostN_at h] at h3
 ·intro e
  exact ⟨x,h,rfl,by rw [lostN_at h]; exact e⟩
theorem r48_Next_ok (s:GState) (hs:szGState s) (hv:ValidS s):r48_Next s=some (nextF s):=by
 have hl:=hs.1.1
 have he:=hs.2.2.2.2.2.2.2.1
 have ht:=hv.turn
 have hst:=hv.step
 unfold r48_Next
 refine ok_eq (ok_bnde (r25_Copy_ok s hs) ?_)
 refine ok_for 0 s.players.length (fun i t=>t=clrI s.players i) 0 rfl (Nat.zero_le _) (by omega) (by simp [clrI]) ?_ ?_
 ·rintro i t k hi rfl hk
  unfold r48_Next_l2
  have hL:=clrI_len (Nat.le_of_lt hi)
  exact ok_brt (by simp only [lenI,hL]; simp; omega) (ok_ixO i rfl (by rw [hL]; exact hi) (ok_lt (ok_bnde (clrI_at hi) (hk _ (clrI_set hi)))))
 ·rintro t k rfl
  unfold r48_Next_l2
  rw [clrI_all]
  refine ok_brf (by simp only [lenI,updN_len]; simp) (ok_jn (fun b=>b=decide (s.step=4∧figN s.objects=false)) ?_ ?_)
  ·intro k9 h9
   refine ok_brd (fun e=>ok_bnde (combat_ok _ hs) (h9 _ ?_)) fun e=>h9 _ (by simp [e])
   cases figN s.objects <;> simp [e]
  ·rintro b rfl
   refine ok_brd (fun e=>ok_some ?_) fun e=>ok_brn (fun h1=>ok_some ?_) fun h1=>ok_brd (fun h2=>?_) fun h2=>?_
   ·have h1:¬ s.step=10:=by rw [e.1]; decide
    unfold nextF; rw [if_neg h1,if_pos e]
   ·unfold nextF; rw [if_neg h1,if_neg e,addI_eq (by omega) (by omega)]
   ·refine ok_bnde (draws2_ok _ ⟨szUpd hs.1,hs.2⟩) (ok_some ?_)
    unfold nextF
    rw [if_pos h1,if_pos h2]
   ·refine ok_bnde (after2_ok s _ hs hv.act) (ok_jn (fun x=>x=if 0≤aftF (lostN s.players) s.players.length s.active then aftF (lostN s.players) s.players.length s.active else s.active) ?_ ?_)
    ·intro k15 h15
     exact ok_brd (fun h=>h15 _ (by rw [if_neg (by omega)])) fun h=>h15 _ (by rw [if_pos (by omega)])
    ·intro x hx
     refine ok_jn (fun y=>y=nx s) ?_ ?_
     ·intro k18 h18
      have e0:subI (lenI s.extra) 1=(s.extra.length:Int) - 1:=by unfold lenI; exact subI_eq (by omega) (by omega)
      rw [e0]
      refine ok_loop (fun i=>∃ n:Nat,i=(n:Int) - 1∧n≤s.extra.length∧nxtN (lostN s.players) s.players.length s.active s.extra n=nx s) (fun i=>(i+1).toNat) ⟨s.extra.length,rfl,Nat.le_refl _,rfl⟩ (by show _<18446744073709551616; omega) ?_
      rintro i' k ⟨n,rfl,h1,h2⟩ hk
      unfold r48_Next_l1
      cases n with
      | zero =>
       refine ok_brd (fun h=>absurd h (by omega)) fun _=>h18 _ ?_
       rw [← h2,hx]
       rfl
      | succ n =>
       have e1:((n+1:Nat):Int) - 1=(n:Int):=by omega
       rw [e1] at hk ⊢
       have hlt:n<s.extra.length:=by omega
       have hx:=hv.ext _ (List.getElem_mem hlt)
       obtain ⟨m,hm⟩:=Int.eq_ofNat_of_zero_le hx.1
       have hm2:m<s.players.length:=by omega
       have hlv:=liv_iff (s:=s) hm2
       rw [← hm] at hlv
       refine ok_brd (fun _=>ok_ixL n rfl hlt (ok_ixL m hm hm2 (ok_br (fun h=>?_) fun h=>?_))) fun h=>absurd (by omega) h
       ·have h' : s.players[m].lost=false:=by simpa using h
        refine ok_ixL n rfl hlt (ok_slc (i:=0) (j:=n) rfl rfl (by omega) (by omega) (ok_room ?_ ?_ (h18 _ ?_)))
        ·simp only [subL,List.length_take,List.length_drop]; omega
        ·simp only [subL,List.length_take,List.length_drop]; omega
        ·rw [← h2]
         simp only [nxtN,getD_at hlt,if_pos (hlv.2 h')]
         simp [subL]
       ·have h' : ¬ s.players[m].lost=false:=by simpa using h
        have e2:subI (n:Int) 1=(n:Int) - 1:=subI_eq (by omega) (by omega)
        rw [e2]
        refine hk _ ⟨n,rfl,by omega,?_⟩ (by omega)
        rw [← h2]
        simp only [nxtN,getD_at hlt,if_neg (fun e=>h' (hlv.1 e))]
     ·rintro y rfl
      refine ok_some ?_
      unfold nextF
      rw [if_pos h1,if_neg h2,addI_eq (by omega) (by omega)]
theorem nx_len (s:GState):(nx s).2.length≤s.extra.length:=by
 unfold nx
 have key:∀ n,(nxtN (lostN s.players) s.players.length s.active s.extra n).2.length≤s.extra.length:=by
  intro n
  induction n with
  | zero=>simp [nxtN]
  | succ n ih =>
   unfold nxtN
   split
   ·simp only [List.length_take]; omega
   ·exact ih
 exact key _
theorem next_sz {s:GState} (hs:szGState s):szGState (nextF s):=by
 unfold nextF
 split
 ·split
  ·unfold drawF; split <;> exact ⟨szUpd hs.1,hs.2⟩
  ·obtain ⟨p1,p2,p3,p4,p5,p6,p7,p8⟩:=hs
   exact ⟨szUpd p1,p2,p3,p4,p5,p6,p7,Nat.le_trans (nx_len s) p8.1,fun _ _=>trivial⟩
 ·exact ⟨szUpd hs.1,hs.2⟩
theorem alive_ok:law48_alive=some true:=by kernel_rfl
theorem small_ok (cards:List GCard) (s:GState) (hc:szL szGCard cards) (hs:szGState s):Ok (fun r=>r=true→ValidS s) (law48_small cards s):=by
 have hl:=hs.1.1
 have no:((false:Bool)=true→ValidS s):=fun e=>by cases e
 unfold law48_small
 refine ok_jn (fun _=>True) ?_ ?_
 ·intro k h
  exact ok_br (fun _=>h _ trivial) fun _=>ok_br (fun _=>h _ trivial) fun _=>ok_br (fun _=>h _ trivial) fun _=>ok_br (fun _=>h _ trivial) fun _=>ok_br (fun _=>h _ trivial) fun _=>ok_br (fun _=>h _ trivial) fun _=>ok_br (fun _=>h _ trivial) fun _=>ok_br (fun _=>h _ trivial) fun _=>h _ trivial
 ·intro b _
  refine ok_br (fun _=>ok_some no) fun _=>ok_all s.players hl ?_ ?_
  ·intro i k hi hk
   unfold law48_small_l1
   exact ok_brt (ltT hi) (ok_ixL i rfl hi (ok_ixL i rfl hi (ok_ixL i rfl hi (ok_lt (ok_br (fun _=>ok_some no) fun _=>hk)))))
  ·intro k
   unfold law48_small_l1
   exact ok_brf ltF (ok_bnd (tot_r22_Check cards hc) fun _ _=>ok_br (fun _=>ok_bnd (Is_ok cards s hc hs) fun r h=>ok_some h) fun _=>ok_some no)
theorem TurnNext_true (cards:List GCard) (s:GState) (hc:szL szGCard cards) (hs:szGState s):law48_TurnNext cards s=some true:=by
 unfold law48_TurnNext
 refine ok_eq (ok_bnd (small_ok cards s hc hs) fun r hr=>ok_br (fun _=>ok_bnde alive_ok (ok_some rfl)) fun h=>?_)
 have hv:=hr (by simpa using h)
 exact ok_bnde (turn_Next_ok s hs hv) (ok_bnde (r48_Next_ok s hs hv) (ok_bnde (same_state _ (next_sz hs)) (ok_brt rfl (ok_bnde alive_ok (ok_some rfl)))))
theorem TurnLast_true (cards:List GCard) (s:GState) (hc:szL szGCard cards) (hs:szGState s):law48_TurnLast cards s=some true:=by
 unfold law48_TurnLast
 refine ok_eq (ok_jn (fun b=>b=false→ValidS s∧s.over=0) ?_ ?_)
 ·intro k2 h2
  refine ok_bnd (small_ok cards s hc hs) fun r hr=>ok_br (fun _=>h2 _ (fun e=>by cases e)) fun h=>h2 _ fun e=>⟨hr (by simpa using h),by simpa using e⟩
 ·intro b hb
  refine ok_br (fun _=>ok_bnde alive_ok (ok_some rfl)) fun h=>?_
  obtain ⟨hv,ho⟩:=hb h
  have hv2:ValidS { s with turn:=500,step:=10 }:=⟨hv.act,hv.ext,by constructor <;> simp,by constructor <;> simp,hv.over⟩
  refine ok_bnde (turn_Next_ok _ hs hv2) ?_
  have e:nextF { s with turn:=500,step:=10 }={ s with turn:=500,step:=10,players:=updN s.players,begun:=false,priority:=s.active,passes:=0,over:=2,winner:=-1 }:=by
   unfold nextF drawF
   rw [if_pos rfl,if_pos (by simp),if_pos ho]
  rw [e]
  exact ok_brt rfl (ok_brt rfl (ok_brt rfl (ok_brt rfl (ok_brt (by simp) (ok_bnde alive_ok (ok_some rfl))))))
theorem TurnSteps_true (cards:List GCard) (s:GState) (hc:szL szGCard cards) (hs:szGState s):law48_TurnSteps cards s=some true:=by
 unfold law48_TurnSteps
 refine ok_eq (ok_jn (fun b=>b=false→ValidS s∧s.turn<500) ?_ ?_)
 ·intro k2 h2
  exact ok_bnd (small_ok cards s hc hs) fun r hr=>ok_br (fun _=>h2 _ (fun e=>by cases e)) fun h=>ok_brd (fun _=>h2 _ (fun e=>by cases e)) fun h3=>h2 _ fun e=>⟨hr (by simpa using h),by omega⟩
 ·intro b hb
  refine ok_br (fun _=>ok_bnde alive_ok (ok_some rfl)) fun h=>?_
  obtain ⟨hv,ht⟩:=hb h
  have ht0:=hv.turn
  refine ok_loop (fun x=>∃ n:Nat,x.2=(n:Int)∧szGState x.1∧ValidS x.1∧x.1.turn=s.turn∧x.1.active=s.active∧(n:Int)≤x.1.step) (fun x=>11 - x.2.toNat) ⟨0,rfl,hs,hv,rfl,rfl,hv.step.1⟩ (by show 11 - _<18446744073709551616; omega) ?_
  rintro ⟨t,n'⟩ k ⟨n,e,hts,htv,h1,h2,h3⟩ hk
  simp only at e hts htv h1 h2 h3
  subst e
  have hst:=htv.step
  have e1:addI s.turn 1=s.turn+1:=addI_eq (by omega) (by omega)
  unfold law48_TurnSteps_l1
  refine ok_brt (by simp; omega) (ok_bnde (turn_Next_ok t hts htv) ?_)
  by_cases h10:t.step=10
  ·have e:nextF t={ t with players:=updN t.players,turn:=t.turn+1,active:=(nx t).1,step:=0,begun:=false,priority:=(nx t).1,passes:=0,extra:=(nx t).2 }:=by
    unfold nextF; rw [if_pos h10,if_neg (by omega)]
   rw [e,e1]
   refine ok_brt (by simp [h1]) (ok_jn (fun b=>b=true) (fun k11 h11=>?_) fun b hb=>ok_some hb)
   exact ok_brt rfl (ok_brt (by simp [h10]) (ok_brt (by simp) (ok_bnde alive_ok (h11 _ rfl))))
  ·have e:nextF t={ t with players:=updN t.players,step:=if t.step=4∧figN t.objects=false then 8 else t.step+1,begun:=false,priority:=t.active,passes:=0 }:=by
    unfold nextF; rw [if_neg h10]
   have hs8:t.step<(nextF t).step∧(nextF t).step≤10:=by
    rw [e]; simp only; split <;> omega
   have hsz:=next_sz hts
   have hv' : ValidS (nextF t):=by
    refine ⟨?_,?_,by omega,?_,?_⟩
    ·rw [e]; simp only [updN_len]; exact htv.act
    ·rw [e]; simp only [updN_len]; exact htv.ext
    ·rw [e]; exact htv.turn
    ·rw [e]; exact htv.over
   have ht' : (nextF t).turn=s.turn:=by rw [e]; exact h1
   have ha' : (nextF t).active=s.active:=by rw [e]; exact h2
   generalize nextF t=u at *
   rw [e1]
   refine ok_brf (by simp; omega) (ok_jn (fun b=>b=false) (fun k15 h15=>?_) ?_)
   ·exact ok_brf (by simp [ht']) (ok_brf (by simp; omega) (h15 _ (by simp [ha'])))
   ·rintro b rfl
    refine ok_brf rfl (hk _ ⟨n+1,addI_nat (by omega),hsz,hv',ht',ha',by show ((n+1:Nat):Int)≤u.step; omega⟩ ?_)
    rw [addI_nat (by omega)]
    simp only [Int.toNat_natCast]; omega
end Go.Proofs.YtddcpnlflncahaaGreat
namespace Go.Proofs.YtddcpnlflncahaaGreat
open Go Go.Pv
def ok9 (s:ByteArray):Prop:=s.size≤1048576
theorem sT9 {cs:List PV} (h:Sn Tryz.prog 1048576 9 cs):∃ x:ByteArray,cs=eS x∧ok9 x:=by
 obtain ⟨n,e,hw⟩:=h.inv_str Tryz.underlying9
 exact ⟨n,e,hw⟩
def ok4 (_:Bool):Prop:=True
theorem sT4 {cs:List PV} (h:Sn Tryz.prog 1048576 4 cs):∃ x:Bool,cs=eB x∧ok4 x:=by
 obtain ⟨n,e⟩:=h.inv_bool Tryz.underlying4
 exact ⟨n,e,trivial⟩
def ok3 (x:Int):Prop:=(Lit.int .i64 x).wf=true
theorem sT3 {cs:List PV} (h:Sn Tryz.prog 1048576 3 cs):∃ x:Int,cs=(eI .i64) x∧ok3 x:=by
 obtain ⟨n,e,hw⟩:=h.inv_int Tryz.underlying3
 exact ⟨n,e,hw⟩
def ok36 (x:Arr5 Int):Prop:=ok3 x.a0∧ok3 x.a1∧ok3 x.a2∧ok3 x.a3∧ok3 x.a4
theorem sT36 {cs:List PV} (h:Sn Tryz.prog 1048576 36 cs):∃ x:Arr5 Int,cs=(eArr5 (eI .i64)) x∧ok36 x:=by
 have h:=h.inv_arr Tryz.underlying36
 obtain ⟨a0,b0,rfl,k0,h⟩:=h.inv_cons
 obtain ⟨a1,b1,rfl,k1,h⟩:=h.inv_cons
 obtain ⟨a2,b2,rfl,k2,h⟩:=h.inv_cons
 obtain ⟨a3,b3,rfl,k3,h⟩:=h.inv_cons
 obtain ⟨a4,b4,rfl,k4,h⟩:=h.inv_cons
 obtain rfl:=h.inv_nil
 obtain ⟨n0,rfl,w0⟩:=sT3 k0
 obtain ⟨n1,rfl,w1⟩:=sT3 k1
 obtain ⟨n2,rfl,w2⟩:=sT3 k2
 obtain ⟨n3,rfl,w3⟩:=sT3 k3
 obtain ⟨n4,rfl,w4⟩:=sT3 k4
 exact ⟨⟨n0,n1,n2,n3,n4⟩,rfl,w0,w1,w2,w3,w4⟩
def ok38 (x:GCost):Prop:=ok3 x.generic∧ok3 x.x∧ok36 x.color
theorem sT38 {cs:List PV} (h:Sn Tryz.prog 1048576 38 cs):∃ x:GCost,cs=(eGCost mapE) x∧ok38 x:=by
 have h:=h.inv_struct Tryz.underlying38
 obtain ⟨a0,b0,rfl,k0,h⟩:=h.inv_cons
 obtain ⟨a1,b1,rfl,k1,h⟩:=h.inv_cons
 obtain ⟨a2,b2,rfl,k2,h⟩:=h.inv_cons
 obtain rfl:=h.inv_nil
 obtain ⟨n0,rfl,w0⟩:=sT3 k0
 obtain ⟨n1,rfl,w1⟩:=sT3 k1
 obtain ⟨n2,rfl,w2⟩:=sT36 k2
 exact ⟨⟨n0,n1,n2⟩,rfl,w0,w1,w2⟩
def ok102 (l:List ByteArray):Prop:=l.length≤1048576∧∀ x∈l,ok9 x
theorem sT102 {cs:List PV} (h:Sn Tryz.prog 1048576 102 cs):∃ x:List ByteArray,cs=[.sl 1 (mapE.m ByteArray eS x) false]∧ok102 x:=by
 obtain ⟨es,e,h1,h2⟩:=h.inv_slice Tryz.underlying102
 have hc:Tryz.prog.cellsOf 9=1:=by kernel_rfl
 rw [hc] at e
 obtain ⟨l,e2,h3,h4⟩:=rows_of fun r hr=>sT9 (h1 r hr)
 exact ⟨l,by rw [e,e2]; rfl,by omega,h3⟩
def ok104 (x:GLine):Prop:=ok3 x.super∧ok3 x.types∧ok102 x.subs
theorem sT104 {cs:List PV} (h:Sn Tryz.prog 1048576 104 cs):∃ x:GLine,cs=(eGLine mapE) x∧ok104 x:=by
 have h:=h.inv_struct Tryz.underlying104
 obtain ⟨a0,b0,rfl,k0,h⟩:=h.inv_cons
 obtain ⟨a1,b1,rfl,k1,h⟩:=h.inv_cons
 obtain ⟨a2,b2,rfl,k2,h⟩:=h.inv_cons
 obtain rfl:=h.inv_nil
 obtain ⟨n0,rfl,w0⟩:=sT3 k0
 obtain ⟨n1,rfl,w1⟩:=sT3 k1
 obtain ⟨n2,rfl,w2⟩:=sT102 k2
 exact ⟨⟨n0,n1,n2⟩,rfl,w0,w1,w2⟩
def ok124 (x:GBound):Prop:=ok3 x.kind∧ok3 x.n
theorem sT124 {cs:List PV} (h:Sn Tryz.prog 1048576 124 cs):∃ x:GBound,cs=(eGBound mapE) x∧ok124 x:=by
 have h:=h.inv_struct Tryz.underlying124
 obtain ⟨a0,b0,rfl,k0,h⟩:=h.inv_cons
 obtain ⟨a1,b1,rfl,k1,h⟩:=h.inv_cons
 obtain rfl:=h.inv_nil
 obtain ⟨n0,rfl,w0⟩:=sT3 k0
 obtain ⟨n1,rfl,w1⟩:=sT3 k1
 exact ⟨⟨n0,n1⟩,rfl,w0,w1⟩
def ok126 (x:GFilter):Prop:=ok3 x.zone∧ok3 x.who∧ok3 x.self∧ok3 x.types∧ok3 x.notTypes∧ok3 x.colors∧ok3 x.notColors∧ok9 x.sub∧ok3 x.keys∧ok3 x.tap∧ok124 x.power∧ok124 x.tough∧ok124 x.value
theorem sT126 {cs:List PV} (h:Sn Tryz.prog 1048576 126 cs):∃ x:GFilter,cs=(eGFilter mapE) x∧ok126 x:=by
 have h:=h.inv_struct Tryz.underlying126
 obtain ⟨a0,b0,rfl,k0,h⟩:=h.inv_cons
 obtain ⟨a1,b1,rfl,k1,h⟩:=h.inv_cons
 obtain ⟨a2,b2,rfl,k2,h⟩:=h.inv_cons
 obtain ⟨a3,b3,rfl,k3,h⟩:=h.inv_cons
 obtain ⟨a4,b4,rfl,k4,h⟩:=h.inv_cons
 obtain ⟨a5,b5,rfl,k5,h⟩:=h.inv_cons
 obtain ⟨a6,b6,rfl,k6,h⟩:=h.inv_cons
 obtain ⟨a7,b7,rfl,k7,h⟩:=h.inv_cons
 obtain ⟨a8,b8,rfl,k8,h⟩:=h.inv_cons
 obtain ⟨a9,b9,rfl,k9,h⟩:=h.inv_cons
 obtain ⟨a10,b10,rfl,k10,h⟩:=h.inv_cons
 obtain ⟨a11,b11,rfl,k11,h⟩:=h.inv_cons
 obtain ⟨a12,b12,rfl,k12,h⟩:=h.inv_cons
 obtain rfl:=h.inv_nil
 obtain ⟨n0,rfl,w0⟩:=sT3 k0
 obtain ⟨n1,rfl,w1⟩:=sT3 k1
 obtain ⟨n2,rfl,w2⟩:=sT3 k2
 obtain ⟨n3,rfl,w3⟩:=sT3 k3
 obtain ⟨n4,rfl,w4⟩:=sT3 k4
 obtain ⟨n5,rfl,w5⟩:=sT3 k5
 obtain ⟨n6,rfl,w6⟩:=sT3 k6
 obtain ⟨n7,rfl,w7⟩:=sT9 k7
 obtain ⟨n8,rfl,w8⟩:=sT3 k8
 obtain ⟨n9,rfl,w9⟩:=sT3 k9
 obtain ⟨n10,rfl,w10⟩:=sT124 k10
 obtain ⟨n11,rfl,w11⟩:=sT124 k11
 obtain ⟨n12,rfl,w12⟩:=sT124 k12
 exact ⟨⟨n0,n1,n2,n3,n4,n5,n6,n7,n8,n9,n10,n11,n12⟩,rfl,w0,w1,w2,w3,w4,w5,w6,w7,w8,w9,w10,w11,w12⟩
def ok159 (x:GMod):Prop:=ok3 x.kind∧ok3 x.n∧ok3 x.m∧ok9 x.sub∧ok126 x.filter
theorem sT159 {cs:List PV} (h:Sn Tryz.prog 1048576 159 cs):∃ x:GMod,cs=(eGMod mapE) x∧ok159 x:=by
 have h:=h.inv_struct Tryz.underlying159
 obtain ⟨a0,b0,rfl,k0,h⟩:=h.inv_cons
 obtain ⟨a1,b1,rfl,k1,h⟩:=h.inv_cons
 obtain ⟨a2,b2,rfl,k2,h⟩:=h.inv_cons
 obtain ⟨a3,b3,rfl,k3,h⟩:=h.inv_cons
 obtain ⟨a4,b4,rfl,k4,h⟩:=h.inv_cons
 obtain rfl:=h.inv_nil
 obtain ⟨n0,rfl,w0⟩:=sT3 k0
 obtain ⟨n1,rfl,w1⟩:=sT3 k1
 obtain ⟨n2,rfl,w2⟩:=sT3 k2
 obtain ⟨n3,rfl,w3⟩:=sT9 k3
 obtain ⟨n4,rfl,w4⟩:=sT126 k4
 exact ⟨⟨n0,n1,n2,n3,n4⟩,rfl,w0,w1,w2,w3,w4⟩
def ok127 (l:List GMod):Prop:=l.length≤1048576∧∀ x∈l,ok159 x
theorem sT127 {cs:List PV} (h:Sn Tryz.prog 1048576 127 cs):∃ x:List GMod,cs=[.sl 20 (mapE.m GMod (eGMod mapE) x) false]∧ok127 x:=by
 obtain ⟨es,e,h1,h2⟩:=h.inv_slice Tryz.underlying127
 have hc:Tryz.prog.cellsOf 159=20:=by kernel_rfl
 rw [hc] at e
 obtain ⟨l,e2,h3,h4⟩:=rows_of fun r hr=>sT159 (h1 r hr)
 exact ⟨l,by rw [e,e2]; rfl,by omega,h3⟩
def ok40 (x:GPrice):Prop:=ok38 x.mana∧ok4 x.tap∧ok4 x.sacrifice∧ok3 x.life
theorem sT40 {cs:List PV} (h:Sn Tryz.prog 1048576 40 cs):∃ x:GPrice,cs=(eGPrice mapE) x∧ok40 x:=by
 have h:=h.inv_struct Tryz.underlying40
 obtain ⟨a0,b0,rfl,k0,h⟩:=h.inv_cons
 obtain ⟨a1,b1,rfl,k1,h⟩:=h.inv_cons
 obtain ⟨a2,b2,rfl,k2,h⟩:=h.inv_cons
 obtain ⟨a3,b3,rfl,k3,h⟩:=h.inv_cons
 obtain rfl:=h.inv_nil
 obtain ⟨n0,rfl,w0⟩:=sT38 k0
 obtain ⟨n1,rfl,w1⟩:=sT4 k1
 obtain ⟨n2,rfl,w2⟩:=sT4 k2
 obtain ⟨n3,rfl,w3⟩:=sT3 k3
 exact ⟨⟨n0,n1,n2,n3⟩,rfl,w0,w1,w2,w3⟩
def ok129 (x:GTrigger):Prop:=ok3 x.when∧ok3 x.who∧ok126 x.filter
theorem sT129 {cs:List PV} (h:Sn Tryz.prog 1048576 129 cs):∃ x:GTrigger,cs=(eGTrigger mapE) x∧ok129 x:=by
 have h:=h.inv_struct Tryz.underlying129
 obtain ⟨a0,b0,rfl,k0,h⟩:=h.inv_cons
 obtain ⟨a1,b1,rfl,k1,h⟩:=h.inv_cons
 obtain ⟨a2,b2,rfl,k2,h⟩:=h.inv_cons
 obtain rfl:=h.inv_nil
 obtain ⟨n0,rfl,w0⟩:=sT3 k0
 obtain ⟨n1,rfl,w1⟩:=sT3 k1
 obtain ⟨n2,rfl,w2⟩:=sT126 k2
 exact ⟨⟨n0,n1,n2⟩,rfl,w0,w1,w2⟩
def ok199 (x:GSpec):Prop:=ok4 x.player∧ok4 x.object∧ok126 x.filter
theorem sT199 {cs:List PV} (h:Sn Tryz.prog 1048576 199 cs):∃ x:GSpec,cs=(eGSpec mapE) x∧ok199 x:=by
 have h:=h.inv_struct Tryz.underlying199
 obtain ⟨a0,b0,rfl,k0,h⟩:=h.inv_cons
 obtain ⟨a1,b1,rfl,k1,h⟩:=h.inv_cons
 obtain ⟨a2,b2,rfl,k2,h⟩:=h.inv_cons
 obtain rfl:=h.inv_nil
 obtain ⟨n0,rfl,w0⟩:=sT4 k0
 obtain ⟨n1,rfl,w1⟩:=sT4 k1
 obtain ⟨n2,rfl,w2⟩:=sT126 k2
 exact ⟨⟨n0,n1,n2⟩,rfl,w0,w1,w2⟩
def ok130 (l:List GSpec):Prop:=l.length≤1048576∧∀ x∈l,ok199 x
theorem sT130 {cs:List PV} (h:Sn Tryz.prog 1048576 130 cs):∃ x:List GSpec,cs=[.sl 18 (mapE.m GSpec (eGSpec mapE) x) false]∧ok130 x:=by
 obtain ⟨es,e,h1,h2⟩:=h.inv_slice Tryz.underlying130
 have hc:Tryz.prog.cellsOf 199=18:=by kernel_rfl
 rw [hc] at e
 obtain ⟨l,e2,h3,h4⟩:=rows_of fun r hr=>sT199 (h1 r hr)
 exact ⟨l,by rw [e,e2]; rfl,by omega,h3⟩
def ok183 (x:GRef):Prop:=ok3 x.kind∧ok3 x.n∧ok126 x.filter
theorem sT183 {cs:List PV} (h:Sn Tryz.prog 1048576 183 cs):∃ x:GRef,cs=(eGRef mapE) x∧ok183 x:=by
 have h:=h.inv_struct Tryz.underlying183
 obtain ⟨a0,b0,rfl,k0,h⟩:=h.inv_cons
 obtain ⟨a1,b1,rfl,k1,h⟩:=h.inv_cons
 obtain ⟨a2,b2,rfl,k2,h⟩:=h.inv_cons
 obtain rfl:=h.inv_nil
 obtain ⟨n0,rfl,w0⟩:=sT3 k0
 obtain ⟨n1,rfl,w1⟩:=sT3 k1
 obtain ⟨n2,rfl,w2⟩:=sT126 k2
 exact ⟨⟨n0,n1,n2⟩,rfl,w0,w1,w2⟩
def ok185 (x:GAmount):Prop:=ok3 x.kind∧ok3 x.n∧ok3 x.counter∧ok126 x.filter
theorem sT185 {cs:List PV} (h:Sn Tryz.prog 1048576 185 cs):∃ x:GAmount,cs=(eGAmount mapE) x∧ok185 x:=by
 have h:=h.inv_struct Tryz.underlying185
 obtain ⟨a0,b0,rfl,k0,h⟩:=h.inv_cons
 obtain ⟨a1,b1,rfl,k1,h⟩:=h.inv_cons
 obtain ⟨a2,b2,rfl,k2,h⟩:=h.inv_cons
 obtain ⟨a3,b3,rfl,k3,h⟩:=h.inv_cons
 obtain rfl:=h.inv_nil
 obtain ⟨n0,rfl,w0⟩:=sT3 k0
 obtain ⟨n1,rfl,w1⟩:=sT3 k1
 obtain ⟨n2,rfl,w2⟩:=sT3 k2
 obtain ⟨n3,rfl,w3⟩:=sT126 k3
 exact ⟨⟨n0,n1,n2,n3⟩,rfl,w0,w1,w2,w3⟩
def ok59 (x:Arr6 Int):Prop:=ok3 x.a0∧ok3 x.a1∧ok3 x.a2∧ok3 x.a3∧ok3 x.a4∧ok3 x.a5
theorem sT59 {cs:List PV} (h:Sn Tryz.prog 1048576 59 cs):∃ x:Arr6 Int,cs=(eArr6 (eI .i64)) x∧ok59 x:=by
 have h:=h.inv_arr Tryz.underlying59
 obtain ⟨a0,b0,rfl,k0,h⟩:=h.inv_cons
 obtain ⟨a1,b1,rfl,k1,h⟩:=h.inv_cons
 obtain ⟨a2,b2,rfl,k2,h⟩:=h.inv_cons
 obtain ⟨a3,b3,rfl,k3,h⟩:=h.inv_cons
 obtain ⟨a4,b4,rfl,k4,h⟩:=h.inv_cons
 obtain ⟨a5,b5,rfl,k5,h⟩:=h.inv_cons
 obtain rfl:=h.inv_nil
 obtain ⟨n0,rfl,w0⟩:=sT3 k0
 obtain ⟨n1,rfl,w1⟩:=sT3 k1
 obtain ⟨n2,rfl,w2⟩:=sT3 k2
 obtain ⟨n3,rfl,w3⟩:=sT3 k3
 obtain ⟨n4,rfl,w4⟩:=sT3 k4
 obtain ⟨n5,rfl,w5⟩:=sT3 k5
 exact ⟨⟨n0,n1,n2,n3,n4,n5⟩,rfl,w0,w1,w2,w3,w4,w5⟩
def ok187 (x:GEffect):Prop:=ok3 x.op∧ok183 x.ref∧ok185 x.amount∧ok3 x.counter∧ok3 x.zone∧ok9 x.card∧ok126 x.filter∧ok59 x.pool∧ok127 x.mods
theorem sT187 {cs:List PV} (h:Sn Tryz.prog 1048576 187 cs):∃ x:GEffect,cs=(eGEffect mapE) x∧ok187 x:=by
 have h:=h.inv_struct Tryz.underlying187
 obtain ⟨a0,b0,rfl,k0,h⟩:=h.inv_cons
 obtain ⟨a1,b1,rfl,k1,h⟩:=h.inv_cons
 obtain ⟨a2,b2,rfl,k2,h⟩:=h.inv_cons
 obtain ⟨a3,b3,rfl,k3,h⟩:=h.inv_cons
 obtain ⟨a4,b4,rfl,k4,h⟩:=h.inv_cons
 obtain ⟨a5,b5,rfl,k5,h⟩:=h.inv_cons
 obtain ⟨a6,b6,rfl,k6,h⟩:=h.inv_cons
 obtain ⟨a7,b7,rfl,k7,h⟩:=h.inv_cons
 obtain ⟨a8,b8,rfl,k8,h⟩:=h.inv_cons
 obtain rfl:=h.inv_nil
 obtain ⟨n0,rfl,w0⟩:=sT3 k0
 obtain ⟨n1,rfl,w1⟩:=sT183 k1
 obtain ⟨n2,rfl,w2⟩:=sT185 k2
 obtain ⟨n3,rfl,w3⟩:=sT3 k3
 obtain ⟨n4,rfl,w4⟩:=sT3 k4
 obtain ⟨n5,rfl,w5⟩:=sT9 k5
 obtain ⟨n6,rfl,w6⟩:=sT126 k6
 obtain ⟨n7,rfl,w7⟩:=sT59 k7
 obtain ⟨n8,rfl,w8⟩:=sT127 k8
 exact ⟨⟨n0,n1,n2,n3,n4,n5,n6,n7,n8⟩,rfl,w0,w1,w2,w3,w4,w5,w6,w7,w8⟩
def ok131 (l:List GEffect):Prop:=l.length≤1048576∧∀ x∈l,ok187 x
theorem sT131 {cs:List PV} (h:Sn Tryz.prog 1048576 131 cs):∃ x:List GEffect,cs=[.sl 64 (mapE.m GEffect (eGEffect mapE) x) false]∧ok131 x:=by
 obtain ⟨es,e,h1,h2⟩:=h.inv_slice Tryz.underlying131
 have hc:Tryz.prog.cellsOf 187=64:=by kernel_rfl
 rw [hc] at e
 obtain ⟨l,e2,h3,h4⟩:=rows_of fun r hr=>sT187 (h1 r hr)
 exact ⟨l,by rw [e,e2]; rfl,by omega,h3⟩
def ok133 (x:GReplace):Prop:=ok3 x.on∧ok3 x.who∧ok126 x.filter∧ok3 x.doF∧ok3 x.n∧ok3 x.zone∧ok3 x.counter
theorem sT133 {cs:List PV} (h:Sn Tryz.prog 1048576 133 cs):∃ x:GReplace,cs=(eGReplace mapE) x∧ok133 x:=by
 have h:=h.inv_struct Tryz.underlying133
 obtain ⟨a0,b0,rfl,k0,h⟩:=h.inv_cons
 obtain ⟨a1,b1,rfl,k1,h⟩:=h.inv_cons
 obtain ⟨a2,b2,rfl,k2,h⟩:=h.inv_cons
 obtain ⟨a3,b3,rfl,k3,h⟩:=h.inv_cons
 obtain ⟨a4,b4,rfl,k4,h⟩:=h.inv_cons
 obtain ⟨a5,b5,rfl,k5,h⟩:=h.inv_cons
 obtain ⟨a6,b6,rfl,k6,h⟩:=h.inv_cons
 obtain rfl:=h.inv_nil
 obtain ⟨n0,rfl,w0⟩:=sT3 k0
 obtain ⟨n1,rfl,w1⟩:=sT3 k1
 obtain ⟨n2,rfl,w2⟩:=sT126 k2
 obtain ⟨n3,rfl,w3⟩:=sT3 k3
 obtain ⟨n4,rfl,w4⟩:=sT3 k4
 obtain ⟨n5,rfl,w5⟩:=sT3 k5
 obtain ⟨n6,rfl,w6⟩:=sT3 k6
 exact ⟨⟨n0,n1,n2,n3,n4,n5,n6⟩,rfl,w0,w1,w2,w3,w4,w5,w6⟩
def ok135 (x:GAbility):Prop:=ok3 x.kind∧ok126 x.filter∧ok127 x.mods∧ok40 x.price∧ok4 x.slow∧ok129 x.trigger∧ok4 x.may∧ok130 x.specs∧ok131 x.effects∧ok133 x.replace
theorem sT135 {cs:List PV} (h:Sn Tryz.prog 1048576 135 cs):∃ x:GAbility,cs=(eGAbility mapE) x∧ok135 x:=by
 have h:=h.inv_struct Tryz.underlying135
 obtain ⟨a0,b0,rfl,k0,h⟩:=h.inv_cons
 obtain ⟨a1,b1,rfl,k1,h⟩:=h.inv_cons
 obtain ⟨a2,b2,rfl,k2,h⟩:=h.inv_cons
 obtain ⟨a3,b3,rfl,k3,h⟩:=h.inv_cons
 obtain ⟨a4,b4,rfl,k4,h⟩:=h.inv_cons
 obtain ⟨a5,b5,rfl,k5,h⟩:=h.inv_cons
 obtain ⟨a6,b6,rfl,k6,h⟩:=h.inv_cons
 obtain ⟨a7,b7,rfl,k7,h⟩:=h.inv_cons
 obtain ⟨a8,b8,rfl,k8,h⟩:=h.inv_cons
 obtain ⟨a9,b9,rfl,k9,h⟩:=h.inv_cons
 obtain rfl:=h.inv_nil
 obtain ⟨n0,rfl,w0⟩:=sT3 k0
 obtain ⟨n1,rfl,w1⟩:=sT126 k1
 obtain ⟨n2,rfl,w2⟩:=sT127 k2
 obtain ⟨n3,rfl,w3⟩:=sT40 k3
 obtain ⟨n4,rfl,w4⟩:=sT4 k4
 obtain ⟨n5,rfl,w5⟩:=sT129 k5
 obtain ⟨n6,rfl,w6⟩:=sT4 k6
 obtain ⟨n7,rfl,w7⟩:=sT130 k7
 obtain ⟨n8,rfl,w8⟩:=sT131 k8
 obtain ⟨n9,rfl,w9⟩:=sT133 k9
 exact ⟨⟨n0,n1,n2,n3,n4,n5,n6,n7,n8,n9⟩,rfl,w0,w1,w2,w3,w4,w5,w6,w7,w8,w9⟩
def ok105 (l:List GAbility):Prop:=l.length≤1048576∧∀ x∈l,ok135 x
theorem sT105 {cs:List PV} (h:Sn Tryz.prog 1048576 105 cs):∃ x:List GAbility,cs=[.sl 72 (mapE.m GAbility (eGAbility mapE) x) false]∧ok105 x:=by
 obtain ⟨es,e,h1,h2⟩:=h.inv_slice Tryz.underlying105
 have hc:Tryz.prog.cellsOf 135=72:=by kernel_rfl
 rw [hc] at e
 obtain ⟨l,e2,h3,h4⟩:=rows_of fun r hr=>sT135 (h1 r hr)
 exact ⟨l,by rw [e,e2]; rfl,by omega,h3⟩
def ok115 (x:GCard):Prop:=ok9 x.name∧ok4 x.token∧ok38 x.cost∧ok3 x.color∧ok104 x.line∧ok3 x.power∧ok3 x.tough∧ok3 x.keys∧ok105 x.abilities
theorem sT115 {cs:List PV} (h:Sn Tryz.prog 1048576 115 cs):∃ x:GCard,cs=(eGCard mapE) x∧ok115 x:=by
 have h:=h.inv_struct Tryz.underlying115
 obtain ⟨a0,b0,rfl,k0,h⟩:=h.inv_cons
 obtain ⟨a1,b1,rfl,k1,h⟩:=h.inv_cons
 obtain ⟨a2,b2,rfl,k2,h⟩:=h.inv_cons
 obtain ⟨a3,b3,rfl,k3,h⟩:=h.inv_cons
 obtain ⟨a4,b4,rfl,k4,h⟩:=h.inv_cons
 obtain ⟨a5,b5,rfl,k5,h⟩:=h.inv_cons
 obtain ⟨a6,b6,rfl,k6,h⟩:=h.inv_cons
 obtain ⟨a7,b7,rfl,k7,h⟩:=h.inv_cons
 obtain ⟨a8,b8,rfl,k8,h⟩:=h.inv_cons
 obtain rfl:=h.inv_nil
 obtain ⟨n0,rfl,w0⟩:=sT9 k0
 obtain ⟨n1,rfl,w1⟩:=sT4 k1
 obtain ⟨n2,rfl,w2⟩:=sT38 k2
 obtain ⟨n3,rfl,w3⟩:=sT3 k3
 obtain ⟨n4,rfl,w4⟩:=sT104 k4
 obtain ⟨n5,rfl,w5⟩:=sT3 k5
 obtain ⟨n6,rfl,w6⟩:=sT3 k6
 obtain ⟨n7,rfl,w7⟩:=sT3 k7
 obtain ⟨n8,rfl,w8⟩:=sT105 k8
 exact ⟨⟨n0,n1,n2,n3,n4,n5,n6,n7,n8⟩,rfl,w0,w1,w2,w3,w4,w5,w6,w7,w8⟩
def ok22 (l:List GCard):Prop:=l.length≤1048576∧∀ x∈l,ok115 x
theorem sT22 {cs:List PV} (h:Sn Tryz.prog 1048576 22 cs):∃ x:List GCard,cs=[.sl 17 (mapE.m GCard (eGCard mapE) x) false]∧ok22 x:=by
 obtain ⟨es,e,h1,h2⟩:=h.inv_slice Tryz.underlying22
 have hc:Tryz.prog.cellsOf 115=17:=by kernel_rfl
 rw [hc] at e
 obtain ⟨l,e2,h3,h4⟩:=rows_of fun r hr=>sT115 (h1 r hr)
 exact ⟨l,by rw [e,e2]; rfl,by omega,h3⟩
def ok25 (l:List Int):Prop:=l.length≤1048576∧∀ x∈l,ok3 x
theorem sT25 {cs:List PV} (h:Sn Tryz.prog 1048576 25 cs):∃ x:List Int,cs=[.sl 1 (mapE.m Int (eI .i64) x) false]∧ok25 x:=by
 obtain ⟨es,e,h1,h2⟩:=h.inv_slice Tryz.underlying25
 have hc:Tryz.prog.cellsOf 3=1:=by kernel_rfl
 rw [hc] at e
 obtain ⟨l,e2,h3,h4⟩:=rows_of fun r hr=>sT3 (h1 r hr)
 exact ⟨l,by rw [e,e2]; rfl,by omega,h3⟩
def ok61 (x:GPlayer):Prop:=ok3 x.life∧ok3 x.venom∧ok3 x.lands∧ok59 x.pool∧ok4 x.failed∧ok4 x.lost∧ok25 x.library∧ok25 x.hand∧ok25 x.graveyard
theorem sT61 {cs:List PV} (h:Sn Tryz.prog 1048576 61 cs):∃ x:GPlayer,cs=(eGPlayer mapE) x∧ok61 x:=by
 have h:=h.inv_struct Tryz.underlying61
 obtain ⟨a0,b0,rfl,k0,h⟩:=h.inv_cons
 obtain ⟨a1,b1,rfl,k1,h⟩:=h.inv_cons
 obtain ⟨a2,b2,rfl,k2,h⟩:=h.inv_cons
 obtain ⟨a3,b3,rfl,k3,h⟩:=h.inv_cons
 obtain ⟨a4,b4,rfl,k4,h⟩:=h.inv_cons
 obtain ⟨a5,b5,rfl,k5,h⟩:=h.inv_cons
 obtain ⟨a6,b6,rfl,k6,h⟩:=h.inv_cons
 obtain ⟨a7,b7,rfl,k7,h⟩:=h.inv_cons
 obtain ⟨a8,b8,rfl,k8,h⟩:=h.inv_cons
 obtain rfl:=h.inv_nil
 obtain ⟨n0,rfl,w0⟩:=sT3 k0
 obtain ⟨n1,rfl,w1⟩:=sT3 k1
 obtain ⟨n2,rfl,w2⟩:=sT3 k2
 obtain ⟨n3,rfl,w3⟩:=sT59 k3
 obtain ⟨n4,rfl,w4⟩:=sT4 k4
 obtain ⟨n5,rfl,w5⟩:=sT4 k5
 obtain ⟨n6,rfl,w6⟩:=sT25 k6
 obtain ⟨n7,rfl,w7⟩:=sT25 k7
 obtain ⟨n8,rfl,w8⟩:=sT25 k8
 exact ⟨⟨n0,n1,n2,n3,n4,n5,n6,n7,n8⟩,rfl,w0,w1,w2,w3,w4,w5,w6,w7,w8⟩
def ok23 (l:List GPlayer):Prop:=l.length≤1048576∧∀ x∈l,ok61 x
theorem sT23 {cs:List PV} (h:Sn Tryz.prog 1048576 23 cs):∃ x:List GPlayer,cs=[.sl 14 (mapE.m GPlayer (eGPlayer mapE) x) false]∧ok23 x:=by
 obtain ⟨es,e,h1,h2⟩:=h.inv_slice Tryz.underlying23
 have hc:Tryz.prog.cellsOf 61=14:=by kernel_rfl
 rw [hc] at e
 obtain ⟨l,e2,h3,h4⟩:=rows_of fun r hr=>sT61 (h1 r hr)
 exact ⟨l,by rw [e,e2]; rfl,by omega,h3⟩
def ok98 (x:Arr3 Int):Prop:=ok3 x.a0∧ok3 x.a1∧ok3 x.a2
theorem sT98 {cs:List PV} (h:Sn Tryz.prog 1048576 98 cs):∃ x:Arr3 Int,cs=(eArr3 (eI .i64)) x∧ok98 x:=by
 have h:=h.inv_arr Tryz.underlying98
 obtain ⟨a0,b0,rfl,k0,h⟩:=h.inv_cons
 obtain ⟨a1,b1,rfl,k1,h⟩:=h.inv_cons
 obtain ⟨a2,b2,rfl,k2,h⟩:=h.inv_cons
 obtain rfl:=h.inv_nil
 obtain ⟨n0,rfl,w0⟩:=sT3 k0
 obtain ⟨n1,rfl,w1⟩:=sT3 k1
 obtain ⟨n2,rfl,w2⟩:=sT3 k2
 exact ⟨⟨n0,n1,n2⟩,rfl,w0,w1,w2⟩
def ok100 (x:GObject):Prop:=ok3 x.id∧ok3 x.card∧ok3 x.owner∧ok3 x.control∧ok3 x.zone∧ok4 x.token∧ok4 x.tapped∧ok4 x.sick∧ok4 x.deadly∧ok3 x.damage∧ok98 x.counters∧ok3 x.stamp∧ok3 x.copy∧ok3 x.attack∧ok4 x.blocked∧ok3 x.blocks∧ok3 x.shield
theorem sT100 {cs:List PV} (h:Sn Tryz.prog 1048576 100 cs):∃ x:GObject,cs=(eGObject mapE) x∧ok100 x:=by
 have h:=h.inv_struct Tryz.underlying100
 obtain ⟨a0,b0,rfl,k0,h⟩:=h.inv_cons
 obtain ⟨a1,b1,rfl,k1,h⟩:=h.inv_cons
 obtain ⟨a2,b2,rfl,k2,h⟩:=h.inv_cons
 obtain ⟨a3,b3,rfl,k3,h⟩:=h.inv_cons
 obtain ⟨a4,b4,rfl,k4,h⟩:=h.inv_cons
 obtain ⟨a5,b5,rfl,k5,h⟩:=h.inv_cons
 obtain ⟨a6,b6,rfl,k6,h⟩:=h.inv_cons
 obtain ⟨a7,b7,rfl,k7,h⟩:=h.inv_cons
 obtain ⟨a8,b8,rfl,k8,h⟩:=h.inv_cons
 obtain ⟨a9,b9,rfl,k9,h⟩:=h.inv_cons
 obtain ⟨a10,b10,rfl,k10,h⟩:=h.inv_cons
 obtain ⟨a11,b11,rfl,k11,h⟩:=h.inv_cons
 obtain ⟨a12,b12,rfl,k12,h⟩:=h.inv_cons
 obtain ⟨a13,b13,rfl,k13,h⟩:=h.inv_cons
 obtain ⟨a14,b14,rfl,k14,h⟩:=h.inv_cons
 obtain ⟨a15,b15,rfl,k15,h⟩:=h.inv_cons
 obtain ⟨a16,b16,rfl,k16,h⟩:=h.inv_cons
 obtain rfl:=h.inv_nil
 obtain ⟨n0,rfl,w0⟩:=sT3 k0
 obtain ⟨n1,rfl,w1⟩:=sT3 k1
 obtain ⟨n2,rfl,w2⟩:=sT3 k2
 obtain ⟨n3,rfl,w3⟩:=sT3 k3
 obtain ⟨n4,rfl,w4⟩:=sT3 k4
 obtain ⟨n5,rfl,w5⟩:=sT4 k5
 obtain ⟨n6,rfl,w6⟩:=sT4 k6
 obtain ⟨n7,rfl,w7⟩:=sT4 k7
 obtain ⟨n8,rfl,w8⟩:=sT4 k8
 obtain ⟨n9,rfl,w9⟩:=sT3 k9
 obtain ⟨n10,rfl,w10⟩:=sT98 k10
 obtain ⟨n11,rfl,w11⟩:=sT3 k11
 obtain ⟨n12,rfl,w12⟩:=sT3 k12
 obtain ⟨n13,rfl,w13⟩:=sT3 k13
 obtain ⟨n14,rfl,w14⟩:=sT4 k14
 obtain ⟨n15,rfl,w15⟩:=sT3 k15
 obtain ⟨n16,rfl,w16⟩:=sT3 k16
 exact ⟨⟨n0,n1,n2,n3,n4,n5,n6,n7,n8,n9,n10,n11,n12,n13,n14,n15,n16⟩,rfl,w0,w1,w2,w3,w4,w5,w6,w7,w8,w9,w10,w11,w12,w13,w14,w15,w16⟩
def ok24 (l:List GObject):Prop:=l.length≤1048576∧∀ x∈l,ok100 x
theorem sT24 {cs:List PV} (h:Sn Tryz.prog 1048576 24 cs):∃ x:List GObject,cs=[.sl 19 (mapE.m GObject (eGObject mapE) x) false]∧ok24 x:=by
 obtain ⟨es,e,h1,h2⟩:=h.inv_slice Tryz.underlying24
 have hc:Tryz.prog.cellsOf 100=19:=by kernel_rfl
 rw [hc] at e
 obtain ⟨l,e2,h3,h4⟩:=rows_of fun r hr=>sT100 (h1 r hr)
 exact ⟨l,by rw [e,e2]; rfl,by omega,h3⟩
def ok154 (x:GTarget):Prop:=ok3 x.object∧ok3 x.player
theorem sT154 {cs:List PV} (h:Sn Tryz.prog 1048576 154 cs):∃ x:GTarget,cs=(eGTarget mapE) x∧ok154 x:=by
 have h:=h.inv_struct Tryz.underlying154
 obtain ⟨a0,b0,rfl,k0,h⟩:=h.inv_cons
 obtain ⟨a1,b1,rfl,k1,h⟩:=h.inv_cons
 obtain rfl:=h.inv_nil
 obtain ⟨n0,rfl,w0⟩:=sT3 k0
 obtain ⟨n1,rfl,w1⟩:=sT3 k1
 exact ⟨⟨n0,n1⟩,rfl,w0,w1⟩
def ok136 (l:List GTarget):Prop:=l.length≤1048576∧∀ x∈l,ok154 x
theorem sT136 {cs:List PV} (h:Sn Tryz.prog 1048576 136 cs):∃ x:List GTarget,cs=[.sl 2 (mapE.m GTarget (eGTarget mapE) x) false]∧ok136 x:=by
 obtain ⟨es,e,h1,h2⟩:=h.inv_slice Tryz.underlying136
 have hc:Tryz.prog.cellsOf 154=2:=by kernel_rfl
 rw [hc] at e
 obtain ⟨l,e2,h3,h4⟩:=rows_of fun r hr=>sT154 (h1 r hr)
 exact ⟨l,by rw [e,e2]; rfl,by omega,h3⟩
def ok138 (x:GEvent):Prop:=ok3 x.kind∧ok3 x.source∧ok3 x.object∧ok3 x.player∧ok3 x.amount∧ok3 x.fromF∧ok3 x.to∧ok3 x.cause∧ok3 x.counter∧ok3 x.card∧ok4 x.combat∧ok4 x.tapped∧ok98 x.extra
theorem sT138 {cs:List PV} (h:Sn Tryz.prog 1048576 138 cs):∃ x:GEvent,cs=(eGEvent mapE) x∧ok138 x:=by
 have h:=h.inv_struct Tryz.underlying138
 obtain ⟨a0,b0,rfl,k0,h⟩:=h.inv_cons
 obtain ⟨a1,b1,rfl,k1,h⟩:=h.inv_cons
 obtain ⟨a2,b2,rfl,k2,h⟩:=h.inv_cons
 obtain ⟨a3,b3,rfl,k3,h⟩:=h.inv_cons
 obtain ⟨a4,b4,rfl,k4,h⟩:=h.inv_cons
 obtain ⟨a5,b5,rfl,k5,h⟩:=h.inv_cons
 obtain ⟨a6,b6,rfl,k6,h⟩:=h.inv_cons
 obtain ⟨a7,b7,rfl,k7,h⟩:=h.inv_cons
 obtain ⟨a8,b8,rfl,k8,h⟩:=h.inv_cons
 obtain ⟨a9,b9,rfl,k9,h⟩:=h.inv_cons
 obtain ⟨a10,b10,rfl,k10,h⟩:=h.inv_cons
 obtain ⟨a11,b11,rfl,k11,h⟩:=h.inv_cons
 obtain ⟨a12,b12,rfl,k12,h⟩:=h.inv_cons
 obtain rfl:=h.inv_nil
 obtain ⟨n0,rfl,w0⟩:=sT3 k0
 obtain ⟨n1,rfl,w1⟩:=sT3 k1
 obtain ⟨n2,rfl,w2⟩:=sT3 k2
 obtain ⟨n3,rfl,w3⟩:=sT3 k3
 obtain ⟨n4,rfl,w4⟩:=sT3 k4
 obtain ⟨n5,rfl,w5⟩:=sT3 k5
 obtain ⟨n6,rfl,w6⟩:=sT3 k6
 obtain ⟨n7,rfl,w7⟩:=sT3 k7
 obtain ⟨n8,rfl,w8⟩:=sT3 k8
 obtain ⟨n9,rfl,w9⟩:=sT3 k9
 obtain ⟨n10,rfl,w10⟩:=sT4 k10
 obtain ⟨n11,rfl,w11⟩:=sT4 k11
 obtain ⟨n12,rfl,w12⟩:=sT98 k12
 exact ⟨⟨n0,n1,n2,n3,n4,n5,n6,n7,n8,n9,n10,n11,n12⟩,rfl,w0,w1,w2,w3,w4,w5,w6,w7,w8,w9,w10,w11,w12⟩
def ok140 (x:GItem):Prop:=ok3 x.id∧ok3 x.kind∧ok3 x.source∧ok3 x.control∧ok3 x.x∧ok4 x.copy∧ok135 x.ability∧ok136 x.targets∧ok138 x.event
theorem sT140 {cs:List PV} (h:Sn Tryz.prog 1048576 140 cs):∃ x:GItem,cs=(eGItem mapE) x∧ok140 x:=by
 have h:=h.inv_struct Tryz.underlying140
 obtain ⟨a0,b0,rfl,k0,h⟩:=h.inv_cons
 obtain ⟨a1,b1,rfl,k1,h⟩:=h.inv_cons
 obtain ⟨a2,b2,rfl,k2,h⟩:=h.inv_cons
 obtain ⟨a3,b3,rfl,k3,h⟩:=h.inv_cons
 obtain ⟨a4,b4,rfl,k4,h⟩:=h.inv_cons
 obtain ⟨a5,b5,rfl,k5,h⟩:=h.inv_cons
 obtain ⟨a6,b6,rfl,k6,h⟩:=h.inv_cons
 obtain ⟨a7,b7,rfl,k7,h⟩:=h.inv_cons
 obtain ⟨a8,b8,rfl,k8,h⟩:=h.inv_cons
 obtain rfl:=h.inv_nil
 obtain ⟨n0,rfl,w0⟩:=sT3 k0
 obtain ⟨n1,rfl,w1⟩:=sT3 k1
 obtain ⟨n2,rfl,w2⟩:=sT3 k2
 obtain ⟨n3,rfl,w3⟩:=sT3 k3
 obtain ⟨n4,rfl,w4⟩:=sT3 k4
 obtain ⟨n5,rfl,w5⟩:=sT4 k5
 obtain ⟨n6,rfl,w6⟩:=sT135 k6
 obtain ⟨n7,rfl,w7⟩:=sT136 k7
 obtain ⟨n8,rfl,w8⟩:=sT138 k8
 exact ⟨⟨n0,n1,n2,n3,n4,n5,n6,n7,n8⟩,rfl,w0,w1,w2,w3,w4,w5,w6,w7,w8⟩
def ok26 (l:List GItem):Prop:=l.length≤1048576∧∀ x∈l,ok140 x
theorem sT26 {cs:List PV} (h:Sn Tryz.prog 1048576 26 cs):∃ x:List GItem,cs=[.sl 94 (mapE.m GItem (eGItem mapE) x) false]∧ok26 x:=by
 obtain ⟨es,e,h1,h2⟩:=h.inv_slice Tryz.underlying26
 have hc:Tryz.prog.cellsOf 140=94:=by kernel_rfl
 rw [hc] at e
 obtain ⟨l,e2,h3,h4⟩:=rows_of fun r hr=>sT140 (h1 r hr)
 exact ⟨l,by rw [e,e2]; rfl,by omega,h3⟩
def ok143 (x:GWaiting):Prop:=ok3 x.source∧ok3 x.control∧ok135 x.ability∧ok138 x.event
theorem sT143 {cs:List PV} (h:Sn Tryz.prog 1048576 143 cs):∃ x:GWaiting,cs=(eGWaiting mapE) x∧ok143 x:=by
 have h:=h.inv_struct Tryz.underlying143
 obtain ⟨a0,b0,rfl,k0,h⟩:=h.inv_cons
 obtain ⟨a1,b1,rfl,k1,h⟩:=h.inv_cons
 obtain ⟨a2,b2,rfl,k2,h⟩:=h.inv_cons
 obtain ⟨a3,b3,rfl,k3,h⟩:=h.inv_cons
 obtain rfl:=h.inv_nil
 obtain ⟨n0,rfl,w0⟩:=sT3 k0
 obtain ⟨n1,rfl,w1⟩:=sT3 k1
 obtain ⟨n2,rfl,w2⟩:=sT135 k2
 obtain ⟨n3,rfl,w3⟩:=sT138 k3
 exact ⟨⟨n0,n1,n2,n3⟩,rfl,w0,w1,w2,w3⟩
def ok27 (l:List GWaiting):Prop:=l.length≤1048576∧∀ x∈l,ok143 x
theorem sT27 {cs:List PV} (h:Sn Tryz.prog 1048576 27 cs):∃ x:List GWaiting,cs=[.sl 89 (mapE.m GWaiting (eGWaiting mapE) x) false]∧ok27 x:=by
 obtain ⟨es,e,h1,h2⟩:=h.inv_slice Tryz.underlying27
 have hc:Tryz.prog.cellsOf 143=89:=by kernel_rfl
 rw [hc] at e
 obtain ⟨l,e2,h3,h4⟩:=rows_of fun r hr=>sT143 (h1 r hr)
 exact ⟨l,by rw [e,e2]; rfl,by omega,h3⟩
def ok146 (x:GCont):Prop:=ok3 x.stamp∧ok3 x.control∧ok3 x.source∧ok3 x.untilF∧ok25 x.objects∧ok127 x.mods
theorem sT146 {cs:List PV} (h:Sn Tryz.prog 1048576 146 cs):∃ x:GCont,cs=(eGCont mapE) x∧ok146 x:=by
 have h:=h.inv_struct Tryz.underlying146
 obtain ⟨a0,b0,rfl,k0,h⟩:=h.inv_cons
 obtain ⟨a1,b1,rfl,k1,h⟩:=h.inv_cons
 obtain ⟨a2,b2,rfl,k2,h⟩:=h.inv_cons
 obtain ⟨a3,b3,rfl,k3,h⟩:=h.inv_cons
 obtain ⟨a4,b4,rfl,k4,h⟩:=h.inv_cons
 obtain ⟨a5,b5,rfl,k5,h⟩:=h.inv_cons
 obtain rfl:=h.inv_nil
 obtain ⟨n0,rfl,w0⟩:=sT3 k0
 obtain ⟨n1,rfl,w1⟩:=sT3 k1
 obtain ⟨n2,rfl,w2⟩:=sT3 k2
 obtain ⟨n3,rfl,w3⟩:=sT3 k3
 obtain ⟨n4,rfl,w4⟩:=sT25 k4
 obtain ⟨n5,rfl,w5⟩:=sT127 k5
 exact ⟨⟨n0,n1,n2,n3,n4,n5⟩,rfl,w0,w1,w2,w3,w4,w5⟩
def ok28 (l:List GCont):Prop:=l.length≤1048576∧∀ x∈l,ok146 x
theorem sT28 {cs:List PV} (h:Sn Tryz.prog 1048576 28 cs):∃ x:List GCont,cs=[.sl 6 (mapE.m GCont (eGCont mapE) x) false]∧ok28 x:=by
 obtain ⟨es,e,h1,h2⟩:=h.inv_slice Tryz.underlying28
 have hc:Tryz.prog.cellsOf 146=6:=by kernel_rfl
 rw [hc] at e
 obtain ⟨l,e2,h3,h4⟩:=rows_of fun r hr=>sT146 (h1 r hr)
 exact ⟨l,by rw [e,e2]; rfl,by omega,h3⟩
def ok29 (x:Int):Prop:=(Lit.int .u64 x).wf=true
theorem sT29 {cs:List PV} (h:Sn Tryz.prog 1048576 29 cs):∃ x:Int,cs=(eI .u64) x∧ok29 x:=by
 obtain ⟨n,e,hw⟩:=h.inv_int Tryz.underlying29
 exact ⟨n,e,hw⟩
def ok31 (x:GState):Prop:=ok23 x.players∧ok24 x.objects∧ok25 x.battlefield∧ok25 x.exile∧ok26 x.stack∧ok27 x.waiting∧ok28 x.conts∧ok3 x.turn∧ok3 x.active∧ok3 x.step∧ok4 x.begun∧ok3 x.priority∧ok3 x.passes∧ok3 x.nextId∧ok3 x.nextStamp∧ok29 x.seed∧ok25 x.extra∧ok3 x.over∧ok3 x.winner
theorem sT31 {cs:List PV} (h:Sn Tryz.prog 1048576 31 cs):∃ x:GState,cs=(eGState mapE) x∧ok31 x:=by
 have h:=h.inv_struct Tryz.underlying31
 obtain ⟨a0,b0,rfl,k0,h⟩:=h.inv_cons
 obtain ⟨a1,b1,rfl,k1,h⟩:=h.inv_cons
 obtain ⟨a2,b2,rfl,k2,h⟩:=h.inv_cons
 obtain ⟨a3,b3,rfl,k3,h⟩:=h.inv_cons
 obtain ⟨a4,b4,rfl,k4,h⟩:=h.inv_cons
 obtain ⟨a5,b5,rfl,k5,h⟩:=h.inv_cons
 obtain ⟨a6,b6,rfl,k6,h⟩:=h.inv_cons
 obtain ⟨a7,b7,rfl,k7,h⟩:=h.inv_cons
 obtain ⟨a8,b8,rfl,k8,h⟩:=h.inv_cons
 obtain ⟨a9,b9,rfl,k9,h⟩:=h.inv_cons
 obtain ⟨a10,b10,rfl,k10,h⟩:=h.inv_cons
 obtain ⟨a11,b11,rfl,k11,h⟩:=h.inv_cons
 obtain ⟨a12,b12,rfl,k12,h⟩:=h.inv_cons
 obtain ⟨a13,b13,rfl,k13,h⟩:=h.inv_cons
 obtain ⟨a14,b14,rfl,k14,h⟩:=h.inv_cons
 obtain ⟨a15,b15,rfl,k15,h⟩:=h.inv_cons
 obtain ⟨a16,b16,rfl,k16,h⟩:=h.inv_cons
 obtain ⟨a17,b17,rfl,k17,h⟩:=h.inv_cons
 obtain ⟨a18,b18,rfl,k18,h⟩:=h.inv_cons
 obtain rfl:=h.inv_nil
 obtain ⟨n0,rfl,w0⟩:=sT23 k0
 obtain ⟨n1,rfl,w1⟩:=sT24 k1
 obtain ⟨n2,rfl,w2⟩:=sT25 k2
 obtain ⟨n3,rfl,w3⟩:=sT25 k3
 obtain ⟨n4,rfl,w4⟩:=sT26 k4
 obtain ⟨n5,rfl,w5⟩:=sT27 k5
 obtain ⟨n6,rfl,w6⟩:=sT28 k6
 obtain ⟨n7,rfl,w7⟩:=sT3 k7
 obtain ⟨n8,rfl,w8⟩:=sT3 k8
 obtain ⟨n9,rfl,w9⟩:=sT3 k9
 obtain ⟨n10,rfl,w10⟩:=sT4 k10
 obtain ⟨n11,rfl,w11⟩:=sT3 k11
 obtain ⟨n12,rfl,w12⟩:=sT3 k12
 obtain ⟨n13,rfl,w13⟩:=sT3 k13
 obtain ⟨n14,rfl,w14⟩:=sT3 k14
 obtain ⟨n15,rfl,w15⟩:=sT29 k15
 obtain ⟨n16,rfl,w16⟩:=sT25 k16
 obtain ⟨n17,rfl,w17⟩:=sT3 k17
 obtain ⟨n18,rfl,w18⟩:=sT3 k18
 exact ⟨⟨n0,n1,n2,n3,n4,n5,n6,n7,n8,n9,n10,n11,n12,n13,n14,n15,n16,n17,n18⟩,rfl,w0,w1,w2,w3,w4,w5,w6,w7,w8,w9,w10,w11,w12,w13,w14,w15,w16,w17,w18⟩
theorem z9 {x:ByteArray} (h:ok9 x):szB x:=h
theorem z102 {x:List ByteArray} (h:ok102 x):(szL szB) x:=⟨h.1,fun y hy=>z9 (h.2 y hy)⟩
theorem z104 {x:GLine} (h:ok104 x):szGLine x:=z102 (h.2.2)
theorem z126 {x:GFilter} (h:ok126 x):szGFilter x:=z9 (h.2.2.2.2.2.2.2.1)
theorem z159 {x:GMod} (h:ok159 x):szGMod x:=⟨z9 (h.2.2.2.1),z126 (h.2.2.2.2)⟩
theorem z127 {x:List GMod} (h:ok127 x):(szL szGMod) x:=⟨h.1,fun y hy=>z159 (h.2 y hy)⟩
theorem z129 {x:GTrigger} (h:ok129 x):szGTrigger x:=z126 (h.2.2)
theorem z199 {x:GSpec} (h:ok199 x):szGSpec x:=z126 (h.2.2)
theorem z130 {x:List GSpec} (h:ok130 x):(szL szGSpec) x:=⟨h.1,fun y hy=>z199 (h.2 y hy)⟩
theorem z183 {x:GRef} (h:ok183 x):szGRef x:=z126 (h.2.2)
theorem z185 {x:GAmount} (h:ok185 x):szGAmount x:=z126 (h.2.2.2)
theorem z187 {x:GEffect} (h:ok187 x):szGEffect x:=⟨z183 (h.2.1),z185 (h.2.2.1),z9 (h.2.2.2.2.2.1),z126 (h.2.2.2.2.2.2.1),z127 (h.2.2.2.2.2.2.2.2)⟩
theorem z131 {x:List GEffect} (h:ok131 x):(szL szGEffect) x:=⟨h.1,fun y hy=>z187 (h.2 y hy)⟩
theorem z133 {x:GReplace} (h:ok133 x):szGReplace x:=z126 (h.2.2.1)
theorem z135 {x:GAbility} (h:ok135 x):szGAbility x:=⟨z126 (h.2.1),z127 (h.2.2.1),z129 (h.2.2.2.2.2.1),z130 (h.2.2.2.2.2.2.2.1),z131 (h.2.2.2.2.2.2.2.2.1),z133 (h.2.2.2.2.2.2.2.2.2)⟩
theorem z105 {x:List GAbility} (h:ok105 x):(szL szGAbility) x:=⟨h.1,fun y hy=>z135 (h.2 y hy)⟩
theorem z115 {x:GCard} (h:ok115 x):szGCard x:=⟨z9 (h.1),z104 (h.2.2.2.2.1),z105 (h.2.2.2.2.2.2.2.2)⟩
theorem z22 {x:List GCard} (h:ok22 x):(szL szGCard) x:=⟨h.1,fun y hy=>z115 (h.2 y hy)⟩
theorem z25 {x:List Int} (h:ok25 x):(szL (fun (_:Int)=>True)) x:=⟨h.1,fun y hy=>trivial⟩
theorem z61 {x:GPlayer} (h:ok61 x):szGPlayer x:=⟨z25 (h.2.2.2.2.2.2.1),z25 (h.2.2.2.2.2.2.2.1),z25 (h.2.2.2.2.2.2.2.2)⟩
theorem z23 {x:List GPlayer} (h:ok23 x):(szL szGPlayer) x:=⟨h.1,fun y hy=>z61 (h.2 y hy)⟩
theorem z24 {x:List GObject} (h:ok24 x):(szL (fun (_:GObject)=>True)) x:=⟨h.1,fun y hy=>trivial⟩
theorem z136 {x:List GTarget} (h:ok136 x):(szL (fun (_:GTarget)=>True)) x:=⟨h.1,fun y hy=>trivial⟩
theorem z140 {x:GItem} (h:ok140 x):szGItem x:=⟨z135 (h.2.2.2.2.2.2.1),z136 (h.2.2.2.2.2.2.2.1)⟩
theorem z26 {x:List GItem} (h:ok26 x):(szL szGItem) x:=⟨h.1,fun y hy=>z140 (h.2 y hy)⟩
theorem z143 {x:GWaiting} (h:ok143 x):szGWaiting x:=z135 (h.2.2.1)
theorem z27 {x:List GWaiting} (h:ok27 x):(szL szGWaiting) x:=⟨h.1,fun y hy=>z143 (h.2 y hy)⟩
theorem z146 {x:GCont} (h:ok146 x):szGCont x:=⟨z25 (h.2.2.2.2.1),z127 (h.2.2.2.2.2)⟩
theorem z28 {x:List GCont} (h:ok28 x):(szL szGCont) x:=⟨h.1,fun y hy=>z146 (h.2 y hy)⟩
theorem z31 {x:GState} (h:ok31 x):szGState x:=⟨z23 (h.1),z24 (h.2.1),z25 (h.2.2.1),z25 (h.2.2.2.1),z26 (h.2.2.2.2.1),z27 (h.2.2.2.2.2.1),z28 (h.2.2.2.2.2.2.1),z25 (h.2.2.2.2.2.2.2.2.2.2.2.2.2.2.2.2.1)⟩
theorem sV22 {p:PV} (h:SnV Tryz.prog 1048576 22 p):∃ x:List GCard,p=.sl 17 (mapE.m GCard (eGCard mapE) x) false∧ok22 x:=by
 obtain ⟨x,e,hx⟩:=sT22 (h.inv_one (by kernel_rfl))
 cases e
 exact ⟨x,rfl,hx⟩
theorem sV31 {p:PV} (h:SnV Tryz.prog 1048576 31 p):∃ x:GState,p=.agg ((eGState mapE) x)∧ok31 x:=by
 obtain ⟨cs,rfl,h2⟩:=h.inv_agg (by kernel_rfl)
 obtain ⟨x,rfl,hx⟩:=sT31 h2
 exact ⟨x,rfl,hx⟩
end Go.Proofs.YtddcpnlflncahaaGreat
