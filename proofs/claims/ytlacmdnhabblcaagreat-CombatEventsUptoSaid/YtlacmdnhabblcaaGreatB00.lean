import Derived.Orders
import Derived.Tactics
import Derived.Calls
import Derived.Below
set_option linter.all false
namespace Go.Pv
theorem ae{p:Prop}(h:p:=by (try simp only[List.length_append,List.length_cons,List.length_nil,List.length_set,List.length_replicate,oZ]);omega):p:=h
theorem af{p:Prop}(h:p:=by intro hh;first|(cases hh;done)|omega|(have hh2:=of_decide_eq_false hh;(try simp only[iV] at hh2);omega)|(simp at hh;(try simp only[iV] at hh);omega)):p:=h
theorem ai{p:Prop}(h:p:=by omega):p:=h
theorem aj{p:Prop}(h:p:=by (try simp only[q]);repeat' constructor):p:=h
theorem ak{p:Prop}(h:p:=by show _<18446744073709551616;(try simp only[List.length_append,List.length_cons,List.length_nil]);omega):p:=h
theorem au{p:Prop}(h:p:=by first|assumption|(refine⟨by omega,?_⟩;first|(intro _ _;trivial)|assumption)|(unfold kQ;simp_all[Me,rO])):p:=h
theorem ax{p:Prop}(h:p:=by first|assumption|(refine⟨by omega,?_⟩;first|(intro _ _;trivial)|assumption)):p:=h
theorem ay{p:Prop}(h:p:=by first|assumption|(refine⟨by omega,?_⟩;first|(intro _ _;trivial)|assumption)|(unfold oC;simp_all[Me,rO])):p:=h
theorem az{p:Prop}(h:p:=by show ¬ (s.objects.length:Int)<(s.objects.length:Int);omega):p:=h
theorem aA{p:Prop}(h:p:=by simp only[List.length_cons,List.length_nil];omega):p:=h
theorem aB{p:Prop}(h:p:=by show ¬ (l.length:Int)<(l.length:Int);omega):p:=h
theorem aC{p:Prop}(h:p:=by (try simp only[q1]);(try simp only[q2,eO,q]);try first|rfl|simp[zZ,eI,eB,eL,eS,q]):p:=h
theorem aF{p:Prop}(h:p:=by simp only;omega):p:=h
theorem aG{p:Prop}(h:p:=by first|assumption|(show _<=1048576;(try simp only[oZ,List.length_cons,List.length_nil]);omega)):p:=h
theorem aH{p:Prop}(h:p:=by kernel_rfl):p:=h
theorem aI{p:Prop}(h:p:=by simp):p:=h
theorem aJ{p:Prop}(h:p:=by simp[oZ]):p:=h
theorem aK{p:Prop}(h:p:=by first|omega|(simp[oZ];done)):p:=h
theorem aN{p:Prop}(h:p:=by (try simp only[kL,iY,eL,eS,q]);try first|rfl|simp[zZ,eI,eB,eL,eS,q]):p:=h
theorem aO{p:Prop}(h:p:=by first|assumption|(refine⟨by omega,?_⟩;first|(intro _ _;trivial)|assumption)|(unfold ny;simp_all[Me,rO])):p:=h
theorem aP{p:Prop}(h:p:=by (try simp only[q]);repeat' first|constructor|exact anT rfl rfl (by have lbx13:=bx13.le;have tbx13:=bx13.lt;have lbx15:=bx15.le;have tbx15:=bx15.lt;clear O bx13 bx15;cases x13;cases x15;simp only[zo,adt,List.length_append,List.length_take,List.length_drop,List.length_replicate] at *;omega)):p:=h
theorem aQ{p:Prop}(h:p:=by decide):p:=h
theorem aS{p:Prop}(h:p:=by simp only[oZ,List.length_cons,List.length_nil];omega):p:=h
theorem aT{p:Prop}(h:p:=by simp;omega):p:=h
theorem aU{p:Prop}(h:p:=by simp only[oZ,List.length_cons,List.length_nil] at hx;omega):p:=h
theorem aV{p:Prop}(h:p:=by show (2*(t.length+1)+192)*8<=_;omega):p:=h
theorem aW{p:Prop}(h:p:=by first|assumption|(refine⟨by omega,?_⟩;first|(intro _ _;trivial)|assumption)|(unfold pK;simp_all[Me,rO])):p:=h
theorem aX{p:Prop}(h:p:=by show t.length+1<=_;omega):p:=h
theorem aY{p:Prop}(h:p:=by have lbx13:=bx13.le;have tbx13:=bx13.lt;have lbx15:=bx15.le;have tbx15:=bx15.lt;clear O bx13 bx15;cases x13;cases x15;simp only[zo,adt,List.length_append,List.length_take,List.length_drop,List.length_replicate] at *;omega):p:=h
theorem aZ{p:Prop}(h:p:=by first|(subst_vars;assumption)|(subst_vars;omega)|simp):p:=h
theorem bf{p:Prop}(h:p:=by intro h;subst h;exact λh=>h):p:=h
theorem bg{p:Prop}(h:p:=by intro e;rw[Nat.succ.inj e,hb] at hj;cases hj):p:=h
theorem bn{p:Prop}(h:p:=by (try simp only[iV]);omega):p:=h
theorem bu{p:Prop}(h:p:=by simp[h]):p:=h
theorem bz{p:Prop}(h:p:=by first|assumption|(refine⟨by omega,?_⟩;first|(intro _ _;trivial)|assumption)|(unfold xE;simp_all[Me,rO])):p:=h
theorem bC{p:Prop}(h:p:=by refine⟨by simp,by omega,?_⟩;simp[oZ]):p:=h
theorem bD{p:Prop}(h:p:=by intro e;apply he;rw[Nat.succ.inj e]):p:=h
theorem bF{p:Prop}(h:p:=by simp[Rep]):p:=h
theorem bG{p:Prop}(h:p:=by unfold Rep at h1 |-;exact h1):p:=h
theorem bH{p:Prop}(h:p:=by simpa using h):p:=h
theorem bI{p:Prop}(h:p:=by cases y with|true=>rfl|false=>cases h):p:=h
theorem bJ{p:Prop}(h:p:=by cases h):p:=h
theorem bK{p:Prop}(h:p:=by rw[ag2 (by rw[hb,hj]) he]):p:=h
theorem bM{p:Prop}(h:p:=by (conv=>lhs;cbv)<;>(try simp only[q1])<;>(try simp only[q2,eO,q])<;>(try rfl)):p:=h
theorem bP{p:Prop}(h:p:=by first|assumption|(refine⟨by omega,?_⟩;first|(intro _ _;trivial)|assumption)|(unfold Ku;simp_all[Me,rO])):p:=h
theorem bQ{p:Prop}(h:p:=by first|assumption|(refine⟨by omega,?_⟩;first|(intro _ _;trivial)|assumption)|(unfold A7;simp_all[Me,rO])):p:=h
theorem bT{p:Prop}(h:p:=by first|assumption|(refine⟨by omega,?_⟩;first|(intro _ _;trivial)|assumption)|(unfold mY;simp_all[Me,rO])):p:=h
theorem bU{p:Prop}(h:p:=by first|assumption|(refine⟨by omega,?_⟩;first|(intro _ _;trivial)|assumption)|(unfold qZ;simp_all[Me,rO])):p:=h
theorem bV{p:Prop}(h:p:=by show ¬ (a.length:Int)<(a.length:Int);omega):p:=h
theorem bW{p:Prop}(h:p:=by simp only[Op.operands,Call.operands];simp;exact .inr (by simpa using hx)):p:=h
theorem bY{p:Prop}(h:p:=by simpa using hoj):p:=h
theorem bZ{p:Prop}(h:p:=by (conv=>lhs;cbv)<;>(try simp only[q])<;>(try rfl)):p:=h
theorem cu{p:Prop}(h:p:=by show ((L.length:Int)-jq (i:Int) 1).toNat<((L.length:Int)-(i:Int)).toNat;rw[lC (by omega)];omega):p:=h
theorem cZ{p:Prop}(h:p:=by simp only[Op.operands,List.mem_toArray,List.mem_map];exact⟨x,hx,rfl⟩):p:=h
theorem df{p:Prop}(h:p:=by simpa using hi):p:=h
theorem dh{p:Prop}(h:p:=by show ¬ (L.length:Int)<(L.length:Int);omega):p:=h
theorem di{p:Prop}(h:p:=by simp only[List.length_append,List.length_singleton];omega):p:=h
theorem dm{p:Prop}(h:p:=by show ¬ (s.ji.length:Int)<(s.ji.length:Int);omega):p:=h
theorem dn{p:Prop}(h:p:=by show (2*(l.length+1)+192)*112<=_;omega):p:=h
theorem dw{p:Prop}(h:p:=by cases y1 with|true=>rfl|false=>cases h):p:=h
theorem dA{p:Prop}(h:p:=by cases hb:Nat.beq a b with|false=>rfl|true=>exact absurd (Nat.eq_of_beq_eq_true hb) h):p:=h
theorem dB{p:Prop}(h:p:=by unfold Rep at h1 |-;obtain⟨ws,e,hr⟩:=h1;exact⟨ws,e,by unfold jo at hr |-;exact hr⟩):p:=h
theorem dC{p:Prop}(h:p:=by show (2*(out.length+y.1.length)+192)*112<=_;omega):p:=h
theorem dD{p:Prop}(h:p:=by unfold jo;exact⟨_,_,rfl,hrep,by unfold jo;rfl⟩):p:=h
theorem dE{p:Prop}(h:p:=by show n-_<18446744073709551616;omega):p:=h
theorem dF{p:Prop}(h:p:=by simpa using hr):p:=h
theorem dG{p:Prop}(h:p:=by simp[Rep,kK.lM]):p:=h
theorem dH{p:Prop}(h:p:=by rw[h];rfl):p:=h
theorem dI{p:Prop}(h:p:=by first|assumption|exact SW.sz (by assumption)):p:=h
theorem dJ{p:Prop}(h:p:=by unfold oM;exact jG (by omega) (by omega) (iK rfl)):p:=h
theorem dK{p:Prop}(h:p:=by rw[h];simp):p:=h
theorem dL{p:Prop}(h:p:=by show l.length-_<18446744073709551616;omega):p:=h
theorem dM{p:Prop}(h:p:=by simp only[List.length_cons,List.length_nil,List.length_append];omega):p:=h
theorem dN{p:Prop}(h:p:=by show (2*(out.length+1)+192)*112<=_;omega):p:=h
theorem dO{p:Prop}(h:p:=by rw[aam];exact Nat.le_of_not_lt ht):p:=h
theorem dP{p:Prop}(h:p:=by simp[nz,hu]):p:=h
theorem dQ{p:Prop}(h:p:=by show u.length+1<=_;omega):p:=h
theorem dR{p:Prop}(h:p:=by simp only[iV];omega):p:=h
theorem dS{p:Prop}(h:p:=by simp[nK] at h):p:=h
theorem dU{p:Prop}(h:p:=by show (2*(u.length+1)+192)*24<=_;omega):p:=h
theorem dV{p:Prop}(h:p:=by simp[iV];omega):p:=h
theorem dW{p:Prop}(h:p:=by show ¬ (c.jO.length:Int)<(c.jO.length:Int);omega):p:=h
theorem dX{p:Prop}(h:p:=by cases hh:r.1 with|true=>rfl|false=>rw[hh] at h;cases h):p:=h
theorem dY{p:Prop}(h:p:=by show ((L.length:Int)-0).toNat<18446744073709551616;omega):p:=h
theorem dZ{p:Prop}(h:p:=by show ¬ (a.nR.length:Int)<(a.nR.length:Int);omega):p:=h
theorem eF{p:Prop}(h:p:=by rw[List.getElem?_append_right (by omega)];simpa using hv):p:=h
theorem eG{p:Prop}(h:p:=by intro e;cases e):p:=h
theorem eH{p:Prop}(h:p:=by unfold oM;exact xG (by omega) (by omega)):p:=h
theorem eP{p:Prop}(h:p:=by simp only[EP];simp[h]):p:=h
theorem eQ{p:Prop}(h:p:=by show t.length+1<=_;have:=hI.1;omega):p:=h
theorem eU{p:Prop}(h:p:=by rw[if_neg (by rw[h];simp)];show opts.length=_;omega):p:=h
theorem eX{p:Prop}(h:p:=by show out.length+y.1.length<=_;omega):p:=h
theorem eY{p:Prop}(h:p:=by show ¬ (s.oq.length:Int)<(s.oq.length:Int);omega):p:=h
theorem fA{p:Prop}(h:p:=by show ¬ (s.extra.length:Int)<(s.extra.length:Int);omega):p:=h
theorem fB{p:Prop}(h:p:=by simp[Rep];rfl):p:=h
theorem fC{p:Prop}(h:p:=by simp[uk];omega):p:=h
theorem fD{p:Prop}(h:p:=by rw[hb,hj]):p:=h
theorem fE{p:Prop}(h:p:=by show (2*(t.length+1)+192)*176<=_;have:=hI.1;omega):p:=h
theorem fF{p:Prop}(h:p:=by show l.length+1<=_;omega):p:=h
theorem fG{p:Prop}(h:p:=by rw[run (afR hu hinf g1 g2 g3 (by omega))];rfl):p:=h
theorem fH{p:Prop}(h:p:=by simp[Op.operands]):p:=h
theorem fJ{p:Prop}(h:p:=by simpa using hj):p:=h
theorem fK{p:Prop}(h:p:=by rwa [show i+(k+1)=i+1+k by omega]):p:=h
theorem fM{p:Prop}(h:p:=by simp[iV]):p:=h
theorem fO{p:Prop}(h:p:=by rw[d1];rcases c2 with c2|c2<;>rw[c2]<;>rfl):p:=h
theorem fP{p:Prop}(h:p:=by simp[Op.operands,Call.operands]):p:=h
theorem fQ{p:Prop}(h:p:=by show (2*((l.take i).length+1)+192)*24<=_;omega):p:=h
theorem fU{p:Prop}(h:p:=by assumption):p:=h
theorem fV{p:Prop}(h:p:=by subst hy;simp[Op.operands]):p:=h
theorem fZ{p:Prop}(h:p:=by simpa using hk):p:=h
theorem gm{p:Prop}(h:p:=by simpa using h1):p:=h
theorem gp{p:Prop}(h:p:=by simpa using h2):p:=h
theorem gq{p:Prop}(h:p:=by rw[if_pos h];simp;omega):p:=h
theorem gu{p:Prop}(h:p:=by show out.length+1<=_;omega):p:=h
theorem gz{p:Prop}(h:p:=by show t1.length+1<=_;omega):p:=h
theorem gB{p:Prop}(h:p:=by show t2.length+1<=_;omega):p:=h
theorem gG{p:Prop}(h:p:=by show o.length<=100;omega):p:=h
theorem gI{p:Prop}(h:p:=by show t.length<=i+1;omega):p:=h
theorem gJ{p:Prop}(h:p:=by rw[ho];exact h):p:=h
theorem gK{p:Prop}(h:p:=by simp[isQ] at hq):p:=h
theorem gQ{p:Prop}(h:p:=by exact iK trivial):p:=h
theorem gU{p:Prop}(h:p:=by cbv;exact ng):p:=h
theorem gV{p:Prop}(h:p:=by exact hk4 _ trivial):p:=h
theorem gW{p:Prop}(h:p:=by exact iK aJ):p:=h
theorem gX{p:Prop}(h:p:=by exact hk20 _ af):p:=h
theorem gY{p:Prop}(h:p:=by intro O;cbv;cases O;exact hR _ _ _ aj aj rfl):p:=h
theorem gZ{p:Prop}(h:p:=by intro O;cbv;cases O;exact hR _ oW):p:=h
theorem ig{p:Prop}(h:p:=by exact absurd ⟨λh2=>by omega,λh2=>by omega,λh2=>by omega⟩ hno):p:=h
theorem ik{p:Prop}(h:p:=by intro O;cbv;cases O;exact hR _ _ _ oW oW rfl):p:=h
theorem iq{p:Prop}(h:p:=by simp only[IW] at h |-;exact⟨_,_,h.2,λ_ hk=>⟨h.1,hk⟩⟩):p:=h
theorem iw{p:Prop}(h:p:=by exact .inl (Nat.le_trans H.qh.size h)):p:=h
theorem iC{p:Prop}(h:p:=by intro O;cbv;cases O;exact hR _ (d_l aN)):p:=h
theorem iD{p:Prop}(h:p:=by simp only[IW] at h |-;obtain⟨h0,j,h1,h2,h⟩:=h;exact⟨_,_,h,λ_ hk=>⟨h0,j,h1,h2,hk⟩⟩):p:=h
theorem iE{p:Prop}(h:p:=by simp only[Dh,I8,cond_true,cond_false];exact KS.refl _ _):p:=h
theorem iF{p:Prop}(h:p:=by exact iJ (λh1=>iK (decide_eq_false λh2=>hno ⟨λh2=>by omega,λ_=>⟨h1,h2⟩,λh2=>by omega⟩)) λ_=>iK rfl):p:=h
theorem iG{p:Prop}(h:p:=by intro k2 h2;exact iJ (λh=>h2 _ bu) λa=>iJ (λh=>h2 _ bu) λb=>iJ (λh=>h2 _ bu) λd=>h2 _ (by simp[a,b,d])):p:=h
theorem iH{p:Prop}(h:p:=by simp only[kK.lM] at h |-;obtain⟨row,h0,h⟩:=h;obtain⟨v,h1,h2⟩:=Af h;exact⟨v,_,h1,λ_ hk=>⟨row,h0,h2 _ hk⟩⟩):p:=h
end Go.Pv
namespace Go.Pv
open Go
structure Hdr where
 ν:Nat
 o:Nat
 cap:Nat
inductive PV where
 | bool (b:Bool)
 | sb (b:Bool)
 | int (k:IntKind) (n:Int)
 | si (k:IntKind) (n:Int)
 | str (s:ByteArray)
 | agg (cs:List PV)
 | IX (vs:List PV)
 | sl (sz:Nat) (es:List (List PV)) (full:Bool)
 | os (b r n:Nat)
 | lv (b c:Nat)
 | lp (b r c:Nat)
 | pp (cs:List PV)
 | ow (h:Hdr) (sz:Nat) (es:List (List PV))
 | bo (b r c:Nat) (h:Hdr) (sz n:Nat)
 | np (b r c:Nat) (h:Hdr) (sz j k:Nat)
 | yJ
 | fn (f:Nat) (caps:List PV)
 | RY
 | top
 | undef
 deriving Inhabited
inductive mJ where
 | var (ro:Bool) (row:List PV)
 | arr (ro:Bool) (sz:Nat) (rows:List (List PV))
 | pU (sz:Nat) (rows:List (List PV))
abbrev St:=List (Nat×Option mJ)
structure Env where
 tmps:List PV
 st:St
 next:Nat
structure kK where
 bin:BinOp->IntKind->Int->Int->Int
 cmp:BinOp->Int->Int->Bool
 conv:IntKind->Int->Int
 neg:IntKind->Int->Int
 beq:Bool->Bool->Bool
 band:Bool->Bool->Bool
 ajJ:BinOp->ByteArray->ByteArray->Bool
 slen:ByteArray->Int
 Dn:Int->Int->Int
 alI:Int->Int->Int
 len:List (List PV)->Int
 Kv:Nat->Int
 MB:Nat->Nat->Nat
 abD:Nat->Nat->Nat
 app:List (List PV)->List (List PV)->List (List PV)
 sub:List (List PV)->Nat->Nat->List (List PV)
 spl:List (List PV)->Nat->List (List PV)->List (List PV)
 JF:List (List PV)->Nat->List PV->List (List PV)
 rep:Nat->List PV->List (List PV)
 jD:List (List PV)->Nat
 br:Bool->(Unit->Prop)->(Unit->Prop)->Prop
 call:Nat->List PV->Env->Option (List PV)->Option (List PV)->List Nat->List PV->St->(PV->Env->Prop)->Prop
 abE:Nat->List PV->(PV->Prop)->Prop
 Zi:Nat->List PV->List PV->List PV->Env->(PV->Env->Prop)->Prop
 aeQ:Nat->List PV->(PV->Prop)->Prop
 ag3:Nat->List PV->(PV->mJ->Prop)->Prop
 ag4:Nat->List PV->St->List Nat->(PV->St->Nat->Prop)->Prop
 loop:Code->(Nat->Env->Prop)->Env->Prop
 seq:((Nat->Env->Prop)->Prop)->(Env->Prop)->(Nat->Env->Prop)->Prop
 idx:List (List PV)->Int->(List PV->Prop)->Prop
 ix:Nat->Int->(Nat->Prop)->Prop
 row:List (List PV)->Nat->(List PV->Prop)->Prop
 alJ:ByteArray->Int->(Int->Prop)->Prop
 div:BinOp->IntKind->Int->Int->(Int->Prop)->Prop
 shf:BinOp->IntKind->Int->Int->(Int->Prop)->Prop
 alK:ByteArray->ByteArray->(ByteArray->Prop)->Prop
 mks:Int->Int->Nat->(Nat->Prop)->Prop
 room:Nat->Nat->Prop->Prop
 slc:Nat->Int->Int->(Nat->Nat->Prop)->Prop
 ag5:ByteArray->Int->Int->(ByteArray->Prop)->Prop
 abG:List (List PV)->(Bool->Prop)->Prop
 toS:Nat->List (List PV)->(ByteArray->Prop)->Prop
 wk:List PV->(List PV->Prop)->Prop
 order:Array Oper->Prop->Prop
 last:Array Oper->Prop->Prop
 ajK:Array Oper->List (List Nat×List Nat×List Nat)->Prop->Prop
 nu:(Hdr->Prop)->Prop
 same:Hdr->Hdr->Prop->Prop
 fz:List (List PV)->List (List PV)
def kY:List PV->Nat->PV
 | [],_=>.undef
 | x::_,0=>x
 | _::l,n+1=>kY l n
def uX:List PV->Nat->PV->List PV
 | [],_,_=>[]
 | _::l,0,v=>v::l
 | x::l,n+1,v=>x::uX l n v
def pX:List PV->Nat
 | []=>0
 | _::l=>pX l+1
def RZ:Nat->List PV->List PV
 | 0,_=>[]
 | _+1,[]=>[]
 | n+1,x::l=>x::RZ n l
def Hf:Nat->List PV->List PV
 | 0,l=>l
 | _+1,[]=>[]
 | n+1,_::l=>Hf n l
def Dp:List PV->List PV->List PV
 | [],m=>m
 | x::l,m=>x::Dp l m
def nS:List PV->Nat->List PV->List PV
 | l,_,[]=>l
 | l,c,v::vs=>nS (uX l c v) (c+1) vs
def chunks (sz:Nat):Nat->List PV->List (List PV)
 | 0,_=>[]
 | n+1,l=>RZ sz l::chunks sz n (Hf sz l)
def kR:St->Nat->Option mJ
 | [],_=>none
 | (b,x)::l,c=>bif Nat.beq b c then x else kR l c
def rW:St->Nat->Option mJ->St
 | [],b,x=>[(b,x)]
 | (b',y)::l,b,x=>bif Nat.beq b' b then (b',x)::l else (b',y)::rW l b x
def lh:List (Nat×Option mJ)->St->St
 | [],s=>s
 | (b,x)::d,s=>lh d (rW s b x)
def MC:Value->PV
 | .bool b=>.bool b
 | .int k n=>.int k n
 | .string s=>.str s
 | .pointer none=>.yJ
 | .slice none 0 0=>.sl 0 [] true
 | .nilFunc=>.RY
 | _=>.top
def I9:List Value->List PV
 | []=>[]
 | v::vs=>MC v::I9 vs
def WJ:Value->PV
 | .agg cs=>.agg (I9 cs.toList)
 | v=>MC v
def nT:PV->List PV
 | .agg cs=>cs
 | v=>[v]
def xe:PV->Bool
 | .agg _|.IX _|.top|.undef=>false
 | _=>true
def jR:List PV->Bool
 | []=>true
 | v::vs=>xe v&&jR vs
def rG (E:Env):Option Nat->PV->Env
 | none,_=>E
 | some d,v=>{ E with tmps:=uX E.tmps d v }
def nz (P:Program)(t:TypeId):Bool :=
 match P.underlying t with
 | some (.struct _)|some (.array ..)=>true
 | _=>false
structure FI where
 off:Nat
 size:Nat
 agg:Bool
inductive TK where
 | oth
 | str
 | ptr
 | int (k:IntKind)
 | struct (fs:List FI)
 | arr (n sz:Nat) (agg:Bool)
 | slice (sz bytes:Nat) (zero:Option (List PV))
structure TI where
 ok:Bool
 agg:Bool
 size:Nat
 zero:Option (List PV)
 plain:Option (List Nat)
 kind:TK
def TI.bad:TI:={ ok:=false,agg:=false,size:=0,zero:=none,plain:=none,kind:=.oth }
structure Tab where
 ti:TypeId->TI
 gl:Nat->Option (List PV)
 vY:Nat
 cut:List Nat
 pU:Nat
 own:List (List (Nat×Bool))
 dcl:List (Nat×Nat)
instance:CoeFun Tab (λ_=>TypeId->TI):=⟨Tab.ti⟩
def tK (T:Tab)(tmps:List PV):Operand->PV
 | .tmp t=>kY tmps t
 | .const v=>WJ v
 | .func f=>.fn f []
 | .global g=>match T.gl g with|some cs=>.pp cs|none=>.top
def evO (T:Tab)(tmps:List PV):Option Operand->Option PV
 | none=>none
 | some x=>some (tK T tmps x)
def evA (T:Tab)(tmps:List PV):List Operand->List PV
 | []=>[]
 | x::l=>tK T tmps x::evA T tmps l
def lZ:Nat->Bool
 | 0=>false
 | _+1=>true
def xA:PV->Option (IntKind×Int)
 | .int k n|.si k n=>some (k,n)
 | _=>none
def Oq:PV->Option Bool
 | .bool b|.sb b=>some b
 | _=>none
def qF:BinOp->Bool
 | .add|.sub|.mul|.and|.or|.xor|.andNot=>true
 | _=>false
def zq:BinOp->Bool
 | .eql|.neq|.lss|.leq|.gtr|.geq=>true
 | _=>false
def kz (op:BinOp)(k:IntKind)(a b:Int):Int :=
 match op with
 | .add=>k.wrap (a+b)
 | .sub=>k.wrap (a-b)
 | .mul=>k.wrap (a*b)
 | .and=>k.wrap ((BitVec.ofInt k.bits a &&& BitVec.ofInt k.bits b).toNat)
 | .or=>k.wrap ((BitVec.ofInt k.bits a ||| BitVec.ofInt k.bits b).toNat)
 | .xor=>k.wrap ((BitVec.ofInt k.bits a ^^^ BitVec.ofInt k.bits b).toNat)
 | .andNot=>k.wrap ((BitVec.ofInt k.bits a &&& ~~~(BitVec.ofInt k.bits b)).toNat)
 | _=>0
def zZ (op:BinOp)(a b:Int):Bool :=
 match op with
 | .eql=>decide (a=b)
 | .neq=>!decide (a=b)
 | .lss=>decide (a<b)
 | .leq=>decide (a<=b)
 | .gtr=>decide (b<a)
 | .geq=>decide (b<=a)
 | _=>false
def lg (op:BinOp)(a b:ByteArray):Bool :=
 match op with
 | .eql=>decide (a=b)
 | .neq=>!decide (a=b)
 | .lss=>Op.bytesLess a.toList b.toList
 | .leq=>Op.bytesLess a.toList b.toList || decide (a=b)
 | .gtr=>!(Op.bytesLess a.toList b.toList || decide (a=b))
 | .geq=>!Op.bytesLess a.toList b.toList
 | _=>false
def sW:IntKind->IntKind->Bool
 | .i8,.i8|.i16,.i16|.i32,.i32|.i64,.i64|.u8,.u8|.u16,.u16|.u32,.u32|.u64,.u64=>true
 | _,_=>false
def eqC (S:kK):Nat->PV->PV->Option Bool
 | 0,x,y=>match xA x,xA y with
  | some (k,a),some (k',b)=>bif sW k k' then some (S.cmp .eql a b) else none
  | _,_=>none
 | 1,x,y=>match Oq x,Oq y with
  | some a,some b=>some (S.beq a b)
  | _,_=>none
 | 2,.str a,.str b=>some (S.ajJ .eql a b)
 | _,_,_=>none
def aan (S:kK):List Nat->List PV->List PV->Option Bool
 | [],[],[]=>some true
 | k::ks,x::xs,y::ys =>
  match eqC S k x y with
  | none=>none
  | some a=>match aan S ks xs ys with
   | none=>none
   | some b=>some (S.band a b)
 | _,_,_=>none
def abH:Nat->List Nat->List Nat
 | 0,_=>[]
 | n+1,l=>l++abH n l
def Qg (P:Program)(rec:TypeId->Option (List Nat)):List Field->Nat->Option (List Nat)
 | [],_=>some []
 | f :: fs, n => if f.offset = n ∧ f.name ≠ "_" ∧ P.info? f.type ≠ none then
   match rec f.type with
   | some s=>if P.cellsOf f.type=s.length/\0<s.length then
     match Qg P rec fs (n+s.length) with
     | some r=>some (s++r)
     | none=>none
    else none
   | none=>none
  else none
def xH (P:Program):Nat->TypeId->Option (List Nat)
 | 0,_=>none
 | d+1,t =>
  match P.underlying t with
  | some .bool=>some [1]
  | some (.int _)=>some [0]
  | some .string=>some [2]
  | some (.struct fs)=>if P.stoodInHeld t then none else Qg P (xH P d) fs.toList 0
  | some (.array n e)=>match xH P d e with
   | some s=>if P.cellsOf e=s.length/\P.info? e≠none then some (abH n s) else none
   | none=>none
  | _=>none
def isSpec:BinOp->Bool
 | .shl|.shr|.quo|.rem=>true
 | _=>false
def Dh:BinOp->Bool
 | .eql=>true
 | _=>false
def I8:BinOp->Bool
 | .neq=>true
 | _=>false
def isAdd:BinOp->Bool
 | .add=>true
 | _=>false
def Si (S:kK)(op:BinOp)(k:IntKind)(a:Int)(k' : IntKind)(b:Int)(K:PV->Prop):Prop :=
 match op with
 | .shl|.shr=>S.shf op k a b λn=>K (.si k n)
 | .quo|.rem=>bif sW k k' then S.div op k a b λn=>K (.si k n) else False
 | _=>False
def A8:PV->Bool
 | .lv _ _|.lp _ _ _|.pp _|.np _ _ _ _ _ _ _=>true
 | _=>false
def qN:PV->Bool
 | .yJ=>true
 | _=>false
def eqK (S:kK)(op:BinOp)(b:Bool)(K:PV->Prop):Prop :=
 bif Dh op then K (.sb b) else bif I8 op then K (.sb (S.beq b false)) else False
def eqL (op:BinOp)(b:Bool)(K:PV->Prop):Prop :=
 bif Dh op then K (.bool b) else bif I8 op then (match b with|true=>K (.bool false)|false=>K (.bool true)) else False
def AV (T:Tab)(S:kK)(op:BinOp)(t:TypeId)(x y:PV)(K:PV->Prop):Prop :=
 match x,y with
 | .int k a,.int k' b =>
  bif isSpec op then Si S op k a k' b K
  else bif sW k k' then (bif qF op then K (.int k (kz op k a b)) else bif zq op then K (.bool (zZ op a b)) else False) else False
 | .str a,.str b =>
  bif isAdd op then S.alK a b λc=>K (.str c)
  else bif zq op then K (.sb (S.ajJ op a b)) else False
 | .agg xs,.agg ys =>
  match T t with
  | { ok:=true,agg:=true,plain:=some ks,.. }=>(match aan S ks xs ys with
   | some b=>eqK S op b K
   | _=>False)
  | _=>False
 | x,y =>
  match xA x,xA y with
  | some (k,a),some (k',b) =>
   bif isSpec op then Si S op k a k' b K
   else bif sW k k' then (bif qF op then K (.si k (S.bin op k a b)) else bif zq op then K (.sb (S.cmp op a b)) else False) else False
  | _,_ =>
   match Oq x,Oq y with
   | some a,some b=>(match T t with
    | { ok:=true,agg:=false,plain:=some [1],.. }=>eqK S op (S.beq a b) K
    | _=>False)
   | _,_ =>
    match T t with
    | { ok:=true,kind:=.ptr,.. } =>
     bif qN x&&qN y then eqL op true K
     else bif (qN x&&A8 y) || (A8 x&&qN y) then eqL op false K
     else False
    | _=>False
def FV (place:Nat->Option (Nat×Nat)):List PV->List (Nat×PV)->Option (List PV)
 | cells,[]=>some cells
 | cells,(i,v)::rest =>
  match place i with
  | none=>none
  | some (off,size) =>
   bif Nat.beq (pX (nT v)) size&&Nat.ble (off+size) (pX cells) then FV place (nS cells off (nT v)) rest else none
def evP (T:Tab)(tmps:List PV):List (Nat×Operand)->List (Nat×PV)
 | []=>[]
 | (i,x)::l=>(i,tK T tmps x)::evP T tmps l
def Ag:List (Nat×PV)->Bool
 | []=>true
 | (_,.top)::_=>false
 | _::l=>Ag l
def Ja (P:Program)(t:TypeId):Option (List PV) :=
 match P.info? t with
 | some i=>match i.zero with
  | some z=>some (nT (WJ z))
  | none=>none
 | none=>none
def Oi:Nat->List PV->List PV
 | 0,_=>[]
 | n+1,l=>Dp l (Oi n l)
def FY:List FI->Nat->Option FI
 | [],_=>none
 | f::_,0=>some f
 | _::l,n+1=>FY l n
def Ot (fs:List FI)(i:Nat):Option (Nat×Nat) :=
 match FY fs i with
 | some f=>some (f.off,f.size)
 | none=>none
def ag6 (P:Program)(t:TypeId):TI :=
 match P.info? t,P.underlying t with
 | some i,some d =>
  { ok:=true,agg:=nz P t,size:=i.size,zero:=Ja P t,plain:=if P.eqGuardType P.depth t then none else xH P 20 t,kind:=match d with
    | .struct fs=>.struct (fs.toList.map λf=>{ off:=f.offset,size:=P.cellsOf f.type,agg:=nz P f.type })
    | .array n e=>.arr n (P.cellsOf e) (nz P e)
    | .slice e=>.slice (P.cellsOf e) (P.bytesOf e) (Ja P e)
    | .int k=>.int k
    | .string=>.str
    | .pointer _=>.ptr
    | _=>.oth }
 | _,_=>.bad
def lW (P:Program)(T:Tab):Prop:=∀ t,(T t).ok=true->T t=ag6 P t/\t<P.types.size
abbrev Dl:=List (Nat×Option mJ)
def rowsOf (S:kK)(esz:Nat)(lk:Nat->Option mJ):PV->Option (List (List PV))
 | .sl sz es _=>bif Nat.beq sz esz then some es else (match es with|[]=>some []|_::_=>none)
 | .os b r n=>match lk b with
  | some (.arr _ sz rows)=>bif Nat.beq sz esz then some (S.sub rows r n) else none
  | _=>none
 | _=>none
def loadRow (agg:Bool)(size:Nat)(row:List PV)(c:Nat)(K:PV->Prop):Prop :=
 bif agg then
  (bif Nat.ble (c+size) (pX row) then K (.agg (RZ size (Hf c row))) else False)
 else (bif Nat.blt c (pX row) then K (kY row c) else False)
def qo (size:Nat)(row:List PV)(c:Nat)(v:PV)(K:List PV->Prop):Prop :=
 bif jR (nT v)&&Nat.beq (pX (nT v)) size&&Nat.ble (c+pX (nT v)) (pX row) then K (nS row c (nT v)) else False
def Kw (S:kK)(lk:Nat->Option mJ):List PV->Option (List PV×Dl)
 | []=>some ([],[])
 | v::vs=>match Kw S lk vs with
  | none=>none
  | some (vs',δ)=>match v with
   | .os b r n=>(match lk b with
    | some (.arr _ sz rows)=>some (.sl sz (S.sub rows r n) false::vs',(b,some (.arr true sz rows))::δ)
    | _=>none)
   | .lv _ _|.lp _ _ _|.fn _ (_::_)|.agg _|.IX _|.top|.undef|.ow _ _ _|.bo _ _ _ _ _ _|.np _ _ _ _ _ _ _=>none
   | v=>some (v::vs',δ)
def anU (_:Nat):Option mJ:=none
def Vt:List PV->Bool
 | []=>false
 | .sl _ _ _::_=>true
 | _::l=>Vt l
def ag7 (pU:Nat)(esz:Nat)(z:List PV)(rows:List (List PV)):mJ :=
 match pU with
 | 0=>.arr false esz rows
 | _+1=>(match Vt z with
  | true=>.pU esz rows
  | false=>.arr false esz rows)
def hd0:Hdr:=⟨0,0,0⟩
def owC (n:Nat)(v:PV):PV :=
 match v with
 | .sl _ es f=>(match f with
  | true=>(match es with
   | []=>.ow hd0 n []
   | _::_=>v)
  | false=>v)
 | v=>v
def owZ (n:Nat):List PV->List PV
 | []=>[]
 | v::l=>owC n v::owZ n l
def alL (S:kK)(b r c:Nat):PV->PV
 | .ow h sz es=>.bo b r c h sz (S.jD es)
 | v=>v
def ag8 (S:kK)(b r:Nat):Nat->List PV->List PV
 | _,[]=>[]
 | c,v::l=>alL S b r c v::ag8 S b r (c+1) l
def abI (b:Nat):Dl->Bool
 | []=>false
 | (c,_)::l=>Nat.beq c b || abI b l
def WM:List PV->Bool
 | []=>false
 | v::vs=>match v with
  | .int _ _=>true
  | .bool _=>true
  | .sl _ es f=>(match f with
   | true=>(match es with
    | []=>true
    | _::_=>WM vs)
   | false=>WM vs)
  | _=>WM vs
def wkC (S:kK)(cs:List PV)(K:List PV->Prop):Prop :=
 match WM cs with
 | true=>S.wk cs K
 | false=>K cs
def wkN (S:kK)(pU:Nat)(cs:List PV)(K:List PV->Prop):Prop :=
 match pU with
 | 0=>wkC S cs K
 | n+1=>(match Vt cs with
  | true=>K (owZ n cs)
  | false=>wkC S cs K)
def Sj:Operand->Bool
 | .const (.slice none 0 0)=>true
 | _=>false
def nK (T:Tab)(S:kK)(o:Op)(tmps:List PV)(lk:Nat->Option mJ)(id:Nat)(K:PV->Dl->Prop):Prop :=
 match o with
 | .move x|.assign x=>K (tK T tmps x) []
 | .pick c a b =>
  match tK T tmps c with
  | .bool true=>K (tK T tmps a) []
  | .bool false=>K (tK T tmps b) []
  | _=>False
 | .alloc t =>
  match T t with
  | { ok:=true,zero:=some z,.. }=>K (.lv id 0) [(id,some (.var false z))]
  | _=>False
 | .box _ x =>
  match tK T tmps x with
  | .top=>False
  | v=>K (.lv id 0) [(id,some (.var false (nT v)))]
 | .fieldAddr t x f =>
  match T t with
  | { ok:=true,kind:=.struct fs,.. }=>(match FY fs f with
   | some fd=>bif lZ fd.size then (match tK T tmps x with
    | .lv b c=>K (.lv b (c+fd.off)) []
    | .lp b r c=>K (.lp b r (c+fd.off)) []
    | .np b r c h sz j k=>K (.np b r c h sz j (k+fd.off)) []
    | .pp cs=>bif Nat.ble fd.off (pX cs) then K (.pp (Hf fd.off cs)) [] else False
    | _=>False) else False
   | none=>False)
  | _=>False
 | .field t x f =>
  match T t with
  | { ok:=true,kind:=.struct fs,.. }=>(match FY fs f with
   | some fd=>(match tK T tmps x with
    | .agg cs=>bif lZ fd.size then loadRow fd.agg fd.size cs fd.off (λv=>K v []) else False
    | _=>False)
   | none=>False)
  | _=>False
 | .load t x =>
  match T t with
  | { ok:=true,agg,size,.. }=>(match tK T tmps x with
   | .lv b c=>(match lk b with
    | some (.var _ row)=>loadRow agg size row c λv=>K v []
    | _=>False)
   | .lp b r c=>(match lk b with
    | some (.arr _ _ rows)=>S.row rows r λrow=>loadRow agg size row c λv=>K v []
    | some (.pU _ rows)=>S.row rows r λrow=>loadRow agg size (ag8 S b r 0 row) c λv=>K v []
    | _=>False)
   | .np b r c h sz j k=>(match lk b with
    | some (.pU _ rows)=>S.row rows r λrow=>(match kY row c with
     | .ow h' sz' es=>bif Nat.beq sz' sz then S.same h h' (S.row es j λer=>loadRow agg size er k λv=>K v []) else False
     | _=>False)
    | _=>False)
   | .pp cs=>loadRow agg size cs 0 λv=>K v []
   | _=>False)
  | _=>False
 | .store t x y =>
  match T t with
  | { ok:=true,size,.. }=>(match tK T tmps x with
   | .lv b c=>(match lk b with
    | some (.var false row)=>qo size row c (tK T tmps y) λrow'=>K .undef [(b,some (.var false row'))]
    | _=>False)
   | .lp b r c=>(match lk b with
    | some (.arr false sz rows)=>(match Kw S lk (nT (tK T tmps y)) with
     | some (cs,δ)=>bif abI b δ then False else wkC S cs λcs=>S.row rows r λrow=>qo size row c (.agg cs) λrow'=>K .undef (δ++[(b,some (.arr false sz (S.JF rows r row')))])
     | none=>False)
    | some (.pU sz rows)=>(match tK T tmps y with
     | .os id r0 n=>(match lk id with
      | some (.arr false sz' rows')=>bif Nat.beq size 1&&Nat.beq id b then False else S.row rows r λrow=>S.nu λh =>
        qo size row c (.ow h sz' (S.sub rows' r0 n)) λrow'=>K .undef [(id,none),(b,some (.pU sz (S.JF rows r row')))]
      | _=>False)
     | y=>(match Kw S lk (nT y) with
      | some (cs,[])=>S.row rows r λrow=>qo size row c (.agg cs) λrow'=>K .undef [(b,some (.pU sz (S.JF rows r row')))]
      | _=>False))
    | _=>False)
   | .np b r c h sz j k=>(match lk b with
    | some (.pU sz0 rows)=>(match Kw S anU (nT (tK T tmps y)) with
     | some (cs,[])=>wkC S cs λcs=>S.row rows r λrow=>(match kY row c with
      | .ow h' sz' es=>bif Nat.beq sz' sz then S.same h h' (S.row es j λer=>qo size er k (.agg cs) λer' =>
        K .undef [(b,some (.pU sz0 (S.JF rows r (uX row c (.ow h' sz' (S.JF es j er'))))))]) else False
      | _=>False)
     | _=>False)
    | _=>False)
   | _=>False)
  | _=>False
 | .nilCheck x =>
  match tK T tmps x with
  | .lv b c=>K (.lv b c) []
  | .lp b r c=>K (.lp b r c) []
  | .pp cs=>K (.pp cs) []
  | .np b r c h sz j k=>K (.np b r c h sz j k) []
  | .fn f cs=>K (.fn f cs) []
  | _=>False
 | .binOp op t x y _ =>
  match Sj y with
  | true=>(match T t with
   | { ok:=true,kind:=.slice _ _ _,.. }=>(match tK T tmps x with
    | .sl _ es _=>S.abG es λb=>eqL op b λv=>K v []
    | _=>False)
   | _=>False)
  | false=>(match T t with
   | { ok:=true,.. }=>AV T S op t (tK T tmps x) (tK T tmps y) λv=>K v []
   | _=>False)
 | .unOp .not _ x =>
  match tK T tmps x with
  | .bool true=>K (.bool false) []
  | .bool false=>K (.bool true) []
  | .sb b=>K (.sb (S.beq b false)) []
  | _=>False
 | .unOp .neg _ x =>
  match tK T tmps x with
  | .int k n=>K (.int k (k.wrap (0-n))) []
  | .si k n=>K (.si k (S.neg k n)) []
  | _=>False
 | .convert s d x =>
  match T s,T d with
  | { ok:=true,kind:=.slice _ _ _,.. },{ ok:=true,kind:=.str,.. }=>(match rowsOf S 1 lk (tK T tmps x) with
   | some rows=>S.toS s rows λb=>K (.str b) []
   | none=>False)
  | { ok:=true,.. },{ ok:=true,kind:=.int k,.. }=>(match tK T tmps x with
   | .int _ n=>K (.int k (k.wrap n)) []
   | .si _ n=>K (.si k (S.conv k n)) []
   | _=>False)
  | _,_=>False
 | .indexAddr t x i =>
  match T t with
  | { ok:=true,kind:=.slice esz _ _,.. } =>
   (match tK T tmps x,xA (tK T tmps i) with
   | .sl sz es _,some (_,n)=>bif lZ esz&&Nat.beq sz esz then S.idx es n λrow=>K (.pp row) [] else False
   | .os b r len,some (_,n)=>(match lk b with
    | some (.arr _ sz _)=>bif lZ esz&&Nat.beq sz esz then S.ix len n λj=>K (.lp b (S.MB r j) 0) [] else False
    | some (.pU sz _)=>bif lZ esz&&Nat.beq sz esz then S.ix len n λj=>K (.lp b (S.MB r j) 0) [] else False
    | _=>False)
   | .bo b r c h sz len,some (_,n)=>bif lZ esz&&Nat.beq sz esz then S.ix len n λj=>K (.np b r c h sz j 0) [] else False
   | _,_=>False)
  | { ok:=true,kind:=.arr len esz _,.. }=>bif lZ esz then
   (match tK T tmps i with
   | .int _ (.ofNat n)=>bif Nat.blt n len then (match tK T tmps x with
    | .lv b c=>K (.lv b (c+n*esz)) []
    | .lp b r c=>K (.lp b r (c+n*esz)) []
    | .pp cs=>bif Nat.ble (n*esz) (pX cs) then K (.pp (Hf (n*esz) cs)) [] else False
    | _=>False) else False
   | .si _ n=>S.ix len n λj=>(match tK T tmps x with
    | .lv b c=>K (.lv b (c+j*esz)) []
    | .lp b r c=>K (.lp b r (c+j*esz)) []
    | .pp cs=>bif Nat.ble (j*esz) (pX cs) then K (.pp (Hf (j*esz) cs)) [] else False
    | _=>False)
   | _=>False) else False
  | _=>False
 | .index t x i =>
  match T t,tK T tmps x,xA (tK T tmps i) with
  | { ok:=true,kind:=.str,.. },.str s,some (_,n)=>S.alJ s n λc=>K (.si .u8 c) []
  | { ok:=true,kind:=.arr len esz agg,.. },.agg cs,some (_,n)=>bif lZ esz then S.ix len n (λj=>loadRow agg esz cs (j*esz) λv=>K v []) else False
  | _,_,_=>False
 | .extract t i =>
  match tK T tmps t with
  | .IX vs=>bif Nat.blt i (pX vs) then K (kY vs i) [] else False
  | _=>False
 | .build t parts =>
  match T t with
  | { ok:=true,zero:=some z,kind:=.struct fs,.. } =>
   bif Ag (evP T tmps parts.toList) then (match FV (Ot fs) z (evP T tmps parts.toList) with
    | some cs=>K (.agg cs) []
    | none=>False) else False
  | { ok:=true,zero:=some z,kind:=.arr _ esz _,.. } =>
   bif Ag (evP T tmps parts.toList) then (match FV (λi=>some (i*esz,esz)) z (evP T tmps parts.toList) with
    | some cs=>K (.agg cs) []
    | none=>False) else False
  | _=>False
 | .buildSlice t len parts =>
  match T t with
  | { ok:=true,kind:=.slice esz _ (some z),.. } =>
    bif lZ esz&&Nat.beq (pX z) esz&&Nat.ble (len*esz) 16777216&&Ag (evP T tmps parts.toList) then
     (match FV (λi=>some (i*esz,esz)) (Oi len z) (evP T tmps parts.toList) with
     | some cs=>(match Kw S lk cs with
      | some (cs,δ)=>wkC S cs λcs=>K (.os id 0 len) (δ++[(id,some (.arr false esz (chunks esz len cs)))])
      | none=>False)
     | none=>False)
    else False
  | _=>False
 | .makeFunc (.func f) first captured =>
  match first.toList with
  | []=>K (.fn f (evA T tmps captured.toList)) []
  | _=>False
 | .makeSlice t l c =>
  match T t,xA (tK T tmps l),xA (tK T tmps c) with
  | { ok:=true,kind:=.slice esz bytes (some z),.. },some (_,n),some (_,m) =>
    bif lZ esz&&Nat.beq (pX z) esz&&jR z then
     S.mks n m bytes λj=>wkN S T.pU z λz2=>K (.os id 0 j) [(id,some (ag7 T.pU esz z (S.rep j z2)))]
    else False
  | _,_,_=>False
 | .slice t x lo hi mx =>
  match T t,tK T tmps x,evO T tmps lo,evO T tmps hi,evO T tmps mx with
  | { ok:=true,kind:=.slice esz _ _,.. },.sl sz es full,l,h,none=>bif lZ esz&&Nat.beq sz esz then
   (match h with
   | none=>match l with
    | none=>K (.sl sz es full) []
    | some lv=>match xA lv with
     | some (_,a)=>S.slc (S.jD es) a (S.len es) λi j=>K (.sl sz (S.sub es i (S.abD j i)) full) []
     | none=>False
   | some hv=>match xA hv with
    | some (_,b)=>match l with
     | none=>S.slc (S.jD es) 0 b λi j=>K (.sl sz (S.sub es i (S.abD j i)) false) []
     | some lv=>match xA lv with
      | some (_,a)=>S.slc (S.jD es) a b λi j=>K (.sl sz (S.sub es i (S.abD j i)) false) []
      | none=>False
    | none=>False) else False
  | { ok:=true,kind:=.slice esz _ _,.. },.os b r n,l,h,none =>
   (match lk b with
   | some (.arr _ sz _)=>bif lZ esz&&Nat.beq sz esz then
    (match h with
    | none=>match l with
     | none=>K (.os b r n) []
     | some lv=>match xA lv with
      | some (_,a)=>S.slc n a (S.Kv n) λi j=>K (.os b (S.MB r i) (S.abD j i)) []
      | none=>False
    | some hv=>match xA hv with
     | some (_,c)=>match l with
      | none=>S.slc n 0 c λi j=>K (.os b (S.MB r i) (S.abD j i)) []
      | some lv=>match xA lv with
       | some (_,a)=>S.slc n a c λi j=>K (.os b (S.MB r i) (S.abD j i)) []
       | none=>False
     | none=>False) else False
   | _=>False)
  | { ok:=true,kind:=.slice esz _ _,.. },.sl _ _ _,none,some (.int _ 0),some (.int _ 0)=>bif lZ esz then K (.sl esz [] true) [] else False
  | { ok:=true,kind:=.slice esz _ _,.. },.os _ _ _,none,some (.int _ 0),some (.int _ 0)=>bif lZ esz then K (.sl esz [] true) [] else False
  | { ok:=true,kind:=.str,.. },.str s,l,h,none =>
   (match l with
   | none=>match h with
    | none=>K (.str s) []
    | some hv=>match xA hv with
     | some (_,b)=>S.ag5 s 0 b λs'=>K (.str s') []
     | none=>False
   | some lv=>match xA lv with
    | some (_,a)=>match h with
     | none=>S.ag5 s a (S.slen s) λs'=>K (.str s') []
     | some hv=>match xA hv with
      | some (_,b)=>S.ag5 s a b λs'=>K (.str s') []
      | none=>False
    | none=>False)
  | { ok:=true,kind:=.arr n esz _,.. },.lv b c,none,none,none =>
   (match lk b with
   | some (.var _ row)=>bif lZ esz&&Nat.ble (c+n*esz) (pX row) then
     (match Kw S (λ_=>none) row with
     | some _=>K (.sl esz (chunks esz n (Hf c row)) true) [(b,some (.var true row))]
     | none=>False) else False
   | _=>False)
  | { ok:=true,kind:=.arr n esz _,.. },.pp cs,none,none,none =>
   bif lZ esz&&jR cs&&Nat.ble (n*esz) (pX cs) then K (.sl esz (chunks esz n cs) true) [] else False
  | _,_,_,_,_=>False
 | .call { callee:=.builtin b,args,argTypes } =>
  match b,evA T tmps args.toList,argTypes.toList with
  | .len,[.str s],[t]=>(match T t with|{ ok:=true,kind:=.str,.. }=>K (.si .i64 (S.slen s)) []|_=>False)
  | .len,[.sl _ es _],[t]=>(match T t with|{ ok:=true,kind:=.slice _ _ _,.. }=>K (.si .i64 (S.len es)) []|_=>False)
  | .len,[.bo _ _ _ _ _ n],[t]=>(match T t with|{ ok:=true,kind:=.slice _ _ _,.. }=>K (.si .i64 (S.Kv n)) []|_=>False)
  | .len,[.os _ _ n],[t]=>(match T t with|{ ok:=true,kind:=.slice _ _ _,.. }=>K (.si .i64 (S.Kv n)) []|_=>False)
  | .min,[x,y],_=>(match x,y with
   | .int k a,.int k' b=>bif sW k k' then K (.int k (if b<a then b else a)) [] else False
   | x,y=>match xA x,xA y with
    | some (k,a),some (k',b)=>bif sW k k' then K (.si k (S.Dn a b)) [] else False
    | _,_=>False)
  | .max,[x,y],_=>(match x,y with
   | .int k a,.int k' b=>bif sW k k' then K (.int k (if a<b then b else a)) [] else False
   | x,y=>match xA x,xA y with
    | some (k,a),some (k',b)=>bif sW k k' then K (.si k (S.alI a b)) [] else False
    | _,_=>False)
  | .append,[s,x],t::u::_ =>
   (match T t,T u with
   | { ok:=true,kind:=.slice esz bytes (some z),.. },{ ok:=true,kind:=.slice _ _ _,.. } =>
    bif lZ esz&&Nat.beq (pX z) esz then
     (match s,rowsOf S esz lk x with
     | .sl _ [] true,some new =>
      S.room (S.jD new) bytes (K (.os id 0 (S.jD new)) [(id,some (.arr false esz new))])
     | .os b r n,some new=>(match lk b with
      | some (.arr false sz rows)=>bif Nat.beq sz esz then
        S.room (S.MB n (S.jD new)) bytes (K (.os id 0 (S.MB n (S.jD new))) [(b,none),(id,some (.arr false sz (S.app (S.sub rows r n) new)))])
       else False
      | _=>False)
     | _,_=>False) else False
   | _,_=>False)
  | .clear,[.os b r n],t::_ =>
   (match T t with
   | { ok:=true,kind:=.slice esz _ (some z),.. } =>
    (match lk b with
    | some (.arr false sz rows)=>bif Nat.beq sz esz&&Nat.beq (pX z) sz&&lZ sz&&jR z then
      wkC S z λz2=>K (.IX []) [(b,some (.arr false sz (S.spl rows r (S.rep n z2))))] else False
    | _=>False)
   | _=>False)
  | _,_,_=>False
 | _=>False
def Oj (f:PV->Option PV):List PV->Option (List PV)
 | []=>some []
 | c::cs=>match f c with
  | none=>none
  | some c=>match Oj f cs with
   | none=>none
   | some cs=>some (c::cs)
def frz (S:kK)(lk:Nat->Option mJ):Nat->PV->Option PV
 | 0,_=>none
 | d+1,v =>
  match v with
  | .bool b=>some (.sb b)
  | .sb b=>some (.sb b)
  | .int k n=>some (.si k n)
  | .si k n=>some (.si k n)
  | .str s=>some (.str s)
  | .yJ=>some .yJ
  | .RY=>some .RY
  | .sl sz es _=>some (.sl sz es false)
  | .pp cs=>some (.pp cs)
  | .agg cs=>match Oj (frz S lk d) cs with|some cs=>some (.agg cs)|none=>none
  | .IX cs=>match Oj (frz S lk d) cs with|some cs=>some (.IX cs)|none=>none
  | .fn f cs=>match Oj (frz S lk d) cs with|some cs=>some (.fn f cs)|none=>none
  | .lv b c=>match lk b with
   | some (.var _ row)=>match Oj (frz S lk d) (Hf c row) with|some cs=>some (.pp cs)|none=>none
   | _=>none
  | .os b r n=>match lk b with
   | some (.arr _ sz rows)=>some (.sl sz (S.sub rows r n) false)
   | some (.pU sz rows)=>some (.sl sz (S.fz (S.sub rows r n)) false)
   | _=>none
  | _=>none
def gd (S:kK)(all:Array Oper)(g:Option (Nat×Bool))(E:Env)(run skip:Env->Prop):Prop :=
 match g with
 | none=>run E
 | some (j,want) =>
  match all[j]? with
  | some o=>match o.dst with
   | some d=>match kY E.tmps d with
    | .bool true=>(match want with|true=>run E|false=>skip E)
    | .bool false=>(match want with|true=>skip E|false=>run E)
    | .sb b=>S.br b
      (λ_=>match want with|true=>run (rG E (some d) (.bool true))|false=>skip (rG E (some d) (.bool true)))
      (λ_=>match want with|true=>skip (rG E (some d) (.bool false))|false=>run (rG E (some d) (.bool false)))
    | .undef=>skip E
    | _=>False
   | none=>False
  | none=>False
def Di:Dl->Nat->Nat
 | [],n=>n
 | _::_,n=>n+1
def abJ (f:PV->Bool):List PV->Bool
 | []=>true
 | c::cs=>f c&&abJ f cs
def Ky:Nat->PV->Bool
 | 0,_=>false
 | d+1,v =>
  match v with
  | .bool _|.sb _|.int _ _|.si _ _|.str _|.yJ|.RY=>true
  | .agg cs=>abJ (Ky d) cs
  | .IX cs=>abJ (Ky d) cs
  | _=>false
def Aa:List Nat->Nat->Bool
 | [],_=>false
 | b::l,c=>bif Nat.beq b c then true else Aa l c
def ixN:List Nat->Nat->Option Nat
 | [],_=>none
 | b::l,c=>bif Nat.beq b c then some 0 else match ixN l c with|some i=>some (i+1)|none=>none
def adu:List Nat->List Nat->List Nat
 | [],m=>m
 | b::l,m=>b::adu l m
def Ou:List Nat->Nat->List Nat
 | [],c=>[c]
 | b::l,c=>b::Ou l c
def aao:List Nat->Bool
 | []=>true
 | b::l=>bif Aa l b then false else aao l
def ltN (n:Nat):List Nat->Bool
 | []=>true
 | b::l=>Nat.blt b n&&ltN n l
def oN:List Nat->Nat
 | []=>0
 | _::l=>oN l+1
def Zj:List Nat->Nat->Option Nat
 | [],_=>none
 | b::_,0=>some b
 | _::l,n+1=>Zj l n
def upN:Nat->Nat->List Nat
 | _,0=>[]
 | i,n+1=>i::upN (i+1) n
def Jb (f:List Nat->PV->List Nat):List Nat->List PV->List Nat
 | acc,[]=>acc
 | acc,v::vs=>Jb f (f acc v) vs
def IY (f:PV->PV):List PV->List PV
 | []=>[]
 | v::vs=>f v::IY f vs
def MF (st:St):Nat->List Nat->PV->List Nat
 | 0,acc,_=>acc
 | d+1,acc,v=>match v with
  | .os b _ _=>bif Aa acc b then acc else Ou acc b
  | .lp b _ _=>bif Aa acc b then acc else Ou acc b
  | .bo b _ _ _ _ _=>bif Aa acc b then acc else Ou acc b
  | .np b _ _ _ _ _ _=>bif Aa acc b then acc else Ou acc b
  | .lv b _=>bif Aa acc b then acc else match kR st b with
   | some (.var _ row)=>Jb (MF st d) (Ou acc b) row
   | _=>Ou acc b
  | .agg cs=>Jb (MF st d) acc cs
  | .IX cs=>Jb (MF st d) acc cs
  | .fn _ cs=>Jb (MF st d) acc cs
  | _=>acc
def ER (f:Nat->Option Nat):Nat->PV->PV
 | 0,_=>.top
 | d+1,v=>match v with
  | .os b r n=>match f b with|some i=>.os i r n|none=>.top
  | .lp b r c=>match f b with|some i=>.lp i r c|none=>.top
  | .lv b c=>match f b with|some i=>.lv i c|none=>.top
  | .agg cs=>.agg (IY (ER f d) cs)
  | .IX cs=>.IX (IY (ER f d) cs)
  | .fn k cs=>.fn k (IY (ER f d) cs)
  | .bo b r c h sz n=>match f b with|some i=>.bo i r c h sz n|none=>.top
  | .np b r c h sz j k=>match f b with|some i=>.np i r c h sz j k|none=>.top
  | v=>v
def Hg (f:Nat->Option Nat):Option mJ->Option mJ
 | some (.var ro row)=>some (.var ro (IY (ER f 8) row))
 | x=>x
def Hl (f:Nat->Option Nat)(st:St):Nat->List Nat->St
 | _,[]=>[]
 | i,b::l=>(i,Hg f (kR st b))::Hl f st (i+1) l
def QO:List Nat->Nat->List PV->List PV
 | _,_,[]=>[]
 | [],i,_::l=>.top::QO [] (i+1) l
 | k::ks,i,x::l=>bif Nat.beq k i then x::QO ks (i+1) l else .top::QO (k::ks) (i+1) l
def WN (st:St):List Nat->List Nat->List Nat
 | acc,[]=>acc
 | acc,b::l=>match kR st b with
  | some (.var _ row)=>WN st (Jb (MF st 8) acc row) l
  | _=>WN st acc l
def WO (m:Nat)(st:St)(vs:List PV):List Nat:=Jb (MF st 8) (WN st (upN 0 m) (upN 0 m)) vs
def WQ (ρ:List Nat)(ts:List PV)(st:St):Env:=⟨IY (ER (ixN ρ) 8) ts,Hl (ixN ρ) st 0 ρ,oN ρ⟩
def QY (m:Nat)(keep:List Nat)(E:Env):Env :=
 match QO keep 0 E.tmps with
 | ts=>WQ (WO m E.st ts) ts E.st
def Vu (args:List PV)(st:St):List Nat:=Jb (MF st 8) [] args
def Hm (ρ:List Nat)(next:Nat)(i:Nat):Option Nat :=
 match Zj ρ i with
 | some b=>some b
 | none=>some (next+(i-oN ρ))
def adv (f:Nat->Option Nat)(st1:St):Nat->List Nat->St->St
 | _,[],st=>st
 | i,b::l,st=>adv f st1 (i+1) l (rW st b (Hg f (kR st1 i)))
def VY (ρ:List Nat)(E:Env)(st1:St)(n1:Nat):Env :=
 ⟨E.tmps,adv (Hm ρ E.next) st1 0 (adu ρ (upN E.next (n1-oN ρ))) E.st,E.next+(n1-oN ρ)⟩
def adw (st:St)(b:Nat):Option mJ :=
 match kR st b with
 | some (.var true row)=>some (.var true row)
 | some (.arr true sz rows)=>some (.arr true sz rows)
 | _=>none
def roS (st:St):List Nat->St
 | []=>st
 | b::l=>match kR st b with
  | some (.var _ row)=>roS (rW st b (some (.var true row))) l
  | some (.arr _ sz rows)=>roS (rW st b (some (.arr true sz rows))) l
  | _=>roS st l
def tY:St->Bool
 | []=>true
 | (_,some (.pU _ _))::_=>false
 | _::l=>tY l
def WR (S:kK)(k:Nat)(args:List PV)(E:Env)(K:PV->Env->Prop):Prop :=
 match Oj (frz S (adw E.st) 6) args with
 | some as=>S.Zi k args as (IY (ER (ixN []) 8) as) E K
 | none=>match Vu args E.st with
  | ρ=>S.call k args E (Oj (frz S (kR E.st) 6) args) (Oj (frz S (adw (roS E.st ρ)) 6) args) ρ (IY (ER (ixN ρ) 8) args) (Hl (ixN ρ) E.st 0 ρ) K
def aln (S:kK)(k:Nat)(args:List PV)(lk:Nat->Option mJ)(K:PV->Prop):Prop :=
 match Oj (frz S (λb=>match lk b with|some (.var true row)=>some (.var true row)|some (.arr true sz rows)=>some (.arr true sz rows)|_=>none) 6) args with
 | some as=>S.abE k as K
 | none=>match Oj (frz S lk 6) args with
  | some as=>S.aeQ k as K
  | none=>False
def anV (T:Tab)(t:TypeId):Bool :=
 match T t with
 | { ok:=true,kind:=.slice esz _ (some z),.. }=>Nat.beq esz 1&&Vt z
 | _=>false
def alM (T:Tab)(S:kK)(t:TypeId)(len:Nat)(parts:Array (Nat×Operand))(tmps:List PV)(lk:Nat->Option mJ)(id:Nat)(K:PV->Dl->Prop):Prop :=
 match T t with
 | { ok:=true,kind:=.slice esz _ (some z),.. } =>
  bif lZ esz&&Nat.beq (pX z) esz&&Nat.ble (len*esz) 16777216&&Ag (evP T tmps parts.toList)&&Nat.beq esz 1 then
   (match FV (λi=>some (i*esz,esz)) (Oi len z) (evP T tmps parts.toList),len with
   | some [],0=>K (.os id 0 0) [(id,some (.pU 1 []))]
   | some [.os b r n],1=>(match lk b with
    | some (.arr false sz rows)=>bif Nat.beq b id then False else S.nu λh=>K (.os id 0 1) [(b,none),(id,some (.pU 1 [[.ow h sz (S.sub rows r n)]]))]
    | _=>False)
   | _,_=>False)
  else False
 | _=>False
def alN (T:Tab)(S:kK)(t u:TypeId)(b r n c:Nat)(lk:Nat->Option mJ)(id:Nat)(K:PV->Dl->Prop):Prop :=
 match T t,T u with
 | { ok:=true,kind:=.slice esz bytes (some z),.. },{ ok:=true,kind:=.slice _ _ _,.. } =>
  (match lk b,lk c with
  | some (.pU sz rows),some (.pU sz' [row]) =>
   bif lZ esz&&Nat.beq (pX z) esz&&Nat.beq sz esz&&Nat.beq sz' esz&&(bif Nat.beq b c then false else bif Nat.beq b id then false else bif Nat.beq c id then false else true) then
    S.room (S.MB n 1) bytes (K (.os id 0 (S.MB n 1)) [(b,none),(c,none),(id,some (.pU sz (S.app (S.sub rows r n) [row])))])
   else False
  | _,_=>False)
 | _,_=>False
def opN (T:Tab)(S:kK)(o:Op)(tmps:List PV)(lk:Nat->Option mJ)(id:Nat)(K:PV->Dl->Prop):Prop :=
 match T.pU with
 | 0=>nK T S o tmps lk id K
 | _+1=>match o with
  | .buildSlice t len parts=>(match anV T t with
   | true=>alM T S t len parts tmps lk id K
   | false=>nK T S (.buildSlice t len parts) tmps lk id K)
  | .call { callee:=.builtin .append,args,argTypes }=>(match evA T tmps args.toList,argTypes.toList with
   | [.os b r n,.os c 0 1],t::u::_=>(match anV T t with
    | true=>alN T S t u b r n c lk id K
    | false=>nK T S (.call { callee:=.builtin .append,args,argTypes }) tmps lk id K)
   | _,_=>nK T S (.call { callee:=.builtin .append,args,argTypes }) tmps lk id K)
  | o=>nK T S o tmps lk id K
def ag9 (T:Tab)(S:kK)(o:Oper)(E:Env)(K:Env->Prop):Prop :=
 match o.op with
 | .call { callee:=.value f,args,argTypes:=_ } =>
  match tK T E.tmps f with
  | .fn k caps=>WR S k (Dp (evA T E.tmps args.toList) caps) E λv E=>K (rG E o.dst v)
  | _=>False
 | op =>
  match op,o.dst with
  | .pick (.tmp c) a b,d=>(match kY E.tmps c with
   | .sb t=>S.br t (λ_=>K (rG (rG E (some c) (.bool true)) d (tK T E.tmps a))) (λ_=>K (rG (rG E (some c) (.bool false)) d (tK T E.tmps b)))
   | _=>nK T S (.pick (.tmp c) a b) E.tmps (kR E.st) E.next λv δ=>K (rG ⟨E.tmps,lh δ E.st,Di δ E.next⟩ d v))
  | op,d=>opN T S op E.tmps (kR E.st) E.next λv δ=>K (rG ⟨E.tmps,lh δ E.st,Di δ E.next⟩ d v)
def opsE (T:Tab)(S:kK)(all:Array Oper):List Oper->Env->(Env->Prop)->Prop
 | [],E,K=>K E
 | o::l,E,K=>gd S all o.guard E
   (λE=>ag9 T S o E λE=>opsE T S all l E K)
   (λE=>opsE T S all l (rG E o.dst .undef) K)
def aha (K:PV->Prop)(v:PV):Dl->Prop
 | []=>K v
 | _::_=>False
def isQ:Op->Bool
 | .move _|.assign _|.pick _ _ _|.fieldAddr _ _ _|.field _ _ _|.load _ _|.nilCheck _|.convert _ _ _|.indexAddr _ _ _|.slice _ _ _ _ _
 | .index _ _ _|.extract _ _|.build _ _|.makeFunc _ _ _=>true
 | .binOp _ _ _ y _=>(match Sj y with|true=>false|false=>true)
 | .unOp _ _ _=>true
 | .call { callee:=.builtin .len,.. }|.call { callee:=.builtin .min,.. }|.call { callee:=.builtin .max,.. }=>true
 | _=>false
def lkC:List (Nat×Nat)->Nat->Nat
 | [],_=>3
 | (k,c)::l,f=>bif Nat.beq k f then c else lkC l f
def clsF (T:Tab):Operand->Nat
 | .func f=>lkC T.dcl f
 | _=>3
def sZ (T:Tab):Op->Nat
 | .alloc _=>1
 | .box _ _=>1
 | .makeSlice _ _ _=>1
 | .store _ _ _=>2
 | .slice _ _ _ _ _=>3
 | .call { callee:=.builtin .append,.. }=>2
 | .load _ _=>3
 | .indexAddr _ _ _=>3
 | .call { callee:=.value f,.. }=>clsF T f
 | .buildSlice _ _ _=>0
 | op=>bif isQ op then 0 else 4
def opQ (T:Tab)(S:kK)(op:Op)(tmps:List PV)(lk:Nat->Option mJ)(id:Nat)(K:PV->Prop):Prop :=
 match op with
 | .call { callee:=.value f,args,argTypes:=_ } =>
  match tK T tmps f with
  | .fn k caps=>aln S k (Dp (evA T tmps args.toList) caps) lk K
  | _=>False
 | .buildSlice t len parts =>
  match T t with
  | { ok:=true,kind:=.slice esz _ (some z),.. } =>
    bif lZ esz&&Nat.beq (pX z) esz&&Nat.ble (len*esz) 16777216&&Ag (evP T tmps parts.toList) then
     (match FV (λi=>some (i*esz,esz)) (Oi len z) (evP T tmps parts.toList) with
     | some cs=>(match Kw S (λ_=>none) cs with
      | some (cs,[])=>wkC S cs λcs=>K (.sl esz (chunks esz len cs) true)
      | _=>False)
     | none=>False)
    else False
  | _=>False
 | op=>bif isQ op then nK T S op tmps lk id (aha K) else False
def abK (T:Tab)(S:kK)(o:Oper)(lk:Nat->Option mJ)(E:Env)(K:Env->Prop):Prop :=
 match o.op with
 | .pick (.tmp c) a b=>(match kY E.tmps c with
   | .sb t=>S.br t (λ_=>K (rG (rG E (some c) (.bool true)) o.dst (tK T E.tmps a))) (λ_=>K (rG (rG E (some c) (.bool false)) o.dst (tK T E.tmps b)))
   | _=>opQ T S (.pick (.tmp c) a b) E.tmps lk E.next λv=>K (rG E o.dst v))
 | op=>opQ T S op E.tmps lk E.next λv=>K (rG E o.dst v)
def aeR (pend:List Nat)(lk:Nat->Option mJ)(b:Nat):Option mJ:=bif Aa pend b then none else lk b
def VZ (_:Nat):Option mJ:=none
def ltD (n:Nat):Dl->Bool
 | []=>true
 | (b,_)::l=>Nat.blt b n&&ltD n l
def dlO (f:Nat->Option Nat)(st1:St):Nat->List Nat->Dl
 | _,[]=>[]
 | i,b::l=>(b,Hg f (kR st1 i))::dlO f st1 (i+1) l
def ajL (st:St):List Nat->Bool
 | []=>true
 | b::l=>(match kR st b with|some _=>true|none=>false)&&ajL st l
def aap (S:kK)(k:Nat)(args:List PV)(ρ:List Nat)(st:St)(id:Nat)(K:PV->Dl->Prop):Prop :=
 match ltN id ρ&&(aao ρ&&ajL st ρ) with
 | true=>S.ag4 k (IY (ER (ixN ρ) 8) args) (Hl (ixN ρ) st 0 ρ) ρ λv st1 n1=>(match Nat.ble n1 (oN ρ+32) with
  | true=>K (ER (Hm ρ id) 8 v) (dlO (Hm ρ id) st1 0 (adu ρ (upN id (n1-oN ρ))))
  | false=>False)
 | false=>False
def opW (T:Tab)(S:kK)(op:Op)(tmps:List PV)(lk:Nat->Option mJ)(st:St)(id:Nat)(c2:Bool)(K:PV->Dl->Prop):Prop :=
 match op with
 | .call { callee:=.value f,args,argTypes:=_ } =>
  match tK T tmps f with
  | .fn k caps=>(match c2 with
   | false=>(match Oj (frz S VZ 6) (Dp (evA T tmps args.toList) caps) with
    | some as=>S.ag3 k (IY (ER (ixN []) 8) as) λv x=>K (ER (Hm [] id) 8 v) [(id,Hg (Hm [] id) (some x))]
    | none=>False)
   | true=>(match Vu (Dp (evA T tmps args.toList) caps) st with
    | ρ=>aap S k (Dp (evA T tmps args.toList) caps) ρ st id K))
  | _=>False
 | op=>nK T S op tmps lk id K
def stepD (T:Tab)(S:kK)(o:Oper)(pend:List Nat)(E:Env)(K:List Nat->Env->Prop):Prop :=
 match sZ T o.op with
 | 0=>abK T S o VZ E (K pend)
 | 1=>opW T S o.op E.tmps VZ E.st E.next false λv δ=>match δ with
  | [(id,some x)]=>bif Nat.beq id E.next then K (id::pend) (rG ⟨E.tmps,rW E.st id (some x),E.next+32⟩ o.dst v) else False
  | _=>False
 | 2=>opW T S o.op E.tmps (kR E.st) E.st E.next true λv δ=>bif ltD (E.next+32) δ then K [] (rG ⟨E.tmps,lh δ E.st,E.next+32⟩ o.dst v) else False
 | 3=>abK T S o (aeR pend (kR E.st)) E (K pend)
 | _=>False
def WS (all:Array Oper)(i:Nat)(o:Oper)(lo:List Tmp)(j:Nat)(p:Oper):Bool :=
 Nat.beq i j || match p.dst with
 | none=>true
 | some d=>o.dst != some d&&(!lo.contains d || o.after.any (λe=>Region.binds .any e&&Nat.beq e.on j) || p.after.any (λe=>Region.binds .any e&&Nat.beq e.on i))
def WT (all:Array Oper)(i:Nat)(o:Oper)(lo:List Tmp):List Oper->Nat->Bool
 | [],_=>true
 | p::ps,j=>WS all i o lo j p&&WT all i o lo ps (j+1)
def FD (all:Array Oper):List Oper->Nat->Bool
 | [],_=>true
 | o::os,i=>o.after.all (λe=>!Region.binds .any e || Nat.blt e.on i)&&WT all i o (o.looksAt all) all.toList 0&&FD all os (i+1)
def aaq (o:Oper):List Nat:=(o.after.toList.filter λe=>Region.binds .any e).map λe=>e.on
def WU:List Nat->List Nat->List Nat
 | [],m=>m
 | b::l,m=>bif Aa m b then WU l m else WU l (b::m)
def Dj:List (List Nat)->Nat->List Nat
 | [],_=>[]
 | x::_,0=>x
 | _::l,n+1=>Dj l n
def Zk (acc:List (List Nat)):List Nat->List Nat
 | []=>[]
 | j::l=>WU (j::Dj acc j) (Zk acc l)
def V3:List Oper->List (List Nat)->List (List Nat)
 | [],acc=>acc
 | o::l,acc=>V3 l (acc++[Zk acc (aaq o)])
def ndO (T:Tab)(ps:List PV)(lk:Nat->Option mJ):Op->Bool
 | .store _ x _=>(match tK T ps x with
  | .lp b _ _=>(match lk b with|some (.pU _ _)=>true|_=>false)
  | .np _ _ _ _ _ _ _=>true
  | _=>false)
 | _=>false
def WV:List Oper->Nat
 | []=>0
 | _::l=>WV l+1
def allIn (l:List Nat):Nat->Bool
 | 0=>true
 | n+1=>Aa l n&&allIn l n
def QZ (all:Array Oper):Bool:=match all.toList with
 | []=>false
 | _::l=>allIn (Dj (V3 all.toList []) (WV l)) (WV l)
def nilP:List Oper->Bool
 | []=>true
 | _=>false
def alo (T:Tab)(S:kK)(all:Array Oper)(o:Oper)(last:Bool)(pend:List Nat)(K:List Nat->Env->Prop)(KE:Env->Prop)(E:Env):Prop :=
 match ndO T E.tmps (kR E.st) o.op with
 | true=>(match last with
  | true=>S.last all (nK T S o.op E.tmps (kR E.st) E.next λv δ=>bif ltD (E.next+32) δ then KE (rG ⟨E.tmps,lh δ E.st,E.next+32⟩ o.dst v) else False)
  | false=>False)
 | false=>stepD T S o pend E K
def adx (T:Tab)(S:kK)(all:Array Oper):List Oper->List Nat->Env->(Env->Prop)->Prop
 | [],_,E,K=>K E
 | o::l,pend,E,K=>gd S all o.guard E
   (λE=>alo T S all o (nilP l) pend (λpend E=>adx T S all l pend E K) K E)
   (λE=>adx T S all l pend (rG E o.dst .undef) K)
def clash (a b:Nat):Bool :=
 (Nat.beq a 2&&(Nat.beq b 2 || Nat.beq b 3)) || (Nat.beq b 2&&(Nat.beq a 1 || Nat.beq a 3))
def afS (T:Tab)(bef:List Nat)(c:Nat):List Oper->Nat->Bool
 | [],_=>true
 | o::l,i=>(bif clash (sZ T o.op) c then Aa bef i else true)&&afS T bef c l (i+1)
def ahb (T:Tab)(all:List Oper)(B:List (List Nat)):List Oper->Nat->Bool
 | [],_=>true
 | o::l,i=>afS T (Dj B i) (sZ T o.op) (all.take i) 0&&ahb T all B l (i+1)
def ahc (T:Tab):List Oper->Bool
 | []=>false
 | o::l=>Nat.beq (sZ T o.op) 2 || ahc T l
def Ho (T:Tab)(all:Array Oper):Bool:=FD all all.toList 0&&(bif ahc T all.toList then ahb T all.toList (V3 all.toList []) all.toList 0 else true)
def ltS (n:Nat):St->Bool
 | []=>true
 | (b,_)::l=>Nat.blt b n&&ltS n l
def rdG (T:Tab)(ps:List PV)(o:Op):List Nat :=
 match o with
 | .load _ x=>MF [] 8 [] (tK T ps x)
 | .store _ x y=>Jb (MF [] 8) [] [tK T ps x,tK T ps y]
 | .indexAddr _ x _=>MF [] 8 [] (tK T ps x)
 | .slice _ x _ _ _=>MF [] 8 [] (tK T ps x)
 | .call { callee:=.builtin _,args,argTypes:=_ }=>Jb (MF [] 8) [] (evA T ps args.toList)
 | _=>[]
def lkG (R:List Nat)(st:St)(b:Nat):Option mJ:=bif Aa R b then kR st b else none
def Sl:Dl->List Nat
 | []=>[]
 | (b,_)::δ=>b::Sl δ
def okG (st:St)(nx:Nat):Dl->Bool
 | []=>true
 | (b,x)::δ=>(match x with|some (.pU _ _)=>false|_=>true)&&((Nat.beq b nx || (match kR st b with|some _=>true|none=>false))&&okG st nx δ)
def abL:List (List Nat×List Nat×List Nat)->(List Nat×List Nat×List Nat)->List (List Nat×List Nat×List Nat)
 | [],x=>[x]
 | y::l,x=>y::abL l x
def stepG (T:Tab)(S:kK)(o:Oper)(E:Env)(K:(List Nat×List Nat×List Nat)->Env->Prop):Prop :=
 match o.guard,rdG T E.tmps o.op with
 | none,R=>(match bif isQ o.op then true else (Nat.beq (sZ T o.op) 1 || Nat.beq (sZ T o.op) 2),ndO T E.tmps (lkG R E.st) o.op with
  | true,false=>nK T S o.op E.tmps (lkG R E.st) E.next λv δ=>(match okG E.st E.next δ with
   | true=>K (R,Sl δ,Sl δ) (rG ⟨E.tmps,lh δ E.st,E.next+1⟩ o.dst v)
   | false=>False)
  | _,_=>False)
 | some _,_=>False
def afT (T:Tab)(S:kK):List Oper->Env->List (List Nat×List Nat×List Nat)->(Env->List (List Nat×List Nat×List Nat)->Prop)->Prop
 | [],E,tr,K=>K E tr
 | o::l,E,tr,K=>stepG T S o E λtc E=>afT T S l E (abL tr tc) K
abbrev Post:=Nat->Env->Prop
def Uy (next:Env->Prop)(Q:Post):Post
 | 0,E=>next E
 | n+1,E=>Q (n+1) E
def blkQ (id:Nat)(Q:Post):Post
 | 0,E=>Q 0 E
 | 1,E=>Q 1 E
 | n+2,E=>bif Nat.beq n id then Q 0 E else Q (n+2) E
def aar:Code->Option Nat
 | .region id _ _=>some id
 | .seq a _=>aar a
 | .block _ b=>aar b
 | .loop b=>aar b
 | _=>none
def ahd (cut:List Nat)(a b:Code):Bool :=
 match cut with
 | []=>true
 | _::_=>match a with
  | .region i _ _=>(bif Aa cut (2*i) then false else true)
  | _=>match aar b with
   | some i=>(bif Aa cut (2*i+1) then false else true)
   | none=>true
def pwp (T:Tab)(S:kK):Code->Post->Env->Prop
 | .skip,Q,E=>Q 0 E
 | .seq a b,Q,E=>bif ahd T.cut a b then pwp T S a (Uy (λE=>pwp T S b Q E) Q) E else S.seq (λQ=>pwp T S a Q E) (λE=>pwp T S b Q E) Q
 | .ret,Q,E=>Q 1 E
 | .exit n,Q,E=>Q (n+2) E
 | .block id b,Q,E=>pwp T S b (blkQ id Q) E
 | .loop b,Q,E=>S.loop b Q E
 | .region i l true,Q,E=>bif Aa T.cut (1000+i) then (bif ltS E.next E.st&&tY E.st then afT T S l.toList E [] (λE tr=>S.ajK l tr (Q 0 E)) else False)
  else S.order l (bif ltS E.next E.st then adx T S l l.toList [] E (Q 0) else False)
 | .region _ l false,Q,E=>opsE T S l l.toList E (Q 0)
 | .cond (.tmp c) a b,Q,E=>match kY E.tmps c with
  | .bool true=>pwp T S a Q E
  | .bool false=>pwp T S b Q E
  | .sb t=>S.br t (λ_=>pwp T S a Q (rG E (some c) (.bool true))) (λ_=>pwp T S b Q (rG E (some c) (.bool false)))
  | _=>False
 | .cond (.const (.bool true)) a _,Q,E=>pwp T S a Q E
 | .cond (.const (.bool false)) _ b,Q,E=>pwp T S b Q E
 | _,_,_=>False
def abM (T:Tab)(E:Env):ResultVar->Option PV
 | .tmp t=>some (kY E.tmps t)
 | .cell a t=>match kY E.tmps a,T t with
  | .lv b c,{ ok:=true,agg,size,.. }=>match kR E.st b with
   | some (.var _ row) =>
    bif agg then (bif Nat.ble (c+size) (pX row) then some (.agg (RZ size (Hf c row))) else none)
    else (bif Nat.blt c (pX row) then some (kY row c) else none)
   | _=>none
  | _,_=>none
def Jc (T:Tab)(E:Env):List ResultVar->Option (List PV)
 | []=>some []
 | r::rs=>match abM T E r with
  | none=>none
  | some v=>match Jc T E rs with
   | none=>none
   | some vs=>some (v::vs)
def Dq:List PV->PV
 | [v]=>v
 | vs=>.IX vs
def ajM (T:Tab)(S:kK)(rs:List ResultVar)(E:Env)(R:PV->Prop):Prop :=
 match Jc T E rs with
 | some vs=>(match frz S (kR E.st) 7 (Dq vs) with|some v=>R v|none=>False)
 | none=>False
def JG (S:kK)(c:Nat×Bool)(v:PV)(st:St)(n:Nat):PV×St×Nat :=
 match c with
 | (z+1,re)=>(match v with
  | .sl _ es f=>(match f with
   | true=>(match es with
    | []=>(.os n 0 0,rW st n (some (.arr false (z+1) [])),n+1)
    | _::_=>(v,st,n))
   | false=>(v,st,n))
  | .os b r m=>(match re with
   | true=>(match kR st b with
    | some (.arr false sz rows)=>(.os n 0 m,rW (rW st b none) n (some (.arr false sz (S.sub rows r m))),n+1)
    | _=>(v,st,n))
   | false=>(v,st,n))
  | _=>(v,st,n))
 | (0,true)=>(match Vu [v] st with
  | ρ=>(match roS st ρ with
   | st'=>(match frz S (adw st') 6 v with
    | some v'=>(v',st',n)
    | none=>(v,st,n))))
 | _=>(v,st,n)
def Eg (S:kK):List (Nat×Bool)->List PV->St->Nat->List PV×St×Nat
 | z::zs,v::vs,st,n=>match JG S z v st n with
  | (v',st',n')=>match Eg S zs vs st' n' with
   | (vs',st2,n2)=>(v'::vs',st2,n2)
 | _,vs,st,n=>(vs,st,n)
def Zl (S:kK)(zs:List (Nat×Bool))(v:PV)(st:St)(n:Nat):PV×St×Nat :=
 match v with
 | .agg cs=>match Eg S zs cs st n with|(cs',st',n')=>(.agg cs',st',n')
 | v=>match zs with
  | [z]=>JG S z v st n
  | _=>(v,st,n)
def Q3 (S:kK):List (List (Nat×Bool))->List PV->St->Nat->List PV×St×Nat
 | zs::own,v::vs,st,n=>match Zl S zs v st n with
  | (v',st',n')=>match Q3 S own vs st' n' with
   | (vs',st2,n2)=>(v'::vs',st2,n2)
 | _,vs,st,n=>(vs,st,n)
def Zm (S:kK)(own:List (List (Nat×Bool)))(v:PV)(st:St)(n:Nat):PV×St×Nat :=
 match v with
 | .IX vs=>match Q3 S own vs st n with|(vs',st',n')=>(.IX vs',st',n')
 | v=>match own with
  | [zs]=>Zl S zs v st n
  | _=>(v,st,n)
def Vw (T:Tab)(S:kK)(rs:List ResultVar)(E:Env)(R:PV->St->Nat->Prop):Prop :=
 match Jc T E rs with
 | some vs=>(match Zm S T.own (Dq vs) E.st E.next with
  | (v,st,_)=>(match WO T.vY st [v] with
   | ρ=>R (ER (ixN ρ) 8 v) (Hl (ixN ρ) st 0 ρ) (oN ρ)))
 | none=>False
def alp (T:Tab)(S:kK)(rs:List ResultVar)(R:PV->St->Nat->Prop):Post
 | 0,E=>Vw T S rs E R
 | 1,E=>Vw T S rs E R
 | _+2,_=>False
def alO (T:Tab)(S:kK)(rs:List ResultVar)(R:PV->Prop):Post
 | 0,E=>ajM T S rs E R
 | 1,E=>ajM T S rs E R
 | _+2,_=>False
def vN:Nat->List PV
 | 0=>[]
 | n+1=>.undef::vN n
end Go.Pv
namespace Go.Pv
open Go
structure Loc where
 cb:Nat
 co:Nat
 sz:Nat
 tot:Nat
 nr:Nat
abbrev Sg:=Nat->Option Loc
def kX:Sg:=λ_=>none
mutual
def Rep (w:World)(Y:Nat->Prop)(σ:Sg):PV->Value->Prop
 | .bool b,v=>v=.bool b
 | .sb b,v=>v=.bool b
 | .int k n,v=>v=.int k n
 | .si k n,v=>v=.int k n
 | .str s,v=>v=.string s
 | .agg cs,v=>∃ vs:List Value,v=.agg vs.toArray/\jo w Y σ cs vs
 | .IX cs,v=>∃ vs:List Value,v=.tuple vs.toArray/\jo w Y σ cs vs
 | .sl sz es full,v=>∃ a len cap,v=.slice a len cap/\len=es.length/\len<=cap/\(full=true->cap=len) /\
   (es=[]\/∃ b o,a=some ⟨b,o,none⟩/\(b<w.heap.size/\¬ Y b)/\lV w Y kX b sz es o)
 | .os b r n,v=>(∃ l cap,σ b=some l/\v=.slice (some ⟨l.cb,l.co+r*l.sz,none⟩) n cap/\n<=cap/\l.co+r*l.sz+cap*l.sz=l.tot/\r+n<=l.nr) \/
   (n=0/\∃ a,v=.slice a 0 0)
 | .lv b c,v=>∃ l,σ b=some l/\v=.pointer (some ⟨l.cb,l.co+c,none⟩)
 | .lp b r c,v=>∃ l,σ b=some l/\v=.pointer (some ⟨l.cb,l.co+r*l.sz+c,none⟩)
 | .pp cs,v=>∃ b o,v=.pointer (some ⟨b,o,none⟩)/\(b<w.heap.size/\¬ Y b)/\lT w Y kX b cs o
 | .ow h _ es,v=>(es≠[]/\v=.slice (some ⟨h.ν,h.o,none⟩) es.length h.cap/\es.length<=h.cap)\/(es=[]/\∃ a cap,v=.slice a 0 cap)
 | .bo _ _ _ h sz n,v=>(n≠0/\v=.slice (some ⟨h.ν,h.o,none⟩) n h.cap/\n<=h.cap)\/(n=0/\∃ a cap,v=.slice a 0 cap)
 | .np _ _ _ h sz j k,v=>v=.pointer (some ⟨h.ν,h.o+j*sz+k,none⟩)
 | .yJ,v=>v=.pointer none
 | .fn f cs,v=>∃ vs:List Value,v=.func (.func f) #[] vs.toArray/\jo w Y σ cs vs
 | .RY,v=>v=.nilFunc
 | .top,_=>True
 | .undef,v=>v=Go.undef
def jo (w:World)(Y:Nat->Prop)(σ:Sg):List PV->List Value->Prop
 | [],vs=>vs=[]
 | c::cs,vs=>∃ v vs',vs=v::vs'/\Rep w Y σ c v/\jo w Y σ cs vs'
def lT (w:World)(Y:Nat->Prop)(σ:Sg)(b:Nat):List PV->Nat->Prop
 | [],_=>True
 | c::cs,o=>(∃ v,w.cell? ⟨b,o,none⟩=some v/\Rep w Y σ c v)/\lT w Y σ b cs (o+1)
def lV (w:World)(Y:Nat->Prop)(σ:Sg)(b sz:Nat):List (List PV)->Nat->Prop
 | [],_=>True
 | r::rs,o=>(r.length=sz/\jR r=true)/\lT w Y σ b r o/\lV w Y σ b sz rs (o+sz)
end
def qI (σ σ' : Sg):Prop:=∀ b l,σ b=some l->σ' b=some l
def Off (id:Nat)(σ σ' : Sg):Prop:=∀ b,b≠id->σ' b=σ b
theorem Off.refl (id:Nat)(σ:Sg):Off id σ σ:=λ_ _=>rfl
theorem qI.refl (σ:Sg):qI σ σ:=λ_ _ h=>h
theorem qI.trans {a b c:Sg}(h:qI a b)(k:qI b c):qI a c:=λx l e=>k x l (h x l e)
theorem aas {w:World}{b o:Nat}{v:Value}(h:w.cell? ⟨b,o,none⟩=some v):b<w.heap.size:=by
 unfold World.cell? at h
 by_cases hb:b<w.heap.size
 exact hb
 simp[Array.getElem?_eq_none (Nat.le_of_not_lt hb)] at h
theorem afU {w w' : World}{b:Nat}(h:w'.heap[b]?=w.heap[b]?)(o:Nat):w'.cell? ⟨b,o,none⟩=w.cell? ⟨b,o,none⟩:=by
 simp only[World.cell?,h]
structure Keep (w w' : World)(Y Y' : Nat->Prop)(σ σ' : Sg):Prop where
 heap:∀ k,k<w.heap.size->¬ Y k->w'.heap[k]?=w.heap[k]?
 excl:∀ k,k<w.heap.size->Y' k->Y k
 size:w.heap.size<=w'.heap.size
 sg:qI σ σ'
theorem Keep.none {w w' : World}{Y Y' : Nat->Prop}{σ σ' : Sg}(h:Keep w w' Y Y' σ σ'):Keep w w' Y Y' kX kX:=⟨h.heap,h.excl,h.size,qI.refl _⟩
mutual
theorem Rep.keep {w w' : World}{Y Y' : Nat->Prop}:∀ (p:PV) {σ σ' : Sg} (_:Keep w w' Y Y' σ σ') (v:Value),Rep w Y σ p v->Rep w' Y' σ' p v
 | .bool _,_,_,_,_,h|.sb _,_,_,_,_,h|.int _ _,_,_,_,_,h|.si _ _,_,_,_,_,h|.str _,_,_,_,_,h
 | .ow _ _ _,_,_,_,_,h|.bo _ _ _ _ _ _,_,_,_,_,h|.np _ _ _ _ _ _ _,_,_,_,_,h
 | .yJ,_,_,_,_,h|.RY,_,_,_,_,h|.top,_,_,_,_,h|.undef,_,_,_,_,h=>by unfold Rep at h |-;exact h
 | .agg cs,_,_,K,v,h=>by
  unfold Rep at h |-;obtain⟨vs,e,h⟩:=h;exact⟨vs,e,jo.keep cs K vs h⟩
 | .IX cs,_,_,K,v,h=>by
  unfold Rep at h |-;obtain⟨vs,e,h⟩:=h;exact⟨vs,e,jo.keep cs K vs h⟩
 | .fn f cs,_,_,K,v,h=>by
  unfold Rep at h |-;obtain⟨vs,e,h⟩:=h;exact⟨vs,e,jo.keep cs K vs h⟩
 | .sl sz es full,_,_,K,v,h=>by
  unfold Rep at h |-;obtain⟨a,len,cap,e,U,T,O,h⟩:=h;refine⟨a,len,cap,e,U,T,O,?_⟩;rcases h with h|⟨b,o,ha,⟨hs,hb⟩,h⟩
  exact .inl h
  exact .inr ⟨b,o,ha,⟨Nat.lt_of_lt_of_le hs K.size,λhy=>hb (K.excl b hs hy)⟩,lV.keep es K.none (λhk=>K.heap b hk hb) o h⟩
 | .os b r n,_,_,K,v,h=>by
  unfold Rep at h |-;rcases h with ⟨l,cap,hs,e,h⟩|h
  exact .inl ⟨l,cap,K.sg _ _ hs,e,h⟩
  exact .inr h
 | .lv b c,_,_,K,v,h=>by
  unfold Rep at h |-;obtain⟨l,hs,e⟩:=h;exact⟨l,K.sg _ _ hs,e⟩
 | .lp b r c,_,_,K,v,h=>by
  unfold Rep at h |-;obtain⟨l,hs,e⟩:=h;exact⟨l,K.sg _ _ hs,e⟩
 | .pp cs,_,_,K,v,h=>by
  unfold Rep at h |-;obtain⟨b,o,e,⟨hs,hb⟩,h⟩:=h;exact⟨b,o,e,⟨Nat.lt_of_lt_of_le hs K.size,λhy=>hb (K.excl b hs hy)⟩,lT.keep cs K.none (λhk=>K.heap b hk hb) o h⟩
theorem jo.keep {w w' : World}{Y Y' : Nat->Prop}:∀ (ps:List PV) {σ σ' : Sg} (_:Keep w w' Y Y' σ σ') (vs:List Value),jo w Y σ ps vs->jo w' Y' σ' ps vs
 | [],_,_,_,_,h=>by unfold jo at h |-;exact h
 | p::ps,_,_,K,vs,h=>by
  unfold jo at h |-;obtain⟨v,U,e,h1,h2⟩:=h;exact⟨v,U,e,Rep.keep p K v h1,jo.keep ps K U h2⟩
theorem lT.keep {w w' : World}{Y Y' : Nat->Prop}{b:Nat}:∀ (ps:List PV) {σ σ' : Sg} (_:Keep w w' Y Y' σ σ') (_:b<w.heap.size->w'.heap[b]?=w.heap[b]?) (o:Nat),lT w Y σ b ps o->lT w' Y' σ' b ps o
 | [],_,_,_,_,_,_=>by unfold lT;trivial
 | p::ps,_,_,K,hb,o,h=>by
  unfold lT at h |-;obtain⟨⟨v,U,h1⟩,h2⟩:=h;exact⟨⟨v,by rw[afU (hb (aas U))];exact U,Rep.keep p K v h1⟩,lT.keep ps K hb (o+1) h2⟩
theorem lV.keep {w w' : World}{Y Y' : Nat->Prop}{b sz:Nat}:∀ (rs:List (List PV)) {σ σ' : Sg} (_:Keep w w' Y Y' σ σ') (_:b<w.heap.size->w'.heap[b]?=w.heap[b]?) (o:Nat),lV w Y σ b sz rs o->lV w' Y' σ' b sz rs o
 | [],_,_,_,_,_,_=>by unfold lV;trivial
 | r::rs,_,_,K,hb,o,h=>by
  unfold lV at h |-;exact⟨h.1,lT.keep r K hb o h.2.1,lV.keep rs K hb (o+sz) h.2.2⟩
end
def mJ.ro:mJ->Bool
 | .var ro _=>ro
 | .arr ro _ _=>ro
 | .pU _ _=>false
structure At (w:World)(l:Loc):Prop where
 blk:∃ arr ty,w.heap[l.cb]?=some (.cells arr ty (0,0))/\arr.size=l.tot
def jH (w:World)(Y:Nat->Prop)(σ:Sg)(l:Loc):mJ->Prop
 | .var ro row=>At w l/\l.sz=row.length/\l.co+row.length<=l.tot/\lT w Y σ l.cb row l.co/\(ro=false->Y l.cb)/\(ro=true->¬ Y l.cb)
 | .arr ro sz rows=>At w l/\l.sz=sz/\0<sz/\(l.co+rows.length*sz<=l.tot/\rows.length=l.nr)/\lV w Y kX l.cb sz rows l.co/\(ro=false->Y l.cb)/\(ro=true->¬ Y l.cb)
 | .pU sz rows=>At w l/\l.sz=sz/\0<sz/\(l.co+rows.length*sz<=l.tot/\rows.length=l.nr)/\lV w Y kX l.cb sz rows l.co/\Y l.cb
structure N8 (w:World)(Y:Nat->Prop)(σ:Sg)(st:St):Prop where
 blk:∀ b x,kR st b=some x->(∃ l,σ b=some l/\jH w Y σ l x)\/(σ b=none/\∃ ro sz,x=.arr ro sz [])
 inj:∀ b b' x x' l l',kR st b=some x->kR st b'=some x'->σ b=some l->σ b'=some l'->l.cb=l'.cb->b=b'
def pY (st:St)(b r c:Nat)(h:Hdr)(sz:Nat)(es:List (List PV)):Prop:=∃ sz0 rows row,kR st b=some (.pU sz0 rows)/\rows[r]?=some row/\row[c]?=some (.ow h sz es)/\es≠[]
theorem pY.same {st st' : St}{b r c:Nat}{h:Hdr}{sz:Nat}{T:List (List PV)}(e:kR st' b=kR st b)(k:pY st' b r c h sz T):pY st b r c h sz T:=by
 obtain⟨U,rows,row,h1,h2⟩:=k;exact⟨U,rows,row,by rw[<- e];exact h1,h2⟩
theorem pY.sub {st st' : St}{b r c:Nat}{h:Hdr}{sz:Nat}{T:List (List PV)}(e:∀ x,kR st' b=some x->kR st b=some x)(k:pY st' b r c h sz T):pY st b r c h sz T:=by
 obtain⟨U,rows,row,h1,h2⟩:=k;exact⟨U,rows,row,e _ h1,h2⟩
structure aat (w:World)(Y:Nat->Prop)(h:Hdr)(sz:Nat)(es:List (List PV)):Prop where
 own:Y h.ν
 pos:0<sz
 blk:∃ arr ty,w.heap[h.ν]?=some (.cells arr ty (0,0))/\arr.size=h.o+h.cap*sz
 len:es.length<=h.cap
 rows:lV w Y kX h.ν sz es h.o
structure Ctx (T:Tab) where
 w0:World
 Y0:Nat->Prop
 L:Nat->Prop
 M:Nat->Prop
 base:Sg
structure QM (M:Nat->Prop)(w0 w:World):Prop where
 os:w.os=w0.os
 tape:w.tape=w0.tape
 output:w.output=w0.output
 size:w0.heap.size<=w.heap.size
 block:∀ k,k<w0.heap.size->¬ M k->w.heap[k]?=w0.heap[k]?
structure Chg (w0 w:World):Prop where
 os:w.os=w0.os
 tape:w.tape=w0.tape
 output:w.output=w0.output
 size:w0.heap.size<=w.heap.size
 block:∀ k,k<w0.heap.size->w.heap[k]?=w0.heap[k]?
theorem Chg.refl (w:World):Chg w w:=⟨rfl,rfl,rfl,Nat.le_refl _,λ_ _=>rfl⟩
theorem QM.refl (M:Nat->Prop)(w:World):QM M w w:=⟨rfl,rfl,rfl,Nat.le_refl _,λ_ _ _=>rfl⟩
theorem QM.qh {M:Nat->Prop}{a b:World}(h:QM M a b)(hM:∀ k,¬ M k):Chg a b:=⟨h.os,h.tape,h.output,h.size,λk hk=>h.block k hk (hM k)⟩
theorem QM.trans {M:Nat->Prop}{a b c:World}(h:QM M a b)(k:QM M b c):QM M a c :=
 ⟨by rw[k.os,h.os],by rw[k.tape,h.tape],by rw[k.output,h.output],Nat.le_trans h.size k.size,λi hi U=>by rw[k.block i (Nat.lt_of_lt_of_le hi h.size) U,h.block i hi U]⟩
def abN (G:Nat->Option (List PV))(w:World)(Y:Nat->Prop):Prop:=∀ g cs,G g=some cs->Rep w Y kX (.pp cs) (.pointer (some ⟨g,0,none⟩))
theorem abN.keep {G:Nat->Option (List PV)}{w w' : World}{Y Y' : Nat->Prop}(h:abN G w Y)(K:Keep w w' Y Y' kX kX):abN G w' Y':=λg cs U=>Rep.keep _ K _ (h g cs U)
theorem Chg.below {a b:World}(h:Chg a b):RowKit.Below a.heap.size a b:=⟨h.os,h.tape,h.output,h.size,h.block⟩
structure C9 (w0:World)(L:Nat->Prop)(w:World)(Y:Nat->Prop)(σ:Sg)(st:St):Prop where
 rep:∀ b r c h sz es,pY st b r c h sz es->aat w Y h sz es
 old:∀ b r c h sz es,pY st b r c h sz es->w0.heap.size<=h.ν\/L h.ν
 one:∀ b r c h sz es b' r' c' h' sz' es',pY st b r c h sz es->pY st b' r' c' h' sz' es'->h.ν=h'.ν->b=b'/\r=r'/\c=c'
 sep:∀ b r c h sz es b' x l,pY st b r c h sz es->kR st b'=some x->σ b'=some l->l.cb≠h.ν
theorem aat.lt {w:World}{Y:Nat->Prop}{h:Hdr}{sz:Nat}{U:List (List PV)}(H:aat w Y h sz U):h.ν<w.heap.size:=by
 obtain⟨arr,ty,h1,_⟩:=H.blk
 by_cases hb:h.ν<w.heap.size
 exact hb
 simp[Array.getElem?_eq_none (Nat.le_of_not_lt hb)] at h1
theorem aat.keep {w w' : World}{Y Y' : Nat->Prop}{h:Hdr}{sz:Nat}{U:List (List PV)}(H:aat w Y h sz U)(K:Keep w w' Y Y' kX kX)(hb:w'.heap[h.ν]?=w.heap[h.ν]?)(T:Y h.ν->Y' h.ν):aat w' Y' h sz U :=
 ⟨T H.own,H.pos,by rw[hb];exact H.blk,H.len,lV.keep U K (λ_=>hb) _ H.rows⟩
theorem C9.none {w0 w:World}{L Y:Nat->Prop}{σ:Sg}{st:St}(h:∀ b sz rows,kR st b≠some (.pU sz rows)):C9 w0 L w Y σ st:=by
 have no:∀ {b r c h sz es},pY st b r c h sz es->False:=λ⟨_,_,_,h1,_⟩=>h _ _ _ h1;exact⟨λ_ _ _ _ _ _ k=>(no k).elim,λ_ _ _ _ _ _ k=>(no k).elim,λ_ _ _ _ _ _ _ _ _ _ _ _ k=>(no k).elim,λ_ _ _ _ _ _ _ _ _ k=>(no k).elim⟩
theorem C9.keep {w0 w w' : World}{L Y Y' : Nat->Prop}{σ σ' : Sg}{st st' : St}(H:C9 w0 L w Y σ st)(K:Keep w w' Y Y' kX kX)
  (U:∀ b r c h sz T,pY st' b r c h sz T->pY st b r c h sz T)
  (R:∀ b r c h sz T,pY st' b r c h sz T->w'.heap[h.ν]?=w.heap[h.ν]?)
  (hY:∀ b r c h sz T,pY st' b r c h sz T->Y' h.ν)
  (J:∀ b r c h sz T I x l,pY st' b r c h sz T->kR st' I=some x->σ' I=some l->l.cb≠h.ν):C9 w0 L w' Y' σ' st' :=
 ⟨λb r c h sz T k=>(H.rep _ _ _ _ _ _ (U _ _ _ _ _ _ k)).keep K (R _ _ _ _ _ _ k) (λ_=>hY _ _ _ _ _ _ k),
   λb r c h sz T k=>H.old _ _ _ _ _ _ (U _ _ _ _ _ _ k),
   λb r c h sz T I r' c' h' C es' k g e=>H.one _ _ _ _ _ _ _ _ _ _ _ _ (U _ _ _ _ _ _ k) (U _ _ _ _ _ _ g) e,J⟩
theorem C9.sub {w0 w:World}{L Y:Nat->Prop}{σ:Sg}{st st' : St}(H:C9 w0 L w Y σ st)(h:∀ b x,kR st' b=some x->kR st b=some x):C9 w0 L w Y σ st' :=
 H.keep ⟨λ_ _ _=>rfl,λ_ _ h=>h,Nat.le_refl _,qI.refl _⟩ (λb _ _ _ _ _ k=>k.sub (h b)) (λ_ _ _ _ _ _ _=>rfl) (λb r c J sz T k=>(H.rep _ _ _ _ _ _ (k.sub (h b))).own)
  (λb r c J sz T R x l k hx U=>H.sep _ _ _ _ _ _ _ _ _ (k.sub (h b)) (h R x hx) U)
theorem C9.heap {w0 w w' : World}{L Y:Nat->Prop}{σ:Sg}{st:St}(H:C9 w0 L w Y σ st)(hs:w.heap.size<=w'.heap.size)(hh:∀ k,k<w.heap.size->w'.heap[k]?=w.heap[k]?):C9 w0 L w' Y σ st :=
 H.keep ⟨λk hk _=>hh k hk,λ_ _ h=>h,hs,qI.refl _⟩ (λ_ _ _ _ _ _ k=>k) (λ_ _ _ _ _ _ k=>hh _ (H.rep _ _ _ _ _ _ k).lt) (λ_ _ _ _ _ _ k=>(H.rep _ _ _ _ _ _ k).own) H.sep
structure SW {T:Tab}(C:Ctx T)(w:World)(Y:Nat->Prop)(σ:Sg)(ps:List PV)(vs:List Value)(st:St)(n:Nat):Prop where
 vals:jo w Y σ ps vs
 store:N8 w Y σ st
 next:∀ b,n<=b->σ b=none
 yK:∀ k,Y k->k<w.heap.size
 y0:∀ k,C.Y0 k->Y k
 c0:∀ k,C.Y0 k->k<C.w0.heap.size/\¬ C.L k
 xI:∀ k,Y k->k<C.w0.heap.size->C.Y0 k\/C.M k
 qh:QM C.M C.w0 w
 own:∀ b x l,kR st b=some x->σ b=some l->C.w0.heap.size<=l.cb\/C.L l.cb
 zi:abN T.gl w Y
 fix:T.vY<=n/\∀ b,b<T.vY->σ b=C.base b
 nest:C9 C.w0 C.L w Y σ st
theorem SW.away {T:Tab}{C:Ctx T}{w:World}{Y:Nat->Prop}{σ:Sg}{ps:List PV}{vs:List Value}{st:St}{n:Nat}(H:SW C w Y σ ps vs st n){b:Nat}{x:mJ}{l:Loc}(hx:kR st b=some x)(U:σ b=some l):¬ C.Y0 l.cb:=λh=>by
 have h1:=H.c0 _ h;rcases H.own b x l hx U with h2|h2
 omega
 exact h1.2 h2
theorem SW.mono {T:Tab}{C:Ctx T}{w:World}{Y:Nat->Prop}{σ:Sg}{ps:List PV}{vs:List Value}{st:St}{n U : Nat}(H:SW C w Y σ ps vs st n)(h:n<=U):SW C w Y σ ps vs st U :=
 ⟨H.vals,H.store,λb hb=>H.next b (Nat.le_trans h hb),H.yK,H.y0,H.c0,H.xI,H.qh,H.own,H.zi,⟨Nat.le_trans H.fix.1 h,H.fix.2⟩,H.nest⟩
theorem SW.uS {T:Tab}{C:Ctx T}{w:World}{Y:Nat->Prop}{σ:Sg}{ps U : List PV}{vs R : List Value}{st:St}{n:Nat}(H:SW C w Y σ ps vs st n)(h:jo w Y σ U R):SW C w Y σ U R st n :=
 ⟨h,H.store,H.next,H.yK,H.y0,H.c0,H.xI,H.qh,H.own,H.zi,H.fix,H.nest⟩
def alP {T:Tab}(C:Ctx T)(E:Env)(vs:List Value)(w:World):Prop:=∃ Y σ,SW C w Y σ E.tmps vs E.st E.next
theorem jo.get {w:World}{Y:Nat->Prop}{σ:Sg}:∀ (ps:List PV) (vs:List Value) (t:Nat),jo w Y σ ps vs->Rep w Y σ (kY ps t) (vs.getD t Go.undef)
 | [],vs,t,h=>by unfold jo at h;subst h;simp[kY,Rep]
 | p::ps,vs,0,h=>by unfold jo at h;obtain⟨v,U,rfl,h1,_⟩:=h;simpa [kY] using h1
 | p::ps,vs,t+1,h=>by
  unfold jo at h;obtain⟨v,U,rfl,_,h2⟩:=h
  simpa [kY] using jo.get ps U t h2
theorem jo.length {w:World}{Y:Nat->Prop}{σ:Sg}:∀ (ps:List PV) (vs:List Value),jo w Y σ ps vs->vs.length=ps.length
 | [],vs,h=>by unfold jo at h;subst h;rfl
 | p::ps,vs,h=>by unfold jo at h;obtain⟨v,U,rfl,_,h2⟩:=h;simp[jo.length ps U h2]
theorem jo.set {w:World}{Y:Nat->Prop}{σ:Sg}{p:PV}{v:Value}(T:Rep w Y σ p v):∀ (ps:List PV) (vs:List Value) (t:Nat),jo w Y σ ps vs->jo w Y σ (uX ps t p) (vs.set t v)
 | [],vs,t,h=>by unfold jo at h;subst h;simp[uX,jo]
 | q::ps,vs,0,h=>by
  unfold jo at h;obtain⟨u,U,rfl,_,h2⟩:=h;simp only[uX,List.set_cons_zero];unfold jo;exact⟨v,U,rfl,T,h2⟩
 | q::ps,vs,t+1,h=>by
  unfold jo at h;obtain⟨u,U,rfl,h1,h2⟩:=h;simp only[uX,List.set_cons_succ];unfold jo;exact⟨u,_,rfl,h1,jo.set T ps U t h2⟩
theorem jo.app {w:World}{Y:Nat->Prop}{σ:Sg}:∀ (ps qs:List PV) (vs us:List Value),jo w Y σ ps vs->jo w Y σ qs us->jo w Y σ (Dp ps qs) (vs++us)
 | [],qs,vs,us,h,k=>by unfold jo at h;subst h;simpa [Dp] using k
 | p::ps,qs,vs,us,h,k=>by
  unfold jo at h;obtain⟨v,U,rfl,h1,h2⟩:=h;simp only[Dp,List.cons_append];unfold jo;exact⟨v,_,rfl,h1,jo.app ps qs U us h2 k⟩
@[simp] theorem pg:∀ l,pX l=l.length
 | []=>rfl
 | _::l=>by simp[pX,pg l]
@[simp] theorem Kz:∀ n l,RZ n l=l.take n
 | 0,l=>by simp[RZ]
 | n+1,[]=>by simp[RZ]
 | n+1,x::l=>by simp[RZ,Kz n l]
@[simp] theorem wI:∀ n l,Hf n l=l.drop n
 | 0,l=>by simp[Hf]
 | n+1,[]=>by simp[Hf]
 | n+1,x::l=>by simp[Hf,wI n l]
@[simp] theorem Qh:∀ l m,Dp l m=l++m
 | [],m=>by simp[Dp]
 | x::l,m=>by simp[Dp,Qh l m]
theorem um:∀ l n v,uX l n v=l.set n v
 | [],n,v=>by simp[uX]
 | x::l,0,v=>by simp[uX]
 | x::l,n+1,v=>by simp[uX,um l n v]
theorem Eh:∀ l n,kY l n=l.getD n .undef
 | [],n=>by simp[kY]
 | x::l,0=>by simp[kY]
 | x::l,n+1=>by simpa [kY] using Eh l n
theorem lT.get {w:World}{Y:Nat->Prop}{σ:Sg}{b:Nat}:∀ (ps:List PV) (o i:Nat),lT w Y σ b ps o->i<ps.length->∃ v,w.cell? ⟨b,o+i,none⟩=some v/\Rep w Y σ (kY ps i) v
 | [],_,_,_,h=>by simp at h
 | p::ps,o,0,h,_=>by unfold lT at h;simpa [kY] using h.1
 | p::ps,o,i+1,h,hi=>by
  unfold lT at h;have:=lT.get ps (o+1) i h.2 (by simpa using hi);rw[show o+(i+1)=o+1+i by omega];simpa [kY] using this
theorem lT.drop {w:World}{Y:Nat->Prop}{σ:Sg}{b:Nat}:∀ (n:Nat) (ps:List PV) (o:Nat),lT w Y σ b ps o->lT w Y σ b (ps.drop n) (o+n)
 | 0,ps,o,h=>by simpa using h
 | n+1,[],o,h=>by simp[lT]
 | n+1,p::ps,o,h=>by
  unfold lT at h;have:=lT.drop n ps (o+1) h.2;rw[show o+(n+1)=o+1+n by omega];simpa using this
theorem lT.take {w:World}{Y:Nat->Prop}{σ:Sg}{b:Nat}:∀ (n:Nat) (ps:List PV) (o:Nat),lT w Y σ b ps o->lT w Y σ b (ps.take n) o
 | 0,ps,o,h=>by simp[lT]
 | n+1,[],o,h=>by simp[lT]
 | n+1,p::ps,o,h=>by
  unfold lT at h;simp only[List.take_succ_cons];unfold lT;exact⟨h.1,lT.take n ps (o+1) h.2⟩
theorem lT.vals {w:World}{Y:Nat->Prop}{σ:Sg}{b:Nat}:∀ (ps:List PV) (o:Nat),lT w Y σ b ps o ->
  ∃ vs:List Value,jo w Y σ ps vs/\∀ i v,vs[i]?=some v->w.cell? ⟨b,o+i,none⟩=some v
 | [],o,_=>⟨[],by unfold jo;rfl,by simp⟩
 | p::ps,o,h=>by
  unfold lT at h;obtain⟨⟨v,U,h1⟩,h2⟩:=h;obtain⟨vs,hr,hv⟩:=lT.vals ps (o+1) h2;refine⟨v::vs,by unfold jo;exact⟨v,vs,rfl,h1,hr⟩,λi u hu=>?_⟩
  cases i with
  | zero=>simp at hu;subst hu;simpa using U
  | succ i=>rw[show o+(i+1)=o+1+i by omega];exact hv i u (by simpa using hu)
theorem lT.Sm {w:World}{Y:Nat->Prop}{σ:Sg}{b:Nat}:∀ (ps:List PV) (vs:List Value) (o:Nat),jo w Y σ ps vs->(∀ i v,vs[i]?=some v->w.cell? ⟨b,o+i,none⟩=some v)->lT w Y σ b ps o
 | [],vs,o,_,_=>by unfold lT;trivial
 | p::ps,vs,o,h,hc=>by
  unfold jo at h;obtain⟨v,U,rfl,h1,h2⟩:=h;unfold lT;refine⟨⟨v,by simpa using hc 0 v rfl,h1⟩,lT.Sm ps U (o+1) h2 λi u hu=>?_⟩;rw[show o+1+i=o+(i+1) by omega];exact hc (i+1) u (by simpa using hu)
theorem lV.row {w:World}{Y:Nat->Prop}{σ:Sg}{b sz:Nat}:∀ (rs:List (List PV)) (o i:Nat) (row:List PV),lV w Y σ b sz rs o->rs[i]?=some row->(row.length=sz/\jR row=true)/\lT w Y σ b row (o+i*sz)
 | [],_,_,_,_,h=>by simp at h
 | r::rs,o,0,row,h,hi=>by unfold lV at h;simp at hi;subst hi;exact⟨h.1,by simpa using h.2.1⟩
 | r::rs,o,i+1,row,h,hi=>by
  unfold lV at h;have:=lV.row rs (o+sz) i row h.2.2 (by simpa using hi);refine⟨this.1,?_⟩;rw[show o+(i+1)*sz=o+sz+i*sz by rw[Nat.add_mul];omega];exact this.2
theorem lV.drop {w:World}{Y:Nat->Prop}{σ:Sg}{b sz:Nat}:∀ (n:Nat) (rs:List (List PV)) (o:Nat),lV w Y σ b sz rs o->lV w Y σ b sz (rs.drop n) (o+n*sz)
 | 0,rs,o,h=>by simpa using h
 | n+1,[],o,h=>by simp[lV]
 | n+1,r::rs,o,h=>by
  unfold lV at h;have:=lV.drop n rs (o+sz) h.2.2;rw[show o+(n+1)*sz=o+sz+n*sz by rw[Nat.add_mul];omega];simpa using this
theorem lV.take {w:World}{Y:Nat->Prop}{σ:Sg}{b sz:Nat}:∀ (n:Nat) (rs:List (List PV)) (o:Nat),lV w Y σ b sz rs o->lV w Y σ b sz (rs.take n) o
 | 0,rs,o,h=>by simp[lV]
 | n+1,[],o,h=>by simp[lV]
 | n+1,r::rs,o,h=>by
  unfold lV at h;simp only[List.take_succ_cons];unfold lV;exact⟨h.1,h.2.1,lV.take n rs (o+sz) h.2.2⟩
theorem lV.app {w:World}{Y:Nat->Prop}{σ:Sg}{b sz:Nat}:∀ (rs qs:List (List PV)) (o:Nat),lV w Y σ b sz rs o->lV w Y σ b sz qs (o+rs.length*sz)->lV w Y σ b sz (rs++qs) o
 | [],qs,o,_,k=>by simpa using k
 | r::rs,qs,o,h,k=>by
  unfold lV at h;simp only[List.cons_append];unfold lV;refine⟨h.1,h.2.1,lV.app rs qs (o+sz) h.2.2 ?_⟩;rw[show o+sz+rs.length*sz=o+(r::rs).length*sz by simp[Nat.add_mul];omega];exact k
end Go.Pv
