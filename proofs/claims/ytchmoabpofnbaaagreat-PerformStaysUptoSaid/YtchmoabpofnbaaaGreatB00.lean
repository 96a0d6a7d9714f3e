import Derived.Orders
import Derived.Tactics
import Derived.Calls
import Derived.Below
set_option linter.all false
namespace Go.Pv
theorem ae{p:Prop}(h:p:=by (try simp only[List.length_append,List.length_cons,List.length_nil,List.length_set,List.length_replicate,lS]);omega):p:=h
theorem af{p:Prop}(h:p:=by intro hh;first|(cases hh;done)|omega|(have hh2:=of_decide_eq_false hh;(try simp only[gK] at hh2);omega)|(simp at hh;(try simp only[gK] at hh);omega)):p:=h
theorem ah{p:Prop}(h:p:=by omega):p:=h
theorem ai{p:Prop}(h:p:=by (try simp only[q]);repeat' constructor):p:=h
theorem aj{p:Prop}(h:p:=by (try simp only[q1]);(try simp only[q2,eO,q]);try first|rfl|simp[xQ,eI,eB,eL,eS,q]):p:=h
theorem ak{p:Prop}(h:p:=by show _<18446744073709551616;(try simp only[List.length_append,List.length_cons,List.length_nil]);omega):p:=h
theorem au{p:Prop}(h:p:=by first|assumption|(refine⟨by omega,?_⟩;first|(intro _ _;trivial)|assumption)|(unfold jE;simp_all[F9,qL])):p:=h
theorem ax{p:Prop}(h:p:=by first|assumption|(refine⟨by omega,?_⟩;first|(intro _ _;trivial)|assumption)):p:=h
theorem ay{p:Prop}(h:p:=by first|assumption|(refine⟨by omega,?_⟩;first|(intro _ _;trivial)|assumption)|(unfold kF;simp_all[F9,qL])):p:=h
theorem az{p:Prop}(h:p:=by first|assumption|(show _<=1048576;(try simp only[lS,List.length_cons,List.length_nil]);omega)):p:=h
theorem aA{p:Prop}(h:p:=by (try simp only[q]);repeat' first|constructor|exact ajl rfl rfl (by have lbx13:=bx13.le;have tbx13:=bx13.lt;have lbx15:=bx15.le;have tbx15:=bx15.lt;clear O bx13 bx15;cases x13;cases x15;simp only[VH,Zi,List.length_append,List.length_take,List.length_drop,List.length_replicate] at *;omega)):p:=h
theorem aB{p:Prop}(h:p:=by simp):p:=h
theorem aC{p:Prop}(h:p:=by simp only;omega):p:=h
theorem aF{p:Prop}(h:p:=by first|omega|(dsimp only;omega)):p:=h
theorem aG{p:Prop}(h:p:=by have lbx13:=bx13.le;have tbx13:=bx13.lt;have lbx15:=bx15.le;have tbx15:=bx15.lt;clear O bx13 bx15;cases x13;cases x15;simp only[VH,Zi,List.length_append,List.length_take,List.length_drop,List.length_replicate] at *;omega):p:=h
theorem aH{p:Prop}(h:p:=by simp[lS]):p:=h
theorem aI{p:Prop}(h:p:=by (conv=>lhs;cbv)<;>(try simp only[q1])<;>(try simp only[q2,eO,q])<;>(try rfl)):p:=h
theorem aJ{p:Prop}(h:p:=by simp only[List.length_cons,List.length_nil];omega):p:=h
theorem aK{p:Prop}(h:p:=by first|omega|(simp[lS];done)):p:=h
theorem aN{p:Prop}(h:p:=by first|assumption|(refine⟨by omega,?_⟩;first|(intro _ _;trivial)|assumption)|(unfold kY;simp_all[F9,qL])):p:=h
theorem aO{p:Prop}(h:p:=by first|assumption|(refine⟨by omega,?_⟩;first|(intro _ _;trivial)|assumption)|(unfold yH;simp_all[F9,qL])):p:=h
theorem aP{p:Prop}(h:p:=by kernel_rfl):p:=h
theorem aQ{p:Prop}(h:p:=by show ¬ (s.objects.length:Int)<(s.objects.length:Int);omega):p:=h
theorem aS{p:Prop}(h:p:=by simp only[lS,List.length_cons,List.length_nil];omega):p:=h
theorem aT{p:Prop}(h:p:=by simp only[lS,List.length_cons,List.length_nil] at hx;omega):p:=h
theorem aU{p:Prop}(h:p:=by (try simp only[q1])<;>(try simp only[q2,eO,q]);repeat' constructor):p:=h
theorem aV{p:Prop}(h:p:=by unfold jL;exact vw (by first|omega|(dsimp only;omega)) (by first|omega|(dsimp only;omega))):p:=h
theorem aW{p:Prop}(h:p:=by intro h;subst h;exact λh=>h):p:=h
theorem aX{p:Prop}(h:p:=by show ¬ (l.length:Int)<(l.length:Int);omega):p:=h
theorem aY{p:Prop}(h:p:=by (try simp only[eGTraits,DN,eL,eS,q]);try first|rfl|simp[xQ,eI,eB,eL,eS,q]):p:=h
theorem aZ{p:Prop}(h:p:=by first|(subst_vars;assumption)|(subst_vars;omega)|simp):p:=h
theorem bf{p:Prop}(h:p:=by intro e;rw[Nat.succ.inj e,hb] at hj;cases hj):p:=h
theorem bg{p:Prop}(h:p:=by (try simp only[gK]);omega):p:=h
theorem bn{p:Prop}(h:p:=by simp only[Op.operands,Call.operands];simp;exact .inr (by simpa using hx)):p:=h
theorem bu{p:Prop}(h:p:=by first|assumption|(refine⟨by omega,?_⟩;first|(intro _ _;trivial)|assumption)|(unfold xR;simp_all[F9,qL])):p:=h
theorem bz{p:Prop}(h:p:=by first|assumption|(refine⟨by omega,?_⟩;first|(intro _ _;trivial)|assumption)|(unfold l9;simp_all[F9,qL])):p:=h
theorem bC{p:Prop}(h:p:=by unfold slices_Clone_string;exact vw (by first|omega|(dsimp only;omega)) (by first|omega|(dsimp only;omega))):p:=h
theorem bD{p:Prop}(h:p:=by refine⟨by simp,by omega,?_⟩;simp[lS]):p:=h
theorem bF{p:Prop}(h:p:=by first|assumption|(refine⟨by omega,?_⟩;first|(intro _ _;trivial)|assumption)|(unfold vC;simp_all[F9,qL])):p:=h
theorem bG{p:Prop}(h:p:=by intro e;apply he;rw[Nat.succ.inj e]):p:=h
theorem bH{p:Prop}(h:p:=by simp[Rep]):p:=h
theorem bI{p:Prop}(h:p:=by unfold Rep at h1 |-;exact h1):p:=h
theorem bJ{p:Prop}(h:p:=by rw[acY (by rw[hb,hj]) he]):p:=h
theorem bK{p:Prop}(h:p:=by (try simp only[eL,q]);repeat' constructor):p:=h
theorem bM{p:Prop}(h:p:=by simp;omega):p:=h
theorem bP{p:Prop}(h:p:=by show (2*(t.length+1)+192)*8<=_;omega):p:=h
theorem bQ{p:Prop}(h:p:=by first|assumption|(refine⟨by omega,?_⟩;first|(intro _ _;trivial)|assumption)|(unfold lT;simp_all[F9,qL])):p:=h
theorem bT{p:Prop}(h:p:=by unfold mY;exact vw (by first|omega|(dsimp only;omega)) (by first|omega|(dsimp only;omega))):p:=h
theorem bU{p:Prop}(h:p:=by decide):p:=h
theorem bV{p:Prop}(h:p:=by simpa using hoj):p:=h
theorem bW{p:Prop}(h:p:=by simp only[Op.operands,List.mem_toArray,List.mem_map];exact⟨x,hx,rfl⟩):p:=h
theorem bY{p:Prop}(h:p:=by simpa using h):p:=h
theorem bZ{p:Prop}(h:p:=by first|assumption|exact SW.sz (by assumption)):p:=h
theorem cu{p:Prop}(h:p:=by simpa using hr):p:=h
theorem cZ{p:Prop}(h:p:=by simpa using hi):p:=h
theorem df{p:Prop}(h:p:=by show t.length+1<=_;omega):p:=h
theorem dh{p:Prop}(h:p:=by cases e):p:=h
theorem di{p:Prop}(h:p:=by simp[iP]):p:=h
theorem dm{p:Prop}(h:p:=by rw[List.getElem?_append_right (by omega)];simpa using hv):p:=h
theorem dn{p:Prop}(h:p:=by cases hb:Nat.beq a b with|false=>rfl|true=>exact absurd (Nat.eq_of_beq_eq_true hb) h):p:=h
theorem dw{p:Prop}(h:p:=by simp[Op.operands,Call.operands]):p:=h
theorem dA{p:Prop}(h:p:=by unfold Rep at h1 |-;obtain⟨ws,e,hr⟩:=h1;exact⟨ws,e,by unfold gB at hr |-;exact hr⟩):p:=h
theorem dB{p:Prop}(h:p:=by simp[Rep,iK.jd]):p:=h
theorem dC{p:Prop}(h:p:=by unfold gB;exact⟨_,_,rfl,hrep,by unfold gB;rfl⟩):p:=h
theorem dD{p:Prop}(h:p:=by show ¬ (left.length:Int)<(left.length:Int);omega):p:=h
theorem dE{p:Prop}(h:p:=by rw[W.don];exact hn):p:=h
theorem dF{p:Prop}(h:p:=by show ¬ (ms.length:Int)<(ms.length:Int);omega):p:=h
theorem dG{p:Prop}(h:p:=by rw[VI];exact Nat.le_of_not_lt ht):p:=h
theorem dH{p:Prop}(h:p:=by simp[jW,hu]):p:=h
theorem dI{p:Prop}(h:p:=by show ¬ (s.length:Int)<(s.length:Int);omega):p:=h
theorem dJ{p:Prop}(h:p:=by simp[h]):p:=h
theorem dK{p:Prop}(h:p:=by simp[jU] at h):p:=h
theorem dL{p:Prop}(h:p:=by show ¬ (c.abilities.length:Int)<(c.abilities.length:Int);omega):p:=h
theorem dM{p:Prop}(h:p:=by unfold jL;exact vw (by omega) (by omega)):p:=h
theorem dN{p:Prop}(h:p:=by simpa using hj):p:=h
theorem dO{p:Prop}(h:p:=by show n-_<18446744073709551616;omega):p:=h
theorem dP{p:Prop}(h:p:=by intro e;cases e):p:=h
theorem dQ{p:Prop}(h:p:=by rw[hb,hj]):p:=h
theorem dR{p:Prop}(h:p:=by assumption):p:=h
theorem dS{p:Prop}(h:p:=by simp[ql];omega):p:=h
theorem dU{p:Prop}(h:p:=by simp[Rep];rfl):p:=h
theorem dV{p:Prop}(h:p:=by (conv=>lhs;cbv)<;>(try simp only[q])<;>(try rfl)):p:=h
theorem dW{p:Prop}(h:p:=by show ¬ (f.jY.length:Int)<(f.jY.length:Int);omega):p:=h
theorem dX{p:Prop}(h:p:=by rw[run (abU hu hinf g1 g2 g3 (by omega))];rfl):p:=h
theorem dY{p:Prop}(h:p:=by simp[Op.operands]):p:=h
theorem dZ{p:Prop}(h:p:=by simpa using hx):p:=h
theorem eF{p:Prop}(h:p:=by simpa using h1):p:=h
theorem eG{p:Prop}(h:p:=by simpa using h2):p:=h
theorem eH{p:Prop}(h:p:=by rwa [show i+(k+1)=i+1+k by omega]):p:=h
theorem eP{p:Prop}(h:p:=by rw[d1];rcases c2 with c2|c2<;>rw[c2]<;>rfl):p:=h
theorem eQ{p:Prop}(h:p:=by rw[iG,if_pos rfl]):p:=h
theorem eU{p:Prop}(h:p:=by rw[hl];simp):p:=h
theorem eX{p:Prop}(h:p:=by rw[ho];exact h):p:=h
theorem eY{p:Prop}(h:p:=by subst hy;simp[Op.operands]):p:=h
theorem fA{p:Prop}(h:p:=by simpa using hk):p:=h
theorem fB{p:Prop}(h:p:=by simp[isQ] at hq):p:=h
theorem fC{p:Prop}(h:p:=by cbv;exact nM):p:=h
theorem fD{p:Prop}(h:p:=by exact hk4 _ trivial):p:=h
theorem fE{p:Prop}(h:p:=by intro O;cbv;cases O;exact hR _ _ _ ai ai rfl):p:=h
theorem fF{p:Prop}(h:p:=by exact⟨Y,σ,H,K0⟩):p:=h
theorem fG{p:Prop}(h:p:=by intro O;cbv;replace O:=uZ O;exact qO):p:=h
theorem fH{p:Prop}(h:p:=by exact .inl (Nat.le_trans H.mf.size h)):p:=h
theorem fJ{p:Prop}(h:p:=by intro O;cbv;cases O;exact hR _ d_st):p:=h
theorem fK{p:Prop}(h:p:=by intro O;cbv;cases O;exact hR _ (d_l aY)):p:=h
theorem fM{p:Prop}(h:p:=by simp only[EI] at h |-;exact⟨_,_,h.2,λ_ hk=>⟨h.1,hk⟩⟩):p:=h
theorem fO{p:Prop}(h:p:=by simp only[EI] at h |-;obtain⟨h0,j,h1,h2,h⟩:=h;exact⟨_,_,h,λ_ hk=>⟨h0,j,h1,h2,hk⟩⟩):p:=h
theorem fP{p:Prop}(h:p:=by simp only[zV,EL,cond_true,cond_false];exact KS.refl _ _):p:=h
theorem fQ{p:Prop}(h:p:=by exact gp (Ae _ _ _ _ _ hp O) λ_ _=>gq (λ_=>lU bP df (h5 _ bM)) λ_=>h5 _ (by show t.length<=i+1;omega)):p:=h
theorem fU{p:Prop}(h:p:=by simp only[iK.jd] at h |-;obtain⟨row,h0,h⟩:=h;obtain⟨v,h1,h2⟩:=vF h;exact⟨v,_,h1,λ_ hk=>⟨row,h0,h2 _ hk⟩⟩):p:=h
end Go.Pv
namespace Go.Pv
open Go
structure Hdr where
 ν:Nat
 o:Nat
 cap:Nat
inductive PV where
 | bool (b:Bool)
 | sb (b:Bool)
 | int (k:IntKind) (n:Int)
 | si (k:IntKind) (n:Int)
 | str (s:ByteArray)
 | agg (cs:List PV)
 | FH (vs:List PV)
 | sl (sz:Nat) (es:List (List PV)) (full:Bool)
 | os (b r n:Nat)
 | lv (b c:Nat)
 | lp (b r c:Nat)
 | pp (cs:List PV)
 | ow (h:Hdr) (sz:Nat) (es:List (List PV))
 | bo (b r c:Nat) (h:Hdr) (sz n:Nat)
 | np (b r c:Nat) (h:Hdr) (sz j k:Nat)
 | Bv
 | fn (f:Nat) (caps:List PV)
 | LP
 | mp (b:Nat)
 | top
 | undef
 deriving Inhabited
inductive jq where
 | var (ro:Bool) (row:List PV)
 | arr (ro:Bool) (sz:Nat) (rows:List (List PV))
 | kH (sz:Nat) (rows:List (List PV))
 | map (rows:List (List PV))
 | nor (sz:Nat) (rows:List (List PV)) (r:Nat) (row:List PV)
abbrev St:=List (Nat×Option jq)
structure Env where
 tmps:List PV
 st:St
 next:Nat
structure iK where
 bin:BinOp->IntKind->Int->Int->Int
 cmp:BinOp->Int->Int->Bool
 conv:IntKind->Int->Int
 neg:IntKind->Int->Int
 beq:Bool->Bool->Bool
 band:Bool->Bool->Bool
 afl:BinOp->ByteArray->ByteArray->Bool
 slen:ByteArray->Int
 afm:Int->Int->Int
 ag9:Int->Int->Int
 len:List (List PV)->Int
 FK:Nat->Int
 LQ:Nat->Nat->Nat
 XA:Nat->Nat->Nat
 app:List (List PV)->List (List PV)->List (List PV)
 sub:List (List PV)->Nat->Nat->List (List PV)
 spl:List (List PV)->Nat->List (List PV)->List (List PV)
 MZ:List (List PV)->Nat->List PV->List (List PV)
 rep:Nat->List PV->List (List PV)
 lenN:List (List PV)->Nat
 br:Bool->(Unit->Prop)->(Unit->Prop)->Prop
 call:Nat->List PV->Env->Option (List PV)->Option (List PV)->List Nat->List PV->St->(PV->Env->Prop)->Prop
 XB:Nat->List PV->(PV->Prop)->Prop
 Rk:Nat->List PV->List PV->List PV->Env->(PV->Env->Prop)->Prop
 aaN:Nat->List PV->(PV->Prop)->Prop
 agT:Nat->List PV->(PV->jq->Prop)->Prop
 acZ:Nat->List PV->St->List Nat->(PV->St->Nat->Prop)->Prop
 loop:Code->(Nat->Env->Prop)->Env->Prop
 seq:((Nat->Env->Prop)->Prop)->(Env->Prop)->(Nat->Env->Prop)->Prop
 idx:List (List PV)->Int->(List PV->Prop)->Prop
 ix:Nat->Int->(Nat->Prop)->Prop
 row:List (List PV)->Nat->(List PV->Prop)->Prop
 aha:ByteArray->Int->(Int->Prop)->Prop
 div:BinOp->IntKind->Int->Int->(Int->Prop)->Prop
 shf:BinOp->IntKind->Int->Int->(Int->Prop)->Prop
 ahb:ByteArray->ByteArray->(ByteArray->Prop)->Prop
 mks:Int->Int->Nat->(Nat->Prop)->Prop
 room:Nat->Nat->Prop->Prop
 slc:Nat->Int->Int->(Nat->Nat->Prop)->Prop
 ac0:ByteArray->Int->Int->(ByteArray->Prop)->Prop
 VJ:List (List PV)->(Bool->Prop)->Prop
 toS:Nat->List (List PV)->(ByteArray->Prop)->Prop
 toB:Nat->ByteArray->(List (List PV)->Prop)->Prop
 wk:List PV->(List PV->Prop)->Prop
 order:Array Oper->Prop->Prop
 last:Array Oper->Prop->Prop
 afn:Array Oper->List (List Nat×List Nat×List Nat)->Prop->Prop
 nu:(Hdr->Prop)->Prop
 same:Hdr->Hdr->Prop->Prop
 fz:List (List PV)->List (List PV)
 ahc:List (List PV)->Int->List PV->(List PV->Bool->Prop)->Prop
 afo:List (List PV)->Int->List PV->List (List PV)
def iZ:List PV->Nat->PV
 | [],_=>.undef
 | x::_,0=>x
 | _::l,n+1=>iZ l n
def qU:List PV->Nat->PV->List PV
 | [],_,_=>[]
 | _::l,0,v=>v::l
 | x::l,n+1,v=>x::qU l n v
def lG:List PV->Nat
 | []=>0
 | _::l=>lG l+1
def Na:Nat->List PV->List PV
 | 0,_=>[]
 | _+1,[]=>[]
 | n+1,x::l=>x::Na n l
def Cj:Nat->List PV->List PV
 | 0,l=>l
 | _+1,[]=>[]
 | n+1,_::l=>Cj n l
def wU:List PV->List PV->List PV
 | [],m=>m
 | x::l,m=>x::wU l m
def jZ:List PV->Nat->List PV->List PV
 | l,_,[]=>l
 | l,c,v::vs=>jZ (qU l c v) (c+1) vs
def chunks (sz:Nat):Nat->List PV->List (List PV)
 | 0,_=>[]
 | n+1,l=>Na sz l::chunks sz n (Cj sz l)
def iO:St->Nat->Option jq
 | [],_=>none
 | (b,x)::l,c=>bif Nat.beq b c then x else iO l c
def nI:St->Nat->Option jq->St
 | [],b,x=>[(b,x)]
 | (b',y)::l,b,x=>bif Nat.beq b' b then (b',x)::l else (b',y)::nI l b x
def iW:List (Nat×Option jq)->St->St
 | [],s=>s
 | (b,x)::d,s=>iW d (nI s b x)
def Ht:Value->PV
 | .bool b=>.bool b
 | .int k n=>.int k n
 | .string s=>.str s
 | .pointer none=>.Bv
 | .slice none 0 0=>.sl 0 [] true
 | .nilFunc=>.LP
 | _=>.top
def CG:List Value->List PV
 | []=>[]
 | v::vs=>Ht v::CG vs
def Rl:Value->PV
 | .agg cs=>.agg (CG cs.toList)
 | v=>Ht v
def jM:PV->List PV
 | .agg cs=>cs
 | v=>[v]
def sZ:PV->Bool
 | .agg _|.FH _|.top|.undef=>false
 | _=>true
def iE:List PV->Bool
 | []=>true
 | v::vs=>sZ v&&iE vs
def nZ (E:Env):Option Nat->PV->Env
 | none,_=>E
 | some d,v=>{ E with tmps:=qU E.tmps d v }
def jW (P:Program)(t:TypeId):Bool :=
 match P.underlying t with
 | some (.struct _)|some (.array ..)=>true
 | _=>false
structure FI where
 off:Nat
 size:Nat
 agg:Bool
inductive TK where
 | oth
 | str
 | ptr
 | int (k:IntKind)
 | struct (fs:List FI)
 | arr (n sz:Nat) (agg:Bool)
 | slice (sz bytes:Nat) (zero:Option (List PV))
 | map (sz:Nat) (zero:List PV)
structure TI where
 ok:Bool
 agg:Bool
 size:Nat
 zero:Option (List PV)
 plain:Option (List Nat)
 kind:TK
def TI.bad:TI:={ ok:=false,agg:=false,size:=0,zero:=none,plain:=none,kind:=.oth }
structure Tab where
 ti:TypeId->TI
 gl:Nat->Option (List PV)
 qJ:Nat
 cut:List Nat
 kH:Nat
 own:List (List (Nat×Bool))
 dcl:List (Nat×Nat)
instance:CoeFun Tab (λ_=>TypeId->TI):=⟨Tab.ti⟩
def oD (T:Tab)(tmps:List PV):Operand->PV
 | .tmp t=>iZ tmps t
 | .const v=>Rl v
 | .func f=>.fn f []
 | .global g=>match T.gl g with|some cs=>.pp cs|none=>.top
def evO (T:Tab)(tmps:List PV):Option Operand->Option PV
 | none=>none
 | some x=>some (oD T tmps x)
def evA (T:Tab)(tmps:List PV):List Operand->List PV
 | []=>[]
 | x::l=>oD T tmps x::evA T tmps l
def jo:Nat->Bool
 | 0=>false
 | _+1=>true
def ui:PV->Option (IntKind×Int)
 | .int k n|.si k n=>some (k,n)
 | _=>none
def Jf:PV->Option Bool
 | .bool b|.sb b=>some b
 | _=>none
def nN:BinOp->Bool
 | .add|.sub|.mul|.and|.or|.xor|.andNot=>true
 | _=>false
def wV:BinOp->Bool
 | .eql|.neq|.lss|.leq|.gtr|.geq=>true
 | _=>false
def jS (op:BinOp)(k:IntKind)(a b:Int):Int :=
 match op with
 | .add=>k.wrap (a+b)
 | .sub=>k.wrap (a-b)
 | .mul=>k.wrap (a*b)
 | .and=>k.wrap ((BitVec.ofInt k.bits a &&& BitVec.ofInt k.bits b).toNat)
 | .or=>k.wrap ((BitVec.ofInt k.bits a ||| BitVec.ofInt k.bits b).toNat)
 | .xor=>k.wrap ((BitVec.ofInt k.bits a ^^^ BitVec.ofInt k.bits b).toNat)
 | .andNot=>k.wrap ((BitVec.ofInt k.bits a &&& ~~~(BitVec.ofInt k.bits b)).toNat)
 | _=>0
def xQ (op:BinOp)(a b:Int):Bool :=
 match op with
 | .eql=>decide (a=b)
 | .neq=>!decide (a=b)
 | .lss=>decide (a<b)
 | .leq=>decide (a<=b)
 | .gtr=>decide (b<a)
 | .geq=>decide (b<=a)
 | _=>false
def iP (op:BinOp)(a b:ByteArray):Bool :=
 match op with
 | .eql=>decide (a=b)
 | .neq=>!decide (a=b)
 | .lss=>Op.bytesLess a.toList b.toList
 | .leq=>Op.bytesLess a.toList b.toList || decide (a=b)
 | .gtr=>!(Op.bytesLess a.toList b.toList || decide (a=b))
 | .geq=>!Op.bytesLess a.toList b.toList
 | _=>false
def qm:IntKind->IntKind->Bool
 | .i8,.i8|.i16,.i16|.i32,.i32|.i64,.i64|.u8,.u8|.u16,.u16|.u32,.u32|.u64,.u64=>true
 | _,_=>false
def eqC (S:iK):Nat->PV->PV->Option Bool
 | 0,x,y=>match ui x,ui y with
  | some (k,a),some (k',b)=>bif qm k k' then some (S.cmp .eql a b) else none
  | _,_=>none
 | 1,x,y=>match Jf x,Jf y with
  | some a,some b=>some (S.beq a b)
  | _,_=>none
 | 2,.str a,.str b=>some (S.afl .eql a b)
 | _,_,_=>none
def VK (S:iK):List Nat->List PV->List PV->Option Bool
 | [],[],[]=>some true
 | k::ks,x::xs,y::ys =>
  match eqC S k x y with
  | none=>none
  | some a=>match VK S ks xs ys with
   | none=>none
   | some b=>some (S.band a b)
 | _,_,_=>none
def XC:Nat->List Nat->List Nat
 | 0,_=>[]
 | n+1,l=>l++XC n l
def KD (P:Program)(rec:TypeId->Option (List Nat)):List Field->Nat->Option (List Nat)
 | [],_=>some []
 | f :: fs, n => if f.offset = n ∧ f.name ≠ "_" ∧ P.info? f.type ≠ none then
   match rec f.type with
   | some s=>if P.cellsOf f.type=s.length/\0<s.length then
     match KD P rec fs (n+s.length) with
     | some r=>some (s++r)
     | none=>none
    else none
   | none=>none
  else none
def vG (P:Program):Nat->TypeId->Option (List Nat)
 | 0,_=>none
 | d+1,t =>
  match P.underlying t with
  | some .bool=>some [1]
  | some (.int _)=>some [0]
  | some .string=>some [2]
  | some (.struct fs)=>if P.stoodInHeld t then none else KD P (vG P d) fs.toList 0
  | some (.array n e)=>match vG P d e with
   | some s=>if P.cellsOf e=s.length/\P.info? e≠none then some (XC n s) else none
   | none=>none
  | _=>none
def isSpec:BinOp->Bool
 | .shl|.shr|.quo|.rem=>true
 | _=>false
def zV:BinOp->Bool
 | .eql=>true
 | _=>false
def EL:BinOp->Bool
 | .neq=>true
 | _=>false
def isAdd:BinOp->Bool
 | .add=>true
 | _=>false
def Nb (S:iK)(op:BinOp)(k:IntKind)(a:Int)(k' : IntKind)(b:Int)(K:PV->Prop):Prop :=
 match op with
 | .shl|.shr=>S.shf op k a b λn=>K (.si k n)
 | .quo|.rem=>bif qm k k' then S.div op k a b λn=>K (.si k n) else False
 | _=>False
def yI:PV->Bool
 | .lv _ _|.lp _ _ _|.pp _|.np _ _ _ _ _ _ _=>true
 | _=>false
def og:PV->Bool
 | .Bv=>true
 | _=>false
def eqK (S:iK)(op:BinOp)(b:Bool)(K:PV->Prop):Prop :=
 bif zV op then K (.sb b) else bif EL op then K (.sb (S.beq b false)) else False
def eqL (op:BinOp)(b:Bool)(K:PV->Prop):Prop :=
 bif zV op then K (.bool b) else bif EL op then (match b with|true=>K (.bool false)|false=>K (.bool true)) else False
def yE (T:Tab)(S:iK)(op:BinOp)(t:TypeId)(x y:PV)(K:PV->Prop):Prop :=
 match x,y with
 | .int k a,.int k' b =>
  bif isSpec op then Nb S op k a k' b K
  else bif qm k k' then (bif nN op then K (.int k (jS op k a b)) else bif wV op then K (.bool (xQ op a b)) else False) else False
 | .str a,.str b =>
  bif isAdd op then S.ahb a b λc=>K (.str c)
  else bif wV op then K (.sb (S.afl op a b)) else False
 | .agg xs,.agg ys =>
  match T t with
  | { ok:=true,agg:=true,plain:=some ks,.. }=>(match VK S ks xs ys with
   | some b=>eqK S op b K
   | _=>False)
  | _=>False
 | x,y =>
  match ui x,ui y with
  | some (k,a),some (k',b) =>
   bif isSpec op then Nb S op k a k' b K
   else bif qm k k' then (bif nN op then K (.si k (S.bin op k a b)) else bif wV op then K (.sb (S.cmp op a b)) else False) else False
  | _,_ =>
   match Jf x,Jf y with
   | some a,some b=>(match T t with
    | { ok:=true,agg:=false,plain:=some [1],.. }=>eqK S op (S.beq a b) K
    | _=>False)
   | _,_ =>
    match T t with
    | { ok:=true,kind:=.ptr,.. } =>
     bif og x&&og y then eqL op true K
     else bif (og x&&yI y) || (yI x&&og y) then eqL op false K
     else False
    | _=>False
def Cm (place:Nat->Option (Nat×Nat)):List PV->List (Nat×PV)->Option (List PV)
 | cells,[]=>some cells
 | cells,(i,v)::rest =>
  match place i with
  | none=>none
  | some (off,size) =>
   bif Nat.beq (lG (jM v)) size&&Nat.ble (off+size) (lG cells) then Cm place (jZ cells off (jM v)) rest else none
def evP (T:Tab)(tmps:List PV):List (Nat×Operand)->List (Nat×PV)
 | []=>[]
 | (i,x)::l=>(i,oD T tmps x)::evP T tmps l
def xZ:List (Nat×PV)->Bool
 | []=>true
 | (_,.top)::_=>false
 | _::l=>xZ l
def EM (P:Program)(t:TypeId):Option (List PV) :=
 match P.info? t with
 | some i=>match i.zero with
  | some z=>some (jM (Rl z))
  | none=>none
 | none=>none
def Jb:Nat->List PV->List PV
 | 0,_=>[]
 | n+1,l=>wU l (Jb n l)
def CJ:List FI->Nat->Option FI
 | [],_=>none
 | f::_,0=>some f
 | _::l,n+1=>CJ l n
def Jg (fs:List FI)(i:Nat):Option (Nat×Nat) :=
 match CJ fs i with
 | some f=>some (f.off,f.size)
 | none=>none
def VL (P:Program)(t:TypeId):Option (List PV) :=
 match P.info? t with
 | some i=>match i.zero with
  | some (.agg cs)=>some (CG cs.toList)
  | _=>none
 | none=>none
def Nc (P:Program)(k e:TypeId):TK :=
 match P.underlying k,VL P e with
 | some (.int .i64),some z=>.map (P.cellsOf e) z
 | _,_=>.oth
def ac1 (P:Program)(t:TypeId):TI :=
 match P.info? t,P.underlying t with
 | some i,some d =>
  { ok:=true,agg:=jW P t,size:=i.size,zero:=EM P t,plain:=if P.eqGuardType P.depth t then none else vG P 20 t,kind:=match d with
    | .struct fs=>.struct (fs.toList.map λf=>{ off:=f.offset,size:=P.cellsOf f.type,agg:=jW P f.type })
    | .array n e=>.arr n (P.cellsOf e) (jW P e)
    | .slice e=>.slice (P.cellsOf e) (P.bytesOf e) (EM P e)
    | .int k=>.int k
    | .string=>.str
    | .pointer _=>.ptr
    | .map k e=>Nc P k e
    | _=>.oth }
 | _,_=>.bad
def jg (P:Program)(T:Tab):Prop:=∀ t,(T t).ok=true->T t=ac1 P t/\t<P.types.size
abbrev Dl:=List (Nat×Option jq)
def rowsOf (S:iK)(esz:Nat)(lk:Nat->Option jq):PV->Option (List (List PV))
 | .sl sz es _=>bif Nat.beq sz esz then some es else (match es with|[]=>some []|_::_=>none)
 | .os b r n=>match lk b with
  | some (.arr _ sz rows)=>bif Nat.beq sz esz then some (S.sub rows r n) else none
  | _=>none
 | _=>none
def loadRow (agg:Bool)(size:Nat)(row:List PV)(c:Nat)(K:PV->Prop):Prop :=
 bif agg then
  (bif Nat.ble (c+size) (lG row) then K (.agg (Na size (Cj c row))) else False)
 else (bif Nat.blt c (lG row) then K (iZ row c) else False)
def lL (size:Nat)(row:List PV)(c:Nat)(v:PV)(K:List PV->Prop):Prop :=
 bif iE (jM v)&&Nat.beq (lG (jM v)) size&&Nat.ble (c+lG (jM v)) (lG row) then K (jZ row c (jM v)) else False
def FM (S:iK)(lk:Nat->Option jq):List PV->Option (List PV×Dl)
 | []=>some ([],[])
 | v::vs=>match FM S lk vs with
  | none=>none
  | some (vs',δ)=>match v with
   | .os b r n=>(match lk b with
    | some (.arr _ sz rows)=>some (.sl sz (S.sub rows r n) false::vs',(b,some (.arr true sz rows))::δ)
    | _=>none)
   | .lv _ _|.lp _ _ _|.fn _ (_::_)|.agg _|.FH _|.top|.undef|.ow _ _ _|.bo _ _ _ _ _ _|.np _ _ _ _ _ _ _|.mp _=>none
   | v=>some (v::vs',δ)
def ajm (_:Nat):Option jq:=none
def Qe:List PV->Bool
 | []=>false
 | .sl _ _ _::_=>true
 | _::l=>Qe l
def ac2 (kH:Nat)(esz:Nat)(z:List PV)(rows:List (List PV)):jq :=
 match kH with
 | 0=>.arr false esz rows
 | _+1=>(match Qe z with
  | true=>.kH esz rows
  | false=>.arr false esz rows)
def hd0:Hdr:=⟨0,0,0⟩
def owC (n:Nat)(v:PV):PV :=
 match v with
 | .sl _ es f=>(match f with
  | true=>(match es with
   | []=>.ow hd0 n []
   | _::_=>v)
  | false=>v)
 | v=>v
def owZ (n:Nat):List PV->List PV
 | []=>[]
 | v::l=>owC n v::owZ n l
def ahd (S:iK)(b r c:Nat):PV->PV
 | .ow h sz es=>.bo b r c h sz (S.lenN es)
 | v=>v
def ac3 (S:iK)(b r:Nat):Nat->List PV->List PV
 | _,[]=>[]
 | c,v::l=>ahd S b r c v::ac3 S b r (c+1) l
def Ut (b:Nat):Dl->Bool
 | []=>false
 | (c,_)::l=>Nat.beq c b || Ut b l
def Rn:List PV->Bool
 | []=>false
 | v::vs=>match v with
  | .int _ _=>true
  | .bool _=>true
  | .sl _ es f=>(match f with
   | true=>(match es with
    | []=>true
    | _::_=>Rn vs)
   | false=>Rn vs)
  | _=>Rn vs
def wkC (S:iK)(cs:List PV)(K:List PV->Prop):Prop :=
 match Rn cs with
 | true=>S.wk cs K
 | false=>K cs
def wkN (S:iK)(kH:Nat)(cs:List PV)(K:List PV->Prop):Prop :=
 match kH with
 | 0=>wkC S cs K
 | n+1=>(match Qe cs with
  | true=>K (owZ n cs)
  | false=>wkC S cs K)
def Nh:Operand->Bool
 | .const (.slice none 0 0)=>true
 | _=>false
def jU (T:Tab)(S:iK)(o:Op)(tmps:List PV)(lk:Nat->Option jq)(id:Nat)(K:PV->Dl->Prop):Prop :=
 match o with
 | .move x|.assign x=>K (oD T tmps x) []
 | .pick c a b =>
  match oD T tmps c with
  | .bool true=>K (oD T tmps a) []
  | .bool false=>K (oD T tmps b) []
  | _=>False
 | .alloc t =>
  match T t with
  | { ok:=true,zero:=some z,.. }=>K (.lv id 0) [(id,some (.var false z))]
  | _=>False
 | .box _ x =>
  match oD T tmps x with
  | .top=>False
  | v=>K (.lv id 0) [(id,some (.var false (jM v)))]
 | .fieldAddr t x f =>
  match T t with
  | { ok:=true,kind:=.struct fs,.. }=>(match CJ fs f with
   | some fd=>bif jo fd.size then (match oD T tmps x with
    | .lv b c=>K (.lv b (c+fd.off)) []
    | .lp b r c=>K (.lp b r (c+fd.off)) []
    | .np b r c h sz j k=>K (.np b r c h sz j (k+fd.off)) []
    | .pp cs=>bif Nat.ble fd.off (lG cs) then K (.pp (Cj fd.off cs)) [] else False
    | _=>False) else False
   | none=>False)
  | _=>False
 | .field t x f =>
  match T t with
  | { ok:=true,kind:=.struct fs,.. }=>(match CJ fs f with
   | some fd=>(match oD T tmps x with
    | .agg cs=>bif jo fd.size then loadRow fd.agg fd.size cs fd.off (λv=>K v []) else False
    | _=>False)
   | none=>False)
  | _=>False
 | .load t x =>
  match T t with
  | { ok:=true,agg,size,.. }=>(match oD T tmps x with
   | .lv b c=>(match lk b with
    | some (.var _ row)=>loadRow agg size row c λv=>K v []
    | _=>False)
   | .lp b r c=>(match lk b with
    | some (.arr _ _ rows)=>S.row rows r λrow=>loadRow agg size row c λv=>K v []
    | some (.kH _ rows)=>S.row rows r λrow=>loadRow agg size (ac3 S b r 0 row) c λv=>K v []
    | some (.nor _ _ r0 row)=>S.same ⟨r,0,0⟩ ⟨r0,0,0⟩ (loadRow agg size row c λv=>K v [])
    | _=>False)
   | .np b r c h sz j k=>(match lk b with
    | some (.kH _ rows)=>S.row rows r λrow=>(match iZ row c with
     | .ow h' sz' es=>bif Nat.beq sz' sz then S.same h h' (S.row es j λer=>loadRow agg size er k λv=>K v []) else False
     | _=>False)
    | _=>False)
   | .pp cs=>loadRow agg size cs 0 λv=>K v []
   | _=>False)
  | _=>False
 | .store t x y =>
  match T t with
  | { ok:=true,size,.. }=>(match oD T tmps x with
   | .lv b c=>(match lk b with
    | some (.var false row)=>lL size row c (oD T tmps y) λrow'=>K .undef [(b,some (.var false row'))]
    | _=>False)
   | .lp b r c=>(match lk b with
    | some (.arr false sz rows)=>(match FM S lk (jM (oD T tmps y)) with
     | some (cs,δ)=>bif Ut b δ then False else wkC S cs λcs=>S.row rows r λrow=>lL size row c (.agg cs) λrow'=>K .undef (δ++[(b,some (.arr false sz (S.MZ rows r row')))])
     | none=>False)
    | some (.kH sz rows)=>(match oD T tmps y with
     | .os id r0 n=>(match lk id with
      | some (.arr false sz' rows')=>bif Nat.beq size 1&&Nat.beq id b then False else S.row rows r λrow=>S.nu λh =>
        lL size row c (.ow h sz' (S.sub rows' r0 n)) λrow'=>K .undef [(id,none),(b,some (.kH sz (S.MZ rows r row')))]
      | _=>False)
     | y=>(match FM S lk (jM y) with
      | some (cs,[])=>S.row rows r λrow=>lL size row c (.agg cs) λrow'=>K .undef [(b,some (.kH sz (S.MZ rows r row')))]
      | _=>False))
    | some (.nor sz rows r0 row)=>S.same ⟨r,0,0⟩ ⟨r0,0,0⟩ (lL size row c (oD T tmps y) λrow'=>K .undef [(b,some (.nor sz rows r0 row'))])
    | _=>False)
   | .np b r c h sz j k=>(match lk b with
    | some (.kH sz0 rows)=>(match FM S ajm (jM (oD T tmps y)) with
     | some (cs,[])=>wkC S cs λcs=>S.row rows r λrow=>(match iZ row c with
      | .ow h' sz' es=>bif Nat.beq sz' sz then S.same h h' (S.row es j λer=>lL size er k (.agg cs) λer' =>
        K .undef [(b,some (.kH sz0 (S.MZ rows r (qU row c (.ow h' sz' (S.MZ es j er'))))))]) else False
      | _=>False)
     | _=>False)
    | _=>False)
   | _=>False)
  | _=>False
 | .nilCheck x =>
  match oD T tmps x with
  | .lv b c=>K (.lv b c) []
  | .lp b r c=>K (.lp b r c) []
  | .pp cs=>K (.pp cs) []
  | .np b r c h sz j k=>K (.np b r c h sz j k) []
  | .fn f cs=>K (.fn f cs) []
  | _=>False
 | .binOp op t x y _ =>
  match Nh y with
  | true=>(match T t with
   | { ok:=true,kind:=.slice _ _ _,.. }=>(match oD T tmps x with
    | .sl _ es _=>S.VJ es λb=>eqL op b λv=>K v []
    | .os b r n=>(match lk b with
     | some (.arr _ _ rows)=>S.VJ (S.sub rows r n) λb=>eqL op b λv=>K v []
     | _=>False)
    | _=>False)
   | _=>False)
  | false=>(match T t with
   | { ok:=true,.. }=>yE T S op t (oD T tmps x) (oD T tmps y) λv=>K v []
   | _=>False)
 | .unOp .not _ x =>
  match oD T tmps x with
  | .bool true=>K (.bool false) []
  | .bool false=>K (.bool true) []
  | .sb b=>K (.sb (S.beq b false)) []
  | _=>False
 | .unOp .neg _ x =>
  match oD T tmps x with
  | .int k n=>K (.int k (k.wrap (0-n))) []
  | .si k n=>K (.si k (S.neg k n)) []
  | _=>False
 | .convert s d x =>
  match T s,T d with
  | { ok:=true,kind:=.slice _ _ _,.. },{ ok:=true,kind:=.str,.. }=>(match rowsOf S 1 lk (oD T tmps x) with
   | some rows=>S.toS s rows λb=>K (.str b) []
   | none=>False)
  | { ok:=true,kind:=.str,.. },{ ok:=true,kind:=.slice _ _ _,.. }=>(match oD T tmps x with
   | .str b=>S.toB d b λrows=>K (.sl 1 rows false) []
   | _=>False)
  | { ok:=true,.. },{ ok:=true,kind:=.int k,.. }=>(match oD T tmps x with
   | .int _ n=>K (.int k (k.wrap n)) []
   | .si _ n=>K (.si k (S.conv k n)) []
   | _=>False)
  | _,_=>False
 | .indexAddr t x i =>
  match T t with
  | { ok:=true,kind:=.slice esz _ _,.. } =>
   (match oD T tmps x,ui (oD T tmps i) with
   | .sl sz es _,some (_,n)=>bif jo esz&&Nat.beq sz esz then S.idx es n λrow=>K (.pp row) [] else False
   | .os b r len,some (_,n)=>(match lk b with
    | some (.arr _ sz _)=>bif jo esz&&Nat.beq sz esz then S.ix len n λj=>K (.lp b (S.LQ r j) 0) [] else False
    | some (.kH sz _)=>bif jo esz&&Nat.beq sz esz then S.ix len n λj=>K (.lp b (S.LQ r j) 0) [] else False
    | some (.nor sz _ _ _)=>bif jo esz&&Nat.beq sz esz then S.ix len n λj=>K (.lp b (S.LQ r j) 0) [] else False
    | _=>False)
   | .bo b r c h sz len,some (_,n)=>bif jo esz&&Nat.beq sz esz then S.ix len n λj=>K (.np b r c h sz j 0) [] else False
   | _,_=>False)
  | { ok:=true,kind:=.arr len esz _,.. }=>bif jo esz then
   (match oD T tmps i with
   | .int _ (.ofNat n)=>bif Nat.blt n len then (match oD T tmps x with
    | .lv b c=>K (.lv b (c+n*esz)) []
    | .lp b r c=>K (.lp b r (c+n*esz)) []
    | .pp cs=>bif Nat.ble (n*esz) (lG cs) then K (.pp (Cj (n*esz) cs)) [] else False
    | _=>False) else False
   | .si _ n=>S.ix len n λj=>(match oD T tmps x with
    | .lv b c=>K (.lv b (c+j*esz)) []
    | .lp b r c=>K (.lp b r (c+j*esz)) []
    | .pp cs=>bif Nat.ble (j*esz) (lG cs) then K (.pp (Cj (j*esz) cs)) [] else False
    | _=>False)
   | _=>False) else False
  | _=>False
 | .index t x i =>
  match T t,oD T tmps x,ui (oD T tmps i) with
  | { ok:=true,kind:=.str,.. },.str s,some (_,n)=>S.aha s n λc=>K (.si .u8 c) []
  | { ok:=true,kind:=.arr len esz agg,.. },.agg cs,some (_,n)=>bif jo esz then S.ix len n (λj=>loadRow agg esz cs (j*esz) λv=>K v []) else False
  | _,_,_=>False
 | .extract t i =>
  match oD T tmps t with
  | .FH vs=>bif Nat.blt i (lG vs) then K (iZ vs i) [] else False
  | _=>False
 | .build t parts =>
  match T t with
  | { ok:=true,zero:=some z,kind:=.struct fs,.. } =>
   bif xZ (evP T tmps parts.toList) then (match Cm (Jg fs) z (evP T tmps parts.toList) with
    | some cs=>K (.agg cs) []
    | none=>False) else False
  | { ok:=true,zero:=some z,kind:=.arr _ esz _,.. } =>
   bif xZ (evP T tmps parts.toList) then (match Cm (λi=>some (i*esz,esz)) z (evP T tmps parts.toList) with
    | some cs=>K (.agg cs) []
    | none=>False) else False
  | _=>False
 | .buildSlice t len parts =>
  match T t with
  | { ok:=true,kind:=.slice esz _ (some z),.. } =>
    bif jo esz&&Nat.beq (lG z) esz&&Nat.ble (len*esz) 16777216&&xZ (evP T tmps parts.toList) then
     (match Cm (λi=>some (i*esz,esz)) (Jb len z) (evP T tmps parts.toList) with
     | some cs=>(match FM S lk cs with
      | some (cs,δ)=>wkC S cs λcs=>K (.os id 0 len) (δ++[(id,some (.arr false esz (chunks esz len cs)))])
      | none=>False)
     | none=>False)
    else False
  | _=>False
 | .makeFunc (.func f) first captured =>
  match first.toList with
  | []=>K (.fn f (evA T tmps captured.toList)) []
  | _=>False
 | .makeSlice t l c =>
  match T t,ui (oD T tmps l),ui (oD T tmps c) with
  | { ok:=true,kind:=.slice esz bytes (some z),.. },some (_,n),some (_,m) =>
    bif jo esz&&Nat.beq (lG z) esz&&iE z then
     S.mks n m bytes λj=>wkN S T.kH z λz2=>K (.os id 0 j) [(id,some (ac2 T.kH esz z (S.rep j z2)))]
    else False
  | _,_,_=>False
 | .slice t x lo hi mx =>
  match T t,oD T tmps x,evO T tmps lo,evO T tmps hi,evO T tmps mx with
  | { ok:=true,kind:=.slice esz _ _,.. },.sl sz es full,l,h,none=>bif jo esz&&Nat.beq sz esz then
   (match h with
   | none=>match l with
    | none=>K (.sl sz es full) []
    | some lv=>match ui lv with
     | some (_,a)=>S.slc (S.lenN es) a (S.len es) λi j=>K (.sl sz (S.sub es i (S.XA j i)) full) []
     | none=>False
   | some hv=>match ui hv with
    | some (_,b)=>match l with
     | none=>S.slc (S.lenN es) 0 b λi j=>K (.sl sz (S.sub es i (S.XA j i)) false) []
     | some lv=>match ui lv with
      | some (_,a)=>S.slc (S.lenN es) a b λi j=>K (.sl sz (S.sub es i (S.XA j i)) false) []
      | none=>False
    | none=>False) else False
  | { ok:=true,kind:=.slice esz _ _,.. },.os b r n,l,h,none =>
   (match lk b with
   | some (.arr _ sz _)=>bif jo esz&&Nat.beq sz esz then
    (match h with
    | none=>match l with
     | none=>K (.os b r n) []
     | some lv=>match ui lv with
      | some (_,a)=>S.slc n a (S.FK n) λi j=>K (.os b (S.LQ r i) (S.XA j i)) []
      | none=>False
    | some hv=>match ui hv with
     | some (_,c)=>match l with
      | none=>S.slc n 0 c λi j=>K (.os b (S.LQ r i) (S.XA j i)) []
      | some lv=>match ui lv with
       | some (_,a)=>S.slc n a c λi j=>K (.os b (S.LQ r i) (S.XA j i)) []
       | none=>False
     | none=>False) else False
   | _=>False)
  | { ok:=true,kind:=.slice esz _ _,.. },.sl _ _ _,none,some (.int _ 0),some (.int _ 0)=>bif jo esz then K (.sl esz [] true) [] else False
  | { ok:=true,kind:=.slice esz _ _,.. },.os _ _ _,none,some (.int _ 0),some (.int _ 0)=>bif jo esz then K (.sl esz [] true) [] else False
  | { ok:=true,kind:=.str,.. },.str s,l,h,none =>
   (match l with
   | none=>match h with
    | none=>K (.str s) []
    | some hv=>match ui hv with
     | some (_,b)=>S.ac0 s 0 b λs'=>K (.str s') []
     | none=>False
   | some lv=>match ui lv with
    | some (_,a)=>match h with
     | none=>S.ac0 s a (S.slen s) λs'=>K (.str s') []
     | some hv=>match ui hv with
      | some (_,b)=>S.ac0 s a b λs'=>K (.str s') []
      | none=>False
    | none=>False)
  | { ok:=true,kind:=.arr n esz _,.. },.lv b c,none,none,none =>
   (match lk b with
   | some (.var _ row)=>bif jo esz&&Nat.ble (c+n*esz) (lG row) then
     (match FM S (λ_=>none) row with
     | some _=>K (.sl esz (chunks esz n (Cj c row)) true) [(b,some (.var true row))]
     | none=>False) else False
   | _=>False)
  | { ok:=true,kind:=.arr n esz _,.. },.pp cs,none,none,none =>
   bif jo esz&&iE cs&&Nat.ble (n*esz) (lG cs) then K (.sl esz (chunks esz n cs) true) [] else False
  | _,_,_,_,_=>False
 | .call { callee:=.builtin b,args,argTypes } =>
  match b,evA T tmps args.toList,argTypes.toList with
  | .len,[.str s],[t]=>(match T t with|{ ok:=true,kind:=.str,.. }=>K (.si .i64 (S.slen s)) []|_=>False)
  | .len,[.sl _ es _],[t]=>(match T t with|{ ok:=true,kind:=.slice _ _ _,.. }=>K (.si .i64 (S.len es)) []|_=>False)
  | .len,[.bo _ _ _ _ _ n],[t]=>(match T t with|{ ok:=true,kind:=.slice _ _ _,.. }=>K (.si .i64 (S.FK n)) []|_=>False)
  | .len,[.os _ _ n],[t]=>(match T t with|{ ok:=true,kind:=.slice _ _ _,.. }=>K (.si .i64 (S.FK n)) []|_=>False)
  | .min,[x,y],_=>(match x,y with
   | .int k a,.int k' b=>bif qm k k' then K (.int k (if b<a then b else a)) [] else False
   | x,y=>match ui x,ui y with
    | some (k,a),some (k',b)=>bif qm k k' then K (.si k (S.afm a b)) [] else False
    | _,_=>False)
  | .max,[x,y],_=>(match x,y with
   | .int k a,.int k' b=>bif qm k k' then K (.int k (if a<b then b else a)) [] else False
   | x,y=>match ui x,ui y with
    | some (k,a),some (k',b)=>bif qm k k' then K (.si k (S.ag9 a b)) [] else False
    | _,_=>False)
  | .append,[s,x],t::u::_ =>
   (match T t,T u with
   | { ok:=true,kind:=.slice esz bytes (some z),.. },{ ok:=true,kind:=.slice _ _ _,.. } =>
    bif jo esz&&Nat.beq (lG z) esz then
     (match s,rowsOf S esz lk x with
     | .sl _ [] true,some new =>
      S.room (S.lenN new) bytes (K (.os id 0 (S.lenN new)) [(id,some (.arr false esz new))])
     | .os b r n,some new=>(match lk b with
      | some (.arr false sz rows)=>bif Nat.beq sz esz then
        S.room (S.LQ n (S.lenN new)) bytes (K (.os id 0 (S.LQ n (S.lenN new))) [(b,none),(id,some (.arr false sz (S.app (S.sub rows r n) new)))])
       else False
      | _=>False)
     | _,_=>False) else False
   | _,_=>False)
  | .clear,[.os b r n],t::_ =>
   (match T t with
   | { ok:=true,kind:=.slice esz _ (some z),.. } =>
    (match lk b with
    | some (.arr false sz rows)=>bif Nat.beq sz esz&&Nat.beq (lG z) sz&&jo sz&&iE z then
      wkC S z λz2=>K (.FH []) [(b,some (.arr false sz (S.spl rows r (S.rep n z2))))] else False
    | _=>False)
   | _=>False)
  | _,_,_=>False
 | _=>False
def Jc (f:PV->Option PV):List PV->Option (List PV)
 | []=>some []
 | c::cs=>match f c with
  | none=>none
  | some c=>match Jc f cs with
   | none=>none
   | some cs=>some (c::cs)
def frz (S:iK)(lk:Nat->Option jq):Nat->PV->Option PV
 | 0,_=>none
 | d+1,v =>
  match v with
  | .bool b=>some (.sb b)
  | .sb b=>some (.sb b)
  | .int k n=>some (.si k n)
  | .si k n=>some (.si k n)
  | .str s=>some (.str s)
  | .Bv=>some .Bv
  | .LP=>some .LP
  | .sl sz es _=>some (.sl sz es false)
  | .pp cs=>some (.pp cs)
  | .agg cs=>match Jc (frz S lk d) cs with|some cs=>some (.agg cs)|none=>none
  | .FH cs=>match Jc (frz S lk d) cs with|some cs=>some (.FH cs)|none=>none
  | .fn f cs=>match Jc (frz S lk d) cs with|some cs=>some (.fn f cs)|none=>none
  | .lv b c=>match lk b with
   | some (.var _ row)=>match Jc (frz S lk d) (Cj c row) with|some cs=>some (.pp cs)|none=>none
   | _=>none
  | .os b r n=>match lk b with
   | some (.arr _ sz rows)=>some (.sl sz (S.sub rows r n) false)
   | some (.kH sz rows)=>some (.sl sz (S.fz (S.sub rows r n)) false)
   | _=>none
  | _=>none
def gd (S:iK)(all:Array Oper)(g:Option (Nat×Bool))(E:Env)(run skip:Env->Prop):Prop :=
 match g with
 | none=>run E
 | some (j,want) =>
  match all[j]? with
  | some o=>match o.dst with
   | some d=>match iZ E.tmps d with
    | .bool true=>(match want with|true=>run E|false=>skip E)
    | .bool false=>(match want with|true=>skip E|false=>run E)
    | .sb b=>S.br b
      (λ_=>match want with|true=>run (nZ E (some d) (.bool true))|false=>skip (nZ E (some d) (.bool true)))
      (λ_=>match want with|true=>skip (nZ E (some d) (.bool false))|false=>run (nZ E (some d) (.bool false)))
    | .undef=>skip E
    | _=>False
   | none=>False
  | none=>False
def zW:Dl->Nat->Nat
 | [],n=>n
 | _::_,n=>n+1
def XD (f:PV->Bool):List PV->Bool
 | []=>true
 | c::cs=>f c&&XD f cs
def Gf:Nat->PV->Bool
 | 0,_=>false
 | d+1,v =>
  match v with
  | .bool _|.sb _|.int _ _|.si _ _|.str _|.Bv|.LP=>true
  | .agg cs=>XD (Gf d) cs
  | .FH cs=>XD (Gf d) cs
  | _=>false
def ve:List Nat->Nat->Bool
 | [],_=>false
 | b::l,c=>bif Nat.beq b c then true else ve l c
def ixN:List Nat->Nat->Option Nat
 | [],_=>none
 | b::l,c=>bif Nat.beq b c then some 0 else match ixN l c with|some i=>some (i+1)|none=>none
def Zj:List Nat->List Nat->List Nat
 | [],m=>m
 | b::l,m=>b::Zj l m
def zX:List Nat->Nat->List Nat
 | [],c=>[c]
 | b::l,c=>b::zX l c
def VM:List Nat->Bool
 | []=>true
 | b::l=>bif ve l b then false else VM l
def ltN (n:Nat):List Nat->Bool
 | []=>true
 | b::l=>Nat.blt b n&&ltN n l
def kZ:List Nat->Nat
 | []=>0
 | _::l=>kZ l+1
def UN:List Nat->Nat->Option Nat
 | [],_=>none
 | b::_,0=>some b
 | _::l,n+1=>UN l n
def upN:Nat->Nat->List Nat
 | _,0=>[]
 | i,n+1=>i::upN (i+1) n
def yJ (f:List Nat->PV->List Nat):List Nat->List PV->List Nat
 | acc,[]=>acc
 | acc,v::vs=>yJ f (f acc v) vs
def DR (f:PV->PV):List PV->List PV
 | []=>[]
 | v::vs=>f v::DR f vs
def BV (st:St):Nat->List Nat->PV->List Nat
 | 0,acc,_=>acc
 | d+1,acc,v=>match v with
  | .os b _ _=>bif ve acc b then acc else match iO st b with
   | some (.nor _ _ _ row)=>yJ (BV st d) (zX acc b) row
   | _=>zX acc b
  | .lp b _ _=>bif ve acc b then acc else match iO st b with
   | some (.nor _ _ _ row)=>yJ (BV st d) (zX acc b) row
   | _=>zX acc b
  | .bo b _ _ _ _ _=>bif ve acc b then acc else zX acc b
  | .np b _ _ _ _ _ _=>bif ve acc b then acc else zX acc b
  | .mp b=>bif ve acc b then acc else zX acc b
  | .lv b _=>bif ve acc b then acc else match iO st b with
   | some (.var _ row)=>yJ (BV st d) (zX acc b) row
   | _=>zX acc b
  | .agg cs=>yJ (BV st d) acc cs
  | .FH cs=>yJ (BV st d) acc cs
  | .fn _ cs=>yJ (BV st d) acc cs
  | _=>acc
def Af (f:Nat->Option Nat):Nat->PV->PV
 | 0,_=>.top
 | d+1,v=>match v with
  | .os b r n=>match f b with|some i=>.os i r n|none=>.top
  | .lp b r c=>match f b with|some i=>.lp i r c|none=>.top
  | .lv b c=>match f b with|some i=>.lv i c|none=>.top
  | .agg cs=>.agg (DR (Af f d) cs)
  | .FH cs=>.FH (DR (Af f d) cs)
  | .fn k cs=>.fn k (DR (Af f d) cs)
  | .bo b r c h sz n=>match f b with|some i=>.bo i r c h sz n|none=>.top
  | .np b r c h sz j k=>match f b with|some i=>.np i r c h sz j k|none=>.top
  | .mp b=>match f b with|some i=>.mp i|none=>.top
  | v=>v
def Ag (f:Nat->Option Nat):Option jq->Option jq
 | some (.var ro row)=>some (.var ro (DR (Af f 8) row))
 | some (.nor sz rows r row)=>some (.nor sz rows r (DR (Af f 8) row))
 | x=>x
def DT (f:Nat->Option Nat)(st:St):Nat->List Nat->St
 | _,[]=>[]
 | i,b::l=>(i,Ag f (iO st b))::DT f st (i+1) l
def Lm:List Nat->Nat->List PV->List PV
 | _,_,[]=>[]
 | [],i,_::l=>.top::Lm [] (i+1) l
 | k::ks,i,x::l=>bif Nat.beq k i then x::Lm ks (i+1) l else .top::Lm (k::ks) (i+1) l
def Qg (st:St):List Nat->List Nat->List Nat
 | acc,[]=>acc
 | acc,b::l=>match iO st b with
  | some (.var _ row)=>Qg st (yJ (BV st 8) acc row) l
  | some (.nor _ _ _ row)=>Qg st (yJ (BV st 8) acc row) l
  | _=>Qg st acc l
def Ro (m:Nat)(st:St)(vs:List PV):List Nat:=yJ (BV st 8) (Qg st (upN 0 m) (upN 0 m)) vs
def abV (ρ:List Nat)(ts:List PV)(st:St):Env:=⟨DR (Af (ixN ρ) 8) ts,DT (ixN ρ) st 0 ρ,kZ ρ⟩
def Jh (m:Nat)(keep:List Nat)(E:Env):Env :=
 match Lm keep 0 E.tmps with
 | ts=>abV (Ro m E.st ts) ts E.st
def I7 (args:List PV)(st:St):List Nat:=yJ (BV st 8) [] args
def DU (ρ:List Nat)(next:Nat)(i:Nat):Option Nat :=
 match UN ρ i with
 | some b=>some b
 | none=>some (next+(i-kZ ρ))
def XE (f:Nat->Option Nat)(st1:St):Nat->List Nat->St->St
 | _,[],st=>st
 | i,b::l,st=>XE f st1 (i+1) l (nI st b (Ag f (iO st1 i)))
def QH (ρ:List Nat)(E:Env)(st1:St)(n1:Nat):Env :=
 ⟨E.tmps,XE (DU ρ E.next) st1 0 (Zj ρ (upN E.next (n1-kZ ρ))) E.st,E.next+(n1-kZ ρ)⟩
def Zk (st:St)(b:Nat):Option jq :=
 match iO st b with
 | some (.var true row)=>some (.var true row)
 | some (.arr true sz rows)=>some (.arr true sz rows)
 | _=>none
def roS (st:St):List Nat->St
 | []=>st
 | b::l=>match iO st b with
  | some (.var _ row)=>roS (nI st b (some (.var true row))) l
  | some (.arr _ sz rows)=>roS (nI st b (some (.arr true sz rows))) l
  | _=>roS st l
def qM:St->Bool
 | []=>true
 | (_,some (.kH _ _))::_=>false
 | (_,some (.nor _ _ _ _))::_=>false
 | _::l=>qM l
def Rq (S:iK)(k:Nat)(args:List PV)(E:Env)(K:PV->Env->Prop):Prop :=
 match Jc (frz S (Zk E.st) 6) args with
 | some as=>S.Rk k args as (DR (Af (ixN []) 8) as) E K
 | none=>match I7 args E.st with
  | ρ=>S.call k args E (Jc (frz S (iO E.st) 6) args) (Jc (frz S (Zk (roS E.st ρ)) 6) args) ρ (DR (Af (ixN ρ) 8) args) (DT (ixN ρ) E.st 0 ρ) K
def ac4 (S:iK)(k:Nat)(args:List PV)(lk:Nat->Option jq)(K:PV->Prop):Prop :=
 match Jc (frz S (λb=>match lk b with|some (.var true row)=>some (.var true row)|some (.arr true sz rows)=>some (.arr true sz rows)|_=>none) 6) args with
 | some as=>S.XB k as K
 | none=>match Jc (frz S lk 6) args with
  | some as=>S.aaN k as K
  | none=>False
def ajn (T:Tab)(t:TypeId):Bool :=
 match T t with
 | { ok:=true,kind:=.slice esz _ (some z),.. }=>Nat.beq esz 1&&Qe z
 | _=>false
def ahe (T:Tab)(S:iK)(t:TypeId)(len:Nat)(parts:Array (Nat×Operand))(tmps:List PV)(lk:Nat->Option jq)(id:Nat)(K:PV->Dl->Prop):Prop :=
 match T t with
 | { ok:=true,kind:=.slice esz _ (some z),.. } =>
  bif jo esz&&Nat.beq (lG z) esz&&Nat.ble (len*esz) 16777216&&xZ (evP T tmps parts.toList)&&Nat.beq esz 1 then
   (match Cm (λi=>some (i*esz,esz)) (Jb len z) (evP T tmps parts.toList),len with
   | some [],0=>K (.os id 0 0) [(id,some (.kH 1 []))]
   | some [.os b r n],1=>(match lk b with
    | some (.arr false sz rows)=>bif Nat.beq b id then False else S.nu λh=>K (.os id 0 1) [(b,none),(id,some (.kH 1 [[.ow h sz (S.sub rows r n)]]))]
    | _=>False)
   | _,_=>False)
  else False
 | _=>False
def ahf (T:Tab)(S:iK)(t u:TypeId)(b r n c:Nat)(lk:Nat->Option jq)(id:Nat)(K:PV->Dl->Prop):Prop :=
 match T t,T u with
 | { ok:=true,kind:=.slice esz bytes (some z),.. },{ ok:=true,kind:=.slice _ _ _,.. } =>
  (match lk b,lk c with
  | some (.kH sz rows),some (.kH sz' [row]) =>
   bif jo esz&&Nat.beq (lG z) esz&&Nat.beq sz esz&&Nat.beq sz' esz&&(bif Nat.beq b c then false else bif Nat.beq b id then false else bif Nat.beq c id then false else true) then
    S.room (S.LQ n 1) bytes (K (.os id 0 (S.LQ n 1)) [(b,none),(c,none),(id,some (.kH sz (S.app (S.sub rows r n) [row])))])
   else False
  | _,_=>False)
 | _,_=>False
def aaO (T:Tab)(S:iK)(t:TypeId)(m k x:PV)(lk:Nat->Option jq)(K:PV->Dl->Prop):Prop :=
 match T t,m,ui k with
 | { ok:=true,kind:=.map sz _,.. },.mp b,some (.i64,n)=>(match lk b with
  | some (.map rows)=>(match x with
   | .agg xs=>(match FM S lk xs with
    | some (cs,δ)=>bif Ut b δ then False else bif Nat.beq (lG cs) sz then wkC S cs λcs=>K .undef (δ++[(b,some (.map (S.afo rows n cs)))]) else False
    | none=>False)
   | _=>False)
  | _=>False)
 | _,_,_=>False
def Zl (T:Tab)(S:iK)(t:TypeId)(m k:PV)(lk:Nat->Option jq)(K:PV->Dl->Prop):Prop :=
 match T t,m,ui k with
 | { ok:=true,kind:=.map _ z,.. },.mp b,some (.i64,n)=>(match lk b with
  | some (.map rows)=>S.ahc rows n z λcs ok=>K (.FH [.agg cs,.sb ok]) []
  | _=>False)
 | _,_,_=>False
def Zm (T:Tab)(S:iK)(t:TypeId)(b:Nat)(lk:Nat->Option jq)(K:PV->Dl->Prop):Prop :=
 match T t with
 | { ok:=true,kind:=.map _ _,.. }=>(match lk b with
  | some (.map rows)=>K (.si .i64 (S.len rows)) []
  | _=>False)
 | _=>False
def Zn (T:Tab)(t:TypeId)(id:Nat)(K:PV->Dl->Prop):Prop :=
 match T t with
 | { ok:=true,kind:=.map _ _,.. }=>K (.mp id) [(id,some (.map []))]
 | _=>False
def opN (T:Tab)(S:iK)(o:Op)(tmps:List PV)(lk:Nat->Option jq)(id:Nat)(K:PV->Dl->Prop):Prop :=
 match T.kH with
 | 0=>jU T S o tmps lk id K
 | _+1=>match o with
  | .makeMap t none=>Zn T t id K
  | .mapUpdate t m k x=>aaO T S t (oD T tmps m) (oD T tmps k) (oD T tmps x) lk K
  | .insert t m k x=>aaO T S t (oD T tmps m) (oD T tmps k) (oD T tmps x) lk K
  | .lookup t m k true=>Zl T S t (oD T tmps m) (oD T tmps k) lk K
  | .call { callee:=.builtin .len,args,argTypes }=>(match evA T tmps args.toList,argTypes.toList with
   | [.mp b],[t]=>Zm T S t b lk K
   | _,_=>jU T S (.call { callee:=.builtin .len,args,argTypes }) tmps lk id K)
  | .buildSlice t len parts=>(match ajn T t with
   | true=>ahe T S t len parts tmps lk id K
   | false=>jU T S (.buildSlice t len parts) tmps lk id K)
  | .call { callee:=.builtin .append,args,argTypes }=>(match evA T tmps args.toList,argTypes.toList with
   | [.os b r n,.os c 0 1],t::u::_=>(match ajn T t with
    | true=>ahf T S t u b r n c lk id K
    | false=>jU T S (.call { callee:=.builtin .append,args,argTypes }) tmps lk id K)
   | _,_=>jU T S (.call { callee:=.builtin .append,args,argTypes }) tmps lk id K)
  | o=>jU T S o tmps lk id K
def ac5 (T:Tab)(S:iK)(o:Oper)(E:Env)(K:Env->Prop):Prop :=
 match o.op with
 | .call { callee:=.value f,args,argTypes:=_ } =>
  match oD T E.tmps f with
  | .fn k caps=>Rq S k (wU (evA T E.tmps args.toList) caps) E λv E=>K (nZ E o.dst v)
  | _=>False
 | op =>
  match op,o.dst with
  | .pick (.tmp c) a b,d=>(match iZ E.tmps c with
   | .sb t=>S.br t (λ_=>K (nZ (nZ E (some c) (.bool true)) d (oD T E.tmps a))) (λ_=>K (nZ (nZ E (some c) (.bool false)) d (oD T E.tmps b)))
   | _=>jU T S (.pick (.tmp c) a b) E.tmps (iO E.st) E.next λv δ=>K (nZ ⟨E.tmps,iW δ E.st,zW δ E.next⟩ d v))
  | op,d=>opN T S op E.tmps (iO E.st) E.next λv δ=>K (nZ ⟨E.tmps,iW δ E.st,zW δ E.next⟩ d v)
def opsE (T:Tab)(S:iK)(all:Array Oper):List Oper->Env->(Env->Prop)->Prop
 | [],E,K=>K E
 | o::l,E,K=>gd S all o.guard E
   (λE=>ac5 T S o E λE=>opsE T S all l E K)
   (λE=>opsE T S all l (nZ E o.dst .undef) K)
def ac6 (K:PV->Prop)(v:PV):Dl->Prop
 | []=>K v
 | _::_=>False
def isQ:Op->Bool
 | .move _|.assign _|.pick _ _ _|.fieldAddr _ _ _|.field _ _ _|.load _ _|.nilCheck _|.convert _ _ _|.indexAddr _ _ _|.slice _ _ _ _ _
 | .index _ _ _|.extract _ _|.build _ _|.makeFunc _ _ _=>true
 | .binOp _ _ _ y _=>(match Nh y with|true=>false|false=>true)
 | .unOp _ _ _=>true
 | .call { callee:=.builtin .len,.. }|.call { callee:=.builtin .min,.. }|.call { callee:=.builtin .max,.. }=>true
 | _=>false
def lkC:List (Nat×Nat)->Nat->Nat
 | [],_=>3
 | (k,c)::l,f=>match Nat.beq c 9 with
  | true=>lkC l f
  | false=>bif Nat.beq k f then c else lkC l f
def lkQ:List (Nat×Nat)->Nat->Bool
 | [],_=>false
 | (k,c)::l,d=>match Nat.beq c 9 with
  | true=>bif Nat.beq k d then true else lkQ l d
  | false=>lkQ l d
def clsF (T:Tab):Operand->Nat
 | .func f=>lkC T.dcl f
 | _=>3
def Hu (T:Tab):Op->Nat
 | .alloc _=>1
 | .box _ _=>1
 | .makeSlice _ _ _=>1
 | .store _ _ _=>2
 | .slice _ _ _ _ _=>3
 | .call { callee:=.builtin .append,.. }=>2
 | .load _ _=>3
 | .indexAddr _ _ _=>3
 | .call { callee:=.value f,.. }=>clsF T f
 | .buildSlice _ _ _=>0
 | op=>bif isQ op then 0 else 4
def qtO (T:Tab)(o:Oper):Bool :=
 match o.dst with
 | some d=>(match lkQ T.dcl d with
  | true=>isQ o.op
  | false=>false)
 | none=>false
def uQ (T:Tab)(o:Oper):Nat :=
 match qtO T o with
 | true=>0
 | false=>Hu T o.op
def opQ (T:Tab)(S:iK)(op:Op)(tmps:List PV)(lk:Nat->Option jq)(id:Nat)(K:PV->Prop):Prop :=
 match op with
 | .call { callee:=.value f,args,argTypes:=_ } =>
  match oD T tmps f with
  | .fn k caps=>ac4 S k (wU (evA T tmps args.toList) caps) lk K
  | _=>False
 | .buildSlice t len parts =>
  match T t with
  | { ok:=true,kind:=.slice esz _ (some z),.. } =>
    bif jo esz&&Nat.beq (lG z) esz&&Nat.ble (len*esz) 16777216&&xZ (evP T tmps parts.toList) then
     (match Cm (λi=>some (i*esz,esz)) (Jb len z) (evP T tmps parts.toList) with
     | some cs=>(match FM S (λ_=>none) cs with
      | some (cs,[])=>wkC S cs λcs=>K (.sl esz (chunks esz len cs) true)
      | _=>False)
     | none=>False)
    else False
  | _=>False
 | op=>bif isQ op then jU T S op tmps lk id (ac6 K) else False
def XF (T:Tab)(S:iK)(o:Oper)(lk:Nat->Option jq)(E:Env)(K:Env->Prop):Prop :=
 match o.op with
 | .pick (.tmp c) a b=>(match iZ E.tmps c with
   | .sb t=>S.br t (λ_=>K (nZ (nZ E (some c) (.bool true)) o.dst (oD T E.tmps a))) (λ_=>K (nZ (nZ E (some c) (.bool false)) o.dst (oD T E.tmps b)))
   | _=>opQ T S (.pick (.tmp c) a b) E.tmps lk E.next λv=>K (nZ E o.dst v))
 | op=>opQ T S op E.tmps lk E.next λv=>K (nZ E o.dst v)
def aaP (pend:List Nat)(lk:Nat->Option jq)(b:Nat):Option jq:=bif ve pend b then none else lk b
def QI (_:Nat):Option jq:=none
def ltD (n:Nat):Dl->Bool
 | []=>true
 | (b,_)::l=>Nat.blt b n&&ltD n l
def dlO (f:Nat->Option Nat)(st1:St):Nat->List Nat->Dl
 | _,[]=>[]
 | i,b::l=>(b,Ag f (iO st1 i))::dlO f st1 (i+1) l
def afp (st:St):List Nat->Bool
 | []=>true
 | b::l=>(match iO st b with|some _=>true|none=>false)&&afp st l
def Rt (S:iK)(k:Nat)(args:List PV)(ρ:List Nat)(st:St)(id:Nat)(K:PV->Dl->Prop):Prop :=
 match ltN id ρ&&(VM ρ&&afp st ρ) with
 | true=>S.acZ k (DR (Af (ixN ρ) 8) args) (DT (ixN ρ) st 0 ρ) ρ λv st1 n1=>(match Nat.ble n1 (kZ ρ+32) with
  | true=>K (Af (DU ρ id) 8 v) (dlO (DU ρ id) st1 0 (Zj ρ (upN id (n1-kZ ρ))))
  | false=>False)
 | false=>False
def opW (T:Tab)(S:iK)(op:Op)(tmps:List PV)(lk:Nat->Option jq)(st:St)(id:Nat)(c2:Bool)(K:PV->Dl->Prop):Prop :=
 match op with
 | .call { callee:=.value f,args,argTypes:=_ } =>
  match oD T tmps f with
  | .fn k caps=>(match c2 with
   | false=>(match Jc (frz S QI 6) (wU (evA T tmps args.toList) caps) with
    | some as=>S.agT k (DR (Af (ixN []) 8) as) λv x=>K (Af (DU [] id) 8 v) [(id,Ag (DU [] id) (some x))]
    | none=>False)
   | true=>(match I7 (wU (evA T tmps args.toList) caps) st with
    | ρ=>Rt S k (wU (evA T tmps args.toList) caps) ρ st id K))
  | _=>False
 | op=>jU T S op tmps lk id K
def stepD (T:Tab)(S:iK)(o:Oper)(pend:List Nat)(E:Env)(K:List Nat->Env->Prop):Prop :=
 match uQ T o with
 | 0=>XF T S o QI E (K pend)
 | 1=>opW T S o.op E.tmps QI E.st E.next false λv δ=>match δ with
  | [(id,some x)]=>bif Nat.beq id E.next then K (id::pend) (nZ ⟨E.tmps,nI E.st id (some x),E.next+32⟩ o.dst v) else False
  | _=>False
 | 2=>opW T S o.op E.tmps (iO E.st) E.st E.next true λv δ=>bif ltD (E.next+32) δ then K [] (nZ ⟨E.tmps,iW δ E.st,E.next+32⟩ o.dst v) else False
 | 3=>XF T S o (aaP pend (iO E.st)) E (K pend)
 | _=>False
def Ru (all:Array Oper)(i:Nat)(o:Oper)(lo:List Tmp)(j:Nat)(p:Oper):Bool :=
 Nat.beq i j || match p.dst with
 | none=>true
 | some d=>o.dst != some d&&(!lo.contains d || o.after.any (λe=>Region.binds .any e&&Nat.beq e.on j) || p.after.any (λe=>Region.binds .any e&&Nat.beq e.on i))
def Rw (all:Array Oper)(i:Nat)(o:Oper)(lo:List Tmp):List Oper->Nat->Bool
 | [],_=>true
 | p::ps,j=>Ru all i o lo j p&&Rw all i o lo ps (j+1)
def BX (all:Array Oper):List Oper->Nat->Bool
 | [],_=>true
 | o::os,i=>o.after.all (λe=>!Region.binds .any e || Nat.blt e.on i)&&Rw all i o (o.looksAt all) all.toList 0&&BX all os (i+1)
def VN (o:Oper):List Nat:=(o.after.toList.filter λe=>Region.binds .any e).map λe=>e.on
def Rx:List Nat->List Nat->List Nat
 | [],m=>m
 | b::l,m=>bif ve m b then Rx l m else Rx l (b::m)
def zY:List (List Nat)->Nat->List Nat
 | [],_=>[]
 | x::_,0=>x
 | _::l,n+1=>zY l n
def UO (acc:List (List Nat)):List Nat->List Nat
 | []=>[]
 | j::l=>Rx (j::zY acc j) (UO acc l)
def QJ:List Oper->List (List Nat)->List (List Nat)
 | [],acc=>acc
 | o::l,acc=>QJ l (acc++[UO acc (VN o)])
def ndO (T:Tab)(ps:List PV)(lk:Nat->Option jq):Op->Bool
 | .store _ x _=>(match oD T ps x with
  | .lp b _ _=>(match lk b with|some (.kH _ _)=>true|_=>false)
  | .np _ _ _ _ _ _ _=>true
  | _=>false)
 | _=>false
def Ry:List Oper->Nat
 | []=>0
 | _::l=>Ry l+1
def allIn (l:List Nat):Nat->Bool
 | 0=>true
 | n+1=>ve l n&&allIn l n
def LU (all:Array Oper):Bool:=match all.toList with
 | []=>false
 | _::l=>allIn (zY (QJ all.toList []) (Ry l)) (Ry l)
def nilP:List Oper->Bool
 | []=>true
 | _=>false
def agU (T:Tab)(S:iK)(all:Array Oper)(o:Oper)(last:Bool)(pend:List Nat)(K:List Nat->Env->Prop)(KE:Env->Prop)(E:Env):Prop :=
 match ndO T E.tmps (iO E.st) o.op with
 | true=>(match last with
  | true=>S.last all (jU T S o.op E.tmps (iO E.st) E.next λv δ=>bif ltD (E.next+32) δ then KE (nZ ⟨E.tmps,iW δ E.st,E.next+32⟩ o.dst v) else False)
  | false=>False)
 | false=>stepD T S o pend E K
def Zo (T:Tab)(S:iK)(all:Array Oper):List Oper->List Nat->Env->(Env->Prop)->Prop
 | [],_,E,K=>K E
 | o::l,pend,E,K=>gd S all o.guard E
   (λE=>agU T S all o (nilP l) pend (λpend E=>Zo T S all l pend E K) K E)
   (λE=>Zo T S all l pend (nZ E o.dst .undef) K)
def clash (a b:Nat):Bool :=
 (Nat.beq a 2&&(Nat.beq b 2 || Nat.beq b 3)) || (Nat.beq b 2&&(Nat.beq a 1 || Nat.beq a 3))
def abW (T:Tab)(bef:List Nat)(c:Nat):List Oper->Nat->Bool
 | [],_=>true
 | o::l,i=>(bif clash (uQ T o) c then ve bef i else true)&&abW T bef c l (i+1)
def ac7 (T:Tab)(all:List Oper)(B:List (List Nat)):List Oper->Nat->Bool
 | [],_=>true
 | o::l,i=>abW T (zY B i) (uQ T o) (all.take i) 0&&ac7 T all B l (i+1)
def ac8 (T:Tab):List Oper->Bool
 | []=>false
 | o::l=>Nat.beq (uQ T o) 2 || ac8 T l
def DV (T:Tab)(all:Array Oper):Bool:=BX all all.toList 0&&(bif ac8 T all.toList then ac7 T all.toList (QJ all.toList []) all.toList 0 else true)
def ltS (n:Nat):St->Bool
 | []=>true
 | (b,_)::l=>Nat.blt b n&&ltS n l
def rdG (T:Tab)(ps:List PV)(o:Op):List Nat :=
 match o with
 | .load _ x=>BV [] 8 [] (oD T ps x)
 | .store _ x y=>yJ (BV [] 8) [] [oD T ps x,oD T ps y]
 | .indexAddr _ x _=>BV [] 8 [] (oD T ps x)
 | .slice _ x _ _ _=>BV [] 8 [] (oD T ps x)
 | .call { callee:=.builtin _,args,argTypes:=_ }=>yJ (BV [] 8) [] (evA T ps args.toList)
 | _=>[]
def lkG (R:List Nat)(st:St)(b:Nat):Option jq:=bif ve R b then iO st b else none
def DW:Dl->List Nat
 | []=>[]
 | (b,_)::δ=>b::DW δ
def okG (st:St)(nx:Nat):Dl->Bool
 | []=>true
 | (b,x)::δ=>(match x with|some (.kH _ _)=>false|some (.map _)=>false|some (.nor _ _ _ _)=>false|_=>true)&&((Nat.beq b nx || (match iO st b with|some _=>true|none=>false))&&okG st nx δ)
def UQ:List (List Nat×List Nat×List Nat)->(List Nat×List Nat×List Nat)->List (List Nat×List Nat×List Nat)
 | [],x=>[x]
 | y::l,x=>y::UQ l x
def okH (st:St)(nx:Nat):Dl->Bool
 | []=>true
 | (b,x)::δ=>(match x with|some (.kH _ _)=>false|some (.map _)=>false|some (.nor _ _ _ _)=>false|_=>true)&&(((Nat.ble nx b&&Nat.blt b (nx+32)) || (match iO st b with|some _=>true|none=>false))&&okH st nx δ)
def Nj (T:Tab)(f:Operand)(args:Array Operand)(E:Env):List Nat :=
 match oD T E.tmps f with
 | .fn _ caps=>I7 (wU (evA T E.tmps args.toList) caps) E.st
 | _=>[]
def agV (T:Tab)(S:iK)(o:Oper)(f:Operand)(args:Array Operand)(ts:Array TypeId)(E:Env)(K:(List Nat×List Nat×List Nat)->Env->Prop):Prop :=
 match o.guard with
 | some _=>False
 | none=>(match uQ T o with
  | 2=>(match Nj T f args E with
   | R=>opW T S (.call { callee:=.value f,args:=args,argTypes:=ts }) E.tmps (iO E.st) E.st E.next true λv δ=>(match okH E.st E.next δ with
    | true=>K (R,DW δ,DW δ) (nZ ⟨E.tmps,iW δ E.st,E.next+32⟩ o.dst v)
    | false=>False))
  | 3=>(match Nj T f args E with
   | R=>opQ T S (.call { callee:=.value f,args:=args,argTypes:=ts }) E.tmps (lkG R E.st) E.next λv=>K (R,[],[]) (nZ E o.dst v))
  | _=>False)
def ac9 (T:Tab)(S:iK)(o:Oper)(E:Env)(K:(List Nat×List Nat×List Nat)->Env->Prop):Prop :=
 match o.guard,rdG T E.tmps o.op with
 | none,R=>(match bif isQ o.op then true else (Nat.beq (Hu T o.op) 1 || Nat.beq (Hu T o.op) 2),ndO T E.tmps (lkG R E.st) o.op with
  | true,false=>jU T S o.op E.tmps (lkG R E.st) E.next λv δ=>(match okG E.st E.next δ with
   | true=>K (R,DW δ,DW δ) (nZ ⟨E.tmps,iW δ E.st,E.next+1⟩ o.dst v)
   | false=>False)
  | _,_=>False)
 | some _,_=>False
def stepG (T:Tab)(S:iK)(o:Oper)(E:Env)(K:(List Nat×List Nat×List Nat)->Env->Prop):Prop :=
 match o.op with
 | .call { callee:=.value f,args,argTypes:=ts }=>agV T S o f args ts E K
 | _=>ac9 T S o E K
def abX (T:Tab)(S:iK):List Oper->Env->List (List Nat×List Nat×List Nat)->(Env->List (List Nat×List Nat×List Nat)->Prop)->Prop
 | [],E,tr,K=>K E tr
 | o::l,E,tr,K=>stepG T S o E λtc E=>abX T S l E (UQ tr tc) K
abbrev Post:=Nat->Env->Prop
def Lh (next:Env->Prop)(Q:Post):Post
 | 0,E=>next E
 | n+1,E=>Q (n+1) E
def blkQ (id:Nat)(Q:Post):Post
 | 0,E=>Q 0 E
 | 1,E=>Q 1 E
 | n+2,E=>bif Nat.beq n id then Q 0 E else Q (n+2) E
def Rz:Code->Option Nat
 | .region id _ _=>some id
 | .seq a _=>Rz a
 | .block _ b=>Rz b
 | .loop b=>Rz b
 | .scope b=>Rz b
 | _=>none
def ada (cut:List Nat)(a b:Code):Bool :=
 match cut with
 | []=>true
 | _::_=>match a with
  | .region i _ _=>(bif ve cut (2*i) then false else true)
  | _=>match Rz b with
   | some i=>(bif ve cut (2*i+1) then false else true)
   | none=>true
def pwp (T:Tab)(S:iK):Code->Post->Env->Prop
 | .skip,Q,E=>Q 0 E
 | .seq a b,Q,E=>bif ada T.cut a b then pwp T S a (Lh (λE=>pwp T S b Q E) Q) E else S.seq (λQ=>pwp T S a Q E) (λE=>pwp T S b Q E) Q
 | .ret,Q,E=>Q 1 E
 | .exit n,Q,E=>Q (n+2) E
 | .block id b,Q,E=>pwp T S b (blkQ id Q) E
 | .loop b,Q,E=>S.loop b Q E
 | .scope b,Q,E=>pwp T S b Q E
 | .label _,Q,E=>Q 0 E
 | .region i l true,Q,E=>bif ve T.cut (1000+i) then (bif ltS E.next E.st&&qM E.st then abX T S l.toList E [] (λE tr=>S.afn l tr (Q 0 E)) else False)
  else S.order l (bif ltS E.next E.st then Zo T S l l.toList [] E (Q 0) else False)
 | .region _ l false,Q,E=>opsE T S l l.toList E (Q 0)
 | .cond (.tmp c) a b,Q,E=>match iZ E.tmps c with
  | .bool true=>pwp T S a Q E
  | .bool false=>pwp T S b Q E
  | .sb t=>S.br t (λ_=>pwp T S a Q (nZ E (some c) (.bool true))) (λ_=>pwp T S b Q (nZ E (some c) (.bool false)))
  | _=>False
 | .cond (.const (.bool true)) a _,Q,E=>pwp T S a Q E
 | .cond (.const (.bool false)) _ b,Q,E=>pwp T S b Q E
 | _,_,_=>False
def XG (T:Tab)(E:Env):ResultVar->Option PV
 | .tmp t=>some (iZ E.tmps t)
 | .cell a t=>match iZ E.tmps a,T t with
  | .lv b c,{ ok:=true,agg,size,.. }=>match iO E.st b with
   | some (.var _ row) =>
    bif agg then (bif Nat.ble (c+size) (lG row) then some (.agg (Na size (Cj c row))) else none)
    else (bif Nat.blt c (lG row) then some (iZ row c) else none)
   | _=>none
  | _,_=>none
def EN (T:Tab)(E:Env):List ResultVar->Option (List PV)
 | []=>some []
 | r::rs=>match XG T E r with
  | none=>none
  | some v=>match EN T E rs with
   | none=>none
   | some vs=>some (v::vs)
def Ah:List PV->PV
 | [v]=>v
 | vs=>.FH vs
def afq (T:Tab)(S:iK)(rs:List ResultVar)(E:Env)(R:PV->Prop):Prop :=
 match EN T E rs with
 | some vs=>(match frz S (iO E.st) 7 (Ah vs) with|some v=>R v|none=>False)
 | none=>False
def abY (S:iK)(v:PV)(st:St)(n:Nat):PV×St×Nat :=
 match I7 [v] st with
 | ρ=>(match roS st ρ with
  | st'=>(match frz S (Zk st') 6 v with
   | some v'=>(v',st',n)
   | none=>(v,st,n)))
def FN (S:iK)(c:Nat×Bool)(v:PV)(st:St)(n:Nat):PV×St×Nat :=
 match c with
 | (z+1,re)=>(match v with
  | .sl _ es f=>(match f with
   | true=>(match es with
    | []=>(.os n 0 0,nI st n (some (.arr false (z+1) [])),n+1)
    | _::_=>(v,st,n))
   | false=>(v,st,n))
  | .os b r m=>(match re with
   | true=>(match iO st b with
    | some (.arr false sz rows)=>(.os n 0 m,nI (nI st b none) n (some (.arr false sz (S.sub rows r m))),n+1)
    | _=>(v,st,n))
   | false=>(v,st,n))
  | _=>(v,st,n))
 | (0,true)=>(match v with
  | .os b r m=>(match iO st b with
   | some (.kH sz rows)=>(.sl sz (S.fz (S.sub rows r m)) false,nI st b none,n)
   | _=>abY S v st n)
  | _=>abY S v st n)
 | _=>(v,st,n)
def A7 (S:iK):List (Nat×Bool)->List PV->St->Nat->List PV×St×Nat
 | z::zs,v::vs,st,n=>match FN S z v st n with
  | (v',st',n')=>match A7 S zs vs st' n' with
   | (vs',st2,n2)=>(v'::vs',st2,n2)
 | _,vs,st,n=>(vs,st,n)
def UR (S:iK)(zs:List (Nat×Bool))(v:PV)(st:St)(n:Nat):PV×St×Nat :=
 match v with
 | .agg cs=>match A7 S zs cs st n with|(cs',st',n')=>(.agg cs',st',n')
 | v=>match zs with
  | [z]=>FN S z v st n
  | _=>(v,st,n)
def LV (S:iK):List (List (Nat×Bool))->List PV->St->Nat->List PV×St×Nat
 | zs::own,v::vs,st,n=>match UR S zs v st n with
  | (v',st',n')=>match LV S own vs st' n' with
   | (vs',st2,n2)=>(v'::vs',st2,n2)
 | _,vs,st,n=>(vs,st,n)
def UT (S:iK)(own:List (List (Nat×Bool)))(v:PV)(st:St)(n:Nat):PV×St×Nat :=
 match v with
 | .FH vs=>match LV S own vs st n with|(vs',st',n')=>(.FH vs',st',n')
 | v=>match own with
  | [zs]=>UR S zs v st n
  | _=>(v,st,n)
def Qh (T:Tab)(S:iK)(rs:List ResultVar)(E:Env)(R:PV->St->Nat->Prop):Prop :=
 match EN T E rs with
 | some vs=>(match UT S T.own (Ah vs) E.st E.next with
  | (v,st,_)=>(match Ro T.qJ st [v] with
   | ρ=>R (Af (ixN ρ) 8 v) (DT (ixN ρ) st 0 ρ) (kZ ρ)))
 | none=>False
def agW (T:Tab)(S:iK)(rs:List ResultVar)(R:PV->St->Nat->Prop):Post
 | 0,E=>Qh T S rs E R
 | 1,E=>Qh T S rs E R
 | _+2,_=>False
def ahg (T:Tab)(S:iK)(rs:List ResultVar)(R:PV->Prop):Post
 | 0,E=>afq T S rs E R
 | 1,E=>afq T S rs E R
 | _+2,_=>False
def rZ:Nat->List PV
 | 0=>[]
 | n+1=>.undef::rZ n
end Go.Pv
namespace Go.Pv
open Go
structure Loc where
 cb:Nat
 co:Nat
 sz:Nat
 tot:Nat
 nr:Nat
abbrev Sg:=Nat->Option Loc
def iQ:Sg:=λ_=>none
mutual
def Rep (w:World)(Y:Nat->Prop)(σ:Sg):PV->Value->Prop
 | .bool b,v=>v=.bool b
 | .sb b,v=>v=.bool b
 | .int k n,v=>v=.int k n
 | .si k n,v=>v=.int k n
 | .str s,v=>v=.string s
 | .agg cs,v=>∃ vs:List Value,v=.agg vs.toArray/\gB w Y σ cs vs
 | .FH cs,v=>∃ vs:List Value,v=.tuple vs.toArray/\gB w Y σ cs vs
 | .sl sz es full,v=>∃ a len cap,v=.slice a len cap/\len=es.length/\len<=cap/\(full=true->cap=len) /\
   (es=[]\/∃ b o,a=some ⟨b,o,none⟩/\(b<w.heap.size/\¬ Y b)/\jh w Y iQ b sz es o)
 | .os b r n,v=>(∃ l cap,σ b=some l/\v=.slice (some ⟨l.cb,l.co+r*l.sz,none⟩) n cap/\(n<=cap/\cap<=9223372036854775807)/\l.co+r*l.sz+cap*l.sz=l.tot/\r+n<=l.nr) \/
   (n=0/\∃ a,v=.slice a 0 0)
 | .lv b c,v=>∃ l,σ b=some l/\v=.pointer (some ⟨l.cb,l.co+c,none⟩)
 | .lp b r c,v=>∃ l,σ b=some l/\v=.pointer (some ⟨l.cb,l.co+r*l.sz+c,none⟩)
 | .pp cs,v=>∃ b o,v=.pointer (some ⟨b,o,none⟩)/\(b<w.heap.size/\¬ Y b)/\jc w Y iQ b cs o
 | .ow h _ es,v=>(es≠[]/\v=.slice (some ⟨h.ν,h.o,none⟩) es.length h.cap/\es.length<=h.cap)\/(es=[]/\∃ a cap,v=.slice a 0 cap)
 | .bo _ _ _ h sz n,v=>(n≠0/\v=.slice (some ⟨h.ν,h.o,none⟩) n h.cap/\n<=h.cap)\/(n=0/\∃ a cap,v=.slice a 0 cap)
 | .np _ _ _ h sz j k,v=>v=.pointer (some ⟨h.ν,h.o+j*sz+k,none⟩)
 | .Bv,v=>v=.pointer none
 | .fn f cs,v=>∃ vs:List Value,v=.func (.func f) #[] vs.toArray/\gB w Y σ cs vs
 | .LP,v=>v=.nilFunc
 | .mp b,v=>∃ l,σ b=some l/\v=.map (some l.cb)
 | .top,_=>True
 | .undef,v=>v=Go.undef
def gB (w:World)(Y:Nat->Prop)(σ:Sg):List PV->List Value->Prop
 | [],vs=>vs=[]
 | c::cs,vs=>∃ v vs',vs=v::vs'/\Rep w Y σ c v/\gB w Y σ cs vs'
def jc (w:World)(Y:Nat->Prop)(σ:Sg)(b:Nat):List PV->Nat->Prop
 | [],_=>True
 | c::cs,o=>(∃ v,w.cell? ⟨b,o,none⟩=some v/\Rep w Y σ c v)/\jc w Y σ b cs (o+1)
def jh (w:World)(Y:Nat->Prop)(σ:Sg)(b sz:Nat):List (List PV)->Nat->Prop
 | [],_=>True
 | r::rs,o=>(r.length=sz/\iE r=true)/\jc w Y σ b r o/\jh w Y σ b sz rs (o+sz)
end
def mg (σ σ' : Sg):Prop:=∀ b l,σ b=some l->σ' b=some l
def Off (id:Nat)(σ σ' : Sg):Prop:=∀ b,b≠id->σ' b=σ b
theorem Off.refl (id:Nat)(σ:Sg):Off id σ σ:=λ_ _=>rfl
theorem mg.refl (σ:Sg):mg σ σ:=λ_ _ h=>h
theorem mg.trans {a b c:Sg}(h:mg a b)(k:mg b c):mg a c:=λx l e=>k x l (h x l e)
theorem Nk {w:World}{b o:Nat}{v:Value}(h:w.cell? ⟨b,o,none⟩=some v):b<w.heap.size:=by
 unfold World.cell? at h
 by_cases hb:b<w.heap.size
 exact hb
 simp[Array.getElem?_eq_none (Nat.le_of_not_lt hb)] at h
theorem abZ {w w' : World}{b:Nat}(h:w'.heap[b]?=w.heap[b]?)(o:Nat):w'.cell? ⟨b,o,none⟩=w.cell? ⟨b,o,none⟩:=by
 simp only[World.cell?,h]
structure Keep (w w' : World)(Y Y' : Nat->Prop)(σ σ' : Sg):Prop where
 heap:∀ k,k<w.heap.size->¬ Y k->w'.heap[k]?=w.heap[k]?
 excl:∀ k,k<w.heap.size->Y' k->Y k
 size:w.heap.size<=w'.heap.size
 sg:mg σ σ'
theorem Keep.none {w w' : World}{Y Y' : Nat->Prop}{σ σ' : Sg}(h:Keep w w' Y Y' σ σ'):Keep w w' Y Y' iQ iQ:=⟨h.heap,h.excl,h.size,mg.refl _⟩
mutual
theorem Rep.keep {w w' : World}{Y Y' : Nat->Prop}:∀ (p:PV) {σ σ' : Sg} (_:Keep w w' Y Y' σ σ') (v:Value),Rep w Y σ p v->Rep w' Y' σ' p v
 | .bool _,_,_,_,_,h|.sb _,_,_,_,_,h|.int _ _,_,_,_,_,h|.si _ _,_,_,_,_,h|.str _,_,_,_,_,h
 | .ow _ _ _,_,_,_,_,h|.bo _ _ _ _ _ _,_,_,_,_,h|.np _ _ _ _ _ _ _,_,_,_,_,h
 | .Bv,_,_,_,_,h|.LP,_,_,_,_,h|.top,_,_,_,_,h|.undef,_,_,_,_,h=>by unfold Rep at h |-;exact h
 | .agg cs,_,_,K,v,h=>by
  unfold Rep at h |-;obtain⟨vs,e,h⟩:=h;exact⟨vs,e,gB.keep cs K vs h⟩
 | .FH cs,_,_,K,v,h=>by
  unfold Rep at h |-;obtain⟨vs,e,h⟩:=h;exact⟨vs,e,gB.keep cs K vs h⟩
 | .fn f cs,_,_,K,v,h=>by
  unfold Rep at h |-;obtain⟨vs,e,h⟩:=h;exact⟨vs,e,gB.keep cs K vs h⟩
 | .sl sz es full,_,_,K,v,h=>by
  unfold Rep at h |-;obtain⟨a,len,cap,e,hl,U,O,h⟩:=h;refine⟨a,len,cap,e,hl,U,O,?_⟩;rcases h with h|⟨b,o,ha,⟨hs,hb⟩,h⟩
  exact .inl h
  exact .inr ⟨b,o,ha,⟨Nat.lt_of_lt_of_le hs K.size,λhy=>hb (K.excl b hs hy)⟩,jh.keep es K.none (λhk=>K.heap b hk hb) o h⟩
 | .os b r n,_,_,K,v,h=>by
  unfold Rep at h |-;rcases h with ⟨l,cap,hs,e,h⟩|h
  exact .inl ⟨l,cap,K.sg _ _ hs,e,h⟩
  exact .inr h
 | .lv b c,_,_,K,v,h=>by
  unfold Rep at h |-;obtain⟨l,hs,e⟩:=h;exact⟨l,K.sg _ _ hs,e⟩
 | .mp b,_,_,K,v,h=>by
  unfold Rep at h |-;obtain⟨l,hs,e⟩:=h;exact⟨l,K.sg _ _ hs,e⟩
 | .lp b r c,_,_,K,v,h=>by
  unfold Rep at h |-;obtain⟨l,hs,e⟩:=h;exact⟨l,K.sg _ _ hs,e⟩
 | .pp cs,_,_,K,v,h=>by
  unfold Rep at h |-;obtain⟨b,o,e,⟨hs,hb⟩,h⟩:=h;exact⟨b,o,e,⟨Nat.lt_of_lt_of_le hs K.size,λhy=>hb (K.excl b hs hy)⟩,jc.keep cs K.none (λhk=>K.heap b hk hb) o h⟩
theorem gB.keep {w w' : World}{Y Y' : Nat->Prop}:∀ (ps:List PV) {σ σ' : Sg} (_:Keep w w' Y Y' σ σ') (vs:List Value),gB w Y σ ps vs->gB w' Y' σ' ps vs
 | [],_,_,_,_,h=>by unfold gB at h |-;exact h
 | p::ps,_,_,K,vs,h=>by
  unfold gB at h |-;obtain⟨v,U,e,h1,h2⟩:=h;exact⟨v,U,e,Rep.keep p K v h1,gB.keep ps K U h2⟩
theorem jc.keep {w w' : World}{Y Y' : Nat->Prop}{b:Nat}:∀ (ps:List PV) {σ σ' : Sg} (_:Keep w w' Y Y' σ σ') (_:b<w.heap.size->w'.heap[b]?=w.heap[b]?) (o:Nat),jc w Y σ b ps o->jc w' Y' σ' b ps o
 | [],_,_,_,_,_,_=>by unfold jc;trivial
 | p::ps,_,_,K,hb,o,h=>by
  unfold jc at h |-;obtain⟨⟨v,U,h1⟩,h2⟩:=h;exact⟨⟨v,by rw[abZ (hb (Nk U))];exact U,Rep.keep p K v h1⟩,jc.keep ps K hb (o+1) h2⟩
theorem jh.keep {w w' : World}{Y Y' : Nat->Prop}{b sz:Nat}:∀ (rs:List (List PV)) {σ σ' : Sg} (_:Keep w w' Y Y' σ σ') (_:b<w.heap.size->w'.heap[b]?=w.heap[b]?) (o:Nat),jh w Y σ b sz rs o->jh w' Y' σ' b sz rs o
 | [],_,_,_,_,_,_=>by unfold jh;trivial
 | r::rs,_,_,K,hb,o,h=>by
  unfold jh at h |-;exact⟨h.1,jc.keep r K hb o h.2.1,jh.keep rs K hb (o+sz) h.2.2⟩
end
def jq.ro:jq->Bool
 | .var ro _=>ro
 | .arr ro _ _=>ro
 | .kH _ _=>false
 | .map _=>false
 | .nor _ _ _ _=>false
structure At (w:World)(l:Loc):Prop where
 blk:∃ arr ty,w.heap[l.cb]?=some (.cells arr ty (0,0))/\arr.size=l.tot
def mV (w:World)(Y:Nat->Prop):List MapEntry->List (List PV)->Prop
 | [],rows=>rows=[]
 | e::es,rows=>∃ n cs rows',rows=(.si .i64 n::cs)::rows'/\e.key=.int .i64 n/\(∃ vs:List Value,e.val=.agg vs.toArray/\gB w Y iQ cs vs)/\mV w Y es rows'
theorem mV.keep {w w' : World}{Y Y' : Nat->Prop}(K:Keep w w' Y Y' iQ iQ):∀ (U:List MapEntry) (rows:List (List PV)),mV w Y U rows->mV w' Y' U rows
 | [],_,h=>h
 | _::U,_,⟨n,cs,rows',h1,h2,⟨vs,h3,h4⟩,h5⟩=>⟨n,cs,rows',h1,h2,⟨vs,h3,gB.keep cs K vs h4⟩,mV.keep K U rows' h5⟩
def gJ (w:World)(Y:Nat->Prop)(σ:Sg)(l:Loc):jq->Prop
 | .var ro row=>At w l/\l.sz=row.length/\l.co+row.length<=l.tot/\jc w Y σ l.cb row l.co/\(ro=false->Y l.cb)/\(ro=true->¬ Y l.cb)
 | .arr ro sz rows=>At w l/\l.sz=sz/\0<sz/\(l.co+rows.length*sz<=l.tot/\rows.length=l.nr)/\jh w Y iQ l.cb sz rows l.co/\(ro=false->Y l.cb)/\(ro=true->¬ Y l.cb)
 | .map rows=>(∃ es ck,w.heap[l.cb]?=some (.map es ck)/\mV w Y es.toList rows)/\Y l.cb
 | .kH sz rows=>At w l/\l.sz=sz/\0<sz/\(l.co+rows.length*sz<=l.tot/\rows.length=l.nr)/\jh w Y iQ l.cb sz rows l.co/\Y l.cb
 | .nor sz rows r row=>At w l/\l.sz=sz/\0<sz/\(l.co+rows.length*sz<=l.tot/\rows.length=l.nr)/\(r<rows.length/\row.length=sz) /\
   (∀ i x,rows[i]?=some x->i≠r->(x.length=sz/\iE x=true)/\jc w Y iQ l.cb x (l.co+i*sz))/\jc w Y σ l.cb row (l.co+r*sz)/\Y l.cb
structure I8 (w:World)(Y:Nat->Prop)(σ:Sg)(st:St):Prop where
 blk:∀ b x,iO st b=some x->(∃ l,σ b=some l/\gJ w Y σ l x)\/(σ b=none/\∃ ro sz,x=.arr ro sz [])
 inj:∀ b b' x x' l l',iO st b=some x->iO st b'=some x'->σ b=some l->σ b'=some l'->l.cb=l'.cb->b=b'
def lM (st:St)(b r c:Nat)(h:Hdr)(sz:Nat)(es:List (List PV)):Prop:=∃ sz0 rows row,iO st b=some (.kH sz0 rows)/\rows[r]?=some row/\row[c]?=some (.ow h sz es)/\es≠[]
theorem lM.same {st st' : St}{b r c:Nat}{h:Hdr}{sz:Nat}{T:List (List PV)}(e:iO st' b=iO st b)(k:lM st' b r c h sz T):lM st b r c h sz T:=by
 obtain⟨U,rows,row,h1,h2⟩:=k;exact⟨U,rows,row,by rw[<- e];exact h1,h2⟩
theorem lM.sub {st st' : St}{b r c:Nat}{h:Hdr}{sz:Nat}{T:List (List PV)}(e:∀ x,iO st' b=some x->iO st b=some x)(k:lM st' b r c h sz T):lM st b r c h sz T:=by
 obtain⟨U,rows,row,h1,h2⟩:=k;exact⟨U,rows,row,e _ h1,h2⟩
structure VO (w:World)(Y:Nat->Prop)(h:Hdr)(sz:Nat)(es:List (List PV)):Prop where
 own:Y h.ν
 pos:0<sz
 blk:∃ arr ty,w.heap[h.ν]?=some (.cells arr ty (0,0))/\arr.size=h.o+h.cap*sz
 len:es.length<=h.cap
 rows:jh w Y iQ h.ν sz es h.o
structure Ctx (T:Tab) where
 w0:World
 Y0:Nat->Prop
 L:Nat->Prop
 M:Nat->Prop
 base:Sg
structure Ji (M:Nat->Prop)(w0 w:World):Prop where
 os:w.os=w0.os
 tape:w.tape=w0.tape
 output:w.output=w0.output
 size:w0.heap.size<=w.heap.size
 block:∀ k,k<w0.heap.size->¬ M k->w.heap[k]?=w0.heap[k]?
structure Chg (w0 w:World):Prop where
 os:w.os=w0.os
 tape:w.tape=w0.tape
 output:w.output=w0.output
 size:w0.heap.size<=w.heap.size
 block:∀ k,k<w0.heap.size->w.heap[k]?=w0.heap[k]?
theorem Chg.refl (w:World):Chg w w:=⟨rfl,rfl,rfl,Nat.le_refl _,λ_ _=>rfl⟩
theorem Ji.refl (M:Nat->Prop)(w:World):Ji M w w:=⟨rfl,rfl,rfl,Nat.le_refl _,λ_ _ _=>rfl⟩
theorem Ji.mf {M:Nat->Prop}{a b:World}(h:Ji M a b)(hM:∀ k,¬ M k):Chg a b:=⟨h.os,h.tape,h.output,h.size,λk hk=>h.block k hk (hM k)⟩
theorem Ji.trans {M:Nat->Prop}{a b c:World}(h:Ji M a b)(k:Ji M b c):Ji M a c :=
 ⟨by rw[k.os,h.os],by rw[k.tape,h.tape],by rw[k.output,h.output],Nat.le_trans h.size k.size,λi hi U=>by rw[k.block i (Nat.lt_of_lt_of_le hi h.size) U,h.block i hi U]⟩
def VP (G:Nat->Option (List PV))(w:World)(Y:Nat->Prop):Prop:=∀ g cs,G g=some cs->Rep w Y iQ (.pp cs) (.pointer (some ⟨g,0,none⟩))
theorem VP.keep {G:Nat->Option (List PV)}{w w' : World}{Y Y' : Nat->Prop}(h:VP G w Y)(K:Keep w w' Y Y' iQ iQ):VP G w' Y':=λg cs U=>Rep.keep _ K _ (h g cs U)
theorem Chg.below {a b:World}(h:Chg a b):RowKit.Below a.heap.size a b:=⟨h.os,h.tape,h.output,h.size,h.block⟩
structure yK (w0:World)(L:Nat->Prop)(w:World)(Y:Nat->Prop)(σ:Sg)(st:St):Prop where
 rep:∀ b r c h sz es,lM st b r c h sz es->VO w Y h sz es
 old:∀ b r c h sz es,lM st b r c h sz es->w0.heap.size<=h.ν\/L h.ν
 one:∀ b r c h sz es b' r' c' h' sz' es',lM st b r c h sz es->lM st b' r' c' h' sz' es'->h.ν=h'.ν->b=b'/\r=r'/\c=c'
 sep:∀ b r c h sz es b' x l,lM st b r c h sz es->iO st b'=some x->σ b'=some l->l.cb≠h.ν
theorem VO.lt {w:World}{Y:Nat->Prop}{h:Hdr}{sz:Nat}{U:List (List PV)}(H:VO w Y h sz U):h.ν<w.heap.size:=by
 obtain⟨arr,ty,h1,_⟩:=H.blk
 by_cases hb:h.ν<w.heap.size
 exact hb
 simp[Array.getElem?_eq_none (Nat.le_of_not_lt hb)] at h1
theorem VO.keep {w w' : World}{Y Y' : Nat->Prop}{h:Hdr}{sz:Nat}{U:List (List PV)}(H:VO w Y h sz U)(K:Keep w w' Y Y' iQ iQ)(hb:w'.heap[h.ν]?=w.heap[h.ν]?)(T:Y h.ν->Y' h.ν):VO w' Y' h sz U :=
 ⟨T H.own,H.pos,by rw[hb];exact H.blk,H.len,jh.keep U K (λ_=>hb) _ H.rows⟩
theorem yK.none {w0 w:World}{L Y:Nat->Prop}{σ:Sg}{st:St}(h:∀ b sz rows,iO st b≠some (.kH sz rows)):yK w0 L w Y σ st:=by
 have no:∀ {b r c h sz es},lM st b r c h sz es->False:=λ⟨_,_,_,h1,_⟩=>h _ _ _ h1;exact⟨λ_ _ _ _ _ _ k=>(no k).elim,λ_ _ _ _ _ _ k=>(no k).elim,λ_ _ _ _ _ _ _ _ _ _ _ _ k=>(no k).elim,λ_ _ _ _ _ _ _ _ _ k=>(no k).elim⟩
theorem yK.keep {w0 w w' : World}{L Y Y' : Nat->Prop}{σ σ' : Sg}{st st' : St}(H:yK w0 L w Y σ st)(K:Keep w w' Y Y' iQ iQ)
  (U:∀ b r c h sz T,lM st' b r c h sz T->lM st b r c h sz T)
  (R:∀ b r c h sz T,lM st' b r c h sz T->w'.heap[h.ν]?=w.heap[h.ν]?)
  (hY:∀ b r c h sz T,lM st' b r c h sz T->Y' h.ν)
  (J:∀ b r c h sz T I x l,lM st' b r c h sz T->iO st' I=some x->σ' I=some l->l.cb≠h.ν):yK w0 L w' Y' σ' st' :=
 ⟨λb r c h sz T k=>(H.rep _ _ _ _ _ _ (U _ _ _ _ _ _ k)).keep K (R _ _ _ _ _ _ k) (λ_=>hY _ _ _ _ _ _ k),
   λb r c h sz T k=>H.old _ _ _ _ _ _ (U _ _ _ _ _ _ k),
   λb r c h sz T I r' c' h' sz' g k C e=>H.one _ _ _ _ _ _ _ _ _ _ _ _ (U _ _ _ _ _ _ k) (U _ _ _ _ _ _ C) e,J⟩
theorem yK.sub {w0 w:World}{L Y:Nat->Prop}{σ:Sg}{st st' : St}(H:yK w0 L w Y σ st)(h:∀ b x,iO st' b=some x->iO st b=some x):yK w0 L w Y σ st' :=
 H.keep ⟨λ_ _ _=>rfl,λ_ _ h=>h,Nat.le_refl _,mg.refl _⟩ (λb _ _ _ _ _ k=>k.sub (h b)) (λ_ _ _ _ _ _ _=>rfl) (λb r c R sz T k=>(H.rep _ _ _ _ _ _ (k.sub (h b))).own)
  (λb r c R sz T U x l k hx hl=>H.sep _ _ _ _ _ _ _ _ _ (k.sub (h b)) (h U x hx) hl)
theorem yK.heap {w0 w w' : World}{L Y:Nat->Prop}{σ:Sg}{st:St}(H:yK w0 L w Y σ st)(hs:w.heap.size<=w'.heap.size)(hh:∀ k,k<w.heap.size->w'.heap[k]?=w.heap[k]?):yK w0 L w' Y σ st :=
 H.keep ⟨λk hk _=>hh k hk,λ_ _ h=>h,hs,mg.refl _⟩ (λ_ _ _ _ _ _ k=>k) (λ_ _ _ _ _ _ k=>hh _ (H.rep _ _ _ _ _ _ k).lt) (λ_ _ _ _ _ _ k=>(H.rep _ _ _ _ _ _ k).own) H.sep
structure SW {T:Tab}(C:Ctx T)(w:World)(Y:Nat->Prop)(σ:Sg)(ps:List PV)(vs:List Value)(st:St)(n:Nat):Prop where
 vals:gB w Y σ ps vs
 store:I8 w Y σ st
 next:∀ b,n<=b->σ b=none
 vg:∀ k,Y k->k<w.heap.size
 y0:∀ k,C.Y0 k->Y k
 c0:∀ k,C.Y0 k->k<C.w0.heap.size/\¬ C.L k
 vk:∀ k,Y k->k<C.w0.heap.size->C.Y0 k\/C.M k
 mf:Ji C.M C.w0 w
 own:∀ b x l,iO st b=some x->σ b=some l->C.w0.heap.size<=l.cb\/C.L l.cb
 wz:VP T.gl w Y
 fix:T.qJ<=n/\∀ b,b<T.qJ->σ b=C.base b
 nest:yK C.w0 C.L w Y σ st
theorem SW.away {T:Tab}{C:Ctx T}{w:World}{Y:Nat->Prop}{σ:Sg}{ps:List PV}{vs:List Value}{st:St}{n:Nat}(H:SW C w Y σ ps vs st n){b:Nat}{x:jq}{l:Loc}(hx:iO st b=some x)(hl:σ b=some l):¬ C.Y0 l.cb:=λh=>by
 have h1:=H.c0 _ h;rcases H.own b x l hx hl with h2|h2
 omega
 exact h1.2 h2
theorem SW.mono {T:Tab}{C:Ctx T}{w:World}{Y:Nat->Prop}{σ:Sg}{ps:List PV}{vs:List Value}{st:St}{n U : Nat}(H:SW C w Y σ ps vs st n)(h:n<=U):SW C w Y σ ps vs st U :=
 ⟨H.vals,H.store,λb hb=>H.next b (Nat.le_trans h hb),H.vg,H.y0,H.c0,H.vk,H.mf,H.own,H.wz,⟨Nat.le_trans H.fix.1 h,H.fix.2⟩,H.nest⟩
theorem SW.qo {T:Tab}{C:Ctx T}{w:World}{Y:Nat->Prop}{σ:Sg}{ps U : List PV}{vs R : List Value}{st:St}{n:Nat}(H:SW C w Y σ ps vs st n)(h:gB w Y σ U R):SW C w Y σ U R st n :=
 ⟨h,H.store,H.next,H.vg,H.y0,H.c0,H.vk,H.mf,H.own,H.wz,H.fix,H.nest⟩
def ahh {T:Tab}(C:Ctx T)(E:Env)(vs:List Value)(w:World):Prop:=∃ Y σ,SW C w Y σ E.tmps vs E.st E.next
theorem gB.get {w:World}{Y:Nat->Prop}{σ:Sg}:∀ (ps:List PV) (vs:List Value) (t:Nat),gB w Y σ ps vs->Rep w Y σ (iZ ps t) (vs.getD t Go.undef)
 | [],vs,t,h=>by unfold gB at h;subst h;simp[iZ,Rep]
 | p::ps,vs,0,h=>by unfold gB at h;obtain⟨v,U,rfl,h1,_⟩:=h;simpa [iZ] using h1
 | p::ps,vs,t+1,h=>by
  unfold gB at h;obtain⟨v,U,rfl,_,h2⟩:=h
  simpa [iZ] using gB.get ps U t h2
theorem gB.length {w:World}{Y:Nat->Prop}{σ:Sg}:∀ (ps:List PV) (vs:List Value),gB w Y σ ps vs->vs.length=ps.length
 | [],vs,h=>by unfold gB at h;subst h;rfl
 | p::ps,vs,h=>by unfold gB at h;obtain⟨v,U,rfl,_,h2⟩:=h;simp[gB.length ps U h2]
theorem gB.set {w:World}{Y:Nat->Prop}{σ:Sg}{p:PV}{v:Value}(hp:Rep w Y σ p v):∀ (ps:List PV) (vs:List Value) (t:Nat),gB w Y σ ps vs->gB w Y σ (qU ps t p) (vs.set t v)
 | [],vs,t,h=>by unfold gB at h;subst h;simp[qU,gB]
 | q::ps,vs,0,h=>by
  unfold gB at h;obtain⟨u,U,rfl,_,h2⟩:=h;simp only[qU,List.set_cons_zero];unfold gB;exact⟨v,U,rfl,hp,h2⟩
 | q::ps,vs,t+1,h=>by
  unfold gB at h;obtain⟨u,U,rfl,h1,h2⟩:=h;simp only[qU,List.set_cons_succ];unfold gB;exact⟨u,_,rfl,h1,gB.set hp ps U t h2⟩
theorem gB.app {w:World}{Y:Nat->Prop}{σ:Sg}:∀ (ps qs:List PV) (vs us:List Value),gB w Y σ ps vs->gB w Y σ qs us->gB w Y σ (wU ps qs) (vs++us)
 | [],qs,vs,us,h,k=>by unfold gB at h;subst h;simpa [wU] using k
 | p::ps,qs,vs,us,h,k=>by
  unfold gB at h;obtain⟨v,U,rfl,h1,h2⟩:=h;simp only[wU,List.cons_append];unfold gB;exact⟨v,_,rfl,h1,gB.app ps qs U us h2 k⟩
@[simp] theorem kX:∀ l,lG l=l.length
 | []=>rfl
 | _::l=>by simp[lG,kX l]
@[simp] theorem Gg:∀ n l,Na n l=l.take n
 | 0,l=>by simp[Na]
 | n+1,[]=>by simp[Na]
 | n+1,x::l=>by simp[Na,Gg n l]
@[simp] theorem su:∀ n l,Cj n l=l.drop n
 | 0,l=>by simp[Cj]
 | n+1,[]=>by simp[Cj]
 | n+1,x::l=>by simp[Cj,su n l]
@[simp] theorem KF:∀ l m,wU l m=l++m
 | [],m=>by simp[wU]
 | x::l,m=>by simp[wU,KF l m]
theorem qK:∀ l n v,qU l n v=l.set n v
 | [],n,v=>by simp[qU]
 | x::l,0,v=>by simp[qU]
 | x::l,n+1,v=>by simp[qU,qK l n v]
theorem A8:∀ l n,iZ l n=l.getD n .undef
 | [],n=>by simp[iZ]
 | x::l,0=>by simp[iZ]
 | x::l,n+1=>by simpa [iZ] using A8 l n
theorem jc.get {w:World}{Y:Nat->Prop}{σ:Sg}{b:Nat}:∀ (ps:List PV) (o i:Nat),jc w Y σ b ps o->i<ps.length->∃ v,w.cell? ⟨b,o+i,none⟩=some v/\Rep w Y σ (iZ ps i) v
 | [],_,_,_,h=>by simp at h
 | p::ps,o,0,h,_=>by unfold jc at h;simpa [iZ] using h.1
 | p::ps,o,i+1,h,hi=>by
  unfold jc at h;have:=jc.get ps (o+1) i h.2 (by simpa using hi);rw[show o+(i+1)=o+1+i by omega];simpa [iZ] using this
theorem jc.drop {w:World}{Y:Nat->Prop}{σ:Sg}{b:Nat}:∀ (n:Nat) (ps:List PV) (o:Nat),jc w Y σ b ps o->jc w Y σ b (ps.drop n) (o+n)
 | 0,ps,o,h=>by simpa using h
 | n+1,[],o,h=>by simp[jc]
 | n+1,p::ps,o,h=>by
  unfold jc at h;have:=jc.drop n ps (o+1) h.2;rw[show o+(n+1)=o+1+n by omega];simpa using this
theorem jc.take {w:World}{Y:Nat->Prop}{σ:Sg}{b:Nat}:∀ (n:Nat) (ps:List PV) (o:Nat),jc w Y σ b ps o->jc w Y σ b (ps.take n) o
 | 0,ps,o,h=>by simp[jc]
 | n+1,[],o,h=>by simp[jc]
 | n+1,p::ps,o,h=>by
  unfold jc at h;simp only[List.take_succ_cons];unfold jc;exact⟨h.1,jc.take n ps (o+1) h.2⟩
theorem jc.vals {w:World}{Y:Nat->Prop}{σ:Sg}{b:Nat}:∀ (ps:List PV) (o:Nat),jc w Y σ b ps o ->
  ∃ vs:List Value,gB w Y σ ps vs/\∀ i v,vs[i]?=some v->w.cell? ⟨b,o+i,none⟩=some v
 | [],o,_=>⟨[],by unfold gB;rfl,by simp⟩
 | p::ps,o,h=>by
  unfold jc at h;obtain⟨⟨v,U,h1⟩,h2⟩:=h;obtain⟨vs,hr,hv⟩:=jc.vals ps (o+1) h2;refine⟨v::vs,by unfold gB;exact⟨v,vs,rfl,h1,hr⟩,λi u hu=>?_⟩
  cases i with
  | zero=>simp at hu;subst hu;simpa using U
  | succ i=>rw[show o+(i+1)=o+1+i by omega];exact hv i u (by simpa using hu)
theorem jc.Hw {w:World}{Y:Nat->Prop}{σ:Sg}{b:Nat}:∀ (ps:List PV) (vs:List Value) (o:Nat),gB w Y σ ps vs->(∀ i v,vs[i]?=some v->w.cell? ⟨b,o+i,none⟩=some v)->jc w Y σ b ps o
 | [],vs,o,_,_=>by unfold jc;trivial
 | p::ps,vs,o,h,hc=>by
  unfold gB at h;obtain⟨v,U,rfl,h1,h2⟩:=h;unfold jc;refine⟨⟨v,by simpa using hc 0 v rfl,h1⟩,jc.Hw ps U (o+1) h2 λi u hu=>?_⟩;rw[show o+1+i=o+(i+1) by omega];exact hc (i+1) u (by simpa using hu)
theorem jh.row {w:World}{Y:Nat->Prop}{σ:Sg}{b sz:Nat}:∀ (rs:List (List PV)) (o i:Nat) (row:List PV),jh w Y σ b sz rs o->rs[i]?=some row->(row.length=sz/\iE row=true)/\jc w Y σ b row (o+i*sz)
 | [],_,_,_,_,h=>by simp at h
 | r::rs,o,0,row,h,hi=>by unfold jh at h;simp at hi;subst hi;exact⟨h.1,by simpa using h.2.1⟩
 | r::rs,o,i+1,row,h,hi=>by
  unfold jh at h;have:=jh.row rs (o+sz) i row h.2.2 (by simpa using hi);refine⟨this.1,?_⟩;rw[show o+(i+1)*sz=o+sz+i*sz by rw[Nat.add_mul];omega];exact this.2
theorem jh.drop {w:World}{Y:Nat->Prop}{σ:Sg}{b sz:Nat}:∀ (n:Nat) (rs:List (List PV)) (o:Nat),jh w Y σ b sz rs o->jh w Y σ b sz (rs.drop n) (o+n*sz)
 | 0,rs,o,h=>by simpa using h
 | n+1,[],o,h=>by simp[jh]
 | n+1,r::rs,o,h=>by
  unfold jh at h;have:=jh.drop n rs (o+sz) h.2.2;rw[show o+(n+1)*sz=o+sz+n*sz by rw[Nat.add_mul];omega];simpa using this
theorem jh.take {w:World}{Y:Nat->Prop}{σ:Sg}{b sz:Nat}:∀ (n:Nat) (rs:List (List PV)) (o:Nat),jh w Y σ b sz rs o->jh w Y σ b sz (rs.take n) o
 | 0,rs,o,h=>by simp[jh]
 | n+1,[],o,h=>by simp[jh]
 | n+1,r::rs,o,h=>by
  unfold jh at h;simp only[List.take_succ_cons];unfold jh;exact⟨h.1,h.2.1,jh.take n rs (o+sz) h.2.2⟩
theorem jh.app {w:World}{Y:Nat->Prop}{σ:Sg}{b sz:Nat}:∀ (rs qs:List (List PV)) (o:Nat),jh w Y σ b sz rs o->jh w Y σ b sz qs (o+rs.length*sz)->jh w Y σ b sz (rs++qs) o
 | [],qs,o,_,k=>by simpa using k
 | r::rs,qs,o,h,k=>by
  unfold jh at h;simp only[List.cons_append];unfold jh;refine⟨h.1,h.2.1,jh.app rs qs (o+sz) h.2.2 ?_⟩;rw[show o+sz+rs.length*sz=o+(r::rs).length*sz by simp[Nat.add_mul];omega];exact k
end Go.Pv
