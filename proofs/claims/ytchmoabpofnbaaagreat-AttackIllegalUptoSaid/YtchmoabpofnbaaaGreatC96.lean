import Derived.Test.YtchmoabpofnbaaaGreatC06
set_option linter.all false
namespace Go.Pv
open Go
section
variable {α β σ τ ρ:Type}{Q:ρ->Prop}
def IW (s:ByteArray):Prop:=s.size<=1048576
def su (e:α->Prop)(l:List α):Prop:=l.length<=1048576/\∀ x∈l,e x
theorem Fz {a b:Int}(h1 : -9223372036854775808<=a-b)(h2:a-b<9223372036854775808):qI a b=a-b:=by
 show IntKind.i64.wrap (a-b)=a-b;exact wrap_in h1 h2
theorem acT {a b:Int}(h1 : -9223372036854775808<=a*b)(h2:a*b<9223372036854775808):X8 a b=a*b:=by
 show IntKind.i64.wrap (a*b)=a*b;exact wrap_in h1 h2
theorem ou {x:α}{k:α->Option ρ}(hk:∀ y,y=x->Ok Q (k y)):Ok Q (lt x k):=hk x rfl
theorem kQ {l:List α}{i:Int}{k:α->Option ρ}(h0:0<=i)(h1:i<(l.length:Int))(hk:∀ x,x∈l->Ok Q (k x)):Ok Q (bnd (jl l i) k):=by
 obtain⟨n,rfl⟩:=Int.eq_ofNat_of_zero_le h0;exact iM n rfl ah (hk _ (List.getElem_mem _))
theorem abx {n:Nat}{i:Int}{k:Nat->Option ρ}(h0:0<=i)(h1:i<(n:Int))(hk:∀ j:Nat,(j:Int)=i->j<n->Ok Q (k j)):Ok Q (bnd (lJ n i) k):=by
 obtain⟨m,rfl⟩:=Int.eq_ofNat_of_zero_le h0;exact ja m rfl ah (hk m rfl ah)
theorem YI {l:List α}{n:Nat}{k:α->Option ρ}(hn:n<l.length)(hk:∀ x,x∈l->Ok Q (k x)):Ok Q (bnd (l[n]?) k):=iR hn (hk _ (List.getElem_mem _))
theorem CX {s:ByteArray}{i:Int}{k:Int->Option ρ}(h0:0<=i)(h1:i<(s.size:Int))(hk:∀ x:Int,0<=x/\x<256->Ok Q (k x)):Ok Q (bnd (kN s i) k):=by
 obtain⟨m,rfl⟩:=Int.eq_ofNat_of_zero_le h0;have U:m<s.size:=by omega
 have:kN s (m:Int)=some ((s[m].toNat:Int)):=by
  show(match s[m]? with|some c=>some (c.toNat:Int)|none=>none)=_;rw[getElem?_pos s m U]
 rw[this];have:=s[m].toNat_lt;exact hk _ ⟨by omega,by omega⟩
theorem Af {kd:IntKind}{a b:Int}{k:Int->Option ρ}(h0:b≠0)(hk:∀ x,x=kd.wrap (a.tdiv b)->Ok Q (k x)):Ok Q (bnd (divO .quo kd a b) k):=by
 have:divO .quo kd a b=some (kd.wrap (a.tdiv b)):=by unfold divO;rw[decide_eq_false h0];rfl
 rw[this];exact hk _ rfl
theorem Ag {kd:IntKind}{a b:Int}{k:Int->Option ρ}(h0:b≠0)(hk:∀ x,x=a.tmod b->Ok Q (k x)):Ok Q (bnd (divO .rem kd a b) k):=by
 have:divO .rem kd a b=some (a.tmod b):=by unfold divO;rw[decide_eq_false h0];rfl
 rw[this];exact hk _ rfl
theorem aby {op:BinOp}{kd:IntKind}{a y:Int}{k:Int->Option ρ}(h0:0<=y)(hk:∀ x,kT op kd a y=some x->Ok Q (k x)):Ok Q (bnd (kT op kd a y) k):=by
 have:∃ x,kT op kd a y=some x:=by unfold kT;rw[decide_eq_true h0];exact⟨_,rfl⟩
 obtain⟨x,hx⟩:=this;rw[hx];exact hk x hx
theorem nD {a b:ByteArray}{k:ByteArray->Option ρ}(h0:a.size+b.size<=4611686018427387904)(hk:∀ x:ByteArray,x.size=a.size+b.size->Ok Q (k x)):Ok Q (bnd (jL a b) k):=by
 have:jL a b=some (a++b):=by unfold jL;rw[Nat.ble_eq_true_of_le h0];rfl
 rw[this];exact hk _ aC
theorem wrap_u8 (n:Int):0<=IntKind.u8.wrap n/\IntKind.u8.wrap n<256:=by rw[IntKind.wrap_u8];omega
theorem acU {e:Int}{k:ByteArray->Option ρ}(hk:∀ x:ByteArray,x.size=1->Ok Q (k x)):Ok Q (bnd (lM [IntKind.wrap .u8 e]) k):=by
 have:∃ x:ByteArray,lM [IntKind.wrap .u8 e]=some x/\x.size=1:=by
  unfold lM;have h : [IntKind.wrap .u8 e].all (λn=>decide (0<=n/\n<256))=true:=by simp[wrap_u8 e]
  rw[h];exact⟨_,rfl,rfl⟩
 obtain⟨x,hx,h1⟩:=this;rw[hx];exact hk x h1
theorem ain {a b:Int}{s:ByteArray}{k:ByteArray->Option ρ}(h0:0<=a)(h1:a<=b)(h2:b<=(s.size:Int))(hk:∀ x:ByteArray,(x.size:Int)=b-a->Ok Q (k x)):Ok Q (bnd (lS s a b) k):=by
 have:lS s a b=some (s.extract a.toNat b.toNat):=by unfold lS;rw[decide_eq_true (show 0<=a/\a<=b/\b<=(s.size:Int) from⟨h0,h1,h2⟩)];rfl
 rw[this];exact hk _ (by rw[ByteArray.size_extract];omega)
theorem xN {i:Int}{n:Nat}{k:Nat->Option ρ}(h0:0<=i)(h1:i<(n:Int))(hk:∀ j:Nat,(j:Int)=i/\j<n->Ok Q (k j)):Ok Q (qE i n k):=by
 obtain⟨m,rfl⟩:=Int.eq_ofNat_of_zero_le h0;have U:m<n:=by omega
 show Ok Q (bif Nat.blt m n then k m else none);have:Nat.blt m n=true:=by rw[Nat.blt_eq];exact U
 rw[this];exact hk m ⟨rfl,U⟩
theorem Ip {a b:Option ρ}(h:Ok Q b):Ok Q (rD a b):=by unfold rD;cases a<;>exact h
theorem oz (l:List UInt8):(bs l).size=l.length:=rfl
end
end Go.Pv
