import Derived.Test.YtchmoabpofnbaaaGreatD05
set_option linter.all false
namespace Go.Pv
open Go
section
variable {α β σ τ ρ:Type}{Q:ρ->Prop}
def szB (s:ByteArray):Prop:=s.size<=1048576
def uZ (e:α->Prop)(l:List α):Prop:=l.length<=1048576/\∀ x∈l,e x
theorem EJ {a b:Int}(h1 : -9223372036854775808<=a-b)(h2:a-b<9223372036854775808):rP a b=a-b:=by
 show IntKind.i64.wrap (a-b)=a-b;exact wrap_in h1 h2
theorem ae3 {a b:Int}(h1 : -9223372036854775808<=a*b)(h2:a*b<9223372036854775808):RG a b=a*b:=by
 show IntKind.i64.wrap (a*b)=a*b;exact wrap_in h1 h2
theorem QK {x:α}{k:α->Option ρ}(hk:∀ y,y=x->Ok Q (k y)):Ok Q (lt x k):=hk x rfl
theorem yL {l:List α}{i:Int}{k:α->Option ρ}(h0:0<=i)(h1:i<(l.length:Int))(hk:∀ x,x∈l->Ok Q (k x)):Ok Q (bnd (gW l i) k):=by
 obtain⟨n,rfl⟩:=Int.eq_ofNat_of_zero_le h0;exact fO n rfl ae (hk _ (List.getElem_mem _))
theorem ahR {n:Nat}{i:Int}{k:Nat->Option ρ}(h0:0<=i)(h1:i<(n:Int))(hk:∀ j:Nat,(j:Int)=i->j<n->Ok Q (k j)):Ok Q (bnd (kD n i) k):=by
 obtain⟨m,rfl⟩:=Int.eq_ofNat_of_zero_le h0;exact iD m rfl ae (hk m rfl ae)
theorem ajT {l:List α}{n:Nat}{k:α->Option ρ}(T:n<l.length)(hk:∀ x,x∈l->Ok Q (k x)):Ok Q (bnd (l[n]?) k):=gY T (hk _ (List.getElem_mem _))
theorem aaB {s:ByteArray}{i:Int}{k:Int->Option ρ}(h0:0<=i)(h1:i<(s.size:Int))(hk:∀ x:Int,0<=x/\x<256->Ok Q (k x)):Ok Q (bnd (jM s i) k):=by
 obtain⟨m,rfl⟩:=Int.eq_ofNat_of_zero_le h0;have T:m<s.size:=by omega
 have:jM s (m:Int)=some ((s[m].toNat:Int)):=by
  show(match s[m]? with|some c=>some (c.toNat:Int)|none=>none)=_
  grind
 rw[this];have:=s[m].toNat_lt;exact hk _ ⟨by omega,by omega⟩
theorem vX {kd:IntKind}{a b:Int}{k:Int->Option ρ}(h0:b≠0)(hk:∀ x,x=kd.wrap (a.tdiv b)->Ok Q (k x)):Ok Q (bnd (divO .quo kd a b) k):=by
 have:divO .quo kd a b=some (kd.wrap (a.tdiv b)):=by grind[divO]
 rw[this];exact hk _ rfl
theorem xA {kd:IntKind}{a b:Int}{k:Int->Option ρ}(h0:b≠0)(hk:∀ x,x=a.tmod b->Ok Q (k x)):Ok Q (bnd (divO .rem kd a b) k):=by
 have:divO .rem kd a b=some (a.tmod b):=by grind[divO]
 rw[this];exact hk _ rfl
theorem ahS {op:BinOp}{kd:IntKind}{a y:Int}{k:Int->Option ρ}(h0:0<=y)(hk:∀ x,jU op kd a y=some x->Ok Q (k x)):Ok Q (bnd (jU op kd a y) k):=by
 have:∃ x,jU op kd a y=some x:=by unfold jU;simp_all
 obtain⟨x,T⟩:=this;rw[T];exact hk x T
theorem uN {a b:ByteArray}{k:ByteArray->Option ρ}(h0:a.size+b.size<=4611686018427387904)(hk:∀ x:ByteArray,x.size=a.size+b.size->Ok Q (k x)):Ok Q (bnd (jc a b) k):=by
 have:jc a b=some (a++b):=by grind[jc,Nat.ble_eq_true_of_le]
 rw[this];exact hk _ aj
theorem wrap_u8 (n:Int):0<=IntKind.u8.wrap n/\IntKind.u8.wrap n<256:=by rw[IntKind.wrap_u8];omega
theorem aaC {e:Int}{k:ByteArray->Option ρ}(hk:∀ x:ByteArray,x.size=1->Ok Q (k x)):Ok Q (bnd (kE [IntKind.wrap .u8 e]) k):=by
 have:∃ x:ByteArray,kE [IntKind.wrap .u8 e]=some x/\x.size=1:=by
  unfold kE;have h : [IntKind.wrap .u8 e].all (λn=>decide (0<=n/\n<256))=true:=by simp[wrap_u8 e]
  rw[h];exact⟨_,rfl,rfl⟩
 obtain⟨x,T,h1⟩:=this;rw[T];exact hk x h1
theorem ajU {a m:Int}{b:Nat}{k:Nat->Option ρ}(h0:0<=a)(h1:a<=m/\m<=9223372036854775807)(h2:(b:Int)*m<=140737488355328)(hk:∀ j:Nat,(j:Int)=a->Ok Q (k j)):Ok Q (bnd (jD a m b) k):=by
 have:jD a m b=some a.toNat:=by
  grind[jD]
 rw[this];exact hk _ ae
theorem ajV {a b:Int}{n:Nat}{k:Nat×Nat->Option ρ}(h0:0<=a)(h1:a<=b)(h2:b<=(n:Int))(hk:∀ x:Nat×Nat,(x.1:Int)=a/\(x.2:Int)=b->Ok Q (k x)):Ok Q (bnd (jR n a b) k):=by
 have:jR n a b=some (a.toNat,b.toNat):=by grind[jR]
 rw[this];exact hk _ ⟨by simp only;omega,by simp only;omega⟩
theorem ahT {a b:Int}{s:ByteArray}{k:ByteArray->Option ρ}(h0:0<=a)(h1:a<=b)(h2:b<=(s.size:Int))(hk:∀ x:ByteArray,(x.size:Int)=b-a->Ok Q (k x)):Ok Q (bnd (kK s a b) k):=by
 have:kK s a b=some (s.extract a.toNat b.toNat):=by grind[kK]
 rw[this];exact hk _ (by simp_all;omega)
theorem adH {i:Int}{n:Nat}{k:Nat->Option ρ}(h0:0<=i)(h1:i<(n:Int))(hk:∀ j:Nat,(j:Int)=i/\j<n->Ok Q (k j)):Ok Q (pI i n k):=by
 obtain⟨m,rfl⟩:=Int.eq_ofNat_of_zero_le h0;have T:m<n:=by omega
 show Ok Q (bif Nat.blt m n then k m else none);have:Nat.blt m n=true:=by simp_all
 grind
theorem Nw {a b:Option ρ}(h:Ok Q b):Ok Q (qx a b):=by grind[qx]
theorem uP (l:List UInt8):(bs l).size=l.length:=rfl
end
end Go.Pv
