import Derived.Test.YtchmoabpofnbaaaGreatC05
set_option linter.all false
namespace Go.Pv
open Go
section
variable {α β σ τ ρ:Type}{Q:ρ->Prop}
def szB (s:ByteArray):Prop:=s.size<=1048576
def sZ (e:α->Prop)(l:List α):Prop:=l.length<=1048576/\∀ x∈l,e x
theorem Cc {a b:Int}(h1 : -9223372036854775808<=a-b)(h2:a-b<9223372036854775808):qL a b=a-b:=by
 show IntKind.i64.wrap (a-b)=a-b;exact wrap_in h1 h2
theorem adX {a b:Int}(h1 : -9223372036854775808<=a*b)(h2:a*b<9223372036854775808):QJ a b=a*b:=by
 show IntKind.i64.wrap (a*b)=a*b;exact wrap_in h1 h2
theorem P5 {x:α}{k:α->Option ρ}(hk:∀ y,y=x->Ok Q (k y)):Ok Q (lt x k):=hk x rfl
theorem xh {l:List α}{i:Int}{k:α->Option ρ}(h0:0<=i)(h1:i<(l.length:Int))(hk:∀ x,x∈l->Ok Q (k x)):Ok Q (bnd (gu l i) k):=by
 obtain⟨n,rfl⟩:=Int.eq_ofNat_of_zero_le h0;exact ok_ixL n rfl ae (hk _ (List.getElem_mem _))
theorem akf {n:Nat}{i:Int}{k:Nat->Option ρ}(h0:0<=i)(h1:i<(n:Int))(hk:∀ j:Nat,(j:Int)=i->j<n->Ok Q (k j)):Ok Q (bnd (jS n i) k):=by
 obtain⟨m,rfl⟩:=Int.eq_ofNat_of_zero_le h0;exact gU m rfl ae (hk m rfl ae)
theorem aiy {l:List α}{n:Nat}{k:α->Option ρ}(T:n<l.length)(hk:∀ x,x∈l->Ok Q (k x)):Ok Q (bnd (l[n]?) k):=gB T (hk _ (List.getElem_mem _))
theorem ZH {s:ByteArray}{i:Int}{k:Int->Option ρ}(h0:0<=i)(h1:i<(s.size:Int))(hk:∀ x:Int,0<=x/\x<256->Ok Q (k x)):Ok Q (bnd (jA s i) k):=by
 obtain⟨m,rfl⟩:=Int.eq_ofNat_of_zero_le h0;have T:m<s.size:=by omega
 have:jA s (m:Int)=some ((s[m].toNat:Int)):=by
  show(match s[m]? with|some c=>some (c.toNat:Int)|none=>none)=_
  grind
 rw[this];have:=s[m].toNat_lt;exact hk _ ⟨by omega,by omega⟩
theorem vk {kd:IntKind}{a b:Int}{k:Int->Option ρ}(h0:b≠0)(hk:∀ x,x=kd.wrap (a.tdiv b)->Ok Q (k x)):Ok Q (bnd (divO .quo kd a b) k):=by
 have:divO .quo kd a b=some (kd.wrap (a.tdiv b)):=by grind[divO]
 rw[this];exact hk _ rfl
theorem wL {kd:IntKind}{a b:Int}{k:Int->Option ρ}(h0:b≠0)(hk:∀ x,x=a.tmod b->Ok Q (k x)):Ok Q (bnd (divO .rem kd a b) k):=by
 have:divO .rem kd a b=some (a.tmod b):=by grind[divO]
 rw[this];exact hk _ rfl
theorem agA {op:BinOp}{kd:IntKind}{a y:Int}{k:Int->Option ρ}(h0:0<=y)(hk:∀ x,jF op kd a y=some x->Ok Q (k x)):Ok Q (bnd (jF op kd a y) k):=by
 have:∃ x,jF op kd a y=some x:=by unfold jF;simp_all
 obtain⟨x,hx⟩:=this;rw[hx];exact hk x hx
theorem sO {a b:ByteArray}{k:ByteArray->Option ρ}(h0:a.size+b.size<=4611686018427387904)(hk:∀ x:ByteArray,x.size=a.size+b.size->Ok Q (k x)):Ok Q (bnd (iO a b) k):=by
 have:iO a b=some (a++b):=by grind[iO,Nat.ble_eq_true_of_le]
 rw[this];exact hk _ aF
theorem wrap_u8 (n:Int):0<=IntKind.u8.wrap n/\IntKind.u8.wrap n<256:=by rw[IntKind.wrap_u8];omega
theorem ZI {e:Int}{k:ByteArray->Option ρ}(hk:∀ x:ByteArray,x.size=1->Ok Q (k x)):Ok Q (bnd (jU [IntKind.wrap .u8 e]) k):=by
 have:∃ x:ByteArray,jU [IntKind.wrap .u8 e]=some x/\x.size=1:=by
  unfold jU;have h : [IntKind.wrap .u8 e].all (λn=>decide (0<=n/\n<256))=true:=by simp[wrap_u8 e]
  rw[h];exact⟨_,rfl,rfl⟩
 obtain⟨x,hx,h1⟩:=this;rw[hx];exact hk x h1
theorem aiz {a m:Int}{b:Nat}{k:Nat->Option ρ}(h0:0<=a)(h1:a<=m/\m<=9223372036854775807)(h2:(b:Int)*m<=140737488355328)(hk:∀ j:Nat,(j:Int)=a->Ok Q (k j)):Ok Q (bnd (jm a m b) k):=by
 have:jm a m b=some a.toNat:=by
  grind[jm]
 rw[this];exact hk _ ae
theorem aiA {a b:Int}{n:Nat}{k:Nat×Nat->Option ρ}(h0:0<=a)(h1:a<=b)(h2:b<=(n:Int))(hk:∀ x:Nat×Nat,(x.1:Int)=a/\(x.2:Int)=b->Ok Q (k x)):Ok Q (bnd (jE n a b) k):=by
 have:jE n a b=some (a.toNat,b.toNat):=by grind[jE]
 rw[this];exact hk _ ⟨by simp only;omega,by simp only;omega⟩
theorem agB {a b:Int}{s:ByteArray}{k:ByteArray->Option ρ}(h0:0<=a)(h1:a<=b)(h2:b<=(s.size:Int))(hk:∀ x:ByteArray,(x.size:Int)=b-a->Ok Q (k x)):Ok Q (bnd (jY s a b) k):=by
 have:jY s a b=some (s.extract a.toNat b.toNat):=by grind[jY]
 rw[this];exact hk _ (by simp_all;omega)
theorem acK {i:Int}{n:Nat}{k:Nat->Option ρ}(h0:0<=i)(h1:i<(n:Int))(hk:∀ j:Nat,(j:Int)=i/\j<n->Ok Q (k j)):Ok Q (oL i n k):=by
 obtain⟨m,rfl⟩:=Int.eq_ofNat_of_zero_le h0;have T:m<n:=by omega
 show Ok Q (bif Nat.blt m n then k m else none);have:Nat.blt m n=true:=by simp_all
 grind
theorem MJ {a b:Option ρ}(h:Ok Q b):Ok Q (pO a b):=by grind[pO]
theorem vH (l:List UInt8):(bs l).size=l.length:=rfl
end
end Go.Pv
