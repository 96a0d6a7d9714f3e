import Derived.Test.YtlacmdnhabblcaaGreatX06
set_option linter.all false
namespace Go.Pv
open Go
section
variable {α β σ τ ρ:Type} {Q:ρ→Prop}
def szB (s:ByteArray):Prop:=s.size≤1048576
def szL (e:α→Prop) (l:List α):Prop:=l.length≤1048576∧∀ x∈l,e x
theorem ok_ix {l:List α} {i:Int} {k:α→Option ρ} (h0:0≤i) (h1:i<(l.length:Int)) (hk:∀ x,x∈l→Ok Q (k x)):Ok Q (bnd (ixL l i) k):=by
 obtain ⟨n,rfl⟩:=Int.eq_ofNat_of_zero_le h0
 exact ok_ixL n rfl (by omega) (hk _ (List.getElem_mem _))
theorem ok_divquo {kd:IntKind} {a b:Int} {k:Int→Option ρ} (h0:b ≠ 0) (hk:∀ x,x=kd.wrap (a.tdiv b)→Ok Q (k x)):Ok Q (bnd (divO .quo kd a b) k):=by
 have:divO .quo kd a b=some (kd.wrap (a.tdiv b)):=by unfold divO; rw [decide_eq_false h0]; rfl
 rw [this]; exact hk _ rfl
theorem ok_divrem {kd:IntKind} {a b:Int} {k:Int→Option ρ} (h0:b ≠ 0) (hk:∀ x,x=a.tmod b→Ok Q (k x)):Ok Q (bnd (divO .rem kd a b) k):=by
 have:divO .rem kd a b=some (a.tmod b):=by unfold divO; rw [decide_eq_false h0]; rfl
 rw [this]; exact hk _ rfl
theorem bs_size (l:List UInt8):(bs l).size=l.length:=rfl
end
end Go.Pv
