import Derived.Test.YtlacmdnhabblcaaGreatB11
import Derived.Test.YtlacmdnhabblcaaGreatB25
set_option linter.all false
namespace Go.Proofs.YtlacmdnhabblcaaGreat
open Go Go.Pv
set_option maxRecDepth 100000
def oC (x:lX):Prop:=Me x.sub
def qZ (x:nN):Prop:=Me x.sub/\oC x.filter
def DY (x:xY):Prop:=oC x.filter
def EE (x:qM):Prop:=oC x.filter
def aa0 (x:X4):Prop:=oC x.filter
def QE (x:yN):Prop:=oC x.filter
def pK (x:jX):Prop:=aa0 x.ref/\QE x.amount/\Me x.card/\oC x.filter/\(rO qZ) x.mP
def xE (x:rf):Prop:=oC x.filter
def ny (x:kF):Prop:=oC x.filter/\(rO qZ) x.mP/\DY x.jg/\(rO EE) x.specs/\(rO pK) x.nR/\xE x.replace
def AA (x:kD):Prop:=(rO (λ(_:Int)=>True)) x.library/\(rO (λ(_:Int)=>True)) x.hand/\(rO (λ(_:Int)=>True)) x.sO
def EF (x:ou):Prop:=ny x.jd/\(rO (λ(_:rF)=>True)) x.targets
def ND (x:kT):Prop:=ny x.jd
def WG (x:pI):Prop:=(rO (λ(_:Int)=>True)) x.objects/\(rO qZ) x.mP
def kQ (x:iT):Prop:=(rO AA) x.ji/\(rO (λ(_:iW)=>True)) x.objects/\(rO (λ(_:Int)=>True)) x.lq/\(rO (λ(_:Int)=>True)) x.uU/\(rO EF) x.stack/\(rO ND) x.waiting/\(rO WG) x.oq/\(rO (λ(_:Int)=>True)) x.extra
theorem five {i:Nat}(h:i<5):i=0\/i=1\/i=2\/i=3\/i=4:=by omega
theorem yS {ρ:Type}{Q:ρ->Prop}{n m:Nat}{k:Nat->Option ρ}(h:n<m)(hk:Ok Q (k n)):Ok Q (sel (n:Int) m k):=DX ai ai λj hj=>by
 have:j=n:=by omega
 rw[this];exact hk
def EP (c:aco Int):Nat->Int
 | 0=>c.a0|1=>c.a1|2=>c.a2|3=>c.a3|_=>c.a4
def isC (c:oH):Prop:=(0<=c.generic/\c.generic<=99/\0<=c.x/\c.x<=2)/\∀ j,j<5->0<=EP c.color j/\EP c.color j<=9
theorem oK {ρ:Type}{Q:ρ->Prop}{c:Bool}{a b:Option ρ}(h:c=true)(hk:Ok Q a):Ok Q (br c a b):=by subst h;exact hk
theorem lQ {ρ:Type}{Q:ρ->Prop}{c:Bool}{a b:Option ρ}(h:c=false)(hk:Ok Q b):Ok Q (br c a b):=by subst h;exact hk
end Go.Proofs.YtlacmdnhabblcaaGreat
