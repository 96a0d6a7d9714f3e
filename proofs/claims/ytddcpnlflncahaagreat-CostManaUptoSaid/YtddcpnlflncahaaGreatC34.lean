import Derived.Test.YtddcpnlflncahaaGreatC05
import Derived.Test.YtddcpnlflncahaaGreatC29
import Derived.Test.YtddcpnlflncahaaGreatC33
set_option linter.all false
namespace Go.Proofs.YtddcpnlflncahaaGreat
open Go Go.Pv
def ok9 (s:ByteArray):Prop:=s.size≤1048576
theorem sT9 {cs:List PV} (h:Sn Tryz.prog 1048576 9 cs):∃ x:ByteArray,cs=eS x∧ok9 x:=by
 obtain ⟨n,e,hw⟩:=h.inv_str Tryz.underlying9
 exact ⟨n,e,hw⟩
def ok4 (_:Bool):Prop:=True
theorem sT4 {cs:List PV} (h:Sn Tryz.prog 1048576 4 cs):∃ x:Bool,cs=eB x∧ok4 x:=by
 obtain ⟨n,e⟩:=h.inv_bool Tryz.underlying4
 exact ⟨n,e,trivial⟩
def ok3 (x:Int):Prop:=(Lit.int .i64 x).wf=true
theorem sT3 {cs:List PV} (h:Sn Tryz.prog 1048576 3 cs):∃ x:Int,cs=(eI .i64) x∧ok3 x:=by
 obtain ⟨n,e,hw⟩:=h.inv_int Tryz.underlying3
 exact ⟨n,e,hw⟩
def ok36 (x:Arr5 Int):Prop:=ok3 x.a0∧ok3 x.a1∧ok3 x.a2∧ok3 x.a3∧ok3 x.a4
theorem sT36 {cs:List PV} (h:Sn Tryz.prog 1048576 36 cs):∃ x:Arr5 Int,cs=(eArr5 (eI .i64)) x∧ok36 x:=by
 have h:=h.inv_arr Tryz.underlying36
 obtain ⟨a0,b0,rfl,k0,h⟩:=h.inv_cons
 obtain ⟨a1,b1,rfl,k1,h⟩:=h.inv_cons
 obtain ⟨a2,b2,rfl,k2,h⟩:=h.inv_cons
 obtain ⟨a3,b3,rfl,k3,h⟩:=h.inv_cons
 obtain ⟨a4,b4,rfl,k4,h⟩:=h.inv_cons
 obtain rfl:=h.inv_nil
 obtain ⟨n0,rfl,w0⟩:=sT3 k0
 obtain ⟨n1,rfl,w1⟩:=sT3 k1
 obtain ⟨n2,rfl,w2⟩:=sT3 k2
 obtain ⟨n3,rfl,w3⟩:=sT3 k3
 obtain ⟨n4,rfl,w4⟩:=sT3 k4
 exact ⟨⟨n0,n1,n2,n3,n4⟩,rfl,w0,w1,w2,w3,w4⟩
def ok38 (x:GCost):Prop:=ok3 x.generic∧ok3 x.x∧ok36 x.color
theorem sT38 {cs:List PV} (h:Sn Tryz.prog 1048576 38 cs):∃ x:GCost,cs=(eGCost mapE) x∧ok38 x:=by
 have h:=h.inv_struct Tryz.underlying38
 obtain ⟨a0,b0,rfl,k0,h⟩:=h.inv_cons
 obtain ⟨a1,b1,rfl,k1,h⟩:=h.inv_cons
 obtain ⟨a2,b2,rfl,k2,h⟩:=h.inv_cons
 obtain rfl:=h.inv_nil
 obtain ⟨n0,rfl,w0⟩:=sT3 k0
 obtain ⟨n1,rfl,w1⟩:=sT3 k1
 obtain ⟨n2,rfl,w2⟩:=sT36 k2
 exact ⟨⟨n0,n1,n2⟩,rfl,w0,w1,w2⟩
def ok102 (l:List ByteArray):Prop:=l.length≤1048576∧∀ x∈l,ok9 x
theorem sT102 {cs:List PV} (h:Sn Tryz.prog 1048576 102 cs):∃ x:List ByteArray,cs=[.sl 1 (mapE.m ByteArray eS x) false]∧ok102 x:=by
 obtain ⟨es,e,h1,h2⟩:=h.inv_slice Tryz.underlying102
 have hc:Tryz.prog.cellsOf 9=1:=by kernel_rfl
 rw [hc] at e
 obtain ⟨l,e2,h3,h4⟩:=rows_of fun r hr=>sT9 (h1 r hr)
 exact ⟨l,by rw [e,e2]; rfl,by omega,h3⟩
def ok104 (x:GLine):Prop:=ok3 x.super∧ok3 x.types∧ok102 x.subs
theorem sT104 {cs:List PV} (h:Sn Tryz.prog 1048576 104 cs):∃ x:GLine,cs=(eGLine mapE) x∧ok104 x:=by
 have h:=h.inv_struct Tryz.underlying104
 obtain ⟨a0,b0,rfl,k0,h⟩:=h.inv_cons
 obtain ⟨a1,b1,rfl,k1,h⟩:=h.inv_cons
 obtain ⟨a2,b2,rfl,k2,h⟩:=h.inv_cons
 obtain rfl:=h.inv_nil
 obtain ⟨n0,rfl,w0⟩:=sT3 k0
 obtain ⟨n1,rfl,w1⟩:=sT3 k1
 obtain ⟨n2,rfl,w2⟩:=sT102 k2
 exact ⟨⟨n0,n1,n2⟩,rfl,w0,w1,w2⟩
def ok124 (x:GBound):Prop:=ok3 x.kind∧ok3 x.n
theorem sT124 {cs:List PV} (h:Sn Tryz.prog 1048576 124 cs):∃ x:GBound,cs=(eGBound mapE) x∧ok124 x:=by
 have h:=h.inv_struct Tryz.underlying124
 obtain ⟨a0,b0,rfl,k0,h⟩:=h.inv_cons
 obtain ⟨a1,b1,rfl,k1,h⟩:=h.inv_cons
 obtain rfl:=h.inv_nil
 obtain ⟨n0,rfl,w0⟩:=sT3 k0
 obtain ⟨n1,rfl,w1⟩:=sT3 k1
 exact ⟨⟨n0,n1⟩,rfl,w0,w1⟩
def ok126 (x:GFilter):Prop:=ok3 x.zone∧ok3 x.who∧ok3 x.self∧ok3 x.types∧ok3 x.notTypes∧ok3 x.colors∧ok3 x.notColors∧ok9 x.sub∧ok3 x.keys∧ok3 x.tap∧ok124 x.power∧ok124 x.tough∧ok124 x.value
theorem sT126 {cs:List PV} (h:Sn Tryz.prog 1048576 126 cs):∃ x:GFilter,cs=(eGFilter mapE) x∧ok126 x:=by
 have h:=h.inv_struct Tryz.underlying126
 obtain ⟨a0,b0,rfl,k0,h⟩:=h.inv_cons
 obtain ⟨a1,b1,rfl,k1,h⟩:=h.inv_cons
 obtain ⟨a2,b2,rfl,k2,h⟩:=h.inv_cons
 obtain ⟨a3,b3,rfl,k3,h⟩:=h.inv_cons
 obtain ⟨a4,b4,rfl,k4,h⟩:=h.inv_cons
 obtain ⟨a5,b5,rfl,k5,h⟩:=h.inv_cons
 obtain ⟨a6,b6,rfl,k6,h⟩:=h.inv_cons
 obtain ⟨a7,b7,rfl,k7,h⟩:=h.inv_cons
 obtain ⟨a8,b8,rfl,k8,h⟩:=h.inv_cons
 obtain ⟨a9,b9,rfl,k9,h⟩:=h.inv_cons
 obtain ⟨a10,b10,rfl,k10,h⟩:=h.inv_cons
 obtain ⟨a11,b11,rfl,k11,h⟩:=h.inv_cons
 obtain ⟨a12,b12,rfl,k12,h⟩:=h.inv_cons
 obtain rfl:=h.inv_nil
 obtain ⟨n0,rfl,w0⟩:=sT3 k0
 obtain ⟨n1,rfl,w1⟩:=sT3 k1
 obtain ⟨n2,rfl,w2⟩:=sT3 k2
 obtain ⟨n3,rfl,w3⟩:=sT3 k3
 obtain ⟨n4,rfl,w4⟩:=sT3 k4
 obtain ⟨n5,rfl,w5⟩:=sT3 k5
 obtain ⟨n6,rfl,w6⟩:=sT3 k6
 obtain ⟨n7,rfl,w7⟩:=sT9 k7
 obtain ⟨n8,rfl,w8⟩:=sT3 k8
 obtain ⟨n9,rfl,w9⟩:=sT3 k9
 obtain ⟨n10,rfl,w10⟩:=sT124 k10
 obtain ⟨n11,rfl,w11⟩:=sT124 k11
 obtain ⟨n12,rfl,w12⟩:=sT124 k12
 exact ⟨⟨n0,n1,n2,n3,n4,n5,n6,n7,n8,n9,n10,n11,n12⟩,rfl,w0,w1,w2,w3,w4,w5,w6,w7,w8,w9,w10,w11,w12⟩
def ok159 (x:GMod):Prop:=ok3 x.kind∧ok3 x.n∧ok3 x.m∧ok9 x.sub∧ok126 x.filter
theorem sT159 {cs:List PV} (h:Sn Tryz.prog 1048576 159 cs):∃ x:GMod,cs=(eGMod mapE) x∧ok159 x:=by
 have h:=h.inv_struct Tryz.underlying159
 obtain ⟨a0,b0,rfl,k0,h⟩:=h.inv_cons
 obtain ⟨a1,b1,rfl,k1,h⟩:=h.inv_cons
 obtain ⟨a2,b2,rfl,k2,h⟩:=h.inv_cons
 obtain ⟨a3,b3,rfl,k3,h⟩:=h.inv_cons
 obtain ⟨a4,b4,rfl,k4,h⟩:=h.inv_cons
 obtain rfl:=h.inv_nil
 obtain ⟨n0,rfl,w0⟩:=sT3 k0
 obtain ⟨n1,rfl,w1⟩:=sT3 k1
 obtain ⟨n2,rfl,w2⟩:=sT3 k2
 obtain ⟨n3,rfl,w3⟩:=sT9 k3
 obtain ⟨n4,rfl,w4⟩:=sT126 k4
 exact ⟨⟨n0,n1,n2,n3,n4⟩,rfl,w0,w1,w2,w3,w4⟩
def ok127 (l:List GMod):Prop:=l.length≤1048576∧∀ x∈l,ok159 x
theorem sT127 {cs:List PV} (h:Sn Tryz.prog 1048576 127 cs):∃ x:List GMod,cs=[.sl 20 (mapE.m GMod (eGMod mapE) x) false]∧ok127 x:=by
 obtain ⟨es,e,h1,h2⟩:=h.inv_slice Tryz.underlying127
 have hc:Tryz.prog.cellsOf 159=20:=by kernel_rfl
 rw [hc] at e
 obtain ⟨l,e2,h3,h4⟩:=rows_of fun r hr=>sT159 (h1 r hr)
 exact ⟨l,by rw [e,e2]; rfl,by omega,h3⟩
def ok40 (x:GPrice):Prop:=ok38 x.mana∧ok4 x.tap∧ok4 x.sacrifice∧ok3 x.life
theorem sT40 {cs:List PV} (h:Sn Tryz.prog 1048576 40 cs):∃ x:GPrice,cs=(eGPrice mapE) x∧ok40 x:=by
 have h:=h.inv_struct Tryz.underlying40
 obtain ⟨a0,b0,rfl,k0,h⟩:=h.inv_cons
 obtain ⟨a1,b1,rfl,k1,h⟩:=h.inv_cons
 obtain ⟨a2,b2,rfl,k2,h⟩:=h.inv_cons
 obtain ⟨a3,b3,rfl,k3,h⟩:=h.inv_cons
 obtain rfl:=h.inv_nil
 obtain ⟨n0,rfl,w0⟩:=sT38 k0
 obtain ⟨n1,rfl,w1⟩:=sT4 k1
 obtain ⟨n2,rfl,w2⟩:=sT4 k2
 obtain ⟨n3,rfl,w3⟩:=sT3 k3
 exact ⟨⟨n0,n1,n2,n3⟩,rfl,w0,w1,w2,w3⟩
def ok129 (x:GTrigger):Prop:=ok3 x.when∧ok3 x.who∧ok126 x.filter
theorem sT129 {cs:List PV} (h:Sn Tryz.prog 1048576 129 cs):∃ x:GTrigger,cs=(eGTrigger mapE) x∧ok129 x:=by
 have h:=h.inv_struct Tryz.underlying129
 obtain ⟨a0,b0,rfl,k0,h⟩:=h.inv_cons
 obtain ⟨a1,b1,rfl,k1,h⟩:=h.inv_cons
 obtain ⟨a2,b2,rfl,k2,h⟩:=h.inv_cons
 obtain rfl:=h.inv_nil
 obtain ⟨n0,rfl,w0⟩:=sT3 k0
 obtain ⟨n1,rfl,w1⟩:=sT3 k1
 obtain ⟨n2,rfl,w2⟩:=sT126 k2
 exact ⟨⟨n0,n1,n2⟩,rfl,w0,w1,w2⟩
def ok199 (x:GSpec):Prop:=ok4 x.player∧ok4 x.object∧ok126 x.filter
theorem sT199 {cs:List PV} (h:Sn Tryz.prog 1048576 199 cs):∃ x:GSpec,cs=(eGSpec mapE) x∧ok199 x:=by
 have h:=h.inv_struct Tryz.underlying199
 obtain ⟨a0,b0,rfl,k0,h⟩:=h.inv_cons
 obtain ⟨a1,b1,rfl,k1,h⟩:=h.inv_cons
 obtain ⟨a2,b2,rfl,k2,h⟩:=h.inv_cons
 obtain rfl:=h.inv_nil
 obtain ⟨n0,rfl,w0⟩:=sT4 k0
 obtain ⟨n1,rfl,w1⟩:=sT4 k1
 obtain ⟨n2,rfl,w2⟩:=sT126 k2
 exact ⟨⟨n0,n1,n2⟩,rfl,w0,w1,w2⟩
def ok130 (l:List GSpec):Prop:=l.length≤1048576∧∀ x∈l,ok199 x
theorem sT130 {cs:List PV} (h:Sn Tryz.prog 1048576 130 cs):∃ x:List GSpec,cs=[.sl 18 (mapE.m GSpec (eGSpec mapE) x) false]∧ok130 x:=by
 obtain ⟨es,e,h1,h2⟩:=h.inv_slice Tryz.underlying130
 have hc:Tryz.prog.cellsOf 199=18:=by kernel_rfl
 rw [hc] at e
 obtain ⟨l,e2,h3,h4⟩:=rows_of fun r hr=>sT199 (h1 r hr)
 exact ⟨l,by rw [e,e2]; rfl,by omega,h3⟩
def ok183 (x:GRef):Prop:=ok3 x.kind∧ok3 x.n∧ok126 x.filter
theorem sT183 {cs:List PV} (h:Sn Tryz.prog 1048576 183 cs):∃ x:GRef,cs=(eGRef mapE) x∧ok183 x:=by
 have h:=h.inv_struct Tryz.underlying183
 obtain ⟨a0,b0,rfl,k0,h⟩:=h.inv_cons
 obtain ⟨a1,b1,rfl,k1,h⟩:=h.inv_cons
 obtain ⟨a2,b2,rfl,k2,h⟩:=h.inv_cons
 obtain rfl:=h.inv_nil
 obtain ⟨n0,rfl,w0⟩:=sT3 k0
 obtain ⟨n1,rfl,w1⟩:=sT3 k1
 obtain ⟨n2,rfl,w2⟩:=sT126 k2
 exact ⟨⟨n0,n1,n2⟩,rfl,w0,w1,w2⟩
def ok185 (x:GAmount):Prop:=ok3 x.kind∧ok3 x.n∧ok3 x.counter∧ok126 x.filter
theorem sT185 {cs:List PV} (h:Sn Tryz.prog 1048576 185 cs):∃ x:GAmount,cs=(eGAmount mapE) x∧ok185 x:=by
 have h:=h.inv_struct Tryz.underlying185
 obtain ⟨a0,b0,rfl,k0,h⟩:=h.inv_cons
 obtain ⟨a1,b1,rfl,k1,h⟩:=h.inv_cons
 obtain ⟨a2,b2,rfl,k2,h⟩:=h.inv_cons
 obtain ⟨a3,b3,rfl,k3,h⟩:=h.inv_cons
 obtain rfl:=h.inv_nil
 obtain ⟨n0,rfl,w0⟩:=sT3 k0
 obtain ⟨n1,rfl,w1⟩:=sT3 k1
 obtain ⟨n2,rfl,w2⟩:=sT3 k2
 obtain ⟨n3,rfl,w3⟩:=sT126 k3
 exact ⟨⟨n0,n1,n2,n3⟩,rfl,w0,w1,w2,w3⟩
def ok59 (x:Arr6 Int):Prop:=ok3 x.a0∧ok3 x.a1∧ok3 x.a2∧ok3 x.a3∧ok3 x.a4∧ok3 x.a5
theorem sT59 {cs:List PV} (h:Sn Tryz.prog 1048576 59 cs):∃ x:Arr6 Int,cs=(eArr6 (eI .i64)) x∧ok59 x:=by
 have h:=h.inv_arr Tryz.underlying59
 obtain ⟨a0,b0,rfl,k0,h⟩:=h.inv_cons
 obtain ⟨a1,b1,rfl,k1,h⟩:=h.inv_cons
 obtain ⟨a2,b2,rfl,k2,h⟩:=h.inv_cons
 obtain ⟨a3,b3,rfl,k3,h⟩:=h.inv_cons
 obtain ⟨a4,b4,rfl,k4,h⟩:=h.inv_cons
 obtain ⟨a5,b5,rfl,k5,h⟩:=h.inv_cons
 obtain rfl:=h.inv_nil
 obtain ⟨n0,rfl,w0⟩:=sT3 k0
 obtain ⟨n1,rfl,w1⟩:=sT3 k1
 obtain ⟨n2,rfl,w2⟩:=sT3 k2
 obtain ⟨n3,rfl,w3⟩:=sT3 k3
 obtain ⟨n4,rfl,w4⟩:=sT3 k4
 obtain ⟨n5,rfl,w5⟩:=sT3 k5
 exact ⟨⟨n0,n1,n2,n3,n4,n5⟩,rfl,w0,w1,w2,w3,w4,w5⟩
def ok187 (x:GEffect):Prop:=ok3 x.op∧ok183 x.ref∧ok185 x.amount∧ok3 x.counter∧ok3 x.zone∧ok9 x.card∧ok126 x.filter∧ok59 x.pool∧ok127 x.mods
theorem sT187 {cs:List PV} (h:Sn Tryz.prog 1048576 187 cs):∃ x:GEffect,cs=(eGEffect mapE) x∧ok187 x:=by
 have h:=h.inv_struct Tryz.underlying187
 obtain ⟨a0,b0,rfl,k0,h⟩:=h.inv_cons
 obtain ⟨a1,b1,rfl,k1,h⟩:=h.inv_cons
 obtain ⟨a2,b2,rfl,k2,h⟩:=h.inv_cons
 obtain ⟨a3,b3,rfl,k3,h⟩:=h.inv_cons
 obtain ⟨a4,b4,rfl,k4,h⟩:=h.inv_cons
 obtain ⟨a5,b5,rfl,k5,h⟩:=h.inv_cons
 obtain ⟨a6,b6,rfl,k6,h⟩:=h.inv_cons
 obtain ⟨a7,b7,rfl,k7,h⟩:=h.inv_cons
 obtain ⟨a8,b8,rfl,k8,h⟩:=h.inv_cons
 obtain rfl:=h.inv_nil
 obtain ⟨n0,rfl,w0⟩:=sT3 k0
 obtain ⟨n1,rfl,w1⟩:=sT183 k1
 obtain ⟨n2,rfl,w2⟩:=sT185 k2
 obtain ⟨n3,rfl,w3⟩:=sT3 k3
 obtain ⟨n4,rfl,w4⟩:=sT3 k4
 obtain ⟨n5,rfl,w5⟩:=sT9 k5
 obtain ⟨n6,rfl,w6⟩:=sT126 k6
 obtain ⟨n7,rfl,w7⟩:=sT59 k7
 obtain ⟨n8,rfl,w8⟩:=sT127 k8
 exact ⟨⟨n0,n1,n2,n3,n4,n5,n6,n7,n8⟩,rfl,w0,w1,w2,w3,w4,w5,w6,w7,w8⟩
def ok131 (l:List GEffect):Prop:=l.length≤1048576∧∀ x∈l,ok187 x
theorem sT131 {cs:List PV} (h:Sn Tryz.prog 1048576 131 cs):∃ x:List GEffect,cs=[.sl 64 (mapE.m GEffect (eGEffect mapE) x) false]∧ok131 x:=by
 obtain ⟨es,e,h1,h2⟩:=h.inv_slice Tryz.underlying131
 have hc:Tryz.prog.cellsOf 187=64:=by kernel_rfl
 rw [hc] at e
 obtain ⟨l,e2,h3,h4⟩:=rows_of fun r hr=>sT187 (h1 r hr)
 exact ⟨l,by rw [e,e2]; rfl,by omega,h3⟩
def ok133 (x:GReplace):Prop:=ok3 x.on∧ok3 x.who∧ok126 x.filter∧ok3 x.doF∧ok3 x.n∧ok3 x.zone∧ok3 x.counter
theorem sT133 {cs:List PV} (h:Sn Tryz.prog 1048576 133 cs):∃ x:GReplace,cs=(eGReplace mapE) x∧ok133 x:=by
 have h:=h.inv_struct Tryz.underlying133
 obtain ⟨a0,b0,rfl,k0,h⟩:=h.inv_cons
 obtain ⟨a1,b1,rfl,k1,h⟩:=h.inv_cons
 obtain ⟨a2,b2,rfl,k2,h⟩:=h.inv_cons
 obtain ⟨a3,b3,rfl,k3,h⟩:=h.inv_cons
 obtain ⟨a4,b4,rfl,k4,h⟩:=h.inv_cons
 obtain ⟨a5,b5,rfl,k5,h⟩:=h.inv_cons
 obtain ⟨a6,b6,rfl,k6,h⟩:=h.inv_cons
 obtain rfl:=h.inv_nil
 obtain ⟨n0,rfl,w0⟩:=sT3 k0
 obtain ⟨n1,rfl,w1⟩:=sT3 k1
 obtain ⟨n2,rfl,w2⟩:=sT126 k2
 obtain ⟨n3,rfl,w3⟩:=sT3 k3
 obtain ⟨n4,rfl,w4⟩:=sT3 k4
 obtain ⟨n5,rfl,w5⟩:=sT3 k5
 obtain ⟨n6,rfl,w6⟩:=sT3 k6
 exact ⟨⟨n0,n1,n2,n3,n4,n5,n6⟩,rfl,w0,w1,w2,w3,w4,w5,w6⟩
def ok135 (x:GAbility):Prop:=ok3 x.kind∧ok126 x.filter∧ok127 x.mods∧ok40 x.price∧ok4 x.slow∧ok129 x.trigger∧ok4 x.may∧ok130 x.specs∧ok131 x.effects∧ok133 x.replace
theorem sT135 {cs:List PV} (h:Sn Tryz.prog 1048576 135 cs):∃ x:GAbility,cs=(eGAbility mapE) x∧ok135 x:=by
 have h:=h.inv_struct Tryz.underlying135
 obtain ⟨a0,b0,rfl,k0,h⟩:=h.inv_cons
 obtain ⟨a1,b1,rfl,k1,h⟩:=h.inv_cons
 obtain ⟨a2,b2,rfl,k2,h⟩:=h.inv_cons
 obtain ⟨a3,b3,rfl,k3,h⟩:=h.inv_cons
 obtain ⟨a4,b4,rfl,k4,h⟩:=h.inv_cons
 obtain ⟨a5,b5,rfl,k5,h⟩:=h.inv_cons
 obtain ⟨a6,b6,rfl,k6,h⟩:=h.inv_cons
 obtain ⟨a7,b7,rfl,k7,h⟩:=h.inv_cons
 obtain ⟨a8,b8,rfl,k8,h⟩:=h.inv_cons
 obtain ⟨a9,b9,rfl,k9,h⟩:=h.inv_cons
 obtain rfl:=h.inv_nil
 obtain ⟨n0,rfl,w0⟩:=sT3 k0
 obtain ⟨n1,rfl,w1⟩:=sT126 k1
 obtain ⟨n2,rfl,w2⟩:=sT127 k2
 obtain ⟨n3,rfl,w3⟩:=sT40 k3
 obtain ⟨n4,rfl,w4⟩:=sT4 k4
 obtain ⟨n5,rfl,w5⟩:=sT129 k5
 obtain ⟨n6,rfl,w6⟩:=sT4 k6
 obtain ⟨n7,rfl,w7⟩:=sT130 k7
 obtain ⟨n8,rfl,w8⟩:=sT131 k8
 obtain ⟨n9,rfl,w9⟩:=sT133 k9
 exact ⟨⟨n0,n1,n2,n3,n4,n5,n6,n7,n8,n9⟩,rfl,w0,w1,w2,w3,w4,w5,w6,w7,w8,w9⟩
def ok105 (l:List GAbility):Prop:=l.length≤1048576∧∀ x∈l,ok135 x
theorem sT105 {cs:List PV} (h:Sn Tryz.prog 1048576 105 cs):∃ x:List GAbility,cs=[.sl 72 (mapE.m GAbility (eGAbility mapE) x) false]∧ok105 x:=by
 obtain ⟨es,e,h1,h2⟩:=h.inv_slice Tryz.underlying105
 have hc:Tryz.prog.cellsOf 135=72:=by kernel_rfl
 rw [hc] at e
 obtain ⟨l,e2,h3,h4⟩:=rows_of fun r hr=>sT135 (h1 r hr)
 exact ⟨l,by rw [e,e2]; rfl,by omega,h3⟩
def ok115 (x:GCard):Prop:=ok9 x.name∧ok4 x.token∧ok38 x.cost∧ok3 x.color∧ok104 x.line∧ok3 x.power∧ok3 x.tough∧ok3 x.keys∧ok105 x.abilities
theorem sT115 {cs:List PV} (h:Sn Tryz.prog 1048576 115 cs):∃ x:GCard,cs=(eGCard mapE) x∧ok115 x:=by
 have h:=h.inv_struct Tryz.underlying115
 obtain ⟨a0,b0,rfl,k0,h⟩:=h.inv_cons
 obtain ⟨a1,b1,rfl,k1,h⟩:=h.inv_cons
 obtain ⟨a2,b2,rfl,k2,h⟩:=h.inv_cons
 obtain ⟨a3,b3,rfl,k3,h⟩:=h.inv_cons
 obtain ⟨a4,b4,rfl,k4,h⟩:=h.inv_cons
 obtain ⟨a5,b5,rfl,k5,h⟩:=h.inv_cons
 obtain ⟨a6,b6,rfl,k6,h⟩:=h.inv_cons
 obtain ⟨a7,b7,rfl,k7,h⟩:=h.inv_cons
 obtain ⟨a8,b8,rfl,k8,h⟩:=h.inv_cons
 obtain rfl:=h.inv_nil
 obtain ⟨n0,rfl,w0⟩:=sT9 k0
 obtain ⟨n1,rfl,w1⟩:=sT4 k1
 obtain ⟨n2,rfl,w2⟩:=sT38 k2
 obtain ⟨n3,rfl,w3⟩:=sT3 k3
 obtain ⟨n4,rfl,w4⟩:=sT104 k4
 obtain ⟨n5,rfl,w5⟩:=sT3 k5
 obtain ⟨n6,rfl,w6⟩:=sT3 k6
 obtain ⟨n7,rfl,w7⟩:=sT3 k7
 obtain ⟨n8,rfl,w8⟩:=sT105 k8
 exact ⟨⟨n0,n1,n2,n3,n4,n5,n6,n7,n8⟩,rfl,w0,w1,w2,w3,w4,w5,w6,w7,w8⟩
def ok22 (l:List GCard):Prop:=l.length≤1048576∧∀ x∈l,ok115 x
theorem sT22 {cs:List PV} (h:Sn Tryz.prog 1048576 22 cs):∃ x:List GCard,cs=[.sl 17 (mapE.m GCard (eGCard mapE) x) false]∧ok22 x:=by
 obtain ⟨es,e,h1,h2⟩:=h.inv_slice Tryz.underlying22
 have hc:Tryz.prog.cellsOf 115=17:=by kernel_rfl
 rw [hc] at e
 obtain ⟨l,e2,h3,h4⟩:=rows_of fun r hr=>sT115 (h1 r hr)
 exact ⟨l,by rw [e,e2]; rfl,by omega,h3⟩
def ok25 (l:List Int):Prop:=l.length≤1048576∧∀ x∈l,ok3 x
theorem sT25 {cs:List PV} (h:Sn Tryz.prog 1048576 25 cs):∃ x:List Int,cs=[.sl 1 (mapE.m Int (eI .i64) x) false]∧ok25 x:=by
 obtain ⟨es,e,h1,h2⟩:=h.inv_slice Tryz.underlying25
 have hc:Tryz.prog.cellsOf 3=1:=by kernel_rfl
 rw [hc] at e
 obtain ⟨l,e2,h3,h4⟩:=rows_of fun r hr=>sT3 (h1 r hr)
 exact ⟨l,by rw [e,e2]; rfl,by omega,h3⟩
def ok61 (x:GPlayer):Prop:=ok3 x.life∧ok3 x.venom∧ok3 x.lands∧ok59 x.pool∧ok4 x.failed∧ok4 x.lost∧ok25 x.library∧ok25 x.hand∧ok25 x.graveyard
theorem sT61 {cs:List PV} (h:Sn Tryz.prog 1048576 61 cs):∃ x:GPlayer,cs=(eGPlayer mapE) x∧ok61 x:=by
 have h:=h.inv_struct Tryz.underlying61
 obtain ⟨a0,b0,rfl,k0,h⟩:=h.inv_cons
 obtain ⟨a1,b1,rfl,k1,h⟩:=h.inv_cons
 obtain ⟨a2,b2,rfl,k2,h⟩:=h.inv_cons
 obtain ⟨a3,b3,rfl,k3,h⟩:=h.inv_cons
 obtain ⟨a4,b4,rfl,k4,h⟩:=h.inv_cons
 obtain ⟨a5,b5,rfl,k5,h⟩:=h.inv_cons
 obtain ⟨a6,b6,rfl,k6,h⟩:=h.inv_cons
 obtain ⟨a7,b7,rfl,k7,h⟩:=h.inv_cons
 obtain ⟨a8,b8,rfl,k8,h⟩:=h.inv_cons
 obtain rfl:=h.inv_nil
 obtain ⟨n0,rfl,w0⟩:=sT3 k0
 obtain ⟨n1,rfl,w1⟩:=sT3 k1
 obtain ⟨n2,rfl,w2⟩:=sT3 k2
 obtain ⟨n3,rfl,w3⟩:=sT59 k3
 obtain ⟨n4,rfl,w4⟩:=sT4 k4
 obtain ⟨n5,rfl,w5⟩:=sT4 k5
 obtain ⟨n6,rfl,w6⟩:=sT25 k6
 obtain ⟨n7,rfl,w7⟩:=sT25 k7
 obtain ⟨n8,rfl,w8⟩:=sT25 k8
 exact ⟨⟨n0,n1,n2,n3,n4,n5,n6,n7,n8⟩,rfl,w0,w1,w2,w3,w4,w5,w6,w7,w8⟩
def ok23 (l:List GPlayer):Prop:=l.length≤1048576∧∀ x∈l,ok61 x
theorem sT23 {cs:List PV} (h:Sn Tryz.prog 1048576 23 cs):∃ x:List GPlayer,cs=[.sl 14 (mapE.m GPlayer (eGPlayer mapE) x) false]∧ok23 x:=by
 obtain ⟨es,e,h1,h2⟩:=h.inv_slice Tryz.underlying23
 have hc:Tryz.prog.cellsOf 61=14:=by kernel_rfl
 rw [hc] at e
 obtain ⟨l,e2,h3,h4⟩:=rows_of fun r hr=>sT61 (h1 r hr)
 exact ⟨l,by rw [e,e2]; rfl,by omega,h3⟩
def ok98 (x:Arr3 Int):Prop:=ok3 x.a0∧ok3 x.a1∧ok3 x.a2
theorem sT98 {cs:List PV} (h:Sn Tryz.prog 1048576 98 cs):∃ x:Arr3 Int,cs=(eArr3 (eI .i64)) x∧ok98 x:=by
 have h:=h.inv_arr Tryz.underlying98
 obtain ⟨a0,b0,rfl,k0,h⟩:=h.inv_cons
 obtain ⟨a1,b1,rfl,k1,h⟩:=h.inv_cons
 obtain ⟨a2,b2,rfl,k2,h⟩:=h.inv_cons
 obtain rfl:=h.inv_nil
 obtain ⟨n0,rfl,w0⟩:=sT3 k0
 obtain ⟨n1,rfl,w1⟩:=sT3 k1
 obtain ⟨n2,rfl,w2⟩:=sT3 k2
 exact ⟨⟨n0,n1,n2⟩,rfl,w0,w1,w2⟩
def ok100 (x:GObject):Prop:=ok3 x.id∧ok3 x.card∧ok3 x.owner∧ok3 x.control∧ok3 x.zone∧ok4 x.token∧ok4 x.tapped∧ok4 x.sick∧ok4 x.deadly∧ok3 x.damage∧ok98 x.counters∧ok3 x.stamp∧ok3 x.copy∧ok3 x.attack∧ok4 x.blocked∧ok3 x.blocks∧ok3 x.shield
theorem sT100 {cs:List PV} (h:Sn Tryz.prog 1048576 100 cs):∃ x:GObject,cs=(eGObject mapE) x∧ok100 x:=by
 have h:=h.inv_struct Tryz.underlying100
 obtain ⟨a0,b0,rfl,k0,h⟩:=h.inv_cons
 obtain ⟨a1,b1,rfl,k1,h⟩:=h.inv_cons
 obtain ⟨a2,b2,rfl,k2,h⟩:=h.inv_cons
 obtain ⟨a3,b3,rfl,k3,h⟩:=h.inv_cons
 obtain ⟨a4,b4,rfl,k4,h⟩:=h.inv_cons
 obtain ⟨a5,b5,rfl,k5,h⟩:=h.inv_cons
 obtain ⟨a6,b6,rfl,k6,h⟩:=h.inv_cons
 obtain ⟨a7,b7,rfl,k7,h⟩:=h.inv_cons
 obtain ⟨a8,b8,rfl,k8,h⟩:=h.inv_cons
 obtain ⟨a9,b9,rfl,k9,h⟩:=h.inv_cons
 obtain ⟨a10,b10,rfl,k10,h⟩:=h.inv_cons
 obtain ⟨a11,b11,rfl,k11,h⟩:=h.inv_cons
 obtain ⟨a12,b12,rfl,k12,h⟩:=h.inv_cons
 obtain ⟨a13,b13,rfl,k13,h⟩:=h.inv_cons
 obtain ⟨a14,b14,rfl,k14,h⟩:=h.inv_cons
 obtain ⟨a15,b15,rfl,k15,h⟩:=h.inv_cons
 obtain ⟨a16,b16,rfl,k16,h⟩:=h.inv_cons
 obtain rfl:=h.inv_nil
 obtain ⟨n0,rfl,w0⟩:=sT3 k0
 obtain ⟨n1,rfl,w1⟩:=sT3 k1
 obtain ⟨n2,rfl,w2⟩:=sT3 k2
 obtain ⟨n3,rfl,w3⟩:=sT3 k3
 obtain ⟨n4,rfl,w4⟩:=sT3 k4
 obtain ⟨n5,rfl,w5⟩:=sT4 k5
 obtain ⟨n6,rfl,w6⟩:=sT4 k6
 obtain ⟨n7,rfl,w7⟩:=sT4 k7
 obtain ⟨n8,rfl,w8⟩:=sT4 k8
 obtain ⟨n9,rfl,w9⟩:=sT3 k9
 obtain ⟨n10,rfl,w10⟩:=sT98 k10
 obtain ⟨n11,rfl,w11⟩:=sT3 k11
 obtain ⟨n12,rfl,w12⟩:=sT3 k12
 obtain ⟨n13,rfl,w13⟩:=sT3 k13
 obtain ⟨n14,rfl,w14⟩:=sT4 k14
 obtain ⟨n15,rfl,w15⟩:=sT3 k15
 obtain ⟨n16,rfl,w16⟩:=sT3 k16
 exact ⟨⟨n0,n1,n2,n3,n4,n5,n6,n7,n8,n9,n10,n11,n12,n13,n14,n15,n16⟩,rfl,w0,w1,w2,w3,w4,w5,w6,w7,w8,w9,w10,w11,w12,w13,w14,w15,w16⟩
def ok24 (l:List GObject):Prop:=l.length≤1048576∧∀ x∈l,ok100 x
theorem sT24 {cs:List PV} (h:Sn Tryz.prog 1048576 24 cs):∃ x:List GObject,cs=[.sl 19 (mapE.m GObject (eGObject mapE) x) false]∧ok24 x:=by
 obtain ⟨es,e,h1,h2⟩:=h.inv_slice Tryz.underlying24
 have hc:Tryz.prog.cellsOf 100=19:=by kernel_rfl
 rw [hc] at e
 obtain ⟨l,e2,h3,h4⟩:=rows_of fun r hr=>sT100 (h1 r hr)
 exact ⟨l,by rw [e,e2]; rfl,by omega,h3⟩
def ok154 (x:GTarget):Prop:=ok3 x.object∧ok3 x.player
theorem sT154 {cs:List PV} (h:Sn Tryz.prog 1048576 154 cs):∃ x:GTarget,cs=(eGTarget mapE) x∧ok154 x:=by
 have h:=h.inv_struct Tryz.underlying154
 obtain ⟨a0,b0,rfl,k0,h⟩:=h.inv_cons
 obtain ⟨a1,b1,rfl,k1,h⟩:=h.inv_cons
 obtain rfl:=h.inv_nil
 obtain ⟨n0,rfl,w0⟩:=sT3 k0
 obtain ⟨n1,rfl,w1⟩:=sT3 k1
 exact ⟨⟨n0,n1⟩,rfl,w0,w1⟩
def ok136 (l:List GTarget):Prop:=l.length≤1048576∧∀ x∈l,ok154 x
theorem sT136 {cs:List PV} (h:Sn Tryz.prog 1048576 136 cs):∃ x:List GTarget,cs=[.sl 2 (mapE.m GTarget (eGTarget mapE) x) false]∧ok136 x:=by
 obtain ⟨es,e,h1,h2⟩:=h.inv_slice Tryz.underlying136
 have hc:Tryz.prog.cellsOf 154=2:=by kernel_rfl
 rw [hc] at e
 obtain ⟨l,e2,h3,h4⟩:=rows_of fun r hr=>sT154 (h1 r hr)
 exact ⟨l,by rw [e,e2]; rfl,by omega,h3⟩
def ok138 (x:GEvent):Prop:=ok3 x.kind∧ok3 x.source∧ok3 x.object∧ok3 x.player∧ok3 x.amount∧ok3 x.fromF∧ok3 x.to∧ok3 x.cause∧ok3 x.counter∧ok3 x.card∧ok4 x.combat∧ok4 x.tapped∧ok98 x.extra
theorem sT138 {cs:List PV} (h:Sn Tryz.prog 1048576 138 cs):∃ x:GEvent,cs=(eGEvent mapE) x∧ok138 x:=by
 have h:=h.inv_struct Tryz.underlying138
 obtain ⟨a0,b0,rfl,k0,h⟩:=h.inv_cons
 obtain ⟨a1,b1,rfl,k1,h⟩:=h.inv_cons
 obtain ⟨a2,b2,rfl,k2,h⟩:=h.inv_cons
 obtain ⟨a3,b3,rfl,k3,h⟩:=h.inv_cons
 obtain ⟨a4,b4,rfl,k4,h⟩:=h.inv_cons
 obtain ⟨a5,b5,rfl,k5,h⟩:=h.inv_cons
 obtain ⟨a6,b6,rfl,k6,h⟩:=h.inv_cons
 obtain ⟨a7,b7,rfl,k7,h⟩:=h.inv_cons
 obtain ⟨a8,b8,rfl,k8,h⟩:=h.inv_cons
 obtain ⟨a9,b9,rfl,k9,h⟩:=h.inv_cons
 obtain ⟨a10,b10,rfl,k10,h⟩:=h.inv_cons
 obtain ⟨a11,b11,rfl,k11,h⟩:=h.inv_cons
 obtain ⟨a12,b12,rfl,k12,h⟩:=h.inv_cons
 obtain rfl:=h.inv_nil
 obtain ⟨n0,rfl,w0⟩:=sT3 k0
 obtain ⟨n1,rfl,w1⟩:=sT3 k1
 obtain ⟨n2,rfl,w2⟩:=sT3 k2
 obtain ⟨n3,rfl,w3⟩:=sT3 k3
 obtain ⟨n4,rfl,w4⟩:=sT3 k4
 obtain ⟨n5,rfl,w5⟩:=sT3 k5
 obtain ⟨n6,rfl,w6⟩:=sT3 k6
 obtain ⟨n7,rfl,w7⟩:=sT3 k7
 obtain ⟨n8,rfl,w8⟩:=sT3 k8
 obtain ⟨n9,rfl,w9⟩:=sT3 k9
 obtain ⟨n10,rfl,w10⟩:=sT4 k10
 obtain ⟨n11,rfl,w11⟩:=sT4 k11
 obtain ⟨n12,rfl,w12⟩:=sT98 k12
 exact ⟨⟨n0,n1,n2,n3,n4,n5,n6,n7,n8,n9,n10,n11,n12⟩,rfl,w0,w1,w2,w3,w4,w5,w6,w7,w8,w9,w10,w11,w12⟩
def ok140 (x:GItem):Prop:=ok3 x.id∧ok3 x.kind∧ok3 x.source∧ok3 x.control∧ok3 x.x∧ok4 x.copy∧ok135 x.ability∧ok136 x.targets∧ok138 x.event
theorem sT140 {cs:List PV} (h:Sn Tryz.prog 1048576 140 cs):∃ x:GItem,cs=(eGItem mapE) x∧ok140 x:=by
 have h:=h.inv_struct Tryz.underlying140
 obtain ⟨a0,b0,rfl,k0,h⟩:=h.inv_cons
 obtain ⟨a1,b1,rfl,k1,h⟩:=h.inv_cons
 obtain ⟨a2,b2,rfl,k2,h⟩:=h.inv_cons
 obtain ⟨a3,b3,rfl,k3,h⟩:=h.inv_cons
 obtain ⟨a4,b4,rfl,k4,h⟩:=h.inv_cons
 obtain ⟨a5,b5,rfl,k5,h⟩:=h.inv_cons
 obtain ⟨a6,b6,rfl,k6,h⟩:=h.inv_cons
 obtain ⟨a7,b7,rfl,k7,h⟩:=h.inv_cons
 obtain ⟨a8,b8,rfl,k8,h⟩:=h.inv_cons
 obtain rfl:=h.inv_nil
 obtain ⟨n0,rfl,w0⟩:=sT3 k0
 obtain ⟨n1,rfl,w1⟩:=sT3 k1
 obtain ⟨n2,rfl,w2⟩:=sT3 k2
 obtain ⟨n3,rfl,w3⟩:=sT3 k3
 obtain ⟨n4,rfl,w4⟩:=sT3 k4
 obtain ⟨n5,rfl,w5⟩:=sT4 k5
 obtain ⟨n6,rfl,w6⟩:=sT135 k6
 obtain ⟨n7,rfl,w7⟩:=sT136 k7
 obtain ⟨n8,rfl,w8⟩:=sT138 k8
 exact ⟨⟨n0,n1,n2,n3,n4,n5,n6,n7,n8⟩,rfl,w0,w1,w2,w3,w4,w5,w6,w7,w8⟩
def ok26 (l:List GItem):Prop:=l.length≤1048576∧∀ x∈l,ok140 x
theorem sT26 {cs:List PV} (h:Sn Tryz.prog 1048576 26 cs):∃ x:List GItem,cs=[.sl 94 (mapE.m GItem (eGItem mapE) x) false]∧ok26 x:=by
 obtain ⟨es,e,h1,h2⟩:=h.inv_slice Tryz.underlying26
 have hc:Tryz.prog.cellsOf 140=94:=by kernel_rfl
 rw [hc] at e
 obtain ⟨l,e2,h3,h4⟩:=rows_of fun r hr=>sT140 (h1 r hr)
 exact ⟨l,by rw [e,e2]; rfl,by omega,h3⟩
def ok143 (x:GWaiting):Prop:=ok3 x.source∧ok3 x.control∧ok135 x.ability∧ok138 x.event
theorem sT143 {cs:List PV} (h:Sn Tryz.prog 1048576 143 cs):∃ x:GWaiting,cs=(eGWaiting mapE) x∧ok143 x:=by
 have h:=h.inv_struct Tryz.underlying143
 obtain ⟨a0,b0,rfl,k0,h⟩:=h.inv_cons
 obtain ⟨a1,b1,rfl,k1,h⟩:=h.inv_cons
 obtain ⟨a2,b2,rfl,k2,h⟩:=h.inv_cons
 obtain ⟨a3,b3,rfl,k3,h⟩:=h.inv_cons
 obtain rfl:=h.inv_nil
 obtain ⟨n0,rfl,w0⟩:=sT3 k0
 obtain ⟨n1,rfl,w1⟩:=sT3 k1
 obtain ⟨n2,rfl,w2⟩:=sT135 k2
 obtain ⟨n3,rfl,w3⟩:=sT138 k3
 exact ⟨⟨n0,n1,n2,n3⟩,rfl,w0,w1,w2,w3⟩
def ok27 (l:List GWaiting):Prop:=l.length≤1048576∧∀ x∈l,ok143 x
theorem sT27 {cs:List PV} (h:Sn Tryz.prog 1048576 27 cs):∃ x:List GWaiting,cs=[.sl 89 (mapE.m GWaiting (eGWaiting mapE) x) false]∧ok27 x:=by
 obtain ⟨es,e,h1,h2⟩:=h.inv_slice Tryz.underlying27
 have hc:Tryz.prog.cellsOf 143=89:=by kernel_rfl
 rw [hc] at e
 obtain ⟨l,e2,h3,h4⟩:=rows_of fun r hr=>sT143 (h1 r hr)
 exact ⟨l,by rw [e,e2]; rfl,by omega,h3⟩
def ok146 (x:GCont):Prop:=ok3 x.stamp∧ok3 x.control∧ok3 x.source∧ok3 x.untilF∧ok25 x.objects∧ok127 x.mods
theorem sT146 {cs:List PV} (h:Sn Tryz.prog 1048576 146 cs):∃ x:GCont,cs=(eGCont mapE) x∧ok146 x:=by
 have h:=h.inv_struct Tryz.underlying146
 obtain ⟨a0,b0,rfl,k0,h⟩:=h.inv_cons
 obtain ⟨a1,b1,rfl,k1,h⟩:=h.inv_cons
 obtain ⟨a2,b2,rfl,k2,h⟩:=h.inv_cons
 obtain ⟨a3,b3,rfl,k3,h⟩:=h.inv_cons
 obtain ⟨a4,b4,rfl,k4,h⟩:=h.inv_cons
 obtain ⟨a5,b5,rfl,k5,h⟩:=h.inv_cons
 obtain rfl:=h.inv_nil
 obtain ⟨n0,rfl,w0⟩:=sT3 k0
 obtain ⟨n1,rfl,w1⟩:=sT3 k1
 obtain ⟨n2,rfl,w2⟩:=sT3 k2
 obtain ⟨n3,rfl,w3⟩:=sT3 k3
 obtain ⟨n4,rfl,w4⟩:=sT25 k4
 obtain ⟨n5,rfl,w5⟩:=sT127 k5
 exact ⟨⟨n0,n1,n2,n3,n4,n5⟩,rfl,w0,w1,w2,w3,w4,w5⟩
def ok28 (l:List GCont):Prop:=l.length≤1048576∧∀ x∈l,ok146 x
theorem sT28 {cs:List PV} (h:Sn Tryz.prog 1048576 28 cs):∃ x:List GCont,cs=[.sl 6 (mapE.m GCont (eGCont mapE) x) false]∧ok28 x:=by
 obtain ⟨es,e,h1,h2⟩:=h.inv_slice Tryz.underlying28
 have hc:Tryz.prog.cellsOf 146=6:=by kernel_rfl
 rw [hc] at e
 obtain ⟨l,e2,h3,h4⟩:=rows_of fun r hr=>sT146 (h1 r hr)
 exact ⟨l,by rw [e,e2]; rfl,by omega,h3⟩
def ok29 (x:Int):Prop:=(Lit.int .u64 x).wf=true
theorem sT29 {cs:List PV} (h:Sn Tryz.prog 1048576 29 cs):∃ x:Int,cs=(eI .u64) x∧ok29 x:=by
 obtain ⟨n,e,hw⟩:=h.inv_int Tryz.underlying29
 exact ⟨n,e,hw⟩
def ok31 (x:GState):Prop:=ok23 x.players∧ok24 x.objects∧ok25 x.battlefield∧ok25 x.exile∧ok26 x.stack∧ok27 x.waiting∧ok28 x.conts∧ok3 x.turn∧ok3 x.active∧ok3 x.step∧ok4 x.begun∧ok3 x.priority∧ok3 x.passes∧ok3 x.nextId∧ok3 x.nextStamp∧ok29 x.seed∧ok25 x.extra∧ok3 x.over∧ok3 x.winner
theorem sT31 {cs:List PV} (h:Sn Tryz.prog 1048576 31 cs):∃ x:GState,cs=(eGState mapE) x∧ok31 x:=by
 have h:=h.inv_struct Tryz.underlying31
 obtain ⟨a0,b0,rfl,k0,h⟩:=h.inv_cons
 obtain ⟨a1,b1,rfl,k1,h⟩:=h.inv_cons
 obtain ⟨a2,b2,rfl,k2,h⟩:=h.inv_cons
 obtain ⟨a3,b3,rfl,k3,h⟩:=h.inv_cons
 obtain ⟨a4,b4,rfl,k4,h⟩:=h.inv_cons
 obtain ⟨a5,b5,rfl,k5,h⟩:=h.inv_cons
 obtain ⟨a6,b6,rfl,k6,h⟩:=h.inv_cons
 obtain ⟨a7,b7,rfl,k7,h⟩:=h.inv_cons
 obtain ⟨a8,b8,rfl,k8,h⟩:=h.inv_cons
 obtain ⟨a9,b9,rfl,k9,h⟩:=h.inv_cons
 obtain ⟨a10,b10,rfl,k10,h⟩:=h.inv_cons
 obtain ⟨a11,b11,rfl,k11,h⟩:=h.inv_cons
 obtain ⟨a12,b12,rfl,k12,h⟩:=h.inv_cons
 obtain ⟨a13,b13,rfl,k13,h⟩:=h.inv_cons
 obtain ⟨a14,b14,rfl,k14,h⟩:=h.inv_cons
 obtain ⟨a15,b15,rfl,k15,h⟩:=h.inv_cons
 obtain ⟨a16,b16,rfl,k16,h⟩:=h.inv_cons
 obtain ⟨a17,b17,rfl,k17,h⟩:=h.inv_cons
 obtain ⟨a18,b18,rfl,k18,h⟩:=h.inv_cons
 obtain rfl:=h.inv_nil
 obtain ⟨n0,rfl,w0⟩:=sT23 k0
 obtain ⟨n1,rfl,w1⟩:=sT24 k1
 obtain ⟨n2,rfl,w2⟩:=sT25 k2
 obtain ⟨n3,rfl,w3⟩:=sT25 k3
 obtain ⟨n4,rfl,w4⟩:=sT26 k4
 obtain ⟨n5,rfl,w5⟩:=sT27 k5
 obtain ⟨n6,rfl,w6⟩:=sT28 k6
 obtain ⟨n7,rfl,w7⟩:=sT3 k7
 obtain ⟨n8,rfl,w8⟩:=sT3 k8
 obtain ⟨n9,rfl,w9⟩:=sT3 k9
 obtain ⟨n10,rfl,w10⟩:=sT4 k10
 obtain ⟨n11,rfl,w11⟩:=sT3 k11
 obtain ⟨n12,rfl,w12⟩:=sT3 k12
 obtain ⟨n13,rfl,w13⟩:=sT3 k13
 obtain ⟨n14,rfl,w14⟩:=sT3 k14
 obtain ⟨n15,rfl,w15⟩:=sT29 k15
 obtain ⟨n16,rfl,w16⟩:=sT25 k16
 obtain ⟨n17,rfl,w17⟩:=sT3 k17
 obtain ⟨n18,rfl,w18⟩:=sT3 k18
 exact ⟨⟨n0,n1,n2,n3,n4,n5,n6,n7,n8,n9,n10,n11,n12,n13,n14,n15,n16,n17,n18⟩,rfl,w0,w1,w2,w3,w4,w5,w6,w7,w8,w9,w10,w11,w12,w13,w14,w15,w16,w17,w18⟩
def ok42 (x:GLaw39Use):Prop:=ok22 x.cards∧ok31 x.s∧ok3 x.p∧ok3 x.id∧ok40 x.price
theorem sT42 {cs:List PV} (h:Sn Tryz.prog 1048576 42 cs):∃ x:GLaw39Use,cs=(eGLaw39Use mapE) x∧ok42 x:=by
 have h:=h.inv_struct Tryz.underlying42
 obtain ⟨a0,b0,rfl,k0,h⟩:=h.inv_cons
 obtain ⟨a1,b1,rfl,k1,h⟩:=h.inv_cons
 obtain ⟨a2,b2,rfl,k2,h⟩:=h.inv_cons
 obtain ⟨a3,b3,rfl,k3,h⟩:=h.inv_cons
 obtain ⟨a4,b4,rfl,k4,h⟩:=h.inv_cons
 obtain rfl:=h.inv_nil
 obtain ⟨n0,rfl,w0⟩:=sT22 k0
 obtain ⟨n1,rfl,w1⟩:=sT31 k1
 obtain ⟨n2,rfl,w2⟩:=sT3 k2
 obtain ⟨n3,rfl,w3⟩:=sT3 k3
 obtain ⟨n4,rfl,w4⟩:=sT40 k4
 exact ⟨⟨n0,n1,n2,n3,n4⟩,rfl,w0,w1,w2,w3,w4⟩
def ok43 (l:List (List Int)):Prop:=l.length≤1048576∧∀ x∈l,ok25 x
theorem sT43 {cs:List PV} (h:Sn Tryz.prog 1048576 43 cs):∃ x:List (List Int),cs=[.sl 1 (mapE.m (List Int) (eL mapE 1 (eI .i64)) x) false]∧ok43 x:=by
 obtain ⟨es,e,h1,h2⟩:=h.inv_slice Tryz.underlying43
 have hc:Tryz.prog.cellsOf 25=1:=by kernel_rfl
 rw [hc] at e
 obtain ⟨l,e2,h3,h4⟩:=rows_of fun r hr=>sT25 (h1 r hr)
 exact ⟨l,by rw [e,e2]; rfl,by omega,h3⟩
theorem z9 {x:ByteArray} (h:ok9 x):szB x:=h
theorem z102 {x:List ByteArray} (h:ok102 x):(szL szB) x:=⟨h.1,fun y hy=>z9 (h.2 y hy)⟩
theorem z104 {x:GLine} (h:ok104 x):szGLine x:=z102 (h.2.2)
theorem z126 {x:GFilter} (h:ok126 x):szGFilter x:=z9 (h.2.2.2.2.2.2.2.1)
theorem z159 {x:GMod} (h:ok159 x):szGMod x:=⟨z9 (h.2.2.2.1),z126 (h.2.2.2.2)⟩
theorem z127 {x:List GMod} (h:ok127 x):(szL szGMod) x:=⟨h.1,fun y hy=>z159 (h.2 y hy)⟩
theorem z129 {x:GTrigger} (h:ok129 x):szGTrigger x:=z126 (h.2.2)
theorem z199 {x:GSpec} (h:ok199 x):szGSpec x:=z126 (h.2.2)
theorem z130 {x:List GSpec} (h:ok130 x):(szL szGSpec) x:=⟨h.1,fun y hy=>z199 (h.2 y hy)⟩
theorem z183 {x:GRef} (h:ok183 x):szGRef x:=z126 (h.2.2)
theorem z185 {x:GAmount} (h:ok185 x):szGAmount x:=z126 (h.2.2.2)
theorem z187 {x:GEffect} (h:ok187 x):szGEffect x:=⟨z183 (h.2.1),z185 (h.2.2.1),z9 (h.2.2.2.2.2.1),z126 (h.2.2.2.2.2.2.1),z127 (h.2.2.2.2.2.2.2.2)⟩
theorem z131 {x:List GEffect} (h:ok131 x):(szL szGEffect) x:=⟨h.1,fun y hy=>z187 (h.2 y hy)⟩
theorem z133 {x:GReplace} (h:ok133 x):szGReplace x:=z126 (h.2.2.1)
theorem z135 {x:GAbility} (h:ok135 x):szGAbility x:=⟨z126 (h.2.1),z127 (h.2.2.1),z129 (h.2.2.2.2.2.1),z130 (h.2.2.2.2.2.2.2.1),z131 (h.2.2.2.2.2.2.2.2.1),z133 (h.2.2.2.2.2.2.2.2.2)⟩
theorem z105 {x:List GAbility} (h:ok105 x):(szL szGAbility) x:=⟨h.1,fun y hy=>z135 (h.2 y hy)⟩
theorem z115 {x:GCard} (h:ok115 x):szGCard x:=⟨z9 (h.1),z104 (h.2.2.2.2.1),z105 (h.2.2.2.2.2.2.2.2)⟩
theorem z22 {x:List GCard} (h:ok22 x):(szL szGCard) x:=⟨h.1,fun y hy=>z115 (h.2 y hy)⟩
theorem z25 {x:List Int} (h:ok25 x):(szL (fun (_:Int)=>True)) x:=⟨h.1,fun y hy=>trivial⟩
theorem z61 {x:GPlayer} (h:ok61 x):szGPlayer x:=⟨z25 (h.2.2.2.2.2.2.1),z25 (h.2.2.2.2.2.2.2.1),z25 (h.2.2.2.2.2.2.2.2)⟩
theorem z23 {x:List GPlayer} (h:ok23 x):(szL szGPlayer) x:=⟨h.1,fun y hy=>z61 (h.2 y hy)⟩
theorem z24 {x:List GObject} (h:ok24 x):(szL (fun (_:GObject)=>True)) x:=⟨h.1,fun y hy=>trivial⟩
theorem z136 {x:List GTarget} (h:ok136 x):(szL (fun (_:GTarget)=>True)) x:=⟨h.1,fun y hy=>trivial⟩
theorem z140 {x:GItem} (h:ok140 x):szGItem x:=⟨z135 (h.2.2.2.2.2.2.1),z136 (h.2.2.2.2.2.2.2.1)⟩
theorem z26 {x:List GItem} (h:ok26 x):(szL szGItem) x:=⟨h.1,fun y hy=>z140 (h.2 y hy)⟩
theorem z143 {x:GWaiting} (h:ok143 x):szGWaiting x:=z135 (h.2.2.1)
theorem z27 {x:List GWaiting} (h:ok27 x):(szL szGWaiting) x:=⟨h.1,fun y hy=>z143 (h.2 y hy)⟩
theorem z146 {x:GCont} (h:ok146 x):szGCont x:=⟨z25 (h.2.2.2.2.1),z127 (h.2.2.2.2.2)⟩
theorem z28 {x:List GCont} (h:ok28 x):(szL szGCont) x:=⟨h.1,fun y hy=>z146 (h.2 y hy)⟩
theorem z31 {x:GState} (h:ok31 x):szGState x:=⟨z23 (h.1),z24 (h.2.1),z25 (h.2.2.1),z25 (h.2.2.2.1),z26 (h.2.2.2.2.1),z27 (h.2.2.2.2.2.1),z28 (h.2.2.2.2.2.2.1),z25 (h.2.2.2.2.2.2.2.2.2.2.2.2.2.2.2.2.1)⟩
theorem z42 {x:GLaw39Use} (h:ok42 x):szGLaw39Use x:=⟨z22 (h.1),z31 (h.2.1)⟩
theorem z43 {x:List (List Int)} (h:ok43 x):(szL (szL (fun (_:Int)=>True))) x:=⟨h.1,fun y hy=>z25 (h.2 y hy)⟩
theorem sV38 {p:PV} (h:SnV Tryz.prog 1048576 38 p):∃ x:GCost,p=.agg ((eGCost mapE) x)∧ok38 x:=by
 obtain ⟨cs,rfl,h2⟩:=h.inv_agg (by kernel_rfl)
 obtain ⟨x,rfl,hx⟩:=sT38 h2
 exact ⟨x,rfl,hx⟩
theorem sV42 {p:PV} (h:SnV Tryz.prog 1048576 42 p):∃ x:GLaw39Use,p=.agg ((eGLaw39Use mapE) x)∧ok42 x:=by
 obtain ⟨cs,rfl,h2⟩:=h.inv_agg (by kernel_rfl)
 obtain ⟨x,rfl,hx⟩:=sT42 h2
 exact ⟨x,rfl,hx⟩
theorem sV43 {p:PV} (h:SnV Tryz.prog 1048576 43 p):∃ x:List (List Int),p=.sl 1 (mapE.m (List Int) (eL mapE 1 (eI .i64)) x) false∧ok43 x:=by
 obtain ⟨x,e,hx⟩:=sT43 (h.inv_one (by kernel_rfl))
 cases e
 exact ⟨x,rfl,hx⟩
end Go.Proofs.YtddcpnlflncahaaGreat
