import Derived.Test.YthfepelpmalckaaGreatDoorD21
import Derived.Test.YthfepelpmalckaaGreatDoorD25
set_option linter.all false
namespace Go.Pv
theorem SnL.cs {P:Program} {N:Nat} {t:TypeId} {ts:List TypeId} {cs:List PV} (h:SnL P N (t::ts) cs) {α:Type} {e:α→List PV} {ok:α→Prop} (s:∀ {c:List PV},Sn P N t c→∃ x,c=e x∧ok x):∃ x b,cs=e x ++ b∧ok x∧SnL P N ts b:=by
 obtain ⟨a,b,rfl,k,g⟩:=h.inv_cons
 obtain ⟨x,rfl,w⟩:=s k
 exact ⟨x,b,rfl,w,g⟩
end Go.Pv
namespace Go.Proofs.YthfepelpmalckaaGreatDoor
open Go Go.Pv
def ok9 (s:ByteArray):Prop:=s.size≤1048576
theorem sT9 {cs:List PV} (h:Sn Tryz.prog 1048576 9 cs):∃ x:ByteArray,cs=eS x∧ok9 x:=by
 obtain ⟨n,e,hw⟩:=h.inv_str Tryz.underlying9
 exact ⟨n,e,hw⟩
def ok4 (_:Bool):Prop:=True
theorem sT4 {cs:List PV} (h:Sn Tryz.prog 1048576 4 cs):∃ x:Bool,cs=eB x∧ok4 x:=by
 obtain ⟨n,e⟩:=h.inv_bool Tryz.underlying4
 exact ⟨n,e,trivial⟩
def ok3 (x:Int):Prop:=(Lit.int .i64 x).wf=true
theorem sT3 {cs:List PV} (h:Sn Tryz.prog 1048576 3 cs):∃ x:Int,cs=(eI .i64) x∧ok3 x:=by
 obtain ⟨n,e,hw⟩:=h.inv_int Tryz.underlying3
 exact ⟨n,e,hw⟩
def ok57 (x:Arr5 Int):Prop:=ok3 x.a0∧ok3 x.a1∧ok3 x.a2∧ok3 x.a3∧ok3 x.a4
theorem sT57 {cs:List PV} (h:Sn Tryz.prog 1048576 57 cs):∃ x:Arr5 Int,cs=(eArr5 (eI .i64)) x∧ok57 x:=by
 have h:=h.inv_arr Tryz.underlying57
 obtain ⟨n0,b0,rfl,w0,h⟩:=h.cs sT3
 obtain ⟨n1,b1,rfl,w1,h⟩:=h.cs sT3
 obtain ⟨n2,b2,rfl,w2,h⟩:=h.cs sT3
 obtain ⟨n3,b3,rfl,w3,h⟩:=h.cs sT3
 obtain ⟨n4,b4,rfl,w4,h⟩:=h.cs sT3
 obtain rfl:=h.inv_nil
 exact ⟨⟨n0,n1,n2,n3,n4⟩,rfl,w0,w1,w2,w3,w4⟩
def ok59 (x:GCost):Prop:=ok3 x.generic∧ok3 x.x∧ok57 x.color
theorem sT59 {cs:List PV} (h:Sn Tryz.prog 1048576 59 cs):∃ x:GCost,cs=(eGCost mapE) x∧ok59 x:=by
 have h:=h.inv_struct Tryz.underlying59
 obtain ⟨n0,b0,rfl,w0,h⟩:=h.cs sT3
 obtain ⟨n1,b1,rfl,w1,h⟩:=h.cs sT3
 obtain ⟨n2,b2,rfl,w2,h⟩:=h.cs sT57
 obtain rfl:=h.inv_nil
 exact ⟨⟨n0,n1,n2⟩,rfl,w0,w1,w2⟩
def ok54 (l:List ByteArray):Prop:=l.length≤1048576∧∀ x∈l,ok9 x
theorem sT54 {cs:List PV} (h:Sn Tryz.prog 1048576 54 cs):∃ x:List ByteArray,cs=[.sl 1 (mapE.m ByteArray eS x) false]∧ok54 x:=by
 obtain ⟨es,e,h1,h2⟩:=h.inv_slice Tryz.underlying54
 have hc:Tryz.prog.cellsOf 9=1:=by kernel_rfl
 rw [hc] at e
 obtain ⟨l,e2,h3,h4⟩:=rows_of fun r hr=>sT9 (h1 r hr)
 exact ⟨l,by rw [e,e2]; rfl,by omega,h3⟩
def ok56 (x:GLine):Prop:=ok3 x.super∧ok3 x.types∧ok54 x.subs
theorem sT56 {cs:List PV} (h:Sn Tryz.prog 1048576 56 cs):∃ x:GLine,cs=(eGLine mapE) x∧ok56 x:=by
 have h:=h.inv_struct Tryz.underlying56
 obtain ⟨n0,b0,rfl,w0,h⟩:=h.cs sT3
 obtain ⟨n1,b1,rfl,w1,h⟩:=h.cs sT3
 obtain ⟨n2,b2,rfl,w2,h⟩:=h.cs sT54
 obtain rfl:=h.inv_nil
 exact ⟨⟨n0,n1,n2⟩,rfl,w0,w1,w2⟩
def ok67 (x:GBound):Prop:=ok3 x.kind∧ok3 x.n
theorem sT67 {cs:List PV} (h:Sn Tryz.prog 1048576 67 cs):∃ x:GBound,cs=(eGBound mapE) x∧ok67 x:=by
 have h:=h.inv_struct Tryz.underlying67
 obtain ⟨n0,b0,rfl,w0,h⟩:=h.cs sT3
 obtain ⟨n1,b1,rfl,w1,h⟩:=h.cs sT3
 obtain rfl:=h.inv_nil
 exact ⟨⟨n0,n1⟩,rfl,w0,w1⟩
def ok69 (x:GFilter):Prop:=ok3 x.zone∧ok3 x.who∧ok3 x.self∧ok3 x.types∧ok3 x.notTypes∧ok3 x.colors∧ok3 x.notColors∧ok9 x.sub∧ok3 x.keys∧ok3 x.tap∧ok67 x.power∧ok67 x.tough∧ok67 x.value
theorem sT69 {cs:List PV} (h:Sn Tryz.prog 1048576 69 cs):∃ x:GFilter,cs=(eGFilter mapE) x∧ok69 x:=by
 have h:=h.inv_struct Tryz.underlying69
 obtain ⟨n0,b0,rfl,w0,h⟩:=h.cs sT3
 obtain ⟨n1,b1,rfl,w1,h⟩:=h.cs sT3
 obtain ⟨n2,b2,rfl,w2,h⟩:=h.cs sT3
 obtain ⟨n3,b3,rfl,w3,h⟩:=h.cs sT3
 obtain ⟨n4,b4,rfl,w4,h⟩:=h.cs sT3
 obtain ⟨n5,b5,rfl,w5,h⟩:=h.cs sT3
 obtain ⟨n6,b6,rfl,w6,h⟩:=h.cs sT3
 obtain ⟨n7,b7,rfl,w7,h⟩:=h.cs sT9
 obtain ⟨n8,b8,rfl,w8,h⟩:=h.cs sT3
 obtain ⟨n9,b9,rfl,w9,h⟩:=h.cs sT3
 obtain ⟨n10,b10,rfl,w10,h⟩:=h.cs sT67
 obtain ⟨n11,b11,rfl,w11,h⟩:=h.cs sT67
 obtain ⟨n12,b12,rfl,w12,h⟩:=h.cs sT67
 obtain rfl:=h.inv_nil
 exact ⟨⟨n0,n1,n2,n3,n4,n5,n6,n7,n8,n9,n10,n11,n12⟩,rfl,w0,w1,w2,w3,w4,w5,w6,w7,w8,w9,w10,w11,w12⟩
def ok138 (x:GMod):Prop:=ok3 x.kind∧ok3 x.n∧ok3 x.m∧ok9 x.sub∧ok69 x.filter
theorem sT138 {cs:List PV} (h:Sn Tryz.prog 1048576 138 cs):∃ x:GMod,cs=(eGMod mapE) x∧ok138 x:=by
 have h:=h.inv_struct Tryz.underlying138
 obtain ⟨n0,b0,rfl,w0,h⟩:=h.cs sT3
 obtain ⟨n1,b1,rfl,w1,h⟩:=h.cs sT3
 obtain ⟨n2,b2,rfl,w2,h⟩:=h.cs sT3
 obtain ⟨n3,b3,rfl,w3,h⟩:=h.cs sT9
 obtain ⟨n4,b4,rfl,w4,h⟩:=h.cs sT69
 obtain rfl:=h.inv_nil
 exact ⟨⟨n0,n1,n2,n3,n4⟩,rfl,w0,w1,w2,w3,w4⟩
def ok76 (l:List GMod):Prop:=l.length≤1048576∧∀ x∈l,ok138 x
theorem sT76 {cs:List PV} (h:Sn Tryz.prog 1048576 76 cs):∃ x:List GMod,cs=[.sl 20 (mapE.m GMod (eGMod mapE) x) false]∧ok76 x:=by
 obtain ⟨es,e,h1,h2⟩:=h.inv_slice Tryz.underlying76
 have hc:Tryz.prog.cellsOf 138=20:=by kernel_rfl
 rw [hc] at e
 obtain ⟨l,e2,h3,h4⟩:=rows_of fun r hr=>sT138 (h1 r hr)
 exact ⟨l,by rw [e,e2]; rfl,by omega,h3⟩
def ok83 (x:GPrice):Prop:=ok59 x.mana∧ok4 x.tap∧ok4 x.sacrifice∧ok3 x.life
theorem sT83 {cs:List PV} (h:Sn Tryz.prog 1048576 83 cs):∃ x:GPrice,cs=(eGPrice mapE) x∧ok83 x:=by
 have h:=h.inv_struct Tryz.underlying83
 obtain ⟨n0,b0,rfl,w0,h⟩:=h.cs sT59
 obtain ⟨n1,b1,rfl,w1,h⟩:=h.cs sT4
 obtain ⟨n2,b2,rfl,w2,h⟩:=h.cs sT4
 obtain ⟨n3,b3,rfl,w3,h⟩:=h.cs sT3
 obtain rfl:=h.inv_nil
 exact ⟨⟨n0,n1,n2,n3⟩,rfl,w0,w1,w2,w3⟩
def ok81 (x:GTrigger):Prop:=ok3 x.when∧ok3 x.who∧ok69 x.filter
theorem sT81 {cs:List PV} (h:Sn Tryz.prog 1048576 81 cs):∃ x:GTrigger,cs=(eGTrigger mapE) x∧ok81 x:=by
 have h:=h.inv_struct Tryz.underlying81
 obtain ⟨n0,b0,rfl,w0,h⟩:=h.cs sT3
 obtain ⟨n1,b1,rfl,w1,h⟩:=h.cs sT3
 obtain ⟨n2,b2,rfl,w2,h⟩:=h.cs sT69
 obtain rfl:=h.inv_nil
 exact ⟨⟨n0,n1,n2⟩,rfl,w0,w1,w2⟩
def ok158 (x:GSpec):Prop:=ok4 x.player∧ok4 x.object∧ok69 x.filter
theorem sT158 {cs:List PV} (h:Sn Tryz.prog 1048576 158 cs):∃ x:GSpec,cs=(eGSpec mapE) x∧ok158 x:=by
 have h:=h.inv_struct Tryz.underlying158
 obtain ⟨n0,b0,rfl,w0,h⟩:=h.cs sT4
 obtain ⟨n1,b1,rfl,w1,h⟩:=h.cs sT4
 obtain ⟨n2,b2,rfl,w2,h⟩:=h.cs sT69
 obtain rfl:=h.inv_nil
 exact ⟨⟨n0,n1,n2⟩,rfl,w0,w1,w2⟩
def ok84 (l:List GSpec):Prop:=l.length≤1048576∧∀ x∈l,ok158 x
theorem sT84 {cs:List PV} (h:Sn Tryz.prog 1048576 84 cs):∃ x:List GSpec,cs=[.sl 18 (mapE.m GSpec (eGSpec mapE) x) false]∧ok84 x:=by
 obtain ⟨es,e,h1,h2⟩:=h.inv_slice Tryz.underlying84
 have hc:Tryz.prog.cellsOf 158=18:=by kernel_rfl
 rw [hc] at e
 obtain ⟨l,e2,h3,h4⟩:=rows_of fun r hr=>sT158 (h1 r hr)
 exact ⟨l,by rw [e,e2]; rfl,by omega,h3⟩
def ok71 (x:GRef):Prop:=ok3 x.kind∧ok3 x.n∧ok69 x.filter
theorem sT71 {cs:List PV} (h:Sn Tryz.prog 1048576 71 cs):∃ x:GRef,cs=(eGRef mapE) x∧ok71 x:=by
 have h:=h.inv_struct Tryz.underlying71
 obtain ⟨n0,b0,rfl,w0,h⟩:=h.cs sT3
 obtain ⟨n1,b1,rfl,w1,h⟩:=h.cs sT3
 obtain ⟨n2,b2,rfl,w2,h⟩:=h.cs sT69
 obtain rfl:=h.inv_nil
 exact ⟨⟨n0,n1,n2⟩,rfl,w0,w1,w2⟩
def ok73 (x:GAmount):Prop:=ok3 x.kind∧ok3 x.n∧ok3 x.counter∧ok69 x.filter
theorem sT73 {cs:List PV} (h:Sn Tryz.prog 1048576 73 cs):∃ x:GAmount,cs=(eGAmount mapE) x∧ok73 x:=by
 have h:=h.inv_struct Tryz.underlying73
 obtain ⟨n0,b0,rfl,w0,h⟩:=h.cs sT3
 obtain ⟨n1,b1,rfl,w1,h⟩:=h.cs sT3
 obtain ⟨n2,b2,rfl,w2,h⟩:=h.cs sT3
 obtain ⟨n3,b3,rfl,w3,h⟩:=h.cs sT69
 obtain rfl:=h.inv_nil
 exact ⟨⟨n0,n1,n2,n3⟩,rfl,w0,w1,w2,w3⟩
def ok75 (x:Arr6 Int):Prop:=ok3 x.a0∧ok3 x.a1∧ok3 x.a2∧ok3 x.a3∧ok3 x.a4∧ok3 x.a5
theorem sT75 {cs:List PV} (h:Sn Tryz.prog 1048576 75 cs):∃ x:Arr6 Int,cs=(eArr6 (eI .i64)) x∧ok75 x:=by
 have h:=h.inv_arr Tryz.underlying75
 obtain ⟨n0,b0,rfl,w0,h⟩:=h.cs sT3
 obtain ⟨n1,b1,rfl,w1,h⟩:=h.cs sT3
 obtain ⟨n2,b2,rfl,w2,h⟩:=h.cs sT3
 obtain ⟨n3,b3,rfl,w3,h⟩:=h.cs sT3
 obtain ⟨n4,b4,rfl,w4,h⟩:=h.cs sT3
 obtain ⟨n5,b5,rfl,w5,h⟩:=h.cs sT3
 obtain rfl:=h.inv_nil
 exact ⟨⟨n0,n1,n2,n3,n4,n5⟩,rfl,w0,w1,w2,w3,w4,w5⟩
def ok78 (x:GEffect):Prop:=ok3 x.op∧ok71 x.ref∧ok73 x.amount∧ok3 x.counter∧ok3 x.zone∧ok9 x.card∧ok69 x.filter∧ok75 x.pool∧ok76 x.mods
theorem sT78 {cs:List PV} (h:Sn Tryz.prog 1048576 78 cs):∃ x:GEffect,cs=(eGEffect mapE) x∧ok78 x:=by
 have h:=h.inv_struct Tryz.underlying78
 obtain ⟨n0,b0,rfl,w0,h⟩:=h.cs sT3
 obtain ⟨n1,b1,rfl,w1,h⟩:=h.cs sT71
 obtain ⟨n2,b2,rfl,w2,h⟩:=h.cs sT73
 obtain ⟨n3,b3,rfl,w3,h⟩:=h.cs sT3
 obtain ⟨n4,b4,rfl,w4,h⟩:=h.cs sT3
 obtain ⟨n5,b5,rfl,w5,h⟩:=h.cs sT9
 obtain ⟨n6,b6,rfl,w6,h⟩:=h.cs sT69
 obtain ⟨n7,b7,rfl,w7,h⟩:=h.cs sT75
 obtain ⟨n8,b8,rfl,w8,h⟩:=h.cs sT76
 obtain rfl:=h.inv_nil
 exact ⟨⟨n0,n1,n2,n3,n4,n5,n6,n7,n8⟩,rfl,w0,w1,w2,w3,w4,w5,w6,w7,w8⟩
def ok79 (l:List GEffect):Prop:=l.length≤1048576∧∀ x∈l,ok78 x
theorem sT79 {cs:List PV} (h:Sn Tryz.prog 1048576 79 cs):∃ x:List GEffect,cs=[.sl 64 (mapE.m GEffect (eGEffect mapE) x) false]∧ok79 x:=by
 obtain ⟨es,e,h1,h2⟩:=h.inv_slice Tryz.underlying79
 have hc:Tryz.prog.cellsOf 78=64:=by kernel_rfl
 rw [hc] at e
 obtain ⟨l,e2,h3,h4⟩:=rows_of fun r hr=>sT78 (h1 r hr)
 exact ⟨l,by rw [e,e2]; rfl,by omega,h3⟩
def ok86 (x:GReplace):Prop:=ok3 x.on∧ok3 x.who∧ok69 x.filter∧ok3 x.doF∧ok3 x.n∧ok3 x.zone∧ok3 x.counter
theorem sT86 {cs:List PV} (h:Sn Tryz.prog 1048576 86 cs):∃ x:GReplace,cs=(eGReplace mapE) x∧ok86 x:=by
 have h:=h.inv_struct Tryz.underlying86
 obtain ⟨n0,b0,rfl,w0,h⟩:=h.cs sT3
 obtain ⟨n1,b1,rfl,w1,h⟩:=h.cs sT3
 obtain ⟨n2,b2,rfl,w2,h⟩:=h.cs sT69
 obtain ⟨n3,b3,rfl,w3,h⟩:=h.cs sT3
 obtain ⟨n4,b4,rfl,w4,h⟩:=h.cs sT3
 obtain ⟨n5,b5,rfl,w5,h⟩:=h.cs sT3
 obtain ⟨n6,b6,rfl,w6,h⟩:=h.cs sT3
 obtain rfl:=h.inv_nil
 exact ⟨⟨n0,n1,n2,n3,n4,n5,n6⟩,rfl,w0,w1,w2,w3,w4,w5,w6⟩
def ok88 (x:GAbility):Prop:=ok3 x.kind∧ok69 x.filter∧ok76 x.mods∧ok83 x.price∧ok4 x.slow∧ok81 x.trigger∧ok4 x.may∧ok84 x.specs∧ok79 x.effects∧ok86 x.replace
theorem sT88 {cs:List PV} (h:Sn Tryz.prog 1048576 88 cs):∃ x:GAbility,cs=(eGAbility mapE) x∧ok88 x:=by
 have h:=h.inv_struct Tryz.underlying88
 obtain ⟨n0,b0,rfl,w0,h⟩:=h.cs sT3
 obtain ⟨n1,b1,rfl,w1,h⟩:=h.cs sT69
 obtain ⟨n2,b2,rfl,w2,h⟩:=h.cs sT76
 obtain ⟨n3,b3,rfl,w3,h⟩:=h.cs sT83
 obtain ⟨n4,b4,rfl,w4,h⟩:=h.cs sT4
 obtain ⟨n5,b5,rfl,w5,h⟩:=h.cs sT81
 obtain ⟨n6,b6,rfl,w6,h⟩:=h.cs sT4
 obtain ⟨n7,b7,rfl,w7,h⟩:=h.cs sT84
 obtain ⟨n8,b8,rfl,w8,h⟩:=h.cs sT79
 obtain ⟨n9,b9,rfl,w9,h⟩:=h.cs sT86
 obtain rfl:=h.inv_nil
 exact ⟨⟨n0,n1,n2,n3,n4,n5,n6,n7,n8,n9⟩,rfl,w0,w1,w2,w3,w4,w5,w6,w7,w8,w9⟩
def ok60 (l:List GAbility):Prop:=l.length≤1048576∧∀ x∈l,ok88 x
theorem sT60 {cs:List PV} (h:Sn Tryz.prog 1048576 60 cs):∃ x:List GAbility,cs=[.sl 72 (mapE.m GAbility (eGAbility mapE) x) false]∧ok60 x:=by
 obtain ⟨es,e,h1,h2⟩:=h.inv_slice Tryz.underlying60
 have hc:Tryz.prog.cellsOf 88=72:=by kernel_rfl
 rw [hc] at e
 obtain ⟨l,e2,h3,h4⟩:=rows_of fun r hr=>sT88 (h1 r hr)
 exact ⟨l,by rw [e,e2]; rfl,by omega,h3⟩
def ok62 (x:GCard):Prop:=ok9 x.name∧ok4 x.token∧ok59 x.cost∧ok3 x.color∧ok56 x.line∧ok3 x.power∧ok3 x.tough∧ok3 x.keys∧ok60 x.abilities
theorem sT62 {cs:List PV} (h:Sn Tryz.prog 1048576 62 cs):∃ x:GCard,cs=(eGCard mapE) x∧ok62 x:=by
 have h:=h.inv_struct Tryz.underlying62
 obtain ⟨n0,b0,rfl,w0,h⟩:=h.cs sT9
 obtain ⟨n1,b1,rfl,w1,h⟩:=h.cs sT4
 obtain ⟨n2,b2,rfl,w2,h⟩:=h.cs sT59
 obtain ⟨n3,b3,rfl,w3,h⟩:=h.cs sT3
 obtain ⟨n4,b4,rfl,w4,h⟩:=h.cs sT56
 obtain ⟨n5,b5,rfl,w5,h⟩:=h.cs sT3
 obtain ⟨n6,b6,rfl,w6,h⟩:=h.cs sT3
 obtain ⟨n7,b7,rfl,w7,h⟩:=h.cs sT3
 obtain ⟨n8,b8,rfl,w8,h⟩:=h.cs sT60
 obtain rfl:=h.inv_nil
 exact ⟨⟨n0,n1,n2,n3,n4,n5,n6,n7,n8⟩,rfl,w0,w1,w2,w3,w4,w5,w6,w7,w8⟩
def ok22 (l:List GCard):Prop:=l.length≤1048576∧∀ x∈l,ok62 x
theorem sT22 {cs:List PV} (h:Sn Tryz.prog 1048576 22 cs):∃ x:List GCard,cs=[.sl 17 (mapE.m GCard (eGCard mapE) x) false]∧ok22 x:=by
 obtain ⟨es,e,h1,h2⟩:=h.inv_slice Tryz.underlying22
 have hc:Tryz.prog.cellsOf 62=17:=by kernel_rfl
 rw [hc] at e
 obtain ⟨l,e2,h3,h4⟩:=rows_of fun r hr=>sT62 (h1 r hr)
 exact ⟨l,by rw [e,e2]; rfl,by omega,h3⟩
def ok25 (l:List Int):Prop:=l.length≤1048576∧∀ x∈l,ok3 x
theorem sT25 {cs:List PV} (h:Sn Tryz.prog 1048576 25 cs):∃ x:List Int,cs=[.sl 1 (mapE.m Int (eI .i64) x) false]∧ok25 x:=by
 obtain ⟨es,e,h1,h2⟩:=h.inv_slice Tryz.underlying25
 have hc:Tryz.prog.cellsOf 3=1:=by kernel_rfl
 rw [hc] at e
 obtain ⟨l,e2,h3,h4⟩:=rows_of fun r hr=>sT3 (h1 r hr)
 exact ⟨l,by rw [e,e2]; rfl,by omega,h3⟩
def ok92 (x:GPlayer):Prop:=ok3 x.life∧ok3 x.venom∧ok3 x.lands∧ok75 x.pool∧ok4 x.failed∧ok4 x.lost∧ok25 x.library∧ok25 x.hand∧ok25 x.graveyard
theorem sT92 {cs:List PV} (h:Sn Tryz.prog 1048576 92 cs):∃ x:GPlayer,cs=(eGPlayer mapE) x∧ok92 x:=by
 have h:=h.inv_struct Tryz.underlying92
 obtain ⟨n0,b0,rfl,w0,h⟩:=h.cs sT3
 obtain ⟨n1,b1,rfl,w1,h⟩:=h.cs sT3
 obtain ⟨n2,b2,rfl,w2,h⟩:=h.cs sT3
 obtain ⟨n3,b3,rfl,w3,h⟩:=h.cs sT75
 obtain ⟨n4,b4,rfl,w4,h⟩:=h.cs sT4
 obtain ⟨n5,b5,rfl,w5,h⟩:=h.cs sT4
 obtain ⟨n6,b6,rfl,w6,h⟩:=h.cs sT25
 obtain ⟨n7,b7,rfl,w7,h⟩:=h.cs sT25
 obtain ⟨n8,b8,rfl,w8,h⟩:=h.cs sT25
 obtain rfl:=h.inv_nil
 exact ⟨⟨n0,n1,n2,n3,n4,n5,n6,n7,n8⟩,rfl,w0,w1,w2,w3,w4,w5,w6,w7,w8⟩
def ok23 (l:List GPlayer):Prop:=l.length≤1048576∧∀ x∈l,ok92 x
theorem sT23 {cs:List PV} (h:Sn Tryz.prog 1048576 23 cs):∃ x:List GPlayer,cs=[.sl 14 (mapE.m GPlayer (eGPlayer mapE) x) false]∧ok23 x:=by
 obtain ⟨es,e,h1,h2⟩:=h.inv_slice Tryz.underlying23
 have hc:Tryz.prog.cellsOf 92=14:=by kernel_rfl
 rw [hc] at e
 obtain ⟨l,e2,h3,h4⟩:=rows_of fun r hr=>sT92 (h1 r hr)
 exact ⟨l,by rw [e,e2]; rfl,by omega,h3⟩
def ok33 (x:Arr3 Int):Prop:=ok3 x.a0∧ok3 x.a1∧ok3 x.a2
theorem sT33 {cs:List PV} (h:Sn Tryz.prog 1048576 33 cs):∃ x:Arr3 Int,cs=(eArr3 (eI .i64)) x∧ok33 x:=by
 have h:=h.inv_arr Tryz.underlying33
 obtain ⟨n0,b0,rfl,w0,h⟩:=h.cs sT3
 obtain ⟨n1,b1,rfl,w1,h⟩:=h.cs sT3
 obtain ⟨n2,b2,rfl,w2,h⟩:=h.cs sT3
 obtain rfl:=h.inv_nil
 exact ⟨⟨n0,n1,n2⟩,rfl,w0,w1,w2⟩
def ok65 (x:GObject):Prop:=ok3 x.id∧ok3 x.card∧ok3 x.owner∧ok3 x.control∧ok3 x.zone∧ok4 x.token∧ok4 x.tapped∧ok4 x.sick∧ok4 x.deadly∧ok3 x.damage∧ok33 x.counters∧ok3 x.stamp∧ok3 x.copy∧ok3 x.attack∧ok4 x.blocked∧ok3 x.blocks∧ok3 x.shield
theorem sT65 {cs:List PV} (h:Sn Tryz.prog 1048576 65 cs):∃ x:GObject,cs=(eGObject mapE) x∧ok65 x:=by
 have h:=h.inv_struct Tryz.underlying65
 obtain ⟨n0,b0,rfl,w0,h⟩:=h.cs sT3
 obtain ⟨n1,b1,rfl,w1,h⟩:=h.cs sT3
 obtain ⟨n2,b2,rfl,w2,h⟩:=h.cs sT3
 obtain ⟨n3,b3,rfl,w3,h⟩:=h.cs sT3
 obtain ⟨n4,b4,rfl,w4,h⟩:=h.cs sT3
 obtain ⟨n5,b5,rfl,w5,h⟩:=h.cs sT4
 obtain ⟨n6,b6,rfl,w6,h⟩:=h.cs sT4
 obtain ⟨n7,b7,rfl,w7,h⟩:=h.cs sT4
 obtain ⟨n8,b8,rfl,w8,h⟩:=h.cs sT4
 obtain ⟨n9,b9,rfl,w9,h⟩:=h.cs sT3
 obtain ⟨n10,b10,rfl,w10,h⟩:=h.cs sT33
 obtain ⟨n11,b11,rfl,w11,h⟩:=h.cs sT3
 obtain ⟨n12,b12,rfl,w12,h⟩:=h.cs sT3
 obtain ⟨n13,b13,rfl,w13,h⟩:=h.cs sT3
 obtain ⟨n14,b14,rfl,w14,h⟩:=h.cs sT4
 obtain ⟨n15,b15,rfl,w15,h⟩:=h.cs sT3
 obtain ⟨n16,b16,rfl,w16,h⟩:=h.cs sT3
 obtain rfl:=h.inv_nil
 exact ⟨⟨n0,n1,n2,n3,n4,n5,n6,n7,n8,n9,n10,n11,n12,n13,n14,n15,n16⟩,rfl,w0,w1,w2,w3,w4,w5,w6,w7,w8,w9,w10,w11,w12,w13,w14,w15,w16⟩
def ok24 (l:List GObject):Prop:=l.length≤1048576∧∀ x∈l,ok65 x
theorem sT24 {cs:List PV} (h:Sn Tryz.prog 1048576 24 cs):∃ x:List GObject,cs=[.sl 19 (mapE.m GObject (eGObject mapE) x) false]∧ok24 x:=by
 obtain ⟨es,e,h1,h2⟩:=h.inv_slice Tryz.underlying24
 have hc:Tryz.prog.cellsOf 65=19:=by kernel_rfl
 rw [hc] at e
 obtain ⟨l,e2,h3,h4⟩:=rows_of fun r hr=>sT65 (h1 r hr)
 exact ⟨l,by rw [e,e2]; rfl,by omega,h3⟩
def ok129 (x:GTarget):Prop:=ok3 x.object∧ok3 x.player
theorem sT129 {cs:List PV} (h:Sn Tryz.prog 1048576 129 cs):∃ x:GTarget,cs=(eGTarget mapE) x∧ok129 x:=by
 have h:=h.inv_struct Tryz.underlying129
 obtain ⟨n0,b0,rfl,w0,h⟩:=h.cs sT3
 obtain ⟨n1,b1,rfl,w1,h⟩:=h.cs sT3
 obtain rfl:=h.inv_nil
 exact ⟨⟨n0,n1⟩,rfl,w0,w1⟩
def ok32 (l:List GTarget):Prop:=l.length≤1048576∧∀ x∈l,ok129 x
theorem sT32 {cs:List PV} (h:Sn Tryz.prog 1048576 32 cs):∃ x:List GTarget,cs=[.sl 2 (mapE.m GTarget (eGTarget mapE) x) false]∧ok32 x:=by
 obtain ⟨es,e,h1,h2⟩:=h.inv_slice Tryz.underlying32
 have hc:Tryz.prog.cellsOf 129=2:=by kernel_rfl
 rw [hc] at e
 obtain ⟨l,e2,h3,h4⟩:=rows_of fun r hr=>sT129 (h1 r hr)
 exact ⟨l,by rw [e,e2]; rfl,by omega,h3⟩
def ok35 (x:GEvent):Prop:=ok3 x.kind∧ok3 x.source∧ok3 x.object∧ok3 x.player∧ok3 x.amount∧ok3 x.fromF∧ok3 x.to∧ok3 x.cause∧ok3 x.counter∧ok3 x.card∧ok4 x.combat∧ok4 x.tapped∧ok33 x.extra
theorem sT35 {cs:List PV} (h:Sn Tryz.prog 1048576 35 cs):∃ x:GEvent,cs=(eGEvent mapE) x∧ok35 x:=by
 have h:=h.inv_struct Tryz.underlying35
 obtain ⟨n0,b0,rfl,w0,h⟩:=h.cs sT3
 obtain ⟨n1,b1,rfl,w1,h⟩:=h.cs sT3
 obtain ⟨n2,b2,rfl,w2,h⟩:=h.cs sT3
 obtain ⟨n3,b3,rfl,w3,h⟩:=h.cs sT3
 obtain ⟨n4,b4,rfl,w4,h⟩:=h.cs sT3
 obtain ⟨n5,b5,rfl,w5,h⟩:=h.cs sT3
 obtain ⟨n6,b6,rfl,w6,h⟩:=h.cs sT3
 obtain ⟨n7,b7,rfl,w7,h⟩:=h.cs sT3
 obtain ⟨n8,b8,rfl,w8,h⟩:=h.cs sT3
 obtain ⟨n9,b9,rfl,w9,h⟩:=h.cs sT3
 obtain ⟨n10,b10,rfl,w10,h⟩:=h.cs sT4
 obtain ⟨n11,b11,rfl,w11,h⟩:=h.cs sT4
 obtain ⟨n12,b12,rfl,w12,h⟩:=h.cs sT33
 obtain rfl:=h.inv_nil
 exact ⟨⟨n0,n1,n2,n3,n4,n5,n6,n7,n8,n9,n10,n11,n12⟩,rfl,w0,w1,w2,w3,w4,w5,w6,w7,w8,w9,w10,w11,w12⟩
def ok90 (x:GItem):Prop:=ok3 x.id∧ok3 x.kind∧ok3 x.source∧ok3 x.control∧ok3 x.x∧ok4 x.copy∧ok88 x.ability∧ok32 x.targets∧ok35 x.event
theorem sT90 {cs:List PV} (h:Sn Tryz.prog 1048576 90 cs):∃ x:GItem,cs=(eGItem mapE) x∧ok90 x:=by
 have h:=h.inv_struct Tryz.underlying90
 obtain ⟨n0,b0,rfl,w0,h⟩:=h.cs sT3
 obtain ⟨n1,b1,rfl,w1,h⟩:=h.cs sT3
 obtain ⟨n2,b2,rfl,w2,h⟩:=h.cs sT3
 obtain ⟨n3,b3,rfl,w3,h⟩:=h.cs sT3
 obtain ⟨n4,b4,rfl,w4,h⟩:=h.cs sT3
 obtain ⟨n5,b5,rfl,w5,h⟩:=h.cs sT4
 obtain ⟨n6,b6,rfl,w6,h⟩:=h.cs sT88
 obtain ⟨n7,b7,rfl,w7,h⟩:=h.cs sT32
 obtain ⟨n8,b8,rfl,w8,h⟩:=h.cs sT35
 obtain rfl:=h.inv_nil
 exact ⟨⟨n0,n1,n2,n3,n4,n5,n6,n7,n8⟩,rfl,w0,w1,w2,w3,w4,w5,w6,w7,w8⟩
def ok26 (l:List GItem):Prop:=l.length≤1048576∧∀ x∈l,ok90 x
theorem sT26 {cs:List PV} (h:Sn Tryz.prog 1048576 26 cs):∃ x:List GItem,cs=[.sl 94 (mapE.m GItem (eGItem mapE) x) false]∧ok26 x:=by
 obtain ⟨es,e,h1,h2⟩:=h.inv_slice Tryz.underlying26
 have hc:Tryz.prog.cellsOf 90=94:=by kernel_rfl
 rw [hc] at e
 obtain ⟨l,e2,h3,h4⟩:=rows_of fun r hr=>sT90 (h1 r hr)
 exact ⟨l,by rw [e,e2]; rfl,by omega,h3⟩
def ok132 (x:GWaiting):Prop:=ok3 x.source∧ok3 x.control∧ok88 x.ability∧ok35 x.event
theorem sT132 {cs:List PV} (h:Sn Tryz.prog 1048576 132 cs):∃ x:GWaiting,cs=(eGWaiting mapE) x∧ok132 x:=by
 have h:=h.inv_struct Tryz.underlying132
 obtain ⟨n0,b0,rfl,w0,h⟩:=h.cs sT3
 obtain ⟨n1,b1,rfl,w1,h⟩:=h.cs sT3
 obtain ⟨n2,b2,rfl,w2,h⟩:=h.cs sT88
 obtain ⟨n3,b3,rfl,w3,h⟩:=h.cs sT35
 obtain rfl:=h.inv_nil
 exact ⟨⟨n0,n1,n2,n3⟩,rfl,w0,w1,w2,w3⟩
def ok27 (l:List GWaiting):Prop:=l.length≤1048576∧∀ x∈l,ok132 x
theorem sT27 {cs:List PV} (h:Sn Tryz.prog 1048576 27 cs):∃ x:List GWaiting,cs=[.sl 89 (mapE.m GWaiting (eGWaiting mapE) x) false]∧ok27 x:=by
 obtain ⟨es,e,h1,h2⟩:=h.inv_slice Tryz.underlying27
 have hc:Tryz.prog.cellsOf 132=89:=by kernel_rfl
 rw [hc] at e
 obtain ⟨l,e2,h3,h4⟩:=rows_of fun r hr=>sT132 (h1 r hr)
 exact ⟨l,by rw [e,e2]; rfl,by omega,h3⟩
def ok135 (x:GCont):Prop:=ok3 x.stamp∧ok3 x.control∧ok3 x.source∧ok3 x.untilF∧ok25 x.objects∧ok76 x.mods
theorem sT135 {cs:List PV} (h:Sn Tryz.prog 1048576 135 cs):∃ x:GCont,cs=(eGCont mapE) x∧ok135 x:=by
 have h:=h.inv_struct Tryz.underlying135
 obtain ⟨n0,b0,rfl,w0,h⟩:=h.cs sT3
 obtain ⟨n1,b1,rfl,w1,h⟩:=h.cs sT3
 obtain ⟨n2,b2,rfl,w2,h⟩:=h.cs sT3
 obtain ⟨n3,b3,rfl,w3,h⟩:=h.cs sT3
 obtain ⟨n4,b4,rfl,w4,h⟩:=h.cs sT25
 obtain ⟨n5,b5,rfl,w5,h⟩:=h.cs sT76
 obtain rfl:=h.inv_nil
 exact ⟨⟨n0,n1,n2,n3,n4,n5⟩,rfl,w0,w1,w2,w3,w4,w5⟩
def ok28 (l:List GCont):Prop:=l.length≤1048576∧∀ x∈l,ok135 x
theorem sT28 {cs:List PV} (h:Sn Tryz.prog 1048576 28 cs):∃ x:List GCont,cs=[.sl 6 (mapE.m GCont (eGCont mapE) x) false]∧ok28 x:=by
 obtain ⟨es,e,h1,h2⟩:=h.inv_slice Tryz.underlying28
 have hc:Tryz.prog.cellsOf 135=6:=by kernel_rfl
 rw [hc] at e
 obtain ⟨l,e2,h3,h4⟩:=rows_of fun r hr=>sT135 (h1 r hr)
 exact ⟨l,by rw [e,e2]; rfl,by omega,h3⟩
def ok29 (x:Int):Prop:=(Lit.int .u64 x).wf=true
theorem sT29 {cs:List PV} (h:Sn Tryz.prog 1048576 29 cs):∃ x:Int,cs=(eI .u64) x∧ok29 x:=by
 obtain ⟨n,e,hw⟩:=h.inv_int Tryz.underlying29
 exact ⟨n,e,hw⟩
def ok31 (x:GState):Prop:=ok23 x.players∧ok24 x.objects∧ok25 x.battlefield∧ok25 x.exile∧ok26 x.stack∧ok27 x.waiting∧ok28 x.conts∧ok3 x.turn∧ok3 x.active∧ok3 x.step∧ok4 x.begun∧ok3 x.priority∧ok3 x.passes∧ok3 x.nextId∧ok3 x.nextStamp∧ok29 x.seed∧ok25 x.extra∧ok3 x.over∧ok3 x.winner
theorem sT31 {cs:List PV} (h:Sn Tryz.prog 1048576 31 cs):∃ x:GState,cs=(eGState mapE) x∧ok31 x:=by
 have h:=h.inv_struct Tryz.underlying31
 obtain ⟨n0,b0,rfl,w0,h⟩:=h.cs sT23
 obtain ⟨n1,b1,rfl,w1,h⟩:=h.cs sT24
 obtain ⟨n2,b2,rfl,w2,h⟩:=h.cs sT25
 obtain ⟨n3,b3,rfl,w3,h⟩:=h.cs sT25
 obtain ⟨n4,b4,rfl,w4,h⟩:=h.cs sT26
 obtain ⟨n5,b5,rfl,w5,h⟩:=h.cs sT27
 obtain ⟨n6,b6,rfl,w6,h⟩:=h.cs sT28
 obtain ⟨n7,b7,rfl,w7,h⟩:=h.cs sT3
 obtain ⟨n8,b8,rfl,w8,h⟩:=h.cs sT3
 obtain ⟨n9,b9,rfl,w9,h⟩:=h.cs sT3
 obtain ⟨n10,b10,rfl,w10,h⟩:=h.cs sT4
 obtain ⟨n11,b11,rfl,w11,h⟩:=h.cs sT3
 obtain ⟨n12,b12,rfl,w12,h⟩:=h.cs sT3
 obtain ⟨n13,b13,rfl,w13,h⟩:=h.cs sT3
 obtain ⟨n14,b14,rfl,w14,h⟩:=h.cs sT3
 obtain ⟨n15,b15,rfl,w15,h⟩:=h.cs sT29
 obtain ⟨n16,b16,rfl,w16,h⟩:=h.cs sT25
 obtain ⟨n17,b17,rfl,w17,h⟩:=h.cs sT3
 obtain ⟨n18,b18,rfl,w18,h⟩:=h.cs sT3
 obtain rfl:=h.inv_nil
 exact ⟨⟨n0,n1,n2,n3,n4,n5,n6,n7,n8,n9,n10,n11,n12,n13,n14,n15,n16,n17,n18⟩,rfl,w0,w1,w2,w3,w4,w5,w6,w7,w8,w9,w10,w11,w12,w13,w14,w15,w16,w17,w18⟩
def ok37 (x:GContext):Prop:=ok3 x.you∧ok3 x.source∧ok3 x.x∧ok32 x.targets∧ok35 x.event
theorem sT37 {cs:List PV} (h:Sn Tryz.prog 1048576 37 cs):∃ x:GContext,cs=(eGContext mapE) x∧ok37 x:=by
 have h:=h.inv_struct Tryz.underlying37
 obtain ⟨n0,b0,rfl,w0,h⟩:=h.cs sT3
 obtain ⟨n1,b1,rfl,w1,h⟩:=h.cs sT3
 obtain ⟨n2,b2,rfl,w2,h⟩:=h.cs sT3
 obtain ⟨n3,b3,rfl,w3,h⟩:=h.cs sT32
 obtain ⟨n4,b4,rfl,w4,h⟩:=h.cs sT35
 obtain rfl:=h.inv_nil
 exact ⟨⟨n0,n1,n2,n3,n4⟩,rfl,w0,w1,w2,w3,w4⟩
theorem z9 {x:ByteArray} (h:ok9 x):szB x:=h
theorem z54 {x:List ByteArray} (h:ok54 x):(szL szB) x:=⟨h.1,fun y hy=>z9 (h.2 y hy)⟩
theorem z56 {x:GLine} (h:ok56 x):szGLine x:=z54 (h.2.2)
theorem z69 {x:GFilter} (h:ok69 x):szGFilter x:=z9 (h.2.2.2.2.2.2.2.1)
theorem z138 {x:GMod} (h:ok138 x):szGMod x:=⟨z9 (h.2.2.2.1),z69 (h.2.2.2.2)⟩
theorem z76 {x:List GMod} (h:ok76 x):(szL szGMod) x:=⟨h.1,fun y hy=>z138 (h.2 y hy)⟩
theorem z81 {x:GTrigger} (h:ok81 x):szGTrigger x:=z69 (h.2.2)
theorem z158 {x:GSpec} (h:ok158 x):szGSpec x:=z69 (h.2.2)
theorem z84 {x:List GSpec} (h:ok84 x):(szL szGSpec) x:=⟨h.1,fun y hy=>z158 (h.2 y hy)⟩
theorem z71 {x:GRef} (h:ok71 x):szGRef x:=z69 (h.2.2)
theorem z73 {x:GAmount} (h:ok73 x):szGAmount x:=z69 (h.2.2.2)
theorem z78 {x:GEffect} (h:ok78 x):szGEffect x:=⟨z71 (h.2.1),z73 (h.2.2.1),z9 (h.2.2.2.2.2.1),z69 (h.2.2.2.2.2.2.1),z76 (h.2.2.2.2.2.2.2.2)⟩
theorem z79 {x:List GEffect} (h:ok79 x):(szL szGEffect) x:=⟨h.1,fun y hy=>z78 (h.2 y hy)⟩
theorem z86 {x:GReplace} (h:ok86 x):szGReplace x:=z69 (h.2.2.1)
theorem z88 {x:GAbility} (h:ok88 x):szGAbility x:=⟨z69 (h.2.1),z76 (h.2.2.1),z81 (h.2.2.2.2.2.1),z84 (h.2.2.2.2.2.2.2.1),z79 (h.2.2.2.2.2.2.2.2.1),z86 (h.2.2.2.2.2.2.2.2.2)⟩
theorem z60 {x:List GAbility} (h:ok60 x):(szL szGAbility) x:=⟨h.1,fun y hy=>z88 (h.2 y hy)⟩
theorem z62 {x:GCard} (h:ok62 x):szGCard x:=⟨z9 (h.1),z56 (h.2.2.2.2.1),z60 (h.2.2.2.2.2.2.2.2)⟩
theorem z22 {x:List GCard} (h:ok22 x):(szL szGCard) x:=⟨h.1,fun y hy=>z62 (h.2 y hy)⟩
theorem z25 {x:List Int} (h:ok25 x):(szL (fun (_:Int)=>True)) x:=⟨h.1,fun y hy=>trivial⟩
theorem z92 {x:GPlayer} (h:ok92 x):szGPlayer x:=⟨z25 (h.2.2.2.2.2.2.1),z25 (h.2.2.2.2.2.2.2.1),z25 (h.2.2.2.2.2.2.2.2)⟩
theorem z23 {x:List GPlayer} (h:ok23 x):(szL szGPlayer) x:=⟨h.1,fun y hy=>z92 (h.2 y hy)⟩
theorem z24 {x:List GObject} (h:ok24 x):(szL (fun (_:GObject)=>True)) x:=⟨h.1,fun y hy=>trivial⟩
theorem z32 {x:List GTarget} (h:ok32 x):(szL (fun (_:GTarget)=>True)) x:=⟨h.1,fun y hy=>trivial⟩
theorem z90 {x:GItem} (h:ok90 x):szGItem x:=⟨z88 (h.2.2.2.2.2.2.1),z32 (h.2.2.2.2.2.2.2.1)⟩
theorem z26 {x:List GItem} (h:ok26 x):(szL szGItem) x:=⟨h.1,fun y hy=>z90 (h.2 y hy)⟩
theorem z132 {x:GWaiting} (h:ok132 x):szGWaiting x:=z88 (h.2.2.1)
theorem z27 {x:List GWaiting} (h:ok27 x):(szL szGWaiting) x:=⟨h.1,fun y hy=>z132 (h.2 y hy)⟩
theorem z135 {x:GCont} (h:ok135 x):szGCont x:=⟨z25 (h.2.2.2.2.1),z76 (h.2.2.2.2.2)⟩
theorem z28 {x:List GCont} (h:ok28 x):(szL szGCont) x:=⟨h.1,fun y hy=>z135 (h.2 y hy)⟩
theorem z31 {x:GState} (h:ok31 x):szGState x:=⟨z23 (h.1),z24 (h.2.1),z25 (h.2.2.1),z25 (h.2.2.2.1),z26 (h.2.2.2.2.1),z27 (h.2.2.2.2.2.1),z28 (h.2.2.2.2.2.2.1),z25 (h.2.2.2.2.2.2.2.2.2.2.2.2.2.2.2.2.1)⟩
theorem z37 {x:GContext} (h:ok37 x):szGContext x:=z32 (h.2.2.2.1)
theorem sV22 {p:PV} (h:SnV Tryz.prog 1048576 22 p):∃ x:List GCard,p=.sl 17 (mapE.m GCard (eGCard mapE) x) false∧ok22 x:=by
 obtain ⟨x,e,hx⟩:=sT22 (h.inv_one (by kernel_rfl))
 cases e
 exact ⟨x,rfl,hx⟩
theorem sV31 {p:PV} (h:SnV Tryz.prog 1048576 31 p):∃ x:GState,p=.agg ((eGState mapE) x)∧ok31 x:=by
 obtain ⟨cs,rfl,h2⟩:=h.inv_agg (by kernel_rfl)
 obtain ⟨x,rfl,hx⟩:=sT31 h2
 exact ⟨x,rfl,hx⟩
theorem sV37 {p:PV} (h:SnV Tryz.prog 1048576 37 p):∃ x:GContext,p=.agg ((eGContext mapE) x)∧ok37 x:=by
 obtain ⟨cs,rfl,h2⟩:=h.inv_agg (by kernel_rfl)
 obtain ⟨x,rfl,hx⟩:=sT37 h2
 exact ⟨x,rfl,hx⟩
end Go.Proofs.YthfepelpmalckaaGreatDoor
