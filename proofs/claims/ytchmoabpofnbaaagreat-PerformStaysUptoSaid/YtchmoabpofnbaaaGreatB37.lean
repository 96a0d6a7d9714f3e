import Derived.Test.YtchmoabpofnbaaaGreatB31
import Derived.Test.YtchmoabpofnbaaaGreatB36
set_option linter.all false
namespace Go.Pv
theorem SnL.cs {P:Program}{N:Nat}{t:TypeId}{ts:List TypeId}{cs:List PV}(h:SnL P N (t::ts) cs){α:Type}{e:α->List PV}{ok:α->Prop}(s:∀ {c:List PV},Sn P N t c->∃ x,c=e x/\ok x):∃ x b,cs=e x++b/\ok x/\SnL P N ts b:=by
 obtain⟨a,b,rfl,k,g⟩:=h.Jz;obtain⟨x,rfl,w⟩:=s k;exact⟨x,b,rfl,w,g⟩
end Go.Pv
namespace Go.Proofs.YtchmoabpofnbaaaGreat
open Go Go.Pv Proofs.Tryz
def ok9 (s:ByteArray):Prop:=s.size<=1048576
theorem sT9 {cs:List PV}(h:Sn Tryz.prog 1048576 9 cs):∃ x:ByteArray,cs=eS x/\ok9 x:=by
 obtain⟨n,e,U⟩:=h.abl underlying9;exact⟨n,e,U⟩
def ok4 (_:Bool):Prop:=True
theorem sT4 {cs:List PV}(h:Sn Tryz.prog 1048576 4 cs):∃ x:Bool,cs=eB x/\ok4 x:=by
 obtain⟨n,e⟩:=h.Yg underlying4;exact⟨n,e,trivial⟩
def pO (x:Int):Prop:=(Lit.int .i64 x).wf=true
theorem pY {cs:List PV}(h:Sn Tryz.prog 1048576 3 cs):∃ x:Int,cs=(eI .i64) x/\pO x:=by
 obtain⟨n,e,U⟩:=h.Ws underlying3;exact⟨n,e,U⟩
def akG (x:ZX Int):Prop:=pO x.a0/\pO x.a1/\pO x.a2/\pO x.a3/\pO x.a4
theorem sT83 {cs:List PV}(h:Sn Tryz.prog 1048576 83 cs):∃ x:ZX Int,cs=(ajL (eI .i64)) x/\akG x:=by
 have h:=h.Q4 underlying83;obtain⟨n0,b0,rfl,w0,h⟩:=h.cs pY;obtain⟨n1,g,rfl,T,h⟩:=h.cs pY;obtain⟨U,C,rfl,R,h⟩:=h.cs pY;obtain⟨n3,b3,rfl,I,h⟩:=h.cs pY;obtain⟨n4,b4,rfl,J,h⟩:=h.cs pY;obtain rfl:=h.kL;exact⟨⟨n0,n1,U,n3,n4⟩,rfl,w0,T,R,I,J⟩
def ai1 (x:oQ):Prop:=pO x.generic/\pO x.x/\akG x.color
theorem akH {cs:List PV}(h:Sn Tryz.prog 1048576 85 cs):∃ x:oQ,cs=(qy mapE) x/\ai1 x:=by
 have h:=h.jB underlying85;obtain⟨n0,b0,rfl,w0,h⟩:=h.cs pY;obtain⟨n1,I,rfl,R,h⟩:=h.cs pY;obtain⟨U,J,rfl,T,h⟩:=h.cs sT83;obtain rfl:=h.kL;exact⟨⟨n0,n1,U⟩,rfl,w0,R,T⟩
def ai2 (l:List ByteArray):Prop:=l.length<=1048576/\∀ x∈l,ok9 x
theorem sT86 {cs:List PV}(h:Sn Tryz.prog 1048576 86 cs):∃ x:List ByteArray,cs=[.sl 1 (mapE.m ByteArray eS x) false]/\ai2 x:=by
 obtain⟨I,e,h1,h2⟩:=h.oh underlying86;have U:Tryz.prog.cellsOf 9=1:=by kernel_rfl
 rw[U] at e;obtain⟨l,R,T,J⟩:=tH λr hr=>sT9 (h1 r hr);exact⟨l,by rw[e,R];rfl,by omega,T⟩
def ai3 (x:wO):Prop:=pO x.Gt/\pO x.types/\ai2 x.subs
theorem sT88 {cs:List PV}(h:Sn Tryz.prog 1048576 88 cs):∃ x:wO,cs=(DN mapE) x/\ai3 x:=by
 have h:=h.jB underlying88;obtain⟨n0,b0,rfl,w0,h⟩:=h.cs pY;obtain⟨n1,I,rfl,R,h⟩:=h.cs pY;obtain⟨U,J,rfl,T,h⟩:=h.cs sT86;obtain rfl:=h.kL;exact⟨⟨n0,n1,U⟩,rfl,w0,R,T⟩
def abS (x:qx):Prop:=pO x.kind/\pO x.n
theorem ae4 {cs:List PV}(h:Sn Tryz.prog 1048576 101 cs):∃ x:qx,cs=(C9 mapE) x/\abS x:=by
 have h:=h.jB underlying101;obtain⟨n0,b0,rfl,w0,h⟩:=h.cs pY;obtain⟨n1,T,rfl,U,h⟩:=h.cs pY;obtain rfl:=h.kL;exact⟨⟨n0,n1⟩,rfl,w0,U⟩
def LM (x:jf):Prop:=pO x.iI/\pO x.who/\pO x.self/\pO x.types/\pO x.iy/\pO x.iM/\pO x.gZ/\ok9 x.sub/\pO x.keys/\pO x.rE/\abS x.power/\abS x.ik/\abS x.value
theorem QG {cs:List PV}(h:Sn Tryz.prog 1048576 103 cs):∃ x:jf,cs=(iR mapE) x/\LM x:=by
 have h:=h.jB underlying103;obtain⟨n0,b0,rfl,w0,h⟩:=h.cs pY;obtain⟨n1,b1,rfl,I,h⟩:=h.cs pY;obtain⟨n2,b2,rfl,w2,h⟩:=h.cs pY;obtain⟨n3,b3,rfl,w3,h⟩:=h.cs pY;obtain⟨n4,b4,rfl,w4,h⟩:=h.cs pY;obtain⟨n5,b5,rfl,w5,h⟩:=h.cs pY;obtain⟨n6,b6,rfl,w6,h⟩:=h.cs pY;obtain⟨n7,b7,rfl,w7,h⟩:=h.cs sT9;obtain⟨n8,b8,rfl,w8,h⟩:=h.cs pY;obtain⟨n9,b9,rfl,C,h⟩:=h.cs pY;obtain⟨n10,b10,rfl,R,h⟩:=h.cs ae4;obtain⟨n11,g,rfl,U,h⟩:=h.cs ae4;obtain⟨n12,J,rfl,T,h⟩:=h.cs ae4;obtain rfl:=h.kL;exact⟨⟨n0,n1,n2,n3,n4,n5,n6,n7,n8,n9,n10,n11,n12⟩,rfl,w0,I,w2,w3,w4,w5,w6,w7,w8,C,R,U,T⟩
def ae5 (x:jv):Prop:=pO x.kind/\pO x.n/\pO x.m/\ok9 x.sub/\LM x.filter
theorem akI {cs:List PV}(h:Sn Tryz.prog 1048576 215 cs):∃ x:jv,cs=(uz mapE) x/\ae5 x:=by
 have h:=h.jB underlying215;obtain⟨n0,b0,rfl,w0,h⟩:=h.cs pY;obtain⟨n1,g,rfl,T,h⟩:=h.cs pY;obtain⟨U,C,rfl,R,h⟩:=h.cs pY;obtain⟨n3,b3,rfl,I,h⟩:=h.cs sT9;obtain⟨n4,b4,rfl,J,h⟩:=h.cs QG;obtain rfl:=h.kL;exact⟨⟨n0,n1,U,n3,n4⟩,rfl,w0,T,R,I,J⟩
def Ze (l:List jv):Prop:=l.length<=1048576/\∀ x∈l,ae5 x
theorem ae6 {cs:List PV}(h:Sn Tryz.prog 1048576 106 cs):∃ x:List jv,cs=[.sl 20 (mapE.m jv (uz mapE) x) false]/\Ze x:=by
 obtain⟨I,e,h1,h2⟩:=h.oh underlying106;have U:Tryz.prog.cellsOf 215=20:=by kernel_rfl
 rw[U] at e;obtain⟨l,R,T,J⟩:=tH λr hr=>akI (h1 r hr);exact⟨l,by rw[e,R];rfl,by omega,T⟩
def ag7 (x:Ip):Prop:=ai1 x.lV/\ok4 x.rE/\ok4 x.uN/\pO x.life
theorem akJ {cs:List PV}(h:Sn Tryz.prog 1048576 108 cs):∃ x:Ip,cs=(Q9 mapE) x/\ag7 x:=by
 have h:=h.jB underlying108;obtain⟨n0,b0,rfl,w0,h⟩:=h.cs akH;obtain⟨n1,C,rfl,J,h⟩:=h.cs sT4;obtain⟨U,I,rfl,T,h⟩:=h.cs sT4;obtain⟨n3,b3,rfl,R,h⟩:=h.cs pY;obtain rfl:=h.kL;exact⟨⟨n0,n1,U,n3⟩,rfl,w0,J,T,R⟩
def ae7 (x:vP):Prop:=pO x.when/\pO x.who/\LM x.filter
theorem akK {cs:List PV}(h:Sn Tryz.prog 1048576 110 cs):∃ x:vP,cs=(Dy mapE) x/\ae7 x:=by
 have h:=h.jB underlying110;obtain⟨n0,b0,rfl,w0,h⟩:=h.cs pY;obtain⟨n1,I,rfl,R,h⟩:=h.cs pY;obtain⟨U,J,rfl,T,h⟩:=h.cs QG;obtain rfl:=h.kL;exact⟨⟨n0,n1,U⟩,rfl,w0,R,T⟩
def ae8 (x:oJ):Prop:=ok4 x.iY/\ok4 x.object/\LM x.filter
theorem akL {cs:List PV}(h:Sn Tryz.prog 1048576 284 cs):∃ x:oJ,cs=(FW mapE) x/\ae8 x:=by
 have h:=h.jB underlying284;obtain⟨n0,b0,rfl,w0,h⟩:=h.cs sT4;obtain⟨n1,I,rfl,R,h⟩:=h.cs sT4;obtain⟨U,J,rfl,T,h⟩:=h.cs QG;obtain rfl:=h.kL;exact⟨⟨n0,n1,U⟩,rfl,w0,R,T⟩
def ae9 (l:List oJ):Prop:=l.length<=1048576/\∀ x∈l,ae8 x
theorem akM {cs:List PV}(h:Sn Tryz.prog 1048576 111 cs):∃ x:List oJ,cs=[.sl 18 (mapE.m oJ (FW mapE) x) false]/\ae9 x:=by
 obtain⟨I,e,h1,h2⟩:=h.oh underlying111;have U:Tryz.prog.cellsOf 284=18:=by kernel_rfl
 rw[U] at e;obtain⟨l,R,T,J⟩:=tH λr hr=>akL (h1 r hr);exact⟨l,by rw[e,R];rfl,by omega,T⟩
def afa (x:Tf):Prop:=pO x.kind/\pO x.n/\LM x.filter
theorem akN {cs:List PV}(h:Sn Tryz.prog 1048576 263 cs):∃ x:Tf,cs=(Qy mapE) x/\afa x:=by
 have h:=h.jB underlying263;obtain⟨n0,b0,rfl,w0,h⟩:=h.cs pY;obtain⟨n1,I,rfl,R,h⟩:=h.cs pY;obtain⟨U,J,rfl,T,h⟩:=h.cs QG;obtain rfl:=h.kL;exact⟨⟨n0,n1,U⟩,rfl,w0,R,T⟩
def afb (x:wC):Prop:=pO x.kind/\pO x.n/\pO x.counter/\LM x.filter
theorem akO {cs:List PV}(h:Sn Tryz.prog 1048576 265 cs):∃ x:wC,cs=(BD mapE) x/\afb x:=by
 have h:=h.jB underlying265;obtain⟨n0,b0,rfl,w0,h⟩:=h.cs pY;obtain⟨n1,C,rfl,J,h⟩:=h.cs pY;obtain⟨U,I,rfl,T,h⟩:=h.cs pY;obtain⟨n3,b3,rfl,R,h⟩:=h.cs QG;obtain rfl:=h.kL;exact⟨⟨n0,n1,U,n3⟩,rfl,w0,J,T,R⟩
def ai4 (x:Lj Int):Prop:=pO x.a0/\pO x.a1/\pO x.a2/\pO x.a3/\pO x.a4/\pO x.a5
theorem akP {cs:List PV}(h:Sn Tryz.prog 1048576 54 cs):∃ x:Lj Int,cs=(ajM (eI .i64)) x/\ai4 x:=by
 have h:=h.Q4 underlying54;obtain⟨n0,b0,rfl,w0,h⟩:=h.cs pY;obtain⟨n1,b1,rfl,T,h⟩:=h.cs pY;obtain⟨U,g,rfl,J,h⟩:=h.cs pY;obtain⟨n3,b3,rfl,C,h⟩:=h.cs pY;obtain⟨n4,b4,rfl,I,h⟩:=h.cs pY;obtain⟨n5,b5,rfl,R,h⟩:=h.cs pY;obtain rfl:=h.kL;exact⟨⟨n0,n1,U,n3,n4,n5⟩,rfl,w0,T,J,C,I,R⟩
def afc (x:iT):Prop:=pO x.op/\afa x.ref/\afb x.amount/\pO x.counter/\pO x.iI/\ok9 x.card/\LM x.filter/\ai4 x.pool/\Ze x.jY
theorem akQ {cs:List PV}(h:Sn Tryz.prog 1048576 267 cs):∃ x:iT,cs=(ni mapE) x/\afc x:=by
 have h:=h.jB underlying267;obtain⟨n0,b0,rfl,w0,h⟩:=h.cs pY;obtain⟨n1,b1,rfl,I,h⟩:=h.cs akN;obtain⟨T,b2,rfl,g,h⟩:=h.cs akO;obtain⟨n3,b3,rfl,w3,h⟩:=h.cs pY;obtain⟨n4,b4,rfl,w4,h⟩:=h.cs pY;obtain⟨n5,b5,rfl,C,h⟩:=h.cs sT9;obtain⟨n6,b6,rfl,U,h⟩:=h.cs QG;obtain⟨n7,b7,rfl,R,h⟩:=h.cs akP;obtain⟨n8,b8,rfl,J,h⟩:=h.cs ae6;obtain rfl:=h.kL;exact⟨⟨n0,n1,T,n3,n4,n5,n6,n7,n8⟩,rfl,w0,I,g,w3,w4,C,U,R,J⟩
def afd (l:List iT):Prop:=l.length<=1048576/\∀ x∈l,afc x
theorem akR {cs:List PV}(h:Sn Tryz.prog 1048576 112 cs):∃ x:List iT,cs=[.sl 64 (mapE.m iT (ni mapE) x) false]/\afd x:=by
 obtain⟨I,e,h1,h2⟩:=h.oh underlying112;have U:Tryz.prog.cellsOf 267=64:=by kernel_rfl
 rw[U] at e;obtain⟨l,R,T,J⟩:=tH λr hr=>akQ (h1 r hr);exact⟨l,by rw[e,R];rfl,by omega,T⟩
def afe (x:lu):Prop:=pO x.on/\pO x.who/\LM x.filter/\pO x.doF/\pO x.n/\pO x.iI/\pO x.counter
theorem akS {cs:List PV}(h:Sn Tryz.prog 1048576 105 cs):∃ x:lu,cs=(oU mapE) x/\afe x:=by
 have h:=h.jB underlying105;obtain⟨n0,b0,rfl,w0,h⟩:=h.cs pY;obtain⟨n1,b1,rfl,R,h⟩:=h.cs pY;obtain⟨T,b2,rfl,I,h⟩:=h.cs QG;obtain⟨n3,b3,rfl,g,h⟩:=h.cs pY;obtain⟨n4,b4,rfl,C,h⟩:=h.cs pY;obtain⟨n5,b5,rfl,J,h⟩:=h.cs pY;obtain⟨n6,b6,rfl,U,h⟩:=h.cs pY;obtain rfl:=h.kL;exact⟨⟨n0,n1,T,n3,n4,n5,n6⟩,rfl,w0,R,I,g,C,J,U⟩
def Zf (x:GAbility):Prop:=pO x.kind/\LM x.filter/\Ze x.jY/\ag7 x.price/\ok4 x.slow/\ae7 x.gG/\ok4 x.may/\ae9 x.specs/\afd x.kM/\afe x.replace
theorem aff {cs:List PV}(h:Sn Tryz.prog 1048576 114 cs):∃ x:GAbility,cs=(eGAbility mapE) x/\Zf x:=by
 have h:=h.jB underlying114;obtain⟨n0,b0,rfl,w0,h⟩:=h.cs pY;obtain⟨n1,b1,rfl,I,h⟩:=h.cs QG;obtain⟨T,b2,rfl,w2,h⟩:=h.cs ae6;obtain⟨n3,b3,rfl,w3,h⟩:=h.cs akJ;obtain⟨n4,b4,rfl,w4,h⟩:=h.cs sT4;obtain⟨n5,b5,rfl,g,h⟩:=h.cs akK;obtain⟨n6,b6,rfl,U,h⟩:=h.cs sT4;obtain⟨n7,b7,rfl,R,h⟩:=h.cs akM;obtain⟨n8,b8,rfl,J,h⟩:=h.cs akR;obtain⟨n9,b9,rfl,C,h⟩:=h.cs akS;obtain rfl:=h.kL;exact⟨⟨n0,n1,T,n3,n4,n5,n6,n7,n8,n9⟩,rfl,w0,I,w2,w3,w4,g,U,R,J,C⟩
def ai5 (l:List GAbility):Prop:=l.length<=1048576/\∀ x∈l,Zf x
theorem sT89 {cs:List PV}(h:Sn Tryz.prog 1048576 89 cs):∃ x:List GAbility,cs=[.sl 72 (mapE.m GAbility (eGAbility mapE) x) false]/\ai5 x:=by
 obtain⟨I,e,h1,h2⟩:=h.oh underlying89;have U:Tryz.prog.cellsOf 114=72:=by kernel_rfl
 rw[U] at e;obtain⟨l,R,T,J⟩:=tH λr hr=>aff (h1 r hr);exact⟨l,by rw[e,R];rfl,by omega,T⟩
def ai6 (x:GCard):Prop:=ok9 x.name/\ok4 x.token/\ai1 x.cost/\pO x.color/\ai3 x.line/\pO x.power/\pO x.ik/\pO x.keys/\ai5 x.abilities
theorem sT98 {cs:List PV}(h:Sn Tryz.prog 1048576 98 cs):∃ x:GCard,cs=(eGCard mapE) x/\ai6 x:=by
 have h:=h.jB underlying98;obtain⟨n0,b0,rfl,w0,h⟩:=h.cs sT9;obtain⟨n1,b1,rfl,I,h⟩:=h.cs sT4;obtain⟨T,b2,rfl,g,h⟩:=h.cs akH;obtain⟨n3,b3,rfl,w3,h⟩:=h.cs pY;obtain⟨n4,b4,rfl,w4,h⟩:=h.cs sT88;obtain⟨n5,b5,rfl,C,h⟩:=h.cs pY;obtain⟨n6,b6,rfl,U,h⟩:=h.cs pY;obtain⟨n7,b7,rfl,R,h⟩:=h.cs pY;obtain⟨n8,b8,rfl,J,h⟩:=h.cs sT89;obtain rfl:=h.kL;exact⟨⟨n0,n1,T,n3,n4,n5,n6,n7,n8⟩,rfl,w0,I,g,w3,w4,C,U,R,J⟩
def ai7 (l:List GCard):Prop:=l.length<=1048576/\∀ x∈l,ai6 x
theorem sT22 {cs:List PV}(h:Sn Tryz.prog 1048576 22 cs):∃ x:List GCard,cs=[.sl 17 (mapE.m GCard (eGCard mapE) x) false]/\ai7 x:=by
 obtain⟨I,e,h1,h2⟩:=h.oh underlying22;have U:Tryz.prog.cellsOf 98=17:=by kernel_rfl
 rw[U] at e;obtain⟨l,R,T,J⟩:=tH λr hr=>sT98 (h1 r hr);exact⟨l,by rw[e,R];rfl,by omega,T⟩
def UM (l:List Int):Prop:=l.length<=1048576/\∀ x∈l,pO x
theorem Zg {cs:List PV}(h:Sn Tryz.prog 1048576 25 cs):∃ x:List Int,cs=[.sl 1 (mapE.m Int (eI .i64) x) false]/\UM x:=by
 obtain⟨I,e,h1,h2⟩:=h.oh underlying25;have U:Tryz.prog.cellsOf 3=1:=by kernel_rfl
 rw[U] at e;obtain⟨l,R,T,J⟩:=tH λr hr=>pY (h1 r hr);exact⟨l,by rw[e,R];rfl,by omega,T⟩
def ai8 (x:oP):Prop:=pO x.life/\pO x.Ym/\pO x.lands/\ai4 x.pool/\ok4 x.failed/\ok4 x.lost/\UM x.library/\UM x.hand/\UM x.Ak
theorem sT56 {cs:List PV}(h:Sn Tryz.prog 1048576 56 cs):∃ x:oP,cs=(uy mapE) x/\ai8 x:=by
 have h:=h.jB underlying56;obtain⟨n0,b0,rfl,w0,h⟩:=h.cs pY;obtain⟨n1,b1,rfl,I,h⟩:=h.cs pY;obtain⟨T,b2,rfl,g,h⟩:=h.cs pY;obtain⟨n3,b3,rfl,w3,h⟩:=h.cs akP;obtain⟨n4,b4,rfl,w4,h⟩:=h.cs sT4;obtain⟨n5,b5,rfl,C,h⟩:=h.cs sT4;obtain⟨n6,b6,rfl,U,h⟩:=h.cs Zg;obtain⟨n7,b7,rfl,R,h⟩:=h.cs Zg;obtain⟨n8,b8,rfl,J,h⟩:=h.cs Zg;obtain rfl:=h.kL;exact⟨⟨n0,n1,T,n3,n4,n5,n6,n7,n8⟩,rfl,w0,I,g,w3,w4,C,U,R,J⟩
def ai9 (l:List oP):Prop:=l.length<=1048576/\∀ x∈l,ai8 x
theorem sT23 {cs:List PV}(h:Sn Tryz.prog 1048576 23 cs):∃ x:List oP,cs=[.sl 14 (mapE.m oP (uy mapE) x) false]/\ai9 x:=by
 obtain⟨I,e,h1,h2⟩:=h.oh underlying23;have U:Tryz.prog.cellsOf 56=14:=by kernel_rfl
 rw[U] at e;obtain⟨l,R,T,J⟩:=tH λr hr=>sT56 (h1 r hr);exact⟨l,by rw[e,R];rfl,by omega,T⟩
def ok32 (x:NY Int):Prop:=pO x.a0/\pO x.a1/\pO x.a2
theorem akT {cs:List PV}(h:Sn Tryz.prog 1048576 32 cs):∃ x:NY Int,cs=(ajK (eI .i64)) x/\ok32 x:=by
 have h:=h.Q4 underlying32;obtain⟨n0,b0,rfl,w0,h⟩:=h.cs pY;obtain⟨n1,I,rfl,R,h⟩:=h.cs pY;obtain⟨U,J,rfl,T,h⟩:=h.cs pY;obtain rfl:=h.kL;exact⟨⟨n0,n1,U⟩,rfl,w0,R,T⟩
def akU (x:GObject):Prop:=pO x.id/\pO x.card/\pO x.owner/\pO x.control/\pO x.iI/\ok4 x.token/\ok4 x.lQ/\ok4 x.WC/\ok4 x.deadly/\pO x.Am/\ok32 x.counters/\pO x.stamp/\pO x.copy/\pO x.Ap/\ok4 x.blocked/\pO x.blocks/\pO x.yP
theorem sT66 {cs:List PV}(h:Sn Tryz.prog 1048576 66 cs):∃ x:GObject,cs=(eGObject mapE) x/\akU x:=by
 have h:=h.jB underlying66;obtain⟨n0,b0,rfl,w0,h⟩:=h.cs pY;obtain⟨n1,b1,rfl,w1,h⟩:=h.cs pY;obtain⟨n2,b2,rfl,w2,h⟩:=h.cs pY;obtain⟨n3,b3,rfl,w3,h⟩:=h.cs pY;obtain⟨n4,b4,rfl,w4,h⟩:=h.cs pY;obtain⟨n5,b5,rfl,w5,h⟩:=h.cs sT4;obtain⟨n6,b6,rfl,w6,h⟩:=h.cs sT4;obtain⟨n7,b7,rfl,w7,h⟩:=h.cs sT4;obtain⟨n8,b8,rfl,w8,h⟩:=h.cs sT4;obtain⟨n9,b9,rfl,w9,h⟩:=h.cs pY;obtain⟨n10,b10,rfl,J,h⟩:=h.cs akT;obtain⟨n11,b11,rfl,U,h⟩:=h.cs pY;obtain⟨n12,b12,rfl,T,h⟩:=h.cs pY;obtain⟨n13,b13,rfl,I,h⟩:=h.cs pY;obtain⟨n14,b14,rfl,g,h⟩:=h.cs sT4;obtain⟨n15,b15,rfl,R,h⟩:=h.cs pY;obtain⟨n16,b16,rfl,C,h⟩:=h.cs pY;obtain rfl:=h.kL;exact⟨⟨n0,n1,n2,n3,n4,n5,n6,n7,n8,n9,n10,n11,n12,n13,n14,n15,n16⟩,rfl,w0,w1,w2,w3,w4,w5,w6,w7,w8,w9,J,U,T,I,g,R,C⟩
def aja (l:List GObject):Prop:=l.length<=1048576/\∀ x∈l,akU x
theorem sT24 {cs:List PV}(h:Sn Tryz.prog 1048576 24 cs):∃ x:List GObject,cs=[.sl 19 (mapE.m GObject (eGObject mapE) x) false]/\aja x:=by
 obtain⟨I,e,h1,h2⟩:=h.oh underlying24;have U:Tryz.prog.cellsOf 66=19:=by kernel_rfl
 rw[U] at e;obtain⟨l,R,T,J⟩:=tH λr hr=>sT66 (h1 r hr);exact⟨l,by rw[e,R];rfl,by omega,T⟩
def ag8 (x:wE):Prop:=pO x.object/\pO x.iY
theorem akV {cs:List PV}(h:Sn Tryz.prog 1048576 210 cs):∃ x:wE,cs=(JB mapE) x/\ag8 x:=by
 have h:=h.jB underlying210;obtain⟨n0,b0,rfl,w0,h⟩:=h.cs pY;obtain⟨n1,T,rfl,U,h⟩:=h.cs pY;obtain rfl:=h.kL;exact⟨⟨n0,n1⟩,rfl,w0,U⟩
def afg (l:List wE):Prop:=l.length<=1048576/\∀ x∈l,ag8 x
theorem akW {cs:List PV}(h:Sn Tryz.prog 1048576 145 cs):∃ x:List wE,cs=[.sl 2 (mapE.m wE (JB mapE) x) false]/\afg x:=by
 obtain⟨I,e,h1,h2⟩:=h.oh underlying145;have U:Tryz.prog.cellsOf 210=2:=by kernel_rfl
 rw[U] at e;obtain⟨l,R,T,J⟩:=tH λr hr=>akV (h1 r hr);exact⟨l,by rw[e,R];rfl,by omega,T⟩
def agS (x:GEvent):Prop:=pO x.kind/\pO x.source/\pO x.object/\pO x.iY/\pO x.amount/\pO x.Ad/\pO x.to/\pO x.cause/\pO x.counter/\pO x.card/\ok4 x.D9/\ok4 x.lQ/\ok32 x.extra
theorem ajb {cs:List PV}(h:Sn Tryz.prog 1048576 34 cs):∃ x:GEvent,cs=(eGEvent mapE) x/\agS x:=by
 have h:=h.jB underlying34;obtain⟨n0,b0,rfl,w0,h⟩:=h.cs pY;obtain⟨n1,b1,rfl,I,h⟩:=h.cs pY;obtain⟨n2,b2,rfl,w2,h⟩:=h.cs pY;obtain⟨n3,b3,rfl,w3,h⟩:=h.cs pY;obtain⟨n4,b4,rfl,w4,h⟩:=h.cs pY;obtain⟨n5,b5,rfl,w5,h⟩:=h.cs pY;obtain⟨n6,b6,rfl,w6,h⟩:=h.cs pY;obtain⟨n7,b7,rfl,w7,h⟩:=h.cs pY;obtain⟨n8,b8,rfl,w8,h⟩:=h.cs pY;obtain⟨n9,b9,rfl,C,h⟩:=h.cs pY;obtain⟨n10,b10,rfl,R,h⟩:=h.cs sT4;obtain⟨n11,g,rfl,U,h⟩:=h.cs sT4;obtain⟨n12,J,rfl,T,h⟩:=h.cs akT;obtain rfl:=h.kL;exact⟨⟨n0,n1,n2,n3,n4,n5,n6,n7,n8,n9,n10,n11,n12⟩,rfl,w0,I,w2,w3,w4,w5,w6,w7,w8,C,R,U,T⟩
def afh (x:uA):Prop:=pO x.id/\pO x.kind/\pO x.source/\pO x.control/\pO x.x/\ok4 x.copy/\Zf x.gz/\afg x.targets/\agS x.event
theorem akX {cs:List PV}(h:Sn Tryz.prog 1048576 147 cs):∃ x:uA,cs=(Aq mapE) x/\afh x:=by
 have h:=h.jB underlying147;obtain⟨n0,b0,rfl,w0,h⟩:=h.cs pY;obtain⟨n1,b1,rfl,I,h⟩:=h.cs pY;obtain⟨T,b2,rfl,g,h⟩:=h.cs pY;obtain⟨n3,b3,rfl,w3,h⟩:=h.cs pY;obtain⟨n4,b4,rfl,w4,h⟩:=h.cs pY;obtain⟨n5,b5,rfl,C,h⟩:=h.cs sT4;obtain⟨n6,b6,rfl,U,h⟩:=h.cs aff;obtain⟨n7,b7,rfl,R,h⟩:=h.cs akW;obtain⟨n8,b8,rfl,J,h⟩:=h.cs ajb;obtain rfl:=h.kL;exact⟨⟨n0,n1,T,n3,n4,n5,n6,n7,n8⟩,rfl,w0,I,g,w3,w4,C,U,R,J⟩
def ajc (l:List uA):Prop:=l.length<=1048576/\∀ x∈l,afh x
theorem sT26 {cs:List PV}(h:Sn Tryz.prog 1048576 26 cs):∃ x:List uA,cs=[.sl 94 (mapE.m uA (Aq mapE) x) false]/\ajc x:=by
 obtain⟨I,e,h1,h2⟩:=h.oh underlying26;have U:Tryz.prog.cellsOf 147=94:=by kernel_rfl
 rw[U] at e;obtain⟨l,R,T,J⟩:=tH λr hr=>akX (h1 r hr);exact⟨l,by rw[e,R];rfl,by omega,T⟩
def afi (x:mD):Prop:=pO x.source/\pO x.control/\Zf x.gz/\agS x.event
theorem akY {cs:List PV}(h:Sn Tryz.prog 1048576 151 cs):∃ x:mD,cs=(wF mapE) x/\afi x:=by
 have h:=h.jB underlying151;obtain⟨n0,b0,rfl,w0,h⟩:=h.cs pY;obtain⟨n1,C,rfl,J,h⟩:=h.cs pY;obtain⟨U,I,rfl,T,h⟩:=h.cs aff;obtain⟨n3,b3,rfl,R,h⟩:=h.cs ajb;obtain rfl:=h.kL;exact⟨⟨n0,n1,U,n3⟩,rfl,w0,J,T,R⟩
def ajd (l:List mD):Prop:=l.length<=1048576/\∀ x∈l,afi x
theorem sT27 {cs:List PV}(h:Sn Tryz.prog 1048576 27 cs):∃ x:List mD,cs=[.sl 89 (mapE.m mD (wF mapE) x) false]/\ajd x:=by
 obtain⟨I,e,h1,h2⟩:=h.oh underlying27;have U:Tryz.prog.cellsOf 151=89:=by kernel_rfl
 rw[U] at e;obtain⟨l,R,T,J⟩:=tH λr hr=>akY (h1 r hr);exact⟨l,by rw[e,R];rfl,by omega,T⟩
def afj (x:uX):Prop:=pO x.stamp/\pO x.control/\pO x.source/\pO x.Ti/\UM x.objects/\Ze x.jY
theorem akZ {cs:List PV}(h:Sn Tryz.prog 1048576 155 cs):∃ x:uX,cs=(Ea mapE) x/\afj x:=by
 have h:=h.jB underlying155;obtain⟨n0,b0,rfl,w0,h⟩:=h.cs pY;obtain⟨n1,b1,rfl,T,h⟩:=h.cs pY;obtain⟨U,g,rfl,J,h⟩:=h.cs pY;obtain⟨n3,b3,rfl,C,h⟩:=h.cs pY;obtain⟨n4,b4,rfl,I,h⟩:=h.cs Zg;obtain⟨n5,b5,rfl,R,h⟩:=h.cs ae6;obtain rfl:=h.kL;exact⟨⟨n0,n1,U,n3,n4,n5⟩,rfl,w0,T,J,C,I,R⟩
def aje (l:List uX):Prop:=l.length<=1048576/\∀ x∈l,afj x
theorem sT28 {cs:List PV}(h:Sn Tryz.prog 1048576 28 cs):∃ x:List uX,cs=[.sl 6 (mapE.m uX (Ea mapE) x) false]/\aje x:=by
 obtain⟨I,e,h1,h2⟩:=h.oh underlying28;have U:Tryz.prog.cellsOf 155=6:=by kernel_rfl
 rw[U] at e;obtain⟨l,R,T,J⟩:=tH λr hr=>akZ (h1 r hr);exact⟨l,by rw[e,R];rfl,by omega,T⟩
def ak0 (x:Int):Prop:=(Lit.int .u64 x).wf=true
theorem sT29 {cs:List PV}(h:Sn Tryz.prog 1048576 29 cs):∃ x:Int,cs=(eI .u64) x/\ak0 x:=by
 obtain⟨n,e,U⟩:=h.Ws underlying29;exact⟨n,e,U⟩
def ajf (x:GState):Prop:=ai9 x.jk/\aja x.objects/\UM x.qW/\UM x.Oa/\ajc x.stack/\ajd x.waiting/\aje x.uB/\pO x.turn/\pO x.Cf/\pO x.step/\ok4 x.begun/\pO x.priority/\pO x.passes/\pO x.nextId/\pO x.sG/\ak0 x.seed/\UM x.extra/\pO x.over/\pO x.Iq
theorem sT31 {cs:List PV}(h:Sn Tryz.prog 1048576 31 cs):∃ x:GState,cs=(eGState mapE) x/\ajf x:=by
 have h:=h.jB underlying31;obtain⟨n0,b0,rfl,w0,h⟩:=h.cs sT23;obtain⟨n1,b1,rfl,w1,h⟩:=h.cs sT24;obtain⟨n2,b2,rfl,w2,h⟩:=h.cs Zg;obtain⟨n3,b3,rfl,w3,h⟩:=h.cs Zg;obtain⟨n4,b4,rfl,w4,h⟩:=h.cs sT26;obtain⟨n5,b5,rfl,w5,h⟩:=h.cs sT27;obtain⟨n6,b6,rfl,w6,h⟩:=h.cs sT28;obtain⟨n7,b7,rfl,w7,h⟩:=h.cs pY;obtain⟨n8,b8,rfl,w8,h⟩:=h.cs pY;obtain⟨n9,b9,rfl,w9,h⟩:=h.cs pY;obtain⟨n10,b10,rfl,J,h⟩:=h.cs sT4;obtain⟨n11,b11,rfl,U,h⟩:=h.cs pY;obtain⟨n12,b12,rfl,T,h⟩:=h.cs pY;obtain⟨n13,b13,rfl,C,h⟩:=h.cs pY;obtain⟨n14,b14,rfl,w14,h⟩:=h.cs pY;obtain⟨n15,b15,rfl,R,h⟩:=h.cs sT29;obtain⟨n16,b16,rfl,g,h⟩:=h.cs Zg;obtain⟨n17,b17,rfl,w17,h⟩:=h.cs pY;obtain⟨n18,b18,rfl,I,h⟩:=h.cs pY;obtain rfl:=h.kL;exact⟨⟨n0,n1,n2,n3,n4,n5,n6,n7,n8,n9,n10,n11,n12,n13,n14,n15,n16,n17,n18⟩,rfl,w0,w1,w2,w3,w4,w5,w6,w7,w8,w9,J,U,T,C,w14,R,g,w17,I⟩
def ajg (l:List (List Int)):Prop:=l.length<=1048576/\∀ x∈l,UM x
theorem sT35 {cs:List PV}(h:Sn Tryz.prog 1048576 35 cs):∃ x:List (List Int),cs=[.sl 1 (mapE.m (List Int) (eL mapE 1 (eI .i64)) x) false]/\ajg x:=by
 obtain⟨I,e,h1,h2⟩:=h.oh underlying35;have U:Tryz.prog.cellsOf 25=1:=by kernel_rfl
 rw[U] at e;obtain⟨l,R,T,J⟩:=tH λr hr=>Zg (h1 r hr);exact⟨l,by rw[e,R];rfl,by omega,T⟩
def ajh (x:qA):Prop:=ai7 x.cards/\ajf x.s/\agS x.e/\ajg x.answers
theorem sT37 {cs:List PV}(h:Sn Tryz.prog 1048576 37 cs):∃ x:qA,cs=(yt mapE) x/\ajh x:=by
 have h:=h.jB underlying37;obtain⟨n0,b0,rfl,w0,h⟩:=h.cs sT22;obtain⟨n1,C,rfl,J,h⟩:=h.cs sT31;obtain⟨U,I,rfl,T,h⟩:=h.cs ajb;obtain⟨n3,b3,rfl,R,h⟩:=h.cs sT35;obtain rfl:=h.kL;exact⟨⟨n0,n1,U,n3⟩,rfl,w0,J,T,R⟩
theorem z9 {x:ByteArray}(h:ok9 x):F9 x:=h
theorem z86 {x:List ByteArray}(h:ai2 x):(qL F9) x:=⟨h.1,λy hy=>z9 (h.2 y hy)⟩
theorem z88 {x:wO}(h:ai3 x):yH x:=z86 (h.2.2)
theorem Zh {x:jf}(h:LM x):kF x:=z9 (h.2.2.2.2.2.2.2.1)
theorem z215 {x:jv}(h:ae5 x):vC x:=⟨z9 (h.2.2.2.1),Zh (h.2.2.2.2)⟩
theorem aji {x:List jv}(h:Ze x):(qL vC) x:=⟨h.1,λy hy=>z215 (h.2 y hy)⟩
theorem z110 {x:vP}(h:ae7 x):ED x:=Zh (h.2.2)
theorem z284 {x:oJ}(h:ae8 x):Fz x:=Zh (h.2.2)
theorem z111 {x:List oJ}(h:ae9 x):(qL Fz) x:=⟨h.1,λy hy=>z284 (h.2 y hy)⟩
theorem z263 {x:Tf}(h:afa x):WW x:=Zh (h.2.2)
theorem z265 {x:wC}(h:afb x):Ld x:=Zh (h.2.2.2)
theorem z267 {x:iT}(h:afc x):l9 x:=⟨z263 (h.2.1),z265 (h.2.2.1),z9 (h.2.2.2.2.2.1),Zh (h.2.2.2.2.2.2.1),aji (h.2.2.2.2.2.2.2.2)⟩
theorem z112 {x:List iT}(h:afd x):(qL l9) x:=⟨h.1,λy hy=>z267 (h.2 y hy)⟩
theorem z105 {x:lu}(h:afe x):xR x:=Zh (h.2.2.1)
theorem ajj {x:GAbility}(h:Zf x):kY x:=⟨Zh (h.2.1),aji (h.2.2.1),z110 (h.2.2.2.2.2.1),z111 (h.2.2.2.2.2.2.2.1),z112 (h.2.2.2.2.2.2.2.2.1),z105 (h.2.2.2.2.2.2.2.2.2)⟩
theorem z89 {x:List GAbility}(h:ai5 x):(qL kY) x:=⟨h.1,λy hy=>ajj (h.2 y hy)⟩
theorem z98 {x:GCard}(h:ai6 x):lT x:=⟨z9 (h.1),z88 (h.2.2.2.2.1),z89 (h.2.2.2.2.2.2.2.2)⟩
theorem z22 {x:List GCard}(h:ai7 x):(qL lT) x:=⟨h.1,λy hy=>z98 (h.2 y hy)⟩
theorem z25 {x:List Int}(h:UM x):(qL (λ(_:Int)=>True)) x:=⟨h.1,λy hy=>trivial⟩
theorem z56 {x:oP}(h:ai8 x):yC x:=⟨z25 (h.2.2.2.2.2.2.1),z25 (h.2.2.2.2.2.2.2.1),z25 (h.2.2.2.2.2.2.2.2)⟩
theorem z23 {x:List oP}(h:ai9 x):(qL yC) x:=⟨h.1,λy hy=>z56 (h.2 y hy)⟩
theorem z24 {x:List GObject}(h:aja x):(qL (λ(_:GObject)=>True)) x:=⟨h.1,λy hy=>trivial⟩
theorem z145 {x:List wE}(h:afg x):(qL (λ(_:wE)=>True)) x:=⟨h.1,λy hy=>trivial⟩
theorem z147 {x:uA}(h:afh x):IW x:=⟨ajj (h.2.2.2.2.2.2.1),z145 (h.2.2.2.2.2.2.2.1)⟩
theorem z26 {x:List uA}(h:ajc x):(qL IW) x:=⟨h.1,λy hy=>z147 (h.2 y hy)⟩
theorem z151 {x:mD}(h:afi x):EE x:=ajj (h.2.2.1)
theorem z27 {x:List mD}(h:ajd x):(qL EE) x:=⟨h.1,λy hy=>z151 (h.2 y hy)⟩
theorem z155 {x:uX}(h:afj x):OJ x:=⟨z25 (h.2.2.2.2.1),aji (h.2.2.2.2.2)⟩
theorem z28 {x:List uX}(h:aje x):(qL OJ) x:=⟨h.1,λy hy=>z155 (h.2 y hy)⟩
theorem z31 {x:GState}(h:ajf x):jE x:=⟨z23 (h.1),z24 (h.2.1),z25 (h.2.2.1),z25 (h.2.2.2.1),z26 (h.2.2.2.2.1),z27 (h.2.2.2.2.2.1),z28 (h.2.2.2.2.2.2.1),z25 (h.2.2.2.2.2.2.2.2.2.2.2.2.2.2.2.2.1)⟩
theorem z35 {x:List (List Int)}(h:ajg x):(qL (qL (λ(_:Int)=>True))) x:=⟨h.1,λy hy=>z25 (h.2 y hy)⟩
theorem z37 {x:qA}(h:ajh x):O3 x:=⟨z22 (h.1),z31 (h.2.1),z35 (h.2.2.2)⟩
theorem sV37 {p:PV}(h:SnV Tryz.prog 1048576 37 p):∃ x:qA,p=.agg ((yt mapE) x)/\ajh x:=by
 obtain⟨cs,rfl,h2⟩:=h.abm aP;obtain⟨x,rfl,hx⟩:=sT37 h2;exact⟨x,rfl,hx⟩
end Go.Proofs.YtchmoabpofnbaaaGreat
