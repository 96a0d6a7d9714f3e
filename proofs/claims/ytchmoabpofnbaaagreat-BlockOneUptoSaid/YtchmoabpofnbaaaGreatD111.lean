import Derived.Test.YtchmoabpofnbaaaGreatD103
import Derived.Test.YtchmoabpofnbaaaGreatD110
set_option linter.all false
namespace Go.Pv
theorem SnL.cs {P:Program}{N:Nat}{t:TypeId}{ts:List TypeId}{cs:List PV}(h:SnL P N (t::ts) cs){α:Type}{e:α->List PV}{ok:α->Prop}(s:∀ {c:List PV},Sn P N t c->∃ x,c=e x/\ok x):∃ x b,cs=e x++b/\ok x/\SnL P N ts b:=by
 obtain⟨a,b,rfl,k,g⟩:=h.He;obtain⟨x,rfl,w⟩:=s k;exact⟨x,b,rfl,w,g⟩
end Go.Pv
namespace Go.Proofs.YtchmoabpofnbaaaGreat
open Go Go.Pv Proofs.Tryz
def ok9 (s:ByteArray):Prop:=s.size<=1048576
theorem sT9 {cs:List PV}(h:Sn Tryz.prog 1048576 9 cs):∃ x:ByteArray,cs=eS x/\ok9 x:=by
 obtain⟨n,e,T⟩:=h.aeO underlying9;exact⟨n,e,T⟩
def ok4 (_:Bool):Prop:=True
theorem sT4 {cs:List PV}(h:Sn Tryz.prog 1048576 4 cs):∃ x:Bool,cs=eB x/\ok4 x:=by
 obtain⟨n,e⟩:=h.ab2 underlying4;exact⟨n,e,trivial⟩
def rG (x:Int):Prop:=(Lit.int .i64 x).wf=true
theorem rO {cs:List PV}(h:Sn Tryz.prog 1048576 3 cs):∃ x:Int,cs=(eI .i64) x/\rG x:=by
 obtain⟨n,e,T⟩:=h.Z9 underlying3;exact⟨n,e,T⟩
def anj (x:adw Int):Prop:=rG x.a0/\rG x.a1/\rG x.a2/\rG x.a3/\rG x.a4
theorem sT83 {cs:List PV}(h:Sn Tryz.prog 1048576 83 cs):∃ x:adw Int,cs=(amE (eI .i64)) x/\anj x:=by
 have h:=h.VO underlying83;obtain⟨n0,b0,rfl,w0,h⟩:=h.cs rO;obtain⟨n1,g,rfl,I,h⟩:=h.cs rO;obtain⟨T,b2,rfl,t,h⟩:=h.cs rO;obtain⟨n3,b3,rfl,C,h⟩:=h.cs rO;obtain⟨n4,b4,rfl,J,h⟩:=h.cs rO;obtain rfl:=h.mG;exact⟨⟨n0,n1,T,n3,n4⟩,rfl,w0,I,t,C,J⟩
def al1 (x:pz):Prop:=rG x.generic/\rG x.x/\anj x.color
theorem ank {cs:List PV}(h:Sn Tryz.prog 1048576 85 cs):∃ x:pz,cs=(rD kJ) x/\al1 x:=by
 have h:=h.kP underlying85;obtain⟨n0,b0,rfl,w0,h⟩:=h.cs rO;obtain⟨n1,C,rfl,J,h⟩:=h.cs rO;obtain⟨T,t,rfl,I,h⟩:=h.cs sT83;obtain rfl:=h.mG;exact⟨⟨n0,n1,T⟩,rfl,w0,J,I⟩
def al2 (l:List ByteArray):Prop:=l.length<=1048576/\∀ x∈l,ok9 x
theorem sT86 {cs:List PV}(h:Sn Tryz.prog 1048576 86 cs):∃ x:List ByteArray,cs=[.sl 1 (kJ.m ByteArray eS x) false]/\al2 x:=by
 obtain⟨I,e,h1,h2⟩:=h.qE underlying86;have hc:Tryz.prog.cellsOf 9=1:=by kernel_rfl
 rw[hc] at e;obtain⟨l,J,T,C⟩:=wI λr hr=>sT9 (h1 r hr);exact⟨l,by rw[e,J];rfl,by omega,T⟩
def al3 (x:rZ):Prop:=rG x.KO/\rG x.types/\al2 x.subs
theorem sT88 {cs:List PV}(h:Sn Tryz.prog 1048576 88 cs):∃ x:rZ,cs=(Fq kJ) x/\al3 x:=by
 have h:=h.kP underlying88;obtain⟨n0,b0,rfl,w0,h⟩:=h.cs rO;obtain⟨n1,C,rfl,J,h⟩:=h.cs rO;obtain⟨T,t,rfl,I,h⟩:=h.cs sT86;obtain rfl:=h.mG;exact⟨⟨n0,n1,T⟩,rfl,w0,J,I⟩
def afs (x:sQ):Prop:=rG x.kind/\rG x.n
theorem aiS {cs:List PV}(h:Sn Tryz.prog 1048576 101 cs):∃ x:sQ,cs=(En kJ) x/\afs x:=by
 have h:=h.kP underlying101;obtain⟨n0,b0,rfl,w0,h⟩:=h.cs rO;obtain⟨n1,J,rfl,T,h⟩:=h.cs rO;obtain rfl:=h.mG;exact⟨⟨n0,n1⟩,rfl,w0,T⟩
def Qg (x:iO):Prop:=rG x.iL/\rG x.who/\rG x.self/\rG x.types/\rG x.iG/\rG x.gZ/\rG x.gX/\ok9 x.sub/\rG x.keys/\rG x.Bf/\afs x.power/\afs x.gK/\afs x.value
theorem Vr {cs:List PV}(h:Sn Tryz.prog 1048576 103 cs):∃ x:iO,cs=(jm kJ) x/\Qg x:=by
 have h:=h.kP underlying103;obtain⟨n0,b0,rfl,w0,h⟩:=h.cs rO;obtain⟨n1,b1,rfl,w1,h⟩:=h.cs rO;obtain⟨C,b2,rfl,w2,h⟩:=h.cs rO;obtain⟨n3,b3,rfl,w3,h⟩:=h.cs rO;obtain⟨n4,b4,rfl,g,h⟩:=h.cs rO;obtain⟨n5,b5,rfl,w5,h⟩:=h.cs rO;obtain⟨n6,b6,rfl,w6,h⟩:=h.cs rO;obtain⟨n7,b7,rfl,w7,h⟩:=h.cs sT9;obtain⟨n8,b8,rfl,t,h⟩:=h.cs rO;obtain⟨n9,b9,rfl,w9,h⟩:=h.cs rO;obtain⟨n10,b10,rfl,T,h⟩:=h.cs aiS;obtain⟨n11,b11,rfl,I,h⟩:=h.cs aiS;obtain⟨n12,b12,rfl,J,h⟩:=h.cs aiS;obtain rfl:=h.mG;exact⟨⟨n0,n1,C,n3,n4,n5,n6,n7,n8,n9,n10,n11,n12⟩,rfl,w0,w1,w2,w3,g,w5,w6,w7,t,w9,T,I,J⟩
def aiT (x:jP):Prop:=rG x.kind/\rG x.n/\rG x.m/\ok9 x.sub/\Qg x.filter
theorem anl {cs:List PV}(h:Sn Tryz.prog 1048576 215 cs):∃ x:jP,cs=(zk kJ) x/\aiT x:=by
 have h:=h.kP underlying215;obtain⟨n0,b0,rfl,w0,h⟩:=h.cs rO;obtain⟨n1,g,rfl,I,h⟩:=h.cs rO;obtain⟨T,b2,rfl,t,h⟩:=h.cs rO;obtain⟨n3,b3,rfl,C,h⟩:=h.cs sT9;obtain⟨n4,b4,rfl,J,h⟩:=h.cs Vr;obtain rfl:=h.mG;exact⟨⟨n0,n1,T,n3,n4⟩,rfl,w0,I,t,C,J⟩
def acO (l:List jP):Prop:=l.length<=1048576/\∀ x∈l,aiT x
theorem aiU {cs:List PV}(h:Sn Tryz.prog 1048576 106 cs):∃ x:List jP,cs=[.sl 20 (kJ.m jP (zk kJ) x) false]/\acO x:=by
 obtain⟨I,e,h1,h2⟩:=h.qE underlying106;have hc:Tryz.prog.cellsOf 215=20:=by kernel_rfl
 rw[hc] at e;obtain⟨l,J,T,C⟩:=wI λr hr=>anl (h1 r hr);exact⟨l,by rw[e,J];rfl,by omega,T⟩
def akS (x:LX):Prop:=al1 x.Fj/\ok4 x.Bf/\ok4 x.KN/\rG x.life
theorem anm {cs:List PV}(h:Sn Tryz.prog 1048576 108 cs):∃ x:LX,cs=(BP kJ) x/\akS x:=by
 have h:=h.kP underlying108;obtain⟨n0,b0,rfl,w0,h⟩:=h.cs ank;obtain⟨n1,t,rfl,J,h⟩:=h.cs sT4;obtain⟨T,g,rfl,C,h⟩:=h.cs sT4;obtain⟨n3,b3,rfl,I,h⟩:=h.cs rO;obtain rfl:=h.mG;exact⟨⟨n0,n1,T,n3⟩,rfl,w0,J,C,I⟩
def aiV (x:yf):Prop:=rG x.when/\rG x.who/\Qg x.filter
theorem ann {cs:List PV}(h:Sn Tryz.prog 1048576 110 cs):∃ x:yf,cs=(qf kJ) x/\aiV x:=by
 have h:=h.kP underlying110;obtain⟨n0,b0,rfl,w0,h⟩:=h.cs rO;obtain⟨n1,C,rfl,J,h⟩:=h.cs rO;obtain⟨T,t,rfl,I,h⟩:=h.cs Vr;obtain rfl:=h.mG;exact⟨⟨n0,n1,T⟩,rfl,w0,J,I⟩
def aiW (x:sS):Prop:=ok4 x.lI/\ok4 x.object/\Qg x.filter
theorem ano {cs:List PV}(h:Sn Tryz.prog 1048576 284 cs):∃ x:sS,cs=(LY kJ) x/\aiW x:=by
 have h:=h.kP underlying284;obtain⟨n0,b0,rfl,w0,h⟩:=h.cs sT4;obtain⟨n1,C,rfl,J,h⟩:=h.cs sT4;obtain⟨T,t,rfl,I,h⟩:=h.cs Vr;obtain rfl:=h.mG;exact⟨⟨n0,n1,T⟩,rfl,w0,J,I⟩
def aiX (l:List sS):Prop:=l.length<=1048576/\∀ x∈l,aiW x
theorem anp {cs:List PV}(h:Sn Tryz.prog 1048576 111 cs):∃ x:List sS,cs=[.sl 18 (kJ.m sS (LY kJ) x) false]/\aiX x:=by
 obtain⟨I,e,h1,h2⟩:=h.qE underlying111;have hc:Tryz.prog.cellsOf 284=18:=by kernel_rfl
 rw[hc] at e;obtain⟨l,J,T,C⟩:=wI λr hr=>ano (h1 r hr);exact⟨l,by rw[e,J];rfl,by omega,T⟩
def aiY (x:Xm):Prop:=rG x.kind/\rG x.n/\Qg x.filter
theorem anq {cs:List PV}(h:Sn Tryz.prog 1048576 263 cs):∃ x:Xm,cs=(Y8 kJ) x/\aiY x:=by
 have h:=h.kP underlying263;obtain⟨n0,b0,rfl,w0,h⟩:=h.cs rO;obtain⟨n1,C,rfl,J,h⟩:=h.cs rO;obtain⟨T,t,rfl,I,h⟩:=h.cs Vr;obtain rfl:=h.mG;exact⟨⟨n0,n1,T⟩,rfl,w0,J,I⟩
def aiZ (x:Ae):Prop:=rG x.kind/\rG x.n/\rG x.counter/\Qg x.filter
theorem anr {cs:List PV}(h:Sn Tryz.prog 1048576 265 cs):∃ x:Ae,cs=(Ie kJ) x/\aiZ x:=by
 have h:=h.kP underlying265;obtain⟨n0,b0,rfl,w0,h⟩:=h.cs rO;obtain⟨n1,t,rfl,J,h⟩:=h.cs rO;obtain⟨T,g,rfl,C,h⟩:=h.cs rO;obtain⟨n3,b3,rfl,I,h⟩:=h.cs Vr;obtain rfl:=h.mG;exact⟨⟨n0,n1,T,n3⟩,rfl,w0,J,C,I⟩
def al4 (x:TZ Int):Prop:=rG x.a0/\rG x.a1/\rG x.a2/\rG x.a3/\rG x.a4/\rG x.a5
theorem ant {cs:List PV}(h:Sn Tryz.prog 1048576 54 cs):∃ x:TZ Int,cs=(amF (eI .i64)) x/\al4 x:=by
 have h:=h.VO underlying54;obtain⟨n0,b0,rfl,w0,h⟩:=h.cs rO;obtain⟨n1,b1,rfl,C,h⟩:=h.cs rO;obtain⟨T,b2,rfl,g,h⟩:=h.cs rO;obtain⟨n3,b3,rfl,t,h⟩:=h.cs rO;obtain⟨n4,b4,rfl,J,h⟩:=h.cs rO;obtain⟨n5,b5,rfl,I,h⟩:=h.cs rO;obtain rfl:=h.mG;exact⟨⟨n0,n1,T,n3,n4,n5⟩,rfl,w0,C,g,t,J,I⟩
def ai0 (x:iK):Prop:=rG x.op/\aiY x.ref/\aiZ x.amount/\rG x.counter/\rG x.iL/\ok9 x.card/\Qg x.filter/\al4 x.pool/\acO x.fP
theorem anu {cs:List PV}(h:Sn Tryz.prog 1048576 267 cs):∃ x:iK,cs=(xZ kJ) x/\ai0 x:=by
 have h:=h.kP underlying267;obtain⟨n0,b0,rfl,w0,h⟩:=h.cs rO;obtain⟨n1,b1,rfl,g,h⟩:=h.cs anq;obtain⟨T,b2,rfl,w2,h⟩:=h.cs anr;obtain⟨n3,b3,rfl,w3,h⟩:=h.cs rO;obtain⟨n4,b4,rfl,I,h⟩:=h.cs rO;obtain⟨n5,b5,rfl,t,h⟩:=h.cs sT9;obtain⟨n6,b6,rfl,C,h⟩:=h.cs Vr;obtain⟨n7,b7,rfl,w7,h⟩:=h.cs ant;obtain⟨n8,b8,rfl,J,h⟩:=h.cs aiU;obtain rfl:=h.mG;exact⟨⟨n0,n1,T,n3,n4,n5,n6,n7,n8⟩,rfl,w0,g,w2,w3,I,t,C,w7,J⟩
def ai1 (l:List iK):Prop:=l.length<=1048576/\∀ x∈l,ai0 x
theorem anv {cs:List PV}(h:Sn Tryz.prog 1048576 112 cs):∃ x:List iK,cs=[.sl 64 (kJ.m iK (xZ kJ) x) false]/\ai1 x:=by
 obtain⟨I,e,h1,h2⟩:=h.qE underlying112;have hc:Tryz.prog.cellsOf 267=64:=by kernel_rfl
 rw[hc] at e;obtain⟨l,J,T,C⟩:=wI λr hr=>anu (h1 r hr);exact⟨l,by rw[e,J];rfl,by omega,T⟩
def ai2 (x:qM):Prop:=rG x.on/\rG x.who/\Qg x.filter/\rG x.doF/\rG x.n/\rG x.iL/\rG x.counter
theorem anw {cs:List PV}(h:Sn Tryz.prog 1048576 105 cs):∃ x:qM,cs=(qR kJ) x/\ai2 x:=by
 have h:=h.kP underlying105;obtain⟨n0,b0,rfl,w0,h⟩:=h.cs rO;obtain⟨n1,b1,rfl,t,h⟩:=h.cs rO;obtain⟨T,b2,rfl,w2,h⟩:=h.cs Vr;obtain⟨n3,b3,rfl,g,h⟩:=h.cs rO;obtain⟨n4,b4,rfl,J,h⟩:=h.cs rO;obtain⟨n5,b5,rfl,C,h⟩:=h.cs rO;obtain⟨n6,b6,rfl,I,h⟩:=h.cs rO;obtain rfl:=h.mG;exact⟨⟨n0,n1,T,n3,n4,n5,n6⟩,rfl,w0,t,w2,g,J,C,I⟩
def acP (x:gz):Prop:=rG x.kind/\Qg x.filter/\acO x.fP/\akS x.price/\ok4 x.slow/\aiV x.gI/\ok4 x.may/\aiX x.specs/\ai1 x.jJ/\ai2 x.replace
theorem ai3 {cs:List PV}(h:Sn Tryz.prog 1048576 114 cs):∃ x:gz,cs=(jH kJ) x/\acP x:=by
 have h:=h.kP underlying114;obtain⟨n0,b0,rfl,w0,h⟩:=h.cs rO;obtain⟨n1,b1,rfl,g,h⟩:=h.cs Vr;obtain⟨T,b2,rfl,w2,h⟩:=h.cs aiU;obtain⟨n3,b3,rfl,w3,h⟩:=h.cs anm;obtain⟨n4,b4,rfl,I,h⟩:=h.cs sT4;obtain⟨n5,b5,rfl,t,h⟩:=h.cs ann;obtain⟨n6,b6,rfl,C,h⟩:=h.cs sT4;obtain⟨n7,b7,rfl,w7,h⟩:=h.cs anp;obtain⟨n8,b8,rfl,J,h⟩:=h.cs anv;obtain⟨n9,b9,rfl,w9,h⟩:=h.cs anw;obtain rfl:=h.mG;exact⟨⟨n0,n1,T,n3,n4,n5,n6,n7,n8,n9⟩,rfl,w0,g,w2,w3,I,t,C,w7,J,w9⟩
def al5 (l:List gz):Prop:=l.length<=1048576/\∀ x∈l,acP x
theorem sT89 {cs:List PV}(h:Sn Tryz.prog 1048576 89 cs):∃ x:List gz,cs=[.sl 72 (kJ.m gz (jH kJ) x) false]/\al5 x:=by
 obtain⟨I,e,h1,h2⟩:=h.qE underlying89;have hc:Tryz.prog.cellsOf 114=72:=by kernel_rfl
 rw[hc] at e;obtain⟨l,J,T,C⟩:=wI λr hr=>ai3 (h1 r hr);exact⟨l,by rw[e,J];rfl,by omega,T⟩
def al6 (x:gV):Prop:=ok9 x.name/\ok4 x.token/\al1 x.cost/\rG x.color/\al3 x.line/\rG x.power/\rG x.gK/\rG x.keys/\al5 x.fC
theorem sT98 {cs:List PV}(h:Sn Tryz.prog 1048576 98 cs):∃ x:gV,cs=(zy kJ) x/\al6 x:=by
 have h:=h.kP underlying98;obtain⟨n0,b0,rfl,w0,h⟩:=h.cs sT9;obtain⟨n1,b1,rfl,g,h⟩:=h.cs sT4;obtain⟨T,b2,rfl,w2,h⟩:=h.cs ank;obtain⟨n3,b3,rfl,w3,h⟩:=h.cs rO;obtain⟨n4,b4,rfl,I,h⟩:=h.cs sT88;obtain⟨n5,b5,rfl,t,h⟩:=h.cs rO;obtain⟨n6,b6,rfl,C,h⟩:=h.cs rO;obtain⟨n7,b7,rfl,w7,h⟩:=h.cs rO;obtain⟨n8,b8,rfl,J,h⟩:=h.cs sT89;obtain rfl:=h.mG;exact⟨⟨n0,n1,T,n3,n4,n5,n6,n7,n8⟩,rfl,w0,g,w2,w3,I,t,C,w7,J⟩
def al7 (l:List gV):Prop:=l.length<=1048576/\∀ x∈l,al6 x
theorem sT22 {cs:List PV}(h:Sn Tryz.prog 1048576 22 cs):∃ x:List gV,cs=[.sl 17 (kJ.m gV (zy kJ) x) false]/\al7 x:=by
 obtain⟨I,e,h1,h2⟩:=h.qE underlying22;have hc:Tryz.prog.cellsOf 98=17:=by kernel_rfl
 rw[hc] at e;obtain⟨l,J,T,C⟩:=wI λr hr=>sT98 (h1 r hr);exact⟨l,by rw[e,J];rfl,by omega,T⟩
def Yn (l:List Int):Prop:=l.length<=1048576/\∀ x∈l,rG x
theorem acQ {cs:List PV}(h:Sn Tryz.prog 1048576 25 cs):∃ x:List Int,cs=[.sl 1 (kJ.m Int (eI .i64) x) false]/\Yn x:=by
 obtain⟨I,e,h1,h2⟩:=h.qE underlying25;have hc:Tryz.prog.cellsOf 3=1:=by kernel_rfl
 rw[hc] at e;obtain⟨l,J,T,C⟩:=wI λr hr=>rO (h1 r hr);exact⟨l,by rw[e,J];rfl,by omega,T⟩
def al8 (x:jl):Prop:=rG x.life/\rG x.acf/\rG x.lands/\al4 x.pool/\ok4 x.failed/\ok4 x.lost/\Yn x.library/\Yn x.hand/\Yn x.yY
theorem sT56 {cs:List PV}(h:Sn Tryz.prog 1048576 56 cs):∃ x:jl,cs=(vw kJ) x/\al8 x:=by
 have h:=h.kP underlying56;obtain⟨n0,b0,rfl,w0,h⟩:=h.cs rO;obtain⟨n1,b1,rfl,g,h⟩:=h.cs rO;obtain⟨T,b2,rfl,w2,h⟩:=h.cs rO;obtain⟨n3,b3,rfl,w3,h⟩:=h.cs ant;obtain⟨n4,b4,rfl,I,h⟩:=h.cs sT4;obtain⟨n5,b5,rfl,t,h⟩:=h.cs sT4;obtain⟨n6,b6,rfl,C,h⟩:=h.cs acQ;obtain⟨n7,b7,rfl,w7,h⟩:=h.cs acQ;obtain⟨n8,b8,rfl,J,h⟩:=h.cs acQ;obtain rfl:=h.mG;exact⟨⟨n0,n1,T,n3,n4,n5,n6,n7,n8⟩,rfl,w0,g,w2,w3,I,t,C,w7,J⟩
def al9 (l:List jl):Prop:=l.length<=1048576/\∀ x∈l,al8 x
theorem sT23 {cs:List PV}(h:Sn Tryz.prog 1048576 23 cs):∃ x:List jl,cs=[.sl 14 (kJ.m jl (vw kJ) x) false]/\al9 x:=by
 obtain⟨I,e,h1,h2⟩:=h.qE underlying23;have hc:Tryz.prog.cellsOf 56=14:=by kernel_rfl
 rw[hc] at e;obtain⟨l,J,T,C⟩:=wI λr hr=>sT56 (h1 r hr);exact⟨l,by rw[e,J];rfl,by omega,T⟩
def ok32 (x:NW Int):Prop:=rG x.a0/\rG x.a1/\rG x.a2
theorem anx {cs:List PV}(h:Sn Tryz.prog 1048576 32 cs):∃ x:NW Int,cs=(amD (eI .i64)) x/\ok32 x:=by
 have h:=h.VO underlying32;obtain⟨n0,b0,rfl,w0,h⟩:=h.cs rO;obtain⟨n1,C,rfl,J,h⟩:=h.cs rO;obtain⟨T,t,rfl,I,h⟩:=h.cs rO;obtain rfl:=h.mG;exact⟨⟨n0,n1,T⟩,rfl,w0,J,I⟩
def anz (x:fD):Prop:=rG x.id/\rG x.card/\rG x.owner/\rG x.control/\rG x.iL/\ok4 x.token/\ok4 x.lu/\ok4 x.aam/\ok4 x.deadly/\rG x.Ig/\ok32 x.counters/\rG x.stamp/\rG x.copy/\rG x.xI/\ok4 x.blocked/\rG x.blocks/\rG x.Fp
theorem sT66 {cs:List PV}(h:Sn Tryz.prog 1048576 66 cs):∃ x:fD,cs=(jo kJ) x/\anz x:=by
 have h:=h.kP underlying66;obtain⟨n0,b0,rfl,w0,h⟩:=h.cs rO;obtain⟨n1,b1,rfl,w1,h⟩:=h.cs rO;obtain⟨n2,b2,rfl,w2,h⟩:=h.cs rO;obtain⟨n3,b3,rfl,w3,h⟩:=h.cs rO;obtain⟨n4,b4,rfl,w4,h⟩:=h.cs rO;obtain⟨n5,b5,rfl,w5,h⟩:=h.cs sT4;obtain⟨n6,b6,rfl,w6,h⟩:=h.cs sT4;obtain⟨n7,b7,rfl,w7,h⟩:=h.cs sT4;obtain⟨n8,b8,rfl,w8,h⟩:=h.cs sT4;obtain⟨n9,b9,rfl,w9,h⟩:=h.cs rO;obtain⟨n10,b10,rfl,J,h⟩:=h.cs anx;obtain⟨n11,b11,rfl,w11,h⟩:=h.cs rO;obtain⟨n12,b12,rfl,C,h⟩:=h.cs rO;obtain⟨n13,b13,rfl,T,h⟩:=h.cs rO;obtain⟨n14,b14,rfl,g,h⟩:=h.cs sT4;obtain⟨n15,b15,rfl,I,h⟩:=h.cs rO;obtain⟨n16,b16,rfl,t,h⟩:=h.cs rO;obtain rfl:=h.mG;exact⟨⟨n0,n1,n2,n3,n4,n5,n6,n7,n8,n9,n10,n11,n12,n13,n14,n15,n16⟩,rfl,w0,w1,w2,w3,w4,w5,w6,w7,w8,w9,J,w11,C,T,g,I,t⟩
def ama (l:List fD):Prop:=l.length<=1048576/\∀ x∈l,anz x
theorem sT24 {cs:List PV}(h:Sn Tryz.prog 1048576 24 cs):∃ x:List fD,cs=[.sl 19 (kJ.m fD (jo kJ) x) false]/\ama x:=by
 obtain⟨I,e,h1,h2⟩:=h.qE underlying24;have hc:Tryz.prog.cellsOf 66=19:=by kernel_rfl
 rw[hc] at e;obtain⟨l,J,T,C⟩:=wI λr hr=>sT66 (h1 r hr);exact⟨l,by rw[e,J];rfl,by omega,T⟩
def akT (x:qI):Prop:=rG x.object/\rG x.lI
theorem anA {cs:List PV}(h:Sn Tryz.prog 1048576 210 cs):∃ x:qI,cs=(EO kJ) x/\akT x:=by
 have h:=h.kP underlying210;obtain⟨n0,b0,rfl,w0,h⟩:=h.cs rO;obtain⟨n1,J,rfl,T,h⟩:=h.cs rO;obtain rfl:=h.mG;exact⟨⟨n0,n1⟩,rfl,w0,T⟩
def ai4 (l:List qI):Prop:=l.length<=1048576/\∀ x∈l,akT x
theorem anB {cs:List PV}(h:Sn Tryz.prog 1048576 145 cs):∃ x:List qI,cs=[.sl 2 (kJ.m qI (EO kJ) x) false]/\ai4 x:=by
 obtain⟨I,e,h1,h2⟩:=h.qE underlying145;have hc:Tryz.prog.cellsOf 210=2:=by kernel_rfl
 rw[hc] at e;obtain⟨l,J,T,C⟩:=wI λr hr=>anA (h1 r hr);exact⟨l,by rw[e,J];rfl,by omega,T⟩
def amb (x:jS):Prop:=rG x.kind/\rG x.source/\rG x.object/\rG x.lI/\rG x.amount/\rG x.Vb/\rG x.to/\rG x.cause/\rG x.counter/\rG x.card/\ok4 x.QF/\ok4 x.lu/\ok32 x.extra
theorem anC {cs:List PV}(h:Sn Tryz.prog 1048576 34 cs):∃ x:jS,cs=(jT kJ) x/\amb x:=by
 have h:=h.kP underlying34;obtain⟨n0,b0,rfl,w0,h⟩:=h.cs rO;obtain⟨n1,b1,rfl,w1,h⟩:=h.cs rO;obtain⟨C,b2,rfl,w2,h⟩:=h.cs rO;obtain⟨n3,b3,rfl,w3,h⟩:=h.cs rO;obtain⟨n4,b4,rfl,g,h⟩:=h.cs rO;obtain⟨n5,b5,rfl,w5,h⟩:=h.cs rO;obtain⟨n6,b6,rfl,w6,h⟩:=h.cs rO;obtain⟨n7,b7,rfl,w7,h⟩:=h.cs rO;obtain⟨n8,b8,rfl,t,h⟩:=h.cs rO;obtain⟨n9,b9,rfl,w9,h⟩:=h.cs rO;obtain⟨n10,b10,rfl,T,h⟩:=h.cs sT4;obtain⟨n11,b11,rfl,I,h⟩:=h.cs sT4;obtain⟨n12,b12,rfl,J,h⟩:=h.cs anx;obtain rfl:=h.mG;exact⟨⟨n0,n1,C,n3,n4,n5,n6,n7,n8,n9,n10,n11,n12⟩,rfl,w0,w1,w2,w3,g,w5,w6,w7,t,w9,T,I,J⟩
def ai5 (x:nJ):Prop:=rG x.id/\rG x.kind/\rG x.source/\rG x.control/\rG x.x/\ok4 x.copy/\acP x.ja/\ai4 x.targets/\amb x.event
theorem anD {cs:List PV}(h:Sn Tryz.prog 1048576 147 cs):∃ x:nJ,cs=(zu kJ) x/\ai5 x:=by
 have h:=h.kP underlying147;obtain⟨n0,b0,rfl,w0,h⟩:=h.cs rO;obtain⟨n1,b1,rfl,g,h⟩:=h.cs rO;obtain⟨T,b2,rfl,w2,h⟩:=h.cs rO;obtain⟨n3,b3,rfl,w3,h⟩:=h.cs rO;obtain⟨n4,b4,rfl,I,h⟩:=h.cs rO;obtain⟨n5,b5,rfl,t,h⟩:=h.cs sT4;obtain⟨n6,b6,rfl,C,h⟩:=h.cs ai3;obtain⟨n7,b7,rfl,w7,h⟩:=h.cs anB;obtain⟨n8,b8,rfl,J,h⟩:=h.cs anC;obtain rfl:=h.mG;exact⟨⟨n0,n1,T,n3,n4,n5,n6,n7,n8⟩,rfl,w0,g,w2,w3,I,t,C,w7,J⟩
def amc (l:List nJ):Prop:=l.length<=1048576/\∀ x∈l,ai5 x
theorem sT26 {cs:List PV}(h:Sn Tryz.prog 1048576 26 cs):∃ x:List nJ,cs=[.sl 94 (kJ.m nJ (zu kJ) x) false]/\amc x:=by
 obtain⟨I,e,h1,h2⟩:=h.qE underlying26;have hc:Tryz.prog.cellsOf 147=94:=by kernel_rfl
 rw[hc] at e;obtain⟨l,J,T,C⟩:=wI λr hr=>anD (h1 r hr);exact⟨l,by rw[e,J];rfl,by omega,T⟩
def ai6 (x:gU):Prop:=rG x.source/\rG x.control/\acP x.ja/\amb x.event
theorem anE {cs:List PV}(h:Sn Tryz.prog 1048576 151 cs):∃ x:gU,cs=(xk kJ) x/\ai6 x:=by
 have h:=h.kP underlying151;obtain⟨n0,b0,rfl,w0,h⟩:=h.cs rO;obtain⟨n1,t,rfl,J,h⟩:=h.cs rO;obtain⟨T,g,rfl,C,h⟩:=h.cs ai3;obtain⟨n3,b3,rfl,I,h⟩:=h.cs anC;obtain rfl:=h.mG;exact⟨⟨n0,n1,T,n3⟩,rfl,w0,J,C,I⟩
def amd (l:List gU):Prop:=l.length<=1048576/\∀ x∈l,ai6 x
theorem sT27 {cs:List PV}(h:Sn Tryz.prog 1048576 27 cs):∃ x:List gU,cs=[.sl 89 (kJ.m gU (xk kJ) x) false]/\amd x:=by
 obtain⟨I,e,h1,h2⟩:=h.qE underlying27;have hc:Tryz.prog.cellsOf 151=89:=by kernel_rfl
 rw[hc] at e;obtain⟨l,J,T,C⟩:=wI λr hr=>anE (h1 r hr);exact⟨l,by rw[e,J];rfl,by omega,T⟩
def ai7 (x:pF):Prop:=rG x.stamp/\rG x.control/\rG x.source/\rG x.Xn/\Yn x.objects/\acO x.fP
theorem anF {cs:List PV}(h:Sn Tryz.prog 1048576 155 cs):∃ x:pF,cs=(AQ kJ) x/\ai7 x:=by
 have h:=h.kP underlying155;obtain⟨n0,b0,rfl,w0,h⟩:=h.cs rO;obtain⟨n1,b1,rfl,C,h⟩:=h.cs rO;obtain⟨T,b2,rfl,g,h⟩:=h.cs rO;obtain⟨n3,b3,rfl,t,h⟩:=h.cs rO;obtain⟨n4,b4,rfl,J,h⟩:=h.cs acQ;obtain⟨n5,b5,rfl,I,h⟩:=h.cs aiU;obtain rfl:=h.mG;exact⟨⟨n0,n1,T,n3,n4,n5⟩,rfl,w0,C,g,t,J,I⟩
def ame (l:List pF):Prop:=l.length<=1048576/\∀ x∈l,ai7 x
theorem sT28 {cs:List PV}(h:Sn Tryz.prog 1048576 28 cs):∃ x:List pF,cs=[.sl 6 (kJ.m pF (AQ kJ) x) false]/\ame x:=by
 obtain⟨I,e,h1,h2⟩:=h.qE underlying28;have hc:Tryz.prog.cellsOf 155=6:=by kernel_rfl
 rw[hc] at e;obtain⟨l,J,T,C⟩:=wI λr hr=>anF (h1 r hr);exact⟨l,by rw[e,J];rfl,by omega,T⟩
def anG (x:Int):Prop:=(Lit.int .u64 x).wf=true
theorem sT29 {cs:List PV}(h:Sn Tryz.prog 1048576 29 cs):∃ x:Int,cs=(eI .u64) x/\anG x:=by
 obtain⟨n,e,T⟩:=h.Z9 underlying29;exact⟨n,e,T⟩
def amf (x:dZ):Prop:=al9 x.fV/\ama x.objects/\Yn x.iF/\Yn x.pG/\amc x.stack/\amd x.waiting/\ame x.jB/\rG x.turn/\rG x.kX/\rG x.step/\ok4 x.begun/\rG x.priority/\rG x.passes/\rG x.nextId/\rG x.jI/\anG x.seed/\Yn x.extra/\rG x.over/\rG x.oC
theorem sT31 {cs:List PV}(h:Sn Tryz.prog 1048576 31 cs):∃ x:dZ,cs=(fM kJ) x/\amf x:=by
 have h:=h.kP underlying31;obtain⟨n0,b0,rfl,w0,h⟩:=h.cs sT23;obtain⟨n1,b1,rfl,w1,h⟩:=h.cs sT24;obtain⟨n2,b2,rfl,w2,h⟩:=h.cs acQ;obtain⟨n3,b3,rfl,w3,h⟩:=h.cs acQ;obtain⟨n4,b4,rfl,w4,h⟩:=h.cs sT26;obtain⟨n5,b5,rfl,w5,h⟩:=h.cs sT27;obtain⟨n6,b6,rfl,w6,h⟩:=h.cs sT28;obtain⟨n7,b7,rfl,w7,h⟩:=h.cs rO;obtain⟨n8,b8,rfl,w8,h⟩:=h.cs rO;obtain⟨n9,b9,rfl,w9,h⟩:=h.cs rO;obtain⟨n10,b10,rfl,I,h⟩:=h.cs sT4;obtain⟨n11,b11,rfl,w11,h⟩:=h.cs rO;obtain⟨n12,b12,rfl,g,h⟩:=h.cs rO;obtain⟨n13,b13,rfl,J,h⟩:=h.cs rO;obtain⟨n14,b14,rfl,w14,h⟩:=h.cs rO;obtain⟨n15,b15,rfl,C,h⟩:=h.cs sT29;obtain⟨n16,b16,rfl,w16,h⟩:=h.cs acQ;obtain⟨n17,b17,rfl,T,h⟩:=h.cs rO;obtain⟨n18,b18,rfl,t,h⟩:=h.cs rO;obtain rfl:=h.mG;exact⟨⟨n0,n1,n2,n3,n4,n5,n6,n7,n8,n9,n10,n11,n12,n13,n14,n15,n16,n17,n18⟩,rfl,w0,w1,w2,w3,w4,w5,w6,w7,w8,w9,I,w11,g,J,w14,C,w16,T,t⟩
def amg (l:List (List Int)):Prop:=l.length<=1048576/\∀ x∈l,Yn x
theorem sT35 {cs:List PV}(h:Sn Tryz.prog 1048576 35 cs):∃ x:List (List Int),cs=[.sl 1 (kJ.m (List Int) (eL kJ 1 (eI .i64)) x) false]/\amg x:=by
 obtain⟨I,e,h1,h2⟩:=h.qE underlying35;have hc:Tryz.prog.cellsOf 25=1:=by kernel_rfl
 rw[hc] at e;obtain⟨l,J,T,C⟩:=wI λr hr=>acQ (h1 r hr);exact⟨l,by rw[e,J];rfl,by omega,T⟩
theorem z9 {x:ByteArray}(h:ok9 x):szB x:=h
theorem z86 {x:List ByteArray}(h:al2 x):(uZ szB) x:=⟨h.1,λy hy=>z9 (h.2 y hy)⟩
theorem z88 {x:rZ}(h:al3 x):Dp x:=z86 (h.2.2)
theorem acR {x:iO}(h:Qg x):kL x:=z9 (h.2.2.2.2.2.2.2.1)
theorem z215 {x:jP}(h:aiT x):rX x:=⟨z9 (h.2.2.2.1),acR (h.2.2.2.2)⟩
theorem amh {x:List jP}(h:acO x):(uZ rX) x:=⟨h.1,λy hy=>z215 (h.2 y hy)⟩
theorem z110 {x:yf}(h:aiV x):D9 x:=acR (h.2.2)
theorem z284 {x:sS}(h:aiW x):MZ x:=acR (h.2.2)
theorem z111 {x:List sS}(h:aiX x):(uZ MZ) x:=⟨h.1,λy hy=>z284 (h.2 y hy)⟩
theorem z263 {x:Xm}(h:aiY x):Uw x:=acR (h.2.2)
theorem z265 {x:Ae}(h:aiZ x):Ha x:=acR (h.2.2.2)
theorem z267 {x:iK}(h:ai0 x):qG x:=⟨z263 (h.2.1),z265 (h.2.2.1),z9 (h.2.2.2.2.2.1),acR (h.2.2.2.2.2.2.1),amh (h.2.2.2.2.2.2.2.2)⟩
theorem z112 {x:List iK}(h:ai1 x):(uZ qG) x:=⟨h.1,λy hy=>z267 (h.2 y hy)⟩
theorem z105 {x:qM}(h:ai2 x):yN x:=acR (h.2.2.1)
theorem ami {x:gz}(h:acP x):kQ x:=⟨acR (h.2.1),amh (h.2.2.1),z110 (h.2.2.2.2.2.1),z111 (h.2.2.2.2.2.2.2.1),z112 (h.2.2.2.2.2.2.2.2.1),z105 (h.2.2.2.2.2.2.2.2.2)⟩
theorem z89 {x:List gz}(h:al5 x):(uZ kQ) x:=⟨h.1,λy hy=>ami (h.2 y hy)⟩
theorem z98 {x:gV}(h:al6 x):nU x:=⟨z9 (h.1),z88 (h.2.2.2.2.1),z89 (h.2.2.2.2.2.2.2.2)⟩
theorem z22 {x:List gV}(h:al7 x):(uZ nU) x:=⟨h.1,λy hy=>z98 (h.2 y hy)⟩
theorem z25 {x:List Int}(h:Yn x):(uZ (λ(_:Int)=>True)) x:=⟨h.1,λy hy=>trivial⟩
theorem z56 {x:jl}(h:al8 x):Ea x:=⟨z25 (h.2.2.2.2.2.2.1),z25 (h.2.2.2.2.2.2.2.1),z25 (h.2.2.2.2.2.2.2.2)⟩
theorem z23 {x:List jl}(h:al9 x):(uZ Ea) x:=⟨h.1,λy hy=>z56 (h.2 y hy)⟩
theorem z24 {x:List fD}(h:ama x):(uZ (λ(_:fD)=>True)) x:=⟨h.1,λy hy=>trivial⟩
theorem z145 {x:List qI}(h:ai4 x):(uZ (λ(_:qI)=>True)) x:=⟨h.1,λy hy=>trivial⟩
theorem z147 {x:nJ}(h:ai5 x):Na x:=⟨ami (h.2.2.2.2.2.2.1),z145 (h.2.2.2.2.2.2.2.1)⟩
theorem z26 {x:List nJ}(h:amc x):(uZ Na) x:=⟨h.1,λy hy=>z147 (h.2 y hy)⟩
theorem z151 {x:gU}(h:ai6 x):tH x:=ami (h.2.2.1)
theorem z27 {x:List gU}(h:amd x):(uZ tH) x:=⟨h.1,λy hy=>z151 (h.2 y hy)⟩
theorem z155 {x:pF}(h:ai7 x):PQ x:=⟨z25 (h.2.2.2.2.1),amh (h.2.2.2.2.2)⟩
theorem z28 {x:List pF}(h:ame x):(uZ PQ) x:=⟨h.1,λy hy=>z155 (h.2 y hy)⟩
theorem z31 {x:dZ}(h:amf x):kR x:=⟨z23 (h.1),z24 (h.2.1),z25 (h.2.2.1),z25 (h.2.2.2.1),z26 (h.2.2.2.2.1),z27 (h.2.2.2.2.2.1),z28 (h.2.2.2.2.2.2.1),z25 (h.2.2.2.2.2.2.2.2.2.2.2.2.2.2.2.2.1)⟩
theorem z35 {x:List (List Int)}(h:amg x):(uZ (uZ (λ(_:Int)=>True))) x:=⟨h.1,λy hy=>z25 (h.2 y hy)⟩
theorem sV22 {p:PV}(h:SnV Tryz.prog 1048576 22 p):∃ x:List gV,p=.sl 17 (kJ.m gV (zy kJ) x) false/\al7 x:=by
 obtain⟨x,e,T⟩:=sT22 (h.inv_one aA);cases e;exact⟨x,rfl,T⟩
theorem sV31 {p:PV}(h:SnV Tryz.prog 1048576 31 p):∃ x:dZ,p=.agg ((fM kJ) x)/\amf x:=by
 obtain⟨cs,rfl,h2⟩:=h.aeP aA;obtain⟨x,rfl,T⟩:=sT31 h2;exact⟨x,rfl,T⟩
theorem sV35 {p:PV}(h:SnV Tryz.prog 1048576 35 p):∃ x:List (List Int),p=.sl 1 (kJ.m (List Int) (eL kJ 1 (eI .i64)) x) false/\amg x:=by
 obtain⟨x,e,T⟩:=sT35 (h.inv_one aA);cases e;exact⟨x,rfl,T⟩
end Go.Proofs.YtchmoabpofnbaaaGreat
