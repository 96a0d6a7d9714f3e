import Derived.Test.YtchmoabpofnbaaaGreatC102
import Derived.Test.YtchmoabpofnbaaaGreatC110
set_option linter.all false
namespace Go.Pv
theorem SnL.cs {P:Program}{N:Nat}{t:TypeId}{ts:List TypeId}{cs:List PV}(h:SnL P N (t::ts) cs){α:Type}{e:α->List PV}{ok:α->Prop}(s:∀ {c:List PV},Sn P N t c->∃ x,c=e x/\ok x):∃ x b,cs=e x++b/\ok x/\SnL P N ts b:=by
 obtain⟨a,b,rfl,k,g⟩:=h.Au;obtain⟨x,rfl,w⟩:=s k;exact⟨x,b,rfl,w,g⟩
end Go.Pv
namespace Go.Proofs.YtchmoabpofnbaaaGreat
open Go Go.Pv Proofs.Tryz
def ok9 (s:ByteArray):Prop:=s.size<=1048576
theorem sT9 {cs:List PV}(h:Sn Tryz.prog 1048576 9 cs):∃ x:ByteArray,cs=eS x/\ok9 x:=by
 obtain⟨n,e,T⟩:=h.adL underlying9;exact⟨n,e,T⟩
def ok4 (_:Bool):Prop:=True
theorem sT4 {cs:List PV}(h:Sn Tryz.prog 1048576 4 cs):∃ x:Bool,cs=eB x/\ok4 x:=by
 obtain⟨n,e⟩:=h.aa6 underlying4;exact⟨n,e,trivial⟩
def qR (x:Int):Prop:=(Lit.int .i64 x).wf=true
theorem qY {cs:List PV}(h:Sn Tryz.prog 1048576 3 cs):∃ x:Int,cs=(eI .i64) x/\qR x:=by
 obtain⟨n,e,T⟩:=h.Zd underlying3;exact⟨n,e,T⟩
def alW (x:acA Int):Prop:=qR x.a0/\qR x.a1/\qR x.a2/\qR x.a3/\qR x.a4
theorem sT83 {cs:List PV}(h:Sn Tryz.prog 1048576 83 cs):∃ x:acA Int,cs=(alg (eI .i64)) x/\alW x:=by
 have h:=h.U8 underlying83;obtain⟨n0,b0,rfl,w0,h⟩:=h.cs qY;obtain⟨n1,g,rfl,J,h⟩:=h.cs qY;obtain⟨I,b2,rfl,C,h⟩:=h.cs qY;obtain⟨n3,b3,rfl,t,h⟩:=h.cs qY;obtain⟨n4,b4,rfl,T,h⟩:=h.cs qY;obtain rfl:=h.lK;exact⟨⟨n0,n1,I,n3,n4⟩,rfl,w0,J,C,t,T⟩
def akC (x:oJ):Prop:=qR x.generic/\qR x.x/\alW x.color
theorem alX {cs:List PV}(h:Sn Tryz.prog 1048576 85 cs):∃ x:oJ,cs=(qN ku) x/\akC x:=by
 have h:=h.kC underlying85;obtain⟨n0,b0,rfl,w0,h⟩:=h.cs qY;obtain⟨n1,t,rfl,J,h⟩:=h.cs qY;obtain⟨T,C,rfl,I,h⟩:=h.cs sT83;obtain rfl:=h.lK;exact⟨⟨n0,n1,T⟩,rfl,w0,J,I⟩
def akD (l:List ByteArray):Prop:=l.length<=1048576/\∀ x∈l,ok9 x
theorem sT86 {cs:List PV}(h:Sn Tryz.prog 1048576 86 cs):∃ x:List ByteArray,cs=[.sl 1 (ku.m ByteArray eS x) false]/\akD x:=by
 obtain⟨I,e,h1,h2⟩:=h.qx underlying86;have hc:Tryz.prog.cellsOf 9=1:=by kernel_rfl
 rw[hc] at e;obtain⟨l,T,J,C⟩:=wW λr hr=>sT9 (h1 r hr);exact⟨l,by rw[e,T];rfl,by omega,J⟩
def akE (x:rX):Prop:=qR x.J9/\qR x.types/\akD x.subs
theorem sT88 {cs:List PV}(h:Sn Tryz.prog 1048576 88 cs):∃ x:rX,cs=(GZ ku) x/\akE x:=by
 have h:=h.kC underlying88;obtain⟨n0,b0,rfl,w0,h⟩:=h.cs qY;obtain⟨n1,t,rfl,J,h⟩:=h.cs qY;obtain⟨T,C,rfl,I,h⟩:=h.cs sT86;obtain rfl:=h.lK;exact⟨⟨n0,n1,T⟩,rfl,w0,J,I⟩
def aej (x:rV):Prop:=qR x.kind/\qR x.n
theorem ahv {cs:List PV}(h:Sn Tryz.prog 1048576 101 cs):∃ x:rV,cs=(DR ku) x/\aej x:=by
 have h:=h.kC underlying101;obtain⟨n0,b0,rfl,w0,h⟩:=h.cs qY;obtain⟨n1,J,rfl,T,h⟩:=h.cs qY;obtain rfl:=h.lK;exact⟨⟨n0,n1⟩,rfl,w0,T⟩
def Ph (x:GFilter):Prop:=qR x.iI/\qR x.who/\qR x.self/\qR x.types/\qR x.iw/\qR x.gK/\qR x.gI/\ok9 x.sub/\qR x.keys/\qR x.Ar/\aej x.power/\aej x.gz/\aej x.value
theorem UL {cs:List PV}(h:Sn Tryz.prog 1048576 103 cs):∃ x:GFilter,cs=(jb ku) x/\Ph x:=by
 have h:=h.kC underlying103;obtain⟨n0,b0,rfl,w0,h⟩:=h.cs qY;obtain⟨n1,b1,rfl,w1,h⟩:=h.cs qY;obtain⟨t,b2,rfl,w2,h⟩:=h.cs qY;obtain⟨n3,b3,rfl,g,h⟩:=h.cs qY;obtain⟨n4,b4,rfl,C,h⟩:=h.cs qY;obtain⟨n5,b5,rfl,w5,h⟩:=h.cs qY;obtain⟨n6,b6,rfl,w6,h⟩:=h.cs qY;obtain⟨n7,b7,rfl,w7,h⟩:=h.cs sT9;obtain⟨n8,b8,rfl,w8,h⟩:=h.cs qY;obtain⟨n9,b9,rfl,w9,h⟩:=h.cs qY;obtain⟨n10,b10,rfl,J,h⟩:=h.cs ahv;obtain⟨n11,b11,rfl,I,h⟩:=h.cs ahv;obtain⟨n12,b12,rfl,T,h⟩:=h.cs ahv;obtain rfl:=h.lK;exact⟨⟨n0,n1,t,n3,n4,n5,n6,n7,n8,n9,n10,n11,n12⟩,rfl,w0,w1,w2,g,C,w5,w6,w7,w8,w9,J,I,T⟩
def ahw (x:GMod):Prop:=qR x.kind/\qR x.n/\qR x.m/\ok9 x.sub/\Ph x.filter
theorem alY {cs:List PV}(h:Sn Tryz.prog 1048576 215 cs):∃ x:GMod,cs=(yz ku) x/\ahw x:=by
 have h:=h.kC underlying215;obtain⟨n0,b0,rfl,w0,h⟩:=h.cs qY;obtain⟨n1,g,rfl,J,h⟩:=h.cs qY;obtain⟨I,b2,rfl,C,h⟩:=h.cs qY;obtain⟨n3,b3,rfl,t,h⟩:=h.cs sT9;obtain⟨n4,b4,rfl,T,h⟩:=h.cs UL;obtain rfl:=h.lK;exact⟨⟨n0,n1,I,n3,n4⟩,rfl,w0,J,C,t,T⟩
def abQ (l:List GMod):Prop:=l.length<=1048576/\∀ x∈l,ahw x
theorem ahx {cs:List PV}(h:Sn Tryz.prog 1048576 106 cs):∃ x:List GMod,cs=[.sl 20 (ku.m GMod (yz ku) x) false]/\abQ x:=by
 obtain⟨I,e,h1,h2⟩:=h.qx underlying106;have hc:Tryz.prog.cellsOf 215=20:=by kernel_rfl
 rw[hc] at e;obtain⟨l,T,J,C⟩:=wW λr hr=>alY (h1 r hr);exact⟨l,by rw[e,T];rfl,by omega,J⟩
def ajq (x:Ld):Prop:=akC x.EF/\ok4 x.Ar/\ok4 x.J8/\qR x.life
theorem alZ {cs:List PV}(h:Sn Tryz.prog 1048576 108 cs):∃ x:Ld,cs=(AY ku) x/\ajq x:=by
 have h:=h.kC underlying108;obtain⟨n0,b0,rfl,w0,h⟩:=h.cs alX;obtain⟨n1,g,rfl,J,h⟩:=h.cs sT4;obtain⟨T,t,rfl,I,h⟩:=h.cs sT4;obtain⟨n3,b3,rfl,C,h⟩:=h.cs qY;obtain rfl:=h.lK;exact⟨⟨n0,n1,T,n3⟩,rfl,w0,J,I,C⟩
def ahy (x:xy):Prop:=qR x.when/\qR x.who/\Ph x.filter
theorem al0 {cs:List PV}(h:Sn Tryz.prog 1048576 110 cs):∃ x:xy,cs=(pg ku) x/\ahy x:=by
 have h:=h.kC underlying110;obtain⟨n0,b0,rfl,w0,h⟩:=h.cs qY;obtain⟨n1,t,rfl,J,h⟩:=h.cs qY;obtain⟨T,C,rfl,I,h⟩:=h.cs UL;obtain rfl:=h.lK;exact⟨⟨n0,n1,T⟩,rfl,w0,J,I⟩
def ahz (x:rW):Prop:=ok4 x.lF/\ok4 x.object/\Ph x.filter
theorem al1 {cs:List PV}(h:Sn Tryz.prog 1048576 284 cs):∃ x:rW,cs=(Le ku) x/\ahz x:=by
 have h:=h.kC underlying284;obtain⟨n0,b0,rfl,w0,h⟩:=h.cs sT4;obtain⟨n1,t,rfl,J,h⟩:=h.cs sT4;obtain⟨T,C,rfl,I,h⟩:=h.cs UL;obtain rfl:=h.lK;exact⟨⟨n0,n1,T⟩,rfl,w0,J,I⟩
def ahA (l:List rW):Prop:=l.length<=1048576/\∀ x∈l,ahz x
theorem al2 {cs:List PV}(h:Sn Tryz.prog 1048576 111 cs):∃ x:List rW,cs=[.sl 18 (ku.m rW (Le ku) x) false]/\ahA x:=by
 obtain⟨I,e,h1,h2⟩:=h.qx underlying111;have hc:Tryz.prog.cellsOf 284=18:=by kernel_rfl
 rw[hc] at e;obtain⟨l,T,J,C⟩:=wW λr hr=>al1 (h1 r hr);exact⟨l,by rw[e,T];rfl,by omega,J⟩
def ahB (x:Wy):Prop:=qR x.kind/\qR x.n/\Ph x.filter
theorem al3 {cs:List PV}(h:Sn Tryz.prog 1048576 263 cs):∃ x:Wy,cs=(Yk ku) x/\ahB x:=by
 have h:=h.kC underlying263;obtain⟨n0,b0,rfl,w0,h⟩:=h.cs qY;obtain⟨n1,t,rfl,J,h⟩:=h.cs qY;obtain⟨T,C,rfl,I,h⟩:=h.cs UL;obtain rfl:=h.lK;exact⟨⟨n0,n1,T⟩,rfl,w0,J,I⟩
def ahC (x:yY):Prop:=qR x.kind/\qR x.n/\qR x.counter/\Ph x.filter
theorem al4 {cs:List PV}(h:Sn Tryz.prog 1048576 265 cs):∃ x:yY,cs=(GY ku) x/\ahC x:=by
 have h:=h.kC underlying265;obtain⟨n0,b0,rfl,w0,h⟩:=h.cs qY;obtain⟨n1,g,rfl,J,h⟩:=h.cs qY;obtain⟨T,t,rfl,I,h⟩:=h.cs qY;obtain⟨n3,b3,rfl,C,h⟩:=h.cs UL;obtain rfl:=h.lK;exact⟨⟨n0,n1,T,n3⟩,rfl,w0,J,I,C⟩
def akF (x:SK Int):Prop:=qR x.a0/\qR x.a1/\qR x.a2/\qR x.a3/\qR x.a4/\qR x.a5
theorem al5 {cs:List PV}(h:Sn Tryz.prog 1048576 54 cs):∃ x:SK Int,cs=(alh (eI .i64)) x/\akF x:=by
 have h:=h.U8 underlying54;obtain⟨n0,b0,rfl,w0,h⟩:=h.cs qY;obtain⟨n1,b1,rfl,J,h⟩:=h.cs qY;obtain⟨I,b2,rfl,C,h⟩:=h.cs qY;obtain⟨n3,b3,rfl,g,h⟩:=h.cs qY;obtain⟨n4,b4,rfl,T,h⟩:=h.cs qY;obtain⟨n5,b5,rfl,t,h⟩:=h.cs qY;obtain rfl:=h.lK;exact⟨⟨n0,n1,I,n3,n4,n5⟩,rfl,w0,J,C,g,T,t⟩
def ahD (x:iy):Prop:=qR x.op/\ahB x.ref/\ahC x.amount/\qR x.counter/\qR x.iI/\ok9 x.card/\Ph x.filter/\akF x.pool/\abQ x.mods
theorem al6 {cs:List PV}(h:Sn Tryz.prog 1048576 267 cs):∃ x:iy,cs=(xA ku) x/\ahD x:=by
 have h:=h.kC underlying267;obtain⟨n0,b0,rfl,w0,h⟩:=h.cs qY;obtain⟨n1,b1,rfl,I,h⟩:=h.cs al3;obtain⟨t,b2,rfl,g,h⟩:=h.cs al4;obtain⟨n3,b3,rfl,w3,h⟩:=h.cs qY;obtain⟨n4,b4,rfl,J,h⟩:=h.cs qY;obtain⟨n5,b5,rfl,w5,h⟩:=h.cs sT9;obtain⟨n6,b6,rfl,w6,h⟩:=h.cs UL;obtain⟨n7,b7,rfl,C,h⟩:=h.cs al5;obtain⟨n8,b8,rfl,T,h⟩:=h.cs ahx;obtain rfl:=h.lK;exact⟨⟨n0,n1,t,n3,n4,n5,n6,n7,n8⟩,rfl,w0,I,g,w3,J,w5,w6,C,T⟩
def ahE (l:List iy):Prop:=l.length<=1048576/\∀ x∈l,ahD x
theorem al7 {cs:List PV}(h:Sn Tryz.prog 1048576 112 cs):∃ x:List iy,cs=[.sl 64 (ku.m iy (xA ku) x) false]/\ahE x:=by
 obtain⟨I,e,h1,h2⟩:=h.qx underlying112;have hc:Tryz.prog.cellsOf 267=64:=by kernel_rfl
 rw[hc] at e;obtain⟨l,T,J,C⟩:=wW λr hr=>al6 (h1 r hr);exact⟨l,by rw[e,T];rfl,by omega,J⟩
def ahF (x:qj):Prop:=qR x.on/\qR x.who/\Ph x.filter/\qR x.doF/\qR x.n/\qR x.iI/\qR x.counter
theorem al8 {cs:List PV}(h:Sn Tryz.prog 1048576 105 cs):∃ x:qj,cs=(qy ku) x/\ahF x:=by
 have h:=h.kC underlying105;obtain⟨n0,b0,rfl,w0,h⟩:=h.cs qY;obtain⟨n1,b1,rfl,J,h⟩:=h.cs qY;obtain⟨I,b2,rfl,C,h⟩:=h.cs UL;obtain⟨n3,b3,rfl,w3,h⟩:=h.cs qY;obtain⟨n4,b4,rfl,T,h⟩:=h.cs qY;obtain⟨n5,b5,rfl,t,h⟩:=h.cs qY;obtain⟨n6,b6,rfl,g,h⟩:=h.cs qY;obtain rfl:=h.lK;exact⟨⟨n0,n1,I,n3,n4,n5,n6⟩,rfl,w0,J,C,w3,T,t,g⟩
def abR (x:fU):Prop:=qR x.kind/\Ph x.filter/\abQ x.mods/\ajq x.price/\ok4 x.slow/\ahy x.fZ/\ok4 x.may/\ahA x.specs/\ahE x.jw/\ahF x.replace
theorem ahG {cs:List PV}(h:Sn Tryz.prog 1048576 114 cs):∃ x:fU,cs=(jv ku) x/\abR x:=by
 have h:=h.kC underlying114;obtain⟨n0,b0,rfl,w0,h⟩:=h.cs qY;obtain⟨n1,b1,rfl,I,h⟩:=h.cs UL;obtain⟨t,b2,rfl,g,h⟩:=h.cs ahx;obtain⟨n3,b3,rfl,w3,h⟩:=h.cs alZ;obtain⟨n4,b4,rfl,J,h⟩:=h.cs sT4;obtain⟨n5,b5,rfl,w5,h⟩:=h.cs al0;obtain⟨n6,b6,rfl,w6,h⟩:=h.cs sT4;obtain⟨n7,b7,rfl,C,h⟩:=h.cs al2;obtain⟨n8,b8,rfl,T,h⟩:=h.cs al7;obtain⟨n9,b9,rfl,w9,h⟩:=h.cs al8;obtain rfl:=h.lK;exact⟨⟨n0,n1,t,n3,n4,n5,n6,n7,n8,n9⟩,rfl,w0,I,g,w3,J,w5,w6,C,T,w9⟩
def akG (l:List fU):Prop:=l.length<=1048576/\∀ x∈l,abR x
theorem sT89 {cs:List PV}(h:Sn Tryz.prog 1048576 89 cs):∃ x:List fU,cs=[.sl 72 (ku.m fU (jv ku) x) false]/\akG x:=by
 obtain⟨I,e,h1,h2⟩:=h.qx underlying89;have hc:Tryz.prog.cellsOf 114=72:=by kernel_rfl
 rw[hc] at e;obtain⟨l,T,J,C⟩:=wW λr hr=>ahG (h1 r hr);exact⟨l,by rw[e,T];rfl,by omega,J⟩
def akH (x:gq):Prop:=ok9 x.name/\ok4 x.token/\akC x.cost/\qR x.color/\akE x.line/\qR x.power/\qR x.gz/\qR x.keys/\akG x.fB
theorem sT98 {cs:List PV}(h:Sn Tryz.prog 1048576 98 cs):∃ x:gq,cs=(zD ku) x/\akH x:=by
 have h:=h.kC underlying98;obtain⟨n0,b0,rfl,w0,h⟩:=h.cs sT9;obtain⟨n1,b1,rfl,I,h⟩:=h.cs sT4;obtain⟨t,b2,rfl,g,h⟩:=h.cs alX;obtain⟨n3,b3,rfl,w3,h⟩:=h.cs qY;obtain⟨n4,b4,rfl,J,h⟩:=h.cs sT88;obtain⟨n5,b5,rfl,w5,h⟩:=h.cs qY;obtain⟨n6,b6,rfl,w6,h⟩:=h.cs qY;obtain⟨n7,b7,rfl,C,h⟩:=h.cs qY;obtain⟨n8,b8,rfl,T,h⟩:=h.cs sT89;obtain rfl:=h.lK;exact⟨⟨n0,n1,t,n3,n4,n5,n6,n7,n8⟩,rfl,w0,I,g,w3,J,w5,w6,C,T⟩
def akI (l:List gq):Prop:=l.length<=1048576/\∀ x∈l,akH x
theorem sT22 {cs:List PV}(h:Sn Tryz.prog 1048576 22 cs):∃ x:List gq,cs=[.sl 17 (ku.m gq (zD ku) x) false]/\akI x:=by
 obtain⟨I,e,h1,h2⟩:=h.qx underlying22;have hc:Tryz.prog.cellsOf 98=17:=by kernel_rfl
 rw[hc] at e;obtain⟨l,T,J,C⟩:=wW λr hr=>sT98 (h1 r hr);exact⟨l,by rw[e,T];rfl,by omega,J⟩
def XD (l:List Int):Prop:=l.length<=1048576/\∀ x∈l,qR x
theorem abS {cs:List PV}(h:Sn Tryz.prog 1048576 25 cs):∃ x:List Int,cs=[.sl 1 (ku.m Int (eI .i64) x) false]/\XD x:=by
 obtain⟨I,e,h1,h2⟩:=h.qx underlying25;have hc:Tryz.prog.cellsOf 3=1:=by kernel_rfl
 rw[hc] at e;obtain⟨l,T,J,C⟩:=wW λr hr=>qY (h1 r hr);exact⟨l,by rw[e,T];rfl,by omega,J⟩
def akJ (x:jB):Prop:=qR x.life/\qR x.agv/\qR x.lands/\akF x.pool/\ok4 x.failed/\ok4 x.lost/\XD x.library/\XD x.hand/\XD x.zV
theorem sT56 {cs:List PV}(h:Sn Tryz.prog 1048576 56 cs):∃ x:jB,cs=(xx ku) x/\akJ x:=by
 have h:=h.kC underlying56;obtain⟨n0,b0,rfl,w0,h⟩:=h.cs qY;obtain⟨n1,b1,rfl,I,h⟩:=h.cs qY;obtain⟨t,b2,rfl,g,h⟩:=h.cs qY;obtain⟨n3,b3,rfl,w3,h⟩:=h.cs al5;obtain⟨n4,b4,rfl,J,h⟩:=h.cs sT4;obtain⟨n5,b5,rfl,w5,h⟩:=h.cs sT4;obtain⟨n6,b6,rfl,w6,h⟩:=h.cs abS;obtain⟨n7,b7,rfl,C,h⟩:=h.cs abS;obtain⟨n8,b8,rfl,T,h⟩:=h.cs abS;obtain rfl:=h.lK;exact⟨⟨n0,n1,t,n3,n4,n5,n6,n7,n8⟩,rfl,w0,I,g,w3,J,w5,w6,C,T⟩
def akK (l:List jB):Prop:=l.length<=1048576/\∀ x∈l,akJ x
theorem sT23 {cs:List PV}(h:Sn Tryz.prog 1048576 23 cs):∃ x:List jB,cs=[.sl 14 (ku.m jB (xx ku) x) false]/\akK x:=by
 obtain⟨I,e,h1,h2⟩:=h.qx underlying23;have hc:Tryz.prog.cellsOf 56=14:=by kernel_rfl
 rw[hc] at e;obtain⟨l,T,J,C⟩:=wW λr hr=>sT56 (h1 r hr);exact⟨l,by rw[e,T];rfl,by omega,J⟩
def ok32 (x:Nk Int):Prop:=qR x.a0/\qR x.a1/\qR x.a2
theorem al9 {cs:List PV}(h:Sn Tryz.prog 1048576 32 cs):∃ x:Nk Int,cs=(alf (eI .i64)) x/\ok32 x:=by
 have h:=h.U8 underlying32;obtain⟨n0,b0,rfl,w0,h⟩:=h.cs qY;obtain⟨n1,t,rfl,J,h⟩:=h.cs qY;obtain⟨T,C,rfl,I,h⟩:=h.cs qY;obtain rfl:=h.lK;exact⟨⟨n0,n1,T⟩,rfl,w0,J,I⟩
def ama (x:fC):Prop:=qR x.id/\qR x.card/\qR x.owner/\qR x.control/\qR x.iI/\ok4 x.token/\ok4 x.kN/\ok4 x.SS/\ok4 x.deadly/\qR x.Lc/\ok32 x.counters/\qR x.stamp/\qR x.copy/\qR x.nT/\ok4 x.blocked/\qR x.blocks/\qR x.JD
theorem sT66 {cs:List PV}(h:Sn Tryz.prog 1048576 66 cs):∃ x:fC,cs=(ja ku) x/\ama x:=by
 have h:=h.kC underlying66;obtain⟨n0,b0,rfl,w0,h⟩:=h.cs qY;obtain⟨n1,b1,rfl,w1,h⟩:=h.cs qY;obtain⟨n2,b2,rfl,w2,h⟩:=h.cs qY;obtain⟨n3,b3,rfl,w3,h⟩:=h.cs qY;obtain⟨n4,b4,rfl,w4,h⟩:=h.cs qY;obtain⟨n5,b5,rfl,w5,h⟩:=h.cs sT4;obtain⟨n6,b6,rfl,w6,h⟩:=h.cs sT4;obtain⟨n7,b7,rfl,w7,h⟩:=h.cs sT4;obtain⟨n8,b8,rfl,w8,h⟩:=h.cs sT4;obtain⟨n9,b9,rfl,w9,h⟩:=h.cs qY;obtain⟨n10,b10,rfl,t,h⟩:=h.cs al9;obtain⟨n11,b11,rfl,w11,h⟩:=h.cs qY;obtain⟨n12,b12,rfl,C,h⟩:=h.cs qY;obtain⟨n13,b13,rfl,I,h⟩:=h.cs qY;obtain⟨n14,b14,rfl,T,h⟩:=h.cs sT4;obtain⟨n15,b15,rfl,J,h⟩:=h.cs qY;obtain⟨n16,b16,rfl,g,h⟩:=h.cs qY;obtain rfl:=h.lK;exact⟨⟨n0,n1,n2,n3,n4,n5,n6,n7,n8,n9,n10,n11,n12,n13,n14,n15,n16⟩,rfl,w0,w1,w2,w3,w4,w5,w6,w7,w8,w9,t,w11,C,I,T,J,g⟩
def akL (l:List fC):Prop:=l.length<=1048576/\∀ x∈l,ama x
theorem sT24 {cs:List PV}(h:Sn Tryz.prog 1048576 24 cs):∃ x:List fC,cs=[.sl 19 (ku.m fC (ja ku) x) false]/\akL x:=by
 obtain⟨I,e,h1,h2⟩:=h.qx underlying24;have hc:Tryz.prog.cellsOf 66=19:=by kernel_rfl
 rw[hc] at e;obtain⟨l,T,J,C⟩:=wW λr hr=>sT66 (h1 r hr);exact⟨l,by rw[e,T];rfl,by omega,J⟩
def ajr (x:qf):Prop:=qR x.object/\qR x.lF
theorem amb {cs:List PV}(h:Sn Tryz.prog 1048576 210 cs):∃ x:qf,cs=(Ee ku) x/\ajr x:=by
 have h:=h.kC underlying210;obtain⟨n0,b0,rfl,w0,h⟩:=h.cs qY;obtain⟨n1,J,rfl,T,h⟩:=h.cs qY;obtain rfl:=h.lK;exact⟨⟨n0,n1⟩,rfl,w0,T⟩
def ahH (l:List qf):Prop:=l.length<=1048576/\∀ x∈l,ajr x
theorem amc {cs:List PV}(h:Sn Tryz.prog 1048576 145 cs):∃ x:List qf,cs=[.sl 2 (ku.m qf (Ee ku) x) false]/\ahH x:=by
 obtain⟨I,e,h1,h2⟩:=h.qx underlying145;have hc:Tryz.prog.cellsOf 210=2:=by kernel_rfl
 rw[hc] at e;obtain⟨l,T,J,C⟩:=wW λr hr=>amb (h1 r hr);exact⟨l,by rw[e,T];rfl,by omega,J⟩
def akM (x:jg):Prop:=qR x.kind/\qR x.source/\qR x.object/\qR x.lF/\qR x.amount/\qR x.adW/\qR x.to/\qR x.cause/\qR x.counter/\qR x.card/\ok4 x.acG/\ok4 x.kN/\ok32 x.extra
theorem amd {cs:List PV}(h:Sn Tryz.prog 1048576 34 cs):∃ x:jg,cs=(jC ku) x/\akM x:=by
 have h:=h.kC underlying34;obtain⟨n0,b0,rfl,w0,h⟩:=h.cs qY;obtain⟨n1,b1,rfl,w1,h⟩:=h.cs qY;obtain⟨t,b2,rfl,w2,h⟩:=h.cs qY;obtain⟨n3,b3,rfl,g,h⟩:=h.cs qY;obtain⟨n4,b4,rfl,C,h⟩:=h.cs qY;obtain⟨n5,b5,rfl,w5,h⟩:=h.cs qY;obtain⟨n6,b6,rfl,w6,h⟩:=h.cs qY;obtain⟨n7,b7,rfl,w7,h⟩:=h.cs qY;obtain⟨n8,b8,rfl,w8,h⟩:=h.cs qY;obtain⟨n9,b9,rfl,w9,h⟩:=h.cs qY;obtain⟨n10,b10,rfl,J,h⟩:=h.cs sT4;obtain⟨n11,b11,rfl,I,h⟩:=h.cs sT4;obtain⟨n12,b12,rfl,T,h⟩:=h.cs al9;obtain rfl:=h.lK;exact⟨⟨n0,n1,t,n3,n4,n5,n6,n7,n8,n9,n10,n11,n12⟩,rfl,w0,w1,w2,g,C,w5,w6,w7,w8,w9,J,I,T⟩
def ahI (x:oK):Prop:=qR x.id/\qR x.kind/\qR x.source/\qR x.control/\qR x.x/\ok4 x.copy/\abR x.iZ/\ahH x.targets/\akM x.event
theorem ame {cs:List PV}(h:Sn Tryz.prog 1048576 147 cs):∃ x:oK,cs=(AZ ku) x/\ahI x:=by
 have h:=h.kC underlying147;obtain⟨n0,b0,rfl,w0,h⟩:=h.cs qY;obtain⟨n1,b1,rfl,I,h⟩:=h.cs qY;obtain⟨t,b2,rfl,g,h⟩:=h.cs qY;obtain⟨n3,b3,rfl,w3,h⟩:=h.cs qY;obtain⟨n4,b4,rfl,J,h⟩:=h.cs qY;obtain⟨n5,b5,rfl,w5,h⟩:=h.cs sT4;obtain⟨n6,b6,rfl,w6,h⟩:=h.cs ahG;obtain⟨n7,b7,rfl,C,h⟩:=h.cs amc;obtain⟨n8,b8,rfl,T,h⟩:=h.cs amd;obtain rfl:=h.lK;exact⟨⟨n0,n1,t,n3,n4,n5,n6,n7,n8⟩,rfl,w0,I,g,w3,J,w5,w6,C,T⟩
def akN (l:List oK):Prop:=l.length<=1048576/\∀ x∈l,ahI x
theorem sT26 {cs:List PV}(h:Sn Tryz.prog 1048576 26 cs):∃ x:List oK,cs=[.sl 94 (ku.m oK (AZ ku) x) false]/\akN x:=by
 obtain⟨I,e,h1,h2⟩:=h.qx underlying26;have hc:Tryz.prog.cellsOf 147=94:=by kernel_rfl
 rw[hc] at e;obtain⟨l,T,J,C⟩:=wW λr hr=>ame (h1 r hr);exact⟨l,by rw[e,T];rfl,by omega,J⟩
def ahJ (x:gm):Prop:=qR x.source/\qR x.control/\abR x.iZ/\akM x.event
theorem amf {cs:List PV}(h:Sn Tryz.prog 1048576 151 cs):∃ x:gm,cs=(zW ku) x/\ahJ x:=by
 have h:=h.kC underlying151;obtain⟨n0,b0,rfl,w0,h⟩:=h.cs qY;obtain⟨n1,g,rfl,J,h⟩:=h.cs qY;obtain⟨T,t,rfl,I,h⟩:=h.cs ahG;obtain⟨n3,b3,rfl,C,h⟩:=h.cs amd;obtain rfl:=h.lK;exact⟨⟨n0,n1,T,n3⟩,rfl,w0,J,I,C⟩
def akO (l:List gm):Prop:=l.length<=1048576/\∀ x∈l,ahJ x
theorem sT27 {cs:List PV}(h:Sn Tryz.prog 1048576 27 cs):∃ x:List gm,cs=[.sl 89 (ku.m gm (zW ku) x) false]/\akO x:=by
 obtain⟨I,e,h1,h2⟩:=h.qx underlying27;have hc:Tryz.prog.cellsOf 151=89:=by kernel_rfl
 rw[hc] at e;obtain⟨l,T,J,C⟩:=wW λr hr=>amf (h1 r hr);exact⟨l,by rw[e,T];rfl,by omega,J⟩
def ahK (x:qc):Prop:=qR x.stamp/\qR x.control/\qR x.source/\qR x.acH/\XD x.objects/\abQ x.mods
theorem amg {cs:List PV}(h:Sn Tryz.prog 1048576 155 cs):∃ x:qc,cs=(Df ku) x/\ahK x:=by
 have h:=h.kC underlying155;obtain⟨n0,b0,rfl,w0,h⟩:=h.cs qY;obtain⟨n1,b1,rfl,J,h⟩:=h.cs qY;obtain⟨I,b2,rfl,C,h⟩:=h.cs qY;obtain⟨n3,b3,rfl,g,h⟩:=h.cs qY;obtain⟨n4,b4,rfl,T,h⟩:=h.cs abS;obtain⟨n5,b5,rfl,t,h⟩:=h.cs ahx;obtain rfl:=h.lK;exact⟨⟨n0,n1,I,n3,n4,n5⟩,rfl,w0,J,C,g,T,t⟩
def akP (l:List qc):Prop:=l.length<=1048576/\∀ x∈l,ahK x
theorem sT28 {cs:List PV}(h:Sn Tryz.prog 1048576 28 cs):∃ x:List qc,cs=[.sl 6 (ku.m qc (Df ku) x) false]/\akP x:=by
 obtain⟨I,e,h1,h2⟩:=h.qx underlying28;have hc:Tryz.prog.cellsOf 155=6:=by kernel_rfl
 rw[hc] at e;obtain⟨l,T,J,C⟩:=wW λr hr=>amg (h1 r hr);exact⟨l,by rw[e,T];rfl,by omega,J⟩
def amh (x:Int):Prop:=(Lit.int .u64 x).wf=true
theorem sT29 {cs:List PV}(h:Sn Tryz.prog 1048576 29 cs):∃ x:Int,cs=(eI .u64) x/\amh x:=by
 obtain⟨n,e,T⟩:=h.Zd underlying29;exact⟨n,e,T⟩
def akQ (x:GState):Prop:=akK x.fM/\akL x.objects/\XD x.iD/\XD x.qV/\akN x.stack/\akO x.waiting/\akP x.jT/\qR x.turn/\qR x.jZ/\qR x.step/\ok4 x.begun/\qR x.priority/\qR x.passes/\qR x.nextId/\qR x.kF/\amh x.seed/\XD x.extra/\qR x.over/\qR x.ql
theorem sT31 {cs:List PV}(h:Sn Tryz.prog 1048576 31 cs):∃ x:GState,cs=(fD ku) x/\akQ x:=by
 have h:=h.kC underlying31;obtain⟨n0,b0,rfl,w0,h⟩:=h.cs sT23;obtain⟨n1,b1,rfl,w1,h⟩:=h.cs sT24;obtain⟨n2,b2,rfl,w2,h⟩:=h.cs abS;obtain⟨n3,b3,rfl,w3,h⟩:=h.cs abS;obtain⟨n4,b4,rfl,w4,h⟩:=h.cs sT26;obtain⟨n5,b5,rfl,w5,h⟩:=h.cs sT27;obtain⟨n6,b6,rfl,w6,h⟩:=h.cs sT28;obtain⟨n7,b7,rfl,w7,h⟩:=h.cs qY;obtain⟨n8,b8,rfl,w8,h⟩:=h.cs qY;obtain⟨n9,b9,rfl,w9,h⟩:=h.cs qY;obtain⟨n10,b10,rfl,w10,h⟩:=h.cs sT4;obtain⟨n11,b11,rfl,w11,h⟩:=h.cs qY;obtain⟨n12,b12,rfl,t,h⟩:=h.cs qY;obtain⟨n13,b13,rfl,I,h⟩:=h.cs qY;obtain⟨n14,b14,rfl,T,h⟩:=h.cs qY;obtain⟨n15,b15,rfl,J,h⟩:=h.cs sT29;obtain⟨n16,b16,rfl,w16,h⟩:=h.cs abS;obtain⟨n17,b17,rfl,g,h⟩:=h.cs qY;obtain⟨n18,b18,rfl,C,h⟩:=h.cs qY;obtain rfl:=h.lK;exact⟨⟨n0,n1,n2,n3,n4,n5,n6,n7,n8,n9,n10,n11,n12,n13,n14,n15,n16,n17,n18⟩,rfl,w0,w1,w2,w3,w4,w5,w6,w7,w8,w9,w10,w11,t,I,T,J,w16,g,C⟩
theorem z9 {x:ByteArray}(h:ok9 x):szB x:=h
theorem z86 {x:List ByteArray}(h:akD x):(sZ szB) x:=⟨h.1,λy hy=>z9 (h.2 y hy)⟩
theorem z88 {x:rX}(h:akE x):Ce x:=z86 (h.2.2)
theorem abT {x:GFilter}(h:Ph x):szGFilter x:=z9 (h.2.2.2.2.2.2.2.1)
theorem z215 {x:GMod}(h:ahw x):rC x:=⟨z9 (h.2.2.2.1),abT (h.2.2.2.2)⟩
theorem akR {x:List GMod}(h:abQ x):(sZ rC) x:=⟨h.1,λy hy=>z215 (h.2 y hy)⟩
theorem z110 {x:xy}(h:ahy x):Dw x:=abT (h.2.2)
theorem z284 {x:rW}(h:ahz x):L8 x:=abT (h.2.2)
theorem z111 {x:List rW}(h:ahA x):(sZ L8) x:=⟨h.1,λy hy=>z284 (h.2 y hy)⟩
theorem z263 {x:Wy}(h:ahB x):TD x:=abT (h.2.2)
theorem z265 {x:yY}(h:ahC x):Gs x:=abT (h.2.2.2)
theorem z267 {x:iy}(h:ahD x):rJ x:=⟨z263 (h.2.1),z265 (h.2.2.1),z9 (h.2.2.2.2.2.1),abT (h.2.2.2.2.2.2.1),akR (h.2.2.2.2.2.2.2.2)⟩
theorem z112 {x:List iy}(h:ahE x):(sZ rJ) x:=⟨h.1,λy hy=>z267 (h.2 y hy)⟩
theorem z105 {x:qj}(h:ahF x):xW x:=abT (h.2.2.1)
theorem akS {x:fU}(h:abR x):kz x:=⟨abT (h.2.1),akR (h.2.2.1),z110 (h.2.2.2.2.2.1),z111 (h.2.2.2.2.2.2.2.1),z112 (h.2.2.2.2.2.2.2.2.1),z105 (h.2.2.2.2.2.2.2.2.2)⟩
theorem z89 {x:List fU}(h:akG x):(sZ kz) x:=⟨h.1,λy hy=>akS (h.2 y hy)⟩
theorem z98 {x:gq}(h:akH x):lC x:=⟨z9 (h.1),z88 (h.2.2.2.2.1),z89 (h.2.2.2.2.2.2.2.2)⟩
theorem z22 {x:List gq}(h:akI x):(sZ lC) x:=⟨h.1,λy hy=>z98 (h.2 y hy)⟩
theorem z25 {x:List Int}(h:XD x):(sZ (λ(_:Int)=>True)) x:=⟨h.1,λy hy=>trivial⟩
theorem z56 {x:jB}(h:akJ x):Gt x:=⟨z25 (h.2.2.2.2.2.2.1),z25 (h.2.2.2.2.2.2.2.1),z25 (h.2.2.2.2.2.2.2.2)⟩
theorem z23 {x:List jB}(h:akK x):(sZ Gt) x:=⟨h.1,λy hy=>z56 (h.2 y hy)⟩
theorem z24 {x:List fC}(h:akL x):(sZ (λ(_:fC)=>True)) x:=⟨h.1,λy hy=>trivial⟩
theorem z145 {x:List qf}(h:ahH x):(sZ (λ(_:qf)=>True)) x:=⟨h.1,λy hy=>trivial⟩
theorem z147 {x:oK}(h:ahI x):OM x:=⟨akS (h.2.2.2.2.2.2.1),z145 (h.2.2.2.2.2.2.2.1)⟩
theorem z26 {x:List oK}(h:akN x):(sZ OM) x:=⟨h.1,λy hy=>z147 (h.2 y hy)⟩
theorem z151 {x:gm}(h:ahJ x):pX x:=akS (h.2.2.1)
theorem z27 {x:List gm}(h:akO x):(sZ pX) x:=⟨h.1,λy hy=>z151 (h.2 y hy)⟩
theorem z155 {x:qc}(h:ahK x):Rx x:=⟨z25 (h.2.2.2.2.1),akR (h.2.2.2.2.2)⟩
theorem z28 {x:List qc}(h:akP x):(sZ Rx) x:=⟨h.1,λy hy=>z155 (h.2 y hy)⟩
theorem z31 {x:GState}(h:akQ x):jX x:=⟨z23 (h.1),z24 (h.2.1),z25 (h.2.2.1),z25 (h.2.2.2.1),z26 (h.2.2.2.2.1),z27 (h.2.2.2.2.2.1),z28 (h.2.2.2.2.2.2.1),z25 (h.2.2.2.2.2.2.2.2.2.2.2.2.2.2.2.2.1)⟩
theorem akY {p:PV}(h:SnV Tryz.prog 1048576 22 p):∃ x:List gq,p=.sl 17 (ku.m gq (zD ku) x) false/\akI x:=by
 obtain⟨x,e,hx⟩:=sT22 (h.inv_one aA);cases e;exact⟨x,rfl,hx⟩
theorem akZ {p:PV}(h:SnV Tryz.prog 1048576 31 p):∃ x:GState,p=.agg ((fD ku) x)/\akQ x:=by
 obtain⟨cs,rfl,h2⟩:=h.adM aA;obtain⟨x,rfl,hx⟩:=sT31 h2;exact⟨x,rfl,hx⟩
end Go.Proofs.YtchmoabpofnbaaaGreat
