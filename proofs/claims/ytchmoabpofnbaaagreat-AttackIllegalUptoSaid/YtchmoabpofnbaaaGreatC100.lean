import Derived.Test.YtchmoabpofnbaaaGreatC93
import Derived.Test.YtchmoabpofnbaaaGreatC99
set_option linter.all false
namespace Go.Pv
theorem SnL.cs {P:Program}{N:Nat}{t:TypeId}{ts:List TypeId}{cs:List PV}(h:SnL P N (t::ts) cs){α:Type}{e:α->List PV}{ok:α->Prop}(s:∀ {c:List PV},Sn P N t c->∃ x,c=e x/\ok x):∃ x b,cs=e x++b/\ok x/\SnL P N ts b:=by
 obtain⟨a,b,rfl,k,g⟩:=h.FO;obtain⟨x,rfl,w⟩:=s k;exact⟨x,b,rfl,w,g⟩
end Go.Pv
namespace Go.Proofs.YtchmoabpofnbaaaGreat
open Go Go.Pv Proofs.Tryz
def ok9 (s:ByteArray):Prop:=s.size<=1048576
theorem sT9 {cs:List PV}(h:Sn Tryz.prog 1048576 9 cs):∃ x:ByteArray,cs=eS x/\ok9 x:=by
 obtain⟨n,e,U⟩:=h.acB underlying9;exact⟨n,e,U⟩
def ok4 (_:Bool):Prop:=True
theorem sT4 {cs:List PV}(h:Sn Tryz.prog 1048576 4 cs):∃ x:Bool,cs=eB x/\ok4 x:=by
 obtain⟨n,e⟩:=h.ZW underlying4;exact⟨n,e,trivial⟩
def rE (x:Int):Prop:=(Lit.int .i64 x).wf=true
theorem rH {cs:List PV}(h:Sn Tryz.prog 1048576 3 cs):∃ x:Int,cs=(eI .i64) x/\rE x:=by
 obtain⟨n,e,U⟩:=h.X7 underlying3;exact⟨n,e,U⟩
def ai5 (x:abk Int):Prop:=rE x.a0/\rE x.a1/\rE x.a2/\rE x.a3/\rE x.a4
theorem sT83 {cs:List PV}(h:Sn Tryz.prog 1048576 83 cs):∃ x:abk Int,cs=(aiI (eI .i64)) x/\ai5 x:=by
 have h:=h.Ub underlying83;obtain⟨n0,b0,rfl,w0,h⟩:=h.cs rH;obtain⟨n1,b1,rfl,I,h⟩:=h.cs rH;obtain⟨T,g,rfl,U,h⟩:=h.cs rH;obtain⟨n3,b3,rfl,J,h⟩:=h.cs rH;obtain⟨n4,b4,rfl,C,h⟩:=h.cs rH;obtain rfl:=h.nH;exact⟨⟨n0,n1,T,n3,n4⟩,rfl,w0,I,U,J,C⟩
def ahW (x:sG):Prop:=rE x.generic/\rE x.x/\ai5 x.color
theorem ai6 {cs:List PV}(h:Sn Tryz.prog 1048576 85 cs):∃ x:sG,cs=(rO kX) x/\ahW x:=by
 have h:=h.kY underlying85;obtain⟨n0,b0,rfl,w0,h⟩:=h.cs rH;obtain⟨n1,C,rfl,J,h⟩:=h.cs rH;obtain⟨T,I,rfl,U,h⟩:=h.cs sT83;obtain rfl:=h.nH;exact⟨⟨n0,n1,T⟩,rfl,w0,J,U⟩
def ahX (l:List ByteArray):Prop:=l.length<=1048576/\∀ x∈l,ok9 x
theorem sT86 {cs:List PV}(h:Sn Tryz.prog 1048576 86 cs):∃ x:List ByteArray,cs=[.sl 1 (kX.m ByteArray eS x) false]/\ahX x:=by
 obtain⟨J,e,h1,h2⟩:=h.qy underlying86;have hc:Tryz.prog.cellsOf 9=1:=by kernel_rfl
 rw[hc] at e;obtain⟨l,T,U,I⟩:=vO λr hr=>sT9 (h1 r hr);exact⟨l,by rw[e,T];rfl,by omega,U⟩
def ahY (x:zZ):Prop:=rE x.F7/\rE x.types/\ahX x.subs
theorem sT88 {cs:List PV}(h:Sn Tryz.prog 1048576 88 cs):∃ x:zZ,cs=(Ls kX) x/\ahY x:=by
 have h:=h.kY underlying88;obtain⟨n0,b0,rfl,w0,h⟩:=h.cs rH;obtain⟨n1,C,rfl,J,h⟩:=h.cs rH;obtain⟨T,I,rfl,U,h⟩:=h.cs sT86;obtain rfl:=h.nH;exact⟨⟨n0,n1,T⟩,rfl,w0,J,U⟩
def acN (x:vS):Prop:=rE x.kind/\rE x.n
theorem afa {cs:List PV}(h:Sn Tryz.prog 1048576 101 cs):∃ x:vS,cs=(ET kX) x/\acN x:=by
 have h:=h.kY underlying101;obtain⟨n0,b0,rfl,w0,h⟩:=h.cs rH;obtain⟨n1,T,rfl,U,h⟩:=h.cs rH;obtain rfl:=h.nH;exact⟨⟨n0,n1⟩,rfl,w0,U⟩
def NT (x:jY):Prop:=rE x.jE/\rE x.who/\rE x.self/\rE x.types/\rE x.jA/\rE x.jS/\rE x.jf/\ok9 x.sub/\rE x.keys/\rE x.Cb/\acN x.power/\acN x.jb/\acN x.value
theorem SY {cs:List PV}(h:Sn Tryz.prog 1048576 103 cs):∃ x:jY,cs=(jU kX) x/\NT x:=by
 have h:=h.kY underlying103;obtain⟨n0,b0,rfl,w0,h⟩:=h.cs rH;obtain⟨n1,b1,rfl,w1,h⟩:=h.cs rH;obtain⟨g,b2,rfl,I,h⟩:=h.cs rH;obtain⟨n3,b3,rfl,w3,h⟩:=h.cs rH;obtain⟨n4,b4,rfl,w4,h⟩:=h.cs rH;obtain⟨n5,b5,rfl,w5,h⟩:=h.cs rH;obtain⟨n6,b6,rfl,w6,h⟩:=h.cs rH;obtain⟨n7,b7,rfl,w7,h⟩:=h.cs sT9;obtain⟨n8,b8,rfl,w8,h⟩:=h.cs rH;obtain⟨n9,b9,rfl,C,h⟩:=h.cs rH;obtain⟨n10,b10,rfl,U,h⟩:=h.cs afa;obtain⟨n11,b11,rfl,T,h⟩:=h.cs afa;obtain⟨n12,b12,rfl,J,h⟩:=h.cs afa;obtain rfl:=h.nH;exact⟨⟨n0,n1,g,n3,n4,n5,n6,n7,n8,n9,n10,n11,n12⟩,rfl,w0,w1,I,w3,w4,w5,w6,w7,w8,C,U,T,J⟩
def afb (x:lZ):Prop:=rE x.kind/\rE x.n/\rE x.m/\ok9 x.sub/\NT x.filter
theorem ai7 {cs:List PV}(h:Sn Tryz.prog 1048576 215 cs):∃ x:lZ,cs=(yT kX) x/\afb x:=by
 have h:=h.kY underlying215;obtain⟨n0,b0,rfl,w0,h⟩:=h.cs rH;obtain⟨n1,b1,rfl,I,h⟩:=h.cs rH;obtain⟨T,g,rfl,U,h⟩:=h.cs rH;obtain⟨n3,b3,rfl,J,h⟩:=h.cs sT9;obtain⟨n4,b4,rfl,C,h⟩:=h.cs SY;obtain rfl:=h.nH;exact⟨⟨n0,n1,T,n3,n4⟩,rfl,w0,I,U,J,C⟩
def aad (l:List lZ):Prop:=l.length<=1048576/\∀ x∈l,afb x
theorem afc {cs:List PV}(h:Sn Tryz.prog 1048576 106 cs):∃ x:List lZ,cs=[.sl 20 (kX.m lZ (yT kX) x) false]/\aad x:=by
 obtain⟨J,e,h1,h2⟩:=h.qy underlying106;have hc:Tryz.prog.cellsOf 215=20:=by kernel_rfl
 rw[hc] at e;obtain⟨l,T,U,I⟩:=vO λr hr=>ai7 (h1 r hr);exact⟨l,by rw[e,T];rfl,by omega,U⟩
def ahb (x:JQ):Prop:=ahW x.Eg/\ok4 x.Cb/\ok4 x.Jg/\rE x.life
theorem ai8 {cs:List PV}(h:Sn Tryz.prog 1048576 108 cs):∃ x:JQ,cs=(Dn kX) x/\ahb x:=by
 have h:=h.kY underlying108;obtain⟨n0,b0,rfl,w0,h⟩:=h.cs ai6;obtain⟨n1,g,rfl,J,h⟩:=h.cs sT4;obtain⟨T,C,rfl,U,h⟩:=h.cs sT4;obtain⟨n3,b3,rfl,I,h⟩:=h.cs rH;obtain rfl:=h.nH;exact⟨⟨n0,n1,T,n3⟩,rfl,w0,J,U,I⟩
def afd (x:xw):Prop:=rE x.when/\rE x.who/\NT x.filter
theorem ai9 {cs:List PV}(h:Sn Tryz.prog 1048576 110 cs):∃ x:xw,cs=(qA kX) x/\afd x:=by
 have h:=h.kY underlying110;obtain⟨n0,b0,rfl,w0,h⟩:=h.cs rH;obtain⟨n1,C,rfl,J,h⟩:=h.cs rH;obtain⟨T,I,rfl,U,h⟩:=h.cs SY;obtain rfl:=h.nH;exact⟨⟨n0,n1,T⟩,rfl,w0,J,U⟩
def afe (x:sH):Prop:=ok4 x.mV/\ok4 x.object/\NT x.filter
theorem aja {cs:List PV}(h:Sn Tryz.prog 1048576 284 cs):∃ x:sH,cs=(JR kX) x/\afe x:=by
 have h:=h.kY underlying284;obtain⟨n0,b0,rfl,w0,h⟩:=h.cs sT4;obtain⟨n1,C,rfl,J,h⟩:=h.cs sT4;obtain⟨T,I,rfl,U,h⟩:=h.cs SY;obtain rfl:=h.nH;exact⟨⟨n0,n1,T⟩,rfl,w0,J,U⟩
def aff (l:List sH):Prop:=l.length<=1048576/\∀ x∈l,afe x
theorem ajb {cs:List PV}(h:Sn Tryz.prog 1048576 111 cs):∃ x:List sH,cs=[.sl 18 (kX.m sH (JR kX) x) false]/\aff x:=by
 obtain⟨J,e,h1,h2⟩:=h.qy underlying111;have hc:Tryz.prog.cellsOf 284=18:=by kernel_rfl
 rw[hc] at e;obtain⟨l,T,U,I⟩:=vO λr hr=>aja (h1 r hr);exact⟨l,by rw[e,T];rfl,by omega,U⟩
def afg (x:Vl):Prop:=rE x.kind/\rE x.n/\NT x.filter
theorem ajc {cs:List PV}(h:Sn Tryz.prog 1048576 263 cs):∃ x:Vl,cs=(Xg kX) x/\afg x:=by
 have h:=h.kY underlying263;obtain⟨n0,b0,rfl,w0,h⟩:=h.cs rH;obtain⟨n1,C,rfl,J,h⟩:=h.cs rH;obtain⟨T,I,rfl,U,h⟩:=h.cs SY;obtain rfl:=h.nH;exact⟨⟨n0,n1,T⟩,rfl,w0,J,U⟩
def afh (x:yf):Prop:=rE x.kind/\rE x.n/\rE x.counter/\NT x.filter
theorem ajd {cs:List PV}(h:Sn Tryz.prog 1048576 265 cs):∃ x:yf,cs=(F8 kX) x/\afh x:=by
 have h:=h.kY underlying265;obtain⟨n0,b0,rfl,w0,h⟩:=h.cs rH;obtain⟨n1,g,rfl,J,h⟩:=h.cs rH;obtain⟨T,C,rfl,U,h⟩:=h.cs rH;obtain⟨n3,b3,rfl,I,h⟩:=h.cs SY;obtain rfl:=h.nH;exact⟨⟨n0,n1,T,n3⟩,rfl,w0,J,U,I⟩
def ahZ (x:Rt Int):Prop:=rE x.a0/\rE x.a1/\rE x.a2/\rE x.a3/\rE x.a4/\rE x.a5
theorem aje {cs:List PV}(h:Sn Tryz.prog 1048576 54 cs):∃ x:Rt Int,cs=(aiJ (eI .i64)) x/\ahZ x:=by
 have h:=h.Ub underlying54;obtain⟨n0,b0,rfl,w0,h⟩:=h.cs rH;obtain⟨n1,b1,rfl,C,h⟩:=h.cs rH;obtain⟨T,b2,rfl,U,h⟩:=h.cs rH;obtain⟨n3,b3,rfl,J,h⟩:=h.cs rH;obtain⟨n4,b4,rfl,g,h⟩:=h.cs rH;obtain⟨n5,b5,rfl,I,h⟩:=h.cs rH;obtain rfl:=h.nH;exact⟨⟨n0,n1,T,n3,n4,n5⟩,rfl,w0,C,U,J,g,I⟩
def afi (x:jg):Prop:=rE x.op/\afg x.ref/\afh x.amount/\rE x.counter/\rE x.jE/\ok9 x.card/\NT x.filter/\ahZ x.pool/\aad x.mr
theorem ajf {cs:List PV}(h:Sn Tryz.prog 1048576 267 cs):∃ x:jg,cs=(xx kX) x/\afi x:=by
 have h:=h.kY underlying267;obtain⟨n0,b0,rfl,w0,h⟩:=h.cs rH;obtain⟨n1,b1,rfl,w1,h⟩:=h.cs ajc;obtain⟨J,b2,rfl,T,h⟩:=h.cs ajd;obtain⟨n3,b3,rfl,I,h⟩:=h.cs rH;obtain⟨n4,b4,rfl,w4,h⟩:=h.cs rH;obtain⟨n5,b5,rfl,g,h⟩:=h.cs sT9;obtain⟨n6,b6,rfl,C,h⟩:=h.cs SY;obtain⟨n7,b7,rfl,w7,h⟩:=h.cs aje;obtain⟨n8,b8,rfl,U,h⟩:=h.cs afc;obtain rfl:=h.nH;exact⟨⟨n0,n1,J,n3,n4,n5,n6,n7,n8⟩,rfl,w0,w1,T,I,w4,g,C,w7,U⟩
def afj (l:List jg):Prop:=l.length<=1048576/\∀ x∈l,afi x
theorem ajg {cs:List PV}(h:Sn Tryz.prog 1048576 112 cs):∃ x:List jg,cs=[.sl 64 (kX.m jg (xx kX) x) false]/\afj x:=by
 obtain⟨J,e,h1,h2⟩:=h.qy underlying112;have hc:Tryz.prog.cellsOf 267=64:=by kernel_rfl
 rw[hc] at e;obtain⟨l,T,U,I⟩:=vO λr hr=>ajf (h1 r hr);exact⟨l,by rw[e,T];rfl,by omega,U⟩
def afk (x:qJ):Prop:=rE x.on/\rE x.who/\NT x.filter/\rE x.doF/\rE x.n/\rE x.jE/\rE x.counter
theorem ajh {cs:List PV}(h:Sn Tryz.prog 1048576 105 cs):∃ x:qJ,cs=(rY kX) x/\afk x:=by
 have h:=h.kY underlying105;obtain⟨n0,b0,rfl,w0,h⟩:=h.cs rH;obtain⟨n1,b1,rfl,g,h⟩:=h.cs rH;obtain⟨T,b2,rfl,U,h⟩:=h.cs SY;obtain⟨n3,b3,rfl,J,h⟩:=h.cs rH;obtain⟨n4,b4,rfl,w4,h⟩:=h.cs rH;obtain⟨n5,b5,rfl,C,h⟩:=h.cs rH;obtain⟨n6,b6,rfl,I,h⟩:=h.cs rH;obtain rfl:=h.nH;exact⟨⟨n0,n1,T,n3,n4,n5,n6⟩,rfl,w0,g,U,J,w4,C,I⟩
def aae (x:iP):Prop:=rE x.kind/\NT x.filter/\aad x.mr/\ahb x.price/\ok4 x.slow/\afd x.iK/\ok4 x.may/\aff x.specs/\afj x.kR/\afk x.replace
theorem afl {cs:List PV}(h:Sn Tryz.prog 1048576 114 cs):∃ x:iP,cs=(kC kX) x/\aae x:=by
 have h:=h.kY underlying114;obtain⟨n0,b0,rfl,w0,h⟩:=h.cs rH;obtain⟨n1,b1,rfl,w1,h⟩:=h.cs SY;obtain⟨I,b2,rfl,T,h⟩:=h.cs afc;obtain⟨n3,b3,rfl,C,h⟩:=h.cs ai8;obtain⟨n4,b4,rfl,w4,h⟩:=h.cs sT4;obtain⟨n5,b5,rfl,w5,h⟩:=h.cs ai9;obtain⟨n6,b6,rfl,g,h⟩:=h.cs sT4;obtain⟨n7,b7,rfl,w7,h⟩:=h.cs ajb;obtain⟨n8,b8,rfl,U,h⟩:=h.cs ajg;obtain⟨n9,b9,rfl,J,h⟩:=h.cs ajh;obtain rfl:=h.nH;exact⟨⟨n0,n1,I,n3,n4,n5,n6,n7,n8,n9⟩,rfl,w0,w1,T,C,w4,w5,g,w7,U,J⟩
def ah0 (l:List iP):Prop:=l.length<=1048576/\∀ x∈l,aae x
theorem sT89 {cs:List PV}(h:Sn Tryz.prog 1048576 89 cs):∃ x:List iP,cs=[.sl 72 (kX.m iP (kC kX) x) false]/\ah0 x:=by
 obtain⟨J,e,h1,h2⟩:=h.qy underlying89;have hc:Tryz.prog.cellsOf 114=72:=by kernel_rfl
 rw[hc] at e;obtain⟨l,T,U,I⟩:=vO λr hr=>afl (h1 r hr);exact⟨l,by rw[e,T];rfl,by omega,U⟩
def ah1 (x:iZ):Prop:=ok9 x.name/\ok4 x.token/\ahW x.cost/\rE x.color/\ahY x.line/\rE x.power/\rE x.jb/\rE x.keys/\ah0 x.gU
theorem sT98 {cs:List PV}(h:Sn Tryz.prog 1048576 98 cs):∃ x:iZ,cs=(zO kX) x/\ah1 x:=by
 have h:=h.kY underlying98;obtain⟨n0,b0,rfl,w0,h⟩:=h.cs sT9;obtain⟨n1,b1,rfl,w1,h⟩:=h.cs sT4;obtain⟨J,b2,rfl,T,h⟩:=h.cs ai6;obtain⟨n3,b3,rfl,I,h⟩:=h.cs rH;obtain⟨n4,b4,rfl,w4,h⟩:=h.cs sT88;obtain⟨n5,b5,rfl,g,h⟩:=h.cs rH;obtain⟨n6,b6,rfl,C,h⟩:=h.cs rH;obtain⟨n7,b7,rfl,w7,h⟩:=h.cs rH;obtain⟨n8,b8,rfl,U,h⟩:=h.cs sT89;obtain rfl:=h.nH;exact⟨⟨n0,n1,J,n3,n4,n5,n6,n7,n8⟩,rfl,w0,w1,T,I,w4,g,C,w7,U⟩
def ah2 (l:List iZ):Prop:=l.length<=1048576/\∀ x∈l,ah1 x
theorem sT22 {cs:List PV}(h:Sn Tryz.prog 1048576 22 cs):∃ x:List iZ,cs=[.sl 17 (kX.m iZ (zO kX) x) false]/\ah2 x:=by
 obtain⟨J,e,h1,h2⟩:=h.qy underlying22;have hc:Tryz.prog.cellsOf 98=17:=by kernel_rfl
 rw[hc] at e;obtain⟨l,T,U,I⟩:=vO λr hr=>sT98 (h1 r hr);exact⟨l,by rw[e,T];rfl,by omega,U⟩
def VT (l:List Int):Prop:=l.length<=1048576/\∀ x∈l,rE x
theorem aaf {cs:List PV}(h:Sn Tryz.prog 1048576 25 cs):∃ x:List Int,cs=[.sl 1 (kX.m Int (eI .i64) x) false]/\VT x:=by
 obtain⟨J,e,h1,h2⟩:=h.qy underlying25;have hc:Tryz.prog.cellsOf 3=1:=by kernel_rfl
 rw[hc] at e;obtain⟨l,T,U,I⟩:=vO λr hr=>rH (h1 r hr);exact⟨l,by rw[e,T];rfl,by omega,U⟩
def ah3 (x:jP):Prop:=rE x.life/\rE x.aag/\rE x.lands/\ahZ x.pool/\ok4 x.failed/\ok4 x.lost/\VT x.library/\VT x.hand/\VT x.wK
theorem sT56 {cs:List PV}(h:Sn Tryz.prog 1048576 56 cs):∃ x:jP,cs=(uK kX) x/\ah3 x:=by
 have h:=h.kY underlying56;obtain⟨n0,b0,rfl,w0,h⟩:=h.cs rH;obtain⟨n1,b1,rfl,w1,h⟩:=h.cs rH;obtain⟨J,b2,rfl,T,h⟩:=h.cs rH;obtain⟨n3,b3,rfl,I,h⟩:=h.cs aje;obtain⟨n4,b4,rfl,w4,h⟩:=h.cs sT4;obtain⟨n5,b5,rfl,g,h⟩:=h.cs sT4;obtain⟨n6,b6,rfl,C,h⟩:=h.cs aaf;obtain⟨n7,b7,rfl,w7,h⟩:=h.cs aaf;obtain⟨n8,b8,rfl,U,h⟩:=h.cs aaf;obtain rfl:=h.nH;exact⟨⟨n0,n1,J,n3,n4,n5,n6,n7,n8⟩,rfl,w0,w1,T,I,w4,g,C,w7,U⟩
def ah4 (l:List jP):Prop:=l.length<=1048576/\∀ x∈l,ah3 x
theorem sT23 {cs:List PV}(h:Sn Tryz.prog 1048576 23 cs):∃ x:List jP,cs=[.sl 14 (kX.m jP (uK kX) x) false]/\ah4 x:=by
 obtain⟨J,e,h1,h2⟩:=h.qy underlying23;have hc:Tryz.prog.cellsOf 56=14:=by kernel_rfl
 rw[hc] at e;obtain⟨l,T,U,I⟩:=vO λr hr=>sT56 (h1 r hr);exact⟨l,by rw[e,T];rfl,by omega,U⟩
def ok32 (x:NK Int):Prop:=rE x.a0/\rE x.a1/\rE x.a2
theorem aji {cs:List PV}(h:Sn Tryz.prog 1048576 32 cs):∃ x:NK Int,cs=(aiH (eI .i64)) x/\ok32 x:=by
 have h:=h.Ub underlying32;obtain⟨n0,b0,rfl,w0,h⟩:=h.cs rH;obtain⟨n1,C,rfl,J,h⟩:=h.cs rH;obtain⟨T,I,rfl,U,h⟩:=h.cs rH;obtain rfl:=h.nH;exact⟨⟨n0,n1,T⟩,rfl,w0,J,U⟩
def ajj (x:iw):Prop:=rE x.id/\rE x.card/\rE x.owner/\rE x.control/\rE x.jE/\ok4 x.token/\ok4 x.pK/\ok4 x.OJ/\ok4 x.deadly/\rE x.Cm/\ok32 x.counters/\rE x.stamp/\rE x.copy/\rE x.yE/\ok4 x.blocked/\rE x.blocks/\rE x.AU
theorem sT66 {cs:List PV}(h:Sn Tryz.prog 1048576 66 cs):∃ x:iw,cs=(jQ kX) x/\ajj x:=by
 have h:=h.kY underlying66;obtain⟨n0,b0,rfl,w0,h⟩:=h.cs rH;obtain⟨n1,b1,rfl,w1,h⟩:=h.cs rH;obtain⟨n2,b2,rfl,w2,h⟩:=h.cs rH;obtain⟨n3,b3,rfl,w3,h⟩:=h.cs rH;obtain⟨n4,b4,rfl,w4,h⟩:=h.cs rH;obtain⟨n5,b5,rfl,w5,h⟩:=h.cs sT4;obtain⟨n6,b6,rfl,w6,h⟩:=h.cs sT4;obtain⟨n7,b7,rfl,w7,h⟩:=h.cs sT4;obtain⟨n8,b8,rfl,w8,h⟩:=h.cs sT4;obtain⟨n9,b9,rfl,w9,h⟩:=h.cs rH;obtain⟨n10,b10,rfl,J,h⟩:=h.cs aji;obtain⟨n11,b11,rfl,I,h⟩:=h.cs rH;obtain⟨n12,b12,rfl,w12,h⟩:=h.cs rH;obtain⟨n13,b13,rfl,g,h⟩:=h.cs rH;obtain⟨n14,b14,rfl,U,h⟩:=h.cs sT4;obtain⟨n15,b15,rfl,C,h⟩:=h.cs rH;obtain⟨n16,b16,rfl,T,h⟩:=h.cs rH;obtain rfl:=h.nH;exact⟨⟨n0,n1,n2,n3,n4,n5,n6,n7,n8,n9,n10,n11,n12,n13,n14,n15,n16⟩,rfl,w0,w1,w2,w3,w4,w5,w6,w7,w8,w9,J,I,w12,g,U,C,T⟩
def ah5 (l:List iw):Prop:=l.length<=1048576/\∀ x∈l,ajj x
theorem sT24 {cs:List PV}(h:Sn Tryz.prog 1048576 24 cs):∃ x:List iw,cs=[.sl 19 (kX.m iw (jQ kX) x) false]/\ah5 x:=by
 obtain⟨J,e,h1,h2⟩:=h.qy underlying24;have hc:Tryz.prog.cellsOf 66=19:=by kernel_rfl
 rw[hc] at e;obtain⟨l,T,U,I⟩:=vO λr hr=>sT66 (h1 r hr);exact⟨l,by rw[e,T];rfl,by omega,U⟩
def ahc (x:qF):Prop:=rE x.object/\rE x.mV
theorem ajk {cs:List PV}(h:Sn Tryz.prog 1048576 210 cs):∃ x:qF,cs=(DT kX) x/\ahc x:=by
 have h:=h.kY underlying210;obtain⟨n0,b0,rfl,w0,h⟩:=h.cs rH;obtain⟨n1,T,rfl,U,h⟩:=h.cs rH;obtain rfl:=h.nH;exact⟨⟨n0,n1⟩,rfl,w0,U⟩
def afm (l:List qF):Prop:=l.length<=1048576/\∀ x∈l,ahc x
theorem ajl {cs:List PV}(h:Sn Tryz.prog 1048576 145 cs):∃ x:List qF,cs=[.sl 2 (kX.m qF (DT kX) x) false]/\afm x:=by
 obtain⟨J,e,h1,h2⟩:=h.qy underlying145;have hc:Tryz.prog.cellsOf 210=2:=by kernel_rfl
 rw[hc] at e;obtain⟨l,T,U,I⟩:=vO λr hr=>ajk (h1 r hr);exact⟨l,by rw[e,T];rfl,by omega,U⟩
def ah6 (x:kz):Prop:=rE x.kind/\rE x.source/\rE x.object/\rE x.mV/\rE x.amount/\rE x.S9/\rE x.to/\rE x.cause/\rE x.counter/\rE x.card/\ok4 x.OL/\ok4 x.pK/\ok32 x.extra
theorem ajm {cs:List PV}(h:Sn Tryz.prog 1048576 34 cs):∃ x:kz,cs=(jZ kX) x/\ah6 x:=by
 have h:=h.kY underlying34;obtain⟨n0,b0,rfl,w0,h⟩:=h.cs rH;obtain⟨n1,b1,rfl,w1,h⟩:=h.cs rH;obtain⟨g,b2,rfl,I,h⟩:=h.cs rH;obtain⟨n3,b3,rfl,w3,h⟩:=h.cs rH;obtain⟨n4,b4,rfl,w4,h⟩:=h.cs rH;obtain⟨n5,b5,rfl,w5,h⟩:=h.cs rH;obtain⟨n6,b6,rfl,w6,h⟩:=h.cs rH;obtain⟨n7,b7,rfl,w7,h⟩:=h.cs rH;obtain⟨n8,b8,rfl,w8,h⟩:=h.cs rH;obtain⟨n9,b9,rfl,C,h⟩:=h.cs rH;obtain⟨n10,b10,rfl,U,h⟩:=h.cs sT4;obtain⟨n11,b11,rfl,T,h⟩:=h.cs sT4;obtain⟨n12,b12,rfl,J,h⟩:=h.cs aji;obtain rfl:=h.nH;exact⟨⟨n0,n1,g,n3,n4,n5,n6,n7,n8,n9,n10,n11,n12⟩,rfl,w0,w1,I,w3,w4,w5,w6,w7,w8,C,U,T,J⟩
def afn (x:og):Prop:=rE x.id/\rE x.kind/\rE x.source/\rE x.control/\rE x.x/\ok4 x.copy/\aae x.jr/\afm x.targets/\ah6 x.event
theorem ajn {cs:List PV}(h:Sn Tryz.prog 1048576 147 cs):∃ x:og,cs=(yF kX) x/\afn x:=by
 have h:=h.kY underlying147;obtain⟨n0,b0,rfl,w0,h⟩:=h.cs rH;obtain⟨n1,b1,rfl,w1,h⟩:=h.cs rH;obtain⟨J,b2,rfl,T,h⟩:=h.cs rH;obtain⟨n3,b3,rfl,I,h⟩:=h.cs rH;obtain⟨n4,b4,rfl,w4,h⟩:=h.cs rH;obtain⟨n5,b5,rfl,g,h⟩:=h.cs sT4;obtain⟨n6,b6,rfl,C,h⟩:=h.cs afl;obtain⟨n7,b7,rfl,w7,h⟩:=h.cs ajl;obtain⟨n8,b8,rfl,U,h⟩:=h.cs ajm;obtain rfl:=h.nH;exact⟨⟨n0,n1,J,n3,n4,n5,n6,n7,n8⟩,rfl,w0,w1,T,I,w4,g,C,w7,U⟩
def ah7 (l:List og):Prop:=l.length<=1048576/\∀ x∈l,afn x
theorem sT26 {cs:List PV}(h:Sn Tryz.prog 1048576 26 cs):∃ x:List og,cs=[.sl 94 (kX.m og (yF kX) x) false]/\ah7 x:=by
 obtain⟨J,e,h1,h2⟩:=h.qy underlying26;have hc:Tryz.prog.cellsOf 147=94:=by kernel_rfl
 rw[hc] at e;obtain⟨l,T,U,I⟩:=vO λr hr=>ajn (h1 r hr);exact⟨l,by rw[e,T];rfl,by omega,U⟩
def afo (x:iL):Prop:=rE x.source/\rE x.control/\aae x.jr/\ah6 x.event
theorem ajo {cs:List PV}(h:Sn Tryz.prog 1048576 151 cs):∃ x:iL,cs=(wL kX) x/\afo x:=by
 have h:=h.kY underlying151;obtain⟨n0,b0,rfl,w0,h⟩:=h.cs rH;obtain⟨n1,g,rfl,J,h⟩:=h.cs rH;obtain⟨T,C,rfl,U,h⟩:=h.cs afl;obtain⟨n3,b3,rfl,I,h⟩:=h.cs ajm;obtain rfl:=h.nH;exact⟨⟨n0,n1,T,n3⟩,rfl,w0,J,U,I⟩
def ah8 (l:List iL):Prop:=l.length<=1048576/\∀ x∈l,afo x
theorem sT27 {cs:List PV}(h:Sn Tryz.prog 1048576 27 cs):∃ x:List iL,cs=[.sl 89 (kX.m iL (wL kX) x) false]/\ah8 x:=by
 obtain⟨J,e,h1,h2⟩:=h.qy underlying27;have hc:Tryz.prog.cellsOf 151=89:=by kernel_rfl
 rw[hc] at e;obtain⟨l,T,U,I⟩:=vO λr hr=>ajo (h1 r hr);exact⟨l,by rw[e,T];rfl,by omega,U⟩
def afp (x:pM):Prop:=rE x.stamp/\rE x.control/\rE x.source/\rE x.Vm/\VT x.objects/\aad x.mr
theorem ajp {cs:List PV}(h:Sn Tryz.prog 1048576 155 cs):∃ x:pM,cs=(zQ kX) x/\afp x:=by
 have h:=h.kY underlying155;obtain⟨n0,b0,rfl,w0,h⟩:=h.cs rH;obtain⟨n1,b1,rfl,C,h⟩:=h.cs rH;obtain⟨T,b2,rfl,U,h⟩:=h.cs rH;obtain⟨n3,b3,rfl,J,h⟩:=h.cs rH;obtain⟨n4,b4,rfl,g,h⟩:=h.cs aaf;obtain⟨n5,b5,rfl,I,h⟩:=h.cs afc;obtain rfl:=h.nH;exact⟨⟨n0,n1,T,n3,n4,n5⟩,rfl,w0,C,U,J,g,I⟩
def ah9 (l:List pM):Prop:=l.length<=1048576/\∀ x∈l,afp x
theorem sT28 {cs:List PV}(h:Sn Tryz.prog 1048576 28 cs):∃ x:List pM,cs=[.sl 6 (kX.m pM (zQ kX) x) false]/\ah9 x:=by
 obtain⟨J,e,h1,h2⟩:=h.qy underlying28;have hc:Tryz.prog.cellsOf 155=6:=by kernel_rfl
 rw[hc] at e;obtain⟨l,T,U,I⟩:=vO λr hr=>ajp (h1 r hr);exact⟨l,by rw[e,T];rfl,by omega,U⟩
def ajq (x:Int):Prop:=(Lit.int .u64 x).wf=true
theorem sT29 {cs:List PV}(h:Sn Tryz.prog 1048576 29 cs):∃ x:Int,cs=(eI .u64) x/\ajq x:=by
 obtain⟨n,e,U⟩:=h.X7 underlying29;exact⟨n,e,U⟩
def aia (x:gB):Prop:=ah4 x.iJ/\ah5 x.objects/\VT x.jd/\VT x.qK/\ah7 x.stack/\ah8 x.waiting/\ah9 x.kW/\rE x.turn/\rE x.mJ/\rE x.step/\ok4 x.begun/\rE x.priority/\rE x.passes/\rE x.nextId/\rE x.kD/\ajq x.seed/\VT x.extra/\rE x.over/\rE x.ql
theorem sT31 {cs:List PV}(h:Sn Tryz.prog 1048576 31 cs):∃ x:gB,cs=(iF kX) x/\aia x:=by
 have h:=h.kY underlying31;obtain⟨n0,b0,rfl,w0,h⟩:=h.cs sT23;obtain⟨n1,b1,rfl,w1,h⟩:=h.cs sT24;obtain⟨n2,b2,rfl,w2,h⟩:=h.cs aaf;obtain⟨n3,b3,rfl,w3,h⟩:=h.cs aaf;obtain⟨n4,b4,rfl,w4,h⟩:=h.cs sT26;obtain⟨n5,b5,rfl,w5,h⟩:=h.cs sT27;obtain⟨n6,b6,rfl,w6,h⟩:=h.cs sT28;obtain⟨n7,b7,rfl,w7,h⟩:=h.cs rH;obtain⟨n8,b8,rfl,w8,h⟩:=h.cs rH;obtain⟨n9,b9,rfl,w9,h⟩:=h.cs rH;obtain⟨n10,b10,rfl,I,h⟩:=h.cs sT4;obtain⟨n11,b11,rfl,C,h⟩:=h.cs rH;obtain⟨n12,b12,rfl,w12,h⟩:=h.cs rH;obtain⟨n13,b13,rfl,w13,h⟩:=h.cs rH;obtain⟨n14,b14,rfl,U,h⟩:=h.cs rH;obtain⟨n15,b15,rfl,g,h⟩:=h.cs sT29;obtain⟨n16,b16,rfl,T,h⟩:=h.cs aaf;obtain⟨n17,b17,rfl,w17,h⟩:=h.cs rH;obtain⟨n18,b18,rfl,J,h⟩:=h.cs rH;obtain rfl:=h.nH;exact⟨⟨n0,n1,n2,n3,n4,n5,n6,n7,n8,n9,n10,n11,n12,n13,n14,n15,n16,n17,n18⟩,rfl,w0,w1,w2,w3,w4,w5,w6,w7,w8,w9,I,C,w12,w13,U,g,T,w17,J⟩
def aib (l:List (List Int)):Prop:=l.length<=1048576/\∀ x∈l,VT x
theorem sT35 {cs:List PV}(h:Sn Tryz.prog 1048576 35 cs):∃ x:List (List Int),cs=[.sl 1 (kX.m (List Int) (eL kX 1 (eI .i64)) x) false]/\aib x:=by
 obtain⟨J,e,h1,h2⟩:=h.qy underlying35;have hc:Tryz.prog.cellsOf 25=1:=by kernel_rfl
 rw[hc] at e;obtain⟨l,T,U,I⟩:=vO λr hr=>aaf (h1 r hr);exact⟨l,by rw[e,T];rfl,by omega,U⟩
theorem z9 {x:ByteArray}(h:ok9 x):IW x:=h
theorem z86 {x:List ByteArray}(h:ahX x):(su IW) x:=⟨h.1,λy hy=>z9 (h.2 y hy)⟩
theorem z88 {x:zZ}(h:ahY x):Aq x:=z86 (h.2.2)
theorem aah {x:jY}(h:NT x):mD x:=z9 (h.2.2.2.2.2.2.2.1)
theorem z215 {x:lZ}(h:afb x):xh x:=⟨z9 (h.2.2.2.1),aah (h.2.2.2.2)⟩
theorem aic {x:List lZ}(h:aad x):(su xh) x:=⟨h.1,λy hy=>z215 (h.2 y hy)⟩
theorem z110 {x:xw}(h:afd x):F9 x:=aah (h.2.2)
theorem z284 {x:sH}(h:afe x):Hl x:=aah (h.2.2)
theorem z111 {x:List sH}(h:aff x):(su Hl) x:=⟨h.1,λy hy=>z284 (h.2 y hy)⟩
theorem z263 {x:Vl}(h:afg x):Yl x:=aah (h.2.2)
theorem z265 {x:yf}(h:afh x):Na x:=aah (h.2.2.2)
theorem z267 {x:jg}(h:afi x):oP x:=⟨z263 (h.2.1),z265 (h.2.2.1),z9 (h.2.2.2.2.2.1),aah (h.2.2.2.2.2.2.1),aic (h.2.2.2.2.2.2.2.2)⟩
theorem z112 {x:List jg}(h:afj x):(su oP) x:=⟨h.1,λy hy=>z267 (h.2 y hy)⟩
theorem z105 {x:qJ}(h:afk x):zL x:=aah (h.2.2.1)
theorem aid {x:iP}(h:aae x):lT x:=⟨aah (h.2.1),aic (h.2.2.1),z110 (h.2.2.2.2.2.1),z111 (h.2.2.2.2.2.2.2.1),z112 (h.2.2.2.2.2.2.2.2.1),z105 (h.2.2.2.2.2.2.2.2.2)⟩
theorem z89 {x:List iP}(h:ah0 x):(su lT) x:=⟨h.1,λy hy=>aid (h.2 y hy)⟩
theorem z98 {x:iZ}(h:ah1 x):pq x:=⟨z9 (h.1),z88 (h.2.2.2.2.1),z89 (h.2.2.2.2.2.2.2.2)⟩
theorem z22 {x:List iZ}(h:ah2 x):(su pq) x:=⟨h.1,λy hy=>z98 (h.2 y hy)⟩
theorem z25 {x:List Int}(h:VT x):(su (λ(_:Int)=>True)) x:=⟨h.1,λy hy=>trivial⟩
theorem z56 {x:jP}(h:ah3 x):yg x:=⟨z25 (h.2.2.2.2.2.2.1),z25 (h.2.2.2.2.2.2.2.1),z25 (h.2.2.2.2.2.2.2.2)⟩
theorem z23 {x:List jP}(h:ah4 x):(su yg) x:=⟨h.1,λy hy=>z56 (h.2 y hy)⟩
theorem z24 {x:List iw}(h:ah5 x):(su (λ(_:iw)=>True)) x:=⟨h.1,λy hy=>trivial⟩
theorem z145 {x:List qF}(h:afm x):(su (λ(_:qF)=>True)) x:=⟨h.1,λy hy=>trivial⟩
theorem z147 {x:og}(h:afn x):JS x:=⟨aid (h.2.2.2.2.2.2.1),z145 (h.2.2.2.2.2.2.2.1)⟩
theorem z26 {x:List og}(h:ah7 x):(su JS) x:=⟨h.1,λy hy=>z147 (h.2 y hy)⟩
theorem z151 {x:iL}(h:afo x):qB x:=aid (h.2.2.1)
theorem z27 {x:List iL}(h:ah8 x):(su qB) x:=⟨h.1,λy hy=>z151 (h.2 y hy)⟩
theorem z155 {x:pM}(h:afp x):P6 x:=⟨z25 (h.2.2.2.2.1),aic (h.2.2.2.2.2)⟩
theorem z28 {x:List pM}(h:ah9 x):(su P6) x:=⟨h.1,λy hy=>z155 (h.2 y hy)⟩
theorem z31 {x:gB}(h:aia x):lF x:=⟨z23 (h.1),z24 (h.2.1),z25 (h.2.2.1),z25 (h.2.2.2.1),z26 (h.2.2.2.2.1),z27 (h.2.2.2.2.2.1),z28 (h.2.2.2.2.2.2.1),z25 (h.2.2.2.2.2.2.2.2.2.2.2.2.2.2.2.2.1)⟩
theorem z35 {x:List (List Int)}(h:aib x):(su (su (λ(_:Int)=>True))) x:=⟨h.1,λy hy=>z25 (h.2 y hy)⟩
theorem sV22 {p:PV}(h:SnV Tryz.prog 1048576 22 p):∃ x:List iZ,p=.sl 17 (kX.m iZ (zO kX) x) false/\ah2 x:=by
 obtain⟨x,e,hx⟩:=sT22 (h.inv_one aI);cases e;exact⟨x,rfl,hx⟩
theorem sV31 {p:PV}(h:SnV Tryz.prog 1048576 31 p):∃ x:gB,p=.agg ((iF kX) x)/\aia x:=by
 obtain⟨cs,rfl,h2⟩:=h.acC aI;obtain⟨x,rfl,hx⟩:=sT31 h2;exact⟨x,rfl,hx⟩
theorem sV35 {p:PV}(h:SnV Tryz.prog 1048576 35 p):∃ x:List (List Int),p=.sl 1 (kX.m (List Int) (eL kX 1 (eI .i64)) x) false/\aib x:=by
 obtain⟨x,e,hx⟩:=sT35 (h.inv_one aI);cases e;exact⟨x,rfl,hx⟩
end Go.Proofs.YtchmoabpofnbaaaGreat
