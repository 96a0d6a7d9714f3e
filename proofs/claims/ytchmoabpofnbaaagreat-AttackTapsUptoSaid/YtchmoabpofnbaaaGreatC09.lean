import Derived.Shelf.Strings.Search3
import Derived.Shelf.Spec.SlicesInsertGrow
import Derived.Test.YtchmoabpofnbaaaGreatC07
import Derived.Test.YtchmoabpofnbaaaGreatC08
set_option linter.all false
namespace Go.Proofs.YtchmoabpofnbaaaGreat
open Go Go.Pv Go.Shelf
variable [GM]
def abf:Go.Shelf.Ren:=⟨fun|144=>501|143=>506|219=>509|217=>510|225=>511|224=>512|267=>513|266=>514|314=>515|n=>n,fun|9=>9|4=>4|3=>3|5=>5|46=>245|146=>467|51=>318|n=>n,fun|1=>0|n=>n⟩
theorem lays144:Lays.n144 Tryz.prog abf:={ mixed:=by kernel_rfl,f143:=Tryz.func506.trans (congrArg some aA),f144:=Tryz.func501.trans (congrArg some aA),f217:=Tryz.func510.trans (congrArg some aA),f219:=Tryz.func509.trans (congrArg some aA),f224:=Tryz.func512.trans (congrArg some aA),f225:=Tryz.func511.trans (congrArg some aA),f266:=Tryz.func514.trans (congrArg some aA),f267:=Tryz.func513.trans (congrArg some aA),f314:=Tryz.func515.trans (congrArg some aA),t3:=Tryz.underlying3,a3:=Tryz.isAgg3,z3:=Tryz.sizeOf3,v3:=Tryz.zeroValue3,t4:=Tryz.underlying4,a4:=Tryz.isAgg4,z4:=Tryz.sizeOf4,v4:=Tryz.zeroValue4,t5:=Tryz.underlying5,a5:=Tryz.isAgg5,z5:=Tryz.sizeOf5,v5:=Tryz.zeroValue5,t9:=Tryz.underlying9,a9:=Tryz.isAgg9,z9:=Tryz.sizeOf9,v9:=Tryz.zeroValue9,t46:=Tryz.underlying245,a46:=Tryz.isAgg245,z46:=Tryz.sizeOf245,v46:=Tryz.zeroValue245,t51:=Tryz.underlying318,a51:=Tryz.isAgg318,z51:=Tryz.sizeOf318,v51:=Tryz.zeroValue318,t146:=Tryz.underlying467,a146:=Tryz.isAgg467,z146:=Tryz.sizeOf467,v146:=Tryz.zeroValue467,g1:=by kernel_rfl }
def Wv:Go.Shelf.Ren:=⟨fun|22=>470|29=>492|30=>493|36=>502|17=>507|n=>n,fun|24=>86|9=>9|3=>3|4=>4|0=>0|n=>n,fun|n=>n⟩
theorem Zq:Lays2.n22 Tryz.prog Wv:={ mixed:=by kernel_rfl,f17:=Tryz.func507.trans (congrArg some aA),f22:=Tryz.func470.trans (congrArg some aA),f29:=Tryz.func492.trans (congrArg some aA),f30:=Tryz.func493.trans (congrArg some aA),f36:=Tryz.func502.trans (congrArg some aA),t0:=Tryz.underlying0,a0:=Tryz.isAgg0,z0:=Tryz.sizeOf0,v0:=Tryz.zeroValue0,t3:=Tryz.underlying3,a3:=Tryz.isAgg3,z3:=Tryz.sizeOf3,v3:=Tryz.zeroValue3,t4:=Tryz.underlying4,a4:=Tryz.isAgg4,z4:=Tryz.sizeOf4,v4:=Tryz.zeroValue4,t9:=Tryz.underlying9,a9:=Tryz.isAgg9,z9:=Tryz.sizeOf9,v9:=Tryz.zeroValue9,t24:=Tryz.underlying86,a24:=Tryz.isAgg86,z24:=Tryz.sizeOf86,v24:=Tryz.zeroValue86,i9:=by kernel_rfl }
def abg:Go.Shelf.Ren:=⟨fun|189=>95|125=>174|257=>173|128=>264|129=>265|294=>255|295=>256|296=>257|297=>258|298=>259|299=>260|216=>261|300=>262|301=>263|328=>343|329=>344|330=>345|331=>346|332=>347|215=>278|343=>418|n=>n,fun|28=>25|3=>3|46=>245|0=>0|51=>318|53=>29|4=>4|183=>311|182=>310|131=>315|5=>5|9=>9|218=>372|222=>376|228=>418|229=>419|n=>n,fun|n=>n⟩
theorem lays189:Lays.n189 Tryz.prog abg:={ mixed:=by kernel_rfl,f125:=Tryz.func174.trans (congrArg some aA),f128:=Tryz.func264.trans (congrArg some aA),f129:=Tryz.func265.trans (congrArg some aA),f189:=Tryz.func95.trans (congrArg some aA),f215:=Tryz.func278.trans (congrArg some aA),f216:=Tryz.func261.trans (congrArg some aA),f257:=Tryz.func173.trans (congrArg some aA),f294:=Tryz.func255.trans (congrArg some aA),f295:=Tryz.func256.trans (congrArg some aA),f296:=Tryz.func257.trans (congrArg some aA),f297:=Tryz.func258.trans (congrArg some aA),f298:=Tryz.func259.trans (congrArg some aA),f299:=Tryz.func260.trans (congrArg some aA),f300:=Tryz.func262.trans (congrArg some aA),f301:=Tryz.func263.trans (congrArg some aA),f328:=Tryz.func343.trans (congrArg some aA),f329:=Tryz.func344.trans (congrArg some aA),f330:=Tryz.func345.trans (congrArg some aA),f331:=Tryz.func346.trans (congrArg some aA),f332:=Tryz.func347.trans (congrArg some aA),f343:=Tryz.func418.trans (congrArg some aA),t0:=Tryz.underlying0,a0:=Tryz.isAgg0,z0:=Tryz.sizeOf0,v0:=Tryz.zeroValue0,t3:=Tryz.underlying3,a3:=Tryz.isAgg3,z3:=Tryz.sizeOf3,v3:=Tryz.zeroValue3,t4:=Tryz.underlying4,a4:=Tryz.isAgg4,z4:=Tryz.sizeOf4,v4:=Tryz.zeroValue4,t5:=Tryz.underlying5,a5:=Tryz.isAgg5,z5:=Tryz.sizeOf5,v5:=Tryz.zeroValue5,t9:=Tryz.underlying9,a9:=Tryz.isAgg9,z9:=Tryz.sizeOf9,v9:=Tryz.zeroValue9,t28:=Tryz.underlying25,a28:=Tryz.isAgg25,z28:=Tryz.sizeOf25,v28:=Tryz.zeroValue25,t46:=Tryz.underlying245,a46:=Tryz.isAgg245,z46:=Tryz.sizeOf245,v46:=Tryz.zeroValue245,t51:=Tryz.underlying318,a51:=Tryz.isAgg318,z51:=Tryz.sizeOf318,v51:=Tryz.zeroValue318,t53:=Tryz.underlying29,a53:=Tryz.isAgg29,z53:=Tryz.sizeOf29,v53:=Tryz.zeroValue29,t131:=Tryz.underlying315,a131:=Tryz.isAgg315,z131:=Tryz.sizeOf315,v131:=Tryz.zeroValue315,t182:=Tryz.underlying310,a182:=Tryz.isAgg310,z182:=Tryz.sizeOf310,v182:=Tryz.zeroValue310,t183:=Tryz.underlying311,a183:=Tryz.isAgg311,z183:=Tryz.sizeOf311,v183:=Tryz.zeroValue311,t218:=Tryz.underlying372,a218:=Tryz.isAgg372,z218:=Tryz.sizeOf372,v218:=Tryz.zeroValue372,t222:=Tryz.underlying376,a222:=Tryz.isAgg376,z222:=Tryz.sizeOf376,v222:=Tryz.zeroValue376,t228:=Tryz.underlying418,a228:=Tryz.isAgg418,z228:=Tryz.sizeOf418,v228:=Tryz.zeroValue418,t229:=Tryz.underlying419,a229:=Tryz.isAgg419,z229:=Tryz.sizeOf419,v229:=Tryz.zeroValue419 }
def ags (s sub:ByteArray):Option Bool:=if s.size<4294967281 then some (Lib.contains s.data.toList sub.data.toList) else none
theorem agt {s sub:ByteArray}{r:Bool}(U:ags s sub=some r):eH 501 [.str s,.str sub] (λu=>u=.sb r):=by
 intro w Y I C t T;refine⟨Tryz.call501 _ _,?_⟩;unfold eU at T;obtain⟨v0,_,rfl,h0,T⟩:=T;unfold eU at T;obtain⟨v1,_,rfl,h1,T⟩:=T;unfold eU at T;subst T;unfold Rep at h0 h1;subst h0 h1;unfold ags at U
 split at U
 cases U
 obtain⟨v,hv,hr⟩:∃ v,w.cell? ⟨0,0,none⟩=some v/\v=.int .i64 GM.m:=by
  have J:=C 0 [.si .i64 GM.m] rfl;unfold Rep at J;obtain⟨b,o,e,_,J⟩:=J;cases e;unfold iG at J;obtain⟨⟨v,hv,hr⟩,_⟩:=J;unfold Rep at hr;exact⟨v,hv,hr⟩
 subst hr;refine(Any.strings_Contains lays144 s sub GM.m w ‹_› hv).mono ?_
 rintro e w' ⟨rfl,rfl⟩
 exact⟨_,_,rfl,rfl,by unfold Rep;rfl,Chg.refl _⟩
 cases U
theorem aeP {α:Type}{s:List α}{i:Int}{v r:List α}(U:aeN s i v=some r):∃ n:Nat,i=(n:Int)/\n<=s.length/\0<v.length/\s.length+v.length<=1000000000/\r=s.take n++v++s.drop n:=by
 unfold aeN at U
 split at U
 rename_i h;cases U;exact⟨i.toNat,by omega,by omega,h.2.2.1,h.2.2.2,rfl⟩
 cases U
theorem akb:ajd Tryz.prog 470 (Wv.t 9) (.string ⟨#[]⟩) 16 where
 shift:=λb off n c i g T m C cs vs w h1 h2 I h4 h5 h6 h7 h8 h9 J h11 h12 h13 tA tB kA kB h14 h15 h16 h17 h18=>Any2.slices_Insert_string_shift Zq b off n c i g T m C cs vs w h1 h2 I h4 h5 h6 h7 h8 h9 J h11 h12 h13 tA tB kA kB h14 h15 h16 h17 h18
 adT:=λb off n c g T m C vs w h1 h2 I h4 h5 h6 h7 h8=>Any2.slices_Insert_string_end_room Zq b off n c g T m C vs w h1 h2 I h4 h5 h6 h7 h8
 Zo:=λbase n c g T m C cs vs w h1 h2 I h4 h5 h6 h7 h8 h9 J=>Any2.slices_Insert_string_end_grow Zq base n c g T m C cs vs w h1 h2 I h4 h5 h6 h7 h8 h9 J
 grow:=λb off n c i g T m C cs vs w h1 h2 I h4 h5 h6 h7 h8 h9 J h11=>Any2.slices_Insert_string_grow Zq b off n c i g T m C cs vs w h1 h2 I h4 h5 h6 h7 h8 h9 J h11
theorem UR {M:fP}(hM:M=ku){s:List ByteArray}{i:Int}{v:List ByteArray}{r:List ByteArray}(U:aeN s i v=some r):Pv.FnS Tryz.prog glF 470 [.os 0 0 (M.n ByteArray s),.si .i64 i,.os 1 0 (M.n ByteArray v)] [(0,some (.arr false 1 (M.m ByteArray eS s))),(1,some (.arr false 1 (M.m ByteArray eS v)))] 2 (λu st n=>u=.os 2 0 (M.n ByteArray r)/\st=[(0,none),(1,none),(2,some (.arr false 1 (M.m ByteArray eS r)))]/\n=3):=by
 obtain⟨n,rfl,h1,h2,T,rfl⟩:=aeP U;subst hM;have:=aix (G:=glF) akb aU rfl Tryz.call470 (ra:=s.map eS) (rb:=v.map eS) (i:=n) dO dP (by simpa using T);simp only[<- List.map_take,<- List.map_drop,<- List.map_append,List.length_map] at this;exact this
theorem agu {M:fP}(hM:M=ku){x:List Int}{r:List Int}(U:aeO x=some r):Pv.FnS Tryz.prog glF 95 [.os 0 0 (M.n Int x)] [(0,some (.arr false 1 (M.m Int (eI .i64) x)))] 1 (λT ss nn=>T=.Eu []/\ss=[(0,some (.arr false 1 (M.m Int (eI .i64) r)))]/\nn=1):=by
 obtain⟨h1,rfl⟩:=Yj U;subst hM;exact agr Tryz.call95 (λblk off cap zs w a b c=>Any.slices_Sort_int lays189 blk off cap zs w a b c) (λp cap w=>Any.slices_Sort_int_none lays189 p cap w) h1
end Go.Proofs.YtchmoabpofnbaaaGreat
