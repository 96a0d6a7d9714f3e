import Derived.Shelf.Strings.Search3
import Derived.Shelf.Spec.SlicesInsertGrow
import Derived.Test.YtchmoabpofnbaaaGreatB08
import Derived.Test.YtchmoabpofnbaaaGreatB09
set_option linter.all false
namespace Go.Proofs.YtchmoabpofnbaaaGreat
open Go Go.Pv Go.Shelf
variable [GM]
def YN:Go.Shelf.Ren:=⟨fun|144=>501|143=>506|219=>509|217=>510|225=>511|224=>512|267=>513|266=>514|314=>515|n=>n,fun|9=>9|4=>4|3=>3|5=>5|46=>245|146=>467|51=>318|n=>n,fun|1=>0|n=>n⟩
theorem lays144:Lays.n144 Tryz.prog YN:={ mixed:=by kernel_rfl,f143:=Tryz.func506.trans (congrArg some aV),f144:=Tryz.func501.trans (congrArg some aV),f217:=Tryz.func510.trans (congrArg some aV),f219:=Tryz.func509.trans (congrArg some aV),f224:=Tryz.func512.trans (congrArg some aV),f225:=Tryz.func511.trans (congrArg some aV),f266:=Tryz.func514.trans (congrArg some aV),f267:=Tryz.func513.trans (congrArg some aV),f314:=Tryz.func515.trans (congrArg some aV),t3:=Tryz.underlying3,a3:=Tryz.isAgg3,z3:=Tryz.sizeOf3,v3:=Tryz.zeroValue3,t4:=Tryz.underlying4,a4:=Tryz.isAgg4,z4:=Tryz.sizeOf4,v4:=Tryz.zeroValue4,t5:=Tryz.underlying5,a5:=Tryz.isAgg5,z5:=Tryz.sizeOf5,v5:=Tryz.zeroValue5,t9:=Tryz.underlying9,a9:=Tryz.isAgg9,z9:=Tryz.sizeOf9,v9:=Tryz.zeroValue9,t46:=Tryz.underlying245,a46:=Tryz.isAgg245,z46:=Tryz.sizeOf245,v46:=Tryz.zeroValue245,t51:=Tryz.underlying318,a51:=Tryz.isAgg318,z51:=Tryz.sizeOf318,v51:=Tryz.zeroValue318,t146:=Tryz.underlying467,a146:=Tryz.isAgg467,z146:=Tryz.sizeOf467,v146:=Tryz.zeroValue467,g1:=by kernel_rfl }
def Ue:Go.Shelf.Ren:=⟨fun|22=>470|29=>492|30=>493|36=>502|17=>507|n=>n,fun|24=>86|9=>9|3=>3|4=>4|0=>0|n=>n,fun|n=>n⟩
theorem WZ:Lays2.n22 Tryz.prog Ue:={ mixed:=by kernel_rfl,f17:=Tryz.func507.trans (congrArg some aV),f22:=Tryz.func470.trans (congrArg some aV),f29:=Tryz.func492.trans (congrArg some aV),f30:=Tryz.func493.trans (congrArg some aV),f36:=Tryz.func502.trans (congrArg some aV),t0:=Tryz.underlying0,a0:=Tryz.isAgg0,z0:=Tryz.sizeOf0,v0:=Tryz.zeroValue0,t3:=Tryz.underlying3,a3:=Tryz.isAgg3,z3:=Tryz.sizeOf3,v3:=Tryz.zeroValue3,t4:=Tryz.underlying4,a4:=Tryz.isAgg4,z4:=Tryz.sizeOf4,v4:=Tryz.zeroValue4,t9:=Tryz.underlying9,a9:=Tryz.isAgg9,z9:=Tryz.sizeOf9,v9:=Tryz.zeroValue9,t24:=Tryz.underlying86,a24:=Tryz.isAgg86,z24:=Tryz.sizeOf86,v24:=Tryz.zeroValue86,i9:=by kernel_rfl }
def afo (s sub:ByteArray):Option Bool:=if s.size<4294967281 then some (Lib.contains s.data.toList sub.data.toList) else none
theorem adM {s sub:ByteArray}{r:Bool}(O:afo s sub=some r):gz 501 [.str s,.str sub] (λu=>u=.sb r):=by
 intro w Y J I C U;refine⟨Tryz.call501 _ _,?_⟩;unfold gV at U;obtain⟨v0,_,rfl,h0,U⟩:=U;unfold gV at U;obtain⟨v1,_,rfl,h1,U⟩:=U;unfold gV at U;subst U;unfold Rep at h0 h1;subst h0 h1;unfold afo at O
 split at O
 cases O
 obtain⟨v,hv,hr⟩:∃ v,w.cell? ⟨0,0,none⟩=some v/\v=.int .i64 GM.m:=by
  have T:=I 0 [.si .i64 GM.m] rfl;unfold Rep at T;obtain⟨b,o,e,_,T⟩:=T;cases e;unfold jA at T;obtain⟨⟨v,hv,hr⟩,_⟩:=T;unfold Rep at hr;exact⟨v,hv,hr⟩
 subst hr;refine (Any.strings_Contains lays144 s sub GM.m w ‹_› hv).mono ?_
 rintro e w' ⟨rfl,rfl⟩
 exact⟨_,_,rfl,rfl,by unfold Rep;rfl,Chg.refl _⟩
 cases O
theorem ab9 {α:Type}{s:List α}{i:Int}{v r:List α}(O:ab7 s i v=some r):∃ n:Nat,i=(n:Int)/\n<=s.length/\0<v.length/\s.length+v.length<=1000000000/\r=s.take n++v++s.drop n:=by
 unfold ab7 at O
 split at O
 rename_i h;cases O;exact⟨i.toNat,by omega,by omega,h.2.2.1,h.2.2.2,rfl⟩
 cases O
theorem agB:afP Tryz.prog 470 (Ue.t 9) (.string ⟨#[]⟩) 16 where
 shift:=λb off n c i vb U m C cs vs w h1 h2 h3 g h5 J h7 I h9 h10 T h12 h13 tA tB kA kB h14 h15 h16 h17 h18=>Any2.slices_Insert_string_shift WZ b off n c i vb U m C cs vs w h1 h2 h3 g h5 J h7 I h9 h10 T h12 h13 tA tB kA kB h14 h15 h16 h17 h18
 abk:=λb off n c vb U m C vs w h1 h2 h3 g h5 J h7 I=>Any2.slices_Insert_string_end_room WZ b off n c vb U m C vs w h1 h2 h3 g h5 J h7 I
 WX:=λbase n c vb U m C cs vs w h1 h2 h3 g h5 J h7 I h9 h10=>Any2.slices_Insert_string_end_grow WZ base n c vb U m C cs vs w h1 h2 h3 g h5 J h7 I h9 h10
 grow:=λb off n c i vb U m C cs vs w h1 h2 h3 g h5 J h7 I h9 h10 T=>Any2.slices_Insert_string_grow WZ b off n c i vb U m C cs vs w h1 h2 h3 g h5 J h7 I h9 h10 T
theorem RD {M:iO}(hM:M=lC){s:List ByteArray}{i:Int}{v:List ByteArray}{r:List ByteArray}(O:ab7 s i v=some r):Pv.FnS Tryz.prog glF 470 [.os 0 0 (M.n ByteArray s),.si .i64 i,.os 1 0 (M.n ByteArray v)] [(0,some (.arr false 1 (M.m ByteArray eS s))),(1,some (.arr false 1 (M.m ByteArray eS v)))] 2 (λu st n=>u=.os 2 0 (M.n ByteArray r)/\st=[(0,none),(1,none),(2,some (.arr false 1 (M.m ByteArray eS r)))]/\n=3):=by
 obtain⟨n,rfl,h1,h2,U,rfl⟩:=ab9 O;subst hM;have:=afn (G:=glF) agB bG rfl Tryz.call470 (ra:=s.map eS) (rb:=v.map eS) (i:=n) eU eX (by simpa using U);simp only[<- List.map_take,<- List.map_drop,<- List.map_append,List.length_map] at this;exact this
end Go.Proofs.YtchmoabpofnbaaaGreat
