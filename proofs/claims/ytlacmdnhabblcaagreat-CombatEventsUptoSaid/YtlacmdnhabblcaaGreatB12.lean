import Derived.Test.YtlacmdnhabblcaaGreatB11
set_option linter.all false
namespace Go.Proofs.YtlacmdnhabblcaaGreat
open Go Go.Pv Proofs.Tryz
set_option maxRecDepth 100000
set_option maxHeartbeats 2000000
section
variable {M:kM}(hM:M=jT)
include hM
theorem aot {p:rQ Int}{r:Bool}(O:Aq p=some r):iI 191 [.agg [sI p.a0,sI p.a1,sI p.a2,sI p.a3,sI p.a4,sI p.a5]] (λu=>u=.sb r):=by
 refine jB (je [4,8]) func191 call191 ?_;intro S R hS hR;have q:=sf hM hS;unfold Aq at O;cbv;refine kE hS (je [4,8]) wf [] [1,3] (λs1=>f3 18 [(1,.lv 0 0),(3,sI s1)] [vR [sI p.a0,sI p.a1,sI p.a2,sI p.a3,sI p.a4,sI p.a5]]) O ?_;intro Ik2 k2 s1 hk2 O e he;subst he;unfold BC at O;cbv;refine nJ hS ?_;cbv;refine jc ?_ ?_
 intro O;cbv;refine jk hS [] [1,3,17] (λs4=>f3 18 [(1,.lv 0 0),(3,sI s1),(17,.sb s4)] [vR [sI p.a0,sI p.a1,sI p.a2,sI p.a3,sI p.a4,sI p.a5]]) O ?_ ?_
 intro Ik5 k5 hk5 O;cbv;obtain⟨j7,hj7,ej7,O⟩:=oz O;refine tZ hS rfl ⟨j7,hj7,ej7,?_⟩;rcases lt6 hj7 with rfl|rfl|rfl|rfl|rfl|rfl
 cbv;refine jc ?_ ?_
 exact jv
 intro O;cbv;obtain⟨j8,C,ej8,O⟩:=oz O;refine tZ hS rfl ⟨j8,C,ej8,?_⟩;rcases lt6 C with rfl|rfl|rfl|rfl|rfl|rfl
 exact gU
 exact gU
 exact gU
 exact gU
 exact gU
 cbv;exact ng
 cbv;refine jc ?_ ?_
 exact jv
 intro O;cbv;obtain⟨j9,hj9,ej9,O⟩:=oz O;refine tZ hS rfl ⟨j9,hj9,ej9,?_⟩;rcases lt6 hj9 with rfl|rfl|rfl|rfl|rfl|rfl
 exact gU
 exact gU
 exact gU
 exact gU
 exact gU
 cbv;exact ng
 cbv;refine jc ?_ ?_
 exact jv
 intro O;cbv;obtain⟨j10,I,ej10,O⟩:=oz O;refine tZ hS rfl ⟨j10,I,ej10,?_⟩;rcases lt6 I with rfl|rfl|rfl|rfl|rfl|rfl
 exact gU
 exact gU
 exact gU
 exact gU
 exact gU
 cbv;exact ng
 cbv;refine jc ?_ ?_
 exact jv
 intro O;cbv;obtain⟨j11,J,ej11,O⟩:=oz O;refine tZ hS rfl ⟨j11,J,ej11,?_⟩;rcases lt6 J with rfl|rfl|rfl|rfl|rfl|rfl
 exact gU
 exact gU
 exact gU
 exact gU
 exact gU
 cbv;exact ng
 cbv;refine jc ?_ ?_
 exact jv
 intro O;cbv;obtain⟨j12,U,g,O⟩:=oz O;refine tZ hS rfl ⟨j12,U,g,?_⟩;rcases lt6 U with rfl|rfl|rfl|rfl|rfl|rfl
 exact gU
 exact gU
 exact gU
 exact gU
 exact gU
 cbv;exact ng
 cbv;refine jc ?_ ?_
 exact jv
 intro O;cbv;obtain⟨j13,T,ej13,O⟩:=oz O;refine tZ hS rfl ⟨j13,T,ej13,?_⟩;rcases lt6 T with rfl|rfl|rfl|rfl|rfl|rfl
 exact gU
 exact gU
 exact gU
 exact gU
 exact gU
 cbv;exact ng
 intro s4 O;cbv;refine jA hS O rfl ?_ ?_
 exact jr
 exact jv
 exact jr
theorem c275 {a:kF}{r:kF}(O:Fb a=some r):iI 275 [.agg (lD M a)] (λu=>u=.agg (lD M r)):=by
 refine jB jm func275 call275 ?_;intro S R hS hR;have q:=sf hM hS;unfold Fb at O;cbv;refine jM hS O lS ?_;intro O;cbv;refine jM hS O lS ?_;intro O;cbv
 refine kE hS jm wf [.cO 2 49 64] [1,2,3,4] (λs1=>f3 42 [(1,.lv 0 0),(2,.lv 1 0),(3,.lv 2 0),(4,sI s1.1)] [vR (lD M a),vR [sI 0,sI 0,sI 0,sI 0,sI 0,sI 0,sI 0,sI 0,.str (bs []),sI 0,sI 0,sI 0,sI 0,sI 0,sI 0,sI 0,sI 0,.sl 0 [] true,sI 0,sI 0,sI 0,sI 0,sI 0,sI 0,sI 0,.sb false,.sb false,sI 0,.sb false,sI 0,sI 0,sI 0,sI 0,sI 0,sI 0,sI 0,sI 0,sI 0,.str (bs []),sI 0,sI 0,sI 0,sI 0,sI 0,sI 0,sI 0,sI 0,.sb false,.sl 0 [] true,.sl 0 [] true,sI 0,sI 0,sI 0,sI 0,sI 0,sI 0,sI 0,sI 0,sI 0,.str (bs []),sI 0,sI 0,sI 0,sI 0,sI 0,sI 0,sI 0,sI 0,sI 0,sI 0,sI 0,sI 0],vR [sI a.kind,sI a.filter.jQ,sI a.filter.who,sI a.filter.self,sI a.filter.types,sI a.filter.jU,sI a.filter.kU,sI a.filter.jL,.str a.filter.sub,sI a.filter.keys,sI a.filter.vZ,sI a.filter.power.kind,sI a.filter.power.n,sI a.filter.jE.kind,sI a.filter.jE.n,sI a.filter.value.kind,sI a.filter.value.n,.os 3 0 (S.jD (S.app (S.sub ([]) 0 0) (M.m nN (rE M) a.mP))),sI a.price.og.generic,sI a.price.og.x,sI a.price.og.color.a0,sI a.price.og.color.a1,sI a.price.og.color.a2,sI a.price.og.color.a3,sI a.price.og.color.a4,.sb a.price.vZ,.sb a.price.vO,sI a.price.life,.sb a.slow,sI a.jg.when,sI a.jg.who,sI a.jg.filter.jQ,sI a.jg.filter.who,sI a.jg.filter.self,sI a.jg.filter.types,sI a.jg.filter.jU,sI a.jg.filter.kU,sI a.jg.filter.jL,.str a.jg.filter.sub,sI a.jg.filter.keys,sI a.jg.filter.vZ,sI a.jg.filter.power.kind,sI a.jg.filter.power.n,sI a.jg.filter.jE.kind,sI a.jg.filter.jE.n,sI a.jg.filter.value.kind,sI a.jg.filter.value.n,.sb a.may,.os 4 0 (S.jD (S.app (S.sub ([]) 0 0) (M.m qM (zl M) a.specs))),.os 5 0 (S.jD (M.m jX (mf M) s1.2)),sI a.replace.on,sI a.replace.who,sI a.replace.filter.jQ,sI a.replace.filter.who,sI a.replace.filter.self,sI a.replace.filter.types,sI a.replace.filter.jU,sI a.replace.filter.kU,sI a.replace.filter.jL,.str a.replace.filter.sub,sI a.replace.filter.keys,sI a.replace.filter.vZ,sI a.replace.filter.power.kind,sI a.replace.filter.power.n,sI a.replace.filter.jE.kind,sI a.replace.filter.jE.n,sI a.replace.filter.value.kind,sI a.replace.filter.value.n,sI a.replace.doF,sI a.replace.n,sI a.replace.jQ,sI a.replace.counter],aR 20 (S.app (S.sub ([]) 0 0) (M.m nN (rE M) a.mP)),aR 18 (S.app (S.sub ([]) 0 0) (M.m qM (zl M) a.specs)),aR 64 (M.m jX (mf M) s1.2)]) O ?_
 intro Ik2 k2 s1 hk2 O e he;subst he;unfold BI at O;cbv;refine jc ?_ ?_
 intro O;cbv;refine kV ?_;intro x4 O;cbv;refine jM hS O lS ?_;intro O;cbv;refine jM hS O lS ?_;exact jv
 exact jr
theorem agr {c:oH}{r:Bool}(O:FM c=some r):iI 184 [.agg (pV M c)] (λu=>u=.sb r):=by
 refine jB (je [2,8,12]) func184 call184 ?_;intro S R hS hR;have q:=sf hM hS;unfold FM at O;cbv;refine jk hS [] [1,21] (λs1=>f3 38 [(1,.lv 0 0),(21,.sb s1)] [vR (pV M c)]) O ?_ ?_
 intro Ik2 k2 hk2 O;cbv;refine jc ?_ ?_
 exact jv
 intro O;cbv;refine jc ?_ ?_
 exact jv
 intro O;cbv;refine jc ?_ ?_<;>exact jv
 intro s1 O;cbv;refine jA hS O rfl ?_ ?_
 exact jr
 intro O;cbv;refine kE hS (je [2,8,12]) wf [] [1,3] (λs4=>f3 38 [(1,.lv 0 0),(3,sI s4)] [vR (pV M c)]) O ?_;intro Ik5 k5 s4 hk5 O e he;subst he;unfold G7 at O;cbv;refine nJ hS ?_;cbv;refine jc ?_ ?_
 intro O;cbv;refine jk hS [] [1,3,37] (λs7=>f3 38 [(1,.lv 0 0),(3,sI s4),(37,.sb s7)] [vR (pV M c)]) O ?_ ?_
 intro Ik8 k8 hk8 O;cbv;obtain⟨j10,C,ej10,O⟩:=oz O;refine tZ hS rfl ⟨j10,C,ej10,?_⟩;rcases lt5 C with rfl|rfl|rfl|rfl|rfl
 cbv;refine jc ?_ ?_
 exact jv
 intro O;cbv;obtain⟨j11,J,ej11,O⟩:=oz O;refine tZ hS rfl ⟨j11,J,ej11,?_⟩;rcases lt5 J with rfl|rfl|rfl|rfl|rfl
 exact gU
 exact gU
 exact gU
 exact gU
 cbv;exact ng
 cbv;refine jc ?_ ?_
 exact jv
 intro O;cbv;obtain⟨j12,U,ej12,O⟩:=oz O;refine tZ hS rfl ⟨j12,U,ej12,?_⟩;rcases lt5 U with rfl|rfl|rfl|rfl|rfl
 exact gU
 exact gU
 exact gU
 exact gU
 cbv;exact ng
 cbv;refine jc ?_ ?_
 exact jv
 intro O;cbv;obtain⟨j13,T,ej13,O⟩:=oz O;refine tZ hS rfl ⟨j13,T,ej13,?_⟩;rcases lt5 T with rfl|rfl|rfl|rfl|rfl
 exact gU
 exact gU
 exact gU
 exact gU
 cbv;exact ng
 cbv;refine jc ?_ ?_
 exact jv
 intro O;cbv;obtain⟨j14,g,ej14,O⟩:=oz O;refine tZ hS rfl ⟨j14,g,ej14,?_⟩;rcases lt5 g with rfl|rfl|rfl|rfl|rfl
 exact gU
 exact gU
 exact gU
 exact gU
 cbv;exact ng
 cbv;refine jc ?_ ?_
 exact jv
 intro O;cbv;obtain⟨j15,I,ej15,O⟩:=oz O;refine tZ hS rfl ⟨j15,I,ej15,?_⟩;rcases lt5 I with rfl|rfl|rfl|rfl|rfl
 exact gU
 exact gU
 exact gU
 exact gU
 cbv;exact ng
 intro s7 O;cbv;refine jA hS O rfl ?_ ?_
 exact jr
 exact jv
 exact jr
theorem c266 {c:UQ Int}{r:Bool}(O:Yb c=some r):iI 266 [.agg [sI c.a0,sI c.a1,sI c.a2]] (λu=>u=.sb r):=by
 refine jB (je [4,8]) func266 call266 ?_;intro S R hS hR;have q:=sf hM hS;unfold Yb at O;cbv;refine kE hS (je [4,8]) wf [] [1,3] (λs1=>f3 18 [(1,.lv 0 0),(3,sI s1)] [vR [sI c.a0,sI c.a1,sI c.a2]]) O ?_;intro Ik2 k2 s1 hk2 O e he;subst he;unfold U5 at O;cbv;refine nJ hS ?_;cbv;refine jc ?_ ?_
 intro O;cbv;refine jk hS [] [1,3,17] (λs4=>f3 18 [(1,.lv 0 0),(3,sI s1),(17,.sb s4)] [vR [sI c.a0,sI c.a1,sI c.a2]]) O ?_ ?_
 intro Ik5 k5 hk5 O;cbv;obtain⟨j7,hj7,ej7,O⟩:=oz O;refine tZ hS rfl ⟨j7,hj7,ej7,?_⟩;rcases lt3 hj7 with rfl|rfl|rfl
 cbv;refine jc ?_ ?_
 exact jv
 intro O;cbv;obtain⟨j8,hj8,ej8,O⟩:=oz O;refine tZ hS rfl ⟨j8,hj8,ej8,?_⟩;rcases lt3 hj8 with rfl|rfl|rfl
 exact gU
 exact gU
 cbv;exact ng
 cbv;refine jc ?_ ?_
 exact jv
 intro O;cbv;obtain⟨j9,hj9,ej9,O⟩:=oz O;refine tZ hS rfl ⟨j9,hj9,ej9,?_⟩;rcases lt3 hj9 with rfl|rfl|rfl
 exact gU
 exact gU
 cbv;exact ng
 cbv;refine jc ?_ ?_
 exact jv
 intro O;cbv;obtain⟨j10,hj10,ej10,O⟩:=oz O;refine tZ hS rfl ⟨j10,hj10,ej10,?_⟩;rcases lt3 hj10 with rfl|rfl|rfl
 exact gU
 exact gU
 cbv;exact ng
 intro s4 O;cbv;refine jA hS O rfl ?_ ?_
 exact jr
 exact jv
 exact jr
theorem c464 {op:Int}{r:ByteArray}(O:O5 op=some r):iI 464 [sI op] (λu=>u=.str r):=by
 refine jB jm func464 call464 ?_;intro S R hS hR;have q:=sf hM hS;unfold O5 at O;cbv;refine jc ?_ ?_
 exact jr
 intro O;cbv;refine jc ?_ ?_
 exact jr
 intro O;cbv;refine jc ?_ ?_
 exact jr
 intro O;cbv;refine jc ?_ ?_
 exact jr
 intro O;cbv;refine jc ?_ ?_
 exact jr
 intro O;cbv;refine jc ?_ ?_
 exact jr
 intro O;cbv;refine jc ?_ ?_
 exact jr
 intro O;cbv;refine jc ?_ ?_
 exact jr
 intro O;cbv;refine jc ?_ ?_
 exact jr
 intro O;cbv;refine jc ?_ ?_
 exact jr
 intro O;cbv;refine jc ?_ ?_
 exact jr
 intro O;cbv;refine jc ?_ ?_
 exact jr
 intro O;cbv;refine jc ?_ ?_
 exact jr
 intro O;cbv;refine jc ?_ ?_
 exact jr
 intro O;cbv;refine jc ?_ ?_
 exact jr
 intro O;cbv;refine jc ?_ ?_
 exact jr
 intro O;cbv;refine jc ?_ ?_
 exact jr
 intro O;cbv;refine jc ?_ ?_<;>exact jr
end
section
variable {M:kM}(hM:M=jT)
include hM
theorem aou {a:Int}{b:Int}{most:Int}{r:Bool}(O:G8 a b most=some r):iI 333 [sI a,sI b,sI most] (λu=>u=.sb r):=by
 refine jB (je [2,8,12]) func333 call333 ?_;intro S R hS hR;have q:=sf hM hS;unfold G8 at O;cbv;refine jk hS [] [0,1,23] (λT=>f3 40 [(0,sI a),(1,sI b),(23,.sb T)] []) O ?_ ?_
 intro C k2 I O;cbv;refine jc ?_ ?_
 exact jv
 intro O;cbv;refine jc ?_ ?_
 exact jv
 intro O;cbv;refine jc ?_ ?_<;>exact jv
 intro T O;cbv;refine jA hS O rfl ?_ ?_
 exact jr
 intro O;cbv;refine kE hS (je [2,8,12]) wf [] [0,1,7] (λU=>f3 40 [(0,sI U.1),(1,sI U.2.1),(7,sI U.2.2)] []) O ?_;intro Ik5 k5 U g O e he;subst he;unfold Nk at O;cbv;refine nJ hS ?_;cbv;refine jc ?_ ?_
 intro O;cbv;refine jk hS [] [0,1,7,35] (λJ=>f3 40 [(0,sI U.1),(1,sI U.2.1),(7,sI U.2.2),(35,.sb J)] []) O ?_ ?_
 intro Ik8 k8 hk8 O;cbv;refine xW hS O rfl rfl ?_;intro x10 O;cbv;refine jc ?_ ?_
 intro O;cbv;refine xW hS O rfl rfl ?_;exact lu
 exact jv
 intro J O;cbv;refine jA hS O rfl ?_ ?_
 exact jr
 intro O;cbv;refine xW hS O rfl rfl ?_;intro x12 O;cbv;refine xW hS O rfl rfl ?_;exact lu
 exact jr
theorem aov {when:Int}{r:ByteArray}(O:KY when=some r):iI 335 [sI when] (λu=>u=.str r):=by
 refine jB jm func335 call335 ?_;intro S R hS hR;have q:=sf hM hS;unfold KY at O;cbv;refine jc ?_ ?_
 exact jr
 intro O;cbv;refine jc ?_ ?_
 exact jr
 intro O;cbv;refine jc ?_ ?_
 exact jr
 intro O;cbv;refine jc ?_ ?_
 exact jr
 intro O;cbv;refine jc ?_ ?_
 exact jr
 intro O;cbv;refine jc ?_ ?_
 exact jr
 intro O;cbv;refine jc ?_ ?_
 exact jr
 intro O;cbv;refine jc ?_ ?_
 exact jr
 intro O;cbv;refine jc ?_ ?_
 exact jr
 intro O;cbv;refine jc ?_ ?_
 exact jr
 intro O;cbv;refine jc ?_ ?_
 exact jr
 intro O;cbv;refine jc ?_ ?_
 exact jr
 intro O;cbv;refine jc ?_ ?_
 exact jr
 intro O;cbv;refine jc ?_ ?_<;>exact jr
theorem c201 {kind:Int}{r:Int}(O:wY kind=some r):iI 201 [sI kind] (λu=>u=sI r):=by
 refine jB jm func201 call201 ?_;intro S R hS hR;have q:=sf hM hS;unfold wY at O;cbv;refine jc ?_ ?_
 exact jr
 intro O;cbv;refine jc ?_ ?_
 exact jr
 intro O;cbv;refine jc ?_ ?_
 exact jr
 intro O;cbv;refine jc ?_ ?_
 exact jr
 intro O;cbv;refine jc ?_ ?_
 exact jr
 intro O;cbv;refine jc ?_ ?_
 exact jr
 intro O;cbv;refine jc ?_ ?_
 exact jr
 intro O;cbv;refine jc ?_ ?_
 exact jr
 intro O;cbv;refine jc ?_ ?_
 exact jr
 intro O;cbv;refine jc ?_ ?_
 exact jr
 intro O;cbv;refine jc ?_ ?_
 exact jr
 intro O;cbv;refine jc ?_ ?_
 exact jr
 intro O;cbv;refine jc ?_ ?_
 exact jr
 intro O;cbv;refine jc ?_ ?_<;>exact jr
theorem c269 {s:iT}{id:Int}{r:Int}(O:Ik s id=some r):iI 269 [.agg (jb M s),sI id] (λu=>u=sI r):=by
 refine jB (je [9,10]) func269 call269 ?_;intro S R hS hR;have q:=sf hM hS;unfold Ik at O;cbv;refine kE hS (je [9,10]) wf [] [1,2,5,6] (λs1=>f3 34 [(1,sI id),(2,.lv 0 0),(5,sI s1.1),(6,sI s1.2)] [vR (jb M s)]) O ?_;intro Ik2 k2 s1 hk2 O e he;subst he;unfold JS at O;cbv;refine jc ?_ ?_
 intro O;cbv;refine jk hS [] [1,2,5,6] (λs4=>f3 34 [(1,sI id),(2,.lv 0 0),(5,sI s4),(6,sI s1.2)] [vR (jb M s)]) O ?_ ?_
 intro Ik5 k5 hk5 O;cbv;refine jk hS [] [1,2,5,6,30] (λs7=>f3 34 [(1,sI id),(2,.lv 0 0),(5,sI s1.1),(6,sI s1.2),(30,.sb s7)] [vR (jb M s)]) O ?_ ?_
 intro Ik8 k8 hk8 O;cbv;refine kV ?_;intro x10 O;cbv;refine jc ?_ ?_
 intro O;cbv;refine kV ?_;exact lu
 exact jv
 intro s7 O;cbv;refine jA hS O rfl ?_ ?_<;>exact jv
 intro s4 O;cbv;exact ng
 exact jr
theorem c427 {l:List ByteArray}{pby:ByteArray}{r:ByteArray}(O:OZ l pby=some r):iI 427 [.sl 1 (M.m ByteArray eS l) false,.str pby] (λu=>u=.str r):=by
 refine jB (je [9,15]) func427 call427 ?_;intro S R hS hR;have q:=sf hM hS;unfold OZ at O;cbv;refine kE hS (je [9,15]) wf [] [0,1,5,6] (λs1=>f3 25 [(0,.sl 1 (M.m ByteArray eS l) false),(1,.str pby),(5,.str s1.1),(6,sI s1.2)] []) O ?_;intro Ik2 k2 s1 hk2 O e he;subst he;unfold Jh at O;cbv;refine jc ?_ ?_
 intro O;cbv;refine jk hS [] [0,1,5,6] (λs4=>f3 25 [(0,.sl 1 (M.m ByteArray eS l) false),(1,.str pby),(5,.str s4),(6,sI s1.2)] []) O ?_ ?_
 intro Ik5 k5 hk5 O;cbv;refine jk hS [] [0,1,5,6] (λs7=>f3 25 [(0,.sl 1 (M.m ByteArray eS l) false),(1,.str pby),(5,.str s7),(6,sI s1.2)] []) O ?_ ?_
 intro Ik8 k8 hk8 O;cbv;refine jc ?_ ?_
 intro O;cbv;refine qK hS O rfl rfl ?_;exact lu
 exact jv
 intro s7 O;cbv;refine kV ?_;intro x11 O;cbv;refine qK hS O rfl rfl ?_;exact lu
 intro s4 O;cbv;exact ng
 exact jr
theorem c139 {l:List Int}{n:Int}{r:List Int}(O:Fj l n=some r):iI 139 [.sl 1 (mI M l) false,sI n] (λu=>u=.sl 1 (mI M r) false):=by
 refine jB (je [9]) func139 call139 ?_;intro S R hS hR;have q:=sf hM hS;unfold Fj at O;cbv;refine kE hS (je [9]) wf [.tO 5 1] [0,1,5,6] (λs1=>f3 27 [(0,.sl 1 (mI M l) false),(1,sI n),(5,.os 0 0 (S.jD (mI M s1.2))),(6,sI s1.1)] [aR 1 (mI M s1.2)]) O ?_;intro Ik2 k2 s1 hk2 O e he;subst he;unfold BU at O;cbv;refine jc ?_ ?_
 intro O;cbv;refine jk hS [.tO 5 1] [0,1,5,6] (λs4=>f3 27 [(0,.sl 1 (mI M l) false),(1,sI n),(5,.os 0 0 (S.jD (mI M s4))),(6,sI s1.1)] [aR 1 (mI M s4)]) O ?_ ?_
 intro Ik5 k5 hk5 O;cbv;refine kV ?_;intro x7 O;cbv;refine jc ?_ ?_
 intro O;cbv;refine kV ?_;intro x8 O;cbv;refine jM hS O lS ?_;exact jv
 exact jv
 intro s4 O;cbv;exact ng
 exact jr
theorem c346 {m:nN}{r:nN}(O:OX m=some r):iI 346 [.agg (rE M m)] (λu=>u=.agg (rE M r)):=by
 refine jB jm func346 call346 ?_;intro S R hS hR;have q:=sf hM hS;unfold OX at O;cbv;refine jc ?_ ?_
 exact jr
 intro O;cbv;refine jc ?_ ?_
 exact jr
 intro O;cbv;refine jc ?_ ?_
 exact jr
 intro O;cbv;refine jc ?_ ?_
 exact jr
 intro O;cbv;refine jc ?_ ?_
 exact jr
 intro O;cbv;refine jc ?_ ?_
 exact jr
 intro O;cbv;refine jc ?_ ?_
 exact jr
 intro O;cbv;refine jc ?_ ?_
 exact jr
 intro O;cbv;refine jc ?_ ?_
 exact jr
 intro O;cbv;refine jc ?_ ?_
 exact jr
 intro O;cbv;refine jc ?_ ?_<;>exact jr
end
end Go.Proofs.YtlacmdnhabblcaaGreat
