import Derived.Test.YtlacmdnhabblcaaGreatB36
import Derived.Test.YtlacmdnhabblcaaGreatB77
set_option linter.all false
namespace Go.Proofs.YtlacmdnhabblcaaGreat
open Go Go.Pv Proofs.Tryz
set_option maxRecDepth 100000
set_option maxHeartbeats 2000000
section
variable {M:kM}(hM:M=jT)
include hM
theorem o161 {s:List kT}{r:List kT}(O:uH s=some r):Pv.FW Tryz.prog JE 161 [.sl 89 (M.m kT (mX M) s) false] [] 0 (λu s n=>u=.os 0 0 (M.n kT r)/\s=[(0,(aR 89 (M.m kT (mX M) r)))]/\n=1):=by
 refine qw (T:=(Bg 0 [] [[(89,true)]])) (mG 0 [] [[(89,true)]]) wf func161 rfl call161 rfl ?_;intro S R hS hR;have q:=sf hM hS;unfold uH at O;cbv;refine Og hS hM O rfl bf ?_ ?_
 exact gY
 intro O;cbv;refine jM hS O lS ?_;intro O;cbv;cases O;exact hR _ _ _ aj aj rfl
theorem o154 {s:List kD}{r:List kD}(O:vF s=some r):Pv.FW Tryz.prog JE 154 [.sl 14 (M.m kD (lF M) s) false] [] 0 (λu s n=>u=.os 0 0 (M.n kD r)/\s=[(0,(aR 14 (M.m kD (lF M) r)))]/\n=1):=by
 refine qw (T:=(Bg 0 [] [[(14,true)]])) (mG 0 [] [[(14,true)]]) wf func154 rfl call154 rfl ?_;intro S R hS hR;have q:=sf hM hS;unfold vF at O;cbv;refine Og hS hM O rfl bf ?_ ?_
 exact gY
 intro O;cbv;refine jM hS O lS ?_;intro O;cbv;cases O;exact hR _ _ _ aj aj rfl
theorem o156 {s:List iW}{r:List iW}(O:vG s=some r):Pv.FW Tryz.prog JE 156 [.sl 19 (M.m iW (ja M) s) false] [] 0 (λu s n=>u=.os 0 0 (M.n iW r)/\s=[(0,(aR 19 (M.m iW (ja M) r)))]/\n=1):=by
 refine qw (T:=(Bg 0 [] [[(19,true)]])) (mG 0 [] [[(19,true)]]) wf func156 rfl call156 rfl ?_;intro S R hS hR;have q:=sf hM hS;unfold vG at O;cbv;refine Og hS hM O rfl bf ?_ ?_
 exact gY
 intro O;cbv;refine jM hS O lS ?_;intro O;cbv;cases O;exact hR _ _ _ aj aj rfl
theorem o222 {s:List jX}{r:List jX}(O:vH s=some r):Pv.FW Tryz.prog JE 222 [.sl 64 (M.m jX (mf M) s) false] [] 0 (λu s n=>u=.os 0 0 (M.n jX r)/\s=[(0,(aR 64 (M.m jX (mf M) r)))]/\n=1):=by
 refine qw (T:=(Bg 0 [] [[(64,true)]])) (mG 0 [] [[(64,true)]]) wf func222 rfl call222 rfl ?_;intro S R hS hR;have q:=sf hM hS;unfold vH at O;cbv;refine Og hS hM O rfl bf ?_ ?_
 exact gY
 intro O;cbv;refine jM hS O lS ?_;intro O;cbv;cases O;exact hR _ _ _ aj aj rfl
theorem o158 {s:List ou}{r:List ou}(O:xq s=some r):Pv.FW Tryz.prog JE 158 [.sl 94 (M.m ou (pM M) s) false] [] 0 (λu s n=>u=.os 0 0 (M.n ou r)/\s=[(0,(aR 94 (M.m ou (pM M) r)))]/\n=1):=by
 refine qw (T:=(Bg 0 [] [[(94,true)]])) (mG 0 [] [[(94,true)]]) wf func158 rfl call158 rfl ?_;intro S R hS hR;have q:=sf hM hS;unfold xq at O;cbv;refine Og hS hM O rfl bf ?_ ?_
 exact gY
 intro O;cbv;refine jM hS O lS ?_;intro O;cbv;cases O;exact hR _ _ _ aj aj rfl
theorem o221 {s:List qM}{r:List qM}(O:xu s=some r):Pv.FW Tryz.prog JE 221 [.sl 18 (M.m qM (zl M) s) false] [] 0 (λu s n=>u=.os 0 0 (M.n qM r)/\s=[(0,(aR 18 (M.m qM (zl M) r)))]/\n=1):=by
 refine qw (T:=(Bg 0 [] [[(18,true)]])) (mG 0 [] [[(18,true)]]) wf func221 rfl call221 rfl ?_;intro S R hS hR;have q:=sf hM hS;unfold xu at O;cbv;refine Og hS hM O rfl bf ?_ ?_
 exact gY
 intro O;cbv;refine jM hS O lS ?_;intro O;cbv;cases O;exact hR _ _ _ aj aj rfl
theorem o162 {s:List pI}{r:List pI}(O:xw s=some r):Pv.FW Tryz.prog JE 162 [.sl 6 (M.m pI (qQ M) s) false] [] 0 (λu s n=>u=.os 0 0 (M.n pI r)/\s=[(0,(aR 6 (M.m pI (qQ M) r)))]/\n=1):=by
 refine qw (T:=(Bg 0 [] [[(6,true)]])) (mG 0 [] [[(6,true)]]) wf func162 rfl call162 rfl ?_;intro S R hS hR;have q:=sf hM hS;unfold xw at O;cbv;refine Og hS hM O rfl bf ?_ ?_
 exact gY
 intro O;cbv;refine jM hS O lS ?_;intro O;cbv;cases O;exact hR _ _ _ aj aj rfl
theorem o163 {s:List nN}{r:List nN}(O:qg s=some r):Pv.FW Tryz.prog JE 163 [.sl 20 (M.m nN (rE M) s) false] [] 0 (λu s n=>u=.os 0 0 (M.n nN r)/\s=[(0,(aR 20 (M.m nN (rE M) r)))]/\n=1):=by
 refine qw (T:=(Bg 0 [] [[(20,true)]])) (mG 0 [] [[(20,true)]]) wf func163 rfl call163 rfl ?_;intro S R hS hR;have q:=sf hM hS;unfold qg at O;cbv;refine Og hS hM O rfl bf ?_ ?_
 exact gY
 intro O;cbv;refine jM hS O lS ?_;intro O;cbv;cases O;exact hR _ _ _ aj aj rfl
end
section
variable {M:kM}(hM:M=jT)
include hM
theorem anK {s:List Int}{r:List Int}(O:slices_Clone_int s=some r):Pv.FW Tryz.prog JE 157 [.sl 1 (mI M s) false] [] 0 (λu s n=>u=.os 0 0 (M.n Int r)/\s=[(0,(aR 1 (mI M r)))]/\n=1):=by
 refine qw (T:=(Bg 0 [] [[(1,true)]])) (mG 0 [] [[(1,true)]]) wf func157 rfl call157 rfl ?_;intro S R hS hR;have q:=sf hM hS;unfold slices_Clone_int at O;cbv;refine Og hS hM O rfl bf ?_ ?_
 exact gY
 intro O;cbv;refine jM hS O lS ?_;intro O;cbv;cases O;exact hR _ _ _ aj aj rfl
theorem c157 {s:List Int}{r:List Int}(O:slices_Clone_int s=some r):iI 157 [.sl 1 (mI M s) false] (λu=>u=.sl 1 (mI M r) false):=by
 refine jB jm func157 call157 ?_;intro S R hS hR;have q:=sf hM hS;unfold slices_Clone_int at O;cbv;refine Og hS hM O rfl bf ?_ ?_
 intro O;cbv;cases O;exact hR _ aj
 intro O;cbv;refine jM hS O lS ?_;exact jr
theorem c160 {s:List rF}{r:List rF}(O:vJ s=some r):iI 160 [.sl 2 (M.m rF (Ia M) s) false] (λu=>u=.sl 2 (M.m rF (Ia M) r) false):=by
 refine jB jm func160 call160 ?_;intro S R hS hR;have q:=sf hM hS;unfold vJ at O;cbv;refine Og hS hM O rfl bf ?_ ?_
 exact gZ
 intro O;cbv;refine jM hS O lS ?_;exact jr
theorem apz {s:List nN}{r:List nN}(O:qg s=some r):iI 163 [.sl 20 (M.m nN (rE M) s) false] (λu=>u=.sl 20 (M.m nN (rE M) r) false):=by
 refine jB jm func163 call163 ?_;intro S R hS hR;have q:=sf hM hS;unfold qg at O;cbv;refine Og hS hM O rfl bf ?_ ?_
 exact gZ
 intro O;cbv;refine jM hS O lS ?_;exact jr
end
section
variable {M:kM}(hM:M=jT)
include hM
theorem c99 {o:iW}{r:iW}(O:Qb o=some r):iI 99 [.agg (ja M o)] (λu=>u=.agg (ja M r)):=by
 refine jB jm func99 call99 ?_;intro S R hS hR;have q:=sf hM hS;unfold Qb at O;cbv;exact tu
end
section
variable {M:kM}(hM:M=jT)
include hM
theorem c159 {a:kF}{r:kF}(O:sU a=some r):iI 159 [.agg (lD M a)] (λu=>u=.agg (lD M r)):=by
 refine jB jm func159 call159 ?_;intro S R hS hR;have q:=sf hM hS;unfold sU at O;cbv;refine qi hS O (λ_=>o163 hM) (le_eq rfl) ?_;intro y1 O;cbv;refine qi hS O (λ_=>o221 hM) (le_eq rfl) ?_;intro y2 O;cbv;refine qi hS O (λ_=>o222 hM) (le_eq rfl) ?_;intro y3 O;cbv
 refine kE hS jm wf [] [1,2,18,19] (λs4=>f3 36 [(1,.lv 0 0),(2,.lv 4 0),(18,sI (S.Kv (M.n jX y3))),(19,sI s4.1)] [vR [sI a.kind,sI a.filter.jQ,sI a.filter.who,sI a.filter.self,sI a.filter.types,sI a.filter.jU,sI a.filter.kU,sI a.filter.jL,.str a.filter.sub,sI a.filter.keys,sI a.filter.vZ,sI a.filter.power.kind,sI a.filter.power.n,sI a.filter.jE.kind,sI a.filter.jE.n,sI a.filter.value.kind,sI a.filter.value.n,.os 1 0 (S.jD (M.m nN (rE M) y1)),sI a.price.og.generic,sI a.price.og.x,sI a.price.og.color.a0,sI a.price.og.color.a1,sI a.price.og.color.a2,sI a.price.og.color.a3,sI a.price.og.color.a4,.sb a.price.vZ,.sb a.price.vO,sI a.price.life,.sb a.slow,sI a.jg.when,sI a.jg.who,sI a.jg.filter.jQ,sI a.jg.filter.who,sI a.jg.filter.self,sI a.jg.filter.types,sI a.jg.filter.jU,sI a.jg.filter.kU,sI a.jg.filter.jL,.str a.jg.filter.sub,sI a.jg.filter.keys,sI a.jg.filter.vZ,sI a.jg.filter.power.kind,sI a.jg.filter.power.n,sI a.jg.filter.jE.kind,sI a.jg.filter.jE.n,sI a.jg.filter.value.kind,sI a.jg.filter.value.n,.sb a.may,.os 2 0 (S.jD (M.m qM (zl M) y2)),.os 3 0 (S.jD (M.m jX (mf M) s4.2)),sI a.replace.on,sI a.replace.who,sI a.replace.filter.jQ,sI a.replace.filter.who,sI a.replace.filter.self,sI a.replace.filter.types,sI a.replace.filter.jU,sI a.replace.filter.kU,sI a.replace.filter.jL,.str a.replace.filter.sub,sI a.replace.filter.keys,sI a.replace.filter.vZ,sI a.replace.filter.power.kind,sI a.replace.filter.power.n,sI a.replace.filter.jE.kind,sI a.replace.filter.jE.n,sI a.replace.filter.value.kind,sI a.replace.filter.value.n,sI a.replace.doF,sI a.replace.n,sI a.replace.jQ,sI a.replace.counter],aR 20 (M.m nN (rE M) y1),aR 18 (M.m qM (zl M) y2),aR 64 (M.m jX (mf M) s4.2),vR [sI 0,sI 0,sI 0,sI 0,sI 0,sI 0,sI 0,sI 0,.str (bs []),sI 0,sI 0,sI 0,sI 0,sI 0,sI 0,sI 0,sI 0,.sl 0 [] true,sI 0,sI 0,sI 0,sI 0,sI 0,sI 0,sI 0,.sb false,.sb false,sI 0,.sb false,sI 0,sI 0,sI 0,sI 0,sI 0,sI 0,sI 0,sI 0,sI 0,.str (bs []),sI 0,sI 0,sI 0,sI 0,sI 0,sI 0,sI 0,sI 0,.sb false,.sl 0 [] true,.sl 0 [] true,sI 0,sI 0,sI 0,sI 0,sI 0,sI 0,sI 0,sI 0,sI 0,.str (bs []),sI 0,sI 0,sI 0,sI 0,sI 0,sI 0,sI 0,sI 0,sI 0,sI 0,sI 0,sI 0]]) O ?_
 intro Ik5 k5 s4 hk5 O e he;subst he;unfold vI at O;cbv;refine jc ?_ ?_
 intro O;cbv;refine rD hS ?_;cbv;refine wM hS O lS rfl ?_;intro j7 _ O;cbv;refine qJ hS hM O rfl lS ?_;intro x8 O;cbv;refine rZ hS O (λ_=>apz hM) ?_;intro y9 O;cbv;refine wM hS O lS rfl ?_;intro j10 _ O;cbv;refine qJ hS hM O rfl lS ?_;exact lu
 exact jr
end
section
variable {M:kM}(hM:M=jT)
include hM
theorem c155 {p:kD}{r:kD}(O:wS p=some r):iI 155 [.agg (lF M p)] (λu=>u=.agg (lF M r)):=by
 refine jB jm func155 call155 ?_;intro S R hS hR;have q:=sf hM hS;unfold wS at O;cbv;refine jK hS O (λ_=>c157 hM) ?_;intro y1 O;cbv;refine jK hS O (λ_=>c157 hM) ?_;intro y2 O;cbv;refine jK hS O (λ_=>c157 hM) ?_;exact kS
end
end Go.Proofs.YtlacmdnhabblcaaGreat
