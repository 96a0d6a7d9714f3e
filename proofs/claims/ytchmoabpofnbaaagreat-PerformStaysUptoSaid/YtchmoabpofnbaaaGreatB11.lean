import Derived.Test.YtchmoabpofnbaaaGreatB10
set_option linter.all false
namespace Go.Proofs.YtchmoabpofnbaaaGreat
open Go Go.Pv Proofs.Tryz
set_option maxRecDepth 100000
set_option maxHeartbeats 2000000
variable [GM]
section
variable {M:EncM}(hM:M=mapE)
include hM
theorem c160 {p:Lj Int}{r:Bool}(O:Gv p=some r):fV 160 [.agg [sI p.a0,sI p.a1,sI p.a2,sI p.a3,sI p.a4,sI p.a5]] (λu=>u=.sb r):=by
 refine iw (gY [4,8]) func160 call160 ?_;intro S R hS hR q;unfold Gv at O;cbv;refine wB (gY [4,8]) [] [1,3] (λs1=>f4 18 [.lv 0 0,sI s1] [vR [sI p.a0,sI p.a1,sI p.a2,sI p.a3,sI p.a4,sI p.a5]]) O ?_;intro Ik2 k2 s1 hk2 O e he;subst he;unfold Ir at O;cbv;refine qN hS ?_;cbv;refine gu ?_ ?_
 intro O;cbv;refine jJ [] [1,3,17] (λs4=>f4 18 [.lv 0 0,sI s1,.sb s4] [vR [sI p.a0,sI p.a1,sI p.a2,sI p.a3,sI p.a4,sI p.a5]]) O ?_ ?_
 intro Ik5 k5 hk5 O;cbv;obtain⟨j7,hj7,ej7,O⟩:=ng O;refine vO hS rfl ⟨j7,hj7,ej7,?_⟩;rcases lt6 hj7 with rfl|rfl|rfl|rfl|rfl|rfl
 cbv;refine gu ?_ ?_
 exact iC
 intro O;cbv;obtain⟨j8,hj8,ej8,O⟩:=ng O;refine vO hS rfl ⟨j8,hj8,ej8,?_⟩;rcases lt6 hj8 with rfl|rfl|rfl|rfl|rfl|rfl
 exact fC
 exact fC
 exact fC
 exact fC
 exact fC
 cbv;exact nM
 cbv;refine gu ?_ ?_
 exact iC
 intro O;cbv;obtain⟨j9,hj9,ej9,O⟩:=ng O;refine vO hS rfl ⟨j9,hj9,ej9,?_⟩;rcases lt6 hj9 with rfl|rfl|rfl|rfl|rfl|rfl
 exact fC
 exact fC
 exact fC
 exact fC
 exact fC
 cbv;exact nM
 cbv;refine gu ?_ ?_
 exact iC
 intro O;cbv;obtain⟨j10,hj10,ej10,O⟩:=ng O;refine vO hS rfl ⟨j10,hj10,ej10,?_⟩;rcases lt6 hj10 with rfl|rfl|rfl|rfl|rfl|rfl
 exact fC
 exact fC
 exact fC
 exact fC
 exact fC
 cbv;exact nM
 cbv;refine gu ?_ ?_
 exact iC
 intro O;cbv;obtain⟨j11,hj11,ej11,O⟩:=ng O;refine vO hS rfl ⟨j11,hj11,ej11,?_⟩;rcases lt6 hj11 with rfl|rfl|rfl|rfl|rfl|rfl
 exact fC
 exact fC
 exact fC
 exact fC
 exact fC
 cbv;exact nM
 cbv;refine gu ?_ ?_
 exact iC
 intro O;cbv;obtain⟨j12,hj12,ej12,O⟩:=ng O;refine vO hS rfl ⟨j12,hj12,ej12,?_⟩;rcases lt6 hj12 with rfl|rfl|rfl|rfl|rfl|rfl
 exact fC
 exact fC
 exact fC
 exact fC
 exact fC
 cbv;exact nM
 cbv;refine gu ?_ ?_
 exact iC
 intro O;cbv;obtain⟨j13,hj13,ej13,O⟩:=ng O;refine vO hS rfl ⟨j13,hj13,ej13,?_⟩;rcases lt6 hj13 with rfl|rfl|rfl|rfl|rfl|rfl
 exact fC
 exact fC
 exact fC
 exact fC
 exact fC
 cbv;exact nM
 intro s4 O;cbv;refine iq ?_ ?_
 exact gQ
 exact iC
 exact gQ
theorem ahX {c:oQ}{r:Bool}(O:MK c=some r):fV 191 [.agg (qy M c)] (λu=>u=.sb r):=by
 refine iw (gY [2,8,12]) func191 call191 ?_;intro S R hS hR q;unfold MK at O;cbv;refine jJ [] [1,21] (λs1=>f4 38 [.lv 0 0,.sb s1] [vR (qy M c)]) O ?_ ?_
 intro Ik2 k2 hk2 O;cbv;refine gu ?_ ?_
 exact iC
 intro O;cbv;refine gu ?_ ?_
 exact iC
 intro O;cbv;refine gu ?_ ?_<;>exact iC
 intro s1 O;cbv;refine iq ?_ ?_
 exact gQ
 intro O;cbv;refine wB (gY [2,8,12]) [] [1,3] (λs4=>f4 38 [.lv 0 0,sI s4] [vR (qy M c)]) O ?_;intro Ik5 k5 s4 hk5 O e he;subst he;unfold KW at O;cbv;refine qN hS ?_;cbv;refine gu ?_ ?_
 intro O;cbv;refine jJ [] [1,3,37] (λs7=>f4 38 [.lv 0 0,sI s4,.sb s7] [vR (qy M c)]) O ?_ ?_
 intro Ik8 k8 hk8 O;cbv;obtain⟨j10,J,ej10,O⟩:=ng O;refine vO hS rfl ⟨j10,J,ej10,?_⟩;rcases lt5 J with rfl|rfl|rfl|rfl|rfl
 cbv;refine gu ?_ ?_
 exact iC
 intro O;cbv;obtain⟨j11,C,ej11,O⟩:=ng O;refine vO hS rfl ⟨j11,C,ej11,?_⟩;rcases lt5 C with rfl|rfl|rfl|rfl|rfl
 exact fC
 exact fC
 exact fC
 exact fC
 cbv;exact nM
 cbv;refine gu ?_ ?_
 exact iC
 intro O;cbv;obtain⟨j12,g,ej12,O⟩:=ng O;refine vO hS rfl ⟨j12,g,ej12,?_⟩;rcases lt5 g with rfl|rfl|rfl|rfl|rfl
 exact fC
 exact fC
 exact fC
 exact fC
 cbv;exact nM
 cbv;refine gu ?_ ?_
 exact iC
 intro O;cbv;obtain⟨j13,U,ej13,O⟩:=ng O;refine vO hS rfl ⟨j13,U,ej13,?_⟩;rcases lt5 U with rfl|rfl|rfl|rfl|rfl
 exact fC
 exact fC
 exact fC
 exact fC
 cbv;exact nM
 cbv;refine gu ?_ ?_
 exact iC
 intro O;cbv;obtain⟨j14,I,ej14,O⟩:=ng O;refine vO hS rfl ⟨j14,I,ej14,?_⟩;rcases lt5 I with rfl|rfl|rfl|rfl|rfl
 exact fC
 exact fC
 exact fC
 exact fC
 cbv;exact nM
 cbv;refine gu ?_ ?_
 exact iC
 intro O;cbv;obtain⟨j15,T,ej15,O⟩:=ng O;refine vO hS rfl ⟨j15,T,ej15,?_⟩;rcases lt5 T with rfl|rfl|rfl|rfl|rfl
 exact fC
 exact fC
 exact fC
 exact fC
 cbv;exact nM
 intro s7 O;cbv;refine iq ?_ ?_
 exact gQ
 exact iC
 exact gQ
theorem c230 {c:NY Int}{r:Bool}(O:Tm c=some r):fV 230 [.agg [sI c.a0,sI c.a1,sI c.a2]] (λu=>u=.sb r):=by
 refine iw (gY [4,8]) func230 call230 ?_;intro S R hS hR q;unfold Tm at O;cbv;refine wB (gY [4,8]) [] [1,3] (λs1=>f4 18 [.lv 0 0,sI s1] [vR [sI c.a0,sI c.a1,sI c.a2]]) O ?_;intro Ik2 k2 s1 hk2 O e he;subst he;unfold PQ at O;cbv;refine qN hS ?_;cbv;refine gu ?_ ?_
 intro O;cbv;refine jJ [] [1,3,17] (λs4=>f4 18 [.lv 0 0,sI s1,.sb s4] [vR [sI c.a0,sI c.a1,sI c.a2]]) O ?_ ?_
 intro Ik5 k5 hk5 O;cbv;obtain⟨j7,hj7,ej7,O⟩:=ng O;refine vO hS rfl ⟨j7,hj7,ej7,?_⟩;rcases lt3 hj7 with rfl|rfl|rfl
 cbv;refine gu ?_ ?_
 exact iC
 intro O;cbv;obtain⟨j8,hj8,ej8,O⟩:=ng O;refine vO hS rfl ⟨j8,hj8,ej8,?_⟩;rcases lt3 hj8 with rfl|rfl|rfl
 exact fC
 exact fC
 cbv;exact nM
 cbv;refine gu ?_ ?_
 exact iC
 intro O;cbv;obtain⟨j9,hj9,ej9,O⟩:=ng O;refine vO hS rfl ⟨j9,hj9,ej9,?_⟩;rcases lt3 hj9 with rfl|rfl|rfl
 exact fC
 exact fC
 cbv;exact nM
 cbv;refine gu ?_ ?_
 exact iC
 intro O;cbv;obtain⟨j10,hj10,ej10,O⟩:=ng O;refine vO hS rfl ⟨j10,hj10,ej10,?_⟩;rcases lt3 hj10 with rfl|rfl|rfl
 exact fC
 exact fC
 cbv;exact nM
 intro s4 O;cbv;refine iq ?_ ?_
 exact gQ
 exact iC
 exact gQ
theorem ajX {c:oQ}{r:Bool}(O:KX c=some r):fV 454 [.agg (qy M c)] (λu=>u=.sb r):=by
 refine iw (gY [4,6,8]) func454 call454 ?_;intro S R hS hR q;unfold KX at O;cbv;refine wB (gY [4,6,8]) [] [1,6,7] (λT=>f4 35 [.lv 0 0,.agg [sI c.color.a0,sI c.color.a1,sI c.color.a2,sI c.color.a3,sI c.color.a4],sI T] [vR (qy M c)]) O ?_;intro Ik2 k2 T hk2 O e he;subst he;unfold MM at O;cbv;refine qN hS ?_;cbv;refine gu ?_ ?_
 intro O;cbv;refine jJ [] [1,4,6,7] (λC=>f4 35 [.lv 0 0,sI C,.agg [sI c.color.a0,sI c.color.a1,sI c.color.a2,sI c.color.a3,sI c.color.a4],sI T] [vR (qy M c)]) O ?_ ?_
 intro Ik5 k5 g O;cbv;obtain⟨j7,U,J,O⟩:=ng O;refine vO hS rfl ⟨j7,U,J,?_⟩;rcases lt5 U with rfl|rfl|rfl|rfl|rfl
 exact fC
 exact fC
 exact fC
 exact fC
 cbv;exact nM
 intro C O;cbv;refine jJ [] [1,6,7,15] (λI=>f4 35 [.lv 0 0,.agg [sI c.color.a0,sI c.color.a1,sI c.color.a2,sI c.color.a3,sI c.color.a4],sI T,.sb I] [vR (qy M c)]) O ?_ ?_
 intro Ik9 k9 hk9 O;cbv;refine gu ?_ ?_<;>exact iC
 intro I O;cbv;refine iq ?_ ?_
 exact gQ
 exact iC
 intro O;cbv;refine gu ?_ ?_
 intro O;cbv;refine gu ?_ ?_
 intro O;cbv;refine gu ?_ ?_<;>exact gQ
 exact gQ
 exact gQ
theorem c448 {op:Int}{r:ByteArray}(O:JP op=some r):fV 448 [sI op] (λu=>u=.str r):=by
 refine iw gW func448 call448 ?_;intro S R hS hR q;unfold JP at O;cbv;refine gu ?_ ?_
 exact gQ
 intro O;cbv;refine gu ?_ ?_
 exact gQ
 intro O;cbv;refine gu ?_ ?_
 exact gQ
 intro O;cbv;refine gu ?_ ?_
 exact gQ
 intro O;cbv;refine gu ?_ ?_
 exact gQ
 intro O;cbv;refine gu ?_ ?_
 exact gQ
 intro O;cbv;refine gu ?_ ?_
 exact gQ
 intro O;cbv;refine gu ?_ ?_
 exact gQ
 intro O;cbv;refine gu ?_ ?_
 exact gQ
 intro O;cbv;refine gu ?_ ?_
 exact gQ
 intro O;cbv;refine gu ?_ ?_
 exact gQ
 intro O;cbv;refine gu ?_ ?_
 exact gQ
 intro O;cbv;refine gu ?_ ?_
 exact gQ
 intro O;cbv;refine gu ?_ ?_
 exact gQ
 intro O;cbv;refine gu ?_ ?_
 exact gQ
 intro O;cbv;refine gu ?_ ?_
 exact gQ
 intro O;cbv;refine gu ?_ ?_
 exact gQ
 intro O;cbv;refine gu ?_ ?_<;>exact gQ
theorem ajY {a:Int}{b:Int}{most:Int}{r:Bool}(O:DD a b most=some r):fV 308 [sI a,sI b,sI most] (λu=>u=.sb r):=by
 refine iw (gY [2,8,12]) func308 call308 ?_;intro S R hS hR q;unfold DD at O;cbv;refine jJ [] [0,1,23] (λT=>f4 40 [sI a,sI b,.sb T] []) O ?_ ?_
 intro Ik2 k2 hk2 O;cbv;refine gu ?_ ?_
 exact iC
 intro O;cbv;refine gu ?_ ?_
 exact iC
 intro O;cbv;refine gu ?_ ?_<;>exact iC
 intro T O;cbv;refine iq ?_ ?_
 exact gQ
 intro O;cbv;refine wB (gY [2,8,12]) [] [0,1,7] (λU=>f4 40 [sI U.1,sI U.2.1,sI U.2.2] []) O ?_;intro Ik5 k5 U g O e he;subst he;unfold Iy at O;cbv;refine qN hS ?_;cbv;refine gu ?_ ?_
 intro O;cbv;refine jJ [] [0,1,7,35] (λJ=>f4 40 [sI U.1,sI U.2.1,sI U.2.2,.sb J] []) O ?_ ?_
 intro I k8 C O;cbv;refine CB hS O rfl rfl ?_;intro x10 O;cbv;refine gu ?_ ?_
 intro O;cbv;refine CB hS O rfl rfl ?_;exact jP
 exact iC
 intro J O;cbv;refine iq ?_ ?_
 exact gQ
 intro O;cbv;refine CB hS O rfl rfl ?_;intro x12 O;cbv;refine CB hS O rfl rfl ?_;exact jP
 exact gQ
theorem ajZ {when:Int}{r:ByteArray}(O:GK when=some r):fV 310 [sI when] (λu=>u=.str r):=by
 refine iw gW func310 call310 ?_;intro S R hS hR q;unfold GK at O;cbv;refine gu ?_ ?_
 exact gQ
 intro O;cbv;refine gu ?_ ?_
 exact gQ
 intro O;cbv;refine gu ?_ ?_
 exact gQ
 intro O;cbv;refine gu ?_ ?_
 exact gQ
 intro O;cbv;refine gu ?_ ?_
 exact gQ
 intro O;cbv;refine gu ?_ ?_
 exact gQ
 intro O;cbv;refine gu ?_ ?_
 exact gQ
 intro O;cbv;refine gu ?_ ?_
 exact gQ
 intro O;cbv;refine gu ?_ ?_
 exact gQ
 intro O;cbv;refine gu ?_ ?_
 exact gQ
 intro O;cbv;refine gu ?_ ?_
 exact gQ
 intro O;cbv;refine gu ?_ ?_
 exact gQ
 intro O;cbv;refine gu ?_ ?_
 exact gQ
 intro O;cbv;refine gu ?_ ?_<;>exact gQ
end
variable [GM]
section
variable {M:EncM}(hM:M=mapE)
include hM
theorem ad6 {kind:Int}{r:Int}(O:wI kind=some r):fV 329 [sI kind] (λu=>u=sI r):=by
 refine iw gW func329 call329 ?_;intro S R hS hR q;unfold wI at O;cbv;refine gu ?_ ?_
 exact gQ
 intro O;cbv;refine gu ?_ ?_
 exact gQ
 intro O;cbv;refine gu ?_ ?_
 exact gQ
 intro O;cbv;refine gu ?_ ?_
 exact gQ
 intro O;cbv;refine gu ?_ ?_
 exact gQ
 intro O;cbv;refine gu ?_ ?_
 exact gQ
 intro O;cbv;refine gu ?_ ?_
 exact gQ
 intro O;cbv;refine gu ?_ ?_
 exact gQ
 intro O;cbv;refine gu ?_ ?_
 exact gQ
 intro O;cbv;refine gu ?_ ?_
 exact gQ
 intro O;cbv;refine gu ?_ ?_
 exact gQ
 intro O;cbv;refine gu ?_ ?_
 exact gQ
 intro O;cbv;refine gu ?_ ?_
 exact gQ
 intro O;cbv;refine gu ?_ ?_<;>exact gQ
theorem c233 {s:GState}{id:Int}{r:Int}(O:Ec s id=some r):fV 233 [.agg (eGState M s),sI id] (λu=>u=sI r):=by
 refine iw (gY [9,10]) func233 call233 ?_;intro S R hS hR q;unfold Ec at O;cbv;refine wB (gY [9,10]) [] [1,2,5,6] (λs1=>f4 34 [sI id,.lv 0 0,sI s1.1,sI s1.2] [vR (eGState M s)]) O ?_;intro Ik2 k2 s1 hk2 O e he;subst he;unfold FX at O;cbv;refine gu ?_ ?_
 intro O;cbv;refine jJ [] [1,2,5,6] (λs4=>f4 34 [sI id,.lv 0 0,sI s4,sI s1.2] [vR (eGState M s)]) O ?_ ?_
 intro Ik5 k5 hk5 O;cbv;refine jJ [] [1,2,5,6,30] (λs7=>f4 34 [sI id,.lv 0 0,sI s1.1,sI s1.2,.sb s7] [vR (eGState M s)]) O ?_ ?_
 intro Ik8 k8 hk8 O;cbv;refine lH ?_;intro x10 O;cbv;refine gu ?_ ?_
 intro O;cbv;refine lH ?_;exact jP
 exact iC
 intro s7 O;cbv;refine iq ?_ ?_<;>exact iC
 intro s4 O;cbv;exact nM
 exact gQ
theorem c397 {l:List ByteArray}{pby:ByteArray}{r:ByteArray}(O:JJ l pby=some r):fV 397 [.sl 1 (M.m ByteArray eS l) false,.str pby] (λu=>u=.str r):=by
 refine iw (gY [9,15]) func397 call397 ?_;intro S R hS hR q;unfold JJ at O;cbv;refine wB (gY [9,15]) [] [0,1,5,6] (λs1=>f4 25 [.sl 1 (M.m ByteArray eS l) false,.str pby,.str s1.1,sI s1.2] []) O ?_;intro Ik2 k2 s1 hk2 O e he;subst he;unfold EW at O;cbv;refine gu ?_ ?_
 intro O;cbv;refine jJ [] [0,1,5,6] (λs4=>f4 25 [.sl 1 (M.m ByteArray eS l) false,.str pby,.str s4,sI s1.2] []) O ?_ ?_
 intro Ik5 k5 hk5 O;cbv;refine jJ [] [0,1,5,6] (λs7=>f4 25 [.sl 1 (M.m ByteArray eS l) false,.str pby,.str s7,sI s1.2] []) O ?_ ?_
 intro Ik8 k8 hk8 O;cbv;refine gu ?_ ?_
 intro O;cbv;refine nS hS O rfl rfl ?_;exact jP
 exact iC
 intro s7 O;cbv;refine lH ?_;intro x11 O;cbv;refine nS hS O rfl rfl ?_;exact jP
 intro s4 O;cbv;exact nM
 exact gQ
theorem c466 {m:jv}{r:jv}(O:J6 m=some r):fV 466 [.agg (uz M m)] (λu=>u=.agg (uz M r)):=by
 refine iw (gY [1017]) func466 call466 ?_;intro S R hS hR q;unfold J6 at O;cbv;refine gu ?_ ?_
 exact gQ
 intro O;cbv;refine gu ?_ ?_
 exact gQ
 intro O;cbv;refine gu ?_ ?_
 exact gQ
 intro O;cbv;refine gu ?_ ?_
 exact gQ
 intro O;cbv;refine gu ?_ ?_
 exact gQ
 intro O;cbv;refine gu ?_ ?_
 exact gQ
 intro O;cbv;refine gu ?_ ?_
 exact gQ
 intro O;cbv;refine gu ?_ ?_
 exact gQ
 intro O;cbv;refine gu ?_ ?_
 exact gQ
 intro O;cbv;refine gu ?_ ?_
 intro O;cbv;refine Ih hS aP ?_;cbv;exact qO
 intro O;cbv;refine gu ?_ ?_
 intro O;cbv;refine Ih hS aP ?_;cbv;exact qO
 exact gQ
theorem c318 {m:jv}{r:jv}(O:JG m=some r):fV 318 [.agg (uz M m)] (λu=>u=.agg (uz M r)):=by
 refine iw gW func318 call318 ?_;intro S R hS hR q;unfold JG at O;cbv;refine gu ?_ ?_
 exact gQ
 intro O;cbv;refine gu ?_ ?_
 exact gQ
 intro O;cbv;refine gu ?_ ?_
 exact gQ
 intro O;cbv;refine gu ?_ ?_
 exact gQ
 intro O;cbv;refine gu ?_ ?_
 exact gQ
 intro O;cbv;refine gu ?_ ?_
 exact gQ
 intro O;cbv;refine gu ?_ ?_
 exact gQ
 intro O;cbv;refine gu ?_ ?_
 exact gQ
 intro O;cbv;refine gu ?_ ?_
 exact gQ
 intro O;cbv;refine gu ?_ ?_
 exact gQ
 intro O;cbv;refine gu ?_ ?_<;>exact gQ
theorem c196 {l:List GCard}{name:ByteArray}{r:Bool}(O:GY l name=some r):fV 196 [jR M l,.str name] (λu=>u=.sb r):=by
 refine iw (gY [8]) func196 call196 ?_;intro S R hS hR q;unfold GY at O;cbv;refine wB (gY [8]) [] [0,1,5] (λs1=>f4 26 [jR M l,.str name,sI s1] []) O ?_;intro Ik2 k2 s1 hk2 O e he;subst he;unfold II at O;cbv;refine gu ?_ ?_
 intro O;cbv;refine jJ [] [0,1,5,25] (λs4=>f4 26 [jR M l,.str name,sI s1,.sb s4] []) O ?_ ?_
 intro Ik5 k5 hk5 O;cbv;refine lH ?_;intro x7 O;cbv;refine gu ?_ ?_
 intro O;cbv;refine lH ?_;exact jP
 exact iC
 intro s4 O;cbv;refine iq ?_ ?_
 exact gQ
 exact iC
 exact gQ
theorem aj0 {f:jf}{stage:Int}{r:Bool}(O:qR f stage=some r):fV 407 [.agg (iR M f),sI stage] (λu=>u=.sb r):=by
 refine iw (gY [2]) func407 call407 ?_;intro S R hS hR q;unfold qR at O;cbv;refine jJ [] [1,2,5] (λU=>f4 52 [sI stage,.lv 0 0,.sb U] [vR (iR M f)]) O ?_ ?_
 intro T k2 J O;cbv;refine gu ?_ ?_<;>exact iC
 intro U O;cbv;refine gu ?_ ?_
 exact gQ
 intro O;cbv;refine gu ?_ ?_
 intro O;cbv;refine gu ?_ ?_
 exact gQ
 intro O;cbv;refine gu ?_ ?_<;>exact gQ
 intro O;cbv;refine gu ?_ ?_
 exact gQ
 intro O;cbv;refine gu ?_ ?_<;>exact gQ
theorem c372 {s:GState}{p:Int}{you:Int}{who:Int}{r:Bool}(O:IM s p you who=some r):fV 372 [.agg (eGState M s),sI p,sI you,sI who] (λu=>u=.sb r):=by
 refine iw (gY [2]) func372 call372 ?_;intro S R hS hR q;unfold IM at O;cbv;refine jJ [] [1,2,3,25] (λs1=>f4 41 [sI p,sI you,sI who,.sb s1] []) O ?_ ?_
 intro Ik2 k2 hk2 O;cbv;refine gu ?_ ?_
 exact iC
 intro O;cbv;refine gu ?_ ?_
 exact iC
 intro O;cbv;refine lH ?_;exact jP
 intro s1 O;cbv;refine iq ?_ ?_
 exact gQ
 intro O;cbv;refine gu ?_ ?_
 exact gQ
 intro O;cbv;refine gu ?_ ?_
 exact gQ
 intro O;cbv;refine gu ?_ ?_<;>exact gQ
theorem c314 {pr:lu}{r:Bool}(O:GN pr=some r):fV 314 [.agg (oU M pr)] (λu=>u=.sb r):=by
 refine iw (gY [2,6]) func314 call314 ?_;intro S R hS hR q;unfold GN at O;cbv;refine jJ [] [1,10] (λs1=>f4 30 [.lv 0 0,.sb s1] [vR (oU M pr)]) O ?_ ?_
 intro Ik2 k2 hk2 O;cbv;refine gu ?_ ?_<;>exact iC
 intro s1 O;cbv;refine iq ?_ ?_
 exact gQ
 intro O;cbv;refine jJ [] [1,18] (λs4=>f4 30 [.lv 0 0,.sb s4] [vR (oU M pr)]) O ?_ ?_
 intro Ik5 k5 hk5 O;cbv;refine gu ?_ ?_<;>exact iC
 intro s4 O;cbv;refine iq ?_ ?_
 intro O;cbv;refine gu ?_ ?_<;>exact gQ
 exact gQ
theorem aj1 {U:List Int}{T:List Int}{r:Bool}(O:slices_Equal_int U T=some r):fV 335 [.sl 1 (mI M U) false,.sl 1 (mI M T) false] (λu=>u=.sb r):=by
 refine iw gW func335 call335 ?_;intro S R hS hR q;unfold slices_Equal_int at O;cbv;refine gu ?_ ?_
 exact gQ
 intro O;cbv;refine d_lp hS gW wf [] [0,1,12,13] (λJ=>f3 26 [(0,.sl 1 (mI M U) false),(1,.sl 1 (mI M T) false),(12,sI (S.len (mI M U))),(13,sI J)] []) O ?_;intro I k2 J C O e he;subst he;unfold rY at O;cbv;refine gu ?_ ?_
 intro O;cbv;refine zU hS ?_;cbv;refine lH ?_;intro g O;cbv;refine lH ?_;intro x5 O;cbv;refine gu ?_ ?_
 exact gQ
 exact iC
 exact gQ
theorem c229 {l:List Int}{n:Int}{r:Int}(O:Aw l n=some r):fV 229 [.sl 1 (mI M l) false,sI n] (λu=>u=sI r):=by
 refine iw (gY [9]) func229 call229 ?_;intro S R hS hR q;unfold Aw at O;cbv;refine wB (gY [9]) [] [0,1,5,6] (λs1=>f4 22 [.sl 1 (mI M l) false,sI n,sI s1.1,sI s1.2] []) O ?_;intro Ik2 k2 s1 hk2 O e he;subst he;unfold Iu at O;cbv;refine gu ?_ ?_
 intro O;cbv;refine jJ [] [0,1,5,6] (λs4=>f4 22 [.sl 1 (mI M l) false,sI n,sI s4,sI s1.2] []) O ?_ ?_
 intro Ik5 k5 hk5 O;cbv;refine lH ?_;intro x7 O;cbv;refine gu ?_ ?_<;>exact iC
 intro s4 O;cbv;exact nM
 exact gQ
theorem aj2 {a:List jv}{b:List jv}{r:Bool}(O:qX a b=some r):fV 303 [xX M a,xX M b] (λu=>u=.sb r):=by
 refine iw gW func303 call303 ?_;intro S R hS hR q;unfold qX at O;cbv;refine gu ?_ ?_
 exact gQ
 intro O;cbv;refine d_lp hS gW wf [] [0,1,5] (λU=>f3 26 [(0,xX M a),(1,xX M b),(5,sI U)] []) O ?_;intro T k2 U J O e he;subst he;unfold uF at O;cbv;refine gu ?_ ?_
 intro O;cbv;refine zU hS ?_;cbv;refine lH ?_;intro I O;cbv;refine lH ?_;intro C O;cbv;replace O:=uZ O;refine gu ?_ ?_
 exact gQ
 exact iC
 exact gQ
theorem c215 {a:List jv}{b:List jv}{r:Bool}(O:zH a b=some r):fV 215 [xX M a,xX M b] (λu=>u=.sb r):=by
 refine iw gW func215 call215 ?_;intro S R hS hR q;unfold zH at O;cbv;refine gu ?_ ?_
 exact gQ
 intro O;cbv;refine d_lp hS gW wf [] [0,1,5] (λs1=>f3 26 [(0,xX M a),(1,xX M b),(5,sI s1)] []) O ?_;intro Ik2 k2 s1 hk2 O e he;subst he;unfold xO at O;cbv;refine gu ?_ ?_
 intro O;cbv;refine zU hS ?_;cbv;refine lH ?_;intro x4 O;cbv;refine lH ?_;intro x5 O;cbv;replace O:=uZ O;refine gu ?_ ?_
 exact gQ
 exact iC
 exact gQ
theorem aj3 {needs:List (List Bool)}{i:Int}{j:Int}{r:Bool}(O:uP needs i j=some r):fV 406 [.sl 1 (M.m (List Bool) (eL M 1 eB) needs) false,sI i,sI j] (λu=>u=.sb r):=by
 refine iw gW func406 call406 ?_;intro S R hS hR q;unfold uP at O;cbv;refine gu ?_ ?_
 intro O;cbv;refine gu ?_ ?_
 intro O;cbv;refine gu ?_ ?_
 intro O;cbv;refine lH ?_;intro U O;cbv;refine gu ?_ ?_
 intro O;cbv;refine lH ?_;intro T O;cbv;refine lH ?_;exact ja
 exact gQ
 exact gQ
 exact gQ
 exact gQ
theorem c52 {a:List Int}{b:List Int}{r:Bool}(O:vY a b=some r):fV 52 [.sl 1 (mI M a) false,.sl 1 (mI M b) false] (λu=>u=.sb r):=by
 refine iw gW func52 call52 ?_;intro S R hS hR q;unfold vY at O;cbv;refine gu ?_ ?_
 exact gQ
 intro O;cbv;refine d_lp hS gW wf [] [0,1,5] (λs1=>f3 26 [(0,.sl 1 (mI M a) false),(1,.sl 1 (mI M b) false),(5,sI s1)] []) O ?_;intro Ik2 k2 s1 hk2 O e he;subst he;unfold Fj at O;cbv;refine gu ?_ ?_
 intro O;cbv;refine zU hS ?_;cbv;refine lH ?_;intro x4 O;cbv;refine lH ?_;intro x5 O;cbv;refine gu ?_ ?_
 exact gQ
 exact iC
 exact gQ
end
end Go.Proofs.YtchmoabpofnbaaaGreat
