import Derived.Test.YtchmoabpofnbaaaGreatW9a
import Derived.Test.YtchmoabpofnbaaaGreatW9b
set_option linter.all false
namespace Go.Proofs.YtchmoabpofnbaaaGreat
open Go Go.Pv Proofs.Tryz
set_option maxRecDepth 100000
set_option maxHeartbeats 20000000
variable [GM]
attribute [local irreducible] bnd br jn qR ig jK lK jS rQ uY divO lu jR kY lD lU mg l9
variable {M:iO}[HM M]
theorem c212 {M:iO}(hM:M=lC){before:gW}{nN:List gX}{after:gW}{oV:List gX}{pe:jI}{r:List iP}(O:xB before nN after oV pe=some r):gz 212 [.agg (iL M before),ny M nN,.agg (iL M after),ny M oV,.agg (jm M pe)] (λu=>u=yF M r):=by
 haveI:HM M:=⟨hM⟩
 refine afm (T:=tab) iE rfl wf func212 rfl call212 rfl ?_;intro S R hS hR;have q:=sf hM hS;unfold xB at O;cbv;refine FX hS O (cI hM) ?_;intro y1 O;cbv;refine afO hS [.cO 3 0 76] 11 rfl ?_;cbv;refine adL hS O (λ_=>adT hM) jC jC rfl rfl rfl rfl rfl rfl (λ_=>rfl) ?_ ?_
 intro l rc pv h1 h2 h3 h4 h5 h6 h7 a0 a1 r' hr';refine adK (T:=FY 2 [] []) (iZ 2 [] []) wf rfl [.cR 0 0] h1 h2 h3 h4 h5 h6 bG h7 ?_;intro S R hS hR;have q:=sf hM hS;unfold uT at hr';cbv;refine rU hS hr' dS ?_;intro hr';cbv;cases hr';exact hR _ _ _ jC jC rfl
 intro y2 O;cbv;refine FX hS O (cI hM) ?_;intro y3 O;cbv;refine afO hS [] 11 rfl ?_;cbv;refine adL hS O (λ_=>adT hM) jC jC rfl rfl rfl rfl rfl rfl (λ_=>rfl) ?_ ?_
 intro l rc pv h1 h2 h3 h4 h5 h6 h7 a0 a1 r' hr';refine adK (T:=FY 2 [] []) (iZ 2 [] []) wf rfl [.cR 0 0] h1 h2 h3 h4 h5 h6 bG h7 ?_;intro S R hS hR;have q:=sf hM hS;unfold uT at hr';cbv;refine rU hS hr' dS ?_;intro hr';cbv;cases hr';exact hR _ _ _ jC jC rfl
 intro y4 O;cbv;refine vY hS O (λ_=>agJ hM) ak ak rfl rfl rfl rfl ?_;intro y5 he O;have q:=And.intro q (pU agG he).symm;cbv;refine Z9 hS iE wf [.tR 42,.tO 15 89] [14,15,42,43,44] (λs6=>f3 55 [(14,.lv 0 0),(15,.os 1 0 (S.iD (jW M s6.2.1))),(42,.os 2 0 (S.iD (gY M s6.2.2))),(43,sI (S.Be (M.n gI y4))),(44,sI s6.1)] [vR (iL M before++(iL M after++([ny M nN,ny M oV]++(jm M pe)))),aR 89 (jW M s6.2.1),aR 76 (gY M s6.2.2)]) O ?_;intro Ik7 k7 s6 hk7 O e he;subst he;unfold AP at O;cbv;refine pW ?_ ?_
 intro O;cbv;refine nZ hS O mi rfl ?_;intro j9 _ O;cbv;refine kR hS hM O rfl mi ?_;intro x10 O;cbv;refine FX hS O (cI hM) ?_;intro y11 O;cbv;refine rU hS O mi ?_;exact sV
 exact d_R
instance ic212 {before}{nN}{after}{oV}{pe}:CC M 212 (xB before nN after oV pe) [.agg (iL M before),ny M nN,.agg (iL M after),ny M oV,.agg (jm M pe)] (λr=>yF M r):=⟨λ_ h=>c212 HM.h h⟩
instance aiW {c0}{c1}{c2}{c3}{c4}{c5}:CZ M 197 (sH c0 c1 c2 c3 c4 c5) [.lv 0 0,.lv 1 0,.lv 2 0,.lv 3 0,.lv 4 0,.lv 5 0] [(0,(vR [mD M c0])),(1,(vR (iQ M c1))),(2,(vR [ny M c2])),(3,(vR (jm M c3))),(4,(vR [.sl 0 [] true])),(5,(vR [.sb c5]))] 6 (λr=>xW M r) (λ_=>[(0,(vR [mD M c0])),(1,(vR (iQ M c1))),(2,(vR [ny M c2])),(3,(vR (jm M c3))),(4,(vR [.sl 0 [] true])),(5,(vR [.sb c5]))]) 6:=by
 refine wC (iZ 6 [] []) func197 call197 [] (h:=?_)
 intro r O S R hS hR hT hW hM q;cbv;first|(refine fCp ?_;refine aba hS O (cI hM) (by simp only[xW,q];repeat' constructor) ?_)|(refine fCq ?_;refine Ns hS O (cI hM) (by simp only[xW,q];repeat' constructor) ?_)|(refine fCf ?_;refine abd hS O (cI hM) (by simp only[xW,q];repeat' constructor) (λ_=>rfl) ?_)|(refine fCa ?_;refine abb hS O (cI hM) (by simp only[xW,q];repeat' constructor) ?_)
 intro y O;exact dW
instance c240 {l}{n}:CC M 240 (Gt l n) [Px M l,sI n] (λr=>.sb r):=by
 have:=lo 2 [0,1,5] (λ_ s=>kG [(5,sI s)]);exact wA iE func240 call240
end Go.Proofs.YtchmoabpofnbaaaGreat
