import Derived.Test.YtchmoabpofnbaaaGreatD82
import Derived.Test.YtchmoabpofnbaaaGreatD83
set_option linter.all false
namespace Go.Proofs.YtchmoabpofnbaaaGreat
open Go Go.Pv
set_option maxRecDepth 100000
set_option maxHeartbeats 20000000
variable [GM]
attribute [local irreducible] bnd br jn pI eH iI kD gW qx sG divO jU jc jM jD jR kK kE
variable {M:gm}[HM M]
instance c181 {w}{left}{stage}:CC M 181 (ER w left stage) [.agg (jG M w),.sl 1 (mI M left) false,sI stage] (λr=>sI r):=by
 have hM:=HM.h (M:=M);refine⟨λr U=>?_⟩;refine EN (JV [] 2) Tryz.func181 Tryz.call181 ?_;intro S R O hR q;have q1:=aln hM O;have q2:=alo hM O;unfold ER at U;cbv;refine aae O (JV [] 2) wf [] [1,2,3,7,8,9] (λs1 (g3:(Nat->Hdr))=>f3 76 [(1,.sl 1 (mI M left) false),(2,sI stage),(3,.lv 0 0),(7,.os 1 0 (S.fE (mI M s1.2.1))),(8,.os 2 0 (S.fE (M.h g3 (List Bool) (eO M 1 eB) s1.2.2))),(9,sI s1.1)] [vR (jG M w),aR 1 (mI M s1.2.1),some (.lN 1 (M.h g3 (List Bool) (eO M 1 eB) s1.2.2))]) ((λ_=>hd0)) U au ?_;intro Ik2 k2 s1 g3 hk2 U e he;subst he;unfold yw at U;cbv;refine PT O U af ?_ ?_
 intro U;cbv;refine Kr ?_;intro x4 U;cbv;refine nM O U af ?_;intro U;cbv;refine Nr O U af af ?_;intro j5 U;cbv;refine LV O (e:=eB) U aC ?_;intro x6 U;cbv;refine ajJ O ?_;intro h7;cbv;refine nM O U af ?_;intro U;cbv;exact⟨_,((M.up g3 s1.2.2.length h7)),U,by rw[hk2]<;>(conv=>lhs;cbv)<;>(try simp only[q1])<;>(try simp only[q2,eO,q])<;>(try rfl)<;>(try simp only[eL,q])<;>(try rfl)⟩
 intro U;cbv;refine Ib O (JV [] 2) wf [] [1,2,3,7,8,10] (λs8=>f3 76 [(1,.sl 1 (mI M left) false),(2,sI stage),(3,.lv 0 0),(7,.os 1 0 (S.fE (mI M s1.2.1))),(8,.os 2 0 (S.fE (M.h g3 (List Bool) (eO M 1 eB) s8.2))),(10,sI s8.1)] [vR (jG M w),aR 1 (mI M s1.2.1),some (.lN 1 (M.h g3 (List Bool) (eO M 1 eB) s8.2))]) U au ?_;intro Ik9 k9 s8 hk9 U e he;subst he;unfold yu at U;cbv;refine PT O U af ?_ ?_
 intro U;cbv;refine Ib O (JV [] 2) wf [] [1,2,3,7,8,10,11] (λs11=>f3 76 [(1,.sl 1 (mI M left) false),(2,sI stage),(3,.lv 0 0),(7,.os 1 0 (S.fE (mI M s1.2.1))),(8,.os 2 0 (S.fE (M.h g3 (List Bool) (eO M 1 eB) s11.2))),(10,sI s8.1),(11,sI s11.1)] [vR (jG M w),aR 1 (mI M s1.2.1),some (.lN 1 (M.h g3 (List Bool) (eO M 1 eB) s11.2))]) U au ?_;intro Ik12 k12 s11 hk12 U e he;subst he;unfold yt at U;cbv;refine PT O U af ?_ ?_
 intro U;cbv;refine Fa O ?_;cbv;refine Kr ?_;intro x14 U;cbv;refine lh O U af rfl ?_;intro j15 _ U;cbv;refine BM O hM U rfl af ?_;intro x16 U;cbv;refine Kr ?_;intro x17 U;cbv;refine Kr ?_;intro x18 U;cbv;refine Kr ?_;intro x19 U;cbv;refine Kq O U (cI hM) ?_;intro y20 U;cbv;refine lh O U af rfl ?_;intro j21 _ U;cbv;refine Xa O aA ?_;cbv;refine BM O hM U rfl af ?_;intro x22 U;cbv;refine zt O rfl ?_;cbv;refine jv O hM U rfl rfl ?_;intro x23 U;cbv;exact⟨_,U,by rw[hk12]<;>(conv=>lhs;cbv)<;>(try simp only[q1])<;>(try simp only[q2,eO,q])<;>(try rfl)<;>(try simp only[eL,q])<;>(try rfl)⟩
 intro U;cbv;exact⟨_,U,by rw[hk9]<;>(conv=>lhs;cbv)<;>(try simp only[q1])<;>(try simp only[q2,eO,q])<;>(try rfl)<;>(try simp only[eL,q])<;>(try rfl)⟩
 intro U;cbv;refine Em O U (cI hM) (le_eq af) (λ_=>rfl) ?_;exact adz
theorem c212 {M:gm}(hM:M=kJ){before:dZ}{mV:List eF}{after:dZ}{oJ:List eF}{pe:jS}{r:List gU}(U:yJ before mV after oJ pe=some r):dU 212 [.agg (gG M before),kH M mV,.agg (gG M after),kH M oJ,.agg (jT M pe)] (λu=>u=tC M r):=by
 haveI:HM M:=⟨hM⟩
 refine ajR (T:=tab) fG rfl wf Tryz.func212 rfl Tryz.call212 rfl ?_;intro S R O hR;have q:=sf hM O;unfold yJ at U;cbv;refine wo O U (cI hM) ?_;intro y1 U;cbv;refine akH O [.cO 3 0 76] 11 rfl ?_;cbv;refine ahG O U (λ_=>ai8 hM) iU iU rfl rfl rfl rfl rfl rfl (λ_=>rfl) ?_ ?_
 intro l rc pv h1 h2 h3 h4 h5 h6 h7 a0 a1 r' hr';refine ahF (T:=Gh 2 [] []) (gJ 2 [] []) wf rfl [.cR 0 0] h1 h2 h3 h4 h5 h6 aJ h7 ?_;intro S R O hR;have q:=sf hM O;unfold vU at hr';cbv;refine nM O hr' bY ?_;intro hr';cbv;cases hr';exact hR _ _ _ iU iU rfl
 intro y2 U;cbv;refine wo O U (cI hM) ?_;intro y3 U;cbv;refine akH O [] 11 rfl ?_;cbv;refine ahG O U (λ_=>ai8 hM) iU iU rfl rfl rfl rfl rfl rfl (λ_=>rfl) ?_ ?_
 intro l rc pv h1 h2 h3 h4 h5 h6 h7 a0 a1 r' hr';refine ahF (T:=Gh 2 [] []) (gJ 2 [] []) wf rfl [.cR 0 0] h1 h2 h3 h4 h5 h6 aJ h7 ?_;intro S R O hR;have q:=sf hM O;unfold vU at hr';cbv;refine nM O hr' bY ?_;intro hr';cbv;cases hr';exact hR _ _ _ iU iU rfl
 intro y4 U;cbv;refine uF O U (λ_=>aml hM) ah ah rfl rfl rfl rfl ?_;intro y5 he U;have q:=And.intro q (nT alT he).symm;cbv;refine Vw O fG wf [.tR 42,.tO 15 89] [14,15,42,43,44] (λs6=>f3 55 [(14,.lv 0 0),(15,.os 1 0 (S.fE (iQ M s6.2.1))),(42,.os 2 0 (S.fE (fA M s6.2.2))),(43,sI (S.xQ (M.n dV y4))),(44,sI s6.1)] [vR (gG M before++(gG M after++([kH M mV,kH M oJ]++(jT M pe)))),aR 89 (iQ M s6.2.1),aR 76 (fA M s6.2.2)]) U ?_;intro Ik7 k7 s6 hk7 U e he;subst he;unfold Dc at U;cbv;refine mP ?_ ?_
 intro U;cbv;refine lh O U jW rfl ?_;intro j9 _ U;cbv;refine jv O hM U rfl jW ?_;intro x10 U;cbv;refine wo O U (cI hM) ?_;intro y11 U;cbv;refine nM O U jW ?_;exact tY
 exact d_R
instance ic212 {before}{mV}{after}{oJ}{pe}:CC M 212 (yJ before mV after oJ pe) [.agg (gG M before),kH M mV,.agg (gG M after),kH M oJ,.agg (jT M pe)] (λr=>tC M r):=⟨λ_ h=>c212 HM.h h⟩
end Go.Proofs.YtchmoabpofnbaaaGreat
