import Derived.Test.YtchmoabpofnbaaaGreatC81
import Derived.Test.YtchmoabpofnbaaaGreatC82
set_option linter.all false
namespace Go.Proofs.YtchmoabpofnbaaaGreat
open Go Go.Pv
set_option maxRecDepth 100000
set_option maxHeartbeats 20000000
variable [GM]
attribute [local irreducible] bnd br jn oL loopF iq jS gu pO rG divO jF iO jA jm jE jY jU
variable {M:fP}[HM M]
instance c181 {w}{left}{stage}:CC M 181 (NQ w left stage) [.agg (jr M w),.sl 1 (mI M left) false,sI stage] (λr=>sI r):=by
 have hM:=HM.h (M:=M);refine⟨λr U=>?_⟩;refine CO (JC [] 2) Tryz.func181 Tryz.call181 ?_;intro S R hS hR q;have q1:=ajT hM hS;have q2:=ajU hM hS;unfold NQ at U;cbv;refine Zi hS (JC [] 2) wf [] [1,2,3,7,8,9] (λs1 (g3:(Nat->Hdr))=>f3 76 [(1,.sl 1 (mI M left) false),(2,sI stage),(3,.lv 0 0),(7,.os 1 0 (S.fE (mI M s1.2.1))),(8,.os 2 0 (S.fE (M.h g3 (List Bool) (eO M 1 eB) s1.2.2))),(9,sI s1.1)] [vR (jr M w),aR 1 (mI M s1.2.1),some (.lq 1 (M.h g3 (List Bool) (eO M 1 eB) s1.2.2))]) ((λ_=>hd0)) U ay ?_;intro Ik2 k2 s1 g3 hk2 U e he;subst he;unfold Jg at U;cbv;refine OU hS U af ?_ ?_
 intro U;cbv;refine zT ?_;intro x4 U;cbv;refine nG hS U af ?_;intro U;cbv;refine MB hS U af af ?_;intro j5 U;cbv;refine JA hS (e:=eB) U aH ?_;intro x6 U;cbv;refine aio hS ?_;intro h7;cbv;refine nG hS U af ?_;intro U;cbv;exact⟨_,((M.up g3 s1.2.2.length h7)),U,by rw[hk2]<;>(conv=>lhs;cbv)<;>(try simp only[q1])<;>(try simp only[q2,eO,q])<;>(try rfl)<;>(try simp only[eL,q])<;>(try rfl)⟩
 intro U;cbv;refine GV hS (JC [] 2) wf [] [1,2,3,7,8,10] (λs8=>f3 76 [(1,.sl 1 (mI M left) false),(2,sI stage),(3,.lv 0 0),(7,.os 1 0 (S.fE (mI M s1.2.1))),(8,.os 2 0 (S.fE (M.h g3 (List Bool) (eO M 1 eB) s8.2))),(10,sI s8.1)] [vR (jr M w),aR 1 (mI M s1.2.1),some (.lq 1 (M.h g3 (List Bool) (eO M 1 eB) s8.2))]) U ay ?_;intro Ik9 k9 s8 hk9 U e he;subst he;unfold Jf at U;cbv;refine OU hS U af ?_ ?_
 intro U;cbv;refine GV hS (JC [] 2) wf [] [1,2,3,7,8,10,11] (λs11=>f3 76 [(1,.sl 1 (mI M left) false),(2,sI stage),(3,.lv 0 0),(7,.os 1 0 (S.fE (mI M s1.2.1))),(8,.os 2 0 (S.fE (M.h g3 (List Bool) (eO M 1 eB) s11.2))),(10,sI s8.1),(11,sI s11.1)] [vR (jr M w),aR 1 (mI M s1.2.1),some (.lq 1 (M.h g3 (List Bool) (eO M 1 eB) s11.2))]) U ay ?_;intro Ik12 k12 s11 hk12 U e he;subst he;unfold Je at U;cbv;refine OU hS U af ?_ ?_
 intro U;cbv;refine CB hS ?_;cbv;refine zT ?_;intro x14 U;cbv;refine kM hS U af rfl ?_;intro j15 _ U;cbv;refine AU hS hM U rfl af ?_;intro x16 U;cbv;refine zT ?_;intro x17 U;cbv;refine zT ?_;intro x18 U;cbv;refine zT ?_;intro x19 U;cbv;refine GX hS U (cI hM) ?_;intro y20 U;cbv;refine kM hS U af rfl ?_;intro j21 _ U;cbv;refine V7 hS aA ?_;cbv;refine AU hS hM U rfl af ?_;intro x22 U;cbv;refine yD hS rfl ?_;cbv;refine jc hS hM U rfl rfl ?_;intro x23 U;cbv;exact⟨_,U,by rw[hk12]<;>(conv=>lhs;cbv)<;>(try simp only[q1])<;>(try simp only[q2,eO,q])<;>(try rfl)<;>(try simp only[eL,q])<;>(try rfl)⟩
 intro U;cbv;exact⟨_,U,by rw[hk9]<;>(conv=>lhs;cbv)<;>(try simp only[q1])<;>(try simp only[q2,eO,q])<;>(try rfl)<;>(try simp only[eL,q])<;>(try rfl)⟩
 intro U;cbv;refine AV hS U (cI hM) (le_eq af) (λ_=>rfl) ?_;exact SQ
theorem c212 {M:fP}(hM:M=ku){before:GState}{l9:List eQ}{after:GState}{nY:List eQ}{pe:jg}{r:List gm}(U:xN before l9 after nY pe=some r):eH 212 [.agg (fV M before),iE M l9,.agg (fV M after),iE M nY,.agg (jC M pe)] (λu=>u=sF M r):=by
 haveI:HM M:=⟨hM⟩
 refine aiw (T:=tab) fG rfl wf Tryz.func212 rfl Tryz.call212 rfl ?_;intro S R hS hR;have q:=sf hM hS;unfold xN at U;cbv;refine qZ hS U (cI hM) ?_;intro y1 U;cbv;refine ajc hS [.cO 3 0 76] 11 rfl ?_;cbv;refine agq hS U (λ_=>ahM hM) gX gX rfl rfl rfl rfl rfl rfl (λ_=>rfl) ?_ ?_
 intro l rc pv h1 h2 h3 h4 h5 h6 h7 a0 a1 r' hr';refine agp (T:=Fg 2 [] []) (gp 2 [] []) wf rfl [.cR 0 0] h1 h2 h3 h4 h5 h6 aU h7 ?_;intro S R hS hR;have q:=sf hM hS;unfold uZ at hr';cbv;refine nG hS hr' dA ?_;intro hr';cbv;cases hr';exact hR _ _ _ gX gX rfl
 intro y2 U;cbv;refine qZ hS U (cI hM) ?_;intro y3 U;cbv;refine ajc hS [] 11 rfl ?_;cbv;refine agq hS U (λ_=>ahM hM) gX gX rfl rfl rfl rfl rfl rfl (λ_=>rfl) ?_ ?_
 intro l rc pv h1 h2 h3 h4 h5 h6 h7 a0 a1 r' hr';refine agp (T:=Fg 2 [] []) (gp 2 [] []) wf rfl [.cR 0 0] h1 h2 h3 h4 h5 h6 aU h7 ?_;intro S R hS hR;have q:=sf hM hS;unfold uZ at hr';cbv;refine nG hS hr' dA ?_;intro hr';cbv;cases hr';exact hR _ _ _ gX gX rfl
 intro y4 U;cbv;refine uj hS U (λ_=>akX hM) ah ah rfl rfl rfl rfl ?_;intro y5 he U;have q:=And.intro q (mY akt he).symm;cbv;refine UQ hS fG wf [.tO 15 89,.tR 42] [14,15,42,43,44] (λs6=>f3 55 [(14,.lv 0 0),(15,.os 1 0 (S.fE (iP M s6.2.1))),(42,.os 2 0 (S.fE (eY M s6.2.2))),(43,sI (S.yf (M.n eP y4))),(44,sI s6.1)] [vR (fV M before++(fV M after++([iE M l9,iE M nY]++(jC M pe)))),aR 89 (iP M s6.2.1),aR 76 (eY M s6.2.2)]) U ?_;intro Ik7 k7 s6 hk7 U e he;subst he;unfold BL at U;cbv;refine kQ ?_ ?_
 intro U;cbv;refine kM hS U jJ rfl ?_;intro j9 _ U;cbv;refine jc hS hM U rfl jJ ?_;intro x10 U;cbv;refine qZ hS U (cI hM) ?_;intro y11 U;cbv;refine nG hS U jJ ?_;exact pW
 exact d_R
instance ic212 {before}{l9}{after}{nY}{pe}:CC M 212 (xN before l9 after nY pe) [.agg (fV M before),iE M l9,.agg (fV M after),iE M nY,.agg (jC M pe)] (λr=>sF M r):=⟨λ_ h=>c212 HM.h h⟩
end Go.Proofs.YtchmoabpofnbaaaGreat
