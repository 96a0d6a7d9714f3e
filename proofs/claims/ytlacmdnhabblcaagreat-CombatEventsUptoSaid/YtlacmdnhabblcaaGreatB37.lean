import Derived.Test.YtlacmdnhabblcaaGreatB24
import Derived.Test.YtlacmdnhabblcaaGreatB36
set_option linter.all false
namespace Go.Proofs.YtlacmdnhabblcaaGreat
open Go Go.Pv Proofs.Tryz
set_option maxRecDepth 100000
set_option maxHeartbeats 2000000
section
variable {M:kM}(hM:M=jT)
include hM
theorem alF {s:List iZ}{r:List iZ}(O:oL s qC=some r):Pv.FW Tryz.prog JE 84 [.os 0 0 (M.n iZ s),.fn 85 []] [(0,(aR 15 (M.m iZ (jC M) s)))] 1 (λu s n=>u=.os 1 0 (M.n iZ r)/\s=[(0,none),(1,(aR 15 (M.m iZ (jC M) r)))]/\n=2):=by
 refine qw (T:=(Bg 1 [13] [[(15,true)]])) (mG 1 [13] [[(15,true)]]) wf func84 rfl call84 rfl ?_;intro S R hS hR;have q:=sf hM hS;unfold oL at O;cbv;refine tN hS O (λ_=>anz hM) xB (λ_=>rfl) ?_;intro y1 O;cbv;refine jc ?_ ?_
 exact gY
 intro O;cbv;refine kE hS (mG 1 [13] [[(15,true)]]) wf [] [0,1,5,6] (λU=>f3 42 [(0,.os 0 0 (S.jD (M.m iZ (jC M) U.2.2))),(1,.fn 85 []),(5,sI U.1),(6,sI U.2.1)] [aR 15 (M.m iZ (jC M) U.2.2)]) O ?_;intro Ik3 k3 U g O e he;subst he;unfold tH at O;cbv;refine jc ?_ ?_
 intro O;cbv;refine jk hS [] [0,1,5,6] (λJ=>f3 42 [(0,.os 0 0 (S.jD (M.m iZ (jC M) J.2))),(1,.fn 85 []),(5,sI J.1),(6,sI U.2.1)] [aR 15 (M.m iZ (jC M) J.2)]) O ?_ ?_
 intro Ik6 k6 I O;cbv;refine wM hS O lS rfl ?_;intro j8 _ O;cbv;refine qJ hS hM O rfl lS ?_;intro x9 O;cbv;refine jK hS O (λ_=>c85 hM) ?_;intro C O;cbv;refine jc ?_ ?_
 intro O;cbv;refine wM hS O lS rfl ?_;intro j11 _ O;cbv;refine qJ hS hM O rfl lS ?_;exact lu
 exact jv
 intro J O;cbv;exact ng
 intro O;cbv;refine ZQ hS O lS rfl lS ?_;intro x13 bx13 O;cbv;refine Dw hS (e:=(jC M)) O oW ?_;intro x14 O;cbv;refine ZQ hS O lS rfl rfl ?_;intro x15 bx15 O;cbv;cases O;exact hR _ _ _ aP aP rfl
end
section
variable {M:kM}(hM:M=jT)
include hM
theorem c74 {a:kF}{r:Bool}(O:D8 a=some r):iI 74 [.agg (lD M a)] (λu=>u=.sb r):=by
 refine jB (je [2,12]) func74 call74 ?_;intro S R hS hR;have q:=sf hM hS;unfold D8 at O;cbv;refine jk hS [] [1,43] (λs1=>f3 86 [(1,.lv 0 0),(43,.sb s1)] [vR (lD M a)]) O ?_ ?_
 intro Ik2 k2 hk2 O;cbv;refine jc ?_ ?_
 exact jv
 intro O;cbv;refine jc ?_ ?_
 exact jv
 intro O;cbv;refine jc ?_ ?_
 exact jv
 intro O;cbv;refine jc ?_ ?_
 exact jv
 intro O;cbv;refine jc ?_ ?_
 exact jv
 intro O;cbv;refine jK hS O (λ_=>c144 hM) ?_;exact lu
 intro s1 O;cbv;refine jA hS O rfl ?_ ?_
 exact jr
 intro O;cbv;refine kE hS (je [2,12]) wf [] [1,3] (λs5=>f3 86 [(1,.lv 0 0),(3,sI s5)] [vR (lD M a)]) O ?_;intro Ik6 k6 s5 hk6 O e he;subst he;unfold NM at O;cbv;refine jc ?_ ?_
 intro O;cbv;refine jk hS [] [1,3,69] (λs8=>f3 86 [(1,.lv 0 0),(3,sI s5),(69,.sb s8)] [vR (lD M a)]) O ?_ ?_
 intro Ik9 k9 hk9 O;cbv;refine kV ?_;intro x11 O;cbv;refine jc ?_ ?_
 exact jv
 intro O;cbv;refine kV ?_;exact lu
 intro s8 O;cbv;refine jA hS O rfl ?_ ?_
 exact jr
 exact jv
 intro O;cbv;refine kE hS (je [2,12]) wf [] [1,4] (λs13=>f3 86 [(1,.lv 0 0),(4,sI s13)] [vR (lD M a)]) O ?_;intro Ik14 k14 s13 hk14 O e he;subst he;unfold NL at O;cbv;refine jc ?_ ?_
 intro O;cbv;refine kV ?_;intro x16 O;cbv;refine jc ?_ ?_
 exact jr
 exact jv
 exact jr
theorem apn {s:iT}{all:List iM}{id:Int}{r:iM}(O:sK s all id=some r):iI 147 [.agg (jb M s),.sl 17 (M.m iM (iY M) all) false,sI id] (λu=>u=.agg (iY M r)):=by
 refine jB jm func147 call147 ?_;intro S R hS hR;have q:=sf hM hS;unfold sK at O;cbv;refine tN hS O (λ_=>anw hM) (le_eq rfl) (λ_=>rfl) ?_;intro y1 O;cbv;refine jc ?_ ?_
 exact gZ
 intro O;cbv;refine jc ?_ ?_
 exact gZ
 intro O;cbv;refine kV ?_;exact kS
theorem c30 {o:iW}{t:iM}{deadly:Bool}{r:Int}(O:qj o t deadly=some r):iI 30 [.agg (ja M o),.agg (iY M t),.sb deadly] (λu=>u=sI r):=by
 refine jB jm func30 call30 ?_;intro S R hS hR;have q:=sf hM hS;unfold qj at O;cbv;refine jA hS O rfl ?_ ?_
 exact jr
 intro O;cbv;refine jK hS O (λ_=>c75 hM) ?_;exact kS
end
section
variable {M:kM}(hM:M=jT)
include hM
theorem c148 {s:iT}{id:Int}{r:Int}(O:D9 s id=some r):iI 148 [.agg (jb M s),sI id] (λu=>u=sI r):=by
 refine jB jm func148 call148 ?_;intro S R hS hR;have q:=sf hM hS;unfold D9 at O;cbv;refine tN hS O (λ_=>anx hM) (le_eq rfl) (λ_=>rfl) ?_;exact kS
end
section
variable {M:kM}(hM:M=jT)
include hM
theorem c29 {s:iT}{r:Bool}(O:LV s=some r):iI 29 [.agg (jb M s)] (λu=>u=.sb r):=by
 refine jB (je [6,12,22,42]) func29 call29 ?_;intro S R hS hR;have q:=sf hM hS;unfold LV at O;cbv;replace O:=pO O;obtain⟨v1,gv1,ev1⟩:∃ z:Int,(S.bin .add .i64 (S.bin .add .i64 (S.len (M.m iW (ja M) s.objects)) (S.len (mI M s.lq))) (S.len (mI M s.uU)))=z/\(jq (jq (iV s.objects) (iV s.lq)) (iV s.uU))=z:=⟨_,rfl,lS⟩
 (try rw[gv1]);(try (conv at gv1=>(lhs;cbv)));(try rw[gv1]);(try rw[ev1] at O);clear gv1 ev1
 replace O:=pO O;obtain⟨v2,gv2,ev2⟩:∃ z:Int,(S.bin .add .i64 (S.bin .add .i64 (S.bin .add .i64 v1 (S.len (mI M s.extra))) (S.bin .mul .i64 8 (S.len (M.m ou (pM M) s.stack)))) (S.bin .mul .i64 8 (S.len (M.m kT (mX M) s.waiting))))=z/\(jq (jq (jq v1 (iV s.extra)) (zu 8 (iV s.stack))) (zu 8 (iV s.waiting)))=z:=⟨_,rfl,lS⟩
 (try rw[gv2]);(try (conv at gv2=>(lhs;cbv)));(try rw[gv2]);(try rw[ev2] at O);clear gv2 ev2
 refine kE hS (je [6,12,22,42]) wf [] [1,3,4] (λs3=>f3 148 [(1,.lv 0 0),(3,sI s3.1),(4,sI s3.2)] [vR (jb M s)]) O ?_;intro Ik4 k4 s3 hk4 O e he;subst he;unfold Gu at O;cbv;refine jk hS [] [1,3,4,46] (λs6=>f3 148 [(1,.lv 0 0),(3,sI s3.1),(4,sI s3.2),(46,.sb s6)] [vR (jb M s)]) O ?_ ?_
 intro Ik7 k7 hk7 O;cbv;refine jc ?_ ?_<;>exact jv
 intro s6 O;cbv;refine jA hS O rfl ?_ ?_
 intro O;cbv;refine rD hS ?_;cbv;refine kV ?_;intro x9 O;cbv;refine kV ?_;intro x10 O;cbv;refine kV ?_;intro x11 O;cbv;replace O:=pO O;obtain⟨v12,gv12,ev12⟩:∃ z:Int,(S.bin .add .i64 (S.bin .add .i64 (S.bin .add .i64 s3.1 (S.len (mI M x9.library))) (S.len (mI M x10.hand))) (S.len (mI M x11.sO)))=z/\(jq (jq (jq s3.1 (iV x9.library)) (iV x10.hand)) (iV x11.sO))=z:=⟨_,rfl,lS⟩
 (try rw[gv12]);(try (conv at gv12=>(lhs;cbv)));(try rw[gv12]);(try rw[ev12] at O);clear gv12 ev12
 exact ng
 intro O;cbv;refine jk hS [] [1,81] (λs13=>f3 148 [(1,.lv 0 0),(81,.sb s13)] [vR (jb M s)]) O ?_ ?_
 intro Ik14 k14 hk14 O;cbv;refine jc ?_ ?_<;>exact jv
 intro s13 O;cbv;refine jA hS O rfl ?_ ?_
 exact jr
 intro O;cbv;refine kE hS (je [6,12,22,42]) wf [] [1,5] (λs16=>f3 148 [(1,.lv 0 0),(5,sI s16)] [vR (jb M s)]) O ?_;intro Ik17 k17 s16 hk17 O e he;subst he;unfold Cm at O;cbv;refine jc ?_ ?_
 intro O;cbv;refine jk hS [] [1,5,106] (λs19=>f3 148 [(1,.lv 0 0),(5,sI s16),(106,.sb s19)] [vR (jb M s)]) O ?_ ?_
 intro Ik20 k20 hk20 O;cbv;refine kV ?_;intro x22 O;cbv;refine jc ?_ ?_
 exact jv
 intro O;cbv;refine kV ?_;intro x23 O;cbv;refine jK hS O (λ_=>c74 hM) ?_;exact lu
 intro s19 O;cbv;refine jA hS O rfl ?_ ?_
 exact jr
 exact jv
 intro O;cbv;refine kE hS (je [6,12,22,42]) wf [] [1,6] (λs25=>f3 148 [(1,.lv 0 0),(6,sI s25)] [vR (jb M s)]) O ?_;intro Ik26 k26 s25 hk26 O e he;subst he;unfold Cj at O;cbv;refine jc ?_ ?_
 intro O;cbv;refine kV ?_;intro x28 O;cbv;refine jK hS O (λ_=>c74 hM) ?_;intro y29 O;cbv;refine jc ?_ ?_
 exact jr
 exact jv
 intro O;cbv;refine kE hS (je [6,12,22,42]) wf [] [1,7] (λs30=>f3 148 [(1,.lv 0 0),(7,sI s30)] [vR (jb M s)]) O ?_;intro Ik31 k31 s30 hk31 O e he;subst he;unfold Ci at O;cbv;refine jc ?_ ?_
 intro O;cbv;refine jk hS [] [1,7,147] (λs33=>f3 148 [(1,.lv 0 0),(7,sI s30),(147,.sb s33)] [vR (jb M s)]) O ?_ ?_
 intro Ik34 k34 hk34 O;cbv;refine kV ?_;intro x36 O;cbv;refine jc ?_ ?_
 exact jv
 intro O;cbv;refine kV ?_;intro x37 O;cbv;refine qU hS O (λ_=>c74 hM) oW ?_;exact lu
 intro s33 O;cbv;refine jA hS O rfl ?_ ?_
 exact jr
 exact jv
 exact jr
end
section
variable {M:kM}(hM:M=jT)
include hM
theorem c83 {s:iT}{id:Int}{r:iW×Bool}(O:vV s id=some r):iI 83 [.agg (jb M s),sI id] (λu=>u=.IX [.agg (ja M r.1),.sb r.2]):=by
 refine jB jm func83 call83 ?_;intro S R hS hR;have q:=sf hM hS;unfold vV at O;cbv;refine jK hS O (λ_=>c148 hM) ?_;intro y1 O;cbv;refine jc ?_ ?_
 exact jr
 intro O;cbv;refine kV ?_;exact kS
end
section
variable {M:kM}(hM:M=jT)
include hM
theorem c35 {x:nI}{r:Bool}(O:Ad x=some r):iI 35 [.agg (oQ M x)] (λu=>u=.sb r):=by
 refine jB (je [2]) func35 call35 ?_;intro S R hS hR;have q:=sf hM hS;unfold Ad at O;cbv;refine jk hS [] [1,48] (λs1=>f3 75 [(1,.lv 0 0),(48,.sb s1)] [vR (oQ M x)]) O ?_ ?_
 intro Ik2 k2 hk2 O;cbv;refine jc ?_ ?_
 exact jv
 intro O;cbv;refine jc ?_ ?_
 exact jv
 intro O;cbv;refine jc ?_ ?_
 exact jv
 intro O;cbv;refine jc ?_ ?_
 exact jv
 intro O;cbv;refine jK hS O (λ_=>c29 hM) ?_;intro y4 O;cbv;refine jc ?_ ?_
 exact jv
 intro O;cbv;refine jc ?_ ?_<;>exact jv
 intro s1 O;cbv;refine jA hS O rfl ?_ ?_
 exact jr
 intro O;cbv;refine kE hS (je [2]) wf [] [1,50,51,52] (λs5=>f3 75 [(1,.lv 0 0),(50,.sl 1 (M.m (List Int) (eL M 1 (eI .i64)) x.answers) false),(51,sI (S.len (M.m (List Int) (eL M 1 (eI .i64)) x.answers))),(52,sI s5)] [vR (oQ M x)]) O ?_;intro Ik6 k6 s5 hk6 O e he;subst he;unfold EG at O;cbv;refine jc ?_ ?_
 intro O;cbv;refine kV ?_;intro x8 O;cbv;refine jc ?_ ?_
 exact jr
 exact jv
 intro O;cbv;refine jK hS O (λ_=>c58 hM) ?_;intro y9 O;cbv;refine jc ?_ ?_
 intro O;cbv;refine jK hS O (λ_=>c59 hM) ?_;exact kS
 exact jr
end
end Go.Proofs.YtlacmdnhabblcaaGreat
