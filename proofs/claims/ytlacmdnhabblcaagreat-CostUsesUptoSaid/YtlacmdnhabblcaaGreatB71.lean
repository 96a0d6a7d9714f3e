import Derived.Test.YtlacmdnhabblcaaGreatB15
import Derived.Test.YtlacmdnhabblcaaGreatB70
set_option linter.all false
namespace Go.Proofs.YtlacmdnhabblcaaGreat
open Go Go.Pv Proofs.Tryz
set_option maxRecDepth 100000
set_option maxHeartbeats 2000000
section
variable {M:kM}(hM:M=jT)
include hM
theorem c226 {c:oH}{r:Bool}(O:Ul c=some r):iI 226 [.agg (pV M c)] (λu=>u=.sb r):=by
 refine jB (je [4,6,8]) func226 call226 ?_;intro S R hS hR;have q:=sf hM hS;unfold Ul at O;cbv;refine kE hS (je [4,6,8]) wf [] [1,6,7] (λs1=>f3 35 [(1,.lv 0 0),(6,.agg [sI c.color.a0,sI c.color.a1,sI c.color.a2,sI c.color.a3,sI c.color.a4]),(7,sI s1)] [vR (pV M c)]) O ?_;intro Ik2 k2 s1 hk2 O e he;subst he;unfold NT at O;cbv;refine nJ hS ?_;cbv;refine jc ?_ ?_
 intro O;cbv;refine jk hS [] [1,4,6,7] (λs4=>f3 35 [(1,.lv 0 0),(4,sI s4),(6,.agg [sI c.color.a0,sI c.color.a1,sI c.color.a2,sI c.color.a3,sI c.color.a4]),(7,sI s1)] [vR (pV M c)]) O ?_ ?_
 intro Ik5 k5 hk5 O;cbv;obtain⟨j7,hj7,ej7,O⟩:=oz O;refine tZ hS rfl ⟨j7,hj7,ej7,?_⟩;rcases lt5 hj7 with rfl|rfl|rfl|rfl|rfl
 exact gU
 exact gU
 exact gU
 exact gU
 cbv;exact ng
 intro s4 O;cbv;refine jk hS [] [1,6,7,15] (λs8=>f3 35 [(1,.lv 0 0),(6,.agg [sI c.color.a0,sI c.color.a1,sI c.color.a2,sI c.color.a3,sI c.color.a4]),(7,sI s1),(15,.sb s8)] [vR (pV M c)]) O ?_ ?_
 intro Ik9 k9 hk9 O;cbv;refine jc ?_ ?_<;>exact jv
 intro s8 O;cbv;refine jA hS O rfl ?_ ?_
 exact jr
 exact jv
 intro O;cbv;refine jc ?_ ?_
 intro O;cbv;refine jc ?_ ?_
 intro O;cbv;refine jc ?_ ?_<;>exact jr
 exact jr
 exact jr
end
section
variable {M:kM}(hM:M=jT)
include hM
theorem c118 {s:iT}{all:List iM}{id:Int}{r:iM}(O:IK s all id=some r):iI 118 [.agg (jb M s),.sl 17 (M.m iM (iY M) all) false,sI id] (λu=>u=.agg (iY M r)):=by
 refine jB (je [4]) func118 call118 ?_;intro S R hS hR;have q:=sf hM hS;unfold IK at O;cbv;refine kE hS (je [4]) wf [] [1,2,3,6,7] (λs1=>f3 34 [(1,.sl 17 (M.m iM (iY M) all) false),(2,sI id),(3,.lv 0 0),(6,.lv 1 0),(7,sI s1)] [vR (jb M s),vR [.str (bs []),sI 0,sI 0,sI 0,sI 0,sI 0,sI 0,sI 0,sI 0,sI 0,sI 0,.sl 0 [] true,sI 0,sI 0,sI 0,.sl 0 [] true,sI 0]]) O ?_;intro Ik2 k2 s1 hk2 O e he;subst he;unfold J9 at O;cbv;refine jk hS [] [1,2,3,6,7,18] (λs4=>f3 34 [(1,.sl 17 (M.m iM (iY M) all) false),(2,sI id),(3,.lv 0 0),(6,.lv 1 0),(7,sI s1),(18,.sb s4)] [vR (jb M s),vR [.str (bs []),sI 0,sI 0,sI 0,sI 0,sI 0,sI 0,sI 0,sI 0,sI 0,sI 0,.sl 0 [] true,sI 0,sI 0,sI 0,.sl 0 [] true,sI 0]]) O ?_ ?_
 intro Ik5 k5 hk5 O;cbv;refine jc ?_ ?_<;>exact jv
 intro s4 O;cbv;refine jA hS O rfl ?_ ?_
 intro O;cbv;refine kV ?_;intro x7 O;cbv;refine jc ?_ ?_
 intro O;cbv;refine kV ?_;exact kS
 exact jv
 intro O;cbv;cases O;exact hR _ oW
theorem c227 {p:rQ Int}{r:Bool}(O:IJ p=some r):iI 227 [.agg [sI p.a0,sI p.a1,sI p.a2,sI p.a3,sI p.a4,sI p.a5]] (λu=>u=.sb r):=by
 refine jB (je [4,6,8]) func227 call227 ?_;intro S R hS hR;have q:=sf hM hS;unfold IJ at O;cbv;refine kE hS (je [4,6,8]) wf [] [5,6] (λs1=>f3 16 [(5,.agg [sI p.a0,sI p.a1,sI p.a2,sI p.a3,sI p.a4,sI p.a5]),(6,sI s1)] []) O ?_;intro Ik2 k2 s1 hk2 O e he;subst he;unfold EM at O;cbv;refine nJ hS ?_;cbv;refine jc ?_ ?_
 intro O;cbv;refine jk hS [] [4,5,6] (λs4=>f3 16 [(4,sI s4),(5,.agg [sI p.a0,sI p.a1,sI p.a2,sI p.a3,sI p.a4,sI p.a5]),(6,sI s1)] []) O ?_ ?_
 intro Ik5 k5 hk5 O;cbv;obtain⟨j7,hj7,ej7,O⟩:=oz O;refine tZ hS rfl ⟨j7,hj7,ej7,?_⟩;rcases lt6 hj7 with rfl|rfl|rfl|rfl|rfl|rfl
 exact gU
 exact gU
 exact gU
 exact gU
 exact gU
 cbv;exact ng
 intro s4 O;cbv;refine jk hS [] [5,6,14] (λs8=>f3 16 [(5,.agg [sI p.a0,sI p.a1,sI p.a2,sI p.a3,sI p.a4,sI p.a5]),(6,sI s1),(14,.sb s8)] []) O ?_ ?_
 intro Ik9 k9 hk9 O;cbv;refine jc ?_ ?_<;>exact jv
 intro s8 O;cbv;refine jA hS O rfl ?_ ?_
 exact jr
 exact jv
 exact jr
end
section
variable {M:kM}(hM:M=jT)
include hM
theorem c119 {mask:Int}{bit:Int}{r:Bool}(O:QJ mask bit=some r):iI 119 [sI mask,sI bit] (λu=>u=.sb r):=by
 refine jB jm func119 call119 ?_;intro S R hS hR;have q:=sf hM hS;unfold QJ at O;cbv;refine xW hS O rfl rfl ?_;intro x1 O;cbv;refine xW hS O rfl rfl ?_;exact kS
end
section
variable {M:kM}(hM:M=jT)
include hM
theorem c115 {o:iW}{c1:Int}{r:Bool}(O:zI o c1=some r):iI 115 [.agg (ja M o),.pp [sI c1]] (λu=>u=.sb r):=by
 refine jB jm func115 call115 ?_;intro S R hS hR;have q:=sf hM hS;unfold zI at O;cbv;exact tu
theorem c51  {r:Bool}(O:JC=some r):iI 51 [] (λu=>u=.sb r):=by
 cases O;exact ak8
end
section
variable {M:kM}(hM:M=jT)
include hM
theorem c171 {p:rQ Int}{c:oH}{x:Int}{r:(rQ Int)×Int}(O:Qa p c x=some r):iI 171 [.agg [sI p.a0,sI p.a1,sI p.a2,sI p.a3,sI p.a4,sI p.a5],.agg (pV M c),sI x] (λu=>u=.IX [.agg [sI r.1.a0,sI r.1.a1,sI r.1.a2,sI r.1.a3,sI r.1.a4,sI r.1.a5],sI r.2]):=by
 refine jB (je [2,8,16,18,20,22,30]) func171 call171 ?_;intro S R hS hR;have q:=sf hM hS;unfold Qa at O;cbv;refine jk hS [] [2,3,4,6,29] (λs1=>f3 90 [(2,sI x),(3,.lv 0 0),(4,.lv 1 0),(6,.lv 2 0),(29,.sb s1)] [vR [sI p.a0,sI p.a1,sI p.a2,sI p.a3,sI p.a4,sI p.a5],vR (pV M c),vR [sI 0,sI 0,sI 0,sI 0,sI 0,sI 0]]) O ?_ ?_
 intro Ik2 k2 hk2 O;cbv;refine jK hS O (λ_=>c226 hM) ?_;intro y4 O;cbv;refine jc ?_ ?_
 exact jv
 intro O;cbv;refine jK hS O (λ_=>c227 hM) ?_;intro y5 O;cbv;refine jc ?_ ?_
 exact jv
 intro O;cbv;refine jc ?_ ?_<;>exact jv
 intro s1 O;cbv;refine jA hS O rfl ?_ ?_
 exact jr
 intro O;cbv;refine jk hS [] [3,4,6,8,45] (λs6=>f3 90 [(3,.lv 0 0),(4,.lv 1 0),(6,.lv 2 0),(8,sI (S.bin .add .i64 c.generic (S.bin .mul .i64 c.x x))),(45,.sb s6)] [vR [sI p.a0,sI p.a1,sI p.a2,sI p.a3,sI p.a4,sI p.a5],vR (pV M c),vR [sI 0,sI 0,sI 0,sI 0,sI 0,sI 0]]) O ?_ ?_
 intro Ik7 k7 hk7 O;cbv;replace O:=pO O;refine jc ?_ ?_
 intro O;cbv;replace O:=pO O;exact ng
 exact jv
 intro s6 O;cbv;refine jA hS O rfl ?_ ?_
 exact jr
 intro O;cbv;refine kE hS (je [2,8,16,18,20,22,30]) wf [] [6,8,9,49,50] (λs11=>f3 90 [(6,.lv 0 0),(8,sI (S.bin .add .i64 c.generic (S.bin .mul .i64 c.x x))),(9,.lv 1 0),(49,.agg [sI c.color.a0,sI c.color.a1,sI c.color.a2,sI c.color.a3,sI c.color.a4]),(50,sI s11.2)] [vR [sI 0,sI 0,sI 0,sI 0,sI 0,sI 0],vR [sI s11.1.a0,sI s11.1.a1,sI s11.1.a2,sI s11.1.a3,sI s11.1.a4,sI s11.1.a5]]) O ?_;intro Ik12 k12 s11 hk12 O e he;subst he;unfold JD at O;cbv;refine nJ hS ?_;cbv;refine jc ?_ ?_
 intro O;cbv;refine jk hS [] [6,8,9,10,11,49,50] (λs14=>f3 90 [(6,.lv 0 0),(8,sI (S.bin .add .i64 c.generic (S.bin .mul .i64 c.x x))),(9,.lv 1 0),(10,sI s11.2),(11,sI s14),(49,.agg [sI c.color.a0,sI c.color.a1,sI c.color.a2,sI c.color.a3,sI c.color.a4]),(50,sI s11.2)] [vR [sI 0,sI 0,sI 0,sI 0,sI 0,sI 0],vR [sI s11.1.a0,sI s11.1.a1,sI s11.1.a2,sI s11.1.a3,sI s11.1.a4,sI s11.1.a5]]) O ?_ ?_
 intro Ik15 k15 hk15 O;cbv;obtain⟨j17,hj17,ej17,O⟩:=oz O;refine tZ hS rfl ⟨j17,hj17,ej17,?_⟩;rcases lt5 hj17 with rfl|rfl|rfl|rfl|rfl
 exact gU
 exact gU
 exact gU
 exact gU
 cbv;exact ng
 intro s14 O;cbv;refine jk hS [] [6,8,9,10,49,50] (λs18=>f3 90 [(6,.lv 0 0),(8,sI (S.bin .add .i64 c.generic (S.bin .mul .i64 c.x x))),(9,.lv 1 0),(10,sI s11.2),(49,.agg [sI c.color.a0,sI c.color.a1,sI c.color.a2,sI c.color.a3,sI c.color.a4]),(50,sI s11.2)] [vR [sI 0,sI 0,sI 0,sI 0,sI 0,sI 0],vR [sI s18.a0,sI s18.a1,sI s18.a2,sI s18.a3,sI s18.a4,sI s18.a5]]) O ?_ ?_
 intro Ik19 k19 hk19 O;cbv;obtain⟨j21,hj21,ej21,O⟩:=oz O;refine tZ hS lS ⟨j21,hj21,ej21,?_⟩;rcases lt6 hj21 with rfl|rfl|rfl|rfl|rfl|rfl
 cbv;obtain⟨j22,hj22,ej22,O⟩:=oz O;refine tZ hS lS ⟨j22,hj22,ej22,?_⟩;rcases lt6 hj22 with rfl|rfl|rfl|rfl|rfl|rfl
 exact gU
 exact gU
 exact gU
 exact gU
 exact gU
 cbv;exact ng
 cbv;obtain⟨j23,hj23,ej23,O⟩:=oz O;refine tZ hS lS ⟨j23,hj23,ej23,?_⟩;rcases lt6 hj23 with rfl|rfl|rfl|rfl|rfl|rfl
 exact gU
 exact gU
 exact gU
 exact gU
 exact gU
 cbv;exact ng
 cbv;obtain⟨j24,hj24,ej24,O⟩:=oz O;refine tZ hS lS ⟨j24,hj24,ej24,?_⟩;rcases lt6 hj24 with rfl|rfl|rfl|rfl|rfl|rfl
 exact gU
 exact gU
 exact gU
 exact gU
 exact gU
 cbv;exact ng
 cbv;obtain⟨j25,hj25,ej25,O⟩:=oz O;refine tZ hS lS ⟨j25,hj25,ej25,?_⟩;rcases lt6 hj25 with rfl|rfl|rfl|rfl|rfl|rfl
 exact gU
 exact gU
 exact gU
 exact gU
 exact gU
 cbv;exact ng
 cbv;obtain⟨j26,hj26,ej26,O⟩:=oz O;refine tZ hS lS ⟨j26,hj26,ej26,?_⟩;rcases lt6 hj26 with rfl|rfl|rfl|rfl|rfl|rfl
 exact gU
 exact gU
 exact gU
 exact gU
 exact gU
 cbv;exact ng
 cbv;obtain⟨j27,hj27,ej27,O⟩:=oz O;refine tZ hS lS ⟨j27,hj27,ej27,?_⟩;rcases lt6 hj27 with rfl|rfl|rfl|rfl|rfl|rfl
 exact gU
 exact gU
 exact gU
 exact gU
 exact gU
 cbv;exact ng
 intro s18 O;cbv;refine jk hS [] [6,8,9,49,50,65] (λs28=>f3 90 [(6,.lv 0 0),(8,sI (S.bin .add .i64 c.generic (S.bin .mul .i64 c.x x))),(9,.lv 1 0),(49,.agg [sI c.color.a0,sI c.color.a1,sI c.color.a2,sI c.color.a3,sI c.color.a4]),(50,sI s11.2),(65,.sb s28)] [vR [sI 0,sI 0,sI 0,sI 0,sI 0,sI 0],vR [sI s18.a0,sI s18.a1,sI s18.a2,sI s18.a3,sI s18.a4,sI s18.a5]]) O ?_ ?_
 intro Ik29 k29 hk29 O;cbv;obtain⟨j31,hj31,ej31,O⟩:=oz O;refine tZ hS lS ⟨j31,hj31,ej31,?_⟩;rcases lt6 hj31 with rfl|rfl|rfl|rfl|rfl|rfl
 exact gU
 exact gU
 exact gU
 exact gU
 exact gU
 cbv;exact ng
 intro s28 O;cbv;refine jA hS O rfl ?_ ?_
 exact jr
 exact jv
 intro O;cbv;refine GU hS (je [2,8,16,18,20,22,30]) wf 8 ?_;intro g32 hg32;refine hg32 _ _ ?_;cbv;refine nJ hS ?_;cbv;replace O:=pO O;obtain⟨v33,gv33,ev33⟩:∃ z:Int,(S.bin .sub .i64 s11.1.a0 (S.Dn (S.bin .add .i64 c.generic (S.bin .mul .i64 c.x x)) s11.1.a0))=z/\(jS s11.1.a0 (if s11.1.a0<(jq c.generic (zu c.x x)) then s11.1.a0 else (jq c.generic (zu c.x x))))=z:=⟨_,rfl,lS⟩
 (try rw[gv33]);(try (conv at gv33=>(lhs;cbv)));(try rw[gv33]);(try rw[ev33] at O);clear gv33 ev33
 replace O:=pO O;obtain⟨v34,gv34,ev34⟩:∃ z:Int,(S.bin .sub .i64 (S.bin .add .i64 c.generic (S.bin .mul .i64 c.x x)) (S.Dn (S.bin .add .i64 c.generic (S.bin .mul .i64 c.x x)) s11.1.a0))=z/\(jS (jq c.generic (zu c.x x)) (if s11.1.a0<(jq c.generic (zu c.x x)) then s11.1.a0 else (jq c.generic (zu c.x x))))=z:=⟨_,rfl,lS⟩
 (try rw[gv34]);(try (conv at gv34=>(lhs;cbv)));(try rw[gv34]);(try rw[ev34] at O);clear gv34 ev34
 refine hg32 _ _ ?_;cbv;refine nJ hS ?_;cbv;refine hg32 _ _ ?_;cbv;refine nJ hS ?_;cbv;replace O:=pO O;obtain⟨v35,gv35,ev35⟩:∃ z:Int,(S.bin .sub .i64 s11.1.a2 (S.Dn (S.bin .sub .i64 v34 (S.Dn v34 s11.1.a1)) s11.1.a2))=z/\(jS s11.1.a2 (if s11.1.a2<(jS v34 (if s11.1.a1<v34 then s11.1.a1 else v34)) then s11.1.a2 else (jS v34 (if s11.1.a1<v34 then s11.1.a1 else v34))))=z:=⟨_,rfl,lS⟩
 (try rw[gv35]);(try (conv at gv35=>(lhs;cbv)));(try rw[gv35]);(try rw[ev35] at O);clear gv35 ev35
 replace O:=pO O;obtain⟨v36,gv36,ev36⟩:∃ z:Int,(S.bin .sub .i64 (S.bin .sub .i64 v34 (S.Dn v34 s11.1.a1)) (S.Dn (S.bin .sub .i64 v34 (S.Dn v34 s11.1.a1)) s11.1.a2))=z/\(jS (jS v34 (if s11.1.a1<v34 then s11.1.a1 else v34)) (if s11.1.a2<(jS v34 (if s11.1.a1<v34 then s11.1.a1 else v34)) then s11.1.a2 else (jS v34 (if s11.1.a1<v34 then s11.1.a1 else v34))))=z:=⟨_,rfl,lS⟩
 (try rw[gv36]);(try (conv at gv36=>(lhs;cbv)));(try rw[gv36]);(try rw[ev36] at O);clear gv36 ev36
 refine hg32 _ _ ?_;cbv;refine nJ hS ?_;cbv;refine hg32 _ _ ?_;cbv;refine nJ hS ?_;cbv;replace O:=pO O;obtain⟨v37,gv37,ev37⟩:∃ z:Int,(S.bin .sub .i64 s11.1.a4 (S.Dn (S.bin .sub .i64 v36 (S.Dn v36 s11.1.a3)) s11.1.a4))=z/\(jS s11.1.a4 (if s11.1.a4<(jS v36 (if s11.1.a3<v36 then s11.1.a3 else v36)) then s11.1.a4 else (jS v36 (if s11.1.a3<v36 then s11.1.a3 else v36))))=z:=⟨_,rfl,lS⟩
 (try rw[gv37]);(try (conv at gv37=>(lhs;cbv)));(try rw[gv37]);(try rw[ev37] at O);clear gv37 ev37
 replace O:=pO O;obtain⟨v38,gv38,ev38⟩:∃ z:Int,(S.bin .sub .i64 (S.bin .sub .i64 v36 (S.Dn v36 s11.1.a3)) (S.Dn (S.bin .sub .i64 v36 (S.Dn v36 s11.1.a3)) s11.1.a4))=z/\(jS (jS v36 (if s11.1.a3<v36 then s11.1.a3 else v36)) (if s11.1.a4<(jS v36 (if s11.1.a3<v36 then s11.1.a3 else v36)) then s11.1.a4 else (jS v36 (if s11.1.a3<v36 then s11.1.a3 else v36))))=z:=⟨_,rfl,lS⟩
 (try rw[gv38]);(try (conv at gv38=>(lhs;cbv)));(try rw[gv38]);(try rw[ev38] at O);clear gv38 ev38
 refine hg32 _ _ ?_;cbv;refine nJ hS ?_;cbv;refine hg32 _ _ ?_;cbv;refine nJ hS ?_;cbv;replace O:=pO O;refine jc ?_ ?_<;>exact jr
theorem c174 {p:rQ Int}{c:oH}{x:Int}{r:(rQ Int)×Int}(O:Um p c x=some r):iI 174 [.agg [sI p.a0,sI p.a1,sI p.a2,sI p.a3,sI p.a4,sI p.a5],.agg (pV M c),sI x] (λu=>u=.IX [.agg [sI r.1.a0,sI r.1.a1,sI r.1.a2,sI r.1.a3,sI r.1.a4,sI r.1.a5],sI r.2]):=by
 refine jB (je [2,12,32]) func174 call174 ?_;intro S R hS hR;have q:=sf hM hS;unfold Um at O;cbv;refine jk hS [] [2,3,4,6,29] (λs1=>f3 97 [(2,sI x),(3,.lv 0 0),(4,.lv 1 0),(6,.lv 2 0),(29,.sb s1)] [vR [sI p.a0,sI p.a1,sI p.a2,sI p.a3,sI p.a4,sI p.a5],vR (pV M c),vR [sI 0,sI 0,sI 0,sI 0,sI 0,sI 0]]) O ?_ ?_
 intro Ik2 k2 hk2 O;cbv;refine jK hS O (λ_=>agr hM) ?_;intro y4 O;cbv;refine jc ?_ ?_
 exact jv
 intro O;cbv;refine jK hS O (λ_=>aot hM) ?_;intro y5 O;cbv;refine jc ?_ ?_
 exact jv
 intro O;cbv;refine jc ?_ ?_<;>exact jv
 intro s1 O;cbv;refine jA hS O rfl ?_ ?_
 exact jr
 intro O;cbv;refine GU hS (je [2,12,32]) wf 7 ?_;intro g6 hg6;refine hg6 _ _ ?_;cbv;refine nJ hS ?_;cbv;refine rD hS ?_;cbv;refine jc ?_ ?_
 exact jr
 intro O;cbv;refine rD hS ?_;cbv;refine hg6 _ _ ?_;cbv;refine nJ hS ?_;cbv;refine rD hS ?_;cbv;refine jc ?_ ?_
 exact jr
 intro O;cbv;refine rD hS ?_;cbv;replace O:=pO O;obtain⟨v7,gv7,ev7⟩:∃ z:Int,(S.bin .add .i64 (S.bin .add .i64 p.a0 (S.bin .sub .i64 p.a1 c.color.a0)) (S.bin .sub .i64 p.a2 c.color.a1))=z/\(jq (jq p.a0 (jS p.a1 c.color.a0)) (jS p.a2 c.color.a1))=z:=⟨_,rfl,lS⟩
 (try rw[gv7]);(try (conv at gv7=>(lhs;cbv)));(try rw[gv7]);(try rw[ev7] at O);clear gv7 ev7
 refine hg6 _ _ ?_;cbv;refine nJ hS ?_;cbv;refine rD hS ?_;cbv;refine jc ?_ ?_
 exact jr
 intro O;cbv;refine rD hS ?_;cbv;refine hg6 _ _ ?_;cbv;refine nJ hS ?_;cbv;refine rD hS ?_;cbv;refine jc ?_ ?_
 exact jr
 intro O;cbv;refine rD hS ?_;cbv;replace O:=pO O;obtain⟨v8,gv8,ev8⟩:∃ z:Int,(S.bin .add .i64 (S.bin .add .i64 v7 (S.bin .sub .i64 p.a3 c.color.a2)) (S.bin .sub .i64 p.a4 c.color.a3))=z/\(jq (jq v7 (jS p.a3 c.color.a2)) (jS p.a4 c.color.a3))=z:=⟨_,rfl,lS⟩
 (try rw[gv8]);(try (conv at gv8=>(lhs;cbv)));(try rw[gv8]);(try rw[ev8] at O);clear gv8 ev8
 refine hg6 _ _ ?_;cbv;refine nJ hS ?_;cbv;refine rD hS ?_;cbv;refine jc ?_ ?_
 exact jr
 intro O;cbv;refine rD hS ?_;cbv;refine hg6 _ _ ?_;cbv;refine nJ hS ?_;cbv;replace O:=pO O;refine jc ?_ ?_
 exact jr
 intro O;cbv;refine GU hS (je [2,12,32]) wf 8 ?_;intro g10 hg10;refine hg10 _ _ ?_;cbv;refine nJ hS ?_;cbv;replace O:=pO O;obtain⟨v11,gv11,ev11⟩:∃ z:Int,(S.bin .sub .i64 p.a0 (S.Dn (S.bin .add .i64 c.generic (S.bin .mul .i64 c.x x)) p.a0))=z/\(jS p.a0 (if p.a0<(jq c.generic (zu c.x x)) then p.a0 else (jq c.generic (zu c.x x))))=z:=⟨_,rfl,lS⟩
 (try rw[gv11]);(try (conv at gv11=>(lhs;cbv)));(try rw[gv11]);(try rw[ev11] at O);clear gv11 ev11
 replace O:=pO O;obtain⟨v12,gv12,ev12⟩:∃ z:Int,(S.bin .sub .i64 (S.bin .add .i64 c.generic (S.bin .mul .i64 c.x x)) (S.Dn (S.bin .add .i64 c.generic (S.bin .mul .i64 c.x x)) p.a0))=z/\(jS (jq c.generic (zu c.x x)) (if p.a0<(jq c.generic (zu c.x x)) then p.a0 else (jq c.generic (zu c.x x))))=z:=⟨_,rfl,lS⟩
 (try rw[gv12]);(try (conv at gv12=>(lhs;cbv)));(try rw[gv12]);(try rw[ev12] at O);clear gv12 ev12
 refine hg10 _ _ ?_;cbv;refine nJ hS ?_;cbv;replace O:=pO O;obtain⟨v13,gv13,ev13⟩:∃ z:Int,(S.bin .sub .i64 (S.bin .sub .i64 p.a1 c.color.a0) (S.Dn v12 (S.bin .sub .i64 p.a1 c.color.a0)))=z/\(jS (jS p.a1 c.color.a0) (if (jS p.a1 c.color.a0)<v12 then (jS p.a1 c.color.a0) else v12))=z:=⟨_,rfl,lS⟩
 (try rw[gv13]);(try (conv at gv13=>(lhs;cbv)));(try rw[gv13]);(try rw[ev13] at O);clear gv13 ev13
 replace O:=pO O;obtain⟨v14,gv14,ev14⟩:∃ z:Int,(S.bin .sub .i64 v12 (S.Dn v12 (S.bin .sub .i64 p.a1 c.color.a0)))=z/\(jS v12 (if (jS p.a1 c.color.a0)<v12 then (jS p.a1 c.color.a0) else v12))=z:=⟨_,rfl,lS⟩
 (try rw[gv14]);(try (conv at gv14=>(lhs;cbv)));(try rw[gv14]);(try rw[ev14] at O);clear gv14 ev14
 refine hg10 _ _ ?_;cbv;refine nJ hS ?_;cbv;replace O:=pO O;obtain⟨v15,gv15,ev15⟩:∃ z:Int,(S.bin .sub .i64 (S.bin .sub .i64 p.a2 c.color.a1) (S.Dn v14 (S.bin .sub .i64 p.a2 c.color.a1)))=z/\(jS (jS p.a2 c.color.a1) (if (jS p.a2 c.color.a1)<v14 then (jS p.a2 c.color.a1) else v14))=z:=⟨_,rfl,lS⟩
 (try rw[gv15]);(try (conv at gv15=>(lhs;cbv)));(try rw[gv15]);(try rw[ev15] at O);clear gv15 ev15
 replace O:=pO O;obtain⟨v16,gv16,ev16⟩:∃ z:Int,(S.bin .sub .i64 v14 (S.Dn v14 (S.bin .sub .i64 p.a2 c.color.a1)))=z/\(jS v14 (if (jS p.a2 c.color.a1)<v14 then (jS p.a2 c.color.a1) else v14))=z:=⟨_,rfl,lS⟩
 (try rw[gv16]);(try (conv at gv16=>(lhs;cbv)));(try rw[gv16]);(try rw[ev16] at O);clear gv16 ev16
 refine hg10 _ _ ?_;cbv;refine nJ hS ?_;cbv;replace O:=pO O;obtain⟨v17,gv17,ev17⟩:∃ z:Int,(S.bin .sub .i64 (S.bin .sub .i64 p.a3 c.color.a2) (S.Dn v16 (S.bin .sub .i64 p.a3 c.color.a2)))=z/\(jS (jS p.a3 c.color.a2) (if (jS p.a3 c.color.a2)<v16 then (jS p.a3 c.color.a2) else v16))=z:=⟨_,rfl,lS⟩
 (try rw[gv17]);(try (conv at gv17=>(lhs;cbv)));(try rw[gv17]);(try rw[ev17] at O);clear gv17 ev17
 replace O:=pO O;obtain⟨v18,gv18,ev18⟩:∃ z:Int,(S.bin .sub .i64 v16 (S.Dn v16 (S.bin .sub .i64 p.a3 c.color.a2)))=z/\(jS v16 (if (jS p.a3 c.color.a2)<v16 then (jS p.a3 c.color.a2) else v16))=z:=⟨_,rfl,lS⟩
 (try rw[gv18]);(try (conv at gv18=>(lhs;cbv)));(try rw[gv18]);(try rw[ev18] at O);clear gv18 ev18
 refine hg10 _ _ ?_;cbv;refine nJ hS ?_;cbv;replace O:=pO O;obtain⟨v19,gv19,ev19⟩:∃ z:Int,(S.bin .sub .i64 (S.bin .sub .i64 p.a4 c.color.a3) (S.Dn v18 (S.bin .sub .i64 p.a4 c.color.a3)))=z/\(jS (jS p.a4 c.color.a3) (if (jS p.a4 c.color.a3)<v18 then (jS p.a4 c.color.a3) else v18))=z:=⟨_,rfl,lS⟩
 (try rw[gv19]);(try (conv at gv19=>(lhs;cbv)));(try rw[gv19]);(try rw[ev19] at O);clear gv19 ev19
 replace O:=pO O;obtain⟨v20,gv20,ev20⟩:∃ z:Int,(S.bin .sub .i64 v18 (S.Dn v18 (S.bin .sub .i64 p.a4 c.color.a3)))=z/\(jS v18 (if (jS p.a4 c.color.a3)<v18 then (jS p.a4 c.color.a3) else v18))=z:=⟨_,rfl,lS⟩
 (try rw[gv20]);(try (conv at gv20=>(lhs;cbv)));(try rw[gv20]);(try rw[ev20] at O);clear gv20 ev20
 refine hg10 _ _ ?_;cbv;refine nJ hS ?_;cbv;replace O:=pO O;obtain⟨v21,gv21,ev21⟩:∃ z:Int,(S.bin .sub .i64 (S.bin .sub .i64 p.a5 c.color.a4) (S.Dn v20 (S.bin .sub .i64 p.a5 c.color.a4)))=z/\(jS (jS p.a5 c.color.a4) (if (jS p.a5 c.color.a4)<v20 then (jS p.a5 c.color.a4) else v20))=z:=⟨_,rfl,lS⟩
 (try rw[gv21]);(try (conv at gv21=>(lhs;cbv)));(try rw[gv21]);(try rw[ev21] at O);clear gv21 ev21
 replace O:=pO O;obtain⟨v22,gv22,ev22⟩:∃ z:Int,(S.bin .sub .i64 v20 (S.Dn v20 (S.bin .sub .i64 p.a5 c.color.a4)))=z/\(jS v20 (if (jS p.a5 c.color.a4)<v20 then (jS p.a5 c.color.a4) else v20))=z:=⟨_,rfl,lS⟩
 (try rw[gv22]);(try (conv at gv22=>(lhs;cbv)));(try rw[gv22]);(try rw[ev22] at O);clear gv22 ev22
 refine hg10 _ _ ?_;cbv;refine nJ hS ?_;cbv;exact tu
end
section
variable {M:kM}(hM:M=jT)
include hM
theorem anJ {s:List iW}{U:Int}{r:Int}(O:jF s (λa0=>zI a0 U)=some r):iI 114 [.sl 19 (M.m iW (ja M) s) false,.fn 115 [.pp [sI U]]] (λu=>u=sI r):=by
 refine jB jm func114 call114 ?_;intro S R hS hR;have q:=sf hM hS;unfold jF at O;cbv;refine kE hS jm wf [] [0,1,7,8] (λT=>f3 19 [(0,.sl 19 (M.m iW (ja M) s) false),(1,.fn 115 [.pp [sI U]]),(7,sI (S.len (M.m iW (ja M) s))),(8,sI T)] []) O ?_;intro I k2 T J O e he;subst he;unfold kG at O;cbv;refine jc ?_ ?_
 intro O;cbv;refine kV ?_;intro C O;cbv;refine jK hS O (λ_=>c115 hM) ?_;intro g O;cbv;refine jA hS O rfl ?_ ?_
 exact jr
 exact jv
 exact jr
end
end Go.Proofs.YtlacmdnhabblcaaGreat
