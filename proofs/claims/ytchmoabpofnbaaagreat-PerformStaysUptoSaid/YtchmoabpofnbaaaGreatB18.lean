import Derived.Test.YtchmoabpofnbaaaGreatB11
import Derived.Test.YtchmoabpofnbaaaGreatB12
import Derived.Test.YtchmoabpofnbaaaGreatB13
import Derived.Test.YtchmoabpofnbaaaGreatB17
set_option linter.all false
namespace Go.Proofs.YtchmoabpofnbaaaGreat
open Go Go.Pv Proofs.Tryz
set_option maxRecDepth 100000
set_option maxHeartbeats 2000000
variable [GM]
section
variable {M:EncM}(hM:M=mapE)
include hM
theorem c231 {o:GObject}{r:GObject}(O:JD o=some r):fV 231 [.agg (eGObject M o)] (λu=>u=.agg (eGObject M r)):=by
 refine iw gW func231 call231 ?_;intro S R hS hR q;unfold JD at O;cbv;exact qO
theorem c18 {k:kV}{r:Int}(O:Es k=some r):fV 18 [.pp (Ar M k)] (λu=>u=sI r):=by
 refine iw gW func18 call18 ?_;intro S R hS hR q;unfold Es at O;cbv;exact qO
theorem c357  {r:List ByteArray}(O:vT =some r):fV 357 [] (λu=>u=.sl 1 (M.m ByteArray eS r) false):=by
 refine iw gW func357 call357 ?_;intro S R hS hR q;unfold vT at O;cbv;exact qO
theorem ako  {r:List ByteArray}(O:uO =some r):fV 358 [] (λu=>u=.sl 1 (M.m ByteArray eS r) false):=by
 refine iw gW func358 call358 ?_;intro S R hS hR q;unfold uO at O;cbv;exact qO
theorem c389  {r:List ByteArray}(O:wY =some r):fV 389 [] (λu=>u=.sl 1 (M.m ByteArray eS r) false):=by
 refine iw gW func389 call389 ?_;intro S R hS hR q;unfold wY at O;cbv;exact qO
theorem c391  {r:List ByteArray}(O:wZ =some r):fV 391 [] (λu=>u=.sl 1 (M.m ByteArray eS r) false):=by
 refine iw gW func391 call391 ?_;intro S R hS hR q;unfold wZ at O;cbv;exact qO
theorem c390  {r:List ByteArray}(O:yT =some r):fV 390 [] (λu=>u=.sl 1 (M.m ByteArray eS r) false):=by
 refine iw gW func390 call390 ?_;intro S R hS hR q;unfold yT at O;cbv;exact qO
theorem c392  {r:List ByteArray}(O:yU =some r):fV 392 [] (λu=>u=.sl 1 (M.m ByteArray eS r) false):=by
 refine iw gW func392 call392 ?_;intro S R hS hR q;unfold yU at O;cbv;exact qO
theorem c452  {r:List ByteArray}(O:Gy =some r):fV 452 [] (λu=>u=.sl 1 (M.m ByteArray eS r) false):=by
 refine iw gW func452 call452 ?_;intro S R hS hR q;unfold Gy at O;cbv;exact qO
theorem c453  {r:List ByteArray}(O:GH =some r):fV 453 [] (λu=>u=.sl 1 (M.m ByteArray eS r) false):=by
 refine iw gW func453 call453 ?_;intro S R hS hR q;unfold GH at O;cbv;exact qO
theorem c194 {c:GCard}{r:Bool}(O:zf c=some r):fV 194 [.agg (eGCard M c)] (λu=>u=.sb r):=by
 refine iw gW func194 call194 ?_;intro S R hS hR q;unfold zf at O;cbv;exact qO
theorem akp {x:Int}{r:Bool}(O:cmp_isNaN_int x=some r):fV 278 [sI x] (λu=>u=.sb r):=by
 refine iw gW func278 call278 ?_;intro S R hS hR q;unfold cmp_isNaN_int at O;cbv;exact qO
theorem Ua {n:Int}{r:Int}(O:oq n=some r):fV 140 [sI n] (λu=>u=sI r):=by
 refine iw gW func140 call140 ?_;intro S R hS hR q;unfold oq at O;cbv;exact qO
theorem c501 {s:ByteArray}{substr:ByteArray}{r:Bool}(O:strings_Contains s substr=some r):fV 501 [.str s,.str substr] (λu=>u=.sb r):=ad2 O
theorem c14  {r:Bool}(O:J5=some r):fV 14 [] (λu=>u=.sb r):=by
 cases O;exact agB
end
variable [GM]
section
variable {M:EncM}(hM:M=mapE)
include hM
theorem c404 {l:List Int}{needs:List (List Bool)}{r:(List Int)×(List (List Bool))}(O:zy l needs=some r):fV 404 [.sl 1 (mI M l) false,.sl 1 (M.m (List Bool) (eL M 1 eB) needs) false] (λu=>u=.fn 455 [.pp [.sl 1 (mI M r.1) false],.pp [.sl 1 (M.m (List Bool) (eL M 1 eB) r.2) false]]):=by
 refine iw (PM [44,49] 2) func404 call404 ?_;intro S R hS hR q;have q1:=ajN hM hS;have q2:=ajO hM hS;unfold zy at O;cbv;refine N7 hS O aj aj ?_;intro j1 O;cbv;refine abp hS (PM [44,49] 2) wf [] [1,2,5,6,17,18] (λs2 (g4:(Nat->Hdr))=>f3 86 [(1,.sl 1 (M.m (List Bool) (eL M 1 eB) needs) false),(2,.lv 0 0),(5,sI (S.len (mI M l))),(6,.lv 1 0),(17,sI (S.FK j1)),(18,sI s2.1)] [vR [.sl 1 (mI M l) false],vR [.os 2 0 (S.lenN (M.h g4 (List Bool) (eO M 1 eB) s2.2))],some (.kH 1 (M.h g4 (List Bool) (eO M 1 eB) s2.2))]) ((λ_=>hd0)) O aI ?_;intro Ik3 k3 s2 g4 hk3 O e he;subst he;unfold xK at O;cbv;replace O:=uZ O;refine d_br hS O aj ?_ ?_
 intro O;cbv;refine zU hS ?_;cbv;refine N7 hS O aj aj ?_;intro j6 O;cbv;refine d_wk hS (e:=eB) O aU ?_;intro x7 O;cbv;refine rD hS O aj rfl ?_;intro j8 _ O;cbv;refine ZU hS aP ?_;cbv;refine Ce hS hM O rfl aj ?_;intro x10 O;cbv;refine ajE hS ?_;intro h9;cbv;refine JA hS (PM [44,49] 2) wf [] [1,2,5,6,7,17,18,26,27] (λs11=>f3 86 [(1,.sl 1 (M.m (List Bool) (eL M 1 eB) needs) false),(2,.lv 0 0),(5,sI (S.len (mI M l))),(6,.lv 1 0),(7,sI s2.1),(17,sI (S.FK j1)),(18,sI s2.1),(26,sI (S.len (mI M l))),(27,sI s11.1)] [vR [.sl 1 (mI M l) false],vR [.os 2 0 (S.lenN (M.h (M.up g4 j8 h9) (List Bool) (eO M 1 eB) s11.2))],some (.kH 1 (M.h (M.up g4 j8 h9) (List Bool) (eO M 1 eB) s11.2))]) O aI ?_;intro Ik12 k12 s11 hk12 O e he;subst he;unfold xG at O;cbv;refine d_br hS O aj ?_ ?_
 intro O;cbv;refine zU hS ?_;cbv;refine rD hS O aj rfl ?_;intro j14 _ O;cbv;refine Ce hS hM O rfl aj ?_;intro x15 O;cbv;refine lH ?_;intro x16 O;cbv;refine lH ?_;intro x17 O;cbv;refine Ac hS O (λ_=>aj3 hM) ?_;intro y18 O;cbv;refine rD hS O aj rfl ?_;intro j19 _ O;cbv;refine ZU hS aP ?_;cbv;refine Ce hS hM O rfl aj ?_;intro x20 O;cbv;refine yO hS rfl ?_;cbv;refine mW hS hM O rfl rfl ?_;intro x21 O;cbv;exact⟨_,O,by rw[hk12]<;>(conv=>lhs;cbv)<;>(try simp only[q1])<;>(try simp only[q2,eO,q])<;>(try rfl)<;>(try simp only[eL,q])<;>(try rfl)⟩
 intro O;cbv;exact⟨_,((M.up g4 j8 h9)),O,by rw[hk3]<;>(conv=>lhs;cbv)<;>(try simp only[q1])<;>(try simp only[q2,eO,q])<;>(try rfl)<;>(try simp only[eL,q])<;>(try rfl)⟩
 intro O;cbv;refine JA hS (PM [44,49] 2) wf [] [2,5,6,48,49] (λs22=>f3 86 [(2,.lv 0 0),(5,sI (S.len (mI M l))),(6,.lv 1 0),(48,sI (S.len (mI M l))),(49,sI s22.1)] [vR [.sl 1 (mI M l) false],vR [.os 2 0 (S.lenN (M.h g4 (List Bool) (eO M 1 eB) s22.2))],some (.kH 1 (M.h g4 (List Bool) (eO M 1 eB) s22.2))]) O aI ?_;intro Ik23 k23 s22 hk23 O e he;subst he;unfold xJ at O;cbv;refine d_br hS O aj ?_ ?_
 intro O;cbv;refine JA hS (PM [44,49] 2) wf [] [2,5,6,9,48,49,52,53] (λs25=>f3 86 [(2,.lv 0 0),(5,sI (S.len (mI M l))),(6,.lv 1 0),(9,sI s22.1),(48,sI (S.len (mI M l))),(49,sI s22.1),(52,sI (S.len (mI M l))),(53,sI s25.1)] [vR [.sl 1 (mI M l) false],vR [.os 2 0 (S.lenN (M.h g4 (List Bool) (eO M 1 eB) s25.2))],some (.kH 1 (M.h g4 (List Bool) (eO M 1 eB) s25.2))]) O aI ?_;intro Ik26 k26 s25 hk26 O e he;subst he;unfold xI at O;cbv;refine d_br hS O aj ?_ ?_
 intro O;cbv;refine JA hS (PM [44,49] 2) wf [] [2,5,6,9,10,48,49,52,53,56,57] (λs28=>f3 86 [(2,.lv 0 0),(5,sI (S.len (mI M l))),(6,.lv 1 0),(9,sI s22.1),(10,sI s25.1),(48,sI (S.len (mI M l))),(49,sI s22.1),(52,sI (S.len (mI M l))),(53,sI s25.1),(56,sI (S.len (mI M l))),(57,sI s28.1)] [vR [.sl 1 (mI M l) false],vR [.os 2 0 (S.lenN (M.h g4 (List Bool) (eO M 1 eB) s28.2))],some (.kH 1 (M.h g4 (List Bool) (eO M 1 eB) s28.2))]) O aI ?_;intro Ik29 k29 s28 hk29 O e he;subst he;unfold xH at O;cbv;refine d_br hS O aj ?_ ?_
 intro O;cbv;refine jJ [] [2,5,6,9,10,48,49,52,53,56,57] (λs31=>f4 86 [.lv 0 0,sI (S.len (mI M l)),.lv 1 0,sI s22.1,sI s25.1,sI (S.len (mI M l)),sI s22.1,sI (S.len (mI M l)),sI s25.1,sI (S.len (mI M l)),sI s28.1] [vR [.sl 1 (mI M l) false],vR [.os 2 0 (S.lenN (M.h g4 (List Bool) (eO M 1 eB) s31))],some (.kH 1 (M.h g4 (List Bool) (eO M 1 eB) s31))]) O ?_ ?_
 intro Ik32 k32 hk32 O;cbv;refine jJ [] [2,5,6,9,10,11,48,49,52,53,56,57,75] (λs34=>f4 86 [.lv 0 0,sI (S.len (mI M l)),.lv 1 0,sI s22.1,sI s25.1,sI s28.1,sI (S.len (mI M l)),sI s22.1,sI (S.len (mI M l)),sI s25.1,sI (S.len (mI M l)),sI s28.1,.sb s34] [vR [.sl 1 (mI M l) false],vR [.os 2 0 (S.lenN (M.h g4 (List Bool) (eO M 1 eB) s28.2))],some (.kH 1 (M.h g4 (List Bool) (eO M 1 eB) s28.2))]) O ?_ ?_
 intro Ik35 k35 hk35 O;cbv;refine rD hS O aj rfl ?_;intro j37 _ O;cbv;refine Ce hS hM O rfl aj ?_;intro x38 O;cbv;refine rD hS O aj rfl ?_;intro j39 _ O;cbv;refine Ce hS hM O rfl aj ?_;intro x40 O;cbv;refine yO hS rfl ?_;cbv;refine mW hS hM O rfl rfl ?_;intro x41 O;cbv;refine iq ?_ ?_
 intro O;cbv;refine rD hS O aj rfl ?_;intro j42 _ O;cbv;refine Ce hS hM O rfl aj ?_;intro x43 O;cbv;refine rD hS O aj rfl ?_;intro j44 _ O;cbv;refine Ce hS hM O rfl aj ?_;intro x45 O;cbv;refine yO hS rfl ?_;cbv;refine mW hS hM O rfl rfl ?_;intro x46 O;cbv;exact⟨_,O,by rw[hk35]<;>(conv=>lhs;cbv)<;>(try simp only[q1])<;>(try simp only[q2,eO,q])<;>(try rfl)<;>(try simp only[eL,q])<;>(try rfl)⟩
 intro O;cbv;exact⟨_,O,by rw[hk35]<;>(conv=>lhs;cbv)<;>(try simp only[q1])<;>(try simp only[q2,eO,q])<;>(try rfl)<;>(try simp only[eL,q])<;>(try rfl)⟩
 intro s34 O;cbv;refine iq ?_ ?_
 intro O;cbv;refine rD hS O aj rfl ?_;intro j47 _ O;cbv;refine Ce hS hM O rfl aj ?_;intro x48 O;cbv;refine rD hS O aj rfl ?_;intro j49 _ O;cbv;refine d_wk hS (e:=eB) O aU ?_;intro x50 O;cbv;refine Ce hS hM O rfl aj ?_;intro x51 O;cbv;refine yO hS rfl ?_;cbv;refine mW hS hM O rfl rfl ?_;intro x52 O;cbv;exact⟨_,O,by rw[hk32]<;>(conv=>lhs;cbv)<;>(try simp only[q1])<;>(try simp only[q2,eO,q])<;>(try rfl)<;>(try simp only[eL,q])<;>(try rfl)⟩
 intro O;cbv;exact⟨_,O,by rw[hk32]<;>(conv=>lhs;cbv)<;>(try simp only[q1])<;>(try simp only[q2,eO,q])<;>(try rfl)<;>(try simp only[eL,q])<;>(try rfl)⟩
 intro s31 O;cbv;exact⟨_,O,by rw[hk29]<;>(conv=>lhs;cbv)<;>(try simp only[q1])<;>(try simp only[q2,eO,q])<;>(try rfl)<;>(try simp only[eL,q])<;>(try rfl)⟩
 intro O;cbv;exact⟨_,O,by rw[hk26]<;>(conv=>lhs;cbv)<;>(try simp only[q1])<;>(try simp only[q2,eO,q])<;>(try rfl)<;>(try simp only[eL,q])<;>(try rfl)⟩
 intro O;cbv;exact⟨_,O,by rw[hk23]<;>(conv=>lhs;cbv)<;>(try simp only[q1])<;>(try simp only[q2,eO,q])<;>(try rfl)<;>(try simp only[eL,q])<;>(try rfl)⟩
 intro O;cbv;cases O;exact hR _ (Yi aj)
end
end Go.Proofs.YtchmoabpofnbaaaGreat
