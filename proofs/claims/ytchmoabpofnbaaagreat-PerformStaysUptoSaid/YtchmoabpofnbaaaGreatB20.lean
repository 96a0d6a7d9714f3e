import Derived.Test.YtchmoabpofnbaaaGreatB18
set_option linter.all false
namespace Go.Proofs.YtchmoabpofnbaaaGreat
open Go Go.Pv Proofs.Tryz
set_option maxRecDepth 100000
set_option maxHeartbeats 2000000
variable [GM]
section
variable {M:EncM}(hM:M=mapE)
include hM
theorem c113 {l:List GCard}{c:GCard}{r:Bool}(O:BJ l c=some r):fV 113 [jR M l,.agg (eGCard M c)] (λu=>u=.sb r):=by
 refine iw (gY [16]) func113 call113 ?_;intro S R hS hR q;unfold BJ at O;cbv;refine wB (gY [16]) [] [0,3,5] (λs1=>f4 45 [jR M l,.lv 0 0,sI s1] [vR (eGCard M c)]) O ?_;intro Ik2 k2 s1 hk2 O e he;subst he;unfold zh at O;cbv;refine gu ?_ ?_
 intro O;cbv;refine wB (gY [16]) [] [0,3,5,6] (λs4=>f4 45 [jR M l,.lv 0 0,sI s1,sI s4] [vR (eGCard M c)]) O ?_;intro Ik5 k5 s4 hk5 O e he;subst he;unfold zg at O;cbv;refine lH ?_;intro x7 O;cbv;refine gu ?_ ?_
 intro O;cbv;refine lH ?_;intro x8 O;cbv;refine lH ?_;intro x9 O;cbv;refine jJ [] [0,3,5,6,44] (λs10=>f4 45 [jR M l,.lv 0 0,sI s1,sI s4,.sb s10] [vR (eGCard M c)]) O ?_ ?_
 intro Ik11 k11 hk11 O;cbv;refine gu ?_ ?_
 intro O;cbv;refine iH (c196 hM) ?_;exact jP
 exact iC
 intro s10 O;cbv;refine iq ?_ ?_
 exact gQ
 exact iC
 exact iC
 exact gQ
theorem c234 {s:GState}{iI:Int}{iY:Int}{r:List Int}(O:JF s iI iY=some r):fV 234 [.agg (eGState M s),sI iI,sI iY] (λu=>u=.sl 1 (mI M r) false):=by
 refine iw (gY [12]) func234 call234 ?_;intro S R hS hR q;unfold JF at O;cbv;refine gu ?_ ?_
 intro O;cbv;refine iH (c156 hM) ?_;exact ja
 intro O;cbv;refine gu ?_ ?_
 intro O;cbv;refine iH (c156 hM) ?_;exact ja
 intro O;cbv;refine jJ [] [1,2,3,26] (λs3=>f4 55 [sI iI,sI iY,.lv 0 0,.sb s3] [vR (eGState M s)]) O ?_ ?_
 intro Ik4 k4 hk4 O;cbv;refine gu ?_ ?_<;>exact iC
 intro s3 O;cbv;refine iq ?_ ?_
 intro O;cbv;cases O;exact hR _ bK
 intro O;cbv;refine gu ?_ ?_
 intro O;cbv;refine lH ?_;intro x6 O;cbv;refine iH (c156 hM) ?_;exact ja
 intro O;cbv;refine gu ?_ ?_
 intro O;cbv;refine lH ?_;intro x8 O;cbv;refine iH (c156 hM) ?_;exact ja
 intro O;cbv;refine gu ?_ ?_
 intro O;cbv;refine lH ?_;intro x10 O;cbv;refine iH (c156 hM) ?_;exact ja
 intro O;cbv;cases O;exact hR _ bK
theorem c385 {l:List ByteArray}{mask:Int}{pby:ByteArray}{r:ByteArray}(O:Ee l mask pby=some r):fV 385 [.sl 1 (M.m ByteArray eS l) false,sI mask,.str pby] (λu=>u=.str r):=by
 refine iw (gY [9,17]) func385 call385 ?_;intro S R hS hR q;unfold Ee at O;cbv;refine wB (gY [9,17]) [] [0,1,2,7,8] (λs1=>f4 30 [.sl 1 (M.m ByteArray eS l) false,sI mask,.str pby,.str s1.1,sI s1.2] []) O ?_;intro Ik2 k2 s1 hk2 O e he;subst he;unfold Bg at O;cbv;refine gu ?_ ?_
 intro O;cbv;refine jJ [] [0,1,2,7,8] (λs4=>f4 30 [.sl 1 (M.m ByteArray eS l) false,sI mask,.str pby,.str s4,sI s1.2] []) O ?_ ?_
 intro Ik5 k5 hk5 O;cbv;refine iH (ah4 hM) ?_;intro y7 O;cbv;refine iq ?_ ?_
 intro O;cbv;refine jJ [] [0,1,2,7,8] (λs8=>f4 30 [.sl 1 (M.m ByteArray eS l) false,sI mask,.str pby,.str s8,sI s1.2] []) O ?_ ?_
 intro Ik9 k9 hk9 O;cbv;refine gu ?_ ?_
 intro O;cbv;refine nS hS O rfl rfl ?_;exact jP
 exact iC
 intro s8 O;cbv;refine lH ?_;intro x12 O;cbv;refine nS hS O rfl rfl ?_;exact jP
 exact iC
 intro s4 O;cbv;exact nM
 exact gQ
theorem o15 {answers:List (List Int)}{r:kV}(O:Ob answers=some r):Pv.FnS Tryz.prog glF 15 [.sl 1 (M.m (List Int) (eL M 1 (eI .i64)) answers) false] [] 0 (λuu ss nn=>uu=.lv 0 0/\ss=[(0,(vR [.os 1 0 (M.n (List Int) r.answers),sI r.used,sI r.pending.kind,sI r.pending.iY,sI r.pending.source,sI r.pending.least,sI r.pending.most,sI r.pending.n,mQ M r.pending.options,.sb r.waits,.sb r.bad])),(1,(aR 1 (M.m (List Int) (eL M 1 (eI .i64)) r.answers)))]/\nn=2):=by
 refine fnS_dec (T:=(tabx 0 [] [])) (tabxOK 0 [] []) wf func15 rfl call15 rfl ?_;intro S R hS hR;have q:=sf hM hS;unfold Ob at O;cbv;refine wB (tabxOK 0 [] []) [.cO 0 0 1] [3,8,9,10] (λs1=>f4 27 [.lv 0 0,.sl 1 (M.m (List Int) (eL M 1 (eI .i64)) answers) false,sI (S.len (M.m (List Int) (eL M 1 (eI .i64)) answers)),sI s1.1] [vR [.os 1 0 (S.lenN (M.m (List Int) (eL M 1 (eI .i64)) s1.2)),sI 0,sI 0,sI 0,sI 0,sI 0,sI 0,sI 0,.sl 0 [] true,.sb false,.sb false],aR 1 (M.m (List Int) (eL M 1 (eI .i64)) s1.2)]) O ?_;intro Ik2 k2 s1 hk2 O e he;subst he;unfold IK at O;cbv;refine gu ?_ ?_
 intro O;cbv;refine lH ?_;intro x4 O;cbv;refine zU hS ?_;cbv;refine Ac hS O (λ_=>c48 hM) ?_;intro y5 O;cbv;refine d_room hS O d_e ?_;exact iC
 intro O;cbv;cases O;exact hR _ _ _ d_st d_st rfl
theorem c117 {a:oP}{b:oP}{r:Bool}(O:vZ a b=some r):fV 117 [.agg (uy M a),.agg (uy M b)] (λu=>u=.sb r):=by
 refine iw (gY [2]) func117 call117 ?_;intro S R hS hR q;unfold vZ at O;cbv;refine jJ [] [2,3,44] (λs1=>f4 64 [.lv 0 0,.lv 1 0,.sb s1] [vR (uy M a),vR (uy M b)]) O ?_ ?_
 intro Ik2 k2 hk2 O;cbv;refine gu ?_ ?_
 exact iC
 intro O;cbv;refine gu ?_ ?_
 exact iC
 intro O;cbv;refine gu ?_ ?_
 exact iC
 intro O;cbv;replace O:=uZ O;refine gu ?_ ?_
 exact iC
 intro O;cbv;refine gu ?_ ?_<;>exact iC
 intro s1 O;cbv;refine iq ?_ ?_
 exact gQ
 intro O;cbv;refine iH (c52 hM) ?_;intro y5 O;cbv;refine iq ?_ ?_
 intro O;cbv;refine iH (c52 hM) ?_;intro y6 O;cbv;refine iq ?_ ?_
 intro O;cbv;refine iH (c52 hM) ?_;exact ja
 exact gQ
 exact gQ
theorem c375 {a:iT}{b:iT}{r:Bool}(O:Ei a b=some r):fV 375 [.agg (ni M a),.agg (ni M b)] (λu=>u=.sb r):=by
 refine iw gW func375 call375 ?_;intro S R hS hR q;unfold Ei at O;cbv;refine gu ?_ ?_
 intro O;cbv;replace O:=uZ O;refine gu ?_ ?_
 intro O;cbv;replace O:=uZ O;refine gu ?_ ?_
 intro O;cbv;refine gu ?_ ?_
 intro O;cbv;refine gu ?_ ?_
 intro O;cbv;refine gu ?_ ?_
 intro O;cbv;replace O:=uZ O;refine gu ?_ ?_
 intro O;cbv;replace O:=uZ O;refine gu ?_ ?_
 intro O;cbv;refine iH (aj2 hM) ?_;exact ja
 exact gQ
 exact gQ
 exact gQ
 exact gQ
 exact gQ
 exact gQ
 exact gQ
 exact gQ
theorem aiv {s:List GObject}{U:Int}{r:Int}(O:kz s (λa0=>zo a0 U)=some r):fV 175 [kP M s,.fn 431 [.pp [sI U]]] (λu=>u=sI r):=by
 refine iw gW func175 call175 ?_;intro S R hS hR q;unfold kz at O;cbv;refine d_lp hS gW wf [] [0,1,7,8] (λT=>f3 19 [(0,kP M s),(1,.fn 431 [.pp [sI U]]),(7,sI (S.len (lK M s))),(8,sI T)] []) O ?_;intro J k2 T I O e he;subst he;unfold qC at O;cbv;refine gu ?_ ?_
 intro O;cbv;refine lH ?_;intro C O;cbv;refine iH (c431 hM) ?_;intro g O;cbv;refine iq ?_ ?_
 exact gQ
 exact iC
 exact gQ
theorem aiw {s:List GObject}{U:Int}{r:Int}(O:kz s (λa0=>Dh a0 U)=some r):fV 175 [kP M s,.fn 221 [.pp [sI U]]] (λu=>u=sI r):=by
 refine iw gW func175 call175 ?_;intro S R hS hR q;unfold kz at O;cbv;refine d_lp hS gW wf [] [0,1,7,8] (λT=>f3 19 [(0,kP M s),(1,.fn 221 [.pp [sI U]]),(7,sI (S.len (lK M s))),(8,sI T)] []) O ?_;intro J k2 T I O e he;subst he;unfold qC at O;cbv;refine gu ?_ ?_
 intro O;cbv;refine lH ?_;intro C O;cbv;refine iH (c221 hM) ?_;intro g O;cbv;refine iq ?_ ?_
 exact gQ
 exact iC
 exact gQ
theorem c210 {cards:List GCard}{s:GState}{pe:GEvent}{r:Bool}(O:Bh cards s pe=some r):fV 210 [jR M cards,.agg (eGState M s),.agg (eGEvent M pe)] (λu=>u=.sb r):=by
 refine iw gW func210 call210 ?_;intro S R hS hR q;unfold Bh at O;cbv;refine iH (TD hM) ?_;intro y1 O;cbv;refine iq ?_ ?_
 intro O;cbv;refine gu ?_ ?_
 intro O;cbv;refine gu ?_ ?_
 intro O;cbv;refine lH ?_;intro x2 O;cbv;refine iq ?_ ?_
 intro O;cbv;refine iH (c208 hM) ?_;exact ja
 exact gQ
 exact gQ
 exact gQ
 exact gQ
theorem c120 {a:uX}{b:uX}{r:Bool}(O:zI a b=some r):fV 120 [.agg (Ea M a),.agg (Ea M b)] (λu=>u=.sb r):=by
 refine iw gW func120 call120 ?_;intro S R hS hR q;unfold zI at O;cbv;refine gu ?_ ?_
 intro O;cbv;refine gu ?_ ?_
 intro O;cbv;refine gu ?_ ?_
 intro O;cbv;refine gu ?_ ?_
 intro O;cbv;refine iH (c52 hM) ?_;intro y1 O;cbv;refine iq ?_ ?_
 intro O;cbv;refine iH (c215 hM) ?_;exact ja
 exact gQ
 exact gQ
 exact gQ
 exact gQ
 exact gQ
theorem aix {s:List ByteArray}{U:ByteArray}{r:Int}(O:mM s (λa0=>Bl a0 U)=some r):fV 468 [.sl 1 (M.m ByteArray eS s) false,.fn 469 [.pp [.str U]]] (λu=>u=sI r):=by
 refine iw gW func468 call468 ?_;intro S R hS hR q;unfold mM at O;cbv;refine d_lp hS gW wf [] [0,1,7,8] (λT=>f3 19 [(0,.sl 1 (M.m ByteArray eS s) false),(1,.fn 469 [.pp [.str U]]),(7,sI (S.len (M.m ByteArray eS s))),(8,sI T)] []) O ?_;intro J k2 T I O e he;subst he;unfold nC at O;cbv;refine gu ?_ ?_
 intro O;cbv;refine lH ?_;intro C O;cbv;refine iH (c469 hM) ?_;intro g O;cbv;refine iq ?_ ?_
 exact gQ
 exact iC
 exact gQ
theorem aiy {s:List Int}{U:Int}{r:Int}(O:kE s (λa0=>pR a0 U)=some r):fV 226 [.sl 1 (mI M s) false,.fn 250 [.pp [sI U]]] (λu=>u=sI r):=by
 refine iw gW func226 call226 ?_;intro S R hS hR q;unfold kE at O;cbv;refine d_lp hS gW wf [] [0,1,7,8] (λT=>f3 19 [(0,.sl 1 (mI M s) false),(1,.fn 250 [.pp [sI U]]),(7,sI (S.len (mI M s))),(8,sI T)] []) O ?_;intro J k2 T I O e he;subst he;unfold mG at O;cbv;refine gu ?_ ?_
 intro O;cbv;refine lH ?_;intro C O;cbv;refine iH (akf hM) ?_;intro g O;cbv;refine iq ?_ ?_
 exact gQ
 exact iC
 exact gQ
theorem c184 {x:Int}{y:Int}{r:Int}(O:cmp_Compare_int x y=some r):fV 184 [sI x,sI y] (λu=>u=sI r):=by
 refine iw gW func184 call184 ?_;intro S R hS hR q;unfold cmp_Compare_int at O;cbv;refine iH (akp hM) ?_;intro y1 O;cbv;refine iH (akp hM) ?_;intro y2 O;cbv;refine iq ?_ ?_
 intro O;cbv;refine iq ?_ ?_<;>exact gQ
 intro O;cbv;refine iq ?_ ?_
 exact gQ
 intro O;cbv;refine gu ?_ ?_
 exact gQ
 intro O;cbv;refine gu ?_ ?_<;>exact gQ
theorem c455 {i:Int}{j:Int}{c2:List Int}{c3:List (List Bool)}{r:Bool}(O:oL i j c2 c3=some r):fV 455 [sI i,sI j,.pp [.sl 1 (mI M c2) false],.pp [.sl 1 (M.m (List Bool) (eL M 1 eB) c3) false]] (λu=>u=.sb r):=by
 refine iw gW func455 call455 ?_;intro S R hS hR q;unfold oL at O;cbv;refine zU hS ?_;cbv;refine Ac hS O (λ_=>ah2 hM) ?_;intro y1 O;cbv;refine Ac hS O (λ_=>ah2 hM) ?_;intro y2 O;cbv;refine gu ?_ ?_
 intro O;cbv;refine gu ?_ ?_
 intro O;cbv;refine lH ?_;intro x3 O;cbv;refine lH ?_;exact ja
 exact gQ
 exact gQ
end
variable [GM]
section
variable {M:EncM}(hM:M=mapE)
include hM
theorem aiz {s:ByteArray}{n:Int}{r:Int}(O:BL s n qE=some r):fV 489 [.str s,sI n,.fn 490 []] (λu=>u=sI r):=by
 refine iw gW func489 call489 ?_;intro S R hS hR q;unfold BL at O;cbv;refine d_lp hS gW wf [] [0,2,8,9] (λU=>f3 20 [(0,.str s),(2,.fn 490 []),(8,sI n),(9,sI U)] []) O ?_;intro T k2 U J O e he;subst he;unfold Fh at O;cbv;refine gu ?_ ?_
 intro O;cbv;refine iH (c490 hM) ?_;intro y4 O;cbv;refine gu ?_ ?_
 exact iC
 intro O;cbv;refine Yj hS O rfl rfl ?_;exact ja
 exact gQ
theorem aiA {s:ByteArray}{n:Int}{r:Int}(O:BL s n rJ=some r):fV 489 [.str s,sI n,.fn 491 []] (λu=>u=sI r):=by
 refine iw gW func489 call489 ?_;intro S R hS hR q;unfold BL at O;cbv;refine d_lp hS gW wf [] [0,2,8,9] (λU=>f3 20 [(0,.str s),(2,.fn 491 []),(8,sI n),(9,sI U)] []) O ?_;intro T k2 U J O e he;subst he;unfold Fh at O;cbv;refine gu ?_ ?_
 intro O;cbv;refine iH (c491 hM) ?_;intro y4 O;cbv;refine gu ?_ ?_
 exact iC
 intro O;cbv;refine Yj hS O rfl rfl ?_;exact ja
 exact gQ
theorem YV {op:Int}{field:Int}{r:Bool}(O:uD op field=some r):fV 378 [sI op,.si .u8 field] (λu=>u=.sb r):=by
 refine iw gW func378 call378 ?_;intro S R hS hR q;unfold uD at O;cbv;refine iH (c448 hM) ?_;intro J O;cbv;refine d_lp hS gW wf [] [1,5,6] (λU=>f3 20 [(1,.si .u8 field),(5,.str J),(6,sI U)] []) O ?_;intro T k3 U I O e he;subst he;unfold JQ at O;cbv;refine gu ?_ ?_
 intro O;cbv;refine Gq hS O rfl rfl ?_;intro C O;cbv;refine gu ?_ ?_
 exact gQ
 exact iC
 exact gQ
theorem aiB {b:qx}{r:Bool}(O:qF b=some r):fV 486 [.agg (C9 M b)] (λu=>u=.sb r):=by
 refine iw gW func486 call486 ?_;intro S R hS hR q;unfold qF at O;cbv;refine iH (TF hM) ?_;intro U O;cbv;refine iq ?_ ?_
 intro O;cbv;refine iH (TF hM) ?_;intro T O;cbv;refine iq ?_ ?_
 intro O;cbv;refine gu ?_ ?_<;>exact gQ
 exact gQ
 exact gQ
theorem c334 {a:jm}{b:jm}{r:Bool}(O:pW a b=some r):fV 334 [.agg (mF M a),.agg (mF M b)] (λu=>u=.sb r):=by
 refine iw gW func334 call334 ?_;intro S R hS hR q;unfold pW at O;cbv;refine gu ?_ ?_
 exact gQ
 intro O;cbv;refine iH (aj1 hM) ?_;intro y1 O;cbv;refine gu ?_ ?_
 exact gQ
 intro O;cbv;refine iH (aj1 hM) ?_;exact ja
theorem c236 {p:Ip}{r:Bool}(O:GI p=some r):fV 236 [.agg (Q9 M p)] (λu=>u=.sb r):=by
 refine iw gW func236 call236 ?_;intro S R hS hR q;unfold GI at O;cbv;refine iH (ahX hM) ?_;intro y1 O;cbv;refine iq ?_ ?_
 intro O;cbv;refine gu ?_ ?_
 intro O;cbv;refine gu ?_ ?_<;>exact gQ
 exact gQ
 exact gQ
theorem akr {b:qx}{n:Int}{c2:Bool}{r:Bool}(O:sK b n c2=some r):fV 458 [.agg (C9 M b),sI n,.pp [.sb c2]] (λu=>u=.sb r):=by
 refine iw gW func458 call458 ?_;intro S R hS hR q;unfold sK at O;cbv;refine gu ?_ ?_
 exact gQ
 intro O;cbv;refine iq ?_ ?_
 intro O;cbv;refine iH (aka hM) ?_;exact ja
 exact gQ
theorem c312 {when:Int}{r:Bool}(O:xg when=some r):fV 312 [sI when] (λu=>u=.sb r):=by
 refine iw gW func312 call312 ?_;intro S R hS hR q;unfold xg at O;cbv;refine iH (ajZ hM) ?_;intro y1 O;cbv;refine gu ?_ ?_
 intro O;cbv;refine iH (aj9 hM) ?_;intro y2 O;cbv;refine gu ?_ ?_<;>exact gQ
 exact gQ
theorem aks {i:Int}{r:ByteArray}(O:Gz i=some r):fV 388 [sI i] (λu=>u=.str r):=by
 refine iw gW func388 call388 ?_;intro S R hS hR q;unfold Gz at O;cbv;refine gu ?_ ?_
 exact gQ
 intro O;cbv;refine gu ?_ ?_
 exact gQ
 intro O;cbv;refine iH (c452 hM) ?_;intro U O;cbv;refine lH ?_;exact ja
theorem acF {n:Int}{r:ByteArray}(O:xe n=some r):fV 324 [sI n] (λu=>u=.str r):=by
 refine iw gW func324 call324 ?_;intro S R hS hR q;unfold xe at O;cbv;refine gu ?_ ?_
 intro O;cbv;refine tC hS O (λ_=>aj6 hM) AQ ?_;intro U O;cbv;refine nS hS O rfl rfl ?_;exact ja
 intro O;cbv;refine tC hS O (λ_=>aj6 hM) AQ ?_;exact ja
theorem c38 {s:GState}{id:Int}{r:GObject×Bool}(O:uC s id=some r):fV 38 [.agg (eGState M s),sI id] (λu=>u=.FH [.agg (eGObject M r.1),.sb r.2]):=by
 refine iw gW func38 call38 ?_;intro S R hS hR q;unfold uC at O;cbv;refine iH (c107 hM) ?_;intro y1 O;cbv;refine gu ?_ ?_
 exact gQ
 intro O;cbv;refine lH ?_;exact ja
theorem c17 {k:kV}{r:KT×Bool}(O:zF k=some r):fV 17 [.pp (Ar M k)] (λu=>u=.FH [.agg (Tj M r.1),.sb r.2]):=by
 refine iw gW func17 call17 ?_;intro S R hS hR q;unfold zF at O;cbv;refine gu ?_ ?_
 exact fJ
 intro O;cbv;refine iH (c50 hM) ?_;exact ja
theorem c289 {a:Int}{b:Int}{r:Int}(O:Oh a b=some r):fV 289 [sI a,sI b] (λu=>u=sI r):=by
 refine iw gW func289 call289 ?_;intro S R hS hR q;unfold Oh at O;cbv;refine iH (Ua hM) ?_;intro y1 O;cbv;refine iH (Ua hM) ?_;intro y2 O;cbv;refine tC hS O (λ_=>Ua hM) AQ ?_;exact ja
theorem c288 {a:Int}{b:Int}{r:Int}(O:Oi a b=some r):fV 288 [sI a,sI b] (λu=>u=sI r):=by
 refine iw gW func288 call288 ?_;intro S R hS hR q;unfold Oi at O;cbv;refine iH (Ua hM) ?_;intro y1 O;cbv;refine iH (Ua hM) ?_;intro y2 O;cbv;refine tC hS O (λ_=>Ua hM) AQ ?_;exact ja
theorem c68 {a:Int}{b:Int}{r:Int}(O:Di a b=some r):fV 68 [sI a,sI b] (λu=>u=sI r):=by
 refine iw gW func68 call68 ?_;intro S R hS hR q;unfold Di at O;cbv;refine iH (Ua hM) ?_;intro y1 O;cbv;refine iH (Ua hM) ?_;intro y2 O;cbv;refine tC hS O (λ_=>Ua hM) AQ ?_;exact ja
theorem aeF {c0:GState}{c1:GEvent}{c2:Int}{c3:lu}{r:Bool}(O:ny c0 c1 c2 c3=some r):fV 433 [.pp (eGState M c0),.pp (eGEvent M c1),.pp [sI c2],.pp (oU M c3)] (λu=>u=.sb r):=by
 refine iw gW func433 call433 ?_;intro S R hS hR q;unfold ny at O;cbv;refine iH (c372 hM) ?_;exact ja
theorem c104 {s:List GOption}{v:GOption}{r:Bool}(O:tV s v=some r):fV 104 [mQ M s,.agg (eGOption M v)] (λu=>u=.sb r):=by
 refine iw gW func104 call104 ?_;intro S R hS hR q;unfold tV at O;cbv;refine iH (c186 hM) ?_;exact ja
theorem c487 {s:List ByteArray}{v:ByteArray}{r:Bool}(O:slices_Contains_string s v=some r):fV 487 [.sl 1 (M.m ByteArray eS s) false,.str v] (λu=>u=.sb r):=by
 refine iw gW func487 call487 ?_;intro S R hS hR q;unfold slices_Contains_string at O;cbv;refine iH (c500 hM) ?_;exact ja
theorem c328 {m:jv}{c1:Int}{r:Bool}(O:qQ m c1=some r):fV 328 [.agg (uz M m),.pp [sI c1]] (λu=>u=.sb r):=by
 refine iw gW func328 call328 ?_;intro S R hS hR q;unfold qQ at O;cbv;refine zU hS ?_;cbv;refine Ac hS O (λ_=>ad6 hM) ?_;exact ja
theorem c78 {s:List Int}{v:Int}{r:Bool}(O:slices_Contains_int s v=some r):fV 78 [.sl 1 (mI M s) false,sI v] (λu=>u=.sb r):=by
 refine iw gW func78 call78 ?_;intro S R hS hR q;unfold slices_Contains_int at O;cbv;refine iH (ah2 hM) ?_;exact ja
theorem c88 {s:GState}{p:Int}{r:Bool}(O:qB s p=some r):fV 88 [.agg (eGState M s),sI p] (λu=>u=.sb r):=by
 refine iw gW func88 call88 ?_;intro S R hS hR q;unfold qB at O;cbv;refine tC hS O (λ_=>c86 hM) AQ ?_;exact ja
end
end Go.Proofs.YtchmoabpofnbaaaGreat
