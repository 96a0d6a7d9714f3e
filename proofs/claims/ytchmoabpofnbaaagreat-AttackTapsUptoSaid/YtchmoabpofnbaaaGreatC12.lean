import Derived.Test.YtchmoabpofnbaaaGreatC10
set_option linter.all false
namespace Go.Proofs.YtchmoabpofnbaaaGreat
open Go Go.Pv
set_option maxRecDepth 100000
set_option maxHeartbeats 20000000
variable [GM]
attribute [local irreducible] bnd br jn oL loopF iq jS gu pO rG divO jF iO jA jm jE jY jU
variable {M:fP}[HM M]
instance c217 {a}:CC M 217 (Jb a) [.agg (jv M a)] (λr=>.agg (jv M r)):=by
 have:=lo 6 [1,2,3,4] (λS (s:Int×(List iy))=>up [(4,sI s.1)] [(2,(vR ((([sI a.kind]++(jb M a.filter++([.os 3 0 (S.fE (S.app (S.sub ([]) 0 0) (Tv M a.mods)))]++(AY M a.price++[.sb a.slow]))))++(pg M a.fZ++[.sb a.may,.os 4 0 (S.fE (S.app (S.sub ([]) 0 0) (mSpec M a.specs))),.os 5 0 (M.n iy s.2)]))++(qy M a.replace)))),(5,(aR 64 (xg M s.2)))]) [.cO 2 49 64];exact wA fG Tryz.func217 Tryz.call217
end Go.Proofs.YtchmoabpofnbaaaGreat
namespace Go.Proofs.YtchmoabpofnbaaaGreat
open Go Go.Pv Proofs.Tryz
set_option maxRecDepth 100000
set_option maxHeartbeats 20000000
variable [GM]
attribute [local irreducible] bnd br jn oL loopF iq jS gu pO rG divO jF iO jA jm jE jY jU
variable {M:fP}[HM M]
instance o219 {s}:CZ M 219 (ng s) [UH M s] [] 0 (λr=>.os 0 0 (M.n rW r)) (λr=>[(0,(aR 18 (mSpec M r)))]) 1:=by
 exact wZ (gp 0 [] [[(18,true)]]) func219 call219
instance o131 {s}:CZ M 131 (BA s) [UG M s] [] 0 (λr=>.os 0 0 (M.n oK r)) (λr=>[(0,(aR 94 (uy M r)))]) 1:=by
 exact wZ (gp 0 [] [[(94,true)]]) func131 call131
instance c314 {pr}:CC M 314 (Oz pr) [.agg (qy M pr)] (λr=>.sb r):=by
 have:=ct 2 [1,10] (λ_ s=>je [(10,.sb s)]);have:=ct 6 [1,18] (λ_ s=>je [(18,.sb s)]);exact wA (fO [2,6]) func314 call314
instance o135 {s}:CZ M 135 (BB s) [MI M s] [] 0 (λr=>.os 0 0 (M.n qc r)) (λr=>[(0,(aR 6 (Ag M r)))]) 1:=by
 exact wZ (gp 0 [] [[(6,true)]]) func135 call135
instance o400 {s}:CZ M 400 (slices_Clone_string s) [.sl 1 (M.m ByteArray eS s) false] [] 0 (λr=>.os 0 0 (M.n ByteArray r)) (λr=>[(0,(aR 1 (M.m ByteArray eS r)))]) 1:=by
 exact wZ (gp 0 [] [[(1,true)]]) func400 call400
instance c372 {s}{p}{you}{who}:CC M 372 (FP s p you who) [.agg (fV M s),sI p,sI you,sI who] (λr=>.sb r):=by
 have:=ct 2 [1,2,3,25] (λ_ s=>je [(25,.sb s)]);exact wA (fO [2]) func372 call372
instance o136 {s}:CZ M 136 (jo s) [PZ M s] [] 0 (λr=>.os 0 0 (M.n GMod r)) (λr=>[(0,(aR 20 (Tv M r)))]) 1:=by
 exact wZ (gp 0 [] [[(20,true)]]) func136 call136
instance c303 {a}{b}:CC M 303 (Bd a b) [PZ M a,PZ M b] (λr=>.sb r):=by
 have:=lo 4 [0,1,5] (λ_ s=>je [(5,sI s)]);exact wA fG func303 call303
instance c186 {s}{v}:CC M 186 (yF s v) [jI M s,.agg (rU M v)] (λr=>sI r):=by
 have:=lo 2 [0,3,7,8] (λ_ s=>je [(8,sI s)]);exact wA fG func186 call186
instance c335 {ps1}{ps2}:CC M 335 (slices_Equal_int ps1 ps2) [.sl 1 (mI M ps1) false,.sl 1 (mI M ps2) false] (λr=>.sb r):=by
 have:=lo 4 [0,1,12,13] (λ_ s=>je [(13,sI s)]);exact wA fG func335 call335
instance c112 {l}{name}:CC M 112 (Rj l name) [kH M l,.str name] (λr=>sI r):=by
 have:=lo 2 [0,1,5] (λ_ s=>je [(5,sI s)]);exact wA fG func112 call112
instance c500 {s}{v}:CC M 500 (slices_Index_string s v) [.sl 1 (M.m ByteArray eS s) false,.str v] (λr=>sI r):=by
 have:=lo 2 [0,1,7,8] (λ_ s=>je [(8,sI s)]);exact wA fG func500 call500
instance c103 {x}{c1}:CC M 103 (BN x c1) [.agg (rU M x),.pp (rU M c1)] (λr=>.sb r):=by
 exact wA fG func103 call103
instance c423 {control}{you}{w}:CC M 423 (Ro control you w) [sI control,sI you,sI w] (λr=>.sb r):=by
 exact wA fG func423 call423
instance c331 {stamps}{i}:CC M 331 (Bo stamps i) [.sl 1 (mI M stamps) false,sI i] (λr=>sI r):=by
 exact wA fG func331 call331
instance c465 {n}{least}{most}:CC M 465 (zI n least most) [sI n,sI least,sI most] (λr=>.sb r):=by
 exact wA fG func465 call465
instance c351 {stamps}{i}:CC M 351 (Gq stamps i) [.sl 1 (mI M stamps) false,sI i] (λr=>sI r):=by
 exact wA fG func351 call351
instance c431 {o}{c1}:CC M 431 (He o c1) [.agg (ja M o),.pp [sI c1]] (λr=>.sb r):=by
 exact wA fG func431 call431
instance c106 {x}{c1}:CC M 106 (BO x c1) [.agg (rU M x),.pp [sI c1]] (λr=>.sb r):=by
 exact wA fG func106 call106
instance c424 {id}{source}{w}:CC M 424 (WH id source w) [sI id,sI source,sI w] (λr=>.sb r):=by
 exact wA fG func424 call424
instance c221 {o}{c1}:CC M 221 (FH o c1) [.agg (ja M o),.pp [sI c1]] (λr=>.sb r):=by
 exact wA fG func221 call221
instance c176 {o}{c1}:CC M 176 (FT o c1) [.agg (ja M o),.pp [sI c1]] (λr=>.sb r):=by
 exact wA fG func176 call176
instance c86 {n}{least}{most}:CC M 86 (wR n least most) [sI n,sI least,sI most] (λr=>.sb r):=by
 exact wA fG func86 call86
instance c130 {s}:CC M 130 (slices_Clone_int s) [.sl 1 (mI M s) false] (λr=>.sl 1 (mI M r) false):=by
 exact wA fG func130 call130
instance c48 {l}:CC M 48 (oO l) [.sl 1 (mI M l) false] (λr=>.sl 1 (mI M r) false):=by
 exact wA fG func48 call48
instance c466 {m}:CC M 466 (NJ m) [.agg (yz M m)] (λr=>.agg (yz M r)):=by
 exact wA (fO [1017]) func466 call466
instance c250 {k}{c1}:CC M 250 (uA k c1) [sI k,.pp [sI c1]] (λr=>.sb r):=by
 exact wA fG func250 call250
instance c156 {l}:CC M 156 (Eh l) [.sl 1 (mI M l) false] (λr=>.sl 1 (mI M r) false):=by
 exact wA fG func156 call156
instance c232 {o}:CC M 232 (Oo o) [.agg (ja M o)] (λr=>.agg (ja M r)):=by
 exact wA fG func232 call232
instance c207 {s}{p}:CC M 207 (Bg s p) [.agg (fD M s),sI p] (λr=>.sb r):=by
 exact wA fG func207 call207
instance c177 {mask}{key}:CC M 177 (nz mask key) [sI mask,sI key] (λr=>.sb r):=by
 exact wA fG func177 call177
end Go.Proofs.YtchmoabpofnbaaaGreat
