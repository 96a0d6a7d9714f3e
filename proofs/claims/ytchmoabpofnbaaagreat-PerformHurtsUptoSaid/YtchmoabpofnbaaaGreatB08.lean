import Derived.Test.YtchmoabpofnbaaaGreatRows
import Derived.Test.YtchmoabpofnbaaaGreatB07
set_option linter.all false
namespace Go.Proofs.YtchmoabpofnbaaaGreat
open Go Go.Pv
abbrev i0:PV:=.int .i64 0
abbrev b0:PV:=.bool false
abbrev n0:PV:=.sl 0 [] true
abbrev f0 (n:Nat):FI:=⟨n,1,false⟩
def aad:List (Nat×TI):=[
 (3,⟨true,false,1,(some [i0]),(some [0]),.int .i64⟩),
 (31,⟨true,true,19,(some [n0,n0,n0,n0,n0,n0,n0,i0,i0,i0,b0,i0,i0,i0,i0,.int .u64 0,n0,i0,i0]),none,.struct [f0 0,f0 1,f0 2,f0 3,f0 4,f0 5,f0 6,f0 7,f0 8,f0 9,f0 10,f0 11,f0 12,f0 13,f0 14,f0 15,f0 16,f0 17,f0 18]⟩),
 (25,⟨true,false,1,(some [n0]),none,.slice 1 8 (some [i0])⟩),
 (66,⟨true,true,19,(some [i0,i0,i0,i0,i0,b0,b0,b0,b0,i0,i0,i0,i0,i0,i0,i0,b0,i0,i0]),(some [0,0,0,0,0,1,1,1,1,0,0,0,0,0,0,0,1,0,0]),.struct [f0 0,f0 1,f0 2,f0 3,f0 4,f0 5,f0 6,f0 7,f0 8,f0 9,⟨10,3,true⟩,f0 13,f0 14,f0 15,f0 16,f0 17,f0 18]⟩),
 (24,⟨true,false,1,(some [n0]),none,.slice 19 128 (some [i0,i0,i0,i0,i0,b0,b0,b0,b0,i0,i0,i0,i0,i0,i0,i0,b0,i0,i0])⟩),
 (91,⟨true,true,17,(some [.str ⟨#[]⟩,i0,i0,i0,i0,i0,i0,i0,i0,i0,i0,n0,i0,i0,i0,n0,i0]),none,.struct [f0 0,⟨1,7,true⟩,f0 8,⟨9,3,true⟩,f0 12,f0 13,f0 14,f0 15,f0 16]⟩),
 (34,⟨true,true,15,(some [i0,i0,i0,i0,i0,i0,i0,i0,i0,i0,b0,b0,i0,i0,i0]),(some [0,0,0,0,0,0,0,0,0,0,1,1,0,0,0]),.struct [f0 0,f0 1,f0 2,f0 3,f0 4,f0 5,f0 6,f0 7,f0 8,f0 9,f0 10,f0 11,⟨12,3,true⟩]⟩),
 (9,⟨true,false,1,(some [.str ⟨#[]⟩]),(some [2]),.str⟩),
 (114,⟨true,true,72,(some [i0,i0,i0,i0,i0,i0,i0,i0,.str ⟨#[]⟩,i0,i0,i0,i0,i0,i0,i0,i0,n0,i0,i0,i0,i0,i0,i0,i0,b0,b0,i0,b0,i0,i0,i0,i0,i0,i0,i0,i0,i0,.str ⟨#[]⟩,i0,i0,i0,i0,i0,i0,i0,i0,b0,n0,n0,i0,i0,i0,i0,i0,i0,i0,i0,i0,.str ⟨#[]⟩,i0,i0,i0,i0,i0,i0,i0,i0,i0,i0,i0,i0]),none,.struct [f0 0,⟨1,16,true⟩,f0 17,⟨18,10,true⟩,f0 28,⟨29,18,true⟩,f0 47,f0 48,f0 49,⟨50,22,true⟩]⟩),
 (23,⟨true,false,1,(some [n0]),none,.slice 14 152 (some [i0,i0,i0,i0,i0,i0,i0,i0,i0,b0,b0,n0,n0,n0])⟩),
 (103,⟨true,true,16,(some [i0,i0,i0,i0,i0,i0,i0,.str ⟨#[]⟩,i0,i0,i0,i0,i0,i0,i0,i0]),(some [0,0,0,0,0,0,0,2,0,0,0,0,0,0,0,0]),.struct [f0 0,f0 1,f0 2,f0 3,f0 4,f0 5,f0 6,f0 7,f0 8,f0 9,⟨10,2,true⟩,⟨12,2,true⟩,⟨14,2,true⟩]⟩),
 (215,⟨true,true,20,(some [i0,i0,i0,.str ⟨#[]⟩,i0,i0,i0,i0,i0,i0,i0,.str ⟨#[]⟩,i0,i0,i0,i0,i0,i0,i0,i0]),(some [0,0,0,2,0,0,0,0,0,0,0,2,0,0,0,0,0,0,0,0]),.struct [f0 0,f0 1,f0 2,f0 3,⟨4,16,true⟩]⟩),
 (86,⟨true,false,1,(some [n0]),none,.slice 1 16 (some [.str ⟨#[]⟩])⟩),
 (106,⟨true,false,1,(some [n0]),none,.slice 20 176 (some [i0,i0,i0,.str ⟨#[]⟩,i0,i0,i0,i0,i0,i0,i0,.str ⟨#[]⟩,i0,i0,i0,i0,i0,i0,i0,i0])⟩),
 (4,⟨true,false,1,(some [b0]),(some [1]),.oth⟩),
 (56,⟨true,true,14,(some [i0,i0,i0,i0,i0,i0,i0,i0,i0,b0,b0,n0,n0,n0]),none,.struct [f0 0,f0 1,f0 2,⟨3,6,true⟩,f0 9,f0 10,f0 11,f0 12,f0 13]⟩),
 (173,⟨true,true,24,(some [n0,n0,n0,n0,n0,n0,n0,i0,i0,i0,b0,i0,i0,i0,i0,.int .u64 0,n0,i0,i0,n0,n0,n0,n0,n0]),none,.struct [⟨0,19,true⟩,f0 19,f0 20,f0 21,f0 22,f0 23]⟩),
 (44,⟨true,false,1,(some [n0]),none,.slice 3 24 (some [i0,i0,i0])⟩),
 (72,⟨true,false,1,(some [n0]),none,.slice 17 176 (some [.str ⟨#[]⟩,i0,i0,i0,i0,i0,i0,i0,i0,i0,i0,n0,i0,i0,i0,n0,i0])⟩),
 (26,⟨true,false,1,(some [n0]),none,.slice 94 824 (some [i0,i0,i0,i0,i0,b0,i0,i0,i0,i0,i0,i0,i0,i0,.str ⟨#[]⟩,i0,i0,i0,i0,i0,i0,i0,i0,n0,i0,i0,i0,i0,i0,i0,i0,b0,b0,i0,b0,i0,i0,i0,i0,i0,i0,i0,i0,i0,.str ⟨#[]⟩,i0,i0,i0,i0,i0,i0,i0,i0,b0,n0,n0,i0,i0,i0,i0,i0,i0,i0,i0,i0,.str ⟨#[]⟩,i0,i0,i0,i0,i0,i0,i0,i0,i0,i0,i0,i0,n0,i0,i0,i0,i0,i0,i0,i0,i0,i0,i0,b0,b0,i0,i0,i0])⟩),
 (77,⟨true,true,3,(some [i0,i0,i0]),(some [0,0,0]),.struct [f0 0,f0 1,f0 2]⟩),
 (105,⟨true,true,22,(some [i0,i0,i0,i0,i0,i0,i0,i0,i0,.str ⟨#[]⟩,i0,i0,i0,i0,i0,i0,i0,i0,i0,i0,i0,i0]),(some [0,0,0,0,0,0,0,0,0,2,0,0,0,0,0,0,0,0,0,0,0,0]),.struct [f0 0,f0 1,⟨2,16,true⟩,f0 18,f0 19,f0 20,f0 21]⟩),
 (88,⟨true,true,3,(some [i0,i0,n0]),none,.struct [f0 0,f0 1,f0 2]⟩),
 (28,⟨true,false,1,(some [n0]),none,.slice 6 80 (some [i0,i0,i0,i0,n0,n0])⟩),
 (27,⟨true,false,1,(some [n0]),none,.slice 89 768 (some [i0,i0,i0,i0,i0,i0,i0,i0,i0,i0,.str ⟨#[]⟩,i0,i0,i0,i0,i0,i0,i0,i0,n0,i0,i0,i0,i0,i0,i0,i0,b0,b0,i0,b0,i0,i0,i0,i0,i0,i0,i0,i0,i0,.str ⟨#[]⟩,i0,i0,i0,i0,i0,i0,i0,i0,b0,n0,n0,i0,i0,i0,i0,i0,i0,i0,i0,i0,.str ⟨#[]⟩,i0,i0,i0,i0,i0,i0,i0,i0,i0,i0,i0,i0,i0,i0,i0,i0,i0,i0,i0,i0,i0,i0,b0,b0,i0,i0,i0])⟩),
 (267,⟨true,true,64,(some [i0,i0,i0,i0,i0,i0,i0,i0,i0,i0,.str ⟨#[]⟩,i0,i0,i0,i0,i0,i0,i0,i0,i0,i0,i0,i0,i0,i0,i0,i0,i0,i0,.str ⟨#[]⟩,i0,i0,i0,i0,i0,i0,i0,i0,i0,i0,.str ⟨#[]⟩,i0,i0,i0,i0,i0,i0,i0,.str ⟨#[]⟩,i0,i0,i0,i0,i0,i0,i0,i0,i0,i0,i0,i0,i0,i0,n0]),none,.struct [f0 0,⟨1,18,true⟩,⟨19,19,true⟩,f0 38,f0 39,f0 40,⟨41,16,true⟩,⟨57,6,true⟩,f0 63]⟩),
 (147,⟨true,true,94,(some [i0,i0,i0,i0,i0,b0,i0,i0,i0,i0,i0,i0,i0,i0,.str ⟨#[]⟩,i0,i0,i0,i0,i0,i0,i0,i0,n0,i0,i0,i0,i0,i0,i0,i0,b0,b0,i0,b0,i0,i0,i0,i0,i0,i0,i0,i0,i0,.str ⟨#[]⟩,i0,i0,i0,i0,i0,i0,i0,i0,b0,n0,n0,i0,i0,i0,i0,i0,i0,i0,i0,i0,.str ⟨#[]⟩,i0,i0,i0,i0,i0,i0,i0,i0,i0,i0,i0,i0,n0,i0,i0,i0,i0,i0,i0,i0,i0,i0,i0,b0,b0,i0,i0,i0]),none,.struct [f0 0,f0 1,f0 2,f0 3,f0 4,f0 5,⟨6,72,true⟩,f0 78,⟨79,15,true⟩]⟩),
 (112,⟨true,false,1,(some [n0]),none,.slice 64 560 (some [i0,i0,i0,i0,i0,i0,i0,i0,i0,i0,.str ⟨#[]⟩,i0,i0,i0,i0,i0,i0,i0,i0,i0,i0,i0,i0,i0,i0,i0,i0,i0,i0,.str ⟨#[]⟩,i0,i0,i0,i0,i0,i0,i0,i0,i0,i0,.str ⟨#[]⟩,i0,i0,i0,i0,i0,i0,i0,.str ⟨#[]⟩,i0,i0,i0,i0,i0,i0,i0,i0,i0,i0,i0,i0,i0,i0,n0])⟩),
 (171,⟨true,false,1,(some [n0]),none,.slice 1 1 (some [b0])⟩),
 (89,⟨true,false,1,(some [n0]),none,.slice 72 640 (some [i0,i0,i0,i0,i0,i0,i0,i0,.str ⟨#[]⟩,i0,i0,i0,i0,i0,i0,i0,i0,n0,i0,i0,i0,i0,i0,i0,i0,b0,b0,i0,b0,i0,i0,i0,i0,i0,i0,i0,i0,i0,.str ⟨#[]⟩,i0,i0,i0,i0,i0,i0,i0,i0,b0,n0,n0,i0,i0,i0,i0,i0,i0,i0,i0,i0,.str ⟨#[]⟩,i0,i0,i0,i0,i0,i0,i0,i0,i0,i0,i0,i0])⟩),
 (98,⟨true,true,17,(some [.str ⟨#[]⟩,b0,i0,i0,i0,i0,i0,i0,i0,i0,i0,i0,n0,i0,i0,i0,n0]),none,.struct [f0 0,f0 1,⟨2,7,true⟩,f0 9,⟨10,3,true⟩,f0 13,f0 14,f0 15,f0 16]⟩),
 (155,⟨true,true,6,(some [i0,i0,i0,i0,n0,n0]),none,.struct [f0 0,f0 1,f0 2,f0 3,f0 4,f0 5]⟩),
 (35,⟨true,false,1,(some [n0]),none,.slice 1 24 (some [n0])⟩),
 (46,⟨true,true,7,(some [i0,i0,i0,i0,i0,i0,n0]),none,.struct [f0 0,f0 1,f0 2,f0 3,f0 4,f0 5,f0 6]⟩),
 (32,⟨true,true,3,(some [i0,i0,i0]),(some [0,0,0]),.arr 3 1 false⟩),
 (343,⟨true,true,76,(some [i0,i0,i0,i0,i0,i0,i0,i0,i0,i0,i0,.str ⟨#[]⟩,i0,i0,i0,i0,i0,i0,i0,i0,n0,i0,i0,i0,i0,i0,i0,i0,b0,b0,i0,b0,i0,i0,i0,i0,i0,i0,i0,i0,i0,.str ⟨#[]⟩,i0,i0,i0,i0,i0,i0,i0,i0,b0,n0,n0,i0,i0,i0,i0,i0,i0,i0,i0,i0,.str ⟨#[]⟩,i0,i0,i0,i0,i0,i0,i0,i0,i0,i0,i0,i0,b0]),none,.struct [f0 0,f0 1,f0 2,⟨3,72,true⟩,f0 75]⟩),
 (348,⟨true,true,55,(some [n0,n0,n0,n0,n0,n0,n0,i0,i0,i0,b0,i0,i0,i0,i0,.int .u64 0,n0,i0,i0,n0,n0,n0,n0,n0,n0,n0,i0,i0,i0,b0,i0,i0,i0,i0,.int .u64 0,n0,i0,i0,n0,n0,i0,i0,i0,i0,i0,i0,i0,i0,i0,i0,b0,b0,i0,i0,i0]),none,.struct [⟨0,19,true⟩,⟨19,19,true⟩,f0 38,f0 39,⟨40,15,true⟩]⟩),
 (85,⟨true,true,7,(some [i0,i0,i0,i0,i0,i0,i0]),(some [0,0,0,0,0,0,0]),.struct [f0 0,f0 1,⟨2,5,true⟩]⟩),
 (151,⟨true,true,89,(some [i0,i0,i0,i0,i0,i0,i0,i0,i0,i0,.str ⟨#[]⟩,i0,i0,i0,i0,i0,i0,i0,i0,n0,i0,i0,i0,i0,i0,i0,i0,b0,b0,i0,b0,i0,i0,i0,i0,i0,i0,i0,i0,i0,.str ⟨#[]⟩,i0,i0,i0,i0,i0,i0,i0,i0,b0,n0,n0,i0,i0,i0,i0,i0,i0,i0,i0,i0,.str ⟨#[]⟩,i0,i0,i0,i0,i0,i0,i0,i0,i0,i0,i0,i0,i0,i0,i0,i0,i0,i0,i0,i0,i0,i0,b0,b0,i0,i0,i0]),none,.struct [f0 0,f0 1,⟨2,72,true⟩,⟨74,15,true⟩]⟩),
 (240,⟨true,true,24,(some [n0,n0,n0,n0,n0,n0,n0,i0,i0,i0,b0,i0,i0,i0,i0,.int .u64 0,n0,i0,i0,n0,n0,n0,n0,n0]),none,.struct [⟨0,19,true⟩,f0 19,f0 20,f0 21,f0 22,f0 23]⟩),
 (111,⟨true,false,1,(some [n0]),none,.slice 18 144 (some [b0,b0,i0,i0,i0,i0,i0,i0,i0,.str ⟨#[]⟩,i0,i0,i0,i0,i0,i0,i0,i0])⟩),
 (101,⟨true,true,2,(some [i0,i0]),(some [0,0]),.struct [f0 0,f0 1]⟩),
 (303,⟨true,true,23,(some [i0,i0,i0,i0,b0,n0,i0,i0,i0,i0,i0,i0,i0,.str ⟨#[]⟩,i0,i0,i0,i0,i0,i0,i0,i0,n0]),none,.struct [f0 0,f0 1,f0 2,f0 3,f0 4,f0 5,⟨6,16,true⟩,f0 22]⟩),
 (338,⟨true,false,1,(some [n0]),none,.slice 76 672 (some [i0,i0,i0,i0,i0,i0,i0,i0,i0,i0,i0,.str ⟨#[]⟩,i0,i0,i0,i0,i0,i0,i0,i0,n0,i0,i0,i0,i0,i0,i0,i0,b0,b0,i0,b0,i0,i0,i0,i0,i0,i0,i0,i0,i0,.str ⟨#[]⟩,i0,i0,i0,i0,i0,i0,i0,i0,b0,n0,n0,i0,i0,i0,i0,i0,i0,i0,i0,i0,.str ⟨#[]⟩,i0,i0,i0,i0,i0,i0,i0,i0,i0,i0,i0,i0,b0])⟩),
 (170,⟨true,false,1,(some [n0]),none,.slice 23 224 (some [i0,i0,i0,i0,b0,n0,i0,i0,i0,i0,i0,i0,i0,.str ⟨#[]⟩,i0,i0,i0,i0,i0,i0,i0,i0,n0])⟩),
 (22,⟨true,false,1,(some [n0]),none,.slice 17 176 (some [.str ⟨#[]⟩,b0,i0,i0,i0,i0,i0,i0,i0,i0,i0,i0,n0,i0,i0,i0,n0])⟩),
 (29,⟨true,false,1,(some [.int .u64 0]),(some [0]),.int .u64⟩),
 (251,⟨true,true,23,(some [i0,i0,i0,i0,b0,n0,i0,i0,i0,i0,i0,i0,i0,.str ⟨#[]⟩,i0,i0,i0,i0,i0,i0,i0,i0,n0]),none,.struct [f0 0,f0 1,f0 2,f0 3,f0 4,f0 5,⟨6,16,true⟩,f0 22]⟩),
 (306,⟨true,false,1,(some [n0]),none,.slice 1 24 (some [n0])⟩),
 (125,⟨true,true,7,(some [n0,n0,n0,n0,n0,n0,b0]),none,.struct [f0 0,f0 1,f0 2,f0 3,f0 4,f0 5,f0 6]⟩),
 (59,⟨true,true,21,(some [n0,n0,n0,n0,n0,n0,n0,n0,i0,i0,i0,b0,i0,i0,i0,i0,.int .u64 0,n0,i0,i0,n0]),none,.struct [f0 0,⟨1,19,true⟩,f0 20]⟩),
 (5,⟨true,false,1,(some [.int .u8 0]),(some [0]),.int .u8⟩),
 (238,⟨true,false,1,(some [n0]),none,.slice 23 224 (some [i0,i0,i0,i0,b0,n0,i0,i0,i0,i0,i0,i0,i0,.str ⟨#[]⟩,i0,i0,i0,i0,i0,i0,i0,i0,n0])⟩),
 (110,⟨true,true,18,(some [i0,i0,i0,i0,i0,i0,i0,i0,i0,.str ⟨#[]⟩,i0,i0,i0,i0,i0,i0,i0,i0]),(some [0,0,0,0,0,0,0,0,0,2,0,0,0,0,0,0,0,0]),.struct [f0 0,f0 1,⟨2,16,true⟩]⟩),
 (265,⟨true,true,19,(some [i0,i0,i0,i0,i0,i0,i0,i0,i0,i0,.str ⟨#[]⟩,i0,i0,i0,i0,i0,i0,i0,i0]),(some [0,0,0,0,0,0,0,0,0,0,2,0,0,0,0,0,0,0,0]),.struct [f0 0,f0 1,f0 2,⟨3,16,true⟩]⟩),
 (140,⟨true,true,6,(some [n0,n0,n0,n0,n0,b0]),none,.struct [f0 0,f0 1,f0 2,f0 3,f0 4,f0 5]⟩),
 (145,⟨true,false,1,(some [n0]),none,.slice 2 16 (some [i0,i0])⟩),
 (318,⟨true,false,1,(some [.int .u32 0]),(some [0]),.int .u32⟩),
 (245,⟨true,false,1,(some [.int .u64 0]),(some [0]),.int .u64⟩),
 (372,⟨true,false,1,(some [.int .u64 0]),(some [0]),.int .u64⟩),
 (138,⟨true,false,1,(some [n0]),none,.slice 3 48 (some [i0,.str ⟨#[]⟩,n0])⟩),
 (263,⟨true,true,18,(some [i0,i0,i0,i0,i0,i0,i0,i0,i0,.str ⟨#[]⟩,i0,i0,i0,i0,i0,i0,i0,i0]),(some [0,0,0,0,0,0,0,0,0,2,0,0,0,0,0,0,0,0]),.struct [f0 0,f0 1,⟨2,16,true⟩]⟩),
 (117,⟨true,true,11,(some [n0,i0,i0,i0,i0,i0,i0,i0,n0,b0,b0]),none,.struct [f0 0,f0 1,⟨2,7,true⟩,f0 9,f0 10]⟩),
 (54,⟨true,true,6,(some [i0,i0,i0,i0,i0,i0]),(some [0,0,0,0,0,0]),.arr 6 1 false⟩),
 (83,⟨true,true,5,(some [i0,i0,i0,i0,i0]),(some [0,0,0,0,0]),.arr 5 1 false⟩),
 (365,⟨true,true,3,(some [b0,n0,n0]),none,.struct [f0 0,f0 1,f0 2]⟩),
 (290,⟨true,true,3,(some [i0,.str ⟨#[]⟩,n0]),none,.struct [f0 0,f0 1,f0 2]⟩),
 (201,⟨true,true,3,(some [.str ⟨#[]⟩,i0,n0]),none,.struct [f0 0,f0 1,f0 2]⟩),
 (108,⟨true,true,10,(some [i0,i0,i0,i0,i0,i0,i0,b0,b0,i0]),(some [0,0,0,0,0,0,0,1,1,0]),.struct [⟨0,7,true⟩,f0 7,f0 8,f0 9]⟩),
 (284,⟨true,true,18,(some [b0,b0,i0,i0,i0,i0,i0,i0,i0,.str ⟨#[]⟩,i0,i0,i0,i0,i0,i0,i0,i0]),(some [1,1,0,0,0,0,0,0,0,2,0,0,0,0,0,0,0,0]),.struct [f0 0,f0 1,⟨2,16,true⟩]⟩),
 (197,⟨true,false,1,(some [n0]),none,.slice 3 48 (some [.str ⟨#[]⟩,i0,n0])⟩),
 (37,⟨true,true,36,(some [n0,n0,n0,n0,n0,n0,n0,n0,i0,i0,i0,b0,i0,i0,i0,i0,.int .u64 0,n0,i0,i0,i0,i0,i0,i0,i0,i0,i0,i0,i0,i0,b0,b0,i0,i0,i0,n0]),none,.struct [f0 0,⟨1,19,true⟩,⟨20,15,true⟩,f0 35]⟩),
 (78,⟨true,false,1,(some [i0]),(some [0]),.int .i64⟩),
 (96,⟨true,false,1,(some [.SB]),none,.oth⟩),
 (442,⟨true,false,1,(some [n0]),none,.slice 1 1 (some [.int .u8 0])⟩),
 (363,⟨true,false,1,(some [.top]),none,.map 3 [b0,n0,n0]⟩),
 (210,⟨true,true,2,(some [i0,i0]),(some [0,0]),.struct [f0 0,f0 1]⟩),
 (157,⟨true,false,1,(some [.FU]),none,.ptr⟩),
 (82,⟨true,false,1,(some [.SB]),none,.oth⟩),
 (41,⟨true,false,1,(some [.FU]),none,.ptr⟩),
 (463,⟨true,true,6,(some [.str ⟨#[]⟩,.str ⟨#[]⟩,.str ⟨#[]⟩,.str ⟨#[]⟩,.str ⟨#[]⟩,.str ⟨#[]⟩]),(some [2,2,2,2,2,2]),.arr 6 1 false⟩),
 (310,⟨true,false,1,(some [i0]),(some [0]),.int .i64⟩),
 (427,⟨true,false,1,(some [.FU]),none,.ptr⟩),
 (462,⟨true,true,2,(some [.str ⟨#[]⟩,.str ⟨#[]⟩]),(some [2,2]),.arr 2 1 false⟩)]
def ab4 (t:TypeId):TI:=lkT aad t
class GM where m:Int
variable [GM]
def glF (g:Nat):Option (List PV):=bif Nat.beq g 0 then some [.si .i64 GM.m] else none
abbrev gz(k:Nat)(a:List PV)(R:PV->Prop):Prop:=Pv.Fn Tryz.prog glF k a R
theorem WW:YD Tryz.prog aad=TU aad:=by kernel_rfl
def ab5:List (Nat×Nat):=[(15,1),(16,2),(294,2),(413,2)]
def hidL:List (Nat×List (Nat×Nat)):=[(93,[(1,5)]),(168,[(1,5)]),(169,[(0,5)]),(212,[(0,5),(2,5)]),(243,[(1,5)]),(245,[(0,5)]),(248,[(0,5)]),(249,[(0,5)]),(298,[(0,5)]),(302,[(0,5),(0,24)]),(332,[(0,5)]),(333,[(0,5)]),(336,[(0,5)]),(337,[(0,5)]),(338,[(0,5)]),(339,[(0,5)]),(366,[(1,5)]),(372,[(0,5)]),(373,[(0,5)]),(374,[(0,5),(0,24)]),(408,[(0,5)]),(413,[(0,5)]),(414,[(0,5)]),(443,[(2,5),(4,5),(4,24)]),(444,[(0,5),(1,5)]),(445,[(1,5),(1,24)]),(446,[(0,5),(0,24)]),(480,[(0,5)]),(483,[(1,5),(1,24)]),(484,[(1,5),(1,24)])]
def lkH:List (Nat×List (Nat×Nat))->Nat->List (Nat×Nat)
 | [],_=>[]
 | (a,x)::l,k=>bif Nat.beq a k then x else lkH l k
def ab6 (k:Nat):List (Nat×Nat):=lkH hidL k
def FY (pG:Nat)(cut:List Nat)(own:List (List (Nat×Bool))):Tab:=⟨ab4,glF,pG,cut,0,own,ab5,none,ab6⟩
theorem iZ (pG:Nat)(cut:List Nat)(own:List (List (Nat×Bool))):jv Tryz.prog (FY pG cut own):=RZ aad WW rfl
def tab:Tab:=⟨ab4,glF,0,[],0,[],ab5,none,ab6⟩
theorem iE:jv Tryz.prog tab:=iZ 0 [] []
def tabc (cut:List Nat):Tab:=⟨ab4,glF,0,cut,0,[],ab5,none,ab6⟩
theorem ja (cut:List Nat):jv Tryz.prog (tabc cut):=iZ 0 cut []
def tabn (cut:List Nat)(l7:Nat):Tab:=⟨ab4,glF,0,cut,l7,[],ab5,none,ab6⟩
theorem Qq (cut:List Nat)(l7:Nat):jv Tryz.prog (tabn cut l7):=RZ aad WW rfl
def qdL:List Nat->List (Nat×Nat)
 | []=>ab5
 | d::l=>(d,9)::qdL l
def tabq (cut:List Nat)(qd:List Nat):Tab:=⟨ab4,glF,0,cut,0,[],qdL qd,none,ab6⟩
theorem agA (cut:List Nat)(U:List Nat):jv Tryz.prog (tabq cut U):=RZ aad WW rfl
def xdL:List (Nat×Nat)->List (Nat×Nat)
 | []=>ab5
 | x::l=>x::xdL l
def ahN (pG:Nat)(cut:List Nat)(l7:Nat)(own:List (List (Nat×Bool)))(xd:List (Nat×Nat)):Tab:=⟨ab4,glF,pG,cut,l7,own,xdL xd,none,ab6⟩
theorem I7 (pG:Nat)(cut:List Nat)(l7:Nat)(own:List (List (Nat×Bool)))(U:List (Nat×Nat)):jv Tryz.prog (ahN pG cut l7 own U):=RZ aad WW rfl
theorem wf:Bg Tryz.prog:=ahi aV aV
abbrev CC (M:iO) (k:Nat) {α:Type} (g:Option α) (av:List PV) (v:α->PV):Prop:=CW Tryz.prog glF M k g av v
abbrev CZ (M:iO) (k:Nat) {α:Type} (g:Option α) (av:List PV) (st0:St) (m:Nat) (v:α->PV) (st1:α->St) (n1:Nat):Prop:=CS Tryz.prog glF M k g av st0 m v st1 n1
theorem cI {M:iO}(hM:M=lC){T:Tab}{k:Nat}{α:Type}{g:Option α}{av:List PV}{v:α->PV}[CW Tryz.prog glF M k g av v](hG:T.gl=glF:=by rfl):∀ y,g=some y->Pv.Fn Tryz.prog T.gl k av (λu=>u=v y):=cwT hM hG
theorem cZ {M:iO}(hM:M=lC){T:Tab}{k:Nat}{α:Type}{g:Option α}{av:List PV}{st0:St}{m:Nat}{v:α->PV}{st1:α->St}{n1:Nat}[CS Tryz.prog glF M k g av st0 m v st1 n1](hG:T.gl=glF:=by rfl):∀ y,g=some y->Pv.FnS Tryz.prog T.gl k av st0 m (λu st n=>u=v y/\st=st1 y/\n=n1):=csT hM hG
end Go.Proofs.YtchmoabpofnbaaaGreat
