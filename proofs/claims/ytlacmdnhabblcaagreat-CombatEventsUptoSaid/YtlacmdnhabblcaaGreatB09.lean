import Derived.Test.YtlacmdnhabblcaaGreatRows
import Derived.Test.YtlacmdnhabblcaaGreatB08
set_option linter.all false
namespace Go.Proofs.YtlacmdnhabblcaaGreat
open Go Go.Pv Proofs.Tryz
abbrev i0:PV:=.int .i64 0
abbrev b0:PV:=.bool false
abbrev n0:PV:=.sl 0 [] true
abbrev f0 (n:Nat):FI:=⟨n,1,false⟩
def aiu:List (Nat×TI):=[
 (3,⟨true,false,1,(some [i0]),(some [0]),.int .i64⟩),
 (48,⟨true,true,19,(some [n0,n0,n0,n0,n0,n0,n0,i0,i0,i0,b0,i0,i0,i0,i0,.int .u64 0,n0,i0,i0]),none,.struct [f0 0,f0 1,f0 2,f0 3,f0 4,f0 5,f0 6,f0 7,f0 8,f0 9,f0 10,f0 11,f0 12,f0 13,f0 14,f0 15,f0 16,f0 17,f0 18]⟩),
 (42,⟨true,false,1,(some [n0]),none,.slice 1 8 (some [i0])⟩),
 (24,⟨true,true,19,(some [i0,i0,i0,i0,i0,b0,b0,b0,b0,i0,i0,i0,i0,i0,i0,i0,b0,i0,i0]),(some [0,0,0,0,0,1,1,1,1,0,0,0,0,0,0,0,1,0,0]),.struct [f0 0,f0 1,f0 2,f0 3,f0 4,f0 5,f0 6,f0 7,f0 8,f0 9,⟨10,3,true⟩,f0 13,f0 14,f0 15,f0 16,f0 17,f0 18]⟩),
 (33,⟨true,true,17,(some [.str ⟨#[]⟩,i0,i0,i0,i0,i0,i0,i0,i0,i0,i0,n0,i0,i0,i0,n0,i0]),none,.struct [f0 0,⟨1,7,true⟩,f0 8,⟨9,3,true⟩,f0 12,f0 13,f0 14,f0 15,f0 16]⟩),
 (41,⟨true,false,1,(some [n0]),none,.slice 19 128 (some [i0,i0,i0,i0,i0,b0,b0,b0,b0,i0,i0,i0,i0,i0,i0,i0,b0,i0,i0])⟩),
 (87,⟨true,true,15,(some [i0,i0,i0,i0,i0,i0,i0,i0,i0,i0,b0,b0,i0,i0,i0]),(some [0,0,0,0,0,0,0,0,0,0,1,1,0,0,0]),.struct [f0 0,f0 1,f0 2,f0 3,f0 4,f0 5,f0 6,f0 7,f0 8,f0 9,f0 10,f0 11,⟨12,3,true⟩]⟩),
 (9,⟨true,false,1,(some [.str ⟨#[]⟩]),(some [2]),.str⟩),
 (53,⟨true,false,1,(some [n0]),none,.slice 3 24 (some [i0,i0,i0])⟩),
 (138,⟨true,true,72,(some [i0,i0,i0,i0,i0,i0,i0,i0,.str ⟨#[]⟩,i0,i0,i0,i0,i0,i0,i0,i0,n0,i0,i0,i0,i0,i0,i0,i0,b0,b0,i0,b0,i0,i0,i0,i0,i0,i0,i0,i0,i0,.str ⟨#[]⟩,i0,i0,i0,i0,i0,i0,i0,i0,b0,n0,n0,i0,i0,i0,i0,i0,i0,i0,i0,i0,.str ⟨#[]⟩,i0,i0,i0,i0,i0,i0,i0,i0,i0,i0,i0,i0]),none,.struct [f0 0,⟨1,16,true⟩,f0 17,⟨18,10,true⟩,f0 28,⟨29,18,true⟩,f0 47,f0 48,f0 49,⟨50,22,true⟩]⟩),
 (129,⟨true,true,16,(some [i0,i0,i0,i0,i0,i0,i0,.str ⟨#[]⟩,i0,i0,i0,i0,i0,i0,i0,i0]),(some [0,0,0,0,0,0,0,2,0,0,0,0,0,0,0,0]),.struct [f0 0,f0 1,f0 2,f0 3,f0 4,f0 5,f0 6,f0 7,f0 8,f0 9,⟨10,2,true⟩,⟨12,2,true⟩,⟨14,2,true⟩]⟩),
 (207,⟨true,true,20,(some [i0,i0,i0,.str ⟨#[]⟩,i0,i0,i0,i0,i0,i0,i0,.str ⟨#[]⟩,i0,i0,i0,i0,i0,i0,i0,i0]),(some [0,0,0,2,0,0,0,0,0,0,0,2,0,0,0,0,0,0,0,0]),.struct [f0 0,f0 1,f0 2,f0 3,⟨4,16,true⟩]⟩),
 (28,⟨true,false,1,(some [n0]),none,.slice 1 16 (some [.str ⟨#[]⟩])⟩),
 (4,⟨true,false,1,(some [b0]),(some [1]),.oth⟩),
 (149,⟨true,true,7,(some [i0,i0,i0,i0,i0,i0,n0]),none,.struct [f0 0,f0 1,f0 2,f0 3,f0 4,f0 5,f0 6]⟩),
 (57,⟨true,true,3,(some [i0,i0,i0]),(some [0,0,0]),.struct [f0 0,f0 1,f0 2]⟩),
 (40,⟨true,false,1,(some [n0]),none,.slice 14 152 (some [i0,i0,i0,i0,i0,i0,i0,i0,i0,b0,b0,n0,n0,n0])⟩),
 (130,⟨true,false,1,(some [n0]),none,.slice 20 176 (some [i0,i0,i0,.str ⟨#[]⟩,i0,i0,i0,i0,i0,i0,i0,.str ⟨#[]⟩,i0,i0,i0,i0,i0,i0,i0,i0])⟩),
 (106,⟨true,true,24,(some [n0,n0,n0,n0,n0,n0,n0,i0,i0,i0,b0,i0,i0,i0,i0,.int .u64 0,n0,i0,i0,n0,n0,n0,n0,n0]),none,.struct [⟨0,19,true⟩,f0 19,f0 20,f0 21,f0 22,f0 23]⟩),
 (50,⟨true,false,1,(some [n0]),none,.slice 17 176 (some [.str ⟨#[]⟩,i0,i0,i0,i0,i0,i0,i0,i0,i0,i0,n0,i0,i0,i0,n0,i0])⟩),
 (30,⟨true,true,3,(some [i0,i0,n0]),none,.struct [f0 0,f0 1,f0 2]⟩),
 (136,⟨true,true,22,(some [i0,i0,i0,i0,i0,i0,i0,i0,i0,.str ⟨#[]⟩,i0,i0,i0,i0,i0,i0,i0,i0,i0,i0,i0,i0]),(some [0,0,0,0,0,0,0,0,0,2,0,0,0,0,0,0,0,0,0,0,0,0]),.struct [f0 0,f0 1,⟨2,16,true⟩,f0 18,f0 19,f0 20,f0 21]⟩),
 (121,⟨true,true,6,(some [i0,i0,i0,i0,i0,i0]),(some [0,0,0,0,0,0]),.arr 6 1 false⟩),
 (123,⟨true,true,14,(some [i0,i0,i0,i0,i0,i0,i0,i0,i0,b0,b0,n0,n0,n0]),none,.struct [f0 0,f0 1,f0 2,⟨3,6,true⟩,f0 9,f0 10,f0 11,f0 12,f0 13]⟩),
 (27,⟨true,true,7,(some [i0,i0,i0,i0,i0,i0,i0]),(some [0,0,0,0,0,0,0]),.struct [f0 0,f0 1,⟨2,5,true⟩]⟩),
 (251,⟨true,true,64,(some [i0,i0,i0,i0,i0,i0,i0,i0,i0,i0,.str ⟨#[]⟩,i0,i0,i0,i0,i0,i0,i0,i0,i0,i0,i0,i0,i0,i0,i0,i0,i0,i0,.str ⟨#[]⟩,i0,i0,i0,i0,i0,i0,i0,i0,i0,i0,.str ⟨#[]⟩,i0,i0,i0,i0,i0,i0,i0,.str ⟨#[]⟩,i0,i0,i0,i0,i0,i0,i0,i0,i0,i0,i0,i0,i0,i0,n0]),none,.struct [f0 0,⟨1,18,true⟩,⟨19,19,true⟩,f0 38,f0 39,f0 40,⟨41,16,true⟩,⟨57,6,true⟩,f0 63]⟩),
 (104,⟨true,false,1,(some [n0]),none,.slice 1 1 (some [b0])⟩),
 (31,⟨true,false,1,(some [n0]),none,.slice 72 640 (some [i0,i0,i0,i0,i0,i0,i0,i0,.str ⟨#[]⟩,i0,i0,i0,i0,i0,i0,i0,i0,n0,i0,i0,i0,i0,i0,i0,i0,b0,b0,i0,b0,i0,i0,i0,i0,i0,i0,i0,i0,i0,.str ⟨#[]⟩,i0,i0,i0,i0,i0,i0,i0,i0,b0,n0,n0,i0,i0,i0,i0,i0,i0,i0,i0,i0,.str ⟨#[]⟩,i0,i0,i0,i0,i0,i0,i0,i0,i0,i0,i0,i0])⟩),
 (134,⟨true,false,1,(some [n0]),none,.slice 64 560 (some [i0,i0,i0,i0,i0,i0,i0,i0,i0,i0,.str ⟨#[]⟩,i0,i0,i0,i0,i0,i0,i0,i0,i0,i0,i0,i0,i0,i0,i0,i0,i0,i0,.str ⟨#[]⟩,i0,i0,i0,i0,i0,i0,i0,i0,i0,i0,.str ⟨#[]⟩,i0,i0,i0,i0,i0,i0,i0,.str ⟨#[]⟩,i0,i0,i0,i0,i0,i0,i0,i0,i0,i0,i0,i0,i0,i0,n0])⟩),
 (116,⟨true,true,17,(some [.str ⟨#[]⟩,b0,i0,i0,i0,i0,i0,i0,i0,i0,i0,i0,n0,i0,i0,i0,n0]),none,.struct [f0 0,f0 1,⟨2,7,true⟩,f0 9,⟨10,3,true⟩,f0 13,f0 14,f0 15,f0 16]⟩),
 (43,⟨true,false,1,(some [n0]),none,.slice 94 824 (some [i0,i0,i0,i0,i0,b0,i0,i0,i0,i0,i0,i0,i0,i0,.str ⟨#[]⟩,i0,i0,i0,i0,i0,i0,i0,i0,n0,i0,i0,i0,i0,i0,i0,i0,b0,b0,i0,b0,i0,i0,i0,i0,i0,i0,i0,i0,i0,.str ⟨#[]⟩,i0,i0,i0,i0,i0,i0,i0,i0,b0,n0,n0,i0,i0,i0,i0,i0,i0,i0,i0,i0,.str ⟨#[]⟩,i0,i0,i0,i0,i0,i0,i0,i0,i0,i0,i0,i0,n0,i0,i0,i0,i0,i0,i0,i0,i0,i0,i0,b0,b0,i0,i0,i0])⟩),
 (71,⟨true,false,1,(some [n0]),none,.slice 1 24 (some [n0])⟩),
 (141,⟨true,true,94,(some [i0,i0,i0,i0,i0,b0,i0,i0,i0,i0,i0,i0,i0,i0,.str ⟨#[]⟩,i0,i0,i0,i0,i0,i0,i0,i0,n0,i0,i0,i0,i0,i0,i0,i0,b0,b0,i0,b0,i0,i0,i0,i0,i0,i0,i0,i0,i0,.str ⟨#[]⟩,i0,i0,i0,i0,i0,i0,i0,i0,b0,n0,n0,i0,i0,i0,i0,i0,i0,i0,i0,i0,.str ⟨#[]⟩,i0,i0,i0,i0,i0,i0,i0,i0,i0,i0,i0,i0,n0,i0,i0,i0,i0,i0,i0,i0,i0,i0,i0,b0,b0,i0,i0,i0]),none,.struct [f0 0,f0 1,f0 2,f0 3,f0 4,f0 5,⟨6,72,true⟩,f0 78,⟨79,15,true⟩]⟩),
 (386,⟨true,true,76,(some [i0,i0,i0,i0,i0,i0,i0,i0,i0,i0,i0,.str ⟨#[]⟩,i0,i0,i0,i0,i0,i0,i0,i0,n0,i0,i0,i0,i0,i0,i0,i0,b0,b0,i0,b0,i0,i0,i0,i0,i0,i0,i0,i0,i0,.str ⟨#[]⟩,i0,i0,i0,i0,i0,i0,i0,i0,b0,n0,n0,i0,i0,i0,i0,i0,i0,i0,i0,i0,.str ⟨#[]⟩,i0,i0,i0,i0,i0,i0,i0,i0,i0,i0,i0,i0,b0]),none,.struct [f0 0,f0 1,f0 2,⟨3,72,true⟩,f0 75]⟩),
 (45,⟨true,false,1,(some [n0]),none,.slice 6 80 (some [i0,i0,i0,i0,n0,n0])⟩),
 (44,⟨true,false,1,(some [n0]),none,.slice 89 768 (some [i0,i0,i0,i0,i0,i0,i0,i0,i0,i0,.str ⟨#[]⟩,i0,i0,i0,i0,i0,i0,i0,i0,n0,i0,i0,i0,i0,i0,i0,i0,b0,b0,i0,b0,i0,i0,i0,i0,i0,i0,i0,i0,i0,.str ⟨#[]⟩,i0,i0,i0,i0,i0,i0,i0,i0,b0,n0,n0,i0,i0,i0,i0,i0,i0,i0,i0,i0,.str ⟨#[]⟩,i0,i0,i0,i0,i0,i0,i0,i0,i0,i0,i0,i0,i0,i0,i0,i0,i0,i0,i0,i0,i0,i0,b0,b0,i0,i0,i0])⟩),
 (391,⟨true,true,55,(some [n0,n0,n0,n0,n0,n0,n0,i0,i0,i0,b0,i0,i0,i0,i0,.int .u64 0,n0,i0,i0,n0,n0,n0,n0,n0,n0,n0,i0,i0,i0,b0,i0,i0,i0,i0,.int .u64 0,n0,i0,i0,n0,n0,i0,i0,i0,i0,i0,i0,i0,i0,i0,i0,b0,b0,i0,i0,i0]),none,.struct [⟨0,19,true⟩,⟨19,19,true⟩,f0 38,f0 39,⟨40,15,true⟩]⟩),
 (236,⟨true,true,24,(some [n0,n0,n0,n0,n0,n0,n0,i0,i0,i0,b0,i0,i0,i0,i0,.int .u64 0,n0,i0,i0,n0,n0,n0,n0,n0]),none,.struct [⟨0,19,true⟩,f0 19,f0 20,f0 21,f0 22,f0 23]⟩),
 (79,⟨true,false,1,(some [n0]),none,.slice 15 112 (some [i0,i0,i0,i0,i0,i0,i0,i0,i0,i0,b0,b0,i0,i0,i0])⟩),
 (146,⟨true,true,6,(some [i0,i0,i0,i0,n0,n0]),none,.struct [f0 0,f0 1,f0 2,f0 3,f0 4,f0 5]⟩),
 (127,⟨true,true,2,(some [i0,i0]),(some [0,0]),.struct [f0 0,f0 1]⟩),
 (133,⟨true,false,1,(some [n0]),none,.slice 18 144 (some [b0,b0,i0,i0,i0,i0,i0,i0,i0,.str ⟨#[]⟩,i0,i0,i0,i0,i0,i0,i0,i0])⟩),
 (279,⟨true,true,23,(some [i0,i0,i0,i0,b0,n0,i0,i0,i0,i0,i0,i0,i0,.str ⟨#[]⟩,i0,i0,i0,i0,i0,i0,i0,i0,n0]),none,.struct [f0 0,f0 1,f0 2,f0 3,f0 4,f0 5,⟨6,16,true⟩,f0 22]⟩),
 (103,⟨true,false,1,(some [n0]),none,.slice 23 224 (some [i0,i0,i0,i0,b0,n0,i0,i0,i0,i0,i0,i0,i0,.str ⟨#[]⟩,i0,i0,i0,i0,i0,i0,i0,i0,n0])⟩),
 (381,⟨true,false,1,(some [n0]),none,.slice 76 672 (some [i0,i0,i0,i0,i0,i0,i0,i0,i0,i0,i0,.str ⟨#[]⟩,i0,i0,i0,i0,i0,i0,i0,i0,n0,i0,i0,i0,i0,i0,i0,i0,b0,b0,i0,b0,i0,i0,i0,i0,i0,i0,i0,i0,i0,.str ⟨#[]⟩,i0,i0,i0,i0,i0,i0,i0,i0,b0,n0,n0,i0,i0,i0,i0,i0,i0,i0,i0,i0,.str ⟨#[]⟩,i0,i0,i0,i0,i0,i0,i0,i0,i0,i0,i0,i0,b0])⟩),
 (46,⟨true,false,1,(some [.int .u64 0]),(some [0]),.int .u64⟩),
 (73,⟨true,true,22,(some [n0,n0,n0,n0,n0,n0,n0,n0,i0,i0,i0,b0,i0,i0,i0,i0,.int .u64 0,n0,i0,i0,n0,b0]),none,.struct [f0 0,⟨1,19,true⟩,f0 20,f0 21]⟩),
 (22,⟨true,true,3,(some [i0,i0,i0]),(some [0,0,0]),.arr 3 1 false⟩),
 (198,⟨true,true,23,(some [i0,i0,i0,i0,b0,n0,i0,i0,i0,i0,i0,i0,i0,.str ⟨#[]⟩,i0,i0,i0,i0,i0,i0,i0,i0,n0]),none,.struct [f0 0,f0 1,f0 2,f0 3,f0 4,f0 5,⟨6,16,true⟩,f0 22]⟩),
 (262,⟨true,false,1,(some [n0]),none,.slice 1 24 (some [n0])⟩),
 (39,⟨true,false,1,(some [n0]),none,.slice 17 176 (some [.str ⟨#[]⟩,b0,i0,i0,i0,i0,i0,i0,i0,i0,i0,i0,n0,i0,i0,i0,n0])⟩),
 (144,⟨true,true,89,(some [i0,i0,i0,i0,i0,i0,i0,i0,i0,i0,.str ⟨#[]⟩,i0,i0,i0,i0,i0,i0,i0,i0,n0,i0,i0,i0,i0,i0,i0,i0,b0,b0,i0,b0,i0,i0,i0,i0,i0,i0,i0,i0,i0,.str ⟨#[]⟩,i0,i0,i0,i0,i0,i0,i0,i0,b0,n0,n0,i0,i0,i0,i0,i0,i0,i0,i0,i0,.str ⟨#[]⟩,i0,i0,i0,i0,i0,i0,i0,i0,i0,i0,i0,i0,i0,i0,i0,i0,i0,i0,i0,i0,i0,i0,b0,b0,i0,i0,i0]),none,.struct [f0 0,f0 1,⟨2,72,true⟩,⟨74,15,true⟩]⟩),
 (158,⟨true,true,36,(some [i0,i0,i0,i0,i0,b0,b0,b0,b0,i0,i0,i0,i0,i0,i0,i0,b0,i0,i0,.str ⟨#[]⟩,i0,i0,i0,i0,i0,i0,i0,i0,i0,i0,n0,i0,i0,i0,n0,i0]),none,.struct [⟨0,19,true⟩,⟨19,17,true⟩]⟩),
 (5,⟨true,false,1,(some [.int .u8 0]),(some [0]),.int .u8⟩),
 (234,⟨true,false,1,(some [n0]),none,.slice 23 224 (some [i0,i0,i0,i0,b0,n0,i0,i0,i0,i0,i0,i0,i0,.str ⟨#[]⟩,i0,i0,i0,i0,i0,i0,i0,i0,n0])⟩),
 (132,⟨true,true,18,(some [i0,i0,i0,i0,i0,i0,i0,i0,i0,.str ⟨#[]⟩,i0,i0,i0,i0,i0,i0,i0,i0]),(some [0,0,0,0,0,0,0,0,0,2,0,0,0,0,0,0,0,0]),.struct [f0 0,f0 1,⟨2,16,true⟩]⟩),
 (249,⟨true,true,19,(some [i0,i0,i0,i0,i0,i0,i0,i0,i0,i0,.str ⟨#[]⟩,i0,i0,i0,i0,i0,i0,i0,i0]),(some [0,0,0,0,0,0,0,0,0,0,2,0,0,0,0,0,0,0,0]),.struct [f0 0,f0 1,f0 2,⟨3,16,true⟩]⟩),
 (293,⟨true,false,1,(some [.int .u32 0]),(some [0]),.int .u32⟩),
 (241,⟨true,false,1,(some [.int .u64 0]),(some [0]),.int .u64⟩),
 (139,⟨true,false,1,(some [n0]),none,.slice 2 16 (some [i0,i0])⟩),
 (25,⟨true,true,5,(some [i0,i0,i0,i0,i0]),(some [0,0,0,0,0]),.arr 5 1 false⟩),
 (92,⟨true,true,10,(some [i0,i0,i0,i0,i0,i0,i0,b0,b0,i0]),(some [0,0,0,0,0,0,0,1,1,0]),.struct [⟨0,7,true⟩,f0 7,f0 8,f0 9]⟩),
 (327,⟨true,false,1,(some [.int .u64 0]),(some [0]),.int .u64⟩),
 (154,⟨true,true,11,(some [n0,i0,i0,i0,i0,i0,i0,n0,b0,b0,i0]),none,.struct [f0 0,⟨1,7,true⟩,f0 8,f0 9,f0 10]⟩),
 (151,⟨true,true,11,(some [n0,i0,i0,i0,i0,i0,i0,i0,n0,b0,b0]),none,.struct [f0 0,f0 1,⟨2,7,true⟩,f0 9,f0 10]⟩),
 (247,⟨true,true,18,(some [i0,i0,i0,i0,i0,i0,i0,i0,i0,.str ⟨#[]⟩,i0,i0,i0,i0,i0,i0,i0,i0]),(some [0,0,0,0,0,0,0,0,0,2,0,0,0,0,0,0,0,0]),.struct [f0 0,f0 1,⟨2,16,true⟩]⟩),
 (58,⟨true,false,1,(some [i0]),(some [0]),.int .i64⟩),
 (320,⟨true,true,3,(some [b0,n0,n0]),none,.struct [f0 0,f0 1,f0 2]⟩),
 (94,⟨true,true,32,(some [n0,n0,n0,n0,n0,n0,n0,n0,i0,i0,i0,b0,i0,i0,i0,i0,.int .u64 0,n0,i0,i0,i0,i0,i0,i0,i0,i0,i0,i0,i0,b0,b0,i0]),none,.struct [f0 0,⟨1,19,true⟩,f0 20,f0 21,⟨22,10,true⟩]⟩),
 (35,⟨true,true,72,(some [i0,i0,i0,i0,i0,b0,b0,b0,b0,i0,i0,i0,i0,i0,i0,i0,b0,i0,i0,.str ⟨#[]⟩,i0,i0,i0,i0,i0,i0,i0,i0,i0,i0,n0,i0,i0,i0,n0,i0,i0,i0,i0,i0,i0,b0,b0,b0,b0,i0,i0,i0,i0,i0,i0,i0,b0,i0,i0,.str ⟨#[]⟩,i0,i0,i0,i0,i0,i0,i0,i0,i0,i0,n0,i0,i0,i0,n0,i0]),none,.struct [⟨0,19,true⟩,⟨19,17,true⟩,⟨36,19,true⟩,⟨55,17,true⟩]⟩),
 (209,⟨true,true,18,(some [b0,b0,i0,i0,i0,i0,i0,i0,i0,.str ⟨#[]⟩,i0,i0,i0,i0,i0,i0,i0,i0]),(some [1,1,0,0,0,0,0,0,0,2,0,0,0,0,0,0,0,0]),.struct [f0 0,f0 1,⟨2,16,true⟩]⟩),
 (430,⟨true,false,1,(some [n0]),none,.slice 1 1 (some [.int .u8 0])⟩),
 (155,⟨true,false,1,(some [n0]),none,.slice 36 304 (some [i0,i0,i0,i0,i0,b0,b0,b0,b0,i0,i0,i0,i0,i0,i0,i0,b0,i0,i0,.str ⟨#[]⟩,i0,i0,i0,i0,i0,i0,i0,i0,i0,i0,n0,i0,i0,i0,n0,i0])⟩),
 (75,⟨true,false,1,(some [.yJ]),none,.ptr⟩),
 (77,⟨true,false,1,(some [.yJ]),none,.ptr⟩),
 (99,⟨true,false,1,(some [.RY]),none,.oth⟩),
 (221,⟨true,true,2,(some [i0,i0]),(some [0,0]),.struct [f0 0,f0 1]⟩),
 (378,⟨true,false,1,(some [.yJ]),none,.ptr⟩),
 (452,⟨true,true,6,(some [.str ⟨#[]⟩,.str ⟨#[]⟩,.str ⟨#[]⟩,.str ⟨#[]⟩,.str ⟨#[]⟩,.str ⟨#[]⟩]),(some [2,2,2,2,2,2]),.arr 6 1 false⟩),
 (285,⟨true,false,1,(some [i0]),(some [0]),.int .i64⟩),
 (451,⟨true,true,2,(some [.str ⟨#[]⟩,.str ⟨#[]⟩]),(some [2,2]),.arr 2 1 false⟩),
 (438,⟨true,false,1,(some [.yJ]),none,.ptr⟩),
 (318,⟨true,false,1,(some [.top]),none,.oth⟩),
 (125,⟨true,false,1,(some [.RY]),none,.oth⟩)]
def akN (t:TypeId):TI:=lkT aiu t
def JE (_:Nat):Option (List PV):=none
abbrev iI(k:Nat)(a:List PV)(R:PV->Prop):Prop:=Pv.Fn Tryz.prog JE k a R
theorem aiv:afh Tryz.prog aiu=aaM aiu:=by kernel_rfl
def agp:List (Nat×Nat):=[(36,1),(37,1),(38,2)]
def Bg (vY:Nat)(cut:List Nat)(own:List (List (Nat×Bool))):Tab:=⟨akN,JE,vY,cut,0,own,agp⟩
theorem mG (vY:Nat)(cut:List Nat)(own:List (List (Nat×Bool))):lW Tryz.prog (Bg vY cut own):=XG (gl:=JE) (vY:=vY) (cut:=cut) (pU:=0) (own:=own) (dcl:=agp) aiu aiv
def tab:Tab:=⟨akN,JE,0,[],0,[],agp⟩
theorem jm:lW Tryz.prog tab:=mG 0 [] []
def tabc (cut:List Nat):Tab:=⟨akN,JE,0,cut,0,[],agp⟩
theorem je (cut:List Nat):lW Tryz.prog (tabc cut):=mG 0 cut []
def tabn (cut:List Nat)(pU:Nat):Tab:=⟨akN,JE,0,cut,pU,[],agp⟩
theorem aaW (cut:List Nat)(pU:Nat):lW Tryz.prog (tabn cut pU):=XG (gl:=JE) (vY:=0) (cut:=cut) (pU:=pU) (own:=[]) (dcl:=agp) aiu aiv
theorem wf:I4 Tryz.prog:=an9 aH aH
theorem akO : (Tryz.prog.funcs.toList.all fun f => !(f.name == "runtime.NumGoroutine")) = true := by kernel_rfl
theorem amw:qG Tryz.prog tab 154:=oP jm wf func154 rfl ⟨rfl,rfl,rfl⟩ ⟨rfl,rfl,rfl⟩ ⟨rfl,rfl,rfl⟩ ⟨rfl,rfl,rfl⟩ ⟨rfl,rfl,rfl⟩ ⟨rfl,rfl,rfl⟩ ⟨rfl,rfl,rfl⟩ ⟨rfl,rfl,rfl⟩ rfl rfl call154 rfl rfl rfl rfl
theorem amx:qG Tryz.prog tab 156:=oP jm wf func156 rfl ⟨rfl,rfl,rfl⟩ ⟨rfl,rfl,rfl⟩ ⟨rfl,rfl,rfl⟩ ⟨rfl,rfl,rfl⟩ ⟨rfl,rfl,rfl⟩ ⟨rfl,rfl,rfl⟩ ⟨rfl,rfl,rfl⟩ ⟨rfl,rfl,rfl⟩ rfl rfl call156 rfl rfl rfl rfl
theorem amy:qG Tryz.prog tab 157:=oP jm wf func157 rfl ⟨rfl,rfl,rfl⟩ ⟨rfl,rfl,rfl⟩ ⟨rfl,rfl,rfl⟩ ⟨rfl,rfl,rfl⟩ ⟨rfl,rfl,rfl⟩ ⟨rfl,rfl,rfl⟩ ⟨rfl,rfl,rfl⟩ ⟨rfl,rfl,rfl⟩ rfl rfl call157 rfl rfl rfl rfl
theorem amz:qG Tryz.prog tab 158:=oP jm wf func158 rfl ⟨rfl,rfl,rfl⟩ ⟨rfl,rfl,rfl⟩ ⟨rfl,rfl,rfl⟩ ⟨rfl,rfl,rfl⟩ ⟨rfl,rfl,rfl⟩ ⟨rfl,rfl,rfl⟩ ⟨rfl,rfl,rfl⟩ ⟨rfl,rfl,rfl⟩ rfl rfl call158 rfl rfl rfl rfl
theorem amA:qG Tryz.prog tab 160:=oP jm wf func160 rfl ⟨rfl,rfl,rfl⟩ ⟨rfl,rfl,rfl⟩ ⟨rfl,rfl,rfl⟩ ⟨rfl,rfl,rfl⟩ ⟨rfl,rfl,rfl⟩ ⟨rfl,rfl,rfl⟩ ⟨rfl,rfl,rfl⟩ ⟨rfl,rfl,rfl⟩ rfl rfl call160 rfl rfl rfl rfl
theorem amB:qG Tryz.prog tab 161:=oP jm wf func161 rfl ⟨rfl,rfl,rfl⟩ ⟨rfl,rfl,rfl⟩ ⟨rfl,rfl,rfl⟩ ⟨rfl,rfl,rfl⟩ ⟨rfl,rfl,rfl⟩ ⟨rfl,rfl,rfl⟩ ⟨rfl,rfl,rfl⟩ ⟨rfl,rfl,rfl⟩ rfl rfl call161 rfl rfl rfl rfl
theorem amC:qG Tryz.prog tab 162:=oP jm wf func162 rfl ⟨rfl,rfl,rfl⟩ ⟨rfl,rfl,rfl⟩ ⟨rfl,rfl,rfl⟩ ⟨rfl,rfl,rfl⟩ ⟨rfl,rfl,rfl⟩ ⟨rfl,rfl,rfl⟩ ⟨rfl,rfl,rfl⟩ ⟨rfl,rfl,rfl⟩ rfl rfl call162 rfl rfl rfl rfl
theorem amD:qG Tryz.prog tab 163:=oP jm wf func163 rfl ⟨rfl,rfl,rfl⟩ ⟨rfl,rfl,rfl⟩ ⟨rfl,rfl,rfl⟩ ⟨rfl,rfl,rfl⟩ ⟨rfl,rfl,rfl⟩ ⟨rfl,rfl,rfl⟩ ⟨rfl,rfl,rfl⟩ ⟨rfl,rfl,rfl⟩ rfl rfl call163 rfl rfl rfl rfl
theorem amE:qG Tryz.prog tab 221:=oP jm wf func221 rfl ⟨rfl,rfl,rfl⟩ ⟨rfl,rfl,rfl⟩ ⟨rfl,rfl,rfl⟩ ⟨rfl,rfl,rfl⟩ ⟨rfl,rfl,rfl⟩ ⟨rfl,rfl,rfl⟩ ⟨rfl,rfl,rfl⟩ ⟨rfl,rfl,rfl⟩ rfl rfl call221 rfl rfl rfl rfl
theorem amF:qG Tryz.prog tab 222:=oP jm wf func222 rfl ⟨rfl,rfl,rfl⟩ ⟨rfl,rfl,rfl⟩ ⟨rfl,rfl,rfl⟩ ⟨rfl,rfl,rfl⟩ ⟨rfl,rfl,rfl⟩ ⟨rfl,rfl,rfl⟩ ⟨rfl,rfl,rfl⟩ ⟨rfl,rfl,rfl⟩ rfl rfl call222 rfl rfl rfl rfl
theorem amG:qG Tryz.prog tab 366:=oP jm wf func366 rfl ⟨rfl,rfl,rfl⟩ ⟨rfl,rfl,rfl⟩ ⟨rfl,rfl,rfl⟩ ⟨rfl,rfl,rfl⟩ ⟨rfl,rfl,rfl⟩ ⟨rfl,rfl,rfl⟩ ⟨rfl,rfl,rfl⟩ ⟨rfl,rfl,rfl⟩ rfl rfl call366 rfl rfl rfl rfl
theorem amH:qG Tryz.prog tab 376:=oP jm wf func376 rfl ⟨rfl,rfl,rfl⟩ ⟨rfl,rfl,rfl⟩ ⟨rfl,rfl,rfl⟩ ⟨rfl,rfl,rfl⟩ ⟨rfl,rfl,rfl⟩ ⟨rfl,rfl,rfl⟩ ⟨rfl,rfl,rfl⟩ ⟨rfl,rfl,rfl⟩ rfl rfl call376 rfl rfl rfl rfl
theorem amI:qG Tryz.prog tab 377:=oP jm wf func377 rfl ⟨rfl,rfl,rfl⟩ ⟨rfl,rfl,rfl⟩ ⟨rfl,rfl,rfl⟩ ⟨rfl,rfl,rfl⟩ ⟨rfl,rfl,rfl⟩ ⟨rfl,rfl,rfl⟩ ⟨rfl,rfl,rfl⟩ ⟨rfl,rfl,rfl⟩ rfl rfl call377 rfl rfl rfl rfl
theorem amJ:qG Tryz.prog tab 378:=oP jm wf func378 rfl ⟨rfl,rfl,rfl⟩ ⟨rfl,rfl,rfl⟩ ⟨rfl,rfl,rfl⟩ ⟨rfl,rfl,rfl⟩ ⟨rfl,rfl,rfl⟩ ⟨rfl,rfl,rfl⟩ ⟨rfl,rfl,rfl⟩ ⟨rfl,rfl,rfl⟩ rfl rfl call378 rfl rfl rfl rfl
theorem amK:qG Tryz.prog tab 440:=oP jm wf func440 rfl ⟨rfl,rfl,rfl⟩ ⟨rfl,rfl,rfl⟩ ⟨rfl,rfl,rfl⟩ ⟨rfl,rfl,rfl⟩ ⟨rfl,rfl,rfl⟩ ⟨rfl,rfl,rfl⟩ ⟨rfl,rfl,rfl⟩ ⟨rfl,rfl,rfl⟩ rfl rfl call440 rfl rfl rfl rfl
def clL:List Nat:=[154,156,157,158,160,161,162,163,221,222,366,376,377,378,440]
theorem aoq:∀ k∈clL,qG Tryz.prog tab k:=by
 intro k hk;simp only[clL,List.mem_cons,List.not_mem_nil,or_false] at hk;rcases hk with rfl|rfl|rfl|rfl|rfl|rfl|rfl|rfl|rfl|rfl|rfl|rfl|rfl|rfl|rfl
 exact amw
 exact amx
 exact amy
 exact amz
 exact amA
 exact amB
 exact amC
 exact amD
 exact amE
 exact amF
 exact amG
 exact amH
 exact amI
 exact amJ
 exact amK
noncomputable def aiw:Nat->Option (Bool×Func):=al4 Tryz.prog.funcs.toList clL
theorem aaX:∀ k c fn,aiw k=some (c,fn)->Tryz.prog.funcs[k]?=some fn/\(fn.body.isSome=true->∀ args w,(callFunc k args).run Tryz.prog w=.ok (.enter k args) w)/\(c=true->qG Tryz.prog tab k):=akM akO aoq
end Go.Proofs.YtlacmdnhabblcaaGreat
