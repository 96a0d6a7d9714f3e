import Derived.Test.YthfepelpmalckaaGreatRows
import Derived.Test.YthfepelpmalckaaGreatB06
set_option linter.all false
namespace Go.Proofs.YthfepelpmalckaaGreat
open Go Go.Pv
abbrev i0:PV:=.int .i64 0
abbrev b0:PV:=.bool false
abbrev n0:PV:=.sl 0 [] true
abbrev f0 (n:Nat):FI:=⟨n,1,false⟩
def tabL:List (Nat × TI):=[
 (3,⟨true,false,1,(some [i0]),(some [0]),.int .i64⟩),
 (26,⟨true,false,1,(some [n0]),none,.slice 1 8 (some [i0])⟩),
 (32,⟨true,true,19,(some [n0,n0,n0,n0,n0,n0,n0,i0,i0,i0,b0,i0,i0,i0,i0,.int .u64 0,n0,i0,i0]),none,.struct [f0 0,f0 1,f0 2,f0 3,f0 4,f0 5,f0 6,f0 7,f0 8,f0 9,f0 10,f0 11,f0 12,f0 13,f0 14,f0 15,f0 16,f0 17,f0 18]⟩),
 (51,⟨true,true,19,(some [i0,i0,i0,i0,i0,b0,b0,b0,b0,i0,i0,i0,i0,i0,i0,i0,b0,i0,i0]),(some [0,0,0,0,0,1,1,1,1,0,0,0,0,0,0,0,1,0,0]),.struct [f0 0,f0 1,f0 2,f0 3,f0 4,f0 5,f0 6,f0 7,f0 8,f0 9,⟨10,3,true⟩,f0 13,f0 14,f0 15,f0 16,f0 17,f0 18]⟩),
 (70,⟨true,true,17,(some [.str ⟨#[]⟩,i0,i0,i0,i0,i0,i0,i0,i0,i0,i0,n0,i0,i0,i0,n0,i0]),none,.struct [f0 0,⟨1,7,true⟩,f0 8,⟨9,3,true⟩,f0 12,f0 13,f0 14,f0 15,f0 16]⟩),
 (85,⟨true,true,15,(some [i0,i0,i0,i0,i0,i0,i0,i0,i0,i0,b0,b0,i0,i0,i0]),(some [0,0,0,0,0,0,0,0,0,0,1,1,0,0,0]),.struct [f0 0,f0 1,f0 2,f0 3,f0 4,f0 5,f0 6,f0 7,f0 8,f0 9,f0 10,f0 11,⟨12,3,true⟩]⟩),
 (25,⟨true,false,1,(some [n0]),none,.slice 19 128 (some [i0,i0,i0,i0,i0,b0,b0,b0,b0,i0,i0,i0,i0,i0,i0,i0,b0,i0,i0])⟩),
 (153,⟨true,true,20,(some [i0,i0,i0,.str ⟨#[]⟩,i0,i0,i0,i0,i0,i0,i0,.str ⟨#[]⟩,i0,i0,i0,i0,i0,i0,i0,i0]),(some [0,0,0,2,0,0,0,0,0,0,0,2,0,0,0,0,0,0,0,0]),.struct [f0 0,f0 1,f0 2,f0 3,⟨4,16,true⟩]⟩),
 (65,⟨true,true,24,(some [n0,n0,n0,n0,n0,n0,n0,i0,i0,i0,b0,i0,i0,i0,i0,.int .u64 0,n0,i0,i0,n0,n0,n0,n0,n0]),none,.struct [⟨0,19,true⟩,f0 19,f0 20,f0 21,f0 22,f0 23]⟩),
 (137,⟨true,true,72,(some [i0,i0,i0,i0,i0,i0,i0,i0,.str ⟨#[]⟩,i0,i0,i0,i0,i0,i0,i0,i0,n0,i0,i0,i0,i0,i0,i0,i0,b0,b0,i0,b0,i0,i0,i0,i0,i0,i0,i0,i0,i0,.str ⟨#[]⟩,i0,i0,i0,i0,i0,i0,i0,i0,b0,n0,n0,i0,i0,i0,i0,i0,i0,i0,i0,i0,.str ⟨#[]⟩,i0,i0,i0,i0,i0,i0,i0,i0,i0,i0,i0,i0]),none,.struct [f0 0,⟨1,16,true⟩,f0 17,⟨18,10,true⟩,f0 28,⟨29,18,true⟩,f0 47,f0 48,f0 49,⟨50,22,true⟩]⟩),
 (100,⟨true,true,16,(some [i0,i0,i0,i0,i0,i0,i0,.str ⟨#[]⟩,i0,i0,i0,i0,i0,i0,i0,i0]),(some [0,0,0,0,0,0,0,2,0,0,0,0,0,0,0,0]),.struct [f0 0,f0 1,f0 2,f0 3,f0 4,f0 5,f0 6,f0 7,f0 8,f0 9,⟨10,2,true⟩,⟨12,2,true⟩,⟨14,2,true⟩]⟩),
 (9,⟨true,false,1,(some [.str ⟨#[]⟩]),(some [2]),.str⟩),
 (52,⟨true,false,1,(some [n0]),none,.slice 1 16 (some [.str ⟨#[]⟩])⟩),
 (35,⟨true,false,1,(some [n0]),none,.slice 17 176 (some [.str ⟨#[]⟩,i0,i0,i0,i0,i0,i0,i0,i0,i0,i0,n0,i0,i0,i0,n0,i0])⟩),
 (37,⟨true,false,1,(some [n0]),none,.slice 3 24 (some [i0,i0,i0])⟩),
 (101,⟨true,false,1,(some [n0]),none,.slice 20 176 (some [i0,i0,i0,.str ⟨#[]⟩,i0,i0,i0,i0,i0,i0,i0,.str ⟨#[]⟩,i0,i0,i0,i0,i0,i0,i0,i0])⟩),
 (63,⟨true,false,1,(some [n0]),none,.slice 1 1 (some [b0])⟩),
 (4,⟨true,false,1,(some [b0]),(some [1]),.oth⟩),
 (54,⟨true,true,3,(some [i0,i0,n0]),none,.struct [f0 0,f0 1,f0 2]⟩),
 (42,⟨true,true,3,(some [i0,i0,i0]),(some [0,0,0]),.struct [f0 0,f0 1,f0 2]⟩),
 (277,⟨true,true,76,(some [i0,i0,i0,i0,i0,i0,i0,i0,i0,i0,i0,.str ⟨#[]⟩,i0,i0,i0,i0,i0,i0,i0,i0,n0,i0,i0,i0,i0,i0,i0,i0,b0,b0,i0,b0,i0,i0,i0,i0,i0,i0,i0,i0,i0,.str ⟨#[]⟩,i0,i0,i0,i0,i0,i0,i0,i0,b0,n0,n0,i0,i0,i0,i0,i0,i0,i0,i0,i0,.str ⟨#[]⟩,i0,i0,i0,i0,i0,i0,i0,i0,i0,i0,i0,i0,b0]),none,.struct [f0 0,f0 1,f0 2,⟨3,72,true⟩,f0 75]⟩),
 (58,⟨true,false,1,(some [n0]),none,.slice 72 640 (some [i0,i0,i0,i0,i0,i0,i0,i0,.str ⟨#[]⟩,i0,i0,i0,i0,i0,i0,i0,i0,n0,i0,i0,i0,i0,i0,i0,i0,b0,b0,i0,b0,i0,i0,i0,i0,i0,i0,i0,i0,i0,.str ⟨#[]⟩,i0,i0,i0,i0,i0,i0,i0,i0,b0,n0,n0,i0,i0,i0,i0,i0,i0,i0,i0,i0,.str ⟨#[]⟩,i0,i0,i0,i0,i0,i0,i0,i0,i0,i0,i0,i0])⟩),
 (282,⟨true,true,55,(some [n0,n0,n0,n0,n0,n0,n0,i0,i0,i0,b0,i0,i0,i0,i0,.int .u64 0,n0,i0,i0,n0,n0,n0,n0,n0,n0,n0,i0,i0,i0,b0,i0,i0,i0,i0,.int .u64 0,n0,i0,i0,n0,n0,i0,i0,i0,i0,i0,i0,i0,i0,i0,i0,b0,b0,i0,i0,i0]),none,.struct [⟨0,19,true⟩,⟨19,19,true⟩,f0 38,f0 39,⟨40,15,true⟩]⟩),
 (117,⟨true,true,24,(some [n0,n0,n0,n0,n0,n0,n0,i0,i0,i0,b0,i0,i0,i0,i0,.int .u64 0,n0,i0,i0,n0,n0,n0,n0,n0]),none,.struct [⟨0,19,true⟩,f0 19,f0 20,f0 21,f0 22,f0 23]⟩),
 (133,⟨true,false,1,(some [n0]),none,.slice 64 560 (some [i0,i0,i0,i0,i0,i0,i0,i0,i0,i0,.str ⟨#[]⟩,i0,i0,i0,i0,i0,i0,i0,i0,i0,i0,i0,i0,i0,i0,i0,i0,i0,i0,.str ⟨#[]⟩,i0,i0,i0,i0,i0,i0,i0,i0,i0,i0,.str ⟨#[]⟩,i0,i0,i0,i0,i0,i0,i0,.str ⟨#[]⟩,i0,i0,i0,i0,i0,i0,i0,i0,i0,i0,i0,i0,i0,i0,n0])⟩),
 (24,⟨true,false,1,(some [n0]),none,.slice 14 152 (some [i0,i0,i0,i0,i0,i0,i0,i0,i0,b0,b0,n0,n0,n0])⟩),
 (80,⟨true,true,7,(some [i0,i0,i0,i0,i0,i0,n0]),none,.struct [f0 0,f0 1,f0 2,f0 3,f0 4,f0 5,f0 6]⟩),
 (169,⟨true,true,23,(some [i0,i0,i0,i0,b0,n0,i0,i0,i0,i0,i0,i0,i0,.str ⟨#[]⟩,i0,i0,i0,i0,i0,i0,i0,i0,n0]),none,.struct [f0 0,f0 1,f0 2,f0 3,f0 4,f0 5,⟨6,16,true⟩,f0 22]⟩),
 (62,⟨true,false,1,(some [n0]),none,.slice 23 224 (some [i0,i0,i0,i0,b0,n0,i0,i0,i0,i0,i0,i0,i0,.str ⟨#[]⟩,i0,i0,i0,i0,i0,i0,i0,i0,n0])⟩),
 (272,⟨true,false,1,(some [n0]),none,.slice 76 672 (some [i0,i0,i0,i0,i0,i0,i0,i0,i0,i0,i0,.str ⟨#[]⟩,i0,i0,i0,i0,i0,i0,i0,i0,n0,i0,i0,i0,i0,i0,i0,i0,b0,b0,i0,b0,i0,i0,i0,i0,i0,i0,i0,i0,i0,.str ⟨#[]⟩,i0,i0,i0,i0,i0,i0,i0,i0,b0,n0,n0,i0,i0,i0,i0,i0,i0,i0,i0,i0,.str ⟨#[]⟩,i0,i0,i0,i0,i0,i0,i0,i0,i0,i0,i0,i0,b0])⟩),
 (48,⟨true,false,1,(some [n0]),none,.slice 1 24 (some [n0])⟩),
 (98,⟨true,true,2,(some [i0,i0]),(some [0,0]),.struct [f0 0,f0 1]⟩),
 (103,⟨true,true,23,(some [i0,i0,i0,i0,b0,n0,i0,i0,i0,i0,i0,i0,i0,.str ⟨#[]⟩,i0,i0,i0,i0,i0,i0,i0,i0,n0]),none,.struct [f0 0,f0 1,f0 2,f0 3,f0 4,f0 5,⟨6,16,true⟩,f0 22]⟩),
 (158,⟨true,false,1,(some [n0]),none,.slice 1 24 (some [n0])⟩),
 (135,⟨true,true,22,(some [i0,i0,i0,i0,i0,i0,i0,i0,i0,.str ⟨#[]⟩,i0,i0,i0,i0,i0,i0,i0,i0,i0,i0,i0,i0]),(some [0,0,0,0,0,0,0,0,0,2,0,0,0,0,0,0,0,0,0,0,0,0]),.struct [f0 0,f0 1,⟨2,16,true⟩,f0 18,f0 19,f0 20,f0 21]⟩),
 (92,⟨true,true,14,(some [i0,i0,i0,i0,i0,i0,i0,i0,i0,b0,b0,n0,n0,n0]),none,.struct [f0 0,f0 1,f0 2,⟨3,6,true⟩,f0 9,f0 10,f0 11,f0 12,f0 13]⟩),
 (57,⟨true,true,7,(some [i0,i0,i0,i0,i0,i0,i0]),(some [0,0,0,0,0,0,0]),.struct [f0 0,f0 1,⟨2,5,true⟩]⟩),
 (49,⟨true,true,3,(some [i0,i0,i0]),(some [0,0,0]),.arr 3 1 false⟩),
 (115,⟨true,false,1,(some [n0]),none,.slice 23 224 (some [i0,i0,i0,i0,b0,n0,i0,i0,i0,i0,i0,i0,i0,.str ⟨#[]⟩,i0,i0,i0,i0,i0,i0,i0,i0,n0])⟩),
 (5,⟨true,false,1,(some [.int .u8 0]),(some [0]),.int .u8⟩),
 (28,⟨true,false,1,(some [n0]),none,.slice 89 768 (some [i0,i0,i0,i0,i0,i0,i0,i0,i0,i0,.str ⟨#[]⟩,i0,i0,i0,i0,i0,i0,i0,i0,n0,i0,i0,i0,i0,i0,i0,i0,b0,b0,i0,b0,i0,i0,i0,i0,i0,i0,i0,i0,i0,.str ⟨#[]⟩,i0,i0,i0,i0,i0,i0,i0,i0,b0,n0,n0,i0,i0,i0,i0,i0,i0,i0,i0,i0,.str ⟨#[]⟩,i0,i0,i0,i0,i0,i0,i0,i0,i0,i0,i0,i0,i0,i0,i0,i0,i0,i0,i0,i0,i0,i0,b0,b0,i0,i0,i0])⟩),
 (27,⟨true,false,1,(some [n0]),none,.slice 94 824 (some [i0,i0,i0,i0,i0,b0,i0,i0,i0,i0,i0,i0,i0,i0,.str ⟨#[]⟩,i0,i0,i0,i0,i0,i0,i0,i0,n0,i0,i0,i0,i0,i0,i0,i0,b0,b0,i0,b0,i0,i0,i0,i0,i0,i0,i0,i0,i0,.str ⟨#[]⟩,i0,i0,i0,i0,i0,i0,i0,i0,b0,n0,n0,i0,i0,i0,i0,i0,i0,i0,i0,i0,.str ⟨#[]⟩,i0,i0,i0,i0,i0,i0,i0,i0,i0,i0,i0,i0,n0,i0,i0,i0,i0,i0,i0,i0,i0,i0,i0,b0,b0,i0,i0,i0])⟩),
 (60,⟨true,true,17,(some [.str ⟨#[]⟩,b0,i0,i0,i0,i0,i0,i0,i0,i0,i0,i0,n0,i0,i0,i0,n0]),none,.struct [f0 0,f0 1,⟨2,7,true⟩,f0 9,⟨10,3,true⟩,f0 13,f0 14,f0 15,f0 16]⟩),
 (29,⟨true,false,1,(some [n0]),none,.slice 6 80 (some [i0,i0,i0,i0,n0,n0])⟩),
 (123,⟨true,false,1,(some [.int .u64 0]),(some [0]),.int .u64⟩),
 (183,⟨true,false,1,(some [.int .u32 0]),(some [0]),.int .u32⟩),
 (30,⟨true,false,1,(some [.int .u64 0]),(some [0]),.int .u64⟩),
 (150,⟨true,true,6,(some [i0,i0,i0,i0,n0,n0]),none,.struct [f0 0,f0 1,f0 2,f0 3,f0 4,f0 5]⟩),
 (218,⟨true,false,1,(some [.int .u64 0]),(some [0]),.int .u64⟩),
 (132,⟨true,false,1,(some [n0]),none,.slice 18 144 (some [b0,b0,i0,i0,i0,i0,i0,i0,i0,.str ⟨#[]⟩,i0,i0,i0,i0,i0,i0,i0,i0])⟩),
 (147,⟨true,true,89,(some [i0,i0,i0,i0,i0,i0,i0,i0,i0,i0,.str ⟨#[]⟩,i0,i0,i0,i0,i0,i0,i0,i0,n0,i0,i0,i0,i0,i0,i0,i0,b0,b0,i0,b0,i0,i0,i0,i0,i0,i0,i0,i0,i0,.str ⟨#[]⟩,i0,i0,i0,i0,i0,i0,i0,i0,b0,n0,n0,i0,i0,i0,i0,i0,i0,i0,i0,i0,.str ⟨#[]⟩,i0,i0,i0,i0,i0,i0,i0,i0,i0,i0,i0,i0,i0,i0,i0,i0,i0,i0,i0,i0,i0,i0,b0,b0,i0,i0,i0]),none,.struct [f0 0,f0 1,⟨2,72,true⟩,⟨74,15,true⟩]⟩),
 (194,⟨true,true,64,(some [i0,i0,i0,i0,i0,i0,i0,i0,i0,i0,.str ⟨#[]⟩,i0,i0,i0,i0,i0,i0,i0,i0,i0,i0,i0,i0,i0,i0,i0,i0,i0,i0,.str ⟨#[]⟩,i0,i0,i0,i0,i0,i0,i0,i0,i0,i0,.str ⟨#[]⟩,i0,i0,i0,i0,i0,i0,i0,.str ⟨#[]⟩,i0,i0,i0,i0,i0,i0,i0,i0,i0,i0,i0,i0,i0,i0,n0]),none,.struct [f0 0,⟨1,18,true⟩,⟨19,19,true⟩,f0 38,f0 39,f0 40,⟨41,16,true⟩,⟨57,6,true⟩,f0 63]⟩),
 (87,⟨true,true,11,(some [n0,i0,i0,i0,i0,i0,i0,i0,n0,b0,b0]),none,.struct [f0 0,f0 1,⟨2,7,true⟩,f0 9,f0 10]⟩),
 (211,⟨true,true,3,(some [b0,n0,n0]),none,.struct [f0 0,f0 1,f0 2]⟩),
 (140,⟨true,true,94,(some [i0,i0,i0,i0,i0,b0,i0,i0,i0,i0,i0,i0,i0,i0,.str ⟨#[]⟩,i0,i0,i0,i0,i0,i0,i0,i0,n0,i0,i0,i0,i0,i0,i0,i0,b0,b0,i0,b0,i0,i0,i0,i0,i0,i0,i0,i0,i0,.str ⟨#[]⟩,i0,i0,i0,i0,i0,i0,i0,i0,b0,n0,n0,i0,i0,i0,i0,i0,i0,i0,i0,i0,.str ⟨#[]⟩,i0,i0,i0,i0,i0,i0,i0,i0,i0,i0,i0,i0,n0,i0,i0,i0,i0,i0,i0,i0,i0,i0,i0,b0,b0,i0,i0,i0]),none,.struct [f0 0,f0 1,f0 2,f0 3,f0 4,f0 5,⟨6,72,true⟩,f0 78,⟨79,15,true⟩]⟩),
 (55,⟨true,true,5,(some [i0,i0,i0,i0,i0]),(some [0,0,0,0,0]),.arr 5 1 false⟩),
 (131,⟨true,true,18,(some [i0,i0,i0,i0,i0,i0,i0,i0,i0,.str ⟨#[]⟩,i0,i0,i0,i0,i0,i0,i0,i0]),(some [0,0,0,0,0,0,0,0,0,2,0,0,0,0,0,0,0,0]),.struct [f0 0,f0 1,⟨2,16,true⟩]⟩),
 (23,⟨true,false,1,(some [n0]),none,.slice 17 176 (some [.str ⟨#[]⟩,b0,i0,i0,i0,i0,i0,i0,i0,i0,i0,i0,n0,i0,i0,i0,n0])⟩),
 (138,⟨true,false,1,(some [n0]),none,.slice 2 16 (some [i0,i0])⟩),
 (209,⟨true,false,1,(some [.top]),none,.map 3 [b0,n0,n0]⟩),
 (39,⟨true,false,1,(some [i0]),(some [0]),.int .i64⟩),
 (76,⟨true,false,1,(some [.nilf]),none,.oth⟩),
 (268,⟨true,false,1,(some [.nilp]),none,.ptr⟩),
 (334,⟨true,false,1,(some [n0]),none,.slice 1 1 (some [.int .u8 0])⟩),
 (175,⟨true,false,1,(some [i0]),(some [0]),.int .i64⟩),
 (320,⟨true,false,1,(some [.nilp]),none,.ptr⟩),
 (336,⟨true,true,6,(some [.str ⟨#[]⟩,.str ⟨#[]⟩,.str ⟨#[]⟩,.str ⟨#[]⟩,.str ⟨#[]⟩,.str ⟨#[]⟩]),(some [2,2,2,2,2,2]),.arr 6 1 false⟩),
 (335,⟨true,true,2,(some [.str ⟨#[]⟩,.str ⟨#[]⟩]),(some [2,2]),.arr 2 1 false⟩),
 (167,⟨true,false,1,(some [.nilf]),none,.oth⟩),
 (46,⟨true,false,1,(some [.nilp]),none,.ptr⟩)]
def tabF (t:TypeId):TI:=lkT tabL t
def glF (_:Nat):Option (List PV):=none
theorem tabLOK:madeT Tryz.prog tabL=infosT tabL:=by kernel_rfl
def dclL:List (Nat × Nat):=[]
def tabx (pas:Nat) (cut:List Nat) (own:List (List (Nat × Bool))):Tab:=⟨tabF,glF,pas,cut,0,own,dclL⟩
theorem tabxOK (pas:Nat) (cut:List Nat) (own:List (List (Nat × Bool))):TabOK Tryz.prog (tabx pas cut own):=tabOK_of (gl:=glF) (pas:=pas) (cut:=cut) (nar:=0) (own:=own) (dcl:=dclL) tabL tabLOK
def tab:Tab:=⟨tabF,glF,0,[],0,[],dclL⟩
theorem tabOK:TabOK Tryz.prog tab:=tabxOK 0 [] []
def tabc (cut:List Nat):Tab:=⟨tabF,glF,0,cut,0,[],dclL⟩
theorem tabcOK (cut:List Nat):TabOK Tryz.prog (tabc cut):=tabxOK 0 cut []
def tabn (cut:List Nat) (nar:Nat):Tab:=⟨tabF,glF,0,cut,nar,[],dclL⟩
theorem tabnOK (cut:List Nat) (nar:Nat):TabOK Tryz.prog (tabn cut nar):=tabOK_of (gl:=glF) (pas:=0) (cut:=cut) (nar:=nar) (own:=[]) (dcl:=dclL) tabL tabLOK
def qdL:List Nat→List (Nat × Nat)
 | []=>dclL
 | d::l=>(d,9)::qdL l
def tabq (cut:List Nat) (qd:List Nat):Tab:=⟨tabF,glF,0,cut,0,[],qdL qd⟩
theorem tabqOK (cut:List Nat) (qd:List Nat):TabOK Tryz.prog (tabq cut qd):=tabOK_of (gl:=glF) (pas:=0) (cut:=cut) (nar:=0) (own:=[]) (dcl:=qdL qd) tabL tabLOK
theorem wf:PWf Tryz.prog:=wf_of (by kernel_rfl) (by kernel_rfl)
end Go.Proofs.YthfepelpmalckaaGreat
namespace Go.Proofs.YthfepelpmalckaaGreat
open Go Go.Pv
set_option maxRecDepth 100000
set_option maxHeartbeats 2000000
structure GPlayer where
 life:Int
 venom:Int
 lands:Int
 pool:Arr6 Int
 failed:Bool
 lost:Bool
 library:List Int
 hand:List Int
 graveyard:List Int
def eGPlayer (M:EncM) (x:GPlayer):List PV:=[.si .i64 x.life,.si .i64 x.venom,.si .i64 x.lands,.si .i64 x.pool.a0,.si .i64 x.pool.a1,.si .i64 x.pool.a2,.si .i64 x.pool.a3,.si .i64 x.pool.a4,.si .i64 x.pool.a5,.sb x.failed,.sb x.lost,.sl 1 (M.m Int (eI .i64) x.library) false,.sl 1 (M.m Int (eI .i64) x.hand) false,.sl 1 (M.m Int (eI .i64) x.graveyard) false]
def zGPlayer:GPlayer:=GPlayer.mk 0 0 0 zArr6I false false ([]) ([]) ([])
structure GObject where
 id:Int
 card:Int
 owner:Int
 control:Int
 zone:Int
 token:Bool
 tapped:Bool
 sick:Bool
 deadly:Bool
 damage:Int
 counters:Arr3 Int
 stamp:Int
 copy:Int
 attack:Int
 blocked:Bool
 blocks:Int
 shield:Int
def eGObject (M:EncM) (x:GObject):List PV:=[.si .i64 x.id,.si .i64 x.card,.si .i64 x.owner,.si .i64 x.control,.si .i64 x.zone,.sb x.token,.sb x.tapped,.sb x.sick,.sb x.deadly,.si .i64 x.damage,.si .i64 x.counters.a0,.si .i64 x.counters.a1,.si .i64 x.counters.a2,.si .i64 x.stamp,.si .i64 x.copy,.si .i64 x.attack,.sb x.blocked,.si .i64 x.blocks,.si .i64 x.shield]
def zGObject:GObject:=GObject.mk 0 0 0 0 0 false false false false 0 zArr3I 0 0 0 false 0 0
structure GBound where
 kind:Int
 n:Int
def eGBound (M:EncM) (x:GBound):List PV:=[.si .i64 x.kind,.si .i64 x.n]
def zGBound:GBound:=GBound.mk 0 0
structure GFilter where
 zone:Int
 who:Int
 self:Int
 types:Int
 notTypes:Int
 colors:Int
 notColors:Int
 sub:ByteArray
 keys:Int
 tap:Int
 power:GBound
 tough:GBound
 value:GBound
def eGFilter (M:EncM) (x:GFilter):List PV:=[.si .i64 x.zone,.si .i64 x.who,.si .i64 x.self,.si .i64 x.types,.si .i64 x.notTypes,.si .i64 x.colors,.si .i64 x.notColors,.str x.sub,.si .i64 x.keys,.si .i64 x.tap,.si .i64 x.power.kind,.si .i64 x.power.n,.si .i64 x.tough.kind,.si .i64 x.tough.n,.si .i64 x.value.kind,.si .i64 x.value.n]
def zGFilter:GFilter:=GFilter.mk 0 0 0 0 0 0 0 (bs []) 0 0 zGBound zGBound zGBound
structure GMod where
 kind:Int
 n:Int
 m:Int
 sub:ByteArray
 filter:GFilter
def eGMod (M:EncM) (x:GMod):List PV:=[.si .i64 x.kind,.si .i64 x.n,.si .i64 x.m,.str x.sub,.si .i64 x.filter.zone,.si .i64 x.filter.who,.si .i64 x.filter.self,.si .i64 x.filter.types,.si .i64 x.filter.notTypes,.si .i64 x.filter.colors,.si .i64 x.filter.notColors,.str x.filter.sub,.si .i64 x.filter.keys,.si .i64 x.filter.tap,.si .i64 x.filter.power.kind,.si .i64 x.filter.power.n,.si .i64 x.filter.tough.kind,.si .i64 x.filter.tough.n,.si .i64 x.filter.value.kind,.si .i64 x.filter.value.n]
def zGMod:GMod:=GMod.mk 0 0 0 (bs []) zGFilter
structure GCost where
 generic:Int
 x:Int
 color:Arr5 Int
def eGCost (M:EncM) (x:GCost):List PV:=[.si .i64 x.generic,.si .i64 x.x,.si .i64 x.color.a0,.si .i64 x.color.a1,.si .i64 x.color.a2,.si .i64 x.color.a3,.si .i64 x.color.a4]
def zGCost:GCost:=GCost.mk 0 0 zArr5I
structure GPrice where
 mana:GCost
 tap:Bool
 sacrifice:Bool
 life:Int
def eGPrice (M:EncM) (x:GPrice):List PV:=[.si .i64 x.mana.generic,.si .i64 x.mana.x,.si .i64 x.mana.color.a0,.si .i64 x.mana.color.a1,.si .i64 x.mana.color.a2,.si .i64 x.mana.color.a3,.si .i64 x.mana.color.a4,.sb x.tap,.sb x.sacrifice,.si .i64 x.life]
def zGPrice:GPrice:=GPrice.mk zGCost false false 0
structure GTrigger where
 when:Int
 who:Int
 filter:GFilter
def eGTrigger (M:EncM) (x:GTrigger):List PV:=[.si .i64 x.when,.si .i64 x.who,.si .i64 x.filter.zone,.si .i64 x.filter.who,.si .i64 x.filter.self,.si .i64 x.filter.types,.si .i64 x.filter.notTypes,.si .i64 x.filter.colors,.si .i64 x.filter.notColors,.str x.filter.sub,.si .i64 x.filter.keys,.si .i64 x.filter.tap,.si .i64 x.filter.power.kind,.si .i64 x.filter.power.n,.si .i64 x.filter.tough.kind,.si .i64 x.filter.tough.n,.si .i64 x.filter.value.kind,.si .i64 x.filter.value.n]
def zGTrigger:GTrigger:=GTrigger.mk 0 0 zGFilter
structure GSpec where
 player:Bool
 object:Bool
 filter:GFilter
def eGSpec (M:EncM) (x:GSpec):List PV:=[.sb x.player,.sb x.object,.si .i64 x.filter.zone,.si .i64 x.filter.who,.si .i64 x.filter.self,.si .i64 x.filter.types,.si .i64 x.filter.notTypes,.si .i64 x.filter.colors,.si .i64 x.filter.notColors,.str x.filter.sub,.si .i64 x.filter.keys,.si .i64 x.filter.tap,.si .i64 x.filter.power.kind,.si .i64 x.filter.power.n,.si .i64 x.filter.tough.kind,.si .i64 x.filter.tough.n,.si .i64 x.filter.value.kind,.si .i64 x.filter.value.n]
def zGSpec:GSpec:=GSpec.mk false false zGFilter
structure GRef where
 kind:Int
 n:Int
 filter:GFilter
def eGRef (M:EncM) (x:GRef):List PV:=[.si .i64 x.kind,.si .i64 x.n,.si .i64 x.filter.zone,.si .i64 x.filter.who,.si .i64 x.filter.self,.si .i64 x.filter.types,.si .i64 x.filter.notTypes,.si .i64 x.filter.colors,.si .i64 x.filter.notColors,.str x.filter.sub,.si .i64 x.filter.keys,.si .i64 x.filter.tap,.si .i64 x.filter.power.kind,.si .i64 x.filter.power.n,.si .i64 x.filter.tough.kind,.si .i64 x.filter.tough.n,.si .i64 x.filter.value.kind,.si .i64 x.filter.value.n]
def zGRef:GRef:=GRef.mk 0 0 zGFilter
structure GAmount where
 kind:Int
 n:Int
 counter:Int
 filter:GFilter
def eGAmount (M:EncM) (x:GAmount):List PV:=[.si .i64 x.kind,.si .i64 x.n,.si .i64 x.counter,.si .i64 x.filter.zone,.si .i64 x.filter.who,.si .i64 x.filter.self,.si .i64 x.filter.types,.si .i64 x.filter.notTypes,.si .i64 x.filter.colors,.si .i64 x.filter.notColors,.str x.filter.sub,.si .i64 x.filter.keys,.si .i64 x.filter.tap,.si .i64 x.filter.power.kind,.si .i64 x.filter.power.n,.si .i64 x.filter.tough.kind,.si .i64 x.filter.tough.n,.si .i64 x.filter.value.kind,.si .i64 x.filter.value.n]
def zGAmount:GAmount:=GAmount.mk 0 0 0 zGFilter
structure GEffect where
 op:Int
 ref:GRef
 amount:GAmount
 counter:Int
 zone:Int
 card:ByteArray
 filter:GFilter
 pool:Arr6 Int
 mods:List GMod
def eGEffect (M:EncM) (x:GEffect):List PV:=[.si .i64 x.op,.si .i64 x.ref.kind,.si .i64 x.ref.n,.si .i64 x.ref.filter.zone,.si .i64 x.ref.filter.who,.si .i64 x.ref.filter.self,.si .i64 x.ref.filter.types,.si .i64 x.ref.filter.notTypes,.si .i64 x.ref.filter.colors,.si .i64 x.ref.filter.notColors,.str x.ref.filter.sub,.si .i64 x.ref.filter.keys,.si .i64 x.ref.filter.tap,.si .i64 x.ref.filter.power.kind,.si .i64 x.ref.filter.power.n,.si .i64 x.ref.filter.tough.kind,.si .i64 x.ref.filter.tough.n,.si .i64 x.ref.filter.value.kind,.si .i64 x.ref.filter.value.n,.si .i64 x.amount.kind,.si .i64 x.amount.n,.si .i64 x.amount.counter,.si .i64 x.amount.filter.zone,.si .i64 x.amount.filter.who,.si .i64 x.amount.filter.self,.si .i64 x.amount.filter.types,.si .i64 x.amount.filter.notTypes,.si .i64 x.amount.filter.colors,.si .i64 x.amount.filter.notColors,.str x.amount.filter.sub,.si .i64 x.amount.filter.keys,.si .i64 x.amount.filter.tap,.si .i64 x.amount.filter.power.kind,.si .i64 x.amount.filter.power.n,.si .i64 x.amount.filter.tough.kind,.si .i64 x.amount.filter.tough.n,.si .i64 x.amount.filter.value.kind,.si .i64 x.amount.filter.value.n,.si .i64 x.counter,.si .i64 x.zone,.str x.card,.si .i64 x.filter.zone,.si .i64 x.filter.who,.si .i64 x.filter.self,.si .i64 x.filter.types,.si .i64 x.filter.notTypes,.si .i64 x.filter.colors,.si .i64 x.filter.notColors,.str x.filter.sub,.si .i64 x.filter.keys,.si .i64 x.filter.tap,.si .i64 x.filter.power.kind,.si .i64 x.filter.power.n,.si .i64 x.filter.tough.kind,.si .i64 x.filter.tough.n,.si .i64 x.filter.value.kind,.si .i64 x.filter.value.n,.si .i64 x.pool.a0,.si .i64 x.pool.a1,.si .i64 x.pool.a2,.si .i64 x.pool.a3,.si .i64 x.pool.a4,.si .i64 x.pool.a5,.sl 20 (M.m GMod (eGMod M) x.mods) false]
def zGEffect:GEffect:=GEffect.mk 0 zGRef zGAmount 0 0 (bs []) zGFilter zArr6I ([])
structure GReplace where
 on:Int
 who:Int
 filter:GFilter
 doF:Int
 n:Int
 zone:Int
 counter:Int
def eGReplace (M:EncM) (x:GReplace):List PV:=[.si .i64 x.on,.si .i64 x.who,.si .i64 x.filter.zone,.si .i64 x.filter.who,.si .i64 x.filter.self,.si .i64 x.filter.types,.si .i64 x.filter.notTypes,.si .i64 x.filter.colors,.si .i64 x.filter.notColors,.str x.filter.sub,.si .i64 x.filter.keys,.si .i64 x.filter.tap,.si .i64 x.filter.power.kind,.si .i64 x.filter.power.n,.si .i64 x.filter.tough.kind,.si .i64 x.filter.tough.n,.si .i64 x.filter.value.kind,.si .i64 x.filter.value.n,.si .i64 x.doF,.si .i64 x.n,.si .i64 x.zone,.si .i64 x.counter]
def zGReplace:GReplace:=GReplace.mk 0 0 zGFilter 0 0 0 0
structure GAbility where
 kind:Int
 filter:GFilter
 mods:List GMod
 price:GPrice
 slow:Bool
 trigger:GTrigger
 may:Bool
 specs:List GSpec
 effects:List GEffect
 replace:GReplace
def eGAbility (M:EncM) (x:GAbility):List PV:=[.si .i64 x.kind,.si .i64 x.filter.zone,.si .i64 x.filter.who,.si .i64 x.filter.self,.si .i64 x.filter.types,.si .i64 x.filter.notTypes,.si .i64 x.filter.colors,.si .i64 x.filter.notColors,.str x.filter.sub,.si .i64 x.filter.keys,.si .i64 x.filter.tap,.si .i64 x.filter.power.kind,.si .i64 x.filter.power.n,.si .i64 x.filter.tough.kind,.si .i64 x.filter.tough.n,.si .i64 x.filter.value.kind,.si .i64 x.filter.value.n,.sl 20 (M.m GMod (eGMod M) x.mods) false,.si .i64 x.price.mana.generic,.si .i64 x.price.mana.x,.si .i64 x.price.mana.color.a0,.si .i64 x.price.mana.color.a1,.si .i64 x.price.mana.color.a2,.si .i64 x.price.mana.color.a3,.si .i64 x.price.mana.color.a4,.sb x.price.tap,.sb x.price.sacrifice,.si .i64 x.price.life,.sb x.slow,.si .i64 x.trigger.when,.si .i64 x.trigger.who,.si .i64 x.trigger.filter.zone,.si .i64 x.trigger.filter.who,.si .i64 x.trigger.filter.self,.si .i64 x.trigger.filter.types,.si .i64 x.trigger.filter.notTypes,.si .i64 x.trigger.filter.colors,.si .i64 x.trigger.filter.notColors,.str x.trigger.filter.sub,.si .i64 x.trigger.filter.keys,.si .i64 x.trigger.filter.tap,.si .i64 x.trigger.filter.power.kind,.si .i64 x.trigger.filter.power.n,.si .i64 x.trigger.filter.tough.kind,.si .i64 x.trigger.filter.tough.n,.si .i64 x.trigger.filter.value.kind,.si .i64 x.trigger.filter.value.n,.sb x.may,.sl 18 (M.m GSpec (eGSpec M) x.specs) false,.sl 64 (M.m GEffect (eGEffect M) x.effects) false,.si .i64 x.replace.on,.si .i64 x.replace.who,.si .i64 x.replace.filter.zone,.si .i64 x.replace.filter.who,.si .i64 x.replace.filter.self,.si .i64 x.replace.filter.types,.si .i64 x.replace.filter.notTypes,.si .i64 x.replace.filter.colors,.si .i64 x.replace.filter.notColors,.str x.replace.filter.sub,.si .i64 x.replace.filter.keys,.si .i64 x.replace.filter.tap,.si .i64 x.replace.filter.power.kind,.si .i64 x.replace.filter.power.n,.si .i64 x.replace.filter.tough.kind,.si .i64 x.replace.filter.tough.n,.si .i64 x.replace.filter.value.kind,.si .i64 x.replace.filter.value.n,.si .i64 x.replace.doF,.si .i64 x.replace.n,.si .i64 x.replace.zone,.si .i64 x.replace.counter]
def zGAbility:GAbility:=GAbility.mk 0 zGFilter ([]) zGPrice false zGTrigger false ([]) ([]) zGReplace
structure GTarget where
 object:Int
 player:Int
def eGTarget (M:EncM) (x:GTarget):List PV:=[.si .i64 x.object,.si .i64 x.player]
def zGTarget:GTarget:=GTarget.mk 0 0
structure GEvent where
 kind:Int
 source:Int
 object:Int
 player:Int
 amount:Int
 fromF:Int
 to:Int
 cause:Int
 counter:Int
 card:Int
 combat:Bool
 tapped:Bool
 extra:Arr3 Int
def eGEvent (M:EncM) (x:GEvent):List PV:=[.si .i64 x.kind,.si .i64 x.source,.si .i64 x.object,.si .i64 x.player,.si .i64 x.amount,.si .i64 x.fromF,.si .i64 x.to,.si .i64 x.cause,.si .i64 x.counter,.si .i64 x.card,.sb x.combat,.sb x.tapped,.si .i64 x.extra.a0,.si .i64 x.extra.a1,.si .i64 x.extra.a2]
def zGEvent:GEvent:=GEvent.mk 0 0 0 0 0 0 0 0 0 0 false false zArr3I
structure GItem where
 id:Int
 kind:Int
 source:Int
 control:Int
 x:Int
 copy:Bool
 ability:GAbility
 targets:List GTarget
 event:GEvent
def eGItem (M:EncM) (x:GItem):List PV:=[.si .i64 x.id,.si .i64 x.kind,.si .i64 x.source,.si .i64 x.control,.si .i64 x.x,.sb x.copy,.si .i64 x.ability.kind,.si .i64 x.ability.filter.zone,.si .i64 x.ability.filter.who,.si .i64 x.ability.filter.self,.si .i64 x.ability.filter.types,.si .i64 x.ability.filter.notTypes,.si .i64 x.ability.filter.colors,.si .i64 x.ability.filter.notColors,.str x.ability.filter.sub,.si .i64 x.ability.filter.keys,.si .i64 x.ability.filter.tap,.si .i64 x.ability.filter.power.kind,.si .i64 x.ability.filter.power.n,.si .i64 x.ability.filter.tough.kind,.si .i64 x.ability.filter.tough.n,.si .i64 x.ability.filter.value.kind,.si .i64 x.ability.filter.value.n,.sl 20 (M.m GMod (eGMod M) x.ability.mods) false,.si .i64 x.ability.price.mana.generic,.si .i64 x.ability.price.mana.x,.si .i64 x.ability.price.mana.color.a0,.si .i64 x.ability.price.mana.color.a1,.si .i64 x.ability.price.mana.color.a2,.si .i64 x.ability.price.mana.color.a3,.si .i64 x.ability.price.mana.color.a4,.sb x.ability.price.tap,.sb x.ability.price.sacrifice,.si .i64 x.ability.price.life,.sb x.ability.slow,.si .i64 x.ability.trigger.when,.si .i64 x.ability.trigger.who,.si .i64 x.ability.trigger.filter.zone,.si .i64 x.ability.trigger.filter.who,.si .i64 x.ability.trigger.filter.self,.si .i64 x.ability.trigger.filter.types,.si .i64 x.ability.trigger.filter.notTypes,.si .i64 x.ability.trigger.filter.colors,.si .i64 x.ability.trigger.filter.notColors,.str x.ability.trigger.filter.sub,.si .i64 x.ability.trigger.filter.keys,.si .i64 x.ability.trigger.filter.tap,.si .i64 x.ability.trigger.filter.power.kind,.si .i64 x.ability.trigger.filter.power.n,.si .i64 x.ability.trigger.filter.tough.kind,.si .i64 x.ability.trigger.filter.tough.n,.si .i64 x.ability.trigger.filter.value.kind,.si .i64 x.ability.trigger.filter.value.n,.sb x.ability.may,.sl 18 (M.m GSpec (eGSpec M) x.ability.specs) false,.sl 64 (M.m GEffect (eGEffect M) x.ability.effects) false,.si .i64 x.ability.replace.on,.si .i64 x.ability.replace.who,.si .i64 x.ability.replace.filter.zone,.si .i64 x.ability.replace.filter.who,.si .i64 x.ability.replace.filter.self,.si .i64 x.ability.replace.filter.types,.si .i64 x.ability.replace.filter.notTypes,.si .i64 x.ability.replace.filter.colors,.si .i64 x.ability.replace.filter.notColors,.str x.ability.replace.filter.sub,.si .i64 x.ability.replace.filter.keys,.si .i64 x.ability.replace.filter.tap,.si .i64 x.ability.replace.filter.power.kind,.si .i64 x.ability.replace.filter.power.n,.si .i64 x.ability.replace.filter.tough.kind,.si .i64 x.ability.replace.filter.tough.n,.si .i64 x.ability.replace.filter.value.kind,.si .i64 x.ability.replace.filter.value.n,.si .i64 x.ability.replace.doF,.si .i64 x.ability.replace.n,.si .i64 x.ability.replace.zone,.si .i64 x.ability.replace.counter,.sl 2 (M.m GTarget (eGTarget M) x.targets) false,.si .i64 x.event.kind,.si .i64 x.event.source,.si .i64 x.event.object,.si .i64 x.event.player,.si .i64 x.event.amount,.si .i64 x.event.fromF,.si .i64 x.event.to,.si .i64 x.event.cause,.si .i64 x.event.counter,.si .i64 x.event.card,.sb x.event.combat,.sb x.event.tapped,.si .i64 x.event.extra.a0,.si .i64 x.event.extra.a1,.si .i64 x.event.extra.a2]
def zGItem:GItem:=GItem.mk 0 0 0 0 0 false zGAbility ([]) zGEvent
structure GWaiting where
 source:Int
 control:Int
 ability:GAbility
 event:GEvent
def eGWaiting (M:EncM) (x:GWaiting):List PV:=[.si .i64 x.source,.si .i64 x.control,.si .i64 x.ability.kind,.si .i64 x.ability.filter.zone,.si .i64 x.ability.filter.who,.si .i64 x.ability.filter.self,.si .i64 x.ability.filter.types,.si .i64 x.ability.filter.notTypes,.si .i64 x.ability.filter.colors,.si .i64 x.ability.filter.notColors,.str x.ability.filter.sub,.si .i64 x.ability.filter.keys,.si .i64 x.ability.filter.tap,.si .i64 x.ability.filter.power.kind,.si .i64 x.ability.filter.power.n,.si .i64 x.ability.filter.tough.kind,.si .i64 x.ability.filter.tough.n,.si .i64 x.ability.filter.value.kind,.si .i64 x.ability.filter.value.n,.sl 20 (M.m GMod (eGMod M) x.ability.mods) false,.si .i64 x.ability.price.mana.generic,.si .i64 x.ability.price.mana.x,.si .i64 x.ability.price.mana.color.a0,.si .i64 x.ability.price.mana.color.a1,.si .i64 x.ability.price.mana.color.a2,.si .i64 x.ability.price.mana.color.a3,.si .i64 x.ability.price.mana.color.a4,.sb x.ability.price.tap,.sb x.ability.price.sacrifice,.si .i64 x.ability.price.life,.sb x.ability.slow,.si .i64 x.ability.trigger.when,.si .i64 x.ability.trigger.who,.si .i64 x.ability.trigger.filter.zone,.si .i64 x.ability.trigger.filter.who,.si .i64 x.ability.trigger.filter.self,.si .i64 x.ability.trigger.filter.types,.si .i64 x.ability.trigger.filter.notTypes,.si .i64 x.ability.trigger.filter.colors,.si .i64 x.ability.trigger.filter.notColors,.str x.ability.trigger.filter.sub,.si .i64 x.ability.trigger.filter.keys,.si .i64 x.ability.trigger.filter.tap,.si .i64 x.ability.trigger.filter.power.kind,.si .i64 x.ability.trigger.filter.power.n,.si .i64 x.ability.trigger.filter.tough.kind,.si .i64 x.ability.trigger.filter.tough.n,.si .i64 x.ability.trigger.filter.value.kind,.si .i64 x.ability.trigger.filter.value.n,.sb x.ability.may,.sl 18 (M.m GSpec (eGSpec M) x.ability.specs) false,.sl 64 (M.m GEffect (eGEffect M) x.ability.effects) false,.si .i64 x.ability.replace.on,.si .i64 x.ability.replace.who,.si .i64 x.ability.replace.filter.zone,.si .i64 x.ability.replace.filter.who,.si .i64 x.ability.replace.filter.self,.si .i64 x.ability.replace.filter.types,.si .i64 x.ability.replace.filter.notTypes,.si .i64 x.ability.replace.filter.colors,.si .i64 x.ability.replace.filter.notColors,.str x.ability.replace.filter.sub,.si .i64 x.ability.replace.filter.keys,.si .i64 x.ability.replace.filter.tap,.si .i64 x.ability.replace.filter.power.kind,.si .i64 x.ability.replace.filter.power.n,.si .i64 x.ability.replace.filter.tough.kind,.si .i64 x.ability.replace.filter.tough.n,.si .i64 x.ability.replace.filter.value.kind,.si .i64 x.ability.replace.filter.value.n,.si .i64 x.ability.replace.doF,.si .i64 x.ability.replace.n,.si .i64 x.ability.replace.zone,.si .i64 x.ability.replace.counter,.si .i64 x.event.kind,.si .i64 x.event.source,.si .i64 x.event.object,.si .i64 x.event.player,.si .i64 x.event.amount,.si .i64 x.event.fromF,.si .i64 x.event.to,.si .i64 x.event.cause,.si .i64 x.event.counter,.si .i64 x.event.card,.sb x.event.combat,.sb x.event.tapped,.si .i64 x.event.extra.a0,.si .i64 x.event.extra.a1,.si .i64 x.event.extra.a2]
def zGWaiting:GWaiting:=GWaiting.mk 0 0 zGAbility zGEvent
structure GCont where
 stamp:Int
 control:Int
 source:Int
 untilF:Int
 objects:List Int
 mods:List GMod
def eGCont (M:EncM) (x:GCont):List PV:=[.si .i64 x.stamp,.si .i64 x.control,.si .i64 x.source,.si .i64 x.untilF,.sl 1 (M.m Int (eI .i64) x.objects) false,.sl 20 (M.m GMod (eGMod M) x.mods) false]
def zGCont:GCont:=GCont.mk 0 0 0 0 ([]) ([])
structure GState where
 players:List GPlayer
 objects:List GObject
 battlefield:List Int
 exile:List Int
 stack:List GItem
 waiting:List GWaiting
 conts:List GCont
 turn:Int
 active:Int
 step:Int
 begun:Bool
 priority:Int
 passes:Int
 nextId:Int
 nextStamp:Int
 seed:Int
 extra:List Int
 over:Int
 winner:Int
def eGState (M:EncM) (x:GState):List PV:=[.sl 14 (M.m GPlayer (eGPlayer M) x.players) false,.sl 19 (M.m GObject (eGObject M) x.objects) false,.sl 1 (M.m Int (eI .i64) x.battlefield) false,.sl 1 (M.m Int (eI .i64) x.exile) false,.sl 94 (M.m GItem (eGItem M) x.stack) false,.sl 89 (M.m GWaiting (eGWaiting M) x.waiting) false,.sl 6 (M.m GCont (eGCont M) x.conts) false,.si .i64 x.turn,.si .i64 x.active,.si .i64 x.step,.sb x.begun,.si .i64 x.priority,.si .i64 x.passes,.si .i64 x.nextId,.si .i64 x.nextStamp,.si .u64 x.seed,.sl 1 (M.m Int (eI .i64) x.extra) false,.si .i64 x.over,.si .i64 x.winner]
def zGState:GState:=GState.mk ([]) ([]) ([]) ([]) ([]) ([]) ([]) 0 0 0 false 0 0 0 0 0 ([]) 0 0
structure GLine where
 super:Int
 types:Int
 subs:List ByteArray
def eGLine (M:EncM) (x:GLine):List PV:=[.si .i64 x.super,.si .i64 x.types,.sl 1 (M.m ByteArray eS x.subs) false]
def zGLine:GLine:=GLine.mk 0 0 ([])
structure GCard where
 name:ByteArray
 token:Bool
 cost:GCost
 color:Int
 line:GLine
 power:Int
 tough:Int
 keys:Int
 abilities:List GAbility
def eGCard (M:EncM) (x:GCard):List PV:=[.str x.name,.sb x.token,.si .i64 x.cost.generic,.si .i64 x.cost.x,.si .i64 x.cost.color.a0,.si .i64 x.cost.color.a1,.si .i64 x.cost.color.a2,.si .i64 x.cost.color.a3,.si .i64 x.cost.color.a4,.si .i64 x.color,.si .i64 x.line.super,.si .i64 x.line.types,.sl 1 (M.m ByteArray eS x.line.subs) false,.si .i64 x.power,.si .i64 x.tough,.si .i64 x.keys,.sl 72 (M.m GAbility (eGAbility M) x.abilities) false]
def zGCard:GCard:=GCard.mk (bs []) false zGCost 0 zGLine 0 0 0 ([])
structure GTraits where
 name:ByteArray
 cost:GCost
 colors:Int
 line:GLine
 power:Int
 tough:Int
 keys:Int
 abilities:List GAbility
 control:Int
def eGTraits (M:EncM) (x:GTraits):List PV:=[.str x.name,.si .i64 x.cost.generic,.si .i64 x.cost.x,.si .i64 x.cost.color.a0,.si .i64 x.cost.color.a1,.si .i64 x.cost.color.a2,.si .i64 x.cost.color.a3,.si .i64 x.cost.color.a4,.si .i64 x.colors,.si .i64 x.line.super,.si .i64 x.line.types,.sl 1 (M.m ByteArray eS x.line.subs) false,.si .i64 x.power,.si .i64 x.tough,.si .i64 x.keys,.sl 72 (M.m GAbility (eGAbility M) x.abilities) false,.si .i64 x.control]
def zGTraits:GTraits:=GTraits.mk (bs []) zGCost 0 zGLine 0 0 0 ([]) 0
structure GR30Force where
 source:Int
 ability:Int
 control:Int
 stamp:Int
 fixed:Bool
 objects:List Int
 filter:GFilter
 mods:List GMod
def eGR30Force (M:EncM) (x:GR30Force):List PV:=[.si .i64 x.source,.si .i64 x.ability,.si .i64 x.control,.si .i64 x.stamp,.sb x.fixed,.sl 1 (M.m Int (eI .i64) x.objects) false,.si .i64 x.filter.zone,.si .i64 x.filter.who,.si .i64 x.filter.self,.si .i64 x.filter.types,.si .i64 x.filter.notTypes,.si .i64 x.filter.colors,.si .i64 x.filter.notColors,.str x.filter.sub,.si .i64 x.filter.keys,.si .i64 x.filter.tap,.si .i64 x.filter.power.kind,.si .i64 x.filter.power.n,.si .i64 x.filter.tough.kind,.si .i64 x.filter.tough.n,.si .i64 x.filter.value.kind,.si .i64 x.filter.value.n,.sl 20 (M.m GMod (eGMod M) x.mods) false]
def zGR30Force:GR30Force:=GR30Force.mk 0 0 0 0 false ([]) zGFilter ([])
structure GR30World where
 s:GState
 all:List GTraits
 l:List GR30Force
 begun:List Bool
 sets:List (List Int)
 blank:List Bool
def eGR30World (M:EncM) (x:GR30World):List PV:=[.sl 14 (M.m GPlayer (eGPlayer M) x.s.players) false,.sl 19 (M.m GObject (eGObject M) x.s.objects) false,.sl 1 (M.m Int (eI .i64) x.s.battlefield) false,.sl 1 (M.m Int (eI .i64) x.s.exile) false,.sl 94 (M.m GItem (eGItem M) x.s.stack) false,.sl 89 (M.m GWaiting (eGWaiting M) x.s.waiting) false,.sl 6 (M.m GCont (eGCont M) x.s.conts) false,.si .i64 x.s.turn,.si .i64 x.s.active,.si .i64 x.s.step,.sb x.s.begun,.si .i64 x.s.priority,.si .i64 x.s.passes,.si .i64 x.s.nextId,.si .i64 x.s.nextStamp,.si .u64 x.s.seed,.sl 1 (M.m Int (eI .i64) x.s.extra) false,.si .i64 x.s.over,.si .i64 x.s.winner,.sl 17 (M.m GTraits (eGTraits M) x.all) false,.sl 23 (M.m GR30Force (eGR30Force M) x.l) false,.sl 1 (M.m Bool eB x.begun) false,.sl 1 (M.m (List Int) (eL M 1 (eI .i64)) x.sets) false,.sl 1 (M.m Bool eB x.blank) false]
def zGR30World:GR30World:=GR30World.mk zGState ([]) ([]) ([]) ([]) ([])
structure GOption where
 kind:Int
 a:Int
 b:Int
def eGOption (M:EncM) (x:GOption):List PV:=[.si .i64 x.kind,.si .i64 x.a,.si .i64 x.b]
def zGOption:GOption:=GOption.mk 0 0 0
def law46_alive:Option Bool:=some true
def r26_New_l1 (players:Int) (first:Int) (seed:Int) (s1:Int × (List GPlayer)) (k2:(Int × (List GPlayer))→Option GState):Option GState :=
 lt (decide (s1.1<(if 4<(if players<2 then 2 else players) then 4 else (if players<2 then 2 else players)))) fun v4 =>
 br v4 (lt (GPlayer.mk 20 0 0 zArr6I false false ([]) ([]) ([])) fun x5 =>
 roomO (s1.2.length+([x5]).length) 152 (
 k2 ((addI s1.1 1),(s1.2 ++ [x5]))))
 (jn (fun s6:Bool =>
 br s6 (some (GState.mk s1.2 ([]) ([]) ([]) ([]) ([]) ([]) 0 first 0 false first 0 1 1 seed ([]) 0 (-1)))
 (some (GState.mk s1.2 ([]) ([]) ([]) ([]) ([]) ([]) 0 0 0 false 0 0 1 1 seed ([]) 0 (-1)))) fun k7 =>
 br (decide (0≤first)) (lt (decide (first<(if 4<(if players<2 then 2 else players) then 4 else (if players<2 then 2 else players)))) fun v9 =>
 k7 v9)
 (k7 false))
def r26_New (players:Int) (first:Int) (seed:Int):Option GState :=
 loopF (r26_New_l1 players first seed) (0,[])
def law46_fight_l1 (n:Int) (y1:GState) (s2:Int × (List GCard) × (List GObject) × (List Int)) (k3:(Int × (List GCard) × (List GObject) × (List Int))→Option ((List GCard) × GState)):Option ((List GCard) × GState) :=
 br (decide (s2.1≤n)) (jn (fun s5:(List GCard) × (List GObject) =>
 k3 ((addI s2.1 1),s5.1,s5.2,(s2.2.2.2 ++ [(addI s2.1 1)]))) fun k6 =>
 jn (fun s8:GObject × (List GCard) =>
 roomO (s2.2.2.1.length+([s8.1]).length) 128 (
 roomO (s2.2.2.2.length+([(addI s2.1 1)]).length) 8 (
 k6 (s8.2,(s2.2.2.1 ++ [s8.1]))))) fun k9 =>
 br (decide (s2.1=0)) (k9 ((GObject.mk (addI s2.1 1) 0 0 0 0 false false false false 0 zArr3I (addI s2.1 1) (-1) 1 false 0 0),s2.2.1))
 (k9 ((GObject.mk (addI s2.1 1) 1 1 1 0 false false false false 0 zArr3I (addI s2.1 1) (-1) (-1) false 0 0),s2.2.1)))
 (some (s2.2.1,(GState.mk y1.players s2.2.2.1 s2.2.2.2 y1.exile y1.stack y1.waiting y1.conts y1.turn y1.active y1.step y1.begun y1.priority y1.passes (addI n 2) (addI n 2) y1.seed y1.extra y1.over y1.winner)))
def law46_fight (keys:Int) (n:Int):Option ((List GCard) × GState) :=
 bnd (r26_New 2 0 1) fun y1 =>
 loopF (law46_fight_l1 n y1) (0,[(GCard.mk (bs [97]) false zGCost 0 (GLine.mk 0 1 ([])) 1 1 keys ([])),(GCard.mk (bs [98]) false zGCost 0 (GLine.mk 0 1 ([])) 1 1 0 ([]))],y1.objects,y1.battlefield)
def r08_Is_l1 (c:GCost) (s4:Int) (k5:Int→Option Bool):Option Bool :=
 br (decide (s4<5)) (jn (fun s7:Bool =>
 br s7 (some false)
 (k5 (addI s4 1))) fun k8 =>
 sel s4 5 fun j10=>(match j10 with | 0=>(br (decide (c.color.a0<0)) (k8 true) (sel s4 5 fun j11=>(match j11 with | 0=>(k8 (decide (9<c.color.a0)))  | 1=>(k8 (decide (9<c.color.a1)))  | 2=>(k8 (decide (9<c.color.a2)))  | 3=>(k8 (decide (9<c.color.a3)))  | _=>(k8 (decide (9<c.color.a4))) )))  | 1=>(br (decide (c.color.a1<0)) (k8 true) (sel s4 5 fun j12=>(match j12 with | 0=>(k8 (decide (9<c.color.a0)))  | 1=>(k8 (decide (9<c.color.a1)))  | 2=>(k8 (decide (9<c.color.a2)))  | 3=>(k8 (decide (9<c.color.a3)))  | _=>(k8 (decide (9<c.color.a4))) )))  | 2=>(br (decide (c.color.a2<0)) (k8 true) (sel s4 5 fun j13=>(match j13 with | 0=>(k8 (decide (9<c.color.a0)))  | 1=>(k8 (decide (9<c.color.a1)))  | 2=>(k8 (decide (9<c.color.a2)))  | 3=>(k8 (decide (9<c.color.a3)))  | _=>(k8 (decide (9<c.color.a4))) )))  | 3=>(br (decide (c.color.a3<0)) (k8 true) (sel s4 5 fun j14=>(match j14 with | 0=>(k8 (decide (9<c.color.a0)))  | 1=>(k8 (decide (9<c.color.a1)))  | 2=>(k8 (decide (9<c.color.a2)))  | 3=>(k8 (decide (9<c.color.a3)))  | _=>(k8 (decide (9<c.color.a4))) )))  | _=>(br (decide (c.color.a4<0)) (k8 true) (sel s4 5 fun j15=>(match j15 with | 0=>(k8 (decide (9<c.color.a0)))  | 1=>(k8 (decide (9<c.color.a1)))  | 2=>(k8 (decide (9<c.color.a2)))  | 3=>(k8 (decide (9<c.color.a3)))  | _=>(k8 (decide (9<c.color.a4))) ))) ))
 (some true)
def r08_Is (c:GCost):Option Bool :=
 jn (fun s1:Bool =>
 br s1 (some false)
 (loopF (r08_Is_l1 c) 0)) fun k2 =>
 br (decide (c.generic<0)) (k2 true)
 (br (decide (99<c.generic)) (k2 true)
 (br (decide (c.x<0)) (k2 true)
 (k2 (decide (2<c.x)))))
def r08_Colors_l1 (c:GCost) (s2:Int × Int × Int) (k3:(Int × Int × Int)→Option Int):Option Int :=
 br (decide (s2.2.2<5)) (jn (fun s5:Int =>
 k3 (s5,(mulI 2 s2.2.1),(addI s2.2.2 1))) fun k6 =>
 jn (fun s8:Int =>
 k6 s8) fun k9 =>
 jn (fun s11:Bool =>
 br s11 (k9 (addI s2.1 s2.2.1))
 (k9 s2.1)) fun k12 =>
 sel s2.2.2 5 fun j14=>(match j14 with | 0=>(k12 (decide (0<c.color.a0)))  | 1=>(k12 (decide (0<c.color.a1)))  | 2=>(k12 (decide (0<c.color.a2)))  | 3=>(k12 (decide (0<c.color.a3)))  | _=>(k12 (decide (0<c.color.a4))) ))
 (some s2.1)
def r08_Colors (c:GCost):Option Int :=
 bnd (r08_Is c) fun y1 =>
 br (y1 == false) (some 0)
 (loopF (r08_Colors_l1 c) (0,1,0))
def r28_ability_l1 (a:GAbility) (s1:Int × (List GEffect)) (k2:(Int × (List GEffect))→Option GAbility):Option GAbility :=
 br (decide (s1.1<(lenI a.effects))) (bnd (ixL a.effects s1.1) fun x4 =>
 roomO (0+x4.mods.length) 176 (
 roomO (s1.2.length+([{ x4 with mods:=x4.mods }]).length) 560 (
 k2 ((addI s1.1 1),(s1.2 ++ [{ x4 with mods:=x4.mods }])))))
 (some { a with mods:=a.mods,specs:=a.specs,effects:=s1.2 })
def r28_ability (a:GAbility):Option GAbility :=
 roomO (0+a.mods.length) 176 (
 roomO (0+a.specs.length) 144 (
 loopF (r28_ability_l1 a) (0,[])))
def r28_Printed_l1 (c:GCard) (y1:Int) (s2:Int × (List GAbility)) (k3:(Int × (List GAbility))→Option GTraits):Option GTraits :=
 br (decide (s2.1<(lenI c.abilities))) (bnd (ixL c.abilities s2.1) fun x5 =>
 bnd (r28_ability x5) fun y6 =>
 roomO (s2.2.length+([y6]).length) 640 (
 k3 ((addI s2.1 1),(s2.2 ++ [y6]))))
 (some (GTraits.mk c.name c.cost (stdBin .or .i64 y1 c.color) { c.line with subs:=c.line.subs } c.power c.tough c.keys s2.2 0))
def r28_Printed (c:GCard):Option GTraits :=
 bnd (r08_Colors c.cost) fun y1 =>
 roomO (0+c.line.subs.length) 16 (
 loopF (r28_Printed_l1 c y1) (0,[]))
def r28_Of (cards:List GCard) (o:GObject):Option GTraits :=
 jn (fun s1:Int =>
 jn (fun s4:GTraits =>
 br (decide (o.zone=0)) (some { s4 with control:=o.control })
 (br (decide (o.zone=5)) (some { s4 with control:=o.control })
 (some { s4 with control:=o.owner }))) fun k5 =>
 jn (fun s7:Bool =>
 br s7 (bnd (ixL cards s1) fun x10 =>
 bnd (r28_Printed x10) fun y11 =>
 k5 y11)
 (k5 zGTraits)) fun k8 =>
 br (decide (0≤s1)) (k8 (decide (s1<(lenI cards))))
 (k8 false)) fun k2 =>
 br (decide (o.copy<0)) (k2 o.card)
 (k2 o.copy)
def r30_Forces_l1 (k5:(List GR30Force)→Option (List GR30Force)) (x7:GObject) (y8:GTraits) (s9:Int × (List GR30Force)) (k10:(Int × (List GR30Force))→Option (List GR30Force)):Option (List GR30Force) :=
 br (decide (s9.1<(lenI y8.abilities))) (jn (fun s12:(List GR30Force) =>
 k10 ((addI s9.1 1),s12)) fun k13 =>
 bnd (ixL y8.abilities s9.1) fun x15 =>
 br (decide (x15.kind=1)) (lt (GR30Force.mk x7.id s9.1 x7.control x7.stamp false ([]) x15.filter x15.mods) fun x16 =>
 roomO (s9.2.length+([x16]).length) 224 (
 k13 (s9.2 ++ [x16])))
 (k13 s9.2))
 (k5 s9.2)
def r30_Forces_l2 (s:GState) (s17:Int × (List GR30Force)) (k18:(Int × (List GR30Force))→Option (List GR30Force)):Option (List GR30Force) :=
 br (decide (s17.1<(lenI s.conts))) (bnd (ixL s.conts s17.1) fun x20 =>
 lt (GR30Force.mk x20.source (-1) x20.control x20.stamp true x20.objects zGFilter x20.mods) fun x21 =>
 roomO (s17.2.length+([x21]).length) 224 (
 k18 ((addI s17.1 1),(s17.2 ++ [x21]))))
 (some s17.2)
def r30_Forces_l3 (cards:List GCard) (s:GState) (s1:Int × (List GR30Force)) (k2:(Int × (List GR30Force))→Option (List GR30Force)):Option (List GR30Force) :=
 br (decide (s1.1<(lenI s.objects))) (jn (fun s4:(List GR30Force) =>
 k2 ((addI s1.1 1),s4)) fun k5 =>
 bnd (ixL s.objects s1.1) fun x7 =>
 br (!decide (x7.zone=0)) (k5 s1.2)
 (bnd (r28_Of cards x7) fun y8 =>
 loopF (r30_Forces_l1 k5 x7 y8) (0,s1.2)))
 (loopF (r30_Forces_l2 s) (0,s1.2))
def r30_Forces (cards:List GCard) (s:GState):Option (List GR30Force) :=
 loopF (r30_Forces_l3 cards s) (0,[])
def r30_first_l1 (cards:List GCard) (s:GState) (y1:List GR30Force) (s2:Int × (List GTraits)) (k3:(Int × (List GTraits))→Option GR30World):Option GR30World :=
 br (decide (s2.1<(lenI s.objects))) (bnd (ixL s.objects s2.1) fun x5 =>
 bnd (r28_Of cards x5) fun y6 =>
 roomO (s2.2.length+([y6]).length) 176 (
 k3 ((addI s2.1 1),(s2.2 ++ [y6]))))
 (bnd (mksO (lenI y1) (lenI y1) 1) fun j7 =>
 lt false fun x8 =>
 bnd (mksO (lenI y1) (lenI y1) 24) fun j9 =>
 lt ([]) fun x10 =>
 bnd (mksO (lenI s.objects) (lenI s.objects) 1) fun j11 =>
 lt false fun x12 =>
 some (GR30World.mk s s2.2 y1 (List.replicate j7 x8) (List.replicate j9 x10) (List.replicate j11 x12)))
def r30_first (cards:List GCard) (s:GState):Option GR30World :=
 bnd (r30_Forces cards s) fun y1 =>
 loopF (r30_first_l1 cards s y1) (0,[])
def r01_Clamp (n:Int):Option Int :=
 br (decide (1000000<n)) (some 1000000)
 (br (decide (n<(-1000000))) (some (-1000000))
 (some n))
def r01_Sub (a:Int) (b:Int):Option Int :=
 bnd (r01_Clamp a) fun y1 =>
 bnd (r01_Clamp b) fun y2 =>
 bnd (r01_Clamp (subI y1 y2)) fun y3 =>
 some y3
def r12_Power (c:Arr3 Int):Option Int :=
 bnd (r01_Sub c.a0 c.a1) fun y1 =>
 some y1
def r01_Add (a:Int) (b:Int):Option Int :=
 bnd (r01_Clamp a) fun y1 =>
 bnd (r01_Clamp b) fun y2 =>
 bnd (r01_Clamp (addI y1 y2)) fun y3 =>
 some y3
def r30_counted_l1 (w:GR30World) (s1:Int × (List GTraits)) (k2:(Int × (List GTraits))→Option GR30World):Option GR30World :=
 br (decide (s1.1<(lenI w.all))) (jn (fun s4:(List GTraits) =>
 k2 ((addI s1.1 1),s4)) fun k5 =>
 bnd (ixL w.all s1.1) fun x7 =>
 bnd (ixL w.s.objects s1.1) fun x8 =>
 jn (fun s9:Int × Int =>
 roomO (s1.2.length+([{ x7 with power:=s9.1,tough:=s9.2 }]).length) 176 (
 k5 (s1.2 ++ [{ x7 with power:=s9.1,tough:=s9.2 }]))) fun k10 =>
 jn (fun s12:Bool =>
 br s12 (bnd (r12_Power x8.counters) fun y17 =>
 bnd (r01_Add x7.power y17) fun y18 =>
 bnd (r01_Add x7.tough y17) fun y19 =>
 k10 (y18,y19))
 (k10 (x7.power,x7.tough))) fun k13 =>
 br (decide (x8.zone=0)) (bnd (divO .quo .i64 x7.line.types 1) fun x15 =>
 bnd (divO .rem .i64 x15 2) fun x16 =>
 k13 (decide (x16=1)))
 (k13 false))
 (some { w with all:=s1.2 })
def r30_counted (w:GR30World):Option GR30World :=
 loopF (r30_counted_l1 w) (0,[])
def r15_Stage (kind:Int):Option Int :=
 br (decide (kind=1)) (some 1)
 (br (decide (kind=2)) (some 2)
 (br (decide (kind=3)) (some 2)
 (br (decide (kind=4)) (some 2)
 (br (decide (kind=5)) (some 2)
 (br (decide (kind=6)) (some 3)
 (br (decide (kind=7)) (some 3)
 (br (decide (kind=8)) (some 4)
 (br (decide (kind=9)) (some 4)
 (br (decide (kind=10)) (some 4)
 (br (decide (kind=11)) (some 5)
 (br (decide (kind=12)) (some 6)
 (br (decide (kind=13)) (some 7)
 (br (decide (kind=14)) (some 8)
 (some 0))))))))))))))
def r30_belongs_l1 (f:GR30Force) (stage:Int) (s1:Int) (k2:Int→Option Bool):Option Bool :=
 br (decide (s1<(lenI f.mods))) (bnd (ixL f.mods s1) fun x4 =>
 bnd (r15_Stage x4.kind) fun y5 =>
 br (decide (y5=stage)) (some true)
 (k2 (addI s1 1)))
 (some false)
def r30_belongs (f:GR30Force) (stage:Int):Option Bool :=
 loopF (r30_belongs_l1 f stage) 0
def r03_Same_l1 (a:List Int) (b:List Int) (s1:Int) (k2:Int→Option Bool):Option Bool :=
 br (decide (s1<(lenI a))) (bnd (ixL a s1) fun x4 =>
 bnd (ixL b s1) fun x5 =>
 br (!decide (x4=x5)) (some false)
 (k2 (addI s1 1)))
 (some true)
def r03_Same (a:List Int) (b:List Int):Option Bool :=
 br (!decide ((lenI a)=(lenI b))) (some false)
 (loopF (r03_Same_l1 a b) 0)
def r30_place_l1 (s:GState) (id:Int) (s1:Int) (k2:Int→Option Int):Option Int :=
 br (decide (s1<(lenI s.objects))) (bnd (ixL s.objects s1) fun x4 =>
 br (decide (x4.id=id)) (some s1)
 (k2 (addI s1 1)))
 (some (-1))
def r30_place (s:GState) (id:Int):Option Int :=
 loopF (r30_place_l1 s id) 0
def r30_active (w:GR30World) (i:Int):Option Bool :=
 jn (fun s1:Bool =>
 br s1 (some true)
 (bnd (ixL w.l i) fun x6 =>
 bnd (r30_place w.s x6.source) fun y7 =>
 br (decide (y7<0)) (some true)
 (bnd (ixL w.blank y7) fun x8 =>
 some (x8 == false)))) fun k2 =>
 bnd (ixL w.l i) fun x4 =>
 br x4.fixed (k2 true)
 (bnd (ixL w.begun i) fun x5 =>
 k2 x5)
def r13_apart_l1  (s4:Int × Int × Int) (k5:(Int × Int × Int)→Option Bool):Option Bool :=
 br (decide (s4.2.2<6)) (jn (fun s7:Bool =>
 br s7 (some false)
 (bnd (divO .quo .i64 s4.1 2) fun x12 =>
 bnd (divO .quo .i64 s4.2.1 2) fun x13 =>
 k5 (x12,x13,(addI s4.2.2 1)))) fun k8 =>
 bnd (divO .rem .i64 s4.1 2) fun x10 =>
 br (decide (x10=1)) (bnd (divO .rem .i64 s4.2.1 2) fun x11 =>
 k8 (decide (x11=1)))
 (k8 false))
 (some true)
def r13_apart (a:Int) (b:Int) (most:Int):Option Bool :=
 jn (fun s1:Bool =>
 br s1 (some false)
 (loopF (r13_apart_l1) (a,b,0))) fun k2 =>
 br (decide (a<0)) (k2 true)
 (br (decide (most<a)) (k2 true)
 (br (decide (b<0)) (k2 true)
 (k2 (decide (most<b)))))
def r10_index_l1 (l:List ByteArray) (s:ByteArray) (s1:Int) (k2:Int→Option Int):Option Int :=
 br (decide (s1<(lenI l))) (bnd (ixL l s1) fun x4 =>
 br (stdScmp .eql x4 s) (some s1)
 (k2 (addI s1 1)))
 (some (-1))
def r10_index (l:List ByteArray) (s:ByteArray):Option Int :=
 loopF (r10_index_l1 l s) 0
def r02_low (c:Int):Option Bool :=
 br (decide (97≤c)) (some (decide (c≤122)))
 (some false)
def r02_Is_l1 (s:ByteArray) (s7:Int) (k8:Int→Option Bool):Option Bool :=
 br (decide (s7<(s.size:Int))) (jn (fun s10:Bool =>
 br s10 (some false)
 (jn (fun s19:Bool =>
 br s19 (some false)
 (k8 (addI s7 1))) fun k20 =>
 br (decide (0<s7)) (bnd (sixO s s7) fun x22 =>
 br (decide (x22=45)) (bnd (sixO s (subI s7 1)) fun x23 =>
 k20 (decide (x23=45)))
 (k20 false))
 (k20 false))) fun k11 =>
 bnd (sixO s s7) fun x13 =>
 bnd (r02_low x13) fun y14 =>
 br (y14 == false) (bnd (sixO s s7) fun x15 =>
 br (decide (x15<48)) (bnd (sixO s s7) fun x16 =>
 k11 (!decide (x16=45)))
 (bnd (sixO s s7) fun x17 =>
 br (decide (57<x17)) (bnd (sixO s s7) fun x18 =>
 k11 (!decide (x18=45)))
 (k11 false)))
 (k11 false))
 (some true)
def r02_Is (s:ByteArray):Option Bool :=
 jn (fun s1:Bool =>
 br s1 (some false)
 (loopF (r02_Is_l1 s) 0)) fun k2 =>
 br (decide ((s.size:Int)<1)) (k2 true)
 (br (decide (32<(s.size:Int))) (k2 true)
 (bnd (sixO s 0) fun x4 =>
 bnd (r02_low x4) fun y5 =>
 br (y5 == false) (k2 true)
 (bnd (sixO s (subI (s.size:Int) 1)) fun x6 =>
 k2 (decide (x6=45)))))
def r10_superWords  : Option (List ByteArray) :=
 some ([(bs [98,97,115,105,99]),(bs [117,110,105,113,117,101])])
def r10_typeWords  : Option (List ByteArray) :=
 some ([(bs [99,114,101,97,116,117,114,101]),(bs [105,110,115,116,97,110,116]),(bs [114,105,116,117,97,108]),(bs [114,101,108,105,99]),(bs [99,104,97,114,109]),(bs [108,97,110,100])])
def r10_IsSub (s:ByteArray):Option Bool :=
 bnd (r02_Is s) fun y1 =>
 br y1 (bnd (r10_superWords) fun y2 =>
 bnd (r10_index y2 s) fun y3 =>
 br (decide (y3<0)) (bnd (r10_typeWords) fun y4 =>
 bnd (r10_index y4 s) fun y5 =>
 some (decide (y5<0)))
 (some false))
 (some false)
def r13_bound (b:GBound):Option Bool :=
 jn (fun s1:Bool =>
 br s1 (some false)
 (br (!decide (b.kind=0)) (some true)
 (some (decide (b.n=0))))) fun k2 =>
 br (decide (b.kind<0)) (k2 true)
 (br (decide (3<b.kind)) (k2 true)
 (br (decide (b.n<0)) (k2 true)
 (k2 (decide (1000000<b.n)))))
def r13_Is (f:GFilter):Option Bool :=
 jn (fun s1:Bool =>
 br s1 (some false)
 (jn (fun s4:Bool =>
 br s4 (some false)
 (jn (fun s9:Bool =>
 br s9 (some false)
 (bnd (r13_bound f.power) fun y13 =>
 br y13 (bnd (r13_bound f.tough) fun y14 =>
 br y14 (bnd (r13_bound f.value) fun y15 =>
 some y15)
 (some false))
 (some false))) fun k10 =>
 br (stdScmp .neq f.sub (bs [])) (bnd (r10_IsSub f.sub) fun y12 =>
 br (y12 == false) (k10 true)
 (br (decide (f.keys<0)) (k10 true)
 (k10 (decide (131071<f.keys)))))
 (br (decide (f.keys<0)) (k10 true)
 (k10 (decide (131071<f.keys)))))) fun k5 =>
 bnd (r13_apart f.types f.notTypes 63) fun y7 =>
 br (y7 == false) (k5 true)
 (bnd (r13_apart f.colors f.notColors 31) fun y8 =>
 k5 (y8 == false)))) fun k2 =>
 br (decide (f.zone<0)) (k2 true)
 (br (decide (5<f.zone)) (k2 true)
 (br (decide (f.who<0)) (k2 true)
 (br (decide (2<f.who)) (k2 true)
 (br (decide (f.self<0)) (k2 true)
 (br (decide (2<f.self)) (k2 true)
 (br (decide (f.tap<0)) (k2 true)
 (k2 (decide (2<f.tap)))))))))
def r29_who (control:Int) (you:Int) (w:Int):Option Bool :=
 br (decide (w=1)) (some (decide (control=you)))
 (br (!decide (w=2)) (some true)
 (some (!decide (control=you))))
def r29_self (id:Int) (source:Int) (w:Int):Option Bool :=
 br (decide (w=1)) (some (decide (id=source)))
 (br (!decide (w=2)) (some true)
 (some (!decide (id=source))))
def r29_tap (tapped:Bool) (w:Int):Option Bool :=
 br (decide (w=1)) (some tapped)
 (br (!decide (w=2)) (some true)
 (some (tapped == false)))
def r29_sharing (a:Int) (b:Int):Option Bool :=
 some (!decide ((stdBin .and .i64 a b)=0))
def r10_HasSub (l:GLine) (sub:ByteArray):Option Bool :=
 bnd (r10_index l.subs sub) fun y1 =>
 some (decide (0≤y1))
def r11_Has (mask:Int) (key:Int):Option Bool :=
 some (decide ((stdBin .and .i64 mask key)=key))
def r01_Meets (b:GBound) (n:Int):Option Bool :=
 br (decide (b.kind=0)) (some true)
 (br (decide (b.kind=1)) (some (decide (b.n≤n)))
 (br (decide (b.kind=2)) (some (decide (n≤b.n)))
 (br (decide (b.kind=3)) (some (decide (n=b.n)))
 (some false))))
def r01_Mul (a:Int) (b:Int):Option Int :=
 bnd (r01_Clamp a) fun y1 =>
 bnd (r01_Clamp b) fun y2 =>
 bnd (r01_Clamp (mulI y1 y2)) fun y3 =>
 some y3
def r08_Value (c:GCost) (x:Int):Option Int :=
 bnd (r08_Is c) fun y1 =>
 br (y1 == false) (some 0)
 (bnd (r01_Add c.generic c.color.a0) fun y3 =>
 bnd (r01_Add y3 c.color.a1) fun y4 =>
 bnd (r01_Add y4 c.color.a2) fun y5 =>
 bnd (r01_Add y5 c.color.a3) fun y6 =>
 bnd (r01_Add y6 c.color.a4) fun y7 =>
 br (decide (x<0)) (bnd (r01_Mul c.x 0) fun y8 =>
 bnd (r01_Add y7 y8) fun y9 =>
 some y9)
 (bnd (r01_Mul c.x x) fun y10 =>
 bnd (r01_Add y7 y10) fun y11 =>
 some y11))
def r29_bounds (t:GTraits) (f:GFilter):Option Bool :=
 bnd (r29_sharing t.line.types 1) fun y1 =>
 jn (fun s2:Bool =>
 br s2 (some false)
 (jn (fun s6:Bool =>
 br s6 (some false)
 (bnd (r08_Value t.cost 0) fun y10 =>
 bnd (r01_Meets f.value y10) fun y11 =>
 some y11)) fun k7 =>
 br (!decide (f.tough.kind=0)) (br y1 (bnd (r01_Meets f.tough t.tough) fun y9 =>
 k7 (y9 == false))
 (k7 true))
 (k7 false))) fun k3 =>
 br (!decide (f.power.kind=0)) (br y1 (bnd (r01_Meets f.power t.power) fun y5 =>
 k3 (y5 == false))
 (k3 true))
 (k3 false)
def r29_Object (o:GObject) (t:GTraits) (you:Int) (source:Int) (f:GFilter):Option Bool :=
 jn (fun s1:Bool =>
 br s1 (some false)
 (jn (fun s8:Bool =>
 br s8 (some false)
 (jn (fun s14:Bool =>
 br s14 (some false)
 (br (stdScmp .neq f.sub (bs [])) (bnd (r10_HasSub t.line f.sub) fun y20 =>
 br (y20 == false) (some false)
 (bnd (r11_Has t.keys f.keys) fun y21 =>
 br (y21 == false) (some false)
 (bnd (r29_bounds t f) fun y22 =>
 some y22)))
 (bnd (r11_Has t.keys f.keys) fun y23 =>
 br (y23 == false) (some false)
 (bnd (r29_bounds t f) fun y24 =>
 some y24)))) fun k15 =>
 br (!decide (f.colors=0)) (bnd (r29_sharing t.colors f.colors) fun y17 =>
 br (y17 == false) (k15 true)
 (bnd (r29_sharing t.colors f.notColors) fun y18 =>
 k15 y18))
 (bnd (r29_sharing t.colors f.notColors) fun y19 =>
 k15 y19))) fun k9 =>
 br (!decide (f.types=0)) (bnd (r29_sharing t.line.types f.types) fun y11 =>
 br (y11 == false) (k9 true)
 (bnd (r29_sharing t.line.types f.notTypes) fun y12 =>
 k9 y12))
 (bnd (r29_sharing t.line.types f.notTypes) fun y13 =>
 k9 y13))) fun k2 =>
 bnd (r13_Is f) fun y4 =>
 br (y4 == false) (k2 true)
 (br (!decide (o.zone=f.zone)) (k2 true)
 (bnd (r29_who t.control you f.who) fun y5 =>
 br (y5 == false) (k2 true)
 (bnd (r29_self o.id source f.self) fun y6 =>
 br (y6 == false) (k2 true)
 (bnd (r29_tap o.tapped f.tap) fun y7 =>
 k2 (y7 == false)))))
def r30_you (w:GR30World) (i:Int):Option Int :=
 bnd (ixL w.l i) fun x1 =>
 bnd (r30_place w.s x1.source) fun y2 =>
 jn (fun s3:Bool =>
 br s3 (bnd (ixL w.l i) fun x7 =>
 some x7.control)
 (bnd (ixL w.all y2) fun x8 =>
 some x8.control)) fun k4 =>
 bnd (ixL w.l i) fun x6 =>
 br x6.fixed (k4 true)
 (k4 (decide (y2<0)))
def r03_Index_l1 (l:List Int) (n:Int) (s1:Int) (k2:Int→Option Int):Option Int :=
 br (decide (s1<(lenI l))) (bnd (ixL l s1) fun x4 =>
 br (decide (x4=n)) (some s1)
 (k2 (addI s1 1)))
 (some (-1))
def r03_Index (l:List Int) (n:Int):Option Int :=
 loopF (r03_Index_l1 l n) 0
def r03_Has (l:List Int) (n:Int):Option Bool :=
 bnd (r03_Index l n) fun y1 =>
 some (decide (0≤y1))
def r30_affects_l1 (w:GR30World) (i:Int) (x4:GR30Force) (s5:Int × (List Int)) (k6:(Int × (List Int))→Option (List Int)):Option (List Int) :=
 br (decide (s5.1<(lenI w.s.objects))) (jn (fun s8:(List Int) =>
 k6 ((addI s5.1 1),s8)) fun k9 =>
 bnd (ixL w.s.objects s5.1) fun x11 =>
 br (!decide (x11.zone=0)) (k9 s5.2)
 (jn (fun s12:Bool =>
 br s12 (roomO (s5.2.length+([x11.id]).length) 8 (
 k9 (s5.2 ++ [x11.id])))
 (k9 s5.2)) fun k13 =>
 br x4.fixed (bnd (r03_Has x4.objects x11.id) fun y15 =>
 br y15 (k13 true)
 (br (x4.fixed == false) (bnd (ixL w.all s5.1) fun x16 =>
 bnd (r30_you w i) fun y17 =>
 bnd (r29_Object x11 x16 y17 x4.source x4.filter) fun y18 =>
 k13 y18)
 (k13 false)))
 (br (x4.fixed == false) (bnd (ixL w.all s5.1) fun x19 =>
 bnd (r30_you w i) fun y20 =>
 bnd (r29_Object x11 x19 y20 x4.source x4.filter) fun y21 =>
 k13 y21)
 (k13 false))))
 (some s5.2)
def r30_affects (w:GR30World) (i:Int):Option (List Int) :=
 bnd (ixL w.begun i) fun x1 =>
 br x1 (bnd (ixL w.sets i) fun x2 =>
 some x2)
 (bnd (r30_active w i) fun y3 =>
 br (y3 == false) (some ([]))
 (bnd (ixL w.l i) fun x4 =>
 loopF (r30_affects_l1 w i x4) (0,[])))
def r29_At (all:List GTraits) (i:Int):Option GTraits :=
 br (decide (i<0)) (some zGTraits)
 (br (decide ((lenI all)≤i)) (some zGTraits)
 (bnd (ixL all i) fun x1 =>
 some x1))
def r29_List_l1 (s:GState) (all:List GTraits) (you:Int) (source:Int) (f:GFilter) (s1:Int × (List Int)) (k2:(Int × (List Int))→Option (List Int)):Option (List Int) :=
 br (decide (s1.1<(lenI s.objects))) (jn (fun s4:(List Int) =>
 k2 ((addI s1.1 1),s4)) fun k5 =>
 bnd (ixL s.objects s1.1) fun x7 =>
 bnd (r29_At all s1.1) fun y8 =>
 bnd (r29_Object x7 y8 you source f) fun y9 =>
 br y9 (bnd (ixL s.objects s1.1) fun x10 =>
 roomO (s1.2.length+([x10.id]).length) 8 (
 k5 (s1.2 ++ [x10.id])))
 (k5 s1.2))
 (some s1.2)
def r29_List (s:GState) (all:List GTraits) (you:Int) (source:Int) (f:GFilter):Option (List Int) :=
 loopF (r29_List_l1 s all you source f) (0,[])
def r30_numbers_l1 (w:GR30World) (i:Int) (stage:Int) (x1:GR30Force) (s2:Int × (List Int)) (k3:(Int × (List Int))→Option (List Int)):Option (List Int) :=
 br (decide (s2.1<(lenI x1.mods))) (jn (fun s5:(List Int) =>
 k3 ((addI s2.1 1),s5)) fun k6 =>
 bnd (ixL x1.mods s2.1) fun x8 =>
 bnd (r15_Stage x8.kind) fun y9 =>
 br (!decide (y9=stage)) (k6 s2.2)
 (jn (fun s10:Int =>
 roomO (s2.2.length+([s10]).length) 8 (
 k6 (s2.2 ++ [s10]))) fun k11 =>
 bnd (ixL x1.mods s2.1) fun x13 =>
 br (decide (x13.kind=11)) (bnd (r30_you w i) fun y14 =>
 bnd (ixL x1.mods s2.1) fun x15 =>
 bnd (r29_List w.s w.all y14 x1.source x15.filter) fun y16 =>
 k11 (lenI y16))
 (k11 0)))
 (some s2.2)
def r30_numbers (w:GR30World) (i:Int) (stage:Int):Option (List Int) :=
 bnd (ixL w.l i) fun x1 =>
 loopF (r30_numbers_l1 w i stage x1) (0,[])
def r15_used (m:GMod):Option GMod :=
 br (decide (m.kind=2)) (some { m with kind:=0,n:=0 })
 (br (decide (m.kind=3)) (some { m with kind:=0,n:=0 })
 (br (decide (m.kind=6)) (some { m with kind:=0,n:=0 })
 (br (decide (m.kind=7)) (some { m with kind:=0,n:=0 })
 (br (decide (m.kind=8)) (some { m with kind:=0,n:=0 })
 (br (decide (m.kind=9)) (some { m with kind:=0,n:=0 })
 (br (decide (m.kind=4)) (some { m with kind:=0,sub:=(bs []) })
 (br (decide (m.kind=5)) (some { m with kind:=0,sub:=(bs []) })
 (br (decide (m.kind=11)) (some { m with kind:=0,filter:=zGFilter })
 (br (decide (m.kind=12)) (some (GMod.mk 0 0 0 m.sub m.filter))
 (br (decide (m.kind=13)) (some (GMod.mk 0 0 0 m.sub m.filter))
 (some { m with kind:=0 })))))))))))
def r15_types (mask:Int):Option Bool :=
 br (decide (1≤mask)) (br (decide (mask≤63)) (some (decide ((stdBin .and .i64 mask 6)=0)))
 (some false))
 (some false)
def r15_Is (m:GMod):Option Bool :=
 jn (fun s1:Bool =>
 br s1 (some false)
 (br (decide (m.kind=2)) (bnd (r15_types m.n) fun y6 =>
 some y6)
 (br (decide (m.kind=3)) (bnd (r15_types m.n) fun y7 =>
 some y7)
 (br (decide (m.kind=4)) (bnd (r10_IsSub m.sub) fun y8 =>
 some y8)
 (br (decide (m.kind=5)) (bnd (r10_IsSub m.sub) fun y9 =>
 some y9)
 (br (decide (m.kind=6)) (br (decide (0≤m.n)) (some (decide (m.n≤31)))
 (some false))
 (br (decide (m.kind=7)) (br (decide (1≤m.n)) (some (decide (m.n≤31)))
 (some false))
 (br (decide (m.kind=8)) (br (decide (1≤m.n)) (some (decide (m.n≤131071)))
 (some false))
 (br (decide (m.kind=9)) (br (decide (1≤m.n)) (some (decide (m.n≤131071)))
 (some false))
 (br (decide (m.kind=11)) (bnd (r13_Is m.filter) fun y10 =>
 some y10)
 (br (decide (m.kind=12)) (br (decide (0≤m.n)) (br (decide (m.n≤99)) (br (decide (0≤m.m)) (some (decide (m.m≤99)))
 (some false))
 (some false))
 (some false))
 (br (decide (m.kind=13)) (br (decide ((-99)≤m.n)) (br (decide (m.n≤99)) (br (decide ((-99)≤m.m)) (some (decide (m.m≤99)))
 (some false))
 (some false))
 (some false))
 (some true))))))))))))) fun k2 =>
 br (decide (m.kind<1)) (k2 true)
 (br (decide (14<m.kind)) (k2 true)
 (bnd (r15_used m) fun y4 =>
 lt ((decide (y4.kind=0) && (decide (y4.n=0) && (decide (y4.m=0) && (stdScmp .eql y4.sub (bs []) && (decide (y4.filter.zone=0) && (decide (y4.filter.who=0) && (decide (y4.filter.self=0) && (decide (y4.filter.types=0) && (decide (y4.filter.notTypes=0) && (decide (y4.filter.colors=0) && (decide (y4.filter.notColors=0) && (stdScmp .eql y4.filter.sub (bs []) && (decide (y4.filter.keys=0) && (decide (y4.filter.tap=0) && (decide (y4.filter.power.kind=0) && (decide (y4.filter.power.n=0) && (decide (y4.filter.tough.kind=0) && (decide (y4.filter.tough.n=0) && (decide (y4.filter.value.kind=0) && (decide (y4.filter.value.n=0) && true)))))))))))))))))))) == false) fun v5 =>
 k2 v5))
def r10_AddSub_l1 (l:GLine) (sub:ByteArray) (s6:Int) (k7:Int→Option GLine):Option GLine :=
 jn (fun s9:Bool =>
 br s9 (k7 (addI s6 1))
 (bnd (slcO l.subs.length 0 s6) fun x14 =>
 roomO (0+(subL l.subs (0+x14.1) (x14.2 - x14.1)).length) 16 (
 roomO ((subL l.subs (0+x14.1) (x14.2 - x14.1)).length+([sub]).length) 16 (
 bnd (slcO l.subs.length s6 ((l.subs.length:Nat):Int)) fun x15 =>
 roomO (((subL l.subs (0+x14.1) (x14.2 - x14.1)) ++ [sub]).length+(subL l.subs (0+x15.1) (x15.2 - x15.1)).length) 16 (
 some { l with subs:=(((subL l.subs (0+x14.1) (x14.2 - x14.1)) ++ [sub]) ++ (subL l.subs (0+x15.1) (x15.2 - x15.1))) }))))) fun k10 =>
 br (decide (s6<(lenI l.subs))) (bnd (ixO l.subs.length s6) fun j12 =>
 bnd (l.subs[j12]?) fun x13 =>
 k10 (stdScmp .lss x13 sub))
 (k10 false)
def r10_AddSub (l:GLine) (sub:ByteArray):Option GLine :=
 roomO (0+l.subs.length) 16 (
 jn (fun s1:Bool =>
 br s1 (some { l with subs:=l.subs })
 (loopF (r10_AddSub_l1 l sub) 0)) fun k2 =>
 bnd (r10_IsSub sub) fun y4 =>
 br (y4 == false) (k2 true)
 (bnd (r10_HasSub l sub) fun y5 =>
 br y5 (k2 true)
 (k2 (decide (4≤(lenI l.subs))))))
def r15_Apply (t:GTraits) (m:GMod) (you:Int) (count:Int):Option GTraits :=
 bnd (r15_Is m) fun y1 =>
 br (y1 == false) (some t)
 (br (decide (m.kind=1)) (some { t with control:=you })
 (br (decide (m.kind=2)) (some { t with line:={ t.line with types:=m.n } })
 (br (decide (m.kind=3)) (some { t with line:={ t.line with types:=(stdBin .or .i64 t.line.types m.n) } })
 (br (decide (m.kind=4)) (some { t with line:={ t.line with subs:=[m.sub] } })
 (br (decide (m.kind=5)) (bnd (r10_AddSub t.line m.sub) fun y2 =>
 some { t with line:=y2 })
 (br (decide (m.kind=6)) (some { t with colors:=m.n })
 (br (decide (m.kind=7)) (some { t with colors:=(stdBin .or .i64 t.colors m.n) })
 (br (decide (m.kind=8)) (some { t with keys:=(stdBin .or .i64 t.keys m.n) })
 (br (decide (m.kind=9)) (some { t with keys:=(stdBin .andNot .i64 t.keys m.n) })
 (br (decide (m.kind=10)) (some { t with keys:=0,abilities:=[] })
 (br (decide (m.kind=11)) (bnd (r01_Clamp count) fun y3 =>
 bnd (r01_Clamp count) fun y4 =>
 some { t with power:=y3,tough:=y4 })
 (br (decide (m.kind=12)) (some { t with power:=m.n,tough:=m.m })
 (br (decide (m.kind=13)) (bnd (r01_Add t.power m.n) fun y5 =>
 bnd (r01_Add t.tough m.m) fun y6 =>
 some { t with power:=y5,tough:=y6 })
 (br (decide (m.kind=14)) (some { t with power:=t.tough,tough:=t.power })
 (some t)))))))))))))))
def r30_modified_l1 (f:GR30Force) (stage:Int) (player:Int) (nums:List Int) (s1:GTraits × Int × Int) (k2:(GTraits × Int × Int)→Option GTraits):Option GTraits :=
 br (decide (s1.2.2<(lenI f.mods))) (jn (fun s4:GTraits × Int =>
 k2 (s4.1,s4.2,(addI s1.2.2 1))) fun k5 =>
 bnd (ixL f.mods s1.2.2) fun x7 =>
 bnd (r15_Stage x7.kind) fun y8 =>
 br (decide (y8=stage)) (bnd (ixL f.mods s1.2.2) fun x9 =>
 bnd (ixL nums s1.2.1) fun x10 =>
 bnd (r15_Apply s1.1 x9 player x10) fun y11 =>
 k5 (y11,(addI s1.2.1 1)))
 (k5 (s1.1,s1.2.1)))
 (some s1.1)
def r30_modified (t:GTraits) (f:GR30Force) (stage:Int) (player:Int) (nums:List Int):Option GTraits :=
 loopF (r30_modified_l1 f stage player nums) (t,0,0)
def r30_drops_l1 (f:GR30Force) (stage:Int) (s1:Int) (k2:Int→Option Bool):Option Bool :=
 br (decide (s1<(lenI f.mods))) (jn (fun s4:Bool =>
 br s4 (some true)
 (k2 (addI s1 1))) fun k5 =>
 bnd (ixL f.mods s1) fun x7 =>
 br (decide (x7.kind=10)) (bnd (ixL f.mods s1) fun x8 =>
 bnd (r15_Stage x8.kind) fun y9 =>
 k5 (decide (y9=stage)))
 (k5 false))
 (some false)
def r30_drops (f:GR30Force) (stage:Int):Option Bool :=
 loopF (r30_drops_l1 f stage) 0
def r30_applied_l1 (w:GR30World) (i:Int) (stage:Int) (y2:List Int) (y3:List Int) (y4:Int) (j5:Nat) (x6:Bool) (j8:Nat) (s10:Int × (List GTraits) × (List Bool)) (k11:(Int × (List GTraits) × (List Bool))→Option GR30World):Option GR30World :=
 br (decide (s10.1<(lenI w.s.objects))) (jn (fun s13:(List GTraits) × (List Bool) =>
 k11 ((addI s10.1 1),s13.1,s13.2)) fun k14 =>
 bnd (ixL w.s.objects s10.1) fun x16 =>
 bnd (r03_Has y2 x16.id) fun y17 =>
 br (y17 == false) (k14 (s10.2.1,s10.2.2))
 (bnd (ixL w.all s10.1) fun x18 =>
 bnd (ixL w.l i) fun x19 =>
 bnd (r30_modified x18 x19 stage y4 y3) fun y20 =>
 bnd (ixO s10.2.1.length s10.1) fun j21 =>
 bnd (s10.2.1[j21]?) fun x22 =>
 bnd (ixL w.l i) fun x23 =>
 bnd (r30_drops x23 stage) fun y24 =>
 br y24 (bnd (ixO s10.2.2.length s10.1) fun j25 =>
 lt true fun x26 =>
 bnd (s10.2.2[j25]?) fun x27 =>
 k14 ((s10.2.1.set j21 y20),(s10.2.2.set j25 x26)))
 (k14 ((s10.2.1.set j21 y20),s10.2.2))))
 (some (GR30World.mk w.s s10.2.1 w.l (w.begun.set j5 x6) (w.sets.set j8 y2) s10.2.2))
def r30_applied (w:GR30World) (i:Int) (stage:Int):Option GR30World :=
 bnd (r30_active w i) fun y1 =>
 br (y1 == false) (some w)
 (bnd (r30_affects w i) fun y2 =>
 bnd (r30_numbers w i stage) fun y3 =>
 bnd (r30_you w i) fun y4 =>
 roomO w.all.length 176 (
 roomO w.begun.length 1 (
 roomO w.sets.length 24 (
 roomO w.blank.length 1 (
 bnd (ixO w.begun.length i) fun j5 =>
 lt true fun x6 =>
 bnd (w.begun[j5]?) fun x7 =>
 bnd (ixO w.sets.length i) fun j8 =>
 bnd (w.sets[j8]?) fun x9 =>
 loopF (r30_applied_l1 w i stage y2 y3 y4 j5 x6 j8) (0,w.all,w.blank))))))
def r30_needs (w:GR30World) (i:Int) (j:Int) (stage:Int):Option Bool :=
 br (decide (i=j)) (some false)
 (bnd (r30_applied w j stage) fun y1 =>
 bnd (r30_active w i) fun y2 =>
 bnd (r30_active y1 i) fun y3 =>
 br ((y2 == y3) == false) (some true)
 (bnd (r30_affects w i) fun y4 =>
 bnd (r30_affects y1 i) fun y5 =>
 bnd (r03_Same y4 y5) fun y6 =>
 br (y6 == false) (some true)
 (bnd (r30_numbers w i stage) fun y7 =>
 bnd (r30_numbers y1 i stage) fun y8 =>
 bnd (r03_Same y7 y8) fun y9 =>
 some (y9 == false))))
def r07_has_l1 (l:List Int) (i:Int) (s1:Int) (k2:Int→Option Bool):Option Bool :=
 br (decide (s1<(lenI l))) (bnd (ixL l s1) fun x4 =>
 br (decide (x4=i)) (some true)
 (k2 (addI s1 1)))
 (some false)
def r07_has (l:List Int) (i:Int):Option Bool :=
 loopF (r07_has_l1 l i) 0
def r07_elements_l1 (left:List Int) (s1:Int × (List Int)) (k2:(Int × (List Int))→Option (List Int)):Option (List Int) :=
 br (decide (s1.1<(lenI left))) (jn (fun s4:(List Int) =>
 k2 ((addI s1.1 1),s4)) fun k5 =>
 jn (fun s7:Bool =>
 br s7 (bnd (ixL left s1.1) fun x13 =>
 roomO (s1.2.length+([x13]).length) 8 (
 k5 (s1.2 ++ [x13])))
 (k5 s1.2)) fun k8 =>
 bnd (ixL left s1.1) fun x10 =>
 br (decide (0≤x10)) (bnd (ixL left s1.1) fun x11 =>
 bnd (r07_has s1.2 x11) fun y12 =>
 k8 (y12 == false))
 (k8 false))
 (some s1.2)
def r07_elements (left:List Int):Option (List Int) :=
 loopF (r07_elements_l1 left) (0,[])
def r07_need (needs:List (List Bool)) (i:Int) (j:Int):Option Bool :=
 br (decide (i<(lenI needs))) (bnd (ixL needs i) fun x1 =>
 br (decide (j<(lenI x1))) (bnd (ixL needs i) fun x2 =>
 bnd (ixL x2 j) fun x3 =>
 some x3)
 (some false))
 (some false)
def r07_reached_l1 (l:List Int) (needs:List (List Bool)) (s10:Int × (List Int)) (k11:(Int × (List Int))→Option (List Int)) (s13:Int × (List Int)) (k14:(Int × (List Int))→Option (List Int)):Option (List Int) :=
 br (decide (s13.1<(lenI l))) (jn (fun s16:(List Int) =>
 k14 ((addI s13.1 1),s16)) fun k17 =>
 jn (fun s19:Bool =>
 br s19 (bnd (ixL l s13.1) fun x28 =>
 roomO (s13.2.length+([x28]).length) 8 (
 k17 (s13.2 ++ [x28])))
 (k17 s13.2)) fun k20 =>
 bnd (ixO s13.2.length s10.1) fun j22 =>
 bnd (s13.2[j22]?) fun x23 =>
 bnd (ixL l s13.1) fun x24 =>
 bnd (r07_need needs x23 x24) fun y25 =>
 br y25 (bnd (ixL l s13.1) fun x26 =>
 bnd (r07_has s13.2 x26) fun y27 =>
 k20 (y27 == false))
 (k20 false))
 (k11 ((addI s10.1 1),s13.2))
def r07_reached_l2 (l:List Int) (needs:List (List Bool)) (s10:Int × (List Int)) (k11:(Int × (List Int))→Option (List Int)):Option (List Int) :=
 br (decide (s10.1<(lenI s10.2))) (loopF (r07_reached_l1 l needs s10 k11) (0,s10.2))
 (some s10.2)
def r07_reached_l3 (l:List Int) (needs:List (List Bool)) (i:Int) (s1:Int × (List Int)) (k2:(Int × (List Int))→Option (List Int)):Option (List Int) :=
 br (decide (s1.1<(lenI l))) (jn (fun s4:(List Int) =>
 k2 ((addI s1.1 1),s4)) fun k5 =>
 bnd (ixL l s1.1) fun x7 =>
 bnd (r07_need needs i x7) fun y8 =>
 br y8 (bnd (ixL l s1.1) fun x9 =>
 roomO (s1.2.length+([x9]).length) 8 (
 k5 (s1.2 ++ [x9])))
 (k5 s1.2))
 (loopF (r07_reached_l2 l needs) (0,s1.2))
def r07_reached (l:List Int) (needs:List (List Bool)) (i:Int):Option (List Int) :=
 loopF (r07_reached_l3 l needs i) (0,[])
def r07_Ready_l1 (needs:List (List Bool)) (y1:List Int) (s2:Int × (List Int)) (k6:(List Int)→Option (List Int)) (s8:Bool × Int) (k9:(Bool × Int)→Option (List Int)):Option (List Int) :=
 br (decide (s8.2<(lenI y1))) (jn (fun s11:Bool =>
 k9 (s11,(addI s8.2 1))) fun k12 =>
 jn (fun s14:Bool =>
 br s14 (k12 false)
 (k12 s8.1)) fun k15 =>
 br (!decide (s8.2=s2.1)) (bnd (ixL y1 s2.1) fun x17 =>
 bnd (ixL y1 s8.2) fun x18 =>
 bnd (r07_need needs x17 x18) fun y19 =>
 br y19 (bnd (ixL y1 s8.2) fun x20 =>
 bnd (r07_reached y1 needs x20) fun y21 =>
 bnd (ixL y1 s2.1) fun x22 =>
 bnd (r07_has y21 x22) fun y23 =>
 k15 (y23 == false))
 (k15 false))
 (k15 false))
 (br s8.1 (bnd (ixL y1 s2.1) fun x24 =>
 roomO (s2.2.length+([x24]).length) 8 (
 k6 (s2.2 ++ [x24])))
 (k6 s2.2))
def r07_Ready_l2 (needs:List (List Bool)) (y1:List Int) (s2:Int × (List Int)) (k3:(Int × (List Int))→Option (List Int)):Option (List Int) :=
 br (decide (s2.1<(lenI y1))) (jn (fun s5:(List Int) =>
 k3 ((addI s2.1 1),s5)) fun k6 =>
 loopF (r07_Ready_l1 needs y1 s2 k6) (true,0))
 (some s2.2)
def r07_Ready (left:List Int) (needs:List (List Bool)):Option (List Int) :=
 bnd (r07_elements left) fun y1 =>
 loopF (r07_Ready_l2 needs y1) (0,[])
def r07_stamp (stamps:List Int) (i:Int):Option Int :=
 br (decide (i<(lenI stamps))) (bnd (ixL stamps i) fun x1 =>
 some x1)
 (some 0)
def r07_Next_l1 (stamps:List Int) (y1:List Int) (s2:Int × Int) (k3:(Int × Int)→Option Int):Option Int :=
 br (decide (s2.2<(lenI y1))) (jn (fun s5:Int =>
 k3 (s5,(addI s2.2 1))) fun k6 =>
 bnd (ixL y1 s2.2) fun x8 =>
 bnd (r07_stamp stamps x8) fun y9 =>
 jn (fun s10:Bool =>
 br s10 (bnd (ixL y1 s2.2) fun x16 =>
 k6 x16)
 (k6 s2.1)) fun k11 =>
 br (decide (s2.1<0)) (k11 true)
 (bnd (r07_stamp stamps s2.1) fun y13 =>
 br (decide (y9<y13)) (k11 true)
 (bnd (r07_stamp stamps s2.1) fun y14 =>
 br (decide (y9=y14)) (bnd (ixL y1 s2.2) fun x15 =>
 k11 (decide (x15<s2.1)))
 (k11 false))))
 (some s2.1)
def r07_Next (left:List Int) (stamps:List Int) (needs:List (List Bool)):Option Int :=
 bnd (r07_Ready left needs) fun y1 =>
 loopF (r07_Next_l1 stamps y1) ((-1),0)
def r30_next_l1 (w:GR30World) (left:List Int) (stage:Int) (s8:Int × (List (List Bool))) (k9:(Int × (List (List Bool)))→Option Int) (s11:Int × (List (List Bool))) (k12:(Int × (List (List Bool)))→Option Int):Option Int :=
 br (decide (s11.1<(lenI left))) (bnd (ixL left s8.1) fun x14 =>
 bnd (ixO s11.2.length x14) fun j15 =>
 bnd (s11.2[j15]?) fun x16 =>
 bnd (ixL left s11.1) fun x17 =>
 bnd (ixL left s8.1) fun x18 =>
 bnd (ixL left s11.1) fun x19 =>
 bnd (r30_needs w x18 x19 stage) fun y20 =>
 bnd (ixO x16.length x17) fun j21 =>
 bnd (s11.2[j15]?) fun x22 =>
 bnd (x22[j21]?) fun x23 =>
 k12 ((addI s11.1 1),(s11.2.set j15 (x22.set j21 y20))))
 (k9 ((addI s8.1 1),s11.2))
def r30_next_l2 (w:GR30World) (left:List Int) (stage:Int) (s1:Int × (List Int) × (List (List Bool))) (s8:Int × (List (List Bool))) (k9:(Int × (List (List Bool)))→Option Int):Option Int :=
 br (decide (s8.1<(lenI left))) (loopF (r30_next_l1 w left stage s8 k9) (0,s8.2))
 (bnd (r07_Next left s1.2.1 s8.2) fun y24 =>
 some y24)
def r30_next_l3 (w:GR30World) (left:List Int) (stage:Int) (s1:Int × (List Int) × (List (List Bool))) (k2:(Int × (List Int) × (List (List Bool)))→Option Int):Option Int :=
 br (decide (s1.1<(lenI w.l))) (bnd (ixL w.l s1.1) fun x4 =>
 roomO (s1.2.1.length+([x4.stamp]).length) 8 (
 bnd (mksO (lenI w.l) (lenI w.l) 1) fun j5 =>
 lt false fun x6 =>
 roomO (s1.2.2.length+1) 24 (
 k2 ((addI s1.1 1),(s1.2.1 ++ [x4.stamp]),(s1.2.2 ++ [(List.replicate j5 x6)])))))
 (loopF (r30_next_l2 w left stage s1) (0,s1.2.2))
def r30_next (w:GR30World) (left:List Int) (stage:Int):Option Int :=
 loopF (r30_next_l3 w left stage) (0,[],[])
def r03_Without_l1 (l:List Int) (n:Int) (s1:Int × (List Int)) (k2:(Int × (List Int))→Option (List Int)):Option (List Int) :=
 br (decide (s1.1<(lenI l))) (jn (fun s4:(List Int) =>
 k2 ((addI s1.1 1),s4)) fun k5 =>
 bnd (ixL l s1.1) fun x7 =>
 br (!decide (x7=n)) (bnd (ixL l s1.1) fun x8 =>
 roomO (s1.2.length+([x8]).length) 8 (
 k5 (s1.2 ++ [x8])))
 (k5 s1.2))
 (some s1.2)
def r03_Without (l:List Int) (n:Int):Option (List Int) :=
 loopF (r03_Without_l1 l n) (0,[])
def r30_staged_l1 (stage:Int) (s5:Int × (List Int)) (s13:GR30World × (List Int) × Int × (List Int)) (k14:(GR30World × (List Int) × Int × (List Int))→Option (GR30World × (List Int))):Option (GR30World × (List Int)) :=
 br (decide (s13.2.2.1<(lenI s5.2))) (bnd (r30_next s13.1 s13.2.1 stage) fun y16 =>
 roomO (s13.2.2.2.length+([y16]).length) 8 (
 bnd (r30_applied s13.1 y16 stage) fun y17 =>
 bnd (r03_Without s13.2.1 y16) fun y18 =>
 k14 (y17,y18,(addI s13.2.2.1 1),(s13.2.2.2 ++ [y16]))))
 (some (s13.1,s13.2.2.2))
def r30_staged_l2 (stage:Int) (s1:GR30World) (s5:Int × (List Int)) (k6:(Int × (List Int))→Option (GR30World × (List Int))):Option (GR30World × (List Int)) :=
 br (decide (s5.1<(lenI s1.l))) (jn (fun s8:(List Int) =>
 k6 ((addI s5.1 1),s8)) fun k9 =>
 bnd (ixL s1.l s5.1) fun x11 =>
 bnd (r30_belongs x11 stage) fun y12 =>
 br y12 (roomO (s5.2.length+([s5.1]).length) 8 (
 k9 (s5.2 ++ [s5.1])))
 (k9 s5.2))
 (loopF (r30_staged_l1 stage s5) (s1,s5.2,0,[]))
def r30_staged (w:GR30World) (stage:Int):Option (GR30World × (List Int)) :=
 jn (fun s1:GR30World =>
 loopF (r30_staged_l2 stage s1) (0,[])) fun k2 =>
 br (decide (stage=7)) (bnd (r30_counted w) fun y4 =>
 k2 y4)
 (k2 w)
def r30_All (cards:List GCard) (s:GState):Option (List GTraits) :=
 bnd (r30_first cards s) fun y1 =>
 bnd (r30_staged y1 1) fun y3 =>
 bnd (r30_staged y3.1 2) fun y4 =>
 bnd (r30_staged y4.1 3) fun y5 =>
 bnd (r30_staged y5.1 4) fun y6 =>
 bnd (r30_staged y6.1 5) fun y7 =>
 bnd (r30_staged y7.1 6) fun y8 =>
 bnd (r30_staged y8.1 7) fun y9 =>
 bnd (r30_staged y9.1 8) fun y10 =>
 some y10.1.all
def block_traits (all:List GTraits) (i:Int):Option GTraits :=
 br (decide (i<(lenI all))) (bnd (ixL all i) fun x1 =>
 some x1)
 (some zGTraits)
def keyword_Has (mask:Int) (key:Int):Option Bool :=
 some (decide ((stdBin .and .i64 mask key)=key))
def block_Can_1 (t:GTraits) (key:Int):Option Bool :=
 bnd (keyword_Has t.keys key) fun y1 =>
 some y1
def block_Can (b:GObject) (tb:GTraits) (a:GObject) (ta:GTraits):Option Bool :=
 jn (fun s1:Bool =>
 br s1 (some false)
 (bnd (block_Can_1 ta 1) fun y6 =>
 br (y6 == false) (some true)
 (bnd (block_Can_1 tb 1) fun y7 =>
 br y7 (some true)
 (bnd (block_Can_1 tb 2) fun y8 =>
 some y8)))) fun k2 =>
 br (decide ((stdBin .and .i64 tb.line.types 1)=0)) (k2 true)
 (br b.tapped (k2 true)
 (bnd (block_Can_1 tb 32768) fun y4 =>
 br y4 (k2 true)
 (bnd (block_Can_1 ta 8192) fun y5 =>
 k2 y5)))
def block_Able_l1 (s:GState) (all:List GTraits) (p:Int) (s1:Int × (List GOption)) (k5:(List GOption)→Option (List GOption)) (x7:GObject) (s12:Int × (List GOption)) (k13:(Int × (List GOption))→Option (List GOption)):Option (List GOption) :=
 br (decide (s12.1<(lenI s.objects))) (jn (fun s15:(List GOption) =>
 k13 ((addI s12.1 1),s15)) fun k16 =>
 bnd (ixL s.objects s12.1) fun x18 =>
 jn (fun s19:Bool =>
 br s19 (lt (GOption.mk 8 x7.id x18.id) fun x25 =>
 roomO (s12.2.length+([x25]).length) 24 (
 k16 (s12.2 ++ [x25])))
 (k16 s12.2)) fun k20 =>
 br (decide (x18.zone=0)) (br (decide (x18.attack=p)) (bnd (block_traits all s1.1) fun y22 =>
 bnd (block_traits all s12.1) fun y23 =>
 bnd (block_Can x7 y22 x18 y23) fun y24 =>
 k20 y24)
 (k20 false))
 (k20 false))
 (k5 s12.2)
def block_Able_l2 (s:GState) (all:List GTraits) (p:Int) (s1:Int × (List GOption)) (k2:(Int × (List GOption))→Option (List GOption)):Option (List GOption) :=
 br (decide (s1.1<(lenI s.objects))) (jn (fun s4:(List GOption) =>
 k2 ((addI s1.1 1),s4)) fun k5 =>
 bnd (ixL s.objects s1.1) fun x7 =>
 jn (fun s8:Bool =>
 br s8 (k5 s1.2)
 (loopF (block_Able_l1 s all p s1 k5 x7) (0,s1.2))) fun k9 =>
 br (!decide (x7.zone=0)) (k9 true)
 (bnd (block_traits all s1.1) fun y11 =>
 k9 (!decide (y11.control=p))))
 (some s1.2)
def block_Able (s:GState) (all:List GTraits) (p:Int):Option (List GOption) :=
 loopF (block_Able_l2 s all p) (0,[])
def block_Check_1 (x:GOption) (c1:GOption):Option Bool :=
 some (decide (x.a=c1.a))
def slices_IndexFunc_option_l1 (s:List GOption) (f:GOption→Option Bool) (s1:Int) (k2:Int→Option Int):Option Int :=
 br (decide (s1<(lenI s))) (bnd (ixL s s1) fun x4 =>
 bnd (f x4) fun y5 =>
 br y5 (some s1)
 (k2 (addI s1 1)))
 (some (-1))
def slices_IndexFunc_option (s:List GOption) (f:GOption→Option Bool):Option Int :=
 loopF (slices_IndexFunc_option_l1 s f) 0
def slices_ContainsFunc_option (s:List GOption) (f:GOption→Option Bool):Option Bool :=
 bnd (slices_IndexFunc_option s f) fun y1 =>
 some (decide (0≤y1))
def slices_Index_option_l1 (s:List GOption) (v:GOption) (s1:Int) (k2:Int→Option Int):Option Int :=
 br (decide (s1<(lenI s))) (bnd (ixL s s1) fun x4 =>
 lt (decide (v.kind=x4.kind) && (decide (v.a=x4.a) && (decide (v.b=x4.b) && true))) fun v5 =>
 br v5 (some s1)
 (k2 (addI s1 1)))
 (some (-1))
def slices_Index_option (s:List GOption) (v:GOption):Option Int :=
 loopF (slices_Index_option_l1 s v) 0
def slices_Contains_option (s:List GOption) (v:GOption):Option Bool :=
 bnd (slices_Index_option s v) fun y1 =>
 some (decide (0≤y1))
def block_Check_l1 (l:List GOption) (k16:Unit→Option Int) (x18:GObject) (s21:Int × Int) (k22:(Int × Int)→Option Int):Option Int :=
 br (decide (s21.2<(lenI l))) (jn (fun s24:Int =>
 k22 (s24,(addI s21.2 1))) fun k25 =>
 bnd (ixL l s21.2) fun x27 =>
 br (decide (x27.b=x18.id)) (k25 (addI s21.1 1))
 (k25 s21.1))
 (br (decide (s21.1=1)) (some 19)
 (k16 ()))
def block_Check_l2 (s:GState) (all:List GTraits) (l:List GOption) (s12:Int) (k13:Int→Option Int):Option Int :=
 br (decide (s12<(lenI s.objects))) (jn (fun s15:Unit =>
 k13 (addI s12 1)) fun k16 =>
 bnd (ixL s.objects s12) fun x18 =>
 bnd (block_traits all s12) fun y19 =>
 bnd (keyword_Has y19.keys 512) fun y20 =>
 br (y20 == false) (k16 ())
 (loopF (block_Check_l1 l k16 x18) (0,0)))
 (some 0)
def block_Check_l3 (s:GState) (all:List GTraits) (l:List GOption) (y1:List GOption) (s2:Int) (k3:Int→Option Int):Option Int :=
 br (decide (s2<(lenI l))) (bnd (ixL l s2) fun x5 =>
 bnd (slcO l.length 0 s2) fun x6 =>
 bnd (slices_ContainsFunc_option (subL l x6.1 (x6.2 - x6.1)) (fun a0=>block_Check_1 a0 x5)) fun y7 =>
 jn (fun s8:Bool =>
 br s8 (some 19)
 (k3 (addI s2 1))) fun k9 =>
 br y7 (k9 true)
 (bnd (slices_Contains_option y1 x5) fun y11 =>
 k9 (y11 == false)))
 (loopF (block_Check_l2 s all l) 0)
def block_Check (s:GState) (all:List GTraits) (p:Int) (l:List GOption):Option Int :=
 bnd (block_Able s all p) fun y1 =>
 loopF (block_Check_l3 s all l y1) 0
def law46_BlockMenace (keys:Int) (n:Int) (picked:Int):Option Bool :=
 jn (fun s1:Bool =>
 br s1 (bnd (law46_alive) fun y4 =>
 some y4)
 (bnd (law46_fight keys n) fun y5 =>
 bnd (r30_All y5.1 y5.2) fun y6 =>
 bnd (block_Able y5.2 y6 1) fun y7 =>
 br (!decide ((stdBin .and .i64 keys 8193)=0)) (jn (fun s8:Bool =>
 some s8) fun k9 =>
 bnd (law46_alive) fun y11 =>
 br y11 (k9 (decide ((lenI y7)=0)))
 (k9 false))
 (jn (fun s12:Bool =>
 br s12 (some false)
 (jn (fun s16:Bool =>
 br s16 (bnd (law46_alive) fun y19 =>
 br y19 (bnd (slcO y7.length 0 picked) fun x20 =>
 bnd (block_Check y5.2 y6 1 (subL y7 x20.1 (x20.2 - x20.1))) fun y21 =>
 br (decide (y21=19)) (br (decide (n=0)) (some true)
 (roomO y7.length 24 (
 bnd (ixL y7 0) fun x22 =>
 roomO (y7.length+([x22]).length) 24 (
 bnd (block_Check y5.2 y6 1 (y7 ++ [x22])) fun y23 =>
 some (decide (y23=19))))))
 (some false))
 (some false))
 (bnd (law46_alive) fun y24 =>
 br y24 (bnd (slcO y7.length 0 picked) fun x25 =>
 bnd (block_Check y5.2 y6 1 (subL y7 x25.1 (x25.2 - x25.1))) fun y26 =>
 br (decide (y26=0)) (br (decide (n=0)) (some true)
 (roomO y7.length 24 (
 bnd (ixL y7 0) fun x27 =>
 roomO (y7.length+([x27]).length) 24 (
 bnd (block_Check y5.2 y6 1 (y7 ++ [x27])) fun y28 =>
 some (decide (y28=19))))))
 (some false))
 (some false))) fun k17 =>
 br (decide (picked=1)) (k17 (!decide ((stdBin .and .i64 keys 512)=0)))
 (k17 false))) fun k13 =>
 br (!decide ((lenI y7)=n)) (k13 true)
 (bnd (block_Able y5.2 y6 0) fun y15 =>
 k13 (!decide ((lenI y15)=0)))))) fun k2 =>
 br (decide (keys<0)) (k2 true)
 (br (decide (131071<keys)) (k2 true)
 (br (decide (n<0)) (k2 true)
 (br (decide (8<n)) (k2 true)
 (br (decide (picked<0)) (k2 true)
 (k2 (decide (n<picked)))))))
theorem d_st {p:Prop} (h:p:=by (try simp only [eGPlayer,eGObject,eGBound,eGFilter,eGMod,eGCost,eGPrice,eGTrigger,eGSpec,eGRef,eGAmount,eGEffect,eGReplace,eGAbility,eGTarget,eGEvent,eGItem,eGWaiting,eGCont,eGState,eGLine,eGCard,eGTraits,eGR30Force,eGR30World,eGOption,zGPlayer,zGObject,zGBound,zGFilter,zGMod,zGCost,zGPrice,zGTrigger,zGSpec,zGRef,zGAmount,zGEffect,zGReplace,zGAbility,zGTarget,zGEvent,zGItem,zGWaiting,zGCont,zGState,zGLine,zGCard,zGTraits,zGR30Force,zGR30World,zGOption,zArr2I,zArr3I,zArr5I,zArr6I,q]); repeat' constructor):p:=h
theorem d_le {u v:List PV} (e:u=v:=by simp only [q]; try first | rfl | (simp only [eGPlayer,eGObject,eGBound,eGFilter,eGMod,eGCost,eGPrice,eGTrigger,eGSpec,eGRef,eGAmount,eGEffect,eGReplace,eGAbility,eGTarget,eGEvent,eGItem,eGWaiting,eGCont,eGState,eGLine,eGCard,eGTraits,eGR30Force,eGR30World,eGOption,q]; done) | simp [stdCmp,eI,eB,eL,eS,q]):LeL u v:=le_eq e
end Go.Proofs.YthfepelpmalckaaGreat
