import Derived.Test.YthfepelpmalckaaGreatDoorRows
import Derived.Test.YthfepelpmalckaaGreatDoorD06
set_option linter.all false
namespace Go.Proofs.YthfepelpmalckaaGreatDoor
open Go Go.Pv
abbrev i0:PV:=.int .i64 0
abbrev b0:PV:=.bool false
abbrev n0:PV:=.sl 0 [] true
abbrev f0 (n:Nat):FI:=⟨n,1,false⟩
def tabL:List (Nat × TI):=[
 (3,⟨true,false,1,(some [i0]),(some [0]),.int .i64⟩),
 (31,⟨true,true,19,(some [n0,n0,n0,n0,n0,n0,n0,i0,i0,i0,b0,i0,i0,i0,i0,.int .u64 0,n0,i0,i0]),none,.struct [f0 0,f0 1,f0 2,f0 3,f0 4,f0 5,f0 6,f0 7,f0 8,f0 9,f0 10,f0 11,f0 12,f0 13,f0 14,f0 15,f0 16,f0 17,f0 18]⟩),
 (25,⟨true,false,1,(some [n0]),none,.slice 1 8 (some [i0])⟩),
 (65,⟨true,true,19,(some [i0,i0,i0,i0,i0,b0,b0,b0,b0,i0,i0,i0,i0,i0,i0,i0,b0,i0,i0]),(some [0,0,0,0,0,1,1,1,1,0,0,0,0,0,0,0,1,0,0]),.struct [f0 0,f0 1,f0 2,f0 3,f0 4,f0 5,f0 6,f0 7,f0 8,f0 9,⟨10,3,true⟩,f0 13,f0 14,f0 15,f0 16,f0 17,f0 18]⟩),
 (35,⟨true,true,15,(some [i0,i0,i0,i0,i0,i0,i0,i0,i0,i0,b0,b0,i0,i0,i0]),(some [0,0,0,0,0,0,0,0,0,0,1,1,0,0,0]),.struct [f0 0,f0 1,f0 2,f0 3,f0 4,f0 5,f0 6,f0 7,f0 8,f0 9,f0 10,f0 11,⟨12,3,true⟩]⟩),
 (24,⟨true,false,1,(some [n0]),none,.slice 19 128 (some [i0,i0,i0,i0,i0,b0,b0,b0,b0,i0,i0,i0,i0,i0,i0,i0,b0,i0,i0])⟩),
 (9,⟨true,false,1,(some [.str ⟨#[]⟩]),(some [2]),.str⟩),
 (185,⟨true,true,17,(some [.str ⟨#[]⟩,i0,i0,i0,i0,i0,i0,i0,i0,i0,i0,n0,i0,i0,i0,n0,i0]),none,.struct [f0 0,⟨1,7,true⟩,f0 8,⟨9,3,true⟩,f0 12,f0 13,f0 14,f0 15,f0 16]⟩),
 (101,⟨true,true,108,(some [.nilp,n0,n0,n0,n0,n0,n0,n0,n0,i0,i0,i0,b0,i0,i0,i0,i0,.int .u64 0,n0,i0,i0,i0,i0,i0,n0,i0,i0,i0,i0,i0,i0,i0,i0,i0,i0,b0,b0,i0,i0,i0,i0,i0,i0,i0,i0,i0,i0,i0,i0,i0,.str ⟨#[]⟩,i0,i0,i0,i0,i0,i0,i0,i0,i0,i0,i0,i0,i0,i0,i0,i0,i0,i0,.str ⟨#[]⟩,i0,i0,i0,i0,i0,i0,i0,i0,i0,i0,.str ⟨#[]⟩,i0,i0,i0,i0,i0,i0,i0,.str ⟨#[]⟩,i0,i0,i0,i0,i0,i0,i0,i0,i0,i0,i0,i0,i0,i0,n0,n0,i0,n0,n0]),none,.struct [f0 0,f0 1,⟨2,19,true⟩,⟨21,19,true⟩,⟨40,64,true⟩,f0 104,f0 105,f0 106,f0 107]⟩),
 (88,⟨true,true,72,(some [i0,i0,i0,i0,i0,i0,i0,i0,.str ⟨#[]⟩,i0,i0,i0,i0,i0,i0,i0,i0,n0,i0,i0,i0,i0,i0,i0,i0,b0,b0,i0,b0,i0,i0,i0,i0,i0,i0,i0,i0,i0,.str ⟨#[]⟩,i0,i0,i0,i0,i0,i0,i0,i0,b0,n0,n0,i0,i0,i0,i0,i0,i0,i0,i0,i0,.str ⟨#[]⟩,i0,i0,i0,i0,i0,i0,i0,i0,i0,i0,i0,i0]),none,.struct [f0 0,⟨1,16,true⟩,f0 17,⟨18,10,true⟩,f0 28,⟨29,18,true⟩,f0 47,f0 48,f0 49,⟨50,22,true⟩]⟩),
 (69,⟨true,true,16,(some [i0,i0,i0,i0,i0,i0,i0,.str ⟨#[]⟩,i0,i0,i0,i0,i0,i0,i0,i0]),(some [0,0,0,0,0,0,0,2,0,0,0,0,0,0,0,0]),.struct [f0 0,f0 1,f0 2,f0 3,f0 4,f0 5,f0 6,f0 7,f0 8,f0 9,⟨10,2,true⟩,⟨12,2,true⟩,⟨14,2,true⟩]⟩),
 (138,⟨true,true,20,(some [i0,i0,i0,.str ⟨#[]⟩,i0,i0,i0,i0,i0,i0,i0,.str ⟨#[]⟩,i0,i0,i0,i0,i0,i0,i0,i0]),(some [0,0,0,2,0,0,0,0,0,0,0,2,0,0,0,0,0,0,0,0]),.struct [f0 0,f0 1,f0 2,f0 3,⟨4,16,true⟩]⟩),
 (54,⟨true,false,1,(some [n0]),none,.slice 1 16 (some [.str ⟨#[]⟩])⟩),
 (23,⟨true,false,1,(some [n0]),none,.slice 14 152 (some [i0,i0,i0,i0,i0,i0,i0,i0,i0,b0,b0,n0,n0,n0])⟩),
 (4,⟨true,false,1,(some [b0]),(some [1]),.oth⟩),
 (90,⟨true,true,94,(some [i0,i0,i0,i0,i0,b0,i0,i0,i0,i0,i0,i0,i0,i0,.str ⟨#[]⟩,i0,i0,i0,i0,i0,i0,i0,i0,n0,i0,i0,i0,i0,i0,i0,i0,b0,b0,i0,b0,i0,i0,i0,i0,i0,i0,i0,i0,i0,.str ⟨#[]⟩,i0,i0,i0,i0,i0,i0,i0,i0,b0,n0,n0,i0,i0,i0,i0,i0,i0,i0,i0,i0,.str ⟨#[]⟩,i0,i0,i0,i0,i0,i0,i0,i0,i0,i0,i0,i0,n0,i0,i0,i0,i0,i0,i0,i0,i0,i0,i0,b0,b0,i0,i0,i0]),none,.struct [f0 0,f0 1,f0 2,f0 3,f0 4,f0 5,⟨6,72,true⟩,f0 78,⟨79,15,true⟩]⟩),
 (86,⟨true,true,22,(some [i0,i0,i0,i0,i0,i0,i0,i0,i0,.str ⟨#[]⟩,i0,i0,i0,i0,i0,i0,i0,i0,i0,i0,i0,i0]),(some [0,0,0,0,0,0,0,0,0,2,0,0,0,0,0,0,0,0,0,0,0,0]),.struct [f0 0,f0 1,⟨2,16,true⟩,f0 18,f0 19,f0 20,f0 21]⟩),
 (78,⟨true,true,64,(some [i0,i0,i0,i0,i0,i0,i0,i0,i0,i0,.str ⟨#[]⟩,i0,i0,i0,i0,i0,i0,i0,i0,i0,i0,i0,i0,i0,i0,i0,i0,i0,i0,.str ⟨#[]⟩,i0,i0,i0,i0,i0,i0,i0,i0,i0,i0,.str ⟨#[]⟩,i0,i0,i0,i0,i0,i0,i0,.str ⟨#[]⟩,i0,i0,i0,i0,i0,i0,i0,i0,i0,i0,i0,i0,i0,i0,n0]),none,.struct [f0 0,⟨1,18,true⟩,⟨19,19,true⟩,f0 38,f0 39,f0 40,⟨41,16,true⟩,⟨57,6,true⟩,f0 63]⟩),
 (92,⟨true,true,14,(some [i0,i0,i0,i0,i0,i0,i0,i0,i0,b0,b0,n0,n0,n0]),none,.struct [f0 0,f0 1,f0 2,⟨3,6,true⟩,f0 9,f0 10,f0 11,f0 12,f0 13]⟩),
 (26,⟨true,false,1,(some [n0]),none,.slice 94 824 (some [i0,i0,i0,i0,i0,b0,i0,i0,i0,i0,i0,i0,i0,i0,.str ⟨#[]⟩,i0,i0,i0,i0,i0,i0,i0,i0,n0,i0,i0,i0,i0,i0,i0,i0,b0,b0,i0,b0,i0,i0,i0,i0,i0,i0,i0,i0,i0,.str ⟨#[]⟩,i0,i0,i0,i0,i0,i0,i0,i0,b0,n0,n0,i0,i0,i0,i0,i0,i0,i0,i0,i0,.str ⟨#[]⟩,i0,i0,i0,i0,i0,i0,i0,i0,i0,i0,i0,i0,n0,i0,i0,i0,i0,i0,i0,i0,i0,i0,i0,b0,b0,i0,i0,i0])⟩),
 (99,⟨true,false,1,(some [n0]),none,.slice 17 176 (some [.str ⟨#[]⟩,i0,i0,i0,i0,i0,i0,i0,i0,i0,i0,n0,i0,i0,i0,n0,i0])⟩),
 (37,⟨true,true,19,(some [i0,i0,i0,n0,i0,i0,i0,i0,i0,i0,i0,i0,i0,i0,b0,b0,i0,i0,i0]),none,.struct [f0 0,f0 1,f0 2,f0 3,⟨4,15,true⟩]⟩),
 (76,⟨true,false,1,(some [n0]),none,.slice 20 176 (some [i0,i0,i0,.str ⟨#[]⟩,i0,i0,i0,i0,i0,i0,i0,.str ⟨#[]⟩,i0,i0,i0,i0,i0,i0,i0,i0])⟩),
 (44,⟨true,false,1,(some [n0]),none,.slice 3 24 (some [i0,i0,i0])⟩),
 (46,⟨true,true,7,(some [i0,i0,i0,i0,i0,i0,n0]),none,.struct [f0 0,f0 1,f0 2,f0 3,f0 4,f0 5,f0 6]⟩),
 (79,⟨true,false,1,(some [n0]),none,.slice 64 560 (some [i0,i0,i0,i0,i0,i0,i0,i0,i0,i0,.str ⟨#[]⟩,i0,i0,i0,i0,i0,i0,i0,i0,i0,i0,i0,i0,i0,i0,i0,i0,i0,i0,.str ⟨#[]⟩,i0,i0,i0,i0,i0,i0,i0,i0,i0,i0,.str ⟨#[]⟩,i0,i0,i0,i0,i0,i0,i0,.str ⟨#[]⟩,i0,i0,i0,i0,i0,i0,i0,i0,i0,i0,i0,i0,i0,i0,n0])⟩),
 (73,⟨true,true,19,(some [i0,i0,i0,i0,i0,i0,i0,i0,i0,i0,.str ⟨#[]⟩,i0,i0,i0,i0,i0,i0,i0,i0]),(some [0,0,0,0,0,0,0,0,0,0,2,0,0,0,0,0,0,0,0]),.struct [f0 0,f0 1,f0 2,⟨3,16,true⟩]⟩),
 (60,⟨true,false,1,(some [n0]),none,.slice 72 640 (some [i0,i0,i0,i0,i0,i0,i0,i0,.str ⟨#[]⟩,i0,i0,i0,i0,i0,i0,i0,i0,n0,i0,i0,i0,i0,i0,i0,i0,b0,b0,i0,b0,i0,i0,i0,i0,i0,i0,i0,i0,i0,.str ⟨#[]⟩,i0,i0,i0,i0,i0,i0,i0,i0,b0,n0,n0,i0,i0,i0,i0,i0,i0,i0,i0,i0,.str ⟨#[]⟩,i0,i0,i0,i0,i0,i0,i0,i0,i0,i0,i0,i0])⟩),
 (342,⟨true,true,76,(some [i0,i0,i0,i0,i0,i0,i0,i0,i0,i0,i0,.str ⟨#[]⟩,i0,i0,i0,i0,i0,i0,i0,i0,n0,i0,i0,i0,i0,i0,i0,i0,b0,b0,i0,b0,i0,i0,i0,i0,i0,i0,i0,i0,i0,.str ⟨#[]⟩,i0,i0,i0,i0,i0,i0,i0,i0,b0,n0,n0,i0,i0,i0,i0,i0,i0,i0,i0,i0,.str ⟨#[]⟩,i0,i0,i0,i0,i0,i0,i0,i0,i0,i0,i0,i0,b0]),none,.struct [f0 0,f0 1,f0 2,⟨3,72,true⟩,f0 75]⟩),
 (62,⟨true,true,17,(some [.str ⟨#[]⟩,b0,i0,i0,i0,i0,i0,i0,i0,i0,i0,i0,n0,i0,i0,i0,n0]),none,.struct [f0 0,f0 1,⟨2,7,true⟩,f0 9,⟨10,3,true⟩,f0 13,f0 14,f0 15,f0 16]⟩),
 (347,⟨true,true,55,(some [n0,n0,n0,n0,n0,n0,n0,i0,i0,i0,b0,i0,i0,i0,i0,.int .u64 0,n0,i0,i0,n0,n0,n0,n0,n0,n0,n0,i0,i0,i0,b0,i0,i0,i0,i0,.int .u64 0,n0,i0,i0,n0,n0,i0,i0,i0,i0,i0,i0,i0,i0,i0,i0,b0,b0,i0,i0,i0]),none,.struct [⟨0,19,true⟩,⟨19,19,true⟩,f0 38,f0 39,⟨40,15,true⟩]⟩),
 (56,⟨true,true,3,(some [i0,i0,n0]),none,.struct [f0 0,f0 1,f0 2]⟩),
 (145,⟨true,true,24,(some [n0,n0,n0,n0,n0,n0,n0,i0,i0,i0,b0,i0,i0,i0,i0,.int .u64 0,n0,i0,i0,n0,n0,n0,n0,n0]),none,.struct [⟨0,19,true⟩,f0 19,f0 20,f0 21,f0 22,f0 23]⟩),
 (111,⟨true,true,3,(some [i0,i0,i0]),(some [0,0,0]),.struct [f0 0,f0 1,f0 2]⟩),
 (27,⟨true,false,1,(some [n0]),none,.slice 89 768 (some [i0,i0,i0,i0,i0,i0,i0,i0,i0,i0,.str ⟨#[]⟩,i0,i0,i0,i0,i0,i0,i0,i0,n0,i0,i0,i0,i0,i0,i0,i0,b0,b0,i0,b0,i0,i0,i0,i0,i0,i0,i0,i0,i0,.str ⟨#[]⟩,i0,i0,i0,i0,i0,i0,i0,i0,b0,n0,n0,i0,i0,i0,i0,i0,i0,i0,i0,i0,.str ⟨#[]⟩,i0,i0,i0,i0,i0,i0,i0,i0,i0,i0,i0,i0,i0,i0,i0,i0,i0,i0,i0,i0,i0,i0,b0,b0,i0,i0,i0])⟩),
 (143,⟨true,false,1,(some [n0]),none,.slice 1 1 (some [b0])⟩),
 (28,⟨true,false,1,(some [n0]),none,.slice 6 80 (some [i0,i0,i0,i0,n0,n0])⟩),
 (337,⟨true,false,1,(some [n0]),none,.slice 76 672 (some [i0,i0,i0,i0,i0,i0,i0,i0,i0,i0,i0,.str ⟨#[]⟩,i0,i0,i0,i0,i0,i0,i0,i0,n0,i0,i0,i0,i0,i0,i0,i0,b0,b0,i0,b0,i0,i0,i0,i0,i0,i0,i0,i0,i0,.str ⟨#[]⟩,i0,i0,i0,i0,i0,i0,i0,i0,b0,n0,n0,i0,i0,i0,i0,i0,i0,i0,i0,i0,.str ⟨#[]⟩,i0,i0,i0,i0,i0,i0,i0,i0,i0,i0,i0,i0,b0])⟩),
 (188,⟨true,true,23,(some [i0,i0,i0,i0,b0,n0,i0,i0,i0,i0,i0,i0,i0,.str ⟨#[]⟩,i0,i0,i0,i0,i0,i0,i0,i0,n0]),none,.struct [f0 0,f0 1,f0 2,f0 3,f0 4,f0 5,⟨6,16,true⟩,f0 22]⟩),
 (59,⟨true,true,7,(some [i0,i0,i0,i0,i0,i0,i0]),(some [0,0,0,0,0,0,0]),.struct [f0 0,f0 1,⟨2,5,true⟩]⟩),
 (29,⟨true,false,1,(some [.int .u64 0]),(some [0]),.int .u64⟩),
 (135,⟨true,true,6,(some [i0,i0,i0,i0,n0,n0]),none,.struct [f0 0,f0 1,f0 2,f0 3,f0 4,f0 5]⟩),
 (84,⟨true,false,1,(some [n0]),none,.slice 18 144 (some [b0,b0,i0,i0,i0,i0,i0,i0,i0,.str ⟨#[]⟩,i0,i0,i0,i0,i0,i0,i0,i0])⟩),
 (67,⟨true,true,2,(some [i0,i0]),(some [0,0]),.struct [f0 0,f0 1]⟩),
 (33,⟨true,true,3,(some [i0,i0,i0]),(some [0,0,0]),.arr 3 1 false⟩),
 (32,⟨true,false,1,(some [n0]),none,.slice 2 16 (some [i0,i0])⟩),
 (132,⟨true,true,89,(some [i0,i0,i0,i0,i0,i0,i0,i0,i0,i0,.str ⟨#[]⟩,i0,i0,i0,i0,i0,i0,i0,i0,n0,i0,i0,i0,i0,i0,i0,i0,b0,b0,i0,b0,i0,i0,i0,i0,i0,i0,i0,i0,i0,.str ⟨#[]⟩,i0,i0,i0,i0,i0,i0,i0,i0,b0,n0,n0,i0,i0,i0,i0,i0,i0,i0,i0,i0,.str ⟨#[]⟩,i0,i0,i0,i0,i0,i0,i0,i0,i0,i0,i0,i0,i0,i0,i0,i0,i0,i0,i0,i0,i0,i0,b0,b0,i0,i0,i0]),none,.struct [f0 0,f0 1,⟨2,72,true⟩,⟨74,15,true⟩]⟩),
 (5,⟨true,false,1,(some [.int .u8 0]),(some [0]),.int .u8⟩),
 (81,⟨true,true,18,(some [i0,i0,i0,i0,i0,i0,i0,i0,i0,.str ⟨#[]⟩,i0,i0,i0,i0,i0,i0,i0,i0]),(some [0,0,0,0,0,0,0,0,0,2,0,0,0,0,0,0,0,0]),.struct [f0 0,f0 1,⟨2,16,true⟩]⟩),
 (142,⟨true,false,1,(some [n0]),none,.slice 23 224 (some [i0,i0,i0,i0,b0,n0,i0,i0,i0,i0,i0,i0,i0,.str ⟨#[]⟩,i0,i0,i0,i0,i0,i0,i0,i0,n0])⟩),
 (129,⟨true,true,2,(some [i0,i0]),(some [0,0]),.struct [f0 0,f0 1]⟩),
 (97,⟨true,false,1,(some [.nilp]),none,.ptr⟩),
 (93,⟨true,false,1,(some [n0]),none,.slice 1 24 (some [n0])⟩),
 (75,⟨true,true,6,(some [i0,i0,i0,i0,i0,i0]),(some [0,0,0,0,0,0]),.arr 6 1 false⟩),
 (22,⟨true,false,1,(some [n0]),none,.slice 17 176 (some [.str ⟨#[]⟩,b0,i0,i0,i0,i0,i0,i0,i0,i0,i0,i0,n0,i0,i0,i0,n0])⟩),
 (191,⟨true,false,1,(some [n0]),none,.slice 1 24 (some [n0])⟩),
 (71,⟨true,true,18,(some [i0,i0,i0,i0,i0,i0,i0,i0,i0,.str ⟨#[]⟩,i0,i0,i0,i0,i0,i0,i0,i0]),(some [0,0,0,0,0,0,0,0,0,2,0,0,0,0,0,0,0,0]),.struct [f0 0,f0 1,⟨2,16,true⟩]⟩),
 (362,⟨true,false,1,(some [.int .u32 0]),(some [0]),.int .u32⟩),
 (324,⟨true,false,1,(some [.int .u64 0]),(some [0]),.int .u64⟩),
 (380,⟨true,false,1,(some [.int .u64 0]),(some [0]),.int .u64⟩),
 (95,⟨true,true,11,(some [n0,i0,i0,i0,i0,i0,i0,i0,n0,b0,b0]),none,.struct [f0 0,f0 1,⟨2,7,true⟩,f0 9,f0 10]⟩),
 (158,⟨true,true,18,(some [b0,b0,i0,i0,i0,i0,i0,i0,i0,.str ⟨#[]⟩,i0,i0,i0,i0,i0,i0,i0,i0]),(some [1,1,0,0,0,0,0,0,0,2,0,0,0,0,0,0,0,0]),.struct [f0 0,f0 1,⟨2,16,true⟩]⟩),
 (57,⟨true,true,5,(some [i0,i0,i0,i0,i0]),(some [0,0,0,0,0]),.arr 5 1 false⟩),
 (240,⟨true,true,3,(some [b0,n0,n0]),none,.struct [f0 0,f0 1,f0 2]⟩),
 (83,⟨true,true,10,(some [i0,i0,i0,i0,i0,i0,i0,b0,b0,i0]),(some [0,0,0,0,0,0,0,1,1,0]),.struct [⟨0,7,true⟩,f0 7,f0 8,f0 9]⟩),
 (319,⟨true,false,1,(some [n0]),none,.slice 1 1 (some [.int .u8 0])⟩),
 (40,⟨true,false,1,(some [.nilp]),none,.ptr⟩),
 (238,⟨true,false,1,(some [.top]),none,.map 3 [b0,n0,n0]⟩),
 (256,⟨true,false,1,(some [.nilp]),none,.ptr⟩),
 (205,⟨true,false,1,(some [.nilf]),none,.oth⟩),
 (333,⟨true,false,1,(some [.nilp]),none,.ptr⟩),
 (355,⟨true,false,1,(some [i0]),(some [0]),.int .i64⟩),
 (320,⟨true,true,2,(some [.str ⟨#[]⟩,.str ⟨#[]⟩]),(some [2,2]),.arr 2 1 false⟩),
 (321,⟨true,true,6,(some [.str ⟨#[]⟩,.str ⟨#[]⟩,.str ⟨#[]⟩,.str ⟨#[]⟩,.str ⟨#[]⟩,.str ⟨#[]⟩]),(some [2,2,2,2,2,2]),.arr 6 1 false⟩),
 (51,⟨true,false,1,(some [i0]),(some [0]),.int .i64⟩),
 (149,⟨true,false,1,(some [.nilf]),none,.oth⟩),
 (248,⟨true,true,3,(some [.str ⟨#[]⟩,.str ⟨#[]⟩,.str ⟨#[]⟩]),(some [2,2,2]),.arr 3 1 false⟩)]
def tabF (t:TypeId):TI:=lkT tabL t
def glF (_:Nat):Option (List PV):=none
theorem tabLOK:madeT Tryz.prog tabL=infosT tabL:=by kernel_rfl
def dclL:List (Nat × Nat):=[]
def tabx (pas:Nat) (cut:List Nat) (own:List (List (Nat × Bool))):Tab:=⟨tabF,glF,pas,cut,0,own,dclL⟩
theorem tabxOK (pas:Nat) (cut:List Nat) (own:List (List (Nat × Bool))):TabOK Tryz.prog (tabx pas cut own):=tabOK_of (gl:=glF) (pas:=pas) (cut:=cut) (nar:=0) (own:=own) (dcl:=dclL) tabL tabLOK
def tab:Tab:=⟨tabF,glF,0,[],0,[],dclL⟩
theorem tabOK:TabOK Tryz.prog tab:=tabxOK 0 [] []
def tabc (cut:List Nat):Tab:=⟨tabF,glF,0,cut,0,[],dclL⟩
theorem tabcOK (cut:List Nat):TabOK Tryz.prog (tabc cut):=tabxOK 0 cut []
theorem wf:PWf Tryz.prog:=wf_of (by kernel_rfl) (by kernel_rfl)
end Go.Proofs.YthfepelpmalckaaGreatDoor
