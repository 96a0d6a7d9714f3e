/-
  Functions of this seat as plain functions, each with its walk (written by godec.py).
-/
import Derived.Test.YtjdakjnobladaaaPvTab
namespace Go.Proofs.Ytjdakjnobladaaa
open Go Go.Pv
set_option linter.all false
set_option linter.unusedVariables false
set_option linter.unusedSimpArgs false
set_option maxRecDepth 100000
set_option maxHeartbeats 2000000
def law07_same_l1 (a : List Int) (b : List Int) (s1 : Int) (k2 : Int → Option Bool) : Option Bool :=
 br (decide (s1 < (lenI a))) (bnd (ixL a s1) fun x4 =>
 bnd (ixL b s1) fun x5 =>
 br (!decide (x4 = x5)) (some false)
 (k2 (addI s1 1)))
 (some true)
def law07_same (a : List Int) (b : List Int) : Option Bool :=
 br (!decide ((lenI a) = (lenI b))) (some false)
 (loopF (law07_same_l1 a b) 0)
def slices_Index_int_l1 (s : List Int) (v : Int) (s1 : Int) (k2 : Int → Option Int) : Option Int :=
 br (decide (s1 < (lenI s))) (bnd (ixL s s1) fun x4 =>
 br (decide (v = x4)) (some s1)
 (k2 (addI s1 1)))
 (some (-1))
def slices_Index_int (s : List Int) (v : Int) : Option Int :=
 loopF (slices_Index_int_l1 s v) 0
def slices_Contains_int (s : List Int) (v : Int) : Option Bool :=
 bnd (slices_Index_int s v) fun y1 =>
 some (decide (0 ≤ y1))
def depend_elements_l1 (left : List Int) (s1 : Int × (List Int)) (k2 : (Int × (List Int)) → Option (List Int)) : Option (List Int) :=
 br (decide (s1.1 < (lenI left))) (jn (fun s4 : (List Int) =>
 k2 ((addI s1.1 1), s4)) fun k5 =>
 bnd (ixL left s1.1) fun x7 =>
 jn (fun s8 : Bool =>
 br s8 (roomO (s1.2.length + ([x7]).length) 8 (
 k5 (s1.2 ++ [x7])))
 (k5 s1.2)) fun k9 =>
 br (decide (0 ≤ x7)) (bnd (slices_Contains_int s1.2 x7) fun y11 =>
 k9 (y11 == false))
 (k9 false))
 (some s1.2)
def depend_elements (left : List Int) : Option (List Int) :=
 loopF (depend_elements_l1 left) (0, [])
def depend_needed (needs : List (List Bool)) (i : Int) (j : Int) : Option Bool :=
 br (decide (0 ≤ i)) (br (decide (0 ≤ j)) (br (decide (i < (lenI needs))) (bnd (ixL needs i) fun x1 =>
 br (decide (j < (lenI x1))) (bnd (ixL needs i) fun x2 =>
 bnd (ixL x2 j) fun x3 =>
 some x3)
 (some false))
 (some false))
 (some false))
 (some false)
def depend_leads_l1 (l : List Int) (needs : List (List Bool)) (s2 : Int × (List (List Bool))) (k3 : (Int × (List (List Bool))) → Option ((List Int) × (List (List Bool)))) (s11 : Int × (List (List Bool))) (k12 : (Int × (List (List Bool))) → Option ((List Int) × (List (List Bool)))) : Option ((List Int) × (List (List Bool))) :=
 br (decide (s11.1 < (lenI l))) (bnd (ixO s11.2.length s2.1) fun j14 =>
 bnd (s11.2[j14]?) fun x15 =>
 bnd (ixL l s2.1) fun x16 =>
 bnd (ixL l s11.1) fun x17 =>
 bnd (depend_needed needs x16 x17) fun y18 =>
 bnd (ixO x15.length s11.1) fun j19 =>
 bnd (s11.2[j14]?) fun x20 =>
 bnd (x20[j19]?) fun x21 =>
 k12 ((addI s11.1 1), (s11.2.set j14 (x20.set j19 y18))))
 (k3 ((addI s2.1 1), s11.2))
def depend_leads_l2 (l : List Int) (s22 : Int × (List (List Bool))) (s25 : Int × (List (List Bool))) (k26 : (Int × (List (List Bool))) → Option ((List Int) × (List (List Bool)))) (s28 : Int × (List (List Bool))) (k29 : (Int × (List (List Bool))) → Option ((List Int) × (List (List Bool)))) : Option ((List Int) × (List (List Bool))) :=
 br (decide (s28.1 < (lenI l))) (jn (fun s31 : (List (List Bool)) =>
 k29 ((addI s28.1 1), s31)) fun k32 =>
 jn (fun s34 : Bool =>
 br s34 (bnd (ixO s28.2.length s25.1) fun j47 =>
 bnd (s28.2[j47]?) fun x48 =>
 bnd (ixO x48.length s28.1) fun j49 =>
 lt true fun x50 =>
 bnd (s28.2[j47]?) fun x51 =>
 bnd (x51[j49]?) fun x52 =>
 k32 (s28.2.set j47 (x51.set j49 x50)))
 (k32 s28.2)) fun k35 =>
 bnd (ixO s28.2.length s25.1) fun j37 =>
 bnd (s28.2[j37]?) fun x38 =>
 bnd (ixO x38.length s22.1) fun j39 =>
 bnd (s28.2[j37]?) fun x40 =>
 bnd (x40[j39]?) fun x41 =>
 br x41 (bnd (ixO s28.2.length s22.1) fun j42 =>
 bnd (s28.2[j42]?) fun x43 =>
 bnd (ixO x43.length s28.1) fun j44 =>
 bnd (s28.2[j42]?) fun x45 =>
 bnd (x45[j44]?) fun x46 =>
 k35 x46)
 (k35 false))
 (k26 ((addI s25.1 1), s28.2))
def depend_leads_l3 (l : List Int) (s22 : Int × (List (List Bool))) (k23 : (Int × (List (List Bool))) → Option ((List Int) × (List (List Bool)))) (s25 : Int × (List (List Bool))) (k26 : (Int × (List (List Bool))) → Option ((List Int) × (List (List Bool)))) : Option ((List Int) × (List (List Bool))) :=
 br (decide (s25.1 < (lenI l))) (loopF (depend_leads_l2 l s22 s25 k26) (0, s25.2))
 (k23 ((addI s22.1 1), s25.2))
def depend_leads_l4 (l : List Int) (s22 : Int × (List (List Bool))) (k23 : (Int × (List (List Bool))) → Option ((List Int) × (List (List Bool)))) : Option ((List Int) × (List (List Bool))) :=
 br (decide (s22.1 < (lenI l))) (loopF (depend_leads_l3 l s22 k23) (0, s22.2))
 (some (l, s22.2))
def depend_leads_l5 (l : List Int) (needs : List (List Bool)) (j1 : Nat) (s2 : Int × (List (List Bool))) (k3 : (Int × (List (List Bool))) → Option ((List Int) × (List (List Bool)))) : Option ((List Int) × (List (List Bool))) :=
 lt (decide (s2.1 < (lenI (List.replicate j1 ([] : List Bool))))) fun v5 =>
 br v5 (bnd (mksO (lenI l) (lenI l) 1) fun j6 =>
 lt false fun x7 =>
 bnd (ixO s2.2.length s2.1) fun j8 =>
 bnd (s2.2[j8]?) fun x10 =>
 loopF (depend_leads_l1 l needs s2 k3) (0, (s2.2.set j8 (List.replicate j6 x7))))
 (loopF (depend_leads_l4 l) (0, s2.2))
def depend_leads (l : List Int) (needs : List (List Bool)) : Option ((List Int) × (List (List Bool))) :=
 bnd (mksO (lenI l) (lenI l) 24) fun j1 =>
 loopF (depend_leads_l5 l needs j1) (0, (List.replicate j1 ([] : List Bool)))
def depend_leads_1 (i : Int) (j : Int) (c2 : List Int) (c3 : List (List Bool)) : Option Bool :=
 bnd (slices_Index_int c2 i) fun y1 =>
 bnd (slices_Index_int c2 j) fun y2 =>
 br (decide (0 ≤ y1)) (br (decide (0 ≤ y2)) (bnd (ixL c3 y1) fun x3 =>
 bnd (ixL x3 y2) fun x4 =>
 some x4)
 (some false))
 (some false)
def depend_Ready_1 (j : Int) (c1 : Int) (c2 : List (List Bool)) (c3 : Int → Int → Option Bool) : Option Bool :=
 br (!decide (j = c1)) (bnd (depend_needed c2 c1 j) fun y1 =>
 br y1 (bnd (c3 j c1) fun y2 =>
 some (y2 == false))
 (some false))
 (some false)
def slices_IndexFunc_int_l1 (s : List Int) (f : Int → Option Bool) (s1 : Int) (k2 : Int → Option Int) : Option Int :=
 br (decide (s1 < (lenI s))) (bnd (ixL s s1) fun x4 =>
 bnd (f x4) fun y5 =>
 br y5 (some s1)
 (k2 (addI s1 1)))
 (some (-1))
def slices_IndexFunc_int (s : List Int) (f : Int → Option Bool) : Option Int :=
 loopF (slices_IndexFunc_int_l1 s f) 0
def slices_ContainsFunc_int (s : List Int) (f : Int → Option Bool) : Option Bool :=
 bnd (slices_IndexFunc_int s f) fun y1 =>
 some (decide (0 ≤ y1))
def depend_Ready_l1 (needs : List (List Bool)) (y1 : List Int) (y2 : (List Int) × (List (List Bool))) (s3 : Int × (List Int)) (k4 : (Int × (List Int)) → Option (List Int)) : Option (List Int) :=
 br (decide (s3.1 < (lenI y1))) (jn (fun s6 : (List Int) =>
 k4 ((addI s3.1 1), s6)) fun k7 =>
 bnd (ixL y1 s3.1) fun x9 =>
 bnd (slices_ContainsFunc_int y1 (fun a0 => depend_Ready_1 a0 x9 needs (fun a0 a1 => depend_leads_1 a0 a1 y2.1 y2.2))) fun y10 =>
 br (y10 == false) (roomO (s3.2.length + ([x9]).length) 8 (
 k7 (s3.2 ++ [x9])))
 (k7 s3.2))
 (some s3.2)
def depend_Ready (left : List Int) (needs : List (List Bool)) : Option (List Int) :=
 bnd (depend_elements left) fun y1 =>
 bnd (depend_leads y1 needs) fun y2 =>
 loopF (depend_Ready_l1 needs y1 y2) (0, [])
def depend_stamp (stamps : List Int) (i : Int) : Option Int :=
 br (decide (i < (lenI stamps))) (bnd (ixL stamps i) fun x1 =>
 some x1)
 (some 0)
def depend_Next_l1 (stamps : List Int) (y1 : List Int) (s2 : Int × Int) (k3 : (Int × Int) → Option Int) : Option Int :=
 br (decide (s2.2 < (lenI y1))) (jn (fun s5 : Int =>
 k3 (s5, (addI s2.2 1))) fun k6 =>
 bnd (ixL y1 s2.2) fun x8 =>
 br (decide (s2.1 < 0)) (k6 x8)
 (bnd (depend_stamp stamps x8) fun y9 =>
 bnd (depend_stamp stamps s2.1) fun y10 =>
 jn (fun s11 : Bool =>
 br s11 (k6 x8)
 (k6 s2.1)) fun k12 =>
 br (decide (y9 < y10)) (k12 true)
 (br (decide (y9 = y10)) (k12 (decide (x8 < s2.1)))
 (k12 false))))
 (some s2.1)
def depend_Next (left : List Int) (stamps : List Int) (needs : List (List Bool)) : Option Int :=
 bnd (depend_Ready left needs) fun y1 =>
 loopF (depend_Next_l1 stamps y1) ((-1), 0)
def depend_Order_1 (j : Int) (c1 : Int) : Option Bool :=
 some (decide (j = c1))
def slices_DeleteFunc_int_l1 (del : Int → Option Bool) (s2 : Int × Int × (List Int)) (k3 : (Int × Int × (List Int)) → Option (List Int)) : Option (List Int) :=
 br (decide (s2.2.1 < (lenI s2.2.2))) (jn (fun s5 : Int × (List Int) =>
 k3 (s5.1, (addI s2.2.1 1), s5.2)) fun k6 =>
 bnd (ixO s2.2.2.length s2.2.1) fun j8 =>
 bnd (s2.2.2[j8]?) fun x9 =>
 bnd (del x9) fun y10 =>
 br (y10 == false) (bnd (ixO s2.2.2.length s2.1) fun j11 =>
 bnd (s2.2.2[j11]?) fun x12 =>
 k6 ((addI s2.1 1), (s2.2.2.set j11 x9)))
 (k6 (s2.1, s2.2.2)))
 (bnd (slcO s2.2.2.length s2.1 ((s2.2.2.length : Nat) : Int)) fun x13 =>
 lt 0 fun x14 =>
 bnd (slcO s2.2.2.length 0 s2.1) fun x15 =>
 some (subL (splL s2.2.2 (0 + x13.1) (List.replicate (x13.2 - x13.1) x14)) (0 + x15.1) (x15.2 - x15.1)))
def slices_DeleteFunc_int (s : List Int) (del : Int → Option Bool) : Option (List Int) :=
 bnd (slices_IndexFunc_int s del) fun y1 =>
 br (decide (y1 = (-1))) (some s)
 (loopF (slices_DeleteFunc_int_l1 del) (y1, (addI y1 1), s))
def depend_Order_l1 (stamps : List Int) (needs : List (List Bool)) (s4 : (List Int) × (List Int)) (k5 : ((List Int) × (List Int)) → Option (List Int)) : Option (List Int) :=
 br (decide (0 < (lenI s4.1))) (bnd (depend_Next s4.1 stamps needs) fun y7 =>
 roomO (s4.2.length + ([y7]).length) 8 (
 bnd (slices_DeleteFunc_int s4.1 (fun a0 => depend_Order_1 a0 y7)) fun y8 =>
 k5 (y8, (s4.2 ++ [y7]))))
 (some s4.2)
def depend_Order_l2 (stamps : List Int) (needs : List (List Bool)) (s1 : Int × (List Int)) (k2 : (Int × (List Int)) → Option (List Int)) : Option (List Int) :=
 br (decide (s1.1 < (lenI stamps))) (roomO (s1.2.length + ([s1.1]).length) 8 (
 k2 ((addI s1.1 1), (s1.2 ++ [s1.1]))))
 (loopF (depend_Order_l1 stamps needs) (s1.2, []))
def depend_Order (stamps : List Int) (needs : List (List Bool)) : Option (List Int) :=
 loopF (depend_Order_l2 stamps needs) (0, [])
def law07_alive  : Option Bool :=
 bnd (depend_Order ([1, 2, 3]) ([[false, false, true]])) fun y1 =>
 lt true fun x2 =>
 bnd (depend_Order ([1, 2, 3]) ([[false, false, true], [], [x2]])) fun y3 =>
 bnd (law07_same y1 ([1, 2, 0])) fun y4 =>
 br y4 (bnd (law07_same y3 ([0, 1, 2])) fun y5 =>
 br y5 (bnd (depend_Next ([]) ([]) ([])) fun y6 =>
 br (decide (y6 = (-1))) (bnd (depend_Next ([5, 3]) ([]) ([])) fun y7 =>
 br (decide (y7 = 3)) (bnd (depend_Ready ([4, (-1), 4, 2]) ([])) fun y8 =>
 bnd (law07_same y8 ([4, 2])) fun y9 =>
 some y9)
 (some false))
 (some false))
 (some false))
 (some false)
def r07_has_l1 (l : List Int) (i : Int) (s1 : Int) (k2 : Int → Option Bool) : Option Bool :=
 br (decide (s1 < (lenI l))) (bnd (ixL l s1) fun x4 =>
 br (decide (x4 = i)) (some true)
 (k2 (addI s1 1)))
 (some false)
def r07_has (l : List Int) (i : Int) : Option Bool :=
 loopF (r07_has_l1 l i) 0
def r07_elements_l1 (left : List Int) (s1 : Int × (List Int)) (k2 : (Int × (List Int)) → Option (List Int)) : Option (List Int) :=
 br (decide (s1.1 < (lenI left))) (jn (fun s4 : (List Int) =>
 k2 ((addI s1.1 1), s4)) fun k5 =>
 jn (fun s7 : Bool =>
 br s7 (bnd (ixL left s1.1) fun x13 =>
 roomO (s1.2.length + ([x13]).length) 8 (
 k5 (s1.2 ++ [x13])))
 (k5 s1.2)) fun k8 =>
 bnd (ixL left s1.1) fun x10 =>
 br (decide (0 ≤ x10)) (bnd (ixL left s1.1) fun x11 =>
 bnd (r07_has s1.2 x11) fun y12 =>
 k8 (y12 == false))
 (k8 false))
 (some s1.2)
def r07_elements (left : List Int) : Option (List Int) :=
 loopF (r07_elements_l1 left) (0, [])
def r07_need (needs : List (List Bool)) (i : Int) (j : Int) : Option Bool :=
 br (decide (i < (lenI needs))) (bnd (ixL needs i) fun x1 =>
 br (decide (j < (lenI x1))) (bnd (ixL needs i) fun x2 =>
 bnd (ixL x2 j) fun x3 =>
 some x3)
 (some false))
 (some false)
def r07_reached_l1 (l : List Int) (needs : List (List Bool)) (s10 : Int × (List Int)) (k11 : (Int × (List Int)) → Option (List Int)) (s13 : Int × (List Int)) (k14 : (Int × (List Int)) → Option (List Int)) : Option (List Int) :=
 br (decide (s13.1 < (lenI l))) (jn (fun s16 : (List Int) =>
 k14 ((addI s13.1 1), s16)) fun k17 =>
 jn (fun s19 : Bool =>
 br s19 (bnd (ixL l s13.1) fun x28 =>
 roomO (s13.2.length + ([x28]).length) 8 (
 k17 (s13.2 ++ [x28])))
 (k17 s13.2)) fun k20 =>
 bnd (ixO s13.2.length s10.1) fun j22 =>
 bnd (s13.2[j22]?) fun x23 =>
 bnd (ixL l s13.1) fun x24 =>
 bnd (r07_need needs x23 x24) fun y25 =>
 br y25 (bnd (ixL l s13.1) fun x26 =>
 bnd (r07_has s13.2 x26) fun y27 =>
 k20 (y27 == false))
 (k20 false))
 (k11 ((addI s10.1 1), s13.2))
def r07_reached_l2 (l : List Int) (needs : List (List Bool)) (s10 : Int × (List Int)) (k11 : (Int × (List Int)) → Option (List Int)) : Option (List Int) :=
 br (decide (s10.1 < (lenI s10.2))) (loopF (r07_reached_l1 l needs s10 k11) (0, s10.2))
 (some s10.2)
def r07_reached_l3 (l : List Int) (needs : List (List Bool)) (i : Int) (s1 : Int × (List Int)) (k2 : (Int × (List Int)) → Option (List Int)) : Option (List Int) :=
 br (decide (s1.1 < (lenI l))) (jn (fun s4 : (List Int) =>
 k2 ((addI s1.1 1), s4)) fun k5 =>
 bnd (ixL l s1.1) fun x7 =>
 bnd (r07_need needs i x7) fun y8 =>
 br y8 (bnd (ixL l s1.1) fun x9 =>
 roomO (s1.2.length + ([x9]).length) 8 (
 k5 (s1.2 ++ [x9])))
 (k5 s1.2))
 (loopF (r07_reached_l2 l needs) (0, s1.2))
def r07_reached (l : List Int) (needs : List (List Bool)) (i : Int) : Option (List Int) :=
 loopF (r07_reached_l3 l needs i) (0, [])
def r07_Ready_l1 (needs : List (List Bool)) (y1 : List Int) (s2 : Int × (List Int)) (k6 : (List Int) → Option (List Int)) (s8 : Bool × Int) (k9 : (Bool × Int) → Option (List Int)) : Option (List Int) :=
 br (decide (s8.2 < (lenI y1))) (jn (fun s11 : Bool =>
 k9 (s11, (addI s8.2 1))) fun k12 =>
 jn (fun s14 : Bool =>
 br s14 (k12 false)
 (k12 s8.1)) fun k15 =>
 br (!decide (s8.2 = s2.1)) (bnd (ixL y1 s2.1) fun x17 =>
 bnd (ixL y1 s8.2) fun x18 =>
 bnd (r07_need needs x17 x18) fun y19 =>
 br y19 (bnd (ixL y1 s8.2) fun x20 =>
 bnd (r07_reached y1 needs x20) fun y21 =>
 bnd (ixL y1 s2.1) fun x22 =>
 bnd (r07_has y21 x22) fun y23 =>
 k15 (y23 == false))
 (k15 false))
 (k15 false))
 (br s8.1 (bnd (ixL y1 s2.1) fun x24 =>
 roomO (s2.2.length + ([x24]).length) 8 (
 k6 (s2.2 ++ [x24])))
 (k6 s2.2))
def r07_Ready_l2 (needs : List (List Bool)) (y1 : List Int) (s2 : Int × (List Int)) (k3 : (Int × (List Int)) → Option (List Int)) : Option (List Int) :=
 br (decide (s2.1 < (lenI y1))) (jn (fun s5 : (List Int) =>
 k3 ((addI s2.1 1), s5)) fun k6 =>
 loopF (r07_Ready_l1 needs y1 s2 k6) (true, 0))
 (some s2.2)
def r07_Ready (left : List Int) (needs : List (List Bool)) : Option (List Int) :=
 bnd (r07_elements left) fun y1 =>
 loopF (r07_Ready_l2 needs y1) (0, [])
def law07_few (n : Int) : Option Bool :=
 some (decide (n ≤ 24))
def law07_DependReady (left : List Int) (needs : List (List Bool)) : Option Bool :=
 bnd (law07_few (lenI left)) fun y1 =>
 br (y1 == false) (some true)
 (bnd (law07_alive) fun y2 =>
 br y2 (bnd (depend_Ready left needs) fun y3 =>
 bnd (r07_Ready left needs) fun y4 =>
 bnd (law07_same y3 y4) fun y5 =>
 some y5)
 (some false))
def r07_stamp (stamps : List Int) (i : Int) : Option Int :=
 br (decide (i < (lenI stamps))) (bnd (ixL stamps i) fun x1 =>
 some x1)
 (some 0)
def r07_Next_l1 (stamps : List Int) (y1 : List Int) (s2 : Int × Int) (k3 : (Int × Int) → Option Int) : Option Int :=
 br (decide (s2.2 < (lenI y1))) (jn (fun s5 : Int =>
 k3 (s5, (addI s2.2 1))) fun k6 =>
 bnd (ixL y1 s2.2) fun x8 =>
 bnd (r07_stamp stamps x8) fun y9 =>
 jn (fun s10 : Bool =>
 br s10 (bnd (ixL y1 s2.2) fun x16 =>
 k6 x16)
 (k6 s2.1)) fun k11 =>
 br (decide (s2.1 < 0)) (k11 true)
 (bnd (r07_stamp stamps s2.1) fun y13 =>
 br (decide (y9 < y13)) (k11 true)
 (bnd (r07_stamp stamps s2.1) fun y14 =>
 br (decide (y9 = y14)) (bnd (ixL y1 s2.2) fun x15 =>
 k11 (decide (x15 < s2.1)))
 (k11 false))))
 (some s2.1)
def r07_Next (left : List Int) (stamps : List Int) (needs : List (List Bool)) : Option Int :=
 bnd (r07_Ready left needs) fun y1 =>
 loopF (r07_Next_l1 stamps y1) ((-1), 0)
def law07_DependNext (left : List Int) (stamps : List Int) (needs : List (List Bool)) : Option Bool :=
 bnd (law07_few (lenI left)) fun y1 =>
 br (y1 == false) (some true)
 (bnd (law07_alive) fun y2 =>
 br y2 (bnd (depend_Next left stamps needs) fun y3 =>
 bnd (r07_Next left stamps needs) fun y4 =>
 some (decide (y3 = y4)))
 (some false))
def r07_Order_l1 (s4 : Int × (List Int) × (List Int)) (k5 : (Int × (List Int) × (List Int)) → Option (List Int)) (y7 : Int) (s8 : Int × (List Int)) (k9 : (Int × (List Int)) → Option (List Int)) : Option (List Int) :=
 br (decide (s8.1 < (lenI s4.2.1))) (jn (fun s11 : (List Int) =>
 k9 ((addI s8.1 1), s11)) fun k12 =>
 bnd (ixO s4.2.1.length s8.1) fun j14 =>
 bnd (s4.2.1[j14]?) fun x15 =>
 br (!decide (x15 = y7)) (bnd (ixO s4.2.1.length s8.1) fun j16 =>
 bnd (s4.2.1[j16]?) fun x17 =>
 roomO (s8.2.length + ([x17]).length) 8 (
 k12 (s8.2 ++ [x17])))
 (k12 s8.2))
 (k5 ((addI s4.1 1), s8.2, (s4.2.2 ++ [y7])))
def r07_Order_l2 (stamps : List Int) (needs : List (List Bool)) (s4 : Int × (List Int) × (List Int)) (k5 : (Int × (List Int) × (List Int)) → Option (List Int)) : Option (List Int) :=
 br (decide (s4.1 < (lenI stamps))) (bnd (r07_Next s4.2.1 stamps needs) fun y7 =>
 roomO (s4.2.2.length + ([y7]).length) 8 (
 loopF (r07_Order_l1 s4 k5 y7) (0, [])))
 (some s4.2.2)
def r07_Order_l3 (stamps : List Int) (needs : List (List Bool)) (s1 : Int × (List Int)) (k2 : (Int × (List Int)) → Option (List Int)) : Option (List Int) :=
 br (decide (s1.1 < (lenI stamps))) (roomO (s1.2.length + ([s1.1]).length) 8 (
 k2 ((addI s1.1 1), (s1.2 ++ [s1.1]))))
 (loopF (r07_Order_l2 stamps needs) (0, s1.2, []))
def r07_Order (stamps : List Int) (needs : List (List Bool)) : Option (List Int) :=
 loopF (r07_Order_l3 stamps needs) (0, [])
def law07_DependOrder (stamps : List Int) (needs : List (List Bool)) : Option Bool :=
 bnd (law07_few (lenI stamps)) fun y1 =>
 br (y1 == false) (some true)
 (bnd (law07_alive) fun y2 =>
 br y2 (bnd (depend_Order stamps needs) fun y3 =>
 bnd (r07_Order stamps needs) fun y4 =>
 bnd (law07_same y3 y4) fun y5 =>
 some y5)
 (some false))
def law07_DependAll_l1 (needs : List (List Bool)) (y3 : List Int) (s6 : Int × (List Bool)) (k7 : (Int × (List Bool)) → Option Bool) : Option Bool :=
 br (decide (s6.1 < (lenI y3))) (bnd (ixL y3 s6.1) fun x9 =>
 jn (fun s10 : Bool =>
 br s10 (some false)
 (bnd (ixO s6.2.length x9) fun j17 =>
 lt true fun x18 =>
 bnd (s6.2[j17]?) fun x19 =>
 k7 ((addI s6.1 1), (s6.2.set j17 x18)))) fun k11 =>
 br (decide (x9 < 0)) (k11 true)
 (br (decide ((lenI s6.2) ≤ x9)) (k11 true)
 (bnd (ixO s6.2.length x9) fun j13 =>
 bnd (s6.2[j13]?) fun x14 =>
 br x14 (k11 true)
 (bnd (slcO y3.length s6.1 (lenI y3)) fun x15 =>
 bnd (depend_Ready (subL y3 x15.1 (x15.2 - x15.1)) needs) fun y16 =>
 k11 (decide ((lenI y16) = 0))))))
 (bnd (law07_alive) fun y20 =>
 some y20)
def law07_DependAll (stamps : List Int) (needs : List (List Bool)) : Option Bool :=
 bnd (law07_few (lenI stamps)) fun y1 =>
 br (y1 == false) (bnd (law07_alive) fun y2 =>
 some y2)
 (bnd (depend_Order stamps needs) fun y3 =>
 br (!decide ((lenI y3) = (lenI stamps))) (some false)
 (bnd (mksO (lenI stamps) (lenI stamps) 1) fun j4 =>
 lt false fun x5 =>
 loopF (law07_DependAll_l1 needs y3) (0, (List.replicate j4 x5))))
def law07_need (needs : List (List Bool)) (i : Int) (j : Int) : Option Bool :=
 br (decide (0 ≤ i)) (br (decide (0 ≤ j)) (br (decide (i < (lenI needs))) (bnd (ixL needs i) fun x1 =>
 br (decide (j < (lenI x1))) (bnd (ixL needs i) fun x2 =>
 bnd (ixL x2 j) fun x3 =>
 some x3)
 (some false))
 (some false))
 (some false))
 (some false)
def law07_DependOrders_l1 (stamps : List Int) (needs : List (List Bool)) (s3 : Int × (List (List Bool))) (k4 : (Int × (List (List Bool))) → Option Bool) (s8 : Int × (List (List Bool)) × (List Bool)) (k9 : (Int × (List (List Bool)) × (List Bool)) → Option Bool) : Option Bool :=
 br (decide (s8.1 < (lenI stamps))) (bnd (law07_need needs s3.1 s8.1) fun y11 =>
 bnd (ixO s8.2.2.length s8.1) fun j12 =>
 bnd (s8.2.2[j12]?) fun x13 =>
 k9 ((addI s8.1 1), s8.2.1, (s8.2.2.set j12 y11)))
 (roomO (s8.2.1.length + ([s8.2.2]).length) 24 (
 k4 ((addI s3.1 1), (s8.2.1 ++ [s8.2.2]))))
def law07_DependOrders_l2 (stamps : List Int) (s15 : Int) (k16 : Int → Option Bool) (x18 : Int) (y26 : List Int) (s27 : Int) (k28 : Int → Option Bool) : Option Bool :=
 br (decide (s27 < (lenI y26))) (bnd (ixL y26 s27) fun x30 =>
 jn (fun s31 : Bool =>
 br s31 (some false)
 (k28 (addI s27 1))) fun k32 =>
 br (decide (x30 < 0)) (k32 true)
 (br (decide ((lenI stamps) ≤ x30)) (k32 true)
 (br (decide (x18 < 0)) (k32 true)
 (br (decide ((lenI stamps) ≤ x18)) (k32 true)
 (bnd (ixL stamps x30) fun x34 =>
 bnd (ixL stamps x18) fun x35 =>
 br (decide (x34 < x35)) (k32 true)
 (bnd (ixL stamps x30) fun x36 =>
 bnd (ixL stamps x18) fun x37 =>
 br (decide (x36 = x37)) (k32 (decide (x30 < x18)))
 (k32 false)))))))
 (k16 (addI s15 1))
def law07_DependOrders_l3 (stamps : List Int) (s3 : Int × (List (List Bool))) (y14 : List Int) (s15 : Int) (k16 : Int → Option Bool) (x18 : Int) (x19 : Nat × Nat) (s20 : Int) (k21 : Int → Option Bool) : Option Bool :=
 br (decide (s20 < (lenI (subL y14 x19.1 (x19.2 - x19.1))))) (bnd (ixL (subL y14 x19.1 (x19.2 - x19.1)) s20) fun x23 =>
 bnd (law07_need s3.2 x18 x23) fun y24 =>
 br y24 (some false)
 (k21 (addI s20 1)))
 (bnd (slcO y14.length s15 (lenI y14)) fun x25 =>
 bnd (depend_Ready (subL y14 x25.1 (x25.2 - x25.1)) s3.2) fun y26 =>
 loopF (law07_DependOrders_l2 stamps s15 k16 x18 y26) 0)
def law07_DependOrders_l4 (stamps : List Int) (s3 : Int × (List (List Bool))) (y14 : List Int) (s15 : Int) (k16 : Int → Option Bool) : Option Bool :=
 br (decide (s15 < (lenI y14))) (bnd (ixL y14 s15) fun x18 =>
 bnd (slcO y14.length (addI s15 1) (lenI y14)) fun x19 =>
 loopF (law07_DependOrders_l3 stamps s3 y14 s15 k16 x18 x19) 0)
 (bnd (law07_alive) fun y38 =>
 some y38)
def law07_DependOrders_l5 (stamps : List Int) (needs : List (List Bool)) (s3 : Int × (List (List Bool))) (k4 : (Int × (List (List Bool))) → Option Bool) : Option Bool :=
 br (decide (s3.1 < (lenI stamps))) (bnd (mksO (lenI stamps) (lenI stamps) 1) fun j6 =>
 lt false fun x7 =>
 loopF (law07_DependOrders_l1 stamps needs s3 k4) ((addI s3.1 1), s3.2, (List.replicate j6 x7)))
 (bnd (depend_Order stamps s3.2) fun y14 =>
 br (!decide ((lenI y14) = (lenI stamps))) (some false)
 (loopF (law07_DependOrders_l4 stamps s3 y14) 0))
def law07_DependOrders (stamps : List Int) (needs : List (List Bool)) : Option Bool :=
 bnd (law07_few (lenI stamps)) fun y1 =>
 br (y1 == false) (bnd (law07_alive) fun y2 =>
 some y2)
 (loopF (law07_DependOrders_l5 stamps needs) (0, []))
def law07_DependLoops_l1 (stamps : List Int) (y14 : List Int) (s15 : Int) (k16 : Int → Option Bool) : Option Bool :=
 br (decide (s15 < (lenI y14))) (bnd (ixL y14 (subI s15 1)) fun x18 =>
 bnd (ixL y14 s15) fun x19 =>
 jn (fun s20 : Bool =>
 br s20 (some false)
 (k16 (addI s15 1))) fun k21 =>
 br (decide (x18 < 0)) (k21 true)
 (br (decide (x19 < 0)) (k21 true)
 (br (decide ((lenI stamps) ≤ x18)) (k21 true)
 (br (decide ((lenI stamps) ≤ x19)) (k21 true)
 (bnd (ixL stamps x18) fun x23 =>
 bnd (ixL stamps x19) fun x24 =>
 br (decide (x24 < x23)) (k21 true)
 (bnd (ixL stamps x18) fun x25 =>
 bnd (ixL stamps x19) fun x26 =>
 br (decide (x25 = x26)) (k21 (decide (x19 ≤ x18)))
 (k21 false)))))))
 (bnd (law07_alive) fun y27 =>
 br y27 (some (decide ((lenI y14) = (lenI stamps))))
 (some false))
def law07_DependLoops_l2 (stamps : List Int) (s3 : Int × (List (List Bool)) × (List Int)) (k4 : (Int × (List (List Bool)) × (List Int)) → Option Bool) : Option Bool :=
 br (decide (s3.1 < (lenI stamps))) (bnd (mksO (lenI stamps) (lenI stamps) 1) fun j6 =>
 lt false fun x7 =>
 bnd (divO .rem .i64 (addI s3.1 1) (lenI stamps)) fun x8 =>
 bnd (ixO j6 x8) fun j9 =>
 lt true fun x10 =>
 bnd ((List.replicate j6 x7)[j9]?) fun x11 =>
 roomO (s3.2.1.length + ([((List.replicate j6 x7).set j9 x10)]).length) 24 (
 roomO (s3.2.2.length + ([s3.1]).length) 8 (
 k4 ((addI s3.1 1), (s3.2.1 ++ [((List.replicate j6 x7).set j9 x10)]), (s3.2.2 ++ [s3.1])))))
 (bnd (depend_Ready s3.2.2 s3.2.1) fun y12 =>
 bnd (law07_same y12 s3.2.2) fun y13 =>
 br (y13 == false) (some false)
 (bnd (depend_Order stamps ([])) fun y14 =>
 loopF (law07_DependLoops_l1 stamps y14) 1))
def law07_DependLoops (stamps : List Int) : Option Bool :=
 bnd (law07_few (lenI stamps)) fun y1 =>
 br (y1 == false) (bnd (law07_alive) fun y2 =>
 some y2)
 (loopF (law07_DependLoops_l2 stamps) (0, [], []))
end Go.Proofs.Ytjdakjnobladaaa
