import Derived.Test.YthfhbbhacaejoaaDoorLkThree
import Derived.Test.YthfhbbhacaejoaaDoorScFour
import Derived.Test.YthfhbbhacaejoaaDoorScFive
set_option linter.all false
namespace NsG
open Go Lk
set_option linter.unusedVariables false

structure Fns where
  f10 (n : Nat) (a0 : List UInt8) (a1 : Int) : Option (Int × Bool × Unit)
  p10_2 (j : Nat) (n0 : Nat) (v0 : List UInt8) (v6 : Int) : Option (Int × Bool × Unit)
  p10_3 (j : Nat) (n0 : Nat) (n1 : Nat) (v0 : List UInt8) (v6 : Int) : Option (Int × Bool × Unit)
  f4 (n : Nat) (a0 : List UInt8) : Option (List (List UInt8) × Int × Int × Unit)
  p4_4 (j : Nat) (n0 : Nat) (v0 : List UInt8) (v2 : List (List UInt8)) (v5 : Int) (v6 : Int) (v15 : Int) (v16 : Int) : Option (List (List UInt8) × Int × Int × Unit)
  p4_2055 (j : Nat) (n0 : Nat) (n1 : Nat) (v0 : List UInt8) (v2 : List (List UInt8)) (v5 : Int) (v6 : Int) (v7 : Int) (v15 : Int) (v16 : Int) (v28 : Bool) : Option (List (List UInt8) × Int × Int × Unit)
  p4_9 (j : Nat) (n0 : Nat) (v0 : List UInt8) (v2 : List (List UInt8)) (v5 : Int) (v6 : Int) : Option (List (List UInt8) × Int × Int × Unit)
  p4_8 (j : Nat) (n0 : Nat) (n1 : Nat) (v0 : List UInt8) (v2 : List (List UInt8)) (v5 : Int) (v6 : Int) (v15 : Int) (v16 : Int) : Option (List (List UInt8) × Int × Int × Unit)
  p4_10 (j : Nat) (n0 : Nat) (n1 : Nat) (v0 : List UInt8) (v2 : List (List UInt8)) (v5 : Int) (v6 : Int) (v8 : Int) : Option (List (List UInt8) × Int × Int × Unit)
  p4_25 (j : Nat) (n0 : Nat) (n1 : Nat) (v0 : List UInt8) (v2 : List (List UInt8)) (v5 : Int) (v6 : Int) : Option (List (List UInt8) × Int × Int × Unit)
  p4_2067 (j : Nat) (n0 : Nat) (n1 : Nat) (n2 : Nat) (v0 : List UInt8) (v2 : List (List UInt8)) (v5 : Int) (v6 : Int) (v8 : Int) (v10 : Int) (v64 : Bool) : Option (List (List UInt8) × Int × Int × Unit)
  p4_21 (j : Nat) (n0 : Nat) (n1 : Nat) (n2 : Nat) (v0 : List UInt8) (v2 : List (List UInt8)) (v5 : Int) (v6 : Int) (v8 : Int) (v9 : Int) : Option (List (List UInt8) × Int × Int × Unit)
  p4_20 (j : Nat) (n0 : Nat) (n1 : Nat) (n2 : Nat) (v0 : List UInt8) (v2 : List (List UInt8)) (v5 : Int) (v6 : Int) (v8 : Int) (v10 : Int) : Option (List (List UInt8) × Int × Int × Unit)
  p4_22 (j : Nat) (n0 : Nat) (n1 : Nat) (n2 : Nat) (n3 : Nat) (v0 : List UInt8) (v2 : List (List UInt8)) (v5 : Int) (v6 : Int) (v8 : Int) (v9 : Int) : Option (List (List UInt8) × Int × Int × Unit)
  p4_23 (j : Nat) (n0 : Nat) (n1 : Nat) (n2 : Nat) (v0 : List UInt8) (v2 : List (List UInt8)) (v5 : Int) (v6 : Int) (v8 : Int) (v9 : Int) : Option (List (List UInt8) × Int × Int × Unit)
  f5 (n : Nat) (a0 : List UInt8) : Option (List (List UInt8) × Int × Int × Unit)
  p5_6 (j : Nat) (n0 : Nat) (v0 : List UInt8) (v5 : List (List UInt8)) (v6 : Int) (v7 : Bool) (v8 : Bool) (v9 : Int) : Option (List (List UInt8) × Int × Int × Unit)
  p5_2058 (j : Nat) (n0 : Nat) (n1 : Nat) (v0 : List UInt8) (v5 : List (List UInt8)) (v6 : Int) (v7 : Bool) (v8 : Bool) (v9 : Int) (v10 : UInt8) (v20 : Bool) : Option (List (List UInt8) × Int × Int × Unit)
  p5_30 (j : Nat) (n0 : Nat) (v5 : List (List UInt8)) : Option (List (List UInt8) × Int × Int × Unit)
  p5_2060 (j : Nat) (n0 : Nat) (n1 : Nat) (n2 : Nat) (v0 : List UInt8) (v5 : List (List UInt8)) (v6 : Int) (v7 : Bool) (v8 : Bool) (v9 : Int) (v10 : UInt8) (v35 : Bool) : Option (List (List UInt8) × Int × Int × Unit)
  p5_14 (j : Nat) (n0 : Nat) (n1 : Nat) (n2 : Nat) (n3 : Nat) (v0 : List UInt8) (v5 : List (List UInt8)) (v7 : Bool) (v9 : Int) : Option (List (List UInt8) × Int × Int × Unit)
  p5_7 (j : Nat) (n0 : Nat) (n1 : Nat) (v0 : List UInt8) (v5 : List (List UInt8)) (v6 : Int) (v7 : Bool) (v8 : Bool) (v9 : Int) : Option (List (List UInt8) × Int × Int × Unit)
  p5_2068 (j : Nat) (n0 : Nat) (n1 : Nat) (n2 : Nat) (n3 : Nat) (v0 : List UInt8) (v5 : List (List UInt8)) (v6 : Int) (v7 : Bool) (v8 : Bool) (v9 : Int) (v10 : UInt8) (v57 : Bool) : Option (List (List UInt8) × Int × Int × Unit)
  p5_2070 (j : Nat) (n0 : Nat) (n1 : Nat) (n2 : Nat) (n3 : Nat) (n4 : Nat) (v0 : List UInt8) (v5 : List (List UInt8)) (v6 : Int) (v7 : Bool) (v8 : Bool) (v9 : Int) (v80 : Bool) : Option (List (List UInt8) × Int × Int × Unit)
  p5_2072 (j : Nat) (n0 : Nat) (n1 : Nat) (n2 : Nat) (n3 : Nat) (n4 : Nat) (v0 : List UInt8) (v5 : List (List UInt8)) (v6 : Int) (v7 : Bool) (v8 : Bool) (v9 : Int) (v82 : Bool) : Option (List (List UInt8) × Int × Int × Unit)
  f10_eq (n : Nat) (a0 : List UInt8) (a1 : Int) : f10 (n + 1) a0 a1 =
  (p10_2 (n) (n) (a0) (Go.IntKind.i64.wrap (a1 + (1 : Int))))
  p10_2_eq (j : Nat) (n0 : Nat) (v0 : List UInt8) (v6 : Int) : p10_2 (j + 1) n0 v0 v6 =
  (sel (Decidable.decide (v6 < (↑v0.length : Int)))
   (sel (Decidable.decide ((0 : Int) ≤ v6))
    (sel (Decidable.decide (v6 < (↑v0.length : Int)))
     (sel ((↑(v0.getD v6.toNat (0 : UInt8)).toNat : Int) == (↑(UInt8.toNat (92 : UInt8)) : Int))
      (p10_3 (j) (n0) (j) (v0) (Go.IntKind.i64.wrap (v6 + (1 : Int))))
      (sel ((↑(v0.getD v6.toNat (0 : UInt8)).toNat : Int) == (↑(UInt8.toNat (34 : UInt8)) : Int))
       (some (Go.IntKind.i64.wrap (v6 + (1 : Int)), Bool.true, ()))
       (p10_3 (j) (n0) (j) (v0) (v6))))
     none)
    none)
   (some ((0 : Int), Bool.false, ())))
  p10_3_eq (j : Nat) (n0 : Nat) (n1 : Nat) (v0 : List UInt8) (v6 : Int) : p10_3 (j + 1) n0 n1 v0 v6 =
  (p10_2 (n1) (n0) (v0) (Go.IntKind.i64.wrap (v6 + (1 : Int))))
  f4_eq (n : Nat) (a0 : List UInt8) : f4 (n + 1) a0 =
  (p4_4 (n) (n) (a0) ([]) ((-1 : Int)) ((↑a0.length : Int)) ((↑a0.length : Int)) ((0 : Int)))
  p4_4_eq (j : Nat) (n0 : Nat) (v0 : List UInt8) (v2 : List (List UInt8)) (v5 : Int) (v6 : Int) (v15 : Int) (v16 : Int) : p4_4 (j + 1) n0 v0 v2 v5 v6 v15 v16 =
  (sel (Decidable.decide (v16 < v15))
   (sel (Decidable.decide ((0 : Int) ≤ v16))
    (sel (Decidable.decide (v16 < (↑v0.length : Int)))
     (sel (Decidable.decide ((↑(v0.getD v16.toNat (0 : UInt8)).toNat : Int) < (↑(UInt8.toNat (32 : UInt8)) : Int)))
      (p4_2055 (j) (n0) (j) (v0) (v2) (v5) (v6) (v16) (v15) (v16) (Bool.true))
      (sel (Decidable.decide ((0 : Int) ≤ v16))
       (sel (Decidable.decide (v16 < (↑v0.length : Int)))
        (p4_2055 (j) (n0) (j) (v0) (v2) (v5) (v6) (v16) (v15) (v16) ((↑(v0.getD v16.toNat (0 : UInt8)).toNat : Int) == (↑(UInt8.toNat (127 : UInt8)) : Int)))
        none)
       none))
     none)
    none)
   (p4_9 (n0) (n0) (v0) (v2) (v5) (v6)))
  p4_2055_eq (j : Nat) (n0 : Nat) (n1 : Nat) (v0 : List UInt8) (v2 : List (List UInt8)) (v5 : Int) (v6 : Int) (v7 : Int) (v15 : Int) (v16 : Int) (v28 : Bool) : p4_2055 (j + 1) n0 n1 v0 v2 v5 v6 v7 v15 v16 v28 =
  (sel (v28)
   (p4_9 (n0) (n0) (v0) (v2) (v5) (v7))
   (p4_8 (n1) (n0) (n1) (v0) (v2) (v5) (v6) (v15) (v16)))
  p4_9_eq (j : Nat) (n0 : Nat) (v0 : List UInt8) (v2 : List (List UInt8)) (v5 : Int) (v6 : Int) : p4_9 (j + 1) n0 v0 v2 v5 v6 =
  (p4_10 (j) (n0) (j) (v0) (v2) (v5) (v6) ((0 : Int)))
  p4_8_eq (j : Nat) (n0 : Nat) (n1 : Nat) (v0 : List UInt8) (v2 : List (List UInt8)) (v5 : Int) (v6 : Int) (v15 : Int) (v16 : Int) : p4_8 (j + 1) n0 n1 v0 v2 v5 v6 v15 v16 =
  (p4_4 (n1) (n0) (v0) (v2) (v5) (v6) (v15) (Go.IntKind.i64.wrap (v16 + (1 : Int))))
  p4_10_eq (j : Nat) (n0 : Nat) (n1 : Nat) (v0 : List UInt8) (v2 : List (List UInt8)) (v5 : Int) (v6 : Int) (v8 : Int) : p4_10 (j + 1) n0 n1 v0 v2 v5 v6 v8 =
  (sel (Decidable.decide (v8 < (↑v0.length : Int)))
   (sel (Decidable.decide ((0 : Int) ≤ v8))
    (sel (Decidable.decide (v8 < (↑v0.length : Int)))
     (sel ((↑(v0.getD v8.toNat (0 : UInt8)).toNat : Int) == (↑(UInt8.toNat (32 : UInt8)) : Int))
      (p4_10 (j) (n0) (n1) (v0) (v2) (v5) (v6) (Go.IntKind.i64.wrap (v8 + (1 : Int))))
      (sel (Decidable.decide ((0 : Int) ≤ v8))
       (sel (Decidable.decide (v8 < (↑v0.length : Int)))
        (sel ((↑(v0.getD v8.toNat (0 : UInt8)).toNat : Int) == (↑(UInt8.toNat (34 : UInt8)) : Int))
         (obind (f10 j (v0) (v8)) fun r621 =>
          (sel (!r621.snd.fst)
           (p4_25 (n1) (n0) (n1) (v0) (v2) (v8) (v6))
           (sel (Decidable.decide (r621.fst < (↑v0.length : Int)))
            (sel (Decidable.decide ((0 : Int) ≤ r621.fst))
             (sel (Decidable.decide (r621.fst < (↑v0.length : Int)))
              (p4_2067 (j) (n0) (n1) (j) (v0) (v2) (v5) (v6) (v8) (r621.fst) ((↑(v0.getD (Int.toNat r621.fst) (0 : UInt8)).toNat : Int) != (↑(UInt8.toNat (32 : UInt8)) : Int)))
              none)
             none)
            (p4_2067 (j) (n0) (n1) (j) (v0) (v2) (v5) (v6) (v8) (r621.fst) (Bool.false)))))
         (p4_21 (j) (n0) (n1) (j) (v0) (v2) (v5) (v6) (v8) (v8)))
        none)
       none))
     none)
    none)
   (p4_25 (n1) (n0) (n1) (v0) (v2) (v5) (v6)))
  p4_25_eq (j : Nat) (n0 : Nat) (n1 : Nat) (v0 : List UInt8) (v2 : List (List UInt8)) (v5 : Int) (v6 : Int) : p4_25 (j + 1) n0 n1 v0 v2 v5 v6 =
  (sel (Decidable.decide (v6 < (↑v0.length : Int)))
   (some ([], v6, (61 : Int), ()))
   (sel (Decidable.decide (v5 ≥ (0 : Int)))
    (some ([], v5, (61 : Int), ()))
    (some (v2, (0 : Int), (0 : Int), ()))))
  p4_2067_eq (j : Nat) (n0 : Nat) (n1 : Nat) (n2 : Nat) (v0 : List UInt8) (v2 : List (List UInt8)) (v5 : Int) (v6 : Int) (v8 : Int) (v10 : Int) (v64 : Bool) : p4_2067 (j + 1) n0 n1 n2 v0 v2 v5 v6 v8 v10 v64 =
  (sel (v64)
   (some ([], Lk.imin v10 v6, (61 : Int), ()))
   (p4_20 (n2) (n0) (n1) (n2) (v0) (v2) (v5) (v6) (v8) (v10)))
  p4_21_eq (j : Nat) (n0 : Nat) (n1 : Nat) (n2 : Nat) (v0 : List UInt8) (v2 : List (List UInt8)) (v5 : Int) (v6 : Int) (v8 : Int) (v9 : Int) : p4_21 (j + 1) n0 n1 n2 v0 v2 v5 v6 v8 v9 =
  (sel (Decidable.decide (v9 < (↑v0.length : Int)))
   (sel (Decidable.decide ((0 : Int) ≤ v9))
    (sel (Decidable.decide (v9 < (↑v0.length : Int)))
     (sel ((↑(v0.getD v9.toNat (0 : UInt8)).toNat : Int) != (↑(UInt8.toNat (32 : UInt8)) : Int))
      (p4_22 (j) (n0) (n1) (n2) (j) (v0) (v2) (v5) (v6) (v8) (v9))
      (p4_23 (n2) (n0) (n1) (n2) (v0) (v2) (v5) (v6) (v8) (v9)))
     none)
    none)
   (p4_23 (n2) (n0) (n1) (n2) (v0) (v2) (v5) (v6) (v8) (v9)))
  p4_20_eq (j : Nat) (n0 : Nat) (n1 : Nat) (n2 : Nat) (v0 : List UInt8) (v2 : List (List UInt8)) (v5 : Int) (v6 : Int) (v8 : Int) (v10 : Int) : p4_20 (j + 1) n0 n1 n2 v0 v2 v5 v6 v8 v10 =
  (p4_23 (n2) (n0) (n1) (n2) (v0) (v2) (v5) (v6) (v8) (v10))
  p4_22_eq (j : Nat) (n0 : Nat) (n1 : Nat) (n2 : Nat) (n3 : Nat) (v0 : List UInt8) (v2 : List (List UInt8)) (v5 : Int) (v6 : Int) (v8 : Int) (v9 : Int) : p4_22 (j + 1) n0 n1 n2 n3 v0 v2 v5 v6 v8 v9 =
  (p4_21 (n3) (n0) (n1) (n2) (v0) (v2) (v5) (v6) (v8) (Go.IntKind.i64.wrap (v9 + (1 : Int))))
  p4_23_eq (j : Nat) (n0 : Nat) (n1 : Nat) (n2 : Nat) (v0 : List UInt8) (v2 : List (List UInt8)) (v5 : Int) (v6 : Int) (v8 : Int) (v9 : Int) : p4_23 (j + 1) n0 n1 n2 v0 v2 v5 v6 v8 v9 =
  (sel (Decidable.decide ((0 : Int) ≤ v9))
   (sel (Decidable.decide (v9 ≤ (↑v0.length : Int)))
    (sel (Decidable.decide ((0 : Int) ≤ v8))
     (sel (Decidable.decide (v8 ≤ v9))
      (sel (Decidable.decide (v2.length + [Lk.ext v0 v8 v9].length ≤ (1073741824 : Nat)))
       (p4_10 (n2) (n0) (n1) (v0) (v2 ++ [Lk.ext v0 v8 v9]) (v5) (v6) (v9))
       none)
      none)
     none)
    none)
   none)
  f5_eq (n : Nat) (a0 : List UInt8) : f5 (n + 1) a0 =
  (p5_6 (n) (n) (a0) ([]) ((-1 : Int)) (Bool.false) (Bool.false) ((0 : Int)))
  p5_6_eq (j : Nat) (n0 : Nat) (v0 : List UInt8) (v5 : List (List UInt8)) (v6 : Int) (v7 : Bool) (v8 : Bool) (v9 : Int) : p5_6 (j + 1) n0 v0 v5 v6 v7 v8 v9 =
  (sel (Decidable.decide (v9 < (↑v0.length : Int)))
   (sel (Decidable.decide ((0 : Int) ≤ v9))
    (sel (Decidable.decide (v9 < (↑v0.length : Int)))
     (sel (Decidable.decide ((↑(v0.getD v9.toNat (0 : UInt8)).toNat : Int) < (↑(UInt8.toNat (32 : UInt8)) : Int)))
      (p5_2058 (j) (n0) (j) (v0) (v5) (v6) (v7) (v8) (v9) (v0.getD v9.toNat (0 : UInt8)) (Bool.true))
      (sel ((↑(v0.getD v9.toNat (0 : UInt8)).toNat : Int) == (↑(UInt8.toNat (127 : UInt8)) : Int))
       (p5_2058 (j) (n0) (j) (v0) (v5) (v6) (v7) (v8) (v9) (v0.getD v9.toNat (0 : UInt8)) (Bool.true))
       (sel (v8)
        (p5_2058 (j) (n0) (j) (v0) (v5) (v6) (v7) (v8) (v9) (v0.getD v9.toNat (0 : UInt8)) ((↑(v0.getD v9.toNat (0 : UInt8)).toNat : Int) != (↑(UInt8.toNat (32 : UInt8)) : Int)))
        (p5_2058 (j) (n0) (j) (v0) (v5) (v6) (v7) (v8) (v9) (v0.getD v9.toNat (0 : UInt8)) (Bool.false)))))
     none)
    none)
   (sel (v7)
    (some ([], v6, (61 : Int), ()))
    (sel (Decidable.decide (v6 ≥ (0 : Int)))
     (sel (Decidable.decide ((0 : Int) ≤ v6))
      (sel (Decidable.decide (v6 ≤ (↑v0.length : Int)))
       (sel (Decidable.decide (v5.length + [Lk.ext v0 v6 (↑v0.length : Int)].length ≤ (1073741824 : Nat)))
        (p5_30 (n0) (n0) (v5 ++ [Lk.ext v0 v6 (↑v0.length : Int)]))
        none)
       none)
      none)
     (p5_30 (n0) (n0) (v5)))))
  p5_2058_eq (j : Nat) (n0 : Nat) (n1 : Nat) (v0 : List UInt8) (v5 : List (List UInt8)) (v6 : Int) (v7 : Bool) (v8 : Bool) (v9 : Int) (v10 : UInt8) (v20 : Bool) : p5_2058 (j + 1) n0 n1 v0 v5 v6 v7 v8 v9 v10 v20 =
  (sel (v20)
   (some ([], v9, (61 : Int), ()))
   (sel ((↑v10.toNat : Int) == (↑(UInt8.toNat (32 : UInt8)) : Int))
    (p5_2060 (j) (n0) (n1) (j) (v0) (v5) (v6) (v7) (v8) (v9) (v10) (!v7))
    (p5_2060 (j) (n0) (n1) (j) (v0) (v5) (v6) (v7) (v8) (v9) (v10) (Bool.false))))
  p5_30_eq (j : Nat) (n0 : Nat) (v5 : List (List UInt8)) : p5_30 (j + 1) n0 v5 =
  (some (v5, (0 : Int), (0 : Int), ()))
  p5_2060_eq (j : Nat) (n0 : Nat) (n1 : Nat) (n2 : Nat) (v0 : List UInt8) (v5 : List (List UInt8)) (v6 : Int) (v7 : Bool) (v8 : Bool) (v9 : Int) (v10 : UInt8) (v35 : Bool) : p5_2060 (j + 1) n0 n1 n2 v0 v5 v6 v7 v8 v9 v10 v35 =
  (sel (v35)
   (sel (Decidable.decide (v6 ≥ (0 : Int)))
    (sel (Decidable.decide ((0 : Int) ≤ v9))
     (sel (Decidable.decide (v9 ≤ (↑v0.length : Int)))
      (sel (Decidable.decide ((0 : Int) ≤ v6))
       (sel (Decidable.decide (v6 ≤ v9))
        (sel (Decidable.decide (v5.length + [Lk.ext v0 v6 v9].length ≤ (1073741824 : Nat)))
         (p5_14 (j) (n0) (n1) (n2) (j) (v0) (v5 ++ [Lk.ext v0 v6 v9]) (v7) (v9))
         none)
        none)
       none)
      none)
     none)
    (p5_14 (j) (n0) (n1) (n2) (j) (v0) (v5) (v7) (v9)))
   (sel (Decidable.decide (v6 < (0 : Int)))
    (p5_7 (n1) (n0) (n1) (v0) (v5) (v9) ((↑v10.toNat : Int) == (↑(UInt8.toNat (34 : UInt8)) : Int)) (v8) (v9))
    (sel (v7)
     (p5_2068 (j) (n0) (n1) (n2) (j) (v0) (v5) (v6) (v7) (v8) (v9) (v10) ((↑v10.toNat : Int) == (↑(UInt8.toNat (92 : UInt8)) : Int)))
     (p5_2068 (j) (n0) (n1) (n2) (j) (v0) (v5) (v6) (v7) (v8) (v9) (v10) (Bool.false)))))
  p5_14_eq (j : Nat) (n0 : Nat) (n1 : Nat) (n2 : Nat) (n3 : Nat) (v0 : List UInt8) (v5 : List (List UInt8)) (v7 : Bool) (v9 : Int) : p5_14 (j + 1) n0 n1 n2 n3 v0 v5 v7 v9 =
  (p5_7 (n1) (n0) (n1) (v0) (v5) ((-1 : Int)) (v7) (Bool.false) (v9))
  p5_7_eq (j : Nat) (n0 : Nat) (n1 : Nat) (v0 : List UInt8) (v5 : List (List UInt8)) (v6 : Int) (v7 : Bool) (v8 : Bool) (v9 : Int) : p5_7 (j + 1) n0 n1 v0 v5 v6 v7 v8 v9 =
  (p5_6 (n1) (n0) (v0) (v5) (v6) (v7) (v8) (Go.IntKind.i64.wrap (v9 + (1 : Int))))
  p5_2068_eq (j : Nat) (n0 : Nat) (n1 : Nat) (n2 : Nat) (n3 : Nat) (v0 : List UInt8) (v5 : List (List UInt8)) (v6 : Int) (v7 : Bool) (v8 : Bool) (v9 : Int) (v10 : UInt8) (v57 : Bool) : p5_2068 (j + 1) n0 n1 n2 n3 v0 v5 v6 v7 v8 v9 v10 v57 =
  (sel (v57)
   (sel (Decidable.decide (Go.IntKind.i64.wrap (v9 + (1 : Int)) < (↑v0.length : Int)))
    (sel (Decidable.decide ((0 : Int) ≤ Go.IntKind.i64.wrap (v9 + (1 : Int))))
     (sel (Decidable.decide (Go.IntKind.i64.wrap (v9 + (1 : Int)) < (↑v0.length : Int)))
      (sel (Decidable.decide ((↑(v0.getD (Go.IntKind.i64.wrap (v9 + (1 : Int))).toNat (0 : UInt8)).toNat : Int) < (↑(UInt8.toNat (32 : UInt8)) : Int)))
       (p5_2070 (j) (n0) (n1) (n2) (n3) (j) (v0) (v5) (v6) (v7) (v8) (Go.IntKind.i64.wrap (v9 + (1 : Int))) (Bool.true))
       (sel (Decidable.decide ((0 : Int) ≤ Go.IntKind.i64.wrap (v9 + (1 : Int))))
        (sel (Decidable.decide (Go.IntKind.i64.wrap (v9 + (1 : Int)) < (↑v0.length : Int)))
         (p5_2070 (j) (n0) (n1) (n2) (n3) (j) (v0) (v5) (v6) (v7) (v8) (Go.IntKind.i64.wrap (v9 + (1 : Int))) ((↑(v0.getD (Go.IntKind.i64.wrap (v9 + (1 : Int))).toNat (0 : UInt8)).toNat : Int) == (↑(UInt8.toNat (127 : UInt8)) : Int)))
         none)
        none))
      none)
     none)
    (p5_2070 (j) (n0) (n1) (n2) (n3) (j) (v0) (v5) (v6) (v7) (v8) (Go.IntKind.i64.wrap (v9 + (1 : Int))) (Bool.false)))
   (sel (v7)
    (p5_2072 (j) (n0) (n1) (n2) (n3) (j) (v0) (v5) (v6) (v7) (v8) (v9) ((↑v10.toNat : Int) == (↑(UInt8.toNat (34 : UInt8)) : Int)))
    (p5_2072 (j) (n0) (n1) (n2) (n3) (j) (v0) (v5) (v6) (v7) (v8) (v9) (Bool.false))))
  p5_2070_eq (j : Nat) (n0 : Nat) (n1 : Nat) (n2 : Nat) (n3 : Nat) (n4 : Nat) (v0 : List UInt8) (v5 : List (List UInt8)) (v6 : Int) (v7 : Bool) (v8 : Bool) (v9 : Int) (v80 : Bool) : p5_2070 (j + 1) n0 n1 n2 n3 n4 v0 v5 v6 v7 v8 v9 v80 =
  (sel (v80)
   (some ([], v9, (61 : Int), ()))
   (p5_7 (n1) (n0) (n1) (v0) (v5) (v6) (v7) (v8) (v9)))
  p5_2072_eq (j : Nat) (n0 : Nat) (n1 : Nat) (n2 : Nat) (n3 : Nat) (n4 : Nat) (v0 : List UInt8) (v5 : List (List UInt8)) (v6 : Int) (v7 : Bool) (v8 : Bool) (v9 : Int) (v82 : Bool) : p5_2072 (j + 1) n0 n1 n2 n3 n4 v0 v5 v6 v7 v8 v9 v82 =
  (sel (v82)
   (p5_7 (n1) (n0) (n1) (v0) (v5) (v6) (Bool.false) (Bool.true) (v9))
   (p5_7 (n1) (n0) (n1) (v0) (v5) (v6) (v7) (v8) (v9)))
end NsG

namespace ScG
open Go Lk NqG
set_option linter.unusedVariables false
@[irreducible] noncomputable def f9 (n : Nat) (a0 : List UInt8) : Option (List UInt8 × Unit) := F G n 9 (a0, ())
theorem f9_eq (n : Nat) (a0 : List UInt8) : f9 n a0 = bif Nat.ble a0.length 1073741824 then some (quote a0, ()) else none := by kernel_rfl
@[irreducible] noncomputable def f20 (n : Nat) (a0 : List UInt8) (a1 : List UInt8) : Option (List (List UInt8) × Unit) := F G n 20 (a0, a1, ())
theorem f20_eq (n : Nat) (a0 : List UInt8) (a1 : List UInt8) : f20 n a0 a1 = bif (a1 == [10]) && Nat.ble a0.length 1048576 then some (ScM.splitL a0, ()) else none := by kernel_rfl
@[irreducible] noncomputable def f32 (n : Nat) (a0 : List UInt8) : Option (Int × Int × Unit) := F G n 32 (a0, ())
theorem f32_eq (n : Nat) (a0 : List UInt8) : f32 n a0 = some ((e37 a0).1, (e37 a0).2, ()) := by kernel_rfl
@[irreducible] noncomputable def f56 (n : Nat) (a0 : List (List UInt8)) : Option (Bool × Unit) := F G n 56 (a0, ())
theorem f56_eq (n : Nat) (a0 : List (List UInt8)) : f56 n a0 = bif Nat.ble a0.length 1073741824 && a0.all (fun w => Nat.ble w.length 1073741824) then some (ScM.isSet a0, ()) else none := by kernel_rfl
@[irreducible] noncomputable def f85 (n : Nat) (a0 : List UInt8) (a1 : UInt8) : Option (Int × Unit) := F G n 85 (a0, a1, ())
theorem f85_eq (n : Nat) (a0 : List UInt8) (a1 : UInt8) : f85 n a0 a1 = some (idx a0 a1, ()) := by kernel_rfl
@[irreducible] noncomputable def f30 (n : Nat) (a0 : UInt8) : Option (Bool × Unit) := F G n 30 (a0, ())
@[irreducible] noncomputable def p30_2050 (j : Nat) (n0 : Nat) (v0 : UInt8) (v3 : Bool) : Option (Bool × Unit) := piece G 30 [.r, .l, .b, .l, .r] j [n0] (skel 23 0 [(0, .av ⟨.by, .r, v0⟩), (3, .av ⟨.b, .r, v3⟩)])
@[irreducible] noncomputable def p30_2051 (j : Nat) (n0 : Nat) (v0 : UInt8) (v3 : Bool) : Option (Bool × Unit) := piece G 30 [.r, .l, .b, .r] j [n0] (skel 23 0 [(0, .av ⟨.by, .r, v0⟩), (3, .av ⟨.b, .r, v3⟩)])
@[irreducible] noncomputable def p30_2055 (j : Nat) (n0 : Nat) (n1 : Nat) (v16 : Bool) : Option (Bool × Unit) := piece G 30 [.r, .l, .b, .r, .f, .r] j [n0, n1] (skel 23 0 [(16, .av ⟨.b, .r, v16⟩)])
@[irreducible] noncomputable def p30_8 (j : Nat) (n0 : Nat) : Option (Bool × Unit) := piece G 30 [.r, .r] j [n0] (skel 23 0 [])
@[irreducible] noncomputable def f15 (n : Nat) (a0 : List UInt8) : Option (Int × Unit) := F G n 15 (a0, ())
@[irreducible] noncomputable def p15_2 (j : Nat) (n0 : Nat) (v0 : List UInt8) (v5 : Int) (v6 : Int) : Option (Int × Unit) := piece G 15 [.r, .l, .r, .b] j [n0] (skel 16 0 [(0, .av ⟨.s, .r, v0⟩), (5, .av ⟨(.i .i64), .r, v5⟩), (6, .av ⟨(.i .i64), .r, v6⟩)])
@[irreducible] noncomputable def f34 (n : Nat) (a0 : Int) : Option (Bool × Unit) := F G n 34 (a0, ())
@[irreducible] noncomputable def f82 (n : Nat) (a0 : List UInt8) (a1 : Int) : Option (Int × Unit) := F G n 82 (a0, a1, ())
@[irreducible] noncomputable def f71 (n : Nat) (a0 : List UInt8) (a1 : Int) : Option (UInt8 × Int × Unit) := F G n 71 (a0, a1, ())
@[irreducible] noncomputable def p71_2060 (j : Nat) (n0 : Nat) (v0 : List UInt8) (v1 : Int) (v16 : UInt8) (v23 : Bool) : Option (UInt8 × Int × Unit) := piece G 71 [.r, .r, .l, .r, .b, .r, .f, .r, .f, .r, .f, .r] j [n0] (skel 51 0 [(0, .av ⟨.s, .r, v0⟩), (1, .av ⟨(.i .i64), .r, v1⟩), (16, .av ⟨.by, .r, v16⟩), (23, .av ⟨.b, .r, v23⟩)])
@[irreducible] noncomputable def p71_2064 (j : Nat) (n0 : Nat) (n1 : Nat) (v6 : Int) (v7 : Int) (v45 : Bool) : Option (UInt8 × Int × Unit) := piece G 71 [.r, .r, .l, .r, .b, .r, .f, .r, .f, .r, .f, .r, .f, .r, .t, .r, .r] j [n0, n1] (skel 51 0 [(6, .av ⟨(.i .i64), .r, v6⟩), (7, .av ⟨(.i .i64), .r, v7⟩), (45, .av ⟨.b, .r, v45⟩)])
@[irreducible] noncomputable def p71_17 (j : Nat) (n0 : Nat) : Option (UInt8 × Int × Unit) := piece G 71 [.r, .r, .r] j [n0] (skel 51 0 [])
@[irreducible] noncomputable def f54 (n : Nat) (a0 : List UInt8) (a1 : List UInt8) : Option (Bool × Unit) := F G n 54 (a0, a1, ())
@[irreducible] noncomputable def f70 (n : Nat) (a0 : List UInt8) (a1 : List UInt8) : Option (Bool × Unit) := F G n 70 (a0, a1, ())
@[irreducible] noncomputable def f55 (n : Nat) (a0 : List UInt8) : Option (List UInt8 × Int × Int × Unit) := F G n 55 (a0, ())
@[irreducible] noncomputable def p55_5 (j : Nat) (n0 : Nat) (v0 : List UInt8) (v3 : Int) (v5 : List (UInt8)) : Option (List UInt8 × Int × Int × Unit) := piece G 55 [.r, .r, .r, .r, .l, .b] j [n0] (skel 95 0 [(0, .av ⟨.s, .r, v0⟩), (3, .av ⟨(.i .i64), .r, v3⟩), (5, .av ⟨(.l .by), (.o .r), v5⟩)])
@[irreducible] noncomputable def p55_6 (j : Nat) (n0 : Nat) (n1 : Nat) (v0 : List UInt8) (v3 : Int) (v5 : List (UInt8)) : Option (List UInt8 × Int × Int × Unit) := piece G 55 [.r, .r, .r, .r, .l, .b, .o, .r] j [n0, n1] (skel 95 0 [(0, .av ⟨.s, .r, v0⟩), (3, .av ⟨(.i .i64), .r, v3⟩), (5, .av ⟨(.l .by), (.o .r), v5⟩)])
@[irreducible] noncomputable def p55_17 (j : Nat) (n0 : Nat) (v0 : List UInt8) (v3 : Int) (v5 : List (UInt8)) : Option (List UInt8 × Int × Int × Unit) := piece G 55 [.r, .r, .r, .r, .r] j [n0] (skel 95 0 [(0, .av ⟨.s, .r, v0⟩), (3, .av ⟨(.i .i64), .r, v3⟩), (5, .av ⟨(.l .by), (.o .r), v5⟩)])
@[irreducible] noncomputable def p55_2062 (j : Nat) (n0 : Nat) (n1 : Nat) (n2 : Nat) (v0 : List UInt8) (v3 : Int) (v5 : List (UInt8)) (v9 : Int) (v60 : Bool) : Option (List UInt8 × Int × Int × Unit) := piece G 55 [.r, .r, .r, .r, .l, .b, .o, .r, .b, .r, .r, .l, .r] j [n0, n1, n2] (skel 95 0 [(0, .av ⟨.s, .r, v0⟩), (3, .av ⟨(.i .i64), .r, v3⟩), (5, .av ⟨(.l .by), (.o .r), v5⟩), (9, .av ⟨(.i .i64), .r, v9⟩), (60, .av ⟨.b, .r, v60⟩)])
@[irreducible] noncomputable def p55_15 (j : Nat) (n0 : Nat) (n1 : Nat) (n2 : Nat) (v0 : List UInt8) (v3 : Int) (v5 : List (UInt8)) (v9 : Int) : Option (List UInt8 × Int × Int × Unit) := piece G 55 [.r, .r, .r, .r, .l, .b, .o, .r, .b, .r, .r, .r] j [n0, n1, n2] (skel 95 0 [(0, .av ⟨.s, .r, v0⟩), (3, .av ⟨(.i .i64), .r, v3⟩), (5, .av ⟨(.l .by), (.o .r), v5⟩), (9, .av ⟨(.i .i64), .r, v9⟩)])
@[irreducible] noncomputable def f37 (n : Nat) (a0 : List UInt8) : Option (List UInt8 × Int × Int × Unit) := F G n 37 (a0, ())
@[irreducible] noncomputable def p37_2053 (j : Nat) (n0 : Nat) (v0 : List UInt8) (v5 : Int) (v20 : Bool) : Option (List UInt8 × Int × Int × Unit) := piece G 37 [.r, .r, .l, .r, .r] j [n0] (skel 24 0 [(0, .av ⟨.s, .r, v0⟩), (5, .av ⟨(.i .i64), .r, v5⟩), (20, .av ⟨.b, .r, v20⟩)])
@[irreducible] noncomputable def p37_6 (j : Nat) (n0 : Nat) (v0 : List UInt8) : Option (List UInt8 × Int × Int × Unit) := piece G 37 [.r, .r, .r] j [n0] (skel 24 0 [(0, .av ⟨.s, .r, v0⟩)])
@[irreducible] noncomputable def f53 (n : Nat) (a0 : List UInt8) (a1 : Int) : Option (Int × Bool × Unit) := F G n 53 (a0, a1, ())
@[irreducible] noncomputable def p53_2 (j : Nat) (n0 : Nat) (v0 : List UInt8) (v6 : Int) : Option (Int × Bool × Unit) := piece G 53 [.r, .l, .r, .b] j [n0] (skel 26 0 [(0, .av ⟨.s, .r, v0⟩), (6, .av ⟨(.i .i64), .r, v6⟩)])
@[irreducible] noncomputable def p53_3 (j : Nat) (n0 : Nat) (n1 : Nat) (v0 : List UInt8) (v6 : Int) : Option (Int × Bool × Unit) := piece G 53 [.r, .l, .r, .b, .o, .r, .r] j [n0, n1] (skel 26 0 [(0, .av ⟨.s, .r, v0⟩), (6, .av ⟨(.i .i64), .r, v6⟩)])
@[irreducible] noncomputable def f36 (n : Nat) (a0 : List UInt8) : Option (List (List UInt8) × Int × Int × Unit) := F G n 36 (a0, ())
@[irreducible] noncomputable def p36_4 (j : Nat) (n0 : Nat) (v0 : List UInt8) (v2 : List (List UInt8)) (v5 : Int) (v6 : Int) (v15 : Int) (v16 : Int) : Option (List (List UInt8) × Int × Int × Unit) := piece G 36 [.r, .r, .r, .l, .r, .b] j [n0] (skel 100 0 [(0, .av ⟨.s, .r, v0⟩), (2, .av ⟨(.l .s), (.o .r), v2⟩), (5, .av ⟨(.i .i64), .r, v5⟩), (6, .av ⟨(.i .i64), .r, v6⟩), (15, .av ⟨(.i .i64), .r, v15⟩), (16, .av ⟨(.i .i64), .r, v16⟩)])
@[irreducible] noncomputable def p36_2055 (j : Nat) (n0 : Nat) (n1 : Nat) (v0 : List UInt8) (v2 : List (List UInt8)) (v5 : Int) (v6 : Int) (v7 : Int) (v15 : Int) (v16 : Int) (v28 : Bool) : Option (List (List UInt8) × Int × Int × Unit) := piece G 36 [.r, .r, .r, .l, .r, .b, .o, .r, .r, .l, .b, .r, .r] j [n0, n1] (skel 100 0 [(0, .av ⟨.s, .r, v0⟩), (2, .av ⟨(.l .s), (.o .r), v2⟩), (5, .av ⟨(.i .i64), .r, v5⟩), (6, .av ⟨(.i .i64), .r, v6⟩), (7, .av ⟨(.i .i64), .r, v7⟩), (15, .av ⟨(.i .i64), .r, v15⟩), (16, .av ⟨(.i .i64), .r, v16⟩), (28, .av ⟨.b, .r, v28⟩)])
@[irreducible] noncomputable def p36_9 (j : Nat) (n0 : Nat) (v0 : List UInt8) (v2 : List (List UInt8)) (v5 : Int) (v6 : Int) : Option (List (List UInt8) × Int × Int × Unit) := piece G 36 [.r, .r, .r, .r] j [n0] (skel 100 0 [(0, .av ⟨.s, .r, v0⟩), (2, .av ⟨(.l .s), (.o .r), v2⟩), (5, .av ⟨(.i .i64), .r, v5⟩), (6, .av ⟨(.i .i64), .r, v6⟩)])
@[irreducible] noncomputable def p36_8 (j : Nat) (n0 : Nat) (n1 : Nat) (v0 : List UInt8) (v2 : List (List UInt8)) (v5 : Int) (v6 : Int) (v15 : Int) (v16 : Int) : Option (List (List UInt8) × Int × Int × Unit) := piece G 36 [.r, .r, .r, .l, .r, .b, .o, .r, .r, .r] j [n0, n1] (skel 100 0 [(0, .av ⟨.s, .r, v0⟩), (2, .av ⟨(.l .s), (.o .r), v2⟩), (5, .av ⟨(.i .i64), .r, v5⟩), (6, .av ⟨(.i .i64), .r, v6⟩), (15, .av ⟨(.i .i64), .r, v15⟩), (16, .av ⟨(.i .i64), .r, v16⟩)])
@[irreducible] noncomputable def p36_10 (j : Nat) (n0 : Nat) (n1 : Nat) (v0 : List UInt8) (v2 : List (List UInt8)) (v5 : Int) (v6 : Int) (v8 : Int) : Option (List (List UInt8) × Int × Int × Unit) := piece G 36 [.r, .r, .r, .r, .l, .r, .b] j [n0, n1] (skel 100 0 [(0, .av ⟨.s, .r, v0⟩), (2, .av ⟨(.l .s), (.o .r), v2⟩), (5, .av ⟨(.i .i64), .r, v5⟩), (6, .av ⟨(.i .i64), .r, v6⟩), (8, .av ⟨(.i .i64), .r, v8⟩)])
@[irreducible] noncomputable def p36_25 (j : Nat) (n0 : Nat) (n1 : Nat) (v0 : List UInt8) (v2 : List (List UInt8)) (v5 : Int) (v6 : Int) : Option (List (List UInt8) × Int × Int × Unit) := piece G 36 [.r, .r, .r, .r, .r] j [n0, n1] (skel 100 0 [(0, .av ⟨.s, .r, v0⟩), (2, .av ⟨(.l .s), (.o .r), v2⟩), (5, .av ⟨(.i .i64), .r, v5⟩), (6, .av ⟨(.i .i64), .r, v6⟩)])
@[irreducible] noncomputable def p36_2067 (j : Nat) (n0 : Nat) (n1 : Nat) (n2 : Nat) (v0 : List UInt8) (v2 : List (List UInt8)) (v5 : Int) (v6 : Int) (v8 : Int) (v10 : Int) (v64 : Bool) : Option (List (List UInt8) × Int × Int × Unit) := piece G 36 [.r, .r, .r, .r, .l, .r, .b, .o, .r, .b, .r, .r, .l, .r, .t, .r, .r, .l, .r] j [n0, n1, n2] (skel 100 0 [(0, .av ⟨.s, .r, v0⟩), (2, .av ⟨(.l .s), (.o .r), v2⟩), (5, .av ⟨(.i .i64), .r, v5⟩), (6, .av ⟨(.i .i64), .r, v6⟩), (8, .av ⟨(.i .i64), .r, v8⟩), (10, .av ⟨(.i .i64), .r, v10⟩), (64, .av ⟨.b, .r, v64⟩)])
@[irreducible] noncomputable def p36_21 (j : Nat) (n0 : Nat) (n1 : Nat) (n2 : Nat) (v0 : List UInt8) (v2 : List (List UInt8)) (v5 : Int) (v6 : Int) (v8 : Int) (v9 : Int) : Option (List (List UInt8) × Int × Int × Unit) := piece G 36 [.r, .r, .r, .r, .l, .r, .b, .o, .r, .b, .r, .r, .l, .r, .f, .b] j [n0, n1, n2] (skel 100 0 [(0, .av ⟨.s, .r, v0⟩), (2, .av ⟨(.l .s), (.o .r), v2⟩), (5, .av ⟨(.i .i64), .r, v5⟩), (6, .av ⟨(.i .i64), .r, v6⟩), (8, .av ⟨(.i .i64), .r, v8⟩), (9, .av ⟨(.i .i64), .r, v9⟩)])
@[irreducible] noncomputable def p36_20 (j : Nat) (n0 : Nat) (n1 : Nat) (n2 : Nat) (v0 : List UInt8) (v2 : List (List UInt8)) (v5 : Int) (v6 : Int) (v8 : Int) (v10 : Int) : Option (List (List UInt8) × Int × Int × Unit) := piece G 36 [.r, .r, .r, .r, .l, .r, .b, .o, .r, .b, .r, .r, .l, .r, .t, .r, .r, .r] j [n0, n1, n2] (skel 100 0 [(0, .av ⟨.s, .r, v0⟩), (2, .av ⟨(.l .s), (.o .r), v2⟩), (5, .av ⟨(.i .i64), .r, v5⟩), (6, .av ⟨(.i .i64), .r, v6⟩), (8, .av ⟨(.i .i64), .r, v8⟩), (10, .av ⟨(.i .i64), .r, v10⟩)])
@[irreducible] noncomputable def p36_22 (j : Nat) (n0 : Nat) (n1 : Nat) (n2 : Nat) (n3 : Nat) (v0 : List UInt8) (v2 : List (List UInt8)) (v5 : Int) (v6 : Int) (v8 : Int) (v9 : Int) : Option (List (List UInt8) × Int × Int × Unit) := piece G 36 [.r, .r, .r, .r, .l, .r, .b, .o, .r, .b, .r, .r, .l, .r, .f, .b, .o, .r] j [n0, n1, n2, n3] (skel 100 0 [(0, .av ⟨.s, .r, v0⟩), (2, .av ⟨(.l .s), (.o .r), v2⟩), (5, .av ⟨(.i .i64), .r, v5⟩), (6, .av ⟨(.i .i64), .r, v6⟩), (8, .av ⟨(.i .i64), .r, v8⟩), (9, .av ⟨(.i .i64), .r, v9⟩)])
@[irreducible] noncomputable def p36_23 (j : Nat) (n0 : Nat) (n1 : Nat) (n2 : Nat) (v0 : List UInt8) (v2 : List (List UInt8)) (v5 : Int) (v6 : Int) (v8 : Int) (v9 : Int) : Option (List (List UInt8) × Int × Int × Unit) := piece G 36 [.r, .r, .r, .r, .l, .r, .b, .o, .r, .b, .r, .r, .r] j [n0, n1, n2] (skel 100 0 [(0, .av ⟨.s, .r, v0⟩), (2, .av ⟨(.l .s), (.o .r), v2⟩), (5, .av ⟨(.i .i64), .r, v5⟩), (6, .av ⟨(.i .i64), .r, v6⟩), (8, .av ⟨(.i .i64), .r, v8⟩), (9, .av ⟨(.i .i64), .r, v9⟩)])
@[irreducible] noncomputable def f73 (n : Nat) (a0 : List UInt8) : Option (Int × Bool × Unit) := F G n 73 (a0, ())
@[irreducible] noncomputable def p73_3 (j : Nat) (n0 : Nat) (v0 : List UInt8) (v4 : Int) (v8 : List UInt8) (p8 : Nat) : Option (Int × Bool × Unit) := piece G 73 [.r, .r, .l, .r, .b] j [n0] (skel 38 0 [(0, .av ⟨.s, .r, v0⟩), (4, .av ⟨(.i .i64), .r, v4⟩), (8, .it v8 p8 ())])
@[irreducible] noncomputable def p73_2054 (j : Nat) (n0 : Nat) (n1 : Nat) (v0 : List UInt8) (v4 : Int) (v6 : Int) (v8 : List UInt8) (p8 : Nat) (v26 : Bool) : Option (Int × Bool × Unit) := piece G 73 [.r, .r, .l, .r, .b, .o, .r, .r, .b, .r, .l, .r] j [n0, n1] (skel 38 0 [(0, .av ⟨.s, .r, v0⟩), (4, .av ⟨(.i .i64), .r, v4⟩), (6, .av ⟨(.i .i32), .r, v6⟩), (8, .it v8 p8 ()), (26, .av ⟨.b, .r, v26⟩)])
@[irreducible] noncomputable def p73_7 (j : Nat) (n0 : Nat) (n1 : Nat) (v0 : List UInt8) (v4 : Int) (v6 : Int) (v8 : List UInt8) (p8 : Nat) : Option (Int × Bool × Unit) := piece G 73 [.r, .r, .l, .r, .b, .o, .r, .r, .b, .r, .r] j [n0, n1] (skel 38 0 [(0, .av ⟨.s, .r, v0⟩), (4, .av ⟨(.i .i64), .r, v4⟩), (6, .av ⟨(.i .i32), .r, v6⟩), (8, .it v8 p8 ())])
@[irreducible] noncomputable def f57 (n : Nat) (a0 : List UInt8) : Option (Bool × Unit) := F G n 57 (a0, ())
@[irreducible] noncomputable def f59 (n : Nat) (a0 : List (List UInt8)) : Option (Bool × Unit) := F G n 59 (a0, ())
@[irreducible] noncomputable def p59_2 (j : Nat) (n0 : Nat) (v5 : List (List UInt8)) (v6 : Int) (v7 : Int) : Option (Bool × Unit) := piece G 59 [.r, .l, .r, .b] j [n0] (skel 15 0 [(5, .av ⟨(.l .s), .b, v5⟩), (6, .av ⟨(.i .i64), .r, v6⟩), (7, .av ⟨(.i .i64), .r, v7⟩)])
@[irreducible] noncomputable def f74 (n : Nat) (a0 : List (List UInt8)) : Option (List ((Int × (List UInt8 × (List UInt8 × Unit)))) × Bool × Unit) := F G n 74 (a0, ())
@[irreducible] noncomputable def p74_2 (j : Nat) (n0 : Nat) (v0 : List (List UInt8)) (v4 : List ((Int × (List UInt8 × (List UInt8 × Unit))))) : Option (List ((Int × (List UInt8 × (List UInt8 × Unit)))) × Bool × Unit) := piece G 74 [.r, .r, .l, .b] j [n0] (skel 45 0 [(0, .av ⟨(.l .s), .b, v0⟩), (4, .av ⟨(.l (.c (.i .i64) (.c .s (.c .s .u)))), (.o (.q .r (.q .r (.q .r .r)))), v4⟩)])
@[irreducible] noncomputable def p74_12 (j : Nat) (n0 : Nat) (n1 : Nat) (v0 : List (List UInt8)) (v4 : List ((Int × (List UInt8 × (List UInt8 × Unit))))) (v5 : Option ((Int × (List UInt8 × (List UInt8 × Unit))))) (v6 : Int) : Option (List ((Int × (List UInt8 × (List UInt8 × Unit)))) × Bool × Unit) := piece G 74 [.r, .r, .l, .b, .o, .r, .b, .r, .r] j [n0, n1] (skel 45 0 [(0, .av ⟨(.l .s), .b, v0⟩), (4, .av ⟨(.l (.c (.i .i64) (.c .s (.c .s .u)))), (.o (.q .r (.q .r (.q .r .r)))), v4⟩), (5, .av ⟨(.p (.c (.i .i64) (.c .s (.c .s .u)))), (.o (.q .r (.q .r (.q .r .r)))), v5⟩), (6, .av ⟨(.i .i64), .r, v6⟩)])
@[irreducible] noncomputable def p74_17 (j : Nat) (n0 : Nat) (n1 : Nat) (n2 : Nat) (v0 : List (List UInt8)) (v4 : List ((Int × (List UInt8 × (List UInt8 × Unit))))) (v5 : Option ((Int × (List UInt8 × (List UInt8 × Unit))))) (v6 : Int) : Option (List ((Int × (List UInt8 × (List UInt8 × Unit)))) × Bool × Unit) := piece G 74 [.r, .r, .l, .b, .o, .r, .b, .r, .r, .r, .r, .r] j [n0, n1, n2] (skel 45 0 [(0, .av ⟨(.l .s), .b, v0⟩), (4, .av ⟨(.l (.c (.i .i64) (.c .s (.c .s .u)))), (.o (.q .r (.q .r (.q .r .r)))), v4⟩), (5, .av ⟨(.p (.c (.i .i64) (.c .s (.c .s .u)))), (.o (.q .r (.q .r (.q .r .r)))), v5⟩), (6, .av ⟨(.i .i64), .r, v6⟩)])
@[irreducible] noncomputable def f58 (n : Nat) (a0 : List (List UInt8)) : Option (Bool × Unit) := F G n 58 (a0, ())
@[irreducible] noncomputable def f75 (n : Nat) (a0 : List UInt8) : Option (Bool × Unit) := F G n 75 (a0, ())
@[irreducible] noncomputable def f76 (n : Nat) (a0 : List UInt8) : Option (Int × Bool × Unit) := F G n 76 (a0, ())
@[irreducible] noncomputable def f60 (n : Nat) (a0 : List UInt8) : Option (List (List UInt8) × Unit) := F G n 60 (a0, ())
@[irreducible] noncomputable def p60_2054 (j : Nat) (n0 : Nat) (v3 : List UInt8) (v4 : Bool) : Option (List (List UInt8) × Unit) := piece G 60 [.r, .l, .r, .b, .r] j [n0] (skel 39 0 [(3, .av ⟨.s, .r, v3⟩), (4, .av ⟨.b, .r, v4⟩)])
@[irreducible] noncomputable def p60_2058 (j : Nat) (n0 : Nat) (n1 : Nat) (v3 : List UInt8) (v10 : Bool) : Option (List (List UInt8) × Unit) := piece G 60 [.r, .l, .r, .b, .r, .f, .r] j [n0, n1] (skel 39 0 [(3, .av ⟨.s, .r, v3⟩), (10, .av ⟨.b, .r, v10⟩)])
@[irreducible] noncomputable def p60_2068 (j : Nat) (n0 : Nat) (n1 : Nat) (n2 : Nat) (v3 : List UInt8) (v18 : Bool) : Option (List (List UInt8) × Unit) := piece G 60 [.r, .l, .r, .b, .r, .f, .r, .f, .r, .f, .r] j [n0, n1, n2] (skel 39 0 [(3, .av ⟨.s, .r, v3⟩), (18, .av ⟨.b, .r, v18⟩)])
@[irreducible] noncomputable def p60_29 (j : Nat) (n0 : Nat) : Option (List (List UInt8) × Unit) := piece G 60 [.r, .r] j [n0] (skel 39 0 [])
@[irreducible] noncomputable def f61 (n : Nat) (a0 : List (List UInt8)) (a1 : List UInt8) : Option (Bool × Unit) := F G n 61 (a0, a1, ())
@[irreducible] noncomputable def p61_4 (j : Nat) (n0 : Nat) (v1 : List UInt8) (v13 : List (List UInt8)) (v14 : Int) (v15 : Int) : Option (Bool × Unit) := piece G 61 [.r, .r, .l, .r, .b] j [n0] (skel 41 0 [(1, .av ⟨.s, .r, v1⟩), (13, .av ⟨(.l .s), .b, v13⟩), (14, .av ⟨(.i .i64), .r, v14⟩), (15, .av ⟨(.i .i64), .r, v15⟩)])
@[irreducible] noncomputable def p61_14 (j : Nat) (n0 : Nat) (n1 : Nat) (v1 : List UInt8) (v7 : Bool) (v13 : List (List UInt8)) (v14 : Int) (v15 : Int) : Option (Bool × Unit) := piece G 61 [.r, .r, .l, .r, .b, .o, .r, .r, .l, .b, .r, .r, .r] j [n0, n1] (skel 41 0 [(1, .av ⟨.s, .r, v1⟩), (7, .av ⟨.b, .r, v7⟩), (13, .av ⟨(.l .s), .b, v13⟩), (14, .av ⟨(.i .i64), .r, v14⟩), (15, .av ⟨(.i .i64), .r, v15⟩)])
@[irreducible] noncomputable def p61_16 (j : Nat) (n0 : Nat) (n1 : Nat) (v1 : List UInt8) (v13 : List (List UInt8)) (v14 : Int) (v15 : Int) : Option (Bool × Unit) := piece G 61 [.r, .r, .l, .r, .b, .o, .r, .r, .r] j [n0, n1] (skel 41 0 [(1, .av ⟨.s, .r, v1⟩), (13, .av ⟨(.l .s), .b, v13⟩), (14, .av ⟨(.i .i64), .r, v14⟩), (15, .av ⟨(.i .i64), .r, v15⟩)])
@[irreducible] noncomputable def f38 (n : Nat) (a0 : List UInt8) (a1 : List (List UInt8)) : Option (Bool × Unit) := F G n 38 (a0, a1, ())
@[irreducible] noncomputable def p38_9 (j : Nat) (n0 : Nat) (v1 : List (List UInt8)) (v45 : List (List UInt8)) (v46 : Int) (v47 : Int) : Option (Bool × Unit) := piece G 38 [.r, .r, .l, .r, .b] j [n0] (skel 55 0 [(1, .av ⟨(.l .s), .b, v1⟩), (45, .av ⟨(.l .s), (.o .r), v45⟩), (46, .av ⟨(.i .i64), .r, v46⟩), (47, .av ⟨(.i .i64), .r, v47⟩)])
@[irreducible] noncomputable def f21 (n : Nat) (a0 : List UInt8) : Option ((List UInt8 × (List (List UInt8) × Unit)) × Bool × Bool × Unit) := F G n 21 (a0, ())
@[irreducible] noncomputable def p21_2053 (j : Nat) (n0 : Nat) (v2 : Option ((List UInt8 × (List (List UInt8) × Unit)))) (v5 : List (List UInt8)) (v31 : Bool) : Option ((List UInt8 × (List (List UInt8) × Unit)) × Bool × Bool × Unit) := piece G 21 [.r, .r, .r, .l, .r] j [n0] (skel 72 0 [(2, .av ⟨(.p (.c .s (.c (.l .s) .u))), (.o (.q .r (.q (.o .r) .r))), v2⟩), (5, .av ⟨(.l .s), (.o .r), v5⟩), (31, .av ⟨.b, .r, v31⟩)])
@[irreducible] noncomputable def p21_6 (j : Nat) (n0 : Nat) (v2 : Option ((List UInt8 × (List (List UInt8) × Unit)))) (v5 : List (List UInt8)) (v31 : Bool) : Option ((List UInt8 × (List (List UInt8) × Unit)) × Bool × Bool × Unit) := piece G 21 [.r, .r, .r, .r] j [n0] (skel 72 0 [(2, .av ⟨(.p (.c .s (.c (.l .s) .u))), (.o (.q .r (.q (.o .r) .r))), v2⟩), (5, .av ⟨(.l .s), (.o .r), v5⟩), (31, .av ⟨.b, .r, v31⟩)])
@[irreducible] noncomputable def p21_7 (j : Nat) (n0 : Nat) (n1 : Nat) (v2 : Option ((List UInt8 × (List (List UInt8) × Unit)))) (v5 : List (List UInt8)) (v31 : Bool) (v34 : Int) (v35 : Int) : Option ((List UInt8 × (List (List UInt8) × Unit)) × Bool × Bool × Unit) := piece G 21 [.r, .r, .r, .r, .l, .r, .b] j [n0, n1] (skel 72 0 [(2, .av ⟨(.p (.c .s (.c (.l .s) .u))), (.o (.q .r (.q (.o .r) .r))), v2⟩), (5, .av ⟨(.l .s), (.o .r), v5⟩), (31, .av ⟨.b, .r, v31⟩), (33, .al 5 []), (34, .av ⟨(.i .i64), .r, v34⟩), (35, .av ⟨(.i .i64), .r, v35⟩)])
@[irreducible] noncomputable def f10 (n : Nat) (a0 : List UInt8) : Option (List (((List UInt8 × (List (List UInt8) × Unit)) × (Int × Unit))) × Int × Int × Unit) := F G n 10 (a0, ())
@[irreducible] noncomputable def p10_5 (j : Nat) (n0 : Nat) (v5 : List (((List UInt8 × (List (List UInt8) × Unit)) × (Int × Unit)))) (v16 : List (List UInt8)) (v17 : Int) (v18 : Int) : Option (List (((List UInt8 × (List (List UInt8) × Unit)) × (Int × Unit))) × Int × Int × Unit) := piece G 10 [.r, .r, .r, .l, .r, .b] j [n0] (skel 43 0 [(5, .av ⟨(.l (.c (.c .s (.c (.l .s) .u)) (.c (.i .i64) .u))), (.o (.q (.q .r (.q (.o .r) .r)) (.q .r .r))), v5⟩), (16, .av ⟨(.l .s), (.o .r), v16⟩), (17, .av ⟨(.i .i64), .r, v17⟩), (18, .av ⟨(.i .i64), .r, v18⟩)])
@[irreducible] noncomputable def p10_13 (j : Nat) (n0 : Nat) (n1 : Nat) (v5 : List (((List UInt8 × (List (List UInt8) × Unit)) × (Int × Unit)))) (v16 : List (List UInt8)) (v17 : Int) (v18 : Int) : Option (List (((List UInt8 × (List (List UInt8) × Unit)) × (Int × Unit))) × Int × Int × Unit) := piece G 10 [.r, .r, .r, .l, .r, .b, .o, .r, .r, .r] j [n0, n1] (skel 43 0 [(5, .av ⟨(.l (.c (.c .s (.c (.l .s) .u)) (.c (.i .i64) .u))), (.o (.q (.q .r (.q (.o .r) .r)) (.q .r .r))), v5⟩), (16, .av ⟨(.l .s), (.o .r), v16⟩), (17, .av ⟨(.i .i64), .r, v17⟩), (18, .av ⟨(.i .i64), .r, v18⟩)])
@[irreducible] noncomputable def f8 (n : Nat) (a0 : List UInt8) : Option (List UInt8 × Unit) := F G n 8 (a0, ())
@[irreducible] noncomputable def p8_2050 (j : Nat) (n0 : Nat) (v0 : List UInt8) (v9 : Bool) : Option (List UInt8 × Unit) := piece G 8 [.r, .l, .r] j [n0] (skel 13 0 [(0, .av ⟨.s, .r, v0⟩), (9, .av ⟨.b, .r, v9⟩)])
@[irreducible] noncomputable def p8_3 (j : Nat) (n0 : Nat) (v0 : List UInt8) : Option (List UInt8 × Unit) := piece G 8 [.r, .r] j [n0] (skel 13 0 [(0, .av ⟨.s, .r, v0⟩)])
theorem f30_eq (n : Nat) (a0 : UInt8) : f30 (n + 1) a0 =
  (sel (Decidable.decide ((↑a0.toNat : Int) ≥ (↑(UInt8.toNat (97 : UInt8)) : Int)))
   (p30_2050 (n) (n) (a0) (Decidable.decide ((↑a0.toNat : Int) ≤ (↑(UInt8.toNat (122 : UInt8)) : Int))))
   (p30_2050 (n) (n) (a0) (Bool.false))) := by kernel_rfl
theorem p30_2050_eq (j : Nat) (n0 : Nat) (v0 : UInt8) (v3 : Bool) : p30_2050 (j + 1) n0 v0 v3 =
  (sel (v3)
   (p30_2051 (n0) (n0) (v0) (v3))
   (sel (Decidable.decide ((↑v0.toNat : Int) ≥ (↑(UInt8.toNat (48 : UInt8)) : Int)))
    (p30_2051 (n0) (n0) (v0) (Decidable.decide ((↑v0.toNat : Int) ≤ (↑(UInt8.toNat (57 : UInt8)) : Int))))
    (p30_2051 (n0) (n0) (v0) (Bool.false)))) := by kernel_rfl
theorem p30_2051_eq (j : Nat) (n0 : Nat) (v0 : UInt8) (v3 : Bool) : p30_2051 (j + 1) n0 v0 v3 =
  (sel (v3)
   (some (Bool.true, ()))
   (sel ((↑v0.toNat : Int) == (↑(UInt8.toNat (46 : UInt8)) : Int))
    (p30_2055 (j) (n0) (j) ((↑v0.toNat : Int) == (↑(UInt8.toNat (46 : UInt8)) : Int)))
    (sel ((↑v0.toNat : Int) == (↑(UInt8.toNat (95 : UInt8)) : Int))
     (p30_2055 (j) (n0) (j) ((↑v0.toNat : Int) == (↑(UInt8.toNat (95 : UInt8)) : Int)))
     (p30_2055 (j) (n0) (j) ((↑v0.toNat : Int) == (↑(UInt8.toNat (45 : UInt8)) : Int)))))) := by kernel_rfl
theorem p30_2055_eq (j : Nat) (n0 : Nat) (n1 : Nat) (v16 : Bool) : p30_2055 (j + 1) n0 n1 v16 =
  (sel (v16)
   (some (Bool.true, ()))
   (p30_8 (n0) (n0))) := by kernel_rfl
theorem p30_8_eq (j : Nat) (n0 : Nat) : p30_8 (j + 1) n0 =
  (some (Bool.false, ())) := by kernel_rfl
theorem f15_eq (n : Nat) (a0 : List UInt8) : f15 (n + 1) a0 =
  (p15_2 (n) (n) (a0) ((↑a0.length : Int)) ((0 : Int))) := by kernel_rfl
theorem p15_2_eq (j : Nat) (n0 : Nat) (v0 : List UInt8) (v5 : Int) (v6 : Int) : p15_2 (j + 1) n0 v0 v5 v6 =
  (sel (Decidable.decide (v6 < v5))
   (sel (Decidable.decide ((0 : Int) ≤ v6))
    (sel (Decidable.decide (v6 < (↑v0.length : Int)))
     (obind (f30 j (v0.getD v6.toNat (0 : UInt8))) fun r143 =>
      (sel (!r143.fst)
       (some (v6, ()))
       (p15_2 (j) (n0) (v0) (v5) (Go.IntKind.i64.wrap (v6 + (1 : Int))))))
     none)
    none)
   (some ((-1 : Int), ()))) := by kernel_rfl
theorem f34_eq (n : Nat) (a0 : Int) : f34 (n + 1) a0 =
  (sel (Decidable.decide (a0 > (32 : Int)))
   (sel (Decidable.decide (a0 < (127 : Int)))
    (sel (a0 != (34 : Int))
     (sel (a0 != (92 : Int))
      (some (Bool.true, ()))
      (some (Decidable.decide (a0 > (160 : Int)), ())))
     (some (Decidable.decide (a0 > (160 : Int)), ())))
    (some (Decidable.decide (a0 > (160 : Int)), ())))
   (some (Decidable.decide (a0 > (160 : Int)), ()))) := by kernel_rfl
theorem f82_eq (n : Nat) (a0 : List UInt8) (a1 : Int) : f82 (n + 1) a0 a1 =
  (sel (Decidable.decide (a1 ≥ (↑a0.length : Int)))
   (some ((-1 : Int), ()))
   (sel (Decidable.decide ((0 : Int) ≤ a1))
    (sel (Decidable.decide (a1 < (↑a0.length : Int)))
     (obind (f85 n ([(48 : UInt8), (49 : UInt8), (50 : UInt8), (51 : UInt8), (52 : UInt8), (53 : UInt8), (54 : UInt8), (55 : UInt8), (56 : UInt8), (57 : UInt8), (97 : UInt8), (98 : UInt8), (99 : UInt8), (100 : UInt8), (101 : UInt8), (102 : UInt8)]) (a0.getD a1.toNat (0 : UInt8))) fun r131 =>
      (some (r131.fst, ())))
     none)
    none)) := by kernel_rfl
theorem f71_eq (n : Nat) (a0 : List UInt8) (a1 : Int) : f71 (n + 1) a0 a1 =
  (sel (Decidable.decide (Go.IntKind.i64.wrap (a1 + (1 : Int)) ≥ (↑a0.length : Int)))
   (some ((0 : UInt8), (0 : Int), ()))
   (sel (Decidable.decide ((0 : Int) ≤ Go.IntKind.i64.wrap (a1 + (1 : Int))))
    (sel (Decidable.decide (Go.IntKind.i64.wrap (a1 + (1 : Int)) < (↑a0.length : Int)))
     (sel ((↑(a0.getD (Go.IntKind.i64.wrap (a1 + (1 : Int))).toNat (0 : UInt8)).toNat : Int) == (↑(UInt8.toNat (110 : UInt8)) : Int))
      (some ((10 : UInt8), (2 : Int), ()))
      (sel ((↑(a0.getD (Go.IntKind.i64.wrap (a1 + (1 : Int))).toNat (0 : UInt8)).toNat : Int) == (↑(UInt8.toNat (116 : UInt8)) : Int))
       (some ((9 : UInt8), (2 : Int), ()))
       (sel ((↑(a0.getD (Go.IntKind.i64.wrap (a1 + (1 : Int))).toNat (0 : UInt8)).toNat : Int) == (↑(UInt8.toNat (115 : UInt8)) : Int))
        (some ((32 : UInt8), (2 : Int), ()))
        (sel ((↑(a0.getD (Go.IntKind.i64.wrap (a1 + (1 : Int))).toNat (0 : UInt8)).toNat : Int) == (↑(UInt8.toNat (34 : UInt8)) : Int))
         (p71_2060 (n) (n) (a0) (a1) (a0.getD (Go.IntKind.i64.wrap (a1 + (1 : Int))).toNat (0 : UInt8)) ((↑(a0.getD (Go.IntKind.i64.wrap (a1 + (1 : Int))).toNat (0 : UInt8)).toNat : Int) == (↑(UInt8.toNat (34 : UInt8)) : Int)))
         (p71_2060 (n) (n) (a0) (a1) (a0.getD (Go.IntKind.i64.wrap (a1 + (1 : Int))).toNat (0 : UInt8)) ((↑(a0.getD (Go.IntKind.i64.wrap (a1 + (1 : Int))).toNat (0 : UInt8)).toNat : Int) == (↑(UInt8.toNat (92 : UInt8)) : Int)))))))
     none)
    none)) := by kernel_rfl
theorem p71_2060_eq (j : Nat) (n0 : Nat) (v0 : List UInt8) (v1 : Int) (v16 : UInt8) (v23 : Bool) : p71_2060 (j + 1) n0 v0 v1 v16 v23 =
  (sel (v23)
   (sel (Decidable.decide ((0 : Int) ≤ Go.IntKind.i64.wrap (v1 + (1 : Int))))
    (sel (Decidable.decide (Go.IntKind.i64.wrap (v1 + (1 : Int)) < (↑v0.length : Int)))
     (some (v0.getD (Go.IntKind.i64.wrap (v1 + (1 : Int))).toNat (0 : UInt8), (2 : Int), ()))
     none)
    none)
   (sel ((↑v16.toNat : Int) == (↑(UInt8.toNat (120 : UInt8)) : Int))
    (obind (f82 j (v0) (Go.IntKind.i64.wrap (v1 + (2 : Int)))) fun r541 =>
     (obind (f82 j (v0) (Go.IntKind.i64.wrap (v1 + (3 : Int)))) fun r572 =>
      (sel (Decidable.decide (r541.fst ≥ (0 : Int)))
       (p71_2064 (j) (n0) (j) (r541.fst) (r572.fst) (Decidable.decide (r572.fst ≥ (0 : Int))))
       (p71_2064 (j) (n0) (j) (r541.fst) (r572.fst) (Bool.false)))))
    (p71_17 (n0) (n0)))) := by kernel_rfl
theorem p71_2064_eq (j : Nat) (n0 : Nat) (n1 : Nat) (v6 : Int) (v7 : Int) (v45 : Bool) : p71_2064 (j + 1) n0 n1 v6 v7 v45 =
  (sel (v45)
   (sel (Decidable.decide ((0 : Int) ≤ (4 : Int)))
    (some (UInt8.ofNat (Go.IntKind.u8.wrap (Lk.ibits Go.BinOp.or Go.IntKind.i64 (Go.IntKind.i64.wrap (v6 * (2 : Int) ^ Min.min (Int.toNat (4 : Int)) Go.IntKind.i64.bits)) v7)).toNat, (4 : Int), ()))
    none)
   (p71_17 (n0) (n0))) := by kernel_rfl
theorem p71_17_eq (j : Nat) (n0 : Nat) : p71_17 (j + 1) n0 =
  (some ((0 : UInt8), (0 : Int), ())) := by kernel_rfl
theorem f54_eq (n : Nat) (a0 : List UInt8) (a1 : List UInt8) : f54 (n + 1) a0 a1 =
  (obind (f70 n (a0) (a1)) fun r49 =>
   (some (r49.fst, ()))) := by kernel_rfl
theorem f70_eq (n : Nat) (a0 : List UInt8) (a1 : List UInt8) : f70 (n + 1) a0 a1 =
  (sel (Decidable.decide ((↑a0.length : Int) ≥ (↑a1.length : Int)))
   (sel (Decidable.decide ((0 : Int) ≤ (↑a1.length : Int)))
    (sel (Decidable.decide ((↑a1.length : Int) ≤ (↑a0.length : Int)))
     (some (Lk.ext a0 (0 : Int) (↑a1.length : Int) == a1, ()))
     none)
    none)
   (some (Bool.false, ()))) := by kernel_rfl
theorem f55_eq (n : Nat) (a0 : List UInt8) : f55 (n + 1) a0 =
  (obind (f54 n (a0) ([(34 : UInt8)])) fun r57 =>
   (sel (!r57.fst)
    (some ([], (0 : Int), (61 : Int), ()))
    (p55_5 (n) (n) (a0) ((1 : Int)) ([])))) := by kernel_rfl
theorem p55_5_eq (j : Nat) (n0 : Nat) (v0 : List UInt8) (v3 : Int) (v5 : List (UInt8)) : p55_5 (j + 1) n0 v0 v3 v5 =
  (sel (Decidable.decide (v3 < (↑v0.length : Int)))
   (sel (Decidable.decide ((0 : Int) ≤ v3))
    (sel (Decidable.decide (v3 < (↑v0.length : Int)))
     (sel ((↑(v0.getD v3.toNat (0 : UInt8)).toNat : Int) != (↑(UInt8.toNat (34 : UInt8)) : Int))
      (p55_6 (j) (n0) (j) (v0) (v3) (v5))
      (p55_17 (n0) (n0) (v0) (v3) (v5)))
     none)
    none)
   (p55_17 (n0) (n0) (v0) (v3) (v5))) := by kernel_rfl
theorem p55_6_eq (j : Nat) (n0 : Nat) (n1 : Nat) (v0 : List UInt8) (v3 : Int) (v5 : List (UInt8)) : p55_6 (j + 1) n0 n1 v0 v3 v5 =
  (sel (Decidable.decide ((0 : Int) ≤ v3))
   (sel (Decidable.decide (v3 < (↑v0.length : Int)))
    (sel ((↑(v0.getD v3.toNat (0 : UInt8)).toNat : Int) == (↑(UInt8.toNat (92 : UInt8)) : Int))
     (obind (f71 j (v0) (v3)) fun r415 =>
      (sel (r415.snd.fst == (0 : Int))
       (some ([], v3, (61 : Int), ()))
       (sel (Decidable.decide (v5.length + (1 : Nat) ≤ (1073741824 : Nat)))
        (p55_5 (n1) (n0) (v0) (Go.IntKind.i64.wrap (v3 + r415.snd.fst)) (v5 ++ [r415.fst]))
        none)))
     (sel (Decidable.decide ((0 : Int) ≤ v3))
      (sel (Decidable.decide (v3 ≤ (↑v0.length : Int)))
       (obind (f32 j (Lk.ext v0 v3 (↑v0.length : Int))) fun r677 =>
        (sel (r677.fst == (65533 : Int))
         (sel (r677.snd.fst == (1 : Int))
          (p55_2062 (j) (n0) (n1) (j) (v0) (v3) (v5) (r677.snd.fst) (Bool.true))
          (obind (f34 j (r677.fst)) fun r845 =>
           (p55_2062 (j) (n0) (n1) (j) (v0) (v3) (v5) (r677.snd.fst) (!r845.fst))))
         (obind (f34 j (r677.fst)) fun r924 =>
          (p55_2062 (j) (n0) (n1) (j) (v0) (v3) (v5) (r677.snd.fst) (!r924.fst)))))
       none)
      none))
    none)
   none) := by kernel_rfl
theorem p55_17_eq (j : Nat) (n0 : Nat) (v0 : List UInt8) (v3 : Int) (v5 : List (UInt8)) : p55_17 (j + 1) n0 v0 v3 v5 =
  (sel (v3 == (↑v0.length : Int))
   (some ([], v3, (61 : Int), ()))
   (sel (Decidable.decide (Go.IntKind.i64.wrap (v3 + (1 : Int)) < (↑v0.length : Int)))
    (some ([], Go.IntKind.i64.wrap (v3 + (1 : Int)), (61 : Int), ()))
    (obind (f9 j (v5)) fun r1196 =>
     (sel (!r1196.fst == v0)
      (some ([], (0 : Int), (61 : Int), ()))
      (some (v5, (0 : Int), (0 : Int), ())))))) := by kernel_rfl
theorem p55_2062_eq (j : Nat) (n0 : Nat) (n1 : Nat) (n2 : Nat) (v0 : List UInt8) (v3 : Int) (v5 : List (UInt8)) (v9 : Int) (v60 : Bool) : p55_2062 (j + 1) n0 n1 n2 v0 v3 v5 v9 v60 =
  (sel (v60)
   (some ([], v3, (61 : Int), ()))
   (p55_15 (n2) (n0) (n1) (n2) (v0) (v3) (v5) (v9))) := by kernel_rfl
theorem p55_15_eq (j : Nat) (n0 : Nat) (n1 : Nat) (n2 : Nat) (v0 : List UInt8) (v3 : Int) (v5 : List (UInt8)) (v9 : Int) : p55_15 (j + 1) n0 n1 n2 v0 v3 v5 v9 =
  (sel (Decidable.decide ((0 : Int) ≤ Go.IntKind.i64.wrap (v3 + v9)))
   (sel (Decidable.decide (Go.IntKind.i64.wrap (v3 + v9) ≤ (↑v0.length : Int)))
    (sel (Decidable.decide ((0 : Int) ≤ v3))
     (sel (Decidable.decide (v3 ≤ Go.IntKind.i64.wrap (v3 + v9)))
      (sel (Decidable.decide (v5.length + (Lk.ext v0 v3 (Go.IntKind.i64.wrap (v3 + v9))).length ≤ (1073741824 : Nat)))
       (p55_5 (n1) (n0) (v0) (Go.IntKind.i64.wrap (v3 + v9)) (v5 ++ Lk.ext v0 v3 (Go.IntKind.i64.wrap (v3 + v9))))
       none)
      none)
     none)
    none)
   none) := by kernel_rfl
theorem f37_eq (n : Nat) (a0 : List UInt8) : f37 (n + 1) a0 =
  (obind (f54 n (a0) ([(34 : UInt8)])) fun r57 =>
   (sel (r57.fst)
    (obind (f55 n (a0)) fun r87 =>
     (some (r87.fst, r87.snd.fst, r87.snd.snd.fst, ())))
    (obind (f15 n (a0)) fun r173 =>
     (sel (a0 == [])
      (p37_2053 (n) (n) (a0) (r173.fst) (Bool.true))
      (p37_2053 (n) (n) (a0) (r173.fst) (Decidable.decide (r173.fst ≥ (0 : Int)))))))) := by kernel_rfl
theorem p37_2053_eq (j : Nat) (n0 : Nat) (v0 : List UInt8) (v5 : Int) (v20 : Bool) : p37_2053 (j + 1) n0 v0 v5 v20 =
  (sel (v20)
   (some ([], Lk.imax v5 (0 : Int), (61 : Int), ()))
   (p37_6 (n0) (n0) (v0))) := by kernel_rfl
theorem p37_6_eq (j : Nat) (n0 : Nat) (v0 : List UInt8) : p37_6 (j + 1) n0 v0 =
  (some (v0, (0 : Int), (0 : Int), ())) := by kernel_rfl
theorem f53_eq (n : Nat) (a0 : List UInt8) (a1 : Int) : f53 (n + 1) a0 a1 =
  (p53_2 (n) (n) (a0) (Go.IntKind.i64.wrap (a1 + (1 : Int)))) := by kernel_rfl
theorem p53_2_eq (j : Nat) (n0 : Nat) (v0 : List UInt8) (v6 : Int) : p53_2 (j + 1) n0 v0 v6 =
  (sel (Decidable.decide (v6 < (↑v0.length : Int)))
   (sel (Decidable.decide ((0 : Int) ≤ v6))
    (sel (Decidable.decide (v6 < (↑v0.length : Int)))
     (sel ((↑(v0.getD v6.toNat (0 : UInt8)).toNat : Int) == (↑(UInt8.toNat (92 : UInt8)) : Int))
      (p53_3 (j) (n0) (j) (v0) (Go.IntKind.i64.wrap (v6 + (1 : Int))))
      (sel ((↑(v0.getD v6.toNat (0 : UInt8)).toNat : Int) == (↑(UInt8.toNat (34 : UInt8)) : Int))
       (some (Go.IntKind.i64.wrap (v6 + (1 : Int)), Bool.true, ()))
       (p53_3 (j) (n0) (j) (v0) (v6))))
     none)
    none)
   (some ((0 : Int), Bool.false, ()))) := by kernel_rfl
theorem p53_3_eq (j : Nat) (n0 : Nat) (n1 : Nat) (v0 : List UInt8) (v6 : Int) : p53_3 (j + 1) n0 n1 v0 v6 =
  (p53_2 (n1) (n0) (v0) (Go.IntKind.i64.wrap (v6 + (1 : Int)))) := by kernel_rfl
theorem f36_eq (n : Nat) (a0 : List UInt8) : f36 (n + 1) a0 =
  (p36_4 (n) (n) (a0) ([]) ((-1 : Int)) ((↑a0.length : Int)) ((↑a0.length : Int)) ((0 : Int))) := by kernel_rfl
theorem p36_4_eq (j : Nat) (n0 : Nat) (v0 : List UInt8) (v2 : List (List UInt8)) (v5 : Int) (v6 : Int) (v15 : Int) (v16 : Int) : p36_4 (j + 1) n0 v0 v2 v5 v6 v15 v16 =
  (sel (Decidable.decide (v16 < v15))
   (sel (Decidable.decide ((0 : Int) ≤ v16))
    (sel (Decidable.decide (v16 < (↑v0.length : Int)))
     (sel (Decidable.decide ((↑(v0.getD v16.toNat (0 : UInt8)).toNat : Int) < (↑(UInt8.toNat (32 : UInt8)) : Int)))
      (p36_2055 (j) (n0) (j) (v0) (v2) (v5) (v6) (v16) (v15) (v16) (Bool.true))
      (sel (Decidable.decide ((0 : Int) ≤ v16))
       (sel (Decidable.decide (v16 < (↑v0.length : Int)))
        (p36_2055 (j) (n0) (j) (v0) (v2) (v5) (v6) (v16) (v15) (v16) ((↑(v0.getD v16.toNat (0 : UInt8)).toNat : Int) == (↑(UInt8.toNat (127 : UInt8)) : Int)))
        none)
       none))
     none)
    none)
   (p36_9 (n0) (n0) (v0) (v2) (v5) (v6))) := by kernel_rfl
theorem p36_2055_eq (j : Nat) (n0 : Nat) (n1 : Nat) (v0 : List UInt8) (v2 : List (List UInt8)) (v5 : Int) (v6 : Int) (v7 : Int) (v15 : Int) (v16 : Int) (v28 : Bool) : p36_2055 (j + 1) n0 n1 v0 v2 v5 v6 v7 v15 v16 v28 =
  (sel (v28)
   (p36_9 (n0) (n0) (v0) (v2) (v5) (v7))
   (p36_8 (n1) (n0) (n1) (v0) (v2) (v5) (v6) (v15) (v16))) := by kernel_rfl
theorem p36_9_eq (j : Nat) (n0 : Nat) (v0 : List UInt8) (v2 : List (List UInt8)) (v5 : Int) (v6 : Int) : p36_9 (j + 1) n0 v0 v2 v5 v6 =
  (p36_10 (j) (n0) (j) (v0) (v2) (v5) (v6) ((0 : Int))) := by kernel_rfl
theorem p36_8_eq (j : Nat) (n0 : Nat) (n1 : Nat) (v0 : List UInt8) (v2 : List (List UInt8)) (v5 : Int) (v6 : Int) (v15 : Int) (v16 : Int) : p36_8 (j + 1) n0 n1 v0 v2 v5 v6 v15 v16 =
  (p36_4 (n1) (n0) (v0) (v2) (v5) (v6) (v15) (Go.IntKind.i64.wrap (v16 + (1 : Int)))) := by kernel_rfl
theorem p36_10_eq (j : Nat) (n0 : Nat) (n1 : Nat) (v0 : List UInt8) (v2 : List (List UInt8)) (v5 : Int) (v6 : Int) (v8 : Int) : p36_10 (j + 1) n0 n1 v0 v2 v5 v6 v8 =
  (sel (Decidable.decide (v8 < (↑v0.length : Int)))
   (sel (Decidable.decide ((0 : Int) ≤ v8))
    (sel (Decidable.decide (v8 < (↑v0.length : Int)))
     (sel ((↑(v0.getD v8.toNat (0 : UInt8)).toNat : Int) == (↑(UInt8.toNat (32 : UInt8)) : Int))
      (p36_10 (j) (n0) (n1) (v0) (v2) (v5) (v6) (Go.IntKind.i64.wrap (v8 + (1 : Int))))
      (sel (Decidable.decide ((0 : Int) ≤ v8))
       (sel (Decidable.decide (v8 < (↑v0.length : Int)))
        (sel ((↑(v0.getD v8.toNat (0 : UInt8)).toNat : Int) == (↑(UInt8.toNat (34 : UInt8)) : Int))
         (obind (f53 j (v0) (v8)) fun r654 =>
          (sel (!r654.snd.fst)
           (p36_25 (n1) (n0) (n1) (v0) (v2) (v8) (v6))
           (sel (Decidable.decide (r654.fst < (↑v0.length : Int)))
            (sel (Decidable.decide ((0 : Int) ≤ r654.fst))
             (sel (Decidable.decide (r654.fst < (↑v0.length : Int)))
              (p36_2067 (j) (n0) (n1) (j) (v0) (v2) (v5) (v6) (v8) (r654.fst) ((↑(v0.getD (Int.toNat r654.fst) (0 : UInt8)).toNat : Int) != (↑(UInt8.toNat (32 : UInt8)) : Int)))
              none)
             none)
            (p36_2067 (j) (n0) (n1) (j) (v0) (v2) (v5) (v6) (v8) (r654.fst) (Bool.false)))))
         (p36_21 (j) (n0) (n1) (j) (v0) (v2) (v5) (v6) (v8) (v8)))
        none)
       none))
     none)
    none)
   (p36_25 (n1) (n0) (n1) (v0) (v2) (v5) (v6))) := by kernel_rfl
theorem p36_25_eq (j : Nat) (n0 : Nat) (n1 : Nat) (v0 : List UInt8) (v2 : List (List UInt8)) (v5 : Int) (v6 : Int) : p36_25 (j + 1) n0 n1 v0 v2 v5 v6 =
  (sel (Decidable.decide (v6 < (↑v0.length : Int)))
   (some ([], v6, (61 : Int), ()))
   (sel (Decidable.decide (v5 ≥ (0 : Int)))
    (some ([], v5, (61 : Int), ()))
    (some (v2, (0 : Int), (0 : Int), ())))) := by kernel_rfl
theorem p36_2067_eq (j : Nat) (n0 : Nat) (n1 : Nat) (n2 : Nat) (v0 : List UInt8) (v2 : List (List UInt8)) (v5 : Int) (v6 : Int) (v8 : Int) (v10 : Int) (v64 : Bool) : p36_2067 (j + 1) n0 n1 n2 v0 v2 v5 v6 v8 v10 v64 =
  (sel (v64)
   (some ([], Lk.imin v10 v6, (61 : Int), ()))
   (p36_20 (n2) (n0) (n1) (n2) (v0) (v2) (v5) (v6) (v8) (v10))) := by kernel_rfl
theorem p36_21_eq (j : Nat) (n0 : Nat) (n1 : Nat) (n2 : Nat) (v0 : List UInt8) (v2 : List (List UInt8)) (v5 : Int) (v6 : Int) (v8 : Int) (v9 : Int) : p36_21 (j + 1) n0 n1 n2 v0 v2 v5 v6 v8 v9 =
  (sel (Decidable.decide (v9 < (↑v0.length : Int)))
   (sel (Decidable.decide ((0 : Int) ≤ v9))
    (sel (Decidable.decide (v9 < (↑v0.length : Int)))
     (sel ((↑(v0.getD v9.toNat (0 : UInt8)).toNat : Int) != (↑(UInt8.toNat (32 : UInt8)) : Int))
      (p36_22 (j) (n0) (n1) (n2) (j) (v0) (v2) (v5) (v6) (v8) (v9))
      (p36_23 (n2) (n0) (n1) (n2) (v0) (v2) (v5) (v6) (v8) (v9)))
     none)
    none)
   (p36_23 (n2) (n0) (n1) (n2) (v0) (v2) (v5) (v6) (v8) (v9))) := by kernel_rfl
theorem p36_20_eq (j : Nat) (n0 : Nat) (n1 : Nat) (n2 : Nat) (v0 : List UInt8) (v2 : List (List UInt8)) (v5 : Int) (v6 : Int) (v8 : Int) (v10 : Int) : p36_20 (j + 1) n0 n1 n2 v0 v2 v5 v6 v8 v10 =
  (p36_23 (n2) (n0) (n1) (n2) (v0) (v2) (v5) (v6) (v8) (v10)) := by kernel_rfl
theorem p36_22_eq (j : Nat) (n0 : Nat) (n1 : Nat) (n2 : Nat) (n3 : Nat) (v0 : List UInt8) (v2 : List (List UInt8)) (v5 : Int) (v6 : Int) (v8 : Int) (v9 : Int) : p36_22 (j + 1) n0 n1 n2 n3 v0 v2 v5 v6 v8 v9 =
  (p36_21 (n3) (n0) (n1) (n2) (v0) (v2) (v5) (v6) (v8) (Go.IntKind.i64.wrap (v9 + (1 : Int)))) := by kernel_rfl
theorem p36_23_eq (j : Nat) (n0 : Nat) (n1 : Nat) (n2 : Nat) (v0 : List UInt8) (v2 : List (List UInt8)) (v5 : Int) (v6 : Int) (v8 : Int) (v9 : Int) : p36_23 (j + 1) n0 n1 n2 v0 v2 v5 v6 v8 v9 =
  (sel (Decidable.decide ((0 : Int) ≤ v9))
   (sel (Decidable.decide (v9 ≤ (↑v0.length : Int)))
    (sel (Decidable.decide ((0 : Int) ≤ v8))
     (sel (Decidable.decide (v8 ≤ v9))
      (sel (Decidable.decide (v2.length + (1 : Nat) ≤ (1073741824 : Nat)))
       (p36_10 (n2) (n0) (n1) (v0) (v2 ++ [Lk.ext v0 v8 v9]) (v5) (v6) (v9))
       none)
      none)
     none)
    none)
   none) := by kernel_rfl
theorem f73_eq (n : Nat) (a0 : List UInt8) : f73 (n + 1) a0 =
  (p73_3 (n) (n) (a0) ((0 : Int)) (a0) ((0 : Nat))) := by kernel_rfl
theorem p73_3_eq (j : Nat) (n0 : Nat) (v0 : List UInt8) (v4 : Int) (v8 : List UInt8) (p8 : Nat) : p73_3 (j + 1) n0 v0 v4 v8 p8 =
  (sel (Decidable.decide (p8 < v8.length))
   (sel (Decidable.decide ((↑(Go.Utf8.decode { data := v8.toArray } p8).fst : Int) < (48 : Int)))
    (p73_2054 (j) (n0) (j) (v0) (v4) ((↑(Go.Utf8.decode { data := v8.toArray } p8).fst : Int)) (v8) (p8 + (Go.Utf8.decode { data := v8.toArray } p8).snd) (Bool.true))
    (sel (Decidable.decide ((↑(Go.Utf8.decode { data := v8.toArray } p8).fst : Int) > (57 : Int)))
     (p73_2054 (j) (n0) (j) (v0) (v4) ((↑(Go.Utf8.decode { data := v8.toArray } p8).fst : Int)) (v8) (p8 + (Go.Utf8.decode { data := v8.toArray } p8).snd) (Bool.true))
     (sel (Decidable.decide ((↑p8 : Int) > (0 : Int)))
      (p73_2054 (j) (n0) (j) (v0) (v4) ((↑(Go.Utf8.decode { data := v8.toArray } p8).fst : Int)) (v8) (p8 + (Go.Utf8.decode { data := v8.toArray } p8).snd) (v4 == (0 : Int)))
      (p73_2054 (j) (n0) (j) (v0) (v4) ((↑(Go.Utf8.decode { data := v8.toArray } p8).fst : Int)) (v8) (p8 + (Go.Utf8.decode { data := v8.toArray } p8).snd) (Bool.false)))))
   (some (v4, !v0 == [], ()))) := by kernel_rfl
theorem p73_2054_eq (j : Nat) (n0 : Nat) (n1 : Nat) (v0 : List UInt8) (v4 : Int) (v6 : Int) (v8 : List UInt8) (p8 : Nat) (v26 : Bool) : p73_2054 (j + 1) n0 n1 v0 v4 v6 v8 p8 v26 =
  (sel (v26)
   (some ((0 : Int), Bool.false, ()))
   (p73_7 (n1) (n0) (n1) (v0) (v4) (v6) (v8) (p8))) := by kernel_rfl
theorem p73_7_eq (j : Nat) (n0 : Nat) (n1 : Nat) (v0 : List UInt8) (v4 : Int) (v6 : Int) (v8 : List UInt8) (p8 : Nat) : p73_7 (j + 1) n0 n1 v0 v4 v6 v8 p8 =
  (sel (Decidable.decide (Go.IntKind.i64.wrap (Go.IntKind.i64.wrap (v4 * (10 : Int)) + Go.IntKind.i64.wrap (Go.IntKind.i32.wrap (v6 - (48 : Int)))) > (268435456 : Int)))
   (some ((0 : Int), Bool.false, ()))
   (p73_3 (n1) (n0) (v0) (Go.IntKind.i64.wrap (Go.IntKind.i64.wrap (v4 * (10 : Int)) + Go.IntKind.i64.wrap (Go.IntKind.i32.wrap (v6 - (48 : Int))))) (v8) (p8))) := by kernel_rfl
theorem f57_eq (n : Nat) (a0 : List UInt8) : f57 (n + 1) a0 =
  (obind (f73 n (a0)) fun r42 =>
   (some (r42.snd.fst, ()))) := by kernel_rfl
theorem f59_eq (n : Nat) (a0 : List (List UInt8)) : f59 (n + 1) a0 =
  (p59_2 (n) (n) (a0) ((↑a0.length : Int)) ((0 : Int))) := by kernel_rfl
theorem p59_2_eq (j : Nat) (n0 : Nat) (v5 : List (List UInt8)) (v6 : Int) (v7 : Int) : p59_2 (j + 1) n0 v5 v6 v7 =
  (sel (Decidable.decide (v7 < v6))
   (sel (Decidable.decide ((0 : Int) ≤ v7))
    (sel (Decidable.decide (v7 < (↑v5.length : Int)))
     (obind (f57 j (v5.getD v7.toNat [])) fun r136 =>
      (sel (!r136.fst)
       (some (Bool.false, ()))
       (p59_2 (j) (n0) (v5) (v6) (Go.IntKind.i64.wrap (v7 + (1 : Int))))))
     none)
    none)
   (some (Bool.true, ()))) := by kernel_rfl
theorem f74_eq (n : Nat) (a0 : List (List UInt8)) : f74 (n + 1) a0 =
  (p74_2 (n) (n) (a0) ([])) := by kernel_rfl
theorem p74_2_eq (j : Nat) (n0 : Nat) (v0 : List (List UInt8)) (v4 : List ((Int × (List UInt8 × (List UInt8 × Unit))))) : p74_2 (j + 1) n0 v0 v4 =
  (sel (Decidable.decide ((↑v0.length : Int) > (0 : Int)))
   (sel (Bool.true)
    (sel (Decidable.decide ((0 : Int) ≤ (0 : Int)))
     (sel (Decidable.decide ((0 : Int) < (↑v0.length : Int)))
      (sel (v0.getD (Int.toNat (0 : Int)) [] == [(112 : UInt8), (117 : UInt8), (116 : UInt8)])
       (sel (Bool.true)
        (p74_12 (j) (n0) (j) (v0) (v4) (Option.some ((1 : Int), [], [], ())) ((3 : Int)))
        none)
       (sel (v0.getD (Int.toNat (0 : Int)) [] == [(114 : UInt8), (97 : UInt8), (110 : UInt8), (103 : UInt8), (101 : UInt8)])
        (sel (Bool.true)
         (p74_12 (j) (n0) (j) (v0) (v4) (Option.some ((2 : Int), [], [], ())) ((3 : Int)))
         none)
        (sel (v0.getD (Int.toNat (0 : Int)) [] == [(100 : UInt8), (101 : UInt8), (108 : UInt8)])
         (sel (Bool.true)
          (p74_12 (j) (n0) (j) (v0) (v4) (Option.some ((0 : Int), [], [], ())) ((2 : Int)))
          none)
         (some ([], Bool.false, ())))))
      none)
     none)
    none)
   (some (v4, Bool.true, ()))) := by kernel_rfl
theorem p74_12_eq (j : Nat) (n0 : Nat) (n1 : Nat) (v0 : List (List UInt8)) (v4 : List ((Int × (List UInt8 × (List UInt8 × Unit))))) (v5 : Option ((Int × (List UInt8 × (List UInt8 × Unit))))) (v6 : Int) : p74_12 (j + 1) n0 n1 v0 v4 v5 v6 =
  (sel (Decidable.decide ((↑v0.length : Int) < v6))
   (some ([], Bool.false, ()))
   (sel (Decidable.decide ((0 : Int) ≤ (1 : Int)))
    (sel (Decidable.decide ((1 : Int) < (↑v0.length : Int)))
     (sel (v5.isSome)
      (sel (v6 == (3 : Int))
       (sel (Decidable.decide ((0 : Int) ≤ (2 : Int)))
        (sel (Decidable.decide ((2 : Int) < (↑v0.length : Int)))
         (sel (Bool.true)
          (p74_17 (j) (n0) (n1) (j) (v0) (v4) (Option.some ((v5.getD ((0 : Int), [], [], ())).fst, v0.getD (Int.toNat (1 : Int)) [], v0.getD (Int.toNat (2 : Int)) [], (v5.getD ((0 : Int), [], [], ())).snd.snd.snd)) (v6))
          none)
         none)
        none)
       (p74_17 (j) (n0) (n1) (j) (v0) (v4) (Option.some ((v5.getD ((0 : Int), [], [], ())).fst, v0.getD (Int.toNat (1 : Int)) [], (v5.getD ((0 : Int), [], [], ())).snd.snd)) (v6)))
      none)
     none)
    none)) := by kernel_rfl
theorem p74_17_eq (j : Nat) (n0 : Nat) (n1 : Nat) (n2 : Nat) (v0 : List (List UInt8)) (v4 : List ((Int × (List UInt8 × (List UInt8 × Unit))))) (v5 : Option ((Int × (List UInt8 × (List UInt8 × Unit))))) (v6 : Int) : p74_17 (j + 1) n0 n1 n2 v0 v4 v5 v6 =
  (sel (v5.isSome)
   (sel (Decidable.decide ((0 : Int) ≤ v6))
    (sel (Decidable.decide (v6 ≤ (↑v0.length : Int)))
     (sel (Decidable.decide (v4.length + (1 : Nat) ≤ (1073741824 : Nat)))
      (p74_2 (n1) (n0) (Lk.ext v0 v6 (↑v0.length : Int)) (v4 ++ [v5.getD ((0 : Int), [], [], ())]))
      none)
     none)
    none)
   none) := by kernel_rfl
theorem f58_eq (n : Nat) (a0 : List (List UInt8)) : f58 (n + 1) a0 =
  (obind (f74 n (a0)) fun r42 =>
   (some (r42.snd.fst, ()))) := by kernel_rfl
theorem f75_eq (n : Nat) (a0 : List UInt8) : f75 (n + 1) a0 =
  (obind (f73 n (a0)) fun r42 =>
   (sel (r42.snd.fst)
    (sel (Decidable.decide (r42.fst ≥ (1 : Int)))
     (some (Decidable.decide (r42.fst ≤ (65536 : Int)), ()))
     (some (Bool.false, ())))
    (some (Bool.false, ())))) := by kernel_rfl
theorem f76_eq (n : Nat) (a0 : List UInt8) : f76 (n + 1) a0 =
  (sel (a0 == [(111 : UInt8), (112 : UInt8), (101 : UInt8), (110 : UInt8)])
   (some ((-1 : Int), Bool.true, ()))
   (sel (a0 == [(102 : UInt8), (108 : UInt8), (117 : UInt8), (115 : UInt8), (104 : UInt8)])
    (some ((-2 : Int), Bool.true, ()))
    (sel (a0 == [(99 : UInt8), (111 : UInt8), (109 : UInt8), (112 : UInt8), (97 : UInt8), (99 : UInt8), (116 : UInt8)])
     (some ((-3 : Int), Bool.true, ()))
     (sel (a0 == [(115 : UInt8), (119 : UInt8), (101 : UInt8), (101 : UInt8), (112 : UInt8)])
      (some ((-4 : Int), Bool.true, ()))
      (sel (a0 == [(114 : UInt8), (111 : UInt8), (108 : UInt8), (108 : UInt8)])
       (some ((-5 : Int), Bool.true, ()))
       (obind (f73 n (a0)) fun r398 =>
        (some (r398.fst, r398.snd.fst, ())))))))) := by kernel_rfl
theorem f60_eq (n : Nat) (a0 : List UInt8) : f60 (n + 1) a0 =
  (sel (a0 == [(100 : UInt8), (105 : UInt8), (115 : UInt8), (107 : UInt8)])
   (p60_2054 (n) (n) (a0) (a0 == [(100 : UInt8), (105 : UInt8), (115 : UInt8), (107 : UInt8)]))
   (sel (a0 == [(115 : UInt8), (110 : UInt8), (97 : UInt8), (112 : UInt8)])
    (p60_2054 (n) (n) (a0) (a0 == [(115 : UInt8), (110 : UInt8), (97 : UInt8), (112 : UInt8)]))
    (sel (a0 == [(116 : UInt8), (97 : UInt8), (107 : UInt8), (101 : UInt8)])
     (p60_2054 (n) (n) (a0) (a0 == [(116 : UInt8), (97 : UInt8), (107 : UInt8), (101 : UInt8)]))
     (p60_2054 (n) (n) (a0) (a0 == [(113 : UInt8), (117 : UInt8), (111 : UInt8), (116 : UInt8), (97 : UInt8)]))))) := by kernel_rfl
theorem p60_2054_eq (j : Nat) (n0 : Nat) (v3 : List UInt8) (v4 : Bool) : p60_2054 (j + 1) n0 v3 v4 =
  (sel (v4)
   (some ([[(110 : UInt8)]], ()))
   (sel (v3 == [(111 : UInt8), (112 : UInt8), (101 : UInt8), (110 : UInt8)])
    (p60_2058 (j) (n0) (j) (v3) (v3 == [(111 : UInt8), (112 : UInt8), (101 : UInt8), (110 : UInt8)]))
    (sel (v3 == [(108 : UInt8), (111 : UInt8), (111 : UInt8), (107 : UInt8)])
     (p60_2058 (j) (n0) (j) (v3) (v3 == [(108 : UInt8), (111 : UInt8), (111 : UInt8), (107 : UInt8)]))
     (p60_2058 (j) (n0) (j) (v3) (v3 == [(108 : UInt8), (105 : UInt8), (115 : UInt8), (116 : UInt8)]))))) := by kernel_rfl
theorem p60_2058_eq (j : Nat) (n0 : Nat) (n1 : Nat) (v3 : List UInt8) (v10 : Bool) : p60_2058 (j + 1) n0 n1 v3 v10 =
  (sel (v10)
   (some ([[]], ()))
   (sel (v3 == [(103 : UInt8), (101 : UInt8), (116 : UInt8)])
    (some ([[(110 : UInt8), (119 : UInt8)], [(110 : UInt8), (119 : UInt8), (110 : UInt8)]], ()))
    (sel (v3 == [(102 : UInt8), (114 : UInt8), (101 : UInt8), (101 : UInt8)])
     (p60_2068 (j) (n0) (n1) (j) (v3) (v3 == [(102 : UInt8), (114 : UInt8), (101 : UInt8), (101 : UInt8)]))
     (sel (v3 == [(102 : UInt8), (105 : UInt8), (114 : UInt8), (115 : UInt8), (116 : UInt8)])
      (p60_2068 (j) (n0) (n1) (j) (v3) (v3 == [(102 : UInt8), (105 : UInt8), (114 : UInt8), (115 : UInt8), (116 : UInt8)]))
      (sel (v3 == [(108 : UInt8), (97 : UInt8), (115 : UInt8), (116 : UInt8)])
       (p60_2068 (j) (n0) (n1) (j) (v3) (v3 == [(108 : UInt8), (97 : UInt8), (115 : UInt8), (116 : UInt8)]))
       (sel (v3 == [(110 : UInt8), (101 : UInt8), (120 : UInt8), (116 : UInt8)])
        (p60_2068 (j) (n0) (n1) (j) (v3) (v3 == [(110 : UInt8), (101 : UInt8), (120 : UInt8), (116 : UInt8)]))
        (sel (v3 == [(112 : UInt8), (114 : UInt8), (101 : UInt8), (118 : UInt8)])
         (p60_2068 (j) (n0) (n1) (j) (v3) (v3 == [(112 : UInt8), (114 : UInt8), (101 : UInt8), (118 : UInt8)]))
         (sel (v3 == [(99 : UInt8), (108 : UInt8), (111 : UInt8), (115 : UInt8), (101 : UInt8)])
          (p60_2068 (j) (n0) (n1) (j) (v3) (v3 == [(99 : UInt8), (108 : UInt8), (111 : UInt8), (115 : UInt8), (101 : UInt8)]))
          (p60_2068 (j) (n0) (n1) (j) (v3) (v3 == [(114 : UInt8), (101 : UInt8), (102 : UInt8), (117 : UInt8), (115 : UInt8), (101 : UInt8)])))))))))) := by kernel_rfl
theorem p60_2068_eq (j : Nat) (n0 : Nat) (n1 : Nat) (n2 : Nat) (v3 : List UInt8) (v18 : Bool) : p60_2068 (j + 1) n0 n1 n2 v3 v18 =
  (sel (v18)
   (some ([[(110 : UInt8), (110 : UInt8)]], ()))
   (sel (v3 == [(99 : UInt8), (117 : UInt8), (114 : UInt8), (115 : UInt8), (111 : UInt8), (114 : UInt8)])
    (some ([[(110 : UInt8), (110 : UInt8), (119 : UInt8), (119 : UInt8)]], ()))
    (sel (v3 == [(115 : UInt8), (101 : UInt8), (101 : UInt8), (107 : UInt8)])
     (some ([[(110 : UInt8), (110 : UInt8), (119 : UInt8)]], ()))
     (sel (v3 == [(115 : UInt8), (116 : UInt8), (101 : UInt8), (112 : UInt8)])
      (some ([[(116 : UInt8)], [(116 : UInt8), (99 : UInt8)]], ()))
      (sel (v3 == [(114 : UInt8), (117 : UInt8), (110 : UInt8)])
       (some ([[(99 : UInt8)]], ()))
       (p60_29 (n0) (n0))))))) := by kernel_rfl
theorem p60_29_eq (j : Nat) (n0 : Nat) : p60_29 (j + 1) n0 =
  (some ([], ())) := by kernel_rfl
theorem f61_eq (n : Nat) (a0 : List (List UInt8)) (a1 : List UInt8) : f61 (n + 1) a0 a1 =
  (sel ((↑a0.length : Int) != (↑a1.length : Int))
   (some (Bool.false, ()))
   (p61_4 (n) (n) (a1) (a0) ((↑a0.length : Int)) ((0 : Int)))) := by kernel_rfl
theorem p61_4_eq (j : Nat) (n0 : Nat) (v1 : List UInt8) (v13 : List (List UInt8)) (v14 : Int) (v15 : Int) : p61_4 (j + 1) n0 v1 v13 v14 v15 =
  (sel (Decidable.decide (v15 < v14))
   (sel (Decidable.decide ((0 : Int) ≤ v15))
    (sel (Decidable.decide (v15 < (↑v13.length : Int)))
     (sel (Decidable.decide ((0 : Int) ≤ v15))
      (sel (Decidable.decide (v15 < (↑v1.length : Int)))
       (sel ((↑(v1.getD v15.toNat (0 : UInt8)).toNat : Int) == (↑(UInt8.toNat (110 : UInt8)) : Int))
        (obind (f57 j (v13.getD v15.toNat [])) fun r306 =>
         (p61_14 (j) (n0) (j) (v1) (r306.fst) (v13) (v14) (v15)))
        (sel ((↑(v1.getD v15.toNat (0 : UInt8)).toNat : Int) == (↑(UInt8.toNat (99 : UInt8)) : Int))
         (obind (f75 j (v13.getD v15.toNat [])) fun r368 =>
          (p61_14 (j) (n0) (j) (v1) (r368.fst) (v13) (v14) (v15)))
         (sel ((↑(v1.getD v15.toNat (0 : UInt8)).toNat : Int) == (↑(UInt8.toNat (116 : UInt8)) : Int))
          (obind (f76 j (v13.getD v15.toNat [])) fun r430 =>
           (p61_14 (j) (n0) (j) (v1) (r430.snd.fst) (v13) (v14) (v15)))
          (p61_14 (j) (n0) (j) (v1) (Bool.true) (v13) (v14) (v15)))))
       none)
      none)
     none)
    none)
   (some (Bool.true, ()))) := by kernel_rfl
theorem p61_14_eq (j : Nat) (n0 : Nat) (n1 : Nat) (v1 : List UInt8) (v7 : Bool) (v13 : List (List UInt8)) (v14 : Int) (v15 : Int) : p61_14 (j + 1) n0 n1 v1 v7 v13 v14 v15 =
  (sel (!v7)
   (some (Bool.false, ()))
   (p61_16 (n1) (n0) (n1) (v1) (v13) (v14) (v15))) := by kernel_rfl
theorem p61_16_eq (j : Nat) (n0 : Nat) (n1 : Nat) (v1 : List UInt8) (v13 : List (List UInt8)) (v14 : Int) (v15 : Int) : p61_16 (j + 1) n0 n1 v1 v13 v14 v15 =
  (p61_4 (n1) (n0) (v1) (v13) (v14) (Go.IntKind.i64.wrap (v15 + (1 : Int)))) := by kernel_rfl
theorem f38_eq (n : Nat) (a0 : List UInt8) (a1 : List (List UInt8)) : f38 (n + 1) a0 a1 =
  (sel (a0 == [(115 : UInt8), (101 : UInt8), (116 : UInt8)])
   (obind (f56 n (a1)) fun r87 =>
    (some (r87.fst, ())))
   (sel (a0 == [(98 : UInt8), (97 : UInt8), (116 : UInt8), (99 : UInt8), (104 : UInt8)])
    (sel (Decidable.decide ((↑a1.length : Int) ≥ (2 : Int)))
     (sel (Decidable.decide ((0 : Int) ≤ (0 : Int)))
      (sel (Decidable.decide ((0 : Int) < (↑a1.length : Int)))
       (obind (f57 n (a1.getD (Int.toNat (0 : Int)) [])) fun r228 =>
        (sel (r228.fst)
         (sel (Decidable.decide ((0 : Int) ≤ (1 : Int)))
          (sel (Decidable.decide ((1 : Int) < (↑a1.length : Int)))
           (sel (a1.getD (Int.toNat (1 : Int)) [] == [(115 : UInt8), (121 : UInt8), (110 : UInt8), (99 : UInt8)])
            (sel (Decidable.decide ((0 : Int) ≤ (2 : Int)))
             (sel (Decidable.decide ((2 : Int) ≤ (↑a1.length : Int)))
              (obind (f58 n (Lk.ext a1 (2 : Int) (↑a1.length : Int))) fun r416 =>
               (some (r416.fst, ())))
              none)
             none)
            (sel (Decidable.decide ((0 : Int) ≤ (1 : Int)))
             (sel (Decidable.decide ((1 : Int) < (↑a1.length : Int)))
              (sel (a1.getD (Int.toNat (1 : Int)) [] == [(102 : UInt8), (97 : UInt8), (115 : UInt8), (116 : UInt8)])
               (sel (Decidable.decide ((0 : Int) ≤ (2 : Int)))
                (sel (Decidable.decide ((2 : Int) ≤ (↑a1.length : Int)))
                 (obind (f58 n (Lk.ext a1 (2 : Int) (↑a1.length : Int))) fun r561 =>
                  (some (r561.fst, ())))
                 none)
                none)
               (some (Bool.false, ())))
              none)
             none))
           none)
          none)
         (some (Bool.false, ()))))
       none)
      none)
     (some (Bool.false, ())))
    (sel (a0 == [(99 : UInt8), (114 : UInt8), (97 : UInt8), (115 : UInt8), (104 : UInt8)])
     (obind (f59 n (a1)) fun r1055 =>
      (some (r1055.fst, ())))
     (obind (f60 n (a0)) fun r1110 =>
      (p38_9 (n) (n) (a1) (r1110.fst) ((↑(List.length r1110.fst) : Int)) ((0 : Int))))))) := by kernel_rfl
theorem p38_9_eq (j : Nat) (n0 : Nat) (v1 : List (List UInt8)) (v45 : List (List UInt8)) (v46 : Int) (v47 : Int) : p38_9 (j + 1) n0 v1 v45 v46 v47 =
  (sel (Decidable.decide (v47 < v46))
   (sel (Decidable.decide ((0 : Int) ≤ v47))
    (sel (Decidable.decide (v47 < (↑v45.length : Int)))
     (obind (f61 j (v1) (v45.getD v47.toNat [])) fun r1220 =>
      (sel (r1220.fst)
       (some (Bool.true, ()))
       (p38_9 (j) (n0) (v1) (v45) (v46) (Go.IntKind.i64.wrap (v47 + (1 : Int))))))
     none)
    none)
   (some (Bool.false, ()))) := by kernel_rfl
theorem f21_eq (n : Nat) (a0 : List UInt8) : f21 (n + 1) a0 =
  (obind (f36 n (a0)) fun r56 =>
   (sel (r56.snd.snd.fst != (0 : Int))
    (sel (Bool.true)
     (sel (Bool.true)
      (some ((Option.some ([], [], ())).getD ([], [], ()), Bool.false, Bool.true, ()))
      none)
     none)
    (sel ((↑(List.length r56.fst) : Int) == (0 : Int))
     (p21_2053 (n) (n) (Option.some ([], [], ())) (r56.fst) (Bool.true))
     (sel (Decidable.decide ((0 : Int) ≤ (0 : Int)))
      (sel (Decidable.decide ((0 : Int) < (↑(List.length r56.fst) : Int)))
       (sel (Decidable.decide ((0 : Int) ≤ (0 : Int)))
        (sel (Decidable.decide ((0 : Int) < (↑(List.length (List.getD r56.fst (Int.toNat (0 : Int)) [])) : Int)))
         (p21_2053 (n) (n) (Option.some ([], [], ())) (r56.fst) ((↑(List.getD (List.getD r56.fst (Int.toNat (0 : Int)) []) (Int.toNat (0 : Int)) (0 : UInt8)).toNat : Int) == (↑(UInt8.toNat (35 : UInt8)) : Int)))
         none)
        none)
       none)
      none)))) := by kernel_rfl
theorem p21_2053_eq (j : Nat) (n0 : Nat) (v2 : Option ((List UInt8 × (List (List UInt8) × Unit)))) (v5 : List (List UInt8)) (v31 : Bool) : p21_2053 (j + 1) n0 v2 v5 v31 =
  (sel (v31)
   (sel (v2.isSome)
    (sel (Bool.true)
     (some ((Option.some ([], [], ())).getD ([], [], ()), Bool.true, Bool.false, ()))
     none)
    none)
   (p21_6 (n0) (n0) (v2) (v5) (v31))) := by kernel_rfl
theorem p21_6_eq (j : Nat) (n0 : Nat) (v2 : Option ((List UInt8 × (List (List UInt8) × Unit)))) (v5 : List (List UInt8)) (v31 : Bool) : p21_6 (j + 1) n0 v2 v5 v31 =
  (p21_7 (j) (n0) (j) (v2) (v5) (v31) ((↑v5.length : Int)) ((0 : Int))) := by kernel_rfl
theorem p21_7_eq (j : Nat) (n0 : Nat) (n1 : Nat) (v2 : Option ((List UInt8 × (List (List UInt8) × Unit)))) (v5 : List (List UInt8)) (v31 : Bool) (v34 : Int) (v35 : Int) : p21_7 (j + 1) n0 n1 v2 v5 v31 v34 v35 =
  (sel (Decidable.decide (v35 < v34))
   (sel (Decidable.decide ((0 : Int) ≤ v35))
    (sel (Decidable.decide (v35 < (↑v5.length : Int)))
     (obind (f37 j (v5.getD v35.toNat [])) fun r595 =>
      (sel (Decidable.decide ((0 : Int) ≤ v35))
       (sel (Decidable.decide (v35 < (↑v5.length : Int)))
        (sel (r595.snd.snd.fst != (0 : Int))
         (sel (v2.isSome)
          (sel (Bool.true)
           (some ((Option.some ([], [], ())).getD ([], [], ()), Bool.false, Bool.true, ()))
           none)
          none)
         (p21_7 (j) (n0) (n1) (v2) (v5.set v35.toNat r595.fst) (v31) (v34) (Go.IntKind.i64.wrap (v35 + (1 : Int)))))
        none)
       none))
     none)
    none)
   (sel (Decidable.decide ((0 : Int) ≤ (0 : Int)))
    (sel (Decidable.decide ((0 : Int) < (↑v5.length : Int)))
     (sel (Decidable.decide ((0 : Int) ≤ (1 : Int)))
      (sel (Decidable.decide ((1 : Int) ≤ (↑v5.length : Int)))
       (obind (f38 n1 (v5.getD (Int.toNat (0 : Int)) []) (Lk.ext v5 (1 : Int) (↑v5.length : Int))) fun r858 =>
        (sel (!r858.fst)
         (sel (v2.isSome)
          (sel (Bool.true)
           (some ((Option.some ([], [], ())).getD ([], [], ()), Bool.false, Bool.true, ()))
           none)
          none)
         (sel (Decidable.decide ((0 : Int) ≤ (0 : Int)))
          (sel (Decidable.decide ((0 : Int) < (↑v5.length : Int)))
           (sel (Decidable.decide ((0 : Int) ≤ (1 : Int)))
            (sel (Decidable.decide ((1 : Int) ≤ (↑v5.length : Int)))
             (sel (v2.isSome)
              (sel (Bool.true)
               (some ((Option.some (v5.getD (Int.toNat (0 : Int)) [], Lk.ext v5 (1 : Int) (↑v5.length : Int), ())).getD ([], [], ()), Bool.false, Bool.false, ()))
               none)
              none)
             none)
            none)
           none)
          none)))
       none)
      none)
     none)
    none)) := by kernel_rfl
theorem f10_eq (n : Nat) (a0 : List UInt8) : f10 (n + 1) a0 =
  (sel (Decidable.decide ((↑a0.length : Int) > (1048576 : Int)))
   (some ([], (0 : Int), (3 : Int), ()))
   (obind (f20 n (a0) ([(10 : UInt8)])) fun r158 =>
    (p10_5 (n) (n) ([]) (r158.fst) ((↑(List.length r158.fst) : Int)) ((0 : Int))))) := by kernel_rfl
theorem p10_5_eq (j : Nat) (n0 : Nat) (v5 : List (((List UInt8 × (List (List UInt8) × Unit)) × (Int × Unit)))) (v16 : List (List UInt8)) (v17 : Int) (v18 : Int) : p10_5 (j + 1) n0 v5 v16 v17 v18 =
  (sel (Decidable.decide (v18 < v17))
   (sel (Decidable.decide ((0 : Int) ≤ v18))
    (sel (Decidable.decide (v18 < (↑v16.length : Int)))
     (obind (f21 j (v16.getD v18.toNat [])) fun r275 =>
      (sel (Bool.true)
       (sel (r275.snd.snd.fst)
        (some ([], v18, (270 : Int), ()))
        (sel (!r275.snd.fst)
         (sel ((Option.some r275.fst).isSome)
          (sel (Decidable.decide (v5.length + (1 : Nat) ≤ (1073741824 : Nat)))
           (p10_13 (j) (n0) (j) (v5 ++ [((Option.some r275.fst).getD ([], [], ()), v18, ())]) (v16) (v17) (v18))
           none)
          none)
         (p10_13 (j) (n0) (j) (v5) (v16) (v17) (v18))))
       none))
     none)
    none)
   (some (v5, (0 : Int), (0 : Int), ()))) := by kernel_rfl
theorem p10_13_eq (j : Nat) (n0 : Nat) (n1 : Nat) (v5 : List (((List UInt8 × (List (List UInt8) × Unit)) × (Int × Unit)))) (v16 : List (List UInt8)) (v17 : Int) (v18 : Int) : p10_13 (j + 1) n0 n1 v5 v16 v17 v18 =
  (p10_5 (n1) (n0) (v5) (v16) (v17) (Go.IntKind.i64.wrap (v18 + (1 : Int)))) := by kernel_rfl
theorem f8_eq (n : Nat) (a0 : List UInt8) : f8 (n + 1) a0 =
  (sel (!a0 == [])
   (obind (f15 n (a0)) fun r76 =>
    (p8_2050 (n) (n) (a0) (Decidable.decide (r76.fst < (0 : Int)))))
   (p8_2050 (n) (n) (a0) (Bool.false))) := by kernel_rfl
theorem p8_2050_eq (j : Nat) (n0 : Nat) (v0 : List UInt8) (v9 : Bool) : p8_2050 (j + 1) n0 v0 v9 =
  (sel (v9)
   (some (v0, ()))
   (p8_3 (n0) (n0) (v0))) := by kernel_rfl
theorem p8_3_eq (j : Nat) (n0 : Nat) (v0 : List UInt8) : p8_3 (j + 1) n0 v0 =
  (obind (f9 j (v0)) fun r205 =>
   (some (r205.fst, ()))) := by kernel_rfl
end ScG

namespace ScG
open Go Lk
set_option linter.unusedVariables false
@[irreducible] noncomputable def f7 (n : Nat)  : Option (Bool × Unit) := F G n 7 (())
@[irreducible] noncomputable def f11 (n : Nat) (a0 : List UInt8) : Option (List (List UInt8) × Unit) := F G n 11 (a0, ())
@[irreducible] noncomputable def p11_4 (j : Nat) (n0 : Nat) (v0 : List UInt8) (v3 : List (List UInt8)) (v4 : Int) (v5 : Int) : Option (List (List UInt8) × Unit) := piece G 11 [.r, .r, .r, .l, .r, .b] j [n0] (skel 31 0 [(0, .av ⟨.s, .r, v0⟩), (3, .av ⟨(.l .s), (.o .r), v3⟩), (4, .av ⟨(.i .i64), .r, v4⟩), (5, .av ⟨(.i .i64), .r, v5⟩)])
@[irreducible] noncomputable def p11_5 (j : Nat) (n0 : Nat) (n1 : Nat) (v0 : List UInt8) (v3 : List (List UInt8)) (v4 : Int) (v5 : Int) : Option (List (List UInt8) × Unit) := piece G 11 [.r, .r, .r, .l, .r, .b, .o, .r, .r] j [n0, n1] (skel 31 0 [(0, .av ⟨.s, .r, v0⟩), (3, .av ⟨(.l .s), (.o .r), v3⟩), (4, .av ⟨(.i .i64), .r, v4⟩), (5, .av ⟨(.i .i64), .r, v5⟩)])
@[irreducible] noncomputable def f24 (n : Nat) (a0 : List UInt8) : Option (Int × Unit) := F G n 24 (a0, ())
@[irreducible] noncomputable def p24_2 (j : Nat) (n0 : Nat) (v0 : List UInt8) (v3 : Int) : Option (Int × Unit) := piece G 24 [.r, .l, .r, .b] j [n0] (skel 44 0 [(0, .av ⟨.s, .r, v0⟩), (3, .av ⟨(.i .i64), .r, v3⟩)])
@[irreducible] noncomputable def p24_2054 (j : Nat) (n0 : Nat) (n1 : Nat) (v0 : List UInt8) (v3 : Int) (v39 : Bool) : Option (Int × Unit) := piece G 24 [.r, .l, .r, .b, .o, .r, .l, .b, .r, .r] j [n0, n1] (skel 44 0 [(0, .av ⟨.s, .r, v0⟩), (3, .av ⟨(.i .i64), .r, v3⟩), (39, .av ⟨.b, .r, v39⟩)])
@[irreducible] noncomputable def p24_3 (j : Nat) (n0 : Nat) (n1 : Nat) (v0 : List UInt8) (v3 : Int) : Option (Int × Unit) := piece G 24 [.r, .l, .r, .b, .o, .r, .r] j [n0, n1] (skel 44 0 [(0, .av ⟨.s, .r, v0⟩), (3, .av ⟨(.i .i64), .r, v3⟩)])
@[irreducible] noncomputable def f46 (n : Nat) (a0 : Int) : Option (Bool × Unit) := F G n 46 (a0, ())
@[irreducible] noncomputable def f77 (n : Nat) (a0 : UInt8) : Option (List UInt8 × Unit) := F G n 77 (a0, ())
@[irreducible] noncomputable def f66 (n : Nat) (a0 : UInt8) : Option (Int × Unit) := F G n 66 (a0, ())
@[irreducible] noncomputable def p66_2050 (j : Nat) (n0 : Nat) (v0 : UInt8) (v3 : Bool) : Option (Int × Unit) := piece G 66 [.r, .l, .b, .r] j [n0] (skel 24 0 [(0, .av ⟨.by, .r, v0⟩), (3, .av ⟨.b, .r, v3⟩)])
@[irreducible] noncomputable def p66_2052 (j : Nat) (n0 : Nat) (n1 : Nat) (v0 : UInt8) (v13 : Bool) : Option (Int × Unit) := piece G 66 [.r, .l, .b, .r, .f, .r] j [n0, n1] (skel 24 0 [(0, .av ⟨.by, .r, v0⟩), (13, .av ⟨.b, .r, v13⟩)])
@[irreducible] noncomputable def p66_5 (j : Nat) (n0 : Nat) : Option (Int × Unit) := piece G 66 [.r, .r] j [n0] (skel 24 0 [])
@[irreducible] noncomputable def f45 (n : Nat) (a0 : List (UInt8)) (a1 : Int) : Option (Int × Int × Unit) := F G n 45 (a0, a1, ())
@[irreducible] noncomputable def p45_2054 (j : Nat) (n0 : Nat) (v0 : List (UInt8)) (v1 : Int) (v6 : Int) (v7 : Int) (v8 : Int) (v9 : Int) (v20 : Bool) : Option (Int × Int × Unit) := piece G 45 [.r, .r, .r, .l, .b, .r, .f, .r] j [n0] (skel 98 0 [(0, .av ⟨(.l .by), .b, v0⟩), (1, .av ⟨(.i .i64), .r, v1⟩), (6, .av ⟨(.i .u32), .r, v6⟩), (7, .av ⟨(.i .i64), .r, v7⟩), (8, .av ⟨(.i .u32), .r, v8⟩), (9, .av ⟨(.i .u32), .r, v9⟩), (20, .av ⟨.b, .r, v20⟩)])
@[irreducible] noncomputable def p45_11 (j : Nat) (n0 : Nat) (v0 : List (UInt8)) (v1 : Int) (v7 : Int) (v8 : Int) (v9 : Int) : Option (Int × Int × Unit) := piece G 45 [.r, .r, .r, .r] j [n0] (skel 98 0 [(0, .av ⟨(.l .by), .b, v0⟩), (1, .av ⟨(.i .i64), .r, v1⟩), (7, .av ⟨(.i .i64), .r, v7⟩), (8, .av ⟨(.i .u32), .r, v8⟩), (9, .av ⟨(.i .u32), .r, v9⟩)])
@[irreducible] noncomputable def p45_2056 (j : Nat) (n0 : Nat) (n1 : Nat) (v0 : List (UInt8)) (v1 : Int) (v6 : Int) (v7 : Int) (v8 : Int) (v9 : Int) (v29 : Bool) : Option (Int × Int × Unit) := piece G 45 [.r, .r, .r, .l, .b, .r, .f, .r, .f, .r] j [n0, n1] (skel 98 0 [(0, .av ⟨(.l .by), .b, v0⟩), (1, .av ⟨(.i .i64), .r, v1⟩), (6, .av ⟨(.i .u32), .r, v6⟩), (7, .av ⟨(.i .i64), .r, v7⟩), (8, .av ⟨(.i .u32), .r, v8⟩), (9, .av ⟨(.i .u32), .r, v9⟩), (29, .av ⟨.b, .r, v29⟩)])
@[irreducible] noncomputable def p45_2060 (j : Nat) (n0 : Nat) (n1 : Nat) (v0 : List (UInt8)) (v1 : Int) (v7 : Int) (v8 : Int) (v9 : Int) (v56 : Bool) : Option (Int × Int × Unit) := piece G 45 [.r, .r, .r, .r, .l, .r] j [n0, n1] (skel 98 0 [(0, .av ⟨(.l .by), .b, v0⟩), (1, .av ⟨(.i .i64), .r, v1⟩), (7, .av ⟨(.i .i64), .r, v7⟩), (8, .av ⟨(.i .u32), .r, v8⟩), (9, .av ⟨(.i .u32), .r, v9⟩), (56, .av ⟨.b, .r, v56⟩)])
@[irreducible] noncomputable def p45_2058 (j : Nat) (n0 : Nat) (n1 : Nat) (n2 : Nat) (v0 : List (UInt8)) (v1 : Int) (v6 : Int) (v7 : Int) (v8 : Int) (v9 : Int) (v38 : Bool) : Option (Int × Int × Unit) := piece G 45 [.r, .r, .r, .l, .b, .r, .f, .r, .f, .r, .f, .r] j [n0, n1, n2] (skel 98 0 [(0, .av ⟨(.l .by), .b, v0⟩), (1, .av ⟨(.i .i64), .r, v1⟩), (6, .av ⟨(.i .u32), .r, v6⟩), (7, .av ⟨(.i .i64), .r, v7⟩), (8, .av ⟨(.i .u32), .r, v8⟩), (9, .av ⟨(.i .u32), .r, v9⟩), (38, .av ⟨.b, .r, v38⟩)])
@[irreducible] noncomputable def p45_13 (j : Nat) (n0 : Nat) (n1 : Nat) (v0 : List (UInt8)) (v1 : Int) (v7 : Int) (v8 : Int) (v9 : Int) : Option (Int × Int × Unit) := piece G 45 [.r, .r, .r, .r, .r] j [n0, n1] (skel 98 0 [(0, .av ⟨(.l .by), .b, v0⟩), (1, .av ⟨(.i .i64), .r, v1⟩), (7, .av ⟨(.i .i64), .r, v7⟩), (8, .av ⟨(.i .u32), .r, v8⟩), (9, .av ⟨(.i .u32), .r, v9⟩)])
@[irreducible] noncomputable def p45_14 (j : Nat) (n0 : Nat) (n1 : Nat) (n2 : Nat) (v0 : List (UInt8)) (v1 : Int) (v7 : Int) (v8 : Int) (v9 : Int) (v10 : Int) : Option (Int × Int × Unit) := piece G 45 [.r, .r, .r, .r, .r, .l, .r, .b] j [n0, n1, n2] (skel 98 0 [(0, .av ⟨(.l .by), .b, v0⟩), (1, .av ⟨(.i .i64), .r, v1⟩), (7, .av ⟨(.i .i64), .r, v7⟩), (8, .av ⟨(.i .u32), .r, v8⟩), (9, .av ⟨(.i .u32), .r, v9⟩), (10, .av ⟨(.i .i64), .r, v10⟩)])
@[irreducible] noncomputable def p45_2068 (j : Nat) (n0 : Nat) (n1 : Nat) (n2 : Nat) (v7 : Int) (v8 : Int) (v95 : Bool) : Option (Int × Int × Unit) := piece G 45 [.r, .r, .r, .r, .r, .r, .l, .r] j [n0, n1, n2] (skel 98 0 [(7, .av ⟨(.i .i64), .r, v7⟩), (8, .av ⟨(.i .u32), .r, v8⟩), (95, .av ⟨.b, .r, v95⟩)])
@[irreducible] noncomputable def p45_21 (j : Nat) (n0 : Nat) (n1 : Nat) (n2 : Nat) (v7 : Int) (v8 : Int) : Option (Int × Int × Unit) := piece G 45 [.r, .r, .r, .r, .r, .r, .r] j [n0, n1, n2] (skel 98 0 [(7, .av ⟨(.i .i64), .r, v7⟩), (8, .av ⟨(.i .u32), .r, v8⟩)])
@[irreducible] noncomputable def f44 (n : Nat) (a0 : List UInt8) (a1 : Int) : Option (UInt8 × Int × Unit) := F G n 44 (a0, a1, ())
@[irreducible] noncomputable def p44_2060 (j : Nat) (n0 : Nat) (v0 : List UInt8) (v1 : Int) (v14 : UInt8) (v21 : Bool) : Option (UInt8 × Int × Unit) := piece G 44 [.r, .r, .l, .r, .b, .r, .f, .r, .f, .r, .f, .r] j [n0] (skel 64 0 [(0, .av ⟨.s, .r, v0⟩), (1, .av ⟨(.i .i64), .r, v1⟩), (14, .av ⟨.by, .r, v14⟩), (21, .av ⟨.b, .r, v21⟩)])
@[irreducible] noncomputable def p44_2063 (j : Nat) (n0 : Nat) (n1 : Nat) (v0 : List UInt8) (v1 : Int) (v50 : Bool) : Option (UInt8 × Int × Unit) := piece G 44 [.r, .r, .l, .r, .b, .r, .f, .r, .f, .r, .f, .r, .f, .r, .t, .r] j [n0, n1] (skel 64 0 [(0, .av ⟨.s, .r, v0⟩), (1, .av ⟨(.i .i64), .r, v1⟩), (50, .av ⟨.b, .r, v50⟩)])
@[irreducible] noncomputable def p44_16 (j : Nat) (n0 : Nat) : Option (UInt8 × Int × Unit) := piece G 44 [.r, .r, .r] j [n0] (skel 64 0 [])
@[irreducible] noncomputable def f65 (n : Nat) (a0 : List (UInt8)) (a1 : Int) : Option (List UInt8 × Int × Unit) := F G n 65 (a0, a1, ())
@[irreducible] noncomputable def p65_2061 (j : Nat) (n0 : Nat) (v0 : List (UInt8)) (v1 : Int) (v7 : Int) (v44 : Bool) : Option (List UInt8 × Int × Unit) := piece G 65 [.r, .r, .l, .b, .r, .f, .r, .f, .r, .f, .r, .f, .r, .f, .r] j [n0] (skel 74 0 [(0, .av ⟨(.l .by), .b, v0⟩), (1, .av ⟨(.i .i64), .r, v1⟩), (7, .av ⟨(.i .i64), .r, v7⟩), (44, .av ⟨.b, .r, v44⟩)])
@[irreducible] noncomputable def p65_14 (j : Nat) (n0 : Nat) (v0 : List (UInt8)) (v1 : Int) (v7 : Int) : Option (List UInt8 × Int × Unit) := piece G 65 [.r, .r, .r] j [n0] (skel 74 0 [(0, .av ⟨(.l .by), .b, v0⟩), (1, .av ⟨(.i .i64), .r, v1⟩), (7, .av ⟨(.i .i64), .r, v7⟩)])
@[irreducible] noncomputable def p65_16 (j : Nat) (n0 : Nat) (n1 : Nat) (v0 : List (UInt8)) (v1 : Int) (v7 : Int) (v8 : List UInt8) (v9 : Int) : Option (List UInt8 × Int × Unit) := piece G 65 [.r, .r, .r, .r, .l, .r, .b] j [n0, n1] (skel 74 0 [(0, .av ⟨(.l .by), .b, v0⟩), (1, .av ⟨(.i .i64), .r, v1⟩), (7, .av ⟨(.i .i64), .r, v7⟩), (8, .av ⟨.s, .r, v8⟩), (9, .av ⟨(.i .i64), .r, v9⟩)])
@[irreducible] noncomputable def f43 (n : Nat) (a0 : List UInt8) : Option (List UInt8 × Unit) := F G n 43 (a0, ())
@[irreducible] noncomputable def p43_4 (j : Nat) (n0 : Nat) (v3 : List (UInt8)) (v4 : List (UInt8)) (v5 : Int) : Option (List UInt8 × Unit) := piece G 43 [.r, .r, .r, .l, .r, .b] j [n0] (skel 31 0 [(3, .av ⟨(.l .by), (.o .r), v3⟩), (4, .av ⟨(.l .by), (.o .r), v4⟩), (5, .av ⟨(.i .i64), .r, v5⟩)])
@[irreducible] noncomputable def f23 (n : Nat) (a0 : List UInt8) : Option (List UInt8 × Int × Int × Unit) := F G n 23 (a0, ())
@[irreducible] noncomputable def p23_2050 (j : Nat) (n0 : Nat) (v0 : List UInt8) (v17 : Bool) : Option (List UInt8 × Int × Int × Unit) := piece G 23 [.r, .l, .r] j [n0] (skel 94 0 [(0, .av ⟨.s, .r, v0⟩), (17, .av ⟨.b, .r, v17⟩)])
@[irreducible] noncomputable def p23_3 (j : Nat) (n0 : Nat) (v0 : List UInt8) : Option (List UInt8 × Int × Int × Unit) := piece G 23 [.r, .r] j [n0] (skel 94 0 [(0, .av ⟨.s, .r, v0⟩)])
@[irreducible] noncomputable def p23_5 (j : Nat) (n0 : Nat) (n1 : Nat) (v0 : List UInt8) (v5 : List (UInt8)) (v6 : Int) : Option (List UInt8 × Int × Int × Unit) := piece G 23 [.r, .r, .r, .l, .r, .b] j [n0, n1] (skel 94 0 [(0, .av ⟨.s, .r, v0⟩), (5, .av ⟨(.l .by), (.o .r), v5⟩), (6, .av ⟨(.i .i64), .r, v6⟩)])
@[irreducible] noncomputable def p23_2068 (j : Nat) (n0 : Nat) (n1 : Nat) (n2 : Nat) (v0 : List UInt8) (v5 : List (UInt8)) (v6 : Int) (v10 : Int) (v79 : Bool) : Option (List UInt8 × Int × Int × Unit) := piece G 23 [.r, .r, .r, .l, .r, .b, .o, .r, .b, .r, .r, .r, .l, .r] j [n0, n1, n2] (skel 94 0 [(0, .av ⟨.s, .r, v0⟩), (5, .av ⟨(.l .by), (.o .r), v5⟩), (6, .av ⟨(.i .i64), .r, v6⟩), (10, .av ⟨(.i .i64), .r, v10⟩), (79, .av ⟨.b, .r, v79⟩)])
@[irreducible] noncomputable def p23_21 (j : Nat) (n0 : Nat) (n1 : Nat) (n2 : Nat) (v0 : List UInt8) (v5 : List (UInt8)) (v6 : Int) (v10 : Int) : Option (List UInt8 × Int × Int × Unit) := piece G 23 [.r, .r, .r, .l, .r, .b, .o, .r, .b, .r, .r, .r, .r] j [n0, n1, n2] (skel 94 0 [(0, .av ⟨.s, .r, v0⟩), (5, .av ⟨(.l .by), (.o .r), v5⟩), (6, .av ⟨(.i .i64), .r, v6⟩), (10, .av ⟨(.i .i64), .r, v10⟩)])
@[irreducible] noncomputable def f13 (n : Nat) (a0 : List UInt8) : Option (List UInt8 × Int × Int × Unit) := F G n 13 (a0, ())
@[irreducible] noncomputable def p13_2050 (j : Nat) (n0 : Nat) (v0 : List UInt8) (v12 : Bool) : Option (List UInt8 × Int × Int × Unit) := piece G 13 [.r, .l, .r] j [n0] (skel 24 0 [(0, .av ⟨.s, .r, v0⟩), (12, .av ⟨.b, .r, v12⟩)])
@[irreducible] noncomputable def p13_3 (j : Nat) (n0 : Nat) (v0 : List UInt8) : Option (List UInt8 × Int × Int × Unit) := piece G 13 [.r, .r] j [n0] (skel 24 0 [(0, .av ⟨.s, .r, v0⟩)])
@[irreducible] noncomputable def f12 (n : Nat) (a0 : List UInt8) : Option (List (List UInt8) × Int × Int × Unit) := F G n 12 (a0, ())
@[irreducible] noncomputable def p12_6 (j : Nat) (n0 : Nat) (v0 : List UInt8) (v5 : List (List UInt8)) (v6 : Int) (v7 : Bool) (v8 : Bool) (v9 : Int) : Option (List (List UInt8) × Int × Int × Unit) := piece G 12 [.r, .r, .r, .r, .r, .l, .r, .b] j [n0] (skel 99 0 [(0, .av ⟨.s, .r, v0⟩), (5, .av ⟨(.l .s), (.o .r), v5⟩), (6, .av ⟨(.i .i64), .r, v6⟩), (7, .av ⟨.b, .r, v7⟩), (8, .av ⟨.b, .r, v8⟩), (9, .av ⟨(.i .i64), .r, v9⟩)])
@[irreducible] noncomputable def p12_2058 (j : Nat) (n0 : Nat) (n1 : Nat) (v0 : List UInt8) (v5 : List (List UInt8)) (v6 : Int) (v7 : Bool) (v8 : Bool) (v9 : Int) (v10 : UInt8) (v20 : Bool) : Option (List (List UInt8) × Int × Int × Unit) := piece G 12 [.r, .r, .r, .r, .r, .l, .r, .b, .o, .r, .l, .b, .r, .b, .r] j [n0, n1] (skel 99 0 [(0, .av ⟨.s, .r, v0⟩), (5, .av ⟨(.l .s), (.o .r), v5⟩), (6, .av ⟨(.i .i64), .r, v6⟩), (7, .av ⟨.b, .r, v7⟩), (8, .av ⟨.b, .r, v8⟩), (9, .av ⟨(.i .i64), .r, v9⟩), (10, .av ⟨.by, .r, v10⟩), (20, .av ⟨.b, .r, v20⟩)])
@[irreducible] noncomputable def p12_30 (j : Nat) (n0 : Nat) (v5 : List (List UInt8)) : Option (List (List UInt8) × Int × Int × Unit) := piece G 12 [.r, .r, .r, .r, .r, .r, .r, .r] j [n0] (skel 99 0 [(5, .av ⟨(.l .s), (.o .r), v5⟩)])
@[irreducible] noncomputable def p12_2060 (j : Nat) (n0 : Nat) (n1 : Nat) (n2 : Nat) (v0 : List UInt8) (v5 : List (List UInt8)) (v6 : Int) (v7 : Bool) (v8 : Bool) (v9 : Int) (v10 : UInt8) (v35 : Bool) : Option (List (List UInt8) × Int × Int × Unit) := piece G 12 [.r, .r, .r, .r, .r, .l, .r, .b, .o, .r, .l, .b, .r, .b, .r, .f, .r] j [n0, n1, n2] (skel 99 0 [(0, .av ⟨.s, .r, v0⟩), (5, .av ⟨(.l .s), (.o .r), v5⟩), (6, .av ⟨(.i .i64), .r, v6⟩), (7, .av ⟨.b, .r, v7⟩), (8, .av ⟨.b, .r, v8⟩), (9, .av ⟨(.i .i64), .r, v9⟩), (10, .av ⟨.by, .r, v10⟩), (35, .av ⟨.b, .r, v35⟩)])
@[irreducible] noncomputable def p12_14 (j : Nat) (n0 : Nat) (n1 : Nat) (n2 : Nat) (n3 : Nat) (v0 : List UInt8) (v5 : List (List UInt8)) (v7 : Bool) (v9 : Int) : Option (List (List UInt8) × Int × Int × Unit) := piece G 12 [.r, .r, .r, .r, .r, .l, .r, .b, .o, .r, .l, .b, .r, .b, .r, .f, .r, .t, .r] j [n0, n1, n2, n3] (skel 99 0 [(0, .av ⟨.s, .r, v0⟩), (5, .av ⟨(.l .s), (.o .r), v5⟩), (7, .av ⟨.b, .r, v7⟩), (9, .av ⟨(.i .i64), .r, v9⟩)])
@[irreducible] noncomputable def p12_7 (j : Nat) (n0 : Nat) (n1 : Nat) (v0 : List UInt8) (v5 : List (List UInt8)) (v6 : Int) (v7 : Bool) (v8 : Bool) (v9 : Int) : Option (List (List UInt8) × Int × Int × Unit) := piece G 12 [.r, .r, .r, .r, .r, .l, .r, .b, .o, .r, .r] j [n0, n1] (skel 99 0 [(0, .av ⟨.s, .r, v0⟩), (5, .av ⟨(.l .s), (.o .r), v5⟩), (6, .av ⟨(.i .i64), .r, v6⟩), (7, .av ⟨.b, .r, v7⟩), (8, .av ⟨.b, .r, v8⟩), (9, .av ⟨(.i .i64), .r, v9⟩)])
@[irreducible] noncomputable def p12_2068 (j : Nat) (n0 : Nat) (n1 : Nat) (n2 : Nat) (n3 : Nat) (v0 : List UInt8) (v5 : List (List UInt8)) (v6 : Int) (v7 : Bool) (v8 : Bool) (v9 : Int) (v10 : UInt8) (v57 : Bool) : Option (List (List UInt8) × Int × Int × Unit) := piece G 12 [.r, .r, .r, .r, .r, .l, .r, .b, .o, .r, .l, .b, .r, .b, .r, .f, .r, .f, .r, .f, .r] j [n0, n1, n2, n3] (skel 99 0 [(0, .av ⟨.s, .r, v0⟩), (5, .av ⟨(.l .s), (.o .r), v5⟩), (6, .av ⟨(.i .i64), .r, v6⟩), (7, .av ⟨.b, .r, v7⟩), (8, .av ⟨.b, .r, v8⟩), (9, .av ⟨(.i .i64), .r, v9⟩), (10, .av ⟨.by, .r, v10⟩), (57, .av ⟨.b, .r, v57⟩)])
@[irreducible] noncomputable def p12_2070 (j : Nat) (n0 : Nat) (n1 : Nat) (n2 : Nat) (n3 : Nat) (n4 : Nat) (v0 : List UInt8) (v5 : List (List UInt8)) (v6 : Int) (v7 : Bool) (v8 : Bool) (v9 : Int) (v80 : Bool) : Option (List (List UInt8) × Int × Int × Unit) := piece G 12 [.r, .r, .r, .r, .r, .l, .r, .b, .o, .r, .l, .b, .r, .b, .r, .f, .r, .f, .r, .f, .r, .t, .r, .r] j [n0, n1, n2, n3, n4] (skel 99 0 [(0, .av ⟨.s, .r, v0⟩), (5, .av ⟨(.l .s), (.o .r), v5⟩), (6, .av ⟨(.i .i64), .r, v6⟩), (7, .av ⟨.b, .r, v7⟩), (8, .av ⟨.b, .r, v8⟩), (9, .av ⟨(.i .i64), .r, v9⟩), (80, .av ⟨.b, .r, v80⟩)])
@[irreducible] noncomputable def p12_2072 (j : Nat) (n0 : Nat) (n1 : Nat) (n2 : Nat) (n3 : Nat) (n4 : Nat) (v0 : List UInt8) (v5 : List (List UInt8)) (v6 : Int) (v7 : Bool) (v8 : Bool) (v9 : Int) (v82 : Bool) : Option (List (List UInt8) × Int × Int × Unit) := piece G 12 [.r, .r, .r, .r, .r, .l, .r, .b, .o, .r, .l, .b, .r, .b, .r, .f, .r, .f, .r, .f, .r, .f, .r] j [n0, n1, n2, n3, n4] (skel 99 0 [(0, .av ⟨.s, .r, v0⟩), (5, .av ⟨(.l .s), (.o .r), v5⟩), (6, .av ⟨(.i .i64), .r, v6⟩), (7, .av ⟨.b, .r, v7⟩), (8, .av ⟨.b, .r, v8⟩), (9, .av ⟨(.i .i64), .r, v9⟩), (82, .av ⟨.b, .r, v82⟩)])
@[irreducible] noncomputable def f47 (n : Nat) (a0 : List UInt8) : Option (Int × Bool × Unit) := F G n 47 (a0, ())
@[irreducible] noncomputable def p47_2050 (j : Nat) (n0 : Nat) (v0 : List UInt8) (v23 : Bool) : Option (Int × Bool × Unit) := piece G 47 [.r, .l, .r] j [n0] (skel 51 0 [(0, .av ⟨.s, .r, v0⟩), (23, .av ⟨.b, .r, v23⟩)])
@[irreducible] noncomputable def p47_3 (j : Nat) (n0 : Nat) (v0 : List UInt8) : Option (Int × Bool × Unit) := piece G 47 [.r, .r] j [n0] (skel 51 0 [(0, .av ⟨.s, .r, v0⟩)])
@[irreducible] noncomputable def p47_5 (j : Nat) (n0 : Nat) (n1 : Nat) (v0 : List UInt8) (v4 : Int) (v5 : Int) : Option (Int × Bool × Unit) := piece G 47 [.r, .r, .r, .l, .r, .b] j [n0, n1] (skel 51 0 [(0, .av ⟨.s, .r, v0⟩), (4, .av ⟨(.i .i64), .r, v4⟩), (5, .av ⟨(.i .i64), .r, v5⟩)])
@[irreducible] noncomputable def p47_2056 (j : Nat) (n0 : Nat) (n1 : Nat) (n2 : Nat) (v0 : List UInt8) (v4 : Int) (v5 : Int) (v39 : Bool) : Option (Int × Bool × Unit) := piece G 47 [.r, .r, .r, .l, .r, .b, .o, .r, .l, .b, .l, .r] j [n0, n1, n2] (skel 51 0 [(0, .av ⟨.s, .r, v0⟩), (4, .av ⟨(.i .i64), .r, v4⟩), (5, .av ⟨(.i .i64), .r, v5⟩), (39, .av ⟨.b, .r, v39⟩)])
@[irreducible] noncomputable def p47_9 (j : Nat) (n0 : Nat) (n1 : Nat) (n2 : Nat) (v0 : List UInt8) (v4 : Int) (v5 : Int) : Option (Int × Bool × Unit) := piece G 47 [.r, .r, .r, .l, .r, .b, .o, .r, .l, .b, .r] j [n0, n1, n2] (skel 51 0 [(0, .av ⟨.s, .r, v0⟩), (4, .av ⟨(.i .i64), .r, v4⟩), (5, .av ⟨(.i .i64), .r, v5⟩)])
@[irreducible] noncomputable def p47_6 (j : Nat) (n0 : Nat) (n1 : Nat) (n2 : Nat) (v0 : List UInt8) (v4 : Int) (v5 : Int) : Option (Int × Bool × Unit) := piece G 47 [.r, .r, .r, .l, .r, .b, .o, .r, .r] j [n0, n1, n2] (skel 51 0 [(0, .av ⟨.s, .r, v0⟩), (4, .av ⟨(.i .i64), .r, v4⟩), (5, .av ⟨(.i .i64), .r, v5⟩)])
@[irreducible] noncomputable def f25 (n : Nat) (a0 : List (List UInt8)) : Option (Bool × Unit) := F G n 25 (a0, ())
@[irreducible] noncomputable def p25_2 (j : Nat) (n0 : Nat) (v0 : List (List UInt8)) (v3 : Int) : Option (Bool × Unit) := piece G 25 [.r, .l, .r, .b] j [n0] (skel 22 0 [(0, .av ⟨(.l .s), .b, v0⟩), (3, .av ⟨(.i .i64), .r, v3⟩)])
@[irreducible] noncomputable def f26 (n : Nat) (a0 : List UInt8) : Option (Bool × Unit) := F G n 26 (a0, ())
@[irreducible] noncomputable def p26_2065 (j : Nat) (n0 : Nat) (v4 : Bool) : Option (Bool × Unit) := piece G 26 [.r, .l, .r, .b, .r] j [n0] (skel 20 0 [(4, .av ⟨.b, .r, v4⟩)])
@[irreducible] noncomputable def p26_18 (j : Nat) (n0 : Nat) : Option (Bool × Unit) := piece G 26 [.r, .r] j [n0] (skel 20 0 [])
@[irreducible] noncomputable def f27 (n : Nat) (a0 : List (List UInt8)) : Option (List ((Int × (List UInt8 × (List UInt8 × Unit)))) × Bool × Unit) := F G n 27 (a0, ())
@[irreducible] noncomputable def p27_2 (j : Nat) (n0 : Nat) (v0 : List (List UInt8)) (v4 : List ((Int × (List UInt8 × (List UInt8 × Unit))))) : Option (List ((Int × (List UInt8 × (List UInt8 × Unit)))) × Bool × Unit) := piece G 27 [.r, .r, .l, .b] j [n0] (skel 43 0 [(0, .av ⟨(.l .s), .b, v0⟩), (4, .av ⟨(.l (.c (.i .i64) (.c .s (.c .s .u)))), (.o (.q .r (.q .r (.q .r .r)))), v4⟩)])
@[irreducible] noncomputable def p27_14 (j : Nat) (n0 : Nat) (n1 : Nat) (v0 : List (List UInt8)) (v4 : List ((Int × (List UInt8 × (List UInt8 × Unit))))) (v5 : Int) (v6 : Int) : Option (List ((Int × (List UInt8 × (List UInt8 × Unit)))) × Bool × Unit) := piece G 27 [.r, .r, .l, .b, .o, .r, .b, .r, .r, .r] j [n0, n1] (skel 43 0 [(0, .av ⟨(.l .s), .b, v0⟩), (4, .av ⟨(.l (.c (.i .i64) (.c .s (.c .s .u)))), (.o (.q .r (.q .r (.q .r .r)))), v4⟩), (5, .av ⟨(.i .i64), .r, v5⟩), (6, .av ⟨(.i .i64), .r, v6⟩)])
@[irreducible] noncomputable def p27_19 (j : Nat) (n0 : Nat) (n1 : Nat) (n2 : Nat) (v0 : List (List UInt8)) (v4 : List ((Int × (List UInt8 × (List UInt8 × Unit))))) (v5 : Int) (v7 : Option ((Int × (List UInt8 × (List UInt8 × Unit))))) : Option (List ((Int × (List UInt8 × (List UInt8 × Unit)))) × Bool × Unit) := piece G 27 [.r, .r, .l, .b, .o, .r, .b, .r, .r, .r, .r, .r, .r] j [n0, n1, n2] (skel 43 0 [(0, .av ⟨(.l .s), .b, v0⟩), (4, .av ⟨(.l (.c (.i .i64) (.c .s (.c .s .u)))), (.o (.q .r (.q .r (.q .r .r)))), v4⟩), (5, .av ⟨(.i .i64), .r, v5⟩), (7, .av ⟨(.p (.c (.i .i64) (.c .s (.c .s .u)))), (.o (.q .r (.q .r (.q .r .r)))), v7⟩)])
@[irreducible] noncomputable def f28 (n : Nat) (a0 : List UInt8) : Option (Bool × Unit) := F G n 28 (a0, ())
@[irreducible] noncomputable def f29 (n : Nat) (a0 : List UInt8) : Option (Int × Bool × Unit) := F G n 29 (a0, ())
@[irreducible] noncomputable def f14 (n : Nat) (a0 : List UInt8) (a1 : List (List UInt8)) : Option (Bool × Unit) := F G n 14 (a0, a1, ())
@[irreducible] noncomputable def p14_2053 (j : Nat) (n0 : Nat) (v1 : List (List UInt8)) (v5 : Int) (v12 : List UInt8) (v13 : Bool) : Option (Bool × Unit) := piece G 14 [.r, .r, .l, .r, .b, .r] j [n0] (skel 187 0 [(1, .av ⟨(.l .s), .b, v1⟩), (5, .av ⟨(.i .i64), .r, v5⟩), (12, .av ⟨.s, .r, v12⟩), (13, .av ⟨.b, .r, v13⟩)])
@[irreducible] noncomputable def p14_2056 (j : Nat) (n0 : Nat) (n1 : Nat) (v1 : List (List UInt8)) (v5 : Int) (v31 : Bool) : Option (Bool × Unit) := piece G 14 [.r, .r, .l, .r, .b, .r, .f, .r, .t, .l, .r] j [n0, n1] (skel 187 0 [(1, .av ⟨(.l .s), .b, v1⟩), (5, .av ⟨(.i .i64), .r, v5⟩), (31, .av ⟨.b, .r, v31⟩)])
@[irreducible] noncomputable def p14_2061 (j : Nat) (n0 : Nat) (n1 : Nat) (v1 : List (List UInt8)) (v5 : Int) (v12 : List UInt8) (v52 : Bool) : Option (Bool × Unit) := piece G 14 [.r, .r, .l, .r, .b, .r, .f, .r, .f, .r] j [n0, n1] (skel 187 0 [(1, .av ⟨(.l .s), .b, v1⟩), (5, .av ⟨(.i .i64), .r, v5⟩), (12, .av ⟨.s, .r, v12⟩), (52, .av ⟨.b, .r, v52⟩)])
@[irreducible] noncomputable def p14_9 (j : Nat) (n0 : Nat) (n1 : Nat) (v1 : List (List UInt8)) (v5 : Int) : Option (Bool × Unit) := piece G 14 [.r, .r, .l, .r, .b, .r, .f, .r, .t, .r] j [n0, n1] (skel 187 0 [(1, .av ⟨(.l .s), .b, v1⟩), (5, .av ⟨(.i .i64), .r, v5⟩)])
@[irreducible] noncomputable def p14_2064 (j : Nat) (n0 : Nat) (n1 : Nat) (n2 : Nat) (v1 : List (List UInt8)) (v79 : Bool) : Option (Bool × Unit) := piece G 14 [.r, .r, .l, .r, .b, .r, .f, .r, .f, .r, .f, .r, .t, .l, .r] j [n0, n1, n2] (skel 187 0 [(1, .av ⟨(.l .s), .b, v1⟩), (79, .av ⟨.b, .r, v79⟩)])
@[irreducible] noncomputable def p14_2071 (j : Nat) (n0 : Nat) (n1 : Nat) (n2 : Nat) (v1 : List (List UInt8)) (v5 : Int) (v12 : List UInt8) (v105 : Bool) : Option (Bool × Unit) := piece G 14 [.r, .r, .l, .r, .b, .r, .f, .r, .f, .r, .f, .r, .f, .r, .f, .r] j [n0, n1, n2] (skel 187 0 [(1, .av ⟨(.l .s), .b, v1⟩), (5, .av ⟨(.i .i64), .r, v5⟩), (12, .av ⟨.s, .r, v12⟩), (105, .av ⟨.b, .r, v105⟩)])
@[irreducible] noncomputable def p14_17 (j : Nat) (n0 : Nat) (n1 : Nat) (n2 : Nat) (v1 : List (List UInt8)) : Option (Bool × Unit) := piece G 14 [.r, .r, .l, .r, .b, .r, .f, .r, .f, .r, .f, .r, .t, .r] j [n0, n1, n2] (skel 187 0 [(1, .av ⟨(.l .s), .b, v1⟩)])
@[irreducible] noncomputable def p14_2079 (j : Nat) (n0 : Nat) (n1 : Nat) (n2 : Nat) (n3 : Nat) (v1 : List (List UInt8)) (v5 : Int) (v12 : List UInt8) (v114 : Bool) : Option (Bool × Unit) := piece G 14 [.r, .r, .l, .r, .b, .r, .f, .r, .f, .r, .f, .r, .f, .r, .f, .r, .f, .r] j [n0, n1, n2, n3] (skel 187 0 [(1, .av ⟨(.l .s), .b, v1⟩), (5, .av ⟨(.i .i64), .r, v5⟩), (12, .av ⟨.s, .r, v12⟩), (114, .av ⟨.b, .r, v114⟩)])
@[irreducible] noncomputable def p14_2086 (j : Nat) (n0 : Nat) (n1 : Nat) (n2 : Nat) (n3 : Nat) (n4 : Nat) (v1 : List (List UInt8)) (v164 : Bool) : Option (Bool × Unit) := piece G 14 [.r, .r, .l, .r, .b, .r, .f, .r, .f, .r, .f, .r, .f, .r, .f, .r, .f, .r, .f, .r, .f, .r, .f, .r, .t, .l, .r] j [n0, n1, n2, n3, n4] (skel 187 0 [(1, .av ⟨(.l .s), .b, v1⟩), (164, .av ⟨.b, .r, v164⟩)])
@[irreducible] noncomputable def p14_45 (j : Nat) (n0 : Nat) : Option (Bool × Unit) := piece G 14 [.r, .r, .r] j [n0] (skel 187 0 [])
@[irreducible] noncomputable def p14_39 (j : Nat) (n0 : Nat) (n1 : Nat) (n2 : Nat) (n3 : Nat) (n4 : Nat) (v1 : List (List UInt8)) : Option (Bool × Unit) := piece G 14 [.r, .r, .l, .r, .b, .r, .f, .r, .f, .r, .f, .r, .f, .r, .f, .r, .f, .r, .f, .r, .f, .r, .f, .r, .t, .r] j [n0, n1, n2, n3, n4] (skel 187 0 [(1, .av ⟨(.l .s), .b, v1⟩)])
@[irreducible] noncomputable def f6 (n : Nat) (a0 : List UInt8) : Option (List ((Int × (List UInt8 × (List (List UInt8) × Unit)))) × Int × Int × Unit) := F G n 6 (a0, ())
@[irreducible] noncomputable def p6_6 (j : Nat) (n0 : Nat) (v5 : List ((Int × (List UInt8 × (List (List UInt8) × Unit))))) (v6 : List (List UInt8)) (v7 : Int) : Option (List ((Int × (List UInt8 × (List (List UInt8) × Unit)))) × Int × Int × Unit) := piece G 6 [.r, .r, .r, .r, .l, .r, .b] j [n0] (skel 90 0 [(5, .av ⟨(.l (.c (.i .i64) (.c .s (.c (.l .s) .u)))), (.o (.q .r (.q .r (.q (.o .r) .r)))), v5⟩), (6, .av ⟨(.l .s), (.o .r), v6⟩), (7, .av ⟨(.i .i64), .r, v7⟩)])
@[irreducible] noncomputable def p6_7 (j : Nat) (n0 : Nat) (n1 : Nat) (v5 : List ((Int × (List UInt8 × (List (List UInt8) × Unit))))) (v6 : List (List UInt8)) (v7 : Int) : Option (List ((Int × (List UInt8 × (List (List UInt8) × Unit)))) × Int × Int × Unit) := piece G 6 [.r, .r, .r, .r, .l, .r, .b, .o, .r, .r] j [n0, n1] (skel 90 0 [(5, .av ⟨(.l (.c (.i .i64) (.c .s (.c (.l .s) .u)))), (.o (.q .r (.q .r (.q (.o .r) .r)))), v5⟩), (6, .av ⟨(.l .s), (.o .r), v6⟩), (7, .av ⟨(.i .i64), .r, v7⟩)])
@[irreducible] noncomputable def p6_12 (j : Nat) (n0 : Nat) (n1 : Nat) (v5 : List ((Int × (List UInt8 × (List (List UInt8) × Unit))))) (v6 : List (List UInt8)) (v7 : Int) (v8 : List (List UInt8)) : Option (List ((Int × (List UInt8 × (List (List UInt8) × Unit)))) × Int × Int × Unit) := piece G 6 [.r, .r, .r, .r, .l, .r, .b, .o, .r, .l, .b, .r, .r, .r] j [n0, n1] (skel 90 0 [(5, .av ⟨(.l (.c (.i .i64) (.c .s (.c (.l .s) .u)))), (.o (.q .r (.q .r (.q (.o .r) .r)))), v5⟩), (6, .av ⟨(.l .s), (.o .r), v6⟩), (7, .av ⟨(.i .i64), .r, v7⟩), (8, .av ⟨(.l .s), (.o .r), v8⟩)])
@[irreducible] noncomputable def p6_14 (j : Nat) (n0 : Nat) (n1 : Nat) (n2 : Nat) (v5 : List ((Int × (List UInt8 × (List (List UInt8) × Unit))))) (v6 : List (List UInt8)) (v7 : Int) (v8 : List (List UInt8)) (v11 : List (List UInt8)) (v12 : Int) : Option (List ((Int × (List UInt8 × (List (List UInt8) × Unit)))) × Int × Int × Unit) := piece G 6 [.r, .r, .r, .r, .l, .r, .b, .o, .r, .l, .b, .r, .r, .r, .r, .l, .r, .b] j [n0, n1, n2] (skel 90 0 [(5, .av ⟨(.l (.c (.i .i64) (.c .s (.c (.l .s) .u)))), (.o (.q .r (.q .r (.q (.o .r) .r)))), v5⟩), (6, .av ⟨(.l .s), (.o .r), v6⟩), (7, .av ⟨(.i .i64), .r, v7⟩), (8, .av ⟨(.l .s), (.o .r), v8⟩), (11, .av ⟨(.l .s), (.o .r), v11⟩), (12, .av ⟨(.i .i64), .r, v12⟩)])
theorem f7_eq (n : Nat)  : f7 (n + 1)  =
  (some (Bool.true, ())) := by kernel_rfl
theorem f11_eq (n : Nat) (a0 : List UInt8) : f11 (n + 1) a0 =
  (p11_4 (n) (n) (a0) ([]) ((0 : Int)) ((0 : Int))) := by kernel_rfl
theorem p11_4_eq (j : Nat) (n0 : Nat) (v0 : List UInt8) (v3 : List (List UInt8)) (v4 : Int) (v5 : Int) : p11_4 (j + 1) n0 v0 v3 v4 v5 =
  (sel (Decidable.decide (v5 < (↑v0.length : Int)))
   (sel (Decidable.decide ((0 : Int) ≤ v5))
    (sel (Decidable.decide (v5 < (↑v0.length : Int)))
     (sel ((↑(v0.getD v5.toNat (0 : UInt8)).toNat : Int) == (↑(UInt8.toNat (10 : UInt8)) : Int))
      (sel (Decidable.decide ((0 : Int) ≤ v5))
       (sel (Decidable.decide (v5 ≤ (↑v0.length : Int)))
        (sel (Decidable.decide ((0 : Int) ≤ v4))
         (sel (Decidable.decide (v4 ≤ v5))
          (sel (Decidable.decide (v3.length + (1 : Nat) ≤ (1073741824 : Nat)))
           (p11_5 (j) (n0) (j) (v0) (v3 ++ [Lk.ext v0 v4 v5]) (Go.IntKind.i64.wrap (v5 + (1 : Int))) (v5))
           none)
          none)
         none)
        none)
       none)
      (p11_5 (j) (n0) (j) (v0) (v3) (v4) (v5)))
     none)
    none)
   (sel (Decidable.decide ((0 : Int) ≤ v4))
    (sel (Decidable.decide (v4 ≤ (↑v0.length : Int)))
     (sel (Decidable.decide (v3.length + (1 : Nat) ≤ (1073741824 : Nat)))
      (some (v3 ++ [Lk.ext v0 v4 (↑v0.length : Int)], ()))
      none)
     none)
    none)) := by kernel_rfl
theorem p11_5_eq (j : Nat) (n0 : Nat) (n1 : Nat) (v0 : List UInt8) (v3 : List (List UInt8)) (v4 : Int) (v5 : Int) : p11_5 (j + 1) n0 n1 v0 v3 v4 v5 =
  (p11_4 (n1) (n0) (v0) (v3) (v4) (Go.IntKind.i64.wrap (v5 + (1 : Int)))) := by kernel_rfl
theorem f24_eq (n : Nat) (a0 : List UInt8) : f24 (n + 1) a0 =
  (p24_2 (n) (n) (a0) ((0 : Int))) := by kernel_rfl
theorem p24_2_eq (j : Nat) (n0 : Nat) (v0 : List UInt8) (v3 : Int) : p24_2 (j + 1) n0 v0 v3 =
  (sel (Decidable.decide (v3 < (↑v0.length : Int)))
   (sel (Decidable.decide ((0 : Int) ≤ v3))
    (sel (Decidable.decide (v3 < (↑v0.length : Int)))
     (sel (Decidable.decide ((↑(v0.getD v3.toNat (0 : UInt8)).toNat : Int) < (↑(UInt8.toNat (97 : UInt8)) : Int)))
      (sel (Decidable.decide ((↑(v0.getD v3.toNat (0 : UInt8)).toNat : Int) < (↑(UInt8.toNat (48 : UInt8)) : Int)))
       (sel ((↑(v0.getD v3.toNat (0 : UInt8)).toNat : Int) != (↑(UInt8.toNat (46 : UInt8)) : Int))
        (sel ((↑(v0.getD v3.toNat (0 : UInt8)).toNat : Int) != (↑(UInt8.toNat (95 : UInt8)) : Int))
         (p24_2054 (j) (n0) (j) (v0) (v3) ((↑(v0.getD v3.toNat (0 : UInt8)).toNat : Int) != (↑(UInt8.toNat (45 : UInt8)) : Int)))
         (p24_2054 (j) (n0) (j) (v0) (v3) (Bool.false)))
        (p24_2054 (j) (n0) (j) (v0) (v3) (Bool.false)))
       (sel (Decidable.decide ((↑(v0.getD v3.toNat (0 : UInt8)).toNat : Int) > (↑(UInt8.toNat (57 : UInt8)) : Int)))
        (sel ((↑(v0.getD v3.toNat (0 : UInt8)).toNat : Int) != (↑(UInt8.toNat (46 : UInt8)) : Int))
         (sel ((↑(v0.getD v3.toNat (0 : UInt8)).toNat : Int) != (↑(UInt8.toNat (95 : UInt8)) : Int))
          (p24_2054 (j) (n0) (j) (v0) (v3) ((↑(v0.getD v3.toNat (0 : UInt8)).toNat : Int) != (↑(UInt8.toNat (45 : UInt8)) : Int)))
          (p24_2054 (j) (n0) (j) (v0) (v3) (Bool.false)))
         (p24_2054 (j) (n0) (j) (v0) (v3) (Bool.false)))
        (p24_2054 (j) (n0) (j) (v0) (v3) (Bool.false))))
      (sel (Decidable.decide ((↑(v0.getD v3.toNat (0 : UInt8)).toNat : Int) > (↑(UInt8.toNat (122 : UInt8)) : Int)))
       (sel (Decidable.decide ((↑(v0.getD v3.toNat (0 : UInt8)).toNat : Int) < (↑(UInt8.toNat (48 : UInt8)) : Int)))
        (sel ((↑(v0.getD v3.toNat (0 : UInt8)).toNat : Int) != (↑(UInt8.toNat (46 : UInt8)) : Int))
         (sel ((↑(v0.getD v3.toNat (0 : UInt8)).toNat : Int) != (↑(UInt8.toNat (95 : UInt8)) : Int))
          (p24_2054 (j) (n0) (j) (v0) (v3) ((↑(v0.getD v3.toNat (0 : UInt8)).toNat : Int) != (↑(UInt8.toNat (45 : UInt8)) : Int)))
          (p24_2054 (j) (n0) (j) (v0) (v3) (Bool.false)))
         (p24_2054 (j) (n0) (j) (v0) (v3) (Bool.false)))
        (sel (Decidable.decide ((↑(v0.getD v3.toNat (0 : UInt8)).toNat : Int) > (↑(UInt8.toNat (57 : UInt8)) : Int)))
         (sel ((↑(v0.getD v3.toNat (0 : UInt8)).toNat : Int) != (↑(UInt8.toNat (46 : UInt8)) : Int))
          (sel ((↑(v0.getD v3.toNat (0 : UInt8)).toNat : Int) != (↑(UInt8.toNat (95 : UInt8)) : Int))
           (p24_2054 (j) (n0) (j) (v0) (v3) ((↑(v0.getD v3.toNat (0 : UInt8)).toNat : Int) != (↑(UInt8.toNat (45 : UInt8)) : Int)))
           (p24_2054 (j) (n0) (j) (v0) (v3) (Bool.false)))
          (p24_2054 (j) (n0) (j) (v0) (v3) (Bool.false)))
         (p24_2054 (j) (n0) (j) (v0) (v3) (Bool.false))))
       (p24_2054 (j) (n0) (j) (v0) (v3) (Bool.false))))
     none)
    none)
   (sel ((↑v0.length : Int) == (0 : Int))
    (some ((0 : Int), ()))
    (some ((-1 : Int), ())))) := by kernel_rfl
theorem p24_2054_eq (j : Nat) (n0 : Nat) (n1 : Nat) (v0 : List UInt8) (v3 : Int) (v39 : Bool) : p24_2054 (j + 1) n0 n1 v0 v3 v39 =
  (sel (v39)
   (some (v3, ()))
   (p24_3 (n1) (n0) (n1) (v0) (v3))) := by kernel_rfl
theorem p24_3_eq (j : Nat) (n0 : Nat) (n1 : Nat) (v0 : List UInt8) (v3 : Int) : p24_3 (j + 1) n0 n1 v0 v3 =
  (p24_2 (n1) (n0) (v0) (Go.IntKind.i64.wrap (v3 + (1 : Int)))) := by kernel_rfl
theorem f46_eq (n : Nat) (a0 : Int) : f46 (n + 1) a0 =
  (sel (Decidable.decide (a0 > (32 : Int)))
   (sel (a0 != (34 : Int))
    (sel (a0 != (92 : Int))
     (sel (Decidable.decide (a0 < (127 : Int)))
      (some (Bool.true, ()))
      (some (Decidable.decide (a0 > (160 : Int)), ())))
     (some (Bool.false, ())))
    (some (Bool.false, ())))
   (some (Bool.false, ()))) := by kernel_rfl
theorem f77_eq (n : Nat) (a0 : UInt8) : f77 (n + 1) a0 =
  (sel ((↑(UInt8.toNat (16 : UInt8)) : Int) != (0 : Int))
   (sel ((↑(UInt8.toNat (16 : UInt8)) : Int) != (0 : Int))
    (sel (Decidable.decide ((0 : Int) ≤ (↑(UInt8.ofNat (Go.IntKind.u8.wrap ((↑(UInt8.ofNat (Go.IntKind.u8.wrap ((↑a0.toNat : Int).tdiv (↑(UInt8.toNat (16 : UInt8)) : Int))).toNat).toNat : Int) + (↑(UInt8.toNat (1 : UInt8)) : Int))).toNat).toNat : Int)))
     (sel (Decidable.decide ((↑(UInt8.ofNat (Go.IntKind.u8.wrap ((↑(UInt8.ofNat (Go.IntKind.u8.wrap ((↑a0.toNat : Int).tdiv (↑(UInt8.toNat (16 : UInt8)) : Int))).toNat).toNat : Int) + (↑(UInt8.toNat (1 : UInt8)) : Int))).toNat).toNat : Int) ≤ (↑(16 : Nat) : Int)))
      (sel (Decidable.decide ((0 : Int) ≤ (↑(UInt8.ofNat (Go.IntKind.u8.wrap ((↑a0.toNat : Int).tdiv (↑(UInt8.toNat (16 : UInt8)) : Int))).toNat).toNat : Int)))
       (sel (Decidable.decide ((↑(UInt8.ofNat (Go.IntKind.u8.wrap ((↑a0.toNat : Int).tdiv (↑(UInt8.toNat (16 : UInt8)) : Int))).toNat).toNat : Int) ≤ (↑(UInt8.ofNat (Go.IntKind.u8.wrap ((↑(UInt8.ofNat (Go.IntKind.u8.wrap ((↑a0.toNat : Int).tdiv (↑(UInt8.toNat (16 : UInt8)) : Int))).toNat).toNat : Int) + (↑(UInt8.toNat (1 : UInt8)) : Int))).toNat).toNat : Int)))
        (sel (Decidable.decide ((2 : Nat) + (Lk.ext [(48 : UInt8), (49 : UInt8), (50 : UInt8), (51 : UInt8), (52 : UInt8), (53 : UInt8), (54 : UInt8), (55 : UInt8), (56 : UInt8), (57 : UInt8), (97 : UInt8), (98 : UInt8), (99 : UInt8), (100 : UInt8), (101 : UInt8), (102 : UInt8)] (↑(UInt8.ofNat (Go.IntKind.u8.wrap ((↑a0.toNat : Int).tdiv (↑(UInt8.toNat (16 : UInt8)) : Int))).toNat).toNat : Int) (↑(UInt8.ofNat (Go.IntKind.u8.wrap ((↑(UInt8.ofNat (Go.IntKind.u8.wrap ((↑a0.toNat : Int).tdiv (↑(UInt8.toNat (16 : UInt8)) : Int))).toNat).toNat : Int) + (↑(UInt8.toNat (1 : UInt8)) : Int))).toNat).toNat : Int)).length ≤ Lk.big))
         (sel ((↑(UInt8.toNat (16 : UInt8)) : Int) != (0 : Int))
          (sel ((↑(UInt8.toNat (16 : UInt8)) : Int) != (0 : Int))
           (sel (Decidable.decide ((0 : Int) ≤ (↑(UInt8.ofNat (Go.IntKind.u8.wrap ((↑(UInt8.ofNat ((↑a0.toNat : Int).tmod (↑(UInt8.toNat (16 : UInt8)) : Int)).toNat).toNat : Int) + (↑(UInt8.toNat (1 : UInt8)) : Int))).toNat).toNat : Int)))
            (sel (Decidable.decide ((↑(UInt8.ofNat (Go.IntKind.u8.wrap ((↑(UInt8.ofNat ((↑a0.toNat : Int).tmod (↑(UInt8.toNat (16 : UInt8)) : Int)).toNat).toNat : Int) + (↑(UInt8.toNat (1 : UInt8)) : Int))).toNat).toNat : Int) ≤ (↑(16 : Nat) : Int)))
             (sel (Decidable.decide ((0 : Int) ≤ (↑(UInt8.ofNat ((↑a0.toNat : Int).tmod (↑(UInt8.toNat (16 : UInt8)) : Int)).toNat).toNat : Int)))
              (sel (Decidable.decide ((↑(UInt8.ofNat ((↑a0.toNat : Int).tmod (↑(UInt8.toNat (16 : UInt8)) : Int)).toNat).toNat : Int) ≤ (↑(UInt8.ofNat (Go.IntKind.u8.wrap ((↑(UInt8.ofNat ((↑a0.toNat : Int).tmod (↑(UInt8.toNat (16 : UInt8)) : Int)).toNat).toNat : Int) + (↑(UInt8.toNat (1 : UInt8)) : Int))).toNat).toNat : Int)))
               (sel (Decidable.decide (([(92 : UInt8), (120 : UInt8)] ++ Lk.ext [(48 : UInt8), (49 : UInt8), (50 : UInt8), (51 : UInt8), (52 : UInt8), (53 : UInt8), (54 : UInt8), (55 : UInt8), (56 : UInt8), (57 : UInt8), (97 : UInt8), (98 : UInt8), (99 : UInt8), (100 : UInt8), (101 : UInt8), (102 : UInt8)] (↑(UInt8.ofNat (Go.IntKind.u8.wrap ((↑a0.toNat : Int).tdiv (↑(UInt8.toNat (16 : UInt8)) : Int))).toNat).toNat : Int) (↑(UInt8.ofNat (Go.IntKind.u8.wrap ((↑(UInt8.ofNat (Go.IntKind.u8.wrap ((↑a0.toNat : Int).tdiv (↑(UInt8.toNat (16 : UInt8)) : Int))).toNat).toNat : Int) + (↑(UInt8.toNat (1 : UInt8)) : Int))).toNat).toNat : Int)).length + (Lk.ext [(48 : UInt8), (49 : UInt8), (50 : UInt8), (51 : UInt8), (52 : UInt8), (53 : UInt8), (54 : UInt8), (55 : UInt8), (56 : UInt8), (57 : UInt8), (97 : UInt8), (98 : UInt8), (99 : UInt8), (100 : UInt8), (101 : UInt8), (102 : UInt8)] (↑(UInt8.ofNat ((↑a0.toNat : Int).tmod (↑(UInt8.toNat (16 : UInt8)) : Int)).toNat).toNat : Int) (↑(UInt8.ofNat (Go.IntKind.u8.wrap ((↑(UInt8.ofNat ((↑a0.toNat : Int).tmod (↑(UInt8.toNat (16 : UInt8)) : Int)).toNat).toNat : Int) + (↑(UInt8.toNat (1 : UInt8)) : Int))).toNat).toNat : Int)).length ≤ Lk.big))
                (some ([(92 : UInt8), (120 : UInt8)] ++ Lk.ext [(48 : UInt8), (49 : UInt8), (50 : UInt8), (51 : UInt8), (52 : UInt8), (53 : UInt8), (54 : UInt8), (55 : UInt8), (56 : UInt8), (57 : UInt8), (97 : UInt8), (98 : UInt8), (99 : UInt8), (100 : UInt8), (101 : UInt8), (102 : UInt8)] (↑(UInt8.ofNat (Go.IntKind.u8.wrap ((↑a0.toNat : Int).tdiv (↑(UInt8.toNat (16 : UInt8)) : Int))).toNat).toNat : Int) (↑(UInt8.ofNat (Go.IntKind.u8.wrap ((↑(UInt8.ofNat (Go.IntKind.u8.wrap ((↑a0.toNat : Int).tdiv (↑(UInt8.toNat (16 : UInt8)) : Int))).toNat).toNat : Int) + (↑(UInt8.toNat (1 : UInt8)) : Int))).toNat).toNat : Int) ++ Lk.ext [(48 : UInt8), (49 : UInt8), (50 : UInt8), (51 : UInt8), (52 : UInt8), (53 : UInt8), (54 : UInt8), (55 : UInt8), (56 : UInt8), (57 : UInt8), (97 : UInt8), (98 : UInt8), (99 : UInt8), (100 : UInt8), (101 : UInt8), (102 : UInt8)] (↑(UInt8.ofNat ((↑a0.toNat : Int).tmod (↑(UInt8.toNat (16 : UInt8)) : Int)).toNat).toNat : Int) (↑(UInt8.ofNat (Go.IntKind.u8.wrap ((↑(UInt8.ofNat ((↑a0.toNat : Int).tmod (↑(UInt8.toNat (16 : UInt8)) : Int)).toNat).toNat : Int) + (↑(UInt8.toNat (1 : UInt8)) : Int))).toNat).toNat : Int), ()))
                none)
               none)
              none)
             none)
            none)
           none)
          none)
         none)
        none)
       none)
      none)
     none)
    none)
   none) := by kernel_rfl
theorem f66_eq (n : Nat) (a0 : UInt8) : f66 (n + 1) a0 =
  (sel (Decidable.decide ((↑a0.toNat : Int) ≥ (↑(UInt8.toNat (48 : UInt8)) : Int)))
   (p66_2050 (n) (n) (a0) (Decidable.decide ((↑a0.toNat : Int) ≤ (↑(UInt8.toNat (57 : UInt8)) : Int))))
   (p66_2050 (n) (n) (a0) (Bool.false))) := by kernel_rfl
theorem p66_2050_eq (j : Nat) (n0 : Nat) (v0 : UInt8) (v3 : Bool) : p66_2050 (j + 1) n0 v0 v3 =
  (sel (v3)
   (some (Go.IntKind.i64.wrap (↑(UInt8.ofNat (Go.IntKind.u8.wrap ((↑v0.toNat : Int) - (↑(UInt8.toNat (48 : UInt8)) : Int))).toNat).toNat : Int), ()))
   (sel (Decidable.decide ((↑v0.toNat : Int) ≥ (↑(UInt8.toNat (97 : UInt8)) : Int)))
    (p66_2052 (j) (n0) (j) (v0) (Decidable.decide ((↑v0.toNat : Int) ≤ (↑(UInt8.toNat (102 : UInt8)) : Int))))
    (p66_2052 (j) (n0) (j) (v0) (Bool.false)))) := by kernel_rfl
theorem p66_2052_eq (j : Nat) (n0 : Nat) (n1 : Nat) (v0 : UInt8) (v13 : Bool) : p66_2052 (j + 1) n0 n1 v0 v13 =
  (sel (v13)
   (some (Go.IntKind.i64.wrap (Go.IntKind.i64.wrap (↑(UInt8.ofNat (Go.IntKind.u8.wrap ((↑v0.toNat : Int) - (↑(UInt8.toNat (97 : UInt8)) : Int))).toNat).toNat : Int) + (10 : Int)), ()))
   (p66_5 (n0) (n0))) := by kernel_rfl
theorem p66_5_eq (j : Nat) (n0 : Nat) : p66_5 (j + 1) n0 =
  (some ((16 : Int), ())) := by kernel_rfl
theorem f45_eq (n : Nat) (a0 : List (UInt8)) (a1 : Int) : f45 (n + 1) a0 a1 =
  (sel (Decidable.decide ((0 : Int) ≤ a1))
   (sel (Decidable.decide (a1 < (↑a0.length : Int)))
    (sel (Decidable.decide (Go.IntKind.u32.wrap (↑(UInt8.toNat (a0.getD a1.toNat (0 : UInt8))) : Int) < (128 : Int)))
     (some (Go.IntKind.u32.wrap (↑(UInt8.toNat (a0.getD a1.toNat (0 : UInt8))) : Int), (1 : Int), ()))
     (sel (Decidable.decide (Go.IntKind.u32.wrap (↑(UInt8.toNat (a0.getD a1.toNat (0 : UInt8))) : Int) ≥ (192 : Int)))
      (p45_2054 (n) (n) (a0) (a1) (Go.IntKind.u32.wrap (↑(UInt8.toNat (a0.getD a1.toNat (0 : UInt8))) : Int)) ((0 : Int)) ((0 : Int)) ((0 : Int)) (Decidable.decide (Go.IntKind.u32.wrap (↑(UInt8.toNat (a0.getD a1.toNat (0 : UInt8))) : Int) < (224 : Int))))
      (p45_2054 (n) (n) (a0) (a1) (Go.IntKind.u32.wrap (↑(UInt8.toNat (a0.getD a1.toNat (0 : UInt8))) : Int)) ((0 : Int)) ((0 : Int)) ((0 : Int)) (Bool.false))))
    none)
   none) := by kernel_rfl
theorem p45_2054_eq (j : Nat) (n0 : Nat) (v0 : List (UInt8)) (v1 : Int) (v6 : Int) (v7 : Int) (v8 : Int) (v9 : Int) (v20 : Bool) : p45_2054 (j + 1) n0 v0 v1 v6 v7 v8 v9 v20 =
  (sel (v20)
   (p45_11 (n0) (n0) (v0) (v1) ((2 : Int)) (Lk.ibits Go.BinOp.and Go.IntKind.u32 v6 (31 : Int)) ((128 : Int)))
   (sel (Decidable.decide (v6 ≥ (224 : Int)))
    (p45_2056 (j) (n0) (j) (v0) (v1) (v6) (v7) (v8) (v9) (Decidable.decide (v6 < (240 : Int))))
    (p45_2056 (j) (n0) (j) (v0) (v1) (v6) (v7) (v8) (v9) (Bool.false)))) := by kernel_rfl
theorem p45_11_eq (j : Nat) (n0 : Nat) (v0 : List (UInt8)) (v1 : Int) (v7 : Int) (v8 : Int) (v9 : Int) : p45_11 (j + 1) n0 v0 v1 v7 v8 v9 =
  (sel (v7 == (0 : Int))
   (p45_2060 (j) (n0) (j) (v0) (v1) (v7) (v8) (v9) (Bool.true))
   (p45_2060 (j) (n0) (j) (v0) (v1) (v7) (v8) (v9) (Decidable.decide (Go.IntKind.i64.wrap ((↑v0.length : Int) - v1) < v7)))) := by kernel_rfl
theorem p45_2056_eq (j : Nat) (n0 : Nat) (n1 : Nat) (v0 : List (UInt8)) (v1 : Int) (v6 : Int) (v7 : Int) (v8 : Int) (v9 : Int) (v29 : Bool) : p45_2056 (j + 1) n0 n1 v0 v1 v6 v7 v8 v9 v29 =
  (sel (v29)
   (p45_11 (n0) (n0) (v0) (v1) ((3 : Int)) (Lk.ibits Go.BinOp.and Go.IntKind.u32 v6 (15 : Int)) ((2048 : Int)))
   (sel (Decidable.decide (v6 ≥ (240 : Int)))
    (p45_2058 (j) (n0) (n1) (j) (v0) (v1) (v6) (v7) (v8) (v9) (Decidable.decide (v6 < (248 : Int))))
    (p45_2058 (j) (n0) (n1) (j) (v0) (v1) (v6) (v7) (v8) (v9) (Bool.false)))) := by kernel_rfl
theorem p45_2060_eq (j : Nat) (n0 : Nat) (n1 : Nat) (v0 : List (UInt8)) (v1 : Int) (v7 : Int) (v8 : Int) (v9 : Int) (v56 : Bool) : p45_2060 (j + 1) n0 n1 v0 v1 v7 v8 v9 v56 =
  (sel (v56)
   (some ((0 : Int), (0 : Int), ()))
   (p45_13 (n1) (n0) (n1) (v0) (v1) (v7) (v8) (v9))) := by kernel_rfl
theorem p45_2058_eq (j : Nat) (n0 : Nat) (n1 : Nat) (n2 : Nat) (v0 : List (UInt8)) (v1 : Int) (v6 : Int) (v7 : Int) (v8 : Int) (v9 : Int) (v38 : Bool) : p45_2058 (j + 1) n0 n1 n2 v0 v1 v6 v7 v8 v9 v38 =
  (sel (v38)
   (p45_11 (n0) (n0) (v0) (v1) ((4 : Int)) (Lk.ibits Go.BinOp.and Go.IntKind.u32 v6 (7 : Int)) ((65536 : Int)))
   (p45_11 (n0) (n0) (v0) (v1) (v7) (v8) (v9))) := by kernel_rfl
theorem p45_13_eq (j : Nat) (n0 : Nat) (n1 : Nat) (v0 : List (UInt8)) (v1 : Int) (v7 : Int) (v8 : Int) (v9 : Int) : p45_13 (j + 1) n0 n1 v0 v1 v7 v8 v9 =
  (p45_14 (j) (n0) (n1) (j) (v0) (v1) (v7) (v8) (v9) ((1 : Int))) := by kernel_rfl
theorem p45_14_eq (j : Nat) (n0 : Nat) (n1 : Nat) (n2 : Nat) (v0 : List (UInt8)) (v1 : Int) (v7 : Int) (v8 : Int) (v9 : Int) (v10 : Int) : p45_14 (j + 1) n0 n1 n2 v0 v1 v7 v8 v9 v10 =
  (sel (Decidable.decide (v10 < v7))
   (sel (Decidable.decide ((0 : Int) ≤ Go.IntKind.i64.wrap (v1 + v10)))
    (sel (Decidable.decide (Go.IntKind.i64.wrap (v1 + v10) < (↑v0.length : Int)))
     (sel ((↑(UInt8.ofNat (Lk.ibits Go.BinOp.and Go.IntKind.u8 (↑(UInt8.toNat (v0.getD (Go.IntKind.i64.wrap (v1 + v10)).toNat (0 : UInt8))) : Int) (↑(UInt8.toNat (192 : UInt8)) : Int)).toNat).toNat : Int) != (↑(UInt8.toNat (128 : UInt8)) : Int))
      (some ((0 : Int), (0 : Int), ()))
      (sel (Decidable.decide ((0 : Int) ≤ (6 : Int)))
       (sel (Decidable.decide ((0 : Int) ≤ Go.IntKind.i64.wrap (v1 + v10)))
        (sel (Decidable.decide (Go.IntKind.i64.wrap (v1 + v10) < (↑v0.length : Int)))
         (p45_14 (j) (n0) (n1) (n2) (v0) (v1) (v7) (Lk.ibits Go.BinOp.or Go.IntKind.u32 (Go.IntKind.u32.wrap (v8 * (2 : Int) ^ Min.min (Int.toNat (6 : Int)) Go.IntKind.u32.bits)) (Go.IntKind.u32.wrap (↑(UInt8.ofNat (Lk.ibits Go.BinOp.and Go.IntKind.u8 (↑(UInt8.toNat (v0.getD (Go.IntKind.i64.wrap (v1 + v10)).toNat (0 : UInt8))) : Int) (↑(UInt8.toNat (63 : UInt8)) : Int)).toNat).toNat : Int))) (v9) (Go.IntKind.i64.wrap (v10 + (1 : Int))))
         none)
        none)
       none))
     none)
    none)
   (sel (Decidable.decide (v8 < v9))
    (p45_2068 (n2) (n0) (n1) (n2) (v7) (v8) (Bool.true))
    (sel (Decidable.decide (v8 > (1114111 : Int)))
     (p45_2068 (n2) (n0) (n1) (n2) (v7) (v8) (Bool.true))
     (sel (Decidable.decide (v8 ≥ (55296 : Int)))
      (p45_2068 (n2) (n0) (n1) (n2) (v7) (v8) (Decidable.decide (v8 ≤ (57343 : Int))))
      (p45_2068 (n2) (n0) (n1) (n2) (v7) (v8) (Bool.false)))))) := by kernel_rfl
theorem p45_2068_eq (j : Nat) (n0 : Nat) (n1 : Nat) (n2 : Nat) (v7 : Int) (v8 : Int) (v95 : Bool) : p45_2068 (j + 1) n0 n1 n2 v7 v8 v95 =
  (sel (v95)
   (some ((0 : Int), (0 : Int), ()))
   (p45_21 (n2) (n0) (n1) (n2) (v7) (v8))) := by kernel_rfl
theorem p45_21_eq (j : Nat) (n0 : Nat) (n1 : Nat) (n2 : Nat) (v7 : Int) (v8 : Int) : p45_21 (j + 1) n0 n1 n2 v7 v8 =
  (some (v8, v7, ())) := by kernel_rfl
theorem f44_eq (n : Nat) (a0 : List UInt8) (a1 : Int) : f44 (n + 1) a0 a1 =
  (sel (Decidable.decide (Go.IntKind.i64.wrap (a1 + (1 : Int)) ≥ (↑a0.length : Int)))
   (some ((0 : UInt8), (0 : Int), ()))
   (sel (Decidable.decide ((0 : Int) ≤ Go.IntKind.i64.wrap (a1 + (1 : Int))))
    (sel (Decidable.decide (Go.IntKind.i64.wrap (a1 + (1 : Int)) < (↑a0.length : Int)))
     (sel ((↑(a0.getD (Go.IntKind.i64.wrap (a1 + (1 : Int))).toNat (0 : UInt8)).toNat : Int) == (↑(UInt8.toNat (110 : UInt8)) : Int))
      (some ((10 : UInt8), (2 : Int), ()))
      (sel ((↑(a0.getD (Go.IntKind.i64.wrap (a1 + (1 : Int))).toNat (0 : UInt8)).toNat : Int) == (↑(UInt8.toNat (116 : UInt8)) : Int))
       (some ((9 : UInt8), (2 : Int), ()))
       (sel ((↑(a0.getD (Go.IntKind.i64.wrap (a1 + (1 : Int))).toNat (0 : UInt8)).toNat : Int) == (↑(UInt8.toNat (115 : UInt8)) : Int))
        (some ((32 : UInt8), (2 : Int), ()))
        (sel ((↑(a0.getD (Go.IntKind.i64.wrap (a1 + (1 : Int))).toNat (0 : UInt8)).toNat : Int) == (↑(UInt8.toNat (34 : UInt8)) : Int))
         (p44_2060 (n) (n) (a0) (a1) (a0.getD (Go.IntKind.i64.wrap (a1 + (1 : Int))).toNat (0 : UInt8)) ((↑(a0.getD (Go.IntKind.i64.wrap (a1 + (1 : Int))).toNat (0 : UInt8)).toNat : Int) == (↑(UInt8.toNat (34 : UInt8)) : Int)))
         (p44_2060 (n) (n) (a0) (a1) (a0.getD (Go.IntKind.i64.wrap (a1 + (1 : Int))).toNat (0 : UInt8)) ((↑(a0.getD (Go.IntKind.i64.wrap (a1 + (1 : Int))).toNat (0 : UInt8)).toNat : Int) == (↑(UInt8.toNat (92 : UInt8)) : Int)))))))
     none)
    none)) := by kernel_rfl
theorem p44_2060_eq (j : Nat) (n0 : Nat) (v0 : List UInt8) (v1 : Int) (v14 : UInt8) (v21 : Bool) : p44_2060 (j + 1) n0 v0 v1 v14 v21 =
  (sel (v21)
   (sel (Decidable.decide ((0 : Int) ≤ Go.IntKind.i64.wrap (v1 + (1 : Int))))
    (sel (Decidable.decide (Go.IntKind.i64.wrap (v1 + (1 : Int)) < (↑v0.length : Int)))
     (some (v0.getD (Go.IntKind.i64.wrap (v1 + (1 : Int))).toNat (0 : UInt8), (2 : Int), ()))
     none)
    none)
   (sel ((↑v14.toNat : Int) == (↑(UInt8.toNat (120 : UInt8)) : Int))
    (sel (Decidable.decide (Go.IntKind.i64.wrap (v1 + (3 : Int)) < (↑v0.length : Int)))
     (sel (Decidable.decide ((0 : Int) ≤ Go.IntKind.i64.wrap (v1 + (2 : Int))))
      (sel (Decidable.decide (Go.IntKind.i64.wrap (v1 + (2 : Int)) < (↑v0.length : Int)))
       (obind (f66 j (v0.getD (Go.IntKind.i64.wrap (v1 + (2 : Int))).toNat (0 : UInt8))) fun r620 =>
        (sel (Decidable.decide (r620.fst < (16 : Int)))
         (sel (Decidable.decide ((0 : Int) ≤ Go.IntKind.i64.wrap (v1 + (3 : Int))))
          (sel (Decidable.decide (Go.IntKind.i64.wrap (v1 + (3 : Int)) < (↑v0.length : Int)))
           (obind (f66 j (v0.getD (Go.IntKind.i64.wrap (v1 + (3 : Int))).toNat (0 : UInt8))) fun r715 =>
            (p44_2063 (j) (n0) (j) (v0) (v1) (Decidable.decide (r715.fst < (16 : Int)))))
           none)
          none)
         (p44_2063 (j) (n0) (j) (v0) (v1) (Bool.false))))
       none)
      none)
     (p44_2063 (j) (n0) (j) (v0) (v1) (Bool.false)))
    (p44_16 (n0) (n0)))) := by kernel_rfl
theorem p44_2063_eq (j : Nat) (n0 : Nat) (n1 : Nat) (v0 : List UInt8) (v1 : Int) (v50 : Bool) : p44_2063 (j + 1) n0 n1 v0 v1 v50 =
  (sel (v50)
   (sel (Decidable.decide ((0 : Int) ≤ Go.IntKind.i64.wrap (v1 + (2 : Int))))
    (sel (Decidable.decide (Go.IntKind.i64.wrap (v1 + (2 : Int)) < (↑v0.length : Int)))
     (obind (f66 j (v0.getD (Go.IntKind.i64.wrap (v1 + (2 : Int))).toNat (0 : UInt8))) fun r1002 =>
      (sel (Decidable.decide ((0 : Int) ≤ Go.IntKind.i64.wrap (v1 + (3 : Int))))
       (sel (Decidable.decide (Go.IntKind.i64.wrap (v1 + (3 : Int)) < (↑v0.length : Int)))
        (obind (f66 j (v0.getD (Go.IntKind.i64.wrap (v1 + (3 : Int))).toNat (0 : UInt8))) fun r1052 =>
         (some (UInt8.ofNat (Go.IntKind.u8.wrap (Go.IntKind.i64.wrap (Go.IntKind.i64.wrap (r1002.fst * (16 : Int)) + r1052.fst))).toNat, (4 : Int), ())))
        none)
       none))
     none)
    none)
   (p44_16 (n0) (n0))) := by kernel_rfl
theorem p44_16_eq (j : Nat) (n0 : Nat) : p44_16 (j + 1) n0 =
  (some ((0 : UInt8), (0 : Int), ())) := by kernel_rfl
theorem f65_eq (n : Nat) (a0 : List (UInt8)) (a1 : Int) : f65 (n + 1) a0 a1 =
  (obind (f45 n (a0) (a1)) fun r56 =>
   (sel (r56.snd.fst == (0 : Int))
    (sel (Decidable.decide ((0 : Int) ≤ a1))
     (sel (Decidable.decide (a1 < (↑a0.length : Int)))
      (obind (f77 n (a0.getD a1.toNat (0 : UInt8))) fun r174 =>
       (some (r174.fst, (1 : Int), ())))
      none)
     none)
    (obind (f46 n (r56.fst)) fun r229 =>
     (sel (r229.fst)
      (sel (Decidable.decide ((0 : Int) ≤ Go.IntKind.i64.wrap (a1 + r56.snd.fst)))
       (sel (Decidable.decide (Go.IntKind.i64.wrap (a1 + r56.snd.fst) ≤ (↑a0.length : Int)))
        (sel (Decidable.decide ((0 : Int) ≤ a1))
         (sel (Decidable.decide (a1 ≤ Go.IntKind.i64.wrap (a1 + r56.snd.fst)))
          (some (Lk.ext a0 a1 (Go.IntKind.i64.wrap (a1 + r56.snd.fst)), r56.snd.fst, ()))
          none)
         none)
        none)
       none)
      (sel (r56.fst == (10 : Int))
       (some ([(92 : UInt8), (110 : UInt8)], (1 : Int), ()))
       (sel (r56.fst == (9 : Int))
        (some ([(92 : UInt8), (116 : UInt8)], (1 : Int), ()))
        (sel (r56.fst == (32 : Int))
         (some ([(92 : UInt8), (115 : UInt8)], (1 : Int), ()))
         (sel (r56.fst == (34 : Int))
          (p65_2061 (n) (n) (a0) (a1) (r56.snd.fst) (Bool.true))
          (p65_2061 (n) (n) (a0) (a1) (r56.snd.fst) (r56.fst == (92 : Int))))))))))) := by kernel_rfl
theorem p65_2061_eq (j : Nat) (n0 : Nat) (v0 : List (UInt8)) (v1 : Int) (v7 : Int) (v44 : Bool) : p65_2061 (j + 1) n0 v0 v1 v7 v44 =
  (sel (v44)
   (sel (Decidable.decide ((0 : Int) ≤ Go.IntKind.i64.wrap (v1 + (1 : Int))))
    (sel (Decidable.decide (Go.IntKind.i64.wrap (v1 + (1 : Int)) ≤ (↑v0.length : Int)))
     (sel (Decidable.decide ((0 : Int) ≤ v1))
      (sel (Decidable.decide (v1 ≤ Go.IntKind.i64.wrap (v1 + (1 : Int))))
       (sel (Decidable.decide ((1 : Nat) + (Lk.ext v0 v1 (Go.IntKind.i64.wrap (v1 + (1 : Int)))).length ≤ Lk.big))
        (some ([(92 : UInt8)] ++ Lk.ext v0 v1 (Go.IntKind.i64.wrap (v1 + (1 : Int))), (1 : Int), ()))
        none)
       none)
      none)
     none)
    none)
   (p65_14 (n0) (n0) (v0) (v1) (v7))) := by kernel_rfl
theorem p65_14_eq (j : Nat) (n0 : Nat) (v0 : List (UInt8)) (v1 : Int) (v7 : Int) : p65_14 (j + 1) n0 v0 v1 v7 =
  (p65_16 (j) (n0) (j) (v0) (v1) (v7) ([]) ((0 : Int))) := by kernel_rfl
theorem p65_16_eq (j : Nat) (n0 : Nat) (n1 : Nat) (v0 : List (UInt8)) (v1 : Int) (v7 : Int) (v8 : List UInt8) (v9 : Int) : p65_16 (j + 1) n0 n1 v0 v1 v7 v8 v9 =
  (sel (Decidable.decide (v9 < v7))
   (sel (Decidable.decide ((0 : Int) ≤ Go.IntKind.i64.wrap (v1 + v9)))
    (sel (Decidable.decide (Go.IntKind.i64.wrap (v1 + v9) < (↑v0.length : Int)))
     (obind (f77 j (v0.getD (Go.IntKind.i64.wrap (v1 + v9)).toNat (0 : UInt8))) fun r900 =>
      (sel (Decidable.decide (v8.length + List.length r900.fst ≤ Lk.big))
       (p65_16 (j) (n0) (n1) (v0) (v1) (v7) (v8 ++ r900.fst) (Go.IntKind.i64.wrap (v9 + (1 : Int))))
       none))
     none)
    none)
   (some (v8, v7, ()))) := by kernel_rfl
theorem f43_eq (n : Nat) (a0 : List UInt8) : f43 (n + 1) a0 =
  (p43_4 (n) (n) (a0) ([(34 : UInt8)]) ((0 : Int))) := by kernel_rfl
theorem p43_4_eq (j : Nat) (n0 : Nat) (v3 : List (UInt8)) (v4 : List (UInt8)) (v5 : Int) : p43_4 (j + 1) n0 v3 v4 v5 =
  (sel (Decidable.decide (v5 < (↑v3.length : Int)))
   (obind (f65 j (v3) (v5)) fun r172 =>
    (sel (Decidable.decide (v4.length + List.length r172.fst ≤ (1073741824 : Nat)))
     (p43_4 (j) (n0) (v3) (v4 ++ r172.fst) (Go.IntKind.i64.wrap (v5 + r172.snd.fst)))
     none))
   (sel (Decidable.decide (v4.length + (1 : Nat) ≤ (1073741824 : Nat)))
    (some (v4 ++ [(34 : UInt8)], ()))
    none)) := by kernel_rfl
theorem f23_eq (n : Nat) (a0 : List UInt8) : f23 (n + 1) a0 =
  (sel (a0 == [])
   (p23_2050 (n) (n) (a0) (Bool.true))
   (sel (Decidable.decide ((0 : Int) ≤ (0 : Int)))
    (sel (Decidable.decide ((0 : Int) < (↑a0.length : Int)))
     (p23_2050 (n) (n) (a0) ((↑(a0.getD (Int.toNat (0 : Int)) (0 : UInt8)).toNat : Int) != (↑(UInt8.toNat (34 : UInt8)) : Int)))
     none)
    none)) := by kernel_rfl
theorem p23_2050_eq (j : Nat) (n0 : Nat) (v0 : List UInt8) (v17 : Bool) : p23_2050 (j + 1) n0 v0 v17 =
  (sel (v17)
   (some ([], (0 : Int), (61 : Int), ()))
   (p23_3 (n0) (n0) (v0))) := by kernel_rfl
theorem p23_3_eq (j : Nat) (n0 : Nat) (v0 : List UInt8) : p23_3 (j + 1) n0 v0 =
  (p23_5 (j) (n0) (j) (v0) ([]) ((1 : Int))) := by kernel_rfl
theorem p23_5_eq (j : Nat) (n0 : Nat) (n1 : Nat) (v0 : List UInt8) (v5 : List (UInt8)) (v6 : Int) : p23_5 (j + 1) n0 n1 v0 v5 v6 =
  (sel (Decidable.decide (v6 < (↑v0.length : Int)))
   (sel (Decidable.decide ((0 : Int) ≤ v6))
    (sel (Decidable.decide (v6 < (↑v0.length : Int)))
     (sel ((↑(v0.getD v6.toNat (0 : UInt8)).toNat : Int) == (↑(UInt8.toNat (34 : UInt8)) : Int))
      (sel (Decidable.decide (Go.IntKind.i64.wrap (v6 + (1 : Int)) < (↑v0.length : Int)))
       (some ([], Go.IntKind.i64.wrap (v6 + (1 : Int)), (61 : Int), ()))
       (obind (f43 j (v5)) fun r479 =>
        (sel (!r479.fst == v0)
         (some ([], (0 : Int), (61 : Int), ()))
         (some (v5, (0 : Int), (0 : Int), ())))))
      (sel (Decidable.decide ((0 : Int) ≤ v6))
       (sel (Decidable.decide (v6 < (↑v0.length : Int)))
        (sel ((↑(v0.getD v6.toNat (0 : UInt8)).toNat : Int) == (↑(UInt8.toNat (92 : UInt8)) : Int))
         (obind (f44 j (v0) (v6)) fun r698 =>
          (sel (r698.snd.fst == (0 : Int))
           (some ([], v6, (61 : Int), ()))
           (sel (Decidable.decide (v5.length + (1 : Nat) ≤ (1073741824 : Nat)))
            (p23_5 (j) (n0) (n1) (v0) (v5 ++ [r698.fst]) (Go.IntKind.i64.wrap (v6 + r698.snd.fst)))
            none)))
         (sel (Decidable.decide ((0 : Int) ≤ Lk.imin (Go.IntKind.i64.wrap (v6 + (4 : Int))) (↑v0.length : Int)))
          (sel (Decidable.decide (Lk.imin (Go.IntKind.i64.wrap (v6 + (4 : Int))) (↑v0.length : Int) ≤ (↑v0.length : Int)))
           (sel (Decidable.decide ((0 : Int) ≤ v6))
            (sel (Decidable.decide (v6 ≤ Lk.imin (Go.IntKind.i64.wrap (v6 + (4 : Int))) (↑v0.length : Int)))
             (obind (f45 j (Lk.ext v0 v6 (Lk.imin (Go.IntKind.i64.wrap (v6 + (4 : Int))) (↑v0.length : Int))) ((0 : Int))) fun r1002 =>
              (sel (r1002.snd.fst == (0 : Int))
               (p23_2068 (j) (n0) (n1) (j) (v0) (v5) (v6) (r1002.snd.fst) (Bool.true))
               (obind (f46 j (r1002.fst)) fun r1130 =>
                (p23_2068 (j) (n0) (n1) (j) (v0) (v5) (v6) (r1002.snd.fst) (!r1130.fst)))))
             none)
            none)
           none)
          none))
        none)
       none))
     none)
    none)
   (some ([], (↑v0.length : Int), (61 : Int), ()))) := by kernel_rfl
theorem p23_2068_eq (j : Nat) (n0 : Nat) (n1 : Nat) (n2 : Nat) (v0 : List UInt8) (v5 : List (UInt8)) (v6 : Int) (v10 : Int) (v79 : Bool) : p23_2068 (j + 1) n0 n1 n2 v0 v5 v6 v10 v79 =
  (sel (v79)
   (some ([], v6, (61 : Int), ()))
   (p23_21 (n2) (n0) (n1) (n2) (v0) (v5) (v6) (v10))) := by kernel_rfl
theorem p23_21_eq (j : Nat) (n0 : Nat) (n1 : Nat) (n2 : Nat) (v0 : List UInt8) (v5 : List (UInt8)) (v6 : Int) (v10 : Int) : p23_21 (j + 1) n0 n1 n2 v0 v5 v6 v10 =
  (sel (Decidable.decide ((0 : Int) ≤ Go.IntKind.i64.wrap (v6 + v10)))
   (sel (Decidable.decide (Go.IntKind.i64.wrap (v6 + v10) ≤ (↑v0.length : Int)))
    (sel (Decidable.decide ((0 : Int) ≤ v6))
     (sel (Decidable.decide (v6 ≤ Go.IntKind.i64.wrap (v6 + v10)))
      (sel (Decidable.decide (v5.length + (Lk.ext v0 v6 (Go.IntKind.i64.wrap (v6 + v10))).length ≤ (1073741824 : Nat)))
       (p23_5 (n2) (n0) (n1) (v0) (v5 ++ Lk.ext v0 v6 (Go.IntKind.i64.wrap (v6 + v10))) (Go.IntKind.i64.wrap (v6 + v10)))
       none)
      none)
     none)
    none)
   none) := by kernel_rfl
theorem f13_eq (n : Nat) (a0 : List UInt8) : f13 (n + 1) a0 =
  (sel (!a0 == [])
   (sel (Decidable.decide ((0 : Int) ≤ (0 : Int)))
    (sel (Decidable.decide ((0 : Int) < (↑a0.length : Int)))
     (p13_2050 (n) (n) (a0) ((↑(a0.getD (Int.toNat (0 : Int)) (0 : UInt8)).toNat : Int) == (↑(UInt8.toNat (34 : UInt8)) : Int)))
     none)
    none)
   (p13_2050 (n) (n) (a0) (Bool.false))) := by kernel_rfl
theorem p13_2050_eq (j : Nat) (n0 : Nat) (v0 : List UInt8) (v12 : Bool) : p13_2050 (j + 1) n0 v0 v12 =
  (sel (v12)
   (obind (f23 j (v0)) fun r173 =>
    (some (r173.fst, r173.snd.fst, r173.snd.snd.fst, ())))
   (p13_3 (n0) (n0) (v0))) := by kernel_rfl
theorem p13_3_eq (j : Nat) (n0 : Nat) (v0 : List UInt8) : p13_3 (j + 1) n0 v0 =
  (obind (f24 j (v0)) fun r261 =>
   (sel (Decidable.decide (r261.fst ≥ (0 : Int)))
    (some ([], r261.fst, (61 : Int), ()))
    (some (v0, (0 : Int), (0 : Int), ())))) := by kernel_rfl
theorem f12_eq (n : Nat) (a0 : List UInt8) : f12 (n + 1) a0 =
  (p12_6 (n) (n) (a0) ([]) ((-1 : Int)) (Bool.false) (Bool.false) ((0 : Int))) := by kernel_rfl
theorem p12_6_eq (j : Nat) (n0 : Nat) (v0 : List UInt8) (v5 : List (List UInt8)) (v6 : Int) (v7 : Bool) (v8 : Bool) (v9 : Int) : p12_6 (j + 1) n0 v0 v5 v6 v7 v8 v9 =
  (sel (Decidable.decide (v9 < (↑v0.length : Int)))
   (sel (Decidable.decide ((0 : Int) ≤ v9))
    (sel (Decidable.decide (v9 < (↑v0.length : Int)))
     (sel (Decidable.decide ((↑(v0.getD v9.toNat (0 : UInt8)).toNat : Int) < (↑(UInt8.toNat (32 : UInt8)) : Int)))
      (p12_2058 (j) (n0) (j) (v0) (v5) (v6) (v7) (v8) (v9) (v0.getD v9.toNat (0 : UInt8)) (Bool.true))
      (sel ((↑(v0.getD v9.toNat (0 : UInt8)).toNat : Int) == (↑(UInt8.toNat (127 : UInt8)) : Int))
       (p12_2058 (j) (n0) (j) (v0) (v5) (v6) (v7) (v8) (v9) (v0.getD v9.toNat (0 : UInt8)) (Bool.true))
       (sel (v8)
        (p12_2058 (j) (n0) (j) (v0) (v5) (v6) (v7) (v8) (v9) (v0.getD v9.toNat (0 : UInt8)) ((↑(v0.getD v9.toNat (0 : UInt8)).toNat : Int) != (↑(UInt8.toNat (32 : UInt8)) : Int)))
        (p12_2058 (j) (n0) (j) (v0) (v5) (v6) (v7) (v8) (v9) (v0.getD v9.toNat (0 : UInt8)) (Bool.false)))))
     none)
    none)
   (sel (v7)
    (some ([], v6, (61 : Int), ()))
    (sel (Decidable.decide (v6 ≥ (0 : Int)))
     (sel (Decidable.decide ((0 : Int) ≤ v6))
      (sel (Decidable.decide (v6 ≤ (↑v0.length : Int)))
       (sel (Decidable.decide (v5.length + (1 : Nat) ≤ (1073741824 : Nat)))
        (p12_30 (n0) (n0) (v5 ++ [Lk.ext v0 v6 (↑v0.length : Int)]))
        none)
       none)
      none)
     (p12_30 (n0) (n0) (v5))))) := by kernel_rfl
theorem p12_2058_eq (j : Nat) (n0 : Nat) (n1 : Nat) (v0 : List UInt8) (v5 : List (List UInt8)) (v6 : Int) (v7 : Bool) (v8 : Bool) (v9 : Int) (v10 : UInt8) (v20 : Bool) : p12_2058 (j + 1) n0 n1 v0 v5 v6 v7 v8 v9 v10 v20 =
  (sel (v20)
   (some ([], v9, (61 : Int), ()))
   (sel ((↑v10.toNat : Int) == (↑(UInt8.toNat (32 : UInt8)) : Int))
    (p12_2060 (j) (n0) (n1) (j) (v0) (v5) (v6) (v7) (v8) (v9) (v10) (!v7))
    (p12_2060 (j) (n0) (n1) (j) (v0) (v5) (v6) (v7) (v8) (v9) (v10) (Bool.false)))) := by kernel_rfl
theorem p12_30_eq (j : Nat) (n0 : Nat) (v5 : List (List UInt8)) : p12_30 (j + 1) n0 v5 =
  (some (v5, (0 : Int), (0 : Int), ())) := by kernel_rfl
theorem p12_2060_eq (j : Nat) (n0 : Nat) (n1 : Nat) (n2 : Nat) (v0 : List UInt8) (v5 : List (List UInt8)) (v6 : Int) (v7 : Bool) (v8 : Bool) (v9 : Int) (v10 : UInt8) (v35 : Bool) : p12_2060 (j + 1) n0 n1 n2 v0 v5 v6 v7 v8 v9 v10 v35 =
  (sel (v35)
   (sel (Decidable.decide (v6 ≥ (0 : Int)))
    (sel (Decidable.decide ((0 : Int) ≤ v9))
     (sel (Decidable.decide (v9 ≤ (↑v0.length : Int)))
      (sel (Decidable.decide ((0 : Int) ≤ v6))
       (sel (Decidable.decide (v6 ≤ v9))
        (sel (Decidable.decide (v5.length + (1 : Nat) ≤ (1073741824 : Nat)))
         (p12_14 (j) (n0) (n1) (n2) (j) (v0) (v5 ++ [Lk.ext v0 v6 v9]) (v7) (v9))
         none)
        none)
       none)
      none)
     none)
    (p12_14 (j) (n0) (n1) (n2) (j) (v0) (v5) (v7) (v9)))
   (sel (Decidable.decide (v6 < (0 : Int)))
    (p12_7 (n1) (n0) (n1) (v0) (v5) (v9) ((↑v10.toNat : Int) == (↑(UInt8.toNat (34 : UInt8)) : Int)) (v8) (v9))
    (sel (v7)
     (p12_2068 (j) (n0) (n1) (n2) (j) (v0) (v5) (v6) (v7) (v8) (v9) (v10) ((↑v10.toNat : Int) == (↑(UInt8.toNat (92 : UInt8)) : Int)))
     (p12_2068 (j) (n0) (n1) (n2) (j) (v0) (v5) (v6) (v7) (v8) (v9) (v10) (Bool.false))))) := by kernel_rfl
theorem p12_14_eq (j : Nat) (n0 : Nat) (n1 : Nat) (n2 : Nat) (n3 : Nat) (v0 : List UInt8) (v5 : List (List UInt8)) (v7 : Bool) (v9 : Int) : p12_14 (j + 1) n0 n1 n2 n3 v0 v5 v7 v9 =
  (p12_7 (n1) (n0) (n1) (v0) (v5) ((-1 : Int)) (v7) (Bool.false) (v9)) := by kernel_rfl
theorem p12_7_eq (j : Nat) (n0 : Nat) (n1 : Nat) (v0 : List UInt8) (v5 : List (List UInt8)) (v6 : Int) (v7 : Bool) (v8 : Bool) (v9 : Int) : p12_7 (j + 1) n0 n1 v0 v5 v6 v7 v8 v9 =
  (p12_6 (n1) (n0) (v0) (v5) (v6) (v7) (v8) (Go.IntKind.i64.wrap (v9 + (1 : Int)))) := by kernel_rfl
theorem p12_2068_eq (j : Nat) (n0 : Nat) (n1 : Nat) (n2 : Nat) (n3 : Nat) (v0 : List UInt8) (v5 : List (List UInt8)) (v6 : Int) (v7 : Bool) (v8 : Bool) (v9 : Int) (v10 : UInt8) (v57 : Bool) : p12_2068 (j + 1) n0 n1 n2 n3 v0 v5 v6 v7 v8 v9 v10 v57 =
  (sel (v57)
   (sel (Decidable.decide (Go.IntKind.i64.wrap (v9 + (1 : Int)) < (↑v0.length : Int)))
    (sel (Decidable.decide ((0 : Int) ≤ Go.IntKind.i64.wrap (v9 + (1 : Int))))
     (sel (Decidable.decide (Go.IntKind.i64.wrap (v9 + (1 : Int)) < (↑v0.length : Int)))
      (sel (Decidable.decide ((↑(v0.getD (Go.IntKind.i64.wrap (v9 + (1 : Int))).toNat (0 : UInt8)).toNat : Int) < (↑(UInt8.toNat (32 : UInt8)) : Int)))
       (p12_2070 (j) (n0) (n1) (n2) (n3) (j) (v0) (v5) (v6) (v7) (v8) (Go.IntKind.i64.wrap (v9 + (1 : Int))) (Bool.true))
       (sel (Decidable.decide ((0 : Int) ≤ Go.IntKind.i64.wrap (v9 + (1 : Int))))
        (sel (Decidable.decide (Go.IntKind.i64.wrap (v9 + (1 : Int)) < (↑v0.length : Int)))
         (p12_2070 (j) (n0) (n1) (n2) (n3) (j) (v0) (v5) (v6) (v7) (v8) (Go.IntKind.i64.wrap (v9 + (1 : Int))) ((↑(v0.getD (Go.IntKind.i64.wrap (v9 + (1 : Int))).toNat (0 : UInt8)).toNat : Int) == (↑(UInt8.toNat (127 : UInt8)) : Int)))
         none)
        none))
      none)
     none)
    (p12_2070 (j) (n0) (n1) (n2) (n3) (j) (v0) (v5) (v6) (v7) (v8) (Go.IntKind.i64.wrap (v9 + (1 : Int))) (Bool.false)))
   (sel (v7)
    (p12_2072 (j) (n0) (n1) (n2) (n3) (j) (v0) (v5) (v6) (v7) (v8) (v9) ((↑v10.toNat : Int) == (↑(UInt8.toNat (34 : UInt8)) : Int)))
    (p12_2072 (j) (n0) (n1) (n2) (n3) (j) (v0) (v5) (v6) (v7) (v8) (v9) (Bool.false)))) := by kernel_rfl
theorem p12_2070_eq (j : Nat) (n0 : Nat) (n1 : Nat) (n2 : Nat) (n3 : Nat) (n4 : Nat) (v0 : List UInt8) (v5 : List (List UInt8)) (v6 : Int) (v7 : Bool) (v8 : Bool) (v9 : Int) (v80 : Bool) : p12_2070 (j + 1) n0 n1 n2 n3 n4 v0 v5 v6 v7 v8 v9 v80 =
  (sel (v80)
   (some ([], v9, (61 : Int), ()))
   (p12_7 (n1) (n0) (n1) (v0) (v5) (v6) (v7) (v8) (v9))) := by kernel_rfl
theorem p12_2072_eq (j : Nat) (n0 : Nat) (n1 : Nat) (n2 : Nat) (n3 : Nat) (n4 : Nat) (v0 : List UInt8) (v5 : List (List UInt8)) (v6 : Int) (v7 : Bool) (v8 : Bool) (v9 : Int) (v82 : Bool) : p12_2072 (j + 1) n0 n1 n2 n3 n4 v0 v5 v6 v7 v8 v9 v82 =
  (sel (v82)
   (p12_7 (n1) (n0) (n1) (v0) (v5) (v6) (Bool.false) (Bool.true) (v9))
   (p12_7 (n1) (n0) (n1) (v0) (v5) (v6) (v7) (v8) (v9))) := by kernel_rfl
theorem f47_eq (n : Nat) (a0 : List UInt8) : f47 (n + 1) a0 =
  (sel (Decidable.decide ((↑a0.length : Int) < (1 : Int)))
   (p47_2050 (n) (n) (a0) (Bool.true))
   (sel (Decidable.decide ((↑a0.length : Int) > (9 : Int)))
    (p47_2050 (n) (n) (a0) (Bool.true))
    (sel (Decidable.decide ((↑a0.length : Int) > (1 : Int)))
     (sel (Decidable.decide ((0 : Int) ≤ (0 : Int)))
      (sel (Decidable.decide ((0 : Int) < (↑a0.length : Int)))
       (p47_2050 (n) (n) (a0) ((↑(a0.getD (Int.toNat (0 : Int)) (0 : UInt8)).toNat : Int) == (↑(UInt8.toNat (48 : UInt8)) : Int)))
       none)
      none)
     (p47_2050 (n) (n) (a0) (Bool.false))))) := by kernel_rfl
theorem p47_2050_eq (j : Nat) (n0 : Nat) (v0 : List UInt8) (v23 : Bool) : p47_2050 (j + 1) n0 v0 v23 =
  (sel (v23)
   (some ((0 : Int), Bool.false, ()))
   (p47_3 (n0) (n0) (v0))) := by kernel_rfl
theorem p47_3_eq (j : Nat) (n0 : Nat) (v0 : List UInt8) : p47_3 (j + 1) n0 v0 =
  (p47_5 (j) (n0) (j) (v0) ((0 : Int)) ((0 : Int))) := by kernel_rfl
theorem p47_5_eq (j : Nat) (n0 : Nat) (n1 : Nat) (v0 : List UInt8) (v4 : Int) (v5 : Int) : p47_5 (j + 1) n0 n1 v0 v4 v5 =
  (sel (Decidable.decide (v5 < (↑v0.length : Int)))
   (sel (Decidable.decide ((0 : Int) ≤ v5))
    (sel (Decidable.decide (v5 < (↑v0.length : Int)))
     (sel (Decidable.decide ((↑(v0.getD v5.toNat (0 : UInt8)).toNat : Int) < (↑(UInt8.toNat (48 : UInt8)) : Int)))
      (p47_2056 (j) (n0) (n1) (j) (v0) (v4) (v5) (Bool.true))
      (sel (Decidable.decide ((0 : Int) ≤ v5))
       (sel (Decidable.decide (v5 < (↑v0.length : Int)))
        (p47_2056 (j) (n0) (n1) (j) (v0) (v4) (v5) (Decidable.decide ((↑(v0.getD v5.toNat (0 : UInt8)).toNat : Int) > (↑(UInt8.toNat (57 : UInt8)) : Int))))
        none)
       none))
     none)
    none)
   (some (v4, Decidable.decide (v4 ≤ (268435456 : Int)), ()))) := by kernel_rfl
theorem p47_2056_eq (j : Nat) (n0 : Nat) (n1 : Nat) (n2 : Nat) (v0 : List UInt8) (v4 : Int) (v5 : Int) (v39 : Bool) : p47_2056 (j + 1) n0 n1 n2 v0 v4 v5 v39 =
  (sel (v39)
   (some ((0 : Int), Bool.false, ()))
   (p47_9 (n2) (n0) (n1) (n2) (v0) (v4) (v5))) := by kernel_rfl
theorem p47_9_eq (j : Nat) (n0 : Nat) (n1 : Nat) (n2 : Nat) (v0 : List UInt8) (v4 : Int) (v5 : Int) : p47_9 (j + 1) n0 n1 n2 v0 v4 v5 =
  (sel (Decidable.decide ((0 : Int) ≤ v5))
   (sel (Decidable.decide (v5 < (↑v0.length : Int)))
    (p47_6 (n2) (n0) (n1) (n2) (v0) (Go.IntKind.i64.wrap (Go.IntKind.i64.wrap (v4 * (10 : Int)) + Go.IntKind.i64.wrap (↑(UInt8.ofNat (Go.IntKind.u8.wrap ((↑(v0.getD v5.toNat (0 : UInt8)).toNat : Int) - (↑(UInt8.toNat (48 : UInt8)) : Int))).toNat).toNat : Int))) (v5))
    none)
   none) := by kernel_rfl
theorem p47_6_eq (j : Nat) (n0 : Nat) (n1 : Nat) (n2 : Nat) (v0 : List UInt8) (v4 : Int) (v5 : Int) : p47_6 (j + 1) n0 n1 n2 v0 v4 v5 =
  (p47_5 (n2) (n0) (n1) (v0) (v4) (Go.IntKind.i64.wrap (v5 + (1 : Int)))) := by kernel_rfl
theorem f25_eq (n : Nat) (a0 : List (List UInt8)) : f25 (n + 1) a0 =
  (p25_2 (n) (n) (a0) ((0 : Int))) := by kernel_rfl
theorem p25_2_eq (j : Nat) (n0 : Nat) (v0 : List (List UInt8)) (v3 : Int) : p25_2 (j + 1) n0 v0 v3 =
  (sel (Decidable.decide (v3 < (↑v0.length : Int)))
   (sel (Decidable.decide ((0 : Int) ≤ v3))
    (sel (Decidable.decide (v3 < (↑v0.length : Int)))
     (obind (f47 j (v0.getD v3.toNat [])) fun r134 =>
      (sel (!r134.snd.fst)
       (some (Bool.false, ()))
       (p25_2 (j) (n0) (v0) (Go.IntKind.i64.wrap (v3 + (1 : Int))))))
     none)
    none)
   (some (Bool.true, ()))) := by kernel_rfl
theorem f26_eq (n : Nat) (a0 : List UInt8) : f26 (n + 1) a0 =
  (sel (a0 == [(98 : UInt8), (108 : UInt8), (111 : UInt8), (99 : UInt8), (107 : UInt8)])
   (p26_2065 (n) (n) (a0 == [(98 : UInt8), (108 : UInt8), (111 : UInt8), (99 : UInt8), (107 : UInt8)]))
   (sel (a0 == [(109 : UInt8), (101 : UInt8), (109 : UInt8)])
    (p26_2065 (n) (n) (a0 == [(109 : UInt8), (101 : UInt8), (109 : UInt8)]))
    (sel (a0 == [(102 : UInt8), (114 : UInt8), (111 : UInt8), (122 : UInt8), (101 : UInt8), (110 : UInt8)])
     (p26_2065 (n) (n) (a0 == [(102 : UInt8), (114 : UInt8), (111 : UInt8), (122 : UInt8), (101 : UInt8), (110 : UInt8)]))
     (sel (a0 == [(112 : UInt8), (97 : UInt8), (103 : UInt8), (101 : UInt8)])
      (p26_2065 (n) (n) (a0 == [(112 : UInt8), (97 : UInt8), (103 : UInt8), (101 : UInt8)]))
      (sel (a0 == [(114 : UInt8), (101 : UInt8), (115 : UInt8), (116 : UInt8), (97 : UInt8), (114 : UInt8), (116 : UInt8)])
       (p26_2065 (n) (n) (a0 == [(114 : UInt8), (101 : UInt8), (115 : UInt8), (116 : UInt8), (97 : UInt8), (114 : UInt8), (116 : UInt8)]))
       (sel (a0 == [(98 : UInt8), (105 : UInt8), (116 : UInt8), (115 : UInt8)])
        (p26_2065 (n) (n) (a0 == [(98 : UInt8), (105 : UInt8), (116 : UInt8), (115 : UInt8)]))
        (sel (a0 == [(99 : UInt8), (117 : UInt8), (116 : UInt8)])
         (p26_2065 (n) (n) (a0 == [(99 : UInt8), (117 : UInt8), (116 : UInt8)]))
         (sel (a0 == [(102 : UInt8), (105 : UInt8), (108 : UInt8), (101 : UInt8), (115 : UInt8), (48 : UInt8)])
          (p26_2065 (n) (n) (a0 == [(102 : UInt8), (105 : UInt8), (108 : UInt8), (101 : UInt8), (115 : UInt8), (48 : UInt8)]))
          (sel (a0 == [(115 : UInt8), (116 : UInt8), (111 : UInt8), (112 : UInt8), (48 : UInt8)])
           (p26_2065 (n) (n) (a0 == [(115 : UInt8), (116 : UInt8), (111 : UInt8), (112 : UInt8), (48 : UInt8)]))
           (sel (a0 == [(98 : UInt8), (97 : UInt8), (115 : UInt8), (101 : UInt8)])
            (p26_2065 (n) (n) (a0 == [(98 : UInt8), (97 : UInt8), (115 : UInt8), (101 : UInt8)]))
            (sel (a0 == [(114 : UInt8), (97 : UInt8), (116 : UInt8), (105 : UInt8), (111 : UInt8)])
             (p26_2065 (n) (n) (a0 == [(114 : UInt8), (97 : UInt8), (116 : UInt8), (105 : UInt8), (111 : UInt8)]))
             (sel (a0 == [(108 : UInt8), (101 : UInt8), (118 : UInt8), (101 : UInt8), (108 : UInt8), (115 : UInt8)])
              (p26_2065 (n) (n) (a0 == [(108 : UInt8), (101 : UInt8), (118 : UInt8), (101 : UInt8), (108 : UInt8), (115 : UInt8)]))
              (sel (a0 == [(99 : UInt8), (104 : UInt8), (117 : UInt8), (110 : UInt8), (107 : UInt8)])
               (p26_2065 (n) (n) (a0 == [(99 : UInt8), (104 : UInt8), (117 : UInt8), (110 : UInt8), (107 : UInt8)]))
               (sel (a0 == [(114 : UInt8), (111 : UInt8), (108 : UInt8), (108 : UInt8)])
                (p26_2065 (n) (n) (a0 == [(114 : UInt8), (111 : UInt8), (108 : UInt8), (108 : UInt8)]))
                (p26_2065 (n) (n) (a0 == [(99 : UInt8), (108 : UInt8), (105 : UInt8), (101 : UInt8), (110 : UInt8), (116 : UInt8), (115 : UInt8)])))))))))))))))) := by kernel_rfl
theorem p26_2065_eq (j : Nat) (n0 : Nat) (v4 : Bool) : p26_2065 (j + 1) n0 v4 =
  (sel (v4)
   (some (Bool.true, ()))
   (p26_18 (n0) (n0))) := by kernel_rfl
theorem p26_18_eq (j : Nat) (n0 : Nat) : p26_18 (j + 1) n0 =
  (some (Bool.false, ())) := by kernel_rfl
theorem f27_eq (n : Nat) (a0 : List (List UInt8)) : f27 (n + 1) a0 =
  (p27_2 (n) (n) (a0) ([])) := by kernel_rfl
theorem p27_2_eq (j : Nat) (n0 : Nat) (v0 : List (List UInt8)) (v4 : List ((Int × (List UInt8 × (List UInt8 × Unit))))) : p27_2 (j + 1) n0 v0 v4 =
  (sel (Decidable.decide ((↑v0.length : Int) > (0 : Int)))
   (sel (Decidable.decide ((0 : Int) ≤ (0 : Int)))
    (sel (Decidable.decide ((0 : Int) < (↑v0.length : Int)))
     (sel (v0.getD (Int.toNat (0 : Int)) [] == [(112 : UInt8), (117 : UInt8), (116 : UInt8)])
      (p27_14 (j) (n0) (j) (v0) (v4) ((3 : Int)) ((1 : Int)))
      (sel (v0.getD (Int.toNat (0 : Int)) [] == [(100 : UInt8), (101 : UInt8), (108 : UInt8)])
       (p27_14 (j) (n0) (j) (v0) (v4) ((2 : Int)) ((0 : Int)))
       (sel (v0.getD (Int.toNat (0 : Int)) [] == [(114 : UInt8), (97 : UInt8), (110 : UInt8), (103 : UInt8), (101 : UInt8)])
        (p27_14 (j) (n0) (j) (v0) (v4) ((3 : Int)) ((2 : Int)))
        (some ([], Bool.false, ())))))
     none)
    none)
   (some (v4, Bool.true, ()))) := by kernel_rfl
theorem p27_14_eq (j : Nat) (n0 : Nat) (n1 : Nat) (v0 : List (List UInt8)) (v4 : List ((Int × (List UInt8 × (List UInt8 × Unit))))) (v5 : Int) (v6 : Int) : p27_14 (j + 1) n0 n1 v0 v4 v5 v6 =
  (sel (Decidable.decide ((↑v0.length : Int) < v5))
   (some ([], Bool.false, ()))
   (sel (Decidable.decide ((0 : Int) ≤ (1 : Int)))
    (sel (Decidable.decide ((1 : Int) < (↑v0.length : Int)))
     (sel (Bool.true)
      (sel (v5 == (3 : Int))
       (sel (Decidable.decide ((0 : Int) ≤ (2 : Int)))
        (sel (Decidable.decide ((2 : Int) < (↑v0.length : Int)))
         (sel (Bool.true)
          (p27_19 (j) (n0) (n1) (j) (v0) (v4) (v5) (Option.some (v6, v0.getD (Int.toNat (1 : Int)) [], v0.getD (Int.toNat (2 : Int)) [], ())))
          none)
         none)
        none)
       (p27_19 (j) (n0) (n1) (j) (v0) (v4) (v5) (Option.some (v6, v0.getD (Int.toNat (1 : Int)) [], [], ()))))
      none)
     none)
    none)) := by kernel_rfl
theorem p27_19_eq (j : Nat) (n0 : Nat) (n1 : Nat) (n2 : Nat) (v0 : List (List UInt8)) (v4 : List ((Int × (List UInt8 × (List UInt8 × Unit))))) (v5 : Int) (v7 : Option ((Int × (List UInt8 × (List UInt8 × Unit))))) : p27_19 (j + 1) n0 n1 n2 v0 v4 v5 v7 =
  (sel (v7.isSome)
   (sel (Decidable.decide (v4.length + (1 : Nat) ≤ (1073741824 : Nat)))
    (sel (Decidable.decide ((0 : Int) ≤ v5))
     (sel (Decidable.decide (v5 ≤ (↑v0.length : Int)))
      (p27_2 (n1) (n0) (Lk.ext v0 v5 (↑v0.length : Int)) (v4 ++ [v7.getD ((0 : Int), [], [], ())]))
      none)
     none)
    none)
   none) := by kernel_rfl
theorem f28_eq (n : Nat) (a0 : List UInt8) : f28 (n + 1) a0 =
  (obind (f47 n (a0)) fun r42 =>
   (sel (r42.snd.fst)
    (sel (Decidable.decide (r42.fst ≥ (1 : Int)))
     (some (Decidable.decide (r42.fst ≤ (65536 : Int)), ()))
     (some (Bool.false, ())))
    (some (Bool.false, ())))) := by kernel_rfl
theorem f29_eq (n : Nat) (a0 : List UInt8) : f29 (n + 1) a0 =
  (sel (a0 == [(111 : UInt8), (112 : UInt8), (101 : UInt8), (110 : UInt8)])
   (some ((-1 : Int), Bool.true, ()))
   (sel (a0 == [(102 : UInt8), (108 : UInt8), (117 : UInt8), (115 : UInt8), (104 : UInt8)])
    (some ((-2 : Int), Bool.true, ()))
    (sel (a0 == [(99 : UInt8), (111 : UInt8), (109 : UInt8), (112 : UInt8), (97 : UInt8), (99 : UInt8), (116 : UInt8)])
     (some ((-3 : Int), Bool.true, ()))
     (sel (a0 == [(115 : UInt8), (119 : UInt8), (101 : UInt8), (101 : UInt8), (112 : UInt8)])
      (some ((-4 : Int), Bool.true, ()))
      (sel (a0 == [(114 : UInt8), (111 : UInt8), (108 : UInt8), (108 : UInt8)])
       (some ((-5 : Int), Bool.true, ()))
       (obind (f47 n (a0)) fun r398 =>
        (some (r398.fst, r398.snd.fst, ())))))))) := by kernel_rfl
theorem f14_eq (n : Nat) (a0 : List UInt8) (a1 : List (List UInt8)) : f14 (n + 1) a0 a1 =
  (sel (a0 == [(100 : UInt8), (105 : UInt8), (115 : UInt8), (107 : UInt8)])
   (p14_2053 (n) (n) (a1) ((↑a1.length : Int)) (a0) (a0 == [(100 : UInt8), (105 : UInt8), (115 : UInt8), (107 : UInt8)]))
   (p14_2053 (n) (n) (a1) ((↑a1.length : Int)) (a0) (a0 == [(113 : UInt8), (117 : UInt8), (111 : UInt8), (116 : UInt8), (97 : UInt8)]))) := by kernel_rfl
theorem p14_2053_eq (j : Nat) (n0 : Nat) (v1 : List (List UInt8)) (v5 : Int) (v12 : List UInt8) (v13 : Bool) : p14_2053 (j + 1) n0 v1 v5 v12 v13 =
  (sel (v13)
   (sel (v5 == (1 : Int))
    (obind (f25 j (v1)) fun r185 =>
     (some (r185.fst, ())))
    (some (Bool.false, ())))
   (sel (v12 == [(115 : UInt8), (101 : UInt8), (116 : UInt8)])
    (sel (Decidable.decide (v5 ≥ (2 : Int)))
     (sel (Decidable.decide ((0 : Int) ≤ (0 : Int)))
      (sel (Decidable.decide ((0 : Int) < (↑v1.length : Int)))
       (p14_2056 (j) (n0) (j) (v1) (v5) (v1.getD (Int.toNat (0 : Int)) [] == [(104 : UInt8), (101 : UInt8), (105 : UInt8), (103 : UInt8), (104 : UInt8), (116 : UInt8), (115 : UInt8)]))
       none)
      none)
     (p14_2056 (j) (n0) (j) (v1) (v5) (Bool.false)))
    (sel (v12 == [(111 : UInt8), (112 : UInt8), (101 : UInt8), (110 : UInt8)])
     (p14_2061 (j) (n0) (j) (v1) (v5) (v12) (v12 == [(111 : UInt8), (112 : UInt8), (101 : UInt8), (110 : UInt8)]))
     (sel (v12 == [(108 : UInt8), (111 : UInt8), (111 : UInt8), (107 : UInt8)])
      (p14_2061 (j) (n0) (j) (v1) (v5) (v12) (v12 == [(108 : UInt8), (111 : UInt8), (111 : UInt8), (107 : UInt8)]))
      (p14_2061 (j) (n0) (j) (v1) (v5) (v12) (v12 == [(108 : UInt8), (105 : UInt8), (115 : UInt8), (116 : UInt8)])))))) := by kernel_rfl
theorem p14_2056_eq (j : Nat) (n0 : Nat) (n1 : Nat) (v1 : List (List UInt8)) (v5 : Int) (v31 : Bool) : p14_2056 (j + 1) n0 n1 v1 v5 v31 =
  (sel (v31)
   (sel (Decidable.decide (v5 ≤ (65 : Int)))
    (sel (Decidable.decide ((0 : Int) ≤ (1 : Int)))
     (sel (Decidable.decide ((1 : Int) ≤ (↑v1.length : Int)))
      (obind (f25 j (Lk.ext v1 (1 : Int) (↑v1.length : Int))) fun r585 =>
       (some (r585.fst, ())))
      none)
     none)
    (some (Bool.false, ())))
   (p14_9 (n1) (n0) (n1) (v1) (v5))) := by kernel_rfl
theorem p14_2061_eq (j : Nat) (n0 : Nat) (n1 : Nat) (v1 : List (List UInt8)) (v5 : Int) (v12 : List UInt8) (v52 : Bool) : p14_2061 (j + 1) n0 n1 v1 v5 v12 v52 =
  (sel (v52)
   (some (v5 == (0 : Int), ()))
   (sel (v12 == [(98 : UInt8), (97 : UInt8), (116 : UInt8), (99 : UInt8), (104 : UInt8)])
    (sel (Decidable.decide (v5 < (2 : Int)))
     (p14_2064 (j) (n0) (n1) (j) (v1) (Bool.true))
     (sel (Decidable.decide ((0 : Int) ≤ (1 : Int)))
      (sel (Decidable.decide ((1 : Int) ≤ (↑v1.length : Int)))
       (obind (f25 j (Lk.ext v1 (0 : Int) (1 : Int))) fun r969 =>
        (sel (!r969.fst)
         (p14_2064 (j) (n0) (n1) (j) (v1) (Bool.true))
         (sel (Decidable.decide ((0 : Int) ≤ (1 : Int)))
          (sel (Decidable.decide ((1 : Int) < (↑v1.length : Int)))
           (sel (!v1.getD (Int.toNat (1 : Int)) [] == [(115 : UInt8), (121 : UInt8), (110 : UInt8), (99 : UInt8)])
            (sel (Decidable.decide ((0 : Int) ≤ (1 : Int)))
             (sel (Decidable.decide ((1 : Int) < (↑v1.length : Int)))
              (p14_2064 (j) (n0) (n1) (j) (v1) (!v1.getD (Int.toNat (1 : Int)) [] == [(102 : UInt8), (97 : UInt8), (115 : UInt8), (116 : UInt8)]))
              none)
             none)
            (p14_2064 (j) (n0) (n1) (j) (v1) (Bool.false)))
           none)
          none)))
       none)
      none))
    (sel (v12 == [(103 : UInt8), (101 : UInt8), (116 : UInt8)])
     (sel (v5 == (2 : Int))
      (sel (Decidable.decide ((0 : Int) ≤ (1 : Int)))
       (sel (Decidable.decide ((1 : Int) ≤ (↑v1.length : Int)))
        (obind (f25 j (Lk.ext v1 (0 : Int) (1 : Int))) fun r1410 =>
         (sel (r1410.fst)
          (sel (Decidable.decide ((0 : Int) ≤ (2 : Int)))
           (sel (Decidable.decide ((2 : Int) ≤ (↑v1.length : Int)))
            (obind (f25 j (Lk.ext v1 (2 : Int) (↑v1.length : Int))) fun r1466 =>
             (some (r1466.fst, ())))
            none)
           none)
          (some (Bool.false, ()))))
        none)
       none)
      (sel (v5 == (3 : Int))
       (sel (Decidable.decide ((0 : Int) ≤ (1 : Int)))
        (sel (Decidable.decide ((1 : Int) ≤ (↑v1.length : Int)))
         (obind (f25 j (Lk.ext v1 (0 : Int) (1 : Int))) fun r1626 =>
          (sel (r1626.fst)
           (sel (Decidable.decide ((0 : Int) ≤ (2 : Int)))
            (sel (Decidable.decide ((2 : Int) ≤ (↑v1.length : Int)))
             (obind (f25 j (Lk.ext v1 (2 : Int) (↑v1.length : Int))) fun r1682 =>
              (some (r1682.fst, ())))
             none)
            none)
           (some (Bool.false, ()))))
         none)
        none)
       (some (Bool.false, ()))))
     (sel (v12 == [(115 : UInt8), (110 : UInt8), (97 : UInt8), (112 : UInt8)])
      (p14_2071 (j) (n0) (n1) (j) (v1) (v5) (v12) (v12 == [(115 : UInt8), (110 : UInt8), (97 : UInt8), (112 : UInt8)]))
      (p14_2071 (j) (n0) (n1) (j) (v1) (v5) (v12) (v12 == [(116 : UInt8), (97 : UInt8), (107 : UInt8), (101 : UInt8)])))))) := by kernel_rfl
theorem p14_9_eq (j : Nat) (n0 : Nat) (n1 : Nat) (v1 : List (List UInt8)) (v5 : Int) : p14_9 (j + 1) n0 n1 v1 v5 =
  (sel (v5 == (2 : Int))
   (sel (Decidable.decide ((0 : Int) ≤ (0 : Int)))
    (sel (Decidable.decide ((0 : Int) < (↑v1.length : Int)))
     (obind (f26 j (v1.getD (Int.toNat (0 : Int)) [])) fun r2006 =>
      (sel (r2006.fst)
       (sel (Decidable.decide ((0 : Int) ≤ (1 : Int)))
        (sel (Decidable.decide ((1 : Int) ≤ (↑v1.length : Int)))
         (obind (f25 j (Lk.ext v1 (1 : Int) (↑v1.length : Int))) fun r2062 =>
          (some (r2062.fst, ())))
         none)
        none)
       (some (Bool.false, ()))))
     none)
    none)
   (some (Bool.false, ()))) := by kernel_rfl
theorem p14_2064_eq (j : Nat) (n0 : Nat) (n1 : Nat) (n2 : Nat) (v1 : List (List UInt8)) (v79 : Bool) : p14_2064 (j + 1) n0 n1 n2 v1 v79 =
  (sel (v79)
   (some (Bool.false, ()))
   (p14_17 (n2) (n0) (n1) (n2) (v1))) := by kernel_rfl
theorem p14_2071_eq (j : Nat) (n0 : Nat) (n1 : Nat) (n2 : Nat) (v1 : List (List UInt8)) (v5 : Int) (v12 : List UInt8) (v105 : Bool) : p14_2071 (j + 1) n0 n1 n2 v1 v5 v12 v105 =
  (sel (v105)
   (sel (v5 == (1 : Int))
    (obind (f25 j (v1)) fun r2362 =>
     (some (r2362.fst, ())))
    (some (Bool.false, ())))
   (sel (v12 == [(102 : UInt8), (114 : UInt8), (101 : UInt8), (101 : UInt8)])
    (p14_2079 (j) (n0) (n1) (n2) (j) (v1) (v5) (v12) (v12 == [(102 : UInt8), (114 : UInt8), (101 : UInt8), (101 : UInt8)]))
    (sel (v12 == [(102 : UInt8), (105 : UInt8), (114 : UInt8), (115 : UInt8), (116 : UInt8)])
     (p14_2079 (j) (n0) (n1) (n2) (j) (v1) (v5) (v12) (v12 == [(102 : UInt8), (105 : UInt8), (114 : UInt8), (115 : UInt8), (116 : UInt8)]))
     (sel (v12 == [(108 : UInt8), (97 : UInt8), (115 : UInt8), (116 : UInt8)])
      (p14_2079 (j) (n0) (n1) (n2) (j) (v1) (v5) (v12) (v12 == [(108 : UInt8), (97 : UInt8), (115 : UInt8), (116 : UInt8)]))
      (sel (v12 == [(110 : UInt8), (101 : UInt8), (120 : UInt8), (116 : UInt8)])
       (p14_2079 (j) (n0) (n1) (n2) (j) (v1) (v5) (v12) (v12 == [(110 : UInt8), (101 : UInt8), (120 : UInt8), (116 : UInt8)]))
       (sel (v12 == [(112 : UInt8), (114 : UInt8), (101 : UInt8), (118 : UInt8)])
        (p14_2079 (j) (n0) (n1) (n2) (j) (v1) (v5) (v12) (v12 == [(112 : UInt8), (114 : UInt8), (101 : UInt8), (118 : UInt8)]))
        (sel (v12 == [(99 : UInt8), (108 : UInt8), (111 : UInt8), (115 : UInt8), (101 : UInt8)])
         (p14_2079 (j) (n0) (n1) (n2) (j) (v1) (v5) (v12) (v12 == [(99 : UInt8), (108 : UInt8), (111 : UInt8), (115 : UInt8), (101 : UInt8)]))
         (p14_2079 (j) (n0) (n1) (n2) (j) (v1) (v5) (v12) (v12 == [(114 : UInt8), (101 : UInt8), (102 : UInt8), (117 : UInt8), (115 : UInt8), (101 : UInt8)]))))))))) := by kernel_rfl
theorem p14_17_eq (j : Nat) (n0 : Nat) (n1 : Nat) (n2 : Nat) (v1 : List (List UInt8)) : p14_17 (j + 1) n0 n1 n2 v1 =
  (sel (Decidable.decide ((0 : Int) ≤ (2 : Int)))
   (sel (Decidable.decide ((2 : Int) ≤ (↑v1.length : Int)))
    (obind (f27 j (Lk.ext v1 (2 : Int) (↑v1.length : Int))) fun r2686 =>
     (some (r2686.snd.fst, ())))
    none)
   none) := by kernel_rfl
theorem p14_2079_eq (j : Nat) (n0 : Nat) (n1 : Nat) (n2 : Nat) (n3 : Nat) (v1 : List (List UInt8)) (v5 : Int) (v12 : List UInt8) (v114 : Bool) : p14_2079 (j + 1) n0 n1 n2 n3 v1 v5 v12 v114 =
  (sel (v114)
   (sel (v5 == (2 : Int))
    (obind (f25 j (v1)) fun r2824 =>
     (some (r2824.fst, ())))
    (some (Bool.false, ())))
   (sel (v12 == [(115 : UInt8), (101 : UInt8), (101 : UInt8), (107 : UInt8)])
    (sel (v5 == (3 : Int))
     (sel (Decidable.decide ((0 : Int) ≤ (2 : Int)))
      (sel (Decidable.decide ((2 : Int) ≤ (↑v1.length : Int)))
       (obind (f25 j (Lk.ext v1 (0 : Int) (2 : Int))) fun r2996 =>
        (some (r2996.fst, ())))
       none)
      none)
     (some (Bool.false, ())))
    (sel (v12 == [(99 : UInt8), (117 : UInt8), (114 : UInt8), (115 : UInt8), (111 : UInt8), (114 : UInt8)])
     (sel (v5 == (4 : Int))
      (sel (Decidable.decide ((0 : Int) ≤ (2 : Int)))
       (sel (Decidable.decide ((2 : Int) ≤ (↑v1.length : Int)))
        (obind (f25 j (Lk.ext v1 (0 : Int) (2 : Int))) fun r3178 =>
         (some (r3178.fst, ())))
        none)
       none)
      (some (Bool.false, ())))
     (sel (v12 == [(115 : UInt8), (116 : UInt8), (101 : UInt8), (112 : UInt8)])
      (sel (Decidable.decide (v5 < (1 : Int)))
       (p14_2086 (j) (n0) (n1) (n2) (n3) (j) (v1) (Bool.true))
       (sel (Decidable.decide (v5 > (2 : Int)))
        (p14_2086 (j) (n0) (n1) (n2) (n3) (j) (v1) (Bool.true))
        (sel (v5 == (2 : Int))
         (sel (Decidable.decide ((0 : Int) ≤ (1 : Int)))
          (sel (Decidable.decide ((1 : Int) < (↑v1.length : Int)))
           (obind (f28 j (v1.getD (Int.toNat (1 : Int)) [])) fun r3633 =>
            (p14_2086 (j) (n0) (n1) (n2) (n3) (j) (v1) (!r3633.fst)))
           none)
          none)
         (p14_2086 (j) (n0) (n1) (n2) (n3) (j) (v1) (Bool.false)))))
      (sel (v12 == [(114 : UInt8), (117 : UInt8), (110 : UInt8)])
       (sel (v5 == (1 : Int))
        (sel (Decidable.decide ((0 : Int) ≤ (0 : Int)))
         (sel (Decidable.decide ((0 : Int) < (↑v1.length : Int)))
          (obind (f28 j (v1.getD (Int.toNat (0 : Int)) [])) fun r3845 =>
           (some (r3845.fst, ())))
          none)
         none)
        (some (Bool.false, ())))
       (sel (v12 == [(99 : UInt8), (114 : UInt8), (97 : UInt8), (115 : UInt8), (104 : UInt8)])
        (obind (f25 j (v1)) fun r3991 =>
         (some (r3991.fst, ())))
        (p14_45 (n0) (n0)))))))) := by kernel_rfl
theorem p14_2086_eq (j : Nat) (n0 : Nat) (n1 : Nat) (n2 : Nat) (n3 : Nat) (n4 : Nat) (v1 : List (List UInt8)) (v164 : Bool) : p14_2086 (j + 1) n0 n1 n2 n3 n4 v1 v164 =
  (sel (v164)
   (some (Bool.false, ()))
   (p14_39 (n4) (n0) (n1) (n2) (n3) (n4) (v1))) := by kernel_rfl
theorem p14_45_eq (j : Nat) (n0 : Nat) : p14_45 (j + 1) n0 =
  (some (Bool.false, ())) := by kernel_rfl
theorem p14_39_eq (j : Nat) (n0 : Nat) (n1 : Nat) (n2 : Nat) (n3 : Nat) (n4 : Nat) (v1 : List (List UInt8)) : p14_39 (j + 1) n0 n1 n2 n3 n4 v1 =
  (sel (Decidable.decide ((0 : Int) ≤ (0 : Int)))
   (sel (Decidable.decide ((0 : Int) < (↑v1.length : Int)))
    (obind (f29 j (v1.getD (Int.toNat (0 : Int)) [])) fun r4135 =>
     (some (r4135.snd.fst, ())))
    none)
   none) := by kernel_rfl
theorem f6_eq (n : Nat) (a0 : List UInt8) : f6 (n + 1) a0 =
  (sel (Decidable.decide ((↑a0.length : Int) > (1048576 : Int)))
   (some ([], (0 : Int), (3 : Int), ()))
   (obind (f11 n (a0)) fun r157 =>
    (p6_6 (n) (n) ([]) (r157.fst) ((0 : Int))))) := by kernel_rfl
theorem p6_6_eq (j : Nat) (n0 : Nat) (v5 : List ((Int × (List UInt8 × (List (List UInt8) × Unit))))) (v6 : List (List UInt8)) (v7 : Int) : p6_6 (j + 1) n0 v5 v6 v7 =
  (sel (Decidable.decide (v7 < (↑v6.length : Int)))
   (sel (Decidable.decide ((0 : Int) ≤ v7))
    (sel (Decidable.decide (v7 < (↑v6.length : Int)))
     (obind (f12 j (v6.getD v7.toNat [])) fun r282 =>
      (sel (r282.snd.snd.fst != (0 : Int))
       (some ([], v7, (270 : Int), ()))
       (sel ((↑(List.length r282.fst) : Int) == (0 : Int))
        (p6_7 (j) (n0) (j) (v5) (v6) (v7))
        (sel (Decidable.decide ((0 : Int) ≤ (0 : Int)))
         (sel (Decidable.decide ((0 : Int) < (↑(List.length r282.fst) : Int)))
          (sel (Decidable.decide ((0 : Int) ≤ (0 : Int)))
           (sel (Decidable.decide ((0 : Int) < (↑(List.length (List.getD r282.fst (Int.toNat (0 : Int)) [])) : Int)))
            (sel ((↑(List.getD (List.getD r282.fst (Int.toNat (0 : Int)) []) (Int.toNat (0 : Int)) (0 : UInt8)).toNat : Int) == (↑(UInt8.toNat (35 : UInt8)) : Int))
             (p6_7 (j) (n0) (j) (v5) (v6) (v7))
             (p6_12 (j) (n0) (j) (v5) (v6) (v7) (r282.fst)))
            none)
           none)
          none)
         none))))
     none)
    none)
   (some (v5, (0 : Int), (0 : Int), ()))) := by kernel_rfl
theorem p6_7_eq (j : Nat) (n0 : Nat) (n1 : Nat) (v5 : List ((Int × (List UInt8 × (List (List UInt8) × Unit))))) (v6 : List (List UInt8)) (v7 : Int) : p6_7 (j + 1) n0 n1 v5 v6 v7 =
  (p6_6 (n1) (n0) (v5) (v6) (Go.IntKind.i64.wrap (v7 + (1 : Int)))) := by kernel_rfl
theorem p6_12_eq (j : Nat) (n0 : Nat) (n1 : Nat) (v5 : List ((Int × (List UInt8 × (List (List UInt8) × Unit))))) (v6 : List (List UInt8)) (v7 : Int) (v8 : List (List UInt8)) : p6_12 (j + 1) n0 n1 v5 v6 v7 v8 =
  (p6_14 (j) (n0) (n1) (j) (v5) (v6) (v7) (v8) ([]) ((0 : Int))) := by kernel_rfl
theorem p6_14_eq (j : Nat) (n0 : Nat) (n1 : Nat) (n2 : Nat) (v5 : List ((Int × (List UInt8 × (List (List UInt8) × Unit))))) (v6 : List (List UInt8)) (v7 : Int) (v8 : List (List UInt8)) (v11 : List (List UInt8)) (v12 : Int) : p6_14 (j + 1) n0 n1 n2 v5 v6 v7 v8 v11 v12 =
  (sel (Decidable.decide (v12 < (↑v8.length : Int)))
   (sel (Decidable.decide ((0 : Int) ≤ v12))
    (sel (Decidable.decide (v12 < (↑v8.length : Int)))
     (obind (f13 j (v8.getD v12.toNat [])) fun r851 =>
      (sel (r851.snd.snd.fst != (0 : Int))
       (some ([], v7, (270 : Int), ()))
       (sel (Decidable.decide (v11.length + (1 : Nat) ≤ (1073741824 : Nat)))
        (p6_14 (j) (n0) (n1) (n2) (v5) (v6) (v7) (v8) (v11 ++ [r851.fst]) (Go.IntKind.i64.wrap (v12 + (1 : Int))))
        none)))
     none)
    none)
   (sel (Decidable.decide ((0 : Int) ≤ (0 : Int)))
    (sel (Decidable.decide ((0 : Int) < (↑v11.length : Int)))
     (sel (Decidable.decide ((0 : Int) ≤ (1 : Int)))
      (sel (Decidable.decide ((1 : Int) ≤ (↑v11.length : Int)))
       (obind (f14 n2 (v11.getD (Int.toNat (0 : Int)) []) (Lk.ext v11 (1 : Int) (↑v11.length : Int))) fun r1146 =>
        (sel (!r1146.fst)
         (some ([], v7, (270 : Int), ()))
         (sel (Decidable.decide ((0 : Int) ≤ (0 : Int)))
          (sel (Decidable.decide ((0 : Int) < (↑v11.length : Int)))
           (sel (Decidable.decide ((0 : Int) ≤ (1 : Int)))
            (sel (Decidable.decide ((1 : Int) ≤ (↑v11.length : Int)))
             (sel (Decidable.decide (v5.length + (1 : Nat) ≤ (1073741824 : Nat)))
              (p6_7 (n1) (n0) (n1) (v5 ++ [(v7, v11.getD (Int.toNat (0 : Int)) [], Lk.ext v11 (1 : Int) (↑v11.length : Int), ())]) (v6) (v7))
              none)
             none)
            none)
           none)
          none)))
       none)
      none)
     none)
    none)) := by kernel_rfl
end ScG

namespace Sc
set_option maxRecDepth 100000
noncomputable def theFnsNs : NsG.Fns := {
  f10 := ScG.f53,
  p10_2 := ScG.p53_2,
  p10_3 := ScG.p53_3,
  f4 := ScG.f36,
  p4_4 := ScG.p36_4,
  p4_2055 := ScG.p36_2055,
  p4_9 := ScG.p36_9,
  p4_8 := ScG.p36_8,
  p4_10 := ScG.p36_10,
  p4_25 := ScG.p36_25,
  p4_2067 := ScG.p36_2067,
  p4_21 := ScG.p36_21,
  p4_20 := ScG.p36_20,
  p4_22 := ScG.p36_22,
  p4_23 := ScG.p36_23,
  f5 := ScG.f12,
  p5_6 := ScG.p12_6,
  p5_2058 := ScG.p12_2058,
  p5_30 := ScG.p12_30,
  p5_2060 := ScG.p12_2060,
  p5_14 := ScG.p12_14,
  p5_7 := ScG.p12_7,
  p5_2068 := ScG.p12_2068,
  p5_2070 := ScG.p12_2070,
  p5_2072 := ScG.p12_2072,
  f10_eq := ScG.f53_eq,
  p10_2_eq := ScG.p53_2_eq,
  p10_3_eq := ScG.p53_3_eq,
  f4_eq := ScG.f36_eq,
  p4_4_eq := ScG.p36_4_eq,
  p4_2055_eq := ScG.p36_2055_eq,
  p4_9_eq := ScG.p36_9_eq,
  p4_8_eq := ScG.p36_8_eq,
  p4_10_eq := ScG.p36_10_eq,
  p4_25_eq := ScG.p36_25_eq,
  p4_2067_eq := ScG.p36_2067_eq,
  p4_21_eq := ScG.p36_21_eq,
  p4_20_eq := ScG.p36_20_eq,
  p4_22_eq := ScG.p36_22_eq,
  p4_23_eq := ScG.p36_23_eq,
  f5_eq := ScG.f12_eq,
  p5_6_eq := ScG.p12_6_eq,
  p5_2058_eq := ScG.p12_2058_eq,
  p5_30_eq := ScG.p12_30_eq,
  p5_2060_eq := ScG.p12_2060_eq,
  p5_14_eq := ScG.p12_14_eq,
  p5_7_eq := ScG.p12_7_eq,
  p5_2068_eq := ScG.p12_2068_eq,
  p5_2070_eq := ScG.p12_2070_eq,
  p5_2072_eq := ScG.p12_2072_eq }
end Sc

namespace Nq
open Go Lk NqG
set_option linter.unusedVariables false

structure FnsU where
  f37 (n : Nat) (a0 : List UInt8) : Option (Int × Int × Unit)
  f83 (n : Nat) (a0 : List UInt8) (a1 : UInt8) : Option (Int × Unit)
  f13 (n : Nat) (a0 : List UInt8) : Option (List UInt8 × Unit)
  f11 (n : Nat) (a0 : List UInt8) : Option (List UInt8 × Int × Int × Unit)
  p11_5 (j : Nat) (n0 : Nat) (v0 : List UInt8) (v3 : Int) (v5 : List (UInt8)) : Option (List UInt8 × Int × Int × Unit)
  p11_6 (j : Nat) (n0 : Nat) (n1 : Nat) (v0 : List UInt8) (v3 : Int) (v5 : List (UInt8)) : Option (List UInt8 × Int × Int × Unit)
  p11_17 (j : Nat) (n0 : Nat) (v0 : List UInt8) (v3 : Int) (v5 : List (UInt8)) : Option (List UInt8 × Int × Int × Unit)
  p11_2062 (j : Nat) (n0 : Nat) (n1 : Nat) (n2 : Nat) (v0 : List UInt8) (v3 : Int) (v5 : List (UInt8)) (v9 : Int) (v60 : Bool) : Option (List UInt8 × Int × Int × Unit)
  p11_15 (j : Nat) (n0 : Nat) (n1 : Nat) (n2 : Nat) (v0 : List UInt8) (v3 : Int) (v5 : List (UInt8)) (v9 : Int) : Option (List UInt8 × Int × Int × Unit)
  f16 (n : Nat) (a0 : List UInt8) : Option (List UInt8 × Int × Int × Unit)
  p16_2053 (j : Nat) (n0 : Nat) (v0 : List UInt8) (v5 : Int) (v20 : Bool) : Option (List UInt8 × Int × Int × Unit)
  p16_6 (j : Nat) (n0 : Nat) (v0 : List UInt8) : Option (List UInt8 × Int × Int × Unit)
  f18 (n : Nat) (a0 : List UInt8) : Option (List UInt8 × Unit)
  p18_2050 (j : Nat) (n0 : Nat) (v0 : List UInt8) (v9 : Bool) : Option (List UInt8 × Unit)
  p18_3 (j : Nat) (n0 : Nat) (v0 : List UInt8) : Option (List UInt8 × Unit)
  f35 (n : Nat) (a0 : List UInt8) (a1 : List UInt8) : Option (Bool × Unit)
  f36 (n : Nat) (a0 : List UInt8) (a1 : Int) : Option (UInt8 × Int × Unit)
  p36_2060 (j : Nat) (n0 : Nat) (v0 : List UInt8) (v1 : Int) (v16 : UInt8) (v23 : Bool) : Option (UInt8 × Int × Unit)
  p36_2064 (j : Nat) (n0 : Nat) (n1 : Nat) (v6 : Int) (v7 : Int) (v45 : Bool) : Option (UInt8 × Int × Unit)
  p36_17 (j : Nat) (n0 : Nat) : Option (UInt8 × Int × Unit)
  f38 (n : Nat) (a0 : Int) : Option (Bool × Unit)
  f47 (n : Nat) (a0 : List UInt8) : Option (Int × Unit)
  p47_2 (j : Nat) (n0 : Nat) (v0 : List UInt8) (v5 : Int) (v6 : Int) : Option (Int × Unit)
  f64 (n : Nat) (a0 : List UInt8) (a1 : List UInt8) : Option (Bool × Unit)
  f65 (n : Nat) (a0 : List UInt8) (a1 : Int) : Option (Int × Unit)
  f71 (n : Nat) (a0 : UInt8) : Option (Bool × Unit)
  p71_2050 (j : Nat) (n0 : Nat) (v0 : UInt8) (v3 : Bool) : Option (Bool × Unit)
  p71_2051 (j : Nat) (n0 : Nat) (v0 : UInt8) (v3 : Bool) : Option (Bool × Unit)
  p71_2055 (j : Nat) (n0 : Nat) (n1 : Nat) (v16 : Bool) : Option (Bool × Unit)
  p71_8 (j : Nat) (n0 : Nat) : Option (Bool × Unit)
  f37_eq (n : Nat) (a0 : List UInt8) : f37 n a0 = some ((e37 a0).1, (e37 a0).2, ())
  f83_eq (n : Nat) (a0 : List UInt8) (a1 : UInt8) : f83 n a0 a1 = some (idx a0 a1, ())
  f13_eq (n : Nat) (a0 : List UInt8) : f13 n a0 = bif Nat.ble a0.length 1073741824 then some (quote a0, ()) else none
  f11_eq (n : Nat) (a0 : List UInt8) : f11 (n + 1) a0 =
  (obind (f35 n (a0) ([(34 : UInt8)])) fun r52 =>
   (sel (!r52.fst)
    (some ([], (0 : Int), (61 : Int), ()))
    (p11_5 (n) (n) (a0) ((1 : Int)) ([]))))
  p11_5_eq (j : Nat) (n0 : Nat) (v0 : List UInt8) (v3 : Int) (v5 : List (UInt8)) : p11_5 (j + 1) n0 v0 v3 v5 =
  (sel (Decidable.decide (v3 < (↑v0.length : Int)))
   (sel (Decidable.decide ((0 : Int) ≤ v3))
    (sel (Decidable.decide (v3 < (↑v0.length : Int)))
     (sel ((↑(v0.getD v3.toNat (0 : UInt8)).toNat : Int) != (↑(UInt8.toNat (34 : UInt8)) : Int))
      (p11_6 (j) (n0) (j) (v0) (v3) (v5))
      (p11_17 (n0) (n0) (v0) (v3) (v5)))
     none)
    none)
   (p11_17 (n0) (n0) (v0) (v3) (v5)))
  p11_6_eq (j : Nat) (n0 : Nat) (n1 : Nat) (v0 : List UInt8) (v3 : Int) (v5 : List (UInt8)) : p11_6 (j + 1) n0 n1 v0 v3 v5 =
  (sel (Decidable.decide ((0 : Int) ≤ v3))
   (sel (Decidable.decide (v3 < (↑v0.length : Int)))
    (sel ((↑(v0.getD v3.toNat (0 : UInt8)).toNat : Int) == (↑(UInt8.toNat (92 : UInt8)) : Int))
     (obind (f36 j (v0) (v3)) fun r396 =>
      (sel (r396.snd.fst == (0 : Int))
       (some ([], v3, (61 : Int), ()))
       (sel (Decidable.decide (v5.length + [r396.fst].length ≤ (1073741824 : Nat)))
        (p11_5 (n1) (n0) (v0) (Go.IntKind.i64.wrap (v3 + r396.snd.fst)) (v5 ++ [r396.fst]))
        none)))
     (sel (Decidable.decide ((0 : Int) ≤ v3))
      (sel (Decidable.decide (v3 ≤ (↑v0.length : Int)))
       (obind (f37 j (Lk.ext v0 v3 (↑v0.length : Int))) fun r646 =>
        (sel (r646.fst == (65533 : Int))
         (sel (r646.snd.fst == (1 : Int))
          (p11_2062 (j) (n0) (n1) (j) (v0) (v3) (v5) (r646.snd.fst) (Bool.true))
          (obind (f38 j (r646.fst)) fun r810 =>
           (p11_2062 (j) (n0) (n1) (j) (v0) (v3) (v5) (r646.snd.fst) (!r810.fst))))
         (obind (f38 j (r646.fst)) fun r887 =>
          (p11_2062 (j) (n0) (n1) (j) (v0) (v3) (v5) (r646.snd.fst) (!r887.fst)))))
       none)
      none))
    none)
   none)
  p11_17_eq (j : Nat) (n0 : Nat) (v0 : List UInt8) (v3 : Int) (v5 : List (UInt8)) : p11_17 (j + 1) n0 v0 v3 v5 =
  (sel (v3 == (↑v0.length : Int))
   (some ([], v3, (61 : Int), ()))
   (sel (Decidable.decide (Go.IntKind.i64.wrap (v3 + (1 : Int)) < (↑v0.length : Int)))
    (some ([], Go.IntKind.i64.wrap (v3 + (1 : Int)), (61 : Int), ()))
    (obind (f13 j (v5)) fun r1147 =>
     (sel (!r1147.fst == v0)
      (some ([], (0 : Int), (61 : Int), ()))
      (some (v5, (0 : Int), (0 : Int), ()))))))
  p11_2062_eq (j : Nat) (n0 : Nat) (n1 : Nat) (n2 : Nat) (v0 : List UInt8) (v3 : Int) (v5 : List (UInt8)) (v9 : Int) (v60 : Bool) : p11_2062 (j + 1) n0 n1 n2 v0 v3 v5 v9 v60 =
  (sel (v60)
   (some ([], v3, (61 : Int), ()))
   (p11_15 (n2) (n0) (n1) (n2) (v0) (v3) (v5) (v9)))
  p11_15_eq (j : Nat) (n0 : Nat) (n1 : Nat) (n2 : Nat) (v0 : List UInt8) (v3 : Int) (v5 : List (UInt8)) (v9 : Int) : p11_15 (j + 1) n0 n1 n2 v0 v3 v5 v9 =
  (sel (Decidable.decide ((0 : Int) ≤ Go.IntKind.i64.wrap (v3 + v9)))
   (sel (Decidable.decide (Go.IntKind.i64.wrap (v3 + v9) ≤ (↑v0.length : Int)))
    (sel (Decidable.decide ((0 : Int) ≤ v3))
     (sel (Decidable.decide (v3 ≤ Go.IntKind.i64.wrap (v3 + v9)))
      (sel (Decidable.decide (v5.length + (Lk.ext v0 v3 (Go.IntKind.i64.wrap (v3 + v9))).length ≤ (1073741824 : Nat)))
       (p11_5 (n1) (n0) (v0) (Go.IntKind.i64.wrap (v3 + v9)) (v5 ++ Lk.ext v0 v3 (Go.IntKind.i64.wrap (v3 + v9))))
       none)
      none)
     none)
    none)
   none)
  f16_eq (n : Nat) (a0 : List UInt8) : f16 (n + 1) a0 =
  (obind (f35 n (a0) ([(34 : UInt8)])) fun r52 =>
   (sel (r52.fst)
    (obind (f11 n (a0)) fun r78 =>
     (some (r78.fst, r78.snd.fst, r78.snd.snd.fst, ())))
    (obind (f47 n (a0)) fun r160 =>
     (sel (a0 == [])
      (p16_2053 (n) (n) (a0) (r160.fst) (Bool.true))
      (p16_2053 (n) (n) (a0) (r160.fst) (Decidable.decide (r160.fst ≥ (0 : Int))))))))
  p16_2053_eq (j : Nat) (n0 : Nat) (v0 : List UInt8) (v5 : Int) (v20 : Bool) : p16_2053 (j + 1) n0 v0 v5 v20 =
  (sel (v20)
   (some ([], Lk.imax v5 (0 : Int), (61 : Int), ()))
   (p16_6 (n0) (n0) (v0)))
  p16_6_eq (j : Nat) (n0 : Nat) (v0 : List UInt8) : p16_6 (j + 1) n0 v0 =
  (some (v0, (0 : Int), (0 : Int), ()))
  f18_eq (n : Nat) (a0 : List UInt8) : f18 (n + 1) a0 =
  (sel (!a0 == [])
   (obind (f47 n (a0)) fun r71 =>
    (p18_2050 (n) (n) (a0) (Decidable.decide (r71.fst < (0 : Int)))))
   (p18_2050 (n) (n) (a0) (Bool.false)))
  p18_2050_eq (j : Nat) (n0 : Nat) (v0 : List UInt8) (v9 : Bool) : p18_2050 (j + 1) n0 v0 v9 =
  (sel (v9)
   (some (v0, ()))
   (p18_3 (n0) (n0) (v0)))
  p18_3_eq (j : Nat) (n0 : Nat) (v0 : List UInt8) : p18_3 (j + 1) n0 v0 =
  (obind (f13 j (v0)) fun r194 =>
   (some (r194.fst, ())))
  f35_eq (n : Nat) (a0 : List UInt8) (a1 : List UInt8) : f35 (n + 1) a0 a1 =
  (obind (f64 n (a0) (a1)) fun r44 =>
   (some (r44.fst, ())))
  f36_eq (n : Nat) (a0 : List UInt8) (a1 : Int) : f36 (n + 1) a0 a1 =
  (sel (Decidable.decide (Go.IntKind.i64.wrap (a1 + (1 : Int)) ≥ (↑a0.length : Int)))
   (some ((0 : UInt8), (0 : Int), ()))
   (sel (Decidable.decide ((0 : Int) ≤ Go.IntKind.i64.wrap (a1 + (1 : Int))))
    (sel (Decidable.decide (Go.IntKind.i64.wrap (a1 + (1 : Int)) < (↑a0.length : Int)))
     (sel ((↑(a0.getD (Go.IntKind.i64.wrap (a1 + (1 : Int))).toNat (0 : UInt8)).toNat : Int) == (↑(UInt8.toNat (110 : UInt8)) : Int))
      (some ((10 : UInt8), (2 : Int), ()))
      (sel ((↑(a0.getD (Go.IntKind.i64.wrap (a1 + (1 : Int))).toNat (0 : UInt8)).toNat : Int) == (↑(UInt8.toNat (116 : UInt8)) : Int))
       (some ((9 : UInt8), (2 : Int), ()))
       (sel ((↑(a0.getD (Go.IntKind.i64.wrap (a1 + (1 : Int))).toNat (0 : UInt8)).toNat : Int) == (↑(UInt8.toNat (115 : UInt8)) : Int))
        (some ((32 : UInt8), (2 : Int), ()))
        (sel ((↑(a0.getD (Go.IntKind.i64.wrap (a1 + (1 : Int))).toNat (0 : UInt8)).toNat : Int) == (↑(UInt8.toNat (34 : UInt8)) : Int))
         (p36_2060 (n) (n) (a0) (a1) (a0.getD (Go.IntKind.i64.wrap (a1 + (1 : Int))).toNat (0 : UInt8)) ((↑(a0.getD (Go.IntKind.i64.wrap (a1 + (1 : Int))).toNat (0 : UInt8)).toNat : Int) == (↑(UInt8.toNat (34 : UInt8)) : Int)))
         (p36_2060 (n) (n) (a0) (a1) (a0.getD (Go.IntKind.i64.wrap (a1 + (1 : Int))).toNat (0 : UInt8)) ((↑(a0.getD (Go.IntKind.i64.wrap (a1 + (1 : Int))).toNat (0 : UInt8)).toNat : Int) == (↑(UInt8.toNat (92 : UInt8)) : Int)))))))
     none)
    none))
  p36_2060_eq (j : Nat) (n0 : Nat) (v0 : List UInt8) (v1 : Int) (v16 : UInt8) (v23 : Bool) : p36_2060 (j + 1) n0 v0 v1 v16 v23 =
  (sel (v23)
   (sel (Decidable.decide ((0 : Int) ≤ Go.IntKind.i64.wrap (v1 + (1 : Int))))
    (sel (Decidable.decide (Go.IntKind.i64.wrap (v1 + (1 : Int)) < (↑v0.length : Int)))
     (some (v0.getD (Go.IntKind.i64.wrap (v1 + (1 : Int))).toNat (0 : UInt8), (2 : Int), ()))
     none)
    none)
   (sel ((↑v16.toNat : Int) == (↑(UInt8.toNat (120 : UInt8)) : Int))
    (obind (f65 j (v0) (Go.IntKind.i64.wrap (v1 + (2 : Int)))) fun r510 =>
     (obind (f65 j (v0) (Go.IntKind.i64.wrap (v1 + (3 : Int)))) fun r539 =>
      (sel (Decidable.decide (r510.fst ≥ (0 : Int)))
       (p36_2064 (j) (n0) (j) (r510.fst) (r539.fst) (Decidable.decide (r539.fst ≥ (0 : Int))))
       (p36_2064 (j) (n0) (j) (r510.fst) (r539.fst) (Bool.false)))))
    (p36_17 (n0) (n0))))
  p36_2064_eq (j : Nat) (n0 : Nat) (n1 : Nat) (v6 : Int) (v7 : Int) (v45 : Bool) : p36_2064 (j + 1) n0 n1 v6 v7 v45 =
  (sel (v45)
   (sel (Decidable.decide ((0 : Int) ≤ (4 : Int)))
    (some (UInt8.ofNat (Go.IntKind.u8.wrap (Lk.ibits Go.BinOp.or Go.IntKind.i64 (Go.IntKind.i64.wrap (v6 * (2 : Int) ^ Min.min (Int.toNat (4 : Int)) Go.IntKind.i64.bits)) v7)).toNat, (4 : Int), ()))
    none)
   (p36_17 (n0) (n0)))
  p36_17_eq (j : Nat) (n0 : Nat) : p36_17 (j + 1) n0 =
  (some ((0 : UInt8), (0 : Int), ()))
  f38_eq (n : Nat) (a0 : Int) : f38 (n + 1) a0 =
  (sel (Decidable.decide (a0 > (32 : Int)))
   (sel (Decidable.decide (a0 < (127 : Int)))
    (sel (a0 != (34 : Int))
     (sel (a0 != (92 : Int))
      (some (Bool.true, ()))
      (some (Decidable.decide (a0 > (160 : Int)), ())))
     (some (Decidable.decide (a0 > (160 : Int)), ())))
    (some (Decidable.decide (a0 > (160 : Int)), ())))
   (some (Decidable.decide (a0 > (160 : Int)), ())))
  f47_eq (n : Nat) (a0 : List UInt8) : f47 (n + 1) a0 =
  (p47_2 (n) (n) (a0) ((↑a0.length : Int)) ((0 : Int)))
  p47_2_eq (j : Nat) (n0 : Nat) (v0 : List UInt8) (v5 : Int) (v6 : Int) : p47_2 (j + 1) n0 v0 v5 v6 =
  (sel (Decidable.decide (v6 < v5))
   (sel (Decidable.decide ((0 : Int) ≤ v6))
    (sel (Decidable.decide (v6 < (↑v0.length : Int)))
     (obind (f71 j (v0.getD v6.toNat (0 : UInt8))) fun r132 =>
      (sel (!r132.fst)
       (some (v6, ()))
       (p47_2 (j) (n0) (v0) (v5) (Go.IntKind.i64.wrap (v6 + (1 : Int))))))
     none)
    none)
   (some ((-1 : Int), ())))
  f64_eq (n : Nat) (a0 : List UInt8) (a1 : List UInt8) : f64 (n + 1) a0 a1 =
  (sel (Decidable.decide ((↑a0.length : Int) ≥ (↑a1.length : Int)))
   (sel (Decidable.decide ((0 : Int) ≤ (↑a1.length : Int)))
    (sel (Decidable.decide ((↑a1.length : Int) ≤ (↑a0.length : Int)))
     (some (Lk.ext a0 (0 : Int) (↑a1.length : Int) == a1, ()))
     none)
    none)
   (some (Bool.false, ())))
  f65_eq (n : Nat) (a0 : List UInt8) (a1 : Int) : f65 (n + 1) a0 a1 =
  (sel (Decidable.decide (a1 ≥ (↑a0.length : Int)))
   (some ((-1 : Int), ()))
   (sel (Decidable.decide ((0 : Int) ≤ a1))
    (sel (Decidable.decide (a1 < (↑a0.length : Int)))
     (obind (f83 n ([(48 : UInt8), (49 : UInt8), (50 : UInt8), (51 : UInt8), (52 : UInt8), (53 : UInt8), (54 : UInt8), (55 : UInt8), (56 : UInt8), (57 : UInt8), (97 : UInt8), (98 : UInt8), (99 : UInt8), (100 : UInt8), (101 : UInt8), (102 : UInt8)]) (a0.getD a1.toNat (0 : UInt8))) fun r122 =>
      (some (r122.fst, ())))
     none)
    none))
  f71_eq (n : Nat) (a0 : UInt8) : f71 (n + 1) a0 =
  (sel (Decidable.decide ((↑a0.toNat : Int) ≥ (↑(UInt8.toNat (97 : UInt8)) : Int)))
   (p71_2050 (n) (n) (a0) (Decidable.decide ((↑a0.toNat : Int) ≤ (↑(UInt8.toNat (122 : UInt8)) : Int))))
   (p71_2050 (n) (n) (a0) (Bool.false)))
  p71_2050_eq (j : Nat) (n0 : Nat) (v0 : UInt8) (v3 : Bool) : p71_2050 (j + 1) n0 v0 v3 =
  (sel (v3)
   (p71_2051 (n0) (n0) (v0) (v3))
   (sel (Decidable.decide ((↑v0.toNat : Int) ≥ (↑(UInt8.toNat (48 : UInt8)) : Int)))
    (p71_2051 (n0) (n0) (v0) (Decidable.decide ((↑v0.toNat : Int) ≤ (↑(UInt8.toNat (57 : UInt8)) : Int))))
    (p71_2051 (n0) (n0) (v0) (Bool.false))))
  p71_2051_eq (j : Nat) (n0 : Nat) (v0 : UInt8) (v3 : Bool) : p71_2051 (j + 1) n0 v0 v3 =
  (sel (v3)
   (some (Bool.true, ()))
   (sel ((↑v0.toNat : Int) == (↑(UInt8.toNat (46 : UInt8)) : Int))
    (p71_2055 (j) (n0) (j) ((↑v0.toNat : Int) == (↑(UInt8.toNat (46 : UInt8)) : Int)))
    (sel ((↑v0.toNat : Int) == (↑(UInt8.toNat (95 : UInt8)) : Int))
     (p71_2055 (j) (n0) (j) ((↑v0.toNat : Int) == (↑(UInt8.toNat (95 : UInt8)) : Int)))
     (p71_2055 (j) (n0) (j) ((↑v0.toNat : Int) == (↑(UInt8.toNat (45 : UInt8)) : Int))))))
  p71_2055_eq (j : Nat) (n0 : Nat) (n1 : Nat) (v16 : Bool) : p71_2055 (j + 1) n0 n1 v16 =
  (sel (v16)
   (some (Bool.true, ()))
   (p71_8 (n0) (n0)))
  p71_8_eq (j : Nat) (n0 : Nat) : p71_8 (j + 1) n0 =
  (some (Bool.false, ()))
end Nq

namespace Nq
open Go Lk NqG
set_option linter.unusedVariables false

structure FnsR extends FnsU where
  f12 (n : Nat) (a0 : List UInt8) : Option (List UInt8 × Int × Int × Unit)
  p12_2050 (j : Nat) (n0 : Nat) (v0 : List UInt8) (v17 : Bool) : Option (List UInt8 × Int × Int × Unit)
  p12_3 (j : Nat) (n0 : Nat) (v0 : List UInt8) : Option (List UInt8 × Int × Int × Unit)
  p12_5 (j : Nat) (n0 : Nat) (n1 : Nat) (v0 : List UInt8) (v5 : List (UInt8)) (v6 : Int) : Option (List UInt8 × Int × Int × Unit)
  p12_2068 (j : Nat) (n0 : Nat) (n1 : Nat) (n2 : Nat) (v0 : List UInt8) (v5 : List (UInt8)) (v6 : Int) (v10 : Int) (v79 : Bool) : Option (List UInt8 × Int × Int × Unit)
  p12_21 (j : Nat) (n0 : Nat) (n1 : Nat) (n2 : Nat) (v0 : List UInt8) (v5 : List (UInt8)) (v6 : Int) (v10 : Int) : Option (List UInt8 × Int × Int × Unit)
  f14 (n : Nat) (a0 : List UInt8) : Option (List UInt8 × Unit)
  p14_4 (j : Nat) (n0 : Nat) (v3 : List (UInt8)) (v4 : List (UInt8)) (v5 : Int) : Option (List UInt8 × Unit)
  f17 (n : Nat) (a0 : List UInt8) : Option (List UInt8 × Int × Int × Unit)
  p17_2050 (j : Nat) (n0 : Nat) (v0 : List UInt8) (v12 : Bool) : Option (List UInt8 × Int × Int × Unit)
  p17_3 (j : Nat) (n0 : Nat) (v0 : List UInt8) : Option (List UInt8 × Int × Int × Unit)
  f39 (n : Nat) (a0 : List UInt8) (a1 : Int) : Option (UInt8 × Int × Unit)
  p39_2060 (j : Nat) (n0 : Nat) (v0 : List UInt8) (v1 : Int) (v14 : UInt8) (v21 : Bool) : Option (UInt8 × Int × Unit)
  p39_2063 (j : Nat) (n0 : Nat) (n1 : Nat) (v0 : List UInt8) (v1 : Int) (v50 : Bool) : Option (UInt8 × Int × Unit)
  p39_16 (j : Nat) (n0 : Nat) : Option (UInt8 × Int × Unit)
  f40 (n : Nat) (a0 : List (UInt8)) (a1 : Int) : Option (Int × Int × Unit)
  p40_2054 (j : Nat) (n0 : Nat) (v0 : List (UInt8)) (v1 : Int) (v6 : Int) (v7 : Int) (v8 : Int) (v9 : Int) (v20 : Bool) : Option (Int × Int × Unit)
  p40_11 (j : Nat) (n0 : Nat) (v0 : List (UInt8)) (v1 : Int) (v7 : Int) (v8 : Int) (v9 : Int) : Option (Int × Int × Unit)
  p40_2056 (j : Nat) (n0 : Nat) (n1 : Nat) (v0 : List (UInt8)) (v1 : Int) (v6 : Int) (v7 : Int) (v8 : Int) (v9 : Int) (v29 : Bool) : Option (Int × Int × Unit)
  p40_2060 (j : Nat) (n0 : Nat) (n1 : Nat) (v0 : List (UInt8)) (v1 : Int) (v7 : Int) (v8 : Int) (v9 : Int) (v56 : Bool) : Option (Int × Int × Unit)
  p40_2058 (j : Nat) (n0 : Nat) (n1 : Nat) (n2 : Nat) (v0 : List (UInt8)) (v1 : Int) (v6 : Int) (v7 : Int) (v8 : Int) (v9 : Int) (v38 : Bool) : Option (Int × Int × Unit)
  p40_13 (j : Nat) (n0 : Nat) (n1 : Nat) (v0 : List (UInt8)) (v1 : Int) (v7 : Int) (v8 : Int) (v9 : Int) : Option (Int × Int × Unit)
  p40_14 (j : Nat) (n0 : Nat) (n1 : Nat) (n2 : Nat) (v0 : List (UInt8)) (v1 : Int) (v7 : Int) (v8 : Int) (v9 : Int) (v10 : Int) : Option (Int × Int × Unit)
  p40_2068 (j : Nat) (n0 : Nat) (n1 : Nat) (n2 : Nat) (v7 : Int) (v8 : Int) (v95 : Bool) : Option (Int × Int × Unit)
  p40_21 (j : Nat) (n0 : Nat) (n1 : Nat) (n2 : Nat) (v7 : Int) (v8 : Int) : Option (Int × Int × Unit)
  f41 (n : Nat) (a0 : Int) : Option (Bool × Unit)
  f46 (n : Nat) (a0 : List (UInt8)) (a1 : Int) : Option (List UInt8 × Int × Unit)
  p46_2061 (j : Nat) (n0 : Nat) (v0 : List (UInt8)) (v1 : Int) (v7 : Int) (v44 : Bool) : Option (List UInt8 × Int × Unit)
  p46_14 (j : Nat) (n0 : Nat) (v0 : List (UInt8)) (v1 : Int) (v7 : Int) : Option (List UInt8 × Int × Unit)
  p46_16 (j : Nat) (n0 : Nat) (n1 : Nat) (v0 : List (UInt8)) (v1 : Int) (v7 : Int) (v8 : List UInt8) (v9 : Int) : Option (List UInt8 × Int × Unit)
  f48 (n : Nat) (a0 : List UInt8) : Option (Int × Unit)
  p48_2 (j : Nat) (n0 : Nat) (v0 : List UInt8) (v3 : Int) : Option (Int × Unit)
  p48_2054 (j : Nat) (n0 : Nat) (n1 : Nat) (v0 : List UInt8) (v3 : Int) (v39 : Bool) : Option (Int × Unit)
  p48_3 (j : Nat) (n0 : Nat) (n1 : Nat) (v0 : List UInt8) (v3 : Int) : Option (Int × Unit)
  f67 (n : Nat) (a0 : UInt8) : Option (Int × Unit)
  p67_2050 (j : Nat) (n0 : Nat) (v0 : UInt8) (v3 : Bool) : Option (Int × Unit)
  p67_2052 (j : Nat) (n0 : Nat) (n1 : Nat) (v0 : UInt8) (v13 : Bool) : Option (Int × Unit)
  p67_5 (j : Nat) (n0 : Nat) : Option (Int × Unit)
  f70 (n : Nat) (a0 : UInt8) : Option (List UInt8 × Unit)
  f12_eq (n : Nat) (a0 : List UInt8) : f12 (n + 1) a0 =
  (sel (a0 == [])
   (p12_2050 (n) (n) (a0) (Bool.true))
   (sel (Decidable.decide ((0 : Int) ≤ (0 : Int)))
    (sel (Decidable.decide ((0 : Int) < (↑a0.length : Int)))
     (p12_2050 (n) (n) (a0) ((↑(a0.getD (Int.toNat (0 : Int)) (0 : UInt8)).toNat : Int) != (↑(UInt8.toNat (34 : UInt8)) : Int)))
     none)
    none))
  p12_2050_eq (j : Nat) (n0 : Nat) (v0 : List UInt8) (v17 : Bool) : p12_2050 (j + 1) n0 v0 v17 =
  (sel (v17)
   (some ([], (0 : Int), (61 : Int), ()))
   (p12_3 (n0) (n0) (v0)))
  p12_3_eq (j : Nat) (n0 : Nat) (v0 : List UInt8) : p12_3 (j + 1) n0 v0 =
  (p12_5 (j) (n0) (j) (v0) ([]) ((1 : Int)))
  p12_5_eq (j : Nat) (n0 : Nat) (n1 : Nat) (v0 : List UInt8) (v5 : List (UInt8)) (v6 : Int) : p12_5 (j + 1) n0 n1 v0 v5 v6 =
  (sel (Decidable.decide (v6 < (↑v0.length : Int)))
   (sel (Decidable.decide ((0 : Int) ≤ v6))
    (sel (Decidable.decide (v6 < (↑v0.length : Int)))
     (sel ((↑(v0.getD v6.toNat (0 : UInt8)).toNat : Int) == (↑(UInt8.toNat (34 : UInt8)) : Int))
      (sel (Decidable.decide (Go.IntKind.i64.wrap (v6 + (1 : Int)) < (↑v0.length : Int)))
       (some ([], Go.IntKind.i64.wrap (v6 + (1 : Int)), (61 : Int), ()))
       (obind (f14 j (v5)) fun r458 =>
        (sel (!r458.fst == v0)
         (some ([], (0 : Int), (61 : Int), ()))
         (some (v5, (0 : Int), (0 : Int), ())))))
      (sel (Decidable.decide ((0 : Int) ≤ v6))
       (sel (Decidable.decide (v6 < (↑v0.length : Int)))
        (sel ((↑(v0.getD v6.toNat (0 : UInt8)).toNat : Int) == (↑(UInt8.toNat (92 : UInt8)) : Int))
         (obind (f39 j (v0) (v6)) fun r667 =>
          (sel (r667.snd.fst == (0 : Int))
           (some ([], v6, (61 : Int), ()))
           (sel (Decidable.decide (v5.length + [r667.fst].length ≤ (1073741824 : Nat)))
            (p12_5 (j) (n0) (n1) (v0) (v5 ++ [r667.fst]) (Go.IntKind.i64.wrap (v6 + r667.snd.fst)))
            none)))
         (sel (Decidable.decide ((0 : Int) ≤ Lk.imin (Go.IntKind.i64.wrap (v6 + (4 : Int))) (↑v0.length : Int)))
          (sel (Decidable.decide (Lk.imin (Go.IntKind.i64.wrap (v6 + (4 : Int))) (↑v0.length : Int) ≤ (↑v0.length : Int)))
           (sel (Decidable.decide ((0 : Int) ≤ v6))
            (sel (Decidable.decide (v6 ≤ Lk.imin (Go.IntKind.i64.wrap (v6 + (4 : Int))) (↑v0.length : Int)))
             (obind (f40 j (Lk.ext v0 v6 (Lk.imin (Go.IntKind.i64.wrap (v6 + (4 : Int))) (↑v0.length : Int))) ((0 : Int))) fun r959 =>
              (sel (r959.snd.fst == (0 : Int))
               (p12_2068 (j) (n0) (n1) (j) (v0) (v5) (v6) (r959.snd.fst) (Bool.true))
               (obind (f41 j (r959.fst)) fun r1083 =>
                (p12_2068 (j) (n0) (n1) (j) (v0) (v5) (v6) (r959.snd.fst) (!r1083.fst)))))
             none)
            none)
           none)
          none))
        none)
       none))
     none)
    none)
   (some ([], (↑v0.length : Int), (61 : Int), ())))
  p12_2068_eq (j : Nat) (n0 : Nat) (n1 : Nat) (n2 : Nat) (v0 : List UInt8) (v5 : List (UInt8)) (v6 : Int) (v10 : Int) (v79 : Bool) : p12_2068 (j + 1) n0 n1 n2 v0 v5 v6 v10 v79 =
  (sel (v79)
   (some ([], v6, (61 : Int), ()))
   (p12_21 (n2) (n0) (n1) (n2) (v0) (v5) (v6) (v10)))
  p12_21_eq (j : Nat) (n0 : Nat) (n1 : Nat) (n2 : Nat) (v0 : List UInt8) (v5 : List (UInt8)) (v6 : Int) (v10 : Int) : p12_21 (j + 1) n0 n1 n2 v0 v5 v6 v10 =
  (sel (Decidable.decide ((0 : Int) ≤ Go.IntKind.i64.wrap (v6 + v10)))
   (sel (Decidable.decide (Go.IntKind.i64.wrap (v6 + v10) ≤ (↑v0.length : Int)))
    (sel (Decidable.decide ((0 : Int) ≤ v6))
     (sel (Decidable.decide (v6 ≤ Go.IntKind.i64.wrap (v6 + v10)))
      (sel (Decidable.decide (v5.length + (Lk.ext v0 v6 (Go.IntKind.i64.wrap (v6 + v10))).length ≤ (1073741824 : Nat)))
       (p12_5 (n2) (n0) (n1) (v0) (v5 ++ Lk.ext v0 v6 (Go.IntKind.i64.wrap (v6 + v10))) (Go.IntKind.i64.wrap (v6 + v10)))
       none)
      none)
     none)
    none)
   none)
  f14_eq (n : Nat) (a0 : List UInt8) : f14 (n + 1) a0 =
  (p14_4 (n) (n) (a0) ([(34 : UInt8)]) ((0 : Int)))
  p14_4_eq (j : Nat) (n0 : Nat) (v3 : List (UInt8)) (v4 : List (UInt8)) (v5 : Int) : p14_4 (j + 1) n0 v3 v4 v5 =
  (sel (Decidable.decide (v5 < (↑v3.length : Int)))
   (obind (f46 j (v3) (v5)) fun r159 =>
    (sel (Decidable.decide (v4.length + List.length r159.fst ≤ (1073741824 : Nat)))
     (p14_4 (j) (n0) (v3) (v4 ++ r159.fst) (Go.IntKind.i64.wrap (v5 + r159.snd.fst)))
     none))
   (sel (Decidable.decide (v4.length + [(34 : UInt8)].length ≤ (1073741824 : Nat)))
    (some (v4 ++ [(34 : UInt8)], ()))
    none))
  f17_eq (n : Nat) (a0 : List UInt8) : f17 (n + 1) a0 =
  (sel (!a0 == [])
   (sel (Decidable.decide ((0 : Int) ≤ (0 : Int)))
    (sel (Decidable.decide ((0 : Int) < (↑a0.length : Int)))
     (p17_2050 (n) (n) (a0) ((↑(a0.getD (Int.toNat (0 : Int)) (0 : UInt8)).toNat : Int) == (↑(UInt8.toNat (34 : UInt8)) : Int)))
     none)
    none)
   (p17_2050 (n) (n) (a0) (Bool.false)))
  p17_2050_eq (j : Nat) (n0 : Nat) (v0 : List UInt8) (v12 : Bool) : p17_2050 (j + 1) n0 v0 v12 =
  (sel (v12)
   (obind (f12 j (v0)) fun r166 =>
    (some (r166.fst, r166.snd.fst, r166.snd.snd.fst, ())))
   (p17_3 (n0) (n0) (v0)))
  p17_3_eq (j : Nat) (n0 : Nat) (v0 : List UInt8) : p17_3 (j + 1) n0 v0 =
  (obind (f48 j (v0)) fun r250 =>
   (sel (Decidable.decide (r250.fst ≥ (0 : Int)))
    (some ([], r250.fst, (61 : Int), ()))
    (some (v0, (0 : Int), (0 : Int), ()))))
  f39_eq (n : Nat) (a0 : List UInt8) (a1 : Int) : f39 (n + 1) a0 a1 =
  (sel (Decidable.decide (Go.IntKind.i64.wrap (a1 + (1 : Int)) ≥ (↑a0.length : Int)))
   (some ((0 : UInt8), (0 : Int), ()))
   (sel (Decidable.decide ((0 : Int) ≤ Go.IntKind.i64.wrap (a1 + (1 : Int))))
    (sel (Decidable.decide (Go.IntKind.i64.wrap (a1 + (1 : Int)) < (↑a0.length : Int)))
     (sel ((↑(a0.getD (Go.IntKind.i64.wrap (a1 + (1 : Int))).toNat (0 : UInt8)).toNat : Int) == (↑(UInt8.toNat (110 : UInt8)) : Int))
      (some ((10 : UInt8), (2 : Int), ()))
      (sel ((↑(a0.getD (Go.IntKind.i64.wrap (a1 + (1 : Int))).toNat (0 : UInt8)).toNat : Int) == (↑(UInt8.toNat (116 : UInt8)) : Int))
       (some ((9 : UInt8), (2 : Int), ()))
       (sel ((↑(a0.getD (Go.IntKind.i64.wrap (a1 + (1 : Int))).toNat (0 : UInt8)).toNat : Int) == (↑(UInt8.toNat (115 : UInt8)) : Int))
        (some ((32 : UInt8), (2 : Int), ()))
        (sel ((↑(a0.getD (Go.IntKind.i64.wrap (a1 + (1 : Int))).toNat (0 : UInt8)).toNat : Int) == (↑(UInt8.toNat (34 : UInt8)) : Int))
         (p39_2060 (n) (n) (a0) (a1) (a0.getD (Go.IntKind.i64.wrap (a1 + (1 : Int))).toNat (0 : UInt8)) ((↑(a0.getD (Go.IntKind.i64.wrap (a1 + (1 : Int))).toNat (0 : UInt8)).toNat : Int) == (↑(UInt8.toNat (34 : UInt8)) : Int)))
         (p39_2060 (n) (n) (a0) (a1) (a0.getD (Go.IntKind.i64.wrap (a1 + (1 : Int))).toNat (0 : UInt8)) ((↑(a0.getD (Go.IntKind.i64.wrap (a1 + (1 : Int))).toNat (0 : UInt8)).toNat : Int) == (↑(UInt8.toNat (92 : UInt8)) : Int)))))))
     none)
    none))
  p39_2060_eq (j : Nat) (n0 : Nat) (v0 : List UInt8) (v1 : Int) (v14 : UInt8) (v21 : Bool) : p39_2060 (j + 1) n0 v0 v1 v14 v21 =
  (sel (v21)
   (sel (Decidable.decide ((0 : Int) ≤ Go.IntKind.i64.wrap (v1 + (1 : Int))))
    (sel (Decidable.decide (Go.IntKind.i64.wrap (v1 + (1 : Int)) < (↑v0.length : Int)))
     (some (v0.getD (Go.IntKind.i64.wrap (v1 + (1 : Int))).toNat (0 : UInt8), (2 : Int), ()))
     none)
    none)
   (sel ((↑v14.toNat : Int) == (↑(UInt8.toNat (120 : UInt8)) : Int))
    (sel (Decidable.decide (Go.IntKind.i64.wrap (v1 + (3 : Int)) < (↑v0.length : Int)))
     (sel (Decidable.decide ((0 : Int) ≤ Go.IntKind.i64.wrap (v1 + (2 : Int))))
      (sel (Decidable.decide (Go.IntKind.i64.wrap (v1 + (2 : Int)) < (↑v0.length : Int)))
       (obind (f67 j (v0.getD (Go.IntKind.i64.wrap (v1 + (2 : Int))).toNat (0 : UInt8))) fun r589 =>
        (sel (Decidable.decide (r589.fst < (16 : Int)))
         (sel (Decidable.decide ((0 : Int) ≤ Go.IntKind.i64.wrap (v1 + (3 : Int))))
          (sel (Decidable.decide (Go.IntKind.i64.wrap (v1 + (3 : Int)) < (↑v0.length : Int)))
           (obind (f67 j (v0.getD (Go.IntKind.i64.wrap (v1 + (3 : Int))).toNat (0 : UInt8))) fun r682 =>
            (p39_2063 (j) (n0) (j) (v0) (v1) (Decidable.decide (r682.fst < (16 : Int)))))
           none)
          none)
         (p39_2063 (j) (n0) (j) (v0) (v1) (Bool.false))))
       none)
      none)
     (p39_2063 (j) (n0) (j) (v0) (v1) (Bool.false)))
    (p39_16 (n0) (n0))))
  p39_2063_eq (j : Nat) (n0 : Nat) (n1 : Nat) (v0 : List UInt8) (v1 : Int) (v50 : Bool) : p39_2063 (j + 1) n0 n1 v0 v1 v50 =
  (sel (v50)
   (sel (Decidable.decide ((0 : Int) ≤ Go.IntKind.i64.wrap (v1 + (2 : Int))))
    (sel (Decidable.decide (Go.IntKind.i64.wrap (v1 + (2 : Int)) < (↑v0.length : Int)))
     (obind (f67 j (v0.getD (Go.IntKind.i64.wrap (v1 + (2 : Int))).toNat (0 : UInt8))) fun r965 =>
      (sel (Decidable.decide ((0 : Int) ≤ Go.IntKind.i64.wrap (v1 + (3 : Int))))
       (sel (Decidable.decide (Go.IntKind.i64.wrap (v1 + (3 : Int)) < (↑v0.length : Int)))
        (obind (f67 j (v0.getD (Go.IntKind.i64.wrap (v1 + (3 : Int))).toNat (0 : UInt8))) fun r1015 =>
         (some (UInt8.ofNat (Go.IntKind.u8.wrap (Go.IntKind.i64.wrap (Go.IntKind.i64.wrap (r965.fst * (16 : Int)) + r1015.fst))).toNat, (4 : Int), ())))
        none)
       none))
     none)
    none)
   (p39_16 (n0) (n0)))
  p39_16_eq (j : Nat) (n0 : Nat) : p39_16 (j + 1) n0 =
  (some ((0 : UInt8), (0 : Int), ()))
  f40_eq (n : Nat) (a0 : List (UInt8)) (a1 : Int) : f40 (n + 1) a0 a1 =
  (sel (Decidable.decide ((0 : Int) ≤ a1))
   (sel (Decidable.decide (a1 < (↑a0.length : Int)))
    (sel (Decidable.decide (Go.IntKind.u32.wrap (↑(UInt8.toNat (a0.getD a1.toNat (0 : UInt8))) : Int) < (128 : Int)))
     (some (Go.IntKind.u32.wrap (↑(UInt8.toNat (a0.getD a1.toNat (0 : UInt8))) : Int), (1 : Int), ()))
     (sel (Decidable.decide (Go.IntKind.u32.wrap (↑(UInt8.toNat (a0.getD a1.toNat (0 : UInt8))) : Int) ≥ (192 : Int)))
      (p40_2054 (n) (n) (a0) (a1) (Go.IntKind.u32.wrap (↑(UInt8.toNat (a0.getD a1.toNat (0 : UInt8))) : Int)) ((0 : Int)) ((0 : Int)) ((0 : Int)) (Decidable.decide (Go.IntKind.u32.wrap (↑(UInt8.toNat (a0.getD a1.toNat (0 : UInt8))) : Int) < (224 : Int))))
      (p40_2054 (n) (n) (a0) (a1) (Go.IntKind.u32.wrap (↑(UInt8.toNat (a0.getD a1.toNat (0 : UInt8))) : Int)) ((0 : Int)) ((0 : Int)) ((0 : Int)) (Bool.false))))
    none)
   none)
  p40_2054_eq (j : Nat) (n0 : Nat) (v0 : List (UInt8)) (v1 : Int) (v6 : Int) (v7 : Int) (v8 : Int) (v9 : Int) (v20 : Bool) : p40_2054 (j + 1) n0 v0 v1 v6 v7 v8 v9 v20 =
  (sel (v20)
   (p40_11 (n0) (n0) (v0) (v1) ((2 : Int)) (Lk.ibits Go.BinOp.and Go.IntKind.u32 v6 (31 : Int)) ((128 : Int)))
   (sel (Decidable.decide (v6 ≥ (224 : Int)))
    (p40_2056 (j) (n0) (j) (v0) (v1) (v6) (v7) (v8) (v9) (Decidable.decide (v6 < (240 : Int))))
    (p40_2056 (j) (n0) (j) (v0) (v1) (v6) (v7) (v8) (v9) (Bool.false))))
  p40_11_eq (j : Nat) (n0 : Nat) (v0 : List (UInt8)) (v1 : Int) (v7 : Int) (v8 : Int) (v9 : Int) : p40_11 (j + 1) n0 v0 v1 v7 v8 v9 =
  (sel (v7 == (0 : Int))
   (p40_2060 (j) (n0) (j) (v0) (v1) (v7) (v8) (v9) (Bool.true))
   (p40_2060 (j) (n0) (j) (v0) (v1) (v7) (v8) (v9) (Decidable.decide (Go.IntKind.i64.wrap ((↑v0.length : Int) - v1) < v7))))
  p40_2056_eq (j : Nat) (n0 : Nat) (n1 : Nat) (v0 : List (UInt8)) (v1 : Int) (v6 : Int) (v7 : Int) (v8 : Int) (v9 : Int) (v29 : Bool) : p40_2056 (j + 1) n0 n1 v0 v1 v6 v7 v8 v9 v29 =
  (sel (v29)
   (p40_11 (n0) (n0) (v0) (v1) ((3 : Int)) (Lk.ibits Go.BinOp.and Go.IntKind.u32 v6 (15 : Int)) ((2048 : Int)))
   (sel (Decidable.decide (v6 ≥ (240 : Int)))
    (p40_2058 (j) (n0) (n1) (j) (v0) (v1) (v6) (v7) (v8) (v9) (Decidable.decide (v6 < (248 : Int))))
    (p40_2058 (j) (n0) (n1) (j) (v0) (v1) (v6) (v7) (v8) (v9) (Bool.false))))
  p40_2060_eq (j : Nat) (n0 : Nat) (n1 : Nat) (v0 : List (UInt8)) (v1 : Int) (v7 : Int) (v8 : Int) (v9 : Int) (v56 : Bool) : p40_2060 (j + 1) n0 n1 v0 v1 v7 v8 v9 v56 =
  (sel (v56)
   (some ((0 : Int), (0 : Int), ()))
   (p40_13 (n1) (n0) (n1) (v0) (v1) (v7) (v8) (v9)))
  p40_2058_eq (j : Nat) (n0 : Nat) (n1 : Nat) (n2 : Nat) (v0 : List (UInt8)) (v1 : Int) (v6 : Int) (v7 : Int) (v8 : Int) (v9 : Int) (v38 : Bool) : p40_2058 (j + 1) n0 n1 n2 v0 v1 v6 v7 v8 v9 v38 =
  (sel (v38)
   (p40_11 (n0) (n0) (v0) (v1) ((4 : Int)) (Lk.ibits Go.BinOp.and Go.IntKind.u32 v6 (7 : Int)) ((65536 : Int)))
   (p40_11 (n0) (n0) (v0) (v1) (v7) (v8) (v9)))
  p40_13_eq (j : Nat) (n0 : Nat) (n1 : Nat) (v0 : List (UInt8)) (v1 : Int) (v7 : Int) (v8 : Int) (v9 : Int) : p40_13 (j + 1) n0 n1 v0 v1 v7 v8 v9 =
  (p40_14 (j) (n0) (n1) (j) (v0) (v1) (v7) (v8) (v9) ((1 : Int)))
  p40_14_eq (j : Nat) (n0 : Nat) (n1 : Nat) (n2 : Nat) (v0 : List (UInt8)) (v1 : Int) (v7 : Int) (v8 : Int) (v9 : Int) (v10 : Int) : p40_14 (j + 1) n0 n1 n2 v0 v1 v7 v8 v9 v10 =
  (sel (Decidable.decide (v10 < v7))
   (sel (Decidable.decide ((0 : Int) ≤ Go.IntKind.i64.wrap (v1 + v10)))
    (sel (Decidable.decide (Go.IntKind.i64.wrap (v1 + v10) < (↑v0.length : Int)))
     (sel ((↑(UInt8.ofNat (Lk.ibits Go.BinOp.and Go.IntKind.u8 (↑(UInt8.toNat (v0.getD (Go.IntKind.i64.wrap (v1 + v10)).toNat (0 : UInt8))) : Int) (↑(UInt8.toNat (192 : UInt8)) : Int)).toNat).toNat : Int) != (↑(UInt8.toNat (128 : UInt8)) : Int))
      (some ((0 : Int), (0 : Int), ()))
      (sel (Decidable.decide ((0 : Int) ≤ (6 : Int)))
       (sel (Decidable.decide ((0 : Int) ≤ Go.IntKind.i64.wrap (v1 + v10)))
        (sel (Decidable.decide (Go.IntKind.i64.wrap (v1 + v10) < (↑v0.length : Int)))
         (p40_14 (j) (n0) (n1) (n2) (v0) (v1) (v7) (Lk.ibits Go.BinOp.or Go.IntKind.u32 (Go.IntKind.u32.wrap (v8 * (2 : Int) ^ Min.min (Int.toNat (6 : Int)) Go.IntKind.u32.bits)) (Go.IntKind.u32.wrap (↑(UInt8.ofNat (Lk.ibits Go.BinOp.and Go.IntKind.u8 (↑(UInt8.toNat (v0.getD (Go.IntKind.i64.wrap (v1 + v10)).toNat (0 : UInt8))) : Int) (↑(UInt8.toNat (63 : UInt8)) : Int)).toNat).toNat : Int))) (v9) (Go.IntKind.i64.wrap (v10 + (1 : Int))))
         none)
        none)
       none))
     none)
    none)
   (sel (Decidable.decide (v8 < v9))
    (p40_2068 (n2) (n0) (n1) (n2) (v7) (v8) (Bool.true))
    (sel (Decidable.decide (v8 > (1114111 : Int)))
     (p40_2068 (n2) (n0) (n1) (n2) (v7) (v8) (Bool.true))
     (sel (Decidable.decide (v8 ≥ (55296 : Int)))
      (p40_2068 (n2) (n0) (n1) (n2) (v7) (v8) (Decidable.decide (v8 ≤ (57343 : Int))))
      (p40_2068 (n2) (n0) (n1) (n2) (v7) (v8) (Bool.false))))))
  p40_2068_eq (j : Nat) (n0 : Nat) (n1 : Nat) (n2 : Nat) (v7 : Int) (v8 : Int) (v95 : Bool) : p40_2068 (j + 1) n0 n1 n2 v7 v8 v95 =
  (sel (v95)
   (some ((0 : Int), (0 : Int), ()))
   (p40_21 (n2) (n0) (n1) (n2) (v7) (v8)))
  p40_21_eq (j : Nat) (n0 : Nat) (n1 : Nat) (n2 : Nat) (v7 : Int) (v8 : Int) : p40_21 (j + 1) n0 n1 n2 v7 v8 =
  (some (v8, v7, ()))
  f41_eq (n : Nat) (a0 : Int) : f41 (n + 1) a0 =
  (sel (Decidable.decide (a0 > (32 : Int)))
   (sel (a0 != (34 : Int))
    (sel (a0 != (92 : Int))
     (sel (Decidable.decide (a0 < (127 : Int)))
      (some (Bool.true, ()))
      (some (Decidable.decide (a0 > (160 : Int)), ())))
     (some (Bool.false, ())))
    (some (Bool.false, ())))
   (some (Bool.false, ())))
  f46_eq (n : Nat) (a0 : List (UInt8)) (a1 : Int) : f46 (n + 1) a0 a1 =
  (obind (f40 n (a0) (a1)) fun r51 =>
   (sel (r51.snd.fst == (0 : Int))
    (sel (Decidable.decide ((0 : Int) ≤ a1))
     (sel (Decidable.decide (a1 < (↑a0.length : Int)))
      (obind (f70 n (a0.getD a1.toNat (0 : UInt8))) fun r163 =>
       (some (r163.fst, (1 : Int), ())))
      none)
     none)
    (obind (f41 n (r51.fst)) fun r214 =>
     (sel (r214.fst)
      (sel (Decidable.decide ((0 : Int) ≤ Go.IntKind.i64.wrap (a1 + r51.snd.fst)))
       (sel (Decidable.decide (Go.IntKind.i64.wrap (a1 + r51.snd.fst) ≤ (↑a0.length : Int)))
        (sel (Decidable.decide ((0 : Int) ≤ a1))
         (sel (Decidable.decide (a1 ≤ Go.IntKind.i64.wrap (a1 + r51.snd.fst)))
          (some (Lk.ext a0 a1 (Go.IntKind.i64.wrap (a1 + r51.snd.fst)), r51.snd.fst, ()))
          none)
         none)
        none)
       none)
      (sel (r51.fst == (10 : Int))
       (some ([(92 : UInt8), (110 : UInt8)], (1 : Int), ()))
       (sel (r51.fst == (9 : Int))
        (some ([(92 : UInt8), (116 : UInt8)], (1 : Int), ()))
        (sel (r51.fst == (32 : Int))
         (some ([(92 : UInt8), (115 : UInt8)], (1 : Int), ()))
         (sel (r51.fst == (34 : Int))
          (p46_2061 (n) (n) (a0) (a1) (r51.snd.fst) (Bool.true))
          (p46_2061 (n) (n) (a0) (a1) (r51.snd.fst) (r51.fst == (92 : Int)))))))))))
  p46_2061_eq (j : Nat) (n0 : Nat) (v0 : List (UInt8)) (v1 : Int) (v7 : Int) (v44 : Bool) : p46_2061 (j + 1) n0 v0 v1 v7 v44 =
  (sel (v44)
   (sel (Decidable.decide ((0 : Int) ≤ Go.IntKind.i64.wrap (v1 + (1 : Int))))
    (sel (Decidable.decide (Go.IntKind.i64.wrap (v1 + (1 : Int)) ≤ (↑v0.length : Int)))
     (sel (Decidable.decide ((0 : Int) ≤ v1))
      (sel (Decidable.decide (v1 ≤ Go.IntKind.i64.wrap (v1 + (1 : Int))))
       (sel (Decidable.decide ([(92 : UInt8)].length + (Lk.ext v0 v1 (Go.IntKind.i64.wrap (v1 + (1 : Int)))).length ≤ Lk.big))
        (some ([(92 : UInt8)] ++ Lk.ext v0 v1 (Go.IntKind.i64.wrap (v1 + (1 : Int))), (1 : Int), ()))
        none)
       none)
      none)
     none)
    none)
   (p46_14 (n0) (n0) (v0) (v1) (v7)))
  p46_14_eq (j : Nat) (n0 : Nat) (v0 : List (UInt8)) (v1 : Int) (v7 : Int) : p46_14 (j + 1) n0 v0 v1 v7 =
  (p46_16 (j) (n0) (j) (v0) (v1) (v7) ([]) ((0 : Int)))
  p46_16_eq (j : Nat) (n0 : Nat) (n1 : Nat) (v0 : List (UInt8)) (v1 : Int) (v7 : Int) (v8 : List UInt8) (v9 : Int) : p46_16 (j + 1) n0 n1 v0 v1 v7 v8 v9 =
  (sel (Decidable.decide (v9 < v7))
   (sel (Decidable.decide ((0 : Int) ≤ Go.IntKind.i64.wrap (v1 + v9)))
    (sel (Decidable.decide (Go.IntKind.i64.wrap (v1 + v9) < (↑v0.length : Int)))
     (obind (f70 j (v0.getD (Go.IntKind.i64.wrap (v1 + v9)).toNat (0 : UInt8))) fun r857 =>
      (sel (Decidable.decide (v8.length + List.length r857.fst ≤ Lk.big))
       (p46_16 (j) (n0) (n1) (v0) (v1) (v7) (v8 ++ r857.fst) (Go.IntKind.i64.wrap (v9 + (1 : Int))))
       none))
     none)
    none)
   (some (v8, v7, ())))
  f48_eq (n : Nat) (a0 : List UInt8) : f48 (n + 1) a0 =
  (p48_2 (n) (n) (a0) ((0 : Int)))
  p48_2_eq (j : Nat) (n0 : Nat) (v0 : List UInt8) (v3 : Int) : p48_2 (j + 1) n0 v0 v3 =
  (sel (Decidable.decide (v3 < (↑v0.length : Int)))
   (sel (Decidable.decide ((0 : Int) ≤ v3))
    (sel (Decidable.decide (v3 < (↑v0.length : Int)))
     (sel (Decidable.decide ((↑(v0.getD v3.toNat (0 : UInt8)).toNat : Int) < (↑(UInt8.toNat (97 : UInt8)) : Int)))
      (sel (Decidable.decide ((↑(v0.getD v3.toNat (0 : UInt8)).toNat : Int) < (↑(UInt8.toNat (48 : UInt8)) : Int)))
       (sel ((↑(v0.getD v3.toNat (0 : UInt8)).toNat : Int) != (↑(UInt8.toNat (46 : UInt8)) : Int))
        (sel ((↑(v0.getD v3.toNat (0 : UInt8)).toNat : Int) != (↑(UInt8.toNat (95 : UInt8)) : Int))
         (p48_2054 (j) (n0) (j) (v0) (v3) ((↑(v0.getD v3.toNat (0 : UInt8)).toNat : Int) != (↑(UInt8.toNat (45 : UInt8)) : Int)))
         (p48_2054 (j) (n0) (j) (v0) (v3) (Bool.false)))
        (p48_2054 (j) (n0) (j) (v0) (v3) (Bool.false)))
       (sel (Decidable.decide ((↑(v0.getD v3.toNat (0 : UInt8)).toNat : Int) > (↑(UInt8.toNat (57 : UInt8)) : Int)))
        (sel ((↑(v0.getD v3.toNat (0 : UInt8)).toNat : Int) != (↑(UInt8.toNat (46 : UInt8)) : Int))
         (sel ((↑(v0.getD v3.toNat (0 : UInt8)).toNat : Int) != (↑(UInt8.toNat (95 : UInt8)) : Int))
          (p48_2054 (j) (n0) (j) (v0) (v3) ((↑(v0.getD v3.toNat (0 : UInt8)).toNat : Int) != (↑(UInt8.toNat (45 : UInt8)) : Int)))
          (p48_2054 (j) (n0) (j) (v0) (v3) (Bool.false)))
         (p48_2054 (j) (n0) (j) (v0) (v3) (Bool.false)))
        (p48_2054 (j) (n0) (j) (v0) (v3) (Bool.false))))
      (sel (Decidable.decide ((↑(v0.getD v3.toNat (0 : UInt8)).toNat : Int) > (↑(UInt8.toNat (122 : UInt8)) : Int)))
       (sel (Decidable.decide ((↑(v0.getD v3.toNat (0 : UInt8)).toNat : Int) < (↑(UInt8.toNat (48 : UInt8)) : Int)))
        (sel ((↑(v0.getD v3.toNat (0 : UInt8)).toNat : Int) != (↑(UInt8.toNat (46 : UInt8)) : Int))
         (sel ((↑(v0.getD v3.toNat (0 : UInt8)).toNat : Int) != (↑(UInt8.toNat (95 : UInt8)) : Int))
          (p48_2054 (j) (n0) (j) (v0) (v3) ((↑(v0.getD v3.toNat (0 : UInt8)).toNat : Int) != (↑(UInt8.toNat (45 : UInt8)) : Int)))
          (p48_2054 (j) (n0) (j) (v0) (v3) (Bool.false)))
         (p48_2054 (j) (n0) (j) (v0) (v3) (Bool.false)))
        (sel (Decidable.decide ((↑(v0.getD v3.toNat (0 : UInt8)).toNat : Int) > (↑(UInt8.toNat (57 : UInt8)) : Int)))
         (sel ((↑(v0.getD v3.toNat (0 : UInt8)).toNat : Int) != (↑(UInt8.toNat (46 : UInt8)) : Int))
          (sel ((↑(v0.getD v3.toNat (0 : UInt8)).toNat : Int) != (↑(UInt8.toNat (95 : UInt8)) : Int))
           (p48_2054 (j) (n0) (j) (v0) (v3) ((↑(v0.getD v3.toNat (0 : UInt8)).toNat : Int) != (↑(UInt8.toNat (45 : UInt8)) : Int)))
           (p48_2054 (j) (n0) (j) (v0) (v3) (Bool.false)))
          (p48_2054 (j) (n0) (j) (v0) (v3) (Bool.false)))
         (p48_2054 (j) (n0) (j) (v0) (v3) (Bool.false))))
       (p48_2054 (j) (n0) (j) (v0) (v3) (Bool.false))))
     none)
    none)
   (sel ((↑v0.length : Int) == (0 : Int))
    (some ((0 : Int), ()))
    (some ((-1 : Int), ()))))
  p48_2054_eq (j : Nat) (n0 : Nat) (n1 : Nat) (v0 : List UInt8) (v3 : Int) (v39 : Bool) : p48_2054 (j + 1) n0 n1 v0 v3 v39 =
  (sel (v39)
   (some (v3, ()))
   (p48_3 (n1) (n0) (n1) (v0) (v3)))
  p48_3_eq (j : Nat) (n0 : Nat) (n1 : Nat) (v0 : List UInt8) (v3 : Int) : p48_3 (j + 1) n0 n1 v0 v3 =
  (p48_2 (n1) (n0) (v0) (Go.IntKind.i64.wrap (v3 + (1 : Int))))
  f67_eq (n : Nat) (a0 : UInt8) : f67 (n + 1) a0 =
  (sel (Decidable.decide ((↑a0.toNat : Int) ≥ (↑(UInt8.toNat (48 : UInt8)) : Int)))
   (p67_2050 (n) (n) (a0) (Decidable.decide ((↑a0.toNat : Int) ≤ (↑(UInt8.toNat (57 : UInt8)) : Int))))
   (p67_2050 (n) (n) (a0) (Bool.false)))
  p67_2050_eq (j : Nat) (n0 : Nat) (v0 : UInt8) (v3 : Bool) : p67_2050 (j + 1) n0 v0 v3 =
  (sel (v3)
   (some (Go.IntKind.i64.wrap (↑(UInt8.ofNat (Go.IntKind.u8.wrap ((↑v0.toNat : Int) - (↑(UInt8.toNat (48 : UInt8)) : Int))).toNat).toNat : Int), ()))
   (sel (Decidable.decide ((↑v0.toNat : Int) ≥ (↑(UInt8.toNat (97 : UInt8)) : Int)))
    (p67_2052 (j) (n0) (j) (v0) (Decidable.decide ((↑v0.toNat : Int) ≤ (↑(UInt8.toNat (102 : UInt8)) : Int))))
    (p67_2052 (j) (n0) (j) (v0) (Bool.false))))
  p67_2052_eq (j : Nat) (n0 : Nat) (n1 : Nat) (v0 : UInt8) (v13 : Bool) : p67_2052 (j + 1) n0 n1 v0 v13 =
  (sel (v13)
   (some (Go.IntKind.i64.wrap (Go.IntKind.i64.wrap (↑(UInt8.ofNat (Go.IntKind.u8.wrap ((↑v0.toNat : Int) - (↑(UInt8.toNat (97 : UInt8)) : Int))).toNat).toNat : Int) + (10 : Int)), ()))
   (p67_5 (n0) (n0)))
  p67_5_eq (j : Nat) (n0 : Nat) : p67_5 (j + 1) n0 =
  (some ((16 : Int), ()))
  f70_eq (n : Nat) (a0 : UInt8) : f70 (n + 1) a0 =
  (sel ((↑(UInt8.toNat (16 : UInt8)) : Int) != (0 : Int))
   (sel ((↑(UInt8.toNat (16 : UInt8)) : Int) != (0 : Int))
    (sel (Decidable.decide ((0 : Int) ≤ (↑(UInt8.ofNat (Go.IntKind.u8.wrap ((↑(UInt8.ofNat (Go.IntKind.u8.wrap ((↑a0.toNat : Int).tdiv (↑(UInt8.toNat (16 : UInt8)) : Int))).toNat).toNat : Int) + (↑(UInt8.toNat (1 : UInt8)) : Int))).toNat).toNat : Int)))
     (sel (Decidable.decide ((↑(UInt8.ofNat (Go.IntKind.u8.wrap ((↑(UInt8.ofNat (Go.IntKind.u8.wrap ((↑a0.toNat : Int).tdiv (↑(UInt8.toNat (16 : UInt8)) : Int))).toNat).toNat : Int) + (↑(UInt8.toNat (1 : UInt8)) : Int))).toNat).toNat : Int) ≤ (↑[(48 : UInt8), (49 : UInt8), (50 : UInt8), (51 : UInt8), (52 : UInt8), (53 : UInt8), (54 : UInt8), (55 : UInt8), (56 : UInt8), (57 : UInt8), (97 : UInt8), (98 : UInt8), (99 : UInt8), (100 : UInt8), (101 : UInt8), (102 : UInt8)].length : Int)))
      (sel (Decidable.decide ((0 : Int) ≤ (↑(UInt8.ofNat (Go.IntKind.u8.wrap ((↑a0.toNat : Int).tdiv (↑(UInt8.toNat (16 : UInt8)) : Int))).toNat).toNat : Int)))
       (sel (Decidable.decide ((↑(UInt8.ofNat (Go.IntKind.u8.wrap ((↑a0.toNat : Int).tdiv (↑(UInt8.toNat (16 : UInt8)) : Int))).toNat).toNat : Int) ≤ (↑(UInt8.ofNat (Go.IntKind.u8.wrap ((↑(UInt8.ofNat (Go.IntKind.u8.wrap ((↑a0.toNat : Int).tdiv (↑(UInt8.toNat (16 : UInt8)) : Int))).toNat).toNat : Int) + (↑(UInt8.toNat (1 : UInt8)) : Int))).toNat).toNat : Int)))
        (sel (Decidable.decide ([(92 : UInt8), (120 : UInt8)].length + (Lk.ext [(48 : UInt8), (49 : UInt8), (50 : UInt8), (51 : UInt8), (52 : UInt8), (53 : UInt8), (54 : UInt8), (55 : UInt8), (56 : UInt8), (57 : UInt8), (97 : UInt8), (98 : UInt8), (99 : UInt8), (100 : UInt8), (101 : UInt8), (102 : UInt8)] (↑(UInt8.ofNat (Go.IntKind.u8.wrap ((↑a0.toNat : Int).tdiv (↑(UInt8.toNat (16 : UInt8)) : Int))).toNat).toNat : Int) (↑(UInt8.ofNat (Go.IntKind.u8.wrap ((↑(UInt8.ofNat (Go.IntKind.u8.wrap ((↑a0.toNat : Int).tdiv (↑(UInt8.toNat (16 : UInt8)) : Int))).toNat).toNat : Int) + (↑(UInt8.toNat (1 : UInt8)) : Int))).toNat).toNat : Int)).length ≤ Lk.big))
         (sel ((↑(UInt8.toNat (16 : UInt8)) : Int) != (0 : Int))
          (sel ((↑(UInt8.toNat (16 : UInt8)) : Int) != (0 : Int))
           (sel (Decidable.decide ((0 : Int) ≤ (↑(UInt8.ofNat (Go.IntKind.u8.wrap ((↑(UInt8.ofNat ((↑a0.toNat : Int).tmod (↑(UInt8.toNat (16 : UInt8)) : Int)).toNat).toNat : Int) + (↑(UInt8.toNat (1 : UInt8)) : Int))).toNat).toNat : Int)))
            (sel (Decidable.decide ((↑(UInt8.ofNat (Go.IntKind.u8.wrap ((↑(UInt8.ofNat ((↑a0.toNat : Int).tmod (↑(UInt8.toNat (16 : UInt8)) : Int)).toNat).toNat : Int) + (↑(UInt8.toNat (1 : UInt8)) : Int))).toNat).toNat : Int) ≤ (↑[(48 : UInt8), (49 : UInt8), (50 : UInt8), (51 : UInt8), (52 : UInt8), (53 : UInt8), (54 : UInt8), (55 : UInt8), (56 : UInt8), (57 : UInt8), (97 : UInt8), (98 : UInt8), (99 : UInt8), (100 : UInt8), (101 : UInt8), (102 : UInt8)].length : Int)))
             (sel (Decidable.decide ((0 : Int) ≤ (↑(UInt8.ofNat ((↑a0.toNat : Int).tmod (↑(UInt8.toNat (16 : UInt8)) : Int)).toNat).toNat : Int)))
              (sel (Decidable.decide ((↑(UInt8.ofNat ((↑a0.toNat : Int).tmod (↑(UInt8.toNat (16 : UInt8)) : Int)).toNat).toNat : Int) ≤ (↑(UInt8.ofNat (Go.IntKind.u8.wrap ((↑(UInt8.ofNat ((↑a0.toNat : Int).tmod (↑(UInt8.toNat (16 : UInt8)) : Int)).toNat).toNat : Int) + (↑(UInt8.toNat (1 : UInt8)) : Int))).toNat).toNat : Int)))
               (sel (Decidable.decide (([(92 : UInt8), (120 : UInt8)] ++ Lk.ext [(48 : UInt8), (49 : UInt8), (50 : UInt8), (51 : UInt8), (52 : UInt8), (53 : UInt8), (54 : UInt8), (55 : UInt8), (56 : UInt8), (57 : UInt8), (97 : UInt8), (98 : UInt8), (99 : UInt8), (100 : UInt8), (101 : UInt8), (102 : UInt8)] (↑(UInt8.ofNat (Go.IntKind.u8.wrap ((↑a0.toNat : Int).tdiv (↑(UInt8.toNat (16 : UInt8)) : Int))).toNat).toNat : Int) (↑(UInt8.ofNat (Go.IntKind.u8.wrap ((↑(UInt8.ofNat (Go.IntKind.u8.wrap ((↑a0.toNat : Int).tdiv (↑(UInt8.toNat (16 : UInt8)) : Int))).toNat).toNat : Int) + (↑(UInt8.toNat (1 : UInt8)) : Int))).toNat).toNat : Int)).length + (Lk.ext [(48 : UInt8), (49 : UInt8), (50 : UInt8), (51 : UInt8), (52 : UInt8), (53 : UInt8), (54 : UInt8), (55 : UInt8), (56 : UInt8), (57 : UInt8), (97 : UInt8), (98 : UInt8), (99 : UInt8), (100 : UInt8), (101 : UInt8), (102 : UInt8)] (↑(UInt8.ofNat ((↑a0.toNat : Int).tmod (↑(UInt8.toNat (16 : UInt8)) : Int)).toNat).toNat : Int) (↑(UInt8.ofNat (Go.IntKind.u8.wrap ((↑(UInt8.ofNat ((↑a0.toNat : Int).tmod (↑(UInt8.toNat (16 : UInt8)) : Int)).toNat).toNat : Int) + (↑(UInt8.toNat (1 : UInt8)) : Int))).toNat).toNat : Int)).length ≤ Lk.big))
                (some ([(92 : UInt8), (120 : UInt8)] ++ Lk.ext [(48 : UInt8), (49 : UInt8), (50 : UInt8), (51 : UInt8), (52 : UInt8), (53 : UInt8), (54 : UInt8), (55 : UInt8), (56 : UInt8), (57 : UInt8), (97 : UInt8), (98 : UInt8), (99 : UInt8), (100 : UInt8), (101 : UInt8), (102 : UInt8)] (↑(UInt8.ofNat (Go.IntKind.u8.wrap ((↑a0.toNat : Int).tdiv (↑(UInt8.toNat (16 : UInt8)) : Int))).toNat).toNat : Int) (↑(UInt8.ofNat (Go.IntKind.u8.wrap ((↑(UInt8.ofNat (Go.IntKind.u8.wrap ((↑a0.toNat : Int).tdiv (↑(UInt8.toNat (16 : UInt8)) : Int))).toNat).toNat : Int) + (↑(UInt8.toNat (1 : UInt8)) : Int))).toNat).toNat : Int) ++ Lk.ext [(48 : UInt8), (49 : UInt8), (50 : UInt8), (51 : UInt8), (52 : UInt8), (53 : UInt8), (54 : UInt8), (55 : UInt8), (56 : UInt8), (57 : UInt8), (97 : UInt8), (98 : UInt8), (99 : UInt8), (100 : UInt8), (101 : UInt8), (102 : UInt8)] (↑(UInt8.ofNat ((↑a0.toNat : Int).tmod (↑(UInt8.toNat (16 : UInt8)) : Int)).toNat).toNat : Int) (↑(UInt8.ofNat (Go.IntKind.u8.wrap ((↑(UInt8.ofNat ((↑a0.toNat : Int).tmod (↑(UInt8.toNat (16 : UInt8)) : Int)).toNat).toNat : Int) + (↑(UInt8.toNat (1 : UInt8)) : Int))).toNat).toNat : Int), ()))
                none)
               none)
              none)
             none)
            none)
           none)
          none)
         none)
        none)
       none)
      none)
     none)
    none)
   none)
end Nq

namespace Sc
set_option maxRecDepth 100000
noncomputable def theFnsU : Nq.FnsU := {
  f37 := ScG.f32,
  f83 := ScG.f85,
  f13 := ScG.f9,
  f11 := ScG.f55,
  p11_5 := ScG.p55_5,
  p11_6 := ScG.p55_6,
  p11_17 := ScG.p55_17,
  p11_2062 := ScG.p55_2062,
  p11_15 := ScG.p55_15,
  f16 := ScG.f37,
  p16_2053 := ScG.p37_2053,
  p16_6 := ScG.p37_6,
  f18 := ScG.f8,
  p18_2050 := ScG.p8_2050,
  p18_3 := ScG.p8_3,
  f35 := ScG.f54,
  f36 := ScG.f71,
  p36_2060 := ScG.p71_2060,
  p36_2064 := ScG.p71_2064,
  p36_17 := ScG.p71_17,
  f38 := ScG.f34,
  f47 := ScG.f15,
  p47_2 := ScG.p15_2,
  f64 := ScG.f70,
  f65 := ScG.f82,
  f71 := ScG.f30,
  p71_2050 := ScG.p30_2050,
  p71_2051 := ScG.p30_2051,
  p71_2055 := ScG.p30_2055,
  p71_8 := ScG.p30_8,
  f37_eq := ScG.f32_eq,
  f83_eq := ScG.f85_eq,
  f13_eq := ScG.f9_eq,
  f11_eq := ScG.f55_eq,
  p11_5_eq := ScG.p55_5_eq,
  p11_6_eq := ScG.p55_6_eq,
  p11_17_eq := ScG.p55_17_eq,
  p11_2062_eq := ScG.p55_2062_eq,
  p11_15_eq := ScG.p55_15_eq,
  f16_eq := ScG.f37_eq,
  p16_2053_eq := ScG.p37_2053_eq,
  p16_6_eq := ScG.p37_6_eq,
  f18_eq := ScG.f8_eq,
  p18_2050_eq := ScG.p8_2050_eq,
  p18_3_eq := ScG.p8_3_eq,
  f35_eq := ScG.f54_eq,
  f36_eq := ScG.f71_eq,
  p36_2060_eq := ScG.p71_2060_eq,
  p36_2064_eq := ScG.p71_2064_eq,
  p36_17_eq := ScG.p71_17_eq,
  f38_eq := ScG.f34_eq,
  f47_eq := ScG.f15_eq,
  p47_2_eq := ScG.p15_2_eq,
  f64_eq := ScG.f70_eq,
  f65_eq := ScG.f82_eq,
  f71_eq := ScG.f30_eq,
  p71_2050_eq := ScG.p30_2050_eq,
  p71_2051_eq := ScG.p30_2051_eq,
  p71_2055_eq := ScG.p30_2055_eq,
  p71_8_eq := ScG.p30_8_eq }
end Sc

namespace Sc
set_option maxRecDepth 100000
noncomputable def theFnsR : Nq.FnsR := { theFnsU with
  f12 := ScG.f23,
  p12_2050 := ScG.p23_2050,
  p12_3 := ScG.p23_3,
  p12_5 := ScG.p23_5,
  p12_2068 := ScG.p23_2068,
  p12_21 := ScG.p23_21,
  f14 := ScG.f43,
  p14_4 := ScG.p43_4,
  f17 := ScG.f13,
  p17_2050 := ScG.p13_2050,
  p17_3 := ScG.p13_3,
  f39 := ScG.f44,
  p39_2060 := ScG.p44_2060,
  p39_2063 := ScG.p44_2063,
  p39_16 := ScG.p44_16,
  f40 := ScG.f45,
  p40_2054 := ScG.p45_2054,
  p40_11 := ScG.p45_11,
  p40_2056 := ScG.p45_2056,
  p40_2060 := ScG.p45_2060,
  p40_2058 := ScG.p45_2058,
  p40_13 := ScG.p45_13,
  p40_14 := ScG.p45_14,
  p40_2068 := ScG.p45_2068,
  p40_21 := ScG.p45_21,
  f41 := ScG.f46,
  f46 := ScG.f65,
  p46_2061 := ScG.p65_2061,
  p46_14 := ScG.p65_14,
  p46_16 := ScG.p65_16,
  f48 := ScG.f24,
  p48_2 := ScG.p24_2,
  p48_2054 := ScG.p24_2054,
  p48_3 := ScG.p24_3,
  f67 := ScG.f66,
  p67_2050 := ScG.p66_2050,
  p67_2052 := ScG.p66_2052,
  p67_5 := ScG.p66_5,
  f70 := ScG.f77,
  f12_eq := ScG.f23_eq,
  p12_2050_eq := ScG.p23_2050_eq,
  p12_3_eq := ScG.p23_3_eq,
  p12_5_eq := ScG.p23_5_eq,
  p12_2068_eq := ScG.p23_2068_eq,
  p12_21_eq := ScG.p23_21_eq,
  f14_eq := ScG.f43_eq,
  p14_4_eq := ScG.p43_4_eq,
  f17_eq := ScG.f13_eq,
  p17_2050_eq := ScG.p13_2050_eq,
  p17_3_eq := ScG.p13_3_eq,
  f39_eq := ScG.f44_eq,
  p39_2060_eq := ScG.p44_2060_eq,
  p39_2063_eq := ScG.p44_2063_eq,
  p39_16_eq := ScG.p44_16_eq,
  f40_eq := ScG.f45_eq,
  p40_2054_eq := ScG.p45_2054_eq,
  p40_11_eq := ScG.p45_11_eq,
  p40_2056_eq := ScG.p45_2056_eq,
  p40_2060_eq := ScG.p45_2060_eq,
  p40_2058_eq := ScG.p45_2058_eq,
  p40_13_eq := ScG.p45_13_eq,
  p40_14_eq := ScG.p45_14_eq,
  p40_2068_eq := ScG.p45_2068_eq,
  p40_21_eq := ScG.p45_21_eq,
  f41_eq := ScG.f46_eq,
  f46_eq := ScG.f65_eq,
  p46_2061_eq := ScG.p65_2061_eq,
  p46_14_eq := ScG.p65_14_eq,
  p46_16_eq := ScG.p65_16_eq,
  f48_eq := ScG.f24_eq,
  p48_2_eq := ScG.p24_2_eq,
  p48_2054_eq := ScG.p24_2054_eq,
  p48_3_eq := ScG.p24_3_eq,
  f67_eq := ScG.f66_eq,
  p67_2050_eq := ScG.p66_2050_eq,
  p67_2052_eq := ScG.p66_2052_eq,
  p67_5_eq := ScG.p66_5_eq,
  f70_eq := ScG.f77_eq }
end Sc

namespace Sc
set_option maxRecDepth 100000
noncomputable def theFnsN2 : Sc.FnsN := {
  f73 := ScG.f73,
  p73_3 := ScG.p73_3,
  p73_2054 := ScG.p73_2054,
  p73_7 := ScG.p73_7,
  f57 := ScG.f57,
  f59 := ScG.f59,
  p59_2 := ScG.p59_2,
  f73_eq := ScG.f73_eq,
  p73_3_eq := ScG.p73_3_eq,
  p73_2054_eq := ScG.p73_2054_eq,
  p73_7_eq := ScG.p73_7_eq,
  f57_eq := ScG.f57_eq,
  f59_eq := ScG.f59_eq,
  p59_2_eq := ScG.p59_2_eq }
end Sc

/-! Quotes and words: plain specifications. -/
namespace Nq
open Go Lk NqG

abbrev R3 := List UInt8 × Int × Int × Unit
def bad (k : Nat) : R3 := ([], (k : Int), 61, ())

def bareB (c : UInt8) : Bool := (Nat.ble 97 c.toNat && Nat.ble c.toNat 122) || (Nat.ble 48 c.toNat && Nat.ble c.toNat 57) || c == 46 || c == 95 || c == 45
def oddF (b : List UInt8) : Nat → Nat → Int
  | 0, _ => -1
  | n + 1, i => bif Nat.blt i b.length then (bif bareB (b.getD i 0) then oddF b n (i + 1) else (i : Int)) else -1
def oddS (b : List UInt8) : Int := oddF b b.length 0

def dg (c : UInt8) : Nat := bif Nat.ble 48 c.toNat && Nat.ble c.toNat 57 then c.toNat - 48 else bif Nat.ble 97 c.toNat && Nat.ble c.toNat 102 then c.toNat - 87 else 16
def dgAt (b : List UInt8) (i : Nat) : Nat := bif Nat.blt i b.length then dg (b.getD i 0) else 16

def escS (b : List UInt8) (i : Nat) : UInt8 × Nat :=
  bif Nat.blt (i + 1) b.length then
    let c := b.getD (i + 1) 0
    bif c == 110 then (10, 2) else bif c == 116 then (9, 2) else bif c == 115 then (32, 2) else bif c == 34 || c == 92 then (c, 2) else
    bif c == 120 then (bif Nat.blt (dgAt b (i + 2)) 16 && Nat.blt (dgAt b (i + 3)) 16 then (UInt8.ofNat (16 * dgAt b (i + 2) + dgAt b (i + 3)), 4) else (0, 0)) else (0, 0)
  else (0, 0)

def unqR (b : List UInt8) : Nat → Nat → List UInt8 → R3
  | 0, i, _ => bad i
  | n + 1, i, acc =>
    bif Nat.blt i b.length then
      let c := b.getD i 0
      bif c == 34 then (bif Nat.blt (i + 1) b.length then bad (i + 1) else bif quote acc == b then (acc, 0, 0, ()) else bad 0)
      else bif c == 92 then (bif (escS b i).2 == 0 then bad i else unqR b n (i + (escS b i).2) (acc ++ [(escS b i).1]))
      else bif (rn b i == 65533 && sz b i == 1) || !self (rn b i) then bad i
      else unqR b n (i + sz b i) (acc ++ ext b (i : Int) ((i + sz b i : Nat) : Int))
    else bad i
def unquote (b : List UInt8) : R3 := bif Nat.blt 0 b.length && b.getD 0 0 == 34 then unqR b b.length 1 [] else bad 0

def word (b : List UInt8) : List UInt8 := bif !b.isEmpty && decide (oddS b < 0) then b else quote b
def unword (b : List UInt8) : R3 :=
  bif Nat.blt 0 b.length && b.getD 0 0 == 34 then unquote b
  else bif b.isEmpty || decide (oddS b ≥ 0) then ([], imax (oddS b) 0, 61, ()) else (b, 0, 0, ())

theorem blt_t {a b : Nat} (h : a < b) : Nat.blt a b = true := by simpa [Nat.blt_eq] using h
theorem blt_f {a b : Nat} (h : ¬ a < b) : Nat.blt a b = false := by
  cases e : Nat.blt a b
  · rfl
  · exact absurd (by simpa [Nat.blt_eq] using e) h

theorem forall_u8 {p : UInt8 → Prop} (h : ∀ k : Fin 256, p (UInt8.ofNat k.val)) (a : UInt8) : p a := by
  have := h ⟨a.toNat, a.toNat_lt⟩
  simpa using this

theorem escS_le (b : List UInt8) (i : Nat) : i + (escS b i).2 ≤ max i b.length := by
  unfold escS
  by_cases h : i + 1 < b.length
  · rw [blt_t h]
    simp only [cond_true]
    have hx : ∀ q : Bool, (Nat.blt (dgAt b (i + 2)) 16 && Nat.blt (dgAt b (i + 3)) 16) = q → q = true → i + 3 < b.length := by
      intro q h1 h2
      rw [h2, Bool.and_eq_true] at h1
      have := h1.2
      unfold dgAt at this
      by_cases h3 : i + 3 < b.length
      · exact h3
      · rw [blt_f h3] at this; simp [Nat.blt_eq] at this
    generalize (b.getD (i + 1) 0) = c
    cases (c == 110) <;> cases (c == 116) <;> cases (c == 115) <;> cases (c == 34 || c == 92) <;> cases (c == 120) <;> simp only [cond_true, cond_false] <;> try omega
    cases hq : (Nat.blt (dgAt b (i + 2)) 16 && Nat.blt (dgAt b (i + 3)) 16)
    · simp only [cond_false]; omega
    · have := hx _ hq rfl
      simp only [cond_true]; omega
  · rw [blt_f h]; simp only [cond_false]; omega
end Nq

namespace Nq
open Go Lk NqG
variable (X : FnsU)

theorem f71_ok (n : Nat) (c : UInt8) : X.f71 (n + 4) c = some (bareB c, ()) := by
  rw [X.f71_eq]
  simp only [X.p71_2050_eq, X.p71_2051_eq, X.p71_2055_eq, X.p71_8_eq]
  revert c
  apply forall_u8
  decide +kernel

theorem f47_ok (b : List UInt8) (hlen : b.length ≤ 1073741824) (j : Nat) (hj : b.length + 8 ≤ j) : X.f47 j b = some (oddS b, ()) := by
  obtain ⟨j, rfl⟩ : ∃ q, j = q + 1 := ⟨j - 1, by omega⟩
  rw [X.f47_eq]
  have go : ∀ (N i jj n0 : Nat), b.length ≤ i + N → i ≤ b.length → N + 5 ≤ jj → X.p47_2 jj n0 b (b.length : Int) (i : Int) = some (oddF b N i, ()) := by
    intro N
    induction N with
    | zero =>
      intro i jj n0 h hi hjj
      obtain ⟨jj, rfl⟩ : ∃ q, jj = q + 1 := ⟨jj - 1, by omega⟩
      rw [X.p47_2_eq, sel_dec, if_neg (by omega)]
      rfl
    | succ N ih =>
      intro i jj n0 h hi hjj
      obtain ⟨jj, rfl⟩ : ∃ q, jj = q + 5 := ⟨jj - 5, by omega⟩
      rw [X.p47_2_eq]
      simp only [sel_dec]
      by_cases hlt : i < b.length
      · have w1 : IntKind.i64.wrap ((i : Int) + 1) = ((i + 1 : Nat) : Int) := by rw [wrap64 (by omega) (by omega)]; omega
        rw [if_pos (by omega), if_pos (by omega), if_pos (by omega)]
        simp only [Int.toNat_natCast, f71_ok X, ob_some, w1, oddF, blt_t hlt, cond_true]
        cases bareB (b.getD i 0)
        · rfl
        · simp only [Bool.not_true, sel_f, cond_true]
          exact ih (i + 1) (jj + 4) n0 (by omega) (by omega) (by omega)
      · rw [if_neg (by omega)]
        simp only [oddF, blt_f hlt, cond_false]
  exact go b.length 0 j j (by omega) (by omega) (by omega)

theorem f64_ok (n : Nat) (b : List UInt8) (c : UInt8) : X.f64 (n + 1) b [c] = some (Nat.blt 0 b.length && b.getD 0 0 == c, ()) := by
  rw [X.f64_eq]
  simp only [sel_dec]
  cases b with
  | nil => rfl
  | cons a l =>
    rw [if_pos (by simp; omega), if_pos (by simp), if_pos (by simp; omega)]
    have : ext (a :: l) (0 : Int) (([c] : List UInt8).length : Int) = [a] := by simp [ext, win]
    rw [this]
    have h2 : Nat.blt 0 (a :: l).length = true := blt_t (by simp)
    rw [h2]
    simp [List.cons_beq_cons]

theorem f35_ok (n : Nat) (b : List UInt8) (c : UInt8) : X.f35 (n + 2) b [c] = some (Nat.blt 0 b.length && b.getD 0 0 == c, ()) := by
  rw [X.f35_eq, f64_ok X]
  rfl

theorem idx_hex : ∀ c : UInt8, idx [48, 49, 50, 51, 52, 53, 54, 55, 56, 57, 97, 98, 99, 100, 101, 102] c = if dg c < 16 then (dg c : Int) else -1 := by
  apply forall_u8
  decide +kernel

theorem f65_ok (n : Nat) (b : List UInt8) (i : Nat) : X.f65 (n + 1) b (i : Int) = some (if dgAt b i < 16 then (dgAt b i : Int) else -1, ()) := by
  rw [X.f65_eq]
  simp only [sel_dec]
  unfold dgAt
  by_cases h : i < b.length
  · rw [if_neg (by omega), if_pos (by omega), if_pos (by omega), X.f83_eq]
    simp only [ob_some, Int.toNat_natCast, idx_hex, blt_t h, cond_true]
  · rw [if_pos (by omega), blt_f h]
    rfl

theorem or_hex : ∀ (h l : Fin 16), UInt8.ofNat (IntKind.u8.wrap (ibits .or .i64 (IntKind.i64.wrap ((h.val : Int) * (2 : Int) ^ Min.min (Int.toNat (4 : Int)) IntKind.i64.bits)) (l.val : Int))).toNat = UInt8.ofNat (16 * h.val + l.val) := by
  decide +kernel

theorem f36_ok (n : Nat) (b : List UInt8) (hlen : b.length ≤ 1073741824) (i : Nat) (hi : i < b.length) : X.f36 (n + 8) b (i : Int) = some ((escS b i).1, ((escS b i).2 : Int), ()) := by
  have w1 : IntKind.i64.wrap ((i : Int) + 1) = ((i + 1 : Nat) : Int) := by rw [wrap64 (by omega) (by omega)]; omega
  have w2 : IntKind.i64.wrap ((i : Int) + 2) = ((i + 2 : Nat) : Int) := by rw [wrap64 (by omega) (by omega)]; omega
  have w3 : IntKind.i64.wrap ((i : Int) + 3) = ((i + 3 : Nat) : Int) := by rw [wrap64 (by omega) (by omega)]; omega
  rw [X.f36_eq]
  simp only [sel_dec, w1]
  unfold escS
  by_cases h : i + 1 < b.length
  · have h0 : (0 : Int) ≤ ((i + 1 : Nat) : Int) := by omega
    have hlt : ((i + 1 : Nat) : Int) < (b.length : Int) := by omega
    rw [if_neg (by omega), if_pos h0, if_pos hlt, blt_t h]
    simp only [Int.toNat_natCast, b_eq, cond_true, X.p36_2060_eq, sel_dec, w1, w2, w3, if_pos h0, if_pos hlt, f65_ok X, ob_some, X.p36_17_eq]
    generalize (b.getD (i + 1) 0) = c
    cases h110 : (c == 110)
    · cases h116 : (c == 116)
      · cases h115 : (c == 115)
        · cases h34 : (c == 34)
          · cases h92 : (c == 92)
            · simp only [sel_f, cond_false, Bool.or_false]
              cases h120 : (c == 120)
              · rfl
              · simp only [sel_t, cond_true]
                by_cases d1 : dgAt b (i + 2) < 16
                · by_cases d2 : dgAt b (i + 3) < 16
                  · rw [if_pos d1, if_pos d2, if_pos (by omega), blt_t d1, blt_t d2, X.p36_2064_eq]
                    have e : decide ((dgAt b (i + 3) : Int) ≥ 0) = true := decide_eq_true (by omega)
                    rw [e]
                    have := or_hex ⟨_, d1⟩ ⟨_, d2⟩
                    simp only at this
                    simp only [sel_t, sel_dec, this]
                    rfl
                  · rw [if_pos d1, if_neg d2, if_pos (by omega), blt_f d2, Bool.and_false, X.p36_2064_eq]
                    simp only [sel_f, show decide ((-1 : Int) ≥ 0) = false from rfl, X.p36_17_eq]
                    rfl
                · rw [if_neg d1, if_neg (by omega), blt_f d1, Bool.false_and, X.p36_2064_eq]
                  simp only [sel_f, X.p36_17_eq]
                  rfl
            · simp only [sel_f, sel_t, cond_false, Bool.or_true, cond_true]; rfl
          · simp only [sel_f, sel_t, cond_false, Bool.true_or, cond_true]; rfl
        · rfl
      · rfl
    · rfl
  · rw [if_pos (by omega), blt_f h]
    rfl
theorem blt_dec (a b : Nat) : Nat.blt a b = decide (a < b) := by
  rw [Bool.eq_iff_iff]; simp [Nat.blt_eq]

theorem self_eq (r : Nat) : self r = decide (((32 : Int) < (r : Int) ∧ (r : Int) < 127 ∧ (r : Int) ≠ 34 ∧ (r : Int) ≠ 92) ∨ (160 : Int) < (r : Int)) := by
  unfold self
  rw [Bool.eq_iff_iff]
  simp only [blt_dec, Bool.or_eq_true, Bool.and_eq_true, decide_eq_true_eq, Bool.not_eq_true', beq_eq_false_iff_ne]
  omega

theorem f38_ok (n r : Nat) : X.f38 (n + 1) (r : Int) = some (self r, ()) := by
  rw [X.f38_eq, self_eq]
  have en34 : ((r : Int) != 34) = decide ((r : Int) ≠ 34) := by rw [Bool.eq_iff_iff]; simp
  have en92 : ((r : Int) != 92) = decide ((r : Int) ≠ 92) := by rw [Bool.eq_iff_iff]; simp
  rw [en34, en92]
  simp only [sel_dec]
  by_cases h1 : (r : Int) > 32
  · rw [if_pos h1]
    by_cases h2 : (r : Int) < 127
    · rw [if_pos h2]
      by_cases h3 : (r : Int) ≠ 34
      · rw [if_pos h3]
        by_cases h4 : (r : Int) ≠ 92
        · rw [if_pos h4, decide_eq_true (Or.inl ⟨h1, h2, h3, h4⟩)]
        · rw [if_neg h4, decide_eq_false (by omega), decide_eq_false (by omega)]
      · rw [if_neg h3, decide_eq_false (by omega), decide_eq_false (by omega)]
    · rw [if_neg h2]
      congr 2
      apply decide_eq_decide.2; omega
  · rw [if_neg h1]
    congr 2
    apply decide_eq_decide.2; omega

theorem e37_at (b : List UInt8) (i : Nat) (hi : i < b.length) : e37 (ext b (i : Int) (b.length : Int)) = ((rn b i : Int), (sz b i : Int)) := by
  rw [ext_drop]
  unfold e37
  have : (b.drop i).isEmpty = false := by
    cases h : b.drop i with
    | nil => have := congrArg List.length h; simp at this; omega
    | cons _ _ => rfl
  rw [this, decode_drop]
  rfl

theorem p11_ok (b : List UInt8) (hlen : b.length ≤ 1073741824) : ∀ (N i j n0 : Nat) (acc : List UInt8), b.length ≤ i + N → i ≤ b.length → acc.length ≤ i → N + 20 ≤ j → 4 ≤ n0 →
    X.p11_5 j n0 b (i : Int) acc = some (unqR b N i acc) := by
  intro N
  induction N with
  | zero =>
    intro i j n0 acc h hi hacc hj hn
    obtain ⟨j, rfl⟩ : ∃ q, j = q + 1 := ⟨j - 1, by omega⟩
    obtain ⟨n0, rfl⟩ : ∃ q, n0 = q + 1 := ⟨n0 - 1, by omega⟩
    rw [X.p11_5_eq, sel_dec, if_neg (by omega), X.p11_17_eq]
    have e : ((i : Int) == (b.length : Int)) = true := by rw [beq_iff_eq]; omega
    rw [e]
    rfl
  | succ N ih =>
    intro i j n0 acc h hi hacc hj hn
    obtain ⟨j, rfl⟩ : ∃ q, j = q + 20 := ⟨j - 20, by omega⟩
    obtain ⟨n0, rfl⟩ : ∃ q, n0 = q + 1 := ⟨n0 - 1, by omega⟩
    rw [X.p11_5_eq]
    simp only [sel_dec]
    by_cases hlt : i < b.length
    · have w1 : IntKind.i64.wrap ((i : Int) + 1) = ((i + 1 : Nat) : Int) := by rw [wrap64 (by omega) (by omega)]; omega
      have h0 : (0 : Int) ≤ (i : Int) := by omega
      have hl : (i : Int) < (b.length : Int) := by omega
      have hle : (i : Int) ≤ (b.length : Int) := by omega
      rw [if_pos hl, if_pos h0, if_pos hl]
      simp only [Int.toNat_natCast, b_ne, unqR, blt_t hlt, cond_true]
      cases h34 : (b.getD i 0 == 34)
      · have n34 : (b.getD i 0 != 34) = true := by simp only [bne, h34, Bool.not_false]
        rw [n34]
        simp only [sel_t, cond_false]
        rw [X.p11_6_eq]
        simp only [sel_dec, if_pos h0, if_pos hl, if_pos hle, Int.toNat_natCast, b_eq]
        cases h92 : (b.getD i 0 == 92)
        · simp only [sel_f, cond_false, X.f37_eq, e37_at b i hlt, ob_some, f38_ok X]
          have hs := sz_bd b i
          have hle2 := decode_le b i hlt
          have w2 : IntKind.i64.wrap ((i : Int) + (sz b i : Int)) = ((i + sz b i : Nat) : Int) := by rw [wrap64 (by omega) (by omega)]; omega
          have q1 : (((rn b i : Nat) : Int) == (65533 : Int)) = (rn b i == 65533) := by rw [Bool.eq_iff_iff]; simp only [beq_iff_eq]; omega
          have q2 : (((sz b i : Nat) : Int) == (1 : Int)) = (sz b i == 1) := by rw [Bool.eq_iff_iff]; simp only [beq_iff_eq]; omega
          have go : X.p11_15 (j + 17) (n0 + 1) (j + 19) (j + 18) b (i : Int) acc (sz b i : Int) = some (unqR b N (i + sz b i) (acc ++ ext b (i : Int) ((i + sz b i : Nat) : Int))) := by
            have el := ext_len b i (i + sz b i) hle2
            rw [X.p11_15_eq]
            simp only [sel_dec, w2]
            rw [if_pos (by omega), if_pos (by omega), if_pos (by omega), if_pos (by omega), if_pos (by rw [el]; omega)]
            exact ih (i + sz b i) (j + 19) (n0 + 1) _ (by omega) (by omega) (by rw [List.length_append, el]; omega) (by omega) (by omega)
          have go2 : ∀ q : Bool, X.p11_2062 (j + 18) (n0 + 1) (j + 19) (j + 18) b (i : Int) acc (sz b i : Int) q = some (bif q then bad i else unqR b N (i + sz b i) (acc ++ ext b (i : Int) ((i + sz b i : Nat) : Int))) := by
            intro q
            have go' : X.p11_15 (j + 18) (n0 + 1) (j + 19) (j + 18) b (i : Int) acc (sz b i : Int) = some (unqR b N (i + sz b i) (acc ++ ext b (i : Int) ((i + sz b i : Nat) : Int))) := by
              have el := ext_len b i (i + sz b i) hle2
              rw [X.p11_15_eq]
              simp only [sel_dec, w2]
              rw [if_pos (by omega), if_pos (by omega), if_pos (by omega), if_pos (by omega), if_pos (by rw [el]; omega)]
              exact ih (i + sz b i) (j + 19) (n0 + 1) _ (by omega) (by omega) (by rw [List.length_append, el]; omega) (by omega) (by omega)
            rw [X.p11_2062_eq]
            cases q
            · simp only [sel_f, cond_false]; exact go'
            · rfl
          rw [q1, q2]
          simp only [go2]
          cases (rn b i == 65533) <;> cases (sz b i == 1) <;> cases (self (rn b i)) <;> rfl
        · simp only [sel_t, cond_true, f36_ok X _ b hlen i hlt, ob_some]
          have hle2 := escS_le b i
          have q : ((((escS b i).2 : Nat) : Int) == (0 : Int)) = ((escS b i).2 == 0) := by rw [Bool.eq_iff_iff]; simp only [beq_iff_eq]; omega
          rw [q]
          cases hz : ((escS b i).2 == 0)
          · have hz' : (escS b i).2 ≠ 0 := by simpa using hz
            have w2 : IntKind.i64.wrap ((i : Int) + ((escS b i).2 : Int)) = ((i + (escS b i).2 : Nat) : Int) := by rw [wrap64 (by omega) (by omega)]; omega
            simp only [sel_f, cond_false, sel_dec, w2]
            rw [if_pos (by simp; omega)]
            exact ih (i + (escS b i).2) (j + 19) (n0 + 1) _ (by omega) (by omega) (by simp; omega) (by omega) (by omega)
          · rfl
      · have n34 : (b.getD i 0 != 34) = false := by simp only [bne, h34, Bool.not_true]
        rw [n34]
        simp only [sel_f, cond_true]
        rw [X.p11_17_eq]
        have e : ((i : Int) == (b.length : Int)) = false := by rw [beq_eq_false_iff_ne]; omega
        rw [e]
        simp only [sel_f, sel_dec, w1]
        by_cases h1 : i + 1 < b.length
        · rw [if_pos (by omega), blt_t h1]; rfl
        · have hb : Nat.ble acc.length 1073741824 = true := by rw [Nat.ble_eq]; omega
          rw [if_neg (by omega), blt_f h1, X.f13_eq, hb]
          simp only [cond_true, cond_false, ob_some]
          cases (quote acc == b) <;> rfl
    · rw [if_neg (by omega), X.p11_17_eq]
      have e : ((i : Int) == (b.length : Int)) = true := by rw [beq_iff_eq]; omega
      rw [e]
      simp only [unqR, blt_f hlt, cond_false, sel_t]
      rfl

theorem f11_ok (b : List UInt8) (hlen : b.length ≤ 1073741824) (j : Nat) (hj : b.length + 25 ≤ j) : X.f11 j b = some (unquote b) := by
  obtain ⟨j, rfl⟩ : ∃ q, j = q + 3 := ⟨j - 3, by omega⟩
  rw [X.f11_eq, f35_ok X]
  simp only [ob_some]
  unfold unquote
  cases h : (Nat.blt 0 b.length && b.getD 0 0 == 34)
  · rfl
  · simp only [Bool.not_true, sel_f, cond_true]
    have hl : 0 < b.length := by
      rw [Bool.and_eq_true] at h
      simpa [Nat.blt_eq] using h.1
    have := p11_ok X b hlen b.length 1 (j + 2) (j + 2) [] (by omega) (by omega) (by simp) (by omega) (by omega)
    exact this

theorem f16_ok (b : List UInt8) (hlen : b.length ≤ 1073741824) (j : Nat) (hj : b.length + 30 ≤ j) : X.f16 j b = some (unword b) := by
  obtain ⟨j, rfl⟩ : ∃ q, j = q + 4 := ⟨j - 4, by omega⟩
  rw [X.f16_eq, f35_ok X]
  simp only [ob_some]
  unfold unword
  cases h : (Nat.blt 0 b.length && b.getD 0 0 == 34)
  · simp only [sel_f, cond_false, f47_ok X b hlen (j + 3) (by omega), ob_some, X.p16_2053_eq, X.p16_6_eq]
    have he : (b == []) = b.isEmpty := by cases b <;> rfl
    rw [he]
    cases b.isEmpty <;> cases (decide (oddS b ≥ 0)) <;> rfl
  · simp only [sel_t, cond_true, f11_ok X b hlen (j + 3) (by omega), ob_some]

theorem f18_ok (b : List UInt8) (hlen : b.length ≤ 1073741824) (j : Nat) (hj : b.length + 30 ≤ j) : X.f18 j b = some (word b, ()) := by
  obtain ⟨j, rfl⟩ : ∃ q, j = q + 4 := ⟨j - 4, by omega⟩
  have hb : Nat.ble b.length 1073741824 = true := by rw [Nat.ble_eq]; exact hlen
  rw [X.f18_eq]
  unfold word
  have he : (b == []) = b.isEmpty := by cases b <;> rfl
  rw [he]
  simp only [f47_ok X b hlen (j + 3) (by omega), ob_some, X.p18_2050_eq, X.p18_3_eq, X.f13_eq, hb, cond_true]
  cases b.isEmpty <;> cases (decide (oddS b < 0)) <;> rfl
end Nq

namespace NqR
open Go Lk NqG Nq

section
variable (X : FnsR) (b : List UInt8) (hlen : b.length ≤ 1073741824) (i : Nat) (hi : i < b.length)

include hlen hi in
theorem p40_14_step (j n0 n1 n2 : Nat) (n k r least : Nat) (hk : k < n) (hn : n ≤ 4) (hb : i + k < b.length) (hr : r < 67108864) :
    X.p40_14 (j + 1) n0 n1 n2 b (i : Int) (n : Int) (r : Int) (least : Int) (k : Int) =
      if cont b (i + k) then X.p40_14 j n0 n1 n2 b (i : Int) (n : Int) ((r * 64 + byt b (i + k) % 64 : Nat) : Int) (least : Int) ((k + 1 : Nat) : Int) else some (0, 0, ()) := by
  have w1 : IntKind.i64.wrap ((i : Int) + (k : Int)) = ((i + k : Nat) : Int) := by rw [wrap64 (by omega) (by omega)]; omega
  have w2 : IntKind.i64.wrap ((k : Int) + 1) = ((k + 1 : Nat) : Int) := by rw [wrap64 (by omega) (by omega)]; omega
  have hlt := byt_lt b (i + k)
  have e1 : ((UInt8.ofNat (ibits .and .u8 (((b.getD (i + k) 0).toNat : Nat) : Int) ((UInt8.toNat 192 : Nat) : Int)).toNat).toNat) = byt b (i + k) &&& 192 := by
    have h : byt b (i + k) &&& 192 < 256 := Nat.lt_of_le_of_lt Nat.and_le_left hlt
    show (UInt8.ofNat (ibits .and .u8 ((byt b (i + k) : Nat) : Int) ((192 : Nat) : Int)).toNat).toNat = _
    rw [and_u8 hlt (by decide), Int.toNat_natCast, ofNat_toNat h]
  have e2 : ((UInt8.ofNat (ibits .and .u8 (((b.getD (i + k) 0).toNat : Nat) : Int) ((UInt8.toNat 63 : Nat) : Int)).toNat).toNat) = byt b (i + k) % 64 := by
    show (UInt8.ofNat (ibits .and .u8 ((byt b (i + k) : Nat) : Int) ((63 : Nat) : Int)).toNat).toNat = _
    rw [and_u8 hlt (by decide), Int.toNat_natCast, show (63 : Nat) = 2 ^ 6 - 1 from rfl, and_mask, ofNat_toNat (by omega)]
  have h6 : byt b (i + k) % 64 < 64 := Nat.mod_lt _ (by decide)
  rw [X.p40_14_eq]
  simp only [sel_dec, w1, w2, Int.toNat_natCast, e1, e2]
  rw [if_pos (by omega), if_pos (by omega), if_pos (by omega), if_pos (by omega), if_pos (by omega), if_pos (by omega), shl6 hr, wrap_u32 (by omega), or_u32 (by omega) (by omega), or_low h6]
  have hcc : cont b (i + k) = (byt b (i + k) / 64 == 2) := by simp [cont, cont.lt', hb]
  rw [hcc]
  have h192 : (byt b (i + k) &&& 192 = 128) ↔ byt b (i + k) / 64 = 2 := and192 (b.getD (i + k) 0)
  by_cases h2 : byt b (i + k) / 64 = 2
  · have h3 := h192.2 h2
    rw [h3, h2]
    simp [sel_f]
  · have h3 := mt h192.1 h2
    have e : ((((byt b (i + k) &&& 192 : Nat) : Int) != ((UInt8.toNat 128 : Nat) : Int))) = true := by
      rw [bne_iff_ne]
      intro h
      exact h3 (Int.ofNat.inj h)
    rw [e]
    simp [h2, sel_t]

theorem p40_14_fin (j n0 n1 n2 : Nat) (n r least : Nat) (hj : 2 ≤ n2) :
    X.p40_14 (j + 1) n0 n1 n2 b (i : Int) (n : Int) (r : Int) (least : Int) (n : Int) = some (((fin r n least).1 : Int), ((fin r n least).2 : Int), ()) := by
  obtain ⟨n2, rfl⟩ : ∃ k, n2 = k + 2 := ⟨n2 - 2, by omega⟩
  rw [X.p40_14_eq]
  simp only [sel_dec]
  rw [if_neg (by omega)]
  simp only [X.p40_2068_eq, X.p40_21_eq, sel_t, sel_f, sel_dec]
  unfold fin
  by_cases h1 : r < least
  · rw [if_pos (by omega), if_pos (Or.inl h1)]; rfl
  · rw [if_neg (by omega)]
    by_cases h2 : r > 1114111
    · rw [if_pos (by omega), if_pos (Or.inr (Or.inl h2))]; rfl
    · rw [if_neg (by omega)]
      by_cases h3 : r ≥ 55296
      · rw [if_pos (by omega)]
        by_cases h4 : r ≤ 57343
        · rw [if_pos (by omega), if_pos (Or.inr (Or.inr ⟨h3, h4⟩))]; rfl
        · rw [if_neg (by omega), if_neg (by omega)]
      · rw [if_neg (by omega), if_neg (by omega)]

include hlen hi in
theorem p40_11_ok (j n0 : Nat) (n r least : Nat) (hn : n ≤ 4) (hr : r < 256) (hj : 12 ≤ j) :
    X.p40_11 j n0 b (i : Int) (n : Int) (r : Int) (least : Int) = some (if n = 0 then (0, 0, ()) else if n = 1 then (((fin r n least).1 : Int), ((fin r n least).2 : Int), ())
      else if n = 2 then (if cont b (i + 1) then let d := fin (r * 64 + byt b (i + 1) % 64) n least; ((d.1 : Int), (d.2 : Int), ()) else (0, 0, ()))
      else if n = 3 then (if cont b (i + 1) && cont b (i + 2) then let d := fin ((r * 64 + byt b (i + 1) % 64) * 64 + byt b (i + 2) % 64) n least; ((d.1 : Int), (d.2 : Int), ()) else (0, 0, ()))
      else (if cont b (i + 1) && cont b (i + 2) && cont b (i + 3) then let d := fin (((r * 64 + byt b (i + 1) % 64) * 64 + byt b (i + 2) % 64) * 64 + byt b (i + 3) % 64) n least; ((d.1 : Int), (d.2 : Int), ()) else (0, 0, ()))) := by
  obtain ⟨j, rfl⟩ : ∃ k, j = k + 12 := ⟨j - 12, by omega⟩
  have w1 : IntKind.i64.wrap (((b.length : Nat) : Int) - (i : Int)) = ((b.length - i : Nat) : Int) := by rw [wrap64 (by omega) (by omega)]; omega
  have c1 := byt_lt b (i + 1)
  have c2 := byt_lt b (i + 2)
  have c3 := byt_lt b (i + 3)
  rw [X.p40_11_eq]
  simp only [X.p40_2060_eq, sel_dec, w1, sel_t]
  by_cases h0 : n = 0
  · subst h0
    rw [if_pos rfl]
    rfl
  · have e0 : ((n : Int) == 0) = false := by rw [beq_eq_false_iff_ne]; omega
    rw [e0, if_neg h0]
    simp only [sel_f]
    by_cases hs : b.length - i < n
    · rw [if_pos (by omega : (((b.length - i : Nat) : Int) < (n : Int)))]
      have hnc : ∀ k, b.length ≤ i + k → cont b (i + k) = false := by
        intro k hk; simp [cont, cont.lt']; omega
      rw [if_neg (by omega)]
      by_cases h2 : n = 2
      · rw [if_pos h2, hnc 1 (by omega)]; rfl
      · rw [if_neg h2]
        by_cases h3 : n = 3
        · rw [if_pos h3]
          rcases (by omega : b.length ≤ i + 1 ∨ b.length ≤ i + 2) with h | h <;> rw [hnc _ h] <;> simp
        · rw [if_neg h3]
          rcases (by omega : b.length ≤ i + 1 ∨ b.length ≤ i + 2 ∨ b.length ≤ i + 3) with h | h | h <;> rw [hnc _ h] <;> simp
    · rw [if_neg (by omega : ¬ (((b.length - i : Nat) : Int) < (n : Int)))]
      simp only [X.p40_13_eq]
      by_cases h1 : n = 1
      · subst h1
        rw [if_pos rfl]
        exact p40_14_fin X b i _ _ _ _ 1 r least (by omega)
      rw [if_neg h1]
      have s1 := p40_14_step X b hlen i hi (j + 9) n0 (j + 11) (j + 10) n 1 r least (by omega) hn (by omega) (by omega)
      rw [show ((1 : Nat) : Int) = 1 from rfl] at s1
      rw [s1]
      by_cases h2 : n = 2
      · subst h2
        rw [if_pos rfl]
        rw [p40_14_fin X b i _ _ _ _ 2 _ least (by omega)]
        cases cont b (i + 1) <;> rfl
      rw [if_neg h2, p40_14_step X b hlen i hi (j + 8) n0 (j + 11) (j + 10) n 2 _ least (by omega) hn (by omega) (by omega)]
      by_cases h3 : n = 3
      · subst h3
        rw [if_pos rfl]
        rw [p40_14_fin X b i _ _ _ _ 3 _ least (by omega)]
        cases cont b (i + 1) <;> cases cont b (i + 2) <;> rfl
      · have h4 : n = 4 := by omega
        subst h4
        rw [if_neg h3, p40_14_step X b hlen i hi (j + 7) n0 (j + 11) (j + 10) 4 3 _ least (by omega) hn (by omega) (by omega), p40_14_fin X b i _ _ _ _ 4 _ least (by omega)]
        cases cont b (i + 1) <;> cases cont b (i + 2) <;> cases cont b (i + 3) <;> rfl

include hlen hi in
theorem f40_ok (j : Nat) (hj : 20 ≤ j) : X.f40 j b (i : Int) = some (((runeR b i).1 : Int), ((runeR b i).2 : Int), ()) := by
  obtain ⟨j, rfl⟩ : ∃ k, j = k + 20 := ⟨j - 20, by omega⟩
  have c0 := byt_lt b i
  rw [rune_eq, X.f40_eq]
  have hb : (b.getD i 0).toNat = byt b i := rfl
  have hw : IntKind.u32.wrap ((byt b i : Nat) : Int) = ((byt b i : Nat) : Int) := wrap_u32 (by omega)
  simp only [Int.toNat_natCast, hb, hw, sel_dec]
  rw [if_pos (by omega), if_pos (by omega)]
  unfold runeB
  simp only
  have m31 : ibits .and .u32 ((byt b i : Nat) : Int) 31 = ((byt b i % 32 : Nat) : Int) := by
    rw [show (31 : Int) = ((31 : Nat) : Int) from rfl, and_u32 (by omega) (by decide), show (31 : Nat) = 2 ^ 5 - 1 from rfl, and_mask]
  have m15 : ibits .and .u32 ((byt b i : Nat) : Int) 15 = ((byt b i % 16 : Nat) : Int) := by
    rw [show (15 : Int) = ((15 : Nat) : Int) from rfl, and_u32 (by omega) (by decide), show (15 : Nat) = 2 ^ 4 - 1 from rfl, and_mask]
  have m7 : ibits .and .u32 ((byt b i : Nat) : Int) 7 = ((byt b i % 8 : Nat) : Int) := by
    rw [show (7 : Int) = ((7 : Nat) : Int) from rfl, and_u32 (by omega) (by decide), show (7 : Nat) = 2 ^ 3 - 1 from rfl, and_mask]
  by_cases h1 : byt b i < 128
  · rw [if_pos (by omega), if_pos h1]; rfl
  rw [if_neg (by omega), if_neg h1]
  have p0 : ∀ j', 12 ≤ j' → X.p40_11 j' (j + 19) b (i : Int) 0 0 0 = some (0, 0, ()) := by
    intro j' hj'
    have := p40_11_ok X b hlen i hi j' (j + 19) 0 0 0 (by omega) (by omega) hj'
    simpa using this
  by_cases h2 : byt b i < 192
  · rw [if_neg (by omega), if_pos h2, X.p40_2054_eq]
    simp only [sel_f, sel_dec]
    rw [if_neg (by omega), X.p40_2056_eq]
    simp only [sel_f, sel_dec]
    rw [if_neg (by omega), X.p40_2058_eq]
    simp only [sel_f]
    exact p0 _ (by omega)
  rw [if_pos (by omega), if_neg h2, X.p40_2054_eq]
  simp only [sel_dec, m31]
  by_cases h3 : byt b i < 224
  · rw [if_pos h3]
    rw [if_pos (by omega : ((byt b i : Nat) : Int) < 224)]
    have := p40_11_ok X b hlen i hi (j + 19) (j + 19) 2 (byt b i % 32) 128 (by omega) (by omega) (by omega)
    rw [show (2 : Int) = ((2 : Nat) : Int) from rfl, show (128 : Int) = ((128 : Nat) : Int) from rfl, this]
    cases cont b (i + 1) <;> rfl
  rw [if_neg h3]
  rw [if_neg (by omega : ¬ ((byt b i : Nat) : Int) < 224)]
  rw [if_pos (by omega), X.p40_2056_eq]
  simp only [sel_dec, m15]
  by_cases h4 : byt b i < 240
  · rw [if_pos h4]
    rw [if_pos (by omega : ((byt b i : Nat) : Int) < 240)]
    have := p40_11_ok X b hlen i hi (j + 19) (j + 19) 3 (byt b i % 16) 2048 (by omega) (by omega) (by omega)
    rw [show (3 : Int) = ((3 : Nat) : Int) from rfl, show (2048 : Int) = ((2048 : Nat) : Int) from rfl, this]
    cases cont b (i + 1) <;> cases cont b (i + 2) <;> rfl
  rw [if_neg h4]
  rw [if_neg (by omega : ¬ ((byt b i : Nat) : Int) < 240)]
  rw [if_pos (by omega), X.p40_2058_eq]
  simp only [sel_dec, m7]
  by_cases h5 : byt b i < 248
  · rw [if_pos h5]
    rw [if_pos (by omega : ((byt b i : Nat) : Int) < 248)]
    have := p40_11_ok X b hlen i hi (j + 19) (j + 19) 4 (byt b i % 8) 65536 (by omega) (by omega) (by omega)
    rw [show (4 : Int) = ((4 : Nat) : Int) from rfl, show (65536 : Int) = ((65536 : Nat) : Int) from rfl, this]
    cases cont b (i + 1) <;> cases cont b (i + 2) <;> cases cont b (i + 3) <;> rfl
  · rw [if_neg h5]
    rw [if_neg (by omega : ¬ ((byt b i : Nat) : Int) < 248)]
    exact p0 _ (by omega)
end
variable (X : FnsR)

theorem rune_at (b : List UInt8) (hlen : b.length ≤ 1073741824) (i : Nat) (hi : i < b.length) (j : Nat) (hj : 20 ≤ j) :
    X.f40 j b (i : Int) = some (bif rn b i == 65533 && sz b i == 1 then (0, 0, ()) else ((rn b i : Int), (sz b i : Int), ())) := by
  rw [f40_ok X b hlen i hi j hj]
  unfold runeR rn sz
  simp only
  cases ((Utf8.decode ⟨b.toArray⟩ i).1 == 65533 && (Utf8.decode ⟨b.toArray⟩ i).2 == 1) <;> rfl

theorem rune_ext (b : List UInt8) (hlen : b.length ≤ 1073741824) (i h : Nat) (hh : h ≤ b.length) (hi : i < h) (h4 : i + 4 ≤ h ∨ h = b.length) (j : Nat) (hj : 20 ≤ j) :
    X.f40 j (ext b (i : Int) (h : Int)) 0 = some (bif rn b i == 65533 && sz b i == 1 then (0, 0, ()) else ((rn b i : Int), (sz b i : Int), ())) := by
  have el := ext_len b i h hh
  have := f40_ok X (ext b (i : Int) (h : Int)) (by omega) 0 (by omega) j hj
  rw [show ((0 : Nat) : Int) = 0 from rfl] at this
  rw [this, runeR_ext b i h hh hi h4]
  unfold runeR rn sz
  simp only
  cases ((Utf8.decode ⟨b.toArray⟩ i).1 == 65533 && (Utf8.decode ⟨b.toArray⟩ i).2 == 1) <;> rfl

theorem f41_ok (n r : Nat) : X.f41 (n + 1) (r : Int) = some (self r, ()) := by
  rw [X.f41_eq, Nq.self_eq]
  have en34 : ((r : Int) != 34) = decide ((r : Int) ≠ 34) := by rw [Bool.eq_iff_iff]; simp
  have en92 : ((r : Int) != 92) = decide ((r : Int) ≠ 92) := by rw [Bool.eq_iff_iff]; simp
  rw [en34, en92]
  simp only [sel_dec]
  by_cases h1 : (r : Int) > 32
  · rw [if_pos h1]
    by_cases h3 : (r : Int) ≠ 34
    · rw [if_pos h3]
      by_cases h4 : (r : Int) ≠ 92
      · rw [if_pos h4]
        by_cases h2 : (r : Int) < 127
        · rw [if_pos h2, decide_eq_true (Or.inl ⟨h1, h2, h3, h4⟩)]
        · rw [if_neg h2]
          congr 2
          apply decide_eq_decide.2; omega
      · rw [if_neg h4, decide_eq_false (by omega)]
    · rw [if_neg h3, decide_eq_false (by omega)]
  · rw [if_neg h1, decide_eq_false (by omega)]

theorem f70_ok (n : Nat) (a : UInt8) : X.f70 (n + 1) a = some (esc a, ()) := by
  rw [X.f70_eq]
  revert a
  apply Nq.forall_u8
  decide +kernel

theorem f67_ok (n : Nat) (a : UInt8) : X.f67 (n + 4) a = some ((dg a : Int), ()) := by
  rw [X.f67_eq]
  simp only [X.p67_2050_eq, X.p67_2052_eq, X.p67_5_eq]
  revert a
  apply Nq.forall_u8
  decide +kernel

theorem p46_16_ok (b : List UInt8) (hlen : b.length ≤ 1073741824) (i m : Nat) (hi : i + m ≤ b.length) (hm : m ≤ 4) : ∀ (N k j n0 n1 : Nat) (acc : List UInt8), k + N = m → N + 2 ≤ j → acc.length ≤ 4 * k →
    X.p46_16 j n0 n1 b (i : Int) (m : Int) acc (k : Int) = some (acc ++ escs (ext b ((i + k : Nat) : Int) ((i + m : Nat) : Int)), (m : Int), ()) := by
  intro N
  induction N with
  | zero =>
    intro k j n0 n1 acc hk hj hacc
    obtain ⟨j, rfl⟩ : ∃ q, j = q + 1 := ⟨j - 1, by omega⟩
    have e : k = m := by omega
    subst e
    rw [X.p46_16_eq]
    simp only [sel_dec]
    rw [if_neg (by omega)]
    have : ext b ((i + k : Nat) : Int) ((i + k : Nat) : Int) = [] := by
      apply List.eq_nil_of_length_eq_zero; rw [ext_len b _ _ hi]; omega
    rw [this]
    simp [escs]
  | succ N ih =>
    intro k j n0 n1 acc hk hj hacc
    obtain ⟨j, rfl⟩ : ∃ q, j = q + 2 := ⟨j - 2, by omega⟩
    have w1 : IntKind.i64.wrap ((i : Int) + (k : Int)) = ((i + k : Nat) : Int) := by rw [wrap64 (by omega) (by omega)]; omega
    have w2 : IntKind.i64.wrap ((k : Int) + 1) = ((k + 1 : Nat) : Int) := by rw [wrap64 (by omega) (by omega)]; omega
    rw [X.p46_16_eq]
    simp only [sel_dec, w1, w2]
    rw [if_pos (by omega), if_pos (by omega), if_pos (by omega), f70_ok X]
    simp only [ob_some, Int.toNat_natCast]
    have hbg : acc.length + (esc (b.getD (i + k) 0)).length ≤ big := by rw [esc_len]; show _ ≤ 9223372036854775807; omega
    rw [if_pos hbg, ih (k + 1) (j + 1) n0 n1 _ (by omega) (by omega) (by simp [esc_len]; omega)]
    have e : ext b ((i + k : Nat) : Int) ((i + m : Nat) : Int) = b.getD (i + k) 0 :: ext b ((i + (k + 1) : Nat) : Int) ((i + m : Nat) : Int) := by
      have hlt : i + k < b.length := by omega
      unfold ext win
      simp only [Int.toNat_natCast]
      rw [List.drop_eq_getElem_cons hlt, show i + m - (i + k) = (i + m - (i + (k + 1))) + 1 by omega, List.take_succ_cons, List.getD_eq_getElem?_getD, List.getElem?_eq_getElem hlt]
      rfl
    rw [e]
    have e2 : escs (b.getD (i + k) 0 :: ext b ((i + (k + 1) : Nat) : Int) ((i + m : Nat) : Int)) = esc (b.getD (i + k) 0) ++ escs (ext b ((i + (k + 1) : Nat) : Int) ((i + m : Nat) : Int)) := rfl
    rw [e2, List.append_assoc]

theorem ext_one (b : List UInt8) (i : Nat) (h : i < b.length) : ext b (i : Int) ((i + 1 : Nat) : Int) = [b.getD i 0] := by
  unfold ext win
  simp only [Int.toNat_natCast]
  rw [show i + 1 - i = 1 by omega, List.drop_eq_getElem_cons h, List.take_succ_cons, List.take_zero, List.getD_eq_getElem?_getD, List.getElem?_eq_getElem h]
  rfl

theorem self_small : self 10 = false ∧ self 9 = false ∧ self 32 = false ∧ self 34 = false ∧ self 92 = false := by decide

theorem f46_ok (b : List UInt8) (hlen : b.length ≤ 1073741824) (i : Nat) (hi : i < b.length) (j : Nat) (hj : 30 ≤ j) : X.f46 j b (i : Int) = some (wri b i, (sz b i : Int), ()) := by
  obtain ⟨j, rfl⟩ : ∃ q, j = q + 30 := ⟨j - 30, by omega⟩
  have hs := sz_bd b i
  have hle := decode_le b i hi
  have w1 : IntKind.i64.wrap ((i : Int) + (sz b i : Int)) = ((i + sz b i : Nat) : Int) := by rw [wrap64 (by omega) (by omega)]; omega
  have w2 : IntKind.i64.wrap ((i : Int) + 1) = ((i + 1 : Nat) : Int) := by rw [wrap64 (by omega) (by omega)]; omega
  have hi0 : (0 : Int) ≤ (i : Int) := by omega
  have hil : (i : Int) < (b.length : Int) := by omega
  rw [X.f46_eq, rune_at X b hlen i hi _ (by omega)]
  simp only [ob_some]
  unfold wri
  cases he : (rn b i == 65533 && sz b i == 1)
  · have hz : (((sz b i : Nat) : Int) == (0 : Int)) = false := by rw [beq_eq_false_iff_ne]; omega
    simp only [cond_false, hz, sel_f, f41_ok X, ob_some, sel_dec, w1]
    have hbq : ∀ k : Nat, (((rn b i : Nat) : Int) == (k : Int)) = (rn b i == k) := by
      intro k; rw [Bool.eq_iff_iff]; simp only [beq_iff_eq]; omega
    have q10 := hbq 10
    have q9 := hbq 9
    have q32 := hbq 32
    have q34 := hbq 34
    have q92 := hbq 92
    simp only [Int.cast_ofNat_Int] at q10 q9 q32 q34 q92
    rw [q10, q9, q32, q34, q92]
    have hsm : ∀ k : Nat, k < 128 → (rn b i == k) = true → sz b i = 1 ∧ byt b i = k := by
      intro k hk h
      have h' := beq_iff_eq.1 h
      have := decode_small b i (by omega)
      exact ⟨this.1, by omega⟩
    have hbyt : b.getD i 0 = UInt8.ofNat (byt b i) := by unfold byt; simp
    obtain ⟨s1, s2, s3, s4, s5⟩ := self_small
    cases e10 : (rn b i == 10)
    · cases e9 : (rn b i == 9)
      · cases e32 : (rn b i == 32)
        · cases e34 : (rn b i == 34)
          · cases e92 : (rn b i == 92)
            · cases es : self (rn b i)
              · simp only [sel_f, cond_false, X.p46_2061_eq, X.p46_14_eq]
                have := p46_16_ok X b hlen i (sz b i) hle hs.2 (sz b i) 0 (j + 28) (j + 29) (j + 28) [] (by omega) (by omega) (by simp)
                simpa using this
              · simp only [sel_t, cond_false, cond_true]
                rw [if_pos (by omega), if_pos (by omega), if_pos (by omega), if_pos (by omega)]
            · have h := hsm 92 (by omega) e92
              rw [beq_iff_eq.1 e92, s5]
              simp only [sel_f, sel_t, cond_false, cond_true, X.p46_2061_eq, sel_dec, w2]
              have hl1 : (ext b (i : Int) ((i + 1 : Nat) : Int)).length = 1 := by rw [ext_len b i (i + 1) (by omega)]; omega
              rw [if_pos (by omega), if_pos (by omega), if_pos (by omega), if_pos (by omega), if_pos (by rw [hl1]; decide), ext_one b i hi, hbyt, h.2, h.1]
              rfl
          · have h := hsm 34 (by omega) e34
            rw [beq_iff_eq.1 e34, s4]
            simp only [sel_f, sel_t, cond_false, cond_true, X.p46_2061_eq, sel_dec, w2]
            have hl1 : (ext b (i : Int) ((i + 1 : Nat) : Int)).length = 1 := by rw [ext_len b i (i + 1) (by omega)]; omega
            rw [if_pos (by omega), if_pos (by omega), if_pos (by omega), if_pos (by omega), if_pos (by rw [hl1]; decide), ext_one b i hi, hbyt, h.2, h.1]
            rfl
        · rw [beq_iff_eq.1 e32, s3, (hsm 32 (by omega) e32).1]; rfl
      · rw [beq_iff_eq.1 e9, s2, (hsm 9 (by omega) e9).1]; rfl
    · rw [beq_iff_eq.1 e10, s1, (hsm 10 (by omega) e10).1]; rfl
  · have hsz : sz b i = 1 := by
      rw [Bool.and_eq_true] at he
      exact beq_iff_eq.1 he.2
    simp only [cond_true, show (((0 : Int) == (0 : Int))) = true from rfl, sel_t, sel_dec, if_pos hi0, if_pos hil, f70_ok X, ob_some, Int.toNat_natCast, hsz]
    rfl

theorem f14_ok (b : List UInt8) (hlen : b.length ≤ 67108864) (j : Nat) (hj : b.length + 40 ≤ j) : X.f14 j b = some (quote b, ()) := by
  obtain ⟨j, rfl⟩ : ∃ q, j = q + 1 := ⟨j - 1, by omega⟩
  rw [X.f14_eq]
  have go : ∀ (N i jj n0 : Nat) (acc : List UInt8), b.length ≤ i + N → i ≤ b.length → N + 35 ≤ jj → acc.length ≤ 4 * i + 1 → X.p14_4 jj n0 b acc (i : Int) = some (acc ++ qFrom b N i ++ [34], ()) := by
    intro N
    induction N with
    | zero =>
      intro i jj n0 acc h hi hjj hacc
      obtain ⟨jj, rfl⟩ : ∃ q, jj = q + 1 := ⟨jj - 1, by omega⟩
      rw [X.p14_4_eq]
      simp only [sel_dec]
      rw [if_neg (by omega), if_pos (by simp; omega)]
      simp [qFrom]
    | succ N ih =>
      intro i jj n0 acc h hi hjj hacc
      obtain ⟨jj, rfl⟩ : ∃ q, jj = q + 1 := ⟨jj - 1, by omega⟩
      rw [X.p14_4_eq]
      simp only [sel_dec]
      by_cases hlt : i < b.length
      · have hs := sz_bd b i
        have hle := decode_le b i hlt
        have hw := wri_len b i hlt
        have w1 : IntKind.i64.wrap ((i : Int) + (sz b i : Int)) = ((i + sz b i : Nat) : Int) := by rw [wrap64 (by omega) (by omega)]; omega
        rw [if_pos (by omega), f46_ok X b (by omega) i hlt jj (by omega)]
        simp only [ob_some, w1]
        rw [if_pos (by omega), ih (i + sz b i) jj n0 _ (by omega) (by omega) (by omega) (by rw [List.length_append]; omega)]
        simp only [qFrom, blt_t hlt, cond_true, List.append_assoc]
      · rw [if_neg (by omega), if_pos (by simp; omega)]
        simp [qFrom, blt_f hlt]
  have := go b.length 0 j j [34] (by omega) (by omega) (by omega) (by simp)
  exact this

theorem hexv : ∀ (h l : Fin 16), UInt8.ofNat (IntKind.u8.wrap (IntKind.i64.wrap (IntKind.i64.wrap ((h.val : Int) * (16 : Int)) + (l.val : Int)))).toNat = UInt8.ofNat (16 * h.val + l.val) := by
  decide +kernel

theorem f39_ok (n : Nat) (b : List UInt8) (hlen : b.length ≤ 1073741824) (i : Nat) (hi : i < b.length) : X.f39 (n + 8) b (i : Int) = some ((escS b i).1, ((escS b i).2 : Int), ()) := by
  have w1 : IntKind.i64.wrap ((i : Int) + 1) = ((i + 1 : Nat) : Int) := by rw [wrap64 (by omega) (by omega)]; omega
  have w2 : IntKind.i64.wrap ((i : Int) + 2) = ((i + 2 : Nat) : Int) := by rw [wrap64 (by omega) (by omega)]; omega
  have w3 : IntKind.i64.wrap ((i : Int) + 3) = ((i + 3 : Nat) : Int) := by rw [wrap64 (by omega) (by omega)]; omega
  rw [X.f39_eq]
  simp only [sel_dec, w1]
  unfold escS
  by_cases h : i + 1 < b.length
  · have h0 : (0 : Int) ≤ ((i + 1 : Nat) : Int) := by omega
    have hlt : ((i + 1 : Nat) : Int) < (b.length : Int) := by omega
    have h02 : (0 : Int) ≤ ((i + 2 : Nat) : Int) := by omega
    have h03 : (0 : Int) ≤ ((i + 3 : Nat) : Int) := by omega
    rw [if_neg (by omega), if_pos h0, if_pos hlt, blt_t h]
    simp only [Int.toNat_natCast, b_eq, cond_true, X.p39_2060_eq, sel_dec, w1, w2, w3, if_pos h0, if_pos hlt, if_pos h02, if_pos h03, f67_ok X, ob_some, X.p39_16_eq, X.p39_2063_eq]
    generalize (b.getD (i + 1) 0) = c
    cases h110 : (c == 110)
    · cases h116 : (c == 116)
      · cases h115 : (c == 115)
        · cases h34 : (c == 34)
          · cases h92 : (c == 92)
            · simp only [sel_f, cond_false, Bool.or_false]
              cases h120 : (c == 120)
              · rfl
              · simp only [sel_t, cond_true]
                by_cases h3 : i + 3 < b.length
                · have d2e : dgAt b (i + 2) = dg (b.getD (i + 2) 0) := by unfold dgAt; rw [blt_t (by omega)]; rfl
                  have d3e : dgAt b (i + 3) = dg (b.getD (i + 3) 0) := by unfold dgAt; rw [blt_t (by omega)]; rfl
                  have hl2 : ((i + 2 : Nat) : Int) < (b.length : Int) := by omega
                  have hl3 : ((i + 3 : Nat) : Int) < (b.length : Int) := by omega
                  rw [d2e, d3e]
                  simp only [if_pos hl2, if_pos hl3]
                  by_cases d1 : dg (b.getD (i + 2) 0) < 16
                  · by_cases d2 : dg (b.getD (i + 3) 0) < 16
                    · have e1 : ((dg (b.getD (i + 2) 0) : Nat) : Int) < 16 := by omega
                      have e2 : ((dg (b.getD (i + 3) 0) : Nat) : Int) < 16 := by omega
                      have := hexv ⟨_, d1⟩ ⟨_, d2⟩
                      simp only at this
                      rw [if_pos e1, if_pos e2, blt_t d1, blt_t d2, this]
                      rfl
                    · have e1 : ((dg (b.getD (i + 2) 0) : Nat) : Int) < 16 := by omega
                      have e2 : ¬ ((dg (b.getD (i + 3) 0) : Nat) : Int) < 16 := by omega
                      rw [if_pos e1, if_neg e2, blt_f d2, Bool.and_false]
                      rfl
                  · have e1 : ¬ ((dg (b.getD (i + 2) 0) : Nat) : Int) < 16 := by omega
                    rw [if_neg e1, blt_f d1, Bool.false_and]
                    rfl
                · have d3e : dgAt b (i + 3) = 16 := by unfold dgAt; rw [blt_f h3]; rfl
                  rw [d3e, blt_f (by decide : ¬ 16 < 16), Bool.and_false, if_neg (by omega)]
                  rfl
            · simp only [sel_f, sel_t, cond_false, Bool.or_true, cond_true]; rfl
          · simp only [sel_f, sel_t, cond_false, Bool.true_or, cond_true]; rfl
        · rfl
      · rfl
    · rfl
  · rw [if_pos (by omega), blt_f h]
    rfl

def bareTest (c : UInt8) : Bool :=
  (decide (c < 97) || decide (122 < c)) && (decide (c < 48) || decide (57 < c)) && (c != 46) && (c != 95) && (c != 45)
theorem bareTest_eq : ∀ c : UInt8, bareTest c = !bareB c := by
  apply Nq.forall_u8
  decide +kernel

theorem p48_ok (b : List UInt8) (hlen : b.length ≤ 1073741824) : ∀ (N i j n0 : Nat), b.length ≤ i + N → i ≤ b.length → 0 < b.length → N + 8 ≤ j → X.p48_2 j n0 b (i : Int) = some (oddF b N i, ()) := by
  intro N
  induction N with
  | zero =>
    intro i j n0 h hi hb hj
    obtain ⟨j, rfl⟩ : ∃ q, j = q + 1 := ⟨j - 1, by omega⟩
    have e : ((b.length : Int) == (0 : Int)) = false := by rw [beq_eq_false_iff_ne]; omega
    rw [X.p48_2_eq, sel_dec, if_neg (by omega), e]
    rfl
  | succ N ih =>
    intro i j n0 h hi hb hj
    obtain ⟨j, rfl⟩ : ∃ q, j = q + 3 := ⟨j - 3, by omega⟩
    rw [X.p48_2_eq]
    simp only [sel_dec]
    by_cases hlt : i < b.length
    · have w1 : IntKind.i64.wrap ((i : Int) + 1) = ((i + 1 : Nat) : Int) := by rw [wrap64 (by omega) (by omega)]; omega
      have h0 : (0 : Int) ≤ (i : Int) := by omega
      have hl : (i : Int) < (b.length : Int) := by omega
      have nx := ih (i + 1) (j + 2) n0 (by omega) (by omega) hb (by omega)
      rw [if_pos hl, if_pos h0, if_pos hl]
      simp only [Int.toNat_natCast, b_ltP, gt_iff_lt, b_ne, oddF, blt_t hlt, cond_true]
      have hp : ∀ q : Bool, X.p48_2054 (j + 2) n0 (j + 2) b (i : Int) q = some (bif q then (i : Int) else oddF b N (i + 1), ()) := by
        intro q
        rw [X.p48_2054_eq]
        cases q
        · simp only [sel_f, cond_false, X.p48_3_eq, w1]; exact nx
        · rfl
      simp only [hp]
      have hbt := bareTest_eq (b.getD i 0)
      unfold bareTest at hbt
      have hbb : bareB (b.getD i 0) = !((decide (b.getD i 0 < 97) || decide (122 < b.getD i 0)) && (decide (b.getD i 0 < 48) || decide (57 < b.getD i 0)) && (b.getD i 0 != 46) && (b.getD i 0 != 95) && (b.getD i 0 != 45)) := by
        rw [hbt, Bool.not_not]
      rw [hbb]
      generalize b.getD i 0 = c
      by_cases c1 : c < 97 <;> by_cases c2 : 122 < c <;> by_cases c3 : c < 48 <;> by_cases c4 : 57 < c <;> cases (c != 46) <;> cases (c != 95) <;> cases (c != 45) <;>
        simp only [c1, c2, c3, c4, if_true, if_false, decide_true, decide_false, sel_t, sel_f, Bool.or_true, Bool.true_or, Bool.or_false, Bool.false_or, Bool.and_true, Bool.true_and, Bool.and_false, Bool.false_and, Bool.not_true, Bool.not_false, cond_true, cond_false]
    · have e : ((b.length : Int) == (0 : Int)) = false := by rw [beq_eq_false_iff_ne]; omega
      rw [if_neg (by omega), e]
      simp only [oddF, blt_f hlt, cond_false]
      rfl

theorem f48_ok (b : List UInt8) (hlen : b.length ≤ 1073741824) (j : Nat) (hj : b.length + 10 ≤ j) : X.f48 j b = some (bif b.isEmpty then 0 else oddS b, ()) := by
  obtain ⟨j, rfl⟩ : ∃ q, j = q + 2 := ⟨j - 2, by omega⟩
  rw [X.f48_eq]
  cases b with
  | nil =>
    rw [X.p48_2_eq]
    rfl
  | cons a l =>
    have := p48_ok X (a :: l) hlen (a :: l).length 0 (j + 1) (j + 1) (by omega) (by omega) (by simp) (by omega)
    exact this

theorem p12_ok (b : List UInt8) (hlen : b.length ≤ 67108864) : ∀ (N i j n0 n1 : Nat) (acc : List UInt8), b.length ≤ i + N → i ≤ b.length → acc.length ≤ i → N + b.length + 60 ≤ j →
    X.p12_5 j n0 n1 b acc (i : Int) = some (unqR b N i acc) := by
  intro N
  induction N with
  | zero =>
    intro i j n0 n1 acc h hi hacc hj
    obtain ⟨j, rfl⟩ : ∃ q, j = q + 1 := ⟨j - 1, by omega⟩
    rw [X.p12_5_eq, sel_dec, if_neg (by omega)]
    have e : i = b.length := by omega
    subst e
    rfl
  | succ N ih =>
    intro i j n0 n1 acc h hi hacc hj
    obtain ⟨j, rfl⟩ : ∃ q, j = q + 60 := ⟨j - 60, by omega⟩
    rw [X.p12_5_eq]
    simp only [sel_dec]
    by_cases hlt : i < b.length
    · have w1 : IntKind.i64.wrap ((i : Int) + 1) = ((i + 1 : Nat) : Int) := by rw [wrap64 (by omega) (by omega)]; omega
      have w4 : IntKind.i64.wrap ((i : Int) + 4) = ((i + 4 : Nat) : Int) := by rw [wrap64 (by omega) (by omega)]; omega
      have wm : imin ((i + 4 : Nat) : Int) ((b.length : Nat) : Int) = ((min (i + 4) b.length : Nat) : Int) := by
        unfold imin; split <;> omega
      have h0 : (0 : Int) ≤ (i : Int) := by omega
      have hl : (i : Int) < (b.length : Int) := by omega
      rw [if_pos hl, if_pos h0, if_pos hl]
      simp only [Int.toNat_natCast, b_eq, w1, w4, wm, if_pos h0, if_pos hl, unqR, blt_t hlt, cond_true]
      cases h34 : (b.getD i 0 == 34)
      · simp only [sel_f, cond_false]
        cases h92 : (b.getD i 0 == 92)
        · simp only [sel_f, cond_false]
          have hs := sz_bd b i
          have hle2 := decode_le b i hlt
          have w2 : IntKind.i64.wrap ((i : Int) + (sz b i : Int)) = ((i + sz b i : Nat) : Int) := by rw [wrap64 (by omega) (by omega)]; omega
          rw [if_pos (by omega), if_pos (by omega), if_pos (by omega), rune_ext X b (by omega) i (min (i + 4) b.length) (by omega) (by omega) (by omega) _ (by omega)]
          simp only [ob_some]
          cases he : (rn b i == 65533 && sz b i == 1)
          · have hz : (((sz b i : Nat) : Int) == (0 : Int)) = false := by rw [beq_eq_false_iff_ne]; omega
            simp only [cond_false, hz, sel_f, f41_ok X, ob_some, Bool.false_or, X.p12_2068_eq]
            cases es : self (rn b i)
            · rfl
            · have el := ext_len b i (i + sz b i) hle2
              simp only [Bool.not_true, sel_f, cond_false, X.p12_21_eq, sel_dec, w2]
              rw [if_pos (by omega), if_pos (by omega), if_pos (by omega), if_pos (by omega), if_pos (by rw [el]; omega)]
              exact ih (i + sz b i) (j + 59) n0 n1 _ (by omega) (by omega) (by rw [List.length_append, el]; omega) (by omega)
          · simp only [cond_true, show (((0 : Int) == (0 : Int))) = true from rfl, sel_t, X.p12_2068_eq, Bool.true_or]
            rfl
        · simp only [sel_t, cond_true, f39_ok X _ b (by omega) i hlt, ob_some]
          have hle2 := escS_le b i
          have q : ((((escS b i).2 : Nat) : Int) == (0 : Int)) = ((escS b i).2 == 0) := by rw [Bool.eq_iff_iff]; simp only [beq_iff_eq]; omega
          rw [q]
          cases hz : ((escS b i).2 == 0)
          · have hz' : (escS b i).2 ≠ 0 := by simpa using hz
            have w2 : IntKind.i64.wrap ((i : Int) + ((escS b i).2 : Int)) = ((i + (escS b i).2 : Nat) : Int) := by rw [wrap64 (by omega) (by omega)]; omega
            simp only [sel_f, cond_false, w2]
            rw [if_pos (by simp; omega)]
            exact ih (i + (escS b i).2) (j + 59) n0 n1 _ (by omega) (by omega) (by simp; omega) (by omega)
          · rfl
      · simp only [sel_t, cond_true]
        by_cases h1 : i + 1 < b.length
        · rw [if_pos (by omega), blt_t h1]; rfl
        · rw [if_neg (by omega), blt_f h1, f14_ok X acc (by omega) (j + 59) (by omega)]
          simp only [cond_false, ob_some]
          cases (quote acc == b) <;> rfl
    · rw [if_neg (by omega)]
      simp only [unqR, blt_f hlt, cond_false]
      have e : i = b.length := by omega
      subst e
      rfl

theorem f12_ok (b : List UInt8) (hlen : b.length ≤ 67108864) (j : Nat) (hj : 2 * b.length + 80 ≤ j) : X.f12 j b = some (unquote b) := by
  obtain ⟨j, rfl⟩ : ∃ q, j = q + 4 := ⟨j - 4, by omega⟩
  rw [X.f12_eq]
  simp only [X.p12_2050_eq, X.p12_3_eq]
  unfold unquote
  cases b with
  | nil => rfl
  | cons a l =>
    have e : ((a :: l : List UInt8) == []) = false := rfl
    have hb : Nat.blt 0 (a :: l).length = true := blt_t (by simp)
    rw [e, hb]
    simp only [sel_f, Bool.true_and, sel_dec]
    rw [if_pos (by decide), if_pos (by simp)]
    simp only [b_ne, show Int.toNat 0 = 0 from rfl]
    cases h34 : ((a :: l).getD 0 0 == 34)
    · have n34 : ((a :: l).getD 0 0 != 34) = true := by simp only [bne, h34, Bool.not_false]
      rw [n34]; rfl
    · have n34 : ((a :: l).getD 0 0 != 34) = false := by simp only [bne, h34, Bool.not_true]
      rw [n34]
      simp only [sel_f, cond_true]
      exact p12_ok X (a :: l) hlen (a :: l).length 1 (j + 2) (j + 3) (j + 2) [] (by omega) (by simp) (by simp) (by omega)

theorem f17_ok (b : List UInt8) (hlen : b.length ≤ 67108864) (j : Nat) (hj : 2 * b.length + 90 ≤ j) : X.f17 j b = some (unword b) := by
  obtain ⟨j, rfl⟩ : ∃ q, j = q + 4 := ⟨j - 4, by omega⟩
  rw [X.f17_eq]
  unfold unword
  cases b with
  | nil =>
    have h48 := f48_ok X [] (by simp) (j + 2) (by simp only [List.length_nil] at hj ⊢; omega)
    simp only [X.p17_2050_eq, X.p17_3_eq, h48]
    rfl
  | cons a l =>
    have e : ((a :: l : List UInt8) == []) = false := rfl
    have hb : Nat.blt 0 (a :: l).length = true := blt_t (by simp)
    rw [e, hb]
    simp only [Bool.not_false, sel_t, Bool.true_and, sel_dec, X.p17_2050_eq, X.p17_3_eq, f48_ok X (a :: l) (by omega) (j + 2) (by omega), f12_ok X (a :: l) hlen (j + 2) (by omega), ob_some, List.isEmpty_cons, cond_false, Bool.false_or]
    rw [if_pos (by decide), if_pos (by simp)]
    simp only [b_eq, show Int.toNat 0 = 0 from rfl]
    cases h34 : ((a :: l).getD 0 0 == 34)
    · simp only [sel_f, cond_false]
      by_cases ho : oddS (a :: l) ≥ 0
      · have hm : imax (oddS (a :: l)) 0 = oddS (a :: l) := by unfold imax; split <;> omega
        rw [if_pos ho, decide_eq_true ho, hm]
        rfl
      · rw [if_neg ho, decide_eq_false ho]
        rfl
    · rfl

end NqR

