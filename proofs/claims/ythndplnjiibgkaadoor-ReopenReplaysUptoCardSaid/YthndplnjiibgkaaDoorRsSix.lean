import Derived.Test.YthndplnjiibgkaaDoorLkThree
import Derived.Test.YthndplnjiibgkaaDoorRrFour
set_option linter.all false
section
namespace Rk
open Go Lk
set_option linter.unusedVariables false
structure FnsK where
  f9 (n : Nat) (a0 : Int) : Option (Bool × Unit)
  f19 (n : Nat) (a0 : List (UInt8)) : Option (Bool × Unit)
  p19_2 (j : Nat) (n0 : Nat) (v0 : List (UInt8)) (v3 : Int) : Option (Bool × Unit)
  f20 (n : Nat) (a0 : List (UInt8)) (a1 : Int) (a2 : Int) : Option (Int × Int × Int × Unit)
  p20_2050 (j : Nat) (n0 : Nat) (v0 : List (UInt8)) (v1 : Int) (v2 : Int) (v18 : Bool) : Option (Int × Int × Int × Unit)
  p20_3 (j : Nat) (n0 : Nat) (v0 : List (UInt8)) (v1 : Int) (v2 : Int) : Option (Int × Int × Int × Unit)
  p20_7 (j : Nat) (n0 : Nat) (n1 : Nat) (v0 : List (UInt8)) (v1 : Int) (v2 : Int) (v9 : Int) (v10 : Int) : Option (Int × Int × Int × Unit)
  f49 (n : Nat) (a0 : Int) (a1 : Int) : Option (Int × Unit)
  p49_5 (j : Nat) (n0 : Nat) (v0 : Int) : Option (Int × Unit)
  f41 (n : Nat) (a0 : Int) (a1 : List (UInt8)) : Option (Int × Unit)
  p41_2 (j : Nat) (n0 : Nat) (v0 : Int) (v1 : List (UInt8)) (v5 : Int) : Option (Int × Unit)
  p41_5 (j : Nat) (n0 : Nat) (n1 : Nat) (v0 : Int) (v1 : List (UInt8)) (v5 : Int) (v6 : Int) : Option (Int × Unit)
  f35 (n : Nat) (a0 : Int) (a1 : List (UInt8)) : Option (Int × Unit)
  f22 (n : Nat) (a0 : List (UInt8)) : Option (Int × Unit)
  f21 (n : Nat) (a0 : Int) : Option (Int × Unit)
  f10 (n : Nat) (a0 : Int) (a1 : List (UInt8)) : Option (List ((List (UInt8) × (Int × Unit))) × Int × Unit)
  p10_5 (j : Nat) (n0 : Nat) (v0 : Int) (v1 : List (UInt8)) (v6 : List ((List (UInt8) × (Int × Unit)))) (v7 : List (UInt8)) (v8 : Bool) (v9 : Int) : Option (List ((List (UInt8) × (Int × Unit))) × Int × Unit)
  p10_14 (j : Nat) (n0 : Nat) (n1 : Nat) (v0 : Int) (v1 : List (UInt8)) (v6 : List ((List (UInt8) × (Int × Unit)))) (v7 : List (UInt8)) (v8 : Bool) (v9 : Int) (v11 : Int) : Option (List ((List (UInt8) × (Int × Unit))) × Int × Unit)
  p10_2071 (j : Nat) (n0 : Nat) (n1 : Nat) (v0 : Int) (v1 : List (UInt8)) (v6 : List ((List (UInt8) × (Int × Unit)))) (v7 : List (UInt8)) (v8 : Bool) (v9 : Int) (v12 : Int) (v15 : Int) (v16 : Int) (v93 : Bool) : Option (List ((List (UInt8) × (Int × Unit))) × Int × Unit)
  p10_24 (j : Nat) (n0 : Nat) (n1 : Nat) (v0 : Int) (v1 : List (UInt8)) (v6 : List ((List (UInt8) × (Int × Unit)))) (v7 : List (UInt8)) (v8 : Bool) (v9 : Int) (v12 : Int) (v15 : Int) (v16 : Int) : Option (List ((List (UInt8) × (Int × Unit))) × Int × Unit)
  p10_2076 (j : Nat) (n0 : Nat) (n1 : Nat) (n2 : Nat) (v0 : Int) (v1 : List (UInt8)) (v6 : List ((List (UInt8) × (Int × Unit)))) (v7 : List (UInt8)) (v9 : Int) (v15 : Int) (v16 : Int) (v17 : List (UInt8)) (v126 : Bool) : Option (List ((List (UInt8) × (Int × Unit))) × Int × Unit)
  p10_29 (j : Nat) (n0 : Nat) (n1 : Nat) (n2 : Nat) (v0 : Int) (v1 : List (UInt8)) (v6 : List ((List (UInt8) × (Int × Unit)))) (v7 : List (UInt8)) (v9 : Int) (v15 : Int) (v16 : Int) (v17 : List (UInt8)) : Option (List ((List (UInt8) × (Int × Unit))) × Int × Unit)
  p10_2078 (j : Nat) (n0 : Nat) (n1 : Nat) (n2 : Nat) (n3 : Nat) (v0 : Int) (v1 : List (UInt8)) (v6 : List ((List (UInt8) × (Int × Unit)))) (v7 : List (UInt8)) (v9 : Int) (v15 : Int) (v16 : Int) (v17 : List (UInt8)) (v133 : Bool) : Option (List ((List (UInt8) × (Int × Unit))) × Int × Unit)
  p10_31 (j : Nat) (n0 : Nat) (n1 : Nat) (n2 : Nat) (n3 : Nat) (v0 : Int) (v1 : List (UInt8)) (v6 : List ((List (UInt8) × (Int × Unit)))) (v7 : List (UInt8)) (v9 : Int) (v15 : Int) (v16 : Int) (v17 : List (UInt8)) : Option (List ((List (UInt8) × (Int × Unit))) × Int × Unit)
  p10_36 (j : Nat) (n0 : Nat) (n1 : Nat) (n2 : Nat) (n3 : Nat) (n4 : Nat) (v0 : Int) (v1 : List (UInt8)) (v6 : List ((List (UInt8) × (Int × Unit)))) (v7 : List (UInt8)) (v8 : Bool) (v9 : Int) : Option (List ((List (UInt8) × (Int × Unit))) × Int × Unit)
  f9_eq (n : Nat) (a0 : Int) : f9 (n + 1) a0 =
  (sel (Decidable.decide (a0 ≥ (32 : Int)))
   (some (Decidable.decide (a0 ≤ (32768 : Int)), ()))
   (some (Bool.false, ())))
  f19_eq (n : Nat) (a0 : List (UInt8)) : f19 (n + 1) a0 =
  (p19_2 (n) (n) (a0) ((0 : Int)))
  p19_2_eq (j : Nat) (n0 : Nat) (v0 : List (UInt8)) (v3 : Int) : p19_2 (j + 1) n0 v0 v3 =
  (sel (Decidable.decide (v3 < (↑v0.length : Int)))
   (sel (Decidable.decide ((0 : Int) ≤ v3))
    (sel (Decidable.decide (v3 < (↑v0.length : Int)))
     (sel ((↑(UInt8.toNat (v0.getD v3.toNat (0 : UInt8))) : Int) != (↑(UInt8.toNat (0 : UInt8)) : Int))
      (some (Bool.false, ()))
      (p19_2 (j) (n0) (v0) (Go.IntKind.i64.wrap (v3 + (1 : Int)))))
     none)
    none)
   (some (Bool.true, ())))
  f20_eq (n : Nat) (a0 : List (UInt8)) (a1 : Int) (a2 : Int) : f20 (n + 1) a0 a1 a2 =
  (sel (Decidable.decide (a1 < (0 : Int)))
   (p20_2050 (n) (n) (a0) (a1) (a2) (Bool.true))
   (p20_2050 (n) (n) (a0) (a1) (a2) (Decidable.decide (a1 > (↑a0.length : Int)))))
  p20_2050_eq (j : Nat) (n0 : Nat) (v0 : List (UInt8)) (v1 : Int) (v2 : Int) (v18 : Bool) : p20_2050 (j + 1) n0 v0 v1 v2 v18 =
  (sel (v18)
   (some ((0 : Int), (0 : Int), (2 : Int), ()))
   (p20_3 (n0) (n0) (v0) (v1) (v2)))
  p20_3_eq (j : Nat) (n0 : Nat) (v0 : List (UInt8)) (v1 : Int) (v2 : Int) : p20_3 (j + 1) n0 v0 v1 v2 =
  (sel (Decidable.decide (Go.IntKind.i64.wrap ((↑v0.length : Int) - v1) < v2))
   (some ((0 : Int), (0 : Int), (10 : Int), ()))
   (p20_7 (j) (n0) (j) (v0) (v1) (v2) ((0 : Int)) (Go.IntKind.i64.wrap (v2 - (1 : Int)))))
  p20_7_eq (j : Nat) (n0 : Nat) (n1 : Nat) (v0 : List (UInt8)) (v1 : Int) (v2 : Int) (v9 : Int) (v10 : Int) : p20_7 (j + 1) n0 n1 v0 v1 v2 v9 v10 =
  (sel (Decidable.decide (v10 ≥ (0 : Int)))
   (sel (Decidable.decide ((0 : Int) ≤ Go.IntKind.i64.wrap (v1 + v10)))
    (sel (Decidable.decide (Go.IntKind.i64.wrap (v1 + v10) < (↑v0.length : Int)))
     (p20_7 (j) (n0) (n1) (v0) (v1) (v2) (Go.IntKind.u64.wrap (Go.IntKind.u64.wrap (v9 * (256 : Int)) + Go.IntKind.u64.wrap (↑(UInt8.toNat (v0.getD (Go.IntKind.i64.wrap (v1 + v10)).toNat (0 : UInt8))) : Int))) (Go.IntKind.i64.wrap (v10 - (1 : Int))))
     none)
    none)
   (some (v9, Go.IntKind.i64.wrap (v1 + v2), (0 : Int), ())))
  f49_eq (n : Nat) (a0 : Int) (a1 : Int) : f49 (n + 1) a0 a1 =
  (sel (Decidable.decide ((0 : Int) ≤ (1 : Int)))
   (sel (Lk.ibits Go.BinOp.and Go.IntKind.u32 (Lk.ibits Go.BinOp.xor Go.IntKind.u32 a0 a1) (1 : Int) == (1 : Int))
    (p49_5 (n) (n) (Lk.ibits Go.BinOp.xor Go.IntKind.u32 (a0.fdiv ((2 : Int) ^ Min.min (Int.toNat (1 : Int)) Go.IntKind.u32.bits)) (2197175160 : Int)))
    (p49_5 (n) (n) (a0.fdiv ((2 : Int) ^ Min.min (Int.toNat (1 : Int)) Go.IntKind.u32.bits))))
   none)
  p49_5_eq (j : Nat) (n0 : Nat) (v0 : Int) : p49_5 (j + 1) n0 v0 =
  (some (v0, ()))
  f41_eq (n : Nat) (a0 : Int) (a1 : List (UInt8)) : f41 (n + 1) a0 a1 =
  (p41_2 (n) (n) (a0) (a1) ((0 : Int)))
  p41_2_eq (j : Nat) (n0 : Nat) (v0 : Int) (v1 : List (UInt8)) (v5 : Int) : p41_2 (j + 1) n0 v0 v1 v5 =
  (sel (Decidable.decide (v5 < (↑v1.length : Int)))
   (p41_5 (j) (n0) (j) (v0) (v1) (v5) ((0 : Int)))
   (some (v0, ())))
  p41_5_eq (j : Nat) (n0 : Nat) (n1 : Nat) (v0 : Int) (v1 : List (UInt8)) (v5 : Int) (v6 : Int) : p41_5 (j + 1) n0 n1 v0 v1 v5 v6 =
  (sel (Decidable.decide (v6 < (8 : Int)))
   (sel (Decidable.decide ((0 : Int) ≤ v5))
    (sel (Decidable.decide (v5 < (↑v1.length : Int)))
     (sel (Decidable.decide ((0 : Int) ≤ v6))
      (obind (f49 j (v0) ((Go.IntKind.u32.wrap (↑(UInt8.toNat (v1.getD v5.toNat (0 : UInt8))) : Int)).fdiv ((2 : Int) ^ Min.min v6.toNat Go.IntKind.u32.bits))) fun r276 =>
       (p41_5 (j) (n0) (n1) (r276.fst) (v1) (v5) (Go.IntKind.i64.wrap (v6 + (1 : Int)))))
      none)
     none)
    none)
   (p41_2 (n1) (n0) (v0) (v1) (Go.IntKind.i64.wrap (v5 + (1 : Int)))))
  f35_eq (n : Nat) (a0 : Int) (a1 : List (UInt8)) : f35 (n + 1) a0 a1 =
  (obind (f41 n (Lk.ibits Go.BinOp.xor Go.IntKind.u32 (if Go.IntKind.u32.signed = Bool.true then (-1 : Int) else Go.IntKind.u32.max) a0) (a1)) fun r60 =>
   (some (Lk.ibits Go.BinOp.xor Go.IntKind.u32 (if Go.IntKind.u32.signed = Bool.true then (-1 : Int) else Go.IntKind.u32.max) r60.fst, ())))
  f22_eq (n : Nat) (a0 : List (UInt8)) : f22 (n + 1) a0 =
  (obind (f35 n ((0 : Int)) (a0)) fun r46 =>
   (some (r46.fst, ())))
  f21_eq (n : Nat) (a0 : Int) : f21 (n + 1) a0 =
  (sel (Decidable.decide ((0 : Int) ≤ (15 : Int)))
   (sel (Decidable.decide ((0 : Int) ≤ (17 : Int)))
    (some (Go.IntKind.u32.wrap (Lk.ibits Go.BinOp.or Go.IntKind.u32 (a0.fdiv ((2 : Int) ^ Min.min (Int.toNat (15 : Int)) Go.IntKind.u32.bits)) (Go.IntKind.u32.wrap (a0 * (2 : Int) ^ Min.min (Int.toNat (17 : Int)) Go.IntKind.u32.bits)) + (2726488792 : Int)), ()))
    none)
   none)
  f10_eq (n : Nat) (a0 : Int) (a1 : List (UInt8)) : f10 (n + 1) a0 a1 =
  (p10_5 (n) (n) (a0) (a1) ([]) ([]) (Bool.false) ((0 : Int)))
  p10_5_eq (j : Nat) (n0 : Nat) (v0 : Int) (v1 : List (UInt8)) (v6 : List ((List (UInt8) × (Int × Unit)))) (v7 : List (UInt8)) (v8 : Bool) (v9 : Int) : p10_5 (j + 1) n0 v0 v1 v6 v7 v8 v9 =
  (sel (Decidable.decide (v9 ≥ (↑v1.length : Int)))
   (sel (v8)
    (some (v6, (1 : Int), ()))
    (some (v6, (0 : Int), ())))
   (sel (v0 != (0 : Int))
    (sel (Decidable.decide (Go.IntKind.i64.wrap (v0 - v9.tmod v0) < (7 : Int)))
     (sel (Decidable.decide (Go.IntKind.i64.wrap (v9 + Go.IntKind.i64.wrap (v0 - v9.tmod v0)) > (↑v1.length : Int)))
      (p10_14 (j) (n0) (j) (v0) (v1) (v6) (v7) (v8) (v9) ((↑v1.length : Int)))
      (p10_14 (j) (n0) (j) (v0) (v1) (v6) (v7) (v8) (v9) (Go.IntKind.i64.wrap (v9 + Go.IntKind.i64.wrap (v0 - v9.tmod v0)))))
     (sel (Decidable.decide (Go.IntKind.i64.wrap ((↑v1.length : Int) - v9) < (7 : Int)))
      (some (v6, (1 : Int), ()))
      (obind (f20 j (v1) (v9) ((4 : Int))) fun r640 =>
       (sel (Decidable.decide ((0 : Int) ≤ Go.IntKind.i64.wrap (v9 + (4 : Int))))
        (sel (Decidable.decide (Go.IntKind.i64.wrap (v9 + (4 : Int)) < (↑v1.length : Int)))
         (sel (Decidable.decide ((0 : Int) ≤ Go.IntKind.i64.wrap (v9 + (5 : Int))))
          (sel (Decidable.decide (Go.IntKind.i64.wrap (v9 + (5 : Int)) < (↑v1.length : Int)))
           (sel (Decidable.decide ((0 : Int) ≤ Go.IntKind.i64.wrap (v9 + (6 : Int))))
            (sel (Decidable.decide (Go.IntKind.i64.wrap (v9 + (6 : Int)) < (↑v1.length : Int)))
             (sel (Decidable.decide (Go.IntKind.i64.wrap (↑(UInt8.toNat (v1.getD (Go.IntKind.i64.wrap (v9 + (6 : Int))).toNat (0 : UInt8))) : Int) < (1 : Int)))
              (p10_2071 (j) (n0) (j) (v0) (v1) (v6) (v7) (v8) (v9) (r640.fst) (Go.IntKind.i64.wrap (Go.IntKind.i64.wrap (↑(UInt8.toNat (v1.getD (Go.IntKind.i64.wrap (v9 + (4 : Int))).toNat (0 : UInt8))) : Int) + Go.IntKind.i64.wrap (Go.IntKind.i64.wrap (↑(UInt8.toNat (v1.getD (Go.IntKind.i64.wrap (v9 + (5 : Int))).toNat (0 : UInt8))) : Int) * (256 : Int)))) (Go.IntKind.i64.wrap (↑(UInt8.toNat (v1.getD (Go.IntKind.i64.wrap (v9 + (6 : Int))).toNat (0 : UInt8))) : Int)) (Bool.true))
              (sel (Decidable.decide (Go.IntKind.i64.wrap (↑(UInt8.toNat (v1.getD (Go.IntKind.i64.wrap (v9 + (6 : Int))).toNat (0 : UInt8))) : Int) > (4 : Int)))
               (p10_2071 (j) (n0) (j) (v0) (v1) (v6) (v7) (v8) (v9) (r640.fst) (Go.IntKind.i64.wrap (Go.IntKind.i64.wrap (↑(UInt8.toNat (v1.getD (Go.IntKind.i64.wrap (v9 + (4 : Int))).toNat (0 : UInt8))) : Int) + Go.IntKind.i64.wrap (Go.IntKind.i64.wrap (↑(UInt8.toNat (v1.getD (Go.IntKind.i64.wrap (v9 + (5 : Int))).toNat (0 : UInt8))) : Int) * (256 : Int)))) (Go.IntKind.i64.wrap (↑(UInt8.toNat (v1.getD (Go.IntKind.i64.wrap (v9 + (6 : Int))).toNat (0 : UInt8))) : Int)) (Bool.true))
               (p10_2071 (j) (n0) (j) (v0) (v1) (v6) (v7) (v8) (v9) (r640.fst) (Go.IntKind.i64.wrap (Go.IntKind.i64.wrap (↑(UInt8.toNat (v1.getD (Go.IntKind.i64.wrap (v9 + (4 : Int))).toNat (0 : UInt8))) : Int) + Go.IntKind.i64.wrap (Go.IntKind.i64.wrap (↑(UInt8.toNat (v1.getD (Go.IntKind.i64.wrap (v9 + (5 : Int))).toNat (0 : UInt8))) : Int) * (256 : Int)))) (Go.IntKind.i64.wrap (↑(UInt8.toNat (v1.getD (Go.IntKind.i64.wrap (v9 + (6 : Int))).toNat (0 : UInt8))) : Int)) (Decidable.decide (Go.IntKind.i64.wrap (Go.IntKind.i64.wrap (↑(UInt8.toNat (v1.getD (Go.IntKind.i64.wrap (v9 + (4 : Int))).toNat (0 : UInt8))) : Int) + Go.IntKind.i64.wrap (Go.IntKind.i64.wrap (↑(UInt8.toNat (v1.getD (Go.IntKind.i64.wrap (v9 + (5 : Int))).toNat (0 : UInt8))) : Int) * (256 : Int))) > Go.IntKind.i64.wrap (Go.IntKind.i64.wrap (v0 - v9.tmod v0) - (7 : Int)))))))
             none)
            none)
           none)
          none)
         none)
        none))))
    none))
  p10_14_eq (j : Nat) (n0 : Nat) (n1 : Nat) (v0 : Int) (v1 : List (UInt8)) (v6 : List ((List (UInt8) × (Int × Unit)))) (v7 : List (UInt8)) (v8 : Bool) (v9 : Int) (v11 : Int) : p10_14 (j + 1) n0 n1 v0 v1 v6 v7 v8 v9 v11 =
  (sel (Decidable.decide ((0 : Int) ≤ v11))
   (sel (Decidable.decide (v11 ≤ (↑v1.length : Int)))
    (sel (Decidable.decide ((0 : Int) ≤ v9))
     (sel (Decidable.decide (v9 ≤ v11))
      (obind (f19 j (Lk.ext v1 v9 v11)) fun r1170 =>
       (sel (!r1170.fst)
        (some (v6, (2 : Int), ()))
        (p10_5 (n1) (n0) (v0) (v1) (v6) (v7) (v8) (v11))))
      none)
     none)
    none)
   none)
  p10_2071_eq (j : Nat) (n0 : Nat) (n1 : Nat) (v0 : Int) (v1 : List (UInt8)) (v6 : List ((List (UInt8) × (Int × Unit)))) (v7 : List (UInt8)) (v8 : Bool) (v9 : Int) (v12 : Int) (v15 : Int) (v16 : Int) (v93 : Bool) : p10_2071 (j + 1) n0 n1 v0 v1 v6 v7 v8 v9 v12 v15 v16 v93 =
  (sel (v93)
   (some (v6, (2 : Int), ()))
   (p10_24 (n1) (n0) (n1) (v0) (v1) (v6) (v7) (v8) (v9) (v12) (v15) (v16)))
  p10_24_eq (j : Nat) (n0 : Nat) (n1 : Nat) (v0 : Int) (v1 : List (UInt8)) (v6 : List ((List (UInt8) × (Int × Unit)))) (v7 : List (UInt8)) (v8 : Bool) (v9 : Int) (v12 : Int) (v15 : Int) (v16 : Int) : p10_24 (j + 1) n0 n1 v0 v1 v6 v7 v8 v9 v12 v15 v16 =
  (sel (Decidable.decide (Go.IntKind.i64.wrap (Go.IntKind.i64.wrap ((↑v1.length : Int) - v9) - (7 : Int)) < v15))
   (some (v6, (1 : Int), ()))
   (sel (Decidable.decide ((0 : Int) ≤ Go.IntKind.i64.wrap (Go.IntKind.i64.wrap (v9 + (7 : Int)) + v15)))
    (sel (Decidable.decide (Go.IntKind.i64.wrap (Go.IntKind.i64.wrap (v9 + (7 : Int)) + v15) ≤ (↑v1.length : Int)))
     (sel (Decidable.decide ((0 : Int) ≤ Go.IntKind.i64.wrap (v9 + (6 : Int))))
      (sel (Decidable.decide (Go.IntKind.i64.wrap (v9 + (6 : Int)) ≤ Go.IntKind.i64.wrap (Go.IntKind.i64.wrap (v9 + (7 : Int)) + v15)))
       (obind (f22 j (Lk.ext v1 (Go.IntKind.i64.wrap (v9 + (6 : Int))) (Go.IntKind.i64.wrap (Go.IntKind.i64.wrap (v9 + (7 : Int)) + v15)))) fun r1583 =>
        (obind (f21 j (r1583.fst)) fun r1593 =>
         (sel (Go.IntKind.u32.wrap v12 != r1593.fst)
          (p10_2076 (j) (n0) (n1) (j) (v0) (v1) (v6) (v7) (v9) (v15) (v16) (Lk.ext v1 (Go.IntKind.i64.wrap (v9 + (6 : Int))) (Go.IntKind.i64.wrap (Go.IntKind.i64.wrap (v9 + (7 : Int)) + v15))) (Bool.true))
          (sel (v16 == (1 : Int))
           (p10_2076 (j) (n0) (n1) (j) (v0) (v1) (v6) (v7) (v9) (v15) (v16) (Lk.ext v1 (Go.IntKind.i64.wrap (v9 + (6 : Int))) (Go.IntKind.i64.wrap (Go.IntKind.i64.wrap (v9 + (7 : Int)) + v15))) (Bool.true == v8))
           (p10_2076 (j) (n0) (n1) (j) (v0) (v1) (v6) (v7) (v9) (v15) (v16) (Lk.ext v1 (Go.IntKind.i64.wrap (v9 + (6 : Int))) (Go.IntKind.i64.wrap (Go.IntKind.i64.wrap (v9 + (7 : Int)) + v15))) ((v16 == (2 : Int)) == v8))))))
       none)
      none)
     none)
    none))
  p10_2076_eq (j : Nat) (n0 : Nat) (n1 : Nat) (n2 : Nat) (v0 : Int) (v1 : List (UInt8)) (v6 : List ((List (UInt8) × (Int × Unit)))) (v7 : List (UInt8)) (v9 : Int) (v15 : Int) (v16 : Int) (v17 : List (UInt8)) (v126 : Bool) : p10_2076 (j + 1) n0 n1 n2 v0 v1 v6 v7 v9 v15 v16 v17 v126 =
  (sel (v126)
   (some (v6, (2 : Int), ()))
   (p10_29 (n2) (n0) (n1) (n2) (v0) (v1) (v6) (v7) (v9) (v15) (v16) (v17)))
  p10_29_eq (j : Nat) (n0 : Nat) (n1 : Nat) (n2 : Nat) (v0 : Int) (v1 : List (UInt8)) (v6 : List ((List (UInt8) × (Int × Unit)))) (v7 : List (UInt8)) (v9 : Int) (v15 : Int) (v16 : Int) (v17 : List (UInt8)) : p10_29 (j + 1) n0 n1 n2 v0 v1 v6 v7 v9 v15 v16 v17 =
  (sel (v16 == (1 : Int))
   (p10_2078 (j) (n0) (n1) (n2) (j) (v0) (v1) (v6) (v7) (v9) (v15) (v16) (v17) (Bool.true))
   (p10_2078 (j) (n0) (n1) (n2) (j) (v0) (v1) (v6) (v7) (v9) (v15) (v16) (v17) (v16 == (2 : Int))))
  p10_2078_eq (j : Nat) (n0 : Nat) (n1 : Nat) (n2 : Nat) (n3 : Nat) (v0 : Int) (v1 : List (UInt8)) (v6 : List ((List (UInt8) × (Int × Unit)))) (v7 : List (UInt8)) (v9 : Int) (v15 : Int) (v16 : Int) (v17 : List (UInt8)) (v133 : Bool) : p10_2078 (j + 1) n0 n1 n2 n3 v0 v1 v6 v7 v9 v15 v16 v17 v133 =
  (sel (v133)
   (p10_31 (n3) (n0) (n1) (n2) (n3) (v0) (v1) (v6) ([]) (v9) (v15) (v16) (v17))
   (p10_31 (n3) (n0) (n1) (n2) (n3) (v0) (v1) (v6) (v7) (v9) (v15) (v16) (v17)))
  p10_31_eq (j : Nat) (n0 : Nat) (n1 : Nat) (n2 : Nat) (n3 : Nat) (v0 : Int) (v1 : List (UInt8)) (v6 : List ((List (UInt8) × (Int × Unit)))) (v7 : List (UInt8)) (v9 : Int) (v15 : Int) (v16 : Int) (v17 : List (UInt8)) : p10_31 (j + 1) n0 n1 n2 n3 v0 v1 v6 v7 v9 v15 v16 v17 =
  (sel (Decidable.decide ((0 : Int) ≤ (1 : Int)))
   (sel (Decidable.decide ((1 : Int) ≤ (↑v17.length : Int)))
    (sel (Decidable.decide (v7.length + (Lk.ext v17 (1 : Int) (↑v17.length : Int)).length ≤ (1073741824 : Nat)))
     (sel (Decidable.decide ((↑(List.length (v7 ++ Lk.ext v17 (1 : Int) (↑v17.length : Int))) : Int) > (2097152 : Int)))
      (some (v6, (2 : Int), ()))
      (sel (v16 == (2 : Int))
       (p10_36 (j) (n0) (n1) (n2) (n3) (j) (v0) (v1) (v6) (v7 ++ Lk.ext v17 (1 : Int) (↑v17.length : Int)) (Bool.true) (Go.IntKind.i64.wrap (Go.IntKind.i64.wrap (v9 + (7 : Int)) + v15)))
       (p10_36 (j) (n0) (n1) (n2) (n3) (j) (v0) (v1) (v6) (v7 ++ Lk.ext v17 (1 : Int) (↑v17.length : Int)) (v16 == (3 : Int)) (Go.IntKind.i64.wrap (Go.IntKind.i64.wrap (v9 + (7 : Int)) + v15)))))
     none)
    none)
   none)
  p10_36_eq (j : Nat) (n0 : Nat) (n1 : Nat) (n2 : Nat) (n3 : Nat) (n4 : Nat) (v0 : Int) (v1 : List (UInt8)) (v6 : List ((List (UInt8) × (Int × Unit)))) (v7 : List (UInt8)) (v8 : Bool) (v9 : Int) : p10_36 (j + 1) n0 n1 n2 n3 n4 v0 v1 v6 v7 v8 v9 =
  (sel (!v8)
   (sel (Decidable.decide ((0 : Nat) + v7.length ≤ (1073741824 : Nat)))
    (sel (Decidable.decide (v6.length + (1 : Nat) ≤ (1073741824 : Nat)))
     (p10_5 (n1) (n0) (v0) (v1) (v6 ++ [([] ++ v7, v9, ())]) (v7) (v8) (v9))
     none)
    none)
   (p10_5 (n1) (n0) (v0) (v1) (v6) (v7) (v8) (v9)))
end Rk
end
section
namespace Rj
open Go Lk RrG
set_option linter.unusedVariables false
structure FnsJ where
  f50 (n : Nat) (a0 : Int) (a1 : UInt8) : Option (Int × Unit)
  f12 (n : Nat) (a0 : Int) : Option (Bool × Unit)
  f44 (n : Nat) (a0 : Int) : Option (Int × Unit)
  f45 (n : Nat) (a0 : Int) (a1 : List (UInt8)) : Option (Int × Unit)
  p45_3 (j : Nat) (n0 : Nat) (v5 : Int) (v10 : List (UInt8)) (v11 : Int) (v12 : Int) : Option (Int × Unit)
  f46 (n : Nat) (a0 : List (UInt8)) : Option (Int × Unit)
  f37 (n : Nat) (a0 : UInt8) (a1 : List (UInt8)) : Option (Int × Unit)
  f26 (n : Nat) (a0 : Option ((Int × (List (UInt8) × (Int × (List (UInt8) × (Bool × Unit))))))) (a1 : UInt8) (a2 : List (UInt8)) : Option (Bool × Unit)
  p26_4 (j : Nat) (n0 : Nat) (v0 : Option ((Int × (List (UInt8) × (Int × (List (UInt8) × (Bool × Unit))))))) (v1 : UInt8) (v2 : List (UInt8)) (v8 : Int) (v9 : Bool) : Option (Bool × Unit)
  f14 (n : Nat) (a0 : Option ((Int × (List (UInt8) × (Int × (List (UInt8) × (Bool × Unit))))))) (a1 : Option (List Lk.JItem)) : Option (Int × Option ((Int × (List (UInt8) × (Int × (List (UInt8) × (Bool × Unit)))))) × Option (List Lk.JItem) × Unit)
  p14_1 (j : Nat) (n0 : Nat) (v0 : Option ((Int × (List (UInt8) × (Int × (List (UInt8) × (Bool × Unit))))))) (v1 : Option (List Lk.JItem)) : Option (Int × Option ((Int × (List (UInt8) × (Int × (List (UInt8) × (Bool × Unit)))))) × Option (List Lk.JItem) × Unit)
  p14_3 (j : Nat) (n0 : Nat) (n1 : Nat) (v0 : Option ((Int × (List (UInt8) × (Int × (List (UInt8) × (Bool × Unit))))))) (v1 : Option (List Lk.JItem)) (v5 : Int) : Option (Int × Option ((Int × (List (UInt8) × (Int × (List (UInt8) × (Bool × Unit)))))) × Option (List Lk.JItem) × Unit)
  p14_5 (j : Nat) (n0 : Nat) (n1 : Nat) (n2 : Nat) (v0 : Option ((Int × (List (UInt8) × (Int × (List (UInt8) × (Bool × Unit))))))) (v1 : Option (List Lk.JItem)) (v42 : List (UInt8)) (v59 : List (UInt8)) (v60 : Int) (v61 : Int) : Option (Int × Option ((Int × (List (UInt8) × (Int × (List (UInt8) × (Bool × Unit)))))) × Option (List Lk.JItem) × Unit)
  p14_2064 (j : Nat) (n0 : Nat) (n1 : Nat) (v0 : Option ((Int × (List (UInt8) × (Int × (List (UInt8) × (Bool × Unit))))))) (v1 : Option (List Lk.JItem)) (v8 : List (UInt8)) (v9 : Int) (v10 : UInt8) (v124 : Bool) : Option (Int × Option ((Int × (List (UInt8) × (Int × (List (UInt8) × (Bool × Unit)))))) × Option (List Lk.JItem) × Unit)
  p14_17 (j : Nat) (n0 : Nat) (n1 : Nat) (v0 : Option ((Int × (List (UInt8) × (Int × (List (UInt8) × (Bool × Unit))))))) (v1 : Option (List Lk.JItem)) (v8 : List (UInt8)) (v9 : Int) (v10 : UInt8) : Option (Int × Option ((Int × (List (UInt8) × (Int × (List (UInt8) × (Bool × Unit)))))) × Option (List Lk.JItem) × Unit)
  p14_25 (j : Nat) (n0 : Nat) (n1 : Nat) (n2 : Nat) (v0 : Option ((Int × (List (UInt8) × (Int × (List (UInt8) × (Bool × Unit))))))) (v1 : Option (List Lk.JItem)) : Option (Int × Option ((Int × (List (UInt8) × (Int × (List (UInt8) × (Bool × Unit)))))) × Option (List Lk.JItem) × Unit)
  f50_eq (n : Nat) (a0 : Int) (a1 : UInt8) : f50 n a0 a1 = some (((Rr.takeN a0.toNat a1 : Nat) : Int), ())
  f12_eq (n : Nat) (a0 : Int) : f12 (n + 1) a0 =
  (sel (Decidable.decide (a0 ≥ (32 : Int)))
   (some (Decidable.decide (a0 ≤ (32768 : Int)), ()))
   (some (Bool.false, ())))
  f44_eq (n : Nat) (a0 : Int) : f44 (n + 1) a0 =
  (sel (Decidable.decide ((0 : Int) ≤ (15 : Int)))
   (sel (Decidable.decide ((0 : Int) ≤ (17 : Int)))
    (some (Go.IntKind.u32.wrap (Lk.ibits Go.BinOp.or Go.IntKind.u32 (a0.fdiv ((2 : Int) ^ Min.min (Int.toNat (15 : Int)) Go.IntKind.u32.bits)) (Go.IntKind.u32.wrap (a0 * (2 : Int) ^ Min.min (Int.toNat (17 : Int)) Go.IntKind.u32.bits)) + (2726488792 : Int)), ()))
    none)
   none)
  f45_eq (n : Nat) (a0 : Int) (a1 : List (UInt8)) : f45 (n + 1) a0 a1 =
  (p45_3 (n) (n) (Lk.ibits Go.BinOp.xor Go.IntKind.u32 (if Go.IntKind.u32.signed = Bool.true then (-1 : Int) else Go.IntKind.u32.max) a0) (a1) ((↑a1.length : Int)) ((0 : Int)))
  p45_3_eq (j : Nat) (n0 : Nat) (v5 : Int) (v10 : List (UInt8)) (v11 : Int) (v12 : Int) : p45_3 (j + 1) n0 v5 v10 v11 v12 =
  (sel (Decidable.decide (v12 < v11))
   (sel (Decidable.decide ((0 : Int) ≤ v12))
    (sel (Decidable.decide (v12 < (↑v10.length : Int)))
     (obind (f50 j (v5) (v10.getD v12.toNat (0 : UInt8))) fun r184 =>
      (p45_3 (j) (n0) (r184.fst) (v10) (v11) (Go.IntKind.i64.wrap (v12 + (1 : Int)))))
     none)
    none)
   (some (Lk.ibits Go.BinOp.xor Go.IntKind.u32 (if Go.IntKind.u32.signed = Bool.true then (-1 : Int) else Go.IntKind.u32.max) v5, ())))
  f46_eq (n : Nat) (a0 : List (UInt8)) : f46 (n + 1) a0 =
  (obind (f45 n ((0 : Int)) (a0)) fun r46 =>
   (some (r46.fst, ())))
  f37_eq (n : Nat) (a0 : UInt8) (a1 : List (UInt8)) : f37 (n + 1) a0 a1 =
  (obind (f46 n ([a0])) fun r53 =>
   (obind (f45 n (r53.fst) (a1)) fun r70 =>
    (obind (f44 n (r70.fst)) fun r80 =>
     (some (r80.fst, ())))))
  f26_eq (n : Nat) (a0 : Option ((Int × (List (UInt8) × (Int × (List (UInt8) × (Bool × Unit))))))) (a1 : UInt8) (a2 : List (UInt8)) : f26 (n + 1) a0 a1 a2 =
  (sel (a0.isSome)
   (sel (a0.isSome)
    (sel (a0.isSome)
     (sel (a0.isSome)
      (sel (Decidable.decide ((0 : Int) ≤ (a0.getD ((0 : Int), [], (0 : Int), [], Bool.false, ())).snd.snd.fst))
       (sel (Decidable.decide ((a0.getD ((0 : Int), [], (0 : Int), [], Bool.false, ())).snd.snd.fst ≤ (↑(List.length (a0.getD ((0 : Int), [], (0 : Int), [], Bool.false, ())).snd.fst) : Int)))
        (sel (Decidable.decide ((0 : Int) ≤ (0 : Int)))
         (sel (Decidable.decide ((0 : Int) < (↑(Lk.ext (a0.getD ((0 : Int), [], (0 : Int), [], Bool.false, ())).snd.fst (a0.getD ((0 : Int), [], (0 : Int), [], Bool.false, ())).snd.snd.fst (↑(List.length (a0.getD ((0 : Int), [], (0 : Int), [], Bool.false, ())).snd.fst) : Int)).length : Int)))
          (sel (Decidable.decide ((0 : Int) ≤ (1 : Int)))
           (sel (Decidable.decide ((1 : Int) < (↑(Lk.ext (a0.getD ((0 : Int), [], (0 : Int), [], Bool.false, ())).snd.fst (a0.getD ((0 : Int), [], (0 : Int), [], Bool.false, ())).snd.snd.fst (↑(List.length (a0.getD ((0 : Int), [], (0 : Int), [], Bool.false, ())).snd.fst) : Int)).length : Int)))
            (sel (Decidable.decide ((0 : Int) ≤ (8 : Int)))
             (sel (Decidable.decide ((0 : Int) ≤ (2 : Int)))
              (sel (Decidable.decide ((2 : Int) < (↑(Lk.ext (a0.getD ((0 : Int), [], (0 : Int), [], Bool.false, ())).snd.fst (a0.getD ((0 : Int), [], (0 : Int), [], Bool.false, ())).snd.snd.fst (↑(List.length (a0.getD ((0 : Int), [], (0 : Int), [], Bool.false, ())).snd.fst) : Int)).length : Int)))
               (sel (Decidable.decide ((0 : Int) ≤ (16 : Int)))
                (sel (Decidable.decide ((0 : Int) ≤ (3 : Int)))
                 (sel (Decidable.decide ((3 : Int) < (↑(Lk.ext (a0.getD ((0 : Int), [], (0 : Int), [], Bool.false, ())).snd.fst (a0.getD ((0 : Int), [], (0 : Int), [], Bool.false, ())).snd.snd.fst (↑(List.length (a0.getD ((0 : Int), [], (0 : Int), [], Bool.false, ())).snd.fst) : Int)).length : Int)))
                  (sel (Decidable.decide ((0 : Int) ≤ (24 : Int)))
                   (sel ((↑a1.toNat : Int) == (↑(UInt8.toNat (1 : UInt8)) : Int))
                    (p26_4 (n) (n) (a0) (a1) (a2) (Lk.ibits Go.BinOp.or Go.IntKind.u32 (Lk.ibits Go.BinOp.or Go.IntKind.u32 (Lk.ibits Go.BinOp.or Go.IntKind.u32 (Go.IntKind.u32.wrap (↑(UInt8.toNat ((Lk.ext (a0.getD ((0 : Int), [], (0 : Int), [], Bool.false, ())).snd.fst (a0.getD ((0 : Int), [], (0 : Int), [], Bool.false, ())).snd.snd.fst (↑(List.length (a0.getD ((0 : Int), [], (0 : Int), [], Bool.false, ())).snd.fst) : Int)).getD (Int.toNat (0 : Int)) (0 : UInt8))) : Int)) (Go.IntKind.u32.wrap (Go.IntKind.u32.wrap (↑(UInt8.toNat ((Lk.ext (a0.getD ((0 : Int), [], (0 : Int), [], Bool.false, ())).snd.fst (a0.getD ((0 : Int), [], (0 : Int), [], Bool.false, ())).snd.snd.fst (↑(List.length (a0.getD ((0 : Int), [], (0 : Int), [], Bool.false, ())).snd.fst) : Int)).getD (Int.toNat (1 : Int)) (0 : UInt8))) : Int) * (2 : Int) ^ Min.min (Int.toNat (8 : Int)) Go.IntKind.u32.bits))) (Go.IntKind.u32.wrap (Go.IntKind.u32.wrap (↑(UInt8.toNat ((Lk.ext (a0.getD ((0 : Int), [], (0 : Int), [], Bool.false, ())).snd.fst (a0.getD ((0 : Int), [], (0 : Int), [], Bool.false, ())).snd.snd.fst (↑(List.length (a0.getD ((0 : Int), [], (0 : Int), [], Bool.false, ())).snd.fst) : Int)).getD (Int.toNat (2 : Int)) (0 : UInt8))) : Int) * (2 : Int) ^ Min.min (Int.toNat (16 : Int)) Go.IntKind.u32.bits))) (Go.IntKind.u32.wrap (Go.IntKind.u32.wrap (↑(UInt8.toNat ((Lk.ext (a0.getD ((0 : Int), [], (0 : Int), [], Bool.false, ())).snd.fst (a0.getD ((0 : Int), [], (0 : Int), [], Bool.false, ())).snd.snd.fst (↑(List.length (a0.getD ((0 : Int), [], (0 : Int), [], Bool.false, ())).snd.fst) : Int)).getD (Int.toNat (3 : Int)) (0 : UInt8))) : Int) * (2 : Int) ^ Min.min (Int.toNat (24 : Int)) Go.IntKind.u32.bits))) (Bool.true))
                    (p26_4 (n) (n) (a0) (a1) (a2) (Lk.ibits Go.BinOp.or Go.IntKind.u32 (Lk.ibits Go.BinOp.or Go.IntKind.u32 (Lk.ibits Go.BinOp.or Go.IntKind.u32 (Go.IntKind.u32.wrap (↑(UInt8.toNat ((Lk.ext (a0.getD ((0 : Int), [], (0 : Int), [], Bool.false, ())).snd.fst (a0.getD ((0 : Int), [], (0 : Int), [], Bool.false, ())).snd.snd.fst (↑(List.length (a0.getD ((0 : Int), [], (0 : Int), [], Bool.false, ())).snd.fst) : Int)).getD (Int.toNat (0 : Int)) (0 : UInt8))) : Int)) (Go.IntKind.u32.wrap (Go.IntKind.u32.wrap (↑(UInt8.toNat ((Lk.ext (a0.getD ((0 : Int), [], (0 : Int), [], Bool.false, ())).snd.fst (a0.getD ((0 : Int), [], (0 : Int), [], Bool.false, ())).snd.snd.fst (↑(List.length (a0.getD ((0 : Int), [], (0 : Int), [], Bool.false, ())).snd.fst) : Int)).getD (Int.toNat (1 : Int)) (0 : UInt8))) : Int) * (2 : Int) ^ Min.min (Int.toNat (8 : Int)) Go.IntKind.u32.bits))) (Go.IntKind.u32.wrap (Go.IntKind.u32.wrap (↑(UInt8.toNat ((Lk.ext (a0.getD ((0 : Int), [], (0 : Int), [], Bool.false, ())).snd.fst (a0.getD ((0 : Int), [], (0 : Int), [], Bool.false, ())).snd.snd.fst (↑(List.length (a0.getD ((0 : Int), [], (0 : Int), [], Bool.false, ())).snd.fst) : Int)).getD (Int.toNat (2 : Int)) (0 : UInt8))) : Int) * (2 : Int) ^ Min.min (Int.toNat (16 : Int)) Go.IntKind.u32.bits))) (Go.IntKind.u32.wrap (Go.IntKind.u32.wrap (↑(UInt8.toNat ((Lk.ext (a0.getD ((0 : Int), [], (0 : Int), [], Bool.false, ())).snd.fst (a0.getD ((0 : Int), [], (0 : Int), [], Bool.false, ())).snd.snd.fst (↑(List.length (a0.getD ((0 : Int), [], (0 : Int), [], Bool.false, ())).snd.fst) : Int)).getD (Int.toNat (3 : Int)) (0 : UInt8))) : Int) * (2 : Int) ^ Min.min (Int.toNat (24 : Int)) Go.IntKind.u32.bits))) ((↑a1.toNat : Int) == (↑(UInt8.toNat (2 : UInt8)) : Int))))
                   none)
                  none)
                 none)
                none)
               none)
              none)
             none)
            none)
           none)
          none)
         none)
        none)
       none)
      none)
     none)
    none)
   none)
  p26_4_eq (j : Nat) (n0 : Nat) (v0 : Option ((Int × (List (UInt8) × (Int × (List (UInt8) × (Bool × Unit))))))) (v1 : UInt8) (v2 : List (UInt8)) (v8 : Int) (v9 : Bool) : p26_4 (j + 1) n0 v0 v1 v2 v8 v9 =
  (obind (f37 j (v1) (v2)) fun r418 =>
   (sel (v8 != r418.fst)
    (some (Bool.true, ()))
    (sel (v0.isSome)
     (sel (v0.isSome)
      (sel (v9 == (v0.getD ((0 : Int), [], (0 : Int), [], Bool.false, ())).snd.snd.snd.snd.fst)
       (some (Bool.true, ()))
       (sel (v0.isSome)
        (sel (v0.isSome)
         (some (Decidable.decide (Go.IntKind.i64.wrap ((↑(List.length (v0.getD ((0 : Int), [], (0 : Int), [], Bool.false, ())).snd.snd.snd.fst) : Int) + (↑v2.length : Int)) > (2097152 : Int)), ()))
         none)
        none))
      none)
     none)))
  f14_eq (n : Nat) (a0 : Option ((Int × (List (UInt8) × (Int × (List (UInt8) × (Bool × Unit))))))) (a1 : Option (List Lk.JItem)) : f14 (n + 1) a0 a1 =
  (p14_1 (n) (n) (a0) (a1))
  p14_1_eq (j : Nat) (n0 : Nat) (v0 : Option ((Int × (List (UInt8) × (Int × (List (UInt8) × (Bool × Unit))))))) (v1 : Option (List Lk.JItem)) : p14_1 (j + 1) n0 v0 v1 =
  (sel (v0.isSome)
   (sel (v0.isSome)
    (sel (v0.isSome)
     (sel (v0.isSome)
      (sel (Decidable.decide ((v0.getD ((0 : Int), [], (0 : Int), [], Bool.false, ())).snd.snd.fst < (↑(List.length (v0.getD ((0 : Int), [], (0 : Int), [], Bool.false, ())).snd.fst) : Int)))
       (sel (v0.isSome)
        (sel (v0.isSome)
         (sel (v0.isSome)
          (sel (v0.isSome)
           (sel (v0.isSome)
            (sel (v0.isSome)
             (sel ((v0.getD ((0 : Int), [], (0 : Int), [], Bool.false, ())).fst != (0 : Int))
              (p14_3 (j) (n0) (j) (v0) (v1) (Go.IntKind.i64.wrap ((v0.getD ((0 : Int), [], (0 : Int), [], Bool.false, ())).fst - Int.tmod (v0.getD ((0 : Int), [], (0 : Int), [], Bool.false, ())).snd.snd.fst (v0.getD ((0 : Int), [], (0 : Int), [], Bool.false, ())).fst)))
              none)
             none)
            none)
           none)
          none)
         none)
        none)
       (sel (v0.isSome)
        (sel (v0.isSome)
         (sel ((v0.getD ((0 : Int), [], (0 : Int), [], Bool.false, ())).snd.snd.snd.snd.fst)
          (some ((1 : Int), v0, v1, ()))
          (some ((0 : Int), v0, v1, ())))
         none)
        none))
      none)
     none)
    none)
   none)
  p14_3_eq (j : Nat) (n0 : Nat) (n1 : Nat) (v0 : Option ((Int × (List (UInt8) × (Int × (List (UInt8) × (Bool × Unit))))))) (v1 : Option (List Lk.JItem)) (v5 : Int) : p14_3 (j + 1) n0 n1 v0 v1 v5 =
  (sel (Decidable.decide (v5 < (7 : Int)))
   (sel (v0.isSome)
    (sel (v0.isSome)
     (sel (v0.isSome)
      (sel (v0.isSome)
       (sel (v0.isSome)
        (sel (v0.isSome)
         (sel (v0.isSome)
          (sel (v0.isSome)
           (sel (Decidable.decide ((0 : Int) ≤ Lk.imin (Go.IntKind.i64.wrap ((v0.getD ((0 : Int), [], (0 : Int), [], Bool.false, ())).snd.snd.fst + v5)) (↑(List.length (v0.getD ((0 : Int), [], (0 : Int), [], Bool.false, ())).snd.fst) : Int)))
            (sel (Decidable.decide (Lk.imin (Go.IntKind.i64.wrap ((v0.getD ((0 : Int), [], (0 : Int), [], Bool.false, ())).snd.snd.fst + v5)) (↑(List.length (v0.getD ((0 : Int), [], (0 : Int), [], Bool.false, ())).snd.fst) : Int) ≤ (↑(List.length (v0.getD ((0 : Int), [], (0 : Int), [], Bool.false, ())).snd.fst) : Int)))
             (sel (Decidable.decide ((0 : Int) ≤ (v0.getD ((0 : Int), [], (0 : Int), [], Bool.false, ())).snd.snd.fst))
              (sel (Decidable.decide ((v0.getD ((0 : Int), [], (0 : Int), [], Bool.false, ())).snd.snd.fst ≤ Lk.imin (Go.IntKind.i64.wrap ((v0.getD ((0 : Int), [], (0 : Int), [], Bool.false, ())).snd.snd.fst + v5)) (↑(List.length (v0.getD ((0 : Int), [], (0 : Int), [], Bool.false, ())).snd.fst) : Int)))
               (p14_5 (j) (n0) (n1) (j) (v0) (v1) ((v0.getD ((0 : Int), [], (0 : Int), [], Bool.false, ())).snd.fst) (Lk.ext (v0.getD ((0 : Int), [], (0 : Int), [], Bool.false, ())).snd.fst (v0.getD ((0 : Int), [], (0 : Int), [], Bool.false, ())).snd.snd.fst (Lk.imin (Go.IntKind.i64.wrap ((v0.getD ((0 : Int), [], (0 : Int), [], Bool.false, ())).snd.snd.fst + v5)) (↑(List.length (v0.getD ((0 : Int), [], (0 : Int), [], Bool.false, ())).snd.fst) : Int))) ((↑(Lk.ext (v0.getD ((0 : Int), [], (0 : Int), [], Bool.false, ())).snd.fst (v0.getD ((0 : Int), [], (0 : Int), [], Bool.false, ())).snd.snd.fst (Lk.imin (Go.IntKind.i64.wrap ((v0.getD ((0 : Int), [], (0 : Int), [], Bool.false, ())).snd.snd.fst + v5)) (↑(List.length (v0.getD ((0 : Int), [], (0 : Int), [], Bool.false, ())).snd.fst) : Int))).length : Int)) ((0 : Int)))
               none)
              none)
             none)
            none)
           none)
          none)
         none)
        none)
       none)
      none)
     none)
    none)
   (sel (v0.isSome)
    (sel (v0.isSome)
     (sel (v0.isSome)
      (sel (v0.isSome)
       (sel (Decidable.decide ((0 : Int) ≤ (v0.getD ((0 : Int), [], (0 : Int), [], Bool.false, ())).snd.snd.fst))
        (sel (Decidable.decide ((v0.getD ((0 : Int), [], (0 : Int), [], Bool.false, ())).snd.snd.fst ≤ (↑(List.length (v0.getD ((0 : Int), [], (0 : Int), [], Bool.false, ())).snd.fst) : Int)))
         (sel (Decidable.decide ((↑(Lk.ext (v0.getD ((0 : Int), [], (0 : Int), [], Bool.false, ())).snd.fst (v0.getD ((0 : Int), [], (0 : Int), [], Bool.false, ())).snd.snd.fst (↑(List.length (v0.getD ((0 : Int), [], (0 : Int), [], Bool.false, ())).snd.fst) : Int)).length : Int) < (7 : Int)))
          (some ((1 : Int), v0, v1, ()))
          (sel (Decidable.decide ((0 : Int) ≤ (4 : Int)))
           (sel (Decidable.decide ((4 : Int) < (↑(Lk.ext (v0.getD ((0 : Int), [], (0 : Int), [], Bool.false, ())).snd.fst (v0.getD ((0 : Int), [], (0 : Int), [], Bool.false, ())).snd.snd.fst (↑(List.length (v0.getD ((0 : Int), [], (0 : Int), [], Bool.false, ())).snd.fst) : Int)).length : Int)))
            (sel (Decidable.decide ((0 : Int) ≤ (5 : Int)))
             (sel (Decidable.decide ((5 : Int) < (↑(Lk.ext (v0.getD ((0 : Int), [], (0 : Int), [], Bool.false, ())).snd.fst (v0.getD ((0 : Int), [], (0 : Int), [], Bool.false, ())).snd.snd.fst (↑(List.length (v0.getD ((0 : Int), [], (0 : Int), [], Bool.false, ())).snd.fst) : Int)).length : Int)))
              (sel (Decidable.decide ((0 : Int) ≤ (8 : Int)))
               (sel (Decidable.decide ((0 : Int) ≤ (6 : Int)))
                (sel (Decidable.decide ((6 : Int) < (↑(Lk.ext (v0.getD ((0 : Int), [], (0 : Int), [], Bool.false, ())).snd.fst (v0.getD ((0 : Int), [], (0 : Int), [], Bool.false, ())).snd.snd.fst (↑(List.length (v0.getD ((0 : Int), [], (0 : Int), [], Bool.false, ())).snd.fst) : Int)).length : Int)))
                 (sel (Decidable.decide ((↑(UInt8.toNat ((Lk.ext (v0.getD ((0 : Int), [], (0 : Int), [], Bool.false, ())).snd.fst (v0.getD ((0 : Int), [], (0 : Int), [], Bool.false, ())).snd.snd.fst (↑(List.length (v0.getD ((0 : Int), [], (0 : Int), [], Bool.false, ())).snd.fst) : Int)).getD (Int.toNat (6 : Int)) (0 : UInt8))) : Int) < (↑(UInt8.toNat (1 : UInt8)) : Int)))
                  (p14_2064 (n1) (n0) (n1) (v0) (v1) (Lk.ext (v0.getD ((0 : Int), [], (0 : Int), [], Bool.false, ())).snd.fst (v0.getD ((0 : Int), [], (0 : Int), [], Bool.false, ())).snd.snd.fst (↑(List.length (v0.getD ((0 : Int), [], (0 : Int), [], Bool.false, ())).snd.fst) : Int)) (Lk.ibits Go.BinOp.or Go.IntKind.i64 (Go.IntKind.i64.wrap (↑(UInt8.toNat ((Lk.ext (v0.getD ((0 : Int), [], (0 : Int), [], Bool.false, ())).snd.fst (v0.getD ((0 : Int), [], (0 : Int), [], Bool.false, ())).snd.snd.fst (↑(List.length (v0.getD ((0 : Int), [], (0 : Int), [], Bool.false, ())).snd.fst) : Int)).getD (Int.toNat (4 : Int)) (0 : UInt8))) : Int)) (Go.IntKind.i64.wrap (Go.IntKind.i64.wrap (↑(UInt8.toNat ((Lk.ext (v0.getD ((0 : Int), [], (0 : Int), [], Bool.false, ())).snd.fst (v0.getD ((0 : Int), [], (0 : Int), [], Bool.false, ())).snd.snd.fst (↑(List.length (v0.getD ((0 : Int), [], (0 : Int), [], Bool.false, ())).snd.fst) : Int)).getD (Int.toNat (5 : Int)) (0 : UInt8))) : Int) * (2 : Int) ^ Min.min (Int.toNat (8 : Int)) Go.IntKind.i64.bits))) ((Lk.ext (v0.getD ((0 : Int), [], (0 : Int), [], Bool.false, ())).snd.fst (v0.getD ((0 : Int), [], (0 : Int), [], Bool.false, ())).snd.snd.fst (↑(List.length (v0.getD ((0 : Int), [], (0 : Int), [], Bool.false, ())).snd.fst) : Int)).getD (Int.toNat (6 : Int)) (0 : UInt8)) (Bool.true))
                  (sel (Decidable.decide ((↑(UInt8.toNat ((Lk.ext (v0.getD ((0 : Int), [], (0 : Int), [], Bool.false, ())).snd.fst (v0.getD ((0 : Int), [], (0 : Int), [], Bool.false, ())).snd.snd.fst (↑(List.length (v0.getD ((0 : Int), [], (0 : Int), [], Bool.false, ())).snd.fst) : Int)).getD (Int.toNat (6 : Int)) (0 : UInt8))) : Int) > (↑(UInt8.toNat (4 : UInt8)) : Int)))
                   (p14_2064 (n1) (n0) (n1) (v0) (v1) (Lk.ext (v0.getD ((0 : Int), [], (0 : Int), [], Bool.false, ())).snd.fst (v0.getD ((0 : Int), [], (0 : Int), [], Bool.false, ())).snd.snd.fst (↑(List.length (v0.getD ((0 : Int), [], (0 : Int), [], Bool.false, ())).snd.fst) : Int)) (Lk.ibits Go.BinOp.or Go.IntKind.i64 (Go.IntKind.i64.wrap (↑(UInt8.toNat ((Lk.ext (v0.getD ((0 : Int), [], (0 : Int), [], Bool.false, ())).snd.fst (v0.getD ((0 : Int), [], (0 : Int), [], Bool.false, ())).snd.snd.fst (↑(List.length (v0.getD ((0 : Int), [], (0 : Int), [], Bool.false, ())).snd.fst) : Int)).getD (Int.toNat (4 : Int)) (0 : UInt8))) : Int)) (Go.IntKind.i64.wrap (Go.IntKind.i64.wrap (↑(UInt8.toNat ((Lk.ext (v0.getD ((0 : Int), [], (0 : Int), [], Bool.false, ())).snd.fst (v0.getD ((0 : Int), [], (0 : Int), [], Bool.false, ())).snd.snd.fst (↑(List.length (v0.getD ((0 : Int), [], (0 : Int), [], Bool.false, ())).snd.fst) : Int)).getD (Int.toNat (5 : Int)) (0 : UInt8))) : Int) * (2 : Int) ^ Min.min (Int.toNat (8 : Int)) Go.IntKind.i64.bits))) ((Lk.ext (v0.getD ((0 : Int), [], (0 : Int), [], Bool.false, ())).snd.fst (v0.getD ((0 : Int), [], (0 : Int), [], Bool.false, ())).snd.snd.fst (↑(List.length (v0.getD ((0 : Int), [], (0 : Int), [], Bool.false, ())).snd.fst) : Int)).getD (Int.toNat (6 : Int)) (0 : UInt8)) (Bool.true))
                   (sel (v0.isSome)
                    (sel (v0.isSome)
                     (sel (v0.isSome)
                      (sel (v0.isSome)
                       (sel (v0.isSome)
                        (sel (v0.isSome)
                         (sel ((v0.getD ((0 : Int), [], (0 : Int), [], Bool.false, ())).fst != (0 : Int))
                          (p14_2064 (n1) (n0) (n1) (v0) (v1) (Lk.ext (v0.getD ((0 : Int), [], (0 : Int), [], Bool.false, ())).snd.fst (v0.getD ((0 : Int), [], (0 : Int), [], Bool.false, ())).snd.snd.fst (↑(List.length (v0.getD ((0 : Int), [], (0 : Int), [], Bool.false, ())).snd.fst) : Int)) (Lk.ibits Go.BinOp.or Go.IntKind.i64 (Go.IntKind.i64.wrap (↑(UInt8.toNat ((Lk.ext (v0.getD ((0 : Int), [], (0 : Int), [], Bool.false, ())).snd.fst (v0.getD ((0 : Int), [], (0 : Int), [], Bool.false, ())).snd.snd.fst (↑(List.length (v0.getD ((0 : Int), [], (0 : Int), [], Bool.false, ())).snd.fst) : Int)).getD (Int.toNat (4 : Int)) (0 : UInt8))) : Int)) (Go.IntKind.i64.wrap (Go.IntKind.i64.wrap (↑(UInt8.toNat ((Lk.ext (v0.getD ((0 : Int), [], (0 : Int), [], Bool.false, ())).snd.fst (v0.getD ((0 : Int), [], (0 : Int), [], Bool.false, ())).snd.snd.fst (↑(List.length (v0.getD ((0 : Int), [], (0 : Int), [], Bool.false, ())).snd.fst) : Int)).getD (Int.toNat (5 : Int)) (0 : UInt8))) : Int) * (2 : Int) ^ Min.min (Int.toNat (8 : Int)) Go.IntKind.i64.bits))) ((Lk.ext (v0.getD ((0 : Int), [], (0 : Int), [], Bool.false, ())).snd.fst (v0.getD ((0 : Int), [], (0 : Int), [], Bool.false, ())).snd.snd.fst (↑(List.length (v0.getD ((0 : Int), [], (0 : Int), [], Bool.false, ())).snd.fst) : Int)).getD (Int.toNat (6 : Int)) (0 : UInt8)) (Decidable.decide (Lk.ibits Go.BinOp.or Go.IntKind.i64 (Go.IntKind.i64.wrap (↑(UInt8.toNat ((Lk.ext (v0.getD ((0 : Int), [], (0 : Int), [], Bool.false, ())).snd.fst (v0.getD ((0 : Int), [], (0 : Int), [], Bool.false, ())).snd.snd.fst (↑(List.length (v0.getD ((0 : Int), [], (0 : Int), [], Bool.false, ())).snd.fst) : Int)).getD (Int.toNat (4 : Int)) (0 : UInt8))) : Int)) (Go.IntKind.i64.wrap (Go.IntKind.i64.wrap (↑(UInt8.toNat ((Lk.ext (v0.getD ((0 : Int), [], (0 : Int), [], Bool.false, ())).snd.fst (v0.getD ((0 : Int), [], (0 : Int), [], Bool.false, ())).snd.snd.fst (↑(List.length (v0.getD ((0 : Int), [], (0 : Int), [], Bool.false, ())).snd.fst) : Int)).getD (Int.toNat (5 : Int)) (0 : UInt8))) : Int) * (2 : Int) ^ Min.min (Int.toNat (8 : Int)) Go.IntKind.i64.bits)) > Go.IntKind.i64.wrap (Go.IntKind.i64.wrap ((v0.getD ((0 : Int), [], (0 : Int), [], Bool.false, ())).fst - Int.tmod (v0.getD ((0 : Int), [], (0 : Int), [], Bool.false, ())).snd.snd.fst (v0.getD ((0 : Int), [], (0 : Int), [], Bool.false, ())).fst) - (7 : Int)))))
                          none)
                         none)
                        none)
                       none)
                      none)
                     none)
                    none)))
                 none)
                none)
               none)
              none)
             none)
            none)
           none))
         none)
        none)
       none)
      none)
     none)
    none))
  p14_5_eq (j : Nat) (n0 : Nat) (n1 : Nat) (n2 : Nat) (v0 : Option ((Int × (List (UInt8) × (Int × (List (UInt8) × (Bool × Unit))))))) (v1 : Option (List Lk.JItem)) (v42 : List (UInt8)) (v59 : List (UInt8)) (v60 : Int) (v61 : Int) : p14_5 (j + 1) n0 n1 n2 v0 v1 v42 v59 v60 v61 =
  (sel (Decidable.decide (v61 < v60))
   (sel (Decidable.decide ((0 : Int) ≤ v61))
    (sel (Decidable.decide (v61 < (↑v59.length : Int)))
     (sel ((↑(UInt8.toNat (v59.getD v61.toNat (0 : UInt8))) : Int) != (↑(UInt8.toNat (0 : UInt8)) : Int))
      (some ((2 : Int), v0, v1, ()))
      (sel (v0.isSome)
       (sel (v0.isSome)
        (sel (v0.isSome)
         (sel (v0.isSome)
          (p14_5 (j) (n0) (n1) (n2) (Option.some ((v0.getD ((0 : Int), [], (0 : Int), [], Bool.false, ())).fst, (v0.getD ((0 : Int), [], (0 : Int), [], Bool.false, ())).snd.fst, Go.IntKind.i64.wrap ((v0.getD ((0 : Int), [], (0 : Int), [], Bool.false, ())).snd.snd.fst + (1 : Int)), (v0.getD ((0 : Int), [], (0 : Int), [], Bool.false, ())).snd.snd.snd)) (v1) (v42) (v59) (v60) (Go.IntKind.i64.wrap (v61 + (1 : Int))))
          none)
         none)
        none)
       none))
     none)
    none)
   (p14_1 (n1) (n0) (v0) (v1)))
  p14_2064_eq (j : Nat) (n0 : Nat) (n1 : Nat) (v0 : Option ((Int × (List (UInt8) × (Int × (List (UInt8) × (Bool × Unit))))))) (v1 : Option (List Lk.JItem)) (v8 : List (UInt8)) (v9 : Int) (v10 : UInt8) (v124 : Bool) : p14_2064 (j + 1) n0 n1 v0 v1 v8 v9 v10 v124 =
  (sel (v124)
   (some ((2 : Int), v0, v1, ()))
   (p14_17 (n1) (n0) (n1) (v0) (v1) (v8) (v9) (v10)))
  p14_17_eq (j : Nat) (n0 : Nat) (n1 : Nat) (v0 : Option ((Int × (List (UInt8) × (Int × (List (UInt8) × (Bool × Unit))))))) (v1 : Option (List Lk.JItem)) (v8 : List (UInt8)) (v9 : Int) (v10 : UInt8) : p14_17 (j + 1) n0 n1 v0 v1 v8 v9 v10 =
  (sel (Decidable.decide ((↑v8.length : Int) < Go.IntKind.i64.wrap ((7 : Int) + v9)))
   (some ((1 : Int), v0, v1, ()))
   (sel (Decidable.decide ((0 : Int) ≤ Go.IntKind.i64.wrap ((7 : Int) + v9)))
    (sel (Decidable.decide (Go.IntKind.i64.wrap ((7 : Int) + v9) ≤ (↑v8.length : Int)))
     (sel (Decidable.decide ((0 : Int) ≤ (7 : Int)))
      (sel (Decidable.decide ((7 : Int) ≤ Go.IntKind.i64.wrap ((7 : Int) + v9)))
       (obind (f26 j (v0) (v10) (Lk.ext v8 (7 : Int) (Go.IntKind.i64.wrap ((7 : Int) + v9)))) fun r2057 =>
        (sel (r2057.fst)
         (some ((2 : Int), v0, v1, ()))
         (sel (v0.isSome)
          (sel (v0.isSome)
           (sel (Decidable.decide (List.length (v0.getD ((0 : Int), [], (0 : Int), [], Bool.false, ())).snd.snd.snd.fst + (Lk.ext v8 (7 : Int) (Go.IntKind.i64.wrap ((7 : Int) + v9))).length ≤ (1073741824 : Nat)))
            (sel (Bool.true)
             (sel (Bool.true)
              (sel (Bool.true)
               (sel (Bool.true)
                (sel (Bool.true)
                 (sel (Bool.true)
                  (sel ((↑v10.toNat : Int) == (↑(UInt8.toNat (2 : UInt8)) : Int))
                   (sel (Bool.true)
                    (sel (Bool.true)
                     (p14_25 (j) (n0) (n1) (j) (Option.some ((v0.getD ((0 : Int), [], (0 : Int), [], Bool.false, ())).fst, (v0.getD ((0 : Int), [], (0 : Int), [], Bool.false, ())).snd.fst, Go.IntKind.i64.wrap ((v0.getD ((0 : Int), [], (0 : Int), [], Bool.false, ())).snd.snd.fst + Go.IntKind.i64.wrap ((7 : Int) + v9)), (v0.getD ((0 : Int), [], (0 : Int), [], Bool.false, ())).snd.snd.snd.fst ++ Lk.ext v8 (7 : Int) (Go.IntKind.i64.wrap ((7 : Int) + v9)), Bool.true, (v0.getD ((0 : Int), [], (0 : Int), [], Bool.false, ())).snd.snd.snd.snd.snd)) (v1))
                     none)
                    none)
                   (sel (Bool.true)
                    (sel (Bool.true)
                     (p14_25 (j) (n0) (n1) (j) (Option.some ((v0.getD ((0 : Int), [], (0 : Int), [], Bool.false, ())).fst, (v0.getD ((0 : Int), [], (0 : Int), [], Bool.false, ())).snd.fst, Go.IntKind.i64.wrap ((v0.getD ((0 : Int), [], (0 : Int), [], Bool.false, ())).snd.snd.fst + Go.IntKind.i64.wrap ((7 : Int) + v9)), (v0.getD ((0 : Int), [], (0 : Int), [], Bool.false, ())).snd.snd.snd.fst ++ Lk.ext v8 (7 : Int) (Go.IntKind.i64.wrap ((7 : Int) + v9)), (↑v10.toNat : Int) == (↑(UInt8.toNat (3 : UInt8)) : Int), (v0.getD ((0 : Int), [], (0 : Int), [], Bool.false, ())).snd.snd.snd.snd.snd)) (v1))
                     none)
                    none))
                  none)
                 none)
                none)
               none)
              none)
             none)
            none)
           none)
          none)))
       none)
      none)
     none)
    none))
  p14_25_eq (j : Nat) (n0 : Nat) (n1 : Nat) (n2 : Nat) (v0 : Option ((Int × (List (UInt8) × (Int × (List (UInt8) × (Bool × Unit))))))) (v1 : Option (List Lk.JItem)) : p14_25 (j + 1) n0 n1 n2 v0 v1 =
  (sel (v0.isSome)
   (sel (v0.isSome)
    (sel (!(v0.getD ((0 : Int), [], (0 : Int), [], Bool.false, ())).snd.snd.snd.snd.fst)
     (sel (v0.isSome)
      (sel (v0.isSome)
       (sel (Bool.true)
        (sel (Bool.true)
         (sel (Bool.true)
          (sel (Bool.true)
           (obind (yJ (v1) ((v0.getD ((0 : Int), [], (0 : Int), [], Bool.false, ())).snd.snd.fst) ((v0.getD ((0 : Int), [], (0 : Int), [], Bool.false, ())).snd.snd.snd.fst)) fun r2617 =>
            (sel (!r2617.fst)
             (some ((0 : Int), Option.some ((v0.getD ((0 : Int), [], (0 : Int), [], Bool.false, ())).fst, (v0.getD ((0 : Int), [], (0 : Int), [], Bool.false, ())).snd.fst, (v0.getD ((0 : Int), [], (0 : Int), [], Bool.false, ())).snd.snd.fst, [], (v0.getD ((0 : Int), [], (0 : Int), [], Bool.false, ())).snd.snd.snd.snd), r2617.snd.fst, ()))
             (p14_1 (n1) (n0) (Option.some ((v0.getD ((0 : Int), [], (0 : Int), [], Bool.false, ())).fst, (v0.getD ((0 : Int), [], (0 : Int), [], Bool.false, ())).snd.fst, (v0.getD ((0 : Int), [], (0 : Int), [], Bool.false, ())).snd.snd.fst, [], (v0.getD ((0 : Int), [], (0 : Int), [], Bool.false, ())).snd.snd.snd.snd)) (r2617.snd.fst))))
           none)
          none)
         none)
        none)
       none)
      none)
     (p14_1 (n1) (n0) (v0) (v1)))
    none)
   none)
end Rj
end
section
/-! The sums are the same. Plain. -/
namespace Rs
open Go Lk
def inv (x : Nat) : Nat := 4294967295 ^^^ x
def crcF (r : Nat) (b : List UInt8) : Nat := b.foldl Rr.takeN r
theorem inv_lt {x : Nat} (h : x < 4294967296) : inv x < 4294967296 := Nat.xor_lt_two_pow (n := 32) (by omega) h
theorem xor_xor (k x : Nat) : k ^^^ (k ^^^ x) = x := by rw [← Nat.xor_assoc, Nat.xor_self, Nat.zero_xor]
theorem inv_def (x : Nat) : inv x = 4294967295 ^^^ x := by unfold inv; rfl
theorem inv_inv (x : Nat) : inv (inv x) = x := by
  rw [inv_def (inv x), inv_def x]
  exact xor_xor 4294967295 x
theorem crc_lt : ∀ (b : List UInt8) {r : Nat}, r < 4294967296 → crcF r b < 4294967296
  | [], _, h => h
  | c :: b, r, h => crc_lt b (Rr.take_lt h c)
theorem xor_u32 {a b : Nat} (ha : a < 4294967296) (hb : b < 4294967296) : ibits .xor .u32 (a : Int) (b : Int) = ((a ^^^ b : Nat) : Int) := by
  have := Rr.ibits_u32 .xor (.inr rfl) a b ha hb
  simpa using this
theorem u32m : (if IntKind.u32.signed = true then (-1 : Int) else IntKind.u32.max) = ((4294967295 : Nat) : Int) := rfl
theorem inv_u32 {x : Nat} (h : x < 4294967296) : ibits .xor .u32 (if IntKind.u32.signed = true then (-1 : Int) else IntKind.u32.max) (x : Int) = ((inv x : Nat) : Int) := by
  rw [u32m, xor_u32 (by omega) h]; rfl
section
variable (X : Rj.FnsJ)
theorem p45 : ∀ (m j n0 r : Nat) (b : List UInt8) (i : Nat), r < 4294967296 → i + m = b.length → m + 1 ≤ j → b.length < 4611686018427387904 → X.p45_3 j n0 (r : Int) b (b.length : Int) (i : Int) = some (((inv (crcF r (b.drop i)) : Nat) : Int), ()) := by
  intro m
  induction m with
  | zero =>
    intro j n0 r b i hr hi hj hb
    obtain ⟨j, rfl⟩ : ∃ k, j = k + 1 := ⟨j - 1, by omega⟩
    rw [X.p45_3_eq, sel_dec, if_neg (by omega), List.drop_eq_nil_of_le (by omega), inv_u32 hr]; rfl
  | succ m ih =>
    intro j n0 r b i hr hi hj hb
    obtain ⟨j, rfl⟩ : ∃ k, j = k + 1 := ⟨j - 1, by omega⟩
    have hd : b.drop i = b[i]'(by omega) :: b.drop (i + 1) := List.drop_eq_getElem_cons (by omega)
    obtain ⟨g1, g2, g3⟩ := drop_cons hd
    rw [X.p45_3_eq, sel_dec, if_pos (by omega), sel_dec, if_pos (by omega), sel_dec, if_pos (by omega), X.f50_eq, ob_some]
    show X.p45_3 j n0 ((Rr.takeN ((r : Int)).toNat (b.getD ((i : Int)).toNat 0) : Nat) : Int) b _ _ = _
    rw [Int.toNat_natCast, Int.toNat_natCast, wrap64 (by omega) (by omega), show (i : Int) + 1 = ((i + 1 : Nat) : Int) by omega, ih j n0 _ b (i + 1) (Rr.take_lt hr _) (by omega) (by omega) hb, hd, g1]
    rfl
theorem f45 (n : Nat) (s : Nat) (b : List UInt8) (hs : s < 4294967296) (hn : b.length + 2 ≤ n) (hb : b.length < 4611686018427387904) : X.f45 n (s : Int) b = some (((inv (crcF (inv s) b) : Nat) : Int), ()) := by
  obtain ⟨n, rfl⟩ : ∃ k, n = k + 1 := ⟨n - 1, by omega⟩
  rw [X.f45_eq, inv_u32 hs]
  have := p45 X b.length n n (inv s) b 0 (inv_lt hs) (by omega) (by omega) hb
  simpa using this
def mask (a : Int) : Int := IntKind.u32.wrap (ibits .or .u32 (a.fdiv (2 ^ min (Int.toNat 15) IntKind.u32.bits)) (IntKind.u32.wrap (a * 2 ^ min (Int.toNat 17) IntKind.u32.bits)) + 2726488792)
def sumM (body : List UInt8) : Int := mask ((inv (crcF (inv 0) body) : Nat) : Int)
theorem f44 (n : Nat) (a : Int) (hn : 1 ≤ n) : X.f44 n a = some (mask a, ()) := by
  obtain ⟨n, rfl⟩ : ∃ k, n = k + 1 := ⟨n - 1, by omega⟩
  rw [X.f44_eq, sel_dec, if_pos (by omega), sel_dec, if_pos (by omega)]; rfl
theorem f37 (n : Nat) (k : UInt8) (d : List UInt8) (hn : d.length + 10 ≤ n) (hd : d.length < 4611686018427387904) : X.f37 n k d = some (sumM (k :: d), ()) := by
  obtain ⟨n, rfl⟩ : ∃ k, n = k + 2 := ⟨n - 2, by omega⟩
  have h0 : inv 0 < 4294967296 := inv_lt (by omega)
  have h1 := crc_lt [k] h0
  rw [X.f37_eq, X.f46_eq]
  have e1 := f45 X n 0 [k] (by omega) (by simp; omega) (by simp)
  rw [show ((0 : Nat) : Int) = 0 from rfl] at e1
  rw [e1, ob_some, ob_some]
  show obind (X.f45 (n + 1) ((inv (crcF (inv 0) [k]) : Nat) : Int) d) _ = _
  rw [f45 X (n + 1) _ d (inv_lt h1) (by omega) hd, ob_some]
  show obind (X.f44 (n + 1) ((inv (crcF (inv (inv (crcF (inv 0) [k]))) d) : Nat) : Int)) _ = _
  rw [f44 X _ _ (by omega), ob_some, inv_inv]
  rfl
end
section
variable (Y : Rk.FnsK)
theorem f49 (n r v : Nat) (hr : r < 4294967296) (hv : v < 4294967296) (hn : 2 ≤ n) : Y.f49 n (r : Int) (v : Int) = some (((Rr.bit (BitVec.ofNat 32 r) (BitVec.ofNat 32 v)).toNat : Int), ()) := by
  obtain ⟨n, rfl⟩ : ∃ k, n = k + 2 := ⟨n - 2, by omega⟩
  have hx : r ^^^ v < 4294967296 := Nat.xor_lt_two_pow (n := 32) hr hv
  have h1 : ibits .and .u32 (ibits .xor .u32 (r : Int) (v : Int)) (1 : Int) = (((r ^^^ v) % 2 : Nat) : Int) := by
    rw [xor_u32 hr hv, show (1 : Int) = ((1 : Nat) : Int) from rfl, and_u32 hx (by omega)]
    congr 1
    exact Nat.and_two_pow_sub_one_eq_mod _ 1
  have h2 : (r : Int).fdiv ((2 : Int) ^ min (Int.toNat 1) IntKind.u32.bits) = ((r / 2 : Nat) : Int) := by
    show (r : Int).fdiv 2 = _
    rw [Int.fdiv_eq_ediv_of_nonneg _ (by omega)]; omega
  have hlow : ((BitVec.ofNat 32 r) ^^^ (BitVec.ofNat 32 v)).getLsbD 0 = decide ((r ^^^ v) % 2 = 1) := by
    rw [BitVec.getLsbD, BitVec.toNat_xor, BitVec.toNat_ofNat, BitVec.toNat_ofNat, Nat.mod_eq_of_lt (by omega), Nat.mod_eq_of_lt (by omega), Nat.testBit_zero]
  have hb : (Rr.bit (BitVec.ofNat 32 r) (BitVec.ofNat 32 v)).toNat = if (r ^^^ v) % 2 = 1 then r / 2 ^^^ 2197175160 else r / 2 := by
    unfold Rr.bit
    rw [hlow, BitVec.toNat_xor, BitVec.toNat_ushiftRight, BitVec.toNat_ofNat, Nat.mod_eq_of_lt (by omega), Nat.shiftRight_eq_div_pow]
    by_cases h : (r ^^^ v) % 2 = 1
    · rw [if_pos h, decide_eq_true h]; rfl
    · rw [if_neg h, decide_eq_false h]
      show r / 2 ^ 1 ^^^ 0 = _
      rw [Nat.xor_zero]
  rw [Y.f49_eq, sel_dec, if_pos (by omega), h1, h2, hb]
  by_cases h : (r ^^^ v) % 2 = 1
  · rw [if_pos h, h, show (((1 : Nat) : Int) == 1) = true from rfl, sel_t, show (2197175160 : Int) = ((2197175160 : Nat) : Int) from rfl, xor_u32 (by omega) (by omega), Y.p49_5_eq]
  · have h0 : (r ^^^ v) % 2 = 0 := by omega
    rw [if_neg h, h0, show (((0 : Nat) : Int) == 1) = false from rfl, sel_f, Y.p49_5_eq]
theorem bits_succ (b r : BitVec 32) (m k : Nat) : Rr.bits b (m + 1) k r = Rr.bits b m (k + 1) (Rr.bit r (b >>> k)) := rfl
theorem p41_5 : ∀ (m j n0 n1 r : Nat) (b : List UInt8) (i k : Nat), r < 4294967296 → i < b.length → k + m = 8 → m + 3 ≤ j → b.length < 4611686018427387904 →
    Y.p41_5 j n0 n1 (r : Int) b (i : Int) (k : Int) = Y.p41_2 n1 n0 ((Rr.bits (BitVec.ofNat 32 (b.getD i 0).toNat) m k (BitVec.ofNat 32 r)).toNat : Int) b ((i + 1 : Nat) : Int) := by
  intro m
  induction m with
  | zero =>
    intro j n0 n1 r b i k hr hi hk hj hb
    obtain ⟨j, rfl⟩ : ∃ k, j = k + 1 := ⟨j - 1, by omega⟩
    rw [Y.p41_5_eq, sel_dec, if_neg (by omega), wrap64 (by omega) (by omega)]
    show _ = Y.p41_2 n1 n0 ((BitVec.ofNat 32 r).toNat : Int) b _
    rw [BitVec.toNat_ofNat, Nat.mod_eq_of_lt (by omega)]
    rfl
  | succ m ih =>
    intro j n0 n1 r b i k hr hi hk hj hb
    obtain ⟨j, rfl⟩ : ∃ k, j = k + 1 := ⟨j - 1, by omega⟩
    have hc : (b.getD i 0).toNat < 256 := UInt8.toNat_lt _
    rw [Y.p41_5_eq, sel_dec, if_pos (by omega), sel_dec, if_pos (by omega), sel_dec, if_pos (by omega), sel_dec, if_pos (by omega), Int.toNat_natCast, Int.toNat_natCast, wrap_u32 (by omega)]
    have hsh : (((b.getD i 0).toNat : Nat) : Int).fdiv ((2 : Int) ^ min k IntKind.u32.bits) = (((b.getD i 0).toNat / 2 ^ k : Nat) : Int) := by
      rw [show min k IntKind.u32.bits = k from Nat.min_eq_left (by show k ≤ 32; omega), Int.fdiv_eq_ediv_of_nonneg _ (by exact Int.pow_nonneg (by omega))]
      rw [show ((2 : Int) ^ k) = ((2 ^ k : Nat) : Int) by push_cast; rfl]
      rfl
    have hlt : (b.getD i 0).toNat / 2 ^ k < 4294967296 := Nat.lt_of_le_of_lt (Nat.div_le_self _ _) (by omega)
    rw [hsh, f49 Y j r _ hr hlt (by omega), ob_some, wrap64 (by omega) (by omega), show (k : Int) + 1 = ((k + 1 : Nat) : Int) by omega]
    have hbv : BitVec.ofNat 32 ((b.getD i 0).toNat / 2 ^ k) = BitVec.ofNat 32 (b.getD i 0).toNat >>> k := by
      apply BitVec.eq_of_toNat_eq
      rw [BitVec.toNat_ushiftRight, BitVec.toNat_ofNat, BitVec.toNat_ofNat, Nat.mod_eq_of_lt (by omega), Nat.mod_eq_of_lt (by omega), Nat.shiftRight_eq_div_pow]
    show Y.p41_5 j n0 n1 (((Rr.bit (BitVec.ofNat 32 r) (BitVec.ofNat 32 ((b.getD i 0).toNat / 2 ^ k))).toNat : Nat) : Int) b _ _ = _
    rw [ih j n0 n1 _ b i (k + 1) (BitVec.isLt _) hi (by omega) (by omega) hb, bits_succ, hbv]
    congr 4
    rw [BitVec.ofNat_toNat, BitVec.setWidth_eq]
theorem p41_2 : ∀ (m j n0 r : Nat) (b : List UInt8) (i : Nat), r < 4294967296 → i + m = b.length → m + 20 ≤ j → b.length < 4611686018427387904 → Y.p41_2 j n0 (r : Int) b (i : Int) = some (((crcF r (b.drop i) : Nat) : Int), ()) := by
  intro m
  induction m with
  | zero =>
    intro j n0 r b i hr hi hj hb
    obtain ⟨j, rfl⟩ : ∃ k, j = k + 1 := ⟨j - 1, by omega⟩
    rw [Y.p41_2_eq, sel_dec, if_neg (by omega), List.drop_eq_nil_of_le (by omega)]; rfl
  | succ m ih =>
    intro j n0 r b i hr hi hj hb
    obtain ⟨j, rfl⟩ : ∃ k, j = k + 1 := ⟨j - 1, by omega⟩
    have hd : b.drop i = b[i]'(by omega) :: b.drop (i + 1) := List.drop_eq_getElem_cons (by omega)
    obtain ⟨g1, g2, g3⟩ := drop_cons hd
    rw [Y.p41_2_eq, sel_dec, if_pos (by omega)]
    have := p41_5 Y 8 j n0 j r b i 0 hr (by omega) (by omega) (by omega) hb
    rw [show ((0 : Nat) : Int) = 0 from rfl] at this
    rw [this, ← Rr.take_bits r hr, ih j n0 _ b (i + 1) (Rr.take_lt hr _) (by omega) (by omega) hb, hd, g1]
    rfl
theorem f35 (n s : Nat) (b : List UInt8) (hs : s < 4294967296) (hn : b.length + 22 ≤ n) (hb : b.length < 4611686018427387904) : Y.f35 n (s : Int) b = some (((inv (crcF (inv s) b) : Nat) : Int), ()) := by
  obtain ⟨n, rfl⟩ : ∃ k, n = k + 2 := ⟨n - 2, by omega⟩
  rw [Y.f35_eq, inv_u32 hs, Y.f41_eq]
  have := p41_2 Y b.length n n (inv s) b 0 (inv_lt hs) (by omega) (by omega) hb
  rw [show ((0 : Nat) : Int) = 0 from rfl, List.drop_zero] at this
  rw [this, ob_some]
  show some (ibits _ _ _ ((crcF (inv s) b : Nat) : Int), ()) = _
  rw [inv_u32 (crc_lt b (inv_lt hs))]
theorem f22 (n : Nat) (b : List UInt8) (hn : b.length + 23 ≤ n) (hb : b.length < 4611686018427387904) : Y.f22 n b = some (((inv (crcF (inv 0) b) : Nat) : Int), ()) := by
  obtain ⟨n, rfl⟩ : ∃ k, n = k + 1 := ⟨n - 1, by omega⟩
  have := f35 Y n 0 b (by omega) (by omega) hb
  rw [show ((0 : Nat) : Int) = 0 from rfl] at this
  rw [Y.f22_eq, this]; rfl
theorem f21 (n : Nat) (a : Int) (hn : 1 ≤ n) : Y.f21 n a = some (mask a, ()) := by
  obtain ⟨n, rfl⟩ : ∃ k, n = k + 1 := ⟨n - 1, by omega⟩
  rw [Y.f21_eq, sel_dec, if_pos (by omega), sel_dec, if_pos (by omega)]; rfl
end
end Rs
end
section
/-! The records of a file, plainly; the document's reading is this. Plain. -/
namespace Rs
open Go Lk
def bt (b : List UInt8) (i : Nat) : Nat := (b.getD i 0).toNat
def le32 (b : List UInt8) (i : Nat) : Nat := bt b i + 256 * bt b (i + 1) + 65536 * bt b (i + 2) + 16777216 * bt b (i + 3)
def part (b : List UInt8) (i n : Nat) : List UInt8 := (b.drop i).take n
def zeros (b : List UInt8) : Bool := b.all (· == 0)
inductive Rnd
  | ends (how : Int)
  | goes (at_ : Nat) (data : List UInt8) (op : Bool) (rec : Option (List UInt8))
def rnd (B : Nat) (file : List UInt8) (at_ : Nat) (data : List UInt8) (op : Bool) : Rnd :=
  if file.length ≤ at_ then .ends (if op then 1 else 0)
  else if B - at_ % B < 7 then (if zeros (part file at_ (B - at_ % B)) then .goes (min (at_ + (B - at_ % B)) file.length) data op none else .ends 2)
  else if file.length - at_ < 7 then .ends 1
  else if bt file (at_ + 6) < 1 ∨ 4 < bt file (at_ + 6) ∨ B - at_ % B - 7 < bt file (at_ + 4) + 256 * bt file (at_ + 5) then .ends 2
  else if file.length - at_ - 7 < bt file (at_ + 4) + 256 * bt file (at_ + 5) then .ends 1
  else if (le32 file at_ : Int) ≠ sumM (part file (at_ + 6) (bt file (at_ + 4) + 256 * bt file (at_ + 5) + 1)) then .ends 2
  else if decide (bt file (at_ + 6) = 1 ∨ bt file (at_ + 6) = 2) = op then .ends 2
  else if 2097152 < ((if bt file (at_ + 6) = 1 ∨ bt file (at_ + 6) = 2 then [] else data) ++ part file (at_ + 7) (bt file (at_ + 4) + 256 * bt file (at_ + 5))).length then .ends 2
  else .goes (at_ + 7 + (bt file (at_ + 4) + 256 * bt file (at_ + 5))) ((if bt file (at_ + 6) = 1 ∨ bt file (at_ + 6) = 2 then [] else data) ++ part file (at_ + 7) (bt file (at_ + 4) + 256 * bt file (at_ + 5))) (decide (bt file (at_ + 6) = 2 ∨ bt file (at_ + 6) = 3))
    (if bt file (at_ + 6) = 2 ∨ bt file (at_ + 6) = 3 then none else some ((if bt file (at_ + 6) = 1 ∨ bt file (at_ + 6) = 2 then [] else data) ++ part file (at_ + 7) (bt file (at_ + 4) + 256 * bt file (at_ + 5))))
def recs (B : Nat) (file : List UInt8) : Nat → Nat → List UInt8 → Bool → List (List UInt8 × Nat) × Int
  | 0, _, _, _ => ([], 0)
  | m + 1, at_, data, op => match rnd B file at_ data op with
    | .ends how => ([], how)
    | .goes at1 data1 op1 r => ((r.toList.map fun x => (x, at1)) ++ (recs B file m at1 data1 op1).1, (recs B file m at1 data1 op1).2)
theorem bt_lt (b : List UInt8) (i : Nat) : bt b i < 256 := UInt8.toNat_lt _
theorem wrap_u64 {x : Nat} (h : x < 18446744073709551616) : IntKind.u64.wrap (x : Int) = (x : Int) := by
  simp only [IntKind.wrap, IntKind.signed, IntKind.bits, Bool.false_and, Bool.false_eq_true, if_false]; omega
theorem tmod_nat (a b : Nat) : (a : Int).tmod (b : Int) = ((a % b : Nat) : Int) := by
  rw [Int.tmod_eq_emod_of_nonneg (by omega)]; rfl
theorem ext_part (b : List UInt8) (i h : Nat) : ext b (i : Int) (h : Int) = part b i (h - i) := by
  unfold ext win part
  simp only [Int.toNat_natCast]
theorem part_len (b : List UInt8) (i n : Nat) (h : i + n ≤ b.length) : (part b i n).length = n := by
  unfold part
  rw [List.length_take, List.length_drop]; omega
theorem part_get (b : List UInt8) (i n k : Nat) (hk : k < n) : (part b i n).getD k 0 = b.getD (i + k) 0 := by
  unfold part
  rw [List.getD_eq_getElem?_getD, List.getD_eq_getElem?_getD, List.getElem?_take, if_pos hk, List.getElem?_drop]
section
variable (Y : Rk.FnsK)
theorem p19_2 : ∀ (m j n0 : Nat) (b : List UInt8) (i : Nat), i + m = b.length → m + 1 ≤ j → b.length < 4611686018427387904 → Y.p19_2 j n0 b (i : Int) = some (zeros (b.drop i), ()) := by
  intro m
  induction m with
  | zero =>
    intro j n0 b i hi hj hb
    obtain ⟨j, rfl⟩ : ∃ k, j = k + 1 := ⟨j - 1, by omega⟩
    rw [Y.p19_2_eq, sel_dec, if_neg (by omega), List.drop_eq_nil_of_le (by omega)]; rfl
  | succ m ih =>
    intro j n0 b i hi hj hb
    obtain ⟨j, rfl⟩ : ∃ k, j = k + 1 := ⟨j - 1, by omega⟩
    have hd : b.drop i = b[i]'(by omega) :: b.drop (i + 1) := List.drop_eq_getElem_cons (by omega)
    obtain ⟨g1, g2, g3⟩ := drop_cons hd
    rw [Y.p19_2_eq, sel_dec, if_pos (by omega), sel_dec, if_pos (by omega), sel_dec, if_pos (by omega), Int.toNat_natCast, b_ne, wrap64 (by omega) (by omega), show (i : Int) + 1 = ((i + 1 : Nat) : Int) by omega, ih j n0 b (i + 1) (by omega) (by omega) hb, hd, g1]
    unfold zeros
    rw [List.all_cons]
    cases h : (b[i]'(by omega) == 0) with
    | true =>
      have : (b[i]'(by omega) != 0) = false := by rw [bne, h]; rfl
      rw [this, sel_f]; rfl
    | false =>
      have : (b[i]'(by omega) != 0) = true := by rw [bne, h]; rfl
      rw [this, sel_t]; rfl
theorem f19 (n : Nat) (b : List UInt8) (hn : b.length + 2 ≤ n) (hb : b.length < 4611686018427387904) : Y.f19 n b = some (zeros b, ()) := by
  obtain ⟨n, rfl⟩ : ∃ k, n = k + 1 := ⟨n - 1, by omega⟩
  rw [Y.f19_eq]
  have := p19_2 Y b.length n n b 0 (by omega) (by omega) hb
  rw [show ((0 : Nat) : Int) = 0 from rfl, List.drop_zero] at this
  exact this
theorem p20_step (j n0 n1 v k at_ : Nat) (b : List UInt8) (hv : v < 1099511627776) (hk : at_ + k < b.length) (hb : b.length < 4611686018427387904) : Y.p20_7 (j + 1) n0 n1 b (at_ : Int) 4 (v : Int) (k : Int) = Y.p20_7 j n0 n1 b (at_ : Int) 4 ((v * 256 + bt b (at_ + k) : Nat) : Int) ((k : Int) - 1) := by
  have := bt_lt b (at_ + k)
  have hk2 : k < 4611686018427387904 := by omega
  rw [Y.p20_7_eq, sel_dec, if_pos (by omega), wrap64 (by omega) (by omega), show (at_ : Int) + (k : Int) = ((at_ + k : Nat) : Int) by omega, sel_dec, if_pos (by omega), sel_dec, if_pos (by omega), Int.toNat_natCast, wrap64 (by omega) (by omega)]
  show Y.p20_7 j n0 n1 b _ _ (IntKind.u64.wrap (IntKind.u64.wrap ((v : Int) * 256) + IntKind.u64.wrap (bt b (at_ + k) : Int))) _ = _
  rw [show (v : Int) * 256 = ((v * 256 : Nat) : Int) by omega, wrap_u64 (by omega), wrap_u64 (by omega), show ((v * 256 : Nat) : Int) + (bt b (at_ + k) : Int) = ((v * 256 + bt b (at_ + k) : Nat) : Int) by omega, wrap_u64 (by omega)]
theorem f20 (n at_ : Nat) (b : List UInt8) (hn : 20 ≤ n) (ha : at_ + 4 ≤ b.length) (hb : b.length < 4611686018427387904) : Y.f20 n b (at_ : Int) 4 = some ((le32 b at_ : Int), ((at_ + 4 : Nat) : Int), 0, ()) := by
  obtain ⟨n, rfl⟩ : ∃ k, n = k + 10 := ⟨n - 10, by omega⟩
  have h0 := bt_lt b at_
  have h1 := bt_lt b (at_ + 1)
  have h2 := bt_lt b (at_ + 2)
  have h3 := bt_lt b (at_ + 3)
  rw [Y.f20_eq, sel_dec, if_neg (by omega), Y.p20_2050_eq, show (decide ((at_ : Int) > (b.length : Int))) = false from decide_eq_false (by omega), sel_f, Y.p20_3_eq, wrap64 (by omega) (by omega), sel_dec, if_neg (by omega)]
  show Y.p20_7 (n + 8) (n + 9) (n + 8) b (at_ : Int) 4 ((0 : Nat) : Int) (IntKind.i64.wrap (((3 : Nat) : Int))) = _
  rw [wrap64 (by omega) (by omega), p20_step Y _ _ _ 0 3 at_ b (by omega) (by omega) hb]
  rw [show ((3 : Nat) : Int) - 1 = ((2 : Nat) : Int) by omega, p20_step Y _ _ _ _ 2 at_ b (by omega) (by omega) hb]
  rw [show ((2 : Nat) : Int) - 1 = ((1 : Nat) : Int) by omega, p20_step Y _ _ _ _ 1 at_ b (by omega) (by omega) hb]
  rw [show ((1 : Nat) : Int) - 1 = ((0 : Nat) : Int) by omega, p20_step Y _ _ _ _ 0 at_ b (by omega) (by omega) hb]
  rw [Y.p20_7_eq, sel_dec, if_neg (by omega), wrap64 (by omega) (by omega), show (at_ : Int) + 4 = ((at_ + 4 : Nat) : Int) by omega]
  congr 3
  unfold le32
  simp only [Nat.add_zero]
  omega
theorem round_ref (j n0 B at_ : Nat) (file data : List UInt8) (op : Bool) (out : List (List UInt8 × (Int × Unit))) (hB : 32 ≤ B ∧ B ≤ 32768) (hj : file.length + 100 ≤ j) (hfl : file.length ≤ 1048576) (hd : data.length ≤ 2097152) (ho : out.length ≤ 1048576) :
    Y.p10_5 (j + 1) n0 (B : Int) file out data op (at_ : Int) = (match rnd B file at_ data op with
      | .ends how => some (out, how, ())
      | .goes at1 data1 op1 r => Y.p10_5 j n0 (B : Int) file (out ++ r.toList.map fun x => (x, (at1 : Int), ())) data1 op1 (at1 : Int)) := by
  obtain ⟨hB1, hB2⟩ := hB
  have hmod : at_ % B < B := Nat.mod_lt _ (by omega)
  rw [Y.p10_5_eq, sel_dec]
  by_cases h1 : file.length ≤ at_
  · rw [if_pos (by omega), show rnd B file at_ data op = .ends (if op then 1 else 0) from by unfold rnd; rw [if_pos h1]]
    cases op <;> rfl
  rw [if_neg (by omega), show ((B : Int) != 0) = true from by simp; omega, sel_t, tmod_nat, wrap64 (by omega) (by omega), show (B : Int) - ((at_ % B : Nat) : Int) = ((B - at_ % B : Nat) : Int) by omega, sel_dec]
  generalize hleft : B - at_ % B = left
  have hl : 1 ≤ left ∧ left ≤ 32768 := by omega
  by_cases h2 : left < 7
  · rw [if_pos (by omega), wrap64 (by omega) (by omega), show (at_ : Int) + (left : Int) = ((at_ + left : Nat) : Int) by omega, sel_dec]
    have hr : rnd B file at_ data op = if zeros (part file at_ left) then .goes (min (at_ + left) file.length) data op none else .ends 2 := by
      unfold rnd; rw [if_neg h1, hleft, if_pos h2]
    have key : ∀ e : Nat, e = min (at_ + left) file.length → Y.p10_14 j n0 j (B : Int) file out data op (at_ : Int) (e : Int) = (match rnd B file at_ data op with
      | .ends how => some (out, how, ())
      | .goes at1 data1 op1 r => Y.p10_5 j n0 (B : Int) file (out ++ r.toList.map fun x => (x, (at1 : Int), ())) data1 op1 (at1 : Int)) := by
      intro e he
      obtain ⟨j, rfl⟩ : ∃ k, j = k + 1 := ⟨j - 1, by omega⟩
      have hpe : part file at_ (e - at_) = part file at_ left := by
        unfold part
        rcases Nat.lt_or_ge (at_ + left) file.length with h | h
        · rw [he, Nat.min_eq_left (by omega)]; congr 1; omega
        · rw [List.take_of_length_le (by rw [List.length_drop]; omega), List.take_of_length_le (by rw [List.length_drop]; omega)]
      have hpl : (part file at_ (e - at_)).length ≤ file.length := by unfold part; rw [List.length_take, List.length_drop]; omega
      rw [Y.p10_14_eq, sel_dec, if_pos (by omega), sel_dec, if_pos (by omega), sel_dec, if_pos (by omega), sel_dec, if_pos (by omega), ext_part, f19 Y j _ (by omega) (by omega), ob_some, hr, hpe]
      show sel (!zeros (part file at_ left)) _ _ = _
      cases hz : zeros (part file at_ left) with
      | false => rfl
      | true =>
        show Y.p10_5 (j + 1) n0 _ _ _ _ _ _ = Y.p10_5 (j + 1) n0 _ _ (out ++ []) _ _ _
        rw [List.append_nil, he]
    by_cases h3 : file.length < at_ + left
    · rw [if_pos (by omega)]
      exact key _ (by omega)
    · rw [if_neg (by omega)]
      exact key _ (by omega)
  rw [if_neg (by omega), wrap64 (by omega) (by omega), sel_dec]
  by_cases h3 : file.length - at_ < 7
  · rw [if_pos (by omega), show rnd B file at_ data op = .ends 1 from by unfold rnd; rw [if_neg h1, hleft, if_neg h2, if_pos h3]]
  rw [if_neg (by omega), f20 Y j at_ file (by omega) (by omega) (by omega), ob_some]
  have h4 := bt_lt file (at_ + 4)
  have h5 := bt_lt file (at_ + 5)
  have h6 := bt_lt file (at_ + 6)
  have w4 : IntKind.i64.wrap ((at_ : Int) + 4) = ((at_ + 4 : Nat) : Int) := by rw [wrap64 (by omega) (by omega)]; omega
  have w5 : IntKind.i64.wrap ((at_ : Int) + 5) = ((at_ + 5 : Nat) : Int) := by rw [wrap64 (by omega) (by omega)]; omega
  have w6 : IntKind.i64.wrap ((at_ : Int) + 6) = ((at_ + 6 : Nat) : Int) := by rw [wrap64 (by omega) (by omega)]; omega
  have w7 : IntKind.i64.wrap ((at_ : Int) + 7) = ((at_ + 7 : Nat) : Int) := by rw [wrap64 (by omega) (by omega)]; omega
  rw [w4, w5, w6, sel_dec, if_pos (by omega), sel_dec, if_pos (by omega), sel_dec, if_pos (by omega), sel_dec, if_pos (by omega), sel_dec, if_pos (by omega), sel_dec, if_pos (by omega)]
  rw [Int.toNat_natCast (at_ + 6), Int.toNat_natCast (at_ + 4), Int.toNat_natCast (at_ + 5)]
  generalize hk : bt file (at_ + 6) = k at *
  generalize hn : bt file (at_ + 4) + 256 * bt file (at_ + 5) = n at *
  have e6 : IntKind.i64.wrap (↑(UInt8.toNat (file.getD (at_ + 6) 0)) : Int) = (k : Int) := by
    rw [show (UInt8.toNat (file.getD (at_ + 6) 0)) = k from hk, wrap64 (by omega) (by omega)]
  have e45 : IntKind.i64.wrap (IntKind.i64.wrap (↑(UInt8.toNat (file.getD (at_ + 4) 0)) : Int) + IntKind.i64.wrap (IntKind.i64.wrap (↑(UInt8.toNat (file.getD (at_ + 5) 0)) : Int) * 256)) = (n : Int) := by
    show IntKind.i64.wrap (IntKind.i64.wrap (bt file (at_ + 4) : Int) + IntKind.i64.wrap (IntKind.i64.wrap (bt file (at_ + 5) : Int) * 256)) = _
    rw [wrap64 (x := (bt file (at_ + 4) : Int)) (by omega) (by omega), wrap64 (x := (bt file (at_ + 5) : Int)) (by omega) (by omega), wrap64 (x := (bt file (at_ + 5) : Int) * 256) (by omega) (by omega), wrap64 (by omega) (by omega)]
    omega
  have hnl : n ≤ 65535 := by omega
  rw [e6, e45, wrap64 (x := (left : Int) - 7) (by omega) (by omega)]
  obtain ⟨j, rfl⟩ : ∃ k, j = k + 10 := ⟨j - 10, by omega⟩
  have bad : ∀ c, rnd B file at_ data op = .ends 2 → c = true → Y.p10_2071 (j + 10) n0 (j + 10) (B : Int) file out data op (at_ : Int) (le32 file at_ : Int) (n : Int) (k : Int) c = (match rnd B file at_ data op with
      | .ends how => some (out, how, ())
      | .goes at1 data1 op1 r => Y.p10_5 (j + 10) n0 (B : Int) file (out ++ r.toList.map fun x => (x, (at1 : Int), ())) data1 op1 (at1 : Int)) := by
    intro c hr hc
    rw [Y.p10_2071_eq, hc, sel_t, hr]
  rw [sel_dec]
  by_cases h7 : k < 1 ∨ 4 < k ∨ left - 7 < n
  · have hr : rnd B file at_ data op = .ends 2 := by
      unfold rnd; rw [if_neg h1, hleft, if_neg h2, if_neg h3, hk, hn, if_pos h7]
    by_cases h8 : k < 1
    · rw [if_pos (by omega)]; exact bad _ hr rfl
    rw [if_neg (by omega), sel_dec]
    by_cases h9 : 4 < k
    · rw [if_pos (by omega)]; exact bad _ hr rfl
    rw [if_neg (by omega)]
    exact bad _ hr (decide_eq_true (by omega))
  rw [if_neg (by omega), sel_dec, if_neg (by omega), show (decide ((n : Int) > (left : Int) - 7)) = false from decide_eq_false (by omega), Y.p10_2071_eq, sel_f, Y.p10_24_eq, wrap64 (x := (file.length : Int) - (at_ : Int)) (by omega) (by omega), wrap64 (x := (file.length : Int) - (at_ : Int) - 7) (by omega) (by omega), sel_dec]
  by_cases h8 : file.length - at_ - 7 < n
  · rw [if_pos (by omega), show rnd B file at_ data op = .ends 1 from by unfold rnd; rw [if_neg h1, hleft, if_neg h2, if_neg h3, hk, hn, if_neg h7, if_pos h8]]
  rw [if_neg (by omega), w6, w7, wrap64 (x := ((at_ + 7 : Nat) : Int) + (n : Int)) (by omega) (by omega), show ((at_ + 7 : Nat) : Int) + (n : Int) = ((at_ + 7 + n : Nat) : Int) by omega, sel_dec, if_pos (by omega), sel_dec, if_pos (by omega), sel_dec, if_pos (by omega), sel_dec, if_pos (by omega), ext_part, show at_ + 7 + n - (at_ + 6) = n + 1 by omega]
  have hpl := part_len file (at_ + 6) (n + 1) (by omega)
  generalize hbody : part file (at_ + 6) (n + 1) = body at *
  rw [f22 Y (j + 9) body (by omega) (by omega), ob_some]
  show obind (Y.f21 (j + 9) ((inv (crcF (inv 0) body) : Nat) : Int)) _ = _
  rw [f21 Y (j + 9) _ (by omega), ob_some]
  have h32 : le32 file at_ < 4294967296 := by
    have q0 := bt_lt file at_
    have q1 := bt_lt file (at_ + 1)
    have q2 := bt_lt file (at_ + 2)
    have q3 := bt_lt file (at_ + 3)
    unfold le32; omega
  show sel (IntKind.u32.wrap (le32 file at_ : Int) != sumM body) _ _ = _
  rw [wrap_u32 h32]
  have hr0 : rnd B file at_ data op = (if (le32 file at_ : Int) ≠ sumM body then .ends 2
      else if decide (k = 1 ∨ k = 2) = op then .ends 2
      else if 2097152 < ((if k = 1 ∨ k = 2 then [] else data) ++ part file (at_ + 7) n).length then .ends 2
      else .goes (at_ + 7 + n) ((if k = 1 ∨ k = 2 then [] else data) ++ part file (at_ + 7) n) (decide (k = 2 ∨ k = 3)) (if k = 2 ∨ k = 3 then none else some ((if k = 1 ∨ k = 2 then [] else data) ++ part file (at_ + 7) n))) := by
    unfold rnd; rw [if_neg h1, hleft, if_neg h2, if_neg h3, hk, hn, if_neg h7, if_neg h8, hbody]
  have bad2 : rnd B file at_ data op = .ends 2 → Y.p10_2076 (j + 9) n0 (j + 10) (j + 9) (B : Int) file out data (at_ : Int) (n : Int) (k : Int) body true = (match rnd B file at_ data op with
      | .ends how => some (out, how, ())
      | .goes at1 data1 op1 r => Y.p10_5 (j + 10) n0 (B : Int) file (out ++ r.toList.map fun x => (x, (at1 : Int), ())) data1 op1 (at1 : Int)) := by
    intro hr
    rw [Y.p10_2076_eq, sel_t, hr]
  by_cases h9 : (le32 file at_ : Int) = sumM body
  case neg =>
    rw [show ((le32 file at_ : Int) != sumM body) = true by simpa using h9, sel_t]
    exact bad2 (by rw [hr0, if_pos h9])
  rw [show ((le32 file at_ : Int) != sumM body) = false by simpa using h9, sel_f]
  rw [if_neg (by simpa using h9)] at hr0
  have hdrop : ext body 1 (body.length : Int) = part file (at_ + 7) n := by
    rw [show (1 : Int) = ((1 : Nat) : Int) from rfl, ext_part, hpl, ← hbody]
    unfold part
    rw [List.drop_take, List.drop_drop, List.take_take]
    congr 1; omega
  have hdl := part_len file (at_ + 7) n (by omega)
  have f36 : ∀ (D : List UInt8) (o1 : Bool), D.length ≤ 2097152 → Y.p10_36 (j + 7) n0 (j + 10) (j + 9) (j + 8) (j + 7) (B : Int) file out D o1 ((at_ + 7 + n : Nat) : Int) = Y.p10_5 (j + 10) n0 (B : Int) file (if o1 then out else out ++ [(D, ((at_ + 7 + n : Nat) : Int), ())]) D o1 ((at_ + 7 + n : Nat) : Int) := by
    intro D o1 hD
    rw [Y.p10_36_eq]
    cases o1 with
    | true => rfl
    | false =>
      show sel (!false) _ _ = _
      rw [Bool.not_false, sel_t, sel_dec, if_pos (by omega), sel_dec, if_pos (by omega)]
      rfl
  have f31 : ∀ (D : List UInt8), D.length ≤ 2097152 → Y.p10_31 (j + 8) n0 (j + 10) (j + 9) (j + 8) (B : Int) file out D (at_ : Int) (n : Int) (k : Int) body = (if 2097152 < (D ++ part file (at_ + 7) n).length then some (out, 2, ())
      else Y.p10_5 (j + 10) n0 (B : Int) file (if decide (k = 2 ∨ k = 3) then out else out ++ [(D ++ part file (at_ + 7) n, ((at_ + 7 + n : Nat) : Int), ())]) (D ++ part file (at_ + 7) n) (decide (k = 2 ∨ k = 3)) ((at_ + 7 + n : Nat) : Int)) := by
    intro D hD
    rw [Y.p10_31_eq, sel_dec, if_pos (by omega), sel_dec, if_pos (by omega), hdrop, sel_dec, if_pos (by rw [hdl]; omega), sel_dec]
    by_cases hc : 2097152 < (D ++ part file (at_ + 7) n).length
    · rw [if_pos (by omega), if_pos hc]
    · rw [if_neg (by omega), if_neg hc, w7, wrap64 (x := ((at_ + 7 : Nat) : Int) + (n : Int)) (by omega) (by omega), show ((at_ + 7 : Nat) : Int) + (n : Int) = ((at_ + 7 + n : Nat) : Int) by omega, f36 _ true (by omega), f36 _ _ (by omega)]
      obtain rfl | rfl | rfl | rfl : k = 1 ∨ k = 2 ∨ k = 3 ∨ k = 4 := by omega
      all_goals rfl
  have f29 : ∀ c : Bool, c = decide (k = 1 ∨ k = 2) → Y.p10_2076 (j + 9) n0 (j + 10) (j + 9) (B : Int) file out data (at_ : Int) (n : Int) (k : Int) body (c == op) = (match rnd B file at_ data op with
      | .ends how => some (out, how, ())
      | .goes at1 data1 op1 r => Y.p10_5 (j + 10) n0 (B : Int) file (out ++ r.toList.map fun x => (x, (at1 : Int), ())) data1 op1 (at1 : Int)) := by
    intro c hc
    by_cases h10 : decide (k = 1 ∨ k = 2) = op
    · rw [show (c == op) = true by rw [hc, h10]; simp]
      exact bad2 (by rw [hr0, if_pos h10])
    · rw [if_neg h10] at hr0
      rw [show (c == op) = false by rw [hc]; simpa using h10, Y.p10_2076_eq, sel_f, Y.p10_29_eq]
      have h2078 : Y.p10_2078 (j + 8) n0 (j + 10) (j + 9) (j + 8) (B : Int) file out data (at_ : Int) (n : Int) (k : Int) body (decide (k = 1 ∨ k = 2)) = (match rnd B file at_ data op with
          | .ends how => some (out, how, ())
          | .goes at1 data1 op1 r => Y.p10_5 (j + 10) n0 (B : Int) file (out ++ r.toList.map fun x => (x, (at1 : Int), ())) data1 op1 (at1 : Int)) := by
        rw [Y.p10_2078_eq]
        have hD : ∀ D, D = (if k = 1 ∨ k = 2 then [] else data) → D.length ≤ 2097152 → Y.p10_31 (j + 8) n0 (j + 10) (j + 9) (j + 8) (B : Int) file out D (at_ : Int) (n : Int) (k : Int) body = (match rnd B file at_ data op with
            | .ends how => some (out, how, ())
            | .goes at1 data1 op1 r => Y.p10_5 (j + 10) n0 (B : Int) file (out ++ r.toList.map fun x => (x, (at1 : Int), ())) data1 op1 (at1 : Int)) := by
          intro D hD hDl
          rw [f31 D hDl, hr0, ← hD]
          by_cases hc : 2097152 < (D ++ part file (at_ + 7) n).length
          · rw [if_pos hc, if_pos hc]
          · rw [if_neg hc, if_neg hc]
            by_cases hq : k = 2 ∨ k = 3
            · rw [decide_eq_true hq, if_pos rfl, if_pos hq]
              show _ = Y.p10_5 _ _ _ _ (out ++ []) _ _ _
              rw [List.append_nil]
            · rw [decide_eq_false hq, if_neg hq]; rfl
        by_cases hq : k = 1 ∨ k = 2
        · rw [decide_eq_true hq, sel_t]
          exact hD [] (by rw [if_pos hq]) (by simp)
        · rw [decide_eq_false hq, sel_f]
          exact hD data (by rw [if_neg hq]) hd
      obtain rfl | rfl | rfl | rfl : k = 1 ∨ k = 2 ∨ k = 3 ∨ k = 4 := by omega
      all_goals exact h2078
  obtain rfl | rfl | rfl | rfl : k = 1 ∨ k = 2 ∨ k = 3 ∨ k = 4 := by omega
  all_goals exact f29 _ rfl
end
end Rs
end
section
/-! The document's reading is this; the program's, its equations made clean. Plain. -/
namespace Rs
open Go Lk
theorem rnd_goes {B : Nat} {file : List UInt8} {at_ : Nat} {data : List UInt8} {op : Bool} {at1 : Nat} {data1 : List UInt8} {op1 : Bool} {r : Option (List UInt8)} (h : rnd B file at_ data op = .goes at1 data1 op1 r) (hB : 32 ≤ B) (hd : data.length ≤ 2097152) :
    at_ < at1 ∧ at1 ≤ file.length ∧ data1.length ≤ 2097152 ∧ ((r = none ∧ data1 = data ∧ op1 = op) ∨ (r = none ∧ op1 = true) ∨ (r = some data1 ∧ op1 = false)) := by
  have hmod : at_ % B < B := Nat.mod_lt _ (by omega)
  unfold rnd at h
  split at h
  · cases h
  split at h
  · split at h
    · cases h
      exact ⟨by omega, by omega, hd, .inl ⟨rfl, rfl, rfl⟩⟩
    · cases h
  split at h
  · cases h
  split at h
  · cases h
  split at h
  · cases h
  split at h
  · cases h
  split at h
  · cases h
  rename_i q1 q2 q3 q4 q5 q6 q7
  generalize ((if bt file (at_ + 6) = 1 ∨ bt file (at_ + 6) = 2 then [] else data) ++ part file (at_ + 7) (bt file (at_ + 4) + 256 * bt file (at_ + 5))) = D at h
  by_cases q8 : 2097152 < D.length
  · rw [if_pos q8] at h; cases h
  · rw [if_neg q8] at h
    cases h
    refine ⟨by omega, by omega, by omega, .inr ?_⟩
    by_cases hq : bt file (at_ + 6) = 2 ∨ bt file (at_ + 6) = 3
    · exact .inl ⟨if_pos hq, decide_eq_true hq⟩
    · exact .inr ⟨if_neg hq, decide_eq_false hq⟩
theorem rnd_data (B : Nat) (file : List UInt8) (at_ : Nat) (d d' : List UInt8) :
    rnd B file at_ d' false = (match rnd B file at_ d false with
      | .ends how => .ends how
      | .goes at1 data1 op1 r => .goes at1 (if op1 then data1 else match r with | none => d' | some x => x) op1 r) := by
  unfold rnd
  split
  · rfl
  split
  · split <;> rfl
  split
  · rfl
  split
  · rfl
  split
  · rfl
  split
  · rfl
  by_cases hk : bt file (at_ + 6) = 1 ∨ bt file (at_ + 6) = 2
  · have h0 : ¬ (decide (bt file (at_ + 6) = 1 ∨ bt file (at_ + 6) = 2) = false) := by rw [decide_eq_true hk]; simp
    simp only [if_neg h0, if_pos hk]
    generalize ([] ++ part file (at_ + 7) (bt file (at_ + 4) + 256 * bt file (at_ + 5)) : List UInt8) = D
    by_cases q8 : 2097152 < D.length
    · simp only [if_pos q8]
    · simp only [if_neg q8]
      by_cases hq : bt file (at_ + 6) = 2 ∨ bt file (at_ + 6) = 3
      · simp only [if_pos hq, decide_eq_true hq]
        rfl
      · simp only [if_neg hq, decide_eq_false hq]
        rfl
  · have h0 : decide (bt file (at_ + 6) = 1 ∨ bt file (at_ + 6) = 2) = false := decide_eq_false hk
    simp only [if_pos h0]
theorem recs_data (B : Nat) (file : List UInt8) : ∀ (m at_ : Nat) (d d' : List UInt8), recs B file m at_ d' false = recs B file m at_ d false := by
  intro m
  induction m with
  | zero => intro _ _ _; rfl
  | succ m ih =>
    intro at_ d d'
    simp only [recs]
    rw [rnd_data B file at_ d d']
    cases h : rnd B file at_ d false with
    | ends how => rfl
    | goes at1 data1 op1 r =>
      simp only
      cases op1 with
      | true => rfl
      | false =>
        simp only [Bool.false_eq_true, if_false]
        rw [ih at1 data1]
section
variable (Y : Rk.FnsK)
theorem read_ref (B : Nat) (file : List UInt8) (hB : 32 ≤ B ∧ B ≤ 32768) (hfl : file.length ≤ 1048576) : ∀ (m j n0 at_ : Nat) (data : List UInt8) (op : Bool) (out : List (List UInt8 × (Int × Unit))), file.length - at_ < m → at_ ≤ file.length → m + file.length + 101 ≤ j → data.length ≤ 2097152 → out.length ≤ at_ →
    Y.p10_5 j n0 (B : Int) file out data op (at_ : Int) = some (out ++ (recs B file m at_ data op).1.map (fun x => (x.1, ((x.2 : Nat) : Int), ())), (recs B file m at_ data op).2, ()) := by
  intro m
  induction m with
  | zero => intro j n0 at_ data op out h; omega
  | succ m ih =>
    intro j n0 at_ data op out hm ha hj hd ho
    obtain ⟨j, rfl⟩ : ∃ k, j = k + 1 := ⟨j - 1, by omega⟩
    rw [round_ref Y j n0 B at_ file data op out hB (by omega) hfl hd (by omega)]
    simp only [recs]
    cases h : rnd B file at_ data op with
    | ends how => simp
    | goes at1 data1 op1 r =>
      obtain ⟨g1, g2, g3, _⟩ := rnd_goes h hB.1 hd
      have hr : (r.toList.map fun x => (x, (at1 : Int), ())).length ≤ 1 := by
        rw [List.length_map]
        cases r <;> simp
      simp only
      rw [ih j n0 at1 data1 op1 _ (by omega) g2 (by omega) g3 (by rw [List.length_append]; omega)]
      simp [List.append_assoc, Function.comp_def]
theorem f10 (n B : Nat) (file : List UInt8) (hB : 32 ≤ B ∧ B ≤ 32768) (hfl : file.length ≤ 1048576) (hn : 2 * file.length + 200 ≤ n) :
    Y.f10 n (B : Int) file = some ((recs B file (file.length + 1) 0 [] false).1.map (fun x => (x.1, ((x.2 : Nat) : Int), ())), (recs B file (file.length + 1) 0 [] false).2, ()) := by
  obtain ⟨n, rfl⟩ : ∃ k, n = k + 1 := ⟨n - 1, by omega⟩
  rw [Y.f10_eq]
  have := read_ref Y B file hB hfl (file.length + 1) n n 0 [] false [] (by omega) (by omega) (by omega) (by simp) (by simp)
  rw [List.nil_append] at this
  exact this
theorem f9 (n B : Nat) (hn : 1 ≤ n) : Y.f9 n (B : Int) = some (decide (32 ≤ B) && decide (B ≤ 32768), ()) := by
  obtain ⟨n, rfl⟩ : ∃ k, n = k + 1 := ⟨n - 1, by omega⟩
  rw [Y.f9_eq, sel_dec]
  by_cases h : 32 ≤ B
  · rw [if_pos (by omega)]
    congr 2
    rw [decide_eq_true h, Bool.true_and]
    exact decide_eq_decide.2 (by omega)
  · rw [if_neg (by omega), decide_eq_false h]; rfl
end
section
variable (X : Rj.FnsJ)
abbrev Rd (B : Nat) (file : List UInt8) (at_ : Nat) (data : List UInt8) (op : Bool) : Option (Int × (List UInt8 × (Int × (List UInt8 × (Bool × Unit))))) := some ((B : Int), file, (at_ : Int), data, op, ())
theorem c1 (j n0 B at_ : Nat) (file data : List UInt8) (op : Bool) (l : Option (List JItem)) : X.p14_1 (j + 1) n0 (Rd B file at_ data op) l =
    (sel (decide ((at_ : Int) < (file.length : Int))) (sel ((B : Int) != 0) (X.p14_3 j n0 j (Rd B file at_ data op) l (IntKind.i64.wrap ((B : Int) - Int.tmod (at_ : Int) (B : Int)))) none)
      (sel op (some (1, Rd B file at_ data op, l, ())) (some (0, Rd B file at_ data op, l, ())))) := X.p14_1_eq j n0 (Rd B file at_ data op) l
theorem c25 (j n0 n1 n2 B at_ : Nat) (file data : List UInt8) (op : Bool) (l : Option (List JItem)) : X.p14_25 (j + 1) n0 n1 n2 (Rd B file at_ data op) l =
    (sel (!op) (obind (RrG.yJ l (at_ : Int) data) fun r => sel (!r.1) (some (0, Rd B file at_ [] op, r.2.1, ())) (X.p14_1 n1 n0 (Rd B file at_ [] op) r.2.1)) (X.p14_1 n1 n0 (Rd B file at_ data op) l)) := X.p14_25_eq j n0 n1 n2 (Rd B file at_ data op) l
theorem c5 (j n0 n1 n2 B at_ : Nat) (file data : List UInt8) (op : Bool) (l : Option (List JItem)) (v42 z : List UInt8) (zn i : Int) : X.p14_5 (j + 1) n0 n1 n2 (Rd B file at_ data op) l v42 z zn i =
    (sel (decide (i < zn)) (sel (decide (0 ≤ i)) (sel (decide (i < (z.length : Int))) (sel ((↑(UInt8.toNat (z.getD i.toNat (0 : UInt8))) : Int) != (↑(UInt8.toNat (0 : UInt8)) : Int)) (some (2, Rd B file at_ data op, l, ()))
      (X.p14_5 j n0 n1 n2 (some ((B : Int), file, IntKind.i64.wrap ((at_ : Int) + 1), data, op, ())) l v42 z zn (IntKind.i64.wrap (i + 1)))) none) none) (X.p14_1 n1 n0 (Rd B file at_ data op) l)) := X.p14_5_eq j n0 n1 n2 (Rd B file at_ data op) l v42 z zn i
end
end Rs
end
section
/-! The program's reading: a round. Plain. -/
namespace Rs
open Go Lk
theorem or_shl {a b k : Nat} (h : a < 2 ^ k) : a ||| b * 2 ^ k = a + b * 2 ^ k := by
  have := Nat.shiftLeft_add_eq_or_of_lt h b
  rw [Nat.shiftLeft_eq] at this
  rw [Nat.or_comm, ← this, Nat.add_comm]
theorem imin_nat (a b : Nat) : imin (a : Int) (b : Int) = ((min a b : Nat) : Int) := by
  unfold imin
  by_cases h : b < a
  · rw [if_pos (by omega), Nat.min_eq_right (by omega)]
  · rw [if_neg (by omega), Nat.min_eq_left (by omega)]
section
variable (X : Rj.FnsJ)
theorem c3 (j n0 n1 B at_ : Nat) (file data : List UInt8) (op : Bool) (l : Option (List JItem)) (left : Int) : X.p14_3 (j + 1) n0 n1 (Rd B file at_ data op) l left =
    (sel (decide (left < 7))
      (sel (decide (0 ≤ imin (IntKind.i64.wrap ((at_ : Int) + left)) (file.length : Int))) (sel (decide (imin (IntKind.i64.wrap ((at_ : Int) + left)) (file.length : Int) ≤ (file.length : Int))) (sel (decide (0 ≤ (at_ : Int))) (sel (decide ((at_ : Int) ≤ imin (IntKind.i64.wrap ((at_ : Int) + left)) (file.length : Int)))
        (X.p14_5 j n0 n1 j (Rd B file at_ data op) l file (ext file (at_ : Int) (imin (IntKind.i64.wrap ((at_ : Int) + left)) (file.length : Int))) ((ext file (at_ : Int) (imin (IntKind.i64.wrap ((at_ : Int) + left)) (file.length : Int))).length : Int) 0) none) none) none) none)
      (sel (decide (0 ≤ (at_ : Int))) (sel (decide ((at_ : Int) ≤ (file.length : Int))) (sel (decide (((ext file (at_ : Int) (file.length : Int)).length : Int) < 7)) (some (1, Rd B file at_ data op, l, ()))
        (sel (decide ((0 : Int) ≤ 4)) (sel (decide ((4 : Int) < ((ext file (at_ : Int) (file.length : Int)).length : Int))) (sel (decide ((0 : Int) ≤ 5)) (sel (decide ((5 : Int) < ((ext file (at_ : Int) (file.length : Int)).length : Int))) (sel (decide ((0 : Int) ≤ 8)) (sel (decide ((0 : Int) ≤ 6)) (sel (decide ((6 : Int) < ((ext file (at_ : Int) (file.length : Int)).length : Int)))
          (sel (decide ((↑(UInt8.toNat ((ext file (at_ : Int) (file.length : Int)).getD (Int.toNat 6) 0)) : Int) < (↑(UInt8.toNat (1 : UInt8)) : Int)))
            (X.p14_2064 n1 n0 n1 (Rd B file at_ data op) l (ext file (at_ : Int) (file.length : Int)) (ibits .or .i64 (IntKind.i64.wrap (↑(UInt8.toNat ((ext file (at_ : Int) (file.length : Int)).getD (Int.toNat 4) 0)) : Int)) (IntKind.i64.wrap (IntKind.i64.wrap (↑(UInt8.toNat ((ext file (at_ : Int) (file.length : Int)).getD (Int.toNat 5) 0)) : Int) * 2 ^ min (Int.toNat 8) IntKind.i64.bits))) ((ext file (at_ : Int) (file.length : Int)).getD (Int.toNat 6) 0) true)
            (sel (decide ((↑(UInt8.toNat ((ext file (at_ : Int) (file.length : Int)).getD (Int.toNat 6) 0)) : Int) > (↑(UInt8.toNat (4 : UInt8)) : Int)))
              (X.p14_2064 n1 n0 n1 (Rd B file at_ data op) l (ext file (at_ : Int) (file.length : Int)) (ibits .or .i64 (IntKind.i64.wrap (↑(UInt8.toNat ((ext file (at_ : Int) (file.length : Int)).getD (Int.toNat 4) 0)) : Int)) (IntKind.i64.wrap (IntKind.i64.wrap (↑(UInt8.toNat ((ext file (at_ : Int) (file.length : Int)).getD (Int.toNat 5) 0)) : Int) * 2 ^ min (Int.toNat 8) IntKind.i64.bits))) ((ext file (at_ : Int) (file.length : Int)).getD (Int.toNat 6) 0) true)
              (sel ((B : Int) != 0)
                (X.p14_2064 n1 n0 n1 (Rd B file at_ data op) l (ext file (at_ : Int) (file.length : Int)) (ibits .or .i64 (IntKind.i64.wrap (↑(UInt8.toNat ((ext file (at_ : Int) (file.length : Int)).getD (Int.toNat 4) 0)) : Int)) (IntKind.i64.wrap (IntKind.i64.wrap (↑(UInt8.toNat ((ext file (at_ : Int) (file.length : Int)).getD (Int.toNat 5) 0)) : Int) * 2 ^ min (Int.toNat 8) IntKind.i64.bits))) ((ext file (at_ : Int) (file.length : Int)).getD (Int.toNat 6) 0)
                  (decide (ibits .or .i64 (IntKind.i64.wrap (↑(UInt8.toNat ((ext file (at_ : Int) (file.length : Int)).getD (Int.toNat 4) 0)) : Int)) (IntKind.i64.wrap (IntKind.i64.wrap (↑(UInt8.toNat ((ext file (at_ : Int) (file.length : Int)).getD (Int.toNat 5) 0)) : Int) * 2 ^ min (Int.toNat 8) IntKind.i64.bits)) > IntKind.i64.wrap (IntKind.i64.wrap ((B : Int) - Int.tmod (at_ : Int) (B : Int)) - 7))))
                none)))
          none) none) none) none) none) none) none)) none) none)) := X.p14_3_eq j n0 n1 (Rd B file at_ data op) l left
def hdS (E : List UInt8) : Int :=
  ibits .or .u32 (ibits .or .u32 (ibits .or .u32 (IntKind.u32.wrap (↑(UInt8.toNat (E.getD (Int.toNat 0) 0)) : Int)) (IntKind.u32.wrap (IntKind.u32.wrap (↑(UInt8.toNat (E.getD (Int.toNat 1) 0)) : Int) * 2 ^ min (Int.toNat 8) IntKind.u32.bits)))
    (IntKind.u32.wrap (IntKind.u32.wrap (↑(UInt8.toNat (E.getD (Int.toNat 2) 0)) : Int) * 2 ^ min (Int.toNat 16) IntKind.u32.bits))) (IntKind.u32.wrap (IntKind.u32.wrap (↑(UInt8.toNat (E.getD (Int.toNat 3) 0)) : Int) * 2 ^ min (Int.toNat 24) IntKind.u32.bits))
theorem c26 (n B at_ : Nat) (file data : List UInt8) (op : Bool) (k : UInt8) (d : List UInt8) : X.f26 (n + 1) (Rd B file at_ data op) k d =
    (sel (decide ((0 : Int) ≤ (at_ : Int))) (sel (decide ((at_ : Int) ≤ (file.length : Int))) (sel (decide ((0 : Int) ≤ 0)) (sel (decide ((0 : Int) < ((ext file (at_ : Int) (file.length : Int)).length : Int))) (sel (decide ((0 : Int) ≤ 1)) (sel (decide ((1 : Int) < ((ext file (at_ : Int) (file.length : Int)).length : Int))) (sel (decide ((0 : Int) ≤ 8)) (sel (decide ((0 : Int) ≤ 2)) (sel (decide ((2 : Int) < ((ext file (at_ : Int) (file.length : Int)).length : Int))) (sel (decide ((0 : Int) ≤ 16)) (sel (decide ((0 : Int) ≤ 3)) (sel (decide ((3 : Int) < ((ext file (at_ : Int) (file.length : Int)).length : Int))) (sel (decide ((0 : Int) ≤ 24))
      (sel ((↑k.toNat : Int) == (↑(UInt8.toNat (1 : UInt8)) : Int)) (X.p26_4 n n (Rd B file at_ data op) k d (hdS (ext file (at_ : Int) (file.length : Int))) true) (X.p26_4 n n (Rd B file at_ data op) k d (hdS (ext file (at_ : Int) (file.length : Int))) ((↑k.toNat : Int) == (↑(UInt8.toNat (2 : UInt8)) : Int))))
      none) none) none) none) none) none) none) none) none) none) none) none) none) := X.f26_eq n (Rd B file at_ data op) k d
theorem c26_4 (n n0 B at_ : Nat) (file data : List UInt8) (op : Bool) (k : UInt8) (d : List UInt8) (s : Int) (b : Bool) : X.p26_4 (n + 1) n0 (Rd B file at_ data op) k d s b =
    (obind (X.f37 n k d) fun r => sel (s != r.1) (some (true, ())) (sel (b == op) (some (true, ())) (some (decide (IntKind.i64.wrap ((data.length : Int) + (d.length : Int)) > 2097152), ())))) := X.p26_4_eq n n0 (Rd B file at_ data op) k d s b
theorem c17 (j n0 n1 B at_ : Nat) (file data : List UInt8) (op : Bool) (l : Option (List JItem)) (E : List UInt8) (n : Int) (k : UInt8) : X.p14_17 (j + 1) n0 n1 (Rd B file at_ data op) l E n k =
    (sel (decide ((E.length : Int) < IntKind.i64.wrap (7 + n))) (some (1, Rd B file at_ data op, l, ()))
      (sel (decide (0 ≤ IntKind.i64.wrap (7 + n))) (sel (decide (IntKind.i64.wrap (7 + n) ≤ (E.length : Int))) (sel (decide ((0 : Int) ≤ 7)) (sel (decide (7 ≤ IntKind.i64.wrap (7 + n)))
        (obind (X.f26 j (Rd B file at_ data op) k (ext E 7 (IntKind.i64.wrap (7 + n)))) fun r => sel r.1 (some (2, Rd B file at_ data op, l, ()))
          (sel (decide (data.length + (ext E 7 (IntKind.i64.wrap (7 + n))).length ≤ 1073741824))
            (sel ((↑k.toNat : Int) == (↑(UInt8.toNat (2 : UInt8)) : Int))
              (X.p14_25 j n0 n1 j (some ((B : Int), file, IntKind.i64.wrap ((at_ : Int) + IntKind.i64.wrap (7 + n)), data ++ ext E 7 (IntKind.i64.wrap (7 + n)), true, ())) l)
              (X.p14_25 j n0 n1 j (some ((B : Int), file, IntKind.i64.wrap ((at_ : Int) + IntKind.i64.wrap (7 + n)), data ++ ext E 7 (IntKind.i64.wrap (7 + n)), ((↑k.toNat : Int) == (↑(UInt8.toNat (3 : UInt8)) : Int)), ())) l))
            none)) none) none) none) none)) := X.p14_17_eq j n0 n1 (Rd B file at_ data op) l E n k
theorem shl32 {b k : Nat} (hb : b < 256) (hk : k ≤ 24) : IntKind.u32.wrap (IntKind.u32.wrap (b : Int) * 2 ^ min (Int.toNat (k : Int)) IntKind.u32.bits) = ((b * 2 ^ k : Nat) : Int) := by
  have h1 : 2 ^ k ≤ 2 ^ 24 := Nat.pow_le_pow_right (by omega) hk
  have h2 : b * 2 ^ k < 4294967296 := by
    have := Nat.mul_le_mul (show b ≤ 255 by omega) h1
    omega
  rw [wrap_u32 (by omega), Int.toNat_natCast, show min k IntKind.u32.bits = k from Nat.min_eq_left (by show k ≤ 32; omega), show (b : Int) * 2 ^ k = ((b * 2 ^ k : Nat) : Int) by push_cast; rfl, wrap_u32 h2]
theorem hd_le (file : List UInt8) (at_ : Nat) (h : at_ + 4 ≤ file.length) : hdS (ext file (at_ : Int) (file.length : Int)) = (le32 file at_ : Int) := by
  have q0 := bt_lt file at_
  have q1 := bt_lt file (at_ + 1)
  have q2 := bt_lt file (at_ + 2)
  have q3 := bt_lt file (at_ + 3)
  have g : ∀ k, k < 4 → UInt8.toNat ((ext file (at_ : Int) (file.length : Int)).getD k 0) = bt file (at_ + k) := fun k hk => by
    rw [ext_part, part_get _ _ _ _ (by omega)]; rfl
  unfold hdS
  rw [show (Int.toNat 0) = 0 from rfl, show (Int.toNat 1) = 1 from rfl, show (Int.toNat 2) = 2 from rfl, show (Int.toNat 3) = 3 from rfl, g 0 (by omega), g 1 (by omega), g 2 (by omega), g 3 (by omega), Nat.add_zero]
  rw [wrap_u32 (by omega), show (Int.toNat 8) = Int.toNat ((8 : Nat) : Int) from rfl, show (Int.toNat 16) = Int.toNat ((16 : Nat) : Int) from rfl, show (Int.toNat 24) = Int.toNat ((24 : Nat) : Int) from rfl, shl32 q1 (by omega), shl32 q2 (by omega), shl32 q3 (by omega)]
  rw [or_u32 (by omega) (by omega), or_shl (by omega), or_u32 (by omega) (by omega), or_shl (by omega), or_u32 (by omega) (by omega), or_shl (by omega)]
  unfold le32
  congr 1
  omega
theorem f26 (n B at_ : Nat) (file data : List UInt8) (op : Bool) (k : UInt8) (d : List UInt8) (hn : d.length + 20 ≤ n) (ha : at_ + 7 ≤ file.length) (hd : d.length ≤ 1048576) (hD : data.length ≤ 4194304) :
    X.f26 n (Rd B file at_ data op) k d = some (decide ((le32 file at_ : Int) ≠ sumM (k :: d)) || (decide (k.toNat = 1 ∨ k.toNat = 2) == op) || decide (2097152 < data.length + d.length), ()) := by
  obtain ⟨n, rfl⟩ : ∃ m, n = m + 2 := ⟨n - 2, by omega⟩
  have hel : (ext file (at_ : Int) (file.length : Int)).length = file.length - at_ := by rw [ext_part, part_len _ _ _ (by omega)]
  have p : ∀ c, c = decide (k.toNat = 1 ∨ k.toNat = 2) → X.p26_4 (n + 1) (n + 1) (Rd B file at_ data op) k d (hdS (ext file (at_ : Int) (file.length : Int))) c = some (decide ((le32 file at_ : Int) ≠ sumM (k :: d)) || (decide (k.toNat = 1 ∨ k.toNat = 2) == op) || decide (2097152 < data.length + d.length), ()) := by
    intro c hc
    rw [c26_4, f37 X n k d (by omega) (by omega), ob_some, hd_le _ _ (by omega)]
    show sel ((le32 file at_ : Int) != sumM (k :: d)) _ _ = _
    by_cases h : (le32 file at_ : Int) = sumM (k :: d)
    · rw [show ((le32 file at_ : Int) != sumM (k :: d)) = false by simpa using h, sel_f, show decide ((le32 file at_ : Int) ≠ sumM (k :: d)) = false from decide_eq_false (by simpa using h), Bool.false_or, ← hc]
      cases hco : (c == op) with
      | true => rw [sel_t, Bool.true_or]
      | false =>
        rw [sel_f, Bool.false_or, wrap64 (by omega) (by omega)]
        congr 2
        exact decide_eq_decide.2 (by omega)
    · rw [show ((le32 file at_ : Int) != sumM (k :: d)) = true by simpa using h, sel_t, show decide ((le32 file at_ : Int) ≠ sumM (k :: d)) = true from decide_eq_true (by simpa using h)]
      rfl
  rw [c26]
  rw [sel_dec, if_pos (by omega), sel_dec, if_pos (by omega), sel_dec, if_pos (by omega), sel_dec, if_pos (by omega), sel_dec, if_pos (by omega), sel_dec, if_pos (by omega), sel_dec, if_pos (by omega), sel_dec, if_pos (by omega), sel_dec, if_pos (by omega), sel_dec, if_pos (by omega), sel_dec, if_pos (by omega), sel_dec, if_pos (by omega), sel_dec, if_pos (by omega)]
  by_cases h1 : k.toNat = 1
  · rw [show ((↑k.toNat : Int) == (↑(UInt8.toNat (1 : UInt8)) : Int)) = true by rw [h1]; rfl, sel_t]
    exact p true (decide_eq_true (.inl h1)).symm
  · rw [show ((↑k.toNat : Int) == (↑(UInt8.toNat (1 : UInt8)) : Int)) = false by
      rw [beq_eq_false_iff_ne]; show (k.toNat : Int) ≠ 1; omega, sel_f]
    apply p
    by_cases h2 : k.toNat = 2
    · rw [h2]; rfl
    · rw [decide_eq_false (by omega), beq_eq_false_iff_ne]
      show (k.toNat : Int) ≠ 2
      omega
end
end Rs
end
section
/-! The program's reading. Plain. -/
namespace Rs
open Go Lk
theorem yJ_ok (l : List JItem) (a : Int) (r : List UInt8) (h : l.length ≤ 1073741823) : RrG.yJ (some l) a r = some (true, some (l ++ [(a, r)]), r, ()) := by
  unfold RrG.yJ
  simp only
  rw [show Nat.ble l.length 1073741823 = true from Nat.ble_eq_true_of_le h]
  rfl
theorem or_i64 {a b : Nat} (ha : a < 65536) (hb : b < 65536) : ibits .or .i64 (a : Int) (b : Int) = ((a ||| b : Nat) : Int) := by
  have h : a ||| b < 2 ^ 16 := Nat.or_lt_two_pow ha hb
  show IntKind.i64.wrap (((BitVec.ofInt 64 (a : Int) ||| BitVec.ofInt 64 (b : Int)).toNat : Nat) : Int) = _
  rw [BitVec.toNat_or, ofInt_nat, ofInt_nat, BitVec.toNat_ofNat, BitVec.toNat_ofNat, Nat.mod_eq_of_lt (by omega), Nat.mod_eq_of_lt (by omega), wrap64 (by omega) (by omega)]
theorem part_cons (b : List UInt8) (i n : Nat) (h : i < b.length) : part b i (n + 1) = b.getD i 0 :: part b (i + 1) n := by
  unfold part
  rw [List.drop_eq_getElem_cons h, List.take_succ_cons]
  congr 1
  rw [List.getD_eq_getElem?_getD, List.getElem?_eq_getElem h]; rfl
section
variable (X : Rj.FnsJ)
theorem p5 (B : Nat) (file data : List UInt8) (op : Bool) (l : Option (List JItem)) (v42 z : List UInt8) (at_ n0 n1 n2 : Nat) (hz : at_ + z.length ≤ 1099511627776) : ∀ (m j i : Nat), i + m = z.length → m + 1 ≤ j →
    (zeros (z.drop i) = true → X.p14_5 j n0 n1 n2 (Rd B file (at_ + i) data op) l v42 z (z.length : Int) (i : Int) = X.p14_1 n1 n0 (Rd B file (at_ + z.length) data op) l) ∧
    (zeros (z.drop i) = false → ∃ rd, X.p14_5 j n0 n1 n2 (Rd B file (at_ + i) data op) l v42 z (z.length : Int) (i : Int) = some (2, rd, l, ())) := by
  intro m
  induction m with
  | zero =>
    intro j i hi hj
    obtain ⟨j, rfl⟩ : ∃ k, j = k + 1 := ⟨j - 1, by omega⟩
    obtain rfl : i = z.length := by omega
    rw [c5, sel_dec, if_neg (by omega), List.drop_length]
    exact ⟨fun _ => rfl, fun h => (by cases h)⟩
  | succ m ih =>
    intro j i hi hj
    obtain ⟨j, rfl⟩ : ∃ k, j = k + 1 := ⟨j - 1, by omega⟩
    have hd : z.drop i = z[i]'(by omega) :: z.drop (i + 1) := List.drop_eq_getElem_cons (by omega)
    obtain ⟨g1, g2, g3⟩ := drop_cons hd
    rw [c5, sel_dec, if_pos (by omega), sel_dec, if_pos (by omega), sel_dec, if_pos (by omega), Int.toNat_natCast, b_ne, wrap64 (by omega) (by omega), wrap64 (by omega) (by omega), show (i : Int) + 1 = ((i + 1 : Nat) : Int) by omega, show ((at_ + i : Nat) : Int) + 1 = ((at_ + (i + 1) : Nat) : Int) by omega, hd, g1]
    unfold zeros
    rw [List.all_cons]
    have := ih j (i + 1) (by omega) (by omega)
    cases h : (z[i]'(by omega) == 0) with
    | true =>
      have h2 : (z[i]'(by omega) != 0) = false := by rw [bne, h]; rfl
      rw [h2, sel_f, Bool.true_and]
      exact this
    | false =>
      have h2 : (z[i]'(by omega) != 0) = true := by rw [bne, h]; rfl
      rw [h2, sel_t, Bool.false_and]
      exact ⟨fun h => (by cases h), fun _ => ⟨_, rfl⟩⟩
theorem round_prog (j n0 B at_ : Nat) (file data : List UInt8) (op : Bool) (l : List JItem) (hB : 32 ≤ B ∧ B ≤ 32768) (hj : file.length + 100 ≤ j) (hfl : file.length ≤ 1048576) (hd : data.length ≤ 2097152) (hop : op = false → data = []) (hl : l.length ≤ 1048576) :
    (∀ how, rnd B file at_ data op = .ends how → ∃ rd, X.p14_1 (j + 1) n0 (Rd B file at_ data op) (some l) = some (how, rd, some l, ())) ∧
    (∀ at1 data1 op1 r, rnd B file at_ data op = .goes at1 data1 op1 r → X.p14_1 (j + 1) n0 (Rd B file at_ data op) (some l) = X.p14_1 j n0 (Rd B file at1 (if op1 then data1 else []) op1) (some (List.append (α := JItem) l (r.toList.map fun x => ((at1 : Int), x))))) := by
  obtain ⟨hB1, hB2⟩ := hB
  have hmod : at_ % B < B := Nat.mod_lt _ (by omega)
  rw [c1, sel_dec]
  by_cases h1 : file.length ≤ at_
  · rw [if_neg (by omega), show rnd B file at_ data op = .ends (if op then 1 else 0) from by unfold rnd; rw [if_pos h1]]
    refine ⟨fun how h => ?_, fun _ _ _ _ h => (by cases h)⟩
    cases h
    cases op <;> exact ⟨_, rfl⟩
  rw [if_pos (by omega), show ((B : Int) != (0 : Int)) = true from bne_iff_ne.2 (by omega), sel_t, tmod_nat, wrap64 (by omega) (by omega), show (B : Int) - ((at_ % B : Nat) : Int) = ((B - at_ % B : Nat) : Int) by omega]
  generalize hleft : B - at_ % B = left
  have hlf : 1 ≤ left ∧ left ≤ 32768 := by omega
  obtain ⟨j, rfl⟩ : ∃ k, j = k + 10 := ⟨j - 10, by omega⟩
  have hleft2 : IntKind.i64.wrap ((B : Int) - Int.tmod (at_ : Int) (B : Int)) = (left : Int) := by
    rw [tmod_nat, wrap64 (by omega) (by omega)]; omega
  rw [c3, sel_dec]
  by_cases h2 : left < 7
  · rw [if_pos (by omega), wrap64 (x := (at_ : Int) + (left : Int)) (by omega) (by omega), show (at_ : Int) + (left : Int) = ((at_ + left : Nat) : Int) by omega, imin_nat, sel_dec, if_pos (by omega), sel_dec, if_pos (by omega), sel_dec, if_pos (by omega), sel_dec, if_pos (by omega), ext_part]
    have hpe : part file at_ (min (at_ + left) file.length - at_) = part file at_ left := by
      unfold part
      rcases Nat.lt_or_ge (at_ + left) file.length with h | h
      · rw [Nat.min_eq_left (by omega)]; congr 1; omega
      · rw [List.take_of_length_le (by rw [List.length_drop]; omega), List.take_of_length_le (by rw [List.length_drop]; omega)]
    have hpl : at_ + (part file at_ left).length = min (at_ + left) file.length := by unfold part; rw [List.length_take, List.length_drop]; omega
    have hr : rnd B file at_ data op = if zeros (part file at_ left) then .goes (min (at_ + left) file.length) data op none else .ends 2 := by
      unfold rnd; rw [if_neg h1, hleft, if_pos h2]
    rw [hpe, hr]
    have := p5 X B file data op (some l) file (part file at_ left) at_ n0 (j + 10) (j + 9) (by omega) (part file at_ left).length (j + 9) 0 (by omega) (by omega)
    rw [List.drop_zero, hpl] at this
    obtain ⟨t1, t2⟩ := this
    cases hz : zeros (part file at_ left) with
    | true =>
      refine ⟨fun how h => (by cases h), fun at1 data1 op1 r h => ?_⟩
      cases h
      refine (t1 hz).trans ?_
      have hdd : (if op = true then data else []) = data := by
        cases op with
        | true => rfl
        | false => rw [hop rfl]; rfl
      rw [hdd]
      show _ = X.p14_1 _ _ _ (some (l ++ []))
      rw [List.append_nil]
    | false =>
      refine ⟨fun how h => ?_, fun _ _ _ _ h => (by cases h)⟩
      cases h
      exact t2 hz
  rw [if_neg (by omega), sel_dec, if_pos (by omega), sel_dec, if_pos (by omega)]
  have hel : (ext file (at_ : Int) (file.length : Int)).length = file.length - at_ := by rw [ext_part, part_len _ _ _ (by omega)]
  rw [hel, sel_dec]
  by_cases h3 : file.length - at_ < 7
  · rw [if_pos (by omega), show rnd B file at_ data op = .ends 1 from by unfold rnd; rw [if_neg h1, hleft, if_neg h2, if_pos h3]]
    refine ⟨fun how h => ?_, fun _ _ _ _ h => (by cases h)⟩
    cases h
    exact ⟨_, rfl⟩
  rw [if_neg (by omega), sel_dec, if_pos (by omega), sel_dec, if_pos (by omega), sel_dec, if_pos (by omega), sel_dec, if_pos (by omega), sel_dec, if_pos (by omega), sel_dec, if_pos (by omega), sel_dec, if_pos (by omega)]
  have h4 := bt_lt file (at_ + 4)
  have h5 := bt_lt file (at_ + 5)
  have h6 := bt_lt file (at_ + 6)
  have hE : ∀ k, k < 7 → (ext file (at_ : Int) (file.length : Int)).getD k 0 = file.getD (at_ + k) 0 := fun k hk => by
    rw [ext_part, part_get _ _ _ _ (by omega)]
  rw [show Int.toNat 6 = 6 from rfl, show Int.toNat 4 = 4 from rfl, show Int.toNat 5 = 5 from rfl, hE 6 (by omega), hE 5 (by omega), hE 4 (by omega)]
  have e45 : ibits .or .i64 (IntKind.i64.wrap (↑(UInt8.toNat (file.getD (at_ + 4) 0)) : Int)) (IntKind.i64.wrap (IntKind.i64.wrap (↑(UInt8.toNat (file.getD (at_ + 5) 0)) : Int) * 2 ^ min (Int.toNat 8) IntKind.i64.bits)) = ((bt file (at_ + 4) + 256 * bt file (at_ + 5) : Nat) : Int) := by
    show ibits .or .i64 (IntKind.i64.wrap (bt file (at_ + 4) : Int)) (IntKind.i64.wrap (IntKind.i64.wrap (bt file (at_ + 5) : Int) * 256)) = _
    rw [wrap64 (x := (bt file (at_ + 4) : Int)) (by omega) (by omega), wrap64 (x := (bt file (at_ + 5) : Int)) (by omega) (by omega), wrap64 (x := (bt file (at_ + 5) : Int) * 256) (by omega) (by omega), show (bt file (at_ + 5) : Int) * 256 = ((bt file (at_ + 5) * 2 ^ 8 : Nat) : Int) by rw [Int.natCast_mul]; rfl, or_i64 (by omega) (by omega), or_shl (by omega)]
    congr 1; omega
  rw [e45, hleft2, show ((B : Int) != (0 : Int)) = true from bne_iff_ne.2 (by omega), sel_t]
  generalize hP : (fun v : Option (Int × Option (Int × (List UInt8 × (Int × (List UInt8 × (Bool × Unit))))) × Option (List JItem) × Unit) => (∀ how, rnd B file at_ data op = .ends how → ∃ rd, v = some (how, rd, some l, ())) ∧
    (∀ at1 data1 op1 r, rnd B file at_ data op = .goes at1 data1 op1 r → v = X.p14_1 (j + 10) n0 (Rd B file at1 (if op1 then data1 else []) op1) (some (List.append (α := JItem) l (r.toList.map fun x => ((at1 : Int), x)))))) = P
  suffices hs : P (sel (decide (((UInt8.toNat (file.getD (at_ + 6) 0) : Nat) : Int) < ((UInt8.toNat 1 : Nat) : Int)))
      (X.p14_2064 (j + 10) n0 (j + 10) (Rd B file at_ data op) (some l) (ext file (at_ : Int) (file.length : Int)) ((bt file (at_ + 4) + 256 * bt file (at_ + 5) : Nat) : Int) (file.getD (at_ + 6) 0) true)
      (sel (decide (((UInt8.toNat (file.getD (at_ + 6) 0) : Nat) : Int) > ((UInt8.toNat 4 : Nat) : Int)))
        (X.p14_2064 (j + 10) n0 (j + 10) (Rd B file at_ data op) (some l) (ext file (at_ : Int) (file.length : Int)) ((bt file (at_ + 4) + 256 * bt file (at_ + 5) : Nat) : Int) (file.getD (at_ + 6) 0) true)
        (X.p14_2064 (j + 10) n0 (j + 10) (Rd B file at_ data op) (some l) (ext file (at_ : Int) (file.length : Int)) ((bt file (at_ + 4) + 256 * bt file (at_ + 5) : Nat) : Int) (file.getD (at_ + 6) 0)
          (decide (((bt file (at_ + 4) + 256 * bt file (at_ + 5) : Nat) : Int) > IntKind.i64.wrap ((left : Int) - 7)))))) by
    rw [← hP] at hs; exact hs
  have ends : ∀ how v, rnd B file at_ data op = .ends how → (∃ rd, v = some (how, rd, some l, ())) → P v := by
    intro how v hr hv
    rw [← hP]
    refine ⟨fun how' h => ?_, fun _ _ _ _ h => ?_⟩
    · rw [hr] at h; cases h; exact hv
    · rw [hr] at h; cases h
  generalize hk : bt file (at_ + 6) = k at *
  generalize hn : bt file (at_ + 4) + 256 * bt file (at_ + 5) = n at *
  have hkk : UInt8.toNat (file.getD (at_ + 6) 0) = k := hk
  generalize hkb : file.getD (at_ + 6) 0 = kb at *
  have hnl : n ≤ 65535 := by omega
  have bad : ∀ c, rnd B file at_ data op = .ends 2 → c = true → P (X.p14_2064 (j + 10) n0 (j + 10) (Rd B file at_ data op) (some l) (ext file (at_ : Int) (file.length : Int)) (n : Int) kb c) := by
    intro c hr hc
    refine ends 2 _ hr ⟨Rd B file at_ data op, ?_⟩
    rw [X.p14_2064_eq, hc, sel_t]
  rw [show ((UInt8.toNat 1 : Nat) : Int) = 1 from rfl, show ((UInt8.toNat 4 : Nat) : Int) = 4 from rfl, hkk, sel_dec, wrap64 (x := (left : Int) - 7) (by omega) (by omega)]
  by_cases h7 : k < 1 ∨ 4 < k ∨ left - 7 < n
  · have hr : rnd B file at_ data op = .ends 2 := by
      unfold rnd; rw [if_neg h1, hleft, if_neg h2, if_neg h3, hk, hn, if_pos h7]
    by_cases h8 : k < 1
    · rw [if_pos (by omega)]; exact bad _ hr rfl
    rw [if_neg (by omega), sel_dec]
    by_cases h9 : 4 < k
    · rw [if_pos (by omega)]; exact bad _ hr rfl
    rw [if_neg (by omega)]
    exact bad _ hr (decide_eq_true (by omega))
  rw [if_neg (by omega), sel_dec, if_neg (by omega), show (decide ((n : Int) > (left : Int) - 7)) = false from decide_eq_false (by omega), X.p14_2064_eq, sel_f, c17, hel, wrap64 (x := 7 + (n : Int)) (by omega) (by omega), show 7 + (n : Int) = ((7 + n : Nat) : Int) by omega, sel_dec]
  by_cases h8 : file.length - at_ - 7 < n
  · rw [if_pos (by omega)]
    exact ends 1 _ (by unfold rnd; rw [if_neg h1, hleft, if_neg h2, if_neg h3, hk, hn, if_neg h7, if_pos h8]) ⟨_, rfl⟩
  have hE7 : ext (ext file (at_ : Int) (file.length : Int)) 7 ((7 + n : Nat) : Int) = part file (at_ + 7) n := by
    rw [ext_part, show (7 : Int) = ((7 : Nat) : Int) from rfl, ext_part]
    unfold part
    rw [show List.take (file.length - at_) (List.drop at_ file) = List.drop at_ file from List.take_of_length_le (by rw [List.length_drop]; omega), List.drop_drop]
    congr 1; omega
  have hdl := part_len file (at_ + 7) n (by omega)
  have hbody : part file (at_ + 6) (n + 1) = kb :: part file (at_ + 7) n := by
    rw [part_cons _ _ _ (by omega), hkb]
  rw [if_neg (by omega), sel_dec, if_pos (by omega), sel_dec, if_pos (by omega), sel_dec, if_pos (by omega), sel_dec, if_pos (by omega), hE7, f26 X (j + 9) B at_ file data op kb _ (by omega) (by omega) (by omega) (by omega), ob_some, hkk]
  have hr0 : rnd B file at_ data op = (if (le32 file at_ : Int) ≠ sumM (kb :: part file (at_ + 7) n) then .ends 2
      else if decide (k = 1 ∨ k = 2) = op then .ends 2
      else if 2097152 < ((if k = 1 ∨ k = 2 then [] else data) ++ part file (at_ + 7) n).length then .ends 2
      else .goes (at_ + 7 + n) ((if k = 1 ∨ k = 2 then [] else data) ++ part file (at_ + 7) n) (decide (k = 2 ∨ k = 3)) (if k = 2 ∨ k = 3 then none else some ((if k = 1 ∨ k = 2 then [] else data) ++ part file (at_ + 7) n))) := by
    unfold rnd; rw [if_neg h1, hleft, if_neg h2, if_neg h3, hk, hn, if_neg h7, if_neg h8, hbody]
  by_cases h9 : (le32 file at_ : Int) = sumM (kb :: part file (at_ + 7) n)
  case neg =>
    rw [if_pos h9] at hr0
    refine ends 2 _ hr0 ⟨Rd B file at_ data op, ?_⟩
    show sel (decide ((le32 file at_ : Int) ≠ sumM (kb :: part file (at_ + 7) n)) || (decide (k = 1 ∨ k = 2) == op) || decide (2097152 < data.length + (part file (at_ + 7) n).length)) _ _ = _
    rw [decide_eq_true h9]; rfl
  rw [if_neg (by simpa using h9)] at hr0
  show P (sel (decide ((le32 file at_ : Int) ≠ sumM (kb :: part file (at_ + 7) n)) || (decide (k = 1 ∨ k = 2) == op) || decide (2097152 < data.length + (part file (at_ + 7) n).length)) _ _)
  rw [show decide ((le32 file at_ : Int) ≠ sumM (kb :: part file (at_ + 7) n)) = false from decide_eq_false (by simpa using h9), Bool.false_or]
  by_cases h10 : decide (k = 1 ∨ k = 2) = op
  · rw [if_pos h10] at hr0
    refine ends 2 _ hr0 ⟨Rd B file at_ data op, ?_⟩
    rw [h10, show (op == op) = true by simp, Bool.true_or, sel_t]
  rw [if_neg h10] at hr0
  have hdd : (if k = 1 ∨ k = 2 then [] else data) = data := by
    by_cases hq : k = 1 ∨ k = 2
    · rw [if_pos hq, hop (by
        cases op with
        | false => rfl
        | true => exact absurd (decide_eq_true hq) h10)]
    · rw [if_neg hq]
  rw [hdd] at hr0
  rw [show (decide (k = 1 ∨ k = 2) == op) = false by simpa using h10, Bool.false_or]
  by_cases h11 : 2097152 < data.length + (part file (at_ + 7) n).length
  · rw [if_pos (by rw [List.length_append]; exact h11)] at hr0
    refine ends 2 _ hr0 ⟨Rd B file at_ data op, ?_⟩
    rw [decide_eq_true h11, sel_t]
  rw [if_neg (by rw [List.length_append]; exact h11)] at hr0
  rw [decide_eq_false h11, sel_f, sel_dec, if_pos (by omega), wrap64 (x := (at_ : Int) + ((7 + n : Nat) : Int)) (by omega) (by omega), show (at_ : Int) + ((7 + n : Nat) : Int) = ((at_ + 7 + n : Nat) : Int) by omega]
  have h25 : ∀ o1, o1 = decide (k = 2 ∨ k = 3) → P (X.p14_25 (j + 9) n0 (j + 10) (j + 9) (Rd B file (at_ + 7 + n) (data ++ part file (at_ + 7) n) o1) (some l)) := by
    intro o1 ho1
    rw [← hP]
    refine ⟨fun how h => (by rw [hr0] at h; cases h), fun at1 data1 op1 r h => ?_⟩
    rw [hr0] at h
    cases h
    rw [c25, ← ho1]
    cases o1 with
    | true =>
      rw [Bool.not_true, sel_f, if_pos (of_decide_eq_true ho1.symm)]
      show _ = X.p14_1 _ _ _ (some (l ++ []))
      rw [List.append_nil]; rfl
    | false =>
      rw [Bool.not_false, sel_t, yJ_ok _ _ _ (by omega), ob_some, if_neg (of_decide_eq_false ho1.symm)]
      rfl
  have hkz : ∀ m : Nat, m < 10 → (((k : Nat) : Int) == ((m : Nat) : Int)) = decide (k = m) := fun m _ => by
    by_cases h : k = m
    · rw [h, decide_eq_true rfl]; simp
    · rw [decide_eq_false h, beq_eq_false_iff_ne]; omega
  rw [show ((UInt8.toNat 2 : Nat) : Int) = ((2 : Nat) : Int) from rfl, show ((UInt8.toNat 3 : Nat) : Int) = ((3 : Nat) : Int) from rfl, hkz 2 (by omega), hkz 3 (by omega)]
  by_cases hq : k = 2
  · rw [decide_eq_true hq, sel_t]
    exact h25 true (decide_eq_true (.inl hq)).symm
  · rw [decide_eq_false hq, sel_f]
    exact h25 _ (decide_eq_decide.2 (by omega))
end
end Rs
end
section
namespace Rb
open Go Lk RrG
set_option linter.unusedVariables false
structure FnsB where
  f51 (n : Nat) (a0 : Int) : Option (Int × Unit)
  p51_2 (j : Nat) (n0 : Nat) (v0 : Int) (v3 : Int) : Option (Int × Unit)
  f47 (n : Nat) (a0 : List (UInt8)) (a1 : Int) : Option (Int × Int × Int × Unit)
  p47_2050 (j : Nat) (n0 : Nat) (v0 : List (UInt8)) (v1 : Int) (v4 : Int) (v16 : Bool) : Option (Int × Int × Int × Unit)
  p47_3 (j : Nat) (n0 : Nat) (v0 : List (UInt8)) (v1 : Int) (v4 : Int) : Option (Int × Int × Int × Unit)
  p47_4 (j : Nat) (n0 : Nat) (n1 : Nat) (v1 : Int) (v4 : Int) (v17 : List (UInt8)) (v19 : List (UInt8)) (v20 : Int) (v21 : Int) : Option (Int × Int × Int × Unit)
  p47_2055 (j : Nat) (n0 : Nat) (n1 : Nat) (n2 : Nat) (v1 : Int) (v4 : Int) (v7 : Int) (v8 : UInt8) (v17 : List (UInt8)) (v19 : List (UInt8)) (v20 : Int) (v21 : Int) (v26 : Bool) : Option (Int × Int × Int × Unit)
  p47_2056 (j : Nat) (n0 : Nat) (n1 : Nat) (n2 : Nat) (v1 : Int) (v4 : Int) (v7 : Int) (v8 : UInt8) (v17 : List (UInt8)) (v19 : List (UInt8)) (v20 : Int) (v21 : Int) (v26 : Bool) : Option (Int × Int × Int × Unit)
  p47_11 (j : Nat) (n0 : Nat) (n1 : Nat) (n2 : Nat) (v1 : Int) (v4 : Int) (v7 : Int) (v8 : UInt8) (v17 : List (UInt8)) (v19 : List (UInt8)) (v20 : Int) (v21 : Int) : Option (Int × Int × Int × Unit)
  p47_12 (j : Nat) (n0 : Nat) (n1 : Nat) (n2 : Nat) (v1 : Int) (v4 : Int) (v17 : List (UInt8)) (v19 : List (UInt8)) (v20 : Int) (v21 : Int) : Option (Int × Int × Int × Unit)
  f39 (n : Nat) (a0 : List (UInt8)) (a1 : Int) : Option (List UInt8 × Int × Int × Unit)
  f38 (n : Nat) (a0 : List (UInt8)) (a1 : Int) (a2 : Int) : Option (Int × Int × Int × Unit)
  p38_2050 (j : Nat) (n0 : Nat) (v0 : List (UInt8)) (v1 : Int) (v2 : Int) (v6 : Int) (v10 : Bool) : Option (Int × Int × Int × Unit)
  p38_5 (j : Nat) (n0 : Nat) (v0 : List (UInt8)) (v1 : Int) (v2 : Int) (v6 : Int) : Option (Int × Int × Int × Unit)
  p38_6 (j : Nat) (n0 : Nat) (n1 : Nat) (v0 : List (UInt8)) (v1 : Int) (v2 : Int) (v6 : Int) (v26 : Int) (v27 : Int) : Option (Int × Int × Int × Unit)
  f27 (n : Nat) (a0 : List (UInt8)) (a1 : Int) : Option (Int × Int × Int × Unit)
  f28 (n : Nat) (a0 : List (UInt8)) (a1 : Int) : Option (Int × Int × Int × Unit)
  f15 (n : Nat) (a0 : List (UInt8)) : Option (Int × Int × Int × Unit)
  f18 (n : Nat) (a0 : Int) (a1 : Int) : Option (Bool × Unit)
  f48 (n : Nat) (a0 : List UInt8) : Option (Int × Unit)
  f33 (n : Nat) (a0 : (Int × (List UInt8 × (List UInt8 × Unit)))) : Option (Bool × Unit)
  p33_2050 (j : Nat) (n0 : Nat) (v1 : Option ((Int × (List UInt8 × (List UInt8 × Unit))))) (v12 : Bool) : Option (Bool × Unit)
  p33_3 (j : Nat) (n0 : Nat) (v1 : Option ((Int × (List UInt8 × (List UInt8 × Unit))))) : Option (Bool × Unit)
  f32 (n : Nat) (a0 : (Int × (List UInt8 × (List UInt8 × Unit)))) : Option (Bool × Unit)
  f31 (n : Nat) (a0 : List ((Int × (List UInt8 × (List UInt8 × Unit))))) (a1 : Unit) : Option (Int × Unit)
  p31_2 (j : Nat) (n0 : Nat) (v0 : List ((Int × (List UInt8 × (List UInt8 × Unit))))) (v1 : Unit) (v7 : Int) (v8 : Int) : Option (Int × Unit)
  f40 (n : Nat) (a0 : (Int × (List UInt8 × (List UInt8 × Unit)))) : Option (Int × Unit)
  p40_4 (j : Nat) (n0 : Nat) (v3 : Int) : Option (Int × Unit)
  f34 (n : Nat) (a0 : List ((Int × (List UInt8 × (List UInt8 × Unit))))) : Option (Int × Unit)
  p34_3 (j : Nat) (n0 : Nat) (v3 : Int) (v6 : List ((Int × (List UInt8 × (List UInt8 × Unit))))) (v7 : Int) (v8 : Int) : Option (Int × Unit)
  f17 (n : Nat) (a0 : List ((Int × (List UInt8 × (List UInt8 × Unit))))) : Option (Int × Int × Unit)
  f30 (n : Nat) (a0 : List (UInt8)) (a1 : Int) : Option ((Int × (List UInt8 × (List UInt8 × Unit))) × Int × Bool × Unit)
  p30_10 (j : Nat) (n0 : Nat) (v4 : Option ((Int × (List UInt8 × (List UInt8 × Unit))))) (v7 : Option ((Int × (List UInt8 × (List UInt8 × Unit))))) (v9 : Int) (v10 : Int) : Option ((Int × (List UInt8 × (List UInt8 × Unit))) × Int × Bool × Unit)
  f29 (n : Nat) (a0 : Option (List Lk.BItem)) (a1 : Option (List (UInt8))) : Option (Option (List Lk.BItem) × Unit)
  p29_4 (j : Nat) (n0 : Nat) (v0 : Option (List Lk.BItem)) (v1 : Option (List (UInt8))) (v3 : Int) (v6 : Int) (v19 : Int) (v20 : Int) : Option (Option (List Lk.BItem) × Unit)
  p29_8 (j : Nat) (n0 : Nat) (n1 : Nat) (v0 : Option (List Lk.BItem)) (v1 : Option (List (UInt8))) (v3 : Int) (v9 : Int) (v19 : Int) (v20 : Int) : Option (Option (List Lk.BItem) × Unit)
  p29_9 (j : Nat) (n0 : Nat) (n1 : Nat) (v0 : Option (List Lk.BItem)) (v1 : Option (List (UInt8))) (v3 : Int) (v6 : Int) (v19 : Int) (v20 : Int) : Option (Option (List Lk.BItem) × Unit)
  f51_eq (n : Nat) (a0 : Int) : f51 (n + 1) a0 =
  (p51_2 (n) (n) (a0) ((1 : Int)))
  p51_2_eq (j : Nat) (n0 : Nat) (v0 : Int) (v3 : Int) : p51_2 (j + 1) n0 v0 v3 =
  (sel (Decidable.decide (v0 ≥ (128 : Int)))
   (sel (Decidable.decide ((0 : Int) ≤ (7 : Int)))
    (p51_2 (j) (n0) (v0.fdiv ((2 : Int) ^ Min.min (Int.toNat (7 : Int)) Go.IntKind.u64.bits)) (Go.IntKind.i64.wrap (v3 + (1 : Int))))
    none)
   (some (v3, ())))
  f47_eq (n : Nat) (a0 : List (UInt8)) (a1 : Int) : f47 (n + 1) a0 a1 =
  (sel (Decidable.decide (a1 < (0 : Int)))
   (p47_2050 (n) (n) (a0) (a1) ((0 : Int)) (Bool.true))
   (p47_2050 (n) (n) (a0) (a1) ((0 : Int)) (Decidable.decide (a1 > (↑a0.length : Int)))))
  p47_2050_eq (j : Nat) (n0 : Nat) (v0 : List (UInt8)) (v1 : Int) (v4 : Int) (v16 : Bool) : p47_2050 (j + 1) n0 v0 v1 v4 v16 =
  (sel (v16)
   (some ((0 : Int), (0 : Int), (2 : Int), ()))
   (p47_3 (n0) (n0) (v0) (v1) (v4)))
  p47_3_eq (j : Nat) (n0 : Nat) (v0 : List (UInt8)) (v1 : Int) (v4 : Int) : p47_3 (j + 1) n0 v0 v1 v4 =
  (sel (Decidable.decide ((0 : Int) ≤ v1))
   (sel (Decidable.decide (v1 ≤ (↑v0.length : Int)))
    (p47_4 (j) (n0) (j) (v1) (v4) (v0) (Lk.ext v0 v1 (↑v0.length : Int)) ((↑(Lk.ext v0 v1 (↑v0.length : Int)).length : Int)) ((0 : Int)))
    none)
   none)
  p47_4_eq (j : Nat) (n0 : Nat) (n1 : Nat) (v1 : Int) (v4 : Int) (v17 : List (UInt8)) (v19 : List (UInt8)) (v20 : Int) (v21 : Int) : p47_4 (j + 1) n0 n1 v1 v4 v17 v19 v20 v21 =
  (sel (Decidable.decide (v21 < v20))
   (sel (Decidable.decide ((0 : Int) ≤ v21))
    (sel (Decidable.decide (v21 < (↑v19.length : Int)))
     (sel (v21 == (9 : Int))
      (p47_2055 (j) (n0) (n1) (j) (v1) (v4) (v21) (v19.getD v21.toNat (0 : UInt8)) (v17) (v19) (v20) (v21) (Decidable.decide ((↑(UInt8.toNat (v19.getD v21.toNat (0 : UInt8))) : Int) > (↑(UInt8.toNat (1 : UInt8)) : Int))))
      (p47_2055 (j) (n0) (n1) (j) (v1) (v4) (v21) (v19.getD v21.toNat (0 : UInt8)) (v17) (v19) (v20) (v21) (Bool.false)))
     none)
    none)
   (some ((0 : Int), (0 : Int), (10 : Int), ())))
  p47_2055_eq (j : Nat) (n0 : Nat) (n1 : Nat) (n2 : Nat) (v1 : Int) (v4 : Int) (v7 : Int) (v8 : UInt8) (v17 : List (UInt8)) (v19 : List (UInt8)) (v20 : Int) (v21 : Int) (v26 : Bool) : p47_2055 (j + 1) n0 n1 n2 v1 v4 v7 v8 v17 v19 v20 v21 v26 =
  (sel (v26)
   (p47_2056 (n2) (n0) (n1) (n2) (v1) (v4) (v7) (v8) (v17) (v19) (v20) (v21) (v26))
   (sel ((↑v8.toNat : Int) == (↑(UInt8.toNat (0 : UInt8)) : Int))
    (p47_2056 (n2) (n0) (n1) (n2) (v1) (v4) (v7) (v8) (v17) (v19) (v20) (v21) (Decidable.decide (v7 > (0 : Int))))
    (p47_2056 (n2) (n0) (n1) (n2) (v1) (v4) (v7) (v8) (v17) (v19) (v20) (v21) (Bool.false))))
  p47_2056_eq (j : Nat) (n0 : Nat) (n1 : Nat) (n2 : Nat) (v1 : Int) (v4 : Int) (v7 : Int) (v8 : UInt8) (v17 : List (UInt8)) (v19 : List (UInt8)) (v20 : Int) (v21 : Int) (v26 : Bool) : p47_2056 (j + 1) n0 n1 n2 v1 v4 v7 v8 v17 v19 v20 v21 v26 =
  (sel (v26)
   (some ((0 : Int), (0 : Int), (11 : Int), ()))
   (sel (Decidable.decide ((↑v8.toNat : Int) < (↑(UInt8.toNat (128 : UInt8)) : Int)))
    (sel (Decidable.decide ((0 : Int) ≤ Go.IntKind.i64.wrap ((7 : Int) * v7)))
     (some (Lk.ibits Go.BinOp.or Go.IntKind.u64 v4 (Go.IntKind.u64.wrap (Go.IntKind.u64.wrap (↑v8.toNat : Int) * (2 : Int) ^ Min.min (Go.IntKind.i64.wrap ((7 : Int) * v7)).toNat Go.IntKind.u64.bits)), Go.IntKind.i64.wrap (Go.IntKind.i64.wrap (v1 + v7) + (1 : Int)), (0 : Int), ()))
     none)
    (p47_11 (n2) (n0) (n1) (n2) (v1) (v4) (v7) (v8) (v17) (v19) (v20) (v21))))
  p47_11_eq (j : Nat) (n0 : Nat) (n1 : Nat) (n2 : Nat) (v1 : Int) (v4 : Int) (v7 : Int) (v8 : UInt8) (v17 : List (UInt8)) (v19 : List (UInt8)) (v20 : Int) (v21 : Int) : p47_11 (j + 1) n0 n1 n2 v1 v4 v7 v8 v17 v19 v20 v21 =
  (sel (Decidable.decide ((0 : Int) ≤ Go.IntKind.i64.wrap ((7 : Int) * v7)))
   (p47_12 (n2) (n0) (n1) (n2) (v1) (Lk.ibits Go.BinOp.or Go.IntKind.u64 v4 (Go.IntKind.u64.wrap (Go.IntKind.u64.wrap (↑(UInt8.ofNat (Lk.ibits Go.BinOp.and Go.IntKind.u8 (↑v8.toNat : Int) (↑(UInt8.toNat (127 : UInt8)) : Int)).toNat).toNat : Int) * (2 : Int) ^ Min.min (Go.IntKind.i64.wrap ((7 : Int) * v7)).toNat Go.IntKind.u64.bits))) (v17) (v19) (v20) (v21))
   none)
  p47_12_eq (j : Nat) (n0 : Nat) (n1 : Nat) (n2 : Nat) (v1 : Int) (v4 : Int) (v17 : List (UInt8)) (v19 : List (UInt8)) (v20 : Int) (v21 : Int) : p47_12 (j + 1) n0 n1 n2 v1 v4 v17 v19 v20 v21 =
  (p47_4 (n2) (n0) (n1) (v1) (v4) (v17) (v19) (v20) (Go.IntKind.i64.wrap (v21 + (1 : Int))))
  f39_eq (n : Nat) (a0 : List (UInt8)) (a1 : Int) : f39 (n + 1) a0 a1 =
  (obind (f47 n (a0) (a1)) fun r67 =>
   (sel (r67.snd.snd.fst != (0 : Int))
    (some ([], (0 : Int), r67.snd.snd.fst, ()))
    (sel (Decidable.decide (r67.fst > Go.IntKind.u64.wrap (Go.IntKind.i64.wrap ((↑a0.length : Int) - r67.snd.fst))))
     (some ([], (0 : Int), (10 : Int), ()))
     (sel (Decidable.decide ((0 : Int) ≤ Go.IntKind.i64.wrap (r67.snd.fst + Go.IntKind.i64.wrap r67.fst)))
      (sel (Decidable.decide (Go.IntKind.i64.wrap (r67.snd.fst + Go.IntKind.i64.wrap r67.fst) ≤ (↑a0.length : Int)))
       (sel (Decidable.decide ((0 : Int) ≤ r67.snd.fst))
        (sel (Decidable.decide (r67.snd.fst ≤ Go.IntKind.i64.wrap (r67.snd.fst + Go.IntKind.i64.wrap r67.fst)))
         (some (Lk.ext a0 r67.snd.fst (Go.IntKind.i64.wrap (r67.snd.fst + Go.IntKind.i64.wrap r67.fst)), Go.IntKind.i64.wrap (r67.snd.fst + Go.IntKind.i64.wrap r67.fst), (0 : Int), ()))
         none)
        none)
       none)
      none))))
  f38_eq (n : Nat) (a0 : List (UInt8)) (a1 : Int) (a2 : Int) : f38 (n + 1) a0 a1 a2 =
  (sel (Decidable.decide (a1 < (0 : Int)))
   (p38_2050 (n) (n) (a0) (a1) (a2) ((0 : Int)) (Bool.true))
   (p38_2050 (n) (n) (a0) (a1) (a2) ((0 : Int)) (Decidable.decide (a1 > (↑a0.length : Int)))))
  p38_2050_eq (j : Nat) (n0 : Nat) (v0 : List (UInt8)) (v1 : Int) (v2 : Int) (v6 : Int) (v10 : Bool) : p38_2050 (j + 1) n0 v0 v1 v2 v6 v10 =
  (sel (v10)
   (some ((0 : Int), (0 : Int), (2 : Int), ()))
   (sel (Decidable.decide (Go.IntKind.i64.wrap ((↑v0.length : Int) - v1) < v2))
    (some ((0 : Int), (0 : Int), (10 : Int), ()))
    (p38_5 (n0) (n0) (v0) (v1) (v2) (v6))))
  p38_5_eq (j : Nat) (n0 : Nat) (v0 : List (UInt8)) (v1 : Int) (v2 : Int) (v6 : Int) : p38_5 (j + 1) n0 v0 v1 v2 v6 =
  (p38_6 (j) (n0) (j) (v0) (v1) (v2) (v6) (v2) ((0 : Int)))
  p38_6_eq (j : Nat) (n0 : Nat) (n1 : Nat) (v0 : List (UInt8)) (v1 : Int) (v2 : Int) (v6 : Int) (v26 : Int) (v27 : Int) : p38_6 (j + 1) n0 n1 v0 v1 v2 v6 v26 v27 =
  (sel (Decidable.decide (v27 < v26))
   (sel (Decidable.decide ((0 : Int) ≤ Go.IntKind.i64.wrap (v1 + v27)))
    (sel (Decidable.decide (Go.IntKind.i64.wrap (v1 + v27) < (↑v0.length : Int)))
     (sel (Decidable.decide ((0 : Int) ≤ Go.IntKind.i64.wrap ((8 : Int) * v27)))
      (p38_6 (j) (n0) (n1) (v0) (v1) (v2) (Lk.ibits Go.BinOp.or Go.IntKind.u64 v6 (Go.IntKind.u64.wrap (Go.IntKind.u64.wrap (↑(UInt8.toNat (v0.getD (Go.IntKind.i64.wrap (v1 + v27)).toNat (0 : UInt8))) : Int) * (2 : Int) ^ Min.min (Go.IntKind.i64.wrap ((8 : Int) * v27)).toNat Go.IntKind.u64.bits))) (v26) (Go.IntKind.i64.wrap (v27 + (1 : Int))))
      none)
     none)
    none)
   (some (v6, Go.IntKind.i64.wrap (v1 + v2), (0 : Int), ())))
  f27_eq (n : Nat) (a0 : List (UInt8)) (a1 : Int) : f27 (n + 1) a0 a1 =
  (obind (f38 n (a0) (a1) ((8 : Int))) fun r67 =>
   (some (r67.fst, r67.snd.fst, r67.snd.snd.fst, ())))
  f28_eq (n : Nat) (a0 : List (UInt8)) (a1 : Int) : f28 (n + 1) a0 a1 =
  (obind (f38 n (a0) (a1) ((4 : Int))) fun r67 =>
   (some (Go.IntKind.u32.wrap r67.fst, r67.snd.fst, r67.snd.snd.fst, ())))
  f15_eq (n : Nat) (a0 : List (UInt8)) : f15 (n + 1) a0 =
  (sel (Decidable.decide ((↑a0.length : Int) < (12 : Int)))
   (some ((0 : Int), (0 : Int), (41 : Int), ()))
   (obind (f27 n (a0) ((0 : Int))) fun r146 =>
    (obind (f28 n (a0) ((8 : Int))) fun r209 =>
     (some (r146.fst, Go.IntKind.i64.wrap r209.fst, (0 : Int), ())))))
  f18_eq (n : Nat) (a0 : Int) (a1 : Int) : f18 (n + 1) a0 a1 =
  (sel (Decidable.decide (a0 ≤ (72057594037927935 : Int)))
   (sel (Decidable.decide (a1 < (1 : Int)))
    (some (Bool.true, ()))
    (some (Decidable.decide (Go.IntKind.u64.wrap (Go.IntKind.i64.wrap (a1 - (1 : Int))) ≤ Go.IntKind.u64.wrap ((72057594037927935 : Int) - a0)), ())))
   (some (Bool.false, ())))
  f48_eq (n : Nat) (a0 : List UInt8) : f48 (n + 1) a0 =
  (obind (f51 n (Go.IntKind.u64.wrap (↑a0.length : Int))) fun r60 =>
   (some (Go.IntKind.i64.wrap (r60.fst + (↑a0.length : Int)), ())))
  f33_eq (n : Nat) (a0 : (Int × (List UInt8 × (List UInt8 × Unit)))) : f33 (n + 1) a0 =
  (sel ((Option.some a0).isSome)
   (sel (Decidable.decide ((↑(List.length ((Option.some a0).getD ((0 : Int), [], [], ())).snd.fst) : Int) < (1 : Int)))
    (p33_2050 (n) (n) (Option.some a0) (Bool.true))
    (sel ((Option.some a0).isSome)
     (p33_2050 (n) (n) (Option.some a0) (Decidable.decide ((↑(List.length ((Option.some a0).getD ((0 : Int), [], [], ())).snd.fst) : Int) > (1024 : Int))))
     none))
   none)
  p33_2050_eq (j : Nat) (n0 : Nat) (v1 : Option ((Int × (List UInt8 × (List UInt8 × Unit))))) (v12 : Bool) : p33_2050 (j + 1) n0 v1 v12 =
  (sel (v12)
   (some (Bool.false, ()))
   (p33_3 (n0) (n0) (v1)))
  p33_3_eq (j : Nat) (n0 : Nat) (v1 : Option ((Int × (List UInt8 × (List UInt8 × Unit))))) : p33_3 (j + 1) n0 v1 =
  (sel (v1.isSome)
   (sel ((v1.getD ((0 : Int), [], [], ())).fst == (0 : Int))
    (sel (v1.isSome)
     (some ((v1.getD ((0 : Int), [], [], ())).snd.snd.fst == [], ()))
     none)
    (sel ((v1.getD ((0 : Int), [], [], ())).fst == (1 : Int))
     (sel (v1.isSome)
      (some (Decidable.decide ((↑(List.length (v1.getD ((0 : Int), [], [], ())).snd.snd.fst) : Int) ≤ (65536 : Int)), ()))
      none)
     (sel ((v1.getD ((0 : Int), [], [], ())).fst == (2 : Int))
      (sel (v1.isSome)
       (sel (Decidable.decide ((↑(List.length (v1.getD ((0 : Int), [], [], ())).snd.snd.fst) : Int) ≤ (1024 : Int)))
        (sel (v1.isSome)
         (sel (v1.isSome)
          (some (Go.Op.bytesLess (v1.getD ((0 : Int), [], [], ())).snd.fst (v1.getD ((0 : Int), [], [], ())).snd.snd.fst, ()))
          none)
         none)
        (some (Bool.false, ())))
       none)
      (some (Bool.false, ())))))
   none)
  f32_eq (n : Nat) (a0 : (Int × (List UInt8 × (List UInt8 × Unit)))) : f32 (n + 1) a0 =
  (sel ((Option.some a0).isSome)
   (obind (f33 n ((Option.some a0).getD ((0 : Int), [], [], ()))) fun r53 =>
    (some (!r53.fst, ())))
   none)
  f31_eq (n : Nat) (a0 : List ((Int × (List UInt8 × (List UInt8 × Unit))))) (a1 : Unit) : f31 (n + 1) a0 a1 =
  (p31_2 (n) (n) (a0) (a1) ((↑a0.length : Int)) ((0 : Int)))
  p31_2_eq (j : Nat) (n0 : Nat) (v0 : List ((Int × (List UInt8 × (List UInt8 × Unit))))) (v1 : Unit) (v7 : Int) (v8 : Int) : p31_2 (j + 1) n0 v0 v1 v7 v8 =
  (sel (Decidable.decide (v8 < v7))
   (sel (Decidable.decide ((0 : Int) ≤ v8))
    (sel (Decidable.decide (v8 < (↑v0.length : Int)))
     (obind (f32 j (v0.getD v8.toNat ((0 : Int), [], [], ()))) fun r168 =>
      (sel (r168.fst)
       (some (v8, ()))
       (p31_2 (j) (n0) (v0) (v1) (v7) (Go.IntKind.i64.wrap (v8 + (1 : Int))))))
     none)
    none)
   (some ((-1 : Int), ())))
  f40_eq (n : Nat) (a0 : (Int × (List UInt8 × (List UInt8 × Unit)))) : f40 (n + 1) a0 =
  (sel ((Option.some a0).isSome)
   (obind (f48 n (((Option.some a0).getD ((0 : Int), [], [], ())).snd.fst)) fun r60 =>
    (sel ((Option.some a0).isSome)
     (sel (((Option.some a0).getD ((0 : Int), [], [], ())).fst != (0 : Int))
      (sel ((Option.some a0).isSome)
       (obind (f48 n (((Option.some a0).getD ((0 : Int), [], [], ())).snd.snd.fst)) fun r152 =>
        (p40_4 (n) (n) (Go.IntKind.i64.wrap (Go.IntKind.i64.wrap ((1 : Int) + r60.fst) + r152.fst))))
       none)
      (p40_4 (n) (n) (Go.IntKind.i64.wrap ((1 : Int) + r60.fst))))
     none))
   none)
  p40_4_eq (j : Nat) (n0 : Nat) (v3 : Int) : p40_4 (j + 1) n0 v3 =
  (some (v3, ()))
  f34_eq (n : Nat) (a0 : List ((Int × (List UInt8 × (List UInt8 × Unit))))) : f34 (n + 1) a0 =
  (p34_3 (n) (n) ((12 : Int)) (a0) ((↑a0.length : Int)) ((0 : Int)))
  p34_3_eq (j : Nat) (n0 : Nat) (v3 : Int) (v6 : List ((Int × (List UInt8 × (List UInt8 × Unit))))) (v7 : Int) (v8 : Int) : p34_3 (j + 1) n0 v3 v6 v7 v8 =
  (sel (Decidable.decide (v8 < v7))
   (sel (Decidable.decide ((0 : Int) ≤ v8))
    (sel (Decidable.decide (v8 < (↑v6.length : Int)))
     (sel (Bool.true)
      (sel (Bool.true)
       (obind (f40 j ((Option.some (v6.getD v8.toNat ((0 : Int), [], [], ()))).getD ((0 : Int), [], [], ()))) fun r177 =>
        (p34_3 (j) (n0) (Go.IntKind.i64.wrap (v3 + r177.fst)) (v6) (v7) (Go.IntKind.i64.wrap (v8 + (1 : Int)))))
       none)
      none)
     none)
    none)
   (some (v3, ())))
  f17_eq (n : Nat) (a0 : List ((Int × (List UInt8 × (List UInt8 × Unit))))) : f17 (n + 1) a0 =
  (sel (Decidable.decide ((↑a0.length : Int) > (4096 : Int)))
   (some ((0 : Int), (3 : Int), ()))
   (obind (f31 n (a0) (())) fun r133 =>
    (sel (Decidable.decide (r133.fst ≥ (0 : Int)))
     (some (r133.fst, (40 : Int), ()))
     (obind (f34 n (a0)) fun r247 =>
      (sel (Decidable.decide (r247.fst > (1048576 : Int)))
       (some ((0 : Int), (3 : Int), ()))
       (some ((0 : Int), (0 : Int), ())))))))
  f30_eq (n : Nat) (a0 : List (UInt8)) (a1 : Int) : f30 (n + 1) a0 a1 =
  (sel (Decidable.decide (a1 ≥ (↑a0.length : Int)))
   (sel (Bool.true)
    (sel (Bool.true)
     (some ((Option.some ((0 : Int), [], [], ())).getD ((0 : Int), [], [], ()), (0 : Int), Bool.false, ()))
     none)
    none)
   (sel (Decidable.decide ((0 : Int) ≤ a1))
    (sel (Decidable.decide (a1 < (↑a0.length : Int)))
     (sel (Bool.true)
      (obind (f39 n (a0) (Go.IntKind.i64.wrap (a1 + (1 : Int)))) fun r244 =>
       (sel (r244.snd.snd.fst != (0 : Int))
        (sel (Bool.true)
         (sel (Bool.true)
          (some ((Option.some ((0 : Int), [], [], ())).getD ((0 : Int), [], [], ()), (0 : Int), Bool.false, ()))
          none)
         none)
        (sel (Bool.true)
         (sel (Bool.true)
          (sel (Go.IntKind.i64.wrap (↑(UInt8.toNat (a0.getD a1.toNat (0 : UInt8))) : Int) != (0 : Int))
           (obind (f39 n (a0) (r244.snd.fst)) fun r485 =>
            (sel (Bool.true)
             (p30_10 (n) (n) (Option.some ((0 : Int), [], [], ())) (Option.some (Go.IntKind.i64.wrap (↑(UInt8.toNat (a0.getD a1.toNat (0 : UInt8))) : Int), r244.fst, r485.fst, ())) (r485.snd.fst) (r485.snd.snd.fst))
             none))
           (p30_10 (n) (n) (Option.some ((0 : Int), [], [], ())) (Option.some (Go.IntKind.i64.wrap (↑(UInt8.toNat (a0.getD a1.toNat (0 : UInt8))) : Int), r244.fst, [], ())) (r244.snd.fst) (r244.snd.snd.fst)))
          none)
         none)))
      none)
     none)
    none))
  p30_10_eq (j : Nat) (n0 : Nat) (v4 : Option ((Int × (List UInt8 × (List UInt8 × Unit))))) (v7 : Option ((Int × (List UInt8 × (List UInt8 × Unit))))) (v9 : Int) (v10 : Int) : p30_10 (j + 1) n0 v4 v7 v9 v10 =
  (sel (v7.isSome)
   (sel (v10 == (0 : Int))
    (sel (v7.isSome)
     (obind (f33 j (v7.getD ((0 : Int), [], [], ()))) fun r632 =>
      (sel (v4.isSome)
       (sel (Bool.true)
        (some ((Option.some (v7.getD ((0 : Int), [], [], ()))).getD ((0 : Int), [], [], ()), v9, r632.fst, ()))
        none)
       none))
     none)
    (sel (v4.isSome)
     (sel (Bool.true)
      (some ((Option.some (v7.getD ((0 : Int), [], [], ()))).getD ((0 : Int), [], [], ()), v9, Bool.false, ()))
      none)
     none))
   none)
  f29_eq (n : Nat) (a0 : Option (List Lk.BItem)) (a1 : Option (List (UInt8))) : f29 (n + 1) a0 a1 =
  (sel (a1.isSome)
   (obind (f15 n (a1.getD [])) fun r28 =>
    (sel (r28.snd.snd.fst != (0 : Int))
     (some (a0, ()))
     (p29_4 (n) (n) (a0) (a1) (r28.fst) ((12 : Int)) (r28.snd.fst) ((0 : Int)))))
   none)
  p29_4_eq (j : Nat) (n0 : Nat) (v0 : Option (List Lk.BItem)) (v1 : Option (List (UInt8))) (v3 : Int) (v6 : Int) (v19 : Int) (v20 : Int) : p29_4 (j + 1) n0 v0 v1 v3 v6 v19 v20 =
  (sel (Decidable.decide (v20 < v19))
   (sel (v1.isSome)
    (obind (f30 j (v1.getD []) (v6)) fun r265 =>
     (sel (Bool.true)
      (sel (!r265.snd.snd.fst)
       (some (v0, ()))
       (sel ((Option.some r265.fst).isSome)
        (obind (yB (v0) ((Go.IntKind.u64.wrap (v3 + Go.IntKind.u64.wrap v20), (Option.some r265.fst).getD ((0 : Int), [], [], ()), r265.snd.fst, ()))) fun r629 =>
         (sel (!r629.fst)
          (some (r629.snd.fst, ()))
          (p29_8 (j) (n0) (j) (r629.snd.fst) (v1) (v3) (r265.snd.fst) (v19) (v20))))
        none))
      none))
    none)
   (some (v0, ())))
  p29_8_eq (j : Nat) (n0 : Nat) (n1 : Nat) (v0 : Option (List Lk.BItem)) (v1 : Option (List (UInt8))) (v3 : Int) (v9 : Int) (v19 : Int) (v20 : Int) : p29_8 (j + 1) n0 n1 v0 v1 v3 v9 v19 v20 =
  (p29_9 (n1) (n0) (n1) (v0) (v1) (v3) (v9) (v19) (v20))
  p29_9_eq (j : Nat) (n0 : Nat) (n1 : Nat) (v0 : Option (List Lk.BItem)) (v1 : Option (List (UInt8))) (v3 : Int) (v6 : Int) (v19 : Int) (v20 : Int) : p29_9 (j + 1) n0 n1 v0 v1 v3 v6 v19 v20 =
  (p29_4 (n1) (n0) (v0) (v1) (v3) (v6) (v19) (Go.IntKind.i64.wrap (v20 + (1 : Int))))
end Rb
end
section
namespace Rc
open Go Lk
set_option linter.unusedVariables false
structure FnsC where
  f24 (n : Nat) (a0 : List (UInt8)) (a1 : Int) (a2 : Int) : Option (Int × Unit)
  p24_3 (j : Nat) (n0 : Nat) (v0 : List (UInt8)) (v1 : Int) (v7 : Int) (v8 : Int) : Option (Int × Unit)
  f42 (n : Nat) (a0 : List (UInt8)) (a1 : Int) (a2 : Int) : Option (List UInt8 × Int × Unit)
  p42_2 (j : Nat) (n0 : Nat) (v0 : List (UInt8)) (v1 : Int) (v2 : Int) (v8 : Int) (v9 : Int) : Option (List UInt8 × Int × Unit)
  p42_2051 (j : Nat) (n0 : Nat) (n1 : Nat) (v0 : List (UInt8)) (v1 : Int) (v2 : Int) (v8 : Int) (v9 : Int) (v18 : Bool) : Option (List UInt8 × Int × Unit)
  p42_4 (j : Nat) (n0 : Nat) (n1 : Nat) (v0 : List (UInt8)) (v1 : Int) (v2 : Int) (v8 : Int) (v9 : Int) : Option (List UInt8 × Int × Unit)
  p42_2057 (j : Nat) (n0 : Nat) (n1 : Nat) (n2 : Nat) (v0 : List (UInt8)) (v1 : Int) (v2 : Int) (v8 : Int) (v39 : Bool) : Option (List UInt8 × Int × Unit)
  p42_11 (j : Nat) (n0 : Nat) (v0 : List (UInt8)) (v1 : Int) (v2 : Int) (v8 : Int) : Option (List UInt8 × Int × Unit)
  p42_2060 (j : Nat) (n0 : Nat) (n1 : Nat) (v0 : List (UInt8)) (v1 : Int) (v8 : Int) (v52 : Bool) : Option (List UInt8 × Int × Unit)
  p42_13 (j : Nat) (n0 : Nat) (n1 : Nat) (v0 : List (UInt8)) (v1 : Int) (v8 : Int) : Option (List UInt8 × Int × Unit)
  f43 (n : Nat) (a0 : (Int × (List UInt8 × (List UInt8 × Unit)))) : Option (Bool × Unit)
  p43_2050 (j : Nat) (n0 : Nat) (v1 : Option ((Int × (List UInt8 × (List UInt8 × Unit))))) (v12 : Bool) : Option (Bool × Unit)
  p43_3 (j : Nat) (n0 : Nat) (v1 : Option ((Int × (List UInt8 × (List UInt8 × Unit))))) : Option (Bool × Unit)
  f36 (n : Nat) (a0 : List (UInt8)) (a1 : Int) : Option ((Int × (List UInt8 × (List UInt8 × Unit))) × Int × Unit)
  p36_2054 (j : Nat) (n0 : Nat) (v0 : List (UInt8)) (v1 : Int) (v4 : Option ((Int × (List UInt8 × (List UInt8 × Unit))))) (v6 : Option ((Int × (List UInt8 × (List UInt8 × Unit))))) (v32 : Bool) : Option ((Int × (List UInt8 × (List UInt8 × Unit))) × Int × Unit)
  p36_7 (j : Nat) (n0 : Nat) (v1 : Int) (v4 : Option ((Int × (List UInt8 × (List UInt8 × Unit))))) (v6 : Option ((Int × (List UInt8 × (List UInt8 × Unit))))) : Option ((Int × (List UInt8 × (List UInt8 × Unit))) × Int × Unit)
  p36_2056 (j : Nat) (n0 : Nat) (n1 : Nat) (v1 : Int) (v4 : Option ((Int × (List UInt8 × (List UInt8 × Unit))))) (v6 : Option ((Int × (List UInt8 × (List UInt8 × Unit))))) (v46 : Bool) : Option ((Int × (List UInt8 × (List UInt8 × Unit))) × Int × Unit)
  p36_9 (j : Nat) (n0 : Nat) (n1 : Nat) (v1 : Int) (v4 : Option ((Int × (List UInt8 × (List UInt8 × Unit))))) (v6 : Option ((Int × (List UInt8 × (List UInt8 × Unit))))) : Option ((Int × (List UInt8 × (List UInt8 × Unit))) × Int × Unit)
  f23 (n : Nat) (a0 : List (UInt8)) : Option (Int × List ((Int × (List UInt8 × (List UInt8 × Unit)))) × Int × Unit)
  p23_5 (j : Nat) (n0 : Nat) (v0 : List (UInt8)) (v5 : Int) (v6 : Int) (v7 : Int) (v8 : List ((Int × (List UInt8 × (List UInt8 × Unit))))) : Option (Int × List ((Int × (List UInt8 × (List UInt8 × Unit)))) × Int × Unit)
  f25 (n : Nat) (a0 : Int) (a1 : Int) : Option (Bool × Unit)
  f11 (n : Nat) (a0 : List (UInt8)) : Option (Int × List ((Int × (List UInt8 × (List UInt8 × Unit)))) × Int × Unit)
  p11_2053 (j : Nat) (n0 : Nat) (v5 : Int) (v6 : List ((Int × (List UInt8 × (List UInt8 × Unit))))) (v44 : Bool) : Option (Int × List ((Int × (List UInt8 × (List UInt8 × Unit)))) × Int × Unit)
  p11_6 (j : Nat) (n0 : Nat) (v5 : Int) (v6 : List ((Int × (List UInt8 × (List UInt8 × Unit))))) : Option (Int × List ((Int × (List UInt8 × (List UInt8 × Unit)))) × Int × Unit)
  f24_eq (n : Nat) (a0 : List (UInt8)) (a1 : Int) (a2 : Int) : f24 (n + 1) a0 a1 a2 =
  (p24_3 (n) (n) (a0) (a1) ((0 : Int)) (Go.IntKind.i64.wrap (a2 - (1 : Int))))
  p24_3_eq (j : Nat) (n0 : Nat) (v0 : List (UInt8)) (v1 : Int) (v7 : Int) (v8 : Int) : p24_3 (j + 1) n0 v0 v1 v7 v8 =
  (sel (Decidable.decide (v8 ≥ (0 : Int)))
   (sel (Decidable.decide ((0 : Int) ≤ (8 : Int)))
    (sel (Decidable.decide ((0 : Int) ≤ Go.IntKind.i64.wrap (v1 + v8)))
     (sel (Decidable.decide (Go.IntKind.i64.wrap (v1 + v8) < (↑v0.length : Int)))
      (p24_3 (j) (n0) (v0) (v1) (Lk.ibits Go.BinOp.or Go.IntKind.u64 (Go.IntKind.u64.wrap (v7 * (2 : Int) ^ Min.min (Int.toNat (8 : Int)) Go.IntKind.u64.bits)) (Go.IntKind.u64.wrap (↑(UInt8.toNat (v0.getD (Go.IntKind.i64.wrap (v1 + v8)).toNat (0 : UInt8))) : Int))) (Go.IntKind.i64.wrap (v8 - (1 : Int))))
      none)
     none)
    none)
   (some (v7, ())))
  f42_eq (n : Nat) (a0 : List (UInt8)) (a1 : Int) (a2 : Int) : f42 (n + 1) a0 a1 a2 =
  (p42_2 (n) (n) (a0) (a1) (a2) ((0 : Int)) ((0 : Int)))
  p42_2_eq (j : Nat) (n0 : Nat) (v0 : List (UInt8)) (v1 : Int) (v2 : Int) (v8 : Int) (v9 : Int) : p42_2 (j + 1) n0 v0 v1 v2 v8 v9 =
  (sel (Decidable.decide (v1 ≥ (↑v0.length : Int)))
   (p42_2051 (j) (n0) (j) (v0) (v1) (v2) (v8) (v9) (Bool.true))
   (p42_2051 (j) (n0) (j) (v0) (v1) (v2) (v8) (v9) (Decidable.decide (v9 > (21 : Int)))))
  p42_2051_eq (j : Nat) (n0 : Nat) (n1 : Nat) (v0 : List (UInt8)) (v1 : Int) (v2 : Int) (v8 : Int) (v9 : Int) (v18 : Bool) : p42_2051 (j + 1) n0 n1 v0 v1 v2 v8 v9 v18 =
  (sel (v18)
   (some ([], (-1 : Int), ()))
   (p42_4 (n1) (n0) (n1) (v0) (v1) (v2) (v8) (v9)))
  p42_4_eq (j : Nat) (n0 : Nat) (n1 : Nat) (v0 : List (UInt8)) (v1 : Int) (v2 : Int) (v8 : Int) (v9 : Int) : p42_4 (j + 1) n0 n1 v0 v1 v2 v8 v9 =
  (sel (Decidable.decide ((0 : Int) ≤ v1))
   (sel (Decidable.decide (v1 < (↑v0.length : Int)))
    (sel ((128 : Int) != (0 : Int))
     (sel (Decidable.decide ((0 : Int) ≤ v9))
      (sel (Decidable.decide (Go.IntKind.i64.wrap (↑(UInt8.toNat (v0.getD v1.toNat (0 : UInt8))) : Int) < (128 : Int)))
       (sel (Go.IntKind.i64.wrap (↑(UInt8.toNat (v0.getD v1.toNat (0 : UInt8))) : Int) == (0 : Int))
        (p42_2057 (j) (n0) (n1) (j) (v0) (Go.IntKind.i64.wrap (v1 + (1 : Int))) (v2) (Lk.ibits Go.BinOp.or Go.IntKind.i64 v8 (Go.IntKind.i64.wrap ((Go.IntKind.i64.wrap (↑(UInt8.toNat (v0.getD v1.toNat (0 : UInt8))) : Int)).tmod (128 : Int) * (2 : Int) ^ Min.min v9.toNat Go.IntKind.i64.bits))) (Decidable.decide (v9 > (0 : Int))))
        (p42_2057 (j) (n0) (n1) (j) (v0) (Go.IntKind.i64.wrap (v1 + (1 : Int))) (v2) (Lk.ibits Go.BinOp.or Go.IntKind.i64 v8 (Go.IntKind.i64.wrap ((Go.IntKind.i64.wrap (↑(UInt8.toNat (v0.getD v1.toNat (0 : UInt8))) : Int)).tmod (128 : Int) * (2 : Int) ^ Min.min v9.toNat Go.IntKind.i64.bits))) (Bool.false)))
       (p42_2 (n1) (n0) (v0) (Go.IntKind.i64.wrap (v1 + (1 : Int))) (v2) (Lk.ibits Go.BinOp.or Go.IntKind.i64 v8 (Go.IntKind.i64.wrap ((Go.IntKind.i64.wrap (↑(UInt8.toNat (v0.getD v1.toNat (0 : UInt8))) : Int)).tmod (128 : Int) * (2 : Int) ^ Min.min v9.toNat Go.IntKind.i64.bits))) (Go.IntKind.i64.wrap (v9 + (7 : Int)))))
      none)
     none)
    none)
   none)
  p42_2057_eq (j : Nat) (n0 : Nat) (n1 : Nat) (n2 : Nat) (v0 : List (UInt8)) (v1 : Int) (v2 : Int) (v8 : Int) (v39 : Bool) : p42_2057 (j + 1) n0 n1 n2 v0 v1 v2 v8 v39 =
  (sel (v39)
   (some ([], (-1 : Int), ()))
   (p42_11 (n0) (n0) (v0) (v1) (v2) (v8)))
  p42_11_eq (j : Nat) (n0 : Nat) (v0 : List (UInt8)) (v1 : Int) (v2 : Int) (v8 : Int) : p42_11 (j + 1) n0 v0 v1 v2 v8 =
  (sel (Decidable.decide (v8 > v2))
   (p42_2060 (j) (n0) (j) (v0) (v1) (v8) (Bool.true))
   (p42_2060 (j) (n0) (j) (v0) (v1) (v8) (Decidable.decide (v8 > Go.IntKind.i64.wrap ((↑v0.length : Int) - v1)))))
  p42_2060_eq (j : Nat) (n0 : Nat) (n1 : Nat) (v0 : List (UInt8)) (v1 : Int) (v8 : Int) (v52 : Bool) : p42_2060 (j + 1) n0 n1 v0 v1 v8 v52 =
  (sel (v52)
   (some ([], (-1 : Int), ()))
   (p42_13 (n1) (n0) (n1) (v0) (v1) (v8)))
  p42_13_eq (j : Nat) (n0 : Nat) (n1 : Nat) (v0 : List (UInt8)) (v1 : Int) (v8 : Int) : p42_13 (j + 1) n0 n1 v0 v1 v8 =
  (sel (Decidable.decide ((0 : Int) ≤ Go.IntKind.i64.wrap (v1 + v8)))
   (sel (Decidable.decide (Go.IntKind.i64.wrap (v1 + v8) ≤ (↑v0.length : Int)))
    (sel (Decidable.decide ((0 : Int) ≤ v1))
     (sel (Decidable.decide (v1 ≤ Go.IntKind.i64.wrap (v1 + v8)))
      (some (Lk.ext v0 v1 (Go.IntKind.i64.wrap (v1 + v8)), Go.IntKind.i64.wrap (v1 + v8), ()))
      none)
     none)
    none)
   none)
  f43_eq (n : Nat) (a0 : (Int × (List UInt8 × (List UInt8 × Unit)))) : f43 (n + 1) a0 =
  (sel ((Option.some a0).isSome)
   (sel (Decidable.decide ((↑(List.length ((Option.some a0).getD ((0 : Int), [], [], ())).snd.fst) : Int) < (1 : Int)))
    (p43_2050 (n) (n) (Option.some a0) (Bool.true))
    (sel ((Option.some a0).isSome)
     (p43_2050 (n) (n) (Option.some a0) (Decidable.decide ((↑(List.length ((Option.some a0).getD ((0 : Int), [], [], ())).snd.fst) : Int) > (1024 : Int))))
     none))
   none)
  p43_2050_eq (j : Nat) (n0 : Nat) (v1 : Option ((Int × (List UInt8 × (List UInt8 × Unit))))) (v12 : Bool) : p43_2050 (j + 1) n0 v1 v12 =
  (sel (v12)
   (some (Bool.false, ()))
   (p43_3 (n0) (n0) (v1)))
  p43_3_eq (j : Nat) (n0 : Nat) (v1 : Option ((Int × (List UInt8 × (List UInt8 × Unit))))) : p43_3 (j + 1) n0 v1 =
  (sel (v1.isSome)
   (sel ((v1.getD ((0 : Int), [], [], ())).fst == (0 : Int))
    (sel (v1.isSome)
     (some ((v1.getD ((0 : Int), [], [], ())).snd.snd.fst == [], ()))
     none)
    (sel ((v1.getD ((0 : Int), [], [], ())).fst == (1 : Int))
     (sel (v1.isSome)
      (some (Decidable.decide ((↑(List.length (v1.getD ((0 : Int), [], [], ())).snd.snd.fst) : Int) ≤ (65536 : Int)), ()))
      none)
     (sel ((v1.getD ((0 : Int), [], [], ())).fst == (2 : Int))
      (sel (v1.isSome)
       (sel (Decidable.decide ((↑(List.length (v1.getD ((0 : Int), [], [], ())).snd.snd.fst) : Int) ≥ (1 : Int)))
        (sel (v1.isSome)
         (sel (Decidable.decide ((↑(List.length (v1.getD ((0 : Int), [], [], ())).snd.snd.fst) : Int) ≤ (1024 : Int)))
          (sel (v1.isSome)
           (sel (v1.isSome)
            (some (Go.Op.bytesLess (v1.getD ((0 : Int), [], [], ())).snd.fst (v1.getD ((0 : Int), [], [], ())).snd.snd.fst, ()))
            none)
           none)
          (some (Bool.false, ())))
         none)
        (some (Bool.false, ())))
       none)
      (some (Bool.false, ())))))
   none)
  f36_eq (n : Nat) (a0 : List (UInt8)) (a1 : Int) : f36 (n + 1) a0 a1 =
  (sel (Decidable.decide (a1 ≥ (↑a0.length : Int)))
   (sel (Bool.true)
    (sel (Bool.true)
     (some ((Option.some ((0 : Int), [], [], ())).getD ((0 : Int), [], [], ()), (-1 : Int), ()))
     none)
    none)
   (sel (Decidable.decide ((0 : Int) ≤ a1))
    (sel (Decidable.decide (a1 < (↑a0.length : Int)))
     (sel (Bool.true)
      (obind (f42 n (a0) (Go.IntKind.i64.wrap (a1 + (1 : Int))) ((1024 : Int))) fun r230 =>
       (sel (Bool.true)
        (sel (Decidable.decide (r230.snd.fst ≥ (0 : Int)))
         (sel (Bool.true)
          (p36_2054 (n) (n) (a0) (r230.snd.fst) (Option.some ((0 : Int), [], [], ())) (Option.some (Go.IntKind.i64.wrap (↑(UInt8.toNat (a0.getD a1.toNat (0 : UInt8))) : Int), r230.fst, [], ())) (Go.IntKind.i64.wrap (↑(UInt8.toNat (a0.getD a1.toNat (0 : UInt8))) : Int) != (0 : Int)))
          none)
         (p36_2054 (n) (n) (a0) (r230.snd.fst) (Option.some ((0 : Int), [], [], ())) (Option.some (Go.IntKind.i64.wrap (↑(UInt8.toNat (a0.getD a1.toNat (0 : UInt8))) : Int), r230.fst, [], ())) (Bool.false)))
        none))
      none)
     none)
    none))
  p36_2054_eq (j : Nat) (n0 : Nat) (v0 : List (UInt8)) (v1 : Int) (v4 : Option ((Int × (List UInt8 × (List UInt8 × Unit))))) (v6 : Option ((Int × (List UInt8 × (List UInt8 × Unit))))) (v32 : Bool) : p36_2054 (j + 1) n0 v0 v1 v4 v6 v32 =
  (sel (v32)
   (obind (f42 j (v0) (v1) ((65536 : Int))) fun r425 =>
    (sel (v6.isSome)
     (p36_7 (n0) (n0) (r425.snd.fst) (v4) (Option.some ((v6.getD ((0 : Int), [], [], ())).fst, (v6.getD ((0 : Int), [], [], ())).snd.fst, r425.fst, (v6.getD ((0 : Int), [], [], ())).snd.snd.snd)))
     none))
   (p36_7 (n0) (n0) (v1) (v4) (v6)))
  p36_7_eq (j : Nat) (n0 : Nat) (v1 : Int) (v4 : Option ((Int × (List UInt8 × (List UInt8 × Unit))))) (v6 : Option ((Int × (List UInt8 × (List UInt8 × Unit))))) : p36_7 (j + 1) n0 v1 v4 v6 =
  (sel (Decidable.decide (v1 < (0 : Int)))
   (p36_2056 (j) (n0) (j) (v1) (v4) (v6) (Bool.true))
   (sel (v6.isSome)
    (obind (f43 j (v6.getD ((0 : Int), [], [], ()))) fun r570 =>
     (p36_2056 (j) (n0) (j) (v1) (v4) (v6) (!r570.fst)))
    none))
  p36_2056_eq (j : Nat) (n0 : Nat) (n1 : Nat) (v1 : Int) (v4 : Option ((Int × (List UInt8 × (List UInt8 × Unit))))) (v6 : Option ((Int × (List UInt8 × (List UInt8 × Unit))))) (v46 : Bool) : p36_2056 (j + 1) n0 n1 v1 v4 v6 v46 =
  (sel (v46)
   (sel (v4.isSome)
    (sel (Bool.true)
     (some ((Option.some ((0 : Int), [], [], ())).getD ((0 : Int), [], [], ()), (-1 : Int), ()))
     none)
    none)
   (p36_9 (n1) (n0) (n1) (v1) (v4) (v6)))
  p36_9_eq (j : Nat) (n0 : Nat) (n1 : Nat) (v1 : Int) (v4 : Option ((Int × (List UInt8 × (List UInt8 × Unit))))) (v6 : Option ((Int × (List UInt8 × (List UInt8 × Unit))))) : p36_9 (j + 1) n0 n1 v1 v4 v6 =
  (sel (v6.isSome)
   (sel (v4.isSome)
    (sel (Bool.true)
     (some ((Option.some (v6.getD ((0 : Int), [], [], ()))).getD ((0 : Int), [], [], ()), v1, ()))
     none)
    none)
   none)
  f23_eq (n : Nat) (a0 : List (UInt8)) : f23 (n + 1) a0 =
  (sel (Decidable.decide ((↑a0.length : Int) < (12 : Int)))
   (some ((0 : Int), [], (0 : Int), ()))
   (obind (f24 n (a0) ((0 : Int)) ((8 : Int))) fun r146 =>
    (obind (f24 n (a0) ((8 : Int)) ((4 : Int))) fun r163 =>
     (p23_5 (n) (n) (a0) (r146.fst) (Go.IntKind.i64.wrap r163.fst) ((12 : Int)) ([])))))
  p23_5_eq (j : Nat) (n0 : Nat) (v0 : List (UInt8)) (v5 : Int) (v6 : Int) (v7 : Int) (v8 : List ((Int × (List UInt8 × (List UInt8 × Unit))))) : p23_5 (j + 1) n0 v0 v5 v6 v7 v8 =
  (sel (Decidable.decide ((↑v8.length : Int) < v6))
   (obind (f36 j (v0) (v7)) fun r300 =>
    (sel (Bool.true)
     (sel (Decidable.decide (r300.snd.fst < (0 : Int)))
      (some (v5, v8, v7, ()))
      (sel ((Option.some r300.fst).isSome)
       (sel (Decidable.decide (v8.length + (1 : Nat) ≤ (1073741824 : Nat)))
        (p23_5 (j) (n0) (v0) (v5) (v6) (r300.snd.fst) (v8 ++ [(Option.some r300.fst).getD ((0 : Int), [], [], ())]))
        none)
       none))
     none))
   (some (v5, v8, v7, ())))
  f25_eq (n : Nat) (a0 : Int) (a1 : Int) : f25 (n + 1) a0 a1 =
  (sel (Decidable.decide (a0 ≤ (72057594037927935 : Int)))
   (sel (a1 == (0 : Int))
    (some (Bool.true, ()))
    (some (Decidable.decide (Go.IntKind.u64.wrap (Go.IntKind.i64.wrap (a1 - (1 : Int))) ≤ Go.IntKind.u64.wrap ((72057594037927935 : Int) - a0)), ())))
   (some (Bool.false, ())))
  f11_eq (n : Nat) (a0 : List (UInt8)) : f11 (n + 1) a0 =
  (sel (Decidable.decide ((↑a0.length : Int) > (1048576 : Int)))
   (some ((0 : Int), [], (41 : Int), ()))
   (obind (f23 n (a0)) fun r146 =>
    (sel (Decidable.decide (r146.snd.snd.fst < (12 : Int)))
     (p11_2053 (n) (n) (r146.fst) (r146.snd.fst) (Bool.true))
     (sel (r146.snd.snd.fst != (↑a0.length : Int))
      (p11_2053 (n) (n) (r146.fst) (r146.snd.fst) (Bool.true))
      (obind (f24 n (a0) ((8 : Int)) ((4 : Int))) fun r719 =>
       (sel (Go.IntKind.i64.wrap r719.fst != (↑(List.length r146.snd.fst) : Int))
        (p11_2053 (n) (n) (r146.fst) (r146.snd.fst) (Bool.true))
        (sel (Decidable.decide ((↑(List.length r146.snd.fst) : Int) > (4096 : Int)))
         (p11_2053 (n) (n) (r146.fst) (r146.snd.fst) (Bool.true))
         (obind (f25 n (r146.fst) ((↑(List.length r146.snd.fst) : Int))) fun r1043 =>
          (p11_2053 (n) (n) (r146.fst) (r146.snd.fst) (!r1043.fst))))))))))
  p11_2053_eq (j : Nat) (n0 : Nat) (v5 : Int) (v6 : List ((Int × (List UInt8 × (List UInt8 × Unit))))) (v44 : Bool) : p11_2053 (j + 1) n0 v5 v6 v44 =
  (sel (v44)
   (some ((0 : Int), [], (41 : Int), ()))
   (p11_6 (n0) (n0) (v5) (v6)))
  p11_6_eq (j : Nat) (n0 : Nat) (v5 : Int) (v6 : List ((Int × (List UInt8 × (List UInt8 × Unit))))) : p11_6 (j + 1) n0 v5 v6 =
  (some (v5, v6, (0 : Int), ()))
end Rc
end
section
/-! Numbers in a batch's head. Plain. -/
namespace Rs
open Go Lk
theorem or_u64 {a b : Nat} (ha : a < 18446744073709551616) (hb : b < 18446744073709551616) : ibits .or .u64 (a : Int) (b : Int) = ((a ||| b : Nat) : Int) := by
  have h : a ||| b < 2 ^ 64 := Nat.or_lt_two_pow ha hb
  show IntKind.u64.wrap (((BitVec.ofInt 64 (a : Int) ||| BitVec.ofInt 64 (b : Int)).toNat : Nat) : Int) = _
  rw [BitVec.toNat_or, ofInt_nat, ofInt_nat, BitVec.toNat_ofNat, BitVec.toNat_ofNat, Nat.mod_eq_of_lt ha, Nat.mod_eq_of_lt hb, wrap_u64 h]
def leN (b : List UInt8) (i : Nat) : Nat → Nat
  | 0 => 0
  | n + 1 => leN b i n + bt b (i + n) * 256 ^ n
theorem leN_lt (b : List UInt8) (i : Nat) : ∀ n, leN b i n < 256 ^ n
  | 0 => by simp [leN]
  | n + 1 => by
    have h1 := leN_lt b i n
    have h2 := bt_lt b (i + n)
    have h3 : bt b (i + n) * 256 ^ n ≤ 255 * 256 ^ n := Nat.mul_le_mul_right _ (by omega)
    simp only [leN, Nat.pow_succ]
    omega
theorem leN_top (b : List UInt8) : ∀ (n i : Nat), leN b i (n + 1) = leN b (i + 1) n * 256 + bt b i
  | 0, i => by simp [leN]
  | n + 1, i => by
    rw [show leN b i (n + 1 + 1) = leN b i (n + 1) + bt b (i + (n + 1)) * 256 ^ (n + 1) from rfl, leN_top b n i, show leN b (i + 1) (n + 1) = leN b (i + 1) n + bt b (i + 1 + n) * 256 ^ n from rfl]
    rw [Nat.pow_succ, Nat.add_mul, show i + 1 + n = i + (n + 1) by omega, Nat.mul_assoc]
    omega
section
variable (Y : Rc.FnsC)
theorem p24 (b : List UInt8) (at_ N : Nat) (hN : N ≤ 8) (hb : at_ + N ≤ b.length) (hl : b.length < 4611686018427387904) : ∀ (m j n0 : Nat), m ≤ N → m + 1 ≤ j → Y.p24_3 j n0 b (at_ : Int) ((leN b (at_ + m) (N - m) : Nat) : Int) ((m : Int) - 1) = some ((leN b at_ N : Int), ()) := by
  intro m
  induction m with
  | zero =>
    intro j n0 _ hj
    obtain ⟨j, rfl⟩ : ∃ k, j = k + 1 := ⟨j - 1, by omega⟩
    rw [Y.p24_3_eq, sel_dec, if_neg (by omega)]
    rfl
  | succ m ih =>
    intro j n0 hm hj
    obtain ⟨j, rfl⟩ : ∃ k, j = k + 1 := ⟨j - 1, by omega⟩
    have hlt := leN_lt b (at_ + (m + 1)) (N - (m + 1))
    have hp : 256 ^ (N - (m + 1)) ≤ 256 ^ 7 := Nat.pow_le_pow_right (by omega) (by omega)
    have hp7 : (256 : Nat) ^ 7 = 72057594037927936 := by decide
    have hbt := bt_lt b (at_ + m)
    rw [Y.p24_3_eq, show (((m + 1 : Nat) : Int) - 1) = (m : Int) by omega, sel_dec, if_pos (by omega), sel_dec, if_pos (by omega), wrap64 (x := (at_ : Int) + (m : Int)) (by omega) (by omega), show (at_ : Int) + (m : Int) = ((at_ + m : Nat) : Int) by omega, sel_dec, if_pos (by omega), sel_dec, if_pos (by omega), wrap64 (x := (m : Int) - 1) (by omega) (by omega), Int.toNat_natCast]
    rw [show ibits .or .u64 (IntKind.u64.wrap (((leN b (at_ + (m + 1)) (N - (m + 1)) : Nat) : Int) * 2 ^ min (Int.toNat 8) IntKind.u64.bits)) (IntKind.u64.wrap (↑(UInt8.toNat (b.getD (at_ + m) 0)) : Int)) = ((leN b (at_ + m) (N - m) : Nat) : Int) from ?_]
    · exact ih j n0 (by omega) (by omega)
    · show ibits .or .u64 (IntKind.u64.wrap (((leN b (at_ + (m + 1)) (N - (m + 1)) : Nat) : Int) * 256)) (IntKind.u64.wrap (bt b (at_ + m) : Int)) = _
      have hrec : leN b (at_ + m) (N - m) = leN b (at_ + (m + 1)) (N - (m + 1)) * 256 + bt b (at_ + m) := by
        rw [show N - m = N - (m + 1) + 1 by omega, leN_top]; rfl
      rw [hrec]
      generalize leN b (at_ + (m + 1)) (N - (m + 1)) = v at *
      rw [show (v : Int) * 256 = ((v * 256 : Nat) : Int) by omega, wrap_u64 (by omega), wrap_u64 (by omega), or_u64 (by omega) (by omega), Nat.or_comm, show v * 256 = v * 2 ^ 8 from rfl, or_shl (by omega)]
      congr 1
      omega
theorem f24 (b : List UInt8) (at_ N n : Nat) (hN : 1 ≤ N ∧ N ≤ 8) (hb : at_ + N ≤ b.length) (hl : b.length < 4611686018427387904) (hn : N + 3 ≤ n) : Y.f24 n b (at_ : Int) (N : Int) = some ((leN b at_ N : Int), ()) := by
  obtain ⟨n, rfl⟩ : ∃ k, n = k + 1 := ⟨n - 1, by omega⟩
  rw [Y.f24_eq, wrap64 (by omega) (by omega)]
  have := p24 Y b at_ N hN.2 hb hl N n n (Nat.le_refl _) (by omega)
  rw [Nat.sub_self] at this
  exact this
end
section
variable (X : Rb.FnsB)
theorem p38 (b : List UInt8) (at_ N : Nat) (hN : N ≤ 8) (hb : at_ + N ≤ b.length) (hl : b.length < 4611686018427387904) : ∀ (m j n0 n1 i : Nat), i + m = N → m + 1 ≤ j → X.p38_6 j n0 n1 b (at_ : Int) (N : Int) ((leN b at_ i : Nat) : Int) (N : Int) (i : Int) = some ((leN b at_ N : Int), ((at_ + N : Nat) : Int), 0, ()) := by
  intro m
  induction m with
  | zero =>
    intro j n0 n1 i hi hj
    obtain ⟨j, rfl⟩ : ∃ k, j = k + 1 := ⟨j - 1, by omega⟩
    obtain rfl : i = N := by omega
    rw [X.p38_6_eq, sel_dec, if_neg (by omega), wrap64 (by omega) (by omega)]
    rfl
  | succ m ih =>
    intro j n0 n1 i hi hj
    obtain ⟨j, rfl⟩ : ∃ k, j = k + 1 := ⟨j - 1, by omega⟩
    have hlt := leN_lt b at_ i
    have hbt := bt_lt b (at_ + i)
    have hp : 256 ^ i ≤ 256 ^ 7 := Nat.pow_le_pow_right (by omega) (by omega)
    have hp7 : (256 : Nat) ^ 7 = 72057594037927936 := by decide
    rw [X.p38_6_eq, sel_dec, if_pos (by omega), wrap64 (x := (at_ : Int) + (i : Int)) (by omega) (by omega), show (at_ : Int) + (i : Int) = ((at_ + i : Nat) : Int) by omega, sel_dec, if_pos (by omega), sel_dec, if_pos (by omega), wrap64 (x := 8 * (i : Int)) (by omega) (by omega), sel_dec, if_pos (by omega), wrap64 (x := (i : Int) + 1) (by omega) (by omega), Int.toNat_natCast, show (i : Int) + 1 = ((i + 1 : Nat) : Int) by omega]
    rw [show ibits .or .u64 ((leN b at_ i : Nat) : Int) (IntKind.u64.wrap (IntKind.u64.wrap (↑(UInt8.toNat (b.getD (at_ + i) 0)) : Int) * 2 ^ min (8 * (i : Int)).toNat IntKind.u64.bits)) = ((leN b at_ (i + 1) : Nat) : Int) from ?_]
    · exact ih j n0 n1 (i + 1) (by omega) (by omega)
    · show ibits .or .u64 ((leN b at_ i : Nat) : Int) (IntKind.u64.wrap (IntKind.u64.wrap (bt b (at_ + i) : Int) * 2 ^ min (8 * (i : Int)).toNat IntKind.u64.bits)) = _
      have h256 : (256 : Nat) ^ i = 2 ^ (8 * i) := by rw [Nat.pow_mul]
      rw [h256] at hlt hp
      have hm : bt b (at_ + i) * 2 ^ (8 * i) ≤ 255 * 2 ^ (8 * i) := Nat.mul_le_mul_right _ (by omega)
      rw [wrap_u64 (by omega), show (8 * (i : Int)).toNat = 8 * i by omega, show min (8 * i) IntKind.u64.bits = 8 * i from Nat.min_eq_left (by show 8 * i ≤ 64; omega), show (bt b (at_ + i) : Int) * 2 ^ (8 * i) = ((bt b (at_ + i) * 2 ^ (8 * i) : Nat) : Int) by rw [Int.natCast_mul, Int.natCast_pow]; rfl, wrap_u64 (by omega), or_u64 (by omega) (by omega), or_shl hlt]
      simp only [leN]
      rw [h256]
theorem f38 (b : List UInt8) (at_ N n : Nat) (hN : 1 ≤ N ∧ N ≤ 8) (hb : at_ + N ≤ b.length) (hl : b.length < 4611686018427387904) (hn : N + 5 ≤ n) : X.f38 n b (at_ : Int) (N : Int) = some ((leN b at_ N : Int), ((at_ + N : Nat) : Int), 0, ()) := by
  obtain ⟨n, rfl⟩ : ∃ k, n = k + 3 := ⟨n - 3, by omega⟩
  rw [X.f38_eq, sel_dec, if_neg (by omega), show decide ((at_ : Int) > (b.length : Int)) = false from decide_eq_false (by omega), X.p38_2050_eq, sel_f, wrap64 (by omega) (by omega), sel_dec, if_neg (by omega), X.p38_5_eq]
  exact p38 X b at_ N hN.2 hb hl N _ _ _ 0 (by omega) (by omega)
theorem f15 (b : List UInt8) (n : Nat) (hl : b.length < 4611686018427387904) (hn : 20 ≤ n) : X.f15 n b = if b.length < 12 then some (0, 0, 41, ()) else some ((leN b 0 8 : Int), (leN b 8 4 : Int), 0, ()) := by
  obtain ⟨n, rfl⟩ : ∃ k, n = k + 2 := ⟨n - 2, by omega⟩
  rw [X.f15_eq, sel_dec]
  by_cases h : b.length < 12
  · rw [if_pos (by omega), if_pos h]
  · have h4 := leN_lt b 8 4
    have hp4 : (256 : Nat) ^ 4 = 4294967296 := by decide
    have e1 := f38 X b 0 8 n (by omega) (by omega) hl (by omega)
    have e2 := f38 X b 8 4 n (by omega) (by omega) hl (by omega)
    rw [if_neg (by omega), if_neg h, X.f27_eq]
    rw [show X.f38 n b 0 8 = _ from e1, ob_some, ob_some, X.f28_eq, show X.f38 n b 8 4 = _ from e2, ob_some, ob_some]
    show some ((leN b 0 8 : Int), IntKind.i64.wrap (IntKind.u32.wrap (leN b 8 4 : Int)), (0 : Int), ()) = _
    rw [wrap_u32 (by omega), wrap64 (by omega) (by omega)]
end
end Rs
end
