import Derived.Test.YtegmdaooinffpacDoorLkThree
import Derived.Test.YtegmdaooinffpacDoorSoFour
set_option linter.all false
namespace So
open Go Lk
set_option linter.unusedVariables false

structure FnsO where
  f43 (n : Nat) (a0 : Int) : Option (List UInt8 × Unit)
  f44 (n : Nat) (a0 : List UInt8) (a1 : Int) : Option (List UInt8 × Unit)
  f21 (n : Nat) (a0 : List UInt8) : Option (Int × Bool × Unit)
  f8 (n : Nat) (a0 : List (List UInt8)) : Option (List (List UInt8) × Unit)
  f23 (n : Nat) (a0 : Int) : Option (Bool × Unit)
  f24 (n : Nat) (a0 : List UInt8) : Option (Bool × Unit)
  f25 (n : Nat) (a0 : Int) : Option (Bool × Unit)
  f12 (n : Nat) (a0 : Int) (a1 : Int) : Option (Int × Unit)
  f13 (n : Nat) (a0 : List UInt8) (a1 : List UInt8) : Option (Int × Unit)
  f14 (n : Nat) (a0 : List (Int)) : Option (Int × Unit)
  p14_3 (j : Nat) (n0 : Nat) (v3 : Int) (v6 : List (Int)) (v7 : Int) (v8 : Int) : Option (Int × Unit)
  f15 (n : Nat) (a0 : Int) (a1 : Int) : Option (Int × Unit)
  f36 (n : Nat) (a0 : List UInt8) (a1 : List UInt8) : Option (Bool × Unit)
  f29 (n : Nat) (a0 : List UInt8) (a1 : List UInt8) : Option (List UInt8 × Bool × Unit)
  f18 (n : Nat) (a0 : List UInt8) (a1 : List UInt8) : Option (List UInt8 × Bool × Unit)
  f37 (n : Nat) (a0 : List UInt8) (a1 : List UInt8) : Option (Bool × Unit)
  f30 (n : Nat) (a0 : List UInt8) (a1 : List UInt8) : Option (List UInt8 × Bool × Unit)
  f19 (n : Nat) (a0 : List UInt8) (a1 : List UInt8) : Option (List UInt8 × Bool × Unit)
  f33 (n : Nat) (a0 : Int) : Option (List UInt8 × Unit)
  f20 (n : Nat) (a0 : Int) : Option (List UInt8 × Unit)
  f22 (n : Nat) (a0 : Int) (a1 : Int) : Option (List UInt8 × Int × Unit)
  p22_2050 (j : Nat) (n0 : Nat) (v0 : Int) (v1 : Int) (v6 : Bool) : Option (List UInt8 × Int × Unit)
  p22_2052 (j : Nat) (n0 : Nat) (n1 : Nat) (v0 : Int) (v1 : Int) (v13 : Bool) : Option (List UInt8 × Int × Unit)
  p22_7 (j : Nat) (n0 : Nat) (v0 : Int) (v1 : Int) : Option (List UInt8 × Int × Unit)
  f52 (n : Nat) (a0 : List UInt8) (a1 : List UInt8) : Option (Bool × Unit)
  f11 (n : Nat) (a0 : List UInt8) : Option (Int × Int × Int × Unit)
  p11_7 (j : Nat) (n0 : Nat) (v0 : List UInt8) (v2 : Int) (v5 : List UInt8) : Option (Int × Int × Int × Unit)
  p11_8 (j : Nat) (n0 : Nat) (n1 : Nat) (v0 : List UInt8) (v2 : Int) (v5 : List UInt8) (v24 : List (Int)) (v25 : Int) (v26 : Int) : Option (Int × Int × Int × Unit)
  p11_2060 (j : Nat) (n0 : Nat) (n1 : Nat) (n2 : Nat) (v0 : List UInt8) (v2 : Int) (v5 : List UInt8) (v9 : Int) (v10 : List UInt8) (v24 : List (Int)) (v25 : Int) (v26 : Int) (v41 : Bool) : Option (Int × Int × Int × Unit)
  p11_2067 (j : Nat) (n0 : Nat) (n1 : Nat) (v2 : Int) (v3 : Int) (v64 : Bool) : Option (Int × Int × Int × Unit)
  p11_13 (j : Nat) (n0 : Nat) (n1 : Nat) (n2 : Nat) (v0 : List UInt8) (v2 : Int) (v5 : List UInt8) (v24 : List (Int)) (v25 : Int) (v26 : Int) : Option (Int × Int × Int × Unit)
  p11_20 (j : Nat) (n0 : Nat) (n1 : Nat) (v2 : Int) (v3 : Int) : Option (Int × Int × Int × Unit)
  f10 (n : Nat) (a0 : List UInt8) (a1 : List UInt8) : Option (Int × Unit)
  f46 (n : Nat) (a0 : List (List UInt8)) (a1 : Int) (a2 : Int) (a3 : Int) (a4 : Unit) : Option (List (List UInt8) × Unit)
  p46_1 (j : Nat) (n0 : Nat) (v0 : List (List UInt8)) (v1 : Int) (v2 : Int) (v3 : Int) (v10 : Int) : Option (List (List UInt8) × Unit)
  f35 (n : Nat) (a0 : List (List UInt8)) (a1 : Int) (a2 : Int) (a3 : Int) (a4 : Unit) : Option (List (List UInt8) × Unit)
  p35_2 (j : Nat) (n0 : Nat) (v0 : List (List UInt8)) (v2 : Int) (v4 : Unit) (v10 : Int) (v11 : Int) : Option (List (List UInt8) × Unit)
  f27 (n : Nat) (a0 : List (List UInt8)) (a1 : Int) (a2 : Int) (a3 : Unit) : Option (List (List UInt8) × Unit)
  p27_1 (j : Nat) (n0 : Nat) (v0 : List (List UInt8)) (v1 : Int) (v2 : Int) (v3 : Unit) (v8 : Int) : Option (List (List UInt8) × Unit)
  p27_4 (j : Nat) (n0 : Nat) (n1 : Nat) (v0 : List (List UInt8)) (v1 : Int) (v2 : Int) (v3 : Unit) (v8 : Int) (v9 : Int) : Option (List (List UInt8) × Unit)
  p27_6 (j : Nat) (n0 : Nat) (n1 : Nat) (n2 : Nat) (v0 : List (List UInt8)) (v1 : Int) (v2 : Int) (v3 : Unit) (v8 : Int) (v9 : Int) : Option (List (List UInt8) × Unit)
  p27_2 (j : Nat) (n0 : Nat) (n1 : Nat) (v0 : List (List UInt8)) (v1 : Int) (v2 : Int) (v3 : Unit) (v8 : Int) : Option (List (List UInt8) × Unit)
  f28 (n : Nat) (a0 : List (List UInt8)) (a1 : Int) (a2 : Int) (a3 : Int) (a4 : Unit) : Option (List (List UInt8) × Unit)
  p28_3 (j : Nat) (n0 : Nat) (v0 : List (List UInt8)) (v1 : Int) (v4 : Unit) (v10 : Int) (v11 : Int) : Option (List (List UInt8) × Unit)
  p28_15 (j : Nat) (n0 : Nat) (v0 : List (List UInt8)) (v2 : Int) (v4 : Unit) (v14 : Int) (v15 : Int) : Option (List (List UInt8) × Unit)
  p28_32 (j : Nat) (n0 : Nat) (v0 : List (List UInt8)) (v1 : Int) (v2 : Int) (v3 : Int) (v4 : Unit) (v18 : Int) (v19 : Int) (v20 : Int) (v21 : Int) : Option (List (List UInt8) × Unit)
  p28_9 (j : Nat) (n0 : Nat) (v0 : List (List UInt8)) (v10 : Int) (v13 : Int) : Option (List (List UInt8) × Unit)
  p28_21 (j : Nat) (n0 : Nat) (v0 : List (List UInt8)) (v14 : Int) (v17 : Int) : Option (List (List UInt8) × Unit)
  p28_33 (j : Nat) (n0 : Nat) (n1 : Nat) (v0 : List (List UInt8)) (v1 : Int) (v2 : Int) (v3 : Int) (v4 : Unit) (v18 : Int) (v19 : Int) (v20 : Int) (v21 : Int) (v22 : Int) : Option (List (List UInt8) × Unit)
  p28_2088 (j : Nat) (n0 : Nat) (n1 : Nat) (v0 : List (List UInt8)) (v1 : Int) (v2 : Int) (v3 : Int) (v4 : Unit) (v18 : Int) (v20 : Int) (v24 : Int) (v185 : Bool) : Option (List (List UInt8) × Unit)
  p28_41 (j : Nat) (n0 : Nat) (n1 : Nat) (v0 : List (List UInt8)) (v1 : Int) (v3 : Int) (v4 : Unit) (v18 : Int) (v20 : Int) (v24 : Int) : Option (List (List UInt8) × Unit)
  p28_2090 (j : Nat) (n0 : Nat) (n1 : Nat) (n2 : Nat) (v0 : List (List UInt8)) (v1 : Int) (v3 : Int) (v4 : Unit) (v18 : Int) (v20 : Int) (v24 : Int) (v199 : Bool) : Option (List (List UInt8) × Unit)
  p28_43 (j : Nat) (n0 : Nat) (n1 : Nat) (n2 : Nat) (v0 : List (List UInt8)) (v3 : Int) (v4 : Unit) (v18 : Int) (v24 : Int) : Option (List (List UInt8) × Unit)
  p28_2092 (j : Nat) (n0 : Nat) (n1 : Nat) (n2 : Nat) (n3 : Nat) (v0 : List (List UInt8)) (v3 : Int) (v4 : Unit) (v18 : Int) (v24 : Int) (v213 : Bool) : Option (List (List UInt8) × Unit)
  f17 (n : Nat) (a0 : List (List UInt8)) (a1 : Int) (a2 : Unit) : Option (List (List UInt8) × Unit)
  p17_2 (j : Nat) (n0 : Nat) (v0 : List (List UInt8)) (v1 : Int) (v2 : Unit) (v6 : Int) (v7 : Int) (v8 : Int) : Option (List (List UInt8) × Unit)
  p17_7 (j : Nat) (n0 : Nat) (v0 : List (List UInt8)) (v1 : Int) (v2 : Unit) (v6 : Int) : Option (List (List UInt8) × Unit)
  p17_9 (j : Nat) (n0 : Nat) (n1 : Nat) (v0 : List (List UInt8)) (v1 : Int) (v2 : Unit) (v6 : Int) (v7 : Int) (v8 : Int) : Option (List (List UInt8) × Unit)
  p17_16 (j : Nat) (n0 : Nat) (n1 : Nat) (v0 : List (List UInt8)) (v1 : Int) (v2 : Unit) (v6 : Int) : Option (List (List UInt8) × Unit)
  f9 (n : Nat) (a0 : List (List UInt8)) (a1 : Unit) : Option (List (List UInt8) × Unit)
  f57 (n : Nat) (a0 : Int) : Option (List UInt8 × Unit)
  p57_2 (j : Nat) (n0 : Nat) (v0 : Int) (v3 : List UInt8) : Option (List UInt8 × Unit)
  f45 (n : Nat) (a0 : Int) : Option (List UInt8 × Unit)
  p45_2 (j : Nat) (n0 : Nat) (v3 : List UInt8) : Option (List UInt8 × Unit)
  f34 (n : Nat) (a0 : Int) (a1 : Int) : Option (List UInt8 × Int × Unit)
  p34_2050 (j : Nat) (n0 : Nat) (v0 : Int) (v1 : Int) (v11 : Bool) : Option (List UInt8 × Int × Unit)
  p34_3 (j : Nat) (n0 : Nat) (v0 : Int) (v1 : Int) : Option (List UInt8 × Int × Unit)
  p34_2052 (j : Nat) (n0 : Nat) (n1 : Nat) (v0 : Int) (v1 : Int) (v21 : Bool) : Option (List UInt8 × Int × Unit)
  p34_5 (j : Nat) (n0 : Nat) (n1 : Nat) (v0 : Int) (v1 : Int) : Option (List UInt8 × Int × Unit)
  f26 (n : Nat) (a0 : List UInt8) : Option (Int × Int × Int × Unit)
  p26_3 (j : Nat) (n0 : Nat) (v0 : List UInt8) (v5 : Int) (v6 : Int) : Option (Int × Int × Int × Unit)
  p26_2054 (j : Nat) (n0 : Nat) (n1 : Nat) (v0 : List UInt8) (v5 : Int) (v6 : Int) (v29 : Bool) : Option (Int × Int × Int × Unit)
  p26_8 (j : Nat) (n0 : Nat) (v0 : List UInt8) (v5 : Int) (v7 : Int) : Option (Int × Int × Int × Unit)
  p26_4 (j : Nat) (n0 : Nat) (n1 : Nat) (v0 : List UInt8) (v5 : Int) (v6 : Int) : Option (Int × Int × Int × Unit)
  p26_2060 (j : Nat) (n0 : Nat) (n1 : Nat) (v0 : List UInt8) (v5 : Int) (v7 : Int) (v54 : Bool) : Option (Int × Int × Int × Unit)
  p26_9 (j : Nat) (n0 : Nat) (n1 : Nat) (v0 : List UInt8) (v5 : Int) (v7 : Int) : Option (Int × Int × Int × Unit)
  f16 (n : Nat) (a0 : List UInt8) (a1 : List UInt8) : Option (Bool × Unit)
  f5 (n : Nat) (a0 : List (List UInt8)) : Option (List (List UInt8) × Unit)
  p5_3 (j : Nat) (n0 : Nat) (v3 : List (List UInt8)) (v4 : List (List UInt8)) : Option (List (List UInt8) × Unit)
  p5_6 (j : Nat) (n0 : Nat) (n1 : Nat) (v3 : List (List UInt8)) (v4 : List (List UInt8)) (v5 : Int) (v6 : Int) : Option (List (List UInt8) × Unit)
  p5_7 (j : Nat) (n0 : Nat) (n1 : Nat) (n2 : Nat) (v3 : List (List UInt8)) (v4 : List (List UInt8)) (v5 : Int) (v6 : Int) : Option (List (List UInt8) × Unit)
  f4 (n : Nat) (a0 : List (List UInt8)) : Option (List (List UInt8) × Unit)
  f6 (n : Nat) (a0 : List (List UInt8)) (a1 : List (List UInt8)) : Option (Bool × Unit)
  p6_4 (j : Nat) (n0 : Nat) (v0 : List (List UInt8)) (v1 : List (List UInt8)) (v5 : Int) : Option (Bool × Unit)
  f7 (n : Nat) : Option (Bool × Unit)
  f3 (n : Nat) (a0 : List (List UInt8)) : Option (Bool × Unit)
  p3_3 (j : Nat) (n0 : Nat) (v0 : List (List UInt8)) : Option (Bool × Unit)
  p3_2056 (j : Nat) (n0 : Nat) (n1 : Nat) (v0 : List (List UInt8)) (v3 : List (List UInt8)) (v4 : List (List UInt8)) (v35 : Bool) : Option (Bool × Unit)
  p3_9 (j : Nat) (n0 : Nat) (n1 : Nat) (v0 : List (List UInt8)) (v3 : List (List UInt8)) (v4 : List (List UInt8)) : Option (Bool × Unit)
  p3_10 (j : Nat) (n0 : Nat) (n1 : Nat) (n2 : Nat) (v0 : List (List UInt8)) (v3 : List (List UInt8)) (v4 : List (List UInt8)) (v7 : Int) : Option (Bool × Unit)
  f43_eq (n : Nat) (a0 : Int) : f43 n a0 = bif decide (-9223372036854775808 ≤ a0) && decide (a0 ≤ 9223372036854775807) then some (Lib.itoa a0, ()) else none
  f44_eq (n : Nat) (a0 : List UInt8) (a1 : Int) : f44 n a0 a1 = bif decide (0 ≤ a1) && decide (a1 ≤ 1073741824) && Nat.ble a0.length 100 then some (Lib.repeatL a0 a1.toNat, ()) else none
  f21_eq (n : Nat) (a0 : List UInt8) : f21 n a0 = bif Nat.ble a0.length 2147483648 then some ((NqG.atoi a0).1, (NqG.atoi a0).2, ()) else none
  f8_eq (n : Nat) (a0 : List (List UInt8)) : f8 n a0 = bif Nat.ble (List.length a0) 1073741824 then some (a0, ()) else none
  f23_eq (n : Nat) (a0 : Int) : f23 (n + 1) a0 =
  (some (a0 != a0, ()))
  f24_eq (n : Nat) (a0 : List UInt8) : f24 (n + 1) a0 =
  (some (!a0 == a0, ()))
  f25_eq (n : Nat) (a0 : Int) : f25 (n + 1) a0 =
  (some (a0 != a0, ()))
  f12_eq (n : Nat) (a0 : Int) (a1 : Int) : f12 (n + 1) a0 a1 =
  (obind (f23 n (a0)) fun r42 =>
   (obind (f23 n (a1)) fun r75 =>
    (sel (r42.fst)
     (sel (r75.fst)
      (some ((0 : Int), ()))
      (some ((-1 : Int), ())))
     (sel (r75.fst)
      (some ((1 : Int), ()))
      (sel (Decidable.decide (a0 < a1))
       (some ((-1 : Int), ()))
       (sel (Decidable.decide (a0 > a1))
        (some ((1 : Int), ()))
        (some ((0 : Int), ()))))))))
  f13_eq (n : Nat) (a0 : List UInt8) (a1 : List UInt8) : f13 (n + 1) a0 a1 =
  (obind (f24 n (a0)) fun r42 =>
   (obind (f24 n (a1)) fun r75 =>
    (sel (r42.fst)
     (sel (r75.fst)
      (some ((0 : Int), ()))
      (some ((-1 : Int), ())))
     (sel (r75.fst)
      (some ((1 : Int), ()))
      (sel (Go.Op.bytesLess a0 a1)
       (some ((-1 : Int), ()))
       (sel (!(Go.Op.bytesLess a0 a1 || a0 == a1))
        (some ((1 : Int), ()))
        (some ((0 : Int), ()))))))))
  f14_eq (n : Nat) (a0 : List (Int)) : f14 (n + 1) a0 =
  (p14_3 (n) (n) ((0 : Int)) (a0) ((↑a0.length : Int)) ((0 : Int)))
  p14_3_eq (j : Nat) (n0 : Nat) (v3 : Int) (v6 : List (Int)) (v7 : Int) (v8 : Int) : p14_3 (j + 1) n0 v3 v6 v7 v8 =
  (sel (Decidable.decide (v8 < v7))
   (sel (Decidable.decide ((0 : Int) ≤ v8))
    (sel (Decidable.decide (v8 < (↑v6.length : Int)))
     (sel (v6.getD v8.toNat (0 : Int) != v3)
      (some (v6.getD v8.toNat (0 : Int), ()))
      (p14_3 (j) (n0) (v3) (v6) (v7) (Go.IntKind.i64.wrap (v8 + (1 : Int)))))
     none)
    none)
   (some (v3, ())))
  f15_eq (n : Nat) (a0 : Int) (a1 : Int) : f15 (n + 1) a0 a1 =
  (obind (f25 n (a0)) fun r42 =>
   (obind (f25 n (a1)) fun r75 =>
    (sel (r42.fst)
     (sel (r75.fst)
      (some ((0 : Int), ()))
      (some ((-1 : Int), ())))
     (sel (r75.fst)
      (some ((1 : Int), ()))
      (sel (Decidable.decide (a0 < a1))
       (some ((-1 : Int), ()))
       (sel (Decidable.decide (a0 > a1))
        (some ((1 : Int), ()))
        (some ((0 : Int), ()))))))))
  f36_eq (n : Nat) (a0 : List UInt8) (a1 : List UInt8) : f36 (n + 1) a0 a1 =
  (sel (Decidable.decide ((↑a0.length : Int) ≥ (↑a1.length : Int)))
   (sel (Decidable.decide ((0 : Int) ≤ (↑a1.length : Int)))
    (sel (Decidable.decide ((↑a1.length : Int) ≤ (↑a0.length : Int)))
     (some (Lk.ext a0 (0 : Int) (↑a1.length : Int) == a1, ()))
     none)
    none)
   (some (Bool.false, ())))
  f29_eq (n : Nat) (a0 : List UInt8) (a1 : List UInt8) : f29 (n + 1) a0 a1 =
  (obind (f36 n (a0) (a1)) fun r57 =>
   (sel (!r57.fst)
    (some (a0, Bool.false, ()))
    (sel (Decidable.decide ((0 : Int) ≤ (↑a1.length : Int)))
     (sel (Decidable.decide ((↑a1.length : Int) ≤ (↑a0.length : Int)))
      (some (Lk.ext a0 (↑a1.length : Int) (↑a0.length : Int), Bool.true, ()))
      none)
     none)))
  f18_eq (n : Nat) (a0 : List UInt8) (a1 : List UInt8) : f18 (n + 1) a0 a1 =
  (obind (f29 n (a0) (a1)) fun r56 =>
   (some (r56.fst, r56.snd.fst, ())))
  f37_eq (n : Nat) (a0 : List UInt8) (a1 : List UInt8) : f37 (n + 1) a0 a1 =
  (sel (Decidable.decide ((↑a0.length : Int) ≥ (↑a1.length : Int)))
   (sel (Decidable.decide ((0 : Int) ≤ Go.IntKind.i64.wrap ((↑a0.length : Int) - (↑a1.length : Int))))
    (sel (Decidable.decide (Go.IntKind.i64.wrap ((↑a0.length : Int) - (↑a1.length : Int)) ≤ (↑a0.length : Int)))
     (some (Lk.ext a0 (Go.IntKind.i64.wrap ((↑a0.length : Int) - (↑a1.length : Int))) (↑a0.length : Int) == a1, ()))
     none)
    none)
   (some (Bool.false, ())))
  f30_eq (n : Nat) (a0 : List UInt8) (a1 : List UInt8) : f30 (n + 1) a0 a1 =
  (obind (f37 n (a0) (a1)) fun r57 =>
   (sel (!r57.fst)
    (some (a0, Bool.false, ()))
    (sel (Decidable.decide ((0 : Int) ≤ Go.IntKind.i64.wrap ((↑a0.length : Int) - (↑a1.length : Int))))
     (sel (Decidable.decide (Go.IntKind.i64.wrap ((↑a0.length : Int) - (↑a1.length : Int)) ≤ (↑a0.length : Int)))
      (some (Lk.ext a0 (0 : Int) (Go.IntKind.i64.wrap ((↑a0.length : Int) - (↑a1.length : Int))), Bool.true, ()))
      none)
     none)))
  f19_eq (n : Nat) (a0 : List UInt8) (a1 : List UInt8) : f19 (n + 1) a0 a1 =
  (obind (f30 n (a0) (a1)) fun r56 =>
   (some (r56.fst, r56.snd.fst, ())))
  f33_eq (n : Nat) (a0 : Int) : f33 (n + 1) a0 =
  (obind (f43 n (a0)) fun r42 =>
   (obind (f44 n ([(48 : UInt8)]) (Lk.imax (Go.IntKind.i64.wrap ((6 : Int) - (↑(List.length r42.fst) : Int))) (0 : Int))) fun r96 =>
    (sel (Decidable.decide (List.length r96.fst + List.length r42.fst ≤ Lk.big))
     (some (r96.fst ++ r42.fst, ()))
     none)))
  f20_eq (n : Nat) (a0 : Int) : f20 (n + 1) a0 =
  (sel (a0 == (1 : Int))
   (some ([(46 : UInt8), (108 : UInt8), (111 : UInt8), (103 : UInt8)], ()))
   (sel (a0 == (2 : Int))
    (some ([(46 : UInt8), (116 : UInt8), (97 : UInt8), (98 : UInt8)], ()))
    (sel (a0 == (5 : Int))
     (some ([(46 : UInt8), (116 : UInt8), (109 : UInt8), (112 : UInt8)], ()))
     (some ([], ())))))
  f22_eq (n : Nat) (a0 : Int) (a1 : Int) : f22 (n + 1) a0 a1 =
  (sel (a0 == (4 : Int))
   (p22_2050 (n) (n) (a0) (a1) (a1 == (0 : Int)))
   (p22_2050 (n) (n) (a0) (a1) (Bool.false)))
  p22_2050_eq (j : Nat) (n0 : Nat) (v0 : Int) (v1 : Int) (v6 : Bool) : p22_2050 (j + 1) n0 v0 v1 v6 =
  (sel (v6)
   (some ([(67 : UInt8), (85 : UInt8), (82 : UInt8), (82 : UInt8), (69 : UInt8), (78 : UInt8), (84 : UInt8)], (0 : Int), ()))
   (sel (v0 == (4 : Int))
    (p22_2052 (j) (n0) (j) (v0) (v1) (Bool.true))
    (sel (Decidable.decide (v0 < (1 : Int)))
     (p22_2052 (j) (n0) (j) (v0) (v1) (Bool.true))
     (sel (Decidable.decide (v0 > (5 : Int)))
      (p22_2052 (j) (n0) (j) (v0) (v1) (Bool.true))
      (sel (Decidable.decide (v1 < (1 : Int)))
       (p22_2052 (j) (n0) (j) (v0) (v1) (Bool.true))
       (p22_2052 (j) (n0) (j) (v0) (v1) (Decidable.decide (v1 > (2147483647 : Int)))))))))
  p22_2052_eq (j : Nat) (n0 : Nat) (n1 : Nat) (v0 : Int) (v1 : Int) (v13 : Bool) : p22_2052 (j + 1) n0 n1 v0 v1 v13 =
  (sel (v13)
   (some ([], (60 : Int), ()))
   (sel (v0 == (3 : Int))
    (obind (f33 j (v1)) fun r789 =>
     (sel (Decidable.decide ((9 : Nat) + List.length r789.fst ≤ Lk.big))
      (some ([(77 : UInt8), (65 : UInt8), (78 : UInt8), (73 : UInt8), (70 : UInt8), (69 : UInt8), (83 : UInt8), (84 : UInt8), (45 : UInt8)] ++ r789.fst, (0 : Int), ()))
      none))
    (p22_7 (n0) (n0) (v0) (v1))))
  p22_7_eq (j : Nat) (n0 : Nat) (v0 : Int) (v1 : Int) : p22_7 (j + 1) n0 v0 v1 =
  (obind (f33 j (v1)) fun r860 =>
   (obind (f20 j (v0)) fun r877 =>
    (sel (Decidable.decide (List.length r860.fst + List.length r877.fst ≤ Lk.big))
     (some (r860.fst ++ r877.fst, (0 : Int), ()))
     none)))
  f52_eq (n : Nat) (a0 : List UInt8) (a1 : List UInt8) : f52 (n + 1) a0 a1 =
  (obind (f36 n (a0) (a1)) fun r49 =>
   (some (r49.fst, ())))
  f11_eq (n : Nat) (a0 : List UInt8) : f11 (n + 1) a0 =
  (sel (a0 == [(67 : UInt8), (85 : UInt8), (82 : UInt8), (82 : UInt8), (69 : UInt8), (78 : UInt8), (84 : UInt8)])
   (some ((4 : Int), (0 : Int), (0 : Int), ()))
   (obind (f18 n (a0) ([(77 : UInt8), (65 : UInt8), (78 : UInt8), (73 : UInt8), (70 : UInt8), (69 : UInt8), (83 : UInt8), (84 : UInt8), (45 : UInt8)])) fun r148 =>
    (sel (r148.snd.fst)
     (p11_7 (n) (n) (a0) ((3 : Int)) (r148.fst))
     (p11_7 (n) (n) (a0) ((0 : Int)) ([])))))
  p11_7_eq (j : Nat) (n0 : Nat) (v0 : List UInt8) (v2 : Int) (v5 : List UInt8) : p11_7 (j + 1) n0 v0 v2 v5 =
  (p11_8 (j) (n0) (j) (v0) (v2) (v5) ([(1 : Int), (2 : Int), (5 : Int)]) ((↑(3 : Nat) : Int)) ((0 : Int)))
  p11_8_eq (j : Nat) (n0 : Nat) (n1 : Nat) (v0 : List UInt8) (v2 : Int) (v5 : List UInt8) (v24 : List (Int)) (v25 : Int) (v26 : Int) : p11_8 (j + 1) n0 n1 v0 v2 v5 v24 v25 v26 =
  (sel (Decidable.decide (v26 < v25))
   (sel (Decidable.decide ((0 : Int) ≤ v26))
    (sel (Decidable.decide (v26 < (↑v24.length : Int)))
     (obind (f20 j (v24.getD v26.toNat (0 : Int))) fun r367 =>
      (obind (f19 j (v0) (r367.fst)) fun r377 =>
       (sel (r377.snd.fst)
        (p11_2060 (j) (n0) (n1) (j) (v0) (v2) (v5) (v24.getD v26.toNat (0 : Int)) (r377.fst) (v24) (v25) (v26) (v2 == (0 : Int)))
        (p11_2060 (j) (n0) (n1) (j) (v0) (v2) (v5) (v24.getD v26.toNat (0 : Int)) (r377.fst) (v24) (v25) (v26) (Bool.false)))))
     none)
    none)
   (obind (f21 n1 (v5)) fun r529 =>
    (sel (r529.snd.fst)
     (some ((0 : Int), (0 : Int), (60 : Int), ()))
     (obind (f22 n1 (v2) (r529.fst)) fun r673 =>
      (sel (r673.snd.fst != (0 : Int))
       (p11_2067 (n1) (n0) (n1) (v2) (r529.fst) (Bool.true))
       (p11_2067 (n1) (n0) (n1) (v2) (r529.fst) (!r673.fst == v0)))))))
  p11_2060_eq (j : Nat) (n0 : Nat) (n1 : Nat) (n2 : Nat) (v0 : List UInt8) (v2 : Int) (v5 : List UInt8) (v9 : Int) (v10 : List UInt8) (v24 : List (Int)) (v25 : Int) (v26 : Int) (v41 : Bool) : p11_2060 (j + 1) n0 n1 n2 v0 v2 v5 v9 v10 v24 v25 v26 v41 =
  (sel (v41)
   (p11_13 (n2) (n0) (n1) (n2) (v0) (v9) (v10) (v24) (v25) (v26))
   (p11_13 (n2) (n0) (n1) (n2) (v0) (v2) (v5) (v24) (v25) (v26)))
  p11_2067_eq (j : Nat) (n0 : Nat) (n1 : Nat) (v2 : Int) (v3 : Int) (v64 : Bool) : p11_2067 (j + 1) n0 n1 v2 v3 v64 =
  (sel (v64)
   (some ((0 : Int), (0 : Int), (60 : Int), ()))
   (p11_20 (n1) (n0) (n1) (v2) (v3)))
  p11_13_eq (j : Nat) (n0 : Nat) (n1 : Nat) (n2 : Nat) (v0 : List UInt8) (v2 : Int) (v5 : List UInt8) (v24 : List (Int)) (v25 : Int) (v26 : Int) : p11_13 (j + 1) n0 n1 n2 v0 v2 v5 v24 v25 v26 =
  (p11_8 (n2) (n0) (n1) (v0) (v2) (v5) (v24) (v25) (Go.IntKind.i64.wrap (v26 + (1 : Int))))
  p11_20_eq (j : Nat) (n0 : Nat) (n1 : Nat) (v2 : Int) (v3 : Int) : p11_20 (j + 1) n0 n1 v2 v3 =
  (some (v2, v3, (0 : Int), ()))
  f10_eq (n : Nat) (a0 : List UInt8) (a1 : List UInt8) : f10 (n + 1) a0 a1 =
  (obind (f11 n (a0)) fun r42 =>
   (obind (f11 n (a1)) fun r117 =>
    (sel (r42.snd.snd.fst != r117.snd.snd.fst)
     (obind (f12 n (r42.snd.snd.fst) (r117.snd.snd.fst)) fun r242 =>
      (some (r242.fst, ())))
     (sel (r42.snd.snd.fst != (0 : Int))
      (obind (f13 n (a0) (a1)) fun r331 =>
       (some (r331.fst, ())))
      (obind (f15 n (r42.fst) (r117.fst)) fun r392 =>
       (obind (f15 n (r42.snd.fst) (r117.snd.fst)) fun r416 =>
        (obind (f14 n ([r392.fst, r416.fst])) fun r433 =>
         (some (r433.fst, ())))))))))
  f46_eq (n : Nat) (a0 : List (List UInt8)) (a1 : Int) (a2 : Int) (a3 : Int) (a4 : Unit) : f46 (n + 1) a0 a1 a2 a3 a4 =
  (p46_1 (n) (n) (a0) (a1) (a2) (a3) ((0 : Int)))
  p46_1_eq (j : Nat) (n0 : Nat) (v0 : List (List UInt8)) (v1 : Int) (v2 : Int) (v3 : Int) (v10 : Int) : p46_1 (j + 1) n0 v0 v1 v2 v3 v10 =
  (sel (Decidable.decide (v10 < v3))
   (sel (Decidable.decide ((0 : Int) ≤ Go.IntKind.i64.wrap (v2 + v10)))
    (sel (Decidable.decide (Go.IntKind.i64.wrap (v2 + v10) < (↑v0.length : Int)))
     (sel (Decidable.decide ((0 : Int) ≤ Go.IntKind.i64.wrap (v1 + v10)))
      (sel (Decidable.decide (Go.IntKind.i64.wrap (v1 + v10) < (↑v0.length : Int)))
       (sel (Decidable.decide ((0 : Int) ≤ Go.IntKind.i64.wrap (v1 + v10)))
        (sel (Decidable.decide (Go.IntKind.i64.wrap (v1 + v10) < (↑v0.length : Int)))
         (sel (Decidable.decide ((0 : Int) ≤ Go.IntKind.i64.wrap (v2 + v10)))
          (sel (Decidable.decide (Go.IntKind.i64.wrap (v2 + v10) < (↑(v0.set (Go.IntKind.i64.wrap (v1 + v10)).toNat (v0.getD (Go.IntKind.i64.wrap (v2 + v10)).toNat [])).length : Int)))
           (p46_1 (j) (n0) ((v0.set (Go.IntKind.i64.wrap (v1 + v10)).toNat (v0.getD (Go.IntKind.i64.wrap (v2 + v10)).toNat [])).set (Go.IntKind.i64.wrap (v2 + v10)).toNat (v0.getD (Go.IntKind.i64.wrap (v1 + v10)).toNat [])) (v1) (v2) (v3) (Go.IntKind.i64.wrap (v10 + (1 : Int))))
           none)
          none)
         none)
        none)
       none)
      none)
     none)
    none)
   (some (v0, ())))
  f35_eq (n : Nat) (a0 : List (List UInt8)) (a1 : Int) (a2 : Int) (a3 : Int) (a4 : Unit) : f35 (n + 1) a0 a1 a2 a3 a4 =
  (p35_2 (n) (n) (a0) (a2) (a4) (Go.IntKind.i64.wrap (a2 - a1)) (Go.IntKind.i64.wrap (a3 - a2)))
  p35_2_eq (j : Nat) (n0 : Nat) (v0 : List (List UInt8)) (v2 : Int) (v4 : Unit) (v10 : Int) (v11 : Int) : p35_2 (j + 1) n0 v0 v2 v4 v10 v11 =
  (sel (v10 != v11)
   (sel (Decidable.decide (v10 > v11))
    (obind (f46 j (v0) (Go.IntKind.i64.wrap (v2 - v10)) (v2) (v11) (v4)) fun r223 =>
     (p35_2 (j) (n0) (r223.fst) (v2) (v4) (Go.IntKind.i64.wrap (v10 - v11)) (v11)))
    (obind (f46 j (v0) (Go.IntKind.i64.wrap (v2 - v10)) (Go.IntKind.i64.wrap (Go.IntKind.i64.wrap (v2 + v11) - v10)) (v10) (v4)) fun r358 =>
     (p35_2 (j) (n0) (r358.fst) (v2) (v4) (v10) (Go.IntKind.i64.wrap (v11 - v10)))))
   (obind (f46 n0 (v0) (Go.IntKind.i64.wrap (v2 - v10)) (v2) (v10) (v4)) fun r475 =>
    (some (r475.fst, ()))))
  f27_eq (n : Nat) (a0 : List (List UInt8)) (a1 : Int) (a2 : Int) (a3 : Unit) : f27 (n + 1) a0 a1 a2 a3 =
  (p27_1 (n) (n) (a0) (a1) (a2) (a3) (Go.IntKind.i64.wrap (a1 + (1 : Int))))
  p27_1_eq (j : Nat) (n0 : Nat) (v0 : List (List UInt8)) (v1 : Int) (v2 : Int) (v3 : Unit) (v8 : Int) : p27_1 (j + 1) n0 v0 v1 v2 v3 v8 =
  (sel (Decidable.decide (v8 < v2))
   (p27_4 (j) (n0) (j) (v0) (v1) (v2) (v3) (v8) (v8))
   (some (v0, ())))
  p27_4_eq (j : Nat) (n0 : Nat) (n1 : Nat) (v0 : List (List UInt8)) (v1 : Int) (v2 : Int) (v3 : Unit) (v8 : Int) (v9 : Int) : p27_4 (j + 1) n0 n1 v0 v1 v2 v3 v8 v9 =
  (sel (Decidable.decide (v9 > v1))
   (sel (Decidable.decide ((0 : Int) ≤ v9))
    (sel (Decidable.decide (v9 < (↑v0.length : Int)))
     (sel (Decidable.decide ((0 : Int) ≤ Go.IntKind.i64.wrap (v9 - (1 : Int))))
      (sel (Decidable.decide (Go.IntKind.i64.wrap (v9 - (1 : Int)) < (↑v0.length : Int)))
       (obind (f10 j (v0.getD v9.toNat []) (v0.getD (Go.IntKind.i64.wrap (v9 - (1 : Int))).toNat [])) fun r312 =>
        (sel (Decidable.decide (r312.fst < (0 : Int)))
         (p27_6 (j) (n0) (n1) (j) (v0) (v1) (v2) (v3) (v8) (v9))
         (p27_2 (n1) (n0) (n1) (v0) (v1) (v2) (v3) (v8))))
       none)
      none)
     none)
    none)
   (p27_2 (n1) (n0) (n1) (v0) (v1) (v2) (v3) (v8)))
  p27_6_eq (j : Nat) (n0 : Nat) (n1 : Nat) (n2 : Nat) (v0 : List (List UInt8)) (v1 : Int) (v2 : Int) (v3 : Unit) (v8 : Int) (v9 : Int) : p27_6 (j + 1) n0 n1 n2 v0 v1 v2 v3 v8 v9 =
  (sel (Decidable.decide ((0 : Int) ≤ Go.IntKind.i64.wrap (v9 - (1 : Int))))
   (sel (Decidable.decide (Go.IntKind.i64.wrap (v9 - (1 : Int)) < (↑v0.length : Int)))
    (sel (Decidable.decide ((0 : Int) ≤ v9))
     (sel (Decidable.decide (v9 < (↑v0.length : Int)))
      (sel (Decidable.decide ((0 : Int) ≤ v9))
       (sel (Decidable.decide (v9 < (↑v0.length : Int)))
        (sel (Decidable.decide ((0 : Int) ≤ Go.IntKind.i64.wrap (v9 - (1 : Int))))
         (sel (Decidable.decide (Go.IntKind.i64.wrap (v9 - (1 : Int)) < (↑(v0.set v9.toNat (v0.getD (Go.IntKind.i64.wrap (v9 - (1 : Int))).toNat [])).length : Int)))
          (p27_4 (n2) (n0) (n1) ((v0.set v9.toNat (v0.getD (Go.IntKind.i64.wrap (v9 - (1 : Int))).toNat [])).set (Go.IntKind.i64.wrap (v9 - (1 : Int))).toNat (v0.getD v9.toNat [])) (v1) (v2) (v3) (v8) (Go.IntKind.i64.wrap (v9 - (1 : Int))))
          none)
         none)
        none)
       none)
      none)
     none)
    none)
   none)
  p27_2_eq (j : Nat) (n0 : Nat) (n1 : Nat) (v0 : List (List UInt8)) (v1 : Int) (v2 : Int) (v3 : Unit) (v8 : Int) : p27_2 (j + 1) n0 n1 v0 v1 v2 v3 v8 =
  (p27_1 (n1) (n0) (v0) (v1) (v2) (v3) (Go.IntKind.i64.wrap (v8 + (1 : Int))))
  f28_eq (n : Nat) (a0 : List (List UInt8)) (a1 : Int) (a2 : Int) (a3 : Int) (a4 : Unit) : f28 (n + 1) a0 a1 a2 a3 a4 =
  (sel (Go.IntKind.i64.wrap (a2 - a1) == (1 : Int))
   (p28_3 (n) (n) (a0) (a1) (a4) (a2) (a3))
   (sel (Go.IntKind.i64.wrap (a3 - a2) == (1 : Int))
    (p28_15 (n) (n) (a0) (a2) (a4) (a1) (a2))
    (sel (Decidable.decide ((0 : Int) ≤ (1 : Int)))
     (sel (Decidable.decide (a2 > Go.IntKind.i64.wrap ((Go.IntKind.u64.wrap (Go.IntKind.i64.wrap (a1 + a3))).fdiv ((2 : Int) ^ Min.min (Int.toNat (1 : Int)) Go.IntKind.u64.bits))))
      (p28_32 (n) (n) (a0) (a1) (a2) (a3) (a4) (Go.IntKind.i64.wrap ((Go.IntKind.u64.wrap (Go.IntKind.i64.wrap (a1 + a3))).fdiv ((2 : Int) ^ Min.min (Int.toNat (1 : Int)) Go.IntKind.u64.bits))) (Go.IntKind.i64.wrap (Go.IntKind.i64.wrap ((Go.IntKind.u64.wrap (Go.IntKind.i64.wrap (a1 + a3))).fdiv ((2 : Int) ^ Min.min (Int.toNat (1 : Int)) Go.IntKind.u64.bits)) + a2)) (Go.IntKind.i64.wrap (Go.IntKind.i64.wrap (Go.IntKind.i64.wrap ((Go.IntKind.u64.wrap (Go.IntKind.i64.wrap (a1 + a3))).fdiv ((2 : Int) ^ Min.min (Int.toNat (1 : Int)) Go.IntKind.u64.bits)) + a2) - a3)) (Go.IntKind.i64.wrap ((Go.IntKind.u64.wrap (Go.IntKind.i64.wrap (a1 + a3))).fdiv ((2 : Int) ^ Min.min (Int.toNat (1 : Int)) Go.IntKind.u64.bits))))
      (p28_32 (n) (n) (a0) (a1) (a2) (a3) (a4) (Go.IntKind.i64.wrap ((Go.IntKind.u64.wrap (Go.IntKind.i64.wrap (a1 + a3))).fdiv ((2 : Int) ^ Min.min (Int.toNat (1 : Int)) Go.IntKind.u64.bits))) (Go.IntKind.i64.wrap (Go.IntKind.i64.wrap ((Go.IntKind.u64.wrap (Go.IntKind.i64.wrap (a1 + a3))).fdiv ((2 : Int) ^ Min.min (Int.toNat (1 : Int)) Go.IntKind.u64.bits)) + a2)) (a1) (a2)))
     none)))
  p28_3_eq (j : Nat) (n0 : Nat) (v0 : List (List UInt8)) (v1 : Int) (v4 : Unit) (v10 : Int) (v11 : Int) : p28_3 (j + 1) n0 v0 v1 v4 v10 v11 =
  (sel (Decidable.decide (v10 < v11))
   (sel (Decidable.decide ((0 : Int) ≤ (1 : Int)))
    (sel (Decidable.decide ((0 : Int) ≤ Go.IntKind.i64.wrap ((Go.IntKind.u64.wrap (Go.IntKind.i64.wrap (v10 + v11))).fdiv ((2 : Int) ^ Min.min (Int.toNat (1 : Int)) Go.IntKind.u64.bits))))
     (sel (Decidable.decide (Go.IntKind.i64.wrap ((Go.IntKind.u64.wrap (Go.IntKind.i64.wrap (v10 + v11))).fdiv ((2 : Int) ^ Min.min (Int.toNat (1 : Int)) Go.IntKind.u64.bits)) < (↑v0.length : Int)))
      (sel (Decidable.decide ((0 : Int) ≤ v1))
       (sel (Decidable.decide (v1 < (↑v0.length : Int)))
        (obind (f10 j (v0.getD (Go.IntKind.i64.wrap ((Go.IntKind.u64.wrap (Go.IntKind.i64.wrap (v10 + v11))).fdiv ((2 : Int) ^ Min.min (Int.toNat (1 : Int)) Go.IntKind.u64.bits))).toNat []) (v0.getD v1.toNat [])) fun r636 =>
         (sel (Decidable.decide (r636.fst < (0 : Int)))
          (p28_3 (j) (n0) (v0) (v1) (v4) (Go.IntKind.i64.wrap (Go.IntKind.i64.wrap ((Go.IntKind.u64.wrap (Go.IntKind.i64.wrap (v10 + v11))).fdiv ((2 : Int) ^ Min.min (Int.toNat (1 : Int)) Go.IntKind.u64.bits)) + (1 : Int))) (v11))
          (p28_3 (j) (n0) (v0) (v1) (v4) (v10) (Go.IntKind.i64.wrap ((Go.IntKind.u64.wrap (Go.IntKind.i64.wrap (v10 + v11))).fdiv ((2 : Int) ^ Min.min (Int.toNat (1 : Int)) Go.IntKind.u64.bits))))))
        none)
       none)
      none)
     none)
    none)
   (p28_9 (n0) (n0) (v0) (v10) (v1)))
  p28_15_eq (j : Nat) (n0 : Nat) (v0 : List (List UInt8)) (v2 : Int) (v4 : Unit) (v14 : Int) (v15 : Int) : p28_15 (j + 1) n0 v0 v2 v4 v14 v15 =
  (sel (Decidable.decide (v14 < v15))
   (sel (Decidable.decide ((0 : Int) ≤ (1 : Int)))
    (sel (Decidable.decide ((0 : Int) ≤ v2))
     (sel (Decidable.decide (v2 < (↑v0.length : Int)))
      (sel (Decidable.decide ((0 : Int) ≤ Go.IntKind.i64.wrap ((Go.IntKind.u64.wrap (Go.IntKind.i64.wrap (v14 + v15))).fdiv ((2 : Int) ^ Min.min (Int.toNat (1 : Int)) Go.IntKind.u64.bits))))
       (sel (Decidable.decide (Go.IntKind.i64.wrap ((Go.IntKind.u64.wrap (Go.IntKind.i64.wrap (v14 + v15))).fdiv ((2 : Int) ^ Min.min (Int.toNat (1 : Int)) Go.IntKind.u64.bits)) < (↑v0.length : Int)))
        (obind (f10 j (v0.getD v2.toNat []) (v0.getD (Go.IntKind.i64.wrap ((Go.IntKind.u64.wrap (Go.IntKind.i64.wrap (v14 + v15))).fdiv ((2 : Int) ^ Min.min (Int.toNat (1 : Int)) Go.IntKind.u64.bits))).toNat [])) fun r926 =>
         (sel (!Decidable.decide (r926.fst < (0 : Int)))
          (p28_15 (j) (n0) (v0) (v2) (v4) (Go.IntKind.i64.wrap (Go.IntKind.i64.wrap ((Go.IntKind.u64.wrap (Go.IntKind.i64.wrap (v14 + v15))).fdiv ((2 : Int) ^ Min.min (Int.toNat (1 : Int)) Go.IntKind.u64.bits)) + (1 : Int))) (v15))
          (p28_15 (j) (n0) (v0) (v2) (v4) (v14) (Go.IntKind.i64.wrap ((Go.IntKind.u64.wrap (Go.IntKind.i64.wrap (v14 + v15))).fdiv ((2 : Int) ^ Min.min (Int.toNat (1 : Int)) Go.IntKind.u64.bits))))))
        none)
       none)
      none)
     none)
    none)
   (p28_21 (n0) (n0) (v0) (v14) (v2)))
  p28_32_eq (j : Nat) (n0 : Nat) (v0 : List (List UInt8)) (v1 : Int) (v2 : Int) (v3 : Int) (v4 : Unit) (v18 : Int) (v19 : Int) (v20 : Int) (v21 : Int) : p28_32 (j + 1) n0 v0 v1 v2 v3 v4 v18 v19 v20 v21 =
  (p28_33 (j) (n0) (j) (v0) (v1) (v2) (v3) (v4) (v18) (v19) (v20) (v21) (Go.IntKind.i64.wrap (v19 - (1 : Int))))
  p28_9_eq (j : Nat) (n0 : Nat) (v0 : List (List UInt8)) (v10 : Int) (v13 : Int) : p28_9 (j + 1) n0 v0 v10 v13 =
  (sel (Decidable.decide (v13 < Go.IntKind.i64.wrap (v10 - (1 : Int))))
   (sel (Decidable.decide ((0 : Int) ≤ Go.IntKind.i64.wrap (v13 + (1 : Int))))
    (sel (Decidable.decide (Go.IntKind.i64.wrap (v13 + (1 : Int)) < (↑v0.length : Int)))
     (sel (Decidable.decide ((0 : Int) ≤ v13))
      (sel (Decidable.decide (v13 < (↑v0.length : Int)))
       (sel (Decidable.decide ((0 : Int) ≤ v13))
        (sel (Decidable.decide (v13 < (↑v0.length : Int)))
         (sel (Decidable.decide ((0 : Int) ≤ Go.IntKind.i64.wrap (v13 + (1 : Int))))
          (sel (Decidable.decide (Go.IntKind.i64.wrap (v13 + (1 : Int)) < (↑(v0.set v13.toNat (v0.getD (Go.IntKind.i64.wrap (v13 + (1 : Int))).toNat [])).length : Int)))
           (p28_9 (j) (n0) ((v0.set v13.toNat (v0.getD (Go.IntKind.i64.wrap (v13 + (1 : Int))).toNat [])).set (Go.IntKind.i64.wrap (v13 + (1 : Int))).toNat (v0.getD v13.toNat [])) (v10) (Go.IntKind.i64.wrap (v13 + (1 : Int))))
           none)
          none)
         none)
        none)
       none)
      none)
     none)
    none)
   (some (v0, ())))
  p28_21_eq (j : Nat) (n0 : Nat) (v0 : List (List UInt8)) (v14 : Int) (v17 : Int) : p28_21 (j + 1) n0 v0 v14 v17 =
  (sel (Decidable.decide (v17 > v14))
   (sel (Decidable.decide ((0 : Int) ≤ Go.IntKind.i64.wrap (v17 - (1 : Int))))
    (sel (Decidable.decide (Go.IntKind.i64.wrap (v17 - (1 : Int)) < (↑v0.length : Int)))
     (sel (Decidable.decide ((0 : Int) ≤ v17))
      (sel (Decidable.decide (v17 < (↑v0.length : Int)))
       (sel (Decidable.decide ((0 : Int) ≤ v17))
        (sel (Decidable.decide (v17 < (↑v0.length : Int)))
         (sel (Decidable.decide ((0 : Int) ≤ Go.IntKind.i64.wrap (v17 - (1 : Int))))
          (sel (Decidable.decide (Go.IntKind.i64.wrap (v17 - (1 : Int)) < (↑(v0.set v17.toNat (v0.getD (Go.IntKind.i64.wrap (v17 - (1 : Int))).toNat [])).length : Int)))
           (p28_21 (j) (n0) ((v0.set v17.toNat (v0.getD (Go.IntKind.i64.wrap (v17 - (1 : Int))).toNat [])).set (Go.IntKind.i64.wrap (v17 - (1 : Int))).toNat (v0.getD v17.toNat [])) (v14) (Go.IntKind.i64.wrap (v17 - (1 : Int))))
           none)
          none)
         none)
        none)
       none)
      none)
     none)
    none)
   (some (v0, ())))
  p28_33_eq (j : Nat) (n0 : Nat) (n1 : Nat) (v0 : List (List UInt8)) (v1 : Int) (v2 : Int) (v3 : Int) (v4 : Unit) (v18 : Int) (v19 : Int) (v20 : Int) (v21 : Int) (v22 : Int) : p28_33 (j + 1) n0 n1 v0 v1 v2 v3 v4 v18 v19 v20 v21 v22 =
  (sel (Decidable.decide (v20 < v21))
   (sel (Decidable.decide ((0 : Int) ≤ (1 : Int)))
    (sel (Decidable.decide ((0 : Int) ≤ Go.IntKind.i64.wrap (v22 - Go.IntKind.i64.wrap ((Go.IntKind.u64.wrap (Go.IntKind.i64.wrap (v20 + v21))).fdiv ((2 : Int) ^ Min.min (Int.toNat (1 : Int)) Go.IntKind.u64.bits)))))
     (sel (Decidable.decide (Go.IntKind.i64.wrap (v22 - Go.IntKind.i64.wrap ((Go.IntKind.u64.wrap (Go.IntKind.i64.wrap (v20 + v21))).fdiv ((2 : Int) ^ Min.min (Int.toNat (1 : Int)) Go.IntKind.u64.bits))) < (↑v0.length : Int)))
      (sel (Decidable.decide ((0 : Int) ≤ Go.IntKind.i64.wrap ((Go.IntKind.u64.wrap (Go.IntKind.i64.wrap (v20 + v21))).fdiv ((2 : Int) ^ Min.min (Int.toNat (1 : Int)) Go.IntKind.u64.bits))))
       (sel (Decidable.decide (Go.IntKind.i64.wrap ((Go.IntKind.u64.wrap (Go.IntKind.i64.wrap (v20 + v21))).fdiv ((2 : Int) ^ Min.min (Int.toNat (1 : Int)) Go.IntKind.u64.bits)) < (↑v0.length : Int)))
        (obind (f10 j (v0.getD (Go.IntKind.i64.wrap (v22 - Go.IntKind.i64.wrap ((Go.IntKind.u64.wrap (Go.IntKind.i64.wrap (v20 + v21))).fdiv ((2 : Int) ^ Min.min (Int.toNat (1 : Int)) Go.IntKind.u64.bits)))).toNat []) (v0.getD (Go.IntKind.i64.wrap ((Go.IntKind.u64.wrap (Go.IntKind.i64.wrap (v20 + v21))).fdiv ((2 : Int) ^ Min.min (Int.toNat (1 : Int)) Go.IntKind.u64.bits))).toNat [])) fun r1805 =>
         (sel (!Decidable.decide (r1805.fst < (0 : Int)))
          (p28_33 (j) (n0) (n1) (v0) (v1) (v2) (v3) (v4) (v18) (v19) (Go.IntKind.i64.wrap (Go.IntKind.i64.wrap ((Go.IntKind.u64.wrap (Go.IntKind.i64.wrap (v20 + v21))).fdiv ((2 : Int) ^ Min.min (Int.toNat (1 : Int)) Go.IntKind.u64.bits)) + (1 : Int))) (v21) (v22))
          (p28_33 (j) (n0) (n1) (v0) (v1) (v2) (v3) (v4) (v18) (v19) (v20) (Go.IntKind.i64.wrap ((Go.IntKind.u64.wrap (Go.IntKind.i64.wrap (v20 + v21))).fdiv ((2 : Int) ^ Min.min (Int.toNat (1 : Int)) Go.IntKind.u64.bits))) (v22))))
        none)
       none)
      none)
     none)
    none)
   (sel (Decidable.decide (v20 < v2))
    (p28_2088 (n1) (n0) (n1) (v0) (v1) (v2) (v3) (v4) (v18) (v20) (Go.IntKind.i64.wrap (v19 - v20)) (Decidable.decide (v2 < Go.IntKind.i64.wrap (v19 - v20))))
    (p28_2088 (n1) (n0) (n1) (v0) (v1) (v2) (v3) (v4) (v18) (v20) (Go.IntKind.i64.wrap (v19 - v20)) (Bool.false))))
  p28_2088_eq (j : Nat) (n0 : Nat) (n1 : Nat) (v0 : List (List UInt8)) (v1 : Int) (v2 : Int) (v3 : Int) (v4 : Unit) (v18 : Int) (v20 : Int) (v24 : Int) (v185 : Bool) : p28_2088 (j + 1) n0 n1 v0 v1 v2 v3 v4 v18 v20 v24 v185 =
  (sel (v185)
   (obind (f35 j (v0) (v20) (v2) (v24) (v4)) fun r2105 =>
    (p28_41 (n1) (n0) (n1) (r2105.fst) (v1) (v3) (v4) (v18) (v20) (v24)))
   (p28_41 (n1) (n0) (n1) (v0) (v1) (v3) (v4) (v18) (v20) (v24)))
  p28_41_eq (j : Nat) (n0 : Nat) (n1 : Nat) (v0 : List (List UInt8)) (v1 : Int) (v3 : Int) (v4 : Unit) (v18 : Int) (v20 : Int) (v24 : Int) : p28_41 (j + 1) n0 n1 v0 v1 v3 v4 v18 v20 v24 =
  (sel (Decidable.decide (v1 < v20))
   (p28_2090 (j) (n0) (n1) (j) (v0) (v1) (v3) (v4) (v18) (v20) (v24) (Decidable.decide (v20 < v18)))
   (p28_2090 (j) (n0) (n1) (j) (v0) (v1) (v3) (v4) (v18) (v20) (v24) (Bool.false)))
  p28_2090_eq (j : Nat) (n0 : Nat) (n1 : Nat) (n2 : Nat) (v0 : List (List UInt8)) (v1 : Int) (v3 : Int) (v4 : Unit) (v18 : Int) (v20 : Int) (v24 : Int) (v199 : Bool) : p28_2090 (j + 1) n0 n1 n2 v0 v1 v3 v4 v18 v20 v24 v199 =
  (sel (v199)
   (obind (f28 j (v0) (v1) (v20) (v18) (v4)) fun r2290 =>
    (p28_43 (n2) (n0) (n1) (n2) (r2290.fst) (v3) (v4) (v18) (v24)))
   (p28_43 (n2) (n0) (n1) (n2) (v0) (v3) (v4) (v18) (v24)))
  p28_43_eq (j : Nat) (n0 : Nat) (n1 : Nat) (n2 : Nat) (v0 : List (List UInt8)) (v3 : Int) (v4 : Unit) (v18 : Int) (v24 : Int) : p28_43 (j + 1) n0 n1 n2 v0 v3 v4 v18 v24 =
  (sel (Decidable.decide (v18 < v24))
   (p28_2092 (j) (n0) (n1) (n2) (j) (v0) (v3) (v4) (v18) (v24) (Decidable.decide (v24 < v3)))
   (p28_2092 (j) (n0) (n1) (n2) (j) (v0) (v3) (v4) (v18) (v24) (Bool.false)))
  p28_2092_eq (j : Nat) (n0 : Nat) (n1 : Nat) (n2 : Nat) (n3 : Nat) (v0 : List (List UInt8)) (v3 : Int) (v4 : Unit) (v18 : Int) (v24 : Int) (v213 : Bool) : p28_2092 (j + 1) n0 n1 n2 n3 v0 v3 v4 v18 v24 v213 =
  (sel (v213)
   (obind (f28 j (v0) (v18) (v24) (v3) (v4)) fun r2474 =>
    (some (r2474.fst, ())))
   (some (v0, ())))
  f17_eq (n : Nat) (a0 : List (List UInt8)) (a1 : Int) (a2 : Unit) : f17 (n + 1) a0 a1 a2 =
  (p17_2 (n) (n) (a0) (a1) (a2) ((20 : Int)) ((0 : Int)) ((20 : Int)))
  p17_2_eq (j : Nat) (n0 : Nat) (v0 : List (List UInt8)) (v1 : Int) (v2 : Unit) (v6 : Int) (v7 : Int) (v8 : Int) : p17_2 (j + 1) n0 v0 v1 v2 v6 v7 v8 =
  (sel (Decidable.decide (v8 ≤ v1))
   (obind (f27 j (v0) (v7) (v8) (v2)) fun r140 =>
    (p17_2 (j) (n0) (r140.fst) (v1) (v2) (v6) (v8) (Go.IntKind.i64.wrap (v8 + v6))))
   (obind (f27 n0 (v0) (v7) (v1) (v2)) fun r260 =>
    (p17_7 (n0) (n0) (r260.fst) (v1) (v2) (v6))))
  p17_7_eq (j : Nat) (n0 : Nat) (v0 : List (List UInt8)) (v1 : Int) (v2 : Unit) (v6 : Int) : p17_7 (j + 1) n0 v0 v1 v2 v6 =
  (sel (Decidable.decide (v6 < v1))
   (p17_9 (j) (n0) (j) (v0) (v1) (v2) (v6) ((0 : Int)) (Go.IntKind.i64.wrap ((2 : Int) * v6)))
   (some (v0, ())))
  p17_9_eq (j : Nat) (n0 : Nat) (n1 : Nat) (v0 : List (List UInt8)) (v1 : Int) (v2 : Unit) (v6 : Int) (v7 : Int) (v8 : Int) : p17_9 (j + 1) n0 n1 v0 v1 v2 v6 v7 v8 =
  (sel (Decidable.decide (v8 ≤ v1))
   (obind (f28 j (v0) (v7) (Go.IntKind.i64.wrap (v7 + v6)) (v8) (v2)) fun r479 =>
    (p17_9 (j) (n0) (n1) (r479.fst) (v1) (v2) (v6) (v8) (Go.IntKind.i64.wrap (v8 + Go.IntKind.i64.wrap ((2 : Int) * v6)))))
   (sel (Decidable.decide (Go.IntKind.i64.wrap (v7 + v6) < v1))
    (obind (f28 n1 (v0) (v7) (Go.IntKind.i64.wrap (v7 + v6)) (v1) (v2)) fun r684 =>
     (p17_16 (n1) (n0) (n1) (r684.fst) (v1) (v2) (v6)))
    (p17_16 (n1) (n0) (n1) (v0) (v1) (v2) (v6))))
  p17_16_eq (j : Nat) (n0 : Nat) (n1 : Nat) (v0 : List (List UInt8)) (v1 : Int) (v2 : Unit) (v6 : Int) : p17_16 (j + 1) n0 n1 v0 v1 v2 v6 =
  (p17_7 (n1) (n0) (v0) (v1) (v2) (Go.IntKind.i64.wrap (v6 * (2 : Int))))
  f9_eq (n : Nat) (a0 : List (List UInt8)) (a1 : Unit) : f9 (n + 1) a0 a1 =
  (obind (f17 n (a0) ((↑a0.length : Int)) (a1)) fun r46 =>
   (some (r46.fst, ())))
  f57_eq (n : Nat) (a0 : Int) : f57 (n + 1) a0 =
  (p57_2 (n) (n) (a0) ([]))
  p57_2_eq (j : Nat) (n0 : Nat) (v0 : Int) (v3 : List UInt8) : p57_2 (j + 1) n0 v0 v3 =
  (sel (Decidable.decide (v0 > (0 : Int)))
   (sel ((10 : Int) != (0 : Int))
    (sel (Decidable.decide ((1 : Nat) + v3.length ≤ Lk.big))
     (sel ((10 : Int) != (0 : Int))
      (p57_2 (j) (n0) (Go.IntKind.i64.wrap (v0.tdiv (10 : Int))) ([UInt8.ofNat (Go.IntKind.u8.wrap (Go.IntKind.i64.wrap ((48 : Int) + v0.tmod (10 : Int)))).toNat] ++ v3))
      none)
     none)
    none)
   (sel (v3 == [])
    (some ([(48 : UInt8)], ()))
    (some (v3, ()))))
  f45_eq (n : Nat) (a0 : Int) : f45 (n + 1) a0 =
  (obind (f57 n (a0)) fun r42 =>
   (p45_2 (n) (n) (r42.fst)))
  p45_2_eq (j : Nat) (n0 : Nat) (v3 : List UInt8) : p45_2 (j + 1) n0 v3 =
  (sel (Decidable.decide ((↑v3.length : Int) < (6 : Int)))
   (sel (Decidable.decide ((1 : Nat) + v3.length ≤ Lk.big))
    (p45_2 (j) (n0) ([(48 : UInt8)] ++ v3))
    none)
   (some (v3, ())))
  f34_eq (n : Nat) (a0 : Int) (a1 : Int) : f34 (n + 1) a0 a1 =
  (sel (a0 == (4 : Int))
   (p34_2050 (n) (n) (a0) (a1) (a1 == (0 : Int)))
   (p34_2050 (n) (n) (a0) (a1) (Bool.false)))
  p34_2050_eq (j : Nat) (n0 : Nat) (v0 : Int) (v1 : Int) (v11 : Bool) : p34_2050 (j + 1) n0 v0 v1 v11 =
  (sel (v11)
   (some ([(67 : UInt8), (85 : UInt8), (82 : UInt8), (82 : UInt8), (69 : UInt8), (78 : UInt8), (84 : UInt8)], (0 : Int), ()))
   (p34_3 (n0) (n0) (v0) (v1)))
  p34_3_eq (j : Nat) (n0 : Nat) (v0 : Int) (v1 : Int) : p34_3 (j + 1) n0 v0 v1 =
  (sel (v0 == (4 : Int))
   (p34_2052 (j) (n0) (j) (v0) (v1) (Bool.true))
   (sel (Decidable.decide (v1 < (1 : Int)))
    (p34_2052 (j) (n0) (j) (v0) (v1) (Bool.true))
    (p34_2052 (j) (n0) (j) (v0) (v1) (Decidable.decide (v1 > (2147483647 : Int))))))
  p34_2052_eq (j : Nat) (n0 : Nat) (n1 : Nat) (v0 : Int) (v1 : Int) (v21 : Bool) : p34_2052 (j + 1) n0 n1 v0 v1 v21 =
  (sel (v21)
   (some ([], (60 : Int), ()))
   (p34_5 (n1) (n0) (n1) (v0) (v1)))
  p34_5_eq (j : Nat) (n0 : Nat) (n1 : Nat) (v0 : Int) (v1 : Int) : p34_5 (j + 1) n0 n1 v0 v1 =
  (sel (v0 == (1 : Int))
   (obind (f45 j (v1)) fun r465 =>
    (sel (Decidable.decide (List.length r465.fst + (4 : Nat) ≤ Lk.big))
     (some (r465.fst ++ [(46 : UInt8), (108 : UInt8), (111 : UInt8), (103 : UInt8)], (0 : Int), ()))
     none))
   (sel (v0 == (2 : Int))
    (obind (f45 j (v1)) fun r554 =>
     (sel (Decidable.decide (List.length r554.fst + (4 : Nat) ≤ Lk.big))
      (some (r554.fst ++ [(46 : UInt8), (116 : UInt8), (97 : UInt8), (98 : UInt8)], (0 : Int), ()))
      none))
    (sel (v0 == (5 : Int))
     (obind (f45 j (v1)) fun r643 =>
      (sel (Decidable.decide (List.length r643.fst + (4 : Nat) ≤ Lk.big))
       (some (r643.fst ++ [(46 : UInt8), (116 : UInt8), (109 : UInt8), (112 : UInt8)], (0 : Int), ()))
       none))
     (sel (v0 == (3 : Int))
      (obind (f45 j (v1)) fun r732 =>
       (sel (Decidable.decide ((9 : Nat) + List.length r732.fst ≤ Lk.big))
        (some ([(77 : UInt8), (65 : UInt8), (78 : UInt8), (73 : UInt8), (70 : UInt8), (69 : UInt8), (83 : UInt8), (84 : UInt8), (45 : UInt8)] ++ r732.fst, (0 : Int), ()))
        none))
      (some ([], (60 : Int), ()))))))
  f26_eq (n : Nat) (a0 : List UInt8) : f26 (n + 1) a0 =
  (p26_3 (n) (n) (a0) ((0 : Int)) ((0 : Int)))
  p26_3_eq (j : Nat) (n0 : Nat) (v0 : List UInt8) (v5 : Int) (v6 : Int) : p26_3 (j + 1) n0 v0 v5 v6 =
  (sel (Decidable.decide (v6 < (↑v0.length : Int)))
   (sel (Decidable.decide ((0 : Int) ≤ v6))
    (sel (Decidable.decide (v6 < (↑v0.length : Int)))
     (sel (Decidable.decide ((↑(v0.getD v6.toNat (0 : UInt8)).toNat : Int) ≥ (↑(UInt8.toNat (48 : UInt8)) : Int)))
      (sel (Decidable.decide ((0 : Int) ≤ v6))
       (sel (Decidable.decide (v6 < (↑v0.length : Int)))
        (sel (Decidable.decide ((↑(v0.getD v6.toNat (0 : UInt8)).toNat : Int) ≤ (↑(UInt8.toNat (57 : UInt8)) : Int)))
         (p26_2054 (j) (n0) (j) (v0) (v5) (v6) (Decidable.decide (v5 ≤ (2147483647 : Int))))
         (p26_2054 (j) (n0) (j) (v0) (v5) (v6) (Bool.false)))
        none)
       none)
      (p26_2054 (j) (n0) (j) (v0) (v5) (v6) (Bool.false)))
     none)
    none)
   (p26_8 (n0) (n0) (v0) (v5) ((1 : Int))))
  p26_2054_eq (j : Nat) (n0 : Nat) (n1 : Nat) (v0 : List UInt8) (v5 : Int) (v6 : Int) (v29 : Bool) : p26_2054 (j + 1) n0 n1 v0 v5 v6 v29 =
  (sel (v29)
   (sel (Decidable.decide ((0 : Int) ≤ v6))
    (sel (Decidable.decide (v6 < (↑v0.length : Int)))
     (p26_4 (n1) (n0) (n1) (v0) (Go.IntKind.i64.wrap (Go.IntKind.i64.wrap (v5 * (10 : Int)) + Go.IntKind.i64.wrap (↑(UInt8.ofNat (Go.IntKind.u8.wrap ((↑(v0.getD v6.toNat (0 : UInt8)).toNat : Int) - (↑(UInt8.toNat (48 : UInt8)) : Int))).toNat).toNat : Int))) (v6))
     none)
    none)
   (p26_4 (n1) (n0) (n1) (v0) (v5) (v6)))
  p26_8_eq (j : Nat) (n0 : Nat) (v0 : List UInt8) (v5 : Int) (v7 : Int) : p26_8 (j + 1) n0 v0 v5 v7 =
  (sel (Decidable.decide (v7 ≤ (5 : Int)))
   (obind (f34 j (v7) (v5)) fun r549 =>
    (sel (r549.snd.fst == (0 : Int))
     (p26_2060 (j) (n0) (j) (v0) (v5) (v7) (r549.fst == v0))
     (p26_2060 (j) (n0) (j) (v0) (v5) (v7) (Bool.false))))
   (some ((0 : Int), (0 : Int), (60 : Int), ())))
  p26_4_eq (j : Nat) (n0 : Nat) (n1 : Nat) (v0 : List UInt8) (v5 : Int) (v6 : Int) : p26_4 (j + 1) n0 n1 v0 v5 v6 =
  (p26_3 (n1) (n0) (v0) (v5) (Go.IntKind.i64.wrap (v6 + (1 : Int))))
  p26_2060_eq (j : Nat) (n0 : Nat) (n1 : Nat) (v0 : List UInt8) (v5 : Int) (v7 : Int) (v54 : Bool) : p26_2060 (j + 1) n0 n1 v0 v5 v7 v54 =
  (sel (v54)
   (some (v7, v5, (0 : Int), ()))
   (p26_9 (n1) (n0) (n1) (v0) (v5) (v7)))
  p26_9_eq (j : Nat) (n0 : Nat) (n1 : Nat) (v0 : List UInt8) (v5 : Int) (v7 : Int) : p26_9 (j + 1) n0 n1 v0 v5 v7 =
  (p26_8 (n1) (n0) (v0) (v5) (Go.IntKind.i64.wrap (v7 + (1 : Int))))
  f16_eq (n : Nat) (a0 : List UInt8) (a1 : List UInt8) : f16 (n + 1) a0 a1 =
  (obind (f26 n (a0)) fun r42 =>
   (obind (f26 n (a1)) fun r117 =>
    (sel (r42.snd.snd.fst != r117.snd.snd.fst)
     (some (r42.snd.snd.fst == (0 : Int), ()))
     (sel (r42.snd.snd.fst != (0 : Int))
      (some (Go.Op.bytesLess a0 a1, ()))
      (sel (Decidable.decide (r42.fst < r117.fst))
       (some (Bool.true, ()))
       (sel (r42.fst == r117.fst)
        (some (Decidable.decide (r42.snd.fst < r117.snd.fst), ()))
        (some (Bool.false, ()))))))))
  f5_eq (n : Nat) (a0 : List (List UInt8)) : f5 (n + 1) a0 =
  (sel (Decidable.decide ((0 : Nat) + a0.length ≤ (1073741824 : Nat)))
   (p5_3 (n) (n) ([] ++ a0) ([]))
   none)
  p5_3_eq (j : Nat) (n0 : Nat) (v3 : List (List UInt8)) (v4 : List (List UInt8)) : p5_3 (j + 1) n0 v3 v4 =
  (sel (Decidable.decide ((↑v3.length : Int) > (0 : Int)))
   (p5_6 (j) (n0) (j) (v3) (v4) ((0 : Int)) ((1 : Int)))
   (some (v4, ())))
  p5_6_eq (j : Nat) (n0 : Nat) (n1 : Nat) (v3 : List (List UInt8)) (v4 : List (List UInt8)) (v5 : Int) (v6 : Int) : p5_6 (j + 1) n0 n1 v3 v4 v5 v6 =
  (sel (Decidable.decide (v6 < (↑v3.length : Int)))
   (sel (Decidable.decide ((0 : Int) ≤ v6))
    (sel (Decidable.decide (v6 < (↑v3.length : Int)))
     (sel (Decidable.decide ((0 : Int) ≤ v5))
      (sel (Decidable.decide (v5 < (↑v3.length : Int)))
       (obind (f16 j (v3.getD v6.toNat []) (v3.getD v5.toNat [])) fun r326 =>
        (sel (r326.fst)
         (p5_7 (j) (n0) (n1) (j) (v3) (v4) (v6) (v6))
         (p5_7 (j) (n0) (n1) (j) (v3) (v4) (v5) (v6))))
       none)
      none)
     none)
    none)
   (sel (Decidable.decide ((0 : Int) ≤ v5))
    (sel (Decidable.decide (v5 < (↑v3.length : Int)))
     (sel (Decidable.decide (v4.length + (1 : Nat) ≤ (1073741824 : Nat)))
      (sel (Decidable.decide ((0 : Int) ≤ v5))
       (sel (Decidable.decide (v5 ≤ (↑v3.length : Int)))
        (sel (Decidable.decide ((0 : Int) ≤ Go.IntKind.i64.wrap (v5 + (1 : Int))))
         (sel (Decidable.decide (Go.IntKind.i64.wrap (v5 + (1 : Int)) ≤ (↑v3.length : Int)))
          (sel (Decidable.decide ((Lk.ext v3 (0 : Int) v5).length + (Lk.ext v3 (Go.IntKind.i64.wrap (v5 + (1 : Int))) (↑v3.length : Int)).length ≤ (1073741824 : Nat)))
           (p5_3 (n1) (n0) (Lk.ext v3 (0 : Int) v5 ++ Lk.ext v3 (Go.IntKind.i64.wrap (v5 + (1 : Int))) (↑v3.length : Int)) (v4 ++ [v3.getD v5.toNat []]))
           none)
          none)
         none)
        none)
       none)
      none)
     none)
    none))
  p5_7_eq (j : Nat) (n0 : Nat) (n1 : Nat) (n2 : Nat) (v3 : List (List UInt8)) (v4 : List (List UInt8)) (v5 : Int) (v6 : Int) : p5_7 (j + 1) n0 n1 n2 v3 v4 v5 v6 =
  (p5_6 (n2) (n0) (n1) (v3) (v4) (v5) (Go.IntKind.i64.wrap (v6 + (1 : Int))))
  f4_eq (n : Nat) (a0 : List (List UInt8)) : f4 (n + 1) a0 =
  (obind (f8 n (a0)) fun r42 =>
   (obind (f9 n (r42.fst) (())) fun r75 =>
    (some (r75.fst, ()))))
  f6_eq (n : Nat) (a0 : List (List UInt8)) (a1 : List (List UInt8)) : f6 (n + 1) a0 a1 =
  (sel ((↑a0.length : Int) != (↑a1.length : Int))
   (some (Bool.false, ()))
   (p6_4 (n) (n) (a0) (a1) ((0 : Int))))
  p6_4_eq (j : Nat) (n0 : Nat) (v0 : List (List UInt8)) (v1 : List (List UInt8)) (v5 : Int) : p6_4 (j + 1) n0 v0 v1 v5 =
  (sel (Decidable.decide (v5 < (↑v0.length : Int)))
   (sel (Decidable.decide ((0 : Int) ≤ v5))
    (sel (Decidable.decide (v5 < (↑v0.length : Int)))
     (sel (Decidable.decide ((0 : Int) ≤ v5))
      (sel (Decidable.decide (v5 < (↑v1.length : Int)))
       (sel (!v0.getD v5.toNat [] == v1.getD v5.toNat [])
        (some (Bool.false, ()))
        (p6_4 (j) (n0) (v0) (v1) (Go.IntKind.i64.wrap (v5 + (1 : Int)))))
       none)
      none)
     none)
    none)
   (some (Bool.true, ())))
  f7_eq (n : Nat)  : f7 (n + 1)  =
  (some (Bool.true, ()))
  f3_eq (n : Nat) (a0 : List (List UInt8)) : f3 (n + 1) a0 =
  (sel (Decidable.decide ((↑a0.length : Int) > (2000 : Int)))
   (sel (Decidable.decide ((0 : Int) ≤ (2000 : Int)))
    (sel (Decidable.decide ((2000 : Int) ≤ (↑a0.length : Int)))
     (p3_3 (n) (n) (Lk.ext a0 (0 : Int) (2000 : Int)))
     none)
    none)
   (p3_3 (n) (n) (a0)))
  p3_3_eq (j : Nat) (n0 : Nat) (v0 : List (List UInt8)) : p3_3 (j + 1) n0 v0 =
  (sel (Decidable.decide ((0 : Nat) + v0.length ≤ (1073741824 : Nat)))
   (obind (f4 j ([] ++ v0)) fun r151 =>
    (obind (f5 j (v0)) fun r184 =>
     (obind (f4 j ([[(98 : UInt8)], [(97 : UInt8)]])) fun r217 =>
      (obind (f6 j (r151.fst) (r184.fst)) fun r258 =>
       (sel (!r258.fst)
        (p3_2056 (j) (n0) (j) (v0) ([] ++ v0) (r151.fst) (Bool.true))
        (obind (f6 j (r217.fst) ([[(97 : UInt8)], [(98 : UInt8)]])) fun r391 =>
         (sel (!r391.fst)
          (p3_2056 (j) (n0) (j) (v0) ([] ++ v0) (r151.fst) (Bool.true))
          (obind (f7 j ) fun r457 =>
           (p3_2056 (j) (n0) (j) (v0) ([] ++ v0) (r151.fst) (!r457.fst))))))))))
   none)
  p3_2056_eq (j : Nat) (n0 : Nat) (n1 : Nat) (v0 : List (List UInt8)) (v3 : List (List UInt8)) (v4 : List (List UInt8)) (v35 : Bool) : p3_2056 (j + 1) n0 n1 v0 v3 v4 v35 =
  (sel (v35)
   (some (Bool.false, ()))
   (p3_9 (n1) (n0) (n1) (v0) (v3) (v4)))
  p3_9_eq (j : Nat) (n0 : Nat) (n1 : Nat) (v0 : List (List UInt8)) (v3 : List (List UInt8)) (v4 : List (List UInt8)) : p3_9 (j + 1) n0 n1 v0 v3 v4 =
  (p3_10 (j) (n0) (n1) (j) (v0) (v3) (v4) ((0 : Int)))
  p3_10_eq (j : Nat) (n0 : Nat) (n1 : Nat) (n2 : Nat) (v0 : List (List UInt8)) (v3 : List (List UInt8)) (v4 : List (List UInt8)) (v7 : Int) : p3_10 (j + 1) n0 n1 n2 v0 v3 v4 v7 =
  (sel (Decidable.decide (v7 < (↑v4.length : Int)))
   (sel (Decidable.decide ((0 : Int) ≤ v7))
    (sel (Decidable.decide (v7 < (↑v4.length : Int)))
     (p3_10 (j) (n0) (n1) (n2) (v0) (v3) (v4.set v7.toNat [(115 : UInt8), (112 : UInt8), (111 : UInt8), (105 : UInt8), (108 : UInt8), (116 : UInt8)]) (Go.IntKind.i64.wrap (v7 + (1 : Int))))
     none)
    none)
   (obind (f6 n2 (v3) (v0)) fun r703 =>
    (some (r703.fst, ()))))
end So

namespace SoG
open Go Lk
set_option linter.unusedVariables false
@[irreducible] noncomputable def f43 (n : Nat) (a0 : Int) : Option (List UInt8 × Unit) := F G n 43 (a0, ())
theorem f43_eq (n : Nat) (a0 : Int) : f43 n a0 = bif decide (-9223372036854775808 ≤ a0) && decide (a0 ≤ 9223372036854775807) then some (Lib.itoa a0, ()) else none := by kernel_rfl
@[irreducible] noncomputable def f44 (n : Nat) (a0 : List UInt8) (a1 : Int) : Option (List UInt8 × Unit) := F G n 44 (a0, a1, ())
theorem f44_eq (n : Nat) (a0 : List UInt8) (a1 : Int) : f44 n a0 a1 = bif decide (0 ≤ a1) && decide (a1 ≤ 1073741824) && Nat.ble a0.length 100 then some (Lib.repeatL a0 a1.toNat, ()) else none := by kernel_rfl
@[irreducible] noncomputable def f21 (n : Nat) (a0 : List UInt8) : Option (Int × Bool × Unit) := F G n 21 (a0, ())
theorem f21_eq (n : Nat) (a0 : List UInt8) : f21 n a0 = bif Nat.ble a0.length 2147483648 then some ((NqG.atoi a0).1, (NqG.atoi a0).2, ()) else none := by kernel_rfl
@[irreducible] noncomputable def f8 (n : Nat) (a0 : List (List UInt8)) : Option (List (List UInt8) × Unit) := F G n 8 (a0, ())
theorem f8_eq (n : Nat) (a0 : List (List UInt8)) : f8 n a0 = bif Nat.ble (List.length a0) 1073741824 then some (a0, ()) else none := by kernel_rfl
@[irreducible] noncomputable def f23 (n : Nat) (a0 : Int) : Option (Bool × Unit) := F G n 23 (a0, ())
@[irreducible] noncomputable def f24 (n : Nat) (a0 : List UInt8) : Option (Bool × Unit) := F G n 24 (a0, ())
@[irreducible] noncomputable def f25 (n : Nat) (a0 : Int) : Option (Bool × Unit) := F G n 25 (a0, ())
@[irreducible] noncomputable def f12 (n : Nat) (a0 : Int) (a1 : Int) : Option (Int × Unit) := F G n 12 (a0, a1, ())
@[irreducible] noncomputable def f13 (n : Nat) (a0 : List UInt8) (a1 : List UInt8) : Option (Int × Unit) := F G n 13 (a0, a1, ())
@[irreducible] noncomputable def f14 (n : Nat) (a0 : List (Int)) : Option (Int × Unit) := F G n 14 (a0, ())
@[irreducible] noncomputable def p14_3 (j : Nat) (n0 : Nat) (v3 : Int) (v6 : List (Int)) (v7 : Int) (v8 : Int) : Option (Int × Unit) := piece G 14 [.r, .r, .l, .r, .b] j [n0] (skel 18 0 [(3, .av ⟨(.i .i64), .r, v3⟩), (6, .av ⟨(.l (.i .i64)), .b, v6⟩), (7, .av ⟨(.i .i64), .r, v7⟩), (8, .av ⟨(.i .i64), .r, v8⟩)])
@[irreducible] noncomputable def f15 (n : Nat) (a0 : Int) (a1 : Int) : Option (Int × Unit) := F G n 15 (a0, a1, ())
@[irreducible] noncomputable def f36 (n : Nat) (a0 : List UInt8) (a1 : List UInt8) : Option (Bool × Unit) := F G n 36 (a0, a1, ())
@[irreducible] noncomputable def f29 (n : Nat) (a0 : List UInt8) (a1 : List UInt8) : Option (List UInt8 × Bool × Unit) := F G n 29 (a0, a1, ())
@[irreducible] noncomputable def f18 (n : Nat) (a0 : List UInt8) (a1 : List UInt8) : Option (List UInt8 × Bool × Unit) := F G n 18 (a0, a1, ())
@[irreducible] noncomputable def f37 (n : Nat) (a0 : List UInt8) (a1 : List UInt8) : Option (Bool × Unit) := F G n 37 (a0, a1, ())
@[irreducible] noncomputable def f30 (n : Nat) (a0 : List UInt8) (a1 : List UInt8) : Option (List UInt8 × Bool × Unit) := F G n 30 (a0, a1, ())
@[irreducible] noncomputable def f19 (n : Nat) (a0 : List UInt8) (a1 : List UInt8) : Option (List UInt8 × Bool × Unit) := F G n 19 (a0, a1, ())
@[irreducible] noncomputable def f33 (n : Nat) (a0 : Int) : Option (List UInt8 × Unit) := F G n 33 (a0, ())
@[irreducible] noncomputable def f20 (n : Nat) (a0 : Int) : Option (List UInt8 × Unit) := F G n 20 (a0, ())
@[irreducible] noncomputable def f22 (n : Nat) (a0 : Int) (a1 : Int) : Option (List UInt8 × Int × Unit) := F G n 22 (a0, a1, ())
@[irreducible] noncomputable def p22_2050 (j : Nat) (n0 : Nat) (v0 : Int) (v1 : Int) (v6 : Bool) : Option (List UInt8 × Int × Unit) := piece G 22 [.r, .l, .b, .r] j [n0] (skel 43 0 [(0, .av ⟨(.i .i64), .r, v0⟩), (1, .av ⟨(.i .i64), .r, v1⟩), (6, .av ⟨.b, .r, v6⟩)])
@[irreducible] noncomputable def p22_2052 (j : Nat) (n0 : Nat) (n1 : Nat) (v0 : Int) (v1 : Int) (v13 : Bool) : Option (List UInt8 × Int × Unit) := piece G 22 [.r, .l, .b, .r, .f, .r] j [n0, n1] (skel 43 0 [(0, .av ⟨(.i .i64), .r, v0⟩), (1, .av ⟨(.i .i64), .r, v1⟩), (13, .av ⟨.b, .r, v13⟩)])
@[irreducible] noncomputable def p22_7 (j : Nat) (n0 : Nat) (v0 : Int) (v1 : Int) : Option (List UInt8 × Int × Unit) := piece G 22 [.r, .r] j [n0] (skel 43 0 [(0, .av ⟨(.i .i64), .r, v0⟩), (1, .av ⟨(.i .i64), .r, v1⟩)])
@[irreducible] noncomputable def f52 (n : Nat) (a0 : List UInt8) (a1 : List UInt8) : Option (Bool × Unit) := F G n 52 (a0, a1, ())
@[irreducible] noncomputable def f11 (n : Nat) (a0 : List UInt8) : Option (Int × Int × Int × Unit) := F G n 11 (a0, ())
@[irreducible] noncomputable def p11_7 (j : Nat) (n0 : Nat) (v0 : List UInt8) (v2 : Int) (v5 : List UInt8) : Option (Int × Int × Int × Unit) := piece G 11 [.r, .r, .r, .r] j [n0] (skel 67 0 [(0, .av ⟨.s, .r, v0⟩), (2, .av ⟨(.i .i64), .r, v2⟩), (5, .av ⟨.s, .r, v5⟩)])
@[irreducible] noncomputable def p11_8 (j : Nat) (n0 : Nat) (n1 : Nat) (v0 : List UInt8) (v2 : Int) (v5 : List UInt8) (v24 : List (Int)) (v25 : Int) (v26 : Int) : Option (Int × Int × Int × Unit) := piece G 11 [.r, .r, .r, .r, .l, .r, .b] j [n0, n1] (skel 67 0 [(0, .av ⟨.s, .r, v0⟩), (2, .av ⟨(.i .i64), .r, v2⟩), (5, .av ⟨.s, .r, v5⟩), (24, .av ⟨(.l (.i .i64)), (.o .r), v24⟩), (25, .av ⟨(.i .i64), .r, v25⟩), (26, .av ⟨(.i .i64), .r, v26⟩)])
@[irreducible] noncomputable def p11_2060 (j : Nat) (n0 : Nat) (n1 : Nat) (n2 : Nat) (v0 : List UInt8) (v2 : Int) (v5 : List UInt8) (v9 : Int) (v10 : List UInt8) (v24 : List (Int)) (v25 : Int) (v26 : Int) (v41 : Bool) : Option (Int × Int × Int × Unit) := piece G 11 [.r, .r, .r, .r, .l, .r, .b, .o, .r, .r, .l, .b, .r, .r, .r] j [n0, n1, n2] (skel 67 0 [(0, .av ⟨.s, .r, v0⟩), (2, .av ⟨(.i .i64), .r, v2⟩), (5, .av ⟨.s, .r, v5⟩), (9, .av ⟨(.i .i64), .r, v9⟩), (10, .av ⟨.s, .r, v10⟩), (24, .av ⟨(.l (.i .i64)), (.o .r), v24⟩), (25, .av ⟨(.i .i64), .r, v25⟩), (26, .av ⟨(.i .i64), .r, v26⟩), (41, .av ⟨.b, .r, v41⟩)])
@[irreducible] noncomputable def p11_2067 (j : Nat) (n0 : Nat) (n1 : Nat) (v2 : Int) (v3 : Int) (v64 : Bool) : Option (Int × Int × Int × Unit) := piece G 11 [.r, .r, .r, .r, .r, .r, .r, .l, .r, .r] j [n0, n1] (skel 67 0 [(2, .av ⟨(.i .i64), .r, v2⟩), (3, .av ⟨(.i .i64), .r, v3⟩), (64, .av ⟨.b, .r, v64⟩)])
@[irreducible] noncomputable def p11_13 (j : Nat) (n0 : Nat) (n1 : Nat) (n2 : Nat) (v0 : List UInt8) (v2 : Int) (v5 : List UInt8) (v24 : List (Int)) (v25 : Int) (v26 : Int) : Option (Int × Int × Int × Unit) := piece G 11 [.r, .r, .r, .r, .l, .r, .b, .o, .r, .r, .r] j [n0, n1, n2] (skel 67 0 [(0, .av ⟨.s, .r, v0⟩), (2, .av ⟨(.i .i64), .r, v2⟩), (5, .av ⟨.s, .r, v5⟩), (24, .av ⟨(.l (.i .i64)), (.o .r), v24⟩), (25, .av ⟨(.i .i64), .r, v25⟩), (26, .av ⟨(.i .i64), .r, v26⟩)])
@[irreducible] noncomputable def p11_20 (j : Nat) (n0 : Nat) (n1 : Nat) (v2 : Int) (v3 : Int) : Option (Int × Int × Int × Unit) := piece G 11 [.r, .r, .r, .r, .r, .r, .r, .r] j [n0, n1] (skel 67 0 [(2, .av ⟨(.i .i64), .r, v2⟩), (3, .av ⟨(.i .i64), .r, v3⟩)])
@[irreducible] noncomputable def f10 (n : Nat) (a0 : List UInt8) (a1 : List UInt8) : Option (Int × Unit) := F G n 10 (a0, a1, ())
@[irreducible] noncomputable def f46 (n : Nat) (a0 : List (List UInt8)) (a1 : Int) (a2 : Int) (a3 : Int) (a4 : Unit) : Option (List (List UInt8) × Unit) := F G n 46 (a0, a1, a2, a3, a4, ())
@[irreducible] noncomputable def p46_1 (j : Nat) (n0 : Nat) (v0 : List (List UInt8)) (v1 : Int) (v2 : Int) (v3 : Int) (v10 : Int) : Option (List (List UInt8) × Unit) := piece G 46 [.r, .b] j [n0] (skel 38 0 [(0, .av ⟨(.l .s), (.o .r), v0⟩), (1, .av ⟨(.i .i64), .r, v1⟩), (2, .av ⟨(.i .i64), .r, v2⟩), (3, .av ⟨(.i .i64), .r, v3⟩), (10, .av ⟨(.i .i64), .r, v10⟩)])
@[irreducible] noncomputable def f35 (n : Nat) (a0 : List (List UInt8)) (a1 : Int) (a2 : Int) (a3 : Int) (a4 : Unit) : Option (List (List UInt8) × Unit) := F G n 35 (a0, a1, a2, a3, a4, ())
@[irreducible] noncomputable def p35_2 (j : Nat) (n0 : Nat) (v0 : List (List UInt8)) (v2 : Int) (v4 : Unit) (v10 : Int) (v11 : Int) : Option (List (List UInt8) × Unit) := piece G 35 [.r, .r, .l, .b] j [n0] (skel 58 0 [(0, .av ⟨(.l .s), (.o .r), v0⟩), (2, .av ⟨(.i .i64), .r, v2⟩), (4, .av ⟨(.z (.g 10)), .r, v4⟩), (10, .av ⟨(.i .i64), .r, v10⟩), (11, .av ⟨(.i .i64), .r, v11⟩)])
@[irreducible] noncomputable def f27 (n : Nat) (a0 : List (List UInt8)) (a1 : Int) (a2 : Int) (a3 : Unit) : Option (List (List UInt8) × Unit) := F G n 27 (a0, a1, a2, a3, ())
@[irreducible] noncomputable def p27_1 (j : Nat) (n0 : Nat) (v0 : List (List UInt8)) (v1 : Int) (v2 : Int) (v3 : Unit) (v8 : Int) : Option (List (List UInt8) × Unit) := piece G 27 [.r, .b] j [n0] (skel 53 0 [(0, .av ⟨(.l .s), (.o .r), v0⟩), (1, .av ⟨(.i .i64), .r, v1⟩), (2, .av ⟨(.i .i64), .r, v2⟩), (3, .av ⟨(.z (.g 10)), .r, v3⟩), (8, .av ⟨(.i .i64), .r, v8⟩)])
@[irreducible] noncomputable def p27_4 (j : Nat) (n0 : Nat) (n1 : Nat) (v0 : List (List UInt8)) (v1 : Int) (v2 : Int) (v3 : Unit) (v8 : Int) (v9 : Int) : Option (List (List UInt8) × Unit) := piece G 27 [.r, .b, .o, .r, .l, .b, .r, .b] j [n0, n1] (skel 53 0 [(0, .av ⟨(.l .s), (.o .r), v0⟩), (1, .av ⟨(.i .i64), .r, v1⟩), (2, .av ⟨(.i .i64), .r, v2⟩), (3, .av ⟨(.z (.g 10)), .r, v3⟩), (8, .av ⟨(.i .i64), .r, v8⟩), (9, .av ⟨(.i .i64), .r, v9⟩)])
@[irreducible] noncomputable def p27_6 (j : Nat) (n0 : Nat) (n1 : Nat) (n2 : Nat) (v0 : List (List UInt8)) (v1 : Int) (v2 : Int) (v3 : Unit) (v8 : Int) (v9 : Int) : Option (List (List UInt8) × Unit) := piece G 27 [.r, .b, .o, .r, .l, .b, .r, .b, .o, .r] j [n0, n1, n2] (skel 53 0 [(0, .av ⟨(.l .s), (.o .r), v0⟩), (1, .av ⟨(.i .i64), .r, v1⟩), (2, .av ⟨(.i .i64), .r, v2⟩), (3, .av ⟨(.z (.g 10)), .r, v3⟩), (8, .av ⟨(.i .i64), .r, v8⟩), (9, .av ⟨(.i .i64), .r, v9⟩)])
@[irreducible] noncomputable def p27_2 (j : Nat) (n0 : Nat) (n1 : Nat) (v0 : List (List UInt8)) (v1 : Int) (v2 : Int) (v3 : Unit) (v8 : Int) : Option (List (List UInt8) × Unit) := piece G 27 [.r, .b, .o, .r, .r] j [n0, n1] (skel 53 0 [(0, .av ⟨(.l .s), (.o .r), v0⟩), (1, .av ⟨(.i .i64), .r, v1⟩), (2, .av ⟨(.i .i64), .r, v2⟩), (3, .av ⟨(.z (.g 10)), .r, v3⟩), (8, .av ⟨(.i .i64), .r, v8⟩)])
@[irreducible] noncomputable def f28 (n : Nat) (a0 : List (List UInt8)) (a1 : Int) (a2 : Int) (a3 : Int) (a4 : Unit) : Option (List (List UInt8) × Unit) := F G n 28 (a0, a1, a2, a3, a4, ())
@[irreducible] noncomputable def p28_3 (j : Nat) (n0 : Nat) (v0 : List (List UInt8)) (v1 : Int) (v4 : Unit) (v10 : Int) (v11 : Int) : Option (List (List UInt8) × Unit) := piece G 28 [.l, .r, .t, .r, .r, .l, .b] j [n0] (skel 220 0 [(0, .av ⟨(.l .s), (.o .r), v0⟩), (1, .av ⟨(.i .i64), .r, v1⟩), (4, .av ⟨(.z (.g 10)), .r, v4⟩), (10, .av ⟨(.i .i64), .r, v10⟩), (11, .av ⟨(.i .i64), .r, v11⟩)])
@[irreducible] noncomputable def p28_15 (j : Nat) (n0 : Nat) (v0 : List (List UInt8)) (v2 : Int) (v4 : Unit) (v14 : Int) (v15 : Int) : Option (List (List UInt8) × Unit) := piece G 28 [.r, .l, .r, .t, .r, .r, .l, .b] j [n0] (skel 220 0 [(0, .av ⟨(.l .s), (.o .r), v0⟩), (2, .av ⟨(.i .i64), .r, v2⟩), (4, .av ⟨(.z (.g 10)), .r, v4⟩), (14, .av ⟨(.i .i64), .r, v14⟩), (15, .av ⟨(.i .i64), .r, v15⟩)])
@[irreducible] noncomputable def p28_32 (j : Nat) (n0 : Nat) (v0 : List (List UInt8)) (v1 : Int) (v2 : Int) (v3 : Int) (v4 : Unit) (v18 : Int) (v19 : Int) (v20 : Int) (v21 : Int) : Option (List (List UInt8) × Unit) := piece G 28 [.r, .r, .r, .r, .r, .r] j [n0] (skel 220 0 [(0, .av ⟨(.l .s), (.o .r), v0⟩), (1, .av ⟨(.i .i64), .r, v1⟩), (2, .av ⟨(.i .i64), .r, v2⟩), (3, .av ⟨(.i .i64), .r, v3⟩), (4, .av ⟨(.z (.g 10)), .r, v4⟩), (18, .av ⟨(.i .i64), .r, v18⟩), (19, .av ⟨(.i .i64), .r, v19⟩), (20, .av ⟨(.i .i64), .r, v20⟩), (21, .av ⟨(.i .i64), .r, v21⟩)])
@[irreducible] noncomputable def p28_9 (j : Nat) (n0 : Nat) (v0 : List (List UInt8)) (v10 : Int) (v13 : Int) : Option (List (List UInt8) × Unit) := piece G 28 [.l, .r, .t, .r, .r, .r, .l, .r, .b] j [n0] (skel 220 0 [(0, .av ⟨(.l .s), (.o .r), v0⟩), (10, .av ⟨(.i .i64), .r, v10⟩), (13, .av ⟨(.i .i64), .r, v13⟩)])
@[irreducible] noncomputable def p28_21 (j : Nat) (n0 : Nat) (v0 : List (List UInt8)) (v14 : Int) (v17 : Int) : Option (List (List UInt8) × Unit) := piece G 28 [.r, .l, .r, .t, .r, .r, .r, .l, .r, .b] j [n0] (skel 220 0 [(0, .av ⟨(.l .s), (.o .r), v0⟩), (14, .av ⟨(.i .i64), .r, v14⟩), (17, .av ⟨(.i .i64), .r, v17⟩)])
@[irreducible] noncomputable def p28_33 (j : Nat) (n0 : Nat) (n1 : Nat) (v0 : List (List UInt8)) (v1 : Int) (v2 : Int) (v3 : Int) (v4 : Unit) (v18 : Int) (v19 : Int) (v20 : Int) (v21 : Int) (v22 : Int) : Option (List (List UInt8) × Unit) := piece G 28 [.r, .r, .r, .r, .r, .r, .r, .l, .b] j [n0, n1] (skel 220 0 [(0, .av ⟨(.l .s), (.o .r), v0⟩), (1, .av ⟨(.i .i64), .r, v1⟩), (2, .av ⟨(.i .i64), .r, v2⟩), (3, .av ⟨(.i .i64), .r, v3⟩), (4, .av ⟨(.z (.g 10)), .r, v4⟩), (18, .av ⟨(.i .i64), .r, v18⟩), (19, .av ⟨(.i .i64), .r, v19⟩), (20, .av ⟨(.i .i64), .r, v20⟩), (21, .av ⟨(.i .i64), .r, v21⟩), (22, .av ⟨(.i .i64), .r, v22⟩)])
@[irreducible] noncomputable def p28_2088 (j : Nat) (n0 : Nat) (n1 : Nat) (v0 : List (List UInt8)) (v1 : Int) (v2 : Int) (v3 : Int) (v4 : Unit) (v18 : Int) (v20 : Int) (v24 : Int) (v185 : Bool) : Option (List (List UInt8) × Unit) := piece G 28 [.r, .r, .r, .r, .r, .r, .r, .r, .r, .l, .r] j [n0, n1] (skel 220 0 [(0, .av ⟨(.l .s), (.o .r), v0⟩), (1, .av ⟨(.i .i64), .r, v1⟩), (2, .av ⟨(.i .i64), .r, v2⟩), (3, .av ⟨(.i .i64), .r, v3⟩), (4, .av ⟨(.z (.g 10)), .r, v4⟩), (18, .av ⟨(.i .i64), .r, v18⟩), (20, .av ⟨(.i .i64), .r, v20⟩), (24, .av ⟨(.i .i64), .r, v24⟩), (185, .av ⟨.b, .r, v185⟩)])
@[irreducible] noncomputable def p28_41 (j : Nat) (n0 : Nat) (n1 : Nat) (v0 : List (List UInt8)) (v1 : Int) (v3 : Int) (v4 : Unit) (v18 : Int) (v20 : Int) (v24 : Int) : Option (List (List UInt8) × Unit) := piece G 28 [.r, .r, .r, .r, .r, .r, .r, .r, .r, .r] j [n0, n1] (skel 220 0 [(0, .av ⟨(.l .s), (.o .r), v0⟩), (1, .av ⟨(.i .i64), .r, v1⟩), (3, .av ⟨(.i .i64), .r, v3⟩), (4, .av ⟨(.z (.g 10)), .r, v4⟩), (18, .av ⟨(.i .i64), .r, v18⟩), (20, .av ⟨(.i .i64), .r, v20⟩), (24, .av ⟨(.i .i64), .r, v24⟩)])
@[irreducible] noncomputable def p28_2090 (j : Nat) (n0 : Nat) (n1 : Nat) (n2 : Nat) (v0 : List (List UInt8)) (v1 : Int) (v3 : Int) (v4 : Unit) (v18 : Int) (v20 : Int) (v24 : Int) (v199 : Bool) : Option (List (List UInt8) × Unit) := piece G 28 [.r, .r, .r, .r, .r, .r, .r, .r, .r, .r, .l, .r] j [n0, n1, n2] (skel 220 0 [(0, .av ⟨(.l .s), (.o .r), v0⟩), (1, .av ⟨(.i .i64), .r, v1⟩), (3, .av ⟨(.i .i64), .r, v3⟩), (4, .av ⟨(.z (.g 10)), .r, v4⟩), (18, .av ⟨(.i .i64), .r, v18⟩), (20, .av ⟨(.i .i64), .r, v20⟩), (24, .av ⟨(.i .i64), .r, v24⟩), (199, .av ⟨.b, .r, v199⟩)])
@[irreducible] noncomputable def p28_43 (j : Nat) (n0 : Nat) (n1 : Nat) (n2 : Nat) (v0 : List (List UInt8)) (v3 : Int) (v4 : Unit) (v18 : Int) (v24 : Int) : Option (List (List UInt8) × Unit) := piece G 28 [.r, .r, .r, .r, .r, .r, .r, .r, .r, .r, .r] j [n0, n1, n2] (skel 220 0 [(0, .av ⟨(.l .s), (.o .r), v0⟩), (3, .av ⟨(.i .i64), .r, v3⟩), (4, .av ⟨(.z (.g 10)), .r, v4⟩), (18, .av ⟨(.i .i64), .r, v18⟩), (24, .av ⟨(.i .i64), .r, v24⟩)])
@[irreducible] noncomputable def p28_2092 (j : Nat) (n0 : Nat) (n1 : Nat) (n2 : Nat) (n3 : Nat) (v0 : List (List UInt8)) (v3 : Int) (v4 : Unit) (v18 : Int) (v24 : Int) (v213 : Bool) : Option (List (List UInt8) × Unit) := piece G 28 [.r, .r, .r, .r, .r, .r, .r, .r, .r, .r, .r, .r] j [n0, n1, n2, n3] (skel 220 0 [(0, .av ⟨(.l .s), (.o .r), v0⟩), (3, .av ⟨(.i .i64), .r, v3⟩), (4, .av ⟨(.z (.g 10)), .r, v4⟩), (18, .av ⟨(.i .i64), .r, v18⟩), (24, .av ⟨(.i .i64), .r, v24⟩), (213, .av ⟨.b, .r, v213⟩)])
@[irreducible] noncomputable def f17 (n : Nat) (a0 : List (List UInt8)) (a1 : Int) (a2 : Unit) : Option (List (List UInt8) × Unit) := F G n 17 (a0, a1, a2, ())
@[irreducible] noncomputable def p17_2 (j : Nat) (n0 : Nat) (v0 : List (List UInt8)) (v1 : Int) (v2 : Unit) (v6 : Int) (v7 : Int) (v8 : Int) : Option (List (List UInt8) × Unit) := piece G 17 [.r, .r, .l, .b] j [n0] (skel 63 0 [(0, .av ⟨(.l .s), (.o .r), v0⟩), (1, .av ⟨(.i .i64), .r, v1⟩), (2, .av ⟨(.z (.g 10)), .r, v2⟩), (6, .av ⟨(.i .i64), .r, v6⟩), (7, .av ⟨(.i .i64), .r, v7⟩), (8, .av ⟨(.i .i64), .r, v8⟩)])
@[irreducible] noncomputable def p17_7 (j : Nat) (n0 : Nat) (v0 : List (List UInt8)) (v1 : Int) (v2 : Unit) (v6 : Int) : Option (List (List UInt8) × Unit) := piece G 17 [.r, .r, .r, .r, .b] j [n0] (skel 63 0 [(0, .av ⟨(.l .s), (.o .r), v0⟩), (1, .av ⟨(.i .i64), .r, v1⟩), (2, .av ⟨(.z (.g 10)), .r, v2⟩), (6, .av ⟨(.i .i64), .r, v6⟩)])
@[irreducible] noncomputable def p17_9 (j : Nat) (n0 : Nat) (n1 : Nat) (v0 : List (List UInt8)) (v1 : Int) (v2 : Unit) (v6 : Int) (v7 : Int) (v8 : Int) : Option (List (List UInt8) × Unit) := piece G 17 [.r, .r, .r, .r, .b, .o, .r, .b, .r, .l, .b] j [n0, n1] (skel 63 0 [(0, .av ⟨(.l .s), (.o .r), v0⟩), (1, .av ⟨(.i .i64), .r, v1⟩), (2, .av ⟨(.z (.g 10)), .r, v2⟩), (6, .av ⟨(.i .i64), .r, v6⟩), (7, .av ⟨(.i .i64), .r, v7⟩), (8, .av ⟨(.i .i64), .r, v8⟩)])
@[irreducible] noncomputable def p17_16 (j : Nat) (n0 : Nat) (n1 : Nat) (v0 : List (List UInt8)) (v1 : Int) (v2 : Unit) (v6 : Int) : Option (List (List UInt8) × Unit) := piece G 17 [.r, .r, .r, .r, .b, .o, .r, .b, .r, .r, .r] j [n0, n1] (skel 63 0 [(0, .av ⟨(.l .s), (.o .r), v0⟩), (1, .av ⟨(.i .i64), .r, v1⟩), (2, .av ⟨(.z (.g 10)), .r, v2⟩), (6, .av ⟨(.i .i64), .r, v6⟩)])
@[irreducible] noncomputable def f9 (n : Nat) (a0 : List (List UInt8)) (a1 : Unit) : Option (List (List UInt8) × Unit) := F G n 9 (a0, a1, ())
@[irreducible] noncomputable def f57 (n : Nat) (a0 : Int) : Option (List UInt8 × Unit) := F G n 57 (a0, ())
@[irreducible] noncomputable def p57_2 (j : Nat) (n0 : Nat) (v0 : Int) (v3 : List UInt8) : Option (List UInt8 × Unit) := piece G 57 [.r, .r, .l, .b] j [n0] (skel 19 0 [(0, .av ⟨(.i .i64), .r, v0⟩), (3, .av ⟨.s, .r, v3⟩)])
@[irreducible] noncomputable def f45 (n : Nat) (a0 : Int) : Option (List UInt8 × Unit) := F G n 45 (a0, ())
@[irreducible] noncomputable def p45_2 (j : Nat) (n0 : Nat) (v3 : List UInt8) : Option (List UInt8 × Unit) := piece G 45 [.r, .r, .l, .b] j [n0] (skel 12 0 [(3, .av ⟨.s, .r, v3⟩)])
@[irreducible] noncomputable def f34 (n : Nat) (a0 : Int) (a1 : Int) : Option (List UInt8 × Int × Unit) := F G n 34 (a0, a1, ())
@[irreducible] noncomputable def p34_2050 (j : Nat) (n0 : Nat) (v0 : Int) (v1 : Int) (v11 : Bool) : Option (List UInt8 × Int × Unit) := piece G 34 [.r, .l, .r] j [n0] (skel 43 0 [(0, .av ⟨(.i .i64), .r, v0⟩), (1, .av ⟨(.i .i64), .r, v1⟩), (11, .av ⟨.b, .r, v11⟩)])
@[irreducible] noncomputable def p34_3 (j : Nat) (n0 : Nat) (v0 : Int) (v1 : Int) : Option (List UInt8 × Int × Unit) := piece G 34 [.r, .r] j [n0] (skel 43 0 [(0, .av ⟨(.i .i64), .r, v0⟩), (1, .av ⟨(.i .i64), .r, v1⟩)])
@[irreducible] noncomputable def p34_2052 (j : Nat) (n0 : Nat) (n1 : Nat) (v0 : Int) (v1 : Int) (v21 : Bool) : Option (List UInt8 × Int × Unit) := piece G 34 [.r, .r, .l, .r] j [n0, n1] (skel 43 0 [(0, .av ⟨(.i .i64), .r, v0⟩), (1, .av ⟨(.i .i64), .r, v1⟩), (21, .av ⟨.b, .r, v21⟩)])
@[irreducible] noncomputable def p34_5 (j : Nat) (n0 : Nat) (n1 : Nat) (v0 : Int) (v1 : Int) : Option (List UInt8 × Int × Unit) := piece G 34 [.r, .r, .r] j [n0, n1] (skel 43 0 [(0, .av ⟨(.i .i64), .r, v0⟩), (1, .av ⟨(.i .i64), .r, v1⟩)])
@[irreducible] noncomputable def f26 (n : Nat) (a0 : List UInt8) : Option (Int × Int × Int × Unit) := F G n 26 (a0, ())
@[irreducible] noncomputable def p26_3 (j : Nat) (n0 : Nat) (v0 : List UInt8) (v5 : Int) (v6 : Int) : Option (Int × Int × Int × Unit) := piece G 26 [.r, .r, .l, .r, .b] j [n0] (skel 57 0 [(0, .av ⟨.s, .r, v0⟩), (5, .av ⟨(.i .i64), .r, v5⟩), (6, .av ⟨(.i .i64), .r, v6⟩)])
@[irreducible] noncomputable def p26_2054 (j : Nat) (n0 : Nat) (n1 : Nat) (v0 : List UInt8) (v5 : Int) (v6 : Int) (v29 : Bool) : Option (Int × Int × Int × Unit) := piece G 26 [.r, .r, .l, .r, .b, .o, .r, .l, .b, .r] j [n0, n1] (skel 57 0 [(0, .av ⟨.s, .r, v0⟩), (5, .av ⟨(.i .i64), .r, v5⟩), (6, .av ⟨(.i .i64), .r, v6⟩), (29, .av ⟨.b, .r, v29⟩)])
@[irreducible] noncomputable def p26_8 (j : Nat) (n0 : Nat) (v0 : List UInt8) (v5 : Int) (v7 : Int) : Option (Int × Int × Int × Unit) := piece G 26 [.r, .r, .r, .l, .r, .b] j [n0] (skel 57 0 [(0, .av ⟨.s, .r, v0⟩), (5, .av ⟨(.i .i64), .r, v5⟩), (7, .av ⟨(.i .i64), .r, v7⟩)])
@[irreducible] noncomputable def p26_4 (j : Nat) (n0 : Nat) (n1 : Nat) (v0 : List UInt8) (v5 : Int) (v6 : Int) : Option (Int × Int × Int × Unit) := piece G 26 [.r, .r, .l, .r, .b, .o, .r, .r] j [n0, n1] (skel 57 0 [(0, .av ⟨.s, .r, v0⟩), (5, .av ⟨(.i .i64), .r, v5⟩), (6, .av ⟨(.i .i64), .r, v6⟩)])
@[irreducible] noncomputable def p26_2060 (j : Nat) (n0 : Nat) (n1 : Nat) (v0 : List UInt8) (v5 : Int) (v7 : Int) (v54 : Bool) : Option (Int × Int × Int × Unit) := piece G 26 [.r, .r, .r, .l, .r, .b, .o, .r, .l, .b, .r, .r] j [n0, n1] (skel 57 0 [(0, .av ⟨.s, .r, v0⟩), (5, .av ⟨(.i .i64), .r, v5⟩), (7, .av ⟨(.i .i64), .r, v7⟩), (54, .av ⟨.b, .r, v54⟩)])
@[irreducible] noncomputable def p26_9 (j : Nat) (n0 : Nat) (n1 : Nat) (v0 : List UInt8) (v5 : Int) (v7 : Int) : Option (Int × Int × Int × Unit) := piece G 26 [.r, .r, .r, .l, .r, .b, .o, .r, .r] j [n0, n1] (skel 57 0 [(0, .av ⟨.s, .r, v0⟩), (5, .av ⟨(.i .i64), .r, v5⟩), (7, .av ⟨(.i .i64), .r, v7⟩)])
@[irreducible] noncomputable def f16 (n : Nat) (a0 : List UInt8) (a1 : List UInt8) : Option (Bool × Unit) := F G n 16 (a0, a1, ())
@[irreducible] noncomputable def f5 (n : Nat) (a0 : List (List UInt8)) : Option (List (List UInt8) × Unit) := F G n 5 (a0, ())
@[irreducible] noncomputable def p5_3 (j : Nat) (n0 : Nat) (v3 : List (List UInt8)) (v4 : List (List UInt8)) : Option (List (List UInt8) × Unit) := piece G 5 [.r, .r, .r, .l, .b] j [n0] (skel 45 0 [(3, .av ⟨(.l .s), (.o .r), v3⟩), (4, .av ⟨(.l .s), (.o .r), v4⟩)])
@[irreducible] noncomputable def p5_6 (j : Nat) (n0 : Nat) (n1 : Nat) (v3 : List (List UInt8)) (v4 : List (List UInt8)) (v5 : Int) (v6 : Int) : Option (List (List UInt8) × Unit) := piece G 5 [.r, .r, .r, .l, .b, .o, .r, .b, .r, .l, .r, .b] j [n0, n1] (skel 45 0 [(3, .av ⟨(.l .s), (.o .r), v3⟩), (4, .av ⟨(.l .s), (.o .r), v4⟩), (5, .av ⟨(.i .i64), .r, v5⟩), (6, .av ⟨(.i .i64), .r, v6⟩)])
@[irreducible] noncomputable def p5_7 (j : Nat) (n0 : Nat) (n1 : Nat) (n2 : Nat) (v3 : List (List UInt8)) (v4 : List (List UInt8)) (v5 : Int) (v6 : Int) : Option (List (List UInt8) × Unit) := piece G 5 [.r, .r, .r, .l, .b, .o, .r, .b, .r, .l, .r, .b, .o, .r, .r] j [n0, n1, n2] (skel 45 0 [(3, .av ⟨(.l .s), (.o .r), v3⟩), (4, .av ⟨(.l .s), (.o .r), v4⟩), (5, .av ⟨(.i .i64), .r, v5⟩), (6, .av ⟨(.i .i64), .r, v6⟩)])
@[irreducible] noncomputable def f4 (n : Nat) (a0 : List (List UInt8)) : Option (List (List UInt8) × Unit) := F G n 4 (a0, ())
@[irreducible] noncomputable def f6 (n : Nat) (a0 : List (List UInt8)) (a1 : List (List UInt8)) : Option (Bool × Unit) := F G n 6 (a0, a1, ())
@[irreducible] noncomputable def p6_4 (j : Nat) (n0 : Nat) (v0 : List (List UInt8)) (v1 : List (List UInt8)) (v5 : Int) : Option (Bool × Unit) := piece G 6 [.r, .r, .l, .r, .b] j [n0] (skel 26 0 [(0, .av ⟨(.l .s), .b, v0⟩), (1, .av ⟨(.l .s), .b, v1⟩), (5, .av ⟨(.i .i64), .r, v5⟩)])
@[irreducible] noncomputable def f7 (n : Nat)  : Option (Bool × Unit) := F G n 7 (())
@[irreducible] noncomputable def f3 (n : Nat) (a0 : List (List UInt8)) : Option (Bool × Unit) := F G n 3 (a0, ())
@[irreducible] noncomputable def p3_3 (j : Nat) (n0 : Nat) (v0 : List (List UInt8)) : Option (Bool × Unit) := piece G 3 [.r, .r] j [n0] (skel 48 0 [(0, .av ⟨(.l .s), .b, v0⟩)])
@[irreducible] noncomputable def p3_2056 (j : Nat) (n0 : Nat) (n1 : Nat) (v0 : List (List UInt8)) (v3 : List (List UInt8)) (v4 : List (List UInt8)) (v35 : Bool) : Option (Bool × Unit) := piece G 3 [.r, .r, .r, .r, .r, .r, .l, .r] j [n0, n1] (skel 48 0 [(0, .av ⟨(.l .s), .b, v0⟩), (3, .av ⟨(.l .s), (.o .r), v3⟩), (4, .av ⟨(.l .s), (.o .r), v4⟩), (35, .av ⟨.b, .r, v35⟩)])
@[irreducible] noncomputable def p3_9 (j : Nat) (n0 : Nat) (n1 : Nat) (v0 : List (List UInt8)) (v3 : List (List UInt8)) (v4 : List (List UInt8)) : Option (Bool × Unit) := piece G 3 [.r, .r, .r, .r, .r, .r, .r] j [n0, n1] (skel 48 0 [(0, .av ⟨(.l .s), .b, v0⟩), (3, .av ⟨(.l .s), (.o .r), v3⟩), (4, .av ⟨(.l .s), (.o .r), v4⟩)])
@[irreducible] noncomputable def p3_10 (j : Nat) (n0 : Nat) (n1 : Nat) (n2 : Nat) (v0 : List (List UInt8)) (v3 : List (List UInt8)) (v4 : List (List UInt8)) (v7 : Int) : Option (Bool × Unit) := piece G 3 [.r, .r, .r, .r, .r, .r, .r, .l, .r, .b] j [n0, n1, n2] (skel 48 0 [(0, .av ⟨(.l .s), .b, v0⟩), (3, .av ⟨(.l .s), (.o .r), v3⟩), (4, .av ⟨(.l .s), (.o .r), v4⟩), (7, .av ⟨(.i .i64), .r, v7⟩)])
theorem f23_eq (n : Nat) (a0 : Int) : f23 (n + 1) a0 =
  (some (a0 != a0, ())) := by kernel_rfl
theorem f24_eq (n : Nat) (a0 : List UInt8) : f24 (n + 1) a0 =
  (some (!a0 == a0, ())) := by kernel_rfl
theorem f25_eq (n : Nat) (a0 : Int) : f25 (n + 1) a0 =
  (some (a0 != a0, ())) := by kernel_rfl
theorem f12_eq (n : Nat) (a0 : Int) (a1 : Int) : f12 (n + 1) a0 a1 =
  (obind (f23 n (a0)) fun r42 =>
   (obind (f23 n (a1)) fun r75 =>
    (sel (r42.fst)
     (sel (r75.fst)
      (some ((0 : Int), ()))
      (some ((-1 : Int), ())))
     (sel (r75.fst)
      (some ((1 : Int), ()))
      (sel (Decidable.decide (a0 < a1))
       (some ((-1 : Int), ()))
       (sel (Decidable.decide (a0 > a1))
        (some ((1 : Int), ()))
        (some ((0 : Int), ())))))))) := by kernel_rfl
theorem f13_eq (n : Nat) (a0 : List UInt8) (a1 : List UInt8) : f13 (n + 1) a0 a1 =
  (obind (f24 n (a0)) fun r42 =>
   (obind (f24 n (a1)) fun r75 =>
    (sel (r42.fst)
     (sel (r75.fst)
      (some ((0 : Int), ()))
      (some ((-1 : Int), ())))
     (sel (r75.fst)
      (some ((1 : Int), ()))
      (sel (Go.Op.bytesLess a0 a1)
       (some ((-1 : Int), ()))
       (sel (!(Go.Op.bytesLess a0 a1 || a0 == a1))
        (some ((1 : Int), ()))
        (some ((0 : Int), ())))))))) := by kernel_rfl
theorem f14_eq (n : Nat) (a0 : List (Int)) : f14 (n + 1) a0 =
  (p14_3 (n) (n) ((0 : Int)) (a0) ((↑a0.length : Int)) ((0 : Int))) := by kernel_rfl
theorem p14_3_eq (j : Nat) (n0 : Nat) (v3 : Int) (v6 : List (Int)) (v7 : Int) (v8 : Int) : p14_3 (j + 1) n0 v3 v6 v7 v8 =
  (sel (Decidable.decide (v8 < v7))
   (sel (Decidable.decide ((0 : Int) ≤ v8))
    (sel (Decidable.decide (v8 < (↑v6.length : Int)))
     (sel (v6.getD v8.toNat (0 : Int) != v3)
      (some (v6.getD v8.toNat (0 : Int), ()))
      (p14_3 (j) (n0) (v3) (v6) (v7) (Go.IntKind.i64.wrap (v8 + (1 : Int)))))
     none)
    none)
   (some (v3, ()))) := by kernel_rfl
theorem f15_eq (n : Nat) (a0 : Int) (a1 : Int) : f15 (n + 1) a0 a1 =
  (obind (f25 n (a0)) fun r42 =>
   (obind (f25 n (a1)) fun r75 =>
    (sel (r42.fst)
     (sel (r75.fst)
      (some ((0 : Int), ()))
      (some ((-1 : Int), ())))
     (sel (r75.fst)
      (some ((1 : Int), ()))
      (sel (Decidable.decide (a0 < a1))
       (some ((-1 : Int), ()))
       (sel (Decidable.decide (a0 > a1))
        (some ((1 : Int), ()))
        (some ((0 : Int), ())))))))) := by kernel_rfl
theorem f36_eq (n : Nat) (a0 : List UInt8) (a1 : List UInt8) : f36 (n + 1) a0 a1 =
  (sel (Decidable.decide ((↑a0.length : Int) ≥ (↑a1.length : Int)))
   (sel (Decidable.decide ((0 : Int) ≤ (↑a1.length : Int)))
    (sel (Decidable.decide ((↑a1.length : Int) ≤ (↑a0.length : Int)))
     (some (Lk.ext a0 (0 : Int) (↑a1.length : Int) == a1, ()))
     none)
    none)
   (some (Bool.false, ()))) := by kernel_rfl
theorem f29_eq (n : Nat) (a0 : List UInt8) (a1 : List UInt8) : f29 (n + 1) a0 a1 =
  (obind (f36 n (a0) (a1)) fun r57 =>
   (sel (!r57.fst)
    (some (a0, Bool.false, ()))
    (sel (Decidable.decide ((0 : Int) ≤ (↑a1.length : Int)))
     (sel (Decidable.decide ((↑a1.length : Int) ≤ (↑a0.length : Int)))
      (some (Lk.ext a0 (↑a1.length : Int) (↑a0.length : Int), Bool.true, ()))
      none)
     none))) := by kernel_rfl
theorem f18_eq (n : Nat) (a0 : List UInt8) (a1 : List UInt8) : f18 (n + 1) a0 a1 =
  (obind (f29 n (a0) (a1)) fun r56 =>
   (some (r56.fst, r56.snd.fst, ()))) := by kernel_rfl
theorem f37_eq (n : Nat) (a0 : List UInt8) (a1 : List UInt8) : f37 (n + 1) a0 a1 =
  (sel (Decidable.decide ((↑a0.length : Int) ≥ (↑a1.length : Int)))
   (sel (Decidable.decide ((0 : Int) ≤ Go.IntKind.i64.wrap ((↑a0.length : Int) - (↑a1.length : Int))))
    (sel (Decidable.decide (Go.IntKind.i64.wrap ((↑a0.length : Int) - (↑a1.length : Int)) ≤ (↑a0.length : Int)))
     (some (Lk.ext a0 (Go.IntKind.i64.wrap ((↑a0.length : Int) - (↑a1.length : Int))) (↑a0.length : Int) == a1, ()))
     none)
    none)
   (some (Bool.false, ()))) := by kernel_rfl
theorem f30_eq (n : Nat) (a0 : List UInt8) (a1 : List UInt8) : f30 (n + 1) a0 a1 =
  (obind (f37 n (a0) (a1)) fun r57 =>
   (sel (!r57.fst)
    (some (a0, Bool.false, ()))
    (sel (Decidable.decide ((0 : Int) ≤ Go.IntKind.i64.wrap ((↑a0.length : Int) - (↑a1.length : Int))))
     (sel (Decidable.decide (Go.IntKind.i64.wrap ((↑a0.length : Int) - (↑a1.length : Int)) ≤ (↑a0.length : Int)))
      (some (Lk.ext a0 (0 : Int) (Go.IntKind.i64.wrap ((↑a0.length : Int) - (↑a1.length : Int))), Bool.true, ()))
      none)
     none))) := by kernel_rfl
theorem f19_eq (n : Nat) (a0 : List UInt8) (a1 : List UInt8) : f19 (n + 1) a0 a1 =
  (obind (f30 n (a0) (a1)) fun r56 =>
   (some (r56.fst, r56.snd.fst, ()))) := by kernel_rfl
theorem f33_eq (n : Nat) (a0 : Int) : f33 (n + 1) a0 =
  (obind (f43 n (a0)) fun r42 =>
   (obind (f44 n ([(48 : UInt8)]) (Lk.imax (Go.IntKind.i64.wrap ((6 : Int) - (↑(List.length r42.fst) : Int))) (0 : Int))) fun r96 =>
    (sel (Decidable.decide (List.length r96.fst + List.length r42.fst ≤ Lk.big))
     (some (r96.fst ++ r42.fst, ()))
     none))) := by kernel_rfl
theorem f20_eq (n : Nat) (a0 : Int) : f20 (n + 1) a0 =
  (sel (a0 == (1 : Int))
   (some ([(46 : UInt8), (108 : UInt8), (111 : UInt8), (103 : UInt8)], ()))
   (sel (a0 == (2 : Int))
    (some ([(46 : UInt8), (116 : UInt8), (97 : UInt8), (98 : UInt8)], ()))
    (sel (a0 == (5 : Int))
     (some ([(46 : UInt8), (116 : UInt8), (109 : UInt8), (112 : UInt8)], ()))
     (some ([], ()))))) := by kernel_rfl
theorem f22_eq (n : Nat) (a0 : Int) (a1 : Int) : f22 (n + 1) a0 a1 =
  (sel (a0 == (4 : Int))
   (p22_2050 (n) (n) (a0) (a1) (a1 == (0 : Int)))
   (p22_2050 (n) (n) (a0) (a1) (Bool.false))) := by kernel_rfl
theorem p22_2050_eq (j : Nat) (n0 : Nat) (v0 : Int) (v1 : Int) (v6 : Bool) : p22_2050 (j + 1) n0 v0 v1 v6 =
  (sel (v6)
   (some ([(67 : UInt8), (85 : UInt8), (82 : UInt8), (82 : UInt8), (69 : UInt8), (78 : UInt8), (84 : UInt8)], (0 : Int), ()))
   (sel (v0 == (4 : Int))
    (p22_2052 (j) (n0) (j) (v0) (v1) (Bool.true))
    (sel (Decidable.decide (v0 < (1 : Int)))
     (p22_2052 (j) (n0) (j) (v0) (v1) (Bool.true))
     (sel (Decidable.decide (v0 > (5 : Int)))
      (p22_2052 (j) (n0) (j) (v0) (v1) (Bool.true))
      (sel (Decidable.decide (v1 < (1 : Int)))
       (p22_2052 (j) (n0) (j) (v0) (v1) (Bool.true))
       (p22_2052 (j) (n0) (j) (v0) (v1) (Decidable.decide (v1 > (2147483647 : Int))))))))) := by kernel_rfl
theorem p22_2052_eq (j : Nat) (n0 : Nat) (n1 : Nat) (v0 : Int) (v1 : Int) (v13 : Bool) : p22_2052 (j + 1) n0 n1 v0 v1 v13 =
  (sel (v13)
   (some ([], (60 : Int), ()))
   (sel (v0 == (3 : Int))
    (obind (f33 j (v1)) fun r789 =>
     (sel (Decidable.decide ((9 : Nat) + List.length r789.fst ≤ Lk.big))
      (some ([(77 : UInt8), (65 : UInt8), (78 : UInt8), (73 : UInt8), (70 : UInt8), (69 : UInt8), (83 : UInt8), (84 : UInt8), (45 : UInt8)] ++ r789.fst, (0 : Int), ()))
      none))
    (p22_7 (n0) (n0) (v0) (v1)))) := by kernel_rfl
theorem p22_7_eq (j : Nat) (n0 : Nat) (v0 : Int) (v1 : Int) : p22_7 (j + 1) n0 v0 v1 =
  (obind (f33 j (v1)) fun r860 =>
   (obind (f20 j (v0)) fun r877 =>
    (sel (Decidable.decide (List.length r860.fst + List.length r877.fst ≤ Lk.big))
     (some (r860.fst ++ r877.fst, (0 : Int), ()))
     none))) := by kernel_rfl
theorem f52_eq (n : Nat) (a0 : List UInt8) (a1 : List UInt8) : f52 (n + 1) a0 a1 =
  (obind (f36 n (a0) (a1)) fun r49 =>
   (some (r49.fst, ()))) := by kernel_rfl
theorem f11_eq (n : Nat) (a0 : List UInt8) : f11 (n + 1) a0 =
  (sel (a0 == [(67 : UInt8), (85 : UInt8), (82 : UInt8), (82 : UInt8), (69 : UInt8), (78 : UInt8), (84 : UInt8)])
   (some ((4 : Int), (0 : Int), (0 : Int), ()))
   (obind (f18 n (a0) ([(77 : UInt8), (65 : UInt8), (78 : UInt8), (73 : UInt8), (70 : UInt8), (69 : UInt8), (83 : UInt8), (84 : UInt8), (45 : UInt8)])) fun r148 =>
    (sel (r148.snd.fst)
     (p11_7 (n) (n) (a0) ((3 : Int)) (r148.fst))
     (p11_7 (n) (n) (a0) ((0 : Int)) ([]))))) := by kernel_rfl
theorem p11_7_eq (j : Nat) (n0 : Nat) (v0 : List UInt8) (v2 : Int) (v5 : List UInt8) : p11_7 (j + 1) n0 v0 v2 v5 =
  (p11_8 (j) (n0) (j) (v0) (v2) (v5) ([(1 : Int), (2 : Int), (5 : Int)]) ((↑(3 : Nat) : Int)) ((0 : Int))) := by kernel_rfl
theorem p11_8_eq (j : Nat) (n0 : Nat) (n1 : Nat) (v0 : List UInt8) (v2 : Int) (v5 : List UInt8) (v24 : List (Int)) (v25 : Int) (v26 : Int) : p11_8 (j + 1) n0 n1 v0 v2 v5 v24 v25 v26 =
  (sel (Decidable.decide (v26 < v25))
   (sel (Decidable.decide ((0 : Int) ≤ v26))
    (sel (Decidable.decide (v26 < (↑v24.length : Int)))
     (obind (f20 j (v24.getD v26.toNat (0 : Int))) fun r367 =>
      (obind (f19 j (v0) (r367.fst)) fun r377 =>
       (sel (r377.snd.fst)
        (p11_2060 (j) (n0) (n1) (j) (v0) (v2) (v5) (v24.getD v26.toNat (0 : Int)) (r377.fst) (v24) (v25) (v26) (v2 == (0 : Int)))
        (p11_2060 (j) (n0) (n1) (j) (v0) (v2) (v5) (v24.getD v26.toNat (0 : Int)) (r377.fst) (v24) (v25) (v26) (Bool.false)))))
     none)
    none)
   (obind (f21 n1 (v5)) fun r529 =>
    (sel (r529.snd.fst)
     (some ((0 : Int), (0 : Int), (60 : Int), ()))
     (obind (f22 n1 (v2) (r529.fst)) fun r673 =>
      (sel (r673.snd.fst != (0 : Int))
       (p11_2067 (n1) (n0) (n1) (v2) (r529.fst) (Bool.true))
       (p11_2067 (n1) (n0) (n1) (v2) (r529.fst) (!r673.fst == v0))))))) := by kernel_rfl
theorem p11_2060_eq (j : Nat) (n0 : Nat) (n1 : Nat) (n2 : Nat) (v0 : List UInt8) (v2 : Int) (v5 : List UInt8) (v9 : Int) (v10 : List UInt8) (v24 : List (Int)) (v25 : Int) (v26 : Int) (v41 : Bool) : p11_2060 (j + 1) n0 n1 n2 v0 v2 v5 v9 v10 v24 v25 v26 v41 =
  (sel (v41)
   (p11_13 (n2) (n0) (n1) (n2) (v0) (v9) (v10) (v24) (v25) (v26))
   (p11_13 (n2) (n0) (n1) (n2) (v0) (v2) (v5) (v24) (v25) (v26))) := by kernel_rfl
theorem p11_2067_eq (j : Nat) (n0 : Nat) (n1 : Nat) (v2 : Int) (v3 : Int) (v64 : Bool) : p11_2067 (j + 1) n0 n1 v2 v3 v64 =
  (sel (v64)
   (some ((0 : Int), (0 : Int), (60 : Int), ()))
   (p11_20 (n1) (n0) (n1) (v2) (v3))) := by kernel_rfl
theorem p11_13_eq (j : Nat) (n0 : Nat) (n1 : Nat) (n2 : Nat) (v0 : List UInt8) (v2 : Int) (v5 : List UInt8) (v24 : List (Int)) (v25 : Int) (v26 : Int) : p11_13 (j + 1) n0 n1 n2 v0 v2 v5 v24 v25 v26 =
  (p11_8 (n2) (n0) (n1) (v0) (v2) (v5) (v24) (v25) (Go.IntKind.i64.wrap (v26 + (1 : Int)))) := by kernel_rfl
theorem p11_20_eq (j : Nat) (n0 : Nat) (n1 : Nat) (v2 : Int) (v3 : Int) : p11_20 (j + 1) n0 n1 v2 v3 =
  (some (v2, v3, (0 : Int), ())) := by kernel_rfl
theorem f10_eq (n : Nat) (a0 : List UInt8) (a1 : List UInt8) : f10 (n + 1) a0 a1 =
  (obind (f11 n (a0)) fun r42 =>
   (obind (f11 n (a1)) fun r117 =>
    (sel (r42.snd.snd.fst != r117.snd.snd.fst)
     (obind (f12 n (r42.snd.snd.fst) (r117.snd.snd.fst)) fun r242 =>
      (some (r242.fst, ())))
     (sel (r42.snd.snd.fst != (0 : Int))
      (obind (f13 n (a0) (a1)) fun r331 =>
       (some (r331.fst, ())))
      (obind (f15 n (r42.fst) (r117.fst)) fun r392 =>
       (obind (f15 n (r42.snd.fst) (r117.snd.fst)) fun r416 =>
        (obind (f14 n ([r392.fst, r416.fst])) fun r433 =>
         (some (r433.fst, ()))))))))) := by kernel_rfl
theorem f46_eq (n : Nat) (a0 : List (List UInt8)) (a1 : Int) (a2 : Int) (a3 : Int) (a4 : Unit) : f46 (n + 1) a0 a1 a2 a3 a4 =
  (p46_1 (n) (n) (a0) (a1) (a2) (a3) ((0 : Int))) := by kernel_rfl
theorem p46_1_eq (j : Nat) (n0 : Nat) (v0 : List (List UInt8)) (v1 : Int) (v2 : Int) (v3 : Int) (v10 : Int) : p46_1 (j + 1) n0 v0 v1 v2 v3 v10 =
  (sel (Decidable.decide (v10 < v3))
   (sel (Decidable.decide ((0 : Int) ≤ Go.IntKind.i64.wrap (v2 + v10)))
    (sel (Decidable.decide (Go.IntKind.i64.wrap (v2 + v10) < (↑v0.length : Int)))
     (sel (Decidable.decide ((0 : Int) ≤ Go.IntKind.i64.wrap (v1 + v10)))
      (sel (Decidable.decide (Go.IntKind.i64.wrap (v1 + v10) < (↑v0.length : Int)))
       (sel (Decidable.decide ((0 : Int) ≤ Go.IntKind.i64.wrap (v1 + v10)))
        (sel (Decidable.decide (Go.IntKind.i64.wrap (v1 + v10) < (↑v0.length : Int)))
         (sel (Decidable.decide ((0 : Int) ≤ Go.IntKind.i64.wrap (v2 + v10)))
          (sel (Decidable.decide (Go.IntKind.i64.wrap (v2 + v10) < (↑(v0.set (Go.IntKind.i64.wrap (v1 + v10)).toNat (v0.getD (Go.IntKind.i64.wrap (v2 + v10)).toNat [])).length : Int)))
           (p46_1 (j) (n0) ((v0.set (Go.IntKind.i64.wrap (v1 + v10)).toNat (v0.getD (Go.IntKind.i64.wrap (v2 + v10)).toNat [])).set (Go.IntKind.i64.wrap (v2 + v10)).toNat (v0.getD (Go.IntKind.i64.wrap (v1 + v10)).toNat [])) (v1) (v2) (v3) (Go.IntKind.i64.wrap (v10 + (1 : Int))))
           none)
          none)
         none)
        none)
       none)
      none)
     none)
    none)
   (some (v0, ()))) := by kernel_rfl
theorem f35_eq (n : Nat) (a0 : List (List UInt8)) (a1 : Int) (a2 : Int) (a3 : Int) (a4 : Unit) : f35 (n + 1) a0 a1 a2 a3 a4 =
  (p35_2 (n) (n) (a0) (a2) (a4) (Go.IntKind.i64.wrap (a2 - a1)) (Go.IntKind.i64.wrap (a3 - a2))) := by kernel_rfl
theorem p35_2_eq (j : Nat) (n0 : Nat) (v0 : List (List UInt8)) (v2 : Int) (v4 : Unit) (v10 : Int) (v11 : Int) : p35_2 (j + 1) n0 v0 v2 v4 v10 v11 =
  (sel (v10 != v11)
   (sel (Decidable.decide (v10 > v11))
    (obind (f46 j (v0) (Go.IntKind.i64.wrap (v2 - v10)) (v2) (v11) (v4)) fun r223 =>
     (p35_2 (j) (n0) (r223.fst) (v2) (v4) (Go.IntKind.i64.wrap (v10 - v11)) (v11)))
    (obind (f46 j (v0) (Go.IntKind.i64.wrap (v2 - v10)) (Go.IntKind.i64.wrap (Go.IntKind.i64.wrap (v2 + v11) - v10)) (v10) (v4)) fun r358 =>
     (p35_2 (j) (n0) (r358.fst) (v2) (v4) (v10) (Go.IntKind.i64.wrap (v11 - v10)))))
   (obind (f46 n0 (v0) (Go.IntKind.i64.wrap (v2 - v10)) (v2) (v10) (v4)) fun r475 =>
    (some (r475.fst, ())))) := by kernel_rfl
theorem f27_eq (n : Nat) (a0 : List (List UInt8)) (a1 : Int) (a2 : Int) (a3 : Unit) : f27 (n + 1) a0 a1 a2 a3 =
  (p27_1 (n) (n) (a0) (a1) (a2) (a3) (Go.IntKind.i64.wrap (a1 + (1 : Int)))) := by kernel_rfl
theorem p27_1_eq (j : Nat) (n0 : Nat) (v0 : List (List UInt8)) (v1 : Int) (v2 : Int) (v3 : Unit) (v8 : Int) : p27_1 (j + 1) n0 v0 v1 v2 v3 v8 =
  (sel (Decidable.decide (v8 < v2))
   (p27_4 (j) (n0) (j) (v0) (v1) (v2) (v3) (v8) (v8))
   (some (v0, ()))) := by kernel_rfl
theorem p27_4_eq (j : Nat) (n0 : Nat) (n1 : Nat) (v0 : List (List UInt8)) (v1 : Int) (v2 : Int) (v3 : Unit) (v8 : Int) (v9 : Int) : p27_4 (j + 1) n0 n1 v0 v1 v2 v3 v8 v9 =
  (sel (Decidable.decide (v9 > v1))
   (sel (Decidable.decide ((0 : Int) ≤ v9))
    (sel (Decidable.decide (v9 < (↑v0.length : Int)))
     (sel (Decidable.decide ((0 : Int) ≤ Go.IntKind.i64.wrap (v9 - (1 : Int))))
      (sel (Decidable.decide (Go.IntKind.i64.wrap (v9 - (1 : Int)) < (↑v0.length : Int)))
       (obind (f10 j (v0.getD v9.toNat []) (v0.getD (Go.IntKind.i64.wrap (v9 - (1 : Int))).toNat [])) fun r312 =>
        (sel (Decidable.decide (r312.fst < (0 : Int)))
         (p27_6 (j) (n0) (n1) (j) (v0) (v1) (v2) (v3) (v8) (v9))
         (p27_2 (n1) (n0) (n1) (v0) (v1) (v2) (v3) (v8))))
       none)
      none)
     none)
    none)
   (p27_2 (n1) (n0) (n1) (v0) (v1) (v2) (v3) (v8))) := by kernel_rfl
theorem p27_6_eq (j : Nat) (n0 : Nat) (n1 : Nat) (n2 : Nat) (v0 : List (List UInt8)) (v1 : Int) (v2 : Int) (v3 : Unit) (v8 : Int) (v9 : Int) : p27_6 (j + 1) n0 n1 n2 v0 v1 v2 v3 v8 v9 =
  (sel (Decidable.decide ((0 : Int) ≤ Go.IntKind.i64.wrap (v9 - (1 : Int))))
   (sel (Decidable.decide (Go.IntKind.i64.wrap (v9 - (1 : Int)) < (↑v0.length : Int)))
    (sel (Decidable.decide ((0 : Int) ≤ v9))
     (sel (Decidable.decide (v9 < (↑v0.length : Int)))
      (sel (Decidable.decide ((0 : Int) ≤ v9))
       (sel (Decidable.decide (v9 < (↑v0.length : Int)))
        (sel (Decidable.decide ((0 : Int) ≤ Go.IntKind.i64.wrap (v9 - (1 : Int))))
         (sel (Decidable.decide (Go.IntKind.i64.wrap (v9 - (1 : Int)) < (↑(v0.set v9.toNat (v0.getD (Go.IntKind.i64.wrap (v9 - (1 : Int))).toNat [])).length : Int)))
          (p27_4 (n2) (n0) (n1) ((v0.set v9.toNat (v0.getD (Go.IntKind.i64.wrap (v9 - (1 : Int))).toNat [])).set (Go.IntKind.i64.wrap (v9 - (1 : Int))).toNat (v0.getD v9.toNat [])) (v1) (v2) (v3) (v8) (Go.IntKind.i64.wrap (v9 - (1 : Int))))
          none)
         none)
        none)
       none)
      none)
     none)
    none)
   none) := by kernel_rfl
theorem p27_2_eq (j : Nat) (n0 : Nat) (n1 : Nat) (v0 : List (List UInt8)) (v1 : Int) (v2 : Int) (v3 : Unit) (v8 : Int) : p27_2 (j + 1) n0 n1 v0 v1 v2 v3 v8 =
  (p27_1 (n1) (n0) (v0) (v1) (v2) (v3) (Go.IntKind.i64.wrap (v8 + (1 : Int)))) := by kernel_rfl
theorem f28_eq (n : Nat) (a0 : List (List UInt8)) (a1 : Int) (a2 : Int) (a3 : Int) (a4 : Unit) : f28 (n + 1) a0 a1 a2 a3 a4 =
  (sel (Go.IntKind.i64.wrap (a2 - a1) == (1 : Int))
   (p28_3 (n) (n) (a0) (a1) (a4) (a2) (a3))
   (sel (Go.IntKind.i64.wrap (a3 - a2) == (1 : Int))
    (p28_15 (n) (n) (a0) (a2) (a4) (a1) (a2))
    (sel (Decidable.decide ((0 : Int) ≤ (1 : Int)))
     (sel (Decidable.decide (a2 > Go.IntKind.i64.wrap ((Go.IntKind.u64.wrap (Go.IntKind.i64.wrap (a1 + a3))).fdiv ((2 : Int) ^ Min.min (Int.toNat (1 : Int)) Go.IntKind.u64.bits))))
      (p28_32 (n) (n) (a0) (a1) (a2) (a3) (a4) (Go.IntKind.i64.wrap ((Go.IntKind.u64.wrap (Go.IntKind.i64.wrap (a1 + a3))).fdiv ((2 : Int) ^ Min.min (Int.toNat (1 : Int)) Go.IntKind.u64.bits))) (Go.IntKind.i64.wrap (Go.IntKind.i64.wrap ((Go.IntKind.u64.wrap (Go.IntKind.i64.wrap (a1 + a3))).fdiv ((2 : Int) ^ Min.min (Int.toNat (1 : Int)) Go.IntKind.u64.bits)) + a2)) (Go.IntKind.i64.wrap (Go.IntKind.i64.wrap (Go.IntKind.i64.wrap ((Go.IntKind.u64.wrap (Go.IntKind.i64.wrap (a1 + a3))).fdiv ((2 : Int) ^ Min.min (Int.toNat (1 : Int)) Go.IntKind.u64.bits)) + a2) - a3)) (Go.IntKind.i64.wrap ((Go.IntKind.u64.wrap (Go.IntKind.i64.wrap (a1 + a3))).fdiv ((2 : Int) ^ Min.min (Int.toNat (1 : Int)) Go.IntKind.u64.bits))))
      (p28_32 (n) (n) (a0) (a1) (a2) (a3) (a4) (Go.IntKind.i64.wrap ((Go.IntKind.u64.wrap (Go.IntKind.i64.wrap (a1 + a3))).fdiv ((2 : Int) ^ Min.min (Int.toNat (1 : Int)) Go.IntKind.u64.bits))) (Go.IntKind.i64.wrap (Go.IntKind.i64.wrap ((Go.IntKind.u64.wrap (Go.IntKind.i64.wrap (a1 + a3))).fdiv ((2 : Int) ^ Min.min (Int.toNat (1 : Int)) Go.IntKind.u64.bits)) + a2)) (a1) (a2)))
     none))) := by kernel_rfl
theorem p28_3_eq (j : Nat) (n0 : Nat) (v0 : List (List UInt8)) (v1 : Int) (v4 : Unit) (v10 : Int) (v11 : Int) : p28_3 (j + 1) n0 v0 v1 v4 v10 v11 =
  (sel (Decidable.decide (v10 < v11))
   (sel (Decidable.decide ((0 : Int) ≤ (1 : Int)))
    (sel (Decidable.decide ((0 : Int) ≤ Go.IntKind.i64.wrap ((Go.IntKind.u64.wrap (Go.IntKind.i64.wrap (v10 + v11))).fdiv ((2 : Int) ^ Min.min (Int.toNat (1 : Int)) Go.IntKind.u64.bits))))
     (sel (Decidable.decide (Go.IntKind.i64.wrap ((Go.IntKind.u64.wrap (Go.IntKind.i64.wrap (v10 + v11))).fdiv ((2 : Int) ^ Min.min (Int.toNat (1 : Int)) Go.IntKind.u64.bits)) < (↑v0.length : Int)))
      (sel (Decidable.decide ((0 : Int) ≤ v1))
       (sel (Decidable.decide (v1 < (↑v0.length : Int)))
        (obind (f10 j (v0.getD (Go.IntKind.i64.wrap ((Go.IntKind.u64.wrap (Go.IntKind.i64.wrap (v10 + v11))).fdiv ((2 : Int) ^ Min.min (Int.toNat (1 : Int)) Go.IntKind.u64.bits))).toNat []) (v0.getD v1.toNat [])) fun r636 =>
         (sel (Decidable.decide (r636.fst < (0 : Int)))
          (p28_3 (j) (n0) (v0) (v1) (v4) (Go.IntKind.i64.wrap (Go.IntKind.i64.wrap ((Go.IntKind.u64.wrap (Go.IntKind.i64.wrap (v10 + v11))).fdiv ((2 : Int) ^ Min.min (Int.toNat (1 : Int)) Go.IntKind.u64.bits)) + (1 : Int))) (v11))
          (p28_3 (j) (n0) (v0) (v1) (v4) (v10) (Go.IntKind.i64.wrap ((Go.IntKind.u64.wrap (Go.IntKind.i64.wrap (v10 + v11))).fdiv ((2 : Int) ^ Min.min (Int.toNat (1 : Int)) Go.IntKind.u64.bits))))))
        none)
       none)
      none)
     none)
    none)
   (p28_9 (n0) (n0) (v0) (v10) (v1))) := by kernel_rfl
theorem p28_15_eq (j : Nat) (n0 : Nat) (v0 : List (List UInt8)) (v2 : Int) (v4 : Unit) (v14 : Int) (v15 : Int) : p28_15 (j + 1) n0 v0 v2 v4 v14 v15 =
  (sel (Decidable.decide (v14 < v15))
   (sel (Decidable.decide ((0 : Int) ≤ (1 : Int)))
    (sel (Decidable.decide ((0 : Int) ≤ v2))
     (sel (Decidable.decide (v2 < (↑v0.length : Int)))
      (sel (Decidable.decide ((0 : Int) ≤ Go.IntKind.i64.wrap ((Go.IntKind.u64.wrap (Go.IntKind.i64.wrap (v14 + v15))).fdiv ((2 : Int) ^ Min.min (Int.toNat (1 : Int)) Go.IntKind.u64.bits))))
       (sel (Decidable.decide (Go.IntKind.i64.wrap ((Go.IntKind.u64.wrap (Go.IntKind.i64.wrap (v14 + v15))).fdiv ((2 : Int) ^ Min.min (Int.toNat (1 : Int)) Go.IntKind.u64.bits)) < (↑v0.length : Int)))
        (obind (f10 j (v0.getD v2.toNat []) (v0.getD (Go.IntKind.i64.wrap ((Go.IntKind.u64.wrap (Go.IntKind.i64.wrap (v14 + v15))).fdiv ((2 : Int) ^ Min.min (Int.toNat (1 : Int)) Go.IntKind.u64.bits))).toNat [])) fun r926 =>
         (sel (!Decidable.decide (r926.fst < (0 : Int)))
          (p28_15 (j) (n0) (v0) (v2) (v4) (Go.IntKind.i64.wrap (Go.IntKind.i64.wrap ((Go.IntKind.u64.wrap (Go.IntKind.i64.wrap (v14 + v15))).fdiv ((2 : Int) ^ Min.min (Int.toNat (1 : Int)) Go.IntKind.u64.bits)) + (1 : Int))) (v15))
          (p28_15 (j) (n0) (v0) (v2) (v4) (v14) (Go.IntKind.i64.wrap ((Go.IntKind.u64.wrap (Go.IntKind.i64.wrap (v14 + v15))).fdiv ((2 : Int) ^ Min.min (Int.toNat (1 : Int)) Go.IntKind.u64.bits))))))
        none)
       none)
      none)
     none)
    none)
   (p28_21 (n0) (n0) (v0) (v14) (v2))) := by kernel_rfl
theorem p28_32_eq (j : Nat) (n0 : Nat) (v0 : List (List UInt8)) (v1 : Int) (v2 : Int) (v3 : Int) (v4 : Unit) (v18 : Int) (v19 : Int) (v20 : Int) (v21 : Int) : p28_32 (j + 1) n0 v0 v1 v2 v3 v4 v18 v19 v20 v21 =
  (p28_33 (j) (n0) (j) (v0) (v1) (v2) (v3) (v4) (v18) (v19) (v20) (v21) (Go.IntKind.i64.wrap (v19 - (1 : Int)))) := by kernel_rfl
theorem p28_9_eq (j : Nat) (n0 : Nat) (v0 : List (List UInt8)) (v10 : Int) (v13 : Int) : p28_9 (j + 1) n0 v0 v10 v13 =
  (sel (Decidable.decide (v13 < Go.IntKind.i64.wrap (v10 - (1 : Int))))
   (sel (Decidable.decide ((0 : Int) ≤ Go.IntKind.i64.wrap (v13 + (1 : Int))))
    (sel (Decidable.decide (Go.IntKind.i64.wrap (v13 + (1 : Int)) < (↑v0.length : Int)))
     (sel (Decidable.decide ((0 : Int) ≤ v13))
      (sel (Decidable.decide (v13 < (↑v0.length : Int)))
       (sel (Decidable.decide ((0 : Int) ≤ v13))
        (sel (Decidable.decide (v13 < (↑v0.length : Int)))
         (sel (Decidable.decide ((0 : Int) ≤ Go.IntKind.i64.wrap (v13 + (1 : Int))))
          (sel (Decidable.decide (Go.IntKind.i64.wrap (v13 + (1 : Int)) < (↑(v0.set v13.toNat (v0.getD (Go.IntKind.i64.wrap (v13 + (1 : Int))).toNat [])).length : Int)))
           (p28_9 (j) (n0) ((v0.set v13.toNat (v0.getD (Go.IntKind.i64.wrap (v13 + (1 : Int))).toNat [])).set (Go.IntKind.i64.wrap (v13 + (1 : Int))).toNat (v0.getD v13.toNat [])) (v10) (Go.IntKind.i64.wrap (v13 + (1 : Int))))
           none)
          none)
         none)
        none)
       none)
      none)
     none)
    none)
   (some (v0, ()))) := by kernel_rfl
theorem p28_21_eq (j : Nat) (n0 : Nat) (v0 : List (List UInt8)) (v14 : Int) (v17 : Int) : p28_21 (j + 1) n0 v0 v14 v17 =
  (sel (Decidable.decide (v17 > v14))
   (sel (Decidable.decide ((0 : Int) ≤ Go.IntKind.i64.wrap (v17 - (1 : Int))))
    (sel (Decidable.decide (Go.IntKind.i64.wrap (v17 - (1 : Int)) < (↑v0.length : Int)))
     (sel (Decidable.decide ((0 : Int) ≤ v17))
      (sel (Decidable.decide (v17 < (↑v0.length : Int)))
       (sel (Decidable.decide ((0 : Int) ≤ v17))
        (sel (Decidable.decide (v17 < (↑v0.length : Int)))
         (sel (Decidable.decide ((0 : Int) ≤ Go.IntKind.i64.wrap (v17 - (1 : Int))))
          (sel (Decidable.decide (Go.IntKind.i64.wrap (v17 - (1 : Int)) < (↑(v0.set v17.toNat (v0.getD (Go.IntKind.i64.wrap (v17 - (1 : Int))).toNat [])).length : Int)))
           (p28_21 (j) (n0) ((v0.set v17.toNat (v0.getD (Go.IntKind.i64.wrap (v17 - (1 : Int))).toNat [])).set (Go.IntKind.i64.wrap (v17 - (1 : Int))).toNat (v0.getD v17.toNat [])) (v14) (Go.IntKind.i64.wrap (v17 - (1 : Int))))
           none)
          none)
         none)
        none)
       none)
      none)
     none)
    none)
   (some (v0, ()))) := by kernel_rfl
theorem p28_33_eq (j : Nat) (n0 : Nat) (n1 : Nat) (v0 : List (List UInt8)) (v1 : Int) (v2 : Int) (v3 : Int) (v4 : Unit) (v18 : Int) (v19 : Int) (v20 : Int) (v21 : Int) (v22 : Int) : p28_33 (j + 1) n0 n1 v0 v1 v2 v3 v4 v18 v19 v20 v21 v22 =
  (sel (Decidable.decide (v20 < v21))
   (sel (Decidable.decide ((0 : Int) ≤ (1 : Int)))
    (sel (Decidable.decide ((0 : Int) ≤ Go.IntKind.i64.wrap (v22 - Go.IntKind.i64.wrap ((Go.IntKind.u64.wrap (Go.IntKind.i64.wrap (v20 + v21))).fdiv ((2 : Int) ^ Min.min (Int.toNat (1 : Int)) Go.IntKind.u64.bits)))))
     (sel (Decidable.decide (Go.IntKind.i64.wrap (v22 - Go.IntKind.i64.wrap ((Go.IntKind.u64.wrap (Go.IntKind.i64.wrap (v20 + v21))).fdiv ((2 : Int) ^ Min.min (Int.toNat (1 : Int)) Go.IntKind.u64.bits))) < (↑v0.length : Int)))
      (sel (Decidable.decide ((0 : Int) ≤ Go.IntKind.i64.wrap ((Go.IntKind.u64.wrap (Go.IntKind.i64.wrap (v20 + v21))).fdiv ((2 : Int) ^ Min.min (Int.toNat (1 : Int)) Go.IntKind.u64.bits))))
       (sel (Decidable.decide (Go.IntKind.i64.wrap ((Go.IntKind.u64.wrap (Go.IntKind.i64.wrap (v20 + v21))).fdiv ((2 : Int) ^ Min.min (Int.toNat (1 : Int)) Go.IntKind.u64.bits)) < (↑v0.length : Int)))
        (obind (f10 j (v0.getD (Go.IntKind.i64.wrap (v22 - Go.IntKind.i64.wrap ((Go.IntKind.u64.wrap (Go.IntKind.i64.wrap (v20 + v21))).fdiv ((2 : Int) ^ Min.min (Int.toNat (1 : Int)) Go.IntKind.u64.bits)))).toNat []) (v0.getD (Go.IntKind.i64.wrap ((Go.IntKind.u64.wrap (Go.IntKind.i64.wrap (v20 + v21))).fdiv ((2 : Int) ^ Min.min (Int.toNat (1 : Int)) Go.IntKind.u64.bits))).toNat [])) fun r1805 =>
         (sel (!Decidable.decide (r1805.fst < (0 : Int)))
          (p28_33 (j) (n0) (n1) (v0) (v1) (v2) (v3) (v4) (v18) (v19) (Go.IntKind.i64.wrap (Go.IntKind.i64.wrap ((Go.IntKind.u64.wrap (Go.IntKind.i64.wrap (v20 + v21))).fdiv ((2 : Int) ^ Min.min (Int.toNat (1 : Int)) Go.IntKind.u64.bits)) + (1 : Int))) (v21) (v22))
          (p28_33 (j) (n0) (n1) (v0) (v1) (v2) (v3) (v4) (v18) (v19) (v20) (Go.IntKind.i64.wrap ((Go.IntKind.u64.wrap (Go.IntKind.i64.wrap (v20 + v21))).fdiv ((2 : Int) ^ Min.min (Int.toNat (1 : Int)) Go.IntKind.u64.bits))) (v22))))
        none)
       none)
      none)
     none)
    none)
   (sel (Decidable.decide (v20 < v2))
    (p28_2088 (n1) (n0) (n1) (v0) (v1) (v2) (v3) (v4) (v18) (v20) (Go.IntKind.i64.wrap (v19 - v20)) (Decidable.decide (v2 < Go.IntKind.i64.wrap (v19 - v20))))
    (p28_2088 (n1) (n0) (n1) (v0) (v1) (v2) (v3) (v4) (v18) (v20) (Go.IntKind.i64.wrap (v19 - v20)) (Bool.false)))) := by kernel_rfl
theorem p28_2088_eq (j : Nat) (n0 : Nat) (n1 : Nat) (v0 : List (List UInt8)) (v1 : Int) (v2 : Int) (v3 : Int) (v4 : Unit) (v18 : Int) (v20 : Int) (v24 : Int) (v185 : Bool) : p28_2088 (j + 1) n0 n1 v0 v1 v2 v3 v4 v18 v20 v24 v185 =
  (sel (v185)
   (obind (f35 j (v0) (v20) (v2) (v24) (v4)) fun r2105 =>
    (p28_41 (n1) (n0) (n1) (r2105.fst) (v1) (v3) (v4) (v18) (v20) (v24)))
   (p28_41 (n1) (n0) (n1) (v0) (v1) (v3) (v4) (v18) (v20) (v24))) := by kernel_rfl
theorem p28_41_eq (j : Nat) (n0 : Nat) (n1 : Nat) (v0 : List (List UInt8)) (v1 : Int) (v3 : Int) (v4 : Unit) (v18 : Int) (v20 : Int) (v24 : Int) : p28_41 (j + 1) n0 n1 v0 v1 v3 v4 v18 v20 v24 =
  (sel (Decidable.decide (v1 < v20))
   (p28_2090 (j) (n0) (n1) (j) (v0) (v1) (v3) (v4) (v18) (v20) (v24) (Decidable.decide (v20 < v18)))
   (p28_2090 (j) (n0) (n1) (j) (v0) (v1) (v3) (v4) (v18) (v20) (v24) (Bool.false))) := by kernel_rfl
theorem p28_2090_eq (j : Nat) (n0 : Nat) (n1 : Nat) (n2 : Nat) (v0 : List (List UInt8)) (v1 : Int) (v3 : Int) (v4 : Unit) (v18 : Int) (v20 : Int) (v24 : Int) (v199 : Bool) : p28_2090 (j + 1) n0 n1 n2 v0 v1 v3 v4 v18 v20 v24 v199 =
  (sel (v199)
   (obind (f28 j (v0) (v1) (v20) (v18) (v4)) fun r2290 =>
    (p28_43 (n2) (n0) (n1) (n2) (r2290.fst) (v3) (v4) (v18) (v24)))
   (p28_43 (n2) (n0) (n1) (n2) (v0) (v3) (v4) (v18) (v24))) := by kernel_rfl
theorem p28_43_eq (j : Nat) (n0 : Nat) (n1 : Nat) (n2 : Nat) (v0 : List (List UInt8)) (v3 : Int) (v4 : Unit) (v18 : Int) (v24 : Int) : p28_43 (j + 1) n0 n1 n2 v0 v3 v4 v18 v24 =
  (sel (Decidable.decide (v18 < v24))
   (p28_2092 (j) (n0) (n1) (n2) (j) (v0) (v3) (v4) (v18) (v24) (Decidable.decide (v24 < v3)))
   (p28_2092 (j) (n0) (n1) (n2) (j) (v0) (v3) (v4) (v18) (v24) (Bool.false))) := by kernel_rfl
theorem p28_2092_eq (j : Nat) (n0 : Nat) (n1 : Nat) (n2 : Nat) (n3 : Nat) (v0 : List (List UInt8)) (v3 : Int) (v4 : Unit) (v18 : Int) (v24 : Int) (v213 : Bool) : p28_2092 (j + 1) n0 n1 n2 n3 v0 v3 v4 v18 v24 v213 =
  (sel (v213)
   (obind (f28 j (v0) (v18) (v24) (v3) (v4)) fun r2474 =>
    (some (r2474.fst, ())))
   (some (v0, ()))) := by kernel_rfl
theorem f17_eq (n : Nat) (a0 : List (List UInt8)) (a1 : Int) (a2 : Unit) : f17 (n + 1) a0 a1 a2 =
  (p17_2 (n) (n) (a0) (a1) (a2) ((20 : Int)) ((0 : Int)) ((20 : Int))) := by kernel_rfl
theorem p17_2_eq (j : Nat) (n0 : Nat) (v0 : List (List UInt8)) (v1 : Int) (v2 : Unit) (v6 : Int) (v7 : Int) (v8 : Int) : p17_2 (j + 1) n0 v0 v1 v2 v6 v7 v8 =
  (sel (Decidable.decide (v8 ≤ v1))
   (obind (f27 j (v0) (v7) (v8) (v2)) fun r140 =>
    (p17_2 (j) (n0) (r140.fst) (v1) (v2) (v6) (v8) (Go.IntKind.i64.wrap (v8 + v6))))
   (obind (f27 n0 (v0) (v7) (v1) (v2)) fun r260 =>
    (p17_7 (n0) (n0) (r260.fst) (v1) (v2) (v6)))) := by kernel_rfl
theorem p17_7_eq (j : Nat) (n0 : Nat) (v0 : List (List UInt8)) (v1 : Int) (v2 : Unit) (v6 : Int) : p17_7 (j + 1) n0 v0 v1 v2 v6 =
  (sel (Decidable.decide (v6 < v1))
   (p17_9 (j) (n0) (j) (v0) (v1) (v2) (v6) ((0 : Int)) (Go.IntKind.i64.wrap ((2 : Int) * v6)))
   (some (v0, ()))) := by kernel_rfl
theorem p17_9_eq (j : Nat) (n0 : Nat) (n1 : Nat) (v0 : List (List UInt8)) (v1 : Int) (v2 : Unit) (v6 : Int) (v7 : Int) (v8 : Int) : p17_9 (j + 1) n0 n1 v0 v1 v2 v6 v7 v8 =
  (sel (Decidable.decide (v8 ≤ v1))
   (obind (f28 j (v0) (v7) (Go.IntKind.i64.wrap (v7 + v6)) (v8) (v2)) fun r479 =>
    (p17_9 (j) (n0) (n1) (r479.fst) (v1) (v2) (v6) (v8) (Go.IntKind.i64.wrap (v8 + Go.IntKind.i64.wrap ((2 : Int) * v6)))))
   (sel (Decidable.decide (Go.IntKind.i64.wrap (v7 + v6) < v1))
    (obind (f28 n1 (v0) (v7) (Go.IntKind.i64.wrap (v7 + v6)) (v1) (v2)) fun r684 =>
     (p17_16 (n1) (n0) (n1) (r684.fst) (v1) (v2) (v6)))
    (p17_16 (n1) (n0) (n1) (v0) (v1) (v2) (v6)))) := by kernel_rfl
theorem p17_16_eq (j : Nat) (n0 : Nat) (n1 : Nat) (v0 : List (List UInt8)) (v1 : Int) (v2 : Unit) (v6 : Int) : p17_16 (j + 1) n0 n1 v0 v1 v2 v6 =
  (p17_7 (n1) (n0) (v0) (v1) (v2) (Go.IntKind.i64.wrap (v6 * (2 : Int)))) := by kernel_rfl
theorem f9_eq (n : Nat) (a0 : List (List UInt8)) (a1 : Unit) : f9 (n + 1) a0 a1 =
  (obind (f17 n (a0) ((↑a0.length : Int)) (a1)) fun r46 =>
   (some (r46.fst, ()))) := by kernel_rfl
theorem f57_eq (n : Nat) (a0 : Int) : f57 (n + 1) a0 =
  (p57_2 (n) (n) (a0) ([])) := by kernel_rfl
theorem p57_2_eq (j : Nat) (n0 : Nat) (v0 : Int) (v3 : List UInt8) : p57_2 (j + 1) n0 v0 v3 =
  (sel (Decidable.decide (v0 > (0 : Int)))
   (sel ((10 : Int) != (0 : Int))
    (sel (Decidable.decide ((1 : Nat) + v3.length ≤ Lk.big))
     (sel ((10 : Int) != (0 : Int))
      (p57_2 (j) (n0) (Go.IntKind.i64.wrap (v0.tdiv (10 : Int))) ([UInt8.ofNat (Go.IntKind.u8.wrap (Go.IntKind.i64.wrap ((48 : Int) + v0.tmod (10 : Int)))).toNat] ++ v3))
      none)
     none)
    none)
   (sel (v3 == [])
    (some ([(48 : UInt8)], ()))
    (some (v3, ())))) := by kernel_rfl
theorem f45_eq (n : Nat) (a0 : Int) : f45 (n + 1) a0 =
  (obind (f57 n (a0)) fun r42 =>
   (p45_2 (n) (n) (r42.fst))) := by kernel_rfl
theorem p45_2_eq (j : Nat) (n0 : Nat) (v3 : List UInt8) : p45_2 (j + 1) n0 v3 =
  (sel (Decidable.decide ((↑v3.length : Int) < (6 : Int)))
   (sel (Decidable.decide ((1 : Nat) + v3.length ≤ Lk.big))
    (p45_2 (j) (n0) ([(48 : UInt8)] ++ v3))
    none)
   (some (v3, ()))) := by kernel_rfl
theorem f34_eq (n : Nat) (a0 : Int) (a1 : Int) : f34 (n + 1) a0 a1 =
  (sel (a0 == (4 : Int))
   (p34_2050 (n) (n) (a0) (a1) (a1 == (0 : Int)))
   (p34_2050 (n) (n) (a0) (a1) (Bool.false))) := by kernel_rfl
theorem p34_2050_eq (j : Nat) (n0 : Nat) (v0 : Int) (v1 : Int) (v11 : Bool) : p34_2050 (j + 1) n0 v0 v1 v11 =
  (sel (v11)
   (some ([(67 : UInt8), (85 : UInt8), (82 : UInt8), (82 : UInt8), (69 : UInt8), (78 : UInt8), (84 : UInt8)], (0 : Int), ()))
   (p34_3 (n0) (n0) (v0) (v1))) := by kernel_rfl
theorem p34_3_eq (j : Nat) (n0 : Nat) (v0 : Int) (v1 : Int) : p34_3 (j + 1) n0 v0 v1 =
  (sel (v0 == (4 : Int))
   (p34_2052 (j) (n0) (j) (v0) (v1) (Bool.true))
   (sel (Decidable.decide (v1 < (1 : Int)))
    (p34_2052 (j) (n0) (j) (v0) (v1) (Bool.true))
    (p34_2052 (j) (n0) (j) (v0) (v1) (Decidable.decide (v1 > (2147483647 : Int)))))) := by kernel_rfl
theorem p34_2052_eq (j : Nat) (n0 : Nat) (n1 : Nat) (v0 : Int) (v1 : Int) (v21 : Bool) : p34_2052 (j + 1) n0 n1 v0 v1 v21 =
  (sel (v21)
   (some ([], (60 : Int), ()))
   (p34_5 (n1) (n0) (n1) (v0) (v1))) := by kernel_rfl
theorem p34_5_eq (j : Nat) (n0 : Nat) (n1 : Nat) (v0 : Int) (v1 : Int) : p34_5 (j + 1) n0 n1 v0 v1 =
  (sel (v0 == (1 : Int))
   (obind (f45 j (v1)) fun r465 =>
    (sel (Decidable.decide (List.length r465.fst + (4 : Nat) ≤ Lk.big))
     (some (r465.fst ++ [(46 : UInt8), (108 : UInt8), (111 : UInt8), (103 : UInt8)], (0 : Int), ()))
     none))
   (sel (v0 == (2 : Int))
    (obind (f45 j (v1)) fun r554 =>
     (sel (Decidable.decide (List.length r554.fst + (4 : Nat) ≤ Lk.big))
      (some (r554.fst ++ [(46 : UInt8), (116 : UInt8), (97 : UInt8), (98 : UInt8)], (0 : Int), ()))
      none))
    (sel (v0 == (5 : Int))
     (obind (f45 j (v1)) fun r643 =>
      (sel (Decidable.decide (List.length r643.fst + (4 : Nat) ≤ Lk.big))
       (some (r643.fst ++ [(46 : UInt8), (116 : UInt8), (109 : UInt8), (112 : UInt8)], (0 : Int), ()))
       none))
     (sel (v0 == (3 : Int))
      (obind (f45 j (v1)) fun r732 =>
       (sel (Decidable.decide ((9 : Nat) + List.length r732.fst ≤ Lk.big))
        (some ([(77 : UInt8), (65 : UInt8), (78 : UInt8), (73 : UInt8), (70 : UInt8), (69 : UInt8), (83 : UInt8), (84 : UInt8), (45 : UInt8)] ++ r732.fst, (0 : Int), ()))
        none))
      (some ([], (60 : Int), ())))))) := by kernel_rfl
theorem f26_eq (n : Nat) (a0 : List UInt8) : f26 (n + 1) a0 =
  (p26_3 (n) (n) (a0) ((0 : Int)) ((0 : Int))) := by kernel_rfl
theorem p26_3_eq (j : Nat) (n0 : Nat) (v0 : List UInt8) (v5 : Int) (v6 : Int) : p26_3 (j + 1) n0 v0 v5 v6 =
  (sel (Decidable.decide (v6 < (↑v0.length : Int)))
   (sel (Decidable.decide ((0 : Int) ≤ v6))
    (sel (Decidable.decide (v6 < (↑v0.length : Int)))
     (sel (Decidable.decide ((↑(v0.getD v6.toNat (0 : UInt8)).toNat : Int) ≥ (↑(UInt8.toNat (48 : UInt8)) : Int)))
      (sel (Decidable.decide ((0 : Int) ≤ v6))
       (sel (Decidable.decide (v6 < (↑v0.length : Int)))
        (sel (Decidable.decide ((↑(v0.getD v6.toNat (0 : UInt8)).toNat : Int) ≤ (↑(UInt8.toNat (57 : UInt8)) : Int)))
         (p26_2054 (j) (n0) (j) (v0) (v5) (v6) (Decidable.decide (v5 ≤ (2147483647 : Int))))
         (p26_2054 (j) (n0) (j) (v0) (v5) (v6) (Bool.false)))
        none)
       none)
      (p26_2054 (j) (n0) (j) (v0) (v5) (v6) (Bool.false)))
     none)
    none)
   (p26_8 (n0) (n0) (v0) (v5) ((1 : Int)))) := by kernel_rfl
theorem p26_2054_eq (j : Nat) (n0 : Nat) (n1 : Nat) (v0 : List UInt8) (v5 : Int) (v6 : Int) (v29 : Bool) : p26_2054 (j + 1) n0 n1 v0 v5 v6 v29 =
  (sel (v29)
   (sel (Decidable.decide ((0 : Int) ≤ v6))
    (sel (Decidable.decide (v6 < (↑v0.length : Int)))
     (p26_4 (n1) (n0) (n1) (v0) (Go.IntKind.i64.wrap (Go.IntKind.i64.wrap (v5 * (10 : Int)) + Go.IntKind.i64.wrap (↑(UInt8.ofNat (Go.IntKind.u8.wrap ((↑(v0.getD v6.toNat (0 : UInt8)).toNat : Int) - (↑(UInt8.toNat (48 : UInt8)) : Int))).toNat).toNat : Int))) (v6))
     none)
    none)
   (p26_4 (n1) (n0) (n1) (v0) (v5) (v6))) := by kernel_rfl
theorem p26_8_eq (j : Nat) (n0 : Nat) (v0 : List UInt8) (v5 : Int) (v7 : Int) : p26_8 (j + 1) n0 v0 v5 v7 =
  (sel (Decidable.decide (v7 ≤ (5 : Int)))
   (obind (f34 j (v7) (v5)) fun r549 =>
    (sel (r549.snd.fst == (0 : Int))
     (p26_2060 (j) (n0) (j) (v0) (v5) (v7) (r549.fst == v0))
     (p26_2060 (j) (n0) (j) (v0) (v5) (v7) (Bool.false))))
   (some ((0 : Int), (0 : Int), (60 : Int), ()))) := by kernel_rfl
theorem p26_4_eq (j : Nat) (n0 : Nat) (n1 : Nat) (v0 : List UInt8) (v5 : Int) (v6 : Int) : p26_4 (j + 1) n0 n1 v0 v5 v6 =
  (p26_3 (n1) (n0) (v0) (v5) (Go.IntKind.i64.wrap (v6 + (1 : Int)))) := by kernel_rfl
theorem p26_2060_eq (j : Nat) (n0 : Nat) (n1 : Nat) (v0 : List UInt8) (v5 : Int) (v7 : Int) (v54 : Bool) : p26_2060 (j + 1) n0 n1 v0 v5 v7 v54 =
  (sel (v54)
   (some (v7, v5, (0 : Int), ()))
   (p26_9 (n1) (n0) (n1) (v0) (v5) (v7))) := by kernel_rfl
theorem p26_9_eq (j : Nat) (n0 : Nat) (n1 : Nat) (v0 : List UInt8) (v5 : Int) (v7 : Int) : p26_9 (j + 1) n0 n1 v0 v5 v7 =
  (p26_8 (n1) (n0) (v0) (v5) (Go.IntKind.i64.wrap (v7 + (1 : Int)))) := by kernel_rfl
theorem f16_eq (n : Nat) (a0 : List UInt8) (a1 : List UInt8) : f16 (n + 1) a0 a1 =
  (obind (f26 n (a0)) fun r42 =>
   (obind (f26 n (a1)) fun r117 =>
    (sel (r42.snd.snd.fst != r117.snd.snd.fst)
     (some (r42.snd.snd.fst == (0 : Int), ()))
     (sel (r42.snd.snd.fst != (0 : Int))
      (some (Go.Op.bytesLess a0 a1, ()))
      (sel (Decidable.decide (r42.fst < r117.fst))
       (some (Bool.true, ()))
       (sel (r42.fst == r117.fst)
        (some (Decidable.decide (r42.snd.fst < r117.snd.fst), ()))
        (some (Bool.false, ())))))))) := by kernel_rfl
theorem f5_eq (n : Nat) (a0 : List (List UInt8)) : f5 (n + 1) a0 =
  (sel (Decidable.decide ((0 : Nat) + a0.length ≤ (1073741824 : Nat)))
   (p5_3 (n) (n) ([] ++ a0) ([]))
   none) := by kernel_rfl
theorem p5_3_eq (j : Nat) (n0 : Nat) (v3 : List (List UInt8)) (v4 : List (List UInt8)) : p5_3 (j + 1) n0 v3 v4 =
  (sel (Decidable.decide ((↑v3.length : Int) > (0 : Int)))
   (p5_6 (j) (n0) (j) (v3) (v4) ((0 : Int)) ((1 : Int)))
   (some (v4, ()))) := by kernel_rfl
theorem p5_6_eq (j : Nat) (n0 : Nat) (n1 : Nat) (v3 : List (List UInt8)) (v4 : List (List UInt8)) (v5 : Int) (v6 : Int) : p5_6 (j + 1) n0 n1 v3 v4 v5 v6 =
  (sel (Decidable.decide (v6 < (↑v3.length : Int)))
   (sel (Decidable.decide ((0 : Int) ≤ v6))
    (sel (Decidable.decide (v6 < (↑v3.length : Int)))
     (sel (Decidable.decide ((0 : Int) ≤ v5))
      (sel (Decidable.decide (v5 < (↑v3.length : Int)))
       (obind (f16 j (v3.getD v6.toNat []) (v3.getD v5.toNat [])) fun r326 =>
        (sel (r326.fst)
         (p5_7 (j) (n0) (n1) (j) (v3) (v4) (v6) (v6))
         (p5_7 (j) (n0) (n1) (j) (v3) (v4) (v5) (v6))))
       none)
      none)
     none)
    none)
   (sel (Decidable.decide ((0 : Int) ≤ v5))
    (sel (Decidable.decide (v5 < (↑v3.length : Int)))
     (sel (Decidable.decide (v4.length + (1 : Nat) ≤ (1073741824 : Nat)))
      (sel (Decidable.decide ((0 : Int) ≤ v5))
       (sel (Decidable.decide (v5 ≤ (↑v3.length : Int)))
        (sel (Decidable.decide ((0 : Int) ≤ Go.IntKind.i64.wrap (v5 + (1 : Int))))
         (sel (Decidable.decide (Go.IntKind.i64.wrap (v5 + (1 : Int)) ≤ (↑v3.length : Int)))
          (sel (Decidable.decide ((Lk.ext v3 (0 : Int) v5).length + (Lk.ext v3 (Go.IntKind.i64.wrap (v5 + (1 : Int))) (↑v3.length : Int)).length ≤ (1073741824 : Nat)))
           (p5_3 (n1) (n0) (Lk.ext v3 (0 : Int) v5 ++ Lk.ext v3 (Go.IntKind.i64.wrap (v5 + (1 : Int))) (↑v3.length : Int)) (v4 ++ [v3.getD v5.toNat []]))
           none)
          none)
         none)
        none)
       none)
      none)
     none)
    none)) := by kernel_rfl
theorem p5_7_eq (j : Nat) (n0 : Nat) (n1 : Nat) (n2 : Nat) (v3 : List (List UInt8)) (v4 : List (List UInt8)) (v5 : Int) (v6 : Int) : p5_7 (j + 1) n0 n1 n2 v3 v4 v5 v6 =
  (p5_6 (n2) (n0) (n1) (v3) (v4) (v5) (Go.IntKind.i64.wrap (v6 + (1 : Int)))) := by kernel_rfl
theorem f4_eq (n : Nat) (a0 : List (List UInt8)) : f4 (n + 1) a0 =
  (obind (f8 n (a0)) fun r42 =>
   (obind (f9 n (r42.fst) (())) fun r75 =>
    (some (r75.fst, ())))) := by kernel_rfl
theorem f6_eq (n : Nat) (a0 : List (List UInt8)) (a1 : List (List UInt8)) : f6 (n + 1) a0 a1 =
  (sel ((↑a0.length : Int) != (↑a1.length : Int))
   (some (Bool.false, ()))
   (p6_4 (n) (n) (a0) (a1) ((0 : Int)))) := by kernel_rfl
theorem p6_4_eq (j : Nat) (n0 : Nat) (v0 : List (List UInt8)) (v1 : List (List UInt8)) (v5 : Int) : p6_4 (j + 1) n0 v0 v1 v5 =
  (sel (Decidable.decide (v5 < (↑v0.length : Int)))
   (sel (Decidable.decide ((0 : Int) ≤ v5))
    (sel (Decidable.decide (v5 < (↑v0.length : Int)))
     (sel (Decidable.decide ((0 : Int) ≤ v5))
      (sel (Decidable.decide (v5 < (↑v1.length : Int)))
       (sel (!v0.getD v5.toNat [] == v1.getD v5.toNat [])
        (some (Bool.false, ()))
        (p6_4 (j) (n0) (v0) (v1) (Go.IntKind.i64.wrap (v5 + (1 : Int)))))
       none)
      none)
     none)
    none)
   (some (Bool.true, ()))) := by kernel_rfl
theorem f7_eq (n : Nat)  : f7 (n + 1)  =
  (some (Bool.true, ())) := by kernel_rfl
theorem f3_eq (n : Nat) (a0 : List (List UInt8)) : f3 (n + 1) a0 =
  (sel (Decidable.decide ((↑a0.length : Int) > (2000 : Int)))
   (sel (Decidable.decide ((0 : Int) ≤ (2000 : Int)))
    (sel (Decidable.decide ((2000 : Int) ≤ (↑a0.length : Int)))
     (p3_3 (n) (n) (Lk.ext a0 (0 : Int) (2000 : Int)))
     none)
    none)
   (p3_3 (n) (n) (a0))) := by kernel_rfl
theorem p3_3_eq (j : Nat) (n0 : Nat) (v0 : List (List UInt8)) : p3_3 (j + 1) n0 v0 =
  (sel (Decidable.decide ((0 : Nat) + v0.length ≤ (1073741824 : Nat)))
   (obind (f4 j ([] ++ v0)) fun r151 =>
    (obind (f5 j (v0)) fun r184 =>
     (obind (f4 j ([[(98 : UInt8)], [(97 : UInt8)]])) fun r217 =>
      (obind (f6 j (r151.fst) (r184.fst)) fun r258 =>
       (sel (!r258.fst)
        (p3_2056 (j) (n0) (j) (v0) ([] ++ v0) (r151.fst) (Bool.true))
        (obind (f6 j (r217.fst) ([[(97 : UInt8)], [(98 : UInt8)]])) fun r391 =>
         (sel (!r391.fst)
          (p3_2056 (j) (n0) (j) (v0) ([] ++ v0) (r151.fst) (Bool.true))
          (obind (f7 j ) fun r457 =>
           (p3_2056 (j) (n0) (j) (v0) ([] ++ v0) (r151.fst) (!r457.fst))))))))))
   none) := by kernel_rfl
theorem p3_2056_eq (j : Nat) (n0 : Nat) (n1 : Nat) (v0 : List (List UInt8)) (v3 : List (List UInt8)) (v4 : List (List UInt8)) (v35 : Bool) : p3_2056 (j + 1) n0 n1 v0 v3 v4 v35 =
  (sel (v35)
   (some (Bool.false, ()))
   (p3_9 (n1) (n0) (n1) (v0) (v3) (v4))) := by kernel_rfl
theorem p3_9_eq (j : Nat) (n0 : Nat) (n1 : Nat) (v0 : List (List UInt8)) (v3 : List (List UInt8)) (v4 : List (List UInt8)) : p3_9 (j + 1) n0 n1 v0 v3 v4 =
  (p3_10 (j) (n0) (n1) (j) (v0) (v3) (v4) ((0 : Int))) := by kernel_rfl
theorem p3_10_eq (j : Nat) (n0 : Nat) (n1 : Nat) (n2 : Nat) (v0 : List (List UInt8)) (v3 : List (List UInt8)) (v4 : List (List UInt8)) (v7 : Int) : p3_10 (j + 1) n0 n1 n2 v0 v3 v4 v7 =
  (sel (Decidable.decide (v7 < (↑v4.length : Int)))
   (sel (Decidable.decide ((0 : Int) ≤ v7))
    (sel (Decidable.decide (v7 < (↑v4.length : Int)))
     (p3_10 (j) (n0) (n1) (n2) (v0) (v3) (v4.set v7.toNat [(115 : UInt8), (112 : UInt8), (111 : UInt8), (105 : UInt8), (108 : UInt8), (116 : UInt8)]) (Go.IntKind.i64.wrap (v7 + (1 : Int))))
     none)
    none)
   (obind (f6 n2 (v3) (v0)) fun r703 =>
    (some (r703.fst, ())))) := by kernel_rfl
end SoG

namespace SoG
open Go Lk
noncomputable def theFnsO : So.FnsO where
  f43 := f43
  f44 := f44
  f21 := f21
  f8 := f8
  f23 := f23
  f24 := f24
  f25 := f25
  f12 := f12
  f13 := f13
  f14 := f14
  p14_3 := p14_3
  f15 := f15
  f36 := f36
  f29 := f29
  f18 := f18
  f37 := f37
  f30 := f30
  f19 := f19
  f33 := f33
  f20 := f20
  f22 := f22
  p22_2050 := p22_2050
  p22_2052 := p22_2052
  p22_7 := p22_7
  f52 := f52
  f11 := f11
  p11_7 := p11_7
  p11_8 := p11_8
  p11_2060 := p11_2060
  p11_2067 := p11_2067
  p11_13 := p11_13
  p11_20 := p11_20
  f10 := f10
  f46 := f46
  p46_1 := p46_1
  f35 := f35
  p35_2 := p35_2
  f27 := f27
  p27_1 := p27_1
  p27_4 := p27_4
  p27_6 := p27_6
  p27_2 := p27_2
  f28 := f28
  p28_3 := p28_3
  p28_15 := p28_15
  p28_32 := p28_32
  p28_9 := p28_9
  p28_21 := p28_21
  p28_33 := p28_33
  p28_2088 := p28_2088
  p28_41 := p28_41
  p28_2090 := p28_2090
  p28_43 := p28_43
  p28_2092 := p28_2092
  f17 := f17
  p17_2 := p17_2
  p17_7 := p17_7
  p17_9 := p17_9
  p17_16 := p17_16
  f9 := f9
  f57 := f57
  p57_2 := p57_2
  f45 := f45
  p45_2 := p45_2
  f34 := f34
  p34_2050 := p34_2050
  p34_3 := p34_3
  p34_2052 := p34_2052
  p34_5 := p34_5
  f26 := f26
  p26_3 := p26_3
  p26_2054 := p26_2054
  p26_8 := p26_8
  p26_4 := p26_4
  p26_2060 := p26_2060
  p26_9 := p26_9
  f16 := f16
  f5 := f5
  p5_3 := p5_3
  p5_6 := p5_6
  p5_7 := p5_7
  f4 := f4
  f6 := f6
  p6_4 := p6_4
  f7 := f7
  f3 := f3
  p3_3 := p3_3
  p3_2056 := p3_2056
  p3_9 := p3_9
  p3_10 := p3_10
  f43_eq := f43_eq
  f44_eq := f44_eq
  f21_eq := f21_eq
  f8_eq := f8_eq
  f23_eq := f23_eq
  f24_eq := f24_eq
  f25_eq := f25_eq
  f12_eq := f12_eq
  f13_eq := f13_eq
  f14_eq := f14_eq
  p14_3_eq := p14_3_eq
  f15_eq := f15_eq
  f36_eq := f36_eq
  f29_eq := f29_eq
  f18_eq := f18_eq
  f37_eq := f37_eq
  f30_eq := f30_eq
  f19_eq := f19_eq
  f33_eq := f33_eq
  f20_eq := f20_eq
  f22_eq := f22_eq
  p22_2050_eq := p22_2050_eq
  p22_2052_eq := p22_2052_eq
  p22_7_eq := p22_7_eq
  f52_eq := f52_eq
  f11_eq := f11_eq
  p11_7_eq := p11_7_eq
  p11_8_eq := p11_8_eq
  p11_2060_eq := p11_2060_eq
  p11_2067_eq := p11_2067_eq
  p11_13_eq := p11_13_eq
  p11_20_eq := p11_20_eq
  f10_eq := f10_eq
  f46_eq := f46_eq
  p46_1_eq := p46_1_eq
  f35_eq := f35_eq
  p35_2_eq := p35_2_eq
  f27_eq := f27_eq
  p27_1_eq := p27_1_eq
  p27_4_eq := p27_4_eq
  p27_6_eq := p27_6_eq
  p27_2_eq := p27_2_eq
  f28_eq := f28_eq
  p28_3_eq := p28_3_eq
  p28_15_eq := p28_15_eq
  p28_32_eq := p28_32_eq
  p28_9_eq := p28_9_eq
  p28_21_eq := p28_21_eq
  p28_33_eq := p28_33_eq
  p28_2088_eq := p28_2088_eq
  p28_41_eq := p28_41_eq
  p28_2090_eq := p28_2090_eq
  p28_43_eq := p28_43_eq
  p28_2092_eq := p28_2092_eq
  f17_eq := f17_eq
  p17_2_eq := p17_2_eq
  p17_7_eq := p17_7_eq
  p17_9_eq := p17_9_eq
  p17_16_eq := p17_16_eq
  f9_eq := f9_eq
  f57_eq := f57_eq
  p57_2_eq := p57_2_eq
  f45_eq := f45_eq
  p45_2_eq := p45_2_eq
  f34_eq := f34_eq
  p34_2050_eq := p34_2050_eq
  p34_3_eq := p34_3_eq
  p34_2052_eq := p34_2052_eq
  p34_5_eq := p34_5_eq
  f26_eq := f26_eq
  p26_3_eq := p26_3_eq
  p26_2054_eq := p26_2054_eq
  p26_8_eq := p26_8_eq
  p26_4_eq := p26_4_eq
  p26_2060_eq := p26_2060_eq
  p26_9_eq := p26_9_eq
  f16_eq := f16_eq
  f5_eq := f5_eq
  p5_3_eq := p5_3_eq
  p5_6_eq := p5_6_eq
  p5_7_eq := p5_7_eq
  f4_eq := f4_eq
  f6_eq := f6_eq
  p6_4_eq := p6_4_eq
  f7_eq := f7_eq
  f3_eq := f3_eq
  p3_3_eq := p3_3_eq
  p3_2056_eq := p3_2056_eq
  p3_9_eq := p3_9_eq
  p3_10_eq := p3_10_eq
end SoG

namespace Nq
open Go Lk NqG
set_option linter.unusedVariables false

structure FnsM where
  f72 (n : Nat) (a0 : Int) : Option (List UInt8 × Unit)
  f73 (n : Nat) (a0 : List UInt8) (a1 : Int) : Option (List UInt8 × Unit)
  f25 (n : Nat) (a0 : Int) (a1 : Int) : Option (List UInt8 × Int × Unit)
  p25_2050 (j : Nat) (n0 : Nat) (v0 : Int) (v1 : Int) (v6 : Bool) : Option (List UInt8 × Int × Unit)
  p25_2052 (j : Nat) (n0 : Nat) (n1 : Nat) (v0 : Int) (v1 : Int) (v13 : Bool) : Option (List UInt8 × Int × Unit)
  p25_7 (j : Nat) (n0 : Nat) (v0 : Int) (v1 : Int) : Option (List UInt8 × Int × Unit)
  f50 (n : Nat) (a0 : Int) : Option (List UInt8 × Unit)
  f51 (n : Nat) (a0 : Int) : Option (List UInt8 × Unit)
  f72_eq (n : Nat) (a0 : Int) : f72 n a0 = bif decide (-9223372036854775808 ≤ a0) && decide (a0 ≤ 9223372036854775807) then some (Lib.itoa a0, ()) else none
  f73_eq (n : Nat) (a0 : List UInt8) (a1 : Int) : f73 n a0 a1 = bif decide (0 ≤ a1) && decide (a1 ≤ 1073741824) && Nat.ble a0.length 100 then some (Lib.repeatL a0 a1.toNat, ()) else none
  f25_eq (n : Nat) (a0 : Int) (a1 : Int) : f25 (n + 1) a0 a1 =
  (sel (a0 == (4 : Int))
   (p25_2050 (n) (n) (a0) (a1) (a1 == (0 : Int)))
   (p25_2050 (n) (n) (a0) (a1) (Bool.false)))
  p25_2050_eq (j : Nat) (n0 : Nat) (v0 : Int) (v1 : Int) (v6 : Bool) : p25_2050 (j + 1) n0 v0 v1 v6 =
  (sel (v6)
   (some ([(67 : UInt8), (85 : UInt8), (82 : UInt8), (82 : UInt8), (69 : UInt8), (78 : UInt8), (84 : UInt8)], (0 : Int), ()))
   (sel (v0 == (4 : Int))
    (p25_2052 (j) (n0) (j) (v0) (v1) (Bool.true))
    (sel (Decidable.decide (v0 < (1 : Int)))
     (p25_2052 (j) (n0) (j) (v0) (v1) (Bool.true))
     (sel (Decidable.decide (v0 > (5 : Int)))
      (p25_2052 (j) (n0) (j) (v0) (v1) (Bool.true))
      (sel (Decidable.decide (v1 < (1 : Int)))
       (p25_2052 (j) (n0) (j) (v0) (v1) (Bool.true))
       (p25_2052 (j) (n0) (j) (v0) (v1) (Decidable.decide (v1 > (2147483647 : Int)))))))))
  p25_2052_eq (j : Nat) (n0 : Nat) (n1 : Nat) (v0 : Int) (v1 : Int) (v13 : Bool) : p25_2052 (j + 1) n0 n1 v0 v1 v13 =
  (sel (v13)
   (some ([], (60 : Int), ()))
   (sel (v0 == (3 : Int))
    (obind (f50 j (v1)) fun r774 =>
     (sel (Decidable.decide ([(77 : UInt8), (65 : UInt8), (78 : UInt8), (73 : UInt8), (70 : UInt8), (69 : UInt8), (83 : UInt8), (84 : UInt8), (45 : UInt8)].length + List.length r774.fst ≤ Lk.big))
      (some ([(77 : UInt8), (65 : UInt8), (78 : UInt8), (73 : UInt8), (70 : UInt8), (69 : UInt8), (83 : UInt8), (84 : UInt8), (45 : UInt8)] ++ r774.fst, (0 : Int), ()))
      none))
    (p25_7 (n0) (n0) (v0) (v1))))
  p25_7_eq (j : Nat) (n0 : Nat) (v0 : Int) (v1 : Int) : p25_7 (j + 1) n0 v0 v1 =
  (obind (f50 j (v1)) fun r841 =>
   (obind (f51 j (v0)) fun r856 =>
    (sel (Decidable.decide (List.length r841.fst + List.length r856.fst ≤ Lk.big))
     (some (r841.fst ++ r856.fst, (0 : Int), ()))
     none)))
  f50_eq (n : Nat) (a0 : Int) : f50 (n + 1) a0 =
  (obind (f72 n (a0)) fun r37 =>
   (obind (f73 n ([(48 : UInt8)]) (Lk.imax (Go.IntKind.i64.wrap ((6 : Int) - (↑(List.length r37.fst) : Int))) (0 : Int))) fun r87 =>
    (sel (Decidable.decide (List.length r87.fst + List.length r37.fst ≤ Lk.big))
     (some (r87.fst ++ r37.fst, ()))
     none)))
  f51_eq (n : Nat) (a0 : Int) : f51 (n + 1) a0 =
  (sel (a0 == (1 : Int))
   (some ([(46 : UInt8), (108 : UInt8), (111 : UInt8), (103 : UInt8)], ()))
   (sel (a0 == (2 : Int))
    (some ([(46 : UInt8), (116 : UInt8), (97 : UInt8), (98 : UInt8)], ()))
    (sel (a0 == (5 : Int))
     (some ([(46 : UInt8), (116 : UInt8), (109 : UInt8), (112 : UInt8)], ()))
     (some ([], ())))))
end Nq

namespace Nq
open Go Lk NqG
set_option linter.unusedVariables false

structure FnsP extends FnsM where
  f55 (n : Nat) (a0 : List UInt8) : Option (Int × Bool × Unit)
  f27 (n : Nat) (a0 : List UInt8) : Option (Int × Int × Int × Unit)
  p27_7 (j : Nat) (n0 : Nat) (v0 : List UInt8) (v2 : Int) (v5 : List UInt8) : Option (Int × Int × Int × Unit)
  p27_8 (j : Nat) (n0 : Nat) (n1 : Nat) (v0 : List UInt8) (v2 : Int) (v5 : List UInt8) (v24 : List (Int)) (v25 : Int) (v26 : Int) : Option (Int × Int × Int × Unit)
  p27_2060 (j : Nat) (n0 : Nat) (n1 : Nat) (n2 : Nat) (v0 : List UInt8) (v2 : Int) (v5 : List UInt8) (v9 : Int) (v10 : List UInt8) (v24 : List (Int)) (v25 : Int) (v26 : Int) (v41 : Bool) : Option (Int × Int × Int × Unit)
  p27_2067 (j : Nat) (n0 : Nat) (n1 : Nat) (v2 : Int) (v3 : Int) (v64 : Bool) : Option (Int × Int × Int × Unit)
  p27_13 (j : Nat) (n0 : Nat) (n1 : Nat) (n2 : Nat) (v0 : List UInt8) (v2 : Int) (v5 : List UInt8) (v24 : List (Int)) (v25 : Int) (v26 : Int) : Option (Int × Int × Int × Unit)
  p27_20 (j : Nat) (n0 : Nat) (n1 : Nat) (v2 : Int) (v3 : Int) : Option (Int × Int × Int × Unit)
  f53 (n : Nat) (a0 : List UInt8) (a1 : List UInt8) : Option (List UInt8 × Bool × Unit)
  f54 (n : Nat) (a0 : List UInt8) (a1 : List UInt8) : Option (List UInt8 × Bool × Unit)
  f75 (n : Nat) (a0 : List UInt8) (a1 : List UInt8) : Option (List UInt8 × Bool × Unit)
  f76 (n : Nat) (a0 : List UInt8) (a1 : List UInt8) : Option (List UInt8 × Bool × Unit)
  f89 (n : Nat) (a0 : List UInt8) (a1 : List UInt8) : Option (Bool × Unit)
  f64 (n : Nat) (a0 : List UInt8) (a1 : List UInt8) : Option (Bool × Unit)
  f55_eq (n : Nat) (a0 : List UInt8) : f55 n a0 = bif Nat.ble a0.length 2147483648 then some ((atoi a0).1, (atoi a0).2, ()) else none
  f27_eq (n : Nat) (a0 : List UInt8) : f27 (n + 1) a0 =
  (sel (a0 == [(67 : UInt8), (85 : UInt8), (82 : UInt8), (82 : UInt8), (69 : UInt8), (78 : UInt8), (84 : UInt8)])
   (some ((4 : Int), (0 : Int), (0 : Int), ()))
   (obind (f53 n (a0) ([(77 : UInt8), (65 : UInt8), (78 : UInt8), (73 : UInt8), (70 : UInt8), (69 : UInt8), (83 : UInt8), (84 : UInt8), (45 : UInt8)])) fun r137 =>
    (sel (r137.snd.fst)
     (p27_7 (n) (n) (a0) ((3 : Int)) (r137.fst))
     (p27_7 (n) (n) (a0) ((0 : Int)) ([])))))
  p27_7_eq (j : Nat) (n0 : Nat) (v0 : List UInt8) (v2 : Int) (v5 : List UInt8) : p27_7 (j + 1) n0 v0 v2 v5 =
  (p27_8 (j) (n0) (j) (v0) (v2) (v5) ([(1 : Int), (2 : Int), (5 : Int)]) ((↑[(1 : Int), (2 : Int), (5 : Int)].length : Int)) ((0 : Int)))
  p27_8_eq (j : Nat) (n0 : Nat) (n1 : Nat) (v0 : List UInt8) (v2 : Int) (v5 : List UInt8) (v24 : List (Int)) (v25 : Int) (v26 : Int) : p27_8 (j + 1) n0 n1 v0 v2 v5 v24 v25 v26 =
  (sel (Decidable.decide (v26 < v25))
   (sel (Decidable.decide ((0 : Int) ≤ v26))
    (sel (Decidable.decide (v26 < (↑v24.length : Int)))
     (obind (f51 j (v24.getD v26.toNat (0 : Int))) fun r342 =>
      (obind (f54 j (v0) (r342.fst)) fun r350 =>
       (sel (r350.snd.fst)
        (p27_2060 (j) (n0) (n1) (j) (v0) (v2) (v5) (v24.getD v26.toNat (0 : Int)) (r350.fst) (v24) (v25) (v26) (v2 == (0 : Int)))
        (p27_2060 (j) (n0) (n1) (j) (v0) (v2) (v5) (v24.getD v26.toNat (0 : Int)) (r350.fst) (v24) (v25) (v26) (Bool.false)))))
     none)
    none)
   (obind (f55 n1 (v5)) fun r496 =>
    (sel (r496.snd.fst)
     (some ((0 : Int), (0 : Int), (60 : Int), ()))
     (obind (f25 n1 (v2) (r496.fst)) fun r632 =>
      (sel (r632.snd.fst != (0 : Int))
       (p27_2067 (n1) (n0) (n1) (v2) (r496.fst) (Bool.true))
       (p27_2067 (n1) (n0) (n1) (v2) (r496.fst) (!r632.fst == v0)))))))
  p27_2060_eq (j : Nat) (n0 : Nat) (n1 : Nat) (n2 : Nat) (v0 : List UInt8) (v2 : Int) (v5 : List UInt8) (v9 : Int) (v10 : List UInt8) (v24 : List (Int)) (v25 : Int) (v26 : Int) (v41 : Bool) : p27_2060 (j + 1) n0 n1 n2 v0 v2 v5 v9 v10 v24 v25 v26 v41 =
  (sel (v41)
   (p27_13 (n2) (n0) (n1) (n2) (v0) (v9) (v10) (v24) (v25) (v26))
   (p27_13 (n2) (n0) (n1) (n2) (v0) (v2) (v5) (v24) (v25) (v26)))
  p27_2067_eq (j : Nat) (n0 : Nat) (n1 : Nat) (v2 : Int) (v3 : Int) (v64 : Bool) : p27_2067 (j + 1) n0 n1 v2 v3 v64 =
  (sel (v64)
   (some ((0 : Int), (0 : Int), (60 : Int), ()))
   (p27_20 (n1) (n0) (n1) (v2) (v3)))
  p27_13_eq (j : Nat) (n0 : Nat) (n1 : Nat) (n2 : Nat) (v0 : List UInt8) (v2 : Int) (v5 : List UInt8) (v24 : List (Int)) (v25 : Int) (v26 : Int) : p27_13 (j + 1) n0 n1 n2 v0 v2 v5 v24 v25 v26 =
  (p27_8 (n2) (n0) (n1) (v0) (v2) (v5) (v24) (v25) (Go.IntKind.i64.wrap (v26 + (1 : Int))))
  p27_20_eq (j : Nat) (n0 : Nat) (n1 : Nat) (v2 : Int) (v3 : Int) : p27_20 (j + 1) n0 n1 v2 v3 =
  (some (v2, v3, (0 : Int), ()))
  f53_eq (n : Nat) (a0 : List UInt8) (a1 : List UInt8) : f53 (n + 1) a0 a1 =
  (obind (f75 n (a0) (a1)) fun r51 =>
   (some (r51.fst, r51.snd.fst, ())))
  f54_eq (n : Nat) (a0 : List UInt8) (a1 : List UInt8) : f54 (n + 1) a0 a1 =
  (obind (f76 n (a0) (a1)) fun r51 =>
   (some (r51.fst, r51.snd.fst, ())))
  f75_eq (n : Nat) (a0 : List UInt8) (a1 : List UInt8) : f75 (n + 1) a0 a1 =
  (obind (f64 n (a0) (a1)) fun r52 =>
   (sel (!r52.fst)
    (some (a0, Bool.false, ()))
    (sel (Decidable.decide ((0 : Int) ≤ (↑a1.length : Int)))
     (sel (Decidable.decide ((↑a1.length : Int) ≤ (↑a0.length : Int)))
      (some (Lk.ext a0 (↑a1.length : Int) (↑a0.length : Int), Bool.true, ()))
      none)
     none)))
  f76_eq (n : Nat) (a0 : List UInt8) (a1 : List UInt8) : f76 (n + 1) a0 a1 =
  (obind (f89 n (a0) (a1)) fun r52 =>
   (sel (!r52.fst)
    (some (a0, Bool.false, ()))
    (sel (Decidable.decide ((0 : Int) ≤ Go.IntKind.i64.wrap ((↑a0.length : Int) - (↑a1.length : Int))))
     (sel (Decidable.decide (Go.IntKind.i64.wrap ((↑a0.length : Int) - (↑a1.length : Int)) ≤ (↑a0.length : Int)))
      (some (Lk.ext a0 (0 : Int) (Go.IntKind.i64.wrap ((↑a0.length : Int) - (↑a1.length : Int))), Bool.true, ()))
      none)
     none)))
  f89_eq (n : Nat) (a0 : List UInt8) (a1 : List UInt8) : f89 (n + 1) a0 a1 =
  (sel (Decidable.decide ((↑a0.length : Int) ≥ (↑a1.length : Int)))
   (sel (Decidable.decide ((0 : Int) ≤ Go.IntKind.i64.wrap ((↑a0.length : Int) - (↑a1.length : Int))))
    (sel (Decidable.decide (Go.IntKind.i64.wrap ((↑a0.length : Int) - (↑a1.length : Int)) ≤ (↑a0.length : Int)))
     (some (Lk.ext a0 (Go.IntKind.i64.wrap ((↑a0.length : Int) - (↑a1.length : Int))) (↑a0.length : Int) == a1, ()))
     none)
    none)
   (some (Bool.false, ())))
  f64_eq (n : Nat) (a0 : List UInt8) (a1 : List UInt8) : f64 (n + 1) a0 a1 =
  (sel (Decidable.decide ((↑a0.length : Int) ≥ (↑a1.length : Int)))
   (sel (Decidable.decide ((0 : Int) ≤ (↑a1.length : Int)))
    (sel (Decidable.decide ((↑a1.length : Int) ≤ (↑a0.length : Int)))
     (some (Lk.ext a0 (0 : Int) (↑a1.length : Int) == a1, ()))
     none)
    none)
   (some (Bool.false, ())))
end Nq

namespace Nq
open Go Lk NqG
set_option linter.unusedVariables false

structure FnsN extends FnsP where
  f26 (n : Nat) (a0 : Int) (a1 : Int) : Option (List UInt8 × Int × Unit)
  p26_2050 (j : Nat) (n0 : Nat) (v0 : Int) (v1 : Int) (v11 : Bool) : Option (List UInt8 × Int × Unit)
  p26_3 (j : Nat) (n0 : Nat) (v0 : Int) (v1 : Int) : Option (List UInt8 × Int × Unit)
  p26_2052 (j : Nat) (n0 : Nat) (n1 : Nat) (v0 : Int) (v1 : Int) (v21 : Bool) : Option (List UInt8 × Int × Unit)
  p26_5 (j : Nat) (n0 : Nat) (n1 : Nat) (v0 : Int) (v1 : Int) : Option (List UInt8 × Int × Unit)
  f28 (n : Nat) (a0 : List UInt8) : Option (Int × Int × Int × Unit)
  p28_3 (j : Nat) (n0 : Nat) (v0 : List UInt8) (v5 : Int) (v6 : Int) : Option (Int × Int × Int × Unit)
  p28_2054 (j : Nat) (n0 : Nat) (n1 : Nat) (v0 : List UInt8) (v5 : Int) (v6 : Int) (v29 : Bool) : Option (Int × Int × Int × Unit)
  p28_8 (j : Nat) (n0 : Nat) (v0 : List UInt8) (v5 : Int) (v7 : Int) : Option (Int × Int × Int × Unit)
  p28_4 (j : Nat) (n0 : Nat) (n1 : Nat) (v0 : List UInt8) (v5 : Int) (v6 : Int) : Option (Int × Int × Int × Unit)
  p28_2060 (j : Nat) (n0 : Nat) (n1 : Nat) (v0 : List UInt8) (v5 : Int) (v7 : Int) (v54 : Bool) : Option (Int × Int × Int × Unit)
  p28_9 (j : Nat) (n0 : Nat) (n1 : Nat) (v0 : List UInt8) (v5 : Int) (v7 : Int) : Option (Int × Int × Int × Unit)
  f52 (n : Nat) (a0 : Int) : Option (List UInt8 × Unit)
  p52_2 (j : Nat) (n0 : Nat) (v3 : List UInt8) : Option (List UInt8 × Unit)
  f74 (n : Nat) (a0 : Int) : Option (List UInt8 × Unit)
  p74_2 (j : Nat) (n0 : Nat) (v0 : Int) (v3 : List UInt8) : Option (List UInt8 × Unit)
  f26_eq (n : Nat) (a0 : Int) (a1 : Int) : f26 (n + 1) a0 a1 =
  (sel (a0 == (4 : Int))
   (p26_2050 (n) (n) (a0) (a1) (a1 == (0 : Int)))
   (p26_2050 (n) (n) (a0) (a1) (Bool.false)))
  p26_2050_eq (j : Nat) (n0 : Nat) (v0 : Int) (v1 : Int) (v11 : Bool) : p26_2050 (j + 1) n0 v0 v1 v11 =
  (sel (v11)
   (some ([(67 : UInt8), (85 : UInt8), (82 : UInt8), (82 : UInt8), (69 : UInt8), (78 : UInt8), (84 : UInt8)], (0 : Int), ()))
   (p26_3 (n0) (n0) (v0) (v1)))
  p26_3_eq (j : Nat) (n0 : Nat) (v0 : Int) (v1 : Int) : p26_3 (j + 1) n0 v0 v1 =
  (sel (v0 == (4 : Int))
   (p26_2052 (j) (n0) (j) (v0) (v1) (Bool.true))
   (sel (Decidable.decide (v1 < (1 : Int)))
    (p26_2052 (j) (n0) (j) (v0) (v1) (Bool.true))
    (p26_2052 (j) (n0) (j) (v0) (v1) (Decidable.decide (v1 > (2147483647 : Int))))))
  p26_2052_eq (j : Nat) (n0 : Nat) (n1 : Nat) (v0 : Int) (v1 : Int) (v21 : Bool) : p26_2052 (j + 1) n0 n1 v0 v1 v21 =
  (sel (v21)
   (some ([], (60 : Int), ()))
   (p26_5 (n1) (n0) (n1) (v0) (v1)))
  p26_5_eq (j : Nat) (n0 : Nat) (n1 : Nat) (v0 : Int) (v1 : Int) : p26_5 (j + 1) n0 n1 v0 v1 =
  (sel (v0 == (1 : Int))
   (obind (f52 j (v1)) fun r448 =>
    (sel (Decidable.decide (List.length r448.fst + [(46 : UInt8), (108 : UInt8), (111 : UInt8), (103 : UInt8)].length ≤ Lk.big))
     (some (r448.fst ++ [(46 : UInt8), (108 : UInt8), (111 : UInt8), (103 : UInt8)], (0 : Int), ()))
     none))
   (sel (v0 == (2 : Int))
    (obind (f52 j (v1)) fun r531 =>
     (sel (Decidable.decide (List.length r531.fst + [(46 : UInt8), (116 : UInt8), (97 : UInt8), (98 : UInt8)].length ≤ Lk.big))
      (some (r531.fst ++ [(46 : UInt8), (116 : UInt8), (97 : UInt8), (98 : UInt8)], (0 : Int), ()))
      none))
    (sel (v0 == (5 : Int))
     (obind (f52 j (v1)) fun r614 =>
      (sel (Decidable.decide (List.length r614.fst + [(46 : UInt8), (116 : UInt8), (109 : UInt8), (112 : UInt8)].length ≤ Lk.big))
       (some (r614.fst ++ [(46 : UInt8), (116 : UInt8), (109 : UInt8), (112 : UInt8)], (0 : Int), ()))
       none))
     (sel (v0 == (3 : Int))
      (obind (f52 j (v1)) fun r697 =>
       (sel (Decidable.decide ([(77 : UInt8), (65 : UInt8), (78 : UInt8), (73 : UInt8), (70 : UInt8), (69 : UInt8), (83 : UInt8), (84 : UInt8), (45 : UInt8)].length + List.length r697.fst ≤ Lk.big))
        (some ([(77 : UInt8), (65 : UInt8), (78 : UInt8), (73 : UInt8), (70 : UInt8), (69 : UInt8), (83 : UInt8), (84 : UInt8), (45 : UInt8)] ++ r697.fst, (0 : Int), ()))
        none))
      (some ([], (60 : Int), ()))))))
  f28_eq (n : Nat) (a0 : List UInt8) : f28 (n + 1) a0 =
  (p28_3 (n) (n) (a0) ((0 : Int)) ((0 : Int)))
  p28_3_eq (j : Nat) (n0 : Nat) (v0 : List UInt8) (v5 : Int) (v6 : Int) : p28_3 (j + 1) n0 v0 v5 v6 =
  (sel (Decidable.decide (v6 < (↑v0.length : Int)))
   (sel (Decidable.decide ((0 : Int) ≤ v6))
    (sel (Decidable.decide (v6 < (↑v0.length : Int)))
     (sel (Decidable.decide ((↑(v0.getD v6.toNat (0 : UInt8)).toNat : Int) ≥ (↑(UInt8.toNat (48 : UInt8)) : Int)))
      (sel (Decidable.decide ((0 : Int) ≤ v6))
       (sel (Decidable.decide (v6 < (↑v0.length : Int)))
        (sel (Decidable.decide ((↑(v0.getD v6.toNat (0 : UInt8)).toNat : Int) ≤ (↑(UInt8.toNat (57 : UInt8)) : Int)))
         (p28_2054 (j) (n0) (j) (v0) (v5) (v6) (Decidable.decide (v5 ≤ (2147483647 : Int))))
         (p28_2054 (j) (n0) (j) (v0) (v5) (v6) (Bool.false)))
        none)
       none)
      (p28_2054 (j) (n0) (j) (v0) (v5) (v6) (Bool.false)))
     none)
    none)
   (p28_8 (n0) (n0) (v0) (v5) ((1 : Int))))
  p28_2054_eq (j : Nat) (n0 : Nat) (n1 : Nat) (v0 : List UInt8) (v5 : Int) (v6 : Int) (v29 : Bool) : p28_2054 (j + 1) n0 n1 v0 v5 v6 v29 =
  (sel (v29)
   (sel (Decidable.decide ((0 : Int) ≤ v6))
    (sel (Decidable.decide (v6 < (↑v0.length : Int)))
     (p28_4 (n1) (n0) (n1) (v0) (Go.IntKind.i64.wrap (Go.IntKind.i64.wrap (v5 * (10 : Int)) + Go.IntKind.i64.wrap (↑(UInt8.ofNat (Go.IntKind.u8.wrap ((↑(v0.getD v6.toNat (0 : UInt8)).toNat : Int) - (↑(UInt8.toNat (48 : UInt8)) : Int))).toNat).toNat : Int))) (v6))
     none)
    none)
   (p28_4 (n1) (n0) (n1) (v0) (v5) (v6)))
  p28_8_eq (j : Nat) (n0 : Nat) (v0 : List UInt8) (v5 : Int) (v7 : Int) : p28_8 (j + 1) n0 v0 v5 v7 =
  (sel (Decidable.decide (v7 ≤ (5 : Int)))
   (obind (f26 j (v7) (v5)) fun r530 =>
    (sel (r530.snd.fst == (0 : Int))
     (p28_2060 (j) (n0) (j) (v0) (v5) (v7) (r530.fst == v0))
     (p28_2060 (j) (n0) (j) (v0) (v5) (v7) (Bool.false))))
   (some ((0 : Int), (0 : Int), (60 : Int), ())))
  p28_4_eq (j : Nat) (n0 : Nat) (n1 : Nat) (v0 : List UInt8) (v5 : Int) (v6 : Int) : p28_4 (j + 1) n0 n1 v0 v5 v6 =
  (p28_3 (n1) (n0) (v0) (v5) (Go.IntKind.i64.wrap (v6 + (1 : Int))))
  p28_2060_eq (j : Nat) (n0 : Nat) (n1 : Nat) (v0 : List UInt8) (v5 : Int) (v7 : Int) (v54 : Bool) : p28_2060 (j + 1) n0 n1 v0 v5 v7 v54 =
  (sel (v54)
   (some (v7, v5, (0 : Int), ()))
   (p28_9 (n1) (n0) (n1) (v0) (v5) (v7)))
  p28_9_eq (j : Nat) (n0 : Nat) (n1 : Nat) (v0 : List UInt8) (v5 : Int) (v7 : Int) : p28_9 (j + 1) n0 n1 v0 v5 v7 =
  (p28_8 (n1) (n0) (v0) (v5) (Go.IntKind.i64.wrap (v7 + (1 : Int))))
  f52_eq (n : Nat) (a0 : Int) : f52 (n + 1) a0 =
  (obind (f74 n (a0)) fun r37 =>
   (p52_2 (n) (n) (r37.fst)))
  p52_2_eq (j : Nat) (n0 : Nat) (v3 : List UInt8) : p52_2 (j + 1) n0 v3 =
  (sel (Decidable.decide ((↑v3.length : Int) < (6 : Int)))
   (sel (Decidable.decide ([(48 : UInt8)].length + v3.length ≤ Lk.big))
    (p52_2 (j) (n0) ([(48 : UInt8)] ++ v3))
    none)
   (some (v3, ())))
  f74_eq (n : Nat) (a0 : Int) : f74 (n + 1) a0 =
  (p74_2 (n) (n) (a0) ([]))
  p74_2_eq (j : Nat) (n0 : Nat) (v0 : Int) (v3 : List UInt8) : p74_2 (j + 1) n0 v0 v3 =
  (sel (Decidable.decide (v0 > (0 : Int)))
   (sel ((10 : Int) != (0 : Int))
    (sel (Decidable.decide ([UInt8.ofNat (Go.IntKind.u8.wrap (Go.IntKind.i64.wrap ((48 : Int) + v0.tmod (10 : Int)))).toNat].length + v3.length ≤ Lk.big))
     (sel ((10 : Int) != (0 : Int))
      (p74_2 (j) (n0) (Go.IntKind.i64.wrap (v0.tdiv (10 : Int))) ([UInt8.ofNat (Go.IntKind.u8.wrap (Go.IntKind.i64.wrap ((48 : Int) + v0.tmod (10 : Int)))).toNat] ++ v3))
      none)
     none)
    none)
   (sel (v3 == [])
    (some ([(48 : UInt8)], ()))
    (some (v3, ()))))
end Nq

namespace So
set_option maxRecDepth 100000
noncomputable def theFnsM : Nq.FnsM := {
  f72 := SoG.f43,
  f73 := SoG.f44,
  f25 := SoG.f22,
  p25_2050 := SoG.p22_2050,
  p25_2052 := SoG.p22_2052,
  p25_7 := SoG.p22_7,
  f50 := SoG.f33,
  f51 := SoG.f20,
  f72_eq := SoG.f43_eq,
  f73_eq := SoG.f44_eq,
  f25_eq := SoG.f22_eq,
  p25_2050_eq := SoG.p22_2050_eq,
  p25_2052_eq := SoG.p22_2052_eq,
  p25_7_eq := SoG.p22_7_eq,
  f50_eq := SoG.f33_eq,
  f51_eq := SoG.f20_eq }
end So

namespace So
set_option maxRecDepth 100000
noncomputable def theFnsP : Nq.FnsP := { theFnsM with
  f55 := SoG.f21,
  f27 := SoG.f11,
  p27_7 := SoG.p11_7,
  p27_8 := SoG.p11_8,
  p27_2060 := SoG.p11_2060,
  p27_2067 := SoG.p11_2067,
  p27_13 := SoG.p11_13,
  p27_20 := SoG.p11_20,
  f53 := SoG.f18,
  f54 := SoG.f19,
  f75 := SoG.f29,
  f76 := SoG.f30,
  f89 := SoG.f37,
  f64 := SoG.f36,
  f55_eq := SoG.f21_eq,
  f27_eq := SoG.f11_eq,
  p27_7_eq := SoG.p11_7_eq,
  p27_8_eq := SoG.p11_8_eq,
  p27_2060_eq := SoG.p11_2060_eq,
  p27_2067_eq := SoG.p11_2067_eq,
  p27_13_eq := SoG.p11_13_eq,
  p27_20_eq := SoG.p11_20_eq,
  f53_eq := SoG.f18_eq,
  f54_eq := SoG.f19_eq,
  f75_eq := SoG.f29_eq,
  f76_eq := SoG.f30_eq,
  f89_eq := SoG.f37_eq,
  f64_eq := SoG.f36_eq }
end So

namespace So
set_option maxRecDepth 100000
noncomputable def theFnsN : Nq.FnsN := { theFnsP with
  f26 := SoG.f34,
  p26_2050 := SoG.p34_2050,
  p26_3 := SoG.p34_3,
  p26_2052 := SoG.p34_2052,
  p26_5 := SoG.p34_5,
  f28 := SoG.f26,
  p28_3 := SoG.p26_3,
  p28_2054 := SoG.p26_2054,
  p28_8 := SoG.p26_8,
  p28_4 := SoG.p26_4,
  p28_2060 := SoG.p26_2060,
  p28_9 := SoG.p26_9,
  f52 := SoG.f45,
  p52_2 := SoG.p45_2,
  f74 := SoG.f57,
  p74_2 := SoG.p57_2,
  f26_eq := SoG.f34_eq,
  p26_2050_eq := SoG.p34_2050_eq,
  p26_3_eq := SoG.p34_3_eq,
  p26_2052_eq := SoG.p34_2052_eq,
  p26_5_eq := SoG.p34_5_eq,
  f28_eq := SoG.f26_eq,
  p28_3_eq := SoG.p26_3_eq,
  p28_2054_eq := SoG.p26_2054_eq,
  p28_8_eq := SoG.p26_8_eq,
  p28_4_eq := SoG.p26_4_eq,
  p28_2060_eq := SoG.p26_2060_eq,
  p28_9_eq := SoG.p26_9_eq,
  f52_eq := SoG.f45_eq,
  p52_2_eq := SoG.p45_2_eq,
  f74_eq := SoG.f57_eq,
  p74_2_eq := SoG.p57_2_eq }
end So

/-! Quotes and words: plain specifications. -/
namespace Nq
open Go Lk NqG

abbrev R3 := List UInt8 × Int × Int × Unit
def bad (k : Nat) : R3 := ([], (k : Int), 61, ())

def bareB (c : UInt8) : Bool := (Nat.ble 97 c.toNat && Nat.ble c.toNat 122) || (Nat.ble 48 c.toNat && Nat.ble c.toNat 57) || c == 46 || c == 95 || c == 45
def oddF (b : List UInt8) : Nat → Nat → Int
  | 0, _ => -1
  | n + 1, i => bif Nat.blt i b.length then (bif bareB (b.getD i 0) then oddF b n (i + 1) else (i : Int)) else -1
def oddS (b : List UInt8) : Int := oddF b b.length 0

def dg (c : UInt8) : Nat := bif Nat.ble 48 c.toNat && Nat.ble c.toNat 57 then c.toNat - 48 else bif Nat.ble 97 c.toNat && Nat.ble c.toNat 102 then c.toNat - 87 else 16
def dgAt (b : List UInt8) (i : Nat) : Nat := bif Nat.blt i b.length then dg (b.getD i 0) else 16

def escS (b : List UInt8) (i : Nat) : UInt8 × Nat :=
  bif Nat.blt (i + 1) b.length then
    let c := b.getD (i + 1) 0
    bif c == 110 then (10, 2) else bif c == 116 then (9, 2) else bif c == 115 then (32, 2) else bif c == 34 || c == 92 then (c, 2) else
    bif c == 120 then (bif Nat.blt (dgAt b (i + 2)) 16 && Nat.blt (dgAt b (i + 3)) 16 then (UInt8.ofNat (16 * dgAt b (i + 2) + dgAt b (i + 3)), 4) else (0, 0)) else (0, 0)
  else (0, 0)

def unqR (b : List UInt8) : Nat → Nat → List UInt8 → R3
  | 0, i, _ => bad i
  | n + 1, i, acc =>
    bif Nat.blt i b.length then
      let c := b.getD i 0
      bif c == 34 then (bif Nat.blt (i + 1) b.length then bad (i + 1) else bif quote acc == b then (acc, 0, 0, ()) else bad 0)
      else bif c == 92 then (bif (escS b i).2 == 0 then bad i else unqR b n (i + (escS b i).2) (acc ++ [(escS b i).1]))
      else bif (rn b i == 65533 && sz b i == 1) || !self (rn b i) then bad i
      else unqR b n (i + sz b i) (acc ++ ext b (i : Int) ((i + sz b i : Nat) : Int))
    else bad i
def unquote (b : List UInt8) : R3 := bif Nat.blt 0 b.length && b.getD 0 0 == 34 then unqR b b.length 1 [] else bad 0

def word (b : List UInt8) : List UInt8 := bif !b.isEmpty && decide (oddS b < 0) then b else quote b
def unword (b : List UInt8) : R3 :=
  bif Nat.blt 0 b.length && b.getD 0 0 == 34 then unquote b
  else bif b.isEmpty || decide (oddS b ≥ 0) then ([], imax (oddS b) 0, 61, ()) else (b, 0, 0, ())

theorem blt_t {a b : Nat} (h : a < b) : Nat.blt a b = true := by simpa [Nat.blt_eq] using h
theorem blt_f {a b : Nat} (h : ¬ a < b) : Nat.blt a b = false := by
  cases e : Nat.blt a b
  · rfl
  · exact absurd (by simpa [Nat.blt_eq] using e) h

theorem forall_u8 {p : UInt8 → Prop} (h : ∀ k : Fin 256, p (UInt8.ofNat k.val)) (a : UInt8) : p a := by
  have := h ⟨a.toNat, a.toNat_lt⟩
  simpa using this

theorem escS_le (b : List UInt8) (i : Nat) : i + (escS b i).2 ≤ max i b.length := by
  unfold escS
  by_cases h : i + 1 < b.length
  · rw [blt_t h]
    simp only [cond_true]
    have hx : ∀ q : Bool, (Nat.blt (dgAt b (i + 2)) 16 && Nat.blt (dgAt b (i + 3)) 16) = q → q = true → i + 3 < b.length := by
      intro q h1 h2
      rw [h2, Bool.and_eq_true] at h1
      have := h1.2
      unfold dgAt at this
      by_cases h3 : i + 3 < b.length
      · exact h3
      · rw [blt_f h3] at this; simp [Nat.blt_eq] at this
    generalize (b.getD (i + 1) 0) = c
    cases (c == 110) <;> cases (c == 116) <;> cases (c == 115) <;> cases (c == 34 || c == 92) <;> cases (c == 120) <;> simp only [cond_true, cond_false] <;> try omega
    cases hq : (Nat.blt (dgAt b (i + 2)) 16 && Nat.blt (dgAt b (i + 3)) 16)
    · simp only [cond_false]; omega
    · have := hx _ hq rfl
      simp only [cond_true]; omega
  · rw [blt_f h]; simp only [cond_false]; omega
end Nq

/-! Names: plain. -/
namespace Nq
open Go Lk NqG
/-! Names. -/
def tailS (k : Int) : List UInt8 := bif k == 1 then [46, 108, 111, 103] else bif k == 2 then [46, 116, 97, 98] else bif k == 5 then [46, 116, 109, 112] else []
noncomputable def padded (n : Int) : List UInt8 := Lib.repeatL [48] (6 - (Lib.itoa n).length) ++ Lib.itoa n
def cur : List UInt8 := [67, 85, 82, 82, 69, 78, 84]
def ahead : List UInt8 := [77, 65, 78, 73, 70, 69, 83, 84, 45]
noncomputable def name (k n : Int) : List UInt8 × Int × Unit :=
  if k = 4 ∧ n = 0 then (cur, 0, ()) else
  if k = 4 ∨ k < 1 ∨ k > 5 ∨ n < 1 ∨ n > 2147483647 then ([], 60, ()) else
  if k = 3 then (ahead ++ padded n, 0, ()) else (padded n ++ tailS k, 0, ())

theorem decDigits_len : ∀ (k u : Nat), u < 10 ^ (k + 1) → (Lib.decDigits u).length ≤ k + 1
  | 0, u, h => by rw [Lib.decDigits, dif_pos (by simpa using h)]; simp
  | k + 1, u, h => by
    rw [Lib.decDigits]
    split
    · simp
    · have := decDigits_len k (u / 10) (by rw [Nat.pow_succ] at h; omega)
      simp; omega

theorem itoa_len (n : Int) (h0 : 0 ≤ n) (h : n ≤ 9223372036854775807) : (Lib.itoa n).length ≤ 20 := by
  unfold Lib.itoa
  rw [if_neg (by omega)]
  exact decDigits_len 19 n.toNat (by omega)

variable (X : FnsM)

theorem f50_ok (n : Int) (h0 : 1 ≤ n) (h : n ≤ 2147483647) (j : Nat) : X.f50 (j + 1) n = some (padded n, ()) := by
  have hl := itoa_len n (by omega) (by omega)
  rw [X.f50_eq, X.f72_eq, decide_eq_true (by omega), decide_eq_true (by omega)]
  simp only [Bool.and_self, cond_true, ob_some]
  have e : imax (IntKind.i64.wrap ((6 : Int) - ((Lib.itoa n).length : Int))) 0 = ((6 - (Lib.itoa n).length : Nat) : Int) := by
    rw [wrap64 (by omega) (by omega)]; unfold imax; split <;> omega
  rw [e, X.f73_eq, decide_eq_true (by omega), decide_eq_true (by omega), show Nat.ble ([(48 : UInt8)] : List UInt8).length 100 = true from rfl]
  simp only [Bool.and_self, cond_true, ob_some, sel_dec, Int.toNat_natCast]
  rw [if_pos (by rw [Lib.repeatL_length]; simp only [List.length_singleton, big]; omega)]
  rfl

theorem f51_ok (k : Int) (j : Nat) : X.f51 (j + 1) k = some (tailS k, ()) := by
  rw [X.f51_eq]
  unfold tailS
  cases (k == 1) <;> cases (k == 2) <;> cases (k == 5) <;> rfl

theorem padded_len (n : Int) (h0 : 0 ≤ n) (h : n ≤ 9223372036854775807) : (padded n).length ≤ 26 := by
  have hl := itoa_len n (by omega) (by omega)
  unfold padded
  rw [List.length_append, Lib.repeatL_length]; simp only [List.length_singleton]; omega
theorem tailS_len (k : Int) : (tailS k).length ≤ 4 := by
  unfold tailS
  cases (k == 1) <;> cases (k == 2) <;> cases (k == 5) <;> simp

theorem f25_ok (k n : Int) (j : Nat) : X.f25 (j + 6) k n = some (name k n) := by
  rw [X.f25_eq]
  simp only [X.p25_2050_eq]
  have q1 : X.p25_2052 (j + 4) (j + 5) (j + 4) k n true = some ([], 60, ()) := X.p25_2052_eq ..
  have q2 : 1 ≤ n → n ≤ 2147483647 → X.p25_2052 (j + 4) (j + 5) (j + 4) k n false = some (if k = 3 then (ahead ++ padded n, 0, ()) else (padded n ++ tailS k, 0, ())) := by
    intro h1 h2
    have hp := padded_len n (by omega) (by omega)
    have ht := tailS_len k
    rw [X.p25_2052_eq, sel_f, X.p25_7_eq, f50_ok X n h1 h2, f50_ok X n h1 h2, f51_ok]
    simp only [ob_some, sel_dec]
    rw [if_pos (by simp only [big, List.length_cons, List.length_nil]; omega), if_pos (by simp only [big]; omega)]
    by_cases h3 : k = 3
    · rw [if_pos h3, show (k == 3) = true by simpa using h3]; rfl
    · rw [if_neg h3, show (k == 3) = false by simpa using h3]; rfl
  unfold name
  by_cases h4 : k = 4
  · rw [show (k == 4) = true by simpa using h4]
    simp only [sel_t, sel_f, q1]
    by_cases h0 : n = 0
    · rw [show (n == 0) = true by simpa using h0, if_pos ⟨h4, h0⟩]; rfl
    · rw [show (n == 0) = false by simpa using h0, if_neg (fun h => h0 h.2), if_pos (.inl h4)]; rfl
  · rw [show (k == 4) = false by simpa using h4]
    simp only [sel_f, sel_dec, q1]
    rw [if_neg (show ¬ (k = 4 ∧ n = 0) from fun h => h4 h.1)]
    by_cases h1 : k < 1
    · rw [if_pos h1, if_pos (by omega)]
    rw [if_neg h1]
    by_cases h5 : k > 5
    · rw [if_pos h5, if_pos (by omega)]
    rw [if_neg h5]
    by_cases h6 : n < 1
    · rw [if_pos h6, if_pos (by omega)]
    rw [if_neg h6]
    by_cases h7 : n > 2147483647
    · rw [decide_eq_true h7, if_pos (by omega), q1]
    rw [decide_eq_false h7, if_neg (by omega), q2 (by omega) (by omega)]

end Nq

/-! Names read and written: plain. -/
namespace Nq
open Go Lk NqG

theorem blt_t' {a b : Nat} (h : a < b) : Nat.blt a b = true := by simpa [Nat.blt_eq] using h

def digB (c : UInt8) : Bool := Nat.ble 48 c.toNat && Nat.ble c.toNat 57
def dval : List UInt8 → Nat → Nat
  | [], a => a
  | c :: l, a => dval l (bif digB c && Nat.ble a 2147483647 then a * 10 + (c.toNat - 48) else a)

theorem digit_toNat (u : Nat) (h : u < 10) : (UInt8.ofNat (48 + u)).toNat = 48 + u := by
  rw [UInt8.toNat_ofNat']; omega
theorem digit_digB (u : Nat) (h : u < 10) : digB (UInt8.ofNat (48 + u)) = true := by
  unfold digB; rw [digit_toNat u h, Bool.and_eq_true, Nat.ble_eq, Nat.ble_eq]; omega

theorem dec_digits : ∀ (u : Nat), ∀ c ∈ Lib.decDigits u, digB c = true := by
  intro u
  induction u using Nat.strongRecOn with
  | _ u ih =>
    intro c hc
    rw [Lib.decDigits] at hc
    split at hc
    · rename_i h
      simp only [List.mem_singleton] at hc
      subst hc; exact digit_digB u h
    · rename_i h
      rcases List.mem_append.1 hc with hc | hc
      · exact ih (u / 10) (by omega) c hc
      · simp only [List.mem_singleton] at hc
        subst hc; exact digit_digB _ (by omega)

theorem dec_ne (u : Nat) : Lib.decDigits u ≠ [] := by
  rw [Lib.decDigits]; split <;> simp

theorem dval_dec : ∀ (u : Nat) (r : List UInt8), u ≤ 2147483647 → dval (Lib.decDigits u ++ r) 0 = dval r u := by
  intro u
  induction u using Nat.strongRecOn with
  | _ u ih =>
    intro r hu
    rw [Lib.decDigits]
    split
    · rename_i h
      simp only [List.cons_append, List.nil_append, dval]
      rw [digit_digB u h, digit_toNat u h, show Nat.ble 0 2147483647 = true from rfl]
      simp
    · rename_i h
      rw [List.append_assoc, ih (u / 10) (by omega) _ (by omega)]
      simp only [List.cons_append, List.nil_append, dval]
      rw [digit_digB _ (by omega), digit_toNat _ (by omega), show Nat.ble (u / 10) 2147483647 = true by rw [Nat.ble_eq]; omega]
      simp only [Bool.and_self, cond_true]
      congr 1; omega

theorem parse_dec : ∀ (u : Nat) (r : List UInt8), u ≤ 2147483647 → Lib.parseUint10 0 (Lib.decDigits u ++ r) = Lib.parseUint10 u r := by
  intro u
  induction u using Nat.strongRecOn with
  | _ u ih =>
    intro r hu
    rw [Lib.decDigits]
    split
    · rename_i h
      simp only [List.cons_append, List.nil_append, Lib.parseUint10]
      rw [digit_toNat u h, if_pos (by omega), if_neg (by omega), if_neg (by omega)]
      congr 1; omega
    · rename_i h
      rw [List.append_assoc, ih (u / 10) (by omega) _ (by omega)]
      simp only [List.cons_append, List.nil_append, Lib.parseUint10]
      rw [digit_toNat _ (by omega), if_pos (by omega), if_neg (by omega), if_neg (by omega)]
      congr 1; omega

theorem itoa_pos (n : Int) (h : 0 ≤ n) : Lib.itoa n = Lib.decDigits n.toNat := by
  unfold Lib.itoa; rw [if_neg (by omega)]

theorem rep_digits : ∀ k, ∀ c ∈ Lib.repeatL [48] k, c = 48
  | 0 => by intro c hc; simp [Lib.repeatL] at hc
  | k + 1 => by
    intro c hc
    simp only [Lib.repeatL, List.cons_append, List.nil_append, List.mem_cons] at hc
    rcases hc with h | h
    · exact h
    · exact rep_digits k c h

theorem padded_digits (n : Int) (h : 0 ≤ n) : ∀ c ∈ padded n, digB c = true := by
  intro c hc
  unfold padded at hc
  rcases List.mem_append.1 hc with hc | hc
  · rw [rep_digits _ c hc]; decide
  · rw [itoa_pos n h] at hc; exact dec_digits _ c hc

theorem padded_ne (n : Int) (h : 0 ≤ n) : padded n ≠ [] := by
  unfold padded
  rw [itoa_pos n h]
  have := dec_ne n.toNat
  simp [this]

theorem dval_rep : ∀ (k : Nat) (r : List UInt8), dval (Lib.repeatL [48] k ++ r) 0 = dval r 0
  | 0, r => by simp [Lib.repeatL]
  | k + 1, r => by
    simp only [Lib.repeatL, List.cons_append, List.nil_append, dval]
    rw [show (bif digB 48 && Nat.ble 0 2147483647 then 0 * 10 + ((48 : UInt8).toNat - 48) else 0) = 0 by decide]
    exact dval_rep k r

theorem parse_rep : ∀ (k : Nat) (r : List UInt8), Lib.parseUint10 0 (Lib.repeatL [48] k ++ r) = Lib.parseUint10 0 r
  | 0, r => by simp [Lib.repeatL]
  | k + 1, r => by
    simp only [Lib.repeatL, List.cons_append, List.nil_append, Lib.parseUint10]
    rw [if_pos (by decide), if_neg (by decide), if_neg (by decide)]
    exact parse_rep k r

theorem dval_padded (n : Int) (h0 : 0 ≤ n) (h : n ≤ 2147483647) (r : List UInt8) : dval (padded n ++ r) 0 = dval r n.toNat := by
  unfold padded
  rw [List.append_assoc, dval_rep, itoa_pos n h0, dval_dec _ _ (by omega)]

theorem dval_not (r : List UInt8) (hr : ∀ c ∈ r, digB c = false) (l : List UInt8) (a : Nat) : dval (r ++ l) a = dval l a := by
  induction r with
  | nil => rfl
  | cons c r ih =>
    simp only [List.cons_append, dval]
    rw [hr c (List.mem_cons_self ..)]
    exact ih (fun c hc => hr c (List.mem_cons_of_mem _ hc))

theorem atoi_padded (n : Int) (h0 : 0 ≤ n) (h : n ≤ 2147483647) : atoi (padded n) = (n, false) := by
  obtain ⟨c, l, hcl⟩ : ∃ c l, padded n = c :: l := by
    cases hp : padded n with
    | nil => exact absurd hp (padded_ne n h0)
    | cons c l => exact ⟨c, l, rfl⟩
  have hc := padded_digits n h0 c (by rw [hcl]; exact List.mem_cons_self ..)
  unfold digB at hc
  rw [Bool.and_eq_true, Nat.ble_eq, Nat.ble_eq] at hc
  have hp : Lib.parseUint10 0 (padded n) = .ok n.toNat := by
    unfold padded
    have := parse_dec n.toNat [] (by omega)
    rw [List.append_nil] at this
    rw [parse_rep, itoa_pos n h0, this]; rfl
  have ha : Lib.atoiAll (padded n) = .ok n := by
    rw [hcl] at hp ⊢
    unfold Lib.atoiAll Lib.parseMag
    simp only
    rw [if_neg (show ¬ (c.toNat = 43 ∨ c.toNat = 45) by omega), if_neg (by simp), hp]
    simp only
    rw [if_neg (by omega), if_neg (by omega), if_neg (by omega)]
    congr 1; omega
  unfold atoi; rw [ha]

/-! The names. -/
def good (s : List UInt8) (k n : Int) : Prop := name k n = (s, 0, ())

theorem good_iff (s : List UInt8) (k n : Int) : good s k n ↔ (k = 4 ∧ n = 0 ∧ s = cur) ∨ ((k = 1 ∨ k = 2 ∨ k = 3 ∨ k = 5) ∧ 1 ≤ n ∧ n ≤ 2147483647 ∧ s = if k = 3 then ahead ++ padded n else padded n ++ tailS k) := by
  unfold good name
  by_cases h1 : k = 4 ∧ n = 0
  · rw [if_pos h1]
    simp only [Prod.mk.injEq, and_true]
    constructor
    · intro h; exact .inl ⟨h1.1, h1.2, h.symm⟩
    · rintro (h | h)
      · exact h.2.2.symm
      · omega
  · rw [if_neg h1]
    by_cases h2 : k = 4 ∨ k < 1 ∨ k > 5 ∨ n < 1 ∨ n > 2147483647
    · rw [if_pos h2]
      simp only [Prod.mk.injEq]
      constructor
      · intro h; exact absurd h.2.1 (by decide)
      · rintro (h | h)
        · exact absurd ⟨h.1, h.2.1⟩ h1
        · omega
    · rw [if_neg h2]
      by_cases h3 : k = 3
      · rw [if_pos h3, if_pos h3]
        simp only [Prod.mk.injEq, and_true]
        constructor
        · intro h; exact .inr ⟨by omega, by omega, by omega, h.symm⟩
        · rintro (h | h)
          · omega
          · exact h.2.2.2.symm
      · rw [if_neg h3, if_neg h3]
        simp only [Prod.mk.injEq, and_true]
        constructor
        · intro h; exact .inr ⟨by omega, by omega, by omega, h.symm⟩
        · rintro (h | h)
          · omega
          · exact h.2.2.2.symm

theorem tail_not (k : Int) : ∀ c ∈ tailS k, digB c = false := by
  unfold tailS
  cases (k == 1) <;> cases (k == 2) <;> cases (k == 5) <;> decide

theorem good_dval {s : List UInt8} {k n : Int} (h : good s k n) : (dval s 0 : Int) = n := by
  rcases (good_iff s k n).1 h with ⟨_, rfl, rfl⟩ | ⟨hk, h1, h2, rfl⟩
  · rfl
  · split
    · rw [dval_not ahead (by decide)]
      have := dval_padded n (by omega) h2 []
      rw [List.append_nil] at this
      rw [this]; simp only [dval]; omega
    · rw [dval_padded n (by omega) h2]
      have := dval_not (tailS k) (tail_not k) [] n.toNat
      rw [List.append_nil] at this
      rw [this]; simp only [dval]; omega

theorem padded_head (n : Int) (h : 0 ≤ n) (r : List UInt8) : ∃ c l, padded n ++ r = c :: l ∧ digB c = true := by
  cases hp : padded n with
  | nil => exact absurd hp (padded_ne n h)
  | cons c l => exact ⟨c, l ++ r, rfl, padded_digits n h c (by rw [hp]; exact List.mem_cons_self ..)⟩

theorem tail_len {k : Int} (h : k = 1 ∨ k = 2 ∨ k = 5) : (tailS k).length = 4 := by
  rcases h with rfl | rfl | rfl <;> rfl

theorem tail_inj {k k' : Int} (h : k = 1 ∨ k = 2 ∨ k = 5) (h' : k' = 1 ∨ k' = 2 ∨ k' = 5) (e : tailS k = tailS k') : k = k' := by
  rcases h with rfl | rfl | rfl <;> rcases h' with rfl | rfl | rfl <;> first | rfl | exact absurd e (by decide)

theorem good_kind {s : List UInt8} {k n k' n' : Int} (h : good s k n) (h' : good s k' n') : k = k' := by
  have e1 := good_dval h
  have e2 := good_dval h'
  have en : n = n' := e1.symm.trans e2
  subst en
  rcases (good_iff s k n).1 h with ⟨rfl, rfl, rfl⟩ | ⟨hk, h1, h2, rfl⟩
  · rcases (good_iff _ k' _).1 h' with ⟨rfl, _, _⟩ | ⟨hk', h1', _⟩
    · rfl
    · omega
  · rcases (good_iff _ k' _).1 h' with ⟨_, e, _⟩ | ⟨hk', _, _, e⟩
    · omega
    · by_cases h3 : k = 3
      · by_cases h3' : k' = 3
        · omega
        · rw [if_pos h3, if_neg h3'] at e
          obtain ⟨c, l, hc, hd⟩ := padded_head n (by omega) (tailS k')
          rw [hc] at e
          have : c = 77 := by
            have := congrArg (fun l => l.headD 0) e
            exact this.symm
          rw [this] at hd; exact absurd hd (by decide)
      · by_cases h3' : k' = 3
        · rw [if_neg h3, if_pos h3'] at e
          obtain ⟨c, l, hc, hd⟩ := padded_head n (by omega) (tailS k)
          rw [hc] at e
          have : c = 77 := by
            have := congrArg (fun l => l.headD 0) e
            exact this
          rw [this] at hd; exact absurd hd (by decide)
        · rw [if_neg h3, if_neg h3'] at e
          exact tail_inj (by omega) (by omega) (List.append_cancel_left e)

abbrev R4 := Int × Int × Int × Unit

noncomputable def tryK (s : List UInt8) (n : Int) : Nat → Int → R4
  | 0, _ => (0, 0, 60, ())
  | f + 1, k => if name k n = (s, 0, ()) then (k, n, 0, ()) else tryK s n f (k + 1)
noncomputable def parseR (s : List UInt8) : R4 := tryK s (dval s 0) 5 1

theorem parseR_good {s : List UInt8} {k n : Int} (h : good s k n) : parseR s = (k, n, 0, ()) := by
  have e := good_dval h
  unfold parseR
  rw [e]
  have hk : k = 1 ∨ k = 2 ∨ k = 3 ∨ k = 4 ∨ k = 5 := by rcases (good_iff s k n).1 h with ⟨h, _⟩ | ⟨h, _⟩ <;> omega
  have no : ∀ k', k' ≠ k → name k' n ≠ (s, 0, ()) := fun k' hk' h' => hk' (good_kind (s := s) (n := n) (n' := n) h' h)
  have yes : name k n = (s, 0, ()) := h
  simp only [tryK, show (1 : Int) + 1 = 2 from rfl, show (2 : Int) + 1 = 3 from rfl, show (3 : Int) + 1 = 4 from rfl, show (4 : Int) + 1 = 5 from rfl]
  rcases hk with rfl | rfl | rfl | rfl | rfl
  · rw [if_pos yes]
  · rw [if_neg (no 1 (by decide)), if_pos yes]
  · rw [if_neg (no 1 (by decide)), if_neg (no _ (by decide)), if_pos yes]
  · rw [if_neg (no 1 (by decide)), if_neg (no _ (by decide)), if_neg (no _ (by decide)), if_pos yes]
  · rw [if_neg (no 1 (by decide)), if_neg (no _ (by decide)), if_neg (no _ (by decide)), if_neg (no _ (by decide)), if_pos yes]

theorem parseR_bad {s : List UInt8} (h : ∀ k n, ¬ good s k n) : parseR s = (0, 0, 60, ()) := by
  unfold parseR
  simp only [tryK]
  have h' : ∀ k n, name k n ≠ (s, 0, ()) := h
  rw [if_neg (h' _ _), if_neg (h' _ _), if_neg (h' _ _), if_neg (h' _ _), if_neg (h' _ _)]

def preB (s p : List UInt8) : Bool := s.take p.length == p
def sufB (s p : List UInt8) : Bool := Nat.ble p.length s.length && s.drop (s.length - p.length) == p
def step (s : List UInt8) (st : Int × List UInt8) (k : Int) : Int × List UInt8 := bif sufB s (tailS k) && st.1 == 0 then (k, s.take (s.length - (tailS k).length)) else st
def start (s : List UInt8) : Int × List UInt8 := bif preB s ahead then (3, s.drop 9) else (0, [])
noncomputable def last (s : List UInt8) (st : Int × List UInt8) : R4 :=
  if (atoi st.2).2 = true then (0, 0, 60, ()) else if name st.1 (atoi st.2).1 = (s, 0, ()) then (st.1, (atoi st.2).1, 0, ()) else (0, 0, 60, ())
noncomputable def parseA (s : List UInt8) : R4 :=
  if s = cur then (4, 0, 0, ()) else last s (step s (step s (step s (start s) 1) 2) 5)

theorem parseA_sound (s : List UInt8) : parseA s = (0, 0, 60, ()) ∨ ∃ k n, parseA s = (k, n, 0, ()) ∧ good s k n := by
  unfold parseA
  split
  · rename_i h; subst h
    right; exact ⟨4, 0, rfl, (good_iff _ _ _).2 (.inl ⟨rfl, rfl, rfl⟩)⟩
  · generalize step s (step s (step s (start s) 1) 2) 5 = st
    unfold last
    split
    · left; rfl
    · split
      · rename_i h; right; exact ⟨_, _, rfl, h⟩
      · left; rfl

theorem sufB_app (a p : List UInt8) : sufB (a ++ p) p = true := by
  unfold sufB
  rw [List.length_append, Nat.add_sub_cancel, List.drop_left, Bool.and_eq_true, Nat.ble_eq]
  exact ⟨by omega, by simp⟩

theorem sufB_other (a p q : List UInt8) (hl : p.length = q.length) (hne : p ≠ q) : sufB (a ++ p) q = false := by
  unfold sufB
  rw [List.length_append, ← hl, Nat.add_sub_cancel, List.drop_left, Bool.and_eq_false_iff]
  right; simpa using hne

theorem step_keep (s : List UInt8) (st : Int × List UInt8) (k : Int) (h : st.1 ≠ 0) : step s st k = st := by
  unfold step
  rw [show (st.1 == 0) = false by simpa using h, Bool.and_false]; rfl

theorem parseA_good {s : List UInt8} {k n : Int} (h : good s k n) : parseA s = (k, n, 0, ()) := by
  have hn : name k n = (s, 0, ()) := h
  unfold parseA
  rcases (good_iff s k n).1 h with ⟨rfl, rfl, rfl⟩ | ⟨hk, h1, h2, hs⟩
  · rw [if_pos rfl]
  · have hcur : s ≠ cur := by
      intro e
      have := good_kind h ((good_iff s 4 0).2 (.inl ⟨rfl, rfl, e⟩))
      omega
    rw [if_neg hcur]
    have key : ∀ st : Int × List UInt8, st = (k, padded n) → last s st = (k, n, 0, ()) := by
      rintro st rfl
      unfold last
      rw [atoi_padded n (by omega) h2]
      simp only [Bool.false_eq_true, if_false]
      rw [if_pos hn]
    by_cases h3 : k = 3
    · rw [if_pos h3] at hs
      have hst : start s = (3, padded n) := by
        unfold start preB
        rw [hs, show ahead.length = 9 from rfl, show (9 : Nat) = ahead.length from rfl, List.take_left, List.drop_left]
        rfl
      rw [hst, step_keep s (3, padded n) 1 (by simp), step_keep s (3, padded n) 2 (by simp), step_keep s (3, padded n) 5 (by simp)]
      exact key _ (by rw [h3])
    · rw [if_neg h3] at hs
      have hk' : k = 1 ∨ k = 2 ∨ k = 5 := by omega
      have hst : start s = (0, []) := by
        unfold start
        have : preB s ahead = false := by
          unfold preB
          obtain ⟨c, l, hc, hd⟩ := padded_head n (by omega) (tailS k)
          rw [hs, hc]
          cases e : (List.take ahead.length (c :: l) == ahead)
          · rfl
          · have e := eq_of_beq e
            have e9 : ahead.length = 8 + 1 := rfl
            rw [e9, List.take_succ_cons] at e
            have : c = 77 := by
              have := congrArg (fun l => l.headD 0) e
              exact this
            rw [this] at hd; exact absurd hd (by decide)
        rw [this]; rfl
      rw [hst]
      have tk : step s (0, []) k = (k, padded n) := by
        unfold step
        rw [hs, sufB_app, show ((0 : Int) == 0) = true from rfl, List.length_append, Nat.add_sub_cancel, List.take_left]
        rfl
      have tOth : ∀ k', (k' = 1 ∨ k' = 2 ∨ k' = 5) → k' ≠ k → step s (0, []) k' = (0, []) := by
        intro k' hk'' hne
        unfold step
        rw [hs, sufB_other _ _ _ (by rw [tail_len hk', tail_len hk'']) (fun e => hne (tail_inj hk' hk'' e).symm)]
        rfl
      rcases hk' with rfl | rfl | rfl
      · rw [tk, step_keep s (1, padded n) 2 (by simp), step_keep s (1, padded n) 5 (by simp)]
        exact key _ rfl
      · rw [tOth 1 (by simp) (by decide), tk, step_keep s (2, padded n) 5 (by simp)]
        exact key _ rfl
      · rw [tOth 1 (by simp) (by decide), tOth 2 (by simp) (by decide), tk]
        exact key _ rfl

theorem parse_same (s : List UInt8) : parseA s = parseR s := by
  rcases parseA_sound s with h | ⟨k, n, h, hg⟩
  · by_cases hx : ∃ k n, good s k n
    · obtain ⟨k, n, hg⟩ := hx
      rw [parseA_good hg, parseR_good hg]
    · rw [h, parseR_bad (fun k n hg => hx ⟨k, n, hg⟩)]
  · rw [h, parseR_good hg]

noncomputable def current (n : Int) : List UInt8 × Int × Unit := if (name 3 n).2.1 ≠ 0 then ([], (name 3 n).2.1, ()) else ((name 3 n).1 ++ [10], 0, ())
noncomputable def named (s : List UInt8) : Int × Int × Unit :=
  if sufB s [10] = true ∧ (parseA (s.take (s.length - 1))).2.2.1 = 0 ∧ (parseA (s.take (s.length - 1))).1 = 3 then ((parseA (s.take (s.length - 1))).2.1, 0, ()) else (0, 60, ())

variable (X : FnsP)

theorem ext_take (s : List UInt8) (k : Nat) : Lk.ext s (0 : Int) (k : Int) = s.take k := by
  unfold Lk.ext win; simp
theorem ext_dr (s : List UInt8) (k : Nat) : Lk.ext s (k : Int) (s.length : Int) = s.drop k := by
  unfold Lk.ext win
  simp only [Int.toNat_natCast]
  rw [List.take_of_length_le]; simp

theorem pf64_ok (s p : List UInt8) (j : Nat) : X.f64 (j + 1) s p = some (preB s p, ()) := by
  rw [X.f64_eq]
  simp only [sel_dec, ext_take]
  unfold preB
  by_cases h : p.length ≤ s.length
  · rw [if_pos (by omega), if_pos (by omega), if_pos (by omega)]
  · rw [if_neg (by omega)]
    have : (s.take p.length == p) = false := by
      rw [beq_eq_false_iff_ne]; intro e
      have := congrArg List.length e
      simp at this; omega
    rw [this]

theorem f53_ok (s p : List UInt8) (j : Nat) : X.f53 (j + 3) s p = some (bif preB s p then (s.drop p.length, true, ()) else (s, false, ())) := by
  rw [X.f53_eq, X.f75_eq, pf64_ok]
  simp only [ob_some, sel_dec, ext_dr]
  cases hp : preB s p
  · rfl
  · have hl : p.length ≤ s.length := by
      unfold preB at hp
      have := congrArg List.length (eq_of_beq hp)
      simp at this; omega
    simp only [Bool.not_true, sel_f, cond_true]
    rw [if_pos (by omega), if_pos (by omega)]
    rfl

theorem f89_ok (s p : List UInt8) (hs : s.length ≤ 2147483648) (hp : p.length ≤ 2147483648) (j : Nat) : X.f89 (j + 1) s p = some (sufB s p, ()) := by
  rw [X.f89_eq]
  simp only [sel_dec]
  unfold sufB
  by_cases h : p.length ≤ s.length
  · have w : IntKind.i64.wrap ((s.length : Int) - (p.length : Int)) = ((s.length - p.length : Nat) : Int) := by rw [wrap64 (by omega) (by omega)]; omega
    rw [w, ext_dr, if_pos (by omega), if_pos (by omega), if_pos (by omega), show Nat.ble p.length s.length = true by rw [Nat.ble_eq]; exact h]
    rfl
  · rw [if_neg (by omega), show Nat.ble p.length s.length = false by
      cases e : Nat.ble p.length s.length
      · rfl
      · rw [Nat.ble_eq] at e; omega]
    rfl

theorem f54_ok (s p : List UInt8) (hs : s.length ≤ 2147483648) (hp : p.length ≤ 2147483648) (j : Nat) : X.f54 (j + 3) s p = some (bif sufB s p then (s.take (s.length - p.length), true, ()) else (s, false, ())) := by
  rw [X.f54_eq, X.f76_eq, f89_ok X s p hs hp]
  simp only [ob_some, sel_dec]
  cases hb : sufB s p
  · rfl
  · have hl : p.length ≤ s.length := by
      unfold sufB at hb
      rw [Bool.and_eq_true, Nat.ble_eq] at hb
      exact hb.1
    have w : IntKind.i64.wrap ((s.length : Int) - (p.length : Int)) = ((s.length - p.length : Nat) : Int) := by rw [wrap64 (by omega) (by omega)]; omega
    simp only [Bool.not_true, sel_f, cond_true, w, ext_take]
    rw [if_pos (by omega), if_pos (by omega)]
    rfl

theorem last_ok (s : List UInt8) (st : Int × List UInt8) (hst : st.2.length ≤ 2147483648) (j n0 n1 : Nat) (h1 : 10 ≤ n1) (hj : 1 ≤ j) :
    X.p27_8 j n0 n1 s st.1 st.2 [1, 2, 5] 3 3 = some (last s st) := by
  obtain ⟨j, rfl⟩ : ∃ k, j = k + 1 := ⟨j - 1, by omega⟩
  obtain ⟨n1, rfl⟩ : ∃ k, n1 = k + 10 := ⟨n1 - 10, by omega⟩
  rw [X.p27_8_eq]
  simp only [sel_dec]
  rw [if_neg (by omega), X.f55_eq, show Nat.ble st.2.length 2147483648 = true by rw [Nat.ble_eq]; exact hst]
  simp only [cond_true]
  simp only [ob_some, f25_ok X.toFnsM, X.p27_2067_eq, X.p27_20_eq]
  unfold last
  cases (atoi st.2).2
  · simp only [sel_f, Bool.false_eq_true, if_false, sel_t]
    by_cases hg : name st.1 (atoi st.2).1 = (s, 0, ())
    · rw [if_pos hg, hg]
      simp [sel]
    · rw [if_neg hg]
      by_cases he : (name st.1 (atoi st.2).1).2.1 = 0
      · rw [he]
        simp only [bne_self_eq_false, sel_f]
        have : ((name st.1 (atoi st.2).1).1 == s) = false := by
          rw [beq_eq_false_iff_ne]; intro e
          exact hg (Prod.ext e (Prod.ext he rfl))
        rw [this]; rfl
      · rw [show ((name st.1 (atoi st.2).1).2.1 != 0) = true by simpa using he]
        rfl
  · simp only [sel_t, if_true]

theorem round_ok (s : List UInt8) (hs : s.length ≤ 2147483648) (st : Int × List UInt8) (j n0 n1 : Nat) (i : Nat) (k : Int) (hi : i < 3) (hk : ([1, 2, 5] : List Int).getD i 0 = k) (hj : 8 ≤ j) :
    X.p27_8 j n0 n1 s st.1 st.2 [1, 2, 5] 3 (i : Int) = X.p27_8 (j - 1) n0 n1 s (step s st k).1 (step s st k).2 [1, 2, 5] 3 ((i + 1 : Nat) : Int) := by
  obtain ⟨j, rfl⟩ : ∃ q, j = q + 8 := ⟨j - 8, by omega⟩
  have w1 : IntKind.i64.wrap ((i : Int) + 1) = ((i + 1 : Nat) : Int) := by rw [wrap64 (by omega) (by omega)]; omega
  have ht := tailS_len k
  rw [X.p27_8_eq]
  simp only [sel_dec, Int.toNat_natCast, hk]
  rw [if_pos (by omega), if_pos (by omega), if_pos (by simp; omega), f51_ok X.toFnsM]
  simp only [ob_some]
  rw [f54_ok X s (tailS k) hs (by omega)]
  simp only [ob_some, X.p27_2060_eq, X.p27_13_eq, w1]
  unfold step
  cases sufB s (tailS k) <;> cases (st.1 == 0) <;> rfl

theorem step_len (s : List UInt8) (st : Int × List UInt8) (k : Int) (n : Nat) (h : st.2.length ≤ n) (hs : s.length ≤ n) : (step s st k).2.length ≤ n := by
  unfold step
  cases (sufB s (tailS k) && st.1 == 0)
  · exact h
  · simp only [cond_true, List.length_take]; omega

theorem f27_ok (s : List UInt8) (hs : s.length ≤ 2147483648) (j : Nat) (hj : 30 ≤ j) : X.f27 j s = some (parseA s) := by
  obtain ⟨j, rfl⟩ : ∃ q, j = q + 30 := ⟨j - 30, by omega⟩
  rw [X.f27_eq]
  unfold parseA
  by_cases hc : s = cur
  · rw [if_pos hc, hc]; rfl
  · have : (s == [67, 85, 82, 82, 69, 78, 84]) = false := by rw [beq_eq_false_iff_ne]; exact hc
    rw [if_neg hc, this]
    simp only [sel_f]
    rw [show ([77, 65, 78, 73, 70, 69, 83, 84, 45] : List UInt8) = ahead from rfl, f53_ok X s ahead]
    simp only [ob_some]
    have go : ∀ st : Int × List UInt8, st.2.length ≤ 2147483648 → X.p27_7 (j + 29) (j + 29) s st.1 st.2 = some (last s (step s (step s (step s st 1) 2) 5)) := by
      intro st hst
      rw [X.p27_7_eq]
      have r1 := round_ok X s hs st (j + 28) (j + 29) (j + 28) 0 1 (by omega) rfl (by omega)
      have r2 := round_ok X s hs (step s st 1) (j + 27) (j + 29) (j + 28) 1 2 (by omega) rfl (by omega)
      have r3 := round_ok X s hs (step s (step s st 1) 2) (j + 26) (j + 29) (j + 28) 2 5 (by omega) rfl (by omega)
      have r4 := last_ok X s (step s (step s (step s st 1) 2) 5) (step_len _ _ _ _ (step_len _ _ _ _ (step_len _ _ _ _ hst hs) hs) hs) (j + 25) (j + 29) (j + 28) (by omega) (by omega)
      exact r1.trans (r2.trans (r3.trans r4))
    unfold start
    cases preB s ahead
    · exact go (0, []) (by simp)
    · exact go (3, s.drop 9) (by simp; omega)

theorem name_len (k n : Int) : (name k n).1.length ≤ 100 := by
  unfold name
  split
  · simp [cur]
  · split
    · simp
    · have hp := padded_len n (by omega) (by omega)
      have ht := tailS_len k
      split
      · simp [ahead]; omega
      · simp; omega

end Nq

/-! Names: the reference's, and the law. Plain. -/
namespace Nq
open Go Lk NqG
variable (X : FnsN)

theorem dig_byte : ∀ k : Fin 10, UInt8.ofNat (IntKind.u8.wrap (IntKind.i64.wrap ((48 : Int) + (k.val : Int)))).toNat = UInt8.ofNat (48 + k.val) := by decide +kernel

theorem p74_ok : ∀ (m u : Nat) (s : List UInt8) (j n0 : Nat), u < 10 ^ m → 0 < u → m + 1 ≤ j → s.length + m ≤ 1000 → m ≤ 18 → X.p74_2 j n0 (u : Int) s = some (Lib.decDigits u ++ s, ())
  | 0, u, s, j, n0, hu, h0, hj, hs, _ => by simp at hu; omega
  | m + 1, u, s, j, n0, hu, h0, hj, hs, hm => by
    obtain ⟨j, rfl⟩ : ∃ q, j = q + 1 := ⟨j - 1, by omega⟩
    have hp : (10 : Nat) ^ (m + 1) ≤ 10 ^ 19 := Nat.pow_le_pow_right (by decide) (by omega)
    have ed : (u : Int).tdiv 10 = ((u / 10 : Nat) : Int) := by
      rw [show (10 : Int) = ((10 : Nat) : Int) from rfl, ← Int.ofNat_tdiv]
    have em : (u : Int).tmod 10 = ((u % 10 : Nat) : Int) := by
      rw [show (10 : Int) = ((10 : Nat) : Int) from rfl, ← Int.ofNat_tmod]
    have hb : UInt8.ofNat (IntKind.u8.wrap (IntKind.i64.wrap ((48 : Int) + (u : Int).tmod 10))).toNat = UInt8.ofNat (48 + u % 10) := by
      rw [em]; exact dig_byte ⟨u % 10, by omega⟩
    rw [X.p74_2_eq]
    simp only [sel_dec, show ((10 : Int) != 0) = true from rfl, sel_t, hb, List.length_singleton]
    rw [if_pos (by omega), if_pos (by simp only [big]; omega), ed]
    have hu10 : u / 10 < 10 ^ m := by rw [Nat.pow_succ] at hu; omega
    by_cases h10 : u < 10
    · rw [Lib.decDigits, dif_pos h10]
      have : u / 10 = 0 := by omega
      rw [this]
      obtain ⟨j, rfl⟩ : ∃ q, j = q + 1 := ⟨j - 1, by omega⟩
      rw [X.p74_2_eq]
      simp only [sel_dec]
      rw [show IntKind.i64.wrap (((0 : Nat)) : Int) = 0 from rfl, if_neg (by omega), show u % 10 = u by omega]
      rfl
    · have h64 : (10 : Nat) ^ m ≤ 10 ^ 18 := Nat.pow_le_pow_right (by decide) (by omega)
      rw [wrap64 (by omega) (by omega), p74_ok m (u / 10) _ j n0 hu10 (by omega) (by omega) (by simp; omega) (by omega)]
      conv => rhs; rw [Lib.decDigits, dif_neg h10]
      simp

theorem f74_ok (n : Int) (h0 : 1 ≤ n) (h : n ≤ 2147483647) (j : Nat) : X.f74 (j + 20) n = some (Lib.itoa n, ()) := by
  rw [X.f74_eq, itoa_pos n (by omega)]
  have := p74_ok X 10 n.toNat [] (j + 19) (j + 19) (by omega) (by omega) (by omega) (by simp) (by omega)
  rw [List.append_nil, show ((n.toNat : Nat) : Int) = n by omega] at this
  exact this

theorem rep_succ (k : Nat) (s : List UInt8) : Lib.repeatL [48] k ++ ([48] ++ s) = Lib.repeatL [48] (k + 1) ++ s := by
  induction k with
  | zero => rfl
  | succ k ih => simp only [Lib.repeatL, List.cons_append, List.nil_append] at ih ⊢; rw [ih]

theorem f52_ok (n : Int) (h0 : 1 ≤ n) (h : n ≤ 2147483647) (j : Nat) : X.f52 (j + 40) n = some (padded n, ()) := by
  rw [X.f52_eq, f74_ok X n h0 h]
  simp only [ob_some]
  have go : ∀ (N : Nat) (s : List UInt8) (jj n0 : Nat), 6 ≤ s.length + N → N + 1 ≤ jj → s.length ≤ 100 → X.p52_2 jj n0 s = some (Lib.repeatL [48] (6 - s.length) ++ s, ()) := by
    intro N
    induction N with
    | zero =>
      intro s jj n0 h hj hs
      obtain ⟨jj, rfl⟩ : ∃ q, jj = q + 1 := ⟨jj - 1, by omega⟩
      rw [X.p52_2_eq, sel_dec, if_neg (by omega), show 6 - s.length = 0 by omega]
      rfl
    | succ N ih =>
      intro s jj n0 h hj hs
      obtain ⟨jj, rfl⟩ : ∃ q, jj = q + 1 := ⟨jj - 1, by omega⟩
      rw [X.p52_2_eq]
      simp only [sel_dec]
      by_cases hl : s.length < 6
      · rw [if_pos (by omega), if_pos (by simp only [big, List.length_singleton]; omega), ih _ jj n0 (by simp; omega) (by omega) (by simp; omega), rep_succ]
        congr 4
        simp; omega
      · rw [if_neg (by omega), show 6 - s.length = 0 by omega]
        rfl
  have hl := itoa_len n (by omega) (by omega)
  exact go 6 (Lib.itoa n) _ _ (by omega) (by omega) (by omega)

theorem name_bad {k n : Int} (h0 : ¬ (k = 4 ∧ n = 0)) (h : k = 4 ∨ k < 1 ∨ k > 5 ∨ n < 1 ∨ n > 2147483647) : name k n = ([], 60, ()) := by
  unfold name; rw [if_neg h0, if_pos h]
theorem name_ok {k n : Int} (h : ¬ (k = 4 ∨ k < 1 ∨ k > 5 ∨ n < 1 ∨ n > 2147483647)) : name k n = if k = 3 then (ahead ++ padded n, 0, ()) else (padded n ++ tailS k, 0, ()) := by
  unfold name; rw [if_neg (fun h' => h (.inl h'.1)), if_neg h]

theorem f26_ok (k n : Int) (j : Nat) : X.f26 (j + 60) k n = some (name k n) := by
  rw [X.f26_eq]
  have q3 : ∀ jj n0 n1, 1 ≤ n → n ≤ 2147483647 → k ≠ 4 → X.p26_5 (jj + 41) n0 n1 k n = some (name k n) := by
    intro jj n0 n1 hn1 hn2 h4
    have hp := padded_len n (by omega) (by omega)
    have la : (padded n).length + ([46, 108, 111, 103] : List UInt8).length ≤ big := by simp only [big, List.length_cons, List.length_nil]; omega
    have lb : (padded n).length + ([46, 116, 97, 98] : List UInt8).length ≤ big := by simp only [big, List.length_cons, List.length_nil]; omega
    have lc : (padded n).length + ([46, 116, 109, 112] : List UInt8).length ≤ big := by simp only [big, List.length_cons, List.length_nil]; omega
    have ld : ([77, 65, 78, 73, 70, 69, 83, 84, 45] : List UInt8).length + (padded n).length ≤ big := by simp only [big, List.length_cons, List.length_nil]; omega
    rw [X.p26_5_eq]
    simp only [f52_ok X n hn1 hn2, ob_some, sel_dec, if_pos la, if_pos lb, if_pos lc, if_pos ld]
    by_cases h1 : k = 1
    · subst h1
      rw [name_ok (by omega)]; rfl
    rw [show (k == 1) = false by simpa using h1, sel_f]
    by_cases h2 : k = 2
    · subst h2
      rw [name_ok (by omega)]; rfl
    rw [show (k == 2) = false by simpa using h2, sel_f]
    by_cases h5 : k = 5
    · subst h5
      rw [name_ok (by omega)]; rfl
    rw [show (k == 5) = false by simpa using h5, sel_f]
    by_cases h3 : k = 3
    · subst h3
      rw [name_ok (by omega)]; rfl
    rw [show (k == 3) = false by simpa using h3, sel_f, name_bad (by omega) (by omega)]
  simp only [X.p26_2050_eq, X.p26_3_eq, sel_dec]
  have qt : ∀ jj n0 n1, X.p26_2052 (jj + 1) n0 n1 k n true = some ([], 60, ()) := fun _ _ _ => X.p26_2052_eq ..
  by_cases h4 : k = 4
  · rw [show (k == 4) = true by simpa using h4]
    by_cases h0 : n = 0
    · rw [show (n == 0) = true by simpa using h0, h4, h0]; rfl
    · rw [show (n == 0) = false by simpa using h0, name_bad (fun h => h0 h.2) (.inl h4)]
      simp only [sel_t, sel_f, qt]
  · rw [show (k == 4) = false by simpa using h4]
    simp only [sel_f, sel_t]
    by_cases h6 : n < 1
    · rw [if_pos h6, name_bad (fun h => h4 h.1) (by omega), qt]
    rw [if_neg h6]
    by_cases h7 : n > 2147483647
    · rw [decide_eq_true h7, name_bad (fun h => h4 h.1) (by omega), qt]
    rw [decide_eq_false h7, X.p26_2052_eq, sel_f]
    exact q3 (j + 17) _ _ (by omega) (by omega) h4

theorem dig_val : ∀ c : UInt8, digB c = true → (UInt8.ofNat (IntKind.u8.wrap ((c.toNat : Int) - (((48 : UInt8).toNat : Nat) : Int))).toNat).toNat = c.toNat - 48 := by
  apply forall_u8
  decide +kernel

theorem dval_le : ∀ (l : List UInt8) (a : Nat), a ≤ 30000000000 → dval l a ≤ 30000000000
  | [], a, h => h
  | c :: l, a, h => by
    simp only [dval]
    apply dval_le l
    cases hq : digB c && Nat.ble a 2147483647
    · exact h
    · rw [Bool.and_eq_true, Nat.ble_eq] at hq
      have h1 := hq.1
      unfold digB at h1
      rw [Bool.and_eq_true, Nat.ble_eq, Nat.ble_eq] at h1
      simp only [cond_true]
      omega

theorem p28_ok (s : List UInt8) (hs : s.length ≤ 2147483648) : ∀ (N i a j n0 : Nat), s.length = i + N → N + 10 ≤ j → a ≤ 30000000000 → X.p28_3 j n0 s (a : Int) (i : Int) = X.p28_8 n0 n0 s ((dval (s.drop i) a : Nat) : Int) 1 := by
  intro N
  induction N with
  | zero =>
    intro i a j n0 h hj ha
    obtain ⟨j, rfl⟩ : ∃ q, j = q + 1 := ⟨j - 1, by omega⟩
    rw [X.p28_3_eq, sel_dec, if_neg (by omega), List.drop_eq_nil_of_le (by omega)]
    rfl
  | succ N ih =>
    intro i a j n0 h hj ha
    obtain ⟨j, rfl⟩ : ∃ q, j = q + 3 := ⟨j - 3, by omega⟩
    have hi : i < s.length := by omega
    have w1 : IntKind.i64.wrap ((i : Int) + 1) = ((i + 1 : Nat) : Int) := by rw [wrap64 (by omega) (by omega)]; omega
    have ed : s.drop i = s.getD i 0 :: s.drop (i + 1) := by
      rw [List.drop_eq_getElem_cons hi, List.getD_eq_getElem?_getD, List.getElem?_eq_getElem hi]; rfl
    have h0 : (0 : Int) ≤ (i : Int) := by omega
    have hl : (i : Int) < (s.length : Int) := by omega
    have hp : ∀ q : Bool, (q = true → digB (s.getD i 0) = true ∧ a ≤ 2147483647) → X.p28_2054 (j + 2) n0 (j + 2) s (a : Int) (i : Int) q = X.p28_8 n0 n0 s ((dval (s.drop (i + 1)) (bif q then a * 10 + ((s.getD i 0).toNat - 48) else a) : Nat) : Int) 1 := by
      intro q hq
      rw [X.p28_2054_eq]
      simp only [sel_dec, if_pos h0, if_pos hl, Int.toNat_natCast, X.p28_4_eq, w1]
      cases q
      · simp only [sel_f, cond_false]
        exact ih (i + 1) a (j + 2) n0 (by omega) (by omega) ha
      · obtain ⟨hd, hle⟩ := hq rfl
        have hd2 := hd
        unfold digB at hd2
        rw [Bool.and_eq_true, Nat.ble_eq, Nat.ble_eq] at hd2
        simp only [sel_t, cond_true, dig_val _ hd]
        rw [wrap64 (x := (a : Int) * 10) (by omega) (by omega), wrap64 (x := (((s.getD i 0).toNat - 48 : Nat) : Int)) (by omega) (by omega), wrap64 (by omega) (by omega)]
        have e : (a : Int) * 10 + (((s.getD i 0).toNat - 48 : Nat) : Int) = ((a * 10 + ((s.getD i 0).toNat - 48) : Nat) : Int) := by omega
        rw [e]
        exact ih (i + 1) _ (j + 2) n0 (by omega) (by omega) (by omega)
    rw [X.p28_3_eq]
    simp only [sel_dec, if_pos h0, if_pos hl, Int.toNat_natCast]
    rw [ed]
    simp only [dval]
    have e48 : (((48 : UInt8).toNat : Nat) : Int) = 48 := rfl
    have e57 : (((57 : UInt8).toNat : Nat) : Int) = 57 := rfl
    rw [e48, e57]
    by_cases g1 : ((s.getD i 0).toNat : Int) ≥ 48
    · rw [if_pos g1]
      by_cases g2 : ((s.getD i 0).toNat : Int) ≤ 57
      · have hd : digB (s.getD i 0) = true := by unfold digB; rw [Bool.and_eq_true, Nat.ble_eq, Nat.ble_eq]; omega
        rw [if_pos g2, hp _ (fun h => ⟨hd, by have := of_decide_eq_true h; omega⟩), hd, Bool.true_and]
        have : decide ((a : Int) ≤ 2147483647) = Nat.ble a 2147483647 := by
          rw [Bool.eq_iff_iff, decide_eq_true_eq, Nat.ble_eq]; omega
        rw [this]
      · have hd : digB (s.getD i 0) = false := by
          cases e : digB (s.getD i 0)
          · rfl
          · unfold digB at e; rw [Bool.and_eq_true, Nat.ble_eq, Nat.ble_eq] at e; omega
        rw [if_neg g2, hp _ (fun h => by cases h), hd]; rfl
    · have hd : digB (s.getD i 0) = false := by
        cases e : digB (s.getD i 0)
        · rfl
        · unfold digB at e; rw [Bool.and_eq_true, Nat.ble_eq, Nat.ble_eq] at e; omega
      rw [if_neg g1, hp _ (fun h => by cases h), hd]; rfl

theorem p28_8_ok (s : List UInt8) (v : Int) : ∀ (f : Nat) (k : Int) (j n0 : Nat), k = 6 - (f : Int) → 70 + f ≤ j → f ≤ 5 → X.p28_8 j n0 s v k = some (tryK s v f k)
  | 0, k, j, n0, hk, hj, _ => by
    obtain ⟨j, rfl⟩ : ∃ q, j = q + 1 := ⟨j - 1, by omega⟩
    rw [X.p28_8_eq, sel_dec, if_neg (by omega)]; rfl
  | f + 1, k, j, n0, hk, hj, hf => by
    obtain ⟨j, rfl⟩ : ∃ q, j = q + 63 := ⟨j - 63, by omega⟩
    have w1 : IntKind.i64.wrap (k + 1) = k + 1 := by rw [wrap64 (by omega) (by omega)]
    rw [X.p28_8_eq]
    simp only [sel_dec]
    rw [if_pos (by omega), show j + 62 = (j + 2) + 60 from rfl, f26_ok X k v (j + 2)]
    simp only [ob_some, X.p28_2060_eq, X.p28_9_eq, w1, tryK]
    rw [p28_8_ok s v f (k + 1) (j + 2 + 60) n0 (by omega) (by omega) (by omega)]
    by_cases hg : name k v = (s, 0, ())
    · rw [if_pos hg, hg]; simp [sel]
    · rw [if_neg hg]
      by_cases he : (name k v).2.1 = 0
      · have : ((name k v).1 == s) = false := by
          rw [beq_eq_false_iff_ne]; intro e
          exact hg (Prod.ext e (Prod.ext he rfl))
        rw [he, this]; rfl
      · rw [show ((name k v).2.1 == 0) = false by simpa using he]; rfl

theorem f28_ok (s : List UInt8) (hs : s.length ≤ 2147483648) (j : Nat) (hj : s.length + 90 ≤ j) : X.f28 j s = some (parseR s) := by
  obtain ⟨j, rfl⟩ : ∃ q, j = q + 1 := ⟨j - 1, by omega⟩
  rw [X.f28_eq]
  have h1 := p28_ok X s hs s.length 0 0 j j (by omega) (by omega) (by omega)
  rw [List.drop_zero] at h1
  exact h1.trans (p28_8_ok X s _ 5 1 j j (by omega) (by omega) (by omega))

end Nq

