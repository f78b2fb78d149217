import Derived.Test.YtgnihbbhmbbkbaaDoorLmTwo
import Derived.Test.YtgnihbbhmbbkbaaDoorNwX
set_option linter.all false
namespace Nq
open Go Lk NqG
set_option linter.unusedVariables false

/-- The functions, by their equations alone. -/
structure FnsU where
  /-- unicode/utf8.DecodeRuneInString -/
  f37 (n : Nat) (a0 : List UInt8) : Option (Int × Int × Unit)
  /-- strings.IndexByte -/
  f83 (n : Nat) (a0 : List UInt8) (a1 : UInt8) : Option (Int × Unit)
  /-- names.Quote -/
  f13 (n : Nat) (a0 : List UInt8) : Option (List UInt8 × Unit)
  /-- moraine/names.Unquote -/
  f11 (n : Nat) (a0 : List UInt8) : Option (List UInt8 × Int × Int × Unit)
  p11_5 (j : Nat) (n0 : Nat) (v0 : List UInt8) (v3 : Int) (v5 : List (UInt8)) : Option (List UInt8 × Int × Int × Unit)
  p11_6 (j : Nat) (n0 : Nat) (n1 : Nat) (v0 : List UInt8) (v3 : Int) (v5 : List (UInt8)) : Option (List UInt8 × Int × Int × Unit)
  p11_17 (j : Nat) (n0 : Nat) (v0 : List UInt8) (v3 : Int) (v5 : List (UInt8)) : Option (List UInt8 × Int × Int × Unit)
  p11_2062 (j : Nat) (n0 : Nat) (n1 : Nat) (n2 : Nat) (v0 : List UInt8) (v3 : Int) (v5 : List (UInt8)) (v9 : Int) (v60 : Bool) : Option (List UInt8 × Int × Int × Unit)
  p11_15 (j : Nat) (n0 : Nat) (n1 : Nat) (n2 : Nat) (v0 : List UInt8) (v3 : Int) (v5 : List (UInt8)) (v9 : Int) : Option (List UInt8 × Int × Int × Unit)
  /-- moraine/names.Unword -/
  f16 (n : Nat) (a0 : List UInt8) : Option (List UInt8 × Int × Int × Unit)
  p16_2053 (j : Nat) (n0 : Nat) (v0 : List UInt8) (v5 : Int) (v20 : Bool) : Option (List UInt8 × Int × Int × Unit)
  p16_6 (j : Nat) (n0 : Nat) (v0 : List UInt8) : Option (List UInt8 × Int × Int × Unit)
  /-- moraine/names.Word -/
  f18 (n : Nat) (a0 : List UInt8) : Option (List UInt8 × Unit)
  p18_2050 (j : Nat) (n0 : Nat) (v0 : List UInt8) (v9 : Bool) : Option (List UInt8 × Unit)
  p18_3 (j : Nat) (n0 : Nat) (v0 : List UInt8) : Option (List UInt8 × Unit)
  /-- strings.HasPrefix -/
  f35 (n : Nat) (a0 : List UInt8) (a1 : List UInt8) : Option (Bool × Unit)
  /-- moraine/names.escape -/
  f36 (n : Nat) (a0 : List UInt8) (a1 : Int) : Option (UInt8 × Int × Unit)
  p36_2060 (j : Nat) (n0 : Nat) (v0 : List UInt8) (v1 : Int) (v16 : UInt8) (v23 : Bool) : Option (UInt8 × Int × Unit)
  p36_2064 (j : Nat) (n0 : Nat) (n1 : Nat) (v6 : Int) (v7 : Int) (v45 : Bool) : Option (UInt8 × Int × Unit)
  p36_17 (j : Nat) (n0 : Nat) : Option (UInt8 × Int × Unit)
  /-- moraine/names.itself -/
  f38 (n : Nat) (a0 : Int) : Option (Bool × Unit)
  /-- moraine/names.odd -/
  f47 (n : Nat) (a0 : List UInt8) : Option (Int × Unit)
  p47_2 (j : Nat) (n0 : Nat) (v0 : List UInt8) (v5 : Int) (v6 : Int) : Option (Int × Unit)
  /-- internal/stringslite.HasPrefix -/
  f64 (n : Nat) (a0 : List UInt8) (a1 : List UInt8) : Option (Bool × Unit)
  /-- moraine/names.digit -/
  f65 (n : Nat) (a0 : List UInt8) (a1 : Int) : Option (Int × Unit)
  /-- moraine/names.bareByte -/
  f71 (n : Nat) (a0 : UInt8) : Option (Bool × Unit)
  p71_2050 (j : Nat) (n0 : Nat) (v0 : UInt8) (v3 : Bool) : Option (Bool × Unit)
  p71_2051 (j : Nat) (n0 : Nat) (v0 : UInt8) (v3 : Bool) : Option (Bool × Unit)
  p71_2055 (j : Nat) (n0 : Nat) (n1 : Nat) (v16 : Bool) : Option (Bool × Unit)
  p71_8 (j : Nat) (n0 : Nat) : Option (Bool × Unit)
  f37_eq (n : Nat) (a0 : List UInt8) : f37 n a0 = some ((e37 a0).1, (e37 a0).2, ())
  f83_eq (n : Nat) (a0 : List UInt8) (a1 : UInt8) : f83 n a0 a1 = some (idx a0 a1, ())
  f13_eq (n : Nat) (a0 : List UInt8) : f13 n a0 = bif Nat.ble a0.length 1073741824 then some (quote a0, ()) else none
  f11_eq (n : Nat) (a0 : List UInt8) : f11 (n + 1) a0 =
  (obind (f35 n (a0) ([(34 : UInt8)])) fun r52 =>
   (sel (!r52.fst)
    (some ([], (0 : Int), (61 : Int), ()))
    (p11_5 (n) (n) (a0) ((1 : Int)) ([]))))
  p11_5_eq (j : Nat) (n0 : Nat) (v0 : List UInt8) (v3 : Int) (v5 : List (UInt8)) : p11_5 (j + 1) n0 v0 v3 v5 =
  (sel (Decidable.decide (v3 < (↑v0.length : Int)))
   (sel (Decidable.decide ((0 : Int) ≤ v3))
    (sel (Decidable.decide (v3 < (↑v0.length : Int)))
     (sel ((↑(v0.getD v3.toNat (0 : UInt8)).toNat : Int) != (↑(UInt8.toNat (34 : UInt8)) : Int))
      (p11_6 (j) (n0) (j) (v0) (v3) (v5))
      (p11_17 (n0) (n0) (v0) (v3) (v5)))
     none)
    none)
   (p11_17 (n0) (n0) (v0) (v3) (v5)))
  p11_6_eq (j : Nat) (n0 : Nat) (n1 : Nat) (v0 : List UInt8) (v3 : Int) (v5 : List (UInt8)) : p11_6 (j + 1) n0 n1 v0 v3 v5 =
  (sel (Decidable.decide ((0 : Int) ≤ v3))
   (sel (Decidable.decide (v3 < (↑v0.length : Int)))
    (sel ((↑(v0.getD v3.toNat (0 : UInt8)).toNat : Int) == (↑(UInt8.toNat (92 : UInt8)) : Int))
     (obind (f36 j (v0) (v3)) fun r396 =>
      (sel (r396.snd.fst == (0 : Int))
       (some ([], v3, (61 : Int), ()))
       (sel (Decidable.decide (v5.length + [r396.fst].length ≤ (1073741824 : Nat)))
        (p11_5 (n1) (n0) (v0) (Go.IntKind.i64.wrap (v3 + r396.snd.fst)) (v5 ++ [r396.fst]))
        none)))
     (sel (Decidable.decide ((0 : Int) ≤ v3))
      (sel (Decidable.decide (v3 ≤ (↑v0.length : Int)))
       (obind (f37 j (Lk.ext v0 v3 (↑v0.length : Int))) fun r646 =>
        (sel (r646.fst == (65533 : Int))
         (sel (r646.snd.fst == (1 : Int))
          (p11_2062 (j) (n0) (n1) (j) (v0) (v3) (v5) (r646.snd.fst) (Bool.true))
          (obind (f38 j (r646.fst)) fun r810 =>
           (p11_2062 (j) (n0) (n1) (j) (v0) (v3) (v5) (r646.snd.fst) (!r810.fst))))
         (obind (f38 j (r646.fst)) fun r887 =>
          (p11_2062 (j) (n0) (n1) (j) (v0) (v3) (v5) (r646.snd.fst) (!r887.fst)))))
       none)
      none))
    none)
   none)
  p11_17_eq (j : Nat) (n0 : Nat) (v0 : List UInt8) (v3 : Int) (v5 : List (UInt8)) : p11_17 (j + 1) n0 v0 v3 v5 =
  (sel (v3 == (↑v0.length : Int))
   (some ([], v3, (61 : Int), ()))
   (sel (Decidable.decide (Go.IntKind.i64.wrap (v3 + (1 : Int)) < (↑v0.length : Int)))
    (some ([], Go.IntKind.i64.wrap (v3 + (1 : Int)), (61 : Int), ()))
    (obind (f13 j (v5)) fun r1147 =>
     (sel (!r1147.fst == v0)
      (some ([], (0 : Int), (61 : Int), ()))
      (some (v5, (0 : Int), (0 : Int), ()))))))
  p11_2062_eq (j : Nat) (n0 : Nat) (n1 : Nat) (n2 : Nat) (v0 : List UInt8) (v3 : Int) (v5 : List (UInt8)) (v9 : Int) (v60 : Bool) : p11_2062 (j + 1) n0 n1 n2 v0 v3 v5 v9 v60 =
  (sel (v60)
   (some ([], v3, (61 : Int), ()))
   (p11_15 (n2) (n0) (n1) (n2) (v0) (v3) (v5) (v9)))
  p11_15_eq (j : Nat) (n0 : Nat) (n1 : Nat) (n2 : Nat) (v0 : List UInt8) (v3 : Int) (v5 : List (UInt8)) (v9 : Int) : p11_15 (j + 1) n0 n1 n2 v0 v3 v5 v9 =
  (sel (Decidable.decide ((0 : Int) ≤ Go.IntKind.i64.wrap (v3 + v9)))
   (sel (Decidable.decide (Go.IntKind.i64.wrap (v3 + v9) ≤ (↑v0.length : Int)))
    (sel (Decidable.decide ((0 : Int) ≤ v3))
     (sel (Decidable.decide (v3 ≤ Go.IntKind.i64.wrap (v3 + v9)))
      (sel (Decidable.decide (v5.length + (Lk.ext v0 v3 (Go.IntKind.i64.wrap (v3 + v9))).length ≤ (1073741824 : Nat)))
       (p11_5 (n1) (n0) (v0) (Go.IntKind.i64.wrap (v3 + v9)) (v5 ++ Lk.ext v0 v3 (Go.IntKind.i64.wrap (v3 + v9))))
       none)
      none)
     none)
    none)
   none)
  f16_eq (n : Nat) (a0 : List UInt8) : f16 (n + 1) a0 =
  (obind (f35 n (a0) ([(34 : UInt8)])) fun r52 =>
   (sel (r52.fst)
    (obind (f11 n (a0)) fun r78 =>
     (some (r78.fst, r78.snd.fst, r78.snd.snd.fst, ())))
    (obind (f47 n (a0)) fun r160 =>
     (sel (a0 == [])
      (p16_2053 (n) (n) (a0) (r160.fst) (Bool.true))
      (p16_2053 (n) (n) (a0) (r160.fst) (Decidable.decide (r160.fst ≥ (0 : Int))))))))
  p16_2053_eq (j : Nat) (n0 : Nat) (v0 : List UInt8) (v5 : Int) (v20 : Bool) : p16_2053 (j + 1) n0 v0 v5 v20 =
  (sel (v20)
   (some ([], Lk.imax v5 (0 : Int), (61 : Int), ()))
   (p16_6 (n0) (n0) (v0)))
  p16_6_eq (j : Nat) (n0 : Nat) (v0 : List UInt8) : p16_6 (j + 1) n0 v0 =
  (some (v0, (0 : Int), (0 : Int), ()))
  f18_eq (n : Nat) (a0 : List UInt8) : f18 (n + 1) a0 =
  (sel (!a0 == [])
   (obind (f47 n (a0)) fun r71 =>
    (p18_2050 (n) (n) (a0) (Decidable.decide (r71.fst < (0 : Int)))))
   (p18_2050 (n) (n) (a0) (Bool.false)))
  p18_2050_eq (j : Nat) (n0 : Nat) (v0 : List UInt8) (v9 : Bool) : p18_2050 (j + 1) n0 v0 v9 =
  (sel (v9)
   (some (v0, ()))
   (p18_3 (n0) (n0) (v0)))
  p18_3_eq (j : Nat) (n0 : Nat) (v0 : List UInt8) : p18_3 (j + 1) n0 v0 =
  (obind (f13 j (v0)) fun r194 =>
   (some (r194.fst, ())))
  f35_eq (n : Nat) (a0 : List UInt8) (a1 : List UInt8) : f35 (n + 1) a0 a1 =
  (obind (f64 n (a0) (a1)) fun r44 =>
   (some (r44.fst, ())))
  f36_eq (n : Nat) (a0 : List UInt8) (a1 : Int) : f36 (n + 1) a0 a1 =
  (sel (Decidable.decide (Go.IntKind.i64.wrap (a1 + (1 : Int)) ≥ (↑a0.length : Int)))
   (some ((0 : UInt8), (0 : Int), ()))
   (sel (Decidable.decide ((0 : Int) ≤ Go.IntKind.i64.wrap (a1 + (1 : Int))))
    (sel (Decidable.decide (Go.IntKind.i64.wrap (a1 + (1 : Int)) < (↑a0.length : Int)))
     (sel ((↑(a0.getD (Go.IntKind.i64.wrap (a1 + (1 : Int))).toNat (0 : UInt8)).toNat : Int) == (↑(UInt8.toNat (110 : UInt8)) : Int))
      (some ((10 : UInt8), (2 : Int), ()))
      (sel ((↑(a0.getD (Go.IntKind.i64.wrap (a1 + (1 : Int))).toNat (0 : UInt8)).toNat : Int) == (↑(UInt8.toNat (116 : UInt8)) : Int))
       (some ((9 : UInt8), (2 : Int), ()))
       (sel ((↑(a0.getD (Go.IntKind.i64.wrap (a1 + (1 : Int))).toNat (0 : UInt8)).toNat : Int) == (↑(UInt8.toNat (115 : UInt8)) : Int))
        (some ((32 : UInt8), (2 : Int), ()))
        (sel ((↑(a0.getD (Go.IntKind.i64.wrap (a1 + (1 : Int))).toNat (0 : UInt8)).toNat : Int) == (↑(UInt8.toNat (34 : UInt8)) : Int))
         (p36_2060 (n) (n) (a0) (a1) (a0.getD (Go.IntKind.i64.wrap (a1 + (1 : Int))).toNat (0 : UInt8)) ((↑(a0.getD (Go.IntKind.i64.wrap (a1 + (1 : Int))).toNat (0 : UInt8)).toNat : Int) == (↑(UInt8.toNat (34 : UInt8)) : Int)))
         (p36_2060 (n) (n) (a0) (a1) (a0.getD (Go.IntKind.i64.wrap (a1 + (1 : Int))).toNat (0 : UInt8)) ((↑(a0.getD (Go.IntKind.i64.wrap (a1 + (1 : Int))).toNat (0 : UInt8)).toNat : Int) == (↑(UInt8.toNat (92 : UInt8)) : Int)))))))
     none)
    none))
  p36_2060_eq (j : Nat) (n0 : Nat) (v0 : List UInt8) (v1 : Int) (v16 : UInt8) (v23 : Bool) : p36_2060 (j + 1) n0 v0 v1 v16 v23 =
  (sel (v23)
   (sel (Decidable.decide ((0 : Int) ≤ Go.IntKind.i64.wrap (v1 + (1 : Int))))
    (sel (Decidable.decide (Go.IntKind.i64.wrap (v1 + (1 : Int)) < (↑v0.length : Int)))
     (some (v0.getD (Go.IntKind.i64.wrap (v1 + (1 : Int))).toNat (0 : UInt8), (2 : Int), ()))
     none)
    none)
   (sel ((↑v16.toNat : Int) == (↑(UInt8.toNat (120 : UInt8)) : Int))
    (obind (f65 j (v0) (Go.IntKind.i64.wrap (v1 + (2 : Int)))) fun r510 =>
     (obind (f65 j (v0) (Go.IntKind.i64.wrap (v1 + (3 : Int)))) fun r539 =>
      (sel (Decidable.decide (r510.fst ≥ (0 : Int)))
       (p36_2064 (j) (n0) (j) (r510.fst) (r539.fst) (Decidable.decide (r539.fst ≥ (0 : Int))))
       (p36_2064 (j) (n0) (j) (r510.fst) (r539.fst) (Bool.false)))))
    (p36_17 (n0) (n0))))
  p36_2064_eq (j : Nat) (n0 : Nat) (n1 : Nat) (v6 : Int) (v7 : Int) (v45 : Bool) : p36_2064 (j + 1) n0 n1 v6 v7 v45 =
  (sel (v45)
   (sel (Decidable.decide ((0 : Int) ≤ (4 : Int)))
    (some (UInt8.ofNat (Go.IntKind.u8.wrap (Lk.ibits Go.BinOp.or Go.IntKind.i64 (Go.IntKind.i64.wrap (v6 * (2 : Int) ^ Min.min (Int.toNat (4 : Int)) Go.IntKind.i64.bits)) v7)).toNat, (4 : Int), ()))
    none)
   (p36_17 (n0) (n0)))
  p36_17_eq (j : Nat) (n0 : Nat) : p36_17 (j + 1) n0 =
  (some ((0 : UInt8), (0 : Int), ()))
  f38_eq (n : Nat) (a0 : Int) : f38 (n + 1) a0 =
  (sel (Decidable.decide (a0 > (32 : Int)))
   (sel (Decidable.decide (a0 < (127 : Int)))
    (sel (a0 != (34 : Int))
     (sel (a0 != (92 : Int))
      (some (Bool.true, ()))
      (some (Decidable.decide (a0 > (160 : Int)), ())))
     (some (Decidable.decide (a0 > (160 : Int)), ())))
    (some (Decidable.decide (a0 > (160 : Int)), ())))
   (some (Decidable.decide (a0 > (160 : Int)), ())))
  f47_eq (n : Nat) (a0 : List UInt8) : f47 (n + 1) a0 =
  (p47_2 (n) (n) (a0) ((↑a0.length : Int)) ((0 : Int)))
  p47_2_eq (j : Nat) (n0 : Nat) (v0 : List UInt8) (v5 : Int) (v6 : Int) : p47_2 (j + 1) n0 v0 v5 v6 =
  (sel (Decidable.decide (v6 < v5))
   (sel (Decidable.decide ((0 : Int) ≤ v6))
    (sel (Decidable.decide (v6 < (↑v0.length : Int)))
     (obind (f71 j (v0.getD v6.toNat (0 : UInt8))) fun r132 =>
      (sel (!r132.fst)
       (some (v6, ()))
       (p47_2 (j) (n0) (v0) (v5) (Go.IntKind.i64.wrap (v6 + (1 : Int))))))
     none)
    none)
   (some ((-1 : Int), ())))
  f64_eq (n : Nat) (a0 : List UInt8) (a1 : List UInt8) : f64 (n + 1) a0 a1 =
  (sel (Decidable.decide ((↑a0.length : Int) ≥ (↑a1.length : Int)))
   (sel (Decidable.decide ((0 : Int) ≤ (↑a1.length : Int)))
    (sel (Decidable.decide ((↑a1.length : Int) ≤ (↑a0.length : Int)))
     (some (Lk.ext a0 (0 : Int) (↑a1.length : Int) == a1, ()))
     none)
    none)
   (some (Bool.false, ())))
  f65_eq (n : Nat) (a0 : List UInt8) (a1 : Int) : f65 (n + 1) a0 a1 =
  (sel (Decidable.decide (a1 ≥ (↑a0.length : Int)))
   (some ((-1 : Int), ()))
   (sel (Decidable.decide ((0 : Int) ≤ a1))
    (sel (Decidable.decide (a1 < (↑a0.length : Int)))
     (obind (f83 n ([(48 : UInt8), (49 : UInt8), (50 : UInt8), (51 : UInt8), (52 : UInt8), (53 : UInt8), (54 : UInt8), (55 : UInt8), (56 : UInt8), (57 : UInt8), (97 : UInt8), (98 : UInt8), (99 : UInt8), (100 : UInt8), (101 : UInt8), (102 : UInt8)]) (a0.getD a1.toNat (0 : UInt8))) fun r122 =>
      (some (r122.fst, ())))
     none)
    none))
  f71_eq (n : Nat) (a0 : UInt8) : f71 (n + 1) a0 =
  (sel (Decidable.decide ((↑a0.toNat : Int) ≥ (↑(UInt8.toNat (97 : UInt8)) : Int)))
   (p71_2050 (n) (n) (a0) (Decidable.decide ((↑a0.toNat : Int) ≤ (↑(UInt8.toNat (122 : UInt8)) : Int))))
   (p71_2050 (n) (n) (a0) (Bool.false)))
  p71_2050_eq (j : Nat) (n0 : Nat) (v0 : UInt8) (v3 : Bool) : p71_2050 (j + 1) n0 v0 v3 =
  (sel (v3)
   (p71_2051 (n0) (n0) (v0) (v3))
   (sel (Decidable.decide ((↑v0.toNat : Int) ≥ (↑(UInt8.toNat (48 : UInt8)) : Int)))
    (p71_2051 (n0) (n0) (v0) (Decidable.decide ((↑v0.toNat : Int) ≤ (↑(UInt8.toNat (57 : UInt8)) : Int))))
    (p71_2051 (n0) (n0) (v0) (Bool.false))))
  p71_2051_eq (j : Nat) (n0 : Nat) (v0 : UInt8) (v3 : Bool) : p71_2051 (j + 1) n0 v0 v3 =
  (sel (v3)
   (some (Bool.true, ()))
   (sel ((↑v0.toNat : Int) == (↑(UInt8.toNat (46 : UInt8)) : Int))
    (p71_2055 (j) (n0) (j) ((↑v0.toNat : Int) == (↑(UInt8.toNat (46 : UInt8)) : Int)))
    (sel ((↑v0.toNat : Int) == (↑(UInt8.toNat (95 : UInt8)) : Int))
     (p71_2055 (j) (n0) (j) ((↑v0.toNat : Int) == (↑(UInt8.toNat (95 : UInt8)) : Int)))
     (p71_2055 (j) (n0) (j) ((↑v0.toNat : Int) == (↑(UInt8.toNat (45 : UInt8)) : Int))))))
  p71_2055_eq (j : Nat) (n0 : Nat) (n1 : Nat) (v16 : Bool) : p71_2055 (j + 1) n0 n1 v16 =
  (sel (v16)
   (some (Bool.true, ()))
   (p71_8 (n0) (n0)))
  p71_8_eq (j : Nat) (n0 : Nat) : p71_8 (j + 1) n0 =
  (some (Bool.false, ()))
end Nq

namespace Nq
open Go Lk NqG
set_option linter.unusedVariables false

/-- The functions, by their equations alone. -/
structure FnsM where
  /-- strconv.Itoa -/
  f72 (n : Nat) (a0 : Int) : Option (List UInt8 × Unit)
  /-- strings.Repeat -/
  f73 (n : Nat) (a0 : List UInt8) (a1 : Int) : Option (List UInt8 × Unit)
  /-- moraine/names.Name -/
  f25 (n : Nat) (a0 : Int) (a1 : Int) : Option (List UInt8 × Int × Unit)
  p25_2050 (j : Nat) (n0 : Nat) (v0 : Int) (v1 : Int) (v6 : Bool) : Option (List UInt8 × Int × Unit)
  p25_2052 (j : Nat) (n0 : Nat) (n1 : Nat) (v0 : Int) (v1 : Int) (v13 : Bool) : Option (List UInt8 × Int × Unit)
  p25_7 (j : Nat) (n0 : Nat) (v0 : Int) (v1 : Int) : Option (List UInt8 × Int × Unit)
  /-- moraine/names.padded -/
  f50 (n : Nat) (a0 : Int) : Option (List UInt8 × Unit)
  /-- moraine/names.tail -/
  f51 (n : Nat) (a0 : Int) : Option (List UInt8 × Unit)
  f72_eq (n : Nat) (a0 : Int) : f72 n a0 = bif decide (-9223372036854775808 ≤ a0) && decide (a0 ≤ 9223372036854775807) then some (Lib.itoa a0, ()) else none
  f73_eq (n : Nat) (a0 : List UInt8) (a1 : Int) : f73 n a0 a1 = bif decide (0 ≤ a1) && decide (a1 ≤ 1073741824) && Nat.ble a0.length 100 then some (Lib.repeatL a0 a1.toNat, ()) else none
  f25_eq (n : Nat) (a0 : Int) (a1 : Int) : f25 (n + 1) a0 a1 =
  (sel (a0 == (4 : Int))
   (p25_2050 (n) (n) (a0) (a1) (a1 == (0 : Int)))
   (p25_2050 (n) (n) (a0) (a1) (Bool.false)))
  p25_2050_eq (j : Nat) (n0 : Nat) (v0 : Int) (v1 : Int) (v6 : Bool) : p25_2050 (j + 1) n0 v0 v1 v6 =
  (sel (v6)
   (some ([(67 : UInt8), (85 : UInt8), (82 : UInt8), (82 : UInt8), (69 : UInt8), (78 : UInt8), (84 : UInt8)], (0 : Int), ()))
   (sel (v0 == (4 : Int))
    (p25_2052 (j) (n0) (j) (v0) (v1) (Bool.true))
    (sel (Decidable.decide (v0 < (1 : Int)))
     (p25_2052 (j) (n0) (j) (v0) (v1) (Bool.true))
     (sel (Decidable.decide (v0 > (5 : Int)))
      (p25_2052 (j) (n0) (j) (v0) (v1) (Bool.true))
      (sel (Decidable.decide (v1 < (1 : Int)))
       (p25_2052 (j) (n0) (j) (v0) (v1) (Bool.true))
       (p25_2052 (j) (n0) (j) (v0) (v1) (Decidable.decide (v1 > (2147483647 : Int)))))))))
  p25_2052_eq (j : Nat) (n0 : Nat) (n1 : Nat) (v0 : Int) (v1 : Int) (v13 : Bool) : p25_2052 (j + 1) n0 n1 v0 v1 v13 =
  (sel (v13)
   (some ([], (60 : Int), ()))
   (sel (v0 == (3 : Int))
    (obind (f50 j (v1)) fun r774 =>
     (sel (Decidable.decide ([(77 : UInt8), (65 : UInt8), (78 : UInt8), (73 : UInt8), (70 : UInt8), (69 : UInt8), (83 : UInt8), (84 : UInt8), (45 : UInt8)].length + List.length r774.fst ≤ Lk.big))
      (some ([(77 : UInt8), (65 : UInt8), (78 : UInt8), (73 : UInt8), (70 : UInt8), (69 : UInt8), (83 : UInt8), (84 : UInt8), (45 : UInt8)] ++ r774.fst, (0 : Int), ()))
      none))
    (p25_7 (n0) (n0) (v0) (v1))))
  p25_7_eq (j : Nat) (n0 : Nat) (v0 : Int) (v1 : Int) : p25_7 (j + 1) n0 v0 v1 =
  (obind (f50 j (v1)) fun r841 =>
   (obind (f51 j (v0)) fun r856 =>
    (sel (Decidable.decide (List.length r841.fst + List.length r856.fst ≤ Lk.big))
     (some (r841.fst ++ r856.fst, (0 : Int), ()))
     none)))
  f50_eq (n : Nat) (a0 : Int) : f50 (n + 1) a0 =
  (obind (f72 n (a0)) fun r37 =>
   (obind (f73 n ([(48 : UInt8)]) (Lk.imax (Go.IntKind.i64.wrap ((6 : Int) - (↑(List.length r37.fst) : Int))) (0 : Int))) fun r87 =>
    (sel (Decidable.decide (List.length r87.fst + List.length r37.fst ≤ Lk.big))
     (some (r87.fst ++ r37.fst, ()))
     none)))
  f51_eq (n : Nat) (a0 : Int) : f51 (n + 1) a0 =
  (sel (a0 == (1 : Int))
   (some ([(46 : UInt8), (108 : UInt8), (111 : UInt8), (103 : UInt8)], ()))
   (sel (a0 == (2 : Int))
    (some ([(46 : UInt8), (116 : UInt8), (97 : UInt8), (98 : UInt8)], ()))
    (sel (a0 == (5 : Int))
     (some ([(46 : UInt8), (116 : UInt8), (109 : UInt8), (112 : UInt8)], ()))
     (some ([], ())))))
end Nq

namespace Nq
open Go Lk NqG
set_option linter.unusedVariables false

/-- The functions, by their equations alone. -/
structure FnsK extends FnsU, FnsM where
  /-- moraine/morainelaw06.works -/
  f20 (n : Nat) : Option (Bool × Unit)
  f20_eq (n : Nat)  : f20 (n + 1)  =
  (obind (f25 n ((1 : Int)) ((12 : Int))) fun r30 =>
   (obind (f11 n ([(34 : UInt8), (97 : UInt8), (92 : UInt8), (115 : UInt8), (98 : UInt8), (34 : UInt8)])) fun r80 =>
    (sel (r30.fst == [(48 : UInt8), (48 : UInt8), (48 : UInt8), (48 : UInt8), (49 : UInt8), (50 : UInt8), (46 : UInt8), (108 : UInt8), (111 : UInt8), (103 : UInt8)])
     (sel (r30.snd.fst == (0 : Int))
      (sel (r80.fst == [(97 : UInt8), (32 : UInt8), (98 : UInt8)])
       (sel (r80.snd.fst == (0 : Int))
        (sel (r80.snd.snd.fst == (0 : Int))
         (obind (f13 n ([(97 : UInt8), (32 : UInt8), (98 : UInt8)])) fun r331 =>
          (some (r331.fst == [(34 : UInt8), (97 : UInt8), (92 : UInt8), (115 : UInt8), (98 : UInt8), (34 : UInt8)], ())))
         (some (Bool.false, ())))
        (some (Bool.false, ())))
       (some (Bool.false, ())))
      (some (Bool.false, ())))
     (some (Bool.false, ())))))
end Nq

namespace Nq
open Go Lk NqG
set_option linter.unusedVariables false

/-- The functions, by their equations alone. -/
structure FnsW extends FnsK where
  /-- moraine/morainelaw06.NamesWide -/
  f5 (n : Nat) (a0 : List UInt8) (a1 : List UInt8) : Option (Bool × Unit)
  /-- moraine/morainelaw06.NamesUnlike -/
  f6 (n : Nat) (a0 : List UInt8) (a1 : List UInt8) : Option (Bool × Unit)
  /-- moraine/morainelaw06.NamesParted -/
  f7 (n : Nat) (a0 : List (List UInt8)) (a1 : List (Int)) : Option (Bool × Unit)
  p7_6 (j : Nat) (n0 : Nat) (v0 : List (List UInt8)) (v1 : List (Int)) (v5 : List (UInt8)) (v6 : List (List UInt8)) (v7 : Int) : Option (Bool × Unit)
  p7_12 (j : Nat) (n0 : Nat) (n1 : Nat) (v0 : List (List UInt8)) (v1 : List (Int)) (v5 : List (UInt8)) (v6 : List (List UInt8)) (v7 : Int) (v8 : List UInt8) (v9 : Int) : Option (Bool × Unit)
  p7_13 (j : Nat) (n0 : Nat) (n1 : Nat) (n2 : Nat) (v0 : List (List UInt8)) (v1 : List (Int)) (v5 : List (UInt8)) (v6 : List (List UInt8)) (v7 : Int) (v8 : List UInt8) (v9 : Int) (v10 : Int) : Option (Bool × Unit)
  p7_7 (j : Nat) (n0 : Nat) (n1 : Nat) (v0 : List (List UInt8)) (v1 : List (Int)) (v5 : List (UInt8)) (v6 : List (List UInt8)) (v7 : Int) : Option (Bool × Unit)
  /-- moraine/names.Width -/
  f21 (n : Nat) (a0 : List UInt8) : Option (Int × Unit)
  p21_3 (j : Nat) (n0 : Nat) (v3 : Int) (v5 : List UInt8) (p5 : Nat) : Option (Int × Unit)
  /-- moraine/morainelaw06.clean -/
  f22 (n : Nat) (a0 : List UInt8) : Option (Bool × Unit)
  p22_2 (j : Nat) (n0 : Nat) (v0 : List UInt8) (v3 : Int) : Option (Bool × Unit)
  p22_2053 (j : Nat) (n0 : Nat) (n1 : Nat) (v0 : List UInt8) (v3 : Int) (v19 : Bool) : Option (Bool × Unit)
  p22_3 (j : Nat) (n0 : Nat) (n1 : Nat) (v0 : List UInt8) (v3 : Int) : Option (Bool × Unit)
  /-- moraine/names.Split -/
  f23 (n : Nat) (a0 : List UInt8) : Option (List (List UInt8) × Int × Int × Unit)
  p23_4 (j : Nat) (n0 : Nat) (v0 : List UInt8) (v2 : List (List UInt8)) (v5 : Int) (v6 : Int) (v15 : Int) (v16 : Int) : Option (List (List UInt8) × Int × Int × Unit)
  p23_2055 (j : Nat) (n0 : Nat) (n1 : Nat) (v0 : List UInt8) (v2 : List (List UInt8)) (v5 : Int) (v6 : Int) (v7 : Int) (v15 : Int) (v16 : Int) (v28 : Bool) : Option (List (List UInt8) × Int × Int × Unit)
  p23_9 (j : Nat) (n0 : Nat) (v0 : List UInt8) (v2 : List (List UInt8)) (v5 : Int) (v6 : Int) : Option (List (List UInt8) × Int × Int × Unit)
  p23_8 (j : Nat) (n0 : Nat) (n1 : Nat) (v0 : List UInt8) (v2 : List (List UInt8)) (v5 : Int) (v6 : Int) (v15 : Int) (v16 : Int) : Option (List (List UInt8) × Int × Int × Unit)
  p23_10 (j : Nat) (n0 : Nat) (n1 : Nat) (v0 : List UInt8) (v2 : List (List UInt8)) (v5 : Int) (v6 : Int) (v8 : Int) : Option (List (List UInt8) × Int × Int × Unit)
  p23_25 (j : Nat) (n0 : Nat) (n1 : Nat) (v0 : List UInt8) (v2 : List (List UInt8)) (v5 : Int) (v6 : Int) : Option (List (List UInt8) × Int × Int × Unit)
  p23_2067 (j : Nat) (n0 : Nat) (n1 : Nat) (n2 : Nat) (v0 : List UInt8) (v2 : List (List UInt8)) (v5 : Int) (v6 : Int) (v8 : Int) (v10 : Int) (v64 : Bool) : Option (List (List UInt8) × Int × Int × Unit)
  p23_21 (j : Nat) (n0 : Nat) (n1 : Nat) (n2 : Nat) (v0 : List UInt8) (v2 : List (List UInt8)) (v5 : Int) (v6 : Int) (v8 : Int) (v9 : Int) : Option (List (List UInt8) × Int × Int × Unit)
  p23_20 (j : Nat) (n0 : Nat) (n1 : Nat) (n2 : Nat) (v0 : List UInt8) (v2 : List (List UInt8)) (v5 : Int) (v6 : Int) (v8 : Int) (v10 : Int) : Option (List (List UInt8) × Int × Int × Unit)
  p23_22 (j : Nat) (n0 : Nat) (n1 : Nat) (n2 : Nat) (n3 : Nat) (v0 : List UInt8) (v2 : List (List UInt8)) (v5 : Int) (v6 : Int) (v8 : Int) (v9 : Int) : Option (List (List UInt8) × Int × Int × Unit)
  p23_23 (j : Nat) (n0 : Nat) (n1 : Nat) (n2 : Nat) (v0 : List UInt8) (v2 : List (List UInt8)) (v5 : Int) (v6 : Int) (v8 : Int) (v9 : Int) : Option (List (List UInt8) × Int × Int × Unit)
  /-- moraine/morainelaw06.texts -/
  f24 (n : Nat) (a0 : List (List UInt8)) (a1 : List (List UInt8)) : Option (Bool × Unit)
  p24_4 (j : Nat) (n0 : Nat) (v0 : List (List UInt8)) (v1 : List (List UInt8)) (v5 : Int) : Option (Bool × Unit)
  /-- moraine/names.ends -/
  f49 (n : Nat) (a0 : List UInt8) (a1 : Int) : Option (Int × Bool × Unit)
  p49_2 (j : Nat) (n0 : Nat) (v0 : List UInt8) (v6 : Int) : Option (Int × Bool × Unit)
  p49_3 (j : Nat) (n0 : Nat) (n1 : Nat) (v0 : List UInt8) (v6 : Int) : Option (Int × Bool × Unit)
  f5_eq (n : Nat) (a0 : List UInt8) (a1 : List UInt8) : f5 (n + 1) a0 a1 =
  (obind (f20 n ) fun r31 =>
   (sel (!r31.fst)
    (some (Bool.false, ()))
    (obind (f21 n (a0)) fun r95 =>
     (obind (f21 n (a1)) fun r110 =>
      (sel (Decidable.decide (a0.length + a1.length ≤ Lk.big))
       (obind (f21 n (a0 ++ a1)) fun r139 =>
        (sel (Decidable.decide (r95.fst ≤ (↑a0.length : Int)))
         (sel (Decidable.decide (r110.fst ≤ (↑a1.length : Int)))
          (sel (Decidable.decide (r139.fst ≤ Go.IntKind.i64.wrap (r95.fst + r110.fst)))
           (sel (Decidable.decide (r95.fst > (0 : Int)) == !a0 == [])
            (obind (f21 n ([(97 : UInt8), (98 : UInt8)])) fun r440 =>
             (some (r440.fst == (2 : Int), ())))
            (some (Bool.false, ())))
           (some (Bool.false, ())))
          (some (Bool.false, ())))
         (some (Bool.false, ()))))
       none)))))
  f6_eq (n : Nat) (a0 : List UInt8) (a1 : List UInt8) : f6 (n + 1) a0 a1 =
  (obind (f20 n ) fun r31 =>
   (sel (!r31.fst)
    (some (Bool.false, ()))
    (obind (f13 n (a0)) fun r95 =>
     (obind (f18 n (a0)) fun r110 =>
      (obind (f11 n (r95.fst)) fun r146 =>
       (obind (f16 n (r110.fst)) fun r217 =>
        (sel (r146.snd.snd.fst == (0 : Int))
         (sel (r217.snd.snd.fst == (0 : Int))
          (sel (r146.fst == a0)
           (sel (r217.fst == a0)
            (obind (f22 n (r95.fst)) fun r502 =>
             (sel (r502.fst)
              (obind (f22 n (r110.fst)) fun r543 =>
               (sel (r543.fst)
                (obind (f13 n (a1)) fun r597 =>
                 (sel ((r95.fst == r597.fst) == (a0 == a1))
                  (obind (f18 n (a1)) fun r690 =>
                   (some ((r110.fst == r690.fst) == (a0 == a1), ())))
                  (some (Bool.false, ()))))
                (some (Bool.false, ()))))
              (some (Bool.false, ()))))
            (some (Bool.false, ())))
           (some (Bool.false, ())))
          (some (Bool.false, ())))
         (some (Bool.false, ())))))))))
  f7_eq (n : Nat) (a0 : List (List UInt8)) (a1 : List (Int)) : f7 (n + 1) a0 a1 =
  (obind (f20 n ) fun r31 =>
   (sel (!r31.fst)
    (some (Bool.false, ()))
    (p7_6 (n) (n) (a0) (a1) ([]) ([]) ((0 : Int)))))
  p7_6_eq (j : Nat) (n0 : Nat) (v0 : List (List UInt8)) (v1 : List (Int)) (v5 : List (UInt8)) (v6 : List (List UInt8)) (v7 : Int) : p7_6 (j + 1) n0 v0 v1 v5 v6 v7 =
  (sel (Decidable.decide (v7 < (↑v0.length : Int)))
   (sel (Decidable.decide ((0 : Int) ≤ v7))
    (sel (Decidable.decide (v7 < (↑v0.length : Int)))
     (obind (f18 j (v0.getD v7.toNat [])) fun r225 =>
      (sel (Decidable.decide ((↑v1.length : Int) > (0 : Int)))
       (sel ((↑v1.length : Int) != (0 : Int))
        (sel (Decidable.decide ((0 : Int) ≤ v7.tmod (↑v1.length : Int)))
         (sel (Decidable.decide (v7.tmod (↑v1.length : Int) < (↑v1.length : Int)))
          (sel ((3 : Int) != (0 : Int))
           (sel ((3 : Int) != (0 : Int))
            (p7_12 (j) (n0) (j) (v0) (v1) (v5) (v6) (v7) (r225.fst) (Go.IntKind.i64.wrap ((1 : Int) + (Go.IntKind.i64.wrap (Int.tmod (v1.getD (v7.tmod (↑v1.length : Int)).toNat (0 : Int)) (3 : Int) + (3 : Int))).tmod (3 : Int))))
            none)
           none)
          none)
         none)
        none)
       (p7_12 (j) (n0) (j) (v0) (v1) (v5) (v6) (v7) (r225.fst) ((1 : Int)))))
     none)
    none)
   (obind (f23 n0 (v5)) fun r415 =>
    (sel (r415.snd.snd.fst == (0 : Int))
     (sel (r415.snd.fst == (0 : Int))
      (obind (f24 n0 (r415.fst) (v6)) fun r572 =>
       (some (r572.fst, ())))
      (some (Bool.false, ())))
     (some (Bool.false, ())))))
  p7_12_eq (j : Nat) (n0 : Nat) (n1 : Nat) (v0 : List (List UInt8)) (v1 : List (Int)) (v5 : List (UInt8)) (v6 : List (List UInt8)) (v7 : Int) (v8 : List UInt8) (v9 : Int) : p7_12 (j + 1) n0 n1 v0 v1 v5 v6 v7 v8 v9 =
  (p7_13 (j) (n0) (n1) (j) (v0) (v1) (v5) (v6) (v7) (v8) (v9) ((0 : Int)))
  p7_13_eq (j : Nat) (n0 : Nat) (n1 : Nat) (n2 : Nat) (v0 : List (List UInt8)) (v1 : List (Int)) (v5 : List (UInt8)) (v6 : List (List UInt8)) (v7 : Int) (v8 : List UInt8) (v9 : Int) (v10 : Int) : p7_13 (j + 1) n0 n1 n2 v0 v1 v5 v6 v7 v8 v9 v10 =
  (sel (Decidable.decide (v10 < v9))
   (sel (Decidable.decide (v5.length + [(32 : UInt8)].length ≤ (1073741824 : Nat)))
    (p7_13 (j) (n0) (n1) (n2) (v0) (v1) (v5 ++ [(32 : UInt8)]) (v6) (v7) (v8) (v9) (Go.IntKind.i64.wrap (v10 + (1 : Int))))
    none)
   (sel (Decidable.decide (v5.length + v8.length ≤ (1073741824 : Nat)))
    (sel (Decidable.decide (v6.length + [v8].length ≤ (1073741824 : Nat)))
     (p7_7 (n1) (n0) (n1) (v0) (v1) (v5 ++ v8) (v6 ++ [v8]) (v7))
     none)
    none))
  p7_7_eq (j : Nat) (n0 : Nat) (n1 : Nat) (v0 : List (List UInt8)) (v1 : List (Int)) (v5 : List (UInt8)) (v6 : List (List UInt8)) (v7 : Int) : p7_7 (j + 1) n0 n1 v0 v1 v5 v6 v7 =
  (p7_6 (n1) (n0) (v0) (v1) (v5) (v6) (Go.IntKind.i64.wrap (v7 + (1 : Int))))
  f21_eq (n : Nat) (a0 : List UInt8) : f21 (n + 1) a0 =
  (p21_3 (n) (n) ((0 : Int)) (a0) ((0 : Nat)))
  p21_3_eq (j : Nat) (n0 : Nat) (v3 : Int) (v5 : List UInt8) (p5 : Nat) : p21_3 (j + 1) n0 v3 v5 p5 =
  (sel (Decidable.decide (p5 < v5.length))
   (p21_3 (j) (n0) (Go.IntKind.i64.wrap (v3 + (1 : Int))) (v5) (p5 + (Go.Utf8.decode { data := v5.toArray } p5).snd))
   (some (v3, ())))
  f22_eq (n : Nat) (a0 : List UInt8) : f22 (n + 1) a0 =
  (p22_2 (n) (n) (a0) ((0 : Int)))
  p22_2_eq (j : Nat) (n0 : Nat) (v0 : List UInt8) (v3 : Int) : p22_2 (j + 1) n0 v0 v3 =
  (sel (Decidable.decide (v3 < (↑v0.length : Int)))
   (sel (Decidable.decide ((0 : Int) ≤ v3))
    (sel (Decidable.decide (v3 < (↑v0.length : Int)))
     (sel (Decidable.decide ((↑(v0.getD v3.toNat (0 : UInt8)).toNat : Int) ≤ (↑(UInt8.toNat (32 : UInt8)) : Int)))
      (p22_2053 (j) (n0) (j) (v0) (v3) (Bool.true))
      (sel (Decidable.decide ((0 : Int) ≤ v3))
       (sel (Decidable.decide (v3 < (↑v0.length : Int)))
        (p22_2053 (j) (n0) (j) (v0) (v3) ((↑(v0.getD v3.toNat (0 : UInt8)).toNat : Int) == (↑(UInt8.toNat (127 : UInt8)) : Int)))
        none)
       none))
     none)
    none)
   (some (!v0 == [], ())))
  p22_2053_eq (j : Nat) (n0 : Nat) (n1 : Nat) (v0 : List UInt8) (v3 : Int) (v19 : Bool) : p22_2053 (j + 1) n0 n1 v0 v3 v19 =
  (sel (v19)
   (some (Bool.false, ()))
   (p22_3 (n1) (n0) (n1) (v0) (v3)))
  p22_3_eq (j : Nat) (n0 : Nat) (n1 : Nat) (v0 : List UInt8) (v3 : Int) : p22_3 (j + 1) n0 n1 v0 v3 =
  (p22_2 (n1) (n0) (v0) (Go.IntKind.i64.wrap (v3 + (1 : Int))))
  f23_eq (n : Nat) (a0 : List UInt8) : f23 (n + 1) a0 =
  (p23_4 (n) (n) (a0) ([]) ((-1 : Int)) ((↑a0.length : Int)) ((↑a0.length : Int)) ((0 : Int)))
  p23_4_eq (j : Nat) (n0 : Nat) (v0 : List UInt8) (v2 : List (List UInt8)) (v5 : Int) (v6 : Int) (v15 : Int) (v16 : Int) : p23_4 (j + 1) n0 v0 v2 v5 v6 v15 v16 =
  (sel (Decidable.decide (v16 < v15))
   (sel (Decidable.decide ((0 : Int) ≤ v16))
    (sel (Decidable.decide (v16 < (↑v0.length : Int)))
     (sel (Decidable.decide ((↑(v0.getD v16.toNat (0 : UInt8)).toNat : Int) < (↑(UInt8.toNat (32 : UInt8)) : Int)))
      (p23_2055 (j) (n0) (j) (v0) (v2) (v5) (v6) (v16) (v15) (v16) (Bool.true))
      (sel (Decidable.decide ((0 : Int) ≤ v16))
       (sel (Decidable.decide (v16 < (↑v0.length : Int)))
        (p23_2055 (j) (n0) (j) (v0) (v2) (v5) (v6) (v16) (v15) (v16) ((↑(v0.getD v16.toNat (0 : UInt8)).toNat : Int) == (↑(UInt8.toNat (127 : UInt8)) : Int)))
        none)
       none))
     none)
    none)
   (p23_9 (n0) (n0) (v0) (v2) (v5) (v6)))
  p23_2055_eq (j : Nat) (n0 : Nat) (n1 : Nat) (v0 : List UInt8) (v2 : List (List UInt8)) (v5 : Int) (v6 : Int) (v7 : Int) (v15 : Int) (v16 : Int) (v28 : Bool) : p23_2055 (j + 1) n0 n1 v0 v2 v5 v6 v7 v15 v16 v28 =
  (sel (v28)
   (p23_9 (n0) (n0) (v0) (v2) (v5) (v7))
   (p23_8 (n1) (n0) (n1) (v0) (v2) (v5) (v6) (v15) (v16)))
  p23_9_eq (j : Nat) (n0 : Nat) (v0 : List UInt8) (v2 : List (List UInt8)) (v5 : Int) (v6 : Int) : p23_9 (j + 1) n0 v0 v2 v5 v6 =
  (p23_10 (j) (n0) (j) (v0) (v2) (v5) (v6) ((0 : Int)))
  p23_8_eq (j : Nat) (n0 : Nat) (n1 : Nat) (v0 : List UInt8) (v2 : List (List UInt8)) (v5 : Int) (v6 : Int) (v15 : Int) (v16 : Int) : p23_8 (j + 1) n0 n1 v0 v2 v5 v6 v15 v16 =
  (p23_4 (n1) (n0) (v0) (v2) (v5) (v6) (v15) (Go.IntKind.i64.wrap (v16 + (1 : Int))))
  p23_10_eq (j : Nat) (n0 : Nat) (n1 : Nat) (v0 : List UInt8) (v2 : List (List UInt8)) (v5 : Int) (v6 : Int) (v8 : Int) : p23_10 (j + 1) n0 n1 v0 v2 v5 v6 v8 =
  (sel (Decidable.decide (v8 < (↑v0.length : Int)))
   (sel (Decidable.decide ((0 : Int) ≤ v8))
    (sel (Decidable.decide (v8 < (↑v0.length : Int)))
     (sel ((↑(v0.getD v8.toNat (0 : UInt8)).toNat : Int) == (↑(UInt8.toNat (32 : UInt8)) : Int))
      (p23_10 (j) (n0) (n1) (v0) (v2) (v5) (v6) (Go.IntKind.i64.wrap (v8 + (1 : Int))))
      (sel (Decidable.decide ((0 : Int) ≤ v8))
       (sel (Decidable.decide (v8 < (↑v0.length : Int)))
        (sel ((↑(v0.getD v8.toNat (0 : UInt8)).toNat : Int) == (↑(UInt8.toNat (34 : UInt8)) : Int))
         (obind (f49 j (v0) (v8)) fun r621 =>
          (sel (!r621.snd.fst)
           (p23_25 (n1) (n0) (n1) (v0) (v2) (v8) (v6))
           (sel (Decidable.decide (r621.fst < (↑v0.length : Int)))
            (sel (Decidable.decide ((0 : Int) ≤ r621.fst))
             (sel (Decidable.decide (r621.fst < (↑v0.length : Int)))
              (p23_2067 (j) (n0) (n1) (j) (v0) (v2) (v5) (v6) (v8) (r621.fst) ((↑(v0.getD (Int.toNat r621.fst) (0 : UInt8)).toNat : Int) != (↑(UInt8.toNat (32 : UInt8)) : Int)))
              none)
             none)
            (p23_2067 (j) (n0) (n1) (j) (v0) (v2) (v5) (v6) (v8) (r621.fst) (Bool.false)))))
         (p23_21 (j) (n0) (n1) (j) (v0) (v2) (v5) (v6) (v8) (v8)))
        none)
       none))
     none)
    none)
   (p23_25 (n1) (n0) (n1) (v0) (v2) (v5) (v6)))
  p23_25_eq (j : Nat) (n0 : Nat) (n1 : Nat) (v0 : List UInt8) (v2 : List (List UInt8)) (v5 : Int) (v6 : Int) : p23_25 (j + 1) n0 n1 v0 v2 v5 v6 =
  (sel (Decidable.decide (v6 < (↑v0.length : Int)))
   (some ([], v6, (61 : Int), ()))
   (sel (Decidable.decide (v5 ≥ (0 : Int)))
    (some ([], v5, (61 : Int), ()))
    (some (v2, (0 : Int), (0 : Int), ()))))
  p23_2067_eq (j : Nat) (n0 : Nat) (n1 : Nat) (n2 : Nat) (v0 : List UInt8) (v2 : List (List UInt8)) (v5 : Int) (v6 : Int) (v8 : Int) (v10 : Int) (v64 : Bool) : p23_2067 (j + 1) n0 n1 n2 v0 v2 v5 v6 v8 v10 v64 =
  (sel (v64)
   (some ([], Lk.imin v10 v6, (61 : Int), ()))
   (p23_20 (n2) (n0) (n1) (n2) (v0) (v2) (v5) (v6) (v8) (v10)))
  p23_21_eq (j : Nat) (n0 : Nat) (n1 : Nat) (n2 : Nat) (v0 : List UInt8) (v2 : List (List UInt8)) (v5 : Int) (v6 : Int) (v8 : Int) (v9 : Int) : p23_21 (j + 1) n0 n1 n2 v0 v2 v5 v6 v8 v9 =
  (sel (Decidable.decide (v9 < (↑v0.length : Int)))
   (sel (Decidable.decide ((0 : Int) ≤ v9))
    (sel (Decidable.decide (v9 < (↑v0.length : Int)))
     (sel ((↑(v0.getD v9.toNat (0 : UInt8)).toNat : Int) != (↑(UInt8.toNat (32 : UInt8)) : Int))
      (p23_22 (j) (n0) (n1) (n2) (j) (v0) (v2) (v5) (v6) (v8) (v9))
      (p23_23 (n2) (n0) (n1) (n2) (v0) (v2) (v5) (v6) (v8) (v9)))
     none)
    none)
   (p23_23 (n2) (n0) (n1) (n2) (v0) (v2) (v5) (v6) (v8) (v9)))
  p23_20_eq (j : Nat) (n0 : Nat) (n1 : Nat) (n2 : Nat) (v0 : List UInt8) (v2 : List (List UInt8)) (v5 : Int) (v6 : Int) (v8 : Int) (v10 : Int) : p23_20 (j + 1) n0 n1 n2 v0 v2 v5 v6 v8 v10 =
  (p23_23 (n2) (n0) (n1) (n2) (v0) (v2) (v5) (v6) (v8) (v10))
  p23_22_eq (j : Nat) (n0 : Nat) (n1 : Nat) (n2 : Nat) (n3 : Nat) (v0 : List UInt8) (v2 : List (List UInt8)) (v5 : Int) (v6 : Int) (v8 : Int) (v9 : Int) : p23_22 (j + 1) n0 n1 n2 n3 v0 v2 v5 v6 v8 v9 =
  (p23_21 (n3) (n0) (n1) (n2) (v0) (v2) (v5) (v6) (v8) (Go.IntKind.i64.wrap (v9 + (1 : Int))))
  p23_23_eq (j : Nat) (n0 : Nat) (n1 : Nat) (n2 : Nat) (v0 : List UInt8) (v2 : List (List UInt8)) (v5 : Int) (v6 : Int) (v8 : Int) (v9 : Int) : p23_23 (j + 1) n0 n1 n2 v0 v2 v5 v6 v8 v9 =
  (sel (Decidable.decide ((0 : Int) ≤ v9))
   (sel (Decidable.decide (v9 ≤ (↑v0.length : Int)))
    (sel (Decidable.decide ((0 : Int) ≤ v8))
     (sel (Decidable.decide (v8 ≤ v9))
      (sel (Decidable.decide (v2.length + [Lk.ext v0 v8 v9].length ≤ (1073741824 : Nat)))
       (p23_10 (n2) (n0) (n1) (v0) (v2 ++ [Lk.ext v0 v8 v9]) (v5) (v6) (v9))
       none)
      none)
     none)
    none)
   none)
  f24_eq (n : Nat) (a0 : List (List UInt8)) (a1 : List (List UInt8)) : f24 (n + 1) a0 a1 =
  (sel ((↑a0.length : Int) != (↑a1.length : Int))
   (some (Bool.false, ()))
   (p24_4 (n) (n) (a0) (a1) ((0 : Int))))
  p24_4_eq (j : Nat) (n0 : Nat) (v0 : List (List UInt8)) (v1 : List (List UInt8)) (v5 : Int) : p24_4 (j + 1) n0 v0 v1 v5 =
  (sel (Decidable.decide (v5 < (↑v0.length : Int)))
   (sel (Decidable.decide ((0 : Int) ≤ v5))
    (sel (Decidable.decide (v5 < (↑v0.length : Int)))
     (sel (Decidable.decide ((0 : Int) ≤ v5))
      (sel (Decidable.decide (v5 < (↑v1.length : Int)))
       (sel (!v0.getD v5.toNat [] == v1.getD v5.toNat [])
        (some (Bool.false, ()))
        (p24_4 (j) (n0) (v0) (v1) (Go.IntKind.i64.wrap (v5 + (1 : Int)))))
       none)
      none)
     none)
    none)
   (some (Bool.true, ())))
  f49_eq (n : Nat) (a0 : List UInt8) (a1 : Int) : f49 (n + 1) a0 a1 =
  (p49_2 (n) (n) (a0) (Go.IntKind.i64.wrap (a1 + (1 : Int))))
  p49_2_eq (j : Nat) (n0 : Nat) (v0 : List UInt8) (v6 : Int) : p49_2 (j + 1) n0 v0 v6 =
  (sel (Decidable.decide (v6 < (↑v0.length : Int)))
   (sel (Decidable.decide ((0 : Int) ≤ v6))
    (sel (Decidable.decide (v6 < (↑v0.length : Int)))
     (sel ((↑(v0.getD v6.toNat (0 : UInt8)).toNat : Int) == (↑(UInt8.toNat (92 : UInt8)) : Int))
      (p49_3 (j) (n0) (j) (v0) (Go.IntKind.i64.wrap (v6 + (1 : Int))))
      (sel ((↑(v0.getD v6.toNat (0 : UInt8)).toNat : Int) == (↑(UInt8.toNat (34 : UInt8)) : Int))
       (some (Go.IntKind.i64.wrap (v6 + (1 : Int)), Bool.true, ()))
       (p49_3 (j) (n0) (j) (v0) (v6))))
     none)
    none)
   (some ((0 : Int), Bool.false, ())))
  p49_3_eq (j : Nat) (n0 : Nat) (n1 : Nat) (v0 : List UInt8) (v6 : Int) : p49_3 (j + 1) n0 n1 v0 v6 =
  (p49_2 (n1) (n0) (v0) (Go.IntKind.i64.wrap (v6 + (1 : Int))))
end Nq

namespace Nq
open Go Lk NqG
variable (X : FnsU)

theorem f71_ok (n : Nat) (c : UInt8) : X.f71 (n + 4) c = some (bareB c, ()) := by
  rw [X.f71_eq]
  simp only [X.p71_2050_eq, X.p71_2051_eq, X.p71_2055_eq, X.p71_8_eq]
  revert c
  apply forall_u8
  decide +kernel

theorem f47_ok (b : List UInt8) (hlen : b.length ≤ 1073741824) (j : Nat) (hj : b.length + 8 ≤ j) : X.f47 j b = some (oddS b, ()) := by
  obtain ⟨j, rfl⟩ : ∃ q, j = q + 1 := ⟨j - 1, by omega⟩
  rw [X.f47_eq]
  have go : ∀ (N i jj n0 : Nat), b.length ≤ i + N → i ≤ b.length → N + 5 ≤ jj → X.p47_2 jj n0 b (b.length : Int) (i : Int) = some (oddF b N i, ()) := by
    intro N
    induction N with
    | zero =>
      intro i jj n0 h hi hjj
      obtain ⟨jj, rfl⟩ : ∃ q, jj = q + 1 := ⟨jj - 1, by omega⟩
      rw [X.p47_2_eq, sel_dec, if_neg (by omega)]
      rfl
    | succ N ih =>
      intro i jj n0 h hi hjj
      obtain ⟨jj, rfl⟩ : ∃ q, jj = q + 5 := ⟨jj - 5, by omega⟩
      rw [X.p47_2_eq]
      simp only [sel_dec]
      by_cases hlt : i < b.length
      · have w1 : IntKind.i64.wrap ((i : Int) + 1) = ((i + 1 : Nat) : Int) := by rw [wrap64 (by omega) (by omega)]; omega
        rw [if_pos (by omega), if_pos (by omega), if_pos (by omega)]
        simp only [Int.toNat_natCast, f71_ok X, ob_some, w1, oddF, blt_t hlt, cond_true]
        cases bareB (b.getD i 0)
        · rfl
        · simp only [Bool.not_true, sel_f, cond_true]
          exact ih (i + 1) (jj + 4) n0 (by omega) (by omega) (by omega)
      · rw [if_neg (by omega)]
        simp only [oddF, blt_f hlt, cond_false]
  exact go b.length 0 j j (by omega) (by omega) (by omega)

theorem f64_ok (n : Nat) (b : List UInt8) (c : UInt8) : X.f64 (n + 1) b [c] = some (Nat.blt 0 b.length && b.getD 0 0 == c, ()) := by
  rw [X.f64_eq]
  simp only [sel_dec]
  cases b with
  | nil => rfl
  | cons a l =>
    rw [if_pos (by simp; omega), if_pos (by simp), if_pos (by simp; omega)]
    have : ext (a :: l) (0 : Int) (([c] : List UInt8).length : Int) = [a] := by simp [ext, win]
    rw [this]
    have h2 : Nat.blt 0 (a :: l).length = true := blt_t (by simp)
    rw [h2]
    simp [List.cons_beq_cons]

theorem f35_ok (n : Nat) (b : List UInt8) (c : UInt8) : X.f35 (n + 2) b [c] = some (Nat.blt 0 b.length && b.getD 0 0 == c, ()) := by
  rw [X.f35_eq, f64_ok X]
  rfl

theorem idx_hex : ∀ c : UInt8, idx [48, 49, 50, 51, 52, 53, 54, 55, 56, 57, 97, 98, 99, 100, 101, 102] c = if dg c < 16 then (dg c : Int) else -1 := by
  apply forall_u8
  decide +kernel

theorem f65_ok (n : Nat) (b : List UInt8) (i : Nat) : X.f65 (n + 1) b (i : Int) = some (if dgAt b i < 16 then (dgAt b i : Int) else -1, ()) := by
  rw [X.f65_eq]
  simp only [sel_dec]
  unfold dgAt
  by_cases h : i < b.length
  · rw [if_neg (by omega), if_pos (by omega), if_pos (by omega), X.f83_eq]
    simp only [ob_some, Int.toNat_natCast, idx_hex, blt_t h, cond_true]
  · rw [if_pos (by omega), blt_f h]
    rfl

theorem or_hex : ∀ (h l : Fin 16), UInt8.ofNat (IntKind.u8.wrap (ibits .or .i64 (IntKind.i64.wrap ((h.val : Int) * (2 : Int) ^ Min.min (Int.toNat (4 : Int)) IntKind.i64.bits)) (l.val : Int))).toNat = UInt8.ofNat (16 * h.val + l.val) := by
  decide +kernel

theorem f36_ok (n : Nat) (b : List UInt8) (hlen : b.length ≤ 1073741824) (i : Nat) (hi : i < b.length) : X.f36 (n + 8) b (i : Int) = some ((escS b i).1, ((escS b i).2 : Int), ()) := by
  have w1 : IntKind.i64.wrap ((i : Int) + 1) = ((i + 1 : Nat) : Int) := by rw [wrap64 (by omega) (by omega)]; omega
  have w2 : IntKind.i64.wrap ((i : Int) + 2) = ((i + 2 : Nat) : Int) := by rw [wrap64 (by omega) (by omega)]; omega
  have w3 : IntKind.i64.wrap ((i : Int) + 3) = ((i + 3 : Nat) : Int) := by rw [wrap64 (by omega) (by omega)]; omega
  rw [X.f36_eq]
  simp only [sel_dec, w1]
  unfold escS
  by_cases h : i + 1 < b.length
  · have h0 : (0 : Int) ≤ ((i + 1 : Nat) : Int) := by omega
    have hlt : ((i + 1 : Nat) : Int) < (b.length : Int) := by omega
    rw [if_neg (by omega), if_pos h0, if_pos hlt, blt_t h]
    simp only [Int.toNat_natCast, b_eq, cond_true, X.p36_2060_eq, sel_dec, w1, w2, w3, if_pos h0, if_pos hlt, f65_ok X, ob_some, X.p36_17_eq]
    generalize (b.getD (i + 1) 0) = c
    cases h110 : (c == 110)
    · cases h116 : (c == 116)
      · cases h115 : (c == 115)
        · cases h34 : (c == 34)
          · cases h92 : (c == 92)
            · simp only [sel_f, cond_false, Bool.or_false]
              cases h120 : (c == 120)
              · rfl
              · simp only [sel_t, cond_true]
                by_cases d1 : dgAt b (i + 2) < 16
                · by_cases d2 : dgAt b (i + 3) < 16
                  · rw [if_pos d1, if_pos d2, if_pos (by omega), blt_t d1, blt_t d2, X.p36_2064_eq]
                    have e : decide ((dgAt b (i + 3) : Int) ≥ 0) = true := decide_eq_true (by omega)
                    rw [e]
                    have := or_hex ⟨_, d1⟩ ⟨_, d2⟩
                    simp only at this
                    simp only [sel_t, sel_dec, this]
                    rfl
                  · rw [if_pos d1, if_neg d2, if_pos (by omega), blt_f d2, Bool.and_false, X.p36_2064_eq]
                    simp only [sel_f, show decide ((-1 : Int) ≥ 0) = false from rfl, X.p36_17_eq]
                    rfl
                · rw [if_neg d1, if_neg (by omega), blt_f d1, Bool.false_and, X.p36_2064_eq]
                  simp only [sel_f, X.p36_17_eq]
                  rfl
            · simp only [sel_f, sel_t, cond_false, Bool.or_true, cond_true]; rfl
          · simp only [sel_f, sel_t, cond_false, Bool.true_or, cond_true]; rfl
        · rfl
      · rfl
    · rfl
  · rw [if_pos (by omega), blt_f h]
    rfl
theorem blt_dec (a b : Nat) : Nat.blt a b = decide (a < b) := by
  rw [Bool.eq_iff_iff]; simp [Nat.blt_eq]

theorem self_eq (r : Nat) : self r = decide (((32 : Int) < (r : Int) ∧ (r : Int) < 127 ∧ (r : Int) ≠ 34 ∧ (r : Int) ≠ 92) ∨ (160 : Int) < (r : Int)) := by
  unfold self
  rw [Bool.eq_iff_iff]
  simp only [blt_dec, Bool.or_eq_true, Bool.and_eq_true, decide_eq_true_eq, Bool.not_eq_true', beq_eq_false_iff_ne]
  omega

theorem f38_ok (n r : Nat) : X.f38 (n + 1) (r : Int) = some (self r, ()) := by
  rw [X.f38_eq, self_eq]
  have en34 : ((r : Int) != 34) = decide ((r : Int) ≠ 34) := by rw [Bool.eq_iff_iff]; simp
  have en92 : ((r : Int) != 92) = decide ((r : Int) ≠ 92) := by rw [Bool.eq_iff_iff]; simp
  rw [en34, en92]
  simp only [sel_dec]
  by_cases h1 : (r : Int) > 32
  · rw [if_pos h1]
    by_cases h2 : (r : Int) < 127
    · rw [if_pos h2]
      by_cases h3 : (r : Int) ≠ 34
      · rw [if_pos h3]
        by_cases h4 : (r : Int) ≠ 92
        · rw [if_pos h4, decide_eq_true (Or.inl ⟨h1, h2, h3, h4⟩)]
        · rw [if_neg h4, decide_eq_false (by omega), decide_eq_false (by omega)]
      · rw [if_neg h3, decide_eq_false (by omega), decide_eq_false (by omega)]
    · rw [if_neg h2]
      congr 2
      apply decide_eq_decide.2; omega
  · rw [if_neg h1]
    congr 2
    apply decide_eq_decide.2; omega

theorem e37_at (b : List UInt8) (i : Nat) (hi : i < b.length) : e37 (ext b (i : Int) (b.length : Int)) = ((rn b i : Int), (sz b i : Int)) := by
  rw [ext_drop]
  unfold e37
  have : (b.drop i).isEmpty = false := by
    cases h : b.drop i with
    | nil => have := congrArg List.length h; simp at this; omega
    | cons _ _ => rfl
  rw [this, decode_drop]
  rfl

/-- names.Unquote, from a place on. -/
theorem p11_ok (b : List UInt8) (hlen : b.length ≤ 1073741824) : ∀ (N i j n0 : Nat) (acc : List UInt8), b.length ≤ i + N → i ≤ b.length → acc.length ≤ i → N + 20 ≤ j → 4 ≤ n0 →
    X.p11_5 j n0 b (i : Int) acc = some (unqR b N i acc) := by
  intro N
  induction N with
  | zero =>
    intro i j n0 acc h hi hacc hj hn
    obtain ⟨j, rfl⟩ : ∃ q, j = q + 1 := ⟨j - 1, by omega⟩
    obtain ⟨n0, rfl⟩ : ∃ q, n0 = q + 1 := ⟨n0 - 1, by omega⟩
    rw [X.p11_5_eq, sel_dec, if_neg (by omega), X.p11_17_eq]
    have e : ((i : Int) == (b.length : Int)) = true := by rw [beq_iff_eq]; omega
    rw [e]
    rfl
  | succ N ih =>
    intro i j n0 acc h hi hacc hj hn
    obtain ⟨j, rfl⟩ : ∃ q, j = q + 20 := ⟨j - 20, by omega⟩
    obtain ⟨n0, rfl⟩ : ∃ q, n0 = q + 1 := ⟨n0 - 1, by omega⟩
    rw [X.p11_5_eq]
    simp only [sel_dec]
    by_cases hlt : i < b.length
    · have w1 : IntKind.i64.wrap ((i : Int) + 1) = ((i + 1 : Nat) : Int) := by rw [wrap64 (by omega) (by omega)]; omega
      have h0 : (0 : Int) ≤ (i : Int) := by omega
      have hl : (i : Int) < (b.length : Int) := by omega
      have hle : (i : Int) ≤ (b.length : Int) := by omega
      rw [if_pos hl, if_pos h0, if_pos hl]
      simp only [Int.toNat_natCast, b_ne, unqR, blt_t hlt, cond_true]
      cases h34 : (b.getD i 0 == 34)
      · have n34 : (b.getD i 0 != 34) = true := by simp only [bne, h34, Bool.not_false]
        rw [n34]
        simp only [sel_t, cond_false]
        rw [X.p11_6_eq]
        simp only [sel_dec, if_pos h0, if_pos hl, if_pos hle, Int.toNat_natCast, b_eq]
        cases h92 : (b.getD i 0 == 92)
        · simp only [sel_f, cond_false, X.f37_eq, e37_at b i hlt, ob_some, f38_ok X]
          have hs := sz_bd b i
          have hle2 := decode_le b i hlt
          have w2 : IntKind.i64.wrap ((i : Int) + (sz b i : Int)) = ((i + sz b i : Nat) : Int) := by rw [wrap64 (by omega) (by omega)]; omega
          have q1 : (((rn b i : Nat) : Int) == (65533 : Int)) = (rn b i == 65533) := by rw [Bool.eq_iff_iff]; simp only [beq_iff_eq]; omega
          have q2 : (((sz b i : Nat) : Int) == (1 : Int)) = (sz b i == 1) := by rw [Bool.eq_iff_iff]; simp only [beq_iff_eq]; omega
          have go : X.p11_15 (j + 17) (n0 + 1) (j + 19) (j + 18) b (i : Int) acc (sz b i : Int) = some (unqR b N (i + sz b i) (acc ++ ext b (i : Int) ((i + sz b i : Nat) : Int))) := by
            have el := ext_len b i (i + sz b i) hle2
            rw [X.p11_15_eq]
            simp only [sel_dec, w2]
            rw [if_pos (by omega), if_pos (by omega), if_pos (by omega), if_pos (by omega), if_pos (by rw [el]; omega)]
            exact ih (i + sz b i) (j + 19) (n0 + 1) _ (by omega) (by omega) (by rw [List.length_append, el]; omega) (by omega) (by omega)
          have go2 : ∀ q : Bool, X.p11_2062 (j + 18) (n0 + 1) (j + 19) (j + 18) b (i : Int) acc (sz b i : Int) q = some (bif q then bad i else unqR b N (i + sz b i) (acc ++ ext b (i : Int) ((i + sz b i : Nat) : Int))) := by
            intro q
            have go' : X.p11_15 (j + 18) (n0 + 1) (j + 19) (j + 18) b (i : Int) acc (sz b i : Int) = some (unqR b N (i + sz b i) (acc ++ ext b (i : Int) ((i + sz b i : Nat) : Int))) := by
              have el := ext_len b i (i + sz b i) hle2
              rw [X.p11_15_eq]
              simp only [sel_dec, w2]
              rw [if_pos (by omega), if_pos (by omega), if_pos (by omega), if_pos (by omega), if_pos (by rw [el]; omega)]
              exact ih (i + sz b i) (j + 19) (n0 + 1) _ (by omega) (by omega) (by rw [List.length_append, el]; omega) (by omega) (by omega)
            rw [X.p11_2062_eq]
            cases q
            · simp only [sel_f, cond_false]; exact go'
            · rfl
          rw [q1, q2]
          simp only [go2]
          cases (rn b i == 65533) <;> cases (sz b i == 1) <;> cases (self (rn b i)) <;> rfl
        · simp only [sel_t, cond_true, f36_ok X _ b hlen i hlt, ob_some]
          have hle2 := escS_le b i
          have q : ((((escS b i).2 : Nat) : Int) == (0 : Int)) = ((escS b i).2 == 0) := by rw [Bool.eq_iff_iff]; simp only [beq_iff_eq]; omega
          rw [q]
          cases hz : ((escS b i).2 == 0)
          · have hz' : (escS b i).2 ≠ 0 := by simpa using hz
            have w2 : IntKind.i64.wrap ((i : Int) + ((escS b i).2 : Int)) = ((i + (escS b i).2 : Nat) : Int) := by rw [wrap64 (by omega) (by omega)]; omega
            simp only [sel_f, cond_false, sel_dec, w2]
            rw [if_pos (by simp; omega)]
            exact ih (i + (escS b i).2) (j + 19) (n0 + 1) _ (by omega) (by omega) (by simp; omega) (by omega) (by omega)
          · rfl
      · have n34 : (b.getD i 0 != 34) = false := by simp only [bne, h34, Bool.not_true]
        rw [n34]
        simp only [sel_f, cond_true]
        rw [X.p11_17_eq]
        have e : ((i : Int) == (b.length : Int)) = false := by rw [beq_eq_false_iff_ne]; omega
        rw [e]
        simp only [sel_f, sel_dec, w1]
        by_cases h1 : i + 1 < b.length
        · rw [if_pos (by omega), blt_t h1]; rfl
        · have hb : Nat.ble acc.length 1073741824 = true := by rw [Nat.ble_eq]; omega
          rw [if_neg (by omega), blt_f h1, X.f13_eq, hb]
          simp only [cond_true, cond_false, ob_some]
          cases (quote acc == b) <;> rfl
    · rw [if_neg (by omega), X.p11_17_eq]
      have e : ((i : Int) == (b.length : Int)) = true := by rw [beq_iff_eq]; omega
      rw [e]
      simp only [unqR, blt_f hlt, cond_false, sel_t]
      rfl

theorem f11_ok (b : List UInt8) (hlen : b.length ≤ 1073741824) (j : Nat) (hj : b.length + 25 ≤ j) : X.f11 j b = some (unquote b) := by
  obtain ⟨j, rfl⟩ : ∃ q, j = q + 3 := ⟨j - 3, by omega⟩
  rw [X.f11_eq, f35_ok X]
  simp only [ob_some]
  unfold unquote
  cases h : (Nat.blt 0 b.length && b.getD 0 0 == 34)
  · rfl
  · simp only [Bool.not_true, sel_f, cond_true]
    have hl : 0 < b.length := by
      rw [Bool.and_eq_true] at h
      simpa [Nat.blt_eq] using h.1
    have := p11_ok X b hlen b.length 1 (j + 2) (j + 2) [] (by omega) (by omega) (by simp) (by omega) (by omega)
    exact this

theorem f16_ok (b : List UInt8) (hlen : b.length ≤ 1073741824) (j : Nat) (hj : b.length + 30 ≤ j) : X.f16 j b = some (unword b) := by
  obtain ⟨j, rfl⟩ : ∃ q, j = q + 4 := ⟨j - 4, by omega⟩
  rw [X.f16_eq, f35_ok X]
  simp only [ob_some]
  unfold unword
  cases h : (Nat.blt 0 b.length && b.getD 0 0 == 34)
  · simp only [sel_f, cond_false, f47_ok X b hlen (j + 3) (by omega), ob_some, X.p16_2053_eq, X.p16_6_eq]
    have he : (b == []) = b.isEmpty := by cases b <;> rfl
    rw [he]
    cases b.isEmpty <;> cases (decide (oddS b ≥ 0)) <;> rfl
  · simp only [sel_t, cond_true, f11_ok X b hlen (j + 3) (by omega), ob_some]

theorem f18_ok (b : List UInt8) (hlen : b.length ≤ 1073741824) (j : Nat) (hj : b.length + 30 ≤ j) : X.f18 j b = some (word b, ()) := by
  obtain ⟨j, rfl⟩ : ∃ q, j = q + 4 := ⟨j - 4, by omega⟩
  have hb : Nat.ble b.length 1073741824 = true := by rw [Nat.ble_eq]; exact hlen
  rw [X.f18_eq]
  unfold word
  have he : (b == []) = b.isEmpty := by cases b <;> rfl
  rw [he]
  simp only [f47_ok X b hlen (j + 3) (by omega), ob_some, X.p18_2050_eq, X.p18_3_eq, X.f13_eq, hb, cond_true]
  cases b.isEmpty <;> cases (decide (oddS b < 0)) <;> rfl
end Nq

/-! Names: plain. -/
namespace Nq
open Go Lk NqG
/-! Names. -/
def tailS (k : Int) : List UInt8 := bif k == 1 then [46, 108, 111, 103] else bif k == 2 then [46, 116, 97, 98] else bif k == 5 then [46, 116, 109, 112] else []
noncomputable def padded (n : Int) : List UInt8 := Lib.repeatL [48] (6 - (Lib.itoa n).length) ++ Lib.itoa n
def cur : List UInt8 := [67, 85, 82, 82, 69, 78, 84]
def ahead : List UInt8 := [77, 65, 78, 73, 70, 69, 83, 84, 45]
noncomputable def name (k n : Int) : List UInt8 × Int × Unit :=
  if k = 4 ∧ n = 0 then (cur, 0, ()) else
  if k = 4 ∨ k < 1 ∨ k > 5 ∨ n < 1 ∨ n > 2147483647 then ([], 60, ()) else
  if k = 3 then (ahead ++ padded n, 0, ()) else (padded n ++ tailS k, 0, ())

theorem decDigits_len : ∀ (k u : Nat), u < 10 ^ (k + 1) → (Lib.decDigits u).length ≤ k + 1
  | 0, u, h => by rw [Lib.decDigits, dif_pos (by simpa using h)]; simp
  | k + 1, u, h => by
    rw [Lib.decDigits]
    split
    · simp
    · have := decDigits_len k (u / 10) (by rw [Nat.pow_succ] at h; omega)
      simp; omega

theorem itoa_len (n : Int) (h0 : 0 ≤ n) (h : n ≤ 9223372036854775807) : (Lib.itoa n).length ≤ 20 := by
  unfold Lib.itoa
  rw [if_neg (by omega)]
  exact decDigits_len 19 n.toNat (by omega)

variable (X : FnsM)

theorem f50_ok (n : Int) (h0 : 1 ≤ n) (h : n ≤ 2147483647) (j : Nat) : X.f50 (j + 1) n = some (padded n, ()) := by
  have hl := itoa_len n (by omega) (by omega)
  rw [X.f50_eq, X.f72_eq, decide_eq_true (by omega), decide_eq_true (by omega)]
  simp only [Bool.and_self, cond_true, ob_some]
  have e : imax (IntKind.i64.wrap ((6 : Int) - ((Lib.itoa n).length : Int))) 0 = ((6 - (Lib.itoa n).length : Nat) : Int) := by
    rw [wrap64 (by omega) (by omega)]; unfold imax; split <;> omega
  rw [e, X.f73_eq, decide_eq_true (by omega), decide_eq_true (by omega), show Nat.ble ([(48 : UInt8)] : List UInt8).length 100 = true from rfl]
  simp only [Bool.and_self, cond_true, ob_some, sel_dec, Int.toNat_natCast]
  rw [if_pos (by rw [Lib.repeatL_length]; simp only [List.length_singleton, big]; omega)]
  rfl

theorem f51_ok (k : Int) (j : Nat) : X.f51 (j + 1) k = some (tailS k, ()) := by
  rw [X.f51_eq]
  unfold tailS
  cases (k == 1) <;> cases (k == 2) <;> cases (k == 5) <;> rfl

theorem padded_len (n : Int) (h0 : 0 ≤ n) (h : n ≤ 9223372036854775807) : (padded n).length ≤ 26 := by
  have hl := itoa_len n (by omega) (by omega)
  unfold padded
  rw [List.length_append, Lib.repeatL_length]; simp only [List.length_singleton]; omega
theorem tailS_len (k : Int) : (tailS k).length ≤ 4 := by
  unfold tailS
  cases (k == 1) <;> cases (k == 2) <;> cases (k == 5) <;> simp

theorem f25_ok (k n : Int) (j : Nat) : X.f25 (j + 6) k n = some (name k n) := by
  rw [X.f25_eq]
  simp only [X.p25_2050_eq]
  have q1 : X.p25_2052 (j + 4) (j + 5) (j + 4) k n true = some ([], 60, ()) := X.p25_2052_eq ..
  have q2 : 1 ≤ n → n ≤ 2147483647 → X.p25_2052 (j + 4) (j + 5) (j + 4) k n false = some (if k = 3 then (ahead ++ padded n, 0, ()) else (padded n ++ tailS k, 0, ())) := by
    intro h1 h2
    have hp := padded_len n (by omega) (by omega)
    have ht := tailS_len k
    rw [X.p25_2052_eq, sel_f, X.p25_7_eq, f50_ok X n h1 h2, f50_ok X n h1 h2, f51_ok]
    simp only [ob_some, sel_dec]
    rw [if_pos (by simp only [big, List.length_cons, List.length_nil]; omega), if_pos (by simp only [big]; omega)]
    by_cases h3 : k = 3
    · rw [if_pos h3, show (k == 3) = true by simpa using h3]; rfl
    · rw [if_neg h3, show (k == 3) = false by simpa using h3]; rfl
  unfold name
  by_cases h4 : k = 4
  · rw [show (k == 4) = true by simpa using h4]
    simp only [sel_t, sel_f, q1]
    by_cases h0 : n = 0
    · rw [show (n == 0) = true by simpa using h0, if_pos ⟨h4, h0⟩]; rfl
    · rw [show (n == 0) = false by simpa using h0, if_neg (fun h => h0 h.2), if_pos (.inl h4)]; rfl
  · rw [show (k == 4) = false by simpa using h4]
    simp only [sel_f, sel_dec, q1]
    rw [if_neg (show ¬ (k = 4 ∧ n = 0) from fun h => h4 h.1)]
    by_cases h1 : k < 1
    · rw [if_pos h1, if_pos (by omega)]
    rw [if_neg h1]
    by_cases h5 : k > 5
    · rw [if_pos h5, if_pos (by omega)]
    rw [if_neg h5]
    by_cases h6 : n < 1
    · rw [if_pos h6, if_pos (by omega)]
    rw [if_neg h6]
    by_cases h7 : n > 2147483647
    · rw [decide_eq_true h7, if_pos (by omega), q1]
    rw [decide_eq_false h7, if_neg (by omega), q2 (by omega) (by omega)]

end Nq

namespace Nq
open Go Lk NqG
variable (X : FnsK)

theorem f20_ok (j : Nat) : X.f20 (j + 40) = some (true, ()) := by
  have h1 : name 1 12 = ([48, 48, 48, 48, 49, 50, 46, 108, 111, 103], 0, ()) := by
    unfold name padded Lib.itoa
    rw [if_neg (by decide), if_neg (by decide), if_neg (by decide), if_neg (by decide), show (12 : Int).toNat = 12 from rfl, Lib.decDigits, dif_neg (by decide), Lib.decDigits, dif_pos (by decide)]
    rfl
  have h2 : unquote [34, 97, 92, 115, 98, 34] = ([97, 32, 98], 0, 0, ()) := by decide +kernel
  have h3 : quote [97, 32, 98] = [34, 97, 92, 115, 98, 34] := by decide +kernel
  rw [X.f20_eq, f25_ok X.toFnsM, f11_ok X.toFnsU _ (by decide) _ (by simp), X.f13_eq, h1, h2, h3]
  rfl

end Nq

/-! Widths: plain. -/
namespace Nq
open Go Lk NqG

/-- A text's width, from a place on. -/
def wid (b : List UInt8) : Nat → Nat → Nat
  | 0, _ => 0
  | n + 1, i => bif Nat.blt i b.length then wid b n (i + sz b i) + 1 else 0

theorem wid_le (b : List UInt8) : ∀ n i, wid b n i ≤ n
  | 0, _ => Nat.le_refl 0
  | n + 1, i => by
    have := wid_le b n (i + sz b i)
    simp only [wid]
    cases Nat.blt i b.length <;> simp <;> omega

theorem wid_len (b : List UInt8) : ∀ n i, i ≤ b.length → wid b n i + i ≤ b.length
  | 0, _, h => by simp only [wid]; omega
  | n + 1, i, h => by
    simp only [wid]
    by_cases hi : i < b.length
    · have hs := sz_bd b i
      have hl := decode_le b i hi
      have := wid_len b n (i + sz b i) hl
      rw [blt_t hi]; simp only [cond_true]; omega
    · rw [blt_f hi]; simp only [cond_false]; omega

theorem wid_fuel (b : List UInt8) : ∀ n m i, b.length ≤ i + n → b.length ≤ i + m → wid b n i = wid b m i
  | 0, 0, _, _, _ => rfl
  | 0, m + 1, i, h, _ => by simp only [wid]; rw [blt_f (by omega)]; rfl
  | n + 1, 0, i, _, h => by simp only [wid]; rw [blt_f (by omega)]; rfl
  | n + 1, m + 1, i, h, h' => by
    have hs := sz_bd b i
    simp only [wid]
    rw [wid_fuel b n m (i + sz b i) (by omega) (by omega)]

theorem byt_l (a b : List UInt8) (i : Nat) (h : i < a.length) : byt (a ++ b) i = byt a i := by
  unfold byt
  simp [List.getD_eq_getElem?_getD, List.getElem?_append, h]
theorem byt_r (a b : List UInt8) (i : Nat) : byt (a ++ b) (a.length + i) = byt b i := by
  unfold byt
  rw [List.getD_eq_getElem?_getD, List.getD_eq_getElem?_getD, List.getElem?_append_right (by omega), Nat.add_sub_cancel_left]
theorem cont_l (a b : List UInt8) (i : Nat) (h : i < a.length) : cont (a ++ b) i = cont a i := by
  unfold cont cont.lt'
  rw [byt_l a b i h, List.length_append, decide_eq_true (by omega), decide_eq_true h]
theorem cont_r (a b : List UInt8) (i : Nat) : cont (a ++ b) (a.length + i) = cont b i := by
  unfold cont cont.lt'
  rw [byt_r, List.length_append]
  congr 1
  apply decide_eq_decide.2; omega
theorem cont_out (a : List UInt8) (i : Nat) (h : a.length ≤ i) : cont a i = false := by
  unfold cont cont.lt'; rw [decide_eq_false (by omega)]; rfl

theorem cont_sz (b : List UInt8) (k : Nat) (h : cont b k = true) : sz b k = 1 := by
  unfold cont at h
  rw [Bool.and_eq_true, beq_iff_eq] at h
  rw [← runeR_sz, rune_eq]
  unfold runeB
  rw [if_neg (by omega), if_pos (by omega)]
  rfl

theorem fin_sz (r n l : Nat) : (fin r n l).2 = 0 ∨ (fin r n l).2 = n := by unfold fin; split <;> simp

/-- What is joined to a text turns a piece only where the text breaks off in it. -/
theorem sz_join (a b : List UInt8) (i : Nat) (hi : i < a.length) :
    runeR (a ++ b) i = runeR a i ∨ (sz a i = 1 ∧ a.length < i + sz (a ++ b) i ∧ ∀ k, 1 ≤ k → k < sz (a ++ b) i → cont (a ++ b) (i + k) = true) := by
  rw [← runeR_sz, ← runeR_sz (a ++ b), rune_eq, rune_eq]
  unfold runeB
  simp only [byt_l a b i hi]
  by_cases h1 : byt a i < 128
  · left; rw [if_pos h1, if_pos h1]
  rw [if_neg h1, if_neg h1]
  by_cases h2 : byt a i < 192
  · left; rw [if_pos h2, if_pos h2]
  rw [if_neg h2, if_neg h2]
  by_cases h3 : byt a i < 224
  · rw [if_pos h3, if_pos h3]
    by_cases l1 : i + 1 < a.length
    · left; rw [cont_l a b _ l1, byt_l a b _ l1]
    · rw [cont_out a (i + 1) (by omega)]
      simp only [Bool.false_eq_true, if_false]
      cases hc : cont (a ++ b) (i + 1)
      · left; rfl
      · simp only [if_true]
        generalize byt a i % 32 * 64 + byt (a ++ b) (i + 1) % 64 = r
        rcases fin_sz r 2 128 with h | h
        · left
          unfold fin at h ⊢
          split at h
          · rename_i hh; rw [if_pos hh]
          · cases h
        · right
          rw [h]
          refine ⟨rfl, by omega, fun k k1 k2 => ?_⟩
          have : k = 1 := by omega
          subst this; exact hc
  rw [if_neg h3, if_neg h3]
  by_cases h4 : byt a i < 240
  · rw [if_pos h4, if_pos h4]
    by_cases l2 : i + 2 < a.length
    · left; rw [cont_l a b _ (by omega), cont_l a b _ l2, byt_l a b (i + 1) (by omega), byt_l a b _ l2]
    · rw [cont_out a (i + 2) (by omega), Bool.and_false]
      simp only [Bool.false_eq_true, if_false]
      cases hc : cont (a ++ b) (i + 1) && cont (a ++ b) (i + 2)
      · left; rfl
      · simp only [if_true]
        rw [Bool.and_eq_true] at hc
        generalize (byt a i % 16 * 64 + byt (a ++ b) (i + 1) % 64) * 64 + byt (a ++ b) (i + 2) % 64 = r
        rcases fin_sz r 3 2048 with h | h
        · left
          unfold fin at h ⊢
          split at h
          · rename_i hh; rw [if_pos hh]
          · cases h
        · right
          rw [h]
          refine ⟨rfl, by omega, fun k k1 k2 => ?_⟩
          have : k = 1 ∨ k = 2 := by omega
          rcases this with rfl | rfl
          · exact hc.1
          · exact hc.2
  rw [if_neg h4, if_neg h4]
  by_cases h5 : byt a i < 248
  · rw [if_pos h5, if_pos h5]
    by_cases l3 : i + 3 < a.length
    · left; rw [cont_l a b _ (by omega), cont_l a b (i + 2) (by omega), cont_l a b _ l3, byt_l a b (i + 1) (by omega), byt_l a b (i + 2) (by omega), byt_l a b _ l3]
    · rw [cont_out a (i + 3) (by omega), Bool.and_false]
      simp only [Bool.false_eq_true, if_false]
      cases hc : cont (a ++ b) (i + 1) && cont (a ++ b) (i + 2) && cont (a ++ b) (i + 3)
      · left; rfl
      · simp only [if_true]
        rw [Bool.and_eq_true, Bool.and_eq_true] at hc
        generalize ((byt a i % 8 * 64 + byt (a ++ b) (i + 1) % 64) * 64 + byt (a ++ b) (i + 2) % 64) * 64 + byt (a ++ b) (i + 3) % 64 = r
        rcases fin_sz r 4 65536 with h | h
        · left
          unfold fin at h ⊢
          split at h
          · rename_i hh; rw [if_pos hh]
          · cases h
        · right
          rw [h]
          refine ⟨rfl, by omega, fun k k1 k2 => ?_⟩
          have : k = 1 ∨ k = 2 ∨ k = 3 := by omega
          rcases this with rfl | rfl | rfl
          · exact hc.1.1
          · exact hc.1.2
          · exact hc.2
  rw [if_neg h5, if_neg h5]
  left; rfl

theorem runeR_r (a b : List UInt8) (k : Nat) : runeR (a ++ b) (a.length + k) = runeR b k := by
  rw [rune_eq, rune_eq]
  unfold runeB
  simp only [Nat.add_assoc, byt_r, cont_r]
theorem sz_r (a b : List UInt8) (k : Nat) : sz (a ++ b) (a.length + k) = sz b k := by
  rw [← runeR_sz, ← runeR_sz, runeR_r]

theorem wid_r (a b : List UInt8) : ∀ n k, wid (a ++ b) n (a.length + k) = wid b n k
  | 0, _ => rfl
  | n + 1, k => by
    simp only [wid, sz_r]
    rw [Nat.add_assoc, wid_r a b n (k + sz b k)]
    by_cases h : k < b.length
    · rw [blt_t h, blt_t (by rw [List.length_append]; omega)]
    · rw [blt_f h, blt_f (by rw [List.length_append]; omega)]

/-- Of bytes that begin nothing each is a piece. -/
theorem wid_cont (b : List UInt8) : ∀ k m i, (∀ q, q < k → cont b (i + q) = true) → b.length ≤ i + m → wid b m (i + k) ≤ wid b m i
  | 0, _, _, _, _ => Nat.le_refl _
  | k + 1, m, i, h, hm => by
    have h0 := h 0 (by omega)
    rw [Nat.add_zero] at h0
    have hl : i < b.length := by
      unfold cont cont.lt' at h0
      rw [Bool.and_eq_true, decide_eq_true_eq] at h0
      exact h0.1
    have ih := wid_cont b k m (i + 1) (fun q hq => by have := h (q + 1) (by omega); rw [show i + (q + 1) = i + 1 + q by omega] at this; exact this) (by omega)
    obtain ⟨m, rfl⟩ : ∃ q, m = q + 1 := ⟨m - 1, by omega⟩
    have e : wid b (m + 1) i = wid b m (i + 1) + 1 := by
      simp only [wid]; rw [blt_t hl, cont_sz b i h0]; rfl
    rw [e, show i + (k + 1) = i + 1 + k by omega]
    have := wid_fuel b (m + 1) m (i + 1) (by omega) (by omega)
    omega

theorem wid_join (a b : List UInt8) : ∀ n i, i ≤ a.length → (a ++ b).length ≤ i + n → wid (a ++ b) n i ≤ wid a n i + wid b b.length 0 := by
  intro n
  induction n with
  | zero => intro i _ _; simp only [wid]; omega
  | succ n ih =>
    intro i hi hn
    rw [List.length_append] at hn
    by_cases hlt : i < a.length
    · have e1 : wid a (n + 1) i = wid a n (i + sz a i) + 1 := by simp only [wid]; rw [blt_t hlt]; rfl
      have e2 : wid (a ++ b) (n + 1) i = wid (a ++ b) n (i + sz (a ++ b) i) + 1 := by simp only [wid]; rw [blt_t (by rw [List.length_append]; omega)]; rfl
      rw [e1, e2]
      have hs := sz_bd a i
      have hs2 := sz_bd (a ++ b) i
      have hl := decode_le a i hlt
      rcases sz_join a b i hlt with h | ⟨h1, h2, h3⟩
      · have : sz (a ++ b) i = sz a i := by rw [← runeR_sz, ← runeR_sz a, h]
        rw [this]
        have := ih (i + sz a i) hl (by rw [List.length_append]; omega)
        omega
      · obtain ⟨k, hk⟩ : ∃ k, i + sz (a ++ b) i = a.length + k := ⟨i + sz (a ++ b) i - a.length, by omega⟩
        rw [hk, wid_r]
        have hc := wid_cont b k n 0 (fun q hq => by
          have := h3 (a.length + q - i) (by omega) (by omega)
          rw [show i + (a.length + q - i) = a.length + q by omega, cont_r] at this
          rw [Nat.zero_add]; exact this) (by omega)
        rw [Nat.zero_add] at hc
        have := wid_fuel b n b.length 0 (by omega) (by omega)
        omega
    · have : i = a.length + 0 := by omega
      rw [this, wid_r, wid_fuel b (n + 1) b.length 0 (by omega) (by omega)]
      omega

variable (X : FnsW)

theorem f21_ok (b : List UInt8) (hlen : b.length ≤ 2147483648) (j : Nat) (hj : b.length + 2 ≤ j) : X.f21 j b = some (((wid b b.length 0 : Nat) : Int), ()) := by
  obtain ⟨j, rfl⟩ : ∃ q, j = q + 1 := ⟨j - 1, by omega⟩
  have go : ∀ (N i j n0 v : Nat), b.length ≤ i + N → N < j → v + N ≤ 4294967296 → X.p21_3 j n0 (v : Int) b i = some (((v + wid b N i : Nat) : Int), ()) := by
    intro N
    induction N with
    | zero =>
      intro i j n0 v h hj hv
      obtain ⟨j, rfl⟩ : ∃ k, j = k + 1 := ⟨j - 1, by omega⟩
      rw [X.p21_3_eq, sel_dec, if_neg (by omega)]
      rfl
    | succ N ih =>
      intro i j n0 v h hj hv
      obtain ⟨j, rfl⟩ : ∃ k, j = k + 1 := ⟨j - 1, by omega⟩
      have hs := sz_bd b i
      rw [X.p21_3_eq, sel_dec]
      by_cases hi : i < b.length
      · have w1 : IntKind.i64.wrap ((v : Int) + 1) = ((v + 1 : Nat) : Int) := by rw [wrap64 (by omega) (by omega)]; omega
        rw [if_pos hi, w1]
        have := ih (i + sz b i) j n0 (v + 1) (by omega) (by omega) (by omega)
        unfold sz at this
        rw [this]
        simp only [wid, blt_t hi, cond_true, sz]
        congr 3
        omega
      · rw [if_neg hi]
        simp only [wid, blt_f hi, cond_false]
        rfl
  rw [X.f21_eq]
  have := go b.length 0 j j 0 (by omega) (by omega) (by omega)
  rw [Nat.zero_add] at this
  exact this

/-- THE PLAIN LAW. -/
theorem lawWide (a b : List UInt8) (ha : a.length ≤ 1073741824) (hb : b.length ≤ 1073741824) : X.f5 (a.length + b.length + 100) a b = some (true, ()) := by
  have h1 := wid_len a a.length 0 (by omega)
  have h2 := wid_len b b.length 0 (by omega)
  have h3 := wid_join a b (a ++ b).length 0 (by omega) (by omega)
  have h4 := wid_fuel a (a ++ b).length a.length 0 (by rw [List.length_append]; omega) (by omega)
  have h5 : wid [97, 98] 2 0 = 2 := by decide +kernel
  rw [X.f5_eq, f20_ok X.toFnsK, f21_ok X a (by omega) _ (by omega), f21_ok X b (by omega) _ (by omega), f21_ok X (a ++ b) (by rw [List.length_append]; omega) _ (by rw [List.length_append]; omega), f21_ok X [97, 98] (by decide) _ (by simp)]
  simp only [ob_some, Bool.not_true, sel_f, sel_dec]
  rw [wrap64 (by omega) (by omega)]
  rw [if_pos (by simp only [big]; omega), if_pos (by omega), if_pos (by omega), if_pos (by omega)]
  have h6 : (decide (((wid a a.length 0 : Nat) : Int) > 0) == !(a == [])) = true := by
    cases a with
    | nil => rfl
    | cons x l =>
      have : wid (x :: l) (x :: l).length 0 > 0 := by
        rw [List.length_cons]; simp only [wid]; rw [blt_t (by simp)]; simp only [cond_true]; omega
      rw [decide_eq_true (by omega)]
      rfl
  rw [h6, sel_t, show ([97, 98] : List UInt8).length = 2 from rfl, h5]
  rfl
end Nq

/-! There and back: quotes and words, plain. -/
namespace Nq
open Go Lk NqG

theorem drop_split {q : List UInt8} {p : Nat} {x r : List UInt8} (h : q.drop p = x ++ r) (hx : x ≠ []) : ∃ pre, q = pre ++ (x ++ r) ∧ pre.length = p := by
  refine ⟨q.take p, ?_, ?_⟩
  · rw [← h, List.take_append_drop]
  · have := congrArg List.length h
    have hx' : 0 < x.length := by cases x with | nil => exact absurd rfl hx | cons => simp
    simp at this ⊢; omega

theorem drop_more {q : List UInt8} {p : Nat} {x r : List UInt8} (h : q.drop p = x ++ r) : q.drop (p + x.length) = r := by
  rw [← List.drop_drop, h, List.drop_left]

theorem get_drop {q : List UInt8} {p : Nat} {c : UInt8} {r : List UInt8} (h : q.drop p = c :: r) : q.getD p 0 = c ∧ p < q.length ∧ q.drop (p + 1) = r := drop_cons h

/-- A place from which a quote's reading is R. -/
def Goes (q : List UInt8) (R : R3) (p : Nat) (acc : List UInt8) : Prop := ∀ N, q.length ≤ p + N → unqR q N p acc = R

theorem hx_dg : ∀ k : Fin 16, dg (hx k.val) = k.val := by decide +kernel
theorem dgAt_of {q : List UInt8} {p : Nat} {c : UInt8} {r : List UInt8} (h : q.drop p = c :: r) : dgAt q p = dg c := by
  obtain ⟨h1, h2, _⟩ := get_drop h
  unfold dgAt; rw [blt_t h2, h1]; rfl

theorem goes_esc {q : List UInt8} {R : R3} {p : Nat} {acc : List UInt8} {a : UInt8} {r : List UInt8} (h : q.drop p = esc a ++ r) (k : Goes q R (p + 4) (acc ++ [a])) : Goes q R p acc := by
  intro N hN
  obtain ⟨e1, l1, d1⟩ := get_drop (show q.drop p = 92 :: (120 :: hx (a.toNat / 16) :: hx (a.toNat % 16) :: r) from h)
  obtain ⟨e2, l2, d2⟩ := get_drop d1
  have e3 := dgAt_of d2
  obtain ⟨_, l3, d3⟩ := get_drop d2
  have e4 := dgAt_of d3
  have := a.toNat_lt
  rw [hx_dg ⟨a.toNat / 16, by omega⟩] at e3
  rw [hx_dg ⟨a.toNat % 16, by omega⟩] at e4
  simp only at e3 e4
  obtain ⟨N, rfl⟩ : ∃ m, N = m + 1 := ⟨N - 1, by omega⟩
  have es : escS q p = (a, 4) := by
    unfold escS
    rw [blt_t (by omega), e2]
    simp only [cond_true]
    rw [show p + 2 = p + 1 + 1 from rfl, show p + 3 = p + 1 + 1 + 1 from rfl, e3, e4, blt_t (by omega), blt_t (by omega)]
    have : 16 * (a.toNat / 16) + a.toNat % 16 = a.toNat := by omega
    rw [this]
    simp
  simp only [unqR]
  rw [blt_t l1, e1, es]
  exact k N (by omega)

theorem goes_escs {q : List UInt8} {R : R3} : ∀ (l : List UInt8) (p : Nat) (acc r : List UInt8), q.drop p = escs l ++ r → Goes q R (p + 4 * l.length) (acc ++ l) → Goes q R p acc
  | [], p, acc, r, _, k => by simpa using k
  | a :: l, p, acc, r, h, k => by
    have e : escs (a :: l) = esc a ++ escs l := by simp [escs]
    rw [e, List.append_assoc] at h
    refine goes_esc h (goes_escs l (p + 4) (acc ++ [a]) r (drop_more h) ?_)
    rw [List.append_assoc]
    rw [List.length_cons, show p + 4 * (l.length + 1) = p + 4 + 4 * l.length by omega] at k
    exact k

theorem goes_let {q : List UInt8} {R : R3} {p : Nat} {acc : List UInt8} {c v : UInt8} {r : List UInt8} (h : q.drop p = [92, c] ++ r)
    (hc : (c = 110 ∧ v = 10) ∨ (c = 116 ∧ v = 9) ∨ (c = 115 ∧ v = 32) ∨ (c = 34 ∧ v = 34) ∨ (c = 92 ∧ v = 92)) (k : Goes q R (p + 2) (acc ++ [v])) : Goes q R p acc := by
  intro N hN
  obtain ⟨e1, l1, d1⟩ := get_drop (show q.drop p = 92 :: (c :: r) from h)
  obtain ⟨e2, l2, d2⟩ := get_drop d1
  obtain ⟨N, rfl⟩ : ∃ m, N = m + 1 := ⟨N - 1, by omega⟩
  have es : escS q p = (v, 2) := by
    unfold escS
    rw [blt_t (by omega), e2]
    rcases hc with ⟨rfl, rfl⟩ | ⟨rfl, rfl⟩ | ⟨rfl, rfl⟩ | ⟨rfl, rfl⟩ | ⟨rfl, rfl⟩ <;> rfl
  simp only [unqR]
  rw [blt_t l1, e1, es]
  exact k N (by omega)

theorem sz_decode (b : List UInt8) (i : Nat) : Utf8.decode ⟨b.toArray⟩ i = (rn b i, sz b i) := rfl

theorem runeR_ok (b : List UInt8) (i : Nat) (h : (rn b i == 65533 && sz b i == 1) = false) : runeR b i = (rn b i, sz b i) := by
  unfold runeR
  simp only [sz_decode, h, cond_false]

theorem runeR_err (b : List UInt8) (i : Nat) (h : (rn b i == 65533 && sz b i == 1) = true) : runeR b i = (0, 0) := by
  unfold runeR
  simp only [sz_decode, h, cond_true]

/-- A piece that stands for itself is read so, wherever it stands. -/
theorem piece_at {b q : List UInt8} {i p : Nat} {raw r s : List UInt8} (hb : b.drop i = raw ++ s) (hq : q.drop p = raw ++ r) (hl : raw.length = sz b i) (he : (rn b i == 65533 && sz b i == 1) = false) :
    rn q p = rn b i ∧ sz q p = sz b i ∧ (rn q p == 65533 && sz q p == 1) = false := by
  have hs := sz_bd b i
  have hne : raw ≠ [] := by intro h; rw [h] at hl; simp at hl; omega
  obtain ⟨pb, rfl, lb⟩ := drop_split hb hne
  obtain ⟨pq, rfl, lq⟩ := drop_split hq hne
  have hr := runeR_ok _ _ he
  have e1 : runeR (pb ++ (raw ++ s)) i = runeR (raw ++ s) 0 := by have := runeR_r pb (raw ++ s) 0; rw [Nat.add_zero, lb] at this; exact this
  have e2 : runeR (pq ++ (raw ++ r)) p = runeR (raw ++ r) 0 := by have := runeR_r pq (raw ++ r) 0; rw [Nat.add_zero, lq] at this; exact this
  have z1 : sz (pb ++ (raw ++ s)) i = sz (raw ++ s) 0 := by rw [← runeR_sz, ← runeR_sz (raw ++ s), e1]
  have h0 : 0 < raw.length := by omega
  have e3 : runeR (raw ++ s) 0 = runeR raw 0 := by
    rcases sz_join raw s 0 h0 with h | ⟨_, h, _⟩
    · exact h
    · rw [z1] at hl; omega
  have z2 : sz raw 0 = raw.length := by
    rw [hl, z1, ← runeR_sz, ← runeR_sz (raw ++ s), e3]
  have e4 : runeR (raw ++ r) 0 = runeR raw 0 := by
    rcases sz_join raw r 0 h0 with h | ⟨h1, h2, _⟩
    · exact h
    · exfalso
      rw [z2] at h1
      -- one byte, and no error: it is below 128
      have hb0 : runeR raw 0 = (rn (pb ++ (raw ++ s)) i, sz (pb ++ (raw ++ s)) i) := by rw [← e3, ← e1, hr]
      rw [← hl, h1] at hb0
      have hlt : byt raw 0 < 128 := by
        rw [rune_eq] at hb0
        unfold runeB at hb0
        simp only [Nat.zero_add] at hb0
        by_cases g1 : byt raw 0 < 128
        · exact g1
        · exfalso
          rw [if_neg g1, cont_out raw 1 (by omega)] at hb0
          simp only [Bool.false_and, Bool.false_eq_true, if_false] at hb0
          have := congrArg Prod.snd hb0
          revert this
          repeat' split
          all_goals simp
      have : sz (raw ++ r) 0 = 1 := by
        rw [← runeR_sz, rune_eq]
        unfold runeB
        rw [byt_l raw r 0 h0, if_pos hlt]
        rfl
      omega
  have e5 : runeR (pq ++ (raw ++ r)) p = (rn (pb ++ (raw ++ s)) i, sz (pb ++ (raw ++ s)) i) := by rw [e2, e4, ← e3, ← e1, hr]
  have e6 : (rn (pq ++ (raw ++ r)) p == 65533 && sz (pq ++ (raw ++ r)) p == 1) = false := by
    cases h : (rn (pq ++ (raw ++ r)) p == 65533 && sz (pq ++ (raw ++ r)) p == 1)
    · rfl
    · rw [runeR_err _ _ h] at e5
      have := congrArg Prod.snd e5
      simp only at this; omega
  rw [runeR_ok _ _ e6] at e5
  simp only [Prod.mk.injEq] at e5
  exact ⟨e5.1, e5.2, e6⟩

theorem self_byte {b : List UInt8} {i : Nat} (he : (rn b i == 65533 && sz b i == 1) = false) (hs : self (rn b i) = true) : b.getD i 0 ≠ 34 ∧ b.getD i 0 ≠ 92 := by
  have key : byt b i < 128 → rn b i = byt b i := by
    intro h
    have := runeR_ok b i he
    rw [rune_eq] at this
    unfold runeB at this
    rw [if_pos h] at this
    exact (congrArg Prod.fst this).symm
  constructor
  · intro h
    have hb : byt b i = 34 := by unfold byt; rw [h]; rfl
    rw [key (by omega), hb] at hs
    exact absurd hs (by decide)
  · intro h
    have hb : byt b i = 92 := by unfold byt; rw [h]; rfl
    rw [key (by omega), hb] at hs
    exact absurd hs (by decide)

theorem goes_raw {q : List UInt8} {R : R3} {p : Nat} {acc : List UInt8} {b : List UInt8} {i : Nat} {raw r s : List UInt8} (hi : i < b.length) (hb : b.drop i = raw ++ s) (hq : q.drop p = raw ++ r) (hl : raw.length = sz b i)
    (he : (rn b i == 65533 && sz b i == 1) = false) (hs : self (rn b i) = true) (k : Goes q R (p + sz b i) (acc ++ raw)) : Goes q R p acc := by
  intro N hN
  obtain ⟨h1, h2, h3⟩ := piece_at hb hq hl he
  have hz := sz_bd b i
  obtain ⟨c, raw', hraw⟩ : ∃ c raw', raw = c :: raw' := by
    cases raw with
    | nil => simp at hl; omega
    | cons c l => exact ⟨c, l, rfl⟩
  obtain ⟨g1, l1, _⟩ := get_drop (show q.drop p = c :: (raw' ++ r) by rw [hq, hraw]; rfl)
  obtain ⟨g2, _, _⟩ := get_drop (show b.drop i = c :: (raw' ++ s) by rw [hb, hraw]; rfl)
  obtain ⟨n1, n2⟩ := self_byte he hs
  rw [g2] at n1 n2
  obtain ⟨N, rfl⟩ : ∃ m, N = m + 1 := ⟨N - 1, by omega⟩
  simp only [unqR]
  have hx : ext q (p : Int) ((p + sz b i : Nat) : Int) = raw := by
    unfold ext win
    simp only [Int.toNat_natCast]
    rw [hq, show p + sz b i - p = raw.length by omega, List.take_left]
  rw [blt_t l1, g1, h3, h1, h2, hs, hx, show (c == 34) = false by simpa using n1, show (c == 92) = false by simpa using n2]
  exact k N (by omega)

theorem ext_raw (b : List UInt8) (i : Nat) (hi : i < b.length) : b.drop i = ext b (i : Int) ((i + sz b i : Nat) : Int) ++ b.drop (i + sz b i) := by
  unfold ext win
  simp only [Int.toNat_natCast]
  rw [show i + sz b i - i = sz b i by omega, ← List.drop_drop, List.take_append_drop]

theorem take_more (b : List UInt8) (i : Nat) (hi : i < b.length) : b.take i ++ ext b (i : Int) ((i + sz b i : Nat) : Int) = b.take (i + sz b i) := by
  unfold ext win
  simp only [Int.toNat_natCast]
  rw [show i + sz b i - i = sz b i by omega, List.take_add]

theorem ext_one {b : List UInt8} {i : Nat} (hi : i < b.length) (h : sz b i = 1) : ext b (i : Int) ((i + sz b i : Nat) : Int) = [b.getD i 0] := by
  rw [h]
  unfold ext win
  simp only [Int.toNat_natCast]
  rw [show i + 1 - i = 1 by omega, List.drop_eq_getElem_cons hi, List.getD_eq_getElem?_getD, List.getElem?_eq_getElem hi]
  rfl

theorem rn_small {b : List UInt8} {i : Nat} (h : rn b i < 128) : sz b i = 1 ∧ (b.getD i 0) = UInt8.ofNat (rn b i) := by
  obtain ⟨h1, h2⟩ := decode_small b i h
  refine ⟨h1, ?_⟩
  rw [h2]
  unfold byt
  simp

/-- What is quoted is read as it was. -/
theorem goes_quote (b : List UInt8) : ∀ (n i p : Nat), b.length ≤ i + n → i ≤ b.length → (quote b).drop p = qFrom b n i ++ [34] → Goes (quote b) (b, 0, 0, ()) p (b.take i) := by
  have fin : ∀ i p, b.length ≤ i → (quote b).drop p = [34] → Goes (quote b) (b, 0, 0, ()) p (b.take i) := by
    intro i p hi hd N hN
    obtain ⟨e1, l1, d1⟩ := get_drop hd
    have := congrArg List.length d1
    simp only [List.length_drop, List.length_nil] at this
    obtain ⟨N, rfl⟩ : ∃ m, N = m + 1 := ⟨N - 1, by omega⟩
    simp only [unqR]
    rw [blt_t l1, e1, blt_f (by omega), List.take_of_length_le hi]
    simp
  intro n
  induction n with
  | zero => intro i p h hi hd; exact fin i p (by omega) (by simpa [qFrom] using hd)
  | succ n ih =>
    intro i p h hi hd
    by_cases hlt : i < b.length
    · have hs := sz_bd b i
      have hle := decode_le b i hlt
      have hd' : (quote b).drop p = wri b i ++ (qFrom b n (i + sz b i) ++ [34]) := by
        rw [hd]; simp only [qFrom]; rw [blt_t hlt]; simp
      have hn := fun p' (hp : p' = p + (wri b i).length) => ih (i + sz b i) p' (by omega) (by omega) (by rw [hp]; exact drop_more hd')
      have hbr := ext_raw b i hlt
      have htk := take_more b i hlt
      rw [← htk] at hn
      have hel := ext_len b i (i + sz b i) hle
      revert hn hd'
      unfold wri
      cases he : (rn b i == 65533 && sz b i == 1)
      · simp only [cond_false]
        have one : ∀ (v c : UInt8), (rn b i == v.toNat) = true → v.toNat < 128 → ((c = 110 ∧ v = 10) ∨ (c = 116 ∧ v = 9) ∨ (c = 115 ∧ v = 32) ∨ (c = 34 ∧ v = 34) ∨ (c = 92 ∧ v = 92)) →
            (quote b).drop p = [92, c] ++ (qFrom b n (i + sz b i) ++ [34]) → (∀ p', p' = p + ([92, c] : List UInt8).length → Goes (quote b) (b, 0, 0, ()) p' (b.take i ++ ext b (i : Int) ((i + sz b i : Nat) : Int))) → Goes (quote b) (b, 0, 0, ()) p (b.take i) := by
          intro v c hv hlt' hc hd' hn
          have hv' := eq_of_beq hv
          obtain ⟨z1, z2⟩ := rn_small (b := b) (i := i) (by omega)
          refine goes_let hd' hc ?_
          have := hn (p + 2) rfl
          rw [ext_one hlt z1, z2, hv'] at this
          simpa using this
        cases c10 : (rn b i == 10)
        · cases c9 : (rn b i == 9)
          · cases c32 : (rn b i == 32)
            · cases c34 : (rn b i == 34)
              · cases c92 : (rn b i == 92)
                · cases hse : self (rn b i)
                  · simp only [cond_false]
                    intro hd' hn
                    refine goes_escs _ p (b.take i) _ hd' ?_
                    exact hn _ (by rw [escs_len])
                  · simp only [cond_false, cond_true]
                    intro hd' hn
                    exact goes_raw hlt hbr hd' (by rw [hel]; omega) he hse (hn _ (by rw [hel]; omega))
                · simp only [cond_false, cond_true]
                  exact one 92 92 c92 (by decide) (by simp)
              · simp only [cond_false, cond_true]
                exact one 34 34 c34 (by decide) (by simp)
            · simp only [cond_false, cond_true]
              exact one 32 115 c32 (by decide) (by simp)
          · simp only [cond_false, cond_true]
            exact one 9 116 c9 (by decide) (by simp)
        · simp only [cond_false, cond_true]
          exact one 10 110 c10 (by decide) (by simp)
      · simp only [cond_true]
        intro hd' hn
        rw [Bool.and_eq_true] at he
        have z1 : sz b i = 1 := eq_of_beq he.2
        refine goes_esc hd' ?_
        have := hn (p + 4) rfl
        rw [ext_one hlt z1] at this
        exact this
    · exact fin i p (by omega) (by
        rw [hd]; simp only [qFrom]; rw [blt_f hlt]; rfl)

theorem unquote_quote (b : List UInt8) : unquote (quote b) = (b, 0, 0, ()) := by
  have h := goes_quote b b.length 0 1 (by omega) (by omega) rfl
  unfold unquote
  rw [show Nat.blt 0 (quote b).length = true from blt_t (by simp [quote]), show (quote b).getD 0 0 = 34 from rfl]
  exact h (quote b).length (by omega)

theorem oddF_pos (b : List UInt8) : ∀ n i, oddF b n i < 0 → b.length ≤ i + n → ∀ k, i ≤ k → k < b.length → bareB (b.getD k 0) = true
  | 0, i, _, h, k, h1, h2 => by omega
  | n + 1, i, ho, h, k, h1, h2 => by
    simp only [oddF] at ho
    rw [blt_t (by omega)] at ho
    simp only [cond_true] at ho
    cases hb : bareB (b.getD i 0)
    · rw [hb] at ho; simp only [cond_false] at ho; omega
    · rw [hb] at ho
      simp only [cond_true] at ho
      by_cases e : k = i
      · rw [e]; exact hb
      · exact oddF_pos b n (i + 1) ho (by omega) k (by omega) h2

theorem word_cases (b : List UInt8) : (word b = b ∧ b ≠ [] ∧ oddS b < 0 ∧ ∀ k, k < b.length → bareB (b.getD k 0) = true) ∨ word b = quote b := by
  unfold word
  cases h : (!b.isEmpty && decide (oddS b < 0))
  · right; rfl
  · left
    rw [Bool.and_eq_true] at h
    have h2 := of_decide_eq_true h.2
    refine ⟨rfl, by intro e; rw [e] at h; simp at h, h2, fun k hk => oddF_pos b b.length 0 h2 (by omega) k (by omega) hk⟩

theorem unword_word (b : List UInt8) : unword (word b) = (b, 0, 0, ()) := by
  rcases word_cases b with ⟨h, h1, h2, h3⟩ | h
  · rw [h]
    unfold unword
    have h0 : 0 < b.length := by cases b with | nil => exact absurd rfl h1 | cons => simp
    have hb := h3 0 h0
    have h34 : (b.getD 0 0 == 34) = false := by
      cases e : (b.getD 0 0 == 34)
      · rfl
      · rw [eq_of_beq e] at hb; exact absurd hb (by decide)
    rw [h34, Bool.and_false, show b.isEmpty = false by cases b with | nil => exact absurd rfl h1 | cons => rfl, decide_eq_false (by omega)]
    rfl
  · rw [h]
    unfold unword
    rw [show Nat.blt 0 (quote b).length = true from blt_t (by simp [quote]), show (quote b).getD 0 0 = 34 from rfl]
    exact unquote_quote b

theorem quote_inj (a b : List UInt8) : (quote a == quote b) = (a == b) := by
  rw [Bool.eq_iff_iff, beq_iff_eq, beq_iff_eq]
  refine ⟨fun h => ?_, fun h => by rw [h]⟩
  have := unquote_quote a
  rw [h, unquote_quote] at this
  exact (congrArg Prod.fst this).symm

theorem word_inj (a b : List UInt8) : (word a == word b) = (a == b) := by
  rw [Bool.eq_iff_iff, beq_iff_eq, beq_iff_eq]
  refine ⟨fun h => ?_, fun h => by rw [h]⟩
  have := unword_word a
  rw [h, unword_word] at this
  exact (congrArg Prod.fst this).symm

/-- No blank, no byte below 32. -/
def okB (c : UInt8) : Bool := !(decide (c ≤ 32)) && !(c == 127)
def cleanB (b : List UInt8) : Bool := b.all okB && !b.isEmpty

theorem esc_ok : ∀ a : UInt8, (esc a).all okB = true := by
  apply forall_u8
  decide +kernel
theorem escs_ok (l : List UInt8) : (escs l).all okB = true := by
  induction l with
  | nil => rfl
  | cons a l ih => rw [show escs (a :: l) = esc a ++ escs l by simp [escs], List.all_append, esc_ok, ih]; rfl

theorem okB_self : ∀ k : Fin 128, self k.val = true → okB (UInt8.ofNat k.val) = true := by decide +kernel
theorem okB_big (c : UInt8) (h : 128 ≤ c.toNat) : okB c = true := by
  revert h; revert c
  apply forall_u8
  decide +kernel

/-- Of a piece of more bytes all are large. -/
theorem piece_big (b : List UInt8) (i : Nat) (he : (rn b i == 65533 && sz b i == 1) = false) (h : 128 ≤ byt b i) : ∀ k, k < sz b i → 128 ≤ byt b (i + k) := by
  intro k hk
  have hr := runeR_ok b i he
  have hz : (runeR b i).2 = sz b i := by rw [hr]
  rw [rune_eq] at hz
  unfold runeB at hz
  simp only at hz
  have hc : ∀ k, cont b (i + k) = true → 128 ≤ byt b (i + k) := by
    intro k h
    unfold cont at h
    rw [Bool.and_eq_true, beq_iff_eq] at h
    omega
  have hs := sz_bd b i
  rw [if_neg (by omega)] at hz
  split at hz
  · simp only at hz; omega
  split at hz
  · split at hz
    · rename_i h1
      rcases fin_sz (byt b i % 32 * 64 + byt b (i + 1) % 64) 2 128 with g | g <;> rw [g] at hz
      · omega
      · have : k = 0 ∨ k = 1 := by omega
        rcases this with rfl | rfl
        · exact h
        · exact hc 1 h1
    · simp only at hz; omega
  split at hz
  · split at hz
    · rename_i h1
      rw [Bool.and_eq_true] at h1
      rcases fin_sz ((byt b i % 16 * 64 + byt b (i + 1) % 64) * 64 + byt b (i + 2) % 64) 3 2048 with g | g <;> rw [g] at hz
      · omega
      · have : k = 0 ∨ k = 1 ∨ k = 2 := by omega
        rcases this with rfl | rfl | rfl
        · exact h
        · exact hc 1 h1.1
        · exact hc 2 h1.2
    · simp only at hz; omega
  split at hz
  · split at hz
    · rename_i h1
      rw [Bool.and_eq_true, Bool.and_eq_true] at h1
      rcases fin_sz (((byt b i % 8 * 64 + byt b (i + 1) % 64) * 64 + byt b (i + 2) % 64) * 64 + byt b (i + 3) % 64) 4 65536 with g | g <;> rw [g] at hz
      · omega
      · have : k = 0 ∨ k = 1 ∨ k = 2 ∨ k = 3 := by omega
        rcases this with rfl | rfl | rfl | rfl
        · exact h
        · exact hc 1 h1.1.1
        · exact hc 2 h1.1.2
        · exact hc 3 h1.2
    · simp only at hz; omega
  · simp only at hz; omega

theorem wri_ok (b : List UInt8) (i : Nat) (hi : i < b.length) : (wri b i).all okB = true := by
  have hle := decode_le b i hi
  unfold wri
  cases he : (rn b i == 65533 && sz b i == 1)
  · cases (rn b i == 10)
    · cases (rn b i == 9)
      · cases (rn b i == 32)
        · cases (rn b i == 34)
          · cases (rn b i == 92)
            · cases hse : self (rn b i)
              · exact escs_ok _
              · simp only [cond_false, cond_true]
                rw [List.all_eq_true]
                intro c hc
                obtain ⟨k, hk, rfl⟩ := List.getElem_of_mem hc
                have hel := ext_len b i (i + sz b i) hle
                have hg := ext_get b i (i + sz b i) k hle (by omega)
                rw [List.getD_eq_getElem?_getD, List.getElem?_eq_getElem hk] at hg
                simp only [Option.getD_some] at hg
                rw [hg]
                by_cases hb : byt b i < 128
                · have hr := runeR_ok b i he
                  rw [rune_eq] at hr
                  unfold runeB at hr
                  rw [if_pos hb] at hr
                  simp only [Prod.mk.injEq] at hr
                  have hk0 : k = 0 := by omega
                  rw [hk0, Nat.add_zero]
                  have := okB_self ⟨byt b i, hb⟩ (by simp only; rw [hr.1]; exact hse)
                  simpa [byt] using this
                · exact okB_big _ (piece_big b i he (by omega) k (by omega))
            · rfl
          · rfl
        · rfl
      · rfl
    · rfl
  · exact esc_ok _

theorem quote_clean (b : List UInt8) : cleanB (quote b) = true := by
  have hq : ∀ n i, (qFrom b n i).all okB = true := by
    intro n
    induction n with
    | zero => intro i; rfl
    | succ n ih =>
      intro i
      simp only [qFrom]
      by_cases hi : i < b.length
      · rw [blt_t hi, cond_true, List.all_append, wri_ok b i hi, ih]; rfl
      · rw [blt_f hi]; rfl
  unfold cleanB quote
  rw [List.all_cons, List.all_append, hq]
  rfl

theorem bare_ok : ∀ c : UInt8, bareB c = true → okB c = true := by
  apply forall_u8
  decide +kernel

theorem word_clean (b : List UInt8) : cleanB (word b) = true := by
  rcases word_cases b with ⟨h, h1, _, h3⟩ | h
  · rw [h]
    unfold cleanB
    rw [show b.isEmpty = false by cases b with | nil => exact absurd rfl h1 | cons => rfl, Bool.not_false, Bool.and_true, List.all_eq_true]
    intro c hc
    obtain ⟨k, hk, rfl⟩ := List.getElem_of_mem hc
    have := h3 k hk
    rw [List.getD_eq_getElem?_getD, List.getElem?_eq_getElem hk] at this
    exact bare_ok _ this
  · rw [h]; exact quote_clean b

theorem word_len (b : List UInt8) : (word b).length ≤ 4 * b.length + 2 := by
  rcases word_cases b with ⟨h, _⟩ | h
  · rw [h]; omega
  · rw [h]; exact quote_len b

variable (X : FnsW)

theorem b_leP (a b : UInt8) : ((a.toNat : Int) ≤ (b.toNat : Int)) = (a ≤ b) := by
  rw [UInt8.le_iff_toNat_le]
  exact propext ⟨fun h => by omega, fun h => by omega⟩

theorem f22_ok (b : List UInt8) (hlen : b.length ≤ 1073741824) (j : Nat) (hj : b.length + 8 ≤ j) : X.f22 j b = some (cleanB b, ()) := by
  obtain ⟨j, rfl⟩ : ∃ q, j = q + 1 := ⟨j - 1, by omega⟩
  rw [X.f22_eq]
  have go : ∀ (N i j n0 : Nat), b.length = i + N → N + 4 ≤ j → X.p22_2 j n0 b (i : Int) = some ((b.drop i).all okB && !b.isEmpty, ()) := by
    intro N
    induction N with
    | zero =>
      intro i j n0 h hj
      obtain ⟨j, rfl⟩ : ∃ k, j = k + 1 := ⟨j - 1, by omega⟩
      rw [X.p22_2_eq, sel_dec, if_neg (by omega), List.drop_eq_nil_of_le (by omega)]
      cases b <;> rfl
    | succ N ih =>
      intro i j n0 h hj
      obtain ⟨j, rfl⟩ : ∃ k, j = k + 3 := ⟨j - 3, by omega⟩
      have w1 : IntKind.i64.wrap ((i : Int) + 1) = ((i + 1 : Nat) : Int) := by rw [wrap64 (by omega) (by omega)]; omega
      have hi : i < b.length := by omega
      have ed : b.drop i = b.getD i 0 :: b.drop (i + 1) := by
        rw [List.drop_eq_getElem_cons hi, List.getD_eq_getElem?_getD, List.getElem?_eq_getElem hi]; rfl
      have nx := ih (i + 1) (j + 2) n0 (by omega) (by omega)
      have hp : ∀ q : Bool, X.p22_2053 (j + 2) n0 (j + 2) b (i : Int) q = some (!q && ((b.drop (i + 1)).all okB && !b.isEmpty), ()) := by
        intro q
        rw [X.p22_2053_eq, X.p22_3_eq, w1, nx]
        cases q <;> rfl
      rw [X.p22_2_eq]
      simp only [sel_dec, Int.toNat_natCast, hp, b_leP, b_eq]
      have h0 : (0 : Int) ≤ (i : Int) := by omega
      have hl : (i : Int) < (b.length : Int) := by omega
      simp only [if_pos h0, if_pos hl]
      rw [ed, List.all_cons]
      unfold okB
      by_cases hc : b.getD i 0 ≤ 32
      · rw [if_pos hc, decide_eq_true hc]; rfl
      · rw [if_neg hc, decide_eq_false hc]; simp [Bool.and_assoc]
  have := go b.length 0 j j (by omega) (by omega)
  exact this

/-- THE PLAIN LAW. -/
theorem lawUnlike (a b : List UInt8) (ha : a.length ≤ 67108864) (hb : b.length ≤ 67108864) : X.f6 (4 * a.length + 4 * b.length + 200) a b = some (true, ()) := by
  have hba : Nat.ble a.length 1073741824 = true := by rw [Nat.ble_eq]; omega
  have hbb : Nat.ble b.length 1073741824 = true := by rw [Nat.ble_eq]; omega
  have q1 := quote_len a
  have w1 := word_len a
  rw [X.f6_eq, f20_ok X.toFnsK, X.f13_eq, X.f13_eq, hba, hbb, f18_ok X.toFnsU a (by omega) _ (by omega), f18_ok X.toFnsU b (by omega) _ (by omega)]
  simp only [ob_some, cond_true, Bool.not_true, sel_f]
  rw [f11_ok X.toFnsU (quote a) (by omega) _ (by omega), f16_ok X.toFnsU (word a) (by omega) _ (by omega), f22_ok X (quote a) (by omega) _ (by omega), f22_ok X (word a) (by omega) _ (by omega), unquote_quote, unword_word, quote_clean, word_clean, quote_inj, word_inj]
  simp only [ob_some, beq_self_eq_true, sel_t]
end Nq

