import Derived.Test.YtgnihbbhmbbkbaaDoorLkTwo
import Derived.Test.YtgnihbbhmbbkbaaDoorQwX
set_option linter.all false
namespace Nq
open Go Lk NqG
set_option linter.unusedVariables false

/-- The functions, by their equations alone. -/
structure FnsU where
  /-- unicode/utf8.DecodeRuneInString -/
  f37 (n : Nat) (a0 : List UInt8) : Option (Int × Int × Unit)
  /-- strings.IndexByte -/
  f83 (n : Nat) (a0 : List UInt8) (a1 : UInt8) : Option (Int × Unit)
  /-- names.Quote -/
  f13 (n : Nat) (a0 : List UInt8) : Option (List UInt8 × Unit)
  /-- moraine/names.Unquote -/
  f11 (n : Nat) (a0 : List UInt8) : Option (List UInt8 × Int × Int × Unit)
  p11_5 (j : Nat) (n0 : Nat) (v0 : List UInt8) (v3 : Int) (v5 : List (UInt8)) : Option (List UInt8 × Int × Int × Unit)
  p11_6 (j : Nat) (n0 : Nat) (n1 : Nat) (v0 : List UInt8) (v3 : Int) (v5 : List (UInt8)) : Option (List UInt8 × Int × Int × Unit)
  p11_17 (j : Nat) (n0 : Nat) (v0 : List UInt8) (v3 : Int) (v5 : List (UInt8)) : Option (List UInt8 × Int × Int × Unit)
  p11_2062 (j : Nat) (n0 : Nat) (n1 : Nat) (n2 : Nat) (v0 : List UInt8) (v3 : Int) (v5 : List (UInt8)) (v9 : Int) (v60 : Bool) : Option (List UInt8 × Int × Int × Unit)
  p11_15 (j : Nat) (n0 : Nat) (n1 : Nat) (n2 : Nat) (v0 : List UInt8) (v3 : Int) (v5 : List (UInt8)) (v9 : Int) : Option (List UInt8 × Int × Int × Unit)
  /-- moraine/names.Unword -/
  f16 (n : Nat) (a0 : List UInt8) : Option (List UInt8 × Int × Int × Unit)
  p16_2053 (j : Nat) (n0 : Nat) (v0 : List UInt8) (v5 : Int) (v20 : Bool) : Option (List UInt8 × Int × Int × Unit)
  p16_6 (j : Nat) (n0 : Nat) (v0 : List UInt8) : Option (List UInt8 × Int × Int × Unit)
  /-- moraine/names.Word -/
  f18 (n : Nat) (a0 : List UInt8) : Option (List UInt8 × Unit)
  p18_2050 (j : Nat) (n0 : Nat) (v0 : List UInt8) (v9 : Bool) : Option (List UInt8 × Unit)
  p18_3 (j : Nat) (n0 : Nat) (v0 : List UInt8) : Option (List UInt8 × Unit)
  /-- strings.HasPrefix -/
  f35 (n : Nat) (a0 : List UInt8) (a1 : List UInt8) : Option (Bool × Unit)
  /-- moraine/names.escape -/
  f36 (n : Nat) (a0 : List UInt8) (a1 : Int) : Option (UInt8 × Int × Unit)
  p36_2060 (j : Nat) (n0 : Nat) (v0 : List UInt8) (v1 : Int) (v16 : UInt8) (v23 : Bool) : Option (UInt8 × Int × Unit)
  p36_2064 (j : Nat) (n0 : Nat) (n1 : Nat) (v6 : Int) (v7 : Int) (v45 : Bool) : Option (UInt8 × Int × Unit)
  p36_17 (j : Nat) (n0 : Nat) : Option (UInt8 × Int × Unit)
  /-- moraine/names.itself -/
  f38 (n : Nat) (a0 : Int) : Option (Bool × Unit)
  /-- moraine/names.odd -/
  f47 (n : Nat) (a0 : List UInt8) : Option (Int × Unit)
  p47_2 (j : Nat) (n0 : Nat) (v0 : List UInt8) (v5 : Int) (v6 : Int) : Option (Int × Unit)
  /-- internal/stringslite.HasPrefix -/
  f64 (n : Nat) (a0 : List UInt8) (a1 : List UInt8) : Option (Bool × Unit)
  /-- moraine/names.digit -/
  f65 (n : Nat) (a0 : List UInt8) (a1 : Int) : Option (Int × Unit)
  /-- moraine/names.bareByte -/
  f71 (n : Nat) (a0 : UInt8) : Option (Bool × Unit)
  p71_2050 (j : Nat) (n0 : Nat) (v0 : UInt8) (v3 : Bool) : Option (Bool × Unit)
  p71_2051 (j : Nat) (n0 : Nat) (v0 : UInt8) (v3 : Bool) : Option (Bool × Unit)
  p71_2055 (j : Nat) (n0 : Nat) (n1 : Nat) (v16 : Bool) : Option (Bool × Unit)
  p71_8 (j : Nat) (n0 : Nat) : Option (Bool × Unit)
  f37_eq (n : Nat) (a0 : List UInt8) : f37 n a0 = some ((e37 a0).1, (e37 a0).2, ())
  f83_eq (n : Nat) (a0 : List UInt8) (a1 : UInt8) : f83 n a0 a1 = some (idx a0 a1, ())
  f13_eq (n : Nat) (a0 : List UInt8) : f13 n a0 = bif Nat.ble a0.length 1073741824 then some (quote a0, ()) else none
  f11_eq (n : Nat) (a0 : List UInt8) : f11 (n + 1) a0 =
  (obind (f35 n (a0) ([(34 : UInt8)])) fun r52 =>
   (sel (!r52.fst)
    (some ([], (0 : Int), (61 : Int), ()))
    (p11_5 (n) (n) (a0) ((1 : Int)) ([]))))
  p11_5_eq (j : Nat) (n0 : Nat) (v0 : List UInt8) (v3 : Int) (v5 : List (UInt8)) : p11_5 (j + 1) n0 v0 v3 v5 =
  (sel (Decidable.decide (v3 < (↑v0.length : Int)))
   (sel (Decidable.decide ((0 : Int) ≤ v3))
    (sel (Decidable.decide (v3 < (↑v0.length : Int)))
     (sel ((↑(v0.getD v3.toNat (0 : UInt8)).toNat : Int) != (↑(UInt8.toNat (34 : UInt8)) : Int))
      (p11_6 (j) (n0) (j) (v0) (v3) (v5))
      (p11_17 (n0) (n0) (v0) (v3) (v5)))
     none)
    none)
   (p11_17 (n0) (n0) (v0) (v3) (v5)))
  p11_6_eq (j : Nat) (n0 : Nat) (n1 : Nat) (v0 : List UInt8) (v3 : Int) (v5 : List (UInt8)) : p11_6 (j + 1) n0 n1 v0 v3 v5 =
  (sel (Decidable.decide ((0 : Int) ≤ v3))
   (sel (Decidable.decide (v3 < (↑v0.length : Int)))
    (sel ((↑(v0.getD v3.toNat (0 : UInt8)).toNat : Int) == (↑(UInt8.toNat (92 : UInt8)) : Int))
     (obind (f36 j (v0) (v3)) fun r396 =>
      (sel (r396.snd.fst == (0 : Int))
       (some ([], v3, (61 : Int), ()))
       (sel (Decidable.decide (v5.length + [r396.fst].length ≤ (1073741824 : Nat)))
        (p11_5 (n1) (n0) (v0) (Go.IntKind.i64.wrap (v3 + r396.snd.fst)) (v5 ++ [r396.fst]))
        none)))
     (sel (Decidable.decide ((0 : Int) ≤ v3))
      (sel (Decidable.decide (v3 ≤ (↑v0.length : Int)))
       (obind (f37 j (Lk.ext v0 v3 (↑v0.length : Int))) fun r646 =>
        (sel (r646.fst == (65533 : Int))
         (sel (r646.snd.fst == (1 : Int))
          (p11_2062 (j) (n0) (n1) (j) (v0) (v3) (v5) (r646.snd.fst) (Bool.true))
          (obind (f38 j (r646.fst)) fun r810 =>
           (p11_2062 (j) (n0) (n1) (j) (v0) (v3) (v5) (r646.snd.fst) (!r810.fst))))
         (obind (f38 j (r646.fst)) fun r887 =>
          (p11_2062 (j) (n0) (n1) (j) (v0) (v3) (v5) (r646.snd.fst) (!r887.fst)))))
       none)
      none))
    none)
   none)
  p11_17_eq (j : Nat) (n0 : Nat) (v0 : List UInt8) (v3 : Int) (v5 : List (UInt8)) : p11_17 (j + 1) n0 v0 v3 v5 =
  (sel (v3 == (↑v0.length : Int))
   (some ([], v3, (61 : Int), ()))
   (sel (Decidable.decide (Go.IntKind.i64.wrap (v3 + (1 : Int)) < (↑v0.length : Int)))
    (some ([], Go.IntKind.i64.wrap (v3 + (1 : Int)), (61 : Int), ()))
    (obind (f13 j (v5)) fun r1147 =>
     (sel (!r1147.fst == v0)
      (some ([], (0 : Int), (61 : Int), ()))
      (some (v5, (0 : Int), (0 : Int), ()))))))
  p11_2062_eq (j : Nat) (n0 : Nat) (n1 : Nat) (n2 : Nat) (v0 : List UInt8) (v3 : Int) (v5 : List (UInt8)) (v9 : Int) (v60 : Bool) : p11_2062 (j + 1) n0 n1 n2 v0 v3 v5 v9 v60 =
  (sel (v60)
   (some ([], v3, (61 : Int), ()))
   (p11_15 (n2) (n0) (n1) (n2) (v0) (v3) (v5) (v9)))
  p11_15_eq (j : Nat) (n0 : Nat) (n1 : Nat) (n2 : Nat) (v0 : List UInt8) (v3 : Int) (v5 : List (UInt8)) (v9 : Int) : p11_15 (j + 1) n0 n1 n2 v0 v3 v5 v9 =
  (sel (Decidable.decide ((0 : Int) ≤ Go.IntKind.i64.wrap (v3 + v9)))
   (sel (Decidable.decide (Go.IntKind.i64.wrap (v3 + v9) ≤ (↑v0.length : Int)))
    (sel (Decidable.decide ((0 : Int) ≤ v3))
     (sel (Decidable.decide (v3 ≤ Go.IntKind.i64.wrap (v3 + v9)))
      (sel (Decidable.decide (v5.length + (Lk.ext v0 v3 (Go.IntKind.i64.wrap (v3 + v9))).length ≤ (1073741824 : Nat)))
       (p11_5 (n1) (n0) (v0) (Go.IntKind.i64.wrap (v3 + v9)) (v5 ++ Lk.ext v0 v3 (Go.IntKind.i64.wrap (v3 + v9))))
       none)
      none)
     none)
    none)
   none)
  f16_eq (n : Nat) (a0 : List UInt8) : f16 (n + 1) a0 =
  (obind (f35 n (a0) ([(34 : UInt8)])) fun r52 =>
   (sel (r52.fst)
    (obind (f11 n (a0)) fun r78 =>
     (some (r78.fst, r78.snd.fst, r78.snd.snd.fst, ())))
    (obind (f47 n (a0)) fun r160 =>
     (sel (a0 == [])
      (p16_2053 (n) (n) (a0) (r160.fst) (Bool.true))
      (p16_2053 (n) (n) (a0) (r160.fst) (Decidable.decide (r160.fst ≥ (0 : Int))))))))
  p16_2053_eq (j : Nat) (n0 : Nat) (v0 : List UInt8) (v5 : Int) (v20 : Bool) : p16_2053 (j + 1) n0 v0 v5 v20 =
  (sel (v20)
   (some ([], Lk.imax v5 (0 : Int), (61 : Int), ()))
   (p16_6 (n0) (n0) (v0)))
  p16_6_eq (j : Nat) (n0 : Nat) (v0 : List UInt8) : p16_6 (j + 1) n0 v0 =
  (some (v0, (0 : Int), (0 : Int), ()))
  f18_eq (n : Nat) (a0 : List UInt8) : f18 (n + 1) a0 =
  (sel (!a0 == [])
   (obind (f47 n (a0)) fun r71 =>
    (p18_2050 (n) (n) (a0) (Decidable.decide (r71.fst < (0 : Int)))))
   (p18_2050 (n) (n) (a0) (Bool.false)))
  p18_2050_eq (j : Nat) (n0 : Nat) (v0 : List UInt8) (v9 : Bool) : p18_2050 (j + 1) n0 v0 v9 =
  (sel (v9)
   (some (v0, ()))
   (p18_3 (n0) (n0) (v0)))
  p18_3_eq (j : Nat) (n0 : Nat) (v0 : List UInt8) : p18_3 (j + 1) n0 v0 =
  (obind (f13 j (v0)) fun r194 =>
   (some (r194.fst, ())))
  f35_eq (n : Nat) (a0 : List UInt8) (a1 : List UInt8) : f35 (n + 1) a0 a1 =
  (obind (f64 n (a0) (a1)) fun r44 =>
   (some (r44.fst, ())))
  f36_eq (n : Nat) (a0 : List UInt8) (a1 : Int) : f36 (n + 1) a0 a1 =
  (sel (Decidable.decide (Go.IntKind.i64.wrap (a1 + (1 : Int)) ≥ (↑a0.length : Int)))
   (some ((0 : UInt8), (0 : Int), ()))
   (sel (Decidable.decide ((0 : Int) ≤ Go.IntKind.i64.wrap (a1 + (1 : Int))))
    (sel (Decidable.decide (Go.IntKind.i64.wrap (a1 + (1 : Int)) < (↑a0.length : Int)))
     (sel ((↑(a0.getD (Go.IntKind.i64.wrap (a1 + (1 : Int))).toNat (0 : UInt8)).toNat : Int) == (↑(UInt8.toNat (110 : UInt8)) : Int))
      (some ((10 : UInt8), (2 : Int), ()))
      (sel ((↑(a0.getD (Go.IntKind.i64.wrap (a1 + (1 : Int))).toNat (0 : UInt8)).toNat : Int) == (↑(UInt8.toNat (116 : UInt8)) : Int))
       (some ((9 : UInt8), (2 : Int), ()))
       (sel ((↑(a0.getD (Go.IntKind.i64.wrap (a1 + (1 : Int))).toNat (0 : UInt8)).toNat : Int) == (↑(UInt8.toNat (115 : UInt8)) : Int))
        (some ((32 : UInt8), (2 : Int), ()))
        (sel ((↑(a0.getD (Go.IntKind.i64.wrap (a1 + (1 : Int))).toNat (0 : UInt8)).toNat : Int) == (↑(UInt8.toNat (34 : UInt8)) : Int))
         (p36_2060 (n) (n) (a0) (a1) (a0.getD (Go.IntKind.i64.wrap (a1 + (1 : Int))).toNat (0 : UInt8)) ((↑(a0.getD (Go.IntKind.i64.wrap (a1 + (1 : Int))).toNat (0 : UInt8)).toNat : Int) == (↑(UInt8.toNat (34 : UInt8)) : Int)))
         (p36_2060 (n) (n) (a0) (a1) (a0.getD (Go.IntKind.i64.wrap (a1 + (1 : Int))).toNat (0 : UInt8)) ((↑(a0.getD (Go.IntKind.i64.wrap (a1 + (1 : Int))).toNat (0 : UInt8)).toNat : Int) == (↑(UInt8.toNat (92 : UInt8)) : Int)))))))
     none)
    none))
  p36_2060_eq (j : Nat) (n0 : Nat) (v0 : List UInt8) (v1 : Int) (v16 : UInt8) (v23 : Bool) : p36_2060 (j + 1) n0 v0 v1 v16 v23 =
  (sel (v23)
   (sel (Decidable.decide ((0 : Int) ≤ Go.IntKind.i64.wrap (v1 + (1 : Int))))
    (sel (Decidable.decide (Go.IntKind.i64.wrap (v1 + (1 : Int)) < (↑v0.length : Int)))
     (some (v0.getD (Go.IntKind.i64.wrap (v1 + (1 : Int))).toNat (0 : UInt8), (2 : Int), ()))
     none)
    none)
   (sel ((↑v16.toNat : Int) == (↑(UInt8.toNat (120 : UInt8)) : Int))
    (obind (f65 j (v0) (Go.IntKind.i64.wrap (v1 + (2 : Int)))) fun r510 =>
     (obind (f65 j (v0) (Go.IntKind.i64.wrap (v1 + (3 : Int)))) fun r539 =>
      (sel (Decidable.decide (r510.fst ≥ (0 : Int)))
       (p36_2064 (j) (n0) (j) (r510.fst) (r539.fst) (Decidable.decide (r539.fst ≥ (0 : Int))))
       (p36_2064 (j) (n0) (j) (r510.fst) (r539.fst) (Bool.false)))))
    (p36_17 (n0) (n0))))
  p36_2064_eq (j : Nat) (n0 : Nat) (n1 : Nat) (v6 : Int) (v7 : Int) (v45 : Bool) : p36_2064 (j + 1) n0 n1 v6 v7 v45 =
  (sel (v45)
   (sel (Decidable.decide ((0 : Int) ≤ (4 : Int)))
    (some (UInt8.ofNat (Go.IntKind.u8.wrap (Lk.ibits Go.BinOp.or Go.IntKind.i64 (Go.IntKind.i64.wrap (v6 * (2 : Int) ^ Min.min (Int.toNat (4 : Int)) Go.IntKind.i64.bits)) v7)).toNat, (4 : Int), ()))
    none)
   (p36_17 (n0) (n0)))
  p36_17_eq (j : Nat) (n0 : Nat) : p36_17 (j + 1) n0 =
  (some ((0 : UInt8), (0 : Int), ()))
  f38_eq (n : Nat) (a0 : Int) : f38 (n + 1) a0 =
  (sel (Decidable.decide (a0 > (32 : Int)))
   (sel (Decidable.decide (a0 < (127 : Int)))
    (sel (a0 != (34 : Int))
     (sel (a0 != (92 : Int))
      (some (Bool.true, ()))
      (some (Decidable.decide (a0 > (160 : Int)), ())))
     (some (Decidable.decide (a0 > (160 : Int)), ())))
    (some (Decidable.decide (a0 > (160 : Int)), ())))
   (some (Decidable.decide (a0 > (160 : Int)), ())))
  f47_eq (n : Nat) (a0 : List UInt8) : f47 (n + 1) a0 =
  (p47_2 (n) (n) (a0) ((↑a0.length : Int)) ((0 : Int)))
  p47_2_eq (j : Nat) (n0 : Nat) (v0 : List UInt8) (v5 : Int) (v6 : Int) : p47_2 (j + 1) n0 v0 v5 v6 =
  (sel (Decidable.decide (v6 < v5))
   (sel (Decidable.decide ((0 : Int) ≤ v6))
    (sel (Decidable.decide (v6 < (↑v0.length : Int)))
     (obind (f71 j (v0.getD v6.toNat (0 : UInt8))) fun r132 =>
      (sel (!r132.fst)
       (some (v6, ()))
       (p47_2 (j) (n0) (v0) (v5) (Go.IntKind.i64.wrap (v6 + (1 : Int))))))
     none)
    none)
   (some ((-1 : Int), ())))
  f64_eq (n : Nat) (a0 : List UInt8) (a1 : List UInt8) : f64 (n + 1) a0 a1 =
  (sel (Decidable.decide ((↑a0.length : Int) ≥ (↑a1.length : Int)))
   (sel (Decidable.decide ((0 : Int) ≤ (↑a1.length : Int)))
    (sel (Decidable.decide ((↑a1.length : Int) ≤ (↑a0.length : Int)))
     (some (Lk.ext a0 (0 : Int) (↑a1.length : Int) == a1, ()))
     none)
    none)
   (some (Bool.false, ())))
  f65_eq (n : Nat) (a0 : List UInt8) (a1 : Int) : f65 (n + 1) a0 a1 =
  (sel (Decidable.decide (a1 ≥ (↑a0.length : Int)))
   (some ((-1 : Int), ()))
   (sel (Decidable.decide ((0 : Int) ≤ a1))
    (sel (Decidable.decide (a1 < (↑a0.length : Int)))
     (obind (f83 n ([(48 : UInt8), (49 : UInt8), (50 : UInt8), (51 : UInt8), (52 : UInt8), (53 : UInt8), (54 : UInt8), (55 : UInt8), (56 : UInt8), (57 : UInt8), (97 : UInt8), (98 : UInt8), (99 : UInt8), (100 : UInt8), (101 : UInt8), (102 : UInt8)]) (a0.getD a1.toNat (0 : UInt8))) fun r122 =>
      (some (r122.fst, ())))
     none)
    none))
  f71_eq (n : Nat) (a0 : UInt8) : f71 (n + 1) a0 =
  (sel (Decidable.decide ((↑a0.toNat : Int) ≥ (↑(UInt8.toNat (97 : UInt8)) : Int)))
   (p71_2050 (n) (n) (a0) (Decidable.decide ((↑a0.toNat : Int) ≤ (↑(UInt8.toNat (122 : UInt8)) : Int))))
   (p71_2050 (n) (n) (a0) (Bool.false)))
  p71_2050_eq (j : Nat) (n0 : Nat) (v0 : UInt8) (v3 : Bool) : p71_2050 (j + 1) n0 v0 v3 =
  (sel (v3)
   (p71_2051 (n0) (n0) (v0) (v3))
   (sel (Decidable.decide ((↑v0.toNat : Int) ≥ (↑(UInt8.toNat (48 : UInt8)) : Int)))
    (p71_2051 (n0) (n0) (v0) (Decidable.decide ((↑v0.toNat : Int) ≤ (↑(UInt8.toNat (57 : UInt8)) : Int))))
    (p71_2051 (n0) (n0) (v0) (Bool.false))))
  p71_2051_eq (j : Nat) (n0 : Nat) (v0 : UInt8) (v3 : Bool) : p71_2051 (j + 1) n0 v0 v3 =
  (sel (v3)
   (some (Bool.true, ()))
   (sel ((↑v0.toNat : Int) == (↑(UInt8.toNat (46 : UInt8)) : Int))
    (p71_2055 (j) (n0) (j) ((↑v0.toNat : Int) == (↑(UInt8.toNat (46 : UInt8)) : Int)))
    (sel ((↑v0.toNat : Int) == (↑(UInt8.toNat (95 : UInt8)) : Int))
     (p71_2055 (j) (n0) (j) ((↑v0.toNat : Int) == (↑(UInt8.toNat (95 : UInt8)) : Int)))
     (p71_2055 (j) (n0) (j) ((↑v0.toNat : Int) == (↑(UInt8.toNat (45 : UInt8)) : Int))))))
  p71_2055_eq (j : Nat) (n0 : Nat) (n1 : Nat) (v16 : Bool) : p71_2055 (j + 1) n0 n1 v16 =
  (sel (v16)
   (some (Bool.true, ()))
   (p71_8 (n0) (n0)))
  p71_8_eq (j : Nat) (n0 : Nat) : p71_8 (j + 1) n0 =
  (some (Bool.false, ()))
end Nq

namespace Nq
open Go Lk NqG
set_option linter.unusedVariables false

/-- The functions, by their equations alone. -/
structure FnsR extends FnsU where
  /-- moraine/moraineref06.Unquote -/
  f12 (n : Nat) (a0 : List UInt8) : Option (List UInt8 × Int × Int × Unit)
  p12_2050 (j : Nat) (n0 : Nat) (v0 : List UInt8) (v17 : Bool) : Option (List UInt8 × Int × Int × Unit)
  p12_3 (j : Nat) (n0 : Nat) (v0 : List UInt8) : Option (List UInt8 × Int × Int × Unit)
  p12_5 (j : Nat) (n0 : Nat) (n1 : Nat) (v0 : List UInt8) (v5 : List (UInt8)) (v6 : Int) : Option (List UInt8 × Int × Int × Unit)
  p12_2068 (j : Nat) (n0 : Nat) (n1 : Nat) (n2 : Nat) (v0 : List UInt8) (v5 : List (UInt8)) (v6 : Int) (v10 : Int) (v79 : Bool) : Option (List UInt8 × Int × Int × Unit)
  p12_21 (j : Nat) (n0 : Nat) (n1 : Nat) (n2 : Nat) (v0 : List UInt8) (v5 : List (UInt8)) (v6 : Int) (v10 : Int) : Option (List UInt8 × Int × Int × Unit)
  /-- moraine/moraineref06.Quote -/
  f14 (n : Nat) (a0 : List UInt8) : Option (List UInt8 × Unit)
  p14_4 (j : Nat) (n0 : Nat) (v3 : List (UInt8)) (v4 : List (UInt8)) (v5 : Int) : Option (List UInt8 × Unit)
  /-- moraine/morainelaw06.numbers -/
  f15 (n : Nat) : Option (Bool × Unit)
  /-- moraine/moraineref06.Unword -/
  f17 (n : Nat) (a0 : List UInt8) : Option (List UInt8 × Int × Int × Unit)
  p17_2050 (j : Nat) (n0 : Nat) (v0 : List UInt8) (v12 : Bool) : Option (List UInt8 × Int × Int × Unit)
  p17_3 (j : Nat) (n0 : Nat) (v0 : List UInt8) : Option (List UInt8 × Int × Int × Unit)
  /-- moraine/moraineref06.Word -/
  f19 (n : Nat) (a0 : List UInt8) : Option (List UInt8 × Unit)
  /-- moraine/moraineref06.escape -/
  f39 (n : Nat) (a0 : List UInt8) (a1 : Int) : Option (UInt8 × Int × Unit)
  p39_2060 (j : Nat) (n0 : Nat) (v0 : List UInt8) (v1 : Int) (v14 : UInt8) (v21 : Bool) : Option (UInt8 × Int × Unit)
  p39_2063 (j : Nat) (n0 : Nat) (n1 : Nat) (v0 : List UInt8) (v1 : Int) (v50 : Bool) : Option (UInt8 × Int × Unit)
  p39_16 (j : Nat) (n0 : Nat) : Option (UInt8 × Int × Unit)
  /-- moraine/moraineref06.Rune -/
  f40 (n : Nat) (a0 : List (UInt8)) (a1 : Int) : Option (Int × Int × Unit)
  p40_2054 (j : Nat) (n0 : Nat) (v0 : List (UInt8)) (v1 : Int) (v6 : Int) (v7 : Int) (v8 : Int) (v9 : Int) (v20 : Bool) : Option (Int × Int × Unit)
  p40_11 (j : Nat) (n0 : Nat) (v0 : List (UInt8)) (v1 : Int) (v7 : Int) (v8 : Int) (v9 : Int) : Option (Int × Int × Unit)
  p40_2056 (j : Nat) (n0 : Nat) (n1 : Nat) (v0 : List (UInt8)) (v1 : Int) (v6 : Int) (v7 : Int) (v8 : Int) (v9 : Int) (v29 : Bool) : Option (Int × Int × Unit)
  p40_2060 (j : Nat) (n0 : Nat) (n1 : Nat) (v0 : List (UInt8)) (v1 : Int) (v7 : Int) (v8 : Int) (v9 : Int) (v56 : Bool) : Option (Int × Int × Unit)
  p40_2058 (j : Nat) (n0 : Nat) (n1 : Nat) (n2 : Nat) (v0 : List (UInt8)) (v1 : Int) (v6 : Int) (v7 : Int) (v8 : Int) (v9 : Int) (v38 : Bool) : Option (Int × Int × Unit)
  p40_13 (j : Nat) (n0 : Nat) (n1 : Nat) (v0 : List (UInt8)) (v1 : Int) (v7 : Int) (v8 : Int) (v9 : Int) : Option (Int × Int × Unit)
  p40_14 (j : Nat) (n0 : Nat) (n1 : Nat) (n2 : Nat) (v0 : List (UInt8)) (v1 : Int) (v7 : Int) (v8 : Int) (v9 : Int) (v10 : Int) : Option (Int × Int × Unit)
  p40_2068 (j : Nat) (n0 : Nat) (n1 : Nat) (n2 : Nat) (v7 : Int) (v8 : Int) (v95 : Bool) : Option (Int × Int × Unit)
  p40_21 (j : Nat) (n0 : Nat) (n1 : Nat) (n2 : Nat) (v7 : Int) (v8 : Int) : Option (Int × Int × Unit)
  /-- moraine/moraineref06.plain -/
  f41 (n : Nat) (a0 : Int) : Option (Bool × Unit)
  /-- moraine/moraineref06.piece -/
  f46 (n : Nat) (a0 : List (UInt8)) (a1 : Int) : Option (List UInt8 × Int × Unit)
  p46_2061 (j : Nat) (n0 : Nat) (v0 : List (UInt8)) (v1 : Int) (v7 : Int) (v44 : Bool) : Option (List UInt8 × Int × Unit)
  p46_14 (j : Nat) (n0 : Nat) (v0 : List (UInt8)) (v1 : Int) (v7 : Int) : Option (List UInt8 × Int × Unit)
  p46_16 (j : Nat) (n0 : Nat) (n1 : Nat) (v0 : List (UInt8)) (v1 : Int) (v7 : Int) (v8 : List UInt8) (v9 : Int) : Option (List UInt8 × Int × Unit)
  /-- moraine/moraineref06.bare -/
  f48 (n : Nat) (a0 : List UInt8) : Option (Int × Unit)
  p48_2 (j : Nat) (n0 : Nat) (v0 : List UInt8) (v3 : Int) : Option (Int × Unit)
  p48_2054 (j : Nat) (n0 : Nat) (n1 : Nat) (v0 : List UInt8) (v3 : Int) (v39 : Bool) : Option (Int × Unit)
  p48_3 (j : Nat) (n0 : Nat) (n1 : Nat) (v0 : List UInt8) (v3 : Int) : Option (Int × Unit)
  /-- moraine/moraineref06.digit -/
  f67 (n : Nat) (a0 : UInt8) : Option (Int × Unit)
  p67_2050 (j : Nat) (n0 : Nat) (v0 : UInt8) (v3 : Bool) : Option (Int × Unit)
  p67_2052 (j : Nat) (n0 : Nat) (n1 : Nat) (v0 : UInt8) (v13 : Bool) : Option (Int × Unit)
  p67_5 (j : Nat) (n0 : Nat) : Option (Int × Unit)
  /-- moraine/moraineref06.hex -/
  f70 (n : Nat) (a0 : UInt8) : Option (List UInt8 × Unit)
  /-- moraine/morainelaw06.NamesQuotes -/
  f3 (n : Nat) (a0 : List UInt8) (a1 : List UInt8) : Option (Bool × Unit)
  /-- moraine/morainelaw06.NamesWords -/
  f4 (n : Nat) (a0 : List UInt8) (a1 : List UInt8) : Option (Bool × Unit)
  f12_eq (n : Nat) (a0 : List UInt8) : f12 (n + 1) a0 =
  (sel (a0 == [])
   (p12_2050 (n) (n) (a0) (Bool.true))
   (sel (Decidable.decide ((0 : Int) ≤ (0 : Int)))
    (sel (Decidable.decide ((0 : Int) < (↑a0.length : Int)))
     (p12_2050 (n) (n) (a0) ((↑(a0.getD (Int.toNat (0 : Int)) (0 : UInt8)).toNat : Int) != (↑(UInt8.toNat (34 : UInt8)) : Int)))
     none)
    none))
  p12_2050_eq (j : Nat) (n0 : Nat) (v0 : List UInt8) (v17 : Bool) : p12_2050 (j + 1) n0 v0 v17 =
  (sel (v17)
   (some ([], (0 : Int), (61 : Int), ()))
   (p12_3 (n0) (n0) (v0)))
  p12_3_eq (j : Nat) (n0 : Nat) (v0 : List UInt8) : p12_3 (j + 1) n0 v0 =
  (p12_5 (j) (n0) (j) (v0) ([]) ((1 : Int)))
  p12_5_eq (j : Nat) (n0 : Nat) (n1 : Nat) (v0 : List UInt8) (v5 : List (UInt8)) (v6 : Int) : p12_5 (j + 1) n0 n1 v0 v5 v6 =
  (sel (Decidable.decide (v6 < (↑v0.length : Int)))
   (sel (Decidable.decide ((0 : Int) ≤ v6))
    (sel (Decidable.decide (v6 < (↑v0.length : Int)))
     (sel ((↑(v0.getD v6.toNat (0 : UInt8)).toNat : Int) == (↑(UInt8.toNat (34 : UInt8)) : Int))
      (sel (Decidable.decide (Go.IntKind.i64.wrap (v6 + (1 : Int)) < (↑v0.length : Int)))
       (some ([], Go.IntKind.i64.wrap (v6 + (1 : Int)), (61 : Int), ()))
       (obind (f14 j (v5)) fun r458 =>
        (sel (!r458.fst == v0)
         (some ([], (0 : Int), (61 : Int), ()))
         (some (v5, (0 : Int), (0 : Int), ())))))
      (sel (Decidable.decide ((0 : Int) ≤ v6))
       (sel (Decidable.decide (v6 < (↑v0.length : Int)))
        (sel ((↑(v0.getD v6.toNat (0 : UInt8)).toNat : Int) == (↑(UInt8.toNat (92 : UInt8)) : Int))
         (obind (f39 j (v0) (v6)) fun r667 =>
          (sel (r667.snd.fst == (0 : Int))
           (some ([], v6, (61 : Int), ()))
           (sel (Decidable.decide (v5.length + [r667.fst].length ≤ (1073741824 : Nat)))
            (p12_5 (j) (n0) (n1) (v0) (v5 ++ [r667.fst]) (Go.IntKind.i64.wrap (v6 + r667.snd.fst)))
            none)))
         (sel (Decidable.decide ((0 : Int) ≤ Lk.imin (Go.IntKind.i64.wrap (v6 + (4 : Int))) (↑v0.length : Int)))
          (sel (Decidable.decide (Lk.imin (Go.IntKind.i64.wrap (v6 + (4 : Int))) (↑v0.length : Int) ≤ (↑v0.length : Int)))
           (sel (Decidable.decide ((0 : Int) ≤ v6))
            (sel (Decidable.decide (v6 ≤ Lk.imin (Go.IntKind.i64.wrap (v6 + (4 : Int))) (↑v0.length : Int)))
             (obind (f40 j (Lk.ext v0 v6 (Lk.imin (Go.IntKind.i64.wrap (v6 + (4 : Int))) (↑v0.length : Int))) ((0 : Int))) fun r959 =>
              (sel (r959.snd.fst == (0 : Int))
               (p12_2068 (j) (n0) (n1) (j) (v0) (v5) (v6) (r959.snd.fst) (Bool.true))
               (obind (f41 j (r959.fst)) fun r1083 =>
                (p12_2068 (j) (n0) (n1) (j) (v0) (v5) (v6) (r959.snd.fst) (!r1083.fst)))))
             none)
            none)
           none)
          none))
        none)
       none))
     none)
    none)
   (some ([], (↑v0.length : Int), (61 : Int), ())))
  p12_2068_eq (j : Nat) (n0 : Nat) (n1 : Nat) (n2 : Nat) (v0 : List UInt8) (v5 : List (UInt8)) (v6 : Int) (v10 : Int) (v79 : Bool) : p12_2068 (j + 1) n0 n1 n2 v0 v5 v6 v10 v79 =
  (sel (v79)
   (some ([], v6, (61 : Int), ()))
   (p12_21 (n2) (n0) (n1) (n2) (v0) (v5) (v6) (v10)))
  p12_21_eq (j : Nat) (n0 : Nat) (n1 : Nat) (n2 : Nat) (v0 : List UInt8) (v5 : List (UInt8)) (v6 : Int) (v10 : Int) : p12_21 (j + 1) n0 n1 n2 v0 v5 v6 v10 =
  (sel (Decidable.decide ((0 : Int) ≤ Go.IntKind.i64.wrap (v6 + v10)))
   (sel (Decidable.decide (Go.IntKind.i64.wrap (v6 + v10) ≤ (↑v0.length : Int)))
    (sel (Decidable.decide ((0 : Int) ≤ v6))
     (sel (Decidable.decide (v6 ≤ Go.IntKind.i64.wrap (v6 + v10)))
      (sel (Decidable.decide (v5.length + (Lk.ext v0 v6 (Go.IntKind.i64.wrap (v6 + v10))).length ≤ (1073741824 : Nat)))
       (p12_5 (n2) (n0) (n1) (v0) (v5 ++ Lk.ext v0 v6 (Go.IntKind.i64.wrap (v6 + v10))) (Go.IntKind.i64.wrap (v6 + v10)))
       none)
      none)
     none)
    none)
   none)
  f14_eq (n : Nat) (a0 : List UInt8) : f14 (n + 1) a0 =
  (p14_4 (n) (n) (a0) ([(34 : UInt8)]) ((0 : Int)))
  p14_4_eq (j : Nat) (n0 : Nat) (v3 : List (UInt8)) (v4 : List (UInt8)) (v5 : Int) : p14_4 (j + 1) n0 v3 v4 v5 =
  (sel (Decidable.decide (v5 < (↑v3.length : Int)))
   (obind (f46 j (v3) (v5)) fun r159 =>
    (sel (Decidable.decide (v4.length + List.length r159.fst ≤ (1073741824 : Nat)))
     (p14_4 (j) (n0) (v3) (v4 ++ r159.fst) (Go.IntKind.i64.wrap (v5 + r159.snd.fst)))
     none))
   (sel (Decidable.decide (v4.length + [(34 : UInt8)].length ≤ (1073741824 : Nat)))
    (some (v4 ++ [(34 : UInt8)], ()))
    none))
  f15_eq (n : Nat)  : f15 (n + 1)  =
  (some (Bool.true, ()))
  f17_eq (n : Nat) (a0 : List UInt8) : f17 (n + 1) a0 =
  (sel (!a0 == [])
   (sel (Decidable.decide ((0 : Int) ≤ (0 : Int)))
    (sel (Decidable.decide ((0 : Int) < (↑a0.length : Int)))
     (p17_2050 (n) (n) (a0) ((↑(a0.getD (Int.toNat (0 : Int)) (0 : UInt8)).toNat : Int) == (↑(UInt8.toNat (34 : UInt8)) : Int)))
     none)
    none)
   (p17_2050 (n) (n) (a0) (Bool.false)))
  p17_2050_eq (j : Nat) (n0 : Nat) (v0 : List UInt8) (v12 : Bool) : p17_2050 (j + 1) n0 v0 v12 =
  (sel (v12)
   (obind (f12 j (v0)) fun r166 =>
    (some (r166.fst, r166.snd.fst, r166.snd.snd.fst, ())))
   (p17_3 (n0) (n0) (v0)))
  p17_3_eq (j : Nat) (n0 : Nat) (v0 : List UInt8) : p17_3 (j + 1) n0 v0 =
  (obind (f48 j (v0)) fun r250 =>
   (sel (Decidable.decide (r250.fst ≥ (0 : Int)))
    (some ([], r250.fst, (61 : Int), ()))
    (some (v0, (0 : Int), (0 : Int), ()))))
  f19_eq (n : Nat) (a0 : List UInt8) : f19 (n + 1) a0 =
  (obind (f48 n (a0)) fun r38 =>
   (sel (Decidable.decide (r38.fst < (0 : Int)))
    (some (a0, ()))
    (obind (f14 n (a0)) fun r109 =>
     (some (r109.fst, ())))))
  f39_eq (n : Nat) (a0 : List UInt8) (a1 : Int) : f39 (n + 1) a0 a1 =
  (sel (Decidable.decide (Go.IntKind.i64.wrap (a1 + (1 : Int)) ≥ (↑a0.length : Int)))
   (some ((0 : UInt8), (0 : Int), ()))
   (sel (Decidable.decide ((0 : Int) ≤ Go.IntKind.i64.wrap (a1 + (1 : Int))))
    (sel (Decidable.decide (Go.IntKind.i64.wrap (a1 + (1 : Int)) < (↑a0.length : Int)))
     (sel ((↑(a0.getD (Go.IntKind.i64.wrap (a1 + (1 : Int))).toNat (0 : UInt8)).toNat : Int) == (↑(UInt8.toNat (110 : UInt8)) : Int))
      (some ((10 : UInt8), (2 : Int), ()))
      (sel ((↑(a0.getD (Go.IntKind.i64.wrap (a1 + (1 : Int))).toNat (0 : UInt8)).toNat : Int) == (↑(UInt8.toNat (116 : UInt8)) : Int))
       (some ((9 : UInt8), (2 : Int), ()))
       (sel ((↑(a0.getD (Go.IntKind.i64.wrap (a1 + (1 : Int))).toNat (0 : UInt8)).toNat : Int) == (↑(UInt8.toNat (115 : UInt8)) : Int))
        (some ((32 : UInt8), (2 : Int), ()))
        (sel ((↑(a0.getD (Go.IntKind.i64.wrap (a1 + (1 : Int))).toNat (0 : UInt8)).toNat : Int) == (↑(UInt8.toNat (34 : UInt8)) : Int))
         (p39_2060 (n) (n) (a0) (a1) (a0.getD (Go.IntKind.i64.wrap (a1 + (1 : Int))).toNat (0 : UInt8)) ((↑(a0.getD (Go.IntKind.i64.wrap (a1 + (1 : Int))).toNat (0 : UInt8)).toNat : Int) == (↑(UInt8.toNat (34 : UInt8)) : Int)))
         (p39_2060 (n) (n) (a0) (a1) (a0.getD (Go.IntKind.i64.wrap (a1 + (1 : Int))).toNat (0 : UInt8)) ((↑(a0.getD (Go.IntKind.i64.wrap (a1 + (1 : Int))).toNat (0 : UInt8)).toNat : Int) == (↑(UInt8.toNat (92 : UInt8)) : Int)))))))
     none)
    none))
  p39_2060_eq (j : Nat) (n0 : Nat) (v0 : List UInt8) (v1 : Int) (v14 : UInt8) (v21 : Bool) : p39_2060 (j + 1) n0 v0 v1 v14 v21 =
  (sel (v21)
   (sel (Decidable.decide ((0 : Int) ≤ Go.IntKind.i64.wrap (v1 + (1 : Int))))
    (sel (Decidable.decide (Go.IntKind.i64.wrap (v1 + (1 : Int)) < (↑v0.length : Int)))
     (some (v0.getD (Go.IntKind.i64.wrap (v1 + (1 : Int))).toNat (0 : UInt8), (2 : Int), ()))
     none)
    none)
   (sel ((↑v14.toNat : Int) == (↑(UInt8.toNat (120 : UInt8)) : Int))
    (sel (Decidable.decide (Go.IntKind.i64.wrap (v1 + (3 : Int)) < (↑v0.length : Int)))
     (sel (Decidable.decide ((0 : Int) ≤ Go.IntKind.i64.wrap (v1 + (2 : Int))))
      (sel (Decidable.decide (Go.IntKind.i64.wrap (v1 + (2 : Int)) < (↑v0.length : Int)))
       (obind (f67 j (v0.getD (Go.IntKind.i64.wrap (v1 + (2 : Int))).toNat (0 : UInt8))) fun r589 =>
        (sel (Decidable.decide (r589.fst < (16 : Int)))
         (sel (Decidable.decide ((0 : Int) ≤ Go.IntKind.i64.wrap (v1 + (3 : Int))))
          (sel (Decidable.decide (Go.IntKind.i64.wrap (v1 + (3 : Int)) < (↑v0.length : Int)))
           (obind (f67 j (v0.getD (Go.IntKind.i64.wrap (v1 + (3 : Int))).toNat (0 : UInt8))) fun r682 =>
            (p39_2063 (j) (n0) (j) (v0) (v1) (Decidable.decide (r682.fst < (16 : Int)))))
           none)
          none)
         (p39_2063 (j) (n0) (j) (v0) (v1) (Bool.false))))
       none)
      none)
     (p39_2063 (j) (n0) (j) (v0) (v1) (Bool.false)))
    (p39_16 (n0) (n0))))
  p39_2063_eq (j : Nat) (n0 : Nat) (n1 : Nat) (v0 : List UInt8) (v1 : Int) (v50 : Bool) : p39_2063 (j + 1) n0 n1 v0 v1 v50 =
  (sel (v50)
   (sel (Decidable.decide ((0 : Int) ≤ Go.IntKind.i64.wrap (v1 + (2 : Int))))
    (sel (Decidable.decide (Go.IntKind.i64.wrap (v1 + (2 : Int)) < (↑v0.length : Int)))
     (obind (f67 j (v0.getD (Go.IntKind.i64.wrap (v1 + (2 : Int))).toNat (0 : UInt8))) fun r965 =>
      (sel (Decidable.decide ((0 : Int) ≤ Go.IntKind.i64.wrap (v1 + (3 : Int))))
       (sel (Decidable.decide (Go.IntKind.i64.wrap (v1 + (3 : Int)) < (↑v0.length : Int)))
        (obind (f67 j (v0.getD (Go.IntKind.i64.wrap (v1 + (3 : Int))).toNat (0 : UInt8))) fun r1015 =>
         (some (UInt8.ofNat (Go.IntKind.u8.wrap (Go.IntKind.i64.wrap (Go.IntKind.i64.wrap (r965.fst * (16 : Int)) + r1015.fst))).toNat, (4 : Int), ())))
        none)
       none))
     none)
    none)
   (p39_16 (n0) (n0)))
  p39_16_eq (j : Nat) (n0 : Nat) : p39_16 (j + 1) n0 =
  (some ((0 : UInt8), (0 : Int), ()))
  f40_eq (n : Nat) (a0 : List (UInt8)) (a1 : Int) : f40 (n + 1) a0 a1 =
  (sel (Decidable.decide ((0 : Int) ≤ a1))
   (sel (Decidable.decide (a1 < (↑a0.length : Int)))
    (sel (Decidable.decide (Go.IntKind.u32.wrap (↑(UInt8.toNat (a0.getD a1.toNat (0 : UInt8))) : Int) < (128 : Int)))
     (some (Go.IntKind.u32.wrap (↑(UInt8.toNat (a0.getD a1.toNat (0 : UInt8))) : Int), (1 : Int), ()))
     (sel (Decidable.decide (Go.IntKind.u32.wrap (↑(UInt8.toNat (a0.getD a1.toNat (0 : UInt8))) : Int) ≥ (192 : Int)))
      (p40_2054 (n) (n) (a0) (a1) (Go.IntKind.u32.wrap (↑(UInt8.toNat (a0.getD a1.toNat (0 : UInt8))) : Int)) ((0 : Int)) ((0 : Int)) ((0 : Int)) (Decidable.decide (Go.IntKind.u32.wrap (↑(UInt8.toNat (a0.getD a1.toNat (0 : UInt8))) : Int) < (224 : Int))))
      (p40_2054 (n) (n) (a0) (a1) (Go.IntKind.u32.wrap (↑(UInt8.toNat (a0.getD a1.toNat (0 : UInt8))) : Int)) ((0 : Int)) ((0 : Int)) ((0 : Int)) (Bool.false))))
    none)
   none)
  p40_2054_eq (j : Nat) (n0 : Nat) (v0 : List (UInt8)) (v1 : Int) (v6 : Int) (v7 : Int) (v8 : Int) (v9 : Int) (v20 : Bool) : p40_2054 (j + 1) n0 v0 v1 v6 v7 v8 v9 v20 =
  (sel (v20)
   (p40_11 (n0) (n0) (v0) (v1) ((2 : Int)) (Lk.ibits Go.BinOp.and Go.IntKind.u32 v6 (31 : Int)) ((128 : Int)))
   (sel (Decidable.decide (v6 ≥ (224 : Int)))
    (p40_2056 (j) (n0) (j) (v0) (v1) (v6) (v7) (v8) (v9) (Decidable.decide (v6 < (240 : Int))))
    (p40_2056 (j) (n0) (j) (v0) (v1) (v6) (v7) (v8) (v9) (Bool.false))))
  p40_11_eq (j : Nat) (n0 : Nat) (v0 : List (UInt8)) (v1 : Int) (v7 : Int) (v8 : Int) (v9 : Int) : p40_11 (j + 1) n0 v0 v1 v7 v8 v9 =
  (sel (v7 == (0 : Int))
   (p40_2060 (j) (n0) (j) (v0) (v1) (v7) (v8) (v9) (Bool.true))
   (p40_2060 (j) (n0) (j) (v0) (v1) (v7) (v8) (v9) (Decidable.decide (Go.IntKind.i64.wrap ((↑v0.length : Int) - v1) < v7))))
  p40_2056_eq (j : Nat) (n0 : Nat) (n1 : Nat) (v0 : List (UInt8)) (v1 : Int) (v6 : Int) (v7 : Int) (v8 : Int) (v9 : Int) (v29 : Bool) : p40_2056 (j + 1) n0 n1 v0 v1 v6 v7 v8 v9 v29 =
  (sel (v29)
   (p40_11 (n0) (n0) (v0) (v1) ((3 : Int)) (Lk.ibits Go.BinOp.and Go.IntKind.u32 v6 (15 : Int)) ((2048 : Int)))
   (sel (Decidable.decide (v6 ≥ (240 : Int)))
    (p40_2058 (j) (n0) (n1) (j) (v0) (v1) (v6) (v7) (v8) (v9) (Decidable.decide (v6 < (248 : Int))))
    (p40_2058 (j) (n0) (n1) (j) (v0) (v1) (v6) (v7) (v8) (v9) (Bool.false))))
  p40_2060_eq (j : Nat) (n0 : Nat) (n1 : Nat) (v0 : List (UInt8)) (v1 : Int) (v7 : Int) (v8 : Int) (v9 : Int) (v56 : Bool) : p40_2060 (j + 1) n0 n1 v0 v1 v7 v8 v9 v56 =
  (sel (v56)
   (some ((0 : Int), (0 : Int), ()))
   (p40_13 (n1) (n0) (n1) (v0) (v1) (v7) (v8) (v9)))
  p40_2058_eq (j : Nat) (n0 : Nat) (n1 : Nat) (n2 : Nat) (v0 : List (UInt8)) (v1 : Int) (v6 : Int) (v7 : Int) (v8 : Int) (v9 : Int) (v38 : Bool) : p40_2058 (j + 1) n0 n1 n2 v0 v1 v6 v7 v8 v9 v38 =
  (sel (v38)
   (p40_11 (n0) (n0) (v0) (v1) ((4 : Int)) (Lk.ibits Go.BinOp.and Go.IntKind.u32 v6 (7 : Int)) ((65536 : Int)))
   (p40_11 (n0) (n0) (v0) (v1) (v7) (v8) (v9)))
  p40_13_eq (j : Nat) (n0 : Nat) (n1 : Nat) (v0 : List (UInt8)) (v1 : Int) (v7 : Int) (v8 : Int) (v9 : Int) : p40_13 (j + 1) n0 n1 v0 v1 v7 v8 v9 =
  (p40_14 (j) (n0) (n1) (j) (v0) (v1) (v7) (v8) (v9) ((1 : Int)))
  p40_14_eq (j : Nat) (n0 : Nat) (n1 : Nat) (n2 : Nat) (v0 : List (UInt8)) (v1 : Int) (v7 : Int) (v8 : Int) (v9 : Int) (v10 : Int) : p40_14 (j + 1) n0 n1 n2 v0 v1 v7 v8 v9 v10 =
  (sel (Decidable.decide (v10 < v7))
   (sel (Decidable.decide ((0 : Int) ≤ Go.IntKind.i64.wrap (v1 + v10)))
    (sel (Decidable.decide (Go.IntKind.i64.wrap (v1 + v10) < (↑v0.length : Int)))
     (sel ((↑(UInt8.ofNat (Lk.ibits Go.BinOp.and Go.IntKind.u8 (↑(UInt8.toNat (v0.getD (Go.IntKind.i64.wrap (v1 + v10)).toNat (0 : UInt8))) : Int) (↑(UInt8.toNat (192 : UInt8)) : Int)).toNat).toNat : Int) != (↑(UInt8.toNat (128 : UInt8)) : Int))
      (some ((0 : Int), (0 : Int), ()))
      (sel (Decidable.decide ((0 : Int) ≤ (6 : Int)))
       (sel (Decidable.decide ((0 : Int) ≤ Go.IntKind.i64.wrap (v1 + v10)))
        (sel (Decidable.decide (Go.IntKind.i64.wrap (v1 + v10) < (↑v0.length : Int)))
         (p40_14 (j) (n0) (n1) (n2) (v0) (v1) (v7) (Lk.ibits Go.BinOp.or Go.IntKind.u32 (Go.IntKind.u32.wrap (v8 * (2 : Int) ^ Min.min (Int.toNat (6 : Int)) Go.IntKind.u32.bits)) (Go.IntKind.u32.wrap (↑(UInt8.ofNat (Lk.ibits Go.BinOp.and Go.IntKind.u8 (↑(UInt8.toNat (v0.getD (Go.IntKind.i64.wrap (v1 + v10)).toNat (0 : UInt8))) : Int) (↑(UInt8.toNat (63 : UInt8)) : Int)).toNat).toNat : Int))) (v9) (Go.IntKind.i64.wrap (v10 + (1 : Int))))
         none)
        none)
       none))
     none)
    none)
   (sel (Decidable.decide (v8 < v9))
    (p40_2068 (n2) (n0) (n1) (n2) (v7) (v8) (Bool.true))
    (sel (Decidable.decide (v8 > (1114111 : Int)))
     (p40_2068 (n2) (n0) (n1) (n2) (v7) (v8) (Bool.true))
     (sel (Decidable.decide (v8 ≥ (55296 : Int)))
      (p40_2068 (n2) (n0) (n1) (n2) (v7) (v8) (Decidable.decide (v8 ≤ (57343 : Int))))
      (p40_2068 (n2) (n0) (n1) (n2) (v7) (v8) (Bool.false))))))
  p40_2068_eq (j : Nat) (n0 : Nat) (n1 : Nat) (n2 : Nat) (v7 : Int) (v8 : Int) (v95 : Bool) : p40_2068 (j + 1) n0 n1 n2 v7 v8 v95 =
  (sel (v95)
   (some ((0 : Int), (0 : Int), ()))
   (p40_21 (n2) (n0) (n1) (n2) (v7) (v8)))
  p40_21_eq (j : Nat) (n0 : Nat) (n1 : Nat) (n2 : Nat) (v7 : Int) (v8 : Int) : p40_21 (j + 1) n0 n1 n2 v7 v8 =
  (some (v8, v7, ()))
  f41_eq (n : Nat) (a0 : Int) : f41 (n + 1) a0 =
  (sel (Decidable.decide (a0 > (32 : Int)))
   (sel (a0 != (34 : Int))
    (sel (a0 != (92 : Int))
     (sel (Decidable.decide (a0 < (127 : Int)))
      (some (Bool.true, ()))
      (some (Decidable.decide (a0 > (160 : Int)), ())))
     (some (Bool.false, ())))
    (some (Bool.false, ())))
   (some (Bool.false, ())))
  f46_eq (n : Nat) (a0 : List (UInt8)) (a1 : Int) : f46 (n + 1) a0 a1 =
  (obind (f40 n (a0) (a1)) fun r51 =>
   (sel (r51.snd.fst == (0 : Int))
    (sel (Decidable.decide ((0 : Int) ≤ a1))
     (sel (Decidable.decide (a1 < (↑a0.length : Int)))
      (obind (f70 n (a0.getD a1.toNat (0 : UInt8))) fun r163 =>
       (some (r163.fst, (1 : Int), ())))
      none)
     none)
    (obind (f41 n (r51.fst)) fun r214 =>
     (sel (r214.fst)
      (sel (Decidable.decide ((0 : Int) ≤ Go.IntKind.i64.wrap (a1 + r51.snd.fst)))
       (sel (Decidable.decide (Go.IntKind.i64.wrap (a1 + r51.snd.fst) ≤ (↑a0.length : Int)))
        (sel (Decidable.decide ((0 : Int) ≤ a1))
         (sel (Decidable.decide (a1 ≤ Go.IntKind.i64.wrap (a1 + r51.snd.fst)))
          (some (Lk.ext a0 a1 (Go.IntKind.i64.wrap (a1 + r51.snd.fst)), r51.snd.fst, ()))
          none)
         none)
        none)
       none)
      (sel (r51.fst == (10 : Int))
       (some ([(92 : UInt8), (110 : UInt8)], (1 : Int), ()))
       (sel (r51.fst == (9 : Int))
        (some ([(92 : UInt8), (116 : UInt8)], (1 : Int), ()))
        (sel (r51.fst == (32 : Int))
         (some ([(92 : UInt8), (115 : UInt8)], (1 : Int), ()))
         (sel (r51.fst == (34 : Int))
          (p46_2061 (n) (n) (a0) (a1) (r51.snd.fst) (Bool.true))
          (p46_2061 (n) (n) (a0) (a1) (r51.snd.fst) (r51.fst == (92 : Int)))))))))))
  p46_2061_eq (j : Nat) (n0 : Nat) (v0 : List (UInt8)) (v1 : Int) (v7 : Int) (v44 : Bool) : p46_2061 (j + 1) n0 v0 v1 v7 v44 =
  (sel (v44)
   (sel (Decidable.decide ((0 : Int) ≤ Go.IntKind.i64.wrap (v1 + (1 : Int))))
    (sel (Decidable.decide (Go.IntKind.i64.wrap (v1 + (1 : Int)) ≤ (↑v0.length : Int)))
     (sel (Decidable.decide ((0 : Int) ≤ v1))
      (sel (Decidable.decide (v1 ≤ Go.IntKind.i64.wrap (v1 + (1 : Int))))
       (sel (Decidable.decide ([(92 : UInt8)].length + (Lk.ext v0 v1 (Go.IntKind.i64.wrap (v1 + (1 : Int)))).length ≤ Lk.big))
        (some ([(92 : UInt8)] ++ Lk.ext v0 v1 (Go.IntKind.i64.wrap (v1 + (1 : Int))), (1 : Int), ()))
        none)
       none)
      none)
     none)
    none)
   (p46_14 (n0) (n0) (v0) (v1) (v7)))
  p46_14_eq (j : Nat) (n0 : Nat) (v0 : List (UInt8)) (v1 : Int) (v7 : Int) : p46_14 (j + 1) n0 v0 v1 v7 =
  (p46_16 (j) (n0) (j) (v0) (v1) (v7) ([]) ((0 : Int)))
  p46_16_eq (j : Nat) (n0 : Nat) (n1 : Nat) (v0 : List (UInt8)) (v1 : Int) (v7 : Int) (v8 : List UInt8) (v9 : Int) : p46_16 (j + 1) n0 n1 v0 v1 v7 v8 v9 =
  (sel (Decidable.decide (v9 < v7))
   (sel (Decidable.decide ((0 : Int) ≤ Go.IntKind.i64.wrap (v1 + v9)))
    (sel (Decidable.decide (Go.IntKind.i64.wrap (v1 + v9) < (↑v0.length : Int)))
     (obind (f70 j (v0.getD (Go.IntKind.i64.wrap (v1 + v9)).toNat (0 : UInt8))) fun r857 =>
      (sel (Decidable.decide (v8.length + List.length r857.fst ≤ Lk.big))
       (p46_16 (j) (n0) (n1) (v0) (v1) (v7) (v8 ++ r857.fst) (Go.IntKind.i64.wrap (v9 + (1 : Int))))
       none))
     none)
    none)
   (some (v8, v7, ())))
  f48_eq (n : Nat) (a0 : List UInt8) : f48 (n + 1) a0 =
  (p48_2 (n) (n) (a0) ((0 : Int)))
  p48_2_eq (j : Nat) (n0 : Nat) (v0 : List UInt8) (v3 : Int) : p48_2 (j + 1) n0 v0 v3 =
  (sel (Decidable.decide (v3 < (↑v0.length : Int)))
   (sel (Decidable.decide ((0 : Int) ≤ v3))
    (sel (Decidable.decide (v3 < (↑v0.length : Int)))
     (sel (Decidable.decide ((↑(v0.getD v3.toNat (0 : UInt8)).toNat : Int) < (↑(UInt8.toNat (97 : UInt8)) : Int)))
      (sel (Decidable.decide ((↑(v0.getD v3.toNat (0 : UInt8)).toNat : Int) < (↑(UInt8.toNat (48 : UInt8)) : Int)))
       (sel ((↑(v0.getD v3.toNat (0 : UInt8)).toNat : Int) != (↑(UInt8.toNat (46 : UInt8)) : Int))
        (sel ((↑(v0.getD v3.toNat (0 : UInt8)).toNat : Int) != (↑(UInt8.toNat (95 : UInt8)) : Int))
         (p48_2054 (j) (n0) (j) (v0) (v3) ((↑(v0.getD v3.toNat (0 : UInt8)).toNat : Int) != (↑(UInt8.toNat (45 : UInt8)) : Int)))
         (p48_2054 (j) (n0) (j) (v0) (v3) (Bool.false)))
        (p48_2054 (j) (n0) (j) (v0) (v3) (Bool.false)))
       (sel (Decidable.decide ((↑(v0.getD v3.toNat (0 : UInt8)).toNat : Int) > (↑(UInt8.toNat (57 : UInt8)) : Int)))
        (sel ((↑(v0.getD v3.toNat (0 : UInt8)).toNat : Int) != (↑(UInt8.toNat (46 : UInt8)) : Int))
         (sel ((↑(v0.getD v3.toNat (0 : UInt8)).toNat : Int) != (↑(UInt8.toNat (95 : UInt8)) : Int))
          (p48_2054 (j) (n0) (j) (v0) (v3) ((↑(v0.getD v3.toNat (0 : UInt8)).toNat : Int) != (↑(UInt8.toNat (45 : UInt8)) : Int)))
          (p48_2054 (j) (n0) (j) (v0) (v3) (Bool.false)))
         (p48_2054 (j) (n0) (j) (v0) (v3) (Bool.false)))
        (p48_2054 (j) (n0) (j) (v0) (v3) (Bool.false))))
      (sel (Decidable.decide ((↑(v0.getD v3.toNat (0 : UInt8)).toNat : Int) > (↑(UInt8.toNat (122 : UInt8)) : Int)))
       (sel (Decidable.decide ((↑(v0.getD v3.toNat (0 : UInt8)).toNat : Int) < (↑(UInt8.toNat (48 : UInt8)) : Int)))
        (sel ((↑(v0.getD v3.toNat (0 : UInt8)).toNat : Int) != (↑(UInt8.toNat (46 : UInt8)) : Int))
         (sel ((↑(v0.getD v3.toNat (0 : UInt8)).toNat : Int) != (↑(UInt8.toNat (95 : UInt8)) : Int))
          (p48_2054 (j) (n0) (j) (v0) (v3) ((↑(v0.getD v3.toNat (0 : UInt8)).toNat : Int) != (↑(UInt8.toNat (45 : UInt8)) : Int)))
          (p48_2054 (j) (n0) (j) (v0) (v3) (Bool.false)))
         (p48_2054 (j) (n0) (j) (v0) (v3) (Bool.false)))
        (sel (Decidable.decide ((↑(v0.getD v3.toNat (0 : UInt8)).toNat : Int) > (↑(UInt8.toNat (57 : UInt8)) : Int)))
         (sel ((↑(v0.getD v3.toNat (0 : UInt8)).toNat : Int) != (↑(UInt8.toNat (46 : UInt8)) : Int))
          (sel ((↑(v0.getD v3.toNat (0 : UInt8)).toNat : Int) != (↑(UInt8.toNat (95 : UInt8)) : Int))
           (p48_2054 (j) (n0) (j) (v0) (v3) ((↑(v0.getD v3.toNat (0 : UInt8)).toNat : Int) != (↑(UInt8.toNat (45 : UInt8)) : Int)))
           (p48_2054 (j) (n0) (j) (v0) (v3) (Bool.false)))
          (p48_2054 (j) (n0) (j) (v0) (v3) (Bool.false)))
         (p48_2054 (j) (n0) (j) (v0) (v3) (Bool.false))))
       (p48_2054 (j) (n0) (j) (v0) (v3) (Bool.false))))
     none)
    none)
   (sel ((↑v0.length : Int) == (0 : Int))
    (some ((0 : Int), ()))
    (some ((-1 : Int), ()))))
  p48_2054_eq (j : Nat) (n0 : Nat) (n1 : Nat) (v0 : List UInt8) (v3 : Int) (v39 : Bool) : p48_2054 (j + 1) n0 n1 v0 v3 v39 =
  (sel (v39)
   (some (v3, ()))
   (p48_3 (n1) (n0) (n1) (v0) (v3)))
  p48_3_eq (j : Nat) (n0 : Nat) (n1 : Nat) (v0 : List UInt8) (v3 : Int) : p48_3 (j + 1) n0 n1 v0 v3 =
  (p48_2 (n1) (n0) (v0) (Go.IntKind.i64.wrap (v3 + (1 : Int))))
  f67_eq (n : Nat) (a0 : UInt8) : f67 (n + 1) a0 =
  (sel (Decidable.decide ((↑a0.toNat : Int) ≥ (↑(UInt8.toNat (48 : UInt8)) : Int)))
   (p67_2050 (n) (n) (a0) (Decidable.decide ((↑a0.toNat : Int) ≤ (↑(UInt8.toNat (57 : UInt8)) : Int))))
   (p67_2050 (n) (n) (a0) (Bool.false)))
  p67_2050_eq (j : Nat) (n0 : Nat) (v0 : UInt8) (v3 : Bool) : p67_2050 (j + 1) n0 v0 v3 =
  (sel (v3)
   (some (Go.IntKind.i64.wrap (↑(UInt8.ofNat (Go.IntKind.u8.wrap ((↑v0.toNat : Int) - (↑(UInt8.toNat (48 : UInt8)) : Int))).toNat).toNat : Int), ()))
   (sel (Decidable.decide ((↑v0.toNat : Int) ≥ (↑(UInt8.toNat (97 : UInt8)) : Int)))
    (p67_2052 (j) (n0) (j) (v0) (Decidable.decide ((↑v0.toNat : Int) ≤ (↑(UInt8.toNat (102 : UInt8)) : Int))))
    (p67_2052 (j) (n0) (j) (v0) (Bool.false))))
  p67_2052_eq (j : Nat) (n0 : Nat) (n1 : Nat) (v0 : UInt8) (v13 : Bool) : p67_2052 (j + 1) n0 n1 v0 v13 =
  (sel (v13)
   (some (Go.IntKind.i64.wrap (Go.IntKind.i64.wrap (↑(UInt8.ofNat (Go.IntKind.u8.wrap ((↑v0.toNat : Int) - (↑(UInt8.toNat (97 : UInt8)) : Int))).toNat).toNat : Int) + (10 : Int)), ()))
   (p67_5 (n0) (n0)))
  p67_5_eq (j : Nat) (n0 : Nat) : p67_5 (j + 1) n0 =
  (some ((16 : Int), ()))
  f70_eq (n : Nat) (a0 : UInt8) : f70 (n + 1) a0 =
  (sel ((↑(UInt8.toNat (16 : UInt8)) : Int) != (0 : Int))
   (sel ((↑(UInt8.toNat (16 : UInt8)) : Int) != (0 : Int))
    (sel (Decidable.decide ((0 : Int) ≤ (↑(UInt8.ofNat (Go.IntKind.u8.wrap ((↑(UInt8.ofNat (Go.IntKind.u8.wrap ((↑a0.toNat : Int).tdiv (↑(UInt8.toNat (16 : UInt8)) : Int))).toNat).toNat : Int) + (↑(UInt8.toNat (1 : UInt8)) : Int))).toNat).toNat : Int)))
     (sel (Decidable.decide ((↑(UInt8.ofNat (Go.IntKind.u8.wrap ((↑(UInt8.ofNat (Go.IntKind.u8.wrap ((↑a0.toNat : Int).tdiv (↑(UInt8.toNat (16 : UInt8)) : Int))).toNat).toNat : Int) + (↑(UInt8.toNat (1 : UInt8)) : Int))).toNat).toNat : Int) ≤ (↑[(48 : UInt8), (49 : UInt8), (50 : UInt8), (51 : UInt8), (52 : UInt8), (53 : UInt8), (54 : UInt8), (55 : UInt8), (56 : UInt8), (57 : UInt8), (97 : UInt8), (98 : UInt8), (99 : UInt8), (100 : UInt8), (101 : UInt8), (102 : UInt8)].length : Int)))
      (sel (Decidable.decide ((0 : Int) ≤ (↑(UInt8.ofNat (Go.IntKind.u8.wrap ((↑a0.toNat : Int).tdiv (↑(UInt8.toNat (16 : UInt8)) : Int))).toNat).toNat : Int)))
       (sel (Decidable.decide ((↑(UInt8.ofNat (Go.IntKind.u8.wrap ((↑a0.toNat : Int).tdiv (↑(UInt8.toNat (16 : UInt8)) : Int))).toNat).toNat : Int) ≤ (↑(UInt8.ofNat (Go.IntKind.u8.wrap ((↑(UInt8.ofNat (Go.IntKind.u8.wrap ((↑a0.toNat : Int).tdiv (↑(UInt8.toNat (16 : UInt8)) : Int))).toNat).toNat : Int) + (↑(UInt8.toNat (1 : UInt8)) : Int))).toNat).toNat : Int)))
        (sel (Decidable.decide ([(92 : UInt8), (120 : UInt8)].length + (Lk.ext [(48 : UInt8), (49 : UInt8), (50 : UInt8), (51 : UInt8), (52 : UInt8), (53 : UInt8), (54 : UInt8), (55 : UInt8), (56 : UInt8), (57 : UInt8), (97 : UInt8), (98 : UInt8), (99 : UInt8), (100 : UInt8), (101 : UInt8), (102 : UInt8)] (↑(UInt8.ofNat (Go.IntKind.u8.wrap ((↑a0.toNat : Int).tdiv (↑(UInt8.toNat (16 : UInt8)) : Int))).toNat).toNat : Int) (↑(UInt8.ofNat (Go.IntKind.u8.wrap ((↑(UInt8.ofNat (Go.IntKind.u8.wrap ((↑a0.toNat : Int).tdiv (↑(UInt8.toNat (16 : UInt8)) : Int))).toNat).toNat : Int) + (↑(UInt8.toNat (1 : UInt8)) : Int))).toNat).toNat : Int)).length ≤ Lk.big))
         (sel ((↑(UInt8.toNat (16 : UInt8)) : Int) != (0 : Int))
          (sel ((↑(UInt8.toNat (16 : UInt8)) : Int) != (0 : Int))
           (sel (Decidable.decide ((0 : Int) ≤ (↑(UInt8.ofNat (Go.IntKind.u8.wrap ((↑(UInt8.ofNat ((↑a0.toNat : Int).tmod (↑(UInt8.toNat (16 : UInt8)) : Int)).toNat).toNat : Int) + (↑(UInt8.toNat (1 : UInt8)) : Int))).toNat).toNat : Int)))
            (sel (Decidable.decide ((↑(UInt8.ofNat (Go.IntKind.u8.wrap ((↑(UInt8.ofNat ((↑a0.toNat : Int).tmod (↑(UInt8.toNat (16 : UInt8)) : Int)).toNat).toNat : Int) + (↑(UInt8.toNat (1 : UInt8)) : Int))).toNat).toNat : Int) ≤ (↑[(48 : UInt8), (49 : UInt8), (50 : UInt8), (51 : UInt8), (52 : UInt8), (53 : UInt8), (54 : UInt8), (55 : UInt8), (56 : UInt8), (57 : UInt8), (97 : UInt8), (98 : UInt8), (99 : UInt8), (100 : UInt8), (101 : UInt8), (102 : UInt8)].length : Int)))
             (sel (Decidable.decide ((0 : Int) ≤ (↑(UInt8.ofNat ((↑a0.toNat : Int).tmod (↑(UInt8.toNat (16 : UInt8)) : Int)).toNat).toNat : Int)))
              (sel (Decidable.decide ((↑(UInt8.ofNat ((↑a0.toNat : Int).tmod (↑(UInt8.toNat (16 : UInt8)) : Int)).toNat).toNat : Int) ≤ (↑(UInt8.ofNat (Go.IntKind.u8.wrap ((↑(UInt8.ofNat ((↑a0.toNat : Int).tmod (↑(UInt8.toNat (16 : UInt8)) : Int)).toNat).toNat : Int) + (↑(UInt8.toNat (1 : UInt8)) : Int))).toNat).toNat : Int)))
               (sel (Decidable.decide (([(92 : UInt8), (120 : UInt8)] ++ Lk.ext [(48 : UInt8), (49 : UInt8), (50 : UInt8), (51 : UInt8), (52 : UInt8), (53 : UInt8), (54 : UInt8), (55 : UInt8), (56 : UInt8), (57 : UInt8), (97 : UInt8), (98 : UInt8), (99 : UInt8), (100 : UInt8), (101 : UInt8), (102 : UInt8)] (↑(UInt8.ofNat (Go.IntKind.u8.wrap ((↑a0.toNat : Int).tdiv (↑(UInt8.toNat (16 : UInt8)) : Int))).toNat).toNat : Int) (↑(UInt8.ofNat (Go.IntKind.u8.wrap ((↑(UInt8.ofNat (Go.IntKind.u8.wrap ((↑a0.toNat : Int).tdiv (↑(UInt8.toNat (16 : UInt8)) : Int))).toNat).toNat : Int) + (↑(UInt8.toNat (1 : UInt8)) : Int))).toNat).toNat : Int)).length + (Lk.ext [(48 : UInt8), (49 : UInt8), (50 : UInt8), (51 : UInt8), (52 : UInt8), (53 : UInt8), (54 : UInt8), (55 : UInt8), (56 : UInt8), (57 : UInt8), (97 : UInt8), (98 : UInt8), (99 : UInt8), (100 : UInt8), (101 : UInt8), (102 : UInt8)] (↑(UInt8.ofNat ((↑a0.toNat : Int).tmod (↑(UInt8.toNat (16 : UInt8)) : Int)).toNat).toNat : Int) (↑(UInt8.ofNat (Go.IntKind.u8.wrap ((↑(UInt8.ofNat ((↑a0.toNat : Int).tmod (↑(UInt8.toNat (16 : UInt8)) : Int)).toNat).toNat : Int) + (↑(UInt8.toNat (1 : UInt8)) : Int))).toNat).toNat : Int)).length ≤ Lk.big))
                (some ([(92 : UInt8), (120 : UInt8)] ++ Lk.ext [(48 : UInt8), (49 : UInt8), (50 : UInt8), (51 : UInt8), (52 : UInt8), (53 : UInt8), (54 : UInt8), (55 : UInt8), (56 : UInt8), (57 : UInt8), (97 : UInt8), (98 : UInt8), (99 : UInt8), (100 : UInt8), (101 : UInt8), (102 : UInt8)] (↑(UInt8.ofNat (Go.IntKind.u8.wrap ((↑a0.toNat : Int).tdiv (↑(UInt8.toNat (16 : UInt8)) : Int))).toNat).toNat : Int) (↑(UInt8.ofNat (Go.IntKind.u8.wrap ((↑(UInt8.ofNat (Go.IntKind.u8.wrap ((↑a0.toNat : Int).tdiv (↑(UInt8.toNat (16 : UInt8)) : Int))).toNat).toNat : Int) + (↑(UInt8.toNat (1 : UInt8)) : Int))).toNat).toNat : Int) ++ Lk.ext [(48 : UInt8), (49 : UInt8), (50 : UInt8), (51 : UInt8), (52 : UInt8), (53 : UInt8), (54 : UInt8), (55 : UInt8), (56 : UInt8), (57 : UInt8), (97 : UInt8), (98 : UInt8), (99 : UInt8), (100 : UInt8), (101 : UInt8), (102 : UInt8)] (↑(UInt8.ofNat ((↑a0.toNat : Int).tmod (↑(UInt8.toNat (16 : UInt8)) : Int)).toNat).toNat : Int) (↑(UInt8.ofNat (Go.IntKind.u8.wrap ((↑(UInt8.ofNat ((↑a0.toNat : Int).tmod (↑(UInt8.toNat (16 : UInt8)) : Int)).toNat).toNat : Int) + (↑(UInt8.toNat (1 : UInt8)) : Int))).toNat).toNat : Int), ()))
                none)
               none)
              none)
             none)
            none)
           none)
          none)
         none)
        none)
       none)
      none)
     none)
    none)
   none)
  f3_eq (n : Nat) (a0 : List UInt8) (a1 : List UInt8) : f3 (n + 1) a0 a1 =
  (obind (f11 n (a1)) fun r37 =>
   (obind (f12 n (a1)) fun r108 =>
    (obind (f13 n (a0)) fun r179 =>
     (obind (f14 n (a0)) fun r194 =>
      (sel (r179.fst == r194.fst)
       (sel (r37.fst == r108.fst)
        (sel (r37.snd.fst == r108.snd.fst)
         (sel (r37.snd.snd.fst == r108.snd.snd.fst)
          (obind (f15 n ) fun r381 =>
           (some (r381.fst, ())))
          (some (Bool.false, ())))
         (some (Bool.false, ())))
        (some (Bool.false, ())))
       (some (Bool.false, ())))))))
  f4_eq (n : Nat) (a0 : List UInt8) (a1 : List UInt8) : f4 (n + 1) a0 a1 =
  (obind (f16 n (a1)) fun r37 =>
   (obind (f17 n (a1)) fun r108 =>
    (obind (f18 n (a0)) fun r179 =>
     (obind (f19 n (a0)) fun r194 =>
      (sel (r179.fst == r194.fst)
       (sel (r37.fst == r108.fst)
        (sel (r37.snd.fst == r108.snd.fst)
         (sel (r37.snd.snd.fst == r108.snd.snd.fst)
          (obind (f15 n ) fun r381 =>
           (some (r381.fst, ())))
          (some (Bool.false, ())))
         (some (Bool.false, ())))
        (some (Bool.false, ())))
       (some (Bool.false, ())))))))
end Nq

namespace Nq
open Go Lk NqG
variable (X : FnsU)

theorem f71_ok (n : Nat) (c : UInt8) : X.f71 (n + 4) c = some (bareB c, ()) := by
  rw [X.f71_eq]
  simp only [X.p71_2050_eq, X.p71_2051_eq, X.p71_2055_eq, X.p71_8_eq]
  revert c
  apply forall_u8
  decide +kernel

theorem f47_ok (b : List UInt8) (hlen : b.length ≤ 1073741824) (j : Nat) (hj : b.length + 8 ≤ j) : X.f47 j b = some (oddS b, ()) := by
  obtain ⟨j, rfl⟩ : ∃ q, j = q + 1 := ⟨j - 1, by omega⟩
  rw [X.f47_eq]
  have go : ∀ (N i jj n0 : Nat), b.length ≤ i + N → i ≤ b.length → N + 5 ≤ jj → X.p47_2 jj n0 b (b.length : Int) (i : Int) = some (oddF b N i, ()) := by
    intro N
    induction N with
    | zero =>
      intro i jj n0 h hi hjj
      obtain ⟨jj, rfl⟩ : ∃ q, jj = q + 1 := ⟨jj - 1, by omega⟩
      rw [X.p47_2_eq, sel_dec, if_neg (by omega)]
      rfl
    | succ N ih =>
      intro i jj n0 h hi hjj
      obtain ⟨jj, rfl⟩ : ∃ q, jj = q + 5 := ⟨jj - 5, by omega⟩
      rw [X.p47_2_eq]
      simp only [sel_dec]
      by_cases hlt : i < b.length
      · have w1 : IntKind.i64.wrap ((i : Int) + 1) = ((i + 1 : Nat) : Int) := by rw [wrap64 (by omega) (by omega)]; omega
        rw [if_pos (by omega), if_pos (by omega), if_pos (by omega)]
        simp only [Int.toNat_natCast, f71_ok X, ob_some, w1, oddF, blt_t hlt, cond_true]
        cases bareB (b.getD i 0)
        · rfl
        · simp only [Bool.not_true, sel_f, cond_true]
          exact ih (i + 1) (jj + 4) n0 (by omega) (by omega) (by omega)
      · rw [if_neg (by omega)]
        simp only [oddF, blt_f hlt, cond_false]
  exact go b.length 0 j j (by omega) (by omega) (by omega)

theorem f64_ok (n : Nat) (b : List UInt8) (c : UInt8) : X.f64 (n + 1) b [c] = some (Nat.blt 0 b.length && b.getD 0 0 == c, ()) := by
  rw [X.f64_eq]
  simp only [sel_dec]
  cases b with
  | nil => rfl
  | cons a l =>
    rw [if_pos (by simp; omega), if_pos (by simp), if_pos (by simp; omega)]
    have : ext (a :: l) (0 : Int) (([c] : List UInt8).length : Int) = [a] := by simp [ext, win]
    rw [this]
    have h2 : Nat.blt 0 (a :: l).length = true := blt_t (by simp)
    rw [h2]
    simp [List.cons_beq_cons]

theorem f35_ok (n : Nat) (b : List UInt8) (c : UInt8) : X.f35 (n + 2) b [c] = some (Nat.blt 0 b.length && b.getD 0 0 == c, ()) := by
  rw [X.f35_eq, f64_ok X]
  rfl

theorem idx_hex : ∀ c : UInt8, idx [48, 49, 50, 51, 52, 53, 54, 55, 56, 57, 97, 98, 99, 100, 101, 102] c = if dg c < 16 then (dg c : Int) else -1 := by
  apply forall_u8
  decide +kernel

theorem f65_ok (n : Nat) (b : List UInt8) (i : Nat) : X.f65 (n + 1) b (i : Int) = some (if dgAt b i < 16 then (dgAt b i : Int) else -1, ()) := by
  rw [X.f65_eq]
  simp only [sel_dec]
  unfold dgAt
  by_cases h : i < b.length
  · rw [if_neg (by omega), if_pos (by omega), if_pos (by omega), X.f83_eq]
    simp only [ob_some, Int.toNat_natCast, idx_hex, blt_t h, cond_true]
  · rw [if_pos (by omega), blt_f h]
    rfl

theorem or_hex : ∀ (h l : Fin 16), UInt8.ofNat (IntKind.u8.wrap (ibits .or .i64 (IntKind.i64.wrap ((h.val : Int) * (2 : Int) ^ Min.min (Int.toNat (4 : Int)) IntKind.i64.bits)) (l.val : Int))).toNat = UInt8.ofNat (16 * h.val + l.val) := by
  decide +kernel

theorem f36_ok (n : Nat) (b : List UInt8) (hlen : b.length ≤ 1073741824) (i : Nat) (hi : i < b.length) : X.f36 (n + 8) b (i : Int) = some ((escS b i).1, ((escS b i).2 : Int), ()) := by
  have w1 : IntKind.i64.wrap ((i : Int) + 1) = ((i + 1 : Nat) : Int) := by rw [wrap64 (by omega) (by omega)]; omega
  have w2 : IntKind.i64.wrap ((i : Int) + 2) = ((i + 2 : Nat) : Int) := by rw [wrap64 (by omega) (by omega)]; omega
  have w3 : IntKind.i64.wrap ((i : Int) + 3) = ((i + 3 : Nat) : Int) := by rw [wrap64 (by omega) (by omega)]; omega
  rw [X.f36_eq]
  simp only [sel_dec, w1]
  unfold escS
  by_cases h : i + 1 < b.length
  · have h0 : (0 : Int) ≤ ((i + 1 : Nat) : Int) := by omega
    have hlt : ((i + 1 : Nat) : Int) < (b.length : Int) := by omega
    rw [if_neg (by omega), if_pos h0, if_pos hlt, blt_t h]
    simp only [Int.toNat_natCast, b_eq, cond_true, X.p36_2060_eq, sel_dec, w1, w2, w3, if_pos h0, if_pos hlt, f65_ok X, ob_some, X.p36_17_eq]
    generalize (b.getD (i + 1) 0) = c
    cases h110 : (c == 110)
    · cases h116 : (c == 116)
      · cases h115 : (c == 115)
        · cases h34 : (c == 34)
          · cases h92 : (c == 92)
            · simp only [sel_f, cond_false, Bool.or_false]
              cases h120 : (c == 120)
              · rfl
              · simp only [sel_t, cond_true]
                by_cases d1 : dgAt b (i + 2) < 16
                · by_cases d2 : dgAt b (i + 3) < 16
                  · rw [if_pos d1, if_pos d2, if_pos (by omega), blt_t d1, blt_t d2, X.p36_2064_eq]
                    have e : decide ((dgAt b (i + 3) : Int) ≥ 0) = true := decide_eq_true (by omega)
                    rw [e]
                    have := or_hex ⟨_, d1⟩ ⟨_, d2⟩
                    simp only at this
                    simp only [sel_t, sel_dec, this]
                    rfl
                  · rw [if_pos d1, if_neg d2, if_pos (by omega), blt_f d2, Bool.and_false, X.p36_2064_eq]
                    simp only [sel_f, show decide ((-1 : Int) ≥ 0) = false from rfl, X.p36_17_eq]
                    rfl
                · rw [if_neg d1, if_neg (by omega), blt_f d1, Bool.false_and, X.p36_2064_eq]
                  simp only [sel_f, X.p36_17_eq]
                  rfl
            · simp only [sel_f, sel_t, cond_false, Bool.or_true, cond_true]; rfl
          · simp only [sel_f, sel_t, cond_false, Bool.true_or, cond_true]; rfl
        · rfl
      · rfl
    · rfl
  · rw [if_pos (by omega), blt_f h]
    rfl
theorem blt_dec (a b : Nat) : Nat.blt a b = decide (a < b) := by
  rw [Bool.eq_iff_iff]; simp [Nat.blt_eq]

theorem self_eq (r : Nat) : self r = decide (((32 : Int) < (r : Int) ∧ (r : Int) < 127 ∧ (r : Int) ≠ 34 ∧ (r : Int) ≠ 92) ∨ (160 : Int) < (r : Int)) := by
  unfold self
  rw [Bool.eq_iff_iff]
  simp only [blt_dec, Bool.or_eq_true, Bool.and_eq_true, decide_eq_true_eq, Bool.not_eq_true', beq_eq_false_iff_ne]
  omega

theorem f38_ok (n r : Nat) : X.f38 (n + 1) (r : Int) = some (self r, ()) := by
  rw [X.f38_eq, self_eq]
  have en34 : ((r : Int) != 34) = decide ((r : Int) ≠ 34) := by rw [Bool.eq_iff_iff]; simp
  have en92 : ((r : Int) != 92) = decide ((r : Int) ≠ 92) := by rw [Bool.eq_iff_iff]; simp
  rw [en34, en92]
  simp only [sel_dec]
  by_cases h1 : (r : Int) > 32
  · rw [if_pos h1]
    by_cases h2 : (r : Int) < 127
    · rw [if_pos h2]
      by_cases h3 : (r : Int) ≠ 34
      · rw [if_pos h3]
        by_cases h4 : (r : Int) ≠ 92
        · rw [if_pos h4, decide_eq_true (Or.inl ⟨h1, h2, h3, h4⟩)]
        · rw [if_neg h4, decide_eq_false (by omega), decide_eq_false (by omega)]
      · rw [if_neg h3, decide_eq_false (by omega), decide_eq_false (by omega)]
    · rw [if_neg h2]
      congr 2
      apply decide_eq_decide.2; omega
  · rw [if_neg h1]
    congr 2
    apply decide_eq_decide.2; omega

theorem e37_at (b : List UInt8) (i : Nat) (hi : i < b.length) : e37 (ext b (i : Int) (b.length : Int)) = ((rn b i : Int), (sz b i : Int)) := by
  rw [ext_drop]
  unfold e37
  have : (b.drop i).isEmpty = false := by
    cases h : b.drop i with
    | nil => have := congrArg List.length h; simp at this; omega
    | cons _ _ => rfl
  rw [this, decode_drop]
  rfl

/-- names.Unquote, from a place on. -/
theorem p11_ok (b : List UInt8) (hlen : b.length ≤ 1073741824) : ∀ (N i j n0 : Nat) (acc : List UInt8), b.length ≤ i + N → i ≤ b.length → acc.length ≤ i → N + 20 ≤ j → 4 ≤ n0 →
    X.p11_5 j n0 b (i : Int) acc = some (unqR b N i acc) := by
  intro N
  induction N with
  | zero =>
    intro i j n0 acc h hi hacc hj hn
    obtain ⟨j, rfl⟩ : ∃ q, j = q + 1 := ⟨j - 1, by omega⟩
    obtain ⟨n0, rfl⟩ : ∃ q, n0 = q + 1 := ⟨n0 - 1, by omega⟩
    rw [X.p11_5_eq, sel_dec, if_neg (by omega), X.p11_17_eq]
    have e : ((i : Int) == (b.length : Int)) = true := by rw [beq_iff_eq]; omega
    rw [e]
    rfl
  | succ N ih =>
    intro i j n0 acc h hi hacc hj hn
    obtain ⟨j, rfl⟩ : ∃ q, j = q + 20 := ⟨j - 20, by omega⟩
    obtain ⟨n0, rfl⟩ : ∃ q, n0 = q + 1 := ⟨n0 - 1, by omega⟩
    rw [X.p11_5_eq]
    simp only [sel_dec]
    by_cases hlt : i < b.length
    · have w1 : IntKind.i64.wrap ((i : Int) + 1) = ((i + 1 : Nat) : Int) := by rw [wrap64 (by omega) (by omega)]; omega
      have h0 : (0 : Int) ≤ (i : Int) := by omega
      have hl : (i : Int) < (b.length : Int) := by omega
      have hle : (i : Int) ≤ (b.length : Int) := by omega
      rw [if_pos hl, if_pos h0, if_pos hl]
      simp only [Int.toNat_natCast, b_ne, unqR, blt_t hlt, cond_true]
      cases h34 : (b.getD i 0 == 34)
      · have n34 : (b.getD i 0 != 34) = true := by simp only [bne, h34, Bool.not_false]
        rw [n34]
        simp only [sel_t, cond_false]
        rw [X.p11_6_eq]
        simp only [sel_dec, if_pos h0, if_pos hl, if_pos hle, Int.toNat_natCast, b_eq]
        cases h92 : (b.getD i 0 == 92)
        · simp only [sel_f, cond_false, X.f37_eq, e37_at b i hlt, ob_some, f38_ok X]
          have hs := sz_bd b i
          have hle2 := decode_le b i hlt
          have w2 : IntKind.i64.wrap ((i : Int) + (sz b i : Int)) = ((i + sz b i : Nat) : Int) := by rw [wrap64 (by omega) (by omega)]; omega
          have q1 : (((rn b i : Nat) : Int) == (65533 : Int)) = (rn b i == 65533) := by rw [Bool.eq_iff_iff]; simp only [beq_iff_eq]; omega
          have q2 : (((sz b i : Nat) : Int) == (1 : Int)) = (sz b i == 1) := by rw [Bool.eq_iff_iff]; simp only [beq_iff_eq]; omega
          have go : X.p11_15 (j + 17) (n0 + 1) (j + 19) (j + 18) b (i : Int) acc (sz b i : Int) = some (unqR b N (i + sz b i) (acc ++ ext b (i : Int) ((i + sz b i : Nat) : Int))) := by
            have el := ext_len b i (i + sz b i) hle2
            rw [X.p11_15_eq]
            simp only [sel_dec, w2]
            rw [if_pos (by omega), if_pos (by omega), if_pos (by omega), if_pos (by omega), if_pos (by rw [el]; omega)]
            exact ih (i + sz b i) (j + 19) (n0 + 1) _ (by omega) (by omega) (by rw [List.length_append, el]; omega) (by omega) (by omega)
          have go2 : ∀ q : Bool, X.p11_2062 (j + 18) (n0 + 1) (j + 19) (j + 18) b (i : Int) acc (sz b i : Int) q = some (bif q then bad i else unqR b N (i + sz b i) (acc ++ ext b (i : Int) ((i + sz b i : Nat) : Int))) := by
            intro q
            have go' : X.p11_15 (j + 18) (n0 + 1) (j + 19) (j + 18) b (i : Int) acc (sz b i : Int) = some (unqR b N (i + sz b i) (acc ++ ext b (i : Int) ((i + sz b i : Nat) : Int))) := by
              have el := ext_len b i (i + sz b i) hle2
              rw [X.p11_15_eq]
              simp only [sel_dec, w2]
              rw [if_pos (by omega), if_pos (by omega), if_pos (by omega), if_pos (by omega), if_pos (by rw [el]; omega)]
              exact ih (i + sz b i) (j + 19) (n0 + 1) _ (by omega) (by omega) (by rw [List.length_append, el]; omega) (by omega) (by omega)
            rw [X.p11_2062_eq]
            cases q
            · simp only [sel_f, cond_false]; exact go'
            · rfl
          rw [q1, q2]
          simp only [go2]
          cases (rn b i == 65533) <;> cases (sz b i == 1) <;> cases (self (rn b i)) <;> rfl
        · simp only [sel_t, cond_true, f36_ok X _ b hlen i hlt, ob_some]
          have hle2 := escS_le b i
          have q : ((((escS b i).2 : Nat) : Int) == (0 : Int)) = ((escS b i).2 == 0) := by rw [Bool.eq_iff_iff]; simp only [beq_iff_eq]; omega
          rw [q]
          cases hz : ((escS b i).2 == 0)
          · have hz' : (escS b i).2 ≠ 0 := by simpa using hz
            have w2 : IntKind.i64.wrap ((i : Int) + ((escS b i).2 : Int)) = ((i + (escS b i).2 : Nat) : Int) := by rw [wrap64 (by omega) (by omega)]; omega
            simp only [sel_f, cond_false, sel_dec, w2]
            rw [if_pos (by simp; omega)]
            exact ih (i + (escS b i).2) (j + 19) (n0 + 1) _ (by omega) (by omega) (by simp; omega) (by omega) (by omega)
          · rfl
      · have n34 : (b.getD i 0 != 34) = false := by simp only [bne, h34, Bool.not_true]
        rw [n34]
        simp only [sel_f, cond_true]
        rw [X.p11_17_eq]
        have e : ((i : Int) == (b.length : Int)) = false := by rw [beq_eq_false_iff_ne]; omega
        rw [e]
        simp only [sel_f, sel_dec, w1]
        by_cases h1 : i + 1 < b.length
        · rw [if_pos (by omega), blt_t h1]; rfl
        · have hb : Nat.ble acc.length 1073741824 = true := by rw [Nat.ble_eq]; omega
          rw [if_neg (by omega), blt_f h1, X.f13_eq, hb]
          simp only [cond_true, cond_false, ob_some]
          cases (quote acc == b) <;> rfl
    · rw [if_neg (by omega), X.p11_17_eq]
      have e : ((i : Int) == (b.length : Int)) = true := by rw [beq_iff_eq]; omega
      rw [e]
      simp only [unqR, blt_f hlt, cond_false, sel_t]
      rfl

theorem f11_ok (b : List UInt8) (hlen : b.length ≤ 1073741824) (j : Nat) (hj : b.length + 25 ≤ j) : X.f11 j b = some (unquote b) := by
  obtain ⟨j, rfl⟩ : ∃ q, j = q + 3 := ⟨j - 3, by omega⟩
  rw [X.f11_eq, f35_ok X]
  simp only [ob_some]
  unfold unquote
  cases h : (Nat.blt 0 b.length && b.getD 0 0 == 34)
  · rfl
  · simp only [Bool.not_true, sel_f, cond_true]
    have hl : 0 < b.length := by
      rw [Bool.and_eq_true] at h
      simpa [Nat.blt_eq] using h.1
    have := p11_ok X b hlen b.length 1 (j + 2) (j + 2) [] (by omega) (by omega) (by simp) (by omega) (by omega)
    exact this

theorem f16_ok (b : List UInt8) (hlen : b.length ≤ 1073741824) (j : Nat) (hj : b.length + 30 ≤ j) : X.f16 j b = some (unword b) := by
  obtain ⟨j, rfl⟩ : ∃ q, j = q + 4 := ⟨j - 4, by omega⟩
  rw [X.f16_eq, f35_ok X]
  simp only [ob_some]
  unfold unword
  cases h : (Nat.blt 0 b.length && b.getD 0 0 == 34)
  · simp only [sel_f, cond_false, f47_ok X b hlen (j + 3) (by omega), ob_some, X.p16_2053_eq, X.p16_6_eq]
    have he : (b == []) = b.isEmpty := by cases b <;> rfl
    rw [he]
    cases b.isEmpty <;> cases (decide (oddS b ≥ 0)) <;> rfl
  · simp only [sel_t, cond_true, f11_ok X b hlen (j + 3) (by omega), ob_some]

theorem f18_ok (b : List UInt8) (hlen : b.length ≤ 1073741824) (j : Nat) (hj : b.length + 30 ≤ j) : X.f18 j b = some (word b, ()) := by
  obtain ⟨j, rfl⟩ : ∃ q, j = q + 4 := ⟨j - 4, by omega⟩
  have hb : Nat.ble b.length 1073741824 = true := by rw [Nat.ble_eq]; exact hlen
  rw [X.f18_eq]
  unfold word
  have he : (b == []) = b.isEmpty := by cases b <;> rfl
  rw [he]
  simp only [f47_ok X b hlen (j + 3) (by omega), ob_some, X.p18_2050_eq, X.p18_3_eq, X.f13_eq, hb, cond_true]
  cases b.isEmpty <;> cases (decide (oddS b < 0)) <;> rfl
end Nq

namespace Nq
open Go Lk NqG

section
variable (X : FnsR) (b : List UInt8) (hlen : b.length ≤ 1073741824) (i : Nat) (hi : i < b.length)

include hlen hi in
theorem p40_14_step (j n0 n1 n2 : Nat) (n k r least : Nat) (hk : k < n) (hn : n ≤ 4) (hb : i + k < b.length) (hr : r < 67108864) :
    X.p40_14 (j + 1) n0 n1 n2 b (i : Int) (n : Int) (r : Int) (least : Int) (k : Int) =
      if cont b (i + k) then X.p40_14 j n0 n1 n2 b (i : Int) (n : Int) ((r * 64 + byt b (i + k) % 64 : Nat) : Int) (least : Int) ((k + 1 : Nat) : Int) else some (0, 0, ()) := by
  have w1 : IntKind.i64.wrap ((i : Int) + (k : Int)) = ((i + k : Nat) : Int) := by rw [wrap64 (by omega) (by omega)]; omega
  have w2 : IntKind.i64.wrap ((k : Int) + 1) = ((k + 1 : Nat) : Int) := by rw [wrap64 (by omega) (by omega)]; omega
  have hlt := byt_lt b (i + k)
  have e1 : ((UInt8.ofNat (ibits .and .u8 (((b.getD (i + k) 0).toNat : Nat) : Int) ((UInt8.toNat 192 : Nat) : Int)).toNat).toNat) = byt b (i + k) &&& 192 := by
    have h : byt b (i + k) &&& 192 < 256 := Nat.lt_of_le_of_lt Nat.and_le_left hlt
    show (UInt8.ofNat (ibits .and .u8 ((byt b (i + k) : Nat) : Int) ((192 : Nat) : Int)).toNat).toNat = _
    rw [and_u8 hlt (by decide), Int.toNat_natCast, ofNat_toNat h]
  have e2 : ((UInt8.ofNat (ibits .and .u8 (((b.getD (i + k) 0).toNat : Nat) : Int) ((UInt8.toNat 63 : Nat) : Int)).toNat).toNat) = byt b (i + k) % 64 := by
    show (UInt8.ofNat (ibits .and .u8 ((byt b (i + k) : Nat) : Int) ((63 : Nat) : Int)).toNat).toNat = _
    rw [and_u8 hlt (by decide), Int.toNat_natCast, show (63 : Nat) = 2 ^ 6 - 1 from rfl, and_mask, ofNat_toNat (by omega)]
  have h6 : byt b (i + k) % 64 < 64 := Nat.mod_lt _ (by decide)
  rw [X.p40_14_eq]
  simp only [sel_dec, w1, w2, Int.toNat_natCast, e1, e2]
  rw [if_pos (by omega), if_pos (by omega), if_pos (by omega), if_pos (by omega), if_pos (by omega), if_pos (by omega), shl6 hr, wrap_u32 (by omega), or_u32 (by omega) (by omega), or_low h6]
  have hcc : cont b (i + k) = (byt b (i + k) / 64 == 2) := by simp [cont, cont.lt', hb]
  rw [hcc]
  have h192 : (byt b (i + k) &&& 192 = 128) ↔ byt b (i + k) / 64 = 2 := and192 (b.getD (i + k) 0)
  by_cases h2 : byt b (i + k) / 64 = 2
  · have h3 := h192.2 h2
    rw [h3, h2]
    simp [sel_f]
  · have h3 := mt h192.1 h2
    have e : ((((byt b (i + k) &&& 192 : Nat) : Int) != ((UInt8.toNat 128 : Nat) : Int))) = true := by
      rw [bne_iff_ne]
      intro h
      exact h3 (Int.ofNat.inj h)
    rw [e]
    simp [h2, sel_t]

theorem p40_14_fin (j n0 n1 n2 : Nat) (n r least : Nat) (hj : 2 ≤ n2) :
    X.p40_14 (j + 1) n0 n1 n2 b (i : Int) (n : Int) (r : Int) (least : Int) (n : Int) = some (((fin r n least).1 : Int), ((fin r n least).2 : Int), ()) := by
  obtain ⟨n2, rfl⟩ : ∃ k, n2 = k + 2 := ⟨n2 - 2, by omega⟩
  rw [X.p40_14_eq]
  simp only [sel_dec]
  rw [if_neg (by omega)]
  simp only [X.p40_2068_eq, X.p40_21_eq, sel_t, sel_f, sel_dec]
  unfold fin
  by_cases h1 : r < least
  · rw [if_pos (by omega), if_pos (Or.inl h1)]; rfl
  · rw [if_neg (by omega)]
    by_cases h2 : r > 1114111
    · rw [if_pos (by omega), if_pos (Or.inr (Or.inl h2))]; rfl
    · rw [if_neg (by omega)]
      by_cases h3 : r ≥ 55296
      · rw [if_pos (by omega)]
        by_cases h4 : r ≤ 57343
        · rw [if_pos (by omega), if_pos (Or.inr (Or.inr ⟨h3, h4⟩))]; rfl
        · rw [if_neg (by omega), if_neg (by omega)]
      · rw [if_neg (by omega), if_neg (by omega)]

include hlen hi in
theorem p40_11_ok (j n0 : Nat) (n r least : Nat) (hn : n ≤ 4) (hr : r < 256) (hj : 12 ≤ j) :
    X.p40_11 j n0 b (i : Int) (n : Int) (r : Int) (least : Int) = some (if n = 0 then (0, 0, ()) else if n = 1 then (((fin r n least).1 : Int), ((fin r n least).2 : Int), ())
      else if n = 2 then (if cont b (i + 1) then let d := fin (r * 64 + byt b (i + 1) % 64) n least; ((d.1 : Int), (d.2 : Int), ()) else (0, 0, ()))
      else if n = 3 then (if cont b (i + 1) && cont b (i + 2) then let d := fin ((r * 64 + byt b (i + 1) % 64) * 64 + byt b (i + 2) % 64) n least; ((d.1 : Int), (d.2 : Int), ()) else (0, 0, ()))
      else (if cont b (i + 1) && cont b (i + 2) && cont b (i + 3) then let d := fin (((r * 64 + byt b (i + 1) % 64) * 64 + byt b (i + 2) % 64) * 64 + byt b (i + 3) % 64) n least; ((d.1 : Int), (d.2 : Int), ()) else (0, 0, ()))) := by
  obtain ⟨j, rfl⟩ : ∃ k, j = k + 12 := ⟨j - 12, by omega⟩
  have w1 : IntKind.i64.wrap (((b.length : Nat) : Int) - (i : Int)) = ((b.length - i : Nat) : Int) := by rw [wrap64 (by omega) (by omega)]; omega
  have c1 := byt_lt b (i + 1)
  have c2 := byt_lt b (i + 2)
  have c3 := byt_lt b (i + 3)
  rw [X.p40_11_eq]
  simp only [X.p40_2060_eq, sel_dec, w1, sel_t]
  by_cases h0 : n = 0
  · subst h0
    rw [if_pos rfl]
    rfl
  · have e0 : ((n : Int) == 0) = false := by rw [beq_eq_false_iff_ne]; omega
    rw [e0, if_neg h0]
    simp only [sel_f]
    by_cases hs : b.length - i < n
    · rw [if_pos (by omega : (((b.length - i : Nat) : Int) < (n : Int)))]
      have hnc : ∀ k, b.length ≤ i + k → cont b (i + k) = false := by
        intro k hk; simp [cont, cont.lt']; omega
      rw [if_neg (by omega)]
      by_cases h2 : n = 2
      · rw [if_pos h2, hnc 1 (by omega)]; rfl
      · rw [if_neg h2]
        by_cases h3 : n = 3
        · rw [if_pos h3]
          rcases (by omega : b.length ≤ i + 1 ∨ b.length ≤ i + 2) with h | h <;> rw [hnc _ h] <;> simp
        · rw [if_neg h3]
          rcases (by omega : b.length ≤ i + 1 ∨ b.length ≤ i + 2 ∨ b.length ≤ i + 3) with h | h | h <;> rw [hnc _ h] <;> simp
    · rw [if_neg (by omega : ¬ (((b.length - i : Nat) : Int) < (n : Int)))]
      simp only [X.p40_13_eq]
      by_cases h1 : n = 1
      · subst h1
        rw [if_pos rfl]
        exact p40_14_fin X b i _ _ _ _ 1 r least (by omega)
      rw [if_neg h1]
      have s1 := p40_14_step X b hlen i hi (j + 9) n0 (j + 11) (j + 10) n 1 r least (by omega) hn (by omega) (by omega)
      rw [show ((1 : Nat) : Int) = 1 from rfl] at s1
      rw [s1]
      by_cases h2 : n = 2
      · subst h2
        rw [if_pos rfl]
        rw [p40_14_fin X b i _ _ _ _ 2 _ least (by omega)]
        cases cont b (i + 1) <;> rfl
      rw [if_neg h2, p40_14_step X b hlen i hi (j + 8) n0 (j + 11) (j + 10) n 2 _ least (by omega) hn (by omega) (by omega)]
      by_cases h3 : n = 3
      · subst h3
        rw [if_pos rfl]
        rw [p40_14_fin X b i _ _ _ _ 3 _ least (by omega)]
        cases cont b (i + 1) <;> cases cont b (i + 2) <;> rfl
      · have h4 : n = 4 := by omega
        subst h4
        rw [if_neg h3, p40_14_step X b hlen i hi (j + 7) n0 (j + 11) (j + 10) 4 3 _ least (by omega) hn (by omega) (by omega), p40_14_fin X b i _ _ _ _ 4 _ least (by omega)]
        cases cont b (i + 1) <;> cases cont b (i + 2) <;> cases cont b (i + 3) <;> rfl

include hlen hi in
/-- The reference's rune. -/
theorem f40_ok (j : Nat) (hj : 20 ≤ j) : X.f40 j b (i : Int) = some (((runeR b i).1 : Int), ((runeR b i).2 : Int), ()) := by
  obtain ⟨j, rfl⟩ : ∃ k, j = k + 20 := ⟨j - 20, by omega⟩
  have c0 := byt_lt b i
  rw [rune_eq, X.f40_eq]
  have hb : (b.getD i 0).toNat = byt b i := rfl
  have hw : IntKind.u32.wrap ((byt b i : Nat) : Int) = ((byt b i : Nat) : Int) := wrap_u32 (by omega)
  simp only [Int.toNat_natCast, hb, hw, sel_dec]
  rw [if_pos (by omega), if_pos (by omega)]
  unfold runeB
  simp only
  have m31 : ibits .and .u32 ((byt b i : Nat) : Int) 31 = ((byt b i % 32 : Nat) : Int) := by
    rw [show (31 : Int) = ((31 : Nat) : Int) from rfl, and_u32 (by omega) (by decide), show (31 : Nat) = 2 ^ 5 - 1 from rfl, and_mask]
  have m15 : ibits .and .u32 ((byt b i : Nat) : Int) 15 = ((byt b i % 16 : Nat) : Int) := by
    rw [show (15 : Int) = ((15 : Nat) : Int) from rfl, and_u32 (by omega) (by decide), show (15 : Nat) = 2 ^ 4 - 1 from rfl, and_mask]
  have m7 : ibits .and .u32 ((byt b i : Nat) : Int) 7 = ((byt b i % 8 : Nat) : Int) := by
    rw [show (7 : Int) = ((7 : Nat) : Int) from rfl, and_u32 (by omega) (by decide), show (7 : Nat) = 2 ^ 3 - 1 from rfl, and_mask]
  by_cases h1 : byt b i < 128
  · rw [if_pos (by omega), if_pos h1]; rfl
  rw [if_neg (by omega), if_neg h1]
  have p0 : ∀ j', 12 ≤ j' → X.p40_11 j' (j + 19) b (i : Int) 0 0 0 = some (0, 0, ()) := by
    intro j' hj'
    have := p40_11_ok X b hlen i hi j' (j + 19) 0 0 0 (by omega) (by omega) hj'
    simpa using this
  by_cases h2 : byt b i < 192
  · rw [if_neg (by omega), if_pos h2, X.p40_2054_eq]
    simp only [sel_f, sel_dec]
    rw [if_neg (by omega), X.p40_2056_eq]
    simp only [sel_f, sel_dec]
    rw [if_neg (by omega), X.p40_2058_eq]
    simp only [sel_f]
    exact p0 _ (by omega)
  rw [if_pos (by omega), if_neg h2, X.p40_2054_eq]
  simp only [sel_dec, m31]
  by_cases h3 : byt b i < 224
  · rw [if_pos h3]
    rw [if_pos (by omega : ((byt b i : Nat) : Int) < 224)]
    have := p40_11_ok X b hlen i hi (j + 19) (j + 19) 2 (byt b i % 32) 128 (by omega) (by omega) (by omega)
    rw [show (2 : Int) = ((2 : Nat) : Int) from rfl, show (128 : Int) = ((128 : Nat) : Int) from rfl, this]
    cases cont b (i + 1) <;> rfl
  rw [if_neg h3]
  rw [if_neg (by omega : ¬ ((byt b i : Nat) : Int) < 224)]
  rw [if_pos (by omega), X.p40_2056_eq]
  simp only [sel_dec, m15]
  by_cases h4 : byt b i < 240
  · rw [if_pos h4]
    rw [if_pos (by omega : ((byt b i : Nat) : Int) < 240)]
    have := p40_11_ok X b hlen i hi (j + 19) (j + 19) 3 (byt b i % 16) 2048 (by omega) (by omega) (by omega)
    rw [show (3 : Int) = ((3 : Nat) : Int) from rfl, show (2048 : Int) = ((2048 : Nat) : Int) from rfl, this]
    cases cont b (i + 1) <;> cases cont b (i + 2) <;> rfl
  rw [if_neg h4]
  rw [if_neg (by omega : ¬ ((byt b i : Nat) : Int) < 240)]
  rw [if_pos (by omega), X.p40_2058_eq]
  simp only [sel_dec, m7]
  by_cases h5 : byt b i < 248
  · rw [if_pos h5]
    rw [if_pos (by omega : ((byt b i : Nat) : Int) < 248)]
    have := p40_11_ok X b hlen i hi (j + 19) (j + 19) 4 (byt b i % 8) 65536 (by omega) (by omega) (by omega)
    rw [show (4 : Int) = ((4 : Nat) : Int) from rfl, show (65536 : Int) = ((65536 : Nat) : Int) from rfl, this]
    cases cont b (i + 1) <;> cases cont b (i + 2) <;> cases cont b (i + 3) <;> rfl
  · rw [if_neg h5]
    rw [if_neg (by omega : ¬ ((byt b i : Nat) : Int) < 248)]
    exact p0 _ (by omega)
end
variable (X : FnsR)

theorem rune_at (b : List UInt8) (hlen : b.length ≤ 1073741824) (i : Nat) (hi : i < b.length) (j : Nat) (hj : 20 ≤ j) :
    X.f40 j b (i : Int) = some (bif rn b i == 65533 && sz b i == 1 then (0, 0, ()) else ((rn b i : Int), (sz b i : Int), ())) := by
  rw [f40_ok X b hlen i hi j hj]
  unfold runeR rn sz
  simp only
  cases ((Utf8.decode ⟨b.toArray⟩ i).1 == 65533 && (Utf8.decode ⟨b.toArray⟩ i).2 == 1) <;> rfl

theorem rune_ext (b : List UInt8) (hlen : b.length ≤ 1073741824) (i h : Nat) (hh : h ≤ b.length) (hi : i < h) (h4 : i + 4 ≤ h ∨ h = b.length) (j : Nat) (hj : 20 ≤ j) :
    X.f40 j (ext b (i : Int) (h : Int)) 0 = some (bif rn b i == 65533 && sz b i == 1 then (0, 0, ()) else ((rn b i : Int), (sz b i : Int), ())) := by
  have el := ext_len b i h hh
  have := f40_ok X (ext b (i : Int) (h : Int)) (by omega) 0 (by omega) j hj
  rw [show ((0 : Nat) : Int) = 0 from rfl] at this
  rw [this, runeR_ext b i h hh hi h4]
  unfold runeR rn sz
  simp only
  cases ((Utf8.decode ⟨b.toArray⟩ i).1 == 65533 && (Utf8.decode ⟨b.toArray⟩ i).2 == 1) <;> rfl

theorem f41_ok (n r : Nat) : X.f41 (n + 1) (r : Int) = some (self r, ()) := by
  rw [X.f41_eq, self_eq]
  have en34 : ((r : Int) != 34) = decide ((r : Int) ≠ 34) := by rw [Bool.eq_iff_iff]; simp
  have en92 : ((r : Int) != 92) = decide ((r : Int) ≠ 92) := by rw [Bool.eq_iff_iff]; simp
  rw [en34, en92]
  simp only [sel_dec]
  by_cases h1 : (r : Int) > 32
  · rw [if_pos h1]
    by_cases h3 : (r : Int) ≠ 34
    · rw [if_pos h3]
      by_cases h4 : (r : Int) ≠ 92
      · rw [if_pos h4]
        by_cases h2 : (r : Int) < 127
        · rw [if_pos h2, decide_eq_true (Or.inl ⟨h1, h2, h3, h4⟩)]
        · rw [if_neg h2]
          congr 2
          apply decide_eq_decide.2; omega
      · rw [if_neg h4, decide_eq_false (by omega)]
    · rw [if_neg h3, decide_eq_false (by omega)]
  · rw [if_neg h1, decide_eq_false (by omega)]

theorem f70_ok (n : Nat) (a : UInt8) : X.f70 (n + 1) a = some (esc a, ()) := by
  rw [X.f70_eq]
  revert a
  apply forall_u8
  decide +kernel

theorem f67_ok (n : Nat) (a : UInt8) : X.f67 (n + 4) a = some ((dg a : Int), ()) := by
  rw [X.f67_eq]
  simp only [X.p67_2050_eq, X.p67_2052_eq, X.p67_5_eq]
  revert a
  apply forall_u8
  decide +kernel

theorem p46_16_ok (b : List UInt8) (hlen : b.length ≤ 1073741824) (i m : Nat) (hi : i + m ≤ b.length) (hm : m ≤ 4) : ∀ (N k j n0 n1 : Nat) (acc : List UInt8), k + N = m → N + 2 ≤ j → acc.length ≤ 4 * k →
    X.p46_16 j n0 n1 b (i : Int) (m : Int) acc (k : Int) = some (acc ++ escs (ext b ((i + k : Nat) : Int) ((i + m : Nat) : Int)), (m : Int), ()) := by
  intro N
  induction N with
  | zero =>
    intro k j n0 n1 acc hk hj hacc
    obtain ⟨j, rfl⟩ : ∃ q, j = q + 1 := ⟨j - 1, by omega⟩
    have e : k = m := by omega
    subst e
    rw [X.p46_16_eq]
    simp only [sel_dec]
    rw [if_neg (by omega)]
    have : ext b ((i + k : Nat) : Int) ((i + k : Nat) : Int) = [] := by
      apply List.eq_nil_of_length_eq_zero; rw [ext_len b _ _ hi]; omega
    rw [this]
    simp [escs]
  | succ N ih =>
    intro k j n0 n1 acc hk hj hacc
    obtain ⟨j, rfl⟩ : ∃ q, j = q + 2 := ⟨j - 2, by omega⟩
    have w1 : IntKind.i64.wrap ((i : Int) + (k : Int)) = ((i + k : Nat) : Int) := by rw [wrap64 (by omega) (by omega)]; omega
    have w2 : IntKind.i64.wrap ((k : Int) + 1) = ((k + 1 : Nat) : Int) := by rw [wrap64 (by omega) (by omega)]; omega
    rw [X.p46_16_eq]
    simp only [sel_dec, w1, w2]
    rw [if_pos (by omega), if_pos (by omega), if_pos (by omega), f70_ok X]
    simp only [ob_some, Int.toNat_natCast]
    have hbg : acc.length + (esc (b.getD (i + k) 0)).length ≤ big := by rw [esc_len]; show _ ≤ 9223372036854775807; omega
    rw [if_pos hbg, ih (k + 1) (j + 1) n0 n1 _ (by omega) (by omega) (by simp [esc_len]; omega)]
    have e : ext b ((i + k : Nat) : Int) ((i + m : Nat) : Int) = b.getD (i + k) 0 :: ext b ((i + (k + 1) : Nat) : Int) ((i + m : Nat) : Int) := by
      have hlt : i + k < b.length := by omega
      unfold ext win
      simp only [Int.toNat_natCast]
      rw [List.drop_eq_getElem_cons hlt, show i + m - (i + k) = (i + m - (i + (k + 1))) + 1 by omega, List.take_succ_cons, List.getD_eq_getElem?_getD, List.getElem?_eq_getElem hlt]
      rfl
    rw [e]
    have e2 : escs (b.getD (i + k) 0 :: ext b ((i + (k + 1) : Nat) : Int) ((i + m : Nat) : Int)) = esc (b.getD (i + k) 0) ++ escs (ext b ((i + (k + 1) : Nat) : Int) ((i + m : Nat) : Int)) := rfl
    rw [e2, List.append_assoc]

theorem ext_one (b : List UInt8) (i : Nat) (h : i < b.length) : ext b (i : Int) ((i + 1 : Nat) : Int) = [b.getD i 0] := by
  unfold ext win
  simp only [Int.toNat_natCast]
  rw [show i + 1 - i = 1 by omega, List.drop_eq_getElem_cons h, List.take_succ_cons, List.take_zero, List.getD_eq_getElem?_getD, List.getElem?_eq_getElem h]
  rfl

theorem self_small : self 10 = false ∧ self 9 = false ∧ self 32 = false ∧ self 34 = false ∧ self 92 = false := by decide

theorem f46_ok (b : List UInt8) (hlen : b.length ≤ 1073741824) (i : Nat) (hi : i < b.length) (j : Nat) (hj : 30 ≤ j) : X.f46 j b (i : Int) = some (wri b i, (sz b i : Int), ()) := by
  obtain ⟨j, rfl⟩ : ∃ q, j = q + 30 := ⟨j - 30, by omega⟩
  have hs := sz_bd b i
  have hle := decode_le b i hi
  have w1 : IntKind.i64.wrap ((i : Int) + (sz b i : Int)) = ((i + sz b i : Nat) : Int) := by rw [wrap64 (by omega) (by omega)]; omega
  have w2 : IntKind.i64.wrap ((i : Int) + 1) = ((i + 1 : Nat) : Int) := by rw [wrap64 (by omega) (by omega)]; omega
  have hi0 : (0 : Int) ≤ (i : Int) := by omega
  have hil : (i : Int) < (b.length : Int) := by omega
  rw [X.f46_eq, rune_at X b hlen i hi _ (by omega)]
  simp only [ob_some]
  unfold wri
  cases he : (rn b i == 65533 && sz b i == 1)
  · have hz : (((sz b i : Nat) : Int) == (0 : Int)) = false := by rw [beq_eq_false_iff_ne]; omega
    simp only [cond_false, hz, sel_f, f41_ok X, ob_some, sel_dec, w1]
    have hbq : ∀ k : Nat, (((rn b i : Nat) : Int) == (k : Int)) = (rn b i == k) := by
      intro k; rw [Bool.eq_iff_iff]; simp only [beq_iff_eq]; omega
    have q10 := hbq 10
    have q9 := hbq 9
    have q32 := hbq 32
    have q34 := hbq 34
    have q92 := hbq 92
    simp only [Int.cast_ofNat_Int] at q10 q9 q32 q34 q92
    rw [q10, q9, q32, q34, q92]
    have hsm : ∀ k : Nat, k < 128 → (rn b i == k) = true → sz b i = 1 ∧ byt b i = k := by
      intro k hk h
      have h' := beq_iff_eq.1 h
      have := decode_small b i (by omega)
      exact ⟨this.1, by omega⟩
    have hbyt : b.getD i 0 = UInt8.ofNat (byt b i) := by unfold byt; simp
    obtain ⟨s1, s2, s3, s4, s5⟩ := self_small
    cases e10 : (rn b i == 10)
    · cases e9 : (rn b i == 9)
      · cases e32 : (rn b i == 32)
        · cases e34 : (rn b i == 34)
          · cases e92 : (rn b i == 92)
            · cases es : self (rn b i)
              · simp only [sel_f, cond_false, X.p46_2061_eq, X.p46_14_eq]
                have := p46_16_ok X b hlen i (sz b i) hle hs.2 (sz b i) 0 (j + 28) (j + 29) (j + 28) [] (by omega) (by omega) (by simp)
                simpa using this
              · simp only [sel_t, cond_false, cond_true]
                rw [if_pos (by omega), if_pos (by omega), if_pos (by omega), if_pos (by omega)]
            · have h := hsm 92 (by omega) e92
              rw [beq_iff_eq.1 e92, s5]
              simp only [sel_f, sel_t, cond_false, cond_true, X.p46_2061_eq, sel_dec, w2]
              have hl1 : (ext b (i : Int) ((i + 1 : Nat) : Int)).length = 1 := by rw [ext_len b i (i + 1) (by omega)]; omega
              rw [if_pos (by omega), if_pos (by omega), if_pos (by omega), if_pos (by omega), if_pos (by rw [hl1]; decide), ext_one b i hi, hbyt, h.2, h.1]
              rfl
          · have h := hsm 34 (by omega) e34
            rw [beq_iff_eq.1 e34, s4]
            simp only [sel_f, sel_t, cond_false, cond_true, X.p46_2061_eq, sel_dec, w2]
            have hl1 : (ext b (i : Int) ((i + 1 : Nat) : Int)).length = 1 := by rw [ext_len b i (i + 1) (by omega)]; omega
            rw [if_pos (by omega), if_pos (by omega), if_pos (by omega), if_pos (by omega), if_pos (by rw [hl1]; decide), ext_one b i hi, hbyt, h.2, h.1]
            rfl
        · rw [beq_iff_eq.1 e32, s3, (hsm 32 (by omega) e32).1]; rfl
      · rw [beq_iff_eq.1 e9, s2, (hsm 9 (by omega) e9).1]; rfl
    · rw [beq_iff_eq.1 e10, s1, (hsm 10 (by omega) e10).1]; rfl
  · have hsz : sz b i = 1 := by
      rw [Bool.and_eq_true] at he
      exact beq_iff_eq.1 he.2
    simp only [cond_true, show (((0 : Int) == (0 : Int))) = true from rfl, sel_t, sel_dec, if_pos hi0, if_pos hil, f70_ok X, ob_some, Int.toNat_natCast, hsz]
    rfl

/-- The reference's Quote. -/
theorem f14_ok (b : List UInt8) (hlen : b.length ≤ 67108864) (j : Nat) (hj : b.length + 40 ≤ j) : X.f14 j b = some (quote b, ()) := by
  obtain ⟨j, rfl⟩ : ∃ q, j = q + 1 := ⟨j - 1, by omega⟩
  rw [X.f14_eq]
  have go : ∀ (N i jj n0 : Nat) (acc : List UInt8), b.length ≤ i + N → i ≤ b.length → N + 35 ≤ jj → acc.length ≤ 4 * i + 1 → X.p14_4 jj n0 b acc (i : Int) = some (acc ++ qFrom b N i ++ [34], ()) := by
    intro N
    induction N with
    | zero =>
      intro i jj n0 acc h hi hjj hacc
      obtain ⟨jj, rfl⟩ : ∃ q, jj = q + 1 := ⟨jj - 1, by omega⟩
      rw [X.p14_4_eq]
      simp only [sel_dec]
      rw [if_neg (by omega), if_pos (by simp; omega)]
      simp [qFrom]
    | succ N ih =>
      intro i jj n0 acc h hi hjj hacc
      obtain ⟨jj, rfl⟩ : ∃ q, jj = q + 1 := ⟨jj - 1, by omega⟩
      rw [X.p14_4_eq]
      simp only [sel_dec]
      by_cases hlt : i < b.length
      · have hs := sz_bd b i
        have hle := decode_le b i hlt
        have hw := wri_len b i hlt
        have w1 : IntKind.i64.wrap ((i : Int) + (sz b i : Int)) = ((i + sz b i : Nat) : Int) := by rw [wrap64 (by omega) (by omega)]; omega
        rw [if_pos (by omega), f46_ok X b (by omega) i hlt jj (by omega)]
        simp only [ob_some, w1]
        rw [if_pos (by omega), ih (i + sz b i) jj n0 _ (by omega) (by omega) (by omega) (by rw [List.length_append]; omega)]
        simp only [qFrom, blt_t hlt, cond_true, List.append_assoc]
      · rw [if_neg (by omega), if_pos (by simp; omega)]
        simp [qFrom, blt_f hlt]
  have := go b.length 0 j j [34] (by omega) (by omega) (by omega) (by simp)
  exact this

theorem hexv : ∀ (h l : Fin 16), UInt8.ofNat (IntKind.u8.wrap (IntKind.i64.wrap (IntKind.i64.wrap ((h.val : Int) * (16 : Int)) + (l.val : Int)))).toNat = UInt8.ofNat (16 * h.val + l.val) := by
  decide +kernel

theorem f39_ok (n : Nat) (b : List UInt8) (hlen : b.length ≤ 1073741824) (i : Nat) (hi : i < b.length) : X.f39 (n + 8) b (i : Int) = some ((escS b i).1, ((escS b i).2 : Int), ()) := by
  have w1 : IntKind.i64.wrap ((i : Int) + 1) = ((i + 1 : Nat) : Int) := by rw [wrap64 (by omega) (by omega)]; omega
  have w2 : IntKind.i64.wrap ((i : Int) + 2) = ((i + 2 : Nat) : Int) := by rw [wrap64 (by omega) (by omega)]; omega
  have w3 : IntKind.i64.wrap ((i : Int) + 3) = ((i + 3 : Nat) : Int) := by rw [wrap64 (by omega) (by omega)]; omega
  rw [X.f39_eq]
  simp only [sel_dec, w1]
  unfold escS
  by_cases h : i + 1 < b.length
  · have h0 : (0 : Int) ≤ ((i + 1 : Nat) : Int) := by omega
    have hlt : ((i + 1 : Nat) : Int) < (b.length : Int) := by omega
    have h02 : (0 : Int) ≤ ((i + 2 : Nat) : Int) := by omega
    have h03 : (0 : Int) ≤ ((i + 3 : Nat) : Int) := by omega
    rw [if_neg (by omega), if_pos h0, if_pos hlt, blt_t h]
    simp only [Int.toNat_natCast, b_eq, cond_true, X.p39_2060_eq, sel_dec, w1, w2, w3, if_pos h0, if_pos hlt, if_pos h02, if_pos h03, f67_ok X, ob_some, X.p39_16_eq, X.p39_2063_eq]
    generalize (b.getD (i + 1) 0) = c
    cases h110 : (c == 110)
    · cases h116 : (c == 116)
      · cases h115 : (c == 115)
        · cases h34 : (c == 34)
          · cases h92 : (c == 92)
            · simp only [sel_f, cond_false, Bool.or_false]
              cases h120 : (c == 120)
              · rfl
              · simp only [sel_t, cond_true]
                by_cases h3 : i + 3 < b.length
                · have d2e : dgAt b (i + 2) = dg (b.getD (i + 2) 0) := by unfold dgAt; rw [blt_t (by omega)]; rfl
                  have d3e : dgAt b (i + 3) = dg (b.getD (i + 3) 0) := by unfold dgAt; rw [blt_t (by omega)]; rfl
                  have hl2 : ((i + 2 : Nat) : Int) < (b.length : Int) := by omega
                  have hl3 : ((i + 3 : Nat) : Int) < (b.length : Int) := by omega
                  rw [d2e, d3e]
                  simp only [if_pos hl2, if_pos hl3]
                  by_cases d1 : dg (b.getD (i + 2) 0) < 16
                  · by_cases d2 : dg (b.getD (i + 3) 0) < 16
                    · have e1 : ((dg (b.getD (i + 2) 0) : Nat) : Int) < 16 := by omega
                      have e2 : ((dg (b.getD (i + 3) 0) : Nat) : Int) < 16 := by omega
                      have := hexv ⟨_, d1⟩ ⟨_, d2⟩
                      simp only at this
                      rw [if_pos e1, if_pos e2, blt_t d1, blt_t d2, this]
                      rfl
                    · have e1 : ((dg (b.getD (i + 2) 0) : Nat) : Int) < 16 := by omega
                      have e2 : ¬ ((dg (b.getD (i + 3) 0) : Nat) : Int) < 16 := by omega
                      rw [if_pos e1, if_neg e2, blt_f d2, Bool.and_false]
                      rfl
                  · have e1 : ¬ ((dg (b.getD (i + 2) 0) : Nat) : Int) < 16 := by omega
                    rw [if_neg e1, blt_f d1, Bool.false_and]
                    rfl
                · have d3e : dgAt b (i + 3) = 16 := by unfold dgAt; rw [blt_f h3]; rfl
                  rw [d3e, blt_f (by decide : ¬ 16 < 16), Bool.and_false, if_neg (by omega)]
                  rfl
            · simp only [sel_f, sel_t, cond_false, Bool.or_true, cond_true]; rfl
          · simp only [sel_f, sel_t, cond_false, Bool.true_or, cond_true]; rfl
        · rfl
      · rfl
    · rfl
  · rw [if_pos (by omega), blt_f h]
    rfl

/-- A byte's test, as the reference has it. -/
def bareTest (c : UInt8) : Bool :=
  (decide (c < 97) || decide (122 < c)) && (decide (c < 48) || decide (57 < c)) && (c != 46) && (c != 95) && (c != 45)
theorem bareTest_eq : ∀ c : UInt8, bareTest c = !bareB c := by
  apply forall_u8
  decide +kernel

theorem p48_ok (b : List UInt8) (hlen : b.length ≤ 1073741824) : ∀ (N i j n0 : Nat), b.length ≤ i + N → i ≤ b.length → 0 < b.length → N + 8 ≤ j → X.p48_2 j n0 b (i : Int) = some (oddF b N i, ()) := by
  intro N
  induction N with
  | zero =>
    intro i j n0 h hi hb hj
    obtain ⟨j, rfl⟩ : ∃ q, j = q + 1 := ⟨j - 1, by omega⟩
    have e : ((b.length : Int) == (0 : Int)) = false := by rw [beq_eq_false_iff_ne]; omega
    rw [X.p48_2_eq, sel_dec, if_neg (by omega), e]
    rfl
  | succ N ih =>
    intro i j n0 h hi hb hj
    obtain ⟨j, rfl⟩ : ∃ q, j = q + 3 := ⟨j - 3, by omega⟩
    rw [X.p48_2_eq]
    simp only [sel_dec]
    by_cases hlt : i < b.length
    · have w1 : IntKind.i64.wrap ((i : Int) + 1) = ((i + 1 : Nat) : Int) := by rw [wrap64 (by omega) (by omega)]; omega
      have h0 : (0 : Int) ≤ (i : Int) := by omega
      have hl : (i : Int) < (b.length : Int) := by omega
      have nx := ih (i + 1) (j + 2) n0 (by omega) (by omega) hb (by omega)
      rw [if_pos hl, if_pos h0, if_pos hl]
      simp only [Int.toNat_natCast, b_ltP, gt_iff_lt, b_ne, oddF, blt_t hlt, cond_true]
      have hp : ∀ q : Bool, X.p48_2054 (j + 2) n0 (j + 2) b (i : Int) q = some (bif q then (i : Int) else oddF b N (i + 1), ()) := by
        intro q
        rw [X.p48_2054_eq]
        cases q
        · simp only [sel_f, cond_false, X.p48_3_eq, w1]; exact nx
        · rfl
      simp only [hp]
      have hbt := bareTest_eq (b.getD i 0)
      unfold bareTest at hbt
      have hbb : bareB (b.getD i 0) = !((decide (b.getD i 0 < 97) || decide (122 < b.getD i 0)) && (decide (b.getD i 0 < 48) || decide (57 < b.getD i 0)) && (b.getD i 0 != 46) && (b.getD i 0 != 95) && (b.getD i 0 != 45)) := by
        rw [hbt, Bool.not_not]
      rw [hbb]
      generalize b.getD i 0 = c
      by_cases c1 : c < 97 <;> by_cases c2 : 122 < c <;> by_cases c3 : c < 48 <;> by_cases c4 : 57 < c <;> cases (c != 46) <;> cases (c != 95) <;> cases (c != 45) <;>
        simp only [c1, c2, c3, c4, if_true, if_false, decide_true, decide_false, sel_t, sel_f, Bool.or_true, Bool.true_or, Bool.or_false, Bool.false_or, Bool.and_true, Bool.true_and, Bool.and_false, Bool.false_and, Bool.not_true, Bool.not_false, cond_true, cond_false]
    · have e : ((b.length : Int) == (0 : Int)) = false := by rw [beq_eq_false_iff_ne]; omega
      rw [if_neg (by omega), e]
      simp only [oddF, blt_f hlt, cond_false]
      rfl

theorem f48_ok (b : List UInt8) (hlen : b.length ≤ 1073741824) (j : Nat) (hj : b.length + 10 ≤ j) : X.f48 j b = some (bif b.isEmpty then 0 else oddS b, ()) := by
  obtain ⟨j, rfl⟩ : ∃ q, j = q + 2 := ⟨j - 2, by omega⟩
  rw [X.f48_eq]
  cases b with
  | nil =>
    rw [X.p48_2_eq]
    rfl
  | cons a l =>
    have := p48_ok X (a :: l) hlen (a :: l).length 0 (j + 1) (j + 1) (by omega) (by omega) (by simp) (by omega)
    exact this

theorem f19_ok (b : List UInt8) (hlen : b.length ≤ 67108864) (j : Nat) (hj : b.length + 50 ≤ j) : X.f19 j b = some (word b, ()) := by
  obtain ⟨j, rfl⟩ : ∃ q, j = q + 1 := ⟨j - 1, by omega⟩
  rw [X.f19_eq, f48_ok X b (by omega) j (by omega), f14_ok X b hlen j (by omega)]
  simp only [ob_some]
  unfold word
  cases b with
  | nil => rfl
  | cons a l =>
    simp only [List.isEmpty_cons, cond_false, Bool.not_false, Bool.true_and]
    cases (decide (oddS (a :: l) < 0)) <;> rfl

/-- The reference's Unquote, from a place on. -/
theorem p12_ok (b : List UInt8) (hlen : b.length ≤ 67108864) : ∀ (N i j n0 n1 : Nat) (acc : List UInt8), b.length ≤ i + N → i ≤ b.length → acc.length ≤ i → N + b.length + 60 ≤ j →
    X.p12_5 j n0 n1 b acc (i : Int) = some (unqR b N i acc) := by
  intro N
  induction N with
  | zero =>
    intro i j n0 n1 acc h hi hacc hj
    obtain ⟨j, rfl⟩ : ∃ q, j = q + 1 := ⟨j - 1, by omega⟩
    rw [X.p12_5_eq, sel_dec, if_neg (by omega)]
    have e : i = b.length := by omega
    subst e
    rfl
  | succ N ih =>
    intro i j n0 n1 acc h hi hacc hj
    obtain ⟨j, rfl⟩ : ∃ q, j = q + 60 := ⟨j - 60, by omega⟩
    rw [X.p12_5_eq]
    simp only [sel_dec]
    by_cases hlt : i < b.length
    · have w1 : IntKind.i64.wrap ((i : Int) + 1) = ((i + 1 : Nat) : Int) := by rw [wrap64 (by omega) (by omega)]; omega
      have w4 : IntKind.i64.wrap ((i : Int) + 4) = ((i + 4 : Nat) : Int) := by rw [wrap64 (by omega) (by omega)]; omega
      have wm : imin ((i + 4 : Nat) : Int) ((b.length : Nat) : Int) = ((min (i + 4) b.length : Nat) : Int) := by
        unfold imin; split <;> omega
      have h0 : (0 : Int) ≤ (i : Int) := by omega
      have hl : (i : Int) < (b.length : Int) := by omega
      rw [if_pos hl, if_pos h0, if_pos hl]
      simp only [Int.toNat_natCast, b_eq, w1, w4, wm, if_pos h0, if_pos hl, unqR, blt_t hlt, cond_true]
      cases h34 : (b.getD i 0 == 34)
      · simp only [sel_f, cond_false]
        cases h92 : (b.getD i 0 == 92)
        · simp only [sel_f, cond_false]
          have hs := sz_bd b i
          have hle2 := decode_le b i hlt
          have w2 : IntKind.i64.wrap ((i : Int) + (sz b i : Int)) = ((i + sz b i : Nat) : Int) := by rw [wrap64 (by omega) (by omega)]; omega
          rw [if_pos (by omega), if_pos (by omega), if_pos (by omega), rune_ext X b (by omega) i (min (i + 4) b.length) (by omega) (by omega) (by omega) _ (by omega)]
          simp only [ob_some]
          cases he : (rn b i == 65533 && sz b i == 1)
          · have hz : (((sz b i : Nat) : Int) == (0 : Int)) = false := by rw [beq_eq_false_iff_ne]; omega
            simp only [cond_false, hz, sel_f, f41_ok X, ob_some, Bool.false_or, X.p12_2068_eq]
            cases es : self (rn b i)
            · rfl
            · have el := ext_len b i (i + sz b i) hle2
              simp only [Bool.not_true, sel_f, cond_false, X.p12_21_eq, sel_dec, w2]
              rw [if_pos (by omega), if_pos (by omega), if_pos (by omega), if_pos (by omega), if_pos (by rw [el]; omega)]
              exact ih (i + sz b i) (j + 59) n0 n1 _ (by omega) (by omega) (by rw [List.length_append, el]; omega) (by omega)
          · simp only [cond_true, show (((0 : Int) == (0 : Int))) = true from rfl, sel_t, X.p12_2068_eq, Bool.true_or]
            rfl
        · simp only [sel_t, cond_true, f39_ok X _ b (by omega) i hlt, ob_some]
          have hle2 := escS_le b i
          have q : ((((escS b i).2 : Nat) : Int) == (0 : Int)) = ((escS b i).2 == 0) := by rw [Bool.eq_iff_iff]; simp only [beq_iff_eq]; omega
          rw [q]
          cases hz : ((escS b i).2 == 0)
          · have hz' : (escS b i).2 ≠ 0 := by simpa using hz
            have w2 : IntKind.i64.wrap ((i : Int) + ((escS b i).2 : Int)) = ((i + (escS b i).2 : Nat) : Int) := by rw [wrap64 (by omega) (by omega)]; omega
            simp only [sel_f, cond_false, w2]
            rw [if_pos (by simp; omega)]
            exact ih (i + (escS b i).2) (j + 59) n0 n1 _ (by omega) (by omega) (by simp; omega) (by omega)
          · rfl
      · simp only [sel_t, cond_true]
        by_cases h1 : i + 1 < b.length
        · rw [if_pos (by omega), blt_t h1]; rfl
        · rw [if_neg (by omega), blt_f h1, f14_ok X acc (by omega) (j + 59) (by omega)]
          simp only [cond_false, ob_some]
          cases (quote acc == b) <;> rfl
    · rw [if_neg (by omega)]
      simp only [unqR, blt_f hlt, cond_false]
      have e : i = b.length := by omega
      subst e
      rfl

theorem f12_ok (b : List UInt8) (hlen : b.length ≤ 67108864) (j : Nat) (hj : 2 * b.length + 80 ≤ j) : X.f12 j b = some (unquote b) := by
  obtain ⟨j, rfl⟩ : ∃ q, j = q + 4 := ⟨j - 4, by omega⟩
  rw [X.f12_eq]
  simp only [X.p12_2050_eq, X.p12_3_eq]
  unfold unquote
  cases b with
  | nil => rfl
  | cons a l =>
    have e : ((a :: l : List UInt8) == []) = false := rfl
    have hb : Nat.blt 0 (a :: l).length = true := blt_t (by simp)
    rw [e, hb]
    simp only [sel_f, Bool.true_and, sel_dec]
    rw [if_pos (by decide), if_pos (by simp)]
    simp only [b_ne, show Int.toNat 0 = 0 from rfl]
    cases h34 : ((a :: l).getD 0 0 == 34)
    · have n34 : ((a :: l).getD 0 0 != 34) = true := by simp only [bne, h34, Bool.not_false]
      rw [n34]; rfl
    · have n34 : ((a :: l).getD 0 0 != 34) = false := by simp only [bne, h34, Bool.not_true]
      rw [n34]
      simp only [sel_f, cond_true]
      exact p12_ok X (a :: l) hlen (a :: l).length 1 (j + 2) (j + 3) (j + 2) [] (by omega) (by simp) (by simp) (by omega)

theorem f17_ok (b : List UInt8) (hlen : b.length ≤ 67108864) (j : Nat) (hj : 2 * b.length + 90 ≤ j) : X.f17 j b = some (unword b) := by
  obtain ⟨j, rfl⟩ : ∃ q, j = q + 4 := ⟨j - 4, by omega⟩
  rw [X.f17_eq]
  unfold unword
  cases b with
  | nil =>
    have h48 := f48_ok X [] (by simp) (j + 2) (by simp only [List.length_nil] at hj ⊢; omega)
    simp only [X.p17_2050_eq, X.p17_3_eq, h48]
    rfl
  | cons a l =>
    have e : ((a :: l : List UInt8) == []) = false := rfl
    have hb : Nat.blt 0 (a :: l).length = true := blt_t (by simp)
    rw [e, hb]
    simp only [Bool.not_false, sel_t, Bool.true_and, sel_dec, X.p17_2050_eq, X.p17_3_eq, f48_ok X (a :: l) (by omega) (j + 2) (by omega), f12_ok X (a :: l) hlen (j + 2) (by omega), ob_some, List.isEmpty_cons, cond_false, Bool.false_or]
    rw [if_pos (by decide), if_pos (by simp)]
    simp only [b_eq, show Int.toNat 0 = 0 from rfl]
    cases h34 : ((a :: l).getD 0 0 == 34)
    · simp only [sel_f, cond_false]
      by_cases ho : oddS (a :: l) ≥ 0
      · have hm : imax (oddS (a :: l)) 0 = oddS (a :: l) := by unfold imax; split <;> omega
        rw [if_pos ho, decide_eq_true ho, hm]
        rfl
      · rw [if_neg ho, decide_eq_false ho]
        rfl
    · rfl

/-- THE PLAIN LAWS. -/
theorem lawQuotes (s q : List UInt8) (hs : s.length ≤ 67108864) (hq : q.length ≤ 67108864) : X.f3 (2 * q.length + s.length + 200) s q = some (true, ()) := by
  have hb : Nat.ble s.length 1073741824 = true := by rw [Nat.ble_eq]; omega
  rw [X.f3_eq, f11_ok X.toFnsU q (by omega) _ (by omega), f12_ok X q hq _ (by omega), X.f13_eq, f14_ok X s hs _ (by omega), hb]
  simp only [ob_some, cond_true, beq_self_eq_true, sel_t, X.f15_eq]

theorem lawWords (s q : List UInt8) (hs : s.length ≤ 67108864) (hq : q.length ≤ 67108864) : X.f4 (2 * q.length + s.length + 200) s q = some (true, ()) := by
  rw [X.f4_eq, f16_ok X.toFnsU q (by omega) _ (by omega), f17_ok X q hq _ (by omega), f18_ok X.toFnsU s (by omega) _ (by omega), f19_ok X s hs _ (by omega)]
  simp only [ob_some, beq_self_eq_true, sel_t, X.f15_eq]
end Nq

