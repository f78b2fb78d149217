import Derived.Test.YtgnihbbhmbbkbaaLkTwo
import Derived.IntWalk
set_option linter.all false
namespace NsG
open Go Lk
set_option linter.unusedVariables false

/-- The functions, by their equations alone. -/
structure Fns where
  /-- moraine/names.Width -/
  f7 (n : Nat) (a0 : List UInt8) : Option (Int × Unit)
  p7_3 (j : Nat) (n0 : Nat) (v3 : Int) (v5 : List UInt8) (p5 : Nat) : Option (Int × Unit)
  /-- moraine/moraineref06.Width -/
  f8 (n : Nat) (a0 : List UInt8) : Option (Int × Unit)
  p8_3 (j : Nat) (n0 : Nat) (v0 : List UInt8) (v3 : Int) (v4 : Int) : Option (Int × Unit)
  /-- moraine/morainelaw06.numbers -/
  f9 (n : Nat) : Option (Bool × Unit)
  /-- moraine/names.ends -/
  f10 (n : Nat) (a0 : List UInt8) (a1 : Int) : Option (Int × Bool × Unit)
  p10_2 (j : Nat) (n0 : Nat) (v0 : List UInt8) (v6 : Int) : Option (Int × Bool × Unit)
  p10_3 (j : Nat) (n0 : Nat) (n1 : Nat) (v0 : List UInt8) (v6 : Int) : Option (Int × Bool × Unit)
  /-- moraine/morainelaw06.texts -/
  f6 (n : Nat) (a0 : List (List UInt8)) (a1 : List (List UInt8)) : Option (Bool × Unit)
  p6_4 (j : Nat) (n0 : Nat) (v0 : List (List UInt8)) (v1 : List (List UInt8)) (v5 : Int) : Option (Bool × Unit)
  /-- moraine/moraineref06.Rune -/
  f11 (n : Nat) (a0 : List (UInt8)) (a1 : Int) : Option (Int × Int × Unit)
  p11_2054 (j : Nat) (n0 : Nat) (v0 : List (UInt8)) (v1 : Int) (v6 : Int) (v7 : Int) (v8 : Int) (v9 : Int) (v20 : Bool) : Option (Int × Int × Unit)
  p11_11 (j : Nat) (n0 : Nat) (v0 : List (UInt8)) (v1 : Int) (v7 : Int) (v8 : Int) (v9 : Int) : Option (Int × Int × Unit)
  p11_2056 (j : Nat) (n0 : Nat) (n1 : Nat) (v0 : List (UInt8)) (v1 : Int) (v6 : Int) (v7 : Int) (v8 : Int) (v9 : Int) (v29 : Bool) : Option (Int × Int × Unit)
  p11_2060 (j : Nat) (n0 : Nat) (n1 : Nat) (v0 : List (UInt8)) (v1 : Int) (v7 : Int) (v8 : Int) (v9 : Int) (v56 : Bool) : Option (Int × Int × Unit)
  p11_2058 (j : Nat) (n0 : Nat) (n1 : Nat) (n2 : Nat) (v0 : List (UInt8)) (v1 : Int) (v6 : Int) (v7 : Int) (v8 : Int) (v9 : Int) (v38 : Bool) : Option (Int × Int × Unit)
  p11_13 (j : Nat) (n0 : Nat) (n1 : Nat) (v0 : List (UInt8)) (v1 : Int) (v7 : Int) (v8 : Int) (v9 : Int) : Option (Int × Int × Unit)
  p11_14 (j : Nat) (n0 : Nat) (n1 : Nat) (n2 : Nat) (v0 : List (UInt8)) (v1 : Int) (v7 : Int) (v8 : Int) (v9 : Int) (v10 : Int) : Option (Int × Int × Unit)
  p11_2068 (j : Nat) (n0 : Nat) (n1 : Nat) (n2 : Nat) (v7 : Int) (v8 : Int) (v95 : Bool) : Option (Int × Int × Unit)
  p11_21 (j : Nat) (n0 : Nat) (n1 : Nat) (n2 : Nat) (v7 : Int) (v8 : Int) : Option (Int × Int × Unit)
  /-- moraine/names.Split -/
  f4 (n : Nat) (a0 : List UInt8) : Option (List (List UInt8) × Int × Int × Unit)
  p4_4 (j : Nat) (n0 : Nat) (v0 : List UInt8) (v2 : List (List UInt8)) (v5 : Int) (v6 : Int) (v15 : Int) (v16 : Int) : Option (List (List UInt8) × Int × Int × Unit)
  p4_2055 (j : Nat) (n0 : Nat) (n1 : Nat) (v0 : List UInt8) (v2 : List (List UInt8)) (v5 : Int) (v6 : Int) (v7 : Int) (v15 : Int) (v16 : Int) (v28 : Bool) : Option (List (List UInt8) × Int × Int × Unit)
  p4_9 (j : Nat) (n0 : Nat) (v0 : List UInt8) (v2 : List (List UInt8)) (v5 : Int) (v6 : Int) : Option (List (List UInt8) × Int × Int × Unit)
  p4_8 (j : Nat) (n0 : Nat) (n1 : Nat) (v0 : List UInt8) (v2 : List (List UInt8)) (v5 : Int) (v6 : Int) (v15 : Int) (v16 : Int) : Option (List (List UInt8) × Int × Int × Unit)
  p4_10 (j : Nat) (n0 : Nat) (n1 : Nat) (v0 : List UInt8) (v2 : List (List UInt8)) (v5 : Int) (v6 : Int) (v8 : Int) : Option (List (List UInt8) × Int × Int × Unit)
  p4_25 (j : Nat) (n0 : Nat) (n1 : Nat) (v0 : List UInt8) (v2 : List (List UInt8)) (v5 : Int) (v6 : Int) : Option (List (List UInt8) × Int × Int × Unit)
  p4_2067 (j : Nat) (n0 : Nat) (n1 : Nat) (n2 : Nat) (v0 : List UInt8) (v2 : List (List UInt8)) (v5 : Int) (v6 : Int) (v8 : Int) (v10 : Int) (v64 : Bool) : Option (List (List UInt8) × Int × Int × Unit)
  p4_21 (j : Nat) (n0 : Nat) (n1 : Nat) (n2 : Nat) (v0 : List UInt8) (v2 : List (List UInt8)) (v5 : Int) (v6 : Int) (v8 : Int) (v9 : Int) : Option (List (List UInt8) × Int × Int × Unit)
  p4_20 (j : Nat) (n0 : Nat) (n1 : Nat) (n2 : Nat) (v0 : List UInt8) (v2 : List (List UInt8)) (v5 : Int) (v6 : Int) (v8 : Int) (v10 : Int) : Option (List (List UInt8) × Int × Int × Unit)
  p4_22 (j : Nat) (n0 : Nat) (n1 : Nat) (n2 : Nat) (n3 : Nat) (v0 : List UInt8) (v2 : List (List UInt8)) (v5 : Int) (v6 : Int) (v8 : Int) (v9 : Int) : Option (List (List UInt8) × Int × Int × Unit)
  p4_23 (j : Nat) (n0 : Nat) (n1 : Nat) (n2 : Nat) (v0 : List UInt8) (v2 : List (List UInt8)) (v5 : Int) (v6 : Int) (v8 : Int) (v9 : Int) : Option (List (List UInt8) × Int × Int × Unit)
  /-- moraine/moraineref06.Split -/
  f5 (n : Nat) (a0 : List UInt8) : Option (List (List UInt8) × Int × Int × Unit)
  p5_6 (j : Nat) (n0 : Nat) (v0 : List UInt8) (v5 : List (List UInt8)) (v6 : Int) (v7 : Bool) (v8 : Bool) (v9 : Int) : Option (List (List UInt8) × Int × Int × Unit)
  p5_2058 (j : Nat) (n0 : Nat) (n1 : Nat) (v0 : List UInt8) (v5 : List (List UInt8)) (v6 : Int) (v7 : Bool) (v8 : Bool) (v9 : Int) (v10 : UInt8) (v20 : Bool) : Option (List (List UInt8) × Int × Int × Unit)
  p5_30 (j : Nat) (n0 : Nat) (v5 : List (List UInt8)) : Option (List (List UInt8) × Int × Int × Unit)
  p5_2060 (j : Nat) (n0 : Nat) (n1 : Nat) (n2 : Nat) (v0 : List UInt8) (v5 : List (List UInt8)) (v6 : Int) (v7 : Bool) (v8 : Bool) (v9 : Int) (v10 : UInt8) (v35 : Bool) : Option (List (List UInt8) × Int × Int × Unit)
  p5_14 (j : Nat) (n0 : Nat) (n1 : Nat) (n2 : Nat) (n3 : Nat) (v0 : List UInt8) (v5 : List (List UInt8)) (v7 : Bool) (v9 : Int) : Option (List (List UInt8) × Int × Int × Unit)
  p5_7 (j : Nat) (n0 : Nat) (n1 : Nat) (v0 : List UInt8) (v5 : List (List UInt8)) (v6 : Int) (v7 : Bool) (v8 : Bool) (v9 : Int) : Option (List (List UInt8) × Int × Int × Unit)
  p5_2068 (j : Nat) (n0 : Nat) (n1 : Nat) (n2 : Nat) (n3 : Nat) (v0 : List UInt8) (v5 : List (List UInt8)) (v6 : Int) (v7 : Bool) (v8 : Bool) (v9 : Int) (v10 : UInt8) (v57 : Bool) : Option (List (List UInt8) × Int × Int × Unit)
  p5_2070 (j : Nat) (n0 : Nat) (n1 : Nat) (n2 : Nat) (n3 : Nat) (n4 : Nat) (v0 : List UInt8) (v5 : List (List UInt8)) (v6 : Int) (v7 : Bool) (v8 : Bool) (v9 : Int) (v80 : Bool) : Option (List (List UInt8) × Int × Int × Unit)
  p5_2072 (j : Nat) (n0 : Nat) (n1 : Nat) (n2 : Nat) (n3 : Nat) (n4 : Nat) (v0 : List UInt8) (v5 : List (List UInt8)) (v6 : Int) (v7 : Bool) (v8 : Bool) (v9 : Int) (v82 : Bool) : Option (List (List UInt8) × Int × Int × Unit)
  /-- moraine/morainelaw06.NamesSplits -/
  f3 (n : Nat) (a0 : List UInt8) : Option (Bool × Unit)
  p3_2054 (j : Nat) (n0 : Nat) (v3 : List (List UInt8)) (v6 : List (List UInt8)) (v9 : List (List UInt8)) (v73 : Bool) : Option (Bool × Unit)
  p3_7 (j : Nat) (n0 : Nat) (v3 : List (List UInt8)) (v6 : List (List UInt8)) (v9 : List (List UInt8)) : Option (Bool × Unit)
  p3_8 (j : Nat) (n0 : Nat) (n1 : Nat) (v3 : List (List UInt8)) (v6 : List (List UInt8)) (v9 : List (List UInt8)) (v15 : Int) : Option (Bool × Unit)
  f7_eq (n : Nat) (a0 : List UInt8) : f7 (n + 1) a0 =
  (p7_3 (n) (n) ((0 : Int)) (a0) ((0 : Nat)))
  p7_3_eq (j : Nat) (n0 : Nat) (v3 : Int) (v5 : List UInt8) (p5 : Nat) : p7_3 (j + 1) n0 v3 v5 p5 =
  (sel (Decidable.decide (p5 < v5.length))
   (p7_3 (j) (n0) (Go.IntKind.i64.wrap (v3 + (1 : Int))) (v5) (p5 + (Go.Utf8.decode { data := v5.toArray } p5).snd))
   (some (v3, ())))
  f8_eq (n : Nat) (a0 : List UInt8) : f8 (n + 1) a0 =
  (p8_3 (n) (n) (a0) ((0 : Int)) ((0 : Int)))
  p8_3_eq (j : Nat) (n0 : Nat) (v0 : List UInt8) (v3 : Int) (v4 : Int) : p8_3 (j + 1) n0 v0 v3 v4 =
  (sel (Decidable.decide (v4 < (↑v0.length : Int)))
   (sel (Decidable.decide ((0 : Int) ≤ Lk.imin (Go.IntKind.i64.wrap (v4 + (4 : Int))) (↑v0.length : Int)))
    (sel (Decidable.decide (Lk.imin (Go.IntKind.i64.wrap (v4 + (4 : Int))) (↑v0.length : Int) ≤ (↑v0.length : Int)))
     (sel (Decidable.decide ((0 : Int) ≤ v4))
      (sel (Decidable.decide (v4 ≤ Lk.imin (Go.IntKind.i64.wrap (v4 + (4 : Int))) (↑v0.length : Int)))
       (obind (f11 j (Lk.ext v0 v4 (Lk.imin (Go.IntKind.i64.wrap (v4 + (4 : Int))) (↑v0.length : Int))) ((0 : Int))) fun r173 =>
        (p8_3 (j) (n0) (v0) (Go.IntKind.i64.wrap (v3 + (1 : Int))) (Go.IntKind.i64.wrap (v4 + Lk.imax r173.snd.fst (1 : Int)))))
       none)
      none)
     none)
    none)
   (some (v3, ())))
  f9_eq (n : Nat)  : f9 (n + 1)  =
  (some (Bool.true, ()))
  f10_eq (n : Nat) (a0 : List UInt8) (a1 : Int) : f10 (n + 1) a0 a1 =
  (p10_2 (n) (n) (a0) (Go.IntKind.i64.wrap (a1 + (1 : Int))))
  p10_2_eq (j : Nat) (n0 : Nat) (v0 : List UInt8) (v6 : Int) : p10_2 (j + 1) n0 v0 v6 =
  (sel (Decidable.decide (v6 < (↑v0.length : Int)))
   (sel (Decidable.decide ((0 : Int) ≤ v6))
    (sel (Decidable.decide (v6 < (↑v0.length : Int)))
     (sel ((↑(v0.getD v6.toNat (0 : UInt8)).toNat : Int) == (↑(UInt8.toNat (92 : UInt8)) : Int))
      (p10_3 (j) (n0) (j) (v0) (Go.IntKind.i64.wrap (v6 + (1 : Int))))
      (sel ((↑(v0.getD v6.toNat (0 : UInt8)).toNat : Int) == (↑(UInt8.toNat (34 : UInt8)) : Int))
       (some (Go.IntKind.i64.wrap (v6 + (1 : Int)), Bool.true, ()))
       (p10_3 (j) (n0) (j) (v0) (v6))))
     none)
    none)
   (some ((0 : Int), Bool.false, ())))
  p10_3_eq (j : Nat) (n0 : Nat) (n1 : Nat) (v0 : List UInt8) (v6 : Int) : p10_3 (j + 1) n0 n1 v0 v6 =
  (p10_2 (n1) (n0) (v0) (Go.IntKind.i64.wrap (v6 + (1 : Int))))
  f6_eq (n : Nat) (a0 : List (List UInt8)) (a1 : List (List UInt8)) : f6 (n + 1) a0 a1 =
  (sel ((↑a0.length : Int) != (↑a1.length : Int))
   (some (Bool.false, ()))
   (p6_4 (n) (n) (a0) (a1) ((0 : Int))))
  p6_4_eq (j : Nat) (n0 : Nat) (v0 : List (List UInt8)) (v1 : List (List UInt8)) (v5 : Int) : p6_4 (j + 1) n0 v0 v1 v5 =
  (sel (Decidable.decide (v5 < (↑v0.length : Int)))
   (sel (Decidable.decide ((0 : Int) ≤ v5))
    (sel (Decidable.decide (v5 < (↑v0.length : Int)))
     (sel (Decidable.decide ((0 : Int) ≤ v5))
      (sel (Decidable.decide (v5 < (↑v1.length : Int)))
       (sel (!v0.getD v5.toNat [] == v1.getD v5.toNat [])
        (some (Bool.false, ()))
        (p6_4 (j) (n0) (v0) (v1) (Go.IntKind.i64.wrap (v5 + (1 : Int)))))
       none)
      none)
     none)
    none)
   (some (Bool.true, ())))
  f11_eq (n : Nat) (a0 : List (UInt8)) (a1 : Int) : f11 (n + 1) a0 a1 =
  (sel (Decidable.decide ((0 : Int) ≤ a1))
   (sel (Decidable.decide (a1 < (↑a0.length : Int)))
    (sel (Decidable.decide (Go.IntKind.u32.wrap (↑(UInt8.toNat (a0.getD a1.toNat (0 : UInt8))) : Int) < (128 : Int)))
     (some (Go.IntKind.u32.wrap (↑(UInt8.toNat (a0.getD a1.toNat (0 : UInt8))) : Int), (1 : Int), ()))
     (sel (Decidable.decide (Go.IntKind.u32.wrap (↑(UInt8.toNat (a0.getD a1.toNat (0 : UInt8))) : Int) ≥ (192 : Int)))
      (p11_2054 (n) (n) (a0) (a1) (Go.IntKind.u32.wrap (↑(UInt8.toNat (a0.getD a1.toNat (0 : UInt8))) : Int)) ((0 : Int)) ((0 : Int)) ((0 : Int)) (Decidable.decide (Go.IntKind.u32.wrap (↑(UInt8.toNat (a0.getD a1.toNat (0 : UInt8))) : Int) < (224 : Int))))
      (p11_2054 (n) (n) (a0) (a1) (Go.IntKind.u32.wrap (↑(UInt8.toNat (a0.getD a1.toNat (0 : UInt8))) : Int)) ((0 : Int)) ((0 : Int)) ((0 : Int)) (Bool.false))))
    none)
   none)
  p11_2054_eq (j : Nat) (n0 : Nat) (v0 : List (UInt8)) (v1 : Int) (v6 : Int) (v7 : Int) (v8 : Int) (v9 : Int) (v20 : Bool) : p11_2054 (j + 1) n0 v0 v1 v6 v7 v8 v9 v20 =
  (sel (v20)
   (p11_11 (n0) (n0) (v0) (v1) ((2 : Int)) (Lk.ibits Go.BinOp.and Go.IntKind.u32 v6 (31 : Int)) ((128 : Int)))
   (sel (Decidable.decide (v6 ≥ (224 : Int)))
    (p11_2056 (j) (n0) (j) (v0) (v1) (v6) (v7) (v8) (v9) (Decidable.decide (v6 < (240 : Int))))
    (p11_2056 (j) (n0) (j) (v0) (v1) (v6) (v7) (v8) (v9) (Bool.false))))
  p11_11_eq (j : Nat) (n0 : Nat) (v0 : List (UInt8)) (v1 : Int) (v7 : Int) (v8 : Int) (v9 : Int) : p11_11 (j + 1) n0 v0 v1 v7 v8 v9 =
  (sel (v7 == (0 : Int))
   (p11_2060 (j) (n0) (j) (v0) (v1) (v7) (v8) (v9) (Bool.true))
   (p11_2060 (j) (n0) (j) (v0) (v1) (v7) (v8) (v9) (Decidable.decide (Go.IntKind.i64.wrap ((↑v0.length : Int) - v1) < v7))))
  p11_2056_eq (j : Nat) (n0 : Nat) (n1 : Nat) (v0 : List (UInt8)) (v1 : Int) (v6 : Int) (v7 : Int) (v8 : Int) (v9 : Int) (v29 : Bool) : p11_2056 (j + 1) n0 n1 v0 v1 v6 v7 v8 v9 v29 =
  (sel (v29)
   (p11_11 (n0) (n0) (v0) (v1) ((3 : Int)) (Lk.ibits Go.BinOp.and Go.IntKind.u32 v6 (15 : Int)) ((2048 : Int)))
   (sel (Decidable.decide (v6 ≥ (240 : Int)))
    (p11_2058 (j) (n0) (n1) (j) (v0) (v1) (v6) (v7) (v8) (v9) (Decidable.decide (v6 < (248 : Int))))
    (p11_2058 (j) (n0) (n1) (j) (v0) (v1) (v6) (v7) (v8) (v9) (Bool.false))))
  p11_2060_eq (j : Nat) (n0 : Nat) (n1 : Nat) (v0 : List (UInt8)) (v1 : Int) (v7 : Int) (v8 : Int) (v9 : Int) (v56 : Bool) : p11_2060 (j + 1) n0 n1 v0 v1 v7 v8 v9 v56 =
  (sel (v56)
   (some ((0 : Int), (0 : Int), ()))
   (p11_13 (n1) (n0) (n1) (v0) (v1) (v7) (v8) (v9)))
  p11_2058_eq (j : Nat) (n0 : Nat) (n1 : Nat) (n2 : Nat) (v0 : List (UInt8)) (v1 : Int) (v6 : Int) (v7 : Int) (v8 : Int) (v9 : Int) (v38 : Bool) : p11_2058 (j + 1) n0 n1 n2 v0 v1 v6 v7 v8 v9 v38 =
  (sel (v38)
   (p11_11 (n0) (n0) (v0) (v1) ((4 : Int)) (Lk.ibits Go.BinOp.and Go.IntKind.u32 v6 (7 : Int)) ((65536 : Int)))
   (p11_11 (n0) (n0) (v0) (v1) (v7) (v8) (v9)))
  p11_13_eq (j : Nat) (n0 : Nat) (n1 : Nat) (v0 : List (UInt8)) (v1 : Int) (v7 : Int) (v8 : Int) (v9 : Int) : p11_13 (j + 1) n0 n1 v0 v1 v7 v8 v9 =
  (p11_14 (j) (n0) (n1) (j) (v0) (v1) (v7) (v8) (v9) ((1 : Int)))
  p11_14_eq (j : Nat) (n0 : Nat) (n1 : Nat) (n2 : Nat) (v0 : List (UInt8)) (v1 : Int) (v7 : Int) (v8 : Int) (v9 : Int) (v10 : Int) : p11_14 (j + 1) n0 n1 n2 v0 v1 v7 v8 v9 v10 =
  (sel (Decidable.decide (v10 < v7))
   (sel (Decidable.decide ((0 : Int) ≤ Go.IntKind.i64.wrap (v1 + v10)))
    (sel (Decidable.decide (Go.IntKind.i64.wrap (v1 + v10) < (↑v0.length : Int)))
     (sel ((↑(UInt8.ofNat (Lk.ibits Go.BinOp.and Go.IntKind.u8 (↑(UInt8.toNat (v0.getD (Go.IntKind.i64.wrap (v1 + v10)).toNat (0 : UInt8))) : Int) (↑(UInt8.toNat (192 : UInt8)) : Int)).toNat).toNat : Int) != (↑(UInt8.toNat (128 : UInt8)) : Int))
      (some ((0 : Int), (0 : Int), ()))
      (sel (Decidable.decide ((0 : Int) ≤ (6 : Int)))
       (sel (Decidable.decide ((0 : Int) ≤ Go.IntKind.i64.wrap (v1 + v10)))
        (sel (Decidable.decide (Go.IntKind.i64.wrap (v1 + v10) < (↑v0.length : Int)))
         (p11_14 (j) (n0) (n1) (n2) (v0) (v1) (v7) (Lk.ibits Go.BinOp.or Go.IntKind.u32 (Go.IntKind.u32.wrap (v8 * (2 : Int) ^ Min.min (Int.toNat (6 : Int)) Go.IntKind.u32.bits)) (Go.IntKind.u32.wrap (↑(UInt8.ofNat (Lk.ibits Go.BinOp.and Go.IntKind.u8 (↑(UInt8.toNat (v0.getD (Go.IntKind.i64.wrap (v1 + v10)).toNat (0 : UInt8))) : Int) (↑(UInt8.toNat (63 : UInt8)) : Int)).toNat).toNat : Int))) (v9) (Go.IntKind.i64.wrap (v10 + (1 : Int))))
         none)
        none)
       none))
     none)
    none)
   (sel (Decidable.decide (v8 < v9))
    (p11_2068 (n2) (n0) (n1) (n2) (v7) (v8) (Bool.true))
    (sel (Decidable.decide (v8 > (1114111 : Int)))
     (p11_2068 (n2) (n0) (n1) (n2) (v7) (v8) (Bool.true))
     (sel (Decidable.decide (v8 ≥ (55296 : Int)))
      (p11_2068 (n2) (n0) (n1) (n2) (v7) (v8) (Decidable.decide (v8 ≤ (57343 : Int))))
      (p11_2068 (n2) (n0) (n1) (n2) (v7) (v8) (Bool.false))))))
  p11_2068_eq (j : Nat) (n0 : Nat) (n1 : Nat) (n2 : Nat) (v7 : Int) (v8 : Int) (v95 : Bool) : p11_2068 (j + 1) n0 n1 n2 v7 v8 v95 =
  (sel (v95)
   (some ((0 : Int), (0 : Int), ()))
   (p11_21 (n2) (n0) (n1) (n2) (v7) (v8)))
  p11_21_eq (j : Nat) (n0 : Nat) (n1 : Nat) (n2 : Nat) (v7 : Int) (v8 : Int) : p11_21 (j + 1) n0 n1 n2 v7 v8 =
  (some (v8, v7, ()))
  f4_eq (n : Nat) (a0 : List UInt8) : f4 (n + 1) a0 =
  (p4_4 (n) (n) (a0) ([]) ((-1 : Int)) ((↑a0.length : Int)) ((↑a0.length : Int)) ((0 : Int)))
  p4_4_eq (j : Nat) (n0 : Nat) (v0 : List UInt8) (v2 : List (List UInt8)) (v5 : Int) (v6 : Int) (v15 : Int) (v16 : Int) : p4_4 (j + 1) n0 v0 v2 v5 v6 v15 v16 =
  (sel (Decidable.decide (v16 < v15))
   (sel (Decidable.decide ((0 : Int) ≤ v16))
    (sel (Decidable.decide (v16 < (↑v0.length : Int)))
     (sel (Decidable.decide ((↑(v0.getD v16.toNat (0 : UInt8)).toNat : Int) < (↑(UInt8.toNat (32 : UInt8)) : Int)))
      (p4_2055 (j) (n0) (j) (v0) (v2) (v5) (v6) (v16) (v15) (v16) (Bool.true))
      (sel (Decidable.decide ((0 : Int) ≤ v16))
       (sel (Decidable.decide (v16 < (↑v0.length : Int)))
        (p4_2055 (j) (n0) (j) (v0) (v2) (v5) (v6) (v16) (v15) (v16) ((↑(v0.getD v16.toNat (0 : UInt8)).toNat : Int) == (↑(UInt8.toNat (127 : UInt8)) : Int)))
        none)
       none))
     none)
    none)
   (p4_9 (n0) (n0) (v0) (v2) (v5) (v6)))
  p4_2055_eq (j : Nat) (n0 : Nat) (n1 : Nat) (v0 : List UInt8) (v2 : List (List UInt8)) (v5 : Int) (v6 : Int) (v7 : Int) (v15 : Int) (v16 : Int) (v28 : Bool) : p4_2055 (j + 1) n0 n1 v0 v2 v5 v6 v7 v15 v16 v28 =
  (sel (v28)
   (p4_9 (n0) (n0) (v0) (v2) (v5) (v7))
   (p4_8 (n1) (n0) (n1) (v0) (v2) (v5) (v6) (v15) (v16)))
  p4_9_eq (j : Nat) (n0 : Nat) (v0 : List UInt8) (v2 : List (List UInt8)) (v5 : Int) (v6 : Int) : p4_9 (j + 1) n0 v0 v2 v5 v6 =
  (p4_10 (j) (n0) (j) (v0) (v2) (v5) (v6) ((0 : Int)))
  p4_8_eq (j : Nat) (n0 : Nat) (n1 : Nat) (v0 : List UInt8) (v2 : List (List UInt8)) (v5 : Int) (v6 : Int) (v15 : Int) (v16 : Int) : p4_8 (j + 1) n0 n1 v0 v2 v5 v6 v15 v16 =
  (p4_4 (n1) (n0) (v0) (v2) (v5) (v6) (v15) (Go.IntKind.i64.wrap (v16 + (1 : Int))))
  p4_10_eq (j : Nat) (n0 : Nat) (n1 : Nat) (v0 : List UInt8) (v2 : List (List UInt8)) (v5 : Int) (v6 : Int) (v8 : Int) : p4_10 (j + 1) n0 n1 v0 v2 v5 v6 v8 =
  (sel (Decidable.decide (v8 < (↑v0.length : Int)))
   (sel (Decidable.decide ((0 : Int) ≤ v8))
    (sel (Decidable.decide (v8 < (↑v0.length : Int)))
     (sel ((↑(v0.getD v8.toNat (0 : UInt8)).toNat : Int) == (↑(UInt8.toNat (32 : UInt8)) : Int))
      (p4_10 (j) (n0) (n1) (v0) (v2) (v5) (v6) (Go.IntKind.i64.wrap (v8 + (1 : Int))))
      (sel (Decidable.decide ((0 : Int) ≤ v8))
       (sel (Decidable.decide (v8 < (↑v0.length : Int)))
        (sel ((↑(v0.getD v8.toNat (0 : UInt8)).toNat : Int) == (↑(UInt8.toNat (34 : UInt8)) : Int))
         (obind (f10 j (v0) (v8)) fun r621 =>
          (sel (!r621.snd.fst)
           (p4_25 (n1) (n0) (n1) (v0) (v2) (v8) (v6))
           (sel (Decidable.decide (r621.fst < (↑v0.length : Int)))
            (sel (Decidable.decide ((0 : Int) ≤ r621.fst))
             (sel (Decidable.decide (r621.fst < (↑v0.length : Int)))
              (p4_2067 (j) (n0) (n1) (j) (v0) (v2) (v5) (v6) (v8) (r621.fst) ((↑(v0.getD (Int.toNat r621.fst) (0 : UInt8)).toNat : Int) != (↑(UInt8.toNat (32 : UInt8)) : Int)))
              none)
             none)
            (p4_2067 (j) (n0) (n1) (j) (v0) (v2) (v5) (v6) (v8) (r621.fst) (Bool.false)))))
         (p4_21 (j) (n0) (n1) (j) (v0) (v2) (v5) (v6) (v8) (v8)))
        none)
       none))
     none)
    none)
   (p4_25 (n1) (n0) (n1) (v0) (v2) (v5) (v6)))
  p4_25_eq (j : Nat) (n0 : Nat) (n1 : Nat) (v0 : List UInt8) (v2 : List (List UInt8)) (v5 : Int) (v6 : Int) : p4_25 (j + 1) n0 n1 v0 v2 v5 v6 =
  (sel (Decidable.decide (v6 < (↑v0.length : Int)))
   (some ([], v6, (61 : Int), ()))
   (sel (Decidable.decide (v5 ≥ (0 : Int)))
    (some ([], v5, (61 : Int), ()))
    (some (v2, (0 : Int), (0 : Int), ()))))
  p4_2067_eq (j : Nat) (n0 : Nat) (n1 : Nat) (n2 : Nat) (v0 : List UInt8) (v2 : List (List UInt8)) (v5 : Int) (v6 : Int) (v8 : Int) (v10 : Int) (v64 : Bool) : p4_2067 (j + 1) n0 n1 n2 v0 v2 v5 v6 v8 v10 v64 =
  (sel (v64)
   (some ([], Lk.imin v10 v6, (61 : Int), ()))
   (p4_20 (n2) (n0) (n1) (n2) (v0) (v2) (v5) (v6) (v8) (v10)))
  p4_21_eq (j : Nat) (n0 : Nat) (n1 : Nat) (n2 : Nat) (v0 : List UInt8) (v2 : List (List UInt8)) (v5 : Int) (v6 : Int) (v8 : Int) (v9 : Int) : p4_21 (j + 1) n0 n1 n2 v0 v2 v5 v6 v8 v9 =
  (sel (Decidable.decide (v9 < (↑v0.length : Int)))
   (sel (Decidable.decide ((0 : Int) ≤ v9))
    (sel (Decidable.decide (v9 < (↑v0.length : Int)))
     (sel ((↑(v0.getD v9.toNat (0 : UInt8)).toNat : Int) != (↑(UInt8.toNat (32 : UInt8)) : Int))
      (p4_22 (j) (n0) (n1) (n2) (j) (v0) (v2) (v5) (v6) (v8) (v9))
      (p4_23 (n2) (n0) (n1) (n2) (v0) (v2) (v5) (v6) (v8) (v9)))
     none)
    none)
   (p4_23 (n2) (n0) (n1) (n2) (v0) (v2) (v5) (v6) (v8) (v9)))
  p4_20_eq (j : Nat) (n0 : Nat) (n1 : Nat) (n2 : Nat) (v0 : List UInt8) (v2 : List (List UInt8)) (v5 : Int) (v6 : Int) (v8 : Int) (v10 : Int) : p4_20 (j + 1) n0 n1 n2 v0 v2 v5 v6 v8 v10 =
  (p4_23 (n2) (n0) (n1) (n2) (v0) (v2) (v5) (v6) (v8) (v10))
  p4_22_eq (j : Nat) (n0 : Nat) (n1 : Nat) (n2 : Nat) (n3 : Nat) (v0 : List UInt8) (v2 : List (List UInt8)) (v5 : Int) (v6 : Int) (v8 : Int) (v9 : Int) : p4_22 (j + 1) n0 n1 n2 n3 v0 v2 v5 v6 v8 v9 =
  (p4_21 (n3) (n0) (n1) (n2) (v0) (v2) (v5) (v6) (v8) (Go.IntKind.i64.wrap (v9 + (1 : Int))))
  p4_23_eq (j : Nat) (n0 : Nat) (n1 : Nat) (n2 : Nat) (v0 : List UInt8) (v2 : List (List UInt8)) (v5 : Int) (v6 : Int) (v8 : Int) (v9 : Int) : p4_23 (j + 1) n0 n1 n2 v0 v2 v5 v6 v8 v9 =
  (sel (Decidable.decide ((0 : Int) ≤ v9))
   (sel (Decidable.decide (v9 ≤ (↑v0.length : Int)))
    (sel (Decidable.decide ((0 : Int) ≤ v8))
     (sel (Decidable.decide (v8 ≤ v9))
      (sel (Decidable.decide (v2.length + [Lk.ext v0 v8 v9].length ≤ (1048576 : Nat)))
       (p4_10 (n2) (n0) (n1) (v0) (v2 ++ [Lk.ext v0 v8 v9]) (v5) (v6) (v9))
       none)
      none)
     none)
    none)
   none)
  f5_eq (n : Nat) (a0 : List UInt8) : f5 (n + 1) a0 =
  (p5_6 (n) (n) (a0) ([]) ((-1 : Int)) (Bool.false) (Bool.false) ((0 : Int)))
  p5_6_eq (j : Nat) (n0 : Nat) (v0 : List UInt8) (v5 : List (List UInt8)) (v6 : Int) (v7 : Bool) (v8 : Bool) (v9 : Int) : p5_6 (j + 1) n0 v0 v5 v6 v7 v8 v9 =
  (sel (Decidable.decide (v9 < (↑v0.length : Int)))
   (sel (Decidable.decide ((0 : Int) ≤ v9))
    (sel (Decidable.decide (v9 < (↑v0.length : Int)))
     (sel (Decidable.decide ((↑(v0.getD v9.toNat (0 : UInt8)).toNat : Int) < (↑(UInt8.toNat (32 : UInt8)) : Int)))
      (p5_2058 (j) (n0) (j) (v0) (v5) (v6) (v7) (v8) (v9) (v0.getD v9.toNat (0 : UInt8)) (Bool.true))
      (sel ((↑(v0.getD v9.toNat (0 : UInt8)).toNat : Int) == (↑(UInt8.toNat (127 : UInt8)) : Int))
       (p5_2058 (j) (n0) (j) (v0) (v5) (v6) (v7) (v8) (v9) (v0.getD v9.toNat (0 : UInt8)) (Bool.true))
       (sel (v8)
        (p5_2058 (j) (n0) (j) (v0) (v5) (v6) (v7) (v8) (v9) (v0.getD v9.toNat (0 : UInt8)) ((↑(v0.getD v9.toNat (0 : UInt8)).toNat : Int) != (↑(UInt8.toNat (32 : UInt8)) : Int)))
        (p5_2058 (j) (n0) (j) (v0) (v5) (v6) (v7) (v8) (v9) (v0.getD v9.toNat (0 : UInt8)) (Bool.false)))))
     none)
    none)
   (sel (v7)
    (some ([], v6, (61 : Int), ()))
    (sel (Decidable.decide (v6 ≥ (0 : Int)))
     (sel (Decidable.decide ((0 : Int) ≤ v6))
      (sel (Decidable.decide (v6 ≤ (↑v0.length : Int)))
       (sel (Decidable.decide (v5.length + [Lk.ext v0 v6 (↑v0.length : Int)].length ≤ (1048576 : Nat)))
        (p5_30 (n0) (n0) (v5 ++ [Lk.ext v0 v6 (↑v0.length : Int)]))
        none)
       none)
      none)
     (p5_30 (n0) (n0) (v5)))))
  p5_2058_eq (j : Nat) (n0 : Nat) (n1 : Nat) (v0 : List UInt8) (v5 : List (List UInt8)) (v6 : Int) (v7 : Bool) (v8 : Bool) (v9 : Int) (v10 : UInt8) (v20 : Bool) : p5_2058 (j + 1) n0 n1 v0 v5 v6 v7 v8 v9 v10 v20 =
  (sel (v20)
   (some ([], v9, (61 : Int), ()))
   (sel ((↑v10.toNat : Int) == (↑(UInt8.toNat (32 : UInt8)) : Int))
    (p5_2060 (j) (n0) (n1) (j) (v0) (v5) (v6) (v7) (v8) (v9) (v10) (!v7))
    (p5_2060 (j) (n0) (n1) (j) (v0) (v5) (v6) (v7) (v8) (v9) (v10) (Bool.false))))
  p5_30_eq (j : Nat) (n0 : Nat) (v5 : List (List UInt8)) : p5_30 (j + 1) n0 v5 =
  (some (v5, (0 : Int), (0 : Int), ()))
  p5_2060_eq (j : Nat) (n0 : Nat) (n1 : Nat) (n2 : Nat) (v0 : List UInt8) (v5 : List (List UInt8)) (v6 : Int) (v7 : Bool) (v8 : Bool) (v9 : Int) (v10 : UInt8) (v35 : Bool) : p5_2060 (j + 1) n0 n1 n2 v0 v5 v6 v7 v8 v9 v10 v35 =
  (sel (v35)
   (sel (Decidable.decide (v6 ≥ (0 : Int)))
    (sel (Decidable.decide ((0 : Int) ≤ v9))
     (sel (Decidable.decide (v9 ≤ (↑v0.length : Int)))
      (sel (Decidable.decide ((0 : Int) ≤ v6))
       (sel (Decidable.decide (v6 ≤ v9))
        (sel (Decidable.decide (v5.length + [Lk.ext v0 v6 v9].length ≤ (1048576 : Nat)))
         (p5_14 (j) (n0) (n1) (n2) (j) (v0) (v5 ++ [Lk.ext v0 v6 v9]) (v7) (v9))
         none)
        none)
       none)
      none)
     none)
    (p5_14 (j) (n0) (n1) (n2) (j) (v0) (v5) (v7) (v9)))
   (sel (Decidable.decide (v6 < (0 : Int)))
    (p5_7 (n1) (n0) (n1) (v0) (v5) (v9) ((↑v10.toNat : Int) == (↑(UInt8.toNat (34 : UInt8)) : Int)) (v8) (v9))
    (sel (v7)
     (p5_2068 (j) (n0) (n1) (n2) (j) (v0) (v5) (v6) (v7) (v8) (v9) (v10) ((↑v10.toNat : Int) == (↑(UInt8.toNat (92 : UInt8)) : Int)))
     (p5_2068 (j) (n0) (n1) (n2) (j) (v0) (v5) (v6) (v7) (v8) (v9) (v10) (Bool.false)))))
  p5_14_eq (j : Nat) (n0 : Nat) (n1 : Nat) (n2 : Nat) (n3 : Nat) (v0 : List UInt8) (v5 : List (List UInt8)) (v7 : Bool) (v9 : Int) : p5_14 (j + 1) n0 n1 n2 n3 v0 v5 v7 v9 =
  (p5_7 (n1) (n0) (n1) (v0) (v5) ((-1 : Int)) (v7) (Bool.false) (v9))
  p5_7_eq (j : Nat) (n0 : Nat) (n1 : Nat) (v0 : List UInt8) (v5 : List (List UInt8)) (v6 : Int) (v7 : Bool) (v8 : Bool) (v9 : Int) : p5_7 (j + 1) n0 n1 v0 v5 v6 v7 v8 v9 =
  (p5_6 (n1) (n0) (v0) (v5) (v6) (v7) (v8) (Go.IntKind.i64.wrap (v9 + (1 : Int))))
  p5_2068_eq (j : Nat) (n0 : Nat) (n1 : Nat) (n2 : Nat) (n3 : Nat) (v0 : List UInt8) (v5 : List (List UInt8)) (v6 : Int) (v7 : Bool) (v8 : Bool) (v9 : Int) (v10 : UInt8) (v57 : Bool) : p5_2068 (j + 1) n0 n1 n2 n3 v0 v5 v6 v7 v8 v9 v10 v57 =
  (sel (v57)
   (sel (Decidable.decide (Go.IntKind.i64.wrap (v9 + (1 : Int)) < (↑v0.length : Int)))
    (sel (Decidable.decide ((0 : Int) ≤ Go.IntKind.i64.wrap (v9 + (1 : Int))))
     (sel (Decidable.decide (Go.IntKind.i64.wrap (v9 + (1 : Int)) < (↑v0.length : Int)))
      (sel (Decidable.decide ((↑(v0.getD (Go.IntKind.i64.wrap (v9 + (1 : Int))).toNat (0 : UInt8)).toNat : Int) < (↑(UInt8.toNat (32 : UInt8)) : Int)))
       (p5_2070 (j) (n0) (n1) (n2) (n3) (j) (v0) (v5) (v6) (v7) (v8) (Go.IntKind.i64.wrap (v9 + (1 : Int))) (Bool.true))
       (sel (Decidable.decide ((0 : Int) ≤ Go.IntKind.i64.wrap (v9 + (1 : Int))))
        (sel (Decidable.decide (Go.IntKind.i64.wrap (v9 + (1 : Int)) < (↑v0.length : Int)))
         (p5_2070 (j) (n0) (n1) (n2) (n3) (j) (v0) (v5) (v6) (v7) (v8) (Go.IntKind.i64.wrap (v9 + (1 : Int))) ((↑(v0.getD (Go.IntKind.i64.wrap (v9 + (1 : Int))).toNat (0 : UInt8)).toNat : Int) == (↑(UInt8.toNat (127 : UInt8)) : Int)))
         none)
        none))
      none)
     none)
    (p5_2070 (j) (n0) (n1) (n2) (n3) (j) (v0) (v5) (v6) (v7) (v8) (Go.IntKind.i64.wrap (v9 + (1 : Int))) (Bool.false)))
   (sel (v7)
    (p5_2072 (j) (n0) (n1) (n2) (n3) (j) (v0) (v5) (v6) (v7) (v8) (v9) ((↑v10.toNat : Int) == (↑(UInt8.toNat (34 : UInt8)) : Int)))
    (p5_2072 (j) (n0) (n1) (n2) (n3) (j) (v0) (v5) (v6) (v7) (v8) (v9) (Bool.false))))
  p5_2070_eq (j : Nat) (n0 : Nat) (n1 : Nat) (n2 : Nat) (n3 : Nat) (n4 : Nat) (v0 : List UInt8) (v5 : List (List UInt8)) (v6 : Int) (v7 : Bool) (v8 : Bool) (v9 : Int) (v80 : Bool) : p5_2070 (j + 1) n0 n1 n2 n3 n4 v0 v5 v6 v7 v8 v9 v80 =
  (sel (v80)
   (some ([], v9, (61 : Int), ()))
   (p5_7 (n1) (n0) (n1) (v0) (v5) (v6) (v7) (v8) (v9)))
  p5_2072_eq (j : Nat) (n0 : Nat) (n1 : Nat) (n2 : Nat) (n3 : Nat) (n4 : Nat) (v0 : List UInt8) (v5 : List (List UInt8)) (v6 : Int) (v7 : Bool) (v8 : Bool) (v9 : Int) (v82 : Bool) : p5_2072 (j + 1) n0 n1 n2 n3 n4 v0 v5 v6 v7 v8 v9 v82 =
  (sel (v82)
   (p5_7 (n1) (n0) (n1) (v0) (v5) (v6) (Bool.false) (Bool.true) (v9))
   (p5_7 (n1) (n0) (n1) (v0) (v5) (v6) (v7) (v8) (v9)))
  f3_eq (n : Nat) (a0 : List UInt8) : f3 (n + 1) a0 =
  (obind (f4 n (a0)) fun r37 =>
   (obind (f4 n (a0)) fun r108 =>
    (obind (f5 n (a0)) fun r179 =>
     (obind (f4 n ([(97 : UInt8), (32 : UInt8), (98 : UInt8)])) fun r243 =>
      (obind (f6 n (r37.fst) (r179.fst)) fun r322 =>
       (sel (!r322.fst)
        (p3_2054 (n) (n) (r37.fst) (r108.fst) (r179.fst) (Bool.true))
        (sel (r37.snd.fst != r179.snd.fst)
         (p3_2054 (n) (n) (r37.fst) (r108.fst) (r179.fst) (Bool.true))
         (sel (r37.snd.snd.fst != r179.snd.snd.fst)
          (p3_2054 (n) (n) (r37.fst) (r108.fst) (r179.fst) (Bool.true))
          (obind (f7 n (a0)) fun r1126 =>
           (obind (f8 n (a0)) fun r1153 =>
            (sel (r1126.fst != r1153.fst)
             (p3_2054 (n) (n) (r37.fst) (r108.fst) (r179.fst) (Bool.true))
             (obind (f6 n (r243.fst) ([[(97 : UInt8)], [(98 : UInt8)]])) fun r1331 =>
              (sel (!r1331.fst)
               (p3_2054 (n) (n) (r37.fst) (r108.fst) (r179.fst) (Bool.true))
               (sel (r243.snd.snd.fst != (0 : Int))
                (p3_2054 (n) (n) (r37.fst) (r108.fst) (r179.fst) (Bool.true))
                (obind (f9 n ) fun r1492 =>
                 (p3_2054 (n) (n) (r37.fst) (r108.fst) (r179.fst) (!r1492.fst)))))))))))))))))
  p3_2054_eq (j : Nat) (n0 : Nat) (v3 : List (List UInt8)) (v6 : List (List UInt8)) (v9 : List (List UInt8)) (v73 : Bool) : p3_2054 (j + 1) n0 v3 v6 v9 v73 =
  (sel (v73)
   (some (Bool.false, ()))
   (p3_7 (n0) (n0) (v3) (v6) (v9)))
  p3_7_eq (j : Nat) (n0 : Nat) (v3 : List (List UInt8)) (v6 : List (List UInt8)) (v9 : List (List UInt8)) : p3_7 (j + 1) n0 v3 v6 v9 =
  (p3_8 (j) (n0) (j) (v3) (v6) (v9) ((0 : Int)))
  p3_8_eq (j : Nat) (n0 : Nat) (n1 : Nat) (v3 : List (List UInt8)) (v6 : List (List UInt8)) (v9 : List (List UInt8)) (v15 : Int) : p3_8 (j + 1) n0 n1 v3 v6 v9 v15 =
  (sel (Decidable.decide (v15 < (↑v3.length : Int)))
   (sel (Decidable.decide ((0 : Int) ≤ v15))
    (sel (Decidable.decide (v15 < (↑v3.length : Int)))
     (p3_8 (j) (n0) (n1) (v3.set v15.toNat [(115 : UInt8), (112 : UInt8), (111 : UInt8), (105 : UInt8), (108 : UInt8), (116 : UInt8)]) (v6) (v9) (Go.IntKind.i64.wrap (v15 + (1 : Int))))
     none)
    none)
   (obind (f6 n1 (v6) (v9)) fun r1724 =>
    (some (r1724.fst, ()))))
end NsG

namespace NsG
open Go Lk

theorem sel_t {α : Type} (x y : α) : sel true x y = x := rfl
theorem sel_f {α : Type} (x y : α) : sel false x y = y := rfl
theorem sel_dec {α : Type} (p : Prop) [Decidable p] (x y : α) : sel (decide p) x y = if p then x else y := by
  by_cases h : p <;> simp [sel, h]
theorem ob_some {α β : Type} (a : α) (f : α → Option β) : obind (some a) f = f a := rfl

theorem b_lt (a b : UInt8) : decide ((a.toNat : Int) < (b.toNat : Int)) = decide (a < b) := by
  apply decide_eq_decide.2
  rw [UInt8.lt_iff_toNat_lt]
  exact Int.ofNat_lt
theorem b_ltP (a b : UInt8) : ((a.toNat : Int) < (b.toNat : Int)) = (a < b) := by
  rw [UInt8.lt_iff_toNat_lt]
  exact propext Int.ofNat_lt
theorem b_eq (a b : UInt8) : ((a.toNat : Int) == (b.toNat : Int)) = (a == b) := by
  rw [Bool.eq_iff_iff]
  simp only [beq_iff_eq, Int.ofNat_inj, UInt8.toNat_inj]
theorem b_ne (a b : UInt8) : ((a.toNat : Int) != (b.toNat : Int)) = (a != b) := by
  simp only [bne, b_eq]

theorem wrap64 {x : Int} (h1 : -9223372036854775808 ≤ x) (h2 : x ≤ 9223372036854775807) : IntKind.i64.wrap x = x := IntWalk.i64_in x ⟨h1, h2⟩

/-- Where a line's reader stands. -/
inductive Wh
  | out | bare (s : Nat) | quo (s : Nat) | clo (s : Nat)

abbrev Res := List (List UInt8) × Int × Int × Unit
def bad (k : Nat) : Res := ([], (k : Int), 61, ())
def ctl (c : UInt8) : Bool := decide (c < 32) || c == 127
def cut (line : List UInt8) (s i : Nat) : List UInt8 := ext line (s : Int) (i : Int)

/-- A line's words, byte by byte. -/
def run (line : List UInt8) : Wh → Nat → List UInt8 → List (List UInt8) → Res
  | .out, _, [], ws => (ws, 0, 0, ())
  | .bare s, i, [], ws => (ws ++ [cut line s i], 0, 0, ())
  | .quo s, _, [], _ => bad s
  | .clo s, i, [], ws => (ws ++ [cut line s i], 0, 0, ())
  | .out, i, c :: r, ws => bif ctl c then bad i else bif c == 32 then run line .out (i + 1) r ws else bif c == 34 then run line (.quo i) (i + 1) r ws else run line (.bare i) (i + 1) r ws
  | .bare s, i, c :: r, ws => bif ctl c then bad i else bif c == 32 then run line .out (i + 1) r (ws ++ [cut line s i]) else run line (.bare s) (i + 1) r ws
  | .quo s, i, [c], ws => bif ctl c then bad i else bif c == 92 then bad s else bif c == 34 then run line (.clo s) (i + 1) [] ws else run line (.quo s) (i + 1) [] ws
  | .quo s, i, c :: d :: r, ws => bif ctl c then bad i else bif c == 92 then (bif ctl d then bad (i + 1) else run line (.quo s) (i + 2) r ws) else bif c == 34 then run line (.clo s) (i + 1) (d :: r) ws else run line (.quo s) (i + 1) (d :: r) ws
  | .clo s, i, c :: r, ws => bif ctl c then bad i else bif c == 32 then run line .out (i + 1) r (ws ++ [cut line s i]) else bad i

def Wh.open : Wh → Int
  | .out => -1 | .bare s => s | .quo s => s | .clo s => s
def Wh.isQ : Wh → Bool | .quo _ => true | _ => false
def Wh.isC : Wh → Bool | .clo _ => true | _ => false
end NsG

namespace NsG
open Go Lk

def Wh.le (i : Nat) : Wh → Prop
  | .out => True | .bare s => s ≤ i | .quo s => s ≤ i | .clo s => s ≤ i

theorem drop_cons {line : List UInt8} {i : Nat} {c : UInt8} {r : List UInt8} (h : line.drop i = c :: r) : line.getD i 0 = c ∧ i < line.length ∧ line.drop (i + 1) = r := by
  have hl : i < line.length := by
    have := congrArg List.length h
    simp at this; omega
  refine ⟨?_, hl, ?_⟩
  · have := congrArg (·[0]?) h
    simp only [List.getElem?_drop, List.getElem?_cons_zero, Nat.add_zero] at this
    simp [List.getD_eq_getElem?_getD, this]
  · have := congrArg List.tail h
    simpa [List.tail_drop] using this

theorem run_ctl {line : List UInt8} {wh : Wh} {i : Nat} {c : UInt8} {r : List UInt8} {ws : List (List UInt8)} (h : ctl c = true) : run line wh i (c :: r) ws = bad i := by
  cases wh with
  | quo s => cases r <;> simp [run, h]
  | _ => simp [run, h]

theorem p5_ok (X : Fns) (line : List UInt8) (hlen : line.length ≤ 1048576) : ∀ (N : Nat) (rest : List UInt8) (i : Nat) (ws : List (List UInt8)) (wh : Wh) (j n0 : Nat), rest.length ≤ N →
    line.drop i = rest → i ≤ line.length → wh.le i → ws.length + rest.length + (match wh with | .out => 0 | _ => 1) ≤ 1048576 → 2 * rest.length + 10 ≤ j → 1 ≤ n0 →
    X.p5_6 j n0 line ws wh.open wh.isQ wh.isC (i : Int) = some (run line wh i rest ws) := by
  intro N
  induction N with
  | zero =>
    intro rest i ws wh j n0 hN hd hi hle hws hj hn
    obtain ⟨j, rfl⟩ : ∃ k, j = k + 1 := ⟨j - 1, by omega⟩
    obtain ⟨n0, rfl⟩ : ∃ k, n0 = k + 1 := ⟨n0 - 1, by omega⟩
    have hr : rest = [] := List.eq_nil_of_length_eq_zero (by omega)
    subst hr
    have hil : i = line.length := by
      have := congrArg List.length hd
      simp at this; omega
    subst hil
    rw [X.p5_6_eq]
    cases wh with
    | out => simp [Wh.open, Wh.isQ, Wh.isC, sel_dec, sel_t, sel_f, X.p5_30_eq, run]
    | bare s =>
      simp only [Wh.le] at hle
      simp [Wh.open, Wh.isQ, Wh.isC, sel_dec, sel_t, sel_f, X.p5_30_eq, run, cut, hle]
      simp at hws; omega
    | quo s => simp [Wh.open, Wh.isQ, Wh.isC, sel_dec, sel_t, sel_f, X.p5_30_eq, run, bad]
    | clo s =>
      simp only [Wh.le] at hle
      simp [Wh.open, Wh.isQ, Wh.isC, sel_dec, sel_t, sel_f, X.p5_30_eq, run, cut, hle]
      simp at hws; omega
  | succ N ih =>
    intro rest i ws wh j n0 hN hd hi hle hws hj hn
    cases rest with
    | nil =>
      exact ih [] i ws wh j n0 (by simp) hd hi hle hws hj hn
    | cons c r =>
    obtain ⟨j, rfl⟩ : ∃ k, j = k + 10 := ⟨j - 10, by omega⟩
    obtain ⟨hc, hil, hr⟩ := drop_cons hd
    simp only [List.length_cons] at hj hN hws
    have w1 : IntKind.i64.wrap ((i : Int) + 1) = ((i + 1 : Nat) : Int) := by rw [wrap64 (by omega) (by omega)]; omega
    have h0 : (0 : Int) ≤ (i : Int) := by omega
    have hlt : (i : Int) < (line.length : Int) := by omega
    have next : ∀ (ws' : List (List UInt8)) (wh' : Wh), wh'.le (i + 1) → ws'.length + r.length + (match wh' with | .out => 0 | _ => 1) ≤ 1048576 →
        X.p5_6 (j + 9) n0 line ws' wh'.open wh'.isQ wh'.isC ((i + 1 : Nat) : Int) = some (run line wh' (i + 1) r ws') :=
      fun ws' wh' q1 q2 => ih r (i + 1) ws' wh' (j + 9) n0 (by omega) hr (by omega) q1 q2 (by omega) hn
    rw [X.p5_6_eq]
    simp only [sel_dec, hlt, h0, if_true, b_lt, b_eq, b_ne, hc, Int.toNat_natCast]
    by_cases h32 : c < 32
    · rw [run_ctl (by simp [ctl, h32])]
      simp only [h32, if_true, X.p5_2058_eq, sel_t]; rfl
    by_cases h127 : c = 127
    · rw [run_ctl (by simp [ctl, h127])]
      subst h127
      simp only [h32, if_false, X.p5_2058_eq, sel_t, beq_self_eq_true]; rfl
    have hctl : ctl c = false := by simp [ctl, h32, h127]
    have h127' : (c == 127) = false := by simp [h127]
    simp only [h32, if_false, h127', sel_f]
    cases wh with
    | out =>
      simp only [Wh.isC, Wh.isQ, Wh.open, sel_f, X.p5_2058_eq, b_eq]
      by_cases hsp : c = 32
      · subst hsp
        simp only [beq_self_eq_true, sel_t, Bool.not_false, X.p5_2060_eq, sel_dec, X.p5_14_eq, X.p5_7_eq, w1]
        rw [if_neg (by omega)]
        have := next ws .out trivial (by simp only; omega)
        simp only [Wh.isC, Wh.isQ, Wh.open] at this
        rw [this]
        simp [run, hctl]
      · have hsp' : (c == 32) = false := by simp [hsp]
        simp only [hsp', sel_f, X.p5_2060_eq, sel_dec, X.p5_7_eq, w1, b_eq]
        rw [if_pos (by omega)]
        by_cases hq : c = 34
        · subst hq
          have := next ws (.quo i) (by simp [Wh.le]) (by simp only; simp only at hws; omega)
          simp only [Wh.isC, Wh.isQ, Wh.open] at this
          simp only [beq_self_eq_true]
          rw [this]
          simp [run, hctl]
        · have hq' : (c == 34) = false := by simp [hq]
          have := next ws (.bare i) (by simp [Wh.le]) (by simp only; simp only at hws; omega)
          simp only [Wh.isC, Wh.isQ, Wh.open] at this
          simp only [hq']
          rw [this]
          simp [run, hctl, hsp', hq']
    | bare s =>
      simp only [Wh.le] at hle
      simp only at hws
      simp only [Wh.isC, Wh.isQ, Wh.open, sel_f, X.p5_2058_eq, b_eq]
      by_cases hsp : c = 32
      · subst hsp
        simp only [beq_self_eq_true, sel_t, Bool.not_false, X.p5_2060_eq, sel_dec, X.p5_14_eq, X.p5_7_eq, w1]
        rw [if_pos (by omega), if_pos (by omega), if_pos (by omega), if_pos (by omega), if_pos (by omega), if_pos (by simp; omega)]
        have := next (ws ++ [cut line s i]) .out trivial (by simp; omega)
        simp only [Wh.isC, Wh.isQ, Wh.open, cut] at this
        rw [this]
        simp [run, hctl, cut]
      · have hsp' : (c == 32) = false := by simp [hsp]
        simp only [hsp', sel_f, X.p5_2060_eq, sel_dec, X.p5_7_eq, w1, b_eq, X.p5_2068_eq, X.p5_2072_eq]
        rw [if_neg (by omega)]
        have := next ws (.bare s) (by simp only [Wh.le]; omega) (by simp only; omega)
        simp only [Wh.isC, Wh.isQ, Wh.open] at this
        rw [this]
        simp [run, hctl, hsp']
    | clo s =>
      simp only [Wh.le] at hle
      simp only at hws
      simp only [Wh.isC, Wh.isQ, Wh.open, sel_t, X.p5_2058_eq, b_eq]
      by_cases hsp : c = 32
      · subst hsp
        simp only [bne_self_eq_false, beq_self_eq_true, sel_f, sel_t, Bool.not_false, X.p5_2060_eq, sel_dec, X.p5_14_eq, X.p5_7_eq, w1]
        rw [if_pos (by omega), if_pos (by omega), if_pos (by omega), if_pos (by omega), if_pos (by omega), if_pos (by simp; omega)]
        have := next (ws ++ [cut line s i]) .out trivial (by simp; omega)
        simp only [Wh.isC, Wh.isQ, Wh.open, cut] at this
        rw [this]
        simp [run, hctl, cut]
      · have hsp' : (c == 32) = false := by simp [hsp]
        have hsp2 : (c != 32) = true := by simp [hsp]
        simp [hsp2, sel_t, run, hctl, hsp', bad]
    | quo s =>
      simp only [Wh.le] at hle
      simp only at hws
      simp only [Wh.isC, Wh.isQ, Wh.open, sel_f, X.p5_2058_eq, b_eq]
      have hstep : sel (c == 32) (X.p5_2060 (j + 8) n0 (j + 9) (j + 8) line ws (↑s) true false (↑i) c (!true)) (X.p5_2060 (j + 8) n0 (j + 9) (j + 8) line ws (↑s) true false (↑i) c false) = X.p5_2060 (j + 8) n0 (j + 9) (j + 8) line ws (↑s) true false (↑i) c false := by
        cases (c == 32) <;> rfl
      rw [hstep]
      simp only [sel_f, sel_t, X.p5_2060_eq, sel_dec, b_eq, X.p5_2068_eq]
      rw [if_neg (by omega)]
      by_cases hbs : c = 92
      · subst hbs
        simp only [beq_self_eq_true, sel_t, w1]
        have w2 : IntKind.i64.wrap (((i + 1 : Nat) : Int) + 1) = ((i + 2 : Nat) : Int) := by rw [wrap64 (by omega) (by omega)]; omega
        cases r with
        | nil =>
          have hl : line.length = i + 1 := by
            have := congrArg List.length hr
            simp at this; omega
          rw [if_neg (by omega)]
          simp only [X.p5_2070_eq, sel_f, X.p5_7_eq, w2]
          rw [X.p5_6_eq]
          simp only [sel_dec]
          rw [if_neg (by omega)]
          simp [sel_t, run, hctl, bad]
        | cons d r =>
          obtain ⟨hd1, hil1, hr1⟩ := drop_cons hr
          have h01 : (0 : Int) ≤ ((i + 1 : Nat) : Int) := by omega
          have hlt1 : ((i + 1 : Nat) : Int) < (line.length : Int) := by omega
          simp only [if_pos h01, if_pos hlt1, Int.toNat_natCast, hd1, b_lt, b_ltP, b_eq, X.p5_2070_eq, sel_t, X.p5_7_eq, w2]
          by_cases hd32 : d < 32
          · rw [if_pos hd32]
            simp [run, hctl, ctl, hd32, bad]
          · rw [if_neg hd32]
            by_cases hd127 : d = 127
            · subst hd127
              simp [run, hctl, ctl, bad, sel_t]
            · have hd127' : (d == 127) = false := by simp [hd127]
              have hctl' : ctl d = false := by simp [ctl, hd32, hd127]
              simp only [hd127', sel_f]
              simp only [List.length_cons] at hj hN hws
              have := ih r (i + 2) ws (.quo s) (j + 9) n0 (by omega) hr1 (by omega) (by simp only [Wh.le]; omega) (by simp only; omega) (by omega) hn
              simp only [Wh.isC, Wh.isQ, Wh.open] at this
              rw [this]
              simp [run, hctl, hctl']
      · have hbs' : (c == 92) = false := by simp [hbs]
        simp only [hbs', sel_f, X.p5_2072_eq, X.p5_7_eq, w1]
        by_cases hq : c = 34
        · subst hq
          have := next ws (.clo s) (by simp only [Wh.le]; omega) (by simp only; omega)
          simp only [Wh.isC, Wh.isQ, Wh.open] at this
          simp only [beq_self_eq_true, sel_t]
          rw [this]
          cases r <;> simp [run, hctl]
        · have hq' : (c == 34) = false := by simp [hq]
          have := next ws (.quo s) (by simp only [Wh.le]; omega) (by simp only; omega)
          simp only [Wh.isC, Wh.isQ, Wh.open] at this
          simp only [hq', sel_f]
          rw [this]
          cases r <;> simp [run, hctl, hbs', hq']
end NsG

namespace NsG
open Go Lk

def lt (a b : Nat) : Bool := Nat.blt a b
theorem lt_t {a b : Nat} (h : a < b) : lt a b = true := by simpa [lt, Nat.blt_eq] using h
theorem lt_f {a b : Nat} (h : ¬ a < b) : lt a b = false := by
  cases e : lt a b
  · rfl
  · exact absurd (by simpa [lt, Nat.blt_eq] using e) h

def lowR : List UInt8 → Nat → Nat
  | [], i => i
  | c :: r, i => bif ctl c then i else lowR r (i + 1)

theorem lowR_ge : ∀ (r : List UInt8) (i : Nat), i ≤ lowR r i
  | [], i => Nat.le_refl i
  | c :: r, i => by
    have := lowR_ge r (i + 1)
    simp only [lowR]
    cases ctl c <;> simp <;> omega
theorem lowR_le : ∀ (r : List UInt8) (i : Nat), lowR r i ≤ i + r.length
  | [], i => Nat.le_refl i
  | c :: r, i => by
    have := lowR_le r (i + 1)
    simp only [lowR, List.length_cons]
    cases ctl c <;> simp <;> omega

def endsR : List UInt8 → Nat → Nat × Bool
  | [], _ => (0, false)
  | [c], i => bif c == 92 then (0, false) else bif c == 34 then (i + 1, true) else (0, false)
  | c :: d :: r, i => bif c == 92 then endsR r (i + 2) else bif c == 34 then (i + 1, true) else endsR (d :: r) (i + 1)

theorem endsR_gt : ∀ (N : Nat) (r : List UInt8) (i : Nat), r.length ≤ N → (endsR r i).2 = true → i < (endsR r i).1 ∧ (endsR r i).1 ≤ i + r.length := by
  intro N
  induction N with
  | zero => intro r i h h2; rw [List.eq_nil_of_length_eq_zero (Nat.le_zero.1 h)] at h2; simp [endsR] at h2
  | succ N ih =>
    intro r i h h2
    match r with
    | [] => simp [endsR] at h2
    | [c] =>
      simp only [endsR] at h2 ⊢
      cases h92 : (c == 92) <;> cases h34 : (c == 34) <;> simp_all
    | c :: d :: r =>
      simp only [endsR, List.length_cons] at h h2 ⊢
      cases h92 : (c == 92)
      · cases h34 : (c == 34)
        · simp only [h92, h34, cond_false] at h2 ⊢
          have := ih (d :: r) (i + 1) (by simp; omega) h2
          simp only [List.length_cons] at this
          omega
        · simp only [cond_false, cond_true]; omega
      · simp only [h92, cond_true] at h2 ⊢
        have := ih r (i + 2) (by omega) h2
        omega

theorem run_quo (line : List UInt8) (s : Nat) (ws : List (List UInt8)) : ∀ (N : Nat) (r : List UInt8) (i : Nat), r.length ≤ N → line.drop i = r → i ≤ line.length →
    run line (.quo s) i r ws = bif (endsR r i).2 then (bif lt (lowR r i) (endsR r i).1 then bad (lowR r i) else run line (.clo s) (endsR r i).1 (line.drop (endsR r i).1) ws)
      else (bif lt (lowR r i) line.length then bad (lowR r i) else bad s) := by
  intro N
  induction N with
  | zero =>
    intro r i h hd hi
    rw [List.eq_nil_of_length_eq_zero (Nat.le_zero.1 h)] at hd ⊢
    have := congrArg List.length hd
    simp at this
    simp only [run, endsR, cond_false]
    rw [show lowR [] i = i from rfl, lt_f (by omega)]; rfl
  | succ N ih =>
    intro r i h hd hi
    match r with
    | [] =>
      have := congrArg List.length hd
      simp at this
      simp only [run, endsR, cond_false]
      rw [show lowR [] i = i from rfl, lt_f (by omega)]; rfl
    | [c] =>
      obtain ⟨hc, hil, hr⟩ := drop_cons hd
      have hl := congrArg List.length hd
      simp at hl
      simp only [run, endsR]
      cases hct : ctl c
      · have el : lowR [c] i = i + 1 := by simp only [lowR, hct, cond_false]
        rw [el]
        cases h92 : (c == 92)
        · cases h34 : (c == 34)
          · simp only [cond_false]
            rw [lt_f (by omega)]
            simp
          · simp only [cond_false, cond_true]
            rw [lt_f (by omega), hr]; rfl
        · simp only [cond_false, cond_true]
          rw [lt_f (by omega)]; rfl
      · have h92 : (c == 92) = false := by
          simp only [ctl, Bool.or_eq_true, decide_eq_true_eq, beq_iff_eq] at hct
          rw [beq_eq_false_iff_ne]; intro e; subst e; rcases hct with h | h <;> exact absurd h (by decide)
        have h34 : (c == 34) = false := by
          simp only [ctl, Bool.or_eq_true, decide_eq_true_eq, beq_iff_eq] at hct
          rw [beq_eq_false_iff_ne]; intro e; subst e; rcases hct with h | h <;> exact absurd h (by decide)
        have el : lowR [c] i = i := by simp only [lowR, hct, cond_true]
        rw [el]
        simp only [h92, h34, cond_false, cond_true]
        rw [lt_t (by omega)]; rfl
    | c :: d :: r =>
      obtain ⟨hc, hil, hr⟩ := drop_cons hd
      obtain ⟨hc2, hil2, hr2⟩ := drop_cons hr
      simp only [List.length_cons] at h
      cases hct : ctl c
      · cases h92 : (c == 92)
        · cases h34 : (c == 34)
          · have := ih (d :: r) (i + 1) (by simp only [List.length_cons]; omega) hr (by omega)
            simp only [run, endsR, hct, h92, h34, cond_false] at this ⊢
            have el : lowR (c :: d :: r) i = lowR (d :: r) (i + 1) := by simp only [lowR, hct, cond_false]
            rw [this, el]
          · simp only [run, endsR, hct, h92, h34, cond_false, cond_true]
            have e : lowR (c :: d :: r) i = lowR (d :: r) (i + 1) := by simp only [lowR, hct, cond_false]
            have := lowR_ge (d :: r) (i + 1)
            rw [e, lt_f (by omega), hr]; rfl
        · have := ih r (i + 2) (by omega) hr2 (by omega)
          simp only [run, endsR, hct, h92, cond_false, cond_true]
          cases hctd : ctl d
          · have el : lowR (c :: d :: r) i = lowR r (i + 2) := by simp only [lowR, hct, hctd, cond_false]
            rw [el]; simp only [cond_false]; exact this
          · have el : lowR (c :: d :: r) i = i + 1 := by simp only [lowR, hct, hctd, cond_false, cond_true]
            rw [el]; simp only [cond_true]
            cases he : (endsR r (i + 2)).2
            · simp only [cond_false]; rw [lt_t (by omega)]; rfl
            · have := (endsR_gt _ r (i + 2) (Nat.le_refl _) he).1
              simp only [cond_true]; rw [lt_t (by omega)]; rfl
      · have h92 : (c == 92) = false := by
          simp only [ctl, Bool.or_eq_true, decide_eq_true_eq, beq_iff_eq] at hct
          rw [beq_eq_false_iff_ne]; intro e; subst e; rcases hct with h | h <;> exact absurd h (by decide)
        have h34 : (c == 34) = false := by
          simp only [ctl, Bool.or_eq_true, decide_eq_true_eq, beq_iff_eq] at hct
          rw [beq_eq_false_iff_ne]; intro e; subst e; rcases hct with h | h <;> exact absurd h (by decide)
        have el : lowR (c :: d :: r) i = i := by simp only [lowR, hct, cond_true]
        rw [el]
        simp only [run, endsR, hct, h92, h34, cond_false, cond_true]
        cases he : (endsR (d :: r) (i + 1)).2
        · simp only [cond_false]; rw [lt_t (by omega)]; rfl
        · have := (endsR_gt _ (d :: r) (i + 1) (Nat.le_refl _) he).1
          simp only [cond_true]; rw [lt_t (by omega)]; rfl

theorem f10_ok (X : Fns) (line : List UInt8) (hlen : line.length ≤ 1048576) : ∀ (N : Nat) (r : List UInt8) (i j n0 : Nat), r.length ≤ N → line.drop i = r → i ≤ line.length + 1 → r.length + 2 ≤ j → 1 ≤ n0 →
    X.p10_2 j n0 line (i : Int) = some (((endsR r i).1 : Int), (endsR r i).2, ()) := by
  intro N
  induction N with
  | zero =>
    intro r i j n0 h hd hi hj hn
    obtain ⟨j, rfl⟩ : ∃ k, j = k + 1 := ⟨j - 1, by omega⟩
    rw [List.eq_nil_of_length_eq_zero (Nat.le_zero.1 h)] at hd ⊢
    have := congrArg List.length hd
    simp at this
    rw [X.p10_2_eq, sel_dec, if_neg (by omega)]
    rfl
  | succ N ih =>
    intro r i j n0 h hd hi hj hn
    match r with
    | [] => exact ih [] i j n0 (by simp) hd hi hj hn
    | c :: r =>
      obtain ⟨hc, hil, hr⟩ := drop_cons hd
      simp only [List.length_cons] at h hj
      obtain ⟨j, rfl⟩ : ∃ k, j = k + 2 := ⟨j - 2, by omega⟩
      obtain ⟨n0, rfl⟩ : ∃ k, n0 = k + 1 := ⟨n0 - 1, by omega⟩
      have w1 : IntKind.i64.wrap ((i : Int) + 1) = ((i + 1 : Nat) : Int) := by rw [wrap64 (by omega) (by omega)]; omega
      have w2 : IntKind.i64.wrap (((i + 1 : Nat) : Int) + 1) = ((i + 2 : Nat) : Int) := by rw [wrap64 (by omega) (by omega)]; omega
      rw [X.p10_2_eq]
      simp only [sel_dec]
      rw [if_pos (by omega), if_pos (by omega), if_pos (by omega)]
      simp only [Int.toNat_natCast, hc, b_eq, X.p10_3_eq, w1, w2]
      cases h92 : (c == 92)
      · simp only [sel_f]
        cases h34 : (c == 34)
        · simp only [sel_f]
          rw [ih r (i + 1) (j + 1) (n0 + 1) (by omega) hr (by omega) (by omega) (by omega)]
          cases r <;> simp only [endsR, h92, h34, cond_false]
        · simp only [sel_t]
          cases r <;> simp only [endsR, h92, h34, cond_false, cond_true]
      · simp only [sel_t]
        match r with
        | [] =>
          have hl := congrArg List.length hr
          simp at hl
          rw [ih [] (i + 2) (j + 1) (n0 + 1) (by simp) (by rw [List.drop_eq_nil_iff]; omega) (by omega) (by simp at hj ⊢; omega) (by omega)]
          simp only [endsR, h92, cond_true]
        | d :: r =>
          obtain ⟨hc2, hil2, hr2⟩ := drop_cons hr
          simp only [List.length_cons] at h hj
          rw [ih r (i + 2) (j + 1) (n0 + 1) (by omega) hr2 (by omega) (by omega) (by omega)]
          simp only [endsR, h92, cond_true]
end NsG

namespace NsG
open Go Lk
variable (X : Fns) (line : List UInt8) (hlen : line.length ≤ 1048576)
include hlen

omit hlen in
theorem p4_23_ok (j n0 n1 n2 : Nat) (ws : List (List UInt8)) (v5 v6 : Int) (s e : Nat) (h1 : s ≤ e) (h2 : e ≤ line.length) (h3 : ws.length + 1 ≤ 1048576) (hj : 1 ≤ j) :
    X.p4_23 j n0 n1 n2 line ws v5 v6 (s : Int) (e : Int) = X.p4_10 n2 n0 n1 line (ws ++ [cut line s e]) v5 v6 (e : Int) := by
  obtain ⟨j, rfl⟩ : ∃ k, j = k + 1 := ⟨j - 1, by omega⟩
  rw [X.p4_23_eq]
  simp only [sel_dec]
  rw [if_pos (by omega), if_pos (by omega), if_pos (by omega), if_pos (by omega), if_pos (by simpa using h3)]
  rfl

theorem f10_at (i j : Nat) (c : UInt8) (r : List UInt8) (hd : line.drop i = c :: r) (hj : r.length + 3 ≤ j) :
    X.f10 j line (i : Int) = some (((endsR r (i + 1)).1 : Int), (endsR r (i + 1)).2, ()) := by
  obtain ⟨j, rfl⟩ : ∃ k, j = k + 1 := ⟨j - 1, by omega⟩
  obtain ⟨_, hil, hr⟩ := drop_cons hd
  have w1 : IntKind.i64.wrap ((i : Int) + 1) = ((i + 1 : Nat) : Int) := by rw [wrap64 (by omega) (by omega)]; omega
  rw [X.f10_eq, w1, f10_ok X line hlen _ r (i + 1) j j (Nat.le_refl _) hr (by omega) (by omega) (by omega)]

/-- Behind the first control byte. -/
theorem behind (L : Nat) (hL : L < line.length) : ∀ (N : Nat),
    (∀ (rest : List UInt8) (i : Nat) (ws : List (List UInt8)) (j n0 n1 : Nat) (v5 : Int), rest.length ≤ N → line.drop i = rest → i ≤ line.length → L < i → ws.length + rest.length ≤ 1048576 → rest.length + 7 ≤ j → 2 ≤ n1 →
      X.p4_10 j n0 n1 line ws v5 (L : Int) (i : Int) = some (bad L)) ∧
    (∀ (rest : List UInt8) (s e : Nat) (ws : List (List UInt8)) (j n0 n1 n2 : Nat) (v5 : Int), rest.length ≤ N → line.drop e = rest → e ≤ line.length → s ≤ e → L < e → ws.length + 1 + rest.length ≤ 1048576 → rest.length + 6 ≤ j → rest.length + 7 ≤ n2 → 2 ≤ n1 →
      X.p4_21 j n0 n1 n2 line ws v5 (L : Int) (s : Int) (e : Int) = some (bad L)) := by
  intro N
  induction N with
  | zero =>
    have one : ∀ (rest : List UInt8) (i : Nat) (ws : List (List UInt8)) (j n0 n1 : Nat) (v5 : Int), rest.length ≤ 0 → line.drop i = rest → i ≤ line.length → L < i → ws.length + rest.length ≤ 1048576 → rest.length + 7 ≤ j → 2 ≤ n1 →
      X.p4_10 j n0 n1 line ws v5 (L : Int) (i : Int) = some (bad L) := by
      intro rest i ws j n0 n1 v5 h hd hi hLi hws hj hn
      obtain ⟨j, rfl⟩ : ∃ k, j = k + 1 := ⟨j - 1, by omega⟩
      obtain ⟨n1, rfl⟩ : ∃ k, n1 = k + 1 := ⟨n1 - 1, by omega⟩
      have := congrArg List.length hd
      simp at this
      rw [X.p4_10_eq, sel_dec, if_neg (by omega), X.p4_25_eq, sel_dec, if_pos (by omega)]
      rfl
    refine ⟨one, ?_⟩
    intro rest s e ws j n0 n1 n2 v5 h hd he hs hLe hws hj hn2 hn1
    obtain ⟨j, rfl⟩ : ∃ k, j = k + 1 := ⟨j - 1, by omega⟩
    have := congrArg List.length hd
    simp at this
    rw [X.p4_21_eq, sel_dec, if_neg (by omega), p4_23_ok X line _ _ _ _ _ _ _ _ _ hs he (by omega) (by omega)]
    exact one rest e _ n2 n0 n1 v5 h hd he hLe (by simp; omega) hn2 hn1
  | succ N ih =>
    obtain ⟨ih1, ih2⟩ := ih
    have one : ∀ (rest : List UInt8) (i : Nat) (ws : List (List UInt8)) (j n0 n1 : Nat) (v5 : Int), rest.length ≤ N + 1 → line.drop i = rest → i ≤ line.length → L < i → ws.length + rest.length ≤ 1048576 → rest.length + 7 ≤ j → 2 ≤ n1 →
      X.p4_10 j n0 n1 line ws v5 (L : Int) (i : Int) = some (bad L) := by
      intro rest i ws j n0 n1 v5 h hd hi hLi hws hj hn
      match rest with
      | [] => exact ih1 [] i ws j n0 n1 v5 (by simp) hd hi hLi hws hj hn
      | c :: r =>
        obtain ⟨hc, hil, hr⟩ := drop_cons hd
        simp only [List.length_cons] at h hj hws
        obtain ⟨j, rfl⟩ : ∃ k, j = k + 3 := ⟨j - 3, by omega⟩
        have w1 : IntKind.i64.wrap ((i : Int) + 1) = ((i + 1 : Nat) : Int) := by rw [wrap64 (by omega) (by omega)]; omega
        rw [X.p4_10_eq]
        simp only [sel_dec]
        rw [if_pos (by omega), if_pos (by omega), if_pos (by omega), if_pos (by omega), if_pos (by omega)]
        simp only [Int.toNat_natCast, hc, b_eq, w1]
        cases h32 : (c == 32)
        · simp only [sel_f]
          cases h34 : (c == 34)
          · simp only [sel_f]
            rw [X.p4_21_eq]
            simp only [sel_dec]
            rw [if_pos (by omega), if_pos (by omega), if_pos (by omega)]
            have n32 : (c != 32) = true := by simp only [bne, h32, Bool.not_false]
            simp only [Int.toNat_natCast, hc, b_ne, n32, sel_t, X.p4_22_eq, w1]
            exact ih2 r i (i + 1) ws (j + 1) n0 n1 (j + 2) v5 (by omega) hr (by omega) (by omega) (by omega) (by omega) (by omega) (by omega) hn
          · simp only [sel_t]
            rw [f10_at X line hlen i (j + 2) c r hd (by omega)]
            simp only [ob_some]
            cases he : (endsR r (i + 1)).2
            · simp only [Bool.not_false, sel_t]
              obtain ⟨n1, rfl⟩ : ∃ k, n1 = k + 1 := ⟨n1 - 1, by omega⟩
              rw [X.p4_25_eq, sel_dec, if_pos (by omega)]
              rfl
            · simp only [Bool.not_true, sel_f]
              obtain ⟨g1, g2⟩ := endsR_gt _ r (i + 1) (Nat.le_refl _) he
              have hl := congrArg List.length hr
              simp at hl
              generalize (endsR r (i + 1)).1 = k at g1 g2
              have next : X.p4_10 (j + 2) n0 n1 line (ws ++ [cut line i k]) v5 (L : Int) (k : Int) = some (bad L) := by
                exact ih1 (line.drop k) k _ (j + 2) n0 n1 v5 (by simp; omega) rfl (by omega) (by omega) (by simp; omega) (by simp; omega) hn
              by_cases hk : k < line.length
              · rw [if_pos (by omega), if_pos (by omega), if_pos (by omega)]
                simp only [Int.toNat_natCast, b_ne, X.p4_2067_eq]
                cases (line.getD k 0 != 32)
                · simp only [sel_f, X.p4_20_eq]
                  rw [p4_23_ok X line _ _ _ _ _ _ _ _ _ (by omega) (by omega) (by omega) (by omega)]
                  exact next
                · simp only [sel_t, imin]
                  rw [if_pos (by omega)]
                  rfl
              · rw [if_neg (by omega)]
                simp only [X.p4_2067_eq, sel_f, X.p4_20_eq]
                rw [p4_23_ok X line _ _ _ _ _ _ _ _ _ (by omega) (by omega) (by omega) (by omega)]
                exact next
        · simp only [sel_t]
          exact ih1 r (i + 1) ws (j + 2) n0 n1 v5 (by omega) hr (by omega) (by omega) (by omega) (by omega) hn
    refine ⟨one, ?_⟩
    intro rest s e ws j n0 n1 n2 v5 h hd he hs hLe hws hj hn2 hn1
    match rest with
    | [] => exact ih2 [] s e ws j n0 n1 n2 v5 (by simp) hd he hs hLe hws hj hn2 hn1
    | c :: r =>
      obtain ⟨hc, hil, hr⟩ := drop_cons hd
      obtain ⟨j, rfl⟩ : ∃ k, j = k + 2 := ⟨j - 2, by omega⟩
      have w1 : IntKind.i64.wrap ((e : Int) + 1) = ((e + 1 : Nat) : Int) := by rw [wrap64 (by omega) (by omega)]; omega
      rw [X.p4_21_eq]
      simp only [sel_dec]
      rw [if_pos (by omega), if_pos (by omega), if_pos (by omega)]
      simp only [Int.toNat_natCast, hc, b_ne]
      cases h32 : (c != 32)
      · simp only [sel_f]
        rw [p4_23_ok X line _ _ _ _ _ _ _ _ _ hs he (by omega) (by omega)]
        exact one (c :: r) e _ n2 n0 n1 v5 h hd he hLe (by simp at hws ⊢; omega) hn2 hn1
      · simp only [sel_t, X.p4_22_eq, w1]
        simp only [List.length_cons] at h hj hws hn2
        exact ih2 r s (e + 1) ws (j + 1) n0 n1 n2 v5 (by omega) hr (by omega) (by omega) (by omega) (by omega) (by omega) (by omega) hn1
omit hlen in
theorem lowR_skip : ∀ (n : Nat) (r : List UInt8) (i : Nat), ¬ lowR r i < i + n → lowR (r.drop n) (i + n) = lowR r i := by
  intro n
  induction n with
  | zero => intro r i h; rfl
  | succ n ih =>
    intro r i h
    match r with
    | [] => simp [lowR] at h
    | c :: r =>
      have hc : ctl c = false := by
        cases hc : ctl c
        · rfl
        · simp only [lowR, hc, cond_true] at h; omega
      have el : lowR (c :: r) i = lowR r (i + 1) := by simp only [lowR, hc, cond_false]
      rw [el] at h ⊢
      have := ih r (i + 1) (by omega)
      rw [List.drop_succ_cons, show i + (n + 1) = i + 1 + n by omega]
      exact this
omit hlen in
theorem ctl_not {c : UInt8} (h : ctl c = true) : (c == 32) = false ∧ (c == 34) = false := by
  simp only [ctl, Bool.or_eq_true, decide_eq_true_eq, beq_iff_eq] at h
  constructor <;> (rw [beq_eq_false_iff_ne]; intro e; subst e; rcases h with h | h <;> exact absurd h (by decide))

/-- names.Split goes as the reader does. -/
theorem front : ∀ (N : Nat),
    (∀ (rest : List UInt8) (i L : Nat) (ws : List (List UInt8)) (j n0 n1 : Nat), rest.length ≤ N → line.drop i = rest → i ≤ line.length → lowR rest i = L → ws.length + rest.length ≤ 1048576 → rest.length + 7 ≤ j → 2 ≤ n1 →
      X.p4_10 j n0 n1 line ws (-1) (L : Int) (i : Int) = some (run line .out i rest ws)) ∧
    (∀ (rest : List UInt8) (s e L : Nat) (ws : List (List UInt8)) (j n0 n1 n2 : Nat), rest.length ≤ N → line.drop e = rest → e ≤ line.length → s ≤ e → lowR rest e = L → ws.length + 1 + rest.length ≤ 1048576 → rest.length + 6 ≤ j → rest.length + 7 ≤ n2 → 2 ≤ n1 →
      X.p4_21 j n0 n1 n2 line ws (-1) (L : Int) (s : Int) (e : Int) = some (run line (.bare s) e rest ws)) := by
  intro N
  induction N with
  | zero =>
    have one : ∀ (rest : List UInt8) (i L : Nat) (ws : List (List UInt8)) (j n0 n1 : Nat), rest.length ≤ 0 → line.drop i = rest → i ≤ line.length → lowR rest i = L → ws.length + rest.length ≤ 1048576 → rest.length + 7 ≤ j → 2 ≤ n1 →
      X.p4_10 j n0 n1 line ws (-1) (L : Int) (i : Int) = some (run line .out i rest ws) := by
      intro rest i L ws j n0 n1 h hd hi hL hws hj hn
      obtain ⟨j, rfl⟩ : ∃ k, j = k + 1 := ⟨j - 1, by omega⟩
      obtain ⟨n1, rfl⟩ : ∃ k, n1 = k + 1 := ⟨n1 - 1, by omega⟩
      rw [List.eq_nil_of_length_eq_zero (Nat.le_zero.1 h)] at hd hL ⊢
      have := congrArg List.length hd
      simp at this
      simp only [lowR] at hL
      rw [X.p4_10_eq, sel_dec, if_neg (by omega), X.p4_25_eq, sel_dec, if_neg (by omega), sel_dec, if_neg (by omega)]
      rfl
    refine ⟨one, ?_⟩
    intro rest s e L ws j n0 n1 n2 h hd he hs hL hws hj hn2 hn1
    obtain ⟨j, rfl⟩ : ∃ k, j = k + 1 := ⟨j - 1, by omega⟩
    rw [List.eq_nil_of_length_eq_zero (Nat.le_zero.1 h)] at hd hL hws hn2 ⊢
    have := congrArg List.length hd
    simp at this
    rw [X.p4_21_eq, sel_dec, if_neg (by omega), p4_23_ok X line _ _ _ _ _ _ _ _ _ hs he (by omega) (by omega)]
    rw [one [] e L _ n2 n0 n1 (by simp) hd he hL (by simp at hws ⊢; omega) hn2 hn1]
    rfl
  | succ N ih =>
    obtain ⟨ih1, ih2⟩ := ih
    have one : ∀ (rest : List UInt8) (i L : Nat) (ws : List (List UInt8)) (j n0 n1 : Nat), rest.length ≤ N + 1 → line.drop i = rest → i ≤ line.length → lowR rest i = L → ws.length + rest.length ≤ 1048576 → rest.length + 7 ≤ j → 2 ≤ n1 →
      X.p4_10 j n0 n1 line ws (-1) (L : Int) (i : Int) = some (run line .out i rest ws) := by
      intro rest i L ws j n0 n1 h hd hi hL hws hj hn
      match rest with
      | [] => exact ih1 [] i L ws j n0 n1 (by simp) hd hi hL hws hj hn
      | c :: r =>
        obtain ⟨hc, hil, hr⟩ := drop_cons hd
        simp only [List.length_cons] at h hj hws
        obtain ⟨j, rfl⟩ : ∃ k, j = k + 3 := ⟨j - 3, by omega⟩
        have w1 : IntKind.i64.wrap ((i : Int) + 1) = ((i + 1 : Nat) : Int) := by rw [wrap64 (by omega) (by omega)]; omega
        rw [X.p4_10_eq]
        simp only [sel_dec]
        rw [if_pos (by omega), if_pos (by omega), if_pos (by omega), if_pos (by omega), if_pos (by omega)]
        simp only [Int.toNat_natCast, hc, b_eq, w1]
        cases hct : ctl c
        · have hL' : lowR r (i + 1) = L := by rw [← hL]; simp only [lowR, hct, cond_false]
          cases h32 : (c == 32)
          · simp only [sel_f]
            cases h34 : (c == 34)
            · simp only [sel_f]
              rw [X.p4_21_eq]
              simp only [sel_dec]
              rw [if_pos (by omega), if_pos (by omega), if_pos (by omega)]
              have n32 : (c != 32) = true := by simp only [bne, h32, Bool.not_false]
              simp only [Int.toNat_natCast, hc, b_ne, n32, sel_t, X.p4_22_eq, w1]
              rw [ih2 r i (i + 1) L ws (j + 1) n0 n1 (j + 2) (by omega) hr (by omega) (by omega) hL' (by omega) (by omega) (by omega) hn]
              simp only [run, hct, h32, h34, cond_false]
            · simp only [sel_t]
              rw [f10_at X line hlen i (j + 2) c r hd (by omega)]
              simp only [ob_some, run, hct, h32, h34, cond_false, cond_true]
              rw [run_quo line i ws _ r (i + 1) (Nat.le_refl _) hr (by omega), hL']
              cases he : (endsR r (i + 1)).2
              · simp only [Bool.not_false, sel_t, cond_false]
                obtain ⟨n1, rfl⟩ : ∃ k, n1 = k + 1 := ⟨n1 - 1, by omega⟩
                rw [X.p4_25_eq, sel_dec]
                by_cases hLl : L < line.length
                · rw [if_pos (by omega), lt_t hLl]; rfl
                · rw [if_neg (by omega), lt_f hLl, sel_dec, if_pos (by omega)]; rfl
              · simp only [Bool.not_true, sel_f, cond_true]
                obtain ⟨g1, g2⟩ := endsR_gt _ r (i + 1) (Nat.le_refl _) he
                have hl := congrArg List.length hr
                simp at hl
                have hsk := lowR_skip ((endsR r (i + 1)).1 - (i + 1)) r (i + 1)
                generalize (endsR r (i + 1)).1 = k at g1 g2 hsk
                rw [show i + 1 + (k - (i + 1)) = k by omega, hL', ← hr, List.drop_drop, show i + 1 + (k - (i + 1)) = k by omega] at hsk
                have hLle := lowR_le r (i + 1)
                rw [hL'] at hLle
                by_cases hLk : L < k
                · rw [lt_t hLk]
                  simp only [cond_true]
                  have next : X.p4_10 (j + 2) n0 n1 line (ws ++ [cut line i k]) (-1) (L : Int) (k : Int) = some (bad L) := by
                    exact (behind X line hlen L (by omega) _).1 (line.drop k) k _ (j + 2) n0 n1 (-1) (Nat.le_refl _) rfl (by omega) (by omega) (by simp; omega) (by simp; omega) hn
                  by_cases hk : k < line.length
                  · rw [if_pos (by omega), if_pos (by omega), if_pos (by omega)]
                    simp only [Int.toNat_natCast, b_ne, X.p4_2067_eq]
                    cases (line.getD k 0 != 32)
                    · simp only [sel_f, X.p4_20_eq]
                      rw [p4_23_ok X line _ _ _ _ _ _ _ _ _ (by omega) (by omega) (by omega) (by omega)]
                      exact next
                    · simp only [sel_t, imin]
                      rw [if_pos (by omega)]
                      rfl
                  · rw [if_neg (by omega)]
                    simp only [X.p4_2067_eq, sel_f, X.p4_20_eq]
                    rw [p4_23_ok X line _ _ _ _ _ _ _ _ _ (by omega) (by omega) (by omega) (by omega)]
                    exact next
                · rw [lt_f hLk]
                  simp only [cond_false]
                  have hsk' := hsk hLk
                  have next : X.p4_10 (j + 2) n0 n1 line (ws ++ [cut line i k]) (-1) (L : Int) (k : Int) = some (run line .out k (line.drop k) (ws ++ [cut line i k])) := by
                    exact ih1 (line.drop k) k L _ (j + 2) n0 n1 (by simp; omega) rfl (by omega) hsk' (by simp; omega) (by simp; omega) hn
                  by_cases hk : k < line.length
                  · rw [if_pos (by omega), if_pos (by omega), if_pos (by omega)]
                    obtain ⟨c', r', hd'⟩ : ∃ c' r', line.drop k = c' :: r' := by
                      cases hx : line.drop k with
                      | nil => have := congrArg List.length hx; simp at this; omega
                      | cons a b => exact ⟨a, b, rfl⟩
                    obtain ⟨hc', _, _⟩ := drop_cons hd'
                    rw [hd'] at next hsk' ⊢
                    simp only [Int.toNat_natCast, hc', b_ne, X.p4_2067_eq]
                    cases h32' : (c' == 32)
                    · simp only [bne, h32', Bool.not_false, sel_t, imin]
                      rw [if_neg (by omega)]
                      simp only [run, h32', cond_false]
                      cases ctl c' <;> rfl
                    · simp only [bne, h32', Bool.not_true, sel_f, X.p4_20_eq]
                      rw [p4_23_ok X line _ _ _ _ _ _ _ _ _ (by omega) (by omega) (by omega) (by omega), next]
                      simp only [run, h32', cond_true]
                  · rw [if_neg (by omega)]
                    simp only [X.p4_2067_eq, sel_f, X.p4_20_eq]
                    rw [p4_23_ok X line _ _ _ _ _ _ _ _ _ (by omega) (by omega) (by omega) (by omega), next]
                    have e0 : line.drop k = [] := by rw [List.drop_eq_nil_iff]; omega
                    rw [e0]
                    simp only [run]
          · simp only [sel_t]
            rw [ih1 r (i + 1) L ws (j + 2) n0 n1 (by omega) hr (by omega) hL' (by omega) (by omega) hn]
            simp only [run, hct, h32, cond_false, cond_true]
        · have hL' : i = L := by rw [← hL]; simp only [lowR, hct, cond_true]
          subst hL'
          obtain ⟨h32, h34⟩ := ctl_not hct
          rw [run_ctl hct]
          simp only [h32, h34, sel_f]
          rw [X.p4_21_eq]
          simp only [sel_dec]
          rw [if_pos (by omega), if_pos (by omega), if_pos (by omega)]
          have n32 : (c != 32) = true := by simp only [bne, h32, Bool.not_false]
          simp only [Int.toNat_natCast, hc, b_ne, n32, sel_t, X.p4_22_eq, w1]
          exact (behind X line hlen i (by omega) _).2 r i (i + 1) ws (j + 1) n0 n1 (j + 2) (-1) (Nat.le_refl _) hr (by omega) (by omega) (by omega) (by omega) (by omega) (by omega) hn
    refine ⟨one, ?_⟩
    intro rest s e L ws j n0 n1 n2 h hd he hs hL hws hj hn2 hn1
    match rest with
    | [] => exact ih2 [] s e L ws j n0 n1 n2 (by simp) hd he hs hL hws hj hn2 hn1
    | c :: r =>
      obtain ⟨hc, hil, hr⟩ := drop_cons hd
      obtain ⟨j, rfl⟩ : ∃ k, j = k + 2 := ⟨j - 2, by omega⟩
      have w1 : IntKind.i64.wrap ((e : Int) + 1) = ((e + 1 : Nat) : Int) := by rw [wrap64 (by omega) (by omega)]; omega
      rw [X.p4_21_eq]
      simp only [sel_dec]
      rw [if_pos (by omega), if_pos (by omega), if_pos (by omega)]
      simp only [Int.toNat_natCast, hc, b_ne]
      cases hct : ctl c
      · have hL' : lowR r (e + 1) = L := by rw [← hL]; simp only [lowR, hct, cond_false]
        cases h32 : (c == 32)
        · have n32 : (c != 32) = true := by simp only [bne, h32, Bool.not_false]
          simp only [n32, sel_t, X.p4_22_eq, w1]
          simp only [List.length_cons] at h hj hws hn2
          rw [ih2 r s (e + 1) L ws (j + 1) n0 n1 n2 (by omega) hr (by omega) (by omega) hL' (by omega) (by omega) (by omega) hn1]
          simp only [run, hct, h32, cond_false]
        · have n32 : (c != 32) = false := by simp only [bne, h32, Bool.not_true]
          simp only [n32, sel_f]
          rw [p4_23_ok X line _ _ _ _ _ _ _ _ _ hs he (by omega) (by omega)]
          rw [one (c :: r) e L _ n2 n0 n1 h hd he hL (by simp at hws ⊢; omega) hn2 hn1]
          simp only [run, hct, h32, cond_false, cond_true]
      · have hL' : e = L := by rw [← hL]; simp only [lowR, hct, cond_true]
        subst hL'
        obtain ⟨h32, h34⟩ := ctl_not hct
        rw [run_ctl hct]
        have n32 : (c != 32) = true := by simp only [bne, h32, Bool.not_false]
        simp only [n32, sel_t, X.p4_22_eq, w1]
        simp only [List.length_cons] at h hj hws hn2
        exact (behind X line hlen e (by omega) _).2 r s (e + 1) ws (j + 1) n0 n1 n2 (-1) (Nat.le_refl _) hr (by omega) (by omega) (by omega) (by omega) (by omega) (by omega) hn1
end NsG

/-! Runes: the reference's reading of one. -/
namespace NsG
open Go Lk

theorem wrap_u32 {x : Nat} (h : x < 4294967296) : IntKind.u32.wrap (x : Int) = (x : Int) := by
  simp only [IntKind.wrap, IntKind.signed, IntKind.bits, Bool.false_and, Bool.false_eq_true, if_false]; omega
theorem wrap_u8 {x : Nat} (h : x < 256) : IntKind.u8.wrap (x : Int) = (x : Int) := by
  simp only [IntKind.wrap, IntKind.signed, IntKind.bits, Bool.false_and, Bool.false_eq_true, if_false]; omega

theorem ofInt_nat (w n : Nat) : BitVec.ofInt w (n : Int) = BitVec.ofNat w n := by
  apply BitVec.eq_of_toNat_eq; simp

theorem and_u32 {a b : Nat} (ha : a < 4294967296) (hb : b < 4294967296) : ibits .and .u32 (a : Int) (b : Int) = ((a &&& b : Nat) : Int) := by
  have h : a &&& b < 4294967296 := Nat.lt_of_le_of_lt Nat.and_le_left ha
  show IntKind.u32.wrap (((BitVec.ofInt 32 (a : Int) &&& BitVec.ofInt 32 (b : Int)).toNat : Nat) : Int) = _
  rw [BitVec.toNat_and, ofInt_nat, ofInt_nat, BitVec.toNat_ofNat, BitVec.toNat_ofNat, Nat.mod_eq_of_lt ha, Nat.mod_eq_of_lt hb, wrap_u32 h]
theorem or_u32 {a b : Nat} (ha : a < 4294967296) (hb : b < 4294967296) : ibits .or .u32 (a : Int) (b : Int) = ((a ||| b : Nat) : Int) := by
  have h : a ||| b < 2 ^ 32 := Nat.or_lt_two_pow ha hb
  show IntKind.u32.wrap (((BitVec.ofInt 32 (a : Int) ||| BitVec.ofInt 32 (b : Int)).toNat : Nat) : Int) = _
  rw [BitVec.toNat_or, ofInt_nat, ofInt_nat, BitVec.toNat_ofNat, BitVec.toNat_ofNat, Nat.mod_eq_of_lt ha, Nat.mod_eq_of_lt hb, wrap_u32 h]
theorem and_u8 {a b : Nat} (ha : a < 256) (hb : b < 256) : ibits .and .u8 (a : Int) (b : Int) = ((a &&& b : Nat) : Int) := by
  have h : a &&& b < 256 := Nat.lt_of_le_of_lt Nat.and_le_left ha
  show IntKind.u8.wrap (((BitVec.ofInt 8 (a : Int) &&& BitVec.ofInt 8 (b : Int)).toNat : Nat) : Int) = _
  rw [BitVec.toNat_and, ofInt_nat, ofInt_nat, BitVec.toNat_ofNat, BitVec.toNat_ofNat, Nat.mod_eq_of_lt ha, Nat.mod_eq_of_lt hb, wrap_u8 h]

theorem and_mask (n k : Nat) : n &&& (2 ^ k - 1) = n % 2 ^ k := Nat.and_two_pow_sub_one_eq_mod n k
theorem or_low {a b : Nat} (h : b < 64) : a * 64 ||| b = a * 64 + b := by
  have := Nat.shiftLeft_add_eq_or_of_lt (i := 6) h a
  rw [Nat.shiftLeft_eq] at this
  exact this.symm
set_option maxRecDepth 100000 in
theorem and192 : ∀ b : UInt8, (b.toNat &&& 192 = 128) ↔ b.toNat / 64 = 2 := by
  have : ∀ n : Fin 256, (n.val &&& 192 = 128) ↔ n.val / 64 = 2 := by decide
  intro b
  exact this ⟨b.toNat, b.toNat_lt⟩

def byt (b : List UInt8) (i : Nat) : Nat := (b.getD i 0).toNat
theorem byt_lt (b : List UInt8) (i : Nat) : byt b i < 256 := (b.getD i 0).toNat_lt

theorem get_byt (b : List UInt8) (i : Nat) : ((ByteArray.mk b.toArray).get! i).toNat = byt b i := by
  simp [ByteArray.get!, byt, List.getD_eq_getElem?_getD, getElem!_def]
  cases h : b[i]?
  · rfl
  · simp

/-- A rune, by the model's own reading: (0, 0) where there is none. -/
def runeR (b : List UInt8) (i : Nat) : Nat × Nat :=
  let d := Utf8.decode ⟨b.toArray⟩ i
  bif d.1 == 65533 && d.2 == 1 then (0, 0) else d

def cont (b : List UInt8) (i : Nat) : Bool := lt' i b.length && byt b i / 64 == 2
where lt' (a b : Nat) : Bool := decide (a < b)

def fin (r n least : Nat) : Nat × Nat := if r < least ∨ r > 1114111 ∨ 55296 ≤ r ∧ r ≤ 57343 then (0, 0) else (r, n)

/-- The same, by the bytes. -/
def runeB (b : List UInt8) (i : Nat) : Nat × Nat :=
  let c := byt b i
  if c < 128 then (c, 1)
  else if c < 192 then (0, 0)
  else if c < 224 then (if cont b (i + 1) then fin (c % 32 * 64 + byt b (i + 1) % 64) 2 128 else (0, 0))
  else if c < 240 then (if cont b (i + 1) && cont b (i + 2) then fin ((c % 16 * 64 + byt b (i + 1) % 64) * 64 + byt b (i + 2) % 64) 3 2048 else (0, 0))
  else if c < 248 then (if cont b (i + 1) && cont b (i + 2) && cont b (i + 3) then fin (((c % 8 * 64 + byt b (i + 1) % 64) * 64 + byt b (i + 2) % 64) * 64 + byt b (i + 3) % 64) 4 65536 else (0, 0))
  else (0, 0)

theorem rune_eq (b : List UInt8) (i : Nat) : runeR b i = runeB b i := by
  have hs : (ByteArray.mk b.toArray).size = b.length := by simp [← ByteArray.size_data]
  have hc : ∀ k, (decide (i + k < (ByteArray.mk b.toArray).size) && byt b (i + k) / 64 == 2) = cont b (i + k) := by
    intro k; rw [hs]; rfl
  have c0 := byt_lt b i
  have c1 := byt_lt b (i + 1)
  have c2 := byt_lt b (i + 2)
  have c3 := byt_lt b (i + 3)
  unfold runeR Utf8.decode
  simp only [get_byt, hc, Nat.add_zero, Utf8.runeError, Utf8.valid]
  unfold runeB
  simp only
  by_cases h1 : byt b i < 128
  · rw [if_pos h1, if_pos h1]
    have e : (byt b i == 65533) = false := by rw [beq_eq_false_iff_ne]; omega
    simp [e]
  rw [if_neg h1, if_neg h1]
  by_cases h2 : byt b i < 192
  · have q1 : (byt b i / 32 == 6) = false := by rw [beq_eq_false_iff_ne]; omega
    have q2 : (byt b i / 16 == 14) = false := by rw [beq_eq_false_iff_ne]; omega
    have q3 : (byt b i / 8 == 30) = false := by rw [beq_eq_false_iff_ne]; omega
    simp [q1, q2, q3, h2]
  rw [if_neg h2]
  by_cases h3 : byt b i < 224
  · have q1 : (byt b i / 32 == 6) = true := by rw [beq_iff_eq]; omega
    have q2 : (byt b i / 16 == 14) = false := by rw [beq_eq_false_iff_ne]; omega
    have q3 : (byt b i / 8 == 30) = false := by rw [beq_eq_false_iff_ne]; omega
    simp only [q1, q2, q3, Bool.true_and, Bool.false_and, Bool.false_eq_true, if_false, if_pos h3]
    cases hk : cont b (i + 1)
    · simp
    · simp only [if_true]
      unfold fin
      by_cases g : byt b i % 32 * 64 + byt b (i + 1) % 64 ≥ 128
      · rw [if_pos g, if_neg (by omega)]; simp
      · rw [if_neg g, if_pos (by omega)]; simp
  rw [if_neg h3]
  by_cases h4 : byt b i < 240
  · have q1 : (byt b i / 32 == 6) = false := by rw [beq_eq_false_iff_ne]; omega
    have q2 : (byt b i / 16 == 14) = true := by rw [beq_iff_eq]; omega
    have q3 : (byt b i / 8 == 30) = false := by rw [beq_eq_false_iff_ne]; omega
    simp only [q1, q2, q3, Bool.true_and, Bool.false_and, Bool.false_eq_true, if_false, if_pos h4]
    cases hk : cont b (i + 1) <;> cases hk2 : cont b (i + 2) <;> simp only [Bool.true_and, Bool.and_true, Bool.and_false, Bool.false_eq_true, if_false, if_true, cond_true, beq_self_eq_true]
    rw [show byt b i % 16 * 4096 + byt b (i + 1) % 64 * 64 + byt b (i + 2) % 64 = (byt b i % 16 * 64 + byt b (i + 1) % 64) * 64 + byt b (i + 2) % 64 by omega]
    have hle : (byt b i % 16 * 64 + byt b (i + 1) % 64) * 64 + byt b (i + 2) % 64 < 65536 := by omega
    generalize (byt b i % 16 * 64 + byt b (i + 1) % 64) * 64 + byt b (i + 2) % 64 = r at hle
    unfold fin
    by_cases g : r < 2048 ∨ r > 1114111 ∨ 55296 ≤ r ∧ r ≤ 57343
    · rw [if_pos g, if_neg (by simp; omega)]; simp
    · rw [if_neg g, if_pos (by simp; omega)]; simp
  rw [if_neg h4]
  by_cases h5 : byt b i < 248
  · have q1 : (byt b i / 32 == 6) = false := by rw [beq_eq_false_iff_ne]; omega
    have q2 : (byt b i / 16 == 14) = false := by rw [beq_eq_false_iff_ne]; omega
    have q3 : (byt b i / 8 == 30) = true := by rw [beq_iff_eq]; omega
    simp only [q1, q2, q3, Bool.true_and, Bool.false_and, Bool.false_eq_true, if_false, if_pos h5]
    cases hk : cont b (i + 1) <;> cases hk2 : cont b (i + 2) <;> cases hk3 : cont b (i + 3) <;> simp only [Bool.true_and, Bool.and_true, Bool.and_false, Bool.false_and, Bool.false_eq_true, if_false, if_true, cond_true, beq_self_eq_true]
    rw [show byt b i % 8 * 262144 + byt b (i + 1) % 64 * 4096 + byt b (i + 2) % 64 * 64 + byt b (i + 3) % 64 = ((byt b i % 8 * 64 + byt b (i + 1) % 64) * 64 + byt b (i + 2) % 64) * 64 + byt b (i + 3) % 64 by omega]
    generalize ((byt b i % 8 * 64 + byt b (i + 1) % 64) * 64 + byt b (i + 2) % 64) * 64 + byt b (i + 3) % 64 = r
    unfold fin
    by_cases g : r < 65536 ∨ r > 1114111 ∨ 55296 ≤ r ∧ r ≤ 57343
    · rw [if_pos g, if_neg (by simp; omega)]; simp
    · rw [if_neg g, if_pos (by simp; omega)]; simp
  · have q1 : (byt b i / 32 == 6) = false := by rw [beq_eq_false_iff_ne]; omega
    have q2 : (byt b i / 16 == 14) = false := by rw [beq_eq_false_iff_ne]; omega
    have q3 : (byt b i / 8 == 30) = false := by rw [beq_eq_false_iff_ne]; omega
    simp [q1, q2, q3, h5]
end NsG

namespace NsG
open Go Lk
variable (X : Fns) (b : List UInt8) (hlen : b.length ≤ 1048576) (i : Nat) (hi : i < b.length)

theorem ofNat_toNat {n : Nat} (h : n < 256) : (UInt8.ofNat n).toNat = n := by simp [UInt8.toNat_ofNat']; omega

theorem shl6 {r : Nat} (h : r < 67108864) : IntKind.u32.wrap ((r : Int) * (2 : Int) ^ Min.min (Int.toNat (6 : Int)) IntKind.u32.bits) = ((r * 64 : Nat) : Int) := by
  have e : (2 : Int) ^ Min.min (Int.toNat (6 : Int)) IntKind.u32.bits = 64 := by decide
  rw [e, show (r : Int) * 64 = ((r * 64 : Nat) : Int) by omega, wrap_u32 (by omega)]

include hlen hi in
theorem p11_14_step (j n0 n1 n2 : Nat) (n k r least : Nat) (hk : k < n) (hn : n ≤ 4) (hb : i + k < b.length) (hr : r < 67108864) :
    X.p11_14 (j + 1) n0 n1 n2 b (i : Int) (n : Int) (r : Int) (least : Int) (k : Int) =
      if cont b (i + k) then X.p11_14 j n0 n1 n2 b (i : Int) (n : Int) ((r * 64 + byt b (i + k) % 64 : Nat) : Int) (least : Int) ((k + 1 : Nat) : Int) else some (0, 0, ()) := by
  have w1 : IntKind.i64.wrap ((i : Int) + (k : Int)) = ((i + k : Nat) : Int) := by rw [wrap64 (by omega) (by omega)]; omega
  have w2 : IntKind.i64.wrap ((k : Int) + 1) = ((k + 1 : Nat) : Int) := by rw [wrap64 (by omega) (by omega)]; omega
  have hlt := byt_lt b (i + k)
  have e1 : ((UInt8.ofNat (ibits .and .u8 (((b.getD (i + k) 0).toNat : Nat) : Int) ((UInt8.toNat 192 : Nat) : Int)).toNat).toNat) = byt b (i + k) &&& 192 := by
    have h : byt b (i + k) &&& 192 < 256 := Nat.lt_of_le_of_lt Nat.and_le_left hlt
    show (UInt8.ofNat (ibits .and .u8 ((byt b (i + k) : Nat) : Int) ((192 : Nat) : Int)).toNat).toNat = _
    rw [and_u8 hlt (by decide), Int.toNat_natCast, ofNat_toNat h]
  have e2 : ((UInt8.ofNat (ibits .and .u8 (((b.getD (i + k) 0).toNat : Nat) : Int) ((UInt8.toNat 63 : Nat) : Int)).toNat).toNat) = byt b (i + k) % 64 := by
    show (UInt8.ofNat (ibits .and .u8 ((byt b (i + k) : Nat) : Int) ((63 : Nat) : Int)).toNat).toNat = _
    rw [and_u8 hlt (by decide), Int.toNat_natCast, show (63 : Nat) = 2 ^ 6 - 1 from rfl, and_mask, ofNat_toNat (by omega)]
  have h6 : byt b (i + k) % 64 < 64 := Nat.mod_lt _ (by decide)
  rw [X.p11_14_eq]
  simp only [sel_dec, w1, w2, Int.toNat_natCast, e1, e2]
  rw [if_pos (by omega), if_pos (by omega), if_pos (by omega), if_pos (by omega), if_pos (by omega), if_pos (by omega), shl6 hr, wrap_u32 (by omega), or_u32 (by omega) (by omega), or_low h6]
  have hcc : cont b (i + k) = (byt b (i + k) / 64 == 2) := by simp [cont, cont.lt', hb]
  rw [hcc]
  have h192 : (byt b (i + k) &&& 192 = 128) ↔ byt b (i + k) / 64 = 2 := and192 (b.getD (i + k) 0)
  by_cases h2 : byt b (i + k) / 64 = 2
  · have h3 := h192.2 h2
    rw [h3, h2]
    simp [sel_f]
  · have h3 := mt h192.1 h2
    have e : ((((byt b (i + k) &&& 192 : Nat) : Int) != ((UInt8.toNat 128 : Nat) : Int))) = true := by
      rw [bne_iff_ne]
      intro h
      exact h3 (Int.ofNat.inj h)
    rw [e]
    simp [h2, sel_t]

theorem p11_14_fin (j n0 n1 n2 : Nat) (n r least : Nat) (hj : 2 ≤ n2) :
    X.p11_14 (j + 1) n0 n1 n2 b (i : Int) (n : Int) (r : Int) (least : Int) (n : Int) = some (((fin r n least).1 : Int), ((fin r n least).2 : Int), ()) := by
  obtain ⟨n2, rfl⟩ : ∃ k, n2 = k + 2 := ⟨n2 - 2, by omega⟩
  rw [X.p11_14_eq]
  simp only [sel_dec]
  rw [if_neg (by omega)]
  simp only [X.p11_2068_eq, X.p11_21_eq, sel_t, sel_f, sel_dec]
  unfold fin
  by_cases h1 : r < least
  · rw [if_pos (by omega), if_pos (Or.inl h1)]; rfl
  · rw [if_neg (by omega)]
    by_cases h2 : r > 1114111
    · rw [if_pos (by omega), if_pos (Or.inr (Or.inl h2))]; rfl
    · rw [if_neg (by omega)]
      by_cases h3 : r ≥ 55296
      · rw [if_pos (by omega)]
        by_cases h4 : r ≤ 57343
        · rw [if_pos (by omega), if_pos (Or.inr (Or.inr ⟨h3, h4⟩))]; rfl
        · rw [if_neg (by omega), if_neg (by omega)]
      · rw [if_neg (by omega), if_neg (by omega)]

include hlen hi in
theorem p11_11_ok (j n0 : Nat) (n r least : Nat) (hn : n ≤ 4) (hr : r < 256) (hj : 12 ≤ j) :
    X.p11_11 j n0 b (i : Int) (n : Int) (r : Int) (least : Int) = some (if n = 0 then (0, 0, ()) else if n = 1 then (((fin r n least).1 : Int), ((fin r n least).2 : Int), ())
      else if n = 2 then (if cont b (i + 1) then let d := fin (r * 64 + byt b (i + 1) % 64) n least; ((d.1 : Int), (d.2 : Int), ()) else (0, 0, ()))
      else if n = 3 then (if cont b (i + 1) && cont b (i + 2) then let d := fin ((r * 64 + byt b (i + 1) % 64) * 64 + byt b (i + 2) % 64) n least; ((d.1 : Int), (d.2 : Int), ()) else (0, 0, ()))
      else (if cont b (i + 1) && cont b (i + 2) && cont b (i + 3) then let d := fin (((r * 64 + byt b (i + 1) % 64) * 64 + byt b (i + 2) % 64) * 64 + byt b (i + 3) % 64) n least; ((d.1 : Int), (d.2 : Int), ()) else (0, 0, ()))) := by
  obtain ⟨j, rfl⟩ : ∃ k, j = k + 12 := ⟨j - 12, by omega⟩
  have w1 : IntKind.i64.wrap (((b.length : Nat) : Int) - (i : Int)) = ((b.length - i : Nat) : Int) := by rw [wrap64 (by omega) (by omega)]; omega
  have c1 := byt_lt b (i + 1)
  have c2 := byt_lt b (i + 2)
  have c3 := byt_lt b (i + 3)
  rw [X.p11_11_eq]
  simp only [X.p11_2060_eq, sel_dec, w1, sel_t]
  by_cases h0 : n = 0
  · subst h0
    rw [if_pos rfl]
    rfl
  · have e0 : ((n : Int) == 0) = false := by rw [beq_eq_false_iff_ne]; omega
    rw [e0, if_neg h0]
    simp only [sel_f]
    by_cases hs : b.length - i < n
    · rw [if_pos (by omega : (((b.length - i : Nat) : Int) < (n : Int)))]
      have hnc : ∀ k, b.length ≤ i + k → cont b (i + k) = false := by
        intro k hk; simp [cont, cont.lt']; omega
      rw [if_neg (by omega)]
      by_cases h2 : n = 2
      · rw [if_pos h2, hnc 1 (by omega)]; rfl
      · rw [if_neg h2]
        by_cases h3 : n = 3
        · rw [if_pos h3]
          rcases (by omega : b.length ≤ i + 1 ∨ b.length ≤ i + 2) with h | h <;> rw [hnc _ h] <;> simp
        · rw [if_neg h3]
          rcases (by omega : b.length ≤ i + 1 ∨ b.length ≤ i + 2 ∨ b.length ≤ i + 3) with h | h | h <;> rw [hnc _ h] <;> simp
    · rw [if_neg (by omega : ¬ (((b.length - i : Nat) : Int) < (n : Int)))]
      simp only [X.p11_13_eq]
      by_cases h1 : n = 1
      · subst h1
        rw [if_pos rfl]
        exact p11_14_fin X b i _ _ _ _ 1 r least (by omega)
      rw [if_neg h1]
      have s1 := p11_14_step X b hlen i hi (j + 9) n0 (j + 11) (j + 10) n 1 r least (by omega) hn (by omega) (by omega)
      rw [show ((1 : Nat) : Int) = 1 from rfl] at s1
      rw [s1]
      by_cases h2 : n = 2
      · subst h2
        rw [if_pos rfl]
        rw [p11_14_fin X b i _ _ _ _ 2 _ least (by omega)]
        cases cont b (i + 1) <;> rfl
      rw [if_neg h2, p11_14_step X b hlen i hi (j + 8) n0 (j + 11) (j + 10) n 2 _ least (by omega) hn (by omega) (by omega)]
      by_cases h3 : n = 3
      · subst h3
        rw [if_pos rfl]
        rw [p11_14_fin X b i _ _ _ _ 3 _ least (by omega)]
        cases cont b (i + 1) <;> cases cont b (i + 2) <;> rfl
      · have h4 : n = 4 := by omega
        subst h4
        rw [if_neg h3, p11_14_step X b hlen i hi (j + 7) n0 (j + 11) (j + 10) 4 3 _ least (by omega) hn (by omega) (by omega), p11_14_fin X b i _ _ _ _ 4 _ least (by omega)]
        cases cont b (i + 1) <;> cases cont b (i + 2) <;> cases cont b (i + 3) <;> rfl

include hlen hi in
/-- The reference's rune. -/
theorem f11_ok (j : Nat) (hj : 20 ≤ j) : X.f11 j b (i : Int) = some (((runeR b i).1 : Int), ((runeR b i).2 : Int), ()) := by
  obtain ⟨j, rfl⟩ : ∃ k, j = k + 20 := ⟨j - 20, by omega⟩
  have c0 := byt_lt b i
  rw [rune_eq, X.f11_eq]
  have hb : (b.getD i 0).toNat = byt b i := rfl
  have hw : IntKind.u32.wrap ((byt b i : Nat) : Int) = ((byt b i : Nat) : Int) := wrap_u32 (by omega)
  simp only [Int.toNat_natCast, hb, hw, sel_dec]
  rw [if_pos (by omega), if_pos (by omega)]
  unfold runeB
  simp only
  have m31 : ibits .and .u32 ((byt b i : Nat) : Int) 31 = ((byt b i % 32 : Nat) : Int) := by
    rw [show (31 : Int) = ((31 : Nat) : Int) from rfl, and_u32 (by omega) (by decide), show (31 : Nat) = 2 ^ 5 - 1 from rfl, and_mask]
  have m15 : ibits .and .u32 ((byt b i : Nat) : Int) 15 = ((byt b i % 16 : Nat) : Int) := by
    rw [show (15 : Int) = ((15 : Nat) : Int) from rfl, and_u32 (by omega) (by decide), show (15 : Nat) = 2 ^ 4 - 1 from rfl, and_mask]
  have m7 : ibits .and .u32 ((byt b i : Nat) : Int) 7 = ((byt b i % 8 : Nat) : Int) := by
    rw [show (7 : Int) = ((7 : Nat) : Int) from rfl, and_u32 (by omega) (by decide), show (7 : Nat) = 2 ^ 3 - 1 from rfl, and_mask]
  by_cases h1 : byt b i < 128
  · rw [if_pos (by omega), if_pos h1]; rfl
  rw [if_neg (by omega), if_neg h1]
  have p0 : ∀ j', 12 ≤ j' → X.p11_11 j' (j + 19) b (i : Int) 0 0 0 = some (0, 0, ()) := by
    intro j' hj'
    have := p11_11_ok X b hlen i hi j' (j + 19) 0 0 0 (by omega) (by omega) hj'
    simpa using this
  by_cases h2 : byt b i < 192
  · rw [if_neg (by omega), if_pos h2, X.p11_2054_eq]
    simp only [sel_f, sel_dec]
    rw [if_neg (by omega), X.p11_2056_eq]
    simp only [sel_f, sel_dec]
    rw [if_neg (by omega), X.p11_2058_eq]
    simp only [sel_f]
    exact p0 _ (by omega)
  rw [if_pos (by omega), if_neg h2, X.p11_2054_eq]
  simp only [sel_dec, m31]
  by_cases h3 : byt b i < 224
  · rw [if_pos h3]
    rw [if_pos (by omega : ((byt b i : Nat) : Int) < 224)]
    have := p11_11_ok X b hlen i hi (j + 19) (j + 19) 2 (byt b i % 32) 128 (by omega) (by omega) (by omega)
    rw [show (2 : Int) = ((2 : Nat) : Int) from rfl, show (128 : Int) = ((128 : Nat) : Int) from rfl, this]
    cases cont b (i + 1) <;> rfl
  rw [if_neg h3]
  rw [if_neg (by omega : ¬ ((byt b i : Nat) : Int) < 224)]
  rw [if_pos (by omega), X.p11_2056_eq]
  simp only [sel_dec, m15]
  by_cases h4 : byt b i < 240
  · rw [if_pos h4]
    rw [if_pos (by omega : ((byt b i : Nat) : Int) < 240)]
    have := p11_11_ok X b hlen i hi (j + 19) (j + 19) 3 (byt b i % 16) 2048 (by omega) (by omega) (by omega)
    rw [show (3 : Int) = ((3 : Nat) : Int) from rfl, show (2048 : Int) = ((2048 : Nat) : Int) from rfl, this]
    cases cont b (i + 1) <;> cases cont b (i + 2) <;> rfl
  rw [if_neg h4]
  rw [if_neg (by omega : ¬ ((byt b i : Nat) : Int) < 240)]
  rw [if_pos (by omega), X.p11_2058_eq]
  simp only [sel_dec, m7]
  by_cases h5 : byt b i < 248
  · rw [if_pos h5]
    rw [if_pos (by omega : ((byt b i : Nat) : Int) < 248)]
    have := p11_11_ok X b hlen i hi (j + 19) (j + 19) 4 (byt b i % 8) 65536 (by omega) (by omega) (by omega)
    rw [show (4 : Int) = ((4 : Nat) : Int) from rfl, show (65536 : Int) = ((65536 : Nat) : Int) from rfl, this]
    cases cont b (i + 1) <;> cases cont b (i + 2) <;> cases cont b (i + 3) <;> rfl
  · rw [if_neg h5]
    rw [if_neg (by omega : ¬ ((byt b i : Nat) : Int) < 248)]
    exact p0 _ (by omega)
end NsG

namespace NsG
open Go Lk

/-- How many bytes the piece at a place has. -/
def sz (b : List UInt8) (i : Nat) : Nat := (Utf8.decode ⟨b.toArray⟩ i).2

theorem sz_bd (b : List UInt8) (i : Nat) : 1 ≤ sz b i ∧ sz b i ≤ 4 := by
  unfold sz Utf8.decode
  simp only
  repeat' split
  all_goals simp

theorem runeR_sz (b : List UInt8) (i : Nat) : max (runeR b i).2 1 = sz b i := by
  have h := (sz_bd b i).1
  unfold sz at h ⊢
  unfold runeR
  simp only
  cases e : (Utf8.decode ⟨b.toArray⟩ i).1 == 65533 && (Utf8.decode ⟨b.toArray⟩ i).2 == 1
  · simp only [cond_false]; omega
  · simp only [Bool.and_eq_true, beq_iff_eq] at e
    simp only [cond_true, e.2]; rfl

theorem byt_ext (b : List UInt8) (i h k : Nat) (hk : i + k < h ∨ b.length ≤ i + k) (hh : h ≤ b.length) : byt (ext b (i : Int) (h : Int)) k = byt b (i + k) := by
  unfold byt ext
  simp only [Int.toNat_natCast, List.getD_eq_getElem?_getD, win_get]
  by_cases hl : k < h - i
  · rw [if_pos hl]
  · rw [if_neg hl, List.getElem?_eq_none (by omega)]

theorem cont_ext (b : List UInt8) (i h k : Nat) (hk : i + k < h ∨ b.length ≤ i + k) (hh : h ≤ b.length) (hi : i ≤ h) : cont (ext b (i : Int) (h : Int)) k = cont b (i + k) := by
  unfold cont cont.lt'
  rw [byt_ext b i h k hk hh]
  have hl : (ext b (i : Int) (h : Int)).length = h - i := by
    unfold ext; simp only [Int.toNat_natCast]; rw [win_length _ _ _ (by omega)]
  rw [hl]
  congr 1
  apply decide_eq_decide.2
  omega

theorem runeR_ext (b : List UInt8) (i h : Nat) (hh : h ≤ b.length) (hi : i < h) (h4 : i + 4 ≤ h ∨ h = b.length) : runeR (ext b (i : Int) (h : Int)) 0 = runeR b i := by
  rw [rune_eq, rune_eq]
  unfold runeB
  rw [byt_ext b i h 0 (by omega) hh]
  simp only [Nat.zero_add, byt_ext b i h 1 (by omega) hh, byt_ext b i h 2 (by omega) hh, byt_ext b i h 3 (by omega) hh, cont_ext b i h 1 (by omega) hh (by omega), cont_ext b i h 2 (by omega) hh (by omega), cont_ext b i h 3 (by omega) hh (by omega), Nat.add_zero]

/-- A text's width, from a place on. -/
def wid (b : List UInt8) : Nat → Nat → Nat
  | 0, _ => 0
  | n + 1, i => bif lt i b.length then wid b n (i + sz b i) + 1 else 0

theorem wid_le (b : List UInt8) : ∀ n i, wid b n i ≤ n
  | 0, _ => Nat.le_refl 0
  | n + 1, i => by
    have := wid_le b n (i + sz b i)
    simp only [wid]
    cases lt i b.length <;> simp <;> omega

theorem f7_ok (X : Fns) (b : List UInt8) : ∀ (N i j n0 v : Nat), b.length ≤ i + N → N < j → v + N ≤ 1048576 → X.p7_3 j n0 (v : Int) b i = some (((v + wid b N i : Nat) : Int), ()) := by
  intro N
  induction N with
  | zero =>
    intro i j n0 v h hj hv
    obtain ⟨j, rfl⟩ : ∃ k, j = k + 1 := ⟨j - 1, by omega⟩
    rw [X.p7_3_eq, sel_dec, if_neg (by omega)]
    rfl
  | succ N ih =>
    intro i j n0 v h hj hv
    obtain ⟨j, rfl⟩ : ∃ k, j = k + 1 := ⟨j - 1, by omega⟩
    have hs := sz_bd b i
    rw [X.p7_3_eq, sel_dec]
    by_cases hi : i < b.length
    · have w1 : IntKind.i64.wrap ((v : Int) + 1) = ((v + 1 : Nat) : Int) := by rw [wrap64 (by omega) (by omega)]; omega
      rw [if_pos hi, w1]
      have := ih (i + sz b i) j n0 (v + 1) (by omega) (by omega) (by omega)
      unfold sz at this
      rw [this]
      simp only [wid, lt_t hi, cond_true, sz]
      congr 3
      omega
    · rw [if_neg hi]
      simp only [wid, lt_f hi, cond_false]
      rfl

theorem f8_ok (X : Fns) (b : List UInt8) (hlen : b.length ≤ 1048576) : ∀ (N i j n0 v : Nat), b.length ≤ i + N → N + 30 < j → v + N ≤ 1048576 → i ≤ b.length + 4 → X.p8_3 j n0 b (v : Int) (i : Int) = some (((v + wid b N i : Nat) : Int), ()) := by
  intro N
  induction N with
  | zero =>
    intro i j n0 v h hj hv hi
    obtain ⟨j, rfl⟩ : ∃ k, j = k + 1 := ⟨j - 1, by omega⟩
    rw [X.p8_3_eq, sel_dec, if_neg (by omega)]
    rfl
  | succ N ih =>
    intro i j n0 v h hj hv hi4
    obtain ⟨j, rfl⟩ : ∃ k, j = k + 1 := ⟨j - 1, by omega⟩
    have hs := sz_bd b i
    rw [X.p8_3_eq, sel_dec]
    by_cases hi : i < b.length
    · have w1 : IntKind.i64.wrap ((v : Int) + 1) = ((v + 1 : Nat) : Int) := by rw [wrap64 (by omega) (by omega)]; omega
      have w2 : IntKind.i64.wrap ((i : Int) + 4) = ((i + 4 : Nat) : Int) := by rw [wrap64 (by omega) (by omega)]; omega
      have w3 : imin ((i + 4 : Nat) : Int) ((b.length : Nat) : Int) = ((min (i + 4) b.length : Nat) : Int) := by
        unfold imin; split <;> omega
      rw [if_pos (by omega), w1, w2, w3]
      simp only [sel_dec]
      rw [if_pos (by omega), if_pos (by omega), if_pos (by omega), if_pos (by omega)]
      have hl : (ext b (i : Int) ((min (i + 4) b.length : Nat) : Int)).length = min (i + 4) b.length - i := by
        unfold ext; simp only [Int.toNat_natCast]; rw [win_length _ _ _ (by omega)]
      have hr := f11_ok X (ext b (i : Int) ((min (i + 4) b.length : Nat) : Int)) (by omega) 0 (by omega) j (by omega)
      rw [show ((0 : Nat) : Int) = 0 from rfl] at hr
      rw [hr, runeR_ext b i _ (by omega) (by omega) (by omega)]
      simp only [ob_some]
      have hm := runeR_sz b i
      have w4 : imax (((runeR b i).2 : Nat) : Int) 1 = ((sz b i : Nat) : Int) := by
        rw [← hm]; unfold imax; split <;> omega
      have w5 : IntKind.i64.wrap ((i : Int) + ((sz b i : Nat) : Int)) = ((i + sz b i : Nat) : Int) := by rw [wrap64 (by omega) (by omega)]; omega
      rw [w4, w5, ih (i + sz b i) j n0 (v + 1) (by omega) (by omega) (by omega) (by omega)]
      simp only [wid, lt_t hi, cond_true]
      congr 3
      omega
    · rw [if_neg (by omega)]
      simp only [wid, lt_f hi, cond_false]
      rfl

theorem f6_ok (X : Fns) (a b : List (List UInt8)) (ha : a.length ≤ 1048576) (j : Nat) (hj : a.length + 2 ≤ j) : X.f6 j a b = some (a == b, ()) := by
  obtain ⟨j, rfl⟩ : ∃ k, j = k + 1 := ⟨j - 1, by omega⟩
  rw [X.f6_eq]
  by_cases hl : a.length = b.length
  · have e : (((a.length : Nat) : Int) != ((b.length : Nat) : Int)) = false := by rw [hl]; simp
    rw [e]
    simp only [sel_f]
    have go : ∀ (N i jj n0 : Nat), a.length = i + N → N < jj → X.p6_4 jj n0 a b (i : Int) = some (a.drop i == b.drop i, ()) := by
      intro N
      induction N with
      | zero =>
        intro i jj n0 h hjj
        obtain ⟨jj, rfl⟩ : ∃ k, jj = k + 1 := ⟨jj - 1, by omega⟩
        rw [X.p6_4_eq, sel_dec, if_neg (by omega), List.drop_eq_nil_of_le (by omega), List.drop_eq_nil_of_le (by omega)]
        rfl
      | succ N ih =>
        intro i jj n0 h hjj
        obtain ⟨jj, rfl⟩ : ∃ k, jj = k + 1 := ⟨jj - 1, by omega⟩
        have w1 : IntKind.i64.wrap ((i : Int) + 1) = ((i + 1 : Nat) : Int) := by rw [wrap64 (by omega) (by omega)]; omega
        rw [X.p6_4_eq]
        simp only [sel_dec]
        rw [if_pos (by omega), if_pos (by omega), if_pos (by omega), if_pos (by omega), if_pos (by omega), w1, ih (i + 1) jj n0 (by omega) (by omega)]
        have ea : a.drop i = a.getD i [] :: a.drop (i + 1) := by
          rw [List.drop_eq_getElem_cons (by omega), List.getD_eq_getElem?_getD, List.getElem?_eq_getElem (by omega)]; rfl
        have eb : b.drop i = b.getD i [] :: b.drop (i + 1) := by
          rw [List.drop_eq_getElem_cons (by omega), List.getD_eq_getElem?_getD, List.getElem?_eq_getElem (by omega)]; rfl
        rw [ea, eb, Int.toNat_natCast, List.cons_beq_cons]
        cases (a.getD i [] == b.getD i [])
        · simp [sel]
        · simp [sel]
    have := go a.length 0 j j (by omega) (by omega)
    simpa using this
  · have e : (((a.length : Nat) : Int) != ((b.length : Nat) : Int)) = true := by rw [bne_iff_ne]; omega
    rw [e]
    simp only [sel_t]
    have : (a == b) = false := by rw [beq_eq_false_iff_ne]; intro h; exact hl (by rw [h])
    rw [this]

/-- The words' number. -/
theorem run_len (line : List UInt8) : ∀ (N : Nat) (wh : Wh) (i : Nat) (r : List UInt8) (ws : List (List UInt8)), r.length ≤ N → (run line wh i r ws).1.length ≤ ws.length + r.length + 1 := by
  intro N
  induction N with
  | zero =>
    intro wh i r ws h
    rw [List.eq_nil_of_length_eq_zero (Nat.le_zero.1 h)]
    cases wh <;> simp [run, bad]
  | succ N ih =>
    intro wh i r ws h
    match r with
    | [] => cases wh <;> simp [run, bad]
    | c :: r =>
      simp only [List.length_cons] at h ⊢
      cases hct : ctl c
      · have hb : ∀ k, (bad k).1.length ≤ ws.length + (r.length + 1) + 1 := by intro k; simp [bad]
        have h1 : ∀ wh' i', (run line wh' i' r ws).1.length ≤ ws.length + (r.length + 1) + 1 := fun wh' i' => by
          have := ih wh' i' r ws (by omega); omega
        have h2 : ∀ wh' i' x, (run line wh' i' r (ws ++ [x])).1.length ≤ ws.length + (r.length + 1) + 1 := fun wh' i' x => by
          have := ih wh' i' r (ws ++ [x]) (by omega); simp at this; omega
        cases wh with
        | out => simp only [run, hct, cond_false]; cases (c == 32) <;> cases (c == 34) <;> simp only [cond_false, cond_true] <;> apply h1
        | bare s => simp only [run, hct, cond_false]; cases (c == 32) <;> simp only [cond_false, cond_true] <;> first | apply h1 | apply h2
        | clo s => simp only [run, hct, cond_false]; cases (c == 32) <;> simp only [cond_false, cond_true] <;> first | apply hb | apply h2
        | quo s =>
          match r with
          | [] => simp only [run, hct, cond_false]; cases (c == 92) <;> cases (c == 34) <;> simp [bad]
          | d :: r =>
            simp only [List.length_cons] at h hb h1
            have h3 : ∀ wh' i', (run line wh' i' r ws).1.length ≤ ws.length + (r.length + 1 + 1) + 1 := fun wh' i' => by
              have := ih wh' i' r ws (by omega); omega
            rw [show run line (.quo s) i (c :: d :: r) ws = (bif ctl c then bad i else bif c == 92 then (bif ctl d then bad (i + 1) else run line (.quo s) (i + 2) r ws) else bif c == 34 then run line (.clo s) (i + 1) (d :: r) ws else run line (.quo s) (i + 1) (d :: r) ws) by rw [run]]
            simp only [hct, cond_false, List.length_cons]
            cases (c == 92) <;> cases (c == 34) <;> cases (ctl d) <;> simp only [cond_false, cond_true] <;> first | apply hb | apply h1 | apply h3
      · rw [run_ctl hct]; simp [bad]

theorem f4_ok (X : Fns) (line : List UInt8) (hlen : line.length + 1 ≤ 1048576) (j : Nat) (hj : line.length + 20 ≤ j) : X.f4 j line = some (run line .out 0 line []) := by
  obtain ⟨j, rfl⟩ : ∃ k, j = k + 3 := ⟨j - 3, by omega⟩
  rw [X.f4_eq]
  have go : ∀ (N i jj : Nat) (r : List UInt8), r.length ≤ N → line.drop i = r → i ≤ line.length → r.length + 2 < jj → (∀ k, k < i → ctl (line.getD k 0) = false) →
      X.p4_4 jj (j + 2) line [] (-1) ((line.length : Nat) : Int) ((line.length : Nat) : Int) (i : Int) = X.p4_9 (j + 2) (j + 2) line [] (-1) ((lowR r i : Nat) : Int) := by
    intro N
    induction N with
    | zero =>
      intro i jj r h hd hi hjj hk
      obtain ⟨jj, rfl⟩ : ∃ k, jj = k + 1 := ⟨jj - 1, by omega⟩
      rw [List.eq_nil_of_length_eq_zero (Nat.le_zero.1 h)] at hd ⊢
      have := congrArg List.length hd
      simp at this
      rw [X.p4_4_eq, sel_dec, if_neg (by omega)]
      simp only [lowR]
      rw [show i = line.length by omega]
    | succ N ih =>
      intro i jj r h hd hi hjj hk
      match r with
      | [] => exact ih i jj [] (by simp) hd hi hjj hk
      | c :: r =>
        obtain ⟨hc, hil, hr⟩ := drop_cons hd
        simp only [List.length_cons] at h hjj
        obtain ⟨jj, rfl⟩ : ∃ k, jj = k + 3 := ⟨jj - 3, by omega⟩
        have w1 : IntKind.i64.wrap ((i : Int) + 1) = ((i + 1 : Nat) : Int) := by rw [wrap64 (by omega) (by omega)]; omega
        have h0 : (0 : Int) ≤ (i : Int) := by omega
        have hlt : (i : Int) < (line.length : Int) := by omega
        rw [X.p4_4_eq]
        simp only [sel_dec, if_pos h0, if_pos hlt, Int.toNat_natCast, hc, b_eq, X.p4_2055_eq, X.p4_8_eq, w1, sel_t]
        by_cases h32 : c < 32
        · rw [if_pos (by rw [b_ltP]; exact h32)]
          have : ctl c = true := by simp [ctl, h32]
          simp only [lowR, this, cond_true]
        · rw [if_neg (by rw [b_ltP]; exact h32)]
          cases h127 : (c == 127)
          · have hct : ctl c = false := by simp only [ctl, h127, Bool.or_false]; simp [h32]
            simp only [sel_f, lowR, hct, cond_false]
            exact ih (i + 1) (jj + 2) r (by omega) hr (by omega) (by omega) (by
              intro k hk'
              by_cases e : k = i
              · rw [e, hc]; exact hct
              · exact hk k (by omega))
          · have hct : ctl c = true := by simp only [ctl, h127, Bool.or_true]
            simp only [sel_t, lowR, hct, cond_true]
  rw [show (0 : Int) = ((0 : Nat) : Int) from rfl, go _ 0 (j + 2) line (Nat.le_refl _) rfl (by omega) (by omega) (fun k hk => absurd hk (by omega))]
  rw [X.p4_9_eq]
  exact (front X line (by omega) _).1 line 0 _ [] (j + 1) (j + 2) (j + 1) (Nat.le_refl _) rfl (by omega) rfl (by simp; omega) (by omega) (by omega)

theorem f5_ok (X : Fns) (line : List UInt8) (hlen : line.length + 1 ≤ 1048576) (j : Nat) (hj : 2 * line.length + 20 ≤ j) : X.f5 j line = some (run line .out 0 line []) := by
  obtain ⟨j, rfl⟩ : ∃ k, j = k + 1 := ⟨j - 1, by omega⟩
  rw [X.f5_eq]
  exact p5_ok X line (by omega) _ line 0 [] .out j j (Nat.le_refl _) rfl (by omega) trivial (by simp; omega) (by omega) (by omega)

/-- THE PLAIN LAW. -/
theorem law (X : Fns) (line : List UInt8) (hlen : line.length + 1 ≤ 1048576) : X.f3 (2 * line.length + 100) line = some (true, ()) := by
  have h4 := f4_ok X line hlen (2 * line.length + 99) (by omega)
  have h5 := f5_ok X line hlen (2 * line.length + 99) (by omega)
  have h4' := f4_ok X [97, 32, 98] (by decide) (2 * line.length + 99) (by simp)
  have hw := run_len line _ .out 0 line [] (Nat.le_refl _)
  simp only [List.length_nil, Nat.zero_add] at hw
  generalize run line .out 0 line [] = R at h4 h5 hw
  have h6 := f6_ok X R.1 R.1 (by omega) (2 * line.length + 99) (by omega)
  have e7 : X.f7 (2 * line.length + 99) line = some (((wid line line.length 0 : Nat) : Int), ()) := by
    have := f7_ok X line line.length 0 (2 * line.length + 98) (2 * line.length + 98) 0 (by omega) (by omega) (by omega)
    rw [Nat.zero_add] at this
    rw [X.f7_eq]; exact this
  have e8 : X.f8 (2 * line.length + 99) line = some (((wid line line.length 0 : Nat) : Int), ()) := by
    have := f8_ok X line (by omega) line.length 0 (2 * line.length + 98) (2 * line.length + 98) 0 (by omega) (by omega) (by omega) (by omega)
    rw [Nat.zero_add] at this
    rw [X.f8_eq]; exact this
  have er : run [97, 32, 98] .out 0 [97, 32, 98] [] = ([[97], [98]], 0, 0, ()) := by decide
  rw [er] at h4'
  have h6' := f6_ok X [[97], [98]] [[97], [98]] (by decide) (2 * line.length + 99) (by simp)
  have e9 : X.f9 (2 * line.length + 99) = some (true, ()) := X.f9_eq _
  have b1 : (R.1 == R.1) = true := by simp
  have b2 : (([[97], [98]] : List (List UInt8)) == [[97], [98]]) = true := by decide
  rw [b1] at h6
  rw [b2] at h6'
  rw [X.f3_eq, h4]
  simp only [ob_some, h5, h4', h6, Bool.not_true, sel_f, bne_self_eq_false, e7, e8, h6', e9]
  rw [X.p3_2054_eq, X.p3_7_eq]
  simp only [sel_f]
  have go : ∀ (N i jj : Nat) (v : List (List UInt8)), v.length = i + N → N < jj → v.length ≤ 1048577 → X.p3_8 jj (2 * line.length + 99) (2 * line.length + 98) v R.1 R.1 (i : Int) = some (true, ()) := by
    intro N
    induction N with
    | zero =>
      intro i jj v h hjj hv
      obtain ⟨jj, rfl⟩ : ∃ k, jj = k + 1 := ⟨jj - 1, by omega⟩
      have h6 := f6_ok X R.1 R.1 (by omega) (2 * line.length + 98) (by omega)
      rw [b1] at h6
      rw [X.p3_8_eq, sel_dec, if_neg (by omega), h6]
      rfl
    | succ N ih =>
      intro i jj v h hjj hv
      obtain ⟨jj, rfl⟩ : ∃ k, jj = k + 1 := ⟨jj - 1, by omega⟩
      have w1 : IntKind.i64.wrap ((i : Int) + 1) = ((i + 1 : Nat) : Int) := by rw [wrap64 (by omega) (by omega)]; omega
      rw [X.p3_8_eq]
      simp only [sel_dec]
      rw [if_pos (by omega), if_pos (by omega), if_pos (by omega), w1]
      exact ih (i + 1) jj _ (by simp; omega) (by omega) (by simpa using hv)
  have := go R.1.length 0 (2 * line.length + 98) R.1 (by omega) (by omega) (by omega)
  exact this
end NsG

