import Derived.Test.YtgnihbbhmbbkbaaDoorLmTwo
import Derived.Test.YtgnihbbhmbbkbaaDoorNwP
set_option linter.all false
namespace Nq
open Go Lk NqG
set_option linter.unusedVariables false

/-- The functions, by their equations alone. -/
structure FnsP extends FnsM where
  /-- strconv.Atoi -/
  f55 (n : Nat) (a0 : List UInt8) : Option (Int × Bool × Unit)
  /-- moraine/names.Parse -/
  f27 (n : Nat) (a0 : List UInt8) : Option (Int × Int × Int × Unit)
  p27_7 (j : Nat) (n0 : Nat) (v0 : List UInt8) (v2 : Int) (v5 : List UInt8) : Option (Int × Int × Int × Unit)
  p27_8 (j : Nat) (n0 : Nat) (n1 : Nat) (v0 : List UInt8) (v2 : Int) (v5 : List UInt8) (v24 : List (Int)) (v25 : Int) (v26 : Int) : Option (Int × Int × Int × Unit)
  p27_2060 (j : Nat) (n0 : Nat) (n1 : Nat) (n2 : Nat) (v0 : List UInt8) (v2 : Int) (v5 : List UInt8) (v9 : Int) (v10 : List UInt8) (v24 : List (Int)) (v25 : Int) (v26 : Int) (v41 : Bool) : Option (Int × Int × Int × Unit)
  p27_2067 (j : Nat) (n0 : Nat) (n1 : Nat) (v2 : Int) (v3 : Int) (v64 : Bool) : Option (Int × Int × Int × Unit)
  p27_13 (j : Nat) (n0 : Nat) (n1 : Nat) (n2 : Nat) (v0 : List UInt8) (v2 : Int) (v5 : List UInt8) (v24 : List (Int)) (v25 : Int) (v26 : Int) : Option (Int × Int × Int × Unit)
  p27_20 (j : Nat) (n0 : Nat) (n1 : Nat) (v2 : Int) (v3 : Int) : Option (Int × Int × Int × Unit)
  /-- moraine/names.Current -/
  f29 (n : Nat) (a0 : Int) : Option (List UInt8 × Int × Unit)
  /-- moraine/names.Named -/
  f31 (n : Nat) (a0 : List UInt8) : Option (Int × Int × Unit)
  p31_2052 (j : Nat) (n0 : Nat) (v7 : Int) (v29 : Bool) : Option (Int × Int × Unit)
  p31_5 (j : Nat) (n0 : Nat) (v7 : Int) : Option (Int × Int × Unit)
  /-- strings.CutPrefix -/
  f53 (n : Nat) (a0 : List UInt8) (a1 : List UInt8) : Option (List UInt8 × Bool × Unit)
  /-- strings.CutSuffix -/
  f54 (n : Nat) (a0 : List UInt8) (a1 : List UInt8) : Option (List UInt8 × Bool × Unit)
  /-- internal/stringslite.CutPrefix -/
  f75 (n : Nat) (a0 : List UInt8) (a1 : List UInt8) : Option (List UInt8 × Bool × Unit)
  /-- internal/stringslite.CutSuffix -/
  f76 (n : Nat) (a0 : List UInt8) (a1 : List UInt8) : Option (List UInt8 × Bool × Unit)
  /-- internal/stringslite.HasSuffix -/
  f89 (n : Nat) (a0 : List UInt8) (a1 : List UInt8) : Option (Bool × Unit)
  /-- internal/stringslite.HasPrefix -/
  f64 (n : Nat) (a0 : List UInt8) (a1 : List UInt8) : Option (Bool × Unit)
  f55_eq (n : Nat) (a0 : List UInt8) : f55 n a0 = bif Nat.ble a0.length 2147483648 then some ((atoi a0).1, (atoi a0).2, ()) else none
  f27_eq (n : Nat) (a0 : List UInt8) : f27 (n + 1) a0 =
  (sel (a0 == [(67 : UInt8), (85 : UInt8), (82 : UInt8), (82 : UInt8), (69 : UInt8), (78 : UInt8), (84 : UInt8)])
   (some ((4 : Int), (0 : Int), (0 : Int), ()))
   (obind (f53 n (a0) ([(77 : UInt8), (65 : UInt8), (78 : UInt8), (73 : UInt8), (70 : UInt8), (69 : UInt8), (83 : UInt8), (84 : UInt8), (45 : UInt8)])) fun r137 =>
    (sel (r137.snd.fst)
     (p27_7 (n) (n) (a0) ((3 : Int)) (r137.fst))
     (p27_7 (n) (n) (a0) ((0 : Int)) ([])))))
  p27_7_eq (j : Nat) (n0 : Nat) (v0 : List UInt8) (v2 : Int) (v5 : List UInt8) : p27_7 (j + 1) n0 v0 v2 v5 =
  (p27_8 (j) (n0) (j) (v0) (v2) (v5) ([(1 : Int), (2 : Int), (5 : Int)]) ((↑[(1 : Int), (2 : Int), (5 : Int)].length : Int)) ((0 : Int)))
  p27_8_eq (j : Nat) (n0 : Nat) (n1 : Nat) (v0 : List UInt8) (v2 : Int) (v5 : List UInt8) (v24 : List (Int)) (v25 : Int) (v26 : Int) : p27_8 (j + 1) n0 n1 v0 v2 v5 v24 v25 v26 =
  (sel (Decidable.decide (v26 < v25))
   (sel (Decidable.decide ((0 : Int) ≤ v26))
    (sel (Decidable.decide (v26 < (↑v24.length : Int)))
     (obind (f51 j (v24.getD v26.toNat (0 : Int))) fun r342 =>
      (obind (f54 j (v0) (r342.fst)) fun r350 =>
       (sel (r350.snd.fst)
        (p27_2060 (j) (n0) (n1) (j) (v0) (v2) (v5) (v24.getD v26.toNat (0 : Int)) (r350.fst) (v24) (v25) (v26) (v2 == (0 : Int)))
        (p27_2060 (j) (n0) (n1) (j) (v0) (v2) (v5) (v24.getD v26.toNat (0 : Int)) (r350.fst) (v24) (v25) (v26) (Bool.false)))))
     none)
    none)
   (obind (f55 n1 (v5)) fun r496 =>
    (sel (r496.snd.fst)
     (some ((0 : Int), (0 : Int), (60 : Int), ()))
     (obind (f25 n1 (v2) (r496.fst)) fun r632 =>
      (sel (r632.snd.fst != (0 : Int))
       (p27_2067 (n1) (n0) (n1) (v2) (r496.fst) (Bool.true))
       (p27_2067 (n1) (n0) (n1) (v2) (r496.fst) (!r632.fst == v0)))))))
  p27_2060_eq (j : Nat) (n0 : Nat) (n1 : Nat) (n2 : Nat) (v0 : List UInt8) (v2 : Int) (v5 : List UInt8) (v9 : Int) (v10 : List UInt8) (v24 : List (Int)) (v25 : Int) (v26 : Int) (v41 : Bool) : p27_2060 (j + 1) n0 n1 n2 v0 v2 v5 v9 v10 v24 v25 v26 v41 =
  (sel (v41)
   (p27_13 (n2) (n0) (n1) (n2) (v0) (v9) (v10) (v24) (v25) (v26))
   (p27_13 (n2) (n0) (n1) (n2) (v0) (v2) (v5) (v24) (v25) (v26)))
  p27_2067_eq (j : Nat) (n0 : Nat) (n1 : Nat) (v2 : Int) (v3 : Int) (v64 : Bool) : p27_2067 (j + 1) n0 n1 v2 v3 v64 =
  (sel (v64)
   (some ((0 : Int), (0 : Int), (60 : Int), ()))
   (p27_20 (n1) (n0) (n1) (v2) (v3)))
  p27_13_eq (j : Nat) (n0 : Nat) (n1 : Nat) (n2 : Nat) (v0 : List UInt8) (v2 : Int) (v5 : List UInt8) (v24 : List (Int)) (v25 : Int) (v26 : Int) : p27_13 (j + 1) n0 n1 n2 v0 v2 v5 v24 v25 v26 =
  (p27_8 (n2) (n0) (n1) (v0) (v2) (v5) (v24) (v25) (Go.IntKind.i64.wrap (v26 + (1 : Int))))
  p27_20_eq (j : Nat) (n0 : Nat) (n1 : Nat) (v2 : Int) (v3 : Int) : p27_20 (j + 1) n0 n1 v2 v3 =
  (some (v2, v3, (0 : Int), ()))
  f29_eq (n : Nat) (a0 : Int) : f29 (n + 1) a0 =
  (obind (f25 n ((3 : Int)) (a0)) fun r44 =>
   (sel (r44.snd.fst != (0 : Int))
    (some ([], r44.snd.fst, ()))
    (sel (Decidable.decide (List.length r44.fst + [(10 : UInt8)].length ≤ Lk.big))
     (some (r44.fst ++ [(10 : UInt8)], (0 : Int), ()))
     none)))
  f31_eq (n : Nat) (a0 : List UInt8) : f31 (n + 1) a0 =
  (obind (f54 n (a0) ([(10 : UInt8)])) fun r44 =>
   (obind (f27 n (r44.fst)) fun r101 =>
    (sel (!r44.snd.fst)
     (p31_2052 (n) (n) (r101.snd.fst) (Bool.true))
     (sel (r101.snd.snd.fst != (0 : Int))
      (p31_2052 (n) (n) (r101.snd.fst) (Bool.true))
      (p31_2052 (n) (n) (r101.snd.fst) (r101.fst != (3 : Int)))))))
  p31_2052_eq (j : Nat) (n0 : Nat) (v7 : Int) (v29 : Bool) : p31_2052 (j + 1) n0 v7 v29 =
  (sel (v29)
   (some ((0 : Int), (60 : Int), ()))
   (p31_5 (n0) (n0) (v7)))
  p31_5_eq (j : Nat) (n0 : Nat) (v7 : Int) : p31_5 (j + 1) n0 v7 =
  (some (v7, (0 : Int), ()))
  f53_eq (n : Nat) (a0 : List UInt8) (a1 : List UInt8) : f53 (n + 1) a0 a1 =
  (obind (f75 n (a0) (a1)) fun r51 =>
   (some (r51.fst, r51.snd.fst, ())))
  f54_eq (n : Nat) (a0 : List UInt8) (a1 : List UInt8) : f54 (n + 1) a0 a1 =
  (obind (f76 n (a0) (a1)) fun r51 =>
   (some (r51.fst, r51.snd.fst, ())))
  f75_eq (n : Nat) (a0 : List UInt8) (a1 : List UInt8) : f75 (n + 1) a0 a1 =
  (obind (f64 n (a0) (a1)) fun r52 =>
   (sel (!r52.fst)
    (some (a0, Bool.false, ()))
    (sel (Decidable.decide ((0 : Int) ≤ (↑a1.length : Int)))
     (sel (Decidable.decide ((↑a1.length : Int) ≤ (↑a0.length : Int)))
      (some (Lk.ext a0 (↑a1.length : Int) (↑a0.length : Int), Bool.true, ()))
      none)
     none)))
  f76_eq (n : Nat) (a0 : List UInt8) (a1 : List UInt8) : f76 (n + 1) a0 a1 =
  (obind (f89 n (a0) (a1)) fun r52 =>
   (sel (!r52.fst)
    (some (a0, Bool.false, ()))
    (sel (Decidable.decide ((0 : Int) ≤ Go.IntKind.i64.wrap ((↑a0.length : Int) - (↑a1.length : Int))))
     (sel (Decidable.decide (Go.IntKind.i64.wrap ((↑a0.length : Int) - (↑a1.length : Int)) ≤ (↑a0.length : Int)))
      (some (Lk.ext a0 (0 : Int) (Go.IntKind.i64.wrap ((↑a0.length : Int) - (↑a1.length : Int))), Bool.true, ()))
      none)
     none)))
  f89_eq (n : Nat) (a0 : List UInt8) (a1 : List UInt8) : f89 (n + 1) a0 a1 =
  (sel (Decidable.decide ((↑a0.length : Int) ≥ (↑a1.length : Int)))
   (sel (Decidable.decide ((0 : Int) ≤ Go.IntKind.i64.wrap ((↑a0.length : Int) - (↑a1.length : Int))))
    (sel (Decidable.decide (Go.IntKind.i64.wrap ((↑a0.length : Int) - (↑a1.length : Int)) ≤ (↑a0.length : Int)))
     (some (Lk.ext a0 (Go.IntKind.i64.wrap ((↑a0.length : Int) - (↑a1.length : Int))) (↑a0.length : Int) == a1, ()))
     none)
    none)
   (some (Bool.false, ())))
  f64_eq (n : Nat) (a0 : List UInt8) (a1 : List UInt8) : f64 (n + 1) a0 a1 =
  (sel (Decidable.decide ((↑a0.length : Int) ≥ (↑a1.length : Int)))
   (sel (Decidable.decide ((0 : Int) ≤ (↑a1.length : Int)))
    (sel (Decidable.decide ((↑a1.length : Int) ≤ (↑a0.length : Int)))
     (some (Lk.ext a0 (0 : Int) (↑a1.length : Int) == a1, ()))
     none)
    none)
   (some (Bool.false, ())))
end Nq

namespace Nq
open Go Lk NqG
set_option linter.unusedVariables false

/-- The functions, by their equations alone. -/
structure FnsN extends FnsP where
  /-- moraine/morainelaw06.NamesNames -/
  f8 (n : Nat) (a0 : Int) (a1 : Int) (a2 : List UInt8) : Option (Bool × Unit)
  p8_2056 (j : Nat) (n0 : Nat) (v1 : Int) (v2 : List UInt8) (v65 : Bool) : Option (Bool × Unit)
  p8_9 (j : Nat) (n0 : Nat) (v1 : Int) (v2 : List UInt8) : Option (Bool × Unit)
  /-- moraine/morainelaw06.numbers -/
  f15 (n : Nat) : Option (Bool × Unit)
  /-- moraine/moraineref06.Name -/
  f26 (n : Nat) (a0 : Int) (a1 : Int) : Option (List UInt8 × Int × Unit)
  p26_2050 (j : Nat) (n0 : Nat) (v0 : Int) (v1 : Int) (v11 : Bool) : Option (List UInt8 × Int × Unit)
  p26_3 (j : Nat) (n0 : Nat) (v0 : Int) (v1 : Int) : Option (List UInt8 × Int × Unit)
  p26_2052 (j : Nat) (n0 : Nat) (n1 : Nat) (v0 : Int) (v1 : Int) (v21 : Bool) : Option (List UInt8 × Int × Unit)
  p26_5 (j : Nat) (n0 : Nat) (n1 : Nat) (v0 : Int) (v1 : Int) : Option (List UInt8 × Int × Unit)
  /-- moraine/moraineref06.Parse -/
  f28 (n : Nat) (a0 : List UInt8) : Option (Int × Int × Int × Unit)
  p28_3 (j : Nat) (n0 : Nat) (v0 : List UInt8) (v5 : Int) (v6 : Int) : Option (Int × Int × Int × Unit)
  p28_2054 (j : Nat) (n0 : Nat) (n1 : Nat) (v0 : List UInt8) (v5 : Int) (v6 : Int) (v29 : Bool) : Option (Int × Int × Int × Unit)
  p28_8 (j : Nat) (n0 : Nat) (v0 : List UInt8) (v5 : Int) (v7 : Int) : Option (Int × Int × Int × Unit)
  p28_4 (j : Nat) (n0 : Nat) (n1 : Nat) (v0 : List UInt8) (v5 : Int) (v6 : Int) : Option (Int × Int × Int × Unit)
  p28_2060 (j : Nat) (n0 : Nat) (n1 : Nat) (v0 : List UInt8) (v5 : Int) (v7 : Int) (v54 : Bool) : Option (Int × Int × Int × Unit)
  p28_9 (j : Nat) (n0 : Nat) (n1 : Nat) (v0 : List UInt8) (v5 : Int) (v7 : Int) : Option (Int × Int × Int × Unit)
  /-- moraine/moraineref06.Current -/
  f30 (n : Nat) (a0 : Int) : Option (List UInt8 × Int × Unit)
  /-- moraine/moraineref06.Named -/
  f32 (n : Nat) (a0 : List UInt8) : Option (Int × Int × Unit)
  p32_2050 (j : Nat) (n0 : Nat) (v0 : List UInt8) (v17 : Bool) : Option (Int × Int × Unit)
  p32_3 (j : Nat) (n0 : Nat) (v0 : List UInt8) : Option (Int × Int × Unit)
  p32_2053 (j : Nat) (n0 : Nat) (n1 : Nat) (v5 : Int) (v33 : Bool) : Option (Int × Int × Unit)
  p32_6 (j : Nat) (n0 : Nat) (n1 : Nat) (v5 : Int) : Option (Int × Int × Unit)
  /-- moraine/moraineref06.padded -/
  f52 (n : Nat) (a0 : Int) : Option (List UInt8 × Unit)
  p52_2 (j : Nat) (n0 : Nat) (v3 : List UInt8) : Option (List UInt8 × Unit)
  /-- moraine/moraineref06.digits -/
  f74 (n : Nat) (a0 : Int) : Option (List UInt8 × Unit)
  p74_2 (j : Nat) (n0 : Nat) (v0 : Int) (v3 : List UInt8) : Option (List UInt8 × Unit)
  f8_eq (n : Nat) (a0 : Int) (a1 : Int) (a2 : List UInt8) : f8 (n + 1) a0 a1 a2 =
  (obind (f15 n ) fun r31 =>
   (sel (!r31.fst)
    (some (Bool.false, ()))
    (obind (f25 n (a0) (a1)) fun r102 =>
     (obind (f26 n (a0) (a1)) fun r166 =>
      (obind (f27 n (a2)) fun r223 =>
       (obind (f28 n (a2)) fun r294 =>
        (sel (!r102.fst == r166.fst)
         (p8_2056 (n) (n) (a1) (a2) (Bool.true))
         (sel (r102.snd.fst != r166.snd.fst)
          (p8_2056 (n) (n) (a1) (a2) (Bool.true))
          (sel (r223.fst != r294.fst)
           (p8_2056 (n) (n) (a1) (a2) (Bool.true))
           (sel (r223.snd.fst != r294.snd.fst)
            (p8_2056 (n) (n) (a1) (a2) (Bool.true))
            (p8_2056 (n) (n) (a1) (a2) (r223.snd.snd.fst != r294.snd.snd.fst))))))))))))
  p8_2056_eq (j : Nat) (n0 : Nat) (v1 : Int) (v2 : List UInt8) (v65 : Bool) : p8_2056 (j + 1) n0 v1 v2 v65 =
  (sel (v65)
   (some (Bool.false, ()))
   (p8_9 (n0) (n0) (v1) (v2)))
  p8_9_eq (j : Nat) (n0 : Nat) (v1 : Int) (v2 : List UInt8) : p8_9 (j + 1) n0 v1 v2 =
  (obind (f29 j (v1)) fun r1043 =>
   (obind (f30 j (v1)) fun r1100 =>
    (obind (f31 j (v2)) fun r1157 =>
     (obind (f32 j (v2)) fun r1214 =>
      (sel (r1043.fst == r1100.fst)
       (sel (r1043.snd.fst == r1100.snd.fst)
        (sel (r1157.fst == r1214.fst)
         (some (r1157.snd.fst == r1214.snd.fst, ()))
         (some (Bool.false, ())))
        (some (Bool.false, ())))
       (some (Bool.false, ())))))))
  f15_eq (n : Nat)  : f15 (n + 1)  =
  (some (Bool.true, ()))
  f26_eq (n : Nat) (a0 : Int) (a1 : Int) : f26 (n + 1) a0 a1 =
  (sel (a0 == (4 : Int))
   (p26_2050 (n) (n) (a0) (a1) (a1 == (0 : Int)))
   (p26_2050 (n) (n) (a0) (a1) (Bool.false)))
  p26_2050_eq (j : Nat) (n0 : Nat) (v0 : Int) (v1 : Int) (v11 : Bool) : p26_2050 (j + 1) n0 v0 v1 v11 =
  (sel (v11)
   (some ([(67 : UInt8), (85 : UInt8), (82 : UInt8), (82 : UInt8), (69 : UInt8), (78 : UInt8), (84 : UInt8)], (0 : Int), ()))
   (p26_3 (n0) (n0) (v0) (v1)))
  p26_3_eq (j : Nat) (n0 : Nat) (v0 : Int) (v1 : Int) : p26_3 (j + 1) n0 v0 v1 =
  (sel (v0 == (4 : Int))
   (p26_2052 (j) (n0) (j) (v0) (v1) (Bool.true))
   (sel (Decidable.decide (v1 < (1 : Int)))
    (p26_2052 (j) (n0) (j) (v0) (v1) (Bool.true))
    (p26_2052 (j) (n0) (j) (v0) (v1) (Decidable.decide (v1 > (2147483647 : Int))))))
  p26_2052_eq (j : Nat) (n0 : Nat) (n1 : Nat) (v0 : Int) (v1 : Int) (v21 : Bool) : p26_2052 (j + 1) n0 n1 v0 v1 v21 =
  (sel (v21)
   (some ([], (60 : Int), ()))
   (p26_5 (n1) (n0) (n1) (v0) (v1)))
  p26_5_eq (j : Nat) (n0 : Nat) (n1 : Nat) (v0 : Int) (v1 : Int) : p26_5 (j + 1) n0 n1 v0 v1 =
  (sel (v0 == (1 : Int))
   (obind (f52 j (v1)) fun r448 =>
    (sel (Decidable.decide (List.length r448.fst + [(46 : UInt8), (108 : UInt8), (111 : UInt8), (103 : UInt8)].length ≤ Lk.big))
     (some (r448.fst ++ [(46 : UInt8), (108 : UInt8), (111 : UInt8), (103 : UInt8)], (0 : Int), ()))
     none))
   (sel (v0 == (2 : Int))
    (obind (f52 j (v1)) fun r531 =>
     (sel (Decidable.decide (List.length r531.fst + [(46 : UInt8), (116 : UInt8), (97 : UInt8), (98 : UInt8)].length ≤ Lk.big))
      (some (r531.fst ++ [(46 : UInt8), (116 : UInt8), (97 : UInt8), (98 : UInt8)], (0 : Int), ()))
      none))
    (sel (v0 == (5 : Int))
     (obind (f52 j (v1)) fun r614 =>
      (sel (Decidable.decide (List.length r614.fst + [(46 : UInt8), (116 : UInt8), (109 : UInt8), (112 : UInt8)].length ≤ Lk.big))
       (some (r614.fst ++ [(46 : UInt8), (116 : UInt8), (109 : UInt8), (112 : UInt8)], (0 : Int), ()))
       none))
     (sel (v0 == (3 : Int))
      (obind (f52 j (v1)) fun r697 =>
       (sel (Decidable.decide ([(77 : UInt8), (65 : UInt8), (78 : UInt8), (73 : UInt8), (70 : UInt8), (69 : UInt8), (83 : UInt8), (84 : UInt8), (45 : UInt8)].length + List.length r697.fst ≤ Lk.big))
        (some ([(77 : UInt8), (65 : UInt8), (78 : UInt8), (73 : UInt8), (70 : UInt8), (69 : UInt8), (83 : UInt8), (84 : UInt8), (45 : UInt8)] ++ r697.fst, (0 : Int), ()))
        none))
      (some ([], (60 : Int), ()))))))
  f28_eq (n : Nat) (a0 : List UInt8) : f28 (n + 1) a0 =
  (p28_3 (n) (n) (a0) ((0 : Int)) ((0 : Int)))
  p28_3_eq (j : Nat) (n0 : Nat) (v0 : List UInt8) (v5 : Int) (v6 : Int) : p28_3 (j + 1) n0 v0 v5 v6 =
  (sel (Decidable.decide (v6 < (↑v0.length : Int)))
   (sel (Decidable.decide ((0 : Int) ≤ v6))
    (sel (Decidable.decide (v6 < (↑v0.length : Int)))
     (sel (Decidable.decide ((↑(v0.getD v6.toNat (0 : UInt8)).toNat : Int) ≥ (↑(UInt8.toNat (48 : UInt8)) : Int)))
      (sel (Decidable.decide ((0 : Int) ≤ v6))
       (sel (Decidable.decide (v6 < (↑v0.length : Int)))
        (sel (Decidable.decide ((↑(v0.getD v6.toNat (0 : UInt8)).toNat : Int) ≤ (↑(UInt8.toNat (57 : UInt8)) : Int)))
         (p28_2054 (j) (n0) (j) (v0) (v5) (v6) (Decidable.decide (v5 ≤ (2147483647 : Int))))
         (p28_2054 (j) (n0) (j) (v0) (v5) (v6) (Bool.false)))
        none)
       none)
      (p28_2054 (j) (n0) (j) (v0) (v5) (v6) (Bool.false)))
     none)
    none)
   (p28_8 (n0) (n0) (v0) (v5) ((1 : Int))))
  p28_2054_eq (j : Nat) (n0 : Nat) (n1 : Nat) (v0 : List UInt8) (v5 : Int) (v6 : Int) (v29 : Bool) : p28_2054 (j + 1) n0 n1 v0 v5 v6 v29 =
  (sel (v29)
   (sel (Decidable.decide ((0 : Int) ≤ v6))
    (sel (Decidable.decide (v6 < (↑v0.length : Int)))
     (p28_4 (n1) (n0) (n1) (v0) (Go.IntKind.i64.wrap (Go.IntKind.i64.wrap (v5 * (10 : Int)) + Go.IntKind.i64.wrap (↑(UInt8.ofNat (Go.IntKind.u8.wrap ((↑(v0.getD v6.toNat (0 : UInt8)).toNat : Int) - (↑(UInt8.toNat (48 : UInt8)) : Int))).toNat).toNat : Int))) (v6))
     none)
    none)
   (p28_4 (n1) (n0) (n1) (v0) (v5) (v6)))
  p28_8_eq (j : Nat) (n0 : Nat) (v0 : List UInt8) (v5 : Int) (v7 : Int) : p28_8 (j + 1) n0 v0 v5 v7 =
  (sel (Decidable.decide (v7 ≤ (5 : Int)))
   (obind (f26 j (v7) (v5)) fun r530 =>
    (sel (r530.snd.fst == (0 : Int))
     (p28_2060 (j) (n0) (j) (v0) (v5) (v7) (r530.fst == v0))
     (p28_2060 (j) (n0) (j) (v0) (v5) (v7) (Bool.false))))
   (some ((0 : Int), (0 : Int), (60 : Int), ())))
  p28_4_eq (j : Nat) (n0 : Nat) (n1 : Nat) (v0 : List UInt8) (v5 : Int) (v6 : Int) : p28_4 (j + 1) n0 n1 v0 v5 v6 =
  (p28_3 (n1) (n0) (v0) (v5) (Go.IntKind.i64.wrap (v6 + (1 : Int))))
  p28_2060_eq (j : Nat) (n0 : Nat) (n1 : Nat) (v0 : List UInt8) (v5 : Int) (v7 : Int) (v54 : Bool) : p28_2060 (j + 1) n0 n1 v0 v5 v7 v54 =
  (sel (v54)
   (some (v7, v5, (0 : Int), ()))
   (p28_9 (n1) (n0) (n1) (v0) (v5) (v7)))
  p28_9_eq (j : Nat) (n0 : Nat) (n1 : Nat) (v0 : List UInt8) (v5 : Int) (v7 : Int) : p28_9 (j + 1) n0 n1 v0 v5 v7 =
  (p28_8 (n1) (n0) (v0) (v5) (Go.IntKind.i64.wrap (v7 + (1 : Int))))
  f30_eq (n : Nat) (a0 : Int) : f30 (n + 1) a0 =
  (obind (f26 n ((3 : Int)) (a0)) fun r44 =>
   (sel (r44.snd.fst != (0 : Int))
    (some ([], r44.snd.fst, ()))
    (sel (Decidable.decide (List.length r44.fst + [(10 : UInt8)].length ≤ Lk.big))
     (some (r44.fst ++ [(10 : UInt8)], (0 : Int), ()))
     none)))
  f32_eq (n : Nat) (a0 : List UInt8) : f32 (n + 1) a0 =
  (sel (Decidable.decide ((↑a0.length : Int) < (1 : Int)))
   (p32_2050 (n) (n) (a0) (Bool.true))
   (sel (Decidable.decide ((0 : Int) ≤ Go.IntKind.i64.wrap ((↑a0.length : Int) - (1 : Int))))
    (sel (Decidable.decide (Go.IntKind.i64.wrap ((↑a0.length : Int) - (1 : Int)) < (↑a0.length : Int)))
     (p32_2050 (n) (n) (a0) ((↑(a0.getD (Go.IntKind.i64.wrap ((↑a0.length : Int) - (1 : Int))).toNat (0 : UInt8)).toNat : Int) != (↑(UInt8.toNat (10 : UInt8)) : Int)))
     none)
    none))
  p32_2050_eq (j : Nat) (n0 : Nat) (v0 : List UInt8) (v17 : Bool) : p32_2050 (j + 1) n0 v0 v17 =
  (sel (v17)
   (some ((0 : Int), (60 : Int), ()))
   (p32_3 (n0) (n0) (v0)))
  p32_3_eq (j : Nat) (n0 : Nat) (v0 : List UInt8) : p32_3 (j + 1) n0 v0 =
  (sel (Decidable.decide ((0 : Int) ≤ Go.IntKind.i64.wrap ((↑v0.length : Int) - (1 : Int))))
   (sel (Decidable.decide (Go.IntKind.i64.wrap ((↑v0.length : Int) - (1 : Int)) ≤ (↑v0.length : Int)))
    (obind (f28 j (Lk.ext v0 (0 : Int) (Go.IntKind.i64.wrap ((↑v0.length : Int) - (1 : Int))))) fun r304 =>
     (sel (r304.snd.snd.fst != (0 : Int))
      (p32_2053 (j) (n0) (j) (r304.snd.fst) (Bool.true))
      (p32_2053 (j) (n0) (j) (r304.snd.fst) (r304.fst != (3 : Int)))))
    none)
   none)
  p32_2053_eq (j : Nat) (n0 : Nat) (n1 : Nat) (v5 : Int) (v33 : Bool) : p32_2053 (j + 1) n0 n1 v5 v33 =
  (sel (v33)
   (some ((0 : Int), (60 : Int), ()))
   (p32_6 (n1) (n0) (n1) (v5)))
  p32_6_eq (j : Nat) (n0 : Nat) (n1 : Nat) (v5 : Int) : p32_6 (j + 1) n0 n1 v5 =
  (some (v5, (0 : Int), ()))
  f52_eq (n : Nat) (a0 : Int) : f52 (n + 1) a0 =
  (obind (f74 n (a0)) fun r37 =>
   (p52_2 (n) (n) (r37.fst)))
  p52_2_eq (j : Nat) (n0 : Nat) (v3 : List UInt8) : p52_2 (j + 1) n0 v3 =
  (sel (Decidable.decide ((↑v3.length : Int) < (6 : Int)))
   (sel (Decidable.decide ([(48 : UInt8)].length + v3.length ≤ Lk.big))
    (p52_2 (j) (n0) ([(48 : UInt8)] ++ v3))
    none)
   (some (v3, ())))
  f74_eq (n : Nat) (a0 : Int) : f74 (n + 1) a0 =
  (p74_2 (n) (n) (a0) ([]))
  p74_2_eq (j : Nat) (n0 : Nat) (v0 : Int) (v3 : List UInt8) : p74_2 (j + 1) n0 v0 v3 =
  (sel (Decidable.decide (v0 > (0 : Int)))
   (sel ((10 : Int) != (0 : Int))
    (sel (Decidable.decide ([UInt8.ofNat (Go.IntKind.u8.wrap (Go.IntKind.i64.wrap ((48 : Int) + v0.tmod (10 : Int)))).toNat].length + v3.length ≤ Lk.big))
     (sel ((10 : Int) != (0 : Int))
      (p74_2 (j) (n0) (Go.IntKind.i64.wrap (v0.tdiv (10 : Int))) ([UInt8.ofNat (Go.IntKind.u8.wrap (Go.IntKind.i64.wrap ((48 : Int) + v0.tmod (10 : Int)))).toNat] ++ v3))
      none)
     none)
    none)
   (sel (v3 == [])
    (some ([(48 : UInt8)], ()))
    (some (v3, ()))))
end Nq

namespace Nq
open Go Lk NqG
set_option linter.unusedVariables false

/-- The functions, by their equations alone. -/
structure FnsB extends FnsK, FnsP where
  /-- moraine/morainelaw06.NamesBack -/
  f9 (n : Nat) (a0 : Int) (a1 : Int) (a2 : List UInt8) : Option (Bool × Unit)
  p9_2055 (j : Nat) (n0 : Nat) (v1 : Int) (v2 : List UInt8) (v46 : Bool) : Option (Bool × Unit)
  p9_8 (j : Nat) (n0 : Nat) (v1 : Int) (v2 : List UInt8) : Option (Bool × Unit)
  p9_2060 (j : Nat) (n0 : Nat) (n1 : Nat) (v1 : Int) (v67 : Bool) : Option (Bool × Unit)
  p9_13 (j : Nat) (n0 : Nat) (n1 : Nat) (v1 : Int) : Option (Bool × Unit)
  f9_eq (n : Nat) (a0 : Int) (a1 : Int) (a2 : List UInt8) : f9 (n + 1) a0 a1 a2 =
  (obind (f20 n ) fun r31 =>
   (sel (!r31.fst)
    (some (Bool.false, ()))
    (obind (f25 n (a0) (a1)) fun r102 =>
     (sel (r102.snd.fst == (0 : Int))
      (obind (f27 n (r102.fst)) fun r185 =>
       (sel (r185.fst != a0)
        (p9_2055 (n) (n) (a1) (a2) (Bool.true))
        (sel (r185.snd.fst != a1)
         (p9_2055 (n) (n) (a1) (a2) (Bool.true))
         (p9_2055 (n) (n) (a1) (a2) (r185.snd.snd.fst != (0 : Int))))))
      (p9_8 (n) (n) (a1) (a2))))))
  p9_2055_eq (j : Nat) (n0 : Nat) (v1 : Int) (v2 : List UInt8) (v46 : Bool) : p9_2055 (j + 1) n0 v1 v2 v46 =
  (sel (v46)
   (some (Bool.false, ()))
   (p9_8 (n0) (n0) (v1) (v2)))
  p9_8_eq (j : Nat) (n0 : Nat) (v1 : Int) (v2 : List UInt8) : p9_8 (j + 1) n0 v1 v2 =
  (obind (f27 j (v2)) fun r513 =>
   (sel (r513.snd.snd.fst == (0 : Int))
    (obind (f25 j (r513.fst) (r513.snd.fst)) fun r617 =>
     (sel (!r617.fst == v2)
      (p9_2060 (j) (n0) (j) (v1) (Bool.true))
      (p9_2060 (j) (n0) (j) (v1) (r617.snd.fst != (0 : Int)))))
    (p9_13 (j) (n0) (j) (v1))))
  p9_2060_eq (j : Nat) (n0 : Nat) (n1 : Nat) (v1 : Int) (v67 : Bool) : p9_2060 (j + 1) n0 n1 v1 v67 =
  (sel (v67)
   (some (Bool.false, ()))
   (p9_13 (n1) (n0) (n1) (v1)))
  p9_13_eq (j : Nat) (n0 : Nat) (n1 : Nat) (v1 : Int) : p9_13 (j + 1) n0 n1 v1 =
  (obind (f29 j (v1)) fun r811 =>
   (sel (r811.snd.fst == (0 : Int))
    (obind (f31 j (r811.fst)) fun r894 =>
     (sel (r894.fst == v1)
      (some (r894.snd.fst == (0 : Int), ()))
      (some (Bool.false, ()))))
    (sel (r811.fst == [])
     (sel (Decidable.decide (v1 < (1 : Int)))
      (some (Bool.true, ()))
      (some (Decidable.decide (v1 > (2147483647 : Int)), ())))
     (some (Bool.false, ())))))
end Nq

/-! Names read and written: plain. -/
namespace Nq
open Go Lk NqG

theorem blt_t' {a b : Nat} (h : a < b) : Nat.blt a b = true := by simpa [Nat.blt_eq] using h

/-- A digit. -/
def digB (c : UInt8) : Bool := Nat.ble 48 c.toNat && Nat.ble c.toNat 57
/-- The number of the digits in a text, as the reference reads it. -/
def dval : List UInt8 → Nat → Nat
  | [], a => a
  | c :: l, a => dval l (bif digB c && Nat.ble a 2147483647 then a * 10 + (c.toNat - 48) else a)

theorem digit_toNat (u : Nat) (h : u < 10) : (UInt8.ofNat (48 + u)).toNat = 48 + u := by
  rw [UInt8.toNat_ofNat']; omega
theorem digit_digB (u : Nat) (h : u < 10) : digB (UInt8.ofNat (48 + u)) = true := by
  unfold digB; rw [digit_toNat u h, Bool.and_eq_true, Nat.ble_eq, Nat.ble_eq]; omega

theorem dec_digits : ∀ (u : Nat), ∀ c ∈ Lib.decDigits u, digB c = true := by
  intro u
  induction u using Nat.strongRecOn with
  | _ u ih =>
    intro c hc
    rw [Lib.decDigits] at hc
    split at hc
    · rename_i h
      simp only [List.mem_singleton] at hc
      subst hc; exact digit_digB u h
    · rename_i h
      rcases List.mem_append.1 hc with hc | hc
      · exact ih (u / 10) (by omega) c hc
      · simp only [List.mem_singleton] at hc
        subst hc; exact digit_digB _ (by omega)

theorem dec_ne (u : Nat) : Lib.decDigits u ≠ [] := by
  rw [Lib.decDigits]; split <;> simp

theorem dval_dec : ∀ (u : Nat) (r : List UInt8), u ≤ 2147483647 → dval (Lib.decDigits u ++ r) 0 = dval r u := by
  intro u
  induction u using Nat.strongRecOn with
  | _ u ih =>
    intro r hu
    rw [Lib.decDigits]
    split
    · rename_i h
      simp only [List.cons_append, List.nil_append, dval]
      rw [digit_digB u h, digit_toNat u h, show Nat.ble 0 2147483647 = true from rfl]
      simp
    · rename_i h
      rw [List.append_assoc, ih (u / 10) (by omega) _ (by omega)]
      simp only [List.cons_append, List.nil_append, dval]
      rw [digit_digB _ (by omega), digit_toNat _ (by omega), show Nat.ble (u / 10) 2147483647 = true by rw [Nat.ble_eq]; omega]
      simp only [Bool.and_self, cond_true]
      congr 1; omega

theorem parse_dec : ∀ (u : Nat) (r : List UInt8), u ≤ 2147483647 → Lib.parseUint10 0 (Lib.decDigits u ++ r) = Lib.parseUint10 u r := by
  intro u
  induction u using Nat.strongRecOn with
  | _ u ih =>
    intro r hu
    rw [Lib.decDigits]
    split
    · rename_i h
      simp only [List.cons_append, List.nil_append, Lib.parseUint10]
      rw [digit_toNat u h, if_pos (by omega), if_neg (by omega), if_neg (by omega)]
      congr 1; omega
    · rename_i h
      rw [List.append_assoc, ih (u / 10) (by omega) _ (by omega)]
      simp only [List.cons_append, List.nil_append, Lib.parseUint10]
      rw [digit_toNat _ (by omega), if_pos (by omega), if_neg (by omega), if_neg (by omega)]
      congr 1; omega

theorem itoa_pos (n : Int) (h : 0 ≤ n) : Lib.itoa n = Lib.decDigits n.toNat := by
  unfold Lib.itoa; rw [if_neg (by omega)]

theorem rep_digits : ∀ k, ∀ c ∈ Lib.repeatL [48] k, c = 48
  | 0 => by intro c hc; simp [Lib.repeatL] at hc
  | k + 1 => by
    intro c hc
    simp only [Lib.repeatL, List.cons_append, List.nil_append, List.mem_cons] at hc
    rcases hc with h | h
    · exact h
    · exact rep_digits k c h

theorem padded_digits (n : Int) (h : 0 ≤ n) : ∀ c ∈ padded n, digB c = true := by
  intro c hc
  unfold padded at hc
  rcases List.mem_append.1 hc with hc | hc
  · rw [rep_digits _ c hc]; decide
  · rw [itoa_pos n h] at hc; exact dec_digits _ c hc

theorem padded_ne (n : Int) (h : 0 ≤ n) : padded n ≠ [] := by
  unfold padded
  rw [itoa_pos n h]
  have := dec_ne n.toNat
  simp [this]

theorem dval_rep : ∀ (k : Nat) (r : List UInt8), dval (Lib.repeatL [48] k ++ r) 0 = dval r 0
  | 0, r => by simp [Lib.repeatL]
  | k + 1, r => by
    simp only [Lib.repeatL, List.cons_append, List.nil_append, dval]
    rw [show (bif digB 48 && Nat.ble 0 2147483647 then 0 * 10 + ((48 : UInt8).toNat - 48) else 0) = 0 by decide]
    exact dval_rep k r

theorem parse_rep : ∀ (k : Nat) (r : List UInt8), Lib.parseUint10 0 (Lib.repeatL [48] k ++ r) = Lib.parseUint10 0 r
  | 0, r => by simp [Lib.repeatL]
  | k + 1, r => by
    simp only [Lib.repeatL, List.cons_append, List.nil_append, Lib.parseUint10]
    rw [if_pos (by decide), if_neg (by decide), if_neg (by decide)]
    exact parse_rep k r

theorem dval_padded (n : Int) (h0 : 0 ≤ n) (h : n ≤ 2147483647) (r : List UInt8) : dval (padded n ++ r) 0 = dval r n.toNat := by
  unfold padded
  rw [List.append_assoc, dval_rep, itoa_pos n h0, dval_dec _ _ (by omega)]

theorem dval_not (r : List UInt8) (hr : ∀ c ∈ r, digB c = false) (l : List UInt8) (a : Nat) : dval (r ++ l) a = dval l a := by
  induction r with
  | nil => rfl
  | cons c r ih =>
    simp only [List.cons_append, dval]
    rw [hr c (List.mem_cons_self ..)]
    exact ih (fun c hc => hr c (List.mem_cons_of_mem _ hc))

theorem atoi_padded (n : Int) (h0 : 0 ≤ n) (h : n ≤ 2147483647) : atoi (padded n) = (n, false) := by
  obtain ⟨c, l, hcl⟩ : ∃ c l, padded n = c :: l := by
    cases hp : padded n with
    | nil => exact absurd hp (padded_ne n h0)
    | cons c l => exact ⟨c, l, rfl⟩
  have hc := padded_digits n h0 c (by rw [hcl]; exact List.mem_cons_self ..)
  unfold digB at hc
  rw [Bool.and_eq_true, Nat.ble_eq, Nat.ble_eq] at hc
  have hp : Lib.parseUint10 0 (padded n) = .ok n.toNat := by
    unfold padded
    have := parse_dec n.toNat [] (by omega)
    rw [List.append_nil] at this
    rw [parse_rep, itoa_pos n h0, this]; rfl
  have ha : Lib.atoiAll (padded n) = .ok n := by
    rw [hcl] at hp ⊢
    unfold Lib.atoiAll Lib.parseMag
    simp only
    rw [if_neg (show ¬ (c.toNat = 43 ∨ c.toNat = 45) by omega), if_neg (by simp), hp]
    simp only
    rw [if_neg (by omega), if_neg (by omega), if_neg (by omega)]
    congr 1; omega
  unfold atoi; rw [ha]

/-! The names. -/
def good (s : List UInt8) (k n : Int) : Prop := name k n = (s, 0, ())

theorem good_iff (s : List UInt8) (k n : Int) : good s k n ↔ (k = 4 ∧ n = 0 ∧ s = cur) ∨ ((k = 1 ∨ k = 2 ∨ k = 3 ∨ k = 5) ∧ 1 ≤ n ∧ n ≤ 2147483647 ∧ s = if k = 3 then ahead ++ padded n else padded n ++ tailS k) := by
  unfold good name
  by_cases h1 : k = 4 ∧ n = 0
  · rw [if_pos h1]
    simp only [Prod.mk.injEq, and_true]
    constructor
    · intro h; exact .inl ⟨h1.1, h1.2, h.symm⟩
    · rintro (h | h)
      · exact h.2.2.symm
      · omega
  · rw [if_neg h1]
    by_cases h2 : k = 4 ∨ k < 1 ∨ k > 5 ∨ n < 1 ∨ n > 2147483647
    · rw [if_pos h2]
      simp only [Prod.mk.injEq]
      constructor
      · intro h; exact absurd h.2.1 (by decide)
      · rintro (h | h)
        · exact absurd ⟨h.1, h.2.1⟩ h1
        · omega
    · rw [if_neg h2]
      by_cases h3 : k = 3
      · rw [if_pos h3, if_pos h3]
        simp only [Prod.mk.injEq, and_true]
        constructor
        · intro h; exact .inr ⟨by omega, by omega, by omega, h.symm⟩
        · rintro (h | h)
          · omega
          · exact h.2.2.2.symm
      · rw [if_neg h3, if_neg h3]
        simp only [Prod.mk.injEq, and_true]
        constructor
        · intro h; exact .inr ⟨by omega, by omega, by omega, h.symm⟩
        · rintro (h | h)
          · omega
          · exact h.2.2.2.symm

theorem tail_not (k : Int) : ∀ c ∈ tailS k, digB c = false := by
  unfold tailS
  cases (k == 1) <;> cases (k == 2) <;> cases (k == 5) <;> decide

theorem good_dval {s : List UInt8} {k n : Int} (h : good s k n) : (dval s 0 : Int) = n := by
  rcases (good_iff s k n).1 h with ⟨_, rfl, rfl⟩ | ⟨hk, h1, h2, rfl⟩
  · rfl
  · split
    · rw [dval_not ahead (by decide)]
      have := dval_padded n (by omega) h2 []
      rw [List.append_nil] at this
      rw [this]; simp only [dval]; omega
    · rw [dval_padded n (by omega) h2]
      have := dval_not (tailS k) (tail_not k) [] n.toNat
      rw [List.append_nil] at this
      rw [this]; simp only [dval]; omega

theorem padded_head (n : Int) (h : 0 ≤ n) (r : List UInt8) : ∃ c l, padded n ++ r = c :: l ∧ digB c = true := by
  cases hp : padded n with
  | nil => exact absurd hp (padded_ne n h)
  | cons c l => exact ⟨c, l ++ r, rfl, padded_digits n h c (by rw [hp]; exact List.mem_cons_self ..)⟩

theorem tail_len {k : Int} (h : k = 1 ∨ k = 2 ∨ k = 5) : (tailS k).length = 4 := by
  rcases h with rfl | rfl | rfl <;> rfl

theorem tail_inj {k k' : Int} (h : k = 1 ∨ k = 2 ∨ k = 5) (h' : k' = 1 ∨ k' = 2 ∨ k' = 5) (e : tailS k = tailS k') : k = k' := by
  rcases h with rfl | rfl | rfl <;> rcases h' with rfl | rfl | rfl <;> first | rfl | exact absurd e (by decide)

theorem good_kind {s : List UInt8} {k n k' n' : Int} (h : good s k n) (h' : good s k' n') : k = k' := by
  have e1 := good_dval h
  have e2 := good_dval h'
  have en : n = n' := e1.symm.trans e2
  subst en
  rcases (good_iff s k n).1 h with ⟨rfl, rfl, rfl⟩ | ⟨hk, h1, h2, rfl⟩
  · rcases (good_iff _ k' _).1 h' with ⟨rfl, _, _⟩ | ⟨hk', h1', _⟩
    · rfl
    · omega
  · rcases (good_iff _ k' _).1 h' with ⟨_, e, _⟩ | ⟨hk', _, _, e⟩
    · omega
    · by_cases h3 : k = 3
      · by_cases h3' : k' = 3
        · omega
        · rw [if_pos h3, if_neg h3'] at e
          obtain ⟨c, l, hc, hd⟩ := padded_head n (by omega) (tailS k')
          rw [hc] at e
          have : c = 77 := by
            have := congrArg (fun l => l.headD 0) e
            exact this.symm
          rw [this] at hd; exact absurd hd (by decide)
      · by_cases h3' : k' = 3
        · rw [if_neg h3, if_pos h3'] at e
          obtain ⟨c, l, hc, hd⟩ := padded_head n (by omega) (tailS k)
          rw [hc] at e
          have : c = 77 := by
            have := congrArg (fun l => l.headD 0) e
            exact this
          rw [this] at hd; exact absurd hd (by decide)
        · rw [if_neg h3, if_neg h3'] at e
          exact tail_inj (by omega) (by omega) (List.append_cancel_left e)

abbrev R4 := Int × Int × Int × Unit

/-- A name, read: the reference's way. -/
noncomputable def tryK (s : List UInt8) (n : Int) : Nat → Int → R4
  | 0, _ => (0, 0, 60, ())
  | f + 1, k => if name k n = (s, 0, ()) then (k, n, 0, ()) else tryK s n f (k + 1)
noncomputable def parseR (s : List UInt8) : R4 := tryK s (dval s 0) 5 1

theorem parseR_good {s : List UInt8} {k n : Int} (h : good s k n) : parseR s = (k, n, 0, ()) := by
  have e := good_dval h
  unfold parseR
  rw [e]
  have hk : k = 1 ∨ k = 2 ∨ k = 3 ∨ k = 4 ∨ k = 5 := by rcases (good_iff s k n).1 h with ⟨h, _⟩ | ⟨h, _⟩ <;> omega
  have no : ∀ k', k' ≠ k → name k' n ≠ (s, 0, ()) := fun k' hk' h' => hk' (good_kind (s := s) (n := n) (n' := n) h' h)
  have yes : name k n = (s, 0, ()) := h
  simp only [tryK, show (1 : Int) + 1 = 2 from rfl, show (2 : Int) + 1 = 3 from rfl, show (3 : Int) + 1 = 4 from rfl, show (4 : Int) + 1 = 5 from rfl]
  rcases hk with rfl | rfl | rfl | rfl | rfl
  · rw [if_pos yes]
  · rw [if_neg (no 1 (by decide)), if_pos yes]
  · rw [if_neg (no 1 (by decide)), if_neg (no _ (by decide)), if_pos yes]
  · rw [if_neg (no 1 (by decide)), if_neg (no _ (by decide)), if_neg (no _ (by decide)), if_pos yes]
  · rw [if_neg (no 1 (by decide)), if_neg (no _ (by decide)), if_neg (no _ (by decide)), if_neg (no _ (by decide)), if_pos yes]

theorem parseR_bad {s : List UInt8} (h : ∀ k n, ¬ good s k n) : parseR s = (0, 0, 60, ()) := by
  unfold parseR
  simp only [tryK]
  have h' : ∀ k n, name k n ≠ (s, 0, ()) := h
  rw [if_neg (h' _ _), if_neg (h' _ _), if_neg (h' _ _), if_neg (h' _ _), if_neg (h' _ _)]

def preB (s p : List UInt8) : Bool := s.take p.length == p
def sufB (s p : List UInt8) : Bool := Nat.ble p.length s.length && s.drop (s.length - p.length) == p
/-- A kind tried. -/
def step (s : List UInt8) (st : Int × List UInt8) (k : Int) : Int × List UInt8 := bif sufB s (tailS k) && st.1 == 0 then (k, s.take (s.length - (tailS k).length)) else st
def start (s : List UInt8) : Int × List UInt8 := bif preB s ahead then (3, s.drop 9) else (0, [])
noncomputable def last (s : List UInt8) (st : Int × List UInt8) : R4 :=
  if (atoi st.2).2 = true then (0, 0, 60, ()) else if name st.1 (atoi st.2).1 = (s, 0, ()) then (st.1, (atoi st.2).1, 0, ()) else (0, 0, 60, ())
noncomputable def parseA (s : List UInt8) : R4 :=
  if s = cur then (4, 0, 0, ()) else last s (step s (step s (step s (start s) 1) 2) 5)

theorem parseA_sound (s : List UInt8) : parseA s = (0, 0, 60, ()) ∨ ∃ k n, parseA s = (k, n, 0, ()) ∧ good s k n := by
  unfold parseA
  split
  · rename_i h; subst h
    right; exact ⟨4, 0, rfl, (good_iff _ _ _).2 (.inl ⟨rfl, rfl, rfl⟩)⟩
  · generalize step s (step s (step s (start s) 1) 2) 5 = st
    unfold last
    split
    · left; rfl
    · split
      · rename_i h; right; exact ⟨_, _, rfl, h⟩
      · left; rfl

theorem sufB_app (a p : List UInt8) : sufB (a ++ p) p = true := by
  unfold sufB
  rw [List.length_append, Nat.add_sub_cancel, List.drop_left, Bool.and_eq_true, Nat.ble_eq]
  exact ⟨by omega, by simp⟩

theorem sufB_other (a p q : List UInt8) (hl : p.length = q.length) (hne : p ≠ q) : sufB (a ++ p) q = false := by
  unfold sufB
  rw [List.length_append, ← hl, Nat.add_sub_cancel, List.drop_left, Bool.and_eq_false_iff]
  right; simpa using hne

theorem step_keep (s : List UInt8) (st : Int × List UInt8) (k : Int) (h : st.1 ≠ 0) : step s st k = st := by
  unfold step
  rw [show (st.1 == 0) = false by simpa using h, Bool.and_false]; rfl

theorem parseA_good {s : List UInt8} {k n : Int} (h : good s k n) : parseA s = (k, n, 0, ()) := by
  have hn : name k n = (s, 0, ()) := h
  unfold parseA
  rcases (good_iff s k n).1 h with ⟨rfl, rfl, rfl⟩ | ⟨hk, h1, h2, hs⟩
  · rw [if_pos rfl]
  · have hcur : s ≠ cur := by
      intro e
      have := good_kind h ((good_iff s 4 0).2 (.inl ⟨rfl, rfl, e⟩))
      omega
    rw [if_neg hcur]
    have key : ∀ st : Int × List UInt8, st = (k, padded n) → last s st = (k, n, 0, ()) := by
      rintro st rfl
      unfold last
      rw [atoi_padded n (by omega) h2]
      simp only [Bool.false_eq_true, if_false]
      rw [if_pos hn]
    by_cases h3 : k = 3
    · rw [if_pos h3] at hs
      have hst : start s = (3, padded n) := by
        unfold start preB
        rw [hs, show ahead.length = 9 from rfl, show (9 : Nat) = ahead.length from rfl, List.take_left, List.drop_left]
        rfl
      rw [hst, step_keep s (3, padded n) 1 (by simp), step_keep s (3, padded n) 2 (by simp), step_keep s (3, padded n) 5 (by simp)]
      exact key _ (by rw [h3])
    · rw [if_neg h3] at hs
      have hk' : k = 1 ∨ k = 2 ∨ k = 5 := by omega
      have hst : start s = (0, []) := by
        unfold start
        have : preB s ahead = false := by
          unfold preB
          obtain ⟨c, l, hc, hd⟩ := padded_head n (by omega) (tailS k)
          rw [hs, hc]
          cases e : (List.take ahead.length (c :: l) == ahead)
          · rfl
          · have e := eq_of_beq e
            have e9 : ahead.length = 8 + 1 := rfl
            rw [e9, List.take_succ_cons] at e
            have : c = 77 := by
              have := congrArg (fun l => l.headD 0) e
              exact this
            rw [this] at hd; exact absurd hd (by decide)
        rw [this]; rfl
      rw [hst]
      have tk : step s (0, []) k = (k, padded n) := by
        unfold step
        rw [hs, sufB_app, show ((0 : Int) == 0) = true from rfl, List.length_append, Nat.add_sub_cancel, List.take_left]
        rfl
      have to : ∀ k', (k' = 1 ∨ k' = 2 ∨ k' = 5) → k' ≠ k → step s (0, []) k' = (0, []) := by
        intro k' hk'' hne
        unfold step
        rw [hs, sufB_other _ _ _ (by rw [tail_len hk', tail_len hk'']) (fun e => hne (tail_inj hk' hk'' e).symm)]
        rfl
      rcases hk' with rfl | rfl | rfl
      · rw [tk, step_keep s (1, padded n) 2 (by simp), step_keep s (1, padded n) 5 (by simp)]
        exact key _ rfl
      · rw [to 1 (by simp) (by decide), tk, step_keep s (2, padded n) 5 (by simp)]
        exact key _ rfl
      · rw [to 1 (by simp) (by decide), to 2 (by simp) (by decide), tk]
        exact key _ rfl

theorem parse_same (s : List UInt8) : parseA s = parseR s := by
  rcases parseA_sound s with h | ⟨k, n, h, hg⟩
  · by_cases hx : ∃ k n, good s k n
    · obtain ⟨k, n, hg⟩ := hx
      rw [parseA_good hg, parseR_good hg]
    · rw [h, parseR_bad (fun k n hg => hx ⟨k, n, hg⟩)]
  · rw [h, parseR_good hg]

/-- What CURRENT says, and what it says read. -/
noncomputable def current (n : Int) : List UInt8 × Int × Unit := if (name 3 n).2.1 ≠ 0 then ([], (name 3 n).2.1, ()) else ((name 3 n).1 ++ [10], 0, ())
noncomputable def named (s : List UInt8) : Int × Int × Unit :=
  if sufB s [10] = true ∧ (parseA (s.take (s.length - 1))).2.2.1 = 0 ∧ (parseA (s.take (s.length - 1))).1 = 3 then ((parseA (s.take (s.length - 1))).2.1, 0, ()) else (0, 60, ())

variable (X : FnsP)

theorem ext_take (s : List UInt8) (k : Nat) : Lk.ext s (0 : Int) (k : Int) = s.take k := by
  unfold Lk.ext win; simp
theorem ext_dr (s : List UInt8) (k : Nat) : Lk.ext s (k : Int) (s.length : Int) = s.drop k := by
  unfold Lk.ext win
  simp only [Int.toNat_natCast]
  rw [List.take_of_length_le]; simp

theorem pf64_ok (s p : List UInt8) (j : Nat) : X.f64 (j + 1) s p = some (preB s p, ()) := by
  rw [X.f64_eq]
  simp only [sel_dec, ext_take]
  unfold preB
  by_cases h : p.length ≤ s.length
  · rw [if_pos (by omega), if_pos (by omega), if_pos (by omega)]
  · rw [if_neg (by omega)]
    have : (s.take p.length == p) = false := by
      rw [beq_eq_false_iff_ne]; intro e
      have := congrArg List.length e
      simp at this; omega
    rw [this]

theorem f53_ok (s p : List UInt8) (j : Nat) : X.f53 (j + 3) s p = some (bif preB s p then (s.drop p.length, true, ()) else (s, false, ())) := by
  rw [X.f53_eq, X.f75_eq, pf64_ok]
  simp only [ob_some, sel_dec, ext_dr]
  cases hp : preB s p
  · rfl
  · have hl : p.length ≤ s.length := by
      unfold preB at hp
      have := congrArg List.length (eq_of_beq hp)
      simp at this; omega
    simp only [Bool.not_true, sel_f, cond_true]
    rw [if_pos (by omega), if_pos (by omega)]
    rfl

theorem f89_ok (s p : List UInt8) (hs : s.length ≤ 2147483648) (hp : p.length ≤ 2147483648) (j : Nat) : X.f89 (j + 1) s p = some (sufB s p, ()) := by
  rw [X.f89_eq]
  simp only [sel_dec]
  unfold sufB
  by_cases h : p.length ≤ s.length
  · have w : IntKind.i64.wrap ((s.length : Int) - (p.length : Int)) = ((s.length - p.length : Nat) : Int) := by rw [wrap64 (by omega) (by omega)]; omega
    rw [w, ext_dr, if_pos (by omega), if_pos (by omega), if_pos (by omega), show Nat.ble p.length s.length = true by rw [Nat.ble_eq]; exact h]
    rfl
  · rw [if_neg (by omega), show Nat.ble p.length s.length = false by
      cases e : Nat.ble p.length s.length
      · rfl
      · rw [Nat.ble_eq] at e; omega]
    rfl

theorem f54_ok (s p : List UInt8) (hs : s.length ≤ 2147483648) (hp : p.length ≤ 2147483648) (j : Nat) : X.f54 (j + 3) s p = some (bif sufB s p then (s.take (s.length - p.length), true, ()) else (s, false, ())) := by
  rw [X.f54_eq, X.f76_eq, f89_ok X s p hs hp]
  simp only [ob_some, sel_dec]
  cases hb : sufB s p
  · rfl
  · have hl : p.length ≤ s.length := by
      unfold sufB at hb
      rw [Bool.and_eq_true, Nat.ble_eq] at hb
      exact hb.1
    have w : IntKind.i64.wrap ((s.length : Int) - (p.length : Int)) = ((s.length - p.length : Nat) : Int) := by rw [wrap64 (by omega) (by omega)]; omega
    simp only [Bool.not_true, sel_f, cond_true, w, ext_take]
    rw [if_pos (by omega), if_pos (by omega)]
    rfl

theorem last_ok (s : List UInt8) (st : Int × List UInt8) (hst : st.2.length ≤ 2147483648) (j n0 n1 : Nat) (h1 : 10 ≤ n1) (hj : 1 ≤ j) :
    X.p27_8 j n0 n1 s st.1 st.2 [1, 2, 5] 3 3 = some (last s st) := by
  obtain ⟨j, rfl⟩ : ∃ k, j = k + 1 := ⟨j - 1, by omega⟩
  obtain ⟨n1, rfl⟩ : ∃ k, n1 = k + 10 := ⟨n1 - 10, by omega⟩
  rw [X.p27_8_eq]
  simp only [sel_dec]
  rw [if_neg (by omega), X.f55_eq, show Nat.ble st.2.length 2147483648 = true by rw [Nat.ble_eq]; exact hst]
  simp only [cond_true]
  simp only [ob_some, f25_ok X.toFnsM, X.p27_2067_eq, X.p27_20_eq]
  unfold last
  cases (atoi st.2).2
  · simp only [sel_f, Bool.false_eq_true, if_false, sel_t]
    by_cases hg : name st.1 (atoi st.2).1 = (s, 0, ())
    · rw [if_pos hg, hg]
      simp [sel]
    · rw [if_neg hg]
      by_cases he : (name st.1 (atoi st.2).1).2.1 = 0
      · rw [he]
        simp only [bne_self_eq_false, sel_f]
        have : ((name st.1 (atoi st.2).1).1 == s) = false := by
          rw [beq_eq_false_iff_ne]; intro e
          exact hg (Prod.ext e (Prod.ext he rfl))
        rw [this]; rfl
      · rw [show ((name st.1 (atoi st.2).1).2.1 != 0) = true by simpa using he]
        rfl
  · simp only [sel_t, if_true]

theorem round_ok (s : List UInt8) (hs : s.length ≤ 2147483648) (st : Int × List UInt8) (j n0 n1 : Nat) (i : Nat) (k : Int) (hi : i < 3) (hk : ([1, 2, 5] : List Int).getD i 0 = k) (hj : 8 ≤ j) :
    X.p27_8 j n0 n1 s st.1 st.2 [1, 2, 5] 3 (i : Int) = X.p27_8 (j - 1) n0 n1 s (step s st k).1 (step s st k).2 [1, 2, 5] 3 ((i + 1 : Nat) : Int) := by
  obtain ⟨j, rfl⟩ : ∃ q, j = q + 8 := ⟨j - 8, by omega⟩
  have w1 : IntKind.i64.wrap ((i : Int) + 1) = ((i + 1 : Nat) : Int) := by rw [wrap64 (by omega) (by omega)]; omega
  have ht := tailS_len k
  rw [X.p27_8_eq]
  simp only [sel_dec, Int.toNat_natCast, hk]
  rw [if_pos (by omega), if_pos (by omega), if_pos (by simp; omega), f51_ok X.toFnsM]
  simp only [ob_some]
  rw [f54_ok X s (tailS k) hs (by omega)]
  simp only [ob_some, X.p27_2060_eq, X.p27_13_eq, w1]
  unfold step
  cases sufB s (tailS k) <;> cases (st.1 == 0) <;> rfl

theorem step_len (s : List UInt8) (st : Int × List UInt8) (k : Int) (n : Nat) (h : st.2.length ≤ n) (hs : s.length ≤ n) : (step s st k).2.length ≤ n := by
  unfold step
  cases (sufB s (tailS k) && st.1 == 0)
  · exact h
  · simp only [cond_true, List.length_take]; omega

theorem f27_ok (s : List UInt8) (hs : s.length ≤ 2147483648) (j : Nat) (hj : 30 ≤ j) : X.f27 j s = some (parseA s) := by
  obtain ⟨j, rfl⟩ : ∃ q, j = q + 30 := ⟨j - 30, by omega⟩
  rw [X.f27_eq]
  unfold parseA
  by_cases hc : s = cur
  · rw [if_pos hc, hc]; rfl
  · have : (s == [67, 85, 82, 82, 69, 78, 84]) = false := by rw [beq_eq_false_iff_ne]; exact hc
    rw [if_neg hc, this]
    simp only [sel_f]
    rw [show ([77, 65, 78, 73, 70, 69, 83, 84, 45] : List UInt8) = ahead from rfl, f53_ok X s ahead]
    simp only [ob_some]
    have go : ∀ st : Int × List UInt8, st.2.length ≤ 2147483648 → X.p27_7 (j + 29) (j + 29) s st.1 st.2 = some (last s (step s (step s (step s st 1) 2) 5)) := by
      intro st hst
      rw [X.p27_7_eq]
      have r1 := round_ok X s hs st (j + 28) (j + 29) (j + 28) 0 1 (by omega) rfl (by omega)
      have r2 := round_ok X s hs (step s st 1) (j + 27) (j + 29) (j + 28) 1 2 (by omega) rfl (by omega)
      have r3 := round_ok X s hs (step s (step s st 1) 2) (j + 26) (j + 29) (j + 28) 2 5 (by omega) rfl (by omega)
      have r4 := last_ok X s (step s (step s (step s st 1) 2) 5) (step_len _ _ _ _ (step_len _ _ _ _ (step_len _ _ _ _ hst hs) hs) hs) (j + 25) (j + 29) (j + 28) (by omega) (by omega)
      exact r1.trans (r2.trans (r3.trans r4))
    unfold start
    cases preB s ahead
    · exact go (0, []) (by simp)
    · exact go (3, s.drop 9) (by simp; omega)

theorem name_len (k n : Int) : (name k n).1.length ≤ 100 := by
  unfold name
  split
  · simp [cur]
  · split
    · simp
    · have hp := padded_len n (by omega) (by omega)
      have ht := tailS_len k
      split
      · simp [ahead]; omega
      · simp; omega

theorem f29_ok (n : Int) (j : Nat) : X.f29 (j + 10) n = some (current n) := by
  rw [X.f29_eq, f25_ok X.toFnsM]
  have := name_len 3 n
  simp only [ob_some, sel_dec]
  unfold current
  by_cases h : (name 3 n).2.1 = 0
  · rw [h, if_neg (show ¬ ((0 : Int) ≠ 0) from fun h => h rfl)]
    simp only [bne_self_eq_false, sel_f]
    rw [if_pos (by simp only [big, List.length_singleton]; omega)]
  · rw [show ((name 3 n).2.1 != 0) = true by simpa using h, if_pos h]; rfl

theorem f31_ok (s : List UInt8) (hs : s.length ≤ 2147483648) (j : Nat) (hj : 40 ≤ j) : X.f31 j s = some (named s) := by
  obtain ⟨j, rfl⟩ : ∃ q, j = q + 40 := ⟨j - 40, by omega⟩
  rw [X.f31_eq, f54_ok X s [10] hs (by simp)]
  unfold named
  cases hb : sufB s [10]
  · simp only [ob_some, cond_false]
    rw [f27_ok X s hs _ (by omega)]
    simp only [ob_some, X.p31_2052_eq]
    simp [sel]
  · simp only [ob_some, cond_true, List.length_singleton]
    rw [f27_ok X _ (by simp; omega) _ (by omega)]
    simp only [ob_some, X.p31_2052_eq, X.p31_5_eq]
    generalize parseA (s.take (s.length - 1)) = r
    by_cases h1 : r.2.2.1 = 0
    · by_cases h2 : r.1 = 3
      · simp [h1, h2, sel]
      · have h2' : (r.1 != 3) = true := by simpa using h2
        simp [h1, h2, h2', sel]
    · have : (r.2.2.1 != 0) = true := by simpa using h1
      simp [h1, this, sel]
end Nq

/-! Names: the reference's, and the law. Plain. -/
namespace Nq
open Go Lk NqG
variable (X : FnsN)

theorem dig_byte : ∀ k : Fin 10, UInt8.ofNat (IntKind.u8.wrap (IntKind.i64.wrap ((48 : Int) + (k.val : Int)))).toNat = UInt8.ofNat (48 + k.val) := by decide +kernel

theorem p74_ok : ∀ (m u : Nat) (s : List UInt8) (j n0 : Nat), u < 10 ^ m → 0 < u → m + 1 ≤ j → s.length + m ≤ 1000 → m ≤ 18 → X.p74_2 j n0 (u : Int) s = some (Lib.decDigits u ++ s, ())
  | 0, u, s, j, n0, hu, h0, hj, hs, _ => by simp at hu; omega
  | m + 1, u, s, j, n0, hu, h0, hj, hs, hm => by
    obtain ⟨j, rfl⟩ : ∃ q, j = q + 1 := ⟨j - 1, by omega⟩
    have hp : (10 : Nat) ^ (m + 1) ≤ 10 ^ 19 := Nat.pow_le_pow_right (by decide) (by omega)
    have ed : (u : Int).tdiv 10 = ((u / 10 : Nat) : Int) := by
      rw [show (10 : Int) = ((10 : Nat) : Int) from rfl, ← Int.ofNat_tdiv]
    have em : (u : Int).tmod 10 = ((u % 10 : Nat) : Int) := by
      rw [show (10 : Int) = ((10 : Nat) : Int) from rfl, ← Int.ofNat_tmod]
    have hb : UInt8.ofNat (IntKind.u8.wrap (IntKind.i64.wrap ((48 : Int) + (u : Int).tmod 10))).toNat = UInt8.ofNat (48 + u % 10) := by
      rw [em]; exact dig_byte ⟨u % 10, by omega⟩
    rw [X.p74_2_eq]
    simp only [sel_dec, show ((10 : Int) != 0) = true from rfl, sel_t, hb, List.length_singleton]
    rw [if_pos (by omega), if_pos (by simp only [big]; omega), ed]
    have hu10 : u / 10 < 10 ^ m := by rw [Nat.pow_succ] at hu; omega
    by_cases h10 : u < 10
    · rw [Lib.decDigits, dif_pos h10]
      have : u / 10 = 0 := by omega
      rw [this]
      obtain ⟨j, rfl⟩ : ∃ q, j = q + 1 := ⟨j - 1, by omega⟩
      rw [X.p74_2_eq]
      simp only [sel_dec]
      rw [show IntKind.i64.wrap (((0 : Nat)) : Int) = 0 from rfl, if_neg (by omega), show u % 10 = u by omega]
      rfl
    · have h64 : (10 : Nat) ^ m ≤ 10 ^ 18 := Nat.pow_le_pow_right (by decide) (by omega)
      rw [wrap64 (by omega) (by omega), p74_ok m (u / 10) _ j n0 hu10 (by omega) (by omega) (by simp; omega) (by omega)]
      conv => rhs; rw [Lib.decDigits, dif_neg h10]
      simp

theorem f74_ok (n : Int) (h0 : 1 ≤ n) (h : n ≤ 2147483647) (j : Nat) : X.f74 (j + 20) n = some (Lib.itoa n, ()) := by
  rw [X.f74_eq, itoa_pos n (by omega)]
  have := p74_ok X 10 n.toNat [] (j + 19) (j + 19) (by omega) (by omega) (by omega) (by simp) (by omega)
  rw [List.append_nil, show ((n.toNat : Nat) : Int) = n by omega] at this
  exact this

theorem rep_succ (k : Nat) (s : List UInt8) : Lib.repeatL [48] k ++ ([48] ++ s) = Lib.repeatL [48] (k + 1) ++ s := by
  induction k with
  | zero => rfl
  | succ k ih => simp only [Lib.repeatL, List.cons_append, List.nil_append] at ih ⊢; rw [ih]

theorem f52_ok (n : Int) (h0 : 1 ≤ n) (h : n ≤ 2147483647) (j : Nat) : X.f52 (j + 40) n = some (padded n, ()) := by
  rw [X.f52_eq, f74_ok X n h0 h]
  simp only [ob_some]
  have go : ∀ (N : Nat) (s : List UInt8) (jj n0 : Nat), 6 ≤ s.length + N → N + 1 ≤ jj → s.length ≤ 100 → X.p52_2 jj n0 s = some (Lib.repeatL [48] (6 - s.length) ++ s, ()) := by
    intro N
    induction N with
    | zero =>
      intro s jj n0 h hj hs
      obtain ⟨jj, rfl⟩ : ∃ q, jj = q + 1 := ⟨jj - 1, by omega⟩
      rw [X.p52_2_eq, sel_dec, if_neg (by omega), show 6 - s.length = 0 by omega]
      rfl
    | succ N ih =>
      intro s jj n0 h hj hs
      obtain ⟨jj, rfl⟩ : ∃ q, jj = q + 1 := ⟨jj - 1, by omega⟩
      rw [X.p52_2_eq]
      simp only [sel_dec]
      by_cases hl : s.length < 6
      · rw [if_pos (by omega), if_pos (by simp only [big, List.length_singleton]; omega), ih _ jj n0 (by simp; omega) (by omega) (by simp; omega), rep_succ]
        congr 4
        simp; omega
      · rw [if_neg (by omega), show 6 - s.length = 0 by omega]
        rfl
  have hl := itoa_len n (by omega) (by omega)
  exact go 6 (Lib.itoa n) _ _ (by omega) (by omega) (by omega)

theorem name_bad {k n : Int} (h0 : ¬ (k = 4 ∧ n = 0)) (h : k = 4 ∨ k < 1 ∨ k > 5 ∨ n < 1 ∨ n > 2147483647) : name k n = ([], 60, ()) := by
  unfold name; rw [if_neg h0, if_pos h]
theorem name_ok {k n : Int} (h : ¬ (k = 4 ∨ k < 1 ∨ k > 5 ∨ n < 1 ∨ n > 2147483647)) : name k n = if k = 3 then (ahead ++ padded n, 0, ()) else (padded n ++ tailS k, 0, ()) := by
  unfold name; rw [if_neg (fun h' => h (.inl h'.1)), if_neg h]

theorem f26_ok (k n : Int) (j : Nat) : X.f26 (j + 60) k n = some (name k n) := by
  rw [X.f26_eq]
  have q3 : ∀ jj n0 n1, 1 ≤ n → n ≤ 2147483647 → k ≠ 4 → X.p26_5 (jj + 41) n0 n1 k n = some (name k n) := by
    intro jj n0 n1 hn1 hn2 h4
    have hp := padded_len n (by omega) (by omega)
    have la : (padded n).length + ([46, 108, 111, 103] : List UInt8).length ≤ big := by simp only [big, List.length_cons, List.length_nil]; omega
    have lb : (padded n).length + ([46, 116, 97, 98] : List UInt8).length ≤ big := by simp only [big, List.length_cons, List.length_nil]; omega
    have lc : (padded n).length + ([46, 116, 109, 112] : List UInt8).length ≤ big := by simp only [big, List.length_cons, List.length_nil]; omega
    have ld : ([77, 65, 78, 73, 70, 69, 83, 84, 45] : List UInt8).length + (padded n).length ≤ big := by simp only [big, List.length_cons, List.length_nil]; omega
    rw [X.p26_5_eq]
    simp only [f52_ok X n hn1 hn2, ob_some, sel_dec, if_pos la, if_pos lb, if_pos lc, if_pos ld]
    by_cases h1 : k = 1
    · subst h1
      rw [name_ok (by omega)]; rfl
    rw [show (k == 1) = false by simpa using h1, sel_f]
    by_cases h2 : k = 2
    · subst h2
      rw [name_ok (by omega)]; rfl
    rw [show (k == 2) = false by simpa using h2, sel_f]
    by_cases h5 : k = 5
    · subst h5
      rw [name_ok (by omega)]; rfl
    rw [show (k == 5) = false by simpa using h5, sel_f]
    by_cases h3 : k = 3
    · subst h3
      rw [name_ok (by omega)]; rfl
    rw [show (k == 3) = false by simpa using h3, sel_f, name_bad (by omega) (by omega)]
  simp only [X.p26_2050_eq, X.p26_3_eq, sel_dec]
  have qt : ∀ jj n0 n1, X.p26_2052 (jj + 1) n0 n1 k n true = some ([], 60, ()) := fun _ _ _ => X.p26_2052_eq ..
  by_cases h4 : k = 4
  · rw [show (k == 4) = true by simpa using h4]
    by_cases h0 : n = 0
    · rw [show (n == 0) = true by simpa using h0, h4, h0]; rfl
    · rw [show (n == 0) = false by simpa using h0, name_bad (fun h => h0 h.2) (.inl h4)]
      simp only [sel_t, sel_f, qt]
  · rw [show (k == 4) = false by simpa using h4]
    simp only [sel_f, sel_t]
    by_cases h6 : n < 1
    · rw [if_pos h6, name_bad (fun h => h4 h.1) (by omega), qt]
    rw [if_neg h6]
    by_cases h7 : n > 2147483647
    · rw [decide_eq_true h7, name_bad (fun h => h4 h.1) (by omega), qt]
    rw [decide_eq_false h7, X.p26_2052_eq, sel_f]
    exact q3 (j + 17) _ _ (by omega) (by omega) h4

theorem dig_val : ∀ c : UInt8, digB c = true → (UInt8.ofNat (IntKind.u8.wrap ((c.toNat : Int) - (((48 : UInt8).toNat : Nat) : Int))).toNat).toNat = c.toNat - 48 := by
  apply forall_u8
  decide +kernel

theorem dval_le : ∀ (l : List UInt8) (a : Nat), a ≤ 30000000000 → dval l a ≤ 30000000000
  | [], a, h => h
  | c :: l, a, h => by
    simp only [dval]
    apply dval_le l
    cases hq : digB c && Nat.ble a 2147483647
    · exact h
    · rw [Bool.and_eq_true, Nat.ble_eq] at hq
      have h1 := hq.1
      unfold digB at h1
      rw [Bool.and_eq_true, Nat.ble_eq, Nat.ble_eq] at h1
      simp only [cond_true]
      omega

theorem p28_ok (s : List UInt8) (hs : s.length ≤ 2147483648) : ∀ (N i a j n0 : Nat), s.length = i + N → N + 10 ≤ j → a ≤ 30000000000 → X.p28_3 j n0 s (a : Int) (i : Int) = X.p28_8 n0 n0 s ((dval (s.drop i) a : Nat) : Int) 1 := by
  intro N
  induction N with
  | zero =>
    intro i a j n0 h hj ha
    obtain ⟨j, rfl⟩ : ∃ q, j = q + 1 := ⟨j - 1, by omega⟩
    rw [X.p28_3_eq, sel_dec, if_neg (by omega), List.drop_eq_nil_of_le (by omega)]
    rfl
  | succ N ih =>
    intro i a j n0 h hj ha
    obtain ⟨j, rfl⟩ : ∃ q, j = q + 3 := ⟨j - 3, by omega⟩
    have hi : i < s.length := by omega
    have w1 : IntKind.i64.wrap ((i : Int) + 1) = ((i + 1 : Nat) : Int) := by rw [wrap64 (by omega) (by omega)]; omega
    have ed : s.drop i = s.getD i 0 :: s.drop (i + 1) := by
      rw [List.drop_eq_getElem_cons hi, List.getD_eq_getElem?_getD, List.getElem?_eq_getElem hi]; rfl
    have h0 : (0 : Int) ≤ (i : Int) := by omega
    have hl : (i : Int) < (s.length : Int) := by omega
    have hp : ∀ q : Bool, (q = true → digB (s.getD i 0) = true ∧ a ≤ 2147483647) → X.p28_2054 (j + 2) n0 (j + 2) s (a : Int) (i : Int) q = X.p28_8 n0 n0 s ((dval (s.drop (i + 1)) (bif q then a * 10 + ((s.getD i 0).toNat - 48) else a) : Nat) : Int) 1 := by
      intro q hq
      rw [X.p28_2054_eq]
      simp only [sel_dec, if_pos h0, if_pos hl, Int.toNat_natCast, X.p28_4_eq, w1]
      cases q
      · simp only [sel_f, cond_false]
        exact ih (i + 1) a (j + 2) n0 (by omega) (by omega) ha
      · obtain ⟨hd, hle⟩ := hq rfl
        have hd2 := hd
        unfold digB at hd2
        rw [Bool.and_eq_true, Nat.ble_eq, Nat.ble_eq] at hd2
        simp only [sel_t, cond_true, dig_val _ hd]
        rw [wrap64 (x := (a : Int) * 10) (by omega) (by omega), wrap64 (x := (((s.getD i 0).toNat - 48 : Nat) : Int)) (by omega) (by omega), wrap64 (by omega) (by omega)]
        have e : (a : Int) * 10 + (((s.getD i 0).toNat - 48 : Nat) : Int) = ((a * 10 + ((s.getD i 0).toNat - 48) : Nat) : Int) := by omega
        rw [e]
        exact ih (i + 1) _ (j + 2) n0 (by omega) (by omega) (by omega)
    rw [X.p28_3_eq]
    simp only [sel_dec, if_pos h0, if_pos hl, Int.toNat_natCast]
    rw [ed]
    simp only [dval]
    have e48 : (((48 : UInt8).toNat : Nat) : Int) = 48 := rfl
    have e57 : (((57 : UInt8).toNat : Nat) : Int) = 57 := rfl
    rw [e48, e57]
    by_cases g1 : ((s.getD i 0).toNat : Int) ≥ 48
    · rw [if_pos g1]
      by_cases g2 : ((s.getD i 0).toNat : Int) ≤ 57
      · have hd : digB (s.getD i 0) = true := by unfold digB; rw [Bool.and_eq_true, Nat.ble_eq, Nat.ble_eq]; omega
        rw [if_pos g2, hp _ (fun h => ⟨hd, by have := of_decide_eq_true h; omega⟩), hd, Bool.true_and]
        have : decide ((a : Int) ≤ 2147483647) = Nat.ble a 2147483647 := by
          rw [Bool.eq_iff_iff, decide_eq_true_eq, Nat.ble_eq]; omega
        rw [this]
      · have hd : digB (s.getD i 0) = false := by
          cases e : digB (s.getD i 0)
          · rfl
          · unfold digB at e; rw [Bool.and_eq_true, Nat.ble_eq, Nat.ble_eq] at e; omega
        rw [if_neg g2, hp _ (fun h => by cases h), hd]; rfl
    · have hd : digB (s.getD i 0) = false := by
        cases e : digB (s.getD i 0)
        · rfl
        · unfold digB at e; rw [Bool.and_eq_true, Nat.ble_eq, Nat.ble_eq] at e; omega
      rw [if_neg g1, hp _ (fun h => by cases h), hd]; rfl

theorem p28_8_ok (s : List UInt8) (v : Int) : ∀ (f : Nat) (k : Int) (j n0 : Nat), k = 6 - (f : Int) → 70 + f ≤ j → f ≤ 5 → X.p28_8 j n0 s v k = some (tryK s v f k)
  | 0, k, j, n0, hk, hj, _ => by
    obtain ⟨j, rfl⟩ : ∃ q, j = q + 1 := ⟨j - 1, by omega⟩
    rw [X.p28_8_eq, sel_dec, if_neg (by omega)]; rfl
  | f + 1, k, j, n0, hk, hj, hf => by
    obtain ⟨j, rfl⟩ : ∃ q, j = q + 63 := ⟨j - 63, by omega⟩
    have w1 : IntKind.i64.wrap (k + 1) = k + 1 := by rw [wrap64 (by omega) (by omega)]
    rw [X.p28_8_eq]
    simp only [sel_dec]
    rw [if_pos (by omega), show j + 62 = (j + 2) + 60 from rfl, f26_ok X k v (j + 2)]
    simp only [ob_some, X.p28_2060_eq, X.p28_9_eq, w1, tryK]
    rw [p28_8_ok s v f (k + 1) (j + 2 + 60) n0 (by omega) (by omega) (by omega)]
    by_cases hg : name k v = (s, 0, ())
    · rw [if_pos hg, hg]; simp [sel]
    · rw [if_neg hg]
      by_cases he : (name k v).2.1 = 0
      · have : ((name k v).1 == s) = false := by
          rw [beq_eq_false_iff_ne]; intro e
          exact hg (Prod.ext e (Prod.ext he rfl))
        rw [he, this]; rfl
      · rw [show ((name k v).2.1 == 0) = false by simpa using he]; rfl

theorem f28_ok (s : List UInt8) (hs : s.length ≤ 2147483648) (j : Nat) (hj : s.length + 90 ≤ j) : X.f28 j s = some (parseR s) := by
  obtain ⟨j, rfl⟩ : ∃ q, j = q + 1 := ⟨j - 1, by omega⟩
  rw [X.f28_eq]
  have h1 := p28_ok X s hs s.length 0 0 j j (by omega) (by omega) (by omega)
  rw [List.drop_zero] at h1
  exact h1.trans (p28_8_ok X s _ 5 1 j j (by omega) (by omega) (by omega))

theorem f30_ok (n : Int) (j : Nat) : X.f30 (j + 70) n = some (current n) := by
  rw [X.f30_eq, show j + 69 = (j + 9) + 60 from rfl, f26_ok X]
  have := name_len 3 n
  simp only [ob_some, sel_dec]
  unfold current
  by_cases h : (name 3 n).2.1 = 0
  · rw [h, if_neg (show ¬ ((0 : Int) ≠ 0) from fun h => h rfl)]
    simp only [bne_self_eq_false, sel_f]
    rw [if_pos (by simp only [big, List.length_singleton]; omega)]
  · rw [show ((name 3 n).2.1 != 0) = true by simpa using h, if_pos h]; rfl

theorem f32_ok (s : List UInt8) (hs : s.length ≤ 2147483648) (j : Nat) (hj : s.length + 100 ≤ j) : X.f32 j s = some (named s) := by
  obtain ⟨j, rfl⟩ : ∃ q, j = q + 3 := ⟨j - 3, by omega⟩
  rw [X.f32_eq]
  simp only [sel_dec]
  unfold named
  by_cases h0 : (s.length : Int) < 1
  · have : s = [] := List.eq_nil_of_length_eq_zero (by omega)
    subst this
    rw [if_pos h0, X.p32_2050_eq]
    rfl
  · have w : IntKind.i64.wrap ((s.length : Int) - 1) = ((s.length - 1 : Nat) : Int) := by rw [wrap64 (by omega) (by omega)]; omega
    have hsb : sufB s [10] = (s.getD (s.length - 1) 0 == 10) := by
      unfold sufB
      have hd : s.drop (s.length - 1) = [s.getD (s.length - 1) 0] := by
        rw [List.drop_eq_getElem_cons (by omega), List.drop_eq_nil_of_le (by omega), List.getD_eq_getElem?_getD, List.getElem?_eq_getElem (by omega)]; rfl
      rw [List.length_singleton, hd, show Nat.ble 1 s.length = true by rw [Nat.ble_eq]; omega]
      simp [List.cons_beq_cons]
    rw [if_neg h0]
    simp only [w, Int.toNat_natCast, X.p32_2050_eq, X.p32_3_eq, ext_take, b_ne]
    rw [if_pos (by omega), if_pos (by omega), hsb]
    have hne : (s.getD (s.length - 1) 0 != 10) = !(s.getD (s.length - 1) 0 == 10) := rfl
    rw [hne]
    cases (s.getD (s.length - 1) 0 == 10)
    · simp [sel]
    · simp only [Bool.not_true, sel_f, sel_dec]
      rw [if_pos (by omega), if_pos (by omega), f28_ok X _ (by simp; omega) _ (by simp; omega)]
      simp only [ob_some, X.p32_2053_eq, X.p32_6_eq, ← parse_same]
      generalize parseA (s.take (s.length - 1)) = r
      by_cases h1 : r.2.2.1 = 0
      · by_cases h2 : r.1 = 3
        · simp [h1, h2, sel]
        · have h2' : (r.1 != 3) = true := by simpa using h2
          simp [h1, h2, h2', sel]
      · have : (r.2.2.1 != 0) = true := by simpa using h1
        simp [h1, this, sel]

/-- THE PLAIN LAW. -/
theorem lawNames (k n : Int) (s : List UInt8) (hs : s.length ≤ 2147483648) : X.f8 (s.length + 300) k n s = some (true, ()) := by
  rw [X.f8_eq, X.f15_eq, show s.length + 299 = (s.length + 293) + 6 from rfl, f25_ok X.toFnsM k n, show (s.length + 293) + 6 = (s.length + 239) + 60 from rfl, f26_ok X k n, f27_ok X.toFnsP s hs _ (by omega), f28_ok X s hs _ (by omega), parse_same]
  simp only [ob_some, Bool.not_true, sel_f, bne_self_eq_false, X.p8_2056_eq, X.p8_9_eq, beq_self_eq_true]
  rw [show s.length + 298 = (s.length + 288) + 10 from rfl, f29_ok X.toFnsP n, show (s.length + 288) + 10 = (s.length + 228) + 70 from rfl, f30_ok X n, f31_ok X.toFnsP s hs _ (by omega), f32_ok X s hs _ (by omega)]
  simp only [ob_some, sel_t, beq_self_eq_true]
end Nq

/-! There and back: names. Plain. -/
namespace Nq
open Go Lk NqG
variable (X : FnsB)

theorem current_good (n : Int) : (∃ s, good s 3 n ∧ current n = (s ++ [10], 0, ())) ∨ (current n = ([], 60, ()) ∧ (n < 1 ∨ n > 2147483647)) := by
  unfold current
  by_cases h : n < 1 ∨ n > 2147483647
  · right
    have : name 3 n = ([], 60, ()) := by
      unfold name
      rw [if_neg (by omega), if_pos (by omega)]
    rw [this]
    exact ⟨rfl, h⟩
  · left
    have hg : good (ahead ++ padded n) 3 n := (good_iff _ _ _).2 (.inr ⟨by omega, by omega, by omega, rfl⟩)
    have hn : name 3 n = (ahead ++ padded n, 0, ()) := hg
    refine ⟨_, hg, ?_⟩
    rw [hn]; rfl

theorem named_current {s : List UInt8} {n : Int} (h : good s 3 n) : named (s ++ [10]) = (n, 0, ()) := by
  unfold named
  rw [sufB_app, List.length_append, List.length_singleton, Nat.add_sub_cancel, List.take_left, parseA_good h]
  rfl

theorem b25 (k n : Int) (j : Nat) : X.f25 (j + 6) k n = some (name k n) := f25_ok X.toFnsP.toFnsM k n j
theorem b27 (s : List UInt8) (hs : s.length ≤ 2147483648) (j : Nat) (hj : 30 ≤ j) : X.f27 j s = some (parseA s) := f27_ok X.toFnsP s hs j hj
theorem b29 (n : Int) (j : Nat) : X.f29 (j + 10) n = some (current n) := f29_ok X.toFnsP n j
theorem b31 (s : List UInt8) (hs : s.length ≤ 2147483648) (j : Nat) (hj : 40 ≤ j) : X.f31 j s = some (named s) := f31_ok X.toFnsP s hs j hj

/-- THE PLAIN LAW. -/
theorem lawBack (k n : Int) (s : List UInt8) (hs : s.length ≤ 2147483648) : X.f9 (s.length + 300) k n s = some (true, ()) := by
  have e20 := f20_ok X.toFnsK (s.length + 259)
  have e25 : ∀ k n, X.f25 (s.length + 299) k n = some (name k n) := fun k n => b25 X k n (s.length + 293)
  have e25' : ∀ k n, X.f25 (s.length + 298) k n = some (name k n) := fun k n => b25 X k n (s.length + 292)
  have e25'' : ∀ k n, X.f25 (s.length + 297) k n = some (name k n) := fun k n => b25 X k n (s.length + 291)
  -- the end
  have tl : ∀ jj n0 n1, 60 ≤ jj → X.p9_13 (jj + 1) n0 n1 n = some (true, ()) := by
    intro jj n0 n1 hjj
    obtain ⟨q, rfl⟩ : ∃ q, jj = q + 60 := ⟨jj - 60, by omega⟩
    rw [X.p9_13_eq, show q + 60 = (q + 50) + 10 from rfl]
    have e29 := b29 X n (q + 50)
    rw [e29]
    simp only [ob_some]
    rcases current_good n with ⟨t, hg, hc⟩ | ⟨hc, hn⟩
    · rw [hc]
      have hl : (t ++ [10]).length ≤ 2147483648 := by
        have := name_len 3 n
        have hn : name 3 n = (t, 0, ()) := hg
        rw [hn] at this; simp at this ⊢; omega
      rw [b31 X (t ++ [10]) hl _ (by omega), named_current hg]
      simp [sel, ob_some]
    · rw [hc]
      simp only [show ((60 : Int) == 0) = false from rfl, sel_f, show (([] : List UInt8) == []) = true from rfl, sel_t, sel_dec]
      by_cases h1 : n < 1
      · rw [if_pos h1]
      · rw [if_neg h1, decide_eq_true (by omega)]
  -- what is read is named so
  have md : ∀ jj n0, 100 ≤ jj → X.p9_8 (jj + 1) n0 n s = some (true, ()) := by
    intro jj n0 hjj
    obtain ⟨q, rfl⟩ : ∃ q, jj = q + 100 := ⟨jj - 100, by omega⟩
    rw [X.p9_8_eq, b27 X s hs _ (by omega)]
    simp only [ob_some]
    have t1 := tl (q + 99) n0 (q + 100) (by omega)
    have t2 := tl (q + 98) n0 (q + 100) (by omega)
    rcases parseA_sound s with h | ⟨k', n', h, hg⟩
    · rw [h]
      simp only [show ((60 : Int) == 0) = false from rfl, sel_f]
      exact t1
    · rw [h]
      simp only [beq_self_eq_true, sel_t]
      have hn : name k' n' = (s, 0, ()) := hg
      rw [show q + 100 = (q + 94) + 6 from rfl, b25 X k' n' (q + 94), hn]
      simp only [ob_some, beq_self_eq_true, Bool.not_true, sel_f, bne_self_eq_false]
      rw [X.p9_2060_eq, sel_f]
      exact tl (q + 99) _ _ (by omega)
  rw [X.f9_eq, e20]
  simp only [ob_some, Bool.not_true, sel_f, e25]
  by_cases h0 : (name k n).2.1 = 0
  · rw [show ((name k n).2.1 == 0) = true by simpa using h0, sel_t]
    have hg : good (name k n).1 k n := Prod.ext rfl (Prod.ext h0 rfl)
    have hl := name_len k n
    rw [b27 X (name k n).1 (by omega) _ (by omega), parseA_good hg]
    simp only [ob_some, bne_self_eq_false, sel_f]
    rw [X.p9_2055_eq, sel_f]
    exact md (s.length + 298) _ (by omega)
  · rw [show ((name k n).2.1 == 0) = false by simpa using h0, sel_f]
    exact md (s.length + 298) _ (by omega)
end Nq

