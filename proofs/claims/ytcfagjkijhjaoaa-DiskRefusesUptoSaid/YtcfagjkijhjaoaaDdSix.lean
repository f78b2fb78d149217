import Derived.Test.YtcfagjkijhjaoaaLkThree
import Derived.Test.YtcfagjkijhjaoaaDkFour
set_option linter.all false
namespace Dk
open Go Lk 
set_option linter.unusedVariables false

/-- The functions, by their equations alone. -/
structure FnsD where
  /-- disk.New -/
  f8 (n : Nat) (a0 : Int) : Option (Option Lk.DiskS × Int × Unit)
  /-- Clone -/
  f10 (n : Nat) (a0 : Option Lk.DiskS) : Option (Option Lk.DiskS × Unit)
  /-- Crash -/
  f11 (n : Nat) (a0 : Option Lk.DiskS) (a1 : List Int) : Option (Int × Option Lk.DiskS × Unit)
  /-- List -/
  f12 (n : Nat) (a0 : Option Lk.DiskS) : Option (List (List UInt8) × Unit)
  /-- Size -/
  f14 (n : Nat) (a0 : Option Lk.DiskS) (a1 : List UInt8) : Option (Int × Int × Int × Unit)
  /-- Used -/
  f15 (n : Nat) (a0 : Option Lk.DiskS) : Option (Int × Unit)
  /-- Same -/
  f20 (n : Nat) (a0 : Option Lk.DiskS) (a1 : Option Lk.DiskS) : Option (Bool × Unit)
  /-- Refused -/
  f21 (n : Nat) (a0 : Option Lk.DiskS) : Option (Int × Unit)
  /-- Quota -/
  f22 (n : Nat) (a0 : Option Lk.DiskS) : Option (Int × Unit)
  /-- Refuse -/
  f23 (n : Nat) (a0 : Option Lk.DiskS) (a1 : Int) (a2 : Int) : Option (Int × Option Lk.DiskS × Unit)
  /-- Create -/
  f24 (n : Nat) (a0 : Option Lk.DiskS) (a1 : List UInt8) : Option (Int × Option Lk.DiskS × Unit)
  /-- Append -/
  f25 (n : Nat) (a0 : Option Lk.DiskS) (a1 : List UInt8) (a2 : List UInt8) : Option (Int × Option Lk.DiskS × Unit)
  /-- Read -/
  f26 (n : Nat) (a0 : Option Lk.DiskS) (a1 : List UInt8) (a2 : Int) (a3 : Int) : Option (List UInt8 × Int × Unit)
  /-- Sync -/
  f31 (n : Nat) (a0 : Option Lk.DiskS) (a1 : List UInt8) : Option (Int × Option Lk.DiskS × Unit)
  /-- Rename -/
  f32 (n : Nat) (a0 : Option Lk.DiskS) (a1 : List UInt8) (a2 : List UInt8) : Option (Int × Option Lk.DiskS × Unit)
  /-- Remove -/
  f33 (n : Nat) (a0 : Option Lk.DiskS) (a1 : List UInt8) : Option (Int × Option Lk.DiskS × Unit)
  /-- SetQuota -/
  f34 (n : Nat) (a0 : Option Lk.DiskS) (a1 : Int) : Option (Int × Option Lk.DiskS × Unit)
  /-- moraine/morainelaw05.lent -/
  f30 (n : Nat) (a0 : List (UInt8)) : Option (List (UInt8) × Unit)
  /-- moraine/morainelaw05.does -/
  f9 (n : Nat) (a0 : Option Lk.DiskS) (a1 : (Int × (List UInt8 × (List UInt8 × (List (UInt8) × (Int × (Int × (List (Int) × Unit)))))))) : Option (Int × Option Lk.DiskS × Unit)
  p9_8 (j : Nat) (n0 : Nat) (v0 : Option Lk.DiskS) (v5 : List (UInt8)) (v6 : Int) (v7 : Int) : Option (Int × Option Lk.DiskS × Unit)
  /-- moraine/morainelaw05.bytes -/
  f13 (n : Nat) (a0 : Option Lk.DiskS) (a1 : List UInt8) : Option (List UInt8 × Unit)
  /-- moraine/morainelaw05.DiskLasts -/
  f3 (n : Nat) (a0 : Int) (a1 : List ((Int × (List UInt8 × (List UInt8 × (List (UInt8) × (Int × (Int × (List (Int) × Unit))))))))) (a2 : List (Int)) : Option (Bool × Unit)
  p3_5 (j : Nat) (n0 : Nat) (v1 : List ((Int × (List UInt8 × (List UInt8 × (List (UInt8) × (Int × (Int × (List (Int) × Unit))))))))) (v2 : List (Int)) (v7 : Option Lk.DiskS) (v9 : Int) : Option (Bool × Unit)
  p3_2058 (j : Nat) (n0 : Nat) (v2 : List (Int)) (v7 : Option Lk.DiskS) (v10 : Option Lk.DiskS) (v62 : Bool) : Option (Bool × Unit)
  p3_11 (j : Nat) (n0 : Nat) (v2 : List (Int)) (v7 : Option Lk.DiskS) (v10 : Option Lk.DiskS) : Option (Bool × Unit)
  p3_15 (j : Nat) (n0 : Nat) (n1 : Nat) (v2 : List (Int)) (v7 : Option Lk.DiskS) (v10 : Option Lk.DiskS) (v11 : List (List UInt8)) (v12 : List (List UInt8)) (v13 : Int) : Option (Bool × Unit)
  p3_2069 (j : Nat) (n0 : Nat) (n1 : Nat) (n2 : Nat) (v2 : List (Int)) (v7 : Option Lk.DiskS) (v10 : Option Lk.DiskS) (v11 : List (List UInt8)) (v12 : List (List UInt8)) (v13 : Int) (v15 : List UInt8) (v17 : Int) (v144 : Bool) : Option (Bool × Unit)
  p3_22 (j : Nat) (n0 : Nat) (n1 : Nat) (n2 : Nat) (v2 : List (Int)) (v7 : Option Lk.DiskS) (v10 : Option Lk.DiskS) (v11 : List (List UInt8)) (v12 : List (List UInt8)) (v13 : Int) (v15 : List UInt8) (v17 : Int) : Option (Bool × Unit)
  p3_2071 (j : Nat) (n0 : Nat) (n1 : Nat) (n2 : Nat) (n3 : Nat) (v2 : List (Int)) (v7 : Option Lk.DiskS) (v10 : Option Lk.DiskS) (v11 : List (List UInt8)) (v12 : List (List UInt8)) (v13 : Int) (v153 : Bool) : Option (Bool × Unit)
  p3_16 (j : Nat) (n0 : Nat) (n1 : Nat) (n2 : Nat) (v2 : List (Int)) (v7 : Option Lk.DiskS) (v10 : Option Lk.DiskS) (v11 : List (List UInt8)) (v12 : List (List UInt8)) (v13 : Int) : Option (Bool × Unit)
  /-- moraine/morainelaw05.DiskRefuses -/
  f5 (n : Nat) (a0 : Int) (a1 : List ((Int × (List UInt8 × (List UInt8 × (List (UInt8) × (Int × (Int × (List (Int) × Unit))))))))) : Option (Bool × Unit)
  p5_5 (j : Nat) (n0 : Nat) (v1 : List ((Int × (List UInt8 × (List UInt8 × (List (UInt8) × (Int × (Int × (List (Int) × Unit))))))))) (v5 : Option Lk.DiskS) (v7 : Int) : Option (Bool × Unit)
  p5_2058 (j : Nat) (n0 : Nat) (n1 : Nat) (v1 : List ((Int × (List UInt8 × (List UInt8 × (List (UInt8) × (Int × (Int × (List (Int) × Unit))))))))) (v5 : Option Lk.DiskS) (v7 : Int) (v8 : Option Lk.DiskS) (v9 : Int) (v53 : Bool) : Option (Bool × Unit)
  p5_2064 (j : Nat) (n0 : Nat) (v5 : Option Lk.DiskS) (v98 : Bool) : Option (Bool × Unit)
  p5_11 (j : Nat) (n0 : Nat) (n1 : Nat) (v1 : List ((Int × (List UInt8 × (List UInt8 × (List (UInt8) × (Int × (Int × (List (Int) × Unit))))))))) (v5 : Option Lk.DiskS) (v7 : Int) (v8 : Option Lk.DiskS) (v9 : Int) : Option (Bool × Unit)
  p5_17 (j : Nat) (n0 : Nat) (v5 : Option Lk.DiskS) : Option (Bool × Unit)
  p5_2060 (j : Nat) (n0 : Nat) (n1 : Nat) (n2 : Nat) (v1 : List ((Int × (List UInt8 × (List UInt8 × (List (UInt8) × (Int × (Int × (List (Int) × Unit))))))))) (v5 : Option Lk.DiskS) (v7 : Int) (v9 : Int) (v72 : Bool) : Option (Bool × Unit)
  p5_2067 (j : Nat) (n0 : Nat) (n1 : Nat) (v5 : Option Lk.DiskS) (v115 : Bool) : Option (Bool × Unit)
  p5_13 (j : Nat) (n0 : Nat) (n1 : Nat) (n2 : Nat) (v1 : List ((Int × (List UInt8 × (List UInt8 × (List (UInt8) × (Int × (Int × (List (Int) × Unit))))))))) (v5 : Option Lk.DiskS) (v7 : Int) (v9 : Int) : Option (Bool × Unit)
  p5_20 (j : Nat) (n0 : Nat) (n1 : Nat) (v5 : Option Lk.DiskS) : Option (Bool × Unit)
  p5_2062 (j : Nat) (n0 : Nat) (n1 : Nat) (n2 : Nat) (n3 : Nat) (v1 : List ((Int × (List UInt8 × (List UInt8 × (List (UInt8) × (Int × (Int × (List (Int) × Unit))))))))) (v5 : Option Lk.DiskS) (v7 : Int) (v89 : Bool) : Option (Bool × Unit)
  p5_6 (j : Nat) (n0 : Nat) (n1 : Nat) (v1 : List ((Int × (List UInt8 × (List UInt8 × (List (UInt8) × (Int × (Int × (List (Int) × Unit))))))))) (v5 : Option Lk.DiskS) (v7 : Int) : Option (Bool × Unit)
  f8_eq (n : Nat) (a0 : Int) : f8 n a0 = Dk.xNew a0
  f10_eq (n : Nat) (a0 : Option Lk.DiskS) : f10 n a0 = Dk.xClone a0
  f11_eq (n : Nat) (a0 : Option Lk.DiskS) (a1 : List Int) : f11 n a0 a1 = Dk.xCrash a0 a1
  f12_eq (n : Nat) (a0 : Option Lk.DiskS) : f12 n a0 = Dk.xList a0
  f14_eq (n : Nat) (a0 : Option Lk.DiskS) (a1 : List UInt8) : f14 n a0 a1 = Dk.xSize a0 a1
  f15_eq (n : Nat) (a0 : Option Lk.DiskS) : f15 n a0 = Dk.xUsed a0
  f20_eq (n : Nat) (a0 : Option Lk.DiskS) (a1 : Option Lk.DiskS) : f20 n a0 a1 = Dk.xSame a0 a1
  f21_eq (n : Nat) (a0 : Option Lk.DiskS) : f21 n a0 = Dk.xRefused a0
  f22_eq (n : Nat) (a0 : Option Lk.DiskS) : f22 n a0 = Dk.xQuota a0
  f23_eq (n : Nat) (a0 : Option Lk.DiskS) (a1 : Int) (a2 : Int) : f23 n a0 a1 a2 = Dk.xRefuse a0 a1 a2
  f24_eq (n : Nat) (a0 : Option Lk.DiskS) (a1 : List UInt8) : f24 n a0 a1 = Dk.xCreate a0 a1
  f25_eq (n : Nat) (a0 : Option Lk.DiskS) (a1 : List UInt8) (a2 : List UInt8) : f25 n a0 a1 a2 = Dk.xAppend a0 a1 a2
  f26_eq (n : Nat) (a0 : Option Lk.DiskS) (a1 : List UInt8) (a2 : Int) (a3 : Int) : f26 n a0 a1 a2 a3 = Dk.xRead a0 a1 a2 a3
  f31_eq (n : Nat) (a0 : Option Lk.DiskS) (a1 : List UInt8) : f31 n a0 a1 = Dk.xSync a0 a1
  f32_eq (n : Nat) (a0 : Option Lk.DiskS) (a1 : List UInt8) (a2 : List UInt8) : f32 n a0 a1 a2 = Dk.xRename a0 a1 a2
  f33_eq (n : Nat) (a0 : Option Lk.DiskS) (a1 : List UInt8) : f33 n a0 a1 = Dk.xRemove a0 a1
  f34_eq (n : Nat) (a0 : Option Lk.DiskS) (a1 : Int) : f34 n a0 a1 = Dk.xSetQuota a0 a1
  f30_eq (n : Nat) (a0 : List (UInt8)) : f30 (n + 1) a0 =
  (sel (Decidable.decide ((0 : Nat) + a0.length ≤ (1073741824 : Nat)))
   (sel (Decidable.decide (List.length ([] ++ a0) + (1 : Nat) ≤ (1073741824 : Nat)))
    (sel (Decidable.decide ((0 : Int) ≤ (↑a0.length : Int)))
     (sel (Decidable.decide ((↑a0.length : Int) ≤ (↑(List.length ([] ++ a0 ++ [(90 : UInt8)])) : Int)))
      (some (Lk.ext ([] ++ a0 ++ [(90 : UInt8)]) (0 : Int) (↑a0.length : Int), ()))
      none)
     none)
    none)
   none)
  f9_eq (n : Nat) (a0 : Option Lk.DiskS) (a1 : (Int × (List UInt8 × (List UInt8 × (List (UInt8) × (Int × (Int × (List (Int) × Unit)))))))) : f9 (n + 1) a0 a1 =
  (sel ((Option.some a1).isSome)
   (sel (((Option.some a1).getD ((0 : Int), [], [], [], (0 : Int), (0 : Int), [], ())).fst == (0 : Int))
    (sel ((Option.some a1).isSome)
     (obind (f24 n (a0) (((Option.some a1).getD ((0 : Int), [], [], [], (0 : Int), (0 : Int), [], ())).snd.fst)) fun r111 =>
      (some (r111.fst, r111.snd.fst, ())))
     none)
    (sel (((Option.some a1).getD ((0 : Int), [], [], [], (0 : Int), (0 : Int), [], ())).fst == (1 : Int))
     (sel ((Option.some a1).isSome)
      (obind (f30 n (((Option.some a1).getD ((0 : Int), [], [], [], (0 : Int), (0 : Int), [], ())).snd.snd.snd.fst)) fun r191 =>
       (sel ((Option.some a1).isSome)
        (obind (f25 n (a0) (((Option.some a1).getD ((0 : Int), [], [], [], (0 : Int), (0 : Int), [], ())).snd.fst) (r191.fst)) fun r244 =>
         (p9_8 (n) (n) (r244.snd.fst) (r191.fst) (r244.fst) ((0 : Int))))
        none))
      none)
     (sel (((Option.some a1).getD ((0 : Int), [], [], [], (0 : Int), (0 : Int), [], ())).fst == (2 : Int))
      (sel ((Option.some a1).isSome)
       (obind (f31 n (a0) (((Option.some a1).getD ((0 : Int), [], [], [], (0 : Int), (0 : Int), [], ())).snd.fst)) fun r336 =>
        (some (r336.fst, r336.snd.fst, ())))
       none)
      (sel (((Option.some a1).getD ((0 : Int), [], [], [], (0 : Int), (0 : Int), [], ())).fst == (3 : Int))
       (sel ((Option.some a1).isSome)
        (sel ((Option.some a1).isSome)
         (obind (f32 n (a0) (((Option.some a1).getD ((0 : Int), [], [], [], (0 : Int), (0 : Int), [], ())).snd.fst) (((Option.some a1).getD ((0 : Int), [], [], [], (0 : Int), (0 : Int), [], ())).snd.snd.fst)) fun r437 =>
          (some (r437.fst, r437.snd.fst, ())))
         none)
        none)
       (sel (((Option.some a1).getD ((0 : Int), [], [], [], (0 : Int), (0 : Int), [], ())).fst == (4 : Int))
        (sel ((Option.some a1).isSome)
         (obind (f33 n (a0) (((Option.some a1).getD ((0 : Int), [], [], [], (0 : Int), (0 : Int), [], ())).snd.fst)) fun r524 =>
          (some (r524.fst, r524.snd.fst, ())))
         none)
        (sel (((Option.some a1).getD ((0 : Int), [], [], [], (0 : Int), (0 : Int), [], ())).fst == (5 : Int))
         (sel ((Option.some a1).isSome)
          (obind (f34 n (a0) (((Option.some a1).getD ((0 : Int), [], [], [], (0 : Int), (0 : Int), [], ())).snd.snd.snd.snd.snd.fst)) fun r611 =>
           (some (r611.fst, r611.snd.fst, ())))
          none)
         (sel (((Option.some a1).getD ((0 : Int), [], [], [], (0 : Int), (0 : Int), [], ())).fst == (6 : Int))
          (sel ((Option.some a1).isSome)
           (sel ((Option.some a1).isSome)
            (obind (f23 n (a0) (((Option.some a1).getD ((0 : Int), [], [], [], (0 : Int), (0 : Int), [], ())).snd.snd.snd.snd.fst) (((Option.some a1).getD ((0 : Int), [], [], [], (0 : Int), (0 : Int), [], ())).snd.snd.snd.snd.snd.fst)) fun r712 =>
             (some (r712.fst, r712.snd.fst, ())))
            none)
           none)
          (sel (((Option.some a1).getD ((0 : Int), [], [], [], (0 : Int), (0 : Int), [], ())).fst == (7 : Int))
           (sel ((Option.some a1).isSome)
            (sel (Decidable.decide ((0 : Nat) + List.length ((Option.some a1).getD ((0 : Int), [], [], [], (0 : Int), (0 : Int), [], ())).snd.snd.snd.snd.snd.snd.fst ≤ (1073741824 : Nat)))
             (obind (f11 n (a0) ([] ++ ((Option.some a1).getD ((0 : Int), [], [], [], (0 : Int), (0 : Int), [], ())).snd.snd.snd.snd.snd.snd.fst)) fun r813 =>
              (some (r813.fst, r813.snd.fst, ())))
             none)
            none)
           (some ((0 : Int), a0, ()))))))))))
   none)
  p9_8_eq (j : Nat) (n0 : Nat) (v0 : Option Lk.DiskS) (v5 : List (UInt8)) (v6 : Int) (v7 : Int) : p9_8 (j + 1) n0 v0 v5 v6 v7 =
  (sel (Decidable.decide (v7 < (↑v5.length : Int)))
   (sel (Decidable.decide ((0 : Int) ≤ v7))
    (sel (Decidable.decide (v7 < (↑v5.length : Int)))
     (sel (Decidable.decide ((0 : Int) ≤ v7))
      (sel (Decidable.decide (v7 < (↑v5.length : Int)))
       (p9_8 (j) (n0) (v0) (v5.set v7.toNat (UInt8.ofNat (Go.IntKind.u8.wrap ((↑(UInt8.toNat (v5.getD v7.toNat (0 : UInt8))) : Int) + (↑(UInt8.toNat (1 : UInt8)) : Int))).toNat)) (v6) (Go.IntKind.i64.wrap (v7 + (1 : Int))))
       none)
      none)
     none)
    none)
   (some (v6, v0, ())))
  f13_eq (n : Nat) (a0 : Option Lk.DiskS) (a1 : List UInt8) : f13 (n + 1) a0 a1 =
  (obind (f14 n (a0) (a1)) fun r47 =>
   (obind (f26 n (a0) (a1) ((0 : Int)) (r47.fst)) fun r135 =>
    (some (r135.fst, ()))))
  f3_eq (n : Nat) (a0 : Int) (a1 : List ((Int × (List UInt8 × (List UInt8 × (List (UInt8) × (Int × (Int × (List (Int) × Unit))))))))) (a2 : List (Int)) : f3 (n + 1) a0 a1 a2 =
  (obind (f8 n (a0)) fun r40 =>
   (sel (Option.isNone r40.fst)
    (sel (r40.snd.fst == (2 : Int))
     (sel (Decidable.decide (a0 < (0 : Int)))
      (some (Bool.true, ()))
      (some (Decidable.decide (a0 > (268435456 : Int)), ())))
     (some (Bool.false, ())))
    (p3_5 (n) (n) (a1) (a2) (r40.fst) ((0 : Int)))))
  p3_5_eq (j : Nat) (n0 : Nat) (v1 : List ((Int × (List UInt8 × (List UInt8 × (List (UInt8) × (Int × (Int × (List (Int) × Unit))))))))) (v2 : List (Int)) (v7 : Option Lk.DiskS) (v9 : Int) : p3_5 (j + 1) n0 v1 v2 v7 v9 =
  (sel (Decidable.decide (v9 < (↑v1.length : Int)))
   (sel (Decidable.decide ((0 : Int) ≤ v9))
    (sel (Decidable.decide (v9 < (↑v1.length : Int)))
     (obind (f9 j (v7) (v1.getD v9.toNat ((0 : Int), [], [], [], (0 : Int), (0 : Int), [], ()))) fun r490 =>
      (p3_5 (j) (n0) (v1) (v2) (r490.snd.fst) (Go.IntKind.i64.wrap (v9 + (1 : Int)))))
     none)
    none)
   (obind (f10 n0 (v7)) fun r557 =>
    (sel (Option.isNone r557.fst)
     (p3_2058 (n0) (n0) (v2) (v7) (r557.fst) (Bool.true))
     (sel (Decidable.decide ((0 : Nat) + v2.length ≤ (1073741824 : Nat)))
      (obind (f11 n0 (v7) ([] ++ v2)) fun r725 =>
       (p3_2058 (n0) (n0) (v2) (r725.snd.fst) (r557.fst) (r725.fst != (0 : Int))))
      none))))
  p3_2058_eq (j : Nat) (n0 : Nat) (v2 : List (Int)) (v7 : Option Lk.DiskS) (v10 : Option Lk.DiskS) (v62 : Bool) : p3_2058 (j + 1) n0 v2 v7 v10 v62 =
  (sel (v62)
   (some (Bool.false, ()))
   (p3_11 (n0) (n0) (v2) (v7) (v10)))
  p3_11_eq (j : Nat) (n0 : Nat) (v2 : List (Int)) (v7 : Option Lk.DiskS) (v10 : Option Lk.DiskS) : p3_11 (j + 1) n0 v2 v7 v10 =
  (obind (f12 j (v10)) fun r812 =>
   (obind (f12 j (v7)) fun r829 =>
    (sel ((↑(List.length r812.fst) : Int) != (↑(List.length r829.fst) : Int))
     (some (Bool.false, ()))
     (p3_15 (j) (n0) (j) (v2) (v7) (v10) (r812.fst) (r829.fst) ((0 : Int))))))
  p3_15_eq (j : Nat) (n0 : Nat) (n1 : Nat) (v2 : List (Int)) (v7 : Option Lk.DiskS) (v10 : Option Lk.DiskS) (v11 : List (List UInt8)) (v12 : List (List UInt8)) (v13 : Int) : p3_15 (j + 1) n0 n1 v2 v7 v10 v11 v12 v13 =
  (sel (Decidable.decide (v13 < (↑v11.length : Int)))
   (sel (Decidable.decide ((0 : Int) ≤ v13))
    (sel (Decidable.decide (v13 < (↑v11.length : Int)))
     (obind (f13 j (v10) (v11.getD v13.toNat [])) fun r1049 =>
      (sel (Decidable.decide ((0 : Int) ≤ v13))
       (sel (Decidable.decide (v13 < (↑v11.length : Int)))
        (obind (f13 j (v7) (v11.getD v13.toNat [])) fun r1095 =>
         (sel (Decidable.decide ((0 : Int) ≤ v13))
          (sel (Decidable.decide (v13 < (↑v11.length : Int)))
           (obind (f14 j (v10) (v11.getD v13.toNat [])) fun r1161 =>
            (sel (Decidable.decide ((0 : Int) ≤ v13))
             (sel (Decidable.decide (v13 < (↑v11.length : Int)))
              (obind (f14 j (v7) (v11.getD v13.toNat [])) fun r1263 =>
               (sel (Decidable.decide ((0 : Int) ≤ v13))
                (sel (Decidable.decide (v13 < (↑v11.length : Int)))
                 (sel (Decidable.decide ((0 : Int) ≤ v13))
                  (sel (Decidable.decide (v13 < (↑v12.length : Int)))
                   (sel (!v11.getD v13.toNat [] == v12.getD v13.toNat [])
                    (p3_2069 (j) (n0) (n1) (j) (v2) (v7) (v10) (v11) (v12) (v13) (r1095.fst) (r1161.snd.fst) (Bool.true))
                    (sel (Decidable.decide ((↑(List.length r1095.fst) : Int) < r1161.snd.fst))
                     (p3_2069 (j) (n0) (n1) (j) (v2) (v7) (v10) (v11) (v12) (v13) (r1095.fst) (r1161.snd.fst) (Bool.true))
                     (sel (Decidable.decide ((↑(List.length r1095.fst) : Int) > (↑(List.length r1049.fst) : Int)))
                      (p3_2069 (j) (n0) (n1) (j) (v2) (v7) (v10) (v11) (v12) (v13) (r1095.fst) (r1161.snd.fst) (Bool.true))
                      (sel (Decidable.decide ((0 : Int) ≤ (↑(List.length r1095.fst) : Int)))
                       (sel (Decidable.decide ((↑(List.length r1095.fst) : Int) ≤ (↑(List.length r1049.fst) : Int)))
                        (sel (!Lk.ext r1049.fst (0 : Int) (↑(List.length r1095.fst) : Int) == r1095.fst)
                         (p3_2069 (j) (n0) (n1) (j) (v2) (v7) (v10) (v11) (v12) (v13) (r1095.fst) (r1161.snd.fst) (Bool.true))
                         (p3_2069 (j) (n0) (n1) (j) (v2) (v7) (v10) (v11) (v12) (v13) (r1095.fst) (r1161.snd.fst) (r1263.fst != r1263.snd.fst)))
                        none)
                       none))))
                   none)
                  none)
                 none)
                none))
              none)
             none))
           none)
          none))
        none)
       none))
     none)
    none)
   (obind (f11 n1 (v7) ([])) fun r2247 =>
    (sel (r2247.fst == (0 : Int))
     (obind (f15 n1 (r2247.snd.fst)) fun r2290 =>
      (obind (f15 n1 (v10)) fun r2319 =>
       (some (Decidable.decide (r2290.fst ≤ r2319.fst), ()))))
     (some (Bool.false, ())))))
  p3_2069_eq (j : Nat) (n0 : Nat) (n1 : Nat) (n2 : Nat) (v2 : List (Int)) (v7 : Option Lk.DiskS) (v10 : Option Lk.DiskS) (v11 : List (List UInt8)) (v12 : List (List UInt8)) (v13 : Int) (v15 : List UInt8) (v17 : Int) (v144 : Bool) : p3_2069 (j + 1) n0 n1 n2 v2 v7 v10 v11 v12 v13 v15 v17 v144 =
  (sel (v144)
   (some (Bool.false, ()))
   (p3_22 (n2) (n0) (n1) (n2) (v2) (v7) (v10) (v11) (v12) (v13) (v15) (v17)))
  p3_22_eq (j : Nat) (n0 : Nat) (n1 : Nat) (n2 : Nat) (v2 : List (Int)) (v7 : Option Lk.DiskS) (v10 : Option Lk.DiskS) (v11 : List (List UInt8)) (v12 : List (List UInt8)) (v13 : Int) (v15 : List UInt8) (v17 : Int) : p3_22 (j + 1) n0 n1 n2 v2 v7 v10 v11 v12 v13 v15 v17 =
  (sel ((↑v2.length : Int) == (0 : Int))
   (p3_2071 (j) (n0) (n1) (n2) (j) (v2) (v7) (v10) (v11) (v12) (v13) ((↑v15.length : Int) != v17))
   (p3_2071 (j) (n0) (n1) (n2) (j) (v2) (v7) (v10) (v11) (v12) (v13) (Bool.false)))
  p3_2071_eq (j : Nat) (n0 : Nat) (n1 : Nat) (n2 : Nat) (n3 : Nat) (v2 : List (Int)) (v7 : Option Lk.DiskS) (v10 : Option Lk.DiskS) (v11 : List (List UInt8)) (v12 : List (List UInt8)) (v13 : Int) (v153 : Bool) : p3_2071 (j + 1) n0 n1 n2 n3 v2 v7 v10 v11 v12 v13 v153 =
  (sel (v153)
   (some (Bool.false, ()))
   (p3_16 (n2) (n0) (n1) (n2) (v2) (v7) (v10) (v11) (v12) (v13)))
  p3_16_eq (j : Nat) (n0 : Nat) (n1 : Nat) (n2 : Nat) (v2 : List (Int)) (v7 : Option Lk.DiskS) (v10 : Option Lk.DiskS) (v11 : List (List UInt8)) (v12 : List (List UInt8)) (v13 : Int) : p3_16 (j + 1) n0 n1 n2 v2 v7 v10 v11 v12 v13 =
  (p3_15 (n2) (n0) (n1) (v2) (v7) (v10) (v11) (v12) (Go.IntKind.i64.wrap (v13 + (1 : Int))))
  f5_eq (n : Nat) (a0 : Int) (a1 : List ((Int × (List UInt8 × (List UInt8 × (List (UInt8) × (Int × (Int × (List (Int) × Unit))))))))) : f5 (n + 1) a0 a1 =
  (obind (f8 n (a0)) fun r40 =>
   (sel (Option.isNone r40.fst)
    (sel (Decidable.decide (a0 < (0 : Int)))
     (some (Bool.true, ()))
     (some (Decidable.decide (a0 > (268435456 : Int)), ())))
    (p5_5 (n) (n) (a1) (r40.fst) ((0 : Int)))))
  p5_5_eq (j : Nat) (n0 : Nat) (v1 : List ((Int × (List UInt8 × (List UInt8 × (List (UInt8) × (Int × (Int × (List (Int) × Unit))))))))) (v5 : Option Lk.DiskS) (v7 : Int) : p5_5 (j + 1) n0 v1 v5 v7 =
  (sel (Decidable.decide (v7 < (↑v1.length : Int)))
   (obind (f10 j (v5)) fun r324 =>
    (sel (Decidable.decide ((0 : Int) ≤ v7))
     (sel (Decidable.decide (v7 < (↑v1.length : Int)))
      (obind (f9 j (v5) (v1.getD v7.toNat ((0 : Int), [], [], [], (0 : Int), (0 : Int), [], ()))) fun r384 =>
       (sel (r384.fst == (52 : Int))
        (obind (f20 j (r384.snd.fst) (r324.fst)) fun r463 =>
         (sel (!r463.fst)
          (p5_2058 (j) (n0) (j) (v1) (r384.snd.fst) (v7) (r324.fst) (r384.fst) (Bool.true))
          (obind (f21 j (r384.snd.fst)) fun r594 =>
           (obind (f21 j (r324.fst)) fun r623 =>
            (p5_2058 (j) (n0) (j) (v1) (r384.snd.fst) (v7) (r324.fst) (r384.fst) (r594.fst != Go.IntKind.i64.wrap (r623.fst + (1 : Int))))))))
        (p5_2058 (j) (n0) (j) (v1) (r384.snd.fst) (v7) (r324.fst) (r384.fst) (Bool.false))))
      none)
     none))
   (obind (f23 n0 (v5) ((0 : Int)) ((0 : Int))) fun r806 =>
    (sel (r806.fst != (0 : Int))
     (p5_2064 (n0) (n0) (r806.snd.fst) (Bool.true))
     (obind (f12 n0 (r806.snd.fst)) fun r892 =>
      (p5_2064 (n0) (n0) (r806.snd.fst) (Decidable.decide ((↑(List.length r892.fst) : Int) ≥ (4096 : Int))))))))
  p5_2058_eq (j : Nat) (n0 : Nat) (n1 : Nat) (v1 : List ((Int × (List UInt8 × (List UInt8 × (List (UInt8) × (Int × (Int × (List (Int) × Unit))))))))) (v5 : Option Lk.DiskS) (v7 : Int) (v8 : Option Lk.DiskS) (v9 : Int) (v53 : Bool) : p5_2058 (j + 1) n0 n1 v1 v5 v7 v8 v9 v53 =
  (sel (v53)
   (some (Bool.false, ()))
   (p5_11 (n1) (n0) (n1) (v1) (v5) (v7) (v8) (v9)))
  p5_2064_eq (j : Nat) (n0 : Nat) (v5 : Option Lk.DiskS) (v98 : Bool) : p5_2064 (j + 1) n0 v5 v98 =
  (sel (v98)
   (obind (f12 j (v5)) fun r1006 =>
    (some (Decidable.decide ((↑(List.length r1006.fst) : Int) ≤ (4096 : Int)), ())))
   (p5_17 (n0) (n0) (v5)))
  p5_11_eq (j : Nat) (n0 : Nat) (n1 : Nat) (v1 : List ((Int × (List UInt8 × (List UInt8 × (List (UInt8) × (Int × (Int × (List (Int) × Unit))))))))) (v5 : Option Lk.DiskS) (v7 : Int) (v8 : Option Lk.DiskS) (v9 : Int) : p5_11 (j + 1) n0 n1 v1 v5 v7 v8 v9 =
  (sel (v9 != (52 : Int))
   (obind (f21 j (v5)) fun r1106 =>
    (obind (f21 j (v8)) fun r1135 =>
     (sel (r1106.fst != r1135.fst)
      (p5_2060 (j) (n0) (n1) (j) (v1) (v5) (v7) (v9) (Bool.true))
      (sel (v9 != (0 : Int))
       (obind (f20 j (v5) (v8)) fun r1310 =>
        (p5_2060 (j) (n0) (n1) (j) (v1) (v5) (v7) (v9) (!r1310.fst)))
       (p5_2060 (j) (n0) (n1) (j) (v1) (v5) (v7) (v9) (Bool.false))))))
   (sel (v9 != (0 : Int))
    (obind (f20 j (v5) (v8)) fun r1540 =>
     (p5_2060 (j) (n0) (n1) (j) (v1) (v5) (v7) (v9) (!r1540.fst)))
    (p5_2060 (j) (n0) (n1) (j) (v1) (v5) (v7) (v9) (Bool.false))))
  p5_17_eq (j : Nat) (n0 : Nat) (v5 : Option Lk.DiskS) : p5_17 (j + 1) n0 v5 =
  (obind (f24 j (v5) ([(97 : UInt8), (32 : UInt8), (102 : UInt8), (105 : UInt8), (108 : UInt8), (101 : UInt8), (32 : UInt8), (116 : UInt8), (104 : UInt8), (97 : UInt8), (116 : UInt8), (32 : UInt8), (110 : UInt8), (111 : UInt8), (98 : UInt8), (111 : UInt8), (100 : UInt8), (121 : UInt8), (32 : UInt8), (110 : UInt8), (97 : UInt8), (109 : UInt8), (101 : UInt8), (100 : UInt8)])) fun r1657 =>
   (sel (r1657.fst != (0 : Int))
    (sel (r1657.fst != (50 : Int))
     (p5_2067 (j) (n0) (j) (r1657.snd.fst) (Bool.true))
     (obind (f23 j (r1657.snd.fst) ((0 : Int)) ((1 : Int))) fun r1796 =>
      (p5_2067 (j) (n0) (j) (r1796.snd.fst) (r1796.fst != (0 : Int)))))
    (obind (f23 j (r1657.snd.fst) ((0 : Int)) ((1 : Int))) fun r1875 =>
     (p5_2067 (j) (n0) (j) (r1875.snd.fst) (r1875.fst != (0 : Int))))))
  p5_2060_eq (j : Nat) (n0 : Nat) (n1 : Nat) (n2 : Nat) (v1 : List ((Int × (List UInt8 × (List UInt8 × (List (UInt8) × (Int × (Int × (List (Int) × Unit))))))))) (v5 : Option Lk.DiskS) (v7 : Int) (v9 : Int) (v72 : Bool) : p5_2060 (j + 1) n0 n1 n2 v1 v5 v7 v9 v72 =
  (sel (v72)
   (some (Bool.false, ()))
   (p5_13 (n2) (n0) (n1) (n2) (v1) (v5) (v7) (v9)))
  p5_2067_eq (j : Nat) (n0 : Nat) (n1 : Nat) (v5 : Option Lk.DiskS) (v115 : Bool) : p5_2067 (j + 1) n0 n1 v5 v115 =
  (sel (v115)
   (some (Bool.false, ()))
   (p5_20 (n1) (n0) (n1) (v5)))
  p5_13_eq (j : Nat) (n0 : Nat) (n1 : Nat) (n2 : Nat) (v1 : List ((Int × (List UInt8 × (List UInt8 × (List (UInt8) × (Int × (Int × (List (Int) × Unit))))))))) (v5 : Option Lk.DiskS) (v7 : Int) (v9 : Int) : p5_13 (j + 1) n0 n1 n2 v1 v5 v7 v9 =
  (sel (Decidable.decide ((0 : Int) ≤ v7))
   (sel (Decidable.decide (v7 < (↑v1.length : Int)))
    (sel ((v1.getD v7.toNat ((0 : Int), [], [], [], (0 : Int), (0 : Int), [], ())).fst == (1 : Int))
     (sel (v9 == (0 : Int))
      (obind (f15 j (v5)) fun r2112 =>
       (obind (f22 j (v5)) fun r2141 =>
        (p5_2062 (j) (n0) (n1) (n2) (j) (v1) (v5) (v7) (Decidable.decide (r2112.fst > r2141.fst)))))
      (p5_2062 (j) (n0) (n1) (n2) (j) (v1) (v5) (v7) (Bool.false)))
     (p5_2062 (j) (n0) (n1) (n2) (j) (v1) (v5) (v7) (Bool.false)))
    none)
   none)
  p5_20_eq (j : Nat) (n0 : Nat) (n1 : Nat) (v5 : Option Lk.DiskS) : p5_20 (j + 1) n0 n1 v5 =
  (obind (f25 j (v5) ([(97 : UInt8), (32 : UInt8), (102 : UInt8), (105 : UInt8), (108 : UInt8), (101 : UInt8), (32 : UInt8), (116 : UInt8), (104 : UInt8), (97 : UInt8), (116 : UInt8), (32 : UInt8), (110 : UInt8), (111 : UInt8), (98 : UInt8), (111 : UInt8), (100 : UInt8), (121 : UInt8), (32 : UInt8), (110 : UInt8), (97 : UInt8), (109 : UInt8), (101 : UInt8), (100 : UInt8)]) ([])) fun r2329 =>
   (some (r2329.fst == (52 : Int), ())))
  p5_2062_eq (j : Nat) (n0 : Nat) (n1 : Nat) (n2 : Nat) (n3 : Nat) (v1 : List ((Int × (List UInt8 × (List UInt8 × (List (UInt8) × (Int × (Int × (List (Int) × Unit))))))))) (v5 : Option Lk.DiskS) (v7 : Int) (v89 : Bool) : p5_2062 (j + 1) n0 n1 n2 n3 v1 v5 v7 v89 =
  (sel (v89)
   (some (Bool.false, ()))
   (p5_6 (n1) (n0) (n1) (v1) (v5) (v7)))
  p5_6_eq (j : Nat) (n0 : Nat) (n1 : Nat) (v1 : List ((Int × (List UInt8 × (List UInt8 × (List (UInt8) × (Int × (Int × (List (Int) × Unit))))))))) (v5 : Option Lk.DiskS) (v7 : Int) : p5_6 (j + 1) n0 n1 v1 v5 v7 =
  (p5_5 (n1) (n0) (v1) (v5) (Go.IntKind.i64.wrap (v7 + (1 : Int))))
end Dk

/-! The laws of the disk: what is done to a disk. -/
namespace Dk
open Go Lk

theorem sel_ite {α : Type} (c : Bool) (x y : α) : sel c x y = if c = true then x else y := by cases c <;> rfl

abbrev A := Int × (List UInt8 × (List UInt8 × (List UInt8 × (Int × (Int × (List Int × Unit))))))

/-- An act done to a disk. -/
def act (d : DiskS) (a : A) : Int × DiskS :=
  if a.1 = 0 then create d a.2.1 else if a.1 = 1 then append d a.2.1 a.2.2.2.1 else if a.1 = 2 then sync d a.2.1 else
  if a.1 = 3 then rename d a.2.1 a.2.2.1 else if a.1 = 4 then remove d a.2.1 else if a.1 = 5 then setQuota d a.2.2.2.2.2.1 else
  if a.1 = 6 then refuse d a.2.2.2.2.1 a.2.2.2.2.2.1 else if a.1 = 7 then crash d a.2.2.2.2.2.2.1 else (0, d)

/-- An act that is small, of numbers that there are. -/
def Fine (a : A) : Prop := a.2.2.2.1.length ≤ 1048576 ∧ a.2.2.2.2.2.2.1.length ≤ 1048576 ∧ a.2.2.2.2.1 ≤ 9223372036854775807 ∧ a.2.2.2.2.2.1 ≤ 9223372036854775807

theorem Good.act {d : DiskS} (h : Good d) {a : A} (ha : Fine a) : Good (act d a).2 := by
  unfold Dk.act
  split; · exact h.create _
  split; · exact h.append _ _
  split; · exact h.sync _
  split; · exact h.rename _ _
  split; · exact h.remove _
  split; · exact h.setQuota _
  split; · exact h.refuse _ _ ha.2.2.1 ha.2.2.2
  split; · exact h.crash _
  exact h

section
variable (X : FnsD)

theorem e30 (n : Nat) (b : List UInt8) (hb : b.length ≤ 1048576) : X.f30 (n + 1) b = some (b, ()) := by
  rw [X.f30_eq]
  simp only [sel_ite, decide_eq_true_eq, List.nil_append, List.length_append, List.length_cons, List.length_nil, Nat.zero_add]
  rw [if_pos (by omega), if_pos (by omega), if_pos (by omega), if_pos (by omega)]
  simp [Lk.ext, win]

theorem e9l (N : Nat) : ∀ (k j n0 : Nat) (d : Option DiskS) (v : List UInt8) (e : Int), v.length = k + N → v.length ≤ 1048576 → X.p9_8 (j + N + 1) n0 d v e (k : Int) = some (e, d, ()) := by
  induction N with
  | zero =>
    intro k j n0 d v e h _
    rw [X.p9_8_eq, sel_ite, if_neg]
    simp; omega
  | succ N ih =>
    intro k j n0 d v e h hb
    rw [show j + (N + 1) + 1 = (j + N + 1) + 1 by omega, X.p9_8_eq]
    simp only [sel_ite, decide_eq_true_eq]
    rw [if_pos (by omega), if_pos (by omega), if_pos (by omega), if_pos (by omega), if_pos (by omega), wrap64 (by omega) (by omega)]
    have := ih (k + 1) j n0 d (v.set (k : Int).toNat (UInt8.ofNat (Go.IntKind.u8.wrap ((↑(UInt8.toNat (v.getD (k : Int).toNat (0 : UInt8))) : Int) + (↑(UInt8.toNat (1 : UInt8)) : Int))).toNat)) e (by simp; omega) (by simpa using hb)
    simpa using this

theorem e9 (n : Nat) (d : DiskS) (a : A) (ha : Fine a) (hn : 1048600 ≤ n) : X.f9 n (some d) a = some ((act d a).1, some (act d a).2, ()) := by
  obtain ⟨m, rfl⟩ : ∃ m, n = m + a.2.2.2.1.length + 10 := ⟨n - a.2.2.2.1.length - 10, by have := ha.1; omega⟩
  have hB := ha.1
  have hK := ha.2.1
  rw [show m + a.2.2.2.1.length + 10 = (m + a.2.2.2.1.length + 9) + 1 from rfl, X.f9_eq]
  simp only [Option.isSome_some, Option.getD_some, sel_t, sel_ite, beq_iff_eq, decide_eq_true_eq]
  have f30 := e30 X (m + a.2.2.2.1.length + 8) a.2.2.2.1 hB
  rw [show m + a.2.2.2.1.length + 8 + 1 = m + a.2.2.2.1.length + 9 from rfl] at f30
  unfold act
  by_cases h0 : a.1 = 0
  · rw [if_pos h0, if_pos h0, X.f24_eq]; rfl
  rw [if_neg h0, if_neg h0]
  by_cases h1 : a.1 = 1
  · rw [if_pos h1, if_pos h1, f30, ob_some, X.f25_eq]
    simp only [xAppend, Option.bind_some, turned, ob_some]
    have := e9l X a.2.2.2.1.length 0 (m + 8) (m + a.2.2.2.1.length + 9) (some (append d a.2.1 a.2.2.2.1).2) a.2.2.2.1 (append d a.2.1 a.2.2.2.1).1 (by omega) hB
    rw [show m + 8 + a.2.2.2.1.length + 1 = m + a.2.2.2.1.length + 9 by omega] at this
    exact this
  rw [if_neg h1, if_neg h1]
  by_cases h2 : a.1 = 2
  · rw [if_pos h2, if_pos h2, X.f31_eq]; rfl
  rw [if_neg h2, if_neg h2]
  by_cases h3 : a.1 = 3
  · rw [if_pos h3, if_pos h3, X.f32_eq]; rfl
  rw [if_neg h3, if_neg h3]
  by_cases h4 : a.1 = 4
  · rw [if_pos h4, if_pos h4, X.f33_eq]; rfl
  rw [if_neg h4, if_neg h4]
  by_cases h5 : a.1 = 5
  · rw [if_pos h5, if_pos h5, X.f34_eq]; rfl
  rw [if_neg h5, if_neg h5]
  by_cases h6 : a.1 = 6
  · rw [if_pos h6, if_pos h6, X.f23_eq]; rfl
  rw [if_neg h6, if_neg h6]
  by_cases h7 : a.1 = 7
  · rw [if_pos h7, if_pos h7, if_pos trivial, if_pos (show 0 + a.2.2.2.2.2.2.1.length ≤ 1073741824 by omega), X.f11_eq]
    rfl
  rw [if_neg h7, if_neg h7]
  rfl
end
end Dk

