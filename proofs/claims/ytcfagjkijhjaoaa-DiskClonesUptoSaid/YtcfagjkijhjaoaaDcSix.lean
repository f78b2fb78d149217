import Derived.Test.YtcfagjkijhjaoaaLkThree
import Derived.Test.YtcfagjkijhjaoaaDkFour
set_option linter.all false
abbrev AbA := (Int × (List UInt8 × (List UInt8 × (List UInt8 × (Int × (Int × (List Int × Unit)))))))
abbrev AbR := (List (List UInt8 × (List UInt8 × (Int × Unit))) × (Int × (Int × (Int × (Int × Unit)))))
abbrev TyA : Lk.Ty := .c (.i .i64) (.c .s (.c .s (.c (.l .by) (.c (.i .i64) (.c (.i .i64) (.c (.l (.i .i64)) .u))))))
abbrev TyR : Lk.Ty := .c (.l (.c .s (.c .s (.c (.i .i64) .u)))) (.c (.i .i64) (.c (.i .i64) (.c (.i .i64) (.c (.i .i64) .u))))

namespace Dk
open Go Lk
set_option linter.unusedVariables false

structure FnsD where
  f8 (n : Nat) (a0 : Int) : Option (Option Lk.DiskS × Int × Unit)
  f10 (n : Nat) (a0 : Option Lk.DiskS) : Option (Option Lk.DiskS × Unit)
  f11 (n : Nat) (a0 : Option Lk.DiskS) (a1 : List Int) : Option (Int × Option Lk.DiskS × Unit)
  f12 (n : Nat) (a0 : Option Lk.DiskS) : Option (List (List UInt8) × Unit)
  f14 (n : Nat) (a0 : Option Lk.DiskS) (a1 : List UInt8) : Option (Int × Int × Int × Unit)
  f15 (n : Nat) (a0 : Option Lk.DiskS) : Option (Int × Unit)
  f20 (n : Nat) (a0 : Option Lk.DiskS) (a1 : Option Lk.DiskS) : Option (Bool × Unit)
  f21 (n : Nat) (a0 : Option Lk.DiskS) : Option (Int × Unit)
  f22 (n : Nat) (a0 : Option Lk.DiskS) : Option (Int × Unit)
  f23 (n : Nat) (a0 : Option Lk.DiskS) (a1 : Int) (a2 : Int) : Option (Int × Option Lk.DiskS × Unit)
  f24 (n : Nat) (a0 : Option Lk.DiskS) (a1 : List UInt8) : Option (Int × Option Lk.DiskS × Unit)
  f25 (n : Nat) (a0 : Option Lk.DiskS) (a1 : List UInt8) (a2 : List UInt8) : Option (Int × Option Lk.DiskS × Unit)
  f26 (n : Nat) (a0 : Option Lk.DiskS) (a1 : List UInt8) (a2 : Int) (a3 : Int) : Option (List UInt8 × Int × Unit)
  f31 (n : Nat) (a0 : Option Lk.DiskS) (a1 : List UInt8) : Option (Int × Option Lk.DiskS × Unit)
  f32 (n : Nat) (a0 : Option Lk.DiskS) (a1 : List UInt8) (a2 : List UInt8) : Option (Int × Option Lk.DiskS × Unit)
  f33 (n : Nat) (a0 : Option Lk.DiskS) (a1 : List UInt8) : Option (Int × Option Lk.DiskS × Unit)
  f34 (n : Nat) (a0 : Option Lk.DiskS) (a1 : Int) : Option (Int × Option Lk.DiskS × Unit)
  f30 (n : Nat) (a0 : List (UInt8)) : Option (List (UInt8) × Unit)
  f9 (n : Nat) (a0 : Option Lk.DiskS) (a1 : AbA) : Option (Int × Option Lk.DiskS × Unit)
  p9_8 (j n0 : Nat) (v0 : Option Lk.DiskS) (v5 : List (UInt8)) (v6 : Int) (v7 : Int) : Option (Int × Option Lk.DiskS × Unit)
  f13 (n : Nat) (a0 : Option Lk.DiskS) (a1 : List UInt8) : Option (List UInt8 × Unit)
  f3 (n : Nat) (a0 : Int) (a1 : List AbA) (a2 : List (Int)) : Option (Bool × Unit)
  p3_5 (j n0 : Nat) (v1 : List AbA) (v2 : List (Int)) (v7 : Option Lk.DiskS) (v9 : Int) : Option (Bool × Unit)
  p3_2058 (j n0 : Nat) (v2 : List (Int)) (v7 : Option Lk.DiskS) (v10 : Option Lk.DiskS) (v62 : Bool) : Option (Bool × Unit)
  p3_11 (j n0 : Nat) (v2 : List (Int)) (v7 : Option Lk.DiskS) (v10 : Option Lk.DiskS) : Option (Bool × Unit)
  p3_15 (j n0 n1 : Nat) (v2 : List (Int)) (v7 : Option Lk.DiskS) (v10 : Option Lk.DiskS) (v11 : List (List UInt8)) (v12 : List (List UInt8)) (v13 : Int) : Option (Bool × Unit)
  p3_2069 (j n0 n1 n2 : Nat) (v2 : List (Int)) (v7 : Option Lk.DiskS) (v10 : Option Lk.DiskS) (v11 : List (List UInt8)) (v12 : List (List UInt8)) (v13 : Int) (v15 : List UInt8) (v17 : Int) (v144 : Bool) : Option (Bool × Unit)
  p3_22 (j n0 n1 n2 : Nat) (v2 : List (Int)) (v7 : Option Lk.DiskS) (v10 : Option Lk.DiskS) (v11 : List (List UInt8)) (v12 : List (List UInt8)) (v13 : Int) (v15 : List UInt8) (v17 : Int) : Option (Bool × Unit)
  p3_2071 (j n0 n1 n2 n3 : Nat) (v2 : List (Int)) (v7 : Option Lk.DiskS) (v10 : Option Lk.DiskS) (v11 : List (List UInt8)) (v12 : List (List UInt8)) (v13 : Int) (v153 : Bool) : Option (Bool × Unit)
  p3_16 (j n0 n1 n2 : Nat) (v2 : List (Int)) (v7 : Option Lk.DiskS) (v10 : Option Lk.DiskS) (v11 : List (List UInt8)) (v12 : List (List UInt8)) (v13 : Int) : Option (Bool × Unit)
  f5 (n : Nat) (a0 : Int) (a1 : List AbA) : Option (Bool × Unit)
  p5_5 (j n0 : Nat) (v1 : List AbA) (v5 : Option Lk.DiskS) (v7 : Int) : Option (Bool × Unit)
  p5_2058 (j n0 n1 : Nat) (v1 : List AbA) (v5 : Option Lk.DiskS) (v7 : Int) (v8 : Option Lk.DiskS) (v9 : Int) (v53 : Bool) : Option (Bool × Unit)
  p5_2064 (j n0 : Nat) (v5 : Option Lk.DiskS) (v98 : Bool) : Option (Bool × Unit)
  p5_11 (j n0 n1 : Nat) (v1 : List AbA) (v5 : Option Lk.DiskS) (v7 : Int) (v8 : Option Lk.DiskS) (v9 : Int) : Option (Bool × Unit)
  p5_17 (j n0 : Nat) (v5 : Option Lk.DiskS) : Option (Bool × Unit)
  p5_2060 (j n0 n1 n2 : Nat) (v1 : List AbA) (v5 : Option Lk.DiskS) (v7 : Int) (v9 : Int) (v72 : Bool) : Option (Bool × Unit)
  p5_2067 (j n0 n1 : Nat) (v5 : Option Lk.DiskS) (v115 : Bool) : Option (Bool × Unit)
  p5_13 (j n0 n1 n2 : Nat) (v1 : List AbA) (v5 : Option Lk.DiskS) (v7 : Int) (v9 : Int) : Option (Bool × Unit)
  p5_20 (j n0 n1 : Nat) (v5 : Option Lk.DiskS) : Option (Bool × Unit)
  p5_2062 (j n0 n1 n2 n3 : Nat) (v1 : List AbA) (v5 : Option Lk.DiskS) (v7 : Int) (v89 : Bool) : Option (Bool × Unit)
  p5_6 (j n0 n1 : Nat) (v1 : List AbA) (v5 : Option Lk.DiskS) (v7 : Int) : Option (Bool × Unit)
  f8_eq (n : Nat) (a0 : Int) : f8 n a0 = Dk.xNew a0
  f10_eq (n : Nat) (a0 : Option Lk.DiskS) : f10 n a0 = Dk.xClone a0
  f11_eq (n : Nat) (a0 : Option Lk.DiskS) (a1 : List Int) : f11 n a0 a1 = Dk.xCrash a0 a1
  f12_eq (n : Nat) (a0 : Option Lk.DiskS) : f12 n a0 = Dk.xList a0
  f14_eq (n : Nat) (a0 : Option Lk.DiskS) (a1 : List UInt8) : f14 n a0 a1 = Dk.xSize a0 a1
  f15_eq (n : Nat) (a0 : Option Lk.DiskS) : f15 n a0 = Dk.xUsed a0
  f20_eq (n : Nat) (a0 : Option Lk.DiskS) (a1 : Option Lk.DiskS) : f20 n a0 a1 = Dk.xSame a0 a1
  f21_eq (n : Nat) (a0 : Option Lk.DiskS) : f21 n a0 = Dk.xRefused a0
  f22_eq (n : Nat) (a0 : Option Lk.DiskS) : f22 n a0 = Dk.xQuota a0
  f23_eq (n : Nat) (a0 : Option Lk.DiskS) (a1 : Int) (a2 : Int) : f23 n a0 a1 a2 = Dk.xRefuse a0 a1 a2
  f24_eq (n : Nat) (a0 : Option Lk.DiskS) (a1 : List UInt8) : f24 n a0 a1 = Dk.xCreate a0 a1
  f25_eq (n : Nat) (a0 : Option Lk.DiskS) (a1 : List UInt8) (a2 : List UInt8) : f25 n a0 a1 a2 = Dk.xAppend a0 a1 a2
  f26_eq (n : Nat) (a0 : Option Lk.DiskS) (a1 : List UInt8) (a2 : Int) (a3 : Int) : f26 n a0 a1 a2 a3 = Dk.xRead a0 a1 a2 a3
  f31_eq (n : Nat) (a0 : Option Lk.DiskS) (a1 : List UInt8) : f31 n a0 a1 = Dk.xSync a0 a1
  f32_eq (n : Nat) (a0 : Option Lk.DiskS) (a1 : List UInt8) (a2 : List UInt8) : f32 n a0 a1 a2 = Dk.xRename a0 a1 a2
  f33_eq (n : Nat) (a0 : Option Lk.DiskS) (a1 : List UInt8) : f33 n a0 a1 = Dk.xRemove a0 a1
  f34_eq (n : Nat) (a0 : Option Lk.DiskS) (a1 : Int) : f34 n a0 a1 = Dk.xSetQuota a0 a1
  f30_eq (n : Nat) (a0 : List (UInt8)) : f30 (n + 1) a0 = (sel (decide ((0 : Nat) + a0.length ≤ (1073741824 : Nat))) (sel (decide (List.length ([] ++ a0) + (1 : Nat) ≤ (1073741824 : Nat))) (sel (decide ((0 : Int) ≤ (↑a0.length : Int))) (sel (decide ((↑a0.length : Int) ≤ (↑(List.length ([] ++ a0 ++ [(90 : UInt8)])) : Int))) (some (Lk.ext ([] ++ a0 ++ [(90 : UInt8)]) (0 : Int) (↑a0.length : Int), ())) none) none) none) none)
  f9_eq (n : Nat) (a0 : Option Lk.DiskS) (a1 : AbA) : f9 (n + 1) a0 a1 = (sel ((some a1).isSome) (sel (((some a1).getD ((0 : Int), [], [], [], (0 : Int), (0 : Int), [], ())).fst == (0 : Int)) (sel ((some a1).isSome) (obind (f24 n a0 (((some a1).getD ((0 : Int), [], [], [], (0 : Int), (0 : Int), [], ())).snd.fst)) fun r111 => (some (r111.fst, r111.snd.fst, ()))) none) (sel (((some a1).getD ((0 : Int), [], [], [], (0 : Int), (0 : Int), [], ())).fst == (1 : Int)) (sel ((some a1).isSome) (obind (f30 n (((some a1).getD ((0 : Int), [], [], [], (0 : Int), (0 : Int), [], ())).snd.snd.snd.fst)) fun r191 => (sel ((some a1).isSome) (obind (f25 n a0 (((some a1).getD ((0 : Int), [], [], [], (0 : Int), (0 : Int), [], ())).snd.fst) (r191.fst)) fun r244 => (p9_8 n n (r244.snd.fst) (r191.fst) (r244.fst) ((0 : Int)))) none)) none) (sel (((some a1).getD ((0 : Int), [], [], [], (0 : Int), (0 : Int), [], ())).fst == (2 : Int)) (sel ((some a1).isSome) (obind (f31 n a0 (((some a1).getD ((0 : Int), [], [], [], (0 : Int), (0 : Int), [], ())).snd.fst)) fun r336 => (some (r336.fst, r336.snd.fst, ()))) none) (sel (((some a1).getD ((0 : Int), [], [], [], (0 : Int), (0 : Int), [], ())).fst == (3 : Int)) (sel ((some a1).isSome) (sel ((some a1).isSome) (obind (f32 n a0 (((some a1).getD ((0 : Int), [], [], [], (0 : Int), (0 : Int), [], ())).snd.fst) (((some a1).getD ((0 : Int), [], [], [], (0 : Int), (0 : Int), [], ())).snd.snd.fst)) fun r437 => (some (r437.fst, r437.snd.fst, ()))) none) none) (sel (((some a1).getD ((0 : Int), [], [], [], (0 : Int), (0 : Int), [], ())).fst == (4 : Int)) (sel ((some a1).isSome) (obind (f33 n a0 (((some a1).getD ((0 : Int), [], [], [], (0 : Int), (0 : Int), [], ())).snd.fst)) fun r524 => (some (r524.fst, r524.snd.fst, ()))) none) (sel (((some a1).getD ((0 : Int), [], [], [], (0 : Int), (0 : Int), [], ())).fst == (5 : Int)) (sel ((some a1).isSome) (obind (f34 n a0 (((some a1).getD ((0 : Int), [], [], [], (0 : Int), (0 : Int), [], ())).snd.snd.snd.snd.snd.fst)) fun r611 => (some (r611.fst, r611.snd.fst, ()))) none) (sel (((some a1).getD ((0 : Int), [], [], [], (0 : Int), (0 : Int), [], ())).fst == (6 : Int)) (sel ((some a1).isSome) (sel ((some a1).isSome) (obind (f23 n a0 (((some a1).getD ((0 : Int), [], [], [], (0 : Int), (0 : Int), [], ())).snd.snd.snd.snd.fst) (((some a1).getD ((0 : Int), [], [], [], (0 : Int), (0 : Int), [], ())).snd.snd.snd.snd.snd.fst)) fun r712 => (some (r712.fst, r712.snd.fst, ()))) none) none) (sel (((some a1).getD ((0 : Int), [], [], [], (0 : Int), (0 : Int), [], ())).fst == (7 : Int)) (sel ((some a1).isSome) (sel (decide ((0 : Nat) + List.length ((some a1).getD ((0 : Int), [], [], [], (0 : Int), (0 : Int), [], ())).snd.snd.snd.snd.snd.snd.fst ≤ (1073741824 : Nat))) (obind (f11 n a0 ([] ++ ((some a1).getD ((0 : Int), [], [], [], (0 : Int), (0 : Int), [], ())).snd.snd.snd.snd.snd.snd.fst)) fun r813 => (some (r813.fst, r813.snd.fst, ()))) none) none) (some ((0 : Int), a0, ())))))))))) none)
  p9_8_eq (j n0 : Nat) (v0 : Option Lk.DiskS) (v5 : List (UInt8)) (v6 : Int) (v7 : Int) : p9_8 (j + 1) n0 v0 v5 v6 v7 = (sel (decide (v7 < (↑v5.length : Int))) (sel (decide ((0 : Int) ≤ v7)) (sel (decide (v7 < (↑v5.length : Int))) (sel (decide ((0 : Int) ≤ v7)) (sel (decide (v7 < (↑v5.length : Int))) (p9_8 j n0 v0 (v5.set v7.toNat (UInt8.ofNat (Go.IntKind.u8.wrap ((↑(UInt8.toNat (v5.getD v7.toNat (0 : UInt8))) : Int) + (↑(UInt8.toNat (1 : UInt8)) : Int))).toNat)) v6 (Go.IntKind.i64.wrap (v7 + (1 : Int)))) none) none) none) none) (some (v6, v0, ())))
  f13_eq (n : Nat) (a0 : Option Lk.DiskS) (a1 : List UInt8) : f13 (n + 1) a0 a1 = (obind (f14 n a0 a1) fun r47 => (obind (f26 n a0 a1 ((0 : Int)) (r47.fst)) fun r135 => (some (r135.fst, ()))))
  f3_eq (n : Nat) (a0 : Int) (a1 : List AbA) (a2 : List (Int)) : f3 (n + 1) a0 a1 a2 = (obind (f8 n a0) fun r40 => (sel (Option.isNone r40.fst) (sel (r40.snd.fst == (2 : Int)) (sel (decide (a0 < (0 : Int))) (some (true, ())) (some (decide (a0 > (268435456 : Int)), ()))) (some (false, ()))) (p3_5 n n a1 a2 (r40.fst) ((0 : Int)))))
  p3_5_eq (j n0 : Nat) (v1 : List AbA) (v2 : List (Int)) (v7 : Option Lk.DiskS) (v9 : Int) : p3_5 (j + 1) n0 v1 v2 v7 v9 = (sel (decide (v9 < (↑v1.length : Int))) (sel (decide ((0 : Int) ≤ v9)) (sel (decide (v9 < (↑v1.length : Int))) (obind (f9 j v7 (v1.getD v9.toNat ((0 : Int), [], [], [], (0 : Int), (0 : Int), [], ()))) fun r490 => (p3_5 j n0 v1 v2 (r490.snd.fst) (Go.IntKind.i64.wrap (v9 + (1 : Int))))) none) none) (obind (f10 n0 v7) fun r557 => (sel (Option.isNone r557.fst) (p3_2058 n0 n0 v2 v7 (r557.fst) true) (sel (decide ((0 : Nat) + v2.length ≤ (1073741824 : Nat))) (obind (f11 n0 v7 ([] ++ v2)) fun r725 => (p3_2058 n0 n0 v2 (r725.snd.fst) (r557.fst) (r725.fst != (0 : Int)))) none))))
  p3_2058_eq (j n0 : Nat) (v2 : List (Int)) (v7 : Option Lk.DiskS) (v10 : Option Lk.DiskS) (v62 : Bool) : p3_2058 (j + 1) n0 v2 v7 v10 v62 = (sel v62 (some (false, ())) (p3_11 n0 n0 v2 v7 v10))
  p3_11_eq (j n0 : Nat) (v2 : List (Int)) (v7 : Option Lk.DiskS) (v10 : Option Lk.DiskS) : p3_11 (j + 1) n0 v2 v7 v10 = (obind (f12 j v10) fun r812 => (obind (f12 j v7) fun r829 => (sel ((↑(List.length r812.fst) : Int) != (↑(List.length r829.fst) : Int)) (some (false, ())) (p3_15 j n0 j v2 v7 v10 (r812.fst) (r829.fst) ((0 : Int))))))
  p3_15_eq (j n0 n1 : Nat) (v2 : List (Int)) (v7 : Option Lk.DiskS) (v10 : Option Lk.DiskS) (v11 : List (List UInt8)) (v12 : List (List UInt8)) (v13 : Int) : p3_15 (j + 1) n0 n1 v2 v7 v10 v11 v12 v13 = (sel (decide (v13 < (↑v11.length : Int))) (sel (decide ((0 : Int) ≤ v13)) (sel (decide (v13 < (↑v11.length : Int))) (obind (f13 j v10 (v11.getD v13.toNat [])) fun r1049 => (sel (decide ((0 : Int) ≤ v13)) (sel (decide (v13 < (↑v11.length : Int))) (obind (f13 j v7 (v11.getD v13.toNat [])) fun r1095 => (sel (decide ((0 : Int) ≤ v13)) (sel (decide (v13 < (↑v11.length : Int))) (obind (f14 j v10 (v11.getD v13.toNat [])) fun r1161 => (sel (decide ((0 : Int) ≤ v13)) (sel (decide (v13 < (↑v11.length : Int))) (obind (f14 j v7 (v11.getD v13.toNat [])) fun r1263 => (sel (decide ((0 : Int) ≤ v13)) (sel (decide (v13 < (↑v11.length : Int))) (sel (decide ((0 : Int) ≤ v13)) (sel (decide (v13 < (↑v12.length : Int))) (sel (!v11.getD v13.toNat [] == v12.getD v13.toNat []) (p3_2069 j n0 n1 j v2 v7 v10 v11 v12 v13 (r1095.fst) (r1161.snd.fst) true) (sel (decide ((↑(List.length r1095.fst) : Int) < r1161.snd.fst)) (p3_2069 j n0 n1 j v2 v7 v10 v11 v12 v13 (r1095.fst) (r1161.snd.fst) true) (sel (decide ((↑(List.length r1095.fst) : Int) > (↑(List.length r1049.fst) : Int))) (p3_2069 j n0 n1 j v2 v7 v10 v11 v12 v13 (r1095.fst) (r1161.snd.fst) true) (sel (decide ((0 : Int) ≤ (↑(List.length r1095.fst) : Int))) (sel (decide ((↑(List.length r1095.fst) : Int) ≤ (↑(List.length r1049.fst) : Int))) (sel (!Lk.ext r1049.fst (0 : Int) (↑(List.length r1095.fst) : Int) == r1095.fst) (p3_2069 j n0 n1 j v2 v7 v10 v11 v12 v13 (r1095.fst) (r1161.snd.fst) true) (p3_2069 j n0 n1 j v2 v7 v10 v11 v12 v13 (r1095.fst) (r1161.snd.fst) (r1263.fst != r1263.snd.fst))) none) none)))) none) none) none) none)) none) none)) none) none)) none) none)) none) none) (obind (f11 n1 v7 ([])) fun r2247 => (sel (r2247.fst == (0 : Int)) (obind (f15 n1 (r2247.snd.fst)) fun r2290 => (obind (f15 n1 v10) fun r2319 => (some (decide (r2290.fst ≤ r2319.fst), ())))) (some (false, ())))))
  p3_2069_eq (j n0 n1 n2 : Nat) (v2 : List (Int)) (v7 : Option Lk.DiskS) (v10 : Option Lk.DiskS) (v11 : List (List UInt8)) (v12 : List (List UInt8)) (v13 : Int) (v15 : List UInt8) (v17 : Int) (v144 : Bool) : p3_2069 (j + 1) n0 n1 n2 v2 v7 v10 v11 v12 v13 v15 v17 v144 = (sel v144 (some (false, ())) (p3_22 n2 n0 n1 n2 v2 v7 v10 v11 v12 v13 v15 v17))
  p3_22_eq (j n0 n1 n2 : Nat) (v2 : List (Int)) (v7 : Option Lk.DiskS) (v10 : Option Lk.DiskS) (v11 : List (List UInt8)) (v12 : List (List UInt8)) (v13 : Int) (v15 : List UInt8) (v17 : Int) : p3_22 (j + 1) n0 n1 n2 v2 v7 v10 v11 v12 v13 v15 v17 = (sel ((↑v2.length : Int) == (0 : Int)) (p3_2071 j n0 n1 n2 j v2 v7 v10 v11 v12 v13 ((↑v15.length : Int) != v17)) (p3_2071 j n0 n1 n2 j v2 v7 v10 v11 v12 v13 false))
  p3_2071_eq (j n0 n1 n2 n3 : Nat) (v2 : List (Int)) (v7 : Option Lk.DiskS) (v10 : Option Lk.DiskS) (v11 : List (List UInt8)) (v12 : List (List UInt8)) (v13 : Int) (v153 : Bool) : p3_2071 (j + 1) n0 n1 n2 n3 v2 v7 v10 v11 v12 v13 v153 = (sel v153 (some (false, ())) (p3_16 n2 n0 n1 n2 v2 v7 v10 v11 v12 v13))
  p3_16_eq (j n0 n1 n2 : Nat) (v2 : List (Int)) (v7 : Option Lk.DiskS) (v10 : Option Lk.DiskS) (v11 : List (List UInt8)) (v12 : List (List UInt8)) (v13 : Int) : p3_16 (j + 1) n0 n1 n2 v2 v7 v10 v11 v12 v13 = (p3_15 n2 n0 n1 v2 v7 v10 v11 v12 (Go.IntKind.i64.wrap (v13 + (1 : Int))))
  f5_eq (n : Nat) (a0 : Int) (a1 : List AbA) : f5 (n + 1) a0 a1 = (obind (f8 n a0) fun r40 => (sel (Option.isNone r40.fst) (sel (decide (a0 < (0 : Int))) (some (true, ())) (some (decide (a0 > (268435456 : Int)), ()))) (p5_5 n n a1 (r40.fst) ((0 : Int)))))
  p5_5_eq (j n0 : Nat) (v1 : List AbA) (v5 : Option Lk.DiskS) (v7 : Int) : p5_5 (j + 1) n0 v1 v5 v7 = (sel (decide (v7 < (↑v1.length : Int))) (obind (f10 j v5) fun r324 => (sel (decide ((0 : Int) ≤ v7)) (sel (decide (v7 < (↑v1.length : Int))) (obind (f9 j v5 (v1.getD v7.toNat ((0 : Int), [], [], [], (0 : Int), (0 : Int), [], ()))) fun r384 => (sel (r384.fst == (52 : Int)) (obind (f20 j (r384.snd.fst) (r324.fst)) fun r463 => (sel (!r463.fst) (p5_2058 j n0 j v1 (r384.snd.fst) v7 (r324.fst) (r384.fst) true) (obind (f21 j (r384.snd.fst)) fun r594 => (obind (f21 j (r324.fst)) fun r623 => (p5_2058 j n0 j v1 (r384.snd.fst) v7 (r324.fst) (r384.fst) (r594.fst != Go.IntKind.i64.wrap (r623.fst + (1 : Int)))))))) (p5_2058 j n0 j v1 (r384.snd.fst) v7 (r324.fst) (r384.fst) false))) none) none)) (obind (f23 n0 v5 ((0 : Int)) ((0 : Int))) fun r806 => (sel (r806.fst != (0 : Int)) (p5_2064 n0 n0 (r806.snd.fst) true) (obind (f12 n0 (r806.snd.fst)) fun r892 => (p5_2064 n0 n0 (r806.snd.fst) (decide ((↑(List.length r892.fst) : Int) ≥ (4096 : Int))))))))
  p5_2058_eq (j n0 n1 : Nat) (v1 : List AbA) (v5 : Option Lk.DiskS) (v7 : Int) (v8 : Option Lk.DiskS) (v9 : Int) (v53 : Bool) : p5_2058 (j + 1) n0 n1 v1 v5 v7 v8 v9 v53 = (sel v53 (some (false, ())) (p5_11 n1 n0 n1 v1 v5 v7 v8 v9))
  p5_2064_eq (j n0 : Nat) (v5 : Option Lk.DiskS) (v98 : Bool) : p5_2064 (j + 1) n0 v5 v98 = (sel v98 (obind (f12 j v5) fun r1006 => (some (decide ((↑(List.length r1006.fst) : Int) ≤ (4096 : Int)), ()))) (p5_17 n0 n0 v5))
  p5_11_eq (j n0 n1 : Nat) (v1 : List AbA) (v5 : Option Lk.DiskS) (v7 : Int) (v8 : Option Lk.DiskS) (v9 : Int) : p5_11 (j + 1) n0 n1 v1 v5 v7 v8 v9 = (sel (v9 != (52 : Int)) (obind (f21 j v5) fun r1106 => (obind (f21 j v8) fun r1135 => (sel (r1106.fst != r1135.fst) (p5_2060 j n0 n1 j v1 v5 v7 v9 true) (sel (v9 != (0 : Int)) (obind (f20 j v5 v8) fun r1310 => (p5_2060 j n0 n1 j v1 v5 v7 v9 (!r1310.fst))) (p5_2060 j n0 n1 j v1 v5 v7 v9 false))))) (sel (v9 != (0 : Int)) (obind (f20 j v5 v8) fun r1540 => (p5_2060 j n0 n1 j v1 v5 v7 v9 (!r1540.fst))) (p5_2060 j n0 n1 j v1 v5 v7 v9 false)))
  p5_17_eq (j n0 : Nat) (v5 : Option Lk.DiskS) : p5_17 (j + 1) n0 v5 = (obind (f24 j v5 ([(97 : UInt8), (32 : UInt8), (102 : UInt8), (105 : UInt8), (108 : UInt8), (101 : UInt8), (32 : UInt8), (116 : UInt8), (104 : UInt8), (97 : UInt8), (116 : UInt8), (32 : UInt8), (110 : UInt8), (111 : UInt8), (98 : UInt8), (111 : UInt8), (100 : UInt8), (121 : UInt8), (32 : UInt8), (110 : UInt8), (97 : UInt8), (109 : UInt8), (101 : UInt8), (100 : UInt8)])) fun r1657 => (sel (r1657.fst != (0 : Int)) (sel (r1657.fst != (50 : Int)) (p5_2067 j n0 j (r1657.snd.fst) true) (obind (f23 j (r1657.snd.fst) ((0 : Int)) ((1 : Int))) fun r1796 => (p5_2067 j n0 j (r1796.snd.fst) (r1796.fst != (0 : Int))))) (obind (f23 j (r1657.snd.fst) ((0 : Int)) ((1 : Int))) fun r1875 => (p5_2067 j n0 j (r1875.snd.fst) (r1875.fst != (0 : Int))))))
  p5_2060_eq (j n0 n1 n2 : Nat) (v1 : List AbA) (v5 : Option Lk.DiskS) (v7 : Int) (v9 : Int) (v72 : Bool) : p5_2060 (j + 1) n0 n1 n2 v1 v5 v7 v9 v72 = (sel v72 (some (false, ())) (p5_13 n2 n0 n1 n2 v1 v5 v7 v9))
  p5_2067_eq (j n0 n1 : Nat) (v5 : Option Lk.DiskS) (v115 : Bool) : p5_2067 (j + 1) n0 n1 v5 v115 = (sel v115 (some (false, ())) (p5_20 n1 n0 n1 v5))
  p5_13_eq (j n0 n1 n2 : Nat) (v1 : List AbA) (v5 : Option Lk.DiskS) (v7 : Int) (v9 : Int) : p5_13 (j + 1) n0 n1 n2 v1 v5 v7 v9 = (sel (decide ((0 : Int) ≤ v7)) (sel (decide (v7 < (↑v1.length : Int))) (sel ((v1.getD v7.toNat ((0 : Int), [], [], [], (0 : Int), (0 : Int), [], ())).fst == (1 : Int)) (sel (v9 == (0 : Int)) (obind (f15 j v5) fun r2112 => (obind (f22 j v5) fun r2141 => (p5_2062 j n0 n1 n2 j v1 v5 v7 (decide (r2112.fst > r2141.fst))))) (p5_2062 j n0 n1 n2 j v1 v5 v7 false)) (p5_2062 j n0 n1 n2 j v1 v5 v7 false)) none) none)
  p5_20_eq (j n0 n1 : Nat) (v5 : Option Lk.DiskS) : p5_20 (j + 1) n0 n1 v5 = (obind (f25 j v5 ([(97 : UInt8), (32 : UInt8), (102 : UInt8), (105 : UInt8), (108 : UInt8), (101 : UInt8), (32 : UInt8), (116 : UInt8), (104 : UInt8), (97 : UInt8), (116 : UInt8), (32 : UInt8), (110 : UInt8), (111 : UInt8), (98 : UInt8), (111 : UInt8), (100 : UInt8), (121 : UInt8), (32 : UInt8), (110 : UInt8), (97 : UInt8), (109 : UInt8), (101 : UInt8), (100 : UInt8)]) ([])) fun r2329 => (some (r2329.fst == (52 : Int), ())))
  p5_2062_eq (j n0 n1 n2 n3 : Nat) (v1 : List AbA) (v5 : Option Lk.DiskS) (v7 : Int) (v89 : Bool) : p5_2062 (j + 1) n0 n1 n2 n3 v1 v5 v7 v89 = (sel v89 (some (false, ())) (p5_6 n1 n0 n1 v1 v5 v7))
  p5_6_eq (j n0 n1 : Nat) (v1 : List AbA) (v5 : Option Lk.DiskS) (v7 : Int) : p5_6 (j + 1) n0 n1 v1 v5 v7 = (p5_5 n1 n0 v1 v5 (Go.IntKind.i64.wrap (v7 + (1 : Int))))
end Dk

/-! The laws of the disk: what is done to a disk. -/
namespace Dk
open Go Lk

theorem sel_ite {α : Type} (c : Bool) (x y : α) : sel c x y = if c = true then x else y := by cases c <;> rfl

abbrev A := Int × (List UInt8 × (List UInt8 × (List UInt8 × (Int × (Int × (List Int × Unit))))))

def act (d : DiskS) (a : A) : Int × DiskS :=
  if a.1 = 0 then create d a.2.1 else if a.1 = 1 then append d a.2.1 a.2.2.2.1 else if a.1 = 2 then sync d a.2.1 else
  if a.1 = 3 then rename d a.2.1 a.2.2.1 else if a.1 = 4 then remove d a.2.1 else if a.1 = 5 then setQuota d a.2.2.2.2.2.1 else
  if a.1 = 6 then refuse d a.2.2.2.2.1 a.2.2.2.2.2.1 else if a.1 = 7 then crash d a.2.2.2.2.2.2.1 else (0, d)

def Fine (a : A) : Prop := a.2.2.2.1.length ≤ 1048576 ∧ a.2.2.2.2.2.2.1.length ≤ 1048576 ∧ a.2.2.2.2.1 ≤ 9223372036854775807 ∧ a.2.2.2.2.2.1 ≤ 9223372036854775807

theorem Good.act {d : DiskS} (h : Good d) {a : A} (ha : Fine a) : Good (act d a).2 := by
  unfold Dk.act
  split; · exact h.create _
  split; · exact h.append _ _
  split; · exact h.sync _
  split; · exact h.rename _ _
  split; · exact h.remove _
  split; · exact h.setQuota _
  split; · exact h.refuse _ _ ha.2.2.1 ha.2.2.2
  split; · exact h.crash _
  exact h

section
variable (X : FnsD)

theorem e30 (n : Nat) (b : List UInt8) (hb : b.length ≤ 1048576) : X.f30 (n + 1) b = some (b, ()) := by
  rw [X.f30_eq]
  simp only [sel_ite, decide_eq_true_eq, List.nil_append, List.length_append, List.length_cons, List.length_nil, Nat.zero_add]
  rw [if_pos (by omega), if_pos (by omega), if_pos (by omega), if_pos (by omega)]
  simp [Lk.ext, win]

theorem e9l (N : Nat) : ∀ (k j n0 : Nat) (d : Option DiskS) (v : List UInt8) (e : Int), v.length = k + N → v.length ≤ 1048576 → X.p9_8 (j + N + 1) n0 d v e (k : Int) = some (e, d, ()) := by
  induction N with
  | zero =>
    intro k j n0 d v e h _
    rw [X.p9_8_eq, sel_ite, if_neg]
    simp; omega
  | succ N ih =>
    intro k j n0 d v e h hb
    rw [show j + (N + 1) + 1 = (j + N + 1) + 1 by omega, X.p9_8_eq]
    simp only [sel_ite, decide_eq_true_eq]
    rw [if_pos (by omega), if_pos (by omega), if_pos (by omega), if_pos (by omega), if_pos (by omega), wrap64 (by omega) (by omega)]
    have := ih (k + 1) j n0 d (v.set (k : Int).toNat (UInt8.ofNat (Go.IntKind.u8.wrap ((↑(UInt8.toNat (v.getD (k : Int).toNat (0 : UInt8))) : Int) + (↑(UInt8.toNat (1 : UInt8)) : Int))).toNat)) e (by simp; omega) (by simpa using hb)
    simpa using this

theorem e9 (n : Nat) (d : DiskS) (a : A) (ha : Fine a) (hn : 1048600 ≤ n) : X.f9 n (some d) a = some ((act d a).1, some (act d a).2, ()) := by
  obtain ⟨m, rfl⟩ : ∃ m, n = m + a.2.2.2.1.length + 10 := ⟨n - a.2.2.2.1.length - 10, by have := ha.1; omega⟩
  have hB := ha.1
  have hK := ha.2.1
  rw [show m + a.2.2.2.1.length + 10 = (m + a.2.2.2.1.length + 9) + 1 from rfl, X.f9_eq]
  simp only [Option.isSome_some, Option.getD_some, sel_t, sel_ite, beq_iff_eq, decide_eq_true_eq]
  have f30 := e30 X (m + a.2.2.2.1.length + 8) a.2.2.2.1 hB
  rw [show m + a.2.2.2.1.length + 8 + 1 = m + a.2.2.2.1.length + 9 from rfl] at f30
  unfold act
  by_cases h0 : a.1 = 0
  · rw [if_pos h0, if_pos h0, X.f24_eq]; rfl
  rw [if_neg h0, if_neg h0]
  by_cases h1 : a.1 = 1
  · rw [if_pos h1, if_pos h1, f30, ob_some, X.f25_eq]
    simp only [xAppend, Option.bind_some, turned, ob_some]
    have := e9l X a.2.2.2.1.length 0 (m + 8) (m + a.2.2.2.1.length + 9) (some (append d a.2.1 a.2.2.2.1).2) a.2.2.2.1 (append d a.2.1 a.2.2.2.1).1 (by omega) hB
    rw [show m + 8 + a.2.2.2.1.length + 1 = m + a.2.2.2.1.length + 9 by omega] at this
    exact this
  rw [if_neg h1, if_neg h1]
  by_cases h2 : a.1 = 2
  · rw [if_pos h2, if_pos h2, X.f31_eq]; rfl
  rw [if_neg h2, if_neg h2]
  by_cases h3 : a.1 = 3
  · rw [if_pos h3, if_pos h3, X.f32_eq]; rfl
  rw [if_neg h3, if_neg h3]
  by_cases h4 : a.1 = 4
  · rw [if_pos h4, if_pos h4, X.f33_eq]; rfl
  rw [if_neg h4, if_neg h4]
  by_cases h5 : a.1 = 5
  · rw [if_pos h5, if_pos h5, X.f34_eq]; rfl
  rw [if_neg h5, if_neg h5]
  by_cases h6 : a.1 = 6
  · rw [if_pos h6, if_pos h6, X.f23_eq]; rfl
  rw [if_neg h6, if_neg h6]
  by_cases h7 : a.1 = 7
  · rw [if_pos h7, if_pos h7, if_pos trivial, if_pos (show 0 + a.2.2.2.2.2.2.1.length ≤ 1073741824 by omega), X.f11_eq]
    rfl
  rw [if_neg h7, if_neg h7]
  rfl
end
end Dk

/-! DiskLasts: the plain law. -/
namespace Dk
open Go Lk

theorem look_at : ∀ {l : List DFile} (_ : Sorted l) {i : Nat} {f : DFile}, l[i]? = some f → look l f.name = some f
  | [], _, i, f, h => by simp at h
  | g :: l, hs, 0, f, h => by
    simp only [List.getElem?_cons_zero, Option.some.injEq] at h
    subst h
    rw [look_cons, if_pos rfl]
  | g :: l, hs, i + 1, f, h => by
    simp only [List.getElem?_cons_succ] at h
    rw [look_cons, if_neg, look_at hs.of_cons h]
    exact (List.pairwise_cons.1 hs.unlike).1 f (List.mem_of_getElem? h)

theorem size_at {d : DiskS} (h : Good d) {i : Nat} {f : DFile} (hf : d.files[i]? = some f) : size d f.name = ((f.bytes.length : Int), f.synced, 0) := by
  unfold size
  rw [if_pos (h.name f (List.mem_of_getElem? hf)), look_at h.sorted hf]

theorem read_at {d : DiskS} (h : Good d) {i : Nat} {f : DFile} (hf : d.files[i]? = some f) : read d f.name 0 f.bytes.length = (f.bytes, 0) := by
  unfold read
  rw [if_pos (h.name f (List.mem_of_getElem? hf)), look_at h.sorted hf]
  simp only
  rw [if_neg (by omega)]
  simp

theorem crashGo_at (keep : List Int) : ∀ (l : List DFile) (i k : Nat), (crashGo keep i l)[k]? = (l[k]?).map fun f => left f (keepAt keep (i + k))
  | [], _, _ => rfl
  | f :: l, i, 0 => rfl
  | f :: l, i, k + 1 => by
    simp only [crashGo, List.getElem?_cons_succ, crashGo_at keep l (i + 1) k]
    rw [show i + 1 + k = i + (k + 1) by omega]

section
variable (X : FnsD)

theorem e13 (n : Nat) {d : DiskS} (h : Good d) {i : Nat} {f : DFile} (hf : d.files[i]? = some f) (hn : 1 ≤ n) : X.f13 n (some d) f.name = some (f.bytes, ()) := by
  obtain ⟨m, rfl⟩ : ∃ m, n = m + 1 := ⟨n - 1, by omega⟩
  rw [X.f13_eq, X.f14_eq]
  simp only [xSize, Option.bind_some, ob_some, size_at h hf]
  rw [X.f26_eq]
  simp only [xRead, Option.bind_some, ob_some, read_at h hf]

theorem e14 (n : Nat) {d : DiskS} (h : Good d) {i : Nat} {f : DFile} (hf : d.files[i]? = some f) : X.f14 n (some d) f.name = some ((f.bytes.length : Int), f.synced, 0, ()) := by
  rw [X.f14_eq]
  simp only [xSize, Option.bind_some, size_at h hf]

theorem names_at {d : DiskS} {i : Nat} {f : DFile} (hf : d.files[i]? = some f) : (list d).getD ((i : Int).toNat) [] = f.name := by
  unfold list
  simp [List.getD_eq_getElem?_getD, hf]

theorem p3_15 (keep : List Int) (d : DiskS) (h : Good d) (n0 n1 : Nat) : ∀ (m k j : Nat), k + m = d.files.length → m + 10 ≤ j →
    X.p3_15 j n0 n1 keep (some (crash d keep).2) (some d) (list d) (list (crash d keep).2) (k : Int) = some (true, ()) := by
  have hc := h.crash keep
  have hcf : (crash d keep).2.files = crashGo keep 0 d.files := rfl
  have hl : (list d).length = d.files.length := by simp [list]
  have hl2 : (list (crash d keep).2).length = d.files.length := by
    have := congrArg List.length (crashGo_names keep d.files 0)
    simpa [list, hcf] using this
  have hmany := h.many
  intro m
  induction m with
  | zero =>
    intro k j hk hj
    obtain ⟨j, rfl⟩ : ∃ i, j = i + 1 := ⟨j - 1, by omega⟩
    rw [X.p3_15_eq, sel_ite, if_neg (by simp; omega), X.f11_eq]
    simp only [xCrash, Option.bind_some, turned, ob_some]
    rw [sel_ite, if_pos (by simp [crash]), X.f15_eq, X.f15_eq]
    simp only [xUsed, Option.bind_some, ob_some]
    have h1 := total_crashGo [] (crashGo keep 0 d.files) 0
    have h2 := total_crashGo keep d.files 0
    have h3 := h.used
    have : (crash (crash d keep).2 []).2.used ≤ d.used := by
      show total (crashGo [] 0 (crashGo keep 0 d.files)) ≤ _
      omega
    simp [this]
  | succ m ih =>
    intro k j hk hj
    obtain ⟨j, rfl⟩ : ∃ i, j = i + 3 := ⟨j - 3, by omega⟩
    have hlt : k < d.files.length := by omega
    have hf : d.files[k]? = some d.files[k] := List.getElem?_eq_getElem hlt
    generalize hfe : d.files[k] = f at hf
    have hg : (crash d keep).2.files[k]? = some (left f (keepAt keep k)) := by
      rw [hcf, crashGo_at, hf]; simp
    generalize hge : left f (keepAt keep k) = g at hg
    have hgn : g.name = f.name := by rw [← hge]; rfl
    have hs := h.synced f (List.mem_of_getElem? hf)
    have hgs : (g.bytes.length : Int) = g.synced := by
      rw [← hge]; unfold left; simp only [List.length_take]; omega
    have hgl : f.synced ≤ g.bytes.length ∧ g.bytes.length ≤ f.bytes.length := by
      rw [← hge]; unfold left; simp only [List.length_take]; omega
    have hgb : Lk.ext f.bytes 0 (g.bytes.length : Int) = g.bytes := by
      rw [← hge]
      unfold left Lk.ext win
      simp only [List.length_take]
      simp
    have hg0 : keep = [] → (g.bytes.length : Int) = f.synced := by
      intro e
      rw [← hge, e]; unfold left keepAt; simp only [List.length_take, if_true]; omega
    have a1 := names_at hf
    have a2 := names_at hg
    rw [hgn] at a2
    have b1 := e13 X (j + 2) h hf (by omega)
    have b2 := e13 X (j + 2) hc hg (by omega)
    have b3 := e14 X (j + 2) h hf
    have b4 := e14 X (j + 2) hc hg
    rw [hgn] at b2 b4
    have step : X.p3_16 (j + 2) n0 n1 (j + 2) keep (some (crash d keep).2) (some d) (list d) (list (crash d keep).2) k = some (true, ()) := by
      rw [X.p3_16_eq, wrap64 (by omega) (by omega)]
      have := ih (k + 1) (j + 2) (by omega) (by omega)
      simpa using this
    have s2071 : X.p3_2071 (j + 1) n0 n1 (j + 2) (j + 1) keep (some (crash d keep).2) (some d) (list d) (list (crash d keep).2) k false = some (true, ()) := by
      rw [X.p3_2071_eq, sel_f]; exact step
    have s22 : X.p3_22 (j + 2) n0 n1 (j + 2) keep (some (crash d keep).2) (some d) (list d) (list (crash d keep).2) k g.bytes f.synced = some (true, ()) := by
      rw [X.p3_22_eq, sel_ite]
      split
      · rename_i h0
        have hk0 : keep = [] := by simpa using h0
        rw [show ((g.bytes.length : Int) != f.synced) = false by simp [hg0 hk0]]
        exact s2071
      · exact s2071
    rw [X.p3_15_eq]
    simp only [sel_ite, decide_eq_true_eq]
    rw [if_pos (by rw [hl]; omega), if_pos (by omega), if_pos (by rw [hl]; omega), a1, b1, ob_some, if_pos (by omega), if_pos (by rw [hl]; omega), b2, ob_some, if_pos (by omega), if_pos (by rw [hl]; omega), b3, ob_some,
      if_pos (by omega), if_pos (by rw [hl]; omega), b4, ob_some, if_pos (by omega), if_pos (by rw [hl]; omega), if_pos (by omega), if_pos (by rw [hl2]; omega), a2]
    rw [if_neg (by simp), if_neg (by simp only; omega), if_neg (by simp only; omega), if_pos (by simp only; omega), if_pos (by simp only; omega), if_neg (by simp [hgb])]
    simp only [hgs, bne_self_eq_false]
    rw [X.p3_2069_eq, sel_f]
    exact s22

theorem p3_5 (keep : List Int) (hk : keep.length ≤ 1048576) (acts : List A) (ha : ∀ a ∈ acts, Fine a) (hb : acts.length ≤ 1048576) : ∀ (m k j n0 : Nat) (d : DiskS), Good d → k + m = acts.length → m + 1048700 ≤ j → 8000 ≤ n0 →
    X.p3_5 j n0 acts keep (some d) (k : Int) = some (true, ()) := by
  intro m
  induction m with
  | zero =>
    intro k j n0 d hd hkm hj hn
    obtain ⟨j, rfl⟩ : ∃ i, j = i + 1 := ⟨j - 1, by omega⟩
    obtain ⟨n, rfl⟩ : ∃ i, n0 = i + 1 := ⟨n0 - 1, by omega⟩
    rw [X.p3_5_eq, sel_ite, if_neg (by simp; omega), X.f10_eq]
    simp only [xClone, Option.bind_some, ob_some, Option.isNone_some, sel_f]
    rw [sel_ite, if_pos (by simp; omega), X.f11_eq]
    simp only [xCrash, Option.bind_some, turned, ob_some, List.nil_append]
    have e0 : ((crash d keep).1 != 0) = false := by simp [crash]
    rw [e0, X.p3_2058_eq, sel_f]
    rw [X.p3_11_eq, X.f12_eq, X.f12_eq]
    simp only [xList, Option.bind_some, ob_some]
    have hl : (list d).length = (list (crash d keep).2).length := by
      have := congrArg List.length (crashGo_names keep d.files 0)
      simpa [list, crash] using this.symm
    have hm := hd.many
    rw [sel_ite, if_neg (by simp [hl])]
    have := p3_15 X keep d hd (n + 1) n d.files.length 0 n (by omega) (by omega)
    simpa using this
  | succ m ih =>
    intro k j n0 d hd hkm hj hn
    obtain ⟨j, rfl⟩ : ∃ i, j = i + 1 := ⟨j - 1, by omega⟩
    have hlt : k < acts.length := by omega
    have hf : acts[k]? = some acts[k] := List.getElem?_eq_getElem hlt
    have hfine := ha _ (List.getElem_mem hlt)
    generalize acts[k] = a at hf hfine
    have a1 : acts.getD ((k : Int).toNat) (0, [], [], [], 0, 0, [], ()) = a := by
      simp [List.getD_eq_getElem?_getD, hf]
    rw [X.p3_5_eq]
    simp only [sel_ite, decide_eq_true_eq]
    rw [if_pos (by omega), if_pos (by omega), if_pos (by omega), a1, e9 X j d a hfine (by omega), ob_some, wrap64 (by omega) (by omega)]
    have := ih (k + 1) j n0 (act d a).2 (hd.act hfine) (by omega) (by omega) hn
    simpa using this

theorem e3 (q : Int) (acts : List A) (keep : List Int) (ha : ∀ a ∈ acts, Fine a) (hb : acts.length ≤ 1048576) (hk : keep.length ≤ 1048576) : X.f3 3000000 q acts keep = some (true, ()) := by
  rw [show (3000000 : Nat) = 2999999 + 1 from rfl, X.f3_eq, X.f8_eq]
  simp only [xNew, ob_some, sel_ite]
  by_cases h : 0 ≤ q ∧ q ≤ 268435456
  · rw [if_pos h, if_neg (by simp)]
    have := p3_5 X keep hk acts ha hb acts.length 0 2999999 2999999 ⟨[], q, 0, 0, 0, 0⟩ (Good.new h) (by omega) (by omega) (by omega)
    simpa using this
  · rw [if_neg h, if_neg h, if_pos (by simp), if_pos (by simp)]
    split
    · rfl
    · rename_i h1
      simp only [decide_eq_true_eq] at h1
      have : q > 268435456 := by omega
      simp [this]
end
end Dk

namespace Dk
open Go Lk
set_option linter.unusedVariables false

structure FnsP extends FnsD where
  f16 (n : Nat) (a0 : Int) : Option (Option AbR × Int × Unit)
  p16_2050 (j n0 : Nat) (v0 : Int) (v9 : Bool) : Option (Option AbR × Int × Unit)
  p16_3 (j n0 : Nat) (v0 : Int) : Option (Option AbR × Int × Unit)
  f17 (n : Nat) : Option (Bool × Unit)
  f58 (n : Nat) (a0 : List UInt8) : Option (Bool × Unit)
  f59 (n : Nat) (a0 : Option AbR) (a1 : List UInt8) : Option (Int × Bool × Unit)
  p59_2 (j n0 : Nat) (v0 : Option AbR) (v1 : List UInt8) (v6 : Int) : Option (Int × Bool × Unit)
  p59_3 (j n0 n1 : Nat) (v0 : Option AbR) (v1 : List UInt8) (v6 : Int) : Option (Int × Bool × Unit)
  p59_4 (j n0 : Nat) (v0 : Option AbR) (v1 : List UInt8) (v6 : Int) : Option (Int × Bool × Unit)
  f60 (n : Nat) (a0 : Option AbR) (a1 : Bool) : Option (Bool × Option AbR × Unit)
  p60_7 (j n0 : Nat) (v0 : Option AbR) (v5 : Bool) : Option (Bool × Option AbR × Unit)
  p60_9 (j n0 n1 : Nat) (v0 : Option AbR) (v5 : Bool) : Option (Bool × Option AbR × Unit)
  f61 (n : Nat) (a0 : Option AbR) (a1 : Int) : Option (Option AbR × Unit)
  f48 (n : Nat) (a0 : Option AbR) : Option (Int × Unit)
  p48_3 (j n0 : Nat) (v0 : Option AbR) (v3 : Int) (v4 : Int) : Option (Int × Unit)
  f47 (n : Nat) (a0 : Option AbR) : Option (List (List UInt8) × Unit)
  p47_3 (j n0 : Nat) (v0 : Option AbR) (v3 : List (List UInt8)) (v4 : Int) : Option (List (List UInt8) × Unit)
  p47_5 (j n0 n1 : Nat) (v0 : Option AbR) (v3 : List (List UInt8)) (v4 : Int) : Option (List (List UInt8) × Unit)
  p47_6 (j n0 : Nat) (v3 : List (List UInt8)) : Option (List (List UInt8) × Unit)
  f49 (n : Nat) (a0 : Option AbR) (a1 : List UInt8) : Option (Int × Int × Int × Unit)
  f50 (n : Nat) (a0 : Option AbR) (a1 : List UInt8) (a2 : Int) (a3 : Int) : Option (List UInt8 × Int × Unit)
  p50_2058 (j n0 : Nat) (v2 : Int) (v3 : Int) (v12 : List UInt8) (v45 : Bool) : Option (List UInt8 × Int × Unit)
  p50_11 (j n0 : Nat) (v2 : Int) (v3 : Int) (v12 : List UInt8) : Option (List UInt8 × Int × Unit)
  p50_13 (j n0 n1 : Nat) (v2 : Int) (v3 : Int) (v12 : List UInt8) : Option (List UInt8 × Int × Unit)
  f39 (n : Nat) (a0 : Option AbR) (a1 : List UInt8) : Option (Int × Option AbR × Unit)
  f40 (n : Nat) (a0 : Option AbR) (a1 : List UInt8) (a2 : List UInt8) : Option (Int × Option AbR × Unit)
  f41 (n : Nat) (a0 : Option AbR) (a1 : List UInt8) : Option (Int × Option AbR × Unit)
  f42 (n : Nat) (a0 : Option AbR) (a1 : List UInt8) (a2 : List UInt8) : Option (Int × Option AbR × Unit)
  p42_2052 (j n0 : Nat) (v0 : Option AbR) (v1 : List UInt8) (v2 : List UInt8) (v22 : Bool) : Option (Int × Option AbR × Unit)
  p42_5 (j n0 : Nat) (v0 : Option AbR) (v1 : List UInt8) (v2 : List UInt8) : Option (Int × Option AbR × Unit)
  p42_15 (j n0 n1 : Nat) (v0 : Option AbR) (v2 : List UInt8) (v9 : Option ((List UInt8 × (List UInt8 × (Int × Unit))))) (v10 : Int) : Option (Int × Option AbR × Unit)
  f43 (n : Nat) (a0 : Option AbR) (a1 : List UInt8) : Option (Int × Option AbR × Unit)
  f44 (n : Nat) (a0 : Option AbR) (a1 : Int) : Option (Int × Option AbR × Unit)
  p44_2052 (j n0 : Nat) (v0 : Option AbR) (v1 : Int) (v12 : Bool) : Option (Int × Option AbR × Unit)
  p44_5 (j n0 : Nat) (v0 : Option AbR) (v1 : Int) : Option (Int × Option AbR × Unit)
  f45 (n : Nat) (a0 : Option AbR) (a1 : Int) (a2 : Int) : Option (Int × Option AbR × Unit)
  p45_2052 (j n0 : Nat) (v0 : Option AbR) (v1 : Int) (v2 : Int) (v14 : Bool) : Option (Int × Option AbR × Unit)
  p45_5 (j n0 : Nat) (v0 : Option AbR) (v1 : Int) (v2 : Int) : Option (Int × Option AbR × Unit)
  f46 (n : Nat) (a0 : Option AbR) (a1 : List (Int)) : Option (Int × Option AbR × Unit)
  p46_4 (j n0 : Nat) (v0 : Option AbR) (v1 : List (Int)) (v5 : Int) : Option (Int × Option AbR × Unit)
  p46_10 (j n0 n1 : Nat) (v0 : Option AbR) (v1 : List (Int)) (v5 : Int) (v6 : Option ((List UInt8 × (List UInt8 × (Int × Unit))))) (v7 : Int) : Option (Int × Option AbR × Unit)
  p46_10_1 (j n0 n1 : Nat) (v0 : Option AbR) (v1 : List (Int)) (v5 : Int) (v6 : Option ((List UInt8 × (List UInt8 × (Int × Unit))))) (v7 : Int) : Option (Int × Option AbR × Unit)
  p46_12 (j n0 n1 n2 : Nat) (v0 : Option AbR) (v1 : List (Int)) (v5 : Int) (v6 : Option ((List UInt8 × (List UInt8 × (Int × Unit))))) (v7 : Int) : Option (Int × Option AbR × Unit)
  p46_12_1 (j n0 n1 n2 : Nat) (v0 : Option AbR) (v1 : List (Int)) (v5 : Int) (v6 : Option ((List UInt8 × (List UInt8 × (Int × Unit))))) (v7 : Int) : Option (Int × Option AbR × Unit)
  p46_14 (j n0 n1 n2 n3 : Nat) (v0 : Option AbR) (v1 : List (Int)) (v5 : Int) (v6 : Option ((List UInt8 × (List UInt8 × (Int × Unit))))) (v7 : Int) : Option (Int × Option AbR × Unit)
  p46_14_1 (j n0 n1 n2 n3 : Nat) (v0 : Option AbR) (v1 : List (Int)) (v5 : Int) (v6 : Option ((List UInt8 × (List UInt8 × (Int × Unit))))) (v7 : Int) : Option (Int × Option AbR × Unit)
  p46_5 (j n0 n1 : Nat) (v0 : Option AbR) (v1 : List (Int)) (v5 : Int) : Option (Int × Option AbR × Unit)
  f18 (n : Nat) (a0 : Option AbR) (a1 : AbA) : Option (Int × Option AbR × Unit)
  f19 (n : Nat) (a0 : Option Lk.DiskS) (a1 : Option AbR) (a2 : AbA) : Option (Bool × Unit)
  p19_2052 (j n0 : Nat) (v0 : Option Lk.DiskS) (v1 : Option AbR) (v5 : Option AbA) (v7 : List (List UInt8)) (v8 : List (List UInt8)) (v63 : Bool) : Option (Bool × Unit)
  p19_5 (j n0 : Nat) (v0 : Option Lk.DiskS) (v1 : Option AbR) (v5 : Option AbA) (v7 : List (List UInt8)) (v8 : List (List UInt8)) : Option (Bool × Unit)
  p19_6 (j n0 n1 : Nat) (v0 : Option Lk.DiskS) (v1 : Option AbR) (v5 : Option AbA) (v7 : List (List UInt8)) (v8 : List (List UInt8)) (v9 : Int) : Option (Bool × Unit)
  p19_2059 (j n0 n1 n2 : Nat) (v0 : Option Lk.DiskS) (v1 : Option AbR) (v5 : Option AbA) (v7 : List (List UInt8)) (v8 : List (List UInt8)) (v9 : Int) (v13 : Int) (v112 : Bool) : Option (Bool × Unit)
  p19_12 (j n0 n1 n2 : Nat) (v0 : Option Lk.DiskS) (v1 : Option AbR) (v5 : Option AbA) (v7 : List (List UInt8)) (v8 : List (List UInt8)) (v9 : Int) (v13 : Int) : Option (Bool × Unit)
  p19_2063 (j n0 n1 n2 n3 : Nat) (v0 : Option Lk.DiskS) (v1 : Option AbR) (v5 : Option AbA) (v7 : List (List UInt8)) (v8 : List (List UInt8)) (v9 : Int) (v16 : List (UInt8)) (v140 : Bool) : Option (Bool × Unit)
  p19_16 (j n0 n1 n2 n3 : Nat) (v0 : Option Lk.DiskS) (v1 : Option AbR) (v5 : Option AbA) (v7 : List (List UInt8)) (v8 : List (List UInt8)) (v9 : Int) (v16 : List (UInt8)) : Option (Bool × Unit)
  p19_17 (j n0 n1 n2 n3 n4 : Nat) (v0 : Option Lk.DiskS) (v1 : Option AbR) (v5 : Option AbA) (v7 : List (List UInt8)) (v8 : List (List UInt8)) (v9 : Int) (v16 : List (UInt8)) (v19 : Int) : Option (Bool × Unit)
  p19_7 (j n0 n1 n2 : Nat) (v0 : Option Lk.DiskS) (v1 : Option AbR) (v5 : Option AbA) (v7 : List (List UInt8)) (v8 : List (List UInt8)) (v9 : Int) : Option (Bool × Unit)
  f4 (n : Nat) (a0 : Int) (a1 : List AbA) : Option (Bool × Unit)
  p4_2052 (j n0 : Nat) (v1 : List AbA) (v5 : Option Lk.DiskS) (v7 : Option AbR) (v33 : Bool) : Option (Bool × Unit)
  p4_5 (j n0 : Nat) (v1 : List AbA) (v5 : Option Lk.DiskS) (v7 : Option AbR) : Option (Bool × Unit)
  p4_8 (j n0 n1 : Nat) (v1 : List AbA) (v5 : Option Lk.DiskS) (v7 : Option AbR) (v9 : Int) : Option (Bool × Unit)
  p4_2059 (j n0 n1 n2 : Nat) (v1 : List AbA) (v5 : Option Lk.DiskS) (v7 : Option AbR) (v9 : Int) (v64 : Bool) : Option (Bool × Unit)
  p4_9 (j n0 n1 n2 : Nat) (v1 : List AbA) (v5 : Option Lk.DiskS) (v7 : Option AbR) (v9 : Int) : Option (Bool × Unit)
  f16_eq (n : Nat) (a0 : Int) : f16 (n + 1) a0 = (sel (decide (a0 < (0 : Int))) (p16_2050 n n a0 true) (p16_2050 n n a0 (decide (a0 > (268435456 : Int)))))
  p16_2050_eq (j n0 : Nat) (v0 : Int) (v9 : Bool) : p16_2050 (j + 1) n0 v0 v9 = (sel v9 (some (none, (2 : Int), ())) (p16_3 n0 n0 v0))
  p16_3_eq (j n0 : Nat) (v0 : Int) : p16_3 (j + 1) n0 v0 = (some (some ([], v0, (0 : Int), (0 : Int), (0 : Int), ()), (0 : Int), ()))
  f17_eq (n : Nat)  : f17 (n + 1)  = (some (true, ()))
  f58_eq (n : Nat) (a0 : List UInt8) : f58 (n + 1) a0 = (sel (decide ((↑a0.length : Int) ≥ (1 : Int))) (some (decide ((↑a0.length : Int) ≤ (64 : Int)), ())) (some (false, ())))
  f59_eq (n : Nat) (a0 : Option AbR) (a1 : List UInt8) : f59 (n + 1) a0 a1 = (p59_2 n n a0 a1 ((0 : Int)))
  p59_2_eq (j n0 : Nat) (v0 : Option AbR) (v1 : List UInt8) (v6 : Int) : p59_2 (j + 1) n0 v0 v1 v6 = (sel (v0.isSome) (sel (v0.isSome) (sel (decide (v6 < (↑(List.length (v0.getD ([], (0 : Int), (0 : Int), (0 : Int), (0 : Int), ())).fst) : Int))) (sel (v0.isSome) (sel (v0.isSome) (sel (decide ((0 : Int) ≤ v6)) (sel (decide (v6 < (↑(List.length (v0.getD ([], (0 : Int), (0 : Int), (0 : Int), (0 : Int), ())).fst) : Int))) (sel (Go.Op.bytesLess (List.getD (v0.getD ([], (0 : Int), (0 : Int), (0 : Int), (0 : Int), ())).fst v6.toNat ([], [], (0 : Int), ())).fst v1) (p59_3 j n0 j v0 v1 v6) (p59_4 n0 n0 v0 v1 v6)) none) none) none) none) (p59_4 n0 n0 v0 v1 v6)) none) none)
  p59_3_eq (j n0 n1 : Nat) (v0 : Option AbR) (v1 : List UInt8) (v6 : Int) : p59_3 (j + 1) n0 n1 v0 v1 v6 = (p59_2 n1 n0 v0 v1 (Go.IntKind.i64.wrap (v6 + (1 : Int))))
  p59_4_eq (j n0 : Nat) (v0 : Option AbR) (v1 : List UInt8) (v6 : Int) : p59_4 (j + 1) n0 v0 v1 v6 = (sel (v0.isSome) (sel (v0.isSome) (sel (decide (v6 < (↑(List.length (v0.getD ([], (0 : Int), (0 : Int), (0 : Int), (0 : Int), ())).fst) : Int))) (sel (v0.isSome) (sel (v0.isSome) (sel (decide ((0 : Int) ≤ v6)) (sel (decide (v6 < (↑(List.length (v0.getD ([], (0 : Int), (0 : Int), (0 : Int), (0 : Int), ())).fst) : Int))) (some (v6, (List.getD (v0.getD ([], (0 : Int), (0 : Int), (0 : Int), (0 : Int), ())).fst v6.toNat ([], [], (0 : Int), ())).fst == v1, ())) none) none) none) none) (some (v6, false, ()))) none) none)
  f60_eq (n : Nat) (a0 : Option AbR) (a1 : Bool) : f60 (n + 1) a0 a1 = (sel (a0.isSome) (sel (a0.isSome) (sel (decide ((a0.getD ([], (0 : Int), (0 : Int), (0 : Int), (0 : Int), ())).snd.snd.fst > (0 : Int))) (sel (a0.isSome) (sel (a0.isSome) (sel (a0.isSome) (sel (a0.isSome) (p60_7 n n (some ((a0.getD ([], (0 : Int), (0 : Int), (0 : Int), (0 : Int), ())).fst, (a0.getD ([], (0 : Int), (0 : Int), (0 : Int), (0 : Int), ())).snd.fst, Go.IntKind.i64.wrap ((a0.getD ([], (0 : Int), (0 : Int), (0 : Int), (0 : Int), ())).snd.snd.fst - (1 : Int)), (a0.getD ([], (0 : Int), (0 : Int), (0 : Int), (0 : Int), ())).snd.snd.snd)) a1) none) none) none) none) (sel (a0.isSome) (sel (a0.isSome) (sel (decide ((a0.getD ([], (0 : Int), (0 : Int), (0 : Int), (0 : Int), ())).snd.snd.snd.fst > (0 : Int))) (sel (a0.isSome) (sel (a0.isSome) (sel (a0.isSome) (sel (a0.isSome) (p60_7 n n (some ((a0.getD ([], (0 : Int), (0 : Int), (0 : Int), (0 : Int), ())).fst, (a0.getD ([], (0 : Int), (0 : Int), (0 : Int), (0 : Int), ())).snd.fst, (a0.getD ([], (0 : Int), (0 : Int), (0 : Int), (0 : Int), ())).snd.snd.fst, Go.IntKind.i64.wrap ((a0.getD ([], (0 : Int), (0 : Int), (0 : Int), (0 : Int), ())).snd.snd.snd.fst - (1 : Int)), (a0.getD ([], (0 : Int), (0 : Int), (0 : Int), (0 : Int), ())).snd.snd.snd.snd)) true) none) none) none) none) (p60_7 n n a0 a1)) none) none)) none) none)
  p60_7_eq (j n0 : Nat) (v0 : Option AbR) (v5 : Bool) : p60_7 (j + 1) n0 v0 v5 = (sel v5 (sel (v0.isSome) (sel (v0.isSome) (sel (v0.isSome) (sel (v0.isSome) (p60_9 j n0 j (some ((v0.getD ([], (0 : Int), (0 : Int), (0 : Int), (0 : Int), ())).fst, (v0.getD ([], (0 : Int), (0 : Int), (0 : Int), (0 : Int), ())).snd.fst, (v0.getD ([], (0 : Int), (0 : Int), (0 : Int), (0 : Int), ())).snd.snd.fst, (v0.getD ([], (0 : Int), (0 : Int), (0 : Int), (0 : Int), ())).snd.snd.snd.fst, Go.IntKind.i64.wrap ((v0.getD ([], (0 : Int), (0 : Int), (0 : Int), (0 : Int), ())).snd.snd.snd.snd.fst + (1 : Int)), (v0.getD ([], (0 : Int), (0 : Int), (0 : Int), (0 : Int), ())).snd.snd.snd.snd.snd)) v5) none) none) none) none) (p60_9 j n0 j v0 v5))
  p60_9_eq (j n0 n1 : Nat) (v0 : Option AbR) (v5 : Bool) : p60_9 (j + 1) n0 n1 v0 v5 = (some (v5, v0, ()))
  f61_eq (n : Nat) (a0 : Option AbR) (a1 : Int) : f61 (n + 1) a0 a1 = (sel (a0.isSome) (sel (a0.isSome) (sel (decide ((0 : Int) ≤ a1)) (sel (decide (a1 ≤ (↑(List.length (a0.getD ([], (0 : Int), (0 : Int), (0 : Int), (0 : Int), ())).fst) : Int))) (sel (a0.isSome) (sel (a0.isSome) (sel (decide ((0 : Int) ≤ Go.IntKind.i64.wrap (a1 + (1 : Int)))) (sel (decide (Go.IntKind.i64.wrap (a1 + (1 : Int)) ≤ (↑(List.length (a0.getD ([], (0 : Int), (0 : Int), (0 : Int), (0 : Int), ())).fst) : Int))) (sel (decide ((0 : Nat) + (Lk.ext (a0.getD ([], (0 : Int), (0 : Int), (0 : Int), (0 : Int), ())).fst (0 : Int) a1).length ≤ (1073741824 : Nat))) (sel (decide (List.length ([] ++ Lk.ext (a0.getD ([], (0 : Int), (0 : Int), (0 : Int), (0 : Int), ())).fst (0 : Int) a1) + (Lk.ext (a0.getD ([], (0 : Int), (0 : Int), (0 : Int), (0 : Int), ())).fst (Go.IntKind.i64.wrap (a1 + (1 : Int))) (↑(List.length (a0.getD ([], (0 : Int), (0 : Int), (0 : Int), (0 : Int), ())).fst) : Int)).length ≤ (1073741824 : Nat))) (sel (a0.isSome) (sel (a0.isSome) (some (some ([] ++ Lk.ext (a0.getD ([], (0 : Int), (0 : Int), (0 : Int), (0 : Int), ())).fst (0 : Int) a1 ++ Lk.ext (a0.getD ([], (0 : Int), (0 : Int), (0 : Int), (0 : Int), ())).fst (Go.IntKind.i64.wrap (a1 + (1 : Int))) (↑(List.length (a0.getD ([], (0 : Int), (0 : Int), (0 : Int), (0 : Int), ())).fst) : Int), (a0.getD ([], (0 : Int), (0 : Int), (0 : Int), (0 : Int), ())).snd), ())) none) none) none) none) none) none) none) none) none) none) none) none)
  f48_eq (n : Nat) (a0 : Option AbR) : f48 (n + 1) a0 = (p48_3 n n a0 ((0 : Int)) ((0 : Int)))
  p48_3_eq (j n0 : Nat) (v0 : Option AbR) (v3 : Int) (v4 : Int) : p48_3 (j + 1) n0 v0 v3 v4 = (sel (v0.isSome) (sel (v0.isSome) (sel (decide (v4 < (↑(List.length (v0.getD ([], (0 : Int), (0 : Int), (0 : Int), (0 : Int), ())).fst) : Int))) (sel (v0.isSome) (sel (v0.isSome) (sel (decide ((0 : Int) ≤ v4)) (sel (decide (v4 < (↑(List.length (v0.getD ([], (0 : Int), (0 : Int), (0 : Int), (0 : Int), ())).fst) : Int))) (p48_3 j n0 v0 (Go.IntKind.i64.wrap (v3 + (↑(List.length (List.getD (v0.getD ([], (0 : Int), (0 : Int), (0 : Int), (0 : Int), ())).fst v4.toNat ([], [], (0 : Int), ())).snd.fst) : Int))) (Go.IntKind.i64.wrap (v4 + (1 : Int)))) none) none) none) none) (some (v3, ()))) none) none)
  f47_eq (n : Nat) (a0 : Option AbR) : f47 (n + 1) a0 = (p47_3 n n a0 ([]) ((0 : Int)))
  p47_3_eq (j n0 : Nat) (v0 : Option AbR) (v3 : List (List UInt8)) (v4 : Int) : p47_3 (j + 1) n0 v0 v3 v4 = (sel (v0.isSome) (sel (v0.isSome) (sel (v0.isSome) (sel (decide (v4 < (↑(List.length (v0.getD ([], (0 : Int), (0 : Int), (0 : Int), (0 : Int), ())).fst) : Int))) (p47_5 j n0 j v0 v3 v4) (p47_6 n0 n0 v3)) none) none) (p47_6 n0 n0 v3))
  p47_5_eq (j n0 n1 : Nat) (v0 : Option AbR) (v3 : List (List UInt8)) (v4 : Int) : p47_5 (j + 1) n0 n1 v0 v3 v4 = (sel (v0.isSome) (sel (v0.isSome) (sel (decide ((0 : Int) ≤ v4)) (sel (decide (v4 < (↑(List.length (v0.getD ([], (0 : Int), (0 : Int), (0 : Int), (0 : Int), ())).fst) : Int))) (sel (decide (v3.length + (1 : Nat) ≤ (1073741824 : Nat))) (p47_3 n1 n0 v0 (v3 ++ [(List.getD (v0.getD ([], (0 : Int), (0 : Int), (0 : Int), (0 : Int), ())).fst v4.toNat ([], [], (0 : Int), ())).fst]) (Go.IntKind.i64.wrap (v4 + (1 : Int)))) none) none) none) none) none)
  p47_6_eq (j n0 : Nat) (v3 : List (List UInt8)) : p47_6 (j + 1) n0 v3 = (some (v3, ()))
  f49_eq (n : Nat) (a0 : Option AbR) (a1 : List UInt8) : f49 (n + 1) a0 a1 = (sel (a0.isNone) (some ((0 : Int), (0 : Int), (1 : Int), ())) (obind (f58 n a1) fun r128 => (sel (!r128.fst) (some ((0 : Int), (0 : Int), (2 : Int), ())) (obind (f59 n a0 a1) fun r217 => (sel (!r217.snd.fst) (some ((0 : Int), (0 : Int), (51 : Int), ())) (sel (a0.isSome) (sel (a0.isSome) (sel (decide ((0 : Int) ≤ r217.fst)) (sel (decide (r217.fst < (↑(List.length (a0.getD ([], (0 : Int), (0 : Int), (0 : Int), (0 : Int), ())).fst) : Int))) (sel (a0.isSome) (sel (a0.isSome) (sel (decide ((0 : Int) ≤ r217.fst)) (sel (decide (r217.fst < (↑(List.length (a0.getD ([], (0 : Int), (0 : Int), (0 : Int), (0 : Int), ())).fst) : Int))) (some ((↑(List.length (List.getD (a0.getD ([], (0 : Int), (0 : Int), (0 : Int), (0 : Int), ())).fst (Int.toNat r217.fst) ([], [], (0 : Int), ())).snd.fst) : Int), (List.getD (a0.getD ([], (0 : Int), (0 : Int), (0 : Int), (0 : Int), ())).fst (Int.toNat r217.fst) ([], [], (0 : Int), ())).snd.snd.fst, (0 : Int), ())) none) none) none) none) none) none) none) none))))))
  f50_eq (n : Nat) (a0 : Option AbR) (a1 : List UInt8) (a2 : Int) (a3 : Int) : f50 (n + 1) a0 a1 a2 a3 = (sel (a0.isNone) (some ([], (1 : Int), ())) (obind (f58 n a1) fun r114 => (sel (!r114.fst) (some ([], (2 : Int), ())) (obind (f59 n a0 a1) fun r196 => (sel (!r196.snd.fst) (some ([], (51 : Int), ())) (sel (a0.isSome) (sel (a0.isSome) (sel (decide ((0 : Int) ≤ r196.fst)) (sel (decide (r196.fst < (↑(List.length (a0.getD ([], (0 : Int), (0 : Int), (0 : Int), (0 : Int), ())).fst) : Int))) (sel (decide (a2 < (0 : Int))) (p50_2058 n n a2 a3 ((List.getD (a0.getD ([], (0 : Int), (0 : Int), (0 : Int), (0 : Int), ())).fst (Int.toNat r196.fst) ([], [], (0 : Int), ())).snd.fst) true) (sel (decide (a2 > (↑(List.length (List.getD (a0.getD ([], (0 : Int), (0 : Int), (0 : Int), (0 : Int), ())).fst (Int.toNat r196.fst) ([], [], (0 : Int), ())).snd.fst) : Int))) (p50_2058 n n a2 a3 ((List.getD (a0.getD ([], (0 : Int), (0 : Int), (0 : Int), (0 : Int), ())).fst (Int.toNat r196.fst) ([], [], (0 : Int), ())).snd.fst) true) (p50_2058 n n a2 a3 ((List.getD (a0.getD ([], (0 : Int), (0 : Int), (0 : Int), (0 : Int), ())).fst (Int.toNat r196.fst) ([], [], (0 : Int), ())).snd.fst) (decide (a3 < (0 : Int)))))) none) none) none) none))))))
  p50_2058_eq (j n0 : Nat) (v2 : Int) (v3 : Int) (v12 : List UInt8) (v45 : Bool) : p50_2058 (j + 1) n0 v2 v3 v12 v45 = (sel v45 (some ([], (2 : Int), ())) (p50_11 n0 n0 v2 v3 v12))
  p50_11_eq (j n0 : Nat) (v2 : Int) (v3 : Int) (v12 : List UInt8) : p50_11 (j + 1) n0 v2 v3 v12 = (sel (decide (v3 > Go.IntKind.i64.wrap ((↑v12.length : Int) - v2))) (p50_13 j n0 j v2 (Go.IntKind.i64.wrap ((↑v12.length : Int) - v2)) v12) (p50_13 j n0 j v2 v3 v12))
  p50_13_eq (j n0 n1 : Nat) (v2 : Int) (v3 : Int) (v12 : List UInt8) : p50_13 (j + 1) n0 n1 v2 v3 v12 = (sel (decide ((0 : Int) ≤ Go.IntKind.i64.wrap (v2 + v3))) (sel (decide (Go.IntKind.i64.wrap (v2 + v3) ≤ (↑v12.length : Int))) (sel (decide ((0 : Int) ≤ v2)) (sel (decide (v2 ≤ Go.IntKind.i64.wrap (v2 + v3))) (some (Lk.ext v12 v2 (Go.IntKind.i64.wrap (v2 + v3)), (0 : Int), ())) none) none) none) none)
  f39_eq (n : Nat) (a0 : Option AbR) (a1 : List UInt8) : f39 (n + 1) a0 a1 = (sel (a0.isNone) (some ((1 : Int), a0, ())) (obind (f58 n a1) fun r100 => (sel (!r100.fst) (some ((2 : Int), a0, ())) (obind (f59 n a0 a1) fun r175 => (sel (r175.snd.fst) (some ((50 : Int), a0, ())) (sel (a0.isSome) (sel (a0.isSome) (obind (f60 n a0 (decide ((↑(List.length (a0.getD ([], (0 : Int), (0 : Int), (0 : Int), (0 : Int), ())).fst) : Int) ≥ (4096 : Int)))) fun r330 => (sel (r330.fst) (some ((52 : Int), r330.snd.fst, ())) (sel (Option.isSome r330.snd.fst) (sel (Option.isSome r330.snd.fst) (sel (decide ((0 : Int) ≤ r175.fst)) (sel (decide (r175.fst ≤ (↑(List.length (Option.getD r330.snd.fst ([], (0 : Int), (0 : Int), (0 : Int), (0 : Int), ())).fst) : Int))) (sel (decide ((0 : Nat) + (Lk.ext (Option.getD r330.snd.fst ([], (0 : Int), (0 : Int), (0 : Int), (0 : Int), ())).fst (0 : Int) r175.fst).length ≤ (1073741824 : Nat))) (sel (decide (List.length ([] ++ Lk.ext (Option.getD r330.snd.fst ([], (0 : Int), (0 : Int), (0 : Int), (0 : Int), ())).fst (0 : Int) r175.fst) + (1 : Nat) ≤ (1073741824 : Nat))) (sel (Option.isSome r330.snd.fst) (sel (Option.isSome r330.snd.fst) (sel (decide ((0 : Int) ≤ r175.fst)) (sel (decide (r175.fst ≤ (↑(List.length (Option.getD r330.snd.fst ([], (0 : Int), (0 : Int), (0 : Int), (0 : Int), ())).fst) : Int))) (sel (decide (List.length ([] ++ Lk.ext (Option.getD r330.snd.fst ([], (0 : Int), (0 : Int), (0 : Int), (0 : Int), ())).fst (0 : Int) r175.fst ++ [(a1, [], (0 : Int), ())]) + (Lk.ext (Option.getD r330.snd.fst ([], (0 : Int), (0 : Int), (0 : Int), (0 : Int), ())).fst r175.fst (↑(List.length (Option.getD r330.snd.fst ([], (0 : Int), (0 : Int), (0 : Int), (0 : Int), ())).fst) : Int)).length ≤ (1073741824 : Nat))) (sel (Option.isSome r330.snd.fst) (sel (Option.isSome r330.snd.fst) (some ((0 : Int), some ([] ++ Lk.ext (Option.getD r330.snd.fst ([], (0 : Int), (0 : Int), (0 : Int), (0 : Int), ())).fst (0 : Int) r175.fst ++ [(a1, [], (0 : Int), ())] ++ Lk.ext (Option.getD r330.snd.fst ([], (0 : Int), (0 : Int), (0 : Int), (0 : Int), ())).fst r175.fst (↑(List.length (Option.getD r330.snd.fst ([], (0 : Int), (0 : Int), (0 : Int), (0 : Int), ())).fst) : Int), (Option.getD r330.snd.fst ([], (0 : Int), (0 : Int), (0 : Int), (0 : Int), ())).snd), ())) none) none) none) none) none) none) none) none) none) none) none) none) none))) none) none))))))
  f40_eq (n : Nat) (a0 : Option AbR) (a1 : List UInt8) (a2 : List UInt8) : f40 (n + 1) a0 a1 a2 = (sel (a0.isNone) (some ((1 : Int), a0, ())) (obind (f58 n a1) fun r100 => (sel (!r100.fst) (some ((2 : Int), a0, ())) (obind (f59 n a0 a1) fun r175 => (sel (!r175.snd.fst) (some ((51 : Int), a0, ())) (sel (a0.isSome) (sel (a0.isSome) (obind (f48 n a0) fun r358 => (obind (f60 n a0 (decide (Go.IntKind.i64.wrap (r358.fst + (↑a2.length : Int)) > (a0.getD ([], (0 : Int), (0 : Int), (0 : Int), (0 : Int), ())).snd.fst))) fun r388 => (sel (r388.fst) (some ((52 : Int), r388.snd.fst, ())) (sel (Option.isSome r388.snd.fst) (sel (Option.isSome r388.snd.fst) (sel (Option.isSome r388.snd.fst) (sel (Option.isSome r388.snd.fst) (sel (decide ((0 : Int) ≤ r175.fst)) (sel (decide (r175.fst < (↑(List.length (Option.getD r388.snd.fst ([], (0 : Int), (0 : Int), (0 : Int), (0 : Int), ())).fst) : Int))) (sel (decide (List.length (List.getD (Option.getD r388.snd.fst ([], (0 : Int), (0 : Int), (0 : Int), (0 : Int), ())).fst (Int.toNat r175.fst) ([], [], (0 : Int), ())).snd.fst + a2.length ≤ Lk.big)) (sel (decide ((0 : Int) ≤ r175.fst)) (sel (decide (r175.fst < (↑(List.length (Option.getD r388.snd.fst ([], (0 : Int), (0 : Int), (0 : Int), (0 : Int), ())).fst) : Int))) (some ((0 : Int), some (List.set (Option.getD r388.snd.fst ([], (0 : Int), (0 : Int), (0 : Int), (0 : Int), ())).fst (Int.toNat r175.fst) ((List.getD (Option.getD r388.snd.fst ([], (0 : Int), (0 : Int), (0 : Int), (0 : Int), ())).fst (Int.toNat r175.fst) ([], [], (0 : Int), ())).fst, (List.getD (Option.getD r388.snd.fst ([], (0 : Int), (0 : Int), (0 : Int), (0 : Int), ())).fst (Int.toNat r175.fst) ([], [], (0 : Int), ())).snd.fst ++ a2, (List.getD (Option.getD r388.snd.fst ([], (0 : Int), (0 : Int), (0 : Int), (0 : Int), ())).fst (Int.toNat r175.fst) ([], [], (0 : Int), ())).snd.snd), (Option.getD r388.snd.fst ([], (0 : Int), (0 : Int), (0 : Int), (0 : Int), ())).snd), ())) none) none) none) none) none) none) none) none) none)))) none) none))))))
  f41_eq (n : Nat) (a0 : Option AbR) (a1 : List UInt8) : f41 (n + 1) a0 a1 = (sel (a0.isNone) (some ((1 : Int), a0, ())) (obind (f58 n a1) fun r100 => (sel (!r100.fst) (some ((2 : Int), a0, ())) (obind (f59 n a0 a1) fun r175 => (sel (!r175.snd.fst) (some ((51 : Int), a0, ())) (sel (a0.isSome) (sel (a0.isSome) (sel (a0.isSome) (sel (a0.isSome) (sel (decide ((0 : Int) ≤ r175.fst)) (sel (decide (r175.fst < (↑(List.length (a0.getD ([], (0 : Int), (0 : Int), (0 : Int), (0 : Int), ())).fst) : Int))) (sel (decide ((0 : Int) ≤ r175.fst)) (sel (decide (r175.fst < (↑(List.length (a0.getD ([], (0 : Int), (0 : Int), (0 : Int), (0 : Int), ())).fst) : Int))) (some ((0 : Int), some (List.set (a0.getD ([], (0 : Int), (0 : Int), (0 : Int), (0 : Int), ())).fst (Int.toNat r175.fst) ((List.getD (a0.getD ([], (0 : Int), (0 : Int), (0 : Int), (0 : Int), ())).fst (Int.toNat r175.fst) ([], [], (0 : Int), ())).fst, (List.getD (a0.getD ([], (0 : Int), (0 : Int), (0 : Int), (0 : Int), ())).fst (Int.toNat r175.fst) ([], [], (0 : Int), ())).snd.fst, (↑(List.length (List.getD (a0.getD ([], (0 : Int), (0 : Int), (0 : Int), (0 : Int), ())).fst (Int.toNat r175.fst) ([], [], (0 : Int), ())).snd.fst) : Int), (List.getD (a0.getD ([], (0 : Int), (0 : Int), (0 : Int), (0 : Int), ())).fst (Int.toNat r175.fst) ([], [], (0 : Int), ())).snd.snd.snd), (a0.getD ([], (0 : Int), (0 : Int), (0 : Int), (0 : Int), ())).snd), ())) none) none) none) none) none) none) none) none))))))
  f42_eq (n : Nat) (a0 : Option AbR) (a1 : List UInt8) (a2 : List UInt8) : f42 (n + 1) a0 a1 a2 = (sel (a0.isNone) (some ((1 : Int), a0, ())) (obind (f58 n a1) fun r100 => (sel (!r100.fst) (p42_2052 n n a0 a1 a2 true) (obind (f58 n a2) fun r176 => (p42_2052 n n a0 a1 a2 (!r176.fst))))))
  p42_2052_eq (j n0 : Nat) (v0 : Option AbR) (v1 : List UInt8) (v2 : List UInt8) (v22 : Bool) : p42_2052 (j + 1) n0 v0 v1 v2 v22 = (sel v22 (some ((2 : Int), v0, ())) (p42_5 n0 n0 v0 v1 v2))
  p42_5_eq (j n0 : Nat) (v0 : Option AbR) (v1 : List UInt8) (v2 : List UInt8) : p42_5 (j + 1) n0 v0 v1 v2 = (obind (f59 j v0 v1) fun r270 => (sel (!r270.snd.fst) (some ((51 : Int), v0, ())) (sel (v1 == v2) (some ((0 : Int), v0, ())) (sel (v0.isSome) (sel (v0.isSome) (sel (decide ((0 : Int) ≤ r270.fst)) (sel (decide (r270.fst < (↑(List.length (v0.getD ([], (0 : Int), (0 : Int), (0 : Int), (0 : Int), ())).fst) : Int))) (sel ((some (([] : List UInt8), ([] : List UInt8), (0 : Int), ())).isSome) (obind (f61 j v0 (r270.fst)) fun r533 => (obind (f59 j (r533.fst) v2) fun r565 => (sel (r565.snd.fst) (obind (f61 j (r533.fst) (r565.fst)) fun r651 => (p42_15 j n0 j (r651.fst) v2 (some (List.getD (v0.getD ([], (0 : Int), (0 : Int), (0 : Int), (0 : Int), ())).fst (Int.toNat r270.fst) ([], [], (0 : Int), ()))) (r565.fst))) (p42_15 j n0 j (r533.fst) v2 (some (List.getD (v0.getD ([], (0 : Int), (0 : Int), (0 : Int), (0 : Int), ())).fst (Int.toNat r270.fst) ([], [], (0 : Int), ()))) (r565.fst))))) none) none) none) none) none))))
  p42_15_eq (j n0 n1 : Nat) (v0 : Option AbR) (v2 : List UInt8) (v9 : Option ((List UInt8 × (List UInt8 × (Int × Unit))))) (v10 : Int) : p42_15 (j + 1) n0 n1 v0 v2 v9 v10 = (sel (v9.isSome) (sel (v0.isSome) (sel (v0.isSome) (sel (decide ((0 : Int) ≤ v10)) (sel (decide (v10 ≤ (↑(List.length (v0.getD ([], (0 : Int), (0 : Int), (0 : Int), (0 : Int), ())).fst) : Int))) (sel (decide ((0 : Nat) + (Lk.ext (v0.getD ([], (0 : Int), (0 : Int), (0 : Int), (0 : Int), ())).fst (0 : Int) v10).length ≤ (1073741824 : Nat))) (sel ((some (v2, (v9.getD ([], [], (0 : Int), ())).snd)).isSome) (sel (decide (List.length ([] ++ Lk.ext (v0.getD ([], (0 : Int), (0 : Int), (0 : Int), (0 : Int), ())).fst (0 : Int) v10) + (1 : Nat) ≤ (1073741824 : Nat))) (sel (v0.isSome) (sel (v0.isSome) (sel (decide ((0 : Int) ≤ v10)) (sel (decide (v10 ≤ (↑(List.length (v0.getD ([], (0 : Int), (0 : Int), (0 : Int), (0 : Int), ())).fst) : Int))) (sel (decide (List.length ([] ++ Lk.ext (v0.getD ([], (0 : Int), (0 : Int), (0 : Int), (0 : Int), ())).fst (0 : Int) v10 ++ [(some (v2, (v9.getD ([], [], (0 : Int), ())).snd)).getD ([], [], (0 : Int), ())]) + (Lk.ext (v0.getD ([], (0 : Int), (0 : Int), (0 : Int), (0 : Int), ())).fst v10 (↑(List.length (v0.getD ([], (0 : Int), (0 : Int), (0 : Int), (0 : Int), ())).fst) : Int)).length ≤ (1073741824 : Nat))) (sel (v0.isSome) (sel (v0.isSome) (some ((0 : Int), some ([] ++ Lk.ext (v0.getD ([], (0 : Int), (0 : Int), (0 : Int), (0 : Int), ())).fst (0 : Int) v10 ++ [(some (v2, (v9.getD ([], [], (0 : Int), ())).snd)).getD ([], [], (0 : Int), ())] ++ Lk.ext (v0.getD ([], (0 : Int), (0 : Int), (0 : Int), (0 : Int), ())).fst v10 (↑(List.length (v0.getD ([], (0 : Int), (0 : Int), (0 : Int), (0 : Int), ())).fst) : Int), (v0.getD ([], (0 : Int), (0 : Int), (0 : Int), (0 : Int), ())).snd), ())) none) none) none) none) none) none) none) none) none) none) none) none) none) none) none)
  f43_eq (n : Nat) (a0 : Option AbR) (a1 : List UInt8) : f43 (n + 1) a0 a1 = (sel (a0.isNone) (some ((1 : Int), a0, ())) (obind (f58 n a1) fun r100 => (sel (!r100.fst) (some ((2 : Int), a0, ())) (obind (f59 n a0 a1) fun r175 => (sel (!r175.snd.fst) (some ((51 : Int), a0, ())) (obind (f61 n a0 (r175.fst)) fun r301 => (some ((0 : Int), r301.fst, ()))))))))
  f44_eq (n : Nat) (a0 : Option AbR) (a1 : Int) : f44 (n + 1) a0 a1 = (sel (a0.isNone) (some ((1 : Int), a0, ())) (sel (decide (a1 < (0 : Int))) (p44_2052 n n a0 a1 true) (p44_2052 n n a0 a1 (decide (a1 > (268435456 : Int))))))
  p44_2052_eq (j n0 : Nat) (v0 : Option AbR) (v1 : Int) (v12 : Bool) : p44_2052 (j + 1) n0 v0 v1 v12 = (sel v12 (some ((2 : Int), v0, ())) (p44_5 n0 n0 v0 v1))
  p44_5_eq (j n0 : Nat) (v0 : Option AbR) (v1 : Int) : p44_5 (j + 1) n0 v0 v1 = (sel (v0.isSome) (sel (v0.isSome) (some ((0 : Int), some ((v0.getD ([], (0 : Int), (0 : Int), (0 : Int), (0 : Int), ())).fst, v1, (v0.getD ([], (0 : Int), (0 : Int), (0 : Int), (0 : Int), ())).snd.snd), ())) none) none)
  f45_eq (n : Nat) (a0 : Option AbR) (a1 : Int) (a2 : Int) : f45 (n + 1) a0 a1 a2 = (sel (a0.isNone) (some ((1 : Int), a0, ())) (sel (decide (a1 < (0 : Int))) (p45_2052 n n a0 a1 a2 true) (p45_2052 n n a0 a1 a2 (decide (a2 < (0 : Int))))))
  p45_2052_eq (j n0 : Nat) (v0 : Option AbR) (v1 : Int) (v2 : Int) (v14 : Bool) : p45_2052 (j + 1) n0 v0 v1 v2 v14 = (sel v14 (some ((2 : Int), v0, ())) (p45_5 n0 n0 v0 v1 v2))
  p45_5_eq (j n0 : Nat) (v0 : Option AbR) (v1 : Int) (v2 : Int) : p45_5 (j + 1) n0 v0 v1 v2 = (sel (v0.isSome) (sel (v0.isSome) (sel ((some ((v0.getD ([], (0 : Int), (0 : Int), (0 : Int), (0 : Int), ())).fst, (v0.getD ([], (0 : Int), (0 : Int), (0 : Int), (0 : Int), ())).snd.fst, v1, (v0.getD ([], (0 : Int), (0 : Int), (0 : Int), (0 : Int), ())).snd.snd.snd)).isSome) (sel ((some ((v0.getD ([], (0 : Int), (0 : Int), (0 : Int), (0 : Int), ())).fst, (v0.getD ([], (0 : Int), (0 : Int), (0 : Int), (0 : Int), ())).snd.fst, v1, (v0.getD ([], (0 : Int), (0 : Int), (0 : Int), (0 : Int), ())).snd.snd.snd)).isSome) (some ((0 : Int), some ((v0.getD ([], (0 : Int), (0 : Int), (0 : Int), (0 : Int), ())).fst, (v0.getD ([], (0 : Int), (0 : Int), (0 : Int), (0 : Int), ())).snd.fst, v1, v2, (v0.getD ([], (0 : Int), (0 : Int), (0 : Int), (0 : Int), ())).snd.snd.snd.snd), ())) none) none) none) none)
  f46_eq (n : Nat) (a0 : Option AbR) (a1 : List (Int)) : f46 (n + 1) a0 a1 = (sel (a0.isNone) (some ((1 : Int), a0, ())) (p46_4 n n a0 a1 ((0 : Int))))
  p46_4_eq (j n0 : Nat) (v0 : Option AbR) (v1 : List (Int)) (v5 : Int) : p46_4 (j + 1) n0 v0 v1 v5 = (sel (v0.isSome) (sel (v0.isSome) (sel (decide (v5 < (↑(List.length (v0.getD ([], (0 : Int), (0 : Int), (0 : Int), (0 : Int), ())).fst) : Int))) (sel (v0.isSome) (sel (v0.isSome) (sel (decide ((0 : Int) ≤ v5)) (sel (decide (v5 < (↑(List.length (v0.getD ([], (0 : Int), (0 : Int), (0 : Int), (0 : Int), ())).fst) : Int))) (sel ((some (([] : List UInt8), ([] : List UInt8), (0 : Int), ())).isSome) (sel (decide ((↑v1.length : Int) > (0 : Int))) (sel ((↑v1.length : Int) != (0 : Int)) (sel (decide ((0 : Int) ≤ v5.tmod (↑v1.length : Int))) (sel (decide (v5.tmod (↑v1.length : Int) < (↑v1.length : Int))) (p46_10 j n0 j v0 v1 v5 (some (List.getD (v0.getD ([], (0 : Int), (0 : Int), (0 : Int), (0 : Int), ())).fst v5.toNat ([], [], (0 : Int), ()))) (v1.getD (v5.tmod (↑v1.length : Int)).toNat (0 : Int))) none) none) none) (p46_10_1 j n0 j v0 v1 v5 (some (List.getD (v0.getD ([], (0 : Int), (0 : Int), (0 : Int), (0 : Int), ())).fst v5.toNat ([], [], (0 : Int), ()))) ((0 : Int)))) none) none) none) none) none) (sel (v0.isSome) (sel (v0.isSome) (sel ((some ((v0.getD ([], (0 : Int), (0 : Int), (0 : Int), (0 : Int), ())).fst, (v0.getD ([], (0 : Int), (0 : Int), (0 : Int), (0 : Int), ())).snd.fst, (0 : Int), (v0.getD ([], (0 : Int), (0 : Int), (0 : Int), (0 : Int), ())).snd.snd.snd)).isSome) (sel ((some ((v0.getD ([], (0 : Int), (0 : Int), (0 : Int), (0 : Int), ())).fst, (v0.getD ([], (0 : Int), (0 : Int), (0 : Int), (0 : Int), ())).snd.fst, (0 : Int), (v0.getD ([], (0 : Int), (0 : Int), (0 : Int), (0 : Int), ())).snd.snd.snd)).isSome) (some ((0 : Int), some ((v0.getD ([], (0 : Int), (0 : Int), (0 : Int), (0 : Int), ())).fst, (v0.getD ([], (0 : Int), (0 : Int), (0 : Int), (0 : Int), ())).snd.fst, (0 : Int), (0 : Int), (v0.getD ([], (0 : Int), (0 : Int), (0 : Int), (0 : Int), ())).snd.snd.snd.snd), ())) none) none) none) none)) none) none)
  p46_10_eq (j n0 n1 : Nat) (v0 : Option AbR) (v1 : List (Int)) (v5 : Int) (v6 : Option ((List UInt8 × (List UInt8 × (Int × Unit))))) (v7 : Int) : p46_10 (j + 1) n0 n1 v0 v1 v5 v6 v7 = (sel (decide (v7 < (0 : Int))) (p46_12 j n0 n1 j v0 v1 v5 v6 ((0 : Int))) (p46_12_1 j n0 n1 j v0 v1 v5 v6 v7))
  p46_10_1_eq (j n0 n1 : Nat) (v0 : Option AbR) (v1 : List (Int)) (v5 : Int) (v6 : Option ((List UInt8 × (List UInt8 × (Int × Unit))))) (v7 : Int) : p46_10_1 (j + 1) n0 n1 v0 v1 v5 v6 v7 = (sel (decide (v7 < (0 : Int))) (p46_12 j n0 n1 j v0 v1 v5 v6 ((0 : Int))) (p46_12 j n0 n1 j v0 v1 v5 v6 v7))
  p46_12_eq (j n0 n1 n2 : Nat) (v0 : Option AbR) (v1 : List (Int)) (v5 : Int) (v6 : Option ((List UInt8 × (List UInt8 × (Int × Unit))))) (v7 : Int) : p46_12 (j + 1) n0 n1 n2 v0 v1 v5 v6 v7 = (sel (v6.isSome) (sel (v6.isSome) (sel (decide (v7 > Go.IntKind.i64.wrap ((↑(List.length (v6.getD ([], [], (0 : Int), ())).snd.fst) : Int) - (v6.getD ([], [], (0 : Int), ())).snd.snd.fst))) (sel (v6.isSome) (sel (v6.isSome) (p46_14 j n0 n1 n2 j v0 v1 v5 v6 (Go.IntKind.i64.wrap ((↑(List.length (v6.getD ([], [], (0 : Int), ())).snd.fst) : Int) - (v6.getD ([], [], (0 : Int), ())).snd.snd.fst))) none) none) (p46_14 j n0 n1 n2 j v0 v1 v5 v6 v7)) none) none)
  p46_12_1_eq (j n0 n1 n2 : Nat) (v0 : Option AbR) (v1 : List (Int)) (v5 : Int) (v6 : Option ((List UInt8 × (List UInt8 × (Int × Unit))))) (v7 : Int) : p46_12_1 (j + 1) n0 n1 n2 v0 v1 v5 v6 v7 = (sel (v6.isSome) (sel (v6.isSome) (sel (decide (v7 > Go.IntKind.i64.wrap ((↑(List.length (v6.getD ([], [], (0 : Int), ())).snd.fst) : Int) - (v6.getD ([], [], (0 : Int), ())).snd.snd.fst))) (sel (v6.isSome) (sel (v6.isSome) (p46_14 j n0 n1 n2 j v0 v1 v5 v6 (Go.IntKind.i64.wrap ((↑(List.length (v6.getD ([], [], (0 : Int), ())).snd.fst) : Int) - (v6.getD ([], [], (0 : Int), ())).snd.snd.fst))) none) none) (p46_14_1 j n0 n1 n2 j v0 v1 v5 v6 v7)) none) none)
  p46_14_eq (j n0 n1 n2 n3 : Nat) (v0 : Option AbR) (v1 : List (Int)) (v5 : Int) (v6 : Option ((List UInt8 × (List UInt8 × (Int × Unit))))) (v7 : Int) : p46_14 (j + 1) n0 n1 n2 n3 v0 v1 v5 v6 v7 = (sel (v6.isSome) (sel (v6.isSome) (sel (decide ((0 : Int) ≤ Go.IntKind.i64.wrap ((v6.getD ([], [], (0 : Int), ())).snd.snd.fst + v7))) (sel (decide (Go.IntKind.i64.wrap ((v6.getD ([], [], (0 : Int), ())).snd.snd.fst + v7) ≤ (↑(List.length (v6.getD ([], [], (0 : Int), ())).snd.fst) : Int))) (sel (v6.isSome) (sel ((some ((v6.getD ([], [], (0 : Int), ())).fst, Lk.ext (v6.getD ([], [], (0 : Int), ())).snd.fst (0 : Int) (Go.IntKind.i64.wrap ((v6.getD ([], [], (0 : Int), ())).snd.snd.fst + v7)), (v6.getD ([], [], (0 : Int), ())).snd.snd)).isSome) (sel ((some ((v6.getD ([], [], (0 : Int), ())).fst, Lk.ext (v6.getD ([], [], (0 : Int), ())).snd.fst (0 : Int) (Go.IntKind.i64.wrap ((v6.getD ([], [], (0 : Int), ())).snd.snd.fst + v7)), (v6.getD ([], [], (0 : Int), ())).snd.snd)).isSome) (sel (v0.isSome) (sel (v0.isSome) (sel ((some ((v6.getD ([], [], (0 : Int), ())).fst, Lk.ext (v6.getD ([], [], (0 : Int), ())).snd.fst (0 : Int) (Go.IntKind.i64.wrap ((v6.getD ([], [], (0 : Int), ())).snd.snd.fst + v7)), (↑(Lk.ext (v6.getD ([], [], (0 : Int), ())).snd.fst (0 : Int) (Go.IntKind.i64.wrap ((v6.getD ([], [], (0 : Int), ())).snd.snd.fst + v7))).length : Int), (v6.getD ([], [], (0 : Int), ())).snd.snd.snd)).isSome) (sel (decide ((0 : Int) ≤ v5)) (sel (decide (v5 < (↑(List.length (v0.getD ([], (0 : Int), (0 : Int), (0 : Int), (0 : Int), ())).fst) : Int))) (p46_5 n1 n0 n1 (some (List.set (v0.getD ([], (0 : Int), (0 : Int), (0 : Int), (0 : Int), ())).fst v5.toNat ((some ((v6.getD ([], [], (0 : Int), ())).fst, Lk.ext (v6.getD ([], [], (0 : Int), ())).snd.fst (0 : Int) (Go.IntKind.i64.wrap ((v6.getD ([], [], (0 : Int), ())).snd.snd.fst + v7)), (↑(Lk.ext (v6.getD ([], [], (0 : Int), ())).snd.fst (0 : Int) (Go.IntKind.i64.wrap ((v6.getD ([], [], (0 : Int), ())).snd.snd.fst + v7))).length : Int), (v6.getD ([], [], (0 : Int), ())).snd.snd.snd)).getD ([], [], (0 : Int), ())), (v0.getD ([], (0 : Int), (0 : Int), (0 : Int), (0 : Int), ())).snd)) v1 v5) none) none) none) none) none) none) none) none) none) none) none) none)
  p46_14_1_eq (j n0 n1 n2 n3 : Nat) (v0 : Option AbR) (v1 : List (Int)) (v5 : Int) (v6 : Option ((List UInt8 × (List UInt8 × (Int × Unit))))) (v7 : Int) : p46_14_1 (j + 1) n0 n1 n2 n3 v0 v1 v5 v6 v7 = (sel (v6.isSome) (sel (v6.isSome) (sel (decide ((0 : Int) ≤ Go.IntKind.i64.wrap ((v6.getD ([], [], (0 : Int), ())).snd.snd.fst + v7))) (sel (decide (Go.IntKind.i64.wrap ((v6.getD ([], [], (0 : Int), ())).snd.snd.fst + v7) ≤ (↑(List.length (v6.getD ([], [], (0 : Int), ())).snd.fst) : Int))) (sel (v6.isSome) (sel ((some ((v6.getD ([], [], (0 : Int), ())).fst, Lk.ext (v6.getD ([], [], (0 : Int), ())).snd.fst (0 : Int) (Go.IntKind.i64.wrap ((v6.getD ([], [], (0 : Int), ())).snd.snd.fst + v7)), (v6.getD ([], [], (0 : Int), ())).snd.snd)).isSome) (sel ((some ((v6.getD ([], [], (0 : Int), ())).fst, Lk.ext (v6.getD ([], [], (0 : Int), ())).snd.fst (0 : Int) (Go.IntKind.i64.wrap ((v6.getD ([], [], (0 : Int), ())).snd.snd.fst + v7)), (v6.getD ([], [], (0 : Int), ())).snd.snd)).isSome) (sel (v0.isSome) (sel (v0.isSome) (sel ((some ((v6.getD ([], [], (0 : Int), ())).fst, Lk.ext (v6.getD ([], [], (0 : Int), ())).snd.fst (0 : Int) (Go.IntKind.i64.wrap ((v6.getD ([], [], (0 : Int), ())).snd.snd.fst + v7)), (↑(Lk.ext (v6.getD ([], [], (0 : Int), ())).snd.fst (0 : Int) (Go.IntKind.i64.wrap ((v6.getD ([], [], (0 : Int), ())).snd.snd.fst + v7))).length : Int), (v6.getD ([], [], (0 : Int), ())).snd.snd.snd)).isSome) (sel (decide ((0 : Int) ≤ v5)) (sel (decide (v5 < (↑(List.length (v0.getD ([], (0 : Int), (0 : Int), (0 : Int), (0 : Int), ())).fst) : Int))) (p46_5 n1 n0 n1 (some (List.set (v0.getD ([], (0 : Int), (0 : Int), (0 : Int), (0 : Int), ())).fst v5.toNat ((some ((v6.getD ([], [], (0 : Int), ())).fst, Lk.ext (v6.getD ([], [], (0 : Int), ())).snd.fst (0 : Int) (Go.IntKind.i64.wrap ((v6.getD ([], [], (0 : Int), ())).snd.snd.fst + v7)), (↑(Lk.ext (v6.getD ([], [], (0 : Int), ())).snd.fst (0 : Int) (Go.IntKind.i64.wrap ((v6.getD ([], [], (0 : Int), ())).snd.snd.fst + v7))).length : Int), (v6.getD ([], [], (0 : Int), ())).snd.snd.snd)).getD ([], [], (0 : Int), ())), (v0.getD ([], (0 : Int), (0 : Int), (0 : Int), (0 : Int), ())).snd)) v1 v5) none) none) none) none) none) none) none) none) none) none) none) none)
  p46_5_eq (j n0 n1 : Nat) (v0 : Option AbR) (v1 : List (Int)) (v5 : Int) : p46_5 (j + 1) n0 n1 v0 v1 v5 = (p46_4 n1 n0 v0 v1 (Go.IntKind.i64.wrap (v5 + (1 : Int))))
  f18_eq (n : Nat) (a0 : Option AbR) (a1 : AbA) : f18 (n + 1) a0 a1 = (sel ((some a1).isSome) (sel (((some a1).getD ((0 : Int), [], [], [], (0 : Int), (0 : Int), [], ())).fst == (0 : Int)) (sel ((some a1).isSome) (obind (f39 n a0 (((some a1).getD ((0 : Int), [], [], [], (0 : Int), (0 : Int), [], ())).snd.fst)) fun r111 => (some (r111.fst, r111.snd.fst, ()))) none) (sel (((some a1).getD ((0 : Int), [], [], [], (0 : Int), (0 : Int), [], ())).fst == (1 : Int)) (sel ((some a1).isSome) (sel ((some a1).isSome) (obind (f40 n a0 (((some a1).getD ((0 : Int), [], [], [], (0 : Int), (0 : Int), [], ())).snd.fst) (((some a1).getD ((0 : Int), [], [], [], (0 : Int), (0 : Int), [], ())).snd.snd.snd.fst)) fun r219 => (some (r219.fst, r219.snd.fst, ()))) none) none) (sel (((some a1).getD ((0 : Int), [], [], [], (0 : Int), (0 : Int), [], ())).fst == (2 : Int)) (sel ((some a1).isSome) (obind (f41 n a0 (((some a1).getD ((0 : Int), [], [], [], (0 : Int), (0 : Int), [], ())).snd.fst)) fun r306 => (some (r306.fst, r306.snd.fst, ()))) none) (sel (((some a1).getD ((0 : Int), [], [], [], (0 : Int), (0 : Int), [], ())).fst == (3 : Int)) (sel ((some a1).isSome) (sel ((some a1).isSome) (obind (f42 n a0 (((some a1).getD ((0 : Int), [], [], [], (0 : Int), (0 : Int), [], ())).snd.fst) (((some a1).getD ((0 : Int), [], [], [], (0 : Int), (0 : Int), [], ())).snd.snd.fst)) fun r407 => (some (r407.fst, r407.snd.fst, ()))) none) none) (sel (((some a1).getD ((0 : Int), [], [], [], (0 : Int), (0 : Int), [], ())).fst == (4 : Int)) (sel ((some a1).isSome) (obind (f43 n a0 (((some a1).getD ((0 : Int), [], [], [], (0 : Int), (0 : Int), [], ())).snd.fst)) fun r494 => (some (r494.fst, r494.snd.fst, ()))) none) (sel (((some a1).getD ((0 : Int), [], [], [], (0 : Int), (0 : Int), [], ())).fst == (5 : Int)) (sel ((some a1).isSome) (obind (f44 n a0 (((some a1).getD ((0 : Int), [], [], [], (0 : Int), (0 : Int), [], ())).snd.snd.snd.snd.snd.fst)) fun r581 => (some (r581.fst, r581.snd.fst, ()))) none) (sel (((some a1).getD ((0 : Int), [], [], [], (0 : Int), (0 : Int), [], ())).fst == (6 : Int)) (sel ((some a1).isSome) (sel ((some a1).isSome) (obind (f45 n a0 (((some a1).getD ((0 : Int), [], [], [], (0 : Int), (0 : Int), [], ())).snd.snd.snd.snd.fst) (((some a1).getD ((0 : Int), [], [], [], (0 : Int), (0 : Int), [], ())).snd.snd.snd.snd.snd.fst)) fun r682 => (some (r682.fst, r682.snd.fst, ()))) none) none) (sel (((some a1).getD ((0 : Int), [], [], [], (0 : Int), (0 : Int), [], ())).fst == (7 : Int)) (sel ((some a1).isSome) (obind (f46 n a0 (((some a1).getD ((0 : Int), [], [], [], (0 : Int), (0 : Int), [], ())).snd.snd.snd.snd.snd.snd.fst)) fun r769 => (some (r769.fst, r769.snd.fst, ()))) none) (some ((0 : Int), a0, ())))))))))) none)
  f19_eq (n : Nat) (a0 : Option Lk.DiskS) (a1 : Option AbR) (a2 : AbA) : f19 (n + 1) a0 a1 a2 = (obind (f12 n a0) fun r47 => (obind (f47 n a1) fun r79 => (sel ((↑(List.length r47.fst) : Int) != (↑(List.length r79.fst) : Int)) (p19_2052 n n a0 a1 (some a2) (r47.fst) (r79.fst) true) (obind (f15 n a0) fun r401 => (obind (f48 n a1) fun r429 => (sel (r401.fst != r429.fst) (p19_2052 n n a0 a1 (some a2) (r47.fst) (r79.fst) true) (obind (f22 n a0) fun r649 => (sel (a1.isSome) (sel (a1.isSome) (sel (r649.fst != (a1.getD ([], (0 : Int), (0 : Int), (0 : Int), (0 : Int), ())).snd.fst) (p19_2052 n n a0 a1 (some a2) (r47.fst) (r79.fst) true) (obind (f21 n a0) fun r837 => (sel (a1.isSome) (sel (a1.isSome) (p19_2052 n n a0 a1 (some a2) (r47.fst) (r79.fst) (r837.fst != (a1.getD ([], (0 : Int), (0 : Int), (0 : Int), (0 : Int), ())).snd.snd.snd.snd.fst)) none) none))) none) none))))))))
  p19_2052_eq (j n0 : Nat) (v0 : Option Lk.DiskS) (v1 : Option AbR) (v5 : Option AbA) (v7 : List (List UInt8)) (v8 : List (List UInt8)) (v63 : Bool) : p19_2052 (j + 1) n0 v0 v1 v5 v7 v8 v63 = (sel v63 (some (false, ())) (p19_5 n0 n0 v0 v1 v5 v7 v8))
  p19_5_eq (j n0 : Nat) (v0 : Option Lk.DiskS) (v1 : Option AbR) (v5 : Option AbA) (v7 : List (List UInt8)) (v8 : List (List UInt8)) : p19_5 (j + 1) n0 v0 v1 v5 v7 v8 = (p19_6 j n0 j v0 v1 v5 v7 v8 ((0 : Int)))
  p19_6_eq (j n0 n1 : Nat) (v0 : Option Lk.DiskS) (v1 : Option AbR) (v5 : Option AbA) (v7 : List (List UInt8)) (v8 : List (List UInt8)) (v9 : Int) : p19_6 (j + 1) n0 n1 v0 v1 v5 v7 v8 v9 = (sel (decide (v9 < (↑v7.length : Int))) (sel (decide ((0 : Int) ≤ v9)) (sel (decide (v9 < (↑v8.length : Int))) (obind (f14 j v0 (v8.getD v9.toNat [])) fun r1078 => (sel (decide ((0 : Int) ≤ v9)) (sel (decide (v9 < (↑v8.length : Int))) (obind (f49 j v1 (v8.getD v9.toNat [])) fun r1180 => (sel (decide ((0 : Int) ≤ v9)) (sel (decide (v9 < (↑v7.length : Int))) (sel (decide ((0 : Int) ≤ v9)) (sel (decide (v9 < (↑v8.length : Int))) (sel (!v7.getD v9.toNat [] == v8.getD v9.toNat []) (p19_2059 j n0 n1 j v0 v1 v5 v7 v8 v9 (r1180.fst) true) (sel (r1078.fst != r1180.fst) (p19_2059 j n0 n1 j v0 v1 v5 v7 v8 v9 (r1180.fst) true) (sel (r1078.snd.fst != r1180.snd.fst) (p19_2059 j n0 n1 j v0 v1 v5 v7 v8 v9 (r1180.fst) true) (p19_2059 j n0 n1 j v0 v1 v5 v7 v8 v9 (r1180.fst) (r1078.snd.snd.fst != (0 : Int)))))) none) none) none) none)) none) none)) none) none) (sel (v5.isSome) (sel (v5.isSome) (sel (v5.isSome) (obind (f26 n1 v0 ((v5.getD ((0 : Int), [], [], [], (0 : Int), (0 : Int), [], ())).snd.fst) ((v5.getD ((0 : Int), [], [], [], (0 : Int), (0 : Int), [], ())).snd.snd.snd.snd.fst) ((v5.getD ((0 : Int), [], [], [], (0 : Int), (0 : Int), [], ())).snd.snd.snd.snd.snd.fst)) fun r1727 => (sel (v5.isSome) (sel (v5.isSome) (sel (v5.isSome) (obind (f50 n1 v1 ((v5.getD ((0 : Int), [], [], [], (0 : Int), (0 : Int), [], ())).snd.fst) ((v5.getD ((0 : Int), [], [], [], (0 : Int), (0 : Int), [], ())).snd.snd.snd.snd.fst) ((v5.getD ((0 : Int), [], [], [], (0 : Int), (0 : Int), [], ())).snd.snd.snd.snd.snd.fst)) fun r1829 => (sel (v5.isSome) (obind (f14 n1 v0 ((v5.getD ((0 : Int), [], [], [], (0 : Int), (0 : Int), [], ())).snd.fst)) fun r1903 => (sel (v5.isSome) (obind (f49 n1 v1 ((v5.getD ((0 : Int), [], [], [], (0 : Int), (0 : Int), [], ())).snd.fst)) fun r1991 => (sel (r1727.fst == r1829.fst) (sel (r1727.snd.fst == r1829.snd.fst) (sel (r1903.fst == r1991.fst) (sel (r1903.snd.fst == r1991.snd.fst) (some (r1903.snd.snd.fst == r1991.snd.snd.fst, ())) (some (false, ()))) (some (false, ()))) (some (false, ()))) (some (false, ())))) none)) none)) none) none) none)) none) none) none))
  p19_2059_eq (j n0 n1 n2 : Nat) (v0 : Option Lk.DiskS) (v1 : Option AbR) (v5 : Option AbA) (v7 : List (List UInt8)) (v8 : List (List UInt8)) (v9 : Int) (v13 : Int) (v112 : Bool) : p19_2059 (j + 1) n0 n1 n2 v0 v1 v5 v7 v8 v9 v13 v112 = (sel v112 (some (false, ())) (p19_12 n2 n0 n1 n2 v0 v1 v5 v7 v8 v9 v13))
  p19_12_eq (j n0 n1 n2 : Nat) (v0 : Option Lk.DiskS) (v1 : Option AbR) (v5 : Option AbA) (v7 : List (List UInt8)) (v8 : List (List UInt8)) (v9 : Int) (v13 : Int) : p19_12 (j + 1) n0 n1 n2 v0 v1 v5 v7 v8 v9 v13 = (sel (decide ((0 : Int) ≤ v9)) (sel (decide (v9 < (↑v7.length : Int))) (obind (f26 j v0 (v7.getD v9.toNat []) ((0 : Int)) v13) fun r2881 => (sel (decide ((0 : Int) ≤ v9)) (sel (decide (v9 < (↑v8.length : Int))) (obind (f50 j v1 (v8.getD v9.toNat []) ((0 : Int)) v13) fun r2976 => (sel (!r2881.fst == r2976.fst) (p19_2063 j n0 n1 n2 j v0 v1 v5 v7 v8 v9 (r2881.fst) true) (p19_2063 j n0 n1 n2 j v0 v1 v5 v7 v8 v9 (r2881.fst) (r2881.snd.fst != (0 : Int))))) none) none)) none) none)
  p19_2063_eq (j n0 n1 n2 n3 : Nat) (v0 : Option Lk.DiskS) (v1 : Option AbR) (v5 : Option AbA) (v7 : List (List UInt8)) (v8 : List (List UInt8)) (v9 : Int) (v16 : List (UInt8)) (v140 : Bool) : p19_2063 (j + 1) n0 n1 n2 n3 v0 v1 v5 v7 v8 v9 v16 v140 = (sel v140 (some (false, ())) (p19_16 n3 n0 n1 n2 n3 v0 v1 v5 v7 v8 v9 v16))
  p19_16_eq (j n0 n1 n2 n3 : Nat) (v0 : Option Lk.DiskS) (v1 : Option AbR) (v5 : Option AbA) (v7 : List (List UInt8)) (v8 : List (List UInt8)) (v9 : Int) (v16 : List (UInt8)) : p19_16 (j + 1) n0 n1 n2 n3 v0 v1 v5 v7 v8 v9 v16 = (p19_17 j n0 n1 n2 n3 j v0 v1 v5 v7 v8 v9 v16 ((0 : Int)))
  p19_17_eq (j n0 n1 n2 n3 n4 : Nat) (v0 : Option Lk.DiskS) (v1 : Option AbR) (v5 : Option AbA) (v7 : List (List UInt8)) (v8 : List (List UInt8)) (v9 : Int) (v16 : List (UInt8)) (v19 : Int) : p19_17 (j + 1) n0 n1 n2 n3 n4 v0 v1 v5 v7 v8 v9 v16 v19 = (sel (decide (v19 < (↑v16.length : Int))) (sel (decide ((0 : Int) ≤ v19)) (sel (decide (v19 < (↑v16.length : Int))) (sel (decide ((0 : Int) ≤ v19)) (sel (decide (v19 < (↑v16.length : Int))) (p19_17 j n0 n1 n2 n3 n4 v0 v1 v5 v7 v8 v9 (v16.set v19.toNat (UInt8.ofNat (Go.IntKind.u8.wrap ((↑(UInt8.toNat (v16.getD v19.toNat (0 : UInt8))) : Int) + (↑(UInt8.toNat (1 : UInt8)) : Int))).toNat)) (Go.IntKind.i64.wrap (v19 + (1 : Int)))) none) none) none) none) (sel (decide ((0 : Int) ≤ v9)) (sel (decide (v9 < (↑v7.length : Int))) (p19_7 n2 n0 n1 n2 v0 v1 v5 (v7.set v9.toNat [(115 : UInt8), (112 : UInt8), (111 : UInt8), (105 : UInt8), (108 : UInt8), (116 : UInt8)]) v8 v9) none) none))
  p19_7_eq (j n0 n1 n2 : Nat) (v0 : Option Lk.DiskS) (v1 : Option AbR) (v5 : Option AbA) (v7 : List (List UInt8)) (v8 : List (List UInt8)) (v9 : Int) : p19_7 (j + 1) n0 n1 n2 v0 v1 v5 v7 v8 v9 = (p19_6 n2 n0 n1 v0 v1 v5 v7 v8 (Go.IntKind.i64.wrap (v9 + (1 : Int))))
  f4_eq (n : Nat) (a0 : Int) (a1 : List AbA) : f4 (n + 1) a0 a1 = (obind (f8 n a0) fun r40 => (obind (f16 n a0) fun r100 => (sel (r40.snd.fst != r100.snd.fst) (p4_2052 n n a1 (r40.fst) (r100.fst) true) (sel (Option.isNone r40.fst != Option.isNone r100.fst) (p4_2052 n n a1 (r40.fst) (r100.fst) true) (obind (f17 n ) fun r377 => (p4_2052 n n a1 (r40.fst) (r100.fst) (!r377.fst)))))))
  p4_2052_eq (j n0 : Nat) (v1 : List AbA) (v5 : Option Lk.DiskS) (v7 : Option AbR) (v33 : Bool) : p4_2052 (j + 1) n0 v1 v5 v7 v33 = (sel v33 (some (false, ())) (p4_5 n0 n0 v1 v5 v7))
  p4_5_eq (j n0 : Nat) (v1 : List AbA) (v5 : Option Lk.DiskS) (v7 : Option AbR) : p4_5 (j + 1) n0 v1 v5 v7 = (sel (v7.isNone) (some (true, ())) (p4_8 j n0 j v1 v5 v7 ((0 : Int))))
  p4_8_eq (j n0 n1 : Nat) (v1 : List AbA) (v5 : Option Lk.DiskS) (v7 : Option AbR) (v9 : Int) : p4_8 (j + 1) n0 n1 v1 v5 v7 v9 = (sel (decide (v9 < (↑v1.length : Int))) (sel (decide ((0 : Int) ≤ v9)) (sel (decide (v9 < (↑v1.length : Int))) (sel (decide ((0 : Int) ≤ v9)) (sel (decide (v9 < (↑v1.length : Int))) (obind (f9 j v5 (v1.getD v9.toNat ((0 : Int), [], [], [], (0 : Int), (0 : Int), [], ()))) fun r671 => (obind (f18 j v7 (v1.getD v9.toNat ((0 : Int), [], [], [], (0 : Int), (0 : Int), [], ()))) fun r685 => (sel (r671.fst != r685.fst) (p4_2059 j n0 n1 j v1 (r671.snd.fst) (r685.snd.fst) v9 true) (sel (decide ((0 : Int) ≤ v9)) (sel (decide (v9 < (↑v1.length : Int))) (obind (f19 j (r671.snd.fst) (r685.snd.fst) (v1.getD v9.toNat ((0 : Int), [], [], [], (0 : Int), (0 : Int), [], ()))) fun r875 => (p4_2059 j n0 n1 j v1 (r671.snd.fst) (r685.snd.fst) v9 (!r875.fst))) none) none)))) none) none) none) none) (obind (f19 n1 v5 v7 (((0 : Int), [], [], [], (0 : Int), (0 : Int), [], ()))) fun r946 => (some (r946.fst, ()))))
  p4_2059_eq (j n0 n1 n2 : Nat) (v1 : List AbA) (v5 : Option Lk.DiskS) (v7 : Option AbR) (v9 : Int) (v64 : Bool) : p4_2059 (j + 1) n0 n1 n2 v1 v5 v7 v9 v64 = (sel v64 (some (false, ())) (p4_9 n2 n0 n1 n2 v1 v5 v7 v9))
  p4_9_eq (j n0 n1 n2 : Nat) (v1 : List AbA) (v5 : Option Lk.DiskS) (v7 : Option AbR) (v9 : Int) : p4_9 (j + 1) n0 n1 n2 v1 v5 v7 v9 = (p4_8 n2 n0 n1 v1 v5 v7 (Go.IntKind.i64.wrap (v9 + (1 : Int))))
end Dk

/-! The document's disk: lists of files, and places in them. -/
namespace Dk
open Go Lk

abbrev RF := List UInt8 × (List UInt8 × (Int × Unit))
abbrev R := List RF × (Int × (Int × (Int × (Int × Unit))))
def fR (f : DFile) : RF := (f.name, f.bytes, f.synced, ())
def toR (d : DiskS) : R := (d.files.map fR, d.quota, d.after, d.count, d.refused, ())

def pos (s : Nm) : List DFile → Nat
  | [] => 0
  | g :: l => if g.name < s then pos s l + 1 else 0

theorem pos_le (s : Nm) : ∀ l, pos s l ≤ l.length
  | [] => Nat.le_refl _
  | g :: l => by
    unfold pos
    split
    · have := pos_le s l; simp only [List.length_cons]; omega
    · simp

theorem pos_lt {s : Nm} : ∀ {l : List DFile} {i : Nat} {f : DFile}, i < pos s l → l[i]? = some f → f.name < s
  | [], i, f, h, hf => by simp at hf
  | g :: l, 0, f, h, hf => by
    simp only [List.getElem?_cons_zero, Option.some.injEq] at hf
    subst hf
    unfold pos at h
    split at h
    · assumption
    · omega
  | g :: l, i + 1, f, h, hf => by
    simp only [List.getElem?_cons_succ] at hf
    unfold pos at h
    split at h
    · exact pos_lt (by omega) hf
    · omega

theorem pos_at {s : Nm} : ∀ {l : List DFile} {f : DFile}, l[pos s l]? = some f → ¬ f.name < s
  | [], f, hf => by simp at hf
  | g :: l, f, hf => by
    unfold pos at hf
    split at hf
    · simp only [List.getElem?_cons_succ] at hf; exact pos_at hf
    · rename_i h
      simp only [List.getElem?_cons_zero, Option.some.injEq] at hf
      subst hf
      exact h

theorem look_late {s : Nm} {l : List DFile} (h : ∀ f ∈ l, s < f.name) : look l s = none := by
  cases hl : look l s with
  | none => rfl
  | some f =>
    obtain ⟨h1, h2⟩ := look_some hl
    have := h f h1
    rw [h2] at this
    exact absurd this (lt_irr _)

theorem look_pos {s : Nm} : ∀ {l : List DFile}, Sorted l → look l s = (l[pos s l]?).bind fun f => if f.name = s then some f else none
  | [], _ => rfl
  | g :: l, hs => by
    rw [look_cons]
    unfold pos
    split
    · rename_i h
      subst h
      rw [if_neg (lt_irr _)]
      simp
    · rename_i h
      split
      · rw [look_pos hs.of_cons]; rfl
      · rename_i hg
        simp only [List.getElem?_cons_zero, Option.bind_some, if_neg h]
        refine look_late fun f hf => ?_
        have h1 := (List.pairwise_cons.1 hs).1 f hf
        rcases lt_tri g.name s with h2 | h2 | h2
        · exact absurd h2 hg
        · exact absurd h2 h
        · exact lt_tr h2 h1

theorem ins_pos (f : DFile) : ∀ l : List DFile, ins f l = l.take (pos f.name l) ++ f :: l.drop (pos f.name l)
  | [] => rfl
  | g :: l => by
    unfold ins pos
    split
    · simp [ins_pos f l]
    · simp

theorem look_some_at {s : Nm} {l : List DFile} {f : DFile} (hs : Sorted l) (h : look l s = some f) : l[pos s l]? = some f ∧ f.name = s := by
  rw [look_pos hs] at h
  cases hl : l[pos s l]? with
  | none => rw [hl] at h; cases h
  | some g =>
    rw [hl] at h
    simp only [Option.bind_some] at h
    split at h
    · cases h; exact ⟨rfl, by assumption⟩
    · cases h

theorem del_late {s : Nm} {l : List DFile} (h : ∀ f ∈ l, s < f.name) : del s l = l :=
  del_none fun f hf e => by have := h f hf; rw [e] at this; exact lt_irr _ this

theorem del_pos {s : Nm} : ∀ {l : List DFile} {f : DFile}, Sorted l → look l s = some f → del s l = l.take (pos s l) ++ l.drop (pos s l + 1)
  | [], f, _, h => by simp [look] at h
  | g :: l, f, hs, h => by
    rw [look_cons] at h
    unfold pos
    by_cases hg : g.name = s
    · have hp : ¬ g.name < s := by rw [hg]; exact lt_irr _
      rw [if_neg hp]
      have : del s (g :: l) = del s l := by simp [del, hg]
      rw [this, del_late (fun f hf => by rw [← hg]; exact (List.pairwise_cons.1 hs).1 f hf)]
      simp
    · rw [if_neg hg] at h
      have h1 := (look_some h)
      have hp : g.name < s := by rw [← h1.2]; exact (List.pairwise_cons.1 hs).1 f h1.1
      rw [if_pos hp]
      have : del s (g :: l) = g :: del s l := by simp [del, hg]
      rw [this, del_pos hs.of_cons h]
      simp

theorem pos_del {s : Nm} : ∀ {l : List DFile}, Sorted l → pos s (del s l) = pos s l
  | [], _ => rfl
  | g :: l, hs => by
    by_cases hg : g.name = s
    · have hp : ¬ g.name < s := by rw [hg]; exact lt_irr _
      have : del s (g :: l) = del s l := by simp [del, hg]
      rw [this, del_late (fun f hf => by rw [← hg]; exact (List.pairwise_cons.1 hs).1 f hf)]
      conv => rhs; unfold pos; rw [if_neg hp]
      cases l with
      | nil => rfl
      | cons k l =>
        unfold pos
        rw [if_neg]
        intro hk
        have := (List.pairwise_cons.1 hs).1 k (List.mem_cons_self ..)
        rw [hg] at this
        exact lt_irr _ (lt_tr this hk)
    · have : del s (g :: l) = g :: del s l := by simp [del, hg]
      rw [this]
      unfold pos
      rw [pos_del hs.of_cons]

theorem upd_none {s : Nm} {u : DFile → DFile} {l : List DFile} (h : ∀ f ∈ l, f.name ≠ s) : upd s u l = l := by
  unfold upd
  conv => rhs; rw [← List.map_id l]
  apply List.map_congr_left
  intro f hf
  rw [if_neg (h f hf)]; rfl

theorem upd_pos {s : Nm} {u : DFile → DFile} : ∀ {l : List DFile} {f : DFile}, Sorted l → look l s = some f → upd s u l = l.set (pos s l) (u f)
  | [], f, _, h => by simp [look] at h
  | g :: l, f, hs, h => by
    rw [look_cons] at h
    unfold pos
    by_cases hg : g.name = s
    · have hp : ¬ g.name < s := by rw [hg]; exact lt_irr _
      rw [if_pos hg] at h
      cases h
      rw [if_neg hp]
      have := upd_none (s := s) (u := u) (l := l) (fun k hk e => by
        have := (List.pairwise_cons.1 hs).1 k hk
        rw [e, hg] at this
        exact lt_irr _ this)
      unfold upd at this ⊢
      rw [List.map_cons, if_pos hg, this]
      rfl
    · rw [if_neg hg] at h
      have h1 := (look_some h)
      have hp : g.name < s := by rw [← h1.2]; exact (List.pairwise_cons.1 hs).1 f h1.1
      rw [if_pos hp]
      have := upd_pos (u := u) hs.of_cons h
      unfold upd at this ⊢
      rw [List.map_cons, if_neg hg, this]
      rfl

theorem less_iff : ∀ x y : List UInt8, Go.Op.bytesLess x y = decide (x < y)
  | [], [] => by simp [Go.Op.bytesLess]
  | _ :: _, [] => by simp [Go.Op.bytesLess]
  | [], _ :: _ => by simp [Go.Op.bytesLess]
  | a :: x, b :: y => by
    simp only [Go.Op.bytesLess, less_iff x y, List.cons_lt_cons_iff, Bool.decide_or, Bool.decide_and]
    congr 1
end Dk

/-! The document's functions, each by what it makes of a disk. -/
namespace Dk
open Go Lk

theorem map_get {l : List DFile} {i : Nat} {f : DFile} (h : l[i]? = some f) (z : RF) : (l.map fR).getD ((i : Int).toNat) z = fR f := by
  simp [List.getD_eq_getElem?_getD, h]

theorem ext_take {α : Type} (l : List α) (k : Nat) : Lk.ext l 0 (k : Int) = l.take k := by
  simp [Lk.ext, win]
theorem ext_drop {α : Type} (l : List α) (k : Nat) : Lk.ext l (k : Int) (l.length : Int) = l.drop k := by
  unfold Lk.ext win
  rw [List.take_of_length_le]
  · simp
  · simp only [List.length_drop]; omega

section
variable (X : FnsP)

theorem r58 (n : Nat) (s : Nm) : X.f58 (n + 1) s = some (decide (okN s), ()) := by
  rw [X.f58_eq]
  simp only [sel_ite, decide_eq_true_eq]
  have e : decide (okN s) = if (s.length : Int) ≥ 1 then decide ((s.length : Int) ≤ 64) else false := by
    rw [Bool.eq_iff_iff]
    simp only [decide_eq_true_eq]
    unfold okN
    split
    · simp only [decide_eq_true_eq]; omega
    · constructor
      · intro h; omega
      · intro h; cases h
  rw [e]
  split <;> rfl

theorem r59l (d : DiskS) (hm : d.files.length ≤ 4096) (s : Nm) (n0 : Nat) (hn : 1 ≤ n0) : ∀ (m k j : Nat), k + m = pos s d.files → m + 3 ≤ j →
    X.p59_2 j n0 (some (toR d)) s (k : Int) = some ((pos s d.files : Int), ((d.files[pos s d.files]?).map fun f => f.name == s).getD false, ()) := by
  have hp := pos_le s d.files
  have e4 : ∀ j, X.p59_4 (j + 1) n0 (some (toR d)) s (pos s d.files : Int) = some ((pos s d.files : Int), ((d.files[pos s d.files]?).map fun f => f.name == s).getD false, ()) := by
    intro j
    rw [X.p59_4_eq]
    simp only [Option.isSome_some, Option.getD_some, sel_t]
    simp only [sel_ite, decide_eq_true_eq]
    have hl : (toR d).fst.length = d.files.length := by simp [toR]
    rw [hl]
    by_cases h : pos s d.files < d.files.length
    · have hf : d.files[pos s d.files]? = some d.files[pos s d.files] := List.getElem?_eq_getElem h
      rw [if_pos (by omega), if_pos (by omega), if_pos (by omega), hf, show (toR d).fst = d.files.map fR from rfl, map_get hf]
      rfl
    · rw [if_neg (by omega), List.getElem?_eq_none (by omega)]
      rfl
  intro m
  induction m with
  | zero =>
    intro k j hk hj
    obtain ⟨j, rfl⟩ : ∃ i, j = i + 1 := ⟨j - 1, by omega⟩
    obtain ⟨n, rfl⟩ : ∃ i, n0 = i + 1 := ⟨n0 - 1, by omega⟩
    have hk : k = pos s d.files := by omega
    subst hk
    rw [X.p59_2_eq]
    simp only [Option.isSome_some, Option.getD_some, sel_t]
    simp only [sel_ite, decide_eq_true_eq]
    have hl : (toR d).fst.length = d.files.length := by simp [toR]
    rw [hl]
    by_cases h : pos s d.files < d.files.length
    · have hf : d.files[pos s d.files]? = some d.files[pos s d.files] := List.getElem?_eq_getElem h
      have hno := pos_at hf
      rw [if_pos (by omega), if_pos (by omega), if_pos (by omega), show (toR d).fst = d.files.map fR from rfl, map_get hf, less_iff, if_neg (by rw [decide_eq_true_eq]; exact hno)]
      exact e4 n
    · rw [if_neg (by omega)]
      exact e4 n
  | succ m ih =>
    intro k j hk hj
    obtain ⟨j, rfl⟩ : ∃ i, j = i + 2 := ⟨j - 2, by omega⟩
    have h : k < d.files.length := by omega
    have hf : d.files[k]? = some d.files[k] := List.getElem?_eq_getElem h
    have hlt := pos_lt (show k < pos s d.files by omega) hf
    rw [X.p59_2_eq]
    simp only [Option.isSome_some, Option.getD_some, sel_t]
    simp only [sel_ite, decide_eq_true_eq]
    have hl : (toR d).fst.length = d.files.length := by simp [toR]
    rw [hl, if_pos (by omega), if_pos (by omega), if_pos (by omega), show (toR d).fst = d.files.map fR from rfl, map_get hf, less_iff, if_pos (by rw [decide_eq_true_eq]; exact hlt), X.p59_3_eq, wrap64 (by omega) (by omega)]
    have := ih (k + 1) (j + 1) (by omega) (by omega)
    simpa using this

theorem r59 (d : DiskS) (h : Good d) (s : Nm) (n : Nat) (hn : 4110 ≤ n) : X.f59 n (some (toR d)) s = some ((pos s d.files : Int), (look d.files s).isSome, ()) := by
  obtain ⟨m, rfl⟩ : ∃ i, n = i + 1 := ⟨n - 1, by omega⟩
  have hm := h.many
  have hp := pos_le s d.files
  rw [X.f59_eq]
  have := r59l X d hm s m (by omega) (pos s d.files) 0 m (by omega) (by omega)
  have e : ((d.files[pos s d.files]?).map fun f => f.name == s).getD false = (look d.files s).isSome := by
    rw [look_pos h.sorted]
    cases d.files[pos s d.files]? with
    | none => rfl
    | some f =>
      simp only [Option.map_some, Option.getD_some, Option.bind_some]
      split
      · simp [*]
      · simp [*]
  rw [e] at this
  simpa using this

theorem total_take (l : List DFile) (k : Nat) (f : DFile) (h : l[k]? = some f) : total (l.take (k + 1)) = total (l.take k) + f.bytes.length := by
  rw [List.take_add_one, h, total_append]
  simp [total]

theorem total_le (l : List DFile) (k : Nat) : total (l.take k) ≤ total l := by
  have := total_append (l.take k) (l.drop k)
  rw [List.take_append_drop] at this
  have := total_nonneg (l.drop k)
  omega

theorem r48l (d : DiskS) (h : Good d) (n0 : Nat) : ∀ (m k j : Nat), k + m = d.files.length → m + 1 ≤ j →
    X.p48_3 j n0 (some (toR d)) (total (d.files.take k)) (k : Int) = some (d.used, ()) := by
  have hmany := h.many
  have hl : (toR d).fst.length = d.files.length := by simp [toR]
  intro m
  induction m with
  | zero =>
    intro k j hk hj
    obtain ⟨j, rfl⟩ : ∃ i, j = i + 1 := ⟨j - 1, by omega⟩
    rw [X.p48_3_eq]
    simp only [Option.isSome_some, Option.getD_some, sel_t]
    simp only [sel_ite, decide_eq_true_eq]
    rw [hl, if_neg (by omega), List.take_of_length_le (by omega), h.used]
  | succ m ih =>
    intro k j hk hj
    obtain ⟨j, rfl⟩ : ∃ i, j = i + 1 := ⟨j - 1, by omega⟩
    have hlt : k < d.files.length := by omega
    have hf : d.files[k]? = some d.files[k] := List.getElem?_eq_getElem hlt
    have h1 := total_take d.files k _ hf
    have h2 := total_le d.files (k + 1)
    have h3 := total_nonneg (d.files.take k)
    have h4 := h.most
    have h5 := h.used
    rw [X.p48_3_eq]
    simp only [Option.isSome_some, Option.getD_some, sel_t]
    simp only [sel_ite, decide_eq_true_eq]
    rw [hl, if_pos (by omega), if_pos (by omega), if_pos (by omega), show (toR d).fst = d.files.map fR from rfl, map_get hf, show (fR d.files[k]).snd.fst = d.files[k].bytes from rfl, wrap64 (by omega) (by omega), wrap64 (by omega) (by omega), ← h1]
    have := ih (k + 1) j (by omega) (by omega)
    simpa using this

theorem r48 (d : DiskS) (h : Good d) (n : Nat) (hn : 4110 ≤ n) : X.f48 n (some (toR d)) = some (d.used, ()) := by
  obtain ⟨m, rfl⟩ : ∃ i, n = i + 1 := ⟨n - 1, by omega⟩
  have hm := h.many
  rw [X.f48_eq]
  have := r48l X d h m d.files.length 0 m (by omega) (by omega)
  simpa [total] using this

theorem r47l (d : DiskS) (h : Good d) (n0 : Nat) (hn : 1 ≤ n0) : ∀ (m k j : Nat), k + m = d.files.length → m + 2 ≤ j →
    X.p47_3 j n0 (some (toR d)) ((list d).take k) (k : Int) = some (list d, ()) := by
  have hmany := h.many
  have hl : (toR d).fst.length = d.files.length := by simp [toR]
  have hl2 : (list d).length = d.files.length := by simp [list]
  intro m
  induction m with
  | zero =>
    intro k j hk hj
    obtain ⟨j, rfl⟩ : ∃ i, j = i + 1 := ⟨j - 1, by omega⟩
    obtain ⟨n, rfl⟩ : ∃ i, n0 = i + 1 := ⟨n0 - 1, by omega⟩
    rw [X.p47_3_eq]
    simp only [Option.isSome_some, Option.getD_some, sel_t]
    simp only [sel_ite, decide_eq_true_eq]
    rw [hl, if_neg (by omega), X.p47_6_eq, List.take_of_length_le (by omega)]
  | succ m ih =>
    intro k j hk hj
    obtain ⟨j, rfl⟩ : ∃ i, j = i + 2 := ⟨j - 2, by omega⟩
    have hlt : k < d.files.length := by omega
    have hf : d.files[k]? = some d.files[k] := List.getElem?_eq_getElem hlt
    have htl : ((list d).take k).length = k := by rw [List.length_take]; omega
    rw [X.p47_3_eq]
    simp only [Option.isSome_some, Option.getD_some, sel_t]
    simp only [sel_ite, decide_eq_true_eq]
    rw [hl, if_pos (by omega), X.p47_5_eq]
    simp only [Option.isSome_some, Option.getD_some, sel_t]
    simp only [sel_ite, decide_eq_true_eq]
    rw [hl, if_pos (by omega), if_pos (by omega), htl, if_pos (by omega), show (toR d).fst = d.files.map fR from rfl, map_get hf, wrap64 (by omega) (by omega)]
    have e : (list d).take k ++ [(fR d.files[k]).fst] = (list d).take (k + 1) := by
      rw [List.take_add_one]
      simp [list, hf, fR]
    rw [e]
    have := ih (k + 1) (j + 1) (by omega) (by omega)
    simpa using this

theorem r47 (d : DiskS) (h : Good d) (n : Nat) (hn : 4110 ≤ n) : X.f47 n (some (toR d)) = some (list d, ()) := by
  obtain ⟨m, rfl⟩ : ∃ i, n = i + 1 := ⟨n - 1, by omega⟩
  have hm := h.many
  rw [X.f47_eq]
  have := r47l X d h m (by omega) d.files.length 0 m (by omega) (by omega)
  simpa using this

theorem r60 (d : DiskS) (h : Good d) (t : Bool) (n : Nat) (hn : 10 ≤ n) : X.f60 n (some (toR d)) t = some ((try_ d t).1, some (toR (try_ d t).2), ()) := by
  obtain ⟨m, rfl⟩ : ∃ i, n = i + 3 := ⟨n - 3, by omega⟩
  have ha := h.after
  have hc := h.count
  have e7 : ∀ (x : DiskS) (t : Bool), X.p60_7 (m + 2) (m + 2) (some (toR x)) t = some (t, some (toR (if t then more x else x)), ()) := by
    intro x t
    rw [X.p60_7_eq]
    cases t with
    | true =>
      simp only [Option.isSome_some, Option.getD_some, sel_t]
      rw [X.p60_9_eq]
      rfl
    | false =>
      simp only [sel_f]
      rw [X.p60_9_eq]
      rfl
  rw [X.f60_eq]
  simp only [Option.isSome_some, Option.getD_some, sel_t]
  simp only [sel_ite, decide_eq_true_eq]
  unfold try_
  by_cases h1 : 0 < d.after
  · rw [if_pos (by exact h1), if_pos h1]
    have := e7 { d with after := d.after - 1 } t
    simp only [toR] at this ⊢
    rw [wrap64 (by omega) (by omega), this]
  · rw [if_neg (by exact h1), if_neg h1]
    by_cases h2 : 0 < d.count
    · rw [if_pos (by exact h2), if_pos h2]
      have := e7 { d with count := d.count - 1 } true
      simp only [toR] at this ⊢
      rw [wrap64 (by omega) (by omega), this]
      rfl
    · rw [if_neg (by exact h2), if_neg h2]
      exact e7 d t
end
end Dk

/-! The document's acts, each by what it makes of a disk. -/
namespace Dk
open Go Lk

theorem more_toR (d : DiskS) (l : List DFile) (u : Int) : toR { d with files := l, used := u } = (l.map fR, (toR d).2) := rfl
theorem toR_fst (d : DiskS) : (toR d).fst = d.files.map fR := rfl
theorem toR_snd (d : DiskS) : (toR d).snd = (d.quota, d.after, d.count, d.refused, ()) := rfl
theorem map_len (l : List DFile) : (l.map fR).length = l.length := List.length_map ..

theorem map_getN {l : List DFile} {i : Nat} {f : DFile} (h : l[i]? = some f) (z : RF) : (l.map fR).getD i z = fR f := by
  simp [List.getD_eq_getElem?_getD, h]

theorem look_pos_lt {s : Nm} {l : List DFile} {f : DFile} (hs : Sorted l) (h : look l s = some f) : pos s l < l.length := by
  have := (look_some_at hs h).1
  rcases Nat.lt_or_ge (pos s l) l.length with h1 | h1
  · exact h1
  · rw [List.getElem?_eq_none h1] at this; cases this

section
variable (X : FnsP)

theorem r39 (d : DiskS) (h : Good d) (s : Nm) (n : Nat) (hn : 4200 ≤ n) : X.f39 n (some (toR d)) s = some ((create d s).1, some (toR (create d s).2), ()) := by
  obtain ⟨m, rfl⟩ : ∃ i, n = i + 2 := ⟨n - 2, by omega⟩
  have hm := h.many
  have hp := pos_le s d.files
  rw [X.f39_eq, r58, r59 X d h s (m + 1) (by omega)]
  simp only [Option.isNone_some, sel_f, ob_some, Option.isSome_some, Option.getD_some, sel_t, toR_fst, map_len]
  rw [r60 X d h _ (m + 1) (by omega)]
  simp only [ob_some, Option.isSome_some, Option.getD_some, sel_t]
  unfold create
  by_cases hk : okN s
  · rw [if_pos hk, sel_ite, if_neg (by simp [hk])]
    cases hl : look d.files s with
    | some f => rfl
    | none =>
      simp only [Option.isSome_none, sel_f]
      have ed : decide ((d.files.length : Int) ≥ 4096) = decide (4096 ≤ d.files.length) := by
        rw [decide_eq_decide]; omega
      rw [ed]
      have hkp := try_keeps d (decide (4096 ≤ d.files.length))
      generalize try_ d (decide (4096 ≤ d.files.length)) = y at hkp
      obtain ⟨b, y⟩ := y
      simp only at hkp ⊢
      cases b with
      | true => rfl
      | false =>
        simp only [sel_f]
        simp only [toR_fst, hkp.1, map_len, ext_take, sel_ite, decide_eq_true_eq, List.nil_append, List.length_append, List.length_take, List.length_cons, List.length_nil]
        have e3 : Lk.ext (d.files.map fR) (pos s d.files : Int) (d.files.length : Int) = (d.files.map fR).drop (pos s d.files) := by
          have := ext_drop (d.files.map fR) (pos s d.files)
          rwa [map_len] at this
        rw [e3]
        simp only [List.length_drop, map_len]
        rw [if_pos (by omega), if_pos (by omega), if_pos (by omega), if_pos (by omega), if_pos (by omega), if_pos (by omega), if_pos (by omega)]
        simp only [Bool.false_eq_true, if_false]
        congr 4
        rw [ins_pos]
        simp only [toR, List.map_append, List.map_cons, List.map_take, List.map_drop, List.append_assoc, List.singleton_append]
        rfl
  · rw [if_neg hk, sel_ite, if_pos (by simp [hk])]

theorem r40 (d : DiskS) (h : Good d) (s b : Nm) (hb : b.length ≤ 1048576) (n : Nat) (hn : 4200 ≤ n) : X.f40 n (some (toR d)) s b = some ((append d s b).1, some (toR (append d s b).2), ()) := by
  obtain ⟨m, rfl⟩ : ∃ i, n = i + 2 := ⟨n - 2, by omega⟩
  have hm := h.many
  have hu := h.used
  have hu2 := total_nonneg d.files
  have hu3 := h.most
  rw [X.f40_eq, r58, r59 X d h s (m + 1) (by omega), r48 X d h (m + 1) (by omega)]
  simp only [Option.isNone_some, sel_f, ob_some, Option.isSome_some, Option.getD_some, sel_t]
  rw [r60 X d h _ (m + 1) (by omega)]
  simp only [ob_some, Option.isSome_some, Option.getD_some, sel_t]
  unfold append
  by_cases hk : okN s
  · rw [if_pos hk, sel_ite, if_neg (by simp [hk])]
    cases hl : look d.files s with
    | none => rfl
    | some f =>
      simp only [Option.isSome_some, Bool.not_true, sel_f]
      have hf := look_some_at h.sorted hl
      have hplt := look_pos_lt h.sorted hl
      have ed : decide (IntKind.i64.wrap (d.used + (b.length : Int)) > (toR d).snd.fst) = decide ((b.length : Int) > d.quota - d.used) := by
        rw [decide_eq_decide, wrap64 (by omega) (by omega), show (toR d).snd.fst = d.quota from rfl]
        omega
      rw [ed]
      have hkp := try_keeps d (decide ((b.length : Int) > d.quota - d.used))
      generalize try_ d (decide ((b.length : Int) > d.quota - d.used)) = y at hkp
      obtain ⟨t, y⟩ := y
      simp only at hkp ⊢
      cases t with
      | true => rfl
      | false =>
        have hfl : f.bytes.length ≤ 268435456 := by
          have h1 := total_take d.files (pos s d.files) f hf.1
          have h2 := total_le d.files (pos s d.files + 1)
          have h3 := total_nonneg (d.files.take (pos s d.files))
          omega
        simp only [sel_f]
        simp only [toR_fst, hkp.1, map_len, sel_ite, decide_eq_true_eq, map_getN hf.1, Int.toNat_natCast]
        rw [if_pos (by omega), if_pos (by omega), if_pos (by simp only [fR, big]; omega), if_pos (by omega), if_pos (by omega)]
        simp only [Bool.false_eq_true, if_false]
        congr 4
        rw [upd_pos h.sorted hl]
        simp only [toR, List.map_set]
        rfl
  · rw [if_neg hk, sel_ite, if_pos (by simp [hk])]

theorem r41 (d : DiskS) (h : Good d) (s : Nm) (n : Nat) (hn : 4200 ≤ n) : X.f41 n (some (toR d)) s = some ((sync d s).1, some (toR (sync d s).2), ()) := by
  obtain ⟨m, rfl⟩ : ∃ i, n = i + 2 := ⟨n - 2, by omega⟩
  have hm := h.many
  rw [X.f41_eq, r58, r59 X d h s (m + 1) (by omega)]
  simp only [Option.isNone_some, sel_f, ob_some, Option.isSome_some, Option.getD_some, sel_t]
  unfold sync
  by_cases hk : okN s
  · rw [if_pos hk, sel_ite, if_neg (by simp [hk])]
    cases hl : look d.files s with
    | none => rfl
    | some f =>
      have hf := look_some_at h.sorted hl
      have hplt := look_pos_lt h.sorted hl
      simp only [Option.isSome_some, Bool.not_true, sel_f]
      simp only [toR_fst, map_len, sel_ite, decide_eq_true_eq, map_getN hf.1, Int.toNat_natCast]
      rw [if_pos (by omega), if_pos (by omega), if_pos (by omega), if_pos (by omega)]
      congr 4
      rw [upd_pos h.sorted hl]
      simp only [toR, List.map_set]
      rfl
  · rw [if_neg hk, sel_ite, if_pos (by simp [hk])]

theorem r44 (d : DiskS) (q : Int) (n : Nat) (hn : 10 ≤ n) : X.f44 n (some (toR d)) q = some ((setQuota d q).1, some (toR (setQuota d q).2), ()) := by
  obtain ⟨m, rfl⟩ : ∃ i, n = i + 3 := ⟨n - 3, by omega⟩
  have e2 : ∀ v, X.p44_2052 (m + 2) (m + 2) (some (toR d)) q v = if v = true then some (2, some (toR d), ()) else some (0, some (toR { d with quota := q }), ()) := by
    intro v
    rw [X.p44_2052_eq, X.p44_5_eq]
    simp only [Option.isSome_some, Option.getD_some, sel_t]
    rw [sel_ite]
    rfl
  rw [X.f44_eq, e2, e2]
  simp only [Option.isNone_some, sel_f]
  simp only [sel_ite, decide_eq_true_eq, if_true]
  unfold setQuota
  by_cases h1 : q < 0
  · rw [if_pos h1, if_neg (show ¬ (0 ≤ q ∧ q ≤ 268435456) by omega)]
  · rw [if_neg h1]
    by_cases h2 : q > 268435456
    · rw [if_pos h2, if_neg (show ¬ (0 ≤ q ∧ q ≤ 268435456) by omega)]
    · rw [if_neg h2, if_pos (show 0 ≤ q ∧ q ≤ 268435456 by omega)]

theorem r45 (d : DiskS) (p q : Int) (n : Nat) (hn : 10 ≤ n) : X.f45 n (some (toR d)) p q = some ((refuse d p q).1, some (toR (refuse d p q).2), ()) := by
  obtain ⟨m, rfl⟩ : ∃ i, n = i + 3 := ⟨n - 3, by omega⟩
  have e2 : ∀ v, X.p45_2052 (m + 2) (m + 2) (some (toR d)) p q v = if v = true then some (2, some (toR d), ()) else some (0, some (toR { d with after := p, count := q }), ()) := by
    intro v
    rw [X.p45_2052_eq, X.p45_5_eq]
    simp only [Option.isSome_some, Option.getD_some, sel_t]
    rw [sel_ite]
    rfl
  rw [X.f45_eq, e2, e2]
  simp only [Option.isNone_some, sel_f]
  simp only [sel_ite, decide_eq_true_eq, if_true]
  unfold refuse
  by_cases h1 : p < 0
  · rw [if_pos h1, if_neg (show ¬ (0 ≤ p ∧ 0 ≤ q) by omega)]
  · rw [if_neg h1]
    by_cases h2 : q < 0
    · rw [if_pos h2, if_neg (show ¬ (0 ≤ p ∧ 0 ≤ q) by omega)]
    · rw [if_neg h2, if_pos (show 0 ≤ p ∧ 0 ≤ q by omega)]
end
end Dk

/-! The document's disk: files taken away, named anew, behind a crash; what is read. -/
namespace Dk
open Go Lk
section
variable (X : FnsP)

theorem r61 (d : DiskS) (h : Good d) {s : Nm} {f : DFile} (hl : look d.files s = some f) (u : Int) (n : Nat) (hn : 1 ≤ n) :
    X.f61 n (some (toR d)) (pos s d.files : Int) = some (some (toR { d with files := del s d.files, used := u }), ()) := by
  obtain ⟨m, rfl⟩ : ∃ i, n = i + 1 := ⟨n - 1, by omega⟩
  have hm := h.many
  have hplt := look_pos_lt h.sorted hl
  rw [X.f61_eq]
  simp only [Option.isSome_some, Option.getD_some, sel_t]
  rw [wrap64 (by omega) (by omega)]
  have e3 : Lk.ext (d.files.map fR) ((pos s d.files : Int) + 1) (d.files.length : Int) = (d.files.map fR).drop (pos s d.files + 1) := by
    have := ext_drop (d.files.map fR) (pos s d.files + 1)
    rw [map_len] at this
    simpa using this
  simp only [toR_fst, map_len, ext_take, e3, sel_ite, decide_eq_true_eq, List.nil_append, List.length_take, List.length_drop]
  rw [if_pos (by omega), if_pos (by omega), if_pos (by omega), if_pos (by omega), if_pos (by omega), if_pos (by omega)]
  congr 3
  rw [del_pos h.sorted hl]
  simp only [toR, List.map_append, List.map_take, List.map_drop]

theorem r43 (d : DiskS) (h : Good d) (s : Nm) (n : Nat) (hn : 4200 ≤ n) : X.f43 n (some (toR d)) s = some ((remove d s).1, some (toR (remove d s).2), ()) := by
  obtain ⟨m, rfl⟩ : ∃ i, n = i + 2 := ⟨n - 2, by omega⟩
  rw [X.f43_eq, r58, r59 X d h s (m + 1) (by omega)]
  simp only [Option.isNone_some, sel_f, ob_some]
  unfold remove
  by_cases hk : okN s
  · rw [if_pos hk, sel_ite, if_neg (by simp [hk])]
    cases hl : look d.files s with
    | none => rfl
    | some f =>
      simp only [Option.isSome_some, Bool.not_true, sel_f]
      rw [r61 X d h hl (d.used - f.bytes.length) (m + 1) (by omega)]
      rfl
  · rw [if_neg hk, sel_ite, if_pos (by simp [hk])]

theorem r42 (d : DiskS) (h : Good d) (s t : Nm) (n : Nat) (hn : 4200 ≤ n) : X.f42 n (some (toR d)) s t = some ((rename d s t).1, some (toR (rename d s t).2), ()) := by
  obtain ⟨m, rfl⟩ : ∃ i, n = i + 4 := ⟨n - 4, by omega⟩
  have hm := h.many
  have e15 : ∀ (l : List DFile) (f : DFile) (u : Int), l.length ≤ 4096 → ∀ n0 n1 j, X.p42_15 (j + 1) n0 n1 (some (toR { d with files := l, used := u })) t (some (fR f)) (pos t l : Int) =
      some (0, some (toR { d with files := ins { f with name := t } l, used := u }), ()) := by
    intro l f u hl n0 n1 j
    have hp := pos_le t l
    rw [X.p42_15_eq]
    simp only [Option.isSome_some, Option.getD_some, sel_t]
    have e3 : Lk.ext (l.map fR) (pos t l : Int) (l.length : Int) = (l.map fR).drop (pos t l) := by
      have := ext_drop (l.map fR) (pos t l)
      rwa [map_len] at this
    simp only [more_toR, map_len, ext_take, e3, sel_ite, decide_eq_true_eq, List.nil_append, List.length_append, List.length_take, List.length_drop, List.length_cons, List.length_nil]
    rw [if_pos (by omega), if_pos (by omega), if_pos (by omega), if_pos (by omega), if_pos (by omega), if_pos (by omega), if_pos (by omega)]
    congr 4
    rw [ins_pos]
    simp only [toR, List.map_append, List.map_cons, List.map_take, List.map_drop, List.append_assoc, List.singleton_append]
    rfl
  have e2 : ∀ v, X.p42_2052 (m + 3) (m + 3) (some (toR d)) s t v = if v = true then some (2, some (toR d), ()) else X.p42_5 (m + 3) (m + 3) (some (toR d)) s t := by
    intro v
    rw [X.p42_2052_eq, sel_ite]
  rw [X.f42_eq, r58, r58]
  simp only [Option.isNone_some, sel_f, ob_some]
  rw [e2, e2]
  unfold rename
  by_cases hk : okN s
  · rw [sel_ite, if_neg (by simp [hk])]
    by_cases hk2 : okN t
    · rw [if_neg (by simp [hk2]), if_pos ⟨hk, hk2⟩, X.p42_5_eq, r59 X d h s (m + 2) (by omega)]
      simp only [ob_some]
      cases hl : look d.files s with
      | none => rfl
      | some f =>
        have hf := look_some_at h.sorted hl
        have hplt := look_pos_lt h.sorted hl
        simp only [Option.isSome_some, Bool.not_true, sel_f, Option.getD_some, sel_t]
        by_cases hst : s = t
        · subst hst
          rw [sel_ite, if_pos (by simp), if_pos rfl]
        · rw [sel_ite, if_neg (by simpa using hst), if_neg hst]
          have hd' : Good { d with files := del s d.files, used := d.used - f.bytes.length } := by
            have := h.remove s
            unfold remove at this
            rw [if_pos hk, hl] at this
            exact this
          have hlk : look (del s d.files) t = look d.files t := look_del hst
          have hm' : (del s d.files).length ≤ 4096 := hd'.many
          simp only [toR_fst, map_len, map_getN hf.1, Int.toNat_natCast]
          simp only [sel_ite, decide_eq_true_eq]
          rw [if_pos (by omega), if_pos (by omega), r61 X d h hl (d.used - f.bytes.length) (m + 2) (by omega)]
          simp only [ob_some]
          have q59 := r59 X _ hd' t (m + 2) (by omega)
          simp only [hlk] at q59
          rw [q59]
          simp only [ob_some]
          cases hl2 : look d.files t with
          | none =>
            rw [if_neg (by simp)]
            have hdn : del t (del s d.files) = del s d.files := del_none (fun g hg => look_none (by rw [hlk, hl2]) g hg)
            rw [hdn]
            exact e15 (del s d.files) f _ hm' _ _ _
          | some g =>
            rw [if_pos (by simp)]
            have q61 := r61 X _ hd' (s := t) (f := g) (by simp only [hlk, hl2]) (d.used - g.bytes.length) (m + 2) (by omega)
            simp only at q61
            rw [q61]
            simp only [ob_some]
            have hpd := pos_del (s := t) hd'.sorted
            simp only at hpd
            rw [← hpd]
            have hlen : (del t (del s d.files)).length ≤ 4096 := Nat.le_trans (List.length_filter_le _ _) hm'
            exact e15 (del t (del s d.files)) f _ hlen _ _ _
    · rw [if_pos (by simp [hk2]), if_neg (fun hh => hk2 hh.2)]
  · rw [sel_ite, if_pos (by simp [hk]), if_pos rfl, if_neg (fun hh : okN s ∧ okN t => hk hh.1)]

theorem r49 (d : DiskS) (h : Good d) (s : Nm) (n : Nat) (hn : 4200 ≤ n) : X.f49 n (some (toR d)) s = some ((size d s).1, (size d s).2.1, (size d s).2.2, ()) := by
  obtain ⟨m, rfl⟩ : ∃ i, n = i + 2 := ⟨n - 2, by omega⟩
  have hm := h.many
  rw [X.f49_eq, r58, r59 X d h s (m + 1) (by omega)]
  simp only [Option.isNone_some, sel_f, ob_some, Option.isSome_some, Option.getD_some, sel_t]
  unfold size
  by_cases hk : okN s
  · rw [if_pos hk, sel_ite, if_neg (by simp [hk])]
    cases hl : look d.files s with
    | none => rfl
    | some f =>
      have hf := look_some_at h.sorted hl
      have hplt := look_pos_lt h.sorted hl
      simp only [Option.isSome_some, Bool.not_true, sel_f]
      simp only [toR_fst, map_len, sel_ite, decide_eq_true_eq, map_getN hf.1, Int.toNat_natCast]
      rw [if_pos (by omega), if_pos (by omega), if_pos (by omega), if_pos (by omega)]
      rfl
  · rw [if_neg hk, sel_ite, if_pos (by simp [hk])]

theorem r50 (d : DiskS) (h : Good d) (s : Nm) (p q : Int) (hp : p ≤ 9223372036854775807) (hq : q ≤ 9223372036854775807) (n : Nat) (hn : 4200 ≤ n) : X.f50 n (some (toR d)) s p q = some ((read d s p q).1, (read d s p q).2, ()) := by
  obtain ⟨m, rfl⟩ : ∃ i, n = i + 4 := ⟨n - 4, by omega⟩
  have hm := h.many
  rw [X.f50_eq, r58, r59 X d h s (m + 3) (by omega)]
  simp only [Option.isNone_some, sel_f, ob_some, Option.isSome_some, Option.getD_some, sel_t]
  unfold read
  by_cases hk : okN s
  · rw [if_pos hk, sel_ite, if_neg (by simp [hk])]
    cases hl : look d.files s with
    | none => rfl
    | some f =>
      have hf := look_some_at h.sorted hl
      have hplt := look_pos_lt h.sorted hl
      have hfl : f.bytes.length ≤ 268435456 := by
        have h1 := total_take d.files (pos s d.files) f hf.1
        have h2 := total_le d.files (pos s d.files + 1)
        have h3 := total_nonneg (d.files.take (pos s d.files))
        have h4 := h.used
        have h5 := h.most
        omega
      have e13 : ∀ (k : Int) (j n0 n1 : Nat), 0 ≤ k → p + k ≤ f.bytes.length → 0 ≤ p → X.p50_13 (j + 1) n0 n1 p k f.bytes = some ((f.bytes.drop p.toNat).take k.toNat, 0, ()) := by
        intro k j n0 n1 hk hk2 hp0
        rw [X.p50_13_eq, wrap64 (by omega) (by omega)]
        simp only [sel_ite, decide_eq_true_eq]
        rw [if_pos (by omega), if_pos (by omega), if_pos (by omega), if_pos (by omega)]
        unfold Lk.ext win
        rw [show (p + k).toNat - p.toNat = k.toNat by omega]
      have e2 : ∀ v, X.p50_2058 (m + 3) (m + 3) p q f.bytes v = if v = true then some ([], 2, ()) else X.p50_11 (m + 3) (m + 3) p q f.bytes := by
        intro v
        rw [X.p50_2058_eq, sel_ite]
      simp only [Option.isSome_some, Bool.not_true, sel_f]
      simp only [toR_fst, map_len, sel_ite, decide_eq_true_eq, map_getN hf.1, Int.toNat_natCast]
      rw [if_pos (by omega), if_pos (by omega), show (fR f).snd.fst = f.bytes from rfl, e2, e2]
      simp only [if_true]
      by_cases h1 : p < 0
      · rw [if_pos h1, if_pos (.inl h1)]
      rw [if_neg h1]
      by_cases h2 : p > (f.bytes.length : Int)
      · rw [if_pos h2, if_pos (.inr (.inl h2))]
      rw [if_neg h2]
      by_cases h3 : q < 0
      · rw [if_pos (by simpa using h3), if_pos (.inr (.inr h3))]
      rw [if_neg (by simpa using h3), if_neg (by omega), X.p50_11_eq, wrap64 (by omega) (by omega), sel_ite]
      split
      · rename_i h4
        rw [decide_eq_true_eq] at h4
        rw [e13 _ _ _ _ (by omega) (by omega) (by omega)]
        rw [List.take_of_length_le (by rw [List.length_drop]; omega), List.take_of_length_le (by rw [List.length_drop]; omega)]
      · rename_i h4
        rw [decide_eq_true_eq] at h4
        rw [e13 _ _ _ _ (by omega) (by omega) (by omega)]
  · rw [if_neg hk, sel_ite, if_pos (by simp [hk])]
end
end Dk

/-! The document's disk behind a crash; acts; looks; DiskPlays. -/
namespace Dk
open Go Lk
section
variable (X : FnsP)

theorem tmod_nat (k n : Nat) : (k : Int).tmod (n : Int) = ((k % n : Nat) : Int) := by
  rw [Int.tmod_eq_emod_of_nonneg (by omega)]
  exact (Int.natCast_emod k n).symm

def leftn (f : DFile) (n : Int) : DFile := { f with bytes := f.bytes.take (f.synced + n).toNat, synced := f.synced + n }

theorem left_n (f : DFile) (k : Int) : left f k = leftn f (min (max k 0) (f.bytes.length - f.synced)) := rfl

theorem r46s (d : DiskS) (l : List DFile) (k : Nat) (f : DFile) (keep : List Int) (hl : l.length ≤ 4096) (hf : l[k]? = some f) (hs : 0 ≤ f.synced ∧ f.synced ≤ f.bytes.length) (hb : f.bytes.length ≤ 268435456) (n0 n1 : Nat) (j : Nat) (v : Int) :
    X.p46_10 (j + 3) n0 n1 (some (toR { d with files := l })) keep (k : Int) (some (fR f)) v = X.p46_5 n1 n0 n1 (some (toR { d with files := l.set k (left f v) })) keep (k : Int) ∧
    X.p46_10_1 (j + 3) n0 n1 (some (toR { d with files := l })) keep (k : Int) (some (fR f)) v = X.p46_5 n1 n0 n1 (some (toR { d with files := l.set k (left f v) })) keep (k : Int) := by
  have hk : k < l.length := by
    rcases Nat.lt_or_ge k l.length with h | h
    · exact h
    · rw [List.getElem?_eq_none h] at hf; cases hf
  have e14 : ∀ (n : Int) (j n2 n3 : Nat), 0 ≤ n → f.synced + n ≤ f.bytes.length →
      X.p46_14 (j + 1) n0 n1 n2 n3 (some (toR { d with files := l })) keep (k : Int) (some (fR f)) n = X.p46_5 n1 n0 n1 (some (toR { d with files := l.set k (leftn f n) })) keep (k : Int) ∧
      X.p46_14_1 (j + 1) n0 n1 n2 n3 (some (toR { d with files := l })) keep (k : Int) (some (fR f)) n = X.p46_5 n1 n0 n1 (some (toR { d with files := l.set k (leftn f n) })) keep (k : Int) := by
    intro n j n2 n3 h1 h2
    have h3 : (Lk.ext f.bytes 0 (f.synced + n)).length = (f.synced + n).toNat := by
      unfold Lk.ext win
      simp only [List.length_take]
      simp; omega
    have h4 : Lk.ext f.bytes 0 (f.synced + n) = f.bytes.take (f.synced + n).toNat := by
      unfold Lk.ext win; simp
    have key : (some ((l.map fR).set k ((fR f).fst, Lk.ext f.bytes 0 (f.synced + n), ((Lk.ext f.bytes 0 (f.synced + n)).length : Int), ()), (toR { d with files := l }).snd) : Option R) = some (toR { d with files := l.set k (leftn f n) }) := by
      rw [h3, h4]
      simp only [toR, List.map_set]
      congr 3
      simp only [fR, leftn]
      congr 3
      omega
    constructor
    · rw [X.p46_14_eq]
      simp only [Option.isSome_some, Option.getD_some, sel_t, toR_fst, map_len, show (fR f).snd.snd.fst = f.synced from rfl, show (fR f).snd.fst = f.bytes from rfl]
      rw [wrap64 (by omega) (by omega)]
      simp only [sel_ite, decide_eq_true_eq]
      rw [if_pos (by omega), if_pos (by omega), if_pos (by omega), if_pos (by omega), Int.toNat_natCast]
      exact congrArg (fun z => X.p46_5 n1 n0 n1 z keep (k : Int)) key
    · rw [X.p46_14_1_eq]
      simp only [Option.isSome_some, Option.getD_some, sel_t, toR_fst, map_len, show (fR f).snd.snd.fst = f.synced from rfl, show (fR f).snd.fst = f.bytes from rfl]
      rw [wrap64 (by omega) (by omega)]
      simp only [sel_ite, decide_eq_true_eq]
      rw [if_pos (by omega), if_pos (by omega), if_pos (by omega), if_pos (by omega), Int.toNat_natCast]
      exact congrArg (fun z => X.p46_5 n1 n0 n1 z keep (k : Int)) key
  have e12 : ∀ (n : Int) (j n2 : Nat), 0 ≤ n →
      X.p46_12 (j + 2) n0 n1 n2 (some (toR { d with files := l })) keep (k : Int) (some (fR f)) n = X.p46_5 n1 n0 n1 (some (toR { d with files := l.set k (leftn f (min n (f.bytes.length - f.synced))) })) keep (k : Int) ∧
      X.p46_12_1 (j + 2) n0 n1 n2 (some (toR { d with files := l })) keep (k : Int) (some (fR f)) n = X.p46_5 n1 n0 n1 (some (toR { d with files := l.set k (leftn f (min n (f.bytes.length - f.synced))) })) keep (k : Int) := by
    intro n j n2 h1
    constructor
    · rw [X.p46_12_eq]
      simp only [Option.isSome_some, Option.getD_some, sel_t, show (fR f).snd.snd.fst = f.synced from rfl, show (fR f).snd.fst = f.bytes from rfl]
      rw [wrap64 (by omega) (by omega)]
      simp only [sel_ite, decide_eq_true_eq]
      split
      · rw [(e14 _ j n2 (j + 1) (by omega) (by omega)).1, Int.min_eq_right (by omega)]
      · rw [(e14 _ j n2 (j + 1) (by omega) (by omega)).1, Int.min_eq_left (by omega)]
    · rw [X.p46_12_1_eq]
      simp only [Option.isSome_some, Option.getD_some, sel_t, show (fR f).snd.snd.fst = f.synced from rfl, show (fR f).snd.fst = f.bytes from rfl]
      rw [wrap64 (by omega) (by omega)]
      simp only [sel_ite, decide_eq_true_eq]
      split
      · rw [(e14 _ j n2 (j + 1) (by omega) (by omega)).1, Int.min_eq_right (by omega)]
      · rw [(e14 _ j n2 (j + 1) (by omega) (by omega)).2, Int.min_eq_left (by omega)]
  rw [left_n]
  constructor
  · rw [X.p46_10_eq]
    simp only [sel_ite, decide_eq_true_eq]
    split
    · rw [(e12 _ j (j + 2) (by omega)).1, Int.max_eq_right (by omega)]
    · rw [(e12 _ j (j + 2) (by omega)).2, Int.max_eq_left (by omega)]
  · rw [X.p46_10_1_eq]
    simp only [sel_ite, decide_eq_true_eq]
    split
    · rw [(e12 _ j (j + 2) (by omega)).1, Int.max_eq_right (by omega)]
    · rw [(e12 _ j (j + 2) (by omega)).1, Int.max_eq_left (by omega)]

def mix (keep : List Int) (l : List DFile) (k : Nat) : List DFile := (crashGo keep 0 l).take k ++ l.drop k

theorem crashGo_len (keep : List Int) (l : List DFile) (i : Nat) : (crashGo keep i l).length = l.length := by
  have := congrArg List.length (crashGo_names keep l i)
  simpa using this

theorem mix_step (keep : List Int) (l : List DFile) (k : Nat) (f : DFile) (hf : l[k]? = some f) : (mix keep l k).set k (left f (keepAt keep k)) = mix keep l (k + 1) := by
  have hk : k < l.length := by
    rcases Nat.lt_or_ge k l.length with h | h
    · exact h
    · rw [List.getElem?_eq_none h] at hf; cases hf
  have hc := crashGo_at keep l 0 k
  rw [hf] at hc
  simp only [Option.map_some, Nat.zero_add] at hc
  unfold mix
  have hlen : ((crashGo keep 0 l).take k).length = k := by rw [List.length_take, crashGo_len]; omega
  rw [List.set_append_right _ _ (by omega), hlen, Nat.sub_self, List.drop_eq_getElem_cons hk, List.set_cons_zero, List.take_add_one, hc]
  simp

theorem r46l (d : DiskS) (h : Good d) (keep : List Int) (hk : keep.length ≤ 1048576) (n0 : Nat) : ∀ (m k j : Nat), k + m = d.files.length → m + 5 ≤ j →
    X.p46_4 j n0 (some (toR { d with files := mix keep d.files k })) keep (k : Int) = some (0, some (toR (crash d keep).2), ()) := by
  have hmany := h.many
  have hlen : ∀ k, k ≤ d.files.length → (mix keep d.files k).length = d.files.length := by
    intro k hk
    unfold mix
    rw [List.length_append, List.length_take, List.length_drop, crashGo_len]
    omega
  intro m
  induction m with
  | zero =>
    intro k j hk hj
    obtain ⟨j, rfl⟩ : ∃ i, j = i + 1 := ⟨j - 1, by omega⟩
    rw [X.p46_4_eq]
    simp only [Option.isSome_some, Option.getD_some, sel_t]
    simp only [toR_fst, map_len, hlen k (by omega), sel_ite, decide_eq_true_eq]
    rw [if_neg (by omega)]
    have : mix keep d.files k = crashGo keep 0 d.files := by
      unfold mix
      rw [List.take_of_length_le (by rw [crashGo_len]; omega), List.drop_of_length_le (by omega), List.append_nil]
    rw [this]
    rfl
  | succ m ih =>
    intro k j hkm hj
    obtain ⟨j, rfl⟩ : ∃ i, j = i + 4 := ⟨j - 4, by omega⟩
    have hlt : k < d.files.length := by omega
    have hf : d.files[k]? = some d.files[k] := List.getElem?_eq_getElem hlt
    have hmem := List.getElem_mem hlt
    have hs := h.synced _ hmem
    have hst := mix_step keep d.files k _ hf
    have hfm : (mix keep d.files k)[k]? = some d.files[k] := by
      unfold mix
      have hl1 : ((crashGo keep 0 d.files).take k).length = k := by rw [List.length_take, crashGo_len]; omega
      rw [List.getElem?_append_right (by omega), hl1, Nat.sub_self, List.getElem?_drop]
      simpa using hf
    have hfl : d.files[k].bytes.length ≤ 268435456 := by
      have h1 := total_take d.files k _ hf
      have h2 := total_le d.files (k + 1)
      have h3 := total_nonneg (d.files.take k)
      have h4 := h.used
      have h5 := h.most
      omega
    have hfin : X.p46_5 (j + 3) n0 (j + 3) (some (toR { d with files := mix keep d.files (k + 1) })) keep (k : Int) = some (0, some (toR (crash d keep).2), ()) := by
      rw [X.p46_5_eq, wrap64 (by omega) (by omega)]
      have := ih (k + 1) (j + 3) (by omega) (by omega)
      simpa using this
    generalize d.files[k] = f at *
    have step := r46s X d (mix keep d.files k) k f keep (by rw [hlen k (by omega)]; omega) hfm hs hfl n0 (j + 3) j (keepAt keep k)
    rw [hst] at step
    rw [X.p46_4_eq]
    simp only [Option.isSome_some, Option.getD_some, sel_t]
    simp only [toR_fst, map_len, hlen k (by omega), sel_ite, decide_eq_true_eq, map_getN hfm, Int.toNat_natCast, tmod_nat]
    rw [if_pos (by omega), if_pos (by omega), if_pos (by omega)]
    by_cases hke : keep = []
    · subst hke
      rw [if_neg (by simp)]
      have e0 : keepAt [] k = 0 := by simp [keepAt]
      rw [e0] at step
      exact step.2.trans hfin
    · have hpos : 0 < keep.length := List.length_pos_iff.2 hke
      have hmod := Nat.mod_lt k hpos
      have e0 : keepAt keep k = keep.getD (k % keep.length) 0 := by simp [keepAt, hke]
      rw [e0] at step
      rw [if_pos (by omega), if_pos (by simp; omega), if_pos (by omega), if_pos (by omega)]
      exact step.1.trans hfin

theorem r46 (d : DiskS) (h : Good d) (keep : List Int) (hk : keep.length ≤ 1048576) (n : Nat) (hn : 4200 ≤ n) : X.f46 n (some (toR d)) keep = some ((crash d keep).1, some (toR (crash d keep).2), ()) := by
  obtain ⟨m, rfl⟩ : ∃ i, n = i + 1 := ⟨n - 1, by omega⟩
  have hm := h.many
  rw [X.f46_eq]
  simp only [Option.isNone_some, sel_f]
  have := r46l X d h keep hk m d.files.length 0 m (by omega) (by omega)
  simp only [mix, List.take_zero, List.nil_append, List.drop_zero] at this
  exact this
end
end Dk

/-! DiskPlays: the plain law. -/
namespace Dk
open Go Lk
section
variable (X : FnsP)

theorem r18 (n : Nat) (d : DiskS) (h : Good d) (a : A) (ha : Fine a) (hn : 4300 ≤ n) : X.f18 n (some (toR d)) a = some ((act d a).1, some (toR (act d a).2), ()) := by
  obtain ⟨m, rfl⟩ : ∃ m, n = m + 1 := ⟨n - 1, by omega⟩
  have hB := ha.1
  have hK := ha.2.1
  rw [X.f18_eq]
  simp only [Option.isSome_some, Option.getD_some, sel_ite, beq_iff_eq, decide_eq_true_eq]
  unfold act
  by_cases h0 : a.1 = 0
  · rw [if_pos h0, if_pos h0, r39 X d h _ m (by omega)]; rfl
  rw [if_neg h0, if_neg h0]
  by_cases h1 : a.1 = 1
  · rw [if_pos h1, if_pos h1, r40 X d h _ _ hB m (by omega)]; rfl
  rw [if_neg h1, if_neg h1]
  by_cases h2 : a.1 = 2
  · rw [if_pos h2, if_pos h2, r41 X d h _ m (by omega)]; rfl
  rw [if_neg h2, if_neg h2]
  by_cases h3 : a.1 = 3
  · rw [if_pos h3, if_pos h3, r42 X d h _ _ m (by omega)]; rfl
  rw [if_neg h3, if_neg h3]
  by_cases h4 : a.1 = 4
  · rw [if_pos h4, if_pos h4, r43 X d h _ m (by omega)]; rfl
  rw [if_neg h4, if_neg h4]
  by_cases h5 : a.1 = 5
  · rw [if_pos h5, if_pos h5, r44 X d _ m (by omega)]; rfl
  rw [if_neg h5, if_neg h5]
  by_cases h6 : a.1 = 6
  · rw [if_pos h6, if_pos h6, r45 X d _ _ m (by omega)]; rfl
  rw [if_neg h6, if_neg h6]
  by_cases h7 : a.1 = 7
  · rw [if_pos h7, if_pos h7, r46 X d h _ hK m (by omega)]; rfl
  rw [if_neg h7, if_neg h7]
  rfl

theorem r17l (d : DiskS) (v5 : Option A) (l l8 : List (List UInt8)) (i : Nat) (hi : i < l.length) (n0 n1 n2 n3 n4 : Nat) : ∀ (N k j : Nat) (v : List UInt8), v.length = k + N → v.length ≤ 268435456 → N + 1 ≤ j →
    X.p19_17 j n0 n1 n2 n3 n4 (some d) (some (toR d)) v5 l l8 (i : Int) v (k : Int) = X.p19_7 n2 n0 n1 n2 (some d) (some (toR d)) v5 (l.set i [115, 112, 111, 105, 108, 116]) l8 (i : Int) := by
  intro N
  induction N with
  | zero =>
    intro k j v h _ hj
    obtain ⟨j, rfl⟩ : ∃ i, j = i + 1 := ⟨j - 1, by omega⟩
    rw [X.p19_17_eq]
    simp only [sel_ite, decide_eq_true_eq]
    rw [if_neg (by omega), if_pos (by omega), if_pos (by omega), Int.toNat_natCast]
  | succ N ih =>
    intro k j v h hb hj
    obtain ⟨j, rfl⟩ : ∃ i, j = i + 1 := ⟨j - 1, by omega⟩
    rw [X.p19_17_eq]
    simp only [sel_ite, decide_eq_true_eq]
    rw [if_pos (by omega), if_pos (by omega), if_pos (by omega), if_pos (by omega), if_pos (by omega), wrap64 (by omega) (by omega)]
    have := ih (k + 1) j (v.set (k : Int).toNat (UInt8.ofNat (Go.IntKind.u8.wrap ((↑(UInt8.toNat (v.getD (k : Int).toNat (0 : UInt8))) : Int) + (↑(UInt8.toNat (1 : UInt8)) : Int))).toNat)) (by simp; omega) (by simpa using hb) (by omega)
    simpa using this

theorem r19l (d : DiskS) (h : Good d) (a : A) (ha : Fine a) (n0 n1 : Nat) (hn1 : 4300 ≤ n1) : ∀ (m k j : Nat) (l : List (List UInt8)), k + m = d.files.length → m + 300000000 ≤ j → l.length = d.files.length → l.drop k = (list d).drop k →
    X.p19_6 j n0 n1 (some d) (some (toR d)) (some a) l (list d) (k : Int) = some (true, ()) := by
  have hm := h.many
  have hl8 : (list d).length = d.files.length := by simp [list]
  intro m
  induction m with
  | zero =>
    intro k j l hk hj hl hdr
    obtain ⟨j, rfl⟩ : ∃ i, j = i + 1 := ⟨j - 1, by omega⟩
    rw [X.p19_6_eq]
    simp only [Option.isSome_some, Option.getD_some, sel_t]
    rw [sel_ite, if_neg (by simp; omega), X.f26_eq, X.f14_eq, r50 X d h _ _ _ ha.2.2.1 ha.2.2.2 n1 (by omega), r49 X d h _ n1 (by omega)]
    simp only [xRead, xSize, Option.bind_some, ob_some, beq_self_eq_true, sel_t]
  | succ m ih =>
    intro k j l hk hj hl hdr
    obtain ⟨j, rfl⟩ : ∃ i, j = i + 5 := ⟨j - 5, by omega⟩
    have hlt : k < d.files.length := by omega
    have hf : d.files[k]? = some d.files[k] := List.getElem?_eq_getElem hlt
    generalize d.files[k] = f at hf
    have hfl : f.bytes.length ≤ 268435456 := by
      have h1 := total_take d.files k _ hf
      have h2 := total_le d.files (k + 1)
      have h3 := total_nonneg (d.files.take k)
      have h4 := h.used
      have h5 := h.most
      omega
    have a2 := names_at hf
    have a1 : l.getD ((k : Int).toNat) [] = f.name := by
      rw [← a2, Int.toNat_natCast, List.getD_eq_getElem?_getD, List.getD_eq_getElem?_getD]
      have h1 : (l.drop k)[0]? = ((list d).drop k)[0]? := by rw [hdr]
      simp only [List.getElem?_drop, Nat.add_zero] at h1
      rw [h1]
    have hsz := size_at h hf
    have hrd := read_at h hf
    have again : X.p19_7 (j + 4) n0 n1 (j + 4) (some d) (some (toR d)) (some a) (l.set k [115, 112, 111, 105, 108, 116]) (list d) (k : Int) = some (true, ()) := by
      rw [X.p19_7_eq, wrap64 (by omega) (by omega)]
      have := ih (k + 1) (j + 4) (l.set k [115, 112, 111, 105, 108, 116]) (by omega) (by omega) (by simpa using hl) (by
        rw [List.drop_set_of_lt (by omega)]
        have := congrArg (List.drop 1) hdr
        simpa [List.drop_drop, Nat.add_comm] using this)
      simpa using this
    have s17 : X.p19_17 (j + 2) n0 n1 (j + 4) (j + 3) (j + 2) (some d) (some (toR d)) (some a) l (list d) (k : Int) f.bytes 0 = some (true, ()) := by
      have := r17l X d (some a) l (list d) k (by omega) n0 n1 (j + 4) (j + 3) (j + 2) f.bytes.length 0 (j + 2) f.bytes (by omega) hfl (by omega)
      simp only [Int.natCast_zero] at this
      rw [this]
      exact again
    have s2063 : X.p19_2063 (j + 3) n0 n1 (j + 4) (j + 3) (some d) (some (toR d)) (some a) l (list d) (k : Int) f.bytes false = some (true, ()) := by
      rw [X.p19_2063_eq, sel_f, X.p19_16_eq]
      exact s17
    have s12 : X.p19_12 (j + 4) n0 n1 (j + 4) (some d) (some (toR d)) (some a) l (list d) (k : Int) (f.bytes.length : Int) = some (true, ()) := by
      rw [X.p19_12_eq, a1, a2, X.f26_eq, r50 X d h _ _ _ (by omega) (by omega) (j + 3) (by omega), hrd]
      simp only [xRead, Option.bind_some, ob_some, hrd]
      simp only [sel_ite, decide_eq_true_eq]
      rw [if_pos (by omega), if_pos (by omega), if_pos (by omega), if_pos (by omega), if_neg (by simp)]
      exact s2063
    have s2059 : X.p19_2059 (j + 4) n0 n1 (j + 4) (some d) (some (toR d)) (some a) l (list d) (k : Int) (f.bytes.length : Int) false = some (true, ()) := by
      rw [X.p19_2059_eq, sel_f]
      exact s12
    rw [X.p19_6_eq, a1, a2, X.f14_eq, r49 X d h _ (j + 4) (by omega), hsz]
    simp only [xSize, Option.bind_some, ob_some, hsz]
    simp only [sel_ite, decide_eq_true_eq]
    rw [if_pos (by omega), if_pos (by omega), if_pos (by omega), if_pos (by omega), if_pos (by omega), if_pos (by omega), if_pos (by omega), if_pos (by omega), if_pos (by omega), if_neg (by simp), if_neg (by simp), if_neg (by simp)]
    exact s2059

theorem r19 (d : DiskS) (h : Good d) (a : A) (ha : Fine a) (n : Nat) (hn : 300010000 ≤ n) : X.f19 n (some d) (some (toR d)) a = some (true, ()) := by
  obtain ⟨m, rfl⟩ : ∃ m, n = m + 2 := ⟨n - 2, by omega⟩
  have hm := h.many
  have hl8 : (list d).length = d.files.length := by simp [list]
  rw [X.f19_eq, X.f12_eq, r47 X d h (m + 1) (by omega), X.f15_eq, r48 X d h (m + 1) (by omega), X.f22_eq, X.f21_eq]
  simp only [xList, xUsed, xQuota, xRefused, Option.bind_some, ob_some, bne_self_eq_false, sel_f, Option.isSome_some, Option.getD_some, sel_t, show (toR d).snd.fst = d.quota from rfl, show (toR d).snd.snd.snd.snd.fst = d.refused from rfl]
  rw [X.p19_2052_eq, sel_f, X.p19_5_eq]
  have := r19l X d h a ha (m + 1) m (by omega) d.files.length 0 m (list d) (by omega) (by omega) hl8 rfl
  simpa using this

theorem r16 (q : Int) (n : Nat) (hn : 10 ≤ n) : X.f16 n q = some (if 0 ≤ q ∧ q ≤ 268435456 then some (toR ⟨[], q, 0, 0, 0, 0⟩) else none, if 0 ≤ q ∧ q ≤ 268435456 then 0 else 2, ()) := by
  obtain ⟨m, rfl⟩ : ∃ i, n = i + 3 := ⟨n - 3, by omega⟩
  have e2 : ∀ v, X.p16_2050 (m + 2) (m + 2) q v = if v = true then some (none, 2, ()) else some (some (toR ⟨[], q, 0, 0, 0, 0⟩), 0, ()) := by
    intro v
    rw [X.p16_2050_eq, X.p16_3_eq, sel_ite]
    rfl
  rw [X.f16_eq, e2, e2]
  simp only [sel_ite, decide_eq_true_eq, if_true]
  by_cases h1 : q < 0
  · rw [if_pos h1, if_neg (show ¬ (0 ≤ q ∧ q ≤ 268435456) by omega), if_neg (show ¬ (0 ≤ q ∧ q ≤ 268435456) by omega)]
  · rw [if_neg h1]
    by_cases h2 : q > 268435456
    · rw [if_pos h2, if_neg (show ¬ (0 ≤ q ∧ q ≤ 268435456) by omega), if_neg (show ¬ (0 ≤ q ∧ q ≤ 268435456) by omega)]
    · rw [if_neg h2, if_pos (show 0 ≤ q ∧ q ≤ 268435456 by omega), if_pos (show 0 ≤ q ∧ q ≤ 268435456 by omega)]

theorem p4_8 (acts : List A) (ha : ∀ a ∈ acts, Fine a) (hb : acts.length ≤ 1048576) (n0 n1 : Nat) (hn1 : 300010000 ≤ n1) : ∀ (m k j : Nat) (d : DiskS), Good d → k + m = acts.length → m + 300020000 ≤ j →
    X.p4_8 j n0 n1 acts (some d) (some (toR d)) (k : Int) = some (true, ()) := by
  intro m
  induction m with
  | zero =>
    intro k j d hd hkm hj
    obtain ⟨j, rfl⟩ : ∃ i, j = i + 1 := ⟨j - 1, by omega⟩
    rw [X.p4_8_eq, sel_ite, if_neg (by simp; omega), r19 X d hd _ ⟨by simp, by simp, by simp, by simp⟩ n1 hn1]
    rfl
  | succ m ih =>
    intro k j d hd hkm hj
    obtain ⟨j, rfl⟩ : ∃ i, j = i + 3 := ⟨j - 3, by omega⟩
    have hlt : k < acts.length := by omega
    have hf : acts[k]? = some acts[k] := List.getElem?_eq_getElem hlt
    have hfine := ha _ (List.getElem_mem hlt)
    generalize acts[k] = a at hf hfine
    have a1 : acts.getD ((k : Int).toNat) (0, [], [], [], 0, 0, [], ()) = a := by
      simp [List.getD_eq_getElem?_getD, hf]
    have hg := hd.act hfine
    rw [X.p4_8_eq, a1, e9 X.toFnsD (j + 2) d a hfine (by omega), r18 X (j + 2) d hd a hfine (by omega)]
    simp only [ob_some]
    rw [r19 X _ hg a hfine (j + 2) (by omega)]
    simp only [ob_some]
    simp only [sel_ite, decide_eq_true_eq]
    rw [if_pos (by omega), if_pos (by omega), if_pos (by omega), if_pos (by omega), if_pos (by omega), if_neg (by simp), if_pos (by omega), if_pos (by omega)]
    rw [X.p4_2059_eq]
    simp only [Bool.not_true, sel_f]
    rw [X.p4_9_eq, wrap64 (by omega) (by omega)]
    have := ih (k + 1) (j + 2) (act d a).2 hg (by omega) (by omega)
    simpa using this

theorem e4 (q : Int) (acts : List A) (ha : ∀ a ∈ acts, Fine a) (hb : acts.length ≤ 1048576) : X.f4 302000000 q acts = some (true, ()) := by
  obtain ⟨N, hN⟩ : ∃ N : Nat, 302000000 = N + 4 := ⟨301999996, rfl⟩
  rw [hN, show N + 4 = (N + 3) + 1 from rfl, X.f4_eq, X.f8_eq, r16 X q (N + 3) (by omega)]
  simp only [xNew, ob_some, bne_self_eq_false, sel_f]
  rw [show N + 3 = (N + 2) + 1 from rfl, X.f17_eq]
  simp only [ob_some, Bool.not_true]
  have e2 : ∀ (x : Option DiskS) (y : Option R), X.p4_2052 (N + 2 + 1) (N + 2 + 1) acts x y false = X.p4_5 (N + 2 + 1) (N + 2 + 1) acts x y := by
    intro x y
    rw [X.p4_2052_eq, sel_f]
  by_cases h : 0 ≤ q ∧ q ≤ 268435456
  · rw [if_pos h, if_pos h]
    simp only [Option.isNone_some, bne_self_eq_false, sel_f]
    rw [e2, X.p4_5_eq]
    simp only [Option.isNone_some, sel_f]
    have := p4_8 X acts ha hb (N + 2 + 1) (N + 2) (by omega) acts.length 0 (N + 2) ⟨[], q, 0, 0, 0, 0⟩ (Good.new h) (by omega) (by omega)
    simpa using this
  · rw [if_neg h, if_neg h]
    simp only [Option.isNone_none, bne_self_eq_false, sel_f]
    rw [e2, X.p4_5_eq]
    simp only [Option.isNone_none, sel_t]
end
end Dk

namespace Dk
open Go Lk
set_option linter.unusedVariables false

structure FnsC extends FnsP where
  f27 (n : Nat) (a0 : Option AbR) : Option (Option AbR × Unit)
  f28 (n : Nat) (a0 : Option AbR) (a1 : Option AbR) : Option (Bool × Unit)
  p28_2050 (j n0 : Nat) (v0 : Option AbR) (v1 : Option AbR) (v11 : Bool) : Option (Bool × Unit)
  p28_3 (j n0 : Nat) (v0 : Option AbR) (v1 : Option AbR) : Option (Bool × Unit)
  p28_6 (j n0 n1 : Nat) (v0 : Option AbR) (v1 : Option AbR) (v5 : Int) : Option (Bool × Unit)
  f7 (n : Nat) (a0 : Int) (a1 : List AbA) (a2 : (List AbA × (List AbA × Unit))) : Option (Bool × Unit)
  p7_7 (j n0 : Nat) (v1 : List AbA) (v7 : List AbA) (v8 : List AbA) (v9 : Option Lk.DiskS) (v11 : Option AbR) (v13 : Int) : Option (Bool × Unit)
  p7_2062 (j n0 : Nat) (v7 : List AbA) (v8 : List AbA) (v9 : Option Lk.DiskS) (v11 : Option AbR) (v14 : Option Lk.DiskS) (v15 : Option AbR) (v74 : Bool) : Option (Bool × Unit)
  p7_15 (j n0 : Nat) (v7 : List AbA) (v8 : List AbA) (v9 : Option Lk.DiskS) (v11 : Option AbR) (v14 : Option Lk.DiskS) (v15 : Option AbR) : Option (Bool × Unit)
  p7_16 (j n0 n1 : Nat) (v7 : List AbA) (v8 : List AbA) (v9 : Option Lk.DiskS) (v11 : Option AbR) (v14 : Option Lk.DiskS) (v15 : Option AbR) (v16 : Int) : Option (Bool × Unit)
  p7_18 (j n0 n1 n2 : Nat) (v7 : List AbA) (v8 : List AbA) (v9 : Option Lk.DiskS) (v11 : Option AbR) (v14 : Option Lk.DiskS) (v15 : Option AbR) (v16 : Int) : Option (Bool × Unit)
  p7_24 (j n0 n1 : Nat) (v9 : Option Lk.DiskS) (v11 : Option AbR) (v14 : Option Lk.DiskS) (v15 : Option AbR) : Option (Bool × Unit)
  p7_2067 (j n0 n1 n2 n3 : Nat) (v7 : List AbA) (v8 : List AbA) (v9 : Option Lk.DiskS) (v11 : Option AbR) (v14 : Option Lk.DiskS) (v15 : Option AbR) (v16 : Int) (v105 : Bool) : Option (Bool × Unit)
  p7_20 (j n0 n1 n2 n3 : Nat) (v7 : List AbA) (v8 : List AbA) (v9 : Option Lk.DiskS) (v11 : Option AbR) (v14 : Option Lk.DiskS) (v15 : Option AbR) (v16 : Int) : Option (Bool × Unit)
  p7_2069 (j n0 n1 n2 n3 n4 : Nat) (v7 : List AbA) (v8 : List AbA) (v9 : Option Lk.DiskS) (v11 : Option AbR) (v14 : Option Lk.DiskS) (v15 : Option AbR) (v16 : Int) (v124 : Bool) : Option (Bool × Unit)
  p7_22 (j n0 n1 n2 n3 n4 : Nat) (v7 : List AbA) (v8 : List AbA) (v9 : Option Lk.DiskS) (v11 : Option AbR) (v14 : Option Lk.DiskS) (v15 : Option AbR) (v16 : Int) : Option (Bool × Unit)
  p7_2071 (j n0 n1 n2 n3 n4 n5 : Nat) (v7 : List AbA) (v8 : List AbA) (v9 : Option Lk.DiskS) (v11 : Option AbR) (v14 : Option Lk.DiskS) (v15 : Option AbR) (v16 : Int) (v140 : Bool) : Option (Bool × Unit)
  p7_17 (j n0 n1 n2 n3 : Nat) (v7 : List AbA) (v8 : List AbA) (v9 : Option Lk.DiskS) (v11 : Option AbR) (v14 : Option Lk.DiskS) (v15 : Option AbR) (v16 : Int) : Option (Bool × Unit)
  f27_eq (n : Nat) (a0 : Option AbR) : f27 (n + 1) a0 = (sel (a0.isNone) (some (none, ())) (sel (a0.isSome) (sel (a0.isSome) (sel ((some (([] : List (List UInt8 × (List UInt8 × (Int × Unit)))), (0 : Int), (0 : Int), (0 : Int), (0 : Int), ())).isSome) (sel (a0.isSome) (sel (a0.isSome) (sel (decide ((0 : Nat) + List.length (a0.getD ([], (0 : Int), (0 : Int), (0 : Int), (0 : Int), ())).fst ≤ (1073741824 : Nat))) (sel ((some (a0.getD ([], (0 : Int), (0 : Int), (0 : Int), (0 : Int), ()))).isSome) (some (some ([] ++ (a0.getD ([], (0 : Int), (0 : Int), (0 : Int), (0 : Int), ())).fst, ((some (a0.getD ([], (0 : Int), (0 : Int), (0 : Int), (0 : Int), ()))).getD ([], (0 : Int), (0 : Int), (0 : Int), (0 : Int), ())).snd), ())) none) none) none) none) none) none) none))
  f28_eq (n : Nat) (a0 : Option AbR) (a1 : Option AbR) : f28 (n + 1) a0 a1 = (sel (a0.isNone) (p28_2050 n n a0 a1 true) (p28_2050 n n a0 a1 (a1.isNone)))
  p28_2050_eq (j n0 : Nat) (v0 : Option AbR) (v1 : Option AbR) (v11 : Bool) : p28_2050 (j + 1) n0 v0 v1 v11 = (sel v11 (sel (v0.isNone) (some (v1.isNone, ())) (some (false, ()))) (p28_3 n0 n0 v0 v1))
  p28_3_eq (j n0 : Nat) (v0 : Option AbR) (v1 : Option AbR) : p28_3 (j + 1) n0 v0 v1 = (sel (v0.isSome) (sel (v0.isSome) (sel (v1.isSome) (sel (v1.isSome) (sel ((↑(List.length (v0.getD ([], (0 : Int), (0 : Int), (0 : Int), (0 : Int), ())).fst) : Int) != (↑(List.length (v1.getD ([], (0 : Int), (0 : Int), (0 : Int), (0 : Int), ())).fst) : Int)) (some (false, ())) (p28_6 j n0 j v0 v1 ((0 : Int)))) none) none) none) none)
  p28_6_eq (j n0 n1 : Nat) (v0 : Option AbR) (v1 : Option AbR) (v5 : Int) : p28_6 (j + 1) n0 n1 v0 v1 v5 = (sel (v0.isSome) (sel (v0.isSome) (sel (decide (v5 < (↑(List.length (v0.getD ([], (0 : Int), (0 : Int), (0 : Int), (0 : Int), ())).fst) : Int))) (sel (v0.isSome) (sel (v0.isSome) (sel (decide ((0 : Int) ≤ v5)) (sel (decide (v5 < (↑(List.length (v0.getD ([], (0 : Int), (0 : Int), (0 : Int), (0 : Int), ())).fst) : Int))) (sel (v1.isSome) (sel (v1.isSome) (sel (decide ((0 : Int) ≤ v5)) (sel (decide (v5 < (↑(List.length (v1.getD ([], (0 : Int), (0 : Int), (0 : Int), (0 : Int), ())).fst) : Int))) (sel (!((List.getD (v0.getD ([], (0 : Int), (0 : Int), (0 : Int), (0 : Int), ())).fst v5.toNat ([], [], (0 : Int), ())).fst == (List.getD (v1.getD ([], (0 : Int), (0 : Int), (0 : Int), (0 : Int), ())).fst v5.toNat ([], [], (0 : Int), ())).fst && ((List.getD (v0.getD ([], (0 : Int), (0 : Int), (0 : Int), (0 : Int), ())).fst v5.toNat ([], [], (0 : Int), ())).snd.fst == (List.getD (v1.getD ([], (0 : Int), (0 : Int), (0 : Int), (0 : Int), ())).fst v5.toNat ([], [], (0 : Int), ())).snd.fst && ((List.getD (v0.getD ([], (0 : Int), (0 : Int), (0 : Int), (0 : Int), ())).fst v5.toNat ([], [], (0 : Int), ())).snd.snd.fst == (List.getD (v1.getD ([], (0 : Int), (0 : Int), (0 : Int), (0 : Int), ())).fst v5.toNat ([], [], (0 : Int), ())).snd.snd.fst && true)))) (some (false, ())) (p28_6 j n0 n1 v0 v1 (Go.IntKind.i64.wrap (v5 + (1 : Int))))) none) none) none) none) none) none) none) none) (some (true, ()))) none) none)
  f7_eq (n : Nat) (a0 : Int) (a1 : List AbA) (a2 : (List AbA × (List AbA × Unit))) : f7 (n + 1) a0 a1 a2 = (sel ((some a2).isSome) (sel ((some a2).isSome) (obind (f8 n a0) fun r97 => (obind (f16 n a0) fun r157 => (sel (Option.isNone r97.fst != Option.isNone r157.fst) (some (false, ())) (p7_7 n n a1 (((some a2).getD ([], [], ())).fst) (((some a2).getD ([], [], ())).snd.fst) (r97.fst) (r157.fst) ((0 : Int)))))) none) none)
  p7_7_eq (j n0 : Nat) (v1 : List AbA) (v7 : List AbA) (v8 : List AbA) (v9 : Option Lk.DiskS) (v11 : Option AbR) (v13 : Int) : p7_7 (j + 1) n0 v1 v7 v8 v9 v11 v13 = (sel (decide (v13 < (↑v1.length : Int))) (sel (decide ((0 : Int) ≤ v13)) (sel (decide (v13 < (↑v1.length : Int))) (obind (f9 j v9 (v1.getD v13.toNat ((0 : Int), [], [], [], (0 : Int), (0 : Int), [], ()))) fun r394 => (sel (decide ((0 : Int) ≤ v13)) (sel (decide (v13 < (↑v1.length : Int))) (obind (f18 j v11 (v1.getD v13.toNat ((0 : Int), [], [], [], (0 : Int), (0 : Int), [], ()))) fun r446 => (p7_7 j n0 v1 v7 v8 (r394.snd.fst) (r446.snd.fst) (Go.IntKind.i64.wrap (v13 + (1 : Int))))) none) none)) none) none) (obind (f10 n0 v9) fun r513 => (obind (f27 n0 v11) fun r545 => (sel (Option.isNone r513.fst != Option.isNone r545.fst) (p7_2062 n0 n0 v7 v8 v9 v11 (r513.fst) (r545.fst) true) (obind (f20 n0 v9 (r513.fst)) fun r742 => (sel (!r742.fst) (p7_2062 n0 n0 v7 v8 v9 v11 (r513.fst) (r545.fst) true) (obind (f20 n0 (r513.fst) v9) fun r854 => (p7_2062 n0 n0 v7 v8 v9 v11 (r513.fst) (r545.fst) (!r854.fst)))))))))
  p7_2062_eq (j n0 : Nat) (v7 : List AbA) (v8 : List AbA) (v9 : Option Lk.DiskS) (v11 : Option AbR) (v14 : Option Lk.DiskS) (v15 : Option AbR) (v74 : Bool) : p7_2062 (j + 1) n0 v7 v8 v9 v11 v14 v15 v74 = (sel v74 (some (false, ())) (p7_15 n0 n0 v7 v8 v9 v11 v14 v15))
  p7_15_eq (j n0 : Nat) (v7 : List AbA) (v8 : List AbA) (v9 : Option Lk.DiskS) (v11 : Option AbR) (v14 : Option Lk.DiskS) (v15 : Option AbR) : p7_15 (j + 1) n0 v7 v8 v9 v11 v14 v15 = (p7_16 j n0 j v7 v8 v9 v11 v14 v15 ((0 : Int)))
  p7_16_eq (j n0 n1 : Nat) (v7 : List AbA) (v8 : List AbA) (v9 : Option Lk.DiskS) (v11 : Option AbR) (v14 : Option Lk.DiskS) (v15 : Option AbR) (v16 : Int) : p7_16 (j + 1) n0 n1 v7 v8 v9 v11 v14 v15 v16 = (sel (decide (v16 < (↑v7.length : Int))) (p7_18 j n0 n1 j v7 v8 v9 v11 v14 v15 v16) (sel (decide (v16 < (↑v8.length : Int))) (p7_18 j n0 n1 j v7 v8 v9 v11 v14 v15 v16) (p7_24 n1 n0 n1 v9 v11 v14 v15)))
  p7_18_eq (j n0 n1 n2 : Nat) (v7 : List AbA) (v8 : List AbA) (v9 : Option Lk.DiskS) (v11 : Option AbR) (v14 : Option Lk.DiskS) (v15 : Option AbR) (v16 : Int) : p7_18 (j + 1) n0 n1 n2 v7 v8 v9 v11 v14 v15 v16 = (sel (decide (v16 < (↑v7.length : Int))) (sel (decide ((0 : Int) ≤ v16)) (sel (decide (v16 < (↑v7.length : Int))) (sel (decide ((0 : Int) ≤ v16)) (sel (decide (v16 < (↑v7.length : Int))) (obind (f9 j v9 (v7.getD v16.toNat ((0 : Int), [], [], [], (0 : Int), (0 : Int), [], ()))) fun r1306 => (obind (f18 j v11 (v7.getD v16.toNat ((0 : Int), [], [], [], (0 : Int), (0 : Int), [], ()))) fun r1324 => (p7_2067 j n0 n1 n2 j v7 v8 (r1306.snd.fst) (r1324.snd.fst) v14 v15 v16 (r1306.fst != r1324.fst)))) none) none) none) none) (p7_2067 j n0 n1 n2 j v7 v8 v9 v11 v14 v15 v16 false))
  p7_24_eq (j n0 n1 : Nat) (v9 : Option Lk.DiskS) (v11 : Option AbR) (v14 : Option Lk.DiskS) (v15 : Option AbR) : p7_24 (j + 1) n0 n1 v9 v11 v14 v15 = (sel (v11.isNone) (obind (f17 j ) fun r1526 => (some (r1526.fst, ()))) (obind (f19 j v9 v11 (((0 : Int), [], [], [], (0 : Int), (0 : Int), [], ()))) fun r1589 => (sel (r1589.fst) (obind (f19 j v14 v15 (((0 : Int), [], [], [], (0 : Int), (0 : Int), [], ()))) fun r1651 => (sel (r1651.fst) (obind (f20 j v9 (none)) fun r1694 => (sel (r1694.fst == false) (obind (f17 j ) fun r1737 => (some (r1737.fst, ()))) (some (false, ())))) (some (false, ())))) (some (false, ())))))
  p7_2067_eq (j n0 n1 n2 n3 : Nat) (v7 : List AbA) (v8 : List AbA) (v9 : Option Lk.DiskS) (v11 : Option AbR) (v14 : Option Lk.DiskS) (v15 : Option AbR) (v16 : Int) (v105 : Bool) : p7_2067 (j + 1) n0 n1 n2 n3 v7 v8 v9 v11 v14 v15 v16 v105 = (sel v105 (some (false, ())) (p7_20 n3 n0 n1 n2 n3 v7 v8 v9 v11 v14 v15 v16))
  p7_20_eq (j n0 n1 n2 n3 : Nat) (v7 : List AbA) (v8 : List AbA) (v9 : Option Lk.DiskS) (v11 : Option AbR) (v14 : Option Lk.DiskS) (v15 : Option AbR) (v16 : Int) : p7_20 (j + 1) n0 n1 n2 n3 v7 v8 v9 v11 v14 v15 v16 = (sel (decide (v16 < (↑v8.length : Int))) (sel (decide ((0 : Int) ≤ v16)) (sel (decide (v16 < (↑v8.length : Int))) (sel (decide ((0 : Int) ≤ v16)) (sel (decide (v16 < (↑v8.length : Int))) (obind (f9 j v14 (v8.getD v16.toNat ((0 : Int), [], [], [], (0 : Int), (0 : Int), [], ()))) fun r2234 => (obind (f18 j v15 (v8.getD v16.toNat ((0 : Int), [], [], [], (0 : Int), (0 : Int), [], ()))) fun r2252 => (p7_2069 j n0 n1 n2 n3 j v7 v8 v9 v11 (r2234.snd.fst) (r2252.snd.fst) v16 (r2234.fst != r2252.fst)))) none) none) none) none) (p7_2069 j n0 n1 n2 n3 j v7 v8 v9 v11 v14 v15 v16 false))
  p7_2069_eq (j n0 n1 n2 n3 n4 : Nat) (v7 : List AbA) (v8 : List AbA) (v9 : Option Lk.DiskS) (v11 : Option AbR) (v14 : Option Lk.DiskS) (v15 : Option AbR) (v16 : Int) (v124 : Bool) : p7_2069 (j + 1) n0 n1 n2 n3 n4 v7 v8 v9 v11 v14 v15 v16 v124 = (sel v124 (some (false, ())) (p7_22 n4 n0 n1 n2 n3 n4 v7 v8 v9 v11 v14 v15 v16))
  p7_22_eq (j n0 n1 n2 n3 n4 : Nat) (v7 : List AbA) (v8 : List AbA) (v9 : Option Lk.DiskS) (v11 : Option AbR) (v14 : Option Lk.DiskS) (v15 : Option AbR) (v16 : Int) : p7_22 (j + 1) n0 n1 n2 n3 n4 v7 v8 v9 v11 v14 v15 v16 = (obind (f20 j v9 v14) fun r2490 => (obind (f28 j v11 v15) fun r2514 => (sel (r2490.fst != r2514.fst) (p7_2071 j n0 n1 n2 n3 n4 j v7 v8 v9 v11 v14 v15 v16 true) (obind (f20 j v14 v9) fun r2643 => (obind (f28 j v11 v15) fun r2685 => (p7_2071 j n0 n1 n2 n3 n4 j v7 v8 v9 v11 v14 v15 v16 (r2643.fst != r2685.fst)))))))
  p7_2071_eq (j n0 n1 n2 n3 n4 n5 : Nat) (v7 : List AbA) (v8 : List AbA) (v9 : Option Lk.DiskS) (v11 : Option AbR) (v14 : Option Lk.DiskS) (v15 : Option AbR) (v16 : Int) (v140 : Bool) : p7_2071 (j + 1) n0 n1 n2 n3 n4 n5 v7 v8 v9 v11 v14 v15 v16 v140 = (sel v140 (some (false, ())) (p7_17 n3 n0 n1 n2 n3 v7 v8 v9 v11 v14 v15 v16))
  p7_17_eq (j n0 n1 n2 n3 : Nat) (v7 : List AbA) (v8 : List AbA) (v9 : Option Lk.DiskS) (v11 : Option AbR) (v14 : Option Lk.DiskS) (v15 : Option AbR) (v16 : Int) : p7_17 (j + 1) n0 n1 n2 n3 v7 v8 v9 v11 v14 v15 v16 = (p7_16 n2 n0 n1 v7 v8 v9 v11 v14 v15 (Go.IntKind.i64.wrap (v16 + (1 : Int))))
end Dk

/-! DiskClones: the plain law, where a disk is given. -/
namespace Dk
open Go Lk
section
variable (X : FnsC)

theorem c27 (d : DiskS) (h : Good d) (n : Nat) (hn : 1 ≤ n) : X.f27 n (some (toR d)) = some (some (toR d), ()) := by
  obtain ⟨m, rfl⟩ : ∃ i, n = i + 1 := ⟨n - 1, by omega⟩
  have hm := h.many
  rw [X.f27_eq]
  simp only [Option.isNone_some, sel_f, Option.isSome_some, Option.getD_some, sel_t, toR_fst, map_len, List.nil_append]
  rw [sel_ite, if_pos (by simp; omega)]
  rfl

theorem same_drop (a b : List DFile) (k : Nat) (f g : DFile) (hf : a[k]? = some f) (hg : b[k]? = some g) : (a.drop k == b.drop k) = (f == g && a.drop (k + 1) == b.drop (k + 1)) := by
  have ha : a.drop k = f :: a.drop (k + 1) := by
    have hk : k < a.length := (List.getElem?_eq_some_iff.1 hf).1
    rw [List.drop_eq_getElem_cons hk]
    rw [List.getElem?_eq_getElem hk] at hf
    cases hf; rfl
  have hb : b.drop k = g :: b.drop (k + 1) := by
    have hk : k < b.length := (List.getElem?_eq_some_iff.1 hg).1
    rw [List.drop_eq_getElem_cons hk]
    rw [List.getElem?_eq_getElem hk] at hg
    cases hg; rfl
  rw [ha, hb]
  rfl

theorem fR_eq (f g : DFile) : ((fR f).fst == (fR g).fst && ((fR f).snd.fst == (fR g).snd.fst && ((fR f).snd.snd.fst == (fR g).snd.snd.fst && true))) = (f == g) := by
  obtain ⟨a, b, c⟩ := f
  obtain ⟨a', b', c'⟩ := g
  rw [Bool.eq_iff_iff]
  simp [fR]

theorem c28l (d e : DiskS) (hd : Good d) (n0 n1 : Nat) (hl : d.files.length = e.files.length) : ∀ (m k j : Nat), k + m = d.files.length → m + 1 ≤ j →
    X.p28_6 j n0 n1 (some (toR d)) (some (toR e)) (k : Int) = some (d.files.drop k == e.files.drop k, ()) := by
  have hm := hd.many
  intro m
  induction m with
  | zero =>
    intro k j hk hj
    obtain ⟨j, rfl⟩ : ∃ i, j = i + 1 := ⟨j - 1, by omega⟩
    rw [X.p28_6_eq]
    simp only [Option.isSome_some, Option.getD_some, sel_t]
    simp only [toR_fst, map_len, sel_ite, decide_eq_true_eq]
    rw [if_neg (by omega), List.drop_of_length_le (by omega), List.drop_of_length_le (by omega)]
    rfl
  | succ m ih =>
    intro k j hk hj
    obtain ⟨j, rfl⟩ : ∃ i, j = i + 1 := ⟨j - 1, by omega⟩
    have hlt : k < d.files.length := by omega
    have hf : d.files[k]? = some d.files[k] := List.getElem?_eq_getElem hlt
    have hg : e.files[k]? = some e.files[k] := List.getElem?_eq_getElem (by omega)
    rw [same_drop _ _ k _ _ hf hg, X.p28_6_eq]
    simp only [Option.isSome_some, Option.getD_some, sel_t]
    simp only [toR_fst, map_len, sel_ite, decide_eq_true_eq, map_getN hf, map_getN hg, Int.toNat_natCast]
    rw [if_pos (by omega), if_pos (by omega), if_pos (by omega), if_pos (by omega), if_pos (by omega), wrap64 (by omega) (by omega)]
    rw [fR_eq]
    cases hfg : (d.files[k] == e.files[k]) with
    | false => simp
    | true =>
      rw [if_neg (by simp)]
      have := ih (k + 1) j (by omega) (by omega)
      simpa using this

theorem c28 (d e : DiskS) (hd : Good d) (he : Good e) (n : Nat) (hn : 4200 ≤ n) : X.f28 n (some (toR d)) (some (toR e)) = some (same d e, ()) := by
  obtain ⟨m, rfl⟩ : ∃ i, n = i + 3 := ⟨n - 3, by omega⟩
  have hm := hd.many
  rw [X.f28_eq]
  simp only [Option.isNone_some, sel_f]
  rw [X.p28_2050_eq]
  simp only [sel_f]
  rw [X.p28_3_eq]
  simp only [Option.isSome_some, Option.getD_some, sel_t]
  simp only [toR_fst, map_len]
  unfold same
  rw [sel_ite]
  split
  · rename_i h
    have hne : d.files ≠ e.files := by
      intro hx
      rw [hx] at h
      simp at h
    congr 2
    rw [eq_comm, beq_eq_false_iff_ne]
    exact hne
  · rename_i h
    have hl : d.files.length = e.files.length := by
      simp only [bne_iff_ne, Decidable.not_not] at h
      omega
    have := c28l X d e hd (m + 2) (m + 1) hl d.files.length 0 (m + 1) (by omega) (by omega)
    simpa using this
end
end Dk

namespace Dk
open Go Lk
section
variable (X : FnsC)

theorem fine0 : Fine ((0, [], [], [], 0, 0, [], ()) : A) := ⟨by simp, by simp, by simp, by simp⟩

theorem c24 (d e : DiskS) (hd : Good d) (he : Good e) (n0 n1 n : Nat) (hn : 300010001 ≤ n) : X.p7_24 n n0 n1 (some d) (some (toR d)) (some e) (some (toR e)) = some (true, ()) := by
  obtain ⟨N, hN⟩ : ∃ N : Nat, n = N + 2 := ⟨n - 2, by omega⟩
  subst hN
  rw [X.p7_24_eq]
  simp only [Option.isNone_some, sel_f]
  rw [r19 X.toFnsP d hd _ fine0 (N + 1) (by omega), r19 X.toFnsP e he _ fine0 (N + 1) (by omega)]
  simp only [ob_some, sel_t]
  rw [X.f20_eq]
  simp only [xSame, Option.bind_some, ob_some, beq_self_eq_true, sel_t]
  rw [X.f17_eq]
  rfl

theorem c16 (more other : List A) (hm : ∀ a ∈ more, Fine a) (ho : ∀ a ∈ other, Fine a) (n0 n1 : Nat) (hn1 : 300010001 ≤ n1) (M : Nat) (hM1 : more.length ≤ M) (hM2 : other.length ≤ M) (hM : M ≤ 1048576) :
    ∀ (m k j : Nat) (d e : DiskS), Good d → Good e → k + m = M → m + 1048700 ≤ j →
    X.p7_16 j n0 n1 more other (some d) (some (toR d)) (some e) (some (toR e)) (k : Int) = some (true, ()) := by
  intro m
  induction m with
  | zero =>
    intro k j d e hd he hk hj
    obtain ⟨j, rfl⟩ : ∃ i, j = i + 1 := ⟨j - 1, by omega⟩
    rw [X.p7_16_eq]
    simp only [sel_ite, decide_eq_true_eq]
    rw [if_neg (by omega), if_neg (by omega)]
    exact c24 X d e hd he n0 n1 n1 hn1
  | succ m ih =>
    intro k j d e hd he hk hj
    obtain ⟨j, rfl⟩ : ∃ i, j = i + 5 := ⟨j - 5, by omega⟩
    have nxt : ∀ (d e : DiskS), Good d → Good e → X.p7_17 (j + 3) n0 n1 (j + 4) (j + 3) more other (some d) (some (toR d)) (some e) (some (toR e)) (k : Int) = some (true, ()) := by
      intro d e hd he
      rw [X.p7_17_eq, wrap64 (by omega) (by omega)]
      have := ih (k + 1) (j + 4) d e hd he (by omega) (by omega)
      simpa using this
    have s22 : ∀ (d e : DiskS), Good d → Good e → X.p7_22 (j + 2) n0 n1 (j + 4) (j + 3) (j + 2) more other (some d) (some (toR d)) (some e) (some (toR e)) (k : Int) = some (true, ()) := by
      intro d e hd he
      rw [X.p7_22_eq, c28 X d e hd he (j + 1) (by omega), X.f20_eq, X.f20_eq]
      have hc : same e d = same d e := by
        unfold same
        rw [Bool.eq_iff_iff]
        simp only [beq_iff_eq]
        exact eq_comm
      simp only [xSame, Option.bind_some, ob_some, hc, bne_self_eq_false, sel_f]
      rw [X.p7_2071_eq, sel_f]
      exact nxt d e hd he
    have s20 : ∀ (d e : DiskS), Good d → Good e → X.p7_20 (j + 3) n0 n1 (j + 4) (j + 3) more other (some d) (some (toR d)) (some e) (some (toR e)) (k : Int) = some (true, ()) := by
      intro d e hd he
      have fin : ∀ (e : DiskS), Good e → X.p7_2069 (j + 2) n0 n1 (j + 4) (j + 3) (j + 2) more other (some d) (some (toR d)) (some e) (some (toR e)) (k : Int) false = some (true, ()) := by
        intro e he
        rw [X.p7_2069_eq, sel_f]
        exact s22 d e hd he
      rw [X.p7_20_eq]
      by_cases hlt : k < other.length
      · have hf : other[k]? = some other[k] := List.getElem?_eq_getElem hlt
        have hfine := ho _ (List.getElem_mem hlt)
        generalize other[k] = a at hf hfine
        have a1 : other.getD ((k : Int).toNat) (0, [], [], [], 0, 0, [], ()) = a := by
          simp [List.getD_eq_getElem?_getD, hf]
        rw [a1, e9 X.toFnsD (j + 2) e a hfine (by omega), r18 X.toFnsP (j + 2) e he a hfine (by omega)]
        simp only [ob_some, bne_self_eq_false]
        simp only [sel_ite, decide_eq_true_eq]
        rw [if_pos (by omega), if_pos (by omega), if_pos (by omega), if_pos (by omega), if_pos (by omega)]
        exact fin _ (he.act hfine)
      · rw [sel_ite, if_neg (by simp; omega)]
        exact fin e he
    have s18 : X.p7_18 (j + 4) n0 n1 (j + 4) more other (some d) (some (toR d)) (some e) (some (toR e)) (k : Int) = some (true, ()) := by
      have fin : ∀ (d : DiskS), Good d → X.p7_2067 (j + 3) n0 n1 (j + 4) (j + 3) more other (some d) (some (toR d)) (some e) (some (toR e)) (k : Int) false = some (true, ()) := by
        intro d hd
        rw [X.p7_2067_eq, sel_f]
        exact s20 d e hd he
      rw [X.p7_18_eq]
      by_cases hlt : k < more.length
      · have hf : more[k]? = some more[k] := List.getElem?_eq_getElem hlt
        have hfine := hm _ (List.getElem_mem hlt)
        generalize more[k] = a at hf hfine
        have a1 : more.getD ((k : Int).toNat) (0, [], [], [], 0, 0, [], ()) = a := by
          simp [List.getD_eq_getElem?_getD, hf]
        rw [a1, e9 X.toFnsD (j + 3) d a hfine (by omega), r18 X.toFnsP (j + 3) d hd a hfine (by omega)]
        simp only [ob_some, bne_self_eq_false]
        simp only [sel_ite, decide_eq_true_eq]
        rw [if_pos (by omega), if_pos (by omega), if_pos (by omega), if_pos (by omega), if_pos (by omega)]
        exact fin _ (hd.act hfine)
      · rw [sel_ite, if_neg (by simp; omega)]
        exact fin d hd
    rw [X.p7_16_eq, s18]
    simp only [sel_ite, decide_eq_true_eq]
    by_cases h1 : (k : Int) < (more.length : Int)
    · rw [if_pos h1]
    · rw [if_neg h1]
      by_cases h2 : (k : Int) < (other.length : Int)
      · rw [if_pos h2]
      · rw [if_neg h2]
        exact c24 X d e hd he n0 n1 n1 hn1

theorem c7l (acts more other : List A) (ha : ∀ a ∈ acts, Fine a) (hb : acts.length ≤ 1048576) (hm : ∀ a ∈ more, Fine a) (ho : ∀ a ∈ other, Fine a) (hM1 : more.length ≤ 1048576) (hM2 : other.length ≤ 1048576) (n0 : Nat) (hn : 302000000 ≤ n0) :
    ∀ (m k j : Nat) (d : DiskS), Good d → k + m = acts.length → m + 1048700 ≤ j → X.p7_7 j n0 acts more other (some d) (some (toR d)) (k : Int) = some (true, ()) := by
  intro m
  induction m with
  | zero =>
    intro k j d hd hkm hj
    obtain ⟨j, rfl⟩ : ∃ i, j = i + 1 := ⟨j - 1, by omega⟩
    obtain ⟨N, rfl⟩ : ∃ i, n0 = i + 2 := ⟨n0 - 2, by omega⟩
    rw [X.p7_7_eq, sel_ite, if_neg (by simp; omega), X.f10_eq, c27 X d hd (N + 2) (by omega)]
    simp only [xClone, Option.bind_some, ob_some, Option.isNone_some, bne_self_eq_false, sel_f]
    rw [X.f20_eq]
    simp only [xSame, Option.bind_some, ob_some, same, beq_self_eq_true, Bool.not_true, sel_f]
    rw [X.p7_2062_eq, sel_f, X.p7_15_eq]
    have := c16 X more other hm ho (N + 2) (N + 1) (by omega) 1048576 hM1 hM2 (by omega) 1048576 0 (N + 1) d d hd hd (by omega) (by omega)
    simpa using this
  | succ m ih =>
    intro k j d hd hkm hj
    obtain ⟨j, rfl⟩ : ∃ i, j = i + 1 := ⟨j - 1, by omega⟩
    have hlt : k < acts.length := by omega
    have hf : acts[k]? = some acts[k] := List.getElem?_eq_getElem hlt
    have hfine := ha _ (List.getElem_mem hlt)
    generalize acts[k] = a at hf hfine
    have a1 : acts.getD ((k : Int).toNat) (0, [], [], [], 0, 0, [], ()) = a := by
      simp [List.getD_eq_getElem?_getD, hf]
    rw [X.p7_7_eq, a1, e9 X.toFnsD j d a hfine (by omega), r18 X.toFnsP j d hd a hfine (by omega)]
    simp only [ob_some]
    simp only [sel_ite, decide_eq_true_eq]
    rw [if_pos (by omega), if_pos (by omega), if_pos (by omega), if_pos (by omega), if_pos (by omega), wrap64 (by omega) (by omega)]
    have := ih (k + 1) j (act d a).2 (hd.act hfine) (by omega) (by omega)
    simpa using this

theorem e7 (q : Int) (hq : 0 ≤ q ∧ q ≤ 268435456) (acts : List A) (t : List A × (List A × Unit)) (ha : ∀ a ∈ acts, Fine a) (hb : acts.length ≤ 1048576) (hm : ∀ a ∈ t.1, Fine a) (ho : ∀ a ∈ t.2.1, Fine a) (hM1 : t.1.length ≤ 1048576) (hM2 : t.2.1.length ≤ 1048576) :
    X.f7 304000000 q acts t = some (true, ()) := by
  obtain ⟨N, hN⟩ : ∃ N : Nat, 304000000 = N + 1 := ⟨303999999, rfl⟩
  rw [hN, X.f7_eq, X.f8_eq, r16 X.toFnsP q N (by omega)]
  simp only [xNew, ob_some, Option.isSome_some, Option.getD_some, sel_t]
  rw [if_pos hq, if_pos hq]
  simp only [Option.isNone_some, bne_self_eq_false, sel_f]
  have := c7l X acts t.1 t.2.1 ha hb hm ho hM1 hM2 N (by omega) acts.length 0 N ⟨[], q, 0, 0, 0, 0⟩ (Good.new hq) (by omega) (by omega)
  simpa using this
end
end Dk

