import Derived.Test.YtcfagjkijhjaoaaLkThree
import Derived.Test.YtcfagjkijhjaoaaProg
set_option linter.all false
namespace Dn
open Go Lk 
set_option linter.unusedVariables false

/-- The functions, by their equations alone. -/
structure FnsD where
  /-- (*moraine/disk.Disk).none -/
  f35 (n : Nat) (a0 : Option ((Unit × (Int × (Int × (Int × ((Int × (Int × Unit)) × Unit))))))) : Option (Bool × Unit)
  /-- (*moraine/disk.Disk).check -/
  f54 (n : Nat) (a0 : Option ((Unit × (Int × (Int × (Int × ((Int × (Int × Unit)) × Unit))))))) (a1 : List (List UInt8)) : Option (Int × Unit)
  p54_4 (j : Nat) (n0 : Nat) (v9 : List (List UInt8)) (v10 : Int) (v11 : Int) : Option (Int × Unit)
  p54_2055 (j : Nat) (n0 : Nat) (n1 : Nat) (v9 : List (List UInt8)) (v10 : Int) (v11 : Int) (v21 : Bool) : Option (Int × Unit)
  p54_8 (j : Nat) (n0 : Nat) (n1 : Nat) (v9 : List (List UInt8)) (v10 : Int) (v11 : Int) : Option (Int × Unit)
  /-- (*moraine/disk.Disk).find -/
  f38 (n : Nat) (a0 : Option ((Unit × (Int × (Int × (Int × ((Int × (Int × Unit)) × Unit))))))) (a1 : List UInt8) : Option (Unit × Int × Unit)
  /-- moraine/disk.isQuota -/
  f29 (n : Nat) (a0 : Int) : Option (Bool × Unit)
  /-- (*moraine/disk.Disk).Used -/
  f15 (n : Nat) (a0 : Option ((Unit × (Int × (Int × (Int × ((Int × (Int × Unit)) × Unit))))))) : Option (Int × Unit)
  /-- (*moraine/disk.Disk).Quota -/
  f22 (n : Nat) (a0 : Option ((Unit × (Int × (Int × (Int × ((Int × (Int × Unit)) × Unit))))))) : Option (Int × Unit)
  /-- (*moraine/disk.Disk).Refused -/
  f21 (n : Nat) (a0 : Option ((Unit × (Int × (Int × (Int × ((Int × (Int × Unit)) × Unit))))))) : Option (Int × Unit)
  /-- (*moraine/disk.Disk).Size -/
  f14 (n : Nat) (a0 : Option ((Unit × (Int × (Int × (Int × ((Int × (Int × Unit)) × Unit))))))) (a1 : List UInt8) : Option (Int × Int × Int × Unit)
  /-- (*moraine/disk.Disk).Read -/
  f26 (n : Nat) (a0 : Option ((Unit × (Int × (Int × (Int × ((Int × (Int × Unit)) × Unit))))))) (a1 : List UInt8) (a2 : Int) (a3 : Int) : Option (List (UInt8) × Int × Unit)
  p26_2053 (j : Nat) (n0 : Nat) (v2 : Int) (v3 : Int) (v10 : Unit) (v36 : Bool) : Option (List (UInt8) × Int × Unit)
  p26_6 (j : Nat) (n0 : Nat) (v2 : Int) (v3 : Int) (v10 : Unit) : Option (List (UInt8) × Int × Unit)
  /-- (*moraine/disk.Disk).List -/
  f12 (n : Nat) (a0 : Option ((Unit × (Int × (Int × (Int × ((Int × (Int × Unit)) × Unit))))))) : Option (List (List UInt8) × Unit)
  /-- (*moraine/disk.Disk).Clone -/
  f10 (n : Nat) (a0 : Option ((Unit × (Int × (Int × (Int × ((Int × (Int × Unit)) × Unit))))))) : Option (Option ((Unit × (Int × (Int × (Int × ((Int × (Int × Unit)) × Unit)))))) × Unit)
  /-- (*moraine/disk.Disk).Same -/
  f20 (n : Nat) (a0 : Option ((Unit × (Int × (Int × (Int × ((Int × (Int × Unit)) × Unit))))))) (a1 : Option ((Unit × (Int × (Int × (Int × ((Int × (Int × Unit)) × Unit))))))) : Option (Bool × Unit)
  p20_2050 (j : Nat) (n0 : Nat) (v0 : Option ((Unit × (Int × (Int × (Int × ((Int × (Int × Unit)) × Unit))))))) (v1 : Option ((Unit × (Int × (Int × (Int × ((Int × (Int × Unit)) × Unit))))))) (v10 : Bool) : Option (Bool × Unit)
  p20_3 (j : Nat) (n0 : Nat) (v0 : Option ((Unit × (Int × (Int × (Int × ((Int × (Int × Unit)) × Unit))))))) (v1 : Option ((Unit × (Int × (Int × (Int × ((Int × (Int × Unit)) × Unit))))))) : Option (Bool × Unit)
  /-- (*moraine/disk.Disk).try -/
  f55 (n : Nat) (a0 : Option ((Unit × (Int × (Int × (Int × ((Int × (Int × Unit)) × Unit))))))) (a1 : Bool) : Option (Bool × Unit)
  p55_7 (j : Nat) (n0 : Nat) (v0 : Option ((Unit × (Int × (Int × (Int × ((Int × (Int × Unit)) × Unit))))))) (v1 : Bool) (v5 : Option ((Int × (Int × Unit)))) : Option (Bool × Unit)
  /-- (*moraine/disk.Disk).Create -/
  f24 (n : Nat) (a0 : Option ((Unit × (Int × (Int × (Int × ((Int × (Int × Unit)) × Unit))))))) (a1 : List UInt8) : Option (Int × Unit)
  /-- (*moraine/disk.Disk).Append -/
  f25 (n : Nat) (a0 : Option ((Unit × (Int × (Int × (Int × ((Int × (Int × Unit)) × Unit))))))) (a1 : List UInt8) (a2 : List (UInt8)) : Option (Int × Unit)
  /-- (*moraine/disk.Disk).Sync -/
  f31 (n : Nat) (a0 : Option ((Unit × (Int × (Int × (Int × ((Int × (Int × Unit)) × Unit))))))) (a1 : List UInt8) : Option (Int × Unit)
  /-- (*moraine/disk.Disk).Rename -/
  f32 (n : Nat) (a0 : Option ((Unit × (Int × (Int × (Int × ((Int × (Int × Unit)) × Unit))))))) (a1 : List UInt8) (a2 : List UInt8) : Option (Int × Unit)
  p32_2054 (j : Nat) (n0 : Nat) (v0 : Option ((Unit × (Int × (Int × (Int × ((Int × (Int × Unit)) × Unit))))))) (v1 : List UInt8) (v2 : List UInt8) (v8 : Unit) (v9 : Int) (v31 : Bool) : Option (Int × Unit)
  p32_7 (j : Nat) (n0 : Nat) (v0 : Option ((Unit × (Int × (Int × (Int × ((Int × (Int × Unit)) × Unit))))))) (v1 : List UInt8) (v2 : List UInt8) (v8 : Unit) : Option (Int × Unit)
  /-- (*moraine/disk.Disk).Remove -/
  f33 (n : Nat) (a0 : Option ((Unit × (Int × (Int × (Int × ((Int × (Int × Unit)) × Unit))))))) (a1 : List UInt8) : Option (Int × Unit)
  /-- (*moraine/disk.Disk).SetQuota -/
  f34 (n : Nat) (a0 : Option ((Unit × (Int × (Int × (Int × ((Int × (Int × Unit)) × Unit))))))) (a1 : Int) : Option (Int × Unit)
  /-- (*moraine/disk.Disk).Refuse -/
  f23 (n : Nat) (a0 : Option ((Unit × (Int × (Int × (Int × ((Int × (Int × Unit)) × Unit))))))) (a1 : Int) (a2 : Int) : Option (Int × Unit)
  p23_2052 (j : Nat) (n0 : Nat) (v0 : Option ((Unit × (Int × (Int × (Int × ((Int × (Int × Unit)) × Unit))))))) (v1 : Int) (v2 : Int) (v10 : Bool) : Option (Int × Unit)
  p23_5 (j : Nat) (n0 : Nat) (v0 : Option ((Unit × (Int × (Int × (Int × ((Int × (Int × Unit)) × Unit))))))) (v1 : Int) (v2 : Int) : Option (Int × Unit)
  /-- (*moraine/disk.Disk).Crash -/
  f11 (n : Nat) (a0 : Option ((Unit × (Int × (Int × (Int × ((Int × (Int × Unit)) × Unit))))))) (a1 : List (Int)) : Option (Int × Unit)
  p11_4 (j : Nat) (n0 : Nat) (v0 : Option ((Unit × (Int × (Int × (Int × ((Int × (Int × Unit)) × Unit))))))) (v1 : List (Int)) (v12 : List (List UInt8)) (v13 : Int) (v14 : Int) : Option (Int × Unit)
  /-- moraine/morainelaw05.lent -/
  f30 (n : Nat) (a0 : List (UInt8)) : Option (List (UInt8) × Unit)
  /-- moraine/morainelaw05.does -/
  f9 (n : Nat) (a0 : Option ((Unit × (Int × (Int × (Int × ((Int × (Int × Unit)) × Unit))))))) (a1 : (Int × (List UInt8 × (List UInt8 × (List (UInt8) × (Int × (Int × (List (Int) × Unit)))))))) : Option (Int × Unit)
  p9_8 (j : Nat) (n0 : Nat) (v5 : List (UInt8)) (v6 : Int) (v7 : Int) : Option (Int × Unit)
  /-- moraine/morainelaw05.DiskNobody -/
  f6 (n : Nat) (a0 : (Int × (List UInt8 × (List UInt8 × (List (UInt8) × (Int × (Int × (List (Int) × Unit)))))))) : Option (Bool × Unit)
  p6_2 (j : Nat) (n0 : Nat) (v1 : Option ((Int × (List UInt8 × (List UInt8 × (List (UInt8) × (Int × (Int × (List (Int) × Unit))))))))) (v13 : List (Option ((Unit × (Int × (Int × (Int × ((Int × (Int × Unit)) × Unit)))))))) (v14 : Int) (v15 : Int) : Option (Bool × Unit)
  p6_2053 (j : Nat) (n0 : Nat) (n1 : Nat) (v1 : Option ((Int × (List UInt8 × (List UInt8 × (List (UInt8) × (Int × (Int × (List (Int) × Unit))))))))) (i4_0 : Int) (v13 : List (Option ((Unit × (Int × (Int × (Int × ((Int × (Int × Unit)) × Unit)))))))) (v14 : Int) (v15 : Int) (v32 : Bool) : Option (Bool × Unit)
  p6_6 (j : Nat) (n0 : Nat) (n1 : Nat) (v1 : Option ((Int × (List UInt8 × (List UInt8 × (List (UInt8) × (Int × (Int × (List (Int) × Unit))))))))) (i4_0 : Int) (v13 : List (Option ((Unit × (Int × (Int × (Int × ((Int × (Int × Unit)) × Unit)))))))) (v14 : Int) (v15 : Int) : Option (Bool × Unit)
  p6_2057 (j : Nat) (n0 : Nat) (n1 : Nat) (n2 : Nat) (v1 : Option ((Int × (List UInt8 × (List UInt8 × (List (UInt8) × (Int × (Int × (List (Int) × Unit))))))))) (v13 : List (Option ((Unit × (Int × (Int × (Int × ((Int × (Int × Unit)) × Unit)))))))) (v14 : Int) (v15 : Int) (v91 : Bool) : Option (Bool × Unit)
  p6_10 (j : Nat) (n0 : Nat) (n1 : Nat) (v1 : Option ((Int × (List UInt8 × (List UInt8 × (List (UInt8) × (Int × (Int × (List (Int) × Unit))))))))) (v13 : List (Option ((Unit × (Int × (Int × (Int × ((Int × (Int × Unit)) × Unit)))))))) (v14 : Int) (v15 : Int) : Option (Bool × Unit)
  f35_eq (n : Nat) (a0 : Option ((Unit × (Int × (Int × (Int × ((Int × (Int × Unit)) × Unit))))))) : f35 (n + 1) a0 =
  (sel (a0.isNone)
   (some (Bool.true, ()))
   (sel (a0.isSome)
    (sel (a0.isSome)
     (some (Bool.true, ()))
     none)
    none))
  f54_eq (n : Nat) (a0 : Option ((Unit × (Int × (Int × (Int × ((Int × (Int × Unit)) × Unit))))))) (a1 : List (List UInt8)) : f54 (n + 1) a0 a1 =
  (obind (f35 n (a0)) fun r41 =>
   (sel (r41.fst)
    (some ((1 : Int), ()))
    (p54_4 (n) (n) (a1) ((↑a1.length : Int)) ((0 : Int)))))
  p54_4_eq (j : Nat) (n0 : Nat) (v9 : List (List UInt8)) (v10 : Int) (v11 : Int) : p54_4 (j + 1) n0 v9 v10 v11 =
  (sel (Decidable.decide (v11 < v10))
   (sel (Decidable.decide ((0 : Int) ≤ v11))
    (sel (Decidable.decide (v11 < (↑v9.length : Int)))
     (sel (v9.getD v11.toNat [] == [])
      (p54_2055 (j) (n0) (j) (v9) (v10) (v11) (Bool.true))
      (p54_2055 (j) (n0) (j) (v9) (v10) (v11) (Decidable.decide ((↑(List.length (v9.getD v11.toNat [])) : Int) > (64 : Int)))))
     none)
    none)
   (some ((0 : Int), ())))
  p54_2055_eq (j : Nat) (n0 : Nat) (n1 : Nat) (v9 : List (List UInt8)) (v10 : Int) (v11 : Int) (v21 : Bool) : p54_2055 (j + 1) n0 n1 v9 v10 v11 v21 =
  (sel (v21)
   (some ((2 : Int), ()))
   (p54_8 (n1) (n0) (n1) (v9) (v10) (v11)))
  p54_8_eq (j : Nat) (n0 : Nat) (n1 : Nat) (v9 : List (List UInt8)) (v10 : Int) (v11 : Int) : p54_8 (j + 1) n0 n1 v9 v10 v11 =
  (p54_4 (n1) (n0) (v9) (v10) (Go.IntKind.i64.wrap (v11 + (1 : Int))))
  f38_eq (n : Nat) (a0 : Option ((Unit × (Int × (Int × (Int × ((Int × (Int × Unit)) × Unit))))))) (a1 : List UInt8) : f38 (n + 1) a0 a1 =
  (obind (f54 n (a0) ([a1])) fun r62 =>
   (sel (r62.fst != (0 : Int))
    (some ((), r62.fst, ()))
    (sel (a0.isSome)
     (sel (a0.isSome)
      none
      none)
     none)))
  f29_eq (n : Nat) (a0 : Int) : f29 (n + 1) a0 =
  (sel (Decidable.decide (a0 ≥ (0 : Int)))
   (some (Decidable.decide (a0 ≤ (268435456 : Int)), ()))
   (some (Bool.false, ())))
  f15_eq (n : Nat) (a0 : Option ((Unit × (Int × (Int × (Int × ((Int × (Int × Unit)) × Unit))))))) : f15 (n + 1) a0 =
  (obind (f35 n (a0)) fun r41 =>
   (sel (r41.fst)
    (some ((0 : Int), ()))
    (sel (a0.isSome)
     (sel (a0.isSome)
      (some ((a0.getD ((), (0 : Int), (0 : Int), (0 : Int), ((0 : Int), (0 : Int), ()), ())).snd.snd.fst, ()))
      none)
     none)))
  f22_eq (n : Nat) (a0 : Option ((Unit × (Int × (Int × (Int × ((Int × (Int × Unit)) × Unit))))))) : f22 (n + 1) a0 =
  (obind (f35 n (a0)) fun r41 =>
   (sel (r41.fst)
    (some ((0 : Int), ()))
    (sel (a0.isSome)
     (sel (a0.isSome)
      (some ((a0.getD ((), (0 : Int), (0 : Int), (0 : Int), ((0 : Int), (0 : Int), ()), ())).snd.fst, ()))
      none)
     none)))
  f21_eq (n : Nat) (a0 : Option ((Unit × (Int × (Int × (Int × ((Int × (Int × Unit)) × Unit))))))) : f21 (n + 1) a0 =
  (obind (f35 n (a0)) fun r41 =>
   (sel (r41.fst)
    (some ((0 : Int), ()))
    (sel (a0.isSome)
     (sel (a0.isSome)
      (some ((a0.getD ((), (0 : Int), (0 : Int), (0 : Int), ((0 : Int), (0 : Int), ()), ())).snd.snd.snd.fst, ()))
      none)
     none)))
  f14_eq (n : Nat) (a0 : Option ((Unit × (Int × (Int × (Int × ((Int × (Int × Unit)) × Unit))))))) (a1 : List UInt8) : f14 (n + 1) a0 a1 =
  (obind (f38 n (a0) (a1)) fun r61 =>
   (sel (r61.snd.fst != (0 : Int))
    (some ((0 : Int), (0 : Int), r61.snd.fst, ()))
    none))
  f26_eq (n : Nat) (a0 : Option ((Unit × (Int × (Int × (Int × ((Int × (Int × Unit)) × Unit))))))) (a1 : List UInt8) (a2 : Int) (a3 : Int) : f26 (n + 1) a0 a1 a2 a3 =
  (obind (f38 n (a0) (a1)) fun r54 =>
   (sel (r54.snd.fst != (0 : Int))
    (some ([], r54.snd.fst, ()))
    (sel (Decidable.decide (a2 < (0 : Int)))
     (p26_2053 (n) (n) (a2) (a3) (r54.fst) (Bool.true))
     none)))
  p26_2053_eq (j : Nat) (n0 : Nat) (v2 : Int) (v3 : Int) (v10 : Unit) (v36 : Bool) : p26_2053 (j + 1) n0 v2 v3 v10 v36 =
  (sel (v36)
   (some ([], (2 : Int), ()))
   (p26_6 (n0) (n0) (v2) (v3) (v10)))
  p26_6_eq (j : Nat) (n0 : Nat) (v2 : Int) (v3 : Int) (v10 : Unit) : p26_6 (j + 1) n0 v2 v3 v10 =
  none
  f12_eq (n : Nat) (a0 : Option ((Unit × (Int × (Int × (Int × ((Int × (Int × Unit)) × Unit))))))) : f12 (n + 1) a0 =
  (obind (f35 n (a0)) fun r41 =>
   (sel (r41.fst)
    (some ([], ()))
    (sel (a0.isSome)
     (sel (a0.isSome)
      none
      none)
     none)))
  f10_eq (n : Nat) (a0 : Option ((Unit × (Int × (Int × (Int × ((Int × (Int × Unit)) × Unit))))))) : f10 (n + 1) a0 =
  (obind (f35 n (a0)) fun r41 =>
   (sel (r41.fst)
    (some (Option.none, ()))
    (sel (a0.isSome)
     (sel (a0.isSome)
      (sel ((Option.some ((), (0 : Int), (0 : Int), (0 : Int), ((0 : Int), (0 : Int), ()), ())).isSome)
       none
       none)
      none)
     none)))
  f20_eq (n : Nat) (a0 : Option ((Unit × (Int × (Int × (Int × ((Int × (Int × Unit)) × Unit))))))) (a1 : Option ((Unit × (Int × (Int × (Int × ((Int × (Int × Unit)) × Unit))))))) : f20 (n + 1) a0 a1 =
  (obind (f35 n (a0)) fun r41 =>
   (sel (r41.fst)
    (p20_2050 (n) (n) (a0) (a1) (Bool.true))
    (obind (f35 n (a1)) fun r100 =>
     (p20_2050 (n) (n) (a0) (a1) (r100.fst)))))
  p20_2050_eq (j : Nat) (n0 : Nat) (v0 : Option ((Unit × (Int × (Int × (Int × ((Int × (Int × Unit)) × Unit))))))) (v1 : Option ((Unit × (Int × (Int × (Int × ((Int × (Int × Unit)) × Unit))))))) (v10 : Bool) : p20_2050 (j + 1) n0 v0 v1 v10 =
  (sel (v10)
   (obind (f35 j (v0)) fun r139 =>
    (sel (r139.fst)
     (obind (f35 j (v1)) fun r175 =>
      (some (r175.fst, ())))
     (some (Bool.false, ()))))
   (p20_3 (n0) (n0) (v0) (v1)))
  p20_3_eq (j : Nat) (n0 : Nat) (v0 : Option ((Unit × (Int × (Int × (Int × ((Int × (Int × Unit)) × Unit))))))) (v1 : Option ((Unit × (Int × (Int × (Int × ((Int × (Int × Unit)) × Unit))))))) : p20_3 (j + 1) n0 v0 v1 =
  (sel (v0.isSome)
   (sel (v0.isSome)
    (sel (v1.isSome)
     (sel (v1.isSome)
      none
      none)
     none)
    none)
   none)
  f55_eq (n : Nat) (a0 : Option ((Unit × (Int × (Int × (Int × ((Int × (Int × Unit)) × Unit))))))) (a1 : Bool) : f55 (n + 1) a0 a1 =
  (sel (a0.isSome)
   (sel (a0.isSome)
    (sel ((Option.some ((0 : Int), (0 : Int), ())).isSome)
     (sel ((Option.some (a0.getD ((), (0 : Int), (0 : Int), (0 : Int), ((0 : Int), (0 : Int), ()), ())).snd.snd.snd.snd.fst).isSome)
      (sel (Decidable.decide (((Option.some (a0.getD ((), (0 : Int), (0 : Int), (0 : Int), ((0 : Int), (0 : Int), ()), ())).snd.snd.snd.snd.fst).getD ((0 : Int), (0 : Int), ())).fst > (0 : Int)))
       (sel ((Option.some (a0.getD ((), (0 : Int), (0 : Int), (0 : Int), ((0 : Int), (0 : Int), ()), ())).snd.snd.snd.snd.fst).isSome)
        (sel ((Option.some (a0.getD ((), (0 : Int), (0 : Int), (0 : Int), ((0 : Int), (0 : Int), ()), ())).snd.snd.snd.snd.fst).isSome)
         (p55_7 (n) (n) (a0) (a1) (Option.some (Go.IntKind.i64.wrap (((Option.some (a0.getD ((), (0 : Int), (0 : Int), (0 : Int), ((0 : Int), (0 : Int), ()), ())).snd.snd.snd.snd.fst).getD ((0 : Int), (0 : Int), ())).fst - (1 : Int)), ((Option.some (a0.getD ((), (0 : Int), (0 : Int), (0 : Int), ((0 : Int), (0 : Int), ()), ())).snd.snd.snd.snd.fst).getD ((0 : Int), (0 : Int), ())).snd)))
         none)
        none)
       (sel ((Option.some (a0.getD ((), (0 : Int), (0 : Int), (0 : Int), ((0 : Int), (0 : Int), ()), ())).snd.snd.snd.snd.fst).isSome)
        (sel (Decidable.decide (((Option.some (a0.getD ((), (0 : Int), (0 : Int), (0 : Int), ((0 : Int), (0 : Int), ()), ())).snd.snd.snd.snd.fst).getD ((0 : Int), (0 : Int), ())).snd.fst > (0 : Int)))
         (sel ((Option.some (a0.getD ((), (0 : Int), (0 : Int), (0 : Int), ((0 : Int), (0 : Int), ()), ())).snd.snd.snd.snd.fst).isSome)
          (sel ((Option.some (a0.getD ((), (0 : Int), (0 : Int), (0 : Int), ((0 : Int), (0 : Int), ()), ())).snd.snd.snd.snd.fst).isSome)
           (p55_7 (n) (n) (a0) (Bool.true) (Option.some (((Option.some (a0.getD ((), (0 : Int), (0 : Int), (0 : Int), ((0 : Int), (0 : Int), ()), ())).snd.snd.snd.snd.fst).getD ((0 : Int), (0 : Int), ())).fst, Go.IntKind.i64.wrap (((Option.some (a0.getD ((), (0 : Int), (0 : Int), (0 : Int), ((0 : Int), (0 : Int), ()), ())).snd.snd.snd.snd.fst).getD ((0 : Int), (0 : Int), ())).snd.fst - (1 : Int)), ((Option.some (a0.getD ((), (0 : Int), (0 : Int), (0 : Int), ((0 : Int), (0 : Int), ()), ())).snd.snd.snd.snd.fst).getD ((0 : Int), (0 : Int), ())).snd.snd)))
           none)
          none)
         (p55_7 (n) (n) (a0) (a1) (Option.some (a0.getD ((), (0 : Int), (0 : Int), (0 : Int), ((0 : Int), (0 : Int), ()), ())).snd.snd.snd.snd.fst)))
        none))
      none)
     none)
    none)
   none)
  p55_7_eq (j : Nat) (n0 : Nat) (v0 : Option ((Unit × (Int × (Int × (Int × ((Int × (Int × Unit)) × Unit))))))) (v1 : Bool) (v5 : Option ((Int × (Int × Unit)))) : p55_7 (j + 1) n0 v0 v1 v5 =
  (sel (v5.isSome)
   (sel (v0.isSome)
    (sel (v0.isSome)
     none
     none)
    none)
   none)
  f24_eq (n : Nat) (a0 : Option ((Unit × (Int × (Int × (Int × ((Int × (Int × Unit)) × Unit))))))) (a1 : List UInt8) : f24 (n + 1) a0 a1 =
  (obind (f54 n (a0) ([a1])) fun r55 =>
   (sel (r55.fst != (0 : Int))
    (some (r55.fst, ()))
    (sel (a0.isSome)
     (sel (a0.isSome)
      none
      none)
     none)))
  f25_eq (n : Nat) (a0 : Option ((Unit × (Int × (Int × (Int × ((Int × (Int × Unit)) × Unit))))))) (a1 : List UInt8) (a2 : List (UInt8)) : f25 (n + 1) a0 a1 a2 =
  (obind (f38 n (a0) (a1)) fun r47 =>
   (sel (r47.snd.fst != (0 : Int))
    (some (r47.snd.fst, ()))
    (sel (a0.isSome)
     (sel (a0.isSome)
      (sel (a0.isSome)
       (sel (a0.isSome)
        (obind (f55 n (a0) (Decidable.decide ((↑a2.length : Int) > Go.IntKind.i64.wrap ((a0.getD ((), (0 : Int), (0 : Int), (0 : Int), ((0 : Int), (0 : Int), ()), ())).snd.fst - (a0.getD ((), (0 : Int), (0 : Int), (0 : Int), ((0 : Int), (0 : Int), ()), ())).snd.snd.fst)))) fun r257 =>
         (sel (r257.fst)
          (some ((52 : Int), ()))
          none))
        none)
       none)
      none)
     none)))
  f31_eq (n : Nat) (a0 : Option ((Unit × (Int × (Int × (Int × ((Int × (Int × Unit)) × Unit))))))) (a1 : List UInt8) : f31 (n + 1) a0 a1 =
  (obind (f38 n (a0) (a1)) fun r47 =>
   (sel (r47.snd.fst != (0 : Int))
    (some (r47.snd.fst, ()))
    none))
  f32_eq (n : Nat) (a0 : Option ((Unit × (Int × (Int × (Int × ((Int × (Int × Unit)) × Unit))))))) (a1 : List UInt8) (a2 : List UInt8) : f32 (n + 1) a0 a1 a2 =
  (obind (f54 n (a0) ([a1, a2])) fun r62 =>
   (sel (r62.fst != (0 : Int))
    (some (r62.fst, ()))
    (obind (f38 n (a0) (a1)) fun r165 =>
     (sel (r165.snd.fst != (0 : Int))
      (p32_2054 (n) (n) (a0) (a1) (a2) (r165.fst) (r165.snd.fst) (Bool.true))
      (p32_2054 (n) (n) (a0) (a1) (a2) (r165.fst) (r165.snd.fst) (a1 == a2))))))
  p32_2054_eq (j : Nat) (n0 : Nat) (v0 : Option ((Unit × (Int × (Int × (Int × ((Int × (Int × Unit)) × Unit))))))) (v1 : List UInt8) (v2 : List UInt8) (v8 : Unit) (v9 : Int) (v31 : Bool) : p32_2054 (j + 1) n0 v0 v1 v2 v8 v9 v31 =
  (sel (v31)
   (some (v9, ()))
   (p32_7 (n0) (n0) (v0) (v1) (v2) (v8)))
  p32_7_eq (j : Nat) (n0 : Nat) (v0 : Option ((Unit × (Int × (Int × (Int × ((Int × (Int × Unit)) × Unit))))))) (v1 : List UInt8) (v2 : List UInt8) (v8 : Unit) : p32_7 (j + 1) n0 v0 v1 v2 v8 =
  (sel (v0.isSome)
   (sel (v0.isSome)
    none
    none)
   none)
  f33_eq (n : Nat) (a0 : Option ((Unit × (Int × (Int × (Int × ((Int × (Int × Unit)) × Unit))))))) (a1 : List UInt8) : f33 (n + 1) a0 a1 =
  (obind (f38 n (a0) (a1)) fun r47 =>
   (sel (r47.snd.fst != (0 : Int))
    (some (r47.snd.fst, ()))
    (sel (a0.isSome)
     (sel (a0.isSome)
      none
      none)
     none)))
  f34_eq (n : Nat) (a0 : Option ((Unit × (Int × (Int × (Int × ((Int × (Int × Unit)) × Unit))))))) (a1 : Int) : f34 (n + 1) a0 a1 =
  (obind (f35 n (a0)) fun r42 =>
   (sel (r42.fst)
    (some ((1 : Int), ()))
    (obind (f29 n (a1)) fun r107 =>
     (sel (!r107.fst)
      (some ((2 : Int), ()))
      (sel (a0.isSome)
       (sel (a0.isSome)
        none
        none)
       none)))))
  f23_eq (n : Nat) (a0 : Option ((Unit × (Int × (Int × (Int × ((Int × (Int × Unit)) × Unit))))))) (a1 : Int) (a2 : Int) : f23 (n + 1) a0 a1 a2 =
  (obind (f35 n (a0)) fun r42 =>
   (sel (r42.fst)
    (some ((1 : Int), ()))
    (sel (Decidable.decide (a1 < (0 : Int)))
     (p23_2052 (n) (n) (a0) (a1) (a2) (Bool.true))
     (p23_2052 (n) (n) (a0) (a1) (a2) (Decidable.decide (a2 < (0 : Int)))))))
  p23_2052_eq (j : Nat) (n0 : Nat) (v0 : Option ((Unit × (Int × (Int × (Int × ((Int × (Int × Unit)) × Unit))))))) (v1 : Int) (v2 : Int) (v10 : Bool) : p23_2052 (j + 1) n0 v0 v1 v2 v10 =
  (sel (v10)
   (some ((2 : Int), ()))
   (p23_5 (n0) (n0) (v0) (v1) (v2)))
  p23_5_eq (j : Nat) (n0 : Nat) (v0 : Option ((Unit × (Int × (Int × (Int × ((Int × (Int × Unit)) × Unit))))))) (v1 : Int) (v2 : Int) : p23_5 (j + 1) n0 v0 v1 v2 =
  (sel (v0.isSome)
   (sel (v0.isSome)
    none
    none)
   none)
  f11_eq (n : Nat) (a0 : Option ((Unit × (Int × (Int × (Int × ((Int × (Int × Unit)) × Unit))))))) (a1 : List (Int)) : f11 (n + 1) a0 a1 =
  (obind (f35 n (a0)) fun r41 =>
   (sel (r41.fst)
    (some ((1 : Int), ()))
    (obind (f12 n (a0)) fun r102 =>
     (p11_4 (n) (n) (a0) (a1) (r102.fst) ((↑(List.length r102.fst) : Int)) ((0 : Int))))))
  p11_4_eq (j : Nat) (n0 : Nat) (v0 : Option ((Unit × (Int × (Int × (Int × ((Int × (Int × Unit)) × Unit))))))) (v1 : List (Int)) (v12 : List (List UInt8)) (v13 : Int) (v14 : Int) : p11_4 (j + 1) n0 v0 v1 v12 v13 v14 =
  (sel (Decidable.decide (v14 < v13))
   (sel (Decidable.decide ((0 : Int) ≤ v14))
    (sel (Decidable.decide (v14 < (↑v12.length : Int)))
     (sel (v0.isSome)
      (sel (v0.isSome)
       none
       none)
      none)
     none)
    none)
   (sel (v0.isSome)
    (sel (v0.isSome)
     none
     none)
    none))
  f30_eq (n : Nat) (a0 : List (UInt8)) : f30 (n + 1) a0 =
  (sel (Decidable.decide ((0 : Nat) + a0.length ≤ (1073741824 : Nat)))
   (sel (Decidable.decide (List.length ([] ++ a0) + (1 : Nat) ≤ (1073741824 : Nat)))
    (sel (Decidable.decide ((0 : Int) ≤ (↑a0.length : Int)))
     (sel (Decidable.decide ((↑a0.length : Int) ≤ (↑(List.length ([] ++ a0 ++ [(90 : UInt8)])) : Int)))
      (some (Lk.ext ([] ++ a0 ++ [(90 : UInt8)]) (0 : Int) (↑a0.length : Int), ()))
      none)
     none)
    none)
   none)
  f9_eq (n : Nat) (a0 : Option ((Unit × (Int × (Int × (Int × ((Int × (Int × Unit)) × Unit))))))) (a1 : (Int × (List UInt8 × (List UInt8 × (List (UInt8) × (Int × (Int × (List (Int) × Unit)))))))) : f9 (n + 1) a0 a1 =
  (sel ((Option.some a1).isSome)
   (sel (((Option.some a1).getD ((0 : Int), [], [], [], (0 : Int), (0 : Int), [], ())).fst == (0 : Int))
    (sel ((Option.some a1).isSome)
     (obind (f24 n (a0) (((Option.some a1).getD ((0 : Int), [], [], [], (0 : Int), (0 : Int), [], ())).snd.fst)) fun r111 =>
      (some (r111.fst, ())))
     none)
    (sel (((Option.some a1).getD ((0 : Int), [], [], [], (0 : Int), (0 : Int), [], ())).fst == (1 : Int))
     (sel ((Option.some a1).isSome)
      (obind (f30 n (((Option.some a1).getD ((0 : Int), [], [], [], (0 : Int), (0 : Int), [], ())).snd.snd.snd.fst)) fun r190 =>
       (sel ((Option.some a1).isSome)
        (obind (f25 n (a0) (((Option.some a1).getD ((0 : Int), [], [], [], (0 : Int), (0 : Int), [], ())).snd.fst) (r190.fst)) fun r243 =>
         (p9_8 (n) (n) (r190.fst) (r243.fst) ((0 : Int))))
        none))
      none)
     (sel (((Option.some a1).getD ((0 : Int), [], [], [], (0 : Int), (0 : Int), [], ())).fst == (2 : Int))
      (sel ((Option.some a1).isSome)
       (obind (f31 n (a0) (((Option.some a1).getD ((0 : Int), [], [], [], (0 : Int), (0 : Int), [], ())).snd.fst)) fun r335 =>
        (some (r335.fst, ())))
       none)
      (sel (((Option.some a1).getD ((0 : Int), [], [], [], (0 : Int), (0 : Int), [], ())).fst == (3 : Int))
       (sel ((Option.some a1).isSome)
        (sel ((Option.some a1).isSome)
         (obind (f32 n (a0) (((Option.some a1).getD ((0 : Int), [], [], [], (0 : Int), (0 : Int), [], ())).snd.fst) (((Option.some a1).getD ((0 : Int), [], [], [], (0 : Int), (0 : Int), [], ())).snd.snd.fst)) fun r435 =>
          (some (r435.fst, ())))
         none)
        none)
       (sel (((Option.some a1).getD ((0 : Int), [], [], [], (0 : Int), (0 : Int), [], ())).fst == (4 : Int))
        (sel ((Option.some a1).isSome)
         (obind (f33 n (a0) (((Option.some a1).getD ((0 : Int), [], [], [], (0 : Int), (0 : Int), [], ())).snd.fst)) fun r521 =>
          (some (r521.fst, ())))
         none)
        (sel (((Option.some a1).getD ((0 : Int), [], [], [], (0 : Int), (0 : Int), [], ())).fst == (5 : Int))
         (sel ((Option.some a1).isSome)
          (obind (f34 n (a0) (((Option.some a1).getD ((0 : Int), [], [], [], (0 : Int), (0 : Int), [], ())).snd.snd.snd.snd.snd.fst)) fun r607 =>
           (some (r607.fst, ())))
          none)
         (sel (((Option.some a1).getD ((0 : Int), [], [], [], (0 : Int), (0 : Int), [], ())).fst == (6 : Int))
          (sel ((Option.some a1).isSome)
           (sel ((Option.some a1).isSome)
            (obind (f23 n (a0) (((Option.some a1).getD ((0 : Int), [], [], [], (0 : Int), (0 : Int), [], ())).snd.snd.snd.snd.fst) (((Option.some a1).getD ((0 : Int), [], [], [], (0 : Int), (0 : Int), [], ())).snd.snd.snd.snd.snd.fst)) fun r707 =>
             (some (r707.fst, ())))
            none)
           none)
          (sel (((Option.some a1).getD ((0 : Int), [], [], [], (0 : Int), (0 : Int), [], ())).fst == (7 : Int))
           (sel ((Option.some a1).isSome)
            (sel (Decidable.decide ((0 : Nat) + List.length ((Option.some a1).getD ((0 : Int), [], [], [], (0 : Int), (0 : Int), [], ())).snd.snd.snd.snd.snd.snd.fst ≤ (1073741824 : Nat)))
             (obind (f11 n (a0) ([] ++ ((Option.some a1).getD ((0 : Int), [], [], [], (0 : Int), (0 : Int), [], ())).snd.snd.snd.snd.snd.snd.fst)) fun r807 =>
              (some (r807.fst, ())))
             none)
            none)
           (some ((0 : Int), ()))))))))))
   none)
  p9_8_eq (j : Nat) (n0 : Nat) (v5 : List (UInt8)) (v6 : Int) (v7 : Int) : p9_8 (j + 1) n0 v5 v6 v7 =
  (sel (Decidable.decide (v7 < (↑v5.length : Int)))
   (sel (Decidable.decide ((0 : Int) ≤ v7))
    (sel (Decidable.decide (v7 < (↑v5.length : Int)))
     (sel (Decidable.decide ((0 : Int) ≤ v7))
      (sel (Decidable.decide (v7 < (↑v5.length : Int)))
       (p9_8 (j) (n0) (v5.set v7.toNat (UInt8.ofNat (Go.IntKind.u8.wrap ((↑(UInt8.toNat (v5.getD v7.toNat (0 : UInt8))) : Int) + (↑(UInt8.toNat (1 : UInt8)) : Int))).toNat)) (v6) (Go.IntKind.i64.wrap (v7 + (1 : Int))))
       none)
      none)
     none)
    none)
   (some (v6, ())))
  f6_eq (n : Nat) (a0 : (Int × (List UInt8 × (List UInt8 × (List (UInt8) × (Int × (Int × (List (Int) × Unit)))))))) : f6 (n + 1) a0 =
  (p6_2 (n) (n) (Option.some a0) ([Option.none, Option.some ((), (0 : Int), (0 : Int), (0 : Int), ((0 : Int), (0 : Int), ()), ())]) ((↑(2 : Nat) : Int)) ((0 : Int)))
  p6_2_eq (j : Nat) (n0 : Nat) (v1 : Option ((Int × (List UInt8 × (List UInt8 × (List (UInt8) × (Int × (Int × (List (Int) × Unit))))))))) (v13 : List (Option ((Unit × (Int × (Int × (Int × ((Int × (Int × Unit)) × Unit)))))))) (v14 : Int) (v15 : Int) : p6_2 (j + 1) n0 v1 v13 v14 v15 =
  (sel (Decidable.decide (v15 < v14))
   (sel (Decidable.decide ((0 : Int) ≤ v15))
    (sel (Decidable.decide (v15 < (↑v13.length : Int)))
     (sel (v1.isSome)
      (sel (Decidable.decide ((v1.getD ((0 : Int), [], [], [], (0 : Int), (0 : Int), [], ())).fst ≥ (0 : Int)))
       (sel (v1.isSome)
        (sel (Decidable.decide ((v1.getD ((0 : Int), [], [], [], (0 : Int), (0 : Int), [], ())).fst < (8 : Int)))
         (sel (v1.isSome)
          (obind (f9 j (v13.getD v15.toNat Option.none) (v1.getD ((0 : Int), [], [], [], (0 : Int), (0 : Int), [], ()))) fun r259 =>
           (p6_2053 (j) (n0) (j) (v1) (v15) (v13) (v14) (v15) (r259.fst != (1 : Int))))
          none)
         (p6_2053 (j) (n0) (j) (v1) (v15) (v13) (v14) (v15) (Bool.false)))
        none)
       (p6_2053 (j) (n0) (j) (v1) (v15) (v13) (v14) (v15) (Bool.false)))
      none)
     none)
    none)
   (obind (f10 n0 (Option.none)) fun r461 =>
    (sel (Option.isNone r461.fst)
     (obind (f20 n0 (Option.none) (Option.none)) fun r504 =>
      (some (r504.fst, ())))
     (some (Bool.false, ())))))
  p6_2053_eq (j : Nat) (n0 : Nat) (n1 : Nat) (v1 : Option ((Int × (List UInt8 × (List UInt8 × (List (UInt8) × (Int × (Int × (List (Int) × Unit))))))))) (i4_0 : Int) (v13 : List (Option ((Unit × (Int × (Int × (Int × ((Int × (Int × Unit)) × Unit)))))))) (v14 : Int) (v15 : Int) (v32 : Bool) : p6_2053 (j + 1) n0 n1 v1 i4_0 v13 v14 v15 v32 =
  (sel (v32)
   (some (Bool.false, ()))
   (p6_6 (n1) (n0) (n1) (v1) (i4_0) (v13) (v14) (v15)))
  p6_6_eq (j : Nat) (n0 : Nat) (n1 : Nat) (v1 : Option ((Int × (List UInt8 × (List UInt8 × (List (UInt8) × (Int × (Int × (List (Int) × Unit))))))))) (i4_0 : Int) (v13 : List (Option ((Unit × (Int × (Int × (Int × ((Int × (Int × Unit)) × Unit)))))))) (v14 : Int) (v15 : Int) : p6_6 (j + 1) n0 n1 v1 i4_0 v13 v14 v15 =
  (sel (v1.isSome)
   (sel (v1.isSome)
    (sel (v1.isSome)
     (obind (f26 j (v13.getD i4_0.toNat Option.none) ((v1.getD ((0 : Int), [], [], [], (0 : Int), (0 : Int), [], ())).snd.fst) ((v1.getD ((0 : Int), [], [], [], (0 : Int), (0 : Int), [], ())).snd.snd.snd.snd.fst) ((v1.getD ((0 : Int), [], [], [], (0 : Int), (0 : Int), [], ())).snd.snd.snd.snd.snd.fst)) fun r684 =>
      (sel (v1.isSome)
       (obind (f14 j (v13.getD i4_0.toNat Option.none) ((v1.getD ((0 : Int), [], [], [], (0 : Int), (0 : Int), [], ())).snd.fst)) fun r758 =>
        (sel ((↑(List.length r684.fst) : Int) != (0 : Int))
         (p6_2057 (j) (n0) (n1) (j) (v1) (v13) (v14) (v15) (Bool.true))
         (sel (r684.snd.fst != (1 : Int))
          (p6_2057 (j) (n0) (n1) (j) (v1) (v13) (v14) (v15) (Bool.true))
          (sel (r758.fst != (0 : Int))
           (p6_2057 (j) (n0) (n1) (j) (v1) (v13) (v14) (v15) (Bool.true))
           (sel (r758.snd.fst != (0 : Int))
            (p6_2057 (j) (n0) (n1) (j) (v1) (v13) (v14) (v15) (Bool.true))
            (sel (r758.snd.snd.fst != (1 : Int))
             (p6_2057 (j) (n0) (n1) (j) (v1) (v13) (v14) (v15) (Bool.true))
             (obind (f12 j (v13.getD i4_0.toNat Option.none)) fun r2247 =>
              (sel ((↑(List.length r2247.fst) : Int) != (0 : Int))
               (p6_2057 (j) (n0) (n1) (j) (v1) (v13) (v14) (v15) (Bool.true))
               (obind (f15 j (v13.getD i4_0.toNat Option.none)) fun r2437 =>
                (sel (r2437.fst != (0 : Int))
                 (p6_2057 (j) (n0) (n1) (j) (v1) (v13) (v14) (v15) (Bool.true))
                 (obind (f22 j (v13.getD i4_0.toNat Option.none)) fun r2570 =>
                  (sel (r2570.fst != (0 : Int))
                   (p6_2057 (j) (n0) (n1) (j) (v1) (v13) (v14) (v15) (Bool.true))
                   (obind (f21 j (v13.getD i4_0.toNat Option.none)) fun r2659 =>
                    (p6_2057 (j) (n0) (n1) (j) (v1) (v13) (v14) (v15) (r2659.fst != (0 : Int))))))))))))))))
       none))
     none)
    none)
   none)
  p6_2057_eq (j : Nat) (n0 : Nat) (n1 : Nat) (n2 : Nat) (v1 : Option ((Int × (List UInt8 × (List UInt8 × (List (UInt8) × (Int × (Int × (List (Int) × Unit))))))))) (v13 : List (Option ((Unit × (Int × (Int × (Int × ((Int × (Int × Unit)) × Unit)))))))) (v14 : Int) (v15 : Int) (v91 : Bool) : p6_2057 (j + 1) n0 n1 n2 v1 v13 v14 v15 v91 =
  (sel (v91)
   (some (Bool.false, ()))
   (p6_10 (n1) (n0) (n1) (v1) (v13) (v14) (v15)))
  p6_10_eq (j : Nat) (n0 : Nat) (n1 : Nat) (v1 : Option ((Int × (List UInt8 × (List UInt8 × (List (UInt8) × (Int × (Int × (List (Int) × Unit))))))))) (v13 : List (Option ((Unit × (Int × (Int × (Int × ((Int × (Int × Unit)) × Unit)))))))) (v14 : Int) (v15 : Int) : p6_10 (j + 1) n0 n1 v1 v13 v14 v15 =
  (p6_2 (n1) (n0) (v1) (v13) (v14) (Go.IntKind.i64.wrap (v15 + (1 : Int))))
end Dn

/-! DiskNobody: the plain law. -/
namespace Dn
open Go Lk

theorem sel_ite {α : Type} (c : Bool) (x y : α) : sel c x y = if c = true then x else y := by cases c <;> rfl

section
variable (X : FnsD)
abbrev D := Unit × (Int × (Int × (Int × ((Int × (Int × Unit)) × Unit))))

theorem e35 (n : Nat) (a : Option D) : X.f35 (n + 1) a = some (true, ()) := by
  rw [X.f35_eq]; cases a <;> rfl
theorem e54 (n : Nat) (a : Option D) (l : List (List UInt8)) : X.f54 (n + 2) a l = some (1, ()) := by
  rw [X.f54_eq, e35]; rfl
theorem e38 (n : Nat) (a : Option D) (s : List UInt8) : X.f38 (n + 3) a s = some ((), 1, ()) := by
  rw [X.f38_eq, e54]; rfl
theorem e15 (n : Nat) (a : Option D) : X.f15 (n + 2) a = some (0, ()) := by rw [X.f15_eq, e35]; rfl
theorem e22 (n : Nat) (a : Option D) : X.f22 (n + 2) a = some (0, ()) := by rw [X.f22_eq, e35]; rfl
theorem e21 (n : Nat) (a : Option D) : X.f21 (n + 2) a = some (0, ()) := by rw [X.f21_eq, e35]; rfl
theorem e14 (n : Nat) (a : Option D) (s : List UInt8) : X.f14 (n + 4) a s = some (0, 0, 1, ()) := by rw [X.f14_eq, e38]; rfl
theorem e26 (n : Nat) (a : Option D) (s : List UInt8) (i j : Int) : X.f26 (n + 4) a s i j = some ([], 1, ()) := by rw [X.f26_eq, e38]; rfl
theorem e12 (n : Nat) (a : Option D) : X.f12 (n + 2) a = some ([], ()) := by rw [X.f12_eq, e35]; rfl
theorem e10 (n : Nat) (a : Option D) : X.f10 (n + 2) a = some (none, ()) := by rw [X.f10_eq, e35]; rfl
theorem e20 (n : Nat) (a b : Option D) : X.f20 (n + 3) a b = some (true, ()) := by
  rw [X.f20_eq, e35, ob_some, sel_t, X.p20_2050_eq, sel_t, e35, ob_some, sel_t, e35]; rfl
theorem e24 (n : Nat) (a : Option D) (s : List UInt8) : X.f24 (n + 3) a s = some (1, ()) := by rw [X.f24_eq, e54]; rfl
theorem e25 (n : Nat) (a : Option D) (s b : List UInt8) : X.f25 (n + 4) a s b = some (1, ()) := by rw [X.f25_eq, e38]; rfl
theorem e31 (n : Nat) (a : Option D) (s : List UInt8) : X.f31 (n + 4) a s = some (1, ()) := by rw [X.f31_eq, e38]; rfl
theorem e32 (n : Nat) (a : Option D) (s b : List UInt8) : X.f32 (n + 4) a s b = some (1, ()) := by rw [X.f32_eq, e54]; rfl
theorem e33 (n : Nat) (a : Option D) (s : List UInt8) : X.f33 (n + 4) a s = some (1, ()) := by rw [X.f33_eq, e38]; rfl
theorem e34 (n : Nat) (a : Option D) (i : Int) : X.f34 (n + 4) a i = some (1, ()) := by rw [X.f34_eq, e35]; rfl
theorem e23 (n : Nat) (a : Option D) (i j : Int) : X.f23 (n + 4) a i j = some (1, ()) := by rw [X.f23_eq, e35]; rfl
theorem e11 (n : Nat) (a : Option D) (l : List Int) : X.f11 (n + 4) a l = some (1, ()) := by rw [X.f11_eq, e35]; rfl

theorem e30 (n : Nat) (b : List UInt8) (hb : b.length ≤ 1048576) : X.f30 (n + 1) b = some (b, ()) := by
  rw [X.f30_eq]
  simp only [sel_ite, decide_eq_true_eq, List.nil_append, List.length_append, List.length_cons, List.length_nil, Nat.zero_add]
  rw [if_pos (by omega), if_pos (by omega), if_pos (by omega), if_pos (by omega)]
  simp [Lk.ext, win]

/-- The bytes that were lent are written over. -/
theorem e9l (N : Nat) : ∀ (k j n0 : Nat) (v : List UInt8) (e : Int), v.length = k + N → v.length ≤ 1048576 → X.p9_8 (j + N + 1) n0 v e (k : Int) = some (e, ()) := by
  induction N with
  | zero =>
    intro k j n0 v e h _
    rw [X.p9_8_eq, sel_ite, if_neg]
    simp; omega
  | succ N ih =>
    intro k j n0 v e h hb
    rw [show j + (N + 1) + 1 = (j + N + 1) + 1 by omega, X.p9_8_eq]
    simp only [sel_ite, decide_eq_true_eq]
    rw [if_pos (by omega), if_pos (by omega), if_pos (by omega), if_pos (by omega), if_pos (by omega), wrap64 (by omega) (by omega)]
    have := ih (k + 1) j n0 (v.set (k : Int).toNat (UInt8.ofNat (Go.IntKind.u8.wrap ((↑(UInt8.toNat (v.getD (k : Int).toNat (0 : UInt8))) : Int) + (↑(UInt8.toNat (1 : UInt8)) : Int))).toNat)) e (by simp; omega) (by simpa using hb)
    simpa using this

abbrev A := Int × (List UInt8 × (List UInt8 × (List UInt8 × (Int × (Int × (List Int × Unit))))))

theorem e9 (n : Nat) (d : Option D) (a : A) (h : 0 ≤ a.1 ∧ a.1 < 8) (hB : a.2.2.2.1.length ≤ 1048576) (hK : a.2.2.2.2.2.2.1.length ≤ 1048576) : X.f9 (n + a.2.2.2.1.length + 10) d a = some (1, ()) := by
  rw [show n + a.2.2.2.1.length + 10 = (n + a.2.2.2.1.length + 9) + 1 from rfl, X.f9_eq]
  simp only [Option.isSome_some, Option.getD_some, sel_t, sel_ite, beq_iff_eq, decide_eq_true_eq]
  have f24 := fun s => e24 X (n + a.2.2.2.1.length + 6) d s
  have f25 := fun s b => e25 X (n + a.2.2.2.1.length + 5) d s b
  have f31 := fun s => e31 X (n + a.2.2.2.1.length + 5) d s
  have f32 := fun s b => e32 X (n + a.2.2.2.1.length + 5) d s b
  have f33 := fun s => e33 X (n + a.2.2.2.1.length + 5) d s
  have f34 := fun i => e34 X (n + a.2.2.2.1.length + 5) d i
  have f23 := fun i j => e23 X (n + a.2.2.2.1.length + 5) d i j
  have f11 := fun l => e11 X (n + a.2.2.2.1.length + 5) d l
  have f30 := e30 X (n + a.2.2.2.1.length + 8) a.2.2.2.1 hB
  by_cases h0 : a.1 = 0
  · rw [if_pos h0, f24]; rfl
  rw [if_neg h0]
  by_cases h1 : a.1 = 1
  · rw [if_pos h1, f30, ob_some, f25, ob_some]
    have := e9l X a.2.2.2.1.length 0 (n + 8) (n + a.2.2.2.1.length + 9) a.2.2.2.1 1 (by omega) hB
    rw [show n + 8 + a.2.2.2.1.length + 1 = n + a.2.2.2.1.length + 9 by omega] at this
    exact this
  rw [if_neg h1]
  by_cases h2 : a.1 = 2
  · rw [if_pos h2, f31]; rfl
  rw [if_neg h2]
  by_cases h3 : a.1 = 3
  · rw [if_pos h3, f32]; rfl
  rw [if_neg h3]
  by_cases h4 : a.1 = 4
  · rw [if_pos h4, f33]; rfl
  rw [if_neg h4]
  by_cases h5 : a.1 = 5
  · rw [if_pos h5, f34]; rfl
  rw [if_neg h5]
  by_cases h6 : a.1 = 6
  · rw [if_pos h6, f23]; rfl
  rw [if_neg h6]
  have h7 : a.1 = 7 := by omega
  rw [if_pos h7, if_pos trivial, if_pos (show 0 + a.2.2.2.2.2.2.1.length ≤ 1073741824 by omega), f11]
  rfl

theorem e6 (n : Nat) (a : A) (hB : a.2.2.2.1.length ≤ 1048576) (hK : a.2.2.2.2.2.2.1.length ≤ 1048576) : X.f6 (n + a.2.2.2.1.length + 40) a = some (true, ()) := by
  let z : Option D := some ((), 0, 0, 0, (0, 0, ()), ())
  have fin : ∀ j n0, 4 ≤ n0 → X.p6_2 (j + 1) n0 (some a) [none, z] 2 2 = some (true, ()) := by
    intro j n0 h
    obtain ⟨m, rfl⟩ : ∃ m, n0 = m + 4 := ⟨n0 - 4, by omega⟩
    rw [X.p6_2_eq, sel_ite, if_neg (by simp), e10 X (m + 2), ob_some, sel_ite, if_pos (by rfl), e20 X (m + 1)]
    rfl
  have step : ∀ (i J n0 : Nat), i < 2 → a.2.2.2.1.length + 14 ≤ J → X.p6_2 (J + 1) n0 (some a) [none, z] 2 i = X.p6_2 J n0 (some a) [none, z] 2 ((i : Int) + 1) := by
    intro i J n0 hi hJ
    obtain ⟨m, rfl⟩ : ∃ m, J = m + a.2.2.2.1.length + 14 := ⟨J - a.2.2.2.1.length - 14, by omega⟩
    have p10 : X.p6_10 (m + a.2.2.2.1.length + 14) n0 (m + a.2.2.2.1.length + 14) (some a) [none, z] 2 i = X.p6_2 (m + a.2.2.2.1.length + 14) n0 (some a) [none, z] 2 ((i : Int) + 1) := by
      conv => lhs; rw [show m + a.2.2.2.1.length + 14 = (m + a.2.2.2.1.length + 13) + 1 from rfl, X.p6_10_eq]
      rw [wrap64 (by omega) (by omega)]
    have p2057 : X.p6_2057 (m + a.2.2.2.1.length + 13) n0 (m + a.2.2.2.1.length + 14) (m + a.2.2.2.1.length + 13) (some a) [none, z] 2 i false = X.p6_2 (m + a.2.2.2.1.length + 14) n0 (some a) [none, z] 2 ((i : Int) + 1) := by
      conv => lhs; rw [show m + a.2.2.2.1.length + 13 = (m + a.2.2.2.1.length + 12) + 1 from rfl, X.p6_2057_eq, sel_f]
      exact p10
    have p6 : X.p6_6 (m + a.2.2.2.1.length + 14) n0 (m + a.2.2.2.1.length + 14) (some a) i [none, z] 2 i = X.p6_2 (m + a.2.2.2.1.length + 14) n0 (some a) [none, z] 2 ((i : Int) + 1) := by
      conv => lhs; rw [show m + a.2.2.2.1.length + 14 = (m + a.2.2.2.1.length + 13) + 1 from rfl, X.p6_6_eq]
      simp only [Option.isSome_some, sel_t]
      rw [show m + a.2.2.2.1.length + 13 = (m + a.2.2.2.1.length + 9) + 4 from rfl, e26, ob_some, e14, ob_some]
      rw [sel_ite, if_neg (by simp), sel_ite, if_neg (by simp), sel_ite, if_neg (by simp), sel_ite, if_neg (by simp), sel_ite, if_neg (by simp)]
      rw [show m + a.2.2.2.1.length + 9 + 4 = (m + a.2.2.2.1.length + 11) + 2 from rfl, e12, ob_some, sel_ite, if_neg (by simp), e15, ob_some, sel_ite, if_neg (by simp), e22, ob_some, sel_ite, if_neg (by simp), e21, ob_some]
      exact p2057
    have p2053 : X.p6_2053 (m + a.2.2.2.1.length + 14) n0 (m + a.2.2.2.1.length + 14) (some a) i [none, z] 2 i false = X.p6_2 (m + a.2.2.2.1.length + 14) n0 (some a) [none, z] 2 ((i : Int) + 1) := by
      conv => lhs; rw [show m + a.2.2.2.1.length + 14 = (m + a.2.2.2.1.length + 13) + 1 from rfl, X.p6_2053_eq, sel_f]
      exact p6
    rw [X.p6_2_eq]
    simp only [Option.isSome_some, sel_t, Option.getD_some]
    rw [sel_ite, if_pos (by simp; omega), sel_ite, if_pos (by simp), sel_ite, if_pos (by simp; omega), sel_ite]
    split
    · rename_i h0
      rw [sel_ite]
      split
      · rename_i h8
        have := e9 X (m + 4) ([none, z].getD (i : Int).toNat none) a ⟨by simpa using h0, by simpa using h8⟩ hB hK
        rw [show m + 4 + a.2.2.2.1.length + 10 = m + a.2.2.2.1.length + 14 by omega] at this
        rw [this, ob_some]
        exact p2053
      · exact p2053
    · exact p2053
  rw [show n + a.2.2.2.1.length + 40 = (n + a.2.2.2.1.length + 39) + 1 from rfl, X.f6_eq]
  have s0 := step 0 (n + a.2.2.2.1.length + 38) (n + a.2.2.2.1.length + 39) (by omega) (by omega)
  have s1 := step 1 (n + a.2.2.2.1.length + 37) (n + a.2.2.2.1.length + 39) (by omega) (by omega)
  have s2 := fin (n + a.2.2.2.1.length + 36) (n + a.2.2.2.1.length + 39) (by omega)
  exact s0.trans (s1.trans s2)
end
end Dn

namespace DnG
open Go Lk
noncomputable def tys : BT (Ty × Md) := (.node (.node (.node (.node (.node (.node (.node .leaf 1 (.z .fn, .r) .leaf) 2 (.i .i64, .r) .leaf) 3 (.i .i64, .r) (.node (.node .leaf 4 (.b, .r) .leaf) 5 (.by, .r) .leaf)) 6 (.by, .r) (.node (.node (.node .leaf 7 (.c (.i .i64) (.c (.i .i64) (.c (.b) (.c (.by) (.u)))), (.q .r (.q .r (.q .r (.q .r .r))))) .leaf) 8 (.c (.i .i64) (.c (.i .i64) (.c (.b) (.c (.by) (.u)))), (.q .r (.q .r (.q .r (.q .r .r))))) .leaf) 9 (.s, .r) (.node (.node .leaf 10 (.s, .r) .leaf) 11 (.s, .r) .leaf))) 12 (.i .u64, .r) (.node (.node (.node (.node .leaf 13 (.c (.s) (.c (.i .u64) (.u)), (.q .r (.q .r .r))) .leaf) 14 (.c (.s) (.c (.i .u64) (.u)), (.q .r (.q .r .r))) .leaf) 15 (.z .pt, .r) (.node (.node .leaf 16 (.z .pt, .r) .leaf) 17 (.z .pt, .r) .leaf)) 18 (.c (.z .pt) (.u), (.q .r .r)) (.node (.node (.node .leaf 19 (.c (.z .pt) (.u), (.q .r .r)) .leaf) 20 (.e, .r) .leaf) 21 (.i .i32, .r) (.node .leaf 22 (.l (.c (.i .i64) (.c (.s) (.c (.s) (.c (.l (.by)) (.c (.i .i64) (.c (.i .i64) (.c (.l (.i .i64)) (.u)))))))), (.o (.q .r (.q .r (.q .r (.q (.o .r) (.q .r (.q .r (.q (.o .r) .r))))))))) .leaf)))) 23 (.l (.i .i64), (.o .r)) (.node (.node (.node (.node (.node .leaf 24 (.p (.c (.z .mp) (.c (.i .i64) (.c (.i .i64) (.c (.i .i64) (.c (.c (.i .i64) (.c (.i .i64) (.u))) (.u)))))), (.o (.q .r (.q .r (.q .r (.q .r (.q (.q .r (.q .r .r)) .r))))))) .leaf) 25 (.i .i64, .r) .leaf) 27 (.z .fn, .r) (.node (.node .leaf 28 (.z .fn, .r) .leaf) 29 (.l (.by), (.o .r)) .leaf)) 30 (.c (.i .i64) (.c (.s) (.c (.s) (.c (.l (.by)) (.c (.i .i64) (.c (.i .i64) (.c (.l (.i .i64)) (.u))))))), (.q .r (.q .r (.q .r (.q (.o .r) (.q .r (.q .r (.q (.o .r) .r)))))))) (.node (.node (.node .leaf 31 (.c (.i .i64) (.c (.s) (.c (.s) (.c (.l (.by)) (.c (.i .i64) (.c (.i .i64) (.c (.l (.i .i64)) (.u))))))), (.q .r (.q .r (.q .r (.q (.o .r) (.q .r (.q .r (.q (.o .r) .r)))))))) .leaf) 32 (.z .fn, .r) .leaf) 33 (.z .fn, .r) (.node (.node .leaf 34 (.l (.s), (.o .r)) .leaf) 35 (.z .fn, .r) .leaf))) 36 (.z .fn, .r) (.node (.node (.node (.node .leaf 38 (.z .fn, .r) .leaf) 39 (.z .fn, .r) .leaf) 40 (.z .fn, .r) (.node (.node .leaf 41 (.z .pt, .r) .leaf) 43 (.z .fn, .r) .leaf)) 44 (.z .fn, .r) (.node (.node (.node .leaf 45 (.z .fn, .r) .leaf) 46 (.z .fn, .r) .leaf) 47 (.z .fn, .r) (.node .leaf 48 (.z .fn, .r) .leaf))))) 49 (.z .fn, .r) (.node (.node (.node (.node (.node (.node .leaf 50 (.z .fn, .r) .leaf) 51 (.z .fn, .r) .leaf) 52 (.z .mp, .r) (.node (.node .leaf 53 (.c (.i .i64) (.c (.i .i64) (.u)), (.q .r (.q .r .r))) .leaf) 54 (.c (.i .i64) (.c (.i .i64) (.u)), (.q .r (.q .r .r))) .leaf)) 55 (.c (.z .mp) (.c (.i .i64) (.c (.i .i64) (.c (.i .i64) (.c (.c (.i .i64) (.c (.i .i64) (.u))) (.u))))), (.q .r (.q .r (.q .r (.q .r (.q (.q .r (.q .r .r)) .r)))))) (.node (.node (.node .leaf 56 (.c (.z .mp) (.c (.i .i64) (.c (.i .i64) (.c (.i .i64) (.c (.c (.i .i64) (.c (.i .i64) (.u))) (.u))))), (.q .r (.q .r (.q .r (.q .r (.q (.q .r (.q .r .r)) .r)))))) .leaf) 57 (.l (.p (.c (.z .mp) (.c (.i .i64) (.c (.i .i64) (.c (.i .i64) (.c (.c (.i .i64) (.c (.i .i64) (.u))) (.u))))))), (.o (.o (.q .r (.q .r (.q .r (.q .r (.q (.q .r (.q .r .r)) .r)))))))) .leaf) 59 (.z .fn, .r) (.node (.node .leaf 60 (.z .fn, .r) .leaf) 61 (.c (.l (.c (.i .i64) (.c (.s) (.c (.s) (.c (.l (.by)) (.c (.i .i64) (.c (.i .i64) (.c (.l (.i .i64)) (.u))))))))) (.c (.l (.c (.i .i64) (.c (.s) (.c (.s) (.c (.l (.by)) (.c (.i .i64) (.c (.i .i64) (.c (.l (.i .i64)) (.u))))))))) (.u)), (.q (.o (.q .r (.q .r (.q .r (.q (.o .r) (.q .r (.q .r (.q (.o .r) .r)))))))) (.q (.o (.q .r (.q .r (.q .r (.q (.o .r) (.q .r (.q .r (.q (.o .r) .r)))))))) .r))) .leaf))) 62 (.c (.l (.c (.i .i64) (.c (.s) (.c (.s) (.c (.l (.by)) (.c (.i .i64) (.c (.i .i64) (.c (.l (.i .i64)) (.u))))))))) (.c (.l (.c (.i .i64) (.c (.s) (.c (.s) (.c (.l (.by)) (.c (.i .i64) (.c (.i .i64) (.c (.l (.i .i64)) (.u))))))))) (.u)), (.q (.o (.q .r (.q .r (.q .r (.q (.o .r) (.q .r (.q .r (.q (.o .r) .r)))))))) (.q (.o (.q .r (.q .r (.q .r (.q (.o .r) (.q .r (.q .r (.q (.o .r) .r)))))))) .r))) (.node (.node (.node (.node .leaf 63 (.z .fn, .r) .leaf) 64 (.z .fn, .r) .leaf) 65 (.z .fn, .r) (.node (.node .leaf 66 (.z .fn, .r) .leaf) 67 (.z .fn, .r) .leaf)) 68 (.z .fn, .r) (.node (.node (.node .leaf 69 (.z .fn, .r) .leaf) 70 (.z .pt, .r) .leaf) 71 (.c (.l (.by)) (.c (.i .i64) (.u)), (.q (.o .r) (.q .r .r))) (.node .leaf 72 (.c (.l (.by)) (.c (.i .i64) (.u)), (.q (.o .r) (.q .r .r))) .leaf)))) 73 (.z .fn, .r) (.node (.node (.node (.node (.node .leaf 75 (.z .fn, .r) .leaf) 76 (.l (.c (.s) (.c (.s) (.c (.i .i64) (.u)))), (.o (.q .r (.q .r (.q .r .r))))) .leaf) 77 (.c (.l (.c (.s) (.c (.s) (.c (.i .i64) (.u))))) (.c (.i .i64) (.c (.i .i64) (.c (.i .i64) (.c (.i .i64) (.u))))), (.q (.o (.q .r (.q .r (.q .r .r)))) (.q .r (.q .r (.q .r (.q .r .r)))))) (.node (.node .leaf 78 (.c (.l (.c (.s) (.c (.s) (.c (.i .i64) (.u))))) (.c (.i .i64) (.c (.i .i64) (.c (.i .i64) (.c (.i .i64) (.u))))), (.q (.o (.q .r (.q .r (.q .r .r)))) (.q .r (.q .r (.q .r (.q .r .r)))))) .leaf) 79 (.z .fn, .r) .leaf)) 80 (.z .fn, .r) (.node (.node (.node .leaf 81 (.z .fn, .r) .leaf) 82 (.z .fn, .r) .leaf) 83 (.z .fn, .r) (.node (.node .leaf 85 (.z .fn, .r) .leaf) 87 (.z .fn, .r) .leaf))) 88 (.z .fn, .r) (.node (.node (.node (.node .leaf 89 (.z .fn, .r) .leaf) 90 (.z .fn, .r) .leaf) 91 (.z .fn, .r) (.node (.node .leaf 92 (.z .fn, .r) .leaf) 93 (.c (.s) (.c (.s) (.c (.i .i64) (.u))), (.q .r (.q .r (.q .r .r)))) .leaf)) 94 (.c (.s) (.c (.s) (.c (.i .i64) (.u))), (.q .r (.q .r (.q .r .r)))) (.node (.node (.node .leaf 95 (.z .fn, .r) .leaf) 96 (.z .fn, .r) .leaf) 97 (.i .u64, .r) (.node .leaf 98 (.z .fn, .r) .leaf))))))
noncomputable def sigs : BT Sig := (.node (.node (.node (.node (.node .leaf 6 ⟨[(.c (.i .i64) (.c (.s) (.c (.s) (.c (.l (.by)) (.c (.i .i64) (.c (.i .i64) (.c (.l (.i .i64)) (.u))))))), .b)], [(.b, .r)], 1⟩ .leaf) 9 ⟨[(.p (.c (.z .mp) (.c (.i .i64) (.c (.i .i64) (.c (.i .i64) (.c (.c (.i .i64) (.c (.i .i64) (.u))) (.u)))))), .b), (.c (.i .i64) (.c (.s) (.c (.s) (.c (.l (.by)) (.c (.i .i64) (.c (.i .i64) (.c (.l (.i .i64)) (.u))))))), .b)], [(.i .i64, .r)], 1⟩ (.node .leaf 10 ⟨[(.p (.c (.z .mp) (.c (.i .i64) (.c (.i .i64) (.c (.i .i64) (.c (.c (.i .i64) (.c (.i .i64) (.u))) (.u)))))), .b)], [(.p (.c (.z .mp) (.c (.i .i64) (.c (.i .i64) (.c (.i .i64) (.c (.c (.i .i64) (.c (.i .i64) (.u))) (.u)))))), (.o (.q .r (.q .r (.q .r (.q .r (.q (.q .r (.q .r .r)) .r)))))))], 1⟩ .leaf)) 11 ⟨[(.p (.c (.z .mp) (.c (.i .i64) (.c (.i .i64) (.c (.i .i64) (.c (.c (.i .i64) (.c (.i .i64) (.u))) (.u)))))), .b), (.l (.i .i64), .b)], [(.i .i64, .r)], 1⟩ (.node (.node .leaf 12 ⟨[(.p (.c (.z .mp) (.c (.i .i64) (.c (.i .i64) (.c (.i .i64) (.c (.c (.i .i64) (.c (.i .i64) (.u))) (.u)))))), .b)], [(.l (.s), (.o .r))], 1⟩ .leaf) 14 ⟨[(.p (.c (.z .mp) (.c (.i .i64) (.c (.i .i64) (.c (.i .i64) (.c (.c (.i .i64) (.c (.i .i64) (.u))) (.u)))))), .b), (.s, .r)], [(.i .i64, .r), (.i .i64, .r), (.i .i64, .r)], 3⟩ .leaf)) 15 ⟨[(.p (.c (.z .mp) (.c (.i .i64) (.c (.i .i64) (.c (.i .i64) (.c (.c (.i .i64) (.c (.i .i64) (.u))) (.u)))))), .b)], [(.i .i64, .r)], 1⟩ (.node (.node (.node .leaf 20 ⟨[(.p (.c (.z .mp) (.c (.i .i64) (.c (.i .i64) (.c (.i .i64) (.c (.c (.i .i64) (.c (.i .i64) (.u))) (.u)))))), .b), (.p (.c (.z .mp) (.c (.i .i64) (.c (.i .i64) (.c (.i .i64) (.c (.c (.i .i64) (.c (.i .i64) (.u))) (.u)))))), .b)], [(.b, .r)], 1⟩ .leaf) 21 ⟨[(.p (.c (.z .mp) (.c (.i .i64) (.c (.i .i64) (.c (.i .i64) (.c (.c (.i .i64) (.c (.i .i64) (.u))) (.u)))))), .b)], [(.i .i64, .r)], 1⟩ .leaf) 22 ⟨[(.p (.c (.z .mp) (.c (.i .i64) (.c (.i .i64) (.c (.i .i64) (.c (.c (.i .i64) (.c (.i .i64) (.u))) (.u)))))), .b)], [(.i .i64, .r)], 1⟩ (.node (.node .leaf 23 ⟨[(.p (.c (.z .mp) (.c (.i .i64) (.c (.i .i64) (.c (.i .i64) (.c (.c (.i .i64) (.c (.i .i64) (.u))) (.u)))))), .b), (.i .i64, .r), (.i .i64, .r)], [(.i .i64, .r)], 1⟩ .leaf) 24 ⟨[(.p (.c (.z .mp) (.c (.i .i64) (.c (.i .i64) (.c (.i .i64) (.c (.c (.i .i64) (.c (.i .i64) (.u))) (.u)))))), .b), (.s, .r)], [(.i .i64, .r)], 1⟩ .leaf))) 25 ⟨[(.p (.c (.z .mp) (.c (.i .i64) (.c (.i .i64) (.c (.i .i64) (.c (.c (.i .i64) (.c (.i .i64) (.u))) (.u)))))), .b), (.s, .r), (.l (.by), .b)], [(.i .i64, .r)], 1⟩ (.node (.node (.node (.node .leaf 26 ⟨[(.p (.c (.z .mp) (.c (.i .i64) (.c (.i .i64) (.c (.i .i64) (.c (.c (.i .i64) (.c (.i .i64) (.u))) (.u)))))), .b), (.s, .r), (.i .i64, .r), (.i .i64, .r)], [(.l (.by), (.o .r)), (.i .i64, .r)], 2⟩ .leaf) 29 ⟨[(.i .i64, .r)], [(.b, .r)], 1⟩ .leaf) 30 ⟨[(.l (.by), .b)], [(.l (.by), (.o .r))], 1⟩ (.node (.node .leaf 31 ⟨[(.p (.c (.z .mp) (.c (.i .i64) (.c (.i .i64) (.c (.i .i64) (.c (.c (.i .i64) (.c (.i .i64) (.u))) (.u)))))), .b), (.s, .r)], [(.i .i64, .r)], 1⟩ .leaf) 32 ⟨[(.p (.c (.z .mp) (.c (.i .i64) (.c (.i .i64) (.c (.i .i64) (.c (.c (.i .i64) (.c (.i .i64) (.u))) (.u)))))), .b), (.s, .r), (.s, .r)], [(.i .i64, .r)], 1⟩ .leaf)) 33 ⟨[(.p (.c (.z .mp) (.c (.i .i64) (.c (.i .i64) (.c (.i .i64) (.c (.c (.i .i64) (.c (.i .i64) (.u))) (.u)))))), .b), (.s, .r)], [(.i .i64, .r)], 1⟩ (.node (.node (.node .leaf 34 ⟨[(.p (.c (.z .mp) (.c (.i .i64) (.c (.i .i64) (.c (.i .i64) (.c (.c (.i .i64) (.c (.i .i64) (.u))) (.u)))))), .b), (.i .i64, .r)], [(.i .i64, .r)], 1⟩ .leaf) 35 ⟨[(.p (.c (.z .mp) (.c (.i .i64) (.c (.i .i64) (.c (.i .i64) (.c (.c (.i .i64) (.c (.i .i64) (.u))) (.u)))))), .b)], [(.b, .r)], 1⟩ .leaf) 38 ⟨[(.p (.c (.z .mp) (.c (.i .i64) (.c (.i .i64) (.c (.i .i64) (.c (.c (.i .i64) (.c (.i .i64) (.u))) (.u)))))), .b), (.s, .r)], [(.z .pt, .r), (.i .i64, .r)], 2⟩ (.node (.node .leaf 54 ⟨[(.p (.c (.z .mp) (.c (.i .i64) (.c (.i .i64) (.c (.i .i64) (.c (.c (.i .i64) (.c (.i .i64) (.u))) (.u)))))), .b), (.l (.s), .b)], [(.i .i64, .r)], 1⟩ .leaf) 55 ⟨[(.p (.c (.z .mp) (.c (.i .i64) (.c (.i .i64) (.c (.i .i64) (.c (.c (.i .i64) (.c (.i .i64) (.u))) (.u)))))), .b), (.b, .r)], [(.b, .r)], 1⟩ .leaf))))
noncomputable def bodies : BT Func := (.node (.node (.node (.node (.node .leaf 6 Go.Proofs.Try.f6 .leaf) 9 Go.Proofs.Try.f9 (.node .leaf 10 Go.Proofs.Try.f10 .leaf)) 11 Go.Proofs.Try.f11 (.node (.node .leaf 12 Go.Proofs.Try.f12 .leaf) 14 Go.Proofs.Try.f14 .leaf)) 15 Go.Proofs.Try.f15 (.node (.node (.node .leaf 20 Go.Proofs.Try.f20 .leaf) 21 Go.Proofs.Try.f21 .leaf) 22 Go.Proofs.Try.f22 (.node (.node .leaf 23 Go.Proofs.Try.f23 .leaf) 24 Go.Proofs.Try.f24 .leaf))) 25 Go.Proofs.Try.f25 (.node (.node (.node (.node .leaf 26 Go.Proofs.Try.f26 .leaf) 29 Go.Proofs.Try.f29 .leaf) 30 Go.Proofs.Try.f30 (.node (.node .leaf 31 Go.Proofs.Try.f31 .leaf) 32 Go.Proofs.Try.f32 .leaf)) 33 Go.Proofs.Try.f33 (.node (.node (.node .leaf 34 Go.Proofs.Try.f34 .leaf) 35 Go.Proofs.Try.f35 .leaf) 38 Go.Proofs.Try.f38 (.node (.node .leaf 54 Go.Proofs.Try.f54 .leaf) 55 Go.Proofs.Try.f55 .leaf))))
noncomputable def exts : BT Func := .leaf
noncomputable def lives : BT (List Nat) := (.node (.node (.node (.node (.node .leaf 24578 [1, 13, 14, 15] .leaf) 24582 [1, 4, 13, 14, 15] (.node .leaf 24586 [1, 13, 14, 15] .leaf)) 26629 [1, 4, 13, 14, 15, 32] (.node (.node .leaf 26633 [1, 13, 14, 15, 91] .leaf) 36872 [5, 6, 7] .leaf)) 40966 [3, 17] (.node (.node (.node .leaf 45060 [0, 1, 12, 13, 14] .leaf) 45066 [0, 1, 7, 8, 12, 13, 14] (.node .leaf 45069 [0, 1, 12, 13, 14] .leaf)) 49157 [3, 11] (.node (.node .leaf 81923 [0, 1] .leaf) 83970 [0, 1, 10] .leaf))) 94213 [0, 1, 2] (.node (.node (.node (.node .leaf 96260 [0, 1, 2, 10] .leaf) 106502 [2, 3, 10] (.node .leaf 108549 [2, 3, 10, 36] .leaf)) 131079 [0, 1, 2, 8] (.node (.node .leaf 131082 [0, 1, 2, 8] .leaf) 133126 [0, 1, 2, 8, 9, 31] .leaf)) 221188 [9, 10, 11] (.node (.node (.node .leaf 221192 [9, 10, 11] .leaf) 223239 [9, 10, 11, 21] .leaf) 225287 [0, 1, 5] (.node (.node .leaf 225289 [0, 1] .leaf) 225291 [1] .leaf))))
noncomputable def lims : BT Nat := (.node (.node .leaf 23 1073741824 .leaf) 29 1073741824 (.node .leaf 34 1073741824 .leaf))
noncomputable def G : Prg where
  ty T := tys.get T
  lim T := (lims.get T).getD 0
  cmp T := memb [] T
  sig g := (sigs.get g).getD ⟨[], [], 0⟩
  body g := bodies.get g
  ext g := none
  live g r := lives.get (Nat.add (Nat.mul g 4096) r)
end DnG

namespace DnG
open Go Lk 
set_option linter.unusedVariables false
/-- (*moraine/disk.Disk).none -/
@[irreducible] noncomputable def f35 (n : Nat) (a0 : Option ((Unit × (Int × (Int × (Int × ((Int × (Int × Unit)) × Unit))))))) : Option (Bool × Unit) := F G n 35 (a0, ())
/-- (*moraine/disk.Disk).check -/
@[irreducible] noncomputable def f54 (n : Nat) (a0 : Option ((Unit × (Int × (Int × (Int × ((Int × (Int × Unit)) × Unit))))))) (a1 : List (List UInt8)) : Option (Int × Unit) := F G n 54 (a0, a1, ())
@[irreducible] noncomputable def p54_4 (j : Nat) (n0 : Nat) (v9 : List (List UInt8)) (v10 : Int) (v11 : Int) : Option (Int × Unit) := piece G 54 [.r, .r, .l, .r, .b] j [n0] (skel 23 0 [(9, .av ⟨(.l .s), .b, v9⟩), (10, .av ⟨(.i .i64), .r, v10⟩), (11, .av ⟨(.i .i64), .r, v11⟩)])
@[irreducible] noncomputable def p54_2055 (j : Nat) (n0 : Nat) (n1 : Nat) (v9 : List (List UInt8)) (v10 : Int) (v11 : Int) (v21 : Bool) : Option (Int × Unit) := piece G 54 [.r, .r, .l, .r, .b, .o, .r, .r, .l, .b, .r, .r] j [n0, n1] (skel 23 0 [(9, .av ⟨(.l .s), .b, v9⟩), (10, .av ⟨(.i .i64), .r, v10⟩), (11, .av ⟨(.i .i64), .r, v11⟩), (21, .av ⟨.b, .r, v21⟩)])
@[irreducible] noncomputable def p54_8 (j : Nat) (n0 : Nat) (n1 : Nat) (v9 : List (List UInt8)) (v10 : Int) (v11 : Int) : Option (Int × Unit) := piece G 54 [.r, .r, .l, .r, .b, .o, .r, .r, .r] j [n0, n1] (skel 23 0 [(9, .av ⟨(.l .s), .b, v9⟩), (10, .av ⟨(.i .i64), .r, v10⟩), (11, .av ⟨(.i .i64), .r, v11⟩)])
/-- (*moraine/disk.Disk).find -/
@[irreducible] noncomputable def f38 (n : Nat) (a0 : Option ((Unit × (Int × (Int × (Int × ((Int × (Int × Unit)) × Unit))))))) (a1 : List UInt8) : Option (Unit × Int × Unit) := F G n 38 (a0, a1, ())
/-- moraine/disk.isQuota -/
@[irreducible] noncomputable def f29 (n : Nat) (a0 : Int) : Option (Bool × Unit) := F G n 29 (a0, ())
/-- (*moraine/disk.Disk).Used -/
@[irreducible] noncomputable def f15 (n : Nat) (a0 : Option ((Unit × (Int × (Int × (Int × ((Int × (Int × Unit)) × Unit))))))) : Option (Int × Unit) := F G n 15 (a0, ())
/-- (*moraine/disk.Disk).Quota -/
@[irreducible] noncomputable def f22 (n : Nat) (a0 : Option ((Unit × (Int × (Int × (Int × ((Int × (Int × Unit)) × Unit))))))) : Option (Int × Unit) := F G n 22 (a0, ())
/-- (*moraine/disk.Disk).Refused -/
@[irreducible] noncomputable def f21 (n : Nat) (a0 : Option ((Unit × (Int × (Int × (Int × ((Int × (Int × Unit)) × Unit))))))) : Option (Int × Unit) := F G n 21 (a0, ())
/-- (*moraine/disk.Disk).Size -/
@[irreducible] noncomputable def f14 (n : Nat) (a0 : Option ((Unit × (Int × (Int × (Int × ((Int × (Int × Unit)) × Unit))))))) (a1 : List UInt8) : Option (Int × Int × Int × Unit) := F G n 14 (a0, a1, ())
/-- (*moraine/disk.Disk).Read -/
@[irreducible] noncomputable def f26 (n : Nat) (a0 : Option ((Unit × (Int × (Int × (Int × ((Int × (Int × Unit)) × Unit))))))) (a1 : List UInt8) (a2 : Int) (a3 : Int) : Option (List (UInt8) × Int × Unit) := F G n 26 (a0, a1, a2, a3, ())
@[irreducible] noncomputable def p26_2053 (j : Nat) (n0 : Nat) (v2 : Int) (v3 : Int) (v10 : Unit) (v36 : Bool) : Option (List (UInt8) × Int × Unit) := piece G 26 [.r, .r, .r, .l, .r] j [n0] (skel 50 0 [(2, .av ⟨(.i .i64), .r, v2⟩), (3, .av ⟨(.i .i64), .r, v3⟩), (10, .av ⟨(.z .pt), .r, v10⟩), (36, .av ⟨.b, .r, v36⟩)])
@[irreducible] noncomputable def p26_6 (j : Nat) (n0 : Nat) (v2 : Int) (v3 : Int) (v10 : Unit) : Option (List (UInt8) × Int × Unit) := piece G 26 [.r, .r, .r, .r] j [n0] (skel 50 0 [(2, .av ⟨(.i .i64), .r, v2⟩), (3, .av ⟨(.i .i64), .r, v3⟩), (10, .av ⟨(.z .pt), .r, v10⟩)])
/-- (*moraine/disk.Disk).List -/
@[irreducible] noncomputable def f12 (n : Nat) (a0 : Option ((Unit × (Int × (Int × (Int × ((Int × (Int × Unit)) × Unit))))))) : Option (List (List UInt8) × Unit) := F G n 12 (a0, ())
/-- (*moraine/disk.Disk).Clone -/
@[irreducible] noncomputable def f10 (n : Nat) (a0 : Option ((Unit × (Int × (Int × (Int × ((Int × (Int × Unit)) × Unit))))))) : Option (Option ((Unit × (Int × (Int × (Int × ((Int × (Int × Unit)) × Unit)))))) × Unit) := F G n 10 (a0, ())
/-- (*moraine/disk.Disk).Same -/
@[irreducible] noncomputable def f20 (n : Nat) (a0 : Option ((Unit × (Int × (Int × (Int × ((Int × (Int × Unit)) × Unit))))))) (a1 : Option ((Unit × (Int × (Int × (Int × ((Int × (Int × Unit)) × Unit))))))) : Option (Bool × Unit) := F G n 20 (a0, a1, ())
@[irreducible] noncomputable def p20_2050 (j : Nat) (n0 : Nat) (v0 : Option ((Unit × (Int × (Int × (Int × ((Int × (Int × Unit)) × Unit))))))) (v1 : Option ((Unit × (Int × (Int × (Int × ((Int × (Int × Unit)) × Unit))))))) (v10 : Bool) : Option (Bool × Unit) := piece G 20 [.r, .l, .r] j [n0] (skel 26 0 [(0, .av ⟨(.p (.c (.z .mp) (.c (.i .i64) (.c (.i .i64) (.c (.i .i64) (.c (.c (.i .i64) (.c (.i .i64) .u)) .u)))))), .b, v0⟩), (1, .av ⟨(.p (.c (.z .mp) (.c (.i .i64) (.c (.i .i64) (.c (.i .i64) (.c (.c (.i .i64) (.c (.i .i64) .u)) .u)))))), .b, v1⟩), (10, .av ⟨.b, .r, v10⟩)])
@[irreducible] noncomputable def p20_3 (j : Nat) (n0 : Nat) (v0 : Option ((Unit × (Int × (Int × (Int × ((Int × (Int × Unit)) × Unit))))))) (v1 : Option ((Unit × (Int × (Int × (Int × ((Int × (Int × Unit)) × Unit))))))) : Option (Bool × Unit) := piece G 20 [.r, .r] j [n0] (skel 26 0 [(0, .av ⟨(.p (.c (.z .mp) (.c (.i .i64) (.c (.i .i64) (.c (.i .i64) (.c (.c (.i .i64) (.c (.i .i64) .u)) .u)))))), .b, v0⟩), (1, .av ⟨(.p (.c (.z .mp) (.c (.i .i64) (.c (.i .i64) (.c (.i .i64) (.c (.c (.i .i64) (.c (.i .i64) .u)) .u)))))), .b, v1⟩)])
/-- (*moraine/disk.Disk).try -/
@[irreducible] noncomputable def f55 (n : Nat) (a0 : Option ((Unit × (Int × (Int × (Int × ((Int × (Int × Unit)) × Unit))))))) (a1 : Bool) : Option (Bool × Unit) := F G n 55 (a0, a1, ())
@[irreducible] noncomputable def p55_7 (j : Nat) (n0 : Nat) (v0 : Option ((Unit × (Int × (Int × (Int × ((Int × (Int × Unit)) × Unit))))))) (v1 : Bool) (v5 : Option ((Int × (Int × Unit)))) : Option (Bool × Unit) := piece G 55 [.r, .r, .r] j [n0] (skel 45 0 [(0, .av ⟨(.p (.c (.z .mp) (.c (.i .i64) (.c (.i .i64) (.c (.i .i64) (.c (.c (.i .i64) (.c (.i .i64) .u)) .u)))))), .b, v0⟩), (1, .av ⟨.b, .r, v1⟩), (5, .av ⟨(.p (.c (.i .i64) (.c (.i .i64) .u))), (.o (.q .r (.q .r .r))), v5⟩)])
/-- (*moraine/disk.Disk).Create -/
@[irreducible] noncomputable def f24 (n : Nat) (a0 : Option ((Unit × (Int × (Int × (Int × ((Int × (Int × Unit)) × Unit))))))) (a1 : List UInt8) : Option (Int × Unit) := F G n 24 (a0, a1, ())
/-- (*moraine/disk.Disk).Append -/
@[irreducible] noncomputable def f25 (n : Nat) (a0 : Option ((Unit × (Int × (Int × (Int × ((Int × (Int × Unit)) × Unit))))))) (a1 : List UInt8) (a2 : List (UInt8)) : Option (Int × Unit) := F G n 25 (a0, a1, a2, ())
/-- (*moraine/disk.Disk).Sync -/
@[irreducible] noncomputable def f31 (n : Nat) (a0 : Option ((Unit × (Int × (Int × (Int × ((Int × (Int × Unit)) × Unit))))))) (a1 : List UInt8) : Option (Int × Unit) := F G n 31 (a0, a1, ())
/-- (*moraine/disk.Disk).Rename -/
@[irreducible] noncomputable def f32 (n : Nat) (a0 : Option ((Unit × (Int × (Int × (Int × ((Int × (Int × Unit)) × Unit))))))) (a1 : List UInt8) (a2 : List UInt8) : Option (Int × Unit) := F G n 32 (a0, a1, a2, ())
@[irreducible] noncomputable def p32_2054 (j : Nat) (n0 : Nat) (v0 : Option ((Unit × (Int × (Int × (Int × ((Int × (Int × Unit)) × Unit))))))) (v1 : List UInt8) (v2 : List UInt8) (v8 : Unit) (v9 : Int) (v31 : Bool) : Option (Int × Unit) := piece G 32 [.r, .r, .r, .l, .r] j [n0] (skel 64 0 [(0, .av ⟨(.p (.c (.z .mp) (.c (.i .i64) (.c (.i .i64) (.c (.i .i64) (.c (.c (.i .i64) (.c (.i .i64) .u)) .u)))))), .b, v0⟩), (1, .av ⟨.s, .r, v1⟩), (2, .av ⟨.s, .r, v2⟩), (8, .av ⟨(.z .pt), .r, v8⟩), (9, .av ⟨(.i .i64), .r, v9⟩), (31, .av ⟨.b, .r, v31⟩)])
@[irreducible] noncomputable def p32_7 (j : Nat) (n0 : Nat) (v0 : Option ((Unit × (Int × (Int × (Int × ((Int × (Int × Unit)) × Unit))))))) (v1 : List UInt8) (v2 : List UInt8) (v8 : Unit) : Option (Int × Unit) := piece G 32 [.r, .r, .r, .r] j [n0] (skel 64 0 [(0, .av ⟨(.p (.c (.z .mp) (.c (.i .i64) (.c (.i .i64) (.c (.i .i64) (.c (.c (.i .i64) (.c (.i .i64) .u)) .u)))))), .b, v0⟩), (1, .av ⟨.s, .r, v1⟩), (2, .av ⟨.s, .r, v2⟩), (8, .av ⟨(.z .pt), .r, v8⟩)])
/-- (*moraine/disk.Disk).Remove -/
@[irreducible] noncomputable def f33 (n : Nat) (a0 : Option ((Unit × (Int × (Int × (Int × ((Int × (Int × Unit)) × Unit))))))) (a1 : List UInt8) : Option (Int × Unit) := F G n 33 (a0, a1, ())
/-- (*moraine/disk.Disk).SetQuota -/
@[irreducible] noncomputable def f34 (n : Nat) (a0 : Option ((Unit × (Int × (Int × (Int × ((Int × (Int × Unit)) × Unit))))))) (a1 : Int) : Option (Int × Unit) := F G n 34 (a0, a1, ())
/-- (*moraine/disk.Disk).Refuse -/
@[irreducible] noncomputable def f23 (n : Nat) (a0 : Option ((Unit × (Int × (Int × (Int × ((Int × (Int × Unit)) × Unit))))))) (a1 : Int) (a2 : Int) : Option (Int × Unit) := F G n 23 (a0, a1, a2, ())
@[irreducible] noncomputable def p23_2052 (j : Nat) (n0 : Nat) (v0 : Option ((Unit × (Int × (Int × (Int × ((Int × (Int × Unit)) × Unit))))))) (v1 : Int) (v2 : Int) (v10 : Bool) : Option (Int × Unit) := piece G 23 [.r, .l, .b, .r, .f, .r] j [n0] (skel 23 0 [(0, .av ⟨(.p (.c (.z .mp) (.c (.i .i64) (.c (.i .i64) (.c (.i .i64) (.c (.c (.i .i64) (.c (.i .i64) .u)) .u)))))), .b, v0⟩), (1, .av ⟨(.i .i64), .r, v1⟩), (2, .av ⟨(.i .i64), .r, v2⟩), (10, .av ⟨.b, .r, v10⟩)])
@[irreducible] noncomputable def p23_5 (j : Nat) (n0 : Nat) (v0 : Option ((Unit × (Int × (Int × (Int × ((Int × (Int × Unit)) × Unit))))))) (v1 : Int) (v2 : Int) : Option (Int × Unit) := piece G 23 [.r, .r] j [n0] (skel 23 0 [(0, .av ⟨(.p (.c (.z .mp) (.c (.i .i64) (.c (.i .i64) (.c (.i .i64) (.c (.c (.i .i64) (.c (.i .i64) .u)) .u)))))), .b, v0⟩), (1, .av ⟨(.i .i64), .r, v1⟩), (2, .av ⟨(.i .i64), .r, v2⟩)])
/-- (*moraine/disk.Disk).Crash -/
@[irreducible] noncomputable def f11 (n : Nat) (a0 : Option ((Unit × (Int × (Int × (Int × ((Int × (Int × Unit)) × Unit))))))) (a1 : List (Int)) : Option (Int × Unit) := F G n 11 (a0, a1, ())
@[irreducible] noncomputable def p11_4 (j : Nat) (n0 : Nat) (v0 : Option ((Unit × (Int × (Int × (Int × ((Int × (Int × Unit)) × Unit))))))) (v1 : List (Int)) (v12 : List (List UInt8)) (v13 : Int) (v14 : Int) : Option (Int × Unit) := piece G 11 [.r, .r, .l, .r, .b] j [n0] (skel 89 0 [(0, .av ⟨(.p (.c (.z .mp) (.c (.i .i64) (.c (.i .i64) (.c (.i .i64) (.c (.c (.i .i64) (.c (.i .i64) .u)) .u)))))), .b, v0⟩), (1, .av ⟨(.l (.i .i64)), .b, v1⟩), (12, .av ⟨(.l .s), (.o .r), v12⟩), (13, .av ⟨(.i .i64), .r, v13⟩), (14, .av ⟨(.i .i64), .r, v14⟩)])
/-- moraine/morainelaw05.lent -/
@[irreducible] noncomputable def f30 (n : Nat) (a0 : List (UInt8)) : Option (List (UInt8) × Unit) := F G n 30 (a0, ())
/-- moraine/morainelaw05.does -/
@[irreducible] noncomputable def f9 (n : Nat) (a0 : Option ((Unit × (Int × (Int × (Int × ((Int × (Int × Unit)) × Unit))))))) (a1 : (Int × (List UInt8 × (List UInt8 × (List (UInt8) × (Int × (Int × (List (Int) × Unit)))))))) : Option (Int × Unit) := F G n 9 (a0, a1, ())
@[irreducible] noncomputable def p9_8 (j : Nat) (n0 : Nat) (v5 : List (UInt8)) (v6 : Int) (v7 : Int) : Option (Int × Unit) := piece G 9 [.r, .l, .r, .b, .r, .f, .r, .t, .r, .r, .l, .r, .b] j [n0] (skel 83 0 [(5, .av ⟨(.l .by), (.o .r), v5⟩), (6, .av ⟨(.i .i64), .r, v6⟩), (7, .av ⟨(.i .i64), .r, v7⟩)])
/-- moraine/morainelaw05.DiskNobody -/
@[irreducible] noncomputable def f6 (n : Nat) (a0 : (Int × (List UInt8 × (List UInt8 × (List (UInt8) × (Int × (Int × (List (Int) × Unit)))))))) : Option (Bool × Unit) := F G n 6 (a0, ())
@[irreducible] noncomputable def p6_2 (j : Nat) (n0 : Nat) (v1 : Option ((Int × (List UInt8 × (List UInt8 × (List (UInt8) × (Int × (Int × (List (Int) × Unit))))))))) (v13 : List (Option ((Unit × (Int × (Int × (Int × ((Int × (Int × Unit)) × Unit)))))))) (v14 : Int) (v15 : Int) : Option (Bool × Unit) := piece G 6 [.r, .l, .r, .b] j [n0] (skel 100 0 [(1, .av ⟨(.p (.c (.i .i64) (.c .s (.c .s (.c (.l .by) (.c (.i .i64) (.c (.i .i64) (.c (.l (.i .i64)) .u)))))))), (.o (.q .b (.q .b (.q .b (.q .b (.q .b (.q .b (.q .b .b)))))))), v1⟩), (13, .av ⟨(.l (.p (.c (.z .mp) (.c (.i .i64) (.c (.i .i64) (.c (.i .i64) (.c (.c (.i .i64) (.c (.i .i64) .u)) .u))))))), (.o (.o (.q .r (.q .r (.q .r (.q .r (.q (.q .r (.q .r .r)) .r))))))), v13⟩), (14, .av ⟨(.i .i64), .r, v14⟩), (15, .av ⟨(.i .i64), .r, v15⟩)])
@[irreducible] noncomputable def p6_2053 (j : Nat) (n0 : Nat) (n1 : Nat) (v1 : Option ((Int × (List UInt8 × (List UInt8 × (List (UInt8) × (Int × (Int × (List (Int) × Unit))))))))) (i4_0 : Int) (v13 : List (Option ((Unit × (Int × (Int × (Int × ((Int × (Int × Unit)) × Unit)))))))) (v14 : Int) (v15 : Int) (v32 : Bool) : Option (Bool × Unit) := piece G 6 [.r, .l, .r, .b, .o, .r, .r, .l, .b, .r, .l, .r] j [n0, n1] (skel 100 0 [(1, .av ⟨(.p (.c (.i .i64) (.c .s (.c .s (.c (.l .by) (.c (.i .i64) (.c (.i .i64) (.c (.l (.i .i64)) .u)))))))), (.o (.q .b (.q .b (.q .b (.q .b (.q .b (.q .b (.q .b .b)))))))), v1⟩), (4, .al 13 [.x i4_0]), (13, .av ⟨(.l (.p (.c (.z .mp) (.c (.i .i64) (.c (.i .i64) (.c (.i .i64) (.c (.c (.i .i64) (.c (.i .i64) .u)) .u))))))), (.o (.o (.q .r (.q .r (.q .r (.q .r (.q (.q .r (.q .r .r)) .r))))))), v13⟩), (14, .av ⟨(.i .i64), .r, v14⟩), (15, .av ⟨(.i .i64), .r, v15⟩), (32, .av ⟨.b, .r, v32⟩)])
@[irreducible] noncomputable def p6_6 (j : Nat) (n0 : Nat) (n1 : Nat) (v1 : Option ((Int × (List UInt8 × (List UInt8 × (List (UInt8) × (Int × (Int × (List (Int) × Unit))))))))) (i4_0 : Int) (v13 : List (Option ((Unit × (Int × (Int × (Int × ((Int × (Int × Unit)) × Unit)))))))) (v14 : Int) (v15 : Int) : Option (Bool × Unit) := piece G 6 [.r, .l, .r, .b, .o, .r, .r, .l, .b, .r, .r] j [n0, n1] (skel 100 0 [(1, .av ⟨(.p (.c (.i .i64) (.c .s (.c .s (.c (.l .by) (.c (.i .i64) (.c (.i .i64) (.c (.l (.i .i64)) .u)))))))), (.o (.q .b (.q .b (.q .b (.q .b (.q .b (.q .b (.q .b .b)))))))), v1⟩), (4, .al 13 [.x i4_0]), (13, .av ⟨(.l (.p (.c (.z .mp) (.c (.i .i64) (.c (.i .i64) (.c (.i .i64) (.c (.c (.i .i64) (.c (.i .i64) .u)) .u))))))), (.o (.o (.q .r (.q .r (.q .r (.q .r (.q (.q .r (.q .r .r)) .r))))))), v13⟩), (14, .av ⟨(.i .i64), .r, v14⟩), (15, .av ⟨(.i .i64), .r, v15⟩)])
@[irreducible] noncomputable def p6_2057 (j : Nat) (n0 : Nat) (n1 : Nat) (n2 : Nat) (v1 : Option ((Int × (List UInt8 × (List UInt8 × (List (UInt8) × (Int × (Int × (List (Int) × Unit))))))))) (v13 : List (Option ((Unit × (Int × (Int × (Int × ((Int × (Int × Unit)) × Unit)))))))) (v14 : Int) (v15 : Int) (v91 : Bool) : Option (Bool × Unit) := piece G 6 [.r, .l, .r, .b, .o, .r, .r, .l, .b, .r, .r, .r, .r, .r] j [n0, n1, n2] (skel 100 0 [(1, .av ⟨(.p (.c (.i .i64) (.c .s (.c .s (.c (.l .by) (.c (.i .i64) (.c (.i .i64) (.c (.l (.i .i64)) .u)))))))), (.o (.q .b (.q .b (.q .b (.q .b (.q .b (.q .b (.q .b .b)))))))), v1⟩), (13, .av ⟨(.l (.p (.c (.z .mp) (.c (.i .i64) (.c (.i .i64) (.c (.i .i64) (.c (.c (.i .i64) (.c (.i .i64) .u)) .u))))))), (.o (.o (.q .r (.q .r (.q .r (.q .r (.q (.q .r (.q .r .r)) .r))))))), v13⟩), (14, .av ⟨(.i .i64), .r, v14⟩), (15, .av ⟨(.i .i64), .r, v15⟩), (91, .av ⟨.b, .r, v91⟩)])
@[irreducible] noncomputable def p6_10 (j : Nat) (n0 : Nat) (n1 : Nat) (v1 : Option ((Int × (List UInt8 × (List UInt8 × (List (UInt8) × (Int × (Int × (List (Int) × Unit))))))))) (v13 : List (Option ((Unit × (Int × (Int × (Int × ((Int × (Int × Unit)) × Unit)))))))) (v14 : Int) (v15 : Int) : Option (Bool × Unit) := piece G 6 [.r, .l, .r, .b, .o, .r, .r, .r] j [n0, n1] (skel 100 0 [(1, .av ⟨(.p (.c (.i .i64) (.c .s (.c .s (.c (.l .by) (.c (.i .i64) (.c (.i .i64) (.c (.l (.i .i64)) .u)))))))), (.o (.q .b (.q .b (.q .b (.q .b (.q .b (.q .b (.q .b .b)))))))), v1⟩), (13, .av ⟨(.l (.p (.c (.z .mp) (.c (.i .i64) (.c (.i .i64) (.c (.i .i64) (.c (.c (.i .i64) (.c (.i .i64) .u)) .u))))))), (.o (.o (.q .r (.q .r (.q .r (.q .r (.q (.q .r (.q .r .r)) .r))))))), v13⟩), (14, .av ⟨(.i .i64), .r, v14⟩), (15, .av ⟨(.i .i64), .r, v15⟩)])
theorem f35_eq (n : Nat) (a0 : Option ((Unit × (Int × (Int × (Int × ((Int × (Int × Unit)) × Unit))))))) : f35 (n + 1) a0 =
  (sel (a0.isNone)
   (some (Bool.true, ()))
   (sel (a0.isSome)
    (sel (a0.isSome)
     (some (Bool.true, ()))
     none)
    none)) := by kernel_rfl
theorem f54_eq (n : Nat) (a0 : Option ((Unit × (Int × (Int × (Int × ((Int × (Int × Unit)) × Unit))))))) (a1 : List (List UInt8)) : f54 (n + 1) a0 a1 =
  (obind (f35 n (a0)) fun r41 =>
   (sel (r41.fst)
    (some ((1 : Int), ()))
    (p54_4 (n) (n) (a1) ((↑a1.length : Int)) ((0 : Int))))) := by kernel_rfl
theorem p54_4_eq (j : Nat) (n0 : Nat) (v9 : List (List UInt8)) (v10 : Int) (v11 : Int) : p54_4 (j + 1) n0 v9 v10 v11 =
  (sel (Decidable.decide (v11 < v10))
   (sel (Decidable.decide ((0 : Int) ≤ v11))
    (sel (Decidable.decide (v11 < (↑v9.length : Int)))
     (sel (v9.getD v11.toNat [] == [])
      (p54_2055 (j) (n0) (j) (v9) (v10) (v11) (Bool.true))
      (p54_2055 (j) (n0) (j) (v9) (v10) (v11) (Decidable.decide ((↑(List.length (v9.getD v11.toNat [])) : Int) > (64 : Int)))))
     none)
    none)
   (some ((0 : Int), ()))) := by kernel_rfl
theorem p54_2055_eq (j : Nat) (n0 : Nat) (n1 : Nat) (v9 : List (List UInt8)) (v10 : Int) (v11 : Int) (v21 : Bool) : p54_2055 (j + 1) n0 n1 v9 v10 v11 v21 =
  (sel (v21)
   (some ((2 : Int), ()))
   (p54_8 (n1) (n0) (n1) (v9) (v10) (v11))) := by kernel_rfl
theorem p54_8_eq (j : Nat) (n0 : Nat) (n1 : Nat) (v9 : List (List UInt8)) (v10 : Int) (v11 : Int) : p54_8 (j + 1) n0 n1 v9 v10 v11 =
  (p54_4 (n1) (n0) (v9) (v10) (Go.IntKind.i64.wrap (v11 + (1 : Int)))) := by kernel_rfl
theorem f38_eq (n : Nat) (a0 : Option ((Unit × (Int × (Int × (Int × ((Int × (Int × Unit)) × Unit))))))) (a1 : List UInt8) : f38 (n + 1) a0 a1 =
  (obind (f54 n (a0) ([a1])) fun r62 =>
   (sel (r62.fst != (0 : Int))
    (some ((), r62.fst, ()))
    (sel (a0.isSome)
     (sel (a0.isSome)
      none
      none)
     none))) := by kernel_rfl
theorem f29_eq (n : Nat) (a0 : Int) : f29 (n + 1) a0 =
  (sel (Decidable.decide (a0 ≥ (0 : Int)))
   (some (Decidable.decide (a0 ≤ (268435456 : Int)), ()))
   (some (Bool.false, ()))) := by kernel_rfl
theorem f15_eq (n : Nat) (a0 : Option ((Unit × (Int × (Int × (Int × ((Int × (Int × Unit)) × Unit))))))) : f15 (n + 1) a0 =
  (obind (f35 n (a0)) fun r41 =>
   (sel (r41.fst)
    (some ((0 : Int), ()))
    (sel (a0.isSome)
     (sel (a0.isSome)
      (some ((a0.getD ((), (0 : Int), (0 : Int), (0 : Int), ((0 : Int), (0 : Int), ()), ())).snd.snd.fst, ()))
      none)
     none))) := by kernel_rfl
theorem f22_eq (n : Nat) (a0 : Option ((Unit × (Int × (Int × (Int × ((Int × (Int × Unit)) × Unit))))))) : f22 (n + 1) a0 =
  (obind (f35 n (a0)) fun r41 =>
   (sel (r41.fst)
    (some ((0 : Int), ()))
    (sel (a0.isSome)
     (sel (a0.isSome)
      (some ((a0.getD ((), (0 : Int), (0 : Int), (0 : Int), ((0 : Int), (0 : Int), ()), ())).snd.fst, ()))
      none)
     none))) := by kernel_rfl
theorem f21_eq (n : Nat) (a0 : Option ((Unit × (Int × (Int × (Int × ((Int × (Int × Unit)) × Unit))))))) : f21 (n + 1) a0 =
  (obind (f35 n (a0)) fun r41 =>
   (sel (r41.fst)
    (some ((0 : Int), ()))
    (sel (a0.isSome)
     (sel (a0.isSome)
      (some ((a0.getD ((), (0 : Int), (0 : Int), (0 : Int), ((0 : Int), (0 : Int), ()), ())).snd.snd.snd.fst, ()))
      none)
     none))) := by kernel_rfl
theorem f14_eq (n : Nat) (a0 : Option ((Unit × (Int × (Int × (Int × ((Int × (Int × Unit)) × Unit))))))) (a1 : List UInt8) : f14 (n + 1) a0 a1 =
  (obind (f38 n (a0) (a1)) fun r61 =>
   (sel (r61.snd.fst != (0 : Int))
    (some ((0 : Int), (0 : Int), r61.snd.fst, ()))
    none)) := by kernel_rfl
theorem f26_eq (n : Nat) (a0 : Option ((Unit × (Int × (Int × (Int × ((Int × (Int × Unit)) × Unit))))))) (a1 : List UInt8) (a2 : Int) (a3 : Int) : f26 (n + 1) a0 a1 a2 a3 =
  (obind (f38 n (a0) (a1)) fun r54 =>
   (sel (r54.snd.fst != (0 : Int))
    (some ([], r54.snd.fst, ()))
    (sel (Decidable.decide (a2 < (0 : Int)))
     (p26_2053 (n) (n) (a2) (a3) (r54.fst) (Bool.true))
     none))) := by kernel_rfl
theorem p26_2053_eq (j : Nat) (n0 : Nat) (v2 : Int) (v3 : Int) (v10 : Unit) (v36 : Bool) : p26_2053 (j + 1) n0 v2 v3 v10 v36 =
  (sel (v36)
   (some ([], (2 : Int), ()))
   (p26_6 (n0) (n0) (v2) (v3) (v10))) := by kernel_rfl
theorem p26_6_eq (j : Nat) (n0 : Nat) (v2 : Int) (v3 : Int) (v10 : Unit) : p26_6 (j + 1) n0 v2 v3 v10 =
  none := by kernel_rfl
theorem f12_eq (n : Nat) (a0 : Option ((Unit × (Int × (Int × (Int × ((Int × (Int × Unit)) × Unit))))))) : f12 (n + 1) a0 =
  (obind (f35 n (a0)) fun r41 =>
   (sel (r41.fst)
    (some ([], ()))
    (sel (a0.isSome)
     (sel (a0.isSome)
      none
      none)
     none))) := by kernel_rfl
theorem f10_eq (n : Nat) (a0 : Option ((Unit × (Int × (Int × (Int × ((Int × (Int × Unit)) × Unit))))))) : f10 (n + 1) a0 =
  (obind (f35 n (a0)) fun r41 =>
   (sel (r41.fst)
    (some (Option.none, ()))
    (sel (a0.isSome)
     (sel (a0.isSome)
      (sel ((Option.some ((), (0 : Int), (0 : Int), (0 : Int), ((0 : Int), (0 : Int), ()), ())).isSome)
       none
       none)
      none)
     none))) := by kernel_rfl
theorem f20_eq (n : Nat) (a0 : Option ((Unit × (Int × (Int × (Int × ((Int × (Int × Unit)) × Unit))))))) (a1 : Option ((Unit × (Int × (Int × (Int × ((Int × (Int × Unit)) × Unit))))))) : f20 (n + 1) a0 a1 =
  (obind (f35 n (a0)) fun r41 =>
   (sel (r41.fst)
    (p20_2050 (n) (n) (a0) (a1) (Bool.true))
    (obind (f35 n (a1)) fun r100 =>
     (p20_2050 (n) (n) (a0) (a1) (r100.fst))))) := by kernel_rfl
theorem p20_2050_eq (j : Nat) (n0 : Nat) (v0 : Option ((Unit × (Int × (Int × (Int × ((Int × (Int × Unit)) × Unit))))))) (v1 : Option ((Unit × (Int × (Int × (Int × ((Int × (Int × Unit)) × Unit))))))) (v10 : Bool) : p20_2050 (j + 1) n0 v0 v1 v10 =
  (sel (v10)
   (obind (f35 j (v0)) fun r139 =>
    (sel (r139.fst)
     (obind (f35 j (v1)) fun r175 =>
      (some (r175.fst, ())))
     (some (Bool.false, ()))))
   (p20_3 (n0) (n0) (v0) (v1))) := by kernel_rfl
theorem p20_3_eq (j : Nat) (n0 : Nat) (v0 : Option ((Unit × (Int × (Int × (Int × ((Int × (Int × Unit)) × Unit))))))) (v1 : Option ((Unit × (Int × (Int × (Int × ((Int × (Int × Unit)) × Unit))))))) : p20_3 (j + 1) n0 v0 v1 =
  (sel (v0.isSome)
   (sel (v0.isSome)
    (sel (v1.isSome)
     (sel (v1.isSome)
      none
      none)
     none)
    none)
   none) := by kernel_rfl
theorem f55_eq (n : Nat) (a0 : Option ((Unit × (Int × (Int × (Int × ((Int × (Int × Unit)) × Unit))))))) (a1 : Bool) : f55 (n + 1) a0 a1 =
  (sel (a0.isSome)
   (sel (a0.isSome)
    (sel ((Option.some ((0 : Int), (0 : Int), ())).isSome)
     (sel ((Option.some (a0.getD ((), (0 : Int), (0 : Int), (0 : Int), ((0 : Int), (0 : Int), ()), ())).snd.snd.snd.snd.fst).isSome)
      (sel (Decidable.decide (((Option.some (a0.getD ((), (0 : Int), (0 : Int), (0 : Int), ((0 : Int), (0 : Int), ()), ())).snd.snd.snd.snd.fst).getD ((0 : Int), (0 : Int), ())).fst > (0 : Int)))
       (sel ((Option.some (a0.getD ((), (0 : Int), (0 : Int), (0 : Int), ((0 : Int), (0 : Int), ()), ())).snd.snd.snd.snd.fst).isSome)
        (sel ((Option.some (a0.getD ((), (0 : Int), (0 : Int), (0 : Int), ((0 : Int), (0 : Int), ()), ())).snd.snd.snd.snd.fst).isSome)
         (p55_7 (n) (n) (a0) (a1) (Option.some (Go.IntKind.i64.wrap (((Option.some (a0.getD ((), (0 : Int), (0 : Int), (0 : Int), ((0 : Int), (0 : Int), ()), ())).snd.snd.snd.snd.fst).getD ((0 : Int), (0 : Int), ())).fst - (1 : Int)), ((Option.some (a0.getD ((), (0 : Int), (0 : Int), (0 : Int), ((0 : Int), (0 : Int), ()), ())).snd.snd.snd.snd.fst).getD ((0 : Int), (0 : Int), ())).snd)))
         none)
        none)
       (sel ((Option.some (a0.getD ((), (0 : Int), (0 : Int), (0 : Int), ((0 : Int), (0 : Int), ()), ())).snd.snd.snd.snd.fst).isSome)
        (sel (Decidable.decide (((Option.some (a0.getD ((), (0 : Int), (0 : Int), (0 : Int), ((0 : Int), (0 : Int), ()), ())).snd.snd.snd.snd.fst).getD ((0 : Int), (0 : Int), ())).snd.fst > (0 : Int)))
         (sel ((Option.some (a0.getD ((), (0 : Int), (0 : Int), (0 : Int), ((0 : Int), (0 : Int), ()), ())).snd.snd.snd.snd.fst).isSome)
          (sel ((Option.some (a0.getD ((), (0 : Int), (0 : Int), (0 : Int), ((0 : Int), (0 : Int), ()), ())).snd.snd.snd.snd.fst).isSome)
           (p55_7 (n) (n) (a0) (Bool.true) (Option.some (((Option.some (a0.getD ((), (0 : Int), (0 : Int), (0 : Int), ((0 : Int), (0 : Int), ()), ())).snd.snd.snd.snd.fst).getD ((0 : Int), (0 : Int), ())).fst, Go.IntKind.i64.wrap (((Option.some (a0.getD ((), (0 : Int), (0 : Int), (0 : Int), ((0 : Int), (0 : Int), ()), ())).snd.snd.snd.snd.fst).getD ((0 : Int), (0 : Int), ())).snd.fst - (1 : Int)), ((Option.some (a0.getD ((), (0 : Int), (0 : Int), (0 : Int), ((0 : Int), (0 : Int), ()), ())).snd.snd.snd.snd.fst).getD ((0 : Int), (0 : Int), ())).snd.snd)))
           none)
          none)
         (p55_7 (n) (n) (a0) (a1) (Option.some (a0.getD ((), (0 : Int), (0 : Int), (0 : Int), ((0 : Int), (0 : Int), ()), ())).snd.snd.snd.snd.fst)))
        none))
      none)
     none)
    none)
   none) := by kernel_rfl
theorem p55_7_eq (j : Nat) (n0 : Nat) (v0 : Option ((Unit × (Int × (Int × (Int × ((Int × (Int × Unit)) × Unit))))))) (v1 : Bool) (v5 : Option ((Int × (Int × Unit)))) : p55_7 (j + 1) n0 v0 v1 v5 =
  (sel (v5.isSome)
   (sel (v0.isSome)
    (sel (v0.isSome)
     none
     none)
    none)
   none) := by kernel_rfl
theorem f24_eq (n : Nat) (a0 : Option ((Unit × (Int × (Int × (Int × ((Int × (Int × Unit)) × Unit))))))) (a1 : List UInt8) : f24 (n + 1) a0 a1 =
  (obind (f54 n (a0) ([a1])) fun r55 =>
   (sel (r55.fst != (0 : Int))
    (some (r55.fst, ()))
    (sel (a0.isSome)
     (sel (a0.isSome)
      none
      none)
     none))) := by kernel_rfl
theorem f25_eq (n : Nat) (a0 : Option ((Unit × (Int × (Int × (Int × ((Int × (Int × Unit)) × Unit))))))) (a1 : List UInt8) (a2 : List (UInt8)) : f25 (n + 1) a0 a1 a2 =
  (obind (f38 n (a0) (a1)) fun r47 =>
   (sel (r47.snd.fst != (0 : Int))
    (some (r47.snd.fst, ()))
    (sel (a0.isSome)
     (sel (a0.isSome)
      (sel (a0.isSome)
       (sel (a0.isSome)
        (obind (f55 n (a0) (Decidable.decide ((↑a2.length : Int) > Go.IntKind.i64.wrap ((a0.getD ((), (0 : Int), (0 : Int), (0 : Int), ((0 : Int), (0 : Int), ()), ())).snd.fst - (a0.getD ((), (0 : Int), (0 : Int), (0 : Int), ((0 : Int), (0 : Int), ()), ())).snd.snd.fst)))) fun r257 =>
         (sel (r257.fst)
          (some ((52 : Int), ()))
          none))
        none)
       none)
      none)
     none))) := by kernel_rfl
theorem f31_eq (n : Nat) (a0 : Option ((Unit × (Int × (Int × (Int × ((Int × (Int × Unit)) × Unit))))))) (a1 : List UInt8) : f31 (n + 1) a0 a1 =
  (obind (f38 n (a0) (a1)) fun r47 =>
   (sel (r47.snd.fst != (0 : Int))
    (some (r47.snd.fst, ()))
    none)) := by kernel_rfl
theorem f32_eq (n : Nat) (a0 : Option ((Unit × (Int × (Int × (Int × ((Int × (Int × Unit)) × Unit))))))) (a1 : List UInt8) (a2 : List UInt8) : f32 (n + 1) a0 a1 a2 =
  (obind (f54 n (a0) ([a1, a2])) fun r62 =>
   (sel (r62.fst != (0 : Int))
    (some (r62.fst, ()))
    (obind (f38 n (a0) (a1)) fun r165 =>
     (sel (r165.snd.fst != (0 : Int))
      (p32_2054 (n) (n) (a0) (a1) (a2) (r165.fst) (r165.snd.fst) (Bool.true))
      (p32_2054 (n) (n) (a0) (a1) (a2) (r165.fst) (r165.snd.fst) (a1 == a2)))))) := by kernel_rfl
theorem p32_2054_eq (j : Nat) (n0 : Nat) (v0 : Option ((Unit × (Int × (Int × (Int × ((Int × (Int × Unit)) × Unit))))))) (v1 : List UInt8) (v2 : List UInt8) (v8 : Unit) (v9 : Int) (v31 : Bool) : p32_2054 (j + 1) n0 v0 v1 v2 v8 v9 v31 =
  (sel (v31)
   (some (v9, ()))
   (p32_7 (n0) (n0) (v0) (v1) (v2) (v8))) := by kernel_rfl
theorem p32_7_eq (j : Nat) (n0 : Nat) (v0 : Option ((Unit × (Int × (Int × (Int × ((Int × (Int × Unit)) × Unit))))))) (v1 : List UInt8) (v2 : List UInt8) (v8 : Unit) : p32_7 (j + 1) n0 v0 v1 v2 v8 =
  (sel (v0.isSome)
   (sel (v0.isSome)
    none
    none)
   none) := by kernel_rfl
theorem f33_eq (n : Nat) (a0 : Option ((Unit × (Int × (Int × (Int × ((Int × (Int × Unit)) × Unit))))))) (a1 : List UInt8) : f33 (n + 1) a0 a1 =
  (obind (f38 n (a0) (a1)) fun r47 =>
   (sel (r47.snd.fst != (0 : Int))
    (some (r47.snd.fst, ()))
    (sel (a0.isSome)
     (sel (a0.isSome)
      none
      none)
     none))) := by kernel_rfl
theorem f34_eq (n : Nat) (a0 : Option ((Unit × (Int × (Int × (Int × ((Int × (Int × Unit)) × Unit))))))) (a1 : Int) : f34 (n + 1) a0 a1 =
  (obind (f35 n (a0)) fun r42 =>
   (sel (r42.fst)
    (some ((1 : Int), ()))
    (obind (f29 n (a1)) fun r107 =>
     (sel (!r107.fst)
      (some ((2 : Int), ()))
      (sel (a0.isSome)
       (sel (a0.isSome)
        none
        none)
       none))))) := by kernel_rfl
theorem f23_eq (n : Nat) (a0 : Option ((Unit × (Int × (Int × (Int × ((Int × (Int × Unit)) × Unit))))))) (a1 : Int) (a2 : Int) : f23 (n + 1) a0 a1 a2 =
  (obind (f35 n (a0)) fun r42 =>
   (sel (r42.fst)
    (some ((1 : Int), ()))
    (sel (Decidable.decide (a1 < (0 : Int)))
     (p23_2052 (n) (n) (a0) (a1) (a2) (Bool.true))
     (p23_2052 (n) (n) (a0) (a1) (a2) (Decidable.decide (a2 < (0 : Int))))))) := by kernel_rfl
theorem p23_2052_eq (j : Nat) (n0 : Nat) (v0 : Option ((Unit × (Int × (Int × (Int × ((Int × (Int × Unit)) × Unit))))))) (v1 : Int) (v2 : Int) (v10 : Bool) : p23_2052 (j + 1) n0 v0 v1 v2 v10 =
  (sel (v10)
   (some ((2 : Int), ()))
   (p23_5 (n0) (n0) (v0) (v1) (v2))) := by kernel_rfl
theorem p23_5_eq (j : Nat) (n0 : Nat) (v0 : Option ((Unit × (Int × (Int × (Int × ((Int × (Int × Unit)) × Unit))))))) (v1 : Int) (v2 : Int) : p23_5 (j + 1) n0 v0 v1 v2 =
  (sel (v0.isSome)
   (sel (v0.isSome)
    none
    none)
   none) := by kernel_rfl
theorem f11_eq (n : Nat) (a0 : Option ((Unit × (Int × (Int × (Int × ((Int × (Int × Unit)) × Unit))))))) (a1 : List (Int)) : f11 (n + 1) a0 a1 =
  (obind (f35 n (a0)) fun r41 =>
   (sel (r41.fst)
    (some ((1 : Int), ()))
    (obind (f12 n (a0)) fun r102 =>
     (p11_4 (n) (n) (a0) (a1) (r102.fst) ((↑(List.length r102.fst) : Int)) ((0 : Int)))))) := by kernel_rfl
theorem p11_4_eq (j : Nat) (n0 : Nat) (v0 : Option ((Unit × (Int × (Int × (Int × ((Int × (Int × Unit)) × Unit))))))) (v1 : List (Int)) (v12 : List (List UInt8)) (v13 : Int) (v14 : Int) : p11_4 (j + 1) n0 v0 v1 v12 v13 v14 =
  (sel (Decidable.decide (v14 < v13))
   (sel (Decidable.decide ((0 : Int) ≤ v14))
    (sel (Decidable.decide (v14 < (↑v12.length : Int)))
     (sel (v0.isSome)
      (sel (v0.isSome)
       none
       none)
      none)
     none)
    none)
   (sel (v0.isSome)
    (sel (v0.isSome)
     none
     none)
    none)) := by kernel_rfl
theorem f30_eq (n : Nat) (a0 : List (UInt8)) : f30 (n + 1) a0 =
  (sel (Decidable.decide ((0 : Nat) + a0.length ≤ (1073741824 : Nat)))
   (sel (Decidable.decide (List.length ([] ++ a0) + (1 : Nat) ≤ (1073741824 : Nat)))
    (sel (Decidable.decide ((0 : Int) ≤ (↑a0.length : Int)))
     (sel (Decidable.decide ((↑a0.length : Int) ≤ (↑(List.length ([] ++ a0 ++ [(90 : UInt8)])) : Int)))
      (some (Lk.ext ([] ++ a0 ++ [(90 : UInt8)]) (0 : Int) (↑a0.length : Int), ()))
      none)
     none)
    none)
   none) := by kernel_rfl
theorem f9_eq (n : Nat) (a0 : Option ((Unit × (Int × (Int × (Int × ((Int × (Int × Unit)) × Unit))))))) (a1 : (Int × (List UInt8 × (List UInt8 × (List (UInt8) × (Int × (Int × (List (Int) × Unit)))))))) : f9 (n + 1) a0 a1 =
  (sel ((Option.some a1).isSome)
   (sel (((Option.some a1).getD ((0 : Int), [], [], [], (0 : Int), (0 : Int), [], ())).fst == (0 : Int))
    (sel ((Option.some a1).isSome)
     (obind (f24 n (a0) (((Option.some a1).getD ((0 : Int), [], [], [], (0 : Int), (0 : Int), [], ())).snd.fst)) fun r111 =>
      (some (r111.fst, ())))
     none)
    (sel (((Option.some a1).getD ((0 : Int), [], [], [], (0 : Int), (0 : Int), [], ())).fst == (1 : Int))
     (sel ((Option.some a1).isSome)
      (obind (f30 n (((Option.some a1).getD ((0 : Int), [], [], [], (0 : Int), (0 : Int), [], ())).snd.snd.snd.fst)) fun r190 =>
       (sel ((Option.some a1).isSome)
        (obind (f25 n (a0) (((Option.some a1).getD ((0 : Int), [], [], [], (0 : Int), (0 : Int), [], ())).snd.fst) (r190.fst)) fun r243 =>
         (p9_8 (n) (n) (r190.fst) (r243.fst) ((0 : Int))))
        none))
      none)
     (sel (((Option.some a1).getD ((0 : Int), [], [], [], (0 : Int), (0 : Int), [], ())).fst == (2 : Int))
      (sel ((Option.some a1).isSome)
       (obind (f31 n (a0) (((Option.some a1).getD ((0 : Int), [], [], [], (0 : Int), (0 : Int), [], ())).snd.fst)) fun r335 =>
        (some (r335.fst, ())))
       none)
      (sel (((Option.some a1).getD ((0 : Int), [], [], [], (0 : Int), (0 : Int), [], ())).fst == (3 : Int))
       (sel ((Option.some a1).isSome)
        (sel ((Option.some a1).isSome)
         (obind (f32 n (a0) (((Option.some a1).getD ((0 : Int), [], [], [], (0 : Int), (0 : Int), [], ())).snd.fst) (((Option.some a1).getD ((0 : Int), [], [], [], (0 : Int), (0 : Int), [], ())).snd.snd.fst)) fun r435 =>
          (some (r435.fst, ())))
         none)
        none)
       (sel (((Option.some a1).getD ((0 : Int), [], [], [], (0 : Int), (0 : Int), [], ())).fst == (4 : Int))
        (sel ((Option.some a1).isSome)
         (obind (f33 n (a0) (((Option.some a1).getD ((0 : Int), [], [], [], (0 : Int), (0 : Int), [], ())).snd.fst)) fun r521 =>
          (some (r521.fst, ())))
         none)
        (sel (((Option.some a1).getD ((0 : Int), [], [], [], (0 : Int), (0 : Int), [], ())).fst == (5 : Int))
         (sel ((Option.some a1).isSome)
          (obind (f34 n (a0) (((Option.some a1).getD ((0 : Int), [], [], [], (0 : Int), (0 : Int), [], ())).snd.snd.snd.snd.snd.fst)) fun r607 =>
           (some (r607.fst, ())))
          none)
         (sel (((Option.some a1).getD ((0 : Int), [], [], [], (0 : Int), (0 : Int), [], ())).fst == (6 : Int))
          (sel ((Option.some a1).isSome)
           (sel ((Option.some a1).isSome)
            (obind (f23 n (a0) (((Option.some a1).getD ((0 : Int), [], [], [], (0 : Int), (0 : Int), [], ())).snd.snd.snd.snd.fst) (((Option.some a1).getD ((0 : Int), [], [], [], (0 : Int), (0 : Int), [], ())).snd.snd.snd.snd.snd.fst)) fun r707 =>
             (some (r707.fst, ())))
            none)
           none)
          (sel (((Option.some a1).getD ((0 : Int), [], [], [], (0 : Int), (0 : Int), [], ())).fst == (7 : Int))
           (sel ((Option.some a1).isSome)
            (sel (Decidable.decide ((0 : Nat) + List.length ((Option.some a1).getD ((0 : Int), [], [], [], (0 : Int), (0 : Int), [], ())).snd.snd.snd.snd.snd.snd.fst ≤ (1073741824 : Nat)))
             (obind (f11 n (a0) ([] ++ ((Option.some a1).getD ((0 : Int), [], [], [], (0 : Int), (0 : Int), [], ())).snd.snd.snd.snd.snd.snd.fst)) fun r807 =>
              (some (r807.fst, ())))
             none)
            none)
           (some ((0 : Int), ()))))))))))
   none) := by kernel_rfl
theorem p9_8_eq (j : Nat) (n0 : Nat) (v5 : List (UInt8)) (v6 : Int) (v7 : Int) : p9_8 (j + 1) n0 v5 v6 v7 =
  (sel (Decidable.decide (v7 < (↑v5.length : Int)))
   (sel (Decidable.decide ((0 : Int) ≤ v7))
    (sel (Decidable.decide (v7 < (↑v5.length : Int)))
     (sel (Decidable.decide ((0 : Int) ≤ v7))
      (sel (Decidable.decide (v7 < (↑v5.length : Int)))
       (p9_8 (j) (n0) (v5.set v7.toNat (UInt8.ofNat (Go.IntKind.u8.wrap ((↑(UInt8.toNat (v5.getD v7.toNat (0 : UInt8))) : Int) + (↑(UInt8.toNat (1 : UInt8)) : Int))).toNat)) (v6) (Go.IntKind.i64.wrap (v7 + (1 : Int))))
       none)
      none)
     none)
    none)
   (some (v6, ()))) := by kernel_rfl
theorem f6_eq (n : Nat) (a0 : (Int × (List UInt8 × (List UInt8 × (List (UInt8) × (Int × (Int × (List (Int) × Unit)))))))) : f6 (n + 1) a0 =
  (p6_2 (n) (n) (Option.some a0) ([Option.none, Option.some ((), (0 : Int), (0 : Int), (0 : Int), ((0 : Int), (0 : Int), ()), ())]) ((↑(2 : Nat) : Int)) ((0 : Int))) := by kernel_rfl
theorem p6_2_eq (j : Nat) (n0 : Nat) (v1 : Option ((Int × (List UInt8 × (List UInt8 × (List (UInt8) × (Int × (Int × (List (Int) × Unit))))))))) (v13 : List (Option ((Unit × (Int × (Int × (Int × ((Int × (Int × Unit)) × Unit)))))))) (v14 : Int) (v15 : Int) : p6_2 (j + 1) n0 v1 v13 v14 v15 =
  (sel (Decidable.decide (v15 < v14))
   (sel (Decidable.decide ((0 : Int) ≤ v15))
    (sel (Decidable.decide (v15 < (↑v13.length : Int)))
     (sel (v1.isSome)
      (sel (Decidable.decide ((v1.getD ((0 : Int), [], [], [], (0 : Int), (0 : Int), [], ())).fst ≥ (0 : Int)))
       (sel (v1.isSome)
        (sel (Decidable.decide ((v1.getD ((0 : Int), [], [], [], (0 : Int), (0 : Int), [], ())).fst < (8 : Int)))
         (sel (v1.isSome)
          (obind (f9 j (v13.getD v15.toNat Option.none) (v1.getD ((0 : Int), [], [], [], (0 : Int), (0 : Int), [], ()))) fun r259 =>
           (p6_2053 (j) (n0) (j) (v1) (v15) (v13) (v14) (v15) (r259.fst != (1 : Int))))
          none)
         (p6_2053 (j) (n0) (j) (v1) (v15) (v13) (v14) (v15) (Bool.false)))
        none)
       (p6_2053 (j) (n0) (j) (v1) (v15) (v13) (v14) (v15) (Bool.false)))
      none)
     none)
    none)
   (obind (f10 n0 (Option.none)) fun r461 =>
    (sel (Option.isNone r461.fst)
     (obind (f20 n0 (Option.none) (Option.none)) fun r504 =>
      (some (r504.fst, ())))
     (some (Bool.false, ()))))) := by kernel_rfl
theorem p6_2053_eq (j : Nat) (n0 : Nat) (n1 : Nat) (v1 : Option ((Int × (List UInt8 × (List UInt8 × (List (UInt8) × (Int × (Int × (List (Int) × Unit))))))))) (i4_0 : Int) (v13 : List (Option ((Unit × (Int × (Int × (Int × ((Int × (Int × Unit)) × Unit)))))))) (v14 : Int) (v15 : Int) (v32 : Bool) : p6_2053 (j + 1) n0 n1 v1 i4_0 v13 v14 v15 v32 =
  (sel (v32)
   (some (Bool.false, ()))
   (p6_6 (n1) (n0) (n1) (v1) (i4_0) (v13) (v14) (v15))) := by kernel_rfl
theorem p6_6_eq (j : Nat) (n0 : Nat) (n1 : Nat) (v1 : Option ((Int × (List UInt8 × (List UInt8 × (List (UInt8) × (Int × (Int × (List (Int) × Unit))))))))) (i4_0 : Int) (v13 : List (Option ((Unit × (Int × (Int × (Int × ((Int × (Int × Unit)) × Unit)))))))) (v14 : Int) (v15 : Int) : p6_6 (j + 1) n0 n1 v1 i4_0 v13 v14 v15 =
  (sel (v1.isSome)
   (sel (v1.isSome)
    (sel (v1.isSome)
     (obind (f26 j (v13.getD i4_0.toNat Option.none) ((v1.getD ((0 : Int), [], [], [], (0 : Int), (0 : Int), [], ())).snd.fst) ((v1.getD ((0 : Int), [], [], [], (0 : Int), (0 : Int), [], ())).snd.snd.snd.snd.fst) ((v1.getD ((0 : Int), [], [], [], (0 : Int), (0 : Int), [], ())).snd.snd.snd.snd.snd.fst)) fun r684 =>
      (sel (v1.isSome)
       (obind (f14 j (v13.getD i4_0.toNat Option.none) ((v1.getD ((0 : Int), [], [], [], (0 : Int), (0 : Int), [], ())).snd.fst)) fun r758 =>
        (sel ((↑(List.length r684.fst) : Int) != (0 : Int))
         (p6_2057 (j) (n0) (n1) (j) (v1) (v13) (v14) (v15) (Bool.true))
         (sel (r684.snd.fst != (1 : Int))
          (p6_2057 (j) (n0) (n1) (j) (v1) (v13) (v14) (v15) (Bool.true))
          (sel (r758.fst != (0 : Int))
           (p6_2057 (j) (n0) (n1) (j) (v1) (v13) (v14) (v15) (Bool.true))
           (sel (r758.snd.fst != (0 : Int))
            (p6_2057 (j) (n0) (n1) (j) (v1) (v13) (v14) (v15) (Bool.true))
            (sel (r758.snd.snd.fst != (1 : Int))
             (p6_2057 (j) (n0) (n1) (j) (v1) (v13) (v14) (v15) (Bool.true))
             (obind (f12 j (v13.getD i4_0.toNat Option.none)) fun r2247 =>
              (sel ((↑(List.length r2247.fst) : Int) != (0 : Int))
               (p6_2057 (j) (n0) (n1) (j) (v1) (v13) (v14) (v15) (Bool.true))
               (obind (f15 j (v13.getD i4_0.toNat Option.none)) fun r2437 =>
                (sel (r2437.fst != (0 : Int))
                 (p6_2057 (j) (n0) (n1) (j) (v1) (v13) (v14) (v15) (Bool.true))
                 (obind (f22 j (v13.getD i4_0.toNat Option.none)) fun r2570 =>
                  (sel (r2570.fst != (0 : Int))
                   (p6_2057 (j) (n0) (n1) (j) (v1) (v13) (v14) (v15) (Bool.true))
                   (obind (f21 j (v13.getD i4_0.toNat Option.none)) fun r2659 =>
                    (p6_2057 (j) (n0) (n1) (j) (v1) (v13) (v14) (v15) (r2659.fst != (0 : Int))))))))))))))))
       none))
     none)
    none)
   none) := by kernel_rfl
theorem p6_2057_eq (j : Nat) (n0 : Nat) (n1 : Nat) (n2 : Nat) (v1 : Option ((Int × (List UInt8 × (List UInt8 × (List (UInt8) × (Int × (Int × (List (Int) × Unit))))))))) (v13 : List (Option ((Unit × (Int × (Int × (Int × ((Int × (Int × Unit)) × Unit)))))))) (v14 : Int) (v15 : Int) (v91 : Bool) : p6_2057 (j + 1) n0 n1 n2 v1 v13 v14 v15 v91 =
  (sel (v91)
   (some (Bool.false, ()))
   (p6_10 (n1) (n0) (n1) (v1) (v13) (v14) (v15))) := by kernel_rfl
theorem p6_10_eq (j : Nat) (n0 : Nat) (n1 : Nat) (v1 : Option ((Int × (List UInt8 × (List UInt8 × (List (UInt8) × (Int × (Int × (List (Int) × Unit))))))))) (v13 : List (Option ((Unit × (Int × (Int × (Int × ((Int × (Int × Unit)) × Unit)))))))) (v14 : Int) (v15 : Int) : p6_10 (j + 1) n0 n1 v1 v13 v14 v15 =
  (p6_2 (n1) (n0) (v1) (v13) (v14) (Go.IntKind.i64.wrap (v15 + (1 : Int)))) := by kernel_rfl
end DnG

namespace DnG
open Go Lk 
noncomputable def theFnsD : Dn.FnsD where
  f35 := f35
  f54 := f54
  p54_4 := p54_4
  p54_2055 := p54_2055
  p54_8 := p54_8
  f38 := f38
  f29 := f29
  f15 := f15
  f22 := f22
  f21 := f21
  f14 := f14
  f26 := f26
  p26_2053 := p26_2053
  p26_6 := p26_6
  f12 := f12
  f10 := f10
  f20 := f20
  p20_2050 := p20_2050
  p20_3 := p20_3
  f55 := f55
  p55_7 := p55_7
  f24 := f24
  f25 := f25
  f31 := f31
  f32 := f32
  p32_2054 := p32_2054
  p32_7 := p32_7
  f33 := f33
  f34 := f34
  f23 := f23
  p23_2052 := p23_2052
  p23_5 := p23_5
  f11 := f11
  p11_4 := p11_4
  f30 := f30
  f9 := f9
  p9_8 := p9_8
  f6 := f6
  p6_2 := p6_2
  p6_2053 := p6_2053
  p6_6 := p6_6
  p6_2057 := p6_2057
  p6_10 := p6_10
  f35_eq := f35_eq
  f54_eq := f54_eq
  p54_4_eq := p54_4_eq
  p54_2055_eq := p54_2055_eq
  p54_8_eq := p54_8_eq
  f38_eq := f38_eq
  f29_eq := f29_eq
  f15_eq := f15_eq
  f22_eq := f22_eq
  f21_eq := f21_eq
  f14_eq := f14_eq
  f26_eq := f26_eq
  p26_2053_eq := p26_2053_eq
  p26_6_eq := p26_6_eq
  f12_eq := f12_eq
  f10_eq := f10_eq
  f20_eq := f20_eq
  p20_2050_eq := p20_2050_eq
  p20_3_eq := p20_3_eq
  f55_eq := f55_eq
  p55_7_eq := p55_7_eq
  f24_eq := f24_eq
  f25_eq := f25_eq
  f31_eq := f31_eq
  f32_eq := f32_eq
  p32_2054_eq := p32_2054_eq
  p32_7_eq := p32_7_eq
  f33_eq := f33_eq
  f34_eq := f34_eq
  f23_eq := f23_eq
  p23_2052_eq := p23_2052_eq
  p23_5_eq := p23_5_eq
  f11_eq := f11_eq
  p11_4_eq := p11_4_eq
  f30_eq := f30_eq
  f9_eq := f9_eq
  p9_8_eq := p9_8_eq
  f6_eq := f6_eq
  p6_2_eq := p6_2_eq
  p6_2053_eq := p6_2053_eq
  p6_6_eq := p6_6_eq
  p6_2057_eq := p6_2057_eq
  p6_10_eq := p6_10_eq
end DnG

