import Derived.Test.YthndplnjiibgkaaDoorRrFour
import Derived.Test.YthndplnjiibgkaaDoorRsSix
import Derived.Test.YthndplnjiibgkaaDoorRsSeven
import Derived.Test.YthndplnjiibgkaaDoorRrFive
set_option linter.all false
section
namespace RrG
open Go Lk RrG
set_option linter.unusedVariables false
@[irreducible] noncomputable def f50 (n : Nat) (a0 : Int) (a1 : UInt8) : Option (Int × Unit) := F G n 50 (a0, a1, ())
theorem f50_eq (n : Nat) (a0 : Int) (a1 : UInt8) : f50 n a0 a1 = some (((Rr.takeN a0.toNat a1 : Nat) : Int), ()) := by kernel_rfl
@[irreducible] noncomputable def f12 (n : Nat) (a0 : Int) : Option (Bool × Unit) := F G n 12 (a0, ())
@[irreducible] noncomputable def f44 (n : Nat) (a0 : Int) : Option (Int × Unit) := F G n 44 (a0, ())
@[irreducible] noncomputable def f45 (n : Nat) (a0 : Int) (a1 : List (UInt8)) : Option (Int × Unit) := F G n 45 (a0, a1, ())
@[irreducible] noncomputable def p45_3 (j : Nat) (n0 : Nat) (v5 : Int) (v10 : List (UInt8)) (v11 : Int) (v12 : Int) : Option (Int × Unit) := piece G 45 [.r, .r, .l, .r, .b] j [n0] (skel 22 0 [(5, .av ⟨(.i .u32), .r, v5⟩), (10, .av ⟨(.l .by), .b, v10⟩), (11, .av ⟨(.i .i64), .r, v11⟩), (12, .av ⟨(.i .i64), .r, v12⟩)])
@[irreducible] noncomputable def f46 (n : Nat) (a0 : List (UInt8)) : Option (Int × Unit) := F G n 46 (a0, ())
@[irreducible] noncomputable def f37 (n : Nat) (a0 : UInt8) (a1 : List (UInt8)) : Option (Int × Unit) := F G n 37 (a0, a1, ())
@[irreducible] noncomputable def f26 (n : Nat) (a0 : Option ((Int × (List (UInt8) × (Int × (List (UInt8) × (Bool × Unit))))))) (a1 : UInt8) (a2 : List (UInt8)) : Option (Bool × Unit) := F G n 26 (a0, a1, a2, ())
@[irreducible] noncomputable def p26_4 (j : Nat) (n0 : Nat) (v0 : Option ((Int × (List (UInt8) × (Int × (List (UInt8) × (Bool × Unit))))))) (v1 : UInt8) (v2 : List (UInt8)) (v8 : Int) (v9 : Bool) : Option (Bool × Unit) := piece G 26 [.r, .r, .r, .r] j [n0] (skel 71 0 [(0, .av ⟨(.p (.c (.i .i64) (.c (.l .by) (.c (.i .i64) (.c (.l .by) (.c .b .u)))))), .b, v0⟩), (1, .av ⟨.by, .r, v1⟩), (2, .av ⟨(.l .by), .b, v2⟩), (8, .av ⟨(.i .u32), .r, v8⟩), (9, .av ⟨.b, .r, v9⟩)])
@[irreducible] noncomputable def f14 (n : Nat) (a0 : Option ((Int × (List (UInt8) × (Int × (List (UInt8) × (Bool × Unit))))))) (a1 : Option (List Lk.JItem)) : Option (Int × Option ((Int × (List (UInt8) × (Int × (List (UInt8) × (Bool × Unit)))))) × Option (List Lk.JItem) × Unit) := F G n 14 (a0, a1, ())
@[irreducible] noncomputable def p14_1 (j : Nat) (n0 : Nat) (v0 : Option ((Int × (List (UInt8) × (Int × (List (UInt8) × (Bool × Unit))))))) (v1 : Option (List Lk.JItem)) : Option (Int × Option ((Int × (List (UInt8) × (Int × (List (UInt8) × (Bool × Unit)))))) × Option (List Lk.JItem) × Unit) := piece G 14 [.r, .b, .r, .l, .b] j [n0] (skel 189 0 [(0, .av ⟨(.p (.c (.i .i64) (.c (.l .by) (.c (.i .i64) (.c (.l .by) (.c .b .u)))))), (.o (.q .r (.q .r (.q .r (.q (.o .r) (.q .r .r)))))), v0⟩), (1, .av ⟨(.a 2), (.o .r), v1⟩)])
@[irreducible] noncomputable def p14_3 (j : Nat) (n0 : Nat) (n1 : Nat) (v0 : Option ((Int × (List (UInt8) × (Int × (List (UInt8) × (Bool × Unit))))))) (v1 : Option (List Lk.JItem)) (v5 : Int) : Option (Int × Option ((Int × (List (UInt8) × (Int × (List (UInt8) × (Bool × Unit)))))) × Option (List Lk.JItem) × Unit) := piece G 14 [.r, .b, .r, .l, .b, .o, .r, .b, .l, .r, .b] j [n0, n1] (skel 189 0 [(0, .av ⟨(.p (.c (.i .i64) (.c (.l .by) (.c (.i .i64) (.c (.l .by) (.c .b .u)))))), (.o (.q .r (.q .r (.q .r (.q (.o .r) (.q .r .r)))))), v0⟩), (1, .av ⟨(.a 2), (.o .r), v1⟩), (5, .av ⟨(.i .i64), .r, v5⟩)])
@[irreducible] noncomputable def p14_5 (j : Nat) (n0 : Nat) (n1 : Nat) (n2 : Nat) (v0 : Option ((Int × (List (UInt8) × (Int × (List (UInt8) × (Bool × Unit))))))) (v1 : Option (List Lk.JItem)) (v42 : List (UInt8)) (v59 : List (UInt8)) (v60 : Int) (v61 : Int) : Option (Int × Option ((Int × (List (UInt8) × (Int × (List (UInt8) × (Bool × Unit)))))) × Option (List Lk.JItem) × Unit) := piece G 14 [.r, .b, .r, .l, .b, .o, .r, .b, .l, .r, .b, .o, .r, .b, .l, .r, .b] j [n0, n1, n2] (skel 189 0 [(0, .av ⟨(.p (.c (.i .i64) (.c (.l .by) (.c (.i .i64) (.c (.l .by) (.c .b .u)))))), (.o (.q .r (.q .r (.q .r (.q (.o .r) (.q .r .r)))))), v0⟩), (1, .av ⟨(.a 2), (.o .r), v1⟩), (40, .al 0 []), (41, .ad 0 [.d, .f 1]), (42, .av ⟨(.l .by), .r, v42⟩), (59, .av ⟨(.l .by), .r, v59⟩), (60, .av ⟨(.i .i64), .r, v60⟩), (61, .av ⟨(.i .i64), .r, v61⟩)])
@[irreducible] noncomputable def p14_2064 (j : Nat) (n0 : Nat) (n1 : Nat) (v0 : Option ((Int × (List (UInt8) × (Int × (List (UInt8) × (Bool × Unit))))))) (v1 : Option (List Lk.JItem)) (v8 : List (UInt8)) (v9 : Int) (v10 : UInt8) (v124 : Bool) : Option (Int × Option ((Int × (List (UInt8) × (Int × (List (UInt8) × (Bool × Unit)))))) × Option (List Lk.JItem) × Unit) := piece G 14 [.r, .b, .r, .l, .b, .o, .r, .b, .r, .r, .r, .r, .l, .r] j [n0, n1] (skel 189 0 [(0, .av ⟨(.p (.c (.i .i64) (.c (.l .by) (.c (.i .i64) (.c (.l .by) (.c .b .u)))))), (.o (.q .r (.q .r (.q .r (.q (.o .r) (.q .r .r)))))), v0⟩), (1, .av ⟨(.a 2), (.o .r), v1⟩), (8, .av ⟨(.l .by), .r, v8⟩), (9, .av ⟨(.i .i64), .r, v9⟩), (10, .av ⟨.by, .r, v10⟩), (124, .av ⟨.b, .r, v124⟩)])
@[irreducible] noncomputable def p14_17 (j : Nat) (n0 : Nat) (n1 : Nat) (v0 : Option ((Int × (List (UInt8) × (Int × (List (UInt8) × (Bool × Unit))))))) (v1 : Option (List Lk.JItem)) (v8 : List (UInt8)) (v9 : Int) (v10 : UInt8) : Option (Int × Option ((Int × (List (UInt8) × (Int × (List (UInt8) × (Bool × Unit)))))) × Option (List Lk.JItem) × Unit) := piece G 14 [.r, .b, .r, .l, .b, .o, .r, .b, .r, .r, .r, .r, .r] j [n0, n1] (skel 189 0 [(0, .av ⟨(.p (.c (.i .i64) (.c (.l .by) (.c (.i .i64) (.c (.l .by) (.c .b .u)))))), (.o (.q .r (.q .r (.q .r (.q (.o .r) (.q .r .r)))))), v0⟩), (1, .av ⟨(.a 2), (.o .r), v1⟩), (8, .av ⟨(.l .by), .r, v8⟩), (9, .av ⟨(.i .i64), .r, v9⟩), (10, .av ⟨.by, .r, v10⟩)])
@[irreducible] noncomputable def p14_25 (j : Nat) (n0 : Nat) (n1 : Nat) (n2 : Nat) (v0 : Option ((Int × (List (UInt8) × (Int × (List (UInt8) × (Bool × Unit))))))) (v1 : Option (List Lk.JItem)) : Option (Int × Option ((Int × (List (UInt8) × (Int × (List (UInt8) × (Bool × Unit)))))) × Option (List Lk.JItem) × Unit) := piece G 14 [.r, .b, .r, .l, .b, .o, .r, .b, .r, .r, .r, .r, .r, .r, .r, .r, .r, .r, .r] j [n0, n1, n2] (skel 189 0 [(0, .av ⟨(.p (.c (.i .i64) (.c (.l .by) (.c (.i .i64) (.c (.l .by) (.c .b .u)))))), (.o (.q .r (.q .r (.q .r (.q (.o .r) (.q .r .r)))))), v0⟩), (1, .av ⟨(.a 2), (.o .r), v1⟩)])
theorem f12_eq (n : Nat) (a0 : Int) : f12 (n + 1) a0 =
  (sel (Decidable.decide (a0 ≥ (32 : Int)))
   (some (Decidable.decide (a0 ≤ (32768 : Int)), ()))
   (some (Bool.false, ()))) := by kernel_rfl
theorem f44_eq (n : Nat) (a0 : Int) : f44 (n + 1) a0 =
  (sel (Decidable.decide ((0 : Int) ≤ (15 : Int)))
   (sel (Decidable.decide ((0 : Int) ≤ (17 : Int)))
    (some (Go.IntKind.u32.wrap (Lk.ibits Go.BinOp.or Go.IntKind.u32 (a0.fdiv ((2 : Int) ^ Min.min (Int.toNat (15 : Int)) Go.IntKind.u32.bits)) (Go.IntKind.u32.wrap (a0 * (2 : Int) ^ Min.min (Int.toNat (17 : Int)) Go.IntKind.u32.bits)) + (2726488792 : Int)), ()))
    none)
   none) := by kernel_rfl
theorem f45_eq (n : Nat) (a0 : Int) (a1 : List (UInt8)) : f45 (n + 1) a0 a1 =
  (p45_3 (n) (n) (Lk.ibits Go.BinOp.xor Go.IntKind.u32 (if Go.IntKind.u32.signed = Bool.true then (-1 : Int) else Go.IntKind.u32.max) a0) (a1) ((↑a1.length : Int)) ((0 : Int))) := by kernel_rfl
theorem p45_3_eq (j : Nat) (n0 : Nat) (v5 : Int) (v10 : List (UInt8)) (v11 : Int) (v12 : Int) : p45_3 (j + 1) n0 v5 v10 v11 v12 =
  (sel (Decidable.decide (v12 < v11))
   (sel (Decidable.decide ((0 : Int) ≤ v12))
    (sel (Decidable.decide (v12 < (↑v10.length : Int)))
     (obind (f50 j (v5) (v10.getD v12.toNat (0 : UInt8))) fun r184 =>
      (p45_3 (j) (n0) (r184.fst) (v10) (v11) (Go.IntKind.i64.wrap (v12 + (1 : Int)))))
     none)
    none)
   (some (Lk.ibits Go.BinOp.xor Go.IntKind.u32 (if Go.IntKind.u32.signed = Bool.true then (-1 : Int) else Go.IntKind.u32.max) v5, ()))) := by kernel_rfl
theorem f46_eq (n : Nat) (a0 : List (UInt8)) : f46 (n + 1) a0 =
  (obind (f45 n ((0 : Int)) (a0)) fun r46 =>
   (some (r46.fst, ()))) := by kernel_rfl
theorem f37_eq (n : Nat) (a0 : UInt8) (a1 : List (UInt8)) : f37 (n + 1) a0 a1 =
  (obind (f46 n ([a0])) fun r53 =>
   (obind (f45 n (r53.fst) (a1)) fun r70 =>
    (obind (f44 n (r70.fst)) fun r80 =>
     (some (r80.fst, ()))))) := by kernel_rfl
theorem f26_eq (n : Nat) (a0 : Option ((Int × (List (UInt8) × (Int × (List (UInt8) × (Bool × Unit))))))) (a1 : UInt8) (a2 : List (UInt8)) : f26 (n + 1) a0 a1 a2 =
  (sel (a0.isSome)
   (sel (a0.isSome)
    (sel (a0.isSome)
     (sel (a0.isSome)
      (sel (Decidable.decide ((0 : Int) ≤ (a0.getD ((0 : Int), [], (0 : Int), [], Bool.false, ())).snd.snd.fst))
       (sel (Decidable.decide ((a0.getD ((0 : Int), [], (0 : Int), [], Bool.false, ())).snd.snd.fst ≤ (↑(List.length (a0.getD ((0 : Int), [], (0 : Int), [], Bool.false, ())).snd.fst) : Int)))
        (sel (Decidable.decide ((0 : Int) ≤ (0 : Int)))
         (sel (Decidable.decide ((0 : Int) < (↑(Lk.ext (a0.getD ((0 : Int), [], (0 : Int), [], Bool.false, ())).snd.fst (a0.getD ((0 : Int), [], (0 : Int), [], Bool.false, ())).snd.snd.fst (↑(List.length (a0.getD ((0 : Int), [], (0 : Int), [], Bool.false, ())).snd.fst) : Int)).length : Int)))
          (sel (Decidable.decide ((0 : Int) ≤ (1 : Int)))
           (sel (Decidable.decide ((1 : Int) < (↑(Lk.ext (a0.getD ((0 : Int), [], (0 : Int), [], Bool.false, ())).snd.fst (a0.getD ((0 : Int), [], (0 : Int), [], Bool.false, ())).snd.snd.fst (↑(List.length (a0.getD ((0 : Int), [], (0 : Int), [], Bool.false, ())).snd.fst) : Int)).length : Int)))
            (sel (Decidable.decide ((0 : Int) ≤ (8 : Int)))
             (sel (Decidable.decide ((0 : Int) ≤ (2 : Int)))
              (sel (Decidable.decide ((2 : Int) < (↑(Lk.ext (a0.getD ((0 : Int), [], (0 : Int), [], Bool.false, ())).snd.fst (a0.getD ((0 : Int), [], (0 : Int), [], Bool.false, ())).snd.snd.fst (↑(List.length (a0.getD ((0 : Int), [], (0 : Int), [], Bool.false, ())).snd.fst) : Int)).length : Int)))
               (sel (Decidable.decide ((0 : Int) ≤ (16 : Int)))
                (sel (Decidable.decide ((0 : Int) ≤ (3 : Int)))
                 (sel (Decidable.decide ((3 : Int) < (↑(Lk.ext (a0.getD ((0 : Int), [], (0 : Int), [], Bool.false, ())).snd.fst (a0.getD ((0 : Int), [], (0 : Int), [], Bool.false, ())).snd.snd.fst (↑(List.length (a0.getD ((0 : Int), [], (0 : Int), [], Bool.false, ())).snd.fst) : Int)).length : Int)))
                  (sel (Decidable.decide ((0 : Int) ≤ (24 : Int)))
                   (sel ((↑a1.toNat : Int) == (↑(UInt8.toNat (1 : UInt8)) : Int))
                    (p26_4 (n) (n) (a0) (a1) (a2) (Lk.ibits Go.BinOp.or Go.IntKind.u32 (Lk.ibits Go.BinOp.or Go.IntKind.u32 (Lk.ibits Go.BinOp.or Go.IntKind.u32 (Go.IntKind.u32.wrap (↑(UInt8.toNat ((Lk.ext (a0.getD ((0 : Int), [], (0 : Int), [], Bool.false, ())).snd.fst (a0.getD ((0 : Int), [], (0 : Int), [], Bool.false, ())).snd.snd.fst (↑(List.length (a0.getD ((0 : Int), [], (0 : Int), [], Bool.false, ())).snd.fst) : Int)).getD (Int.toNat (0 : Int)) (0 : UInt8))) : Int)) (Go.IntKind.u32.wrap (Go.IntKind.u32.wrap (↑(UInt8.toNat ((Lk.ext (a0.getD ((0 : Int), [], (0 : Int), [], Bool.false, ())).snd.fst (a0.getD ((0 : Int), [], (0 : Int), [], Bool.false, ())).snd.snd.fst (↑(List.length (a0.getD ((0 : Int), [], (0 : Int), [], Bool.false, ())).snd.fst) : Int)).getD (Int.toNat (1 : Int)) (0 : UInt8))) : Int) * (2 : Int) ^ Min.min (Int.toNat (8 : Int)) Go.IntKind.u32.bits))) (Go.IntKind.u32.wrap (Go.IntKind.u32.wrap (↑(UInt8.toNat ((Lk.ext (a0.getD ((0 : Int), [], (0 : Int), [], Bool.false, ())).snd.fst (a0.getD ((0 : Int), [], (0 : Int), [], Bool.false, ())).snd.snd.fst (↑(List.length (a0.getD ((0 : Int), [], (0 : Int), [], Bool.false, ())).snd.fst) : Int)).getD (Int.toNat (2 : Int)) (0 : UInt8))) : Int) * (2 : Int) ^ Min.min (Int.toNat (16 : Int)) Go.IntKind.u32.bits))) (Go.IntKind.u32.wrap (Go.IntKind.u32.wrap (↑(UInt8.toNat ((Lk.ext (a0.getD ((0 : Int), [], (0 : Int), [], Bool.false, ())).snd.fst (a0.getD ((0 : Int), [], (0 : Int), [], Bool.false, ())).snd.snd.fst (↑(List.length (a0.getD ((0 : Int), [], (0 : Int), [], Bool.false, ())).snd.fst) : Int)).getD (Int.toNat (3 : Int)) (0 : UInt8))) : Int) * (2 : Int) ^ Min.min (Int.toNat (24 : Int)) Go.IntKind.u32.bits))) (Bool.true))
                    (p26_4 (n) (n) (a0) (a1) (a2) (Lk.ibits Go.BinOp.or Go.IntKind.u32 (Lk.ibits Go.BinOp.or Go.IntKind.u32 (Lk.ibits Go.BinOp.or Go.IntKind.u32 (Go.IntKind.u32.wrap (↑(UInt8.toNat ((Lk.ext (a0.getD ((0 : Int), [], (0 : Int), [], Bool.false, ())).snd.fst (a0.getD ((0 : Int), [], (0 : Int), [], Bool.false, ())).snd.snd.fst (↑(List.length (a0.getD ((0 : Int), [], (0 : Int), [], Bool.false, ())).snd.fst) : Int)).getD (Int.toNat (0 : Int)) (0 : UInt8))) : Int)) (Go.IntKind.u32.wrap (Go.IntKind.u32.wrap (↑(UInt8.toNat ((Lk.ext (a0.getD ((0 : Int), [], (0 : Int), [], Bool.false, ())).snd.fst (a0.getD ((0 : Int), [], (0 : Int), [], Bool.false, ())).snd.snd.fst (↑(List.length (a0.getD ((0 : Int), [], (0 : Int), [], Bool.false, ())).snd.fst) : Int)).getD (Int.toNat (1 : Int)) (0 : UInt8))) : Int) * (2 : Int) ^ Min.min (Int.toNat (8 : Int)) Go.IntKind.u32.bits))) (Go.IntKind.u32.wrap (Go.IntKind.u32.wrap (↑(UInt8.toNat ((Lk.ext (a0.getD ((0 : Int), [], (0 : Int), [], Bool.false, ())).snd.fst (a0.getD ((0 : Int), [], (0 : Int), [], Bool.false, ())).snd.snd.fst (↑(List.length (a0.getD ((0 : Int), [], (0 : Int), [], Bool.false, ())).snd.fst) : Int)).getD (Int.toNat (2 : Int)) (0 : UInt8))) : Int) * (2 : Int) ^ Min.min (Int.toNat (16 : Int)) Go.IntKind.u32.bits))) (Go.IntKind.u32.wrap (Go.IntKind.u32.wrap (↑(UInt8.toNat ((Lk.ext (a0.getD ((0 : Int), [], (0 : Int), [], Bool.false, ())).snd.fst (a0.getD ((0 : Int), [], (0 : Int), [], Bool.false, ())).snd.snd.fst (↑(List.length (a0.getD ((0 : Int), [], (0 : Int), [], Bool.false, ())).snd.fst) : Int)).getD (Int.toNat (3 : Int)) (0 : UInt8))) : Int) * (2 : Int) ^ Min.min (Int.toNat (24 : Int)) Go.IntKind.u32.bits))) ((↑a1.toNat : Int) == (↑(UInt8.toNat (2 : UInt8)) : Int))))
                   none)
                  none)
                 none)
                none)
               none)
              none)
             none)
            none)
           none)
          none)
         none)
        none)
       none)
      none)
     none)
    none)
   none) := by kernel_rfl
theorem p26_4_eq (j : Nat) (n0 : Nat) (v0 : Option ((Int × (List (UInt8) × (Int × (List (UInt8) × (Bool × Unit))))))) (v1 : UInt8) (v2 : List (UInt8)) (v8 : Int) (v9 : Bool) : p26_4 (j + 1) n0 v0 v1 v2 v8 v9 =
  (obind (f37 j (v1) (v2)) fun r418 =>
   (sel (v8 != r418.fst)
    (some (Bool.true, ()))
    (sel (v0.isSome)
     (sel (v0.isSome)
      (sel (v9 == (v0.getD ((0 : Int), [], (0 : Int), [], Bool.false, ())).snd.snd.snd.snd.fst)
       (some (Bool.true, ()))
       (sel (v0.isSome)
        (sel (v0.isSome)
         (some (Decidable.decide (Go.IntKind.i64.wrap ((↑(List.length (v0.getD ((0 : Int), [], (0 : Int), [], Bool.false, ())).snd.snd.snd.fst) : Int) + (↑v2.length : Int)) > (2097152 : Int)), ()))
         none)
        none))
      none)
     none))) := by kernel_rfl
theorem f14_eq (n : Nat) (a0 : Option ((Int × (List (UInt8) × (Int × (List (UInt8) × (Bool × Unit))))))) (a1 : Option (List Lk.JItem)) : f14 (n + 1) a0 a1 =
  (p14_1 (n) (n) (a0) (a1)) := by kernel_rfl
theorem p14_1_eq (j : Nat) (n0 : Nat) (v0 : Option ((Int × (List (UInt8) × (Int × (List (UInt8) × (Bool × Unit))))))) (v1 : Option (List Lk.JItem)) : p14_1 (j + 1) n0 v0 v1 =
  (sel (v0.isSome)
   (sel (v0.isSome)
    (sel (v0.isSome)
     (sel (v0.isSome)
      (sel (Decidable.decide ((v0.getD ((0 : Int), [], (0 : Int), [], Bool.false, ())).snd.snd.fst < (↑(List.length (v0.getD ((0 : Int), [], (0 : Int), [], Bool.false, ())).snd.fst) : Int)))
       (sel (v0.isSome)
        (sel (v0.isSome)
         (sel (v0.isSome)
          (sel (v0.isSome)
           (sel (v0.isSome)
            (sel (v0.isSome)
             (sel ((v0.getD ((0 : Int), [], (0 : Int), [], Bool.false, ())).fst != (0 : Int))
              (p14_3 (j) (n0) (j) (v0) (v1) (Go.IntKind.i64.wrap ((v0.getD ((0 : Int), [], (0 : Int), [], Bool.false, ())).fst - Int.tmod (v0.getD ((0 : Int), [], (0 : Int), [], Bool.false, ())).snd.snd.fst (v0.getD ((0 : Int), [], (0 : Int), [], Bool.false, ())).fst)))
              none)
             none)
            none)
           none)
          none)
         none)
        none)
       (sel (v0.isSome)
        (sel (v0.isSome)
         (sel ((v0.getD ((0 : Int), [], (0 : Int), [], Bool.false, ())).snd.snd.snd.snd.fst)
          (some ((1 : Int), v0, v1, ()))
          (some ((0 : Int), v0, v1, ())))
         none)
        none))
      none)
     none)
    none)
   none) := by kernel_rfl
theorem p14_3_eq (j : Nat) (n0 : Nat) (n1 : Nat) (v0 : Option ((Int × (List (UInt8) × (Int × (List (UInt8) × (Bool × Unit))))))) (v1 : Option (List Lk.JItem)) (v5 : Int) : p14_3 (j + 1) n0 n1 v0 v1 v5 =
  (sel (Decidable.decide (v5 < (7 : Int)))
   (sel (v0.isSome)
    (sel (v0.isSome)
     (sel (v0.isSome)
      (sel (v0.isSome)
       (sel (v0.isSome)
        (sel (v0.isSome)
         (sel (v0.isSome)
          (sel (v0.isSome)
           (sel (Decidable.decide ((0 : Int) ≤ Lk.imin (Go.IntKind.i64.wrap ((v0.getD ((0 : Int), [], (0 : Int), [], Bool.false, ())).snd.snd.fst + v5)) (↑(List.length (v0.getD ((0 : Int), [], (0 : Int), [], Bool.false, ())).snd.fst) : Int)))
            (sel (Decidable.decide (Lk.imin (Go.IntKind.i64.wrap ((v0.getD ((0 : Int), [], (0 : Int), [], Bool.false, ())).snd.snd.fst + v5)) (↑(List.length (v0.getD ((0 : Int), [], (0 : Int), [], Bool.false, ())).snd.fst) : Int) ≤ (↑(List.length (v0.getD ((0 : Int), [], (0 : Int), [], Bool.false, ())).snd.fst) : Int)))
             (sel (Decidable.decide ((0 : Int) ≤ (v0.getD ((0 : Int), [], (0 : Int), [], Bool.false, ())).snd.snd.fst))
              (sel (Decidable.decide ((v0.getD ((0 : Int), [], (0 : Int), [], Bool.false, ())).snd.snd.fst ≤ Lk.imin (Go.IntKind.i64.wrap ((v0.getD ((0 : Int), [], (0 : Int), [], Bool.false, ())).snd.snd.fst + v5)) (↑(List.length (v0.getD ((0 : Int), [], (0 : Int), [], Bool.false, ())).snd.fst) : Int)))
               (p14_5 (j) (n0) (n1) (j) (v0) (v1) ((v0.getD ((0 : Int), [], (0 : Int), [], Bool.false, ())).snd.fst) (Lk.ext (v0.getD ((0 : Int), [], (0 : Int), [], Bool.false, ())).snd.fst (v0.getD ((0 : Int), [], (0 : Int), [], Bool.false, ())).snd.snd.fst (Lk.imin (Go.IntKind.i64.wrap ((v0.getD ((0 : Int), [], (0 : Int), [], Bool.false, ())).snd.snd.fst + v5)) (↑(List.length (v0.getD ((0 : Int), [], (0 : Int), [], Bool.false, ())).snd.fst) : Int))) ((↑(Lk.ext (v0.getD ((0 : Int), [], (0 : Int), [], Bool.false, ())).snd.fst (v0.getD ((0 : Int), [], (0 : Int), [], Bool.false, ())).snd.snd.fst (Lk.imin (Go.IntKind.i64.wrap ((v0.getD ((0 : Int), [], (0 : Int), [], Bool.false, ())).snd.snd.fst + v5)) (↑(List.length (v0.getD ((0 : Int), [], (0 : Int), [], Bool.false, ())).snd.fst) : Int))).length : Int)) ((0 : Int)))
               none)
              none)
             none)
            none)
           none)
          none)
         none)
        none)
       none)
      none)
     none)
    none)
   (sel (v0.isSome)
    (sel (v0.isSome)
     (sel (v0.isSome)
      (sel (v0.isSome)
       (sel (Decidable.decide ((0 : Int) ≤ (v0.getD ((0 : Int), [], (0 : Int), [], Bool.false, ())).snd.snd.fst))
        (sel (Decidable.decide ((v0.getD ((0 : Int), [], (0 : Int), [], Bool.false, ())).snd.snd.fst ≤ (↑(List.length (v0.getD ((0 : Int), [], (0 : Int), [], Bool.false, ())).snd.fst) : Int)))
         (sel (Decidable.decide ((↑(Lk.ext (v0.getD ((0 : Int), [], (0 : Int), [], Bool.false, ())).snd.fst (v0.getD ((0 : Int), [], (0 : Int), [], Bool.false, ())).snd.snd.fst (↑(List.length (v0.getD ((0 : Int), [], (0 : Int), [], Bool.false, ())).snd.fst) : Int)).length : Int) < (7 : Int)))
          (some ((1 : Int), v0, v1, ()))
          (sel (Decidable.decide ((0 : Int) ≤ (4 : Int)))
           (sel (Decidable.decide ((4 : Int) < (↑(Lk.ext (v0.getD ((0 : Int), [], (0 : Int), [], Bool.false, ())).snd.fst (v0.getD ((0 : Int), [], (0 : Int), [], Bool.false, ())).snd.snd.fst (↑(List.length (v0.getD ((0 : Int), [], (0 : Int), [], Bool.false, ())).snd.fst) : Int)).length : Int)))
            (sel (Decidable.decide ((0 : Int) ≤ (5 : Int)))
             (sel (Decidable.decide ((5 : Int) < (↑(Lk.ext (v0.getD ((0 : Int), [], (0 : Int), [], Bool.false, ())).snd.fst (v0.getD ((0 : Int), [], (0 : Int), [], Bool.false, ())).snd.snd.fst (↑(List.length (v0.getD ((0 : Int), [], (0 : Int), [], Bool.false, ())).snd.fst) : Int)).length : Int)))
              (sel (Decidable.decide ((0 : Int) ≤ (8 : Int)))
               (sel (Decidable.decide ((0 : Int) ≤ (6 : Int)))
                (sel (Decidable.decide ((6 : Int) < (↑(Lk.ext (v0.getD ((0 : Int), [], (0 : Int), [], Bool.false, ())).snd.fst (v0.getD ((0 : Int), [], (0 : Int), [], Bool.false, ())).snd.snd.fst (↑(List.length (v0.getD ((0 : Int), [], (0 : Int), [], Bool.false, ())).snd.fst) : Int)).length : Int)))
                 (sel (Decidable.decide ((↑(UInt8.toNat ((Lk.ext (v0.getD ((0 : Int), [], (0 : Int), [], Bool.false, ())).snd.fst (v0.getD ((0 : Int), [], (0 : Int), [], Bool.false, ())).snd.snd.fst (↑(List.length (v0.getD ((0 : Int), [], (0 : Int), [], Bool.false, ())).snd.fst) : Int)).getD (Int.toNat (6 : Int)) (0 : UInt8))) : Int) < (↑(UInt8.toNat (1 : UInt8)) : Int)))
                  (p14_2064 (n1) (n0) (n1) (v0) (v1) (Lk.ext (v0.getD ((0 : Int), [], (0 : Int), [], Bool.false, ())).snd.fst (v0.getD ((0 : Int), [], (0 : Int), [], Bool.false, ())).snd.snd.fst (↑(List.length (v0.getD ((0 : Int), [], (0 : Int), [], Bool.false, ())).snd.fst) : Int)) (Lk.ibits Go.BinOp.or Go.IntKind.i64 (Go.IntKind.i64.wrap (↑(UInt8.toNat ((Lk.ext (v0.getD ((0 : Int), [], (0 : Int), [], Bool.false, ())).snd.fst (v0.getD ((0 : Int), [], (0 : Int), [], Bool.false, ())).snd.snd.fst (↑(List.length (v0.getD ((0 : Int), [], (0 : Int), [], Bool.false, ())).snd.fst) : Int)).getD (Int.toNat (4 : Int)) (0 : UInt8))) : Int)) (Go.IntKind.i64.wrap (Go.IntKind.i64.wrap (↑(UInt8.toNat ((Lk.ext (v0.getD ((0 : Int), [], (0 : Int), [], Bool.false, ())).snd.fst (v0.getD ((0 : Int), [], (0 : Int), [], Bool.false, ())).snd.snd.fst (↑(List.length (v0.getD ((0 : Int), [], (0 : Int), [], Bool.false, ())).snd.fst) : Int)).getD (Int.toNat (5 : Int)) (0 : UInt8))) : Int) * (2 : Int) ^ Min.min (Int.toNat (8 : Int)) Go.IntKind.i64.bits))) ((Lk.ext (v0.getD ((0 : Int), [], (0 : Int), [], Bool.false, ())).snd.fst (v0.getD ((0 : Int), [], (0 : Int), [], Bool.false, ())).snd.snd.fst (↑(List.length (v0.getD ((0 : Int), [], (0 : Int), [], Bool.false, ())).snd.fst) : Int)).getD (Int.toNat (6 : Int)) (0 : UInt8)) (Bool.true))
                  (sel (Decidable.decide ((↑(UInt8.toNat ((Lk.ext (v0.getD ((0 : Int), [], (0 : Int), [], Bool.false, ())).snd.fst (v0.getD ((0 : Int), [], (0 : Int), [], Bool.false, ())).snd.snd.fst (↑(List.length (v0.getD ((0 : Int), [], (0 : Int), [], Bool.false, ())).snd.fst) : Int)).getD (Int.toNat (6 : Int)) (0 : UInt8))) : Int) > (↑(UInt8.toNat (4 : UInt8)) : Int)))
                   (p14_2064 (n1) (n0) (n1) (v0) (v1) (Lk.ext (v0.getD ((0 : Int), [], (0 : Int), [], Bool.false, ())).snd.fst (v0.getD ((0 : Int), [], (0 : Int), [], Bool.false, ())).snd.snd.fst (↑(List.length (v0.getD ((0 : Int), [], (0 : Int), [], Bool.false, ())).snd.fst) : Int)) (Lk.ibits Go.BinOp.or Go.IntKind.i64 (Go.IntKind.i64.wrap (↑(UInt8.toNat ((Lk.ext (v0.getD ((0 : Int), [], (0 : Int), [], Bool.false, ())).snd.fst (v0.getD ((0 : Int), [], (0 : Int), [], Bool.false, ())).snd.snd.fst (↑(List.length (v0.getD ((0 : Int), [], (0 : Int), [], Bool.false, ())).snd.fst) : Int)).getD (Int.toNat (4 : Int)) (0 : UInt8))) : Int)) (Go.IntKind.i64.wrap (Go.IntKind.i64.wrap (↑(UInt8.toNat ((Lk.ext (v0.getD ((0 : Int), [], (0 : Int), [], Bool.false, ())).snd.fst (v0.getD ((0 : Int), [], (0 : Int), [], Bool.false, ())).snd.snd.fst (↑(List.length (v0.getD ((0 : Int), [], (0 : Int), [], Bool.false, ())).snd.fst) : Int)).getD (Int.toNat (5 : Int)) (0 : UInt8))) : Int) * (2 : Int) ^ Min.min (Int.toNat (8 : Int)) Go.IntKind.i64.bits))) ((Lk.ext (v0.getD ((0 : Int), [], (0 : Int), [], Bool.false, ())).snd.fst (v0.getD ((0 : Int), [], (0 : Int), [], Bool.false, ())).snd.snd.fst (↑(List.length (v0.getD ((0 : Int), [], (0 : Int), [], Bool.false, ())).snd.fst) : Int)).getD (Int.toNat (6 : Int)) (0 : UInt8)) (Bool.true))
                   (sel (v0.isSome)
                    (sel (v0.isSome)
                     (sel (v0.isSome)
                      (sel (v0.isSome)
                       (sel (v0.isSome)
                        (sel (v0.isSome)
                         (sel ((v0.getD ((0 : Int), [], (0 : Int), [], Bool.false, ())).fst != (0 : Int))
                          (p14_2064 (n1) (n0) (n1) (v0) (v1) (Lk.ext (v0.getD ((0 : Int), [], (0 : Int), [], Bool.false, ())).snd.fst (v0.getD ((0 : Int), [], (0 : Int), [], Bool.false, ())).snd.snd.fst (↑(List.length (v0.getD ((0 : Int), [], (0 : Int), [], Bool.false, ())).snd.fst) : Int)) (Lk.ibits Go.BinOp.or Go.IntKind.i64 (Go.IntKind.i64.wrap (↑(UInt8.toNat ((Lk.ext (v0.getD ((0 : Int), [], (0 : Int), [], Bool.false, ())).snd.fst (v0.getD ((0 : Int), [], (0 : Int), [], Bool.false, ())).snd.snd.fst (↑(List.length (v0.getD ((0 : Int), [], (0 : Int), [], Bool.false, ())).snd.fst) : Int)).getD (Int.toNat (4 : Int)) (0 : UInt8))) : Int)) (Go.IntKind.i64.wrap (Go.IntKind.i64.wrap (↑(UInt8.toNat ((Lk.ext (v0.getD ((0 : Int), [], (0 : Int), [], Bool.false, ())).snd.fst (v0.getD ((0 : Int), [], (0 : Int), [], Bool.false, ())).snd.snd.fst (↑(List.length (v0.getD ((0 : Int), [], (0 : Int), [], Bool.false, ())).snd.fst) : Int)).getD (Int.toNat (5 : Int)) (0 : UInt8))) : Int) * (2 : Int) ^ Min.min (Int.toNat (8 : Int)) Go.IntKind.i64.bits))) ((Lk.ext (v0.getD ((0 : Int), [], (0 : Int), [], Bool.false, ())).snd.fst (v0.getD ((0 : Int), [], (0 : Int), [], Bool.false, ())).snd.snd.fst (↑(List.length (v0.getD ((0 : Int), [], (0 : Int), [], Bool.false, ())).snd.fst) : Int)).getD (Int.toNat (6 : Int)) (0 : UInt8)) (Decidable.decide (Lk.ibits Go.BinOp.or Go.IntKind.i64 (Go.IntKind.i64.wrap (↑(UInt8.toNat ((Lk.ext (v0.getD ((0 : Int), [], (0 : Int), [], Bool.false, ())).snd.fst (v0.getD ((0 : Int), [], (0 : Int), [], Bool.false, ())).snd.snd.fst (↑(List.length (v0.getD ((0 : Int), [], (0 : Int), [], Bool.false, ())).snd.fst) : Int)).getD (Int.toNat (4 : Int)) (0 : UInt8))) : Int)) (Go.IntKind.i64.wrap (Go.IntKind.i64.wrap (↑(UInt8.toNat ((Lk.ext (v0.getD ((0 : Int), [], (0 : Int), [], Bool.false, ())).snd.fst (v0.getD ((0 : Int), [], (0 : Int), [], Bool.false, ())).snd.snd.fst (↑(List.length (v0.getD ((0 : Int), [], (0 : Int), [], Bool.false, ())).snd.fst) : Int)).getD (Int.toNat (5 : Int)) (0 : UInt8))) : Int) * (2 : Int) ^ Min.min (Int.toNat (8 : Int)) Go.IntKind.i64.bits)) > Go.IntKind.i64.wrap (Go.IntKind.i64.wrap ((v0.getD ((0 : Int), [], (0 : Int), [], Bool.false, ())).fst - Int.tmod (v0.getD ((0 : Int), [], (0 : Int), [], Bool.false, ())).snd.snd.fst (v0.getD ((0 : Int), [], (0 : Int), [], Bool.false, ())).fst) - (7 : Int)))))
                          none)
                         none)
                        none)
                       none)
                      none)
                     none)
                    none)))
                 none)
                none)
               none)
              none)
             none)
            none)
           none))
         none)
        none)
       none)
      none)
     none)
    none)) := by kernel_rfl
theorem p14_5_eq (j : Nat) (n0 : Nat) (n1 : Nat) (n2 : Nat) (v0 : Option ((Int × (List (UInt8) × (Int × (List (UInt8) × (Bool × Unit))))))) (v1 : Option (List Lk.JItem)) (v42 : List (UInt8)) (v59 : List (UInt8)) (v60 : Int) (v61 : Int) : p14_5 (j + 1) n0 n1 n2 v0 v1 v42 v59 v60 v61 =
  (sel (Decidable.decide (v61 < v60))
   (sel (Decidable.decide ((0 : Int) ≤ v61))
    (sel (Decidable.decide (v61 < (↑v59.length : Int)))
     (sel ((↑(UInt8.toNat (v59.getD v61.toNat (0 : UInt8))) : Int) != (↑(UInt8.toNat (0 : UInt8)) : Int))
      (some ((2 : Int), v0, v1, ()))
      (sel (v0.isSome)
       (sel (v0.isSome)
        (sel (v0.isSome)
         (sel (v0.isSome)
          (p14_5 (j) (n0) (n1) (n2) (Option.some ((v0.getD ((0 : Int), [], (0 : Int), [], Bool.false, ())).fst, (v0.getD ((0 : Int), [], (0 : Int), [], Bool.false, ())).snd.fst, Go.IntKind.i64.wrap ((v0.getD ((0 : Int), [], (0 : Int), [], Bool.false, ())).snd.snd.fst + (1 : Int)), (v0.getD ((0 : Int), [], (0 : Int), [], Bool.false, ())).snd.snd.snd)) (v1) (v42) (v59) (v60) (Go.IntKind.i64.wrap (v61 + (1 : Int))))
          none)
         none)
        none)
       none))
     none)
    none)
   (p14_1 (n1) (n0) (v0) (v1))) := by kernel_rfl
theorem p14_2064_eq (j : Nat) (n0 : Nat) (n1 : Nat) (v0 : Option ((Int × (List (UInt8) × (Int × (List (UInt8) × (Bool × Unit))))))) (v1 : Option (List Lk.JItem)) (v8 : List (UInt8)) (v9 : Int) (v10 : UInt8) (v124 : Bool) : p14_2064 (j + 1) n0 n1 v0 v1 v8 v9 v10 v124 =
  (sel (v124)
   (some ((2 : Int), v0, v1, ()))
   (p14_17 (n1) (n0) (n1) (v0) (v1) (v8) (v9) (v10))) := by kernel_rfl
theorem p14_17_eq (j : Nat) (n0 : Nat) (n1 : Nat) (v0 : Option ((Int × (List (UInt8) × (Int × (List (UInt8) × (Bool × Unit))))))) (v1 : Option (List Lk.JItem)) (v8 : List (UInt8)) (v9 : Int) (v10 : UInt8) : p14_17 (j + 1) n0 n1 v0 v1 v8 v9 v10 =
  (sel (Decidable.decide ((↑v8.length : Int) < Go.IntKind.i64.wrap ((7 : Int) + v9)))
   (some ((1 : Int), v0, v1, ()))
   (sel (Decidable.decide ((0 : Int) ≤ Go.IntKind.i64.wrap ((7 : Int) + v9)))
    (sel (Decidable.decide (Go.IntKind.i64.wrap ((7 : Int) + v9) ≤ (↑v8.length : Int)))
     (sel (Decidable.decide ((0 : Int) ≤ (7 : Int)))
      (sel (Decidable.decide ((7 : Int) ≤ Go.IntKind.i64.wrap ((7 : Int) + v9)))
       (obind (f26 j (v0) (v10) (Lk.ext v8 (7 : Int) (Go.IntKind.i64.wrap ((7 : Int) + v9)))) fun r2057 =>
        (sel (r2057.fst)
         (some ((2 : Int), v0, v1, ()))
         (sel (v0.isSome)
          (sel (v0.isSome)
           (sel (Decidable.decide (List.length (v0.getD ((0 : Int), [], (0 : Int), [], Bool.false, ())).snd.snd.snd.fst + (Lk.ext v8 (7 : Int) (Go.IntKind.i64.wrap ((7 : Int) + v9))).length ≤ (1073741824 : Nat)))
            (sel (Bool.true)
             (sel (Bool.true)
              (sel (Bool.true)
               (sel (Bool.true)
                (sel (Bool.true)
                 (sel (Bool.true)
                  (sel ((↑v10.toNat : Int) == (↑(UInt8.toNat (2 : UInt8)) : Int))
                   (sel (Bool.true)
                    (sel (Bool.true)
                     (p14_25 (j) (n0) (n1) (j) (Option.some ((v0.getD ((0 : Int), [], (0 : Int), [], Bool.false, ())).fst, (v0.getD ((0 : Int), [], (0 : Int), [], Bool.false, ())).snd.fst, Go.IntKind.i64.wrap ((v0.getD ((0 : Int), [], (0 : Int), [], Bool.false, ())).snd.snd.fst + Go.IntKind.i64.wrap ((7 : Int) + v9)), (v0.getD ((0 : Int), [], (0 : Int), [], Bool.false, ())).snd.snd.snd.fst ++ Lk.ext v8 (7 : Int) (Go.IntKind.i64.wrap ((7 : Int) + v9)), Bool.true, (v0.getD ((0 : Int), [], (0 : Int), [], Bool.false, ())).snd.snd.snd.snd.snd)) (v1))
                     none)
                    none)
                   (sel (Bool.true)
                    (sel (Bool.true)
                     (p14_25 (j) (n0) (n1) (j) (Option.some ((v0.getD ((0 : Int), [], (0 : Int), [], Bool.false, ())).fst, (v0.getD ((0 : Int), [], (0 : Int), [], Bool.false, ())).snd.fst, Go.IntKind.i64.wrap ((v0.getD ((0 : Int), [], (0 : Int), [], Bool.false, ())).snd.snd.fst + Go.IntKind.i64.wrap ((7 : Int) + v9)), (v0.getD ((0 : Int), [], (0 : Int), [], Bool.false, ())).snd.snd.snd.fst ++ Lk.ext v8 (7 : Int) (Go.IntKind.i64.wrap ((7 : Int) + v9)), (↑v10.toNat : Int) == (↑(UInt8.toNat (3 : UInt8)) : Int), (v0.getD ((0 : Int), [], (0 : Int), [], Bool.false, ())).snd.snd.snd.snd.snd)) (v1))
                     none)
                    none))
                  none)
                 none)
                none)
               none)
              none)
             none)
            none)
           none)
          none)))
       none)
      none)
     none)
    none)) := by kernel_rfl
theorem p14_25_eq (j : Nat) (n0 : Nat) (n1 : Nat) (n2 : Nat) (v0 : Option ((Int × (List (UInt8) × (Int × (List (UInt8) × (Bool × Unit))))))) (v1 : Option (List Lk.JItem)) : p14_25 (j + 1) n0 n1 n2 v0 v1 =
  (sel (v0.isSome)
   (sel (v0.isSome)
    (sel (!(v0.getD ((0 : Int), [], (0 : Int), [], Bool.false, ())).snd.snd.snd.snd.fst)
     (sel (v0.isSome)
      (sel (v0.isSome)
       (sel (Bool.true)
        (sel (Bool.true)
         (sel (Bool.true)
          (sel (Bool.true)
           (obind (yJ (v1) ((v0.getD ((0 : Int), [], (0 : Int), [], Bool.false, ())).snd.snd.fst) ((v0.getD ((0 : Int), [], (0 : Int), [], Bool.false, ())).snd.snd.snd.fst)) fun r2617 =>
            (sel (!r2617.fst)
             (some ((0 : Int), Option.some ((v0.getD ((0 : Int), [], (0 : Int), [], Bool.false, ())).fst, (v0.getD ((0 : Int), [], (0 : Int), [], Bool.false, ())).snd.fst, (v0.getD ((0 : Int), [], (0 : Int), [], Bool.false, ())).snd.snd.fst, [], (v0.getD ((0 : Int), [], (0 : Int), [], Bool.false, ())).snd.snd.snd.snd), r2617.snd.fst, ()))
             (p14_1 (n1) (n0) (Option.some ((v0.getD ((0 : Int), [], (0 : Int), [], Bool.false, ())).fst, (v0.getD ((0 : Int), [], (0 : Int), [], Bool.false, ())).snd.fst, (v0.getD ((0 : Int), [], (0 : Int), [], Bool.false, ())).snd.snd.fst, [], (v0.getD ((0 : Int), [], (0 : Int), [], Bool.false, ())).snd.snd.snd.snd)) (r2617.snd.fst))))
           none)
          none)
         none)
        none)
       none)
      none)
     (p14_1 (n1) (n0) (v0) (v1)))
    none)
   none) := by kernel_rfl
end RrG
end
section
namespace RrG
open Go Lk RrG
noncomputable def theFnsJ : Rj.FnsJ where
  f50 := f50
  f12 := f12
  f44 := f44
  f45 := f45
  p45_3 := p45_3
  f46 := f46
  f37 := f37
  f26 := f26
  p26_4 := p26_4
  f14 := f14
  p14_1 := p14_1
  p14_3 := p14_3
  p14_5 := p14_5
  p14_2064 := p14_2064
  p14_17 := p14_17
  p14_25 := p14_25
  f50_eq := f50_eq
  f12_eq := f12_eq
  f44_eq := f44_eq
  f45_eq := f45_eq
  p45_3_eq := p45_3_eq
  f46_eq := f46_eq
  f37_eq := f37_eq
  f26_eq := f26_eq
  p26_4_eq := p26_4_eq
  f14_eq := f14_eq
  p14_1_eq := p14_1_eq
  p14_3_eq := p14_3_eq
  p14_5_eq := p14_5_eq
  p14_2064_eq := p14_2064_eq
  p14_17_eq := p14_17_eq
  p14_25_eq := p14_25_eq
end RrG
end
section
namespace RrG
open Go Lk RrG
set_option linter.unusedVariables false
@[irreducible] noncomputable def f51 (n : Nat) (a0 : Int) : Option (Int × Unit) := F G n 51 (a0, ())
@[irreducible] noncomputable def p51_2 (j : Nat) (n0 : Nat) (v0 : Int) (v3 : Int) : Option (Int × Unit) := piece G 51 [.r, .r, .l, .b] j [n0] (skel 11 0 [(0, .av ⟨(.i .u64), .r, v0⟩), (3, .av ⟨(.i .i64), .r, v3⟩)])
@[irreducible] noncomputable def f47 (n : Nat) (a0 : List (UInt8)) (a1 : Int) : Option (Int × Int × Int × Unit) := F G n 47 (a0, a1, ())
@[irreducible] noncomputable def p47_2050 (j : Nat) (n0 : Nat) (v0 : List (UInt8)) (v1 : Int) (v4 : Int) (v16 : Bool) : Option (Int × Int × Int × Unit) := piece G 47 [.r, .l, .r] j [n0] (skel 62 0 [(0, .av ⟨(.l .by), .b, v0⟩), (1, .av ⟨(.i .i64), .r, v1⟩), (4, .av ⟨(.i .u64), .r, v4⟩), (16, .av ⟨.b, .r, v16⟩)])
@[irreducible] noncomputable def p47_3 (j : Nat) (n0 : Nat) (v0 : List (UInt8)) (v1 : Int) (v4 : Int) : Option (Int × Int × Int × Unit) := piece G 47 [.r, .r] j [n0] (skel 62 0 [(0, .av ⟨(.l .by), .b, v0⟩), (1, .av ⟨(.i .i64), .r, v1⟩), (4, .av ⟨(.i .u64), .r, v4⟩)])
@[irreducible] noncomputable def p47_4 (j : Nat) (n0 : Nat) (n1 : Nat) (v1 : Int) (v4 : Int) (v17 : List (UInt8)) (v19 : List (UInt8)) (v20 : Int) (v21 : Int) : Option (Int × Int × Int × Unit) := piece G 47 [.r, .r, .l, .r, .b] j [n0, n1] (skel 62 0 [(1, .av ⟨(.i .i64), .r, v1⟩), (4, .av ⟨(.i .u64), .r, v4⟩), (17, .av ⟨(.l .by), .b, v17⟩), (19, .av ⟨(.l .by), .b, v19⟩), (20, .av ⟨(.i .i64), .r, v20⟩), (21, .av ⟨(.i .i64), .r, v21⟩)])
@[irreducible] noncomputable def p47_2055 (j : Nat) (n0 : Nat) (n1 : Nat) (n2 : Nat) (v1 : Int) (v4 : Int) (v7 : Int) (v8 : UInt8) (v17 : List (UInt8)) (v19 : List (UInt8)) (v20 : Int) (v21 : Int) (v26 : Bool) : Option (Int × Int × Int × Unit) := piece G 47 [.r, .r, .l, .r, .b, .o, .r, .r, .l, .b, .r, .l, .b, .l, .r] j [n0, n1, n2] (skel 62 0 [(1, .av ⟨(.i .i64), .r, v1⟩), (4, .av ⟨(.i .u64), .r, v4⟩), (7, .av ⟨(.i .i64), .r, v7⟩), (8, .av ⟨.by, .b, v8⟩), (17, .av ⟨(.l .by), .b, v17⟩), (19, .av ⟨(.l .by), .b, v19⟩), (20, .av ⟨(.i .i64), .r, v20⟩), (21, .av ⟨(.i .i64), .r, v21⟩), (26, .av ⟨.b, .r, v26⟩)])
@[irreducible] noncomputable def p47_2056 (j : Nat) (n0 : Nat) (n1 : Nat) (n2 : Nat) (v1 : Int) (v4 : Int) (v7 : Int) (v8 : UInt8) (v17 : List (UInt8)) (v19 : List (UInt8)) (v20 : Int) (v21 : Int) (v26 : Bool) : Option (Int × Int × Int × Unit) := piece G 47 [.r, .r, .l, .r, .b, .o, .r, .r, .l, .b, .r, .l, .b, .r] j [n0, n1, n2] (skel 62 0 [(1, .av ⟨(.i .i64), .r, v1⟩), (4, .av ⟨(.i .u64), .r, v4⟩), (7, .av ⟨(.i .i64), .r, v7⟩), (8, .av ⟨.by, .b, v8⟩), (17, .av ⟨(.l .by), .b, v17⟩), (19, .av ⟨(.l .by), .b, v19⟩), (20, .av ⟨(.i .i64), .r, v20⟩), (21, .av ⟨(.i .i64), .r, v21⟩), (26, .av ⟨.b, .r, v26⟩)])
@[irreducible] noncomputable def p47_11 (j : Nat) (n0 : Nat) (n1 : Nat) (n2 : Nat) (v1 : Int) (v4 : Int) (v7 : Int) (v8 : UInt8) (v17 : List (UInt8)) (v19 : List (UInt8)) (v20 : Int) (v21 : Int) : Option (Int × Int × Int × Unit) := piece G 47 [.r, .r, .l, .r, .b, .o, .r, .r, .l, .b, .r, .r] j [n0, n1, n2] (skel 62 0 [(1, .av ⟨(.i .i64), .r, v1⟩), (4, .av ⟨(.i .u64), .r, v4⟩), (7, .av ⟨(.i .i64), .r, v7⟩), (8, .av ⟨.by, .b, v8⟩), (17, .av ⟨(.l .by), .b, v17⟩), (19, .av ⟨(.l .by), .b, v19⟩), (20, .av ⟨(.i .i64), .r, v20⟩), (21, .av ⟨(.i .i64), .r, v21⟩)])
@[irreducible] noncomputable def p47_12 (j : Nat) (n0 : Nat) (n1 : Nat) (n2 : Nat) (v1 : Int) (v4 : Int) (v17 : List (UInt8)) (v19 : List (UInt8)) (v20 : Int) (v21 : Int) : Option (Int × Int × Int × Unit) := piece G 47 [.r, .r, .l, .r, .b, .o, .r, .r, .r] j [n0, n1, n2] (skel 62 0 [(1, .av ⟨(.i .i64), .r, v1⟩), (4, .av ⟨(.i .u64), .r, v4⟩), (17, .av ⟨(.l .by), .b, v17⟩), (19, .av ⟨(.l .by), .b, v19⟩), (20, .av ⟨(.i .i64), .r, v20⟩), (21, .av ⟨(.i .i64), .r, v21⟩)])
@[irreducible] noncomputable def f39 (n : Nat) (a0 : List (UInt8)) (a1 : Int) : Option (List UInt8 × Int × Int × Unit) := F G n 39 (a0, a1, ())
@[irreducible] noncomputable def f38 (n : Nat) (a0 : List (UInt8)) (a1 : Int) (a2 : Int) : Option (Int × Int × Int × Unit) := F G n 38 (a0, a1, a2, ())
@[irreducible] noncomputable def p38_2050 (j : Nat) (n0 : Nat) (v0 : List (UInt8)) (v1 : Int) (v2 : Int) (v6 : Int) (v10 : Bool) : Option (Int × Int × Int × Unit) := piece G 38 [.r, .l, .b, .r] j [n0] (skel 47 0 [(0, .av ⟨(.l .by), .b, v0⟩), (1, .av ⟨(.i .i64), .r, v1⟩), (2, .av ⟨(.i .i64), .r, v2⟩), (6, .av ⟨(.i .u64), .r, v6⟩), (10, .av ⟨.b, .r, v10⟩)])
@[irreducible] noncomputable def p38_5 (j : Nat) (n0 : Nat) (v0 : List (UInt8)) (v1 : Int) (v2 : Int) (v6 : Int) : Option (Int × Int × Int × Unit) := piece G 38 [.r, .r] j [n0] (skel 47 0 [(0, .av ⟨(.l .by), .b, v0⟩), (1, .av ⟨(.i .i64), .r, v1⟩), (2, .av ⟨(.i .i64), .r, v2⟩), (6, .av ⟨(.i .u64), .r, v6⟩)])
@[irreducible] noncomputable def p38_6 (j : Nat) (n0 : Nat) (n1 : Nat) (v0 : List (UInt8)) (v1 : Int) (v2 : Int) (v6 : Int) (v26 : Int) (v27 : Int) : Option (Int × Int × Int × Unit) := piece G 38 [.r, .r, .l, .r, .b] j [n0, n1] (skel 47 0 [(0, .av ⟨(.l .by), .b, v0⟩), (1, .av ⟨(.i .i64), .r, v1⟩), (2, .av ⟨(.i .i64), .r, v2⟩), (6, .av ⟨(.i .u64), .r, v6⟩), (26, .av ⟨(.i .i64), .r, v26⟩), (27, .av ⟨(.i .i64), .r, v27⟩)])
@[irreducible] noncomputable def f27 (n : Nat) (a0 : List (UInt8)) (a1 : Int) : Option (Int × Int × Int × Unit) := F G n 27 (a0, a1, ())
@[irreducible] noncomputable def f28 (n : Nat) (a0 : List (UInt8)) (a1 : Int) : Option (Int × Int × Int × Unit) := F G n 28 (a0, a1, ())
@[irreducible] noncomputable def f15 (n : Nat) (a0 : List (UInt8)) : Option (Int × Int × Int × Unit) := F G n 15 (a0, ())
@[irreducible] noncomputable def f18 (n : Nat) (a0 : Int) (a1 : Int) : Option (Bool × Unit) := F G n 18 (a0, a1, ())
@[irreducible] noncomputable def f48 (n : Nat) (a0 : List UInt8) : Option (Int × Unit) := F G n 48 (a0, ())
@[irreducible] noncomputable def f33 (n : Nat) (a0 : (Int × (List UInt8 × (List UInt8 × Unit)))) : Option (Bool × Unit) := F G n 33 (a0, ())
@[irreducible] noncomputable def p33_2050 (j : Nat) (n0 : Nat) (v1 : Option ((Int × (List UInt8 × (List UInt8 × Unit))))) (v12 : Bool) : Option (Bool × Unit) := piece G 33 [.r, .l, .r] j [n0] (skel 39 0 [(1, .av ⟨(.p (.c (.i .i64) (.c .s (.c .s .u)))), (.o (.q .r (.q .r (.q .r .r)))), v1⟩), (12, .av ⟨.b, .r, v12⟩)])
@[irreducible] noncomputable def p33_3 (j : Nat) (n0 : Nat) (v1 : Option ((Int × (List UInt8 × (List UInt8 × Unit))))) : Option (Bool × Unit) := piece G 33 [.r, .r] j [n0] (skel 39 0 [(1, .av ⟨(.p (.c (.i .i64) (.c .s (.c .s .u)))), (.o (.q .r (.q .r (.q .r .r)))), v1⟩)])
@[irreducible] noncomputable def f32 (n : Nat) (a0 : (Int × (List UInt8 × (List UInt8 × Unit)))) : Option (Bool × Unit) := F G n 32 (a0, ())
@[irreducible] noncomputable def f31 (n : Nat) (a0 : List ((Int × (List UInt8 × (List UInt8 × Unit))))) (a1 : Unit) : Option (Int × Unit) := F G n 31 (a0, a1, ())
@[irreducible] noncomputable def p31_2 (j : Nat) (n0 : Nat) (v0 : List ((Int × (List UInt8 × (List UInt8 × Unit))))) (v1 : Unit) (v7 : Int) (v8 : Int) : Option (Int × Unit) := piece G 31 [.r, .l, .r, .b] j [n0] (skel 19 0 [(0, .av ⟨(.l (.c (.i .i64) (.c .s (.c .s .u)))), .b, v0⟩), (1, .av ⟨(.z (.g 32)), .r, v1⟩), (7, .av ⟨(.i .i64), .r, v7⟩), (8, .av ⟨(.i .i64), .r, v8⟩)])
@[irreducible] noncomputable def f40 (n : Nat) (a0 : (Int × (List UInt8 × (List UInt8 × Unit)))) : Option (Int × Unit) := F G n 40 (a0, ())
@[irreducible] noncomputable def p40_4 (j : Nat) (n0 : Nat) (v3 : Int) : Option (Int × Unit) := piece G 40 [.r, .r, .r] j [n0] (skel 17 0 [(3, .av ⟨(.i .i64), .r, v3⟩)])
@[irreducible] noncomputable def f34 (n : Nat) (a0 : List ((Int × (List UInt8 × (List UInt8 × Unit))))) : Option (Int × Unit) := F G n 34 (a0, ())
@[irreducible] noncomputable def p34_3 (j : Nat) (n0 : Nat) (v3 : Int) (v6 : List ((Int × (List UInt8 × (List UInt8 × Unit))))) (v7 : Int) (v8 : Int) : Option (Int × Unit) := piece G 34 [.r, .r, .l, .r, .b] j [n0] (skel 18 0 [(3, .av ⟨(.i .i64), .r, v3⟩), (6, .av ⟨(.l (.c (.i .i64) (.c .s (.c .s .u)))), .b, v6⟩), (7, .av ⟨(.i .i64), .r, v7⟩), (8, .av ⟨(.i .i64), .r, v8⟩)])
@[irreducible] noncomputable def f17 (n : Nat) (a0 : List ((Int × (List UInt8 × (List UInt8 × Unit))))) : Option (Int × Int × Unit) := F G n 17 (a0, ())
@[irreducible] noncomputable def f30 (n : Nat) (a0 : List (UInt8)) (a1 : Int) : Option ((Int × (List UInt8 × (List UInt8 × Unit))) × Int × Bool × Unit) := F G n 30 (a0, a1, ())
@[irreducible] noncomputable def p30_10 (j : Nat) (n0 : Nat) (v4 : Option ((Int × (List UInt8 × (List UInt8 × Unit))))) (v7 : Option ((Int × (List UInt8 × (List UInt8 × Unit))))) (v9 : Int) (v10 : Int) : Option ((Int × (List UInt8 × (List UInt8 × Unit))) × Int × Bool × Unit) := piece G 30 [.r, .r, .r, .r, .r, .r, .r] j [n0] (skel 54 0 [(4, .av ⟨(.p (.c (.i .i64) (.c .s (.c .s .u)))), (.o (.q .r (.q .r (.q .r .r)))), v4⟩), (7, .av ⟨(.p (.c (.i .i64) (.c .s (.c .s .u)))), (.o (.q .r (.q .r (.q .r .r)))), v7⟩), (9, .av ⟨(.i .i64), .r, v9⟩), (10, .av ⟨(.i .i64), .r, v10⟩)])
@[irreducible] noncomputable def f29 (n : Nat) (a0 : Option (List Lk.BItem)) (a1 : Option (List (UInt8))) : Option (Option (List Lk.BItem) × Unit) := F G n 29 (a0, a1, ())
@[irreducible] noncomputable def p29_4 (j : Nat) (n0 : Nat) (v0 : Option (List Lk.BItem)) (v1 : Option (List (UInt8))) (v3 : Int) (v6 : Int) (v19 : Int) (v20 : Int) : Option (Option (List Lk.BItem) × Unit) := piece G 29 [.r, .r, .r, .r, .b] j [n0] (skel 46 0 [(0, .av ⟨(.a 3), (.o .r), v0⟩), (1, .av ⟨(.p (.l .by)), .b, v1⟩), (3, .av ⟨(.i .u64), .r, v3⟩), (6, .av ⟨(.i .i64), .r, v6⟩), (19, .av ⟨(.i .i64), .r, v19⟩), (20, .av ⟨(.i .i64), .r, v20⟩)])
@[irreducible] noncomputable def p29_8 (j : Nat) (n0 : Nat) (n1 : Nat) (v0 : Option (List Lk.BItem)) (v1 : Option (List (UInt8))) (v3 : Int) (v9 : Int) (v19 : Int) (v20 : Int) : Option (Option (List Lk.BItem) × Unit) := piece G 29 [.r, .r, .r, .r, .b, .o, .r, .r, .l, .b, .r, .r, .r] j [n0, n1] (skel 46 0 [(0, .av ⟨(.a 3), (.o .r), v0⟩), (1, .av ⟨(.p (.l .by)), .b, v1⟩), (3, .av ⟨(.i .u64), .r, v3⟩), (9, .av ⟨(.i .i64), .r, v9⟩), (19, .av ⟨(.i .i64), .r, v19⟩), (20, .av ⟨(.i .i64), .r, v20⟩)])
@[irreducible] noncomputable def p29_9 (j : Nat) (n0 : Nat) (n1 : Nat) (v0 : Option (List Lk.BItem)) (v1 : Option (List (UInt8))) (v3 : Int) (v6 : Int) (v19 : Int) (v20 : Int) : Option (Option (List Lk.BItem) × Unit) := piece G 29 [.r, .r, .r, .r, .b, .o, .r, .r, .r] j [n0, n1] (skel 46 0 [(0, .av ⟨(.a 3), (.o .r), v0⟩), (1, .av ⟨(.p (.l .by)), .b, v1⟩), (3, .av ⟨(.i .u64), .r, v3⟩), (6, .av ⟨(.i .i64), .r, v6⟩), (19, .av ⟨(.i .i64), .r, v19⟩), (20, .av ⟨(.i .i64), .r, v20⟩)])
theorem f51_eq (n : Nat) (a0 : Int) : f51 (n + 1) a0 =
  (p51_2 (n) (n) (a0) ((1 : Int))) := by kernel_rfl
theorem p51_2_eq (j : Nat) (n0 : Nat) (v0 : Int) (v3 : Int) : p51_2 (j + 1) n0 v0 v3 =
  (sel (Decidable.decide (v0 ≥ (128 : Int)))
   (sel (Decidable.decide ((0 : Int) ≤ (7 : Int)))
    (p51_2 (j) (n0) (v0.fdiv ((2 : Int) ^ Min.min (Int.toNat (7 : Int)) Go.IntKind.u64.bits)) (Go.IntKind.i64.wrap (v3 + (1 : Int))))
    none)
   (some (v3, ()))) := by kernel_rfl
theorem f47_eq (n : Nat) (a0 : List (UInt8)) (a1 : Int) : f47 (n + 1) a0 a1 =
  (sel (Decidable.decide (a1 < (0 : Int)))
   (p47_2050 (n) (n) (a0) (a1) ((0 : Int)) (Bool.true))
   (p47_2050 (n) (n) (a0) (a1) ((0 : Int)) (Decidable.decide (a1 > (↑a0.length : Int))))) := by kernel_rfl
theorem p47_2050_eq (j : Nat) (n0 : Nat) (v0 : List (UInt8)) (v1 : Int) (v4 : Int) (v16 : Bool) : p47_2050 (j + 1) n0 v0 v1 v4 v16 =
  (sel (v16)
   (some ((0 : Int), (0 : Int), (2 : Int), ()))
   (p47_3 (n0) (n0) (v0) (v1) (v4))) := by kernel_rfl
theorem p47_3_eq (j : Nat) (n0 : Nat) (v0 : List (UInt8)) (v1 : Int) (v4 : Int) : p47_3 (j + 1) n0 v0 v1 v4 =
  (sel (Decidable.decide ((0 : Int) ≤ v1))
   (sel (Decidable.decide (v1 ≤ (↑v0.length : Int)))
    (p47_4 (j) (n0) (j) (v1) (v4) (v0) (Lk.ext v0 v1 (↑v0.length : Int)) ((↑(Lk.ext v0 v1 (↑v0.length : Int)).length : Int)) ((0 : Int)))
    none)
   none) := by kernel_rfl
theorem p47_4_eq (j : Nat) (n0 : Nat) (n1 : Nat) (v1 : Int) (v4 : Int) (v17 : List (UInt8)) (v19 : List (UInt8)) (v20 : Int) (v21 : Int) : p47_4 (j + 1) n0 n1 v1 v4 v17 v19 v20 v21 =
  (sel (Decidable.decide (v21 < v20))
   (sel (Decidable.decide ((0 : Int) ≤ v21))
    (sel (Decidable.decide (v21 < (↑v19.length : Int)))
     (sel (v21 == (9 : Int))
      (p47_2055 (j) (n0) (n1) (j) (v1) (v4) (v21) (v19.getD v21.toNat (0 : UInt8)) (v17) (v19) (v20) (v21) (Decidable.decide ((↑(UInt8.toNat (v19.getD v21.toNat (0 : UInt8))) : Int) > (↑(UInt8.toNat (1 : UInt8)) : Int))))
      (p47_2055 (j) (n0) (n1) (j) (v1) (v4) (v21) (v19.getD v21.toNat (0 : UInt8)) (v17) (v19) (v20) (v21) (Bool.false)))
     none)
    none)
   (some ((0 : Int), (0 : Int), (10 : Int), ()))) := by kernel_rfl
theorem p47_2055_eq (j : Nat) (n0 : Nat) (n1 : Nat) (n2 : Nat) (v1 : Int) (v4 : Int) (v7 : Int) (v8 : UInt8) (v17 : List (UInt8)) (v19 : List (UInt8)) (v20 : Int) (v21 : Int) (v26 : Bool) : p47_2055 (j + 1) n0 n1 n2 v1 v4 v7 v8 v17 v19 v20 v21 v26 =
  (sel (v26)
   (p47_2056 (n2) (n0) (n1) (n2) (v1) (v4) (v7) (v8) (v17) (v19) (v20) (v21) (v26))
   (sel ((↑v8.toNat : Int) == (↑(UInt8.toNat (0 : UInt8)) : Int))
    (p47_2056 (n2) (n0) (n1) (n2) (v1) (v4) (v7) (v8) (v17) (v19) (v20) (v21) (Decidable.decide (v7 > (0 : Int))))
    (p47_2056 (n2) (n0) (n1) (n2) (v1) (v4) (v7) (v8) (v17) (v19) (v20) (v21) (Bool.false)))) := by kernel_rfl
theorem p47_2056_eq (j : Nat) (n0 : Nat) (n1 : Nat) (n2 : Nat) (v1 : Int) (v4 : Int) (v7 : Int) (v8 : UInt8) (v17 : List (UInt8)) (v19 : List (UInt8)) (v20 : Int) (v21 : Int) (v26 : Bool) : p47_2056 (j + 1) n0 n1 n2 v1 v4 v7 v8 v17 v19 v20 v21 v26 =
  (sel (v26)
   (some ((0 : Int), (0 : Int), (11 : Int), ()))
   (sel (Decidable.decide ((↑v8.toNat : Int) < (↑(UInt8.toNat (128 : UInt8)) : Int)))
    (sel (Decidable.decide ((0 : Int) ≤ Go.IntKind.i64.wrap ((7 : Int) * v7)))
     (some (Lk.ibits Go.BinOp.or Go.IntKind.u64 v4 (Go.IntKind.u64.wrap (Go.IntKind.u64.wrap (↑v8.toNat : Int) * (2 : Int) ^ Min.min (Go.IntKind.i64.wrap ((7 : Int) * v7)).toNat Go.IntKind.u64.bits)), Go.IntKind.i64.wrap (Go.IntKind.i64.wrap (v1 + v7) + (1 : Int)), (0 : Int), ()))
     none)
    (p47_11 (n2) (n0) (n1) (n2) (v1) (v4) (v7) (v8) (v17) (v19) (v20) (v21)))) := by kernel_rfl
theorem p47_11_eq (j : Nat) (n0 : Nat) (n1 : Nat) (n2 : Nat) (v1 : Int) (v4 : Int) (v7 : Int) (v8 : UInt8) (v17 : List (UInt8)) (v19 : List (UInt8)) (v20 : Int) (v21 : Int) : p47_11 (j + 1) n0 n1 n2 v1 v4 v7 v8 v17 v19 v20 v21 =
  (sel (Decidable.decide ((0 : Int) ≤ Go.IntKind.i64.wrap ((7 : Int) * v7)))
   (p47_12 (n2) (n0) (n1) (n2) (v1) (Lk.ibits Go.BinOp.or Go.IntKind.u64 v4 (Go.IntKind.u64.wrap (Go.IntKind.u64.wrap (↑(UInt8.ofNat (Lk.ibits Go.BinOp.and Go.IntKind.u8 (↑v8.toNat : Int) (↑(UInt8.toNat (127 : UInt8)) : Int)).toNat).toNat : Int) * (2 : Int) ^ Min.min (Go.IntKind.i64.wrap ((7 : Int) * v7)).toNat Go.IntKind.u64.bits))) (v17) (v19) (v20) (v21))
   none) := by kernel_rfl
theorem p47_12_eq (j : Nat) (n0 : Nat) (n1 : Nat) (n2 : Nat) (v1 : Int) (v4 : Int) (v17 : List (UInt8)) (v19 : List (UInt8)) (v20 : Int) (v21 : Int) : p47_12 (j + 1) n0 n1 n2 v1 v4 v17 v19 v20 v21 =
  (p47_4 (n2) (n0) (n1) (v1) (v4) (v17) (v19) (v20) (Go.IntKind.i64.wrap (v21 + (1 : Int)))) := by kernel_rfl
theorem f39_eq (n : Nat) (a0 : List (UInt8)) (a1 : Int) : f39 (n + 1) a0 a1 =
  (obind (f47 n (a0) (a1)) fun r67 =>
   (sel (r67.snd.snd.fst != (0 : Int))
    (some ([], (0 : Int), r67.snd.snd.fst, ()))
    (sel (Decidable.decide (r67.fst > Go.IntKind.u64.wrap (Go.IntKind.i64.wrap ((↑a0.length : Int) - r67.snd.fst))))
     (some ([], (0 : Int), (10 : Int), ()))
     (sel (Decidable.decide ((0 : Int) ≤ Go.IntKind.i64.wrap (r67.snd.fst + Go.IntKind.i64.wrap r67.fst)))
      (sel (Decidable.decide (Go.IntKind.i64.wrap (r67.snd.fst + Go.IntKind.i64.wrap r67.fst) ≤ (↑a0.length : Int)))
       (sel (Decidable.decide ((0 : Int) ≤ r67.snd.fst))
        (sel (Decidable.decide (r67.snd.fst ≤ Go.IntKind.i64.wrap (r67.snd.fst + Go.IntKind.i64.wrap r67.fst)))
         (some (Lk.ext a0 r67.snd.fst (Go.IntKind.i64.wrap (r67.snd.fst + Go.IntKind.i64.wrap r67.fst)), Go.IntKind.i64.wrap (r67.snd.fst + Go.IntKind.i64.wrap r67.fst), (0 : Int), ()))
         none)
        none)
       none)
      none)))) := by kernel_rfl
theorem f38_eq (n : Nat) (a0 : List (UInt8)) (a1 : Int) (a2 : Int) : f38 (n + 1) a0 a1 a2 =
  (sel (Decidable.decide (a1 < (0 : Int)))
   (p38_2050 (n) (n) (a0) (a1) (a2) ((0 : Int)) (Bool.true))
   (p38_2050 (n) (n) (a0) (a1) (a2) ((0 : Int)) (Decidable.decide (a1 > (↑a0.length : Int))))) := by kernel_rfl
theorem p38_2050_eq (j : Nat) (n0 : Nat) (v0 : List (UInt8)) (v1 : Int) (v2 : Int) (v6 : Int) (v10 : Bool) : p38_2050 (j + 1) n0 v0 v1 v2 v6 v10 =
  (sel (v10)
   (some ((0 : Int), (0 : Int), (2 : Int), ()))
   (sel (Decidable.decide (Go.IntKind.i64.wrap ((↑v0.length : Int) - v1) < v2))
    (some ((0 : Int), (0 : Int), (10 : Int), ()))
    (p38_5 (n0) (n0) (v0) (v1) (v2) (v6)))) := by kernel_rfl
theorem p38_5_eq (j : Nat) (n0 : Nat) (v0 : List (UInt8)) (v1 : Int) (v2 : Int) (v6 : Int) : p38_5 (j + 1) n0 v0 v1 v2 v6 =
  (p38_6 (j) (n0) (j) (v0) (v1) (v2) (v6) (v2) ((0 : Int))) := by kernel_rfl
theorem p38_6_eq (j : Nat) (n0 : Nat) (n1 : Nat) (v0 : List (UInt8)) (v1 : Int) (v2 : Int) (v6 : Int) (v26 : Int) (v27 : Int) : p38_6 (j + 1) n0 n1 v0 v1 v2 v6 v26 v27 =
  (sel (Decidable.decide (v27 < v26))
   (sel (Decidable.decide ((0 : Int) ≤ Go.IntKind.i64.wrap (v1 + v27)))
    (sel (Decidable.decide (Go.IntKind.i64.wrap (v1 + v27) < (↑v0.length : Int)))
     (sel (Decidable.decide ((0 : Int) ≤ Go.IntKind.i64.wrap ((8 : Int) * v27)))
      (p38_6 (j) (n0) (n1) (v0) (v1) (v2) (Lk.ibits Go.BinOp.or Go.IntKind.u64 v6 (Go.IntKind.u64.wrap (Go.IntKind.u64.wrap (↑(UInt8.toNat (v0.getD (Go.IntKind.i64.wrap (v1 + v27)).toNat (0 : UInt8))) : Int) * (2 : Int) ^ Min.min (Go.IntKind.i64.wrap ((8 : Int) * v27)).toNat Go.IntKind.u64.bits))) (v26) (Go.IntKind.i64.wrap (v27 + (1 : Int))))
      none)
     none)
    none)
   (some (v6, Go.IntKind.i64.wrap (v1 + v2), (0 : Int), ()))) := by kernel_rfl
theorem f27_eq (n : Nat) (a0 : List (UInt8)) (a1 : Int) : f27 (n + 1) a0 a1 =
  (obind (f38 n (a0) (a1) ((8 : Int))) fun r67 =>
   (some (r67.fst, r67.snd.fst, r67.snd.snd.fst, ()))) := by kernel_rfl
theorem f28_eq (n : Nat) (a0 : List (UInt8)) (a1 : Int) : f28 (n + 1) a0 a1 =
  (obind (f38 n (a0) (a1) ((4 : Int))) fun r67 =>
   (some (Go.IntKind.u32.wrap r67.fst, r67.snd.fst, r67.snd.snd.fst, ()))) := by kernel_rfl
theorem f15_eq (n : Nat) (a0 : List (UInt8)) : f15 (n + 1) a0 =
  (sel (Decidable.decide ((↑a0.length : Int) < (12 : Int)))
   (some ((0 : Int), (0 : Int), (41 : Int), ()))
   (obind (f27 n (a0) ((0 : Int))) fun r146 =>
    (obind (f28 n (a0) ((8 : Int))) fun r209 =>
     (some (r146.fst, Go.IntKind.i64.wrap r209.fst, (0 : Int), ()))))) := by kernel_rfl
theorem f18_eq (n : Nat) (a0 : Int) (a1 : Int) : f18 (n + 1) a0 a1 =
  (sel (Decidable.decide (a0 ≤ (72057594037927935 : Int)))
   (sel (Decidable.decide (a1 < (1 : Int)))
    (some (Bool.true, ()))
    (some (Decidable.decide (Go.IntKind.u64.wrap (Go.IntKind.i64.wrap (a1 - (1 : Int))) ≤ Go.IntKind.u64.wrap ((72057594037927935 : Int) - a0)), ())))
   (some (Bool.false, ()))) := by kernel_rfl
theorem f48_eq (n : Nat) (a0 : List UInt8) : f48 (n + 1) a0 =
  (obind (f51 n (Go.IntKind.u64.wrap (↑a0.length : Int))) fun r60 =>
   (some (Go.IntKind.i64.wrap (r60.fst + (↑a0.length : Int)), ()))) := by kernel_rfl
theorem f33_eq (n : Nat) (a0 : (Int × (List UInt8 × (List UInt8 × Unit)))) : f33 (n + 1) a0 =
  (sel ((Option.some a0).isSome)
   (sel (Decidable.decide ((↑(List.length ((Option.some a0).getD ((0 : Int), [], [], ())).snd.fst) : Int) < (1 : Int)))
    (p33_2050 (n) (n) (Option.some a0) (Bool.true))
    (sel ((Option.some a0).isSome)
     (p33_2050 (n) (n) (Option.some a0) (Decidable.decide ((↑(List.length ((Option.some a0).getD ((0 : Int), [], [], ())).snd.fst) : Int) > (1024 : Int))))
     none))
   none) := by kernel_rfl
theorem p33_2050_eq (j : Nat) (n0 : Nat) (v1 : Option ((Int × (List UInt8 × (List UInt8 × Unit))))) (v12 : Bool) : p33_2050 (j + 1) n0 v1 v12 =
  (sel (v12)
   (some (Bool.false, ()))
   (p33_3 (n0) (n0) (v1))) := by kernel_rfl
theorem p33_3_eq (j : Nat) (n0 : Nat) (v1 : Option ((Int × (List UInt8 × (List UInt8 × Unit))))) : p33_3 (j + 1) n0 v1 =
  (sel (v1.isSome)
   (sel ((v1.getD ((0 : Int), [], [], ())).fst == (0 : Int))
    (sel (v1.isSome)
     (some ((v1.getD ((0 : Int), [], [], ())).snd.snd.fst == [], ()))
     none)
    (sel ((v1.getD ((0 : Int), [], [], ())).fst == (1 : Int))
     (sel (v1.isSome)
      (some (Decidable.decide ((↑(List.length (v1.getD ((0 : Int), [], [], ())).snd.snd.fst) : Int) ≤ (65536 : Int)), ()))
      none)
     (sel ((v1.getD ((0 : Int), [], [], ())).fst == (2 : Int))
      (sel (v1.isSome)
       (sel (Decidable.decide ((↑(List.length (v1.getD ((0 : Int), [], [], ())).snd.snd.fst) : Int) ≤ (1024 : Int)))
        (sel (v1.isSome)
         (sel (v1.isSome)
          (some (Go.Op.bytesLess (v1.getD ((0 : Int), [], [], ())).snd.fst (v1.getD ((0 : Int), [], [], ())).snd.snd.fst, ()))
          none)
         none)
        (some (Bool.false, ())))
       none)
      (some (Bool.false, ())))))
   none) := by kernel_rfl
theorem f32_eq (n : Nat) (a0 : (Int × (List UInt8 × (List UInt8 × Unit)))) : f32 (n + 1) a0 =
  (sel ((Option.some a0).isSome)
   (obind (f33 n ((Option.some a0).getD ((0 : Int), [], [], ()))) fun r53 =>
    (some (!r53.fst, ())))
   none) := by kernel_rfl
theorem f31_eq (n : Nat) (a0 : List ((Int × (List UInt8 × (List UInt8 × Unit))))) (a1 : Unit) : f31 (n + 1) a0 a1 =
  (p31_2 (n) (n) (a0) (a1) ((↑a0.length : Int)) ((0 : Int))) := by kernel_rfl
theorem p31_2_eq (j : Nat) (n0 : Nat) (v0 : List ((Int × (List UInt8 × (List UInt8 × Unit))))) (v1 : Unit) (v7 : Int) (v8 : Int) : p31_2 (j + 1) n0 v0 v1 v7 v8 =
  (sel (Decidable.decide (v8 < v7))
   (sel (Decidable.decide ((0 : Int) ≤ v8))
    (sel (Decidable.decide (v8 < (↑v0.length : Int)))
     (obind (f32 j (v0.getD v8.toNat ((0 : Int), [], [], ()))) fun r168 =>
      (sel (r168.fst)
       (some (v8, ()))
       (p31_2 (j) (n0) (v0) (v1) (v7) (Go.IntKind.i64.wrap (v8 + (1 : Int))))))
     none)
    none)
   (some ((-1 : Int), ()))) := by kernel_rfl
theorem f40_eq (n : Nat) (a0 : (Int × (List UInt8 × (List UInt8 × Unit)))) : f40 (n + 1) a0 =
  (sel ((Option.some a0).isSome)
   (obind (f48 n (((Option.some a0).getD ((0 : Int), [], [], ())).snd.fst)) fun r60 =>
    (sel ((Option.some a0).isSome)
     (sel (((Option.some a0).getD ((0 : Int), [], [], ())).fst != (0 : Int))
      (sel ((Option.some a0).isSome)
       (obind (f48 n (((Option.some a0).getD ((0 : Int), [], [], ())).snd.snd.fst)) fun r152 =>
        (p40_4 (n) (n) (Go.IntKind.i64.wrap (Go.IntKind.i64.wrap ((1 : Int) + r60.fst) + r152.fst))))
       none)
      (p40_4 (n) (n) (Go.IntKind.i64.wrap ((1 : Int) + r60.fst))))
     none))
   none) := by kernel_rfl
theorem p40_4_eq (j : Nat) (n0 : Nat) (v3 : Int) : p40_4 (j + 1) n0 v3 =
  (some (v3, ())) := by kernel_rfl
theorem f34_eq (n : Nat) (a0 : List ((Int × (List UInt8 × (List UInt8 × Unit))))) : f34 (n + 1) a0 =
  (p34_3 (n) (n) ((12 : Int)) (a0) ((↑a0.length : Int)) ((0 : Int))) := by kernel_rfl
theorem p34_3_eq (j : Nat) (n0 : Nat) (v3 : Int) (v6 : List ((Int × (List UInt8 × (List UInt8 × Unit))))) (v7 : Int) (v8 : Int) : p34_3 (j + 1) n0 v3 v6 v7 v8 =
  (sel (Decidable.decide (v8 < v7))
   (sel (Decidable.decide ((0 : Int) ≤ v8))
    (sel (Decidable.decide (v8 < (↑v6.length : Int)))
     (sel (Bool.true)
      (sel (Bool.true)
       (obind (f40 j ((Option.some (v6.getD v8.toNat ((0 : Int), [], [], ()))).getD ((0 : Int), [], [], ()))) fun r177 =>
        (p34_3 (j) (n0) (Go.IntKind.i64.wrap (v3 + r177.fst)) (v6) (v7) (Go.IntKind.i64.wrap (v8 + (1 : Int)))))
       none)
      none)
     none)
    none)
   (some (v3, ()))) := by kernel_rfl
theorem f17_eq (n : Nat) (a0 : List ((Int × (List UInt8 × (List UInt8 × Unit))))) : f17 (n + 1) a0 =
  (sel (Decidable.decide ((↑a0.length : Int) > (4096 : Int)))
   (some ((0 : Int), (3 : Int), ()))
   (obind (f31 n (a0) (())) fun r133 =>
    (sel (Decidable.decide (r133.fst ≥ (0 : Int)))
     (some (r133.fst, (40 : Int), ()))
     (obind (f34 n (a0)) fun r247 =>
      (sel (Decidable.decide (r247.fst > (1048576 : Int)))
       (some ((0 : Int), (3 : Int), ()))
       (some ((0 : Int), (0 : Int), ()))))))) := by kernel_rfl
theorem f30_eq (n : Nat) (a0 : List (UInt8)) (a1 : Int) : f30 (n + 1) a0 a1 =
  (sel (Decidable.decide (a1 ≥ (↑a0.length : Int)))
   (sel (Bool.true)
    (sel (Bool.true)
     (some ((Option.some ((0 : Int), [], [], ())).getD ((0 : Int), [], [], ()), (0 : Int), Bool.false, ()))
     none)
    none)
   (sel (Decidable.decide ((0 : Int) ≤ a1))
    (sel (Decidable.decide (a1 < (↑a0.length : Int)))
     (sel (Bool.true)
      (obind (f39 n (a0) (Go.IntKind.i64.wrap (a1 + (1 : Int)))) fun r244 =>
       (sel (r244.snd.snd.fst != (0 : Int))
        (sel (Bool.true)
         (sel (Bool.true)
          (some ((Option.some ((0 : Int), [], [], ())).getD ((0 : Int), [], [], ()), (0 : Int), Bool.false, ()))
          none)
         none)
        (sel (Bool.true)
         (sel (Bool.true)
          (sel (Go.IntKind.i64.wrap (↑(UInt8.toNat (a0.getD a1.toNat (0 : UInt8))) : Int) != (0 : Int))
           (obind (f39 n (a0) (r244.snd.fst)) fun r485 =>
            (sel (Bool.true)
             (p30_10 (n) (n) (Option.some ((0 : Int), [], [], ())) (Option.some (Go.IntKind.i64.wrap (↑(UInt8.toNat (a0.getD a1.toNat (0 : UInt8))) : Int), r244.fst, r485.fst, ())) (r485.snd.fst) (r485.snd.snd.fst))
             none))
           (p30_10 (n) (n) (Option.some ((0 : Int), [], [], ())) (Option.some (Go.IntKind.i64.wrap (↑(UInt8.toNat (a0.getD a1.toNat (0 : UInt8))) : Int), r244.fst, [], ())) (r244.snd.fst) (r244.snd.snd.fst)))
          none)
         none)))
      none)
     none)
    none)) := by kernel_rfl
theorem p30_10_eq (j : Nat) (n0 : Nat) (v4 : Option ((Int × (List UInt8 × (List UInt8 × Unit))))) (v7 : Option ((Int × (List UInt8 × (List UInt8 × Unit))))) (v9 : Int) (v10 : Int) : p30_10 (j + 1) n0 v4 v7 v9 v10 =
  (sel (v7.isSome)
   (sel (v10 == (0 : Int))
    (sel (v7.isSome)
     (obind (f33 j (v7.getD ((0 : Int), [], [], ()))) fun r632 =>
      (sel (v4.isSome)
       (sel (Bool.true)
        (some ((Option.some (v7.getD ((0 : Int), [], [], ()))).getD ((0 : Int), [], [], ()), v9, r632.fst, ()))
        none)
       none))
     none)
    (sel (v4.isSome)
     (sel (Bool.true)
      (some ((Option.some (v7.getD ((0 : Int), [], [], ()))).getD ((0 : Int), [], [], ()), v9, Bool.false, ()))
      none)
     none))
   none) := by kernel_rfl
theorem f29_eq (n : Nat) (a0 : Option (List Lk.BItem)) (a1 : Option (List (UInt8))) : f29 (n + 1) a0 a1 =
  (sel (a1.isSome)
   (obind (f15 n (a1.getD [])) fun r28 =>
    (sel (r28.snd.snd.fst != (0 : Int))
     (some (a0, ()))
     (p29_4 (n) (n) (a0) (a1) (r28.fst) ((12 : Int)) (r28.snd.fst) ((0 : Int)))))
   none) := by kernel_rfl
theorem p29_4_eq (j : Nat) (n0 : Nat) (v0 : Option (List Lk.BItem)) (v1 : Option (List (UInt8))) (v3 : Int) (v6 : Int) (v19 : Int) (v20 : Int) : p29_4 (j + 1) n0 v0 v1 v3 v6 v19 v20 =
  (sel (Decidable.decide (v20 < v19))
   (sel (v1.isSome)
    (obind (f30 j (v1.getD []) (v6)) fun r265 =>
     (sel (Bool.true)
      (sel (!r265.snd.snd.fst)
       (some (v0, ()))
       (sel ((Option.some r265.fst).isSome)
        (obind (yB (v0) ((Go.IntKind.u64.wrap (v3 + Go.IntKind.u64.wrap v20), (Option.some r265.fst).getD ((0 : Int), [], [], ()), r265.snd.fst, ()))) fun r629 =>
         (sel (!r629.fst)
          (some (r629.snd.fst, ()))
          (p29_8 (j) (n0) (j) (r629.snd.fst) (v1) (v3) (r265.snd.fst) (v19) (v20))))
        none))
      none))
    none)
   (some (v0, ()))) := by kernel_rfl
theorem p29_8_eq (j : Nat) (n0 : Nat) (n1 : Nat) (v0 : Option (List Lk.BItem)) (v1 : Option (List (UInt8))) (v3 : Int) (v9 : Int) (v19 : Int) (v20 : Int) : p29_8 (j + 1) n0 n1 v0 v1 v3 v9 v19 v20 =
  (p29_9 (n1) (n0) (n1) (v0) (v1) (v3) (v9) (v19) (v20)) := by kernel_rfl
theorem p29_9_eq (j : Nat) (n0 : Nat) (n1 : Nat) (v0 : Option (List Lk.BItem)) (v1 : Option (List (UInt8))) (v3 : Int) (v6 : Int) (v19 : Int) (v20 : Int) : p29_9 (j + 1) n0 n1 v0 v1 v3 v6 v19 v20 =
  (p29_4 (n1) (n0) (v0) (v1) (v3) (v6) (v19) (Go.IntKind.i64.wrap (v20 + (1 : Int)))) := by kernel_rfl
end RrG
end
section
namespace RrG
open Go Lk RrG
noncomputable def theFnsB : Rb.FnsB where
  f51 := f51
  p51_2 := p51_2
  f47 := f47
  p47_2050 := p47_2050
  p47_3 := p47_3
  p47_4 := p47_4
  p47_2055 := p47_2055
  p47_2056 := p47_2056
  p47_11 := p47_11
  p47_12 := p47_12
  f39 := f39
  f38 := f38
  p38_2050 := p38_2050
  p38_5 := p38_5
  p38_6 := p38_6
  f27 := f27
  f28 := f28
  f15 := f15
  f18 := f18
  f48 := f48
  f33 := f33
  p33_2050 := p33_2050
  p33_3 := p33_3
  f32 := f32
  f31 := f31
  p31_2 := p31_2
  f40 := f40
  p40_4 := p40_4
  f34 := f34
  p34_3 := p34_3
  f17 := f17
  f30 := f30
  p30_10 := p30_10
  f29 := f29
  p29_4 := p29_4
  p29_8 := p29_8
  p29_9 := p29_9
  f51_eq := f51_eq
  p51_2_eq := p51_2_eq
  f47_eq := f47_eq
  p47_2050_eq := p47_2050_eq
  p47_3_eq := p47_3_eq
  p47_4_eq := p47_4_eq
  p47_2055_eq := p47_2055_eq
  p47_2056_eq := p47_2056_eq
  p47_11_eq := p47_11_eq
  p47_12_eq := p47_12_eq
  f39_eq := f39_eq
  f38_eq := f38_eq
  p38_2050_eq := p38_2050_eq
  p38_5_eq := p38_5_eq
  p38_6_eq := p38_6_eq
  f27_eq := f27_eq
  f28_eq := f28_eq
  f15_eq := f15_eq
  f18_eq := f18_eq
  f48_eq := f48_eq
  f33_eq := f33_eq
  p33_2050_eq := p33_2050_eq
  p33_3_eq := p33_3_eq
  f32_eq := f32_eq
  f31_eq := f31_eq
  p31_2_eq := p31_2_eq
  f40_eq := f40_eq
  p40_4_eq := p40_4_eq
  f34_eq := f34_eq
  p34_3_eq := p34_3_eq
  f17_eq := f17_eq
  f30_eq := f30_eq
  p30_10_eq := p30_10_eq
  f29_eq := f29_eq
  p29_4_eq := p29_4_eq
  p29_8_eq := p29_8_eq
  p29_9_eq := p29_9_eq
end RrG
end
section
/-! What the program's walk answers, in plain words. -/
namespace Rs
open Go Lk
theorem xDec_eq (n : Nat) (b : List UInt8) : Rr.xDec n b = (RrG.theFnsB.f15 n b).bind fun h =>
    bif h.2.2.1 == 0 then (RrG.theFnsB.f29 n (some []) (some b)).bind fun y => match y.1 with
      | none => none
      | some l => (RrG.theFnsB.f17 n (l.map (·.2.1))).bind fun c =>
        (RrG.theFnsB.f18 n h.1 h.2.1).bind fun f => some (bif !(c.2.1 == 0) || !((l.length : Int) == h.2.1) || !(Rr.lastOf 12 (l.map (·.2.2.1)) == (b.length : Int)) || !f.1 then (41 : Int) else 0)
    else some h.2.2.1 := by
  show _ = (RrG.f15 n b).bind fun h =>
    bif h.2.2.1 == 0 then (RrG.f29 n (some []) (some b)).bind fun y => match y.1 with
      | none => none
      | some l => (RrG.f17 n (l.map (·.2.1))).bind fun c =>
        (RrG.f18 n h.1 h.2.1).bind fun f => some (bif !(c.2.1 == 0) || !((l.length : Int) == h.2.1) || !(Rr.lastOf 12 (l.map (·.2.2.1)) == (b.length : Int)) || !f.1 then (41 : Int) else 0)
    else some h.2.2.1
  unfold RrG.f15 RrG.f29 RrG.f17 RrG.f18
  rfl
theorem xRead_eq (n : Nat) (block : Int) (b : List UInt8) : Rr.xRead n block b = (RrG.theFnsJ.f14 n (some (block, b, 0, [], false, ())) (some [])).bind fun r => r.2.2.1.map fun l => (l.map (·.2), r.1) := by
  show _ = (RrG.f14 n (some (block, b, 0, [], false, ())) (some [])).bind fun r => r.2.2.1.map fun l => (l.map (·.2), r.1)
  unfold RrG.f14
  rfl
theorem xDec_ok (b : List UInt8) (hl : b.length ≤ 1048576) (n : Nat) (hn : 2200000 ≤ n) : ∃ e, Rr.xDec n b = some e ∧ (e == 0) = decB b := by
  have h15 := f15 RrG.theFnsB b n (by omega) (by omega)
  rw [xDec_eq]
  unfold decB
  rw [h15]
  by_cases h12 : b.length < 12
  · rw [if_pos h12, Option.bind_some]
    refine ⟨41, rfl, ?_⟩
    rw [decide_eq_false (show ¬ 12 ≤ b.length by omega)]; rfl
  rw [if_neg h12, Option.bind_some, decide_eq_true (show 12 ≤ b.length by omega), Bool.true_and]
  have h4 := leN_lt b 8 4
  have hp4 : (256 : Nat) ^ 4 = 4294967296 := by decide
  have h8 := leN_lt b 0 8
  have hp8 : (256 : Nat) ^ 8 = 18446744073709551616 := by decide
  obtain ⟨l, e1, e2, e3⟩ := f29 RrG.theFnsB b hl (by omega) n (by omega)
  have hch : Chain b 12 (opsB b) := walk_chain hl (b.length + 1) 12 (leN b 8 4)
  obtain ⟨k, e17⟩ := f17 RrG.theFnsB b hl (opsB b) hch (by omega) n hn
  have e18 := f18 RrG.theFnsB n (leN b 0 8) (leN b 8 4) (by omega) (by omega) (by omega)
  simp only
  rw [show ((0 : Int) == 0) = true from rfl, cond_true, e1, Option.bind_some]
  simp only
  rw [e2, e17, Option.bind_some, e18, Option.bind_some]
  have hll : l.length = (opsB b).length := by have := congrArg List.length e2; rwa [List.length_map, List.length_map] at this
  refine ⟨_, rfl, ?_⟩
  simp only
  rw [e3, show Rr.lastOf 12 ((opsB b).map fun x => ((x.2 : Nat) : Int)) = ((endOf 12 (opsB b) : Nat) : Int) from lastOf_end 12 _, hll]
  generalize fitS (leN b 0 8) (leN b 8 4) = f
  generalize opsB b = o
  generalize leN b 8 4 = c
  by_cases g1 : o.length ≤ 4096
  · rw [if_neg (by omega), decide_eq_true g1, show ((0 : Int) == 0) = true from rfl]
    by_cases g2 : o.length = c
    · rw [decide_eq_true g2, show ((o.length : Int) == (c : Int)) = true by rw [g2]; exact beq_self_eq_true _]
      by_cases g3 : endOf 12 o = b.length
      · rw [decide_eq_true g3, show (((endOf 12 o : Nat) : Int) == (b.length : Int)) = true by rw [g3]; exact beq_self_eq_true _]
        cases f <;> rfl
      · rw [decide_eq_false g3, show (((endOf 12 o : Nat) : Int) == (b.length : Int)) = false from beq_eq_false_iff_ne.2 (by omega)]
        cases f <;> rfl
    · rw [decide_eq_false g2, show ((o.length : Int) == (c : Int)) = false from beq_eq_false_iff_ne.2 (by omega)]
      generalize (((endOf 12 o : Nat) : Int) == (b.length : Int)) = z
      generalize decide (endOf 12 o = b.length) = z2
      cases f <;> cases z <;> cases z2 <;> rfl
  · rw [if_pos (by omega), decide_eq_false g1, show ((3 : Int) == 0) = false from rfl]
    generalize (((endOf 12 o : Nat) : Int) == (b.length : Int)) = z
    generalize decide (endOf 12 o = b.length) = z2
    generalize ((o.length : Int) == (c : Int)) = z3
    generalize decide (o.length = c) = z4
    cases f <;> cases z <;> cases z2 <;> cases z3 <;> cases z4 <;> rfl
theorem xRead_ok (n B : Nat) (file : List UInt8) (hB : 32 ≤ B ∧ B ≤ 32768) (hfl : file.length ≤ 1048576) (hn : 2 * file.length + 200 ≤ n) :
    Rr.xRead n (B : Int) file = some ((recs B file (file.length + 1) 0 [] false).1.map (·.1), (recs B file (file.length + 1) 0 [] false).2) := by
  obtain ⟨rd, e⟩ := f14 RrG.theFnsJ n B file hB hfl hn
  rw [xRead_eq, e, Option.bind_some]
  simp only [Option.map_some, List.map_map]
  rfl
end Rs
end
section
/-! Replay's walk answers so. Plain. -/
namespace Rs
open Go Lk
theorem inner_ok (n : Nat) (hn : 2200000 ≤ n) : ∀ (l : List (List UInt8)), (∀ x ∈ l, List.length (α := UInt8) x ≤ 1048576) → Rr.inner n l = some (l.all decB)
  | [], _ => rfl
  | x :: l, h => by
    obtain ⟨e, e1, e2⟩ := xDec_ok x (h x (List.mem_cons_self ..)) n hn
    simp only [Rr.inner]
    rw [e1, Option.bind_some, e2, List.all_cons]
    cases decB x with
    | false => rfl
    | true => rw [cond_true, Bool.true_and]; exact inner_ok n hn l fun y hy => h y (List.mem_cons_of_mem _ hy)
theorem outer_ok (n B : Nat) (hn : 2300000 ≤ n) (hB : 32 ≤ B ∧ B ≤ 32768) : ∀ (l out : List (List UInt8)), out.length + tot l ≤ 1048576 → Rr.outer n (B : Int) l out = some (outP B l out)
  | [], _, _ => rfl
  | f :: fs, out, h => by
    simp only [tot] at h
    obtain ⟨r1, r2⟩ := rc_bd B hB.1 f
    have hx : Rr.xRead n (B : Int) f = some (rc B f, rh B f) := xRead_ok n B f hB (by omega) (by omega)
    simp only [Rr.outer, outP]
    rw [hx, Option.bind_some]
    simp only
    rw [inner_ok n (by omega) (rc B f) (fun x hx => by have := r2 x hx; omega), Option.bind_some, Nat.ble_eq_true_of_le (by omega), cond_true]
    cases (rc B f).all decB with
    | false => rw [cond_false, if_neg (by decide)]
    | true =>
      rw [cond_true, if_pos rfl]
      by_cases hh : rh B f = 0
      · rw [if_pos hh, show (rh B f == 0) = true from beq_iff_eq.2 hh, cond_true]
        exact outer_ok n B hn hB fs _ (by rw [List.length_append]; omega)
      · rw [if_neg hh, show (rh B f == 0) = false from beq_eq_false_iff_ne.2 hh, cond_false]
end Rs
end
section
/-! Replay, as L has it. -/
namespace Rr
open Go Go.RowKit Go.Proofs
set_option maxRecDepth 100000 in
theorem replay_bad (w : World) (block : Int) (hb : isBlk block = false) (v0 : Value) :
    Calls Tryd.prog 4 #[.int .i64 block, v0] w fun e w' => e = .returned (.tuple #[.slice none 0 0, .bool false]) ∧ w' = w := by
  go_enter Tryd.func4, Tryd.ntmps4
  have hb' : ¬ (32 ≤ block ∧ block ≤ 32768) := by
    rintro ⟨h1, h2⟩
    rw [isBlk, decide_eq_true h1, decide_eq_true h2] at hb
    cases hb
  go_wp2
  all_goals first | omega | skip
  all_goals (go_ret2; exact ⟨rfl, rfl⟩)
theorem ok_replay (n : Nat) : Lk.FnOk (τ := t0) (Kw := kw) Tryd.prog 4 ⟨[(.i .i64, .r), (.l (.l .by), .b)], [(.l (.l .by), .o (.o .r)), (.b, .r)], 2⟩ (fun x => bif isBlk x.1 then (outer n x.1 x.2.1 []).map (fun r => (r.1, r.2, ())) else some ([], false, ())) := by
  rintro ⟨block, logs, _⟩ res hx w S Sb ads hK hs ha hargs
  obtain ⟨s1, ads1, rfl, ha1⟩ := ads_cons ha
  obtain ⟨s2, ads2, rfl, ha2⟩ := ads_cons ha1
  obtain rfl := ads_nil ha2
  have h2 : Lk.Rd t0 (fun b => S b ∨ Sb b) w (.l (.l .by)) logs [s2.hd] := hargs.hold _ (List.mem_cons_of_mem _ (List.mem_cons_self ..))
  have hx : (bif isBlk block then (outer n block logs []).map (fun r => (r.1, r.2, ())) else some ([], false, ())) = some res := hx
  refine (show Calls Tryd.prog 4 #[.int .i64 block, s2.hd] w _ from ?_)
  have key : ∀ (r : List (List UInt8) × Bool), res = (r.1, r.2, ()) → ∀ (e : Ending) (w' : World), (∃ v, e = .returned (.tuple #[v, .bool r.2]) ∧ OutAt w w' r.1 v) → ∃ v, e = .returned v ∧ Lk.Ext (Lk.blsOf [⟨.i .i64, .r, block, s1⟩, ⟨.l (.l .by), .b, logs, s2⟩]) w w' ∧ Lk.ResAre (τ := t0) w w' S (Lk.blsOf [⟨.i .i64, .r, block, s1⟩, ⟨.l (.l .by), .b, logs, s2⟩]) (Lk.avs [(.l (.l .by), .o (.o .r)), (.b, .r)] res) 2 [⟨.i .i64, .r, block, s1⟩, ⟨.l (.l .by), .b, logs, s2⟩] v := by
    rintro ⟨l, ok⟩ rfl e w' ⟨v, rfl, sh, rfl, g1, g2, g3, g4⟩
    have hbl : Lk.blsOf [⟨.i .i64, .r, block, s1⟩, ⟨.l (.l .by), .b, logs, s2⟩] = [] := by simp [Lk.blsOf, Lk.DV.bl, Lk.bl]
    have hlt := Lk.hold_lt t0 _ _ _ _ g1
    refine ⟨_, rfl, by rw [hbl]; exact g4, ⟨[⟨.l (.l .by), .o (.o .r), l, sh⟩, ⟨.b, .r, ok, ()⟩], S, rfl, fun _ h => h, fun _ h => .inl h, fun b hb => Nat.lt_of_lt_of_le (hs b (.inl hb)) g4.size, ?_, ?_, ?_, rfl, rfl⟩⟩
    · intro d hd
      rcases List.mem_cons.1 hd with rfl | hd
      · exact Lk.hold_keep t0 (S := F0) (Sb := F0) (fun _ h => h.elim) (fun _ h => h.elim) _ _ _ _ (fun b hb => rfl) g1
      · obtain rfl := List.mem_singleton.1 hd
        rfl
    · have : Lk.blsOf [⟨.l (.l .by), .o (.o .r), l, sh⟩, ⟨.b, .r, ok, ()⟩] = Lk.bl RowT RowM l sh := by simp [Lk.blsOf, Lk.DV.bl, Lk.bl, RowT, RowM]
      rw [this]; exact g2
    · have : Lk.blsOf [⟨.l (.l .by), .o (.o .r), l, sh⟩, ⟨.b, .r, ok, ()⟩] = Lk.bl RowT RowM l sh := by simp [Lk.blsOf, Lk.DV.bl, Lk.bl, RowT, RowM]
      rw [this]
      intro b hb
      exact ⟨.inr (g3 b hb), hlt b hb, fun h => by have := hs b (.inl h); have := g3 b hb; omega⟩
  cases hb : isBlk block with
  | false =>
    rw [hb, cond_false] at hx
    cases hx
    refine (replay_bad w block hb _).mono ?_
    rintro e w' ⟨rfl, rfl⟩
    exact key ([], false) rfl _ _ ⟨_, rfl, .nil _⟩
  | true =>
    rw [hb, cond_true] at hx
    obtain ⟨r, hr, rfl⟩ := Option.map_eq_some_iff.1 hx
    obtain ⟨la, lc, q⟩ : ∃ la lc, s2.hd = .slice la logs.length lc := by
      simp only [Lk.Rd] at h2
      obtain ⟨a, cap, e, _⟩ := h2
      exact ⟨a, cap, by simpa using e⟩
    rw [q] at h2 ⊢
    exact (replay_any n w hK block hb logs r hr la _ lc _ h2 hs).mono fun e w' h => key r rfl e w' h
end Rr
end
