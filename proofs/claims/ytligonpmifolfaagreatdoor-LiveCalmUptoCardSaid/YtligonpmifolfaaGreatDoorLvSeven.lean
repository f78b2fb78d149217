import Derived.Test.YtligonpmifolfaaGreatDoorLvFive
import Derived.Test.YtligonpmifolfaaGreatDoorLvFour
import Derived.Test.YtligonpmifolfaaGreatDoorLkThree
set_option linter.all false
section
namespace LvG
open Go Lk
set_option linter.unusedVariables false
@[irreducible] noncomputable def f7 (n : Nat) (a0 : List (List Lk.LFile)) : Option (Option Lk.LiveS × Unit) := F G n 7 (a0, ())
theorem f7_eq (n : Nat) (a0 : List (List Lk.LFile)) : f7 n a0 = Lv.xNew a0 := by kernel_rfl
@[irreducible] noncomputable def f14 (n : Nat) (a0 : List (List Lk.LFile)) : Option (Bool × Unit) := F G n 14 (a0, ())
theorem f14_eq (n : Nat) (a0 : List (List Lk.LFile)) : f14 n a0 = some (Lv.validM a0, ()) := by kernel_rfl
@[irreducible] noncomputable def f16 (n : Nat) (a0 : Option Lk.LiveS) : Option (Int × List (List Lk.LFile) × Unit) := F G n 16 (a0, ())
theorem f16_eq (n : Nat) (a0 : Option Lk.LiveS) : f16 n a0 = Lv.xCurrent a0 := by kernel_rfl
@[irreducible] noncomputable def f17 (n : Nat) (a0 : Option Lk.LiveS) (a1 : Int) : Option (Int × Unit) := F G n 17 (a0, a1, ())
theorem f17_eq (n : Nat) (a0 : Option Lk.LiveS) (a1 : Int) : f17 n a0 a1 = Lv.xRefs a0 a1 := by kernel_rfl
@[irreducible] noncomputable def f18 (n : Nat) (a0 : Option Lk.LiveS) (a1 : Int) : Option (Int × Option Lk.LiveS × Unit) := F G n 18 (a0, a1, ())
theorem f18_eq (n : Nat) (a0 : Option Lk.LiveS) (a1 : Int) : f18 n a0 a1 = Lv.xDrop a0 a1 := by kernel_rfl
@[irreducible] noncomputable def f19 (n : Nat) (a0 : Option Lk.LiveS) (a1 : Int) : Option (Int × Option Lk.LiveS × Unit) := F G n 19 (a0, a1, ())
theorem f19_eq (n : Nat) (a0 : Option Lk.LiveS) (a1 : Int) : f19 n a0 a1 = Lv.xEnd a0 a1 := by kernel_rfl
@[irreducible] noncomputable def f20 (n : Nat) (a0 : Option Lk.LiveS) : Option (Int × Unit) := F G n 20 (a0, ())
theorem f20_eq (n : Nat) (a0 : Option Lk.LiveS) : f20 n a0 = Lv.xLen a0 := by kernel_rfl
@[irreducible] noncomputable def f22 (n : Nat) (a0 : Option Lk.LiveS) : Option (List Int × Unit) := F G n 22 (a0, ())
theorem f22_eq (n : Nat) (a0 : Option Lk.LiveS) : f22 n a0 = Lv.xTables a0 := by kernel_rfl
@[irreducible] noncomputable def f23 (n : Nat) (a0 : List (List Lk.LFile)) : Option (List Int × Unit) := F G n 23 (a0, ())
theorem f23_eq (n : Nat) (a0 : List (List Lk.LFile)) : f23 n a0 = bif Lv.smallN a0 then some (LvS1.numsM a0, ()) else none := by kernel_rfl
@[irreducible] noncomputable def f27 (n : Nat) (a0 : Option Lk.LiveS) : Option (Int × Option Lk.LiveS × Unit) := F G n 27 (a0, ())
theorem f27_eq (n : Nat) (a0 : Option Lk.LiveS) : f27 n a0 = Lv.xHold a0 := by kernel_rfl
@[irreducible] noncomputable def f33 (n : Nat) (a0 : Option Lk.LiveS) (a1 : List (List Lk.LFile)) : Option (Int × Option Lk.LiveS × Unit) := F G n 33 (a0, a1, ())
theorem f33_eq (n : Nat) (a0 : Option Lk.LiveS) (a1 : List (List Lk.LFile)) : f33 n a0 a1 = Lv.xInstall a0 a1 := by kernel_rfl
@[irreducible] noncomputable def f38 (n : Nat) (a0 : Option Lk.LiveS) (a1 : Int) : Option (Int × Option Lk.LiveS × Unit) := F G n 38 (a0, a1, ())
theorem f38_eq (n : Nat) (a0 : Option Lk.LiveS) (a1 : Int) : f38 n a0 a1 = Lv.xBegin a0 a1 := by kernel_rfl
@[irreducible] noncomputable def f49 (n : Nat) (a0 : Option Lk.LiveS) : Option (Bool × Unit) := F G n 49 (a0, ())
theorem f49_eq (n : Nat) (a0 : Option Lk.LiveS) : f49 n a0 = Lv.xNone a0 := by kernel_rfl
@[irreducible] noncomputable def f56 (n : Nat) (a0 : List UInt8) : Option (Int × Bool × Unit) := F G n 56 (a0, ())
theorem f56_eq (n : Nat) (a0 : List UInt8) : f56 n a0 = bif Nat.ble a0.length 2147483648 then some ((NqG.atoi a0).1, (NqG.atoi a0).2, ()) else none := by kernel_rfl
@[irreducible] noncomputable def f59 (n : Nat) (a0 : List Int) (a1 : Int) : Option (Int × Bool × Unit) := F G n 59 (a0, a1, ())
theorem f59_eq (n : Nat) (a0 : List Int) (a1 : Int) : f59 n a0 a1 = bif Nat.ble (List.length a0) 1073741824 && decide (a0.Pairwise (· ≤ ·)) then some ((a0.countP (fun y => decide (y < a1)) : Int), a0.contains a1, ()) else none := by kernel_rfl
@[irreducible] noncomputable def f80 (n : Nat) (a0 : List (List UInt8)) : Option (List (List UInt8) × Unit) := F G n 80 (a0, ())
theorem f80_eq (n : Nat) (a0 : List (List UInt8)) : f80 n a0 = bif Nat.ble (List.length a0) 1073741824 then some (a0, ()) else none := by kernel_rfl
@[irreducible] noncomputable def f109 (n : Nat) (a0 : Int) : Option (List UInt8 × Unit) := F G n 109 (a0, ())
theorem f109_eq (n : Nat) (a0 : Int) : f109 n a0 = bif decide (-9223372036854775808 ≤ a0) && decide (a0 ≤ 9223372036854775807) then some (Lib.itoa a0, ()) else none := by kernel_rfl
@[irreducible] noncomputable def f110 (n : Nat) (a0 : List UInt8) (a1 : Int) : Option (List UInt8 × Unit) := F G n 110 (a0, a1, ())
theorem f110_eq (n : Nat) (a0 : List UInt8) (a1 : Int) : f110 n a0 a1 = bif decide (0 ≤ a1) && decide (a1 ≤ 1073741824) && Nat.ble a0.length 100 then some (Lib.repeatL a0 a1.toNat, ()) else none := by kernel_rfl
@[irreducible] noncomputable def f4 (n : Nat) (a0 : AbL) (a1 : List AbA) (a2 : List (List UInt8)) : Option (Bool × Unit) := F G n 4 (a0, a1, a2, ())
@[irreducible] noncomputable def p4_7 (j n0 : Nat) (v1 : List AbA) (v2 : List (List UInt8)) (v7 : Option Lk.LiveS) (v8 : Int) : Option (Bool × Unit) := piece G 4 [.r, .r, .r, .r, .l, .r, .b] j [n0] (skel 134 0 [(1, .av ⟨(.l TyA), .b, v1⟩), (2, .av ⟨(.l .s), .b, v2⟩), (7, .av ⟨(.a 1), (.o .r), v7⟩), (8, aI v8)])
@[irreducible] noncomputable def p4_12 (j n0 : Nat) (v1 : List AbA) (v2 : List (List UInt8)) (v7 : Option Lk.LiveS) (v9 : Int) (v10 : AbL) (v11 : Int) : Option (Bool × Unit) := piece G 4 [.r, .r, .r, .r, .r, .r, .l, .r, .b] j [n0] (skel 134 0 [(1, .av ⟨(.l TyA), .b, v1⟩), (2, .av ⟨(.l .s), .b, v2⟩), (7, .av ⟨(.a 1), (.o .r), v7⟩), (9, aI v9), (10, .av ⟨TyL, (.o (.o MdF)), v10⟩), (11, aI v11)])
@[irreducible] noncomputable def p4_15 (j n0 n1 : Nat) (v1 : List AbA) (v2 : List (List UInt8)) (v7 : Option Lk.LiveS) (v9 : Int) (v10 : AbL) (v11 : Int) (v12 : Int) : Option (Bool × Unit) := piece G 4 [.r, .r, .r, .r, .r, .r, .l, .r, .b, .o, .r, .l, .b, .r, .b] j [n0, n1] (skel 134 0 [(1, .av ⟨(.l TyA), .b, v1⟩), (2, .av ⟨(.l .s), .b, v2⟩), (7, .av ⟨(.a 1), (.o .r), v7⟩), (9, aI v9), (10, .av ⟨TyL, (.o (.o MdF)), v10⟩), (11, aI v11), (12, aI v12)])
@[irreducible] noncomputable def p4_20 (j n0 : Nat) (v1 : List AbA) (v2 : List (List UInt8)) (v7 : Option Lk.LiveS) (v10 : AbL) (v13 : Int) : Option (Bool × Unit) := piece G 4 [.r, .r, .r, .r, .r, .r, .r, .l, .r, .b] j [n0] (skel 134 0 [(1, .av ⟨(.l TyA), .b, v1⟩), (2, .av ⟨(.l .s), .b, v2⟩), (7, .av ⟨(.a 1), (.o .r), v7⟩), (10, .av ⟨TyL, (.o (.o MdF)), v10⟩), (13, aI v13)])
@[irreducible] noncomputable def p4_2072 (j n0 : Nat) (v2 : List (List UInt8)) (v7 : Option Lk.LiveS) (v10 : AbL) (v87 : Bool) : Option (Bool × Unit) := piece G 4 [.r, .r, .r, .r, .r, .r, .r, .r, .l, .r] j [n0] (skel 134 0 [(2, .av ⟨(.l .s), .b, v2⟩), (7, .av ⟨(.a 1), (.o .r), v7⟩), (10, .av ⟨TyL, (.o (.o MdF)), v10⟩), (87, .av ⟨.b, .r, v87⟩)])
@[irreducible] noncomputable def p4_25 (j n0 : Nat) (v2 : List (List UInt8)) (v7 : Option Lk.LiveS) (v10 : AbL) : Option (Bool × Unit) := piece G 4 [.r, .r, .r, .r, .r, .r, .r, .r, .r] j [n0] (skel 134 0 [(2, .av ⟨(.l .s), .b, v2⟩), (7, .av ⟨(.a 1), (.o .r), v7⟩), (10, .av ⟨TyL, (.o (.o MdF)), v10⟩)])
@[irreducible] noncomputable def p4_27 (j n0 n1 : Nat) (v2 : List (List UInt8)) (v7 : Option Lk.LiveS) (v10 : AbL) (v14 : Int) (v15 : Int) : Option (Bool × Unit) := piece G 4 [.r, .r, .r, .r, .r, .r, .r, .r, .r, .r, .l, .r, .b] j [n0, n1] (skel 134 0 [(2, .av ⟨(.l .s), .b, v2⟩), (7, .av ⟨(.a 1), (.o .r), v7⟩), (10, .av ⟨TyL, (.o (.o MdF)), v10⟩), (14, aI v14), (15, aI v15)])
@[irreducible] noncomputable def p4_2080 (j n0 n1 n2 : Nat) (v2 : List (List UInt8)) (v7 : Option Lk.LiveS) (v10 : AbL) (v14 : Int) (v15 : Int) (v122 : Bool) : Option (Bool × Unit) := piece G 4 [.r, .r, .r, .r, .r, .r, .r, .r, .r, .r, .l, .r, .b, .o, .r, .l, .b, .r, .r, .r] j [n0, n1, n2] (skel 134 0 [(2, .av ⟨(.l .s), .b, v2⟩), (7, .av ⟨(.a 1), (.o .r), v7⟩), (10, .av ⟨TyL, (.o (.o MdF)), v10⟩), (14, aI v14), (15, aI v15), (122, .av ⟨.b, .r, v122⟩)])
@[irreducible] noncomputable def p4_28 (j n0 n1 n2 : Nat) (v2 : List (List UInt8)) (v7 : Option Lk.LiveS) (v10 : AbL) (v14 : Int) (v15 : Int) : Option (Bool × Unit) := piece G 4 [.r, .r, .r, .r, .r, .r, .r, .r, .r, .r, .l, .r, .b, .o, .r, .r] j [n0, n1, n2] (skel 134 0 [(2, .av ⟨(.l .s), .b, v2⟩), (7, .av ⟨(.a 1), (.o .r), v7⟩), (10, .av ⟨TyL, (.o (.o MdF)), v10⟩), (14, aI v14), (15, aI v15)])
@[irreducible] noncomputable def p6_3 (j n0 : Nat) (v0 : AbL) (v3 : AbL) (v4 : Int) : Option (AbL × Unit) := piece G 6 [.r, .r, .l, .r, .b] j [n0] (skel 22 0 [(0, .av ⟨TyL, .b, v0⟩), (3, .av ⟨TyL, (.o (.o MdF)), v3⟩), (4, aI v4)])
@[irreducible] noncomputable def f13 (n : Nat)  : Option (Bool × Unit) := F G n 13 (())
@[irreducible] noncomputable def p13_2051 (j n0 : Nat) (v1 : Option Lk.LiveS) (v32 : Bool) : Option (Bool × Unit) := piece G 13 [.r, .r, .l, .r] j [n0] (skel 52 0 [(1, .av ⟨(.a 1), (.o .r), v1⟩), (32, .av ⟨.b, .r, v32⟩)])
@[irreducible] noncomputable def p13_4 (j n0 : Nat) (v1 : Option Lk.LiveS) : Option (Bool × Unit) := piece G 13 [.r, .r, .r] j [n0] (skel 52 0 [(1, .av ⟨(.a 1), (.o .r), v1⟩)])
@[irreducible] noncomputable def f15 (n : Nat) (a0 : Option Lk.LiveS) (a1 : AbA) : Option (Option Lk.LiveS × Unit) := F G n 15 (a0, a1, ())
@[irreducible] noncomputable def f21 (n : Nat) (a0 : List (Int)) (a1 : List (Int)) : Option (Bool × Unit) := F G n 21 (a0, a1, ())
@[irreducible] noncomputable def p21_4 (j n0 : Nat) (v0 : List (Int)) (v1 : List (Int)) (v5 : Int) : Option (Bool × Unit) := piece G 21 [.r, .r, .l, .r, .b] j [n0] (skel 26 0 [(0, .av ⟨(.l (.i .i64)), .b, v0⟩), (1, .av ⟨(.l (.i .i64)), .b, v1⟩), (5, aI v5)])
@[irreducible] noncomputable def f24 (n : Nat) (a0 : List UInt8) : Option (Int × Int × Int × Unit) := F G n 24 (a0, ())
@[irreducible] noncomputable def p24_7 (j n0 : Nat) (v0 : List UInt8) (v2 : Int) (v5 : List UInt8) : Option (Int × Int × Int × Unit) := piece G 24 [.r, .r, .r, .r] j [n0] (skel 67 0 [(0, .av ⟨.s, .r, v0⟩), (2, aI v2), (5, .av ⟨.s, .r, v5⟩)])
@[irreducible] noncomputable def p24_8 (j n0 n1 : Nat) (v0 : List UInt8) (v2 : Int) (v5 : List UInt8) (v24 : List (Int)) (v25 : Int) (v26 : Int) : Option (Int × Int × Int × Unit) := piece G 24 [.r, .r, .r, .r, .l, .r, .b] j [n0, n1] (skel 67 0 [(0, .av ⟨.s, .r, v0⟩), (2, aI v2), (5, .av ⟨.s, .r, v5⟩), (24, .av ⟨(.l (.i .i64)), (.o .r), v24⟩), (25, aI v25), (26, aI v26)])
@[irreducible] noncomputable def p24_2060 (j n0 n1 n2 : Nat) (v0 : List UInt8) (v2 : Int) (v5 : List UInt8) (v9 : Int) (v10 : List UInt8) (v24 : List (Int)) (v25 : Int) (v26 : Int) (v41 : Bool) : Option (Int × Int × Int × Unit) := piece G 24 [.r, .r, .r, .r, .l, .r, .b, .o, .r, .r, .l, .b, .r, .r, .r] j [n0, n1, n2] (skel 67 0 [(0, .av ⟨.s, .r, v0⟩), (2, aI v2), (5, .av ⟨.s, .r, v5⟩), (9, aI v9), (10, .av ⟨.s, .r, v10⟩), (24, .av ⟨(.l (.i .i64)), (.o .r), v24⟩), (25, aI v25), (26, aI v26), (41, .av ⟨.b, .r, v41⟩)])
@[irreducible] noncomputable def p24_2067 (j n0 n1 : Nat) (v2 : Int) (v3 : Int) (v64 : Bool) : Option (Int × Int × Int × Unit) := piece G 24 [.r, .r, .r, .r, .r, .r, .r, .l, .r, .r] j [n0, n1] (skel 67 0 [(2, aI v2), (3, aI v3), (64, .av ⟨.b, .r, v64⟩)])
@[irreducible] noncomputable def p24_13 (j n0 n1 n2 : Nat) (v0 : List UInt8) (v2 : Int) (v5 : List UInt8) (v24 : List (Int)) (v25 : Int) (v26 : Int) : Option (Int × Int × Int × Unit) := piece G 24 [.r, .r, .r, .r, .l, .r, .b, .o, .r, .r, .r] j [n0, n1, n2] (skel 67 0 [(0, .av ⟨.s, .r, v0⟩), (2, aI v2), (5, .av ⟨.s, .r, v5⟩), (24, .av ⟨(.l (.i .i64)), (.o .r), v24⟩), (25, aI v25), (26, aI v26)])
@[irreducible] noncomputable def p24_20 (j n0 n1 : Nat) (v2 : Int) (v3 : Int) : Option (Int × Int × Int × Unit) := piece G 24 [.r, .r, .r, .r, .r, .r, .r, .r] j [n0, n1] (skel 67 0 [(2, aI v2), (3, aI v3)])
@[irreducible] noncomputable def f25 (n : Nat) (a0 : AbL) (a1 : Int) : Option (Int × AbF × Bool × Unit) := F G n 25 (a0, a1, ())
@[irreducible] noncomputable def p25_4 (j n0 : Nat) (v1 : Int) (v4 : Int) (v5 : Option AbF) (v6 : Bool) (v15 : AbL) (v16 : Int) (v17 : Int) : Option (Int × AbF × Bool × Unit) := piece G 25 [.r, .b, .r, .r, .l, .r, .b] j [n0] (skel 39 0 [(1, aI v1), (4, aI v4), (5, .av ⟨(.p TyF), (.o MdF), v5⟩), (6, .av ⟨.b, .r, v6⟩), (15, .av ⟨TyL, .b, v15⟩), (16, aI v16), (17, aI v17)])
@[irreducible] noncomputable def p25_7 (j n0 n1 : Nat) (v1 : Int) (v4 : Int) (v5 : Option AbF) (v6 : Bool) (v7 : Int) (v15 : AbL) (v16 : Int) (v17 : Int) (v22 : List AbF) (v23 : Int) (v24 : Int) : Option (Int × AbF × Bool × Unit) := piece G 25 [.r, .b, .r, .r, .l, .r, .b, .o, .r, .r, .l, .b, .r, .r, .b] j [n0, n1] (skel 39 0 [(1, aI v1), (4, aI v4), (5, .av ⟨(.p TyF), (.o MdF), v5⟩), (6, .av ⟨.b, .r, v6⟩), (7, aI v7), (15, .av ⟨TyL, .b, v15⟩), (16, aI v16), (17, aI v17), (22, .av ⟨(.l TyF), .b, v22⟩), (23, aI v23), (24, aI v24)])
@[irreducible] noncomputable def p25_13 (j n0 : Nat) (v4 : Int) (v5 : Option AbF) (v6 : Bool) : Option (Int × AbF × Bool × Unit) := piece G 25 [.r, .b, .r, .r, .r] j [n0] (skel 39 0 [(4, aI v4), (5, .av ⟨(.p TyF), (.o MdF), v5⟩), (6, .av ⟨.b, .r, v6⟩)])
@[irreducible] noncomputable def f26 (n : Nat) (a0 : Option Lk.LiveS) (a1 : List (List UInt8)) (a2 : Int) (a3 : Int) : Option (List (List UInt8) × Unit) := F G n 26 (a0, a1, a2, a3, ())
@[irreducible] noncomputable def p26_6 (j n0 : Nat) (v2 : Int) (v3 : Int) (v9 : List (Int)) (v10 : List (List UInt8)) (v24 : List (List UInt8)) (v25 : Int) (v26 : Int) : Option (List (List UInt8) × Unit) := piece G 26 [.r, .r, .r, .r, .l, .r, .b] j [n0] (skel 70 0 [(2, aI v2), (3, aI v3), (9, .av ⟨(.l (.i .i64)), (.o .r), v9⟩), (10, .av ⟨(.l .s), (.o .r), v10⟩), (24, .av ⟨(.l .s), (.o .r), v24⟩), (25, aI v25), (26, aI v26)])
@[irreducible] noncomputable def p26_20 (j n0 n1 : Nat) (v2 : Int) (v3 : Int) (v9 : List (Int)) (v10 : List (List UInt8)) (v12 : List UInt8) (v15 : Int) (v16 : Bool) (v24 : List (List UInt8)) (v25 : Int) (v26 : Int) : Option (List (List UInt8) × Unit) := piece G 26 [.r, .r, .r, .r, .l, .r, .b, .o, .r, .r, .l, .b, .r, .r, .r, .r] j [n0, n1] (skel 70 0 [(2, aI v2), (3, aI v3), (9, .av ⟨(.l (.i .i64)), (.o .r), v9⟩), (10, .av ⟨(.l .s), (.o .r), v10⟩), (12, .av ⟨.s, .r, v12⟩), (15, aI v15), (16, .av ⟨.b, .r, v16⟩), (24, .av ⟨(.l .s), (.o .r), v24⟩), (25, aI v25), (26, aI v26)])
@[irreducible] noncomputable def p26_2069 (j n0 n1 n2 : Nat) (v2 : Int) (v3 : Int) (v9 : List (Int)) (v10 : List (List UInt8)) (v12 : List UInt8) (v24 : List (List UInt8)) (v25 : Int) (v26 : Int) (v63 : Bool) : Option (List (List UInt8) × Unit) := piece G 26 [.r, .r, .r, .r, .l, .r, .b, .o, .r, .r, .l, .b, .r, .r, .r, .r, .r] j [n0, n1, n2] (skel 70 0 [(2, aI v2), (3, aI v3), (9, .av ⟨(.l (.i .i64)), (.o .r), v9⟩), (10, .av ⟨(.l .s), (.o .r), v10⟩), (12, .av ⟨.s, .r, v12⟩), (24, .av ⟨(.l .s), (.o .r), v24⟩), (25, aI v25), (26, aI v26), (63, .av ⟨.b, .r, v63⟩)])
@[irreducible] noncomputable def p26_22 (j n0 n1 : Nat) (v2 : Int) (v3 : Int) (v9 : List (Int)) (v10 : List (List UInt8)) (v24 : List (List UInt8)) (v25 : Int) (v26 : Int) : Option (List (List UInt8) × Unit) := piece G 26 [.r, .r, .r, .r, .l, .r, .b, .o, .r, .r, .r] j [n0, n1] (skel 70 0 [(2, aI v2), (3, aI v3), (9, .av ⟨(.l (.i .i64)), (.o .r), v9⟩), (10, .av ⟨(.l .s), (.o .r), v10⟩), (24, .av ⟨(.l .s), (.o .r), v24⟩), (25, aI v25), (26, aI v26)])
@[irreducible] noncomputable def f28 (n : Nat) (a0 : Int) (a1 : Int) : Option (Int × Unit) := F G n 28 (a0, a1, ())
@[irreducible] noncomputable def f43 (n : Nat) (a0 : List (List UInt8)) (a1 : List (List UInt8)) : Option (Bool × Unit) := F G n 43 (a0, a1, ())
@[irreducible] noncomputable def p43_4 (j n0 : Nat) (v0 : List (List UInt8)) (v1 : List (List UInt8)) (v5 : Int) : Option (Bool × Unit) := piece G 43 [.r, .r, .l, .r, .b] j [n0] (skel 26 0 [(0, .av ⟨(.l .s), .b, v0⟩), (1, .av ⟨(.l .s), .b, v1⟩), (5, aI v5)])
@[irreducible] noncomputable def f47 (n : Nat) (a0 : Int) (a1 : List UInt8) : Option (AbF × Unit) := F G n 47 (a0, a1, ())
@[irreducible] noncomputable def f53 (n : Nat) (a0 : List UInt8) (a1 : List UInt8) : Option (List UInt8 × Bool × Unit) := F G n 53 (a0, a1, ())
@[irreducible] noncomputable def f54 (n : Nat) (a0 : List UInt8) (a1 : List UInt8) : Option (List UInt8 × Bool × Unit) := F G n 54 (a0, a1, ())
@[irreducible] noncomputable def f55 (n : Nat) (a0 : Int) : Option (List UInt8 × Unit) := F G n 55 (a0, ())
@[irreducible] noncomputable def f57 (n : Nat) (a0 : Int) (a1 : Int) : Option (List UInt8 × Int × Unit) := F G n 57 (a0, a1, ())
@[irreducible] noncomputable def p57_2050 (j n0 : Nat) (v0 : Int) (v1 : Int) (v6 : Bool) : Option (List UInt8 × Int × Unit) := piece G 57 [.r, .l, .b, .r] j [n0] (skel 43 0 [(0, aI v0), (1, aI v1), (6, .av ⟨.b, .r, v6⟩)])
@[irreducible] noncomputable def p57_2052 (j n0 n1 : Nat) (v0 : Int) (v1 : Int) (v13 : Bool) : Option (List UInt8 × Int × Unit) := piece G 57 [.r, .l, .b, .r, .f, .r] j [n0, n1] (skel 43 0 [(0, aI v0), (1, aI v1), (13, .av ⟨.b, .r, v13⟩)])
@[irreducible] noncomputable def p57_7 (j n0 : Nat) (v0 : Int) (v1 : Int) : Option (List UInt8 × Int × Unit) := piece G 57 [.r, .r] j [n0] (skel 43 0 [(0, aI v0), (1, aI v1)])
@[irreducible] noncomputable def f58 (n : Nat) (a0 : List (List UInt8)) : Option (List (List UInt8) × Unit) := F G n 58 (a0, ())
@[irreducible] noncomputable def f67 (n : Nat) (a0 : AbR) (a1 : Int) (a2 : Int) : Option (AbR × Unit) := F G n 67 (a0, a1, a2, ())
@[irreducible] noncomputable def f70 (n : Nat) (a0 : List (List UInt8)) : Option (List (List UInt8) × Unit) := F G n 70 (a0, ())
@[irreducible] noncomputable def p70_3 (j n0 : Nat) (v3 : List (List UInt8)) (v4 : List (List UInt8)) : Option (List (List UInt8) × Unit) := piece G 70 [.r, .r, .r, .l, .b] j [n0] (skel 45 0 [(3, .av ⟨(.l .s), (.o .r), v3⟩), (4, .av ⟨(.l .s), (.o .r), v4⟩)])
@[irreducible] noncomputable def p70_6 (j n0 n1 : Nat) (v3 : List (List UInt8)) (v4 : List (List UInt8)) (v5 : Int) (v6 : Int) : Option (List (List UInt8) × Unit) := piece G 70 [.r, .r, .r, .l, .b, .o, .r, .b, .r, .l, .r, .b] j [n0, n1] (skel 45 0 [(3, .av ⟨(.l .s), (.o .r), v3⟩), (4, .av ⟨(.l .s), (.o .r), v4⟩), (5, aI v5), (6, aI v6)])
@[irreducible] noncomputable def p70_7 (j n0 n1 n2 : Nat) (v3 : List (List UInt8)) (v4 : List (List UInt8)) (v5 : Int) (v6 : Int) : Option (List (List UInt8) × Unit) := piece G 70 [.r, .r, .r, .l, .b, .o, .r, .b, .r, .l, .r, .b, .o, .r, .r] j [n0, n1, n2] (skel 45 0 [(3, .av ⟨(.l .s), (.o .r), v3⟩), (4, .av ⟨(.l .s), (.o .r), v4⟩), (5, aI v5), (6, aI v6)])
@[irreducible] noncomputable def f71 (n : Nat) (a0 : List UInt8) : Option (Int × Int × Int × Unit) := F G n 71 (a0, ())
@[irreducible] noncomputable def p71_3 (j n0 : Nat) (v0 : List UInt8) (v5 : Int) (v6 : Int) : Option (Int × Int × Int × Unit) := piece G 71 [.r, .r, .l, .r, .b] j [n0] (skel 57 0 [(0, .av ⟨.s, .r, v0⟩), (5, aI v5), (6, aI v6)])
@[irreducible] noncomputable def p71_2054 (j n0 n1 : Nat) (v0 : List UInt8) (v5 : Int) (v6 : Int) (v29 : Bool) : Option (Int × Int × Int × Unit) := piece G 71 [.r, .r, .l, .r, .b, .o, .r, .l, .b, .r] j [n0, n1] (skel 57 0 [(0, .av ⟨.s, .r, v0⟩), (5, aI v5), (6, aI v6), (29, .av ⟨.b, .r, v29⟩)])
@[irreducible] noncomputable def p71_8 (j n0 : Nat) (v0 : List UInt8) (v5 : Int) (v7 : Int) : Option (Int × Int × Int × Unit) := piece G 71 [.r, .r, .r, .l, .r, .b] j [n0] (skel 57 0 [(0, .av ⟨.s, .r, v0⟩), (5, aI v5), (7, aI v7)])
@[irreducible] noncomputable def p71_4 (j n0 n1 : Nat) (v0 : List UInt8) (v5 : Int) (v6 : Int) : Option (Int × Int × Int × Unit) := piece G 71 [.r, .r, .l, .r, .b, .o, .r, .r] j [n0, n1] (skel 57 0 [(0, .av ⟨.s, .r, v0⟩), (5, aI v5), (6, aI v6)])
@[irreducible] noncomputable def p71_2060 (j n0 n1 : Nat) (v0 : List UInt8) (v5 : Int) (v7 : Int) (v54 : Bool) : Option (Int × Int × Int × Unit) := piece G 71 [.r, .r, .r, .l, .r, .b, .o, .r, .l, .b, .r, .r] j [n0, n1] (skel 57 0 [(0, .av ⟨.s, .r, v0⟩), (5, aI v5), (7, aI v7), (54, .av ⟨.b, .r, v54⟩)])
@[irreducible] noncomputable def p71_9 (j n0 n1 : Nat) (v0 : List UInt8) (v5 : Int) (v7 : Int) : Option (Int × Int × Int × Unit) := piece G 71 [.r, .r, .r, .l, .r, .b, .o, .r, .r] j [n0, n1] (skel 57 0 [(0, .av ⟨.s, .r, v0⟩), (5, aI v5), (7, aI v7)])
@[irreducible] noncomputable def f75 (n : Nat) (a0 : List UInt8) (a1 : List UInt8) : Option (List UInt8 × Bool × Unit) := F G n 75 (a0, a1, ())
@[irreducible] noncomputable def f76 (n : Nat) (a0 : List UInt8) (a1 : List UInt8) : Option (List UInt8 × Bool × Unit) := F G n 76 (a0, a1, ())
@[irreducible] noncomputable def f79 (n : Nat) (a0 : Int) : Option (List UInt8 × Unit) := F G n 79 (a0, ())
@[irreducible] noncomputable def f81 (n : Nat) (a0 : List (List UInt8)) (a1 : Unit) : Option (List (List UInt8) × Unit) := F G n 81 (a0, a1, ())
@[irreducible] noncomputable def f82 (n : Nat) (a0 : List UInt8) (a1 : List UInt8) : Option (Int × Unit) := F G n 82 (a0, a1, ())
@[irreducible] noncomputable def f83 (n : Nat) (a0 : Int) (a1 : Int) : Option (Int × Unit) := F G n 83 (a0, a1, ())
@[irreducible] noncomputable def f84 (n : Nat) (a0 : List UInt8) (a1 : List UInt8) : Option (Int × Unit) := F G n 84 (a0, a1, ())
@[irreducible] noncomputable def f85 (n : Nat) (a0 : List (Int)) : Option (Int × Unit) := F G n 85 (a0, ())
@[irreducible] noncomputable def p85_3 (j n0 : Nat) (v3 : Int) (v6 : List (Int)) (v7 : Int) (v8 : Int) : Option (Int × Unit) := piece G 85 [.r, .r, .l, .r, .b] j [n0] (skel 18 0 [(3, aI v3), (6, .av ⟨(.l (.i .i64)), .b, v6⟩), (7, aI v7), (8, aI v8)])
@[irreducible] noncomputable def f86 (n : Nat) (a0 : Int) (a1 : Int) : Option (Int × Unit) := F G n 86 (a0, a1, ())
@[irreducible] noncomputable def f90 (n : Nat) (a0 : List UInt8) (a1 : List UInt8) : Option (Bool × Unit) := F G n 90 (a0, a1, ())
@[irreducible] noncomputable def f91 (n : Nat) (a0 : Int) (a1 : Int) : Option (List UInt8 × Int × Unit) := F G n 91 (a0, a1, ())
@[irreducible] noncomputable def p91_2050 (j n0 : Nat) (v0 : Int) (v1 : Int) (v11 : Bool) : Option (List UInt8 × Int × Unit) := piece G 91 [.r, .l, .r] j [n0] (skel 43 0 [(0, aI v0), (1, aI v1), (11, .av ⟨.b, .r, v11⟩)])
@[irreducible] noncomputable def p91_3 (j n0 : Nat) (v0 : Int) (v1 : Int) : Option (List UInt8 × Int × Unit) := piece G 91 [.r, .r] j [n0] (skel 43 0 [(0, aI v0), (1, aI v1)])
@[irreducible] noncomputable def p91_2052 (j n0 n1 : Nat) (v0 : Int) (v1 : Int) (v21 : Bool) : Option (List UInt8 × Int × Unit) := piece G 91 [.r, .r, .l, .r] j [n0, n1] (skel 43 0 [(0, aI v0), (1, aI v1), (21, .av ⟨.b, .r, v21⟩)])
@[irreducible] noncomputable def p91_5 (j n0 n1 : Nat) (v0 : Int) (v1 : Int) : Option (List UInt8 × Int × Unit) := piece G 91 [.r, .r, .r] j [n0, n1] (skel 43 0 [(0, aI v0), (1, aI v1)])
@[irreducible] noncomputable def f102 (n : Nat) (a0 : List UInt8) (a1 : List UInt8) : Option (Bool × Unit) := F G n 102 (a0, a1, ())
@[irreducible] noncomputable def f103 (n : Nat) (a0 : List UInt8) (a1 : List UInt8) : Option (Bool × Unit) := F G n 103 (a0, a1, ())
@[irreducible] noncomputable def f111 (n : Nat) (a0 : List (List UInt8)) (a1 : Int) (a2 : Unit) : Option (List (List UInt8) × Unit) := F G n 111 (a0, a1, a2, ())
@[irreducible] noncomputable def p111_2 (j n0 : Nat) (v0 : List (List UInt8)) (v1 : Int) (v2 : Unit) (v6 : Int) (v7 : Int) (v8 : Int) : Option (List (List UInt8) × Unit) := piece G 111 [.r, .r, .l, .b] j [n0] (skel 63 0 [(0, .av ⟨(.l .s), (.o .r), v0⟩), (1, aI v1), (2, .av ⟨(.z (.g 82)), .r, v2⟩), (6, aI v6), (7, aI v7), (8, aI v8)])
@[irreducible] noncomputable def p111_7 (j n0 : Nat) (v0 : List (List UInt8)) (v1 : Int) (v2 : Unit) (v6 : Int) : Option (List (List UInt8) × Unit) := piece G 111 [.r, .r, .r, .r, .b] j [n0] (skel 63 0 [(0, .av ⟨(.l .s), (.o .r), v0⟩), (1, aI v1), (2, .av ⟨(.z (.g 82)), .r, v2⟩), (6, aI v6)])
@[irreducible] noncomputable def p111_9 (j n0 n1 : Nat) (v0 : List (List UInt8)) (v1 : Int) (v2 : Unit) (v6 : Int) (v7 : Int) (v8 : Int) : Option (List (List UInt8) × Unit) := piece G 111 [.r, .r, .r, .r, .b, .o, .r, .b, .r, .l, .b] j [n0, n1] (skel 63 0 [(0, .av ⟨(.l .s), (.o .r), v0⟩), (1, aI v1), (2, .av ⟨(.z (.g 82)), .r, v2⟩), (6, aI v6), (7, aI v7), (8, aI v8)])
@[irreducible] noncomputable def p111_16 (j n0 n1 : Nat) (v0 : List (List UInt8)) (v1 : Int) (v2 : Unit) (v6 : Int) : Option (List (List UInt8) × Unit) := piece G 111 [.r, .r, .r, .r, .b, .o, .r, .b, .r, .r, .r] j [n0, n1] (skel 63 0 [(0, .av ⟨(.l .s), (.o .r), v0⟩), (1, aI v1), (2, .av ⟨(.z (.g 82)), .r, v2⟩), (6, aI v6)])
@[irreducible] noncomputable def f112 (n : Nat) (a0 : Int) : Option (Bool × Unit) := F G n 112 (a0, ())
@[irreducible] noncomputable def f113 (n : Nat) (a0 : List UInt8) : Option (Bool × Unit) := F G n 113 (a0, ())
@[irreducible] noncomputable def f114 (n : Nat) (a0 : Int) : Option (Bool × Unit) := F G n 114 (a0, ())
@[irreducible] noncomputable def f115 (n : Nat) (a0 : Int) : Option (List UInt8 × Unit) := F G n 115 (a0, ())
@[irreducible] noncomputable def p115_2 (j n0 : Nat) (v3 : List UInt8) : Option (List UInt8 × Unit) := piece G 115 [.r, .r, .l, .b] j [n0] (skel 12 0 [(3, .av ⟨.s, .r, v3⟩)])
@[irreducible] noncomputable def f126 (n : Nat) (a0 : List UInt8) (a1 : List UInt8) : Option (Bool × Unit) := F G n 126 (a0, a1, ())
@[irreducible] noncomputable def f131 (n : Nat) (a0 : List (List UInt8)) (a1 : Int) (a2 : Int) (a3 : Unit) : Option (List (List UInt8) × Unit) := F G n 131 (a0, a1, a2, a3, ())
@[irreducible] noncomputable def p131_1 (j n0 : Nat) (v0 : List (List UInt8)) (v1 : Int) (v2 : Int) (v3 : Unit) (v8 : Int) : Option (List (List UInt8) × Unit) := piece G 131 [.r, .b] j [n0] (skel 53 0 [(0, .av ⟨(.l .s), (.o .r), v0⟩), (1, aI v1), (2, aI v2), (3, .av ⟨(.z (.g 82)), .r, v3⟩), (8, aI v8)])
@[irreducible] noncomputable def p131_4 (j n0 n1 : Nat) (v0 : List (List UInt8)) (v1 : Int) (v2 : Int) (v3 : Unit) (v8 : Int) (v9 : Int) : Option (List (List UInt8) × Unit) := piece G 131 [.r, .b, .o, .r, .l, .b, .r, .b] j [n0, n1] (skel 53 0 [(0, .av ⟨(.l .s), (.o .r), v0⟩), (1, aI v1), (2, aI v2), (3, .av ⟨(.z (.g 82)), .r, v3⟩), (8, aI v8), (9, aI v9)])
@[irreducible] noncomputable def p131_6 (j n0 n1 n2 : Nat) (v0 : List (List UInt8)) (v1 : Int) (v2 : Int) (v3 : Unit) (v8 : Int) (v9 : Int) : Option (List (List UInt8) × Unit) := piece G 131 [.r, .b, .o, .r, .l, .b, .r, .b, .o, .r] j [n0, n1, n2] (skel 53 0 [(0, .av ⟨(.l .s), (.o .r), v0⟩), (1, aI v1), (2, aI v2), (3, .av ⟨(.z (.g 82)), .r, v3⟩), (8, aI v8), (9, aI v9)])
@[irreducible] noncomputable def p131_2 (j n0 n1 : Nat) (v0 : List (List UInt8)) (v1 : Int) (v2 : Int) (v3 : Unit) (v8 : Int) : Option (List (List UInt8) × Unit) := piece G 131 [.r, .b, .o, .r, .r] j [n0, n1] (skel 53 0 [(0, .av ⟨(.l .s), (.o .r), v0⟩), (1, aI v1), (2, aI v2), (3, .av ⟨(.z (.g 82)), .r, v3⟩), (8, aI v8)])
@[irreducible] noncomputable def f132 (n : Nat) (a0 : List (List UInt8)) (a1 : Int) (a2 : Int) (a3 : Int) (a4 : Unit) : Option (List (List UInt8) × Unit) := F G n 132 (a0, a1, a2, a3, a4, ())
@[irreducible] noncomputable def p132_3 (j n0 : Nat) (v0 : List (List UInt8)) (v1 : Int) (v4 : Unit) (v10 : Int) (v11 : Int) : Option (List (List UInt8) × Unit) := piece G 132 [.l, .r, .t, .r, .r, .l, .b] j [n0] (skel 220 0 [(0, .av ⟨(.l .s), (.o .r), v0⟩), (1, aI v1), (4, .av ⟨(.z (.g 82)), .r, v4⟩), (10, aI v10), (11, aI v11)])
@[irreducible] noncomputable def p132_15 (j n0 : Nat) (v0 : List (List UInt8)) (v2 : Int) (v4 : Unit) (v14 : Int) (v15 : Int) : Option (List (List UInt8) × Unit) := piece G 132 [.r, .l, .r, .t, .r, .r, .l, .b] j [n0] (skel 220 0 [(0, .av ⟨(.l .s), (.o .r), v0⟩), (2, aI v2), (4, .av ⟨(.z (.g 82)), .r, v4⟩), (14, aI v14), (15, aI v15)])
@[irreducible] noncomputable def p132_32 (j n0 : Nat) (v0 : List (List UInt8)) (v1 : Int) (v2 : Int) (v3 : Int) (v4 : Unit) (v18 : Int) (v19 : Int) (v20 : Int) (v21 : Int) : Option (List (List UInt8) × Unit) := piece G 132 [.r, .r, .r, .r, .r, .r] j [n0] (skel 220 0 [(0, .av ⟨(.l .s), (.o .r), v0⟩), (1, aI v1), (2, aI v2), (3, aI v3), (4, .av ⟨(.z (.g 82)), .r, v4⟩), (18, aI v18), (19, aI v19), (20, aI v20), (21, aI v21)])
@[irreducible] noncomputable def p132_9 (j n0 : Nat) (v0 : List (List UInt8)) (v10 : Int) (v13 : Int) : Option (List (List UInt8) × Unit) := piece G 132 [.l, .r, .t, .r, .r, .r, .l, .r, .b] j [n0] (skel 220 0 [(0, .av ⟨(.l .s), (.o .r), v0⟩), (10, aI v10), (13, aI v13)])
@[irreducible] noncomputable def p132_21 (j n0 : Nat) (v0 : List (List UInt8)) (v14 : Int) (v17 : Int) : Option (List (List UInt8) × Unit) := piece G 132 [.r, .l, .r, .t, .r, .r, .r, .l, .r, .b] j [n0] (skel 220 0 [(0, .av ⟨(.l .s), (.o .r), v0⟩), (14, aI v14), (17, aI v17)])
@[irreducible] noncomputable def p132_33 (j n0 n1 : Nat) (v0 : List (List UInt8)) (v1 : Int) (v2 : Int) (v3 : Int) (v4 : Unit) (v18 : Int) (v19 : Int) (v20 : Int) (v21 : Int) (v22 : Int) : Option (List (List UInt8) × Unit) := piece G 132 [.r, .r, .r, .r, .r, .r, .r, .l, .b] j [n0, n1] (skel 220 0 [(0, .av ⟨(.l .s), (.o .r), v0⟩), (1, aI v1), (2, aI v2), (3, aI v3), (4, .av ⟨(.z (.g 82)), .r, v4⟩), (18, aI v18), (19, aI v19), (20, aI v20), (21, aI v21), (22, aI v22)])
@[irreducible] noncomputable def p132_2088 (j n0 n1 : Nat) (v0 : List (List UInt8)) (v1 : Int) (v2 : Int) (v3 : Int) (v4 : Unit) (v18 : Int) (v20 : Int) (v24 : Int) (v185 : Bool) : Option (List (List UInt8) × Unit) := piece G 132 [.r, .r, .r, .r, .r, .r, .r, .r, .r, .l, .r] j [n0, n1] (skel 220 0 [(0, .av ⟨(.l .s), (.o .r), v0⟩), (1, aI v1), (2, aI v2), (3, aI v3), (4, .av ⟨(.z (.g 82)), .r, v4⟩), (18, aI v18), (20, aI v20), (24, aI v24), (185, .av ⟨.b, .r, v185⟩)])
@[irreducible] noncomputable def p132_41 (j n0 n1 : Nat) (v0 : List (List UInt8)) (v1 : Int) (v3 : Int) (v4 : Unit) (v18 : Int) (v20 : Int) (v24 : Int) : Option (List (List UInt8) × Unit) := piece G 132 [.r, .r, .r, .r, .r, .r, .r, .r, .r, .r] j [n0, n1] (skel 220 0 [(0, .av ⟨(.l .s), (.o .r), v0⟩), (1, aI v1), (3, aI v3), (4, .av ⟨(.z (.g 82)), .r, v4⟩), (18, aI v18), (20, aI v20), (24, aI v24)])
@[irreducible] noncomputable def p132_2090 (j n0 n1 n2 : Nat) (v0 : List (List UInt8)) (v1 : Int) (v3 : Int) (v4 : Unit) (v18 : Int) (v20 : Int) (v24 : Int) (v199 : Bool) : Option (List (List UInt8) × Unit) := piece G 132 [.r, .r, .r, .r, .r, .r, .r, .r, .r, .r, .l, .r] j [n0, n1, n2] (skel 220 0 [(0, .av ⟨(.l .s), (.o .r), v0⟩), (1, aI v1), (3, aI v3), (4, .av ⟨(.z (.g 82)), .r, v4⟩), (18, aI v18), (20, aI v20), (24, aI v24), (199, .av ⟨.b, .r, v199⟩)])
@[irreducible] noncomputable def p132_43 (j n0 n1 n2 : Nat) (v0 : List (List UInt8)) (v3 : Int) (v4 : Unit) (v18 : Int) (v24 : Int) : Option (List (List UInt8) × Unit) := piece G 132 [.r, .r, .r, .r, .r, .r, .r, .r, .r, .r, .r] j [n0, n1, n2] (skel 220 0 [(0, .av ⟨(.l .s), (.o .r), v0⟩), (3, aI v3), (4, .av ⟨(.z (.g 82)), .r, v4⟩), (18, aI v18), (24, aI v24)])
@[irreducible] noncomputable def p132_2092 (j n0 n1 n2 n3 : Nat) (v0 : List (List UInt8)) (v3 : Int) (v4 : Unit) (v18 : Int) (v24 : Int) (v213 : Bool) : Option (List (List UInt8) × Unit) := piece G 132 [.r, .r, .r, .r, .r, .r, .r, .r, .r, .r, .r, .r] j [n0, n1, n2, n3] (skel 220 0 [(0, .av ⟨(.l .s), (.o .r), v0⟩), (3, aI v3), (4, .av ⟨(.z (.g 82)), .r, v4⟩), (18, aI v18), (24, aI v24), (213, .av ⟨.b, .r, v213⟩)])
@[irreducible] noncomputable def f133 (n : Nat) (a0 : Int) : Option (List UInt8 × Unit) := F G n 133 (a0, ())
@[irreducible] noncomputable def p133_2 (j n0 : Nat) (v0 : Int) (v3 : List UInt8) : Option (List UInt8 × Unit) := piece G 133 [.r, .r, .l, .b] j [n0] (skel 19 0 [(0, aI v0), (3, .av ⟨.s, .r, v3⟩)])
@[irreducible] noncomputable def f142 (n : Nat) (a0 : List (List UInt8)) (a1 : Int) (a2 : Int) (a3 : Int) (a4 : Unit) : Option (List (List UInt8) × Unit) := F G n 142 (a0, a1, a2, a3, a4, ())
@[irreducible] noncomputable def p142_2 (j n0 : Nat) (v0 : List (List UInt8)) (v2 : Int) (v4 : Unit) (v10 : Int) (v11 : Int) : Option (List (List UInt8) × Unit) := piece G 142 [.r, .r, .l, .b] j [n0] (skel 58 0 [(0, .av ⟨(.l .s), (.o .r), v0⟩), (2, aI v2), (4, .av ⟨(.z (.g 82)), .r, v4⟩), (10, aI v10), (11, aI v11)])
@[irreducible] noncomputable def f149 (n : Nat) (a0 : List (List UInt8)) (a1 : Int) (a2 : Int) (a3 : Int) (a4 : Unit) : Option (List (List UInt8) × Unit) := F G n 149 (a0, a1, a2, a3, a4, ())
@[irreducible] noncomputable def p149_1 (j n0 : Nat) (v0 : List (List UInt8)) (v1 : Int) (v2 : Int) (v3 : Int) (v10 : Int) : Option (List (List UInt8) × Unit) := piece G 149 [.r, .b] j [n0] (skel 38 0 [(0, .av ⟨(.l .s), (.o .r), v0⟩), (1, aI v1), (2, aI v2), (3, aI v3), (10, aI v10)])
end LvG
end
section
/-! The document's set, as the program keeps it: the versions that are there, in a list. Plain. -/
namespace Lv
open Go
def vsFrom : Int → List Levels → List Int → List (Int × (Levels × Int))
 | k, a :: A, h :: H => bif A.isEmpty || decide (0 < h) then (k, (a, h)) :: vsFrom (k + 1) A H else vsFrom (k + 1) A H
 | _, _, _ => []
theorem vs_ge : ∀ (A : List Levels) (H : List Int) (k : Int), ∀ p ∈ vsFrom k A H, k ≤ p.1
 | [], _, _, p, h => by simp [vsFrom] at h
 | a :: A, [], _, p, h => by simp [vsFrom] at h
 | a :: A, h :: H, k, p, hp => by
  unfold vsFrom at hp
  cases hc : (A.isEmpty || decide (0 < h)) with
  | true =>
   rw [hc, cond_true] at hp
   rcases List.mem_cons.1 hp with rfl | hp
   ·exact Int.le_refl _
   ·have := vs_ge A H (k + 1) p hp; omega
  | false =>
   rw [hc, cond_false] at hp
   have := vs_ge A H (k + 1) p hp; omega
theorem get_cons {α : Type} (p : Int × α) (l : List (Int × α)) (k : Int) : get (p :: l) k = if p.1 = k then some p.2 else get l k := by
 unfold get
 rw [List.find?_cons]
 by_cases h : p.1 = k
 ·rw [if_pos h, show (p.1 == k) = true by simpa using h]; rfl
 ·rw [if_neg h, show (p.1 == k) = false by simpa using h]
theorem get_none {α : Type} {l : List (Int × α)} {k : Int} (h : ∀ p ∈ l, p.1 ≠ k) : get l k = none := by
 unfold get
 rw [List.find?_eq_none.2 fun p hp => by simpa using h p hp]; rfl
def thereM (A : List Levels) (H : List Int) (i : Nat) : Bool := Nat.beq (i + 1) A.length || decide (0 < H.getD i 0)
theorem get_vs : ∀ (A : List Levels) (H : List Int) (k : Int) (i : Nat), A.length = H.length → i < A.length →
  get (vsFrom k A H) (k + i) = bif thereM A H i then some (A.getD i [], H.getD i 0) else none
 | [], _, _, _, _, h => by simp at h
 | a :: A, [], _, _, h, _ => by simp at h
 | a :: A, h :: H, k, 0, hl, _ => by
  have e : thereM (a :: A) (h :: H) 0 = (A.isEmpty || decide (0 < h)) := by
   unfold thereM
   congr 1
   cases A <;> rfl
  unfold vsFrom
  rw [e]
  cases hc : (A.isEmpty || decide (0 < h)) with
  | true => rw [cond_true, cond_true, get_cons, if_pos (by simp)]; rfl
  | false => rw [cond_false, cond_false]; exact get_none fun p hp => by have := vs_ge A H _ p hp; simp; omega
 | a :: A, h :: H, k, i + 1, hl, hi => by
  have ih := get_vs A H (k + 1) i (by simpa using hl) (by simpa using hi)
  have e : thereM (a :: A) (h :: H) (i + 1) = thereM A H i := by
   unfold thereM
   have : Nat.beq (i + 1 + 1) (a :: A).length = Nat.beq (i + 1) A.length := rfl
   rw [this]; rfl
  rw [e]
  have : k + ((i + 1 : Nat) : Int) = k + 1 + (i : Int) := by omega
  rw [this]
  unfold vsFrom
  cases hc : (A.isEmpty || decide (0 < h)) with
  | true => rw [cond_true, get_cons, if_neg (by show k ≠ _; omega), ih]; rfl
  | false => rw [cond_false, ih]; rfl
theorem get_out (A : List Levels) (H : List Int) (k j : Int) (h : j < k ∨ k + A.length ≤ j) : get (vsFrom k A H) j = none := by
 induction A generalizing H k with
 | nil => cases H <;> rfl
 | cons a A ih =>
  cases H with
  | nil => rfl
  | cons x H =>
   have e : k + ((a :: A).length : Int) = k + 1 + A.length := by simp only [List.length_cons]; omega
   rw [e] at h
   unfold vsFrom
   cases A.isEmpty || decide (0 < x) with
   | true => rw [cond_true, get_cons, if_neg (by show k ≠ j; omega)]; exact ih H (k + 1) (by omega)
   | false => rw [cond_false]; exact ih H (k + 1) (by omega)
theorem has_of {α : Type} {l : List (Int × α)} {k : Int} {v : α} (h : get l k = some v) : has l k = true := by rw [has_get, h]; rfl
theorem hasn {α : Type} {l : List (Int × α)} {k : Int} (h : get l k = none) : has l k = false := by rw [has_get, h]; rfl
theorem map_far {α : Type} {l : List (Int × α)} {k : Int} (v : Int × α) (h : ∀ p ∈ l, p.1 ≠ k) : (l.map fun p => if p.1 == k then v else p) = l := by
 conv => rhs; rw [← List.map_id l]
 refine List.map_congr_left fun p hp => ?_
 rw [show (p.1 == k) = false by simpa using h p hp]; rfl
theorem del_far {α : Type} {l : List (Int × α)} {k : Int} (h : ∀ p ∈ l, p.1 ≠ k) : del l k = l := by
 unfold del
 rw [List.filter_eq_self]
 intro p hp
 rw [show (p.1 == k) = false by simpa using h p hp]; rfl
theorem del_cons {α : Type} (p : Int × α) (l : List (Int × α)) (k : Int) : del (p :: l) k = if p.1 = k then del l k else p :: del l k := by
 unfold del
 rw [List.filter_cons]
 by_cases h : p.1 = k
 ·rw [if_pos h, show (p.1 == k) = true by simpa using h]; rfl
 ·rw [if_neg h, show (p.1 == k) = false by simpa using h]; rfl
theorem set_vs : ∀ (A : List Levels) (H : List Int) (k : Int) (i : Nat) (x : Int), A.length = H.length → i < A.length → thereM A H i = true → 0 ≤ x →
  (bif !Nat.beq (i + 1) A.length && x == 0 then del ((vsFrom k A H).map fun p => if p.1 == k + i then (k + i, (A.getD i [], x)) else p) (k + i) else ((vsFrom k A H).map fun p => if p.1 == k + i then (k + i, (A.getD i [], x)) else p)) = vsFrom k A (H.set i x)
 | [], _, _, _, _, _, h, _, _ => by simp at h
 | a :: A, [], _, _, _, h, _, _, _ => by simp at h
 | a :: A, h :: H, k, 0, x, hl, _, ht, hx => by
  have e : thereM (a :: A) (h :: H) 0 = (A.isEmpty || decide (0 < h)) := by
   unfold thereM
   congr 1
   cases A <;> rfl
  rw [e] at ht
  have hfar : ∀ p ∈ vsFrom (k + 1) A H, p.1 ≠ k + ((0 : Nat) : Int) := fun p hp => by have := vs_ge A H _ p hp; omega
  rw [vsFrom, ht, cond_true, List.map_cons, map_far _ hfar, if_pos (by simp), del_cons, if_pos rfl, del_far hfar, List.set_cons_zero, vsFrom]
  have e2 : Nat.beq (0 + 1) (a :: A).length = A.isEmpty := by cases A <;> rfl
  rw [e2]
  have e3 : decide (0 < x) = !(x == 0) := by
   by_cases h0 : x = 0
   ·subst h0; rfl
   ·rw [decide_eq_true (by omega), show (x == 0) = false by simpa using h0]; rfl
  rw [e3]
  have e4 : k + ((0 : Nat) : Int) = k := by omega
  rw [e4]
  cases A.isEmpty <;> cases (x == 0) <;> rfl
 | a :: A, h :: H, k, i + 1, x, hl, hi, ht, hx => by
  have e : thereM (a :: A) (h :: H) (i + 1) = thereM A H i := by
   unfold thereM
   have : Nat.beq (i + 1 + 1) (a :: A).length = Nat.beq (i + 1) A.length := rfl
   rw [this]; rfl
  rw [e] at ht
  have ih := set_vs A H (k + 1) i x (by simpa using hl) (by simpa using hi) ht hx
  have e5 : k + ((i + 1 : Nat) : Int) = k + 1 + (i : Int) := by omega
  have e6 : Nat.beq (i + 1 + 1) (a :: A).length = Nat.beq (i + 1) A.length := rfl
  rw [e5, e6, List.set_cons_succ]
  unfold vsFrom
  have e7 : (a :: A).getD (i + 1) [] = A.getD i [] := rfl
  rw [e7]
  cases hc : (A.isEmpty || decide (0 < h)) with
  | true =>
   simp only [cond_true]
   rw [List.map_cons, if_neg (by simp; omega), del_cons, if_neg (by show k ≠ _; omega), ← ih]
   cases (!Nat.beq (i + 1) A.length && x == 0) <;> rfl
  | false =>
   simp only [cond_false]
   exact ih
theorem push_vs : ∀ (A : List Levels) (H : List Int) (k : Int) (lv : Levels), A.length = H.length → A ≠ [] → (∀ x ∈ H, 0 ≤ x) →
  (bif H.getD (A.length - 1) 0 == 0 then del (vsFrom k A H ++ [(k + A.length, (lv, 0))]) (k + A.length - 1) else vsFrom k A H ++ [(k + A.length, (lv, 0))]) = vsFrom k (A ++ [lv]) (H ++ [0])
 | [], _, _, _, _, h, _ => (h rfl).elim
 | a :: A, [], _, _, h, _, _ => by simp at h
 | [a], h :: H, k, lv, hl, _, h0 => by
  have : H = [] := by cases H with | nil => rfl | cons _ _ => simp at hl
  subst this
  have hh := h0 h (by simp)
  have e3 : decide (0 < h) = !(h == 0) := by
   by_cases h0 : h = 0
   ·subst h0; rfl
   ·rw [decide_eq_true (by omega), show (h == 0) = false by simpa using h0]; rfl
  show (bif h == 0 then del ([(k, (a, h))] ++ [(k + 1, (lv, 0))]) (k + 1 - 1) else [(k, (a, h))] ++ [(k + 1, (lv, 0))]) = (bif false || decide (0 < h) then (k, (a, h)) :: [(k + 1, (lv, 0))] else [(k + 1, (lv, 0))])
  rw [e3, List.singleton_append, del_cons, if_pos (by show k = _; omega), del_far (by simp; omega)]
  cases (h == 0) <;> rfl
 | a :: a' :: A, h :: H, k, lv, hl, _, h0 => by
  have ih := push_vs (a' :: A) H (k + 1) lv (by simpa using hl) (by simp) (fun x hx => h0 x (by simp [hx]))
  have e1 : k + ((a :: a' :: A).length : Int) = k + 1 + ((a' :: A).length : Int) := by simp only [List.length_cons]; omega
  have e2 : (h :: H).getD ((a :: a' :: A).length - 1) 0 = H.getD ((a' :: A).length - 1) 0 := rfl
  rw [e1, e2]
  show (bif _ then del (vsFrom k (a :: a' :: A) (h :: H) ++ _) _ else vsFrom k (a :: a' :: A) (h :: H) ++ _) = vsFrom k (a :: ((a' :: A) ++ [lv])) (h :: (H ++ [0]))
  rw [vsFrom, vsFrom]
  have e3 : ((a' :: A) ++ [lv]).isEmpty = (a' :: A).isEmpty := rfl
  rw [e3]
  cases hc : ((a' :: A).isEmpty || decide (0 < h)) with
  | true =>
   simp only [cond_true]
   rw [List.cons_append, del_cons, if_neg (by show k ≠ _; simp only [List.length_cons]; omega), ← ih]
   cases (H.getD ((a' :: A).length - 1) 0 == 0) <;> rfl
  | false =>
   simp only [cond_false]
   exact ih
end Lv
end
section
/-! The document's set: what the calls do. Plain. -/
namespace Lv
open Go
open LvS1 (nums numsM sortI)
def absS (A : List Levels) (H W : List Int) : Lk.LiveS := ⟨vsFrom 1 A H, A.length, W.map fun n => (n, 1)⟩
structure Inv (A : List Levels) (H W : List Int) (B : Nat) : Prop where
 ne : A ≠ []
 len : A.length = H.length
 pos : ∀ x ∈ H, 0 ≤ x
 top : ∀ x ∈ H, x ≤ B
 cnt : A.length ≤ B
 ok : ∀ a ∈ A, validM a = true
 sml : ∀ a ∈ A, smallL a = true
 nod : W.Nodup
 wpos : ∀ x ∈ W, 1 ≤ x ∧ x ≤ 2147483647
 room : W.length + (A.map fun a => (nums a).length).sum ≤ B
variable {A : List Levels} {H W : List Int} {B : Nat}
def refM (H : List Int) (k : Int) : Int := if 1 ≤ k ∧ k ≤ H.length then H.getD (k - 1).toNat 0 else 0
def thereK (A : List Levels) (H : List Int) (k : Int) : Bool := decide (1 ≤ k ∧ k ≤ A.length) && thereM A H (k - 1).toNat
theorem get_abs (h : A.length = H.length) (k : Int) : get (absS A H W).vs k = bif thereK A H k then some (A.getD (k - 1).toNat [], H.getD (k - 1).toNat 0) else none := by
 by_cases hk : 1 ≤ k ∧ k ≤ A.length
 ·have := get_vs A H 1 (k - 1).toNat h (by omega)
  rw [show (1 : Int) + ((k - 1).toNat : Int) = k by omega] at this
  show get (vsFrom 1 A H) k = _
  rw [this]; unfold thereK; rw [decide_eq_true hk, Bool.true_and]
 ·show get (vsFrom 1 A H) k = _
  rw [get_out A H 1 k (by omega)]; unfold thereK; rw [decide_eq_false hk]; rfl
theorem refs_abs (h : A.length = H.length) (h0 : ∀ x ∈ H, 0 ≤ x) (k : Int) : refsOf (absS A H W) k = refM H k := by
 unfold refsOf
 rw [get_abs h]
 unfold refM
 by_cases hk : 1 ≤ k ∧ k ≤ H.length
 ·rw [if_pos hk]
  cases ht : thereK A H k with
  | true => rfl
  | false =>
   unfold thereK at ht
   rw [decide_eq_true (by omega), Bool.true_and] at ht
   unfold thereM at ht
   simp only [Bool.or_eq_false_iff, decide_eq_false_iff_not] at ht
   have hi : (k - 1).toNat < H.length := by omega
   have := h0 (H.getD (k - 1).toNat 0) (by rw [List.getD_eq_getElem?_getD, List.getElem?_eq_getElem hi]; exact List.getElem_mem hi)
   show (0 : Int) = _
   omega
 ·rw [if_neg hk]
  have : thereK A H k = false := by unfold thereK; rw [decide_eq_false (by omega)]; rfl
  rw [this]; rfl
theorem turn_abs (h : A.length = H.length) (h0 : ∀ x ∈ H, 0 ≤ x) (k b : Int) (ht : thereK A H k = true) (hb : 0 ≤ refM H k + b) :
  turnS (absS A H W) k b = absS A (H.set (k - 1).toNat (refM H k + b)) W := by
 have hk : 1 ≤ k ∧ k ≤ A.length := by
  unfold thereK at ht
  rw [Bool.and_eq_true, decide_eq_true_eq] at ht
  exact ht.1
 have ht' : thereM A H (k - 1).toNat = true := by
  unfold thereK at ht
  rw [Bool.and_eq_true] at ht
  exact ht.2
 have hg := get_abs (W := W) h k
 rw [ht, cond_true] at hg
 have hr := refs_abs (W := W) h h0 k
 have hlv : levelsOf (absS A H W) k = A.getD (k - 1).toNat [] := by unfold levelsOf; rw [hg]; rfl
 have hset := set_vs A H 1 (k - 1).toNat (refM H k + b) h (by omega) ht' hb
 rw [show (1 : Int) + ((k - 1).toNat : Int) = k by omega] at hset
 unfold turnS
 rw [hlv, hr]
 have hput : put (absS A H W).vs k (A.getD (k - 1).toNat [], refM H k + b) = (vsFrom 1 A H).map fun p => if p.1 == k then (k, (A.getD (k - 1).toNat [], refM H k + b)) else p := by
  unfold put
  rw [has_of hg]; rfl
 rw [hput]
 have hgn : get ((vsFrom 1 A H).map fun p => if p.1 == k then (k, (A.getD (k - 1).toNat [], refM H k + b)) else p) k = some (A.getD (k - 1).toNat [], refM H k + b) := by
  have hh : has (vsFrom 1 A H) k = true := has_of hg
  clear hset hput hg
  generalize vsFrom 1 A H = l at hh ⊢
  induction l with
  | nil => cases hh
  | cons p l ih =>
   rw [List.map_cons, get_cons]
   by_cases hp : p.1 = k
   ·rw [if_pos (by simp [hp])]
    simp [hp]
   ·rw [show (p.1 == k) = false by simpa using hp]
    have : has l k = true := by
     unfold has at hh ⊢
     rw [List.any_cons, show (p.1 == k) = false by simpa using hp, Bool.false_or] at hh
     exact hh
    simp only [Bool.false_eq_true, if_false, hp]
    exact ih this
 unfold tidyS
 have hrn : refsOf ({ absS A H W with vs := (vsFrom 1 A H).map fun p => if p.1 == k then (k, (A.getD (k - 1).toNat [], refM H k + b)) else p } : Lk.LiveS) k = refM H k + b := by
  unfold refsOf
  show Option.getD (Option.map (fun x : Levels × Int => x.2) (get ((vsFrom 1 A H).map _) k)) 0 = _
  rw [hgn]; rfl
 rw [hrn]
 have hc : (!(k == (absS A H W).cur)) = !Nat.beq ((k - 1).toNat + 1) A.length := by
  show (!(k == (A.length : Int))) = _
  by_cases he : k = A.length
  ·rw [show Nat.beq ((k - 1).toNat + 1) A.length = true by rw [Nat.beq_eq]; omega, show (k == (A.length : Int)) = true by simpa using he]
  ·have : Nat.beq ((k - 1).toNat + 1) A.length = false := by
    cases hb : Nat.beq ((k - 1).toNat + 1) A.length with
    | false => rfl
    | true => rw [Nat.beq_eq] at hb; omega
   rw [this, show (k == (A.length : Int)) = false by simpa using he]
 show (bif !(k == (absS A H W).cur) && refM H k + b == 0 then _ else _) = _
 rw [hc]
 unfold absS
 rw [← hset]
 cases (!Nat.beq ((k - 1).toNat + 1) A.length && refM H k + b == 0) <;> rfl
theorem install_abs (h : A.length = H.length) (hne : A ≠ []) (h0 : ∀ x ∈ H, 0 ≤ x) (lv : Levels) : has (absS A H W).vs (A.length + 1) = false ∧ installS (absS A H W) lv = absS (A ++ [lv]) (H ++ [0]) W := by
 have hno : has (absS A H W).vs (A.length + 1) = false := by
  apply hasn
  rw [get_abs h]
  have : thereK A H (A.length + 1) = false := by unfold thereK; rw [decide_eq_false (by omega)]; rfl
  rw [this]; rfl
 refine ⟨hno, ?_⟩
 have hp : 1 ≤ A.length := by cases A with | nil => exact (hne rfl).elim | cons _ _ => simp
 have hpush := push_vs A H 1 lv h hne h0
 rw [show (1 : Int) + A.length = A.length + 1 by omega, show (A.length : Int) + 1 - 1 = A.length by omega] at hpush
 unfold installS
 have hput : put (absS A H W).vs ((absS A H W).cur + 1) (lv, 0) = vsFrom 1 A H ++ [((A.length : Int) + 1, (lv, 0))] := by
  unfold put
  show (bif has (absS A H W).vs ((A.length : Int) + 1) then _ else _) = _
  rw [hno]; rfl
 rw [hput]
 unfold tidyS
 have hr : refsOf ({ absS A H W with cur := (absS A H W).cur + 1, vs := vsFrom 1 A H ++ [((A.length : Int) + 1, (lv, 0))] } : Lk.LiveS) (absS A H W).cur = H.getD (A.length - 1) 0 := by
  have hg := get_vs A H 1 (A.length - 1) h (by omega)
  have e : thereM A H (A.length - 1) = true := by
   unfold thereM
   rw [show Nat.beq (A.length - 1 + 1) A.length = true by rw [Nat.beq_eq]; omega]; rfl
  rw [e, cond_true, show (1 : Int) + ((A.length - 1 : Nat) : Int) = A.length by omega] at hg
  unfold refsOf
  show Option.getD (Option.map (fun x : Levels × Int => x.2) (get (vsFrom 1 A H ++ _) (A.length : Int))) 0 = _
  have : get (vsFrom 1 A H ++ [((A.length : Int) + 1, (lv, 0))]) (A.length : Int) = get (vsFrom 1 A H) A.length := by
   unfold get at hg ⊢
   rw [List.find?_append]
   cases hf : (vsFrom 1 A H).find? (fun p => p.1 == (A.length : Int)) with
   | none => rw [hf] at hg; cases hg
   | some p => rfl
  rw [this, hg]; rfl
 rw [hr]
 have hc : (!((absS A H W).cur == (absS A H W).cur + 1)) = true := by
  have : ((absS A H W).cur == (absS A H W).cur + 1) = false := by rw [beq_eq_false_iff_ne]; omega
  rw [this]; rfl
 show (bif !((absS A H W).cur == (absS A H W).cur + 1) && H.getD (A.length - 1) 0 == 0 then _ else _) = _
 rw [hc, Bool.true_and]
 unfold absS
 rw [← hpush]
 have hl : ((A ++ [lv]).length : Int) = A.length + 1 := by simp
 rw [hl]
 cases (H.getD (A.length - 1) 0 == 0) <;> rfl
theorem get_w (W : List Int) (k : Int) : get (W.map fun n => (n, (1 : Int))) k = if k ∈ W then some 1 else none := by
 induction W with
 | nil => rfl
 | cons n W ih =>
  rw [List.map_cons, get_cons, ih]
  by_cases h : n = k
  ·rw [if_pos h, if_pos (by simp [h])]
  ·rw [if_neg h]
   by_cases h2 : k ∈ W
   ·rw [if_pos h2, if_pos (by simp [h2])]
   ·rw [if_neg h2, if_neg (by simp [h2]; omega)]
theorem wr_abs (k : Int) : wrOf (absS A H W) k = if k ∈ W then 1 else 0 := by
 unfold wrOf
 show (get (W.map fun n => (n, (1 : Int))) k).getD 0 = _
 rw [get_w]
 split <;> rfl
theorem begin_abs (k : Int) (hk : k ∉ W) : ({ absS A H W with wr := put (absS A H W).wr k 1 } : Lk.LiveS) = absS A H (W ++ [k]) := by
 unfold absS put
 have : has (W.map fun n => (n, (1 : Int))) k = false := hasn (by rw [get_w, if_neg hk])
 show (⟨_, _, bif has (W.map fun n => (n, (1 : Int))) k then _ else _⟩ : Lk.LiveS) = _
 rw [this]; simp
theorem end_abs (k : Int) : ({ absS A H W with wr := del (absS A H W).wr k } : Lk.LiveS) = absS A H (W.filter fun n => !(n == k)) := by
 unfold absS del
 simp only [List.filter_map]
 rfl
theorem sum_add (l : List Nat) (n : Nat) : (l ++ [n]).sum = l.sum + n := by simp
theorem Inv.mono {B' : Nat} (h : Inv A H W B) (hB : B ≤ B') : Inv A H W B' :=
 ⟨h.ne, h.len, h.pos, fun x hx => by have := h.top x hx; omega, by have := h.cnt; omega, h.ok, h.sml, h.nod, h.wpos, by have := h.room; omega⟩
theorem Inv.first (lv : Levels) (hv : validM lv = true) (hs : smallL lv = true) : Inv [lv] [0] [] (1 + (nums lv).length) :=
 ⟨by simp, rfl, by simp, by simp; omega, by simp, by simpa using hv, by simpa using hs, by simp, by simp, by simp⟩
theorem Inv.install (h : Inv A H W B) (lv : Levels) (hv : validM lv = true) (hs : smallL lv = true) : Inv (A ++ [lv]) (H ++ [0]) W (B + 1 + (nums lv).length) where
 ne := by simp
 len := by simp [h.len]
 pos := fun x hx => (List.mem_append.1 hx).elim (fun hx => h.pos x hx) (fun hx => (by simp at hx; omega))
 top := fun x hx => (List.mem_append.1 hx).elim (fun hx => (by have := h.top x hx; omega)) (fun hx => (by simp at hx; omega))
 cnt := by have := h.cnt; simp; omega
 ok := fun x hx => (List.mem_append.1 hx).elim (fun hx => h.ok x hx) (fun hx => (by simp at hx; rw [hx]; exact hv))
 sml := fun x hx => (List.mem_append.1 hx).elim (fun hx => h.sml x hx) (fun hx => (by simp at hx; rw [hx]; exact hs))
 nod := h.nod
 wpos := h.wpos
 room := by
  have := h.room
  rw [List.map_append, List.map_cons, List.map_nil, sum_add]
  omega
theorem mem_set' {l : List Int} {i : Nat} {x y : Int} (h : y ∈ l.set i x) : y ∈ l ∨ y = x := List.mem_or_eq_of_mem_set h
theorem Inv.turn (h : Inv A H W B) (i : Nat) (x : Int) (h0 : 0 ≤ x) (hx : x ≤ B + 1) : Inv A (H.set i x) W (B + 1) where
 ne := h.ne
 len := by simp [h.len]
 pos := fun y hy => (mem_set' hy).elim (fun hy => h.pos y hy) (fun e => by omega)
 top := fun y hy => (mem_set' hy).elim (fun hy => (by have := h.top y hy; omega)) (fun e => by omega)
 cnt := by have := h.cnt; omega
 ok := h.ok
 sml := h.sml
 nod := h.nod
 wpos := h.wpos
 room := by have := h.room; omega
theorem Inv.begin (h : Inv A H W B) (k : Int) (h0 : 1 ≤ k) (h1 : k ≤ 2147483647) (hk : k ∉ W) : Inv A H (W ++ [k]) (B + 1) where
 ne := h.ne
 len := h.len
 pos := h.pos
 top := fun y hy => by have := h.top y hy; omega
 cnt := by have := h.cnt; omega
 ok := h.ok
 sml := h.sml
 nod := by
  rw [List.nodup_append]
  exact ⟨h.nod, by simp, fun a ha b hb => by simp at hb; subst hb; exact fun e => hk (e ▸ ha)⟩
 wpos := fun x hx => (List.mem_append.1 hx).elim (fun hx => h.wpos x hx) (fun hx => (by simp at hx; omega))
 room := by have := h.room; simp; omega
theorem Inv.fin (h : Inv A H W B) (k : Int) : Inv A H (W.filter fun n => !(n == k)) B where
 ne := h.ne
 len := h.len
 pos := h.pos
 top := h.top
 cnt := h.cnt
 ok := h.ok
 sml := h.sml
 nod := h.nod.filter _
 wpos := fun x hx => h.wpos x (List.mem_filter.1 hx).1
 room := by have := h.room; have := List.length_filter_le (fun n => !(n == k)) W; omega
end Lv
end
section
/-! What makes levels a version's: order and unlike numbers. Plain. -/
namespace Lv
open Go LvS0 LvS1
def okL (i : Nat) : Option Lk.LFile → List Lk.LFile → Bool
 | _, [] => true
 | prev, f :: rest => mayB f && (match prev with | none => true | some p => !bad i p f) && okL i (some f) rest
def okA (i : Nat) : Levels → Bool
 | [] => true
 | y :: rest => okL i none y && okA (i + 1) rest
def keys (l : List (Int × Int)) : List Int := l.map (·.1)
theorem has_keys (l : List (Int × Int)) (k : Int) : has l k = true ↔ k ∈ keys l := by
 unfold has keys
 rw [List.any_eq_true]
 constructor
 ·rintro ⟨p, hp, e⟩; exact List.mem_map.2 ⟨p, hp, by simpa using e⟩
 ·intro h
  obtain ⟨p, hp, e⟩ := List.mem_map.1 h
  exact ⟨p, hp, by simpa using e⟩
theorem inner_iff (i : Nat) : ∀ (y : List Lk.LFile) (prev : Option Lk.LFile) (seen : List (Int × Int)), (∀ p ∈ seen, p.2 = 1) → ∃ s, (inner i prev y seen = some s ∨ inner i prev y seen = none) ∧
  (inner i prev y seen = some s → (∀ p ∈ s, p.2 = 1) ∧ keys s = keys seen ++ y.map (·.1)) ∧
  ((inner i prev y seen).isSome = true ↔ okL i prev y = true ∧ (y.map fun f => f.1).Nodup ∧ ∀ n ∈ y.map (fun f => f.1), n ∉ keys seen)
 | [], prev, seen, h => ⟨seen, .inl rfl, fun _ => ⟨h, by simp⟩, by simp [inner, okL]⟩
 | f :: rest, prev, seen, h => by
  rw [inner_cons]
  have hc : (get seen f.1).getD 0 + 1 ≤ 1 ↔ f.1 ∉ keys seen := by
   rw [← has_keys, has_get]
   cases hg : get seen f.1 with
   | none => simp
   | some v => have := h _ (get_mem hg); simp at this; subst this; simp
  by_cases h1 : mayB f = false ∨ 1 < (get seen f.1).getD 0 + 1
  ·rw [if_pos h1]
   refine ⟨seen, .inr rfl, fun e => (by cases e), ?_⟩
   simp only [Option.isSome_none, Bool.false_eq_true, false_iff, okL, Bool.and_eq_true]
   rintro ⟨⟨⟨hm, _⟩, _⟩, _, hk⟩
   rcases h1 with h1 | h1
   ·rw [hm] at h1; cases h1
   ·have := hc.2 (hk f.1 (by simp)); omega
  ·rw [if_neg h1]
   have hm : mayB f = true := by cases hm : mayB f with | true => rfl | false => exact (h1 (.inl hm)).elim
   have hnk : f.1 ∉ keys seen := hc.1 (by omega)
   have hg : get seen f.1 = none := by
    cases hg : get seen f.1 with
    | none => rfl
    | some v => exact (hnk ((has_keys seen f.1).1 (has_of hg))).elim
   have hput : put seen f.1 ((get seen f.1).getD 0 + 1) = seen ++ [(f.1, 1)] := by
    unfold put
    rw [hasn hg, hg]; rfl
   rw [hput]
   have hs : ∀ p ∈ seen ++ [(f.1, (1 : Int))], p.2 = 1 := fun p hp => by
    rcases List.mem_append.1 hp with hp | hp
    ·exact h p hp
    ·simp at hp; rw [hp]
   obtain ⟨s, g1, g2, g3⟩ := inner_iff i rest (some f) _ hs
   have hk : keys (seen ++ [(f.1, (1 : Int))]) = keys seen ++ [f.1] := by simp [keys]
   have key : ((inner i (some f) rest (seen ++ [(f.1, 1)])).isSome = true) ↔ okL i (some f) rest = true ∧ ((f :: rest).map fun f => f.1).Nodup ∧ ∀ n ∈ (f :: rest).map (fun f => f.1), n ∉ keys seen := by
    rw [g3, hk]
    simp only [List.map_cons, List.nodup_cons, List.mem_append, List.mem_cons, List.not_mem_nil, or_false, not_or]
    constructor
    ·rintro ⟨a, b, c⟩
     exact ⟨a, ⟨fun hf => (c _ hf).2 rfl, b⟩, fun n hn => hn.elim (fun e => e ▸ hnk) fun hn => (c n hn).1⟩
    ·rintro ⟨a, ⟨b1, b2⟩, c⟩
     exact ⟨a, b2, fun n hn => ⟨c n (.inr hn), fun e => b1 (e ▸ hn)⟩⟩
   cases prev with
   | none =>
    refine ⟨s, g1, fun e => ?_, ?_⟩
    ·obtain ⟨a, b⟩ := g2 e
     exact ⟨a, by rw [b, hk]; simp⟩
    ·simp only [key, okL, hm, Bool.true_and]
   | some p =>
    simp only
    cases hb : bad i p f with
    | true =>
     refine ⟨s, .inr rfl, fun e => (by cases e), ?_⟩
     simp [okL, hb]
    | false =>
     refine ⟨s, g1, fun e => ?_, ?_⟩
     ·obtain ⟨a, b⟩ := g2 e
      exact ⟨a, by rw [b, hk]; simp⟩
     ·simp only [cond_false, key, okL, hm, hb, Bool.true_and, Bool.not_false]
theorem outer_iff : ∀ (x : Levels) (i : Nat) (seen : List (Int × Int)), (∀ p ∈ seen, p.2 = 1) → (outer i x seen = true ↔ okA i x = true ∧ (nums x).Nodup ∧ ∀ n ∈ nums x, n ∉ keys seen)
 | [], i, seen, _ => by simp [outer, okA, nums]
 | y :: rest, i, seen, h => by
  obtain ⟨s, g1, g2, g3⟩ := inner_iff i y none seen h
  have hn : nums (y :: rest) = y.map (fun f => f.1) ++ nums rest := by simp [nums]
  rw [outer, hn, okA]
  rcases g1 with e | e
  ·rw [e] at g3
   obtain ⟨a, b⟩ := g2 e
   rw [e]
   simp only
   rw [outer_iff rest (i + 1) s a, b]
   have g3 := g3.1 rfl
   simp only [List.mem_append, not_or, List.nodup_append, Bool.and_eq_true]
   constructor
   ·rintro ⟨c1, c2, c3⟩
    exact ⟨⟨g3.1, c1⟩, ⟨g3.2.1, c2, fun n hn m hm e => (c3 m hm).2 (e ▸ hn)⟩, fun n hn => hn.elim (g3.2.2 n) fun hn => (c3 n hn).1⟩
   ·rintro ⟨⟨_, c1⟩, ⟨_, c2, c3⟩, c4⟩
    exact ⟨c1, c2, fun n hn => ⟨c4 n (.inr hn), fun h' => c3 n h' n hn rfl⟩⟩
  ·rw [e] at g3
   rw [e]
   simp only [Bool.false_eq_true, false_iff, Bool.and_eq_true, List.nodup_append, List.mem_append]
   rintro ⟨⟨c1, _⟩, ⟨c2, _⟩, c3⟩
   have := g3.2 ⟨c1, c2, fun n hn => c3 n (.inl hn)⟩
   cases this
theorem valid_iff (x : Levels) : validM x = true ↔ (1 ≤ x.length ∧ x.length ≤ 7) ∧ okA 0 x = true ∧ (nums x).Nodup := by
 unfold validM
 rw [Bool.and_eq_true, Bool.and_eq_true, decide_eq_true_eq, decide_eq_true_eq, outer_iff x 0 [] (by simp)]
 simp [keys]
end Lv
end
section
/-! Insertion of a number into a row that rises; rows that rise are told by what is in them. Plain. -/
namespace Lw
open Go Lk Lv
open LvS1 (nums numsM sortI)
theorem ob_some' {α β : Type} (a : α) (f : α → Option β) : obind (some a) f = f a := by
 have h : ∀ o : Option α, o = some a → obind o f = f a := fun o e => by subst e; exact Option.bind_some a f
 exact h _ rfl
theorem sel_t' {α : Type} (x y : α) : sel true x y = x := by
 have h : ∀ c : Bool, c = true → sel c x y = x := fun c e => by subst e; exact sel_t x y
 exact h _ rfl
theorem sel_f' {α : Type} (x y : α) : sel false x y = y := by
 have h : ∀ c : Bool, c = false → sel c x y = y := fun c e => by subst e; exact sel_f x y
 exact h _ rfl
def ins : List Int → Int → List Int → List Int
 | [], x, Q => x :: Q
 | p :: r, x, Q => if x < p then ins r x (p :: Q) else (p :: r).reverse ++ x :: Q
theorem ins_perm : ∀ (r : List Int) (x : Int) (Q : List Int), (ins r x Q).Perm (x :: (r.reverse ++ Q))
 | [], x, Q => .refl _
 | p :: r, x, Q => by
  unfold ins
  split
  ·have := ins_perm r x (p :: Q)
   simpa using this
  ·exact List.perm_middle
theorem ins_sorted : ∀ (r : List Int) (x : Int) (Q : List Int), r.reverse.Pairwise (· ≤ ·) → Q.Pairwise (· ≤ ·) → (∀ p ∈ r, ∀ q ∈ Q, p ≤ q) → (∀ q ∈ Q, x ≤ q) → (ins r x Q).Pairwise (· ≤ ·)
 | [], x, Q, _, hQ, _, hx => List.pairwise_cons.2 ⟨hx, hQ⟩
 | p :: r, x, Q, hr, hQ, hpq, hx => by
  rw [List.reverse_cons, List.pairwise_append] at hr
  obtain ⟨h1, _, h3⟩ := hr
  unfold ins
  split
  ·rename_i hlt
   refine ins_sorted r x (p :: Q) h1 (List.pairwise_cons.2 ⟨fun q hq => hpq p (by simp) q hq, hQ⟩) (fun a ha q hq => ?_) (fun q hq => ?_)
   ·rcases List.mem_cons.1 hq with rfl | hq
    ·exact h3 a (by simpa using ha) q (by simp)
    ·exact hpq a (by simp [ha]) q hq
   ·rcases List.mem_cons.1 hq with rfl | hq
    ·exact Int.le_of_lt hlt
    ·exact hx q hq
  ·rename_i hge
   rw [List.pairwise_append]
   refine ⟨?_, List.pairwise_cons.2 ⟨hx, hQ⟩, fun a ha b hb => ?_⟩
   ·rw [List.reverse_cons, List.pairwise_append]
    exact ⟨h1, by simp, h3⟩
   ·have hap : a ≤ p := by
     rw [List.reverse_cons, List.mem_append] at ha
     rcases ha with ha | ha
     ·exact h3 a ha p (by simp)
     ·simp at ha; omega
    rcases List.mem_cons.1 hb with rfl | hb
    ·omega
    ·have := hpq p (by simp) b hb; omega
theorem sorted_eq : ∀ (l m : List Int), l.Pairwise (· ≤ ·) → m.Pairwise (· ≤ ·) → l.Perm m → l = m
 | [], m, _, _, h => (List.nil_perm.1 h).symm
 | a :: l, [], _, _, h => by have := h.length_eq; simp at this
 | a :: l, b :: m, hl, hm, h => by
  obtain ⟨h1, h2⟩ := List.pairwise_cons.1 hl
  obtain ⟨h3, h4⟩ := List.pairwise_cons.1 hm
  have hab : a = b := by
   have ha : a ∈ b :: m := h.subset (by simp)
   have hb : b ∈ a :: l := h.symm.subset (by simp)
   rcases List.mem_cons.1 ha with e | ha
   ·exact e
   ·rcases List.mem_cons.1 hb with e | hb
    ·exact e.symm
    ·have := h3 a ha; have := h1 b hb; omega
  subst hab
  rw [sorted_eq l m h2 h4 ((List.perm_cons a).1 h)]
theorem strict_le {l : List Int} (h : l.Pairwise (· < ·)) : l.Pairwise (· ≤ ·) := h.imp fun h => Int.le_of_lt h
theorem strict_nodup {l : List Int} (h : l.Pairwise (· < ·)) : l.Nodup := h.imp fun h => by omega
theorem sorted_strict {l : List Int} (h : l.Pairwise (· ≤ ·)) (hn : l.Nodup) : l.Pairwise (· < ·) := by
 induction l with
 | nil => exact .nil
 | cons a l ih =>
  obtain ⟨h1, h2⟩ := List.pairwise_cons.1 h
  obtain ⟨n1, n2⟩ := List.nodup_cons.1 hn
  exact List.pairwise_cons.2 ⟨fun b hb => by have := h1 b hb; have : a ≠ b := fun e => n1 (e ▸ hb); omega, ih h2 n2⟩
theorem strict_ext {l m : List Int} (hl : l.Pairwise (· < ·)) (hm : m.Pairwise (· < ·)) (h : ∀ x, x ∈ l ↔ x ∈ m) : l = m :=
 sorted_eq l m (strict_le hl) (strict_le hm) ((List.perm_ext_iff_of_nodup (strict_nodup hl) (strict_nodup hm)).2 h)
theorem sortI_perm (l : List Int) : (sortI l).Perm l := List.mergeSort_perm _ _
theorem sortI_sorted (l : List Int) : (sortI l).Pairwise (· ≤ ·) := by
 have := List.pairwise_mergeSort (le := fun x y : Int => decide (x ≤ y)) (fun a b c h1 h2 => by simp at *; omega) (fun a b => by simp; omega) l
 exact this.imp fun h => by simpa using h
theorem ins_rev_sorted {out : List Int} (h : out.Pairwise (· ≤ ·)) (x : Int) : (ins out.reverse x []).Pairwise (· ≤ ·) :=
 ins_sorted _ _ _ (by simpa using h) .nil (by simp) (by simp)
theorem ins_rev_perm (out : List Int) (x : Int) : (ins out.reverse x []).Perm (x :: out) := by
 have := ins_perm out.reverse x []
 simpa using this
def dd : List Int → List Int → List Int
 | [], out => out
 | x :: l, out => if out.contains x then dd l out else dd l (ins out.reverse x [])
theorem dd_spec : ∀ (l out : List Int), out.Pairwise (· < ·) → (dd l out).Pairwise (· < ·) ∧ (∀ x, x ∈ dd l out ↔ x ∈ out ∨ x ∈ l) ∧ (dd l out).length ≤ out.length + l.length
 | [], out, h => ⟨h, by simp [dd], by simp [dd]⟩
 | x :: l, out, h => by
  unfold dd
  split
  ·rename_i hc
   obtain ⟨h1, h2, h3⟩ := dd_spec l out h
   refine ⟨h1, fun y => ?_, by simp; omega⟩
   rw [h2, List.mem_cons]
   have hx : x ∈ out := by simpa using hc
   constructor
   ·rintro (h | h)
    ·exact .inl h
    ·exact .inr (.inr h)
   ·rintro (h | rfl | h)
    ·exact .inl h
    ·exact .inl hx
    ·exact .inr h
  ·rename_i hc
   have hx : x ∉ out := by simpa using hc
   have hp := ins_rev_perm out x
   have hs := sorted_strict (ins_rev_sorted (strict_le h) x) (hp.nodup_iff.2 (List.nodup_cons.2 ⟨hx, strict_nodup h⟩))
   obtain ⟨h1, h2, h3⟩ := dd_spec l _ hs
   refine ⟨h1, fun y => ?_, by have := hp.length_eq; simp at this ⊢; omega⟩
   rw [h2, hp.mem_iff, List.mem_cons, List.mem_cons]
   constructor
   ·rintro ((h | h) | h)
    ·exact .inr (.inl h)
    ·exact .inl h
    ·exact .inr (.inr h)
   ·rintro (h | h | h)
    ·exact .inl (.inr h)
    ·exact .inl (.inl h)
    ·exact .inr h
theorem compact_spec (d : Array Int) (hs : ∀ i j, i < j → j < d.size → d[i]! ≤ d[j]!) : ∀ m, m ≤ d.size → (Lib.compactUpTo d m).Pairwise (· < ·) ∧ ∀ x, x ∈ Lib.compactUpTo d m ↔ ∃ j, j < m ∧ x = d[j]!
 | 0, _ => by simp [Lib.compactUpTo]
 | m + 1, hm => by
  obtain ⟨h1, h2⟩ := compact_spec d hs m (by omega)
  rw [Lib.compactUpTo_succ]
  by_cases hk : m = 0 ∨ d[m]! ≠ d[m - 1]!
  ·have hkt : Lib.keeps d m = true := by
    rcases hk with rfl | hk
    ·exact Lib.keeps_lt_one d 0 (by omega)
    ·exact Lib.keeps_pos hk
   rw [if_pos hkt]
   refine ⟨List.pairwise_append.2 ⟨h1, by simp, fun a ha b hb => ?_⟩, fun x => ?_⟩
   ·simp only [List.mem_singleton] at hb
    subst hb
    obtain ⟨j, hj, rfl⟩ := (h2 a).1 ha
    rcases hk with rfl | hk
    ·omega
    ·have a1 := hs (m - 1) m (by omega) (by omega)
     rcases Nat.lt_or_ge j (m - 1) with hjm | hjm
     ·have := hs j (m - 1) hjm (by omega); omega
     ·have : j = m - 1 := by omega
      subst this; omega
   ·rw [List.mem_append, h2, List.mem_singleton]
    constructor
    ·rintro (⟨j, hj, rfl⟩ | rfl)
     ·exact ⟨j, by omega, rfl⟩
     ·exact ⟨m, by omega, rfl⟩
    ·rintro ⟨j, hj, rfl⟩
     rcases Nat.lt_or_ge j m with h | h
     ·exact .inl ⟨j, h, rfl⟩
     ·have : j = m := by omega
      subst this; exact .inr rfl
  ·have hm0 : 0 < m := by omega
   have he : d[m]! = d[m - 1]! := Classical.byContradiction fun h => hk (.inr h)
   rw [if_neg (by rw [Lib.keeps_neg hm0 he]; simp), List.append_nil]
   refine ⟨h1, fun x => ?_⟩
   rw [h2]
   constructor
   ·rintro ⟨j, hj, rfl⟩
    exact ⟨j, by omega, rfl⟩
   ·rintro ⟨j, hj, rfl⟩
    rcases Nat.lt_or_ge j m with h | h
    ·exact ⟨j, h, rfl⟩
    ·have : j = m := by omega
     subst this
     exact ⟨j - 1, by omega, he⟩
theorem compact_sorted {l : List Int} (h : l.Pairwise (· ≤ ·)) : (Lib.compact l).Pairwise (· < ·) ∧ ∀ x, x ∈ Lib.compact l ↔ x ∈ l := by
 have hg : ∀ i, i < l.length → l.toArray[i]! = l.getD i 0 := fun i hi => by
  rw [List.getD_eq_getElem?_getD, List.getElem?_eq_getElem hi]
  simp [hi]
 obtain ⟨h1, h2⟩ := compact_spec l.toArray (fun i j hij hj => by
  have hj : j < l.length := by simpa using hj
  rw [hg i (by omega), hg j hj, List.getD_eq_getElem?_getD, List.getD_eq_getElem?_getD, List.getElem?_eq_getElem hj, List.getElem?_eq_getElem (show i < l.length by omega)]
  exact List.pairwise_iff_getElem.1 h i j (by omega) hj hij) l.length (by simp)
 refine ⟨h1, fun x => ?_⟩
 show x ∈ Lib.compactUpTo l.toArray l.length ↔ _
 rw [h2]
 constructor
 ·rintro ⟨j, hj, rfl⟩
  rw [hg j hj, List.getD_eq_getElem?_getD, List.getElem?_eq_getElem hj]
  exact List.getElem_mem hj
 ·intro hx
  obtain ⟨j, hj, rfl⟩ := List.mem_iff_getElem.1 hx
  exact ⟨j, hj, by rw [hg j hj, List.getD_eq_getElem?_getD, List.getElem?_eq_getElem hj]; rfl⟩
theorem tables_spec (s : Lk.LiveS) : (tablesS s).Pairwise (· < ·) ∧ ∀ x, x ∈ tablesS s ↔ x ∈ neededS s := by
 obtain ⟨h1, h2⟩ := compact_sorted (sortI_sorted (neededS s))
 exact ⟨h1, fun x => (h2 x).trans (sortI_perm _).mem_iff⟩
theorem dd_tables {s : Lk.LiveS} {l : List Int} (h : ∀ x, x ∈ l ↔ x ∈ neededS s) : dd l [] = tablesS s := by
 obtain ⟨h1, h2, _⟩ := dd_spec l [] .nil
 obtain ⟨h3, h4⟩ := tables_spec s
 exact strict_ext h1 h3 fun x => by rw [h2, h4, ← h]; simp
end Lw
end
