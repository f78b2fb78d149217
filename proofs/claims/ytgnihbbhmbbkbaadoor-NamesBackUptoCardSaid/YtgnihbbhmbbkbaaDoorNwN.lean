import Derived.Test.YtgnihbbhmbbkbaaDoorProg
import Derived.Test.YtgnihbbhmbbkbaaDoorLmTwo
import Derived.Test.YtgnihbbhmbbkbaaDoorNwX
import Derived.Lib.ItoaNum
import Derived.Lib.Repeat
import Derived.Test.YtgnihbbhmbbkbaaDoorNwP
import Derived.Test.YtgnihbbhmbbkbaaDoorNwM
set_option linter.all false
namespace NqGN
open Go Lk
noncomputable def tys : BT (Ty × Md) := (.node (.node (.node (.node (.node .leaf 2 (.i .i64, .r) .leaf) 3 (.i .i64, .r) (.node .leaf 4 (.b, .r) .leaf)) 5 (.by, .r) (.node (.node .leaf 6 (.by, .r) .leaf) 9 (.s, .r) .leaf)) 10 (.s, .r) (.node (.node (.node .leaf 11 (.s, .r) .leaf) 12 (.i .u64, .r) .leaf) 20 (.e, .r) (.node (.node .leaf 21 (.i .i32, .r) .leaf) 22 (.i .i64, .r) .leaf))) 32 (.l (.s), .o .r) (.node (.node (.node (.node .leaf 33 (.l (.i .i64), .o .r) .leaf) 34 (.l (.by), .o .r) (.node .leaf 61 (.i .u32, .r) .leaf)) 68 (.e, .r) (.node (.node .leaf 69 (.e, .r) .leaf) 87 (.i .u64, .r) .leaf)) 108 (.i .i64, .r) (.node (.node (.node .leaf 119 (.i .u64, .r) .leaf) 150 (.by, .r) .leaf) 151 (.by, .r) (.node (.node .leaf 153 (.i .i32, .r) .leaf) 154 (.i .i32, .r) .leaf))))
noncomputable def sigs : BT Sig := (.node (.node (.node (.node (.node .leaf 8 ⟨[(.i .i64, .r), (.i .i64, .r), (.s, .r)], [(.b, .r)]⟩ .leaf) 15 ⟨[], [(.b, .r)]⟩ .leaf) 25 ⟨[(.i .i64, .r), (.i .i64, .r)], [(.s, .r), (.i .i64, .r)]⟩ (.node (.node .leaf 26 ⟨[(.i .i64, .r), (.i .i64, .r)], [(.s, .r), (.i .i64, .r)]⟩ .leaf) 27 ⟨[(.s, .r)], [(.i .i64, .r), (.i .i64, .r), (.i .i64, .r)]⟩ .leaf)) 28 ⟨[(.s, .r)], [(.i .i64, .r), (.i .i64, .r), (.i .i64, .r)]⟩ (.node (.node (.node .leaf 29 ⟨[(.i .i64, .r)], [(.s, .r), (.i .i64, .r)]⟩ .leaf) 30 ⟨[(.i .i64, .r)], [(.s, .r), (.i .i64, .r)]⟩ .leaf) 31 ⟨[(.s, .r)], [(.i .i64, .r), (.i .i64, .r)]⟩ (.node (.node .leaf 32 ⟨[(.s, .r)], [(.i .i64, .r), (.i .i64, .r)]⟩ .leaf) 50 ⟨[(.i .i64, .r)], [(.s, .r)]⟩ .leaf))) 51 ⟨[(.i .i64, .r)], [(.s, .r)]⟩ (.node (.node (.node (.node .leaf 52 ⟨[(.i .i64, .r)], [(.s, .r)]⟩ .leaf) 53 ⟨[(.s, .r), (.s, .r)], [(.s, .r), (.b, .r)]⟩ .leaf) 54 ⟨[(.s, .r), (.s, .r)], [(.s, .r), (.b, .r)]⟩ (.node (.node .leaf 55 ⟨[(.s, .r)], [(.i .i64, .r), (.e, .r)]⟩ .leaf) 64 ⟨[(.s, .r), (.s, .r)], [(.b, .r)]⟩ .leaf)) 72 ⟨[(.i .i64, .r)], [(.s, .r)]⟩ (.node (.node (.node .leaf 73 ⟨[(.s, .r), (.i .i64, .r)], [(.s, .r)]⟩ .leaf) 74 ⟨[(.i .i64, .r)], [(.s, .r)]⟩ .leaf) 75 ⟨[(.s, .r), (.s, .r)], [(.s, .r), (.b, .r)]⟩ (.node (.node .leaf 76 ⟨[(.s, .r), (.s, .r)], [(.s, .r), (.b, .r)]⟩ .leaf) 89 ⟨[(.s, .r), (.s, .r)], [(.b, .r)]⟩ .leaf))))
noncomputable def bodies : BT Func := (.node (.node (.node (.node (.node .leaf 8 Go.Proofs.Tryd.f8 .leaf) 15 Go.Proofs.Tryd.f15 .leaf) 25 Go.Proofs.Tryd.f25 (.node (.node .leaf 26 Go.Proofs.Tryd.f26 .leaf) 27 Go.Proofs.Tryd.f27 .leaf)) 28 Go.Proofs.Tryd.f28 (.node (.node (.node .leaf 29 Go.Proofs.Tryd.f29 .leaf) 30 Go.Proofs.Tryd.f30 .leaf) 31 Go.Proofs.Tryd.f31 (.node .leaf 32 Go.Proofs.Tryd.f32 .leaf))) 50 Go.Proofs.Tryd.f50 (.node (.node (.node (.node .leaf 51 Go.Proofs.Tryd.f51 .leaf) 52 Go.Proofs.Tryd.f52 .leaf) 53 Go.Proofs.Tryd.f53 (.node .leaf 54 Go.Proofs.Tryd.f54 .leaf)) 64 Go.Proofs.Tryd.f64 (.node (.node (.node .leaf 74 Go.Proofs.Tryd.f74 .leaf) 75 Go.Proofs.Tryd.f75 .leaf) 76 Go.Proofs.Tryd.f76 (.node .leaf 89 Go.Proofs.Tryd.f89 .leaf))))
noncomputable def exts : BT Func := (.node (.node .leaf 55 Go.Proofs.Tryd.f55 .leaf) 72 Go.Proofs.Tryd.f72 (.node .leaf 73 Go.Proofs.Tryd.f73 .leaf))
noncomputable def lives : BT (List Nat) := (.node (.node (.node (.node (.node .leaf 32777 [1, 2] .leaf) 34824 [1, 2, 65] (.node .leaf 102407 [0, 1] .leaf)) 104450 [0, 1, 6] (.node (.node .leaf 104452 [0, 1, 13] .leaf) 106499 [0, 1] (.node .leaf 106501 [0, 1] .leaf))) 108546 [0, 1, 11] (.node (.node (.node .leaf 108548 [0, 1, 21] .leaf) 110599 [0, 2, 5] (.node .leaf 110600 [0, 2, 5, 24, 25, 26] .leaf)) 110605 [0, 2, 5, 24, 25, 26] (.node (.node .leaf 110612 [2, 3] .leaf) 112652 [0, 2, 5, 9, 10, 24, 25, 26, 41] .leaf))) 112659 [2, 3, 64] (.node (.node (.node (.node .leaf 114691 [0, 5, 6] .leaf) 114692 [0, 5, 6] (.node .leaf 114696 [0, 5, 7] .leaf)) 114697 [0, 5, 7] (.node (.node .leaf 116742 [0, 5, 6, 29] .leaf) 116748 [0, 5, 7, 54] (.node .leaf 126981 [7] .leaf))) 129028 [7, 29] (.node (.node (.node .leaf 131075 [0] .leaf) 131078 [5] (.node .leaf 133122 [0, 17] .leaf)) 133125 [5, 33] (.node (.node .leaf 212994 [3] .leaf) 303106 [0, 3] .leaf))))
open Go Lk NqG
noncomputable def ext72 : Nat → Tup [(.i .i64, .r)] → Option (Tup [(.s, .r)]) := fun _ x => bif decide (-9223372036854775808 ≤ x.1) && decide (x.1 ≤ 9223372036854775807) then some (Lib.itoa x.1, ()) else none
noncomputable def ext73 : Nat → Tup [(.s, .r), (.i .i64, .r)] → Option (Tup [(.s, .r)]) := fun _ x => bif decide (0 ≤ x.2.1) && decide (x.2.1 ≤ 1073741824) && Nat.ble x.1.length 100 then some (Lib.repeatL x.1 x.2.1.toNat, ()) else none
noncomputable def ext55 : Nat → Tup [(.s, .r)] → Option (Tup [(.i .i64, .r), (.e, .r)]) := fun _ x => bif Nat.ble x.1.length 2147483648 then some ((atoi x.1).1, (atoi x.1).2, ()) else none
noncomputable def ext : (f : FuncId) → Option (Nat → Tup ((sigs.get f).getD ⟨[], []⟩).ps → Option (Tup ((sigs.get f).getD ⟨[], []⟩).rs))
  | 72 => some ext72
  | 73 => some ext73
  | 55 => some ext55
  | _ => none
noncomputable def lims : BT Nat := (.node (.node .leaf 32 1073741824 .leaf) 34 1073741824 .leaf)
noncomputable def G : Prg where
  ty T := tys.get T
  lim T := (lims.get T).getD 0
  sig g := (sigs.get g).getD ⟨[], []⟩
  body g := bodies.get g
  ext g := ext g
  live g r := lives.get (Nat.add (Nat.mul g 4096) r)
end NqGN

namespace NqGN
open Go Lk NqG
set_option linter.unusedVariables false
/-- strconv.Itoa -/
@[irreducible] noncomputable def f72 (n : Nat) (a0 : Int) : Option (List UInt8 × Unit) := F G n 72 (a0, ())
theorem f72_eq (n : Nat) (a0 : Int) : f72 n a0 = bif decide (-9223372036854775808 ≤ a0) && decide (a0 ≤ 9223372036854775807) then some (Lib.itoa a0, ()) else none := by kernel_rfl
/-- strings.Repeat -/
@[irreducible] noncomputable def f73 (n : Nat) (a0 : List UInt8) (a1 : Int) : Option (List UInt8 × Unit) := F G n 73 (a0, a1, ())
theorem f73_eq (n : Nat) (a0 : List UInt8) (a1 : Int) : f73 n a0 a1 = bif decide (0 ≤ a1) && decide (a1 ≤ 1073741824) && Nat.ble a0.length 100 then some (Lib.repeatL a0 a1.toNat, ()) else none := by kernel_rfl
/-- moraine/names.Name -/
@[irreducible] noncomputable def f25 (n : Nat) (a0 : Int) (a1 : Int) : Option (List UInt8 × Int × Unit) := F G n 25 (a0, a1, ())
@[irreducible] noncomputable def p25_2050 (j : Nat) (n0 : Nat) (v0 : Int) (v1 : Int) (v6 : Bool) : Option (List UInt8 × Int × Unit) := piece G 25 [.r, .l, .b, .r] j [n0] (skel 43 0 [(0, .av ⟨(.i .i64), .r, v0⟩), (1, .av ⟨(.i .i64), .r, v1⟩), (6, .av ⟨.b, .r, v6⟩)])
@[irreducible] noncomputable def p25_2052 (j : Nat) (n0 : Nat) (n1 : Nat) (v0 : Int) (v1 : Int) (v13 : Bool) : Option (List UInt8 × Int × Unit) := piece G 25 [.r, .l, .b, .r, .f, .r] j [n0, n1] (skel 43 0 [(0, .av ⟨(.i .i64), .r, v0⟩), (1, .av ⟨(.i .i64), .r, v1⟩), (13, .av ⟨.b, .r, v13⟩)])
@[irreducible] noncomputable def p25_7 (j : Nat) (n0 : Nat) (v0 : Int) (v1 : Int) : Option (List UInt8 × Int × Unit) := piece G 25 [.r, .r] j [n0] (skel 43 0 [(0, .av ⟨(.i .i64), .r, v0⟩), (1, .av ⟨(.i .i64), .r, v1⟩)])
/-- moraine/names.padded -/
@[irreducible] noncomputable def f50 (n : Nat) (a0 : Int) : Option (List UInt8 × Unit) := F G n 50 (a0, ())
/-- moraine/names.tail -/
@[irreducible] noncomputable def f51 (n : Nat) (a0 : Int) : Option (List UInt8 × Unit) := F G n 51 (a0, ())
theorem f25_eq (n : Nat) (a0 : Int) (a1 : Int) : f25 (n + 1) a0 a1 =
  (sel (a0 == (4 : Int))
   (p25_2050 (n) (n) (a0) (a1) (a1 == (0 : Int)))
   (p25_2050 (n) (n) (a0) (a1) (Bool.false))) := by kernel_rfl
theorem p25_2050_eq (j : Nat) (n0 : Nat) (v0 : Int) (v1 : Int) (v6 : Bool) : p25_2050 (j + 1) n0 v0 v1 v6 =
  (sel (v6)
   (some ([(67 : UInt8), (85 : UInt8), (82 : UInt8), (82 : UInt8), (69 : UInt8), (78 : UInt8), (84 : UInt8)], (0 : Int), ()))
   (sel (v0 == (4 : Int))
    (p25_2052 (j) (n0) (j) (v0) (v1) (Bool.true))
    (sel (Decidable.decide (v0 < (1 : Int)))
     (p25_2052 (j) (n0) (j) (v0) (v1) (Bool.true))
     (sel (Decidable.decide (v0 > (5 : Int)))
      (p25_2052 (j) (n0) (j) (v0) (v1) (Bool.true))
      (sel (Decidable.decide (v1 < (1 : Int)))
       (p25_2052 (j) (n0) (j) (v0) (v1) (Bool.true))
       (p25_2052 (j) (n0) (j) (v0) (v1) (Decidable.decide (v1 > (2147483647 : Int))))))))) := by kernel_rfl
theorem p25_2052_eq (j : Nat) (n0 : Nat) (n1 : Nat) (v0 : Int) (v1 : Int) (v13 : Bool) : p25_2052 (j + 1) n0 n1 v0 v1 v13 =
  (sel (v13)
   (some ([], (60 : Int), ()))
   (sel (v0 == (3 : Int))
    (obind (f50 j (v1)) fun r774 =>
     (sel (Decidable.decide ([(77 : UInt8), (65 : UInt8), (78 : UInt8), (73 : UInt8), (70 : UInt8), (69 : UInt8), (83 : UInt8), (84 : UInt8), (45 : UInt8)].length + List.length r774.fst ≤ Lk.big))
      (some ([(77 : UInt8), (65 : UInt8), (78 : UInt8), (73 : UInt8), (70 : UInt8), (69 : UInt8), (83 : UInt8), (84 : UInt8), (45 : UInt8)] ++ r774.fst, (0 : Int), ()))
      none))
    (p25_7 (n0) (n0) (v0) (v1)))) := by kernel_rfl
theorem p25_7_eq (j : Nat) (n0 : Nat) (v0 : Int) (v1 : Int) : p25_7 (j + 1) n0 v0 v1 =
  (obind (f50 j (v1)) fun r841 =>
   (obind (f51 j (v0)) fun r856 =>
    (sel (Decidable.decide (List.length r841.fst + List.length r856.fst ≤ Lk.big))
     (some (r841.fst ++ r856.fst, (0 : Int), ()))
     none))) := by kernel_rfl
theorem f50_eq (n : Nat) (a0 : Int) : f50 (n + 1) a0 =
  (obind (f72 n (a0)) fun r37 =>
   (obind (f73 n ([(48 : UInt8)]) (Lk.imax (Go.IntKind.i64.wrap ((6 : Int) - (↑(List.length r37.fst) : Int))) (0 : Int))) fun r87 =>
    (sel (Decidable.decide (List.length r87.fst + List.length r37.fst ≤ Lk.big))
     (some (r87.fst ++ r37.fst, ()))
     none))) := by kernel_rfl
theorem f51_eq (n : Nat) (a0 : Int) : f51 (n + 1) a0 =
  (sel (a0 == (1 : Int))
   (some ([(46 : UInt8), (108 : UInt8), (111 : UInt8), (103 : UInt8)], ()))
   (sel (a0 == (2 : Int))
    (some ([(46 : UInt8), (116 : UInt8), (97 : UInt8), (98 : UInt8)], ()))
    (sel (a0 == (5 : Int))
     (some ([(46 : UInt8), (116 : UInt8), (109 : UInt8), (112 : UInt8)], ()))
     (some ([], ()))))) := by kernel_rfl
end NqGN

namespace NqGN
open Go Lk NqG
noncomputable def theFnsM : Nq.FnsM := { 
  f72 := f72,
  f73 := f73,
  f25 := f25,
  p25_2050 := p25_2050,
  p25_2052 := p25_2052,
  p25_7 := p25_7,
  f50 := f50,
  f51 := f51,
  f72_eq := f72_eq,
  f73_eq := f73_eq,
  f25_eq := f25_eq,
  p25_2050_eq := p25_2050_eq,
  p25_2052_eq := p25_2052_eq,
  p25_7_eq := p25_7_eq,
  f50_eq := f50_eq,
  f51_eq := f51_eq }
end NqGN

namespace NqGN
open Go Lk NqG
set_option linter.unusedVariables false
/-- strconv.Atoi -/
@[irreducible] noncomputable def f55 (n : Nat) (a0 : List UInt8) : Option (Int × Bool × Unit) := F G n 55 (a0, ())
theorem f55_eq (n : Nat) (a0 : List UInt8) : f55 n a0 = bif Nat.ble a0.length 2147483648 then some ((atoi a0).1, (atoi a0).2, ()) else none := by kernel_rfl
/-- moraine/names.Parse -/
@[irreducible] noncomputable def f27 (n : Nat) (a0 : List UInt8) : Option (Int × Int × Int × Unit) := F G n 27 (a0, ())
@[irreducible] noncomputable def p27_7 (j : Nat) (n0 : Nat) (v0 : List UInt8) (v2 : Int) (v5 : List UInt8) : Option (Int × Int × Int × Unit) := piece G 27 [.r, .r, .r, .r] j [n0] (skel 67 0 [(0, .av ⟨.s, .r, v0⟩), (2, .av ⟨(.i .i64), .r, v2⟩), (5, .av ⟨.s, .r, v5⟩)])
@[irreducible] noncomputable def p27_8 (j : Nat) (n0 : Nat) (n1 : Nat) (v0 : List UInt8) (v2 : Int) (v5 : List UInt8) (v24 : List (Int)) (v25 : Int) (v26 : Int) : Option (Int × Int × Int × Unit) := piece G 27 [.r, .r, .r, .r, .l, .r, .b] j [n0, n1] (skel 67 0 [(0, .av ⟨.s, .r, v0⟩), (2, .av ⟨(.i .i64), .r, v2⟩), (5, .av ⟨.s, .r, v5⟩), (24, .av ⟨(.l (.i .i64)), (.o .r), v24⟩), (25, .av ⟨(.i .i64), .r, v25⟩), (26, .av ⟨(.i .i64), .r, v26⟩)])
@[irreducible] noncomputable def p27_2060 (j : Nat) (n0 : Nat) (n1 : Nat) (n2 : Nat) (v0 : List UInt8) (v2 : Int) (v5 : List UInt8) (v9 : Int) (v10 : List UInt8) (v24 : List (Int)) (v25 : Int) (v26 : Int) (v41 : Bool) : Option (Int × Int × Int × Unit) := piece G 27 [.r, .r, .r, .r, .l, .r, .b, .o, .r, .r, .l, .b, .r, .r, .r] j [n0, n1, n2] (skel 67 0 [(0, .av ⟨.s, .r, v0⟩), (2, .av ⟨(.i .i64), .r, v2⟩), (5, .av ⟨.s, .r, v5⟩), (9, .av ⟨(.i .i64), .r, v9⟩), (10, .av ⟨.s, .r, v10⟩), (24, .av ⟨(.l (.i .i64)), (.o .r), v24⟩), (25, .av ⟨(.i .i64), .r, v25⟩), (26, .av ⟨(.i .i64), .r, v26⟩), (41, .av ⟨.b, .r, v41⟩)])
@[irreducible] noncomputable def p27_2067 (j : Nat) (n0 : Nat) (n1 : Nat) (v2 : Int) (v3 : Int) (v64 : Bool) : Option (Int × Int × Int × Unit) := piece G 27 [.r, .r, .r, .r, .r, .r, .r, .l, .r, .r] j [n0, n1] (skel 67 0 [(2, .av ⟨(.i .i64), .r, v2⟩), (3, .av ⟨(.i .i64), .r, v3⟩), (64, .av ⟨.b, .r, v64⟩)])
@[irreducible] noncomputable def p27_13 (j : Nat) (n0 : Nat) (n1 : Nat) (n2 : Nat) (v0 : List UInt8) (v2 : Int) (v5 : List UInt8) (v24 : List (Int)) (v25 : Int) (v26 : Int) : Option (Int × Int × Int × Unit) := piece G 27 [.r, .r, .r, .r, .l, .r, .b, .o, .r, .r, .r] j [n0, n1, n2] (skel 67 0 [(0, .av ⟨.s, .r, v0⟩), (2, .av ⟨(.i .i64), .r, v2⟩), (5, .av ⟨.s, .r, v5⟩), (24, .av ⟨(.l (.i .i64)), (.o .r), v24⟩), (25, .av ⟨(.i .i64), .r, v25⟩), (26, .av ⟨(.i .i64), .r, v26⟩)])
@[irreducible] noncomputable def p27_20 (j : Nat) (n0 : Nat) (n1 : Nat) (v2 : Int) (v3 : Int) : Option (Int × Int × Int × Unit) := piece G 27 [.r, .r, .r, .r, .r, .r, .r, .r] j [n0, n1] (skel 67 0 [(2, .av ⟨(.i .i64), .r, v2⟩), (3, .av ⟨(.i .i64), .r, v3⟩)])
/-- moraine/names.Current -/
@[irreducible] noncomputable def f29 (n : Nat) (a0 : Int) : Option (List UInt8 × Int × Unit) := F G n 29 (a0, ())
/-- moraine/names.Named -/
@[irreducible] noncomputable def f31 (n : Nat) (a0 : List UInt8) : Option (Int × Int × Unit) := F G n 31 (a0, ())
@[irreducible] noncomputable def p31_2052 (j : Nat) (n0 : Nat) (v7 : Int) (v29 : Bool) : Option (Int × Int × Unit) := piece G 31 [.r, .r, .r, .l, .r] j [n0] (skel 31 0 [(7, .av ⟨(.i .i64), .r, v7⟩), (29, .av ⟨.b, .r, v29⟩)])
@[irreducible] noncomputable def p31_5 (j : Nat) (n0 : Nat) (v7 : Int) : Option (Int × Int × Unit) := piece G 31 [.r, .r, .r, .r] j [n0] (skel 31 0 [(7, .av ⟨(.i .i64), .r, v7⟩)])
/-- strings.CutPrefix -/
@[irreducible] noncomputable def f53 (n : Nat) (a0 : List UInt8) (a1 : List UInt8) : Option (List UInt8 × Bool × Unit) := F G n 53 (a0, a1, ())
/-- strings.CutSuffix -/
@[irreducible] noncomputable def f54 (n : Nat) (a0 : List UInt8) (a1 : List UInt8) : Option (List UInt8 × Bool × Unit) := F G n 54 (a0, a1, ())
/-- internal/stringslite.CutPrefix -/
@[irreducible] noncomputable def f75 (n : Nat) (a0 : List UInt8) (a1 : List UInt8) : Option (List UInt8 × Bool × Unit) := F G n 75 (a0, a1, ())
/-- internal/stringslite.CutSuffix -/
@[irreducible] noncomputable def f76 (n : Nat) (a0 : List UInt8) (a1 : List UInt8) : Option (List UInt8 × Bool × Unit) := F G n 76 (a0, a1, ())
/-- internal/stringslite.HasSuffix -/
@[irreducible] noncomputable def f89 (n : Nat) (a0 : List UInt8) (a1 : List UInt8) : Option (Bool × Unit) := F G n 89 (a0, a1, ())
/-- internal/stringslite.HasPrefix -/
@[irreducible] noncomputable def f64 (n : Nat) (a0 : List UInt8) (a1 : List UInt8) : Option (Bool × Unit) := F G n 64 (a0, a1, ())
theorem f27_eq (n : Nat) (a0 : List UInt8) : f27 (n + 1) a0 =
  (sel (a0 == [(67 : UInt8), (85 : UInt8), (82 : UInt8), (82 : UInt8), (69 : UInt8), (78 : UInt8), (84 : UInt8)])
   (some ((4 : Int), (0 : Int), (0 : Int), ()))
   (obind (f53 n (a0) ([(77 : UInt8), (65 : UInt8), (78 : UInt8), (73 : UInt8), (70 : UInt8), (69 : UInt8), (83 : UInt8), (84 : UInt8), (45 : UInt8)])) fun r137 =>
    (sel (r137.snd.fst)
     (p27_7 (n) (n) (a0) ((3 : Int)) (r137.fst))
     (p27_7 (n) (n) (a0) ((0 : Int)) ([]))))) := by kernel_rfl
theorem p27_7_eq (j : Nat) (n0 : Nat) (v0 : List UInt8) (v2 : Int) (v5 : List UInt8) : p27_7 (j + 1) n0 v0 v2 v5 =
  (p27_8 (j) (n0) (j) (v0) (v2) (v5) ([(1 : Int), (2 : Int), (5 : Int)]) ((↑[(1 : Int), (2 : Int), (5 : Int)].length : Int)) ((0 : Int))) := by kernel_rfl
theorem p27_8_eq (j : Nat) (n0 : Nat) (n1 : Nat) (v0 : List UInt8) (v2 : Int) (v5 : List UInt8) (v24 : List (Int)) (v25 : Int) (v26 : Int) : p27_8 (j + 1) n0 n1 v0 v2 v5 v24 v25 v26 =
  (sel (Decidable.decide (v26 < v25))
   (sel (Decidable.decide ((0 : Int) ≤ v26))
    (sel (Decidable.decide (v26 < (↑v24.length : Int)))
     (obind (f51 j (v24.getD v26.toNat (0 : Int))) fun r342 =>
      (obind (f54 j (v0) (r342.fst)) fun r350 =>
       (sel (r350.snd.fst)
        (p27_2060 (j) (n0) (n1) (j) (v0) (v2) (v5) (v24.getD v26.toNat (0 : Int)) (r350.fst) (v24) (v25) (v26) (v2 == (0 : Int)))
        (p27_2060 (j) (n0) (n1) (j) (v0) (v2) (v5) (v24.getD v26.toNat (0 : Int)) (r350.fst) (v24) (v25) (v26) (Bool.false)))))
     none)
    none)
   (obind (f55 n1 (v5)) fun r496 =>
    (sel (r496.snd.fst)
     (some ((0 : Int), (0 : Int), (60 : Int), ()))
     (obind (f25 n1 (v2) (r496.fst)) fun r632 =>
      (sel (r632.snd.fst != (0 : Int))
       (p27_2067 (n1) (n0) (n1) (v2) (r496.fst) (Bool.true))
       (p27_2067 (n1) (n0) (n1) (v2) (r496.fst) (!r632.fst == v0))))))) := by kernel_rfl
theorem p27_2060_eq (j : Nat) (n0 : Nat) (n1 : Nat) (n2 : Nat) (v0 : List UInt8) (v2 : Int) (v5 : List UInt8) (v9 : Int) (v10 : List UInt8) (v24 : List (Int)) (v25 : Int) (v26 : Int) (v41 : Bool) : p27_2060 (j + 1) n0 n1 n2 v0 v2 v5 v9 v10 v24 v25 v26 v41 =
  (sel (v41)
   (p27_13 (n2) (n0) (n1) (n2) (v0) (v9) (v10) (v24) (v25) (v26))
   (p27_13 (n2) (n0) (n1) (n2) (v0) (v2) (v5) (v24) (v25) (v26))) := by kernel_rfl
theorem p27_2067_eq (j : Nat) (n0 : Nat) (n1 : Nat) (v2 : Int) (v3 : Int) (v64 : Bool) : p27_2067 (j + 1) n0 n1 v2 v3 v64 =
  (sel (v64)
   (some ((0 : Int), (0 : Int), (60 : Int), ()))
   (p27_20 (n1) (n0) (n1) (v2) (v3))) := by kernel_rfl
theorem p27_13_eq (j : Nat) (n0 : Nat) (n1 : Nat) (n2 : Nat) (v0 : List UInt8) (v2 : Int) (v5 : List UInt8) (v24 : List (Int)) (v25 : Int) (v26 : Int) : p27_13 (j + 1) n0 n1 n2 v0 v2 v5 v24 v25 v26 =
  (p27_8 (n2) (n0) (n1) (v0) (v2) (v5) (v24) (v25) (Go.IntKind.i64.wrap (v26 + (1 : Int)))) := by kernel_rfl
theorem p27_20_eq (j : Nat) (n0 : Nat) (n1 : Nat) (v2 : Int) (v3 : Int) : p27_20 (j + 1) n0 n1 v2 v3 =
  (some (v2, v3, (0 : Int), ())) := by kernel_rfl
theorem f29_eq (n : Nat) (a0 : Int) : f29 (n + 1) a0 =
  (obind (f25 n ((3 : Int)) (a0)) fun r44 =>
   (sel (r44.snd.fst != (0 : Int))
    (some ([], r44.snd.fst, ()))
    (sel (Decidable.decide (List.length r44.fst + [(10 : UInt8)].length ≤ Lk.big))
     (some (r44.fst ++ [(10 : UInt8)], (0 : Int), ()))
     none))) := by kernel_rfl
theorem f31_eq (n : Nat) (a0 : List UInt8) : f31 (n + 1) a0 =
  (obind (f54 n (a0) ([(10 : UInt8)])) fun r44 =>
   (obind (f27 n (r44.fst)) fun r101 =>
    (sel (!r44.snd.fst)
     (p31_2052 (n) (n) (r101.snd.fst) (Bool.true))
     (sel (r101.snd.snd.fst != (0 : Int))
      (p31_2052 (n) (n) (r101.snd.fst) (Bool.true))
      (p31_2052 (n) (n) (r101.snd.fst) (r101.fst != (3 : Int))))))) := by kernel_rfl
theorem p31_2052_eq (j : Nat) (n0 : Nat) (v7 : Int) (v29 : Bool) : p31_2052 (j + 1) n0 v7 v29 =
  (sel (v29)
   (some ((0 : Int), (60 : Int), ()))
   (p31_5 (n0) (n0) (v7))) := by kernel_rfl
theorem p31_5_eq (j : Nat) (n0 : Nat) (v7 : Int) : p31_5 (j + 1) n0 v7 =
  (some (v7, (0 : Int), ())) := by kernel_rfl
theorem f53_eq (n : Nat) (a0 : List UInt8) (a1 : List UInt8) : f53 (n + 1) a0 a1 =
  (obind (f75 n (a0) (a1)) fun r51 =>
   (some (r51.fst, r51.snd.fst, ()))) := by kernel_rfl
theorem f54_eq (n : Nat) (a0 : List UInt8) (a1 : List UInt8) : f54 (n + 1) a0 a1 =
  (obind (f76 n (a0) (a1)) fun r51 =>
   (some (r51.fst, r51.snd.fst, ()))) := by kernel_rfl
theorem f75_eq (n : Nat) (a0 : List UInt8) (a1 : List UInt8) : f75 (n + 1) a0 a1 =
  (obind (f64 n (a0) (a1)) fun r52 =>
   (sel (!r52.fst)
    (some (a0, Bool.false, ()))
    (sel (Decidable.decide ((0 : Int) ≤ (↑a1.length : Int)))
     (sel (Decidable.decide ((↑a1.length : Int) ≤ (↑a0.length : Int)))
      (some (Lk.ext a0 (↑a1.length : Int) (↑a0.length : Int), Bool.true, ()))
      none)
     none))) := by kernel_rfl
theorem f76_eq (n : Nat) (a0 : List UInt8) (a1 : List UInt8) : f76 (n + 1) a0 a1 =
  (obind (f89 n (a0) (a1)) fun r52 =>
   (sel (!r52.fst)
    (some (a0, Bool.false, ()))
    (sel (Decidable.decide ((0 : Int) ≤ Go.IntKind.i64.wrap ((↑a0.length : Int) - (↑a1.length : Int))))
     (sel (Decidable.decide (Go.IntKind.i64.wrap ((↑a0.length : Int) - (↑a1.length : Int)) ≤ (↑a0.length : Int)))
      (some (Lk.ext a0 (0 : Int) (Go.IntKind.i64.wrap ((↑a0.length : Int) - (↑a1.length : Int))), Bool.true, ()))
      none)
     none))) := by kernel_rfl
theorem f89_eq (n : Nat) (a0 : List UInt8) (a1 : List UInt8) : f89 (n + 1) a0 a1 =
  (sel (Decidable.decide ((↑a0.length : Int) ≥ (↑a1.length : Int)))
   (sel (Decidable.decide ((0 : Int) ≤ Go.IntKind.i64.wrap ((↑a0.length : Int) - (↑a1.length : Int))))
    (sel (Decidable.decide (Go.IntKind.i64.wrap ((↑a0.length : Int) - (↑a1.length : Int)) ≤ (↑a0.length : Int)))
     (some (Lk.ext a0 (Go.IntKind.i64.wrap ((↑a0.length : Int) - (↑a1.length : Int))) (↑a0.length : Int) == a1, ()))
     none)
    none)
   (some (Bool.false, ()))) := by kernel_rfl
theorem f64_eq (n : Nat) (a0 : List UInt8) (a1 : List UInt8) : f64 (n + 1) a0 a1 =
  (sel (Decidable.decide ((↑a0.length : Int) ≥ (↑a1.length : Int)))
   (sel (Decidable.decide ((0 : Int) ≤ (↑a1.length : Int)))
    (sel (Decidable.decide ((↑a1.length : Int) ≤ (↑a0.length : Int)))
     (some (Lk.ext a0 (0 : Int) (↑a1.length : Int) == a1, ()))
     none)
    none)
   (some (Bool.false, ()))) := by kernel_rfl
end NqGN

namespace NqGN
open Go Lk NqG
noncomputable def theFnsP : Nq.FnsP := { theFnsM with
  f55 := f55,
  f27 := f27,
  p27_7 := p27_7,
  p27_8 := p27_8,
  p27_2060 := p27_2060,
  p27_2067 := p27_2067,
  p27_13 := p27_13,
  p27_20 := p27_20,
  f29 := f29,
  f31 := f31,
  p31_2052 := p31_2052,
  p31_5 := p31_5,
  f53 := f53,
  f54 := f54,
  f75 := f75,
  f76 := f76,
  f89 := f89,
  f64 := f64,
  f55_eq := f55_eq,
  f27_eq := f27_eq,
  p27_7_eq := p27_7_eq,
  p27_8_eq := p27_8_eq,
  p27_2060_eq := p27_2060_eq,
  p27_2067_eq := p27_2067_eq,
  p27_13_eq := p27_13_eq,
  p27_20_eq := p27_20_eq,
  f29_eq := f29_eq,
  f31_eq := f31_eq,
  p31_2052_eq := p31_2052_eq,
  p31_5_eq := p31_5_eq,
  f53_eq := f53_eq,
  f54_eq := f54_eq,
  f75_eq := f75_eq,
  f76_eq := f76_eq,
  f89_eq := f89_eq,
  f64_eq := f64_eq }
end NqGN

namespace NqGN
open Go Lk NqG
set_option linter.unusedVariables false
/-- moraine/morainelaw06.NamesNames -/
@[irreducible] noncomputable def f8 (n : Nat) (a0 : Int) (a1 : Int) (a2 : List UInt8) : Option (Bool × Unit) := F G n 8 (a0, a1, a2, ())
@[irreducible] noncomputable def p8_2056 (j : Nat) (n0 : Nat) (v1 : Int) (v2 : List UInt8) (v65 : Bool) : Option (Bool × Unit) := piece G 8 [.r, .r, .r, .r, .r, .r, .l, .r] j [n0] (skel 104 0 [(1, .av ⟨(.i .i64), .r, v1⟩), (2, .av ⟨.s, .r, v2⟩), (65, .av ⟨.b, .r, v65⟩)])
@[irreducible] noncomputable def p8_9 (j : Nat) (n0 : Nat) (v1 : Int) (v2 : List UInt8) : Option (Bool × Unit) := piece G 8 [.r, .r, .r, .r, .r, .r, .r] j [n0] (skel 104 0 [(1, .av ⟨(.i .i64), .r, v1⟩), (2, .av ⟨.s, .r, v2⟩)])
/-- moraine/morainelaw06.numbers -/
@[irreducible] noncomputable def f15 (n : Nat)  : Option (Bool × Unit) := F G n 15 (())
/-- moraine/moraineref06.Name -/
@[irreducible] noncomputable def f26 (n : Nat) (a0 : Int) (a1 : Int) : Option (List UInt8 × Int × Unit) := F G n 26 (a0, a1, ())
@[irreducible] noncomputable def p26_2050 (j : Nat) (n0 : Nat) (v0 : Int) (v1 : Int) (v11 : Bool) : Option (List UInt8 × Int × Unit) := piece G 26 [.r, .l, .r] j [n0] (skel 43 0 [(0, .av ⟨(.i .i64), .r, v0⟩), (1, .av ⟨(.i .i64), .r, v1⟩), (11, .av ⟨.b, .r, v11⟩)])
@[irreducible] noncomputable def p26_3 (j : Nat) (n0 : Nat) (v0 : Int) (v1 : Int) : Option (List UInt8 × Int × Unit) := piece G 26 [.r, .r] j [n0] (skel 43 0 [(0, .av ⟨(.i .i64), .r, v0⟩), (1, .av ⟨(.i .i64), .r, v1⟩)])
@[irreducible] noncomputable def p26_2052 (j : Nat) (n0 : Nat) (n1 : Nat) (v0 : Int) (v1 : Int) (v21 : Bool) : Option (List UInt8 × Int × Unit) := piece G 26 [.r, .r, .l, .r] j [n0, n1] (skel 43 0 [(0, .av ⟨(.i .i64), .r, v0⟩), (1, .av ⟨(.i .i64), .r, v1⟩), (21, .av ⟨.b, .r, v21⟩)])
@[irreducible] noncomputable def p26_5 (j : Nat) (n0 : Nat) (n1 : Nat) (v0 : Int) (v1 : Int) : Option (List UInt8 × Int × Unit) := piece G 26 [.r, .r, .r] j [n0, n1] (skel 43 0 [(0, .av ⟨(.i .i64), .r, v0⟩), (1, .av ⟨(.i .i64), .r, v1⟩)])
/-- moraine/moraineref06.Parse -/
@[irreducible] noncomputable def f28 (n : Nat) (a0 : List UInt8) : Option (Int × Int × Int × Unit) := F G n 28 (a0, ())
@[irreducible] noncomputable def p28_3 (j : Nat) (n0 : Nat) (v0 : List UInt8) (v5 : Int) (v6 : Int) : Option (Int × Int × Int × Unit) := piece G 28 [.r, .r, .l, .r, .b] j [n0] (skel 57 0 [(0, .av ⟨.s, .r, v0⟩), (5, .av ⟨(.i .i64), .r, v5⟩), (6, .av ⟨(.i .i64), .r, v6⟩)])
@[irreducible] noncomputable def p28_2054 (j : Nat) (n0 : Nat) (n1 : Nat) (v0 : List UInt8) (v5 : Int) (v6 : Int) (v29 : Bool) : Option (Int × Int × Int × Unit) := piece G 28 [.r, .r, .l, .r, .b, .o, .r, .l, .b, .r] j [n0, n1] (skel 57 0 [(0, .av ⟨.s, .r, v0⟩), (5, .av ⟨(.i .i64), .r, v5⟩), (6, .av ⟨(.i .i64), .r, v6⟩), (29, .av ⟨.b, .r, v29⟩)])
@[irreducible] noncomputable def p28_8 (j : Nat) (n0 : Nat) (v0 : List UInt8) (v5 : Int) (v7 : Int) : Option (Int × Int × Int × Unit) := piece G 28 [.r, .r, .r, .l, .r, .b] j [n0] (skel 57 0 [(0, .av ⟨.s, .r, v0⟩), (5, .av ⟨(.i .i64), .r, v5⟩), (7, .av ⟨(.i .i64), .r, v7⟩)])
@[irreducible] noncomputable def p28_4 (j : Nat) (n0 : Nat) (n1 : Nat) (v0 : List UInt8) (v5 : Int) (v6 : Int) : Option (Int × Int × Int × Unit) := piece G 28 [.r, .r, .l, .r, .b, .o, .r, .r] j [n0, n1] (skel 57 0 [(0, .av ⟨.s, .r, v0⟩), (5, .av ⟨(.i .i64), .r, v5⟩), (6, .av ⟨(.i .i64), .r, v6⟩)])
@[irreducible] noncomputable def p28_2060 (j : Nat) (n0 : Nat) (n1 : Nat) (v0 : List UInt8) (v5 : Int) (v7 : Int) (v54 : Bool) : Option (Int × Int × Int × Unit) := piece G 28 [.r, .r, .r, .l, .r, .b, .o, .r, .l, .b, .r, .r] j [n0, n1] (skel 57 0 [(0, .av ⟨.s, .r, v0⟩), (5, .av ⟨(.i .i64), .r, v5⟩), (7, .av ⟨(.i .i64), .r, v7⟩), (54, .av ⟨.b, .r, v54⟩)])
@[irreducible] noncomputable def p28_9 (j : Nat) (n0 : Nat) (n1 : Nat) (v0 : List UInt8) (v5 : Int) (v7 : Int) : Option (Int × Int × Int × Unit) := piece G 28 [.r, .r, .r, .l, .r, .b, .o, .r, .r] j [n0, n1] (skel 57 0 [(0, .av ⟨.s, .r, v0⟩), (5, .av ⟨(.i .i64), .r, v5⟩), (7, .av ⟨(.i .i64), .r, v7⟩)])
/-- moraine/moraineref06.Current -/
@[irreducible] noncomputable def f30 (n : Nat) (a0 : Int) : Option (List UInt8 × Int × Unit) := F G n 30 (a0, ())
/-- moraine/moraineref06.Named -/
@[irreducible] noncomputable def f32 (n : Nat) (a0 : List UInt8) : Option (Int × Int × Unit) := F G n 32 (a0, ())
@[irreducible] noncomputable def p32_2050 (j : Nat) (n0 : Nat) (v0 : List UInt8) (v17 : Bool) : Option (Int × Int × Unit) := piece G 32 [.r, .l, .r] j [n0] (skel 35 0 [(0, .av ⟨.s, .r, v0⟩), (17, .av ⟨.b, .r, v17⟩)])
@[irreducible] noncomputable def p32_3 (j : Nat) (n0 : Nat) (v0 : List UInt8) : Option (Int × Int × Unit) := piece G 32 [.r, .r] j [n0] (skel 35 0 [(0, .av ⟨.s, .r, v0⟩)])
@[irreducible] noncomputable def p32_2053 (j : Nat) (n0 : Nat) (n1 : Nat) (v5 : Int) (v33 : Bool) : Option (Int × Int × Unit) := piece G 32 [.r, .r, .r, .l, .r] j [n0, n1] (skel 35 0 [(5, .av ⟨(.i .i64), .r, v5⟩), (33, .av ⟨.b, .r, v33⟩)])
@[irreducible] noncomputable def p32_6 (j : Nat) (n0 : Nat) (n1 : Nat) (v5 : Int) : Option (Int × Int × Unit) := piece G 32 [.r, .r, .r, .r] j [n0, n1] (skel 35 0 [(5, .av ⟨(.i .i64), .r, v5⟩)])
/-- moraine/moraineref06.padded -/
@[irreducible] noncomputable def f52 (n : Nat) (a0 : Int) : Option (List UInt8 × Unit) := F G n 52 (a0, ())
@[irreducible] noncomputable def p52_2 (j : Nat) (n0 : Nat) (v3 : List UInt8) : Option (List UInt8 × Unit) := piece G 52 [.r, .r, .l, .b] j [n0] (skel 12 0 [(3, .av ⟨.s, .r, v3⟩)])
/-- moraine/moraineref06.digits -/
@[irreducible] noncomputable def f74 (n : Nat) (a0 : Int) : Option (List UInt8 × Unit) := F G n 74 (a0, ())
@[irreducible] noncomputable def p74_2 (j : Nat) (n0 : Nat) (v0 : Int) (v3 : List UInt8) : Option (List UInt8 × Unit) := piece G 74 [.r, .r, .l, .b] j [n0] (skel 19 0 [(0, .av ⟨(.i .i64), .r, v0⟩), (3, .av ⟨.s, .r, v3⟩)])
theorem f8_eq (n : Nat) (a0 : Int) (a1 : Int) (a2 : List UInt8) : f8 (n + 1) a0 a1 a2 =
  (obind (f15 n ) fun r31 =>
   (sel (!r31.fst)
    (some (Bool.false, ()))
    (obind (f25 n (a0) (a1)) fun r102 =>
     (obind (f26 n (a0) (a1)) fun r166 =>
      (obind (f27 n (a2)) fun r223 =>
       (obind (f28 n (a2)) fun r294 =>
        (sel (!r102.fst == r166.fst)
         (p8_2056 (n) (n) (a1) (a2) (Bool.true))
         (sel (r102.snd.fst != r166.snd.fst)
          (p8_2056 (n) (n) (a1) (a2) (Bool.true))
          (sel (r223.fst != r294.fst)
           (p8_2056 (n) (n) (a1) (a2) (Bool.true))
           (sel (r223.snd.fst != r294.snd.fst)
            (p8_2056 (n) (n) (a1) (a2) (Bool.true))
            (p8_2056 (n) (n) (a1) (a2) (r223.snd.snd.fst != r294.snd.snd.fst)))))))))))) := by kernel_rfl
theorem p8_2056_eq (j : Nat) (n0 : Nat) (v1 : Int) (v2 : List UInt8) (v65 : Bool) : p8_2056 (j + 1) n0 v1 v2 v65 =
  (sel (v65)
   (some (Bool.false, ()))
   (p8_9 (n0) (n0) (v1) (v2))) := by kernel_rfl
theorem p8_9_eq (j : Nat) (n0 : Nat) (v1 : Int) (v2 : List UInt8) : p8_9 (j + 1) n0 v1 v2 =
  (obind (f29 j (v1)) fun r1043 =>
   (obind (f30 j (v1)) fun r1100 =>
    (obind (f31 j (v2)) fun r1157 =>
     (obind (f32 j (v2)) fun r1214 =>
      (sel (r1043.fst == r1100.fst)
       (sel (r1043.snd.fst == r1100.snd.fst)
        (sel (r1157.fst == r1214.fst)
         (some (r1157.snd.fst == r1214.snd.fst, ()))
         (some (Bool.false, ())))
        (some (Bool.false, ())))
       (some (Bool.false, ()))))))) := by kernel_rfl
theorem f15_eq (n : Nat)  : f15 (n + 1)  =
  (some (Bool.true, ())) := by kernel_rfl
theorem f26_eq (n : Nat) (a0 : Int) (a1 : Int) : f26 (n + 1) a0 a1 =
  (sel (a0 == (4 : Int))
   (p26_2050 (n) (n) (a0) (a1) (a1 == (0 : Int)))
   (p26_2050 (n) (n) (a0) (a1) (Bool.false))) := by kernel_rfl
theorem p26_2050_eq (j : Nat) (n0 : Nat) (v0 : Int) (v1 : Int) (v11 : Bool) : p26_2050 (j + 1) n0 v0 v1 v11 =
  (sel (v11)
   (some ([(67 : UInt8), (85 : UInt8), (82 : UInt8), (82 : UInt8), (69 : UInt8), (78 : UInt8), (84 : UInt8)], (0 : Int), ()))
   (p26_3 (n0) (n0) (v0) (v1))) := by kernel_rfl
theorem p26_3_eq (j : Nat) (n0 : Nat) (v0 : Int) (v1 : Int) : p26_3 (j + 1) n0 v0 v1 =
  (sel (v0 == (4 : Int))
   (p26_2052 (j) (n0) (j) (v0) (v1) (Bool.true))
   (sel (Decidable.decide (v1 < (1 : Int)))
    (p26_2052 (j) (n0) (j) (v0) (v1) (Bool.true))
    (p26_2052 (j) (n0) (j) (v0) (v1) (Decidable.decide (v1 > (2147483647 : Int)))))) := by kernel_rfl
theorem p26_2052_eq (j : Nat) (n0 : Nat) (n1 : Nat) (v0 : Int) (v1 : Int) (v21 : Bool) : p26_2052 (j + 1) n0 n1 v0 v1 v21 =
  (sel (v21)
   (some ([], (60 : Int), ()))
   (p26_5 (n1) (n0) (n1) (v0) (v1))) := by kernel_rfl
theorem p26_5_eq (j : Nat) (n0 : Nat) (n1 : Nat) (v0 : Int) (v1 : Int) : p26_5 (j + 1) n0 n1 v0 v1 =
  (sel (v0 == (1 : Int))
   (obind (f52 j (v1)) fun r448 =>
    (sel (Decidable.decide (List.length r448.fst + [(46 : UInt8), (108 : UInt8), (111 : UInt8), (103 : UInt8)].length ≤ Lk.big))
     (some (r448.fst ++ [(46 : UInt8), (108 : UInt8), (111 : UInt8), (103 : UInt8)], (0 : Int), ()))
     none))
   (sel (v0 == (2 : Int))
    (obind (f52 j (v1)) fun r531 =>
     (sel (Decidable.decide (List.length r531.fst + [(46 : UInt8), (116 : UInt8), (97 : UInt8), (98 : UInt8)].length ≤ Lk.big))
      (some (r531.fst ++ [(46 : UInt8), (116 : UInt8), (97 : UInt8), (98 : UInt8)], (0 : Int), ()))
      none))
    (sel (v0 == (5 : Int))
     (obind (f52 j (v1)) fun r614 =>
      (sel (Decidable.decide (List.length r614.fst + [(46 : UInt8), (116 : UInt8), (109 : UInt8), (112 : UInt8)].length ≤ Lk.big))
       (some (r614.fst ++ [(46 : UInt8), (116 : UInt8), (109 : UInt8), (112 : UInt8)], (0 : Int), ()))
       none))
     (sel (v0 == (3 : Int))
      (obind (f52 j (v1)) fun r697 =>
       (sel (Decidable.decide ([(77 : UInt8), (65 : UInt8), (78 : UInt8), (73 : UInt8), (70 : UInt8), (69 : UInt8), (83 : UInt8), (84 : UInt8), (45 : UInt8)].length + List.length r697.fst ≤ Lk.big))
        (some ([(77 : UInt8), (65 : UInt8), (78 : UInt8), (73 : UInt8), (70 : UInt8), (69 : UInt8), (83 : UInt8), (84 : UInt8), (45 : UInt8)] ++ r697.fst, (0 : Int), ()))
        none))
      (some ([], (60 : Int), ())))))) := by kernel_rfl
theorem f28_eq (n : Nat) (a0 : List UInt8) : f28 (n + 1) a0 =
  (p28_3 (n) (n) (a0) ((0 : Int)) ((0 : Int))) := by kernel_rfl
theorem p28_3_eq (j : Nat) (n0 : Nat) (v0 : List UInt8) (v5 : Int) (v6 : Int) : p28_3 (j + 1) n0 v0 v5 v6 =
  (sel (Decidable.decide (v6 < (↑v0.length : Int)))
   (sel (Decidable.decide ((0 : Int) ≤ v6))
    (sel (Decidable.decide (v6 < (↑v0.length : Int)))
     (sel (Decidable.decide ((↑(v0.getD v6.toNat (0 : UInt8)).toNat : Int) ≥ (↑(UInt8.toNat (48 : UInt8)) : Int)))
      (sel (Decidable.decide ((0 : Int) ≤ v6))
       (sel (Decidable.decide (v6 < (↑v0.length : Int)))
        (sel (Decidable.decide ((↑(v0.getD v6.toNat (0 : UInt8)).toNat : Int) ≤ (↑(UInt8.toNat (57 : UInt8)) : Int)))
         (p28_2054 (j) (n0) (j) (v0) (v5) (v6) (Decidable.decide (v5 ≤ (2147483647 : Int))))
         (p28_2054 (j) (n0) (j) (v0) (v5) (v6) (Bool.false)))
        none)
       none)
      (p28_2054 (j) (n0) (j) (v0) (v5) (v6) (Bool.false)))
     none)
    none)
   (p28_8 (n0) (n0) (v0) (v5) ((1 : Int)))) := by kernel_rfl
theorem p28_2054_eq (j : Nat) (n0 : Nat) (n1 : Nat) (v0 : List UInt8) (v5 : Int) (v6 : Int) (v29 : Bool) : p28_2054 (j + 1) n0 n1 v0 v5 v6 v29 =
  (sel (v29)
   (sel (Decidable.decide ((0 : Int) ≤ v6))
    (sel (Decidable.decide (v6 < (↑v0.length : Int)))
     (p28_4 (n1) (n0) (n1) (v0) (Go.IntKind.i64.wrap (Go.IntKind.i64.wrap (v5 * (10 : Int)) + Go.IntKind.i64.wrap (↑(UInt8.ofNat (Go.IntKind.u8.wrap ((↑(v0.getD v6.toNat (0 : UInt8)).toNat : Int) - (↑(UInt8.toNat (48 : UInt8)) : Int))).toNat).toNat : Int))) (v6))
     none)
    none)
   (p28_4 (n1) (n0) (n1) (v0) (v5) (v6))) := by kernel_rfl
theorem p28_8_eq (j : Nat) (n0 : Nat) (v0 : List UInt8) (v5 : Int) (v7 : Int) : p28_8 (j + 1) n0 v0 v5 v7 =
  (sel (Decidable.decide (v7 ≤ (5 : Int)))
   (obind (f26 j (v7) (v5)) fun r530 =>
    (sel (r530.snd.fst == (0 : Int))
     (p28_2060 (j) (n0) (j) (v0) (v5) (v7) (r530.fst == v0))
     (p28_2060 (j) (n0) (j) (v0) (v5) (v7) (Bool.false))))
   (some ((0 : Int), (0 : Int), (60 : Int), ()))) := by kernel_rfl
theorem p28_4_eq (j : Nat) (n0 : Nat) (n1 : Nat) (v0 : List UInt8) (v5 : Int) (v6 : Int) : p28_4 (j + 1) n0 n1 v0 v5 v6 =
  (p28_3 (n1) (n0) (v0) (v5) (Go.IntKind.i64.wrap (v6 + (1 : Int)))) := by kernel_rfl
theorem p28_2060_eq (j : Nat) (n0 : Nat) (n1 : Nat) (v0 : List UInt8) (v5 : Int) (v7 : Int) (v54 : Bool) : p28_2060 (j + 1) n0 n1 v0 v5 v7 v54 =
  (sel (v54)
   (some (v7, v5, (0 : Int), ()))
   (p28_9 (n1) (n0) (n1) (v0) (v5) (v7))) := by kernel_rfl
theorem p28_9_eq (j : Nat) (n0 : Nat) (n1 : Nat) (v0 : List UInt8) (v5 : Int) (v7 : Int) : p28_9 (j + 1) n0 n1 v0 v5 v7 =
  (p28_8 (n1) (n0) (v0) (v5) (Go.IntKind.i64.wrap (v7 + (1 : Int)))) := by kernel_rfl
theorem f30_eq (n : Nat) (a0 : Int) : f30 (n + 1) a0 =
  (obind (f26 n ((3 : Int)) (a0)) fun r44 =>
   (sel (r44.snd.fst != (0 : Int))
    (some ([], r44.snd.fst, ()))
    (sel (Decidable.decide (List.length r44.fst + [(10 : UInt8)].length ≤ Lk.big))
     (some (r44.fst ++ [(10 : UInt8)], (0 : Int), ()))
     none))) := by kernel_rfl
theorem f32_eq (n : Nat) (a0 : List UInt8) : f32 (n + 1) a0 =
  (sel (Decidable.decide ((↑a0.length : Int) < (1 : Int)))
   (p32_2050 (n) (n) (a0) (Bool.true))
   (sel (Decidable.decide ((0 : Int) ≤ Go.IntKind.i64.wrap ((↑a0.length : Int) - (1 : Int))))
    (sel (Decidable.decide (Go.IntKind.i64.wrap ((↑a0.length : Int) - (1 : Int)) < (↑a0.length : Int)))
     (p32_2050 (n) (n) (a0) ((↑(a0.getD (Go.IntKind.i64.wrap ((↑a0.length : Int) - (1 : Int))).toNat (0 : UInt8)).toNat : Int) != (↑(UInt8.toNat (10 : UInt8)) : Int)))
     none)
    none)) := by kernel_rfl
theorem p32_2050_eq (j : Nat) (n0 : Nat) (v0 : List UInt8) (v17 : Bool) : p32_2050 (j + 1) n0 v0 v17 =
  (sel (v17)
   (some ((0 : Int), (60 : Int), ()))
   (p32_3 (n0) (n0) (v0))) := by kernel_rfl
theorem p32_3_eq (j : Nat) (n0 : Nat) (v0 : List UInt8) : p32_3 (j + 1) n0 v0 =
  (sel (Decidable.decide ((0 : Int) ≤ Go.IntKind.i64.wrap ((↑v0.length : Int) - (1 : Int))))
   (sel (Decidable.decide (Go.IntKind.i64.wrap ((↑v0.length : Int) - (1 : Int)) ≤ (↑v0.length : Int)))
    (obind (f28 j (Lk.ext v0 (0 : Int) (Go.IntKind.i64.wrap ((↑v0.length : Int) - (1 : Int))))) fun r304 =>
     (sel (r304.snd.snd.fst != (0 : Int))
      (p32_2053 (j) (n0) (j) (r304.snd.fst) (Bool.true))
      (p32_2053 (j) (n0) (j) (r304.snd.fst) (r304.fst != (3 : Int)))))
    none)
   none) := by kernel_rfl
theorem p32_2053_eq (j : Nat) (n0 : Nat) (n1 : Nat) (v5 : Int) (v33 : Bool) : p32_2053 (j + 1) n0 n1 v5 v33 =
  (sel (v33)
   (some ((0 : Int), (60 : Int), ()))
   (p32_6 (n1) (n0) (n1) (v5))) := by kernel_rfl
theorem p32_6_eq (j : Nat) (n0 : Nat) (n1 : Nat) (v5 : Int) : p32_6 (j + 1) n0 n1 v5 =
  (some (v5, (0 : Int), ())) := by kernel_rfl
theorem f52_eq (n : Nat) (a0 : Int) : f52 (n + 1) a0 =
  (obind (f74 n (a0)) fun r37 =>
   (p52_2 (n) (n) (r37.fst))) := by kernel_rfl
theorem p52_2_eq (j : Nat) (n0 : Nat) (v3 : List UInt8) : p52_2 (j + 1) n0 v3 =
  (sel (Decidable.decide ((↑v3.length : Int) < (6 : Int)))
   (sel (Decidable.decide ([(48 : UInt8)].length + v3.length ≤ Lk.big))
    (p52_2 (j) (n0) ([(48 : UInt8)] ++ v3))
    none)
   (some (v3, ()))) := by kernel_rfl
theorem f74_eq (n : Nat) (a0 : Int) : f74 (n + 1) a0 =
  (p74_2 (n) (n) (a0) ([])) := by kernel_rfl
theorem p74_2_eq (j : Nat) (n0 : Nat) (v0 : Int) (v3 : List UInt8) : p74_2 (j + 1) n0 v0 v3 =
  (sel (Decidable.decide (v0 > (0 : Int)))
   (sel ((10 : Int) != (0 : Int))
    (sel (Decidable.decide ([UInt8.ofNat (Go.IntKind.u8.wrap (Go.IntKind.i64.wrap ((48 : Int) + v0.tmod (10 : Int)))).toNat].length + v3.length ≤ Lk.big))
     (sel ((10 : Int) != (0 : Int))
      (p74_2 (j) (n0) (Go.IntKind.i64.wrap (v0.tdiv (10 : Int))) ([UInt8.ofNat (Go.IntKind.u8.wrap (Go.IntKind.i64.wrap ((48 : Int) + v0.tmod (10 : Int)))).toNat] ++ v3))
      none)
     none)
    none)
   (sel (v3 == [])
    (some ([(48 : UInt8)], ()))
    (some (v3, ())))) := by kernel_rfl
end NqGN

namespace NqGN
open Go Lk NqG
noncomputable def theFnsN : Nq.FnsN := { theFnsP with
  f8 := f8,
  p8_2056 := p8_2056,
  p8_9 := p8_9,
  f15 := f15,
  f26 := f26,
  p26_2050 := p26_2050,
  p26_3 := p26_3,
  p26_2052 := p26_2052,
  p26_5 := p26_5,
  f28 := f28,
  p28_3 := p28_3,
  p28_2054 := p28_2054,
  p28_8 := p28_8,
  p28_4 := p28_4,
  p28_2060 := p28_2060,
  p28_9 := p28_9,
  f30 := f30,
  f32 := f32,
  p32_2050 := p32_2050,
  p32_3 := p32_3,
  p32_2053 := p32_2053,
  p32_6 := p32_6,
  f52 := f52,
  p52_2 := p52_2,
  f74 := f74,
  p74_2 := p74_2,
  f8_eq := f8_eq,
  p8_2056_eq := p8_2056_eq,
  p8_9_eq := p8_9_eq,
  f15_eq := f15_eq,
  f26_eq := f26_eq,
  p26_2050_eq := p26_2050_eq,
  p26_3_eq := p26_3_eq,
  p26_2052_eq := p26_2052_eq,
  p26_5_eq := p26_5_eq,
  f28_eq := f28_eq,
  p28_3_eq := p28_3_eq,
  p28_2054_eq := p28_2054_eq,
  p28_8_eq := p28_8_eq,
  p28_4_eq := p28_4_eq,
  p28_2060_eq := p28_2060_eq,
  p28_9_eq := p28_9_eq,
  f30_eq := f30_eq,
  f32_eq := f32_eq,
  p32_2050_eq := p32_2050_eq,
  p32_3_eq := p32_3_eq,
  p32_2053_eq := p32_2053_eq,
  p32_6_eq := p32_6_eq,
  f52_eq := f52_eq,
  p52_2_eq := p52_2_eq,
  f74_eq := f74_eq,
  p74_2_eq := p74_2_eq }
end NqGN

