import Derived.Test.YtgnihbbhmbbkbaaDoorProg
import Derived.Test.YtgnihbbhmbbkbaaDoorLmTwo
import Derived.Test.YtgnihbbhmbbkbaaDoorNwX
import Derived.Lib.ItoaNum
import Derived.Lib.Repeat
import Derived.Test.YtgnihbbhmbbkbaaDoorNwP
import Derived.Test.YtgnihbbhmbbkbaaDoorNwM
set_option linter.all false
namespace NqGB
open Go Lk
noncomputable def tys : BT (Ty × Md) := (.node (.node (.node (.node (.node .leaf 2 (.i .i64, .r) .leaf) 3 (.i .i64, .r) (.node .leaf 4 (.b, .r) .leaf)) 5 (.by, .r) (.node (.node .leaf 6 (.by, .r) .leaf) 9 (.s, .r) .leaf)) 10 (.s, .r) (.node (.node (.node .leaf 11 (.s, .r) .leaf) 12 (.i .u64, .r) .leaf) 20 (.e, .r) (.node (.node .leaf 21 (.i .i32, .r) .leaf) 22 (.i .i64, .r) .leaf))) 32 (.l (.s), .o .r) (.node (.node (.node (.node .leaf 33 (.l (.i .i64), .o .r) .leaf) 34 (.l (.by), .o .r) (.node .leaf 61 (.i .u32, .r) .leaf)) 68 (.e, .r) (.node (.node .leaf 69 (.e, .r) .leaf) 87 (.i .u64, .r) .leaf)) 108 (.i .i64, .r) (.node (.node (.node .leaf 119 (.i .u64, .r) .leaf) 150 (.by, .r) .leaf) 151 (.by, .r) (.node (.node .leaf 153 (.i .i32, .r) .leaf) 154 (.i .i32, .r) .leaf))))
noncomputable def sigs : BT Sig := (.node (.node (.node (.node (.node .leaf 9 ⟨[(.i .i64, .r), (.i .i64, .r), (.s, .r)], [(.b, .r)]⟩ .leaf) 11 ⟨[(.s, .r)], [(.s, .r), (.i .i64, .r), (.i .i64, .r)]⟩ (.node .leaf 13 ⟨[(.s, .r)], [(.s, .r)]⟩ .leaf)) 16 ⟨[(.s, .r)], [(.s, .r), (.i .i64, .r), (.i .i64, .r)]⟩ (.node (.node .leaf 18 ⟨[(.s, .r)], [(.s, .r)]⟩ .leaf) 20 ⟨[], [(.b, .r)]⟩ (.node .leaf 25 ⟨[(.i .i64, .r), (.i .i64, .r)], [(.s, .r), (.i .i64, .r)]⟩ .leaf))) 27 ⟨[(.s, .r)], [(.i .i64, .r), (.i .i64, .r), (.i .i64, .r)]⟩ (.node (.node (.node .leaf 29 ⟨[(.i .i64, .r)], [(.s, .r), (.i .i64, .r)]⟩ .leaf) 31 ⟨[(.s, .r)], [(.i .i64, .r), (.i .i64, .r)]⟩ (.node .leaf 35 ⟨[(.s, .r), (.s, .r)], [(.b, .r)]⟩ .leaf)) 36 ⟨[(.s, .r), (.i .i64, .r)], [(.by, .r), (.i .i64, .r)]⟩ (.node (.node .leaf 37 ⟨[(.s, .r)], [(.i .i32, .r), (.i .i64, .r)]⟩ .leaf) 38 ⟨[(.i .i32, .r)], [(.b, .r)]⟩ .leaf))) 47 ⟨[(.s, .r)], [(.i .i64, .r)]⟩ (.node (.node (.node (.node .leaf 50 ⟨[(.i .i64, .r)], [(.s, .r)]⟩ .leaf) 51 ⟨[(.i .i64, .r)], [(.s, .r)]⟩ (.node .leaf 53 ⟨[(.s, .r), (.s, .r)], [(.s, .r), (.b, .r)]⟩ .leaf)) 54 ⟨[(.s, .r), (.s, .r)], [(.s, .r), (.b, .r)]⟩ (.node (.node .leaf 55 ⟨[(.s, .r)], [(.i .i64, .r), (.e, .r)]⟩ .leaf) 64 ⟨[(.s, .r), (.s, .r)], [(.b, .r)]⟩ (.node .leaf 65 ⟨[(.s, .r), (.i .i64, .r)], [(.i .i64, .r)]⟩ .leaf))) 71 ⟨[(.by, .r)], [(.b, .r)]⟩ (.node (.node (.node .leaf 72 ⟨[(.i .i64, .r)], [(.s, .r)]⟩ .leaf) 73 ⟨[(.s, .r), (.i .i64, .r)], [(.s, .r)]⟩ (.node .leaf 75 ⟨[(.s, .r), (.s, .r)], [(.s, .r), (.b, .r)]⟩ .leaf)) 76 ⟨[(.s, .r), (.s, .r)], [(.s, .r), (.b, .r)]⟩ (.node (.node .leaf 83 ⟨[(.s, .r), (.by, .r)], [(.i .i64, .r)]⟩ .leaf) 89 ⟨[(.s, .r), (.s, .r)], [(.b, .r)]⟩ .leaf))))
noncomputable def bodies : BT Func := (.node (.node (.node (.node (.node .leaf 9 Go.Proofs.Tryd.f9 .leaf) 11 Go.Proofs.Tryd.f11 .leaf) 16 Go.Proofs.Tryd.f16 (.node (.node .leaf 18 Go.Proofs.Tryd.f18 .leaf) 20 Go.Proofs.Tryd.f20 .leaf)) 25 Go.Proofs.Tryd.f25 (.node (.node (.node .leaf 27 Go.Proofs.Tryd.f27 .leaf) 29 Go.Proofs.Tryd.f29 .leaf) 31 Go.Proofs.Tryd.f31 (.node (.node .leaf 35 Go.Proofs.Tryd.f35 .leaf) 36 Go.Proofs.Tryd.f36 .leaf))) 38 Go.Proofs.Tryd.f38 (.node (.node (.node (.node .leaf 47 Go.Proofs.Tryd.f47 .leaf) 50 Go.Proofs.Tryd.f50 .leaf) 51 Go.Proofs.Tryd.f51 (.node (.node .leaf 53 Go.Proofs.Tryd.f53 .leaf) 54 Go.Proofs.Tryd.f54 .leaf)) 64 Go.Proofs.Tryd.f64 (.node (.node (.node .leaf 65 Go.Proofs.Tryd.f65 .leaf) 71 Go.Proofs.Tryd.f71 .leaf) 75 Go.Proofs.Tryd.f75 (.node (.node .leaf 76 Go.Proofs.Tryd.f76 .leaf) 89 Go.Proofs.Tryd.f89 .leaf))))
noncomputable def exts : BT Func := (.node (.node (.node .leaf 13 Go.Proofs.Tryd.f13 .leaf) 37 Go.Proofs.Tryd.f37 (.node .leaf 55 Go.Proofs.Tryd.f55 .leaf)) 72 Go.Proofs.Tryd.f72 (.node (.node .leaf 73 Go.Proofs.Tryd.f73 .leaf) 83 Go.Proofs.Tryd.f83 .leaf))
noncomputable def lives : BT (List Nat) := (.node (.node (.node (.node (.node (.node .leaf 36872 [1, 2] .leaf) 36877 [1] .leaf) 38919 [1, 2, 46] (.node .leaf 38924 [1, 67] .leaf)) 45061 [0, 3, 5] (.node (.node .leaf 45062 [0, 3, 5] .leaf) 45071 [0, 3, 5, 9] (.node .leaf 45073 [0, 3, 5] .leaf))) 47118 [0, 3, 5, 9, 60] (.node (.node (.node .leaf 65542 [0] .leaf) 67589 [0, 5, 20] (.node .leaf 73731 [0] .leaf)) 75778 [0, 9] (.node (.node .leaf 102407 [0, 1] .leaf) 104450 [0, 1, 6] (.node .leaf 104452 [0, 1, 13] .leaf)))) 110599 [0, 2, 5] (.node (.node (.node (.node .leaf 110600 [0, 2, 5, 24, 25, 26] .leaf) 110605 [0, 2, 5, 24, 25, 26] (.node .leaf 110612 [2, 3] .leaf)) 112652 [0, 2, 5, 9, 10, 24, 25, 26, 41] (.node (.node .leaf 112659 [2, 3, 64] .leaf) 126981 [7] (.node .leaf 129028 [7, 29] .leaf))) 147473 [] (.node (.node (.node .leaf 149516 [0, 1, 16, 23] .leaf) 149520 [6, 7, 45] (.node .leaf 192514 [0, 5, 6] .leaf)) 290824 [] (.node (.node .leaf 292866 [0, 3] .leaf) 292867 [0, 3] (.node .leaf 292871 [16] .leaf)))))
open Go Lk NqG
noncomputable def ext37 : Nat → Tup [(.s, .r)] → Option (Tup [(.i .i32, .r), (.i .i64, .r)]) := fun _ x => some ((e37 x.1).1, (e37 x.1).2, ())
noncomputable def ext83 : Nat → Tup [(.s, .r), (.by, .r)] → Option (Tup [(.i .i64, .r)]) := fun _ x => some (idx x.1 x.2.1, ())
noncomputable def ext13 : Nat → Tup [(.s, .r)] → Option (Tup [(.s, .r)]) := fun _ x => bif Nat.ble x.1.length 1073741824 then some (quote x.1, ()) else none
noncomputable def ext72 : Nat → Tup [(.i .i64, .r)] → Option (Tup [(.s, .r)]) := fun _ x => bif decide (-9223372036854775808 ≤ x.1) && decide (x.1 ≤ 9223372036854775807) then some (Lib.itoa x.1, ()) else none
noncomputable def ext73 : Nat → Tup [(.s, .r), (.i .i64, .r)] → Option (Tup [(.s, .r)]) := fun _ x => bif decide (0 ≤ x.2.1) && decide (x.2.1 ≤ 1073741824) && Nat.ble x.1.length 100 then some (Lib.repeatL x.1 x.2.1.toNat, ()) else none
noncomputable def ext55 : Nat → Tup [(.s, .r)] → Option (Tup [(.i .i64, .r), (.e, .r)]) := fun _ x => bif Nat.ble x.1.length 2147483648 then some ((atoi x.1).1, (atoi x.1).2, ()) else none
noncomputable def ext : (f : FuncId) → Option (Nat → Tup ((sigs.get f).getD ⟨[], []⟩).ps → Option (Tup ((sigs.get f).getD ⟨[], []⟩).rs))
  | 37 => some ext37
  | 83 => some ext83
  | 13 => some ext13
  | 72 => some ext72
  | 73 => some ext73
  | 55 => some ext55
  | _ => none
noncomputable def lims : BT Nat := (.node (.node .leaf 32 1073741824 .leaf) 34 1073741824 .leaf)
noncomputable def G : Prg where
  ty T := tys.get T
  lim T := (lims.get T).getD 0
  sig g := (sigs.get g).getD ⟨[], []⟩
  body g := bodies.get g
  ext g := ext g
  live g r := lives.get (Nat.add (Nat.mul g 4096) r)
end NqGB

namespace NqGB
open Go Lk NqG
set_option linter.unusedVariables false
/-- unicode/utf8.DecodeRuneInString -/
@[irreducible] noncomputable def f37 (n : Nat) (a0 : List UInt8) : Option (Int × Int × Unit) := F G n 37 (a0, ())
theorem f37_eq (n : Nat) (a0 : List UInt8) : f37 n a0 = some ((e37 a0).1, (e37 a0).2, ()) := by kernel_rfl
/-- strings.IndexByte -/
@[irreducible] noncomputable def f83 (n : Nat) (a0 : List UInt8) (a1 : UInt8) : Option (Int × Unit) := F G n 83 (a0, a1, ())
theorem f83_eq (n : Nat) (a0 : List UInt8) (a1 : UInt8) : f83 n a0 a1 = some (idx a0 a1, ()) := by kernel_rfl
/-- names.Quote -/
@[irreducible] noncomputable def f13 (n : Nat) (a0 : List UInt8) : Option (List UInt8 × Unit) := F G n 13 (a0, ())
theorem f13_eq (n : Nat) (a0 : List UInt8) : f13 n a0 = bif Nat.ble a0.length 1073741824 then some (quote a0, ()) else none := by kernel_rfl
/-- moraine/names.Unquote -/
@[irreducible] noncomputable def f11 (n : Nat) (a0 : List UInt8) : Option (List UInt8 × Int × Int × Unit) := F G n 11 (a0, ())
@[irreducible] noncomputable def p11_5 (j : Nat) (n0 : Nat) (v0 : List UInt8) (v3 : Int) (v5 : List (UInt8)) : Option (List UInt8 × Int × Int × Unit) := piece G 11 [.r, .r, .r, .r, .l, .b] j [n0] (skel 95 0 [(0, .av ⟨.s, .r, v0⟩), (3, .av ⟨(.i .i64), .r, v3⟩), (5, .av ⟨(.l .by), (.o .r), v5⟩)])
@[irreducible] noncomputable def p11_6 (j : Nat) (n0 : Nat) (n1 : Nat) (v0 : List UInt8) (v3 : Int) (v5 : List (UInt8)) : Option (List UInt8 × Int × Int × Unit) := piece G 11 [.r, .r, .r, .r, .l, .b, .o, .r] j [n0, n1] (skel 95 0 [(0, .av ⟨.s, .r, v0⟩), (3, .av ⟨(.i .i64), .r, v3⟩), (5, .av ⟨(.l .by), (.o .r), v5⟩)])
@[irreducible] noncomputable def p11_17 (j : Nat) (n0 : Nat) (v0 : List UInt8) (v3 : Int) (v5 : List (UInt8)) : Option (List UInt8 × Int × Int × Unit) := piece G 11 [.r, .r, .r, .r, .r] j [n0] (skel 95 0 [(0, .av ⟨.s, .r, v0⟩), (3, .av ⟨(.i .i64), .r, v3⟩), (5, .av ⟨(.l .by), (.o .r), v5⟩)])
@[irreducible] noncomputable def p11_2062 (j : Nat) (n0 : Nat) (n1 : Nat) (n2 : Nat) (v0 : List UInt8) (v3 : Int) (v5 : List (UInt8)) (v9 : Int) (v60 : Bool) : Option (List UInt8 × Int × Int × Unit) := piece G 11 [.r, .r, .r, .r, .l, .b, .o, .r, .b, .r, .r, .l, .r] j [n0, n1, n2] (skel 95 0 [(0, .av ⟨.s, .r, v0⟩), (3, .av ⟨(.i .i64), .r, v3⟩), (5, .av ⟨(.l .by), (.o .r), v5⟩), (9, .av ⟨(.i .i64), .r, v9⟩), (60, .av ⟨.b, .r, v60⟩)])
@[irreducible] noncomputable def p11_15 (j : Nat) (n0 : Nat) (n1 : Nat) (n2 : Nat) (v0 : List UInt8) (v3 : Int) (v5 : List (UInt8)) (v9 : Int) : Option (List UInt8 × Int × Int × Unit) := piece G 11 [.r, .r, .r, .r, .l, .b, .o, .r, .b, .r, .r, .r] j [n0, n1, n2] (skel 95 0 [(0, .av ⟨.s, .r, v0⟩), (3, .av ⟨(.i .i64), .r, v3⟩), (5, .av ⟨(.l .by), (.o .r), v5⟩), (9, .av ⟨(.i .i64), .r, v9⟩)])
/-- moraine/names.Unword -/
@[irreducible] noncomputable def f16 (n : Nat) (a0 : List UInt8) : Option (List UInt8 × Int × Int × Unit) := F G n 16 (a0, ())
@[irreducible] noncomputable def p16_2053 (j : Nat) (n0 : Nat) (v0 : List UInt8) (v5 : Int) (v20 : Bool) : Option (List UInt8 × Int × Int × Unit) := piece G 16 [.r, .r, .l, .r, .r] j [n0] (skel 24 0 [(0, .av ⟨.s, .r, v0⟩), (5, .av ⟨(.i .i64), .r, v5⟩), (20, .av ⟨.b, .r, v20⟩)])
@[irreducible] noncomputable def p16_6 (j : Nat) (n0 : Nat) (v0 : List UInt8) : Option (List UInt8 × Int × Int × Unit) := piece G 16 [.r, .r, .r] j [n0] (skel 24 0 [(0, .av ⟨.s, .r, v0⟩)])
/-- moraine/names.Word -/
@[irreducible] noncomputable def f18 (n : Nat) (a0 : List UInt8) : Option (List UInt8 × Unit) := F G n 18 (a0, ())
@[irreducible] noncomputable def p18_2050 (j : Nat) (n0 : Nat) (v0 : List UInt8) (v9 : Bool) : Option (List UInt8 × Unit) := piece G 18 [.r, .l, .r] j [n0] (skel 13 0 [(0, .av ⟨.s, .r, v0⟩), (9, .av ⟨.b, .r, v9⟩)])
@[irreducible] noncomputable def p18_3 (j : Nat) (n0 : Nat) (v0 : List UInt8) : Option (List UInt8 × Unit) := piece G 18 [.r, .r] j [n0] (skel 13 0 [(0, .av ⟨.s, .r, v0⟩)])
/-- strings.HasPrefix -/
@[irreducible] noncomputable def f35 (n : Nat) (a0 : List UInt8) (a1 : List UInt8) : Option (Bool × Unit) := F G n 35 (a0, a1, ())
/-- moraine/names.escape -/
@[irreducible] noncomputable def f36 (n : Nat) (a0 : List UInt8) (a1 : Int) : Option (UInt8 × Int × Unit) := F G n 36 (a0, a1, ())
@[irreducible] noncomputable def p36_2060 (j : Nat) (n0 : Nat) (v0 : List UInt8) (v1 : Int) (v16 : UInt8) (v23 : Bool) : Option (UInt8 × Int × Unit) := piece G 36 [.r, .r, .l, .r, .b, .r, .f, .r, .f, .r, .f, .r] j [n0] (skel 51 0 [(0, .av ⟨.s, .r, v0⟩), (1, .av ⟨(.i .i64), .r, v1⟩), (16, .av ⟨.by, .r, v16⟩), (23, .av ⟨.b, .r, v23⟩)])
@[irreducible] noncomputable def p36_2064 (j : Nat) (n0 : Nat) (n1 : Nat) (v6 : Int) (v7 : Int) (v45 : Bool) : Option (UInt8 × Int × Unit) := piece G 36 [.r, .r, .l, .r, .b, .r, .f, .r, .f, .r, .f, .r, .f, .r, .t, .r, .r] j [n0, n1] (skel 51 0 [(6, .av ⟨(.i .i64), .r, v6⟩), (7, .av ⟨(.i .i64), .r, v7⟩), (45, .av ⟨.b, .r, v45⟩)])
@[irreducible] noncomputable def p36_17 (j : Nat) (n0 : Nat) : Option (UInt8 × Int × Unit) := piece G 36 [.r, .r, .r] j [n0] (skel 51 0 [])
/-- moraine/names.itself -/
@[irreducible] noncomputable def f38 (n : Nat) (a0 : Int) : Option (Bool × Unit) := F G n 38 (a0, ())
/-- moraine/names.odd -/
@[irreducible] noncomputable def f47 (n : Nat) (a0 : List UInt8) : Option (Int × Unit) := F G n 47 (a0, ())
@[irreducible] noncomputable def p47_2 (j : Nat) (n0 : Nat) (v0 : List UInt8) (v5 : Int) (v6 : Int) : Option (Int × Unit) := piece G 47 [.r, .l, .r, .b] j [n0] (skel 16 0 [(0, .av ⟨.s, .r, v0⟩), (5, .av ⟨(.i .i64), .r, v5⟩), (6, .av ⟨(.i .i64), .r, v6⟩)])
/-- internal/stringslite.HasPrefix -/
@[irreducible] noncomputable def f64 (n : Nat) (a0 : List UInt8) (a1 : List UInt8) : Option (Bool × Unit) := F G n 64 (a0, a1, ())
/-- moraine/names.digit -/
@[irreducible] noncomputable def f65 (n : Nat) (a0 : List UInt8) (a1 : Int) : Option (Int × Unit) := F G n 65 (a0, a1, ())
/-- moraine/names.bareByte -/
@[irreducible] noncomputable def f71 (n : Nat) (a0 : UInt8) : Option (Bool × Unit) := F G n 71 (a0, ())
@[irreducible] noncomputable def p71_2050 (j : Nat) (n0 : Nat) (v0 : UInt8) (v3 : Bool) : Option (Bool × Unit) := piece G 71 [.r, .l, .b, .l, .r] j [n0] (skel 23 0 [(0, .av ⟨.by, .r, v0⟩), (3, .av ⟨.b, .r, v3⟩)])
@[irreducible] noncomputable def p71_2051 (j : Nat) (n0 : Nat) (v0 : UInt8) (v3 : Bool) : Option (Bool × Unit) := piece G 71 [.r, .l, .b, .r] j [n0] (skel 23 0 [(0, .av ⟨.by, .r, v0⟩), (3, .av ⟨.b, .r, v3⟩)])
@[irreducible] noncomputable def p71_2055 (j : Nat) (n0 : Nat) (n1 : Nat) (v16 : Bool) : Option (Bool × Unit) := piece G 71 [.r, .l, .b, .r, .f, .r] j [n0, n1] (skel 23 0 [(16, .av ⟨.b, .r, v16⟩)])
@[irreducible] noncomputable def p71_8 (j : Nat) (n0 : Nat) : Option (Bool × Unit) := piece G 71 [.r, .r] j [n0] (skel 23 0 [])
theorem f11_eq (n : Nat) (a0 : List UInt8) : f11 (n + 1) a0 =
  (obind (f35 n (a0) ([(34 : UInt8)])) fun r52 =>
   (sel (!r52.fst)
    (some ([], (0 : Int), (61 : Int), ()))
    (p11_5 (n) (n) (a0) ((1 : Int)) ([])))) := by kernel_rfl
theorem p11_5_eq (j : Nat) (n0 : Nat) (v0 : List UInt8) (v3 : Int) (v5 : List (UInt8)) : p11_5 (j + 1) n0 v0 v3 v5 =
  (sel (Decidable.decide (v3 < (↑v0.length : Int)))
   (sel (Decidable.decide ((0 : Int) ≤ v3))
    (sel (Decidable.decide (v3 < (↑v0.length : Int)))
     (sel ((↑(v0.getD v3.toNat (0 : UInt8)).toNat : Int) != (↑(UInt8.toNat (34 : UInt8)) : Int))
      (p11_6 (j) (n0) (j) (v0) (v3) (v5))
      (p11_17 (n0) (n0) (v0) (v3) (v5)))
     none)
    none)
   (p11_17 (n0) (n0) (v0) (v3) (v5))) := by kernel_rfl
theorem p11_6_eq (j : Nat) (n0 : Nat) (n1 : Nat) (v0 : List UInt8) (v3 : Int) (v5 : List (UInt8)) : p11_6 (j + 1) n0 n1 v0 v3 v5 =
  (sel (Decidable.decide ((0 : Int) ≤ v3))
   (sel (Decidable.decide (v3 < (↑v0.length : Int)))
    (sel ((↑(v0.getD v3.toNat (0 : UInt8)).toNat : Int) == (↑(UInt8.toNat (92 : UInt8)) : Int))
     (obind (f36 j (v0) (v3)) fun r396 =>
      (sel (r396.snd.fst == (0 : Int))
       (some ([], v3, (61 : Int), ()))
       (sel (Decidable.decide (v5.length + [r396.fst].length ≤ (1073741824 : Nat)))
        (p11_5 (n1) (n0) (v0) (Go.IntKind.i64.wrap (v3 + r396.snd.fst)) (v5 ++ [r396.fst]))
        none)))
     (sel (Decidable.decide ((0 : Int) ≤ v3))
      (sel (Decidable.decide (v3 ≤ (↑v0.length : Int)))
       (obind (f37 j (Lk.ext v0 v3 (↑v0.length : Int))) fun r646 =>
        (sel (r646.fst == (65533 : Int))
         (sel (r646.snd.fst == (1 : Int))
          (p11_2062 (j) (n0) (n1) (j) (v0) (v3) (v5) (r646.snd.fst) (Bool.true))
          (obind (f38 j (r646.fst)) fun r810 =>
           (p11_2062 (j) (n0) (n1) (j) (v0) (v3) (v5) (r646.snd.fst) (!r810.fst))))
         (obind (f38 j (r646.fst)) fun r887 =>
          (p11_2062 (j) (n0) (n1) (j) (v0) (v3) (v5) (r646.snd.fst) (!r887.fst)))))
       none)
      none))
    none)
   none) := by kernel_rfl
theorem p11_17_eq (j : Nat) (n0 : Nat) (v0 : List UInt8) (v3 : Int) (v5 : List (UInt8)) : p11_17 (j + 1) n0 v0 v3 v5 =
  (sel (v3 == (↑v0.length : Int))
   (some ([], v3, (61 : Int), ()))
   (sel (Decidable.decide (Go.IntKind.i64.wrap (v3 + (1 : Int)) < (↑v0.length : Int)))
    (some ([], Go.IntKind.i64.wrap (v3 + (1 : Int)), (61 : Int), ()))
    (obind (f13 j (v5)) fun r1147 =>
     (sel (!r1147.fst == v0)
      (some ([], (0 : Int), (61 : Int), ()))
      (some (v5, (0 : Int), (0 : Int), ())))))) := by kernel_rfl
theorem p11_2062_eq (j : Nat) (n0 : Nat) (n1 : Nat) (n2 : Nat) (v0 : List UInt8) (v3 : Int) (v5 : List (UInt8)) (v9 : Int) (v60 : Bool) : p11_2062 (j + 1) n0 n1 n2 v0 v3 v5 v9 v60 =
  (sel (v60)
   (some ([], v3, (61 : Int), ()))
   (p11_15 (n2) (n0) (n1) (n2) (v0) (v3) (v5) (v9))) := by kernel_rfl
theorem p11_15_eq (j : Nat) (n0 : Nat) (n1 : Nat) (n2 : Nat) (v0 : List UInt8) (v3 : Int) (v5 : List (UInt8)) (v9 : Int) : p11_15 (j + 1) n0 n1 n2 v0 v3 v5 v9 =
  (sel (Decidable.decide ((0 : Int) ≤ Go.IntKind.i64.wrap (v3 + v9)))
   (sel (Decidable.decide (Go.IntKind.i64.wrap (v3 + v9) ≤ (↑v0.length : Int)))
    (sel (Decidable.decide ((0 : Int) ≤ v3))
     (sel (Decidable.decide (v3 ≤ Go.IntKind.i64.wrap (v3 + v9)))
      (sel (Decidable.decide (v5.length + (Lk.ext v0 v3 (Go.IntKind.i64.wrap (v3 + v9))).length ≤ (1073741824 : Nat)))
       (p11_5 (n1) (n0) (v0) (Go.IntKind.i64.wrap (v3 + v9)) (v5 ++ Lk.ext v0 v3 (Go.IntKind.i64.wrap (v3 + v9))))
       none)
      none)
     none)
    none)
   none) := by kernel_rfl
theorem f16_eq (n : Nat) (a0 : List UInt8) : f16 (n + 1) a0 =
  (obind (f35 n (a0) ([(34 : UInt8)])) fun r52 =>
   (sel (r52.fst)
    (obind (f11 n (a0)) fun r78 =>
     (some (r78.fst, r78.snd.fst, r78.snd.snd.fst, ())))
    (obind (f47 n (a0)) fun r160 =>
     (sel (a0 == [])
      (p16_2053 (n) (n) (a0) (r160.fst) (Bool.true))
      (p16_2053 (n) (n) (a0) (r160.fst) (Decidable.decide (r160.fst ≥ (0 : Int)))))))) := by kernel_rfl
theorem p16_2053_eq (j : Nat) (n0 : Nat) (v0 : List UInt8) (v5 : Int) (v20 : Bool) : p16_2053 (j + 1) n0 v0 v5 v20 =
  (sel (v20)
   (some ([], Lk.imax v5 (0 : Int), (61 : Int), ()))
   (p16_6 (n0) (n0) (v0))) := by kernel_rfl
theorem p16_6_eq (j : Nat) (n0 : Nat) (v0 : List UInt8) : p16_6 (j + 1) n0 v0 =
  (some (v0, (0 : Int), (0 : Int), ())) := by kernel_rfl
theorem f18_eq (n : Nat) (a0 : List UInt8) : f18 (n + 1) a0 =
  (sel (!a0 == [])
   (obind (f47 n (a0)) fun r71 =>
    (p18_2050 (n) (n) (a0) (Decidable.decide (r71.fst < (0 : Int)))))
   (p18_2050 (n) (n) (a0) (Bool.false))) := by kernel_rfl
theorem p18_2050_eq (j : Nat) (n0 : Nat) (v0 : List UInt8) (v9 : Bool) : p18_2050 (j + 1) n0 v0 v9 =
  (sel (v9)
   (some (v0, ()))
   (p18_3 (n0) (n0) (v0))) := by kernel_rfl
theorem p18_3_eq (j : Nat) (n0 : Nat) (v0 : List UInt8) : p18_3 (j + 1) n0 v0 =
  (obind (f13 j (v0)) fun r194 =>
   (some (r194.fst, ()))) := by kernel_rfl
theorem f35_eq (n : Nat) (a0 : List UInt8) (a1 : List UInt8) : f35 (n + 1) a0 a1 =
  (obind (f64 n (a0) (a1)) fun r44 =>
   (some (r44.fst, ()))) := by kernel_rfl
theorem f36_eq (n : Nat) (a0 : List UInt8) (a1 : Int) : f36 (n + 1) a0 a1 =
  (sel (Decidable.decide (Go.IntKind.i64.wrap (a1 + (1 : Int)) ≥ (↑a0.length : Int)))
   (some ((0 : UInt8), (0 : Int), ()))
   (sel (Decidable.decide ((0 : Int) ≤ Go.IntKind.i64.wrap (a1 + (1 : Int))))
    (sel (Decidable.decide (Go.IntKind.i64.wrap (a1 + (1 : Int)) < (↑a0.length : Int)))
     (sel ((↑(a0.getD (Go.IntKind.i64.wrap (a1 + (1 : Int))).toNat (0 : UInt8)).toNat : Int) == (↑(UInt8.toNat (110 : UInt8)) : Int))
      (some ((10 : UInt8), (2 : Int), ()))
      (sel ((↑(a0.getD (Go.IntKind.i64.wrap (a1 + (1 : Int))).toNat (0 : UInt8)).toNat : Int) == (↑(UInt8.toNat (116 : UInt8)) : Int))
       (some ((9 : UInt8), (2 : Int), ()))
       (sel ((↑(a0.getD (Go.IntKind.i64.wrap (a1 + (1 : Int))).toNat (0 : UInt8)).toNat : Int) == (↑(UInt8.toNat (115 : UInt8)) : Int))
        (some ((32 : UInt8), (2 : Int), ()))
        (sel ((↑(a0.getD (Go.IntKind.i64.wrap (a1 + (1 : Int))).toNat (0 : UInt8)).toNat : Int) == (↑(UInt8.toNat (34 : UInt8)) : Int))
         (p36_2060 (n) (n) (a0) (a1) (a0.getD (Go.IntKind.i64.wrap (a1 + (1 : Int))).toNat (0 : UInt8)) ((↑(a0.getD (Go.IntKind.i64.wrap (a1 + (1 : Int))).toNat (0 : UInt8)).toNat : Int) == (↑(UInt8.toNat (34 : UInt8)) : Int)))
         (p36_2060 (n) (n) (a0) (a1) (a0.getD (Go.IntKind.i64.wrap (a1 + (1 : Int))).toNat (0 : UInt8)) ((↑(a0.getD (Go.IntKind.i64.wrap (a1 + (1 : Int))).toNat (0 : UInt8)).toNat : Int) == (↑(UInt8.toNat (92 : UInt8)) : Int)))))))
     none)
    none)) := by kernel_rfl
theorem p36_2060_eq (j : Nat) (n0 : Nat) (v0 : List UInt8) (v1 : Int) (v16 : UInt8) (v23 : Bool) : p36_2060 (j + 1) n0 v0 v1 v16 v23 =
  (sel (v23)
   (sel (Decidable.decide ((0 : Int) ≤ Go.IntKind.i64.wrap (v1 + (1 : Int))))
    (sel (Decidable.decide (Go.IntKind.i64.wrap (v1 + (1 : Int)) < (↑v0.length : Int)))
     (some (v0.getD (Go.IntKind.i64.wrap (v1 + (1 : Int))).toNat (0 : UInt8), (2 : Int), ()))
     none)
    none)
   (sel ((↑v16.toNat : Int) == (↑(UInt8.toNat (120 : UInt8)) : Int))
    (obind (f65 j (v0) (Go.IntKind.i64.wrap (v1 + (2 : Int)))) fun r510 =>
     (obind (f65 j (v0) (Go.IntKind.i64.wrap (v1 + (3 : Int)))) fun r539 =>
      (sel (Decidable.decide (r510.fst ≥ (0 : Int)))
       (p36_2064 (j) (n0) (j) (r510.fst) (r539.fst) (Decidable.decide (r539.fst ≥ (0 : Int))))
       (p36_2064 (j) (n0) (j) (r510.fst) (r539.fst) (Bool.false)))))
    (p36_17 (n0) (n0)))) := by kernel_rfl
theorem p36_2064_eq (j : Nat) (n0 : Nat) (n1 : Nat) (v6 : Int) (v7 : Int) (v45 : Bool) : p36_2064 (j + 1) n0 n1 v6 v7 v45 =
  (sel (v45)
   (sel (Decidable.decide ((0 : Int) ≤ (4 : Int)))
    (some (UInt8.ofNat (Go.IntKind.u8.wrap (Lk.ibits Go.BinOp.or Go.IntKind.i64 (Go.IntKind.i64.wrap (v6 * (2 : Int) ^ Min.min (Int.toNat (4 : Int)) Go.IntKind.i64.bits)) v7)).toNat, (4 : Int), ()))
    none)
   (p36_17 (n0) (n0))) := by kernel_rfl
theorem p36_17_eq (j : Nat) (n0 : Nat) : p36_17 (j + 1) n0 =
  (some ((0 : UInt8), (0 : Int), ())) := by kernel_rfl
theorem f38_eq (n : Nat) (a0 : Int) : f38 (n + 1) a0 =
  (sel (Decidable.decide (a0 > (32 : Int)))
   (sel (Decidable.decide (a0 < (127 : Int)))
    (sel (a0 != (34 : Int))
     (sel (a0 != (92 : Int))
      (some (Bool.true, ()))
      (some (Decidable.decide (a0 > (160 : Int)), ())))
     (some (Decidable.decide (a0 > (160 : Int)), ())))
    (some (Decidable.decide (a0 > (160 : Int)), ())))
   (some (Decidable.decide (a0 > (160 : Int)), ()))) := by kernel_rfl
theorem f47_eq (n : Nat) (a0 : List UInt8) : f47 (n + 1) a0 =
  (p47_2 (n) (n) (a0) ((↑a0.length : Int)) ((0 : Int))) := by kernel_rfl
theorem p47_2_eq (j : Nat) (n0 : Nat) (v0 : List UInt8) (v5 : Int) (v6 : Int) : p47_2 (j + 1) n0 v0 v5 v6 =
  (sel (Decidable.decide (v6 < v5))
   (sel (Decidable.decide ((0 : Int) ≤ v6))
    (sel (Decidable.decide (v6 < (↑v0.length : Int)))
     (obind (f71 j (v0.getD v6.toNat (0 : UInt8))) fun r132 =>
      (sel (!r132.fst)
       (some (v6, ()))
       (p47_2 (j) (n0) (v0) (v5) (Go.IntKind.i64.wrap (v6 + (1 : Int))))))
     none)
    none)
   (some ((-1 : Int), ()))) := by kernel_rfl
theorem f64_eq (n : Nat) (a0 : List UInt8) (a1 : List UInt8) : f64 (n + 1) a0 a1 =
  (sel (Decidable.decide ((↑a0.length : Int) ≥ (↑a1.length : Int)))
   (sel (Decidable.decide ((0 : Int) ≤ (↑a1.length : Int)))
    (sel (Decidable.decide ((↑a1.length : Int) ≤ (↑a0.length : Int)))
     (some (Lk.ext a0 (0 : Int) (↑a1.length : Int) == a1, ()))
     none)
    none)
   (some (Bool.false, ()))) := by kernel_rfl
theorem f65_eq (n : Nat) (a0 : List UInt8) (a1 : Int) : f65 (n + 1) a0 a1 =
  (sel (Decidable.decide (a1 ≥ (↑a0.length : Int)))
   (some ((-1 : Int), ()))
   (sel (Decidable.decide ((0 : Int) ≤ a1))
    (sel (Decidable.decide (a1 < (↑a0.length : Int)))
     (obind (f83 n ([(48 : UInt8), (49 : UInt8), (50 : UInt8), (51 : UInt8), (52 : UInt8), (53 : UInt8), (54 : UInt8), (55 : UInt8), (56 : UInt8), (57 : UInt8), (97 : UInt8), (98 : UInt8), (99 : UInt8), (100 : UInt8), (101 : UInt8), (102 : UInt8)]) (a0.getD a1.toNat (0 : UInt8))) fun r122 =>
      (some (r122.fst, ())))
     none)
    none)) := by kernel_rfl
theorem f71_eq (n : Nat) (a0 : UInt8) : f71 (n + 1) a0 =
  (sel (Decidable.decide ((↑a0.toNat : Int) ≥ (↑(UInt8.toNat (97 : UInt8)) : Int)))
   (p71_2050 (n) (n) (a0) (Decidable.decide ((↑a0.toNat : Int) ≤ (↑(UInt8.toNat (122 : UInt8)) : Int))))
   (p71_2050 (n) (n) (a0) (Bool.false))) := by kernel_rfl
theorem p71_2050_eq (j : Nat) (n0 : Nat) (v0 : UInt8) (v3 : Bool) : p71_2050 (j + 1) n0 v0 v3 =
  (sel (v3)
   (p71_2051 (n0) (n0) (v0) (v3))
   (sel (Decidable.decide ((↑v0.toNat : Int) ≥ (↑(UInt8.toNat (48 : UInt8)) : Int)))
    (p71_2051 (n0) (n0) (v0) (Decidable.decide ((↑v0.toNat : Int) ≤ (↑(UInt8.toNat (57 : UInt8)) : Int))))
    (p71_2051 (n0) (n0) (v0) (Bool.false)))) := by kernel_rfl
theorem p71_2051_eq (j : Nat) (n0 : Nat) (v0 : UInt8) (v3 : Bool) : p71_2051 (j + 1) n0 v0 v3 =
  (sel (v3)
   (some (Bool.true, ()))
   (sel ((↑v0.toNat : Int) == (↑(UInt8.toNat (46 : UInt8)) : Int))
    (p71_2055 (j) (n0) (j) ((↑v0.toNat : Int) == (↑(UInt8.toNat (46 : UInt8)) : Int)))
    (sel ((↑v0.toNat : Int) == (↑(UInt8.toNat (95 : UInt8)) : Int))
     (p71_2055 (j) (n0) (j) ((↑v0.toNat : Int) == (↑(UInt8.toNat (95 : UInt8)) : Int)))
     (p71_2055 (j) (n0) (j) ((↑v0.toNat : Int) == (↑(UInt8.toNat (45 : UInt8)) : Int)))))) := by kernel_rfl
theorem p71_2055_eq (j : Nat) (n0 : Nat) (n1 : Nat) (v16 : Bool) : p71_2055 (j + 1) n0 n1 v16 =
  (sel (v16)
   (some (Bool.true, ()))
   (p71_8 (n0) (n0))) := by kernel_rfl
theorem p71_8_eq (j : Nat) (n0 : Nat) : p71_8 (j + 1) n0 =
  (some (Bool.false, ())) := by kernel_rfl
end NqGB

namespace NqGB
open Go Lk NqG
noncomputable def theFnsU : Nq.FnsU := { 
  f37 := f37,
  f83 := f83,
  f13 := f13,
  f11 := f11,
  p11_5 := p11_5,
  p11_6 := p11_6,
  p11_17 := p11_17,
  p11_2062 := p11_2062,
  p11_15 := p11_15,
  f16 := f16,
  p16_2053 := p16_2053,
  p16_6 := p16_6,
  f18 := f18,
  p18_2050 := p18_2050,
  p18_3 := p18_3,
  f35 := f35,
  f36 := f36,
  p36_2060 := p36_2060,
  p36_2064 := p36_2064,
  p36_17 := p36_17,
  f38 := f38,
  f47 := f47,
  p47_2 := p47_2,
  f64 := f64,
  f65 := f65,
  f71 := f71,
  p71_2050 := p71_2050,
  p71_2051 := p71_2051,
  p71_2055 := p71_2055,
  p71_8 := p71_8,
  f37_eq := f37_eq,
  f83_eq := f83_eq,
  f13_eq := f13_eq,
  f11_eq := f11_eq,
  p11_5_eq := p11_5_eq,
  p11_6_eq := p11_6_eq,
  p11_17_eq := p11_17_eq,
  p11_2062_eq := p11_2062_eq,
  p11_15_eq := p11_15_eq,
  f16_eq := f16_eq,
  p16_2053_eq := p16_2053_eq,
  p16_6_eq := p16_6_eq,
  f18_eq := f18_eq,
  p18_2050_eq := p18_2050_eq,
  p18_3_eq := p18_3_eq,
  f35_eq := f35_eq,
  f36_eq := f36_eq,
  p36_2060_eq := p36_2060_eq,
  p36_2064_eq := p36_2064_eq,
  p36_17_eq := p36_17_eq,
  f38_eq := f38_eq,
  f47_eq := f47_eq,
  p47_2_eq := p47_2_eq,
  f64_eq := f64_eq,
  f65_eq := f65_eq,
  f71_eq := f71_eq,
  p71_2050_eq := p71_2050_eq,
  p71_2051_eq := p71_2051_eq,
  p71_2055_eq := p71_2055_eq,
  p71_8_eq := p71_8_eq }
end NqGB

namespace NqGB
open Go Lk NqG
set_option linter.unusedVariables false
/-- strconv.Itoa -/
@[irreducible] noncomputable def f72 (n : Nat) (a0 : Int) : Option (List UInt8 × Unit) := F G n 72 (a0, ())
theorem f72_eq (n : Nat) (a0 : Int) : f72 n a0 = bif decide (-9223372036854775808 ≤ a0) && decide (a0 ≤ 9223372036854775807) then some (Lib.itoa a0, ()) else none := by kernel_rfl
/-- strings.Repeat -/
@[irreducible] noncomputable def f73 (n : Nat) (a0 : List UInt8) (a1 : Int) : Option (List UInt8 × Unit) := F G n 73 (a0, a1, ())
theorem f73_eq (n : Nat) (a0 : List UInt8) (a1 : Int) : f73 n a0 a1 = bif decide (0 ≤ a1) && decide (a1 ≤ 1073741824) && Nat.ble a0.length 100 then some (Lib.repeatL a0 a1.toNat, ()) else none := by kernel_rfl
/-- moraine/names.Name -/
@[irreducible] noncomputable def f25 (n : Nat) (a0 : Int) (a1 : Int) : Option (List UInt8 × Int × Unit) := F G n 25 (a0, a1, ())
@[irreducible] noncomputable def p25_2050 (j : Nat) (n0 : Nat) (v0 : Int) (v1 : Int) (v6 : Bool) : Option (List UInt8 × Int × Unit) := piece G 25 [.r, .l, .b, .r] j [n0] (skel 43 0 [(0, .av ⟨(.i .i64), .r, v0⟩), (1, .av ⟨(.i .i64), .r, v1⟩), (6, .av ⟨.b, .r, v6⟩)])
@[irreducible] noncomputable def p25_2052 (j : Nat) (n0 : Nat) (n1 : Nat) (v0 : Int) (v1 : Int) (v13 : Bool) : Option (List UInt8 × Int × Unit) := piece G 25 [.r, .l, .b, .r, .f, .r] j [n0, n1] (skel 43 0 [(0, .av ⟨(.i .i64), .r, v0⟩), (1, .av ⟨(.i .i64), .r, v1⟩), (13, .av ⟨.b, .r, v13⟩)])
@[irreducible] noncomputable def p25_7 (j : Nat) (n0 : Nat) (v0 : Int) (v1 : Int) : Option (List UInt8 × Int × Unit) := piece G 25 [.r, .r] j [n0] (skel 43 0 [(0, .av ⟨(.i .i64), .r, v0⟩), (1, .av ⟨(.i .i64), .r, v1⟩)])
/-- moraine/names.padded -/
@[irreducible] noncomputable def f50 (n : Nat) (a0 : Int) : Option (List UInt8 × Unit) := F G n 50 (a0, ())
/-- moraine/names.tail -/
@[irreducible] noncomputable def f51 (n : Nat) (a0 : Int) : Option (List UInt8 × Unit) := F G n 51 (a0, ())
theorem f25_eq (n : Nat) (a0 : Int) (a1 : Int) : f25 (n + 1) a0 a1 =
  (sel (a0 == (4 : Int))
   (p25_2050 (n) (n) (a0) (a1) (a1 == (0 : Int)))
   (p25_2050 (n) (n) (a0) (a1) (Bool.false))) := by kernel_rfl
theorem p25_2050_eq (j : Nat) (n0 : Nat) (v0 : Int) (v1 : Int) (v6 : Bool) : p25_2050 (j + 1) n0 v0 v1 v6 =
  (sel (v6)
   (some ([(67 : UInt8), (85 : UInt8), (82 : UInt8), (82 : UInt8), (69 : UInt8), (78 : UInt8), (84 : UInt8)], (0 : Int), ()))
   (sel (v0 == (4 : Int))
    (p25_2052 (j) (n0) (j) (v0) (v1) (Bool.true))
    (sel (Decidable.decide (v0 < (1 : Int)))
     (p25_2052 (j) (n0) (j) (v0) (v1) (Bool.true))
     (sel (Decidable.decide (v0 > (5 : Int)))
      (p25_2052 (j) (n0) (j) (v0) (v1) (Bool.true))
      (sel (Decidable.decide (v1 < (1 : Int)))
       (p25_2052 (j) (n0) (j) (v0) (v1) (Bool.true))
       (p25_2052 (j) (n0) (j) (v0) (v1) (Decidable.decide (v1 > (2147483647 : Int))))))))) := by kernel_rfl
theorem p25_2052_eq (j : Nat) (n0 : Nat) (n1 : Nat) (v0 : Int) (v1 : Int) (v13 : Bool) : p25_2052 (j + 1) n0 n1 v0 v1 v13 =
  (sel (v13)
   (some ([], (60 : Int), ()))
   (sel (v0 == (3 : Int))
    (obind (f50 j (v1)) fun r774 =>
     (sel (Decidable.decide ([(77 : UInt8), (65 : UInt8), (78 : UInt8), (73 : UInt8), (70 : UInt8), (69 : UInt8), (83 : UInt8), (84 : UInt8), (45 : UInt8)].length + List.length r774.fst ≤ Lk.big))
      (some ([(77 : UInt8), (65 : UInt8), (78 : UInt8), (73 : UInt8), (70 : UInt8), (69 : UInt8), (83 : UInt8), (84 : UInt8), (45 : UInt8)] ++ r774.fst, (0 : Int), ()))
      none))
    (p25_7 (n0) (n0) (v0) (v1)))) := by kernel_rfl
theorem p25_7_eq (j : Nat) (n0 : Nat) (v0 : Int) (v1 : Int) : p25_7 (j + 1) n0 v0 v1 =
  (obind (f50 j (v1)) fun r841 =>
   (obind (f51 j (v0)) fun r856 =>
    (sel (Decidable.decide (List.length r841.fst + List.length r856.fst ≤ Lk.big))
     (some (r841.fst ++ r856.fst, (0 : Int), ()))
     none))) := by kernel_rfl
theorem f50_eq (n : Nat) (a0 : Int) : f50 (n + 1) a0 =
  (obind (f72 n (a0)) fun r37 =>
   (obind (f73 n ([(48 : UInt8)]) (Lk.imax (Go.IntKind.i64.wrap ((6 : Int) - (↑(List.length r37.fst) : Int))) (0 : Int))) fun r87 =>
    (sel (Decidable.decide (List.length r87.fst + List.length r37.fst ≤ Lk.big))
     (some (r87.fst ++ r37.fst, ()))
     none))) := by kernel_rfl
theorem f51_eq (n : Nat) (a0 : Int) : f51 (n + 1) a0 =
  (sel (a0 == (1 : Int))
   (some ([(46 : UInt8), (108 : UInt8), (111 : UInt8), (103 : UInt8)], ()))
   (sel (a0 == (2 : Int))
    (some ([(46 : UInt8), (116 : UInt8), (97 : UInt8), (98 : UInt8)], ()))
    (sel (a0 == (5 : Int))
     (some ([(46 : UInt8), (116 : UInt8), (109 : UInt8), (112 : UInt8)], ()))
     (some ([], ()))))) := by kernel_rfl
end NqGB

namespace NqGB
open Go Lk NqG
noncomputable def theFnsM : Nq.FnsM := { 
  f72 := f72,
  f73 := f73,
  f25 := f25,
  p25_2050 := p25_2050,
  p25_2052 := p25_2052,
  p25_7 := p25_7,
  f50 := f50,
  f51 := f51,
  f72_eq := f72_eq,
  f73_eq := f73_eq,
  f25_eq := f25_eq,
  p25_2050_eq := p25_2050_eq,
  p25_2052_eq := p25_2052_eq,
  p25_7_eq := p25_7_eq,
  f50_eq := f50_eq,
  f51_eq := f51_eq }
end NqGB

namespace NqGB
open Go Lk NqG
set_option linter.unusedVariables false
/-- moraine/morainelaw06.works -/
@[irreducible] noncomputable def f20 (n : Nat)  : Option (Bool × Unit) := F G n 20 (())
theorem f20_eq (n : Nat)  : f20 (n + 1)  =
  (obind (f25 n ((1 : Int)) ((12 : Int))) fun r30 =>
   (obind (f11 n ([(34 : UInt8), (97 : UInt8), (92 : UInt8), (115 : UInt8), (98 : UInt8), (34 : UInt8)])) fun r80 =>
    (sel (r30.fst == [(48 : UInt8), (48 : UInt8), (48 : UInt8), (48 : UInt8), (49 : UInt8), (50 : UInt8), (46 : UInt8), (108 : UInt8), (111 : UInt8), (103 : UInt8)])
     (sel (r30.snd.fst == (0 : Int))
      (sel (r80.fst == [(97 : UInt8), (32 : UInt8), (98 : UInt8)])
       (sel (r80.snd.fst == (0 : Int))
        (sel (r80.snd.snd.fst == (0 : Int))
         (obind (f13 n ([(97 : UInt8), (32 : UInt8), (98 : UInt8)])) fun r331 =>
          (some (r331.fst == [(34 : UInt8), (97 : UInt8), (92 : UInt8), (115 : UInt8), (98 : UInt8), (34 : UInt8)], ())))
         (some (Bool.false, ())))
        (some (Bool.false, ())))
       (some (Bool.false, ())))
      (some (Bool.false, ())))
     (some (Bool.false, ()))))) := by kernel_rfl
end NqGB

namespace NqGB
open Go Lk NqG
noncomputable def theFnsK : Nq.FnsK := { theFnsU, theFnsM with
  f20 := f20,
  f20_eq := f20_eq }
end NqGB

namespace NqGB
open Go Lk NqG
set_option linter.unusedVariables false
/-- strconv.Atoi -/
@[irreducible] noncomputable def f55 (n : Nat) (a0 : List UInt8) : Option (Int × Bool × Unit) := F G n 55 (a0, ())
theorem f55_eq (n : Nat) (a0 : List UInt8) : f55 n a0 = bif Nat.ble a0.length 2147483648 then some ((atoi a0).1, (atoi a0).2, ()) else none := by kernel_rfl
/-- moraine/names.Parse -/
@[irreducible] noncomputable def f27 (n : Nat) (a0 : List UInt8) : Option (Int × Int × Int × Unit) := F G n 27 (a0, ())
@[irreducible] noncomputable def p27_7 (j : Nat) (n0 : Nat) (v0 : List UInt8) (v2 : Int) (v5 : List UInt8) : Option (Int × Int × Int × Unit) := piece G 27 [.r, .r, .r, .r] j [n0] (skel 67 0 [(0, .av ⟨.s, .r, v0⟩), (2, .av ⟨(.i .i64), .r, v2⟩), (5, .av ⟨.s, .r, v5⟩)])
@[irreducible] noncomputable def p27_8 (j : Nat) (n0 : Nat) (n1 : Nat) (v0 : List UInt8) (v2 : Int) (v5 : List UInt8) (v24 : List (Int)) (v25 : Int) (v26 : Int) : Option (Int × Int × Int × Unit) := piece G 27 [.r, .r, .r, .r, .l, .r, .b] j [n0, n1] (skel 67 0 [(0, .av ⟨.s, .r, v0⟩), (2, .av ⟨(.i .i64), .r, v2⟩), (5, .av ⟨.s, .r, v5⟩), (24, .av ⟨(.l (.i .i64)), (.o .r), v24⟩), (25, .av ⟨(.i .i64), .r, v25⟩), (26, .av ⟨(.i .i64), .r, v26⟩)])
@[irreducible] noncomputable def p27_2060 (j : Nat) (n0 : Nat) (n1 : Nat) (n2 : Nat) (v0 : List UInt8) (v2 : Int) (v5 : List UInt8) (v9 : Int) (v10 : List UInt8) (v24 : List (Int)) (v25 : Int) (v26 : Int) (v41 : Bool) : Option (Int × Int × Int × Unit) := piece G 27 [.r, .r, .r, .r, .l, .r, .b, .o, .r, .r, .l, .b, .r, .r, .r] j [n0, n1, n2] (skel 67 0 [(0, .av ⟨.s, .r, v0⟩), (2, .av ⟨(.i .i64), .r, v2⟩), (5, .av ⟨.s, .r, v5⟩), (9, .av ⟨(.i .i64), .r, v9⟩), (10, .av ⟨.s, .r, v10⟩), (24, .av ⟨(.l (.i .i64)), (.o .r), v24⟩), (25, .av ⟨(.i .i64), .r, v25⟩), (26, .av ⟨(.i .i64), .r, v26⟩), (41, .av ⟨.b, .r, v41⟩)])
@[irreducible] noncomputable def p27_2067 (j : Nat) (n0 : Nat) (n1 : Nat) (v2 : Int) (v3 : Int) (v64 : Bool) : Option (Int × Int × Int × Unit) := piece G 27 [.r, .r, .r, .r, .r, .r, .r, .l, .r, .r] j [n0, n1] (skel 67 0 [(2, .av ⟨(.i .i64), .r, v2⟩), (3, .av ⟨(.i .i64), .r, v3⟩), (64, .av ⟨.b, .r, v64⟩)])
@[irreducible] noncomputable def p27_13 (j : Nat) (n0 : Nat) (n1 : Nat) (n2 : Nat) (v0 : List UInt8) (v2 : Int) (v5 : List UInt8) (v24 : List (Int)) (v25 : Int) (v26 : Int) : Option (Int × Int × Int × Unit) := piece G 27 [.r, .r, .r, .r, .l, .r, .b, .o, .r, .r, .r] j [n0, n1, n2] (skel 67 0 [(0, .av ⟨.s, .r, v0⟩), (2, .av ⟨(.i .i64), .r, v2⟩), (5, .av ⟨.s, .r, v5⟩), (24, .av ⟨(.l (.i .i64)), (.o .r), v24⟩), (25, .av ⟨(.i .i64), .r, v25⟩), (26, .av ⟨(.i .i64), .r, v26⟩)])
@[irreducible] noncomputable def p27_20 (j : Nat) (n0 : Nat) (n1 : Nat) (v2 : Int) (v3 : Int) : Option (Int × Int × Int × Unit) := piece G 27 [.r, .r, .r, .r, .r, .r, .r, .r] j [n0, n1] (skel 67 0 [(2, .av ⟨(.i .i64), .r, v2⟩), (3, .av ⟨(.i .i64), .r, v3⟩)])
/-- moraine/names.Current -/
@[irreducible] noncomputable def f29 (n : Nat) (a0 : Int) : Option (List UInt8 × Int × Unit) := F G n 29 (a0, ())
/-- moraine/names.Named -/
@[irreducible] noncomputable def f31 (n : Nat) (a0 : List UInt8) : Option (Int × Int × Unit) := F G n 31 (a0, ())
@[irreducible] noncomputable def p31_2052 (j : Nat) (n0 : Nat) (v7 : Int) (v29 : Bool) : Option (Int × Int × Unit) := piece G 31 [.r, .r, .r, .l, .r] j [n0] (skel 31 0 [(7, .av ⟨(.i .i64), .r, v7⟩), (29, .av ⟨.b, .r, v29⟩)])
@[irreducible] noncomputable def p31_5 (j : Nat) (n0 : Nat) (v7 : Int) : Option (Int × Int × Unit) := piece G 31 [.r, .r, .r, .r] j [n0] (skel 31 0 [(7, .av ⟨(.i .i64), .r, v7⟩)])
/-- strings.CutPrefix -/
@[irreducible] noncomputable def f53 (n : Nat) (a0 : List UInt8) (a1 : List UInt8) : Option (List UInt8 × Bool × Unit) := F G n 53 (a0, a1, ())
/-- strings.CutSuffix -/
@[irreducible] noncomputable def f54 (n : Nat) (a0 : List UInt8) (a1 : List UInt8) : Option (List UInt8 × Bool × Unit) := F G n 54 (a0, a1, ())
/-- internal/stringslite.CutPrefix -/
@[irreducible] noncomputable def f75 (n : Nat) (a0 : List UInt8) (a1 : List UInt8) : Option (List UInt8 × Bool × Unit) := F G n 75 (a0, a1, ())
/-- internal/stringslite.CutSuffix -/
@[irreducible] noncomputable def f76 (n : Nat) (a0 : List UInt8) (a1 : List UInt8) : Option (List UInt8 × Bool × Unit) := F G n 76 (a0, a1, ())
/-- internal/stringslite.HasSuffix -/
@[irreducible] noncomputable def f89 (n : Nat) (a0 : List UInt8) (a1 : List UInt8) : Option (Bool × Unit) := F G n 89 (a0, a1, ())
theorem f27_eq (n : Nat) (a0 : List UInt8) : f27 (n + 1) a0 =
  (sel (a0 == [(67 : UInt8), (85 : UInt8), (82 : UInt8), (82 : UInt8), (69 : UInt8), (78 : UInt8), (84 : UInt8)])
   (some ((4 : Int), (0 : Int), (0 : Int), ()))
   (obind (f53 n (a0) ([(77 : UInt8), (65 : UInt8), (78 : UInt8), (73 : UInt8), (70 : UInt8), (69 : UInt8), (83 : UInt8), (84 : UInt8), (45 : UInt8)])) fun r137 =>
    (sel (r137.snd.fst)
     (p27_7 (n) (n) (a0) ((3 : Int)) (r137.fst))
     (p27_7 (n) (n) (a0) ((0 : Int)) ([]))))) := by kernel_rfl
theorem p27_7_eq (j : Nat) (n0 : Nat) (v0 : List UInt8) (v2 : Int) (v5 : List UInt8) : p27_7 (j + 1) n0 v0 v2 v5 =
  (p27_8 (j) (n0) (j) (v0) (v2) (v5) ([(1 : Int), (2 : Int), (5 : Int)]) ((↑[(1 : Int), (2 : Int), (5 : Int)].length : Int)) ((0 : Int))) := by kernel_rfl
theorem p27_8_eq (j : Nat) (n0 : Nat) (n1 : Nat) (v0 : List UInt8) (v2 : Int) (v5 : List UInt8) (v24 : List (Int)) (v25 : Int) (v26 : Int) : p27_8 (j + 1) n0 n1 v0 v2 v5 v24 v25 v26 =
  (sel (Decidable.decide (v26 < v25))
   (sel (Decidable.decide ((0 : Int) ≤ v26))
    (sel (Decidable.decide (v26 < (↑v24.length : Int)))
     (obind (f51 j (v24.getD v26.toNat (0 : Int))) fun r342 =>
      (obind (f54 j (v0) (r342.fst)) fun r350 =>
       (sel (r350.snd.fst)
        (p27_2060 (j) (n0) (n1) (j) (v0) (v2) (v5) (v24.getD v26.toNat (0 : Int)) (r350.fst) (v24) (v25) (v26) (v2 == (0 : Int)))
        (p27_2060 (j) (n0) (n1) (j) (v0) (v2) (v5) (v24.getD v26.toNat (0 : Int)) (r350.fst) (v24) (v25) (v26) (Bool.false)))))
     none)
    none)
   (obind (f55 n1 (v5)) fun r496 =>
    (sel (r496.snd.fst)
     (some ((0 : Int), (0 : Int), (60 : Int), ()))
     (obind (f25 n1 (v2) (r496.fst)) fun r632 =>
      (sel (r632.snd.fst != (0 : Int))
       (p27_2067 (n1) (n0) (n1) (v2) (r496.fst) (Bool.true))
       (p27_2067 (n1) (n0) (n1) (v2) (r496.fst) (!r632.fst == v0))))))) := by kernel_rfl
theorem p27_2060_eq (j : Nat) (n0 : Nat) (n1 : Nat) (n2 : Nat) (v0 : List UInt8) (v2 : Int) (v5 : List UInt8) (v9 : Int) (v10 : List UInt8) (v24 : List (Int)) (v25 : Int) (v26 : Int) (v41 : Bool) : p27_2060 (j + 1) n0 n1 n2 v0 v2 v5 v9 v10 v24 v25 v26 v41 =
  (sel (v41)
   (p27_13 (n2) (n0) (n1) (n2) (v0) (v9) (v10) (v24) (v25) (v26))
   (p27_13 (n2) (n0) (n1) (n2) (v0) (v2) (v5) (v24) (v25) (v26))) := by kernel_rfl
theorem p27_2067_eq (j : Nat) (n0 : Nat) (n1 : Nat) (v2 : Int) (v3 : Int) (v64 : Bool) : p27_2067 (j + 1) n0 n1 v2 v3 v64 =
  (sel (v64)
   (some ((0 : Int), (0 : Int), (60 : Int), ()))
   (p27_20 (n1) (n0) (n1) (v2) (v3))) := by kernel_rfl
theorem p27_13_eq (j : Nat) (n0 : Nat) (n1 : Nat) (n2 : Nat) (v0 : List UInt8) (v2 : Int) (v5 : List UInt8) (v24 : List (Int)) (v25 : Int) (v26 : Int) : p27_13 (j + 1) n0 n1 n2 v0 v2 v5 v24 v25 v26 =
  (p27_8 (n2) (n0) (n1) (v0) (v2) (v5) (v24) (v25) (Go.IntKind.i64.wrap (v26 + (1 : Int)))) := by kernel_rfl
theorem p27_20_eq (j : Nat) (n0 : Nat) (n1 : Nat) (v2 : Int) (v3 : Int) : p27_20 (j + 1) n0 n1 v2 v3 =
  (some (v2, v3, (0 : Int), ())) := by kernel_rfl
theorem f29_eq (n : Nat) (a0 : Int) : f29 (n + 1) a0 =
  (obind (f25 n ((3 : Int)) (a0)) fun r44 =>
   (sel (r44.snd.fst != (0 : Int))
    (some ([], r44.snd.fst, ()))
    (sel (Decidable.decide (List.length r44.fst + [(10 : UInt8)].length ≤ Lk.big))
     (some (r44.fst ++ [(10 : UInt8)], (0 : Int), ()))
     none))) := by kernel_rfl
theorem f31_eq (n : Nat) (a0 : List UInt8) : f31 (n + 1) a0 =
  (obind (f54 n (a0) ([(10 : UInt8)])) fun r44 =>
   (obind (f27 n (r44.fst)) fun r101 =>
    (sel (!r44.snd.fst)
     (p31_2052 (n) (n) (r101.snd.fst) (Bool.true))
     (sel (r101.snd.snd.fst != (0 : Int))
      (p31_2052 (n) (n) (r101.snd.fst) (Bool.true))
      (p31_2052 (n) (n) (r101.snd.fst) (r101.fst != (3 : Int))))))) := by kernel_rfl
theorem p31_2052_eq (j : Nat) (n0 : Nat) (v7 : Int) (v29 : Bool) : p31_2052 (j + 1) n0 v7 v29 =
  (sel (v29)
   (some ((0 : Int), (60 : Int), ()))
   (p31_5 (n0) (n0) (v7))) := by kernel_rfl
theorem p31_5_eq (j : Nat) (n0 : Nat) (v7 : Int) : p31_5 (j + 1) n0 v7 =
  (some (v7, (0 : Int), ())) := by kernel_rfl
theorem f53_eq (n : Nat) (a0 : List UInt8) (a1 : List UInt8) : f53 (n + 1) a0 a1 =
  (obind (f75 n (a0) (a1)) fun r51 =>
   (some (r51.fst, r51.snd.fst, ()))) := by kernel_rfl
theorem f54_eq (n : Nat) (a0 : List UInt8) (a1 : List UInt8) : f54 (n + 1) a0 a1 =
  (obind (f76 n (a0) (a1)) fun r51 =>
   (some (r51.fst, r51.snd.fst, ()))) := by kernel_rfl
theorem f75_eq (n : Nat) (a0 : List UInt8) (a1 : List UInt8) : f75 (n + 1) a0 a1 =
  (obind (f64 n (a0) (a1)) fun r52 =>
   (sel (!r52.fst)
    (some (a0, Bool.false, ()))
    (sel (Decidable.decide ((0 : Int) ≤ (↑a1.length : Int)))
     (sel (Decidable.decide ((↑a1.length : Int) ≤ (↑a0.length : Int)))
      (some (Lk.ext a0 (↑a1.length : Int) (↑a0.length : Int), Bool.true, ()))
      none)
     none))) := by kernel_rfl
theorem f76_eq (n : Nat) (a0 : List UInt8) (a1 : List UInt8) : f76 (n + 1) a0 a1 =
  (obind (f89 n (a0) (a1)) fun r52 =>
   (sel (!r52.fst)
    (some (a0, Bool.false, ()))
    (sel (Decidable.decide ((0 : Int) ≤ Go.IntKind.i64.wrap ((↑a0.length : Int) - (↑a1.length : Int))))
     (sel (Decidable.decide (Go.IntKind.i64.wrap ((↑a0.length : Int) - (↑a1.length : Int)) ≤ (↑a0.length : Int)))
      (some (Lk.ext a0 (0 : Int) (Go.IntKind.i64.wrap ((↑a0.length : Int) - (↑a1.length : Int))), Bool.true, ()))
      none)
     none))) := by kernel_rfl
theorem f89_eq (n : Nat) (a0 : List UInt8) (a1 : List UInt8) : f89 (n + 1) a0 a1 =
  (sel (Decidable.decide ((↑a0.length : Int) ≥ (↑a1.length : Int)))
   (sel (Decidable.decide ((0 : Int) ≤ Go.IntKind.i64.wrap ((↑a0.length : Int) - (↑a1.length : Int))))
    (sel (Decidable.decide (Go.IntKind.i64.wrap ((↑a0.length : Int) - (↑a1.length : Int)) ≤ (↑a0.length : Int)))
     (some (Lk.ext a0 (Go.IntKind.i64.wrap ((↑a0.length : Int) - (↑a1.length : Int))) (↑a0.length : Int) == a1, ()))
     none)
    none)
   (some (Bool.false, ()))) := by kernel_rfl
end NqGB

namespace NqGB
open Go Lk NqG
noncomputable def theFnsP : Nq.FnsP := { theFnsM with
  f55 := f55,
  f27 := f27,
  p27_7 := p27_7,
  p27_8 := p27_8,
  p27_2060 := p27_2060,
  p27_2067 := p27_2067,
  p27_13 := p27_13,
  p27_20 := p27_20,
  f29 := f29,
  f31 := f31,
  p31_2052 := p31_2052,
  p31_5 := p31_5,
  f53 := f53,
  f54 := f54,
  f75 := f75,
  f76 := f76,
  f89 := f89,
  f64 := f64,
  f55_eq := f55_eq,
  f27_eq := f27_eq,
  p27_7_eq := p27_7_eq,
  p27_8_eq := p27_8_eq,
  p27_2060_eq := p27_2060_eq,
  p27_2067_eq := p27_2067_eq,
  p27_13_eq := p27_13_eq,
  p27_20_eq := p27_20_eq,
  f29_eq := f29_eq,
  f31_eq := f31_eq,
  p31_2052_eq := p31_2052_eq,
  p31_5_eq := p31_5_eq,
  f53_eq := f53_eq,
  f54_eq := f54_eq,
  f75_eq := f75_eq,
  f76_eq := f76_eq,
  f89_eq := f89_eq,
  f64_eq := f64_eq }
end NqGB

namespace NqGB
open Go Lk NqG
set_option linter.unusedVariables false
/-- moraine/morainelaw06.NamesBack -/
@[irreducible] noncomputable def f9 (n : Nat) (a0 : Int) (a1 : Int) (a2 : List UInt8) : Option (Bool × Unit) := F G n 9 (a0, a1, a2, ())
@[irreducible] noncomputable def p9_2055 (j : Nat) (n0 : Nat) (v1 : Int) (v2 : List UInt8) (v46 : Bool) : Option (Bool × Unit) := piece G 9 [.r, .r, .r, .l, .r, .t, .r, .r] j [n0] (skel 97 0 [(1, .av ⟨(.i .i64), .r, v1⟩), (2, .av ⟨.s, .r, v2⟩), (46, .av ⟨.b, .r, v46⟩)])
@[irreducible] noncomputable def p9_8 (j : Nat) (n0 : Nat) (v1 : Int) (v2 : List UInt8) : Option (Bool × Unit) := piece G 9 [.r, .r, .r, .r] j [n0] (skel 97 0 [(1, .av ⟨(.i .i64), .r, v1⟩), (2, .av ⟨.s, .r, v2⟩)])
@[irreducible] noncomputable def p9_2060 (j : Nat) (n0 : Nat) (n1 : Nat) (v1 : Int) (v67 : Bool) : Option (Bool × Unit) := piece G 9 [.r, .r, .r, .r, .r, .l, .r, .t, .r, .r] j [n0, n1] (skel 97 0 [(1, .av ⟨(.i .i64), .r, v1⟩), (67, .av ⟨.b, .r, v67⟩)])
@[irreducible] noncomputable def p9_13 (j : Nat) (n0 : Nat) (n1 : Nat) (v1 : Int) : Option (Bool × Unit) := piece G 9 [.r, .r, .r, .r, .r, .r] j [n0, n1] (skel 97 0 [(1, .av ⟨(.i .i64), .r, v1⟩)])
theorem f9_eq (n : Nat) (a0 : Int) (a1 : Int) (a2 : List UInt8) : f9 (n + 1) a0 a1 a2 =
  (obind (f20 n ) fun r31 =>
   (sel (!r31.fst)
    (some (Bool.false, ()))
    (obind (f25 n (a0) (a1)) fun r102 =>
     (sel (r102.snd.fst == (0 : Int))
      (obind (f27 n (r102.fst)) fun r185 =>
       (sel (r185.fst != a0)
        (p9_2055 (n) (n) (a1) (a2) (Bool.true))
        (sel (r185.snd.fst != a1)
         (p9_2055 (n) (n) (a1) (a2) (Bool.true))
         (p9_2055 (n) (n) (a1) (a2) (r185.snd.snd.fst != (0 : Int))))))
      (p9_8 (n) (n) (a1) (a2)))))) := by kernel_rfl
theorem p9_2055_eq (j : Nat) (n0 : Nat) (v1 : Int) (v2 : List UInt8) (v46 : Bool) : p9_2055 (j + 1) n0 v1 v2 v46 =
  (sel (v46)
   (some (Bool.false, ()))
   (p9_8 (n0) (n0) (v1) (v2))) := by kernel_rfl
theorem p9_8_eq (j : Nat) (n0 : Nat) (v1 : Int) (v2 : List UInt8) : p9_8 (j + 1) n0 v1 v2 =
  (obind (f27 j (v2)) fun r513 =>
   (sel (r513.snd.snd.fst == (0 : Int))
    (obind (f25 j (r513.fst) (r513.snd.fst)) fun r617 =>
     (sel (!r617.fst == v2)
      (p9_2060 (j) (n0) (j) (v1) (Bool.true))
      (p9_2060 (j) (n0) (j) (v1) (r617.snd.fst != (0 : Int)))))
    (p9_13 (j) (n0) (j) (v1)))) := by kernel_rfl
theorem p9_2060_eq (j : Nat) (n0 : Nat) (n1 : Nat) (v1 : Int) (v67 : Bool) : p9_2060 (j + 1) n0 n1 v1 v67 =
  (sel (v67)
   (some (Bool.false, ()))
   (p9_13 (n1) (n0) (n1) (v1))) := by kernel_rfl
theorem p9_13_eq (j : Nat) (n0 : Nat) (n1 : Nat) (v1 : Int) : p9_13 (j + 1) n0 n1 v1 =
  (obind (f29 j (v1)) fun r811 =>
   (sel (r811.snd.fst == (0 : Int))
    (obind (f31 j (r811.fst)) fun r894 =>
     (sel (r894.fst == v1)
      (some (r894.snd.fst == (0 : Int), ()))
      (some (Bool.false, ()))))
    (sel (r811.fst == [])
     (sel (Decidable.decide (v1 < (1 : Int)))
      (some (Bool.true, ()))
      (some (Decidable.decide (v1 > (2147483647 : Int)), ())))
     (some (Bool.false, ()))))) := by kernel_rfl
end NqGB

namespace NqGB
open Go Lk NqG
noncomputable def theFnsB : Nq.FnsB := { theFnsK, theFnsP with
  f9 := f9,
  p9_2055 := p9_2055,
  p9_8 := p9_8,
  p9_2060 := p9_2060,
  p9_13 := p9_13,
  f9_eq := f9_eq,
  p9_2055_eq := p9_2055_eq,
  p9_8_eq := p9_8_eq,
  p9_2060_eq := p9_2060_eq,
  p9_13_eq := p9_13_eq }
end NqGB

