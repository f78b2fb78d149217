import Derived.Test.YtgnihbbhmbbkbaaProg
import Derived.Test.YtgnihbbhmbbkbaaLkTwo
set_option linter.all false
namespace NsG
open Go Lk
noncomputable def tys : BT (Ty × Md) := (.node (.node (.node (.node (.node .leaf 2 (.i .i64, .r) .leaf) 3 (.i .i64, .r) .leaf) 4 (.b, .r) (.node .leaf 5 (.by, .r) .leaf)) 6 (.by, .r) (.node (.node (.node .leaf 9 (.s, .r) .leaf) 10 (.s, .r) .leaf) 11 (.s, .r) (.node .leaf 12 (.i .u64, .r) .leaf))) 21 (.i .i32, .r) (.node (.node (.node (.node .leaf 22 (.l (.s), .o .r) .leaf) 23 (.i .i64, .r) .leaf) 34 (.i .u32, .r) (.node .leaf 37 (.l (.by), .o .r) .leaf)) 38 (.i .u64, .r) (.node (.node (.node .leaf 46 (.by, .r) .leaf) 47 (.by, .r) .leaf) 50 (.i .i32, .r) (.node .leaf 51 (.i .i32, .r) .leaf))))
noncomputable def sigs : BT Sig := (.node (.node (.node (.node .leaf 3 ⟨[(.s, .r)], [(.b, .r)]⟩ .leaf) 4 ⟨[(.s, .r)], [(.l (.s), (.o .r)), (.i .i64, .r), (.i .i64, .r)]⟩ .leaf) 5 ⟨[(.s, .r)], [(.l (.s), (.o .r)), (.i .i64, .r), (.i .i64, .r)]⟩ (.node .leaf 6 ⟨[(.l (.s), .b), (.l (.s), .b)], [(.b, .r)]⟩ .leaf)) 7 ⟨[(.s, .r)], [(.i .i64, .r)]⟩ (.node (.node (.node .leaf 8 ⟨[(.s, .r)], [(.i .i64, .r)]⟩ .leaf) 9 ⟨[], [(.b, .r)]⟩ .leaf) 10 ⟨[(.s, .r), (.i .i64, .r)], [(.i .i64, .r), (.b, .r)]⟩ (.node .leaf 11 ⟨[(.l (.by), .b), (.i .i64, .r)], [(.i .u32, .r), (.i .i64, .r)]⟩ .leaf)))
noncomputable def bodies : BT Func := (.node (.node (.node (.node .leaf 3 Go.Proofs.Try.f3 .leaf) 4 Go.Proofs.Try.f4 .leaf) 5 Go.Proofs.Try.f5 (.node .leaf 6 Go.Proofs.Try.f6 .leaf)) 7 Go.Proofs.Try.f7 (.node (.node (.node .leaf 8 Go.Proofs.Try.f8 .leaf) 9 Go.Proofs.Try.f9 .leaf) 10 Go.Proofs.Try.f10 (.node .leaf 11 Go.Proofs.Try.f11 .leaf)))
noncomputable def lives : BT (List Nat) := (.node (.node (.node (.node (.node (.node .leaf 12295 [3, 6, 9] .leaf) 12296 [3, 6, 9, 15] .leaf) 14342 [3, 6, 9, 73] (.node .leaf 16388 [0, 2, 5, 6, 15, 16] .leaf)) 16392 [0, 2, 5, 6, 15, 16] (.node (.node (.node .leaf 16393 [0, 2, 5, 6] .leaf) 16394 [0, 2, 5, 6, 8] .leaf) 16404 [0, 2, 5, 6, 8, 10] (.node .leaf 16405 [0, 2, 5, 6, 8, 9] .leaf))) 16406 [0, 2, 5, 6, 8, 9] (.node (.node (.node (.node .leaf 16407 [0, 2, 5, 6, 8, 9] .leaf) 16409 [0, 2, 5, 6] .leaf) 18439 [0, 2, 5, 6, 7, 15, 16, 28] (.node .leaf 18451 [0, 2, 5, 6, 8, 10, 64] .leaf)) 20486 [0, 5, 6, 7, 8, 9] (.node (.node .leaf 20487 [0, 5, 6, 7, 8, 9] .leaf) 20494 [0, 5, 7, 9] (.node .leaf 20510 [5] .leaf)))) 22538 [0, 5, 6, 7, 8, 9, 10, 20] (.node (.node (.node (.node (.node .leaf 22540 [0, 5, 6, 7, 8, 9, 10, 35] .leaf) 22548 [0, 5, 6, 7, 8, 9, 10, 57] .leaf) 22550 [0, 5, 6, 7, 8, 9, 80] (.node .leaf 22552 [0, 5, 6, 7, 8, 9, 82] .leaf)) 24580 [0, 1, 5] (.node (.node (.node .leaf 28675 [3, 5] .leaf) 32771 [0, 3, 4] .leaf) 40962 [0, 6] (.node .leaf 40963 [0, 6] .leaf))) 45067 [0, 1, 7, 8, 9] (.node (.node (.node (.node .leaf 45069 [0, 1, 7, 8, 9] .leaf) 45070 [0, 1, 7, 8, 9, 10] .leaf) 45077 [7, 8] (.node .leaf 47110 [0, 1, 6, 7, 8, 9, 20] .leaf)) 47112 [0, 1, 6, 7, 8, 9, 29] (.node (.node .leaf 47114 [0, 1, 6, 7, 8, 9, 38] .leaf) 47116 [0, 1, 7, 8, 9, 56] (.node .leaf 47124 [7, 8, 95] .leaf)))))
noncomputable def lims : BT Nat := (.node .leaf 22 1048576 (.node .leaf 37 16777216 .leaf))
noncomputable def G : Prg where
  ty T := tys.get T
  lim T := (lims.get T).getD 0
  sig g := (sigs.get g).getD ⟨[], []⟩
  body g := bodies.get g
  ext _ := none
  live g r := lives.get (Nat.add (Nat.mul g 4096) r)
end NsG

namespace NsG
open Go Lk
set_option linter.unusedVariables false
/-- moraine/names.Width -/
@[irreducible] noncomputable def f7 (n : Nat) (a0 : List UInt8) : Option (Int × Unit) := F G n 7 (a0, ())
@[irreducible] noncomputable def p7_3 (j : Nat) (n0 : Nat) (v3 : Int) (v5 : List UInt8) (p5 : Nat) : Option (Int × Unit) := piece G 7 [.r, .r, .l, .r, .b] j [n0] (skel 11 0 [(3, .av ⟨(.i .i64), .r, v3⟩), (5, .it v5 p5 ())])
/-- moraine/moraineref06.Width -/
@[irreducible] noncomputable def f8 (n : Nat) (a0 : List UInt8) : Option (Int × Unit) := F G n 8 (a0, ())
@[irreducible] noncomputable def p8_3 (j : Nat) (n0 : Nat) (v0 : List UInt8) (v3 : Int) (v4 : Int) : Option (Int × Unit) := piece G 8 [.r, .r, .l, .r, .b] j [n0] (skel 31 0 [(0, .av ⟨.s, .r, v0⟩), (3, .av ⟨(.i .i64), .r, v3⟩), (4, .av ⟨(.i .i64), .r, v4⟩)])
/-- moraine/morainelaw06.numbers -/
@[irreducible] noncomputable def f9 (n : Nat)  : Option (Bool × Unit) := F G n 9 (())
/-- moraine/names.ends -/
@[irreducible] noncomputable def f10 (n : Nat) (a0 : List UInt8) (a1 : Int) : Option (Int × Bool × Unit) := F G n 10 (a0, a1, ())
@[irreducible] noncomputable def p10_2 (j : Nat) (n0 : Nat) (v0 : List UInt8) (v6 : Int) : Option (Int × Bool × Unit) := piece G 10 [.r, .l, .r, .b] j [n0] (skel 26 0 [(0, .av ⟨.s, .r, v0⟩), (6, .av ⟨(.i .i64), .r, v6⟩)])
@[irreducible] noncomputable def p10_3 (j : Nat) (n0 : Nat) (n1 : Nat) (v0 : List UInt8) (v6 : Int) : Option (Int × Bool × Unit) := piece G 10 [.r, .l, .r, .b, .o, .r, .r] j [n0, n1] (skel 26 0 [(0, .av ⟨.s, .r, v0⟩), (6, .av ⟨(.i .i64), .r, v6⟩)])
/-- moraine/morainelaw06.texts -/
@[irreducible] noncomputable def f6 (n : Nat) (a0 : List (List UInt8)) (a1 : List (List UInt8)) : Option (Bool × Unit) := F G n 6 (a0, a1, ())
@[irreducible] noncomputable def p6_4 (j : Nat) (n0 : Nat) (v0 : List (List UInt8)) (v1 : List (List UInt8)) (v5 : Int) : Option (Bool × Unit) := piece G 6 [.r, .r, .l, .r, .b] j [n0] (skel 26 0 [(0, .av ⟨(.l .s), .b, v0⟩), (1, .av ⟨(.l .s), .b, v1⟩), (5, .av ⟨(.i .i64), .r, v5⟩)])
/-- moraine/moraineref06.Rune -/
@[irreducible] noncomputable def f11 (n : Nat) (a0 : List (UInt8)) (a1 : Int) : Option (Int × Int × Unit) := F G n 11 (a0, a1, ())
@[irreducible] noncomputable def p11_2054 (j : Nat) (n0 : Nat) (v0 : List (UInt8)) (v1 : Int) (v6 : Int) (v7 : Int) (v8 : Int) (v9 : Int) (v20 : Bool) : Option (Int × Int × Unit) := piece G 11 [.r, .r, .r, .l, .b, .r, .f, .r] j [n0] (skel 98 0 [(0, .av ⟨(.l .by), .b, v0⟩), (1, .av ⟨(.i .i64), .r, v1⟩), (6, .av ⟨(.i .u32), .r, v6⟩), (7, .av ⟨(.i .i64), .r, v7⟩), (8, .av ⟨(.i .u32), .r, v8⟩), (9, .av ⟨(.i .u32), .r, v9⟩), (20, .av ⟨.b, .r, v20⟩)])
@[irreducible] noncomputable def p11_11 (j : Nat) (n0 : Nat) (v0 : List (UInt8)) (v1 : Int) (v7 : Int) (v8 : Int) (v9 : Int) : Option (Int × Int × Unit) := piece G 11 [.r, .r, .r, .r] j [n0] (skel 98 0 [(0, .av ⟨(.l .by), .b, v0⟩), (1, .av ⟨(.i .i64), .r, v1⟩), (7, .av ⟨(.i .i64), .r, v7⟩), (8, .av ⟨(.i .u32), .r, v8⟩), (9, .av ⟨(.i .u32), .r, v9⟩)])
@[irreducible] noncomputable def p11_2056 (j : Nat) (n0 : Nat) (n1 : Nat) (v0 : List (UInt8)) (v1 : Int) (v6 : Int) (v7 : Int) (v8 : Int) (v9 : Int) (v29 : Bool) : Option (Int × Int × Unit) := piece G 11 [.r, .r, .r, .l, .b, .r, .f, .r, .f, .r] j [n0, n1] (skel 98 0 [(0, .av ⟨(.l .by), .b, v0⟩), (1, .av ⟨(.i .i64), .r, v1⟩), (6, .av ⟨(.i .u32), .r, v6⟩), (7, .av ⟨(.i .i64), .r, v7⟩), (8, .av ⟨(.i .u32), .r, v8⟩), (9, .av ⟨(.i .u32), .r, v9⟩), (29, .av ⟨.b, .r, v29⟩)])
@[irreducible] noncomputable def p11_2060 (j : Nat) (n0 : Nat) (n1 : Nat) (v0 : List (UInt8)) (v1 : Int) (v7 : Int) (v8 : Int) (v9 : Int) (v56 : Bool) : Option (Int × Int × Unit) := piece G 11 [.r, .r, .r, .r, .l, .r] j [n0, n1] (skel 98 0 [(0, .av ⟨(.l .by), .b, v0⟩), (1, .av ⟨(.i .i64), .r, v1⟩), (7, .av ⟨(.i .i64), .r, v7⟩), (8, .av ⟨(.i .u32), .r, v8⟩), (9, .av ⟨(.i .u32), .r, v9⟩), (56, .av ⟨.b, .r, v56⟩)])
@[irreducible] noncomputable def p11_2058 (j : Nat) (n0 : Nat) (n1 : Nat) (n2 : Nat) (v0 : List (UInt8)) (v1 : Int) (v6 : Int) (v7 : Int) (v8 : Int) (v9 : Int) (v38 : Bool) : Option (Int × Int × Unit) := piece G 11 [.r, .r, .r, .l, .b, .r, .f, .r, .f, .r, .f, .r] j [n0, n1, n2] (skel 98 0 [(0, .av ⟨(.l .by), .b, v0⟩), (1, .av ⟨(.i .i64), .r, v1⟩), (6, .av ⟨(.i .u32), .r, v6⟩), (7, .av ⟨(.i .i64), .r, v7⟩), (8, .av ⟨(.i .u32), .r, v8⟩), (9, .av ⟨(.i .u32), .r, v9⟩), (38, .av ⟨.b, .r, v38⟩)])
@[irreducible] noncomputable def p11_13 (j : Nat) (n0 : Nat) (n1 : Nat) (v0 : List (UInt8)) (v1 : Int) (v7 : Int) (v8 : Int) (v9 : Int) : Option (Int × Int × Unit) := piece G 11 [.r, .r, .r, .r, .r] j [n0, n1] (skel 98 0 [(0, .av ⟨(.l .by), .b, v0⟩), (1, .av ⟨(.i .i64), .r, v1⟩), (7, .av ⟨(.i .i64), .r, v7⟩), (8, .av ⟨(.i .u32), .r, v8⟩), (9, .av ⟨(.i .u32), .r, v9⟩)])
@[irreducible] noncomputable def p11_14 (j : Nat) (n0 : Nat) (n1 : Nat) (n2 : Nat) (v0 : List (UInt8)) (v1 : Int) (v7 : Int) (v8 : Int) (v9 : Int) (v10 : Int) : Option (Int × Int × Unit) := piece G 11 [.r, .r, .r, .r, .r, .l, .r, .b] j [n0, n1, n2] (skel 98 0 [(0, .av ⟨(.l .by), .b, v0⟩), (1, .av ⟨(.i .i64), .r, v1⟩), (7, .av ⟨(.i .i64), .r, v7⟩), (8, .av ⟨(.i .u32), .r, v8⟩), (9, .av ⟨(.i .u32), .r, v9⟩), (10, .av ⟨(.i .i64), .r, v10⟩)])
@[irreducible] noncomputable def p11_2068 (j : Nat) (n0 : Nat) (n1 : Nat) (n2 : Nat) (v7 : Int) (v8 : Int) (v95 : Bool) : Option (Int × Int × Unit) := piece G 11 [.r, .r, .r, .r, .r, .r, .l, .r] j [n0, n1, n2] (skel 98 0 [(7, .av ⟨(.i .i64), .r, v7⟩), (8, .av ⟨(.i .u32), .r, v8⟩), (95, .av ⟨.b, .r, v95⟩)])
@[irreducible] noncomputable def p11_21 (j : Nat) (n0 : Nat) (n1 : Nat) (n2 : Nat) (v7 : Int) (v8 : Int) : Option (Int × Int × Unit) := piece G 11 [.r, .r, .r, .r, .r, .r, .r] j [n0, n1, n2] (skel 98 0 [(7, .av ⟨(.i .i64), .r, v7⟩), (8, .av ⟨(.i .u32), .r, v8⟩)])
/-- moraine/names.Split -/
@[irreducible] noncomputable def f4 (n : Nat) (a0 : List UInt8) : Option (List (List UInt8) × Int × Int × Unit) := F G n 4 (a0, ())
@[irreducible] noncomputable def p4_4 (j : Nat) (n0 : Nat) (v0 : List UInt8) (v2 : List (List UInt8)) (v5 : Int) (v6 : Int) (v15 : Int) (v16 : Int) : Option (List (List UInt8) × Int × Int × Unit) := piece G 4 [.r, .r, .r, .l, .r, .b] j [n0] (skel 100 0 [(0, .av ⟨.s, .r, v0⟩), (2, .av ⟨(.l .s), (.o .r), v2⟩), (5, .av ⟨(.i .i64), .r, v5⟩), (6, .av ⟨(.i .i64), .r, v6⟩), (15, .av ⟨(.i .i64), .r, v15⟩), (16, .av ⟨(.i .i64), .r, v16⟩)])
@[irreducible] noncomputable def p4_2055 (j : Nat) (n0 : Nat) (n1 : Nat) (v0 : List UInt8) (v2 : List (List UInt8)) (v5 : Int) (v6 : Int) (v7 : Int) (v15 : Int) (v16 : Int) (v28 : Bool) : Option (List (List UInt8) × Int × Int × Unit) := piece G 4 [.r, .r, .r, .l, .r, .b, .o, .r, .r, .l, .b, .r, .r] j [n0, n1] (skel 100 0 [(0, .av ⟨.s, .r, v0⟩), (2, .av ⟨(.l .s), (.o .r), v2⟩), (5, .av ⟨(.i .i64), .r, v5⟩), (6, .av ⟨(.i .i64), .r, v6⟩), (7, .av ⟨(.i .i64), .r, v7⟩), (15, .av ⟨(.i .i64), .r, v15⟩), (16, .av ⟨(.i .i64), .r, v16⟩), (28, .av ⟨.b, .r, v28⟩)])
@[irreducible] noncomputable def p4_9 (j : Nat) (n0 : Nat) (v0 : List UInt8) (v2 : List (List UInt8)) (v5 : Int) (v6 : Int) : Option (List (List UInt8) × Int × Int × Unit) := piece G 4 [.r, .r, .r, .r] j [n0] (skel 100 0 [(0, .av ⟨.s, .r, v0⟩), (2, .av ⟨(.l .s), (.o .r), v2⟩), (5, .av ⟨(.i .i64), .r, v5⟩), (6, .av ⟨(.i .i64), .r, v6⟩)])
@[irreducible] noncomputable def p4_8 (j : Nat) (n0 : Nat) (n1 : Nat) (v0 : List UInt8) (v2 : List (List UInt8)) (v5 : Int) (v6 : Int) (v15 : Int) (v16 : Int) : Option (List (List UInt8) × Int × Int × Unit) := piece G 4 [.r, .r, .r, .l, .r, .b, .o, .r, .r, .r] j [n0, n1] (skel 100 0 [(0, .av ⟨.s, .r, v0⟩), (2, .av ⟨(.l .s), (.o .r), v2⟩), (5, .av ⟨(.i .i64), .r, v5⟩), (6, .av ⟨(.i .i64), .r, v6⟩), (15, .av ⟨(.i .i64), .r, v15⟩), (16, .av ⟨(.i .i64), .r, v16⟩)])
@[irreducible] noncomputable def p4_10 (j : Nat) (n0 : Nat) (n1 : Nat) (v0 : List UInt8) (v2 : List (List UInt8)) (v5 : Int) (v6 : Int) (v8 : Int) : Option (List (List UInt8) × Int × Int × Unit) := piece G 4 [.r, .r, .r, .r, .l, .r, .b] j [n0, n1] (skel 100 0 [(0, .av ⟨.s, .r, v0⟩), (2, .av ⟨(.l .s), (.o .r), v2⟩), (5, .av ⟨(.i .i64), .r, v5⟩), (6, .av ⟨(.i .i64), .r, v6⟩), (8, .av ⟨(.i .i64), .r, v8⟩)])
@[irreducible] noncomputable def p4_25 (j : Nat) (n0 : Nat) (n1 : Nat) (v0 : List UInt8) (v2 : List (List UInt8)) (v5 : Int) (v6 : Int) : Option (List (List UInt8) × Int × Int × Unit) := piece G 4 [.r, .r, .r, .r, .r] j [n0, n1] (skel 100 0 [(0, .av ⟨.s, .r, v0⟩), (2, .av ⟨(.l .s), (.o .r), v2⟩), (5, .av ⟨(.i .i64), .r, v5⟩), (6, .av ⟨(.i .i64), .r, v6⟩)])
@[irreducible] noncomputable def p4_2067 (j : Nat) (n0 : Nat) (n1 : Nat) (n2 : Nat) (v0 : List UInt8) (v2 : List (List UInt8)) (v5 : Int) (v6 : Int) (v8 : Int) (v10 : Int) (v64 : Bool) : Option (List (List UInt8) × Int × Int × Unit) := piece G 4 [.r, .r, .r, .r, .l, .r, .b, .o, .r, .b, .r, .r, .l, .r, .t, .r, .r, .l, .r] j [n0, n1, n2] (skel 100 0 [(0, .av ⟨.s, .r, v0⟩), (2, .av ⟨(.l .s), (.o .r), v2⟩), (5, .av ⟨(.i .i64), .r, v5⟩), (6, .av ⟨(.i .i64), .r, v6⟩), (8, .av ⟨(.i .i64), .r, v8⟩), (10, .av ⟨(.i .i64), .r, v10⟩), (64, .av ⟨.b, .r, v64⟩)])
@[irreducible] noncomputable def p4_21 (j : Nat) (n0 : Nat) (n1 : Nat) (n2 : Nat) (v0 : List UInt8) (v2 : List (List UInt8)) (v5 : Int) (v6 : Int) (v8 : Int) (v9 : Int) : Option (List (List UInt8) × Int × Int × Unit) := piece G 4 [.r, .r, .r, .r, .l, .r, .b, .o, .r, .b, .r, .r, .l, .r, .f, .b] j [n0, n1, n2] (skel 100 0 [(0, .av ⟨.s, .r, v0⟩), (2, .av ⟨(.l .s), (.o .r), v2⟩), (5, .av ⟨(.i .i64), .r, v5⟩), (6, .av ⟨(.i .i64), .r, v6⟩), (8, .av ⟨(.i .i64), .r, v8⟩), (9, .av ⟨(.i .i64), .r, v9⟩)])
@[irreducible] noncomputable def p4_20 (j : Nat) (n0 : Nat) (n1 : Nat) (n2 : Nat) (v0 : List UInt8) (v2 : List (List UInt8)) (v5 : Int) (v6 : Int) (v8 : Int) (v10 : Int) : Option (List (List UInt8) × Int × Int × Unit) := piece G 4 [.r, .r, .r, .r, .l, .r, .b, .o, .r, .b, .r, .r, .l, .r, .t, .r, .r, .r] j [n0, n1, n2] (skel 100 0 [(0, .av ⟨.s, .r, v0⟩), (2, .av ⟨(.l .s), (.o .r), v2⟩), (5, .av ⟨(.i .i64), .r, v5⟩), (6, .av ⟨(.i .i64), .r, v6⟩), (8, .av ⟨(.i .i64), .r, v8⟩), (10, .av ⟨(.i .i64), .r, v10⟩)])
@[irreducible] noncomputable def p4_22 (j : Nat) (n0 : Nat) (n1 : Nat) (n2 : Nat) (n3 : Nat) (v0 : List UInt8) (v2 : List (List UInt8)) (v5 : Int) (v6 : Int) (v8 : Int) (v9 : Int) : Option (List (List UInt8) × Int × Int × Unit) := piece G 4 [.r, .r, .r, .r, .l, .r, .b, .o, .r, .b, .r, .r, .l, .r, .f, .b, .o, .r] j [n0, n1, n2, n3] (skel 100 0 [(0, .av ⟨.s, .r, v0⟩), (2, .av ⟨(.l .s), (.o .r), v2⟩), (5, .av ⟨(.i .i64), .r, v5⟩), (6, .av ⟨(.i .i64), .r, v6⟩), (8, .av ⟨(.i .i64), .r, v8⟩), (9, .av ⟨(.i .i64), .r, v9⟩)])
@[irreducible] noncomputable def p4_23 (j : Nat) (n0 : Nat) (n1 : Nat) (n2 : Nat) (v0 : List UInt8) (v2 : List (List UInt8)) (v5 : Int) (v6 : Int) (v8 : Int) (v9 : Int) : Option (List (List UInt8) × Int × Int × Unit) := piece G 4 [.r, .r, .r, .r, .l, .r, .b, .o, .r, .b, .r, .r, .r] j [n0, n1, n2] (skel 100 0 [(0, .av ⟨.s, .r, v0⟩), (2, .av ⟨(.l .s), (.o .r), v2⟩), (5, .av ⟨(.i .i64), .r, v5⟩), (6, .av ⟨(.i .i64), .r, v6⟩), (8, .av ⟨(.i .i64), .r, v8⟩), (9, .av ⟨(.i .i64), .r, v9⟩)])
/-- moraine/moraineref06.Split -/
@[irreducible] noncomputable def f5 (n : Nat) (a0 : List UInt8) : Option (List (List UInt8) × Int × Int × Unit) := F G n 5 (a0, ())
@[irreducible] noncomputable def p5_6 (j : Nat) (n0 : Nat) (v0 : List UInt8) (v5 : List (List UInt8)) (v6 : Int) (v7 : Bool) (v8 : Bool) (v9 : Int) : Option (List (List UInt8) × Int × Int × Unit) := piece G 5 [.r, .r, .r, .r, .r, .l, .r, .b] j [n0] (skel 99 0 [(0, .av ⟨.s, .r, v0⟩), (5, .av ⟨(.l .s), (.o .r), v5⟩), (6, .av ⟨(.i .i64), .r, v6⟩), (7, .av ⟨.b, .r, v7⟩), (8, .av ⟨.b, .r, v8⟩), (9, .av ⟨(.i .i64), .r, v9⟩)])
@[irreducible] noncomputable def p5_2058 (j : Nat) (n0 : Nat) (n1 : Nat) (v0 : List UInt8) (v5 : List (List UInt8)) (v6 : Int) (v7 : Bool) (v8 : Bool) (v9 : Int) (v10 : UInt8) (v20 : Bool) : Option (List (List UInt8) × Int × Int × Unit) := piece G 5 [.r, .r, .r, .r, .r, .l, .r, .b, .o, .r, .l, .b, .r, .b, .r] j [n0, n1] (skel 99 0 [(0, .av ⟨.s, .r, v0⟩), (5, .av ⟨(.l .s), (.o .r), v5⟩), (6, .av ⟨(.i .i64), .r, v6⟩), (7, .av ⟨.b, .r, v7⟩), (8, .av ⟨.b, .r, v8⟩), (9, .av ⟨(.i .i64), .r, v9⟩), (10, .av ⟨.by, .r, v10⟩), (20, .av ⟨.b, .r, v20⟩)])
@[irreducible] noncomputable def p5_30 (j : Nat) (n0 : Nat) (v5 : List (List UInt8)) : Option (List (List UInt8) × Int × Int × Unit) := piece G 5 [.r, .r, .r, .r, .r, .r, .r, .r] j [n0] (skel 99 0 [(5, .av ⟨(.l .s), (.o .r), v5⟩)])
@[irreducible] noncomputable def p5_2060 (j : Nat) (n0 : Nat) (n1 : Nat) (n2 : Nat) (v0 : List UInt8) (v5 : List (List UInt8)) (v6 : Int) (v7 : Bool) (v8 : Bool) (v9 : Int) (v10 : UInt8) (v35 : Bool) : Option (List (List UInt8) × Int × Int × Unit) := piece G 5 [.r, .r, .r, .r, .r, .l, .r, .b, .o, .r, .l, .b, .r, .b, .r, .f, .r] j [n0, n1, n2] (skel 99 0 [(0, .av ⟨.s, .r, v0⟩), (5, .av ⟨(.l .s), (.o .r), v5⟩), (6, .av ⟨(.i .i64), .r, v6⟩), (7, .av ⟨.b, .r, v7⟩), (8, .av ⟨.b, .r, v8⟩), (9, .av ⟨(.i .i64), .r, v9⟩), (10, .av ⟨.by, .r, v10⟩), (35, .av ⟨.b, .r, v35⟩)])
@[irreducible] noncomputable def p5_14 (j : Nat) (n0 : Nat) (n1 : Nat) (n2 : Nat) (n3 : Nat) (v0 : List UInt8) (v5 : List (List UInt8)) (v7 : Bool) (v9 : Int) : Option (List (List UInt8) × Int × Int × Unit) := piece G 5 [.r, .r, .r, .r, .r, .l, .r, .b, .o, .r, .l, .b, .r, .b, .r, .f, .r, .t, .r] j [n0, n1, n2, n3] (skel 99 0 [(0, .av ⟨.s, .r, v0⟩), (5, .av ⟨(.l .s), (.o .r), v5⟩), (7, .av ⟨.b, .r, v7⟩), (9, .av ⟨(.i .i64), .r, v9⟩)])
@[irreducible] noncomputable def p5_7 (j : Nat) (n0 : Nat) (n1 : Nat) (v0 : List UInt8) (v5 : List (List UInt8)) (v6 : Int) (v7 : Bool) (v8 : Bool) (v9 : Int) : Option (List (List UInt8) × Int × Int × Unit) := piece G 5 [.r, .r, .r, .r, .r, .l, .r, .b, .o, .r, .r] j [n0, n1] (skel 99 0 [(0, .av ⟨.s, .r, v0⟩), (5, .av ⟨(.l .s), (.o .r), v5⟩), (6, .av ⟨(.i .i64), .r, v6⟩), (7, .av ⟨.b, .r, v7⟩), (8, .av ⟨.b, .r, v8⟩), (9, .av ⟨(.i .i64), .r, v9⟩)])
@[irreducible] noncomputable def p5_2068 (j : Nat) (n0 : Nat) (n1 : Nat) (n2 : Nat) (n3 : Nat) (v0 : List UInt8) (v5 : List (List UInt8)) (v6 : Int) (v7 : Bool) (v8 : Bool) (v9 : Int) (v10 : UInt8) (v57 : Bool) : Option (List (List UInt8) × Int × Int × Unit) := piece G 5 [.r, .r, .r, .r, .r, .l, .r, .b, .o, .r, .l, .b, .r, .b, .r, .f, .r, .f, .r, .f, .r] j [n0, n1, n2, n3] (skel 99 0 [(0, .av ⟨.s, .r, v0⟩), (5, .av ⟨(.l .s), (.o .r), v5⟩), (6, .av ⟨(.i .i64), .r, v6⟩), (7, .av ⟨.b, .r, v7⟩), (8, .av ⟨.b, .r, v8⟩), (9, .av ⟨(.i .i64), .r, v9⟩), (10, .av ⟨.by, .r, v10⟩), (57, .av ⟨.b, .r, v57⟩)])
@[irreducible] noncomputable def p5_2070 (j : Nat) (n0 : Nat) (n1 : Nat) (n2 : Nat) (n3 : Nat) (n4 : Nat) (v0 : List UInt8) (v5 : List (List UInt8)) (v6 : Int) (v7 : Bool) (v8 : Bool) (v9 : Int) (v80 : Bool) : Option (List (List UInt8) × Int × Int × Unit) := piece G 5 [.r, .r, .r, .r, .r, .l, .r, .b, .o, .r, .l, .b, .r, .b, .r, .f, .r, .f, .r, .f, .r, .t, .r, .r] j [n0, n1, n2, n3, n4] (skel 99 0 [(0, .av ⟨.s, .r, v0⟩), (5, .av ⟨(.l .s), (.o .r), v5⟩), (6, .av ⟨(.i .i64), .r, v6⟩), (7, .av ⟨.b, .r, v7⟩), (8, .av ⟨.b, .r, v8⟩), (9, .av ⟨(.i .i64), .r, v9⟩), (80, .av ⟨.b, .r, v80⟩)])
@[irreducible] noncomputable def p5_2072 (j : Nat) (n0 : Nat) (n1 : Nat) (n2 : Nat) (n3 : Nat) (n4 : Nat) (v0 : List UInt8) (v5 : List (List UInt8)) (v6 : Int) (v7 : Bool) (v8 : Bool) (v9 : Int) (v82 : Bool) : Option (List (List UInt8) × Int × Int × Unit) := piece G 5 [.r, .r, .r, .r, .r, .l, .r, .b, .o, .r, .l, .b, .r, .b, .r, .f, .r, .f, .r, .f, .r, .f, .r] j [n0, n1, n2, n3, n4] (skel 99 0 [(0, .av ⟨.s, .r, v0⟩), (5, .av ⟨(.l .s), (.o .r), v5⟩), (6, .av ⟨(.i .i64), .r, v6⟩), (7, .av ⟨.b, .r, v7⟩), (8, .av ⟨.b, .r, v8⟩), (9, .av ⟨(.i .i64), .r, v9⟩), (82, .av ⟨.b, .r, v82⟩)])
/-- moraine/morainelaw06.NamesSplits -/
@[irreducible] noncomputable def f3 (n : Nat) (a0 : List UInt8) : Option (Bool × Unit) := F G n 3 (a0, ())
@[irreducible] noncomputable def p3_2054 (j : Nat) (n0 : Nat) (v3 : List (List UInt8)) (v6 : List (List UInt8)) (v9 : List (List UInt8)) (v73 : Bool) : Option (Bool × Unit) := piece G 3 [.r, .r, .r, .r, .r, .l, .r] j [n0] (skel 86 0 [(3, .av ⟨(.l .s), (.o .r), v3⟩), (6, .av ⟨(.l .s), (.o .r), v6⟩), (9, .av ⟨(.l .s), (.o .r), v9⟩), (73, .av ⟨.b, .r, v73⟩)])
@[irreducible] noncomputable def p3_7 (j : Nat) (n0 : Nat) (v3 : List (List UInt8)) (v6 : List (List UInt8)) (v9 : List (List UInt8)) : Option (Bool × Unit) := piece G 3 [.r, .r, .r, .r, .r, .r] j [n0] (skel 86 0 [(3, .av ⟨(.l .s), (.o .r), v3⟩), (6, .av ⟨(.l .s), (.o .r), v6⟩), (9, .av ⟨(.l .s), (.o .r), v9⟩)])
@[irreducible] noncomputable def p3_8 (j : Nat) (n0 : Nat) (n1 : Nat) (v3 : List (List UInt8)) (v6 : List (List UInt8)) (v9 : List (List UInt8)) (v15 : Int) : Option (Bool × Unit) := piece G 3 [.r, .r, .r, .r, .r, .r, .l, .r, .b] j [n0, n1] (skel 86 0 [(3, .av ⟨(.l .s), (.o .r), v3⟩), (6, .av ⟨(.l .s), (.o .r), v6⟩), (9, .av ⟨(.l .s), (.o .r), v9⟩), (15, .av ⟨(.i .i64), .r, v15⟩)])
theorem f7_eq (n : Nat) (a0 : List UInt8) : f7 (n + 1) a0 =
  (p7_3 (n) (n) ((0 : Int)) (a0) ((0 : Nat))) := by kernel_rfl
theorem p7_3_eq (j : Nat) (n0 : Nat) (v3 : Int) (v5 : List UInt8) (p5 : Nat) : p7_3 (j + 1) n0 v3 v5 p5 =
  (sel (Decidable.decide (p5 < v5.length))
   (p7_3 (j) (n0) (Go.IntKind.i64.wrap (v3 + (1 : Int))) (v5) (p5 + (Go.Utf8.decode { data := v5.toArray } p5).snd))
   (some (v3, ()))) := by kernel_rfl
theorem f8_eq (n : Nat) (a0 : List UInt8) : f8 (n + 1) a0 =
  (p8_3 (n) (n) (a0) ((0 : Int)) ((0 : Int))) := by kernel_rfl
theorem p8_3_eq (j : Nat) (n0 : Nat) (v0 : List UInt8) (v3 : Int) (v4 : Int) : p8_3 (j + 1) n0 v0 v3 v4 =
  (sel (Decidable.decide (v4 < (↑v0.length : Int)))
   (sel (Decidable.decide ((0 : Int) ≤ Lk.imin (Go.IntKind.i64.wrap (v4 + (4 : Int))) (↑v0.length : Int)))
    (sel (Decidable.decide (Lk.imin (Go.IntKind.i64.wrap (v4 + (4 : Int))) (↑v0.length : Int) ≤ (↑v0.length : Int)))
     (sel (Decidable.decide ((0 : Int) ≤ v4))
      (sel (Decidable.decide (v4 ≤ Lk.imin (Go.IntKind.i64.wrap (v4 + (4 : Int))) (↑v0.length : Int)))
       (obind (f11 j (Lk.ext v0 v4 (Lk.imin (Go.IntKind.i64.wrap (v4 + (4 : Int))) (↑v0.length : Int))) ((0 : Int))) fun r173 =>
        (p8_3 (j) (n0) (v0) (Go.IntKind.i64.wrap (v3 + (1 : Int))) (Go.IntKind.i64.wrap (v4 + Lk.imax r173.snd.fst (1 : Int)))))
       none)
      none)
     none)
    none)
   (some (v3, ()))) := by kernel_rfl
theorem f9_eq (n : Nat)  : f9 (n + 1)  =
  (some (Bool.true, ())) := by kernel_rfl
theorem f10_eq (n : Nat) (a0 : List UInt8) (a1 : Int) : f10 (n + 1) a0 a1 =
  (p10_2 (n) (n) (a0) (Go.IntKind.i64.wrap (a1 + (1 : Int)))) := by kernel_rfl
theorem p10_2_eq (j : Nat) (n0 : Nat) (v0 : List UInt8) (v6 : Int) : p10_2 (j + 1) n0 v0 v6 =
  (sel (Decidable.decide (v6 < (↑v0.length : Int)))
   (sel (Decidable.decide ((0 : Int) ≤ v6))
    (sel (Decidable.decide (v6 < (↑v0.length : Int)))
     (sel ((↑(v0.getD v6.toNat (0 : UInt8)).toNat : Int) == (↑(UInt8.toNat (92 : UInt8)) : Int))
      (p10_3 (j) (n0) (j) (v0) (Go.IntKind.i64.wrap (v6 + (1 : Int))))
      (sel ((↑(v0.getD v6.toNat (0 : UInt8)).toNat : Int) == (↑(UInt8.toNat (34 : UInt8)) : Int))
       (some (Go.IntKind.i64.wrap (v6 + (1 : Int)), Bool.true, ()))
       (p10_3 (j) (n0) (j) (v0) (v6))))
     none)
    none)
   (some ((0 : Int), Bool.false, ()))) := by kernel_rfl
theorem p10_3_eq (j : Nat) (n0 : Nat) (n1 : Nat) (v0 : List UInt8) (v6 : Int) : p10_3 (j + 1) n0 n1 v0 v6 =
  (p10_2 (n1) (n0) (v0) (Go.IntKind.i64.wrap (v6 + (1 : Int)))) := by kernel_rfl
theorem f6_eq (n : Nat) (a0 : List (List UInt8)) (a1 : List (List UInt8)) : f6 (n + 1) a0 a1 =
  (sel ((↑a0.length : Int) != (↑a1.length : Int))
   (some (Bool.false, ()))
   (p6_4 (n) (n) (a0) (a1) ((0 : Int)))) := by kernel_rfl
theorem p6_4_eq (j : Nat) (n0 : Nat) (v0 : List (List UInt8)) (v1 : List (List UInt8)) (v5 : Int) : p6_4 (j + 1) n0 v0 v1 v5 =
  (sel (Decidable.decide (v5 < (↑v0.length : Int)))
   (sel (Decidable.decide ((0 : Int) ≤ v5))
    (sel (Decidable.decide (v5 < (↑v0.length : Int)))
     (sel (Decidable.decide ((0 : Int) ≤ v5))
      (sel (Decidable.decide (v5 < (↑v1.length : Int)))
       (sel (!v0.getD v5.toNat [] == v1.getD v5.toNat [])
        (some (Bool.false, ()))
        (p6_4 (j) (n0) (v0) (v1) (Go.IntKind.i64.wrap (v5 + (1 : Int)))))
       none)
      none)
     none)
    none)
   (some (Bool.true, ()))) := by kernel_rfl
theorem f11_eq (n : Nat) (a0 : List (UInt8)) (a1 : Int) : f11 (n + 1) a0 a1 =
  (sel (Decidable.decide ((0 : Int) ≤ a1))
   (sel (Decidable.decide (a1 < (↑a0.length : Int)))
    (sel (Decidable.decide (Go.IntKind.u32.wrap (↑(UInt8.toNat (a0.getD a1.toNat (0 : UInt8))) : Int) < (128 : Int)))
     (some (Go.IntKind.u32.wrap (↑(UInt8.toNat (a0.getD a1.toNat (0 : UInt8))) : Int), (1 : Int), ()))
     (sel (Decidable.decide (Go.IntKind.u32.wrap (↑(UInt8.toNat (a0.getD a1.toNat (0 : UInt8))) : Int) ≥ (192 : Int)))
      (p11_2054 (n) (n) (a0) (a1) (Go.IntKind.u32.wrap (↑(UInt8.toNat (a0.getD a1.toNat (0 : UInt8))) : Int)) ((0 : Int)) ((0 : Int)) ((0 : Int)) (Decidable.decide (Go.IntKind.u32.wrap (↑(UInt8.toNat (a0.getD a1.toNat (0 : UInt8))) : Int) < (224 : Int))))
      (p11_2054 (n) (n) (a0) (a1) (Go.IntKind.u32.wrap (↑(UInt8.toNat (a0.getD a1.toNat (0 : UInt8))) : Int)) ((0 : Int)) ((0 : Int)) ((0 : Int)) (Bool.false))))
    none)
   none) := by kernel_rfl
theorem p11_2054_eq (j : Nat) (n0 : Nat) (v0 : List (UInt8)) (v1 : Int) (v6 : Int) (v7 : Int) (v8 : Int) (v9 : Int) (v20 : Bool) : p11_2054 (j + 1) n0 v0 v1 v6 v7 v8 v9 v20 =
  (sel (v20)
   (p11_11 (n0) (n0) (v0) (v1) ((2 : Int)) (Lk.ibits Go.BinOp.and Go.IntKind.u32 v6 (31 : Int)) ((128 : Int)))
   (sel (Decidable.decide (v6 ≥ (224 : Int)))
    (p11_2056 (j) (n0) (j) (v0) (v1) (v6) (v7) (v8) (v9) (Decidable.decide (v6 < (240 : Int))))
    (p11_2056 (j) (n0) (j) (v0) (v1) (v6) (v7) (v8) (v9) (Bool.false)))) := by kernel_rfl
theorem p11_11_eq (j : Nat) (n0 : Nat) (v0 : List (UInt8)) (v1 : Int) (v7 : Int) (v8 : Int) (v9 : Int) : p11_11 (j + 1) n0 v0 v1 v7 v8 v9 =
  (sel (v7 == (0 : Int))
   (p11_2060 (j) (n0) (j) (v0) (v1) (v7) (v8) (v9) (Bool.true))
   (p11_2060 (j) (n0) (j) (v0) (v1) (v7) (v8) (v9) (Decidable.decide (Go.IntKind.i64.wrap ((↑v0.length : Int) - v1) < v7)))) := by kernel_rfl
theorem p11_2056_eq (j : Nat) (n0 : Nat) (n1 : Nat) (v0 : List (UInt8)) (v1 : Int) (v6 : Int) (v7 : Int) (v8 : Int) (v9 : Int) (v29 : Bool) : p11_2056 (j + 1) n0 n1 v0 v1 v6 v7 v8 v9 v29 =
  (sel (v29)
   (p11_11 (n0) (n0) (v0) (v1) ((3 : Int)) (Lk.ibits Go.BinOp.and Go.IntKind.u32 v6 (15 : Int)) ((2048 : Int)))
   (sel (Decidable.decide (v6 ≥ (240 : Int)))
    (p11_2058 (j) (n0) (n1) (j) (v0) (v1) (v6) (v7) (v8) (v9) (Decidable.decide (v6 < (248 : Int))))
    (p11_2058 (j) (n0) (n1) (j) (v0) (v1) (v6) (v7) (v8) (v9) (Bool.false)))) := by kernel_rfl
theorem p11_2060_eq (j : Nat) (n0 : Nat) (n1 : Nat) (v0 : List (UInt8)) (v1 : Int) (v7 : Int) (v8 : Int) (v9 : Int) (v56 : Bool) : p11_2060 (j + 1) n0 n1 v0 v1 v7 v8 v9 v56 =
  (sel (v56)
   (some ((0 : Int), (0 : Int), ()))
   (p11_13 (n1) (n0) (n1) (v0) (v1) (v7) (v8) (v9))) := by kernel_rfl
theorem p11_2058_eq (j : Nat) (n0 : Nat) (n1 : Nat) (n2 : Nat) (v0 : List (UInt8)) (v1 : Int) (v6 : Int) (v7 : Int) (v8 : Int) (v9 : Int) (v38 : Bool) : p11_2058 (j + 1) n0 n1 n2 v0 v1 v6 v7 v8 v9 v38 =
  (sel (v38)
   (p11_11 (n0) (n0) (v0) (v1) ((4 : Int)) (Lk.ibits Go.BinOp.and Go.IntKind.u32 v6 (7 : Int)) ((65536 : Int)))
   (p11_11 (n0) (n0) (v0) (v1) (v7) (v8) (v9))) := by kernel_rfl
theorem p11_13_eq (j : Nat) (n0 : Nat) (n1 : Nat) (v0 : List (UInt8)) (v1 : Int) (v7 : Int) (v8 : Int) (v9 : Int) : p11_13 (j + 1) n0 n1 v0 v1 v7 v8 v9 =
  (p11_14 (j) (n0) (n1) (j) (v0) (v1) (v7) (v8) (v9) ((1 : Int))) := by kernel_rfl
theorem p11_14_eq (j : Nat) (n0 : Nat) (n1 : Nat) (n2 : Nat) (v0 : List (UInt8)) (v1 : Int) (v7 : Int) (v8 : Int) (v9 : Int) (v10 : Int) : p11_14 (j + 1) n0 n1 n2 v0 v1 v7 v8 v9 v10 =
  (sel (Decidable.decide (v10 < v7))
   (sel (Decidable.decide ((0 : Int) ≤ Go.IntKind.i64.wrap (v1 + v10)))
    (sel (Decidable.decide (Go.IntKind.i64.wrap (v1 + v10) < (↑v0.length : Int)))
     (sel ((↑(UInt8.ofNat (Lk.ibits Go.BinOp.and Go.IntKind.u8 (↑(UInt8.toNat (v0.getD (Go.IntKind.i64.wrap (v1 + v10)).toNat (0 : UInt8))) : Int) (↑(UInt8.toNat (192 : UInt8)) : Int)).toNat).toNat : Int) != (↑(UInt8.toNat (128 : UInt8)) : Int))
      (some ((0 : Int), (0 : Int), ()))
      (sel (Decidable.decide ((0 : Int) ≤ (6 : Int)))
       (sel (Decidable.decide ((0 : Int) ≤ Go.IntKind.i64.wrap (v1 + v10)))
        (sel (Decidable.decide (Go.IntKind.i64.wrap (v1 + v10) < (↑v0.length : Int)))
         (p11_14 (j) (n0) (n1) (n2) (v0) (v1) (v7) (Lk.ibits Go.BinOp.or Go.IntKind.u32 (Go.IntKind.u32.wrap (v8 * (2 : Int) ^ Min.min (Int.toNat (6 : Int)) Go.IntKind.u32.bits)) (Go.IntKind.u32.wrap (↑(UInt8.ofNat (Lk.ibits Go.BinOp.and Go.IntKind.u8 (↑(UInt8.toNat (v0.getD (Go.IntKind.i64.wrap (v1 + v10)).toNat (0 : UInt8))) : Int) (↑(UInt8.toNat (63 : UInt8)) : Int)).toNat).toNat : Int))) (v9) (Go.IntKind.i64.wrap (v10 + (1 : Int))))
         none)
        none)
       none))
     none)
    none)
   (sel (Decidable.decide (v8 < v9))
    (p11_2068 (n2) (n0) (n1) (n2) (v7) (v8) (Bool.true))
    (sel (Decidable.decide (v8 > (1114111 : Int)))
     (p11_2068 (n2) (n0) (n1) (n2) (v7) (v8) (Bool.true))
     (sel (Decidable.decide (v8 ≥ (55296 : Int)))
      (p11_2068 (n2) (n0) (n1) (n2) (v7) (v8) (Decidable.decide (v8 ≤ (57343 : Int))))
      (p11_2068 (n2) (n0) (n1) (n2) (v7) (v8) (Bool.false)))))) := by kernel_rfl
theorem p11_2068_eq (j : Nat) (n0 : Nat) (n1 : Nat) (n2 : Nat) (v7 : Int) (v8 : Int) (v95 : Bool) : p11_2068 (j + 1) n0 n1 n2 v7 v8 v95 =
  (sel (v95)
   (some ((0 : Int), (0 : Int), ()))
   (p11_21 (n2) (n0) (n1) (n2) (v7) (v8))) := by kernel_rfl
theorem p11_21_eq (j : Nat) (n0 : Nat) (n1 : Nat) (n2 : Nat) (v7 : Int) (v8 : Int) : p11_21 (j + 1) n0 n1 n2 v7 v8 =
  (some (v8, v7, ())) := by kernel_rfl
theorem f4_eq (n : Nat) (a0 : List UInt8) : f4 (n + 1) a0 =
  (p4_4 (n) (n) (a0) ([]) ((-1 : Int)) ((↑a0.length : Int)) ((↑a0.length : Int)) ((0 : Int))) := by kernel_rfl
theorem p4_4_eq (j : Nat) (n0 : Nat) (v0 : List UInt8) (v2 : List (List UInt8)) (v5 : Int) (v6 : Int) (v15 : Int) (v16 : Int) : p4_4 (j + 1) n0 v0 v2 v5 v6 v15 v16 =
  (sel (Decidable.decide (v16 < v15))
   (sel (Decidable.decide ((0 : Int) ≤ v16))
    (sel (Decidable.decide (v16 < (↑v0.length : Int)))
     (sel (Decidable.decide ((↑(v0.getD v16.toNat (0 : UInt8)).toNat : Int) < (↑(UInt8.toNat (32 : UInt8)) : Int)))
      (p4_2055 (j) (n0) (j) (v0) (v2) (v5) (v6) (v16) (v15) (v16) (Bool.true))
      (sel (Decidable.decide ((0 : Int) ≤ v16))
       (sel (Decidable.decide (v16 < (↑v0.length : Int)))
        (p4_2055 (j) (n0) (j) (v0) (v2) (v5) (v6) (v16) (v15) (v16) ((↑(v0.getD v16.toNat (0 : UInt8)).toNat : Int) == (↑(UInt8.toNat (127 : UInt8)) : Int)))
        none)
       none))
     none)
    none)
   (p4_9 (n0) (n0) (v0) (v2) (v5) (v6))) := by kernel_rfl
theorem p4_2055_eq (j : Nat) (n0 : Nat) (n1 : Nat) (v0 : List UInt8) (v2 : List (List UInt8)) (v5 : Int) (v6 : Int) (v7 : Int) (v15 : Int) (v16 : Int) (v28 : Bool) : p4_2055 (j + 1) n0 n1 v0 v2 v5 v6 v7 v15 v16 v28 =
  (sel (v28)
   (p4_9 (n0) (n0) (v0) (v2) (v5) (v7))
   (p4_8 (n1) (n0) (n1) (v0) (v2) (v5) (v6) (v15) (v16))) := by kernel_rfl
theorem p4_9_eq (j : Nat) (n0 : Nat) (v0 : List UInt8) (v2 : List (List UInt8)) (v5 : Int) (v6 : Int) : p4_9 (j + 1) n0 v0 v2 v5 v6 =
  (p4_10 (j) (n0) (j) (v0) (v2) (v5) (v6) ((0 : Int))) := by kernel_rfl
theorem p4_8_eq (j : Nat) (n0 : Nat) (n1 : Nat) (v0 : List UInt8) (v2 : List (List UInt8)) (v5 : Int) (v6 : Int) (v15 : Int) (v16 : Int) : p4_8 (j + 1) n0 n1 v0 v2 v5 v6 v15 v16 =
  (p4_4 (n1) (n0) (v0) (v2) (v5) (v6) (v15) (Go.IntKind.i64.wrap (v16 + (1 : Int)))) := by kernel_rfl
theorem p4_10_eq (j : Nat) (n0 : Nat) (n1 : Nat) (v0 : List UInt8) (v2 : List (List UInt8)) (v5 : Int) (v6 : Int) (v8 : Int) : p4_10 (j + 1) n0 n1 v0 v2 v5 v6 v8 =
  (sel (Decidable.decide (v8 < (↑v0.length : Int)))
   (sel (Decidable.decide ((0 : Int) ≤ v8))
    (sel (Decidable.decide (v8 < (↑v0.length : Int)))
     (sel ((↑(v0.getD v8.toNat (0 : UInt8)).toNat : Int) == (↑(UInt8.toNat (32 : UInt8)) : Int))
      (p4_10 (j) (n0) (n1) (v0) (v2) (v5) (v6) (Go.IntKind.i64.wrap (v8 + (1 : Int))))
      (sel (Decidable.decide ((0 : Int) ≤ v8))
       (sel (Decidable.decide (v8 < (↑v0.length : Int)))
        (sel ((↑(v0.getD v8.toNat (0 : UInt8)).toNat : Int) == (↑(UInt8.toNat (34 : UInt8)) : Int))
         (obind (f10 j (v0) (v8)) fun r621 =>
          (sel (!r621.snd.fst)
           (p4_25 (n1) (n0) (n1) (v0) (v2) (v8) (v6))
           (sel (Decidable.decide (r621.fst < (↑v0.length : Int)))
            (sel (Decidable.decide ((0 : Int) ≤ r621.fst))
             (sel (Decidable.decide (r621.fst < (↑v0.length : Int)))
              (p4_2067 (j) (n0) (n1) (j) (v0) (v2) (v5) (v6) (v8) (r621.fst) ((↑(v0.getD (Int.toNat r621.fst) (0 : UInt8)).toNat : Int) != (↑(UInt8.toNat (32 : UInt8)) : Int)))
              none)
             none)
            (p4_2067 (j) (n0) (n1) (j) (v0) (v2) (v5) (v6) (v8) (r621.fst) (Bool.false)))))
         (p4_21 (j) (n0) (n1) (j) (v0) (v2) (v5) (v6) (v8) (v8)))
        none)
       none))
     none)
    none)
   (p4_25 (n1) (n0) (n1) (v0) (v2) (v5) (v6))) := by kernel_rfl
theorem p4_25_eq (j : Nat) (n0 : Nat) (n1 : Nat) (v0 : List UInt8) (v2 : List (List UInt8)) (v5 : Int) (v6 : Int) : p4_25 (j + 1) n0 n1 v0 v2 v5 v6 =
  (sel (Decidable.decide (v6 < (↑v0.length : Int)))
   (some ([], v6, (61 : Int), ()))
   (sel (Decidable.decide (v5 ≥ (0 : Int)))
    (some ([], v5, (61 : Int), ()))
    (some (v2, (0 : Int), (0 : Int), ())))) := by kernel_rfl
theorem p4_2067_eq (j : Nat) (n0 : Nat) (n1 : Nat) (n2 : Nat) (v0 : List UInt8) (v2 : List (List UInt8)) (v5 : Int) (v6 : Int) (v8 : Int) (v10 : Int) (v64 : Bool) : p4_2067 (j + 1) n0 n1 n2 v0 v2 v5 v6 v8 v10 v64 =
  (sel (v64)
   (some ([], Lk.imin v10 v6, (61 : Int), ()))
   (p4_20 (n2) (n0) (n1) (n2) (v0) (v2) (v5) (v6) (v8) (v10))) := by kernel_rfl
theorem p4_21_eq (j : Nat) (n0 : Nat) (n1 : Nat) (n2 : Nat) (v0 : List UInt8) (v2 : List (List UInt8)) (v5 : Int) (v6 : Int) (v8 : Int) (v9 : Int) : p4_21 (j + 1) n0 n1 n2 v0 v2 v5 v6 v8 v9 =
  (sel (Decidable.decide (v9 < (↑v0.length : Int)))
   (sel (Decidable.decide ((0 : Int) ≤ v9))
    (sel (Decidable.decide (v9 < (↑v0.length : Int)))
     (sel ((↑(v0.getD v9.toNat (0 : UInt8)).toNat : Int) != (↑(UInt8.toNat (32 : UInt8)) : Int))
      (p4_22 (j) (n0) (n1) (n2) (j) (v0) (v2) (v5) (v6) (v8) (v9))
      (p4_23 (n2) (n0) (n1) (n2) (v0) (v2) (v5) (v6) (v8) (v9)))
     none)
    none)
   (p4_23 (n2) (n0) (n1) (n2) (v0) (v2) (v5) (v6) (v8) (v9))) := by kernel_rfl
theorem p4_20_eq (j : Nat) (n0 : Nat) (n1 : Nat) (n2 : Nat) (v0 : List UInt8) (v2 : List (List UInt8)) (v5 : Int) (v6 : Int) (v8 : Int) (v10 : Int) : p4_20 (j + 1) n0 n1 n2 v0 v2 v5 v6 v8 v10 =
  (p4_23 (n2) (n0) (n1) (n2) (v0) (v2) (v5) (v6) (v8) (v10)) := by kernel_rfl
theorem p4_22_eq (j : Nat) (n0 : Nat) (n1 : Nat) (n2 : Nat) (n3 : Nat) (v0 : List UInt8) (v2 : List (List UInt8)) (v5 : Int) (v6 : Int) (v8 : Int) (v9 : Int) : p4_22 (j + 1) n0 n1 n2 n3 v0 v2 v5 v6 v8 v9 =
  (p4_21 (n3) (n0) (n1) (n2) (v0) (v2) (v5) (v6) (v8) (Go.IntKind.i64.wrap (v9 + (1 : Int)))) := by kernel_rfl
theorem p4_23_eq (j : Nat) (n0 : Nat) (n1 : Nat) (n2 : Nat) (v0 : List UInt8) (v2 : List (List UInt8)) (v5 : Int) (v6 : Int) (v8 : Int) (v9 : Int) : p4_23 (j + 1) n0 n1 n2 v0 v2 v5 v6 v8 v9 =
  (sel (Decidable.decide ((0 : Int) ≤ v9))
   (sel (Decidable.decide (v9 ≤ (↑v0.length : Int)))
    (sel (Decidable.decide ((0 : Int) ≤ v8))
     (sel (Decidable.decide (v8 ≤ v9))
      (sel (Decidable.decide (v2.length + [Lk.ext v0 v8 v9].length ≤ (1048576 : Nat)))
       (p4_10 (n2) (n0) (n1) (v0) (v2 ++ [Lk.ext v0 v8 v9]) (v5) (v6) (v9))
       none)
      none)
     none)
    none)
   none) := by kernel_rfl
theorem f5_eq (n : Nat) (a0 : List UInt8) : f5 (n + 1) a0 =
  (p5_6 (n) (n) (a0) ([]) ((-1 : Int)) (Bool.false) (Bool.false) ((0 : Int))) := by kernel_rfl
theorem p5_6_eq (j : Nat) (n0 : Nat) (v0 : List UInt8) (v5 : List (List UInt8)) (v6 : Int) (v7 : Bool) (v8 : Bool) (v9 : Int) : p5_6 (j + 1) n0 v0 v5 v6 v7 v8 v9 =
  (sel (Decidable.decide (v9 < (↑v0.length : Int)))
   (sel (Decidable.decide ((0 : Int) ≤ v9))
    (sel (Decidable.decide (v9 < (↑v0.length : Int)))
     (sel (Decidable.decide ((↑(v0.getD v9.toNat (0 : UInt8)).toNat : Int) < (↑(UInt8.toNat (32 : UInt8)) : Int)))
      (p5_2058 (j) (n0) (j) (v0) (v5) (v6) (v7) (v8) (v9) (v0.getD v9.toNat (0 : UInt8)) (Bool.true))
      (sel ((↑(v0.getD v9.toNat (0 : UInt8)).toNat : Int) == (↑(UInt8.toNat (127 : UInt8)) : Int))
       (p5_2058 (j) (n0) (j) (v0) (v5) (v6) (v7) (v8) (v9) (v0.getD v9.toNat (0 : UInt8)) (Bool.true))
       (sel (v8)
        (p5_2058 (j) (n0) (j) (v0) (v5) (v6) (v7) (v8) (v9) (v0.getD v9.toNat (0 : UInt8)) ((↑(v0.getD v9.toNat (0 : UInt8)).toNat : Int) != (↑(UInt8.toNat (32 : UInt8)) : Int)))
        (p5_2058 (j) (n0) (j) (v0) (v5) (v6) (v7) (v8) (v9) (v0.getD v9.toNat (0 : UInt8)) (Bool.false)))))
     none)
    none)
   (sel (v7)
    (some ([], v6, (61 : Int), ()))
    (sel (Decidable.decide (v6 ≥ (0 : Int)))
     (sel (Decidable.decide ((0 : Int) ≤ v6))
      (sel (Decidable.decide (v6 ≤ (↑v0.length : Int)))
       (sel (Decidable.decide (v5.length + [Lk.ext v0 v6 (↑v0.length : Int)].length ≤ (1048576 : Nat)))
        (p5_30 (n0) (n0) (v5 ++ [Lk.ext v0 v6 (↑v0.length : Int)]))
        none)
       none)
      none)
     (p5_30 (n0) (n0) (v5))))) := by kernel_rfl
theorem p5_2058_eq (j : Nat) (n0 : Nat) (n1 : Nat) (v0 : List UInt8) (v5 : List (List UInt8)) (v6 : Int) (v7 : Bool) (v8 : Bool) (v9 : Int) (v10 : UInt8) (v20 : Bool) : p5_2058 (j + 1) n0 n1 v0 v5 v6 v7 v8 v9 v10 v20 =
  (sel (v20)
   (some ([], v9, (61 : Int), ()))
   (sel ((↑v10.toNat : Int) == (↑(UInt8.toNat (32 : UInt8)) : Int))
    (p5_2060 (j) (n0) (n1) (j) (v0) (v5) (v6) (v7) (v8) (v9) (v10) (!v7))
    (p5_2060 (j) (n0) (n1) (j) (v0) (v5) (v6) (v7) (v8) (v9) (v10) (Bool.false)))) := by kernel_rfl
theorem p5_30_eq (j : Nat) (n0 : Nat) (v5 : List (List UInt8)) : p5_30 (j + 1) n0 v5 =
  (some (v5, (0 : Int), (0 : Int), ())) := by kernel_rfl
theorem p5_2060_eq (j : Nat) (n0 : Nat) (n1 : Nat) (n2 : Nat) (v0 : List UInt8) (v5 : List (List UInt8)) (v6 : Int) (v7 : Bool) (v8 : Bool) (v9 : Int) (v10 : UInt8) (v35 : Bool) : p5_2060 (j + 1) n0 n1 n2 v0 v5 v6 v7 v8 v9 v10 v35 =
  (sel (v35)
   (sel (Decidable.decide (v6 ≥ (0 : Int)))
    (sel (Decidable.decide ((0 : Int) ≤ v9))
     (sel (Decidable.decide (v9 ≤ (↑v0.length : Int)))
      (sel (Decidable.decide ((0 : Int) ≤ v6))
       (sel (Decidable.decide (v6 ≤ v9))
        (sel (Decidable.decide (v5.length + [Lk.ext v0 v6 v9].length ≤ (1048576 : Nat)))
         (p5_14 (j) (n0) (n1) (n2) (j) (v0) (v5 ++ [Lk.ext v0 v6 v9]) (v7) (v9))
         none)
        none)
       none)
      none)
     none)
    (p5_14 (j) (n0) (n1) (n2) (j) (v0) (v5) (v7) (v9)))
   (sel (Decidable.decide (v6 < (0 : Int)))
    (p5_7 (n1) (n0) (n1) (v0) (v5) (v9) ((↑v10.toNat : Int) == (↑(UInt8.toNat (34 : UInt8)) : Int)) (v8) (v9))
    (sel (v7)
     (p5_2068 (j) (n0) (n1) (n2) (j) (v0) (v5) (v6) (v7) (v8) (v9) (v10) ((↑v10.toNat : Int) == (↑(UInt8.toNat (92 : UInt8)) : Int)))
     (p5_2068 (j) (n0) (n1) (n2) (j) (v0) (v5) (v6) (v7) (v8) (v9) (v10) (Bool.false))))) := by kernel_rfl
theorem p5_14_eq (j : Nat) (n0 : Nat) (n1 : Nat) (n2 : Nat) (n3 : Nat) (v0 : List UInt8) (v5 : List (List UInt8)) (v7 : Bool) (v9 : Int) : p5_14 (j + 1) n0 n1 n2 n3 v0 v5 v7 v9 =
  (p5_7 (n1) (n0) (n1) (v0) (v5) ((-1 : Int)) (v7) (Bool.false) (v9)) := by kernel_rfl
theorem p5_7_eq (j : Nat) (n0 : Nat) (n1 : Nat) (v0 : List UInt8) (v5 : List (List UInt8)) (v6 : Int) (v7 : Bool) (v8 : Bool) (v9 : Int) : p5_7 (j + 1) n0 n1 v0 v5 v6 v7 v8 v9 =
  (p5_6 (n1) (n0) (v0) (v5) (v6) (v7) (v8) (Go.IntKind.i64.wrap (v9 + (1 : Int)))) := by kernel_rfl
theorem p5_2068_eq (j : Nat) (n0 : Nat) (n1 : Nat) (n2 : Nat) (n3 : Nat) (v0 : List UInt8) (v5 : List (List UInt8)) (v6 : Int) (v7 : Bool) (v8 : Bool) (v9 : Int) (v10 : UInt8) (v57 : Bool) : p5_2068 (j + 1) n0 n1 n2 n3 v0 v5 v6 v7 v8 v9 v10 v57 =
  (sel (v57)
   (sel (Decidable.decide (Go.IntKind.i64.wrap (v9 + (1 : Int)) < (↑v0.length : Int)))
    (sel (Decidable.decide ((0 : Int) ≤ Go.IntKind.i64.wrap (v9 + (1 : Int))))
     (sel (Decidable.decide (Go.IntKind.i64.wrap (v9 + (1 : Int)) < (↑v0.length : Int)))
      (sel (Decidable.decide ((↑(v0.getD (Go.IntKind.i64.wrap (v9 + (1 : Int))).toNat (0 : UInt8)).toNat : Int) < (↑(UInt8.toNat (32 : UInt8)) : Int)))
       (p5_2070 (j) (n0) (n1) (n2) (n3) (j) (v0) (v5) (v6) (v7) (v8) (Go.IntKind.i64.wrap (v9 + (1 : Int))) (Bool.true))
       (sel (Decidable.decide ((0 : Int) ≤ Go.IntKind.i64.wrap (v9 + (1 : Int))))
        (sel (Decidable.decide (Go.IntKind.i64.wrap (v9 + (1 : Int)) < (↑v0.length : Int)))
         (p5_2070 (j) (n0) (n1) (n2) (n3) (j) (v0) (v5) (v6) (v7) (v8) (Go.IntKind.i64.wrap (v9 + (1 : Int))) ((↑(v0.getD (Go.IntKind.i64.wrap (v9 + (1 : Int))).toNat (0 : UInt8)).toNat : Int) == (↑(UInt8.toNat (127 : UInt8)) : Int)))
         none)
        none))
      none)
     none)
    (p5_2070 (j) (n0) (n1) (n2) (n3) (j) (v0) (v5) (v6) (v7) (v8) (Go.IntKind.i64.wrap (v9 + (1 : Int))) (Bool.false)))
   (sel (v7)
    (p5_2072 (j) (n0) (n1) (n2) (n3) (j) (v0) (v5) (v6) (v7) (v8) (v9) ((↑v10.toNat : Int) == (↑(UInt8.toNat (34 : UInt8)) : Int)))
    (p5_2072 (j) (n0) (n1) (n2) (n3) (j) (v0) (v5) (v6) (v7) (v8) (v9) (Bool.false)))) := by kernel_rfl
theorem p5_2070_eq (j : Nat) (n0 : Nat) (n1 : Nat) (n2 : Nat) (n3 : Nat) (n4 : Nat) (v0 : List UInt8) (v5 : List (List UInt8)) (v6 : Int) (v7 : Bool) (v8 : Bool) (v9 : Int) (v80 : Bool) : p5_2070 (j + 1) n0 n1 n2 n3 n4 v0 v5 v6 v7 v8 v9 v80 =
  (sel (v80)
   (some ([], v9, (61 : Int), ()))
   (p5_7 (n1) (n0) (n1) (v0) (v5) (v6) (v7) (v8) (v9))) := by kernel_rfl
theorem p5_2072_eq (j : Nat) (n0 : Nat) (n1 : Nat) (n2 : Nat) (n3 : Nat) (n4 : Nat) (v0 : List UInt8) (v5 : List (List UInt8)) (v6 : Int) (v7 : Bool) (v8 : Bool) (v9 : Int) (v82 : Bool) : p5_2072 (j + 1) n0 n1 n2 n3 n4 v0 v5 v6 v7 v8 v9 v82 =
  (sel (v82)
   (p5_7 (n1) (n0) (n1) (v0) (v5) (v6) (Bool.false) (Bool.true) (v9))
   (p5_7 (n1) (n0) (n1) (v0) (v5) (v6) (v7) (v8) (v9))) := by kernel_rfl
theorem f3_eq (n : Nat) (a0 : List UInt8) : f3 (n + 1) a0 =
  (obind (f4 n (a0)) fun r37 =>
   (obind (f4 n (a0)) fun r108 =>
    (obind (f5 n (a0)) fun r179 =>
     (obind (f4 n ([(97 : UInt8), (32 : UInt8), (98 : UInt8)])) fun r243 =>
      (obind (f6 n (r37.fst) (r179.fst)) fun r322 =>
       (sel (!r322.fst)
        (p3_2054 (n) (n) (r37.fst) (r108.fst) (r179.fst) (Bool.true))
        (sel (r37.snd.fst != r179.snd.fst)
         (p3_2054 (n) (n) (r37.fst) (r108.fst) (r179.fst) (Bool.true))
         (sel (r37.snd.snd.fst != r179.snd.snd.fst)
          (p3_2054 (n) (n) (r37.fst) (r108.fst) (r179.fst) (Bool.true))
          (obind (f7 n (a0)) fun r1126 =>
           (obind (f8 n (a0)) fun r1153 =>
            (sel (r1126.fst != r1153.fst)
             (p3_2054 (n) (n) (r37.fst) (r108.fst) (r179.fst) (Bool.true))
             (obind (f6 n (r243.fst) ([[(97 : UInt8)], [(98 : UInt8)]])) fun r1331 =>
              (sel (!r1331.fst)
               (p3_2054 (n) (n) (r37.fst) (r108.fst) (r179.fst) (Bool.true))
               (sel (r243.snd.snd.fst != (0 : Int))
                (p3_2054 (n) (n) (r37.fst) (r108.fst) (r179.fst) (Bool.true))
                (obind (f9 n ) fun r1492 =>
                 (p3_2054 (n) (n) (r37.fst) (r108.fst) (r179.fst) (!r1492.fst))))))))))))))))) := by kernel_rfl
theorem p3_2054_eq (j : Nat) (n0 : Nat) (v3 : List (List UInt8)) (v6 : List (List UInt8)) (v9 : List (List UInt8)) (v73 : Bool) : p3_2054 (j + 1) n0 v3 v6 v9 v73 =
  (sel (v73)
   (some (Bool.false, ()))
   (p3_7 (n0) (n0) (v3) (v6) (v9))) := by kernel_rfl
theorem p3_7_eq (j : Nat) (n0 : Nat) (v3 : List (List UInt8)) (v6 : List (List UInt8)) (v9 : List (List UInt8)) : p3_7 (j + 1) n0 v3 v6 v9 =
  (p3_8 (j) (n0) (j) (v3) (v6) (v9) ((0 : Int))) := by kernel_rfl
theorem p3_8_eq (j : Nat) (n0 : Nat) (n1 : Nat) (v3 : List (List UInt8)) (v6 : List (List UInt8)) (v9 : List (List UInt8)) (v15 : Int) : p3_8 (j + 1) n0 n1 v3 v6 v9 v15 =
  (sel (Decidable.decide (v15 < (↑v3.length : Int)))
   (sel (Decidable.decide ((0 : Int) ≤ v15))
    (sel (Decidable.decide (v15 < (↑v3.length : Int)))
     (p3_8 (j) (n0) (n1) (v3.set v15.toNat [(115 : UInt8), (112 : UInt8), (111 : UInt8), (105 : UInt8), (108 : UInt8), (116 : UInt8)]) (v6) (v9) (Go.IntKind.i64.wrap (v15 + (1 : Int))))
     none)
    none)
   (obind (f6 n1 (v6) (v9)) fun r1724 =>
    (some (r1724.fst, ())))) := by kernel_rfl
end NsG

