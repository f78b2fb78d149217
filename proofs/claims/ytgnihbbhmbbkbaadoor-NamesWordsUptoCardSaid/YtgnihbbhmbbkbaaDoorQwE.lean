import Derived.Test.YtgnihbbhmbbkbaaDoorProg
import Derived.Test.YtgnihbbhmbbkbaaDoorLkTwo
import Derived.Test.YtgnihbbhmbbkbaaDoorQwX
import Derived.Test.YtgnihbbhmbbkbaaDoorQwP
set_option linter.all false
namespace NqGQ
open Go Lk
noncomputable def tys : BT (Ty × Md) := (.node (.node (.node (.node (.node .leaf 2 (.i .i64, .r) .leaf) 3 (.i .i64, .r) .leaf) 4 (.b, .r) (.node .leaf 5 (.by, .r) .leaf)) 6 (.by, .r) (.node (.node (.node .leaf 9 (.s, .r) .leaf) 10 (.s, .r) .leaf) 11 (.s, .r) (.node .leaf 12 (.i .u64, .r) .leaf))) 21 (.i .i32, .r) (.node (.node (.node (.node .leaf 22 (.i .i64, .r) .leaf) 32 (.l (.s), .o .r) .leaf) 33 (.l (.i .i64), .o .r) (.node .leaf 34 (.l (.by), .o .r) .leaf)) 61 (.i .u32, .r) (.node (.node .leaf 87 (.i .u64, .r) .leaf) 108 (.i .i64, .r) (.node .leaf 119 (.i .u64, .r) .leaf))))
noncomputable def sigs : BT Sig := (.node (.node (.node (.node (.node .leaf 3 ⟨[(.s, .r), (.s, .r)], [(.b, .r)]⟩ .leaf) 4 ⟨[(.s, .r), (.s, .r)], [(.b, .r)]⟩ (.node .leaf 11 ⟨[(.s, .r)], [(.s, .r), (.i .i64, .r), (.i .i64, .r)]⟩ .leaf)) 12 ⟨[(.s, .r)], [(.s, .r), (.i .i64, .r), (.i .i64, .r)]⟩ (.node (.node .leaf 13 ⟨[(.s, .r)], [(.s, .r)]⟩ .leaf) 14 ⟨[(.s, .r)], [(.s, .r)]⟩ .leaf)) 15 ⟨[], [(.b, .r)]⟩ (.node (.node (.node .leaf 16 ⟨[(.s, .r)], [(.s, .r), (.i .i64, .r), (.i .i64, .r)]⟩ .leaf) 17 ⟨[(.s, .r)], [(.s, .r), (.i .i64, .r), (.i .i64, .r)]⟩ (.node .leaf 18 ⟨[(.s, .r)], [(.s, .r)]⟩ .leaf)) 19 ⟨[(.s, .r)], [(.s, .r)]⟩ (.node (.node .leaf 35 ⟨[(.s, .r), (.s, .r)], [(.b, .r)]⟩ .leaf) 36 ⟨[(.s, .r), (.i .i64, .r)], [(.by, .r), (.i .i64, .r)]⟩ .leaf))) 37 ⟨[(.s, .r)], [(.i .i32, .r), (.i .i64, .r)]⟩ (.node (.node (.node (.node .leaf 38 ⟨[(.i .i32, .r)], [(.b, .r)]⟩ .leaf) 39 ⟨[(.s, .r), (.i .i64, .r)], [(.by, .r), (.i .i64, .r)]⟩ (.node .leaf 40 ⟨[(.l (.by), .b), (.i .i64, .r)], [(.i .u32, .r), (.i .i64, .r)]⟩ .leaf)) 41 ⟨[(.i .u32, .r)], [(.b, .r)]⟩ (.node (.node .leaf 46 ⟨[(.l (.by), .b), (.i .i64, .r)], [(.s, .r), (.i .i64, .r)]⟩ .leaf) 47 ⟨[(.s, .r)], [(.i .i64, .r)]⟩ .leaf)) 48 ⟨[(.s, .r)], [(.i .i64, .r)]⟩ (.node (.node (.node .leaf 64 ⟨[(.s, .r), (.s, .r)], [(.b, .r)]⟩ .leaf) 65 ⟨[(.s, .r), (.i .i64, .r)], [(.i .i64, .r)]⟩ (.node .leaf 67 ⟨[(.by, .r)], [(.i .i64, .r)]⟩ .leaf)) 70 ⟨[(.by, .r)], [(.s, .r)]⟩ (.node (.node .leaf 71 ⟨[(.by, .r)], [(.b, .r)]⟩ .leaf) 83 ⟨[(.s, .r), (.by, .r)], [(.i .i64, .r)]⟩ .leaf))))
noncomputable def bodies : BT Func := (.node (.node (.node (.node (.node .leaf 3 Go.Proofs.Tryd.f3 .leaf) 4 Go.Proofs.Tryd.f4 (.node .leaf 11 Go.Proofs.Tryd.f11 .leaf)) 12 Go.Proofs.Tryd.f12 (.node (.node .leaf 14 Go.Proofs.Tryd.f14 .leaf) 15 Go.Proofs.Tryd.f15 .leaf)) 16 Go.Proofs.Tryd.f16 (.node (.node (.node .leaf 17 Go.Proofs.Tryd.f17 .leaf) 18 Go.Proofs.Tryd.f18 .leaf) 19 Go.Proofs.Tryd.f19 (.node (.node .leaf 35 Go.Proofs.Tryd.f35 .leaf) 36 Go.Proofs.Tryd.f36 .leaf))) 38 Go.Proofs.Tryd.f38 (.node (.node (.node (.node .leaf 39 Go.Proofs.Tryd.f39 .leaf) 40 Go.Proofs.Tryd.f40 .leaf) 41 Go.Proofs.Tryd.f41 (.node (.node .leaf 46 Go.Proofs.Tryd.f46 .leaf) 47 Go.Proofs.Tryd.f47 .leaf)) 48 Go.Proofs.Tryd.f48 (.node (.node (.node .leaf 64 Go.Proofs.Tryd.f64 .leaf) 65 Go.Proofs.Tryd.f65 .leaf) 67 Go.Proofs.Tryd.f67 (.node (.node .leaf 70 Go.Proofs.Tryd.f70 .leaf) 71 Go.Proofs.Tryd.f71 .leaf))))
noncomputable def exts : BT Func := (.node (.node .leaf 13 Go.Proofs.Tryd.f13 .leaf) 37 Go.Proofs.Tryd.f37 (.node .leaf 83 Go.Proofs.Tryd.f83 .leaf))
noncomputable def lives : BT (List Nat) := (.node (.node (.node (.node (.node (.node .leaf 45061 [0, 3, 5] .leaf) 45062 [0, 3, 5] .leaf) 45071 [0, 3, 5, 9] (.node (.node .leaf 45073 [0, 3, 5] .leaf) 47118 [0, 3, 5, 9, 60] .leaf)) 49155 [0] (.node (.node (.node .leaf 49157 [0, 5, 6] .leaf) 49173 [0, 5, 6, 10] .leaf) 51202 [0, 17] (.node (.node .leaf 51220 [0, 5, 6, 10, 79] .leaf) 57348 [3, 4, 5] .leaf))) 65542 [0] (.node (.node (.node (.node .leaf 67589 [0, 5, 20] .leaf) 69635 [0] .leaf) 71682 [0, 12] (.node (.node .leaf 73731 [0] .leaf) 75778 [0, 9] .leaf)) 147473 [] (.node (.node (.node .leaf 149516 [0, 1, 16, 23] .leaf) 149520 [6, 7, 45] .leaf) 159760 [] (.node (.node .leaf 161804 [0, 1, 14, 21] .leaf) 161807 [0, 1, 50] .leaf)))) 163851 [0, 1, 7, 8, 9] (.node (.node (.node (.node (.node .leaf 163853 [0, 1, 7, 8, 9] .leaf) 163854 [0, 1, 7, 8, 9, 10] .leaf) 163861 [7, 8] (.node (.node .leaf 165894 [0, 1, 6, 7, 8, 9, 20] .leaf) 165896 [0, 1, 6, 7, 8, 9, 29] .leaf)) 165898 [0, 1, 6, 7, 8, 9, 38] (.node (.node (.node .leaf 165900 [0, 1, 7, 8, 9, 56] .leaf) 165908 [7, 8, 95] .leaf) 188430 [0, 1, 7] (.node (.node .leaf 188432 [0, 1, 7, 8, 9] .leaf) 190477 [0, 1, 7, 44] .leaf))) 192514 [0, 5, 6] (.node (.node (.node (.node .leaf 196610 [0, 3] .leaf) 196611 [0, 3] .leaf) 198662 [0, 3, 39] (.node (.node .leaf 274437 [] .leaf) 276482 [0, 3] .leaf)) 276484 [0, 13] (.node (.node (.node .leaf 290824 [] .leaf) 292866 [0, 3] .leaf) 292867 [0, 3] (.node .leaf 292871 [16] .leaf)))))
open Go Lk NqG
noncomputable def ext37 : Nat → Tup [(.s, .r)] → Option (Tup [(.i .i32, .r), (.i .i64, .r)]) := fun _ x => some ((e37 x.1).1, (e37 x.1).2, ())
noncomputable def ext83 : Nat → Tup [(.s, .r), (.by, .r)] → Option (Tup [(.i .i64, .r)]) := fun _ x => some (idx x.1 x.2.1, ())
noncomputable def ext13 : Nat → Tup [(.s, .r)] → Option (Tup [(.s, .r)]) := fun _ x => bif Nat.ble x.1.length 1073741824 then some (quote x.1, ()) else none
noncomputable def ext : (f : FuncId) → Option (Nat → Tup ((sigs.get f).getD ⟨[], []⟩).ps → Option (Tup ((sigs.get f).getD ⟨[], []⟩).rs))
  | 37 => some ext37
  | 83 => some ext83
  | 13 => some ext13
  | _ => none
noncomputable def lims : BT Nat := (.node (.node .leaf 32 1073741824 .leaf) 34 1073741824 .leaf)
noncomputable def G : Prg where
  ty T := tys.get T
  lim T := (lims.get T).getD 0
  sig g := (sigs.get g).getD ⟨[], []⟩
  body g := bodies.get g
  ext g := ext g
  live g r := lives.get (Nat.add (Nat.mul g 4096) r)
end NqGQ

namespace NqGQ
open Go Lk NqG
set_option linter.unusedVariables false
/-- unicode/utf8.DecodeRuneInString -/
@[irreducible] noncomputable def f37 (n : Nat) (a0 : List UInt8) : Option (Int × Int × Unit) := F G n 37 (a0, ())
theorem f37_eq (n : Nat) (a0 : List UInt8) : f37 n a0 = some ((e37 a0).1, (e37 a0).2, ()) := by kernel_rfl
/-- strings.IndexByte -/
@[irreducible] noncomputable def f83 (n : Nat) (a0 : List UInt8) (a1 : UInt8) : Option (Int × Unit) := F G n 83 (a0, a1, ())
theorem f83_eq (n : Nat) (a0 : List UInt8) (a1 : UInt8) : f83 n a0 a1 = some (idx a0 a1, ()) := by kernel_rfl
/-- names.Quote -/
@[irreducible] noncomputable def f13 (n : Nat) (a0 : List UInt8) : Option (List UInt8 × Unit) := F G n 13 (a0, ())
theorem f13_eq (n : Nat) (a0 : List UInt8) : f13 n a0 = bif Nat.ble a0.length 1073741824 then some (quote a0, ()) else none := by kernel_rfl
/-- moraine/names.Unquote -/
@[irreducible] noncomputable def f11 (n : Nat) (a0 : List UInt8) : Option (List UInt8 × Int × Int × Unit) := F G n 11 (a0, ())
@[irreducible] noncomputable def p11_5 (j : Nat) (n0 : Nat) (v0 : List UInt8) (v3 : Int) (v5 : List (UInt8)) : Option (List UInt8 × Int × Int × Unit) := piece G 11 [.r, .r, .r, .r, .l, .b] j [n0] (skel 95 0 [(0, .av ⟨.s, .r, v0⟩), (3, .av ⟨(.i .i64), .r, v3⟩), (5, .av ⟨(.l .by), (.o .r), v5⟩)])
@[irreducible] noncomputable def p11_6 (j : Nat) (n0 : Nat) (n1 : Nat) (v0 : List UInt8) (v3 : Int) (v5 : List (UInt8)) : Option (List UInt8 × Int × Int × Unit) := piece G 11 [.r, .r, .r, .r, .l, .b, .o, .r] j [n0, n1] (skel 95 0 [(0, .av ⟨.s, .r, v0⟩), (3, .av ⟨(.i .i64), .r, v3⟩), (5, .av ⟨(.l .by), (.o .r), v5⟩)])
@[irreducible] noncomputable def p11_17 (j : Nat) (n0 : Nat) (v0 : List UInt8) (v3 : Int) (v5 : List (UInt8)) : Option (List UInt8 × Int × Int × Unit) := piece G 11 [.r, .r, .r, .r, .r] j [n0] (skel 95 0 [(0, .av ⟨.s, .r, v0⟩), (3, .av ⟨(.i .i64), .r, v3⟩), (5, .av ⟨(.l .by), (.o .r), v5⟩)])
@[irreducible] noncomputable def p11_2062 (j : Nat) (n0 : Nat) (n1 : Nat) (n2 : Nat) (v0 : List UInt8) (v3 : Int) (v5 : List (UInt8)) (v9 : Int) (v60 : Bool) : Option (List UInt8 × Int × Int × Unit) := piece G 11 [.r, .r, .r, .r, .l, .b, .o, .r, .b, .r, .r, .l, .r] j [n0, n1, n2] (skel 95 0 [(0, .av ⟨.s, .r, v0⟩), (3, .av ⟨(.i .i64), .r, v3⟩), (5, .av ⟨(.l .by), (.o .r), v5⟩), (9, .av ⟨(.i .i64), .r, v9⟩), (60, .av ⟨.b, .r, v60⟩)])
@[irreducible] noncomputable def p11_15 (j : Nat) (n0 : Nat) (n1 : Nat) (n2 : Nat) (v0 : List UInt8) (v3 : Int) (v5 : List (UInt8)) (v9 : Int) : Option (List UInt8 × Int × Int × Unit) := piece G 11 [.r, .r, .r, .r, .l, .b, .o, .r, .b, .r, .r, .r] j [n0, n1, n2] (skel 95 0 [(0, .av ⟨.s, .r, v0⟩), (3, .av ⟨(.i .i64), .r, v3⟩), (5, .av ⟨(.l .by), (.o .r), v5⟩), (9, .av ⟨(.i .i64), .r, v9⟩)])
/-- moraine/names.Unword -/
@[irreducible] noncomputable def f16 (n : Nat) (a0 : List UInt8) : Option (List UInt8 × Int × Int × Unit) := F G n 16 (a0, ())
@[irreducible] noncomputable def p16_2053 (j : Nat) (n0 : Nat) (v0 : List UInt8) (v5 : Int) (v20 : Bool) : Option (List UInt8 × Int × Int × Unit) := piece G 16 [.r, .r, .l, .r, .r] j [n0] (skel 24 0 [(0, .av ⟨.s, .r, v0⟩), (5, .av ⟨(.i .i64), .r, v5⟩), (20, .av ⟨.b, .r, v20⟩)])
@[irreducible] noncomputable def p16_6 (j : Nat) (n0 : Nat) (v0 : List UInt8) : Option (List UInt8 × Int × Int × Unit) := piece G 16 [.r, .r, .r] j [n0] (skel 24 0 [(0, .av ⟨.s, .r, v0⟩)])
/-- moraine/names.Word -/
@[irreducible] noncomputable def f18 (n : Nat) (a0 : List UInt8) : Option (List UInt8 × Unit) := F G n 18 (a0, ())
@[irreducible] noncomputable def p18_2050 (j : Nat) (n0 : Nat) (v0 : List UInt8) (v9 : Bool) : Option (List UInt8 × Unit) := piece G 18 [.r, .l, .r] j [n0] (skel 13 0 [(0, .av ⟨.s, .r, v0⟩), (9, .av ⟨.b, .r, v9⟩)])
@[irreducible] noncomputable def p18_3 (j : Nat) (n0 : Nat) (v0 : List UInt8) : Option (List UInt8 × Unit) := piece G 18 [.r, .r] j [n0] (skel 13 0 [(0, .av ⟨.s, .r, v0⟩)])
/-- strings.HasPrefix -/
@[irreducible] noncomputable def f35 (n : Nat) (a0 : List UInt8) (a1 : List UInt8) : Option (Bool × Unit) := F G n 35 (a0, a1, ())
/-- moraine/names.escape -/
@[irreducible] noncomputable def f36 (n : Nat) (a0 : List UInt8) (a1 : Int) : Option (UInt8 × Int × Unit) := F G n 36 (a0, a1, ())
@[irreducible] noncomputable def p36_2060 (j : Nat) (n0 : Nat) (v0 : List UInt8) (v1 : Int) (v16 : UInt8) (v23 : Bool) : Option (UInt8 × Int × Unit) := piece G 36 [.r, .r, .l, .r, .b, .r, .f, .r, .f, .r, .f, .r] j [n0] (skel 51 0 [(0, .av ⟨.s, .r, v0⟩), (1, .av ⟨(.i .i64), .r, v1⟩), (16, .av ⟨.by, .r, v16⟩), (23, .av ⟨.b, .r, v23⟩)])
@[irreducible] noncomputable def p36_2064 (j : Nat) (n0 : Nat) (n1 : Nat) (v6 : Int) (v7 : Int) (v45 : Bool) : Option (UInt8 × Int × Unit) := piece G 36 [.r, .r, .l, .r, .b, .r, .f, .r, .f, .r, .f, .r, .f, .r, .t, .r, .r] j [n0, n1] (skel 51 0 [(6, .av ⟨(.i .i64), .r, v6⟩), (7, .av ⟨(.i .i64), .r, v7⟩), (45, .av ⟨.b, .r, v45⟩)])
@[irreducible] noncomputable def p36_17 (j : Nat) (n0 : Nat) : Option (UInt8 × Int × Unit) := piece G 36 [.r, .r, .r] j [n0] (skel 51 0 [])
/-- moraine/names.itself -/
@[irreducible] noncomputable def f38 (n : Nat) (a0 : Int) : Option (Bool × Unit) := F G n 38 (a0, ())
/-- moraine/names.odd -/
@[irreducible] noncomputable def f47 (n : Nat) (a0 : List UInt8) : Option (Int × Unit) := F G n 47 (a0, ())
@[irreducible] noncomputable def p47_2 (j : Nat) (n0 : Nat) (v0 : List UInt8) (v5 : Int) (v6 : Int) : Option (Int × Unit) := piece G 47 [.r, .l, .r, .b] j [n0] (skel 16 0 [(0, .av ⟨.s, .r, v0⟩), (5, .av ⟨(.i .i64), .r, v5⟩), (6, .av ⟨(.i .i64), .r, v6⟩)])
/-- internal/stringslite.HasPrefix -/
@[irreducible] noncomputable def f64 (n : Nat) (a0 : List UInt8) (a1 : List UInt8) : Option (Bool × Unit) := F G n 64 (a0, a1, ())
/-- moraine/names.digit -/
@[irreducible] noncomputable def f65 (n : Nat) (a0 : List UInt8) (a1 : Int) : Option (Int × Unit) := F G n 65 (a0, a1, ())
/-- moraine/names.bareByte -/
@[irreducible] noncomputable def f71 (n : Nat) (a0 : UInt8) : Option (Bool × Unit) := F G n 71 (a0, ())
@[irreducible] noncomputable def p71_2050 (j : Nat) (n0 : Nat) (v0 : UInt8) (v3 : Bool) : Option (Bool × Unit) := piece G 71 [.r, .l, .b, .l, .r] j [n0] (skel 23 0 [(0, .av ⟨.by, .r, v0⟩), (3, .av ⟨.b, .r, v3⟩)])
@[irreducible] noncomputable def p71_2051 (j : Nat) (n0 : Nat) (v0 : UInt8) (v3 : Bool) : Option (Bool × Unit) := piece G 71 [.r, .l, .b, .r] j [n0] (skel 23 0 [(0, .av ⟨.by, .r, v0⟩), (3, .av ⟨.b, .r, v3⟩)])
@[irreducible] noncomputable def p71_2055 (j : Nat) (n0 : Nat) (n1 : Nat) (v16 : Bool) : Option (Bool × Unit) := piece G 71 [.r, .l, .b, .r, .f, .r] j [n0, n1] (skel 23 0 [(16, .av ⟨.b, .r, v16⟩)])
@[irreducible] noncomputable def p71_8 (j : Nat) (n0 : Nat) : Option (Bool × Unit) := piece G 71 [.r, .r] j [n0] (skel 23 0 [])
theorem f11_eq (n : Nat) (a0 : List UInt8) : f11 (n + 1) a0 =
  (obind (f35 n (a0) ([(34 : UInt8)])) fun r52 =>
   (sel (!r52.fst)
    (some ([], (0 : Int), (61 : Int), ()))
    (p11_5 (n) (n) (a0) ((1 : Int)) ([])))) := by kernel_rfl
theorem p11_5_eq (j : Nat) (n0 : Nat) (v0 : List UInt8) (v3 : Int) (v5 : List (UInt8)) : p11_5 (j + 1) n0 v0 v3 v5 =
  (sel (Decidable.decide (v3 < (↑v0.length : Int)))
   (sel (Decidable.decide ((0 : Int) ≤ v3))
    (sel (Decidable.decide (v3 < (↑v0.length : Int)))
     (sel ((↑(v0.getD v3.toNat (0 : UInt8)).toNat : Int) != (↑(UInt8.toNat (34 : UInt8)) : Int))
      (p11_6 (j) (n0) (j) (v0) (v3) (v5))
      (p11_17 (n0) (n0) (v0) (v3) (v5)))
     none)
    none)
   (p11_17 (n0) (n0) (v0) (v3) (v5))) := by kernel_rfl
theorem p11_6_eq (j : Nat) (n0 : Nat) (n1 : Nat) (v0 : List UInt8) (v3 : Int) (v5 : List (UInt8)) : p11_6 (j + 1) n0 n1 v0 v3 v5 =
  (sel (Decidable.decide ((0 : Int) ≤ v3))
   (sel (Decidable.decide (v3 < (↑v0.length : Int)))
    (sel ((↑(v0.getD v3.toNat (0 : UInt8)).toNat : Int) == (↑(UInt8.toNat (92 : UInt8)) : Int))
     (obind (f36 j (v0) (v3)) fun r396 =>
      (sel (r396.snd.fst == (0 : Int))
       (some ([], v3, (61 : Int), ()))
       (sel (Decidable.decide (v5.length + [r396.fst].length ≤ (1073741824 : Nat)))
        (p11_5 (n1) (n0) (v0) (Go.IntKind.i64.wrap (v3 + r396.snd.fst)) (v5 ++ [r396.fst]))
        none)))
     (sel (Decidable.decide ((0 : Int) ≤ v3))
      (sel (Decidable.decide (v3 ≤ (↑v0.length : Int)))
       (obind (f37 j (Lk.ext v0 v3 (↑v0.length : Int))) fun r646 =>
        (sel (r646.fst == (65533 : Int))
         (sel (r646.snd.fst == (1 : Int))
          (p11_2062 (j) (n0) (n1) (j) (v0) (v3) (v5) (r646.snd.fst) (Bool.true))
          (obind (f38 j (r646.fst)) fun r810 =>
           (p11_2062 (j) (n0) (n1) (j) (v0) (v3) (v5) (r646.snd.fst) (!r810.fst))))
         (obind (f38 j (r646.fst)) fun r887 =>
          (p11_2062 (j) (n0) (n1) (j) (v0) (v3) (v5) (r646.snd.fst) (!r887.fst)))))
       none)
      none))
    none)
   none) := by kernel_rfl
theorem p11_17_eq (j : Nat) (n0 : Nat) (v0 : List UInt8) (v3 : Int) (v5 : List (UInt8)) : p11_17 (j + 1) n0 v0 v3 v5 =
  (sel (v3 == (↑v0.length : Int))
   (some ([], v3, (61 : Int), ()))
   (sel (Decidable.decide (Go.IntKind.i64.wrap (v3 + (1 : Int)) < (↑v0.length : Int)))
    (some ([], Go.IntKind.i64.wrap (v3 + (1 : Int)), (61 : Int), ()))
    (obind (f13 j (v5)) fun r1147 =>
     (sel (!r1147.fst == v0)
      (some ([], (0 : Int), (61 : Int), ()))
      (some (v5, (0 : Int), (0 : Int), ())))))) := by kernel_rfl
theorem p11_2062_eq (j : Nat) (n0 : Nat) (n1 : Nat) (n2 : Nat) (v0 : List UInt8) (v3 : Int) (v5 : List (UInt8)) (v9 : Int) (v60 : Bool) : p11_2062 (j + 1) n0 n1 n2 v0 v3 v5 v9 v60 =
  (sel (v60)
   (some ([], v3, (61 : Int), ()))
   (p11_15 (n2) (n0) (n1) (n2) (v0) (v3) (v5) (v9))) := by kernel_rfl
theorem p11_15_eq (j : Nat) (n0 : Nat) (n1 : Nat) (n2 : Nat) (v0 : List UInt8) (v3 : Int) (v5 : List (UInt8)) (v9 : Int) : p11_15 (j + 1) n0 n1 n2 v0 v3 v5 v9 =
  (sel (Decidable.decide ((0 : Int) ≤ Go.IntKind.i64.wrap (v3 + v9)))
   (sel (Decidable.decide (Go.IntKind.i64.wrap (v3 + v9) ≤ (↑v0.length : Int)))
    (sel (Decidable.decide ((0 : Int) ≤ v3))
     (sel (Decidable.decide (v3 ≤ Go.IntKind.i64.wrap (v3 + v9)))
      (sel (Decidable.decide (v5.length + (Lk.ext v0 v3 (Go.IntKind.i64.wrap (v3 + v9))).length ≤ (1073741824 : Nat)))
       (p11_5 (n1) (n0) (v0) (Go.IntKind.i64.wrap (v3 + v9)) (v5 ++ Lk.ext v0 v3 (Go.IntKind.i64.wrap (v3 + v9))))
       none)
      none)
     none)
    none)
   none) := by kernel_rfl
theorem f16_eq (n : Nat) (a0 : List UInt8) : f16 (n + 1) a0 =
  (obind (f35 n (a0) ([(34 : UInt8)])) fun r52 =>
   (sel (r52.fst)
    (obind (f11 n (a0)) fun r78 =>
     (some (r78.fst, r78.snd.fst, r78.snd.snd.fst, ())))
    (obind (f47 n (a0)) fun r160 =>
     (sel (a0 == [])
      (p16_2053 (n) (n) (a0) (r160.fst) (Bool.true))
      (p16_2053 (n) (n) (a0) (r160.fst) (Decidable.decide (r160.fst ≥ (0 : Int)))))))) := by kernel_rfl
theorem p16_2053_eq (j : Nat) (n0 : Nat) (v0 : List UInt8) (v5 : Int) (v20 : Bool) : p16_2053 (j + 1) n0 v0 v5 v20 =
  (sel (v20)
   (some ([], Lk.imax v5 (0 : Int), (61 : Int), ()))
   (p16_6 (n0) (n0) (v0))) := by kernel_rfl
theorem p16_6_eq (j : Nat) (n0 : Nat) (v0 : List UInt8) : p16_6 (j + 1) n0 v0 =
  (some (v0, (0 : Int), (0 : Int), ())) := by kernel_rfl
theorem f18_eq (n : Nat) (a0 : List UInt8) : f18 (n + 1) a0 =
  (sel (!a0 == [])
   (obind (f47 n (a0)) fun r71 =>
    (p18_2050 (n) (n) (a0) (Decidable.decide (r71.fst < (0 : Int)))))
   (p18_2050 (n) (n) (a0) (Bool.false))) := by kernel_rfl
theorem p18_2050_eq (j : Nat) (n0 : Nat) (v0 : List UInt8) (v9 : Bool) : p18_2050 (j + 1) n0 v0 v9 =
  (sel (v9)
   (some (v0, ()))
   (p18_3 (n0) (n0) (v0))) := by kernel_rfl
theorem p18_3_eq (j : Nat) (n0 : Nat) (v0 : List UInt8) : p18_3 (j + 1) n0 v0 =
  (obind (f13 j (v0)) fun r194 =>
   (some (r194.fst, ()))) := by kernel_rfl
theorem f35_eq (n : Nat) (a0 : List UInt8) (a1 : List UInt8) : f35 (n + 1) a0 a1 =
  (obind (f64 n (a0) (a1)) fun r44 =>
   (some (r44.fst, ()))) := by kernel_rfl
theorem f36_eq (n : Nat) (a0 : List UInt8) (a1 : Int) : f36 (n + 1) a0 a1 =
  (sel (Decidable.decide (Go.IntKind.i64.wrap (a1 + (1 : Int)) ≥ (↑a0.length : Int)))
   (some ((0 : UInt8), (0 : Int), ()))
   (sel (Decidable.decide ((0 : Int) ≤ Go.IntKind.i64.wrap (a1 + (1 : Int))))
    (sel (Decidable.decide (Go.IntKind.i64.wrap (a1 + (1 : Int)) < (↑a0.length : Int)))
     (sel ((↑(a0.getD (Go.IntKind.i64.wrap (a1 + (1 : Int))).toNat (0 : UInt8)).toNat : Int) == (↑(UInt8.toNat (110 : UInt8)) : Int))
      (some ((10 : UInt8), (2 : Int), ()))
      (sel ((↑(a0.getD (Go.IntKind.i64.wrap (a1 + (1 : Int))).toNat (0 : UInt8)).toNat : Int) == (↑(UInt8.toNat (116 : UInt8)) : Int))
       (some ((9 : UInt8), (2 : Int), ()))
       (sel ((↑(a0.getD (Go.IntKind.i64.wrap (a1 + (1 : Int))).toNat (0 : UInt8)).toNat : Int) == (↑(UInt8.toNat (115 : UInt8)) : Int))
        (some ((32 : UInt8), (2 : Int), ()))
        (sel ((↑(a0.getD (Go.IntKind.i64.wrap (a1 + (1 : Int))).toNat (0 : UInt8)).toNat : Int) == (↑(UInt8.toNat (34 : UInt8)) : Int))
         (p36_2060 (n) (n) (a0) (a1) (a0.getD (Go.IntKind.i64.wrap (a1 + (1 : Int))).toNat (0 : UInt8)) ((↑(a0.getD (Go.IntKind.i64.wrap (a1 + (1 : Int))).toNat (0 : UInt8)).toNat : Int) == (↑(UInt8.toNat (34 : UInt8)) : Int)))
         (p36_2060 (n) (n) (a0) (a1) (a0.getD (Go.IntKind.i64.wrap (a1 + (1 : Int))).toNat (0 : UInt8)) ((↑(a0.getD (Go.IntKind.i64.wrap (a1 + (1 : Int))).toNat (0 : UInt8)).toNat : Int) == (↑(UInt8.toNat (92 : UInt8)) : Int)))))))
     none)
    none)) := by kernel_rfl
theorem p36_2060_eq (j : Nat) (n0 : Nat) (v0 : List UInt8) (v1 : Int) (v16 : UInt8) (v23 : Bool) : p36_2060 (j + 1) n0 v0 v1 v16 v23 =
  (sel (v23)
   (sel (Decidable.decide ((0 : Int) ≤ Go.IntKind.i64.wrap (v1 + (1 : Int))))
    (sel (Decidable.decide (Go.IntKind.i64.wrap (v1 + (1 : Int)) < (↑v0.length : Int)))
     (some (v0.getD (Go.IntKind.i64.wrap (v1 + (1 : Int))).toNat (0 : UInt8), (2 : Int), ()))
     none)
    none)
   (sel ((↑v16.toNat : Int) == (↑(UInt8.toNat (120 : UInt8)) : Int))
    (obind (f65 j (v0) (Go.IntKind.i64.wrap (v1 + (2 : Int)))) fun r510 =>
     (obind (f65 j (v0) (Go.IntKind.i64.wrap (v1 + (3 : Int)))) fun r539 =>
      (sel (Decidable.decide (r510.fst ≥ (0 : Int)))
       (p36_2064 (j) (n0) (j) (r510.fst) (r539.fst) (Decidable.decide (r539.fst ≥ (0 : Int))))
       (p36_2064 (j) (n0) (j) (r510.fst) (r539.fst) (Bool.false)))))
    (p36_17 (n0) (n0)))) := by kernel_rfl
theorem p36_2064_eq (j : Nat) (n0 : Nat) (n1 : Nat) (v6 : Int) (v7 : Int) (v45 : Bool) : p36_2064 (j + 1) n0 n1 v6 v7 v45 =
  (sel (v45)
   (sel (Decidable.decide ((0 : Int) ≤ (4 : Int)))
    (some (UInt8.ofNat (Go.IntKind.u8.wrap (Lk.ibits Go.BinOp.or Go.IntKind.i64 (Go.IntKind.i64.wrap (v6 * (2 : Int) ^ Min.min (Int.toNat (4 : Int)) Go.IntKind.i64.bits)) v7)).toNat, (4 : Int), ()))
    none)
   (p36_17 (n0) (n0))) := by kernel_rfl
theorem p36_17_eq (j : Nat) (n0 : Nat) : p36_17 (j + 1) n0 =
  (some ((0 : UInt8), (0 : Int), ())) := by kernel_rfl
theorem f38_eq (n : Nat) (a0 : Int) : f38 (n + 1) a0 =
  (sel (Decidable.decide (a0 > (32 : Int)))
   (sel (Decidable.decide (a0 < (127 : Int)))
    (sel (a0 != (34 : Int))
     (sel (a0 != (92 : Int))
      (some (Bool.true, ()))
      (some (Decidable.decide (a0 > (160 : Int)), ())))
     (some (Decidable.decide (a0 > (160 : Int)), ())))
    (some (Decidable.decide (a0 > (160 : Int)), ())))
   (some (Decidable.decide (a0 > (160 : Int)), ()))) := by kernel_rfl
theorem f47_eq (n : Nat) (a0 : List UInt8) : f47 (n + 1) a0 =
  (p47_2 (n) (n) (a0) ((↑a0.length : Int)) ((0 : Int))) := by kernel_rfl
theorem p47_2_eq (j : Nat) (n0 : Nat) (v0 : List UInt8) (v5 : Int) (v6 : Int) : p47_2 (j + 1) n0 v0 v5 v6 =
  (sel (Decidable.decide (v6 < v5))
   (sel (Decidable.decide ((0 : Int) ≤ v6))
    (sel (Decidable.decide (v6 < (↑v0.length : Int)))
     (obind (f71 j (v0.getD v6.toNat (0 : UInt8))) fun r132 =>
      (sel (!r132.fst)
       (some (v6, ()))
       (p47_2 (j) (n0) (v0) (v5) (Go.IntKind.i64.wrap (v6 + (1 : Int))))))
     none)
    none)
   (some ((-1 : Int), ()))) := by kernel_rfl
theorem f64_eq (n : Nat) (a0 : List UInt8) (a1 : List UInt8) : f64 (n + 1) a0 a1 =
  (sel (Decidable.decide ((↑a0.length : Int) ≥ (↑a1.length : Int)))
   (sel (Decidable.decide ((0 : Int) ≤ (↑a1.length : Int)))
    (sel (Decidable.decide ((↑a1.length : Int) ≤ (↑a0.length : Int)))
     (some (Lk.ext a0 (0 : Int) (↑a1.length : Int) == a1, ()))
     none)
    none)
   (some (Bool.false, ()))) := by kernel_rfl
theorem f65_eq (n : Nat) (a0 : List UInt8) (a1 : Int) : f65 (n + 1) a0 a1 =
  (sel (Decidable.decide (a1 ≥ (↑a0.length : Int)))
   (some ((-1 : Int), ()))
   (sel (Decidable.decide ((0 : Int) ≤ a1))
    (sel (Decidable.decide (a1 < (↑a0.length : Int)))
     (obind (f83 n ([(48 : UInt8), (49 : UInt8), (50 : UInt8), (51 : UInt8), (52 : UInt8), (53 : UInt8), (54 : UInt8), (55 : UInt8), (56 : UInt8), (57 : UInt8), (97 : UInt8), (98 : UInt8), (99 : UInt8), (100 : UInt8), (101 : UInt8), (102 : UInt8)]) (a0.getD a1.toNat (0 : UInt8))) fun r122 =>
      (some (r122.fst, ())))
     none)
    none)) := by kernel_rfl
theorem f71_eq (n : Nat) (a0 : UInt8) : f71 (n + 1) a0 =
  (sel (Decidable.decide ((↑a0.toNat : Int) ≥ (↑(UInt8.toNat (97 : UInt8)) : Int)))
   (p71_2050 (n) (n) (a0) (Decidable.decide ((↑a0.toNat : Int) ≤ (↑(UInt8.toNat (122 : UInt8)) : Int))))
   (p71_2050 (n) (n) (a0) (Bool.false))) := by kernel_rfl
theorem p71_2050_eq (j : Nat) (n0 : Nat) (v0 : UInt8) (v3 : Bool) : p71_2050 (j + 1) n0 v0 v3 =
  (sel (v3)
   (p71_2051 (n0) (n0) (v0) (v3))
   (sel (Decidable.decide ((↑v0.toNat : Int) ≥ (↑(UInt8.toNat (48 : UInt8)) : Int)))
    (p71_2051 (n0) (n0) (v0) (Decidable.decide ((↑v0.toNat : Int) ≤ (↑(UInt8.toNat (57 : UInt8)) : Int))))
    (p71_2051 (n0) (n0) (v0) (Bool.false)))) := by kernel_rfl
theorem p71_2051_eq (j : Nat) (n0 : Nat) (v0 : UInt8) (v3 : Bool) : p71_2051 (j + 1) n0 v0 v3 =
  (sel (v3)
   (some (Bool.true, ()))
   (sel ((↑v0.toNat : Int) == (↑(UInt8.toNat (46 : UInt8)) : Int))
    (p71_2055 (j) (n0) (j) ((↑v0.toNat : Int) == (↑(UInt8.toNat (46 : UInt8)) : Int)))
    (sel ((↑v0.toNat : Int) == (↑(UInt8.toNat (95 : UInt8)) : Int))
     (p71_2055 (j) (n0) (j) ((↑v0.toNat : Int) == (↑(UInt8.toNat (95 : UInt8)) : Int)))
     (p71_2055 (j) (n0) (j) ((↑v0.toNat : Int) == (↑(UInt8.toNat (45 : UInt8)) : Int)))))) := by kernel_rfl
theorem p71_2055_eq (j : Nat) (n0 : Nat) (n1 : Nat) (v16 : Bool) : p71_2055 (j + 1) n0 n1 v16 =
  (sel (v16)
   (some (Bool.true, ()))
   (p71_8 (n0) (n0))) := by kernel_rfl
theorem p71_8_eq (j : Nat) (n0 : Nat) : p71_8 (j + 1) n0 =
  (some (Bool.false, ())) := by kernel_rfl
end NqGQ

namespace NqGQ
open Go Lk NqG
noncomputable def theFnsU : Nq.FnsU where
  f37 := f37
  f83 := f83
  f13 := f13
  f11 := f11
  p11_5 := p11_5
  p11_6 := p11_6
  p11_17 := p11_17
  p11_2062 := p11_2062
  p11_15 := p11_15
  f16 := f16
  p16_2053 := p16_2053
  p16_6 := p16_6
  f18 := f18
  p18_2050 := p18_2050
  p18_3 := p18_3
  f35 := f35
  f36 := f36
  p36_2060 := p36_2060
  p36_2064 := p36_2064
  p36_17 := p36_17
  f38 := f38
  f47 := f47
  p47_2 := p47_2
  f64 := f64
  f65 := f65
  f71 := f71
  p71_2050 := p71_2050
  p71_2051 := p71_2051
  p71_2055 := p71_2055
  p71_8 := p71_8
  f37_eq := f37_eq
  f83_eq := f83_eq
  f13_eq := f13_eq
  f11_eq := f11_eq
  p11_5_eq := p11_5_eq
  p11_6_eq := p11_6_eq
  p11_17_eq := p11_17_eq
  p11_2062_eq := p11_2062_eq
  p11_15_eq := p11_15_eq
  f16_eq := f16_eq
  p16_2053_eq := p16_2053_eq
  p16_6_eq := p16_6_eq
  f18_eq := f18_eq
  p18_2050_eq := p18_2050_eq
  p18_3_eq := p18_3_eq
  f35_eq := f35_eq
  f36_eq := f36_eq
  p36_2060_eq := p36_2060_eq
  p36_2064_eq := p36_2064_eq
  p36_17_eq := p36_17_eq
  f38_eq := f38_eq
  f47_eq := f47_eq
  p47_2_eq := p47_2_eq
  f64_eq := f64_eq
  f65_eq := f65_eq
  f71_eq := f71_eq
  p71_2050_eq := p71_2050_eq
  p71_2051_eq := p71_2051_eq
  p71_2055_eq := p71_2055_eq
  p71_8_eq := p71_8_eq
end NqGQ

namespace NqGQ
open Go Lk NqG
set_option linter.unusedVariables false
/-- moraine/moraineref06.Unquote -/
@[irreducible] noncomputable def f12 (n : Nat) (a0 : List UInt8) : Option (List UInt8 × Int × Int × Unit) := F G n 12 (a0, ())
@[irreducible] noncomputable def p12_2050 (j : Nat) (n0 : Nat) (v0 : List UInt8) (v17 : Bool) : Option (List UInt8 × Int × Int × Unit) := piece G 12 [.r, .l, .r] j [n0] (skel 94 0 [(0, .av ⟨.s, .r, v0⟩), (17, .av ⟨.b, .r, v17⟩)])
@[irreducible] noncomputable def p12_3 (j : Nat) (n0 : Nat) (v0 : List UInt8) : Option (List UInt8 × Int × Int × Unit) := piece G 12 [.r, .r] j [n0] (skel 94 0 [(0, .av ⟨.s, .r, v0⟩)])
@[irreducible] noncomputable def p12_5 (j : Nat) (n0 : Nat) (n1 : Nat) (v0 : List UInt8) (v5 : List (UInt8)) (v6 : Int) : Option (List UInt8 × Int × Int × Unit) := piece G 12 [.r, .r, .r, .l, .r, .b] j [n0, n1] (skel 94 0 [(0, .av ⟨.s, .r, v0⟩), (5, .av ⟨(.l .by), (.o .r), v5⟩), (6, .av ⟨(.i .i64), .r, v6⟩)])
@[irreducible] noncomputable def p12_2068 (j : Nat) (n0 : Nat) (n1 : Nat) (n2 : Nat) (v0 : List UInt8) (v5 : List (UInt8)) (v6 : Int) (v10 : Int) (v79 : Bool) : Option (List UInt8 × Int × Int × Unit) := piece G 12 [.r, .r, .r, .l, .r, .b, .o, .r, .b, .r, .r, .r, .l, .r] j [n0, n1, n2] (skel 94 0 [(0, .av ⟨.s, .r, v0⟩), (5, .av ⟨(.l .by), (.o .r), v5⟩), (6, .av ⟨(.i .i64), .r, v6⟩), (10, .av ⟨(.i .i64), .r, v10⟩), (79, .av ⟨.b, .r, v79⟩)])
@[irreducible] noncomputable def p12_21 (j : Nat) (n0 : Nat) (n1 : Nat) (n2 : Nat) (v0 : List UInt8) (v5 : List (UInt8)) (v6 : Int) (v10 : Int) : Option (List UInt8 × Int × Int × Unit) := piece G 12 [.r, .r, .r, .l, .r, .b, .o, .r, .b, .r, .r, .r, .r] j [n0, n1, n2] (skel 94 0 [(0, .av ⟨.s, .r, v0⟩), (5, .av ⟨(.l .by), (.o .r), v5⟩), (6, .av ⟨(.i .i64), .r, v6⟩), (10, .av ⟨(.i .i64), .r, v10⟩)])
/-- moraine/moraineref06.Quote -/
@[irreducible] noncomputable def f14 (n : Nat) (a0 : List UInt8) : Option (List UInt8 × Unit) := F G n 14 (a0, ())
@[irreducible] noncomputable def p14_4 (j : Nat) (n0 : Nat) (v3 : List (UInt8)) (v4 : List (UInt8)) (v5 : Int) : Option (List UInt8 × Unit) := piece G 14 [.r, .r, .r, .l, .r, .b] j [n0] (skel 31 0 [(3, .av ⟨(.l .by), (.o .r), v3⟩), (4, .av ⟨(.l .by), (.o .r), v4⟩), (5, .av ⟨(.i .i64), .r, v5⟩)])
/-- moraine/morainelaw06.numbers -/
@[irreducible] noncomputable def f15 (n : Nat)  : Option (Bool × Unit) := F G n 15 (())
/-- moraine/moraineref06.Unword -/
@[irreducible] noncomputable def f17 (n : Nat) (a0 : List UInt8) : Option (List UInt8 × Int × Int × Unit) := F G n 17 (a0, ())
@[irreducible] noncomputable def p17_2050 (j : Nat) (n0 : Nat) (v0 : List UInt8) (v12 : Bool) : Option (List UInt8 × Int × Int × Unit) := piece G 17 [.r, .l, .r] j [n0] (skel 24 0 [(0, .av ⟨.s, .r, v0⟩), (12, .av ⟨.b, .r, v12⟩)])
@[irreducible] noncomputable def p17_3 (j : Nat) (n0 : Nat) (v0 : List UInt8) : Option (List UInt8 × Int × Int × Unit) := piece G 17 [.r, .r] j [n0] (skel 24 0 [(0, .av ⟨.s, .r, v0⟩)])
/-- moraine/moraineref06.Word -/
@[irreducible] noncomputable def f19 (n : Nat) (a0 : List UInt8) : Option (List UInt8 × Unit) := F G n 19 (a0, ())
/-- moraine/moraineref06.escape -/
@[irreducible] noncomputable def f39 (n : Nat) (a0 : List UInt8) (a1 : Int) : Option (UInt8 × Int × Unit) := F G n 39 (a0, a1, ())
@[irreducible] noncomputable def p39_2060 (j : Nat) (n0 : Nat) (v0 : List UInt8) (v1 : Int) (v14 : UInt8) (v21 : Bool) : Option (UInt8 × Int × Unit) := piece G 39 [.r, .r, .l, .r, .b, .r, .f, .r, .f, .r, .f, .r] j [n0] (skel 64 0 [(0, .av ⟨.s, .r, v0⟩), (1, .av ⟨(.i .i64), .r, v1⟩), (14, .av ⟨.by, .r, v14⟩), (21, .av ⟨.b, .r, v21⟩)])
@[irreducible] noncomputable def p39_2063 (j : Nat) (n0 : Nat) (n1 : Nat) (v0 : List UInt8) (v1 : Int) (v50 : Bool) : Option (UInt8 × Int × Unit) := piece G 39 [.r, .r, .l, .r, .b, .r, .f, .r, .f, .r, .f, .r, .f, .r, .t, .r] j [n0, n1] (skel 64 0 [(0, .av ⟨.s, .r, v0⟩), (1, .av ⟨(.i .i64), .r, v1⟩), (50, .av ⟨.b, .r, v50⟩)])
@[irreducible] noncomputable def p39_16 (j : Nat) (n0 : Nat) : Option (UInt8 × Int × Unit) := piece G 39 [.r, .r, .r] j [n0] (skel 64 0 [])
/-- moraine/moraineref06.Rune -/
@[irreducible] noncomputable def f40 (n : Nat) (a0 : List (UInt8)) (a1 : Int) : Option (Int × Int × Unit) := F G n 40 (a0, a1, ())
@[irreducible] noncomputable def p40_2054 (j : Nat) (n0 : Nat) (v0 : List (UInt8)) (v1 : Int) (v6 : Int) (v7 : Int) (v8 : Int) (v9 : Int) (v20 : Bool) : Option (Int × Int × Unit) := piece G 40 [.r, .r, .r, .l, .b, .r, .f, .r] j [n0] (skel 98 0 [(0, .av ⟨(.l .by), .b, v0⟩), (1, .av ⟨(.i .i64), .r, v1⟩), (6, .av ⟨(.i .u32), .r, v6⟩), (7, .av ⟨(.i .i64), .r, v7⟩), (8, .av ⟨(.i .u32), .r, v8⟩), (9, .av ⟨(.i .u32), .r, v9⟩), (20, .av ⟨.b, .r, v20⟩)])
@[irreducible] noncomputable def p40_11 (j : Nat) (n0 : Nat) (v0 : List (UInt8)) (v1 : Int) (v7 : Int) (v8 : Int) (v9 : Int) : Option (Int × Int × Unit) := piece G 40 [.r, .r, .r, .r] j [n0] (skel 98 0 [(0, .av ⟨(.l .by), .b, v0⟩), (1, .av ⟨(.i .i64), .r, v1⟩), (7, .av ⟨(.i .i64), .r, v7⟩), (8, .av ⟨(.i .u32), .r, v8⟩), (9, .av ⟨(.i .u32), .r, v9⟩)])
@[irreducible] noncomputable def p40_2056 (j : Nat) (n0 : Nat) (n1 : Nat) (v0 : List (UInt8)) (v1 : Int) (v6 : Int) (v7 : Int) (v8 : Int) (v9 : Int) (v29 : Bool) : Option (Int × Int × Unit) := piece G 40 [.r, .r, .r, .l, .b, .r, .f, .r, .f, .r] j [n0, n1] (skel 98 0 [(0, .av ⟨(.l .by), .b, v0⟩), (1, .av ⟨(.i .i64), .r, v1⟩), (6, .av ⟨(.i .u32), .r, v6⟩), (7, .av ⟨(.i .i64), .r, v7⟩), (8, .av ⟨(.i .u32), .r, v8⟩), (9, .av ⟨(.i .u32), .r, v9⟩), (29, .av ⟨.b, .r, v29⟩)])
@[irreducible] noncomputable def p40_2060 (j : Nat) (n0 : Nat) (n1 : Nat) (v0 : List (UInt8)) (v1 : Int) (v7 : Int) (v8 : Int) (v9 : Int) (v56 : Bool) : Option (Int × Int × Unit) := piece G 40 [.r, .r, .r, .r, .l, .r] j [n0, n1] (skel 98 0 [(0, .av ⟨(.l .by), .b, v0⟩), (1, .av ⟨(.i .i64), .r, v1⟩), (7, .av ⟨(.i .i64), .r, v7⟩), (8, .av ⟨(.i .u32), .r, v8⟩), (9, .av ⟨(.i .u32), .r, v9⟩), (56, .av ⟨.b, .r, v56⟩)])
@[irreducible] noncomputable def p40_2058 (j : Nat) (n0 : Nat) (n1 : Nat) (n2 : Nat) (v0 : List (UInt8)) (v1 : Int) (v6 : Int) (v7 : Int) (v8 : Int) (v9 : Int) (v38 : Bool) : Option (Int × Int × Unit) := piece G 40 [.r, .r, .r, .l, .b, .r, .f, .r, .f, .r, .f, .r] j [n0, n1, n2] (skel 98 0 [(0, .av ⟨(.l .by), .b, v0⟩), (1, .av ⟨(.i .i64), .r, v1⟩), (6, .av ⟨(.i .u32), .r, v6⟩), (7, .av ⟨(.i .i64), .r, v7⟩), (8, .av ⟨(.i .u32), .r, v8⟩), (9, .av ⟨(.i .u32), .r, v9⟩), (38, .av ⟨.b, .r, v38⟩)])
@[irreducible] noncomputable def p40_13 (j : Nat) (n0 : Nat) (n1 : Nat) (v0 : List (UInt8)) (v1 : Int) (v7 : Int) (v8 : Int) (v9 : Int) : Option (Int × Int × Unit) := piece G 40 [.r, .r, .r, .r, .r] j [n0, n1] (skel 98 0 [(0, .av ⟨(.l .by), .b, v0⟩), (1, .av ⟨(.i .i64), .r, v1⟩), (7, .av ⟨(.i .i64), .r, v7⟩), (8, .av ⟨(.i .u32), .r, v8⟩), (9, .av ⟨(.i .u32), .r, v9⟩)])
@[irreducible] noncomputable def p40_14 (j : Nat) (n0 : Nat) (n1 : Nat) (n2 : Nat) (v0 : List (UInt8)) (v1 : Int) (v7 : Int) (v8 : Int) (v9 : Int) (v10 : Int) : Option (Int × Int × Unit) := piece G 40 [.r, .r, .r, .r, .r, .l, .r, .b] j [n0, n1, n2] (skel 98 0 [(0, .av ⟨(.l .by), .b, v0⟩), (1, .av ⟨(.i .i64), .r, v1⟩), (7, .av ⟨(.i .i64), .r, v7⟩), (8, .av ⟨(.i .u32), .r, v8⟩), (9, .av ⟨(.i .u32), .r, v9⟩), (10, .av ⟨(.i .i64), .r, v10⟩)])
@[irreducible] noncomputable def p40_2068 (j : Nat) (n0 : Nat) (n1 : Nat) (n2 : Nat) (v7 : Int) (v8 : Int) (v95 : Bool) : Option (Int × Int × Unit) := piece G 40 [.r, .r, .r, .r, .r, .r, .l, .r] j [n0, n1, n2] (skel 98 0 [(7, .av ⟨(.i .i64), .r, v7⟩), (8, .av ⟨(.i .u32), .r, v8⟩), (95, .av ⟨.b, .r, v95⟩)])
@[irreducible] noncomputable def p40_21 (j : Nat) (n0 : Nat) (n1 : Nat) (n2 : Nat) (v7 : Int) (v8 : Int) : Option (Int × Int × Unit) := piece G 40 [.r, .r, .r, .r, .r, .r, .r] j [n0, n1, n2] (skel 98 0 [(7, .av ⟨(.i .i64), .r, v7⟩), (8, .av ⟨(.i .u32), .r, v8⟩)])
/-- moraine/moraineref06.plain -/
@[irreducible] noncomputable def f41 (n : Nat) (a0 : Int) : Option (Bool × Unit) := F G n 41 (a0, ())
/-- moraine/moraineref06.piece -/
@[irreducible] noncomputable def f46 (n : Nat) (a0 : List (UInt8)) (a1 : Int) : Option (List UInt8 × Int × Unit) := F G n 46 (a0, a1, ())
@[irreducible] noncomputable def p46_2061 (j : Nat) (n0 : Nat) (v0 : List (UInt8)) (v1 : Int) (v7 : Int) (v44 : Bool) : Option (List UInt8 × Int × Unit) := piece G 46 [.r, .r, .l, .b, .r, .f, .r, .f, .r, .f, .r, .f, .r, .f, .r] j [n0] (skel 74 0 [(0, .av ⟨(.l .by), .b, v0⟩), (1, .av ⟨(.i .i64), .r, v1⟩), (7, .av ⟨(.i .i64), .r, v7⟩), (44, .av ⟨.b, .r, v44⟩)])
@[irreducible] noncomputable def p46_14 (j : Nat) (n0 : Nat) (v0 : List (UInt8)) (v1 : Int) (v7 : Int) : Option (List UInt8 × Int × Unit) := piece G 46 [.r, .r, .r] j [n0] (skel 74 0 [(0, .av ⟨(.l .by), .b, v0⟩), (1, .av ⟨(.i .i64), .r, v1⟩), (7, .av ⟨(.i .i64), .r, v7⟩)])
@[irreducible] noncomputable def p46_16 (j : Nat) (n0 : Nat) (n1 : Nat) (v0 : List (UInt8)) (v1 : Int) (v7 : Int) (v8 : List UInt8) (v9 : Int) : Option (List UInt8 × Int × Unit) := piece G 46 [.r, .r, .r, .r, .l, .r, .b] j [n0, n1] (skel 74 0 [(0, .av ⟨(.l .by), .b, v0⟩), (1, .av ⟨(.i .i64), .r, v1⟩), (7, .av ⟨(.i .i64), .r, v7⟩), (8, .av ⟨.s, .r, v8⟩), (9, .av ⟨(.i .i64), .r, v9⟩)])
/-- moraine/moraineref06.bare -/
@[irreducible] noncomputable def f48 (n : Nat) (a0 : List UInt8) : Option (Int × Unit) := F G n 48 (a0, ())
@[irreducible] noncomputable def p48_2 (j : Nat) (n0 : Nat) (v0 : List UInt8) (v3 : Int) : Option (Int × Unit) := piece G 48 [.r, .l, .r, .b] j [n0] (skel 44 0 [(0, .av ⟨.s, .r, v0⟩), (3, .av ⟨(.i .i64), .r, v3⟩)])
@[irreducible] noncomputable def p48_2054 (j : Nat) (n0 : Nat) (n1 : Nat) (v0 : List UInt8) (v3 : Int) (v39 : Bool) : Option (Int × Unit) := piece G 48 [.r, .l, .r, .b, .o, .r, .l, .b, .r, .r] j [n0, n1] (skel 44 0 [(0, .av ⟨.s, .r, v0⟩), (3, .av ⟨(.i .i64), .r, v3⟩), (39, .av ⟨.b, .r, v39⟩)])
@[irreducible] noncomputable def p48_3 (j : Nat) (n0 : Nat) (n1 : Nat) (v0 : List UInt8) (v3 : Int) : Option (Int × Unit) := piece G 48 [.r, .l, .r, .b, .o, .r, .r] j [n0, n1] (skel 44 0 [(0, .av ⟨.s, .r, v0⟩), (3, .av ⟨(.i .i64), .r, v3⟩)])
/-- moraine/moraineref06.digit -/
@[irreducible] noncomputable def f67 (n : Nat) (a0 : UInt8) : Option (Int × Unit) := F G n 67 (a0, ())
@[irreducible] noncomputable def p67_2050 (j : Nat) (n0 : Nat) (v0 : UInt8) (v3 : Bool) : Option (Int × Unit) := piece G 67 [.r, .l, .b, .r] j [n0] (skel 24 0 [(0, .av ⟨.by, .r, v0⟩), (3, .av ⟨.b, .r, v3⟩)])
@[irreducible] noncomputable def p67_2052 (j : Nat) (n0 : Nat) (n1 : Nat) (v0 : UInt8) (v13 : Bool) : Option (Int × Unit) := piece G 67 [.r, .l, .b, .r, .f, .r] j [n0, n1] (skel 24 0 [(0, .av ⟨.by, .r, v0⟩), (13, .av ⟨.b, .r, v13⟩)])
@[irreducible] noncomputable def p67_5 (j : Nat) (n0 : Nat) : Option (Int × Unit) := piece G 67 [.r, .r] j [n0] (skel 24 0 [])
/-- moraine/moraineref06.hex -/
@[irreducible] noncomputable def f70 (n : Nat) (a0 : UInt8) : Option (List UInt8 × Unit) := F G n 70 (a0, ())
/-- moraine/morainelaw06.NamesQuotes -/
@[irreducible] noncomputable def f3 (n : Nat) (a0 : List UInt8) (a1 : List UInt8) : Option (Bool × Unit) := F G n 3 (a0, a1, ())
/-- moraine/morainelaw06.NamesWords -/
@[irreducible] noncomputable def f4 (n : Nat) (a0 : List UInt8) (a1 : List UInt8) : Option (Bool × Unit) := F G n 4 (a0, a1, ())
theorem f12_eq (n : Nat) (a0 : List UInt8) : f12 (n + 1) a0 =
  (sel (a0 == [])
   (p12_2050 (n) (n) (a0) (Bool.true))
   (sel (Decidable.decide ((0 : Int) ≤ (0 : Int)))
    (sel (Decidable.decide ((0 : Int) < (↑a0.length : Int)))
     (p12_2050 (n) (n) (a0) ((↑(a0.getD (Int.toNat (0 : Int)) (0 : UInt8)).toNat : Int) != (↑(UInt8.toNat (34 : UInt8)) : Int)))
     none)
    none)) := by kernel_rfl
theorem p12_2050_eq (j : Nat) (n0 : Nat) (v0 : List UInt8) (v17 : Bool) : p12_2050 (j + 1) n0 v0 v17 =
  (sel (v17)
   (some ([], (0 : Int), (61 : Int), ()))
   (p12_3 (n0) (n0) (v0))) := by kernel_rfl
theorem p12_3_eq (j : Nat) (n0 : Nat) (v0 : List UInt8) : p12_3 (j + 1) n0 v0 =
  (p12_5 (j) (n0) (j) (v0) ([]) ((1 : Int))) := by kernel_rfl
theorem p12_5_eq (j : Nat) (n0 : Nat) (n1 : Nat) (v0 : List UInt8) (v5 : List (UInt8)) (v6 : Int) : p12_5 (j + 1) n0 n1 v0 v5 v6 =
  (sel (Decidable.decide (v6 < (↑v0.length : Int)))
   (sel (Decidable.decide ((0 : Int) ≤ v6))
    (sel (Decidable.decide (v6 < (↑v0.length : Int)))
     (sel ((↑(v0.getD v6.toNat (0 : UInt8)).toNat : Int) == (↑(UInt8.toNat (34 : UInt8)) : Int))
      (sel (Decidable.decide (Go.IntKind.i64.wrap (v6 + (1 : Int)) < (↑v0.length : Int)))
       (some ([], Go.IntKind.i64.wrap (v6 + (1 : Int)), (61 : Int), ()))
       (obind (f14 j (v5)) fun r458 =>
        (sel (!r458.fst == v0)
         (some ([], (0 : Int), (61 : Int), ()))
         (some (v5, (0 : Int), (0 : Int), ())))))
      (sel (Decidable.decide ((0 : Int) ≤ v6))
       (sel (Decidable.decide (v6 < (↑v0.length : Int)))
        (sel ((↑(v0.getD v6.toNat (0 : UInt8)).toNat : Int) == (↑(UInt8.toNat (92 : UInt8)) : Int))
         (obind (f39 j (v0) (v6)) fun r667 =>
          (sel (r667.snd.fst == (0 : Int))
           (some ([], v6, (61 : Int), ()))
           (sel (Decidable.decide (v5.length + [r667.fst].length ≤ (1073741824 : Nat)))
            (p12_5 (j) (n0) (n1) (v0) (v5 ++ [r667.fst]) (Go.IntKind.i64.wrap (v6 + r667.snd.fst)))
            none)))
         (sel (Decidable.decide ((0 : Int) ≤ Lk.imin (Go.IntKind.i64.wrap (v6 + (4 : Int))) (↑v0.length : Int)))
          (sel (Decidable.decide (Lk.imin (Go.IntKind.i64.wrap (v6 + (4 : Int))) (↑v0.length : Int) ≤ (↑v0.length : Int)))
           (sel (Decidable.decide ((0 : Int) ≤ v6))
            (sel (Decidable.decide (v6 ≤ Lk.imin (Go.IntKind.i64.wrap (v6 + (4 : Int))) (↑v0.length : Int)))
             (obind (f40 j (Lk.ext v0 v6 (Lk.imin (Go.IntKind.i64.wrap (v6 + (4 : Int))) (↑v0.length : Int))) ((0 : Int))) fun r959 =>
              (sel (r959.snd.fst == (0 : Int))
               (p12_2068 (j) (n0) (n1) (j) (v0) (v5) (v6) (r959.snd.fst) (Bool.true))
               (obind (f41 j (r959.fst)) fun r1083 =>
                (p12_2068 (j) (n0) (n1) (j) (v0) (v5) (v6) (r959.snd.fst) (!r1083.fst)))))
             none)
            none)
           none)
          none))
        none)
       none))
     none)
    none)
   (some ([], (↑v0.length : Int), (61 : Int), ()))) := by kernel_rfl
theorem p12_2068_eq (j : Nat) (n0 : Nat) (n1 : Nat) (n2 : Nat) (v0 : List UInt8) (v5 : List (UInt8)) (v6 : Int) (v10 : Int) (v79 : Bool) : p12_2068 (j + 1) n0 n1 n2 v0 v5 v6 v10 v79 =
  (sel (v79)
   (some ([], v6, (61 : Int), ()))
   (p12_21 (n2) (n0) (n1) (n2) (v0) (v5) (v6) (v10))) := by kernel_rfl
theorem p12_21_eq (j : Nat) (n0 : Nat) (n1 : Nat) (n2 : Nat) (v0 : List UInt8) (v5 : List (UInt8)) (v6 : Int) (v10 : Int) : p12_21 (j + 1) n0 n1 n2 v0 v5 v6 v10 =
  (sel (Decidable.decide ((0 : Int) ≤ Go.IntKind.i64.wrap (v6 + v10)))
   (sel (Decidable.decide (Go.IntKind.i64.wrap (v6 + v10) ≤ (↑v0.length : Int)))
    (sel (Decidable.decide ((0 : Int) ≤ v6))
     (sel (Decidable.decide (v6 ≤ Go.IntKind.i64.wrap (v6 + v10)))
      (sel (Decidable.decide (v5.length + (Lk.ext v0 v6 (Go.IntKind.i64.wrap (v6 + v10))).length ≤ (1073741824 : Nat)))
       (p12_5 (n2) (n0) (n1) (v0) (v5 ++ Lk.ext v0 v6 (Go.IntKind.i64.wrap (v6 + v10))) (Go.IntKind.i64.wrap (v6 + v10)))
       none)
      none)
     none)
    none)
   none) := by kernel_rfl
theorem f14_eq (n : Nat) (a0 : List UInt8) : f14 (n + 1) a0 =
  (p14_4 (n) (n) (a0) ([(34 : UInt8)]) ((0 : Int))) := by kernel_rfl
theorem p14_4_eq (j : Nat) (n0 : Nat) (v3 : List (UInt8)) (v4 : List (UInt8)) (v5 : Int) : p14_4 (j + 1) n0 v3 v4 v5 =
  (sel (Decidable.decide (v5 < (↑v3.length : Int)))
   (obind (f46 j (v3) (v5)) fun r159 =>
    (sel (Decidable.decide (v4.length + List.length r159.fst ≤ (1073741824 : Nat)))
     (p14_4 (j) (n0) (v3) (v4 ++ r159.fst) (Go.IntKind.i64.wrap (v5 + r159.snd.fst)))
     none))
   (sel (Decidable.decide (v4.length + [(34 : UInt8)].length ≤ (1073741824 : Nat)))
    (some (v4 ++ [(34 : UInt8)], ()))
    none)) := by kernel_rfl
theorem f15_eq (n : Nat)  : f15 (n + 1)  =
  (some (Bool.true, ())) := by kernel_rfl
theorem f17_eq (n : Nat) (a0 : List UInt8) : f17 (n + 1) a0 =
  (sel (!a0 == [])
   (sel (Decidable.decide ((0 : Int) ≤ (0 : Int)))
    (sel (Decidable.decide ((0 : Int) < (↑a0.length : Int)))
     (p17_2050 (n) (n) (a0) ((↑(a0.getD (Int.toNat (0 : Int)) (0 : UInt8)).toNat : Int) == (↑(UInt8.toNat (34 : UInt8)) : Int)))
     none)
    none)
   (p17_2050 (n) (n) (a0) (Bool.false))) := by kernel_rfl
theorem p17_2050_eq (j : Nat) (n0 : Nat) (v0 : List UInt8) (v12 : Bool) : p17_2050 (j + 1) n0 v0 v12 =
  (sel (v12)
   (obind (f12 j (v0)) fun r166 =>
    (some (r166.fst, r166.snd.fst, r166.snd.snd.fst, ())))
   (p17_3 (n0) (n0) (v0))) := by kernel_rfl
theorem p17_3_eq (j : Nat) (n0 : Nat) (v0 : List UInt8) : p17_3 (j + 1) n0 v0 =
  (obind (f48 j (v0)) fun r250 =>
   (sel (Decidable.decide (r250.fst ≥ (0 : Int)))
    (some ([], r250.fst, (61 : Int), ()))
    (some (v0, (0 : Int), (0 : Int), ())))) := by kernel_rfl
theorem f19_eq (n : Nat) (a0 : List UInt8) : f19 (n + 1) a0 =
  (obind (f48 n (a0)) fun r38 =>
   (sel (Decidable.decide (r38.fst < (0 : Int)))
    (some (a0, ()))
    (obind (f14 n (a0)) fun r109 =>
     (some (r109.fst, ()))))) := by kernel_rfl
theorem f39_eq (n : Nat) (a0 : List UInt8) (a1 : Int) : f39 (n + 1) a0 a1 =
  (sel (Decidable.decide (Go.IntKind.i64.wrap (a1 + (1 : Int)) ≥ (↑a0.length : Int)))
   (some ((0 : UInt8), (0 : Int), ()))
   (sel (Decidable.decide ((0 : Int) ≤ Go.IntKind.i64.wrap (a1 + (1 : Int))))
    (sel (Decidable.decide (Go.IntKind.i64.wrap (a1 + (1 : Int)) < (↑a0.length : Int)))
     (sel ((↑(a0.getD (Go.IntKind.i64.wrap (a1 + (1 : Int))).toNat (0 : UInt8)).toNat : Int) == (↑(UInt8.toNat (110 : UInt8)) : Int))
      (some ((10 : UInt8), (2 : Int), ()))
      (sel ((↑(a0.getD (Go.IntKind.i64.wrap (a1 + (1 : Int))).toNat (0 : UInt8)).toNat : Int) == (↑(UInt8.toNat (116 : UInt8)) : Int))
       (some ((9 : UInt8), (2 : Int), ()))
       (sel ((↑(a0.getD (Go.IntKind.i64.wrap (a1 + (1 : Int))).toNat (0 : UInt8)).toNat : Int) == (↑(UInt8.toNat (115 : UInt8)) : Int))
        (some ((32 : UInt8), (2 : Int), ()))
        (sel ((↑(a0.getD (Go.IntKind.i64.wrap (a1 + (1 : Int))).toNat (0 : UInt8)).toNat : Int) == (↑(UInt8.toNat (34 : UInt8)) : Int))
         (p39_2060 (n) (n) (a0) (a1) (a0.getD (Go.IntKind.i64.wrap (a1 + (1 : Int))).toNat (0 : UInt8)) ((↑(a0.getD (Go.IntKind.i64.wrap (a1 + (1 : Int))).toNat (0 : UInt8)).toNat : Int) == (↑(UInt8.toNat (34 : UInt8)) : Int)))
         (p39_2060 (n) (n) (a0) (a1) (a0.getD (Go.IntKind.i64.wrap (a1 + (1 : Int))).toNat (0 : UInt8)) ((↑(a0.getD (Go.IntKind.i64.wrap (a1 + (1 : Int))).toNat (0 : UInt8)).toNat : Int) == (↑(UInt8.toNat (92 : UInt8)) : Int)))))))
     none)
    none)) := by kernel_rfl
theorem p39_2060_eq (j : Nat) (n0 : Nat) (v0 : List UInt8) (v1 : Int) (v14 : UInt8) (v21 : Bool) : p39_2060 (j + 1) n0 v0 v1 v14 v21 =
  (sel (v21)
   (sel (Decidable.decide ((0 : Int) ≤ Go.IntKind.i64.wrap (v1 + (1 : Int))))
    (sel (Decidable.decide (Go.IntKind.i64.wrap (v1 + (1 : Int)) < (↑v0.length : Int)))
     (some (v0.getD (Go.IntKind.i64.wrap (v1 + (1 : Int))).toNat (0 : UInt8), (2 : Int), ()))
     none)
    none)
   (sel ((↑v14.toNat : Int) == (↑(UInt8.toNat (120 : UInt8)) : Int))
    (sel (Decidable.decide (Go.IntKind.i64.wrap (v1 + (3 : Int)) < (↑v0.length : Int)))
     (sel (Decidable.decide ((0 : Int) ≤ Go.IntKind.i64.wrap (v1 + (2 : Int))))
      (sel (Decidable.decide (Go.IntKind.i64.wrap (v1 + (2 : Int)) < (↑v0.length : Int)))
       (obind (f67 j (v0.getD (Go.IntKind.i64.wrap (v1 + (2 : Int))).toNat (0 : UInt8))) fun r589 =>
        (sel (Decidable.decide (r589.fst < (16 : Int)))
         (sel (Decidable.decide ((0 : Int) ≤ Go.IntKind.i64.wrap (v1 + (3 : Int))))
          (sel (Decidable.decide (Go.IntKind.i64.wrap (v1 + (3 : Int)) < (↑v0.length : Int)))
           (obind (f67 j (v0.getD (Go.IntKind.i64.wrap (v1 + (3 : Int))).toNat (0 : UInt8))) fun r682 =>
            (p39_2063 (j) (n0) (j) (v0) (v1) (Decidable.decide (r682.fst < (16 : Int)))))
           none)
          none)
         (p39_2063 (j) (n0) (j) (v0) (v1) (Bool.false))))
       none)
      none)
     (p39_2063 (j) (n0) (j) (v0) (v1) (Bool.false)))
    (p39_16 (n0) (n0)))) := by kernel_rfl
theorem p39_2063_eq (j : Nat) (n0 : Nat) (n1 : Nat) (v0 : List UInt8) (v1 : Int) (v50 : Bool) : p39_2063 (j + 1) n0 n1 v0 v1 v50 =
  (sel (v50)
   (sel (Decidable.decide ((0 : Int) ≤ Go.IntKind.i64.wrap (v1 + (2 : Int))))
    (sel (Decidable.decide (Go.IntKind.i64.wrap (v1 + (2 : Int)) < (↑v0.length : Int)))
     (obind (f67 j (v0.getD (Go.IntKind.i64.wrap (v1 + (2 : Int))).toNat (0 : UInt8))) fun r965 =>
      (sel (Decidable.decide ((0 : Int) ≤ Go.IntKind.i64.wrap (v1 + (3 : Int))))
       (sel (Decidable.decide (Go.IntKind.i64.wrap (v1 + (3 : Int)) < (↑v0.length : Int)))
        (obind (f67 j (v0.getD (Go.IntKind.i64.wrap (v1 + (3 : Int))).toNat (0 : UInt8))) fun r1015 =>
         (some (UInt8.ofNat (Go.IntKind.u8.wrap (Go.IntKind.i64.wrap (Go.IntKind.i64.wrap (r965.fst * (16 : Int)) + r1015.fst))).toNat, (4 : Int), ())))
        none)
       none))
     none)
    none)
   (p39_16 (n0) (n0))) := by kernel_rfl
theorem p39_16_eq (j : Nat) (n0 : Nat) : p39_16 (j + 1) n0 =
  (some ((0 : UInt8), (0 : Int), ())) := by kernel_rfl
theorem f40_eq (n : Nat) (a0 : List (UInt8)) (a1 : Int) : f40 (n + 1) a0 a1 =
  (sel (Decidable.decide ((0 : Int) ≤ a1))
   (sel (Decidable.decide (a1 < (↑a0.length : Int)))
    (sel (Decidable.decide (Go.IntKind.u32.wrap (↑(UInt8.toNat (a0.getD a1.toNat (0 : UInt8))) : Int) < (128 : Int)))
     (some (Go.IntKind.u32.wrap (↑(UInt8.toNat (a0.getD a1.toNat (0 : UInt8))) : Int), (1 : Int), ()))
     (sel (Decidable.decide (Go.IntKind.u32.wrap (↑(UInt8.toNat (a0.getD a1.toNat (0 : UInt8))) : Int) ≥ (192 : Int)))
      (p40_2054 (n) (n) (a0) (a1) (Go.IntKind.u32.wrap (↑(UInt8.toNat (a0.getD a1.toNat (0 : UInt8))) : Int)) ((0 : Int)) ((0 : Int)) ((0 : Int)) (Decidable.decide (Go.IntKind.u32.wrap (↑(UInt8.toNat (a0.getD a1.toNat (0 : UInt8))) : Int) < (224 : Int))))
      (p40_2054 (n) (n) (a0) (a1) (Go.IntKind.u32.wrap (↑(UInt8.toNat (a0.getD a1.toNat (0 : UInt8))) : Int)) ((0 : Int)) ((0 : Int)) ((0 : Int)) (Bool.false))))
    none)
   none) := by kernel_rfl
theorem p40_2054_eq (j : Nat) (n0 : Nat) (v0 : List (UInt8)) (v1 : Int) (v6 : Int) (v7 : Int) (v8 : Int) (v9 : Int) (v20 : Bool) : p40_2054 (j + 1) n0 v0 v1 v6 v7 v8 v9 v20 =
  (sel (v20)
   (p40_11 (n0) (n0) (v0) (v1) ((2 : Int)) (Lk.ibits Go.BinOp.and Go.IntKind.u32 v6 (31 : Int)) ((128 : Int)))
   (sel (Decidable.decide (v6 ≥ (224 : Int)))
    (p40_2056 (j) (n0) (j) (v0) (v1) (v6) (v7) (v8) (v9) (Decidable.decide (v6 < (240 : Int))))
    (p40_2056 (j) (n0) (j) (v0) (v1) (v6) (v7) (v8) (v9) (Bool.false)))) := by kernel_rfl
theorem p40_11_eq (j : Nat) (n0 : Nat) (v0 : List (UInt8)) (v1 : Int) (v7 : Int) (v8 : Int) (v9 : Int) : p40_11 (j + 1) n0 v0 v1 v7 v8 v9 =
  (sel (v7 == (0 : Int))
   (p40_2060 (j) (n0) (j) (v0) (v1) (v7) (v8) (v9) (Bool.true))
   (p40_2060 (j) (n0) (j) (v0) (v1) (v7) (v8) (v9) (Decidable.decide (Go.IntKind.i64.wrap ((↑v0.length : Int) - v1) < v7)))) := by kernel_rfl
theorem p40_2056_eq (j : Nat) (n0 : Nat) (n1 : Nat) (v0 : List (UInt8)) (v1 : Int) (v6 : Int) (v7 : Int) (v8 : Int) (v9 : Int) (v29 : Bool) : p40_2056 (j + 1) n0 n1 v0 v1 v6 v7 v8 v9 v29 =
  (sel (v29)
   (p40_11 (n0) (n0) (v0) (v1) ((3 : Int)) (Lk.ibits Go.BinOp.and Go.IntKind.u32 v6 (15 : Int)) ((2048 : Int)))
   (sel (Decidable.decide (v6 ≥ (240 : Int)))
    (p40_2058 (j) (n0) (n1) (j) (v0) (v1) (v6) (v7) (v8) (v9) (Decidable.decide (v6 < (248 : Int))))
    (p40_2058 (j) (n0) (n1) (j) (v0) (v1) (v6) (v7) (v8) (v9) (Bool.false)))) := by kernel_rfl
theorem p40_2060_eq (j : Nat) (n0 : Nat) (n1 : Nat) (v0 : List (UInt8)) (v1 : Int) (v7 : Int) (v8 : Int) (v9 : Int) (v56 : Bool) : p40_2060 (j + 1) n0 n1 v0 v1 v7 v8 v9 v56 =
  (sel (v56)
   (some ((0 : Int), (0 : Int), ()))
   (p40_13 (n1) (n0) (n1) (v0) (v1) (v7) (v8) (v9))) := by kernel_rfl
theorem p40_2058_eq (j : Nat) (n0 : Nat) (n1 : Nat) (n2 : Nat) (v0 : List (UInt8)) (v1 : Int) (v6 : Int) (v7 : Int) (v8 : Int) (v9 : Int) (v38 : Bool) : p40_2058 (j + 1) n0 n1 n2 v0 v1 v6 v7 v8 v9 v38 =
  (sel (v38)
   (p40_11 (n0) (n0) (v0) (v1) ((4 : Int)) (Lk.ibits Go.BinOp.and Go.IntKind.u32 v6 (7 : Int)) ((65536 : Int)))
   (p40_11 (n0) (n0) (v0) (v1) (v7) (v8) (v9))) := by kernel_rfl
theorem p40_13_eq (j : Nat) (n0 : Nat) (n1 : Nat) (v0 : List (UInt8)) (v1 : Int) (v7 : Int) (v8 : Int) (v9 : Int) : p40_13 (j + 1) n0 n1 v0 v1 v7 v8 v9 =
  (p40_14 (j) (n0) (n1) (j) (v0) (v1) (v7) (v8) (v9) ((1 : Int))) := by kernel_rfl
theorem p40_14_eq (j : Nat) (n0 : Nat) (n1 : Nat) (n2 : Nat) (v0 : List (UInt8)) (v1 : Int) (v7 : Int) (v8 : Int) (v9 : Int) (v10 : Int) : p40_14 (j + 1) n0 n1 n2 v0 v1 v7 v8 v9 v10 =
  (sel (Decidable.decide (v10 < v7))
   (sel (Decidable.decide ((0 : Int) ≤ Go.IntKind.i64.wrap (v1 + v10)))
    (sel (Decidable.decide (Go.IntKind.i64.wrap (v1 + v10) < (↑v0.length : Int)))
     (sel ((↑(UInt8.ofNat (Lk.ibits Go.BinOp.and Go.IntKind.u8 (↑(UInt8.toNat (v0.getD (Go.IntKind.i64.wrap (v1 + v10)).toNat (0 : UInt8))) : Int) (↑(UInt8.toNat (192 : UInt8)) : Int)).toNat).toNat : Int) != (↑(UInt8.toNat (128 : UInt8)) : Int))
      (some ((0 : Int), (0 : Int), ()))
      (sel (Decidable.decide ((0 : Int) ≤ (6 : Int)))
       (sel (Decidable.decide ((0 : Int) ≤ Go.IntKind.i64.wrap (v1 + v10)))
        (sel (Decidable.decide (Go.IntKind.i64.wrap (v1 + v10) < (↑v0.length : Int)))
         (p40_14 (j) (n0) (n1) (n2) (v0) (v1) (v7) (Lk.ibits Go.BinOp.or Go.IntKind.u32 (Go.IntKind.u32.wrap (v8 * (2 : Int) ^ Min.min (Int.toNat (6 : Int)) Go.IntKind.u32.bits)) (Go.IntKind.u32.wrap (↑(UInt8.ofNat (Lk.ibits Go.BinOp.and Go.IntKind.u8 (↑(UInt8.toNat (v0.getD (Go.IntKind.i64.wrap (v1 + v10)).toNat (0 : UInt8))) : Int) (↑(UInt8.toNat (63 : UInt8)) : Int)).toNat).toNat : Int))) (v9) (Go.IntKind.i64.wrap (v10 + (1 : Int))))
         none)
        none)
       none))
     none)
    none)
   (sel (Decidable.decide (v8 < v9))
    (p40_2068 (n2) (n0) (n1) (n2) (v7) (v8) (Bool.true))
    (sel (Decidable.decide (v8 > (1114111 : Int)))
     (p40_2068 (n2) (n0) (n1) (n2) (v7) (v8) (Bool.true))
     (sel (Decidable.decide (v8 ≥ (55296 : Int)))
      (p40_2068 (n2) (n0) (n1) (n2) (v7) (v8) (Decidable.decide (v8 ≤ (57343 : Int))))
      (p40_2068 (n2) (n0) (n1) (n2) (v7) (v8) (Bool.false)))))) := by kernel_rfl
theorem p40_2068_eq (j : Nat) (n0 : Nat) (n1 : Nat) (n2 : Nat) (v7 : Int) (v8 : Int) (v95 : Bool) : p40_2068 (j + 1) n0 n1 n2 v7 v8 v95 =
  (sel (v95)
   (some ((0 : Int), (0 : Int), ()))
   (p40_21 (n2) (n0) (n1) (n2) (v7) (v8))) := by kernel_rfl
theorem p40_21_eq (j : Nat) (n0 : Nat) (n1 : Nat) (n2 : Nat) (v7 : Int) (v8 : Int) : p40_21 (j + 1) n0 n1 n2 v7 v8 =
  (some (v8, v7, ())) := by kernel_rfl
theorem f41_eq (n : Nat) (a0 : Int) : f41 (n + 1) a0 =
  (sel (Decidable.decide (a0 > (32 : Int)))
   (sel (a0 != (34 : Int))
    (sel (a0 != (92 : Int))
     (sel (Decidable.decide (a0 < (127 : Int)))
      (some (Bool.true, ()))
      (some (Decidable.decide (a0 > (160 : Int)), ())))
     (some (Bool.false, ())))
    (some (Bool.false, ())))
   (some (Bool.false, ()))) := by kernel_rfl
theorem f46_eq (n : Nat) (a0 : List (UInt8)) (a1 : Int) : f46 (n + 1) a0 a1 =
  (obind (f40 n (a0) (a1)) fun r51 =>
   (sel (r51.snd.fst == (0 : Int))
    (sel (Decidable.decide ((0 : Int) ≤ a1))
     (sel (Decidable.decide (a1 < (↑a0.length : Int)))
      (obind (f70 n (a0.getD a1.toNat (0 : UInt8))) fun r163 =>
       (some (r163.fst, (1 : Int), ())))
      none)
     none)
    (obind (f41 n (r51.fst)) fun r214 =>
     (sel (r214.fst)
      (sel (Decidable.decide ((0 : Int) ≤ Go.IntKind.i64.wrap (a1 + r51.snd.fst)))
       (sel (Decidable.decide (Go.IntKind.i64.wrap (a1 + r51.snd.fst) ≤ (↑a0.length : Int)))
        (sel (Decidable.decide ((0 : Int) ≤ a1))
         (sel (Decidable.decide (a1 ≤ Go.IntKind.i64.wrap (a1 + r51.snd.fst)))
          (some (Lk.ext a0 a1 (Go.IntKind.i64.wrap (a1 + r51.snd.fst)), r51.snd.fst, ()))
          none)
         none)
        none)
       none)
      (sel (r51.fst == (10 : Int))
       (some ([(92 : UInt8), (110 : UInt8)], (1 : Int), ()))
       (sel (r51.fst == (9 : Int))
        (some ([(92 : UInt8), (116 : UInt8)], (1 : Int), ()))
        (sel (r51.fst == (32 : Int))
         (some ([(92 : UInt8), (115 : UInt8)], (1 : Int), ()))
         (sel (r51.fst == (34 : Int))
          (p46_2061 (n) (n) (a0) (a1) (r51.snd.fst) (Bool.true))
          (p46_2061 (n) (n) (a0) (a1) (r51.snd.fst) (r51.fst == (92 : Int))))))))))) := by kernel_rfl
theorem p46_2061_eq (j : Nat) (n0 : Nat) (v0 : List (UInt8)) (v1 : Int) (v7 : Int) (v44 : Bool) : p46_2061 (j + 1) n0 v0 v1 v7 v44 =
  (sel (v44)
   (sel (Decidable.decide ((0 : Int) ≤ Go.IntKind.i64.wrap (v1 + (1 : Int))))
    (sel (Decidable.decide (Go.IntKind.i64.wrap (v1 + (1 : Int)) ≤ (↑v0.length : Int)))
     (sel (Decidable.decide ((0 : Int) ≤ v1))
      (sel (Decidable.decide (v1 ≤ Go.IntKind.i64.wrap (v1 + (1 : Int))))
       (sel (Decidable.decide ([(92 : UInt8)].length + (Lk.ext v0 v1 (Go.IntKind.i64.wrap (v1 + (1 : Int)))).length ≤ Lk.big))
        (some ([(92 : UInt8)] ++ Lk.ext v0 v1 (Go.IntKind.i64.wrap (v1 + (1 : Int))), (1 : Int), ()))
        none)
       none)
      none)
     none)
    none)
   (p46_14 (n0) (n0) (v0) (v1) (v7))) := by kernel_rfl
theorem p46_14_eq (j : Nat) (n0 : Nat) (v0 : List (UInt8)) (v1 : Int) (v7 : Int) : p46_14 (j + 1) n0 v0 v1 v7 =
  (p46_16 (j) (n0) (j) (v0) (v1) (v7) ([]) ((0 : Int))) := by kernel_rfl
theorem p46_16_eq (j : Nat) (n0 : Nat) (n1 : Nat) (v0 : List (UInt8)) (v1 : Int) (v7 : Int) (v8 : List UInt8) (v9 : Int) : p46_16 (j + 1) n0 n1 v0 v1 v7 v8 v9 =
  (sel (Decidable.decide (v9 < v7))
   (sel (Decidable.decide ((0 : Int) ≤ Go.IntKind.i64.wrap (v1 + v9)))
    (sel (Decidable.decide (Go.IntKind.i64.wrap (v1 + v9) < (↑v0.length : Int)))
     (obind (f70 j (v0.getD (Go.IntKind.i64.wrap (v1 + v9)).toNat (0 : UInt8))) fun r857 =>
      (sel (Decidable.decide (v8.length + List.length r857.fst ≤ Lk.big))
       (p46_16 (j) (n0) (n1) (v0) (v1) (v7) (v8 ++ r857.fst) (Go.IntKind.i64.wrap (v9 + (1 : Int))))
       none))
     none)
    none)
   (some (v8, v7, ()))) := by kernel_rfl
theorem f48_eq (n : Nat) (a0 : List UInt8) : f48 (n + 1) a0 =
  (p48_2 (n) (n) (a0) ((0 : Int))) := by kernel_rfl
theorem p48_2_eq (j : Nat) (n0 : Nat) (v0 : List UInt8) (v3 : Int) : p48_2 (j + 1) n0 v0 v3 =
  (sel (Decidable.decide (v3 < (↑v0.length : Int)))
   (sel (Decidable.decide ((0 : Int) ≤ v3))
    (sel (Decidable.decide (v3 < (↑v0.length : Int)))
     (sel (Decidable.decide ((↑(v0.getD v3.toNat (0 : UInt8)).toNat : Int) < (↑(UInt8.toNat (97 : UInt8)) : Int)))
      (sel (Decidable.decide ((↑(v0.getD v3.toNat (0 : UInt8)).toNat : Int) < (↑(UInt8.toNat (48 : UInt8)) : Int)))
       (sel ((↑(v0.getD v3.toNat (0 : UInt8)).toNat : Int) != (↑(UInt8.toNat (46 : UInt8)) : Int))
        (sel ((↑(v0.getD v3.toNat (0 : UInt8)).toNat : Int) != (↑(UInt8.toNat (95 : UInt8)) : Int))
         (p48_2054 (j) (n0) (j) (v0) (v3) ((↑(v0.getD v3.toNat (0 : UInt8)).toNat : Int) != (↑(UInt8.toNat (45 : UInt8)) : Int)))
         (p48_2054 (j) (n0) (j) (v0) (v3) (Bool.false)))
        (p48_2054 (j) (n0) (j) (v0) (v3) (Bool.false)))
       (sel (Decidable.decide ((↑(v0.getD v3.toNat (0 : UInt8)).toNat : Int) > (↑(UInt8.toNat (57 : UInt8)) : Int)))
        (sel ((↑(v0.getD v3.toNat (0 : UInt8)).toNat : Int) != (↑(UInt8.toNat (46 : UInt8)) : Int))
         (sel ((↑(v0.getD v3.toNat (0 : UInt8)).toNat : Int) != (↑(UInt8.toNat (95 : UInt8)) : Int))
          (p48_2054 (j) (n0) (j) (v0) (v3) ((↑(v0.getD v3.toNat (0 : UInt8)).toNat : Int) != (↑(UInt8.toNat (45 : UInt8)) : Int)))
          (p48_2054 (j) (n0) (j) (v0) (v3) (Bool.false)))
         (p48_2054 (j) (n0) (j) (v0) (v3) (Bool.false)))
        (p48_2054 (j) (n0) (j) (v0) (v3) (Bool.false))))
      (sel (Decidable.decide ((↑(v0.getD v3.toNat (0 : UInt8)).toNat : Int) > (↑(UInt8.toNat (122 : UInt8)) : Int)))
       (sel (Decidable.decide ((↑(v0.getD v3.toNat (0 : UInt8)).toNat : Int) < (↑(UInt8.toNat (48 : UInt8)) : Int)))
        (sel ((↑(v0.getD v3.toNat (0 : UInt8)).toNat : Int) != (↑(UInt8.toNat (46 : UInt8)) : Int))
         (sel ((↑(v0.getD v3.toNat (0 : UInt8)).toNat : Int) != (↑(UInt8.toNat (95 : UInt8)) : Int))
          (p48_2054 (j) (n0) (j) (v0) (v3) ((↑(v0.getD v3.toNat (0 : UInt8)).toNat : Int) != (↑(UInt8.toNat (45 : UInt8)) : Int)))
          (p48_2054 (j) (n0) (j) (v0) (v3) (Bool.false)))
         (p48_2054 (j) (n0) (j) (v0) (v3) (Bool.false)))
        (sel (Decidable.decide ((↑(v0.getD v3.toNat (0 : UInt8)).toNat : Int) > (↑(UInt8.toNat (57 : UInt8)) : Int)))
         (sel ((↑(v0.getD v3.toNat (0 : UInt8)).toNat : Int) != (↑(UInt8.toNat (46 : UInt8)) : Int))
          (sel ((↑(v0.getD v3.toNat (0 : UInt8)).toNat : Int) != (↑(UInt8.toNat (95 : UInt8)) : Int))
           (p48_2054 (j) (n0) (j) (v0) (v3) ((↑(v0.getD v3.toNat (0 : UInt8)).toNat : Int) != (↑(UInt8.toNat (45 : UInt8)) : Int)))
           (p48_2054 (j) (n0) (j) (v0) (v3) (Bool.false)))
          (p48_2054 (j) (n0) (j) (v0) (v3) (Bool.false)))
         (p48_2054 (j) (n0) (j) (v0) (v3) (Bool.false))))
       (p48_2054 (j) (n0) (j) (v0) (v3) (Bool.false))))
     none)
    none)
   (sel ((↑v0.length : Int) == (0 : Int))
    (some ((0 : Int), ()))
    (some ((-1 : Int), ())))) := by kernel_rfl
theorem p48_2054_eq (j : Nat) (n0 : Nat) (n1 : Nat) (v0 : List UInt8) (v3 : Int) (v39 : Bool) : p48_2054 (j + 1) n0 n1 v0 v3 v39 =
  (sel (v39)
   (some (v3, ()))
   (p48_3 (n1) (n0) (n1) (v0) (v3))) := by kernel_rfl
theorem p48_3_eq (j : Nat) (n0 : Nat) (n1 : Nat) (v0 : List UInt8) (v3 : Int) : p48_3 (j + 1) n0 n1 v0 v3 =
  (p48_2 (n1) (n0) (v0) (Go.IntKind.i64.wrap (v3 + (1 : Int)))) := by kernel_rfl
theorem f67_eq (n : Nat) (a0 : UInt8) : f67 (n + 1) a0 =
  (sel (Decidable.decide ((↑a0.toNat : Int) ≥ (↑(UInt8.toNat (48 : UInt8)) : Int)))
   (p67_2050 (n) (n) (a0) (Decidable.decide ((↑a0.toNat : Int) ≤ (↑(UInt8.toNat (57 : UInt8)) : Int))))
   (p67_2050 (n) (n) (a0) (Bool.false))) := by kernel_rfl
theorem p67_2050_eq (j : Nat) (n0 : Nat) (v0 : UInt8) (v3 : Bool) : p67_2050 (j + 1) n0 v0 v3 =
  (sel (v3)
   (some (Go.IntKind.i64.wrap (↑(UInt8.ofNat (Go.IntKind.u8.wrap ((↑v0.toNat : Int) - (↑(UInt8.toNat (48 : UInt8)) : Int))).toNat).toNat : Int), ()))
   (sel (Decidable.decide ((↑v0.toNat : Int) ≥ (↑(UInt8.toNat (97 : UInt8)) : Int)))
    (p67_2052 (j) (n0) (j) (v0) (Decidable.decide ((↑v0.toNat : Int) ≤ (↑(UInt8.toNat (102 : UInt8)) : Int))))
    (p67_2052 (j) (n0) (j) (v0) (Bool.false)))) := by kernel_rfl
theorem p67_2052_eq (j : Nat) (n0 : Nat) (n1 : Nat) (v0 : UInt8) (v13 : Bool) : p67_2052 (j + 1) n0 n1 v0 v13 =
  (sel (v13)
   (some (Go.IntKind.i64.wrap (Go.IntKind.i64.wrap (↑(UInt8.ofNat (Go.IntKind.u8.wrap ((↑v0.toNat : Int) - (↑(UInt8.toNat (97 : UInt8)) : Int))).toNat).toNat : Int) + (10 : Int)), ()))
   (p67_5 (n0) (n0))) := by kernel_rfl
theorem p67_5_eq (j : Nat) (n0 : Nat) : p67_5 (j + 1) n0 =
  (some ((16 : Int), ())) := by kernel_rfl
theorem f70_eq (n : Nat) (a0 : UInt8) : f70 (n + 1) a0 =
  (sel ((↑(UInt8.toNat (16 : UInt8)) : Int) != (0 : Int))
   (sel ((↑(UInt8.toNat (16 : UInt8)) : Int) != (0 : Int))
    (sel (Decidable.decide ((0 : Int) ≤ (↑(UInt8.ofNat (Go.IntKind.u8.wrap ((↑(UInt8.ofNat (Go.IntKind.u8.wrap ((↑a0.toNat : Int).tdiv (↑(UInt8.toNat (16 : UInt8)) : Int))).toNat).toNat : Int) + (↑(UInt8.toNat (1 : UInt8)) : Int))).toNat).toNat : Int)))
     (sel (Decidable.decide ((↑(UInt8.ofNat (Go.IntKind.u8.wrap ((↑(UInt8.ofNat (Go.IntKind.u8.wrap ((↑a0.toNat : Int).tdiv (↑(UInt8.toNat (16 : UInt8)) : Int))).toNat).toNat : Int) + (↑(UInt8.toNat (1 : UInt8)) : Int))).toNat).toNat : Int) ≤ (↑[(48 : UInt8), (49 : UInt8), (50 : UInt8), (51 : UInt8), (52 : UInt8), (53 : UInt8), (54 : UInt8), (55 : UInt8), (56 : UInt8), (57 : UInt8), (97 : UInt8), (98 : UInt8), (99 : UInt8), (100 : UInt8), (101 : UInt8), (102 : UInt8)].length : Int)))
      (sel (Decidable.decide ((0 : Int) ≤ (↑(UInt8.ofNat (Go.IntKind.u8.wrap ((↑a0.toNat : Int).tdiv (↑(UInt8.toNat (16 : UInt8)) : Int))).toNat).toNat : Int)))
       (sel (Decidable.decide ((↑(UInt8.ofNat (Go.IntKind.u8.wrap ((↑a0.toNat : Int).tdiv (↑(UInt8.toNat (16 : UInt8)) : Int))).toNat).toNat : Int) ≤ (↑(UInt8.ofNat (Go.IntKind.u8.wrap ((↑(UInt8.ofNat (Go.IntKind.u8.wrap ((↑a0.toNat : Int).tdiv (↑(UInt8.toNat (16 : UInt8)) : Int))).toNat).toNat : Int) + (↑(UInt8.toNat (1 : UInt8)) : Int))).toNat).toNat : Int)))
        (sel (Decidable.decide ([(92 : UInt8), (120 : UInt8)].length + (Lk.ext [(48 : UInt8), (49 : UInt8), (50 : UInt8), (51 : UInt8), (52 : UInt8), (53 : UInt8), (54 : UInt8), (55 : UInt8), (56 : UInt8), (57 : UInt8), (97 : UInt8), (98 : UInt8), (99 : UInt8), (100 : UInt8), (101 : UInt8), (102 : UInt8)] (↑(UInt8.ofNat (Go.IntKind.u8.wrap ((↑a0.toNat : Int).tdiv (↑(UInt8.toNat (16 : UInt8)) : Int))).toNat).toNat : Int) (↑(UInt8.ofNat (Go.IntKind.u8.wrap ((↑(UInt8.ofNat (Go.IntKind.u8.wrap ((↑a0.toNat : Int).tdiv (↑(UInt8.toNat (16 : UInt8)) : Int))).toNat).toNat : Int) + (↑(UInt8.toNat (1 : UInt8)) : Int))).toNat).toNat : Int)).length ≤ Lk.big))
         (sel ((↑(UInt8.toNat (16 : UInt8)) : Int) != (0 : Int))
          (sel ((↑(UInt8.toNat (16 : UInt8)) : Int) != (0 : Int))
           (sel (Decidable.decide ((0 : Int) ≤ (↑(UInt8.ofNat (Go.IntKind.u8.wrap ((↑(UInt8.ofNat ((↑a0.toNat : Int).tmod (↑(UInt8.toNat (16 : UInt8)) : Int)).toNat).toNat : Int) + (↑(UInt8.toNat (1 : UInt8)) : Int))).toNat).toNat : Int)))
            (sel (Decidable.decide ((↑(UInt8.ofNat (Go.IntKind.u8.wrap ((↑(UInt8.ofNat ((↑a0.toNat : Int).tmod (↑(UInt8.toNat (16 : UInt8)) : Int)).toNat).toNat : Int) + (↑(UInt8.toNat (1 : UInt8)) : Int))).toNat).toNat : Int) ≤ (↑[(48 : UInt8), (49 : UInt8), (50 : UInt8), (51 : UInt8), (52 : UInt8), (53 : UInt8), (54 : UInt8), (55 : UInt8), (56 : UInt8), (57 : UInt8), (97 : UInt8), (98 : UInt8), (99 : UInt8), (100 : UInt8), (101 : UInt8), (102 : UInt8)].length : Int)))
             (sel (Decidable.decide ((0 : Int) ≤ (↑(UInt8.ofNat ((↑a0.toNat : Int).tmod (↑(UInt8.toNat (16 : UInt8)) : Int)).toNat).toNat : Int)))
              (sel (Decidable.decide ((↑(UInt8.ofNat ((↑a0.toNat : Int).tmod (↑(UInt8.toNat (16 : UInt8)) : Int)).toNat).toNat : Int) ≤ (↑(UInt8.ofNat (Go.IntKind.u8.wrap ((↑(UInt8.ofNat ((↑a0.toNat : Int).tmod (↑(UInt8.toNat (16 : UInt8)) : Int)).toNat).toNat : Int) + (↑(UInt8.toNat (1 : UInt8)) : Int))).toNat).toNat : Int)))
               (sel (Decidable.decide (([(92 : UInt8), (120 : UInt8)] ++ Lk.ext [(48 : UInt8), (49 : UInt8), (50 : UInt8), (51 : UInt8), (52 : UInt8), (53 : UInt8), (54 : UInt8), (55 : UInt8), (56 : UInt8), (57 : UInt8), (97 : UInt8), (98 : UInt8), (99 : UInt8), (100 : UInt8), (101 : UInt8), (102 : UInt8)] (↑(UInt8.ofNat (Go.IntKind.u8.wrap ((↑a0.toNat : Int).tdiv (↑(UInt8.toNat (16 : UInt8)) : Int))).toNat).toNat : Int) (↑(UInt8.ofNat (Go.IntKind.u8.wrap ((↑(UInt8.ofNat (Go.IntKind.u8.wrap ((↑a0.toNat : Int).tdiv (↑(UInt8.toNat (16 : UInt8)) : Int))).toNat).toNat : Int) + (↑(UInt8.toNat (1 : UInt8)) : Int))).toNat).toNat : Int)).length + (Lk.ext [(48 : UInt8), (49 : UInt8), (50 : UInt8), (51 : UInt8), (52 : UInt8), (53 : UInt8), (54 : UInt8), (55 : UInt8), (56 : UInt8), (57 : UInt8), (97 : UInt8), (98 : UInt8), (99 : UInt8), (100 : UInt8), (101 : UInt8), (102 : UInt8)] (↑(UInt8.ofNat ((↑a0.toNat : Int).tmod (↑(UInt8.toNat (16 : UInt8)) : Int)).toNat).toNat : Int) (↑(UInt8.ofNat (Go.IntKind.u8.wrap ((↑(UInt8.ofNat ((↑a0.toNat : Int).tmod (↑(UInt8.toNat (16 : UInt8)) : Int)).toNat).toNat : Int) + (↑(UInt8.toNat (1 : UInt8)) : Int))).toNat).toNat : Int)).length ≤ Lk.big))
                (some ([(92 : UInt8), (120 : UInt8)] ++ Lk.ext [(48 : UInt8), (49 : UInt8), (50 : UInt8), (51 : UInt8), (52 : UInt8), (53 : UInt8), (54 : UInt8), (55 : UInt8), (56 : UInt8), (57 : UInt8), (97 : UInt8), (98 : UInt8), (99 : UInt8), (100 : UInt8), (101 : UInt8), (102 : UInt8)] (↑(UInt8.ofNat (Go.IntKind.u8.wrap ((↑a0.toNat : Int).tdiv (↑(UInt8.toNat (16 : UInt8)) : Int))).toNat).toNat : Int) (↑(UInt8.ofNat (Go.IntKind.u8.wrap ((↑(UInt8.ofNat (Go.IntKind.u8.wrap ((↑a0.toNat : Int).tdiv (↑(UInt8.toNat (16 : UInt8)) : Int))).toNat).toNat : Int) + (↑(UInt8.toNat (1 : UInt8)) : Int))).toNat).toNat : Int) ++ Lk.ext [(48 : UInt8), (49 : UInt8), (50 : UInt8), (51 : UInt8), (52 : UInt8), (53 : UInt8), (54 : UInt8), (55 : UInt8), (56 : UInt8), (57 : UInt8), (97 : UInt8), (98 : UInt8), (99 : UInt8), (100 : UInt8), (101 : UInt8), (102 : UInt8)] (↑(UInt8.ofNat ((↑a0.toNat : Int).tmod (↑(UInt8.toNat (16 : UInt8)) : Int)).toNat).toNat : Int) (↑(UInt8.ofNat (Go.IntKind.u8.wrap ((↑(UInt8.ofNat ((↑a0.toNat : Int).tmod (↑(UInt8.toNat (16 : UInt8)) : Int)).toNat).toNat : Int) + (↑(UInt8.toNat (1 : UInt8)) : Int))).toNat).toNat : Int), ()))
                none)
               none)
              none)
             none)
            none)
           none)
          none)
         none)
        none)
       none)
      none)
     none)
    none)
   none) := by kernel_rfl
theorem f3_eq (n : Nat) (a0 : List UInt8) (a1 : List UInt8) : f3 (n + 1) a0 a1 =
  (obind (f11 n (a1)) fun r37 =>
   (obind (f12 n (a1)) fun r108 =>
    (obind (f13 n (a0)) fun r179 =>
     (obind (f14 n (a0)) fun r194 =>
      (sel (r179.fst == r194.fst)
       (sel (r37.fst == r108.fst)
        (sel (r37.snd.fst == r108.snd.fst)
         (sel (r37.snd.snd.fst == r108.snd.snd.fst)
          (obind (f15 n ) fun r381 =>
           (some (r381.fst, ())))
          (some (Bool.false, ())))
         (some (Bool.false, ())))
        (some (Bool.false, ())))
       (some (Bool.false, ()))))))) := by kernel_rfl
theorem f4_eq (n : Nat) (a0 : List UInt8) (a1 : List UInt8) : f4 (n + 1) a0 a1 =
  (obind (f16 n (a1)) fun r37 =>
   (obind (f17 n (a1)) fun r108 =>
    (obind (f18 n (a0)) fun r179 =>
     (obind (f19 n (a0)) fun r194 =>
      (sel (r179.fst == r194.fst)
       (sel (r37.fst == r108.fst)
        (sel (r37.snd.fst == r108.snd.fst)
         (sel (r37.snd.snd.fst == r108.snd.snd.fst)
          (obind (f15 n ) fun r381 =>
           (some (r381.fst, ())))
          (some (Bool.false, ())))
         (some (Bool.false, ())))
        (some (Bool.false, ())))
       (some (Bool.false, ()))))))) := by kernel_rfl
end NqGQ

namespace NqGQ
open Go Lk NqG
noncomputable def theFnsR : Nq.FnsR where
  toFnsU := theFnsU
  f12 := f12
  p12_2050 := p12_2050
  p12_3 := p12_3
  p12_5 := p12_5
  p12_2068 := p12_2068
  p12_21 := p12_21
  f14 := f14
  p14_4 := p14_4
  f15 := f15
  f17 := f17
  p17_2050 := p17_2050
  p17_3 := p17_3
  f19 := f19
  f39 := f39
  p39_2060 := p39_2060
  p39_2063 := p39_2063
  p39_16 := p39_16
  f40 := f40
  p40_2054 := p40_2054
  p40_11 := p40_11
  p40_2056 := p40_2056
  p40_2060 := p40_2060
  p40_2058 := p40_2058
  p40_13 := p40_13
  p40_14 := p40_14
  p40_2068 := p40_2068
  p40_21 := p40_21
  f41 := f41
  f46 := f46
  p46_2061 := p46_2061
  p46_14 := p46_14
  p46_16 := p46_16
  f48 := f48
  p48_2 := p48_2
  p48_2054 := p48_2054
  p48_3 := p48_3
  f67 := f67
  p67_2050 := p67_2050
  p67_2052 := p67_2052
  p67_5 := p67_5
  f70 := f70
  f3 := f3
  f4 := f4
  f12_eq := f12_eq
  p12_2050_eq := p12_2050_eq
  p12_3_eq := p12_3_eq
  p12_5_eq := p12_5_eq
  p12_2068_eq := p12_2068_eq
  p12_21_eq := p12_21_eq
  f14_eq := f14_eq
  p14_4_eq := p14_4_eq
  f15_eq := f15_eq
  f17_eq := f17_eq
  p17_2050_eq := p17_2050_eq
  p17_3_eq := p17_3_eq
  f19_eq := f19_eq
  f39_eq := f39_eq
  p39_2060_eq := p39_2060_eq
  p39_2063_eq := p39_2063_eq
  p39_16_eq := p39_16_eq
  f40_eq := f40_eq
  p40_2054_eq := p40_2054_eq
  p40_11_eq := p40_11_eq
  p40_2056_eq := p40_2056_eq
  p40_2060_eq := p40_2060_eq
  p40_2058_eq := p40_2058_eq
  p40_13_eq := p40_13_eq
  p40_14_eq := p40_14_eq
  p40_2068_eq := p40_2068_eq
  p40_21_eq := p40_21_eq
  f41_eq := f41_eq
  f46_eq := f46_eq
  p46_2061_eq := p46_2061_eq
  p46_14_eq := p46_14_eq
  p46_16_eq := p46_16_eq
  f48_eq := f48_eq
  p48_2_eq := p48_2_eq
  p48_2054_eq := p48_2054_eq
  p48_3_eq := p48_3_eq
  f67_eq := f67_eq
  p67_2050_eq := p67_2050_eq
  p67_2052_eq := p67_2052_eq
  p67_5_eq := p67_5_eq
  f70_eq := f70_eq
  f3_eq := f3_eq
  f4_eq := f4_eq
end NqGQ

