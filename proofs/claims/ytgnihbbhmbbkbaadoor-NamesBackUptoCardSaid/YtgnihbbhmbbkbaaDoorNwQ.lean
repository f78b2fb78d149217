import Derived.Test.YtgnihbbhmbbkbaaDoorLmTwo
import Derived.Test.YtgnihbbhmbbkbaaDoorNwX
import Derived.Test.YtgnihbbhmbbkbaaDoorProg
import Derived.Test.YtgnihbbhmbbkbaaDoorShelf
import Derived.WalkKit
import Derived.BigCall
import Derived.Shelf.Strings.BuilderK
import Derived.Lib.LaidU8T
import Derived.Lib.LaidTab
import Derived.Lib.AppendIntMem
import Derived.Lib.SmallJoins
set_option linter.all false
namespace NqG
open Go Lk
set_option linter.unusedVariables false

/-- The functions, by their equations alone. -/
structure Fns0 where
  /-- unicode/utf8.DecodeRuneInString -/
  f37 (n : Nat) (a0 : List UInt8) : Option (Int × Int × Unit)
  /-- moraine/names.itself -/
  f38 (n : Nat) (a0 : Int) : Option (Bool × Unit)
  /-- moraine/names.escaped -/
  f69 (n : Nat) (a0 : UInt8) : Option (List UInt8 × Unit)
  /-- moraine/names.written -/
  f43 (n : Nat) (a0 : List UInt8) (a1 : Int) : Option (List UInt8 × Int × Unit)
  p43_2051 (j : Nat) (n0 : Nat) (v0 : List UInt8) (v1 : Int) (v6 : Int) (v7 : Int) (v22 : Bool) : Option (List UInt8 × Int × Unit)
  p43_4 (j : Nat) (n0 : Nat) (v0 : List UInt8) (v1 : Int) (v6 : Int) (v7 : Int) : Option (List UInt8 × Int × Unit)
  p43_19 (j : Nat) (n0 : Nat) (n1 : Nat) (v0 : List UInt8) (v1 : Int) (v7 : Int) (v8 : List UInt8) (v47 : Int) (v48 : Int) : Option (List UInt8 × Int × Unit)
  f37_eq (n : Nat) (a0 : List UInt8) : f37 n a0 = some ((e37 a0).1, (e37 a0).2, ())
  f38_eq (n : Nat) (a0 : Int) : f38 (n + 1) a0 =
  (sel (Decidable.decide (a0 > (32 : Int)))
   (sel (Decidable.decide (a0 < (127 : Int)))
    (sel (a0 != (34 : Int))
     (sel (a0 != (92 : Int))
      (some (Bool.true, ()))
      (some (Decidable.decide (a0 > (160 : Int)), ())))
     (some (Decidable.decide (a0 > (160 : Int)), ())))
    (some (Decidable.decide (a0 > (160 : Int)), ())))
   (some (Decidable.decide (a0 > (160 : Int)), ())))
  f69_eq (n : Nat) (a0 : UInt8) : f69 (n + 1) a0 =
  (sel (Decidable.decide ((0 : Int) ≤ (4 : Int)))
   (sel (Decidable.decide ((0 : Int) ≤ (4 : Int)))
    (sel (Decidable.decide ((0 : Int) ≤ (↑(UInt8.ofNat (Go.IntKind.u8.wrap ((↑(UInt8.ofNat ((↑a0.toNat : Int).fdiv ((2 : Int) ^ Min.min (Int.toNat (4 : Int)) Go.IntKind.u8.bits)).toNat).toNat : Int) + (↑(UInt8.toNat (1 : UInt8)) : Int))).toNat).toNat : Int)))
     (sel (Decidable.decide ((↑(UInt8.ofNat (Go.IntKind.u8.wrap ((↑(UInt8.ofNat ((↑a0.toNat : Int).fdiv ((2 : Int) ^ Min.min (Int.toNat (4 : Int)) Go.IntKind.u8.bits)).toNat).toNat : Int) + (↑(UInt8.toNat (1 : UInt8)) : Int))).toNat).toNat : Int) ≤ (↑[(48 : UInt8), (49 : UInt8), (50 : UInt8), (51 : UInt8), (52 : UInt8), (53 : UInt8), (54 : UInt8), (55 : UInt8), (56 : UInt8), (57 : UInt8), (97 : UInt8), (98 : UInt8), (99 : UInt8), (100 : UInt8), (101 : UInt8), (102 : UInt8)].length : Int)))
      (sel (Decidable.decide ((0 : Int) ≤ (↑(UInt8.ofNat ((↑a0.toNat : Int).fdiv ((2 : Int) ^ Min.min (Int.toNat (4 : Int)) Go.IntKind.u8.bits)).toNat).toNat : Int)))
       (sel (Decidable.decide ((↑(UInt8.ofNat ((↑a0.toNat : Int).fdiv ((2 : Int) ^ Min.min (Int.toNat (4 : Int)) Go.IntKind.u8.bits)).toNat).toNat : Int) ≤ (↑(UInt8.ofNat (Go.IntKind.u8.wrap ((↑(UInt8.ofNat ((↑a0.toNat : Int).fdiv ((2 : Int) ^ Min.min (Int.toNat (4 : Int)) Go.IntKind.u8.bits)).toNat).toNat : Int) + (↑(UInt8.toNat (1 : UInt8)) : Int))).toNat).toNat : Int)))
        (sel (Decidable.decide ([(92 : UInt8), (120 : UInt8)].length + (Lk.ext [(48 : UInt8), (49 : UInt8), (50 : UInt8), (51 : UInt8), (52 : UInt8), (53 : UInt8), (54 : UInt8), (55 : UInt8), (56 : UInt8), (57 : UInt8), (97 : UInt8), (98 : UInt8), (99 : UInt8), (100 : UInt8), (101 : UInt8), (102 : UInt8)] (↑(UInt8.ofNat ((↑a0.toNat : Int).fdiv ((2 : Int) ^ Min.min (Int.toNat (4 : Int)) Go.IntKind.u8.bits)).toNat).toNat : Int) (↑(UInt8.ofNat (Go.IntKind.u8.wrap ((↑(UInt8.ofNat ((↑a0.toNat : Int).fdiv ((2 : Int) ^ Min.min (Int.toNat (4 : Int)) Go.IntKind.u8.bits)).toNat).toNat : Int) + (↑(UInt8.toNat (1 : UInt8)) : Int))).toNat).toNat : Int)).length ≤ Lk.big))
         (sel (Decidable.decide ((0 : Int) ≤ (↑(UInt8.ofNat (Go.IntKind.u8.wrap ((↑(UInt8.ofNat (Lk.ibits Go.BinOp.and Go.IntKind.u8 (↑a0.toNat : Int) (↑(UInt8.toNat (15 : UInt8)) : Int)).toNat).toNat : Int) + (↑(UInt8.toNat (1 : UInt8)) : Int))).toNat).toNat : Int)))
          (sel (Decidable.decide ((↑(UInt8.ofNat (Go.IntKind.u8.wrap ((↑(UInt8.ofNat (Lk.ibits Go.BinOp.and Go.IntKind.u8 (↑a0.toNat : Int) (↑(UInt8.toNat (15 : UInt8)) : Int)).toNat).toNat : Int) + (↑(UInt8.toNat (1 : UInt8)) : Int))).toNat).toNat : Int) ≤ (↑[(48 : UInt8), (49 : UInt8), (50 : UInt8), (51 : UInt8), (52 : UInt8), (53 : UInt8), (54 : UInt8), (55 : UInt8), (56 : UInt8), (57 : UInt8), (97 : UInt8), (98 : UInt8), (99 : UInt8), (100 : UInt8), (101 : UInt8), (102 : UInt8)].length : Int)))
           (sel (Decidable.decide ((0 : Int) ≤ (↑(UInt8.ofNat (Lk.ibits Go.BinOp.and Go.IntKind.u8 (↑a0.toNat : Int) (↑(UInt8.toNat (15 : UInt8)) : Int)).toNat).toNat : Int)))
            (sel (Decidable.decide ((↑(UInt8.ofNat (Lk.ibits Go.BinOp.and Go.IntKind.u8 (↑a0.toNat : Int) (↑(UInt8.toNat (15 : UInt8)) : Int)).toNat).toNat : Int) ≤ (↑(UInt8.ofNat (Go.IntKind.u8.wrap ((↑(UInt8.ofNat (Lk.ibits Go.BinOp.and Go.IntKind.u8 (↑a0.toNat : Int) (↑(UInt8.toNat (15 : UInt8)) : Int)).toNat).toNat : Int) + (↑(UInt8.toNat (1 : UInt8)) : Int))).toNat).toNat : Int)))
             (sel (Decidable.decide (([(92 : UInt8), (120 : UInt8)] ++ Lk.ext [(48 : UInt8), (49 : UInt8), (50 : UInt8), (51 : UInt8), (52 : UInt8), (53 : UInt8), (54 : UInt8), (55 : UInt8), (56 : UInt8), (57 : UInt8), (97 : UInt8), (98 : UInt8), (99 : UInt8), (100 : UInt8), (101 : UInt8), (102 : UInt8)] (↑(UInt8.ofNat ((↑a0.toNat : Int).fdiv ((2 : Int) ^ Min.min (Int.toNat (4 : Int)) Go.IntKind.u8.bits)).toNat).toNat : Int) (↑(UInt8.ofNat (Go.IntKind.u8.wrap ((↑(UInt8.ofNat ((↑a0.toNat : Int).fdiv ((2 : Int) ^ Min.min (Int.toNat (4 : Int)) Go.IntKind.u8.bits)).toNat).toNat : Int) + (↑(UInt8.toNat (1 : UInt8)) : Int))).toNat).toNat : Int)).length + (Lk.ext [(48 : UInt8), (49 : UInt8), (50 : UInt8), (51 : UInt8), (52 : UInt8), (53 : UInt8), (54 : UInt8), (55 : UInt8), (56 : UInt8), (57 : UInt8), (97 : UInt8), (98 : UInt8), (99 : UInt8), (100 : UInt8), (101 : UInt8), (102 : UInt8)] (↑(UInt8.ofNat (Lk.ibits Go.BinOp.and Go.IntKind.u8 (↑a0.toNat : Int) (↑(UInt8.toNat (15 : UInt8)) : Int)).toNat).toNat : Int) (↑(UInt8.ofNat (Go.IntKind.u8.wrap ((↑(UInt8.ofNat (Lk.ibits Go.BinOp.and Go.IntKind.u8 (↑a0.toNat : Int) (↑(UInt8.toNat (15 : UInt8)) : Int)).toNat).toNat : Int) + (↑(UInt8.toNat (1 : UInt8)) : Int))).toNat).toNat : Int)).length ≤ Lk.big))
              (some ([(92 : UInt8), (120 : UInt8)] ++ Lk.ext [(48 : UInt8), (49 : UInt8), (50 : UInt8), (51 : UInt8), (52 : UInt8), (53 : UInt8), (54 : UInt8), (55 : UInt8), (56 : UInt8), (57 : UInt8), (97 : UInt8), (98 : UInt8), (99 : UInt8), (100 : UInt8), (101 : UInt8), (102 : UInt8)] (↑(UInt8.ofNat ((↑a0.toNat : Int).fdiv ((2 : Int) ^ Min.min (Int.toNat (4 : Int)) Go.IntKind.u8.bits)).toNat).toNat : Int) (↑(UInt8.ofNat (Go.IntKind.u8.wrap ((↑(UInt8.ofNat ((↑a0.toNat : Int).fdiv ((2 : Int) ^ Min.min (Int.toNat (4 : Int)) Go.IntKind.u8.bits)).toNat).toNat : Int) + (↑(UInt8.toNat (1 : UInt8)) : Int))).toNat).toNat : Int) ++ Lk.ext [(48 : UInt8), (49 : UInt8), (50 : UInt8), (51 : UInt8), (52 : UInt8), (53 : UInt8), (54 : UInt8), (55 : UInt8), (56 : UInt8), (57 : UInt8), (97 : UInt8), (98 : UInt8), (99 : UInt8), (100 : UInt8), (101 : UInt8), (102 : UInt8)] (↑(UInt8.ofNat (Lk.ibits Go.BinOp.and Go.IntKind.u8 (↑a0.toNat : Int) (↑(UInt8.toNat (15 : UInt8)) : Int)).toNat).toNat : Int) (↑(UInt8.ofNat (Go.IntKind.u8.wrap ((↑(UInt8.ofNat (Lk.ibits Go.BinOp.and Go.IntKind.u8 (↑a0.toNat : Int) (↑(UInt8.toNat (15 : UInt8)) : Int)).toNat).toNat : Int) + (↑(UInt8.toNat (1 : UInt8)) : Int))).toNat).toNat : Int), ()))
              none)
             none)
            none)
           none)
          none)
         none)
        none)
       none)
      none)
     none)
    none)
   none)
  f43_eq (n : Nat) (a0 : List UInt8) (a1 : Int) : f43 (n + 1) a0 a1 =
  (sel (Decidable.decide ((0 : Int) ≤ a1))
   (sel (Decidable.decide (a1 ≤ (↑a0.length : Int)))
    (obind (f37 n (Lk.ext a0 a1 (↑a0.length : Int))) fun r58 =>
     (sel (r58.fst == (65533 : Int))
      (p43_2051 (n) (n) (a0) (a1) (r58.fst) (r58.snd.fst) (r58.snd.fst == (1 : Int)))
      (p43_2051 (n) (n) (a0) (a1) (r58.fst) (r58.snd.fst) (Bool.false))))
    none)
   none)
  p43_2051_eq (j : Nat) (n0 : Nat) (v0 : List UInt8) (v1 : Int) (v6 : Int) (v7 : Int) (v22 : Bool) : p43_2051 (j + 1) n0 v0 v1 v6 v7 v22 =
  (sel (v22)
   (sel (Decidable.decide ((0 : Int) ≤ v1))
    (sel (Decidable.decide (v1 < (↑v0.length : Int)))
     (obind (f69 j (v0.getD v1.toNat (0 : UInt8))) fun r221 =>
      (some (r221.fst, (1 : Int), ())))
     none)
    none)
   (p43_4 (n0) (n0) (v0) (v1) (v6) (v7)))
  p43_4_eq (j : Nat) (n0 : Nat) (v0 : List UInt8) (v1 : Int) (v6 : Int) (v7 : Int) : p43_4 (j + 1) n0 v0 v1 v6 v7 =
  (sel (v6 == (10 : Int))
   (some ([(92 : UInt8), (110 : UInt8)], (1 : Int), ()))
   (sel (v6 == (9 : Int))
    (some ([(92 : UInt8), (116 : UInt8)], (1 : Int), ()))
    (sel (v6 == (32 : Int))
     (some ([(92 : UInt8), (115 : UInt8)], (1 : Int), ()))
     (sel (v6 == (34 : Int))
      (some ([(92 : UInt8), (34 : UInt8)], (1 : Int), ()))
      (sel (v6 == (92 : Int))
       (some ([(92 : UInt8), (92 : UInt8)], (1 : Int), ()))
       (obind (f38 j (v6)) fun r605 =>
        (sel (r605.fst)
         (sel (Decidable.decide ((0 : Int) ≤ Go.IntKind.i64.wrap (v1 + v7)))
          (sel (Decidable.decide (Go.IntKind.i64.wrap (v1 + v7) ≤ (↑v0.length : Int)))
           (sel (Decidable.decide ((0 : Int) ≤ v1))
            (sel (Decidable.decide (v1 ≤ Go.IntKind.i64.wrap (v1 + v7)))
             (some (Lk.ext v0 v1 (Go.IntKind.i64.wrap (v1 + v7)), v7, ()))
             none)
            none)
           none)
          none)
         (p43_19 (j) (n0) (j) (v0) (v1) (v7) ([]) (v7) ((0 : Int))))))))))
  p43_19_eq (j : Nat) (n0 : Nat) (n1 : Nat) (v0 : List UInt8) (v1 : Int) (v7 : Int) (v8 : List UInt8) (v47 : Int) (v48 : Int) : p43_19 (j + 1) n0 n1 v0 v1 v7 v8 v47 v48 =
  (sel (Decidable.decide (v48 < v47))
   (sel (Decidable.decide ((0 : Int) ≤ Go.IntKind.i64.wrap (v1 + v48)))
    (sel (Decidable.decide (Go.IntKind.i64.wrap (v1 + v48) < (↑v0.length : Int)))
     (obind (f69 j (v0.getD (Go.IntKind.i64.wrap (v1 + v48)).toNat (0 : UInt8))) fun r840 =>
      (sel (Decidable.decide (v8.length + List.length r840.fst ≤ Lk.big))
       (p43_19 (j) (n0) (n1) (v0) (v1) (v7) (v8 ++ r840.fst) (v47) (Go.IntKind.i64.wrap (v48 + (1 : Int))))
       none))
     none)
    none)
   (some (v8, v7, ())))
end NqG

/-! names.written, as it is. -/
namespace NqG
open Go Lk
variable (X : Fns0)

theorem blt_dec (a b : Nat) : Nat.blt a b = decide (a < b) := by
  rw [Bool.eq_iff_iff]; simp [Nat.blt_eq]

theorem self_eq (r : Nat) : self r = decide (((32 : Int) < (r : Int) ∧ (r : Int) < 127 ∧ (r : Int) ≠ 34 ∧ (r : Int) ≠ 92) ∨ (160 : Int) < (r : Int)) := by
  unfold self
  rw [Bool.eq_iff_iff]
  simp only [blt_dec, Bool.or_eq_true, Bool.and_eq_true, decide_eq_true_eq, Bool.not_eq_true', beq_eq_false_iff_ne]
  omega

theorem f38_ok (n r : Nat) : X.f38 (n + 1) (r : Int) = some (self r, ()) := by
  rw [X.f38_eq, self_eq]
  have en34 : ((r : Int) != 34) = decide ((r : Int) ≠ 34) := by rw [Bool.eq_iff_iff]; simp
  have en92 : ((r : Int) != 92) = decide ((r : Int) ≠ 92) := by rw [Bool.eq_iff_iff]; simp
  rw [en34, en92]
  simp only [sel_dec]
  by_cases h1 : (r : Int) > 32
  · rw [if_pos h1]
    by_cases h2 : (r : Int) < 127
    · rw [if_pos h2]
      by_cases h3 : (r : Int) ≠ 34
      · rw [if_pos h3]
        by_cases h4 : (r : Int) ≠ 92
        · rw [if_pos h4, decide_eq_true (Or.inl ⟨h1, h2, h3, h4⟩)]
        · rw [if_neg h4, decide_eq_false (by omega), decide_eq_false (by omega)]
      · rw [if_neg h3, decide_eq_false (by omega), decide_eq_false (by omega)]
    · rw [if_neg h2]
      congr 2
      apply decide_eq_decide.2; omega
  · rw [if_neg h1]
    congr 2
    apply decide_eq_decide.2; omega

theorem forall_u8 {p : UInt8 → Prop} (h : ∀ k : Fin 256, p (UInt8.ofNat k.val)) (a : UInt8) : p a := by
  have := h ⟨a.toNat, a.toNat_lt⟩
  simpa using this

theorem f69_ok (n : Nat) (a : UInt8) : X.f69 (n + 1) a = some (esc a, ()) := by
  rw [X.f69_eq]
  revert a
  apply forall_u8
  decide +kernel

theorem e37_at (b : List UInt8) (i : Nat) (hi : i < b.length) : e37 (ext b (i : Int) (b.length : Int)) = ((rn b i : Int), (sz b i : Int)) := by
  rw [ext_drop]
  unfold e37
  have : (b.drop i).isEmpty = false := by
    cases h : b.drop i with
    | nil => have := congrArg List.length h; simp at this; omega
    | cons _ _ => rfl
  rw [this, decode_drop]
  rfl

theorem p43_19_ok (b : List UInt8) (hlen : b.length ≤ 1073741824) (i m : Nat) (hi : i + m ≤ b.length) (hm : m ≤ 4) : ∀ (N k j n0 n1 : Nat) (acc : List UInt8), k + N = m → N + 2 ≤ j → acc.length ≤ 4 * k →
    X.p43_19 j n0 n1 b (i : Int) (m : Int) acc (m : Int) (k : Int) = some (acc ++ escs (ext b ((i + k : Nat) : Int) ((i + m : Nat) : Int)), (m : Int), ()) := by
  intro N
  induction N with
  | zero =>
    intro k j n0 n1 acc hk hj hacc
    obtain ⟨j, rfl⟩ : ∃ q, j = q + 1 := ⟨j - 1, by omega⟩
    have e : k = m := by omega
    subst e
    rw [X.p43_19_eq]
    simp only [sel_dec]
    rw [if_neg (by omega)]
    have : ext b ((i + k : Nat) : Int) ((i + k : Nat) : Int) = [] := by
      apply List.eq_nil_of_length_eq_zero; rw [ext_len b _ _ hi]; omega
    rw [this]
    simp [escs]
  | succ N ih =>
    intro k j n0 n1 acc hk hj hacc
    obtain ⟨j, rfl⟩ : ∃ q, j = q + 2 := ⟨j - 2, by omega⟩
    have w1 : IntKind.i64.wrap ((i : Int) + (k : Int)) = ((i + k : Nat) : Int) := by rw [wrap64 (by omega) (by omega)]; omega
    have w2 : IntKind.i64.wrap ((k : Int) + 1) = ((k + 1 : Nat) : Int) := by rw [wrap64 (by omega) (by omega)]; omega
    rw [X.p43_19_eq]
    simp only [sel_dec, w1, w2]
    rw [if_pos (by omega), if_pos (by omega), if_pos (by omega), f69_ok X]
    simp only [ob_some, sel_dec, Int.toNat_natCast]
    have hbg : acc.length + (esc (b.getD (i + k) 0)).length ≤ big := by rw [esc_len]; show _ ≤ 9223372036854775807; omega
    rw [if_pos hbg, ih (k + 1) (j + 1) n0 n1 _ (by omega) (by omega) (by simp [esc_len]; omega)]
    have e : ext b ((i + k : Nat) : Int) ((i + m : Nat) : Int) = b.getD (i + k) 0 :: ext b ((i + (k + 1) : Nat) : Int) ((i + m : Nat) : Int) := by
      have hlt : i + k < b.length := by omega
      unfold ext win
      simp only [Int.toNat_natCast]
      rw [List.drop_eq_getElem_cons hlt, show i + m - (i + k) = (i + m - (i + (k + 1))) + 1 by omega, List.take_succ_cons, List.getD_eq_getElem?_getD, List.getElem?_eq_getElem hlt]
      rfl
    rw [e]
    have e2 : escs (b.getD (i + k) 0 :: ext b ((i + (k + 1) : Nat) : Int) ((i + m : Nat) : Int)) = esc (b.getD (i + k) 0) ++ escs (ext b ((i + (k + 1) : Nat) : Int) ((i + m : Nat) : Int)) := rfl
    rw [e2, List.append_assoc]

/-- names.written. -/
theorem f43_ok (b : List UInt8) (hlen : b.length ≤ 1073741824) (i : Nat) (hi : i < b.length) (j : Nat) (hj : 12 ≤ j) :
    X.f43 j b (i : Int) = some (wri b i, (sz b i : Int), ()) := by
  obtain ⟨j, rfl⟩ : ∃ q, j = q + 12 := ⟨j - 12, by omega⟩
  have hs := sz_bd b i
  have hle := decode_le b i hi
  have w1 : IntKind.i64.wrap ((i : Int) + (sz b i : Int)) = ((i + sz b i : Nat) : Int) := by rw [wrap64 (by omega) (by omega)]; omega
  rw [X.f43_eq]
  simp only [sel_dec]
  rw [if_pos (by omega), if_pos (by omega), X.f37_eq]
  simp only [ob_some, e37_at b i hi]
  have hbq : ∀ k : Nat, (((rn b i : Nat) : Int) == (k : Int)) = (rn b i == k) := by
    intro k; rw [Bool.eq_iff_iff]; simp only [beq_iff_eq]; omega
  have hb1 : (((sz b i : Nat) : Int) == (1 : Int)) = (sz b i == 1) := by
    rw [Bool.eq_iff_iff]; simp only [beq_iff_eq]; omega
  have h4 : X.p43_4 (j + 11) (j + 11) b (i : Int) (rn b i : Int) (sz b i : Int) = some (bif rn b i == 10 then [92, 110] else bif rn b i == 9 then [92, 116] else bif rn b i == 32 then [92, 115] else bif rn b i == 34 then [92, 34] else bif rn b i == 92 then [92, 92] else
      bif self (rn b i) then ext b (i : Int) ((i + sz b i : Nat) : Int) else escs (ext b (i : Int) ((i + sz b i : Nat) : Int)), (sz b i : Int), ()) := by
    have hsm : ∀ k : Nat, k < 128 → (rn b i == k) = true → sz b i = 1 := by
      intro k hk h; exact (decode_small b i (by have := beq_iff_eq.1 h; omega)).1
    rw [X.p43_4_eq]
    have q10 := hbq 10
    have q9 := hbq 9
    have q32 := hbq 32
    have q34 := hbq 34
    have q92 := hbq 92
    simp only [Int.cast_ofNat_Int] at q10 q9 q32 q34 q92
    rw [q10, q9, q32, q34, q92]
    cases e10 : (rn b i == 10)
    · cases e9 : (rn b i == 9)
      · cases e32 : (rn b i == 32)
        · cases e34 : (rn b i == 34)
          · cases e92 : (rn b i == 92)
            · simp only [sel_f, cond_false, f38_ok X, ob_some]
              cases es : self (rn b i)
              · simp only [sel_f, cond_false]
                have := p43_19_ok X b hlen i (sz b i) hle hs.2 (sz b i) 0 (j + 10) (j + 11) (j + 10) [] (by omega) (by omega) (by simp)
                simpa using this
              · simp only [sel_t, cond_true, sel_dec, w1]
                rw [if_pos (by omega), if_pos (by omega), if_pos (by omega), if_pos (by omega)]
            · rw [hsm 92 (by omega) e92]; rfl
          · rw [hsm 34 (by omega) e34]; rfl
        · rw [hsm 32 (by omega) e32]; rfl
      · rw [hsm 9 (by omega) e9]; rfl
    · rw [hsm 10 (by omega) e10]; rfl
  have q := hbq 65533
  simp only [Int.cast_ofNat_Int] at q
  rw [q, hb1]
  unfold wri
  cases e1 : (rn b i == 65533)
  · simp only [sel_f, X.p43_2051_eq, Bool.false_and, cond_false]
    exact h4
  · cases e2 : (sz b i == 1)
    · simp only [sel_t, X.p43_2051_eq, sel_f, Bool.and_false, cond_false]
      exact h4
    · simp only [sel_t, X.p43_2051_eq, Bool.and_true, cond_true, sel_dec]
      rw [if_pos (by omega), if_pos (by omega), f69_ok X, beq_iff_eq.1 e2]
      rfl
end NqG

namespace NqG
open Go Lk
noncomputable def tys : BT (Ty × Md) := (.node (.node (.node (.node (.node .leaf 2 (.i .i64, .r) .leaf) 3 (.i .i64, .r) .leaf) 4 (.b, .r) (.node .leaf 5 (.by, .r) .leaf)) 6 (.by, .r) (.node (.node (.node .leaf 9 (.s, .r) .leaf) 10 (.s, .r) .leaf) 11 (.s, .r) (.node .leaf 12 (.i .u64, .r) .leaf))) 21 (.i .i32, .r) (.node (.node (.node (.node .leaf 22 (.i .i64, .r) .leaf) 32 (.l (.s), .o .r) .leaf) 33 (.l (.i .i64), .o .r) (.node .leaf 34 (.l (.by), .o .r) .leaf)) 61 (.i .u32, .r) (.node (.node .leaf 87 (.i .u64, .r) .leaf) 108 (.i .i64, .r) (.node .leaf 119 (.i .u64, .r) .leaf))))
noncomputable def sigs : BT Sig := (.node (.node (.node .leaf 37 ⟨[(.s, .r)], [(.i .i32, .r), (.i .i64, .r)]⟩ .leaf) 38 ⟨[(.i .i32, .r)], [(.b, .r)]⟩ .leaf) 43 ⟨[(.s, .r), (.i .i64, .r)], [(.s, .r), (.i .i64, .r)]⟩ (.node .leaf 69 ⟨[(.by, .r)], [(.s, .r)]⟩ .leaf))
noncomputable def bodies : BT Func := (.node (.node .leaf 38 Go.Proofs.Tryd.f38 .leaf) 43 Go.Proofs.Tryd.f43 (.node .leaf 69 Go.Proofs.Tryd.f69 .leaf))
noncomputable def exts : BT Func := (.node .leaf 37 Go.Proofs.Tryd.f37 .leaf)
noncomputable def lives : BT (List Nat) := (.node (.node .leaf 176132 [0, 1, 6, 7] .leaf) 176147 [0, 1, 7, 8, 47, 48] (.node .leaf 178179 [0, 1, 6, 7, 22] .leaf))
open Go Lk
noncomputable def ext37 : Nat → Tup [(.s, .r)] → Option (Tup [(.i .i32, .r), (.i .i64, .r)]) := fun _ x => some ((e37 x.1).1, (e37 x.1).2, ())
noncomputable def ext : (f : FuncId) → Option (Nat → Tup ((sigs.get f).getD ⟨[], []⟩).ps → Option (Tup ((sigs.get f).getD ⟨[], []⟩).rs))
  | 37 => some ext37
  | _ => none
noncomputable def lims : BT Nat := (.node (.node .leaf 32 1073741824 .leaf) 34 1073741824 .leaf)
noncomputable def G : Prg where
  ty T := tys.get T
  lim T := (lims.get T).getD 0
  sig g := (sigs.get g).getD ⟨[], []⟩
  body g := bodies.get g
  ext g := ext g
  live g r := lives.get (Nat.add (Nat.mul g 4096) r)
end NqG

namespace NqG
open Go Lk
set_option linter.unusedVariables false
/-- unicode/utf8.DecodeRuneInString -/
@[irreducible] noncomputable def f37 (n : Nat) (a0 : List UInt8) : Option (Int × Int × Unit) := F G n 37 (a0, ())
theorem f37_eq (n : Nat) (a0 : List UInt8) : f37 n a0 = some ((e37 a0).1, (e37 a0).2, ()) := by kernel_rfl
/-- moraine/names.itself -/
@[irreducible] noncomputable def f38 (n : Nat) (a0 : Int) : Option (Bool × Unit) := F G n 38 (a0, ())
/-- moraine/names.escaped -/
@[irreducible] noncomputable def f69 (n : Nat) (a0 : UInt8) : Option (List UInt8 × Unit) := F G n 69 (a0, ())
/-- moraine/names.written -/
@[irreducible] noncomputable def f43 (n : Nat) (a0 : List UInt8) (a1 : Int) : Option (List UInt8 × Int × Unit) := F G n 43 (a0, a1, ())
@[irreducible] noncomputable def p43_2051 (j : Nat) (n0 : Nat) (v0 : List UInt8) (v1 : Int) (v6 : Int) (v7 : Int) (v22 : Bool) : Option (List UInt8 × Int × Unit) := piece G 43 [.r, .r, .l, .r] j [n0] (skel 62 0 [(0, .av ⟨.s, .r, v0⟩), (1, .av ⟨(.i .i64), .r, v1⟩), (6, .av ⟨(.i .i32), .r, v6⟩), (7, .av ⟨(.i .i64), .r, v7⟩), (22, .av ⟨.b, .r, v22⟩)])
@[irreducible] noncomputable def p43_4 (j : Nat) (n0 : Nat) (v0 : List UInt8) (v1 : Int) (v6 : Int) (v7 : Int) : Option (List UInt8 × Int × Unit) := piece G 43 [.r, .r, .r] j [n0] (skel 62 0 [(0, .av ⟨.s, .r, v0⟩), (1, .av ⟨(.i .i64), .r, v1⟩), (6, .av ⟨(.i .i32), .r, v6⟩), (7, .av ⟨(.i .i64), .r, v7⟩)])
@[irreducible] noncomputable def p43_19 (j : Nat) (n0 : Nat) (n1 : Nat) (v0 : List UInt8) (v1 : Int) (v7 : Int) (v8 : List UInt8) (v47 : Int) (v48 : Int) : Option (List UInt8 × Int × Unit) := piece G 43 [.r, .r, .r, .r, .r, .r, .l, .r, .b] j [n0, n1] (skel 62 0 [(0, .av ⟨.s, .r, v0⟩), (1, .av ⟨(.i .i64), .r, v1⟩), (7, .av ⟨(.i .i64), .r, v7⟩), (8, .av ⟨.s, .r, v8⟩), (47, .av ⟨(.i .i64), .r, v47⟩), (48, .av ⟨(.i .i64), .r, v48⟩)])
theorem f38_eq (n : Nat) (a0 : Int) : f38 (n + 1) a0 =
  (sel (Decidable.decide (a0 > (32 : Int)))
   (sel (Decidable.decide (a0 < (127 : Int)))
    (sel (a0 != (34 : Int))
     (sel (a0 != (92 : Int))
      (some (Bool.true, ()))
      (some (Decidable.decide (a0 > (160 : Int)), ())))
     (some (Decidable.decide (a0 > (160 : Int)), ())))
    (some (Decidable.decide (a0 > (160 : Int)), ())))
   (some (Decidable.decide (a0 > (160 : Int)), ()))) := by kernel_rfl
theorem f69_eq (n : Nat) (a0 : UInt8) : f69 (n + 1) a0 =
  (sel (Decidable.decide ((0 : Int) ≤ (4 : Int)))
   (sel (Decidable.decide ((0 : Int) ≤ (4 : Int)))
    (sel (Decidable.decide ((0 : Int) ≤ (↑(UInt8.ofNat (Go.IntKind.u8.wrap ((↑(UInt8.ofNat ((↑a0.toNat : Int).fdiv ((2 : Int) ^ Min.min (Int.toNat (4 : Int)) Go.IntKind.u8.bits)).toNat).toNat : Int) + (↑(UInt8.toNat (1 : UInt8)) : Int))).toNat).toNat : Int)))
     (sel (Decidable.decide ((↑(UInt8.ofNat (Go.IntKind.u8.wrap ((↑(UInt8.ofNat ((↑a0.toNat : Int).fdiv ((2 : Int) ^ Min.min (Int.toNat (4 : Int)) Go.IntKind.u8.bits)).toNat).toNat : Int) + (↑(UInt8.toNat (1 : UInt8)) : Int))).toNat).toNat : Int) ≤ (↑[(48 : UInt8), (49 : UInt8), (50 : UInt8), (51 : UInt8), (52 : UInt8), (53 : UInt8), (54 : UInt8), (55 : UInt8), (56 : UInt8), (57 : UInt8), (97 : UInt8), (98 : UInt8), (99 : UInt8), (100 : UInt8), (101 : UInt8), (102 : UInt8)].length : Int)))
      (sel (Decidable.decide ((0 : Int) ≤ (↑(UInt8.ofNat ((↑a0.toNat : Int).fdiv ((2 : Int) ^ Min.min (Int.toNat (4 : Int)) Go.IntKind.u8.bits)).toNat).toNat : Int)))
       (sel (Decidable.decide ((↑(UInt8.ofNat ((↑a0.toNat : Int).fdiv ((2 : Int) ^ Min.min (Int.toNat (4 : Int)) Go.IntKind.u8.bits)).toNat).toNat : Int) ≤ (↑(UInt8.ofNat (Go.IntKind.u8.wrap ((↑(UInt8.ofNat ((↑a0.toNat : Int).fdiv ((2 : Int) ^ Min.min (Int.toNat (4 : Int)) Go.IntKind.u8.bits)).toNat).toNat : Int) + (↑(UInt8.toNat (1 : UInt8)) : Int))).toNat).toNat : Int)))
        (sel (Decidable.decide ([(92 : UInt8), (120 : UInt8)].length + (Lk.ext [(48 : UInt8), (49 : UInt8), (50 : UInt8), (51 : UInt8), (52 : UInt8), (53 : UInt8), (54 : UInt8), (55 : UInt8), (56 : UInt8), (57 : UInt8), (97 : UInt8), (98 : UInt8), (99 : UInt8), (100 : UInt8), (101 : UInt8), (102 : UInt8)] (↑(UInt8.ofNat ((↑a0.toNat : Int).fdiv ((2 : Int) ^ Min.min (Int.toNat (4 : Int)) Go.IntKind.u8.bits)).toNat).toNat : Int) (↑(UInt8.ofNat (Go.IntKind.u8.wrap ((↑(UInt8.ofNat ((↑a0.toNat : Int).fdiv ((2 : Int) ^ Min.min (Int.toNat (4 : Int)) Go.IntKind.u8.bits)).toNat).toNat : Int) + (↑(UInt8.toNat (1 : UInt8)) : Int))).toNat).toNat : Int)).length ≤ Lk.big))
         (sel (Decidable.decide ((0 : Int) ≤ (↑(UInt8.ofNat (Go.IntKind.u8.wrap ((↑(UInt8.ofNat (Lk.ibits Go.BinOp.and Go.IntKind.u8 (↑a0.toNat : Int) (↑(UInt8.toNat (15 : UInt8)) : Int)).toNat).toNat : Int) + (↑(UInt8.toNat (1 : UInt8)) : Int))).toNat).toNat : Int)))
          (sel (Decidable.decide ((↑(UInt8.ofNat (Go.IntKind.u8.wrap ((↑(UInt8.ofNat (Lk.ibits Go.BinOp.and Go.IntKind.u8 (↑a0.toNat : Int) (↑(UInt8.toNat (15 : UInt8)) : Int)).toNat).toNat : Int) + (↑(UInt8.toNat (1 : UInt8)) : Int))).toNat).toNat : Int) ≤ (↑[(48 : UInt8), (49 : UInt8), (50 : UInt8), (51 : UInt8), (52 : UInt8), (53 : UInt8), (54 : UInt8), (55 : UInt8), (56 : UInt8), (57 : UInt8), (97 : UInt8), (98 : UInt8), (99 : UInt8), (100 : UInt8), (101 : UInt8), (102 : UInt8)].length : Int)))
           (sel (Decidable.decide ((0 : Int) ≤ (↑(UInt8.ofNat (Lk.ibits Go.BinOp.and Go.IntKind.u8 (↑a0.toNat : Int) (↑(UInt8.toNat (15 : UInt8)) : Int)).toNat).toNat : Int)))
            (sel (Decidable.decide ((↑(UInt8.ofNat (Lk.ibits Go.BinOp.and Go.IntKind.u8 (↑a0.toNat : Int) (↑(UInt8.toNat (15 : UInt8)) : Int)).toNat).toNat : Int) ≤ (↑(UInt8.ofNat (Go.IntKind.u8.wrap ((↑(UInt8.ofNat (Lk.ibits Go.BinOp.and Go.IntKind.u8 (↑a0.toNat : Int) (↑(UInt8.toNat (15 : UInt8)) : Int)).toNat).toNat : Int) + (↑(UInt8.toNat (1 : UInt8)) : Int))).toNat).toNat : Int)))
             (sel (Decidable.decide (([(92 : UInt8), (120 : UInt8)] ++ Lk.ext [(48 : UInt8), (49 : UInt8), (50 : UInt8), (51 : UInt8), (52 : UInt8), (53 : UInt8), (54 : UInt8), (55 : UInt8), (56 : UInt8), (57 : UInt8), (97 : UInt8), (98 : UInt8), (99 : UInt8), (100 : UInt8), (101 : UInt8), (102 : UInt8)] (↑(UInt8.ofNat ((↑a0.toNat : Int).fdiv ((2 : Int) ^ Min.min (Int.toNat (4 : Int)) Go.IntKind.u8.bits)).toNat).toNat : Int) (↑(UInt8.ofNat (Go.IntKind.u8.wrap ((↑(UInt8.ofNat ((↑a0.toNat : Int).fdiv ((2 : Int) ^ Min.min (Int.toNat (4 : Int)) Go.IntKind.u8.bits)).toNat).toNat : Int) + (↑(UInt8.toNat (1 : UInt8)) : Int))).toNat).toNat : Int)).length + (Lk.ext [(48 : UInt8), (49 : UInt8), (50 : UInt8), (51 : UInt8), (52 : UInt8), (53 : UInt8), (54 : UInt8), (55 : UInt8), (56 : UInt8), (57 : UInt8), (97 : UInt8), (98 : UInt8), (99 : UInt8), (100 : UInt8), (101 : UInt8), (102 : UInt8)] (↑(UInt8.ofNat (Lk.ibits Go.BinOp.and Go.IntKind.u8 (↑a0.toNat : Int) (↑(UInt8.toNat (15 : UInt8)) : Int)).toNat).toNat : Int) (↑(UInt8.ofNat (Go.IntKind.u8.wrap ((↑(UInt8.ofNat (Lk.ibits Go.BinOp.and Go.IntKind.u8 (↑a0.toNat : Int) (↑(UInt8.toNat (15 : UInt8)) : Int)).toNat).toNat : Int) + (↑(UInt8.toNat (1 : UInt8)) : Int))).toNat).toNat : Int)).length ≤ Lk.big))
              (some ([(92 : UInt8), (120 : UInt8)] ++ Lk.ext [(48 : UInt8), (49 : UInt8), (50 : UInt8), (51 : UInt8), (52 : UInt8), (53 : UInt8), (54 : UInt8), (55 : UInt8), (56 : UInt8), (57 : UInt8), (97 : UInt8), (98 : UInt8), (99 : UInt8), (100 : UInt8), (101 : UInt8), (102 : UInt8)] (↑(UInt8.ofNat ((↑a0.toNat : Int).fdiv ((2 : Int) ^ Min.min (Int.toNat (4 : Int)) Go.IntKind.u8.bits)).toNat).toNat : Int) (↑(UInt8.ofNat (Go.IntKind.u8.wrap ((↑(UInt8.ofNat ((↑a0.toNat : Int).fdiv ((2 : Int) ^ Min.min (Int.toNat (4 : Int)) Go.IntKind.u8.bits)).toNat).toNat : Int) + (↑(UInt8.toNat (1 : UInt8)) : Int))).toNat).toNat : Int) ++ Lk.ext [(48 : UInt8), (49 : UInt8), (50 : UInt8), (51 : UInt8), (52 : UInt8), (53 : UInt8), (54 : UInt8), (55 : UInt8), (56 : UInt8), (57 : UInt8), (97 : UInt8), (98 : UInt8), (99 : UInt8), (100 : UInt8), (101 : UInt8), (102 : UInt8)] (↑(UInt8.ofNat (Lk.ibits Go.BinOp.and Go.IntKind.u8 (↑a0.toNat : Int) (↑(UInt8.toNat (15 : UInt8)) : Int)).toNat).toNat : Int) (↑(UInt8.ofNat (Go.IntKind.u8.wrap ((↑(UInt8.ofNat (Lk.ibits Go.BinOp.and Go.IntKind.u8 (↑a0.toNat : Int) (↑(UInt8.toNat (15 : UInt8)) : Int)).toNat).toNat : Int) + (↑(UInt8.toNat (1 : UInt8)) : Int))).toNat).toNat : Int), ()))
              none)
             none)
            none)
           none)
          none)
         none)
        none)
       none)
      none)
     none)
    none)
   none) := by kernel_rfl
theorem f43_eq (n : Nat) (a0 : List UInt8) (a1 : Int) : f43 (n + 1) a0 a1 =
  (sel (Decidable.decide ((0 : Int) ≤ a1))
   (sel (Decidable.decide (a1 ≤ (↑a0.length : Int)))
    (obind (f37 n (Lk.ext a0 a1 (↑a0.length : Int))) fun r58 =>
     (sel (r58.fst == (65533 : Int))
      (p43_2051 (n) (n) (a0) (a1) (r58.fst) (r58.snd.fst) (r58.snd.fst == (1 : Int)))
      (p43_2051 (n) (n) (a0) (a1) (r58.fst) (r58.snd.fst) (Bool.false))))
    none)
   none) := by kernel_rfl
theorem p43_2051_eq (j : Nat) (n0 : Nat) (v0 : List UInt8) (v1 : Int) (v6 : Int) (v7 : Int) (v22 : Bool) : p43_2051 (j + 1) n0 v0 v1 v6 v7 v22 =
  (sel (v22)
   (sel (Decidable.decide ((0 : Int) ≤ v1))
    (sel (Decidable.decide (v1 < (↑v0.length : Int)))
     (obind (f69 j (v0.getD v1.toNat (0 : UInt8))) fun r221 =>
      (some (r221.fst, (1 : Int), ())))
     none)
    none)
   (p43_4 (n0) (n0) (v0) (v1) (v6) (v7))) := by kernel_rfl
theorem p43_4_eq (j : Nat) (n0 : Nat) (v0 : List UInt8) (v1 : Int) (v6 : Int) (v7 : Int) : p43_4 (j + 1) n0 v0 v1 v6 v7 =
  (sel (v6 == (10 : Int))
   (some ([(92 : UInt8), (110 : UInt8)], (1 : Int), ()))
   (sel (v6 == (9 : Int))
    (some ([(92 : UInt8), (116 : UInt8)], (1 : Int), ()))
    (sel (v6 == (32 : Int))
     (some ([(92 : UInt8), (115 : UInt8)], (1 : Int), ()))
     (sel (v6 == (34 : Int))
      (some ([(92 : UInt8), (34 : UInt8)], (1 : Int), ()))
      (sel (v6 == (92 : Int))
       (some ([(92 : UInt8), (92 : UInt8)], (1 : Int), ()))
       (obind (f38 j (v6)) fun r605 =>
        (sel (r605.fst)
         (sel (Decidable.decide ((0 : Int) ≤ Go.IntKind.i64.wrap (v1 + v7)))
          (sel (Decidable.decide (Go.IntKind.i64.wrap (v1 + v7) ≤ (↑v0.length : Int)))
           (sel (Decidable.decide ((0 : Int) ≤ v1))
            (sel (Decidable.decide (v1 ≤ Go.IntKind.i64.wrap (v1 + v7)))
             (some (Lk.ext v0 v1 (Go.IntKind.i64.wrap (v1 + v7)), v7, ()))
             none)
            none)
           none)
          none)
         (p43_19 (j) (n0) (j) (v0) (v1) (v7) ([]) (v7) ((0 : Int)))))))))) := by kernel_rfl
theorem p43_19_eq (j : Nat) (n0 : Nat) (n1 : Nat) (v0 : List UInt8) (v1 : Int) (v7 : Int) (v8 : List UInt8) (v47 : Int) (v48 : Int) : p43_19 (j + 1) n0 n1 v0 v1 v7 v8 v47 v48 =
  (sel (Decidable.decide (v48 < v47))
   (sel (Decidable.decide ((0 : Int) ≤ Go.IntKind.i64.wrap (v1 + v48)))
    (sel (Decidable.decide (Go.IntKind.i64.wrap (v1 + v48) < (↑v0.length : Int)))
     (obind (f69 j (v0.getD (Go.IntKind.i64.wrap (v1 + v48)).toNat (0 : UInt8))) fun r840 =>
      (sel (Decidable.decide (v8.length + List.length r840.fst ≤ Lk.big))
       (p43_19 (j) (n0) (n1) (v0) (v1) (v7) (v8 ++ r840.fst) (v47) (Go.IntKind.i64.wrap (v48 + (1 : Int))))
       none))
     none)
    none)
   (some (v8, v7, ()))) := by kernel_rfl
end NqG

namespace NqG
open Go Lk
noncomputable def theFns0 : Fns0 where
  f37 := f37
  f38 := f38
  f69 := f69
  f43 := f43
  p43_2051 := p43_2051
  p43_4 := p43_4
  p43_19 := p43_19
  f37_eq := f37_eq
  f38_eq := f38_eq
  f69_eq := f69_eq
  f43_eq := f43_eq
  p43_2051_eq := p43_2051_eq
  p43_4_eq := p43_4_eq
  p43_19_eq := p43_19_eq
end NqG

/-! (*strings.Builder) at this program, and names.Quote by them. -/
namespace Go.Proofs
open Go.RowKit Go.Shelf

def Tryd.wb_ren : Go.Shelf.Ren := { Tryd.lays105_ren with f := fun | 167 => 42 | n => Tryd.lays105_ren.f n, t := fun | 80 => 74 | n => Tryd.lays105_ren.t n }
theorem Tryd.wb_lays : Go.Proofs.Lays.n167 Tryd.prog Tryd.wb_ren := {
  mixed := by kernel_rfl
  f167 := Tryd.func42.trans (congrArg some (by kernel_rfl))
  f240 := Tryd.func68.trans (congrArg some (by kernel_rfl))
  f276 := Tryd.func84.trans (congrArg some (by kernel_rfl))
  t0 := Tryd.underlying0
  a0 := Tryd.isAgg0
  z0 := Tryd.sizeOf0
  v0 := Tryd.zeroValue0
  t4 := Tryd.underlying4
  a4 := Tryd.isAgg4
  z4 := Tryd.sizeOf4
  v4 := Tryd.zeroValue4
  t5 := Tryd.underlying5
  a5 := Tryd.isAgg5
  z5 := Tryd.sizeOf5
  v5 := Tryd.zeroValue5
  t9 := Tryd.underlying9
  a9 := Tryd.isAgg9
  z9 := Tryd.sizeOf9
  v9 := Tryd.zeroValue9
  t20 := Tryd.underlying20
  a20 := Tryd.isAgg20
  z20 := Tryd.sizeOf20
  v20 := Tryd.zeroValue20
  t37 := Tryd.underlying34
  a37 := Tryd.isAgg34
  z37 := Tryd.sizeOf34
  v37 := Tryd.zeroValue34
  t70 := Tryd.underlying65
  a70 := Tryd.isAgg65
  z70 := Tryd.sizeOf65
  v70 := Tryd.zeroValue65
  t72 := Tryd.underlying67
  a72 := Tryd.isAgg67
  z72 := Tryd.sizeOf67
  v72 := Tryd.zeroValue67
  t75 := Tryd.underlying69
  a75 := Tryd.isAgg69
  z75 := Tryd.sizeOf69
  v75 := Tryd.zeroValue69
  t164 := Tryd.underlying102
  a164 := Tryd.isAgg102
  z164 := Tryd.sizeOf102
  v164 := Tryd.zeroValue102 }
theorem Tryd.wb_extra : Builder.Extra Tryd.prog Tryd.wb_ren := {
  sizeBuilder := by kernel_rfl
  liesBuilder := by kernel_rfl
  t5 := Tryd.underlying5
  a5 := Tryd.isAgg5
  z5 := Tryd.sizeOf5
  v5 := Tryd.zeroValue5
  infoByte := by kernel_rfl
  cellsByte := by kernel_rfl
  sizeByte := by kernel_rfl
  neB5 := by decide }

theorem Tryd.wbyte (B b : Nat) (bs : List Value) (c : Int) (w : World) (h : Lib.IsBuilderF 67 5 B b bs w) (hlen : bs.length + 1 ≤ 140737488355328) (hBw : B ≤ w.heap.size) :
    Calls Tryd.prog 42 #[.pointer (some ⟨b, 0, none⟩), .int .u8 c] w fun e w' => e = .returned .nilIface ∧ (Lib.BuilderAtF 67 5 B b (.pointer (some ⟨b, 0, none⟩)) (bs ++ [.int .u8 c]) w' ∧ Below B w w' ∧ Lib.OthersKept 5 (some b) w w') :=
  Any.Builder_WriteByte_k Tryd.wb_lays Tryd.wb_extra B b bs c w h hlen hBw
theorem Tryd.wstring (B b : Nat) (bs : List Value) (s : ByteArray) (w : World) (h : Lib.IsBuilderF 67 5 B b bs w) (hlen : bs.length + s.size ≤ 140737488355328) (hBw : B ≤ w.heap.size) :
    Calls Tryd.prog 44 #[.pointer (some ⟨b, 0, none⟩), .string s] w fun e w' => e = .returned (.tuple #[.int .i64 s.size, .nilIface]) ∧ (Lib.BuilderAtF 67 5 B b (.pointer (some ⟨b, 0, none⟩)) (bs ++ Lib.strCells s) w' ∧ Below B w w' ∧ Lib.OthersKept 5 (some b) w w') :=
  Any.Builder_WriteString_k (L := { Tryd.lays105 with }) Tryd.Builder_Extra_105 B b bs s w h hlen hBw

/-- What stays: utf8's tables. -/
def Tryd.Tabs (w : World) : Prop := Lib.Utf8Tabs 0 1 w

theorem Tryd.ext37 (n : Nat) : Lk.FnOk (τ := 3) (Kw := Tryd.Tabs) Tryd.prog 37 ⟨[(.s, .r)], [(.i .i32, .r), (.i .i64, .r)]⟩ (NqG.ext37 n) := by
  intro x res hx w S Sb vals hK _ hargs
  obtain ⟨v, vs, sh, rfl, hh, _, rfl, rfl⟩ := hargs
  have hlen : x.1.length ≤ Lk.big := hh.2
  have hc := Tryd.utf8_DecodeRuneInString ⟨x.1.toArray⟩ w hK
  refine hc.mono fun e w' ⟨he, hb⟩ => ⟨_, he, ⟨hb.os, hb.tape, hb.output, hb.size, fun b h _ => hb.block b h⟩, ?_⟩
  unfold NqG.ext37 at hx
  cases hx
  have hd : ((Lib.decodeGo ⟨x.1.toArray⟩).1 : Int) = (NqG.e37 x.1).1 ∧ ((Lib.decodeGo ⟨x.1.toArray⟩).2 : Int) = (NqG.e37 x.1).2 := by
    unfold NqG.e37 Lib.decodeGo
    cases hx : x.1 with
    | nil => simp [← ByteArray.size_data]
    | cons a l =>
      have : (ByteArray.mk (a :: l).toArray).size ≠ 0 := by simp [← ByteArray.size_data]
      simp [this]
  rw [hd.1, hd.2]
  have r1 : Lk.inR .i32 (NqG.e37 x.1).1 := by
    unfold NqG.e37
    cases x.1.isEmpty
    · have := NqG.rn_lt x.1 0
      unfold NqG.rn at this
      simp only [cond_false, Lk.inR, Lk.kmin, Lk.kmax]; omega
    · simp [Lk.inR, Lk.kmin, Lk.kmax]
  have r2 : Lk.inR .i64 (NqG.e37 x.1).2 := by
    unfold NqG.e37
    cases x.1.isEmpty
    · have := Lk.sz_bd x.1 0
      unfold Lk.sz at this
      simp only [cond_false, Lk.inR, Lk.kmin, Lk.kmax]; omega
    · simp [Lk.inR, Lk.kmin, Lk.kmax]
  exact ⟨[⟨.i .i32, .r, (NqG.e37 x.1).1, ()⟩, ⟨.i .i64, .r, (NqG.e37 x.1).2, ()⟩], rfl, by
    intro d hd
    simp only [List.mem_cons, List.not_mem_nil, or_false] at hd
    rcases hd with rfl | rfl
    · exact ⟨rfl, r1⟩
    · exact ⟨rfl, r2⟩, by simp [Lk.DV.bl, Lk.bl], by simp [Lk.DV.bl, Lk.bl], rfl⟩
end Go.Proofs

namespace Go.Proofs
open Go.RowKit Go.Shelf

theorem Tryd.cell_keep {w w' : World} (hx : Lk.Ext [] w w') {a : Addr} {v : Value} (h : w.cell? a = some v) : w'.cell? a = some v := by
  have hlt : a.block < w.heap.size := by
    unfold World.cell? at h
    rcases Nat.lt_or_ge a.block w.heap.size with h' | h'
    · exact h'
    · rw [Array.getElem?_eq_none h'] at h; cases h
  unfold World.cell? at h ⊢
  rw [hx.block a.block hlt (by simp)]
  exact h

theorem Tryd.tabs_keep : ∀ w w', Tryd.Tabs w → Lk.Ext [] w w' → Tryd.Tabs w' := by
  intro w w' h hx
  exact ⟨fun c hc => Tryd.cell_keep hx (h.1 c hc), fun i hi => ⟨Tryd.cell_keep hx (h.2 i hi).1, Tryd.cell_keep hx (h.2 i hi).2⟩⟩

theorem Tryd.env0 : Lk.EnvOk Tryd.prog NqG.G.toEnv := Lk.env_ok (tys := NqG.tys) (lims := NqG.lims) (fun _ => rfl) (fun _ => rfl) (by kernel_rfl)
theorem Tryd.names0 : (NqG.bodies.toList ++ NqG.exts.toList).all (fun p => Lk.nameB p.2) = true := by kernel_rfl
theorem Tryd.funcs0 : ∀ p ∈ NqG.bodies.toList ++ NqG.exts.toList, Tryd.prog.funcs[p.1]? = some p.2 := by
  intro p hp
  have e : NqG.bodies.toList ++ NqG.exts.toList = [(38, Tryd.f38), (43, Tryd.f43), (69, Tryd.f69), (37, Tryd.f37)] := by kernel_rfl
  rw [e] at hp
  simp only [List.mem_cons, List.not_mem_nil, or_false] at hp
  rcases hp with rfl | rfl | rfl | rfl
  · exact Tryd.func38
  · exact Tryd.func43
  · exact Tryd.func69
  · exact Tryd.func37

theorem Tryd.ext0 : ∀ g F n, NqG.G.ext g = some F → Lk.FnOk (τ := 3) (Kw := Tryd.Tabs) Tryd.prog g (NqG.G.sig g) (F n) := by
  intro g F n h
  show Lk.FnOk (τ := 3) (Kw := Tryd.Tabs) Tryd.prog g ((NqG.sigs.get g).getD ⟨[], []⟩) (F n)
  change NqG.ext g = some F at h
  unfold NqG.ext at h
  split at h
  · cases h; exact Tryd.ext37 n
  · cases h

theorem Tryd.extb0 : ∀ g F, NqG.G.ext g = some F → (NqG.exts.get g).isSome = true := by
  intro g F h
  change NqG.ext g = some F at h
  unfold NqG.ext at h
  split at h
  · rfl
  · cases h

theorem Tryd.prg0 : Lk.PrgOk Tryd.Tabs 3 Tryd.prog NqG.G :=
  Lk.prg_ok (bodies := NqG.bodies) (exts := NqG.exts) Tryd.env0 (by kernel_rfl) Tryd.tabs_keep (fun _ => rfl) Tryd.extb0 Tryd.ext0 Tryd.funcs0 Tryd.names0 (by kernel_rfl)

/-- names.written. -/
theorem Tryd.written (s : ByteArray) (i : Nat) (w : World) (hT : Tryd.Tabs w) (hs : s.size ≤ 1073741824) (hi : i < s.size) :
    Calls Tryd.prog 43 #[.string s, .int .i64 i] w fun e w' => e = .returned (.tuple #[.string ⟨(NqG.wri s.data.toList i).toArray⟩, .int .i64 (Lk.sz s.data.toList i : Nat)]) ∧ Below w.heap.size w w' := by
  have hok : Lk.FnOk (τ := 3) (Kw := Tryd.Tabs) Tryd.prog 43 ⟨[(.s, .r), (.i .i64, .r)], [(.s, .r), (.i .i64, .r)]⟩ (Lk.F NqG.G 20 43) := Lk.F_ok Tryd.prg0 (Lk.res_le (bodies := NqG.bodies) (exts := NqG.exts) (fun _ => rfl) Tryd.names0) _ 43
  have hl : s.data.toList.length = s.size := by rw [Array.length_toList]; rfl
  have hF : Lk.F NqG.G 20 43 (s.data.toList, (i : Int), ()) = some (NqG.wri s.data.toList i, (Lk.sz s.data.toList i : Int), ()) := by
    have := NqG.f43_ok NqG.theFns0 s.data.toList (by omega) i (by omega) 20 (by omega)
    have e : NqG.theFns0.f43 20 s.data.toList (i : Int) = NqG.f43 20 s.data.toList (i : Int) := rfl
    rw [e] at this
    unfold NqG.f43 at this
    exact this
  refine (hok _ _ hF w (fun b => b < w.heap.size) (fun _ => False) [.string s, .int .i64 i] hT (fun b h => h.elim id False.elim) ?_).mono ?_
  · refine ⟨_, _, (), rfl, ⟨rfl, ?_⟩, rfl, rfl, _, _, (), rfl, ⟨rfl, ?_⟩, rfl, rfl, rfl⟩
    · show s.data.toList.length ≤ 9223372036854775807; omega
    · show Lk.inR .i64 (i : Int); simp only [Lk.inR, Lk.kmin, Lk.kmax]; omega
  · rintro e w' ⟨v, he, hx, hr⟩
    obtain ⟨rds, h1, h2, _, _, h5⟩ := hr.ex
    refine ⟨?_, hx.os, hx.tape, hx.output, hx.size, fun k hk => hx.block k hk (by simp)⟩
    rw [he, h5]
    simp only [Lk.avs] at h1
    obtain ⟨d1, d2, rfl⟩ : ∃ d1 d2, rds = [d1, d2] := by
      cases rds with
      | nil => simp at h1
      | cons d1 r =>
        cases r with
        | nil => simp at h1
        | cons d2 r =>
          cases r with
          | nil => exact ⟨d1, d2, rfl⟩
          | cons _ _ => simp at h1
    · simp only [List.map_cons, List.map_nil, List.cons.injEq, and_true] at h1
      obtain ⟨e1, e2⟩ := h1
      obtain ⟨t1, m1, x1, s1⟩ := d1
      obtain ⟨t2, m2, x2, s2⟩ := d2
      simp only [Lk.DV.av, Lk.AV.mk.injEq] at e1 e2
      obtain ⟨rfl, rfl, e1⟩ := e1
      obtain ⟨rfl, rfl, e2⟩ := e2
      have e1 := eq_of_heq e1
      have e2 := eq_of_heq e2
      subst e1; subst e2
      rfl
end Go.Proofs

namespace Go.Proofs
open Go.RowKit Go.Shelf

theorem Tryd.isb_below {T e : TypeId} {B b : Nat} {bs : List Value} {w w' : World} (h : Lib.IsBuilderF T e B b bs w) (hb : Below w.heap.size w w') : Lib.IsBuilderF T e B b bs w' := by
  have one : ∀ p, Lib.BuilderAtF T e B b p bs w → Lib.BuilderAtF T e B b p bs w' := by
    rintro p ⟨hB, v, h1, h2, h3⟩
    have hlt : b < w.heap.size := (Array.getElem?_eq_some_iff.1 h1).1
    exact ⟨hB, v, by rw [hb.block b hlt]; exact h1, h2.kept (row := none) ⟨hb.os, hb.tape, hb.output, hb.size, fun k hk _ => hb.block k hk⟩ (by
      cases e : v.ownBlock with
      | none => exact .inl rfl
      | some k => exact .inr (by simp)), h3⟩
  exact h.elim (fun x => .inl (one _ x)) (fun x => .inr (one _ x))

theorem Tryd.size_list (s : ByteArray) : s.data.toList.length = s.size := by rw [Array.length_toList]; rfl

def Tryd.qLoop (s : ByteArray) (w : World) (it : Nat) (wr : World) (pos fuel : Nat) (acc : List UInt8) : Prop :=
  Lib.IsBuilderF 67 5 w.heap.size w.heap.size (Lib.byteCells acc) wr ∧ wr.heap[it]? = some (.stringIter s pos) ∧ Below w.heap.size w wr ∧ acc ++ NqG.qFrom s.data.toList fuel pos = 34 :: NqG.qFrom s.data.toList s.size 0 ∧ s.size ≤ pos + fuel ∧ acc.length ≤ 4 * pos + 1 ∧ pos ≤ s.size

set_option maxHeartbeats 4000000 in
set_option maxRecDepth 1000000 in
theorem Tryd.quote (s : ByteArray) (w : World) (hT : Tryd.Tabs w) (hs : s.size ≤ 1073741824) :
    Calls Tryd.prog 13 #[.string s] w fun e w' => e = .returned (.string ⟨(NqG.quote s.data.toList).toArray⟩) ∧ Below w.heap.size w w' := by
  go_enter Tryd.func13, Tryd.ntmps13
  have hI0 := Lib.IsBuilderF.of (Lib.fresh_isBuilder 67 5 w)
  go_wp2_with (go_at_call 42; refine (Tryd.wbyte w.heap.size w.heap.size _ 34 _ hI0 (by simp) (by simp)).mono ?_)
  rintro e W1 ⟨rfl, h1, b1, k1⟩
  go_wp2
  have hsz1 : w.heap.size < W1.heap.size := by have := b1.size; simp at this; omega
  go_loopw [] (fun wr => ∃ (pos fuel : Nat) (acc : List UInt8), Tryd.qLoop s w W1.heap.size wr pos fuel acc) (fun wr => s.size - wr.iterPos W1.heap.size)
  case atStart =>
    refine ⟨0, s.size, [34], ?_, ?_, ?_, rfl, by omega, by simp, by omega⟩
    · exact Lib.IsBuilderF.alloc (Or.inr h1) _
    · have := World.iter_heap W1 s 0
      simpa using this
    · exact (((Below.refl _ w).alloc (Nat.le_refl _) _).trans b1).alloc (by omega) _
  case round =>
    obtain ⟨pos, fuel, acc, hI, hit, hbw, hacc, hfu, hal, hps⟩ := hrel
    have hszr : W1.heap.size < wr.heap.size := (Array.getElem?_eq_some_iff.1 hit).1
    by_cases hp : pos < s.size
    · have hnx : ∀ ty, (Instr.next (.pointer (some ⟨W1.heap.size, 0, none⟩)) true ty).run Tryd.prog wr = _ := fun ty => Lib.run_next_any_at wr W1.heap.size s pos ty hit hp
      have hI2 := hI.iterAt hit (pos + (Utf8.decode s pos).2)
      have hit2 := Lib.iterAt_heap wr W1.heap.size s pos (pos + (Utf8.decode s pos).2) hit
      have hbw2 := Lib.below_iterAt hbw (k := W1.heap.size) (by omega) s (pos + (Utf8.decode s pos).2)
      have hsz2 : (wr.iterAt W1.heap.size s (pos + (Utf8.decode s pos).2)).heap.size = wr.heap.size := Lib.iterAt_size _ _ _ _
      have hT2 : Tryd.Tabs (wr.iterAt W1.heap.size s (pos + (Utf8.decode s pos).2)) := Tryd.tabs_keep _ _ hT ⟨hbw2.os, hbw2.tape, hbw2.output, hbw2.size, fun b hb _ => hbw2.block b hb⟩
      go_wp2_with (go_at_call 43; refine (Tryd.written s pos _ hT2 hs hp).mono ?_)
      rintro e W2 ⟨rfl, b2⟩
      have hI3 := Tryd.isb_below hI2 b2
      have hit3 : W2.heap[W1.heap.size]? = some (.stringIter s (pos + (Utf8.decode s pos).2)) := by rw [b2.block _ (by omega)]; exact hit2
      have hbw3 : Below w.heap.size w W2 := hbw2.trans (b2.mono hbw2.size)
      have hsz3 : w.heap.size ≤ W2.heap.size := hbw3.size
      have hsl := Tryd.size_list s
      have hwl := NqG.wri_len s.data.toList pos (by omega)
      have hdl := NqG.decode_le s.data.toList pos (by omega)
      have hsd : Lk.sz s.data.toList pos = (Utf8.decode s pos).2 := rfl
      have hp1 := (Lk.sz_bd s.data.toList pos).1
      rw [hsd] at hwl hdl hp1
      have hws : (ByteArray.mk (NqG.wri s.data.toList pos).toArray).size = (NqG.wri s.data.toList pos).length := by simp [← ByteArray.size_data]
      obtain ⟨f, rfl⟩ : ∃ f, fuel = f + 1 := ⟨fuel - 1, by omega⟩
      go_wp2_with (go_at_call 44; refine (Tryd.wstring w.heap.size w.heap.size _ _ _ hI3 (by rw [Lib.byteCells_length, hws]; omega) hsz3).mono ?_)
      rintro e W3 ⟨rfl, h3, b3, k3⟩
      go_wp2
      go_roundw
      case rel =>
        refine ⟨pos + (Utf8.decode s pos).2, f, acc ++ NqG.wri s.data.toList pos, ?_, k3.iter hit3 (by omega), hbw3.trans b3, ?_, by omega, by simp; omega, by omega⟩
        · rw [Lib.byteCells_append]; exact Or.inr h3
        · rw [← hacc]
          have hlt : Nat.blt pos s.data.toList.length = true := by rw [Nat.blt_eq]; omega
          simp only [NqG.qFrom, hlt, cond_true, List.append_assoc]
          rfl
      case measure =>
        simp only [World.iterPos, k3.iter hit3 (by omega), hit]
        omega
    · have hnx : ∀ ty, (Instr.next (.pointer (some ⟨W1.heap.size, 0, none⟩)) true ty).run Tryd.prog wr = _ := fun ty => Lib.run_next_end_at wr W1.heap.size s pos ty hit hp
      go_wp2_with (go_at_call 42; refine (Tryd.wbyte w.heap.size w.heap.size _ 34 _ hI (by rw [Lib.byteCells_length]; omega) (by omega)).mono ?_)
      rintro e W2 ⟨rfl, h2, b2, k2⟩
      have hsl := Tryd.size_list s
      have hend : NqG.qFrom s.data.toList fuel pos = [] := by
        cases fuel with
        | zero => rfl
        | succ f =>
          have hlt : Nat.blt pos s.data.toList.length = false := by
            cases e : Nat.blt pos s.data.toList.length
            · rfl
            · rw [Nat.blt_eq] at e; omega
          simp only [NqG.qFrom, hlt, cond_false]
      rw [hend, List.append_nil] at hacc
      have hq : acc ++ [34] = NqG.quote s.data.toList := by
        rw [hacc]; unfold NqG.quote; rw [hsl]; rfl
      have h2' : Lib.IsBuilderF 67 5 w.heap.size w.heap.size (Lib.byteCells (acc ++ [34])) W2 := by
        rw [Lib.byteCells_append]; exact Or.inr h2
      have hsz2 : w.heap.size ≤ W2.heap.size := (hbw.trans b2).size
      go_wp2_with (go_at_call 45; refine (Tryd.Builder_String_any_k w.heap.size w.heap.size (acc ++ [34]) _ h2' hsz2).mono ?_)
      rintro e W3 ⟨rfl, _, b3, _⟩
      go_wp2
      go_ret
      exact ⟨by unfold NqG.quote; rw [hsl]; rfl, (hbw.trans b2).trans b3⟩
end Go.Proofs

/-! What the library functions do, as L has them. -/
namespace Go.Proofs
open Go.RowKit Go.Shelf

theorem Tryd.idx_eq : ∀ (l : List UInt8) (c : UInt8), Lib.indexByte l c = NqG.idx l c
  | [], _ => rfl
  | b :: l, c => by simp only [Lib.indexByte, NqG.idx, Tryd.idx_eq l c]

theorem Tryd.idx_bd : ∀ (l : List UInt8) (c : UInt8), -1 ≤ NqG.idx l c ∧ NqG.idx l c < l.length + 1
  | [], _ => by simp [NqG.idx]
  | b :: l, c => by
    have := Tryd.idx_bd l c
    simp only [NqG.idx, List.length_cons]
    split
    · omega
    · split <;> omega

theorem Tryd.ext83 {Kw : World → Prop} : Lk.FnOk (τ := 3) (Kw := Kw) Tryd.prog 83 ⟨[(.s, .r), (.by, .r)], [(.i .i64, .r)]⟩ (fun x => some (NqG.idx x.1 x.2.1, ())) := by
  intro x res hx w S Sb vals _ _ hargs
  obtain ⟨v, vs, sh, rfl, hh, _, rfl, v2, vs2, sh2, rfl, hh2, _, rfl, rfl⟩ := hargs
  have hlen : x.1.length ≤ Lk.big := hh.2
  have hc := Tryd.strings_IndexByte ⟨x.1.toArray⟩ (x.2.1.toNat : Int) w
  refine hc.mono fun e w' ⟨he, hb⟩ => ⟨_, he, hb ▸ Lk.Ext.refl w, ?_⟩
  cases hx
  have hc : ((x.2.1.toNat : Int)).toNat.toUInt8 = x.2.1 := by simp
  have hd : Lib.indexByte (ByteArray.mk x.1.toArray).data.toList ((x.2.1.toNat : Int)).toNat.toUInt8 = NqG.idx x.1 x.2.1 := by
    rw [hc, Tryd.idx_eq]
  rw [hd]
  have hbd := Tryd.idx_bd x.1 x.2.1
  exact ⟨[⟨.i .i64, .r, NqG.idx x.1 x.2.1, ()⟩], rfl, by
    intro d hd
    simp only [List.mem_cons, List.not_mem_nil, or_false] at hd
    subst hd
    refine ⟨rfl, ?_⟩
    show Lk.inR .i64 _
    have : x.1.length ≤ 9223372036854775807 := hlen
    simp only [Lk.inR, Lk.kmin, Lk.kmax]; omega, by simp [Lk.DV.bl, Lk.bl], by simp [Lk.DV.bl, Lk.bl], rfl⟩

theorem Tryd.ext13 : Lk.FnOk (τ := 3) (Kw := Tryd.Tabs) Tryd.prog 13 ⟨[(.s, .r)], [(.s, .r)]⟩ (fun x => bif Nat.ble x.1.length 1073741824 then some (NqG.quote x.1, ()) else none) := by
  intro x res hx w S Sb vals hK _ hargs
  simp only at hx
  obtain ⟨v, vs, sh, rfl, hh, _, rfl, rfl⟩ := hargs
  cases hb : Nat.ble x.1.length 1073741824 with
  | false => rw [hb] at hx; cases hx
  | true =>
    rw [hb] at hx
    cases hx
    rw [Nat.ble_eq] at hb
    have hs : (ByteArray.mk x.1.toArray).size = x.1.length := by simp [← ByteArray.size_data]
    have hc := Tryd.quote ⟨x.1.toArray⟩ w hK (by omega)
    refine hc.mono fun e w' ⟨he, hb⟩ => ⟨_, he, ⟨hb.os, hb.tape, hb.output, hb.size, fun b h _ => hb.block b h⟩, ?_⟩
    have hq := NqG.quote_len x.1
    exact ⟨[⟨.s, .r, NqG.quote x.1, ()⟩], rfl, by
      intro d hd
      simp only [List.mem_cons, List.not_mem_nil, or_false] at hd
      subst hd
      refine ⟨rfl, ?_⟩
      show (NqG.quote x.1).length ≤ 9223372036854775807; omega, by simp [Lk.DV.bl, Lk.bl], by simp [Lk.DV.bl, Lk.bl], rfl⟩

theorem Tryd.weak {Kw Kw' : World → Prop} {g : FuncId} {sg : Lk.Sig} {F : Lk.Tup sg.ps → Option (Lk.Tup sg.rs)} (hk : ∀ w, Kw' w → Kw w) (h : Lk.FnOk (τ := 3) (Kw := Kw) Tryd.prog g sg F) : Lk.FnOk (τ := 3) (Kw := Kw') Tryd.prog g sg F :=
  fun x res hx w S Sb vals hK => h x res hx w S Sb vals (hk w hK)

def Tryd.Pow (w : World) : Prop := Lib.TabIs Tryd.prog w "internal/strconv.uint64pow10" .u64 Lib.pow10Tab

theorem Tryd.below_ext {w w' : World} (hb : Below w.heap.size w w') : Lk.Ext [] w w' := ⟨hb.os, hb.tape, hb.output, hb.size, fun b h _ => hb.block b h⟩

theorem Tryd.pow_keep : ∀ w w', Tryd.Pow w → Lk.Ext [] w w' → Tryd.Pow w' := by
  intro w w' h hx
  cases hg : Tryd.prog.globalNamed "internal/strconv.uint64pow10" with
  | none => unfold Tryd.Pow Lib.TabIs World.var? at h; rw [hg] at h; cases h
  | some g => exact Joins.tab_stays hg h ⟨hx.os, hx.tape, hx.output, hx.size, fun b h => hx.block b h (by simp)⟩ (w := w) (B := w.heap.size) (Nat.le_refl _)

theorem Tryd.itoa_len (n : Int) (h0 : -9223372036854775808 ≤ n) (h1 : n ≤ 9223372036854775807) : (Lib.itoa n).length ≤ 21 := by
  have key : ∀ (k u : Nat), u < 10 ^ (k + 1) → (Lib.decDigits u).length ≤ k + 1 := by
    intro k
    induction k with
    | zero => intro u h; rw [Lib.decDigits, dif_pos (by simpa using h)]; simp
    | succ k ih =>
      intro u h
      rw [Lib.decDigits]
      split
      · simp
      · have := ih (u / 10) (by rw [Nat.pow_succ] at h; omega)
        simp; omega
  unfold Lib.itoa
  split
  · have := key 19 n.natAbs (by omega)
    simp; omega
  · have := key 19 n.toNat (by omega)
    omega

theorem Tryd.ext72 {Kw : World → Prop} (hk : ∀ w, Kw w → Tryd.Pow w) : Lk.FnOk (τ := 3) (Kw := Kw) Tryd.prog 72 ⟨[(.i .i64, .r)], [(.s, .r)]⟩ (fun x => bif decide (-9223372036854775808 ≤ x.1) && decide (x.1 ≤ 9223372036854775807) then some (Lib.itoa x.1, ()) else none) := by
  intro x res hx w S Sb vals hK _ hargs
  simp only at hx
  obtain ⟨v, vs, sh, rfl, hh, _, rfl, rfl⟩ := hargs
  cases hb : (decide (-9223372036854775808 ≤ x.1) && decide (x.1 ≤ 9223372036854775807)) with
  | false => rw [hb] at hx; cases hx
  | true =>
    rw [hb] at hx
    cases hx
    rw [Bool.and_eq_true, decide_eq_true_eq, decide_eq_true_eq] at hb
    refine (Tryd.strconv_Itoa x.1 hb.1 hb.2 w (hk w hK)).mono fun e w' ⟨he, k, os, hw⟩ => ⟨_, he, hw ▸ Tryd.below_ext (Lib.below_grow _ w (Nat.le_refl _) k os), ?_⟩
    have hq := Tryd.itoa_len x.1 hb.1 hb.2
    exact ⟨[⟨.s, .r, Lib.itoa x.1, ()⟩], rfl, by
      intro d hd
      simp only [List.mem_cons, List.not_mem_nil, or_false] at hd
      subst hd
      refine ⟨rfl, ?_⟩
      show (Lib.itoa x.1).length ≤ 9223372036854775807; omega, by simp [Lk.DV.bl, Lk.bl], by simp [Lk.DV.bl, Lk.bl], rfl⟩

theorem Tryd.rep_call (s : List UInt8) (n : Int) (h1 : 0 ≤ n) (h2 : n ≤ 1073741824) (h3 : s.length ≤ 100) (w : World) :
    Calls Tryd.prog 73 #[.string ⟨s.toArray⟩, .int .i64 n] w (fun e w' => e = .returned (.string ⟨(Lib.repeatL s n.toNat).toArray⟩) ∧ Below w.heap.size w w') ∧ (Lib.repeatL s n.toNat).length ≤ 9223372036854775807 := by
  have hs : (ByteArray.mk s.toArray).size = s.length := by simp [← ByteArray.size_data]
  have hm : s.length * n.toNat ≤ 100 * 1073741824 := Nat.mul_le_mul h3 (by omega)
  have hc := Tryd.strings_Repeat ⟨s.toArray⟩ n.toNat w (by omega) (by rw [hs]; omega)
  have e : ((n.toNat : Nat) : Int) = n := by omega
  rw [e] at hc
  exact ⟨hc, by rw [Lib.repeatL_length, Nat.mul_comm]; omega⟩

theorem Tryd.ext73 {Kw : World → Prop} : Lk.FnOk (τ := 3) (Kw := Kw) Tryd.prog 73 ⟨[(.s, .r), (.i .i64, .r)], [(.s, .r)]⟩ (fun x => bif decide (0 ≤ x.2.1) && decide (x.2.1 ≤ 1073741824) && Nat.ble x.1.length 100 then some (Lib.repeatL x.1 x.2.1.toNat, ()) else none) := by
  intro x res hx w S Sb vals hK _ hargs
  simp only at hx
  obtain ⟨v, vs, sh, rfl, hh, _, rfl, v2, vs2, sh2, rfl, hh2, _, rfl, rfl⟩ := hargs
  cases hb : (decide (0 ≤ x.2.1) && decide (x.2.1 ≤ 1073741824) && Nat.ble x.1.length 100) with
  | false => rw [hb] at hx; cases hx
  | true =>
    rw [hb] at hx
    cases hx
    rw [Bool.and_eq_true, Bool.and_eq_true, decide_eq_true_eq, decide_eq_true_eq, Nat.ble_eq] at hb
    obtain ⟨hc, hl⟩ := Tryd.rep_call x.1 x.2.1 hb.1.1 hb.1.2 hb.2 w
    refine hc.mono fun e w' ⟨he, hw⟩ => ⟨_, he, Tryd.below_ext hw, ?_⟩
    exact ⟨[⟨.s, .r, Lib.repeatL x.1 x.2.1.toNat, ()⟩], rfl, by
      intro d hd
      simp only [List.mem_cons, List.not_mem_nil, or_false] at hd
      subst hd
      exact ⟨rfl, hl⟩, by simp [Lk.DV.bl, Lk.bl], by simp [Lk.DV.bl, Lk.bl], rfl⟩
end Go.Proofs

