import Derived.Test.YtligonpmifolfaaGreatDoorLvEa
import Derived.Test.YtligonpmifolfaaGreatDoorLvEb
import Derived.Test.YtligonpmifolfaaGreatDoorLvEc
import Derived.Test.YtligonpmifolfaaGreatDoorLvSeven
import Derived.Test.YtligonpmifolfaaGreatDoorLvSix
set_option linter.all false
section
/-! The document's set by its functions: rows of numbers; what is there. Plain. -/
namespace Lw
open Go Lk Lv
open LvS1 (nums numsM sortI)
theorem in_loop (l : List Int) (n : Int) (n0 : Nat) (hl : l.length ≤ 1073741824) : ∀ (k i j : Nat), i + k = l.length → k < j → LvG.p68_2 j n0 l n (i : Int) = some ((l.drop i).contains n, ())
 | 0, i, j, hi, hj => by
  obtain ⟨j, rfl⟩ : ∃ j', j = j' + 1 := ⟨j - 1, by omega⟩
  rw [LvG.p68_2_eq, sel_dec, if_neg (by omega), List.drop_of_length_le (by omega)]; rfl
 | k + 1, i, j, hi, hj => by
  obtain ⟨j, rfl⟩ : ∃ j', j = j' + 1 := ⟨j - 1, by omega⟩
  have hil : i < l.length := by omega
  rw [LvG.p68_2_eq, sel_dec, if_pos (by omega), sel_dec, if_pos (by omega), sel_dec, if_pos (by omega), wrap64 (by omega) (by omega)]
  have ih := in_loop l n n0 hl k (i + 1) j (by omega) (by omega)
  rw [show ((i + 1 : Nat) : Int) = (i : Int) + 1 by omega] at ih
  rw [ih, List.drop_eq_getElem_cons hil, List.contains_cons]
  have e : l.getD (i : Int).toNat 0 = l[i] := by rw [Int.toNat_natCast, List.getD_eq_getElem?_getD, List.getElem?_eq_getElem hil]; rfl
  rw [e]
  have e2 : (l[i] == n) = (n == l[i]) := by rw [Bool.eq_iff_iff, beq_iff_eq, beq_iff_eq]; exact eq_comm
  rw [e2]
  cases n == l[i] <;> rfl
theorem in_ok (l : List Int) (n : Int) (hl : l.length ≤ 1073741824) (j : Nat) (hj : l.length + 2 ≤ j) : LvG.f68 j l n = some (l.contains n, ()) := by
 obtain ⟨j, rfl⟩ : ∃ j', j = j' + 1 := ⟨j - 1, by omega⟩
 rw [LvG.f68_eq, show (0 : Int) = ((0 : Nat) : Int) from rfl, in_loop l n j hl l.length 0 j (by omega) (by omega)]
 rfl
abbrev Ref := List Levels × List Int × List Int × Unit
variable {A : List Levels} {H W : List Int}
theorem gd {α : Type} (l : List α) (d : α) (k : Int) (n : Nat) (h : k = (n : Int)) : l.getD k.toNat d = l.getD n d := by rw [h, Int.toNat_natCast]
theorem there_ok (hl : A.length = H.length) (hA : A.length ≤ 1073741824) (v : Int) (j : Nat) (hj : 1 ≤ j) : LvG.f69 j (A, H, W, ()) v = some (thereK A H v, ()) := by
 obtain ⟨j, rfl⟩ : ∃ j', j = j' + 1 := ⟨j - 1, by omega⟩
 rw [LvG.f69_eq, sel_dec]
 simp only [Option.isSome_some, sel_t', Option.getD_some]
 by_cases h1 : v ≥ 1
 ·rw [if_pos h1, sel_dec]
  by_cases h2 : v ≤ (A.length : Int)
  ·rw [if_pos h2]
   have hk : thereK A H v = thereM A H (v - 1).toNat := by unfold thereK; rw [decide_eq_true ⟨h1, h2⟩, Bool.true_and]
   rw [hk]
   unfold thereM
   by_cases h3 : v = (A.length : Int)
   ·rw [show (v == (A.length : Int)) = true by simpa using h3, sel_t, show Nat.beq ((v - 1).toNat + 1) A.length = true by rw [Nat.beq_eq]; omega]; rfl
   ·rw [show (v == (A.length : Int)) = false by simpa using h3, sel_f]
    have : Nat.beq ((v - 1).toNat + 1) A.length = false := by
     cases hb : Nat.beq ((v - 1).toNat + 1) A.length with
     | false => rfl
     | true => rw [Nat.beq_eq] at hb; omega
    rw [this, wrap64 (by omega) (by omega), sel_dec, if_pos (by omega), sel_dec, if_pos (by omega)]
    rfl
  ·rw [if_neg h2]
   unfold thereK; rw [decide_eq_false (by omega)]; rfl
 ·rw [if_neg h1]
  unfold thereK; rw [decide_eq_false (by omega)]; rfl
theorem refs_ok (hl : A.length = H.length) (hA : A.length ≤ 1073741824) (v : Int) (j : Nat) (hj : 3 ≤ j) : LvG.f42 j (A, H, W, ()) v = some (refM H v, ()) := by
 obtain ⟨j, rfl⟩ : ∃ j', j = j' + 3 := ⟨j - 3, by omega⟩
 have key : ∀ (b : Bool), b = !decide (1 ≤ v ∧ v ≤ H.length) → LvG.p42_2050 (j + 2) (j + 2) v (some (A, H, W, ())) b = some (refM H v, ()) := by
  intro b hb
  subst hb
  rw [LvG.p42_2050_eq]
  unfold refM
  by_cases h : 1 ≤ v ∧ v ≤ H.length
  ·rw [decide_eq_true h, if_pos h, Bool.not_true, sel_f, LvG.p42_3_eq]
   simp only [Option.isSome_some, sel_t', Option.getD_some]
   rw [wrap64 (by omega) (by omega), sel_dec, if_pos (by omega), sel_dec, if_pos (by omega)]
  ·rw [decide_eq_false h, if_neg h, Bool.not_false, sel_t]
 rw [LvG.f42_eq, sel_dec]
 simp only [Option.isSome_some, sel_t', Option.getD_some]
 by_cases h : v < 1
 ·rw [if_pos h]
  exact key true (by rw [decide_eq_false (by omega)]; rfl)
 ·rw [if_neg h]
  refine key _ ?_
  by_cases h2 : v > (A.length : Int)
  ·rw [decide_eq_true h2, decide_eq_false (by omega)]; rfl
  ·rw [decide_eq_false h2, decide_eq_true (by omega)]; rfl
theorem levels_ok (hl : A.length = H.length) (hA : A.length ≤ 1073741824) (v : Int) (j : Nat) (hj : 2 ≤ j) : LvG.f41 j (A, H, W, ()) v = some (if thereK A H v = true then (A.getD (v - 1).toNat [], 0, ()) else ([], 180, ())) := by
 obtain ⟨j, rfl⟩ : ∃ j', j = j' + 1 := ⟨j - 1, by omega⟩
 rw [LvG.f41_eq]
 simp only [Option.isSome_some, sel_t', Option.getD_some]
 rw [there_ok hl hA v j (by omega)]
 simp only [ob_some']
 cases h : thereK A H v with
 | false => rfl
 | true =>
  have hk : 1 ≤ v ∧ v ≤ (A.length : Int) := by
   unfold thereK at h
   rw [Bool.and_eq_true, decide_eq_true_eq] at h
   exact h.1
  rw [Bool.not_true, sel_f, wrap64 (by omega) (by omega), sel_dec, if_pos (by omega), sel_dec, if_pos (by omega)]
  rfl
theorem vs_drop (hl : A.length = H.length) (i : Nat) (hi : i < A.length) : vsFrom ((i : Int) + 1) (A.drop i) (H.drop i) = bif thereM A H i then ((i : Int) + 1, (A.getD i [], H.getD i 0)) :: vsFrom ((i + 1 : Nat) + 1) (A.drop (i + 1)) (H.drop (i + 1)) else vsFrom ((i + 1 : Nat) + 1) (A.drop (i + 1)) (H.drop (i + 1)) := by
 have hiH : i < H.length := by omega
 rw [List.drop_eq_getElem_cons hi, List.drop_eq_getElem_cons hiH, vsFrom]
 have e : ((A.drop (i + 1)).isEmpty || decide (0 < H[i])) = thereM A H i := by
  unfold thereM
  rw [List.getD_eq_getElem?_getD, List.getElem?_eq_getElem hiH]
  congr 1
  by_cases h : i + 1 = A.length
  ·rw [show Nat.beq (i + 1) A.length = true by rw [Nat.beq_eq]; exact h, List.drop_of_length_le (by omega)]; rfl
  ·have h1 : Nat.beq (i + 1) A.length = false := by
    cases hb : Nat.beq (i + 1) A.length with
    | false => rfl
    | true => rw [Nat.beq_eq] at hb; exact (h hb).elim
   rw [h1, List.drop_eq_getElem_cons (show i + 1 < A.length by omega)]; rfl
 have e2 : ((i + 1 : Nat) : Int) + 1 = (i : Int) + 1 + 1 := by omega
 have e3 : A.getD i [] = A[i] := by rw [List.getD_eq_getElem?_getD, List.getElem?_eq_getElem hi]; rfl
 have e4 : H.getD i 0 = H[i] := by rw [List.getD_eq_getElem?_getD, List.getElem?_eq_getElem hiH]; rfl
 rw [e, e2, e3, e4]
theorem there_at {i : Nat} (hi : i < A.length) : thereK A H ((i : Int) + 1) = thereM A H i := by
 unfold thereK
 rw [decide_eq_true (by omega), Bool.true_and, show ((i : Int) + 1 - 1).toNat = i by omega]
theorem len_loop (hl : A.length = H.length) (hA : A.length ≤ 1073741824) (n0 : Nat) : ∀ (k i j : Nat) (c : Nat), i + k = A.length → 2 * k + 2 ≤ j → c ≤ i → LvG.p46_3 j n0 (some (A, H, W, ())) (c : Int) ((i : Int) + 1) = some (((c + (vsFrom ((i : Int) + 1) (A.drop i) (H.drop i)).length : Nat) : Int), ())
 | 0, i, j, c, hi, hj, hc => by
  obtain ⟨j, rfl⟩ : ∃ j', j = j' + 1 := ⟨j - 1, by omega⟩
  rw [LvG.p46_3_eq]
  simp only [Option.isSome_some, sel_t', Option.getD_some]
  rw [sel_dec, if_neg (by omega), List.drop_of_length_le (by omega)]
  rfl
 | k + 1, i, j, c, hi, hj, hc => by
  obtain ⟨j, rfl⟩ : ∃ j', j = j' + 2 := ⟨j - 2, by omega⟩
  rw [LvG.p46_3_eq]
  simp only [Option.isSome_some, sel_t', Option.getD_some]
  rw [sel_dec, if_pos (by omega), there_ok hl hA _ _ (by omega), there_at (by omega), vs_drop hl i (by omega)]
  simp only [ob_some']
  have h1 := len_loop hl hA n0 k (i + 1) (j + 1) (c + 1) (by omega) (by omega) (by omega)
  have h2 := len_loop hl hA n0 k (i + 1) (j + 1) c (by omega) (by omega) (by omega)
  have e1 : IntKind.i64.wrap ((i : Int) + 1 + 1) = ((i + 1 : Nat) : Int) + 1 := by rw [wrap64 (by omega) (by omega)]; omega
  have e2 : IntKind.i64.wrap ((c : Int) + 1) = ((c + 1 : Nat) : Int) := by rw [wrap64 (by omega) (by omega)]; omega
  cases thereM A H i with
  | true =>
   rw [sel_t, LvG.p46_4_eq, e1, e2, h1, cond_true]
   simp only [List.length_cons]
   congr 3
   omega
  | false => rw [sel_f, LvG.p46_4_eq, e1, h2, cond_false]
theorem len_ok (hl : A.length = H.length) (hA : A.length ≤ 1073741824) (j : Nat) (hj : 2 * A.length + 3 ≤ j) : LvG.f46 j (A, H, W, ()) = some (((vsFrom 1 A H).length : Int), ()) := by
 obtain ⟨j, rfl⟩ : ∃ j', j = j' + 1 := ⟨j - 1, by omega⟩
 rw [LvG.f46_eq]
 have := len_loop (W := W) hl hA j A.length 0 j 0 (by omega) (by omega) (by omega)
 simpa using this
theorem get_mid {α : Type} (a c : List α) (b d : α) : (a ++ b :: c).getD a.length d = b := by
 rw [List.getD_eq_getElem?_getD, List.getElem?_append_right (Nat.le_refl _), Nat.sub_self]; rfl
theorem set_mid {α : Type} (a c : List α) (b y : α) : (a ++ b :: c).set a.length y = a ++ y :: c := by
 rw [List.set_append_right _ _ (Nat.le_refl _), Nat.sub_self]; rfl
theorem swap_at (r Q : List Int) (p x : Int) : ((p :: r).reverse ++ x :: Q).getD r.length 0 = p ∧ ((p :: r).reverse ++ x :: Q).getD (r.length + 1) 0 = x ∧
  (((p :: r).reverse ++ x :: Q).set r.length x).set (r.length + 1) p = r.reverse ++ x :: p :: Q := by
 have e : (p :: r).reverse ++ x :: Q = r.reverse ++ p :: x :: Q := by simp
 have e2 : (p :: r).reverse ++ x :: Q = (r.reverse ++ [p]) ++ x :: Q := by simp
 have hl : r.reverse.length = r.length := by simp
 have hl2 : (r.reverse ++ [p]).length = r.length + 1 := by simp
 refine ⟨?_, ?_, ?_⟩
 ·rw [e, ← hl]; exact get_mid _ _ _ _
 ·rw [e2, ← hl2]; exact get_mid _ _ _ _
 ·rw [e, ← hl, set_mid]
  have e3 : r.reverse ++ x :: x :: Q = (r.reverse ++ [x]) ++ x :: Q := by simp
  have hl3 : (r.reverse ++ [x]).length = r.reverse.length + 1 := by simp
  rw [e3, ← hl3, set_mid]; simp
theorem swaps89 (n0 n1 : Nat) (v0 : List Int) (v4 : Int) : ∀ (r : List Int) (x : Int) (Q : List Int) (j : Nat), r.length + Q.length ≤ 1073741824 → r.length + 2 ≤ j →
  LvG.p89_7 j n0 n1 v0 (r.reverse ++ x :: Q) v4 (r.length : Int) = LvG.p89_4 n1 n0 n1 v0 (ins r x Q) v4
 | [], x, Q, j, hs, hj => by
  obtain ⟨j, rfl⟩ : ∃ j', j = j' + 1 := ⟨j - 1, by omega⟩
  rw [LvG.p89_7_eq, sel_dec, if_neg (by simp)]
  rfl
 | p :: r, x, Q, j, hs, hj => by
  obtain ⟨j, rfl⟩ : ∃ j', j = j' + 2 := ⟨j - 2, by simp at hj; omega⟩
  simp only [List.length_cons] at hs hj
  obtain ⟨g1, g2, g3⟩ := swap_at r Q p x
  have hlen : ((p :: r).reverse ++ x :: Q).length = r.length + Q.length + 2 := by simp; omega
  have e1 : IntKind.i64.wrap (((p :: r).length : Int) - 1) = (r.length : Int) := by simp only [List.length_cons]; rw [wrap64 (by omega) (by omega)]; omega
  have e2 : (((p :: r).length : Nat) : Int) = ((r.length + 1 : Nat) : Int) := by simp
  rw [LvG.p89_7_eq, e1, e2, hlen, sel_dec, if_pos (by omega), sel_dec, if_pos (by omega), sel_dec, if_pos (by omega), sel_dec, if_pos (by omega), sel_dec, if_pos (by omega), sel_dec]
  rw [Int.toNat_natCast, Int.toNat_natCast, g1, g2]
  unfold ins
  by_cases h : x < p
  ·have e3 : IntKind.i64.wrap (((r.length + 1 : Nat) : Int) - 1) = (r.length : Int) := by rw [wrap64 (by omega) (by omega)]; omega
   rw [if_pos h, if_pos h, LvG.p89_8_eq, e3, hlen, sel_dec, if_pos (by omega), sel_dec, if_pos (by omega), sel_dec, if_pos (by omega), sel_dec, if_pos (by omega), sel_dec, if_pos (by omega), sel_dec, if_pos (by omega), sel_dec, if_pos (by omega), List.length_set, hlen, sel_dec, if_pos (by omega)]
   rw [Int.toNat_natCast, Int.toNat_natCast, g1, g2, g3]
   exact swaps89 n0 n1 v0 v4 r x (p :: Q) (j + 1) (by simp only [List.length_cons]; omega) (by omega)
  ·rw [if_neg h, if_neg h]
theorem swaps45 (n0 n1 : Nat) (v0 : List Int) (v4 : Int) : ∀ (r : List Int) (x : Int) (Q : List Int) (j : Nat), r.length + Q.length ≤ 1073741824 → r.length + 2 ≤ j →
  LvG.p45_15 j n0 n1 v0 (r.reverse ++ x :: Q) v4 (r.length : Int) = LvG.p45_11 n1 n0 n1 v0 (ins r x Q) v4
 | [], x, Q, j, hs, hj => by
  obtain ⟨j, rfl⟩ : ∃ j', j = j' + 1 := ⟨j - 1, by omega⟩
  rw [LvG.p45_15_eq, sel_dec, if_neg (by simp)]
  rfl
 | p :: r, x, Q, j, hs, hj => by
  obtain ⟨j, rfl⟩ : ∃ j', j = j' + 2 := ⟨j - 2, by simp at hj; omega⟩
  simp only [List.length_cons] at hs hj
  obtain ⟨g1, g2, g3⟩ := swap_at r Q p x
  have hlen : ((p :: r).reverse ++ x :: Q).length = r.length + Q.length + 2 := by simp; omega
  have e1 : IntKind.i64.wrap (((p :: r).length : Int) - 1) = (r.length : Int) := by simp only [List.length_cons]; rw [wrap64 (by omega) (by omega)]; omega
  have e2 : (((p :: r).length : Nat) : Int) = ((r.length + 1 : Nat) : Int) := by simp
  rw [LvG.p45_15_eq, e1, e2, hlen, sel_dec, if_pos (by omega), sel_dec, if_pos (by omega), sel_dec, if_pos (by omega), sel_dec, if_pos (by omega), sel_dec, if_pos (by omega), sel_dec]
  rw [Int.toNat_natCast, Int.toNat_natCast, g1, g2]
  unfold ins
  by_cases h : x < p
  ·have e3 : IntKind.i64.wrap (((r.length + 1 : Nat) : Int) - 1) = (r.length : Int) := by rw [wrap64 (by omega) (by omega)]; omega
   rw [if_pos h, if_pos h, LvG.p45_16_eq, e3, hlen, sel_dec, if_pos (by omega), sel_dec, if_pos (by omega), sel_dec, if_pos (by omega), sel_dec, if_pos (by omega), sel_dec, if_pos (by omega), sel_dec, if_pos (by omega), sel_dec, if_pos (by omega), List.length_set, hlen, sel_dec, if_pos (by omega)]
   rw [Int.toNat_natCast, Int.toNat_natCast, g1, g2, g3]
   exact swaps45 n0 n1 v0 v4 r x (p :: Q) (j + 1) (by simp only [List.length_cons]; omega) (by omega)
  ·rw [if_neg h, if_neg h]
end Lw
end
section
/-! The document's version: sorted numbers, what makes one valid. Plain. -/
namespace Lw
open Go Lk Lv
open LvS1 (nums numsM sortI)
open LvS0 (mayB sel_and)
theorem sort_loop (v0 : List Int) (hv : v0.length ≤ 1073741823) (n0 : Nat) : ∀ (k i j : Nat) (out : List Int), i + k = v0.length → out.length = i → v0.length + k + 4 ≤ j →
  LvG.p89_3 j n0 v0 out (i : Int) = some (isort (v0.drop i) out, v0, ())
 | 0, i, j, out, hi, ho, hj => by
  obtain ⟨j, rfl⟩ : ∃ j', j = j' + 1 := ⟨j - 1, by omega⟩
  rw [LvG.p89_3_eq, sel_dec, if_neg (by omega), List.drop_of_length_le (by omega)]; rfl
 | k + 1, i, j, out, hi, ho, hj => by
  obtain ⟨j, rfl⟩ : ∃ j', j = j' + 2 := ⟨j - 2, by omega⟩
  have hil : i < v0.length := by omega
  have e1 : v0.getD (i : Int).toNat 0 = v0[i] := by rw [Int.toNat_natCast, List.getD_eq_getElem?_getD, List.getElem?_eq_getElem hil]; rfl
  have hsw := swaps89 n0 (j + 1) v0 (i : Int) out.reverse v0[i] [] (j + 1) (by simp; omega) (by simp; omega)
  rw [List.reverse_reverse, List.length_reverse] at hsw
  have hl : (ins out.reverse v0[i] []).length = i + 1 := by have := (ins_rev_perm out v0[i]).length_eq; simpa [ho] using this
  have ih := sort_loop v0 hv n0 k (i + 1) (j + 1) (ins out.reverse v0[i] []) (by omega) hl (by omega)
  rw [LvG.p89_3_eq, sel_dec, if_pos (by omega), sel_dec, if_pos (by omega), sel_dec, if_pos (by omega), sel_dec, if_pos (by omega), e1, hsw, LvG.p89_4_eq, wrap64 (by omega) (by omega)]
  rw [show ((i + 1 : Nat) : Int) = (i : Int) + 1 by omega] at ih
  rw [ih, List.drop_eq_getElem_cons hil]
  rfl
theorem sort_ok (l : List Int) (hl : l.length ≤ 1073741823) (j : Nat) (hj : 2 * l.length + 5 ≤ j) : LvG.f89 j l = some (sortI l, l, ()) := by
 obtain ⟨j, rfl⟩ : ∃ j', j = j' + 1 := ⟨j - 1, by omega⟩
 have := sort_loop l hl j l.length 0 j [] (by omega) rfl (by omega)
 rw [LvG.f89_eq]
 rw [List.drop_zero, isort_eq] at this
 exact this
theorem nums_inner (n0 n1 : Nat) (x : Levels) (i : Nat) (hi : i < x.length) (hx : x.length ≤ 1073741824) (hy : (x.getD i []).length ≤ 1073741824) : ∀ (k c j : Nat) (acc : List Int), c + k = (x.getD i []).length → acc.length + k ≤ 1073741824 → k + 1 ≤ j →
  LvG.p65_6 j n0 n1 x acc (i : Int) (c : Int) = LvG.p65_3 n1 n0 x (acc ++ ((x.getD i []).drop c).map fun f => f.1) (IntKind.i64.wrap ((i : Int) + 1))
 | 0, c, j, acc, hc, ha, hj => by
  obtain ⟨j, rfl⟩ : ∃ j', j = j' + 1 := ⟨j - 1, by omega⟩
  rw [LvG.p65_6_eq, sel_dec, if_pos (by omega), sel_dec, if_pos (by omega), Int.toNat_natCast, sel_dec, if_neg (by omega), List.drop_of_length_le (by omega)]
  simp
 | k + 1, c, j, acc, hc, ha, hj => by
  obtain ⟨j, rfl⟩ : ∃ j', j = j' + 1 := ⟨j - 1, by omega⟩
  have hcl : c < (x.getD i []).length := by omega
  rw [LvG.p65_6_eq, sel_dec, if_pos (by omega), sel_dec, if_pos (by omega), Int.toNat_natCast, sel_dec, if_pos (by omega), sel_dec, if_pos (by omega), sel_dec, if_pos (by omega), sel_dec, if_pos (by omega), sel_dec, if_pos (by omega), sel_dec, if_pos (by omega)]
  have ih := nums_inner n0 n1 x i hi hx hy k (c + 1) j (acc ++ [(x.getD i [])[c].1]) (by omega) (by simp; omega) (by omega)
  rw [Int.toNat_natCast, wrap64 (x := (c : Int) + 1) (by omega) (by omega)]
  rw [show ((c + 1 : Nat) : Int) = (c : Int) + 1 by omega] at ih
  have e : List.getD (x.getD i []) c ((0 : Int), (0 : Int), [], [], (0 : Int), (0 : Int), ()) = (x.getD i [])[c] := by rw [List.getD_eq_getElem?_getD, List.getElem?_eq_getElem hcl]; rfl
  rw [e, ih, List.drop_eq_getElem_cons hcl, List.map_cons, List.append_assoc]
  rfl
theorem nums_loop (x : Levels) (hx : x.length ≤ 1073741824) (L : Nat) (hL : ∀ y ∈ x, y.length ≤ L) (hL2 : L ≤ 1073741824) (n0 : Nat) : ∀ (k i j : Nat) (acc : List Int), i + k = x.length → acc.length + (nums (x.drop i)).length ≤ 1073741823 → 2 * (acc.length + (nums (x.drop i)).length) + 5 ≤ n0 → L + k + 2 ≤ j →
  LvG.p65_3 j n0 x acc (i : Int) = some (sortI (acc ++ nums (x.drop i)), ())
 | 0, i, j, acc, hi, ha, hn, hj => by
  obtain ⟨j, rfl⟩ : ∃ j', j = j' + 1 := ⟨j - 1, by omega⟩
  rw [List.drop_of_length_le (by omega)] at ha hn ⊢
  simp only [nums, List.map_nil, List.flatten_nil, List.append_nil, List.length_nil, Nat.add_zero] at ha hn ⊢
  rw [LvG.p65_3_eq, sel_dec, if_neg (by omega), sort_ok acc ha n0 hn]
  rfl
 | k + 1, i, j, acc, hi, ha, hn, hj => by
  obtain ⟨j, rfl⟩ : ∃ j', j = j' + 1 := ⟨j - 1, by omega⟩
  have hil : i < x.length := by omega
  have e0 : x.getD i [] = x[i] := by rw [List.getD_eq_getElem?_getD, List.getElem?_eq_getElem hil]; rfl
  have hyl : (x.getD i []).length ≤ L := by rw [e0]; exact hL _ (List.getElem_mem hil)
  have en : nums (x.drop i) = (x.getD i []).map (fun f => f.1) ++ nums (x.drop (i + 1)) := by
   unfold nums
   rw [List.drop_eq_getElem_cons hil, e0, List.map_cons, List.flatten_cons]
  rw [en] at ha hn ⊢
  rw [List.length_append, List.length_map] at ha hn
  rw [LvG.p65_3_eq, sel_dec, if_pos (by omega)]
  have h1 := nums_inner n0 j x i hil hx (by omega) (x.getD i []).length 0 j acc (by omega) (by omega) (by omega)
  rw [show ((0 : Nat) : Int) = 0 from rfl] at h1
  rw [h1, List.drop_zero, wrap64 (by omega) (by omega)]
  have ih := nums_loop x hx L hL hL2 n0 k (i + 1) j (acc ++ (x.getD i []).map fun f => f.1) (by omega) (by simp only [List.length_append, List.length_map]; omega) (by simp only [List.length_append, List.length_map]; omega) (by omega)
  rw [show ((i + 1 : Nat) : Int) = (i : Int) + 1 by omega] at ih
  rw [ih, List.append_assoc]
structure Sm (x : Levels) (B : Nat) : Prop where
 len : x.length ≤ B
 lev : ∀ y ∈ x, y.length ≤ B
 num : (nums x).length ≤ B
 b : B ≤ 4194304
theorem nums_ok (x : Levels) {B : Nat} (h : Sm x B) (j : Nat) (hj : 10000000 ≤ j) : LvG.f65 j x = some (sortI (nums x), ()) := by
 obtain ⟨j, rfl⟩ : ∃ j', j = j' + 1 := ⟨j - 1, by omega⟩
 have h1 := h.len
 have h2 := h.num
 have h3 := h.b
 have := nums_loop x (by omega) B h.lev (by omega) j x.length 0 j [] (by omega) (by simp; omega) (by simp; omega) (by omega)
 rw [LvG.f65_eq]
 rw [List.drop_zero, List.nil_append] at this
 exact this
theorem may_ok (f : Lk.LFile) (j : Nat) (hj : 1 ≤ j) : LvG.f64 j f = some (mayB f, ()) := by
 obtain ⟨j, rfl⟩ : ∃ j', j = j' + 1 := ⟨j - 1, by omega⟩
 rw [LvG.f64_eq]
 simp only [Option.isSome_some, Option.getD_some, sel_t', sel_and]
 congr 2
 unfold mayB
 generalize decide (f.1 ≥ 1) = a
 generalize decide (f.1 ≤ 2147483647) = b
 generalize decide (f.2.1 ≥ 1) = c
 generalize decide (f.2.1 ≤ 268435456) = d
 generalize Go.Op.bytesLess f.2.2.1 f.2.2.2.1 = e
 generalize decide ((f.2.2.2.1.length : Int) ≤ 1025) = g
 cases a <;> cases b <;> cases c <;> cases d <;> cases e <;> cases g <;> simp
theorem unlike_loop (n0 n1 : Nat) (l : List Int) (hl : l.length ≤ 1073741824) : ∀ (k i j : Nat), i + k = l.length → 1 ≤ i → k + 1 ≤ j →
  ∃ b, LvG.p32_15 j n0 n1 l (i : Int) = some (b, ()) ∧ (b = true ↔ ∀ m, i ≤ m → m < l.length → l.getD (m - 1) 0 ≠ l.getD m 0)
 | 0, i, j, hi, h1, hj => by
  obtain ⟨j, rfl⟩ : ∃ j', j = j' + 1 := ⟨j - 1, by omega⟩
  rw [LvG.p32_15_eq, sel_dec, if_neg (by omega)]
  exact ⟨true, rfl, by simp; omega⟩
 | k + 1, i, j, hi, h1, hj => by
  obtain ⟨j, rfl⟩ : ∃ j', j = j' + 1 := ⟨j - 1, by omega⟩
  have e1 : IntKind.i64.wrap ((i : Int) - 1) = ((i - 1 : Nat) : Int) := by rw [wrap64 (by omega) (by omega)]; omega
  rw [LvG.p32_15_eq, e1, sel_dec, if_pos (by omega), sel_dec, if_pos (by omega), sel_dec, if_pos (by omega), sel_dec, if_pos (by omega), sel_dec, if_pos (by omega), Int.toNat_natCast, Int.toNat_natCast]
  by_cases h : l.getD (i - 1) 0 = l.getD i 0
  ·rw [show (l.getD (i - 1) 0 == l.getD i 0) = true by simpa using h, sel_t]
   exact ⟨false, rfl, by simp; exact ⟨i, by omega, by omega, h⟩⟩
  ·rw [show (l.getD (i - 1) 0 == l.getD i 0) = false by simpa using h, sel_f, wrap64 (by omega) (by omega)]
   obtain ⟨b, hb, hbi⟩ := unlike_loop n0 n1 l hl k (i + 1) j (by omega) (by omega) (by omega)
   rw [show ((i + 1 : Nat) : Int) = (i : Int) + 1 by omega] at hb
   refine ⟨b, hb, hbi.trans ⟨fun g m hm hm2 => ?_, fun g m hm hm2 => g m (by omega) hm2⟩⟩
   rcases Nat.lt_or_ge i m with h3 | h3
   ·exact g m (by omega) hm2
   ·have : m = i := by omega
    subst this; exact h
theorem sorted_unlike {l : List Int} (h : l.Pairwise (· ≤ ·)) : (∀ m, 1 ≤ m → m < l.length → l.getD (m - 1) 0 ≠ l.getD m 0) ↔ l.Nodup := by
 have hg : ∀ i (hi : i < l.length), l.getD i 0 = l[i] := fun i hi => by rw [List.getD_eq_getElem?_getD, List.getElem?_eq_getElem hi]; rfl
 rw [List.Nodup, List.pairwise_iff_getElem]
 have hs := List.pairwise_iff_getElem.1 h
 constructor
 ·intro g i j hi hj hij e
  have h1 := g j (by omega) hj
  rw [hg _ (by omega), hg _ hj] at h1
  rcases Nat.lt_or_ge i (j - 1) with h2 | h2
  ·have a := hs i (j - 1) hi (by omega) h2
   have b := hs (j - 1) j (by omega) hj (by omega)
   omega
  ·have : i = j - 1 := by omega
   subst this
   exact h1 e
 ·intro g m h1 h2
  rw [hg _ (by omega), hg _ h2]
  exact g (m - 1) m (by omega) h2 (by omega)
end Lw
end
section
/-! The document's version: what makes one valid, its numbers. Plain. -/
namespace Lw
open Go Lk Lv
open LvS1 (nums numsM sortI)
open LvS0 (mayB sel_and)
theorem fl_at (y : List Lk.LFile) (c : Nat) (h : c < y.length) : List.getD y c ((0 : Int), (0 : Int), [], [], (0 : Int), (0 : Int), ()) = y[c] := by rw [List.getD_eq_getElem?_getD, List.getElem?_eq_getElem h]; rfl
def prevOf (y : List Lk.LFile) (c : Nat) : Option Lk.LFile := if c = 0 then none else y[c - 1]?
theorem okL_cons (i : Nat) (prev : Option Lk.LFile) (f : Lk.LFile) (rest : List Lk.LFile) : okL i prev (f :: rest) = (mayB f && (match prev with | none => true | some p => !bad i p f) && okL i (some f) rest) := rfl
theorem flag_ok (n0 n1 n2 j : Nat) (x : Levels) (i c : Nat) (b : Bool) : LvG.p32_2060 (j + 1) n0 n1 n2 (j + 1) x (i : Int) (c : Int) b = if b = true then some (false, ()) else LvG.p32_7 (j + 1) n0 n1 n2 x (i : Int) (IntKind.i64.wrap ((c : Int) + 1)) := by
 rw [LvG.p32_2060_eq]
 cases b with
 | true => rfl
 | false => rw [sel_f, if_neg (by simp), LvG.p32_8_eq]
theorem level_loop (n0 n1 n2 : Nat) (x : Levels) (i : Nat) (hi : i < x.length) (hx : x.length ≤ 1073741824) (hy : (x.getD i []).length ≤ 1073741824) : ∀ (k c j : Nat), c + k = (x.getD i []).length → k + 2 ≤ j →
  LvG.p32_7 j n0 n1 n2 x (i : Int) (c : Int) = if okL i (prevOf (x.getD i []) c) ((x.getD i []).drop c) = true then LvG.p32_4 n2 n0 n1 x (IntKind.i64.wrap ((i : Int) + 1)) else some (false, ())
 | 0, c, j, hc, hj => by
  obtain ⟨j, rfl⟩ : ∃ j', j = j' + 1 := ⟨j - 1, by omega⟩
  rw [LvG.p32_7_eq, sel_dec, if_pos (by omega), sel_dec, if_pos (by omega), Int.toNat_natCast, sel_dec, if_neg (by omega), List.drop_of_length_le (by omega)]
  rw [if_pos (by rfl)]
 | k + 1, c, j, hc, hj => by
  obtain ⟨j, rfl⟩ : ∃ j', j = j' + 2 := ⟨j - 2, by omega⟩
  have hcl : c < (x.getD i []).length := by omega
  have ih := level_loop n0 n1 n2 x i hi hx hy k (c + 1) (j + 1) (by omega) (by omega)
  have hpn : prevOf (x.getD i []) (c + 1) = some ((x.getD i [])[c]) := by
   unfold prevOf
   rw [if_neg (by omega), Nat.add_sub_cancel, List.getElem?_eq_getElem hcl]
  rw [hpn] at ih
  rw [List.drop_eq_getElem_cons hcl, okL_cons]
  rw [LvG.p32_7_eq, sel_dec, if_pos (by omega), sel_dec, if_pos (by omega), Int.toNat_natCast, sel_dec, if_pos (by omega), sel_dec, if_pos (by omega), sel_dec, if_pos (by omega), sel_dec, if_pos (by omega), sel_dec, if_pos (by omega), Int.toNat_natCast, fl_at _ _ hcl, may_ok _ _ (by omega)]
  simp only [ob_some']
  cases hm : mayB (x.getD i [])[c] with
  | false => rw [Bool.not_false, sel_t]; simp
  | true =>
  rw [Bool.not_true, sel_f, Bool.true_and]
  have hnext : ∀ b : Bool, b = (match prevOf (x.getD i []) c with | none => false | some p => bad i p (x.getD i [])[c]) → LvG.p32_2060 (j + 1) n0 n1 n2 (j + 1) x (i : Int) (c : Int) b = if ((match prevOf (x.getD i []) c with | none => true | some p => !bad i p (x.getD i [])[c]) && okL i (some (x.getD i [])[c]) (List.drop (c + 1) (x.getD i []))) = true then LvG.p32_4 n2 n0 n1 x (IntKind.i64.wrap ((i : Int) + 1)) else some (false, ()) := by
   intro b hb
   have hnb : (match prevOf (x.getD i []) c with | none => true | some p => !bad i p (x.getD i [])[c]) = !b := by
    rw [hb]; cases prevOf (x.getD i []) c <;> rfl
   rw [flag_ok, hnb]
   have e : IntKind.i64.wrap ((c : Int) + 1) = ((c + 1 : Nat) : Int) := by rw [wrap64 (by omega) (by omega)]; omega
   rw [e, ih]
   cases b with
   | true => simp
   | false => simp
  by_cases hc0 : c = 0
  ·subst hc0
   rw [sel_dec, if_neg (by omega), sel_dec, if_neg (by omega)]
   exact hnext false rfl
  ·have hc1 : c - 1 < (x.getD i []).length := by omega
   have hp : prevOf (x.getD i []) c = some ((x.getD i [])[c - 1]) := by
    unfold prevOf
    rw [if_neg hc0, List.getElem?_eq_getElem hc1]
   have e1 : IntKind.i64.wrap ((c : Int) - 1) = ((c - 1 : Nat) : Int) := by rw [wrap64 (by omega) (by omega)]; omega
   rw [hp] at hnext
   simp only at hnext
   rw [hp]
   simp only
   have hbad : ∀ b, b = bad i ((x.getD i [])[c - 1]) ((x.getD i [])[c]) → _ := hnext
   rw [e1, Int.toNat_natCast, fl_at _ _ hc1]
   by_cases hi0 : i = 0
   ·subst hi0
    rw [sel_dec, if_pos (by omega), show (((0 : Nat) : Int) == 0) = true from rfl, sel_t, sel_dec, if_pos (by omega), sel_dec, if_pos (by omega), sel_dec, if_pos (by omega), sel_dec, if_pos (by omega), sel_dec, if_pos (by omega), sel_dec, if_pos (by omega), sel_dec, if_pos (by omega), sel_dec, if_pos (by omega), sel_dec]
    by_cases hge : ((x.getD 0 [])[c - 1]).fst ≥ ((x.getD 0 [])[c]).fst
    ·rw [if_pos hge]
     exact hnext true (decide_eq_true hge).symm
    ·rw [if_neg hge, sel_dec, if_pos (by omega), sel_dec, if_neg (by omega)]
     exact hnext false (decide_eq_false hge).symm
   ·rw [sel_dec, if_pos (by omega), show ((i : Int) == 0) = false by rw [beq_eq_false_iff_ne]; omega, sel_f, sel_dec, if_pos (by omega), sel_dec, if_pos (by omega), sel_dec, if_pos (by omega), sel_dec, if_pos (by omega), sel_dec, if_pos (by omega), sel_dec, if_pos (by omega), sel_dec, if_pos (by omega), sel_dec, if_pos (by omega), sel_dec, if_pos (by omega), sel_dec, if_pos (by omega)]
    refine hnext _ ?_
    unfold bad
    rw [show Nat.beq i 0 = false by cases i with | zero => exact (hi0 rfl).elim | succ _ => rfl, cond_false, Bool.not_or]
theorem levels_loop (n0 n1 : Nat) (x : Levels) (B : Nat) (hx : x.length ≤ 1073741824) (hL : ∀ y ∈ x, y.length ≤ B) (hB : B ≤ 1073741824) : ∀ (k i j : Nat), i + k = x.length → B + k + 3 ≤ j →
  LvG.p32_4 j n0 n1 x (i : Int) = if okA i (x.drop i) = true then obind (LvG.f65 n1 x) fun r => LvG.p32_15 n1 n0 n1 r.fst 1 else some (false, ())
 | 0, i, j, hi, hj => by
  obtain ⟨j, rfl⟩ : ∃ j', j = j' + 1 := ⟨j - 1, by omega⟩
  rw [LvG.p32_4_eq, sel_dec, if_neg (by omega), List.drop_of_length_le (by omega), if_pos (by rfl)]
 | k + 1, i, j, hi, hj => by
  obtain ⟨j, rfl⟩ : ∃ j', j = j' + 1 := ⟨j - 1, by omega⟩
  have hil : i < x.length := by omega
  have e0 : x.getD i [] = x[i] := by rw [List.getD_eq_getElem?_getD, List.getElem?_eq_getElem hil]; rfl
  have hyl : (x.getD i []).length ≤ B := by rw [e0]; exact hL _ (List.getElem_mem hil)
  have h1 := level_loop n0 n1 j x i hil hx (by omega) (x.getD i []).length 0 j (by omega) (by omega)
  rw [show ((0 : Nat) : Int) = 0 from rfl, List.drop_zero] at h1
  have e : IntKind.i64.wrap ((i : Int) + 1) = ((i + 1 : Nat) : Int) := by rw [wrap64 (by omega) (by omega)]; omega
  rw [LvG.p32_4_eq, sel_dec, if_pos (by omega), h1, e, levels_loop n0 n1 x B hx hL hB k (i + 1) j (by omega) (by omega), List.drop_eq_getElem_cons hil, e0]
  have e5 : prevOf x[i] 0 = none := rfl
  rw [e5, okA]
  cases okL i none x[i] <;> simp
theorem valid_ok (x : Levels) {B : Nat} (h : Sm x B) (j : Nat) (hj : 20000000 ≤ j) : LvG.f32 j x = some (validM x, ()) := by
 obtain ⟨j, rfl⟩ : ∃ j', j = j' + 3 := ⟨j - 3, by omega⟩
 have h1 := h.len
 have h2 := h.num
 have h3 := h.b
 have hgo : ∀ b : Bool, b = !decide (1 ≤ x.length ∧ x.length ≤ 7) → LvG.p32_2050 (j + 2) (j + 2) x b = some (validM x, ()) := by
  intro b hb
  rw [LvG.p32_2050_eq]
  cases b with
  | true =>
   have hn : ¬ (1 ≤ x.length ∧ x.length ≤ 7) := by
    intro hc; rw [decide_eq_true hc] at hb; cases hb
   rw [sel_t]
   have : validM x = false := by
    cases hv : validM x with
    | false => rfl
    | true => exact (hn ((valid_iff x).1 hv).1).elim
   rw [this]
  | false =>
   have hc : 1 ≤ x.length ∧ x.length ≤ 7 := by
    apply Classical.byContradiction
    intro hc; rw [decide_eq_false hc] at hb; cases hb
   rw [sel_f, LvG.p32_3_eq]
   have hl := levels_loop (j + 2) (j + 1) x B (by omega) h.lev (by omega) x.length 0 (j + 1) (by omega) (by omega)
   rw [show ((0 : Nat) : Int) = 0 from rfl, List.drop_zero] at hl
   rw [hl]
   by_cases ho : okA 0 x = true
   ·rw [if_pos ho, nums_ok x h (j + 1) (by omega)]
    simp only [ob_some']
    have hsl : (sortI (nums x)).length = (nums x).length := (sortI_perm _).length_eq
    by_cases hnum : (nums x).length = 0
    ·have hnil : nums x = [] := List.length_eq_zero_iff.1 hnum
     rw [LvG.p32_15_eq, sel_dec, if_neg (by rw [hsl]; omega)]
     have : validM x = true := (valid_iff x).2 ⟨hc, ho, by rw [hnil]; exact .nil⟩
     rw [this]
    ·obtain ⟨b, hb1, hb2⟩ := unlike_loop (j + 2) (j + 1) (sortI (nums x)) (by omega) ((nums x).length - 1) 1 (j + 1) (by omega) (by omega) (by omega)
     rw [show ((1 : Nat) : Int) = 1 from rfl] at hb1
     rw [hb1]
     have hbv : b = validM x := by
      rw [Bool.eq_iff_iff, hb2, valid_iff, sorted_unlike (sortI_sorted _), (sortI_perm _).nodup_iff]
      exact ⟨fun g => ⟨hc, ho, g⟩, fun g => g.2.2⟩
     rw [hbv]
   ·rw [if_neg ho]
    have : validM x = false := by
     cases hv : validM x with
     | false => rfl
     | true => exact (ho ((valid_iff x).1 hv).2.1).elim
    rw [this]
 rw [LvG.f32_eq, sel_dec]
 by_cases hlt : (x.length : Int) < 1
 ·rw [if_pos hlt]
  exact hgo true (by rw [decide_eq_false (by omega)]; rfl)
 ·rw [if_neg hlt]
  refine hgo _ ?_
  by_cases hgt : (x.length : Int) > 7
  ·rw [decide_eq_true hgt, decide_eq_false (by omega)]; rfl
  ·rw [decide_eq_false hgt, decide_eq_true (by omega)]; rfl
theorem numbers_ok (x : Levels) {B : Nat} (h : Sm x B) (j : Nat) (hj : 20000001 ≤ j) : LvG.f72 j x = some (numsM x, ()) := by
 obtain ⟨j, rfl⟩ : ∃ j', j = j' + 1 := ⟨j - 1, by omega⟩
 rw [LvG.f72_eq, valid_ok x h j (by omega)]
 simp only [ob_some']
 unfold numsM
 cases validM x with
 | false => rfl
 | true => rw [Bool.not_true, sel_f, nums_ok x h j (by omega)]; rfl
end Lw
end
section
/-! The document's set: its tables; its calls. Plain. -/
namespace Lw
open Go Lk Lv
open LvS1 (nums numsM sortI)
open LvS0 (mayB sel_and)
variable {A : List Levels} {H W : List Int}
theorem dd_loop (l : List Int) (hl : l.length ≤ 1073741823) (n0 : Nat) : ∀ (k i j : Nat) (out : List Int), i + k = l.length → out.length ≤ i → l.length + k + 4 ≤ j → out.Pairwise (· < ·) →
  LvG.p45_10 j n0 l out (i : Int) = some (dd (l.drop i) out, ())
 | 0, i, j, out, hi, ho, hj, _ => by
  obtain ⟨j, rfl⟩ : ∃ j', j = j' + 1 := ⟨j - 1, by omega⟩
  rw [LvG.p45_10_eq, sel_dec, if_neg (by omega), List.drop_of_length_le (by omega)]; rfl
 | k + 1, i, j, out, hi, ho, hj, hs => by
  obtain ⟨j, rfl⟩ : ∃ j', j = j' + 2 := ⟨j - 2, by omega⟩
  have hil : i < l.length := by omega
  have e1 : l.getD (i : Int).toNat 0 = l[i] := by rw [Int.toNat_natCast, List.getD_eq_getElem?_getD, List.getElem?_eq_getElem hil]; rfl
  have e2 : IntKind.i64.wrap ((i : Int) + 1) = ((i + 1 : Nat) : Int) := by rw [wrap64 (by omega) (by omega)]; omega
  rw [LvG.p45_10_eq, sel_dec, if_pos (by omega), sel_dec, if_pos (by omega), sel_dec, if_pos (by omega), e1, in_ok out _ (by omega) _ (by omega), List.drop_eq_getElem_cons hil]
  simp only [ob_some']
  unfold dd
  by_cases hc : out.contains l[i] = true
  ·rw [hc, sel_t, if_pos rfl, LvG.p45_11_eq, e2]
   exact dd_loop l hl n0 k (i + 1) (j + 1) out (by omega) (by omega) (by omega) hs
  ·have hc' : out.contains l[i] = false := by simpa using hc
   rw [hc', sel_f, if_neg (by simp), sel_dec, if_pos (by omega), sel_dec, if_pos (by omega), sel_dec, if_pos (by omega)]
   have hsw := swaps45 n0 (j + 1) l (i : Int) out.reverse l[i] [] (j + 1) (by simp; omega) (by simp; omega)
   rw [List.reverse_reverse, List.length_reverse] at hsw
   have hp := ins_rev_perm out l[i]
   have hle : (ins out.reverse l[i] []).length ≤ i + 1 := by have := hp.length_eq; simp at this; omega
   have hx : l[i] ∉ out := by simpa using hc
   have hs' := sorted_strict (ins_rev_sorted (strict_le hs) l[i]) (hp.nodup_iff.2 (List.nodup_cons.2 ⟨hx, strict_nodup hs⟩))
   rw [hsw, LvG.p45_11_eq, e2]
   exact dd_loop l hl n0 k (i + 1) (j + 1) _ (by omega) hle (by omega) hs'
def vn (vs : List (Int × (Levels × Int))) : List Int := (vs.map fun p => numsM p.2.1).flatten
theorem tabs_loop {B : Nat} (hl : A.length = H.length) (hA : A.length ≤ 1073741824) (hB : ∀ a ∈ A, Sm a B) (n0 : Nat) : ∀ (k i j : Nat) (acc : List Int), i + k = A.length → k + 20000005 ≤ j →
  acc.length + (vn (vsFrom ((i : Int) + 1) (A.drop i) (H.drop i))).length + W.length ≤ 1073741824 →
  LvG.p45_3 j n0 (some (A, H, W, ())) acc ((i : Int) + 1) = LvG.p45_10 n0 n0 (acc ++ vn (vsFrom ((i : Int) + 1) (A.drop i) (H.drop i)) ++ W) [] 0
 | 0, i, j, acc, hi, hj, hs => by
  obtain ⟨j, rfl⟩ : ∃ j', j = j' + 1 := ⟨j - 1, by omega⟩
  rw [LvG.p45_3_eq]
  simp only [Option.isSome_some, sel_t', Option.getD_some]
  rw [sel_dec, if_neg (by omega), List.drop_of_length_le (by omega), sel_dec, if_pos (by omega)]
  simp [vsFrom, vn]
 | k + 1, i, j, acc, hi, hj, hs => by
  obtain ⟨j, rfl⟩ : ∃ j', j = j' + 2 := ⟨j - 2, by omega⟩
  have hil : i < A.length := by omega
  rw [vs_drop hl i hil] at hs ⊢
  rw [LvG.p45_3_eq]
  simp only [Option.isSome_some, sel_t', Option.getD_some]
  rw [sel_dec, if_pos (by omega), there_ok hl hA _ _ (by omega), there_at hil]
  simp only [ob_some']
  have e1 : IntKind.i64.wrap ((i : Int) + 1 + 1) = ((i + 1 : Nat) : Int) + 1 := by rw [wrap64 (by omega) (by omega)]; omega
  cases ht : thereM A H i with
  | true =>
   rw [ht] at hs
   simp only [cond_true] at hs ⊢
   have e2 : IntKind.i64.wrap ((i : Int) + 1 - 1) = (i : Int) := by rw [wrap64 (by omega) (by omega)]; omega
   have e0 : A.getD i [] = A[i] := by rw [List.getD_eq_getElem?_getD, List.getElem?_eq_getElem hil]; rfl
   have ev : vn (((i : Int) + 1, (A.getD i [], H.getD i 0)) :: vsFrom (((i + 1 : Nat) : Int) + 1) (A.drop (i + 1)) (H.drop (i + 1))) = numsM (A.getD i []) ++ vn (vsFrom (((i + 1 : Nat) : Int) + 1) (A.drop (i + 1)) (H.drop (i + 1))) := rfl
   rw [ev, List.length_append] at hs
   rw [ev, sel_t, e2, sel_dec, if_pos (by omega), sel_dec, if_pos (by omega), Int.toNat_natCast, numbers_ok (A.getD i []) (by rw [e0]; exact hB _ (List.getElem_mem hil)) _ (by omega)]
   simp only [ob_some']
   rw [sel_dec, if_pos (by omega), LvG.p45_4_eq, e1, tabs_loop hl hA hB n0 k (i + 1) (j + 1) _ (by omega) (by omega) (by simp only [List.length_append]; omega)]
   simp only [List.append_assoc]
  | false =>
   rw [ht] at hs
   simp only [cond_false] at hs ⊢
   rw [sel_f, LvG.p45_4_eq, e1, tabs_loop hl hA hB n0 k (i + 1) (j + 1) acc (by omega) (by omega) hs]
theorem tables_ok {B : Nat} (hl : A.length = H.length) (hA : A.length ≤ 4194304) (hB : ∀ a ∈ A, Sm a B) (hs : (vn (vsFrom 1 A H)).length + W.length ≤ 4194304) (j : Nat) (hj : 30000000 ≤ j) :
  LvG.f45 j (A, H, W, ()) = some (tablesS (absS A H W), ()) := by
 obtain ⟨j, rfl⟩ : ∃ j', j = j' + 1 := ⟨j - 1, by omega⟩
 have h1 := tabs_loop (W := W) hl (by omega) hB j A.length 0 j [] (by omega) (by omega) (by simp; omega)
 have h2 := dd_loop (vn (vsFrom 1 A H) ++ W) (by simp only [List.length_append]; omega) j (vn (vsFrom 1 A H) ++ W).length 0 j [] (by omega) (by simp) (by simp only [List.length_append]; omega) .nil
 rw [LvG.f45_eq]
 have e : ((0 : Nat) : Int) + 1 = 1 := rfl
 rw [e, List.drop_zero, List.drop_zero, List.nil_append] at h1
 rw [List.drop_zero] at h2
 rw [h1]
 refine h2.trans ?_
 rw [dd_tables (s := absS A H W)]
 intro x
 unfold neededS
 show x ∈ vn (vsFrom 1 A H) ++ W ↔ x ∈ (W.map fun n => (n, (1 : Int))).map (·.1) ++ ((vsFrom 1 A H).map fun p => numsM p.2.1).flatten
 have e2 : (W.map fun n => (n, (1 : Int))).map (·.1) = W := by rw [List.map_map]; exact List.map_id _
 rw [e2, List.mem_append, List.mem_append]
 exact Or.comm
theorem held_ok (hl : A.length = H.length) (hA : A.length ≤ 1073741824) (v b : Int) (hv : 1 ≤ v ∧ v ≤ H.length) (hb : -9223372036854775808 ≤ refM H v + b) (hb2 : refM H v + b ≤ 9223372036854775807) (j : Nat) (hj : 1 ≤ j) :
  LvG.f67 j (A, H, W, ()) v b = some ((A, H.set (v - 1).toNat (refM H v + b), W, ()), ()) := by
 obtain ⟨j, rfl⟩ : ∃ j', j = j' + 1 := ⟨j - 1, by omega⟩
 rw [LvG.f67_eq]
 simp only [Option.isSome_some, sel_t', Option.getD_some, List.nil_append]
 have e : IntKind.i64.wrap (v - 1) = v - 1 := wrap64 (by omega) (by omega)
 have er : H.getD (v - 1).toNat 0 = refM H v := by unfold refM; rw [if_pos hv]
 rw [e, er, sel_dec, if_pos (by omega), sel_dec, if_pos (by omega), sel_dec, if_pos (by omega), wrap64 hb hb2, sel_dec, if_pos (by omega), sel_dec, if_pos (by omega)]
theorem hold_ok (hl : A.length = H.length) (hne : A ≠ []) (hA : A.length ≤ 1073741824) (hb : -9223372036854775808 ≤ refM H A.length + 1) (hb2 : refM H A.length + 1 ≤ 9223372036854775807) (j : Nat) (hj : 2 ≤ j) :
  LvG.f36 j (A, H, W, ()) = some ((A, H.set (A.length - 1) (refM H A.length + 1), W, ()), (A.length : Int), ()) := by
 obtain ⟨j, rfl⟩ : ∃ j', j = j' + 1 := ⟨j - 1, by omega⟩
 have hp : 1 ≤ A.length := by cases A with | nil => exact (hne rfl).elim | cons _ _ => simp
 rw [LvG.f36_eq]
 simp only [Option.isSome_some, sel_t', Option.getD_some]
 rw [held_ok hl hA _ _ (by omega) hb hb2 _ (by omega)]
 simp only [ob_some']
 rw [show ((A.length : Int) - 1).toNat = A.length - 1 by omega]
theorem drop_ok (hl : A.length = H.length) (hA : A.length ≤ 1073741824) (h0 : ∀ x ∈ H, 0 ≤ x) (v : Int) (hb2 : refM H v ≤ 9223372036854775807) (j : Nat) (hj : 4 ≤ j) :
  LvG.f37 j (A, H, W, ()) v = some (if refM H v = 0 then ((A, H, W, ()), 180, ()) else ((A, H.set (v - 1).toNat (refM H v + -1), W, ()), 0, ())) := by
 obtain ⟨j, rfl⟩ : ∃ j', j = j' + 1 := ⟨j - 1, by omega⟩
 rw [LvG.f37_eq]
 simp only [Option.isSome_some, sel_t', Option.getD_some]
 rw [refs_ok hl hA v j (by omega)]
 simp only [ob_some']
 by_cases h : refM H v = 0
 ·rw [show (refM H v == 0) = true by simpa using h, sel_t, if_pos h]
 ·have hv : 1 ≤ v ∧ v ≤ H.length := by
   apply Classical.byContradiction
   intro hc; exact h (by unfold refM; rw [if_neg hc])
  have hnn : 0 ≤ refM H v := by
   unfold refM
   rw [if_pos hv]
   have hi : (v - 1).toNat < H.length := by omega
   rw [List.getD_eq_getElem?_getD, List.getElem?_eq_getElem hi]
   exact h0 _ (List.getElem_mem hi)
  rw [show (refM H v == 0) = false by simpa using h, sel_f, if_neg h, held_ok hl hA v (-1) hv (by omega) (by omega) _ (by omega)]
  simp only [ob_some']
theorem begin_ok (hW : W.length ≤ 1073741823) (k : Int) (j : Nat) (hj : W.length + 5 ≤ j) :
  LvG.f39 j (A, H, W, ()) k = some (if k < 1 ∨ 2147483647 < k then ((A, H, W, ()), 2, ()) else if k ∈ W then ((A, H, W, ()), 81, ()) else ((A, H, W ++ [k], ()), 0, ())) := by
 obtain ⟨j, rfl⟩ : ∃ j', j = j' + 2 := ⟨j - 2, by omega⟩
 have key : ∀ b : Bool, b = decide (k < 1 ∨ 2147483647 < k) → LvG.p39_2050 (j + 1) (j + 1) k (some (A, H, W, ())) (some ([], [], [], ())) b = some (if k < 1 ∨ 2147483647 < k then ((A, H, W, ()), 2, ()) else if k ∈ W then ((A, H, W, ()), 81, ()) else ((A, H, W ++ [k], ()), 0, ())) := by
  intro b hb
  subst hb
  rw [LvG.p39_2050_eq, sel_dec]
  simp only [Option.isSome_some, sel_t', Option.getD_some]
  by_cases h : k < 1 ∨ 2147483647 < k
  ·rw [if_pos h, if_pos h]
  ·rw [if_neg h, if_neg h, LvG.p39_3_eq]
   simp only [Option.isSome_some, sel_t', Option.getD_some, List.nil_append]
   rw [in_ok W k (by omega) j (by omega)]
   simp only [ob_some']
   by_cases hk : k ∈ W
   ·rw [show W.contains k = true by simpa using hk, sel_t, if_pos hk]
   ·rw [show W.contains k = false by simpa using hk, sel_f, if_neg hk, sel_dec, if_pos (by omega), sel_dec, if_pos (by omega)]
 rw [LvG.f39_eq, sel_dec]
 by_cases h : k < 1
 ·rw [if_pos h]; exact key true (by rw [decide_eq_true (.inl h)])
 ·rw [if_neg h]
  refine key _ ?_
  by_cases h2 : k > 2147483647
  ·rw [decide_eq_true h2, decide_eq_true (.inr h2)]
  ·rw [decide_eq_false h2, decide_eq_false (by omega)]
theorem end_loop (hW : W.length ≤ 1073741823) (k : Int) (n0 : Nat) : ∀ (m i j : Nat) (acc : List Int), i + m = W.length → acc.length ≤ i → m + 2 ≤ j →
  LvG.p40_3 j n0 k (some (A, H, W, ())) (some ([], [], [], ())) acc (i : Int) = some (if (acc ++ (W.drop i).filter fun n => !(n == k)).length = W.length then ((A, H, W, ()), 51, ()) else ((A, H, acc ++ (W.drop i).filter fun n => !(n == k), ()), 0, ()))
 | 0, i, j, acc, hi, ha, hj => by
  obtain ⟨j, rfl⟩ : ∃ j', j = j' + 1 := ⟨j - 1, by omega⟩
  rw [LvG.p40_3_eq]
  simp only [Option.isSome_some, sel_t', Option.getD_some]
  rw [sel_dec, if_neg (by omega), List.drop_of_length_le (by omega), List.filter_nil, List.append_nil]
  by_cases h : acc.length = W.length
  ·rw [show ((acc.length : Int) == (W.length : Int)) = true by rw [beq_iff_eq]; omega, sel_t, if_pos h]
  ·rw [show ((acc.length : Int) == (W.length : Int)) = false by rw [beq_eq_false_iff_ne]; omega, sel_f, if_neg h]
 | m + 1, i, j, acc, hi, ha, hj => by
  obtain ⟨j, rfl⟩ : ∃ j', j = j' + 2 := ⟨j - 2, by omega⟩
  have hil : i < W.length := by omega
  have e0 : W.getD (i : Int).toNat 0 = W[i] := by rw [Int.toNat_natCast, List.getD_eq_getElem?_getD, List.getElem?_eq_getElem hil]; rfl
  have e2 : IntKind.i64.wrap ((i : Int) + 1) = ((i + 1 : Nat) : Int) := by rw [wrap64 (by omega) (by omega)]; omega
  rw [LvG.p40_3_eq]
  simp only [Option.isSome_some, sel_t', Option.getD_some]
  rw [sel_dec, if_pos (by omega), sel_dec, if_pos (by omega), sel_dec, if_pos (by omega), e0, sel_dec, if_pos (by omega), sel_dec, if_pos (by omega), sel_dec, if_pos (by omega), List.drop_eq_getElem_cons hil, List.filter_cons]
  by_cases h : W[i] = k
  ·rw [show (W[i] != k) = false by simp [h], show (!(W[i] == k)) = false by simp [h], sel_f, LvG.p40_4_eq, e2, end_loop hW k n0 m (i + 1) (j + 1) acc (by omega) (by omega) (by omega)]
   simp
  ·rw [show (W[i] != k) = true by simp [h], show (!(W[i] == k)) = true by simp [h], sel_t, LvG.p40_4_eq, e2, end_loop hW k n0 m (i + 1) (j + 1) (acc ++ [W[i]]) (by omega) (by simp; omega) (by omega)]
   simp [List.append_assoc]
theorem end_ok (hW : W.length ≤ 1073741823) (k : Int) (j : Nat) (hj : W.length + 3 ≤ j) :
  LvG.f40 j (A, H, W, ()) k = some (if k ∈ W then ((A, H, W.filter fun n => !(n == k), ()), 0, ()) else ((A, H, W, ()), 51, ())) := by
 obtain ⟨j, rfl⟩ : ∃ j', j = j' + 1 := ⟨j - 1, by omega⟩
 have := end_loop (A := A) (H := H) hW k j W.length 0 j [] (by omega) (by simp) (by omega)
 rw [LvG.f40_eq]
 rw [List.drop_zero, List.nil_append] at this
 refine this.trans ?_
 by_cases h : k ∈ W
 ·have hlt : (W.filter fun n => !(n == k)).length ≠ W.length := by
   intro e
   have := List.length_filter_eq_length_iff.1 e k h
   simp at this
  rw [if_pos h, if_neg hlt]
 ·have hall : (W.filter fun n => !(n == k)) = W := by
   rw [List.filter_eq_self]
   intro n hn
   simp only [Bool.not_eq_true', beq_eq_false_iff_ne]
   exact fun e => h (e ▸ hn)
  rw [if_neg h, hall, if_pos rfl]
theorem install_ok (hA : A.length ≤ 1073741823) (hH : H.length ≤ 1073741823) (lv : Levels) {B : Nat} (h : Sm lv B) (j : Nat) (hj : 20000001 ≤ j) :
  LvG.f34 j (A, H, W, ()) lv = some (if validM lv = true then ((A ++ [lv], H ++ [0], W, ()), (A.length : Int) + 1, ()) else ((A, H, W, ()), 0, ())) := by
 obtain ⟨j, rfl⟩ : ∃ j', j = j' + 1 := ⟨j - 1, by omega⟩
 rw [LvG.f34_eq, valid_ok lv h j (by omega)]
 simp only [Option.isSome_some, sel_t', Option.getD_some, List.nil_append, ob_some']
 cases validM lv with
 | false => rfl
 | true =>
  rw [Bool.not_true, sel_f, sel_dec, if_pos (by omega), sel_dec, if_pos (by omega), sel_dec, if_pos (by omega), sel_dec, if_pos (by omega), if_pos rfl]
  simp
theorem new_ok (lv : Levels) {B : Nat} (h : Sm lv B) (j : Nat) (hj : 20000001 ≤ j) : LvG.f8 j lv = some (if validM lv = true then (([lv], [0], [], ()), true, ()) else (([], [], [], ()), false, ())) := by
 obtain ⟨j, rfl⟩ : ∃ j', j = j' + 1 := ⟨j - 1, by omega⟩
 rw [LvG.f8_eq, valid_ok lv h j (by omega)]
 simp only [Option.isSome_some, sel_t', Option.getD_some, ob_some']
 cases validM lv <;> rfl
end Lw
end
section
/-! The law's own functions: copies, sameness, what is written over. Plain. -/
namespace Lw
open Go Lk Lv
open LvS1 (nums numsM sortI)
theorem ints_loop (l : List Int) (n0 : Nat) (hl : l.length ≤ 1073741824) : ∀ (k i j : Nat), i + k = l.length → k + 1 ≤ j → LvG.p21_4 j n0 l l (i : Int) = some (true, ())
 | 0, i, j, hi, hj => by
  obtain ⟨j, rfl⟩ : ∃ j', j = j' + 1 := ⟨j - 1, by omega⟩
  rw [LvG.p21_4_eq, sel_dec, if_neg (by omega)]
 | k + 1, i, j, hi, hj => by
  obtain ⟨j, rfl⟩ : ∃ j', j = j' + 1 := ⟨j - 1, by omega⟩
  have e2 : IntKind.i64.wrap ((i : Int) + 1) = ((i + 1 : Nat) : Int) := by rw [wrap64 (by omega) (by omega)]; omega
  rw [LvG.p21_4_eq, sel_dec, if_pos (by omega), sel_dec, if_pos (by omega), sel_dec, if_pos (by omega), sel_dec, if_pos (by omega), sel_dec, if_pos (by omega), bne_self_eq_false, sel_f, e2]
  exact ints_loop l n0 hl k (i + 1) j (by omega) (by omega)
theorem ints_ok (l : List Int) (hl : l.length ≤ 1073741824) (j : Nat) (hj : l.length + 2 ≤ j) : LvG.f21 j l l = some (true, ()) := by
 obtain ⟨j, rfl⟩ : ∃ j', j = j' + 1 := ⟨j - 1, by omega⟩
 rw [LvG.f21_eq, bne_self_eq_false, sel_f]
 exact ints_loop l j hl l.length 0 j (by omega) (by omega)
theorem texts_loop (l : List (List UInt8)) (n0 : Nat) (hl : l.length ≤ 1073741824) : ∀ (k i j : Nat), i + k = l.length → k + 1 ≤ j → LvG.p43_4 j n0 l l (i : Int) = some (true, ())
 | 0, i, j, hi, hj => by
  obtain ⟨j, rfl⟩ : ∃ j', j = j' + 1 := ⟨j - 1, by omega⟩
  rw [LvG.p43_4_eq, sel_dec, if_neg (by omega)]
 | k + 1, i, j, hi, hj => by
  obtain ⟨j, rfl⟩ : ∃ j', j = j' + 1 := ⟨j - 1, by omega⟩
  have e2 : IntKind.i64.wrap ((i : Int) + 1) = ((i + 1 : Nat) : Int) := by rw [wrap64 (by omega) (by omega)]; omega
  have e3 : (!(l.getD (i : Int).toNat [] == l.getD (i : Int).toNat [])) = false := by simp
  rw [LvG.p43_4_eq, sel_dec, if_pos (by omega), sel_dec, if_pos (by omega), sel_dec, if_pos (by omega), sel_dec, if_pos (by omega), sel_dec, if_pos (by omega), e3, sel_f, e2]
  exact texts_loop l n0 hl k (i + 1) j (by omega) (by omega)
theorem texts_ok (l : List (List UInt8)) (hl : l.length ≤ 1073741824) (j : Nat) (hj : l.length + 2 ≤ j) : LvG.f43 j l l = some (true, ()) := by
 obtain ⟨j, rfl⟩ : ∃ j', j = j' + 1 := ⟨j - 1, by omega⟩
 rw [LvG.f43_eq, bne_self_eq_false, sel_f]
 exact texts_loop l j hl l.length 0 j (by omega) (by omega)
section
theorem same_inner (x : Levels) (i : Nat) (hi : i < x.length) (hx : x.length ≤ 1073741824) (hy : (x.getD i []).length ≤ 1073741824) (n0 n1 : Nat) : ∀ (k c j : Nat), c + k = (x.getD i []).length → k + 1 ≤ j →
  LvG.p35_9 j n0 n1 x x (i : Int) (c : Int) = LvG.p35_4 n1 n0 x x (IntKind.i64.wrap ((i : Int) + 1))
 | 0, c, j, hc, hj => by
  obtain ⟨j, rfl⟩ : ∃ j', j = j' + 1 := ⟨j - 1, by omega⟩
  rw [LvG.p35_9_eq, sel_dec, if_pos (by omega), sel_dec, if_pos (by omega), Int.toNat_natCast, sel_dec, if_neg (by omega)]
 | k + 1, c, j, hc, hj => by
  obtain ⟨j, rfl⟩ : ∃ j', j = j' + 1 := ⟨j - 1, by omega⟩
  have e2 : IntKind.i64.wrap ((c : Int) + 1) = ((c + 1 : Nat) : Int) := by rw [wrap64 (by omega) (by omega)]; omega
  rw [LvG.p35_9_eq, sel_dec, if_pos (by omega), sel_dec, if_pos (by omega), Int.toNat_natCast, sel_dec, if_pos (by omega), sel_dec, if_pos (by omega), sel_dec, if_pos (by omega), sel_dec, if_pos (by omega), sel_dec, if_pos (by omega), sel_dec, if_pos (by omega), sel_dec, if_pos (by omega), sel_dec, if_pos (by omega), sel_dec, if_pos (by omega)]
  simp only [beq_self_eq_true, Bool.and_self, Bool.not_true, sel_f']
  rw [e2]
  exact same_inner x i hi hx hy n0 n1 k (c + 1) j (by omega) (by omega)
theorem same_loop (x : Levels) {B : Nat} (hx : x.length ≤ 1073741824) (hL : ∀ y ∈ x, y.length ≤ B) (hB : B ≤ 1073741824) (n0 : Nat) : ∀ (k i j : Nat), i + k = x.length → B + k + 2 ≤ j → LvG.p35_4 j n0 x x (i : Int) = some (true, ())
 | 0, i, j, hi, hj => by
  obtain ⟨j, rfl⟩ : ∃ j', j = j' + 1 := ⟨j - 1, by omega⟩
  rw [LvG.p35_4_eq, sel_dec, if_neg (by omega)]
 | k + 1, i, j, hi, hj => by
  obtain ⟨j, rfl⟩ : ∃ j', j = j' + 1 := ⟨j - 1, by omega⟩
  have hil : i < x.length := by omega
  have e0 : x.getD i [] = x[i] := by rw [List.getD_eq_getElem?_getD, List.getElem?_eq_getElem hil]; rfl
  have hyl : (x.getD i []).length ≤ B := by rw [e0]; exact hL _ (List.getElem_mem hil)
  have e2 : IntKind.i64.wrap ((i : Int) + 1) = ((i + 1 : Nat) : Int) := by rw [wrap64 (by omega) (by omega)]; omega
  have h1 := same_inner x i hil hx (by omega) n0 j (x.getD i []).length 0 j (by omega) (by omega)
  rw [show ((0 : Nat) : Int) = 0 from rfl] at h1
  rw [LvG.p35_4_eq, sel_dec, if_pos (by omega), sel_dec, if_pos (by omega), sel_dec, if_pos (by omega), sel_dec, if_pos (by omega), sel_dec, if_pos (by omega), bne_self_eq_false, sel_f, h1, e2]
  exact same_loop x hx hL hB n0 k (i + 1) j (by omega) (by omega)
theorem same_ok (x : Levels) {B : Nat} (h : Sm x B) (j : Nat) (hj : 10000000 ≤ j) : LvG.f35 j x x = some (true, ()) := by
 obtain ⟨j, rfl⟩ : ∃ j', j = j' + 1 := ⟨j - 1, by omega⟩
 have h1 := h.len
 have h3 := h.b
 rw [LvG.f35_eq, bne_self_eq_false, sel_f]
 exact same_loop x (by omega) h.lev (by omega) j x.length 0 j (by omega) (by omega)
end
theorem copied_loop (x : Levels) (hx : x.length ≤ 1073741823) (hy : ∀ y ∈ x, y.length ≤ 1073741824) (n0 : Nat) : ∀ (k i j : Nat) (out : Levels), i + k = x.length → out = x.take i → k + 1 ≤ j → LvG.p6_3 j n0 x out (i : Int) = some (x, ())
 | 0, i, j, out, hi, ho, hj => by
  obtain ⟨j, rfl⟩ : ∃ j', j = j' + 1 := ⟨j - 1, by omega⟩
  rw [LvG.p6_3_eq, sel_dec, if_neg (by omega), ho, List.take_of_length_le (by omega)]
 | k + 1, i, j, out, hi, ho, hj => by
  obtain ⟨j, rfl⟩ : ∃ j', j = j' + 1 := ⟨j - 1, by omega⟩
  have hil : i < x.length := by omega
  have e0 : x.getD i [] = x[i] := by rw [List.getD_eq_getElem?_getD, List.getElem?_eq_getElem hil]; rfl
  have hyl : (x.getD i []).length ≤ 1073741824 := by rw [e0]; exact hy _ (List.getElem_mem hil)
  have e2 : IntKind.i64.wrap ((i : Int) + 1) = ((i + 1 : Nat) : Int) := by rw [wrap64 (by omega) (by omega)]; omega
  have hol : out.length = i := by rw [ho, List.length_take]; omega
  rw [LvG.p6_3_eq, sel_dec, if_pos (by omega), sel_dec, if_pos (by omega), sel_dec, if_pos (by omega), Int.toNat_natCast, sel_dec, if_pos (by omega), sel_dec, if_pos (by omega), e2]
  refine copied_loop x hx hy n0 k (i + 1) j _ (by omega) ?_ (by omega)
  rw [ho, List.nil_append, e0, List.take_succ_eq_append_getElem hil]
theorem copied_ok (x : Levels) {B : Nat} (h : Sm x B) (j : Nat) (hj : 10000000 ≤ j) : LvG.f6 j x = some (x, ()) := by
 obtain ⟨j, rfl⟩ : ∃ j', j = j' + 1 := ⟨j - 1, by omega⟩
 have h1 := h.len
 have h3 := h.b
 rw [LvG.f6_eq]
 exact copied_loop x (by omega) (fun y hy => by have := h.lev y hy; omega) j x.length 0 j [] (by omega) rfl (by omega)
theorem wiped_inner (n0 n1 : Nat) (i : Nat) (ls : List Nat) (hls : ls.length ≤ 1073741824) (hi : i < ls.length) (hb : ∀ n ∈ ls, n ≤ 1073741824) : ∀ (k c j : Nat) (x : Levels), x.map List.length = ls → c + k = ls.getD i 0 → k + 1 ≤ j → ∃ x' : Levels, x'.map List.length = ls ∧ LvG.p9_4 j n0 n1 x (i : Int) (c : Int) = LvG.p9_1 n1 n0 x' (IntKind.i64.wrap ((i : Int) + 1))
 | 0, c, j, x, hx, hc, hj => by
  obtain ⟨j, rfl⟩ : ∃ j', j = j' + 1 := ⟨j - 1, by omega⟩
  have hxl : x.length = ls.length := by rw [← hx]; simp
  have hyl : (x.getD i []).length = ls.getD i 0 := by
   rw [← hx, List.getD_eq_getElem?_getD, List.getD_eq_getElem?_getD, List.getElem?_map, List.getElem?_eq_getElem (show i < x.length by omega)]; rfl
  refine ⟨x, hx, ?_⟩
  rw [LvG.p9_4_eq, sel_dec, if_pos (by omega), sel_dec, if_pos (by omega), Int.toNat_natCast, sel_dec, if_neg (by omega)]
 | k + 1, c, j, x, hx, hc, hj => by
  obtain ⟨j, rfl⟩ : ∃ j', j = j' + 1 := ⟨j - 1, by omega⟩
  have hxl : x.length = ls.length := by rw [← hx]; simp
  have hil : i < x.length := by omega
  have e0 : x.getD i [] = x[i] := by rw [List.getD_eq_getElem?_getD, List.getElem?_eq_getElem hil]; rfl
  have hyl : (x.getD i []).length = ls.getD i 0 := by
   rw [← hx, List.getD_eq_getElem?_getD, List.getD_eq_getElem?_getD, List.getElem?_map, List.getElem?_eq_getElem hil]; rfl
  have hb' : ls.getD i 0 ≤ 1073741824 := by
   rw [List.getD_eq_getElem?_getD, List.getElem?_eq_getElem hi]; exact hb _ (List.getElem_mem hi)
  have e2 : IntKind.i64.wrap ((c : Int) + 1) = ((c + 1 : Nat) : Int) := by rw [wrap64 (by omega) (by omega)]; omega
  rw [LvG.p9_4_eq, sel_dec, if_pos (by omega), sel_dec, if_pos (by omega), Int.toNat_natCast, sel_dec, if_pos (by omega), sel_dec, if_pos (by omega), sel_dec, if_pos (by omega), sel_dec, if_pos (by omega), sel_dec, if_pos (by omega), e2]
  refine wiped_inner n0 n1 i ls hls hi hb k (c + 1) j _ ?_ (by omega) (by omega)
  rw [List.map_set, List.length_set, e0]
  have : (x.map List.length).set i x[i].length = x.map List.length := by
   rw [show x[i].length = (x.map List.length)[i]'(by simpa using hil) by simp]
   exact List.set_getElem_self _
  rw [this, hx]
theorem wiped_loop (n0 : Nat) (ls : List Nat) (hls : ls.length ≤ 1073741824) {B : Nat} (hb : ∀ n ∈ ls, n ≤ B) (hB : B ≤ 1073741824) : ∀ (k i j : Nat) (x : Levels), x.map List.length = ls → i + k = ls.length → B + k + 2 ≤ j → ∃ x', LvG.p9_1 j n0 x (i : Int) = some (x', ())
 | 0, i, j, x, hx, hi, hj => by
  obtain ⟨j, rfl⟩ : ∃ j', j = j' + 1 := ⟨j - 1, by omega⟩
  have hxl : x.length = ls.length := by rw [← hx]; simp
  rw [LvG.p9_1_eq, sel_dec, if_neg (by omega)]
  exact ⟨x, rfl⟩
 | k + 1, i, j, x, hx, hi, hj => by
  obtain ⟨j, rfl⟩ : ∃ j', j = j' + 1 := ⟨j - 1, by omega⟩
  have hxl : x.length = ls.length := by rw [← hx]; simp
  have hb' : ls.getD i 0 ≤ B := by
   rw [List.getD_eq_getElem?_getD, List.getElem?_eq_getElem (show i < ls.length by omega)]; exact hb _ (List.getElem_mem _)
  obtain ⟨x', hx', h1⟩ := wiped_inner n0 j i ls hls (by omega) (fun n hn => by have := hb n hn; omega) (ls.getD i 0) 0 j x hx (by omega) (by omega)
  have e2 : IntKind.i64.wrap ((i : Int) + 1) = ((i + 1 : Nat) : Int) := by rw [wrap64 (by omega) (by omega)]; omega
  rw [show ((0 : Nat) : Int) = 0 from rfl] at h1
  rw [LvG.p9_1_eq, sel_dec, if_pos (by omega), h1, e2]
  exact wiped_loop n0 ls hls hb hB k (i + 1) j x' hx' (by omega) (by omega)
theorem wiped_ok (x : Levels) {B : Nat} (h : Sm x B) (j : Nat) (hj : 10000000 ≤ j) : ∃ x', LvG.f9 j x = some (x', ()) := by
 obtain ⟨j, rfl⟩ : ∃ j', j = j' + 1 := ⟨j - 1, by omega⟩
 have h1 := h.len
 have h3 := h.b
 rw [LvG.f9_eq]
 exact wiped_loop j (x.map List.length) (by simp; omega) (B := B) (fun n hn => by obtain ⟨y, hy, rfl⟩ := List.mem_map.1 hn; exact h.lev y hy) (by omega) x.length 0 j x rfl (by simp) (by omega)
def amongM (x n : Int) : Int := (IntKind.i64.wrap (x.tmod n + n)).tmod n
theorem among_ok (x n : Int) (hn : 1 ≤ n ∧ n ≤ 8) (j : Nat) (hj : 1 ≤ j) : LvG.f28 j x n = some (amongM x n, ()) := by
 obtain ⟨j, rfl⟩ : ∃ j', j = j' + 1 := ⟨j - 1, by omega⟩
 have e : (n != 0) = true := by rw [bne_iff_ne]; omega
 rw [LvG.f28_eq, e, sel_t, sel_t]
 rfl
end Lw
end
section
/-! What is obsolete: by the program, by the document. Plain. -/
namespace Lw
open Go Lk Lv
open LvS1 (nums numsM sortI)
abbrev T := List UInt8
noncomputable def goneM (tb : List Int) (lg mn : Int) (s : T) : Bool :=
 (Nq.parseA s).2.2.1 == 0 && (if (Nq.parseA s).1 = 1 then decide ((Nq.parseA s).2.1 < lg) else if (Nq.parseA s).1 = 2 then !tb.contains (Nq.parseA s).2.1 else if (Nq.parseA s).1 = 3 then (Nq.parseA s).2.1 != mn else (Nq.parseA s).1 == 5)
structure Told1 : Prop where
 h24 : ∀ j s, 30 ≤ j → List.length (α := UInt8) s ≤ 1048576 → LvG.f24 j s = some (Nq.parseA s)
 h71 : ∀ j s, 1048700 ≤ j → List.length (α := UInt8) s ≤ 1048576 → LvG.f71 j s = some (Nq.parseA s)
 h58 : ∀ j (L : List T), 6000000 ≤ j → L.length ≤ 1048576 → So.Sh 1048576 L → LvG.f58 j L = some (So.srt So.leN L, ())
 h70 : ∀ j (L : List T), 5000000 ≤ j → L.length ≤ 1048576 → So.Sh 1048576 L → LvG.f70 j L = some (So.srt So.leN L, ())
variable (hT : Told1)
include hT
theorem obs_loop (tb : List Int) (htb : tb.Pairwise (· ≤ ·)) (htl : tb.length ≤ 1073741824) (lg mn : Int) (L : List T) (hL : L.length ≤ 1048576) (hsh : So.Sh 1048576 L) (n0 : Nat) : ∀ (k i j : Nat) (out : List T), i + k = L.length → out.length ≤ i → k + 40 ≤ j →
  LvG.p26_6 j n0 lg mn tb out L (L.length : Int) (i : Int) = some (out ++ (L.drop i).filter (goneM tb lg mn), ())
 | 0, i, j, out, hi, ho, hj => by
  obtain ⟨j, rfl⟩ : ∃ j', j = j' + 1 := ⟨j - 1, by omega⟩
  rw [LvG.p26_6_eq, sel_dec, if_neg (by omega), List.drop_of_length_le (by omega), List.filter_nil, List.append_nil]
 | k + 1, i, j, out, hi, ho, hj => by
  obtain ⟨j, rfl⟩ : ∃ j', j = j' + 4 := ⟨j - 4, by omega⟩
  have hil : i < L.length := by omega
  have e0 : L.getD (i : Int).toNat [] = L[i] := by rw [Int.toNat_natCast, List.getD_eq_getElem?_getD, List.getElem?_eq_getElem hil]; rfl
  have e2 : IntKind.i64.wrap ((i : Int) + 1) = ((i + 1 : Nat) : Int) := by rw [wrap64 (by omega) (by omega)]; omega
  have fin : ∀ fl : Bool, ((Nq.parseA L[i]).2.2.1 == 0 && fl) = goneM tb lg mn L[i] → LvG.p26_20 (j + 3) n0 (j + 3) lg mn tb out L[i] (Nq.parseA L[i]).2.2.1 fl L (L.length : Int) (i : Int) = some (out ++ (L.drop i).filter (goneM tb lg mn), ()) := by
   intro fl hfl
   have h20 : LvG.p26_20 (j + 3) n0 (j + 3) lg mn tb out L[i] (Nq.parseA L[i]).2.2.1 fl L (L.length : Int) (i : Int) = LvG.p26_2069 (j + 2) n0 (j + 3) (j + 2) lg mn tb out L[i] L (L.length : Int) (i : Int) (goneM tb lg mn L[i]) := by
    rw [LvG.p26_20_eq, ← hfl]
    cases (Nq.parseA L[i]).2.2.1 == 0 <;> rfl
   rw [h20, LvG.p26_2069_eq, List.drop_eq_getElem_cons hil, List.filter_cons]
   cases goneM tb lg mn L[i] with
   | true =>
    rw [sel_t, sel_dec, if_pos (by omega), LvG.p26_22_eq, e2, obs_loop tb htb htl lg mn L hL hsh n0 k (i + 1) (j + 3) (out ++ [L[i]]) (by omega) (by simp; omega) (by omega)]
    simp [List.append_assoc]
   | false =>
    rw [sel_f, LvG.p26_22_eq, e2, obs_loop tb htb htl lg mn L hL hsh n0 k (i + 1) (j + 3) out (by omega) (by omega) (by omega)]
    simp
  rw [LvG.p26_6_eq, sel_dec, if_pos (by omega), sel_dec, if_pos (by omega), sel_dec, if_pos (by omega), e0, hT.h24 (j + 3) L[i] (by omega) (hsh _ (List.getElem_mem hil))]
  simp only [ob_some']
  by_cases h1 : (Nq.parseA L[i]).1 = 1
  ·rw [show ((Nq.parseA L[i]).1 == 1) = true by simpa using h1, sel_t]
   exact fin _ (by unfold goneM; rw [if_pos h1])
  ·rw [show ((Nq.parseA L[i]).1 == 1) = false by simpa using h1, sel_f]
   by_cases h2 : (Nq.parseA L[i]).1 = 2
   ·rw [show ((Nq.parseA L[i]).1 == 2) = true by simpa using h2, sel_t, LvG.f59_eq, show (Nat.ble (List.length tb) 1073741824 && decide (tb.Pairwise (· ≤ ·))) = true by rw [Nat.ble_eq_true_of_le htl, decide_eq_true htb]; rfl, cond_true]
    simp only [ob_some']
    exact fin _ (by unfold goneM; rw [if_neg h1, if_pos h2])
   ·rw [show ((Nq.parseA L[i]).1 == 2) = false by simpa using h2, sel_f]
    by_cases h3 : (Nq.parseA L[i]).1 = 3
    ·rw [show ((Nq.parseA L[i]).1 == 3) = true by simpa using h3, sel_t]
     exact fin _ (by unfold goneM; rw [if_neg h1, if_neg h2, if_pos h3])
    ·rw [show ((Nq.parseA L[i]).1 == 3) = false by simpa using h3, sel_f]
     have hg : ((Nq.parseA L[i]).2.2.1 == 0 && ((Nq.parseA L[i]).1 == 5)) = goneM tb lg mn L[i] := by unfold goneM; rw [if_neg h1, if_neg h2, if_neg h3]
     cases h5 : (Nq.parseA L[i]).1 == 5 with
     | true => rw [sel_t]; exact fin _ (by rw [← hg, h5])
     | false => rw [sel_f]; exact fin _ (by rw [← hg, h5])
theorem obs_ok (s : Lk.LiveS) (hs : s.vs.all (fun p => smallN p.2.1) = true) (hn : (neededS s).length ≤ 1073741824) (hl : (tablesS s).length ≤ 1073741824) (L : List T) (hL : L.length ≤ 1048576) (hsh : So.Sh 1048576 L) (lg mn : Int) (j : Nat) (hj : 10000000 ≤ j) :
  LvG.f26 j (some s) L lg mn = some ((So.srt So.leN L).filter (goneM (tablesS s) lg mn), ()) := by
 obtain ⟨j, rfl⟩ : ∃ j', j = j' + 1 := ⟨j - 1, by omega⟩
 have hx : xTables (some s) = some (tablesS s, ()) := by
  show (bif (s.vs.all fun p => smallN p.2.1) && Nat.ble (neededS s).length 1073741824 then some (tablesS s, ()) else none) = _
  rw [hs, Nat.ble_eq_true_of_le hn]; rfl
 have hxn : xNone (some s) = some (false, ()) := rfl
 rw [LvG.f26_eq, LvG.f49_eq, LvG.f22_eq, hx, hT.h58 j L (by omega) hL hsh, hxn]
 simp only [ob_some']
 rw [sel_f]
 have h := obs_loop hT (tablesS s) (strict_le (tables_spec s).1) hl lg mn (So.srt So.leN L) (by rw [So.srt_len]; exact hL) (fun x hx => hsh x (So.mem_srt.1 hx)) j (So.srt So.leN L).length 0 j [] (by omega) (by simp) (by rw [So.srt_len]; omega)
 rw [show ((0 : Nat) : Int) = 0 from rfl, List.drop_zero, List.nil_append] at h
 exact h
theorem robs_loop (tb : List Int) (htl : tb.length ≤ 1073741824) (lg mn : Int) (L : List T) (hL : L.length ≤ 1048576) (hsh : So.Sh 1048576 L) (n0 : Nat) : ∀ (k i j : Nat) (out : List T), i + k = L.length → out.length ≤ i → k + tb.length + 1048800 ≤ j →
  LvG.p44_5 j n0 lg mn out tb L (i : Int) = some (out ++ (L.drop i).filter (goneM tb lg mn), ())
 | 0, i, j, out, hi, ho, hj => by
  obtain ⟨j, rfl⟩ : ∃ j', j = j' + 1 := ⟨j - 1, by omega⟩
  rw [LvG.p44_5_eq, sel_dec, if_neg (by omega), List.drop_of_length_le (by omega), List.filter_nil, List.append_nil]
 | k + 1, i, j, out, hi, ho, hj => by
  obtain ⟨j, rfl⟩ : ∃ j', j = j' + 4 := ⟨j - 4, by omega⟩
  have hil : i < L.length := by omega
  have e0 : L.getD (i : Int).toNat [] = L[i] := by rw [Int.toNat_natCast, List.getD_eq_getElem?_getD, List.getElem?_eq_getElem hil]; rfl
  have e2 : IntKind.i64.wrap ((i : Int) + 1) = ((i + 1 : Nat) : Int) := by rw [wrap64 (by omega) (by omega)]; omega
  have skip : goneM tb lg mn L[i] = false → LvG.p44_6 (j + 3) n0 (j + 3) lg mn out tb L (i : Int) = some (out ++ (L.drop i).filter (goneM tb lg mn), ()) := by
   intro hg
   rw [LvG.p44_6_eq, e2, robs_loop tb htl lg mn L hL hsh n0 k (i + 1) (j + 3) out (by omega) (by omega) (by omega), List.drop_eq_getElem_cons hil, List.filter_cons, hg]
   simp
  have fin : ∀ fl : Bool, fl = goneM tb lg mn L[i] → LvG.p44_2058 (j + 3) n0 (j + 3) lg mn out tb L (i : Int) fl = some (out ++ (L.drop i).filter (goneM tb lg mn), ()) := by
   intro fl hfl
   rw [LvG.p44_2058_eq]
   cases fl with
   | true =>
    rw [sel_t, sel_dec, if_pos (by omega), sel_dec, if_pos (by omega), sel_dec, if_pos (by omega), e0, LvG.p44_6_eq, e2, robs_loop tb htl lg mn L hL hsh n0 k (i + 1) (j + 3) (out ++ [L[i]]) (by omega) (by simp; omega) (by omega), List.drop_eq_getElem_cons hil, List.filter_cons, ← hfl]
    simp [List.append_assoc]
   | false => rw [sel_f]; exact skip hfl.symm
  rw [LvG.p44_5_eq, sel_dec, if_pos (by omega), sel_dec, if_pos (by omega), sel_dec, if_pos (by omega), e0, hT.h71 (j + 3) L[i] (by omega) (hsh _ (List.getElem_mem hil))]
  simp only [ob_some']
  rw [in_ok tb _ htl (j + 3) (by omega)]
  simp only [ob_some']
  by_cases h0 : (Nq.parseA L[i]).2.2.1 = 0
  ·rw [show ((Nq.parseA L[i]).2.2.1 != 0) = false by simp [h0], sel_f]
   have hg : goneM tb lg mn L[i] = (if (Nq.parseA L[i]).1 = 1 then decide ((Nq.parseA L[i]).2.1 < lg) else if (Nq.parseA L[i]).1 = 2 then !tb.contains (Nq.parseA L[i]).2.1 else if (Nq.parseA L[i]).1 = 3 then (Nq.parseA L[i]).2.1 != mn else (Nq.parseA L[i]).1 == 5) := by
    unfold goneM
    rw [show ((Nq.parseA L[i]).2.2.1 == 0) = true by simp [h0], Bool.true_and]
   by_cases h1 : (Nq.parseA L[i]).1 = 1
   ·rw [if_pos h1] at hg
    rw [h1, show ((1 : Int) == 1) = true from rfl, sel_t, show ((1 : Int) == 2) = false from rfl, show ((1 : Int) == 3) = false from rfl, show ((1 : Int) == 5) = false from rfl, sel_dec, sel_f, sel_f]
    by_cases hl : (Nq.parseA L[i]).2.1 < lg
    ·rw [if_pos hl]; exact fin true (by rw [hg, decide_eq_true hl])
    ·rw [if_neg hl]; exact fin false (by rw [hg, decide_eq_false hl])
   ·rw [if_neg h1] at hg
    rw [show ((Nq.parseA L[i]).1 == 1) = false by simpa using h1, sel_f]
    by_cases h2 : (Nq.parseA L[i]).1 = 2
    ·rw [if_pos h2] at hg
     rw [h2, show ((2 : Int) == 2) = true from rfl, sel_t, show ((2 : Int) == 3) = false from rfl, show ((2 : Int) == 5) = false from rfl, sel_f]
     cases hc : tb.contains (Nq.parseA L[i]).2.1 with
     | true => rw [Bool.not_true, sel_f]; exact fin false (by rw [hg, hc]; rfl)
     | false => rw [Bool.not_false, sel_t]; exact fin true (by rw [hg, hc]; rfl)
    ·rw [if_neg h2] at hg
     rw [show ((Nq.parseA L[i]).1 == 2) = false by simpa using h2, sel_f]
     by_cases h3 : (Nq.parseA L[i]).1 = 3
     ·rw [if_pos h3] at hg
      rw [h3, show ((3 : Int) == 3) = true from rfl, sel_t, show ((3 : Int) == 5) = false from rfl]
      cases hc : (Nq.parseA L[i]).2.1 != mn with
      | true => rw [sel_t]; exact fin true (by rw [hg, hc])
      | false => rw [sel_f]; exact fin false (by rw [hg, hc])
     ·rw [if_neg h3] at hg
      rw [show ((Nq.parseA L[i]).1 == 3) = false by simpa using h3, sel_f]
      exact fin _ hg.symm
  ·rw [show ((Nq.parseA L[i]).2.2.1 != 0) = true by simp [h0], sel_t]
   exact skip (by unfold goneM; rw [show ((Nq.parseA L[i]).2.2.1 == 0) = false by simp [h0]]; rfl)
theorem robs_ok {A : List Levels} {H W : List Int} {B : Nat} (hl : A.length = H.length) (hA : A.length ≤ 4194304) (hB : ∀ a ∈ A, Sm a B) (hs : (vn (vsFrom 1 A H)).length + W.length ≤ 4194304) (ht : (tablesS (absS A H W)).length ≤ 4194304)
  (L : List T) (hL : L.length ≤ 1048576) (hsh : So.Sh 1048576 L) (lg mn : Int) (j : Nat) (hj : 40000000 ≤ j) :
  LvG.f44 j (A, H, W, ()) L lg mn = some ((So.srt So.leN L).filter (goneM (tablesS (absS A H W)) lg mn), ()) := by
 obtain ⟨j, rfl⟩ : ∃ j', j = j' + 1 := ⟨j - 1, by omega⟩
 rw [LvG.f44_eq]
 simp only [Option.isSome_some, sel_t', Option.getD_some]
 rw [tables_ok hl hA hB hs j (by omega), hT.h70 j L (by omega) hL hsh]
 simp only [ob_some']
 have h := robs_loop hT (tablesS (absS A H W)) (by omega) lg mn (So.srt So.leN L) (by rw [So.srt_len]; exact hL) (fun x hx => hsh x (So.mem_srt.1 hx)) j (So.srt So.leN L).length 0 j [] (by omega) (by simp) (by rw [So.srt_len]; omega)
 rw [show ((0 : Nat) : Int) = 0 from rfl, List.drop_zero, List.nil_append] at h
 exact h
end Lw
end
section
/-! The program's set, at the document's: what each call does. Plain. -/
namespace Lw
open Go Lk Lv
open LvS1 (nums numsM sortI)
variable {A : List Levels} {H W : List Int} {B : Nat}
theorem le_sum : ∀ {l : List Nat} {n : Nat}, n ∈ l → n ≤ l.sum
 | a :: l, n, h => by
  rw [List.sum_cons]
  rcases List.mem_cons.1 h with rfl | h
  ·omega
  ·have := le_sum h; omega
theorem lev_nums {a : Levels} {y : List Lk.LFile} (h : y ∈ a) : y.length ≤ (nums a).length := by
 unfold nums
 rw [List.length_flatten]
 have : (y.map fun f => f.1).length ∈ (a.map fun y => y.map fun f => f.1).map List.length := List.mem_map.2 ⟨_, List.mem_map.2 ⟨y, h, rfl⟩, rfl⟩
 rw [List.length_map] at this
 exact le_sum this
theorem nums_sum {a : Levels} (h : a ∈ A) : (nums a).length ≤ (A.map fun a => (nums a).length).sum := le_sum (List.mem_map.2 ⟨a, h, rfl⟩)
theorem inv_sm (h : Inv A H W B) (hB : B + 7 ≤ 4194304) {a : Levels} (ha : a ∈ A) : Sm a (B + 7) := by
 have hv := (valid_iff a).1 (h.ok a ha)
 have h1 := nums_sum ha
 have h2 := h.room
 exact ⟨by have := hv.1.2; omega, fun y hy => by have := lev_nums hy; omega, by omega, hB⟩
theorem sm_smallL {a : Levels} (h : Sm a B) : smallL a = true := by
 have h1 := h.len
 have h3 := h.b
 unfold smallL
 rw [Bool.and_eq_true, Nat.ble_eq, List.all_eq_true]
 exact ⟨by omega, fun y hy => by rw [Nat.ble_eq]; have := h.lev y hy; omega⟩
theorem sm_smallN {a : Levels} (h : Sm a B) : smallN a = true := by
 have h1 := h.len
 have h2 := h.num
 have h3 := h.b
 unfold smallN
 rw [Bool.and_eq_true, Nat.ble_eq, Nat.ble_eq]
 exact ⟨by omega, by omega⟩
theorem in64_of {n : Int} (h1 : -9223372036854775808 ≤ n) (h2 : n ≤ 9223372036854775807) : in64 n = true := by
 unfold in64; rw [decide_eq_true h1, decide_eq_true h2]; rfl
theorem has_iff (h : A.length = H.length) (k : Int) : has (absS A H W).vs k = thereK A H k := by
 rw [has_get, get_abs h]
 cases thereK A H k <;> rfl
theorem there_last (hne : A ≠ []) : thereK A H A.length = true := by
 have hp : 1 ≤ A.length := by cases A with | nil => exact (hne rfl).elim | cons _ _ => simp
 unfold thereK thereM
 rw [decide_eq_true (by omega), show Nat.beq (((A.length : Int) - 1).toNat + 1) A.length = true by rw [Nat.beq_eq]; omega]; rfl
theorem there_refs (h : A.length = H.length) (h0 : ∀ x ∈ H, 0 ≤ x) {k : Int} (hr : refM H k ≠ 0) : thereK A H k = true ∧ 0 < refM H k ∧ 1 ≤ k ∧ k ≤ H.length := by
 have hk : 1 ≤ k ∧ k ≤ H.length := by
  apply Classical.byContradiction
  intro hc; exact hr (by unfold refM; rw [if_neg hc])
 have hi : (k - 1).toNat < H.length := by omega
 have hp : 0 ≤ refM H k := by
  unfold refM
  rw [if_pos hk, List.getD_eq_getElem?_getD, List.getElem?_eq_getElem hi]
  exact h0 _ (List.getElem_mem hi)
 have e : H.getD (k - 1).toNat 0 = refM H k := by unfold refM; rw [if_pos hk]
 refine ⟨?_, by omega, hk⟩
 unfold thereK thereM
 rw [decide_eq_true (by omega), e, decide_eq_true (by omega), Bool.or_true]; rfl
theorem ref_top (h : Inv A H W B) (k : Int) : 0 ≤ refM H k ∧ refM H k ≤ B := by
 unfold refM
 split
 ·rename_i hk
  have hi : (k - 1).toNat < H.length := by omega
  rw [List.getD_eq_getElem?_getD, List.getElem?_eq_getElem hi]
  exact ⟨h.pos _ (List.getElem_mem hi), h.top _ (List.getElem_mem hi)⟩
 ·omega
theorem install_step (h : Inv A H W B) (hB : B ≤ 4194304) (lv : Levels) {C : Nat} (hs : Sm lv C) :
  xInstall (some (absS A H W)) lv = if validM lv = true then some ((A.length : Int) + 1, some (absS (A ++ [lv]) (H ++ [0]) W), ()) else some (0, some (absS A H W), ()) := by
 obtain ⟨h1, h2⟩ := install_abs (W := W) h.len h.ne h.pos lv
 have hc := h.cnt
 show (bif validM lv then (bif smallL lv && !has (absS A H W).vs ((A.length : Int) + 1) && in64 ((A.length : Int) + 1) then some ((installS (absS A H W) lv).cur, some (installS (absS A H W) lv), ()) else none) else some (0, some (absS A H W), ())) = _
 cases validM lv with
 | false => rfl
 | true =>
  rw [h1, h2, sm_smallL hs, in64_of (by omega) (by omega), if_pos rfl]
  show some (((A ++ [lv]).length : Int), _, _) = _
  rw [List.length_append, List.length_singleton]
  rfl
theorem hold_step (h : Inv A H W B) (hB : B ≤ 4194304) : xHold (some (absS A H W)) = some ((A.length : Int), some (absS A (H.set (A.length - 1) (refM H A.length + 1)) W), ()) := by
 obtain ⟨r1, r2⟩ := ref_top h A.length
 have ht := there_last (H := H) h.ne
 have e := turn_abs (W := W) h.len h.pos A.length 1 ht (by omega)
 show (bif has (absS A H W).vs (A.length : Int) && in64 (refsOf (absS A H W) (A.length : Int) + 1) then some ((turnS (absS A H W) (A.length : Int) 1).cur, some (turnS (absS A H W) (A.length : Int) 1), ()) else none) = _
 rw [has_iff h.len, ht, refs_abs h.len h.pos, in64_of (by omega) (by omega), e]
 rw [show ((A.length : Int) - 1).toNat = A.length - 1 by omega]
 rfl
theorem drop_step (h : Inv A H W B) (hB : B ≤ 4194304) (k : Int) : xDrop (some (absS A H W)) k = if refM H k = 0 then some (180, some (absS A H W), ()) else some (0, some (absS A (H.set (k - 1).toNat (refM H k + -1)) W), ()) := by
 obtain ⟨r1, r2⟩ := ref_top h k
 show (bif refsOf (absS A H W) k == 0 then some (180, some (absS A H W), ()) else bif has (absS A H W).vs k && in64 (refsOf (absS A H W) k + -1) then some (0, some (turnS (absS A H W) k (-1)), ()) else none) = _
 rw [refs_abs h.len h.pos]
 by_cases hr : refM H k = 0
 ·rw [show (refM H k == 0) = true by simpa using hr, if_pos hr]; rfl
 ·obtain ⟨ht, hp, _, _⟩ := there_refs h.len h.pos hr
  rw [show (refM H k == 0) = false by simpa using hr, if_neg hr, has_iff h.len, ht, in64_of (by omega) (by omega), turn_abs (W := W) h.len h.pos k (-1) ht (by omega)]
  rfl
theorem begin_step (k : Int) : xBegin (some (absS A H W)) k = if k < 1 ∨ 2147483647 < k then some (2, some (absS A H W), ()) else if k ∈ W then some (81, some (absS A H W), ()) else some (0, some (absS A H (W ++ [k])), ()) := by
 show (bif decide (k < 1) || decide (2147483647 < k) then some (2, some (absS A H W), ()) else bif decide (0 < wrOf (absS A H W) k) then some (81, some (absS A H W), ()) else some (0, some ({ absS A H W with wr := put (absS A H W).wr k 1 } : Lk.LiveS), ())) = _
 rw [wr_abs]
 by_cases h : k < 1 ∨ 2147483647 < k
 ·rw [if_pos h, ← Bool.decide_or, decide_eq_true h]; rfl
 ·rw [if_neg h, ← Bool.decide_or, decide_eq_false h, cond_false]
  by_cases hk : k ∈ W
  ·rw [if_pos hk, if_pos hk]; rfl
  ·rw [if_neg hk, if_neg hk, begin_abs k hk]; rfl
theorem end_step (k : Int) : xEnd (some (absS A H W)) k = if k ∈ W then some (0, some (absS A H (W.filter fun n => !(n == k))), ()) else some (51, some (absS A H W), ()) := by
 show (bif wrOf (absS A H W) k == 0 then some (51, some (absS A H W), ()) else some (0, some ({ absS A H W with wr := del (absS A H W).wr k } : Lk.LiveS), ())) = _
 rw [wr_abs]
 by_cases hk : k ∈ W
 ·rw [if_pos hk, if_pos hk, end_abs]; rfl
 ·rw [if_neg hk, if_neg hk]; rfl
theorem hold_inv (h : Inv A H W B) : Inv A (H.set (A.length - 1) (refM H A.length + 1)) W (B + 1) := by
 obtain ⟨r1, r2⟩ := ref_top h A.length
 exact h.turn _ _ (by omega) (by omega)
theorem drop_inv (h : Inv A H W B) {k : Int} (hr : refM H k ≠ 0) : Inv A (H.set (k - 1).toNat (refM H k + -1)) W (B + 1) := by
 obtain ⟨_, hp, _, _⟩ := there_refs h.len h.pos hr
 obtain ⟨r1, r2⟩ := ref_top h k
 exact h.turn _ _ (by omega) (by omega)
theorem vs_len : ∀ (A : List Levels) (H : List Int) (k : Int), (vsFrom k A H).length ≤ A.length
 | [], _, _ => by simp [vsFrom]
 | a :: A, [], _ => by simp [vsFrom]
 | a :: A, h :: H, k => by
  have := vs_len A H (k + 1)
  unfold vsFrom
  cases A.isEmpty || decide (0 < h) with
  | true => rw [cond_true]; simp only [List.length_cons]; omega
  | false => rw [cond_false]; simp only [List.length_cons]; omega
theorem vs_mem : ∀ (A : List Levels) (H : List Int) (k : Int), ∀ p ∈ vsFrom k A H, p.2.1 ∈ A
 | [], _, _, p, h => by simp [vsFrom] at h
 | a :: A, [], _, p, h => by simp [vsFrom] at h
 | a :: A, h :: H, k, p, hp => by
  unfold vsFrom at hp
  cases hc : A.isEmpty || decide (0 < h) with
  | true =>
   rw [hc, cond_true] at hp
   rcases List.mem_cons.1 hp with rfl | hp
   ·exact List.mem_cons_self ..
   ·exact List.mem_cons_of_mem _ (vs_mem A H (k + 1) p hp)
  | false =>
   rw [hc, cond_false] at hp
   exact List.mem_cons_of_mem _ (vs_mem A H (k + 1) p hp)
theorem numsM_len (a : Levels) : (numsM a).length ≤ (nums a).length := by
 unfold numsM
 cases validM a with
 | true => exact Nat.le_of_eq (sortI_perm _).length_eq
 | false => exact Nat.zero_le _
theorem vn_len : ∀ (A : List Levels) (H : List Int) (k : Int), (vn (vsFrom k A H)).length ≤ (A.map fun a => (nums a).length).sum
 | [], _, _ => by simp [vsFrom, vn]
 | a :: A, [], _ => by simp [vsFrom, vn]
 | a :: A, h :: H, k => by
  have := vn_len A H (k + 1)
  have h2 := numsM_len a
  unfold vsFrom
  rw [List.map_cons, List.sum_cons]
  cases A.isEmpty || decide (0 < h) with
  | true =>
   rw [cond_true]
   show (numsM a ++ vn (vsFrom (k + 1) A H)).length ≤ _
   rw [List.length_append]; omega
  | false => rw [cond_false]; omega
theorem needed_len (h : Inv A H W B) : (neededS (absS A H W)).length ≤ B ∧ (vn (vsFrom 1 A H)).length + W.length ≤ B ∧ (tablesS (absS A H W)).length ≤ B := by
 have h1 := vn_len A H 1
 have h2 := h.room
 have e : (neededS (absS A H W)).length = W.length + (vn (vsFrom 1 A H)).length := by
  show ((W.map fun n => (n, (1 : Int))).map (·.1) ++ vn (vsFrom 1 A H)).length = _
  simp
 refine ⟨by omega, by omega, ?_⟩
 have h3 := compact_length (sortI (neededS (absS A H W)))
 have h4 := (sortI_perm (neededS (absS A H W))).length_eq
 show (Lib.compact (sortI (neededS (absS A H W)))).length ≤ B
 omega
where compact_length (l : List Int) : (Lib.compact l).length ≤ l.length := Lib.compact_length_le l
theorem smallN_all (h : Inv A H W B) (hB : B + 7 ≤ 4194304) : (absS A H W).vs.all (fun p => smallN p.2.1) = true := by
 rw [List.all_eq_true]
 intro p hp
 exact sm_smallN (inv_sm h hB (vs_mem A H 1 p hp))
theorem tables_step (h : Inv A H W B) (hB : B + 7 ≤ 4194304) : xTables (some (absS A H W)) = some (tablesS (absS A H W), ()) := by
 obtain ⟨h1, _, _⟩ := needed_len h
 show (bif (absS A H W).vs.all (fun p => smallN p.2.1) && Nat.ble (neededS (absS A H W)).length 1073741824 then some (tablesS (absS A H W), ()) else none) = _
 rw [smallN_all h hB, Nat.ble_eq_true_of_le (by omega)]; rfl
theorem len_step (h : Inv A H W B) (hB : B ≤ 4194304) : xLen (some (absS A H W)) = some (((vsFrom 1 A H).length : Int), ()) := by
 have h1 := vs_len A H 1
 have h2 := h.cnt
 show (bif Nat.ble (vsFrom 1 A H).length 1073741824 then some (((vsFrom 1 A H).length : Int), ()) else none) = _
 rw [Nat.ble_eq_true_of_le (by omega)]; rfl
theorem lev_at (h : A.length = H.length) {k : Int} (ht : thereK A H k = true) : levelsOf (absS A H W) k = A.getD (k - 1).toNat [] ∧ A.getD (k - 1).toNat [] ∈ A := by
 have hk : 1 ≤ k ∧ k ≤ (A.length : Int) := by
  unfold thereK at ht
  rw [Bool.and_eq_true, decide_eq_true_eq] at ht
  exact ht.1
 have hi : (k - 1).toNat < A.length := by omega
 refine ⟨?_, by rw [List.getD_eq_getElem?_getD, List.getElem?_eq_getElem hi]; exact List.getElem_mem hi⟩
 unfold levelsOf
 rw [get_abs h, ht]; rfl
theorem levels_step (h : Inv A H W B) (hB : B + 7 ≤ 4194304) (k : Int) : xLevels (some (absS A H W)) k = some (if thereK A H k = true then (A.getD (k - 1).toNat [], 0, ()) else ([], 180, ())) := by
 show (bif has (absS A H W).vs k then (bif smallL (levelsOf (absS A H W) k) then some (levelsOf (absS A H W) k, 0, ()) else none) else some ([], 180, ())) = _
 rw [has_iff h.len]
 cases ht : thereK A H k with
 | false => rfl
 | true =>
  obtain ⟨e, hm⟩ := lev_at (W := W) h.len ht
  rw [e, sm_smallL (inv_sm h hB hm)]; rfl
theorem current_step (h : Inv A H W B) (hB : B + 7 ≤ 4194304) : xCurrent (some (absS A H W)) = some ((A.length : Int), A.getD (A.length - 1) [], ()) ∧ A.getD (A.length - 1) [] ∈ A := by
 obtain ⟨e, hm⟩ := lev_at (W := W) h.len (there_last (H := H) h.ne)
 rw [show ((A.length : Int) - 1).toNat = A.length - 1 by omega] at e hm
 refine ⟨?_, hm⟩
 show (bif smallL (levelsOf (absS A H W) (A.length : Int)) then some ((A.length : Int), levelsOf (absS A H W) (A.length : Int), ()) else none) = _
 rw [e, sm_smallL (inv_sm h hB hm)]; rfl
theorem new_step (lv : Levels) {C : Nat} (hs : Sm lv C) : xNew lv = if validM lv = true then some (some (absS [lv] [0] []), ()) else some (none, ()) := by
 unfold xNew
 cases validM lv with
 | false => rfl
 | true => rw [sm_smallL hs]; rfl
theorem refs_step (h : Inv A H W B) (k : Int) : xRefs (some (absS A H W)) k = some (refM H k, ()) := by
 show some (refsOf (absS A H W) k, ()) = _
 rw [refs_abs h.len h.pos]
abbrev Act := Int × Int × Int × Levels × List T × Unit
structure ActOk (a : Act) : Prop where
 lev : Sm a.2.2.2.1 1048576
 nl : List.length a.2.2.2.2.1 ≤ 1048576
 ns : So.Sh 1048576 a.2.2.2.2.1
def wt (a : Act) : Nat := 1 + (nums a.2.2.2.1).length
theorem sm_nil {C : Nat} (h : C ≤ 4194304) : Sm [] C := ⟨by simp, by simp, by simp [nums], h⟩
end Lw
end
section
/-! LivePlays: each call answers as the document says. Plain. -/
namespace Lw
open Go Lk Lv
open LvS1 (nums numsM sortI)
variable {A : List Levels} {H W : List Int} {B : Nat}
section
theorem spoil_loop (a : Act) (ha : ActOk a) (n0 : Nat) (hn : 1048600 ≤ n0) : ∀ (k i j : Nat) (R : List T), R.length ≤ 1048576 → i + k = R.length → k + 1 ≤ j → LvG.p12_15 j n0 (some a) a.2.2.2.2.1 R (i : Int) = some (true, ())
 | 0, i, j, R, hR, hi, hj => by
  obtain ⟨j, rfl⟩ : ∃ j', j = j' + 1 := ⟨j - 1, by omega⟩
  have hnl := ha.nl
  rw [LvG.p12_15_eq, sel_dec, if_neg (by omega)]
  simp only [Option.isSome_some, sel_t', Option.getD_some]
  rw [texts_ok a.2.2.2.2.1 (by omega) n0 (by omega)]
  rfl
 | k + 1, i, j, R, hR, hi, hj => by
  obtain ⟨j, rfl⟩ : ∃ j', j = j' + 1 := ⟨j - 1, by omega⟩
  have e2 : IntKind.i64.wrap ((i : Int) + 1) = ((i + 1 : Nat) : Int) := by rw [wrap64 (by omega) (by omega)]; omega
  rw [LvG.p12_15_eq, sel_dec, if_pos (by omega), sel_dec, if_pos (by omega), sel_dec, if_pos (by omega), e2]
  exact spoil_loop a ha n0 hn k (i + 1) j _ (by simpa using hR) (by simp; omega) (by omega)
theorem over_loop (x : Levels) {C : Nat} (hx : Sm x C) (n0 n1 : Nat) (hn : 10000000 ≤ n1) : ∀ (k i j : Nat) (R : List Int), R.length ≤ 4194304 → i + k = R.length → k + 1 ≤ j → LvG.p12_24 j n0 n1 R x (i : Int) = some (true, ())
 | 0, i, j, R, hR, hi, hj => by
  obtain ⟨j, rfl⟩ : ∃ j', j = j' + 1 := ⟨j - 1, by omega⟩
  obtain ⟨x', e⟩ := wiped_ok x hx n1 hn
  rw [LvG.p12_24_eq, sel_dec, if_neg (by omega), e]
  rfl
 | k + 1, i, j, R, hR, hi, hj => by
  obtain ⟨j, rfl⟩ : ∃ j', j = j' + 1 := ⟨j - 1, by omega⟩
  have e2 : IntKind.i64.wrap ((i : Int) + 1) = ((i + 1 : Nat) : Int) := by rw [wrap64 (by omega) (by omega)]; omega
  rw [LvG.p12_24_eq, sel_dec, if_pos (by omega), sel_dec, if_pos (by omega), sel_dec, if_pos (by omega), e2]
  exact over_loop x hx n0 n1 hn k (i + 1) j _ (by simpa using hR) (by simp; omega) (by omega)
end
variable (hT : Told1)
include hT
theorem asked_ok (h : Inv A H W B) (hB : B + 7 ≤ 4194304) (a : Act) (ha : ActOk a) (j : Nat) (hj : 50000000 ≤ j) : LvG.f12 j (some (absS A H W)) (A, H, W, ()) a = some (true, ()) := by
 obtain ⟨j, rfl⟩ : ∃ j', j = j' + 4 := ⟨j - 4, by omega⟩
 have hcnt := h.cnt
 have hnl := ha.nl
 obtain ⟨n1, n2, n3⟩ := needed_len h
 rw [LvG.f12_eq]
 simp only [Option.isSome_some, sel_t', Option.getD_some]
 rw [among_ok _ _ (by omega) _ (by omega)]
 simp only [ob_some']
 cases amongM a.1 8 == 5 with
 | true =>
  rw [sel_t, LvG.f29_eq, levels_step h hB, levels_ok h.len (by omega) _ _ (by omega), LvG.f17_eq, refs_step h, refs_ok h.len (by omega) _ _ (by omega)]
  have hs : Sm (if thereK A H a.2.1 = true then ((A.getD (a.2.1 - 1).toNat [], 0, ()) : Levels × Int × Unit) else ([], 180, ())).1 (B + 7) := by
   by_cases ht : thereK A H a.2.1 = true
   ·rw [if_pos ht]
    exact inv_sm h hB (lev_at (W := W) h.len ht).2
   ·rw [if_neg ht]; exact sm_nil hB
  generalize (if thereK A H a.2.1 = true then ((A.getD (a.2.1 - 1).toNat [], 0, ()) : Levels × Int × Unit) else ([], 180, ())) = r at hs ⊢
  simp only [ob_some']
  rw [same_ok r.1 hs _ (by omega)]
  simp only [ob_some', Bool.not_true, sel_f', bne_self_eq_false]
  obtain ⟨x', e⟩ := wiped_ok r.1 hs (j + 2) (by omega)
  rw [LvG.p12_2054_eq, sel_f, LvG.p12_7_eq, e]
  rfl
 | false =>
  rw [sel_f]
  cases amongM a.1 8 == 6 with
  | true =>
   rw [sel_t, sel_dec, if_pos (by omega), List.nil_append, obs_ok hT (absS A H W) (smallN_all h hB) (by omega) (by omega) a.2.2.2.2.1 ha.nl ha.ns _ _ _ (by omega),
    robs_ok hT h.len (by omega) (fun x hx => inv_sm h hB hx) (by omega) (by omega) a.2.2.2.2.1 ha.nl ha.ns _ _ _ (by omega)]
   simp only [ob_some']
   have hR : ((So.srt So.leN a.2.2.2.2.1).filter (goneM (tablesS (absS A H W)) a.2.1 a.2.2.1)).length ≤ 1048576 := by
    have := List.length_filter_le (goneM (tablesS (absS A H W)) a.2.1 a.2.2.1) (So.srt So.leN a.2.2.2.2.1)
    rw [So.srt_len] at this
    omega
   generalize (So.srt So.leN a.2.2.2.2.1).filter (goneM (tablesS (absS A H W)) a.2.1 a.2.2.1) = R at hR ⊢
   rw [texts_ok R (by omega) _ (by omega)]
   simp only [ob_some', Bool.not_true, sel_f']
   have := spoil_loop a ha (j + 3) (by omega) R.length 0 (j + 3) R hR (by omega) (by omega)
   exact this
  | false =>
   obtain ⟨ec, hm⟩ := current_step h hB
   rw [sel_f, LvG.f22_eq, tables_step h hB, LvG.f16_eq, ec, tables_ok h.len (by omega) (fun x hx => inv_sm h hB hx) (by omega) _ (by omega)]
   simp only [ob_some']
   rw [ints_ok _ (by omega) _ (by omega)]
   simp only [ob_some', Bool.not_true, sel_f']
   rw [LvG.f20_eq, len_step h (by omega), len_ok h.len (by omega) _ (by omega)]
   simp only [ob_some', bne_self_eq_false, sel_f']
   have hp : 1 ≤ A.length := by have := h.ne; cases hA : A with | nil => exact (this hA).elim | cons _ _ => simp
   have e1 : IntKind.i64.wrap ((A.length : Int) - 1) = ((A.length - 1 : Nat) : Int) := by rw [wrap64 (by omega) (by omega)]; omega
   rw [e1, sel_dec, if_pos (by omega), sel_dec, if_pos (by omega), Int.toNat_natCast, same_ok _ (inv_sm h hB hm) _ (by omega)]
   simp only [ob_some', Bool.not_true]
   rw [LvG.p12_2070_eq, sel_f, LvG.p12_23_eq]
   exact over_loop _ (inv_sm h hB hm) _ _ (by omega) (tablesS (absS A H W)).length 0 _ _ (by omega) (by omega) (by omega)
omit hT in
theorem fin1 (s : Option Lk.LiveS) (R : Ref) (a : Act) (x y : Int) (j : Nat) : LvG.p11_24_1 (j + 1) (j + 1) s (some R) (some a) (some ([], [], [], ())) x x y y = some (R, true, s, ()) := by
 rw [LvG.p11_24_1_eq]
 simp only [Option.isSome_some, sel_t', Option.getD_some, beq_self_eq_true]
omit hT in
theorem fin0 (s : Option Lk.LiveS) (R : Ref) (a : Act) (x y : Int) (j : Nat) : LvG.p11_24 (j + 1) (j + 1) s (some R) (some a) (some ([], [], [], ())) x x y y = some (R, true, s, ()) := by
 rw [LvG.p11_24_eq]
 simp only [Option.isSome_some, sel_t', Option.getD_some, beq_self_eq_true]
theorem does_ok (h : Inv A H W B) (a : Act) (hB : B + wt a + 7 ≤ 4194304) (ha : ActOk a) (j : Nat) (hj : 60000000 ≤ j) :
  ∃ A' H' W', Inv A' H' W' (B + wt a) ∧ LvG.f11 j (some (absS A H W)) (A, H, W, ()) a = some ((A', H', W', ()), true, some (absS A' H' W'), ()) := by
 obtain ⟨j, rfl⟩ : ∃ j', j = j' + 2 := ⟨j - 2, by omega⟩
 have hcnt := h.cnt
 have hlen := h.len
 have hroom := h.room
 have hw : 1 ≤ wt a := by unfold wt; omega
 have hsm := ha.lev
 rw [LvG.f11_eq]
 simp only [Option.isSome_some, sel_t', Option.getD_some]
 rw [among_ok _ _ (by omega) _ (by omega)]
 simp only [ob_some']
 generalize amongM a.1 8 = q
 cases q == 0 with
 | true =>
  rw [sel_t, copied_ok _ hsm _ (by omega)]
  simp only [ob_some']
  rw [LvG.f33_eq, install_step h (by omega) _ hsm, install_ok (by omega) (by omega) _ hsm _ (by omega)]
  obtain ⟨x', ex⟩ := wiped_ok _ hsm (j + 1) (by omega)
  by_cases hv : validM a.2.2.2.1 = true
  ·refine ⟨A ++ [a.2.2.2.1], H ++ [0], W, ?_, ?_⟩
   ·have := h.install a.2.2.2.1 hv (sm_smallL hsm)
    exact this.mono (by unfold wt; omega)
   ·rw [if_pos hv, if_pos hv]
    simp only [ob_some']
    rw [same_ok _ hsm _ (by omega)]
    simp only [ob_some', Bool.not_true, sel_f']
    rw [ex]
    simp only [ob_some']
    exact fin0 _ _ _ _ _ _
  ·refine ⟨A, H, W, h.mono (by omega), ?_⟩
   rw [if_neg hv, if_neg hv]
   simp only [ob_some']
   rw [same_ok _ hsm _ (by omega)]
   simp only [ob_some', Bool.not_true, sel_f']
   rw [ex]
   simp only [ob_some']
   exact fin0 _ _ _ _ _ _
 | false =>
 rw [sel_f]
 cases q == 1 with
 | true =>
  obtain ⟨r1, r2⟩ := ref_top h A.length
  refine ⟨_, _, _, (hold_inv h).mono (by omega), ?_⟩
  rw [sel_t, LvG.f27_eq, hold_step h (by omega), hold_ok h.len h.ne (by omega) (by omega) (by omega) _ (by omega)]
  simp only [ob_some']
  exact fin1 _ _ _ _ _ _
 | false =>
 rw [sel_f]
 cases q == 2 with
 | true =>
  obtain ⟨r1, r2⟩ := ref_top h a.2.1
  rw [sel_t, LvG.f18_eq, drop_step h (by omega), drop_ok h.len (by omega) h.pos _ (by omega) _ (by omega)]
  by_cases hr : refM H a.2.1 = 0
  ·refine ⟨A, H, W, h.mono (by omega), ?_⟩
   rw [if_pos hr, if_pos hr]
   simp only [ob_some']
   exact fin1 _ _ _ _ _ _
  ·refine ⟨_, _, _, (drop_inv h hr).mono (by omega), ?_⟩
   rw [if_neg hr, if_neg hr]
   simp only [ob_some']
   exact fin1 _ _ _ _ _ _
 | false =>
 rw [sel_f]
 cases q == 3 with
 | true =>
  rw [sel_t, LvG.f38_eq, begin_step, begin_ok (by omega) _ _ (by omega)]
  by_cases hk : a.2.1 < 1 ∨ 2147483647 < a.2.1
  ·refine ⟨A, H, W, h.mono (by omega), ?_⟩
   rw [if_pos hk, if_pos hk]
   simp only [ob_some']
   exact fin1 _ _ _ _ _ _
  ·rw [if_neg hk, if_neg hk]
   by_cases hm : a.2.1 ∈ W
   ·refine ⟨A, H, W, h.mono (by omega), ?_⟩
    rw [if_pos hm, if_pos hm]
    simp only [ob_some']
    exact fin1 _ _ _ _ _ _
   ·refine ⟨A, H, W ++ [a.2.1], (h.begin _ (by omega) (by omega) hm).mono (by omega), ?_⟩
    rw [if_neg hm, if_neg hm]
    simp only [ob_some']
    exact fin1 _ _ _ _ _ _
 | false =>
 rw [sel_f]
 cases q == 4 with
 | true =>
  rw [sel_t, LvG.f19_eq, end_step, end_ok (by omega) _ _ (by omega)]
  by_cases hm : a.2.1 ∈ W
  ·refine ⟨A, H, _, (h.fin a.2.1).mono (by omega), ?_⟩
   rw [if_pos hm, if_pos hm]
   simp only [ob_some']
   exact fin1 _ _ _ _ _ _
  ·refine ⟨A, H, W, h.mono (by omega), ?_⟩
   rw [if_neg hm, if_neg hm]
   simp only [ob_some']
   exact fin1 _ _ _ _ _ _
 | false =>
  refine ⟨A, H, W, h.mono (by omega), ?_⟩
  rw [sel_f, asked_ok hT h (by omega) a ha _ (by omega)]
  rfl
theorem ask_loop (h : Inv A H W B) (hB : B + 7 ≤ 4194304) (n0 n1 : Nat) (hn : 50000000 ≤ n1) : ∀ (k i j : Nat), i + k = A.length + 2 → k + 50000001 ≤ j → LvG.p3_16 j n0 n1 (some (absS A H W)) (some (A, H, W, ())) (i : Int) = some (true, ())
 | 0, i, j, hi, hj => by
  obtain ⟨j, rfl⟩ : ∃ j', j = j' + 1 := ⟨j - 1, by omega⟩
  have hcnt := h.cnt
  rw [LvG.p3_16_eq]
  simp only [Option.isSome_some, sel_t', Option.getD_some]
  rw [sel_dec, if_neg (by rw [wrap64 (by omega) (by omega)]; omega), asked_ok hT h hB _ ⟨sm_nil (by omega), by simp, by intro x hx; cases hx⟩ n1 hn]
  rfl
 | k + 1, i, j, hi, hj => by
  obtain ⟨j, rfl⟩ : ∃ j', j = j' + 1 := ⟨j - 1, by omega⟩
  have hcnt := h.cnt
  have e2 : IntKind.i64.wrap ((i : Int) + 1) = ((i + 1 : Nat) : Int) := by rw [wrap64 (by omega) (by omega)]; omega
  rw [LvG.p3_16_eq]
  simp only [Option.isSome_some, sel_t', Option.getD_some]
  rw [sel_dec, if_pos (by rw [wrap64 (by omega) (by omega)]; omega), asked_ok hT h hB _ ⟨sm_nil (by omega), by simp, by intro x hx; cases hx⟩ j (by omega)]
  simp only [ob_some', Bool.not_true, sel_f']
  rw [e2]
  exact ask_loop h hB n0 n1 hn k (i + 1) j (by omega) (by omega)
theorem play_loop (acts : List Act) (hok : ∀ a ∈ acts, ActOk a) (hl : acts.length ≤ 1048576) (n0 n1 : Nat) (hn : 55000000 ≤ n1) : ∀ (k i j : Nat) (A : List Levels) (H W : List Int) (B : Nat), Inv A H W B → i + k = acts.length → B + ((acts.drop i).map wt).sum + 7 ≤ 4194304 → k + 60000001 ≤ j →
  LvG.p3_10 j n0 n1 acts (some (absS A H W)) (some (A, H, W, ())) (i : Int) = some (true, ())
 | 0, i, j, A, H, W, B, h, hi, hB, hj => by
  obtain ⟨j, rfl⟩ : ∃ j', j = j' + 1 := ⟨j - 1, by omega⟩
  have hcnt := h.cnt
  rw [LvG.p3_10_eq, sel_dec, if_neg (by omega)]
  exact ask_loop hT h (by omega) n0 n1 (by omega) (A.length + 2) 0 n1 (by omega) (by omega)
 | k + 1, i, j, A, H, W, B, h, hi, hB, hj => by
  obtain ⟨j, rfl⟩ : ∃ j', j = j' + 1 := ⟨j - 1, by omega⟩
  have hil : i < acts.length := by omega
  have e0 : acts.getD (i : Int).toNat ((0 : Int), (0 : Int), (0 : Int), [], [], ()) = acts[i] := by rw [Int.toNat_natCast, List.getD_eq_getElem?_getD, List.getElem?_eq_getElem hil]; rfl
  have e2 : IntKind.i64.wrap ((i : Int) + 1) = ((i + 1 : Nat) : Int) := by rw [wrap64 (by omega) (by omega)]; omega
  rw [List.drop_eq_getElem_cons hil, List.map_cons, List.sum_cons] at hB
  obtain ⟨A', H', W', h', ed⟩ := does_ok hT h acts[i] (by omega) (hok _ (List.getElem_mem hil)) j (by omega)
  rw [LvG.p3_10_eq, sel_dec, if_pos (by omega)]
  simp only [Option.isSome_some, sel_t', Option.getD_some]
  rw [sel_dec, if_pos (by omega), sel_dec, if_pos (by omega), e0, ed]
  simp only [ob_some', Bool.not_true, sel_f']
  rw [e2]
  exact play_loop acts hok hl n0 n1 hn k (i + 1) j A' H' W' _ h' (by omega) (by omega) (by omega)
omit hT in
theorem one_valid : validM [[]] = true := by decide +kernel
theorem law3_gen (l : Levels) (acts : List Act) (hl : Sm l 1048576) (hok : ∀ a ∈ acts, ActOk a) (hn : acts.length ≤ 1048576) (hs : (acts.map wt).sum ≤ 3000000) (n : Nat) (hn0 : 99999996 ≤ n) : LvG.f3 (n + 4) l acts = some (true, ()) := by
 rw [LvG.f3_eq, copied_ok l hl _ (by omega)]
 simp only [ob_some']
 obtain ⟨x', ex⟩ := wiped_ok l hl (n + 3) (by omega)
 rw [LvG.f7_eq, new_step l hl, new_ok l hl _ (by omega)]
 by_cases hv : validM l = true
 ·rw [if_pos hv, if_pos hv]
  simp only [ob_some', Option.isSome_some, sel_t']
  rw [ex]
  simp only [ob_some', bne_self_eq_false, sel_f']
  rw [LvG.f10_eq]
  simp only [ob_some', Bool.not_true]
  rw [LvG.p3_2054_eq, sel_f, LvG.p3_7_eq, Bool.not_true, sel_f]
  have h1 := hl.num
  have hi := Inv.first l hv (sm_smallL hl)
  exact play_loop hT acts hok hn _ _ (by omega) acts.length 0 _ _ _ _ _ hi (by omega) (by rw [List.drop_zero]; omega) (by omega)
 ·rw [if_neg hv, if_neg hv]
  simp only [ob_some', Option.isSome_some, Option.isSome_none, sel_t']
  rw [ex]
  simp only [ob_some', bne_self_eq_false, sel_f']
  rw [LvG.f10_eq]
  simp only [ob_some', Bool.not_true]
  rw [LvG.p3_2054_eq, sel_f, LvG.p3_7_eq, Bool.not_false, sel_t, LvG.f7_eq, new_step [[]] (C := 1) ⟨by simp, by simp, by simp [nums], by omega⟩, if_pos one_valid]
  rfl
theorem law3_ok (l : Levels) (acts : List Act) (hl : Sm l 1048576) (hok : ∀ a ∈ acts, ActOk a) (hn : acts.length ≤ 1048576) (hs : (acts.map wt).sum ≤ 3000000) : LvG.f3 100000000 l acts = some (true, ()) := law3_gen hT l acts hl hok hn hs 99999996 (Nat.le_refl _)
end Lw
end
