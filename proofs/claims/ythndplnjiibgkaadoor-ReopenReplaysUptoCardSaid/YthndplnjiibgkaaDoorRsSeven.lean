import Derived.Test.YthndplnjiibgkaaDoorRsSix
import Derived.Test.YthndplnjiibgkaaDoorRrFour
import Derived.Test.YthndplnjiibgkaaDoorLkThree
set_option linter.all false
section
/-! Texts in a batch. Plain. -/
namespace Rs
open Go Lk
def vnt (b : List UInt8) : Nat → Nat → Nat → Nat → Option (Nat × Nat)
  | 0, _, _, _ => none
  | k + 1, at_, i, v => if b.length ≤ at_ then none else if bt b at_ < 128 then (if bt b at_ = 0 ∧ 0 < i then none else some (v + bt b at_ * 128 ^ i, at_ + 1)) else vnt b k (at_ + 1) (i + 1) (v + (bt b at_ - 128) * 128 ^ i)
def txt (b : List UInt8) (at_ : Nat) : Option (List UInt8 × Nat) := match vnt b 4 at_ 0 0 with
  | none => none
  | some (val, nx) => if b.length - nx < val then none else some (part b nx val, nx + val)
theorem p128 {i : Nat} (h : i ≤ 9) : 128 ^ i ≤ 9223372036854775808 := by
  have := Nat.pow_le_pow_right (n := 128) (by omega) h
  have e : (128 : Nat) ^ 9 = 9223372036854775808 := by decide
  omega
theorem p128' {i : Nat} (h : i ≤ 3) : 128 ^ i ≤ 2097152 := by
  have := Nat.pow_le_pow_right (n := 128) (by omega) h
  have e : (128 : Nat) ^ 3 = 2097152 := by decide
  omega
theorem pow7 (i : Nat) : (128 : Nat) ^ i = 2 ^ (7 * i) := by rw [Nat.pow_mul]
theorem vnt_bd (b : List UInt8) : ∀ (k at_ i v val nx : Nat), k + i ≤ 4 → v < 128 ^ i → vnt b k at_ i v = some (val, nx) → at_ < nx ∧ nx ≤ b.length ∧ val < 128 ^ (i + (nx - at_)) ∧ val < 268435456 := by
  intro k
  induction k with
  | zero => intro at_ i v val nx _ _ h; cases h
  | succ k ih =>
    intro at_ i v val nx hk hv h
    have hb := bt_lt b at_
    have hp := p128' (i := i) (by omega)
    simp only [vnt] at h
    split at h
    · cases h
    split at h
    · rename_i h1 h2
      split at h
      · cases h
      · cases h
        have h3 : bt b at_ * 128 ^ i ≤ 127 * 128 ^ i := Nat.mul_le_mul_right _ (by omega)
        have h4 : 128 ^ (i + (at_ + 1 - at_)) = 128 * 128 ^ i := by rw [show i + (at_ + 1 - at_) = i + 1 by omega, Nat.pow_succ, Nat.mul_comm]
        exact ⟨by omega, by omega, by omega, by omega⟩
    · rename_i h1 h2
      have h3 : (bt b at_ - 128) * 128 ^ i ≤ 127 * 128 ^ i := Nat.mul_le_mul_right _ (by omega)
      have h5 : v + (bt b at_ - 128) * 128 ^ i < 128 ^ (i + 1) := by rw [Nat.pow_succ, Nat.mul_comm (128 ^ i)]; omega
      obtain ⟨g1, g2, g3, g4⟩ := ih _ _ _ _ _ (by omega) h5 h
      refine ⟨by omega, g2, ?_, g4⟩
      rw [show i + (nx - at_) = i + 1 + (nx - (at_ + 1)) by omega]
      exact g3
section
variable (Y : Rc.FnsC)
theorem p42 (b : List UInt8) (most : Nat) (hmost : most ≤ 65536) (hl : b.length ≤ 1048576) : ∀ (k j n0 at_ i v : Nat), k + i = 4 → v < 128 ^ i → k + 10 ≤ j → 10 ≤ n0 → at_ ≤ b.length + 4 →
    Y.p42_2 j n0 b (at_ : Int) (most : Int) (v : Int) ((7 * i : Nat) : Int) = (match vnt b k at_ i v with
      | none => some ([], -1, ())
      | some (val, nx) => if most < val ∨ b.length - nx < val then some ([], -1, ()) else some (part b nx val, ((nx + val : Nat) : Int), ())) := by
  intro k
  induction k with
  | zero =>
    intro j n0 at_ i v hk hv hj hn0 ha
    obtain ⟨j, rfl⟩ : ∃ k, j = k + 2 := ⟨j - 2, by omega⟩
    rw [Y.p42_2_eq, sel_dec]
    split
    · rw [Y.p42_2051_eq, sel_t]; rfl
    · rw [show decide (((7 * i : Nat) : Int) > 21) = true from decide_eq_true (by omega), Y.p42_2051_eq, sel_t]; rfl
  | succ k ih =>
    intro j n0 at_ i v hk hv hj hn0 ha
    obtain ⟨j, rfl⟩ : ∃ k, j = k + 8 := ⟨j - 8, by omega⟩
    have hb := bt_lt b at_
    have hp := p128' (i := i) (by omega)
    rw [Y.p42_2_eq, sel_dec]
    by_cases h1 : b.length ≤ at_
    · rw [if_pos (by omega), Y.p42_2051_eq, sel_t]
      simp only [vnt]
      rw [if_pos h1]
    have h3 : bt b at_ % 128 * 128 ^ i ≤ 127 * 128 ^ i := Nat.mul_le_mul_right _ (by omega)
    have hor : ibits .or .i64 (v : Int) (IntKind.i64.wrap ((IntKind.i64.wrap (↑(UInt8.toNat (b.getD at_ 0)) : Int)).tmod 128 * 2 ^ min ((7 * i : Nat) : Int).toNat IntKind.i64.bits)) = ((v + bt b at_ % 128 * 128 ^ i : Nat) : Int) := by
      show ibits .or .i64 (v : Int) (IntKind.i64.wrap ((IntKind.i64.wrap (bt b at_ : Int)).tmod ((128 : Nat) : Int) * 2 ^ min ((7 * i : Nat) : Int).toNat IntKind.i64.bits)) = _
      rw [wrap64 (x := (bt b at_ : Int)) (by omega) (by omega), tmod_nat, Int.toNat_natCast, show min (7 * i) IntKind.i64.bits = 7 * i from Nat.min_eq_left (by show 7 * i ≤ 64; omega), show ((bt b at_ % 128 : Nat) : Int) * 2 ^ (7 * i) = ((bt b at_ % 128 * 2 ^ (7 * i) : Nat) : Int) by rw [Int.natCast_mul, Int.natCast_pow]; rfl, ← pow7]
      rw [wrap64 (by omega) (by omega)]
      have : ibits .or .i64 (v : Int) ((bt b at_ % 128 * 128 ^ i : Nat) : Int) = ((v ||| bt b at_ % 128 * 128 ^ i : Nat) : Int) := by
        have h : v ||| bt b at_ % 128 * 128 ^ i < 2 ^ 62 := Nat.or_lt_two_pow (by omega) (by omega)
        show IntKind.i64.wrap (((BitVec.ofInt 64 (v : Int) ||| BitVec.ofInt 64 ((bt b at_ % 128 * 128 ^ i : Nat) : Int)).toNat : Nat) : Int) = _
        rw [BitVec.toNat_or, ofInt_nat, ofInt_nat, BitVec.toNat_ofNat, BitVec.toNat_ofNat, Nat.mod_eq_of_lt (by omega), Nat.mod_eq_of_lt (by omega), wrap64 (by omega) (by omega)]
      rw [this, pow7, or_shl (by rw [← pow7]; exact hv)]
    rw [if_neg (by omega), show decide (((7 * i : Nat) : Int) > 21) = false from decide_eq_false (by omega), Y.p42_2051_eq, sel_f, Y.p42_4_eq, sel_dec, if_pos (by omega), sel_dec, if_pos (by omega), show ((128 : Int) != 0) = true from rfl, sel_t, sel_dec, if_pos (by omega), Int.toNat_natCast at_, hor, wrap64 (x := (at_ : Int) + 1) (by omega) (by omega), wrap64 (x := ((7 * i : Nat) : Int) + 7) (by omega) (by omega), show (at_ : Int) + 1 = ((at_ + 1 : Nat) : Int) by omega, show ((7 * i : Nat) : Int) + 7 = ((7 * (i + 1) : Nat) : Int) by omega]
    rw [show IntKind.i64.wrap (↑(UInt8.toNat (b.getD at_ 0)) : Int) = (bt b at_ : Int) from wrap64 (by have : (UInt8.toNat (b.getD at_ 0)) < 256 := UInt8.toNat_lt _; omega) (by have : (UInt8.toNat (b.getD at_ 0)) < 256 := UInt8.toNat_lt _; omega), sel_dec]
    simp only [vnt]
    rw [if_neg h1]
    by_cases h2 : bt b at_ < 128
    · rw [if_pos (by omega), if_pos h2, Nat.mod_eq_of_lt h2]
      have fin : ∀ c : Bool, c = decide (bt b at_ = 0 ∧ 0 < i) → Y.p42_2057 (j + 6) n0 (j + 7) (j + 6) b ((at_ + 1 : Nat) : Int) (most : Int) ((v + bt b at_ * 128 ^ i : Nat) : Int) c = (match (if bt b at_ = 0 ∧ 0 < i then none else some (v + bt b at_ * 128 ^ i, at_ + 1) : Option (Nat × Nat)) with
          | none => some ([], -1, ())
          | some (val, nx) => if most < val ∨ b.length - nx < val then some ([], -1, ()) else some (part b nx val, ((nx + val : Nat) : Int), ())) := by
        intro c hc
        rw [Y.p42_2057_eq]
        by_cases h4 : bt b at_ = 0 ∧ 0 < i
        · rw [hc, decide_eq_true h4, sel_t, if_pos h4]
        · rw [hc, decide_eq_false h4, sel_f, if_neg h4]
          obtain ⟨n0, rfl⟩ : ∃ k, n0 = k + 5 := ⟨n0 - 5, by omega⟩
          simp only
          generalize hval : v + bt b at_ * 128 ^ i = val
          have hv2 : val < 268435456 := by
            rw [Nat.mod_eq_of_lt h2] at h3
            omega
          have bad : ∀ c, c = true → Y.p42_2060 (n0 + 4) (n0 + 5) (n0 + 4) b ((at_ + 1 : Nat) : Int) (val : Int) c = some ([], -1, ()) := fun c hc => by rw [Y.p42_2060_eq, hc, sel_t]
          rw [Y.p42_11_eq, sel_dec, wrap64 (x := (b.length : Int) - ((at_ + 1 : Nat) : Int)) (by omega) (by omega)]
          by_cases h5 : most < val
          · rw [if_pos (by omega), bad _ rfl, if_pos (.inl h5)]
          rw [if_neg (by omega)]
          by_cases h6 : b.length - (at_ + 1) < val
          · rw [bad _ (decide_eq_true (by omega)), if_pos (.inr h6)]
          rw [if_neg (by omega), show decide ((val : Int) > (b.length : Int) - ((at_ + 1 : Nat) : Int)) = false from decide_eq_false (by omega), Y.p42_2060_eq, sel_f, Y.p42_13_eq, wrap64 (by omega) (by omega), show ((at_ + 1 : Nat) : Int) + (val : Int) = ((at_ + 1 + val : Nat) : Int) by omega, sel_dec, if_pos (by omega), sel_dec, if_pos (by omega), sel_dec, if_pos (by omega), sel_dec, if_pos (by omega), ext_part, show at_ + 1 + val - (at_ + 1) = val by omega]
      by_cases h4 : bt b at_ = 0
      · rw [h4, show (((0 : Nat) : Int) == 0) = true from rfl, sel_t]
        have := fin (decide (((7 * i : Nat) : Int) > 0)) (decide_eq_decide.2 (by omega))
        rw [h4] at this
        exact this
      · rw [show ((bt b at_ : Int) == 0) = false from beq_eq_false_iff_ne.2 (by omega), sel_f]
        exact fin false (decide_eq_false (by omega)).symm
    · rw [if_neg (by omega), if_neg h2, show bt b at_ % 128 = bt b at_ - 128 by omega]
      rw [show bt b at_ % 128 = bt b at_ - 128 by omega] at h3
      exact ih (j + 7) n0 (at_ + 1) (i + 1) _ (by omega) (by rw [Nat.pow_succ, Nat.mul_comm (128 ^ i)]; omega) (by omega) hn0 (by omega)
theorem f42 (n : Nat) (b : List UInt8) (at_ most : Nat) (hmost : most ≤ 65536) (hl : b.length ≤ 1048576) (hn : 20 ≤ n) (ha : at_ ≤ b.length) : Y.f42 n b (at_ : Int) (most : Int) = (match txt b at_ with
    | none => some ([], -1, ())
    | some (s, nx) => if most < s.length then some ([], -1, ()) else some (s, (nx : Int), ())) := by
  obtain ⟨n, rfl⟩ : ∃ k, n = k + 1 := ⟨n - 1, by omega⟩
  rw [Y.f42_eq]
  have := p42 Y b most hmost hl 4 n n at_ 0 0 (by omega) (by simp) (by omega) (by omega) (by omega)
  rw [show ((0 : Nat) : Int) = 0 from rfl] at this
  rw [this]
  unfold txt
  cases h : vnt b 4 at_ 0 0 with
  | none => rfl
  | some r =>
    obtain ⟨val, nx⟩ := r
    obtain ⟨g1, g2, g3, g4⟩ := vnt_bd b 4 at_ 0 0 val nx (by omega) (by simp) h
    simp only
    by_cases h1 : b.length - nx < val
    · rw [if_pos h1, if_pos (.inr h1)]
    · rw [if_neg h1]
      simp only
      rw [part_len _ _ _ (by omega)]
      by_cases h2 : most < val
      · rw [if_pos h2, if_pos (.inl h2)]
      · rw [if_neg h2, if_neg (by omega)]
end
section
variable (X : Rb.FnsB)
theorem step47 (j n0 n1 at0 i v : Nat) (b : List UInt8) (hi : i ≤ 9) (hv : v < 128 ^ i) (hl : b.length ≤ 1048576) (ha : at0 + i < b.length) (hj : 20 ≤ j) :
    X.p47_4 (j + 1) n0 n1 (at0 : Int) (v : Int) b (part b at0 (b.length - at0)) ((part b at0 (b.length - at0)).length : Int) (i : Int) =
      (if i = 9 ∧ 1 < bt b (at0 + i) then some (0, 0, 11, ()) else if bt b (at0 + i) = 0 ∧ 0 < i then some (0, 0, 11, ()) else if bt b (at0 + i) < 128 then some (((v + bt b (at0 + i) * 128 ^ i : Nat) : Int), ((at0 + i + 1 : Nat) : Int), 0, ())
        else X.p47_4 j n0 n1 (at0 : Int) ((v + (bt b (at0 + i) - 128) * 128 ^ i : Nat) : Int) b (part b at0 (b.length - at0)) ((part b at0 (b.length - at0)).length : Int) ((i + 1 : Nat) : Int)) := by
  obtain ⟨j, rfl⟩ : ∃ k, j = k + 8 := ⟨j - 8, by omega⟩
  have hEl : (part b at0 (b.length - at0)).length = b.length - at0 := part_len _ _ _ (by omega)
  have hE := part_get b at0 (b.length - at0) i (by omega)
  generalize part b at0 (b.length - at0) = E at *
  have hbt := bt_lt b (at0 + i)
  have hp := p128 hi
  have hbv : UInt8.toNat (b.getD (at0 + i) 0) = bt b (at0 + i) := rfl
  rw [X.p47_4_eq, hEl, sel_dec, if_pos (by omega), sel_dec, if_pos (by omega), sel_dec, if_pos (by omega), Int.toNat_natCast, hE, hbv]
  generalize hcb : b.getD (at0 + i) 0 = cb at *
  generalize hc : bt b (at0 + i) = c at *
  rw [show ((UInt8.toNat 1 : Nat) : Int) = 1 from rfl]
  have err : ∀ q : Bool, q = true → X.p47_2056 (j + 8) n0 n1 (j + 8) (at0 : Int) (v : Int) (i : Int) cb b E ((b.length - at0 : Nat) : Int) (i : Int) q = some (0, 0, 11, ()) := fun q hq => by
    rw [X.p47_2056_eq, hq, sel_t]
  have p55 : ∀ q : Bool, q = decide (i = 9 ∧ 1 < c) → X.p47_2055 (j + 8) n0 n1 (j + 8) (at0 : Int) (v : Int) (i : Int) cb b E ((b.length - at0 : Nat) : Int) (i : Int) q = (if i = 9 ∧ 1 < c then some (0, 0, 11, ()) else if c = 0 ∧ 0 < i then some (0, 0, 11, ()) else if c < 128 then some (((v + c * 128 ^ i : Nat) : Int), ((at0 + i + 1 : Nat) : Int), 0, ())
        else X.p47_4 (j + 8) n0 n1 (at0 : Int) ((v + (c - 128) * 128 ^ i : Nat) : Int) b E ((b.length - at0 : Nat) : Int) ((i + 1 : Nat) : Int)) := by
    intro q hq
    rw [X.p47_2055_eq]
    by_cases h9 : i = 9 ∧ 1 < c
    · rw [hq, decide_eq_true h9, sel_t, if_pos h9]
      exact err _ rfl
    rw [hq, decide_eq_false h9, sel_f, if_neg h9, show ((UInt8.toNat 0 : Nat) : Int) = 0 from rfl, hbv]
    by_cases h0 : c = 0 ∧ 0 < i
    · rw [if_pos h0, h0.1, show (((0 : Nat) : Int) == 0) = true from rfl, sel_t]
      exact err _ (decide_eq_true (by omega))
    rw [if_neg h0]
    have hmul : ∀ d, d ≤ c → d < 128 → v + d * 128 ^ i < 18446744073709551616 ∧ d * 128 ^ i < 18446744073709551616 := fun d hd hd2 => by
      by_cases h9' : i = 9
      · subst h9'
        have : d ≤ 1 := by omega
        have h3 : d * 128 ^ 9 ≤ 1 * 128 ^ 9 := Nat.mul_le_mul_right _ this
        omega
      · have := p128 (i := i) (by omega)
        have h8 : 128 ^ i ≤ 72057594037927936 := by
          have := Nat.pow_le_pow_right (n := 128) (by omega) (show i ≤ 8 by omega)
          have e : (128 : Nat) ^ 8 = 72057594037927936 := by decide
          omega
        have h3 : d * 128 ^ i ≤ 127 * 128 ^ i := Nat.mul_le_mul_right _ (by omega)
        omega
    have hor : ∀ d, d ≤ c → d < 128 → ibits .or .u64 (v : Int) (IntKind.u64.wrap (IntKind.u64.wrap (d : Int) * 2 ^ min (IntKind.i64.wrap (7 * (i : Int))).toNat IntKind.u64.bits)) = ((v + d * 128 ^ i : Nat) : Int) := fun d hd hd2 => by
      obtain ⟨m1, m2⟩ := hmul d hd hd2
      rw [wrap_u64 (x := d) (by omega), wrap64 (by omega) (by omega), show (7 * (i : Int)).toNat = 7 * i by omega, show min (7 * i) IntKind.u64.bits = 7 * i from Nat.min_eq_left (by show 7 * i ≤ 64; omega), show (d : Int) * 2 ^ (7 * i) = ((d * 2 ^ (7 * i) : Nat) : Int) by rw [Int.natCast_mul, Int.natCast_pow]; rfl, ← pow7, wrap_u64 m2, or_u64 (by omega) m2, pow7, or_shl (by rw [← pow7]; exact hv)]
    have p56 : ∀ q : Bool, q = false → X.p47_2056 (j + 8) n0 n1 (j + 8) (at0 : Int) (v : Int) (i : Int) cb b E ((b.length - at0 : Nat) : Int) (i : Int) q = (if c < 128 then some (((v + c * 128 ^ i : Nat) : Int), ((at0 + i + 1 : Nat) : Int), 0, ())
        else X.p47_4 (j + 8) n0 n1 (at0 : Int) ((v + (c - 128) * 128 ^ i : Nat) : Int) b E ((b.length - at0 : Nat) : Int) ((i + 1 : Nat) : Int)) := by
      intro q hq
      rw [X.p47_2056_eq, hq, sel_f, hbv, show ((UInt8.toNat 128 : Nat) : Int) = 128 from rfl, sel_dec]
      by_cases h128 : c < 128
      · rw [if_pos (by omega), if_pos h128, sel_dec, if_pos (by rw [wrap64 (by omega) (by omega)]; omega), hor c (Nat.le_refl _) h128, wrap64 (x := (at0 : Int) + (i : Int)) (by omega) (by omega), wrap64 (by omega) (by omega)]
        rw [show (at0 : Int) + (i : Int) + 1 = ((at0 + i + 1 : Nat) : Int) by omega]
      · have hand : (UInt8.ofNat (ibits .and .u8 ((cb.toNat : Nat) : Int) ((UInt8.toNat 127 : Nat) : Int)).toNat).toNat = c - 128 := by
          rw [hbv, show ((UInt8.toNat 127 : Nat) : Int) = ((127 : Nat) : Int) from rfl, and_u8 (by omega) (by omega), Int.toNat_natCast, show (127 : Nat) = 2 ^ 7 - 1 from rfl, and_mask, ofNat_toNat (by omega)]
          omega
        have e11 := X.p47_11_eq (j + 7) n0 n1 (j + 8) (at0 : Int) (v : Int) (i : Int) cb b E ((b.length - at0 : Nat) : Int) (i : Int)
        rw [if_neg (by omega), if_neg h128, e11, sel_dec, if_pos (by rw [wrap64 (by omega) (by omega)]; omega), hand, hor (c - 128) (by omega) (by omega), X.p47_12_eq, wrap64 (by omega) (by omega), show (i : Int) + 1 = ((i + 1 : Nat) : Int) by omega]
    by_cases h00 : c = 0
    · rw [h00, show (((0 : Nat) : Int) == 0) = true from rfl, sel_t, ← h00]
      exact p56 _ (decide_eq_false (by omega))
    · rw [show ((c : Int) == 0) = false from beq_eq_false_iff_ne.2 (by omega), sel_f]
      exact p56 _ rfl
  by_cases hi9 : i = 9
  · rw [show ((i : Int) == 9) = true by rw [hi9]; rfl, sel_t]
    exact p55 _ (decide_eq_decide.2 (by omega))
  · rw [show ((i : Int) == 9) = false from beq_eq_false_iff_ne.2 (by omega), sel_f]
    exact p55 _ (decide_eq_false (by omega)).symm
end
end Rs
end
section
/-! Operations in a batch. Plain. -/
namespace Rs
open Go Lk
section
variable (X : Rb.FnsB)
theorem p47_good (b : List UInt8) (at0 : Nat) (hl : b.length ≤ 1048576) : ∀ (k j n0 n1 i v val nx : Nat), k + i = 4 → v < 128 ^ i → k + 25 ≤ j → at0 + i ≤ b.length → vnt b k (at0 + i) i v = some (val, nx) →
    X.p47_4 j n0 n1 (at0 : Int) (v : Int) b (part b at0 (b.length - at0)) ((part b at0 (b.length - at0)).length : Int) (i : Int) = some ((val : Int), (nx : Int), 0, ()) := by
  intro k
  induction k with
  | zero => intro j n0 n1 i v val nx _ _ _ _ h; cases h
  | succ k ih =>
    intro j n0 n1 i v val nx hk hv hj ha h
    obtain ⟨j, rfl⟩ : ∃ k, j = k + 1 := ⟨j - 1, by omega⟩
    simp only [vnt] at h
    split at h
    · cases h
    rename_i h1
    have hb := bt_lt b (at0 + i)
    rw [step47 X j n0 n1 at0 i v b (by omega) hv hl (by omega) (by omega), if_neg (by omega)]
    split at h
    · rename_i h2
      split at h
      · cases h
      · rename_i h3
        cases h
        rw [if_neg h3, if_pos h2]
    · rename_i h2
      have h3 : (bt b (at0 + i) - 128) * 128 ^ i ≤ 127 * 128 ^ i := Nat.mul_le_mul_right _ (by omega)
      rw [if_neg (by omega), if_neg h2]
      exact ih j n0 n1 (i + 1) _ val nx (by omega) (by rw [Nat.pow_succ, Nat.mul_comm (128 ^ i)]; omega) (by omega) (by omega) h
theorem p47_bad (b : List UInt8) (at0 : Nat) (hl : b.length ≤ 1048576) : ∀ (m j n0 n1 i v : Nat), m + i = 9 → v < 128 ^ i → m + 25 ≤ j → at0 + i ≤ b.length → (i < 4 → vnt b (4 - i) (at0 + i) i v = none) →
    ∃ val nx e, X.p47_4 j n0 n1 (at0 : Int) (v : Int) b (part b at0 (b.length - at0)) ((part b at0 (b.length - at0)).length : Int) (i : Int) = some (val, nx, e, ()) ∧
      (e ≠ 0 ∨ (e = 0 ∧ ∃ val' nx' : Nat, val = (val' : Int) ∧ nx = (nx' : Int) ∧ 268435456 ≤ val' ∧ val' < 18446744073709551616 ∧ nx' ≤ b.length)) := by
  intro m
  induction m with
  | zero =>
    intro j n0 n1 i v hk hv hj ha hn
    obtain ⟨j, rfl⟩ : ∃ k, j = k + 1 := ⟨j - 1, by omega⟩
    obtain rfl : i = 9 := by omega
    by_cases h1 : at0 + 9 = b.length
    · have hEl : (part b at0 (b.length - at0)).length = b.length - at0 := part_len _ _ _ (by omega)
      rw [X.p47_4_eq, hEl, sel_dec, if_neg (by omega)]
      exact ⟨_, _, _, rfl, .inl (by omega)⟩
    have hb := bt_lt b (at0 + 9)
    rw [step47 X j n0 n1 at0 9 v b (by omega) hv hl (by omega) (by omega)]
    by_cases h2 : 1 < bt b (at0 + 9)
    · rw [if_pos ⟨rfl, h2⟩]; exact ⟨_, _, _, rfl, .inl (by omega)⟩
    rw [if_neg (by omega)]
    by_cases h3 : bt b (at0 + 9) = 0
    · rw [if_pos ⟨h3, by omega⟩]; exact ⟨_, _, _, rfl, .inl (by omega)⟩
    rw [if_neg (by omega), if_pos (by omega)]
    have e9 : (128 : Nat) ^ 9 = 9223372036854775808 := by decide
    rw [show bt b (at0 + 9) = 1 by omega, e9]
    rw [e9] at hv
    exact ⟨_, _, _, rfl, .inr ⟨rfl, _, _, rfl, rfl, by omega, by omega, by omega⟩⟩
  | succ m ih =>
    intro j n0 n1 i v hk hv hj ha hn
    obtain ⟨j, rfl⟩ : ∃ k, j = k + 1 := ⟨j - 1, by omega⟩
    by_cases h1 : at0 + i = b.length
    · have hEl : (part b at0 (b.length - at0)).length = b.length - at0 := part_len _ _ _ (by omega)
      rw [X.p47_4_eq, hEl, sel_dec, if_neg (by omega)]
      exact ⟨_, _, _, rfl, .inl (by omega)⟩
    have hb := bt_lt b (at0 + i)
    have hlt := hn
    rw [step47 X j n0 n1 at0 i v b (by omega) hv hl (by omega) (by omega), if_neg (by omega)]
    by_cases h3 : bt b (at0 + i) = 0 ∧ 0 < i
    · rw [if_pos h3]; exact ⟨_, _, _, rfl, .inl (by omega)⟩
    rw [if_neg h3]
    have h5 : (bt b (at0 + i) - 128) * 128 ^ i ≤ 127 * 128 ^ i := Nat.mul_le_mul_right _ (by omega)
    by_cases h4 : bt b (at0 + i) < 128
    · rw [if_pos h4]
      by_cases hi4 : i < 4
      · have := hn hi4
        rw [show 4 - i = (3 - i) + 1 by omega] at this
        simp only [vnt] at this
        rw [if_neg (by omega), if_pos h4, if_neg h3] at this
        cases this
      · have h6 : 1 ≤ bt b (at0 + i) := by omega
        have h7 : 1 * 128 ^ i ≤ bt b (at0 + i) * 128 ^ i := Nat.mul_le_mul_right _ h6
        have h8 : bt b (at0 + i) * 128 ^ i ≤ 127 * 128 ^ i := Nat.mul_le_mul_right _ (by omega)
        have h9 : 268435456 ≤ 128 ^ i := by
          have := Nat.pow_le_pow_right (n := 128) (by omega) (show 4 ≤ i by omega)
          have e : (128 : Nat) ^ 4 = 268435456 := by decide
          omega
        have h10 : 128 ^ i ≤ 72057594037927936 := by
          have := Nat.pow_le_pow_right (n := 128) (by omega) (show i ≤ 8 by omega)
          have e : (128 : Nat) ^ 8 = 72057594037927936 := by decide
          omega
        exact ⟨_, _, _, rfl, .inr ⟨rfl, _, _, rfl, rfl, by omega, by omega, by omega⟩⟩
    · rw [if_neg h4]
      refine ih j n0 n1 (i + 1) _ (by omega) (by rw [Nat.pow_succ, Nat.mul_comm (128 ^ i)]; omega) (by omega) (by omega) (fun hi4 => ?_)
      have := hn (by omega)
      rw [show 4 - i = (4 - (i + 1)) + 1 by omega] at this
      simp only [vnt] at this
      rw [if_neg (by omega), if_neg h4] at this
      exact this
theorem f39 (n : Nat) (b : List UInt8) (at_ : Nat) (hl : b.length ≤ 1048576) (hn : 60 ≤ n) (ha : at_ ≤ b.length) :
    (∀ s nx, txt b at_ = some (s, nx) → X.f39 n b (at_ : Int) = some (s, (nx : Int), 0, ())) ∧ (txt b at_ = none → ∃ s nx e, X.f39 n b (at_ : Int) = some (s, nx, e, ()) ∧ e ≠ 0) := by
  obtain ⟨n, rfl⟩ : ∃ k, n = k + 4 := ⟨n - 4, by omega⟩
  have h47 : X.f47 (n + 3) b (at_ : Int) = X.p47_4 (n + 1) (n + 2) (n + 1) (at_ : Int) ((0 : Nat) : Int) b (part b at_ (b.length - at_)) ((part b at_ (b.length - at_)).length : Int) ((0 : Nat) : Int) := by
    rw [X.f47_eq, sel_dec, if_neg (by omega), show decide ((at_ : Int) > (b.length : Int)) = false from decide_eq_false (by omega), X.p47_2050_eq, sel_f, X.p47_3_eq, sel_dec, if_pos (by omega), sel_dec, if_pos (by omega), ext_part]
    rfl
  rw [X.f39_eq, h47]
  cases hv : vnt b 4 at_ 0 0 with
  | some r =>
    obtain ⟨val, nx⟩ := r
    obtain ⟨g1, g2, g3, g4⟩ := vnt_bd b 4 at_ 0 0 val nx (by omega) (by simp) hv
    rw [p47_good X b at_ hl 4 (n + 1) (n + 2) (n + 1) 0 0 val nx (by omega) (by simp) (by omega) (by omega) hv, ob_some]
    show _ ∧ _
    have ht : txt b at_ = if b.length - nx < val then none else some (part b nx val, nx + val) := by unfold txt; rw [hv]
    rw [ht]
    show (∀ s nx', _ → sel ((0 : Int) != 0) _ (sel (decide ((val : Int) > IntKind.u64.wrap (IntKind.i64.wrap ((b.length : Int) - (nx : Int))))) _ _) = _) ∧ (_ → ∃ s nx' e, sel ((0 : Int) != 0) _ (sel (decide ((val : Int) > IntKind.u64.wrap (IntKind.i64.wrap ((b.length : Int) - (nx : Int))))) _ _) = _ ∧ _)
    have hw : IntKind.u64.wrap (IntKind.i64.wrap ((b.length : Int) - (nx : Int))) = ((b.length - nx : Nat) : Int) := by
      rw [wrap64 (by omega) (by omega), show (b.length : Int) - (nx : Int) = ((b.length - nx : Nat) : Int) by omega, wrap_u64 (by omega)]
    rw [show ((0 : Int) != 0) = false from rfl, sel_f, hw, sel_dec]
    by_cases h1 : b.length - nx < val
    · rw [if_pos h1, if_pos (by omega)]
      exact ⟨fun s nx' h => (by cases h), fun _ => ⟨_, _, _, rfl, by omega⟩⟩
    · rw [if_neg h1, if_neg (by omega)]
      refine ⟨fun s nx' h => ?_, fun h => (by cases h)⟩
      cases h
      show sel (decide ((0 : Int) ≤ IntKind.i64.wrap ((nx : Int) + IntKind.i64.wrap (val : Int)))) (sel (decide (IntKind.i64.wrap ((nx : Int) + IntKind.i64.wrap (val : Int)) ≤ (b.length : Int))) (sel (decide ((0 : Int) ≤ (nx : Int))) (sel (decide ((nx : Int) ≤ IntKind.i64.wrap ((nx : Int) + IntKind.i64.wrap (val : Int)))) (some (ext b (nx : Int) (IntKind.i64.wrap ((nx : Int) + IntKind.i64.wrap (val : Int))), IntKind.i64.wrap ((nx : Int) + IntKind.i64.wrap (val : Int)), (0 : Int), ())) none) none) none) none = _
      rw [wrap64 (x := (val : Int)) (by omega) (by omega), wrap64 (x := (nx : Int) + (val : Int)) (by omega) (by omega), show (nx : Int) + (val : Int) = ((nx + val : Nat) : Int) by omega, sel_dec, if_pos (by omega), sel_dec, if_pos (by omega), sel_dec, if_pos (by omega), sel_dec, if_pos (by omega), ext_part, show nx + val - nx = val by omega]
  | none =>
    obtain ⟨val, nx, e, he, hor⟩ := p47_bad X b at_ hl 9 (n + 1) (n + 2) (n + 1) 0 0 (by omega) (by simp) (by omega) (by omega) (fun _ => hv)
    have ht : txt b at_ = none := by unfold txt; rw [hv]
    rw [ht, he, ob_some]
    refine ⟨fun s nx' h => (by cases h), fun _ => ?_⟩
    rcases hor with h | ⟨rfl, val', nx', rfl, rfl, h1, h2, h3⟩
    · refine ⟨[], 0, e, ?_, h⟩
      show sel (e != 0) _ _ = _
      rw [bne_iff_ne.2 h, sel_t]
    · refine ⟨[], 0, 10, ?_, by omega⟩
      show sel ((0 : Int) != 0) _ (sel (decide ((val' : Int) > IntKind.u64.wrap (IntKind.i64.wrap ((b.length : Int) - (nx' : Int))))) _ _) = _
      rw [show ((0 : Int) != 0) = false from rfl, sel_f, wrap64 (by omega) (by omega), show (b.length : Int) - (nx' : Int) = ((b.length - nx' : Nat) : Int) by omega, wrap_u64 (by omega), sel_dec, if_pos (by omega)]
end
end Rs
end
section
/-! An operation that may be. Plain. -/
namespace Rs
open Go Lk
abbrev OpV := Int × (List UInt8 × (List UInt8 × Unit))
def mayS (o : OpV) : Bool := decide (1 ≤ o.2.1.length) && (decide (o.2.1.length ≤ 1024) && (if o.1 = 0 then o.2.2.1 == [] else if o.1 = 1 then decide (o.2.2.1.length ≤ 65536) else if o.1 = 2 then decide (o.2.2.1.length ≤ 1024) && Op.bytesLess o.2.1 o.2.2.1 else false))
def opK (b : List UInt8) (k : Nat) (key : List UInt8) (nx : Nat) : Option (OpV × Nat) :=
  if k = 0 then (if mayS (0, key, [], ()) then some ((0, key, [], ()), nx) else none) else match txt b nx with
    | none => none
    | some (val, nx2) => if mayS ((k : Int), key, val, ()) then some (((k : Int), key, val, ()), nx2) else none
def opS (b : List UInt8) (at_ : Nat) : Option (OpV × Nat) :=
  if b.length ≤ at_ then none else match txt b (at_ + 1) with
    | none => none
    | some (key, nx) => opK b (bt b at_) key nx
theorem txt_bd {b : List UInt8} {at_ : Nat} {s : List UInt8} {nx : Nat} (h : txt b at_ = some (s, nx)) : at_ < nx ∧ nx ≤ b.length ∧ s.length < 268435456 ∧ ∃ k, 1 ≤ k ∧ s.length < 128 ^ k ∧ nx = at_ + k + s.length := by
  unfold txt at h
  cases hv : vnt b 4 at_ 0 0 with
  | none => rw [hv] at h; cases h
  | some r =>
    obtain ⟨val, n1⟩ := r
    obtain ⟨g1, g2, g3, g4⟩ := vnt_bd b 4 at_ 0 0 val n1 (by omega) (by simp) hv
    rw [hv] at h
    simp only at h
    split at h
    · cases h
    · cases h
      rw [part_len _ _ _ (by omega)]
      rw [Nat.zero_add] at g3
      exact ⟨by omega, by omega, g4, n1 - at_, by omega, g3, by omega⟩
theorem less_nil (k : List UInt8) (h : 1 ≤ k.length) : Op.bytesLess k [] = false := by
  cases k with
  | nil => simp at h
  | cons a l => rfl
section
variable (X : Rb.FnsB)
theorem c33 (n : Nat) (k : Int) (key val : List UInt8) : X.f33 (n + 1) (k, key, val, ()) = sel (decide ((key.length : Int) < 1)) (X.p33_2050 n n (some (k, key, val, ())) true) (X.p33_2050 n n (some (k, key, val, ())) (decide ((key.length : Int) > 1024))) := X.f33_eq n (k, key, val, ())
theorem c33_3 (n n0 : Nat) (k : Int) (key val : List UInt8) : X.p33_3 (n + 1) n0 (some (k, key, val, ())) = sel (k == 0) (some (val == [], ())) (sel (k == 1) (some (decide ((val.length : Int) ≤ 65536), ())) (sel (k == 2) (sel (decide ((val.length : Int) ≤ 1024)) (some (Op.bytesLess key val, ())) (some (false, ()))) (some (false, ())))) := X.p33_3_eq n n0 (some (k, key, val, ()))
theorem f33 (n : Nat) (hn : 4 ≤ n) (o : OpV) : X.f33 n o = some (mayS o, ()) := by
  obtain ⟨n, rfl⟩ : ∃ k, n = k + 3 := ⟨n - 3, by omega⟩
  obtain ⟨k, key, val, ⟨⟩⟩ := o
  unfold mayS
  simp only
  rw [c33, sel_dec]
  by_cases h1 : 1 ≤ key.length
  · rw [if_neg (by omega), decide_eq_true h1, Bool.true_and]
    by_cases h2 : key.length ≤ 1024
    · rw [show decide ((key.length : Int) > 1024) = false from decide_eq_false (by omega), X.p33_2050_eq, sel_f, c33_3, decide_eq_true h2, Bool.true_and]
      by_cases k0 : k = 0
      · rw [if_pos k0, beq_iff_eq.2 k0, sel_t]
      rw [if_neg k0, beq_eq_false_iff_ne.2 k0, sel_f]
      by_cases k1 : k = 1
      · rw [if_pos k1, beq_iff_eq.2 k1, sel_t]
        congr 2
        exact decide_eq_decide.2 (by omega)
      rw [if_neg k1, beq_eq_false_iff_ne.2 k1, sel_f]
      by_cases k2 : k = 2
      · rw [if_pos k2, beq_iff_eq.2 k2, sel_t, sel_dec]
        by_cases h3 : val.length ≤ 1024
        · rw [if_pos (by omega), decide_eq_true h3, Bool.true_and]
        · rw [if_neg (by omega), decide_eq_false h3, Bool.false_and]
      · rw [if_neg k2, beq_eq_false_iff_ne.2 k2, sel_f]
    · rw [show decide ((key.length : Int) > 1024) = true from decide_eq_true (by omega), X.p33_2050_eq, sel_t, decide_eq_false h2, Bool.false_and]
  · rw [if_pos (by omega), X.p33_2050_eq, sel_t, decide_eq_false h1, Bool.false_and]
theorem c30_10 (n n0 : Nat) (z o : OpV) (nx e : Int) : X.p30_10 (n + 1) n0 (some z) (some o) nx e = sel (e == 0) (obind (X.f33 n o) fun r => some (o, nx, r.1, ())) (some (o, nx, false, ())) := X.p30_10_eq n n0 (some z) (some o) nx e
theorem c30 (n : Nat) (b : List UInt8) (at_ : Int) : X.f30 (n + 1) b at_ =
    sel (decide (at_ ≥ (b.length : Int))) (some ((0, [], [], ()), 0, false, ())) (sel (decide (0 ≤ at_)) (sel (decide (at_ < (b.length : Int))) (obind (X.f39 n b (IntKind.i64.wrap (at_ + 1))) fun r => sel (r.2.2.1 != 0) (some ((0, [], [], ()), 0, false, ()))
      (sel (IntKind.i64.wrap (↑(UInt8.toNat (b.getD at_.toNat 0)) : Int) != 0) (obind (X.f39 n b r.2.1) fun r2 => X.p30_10 n n (some (0, [], [], ())) (some (IntKind.i64.wrap (↑(UInt8.toNat (b.getD at_.toNat 0)) : Int), r.1, r2.1, ())) r2.2.1 r2.2.2.1)
        (X.p30_10 n n (some (0, [], [], ())) (some (IntKind.i64.wrap (↑(UInt8.toNat (b.getD at_.toNat 0)) : Int), r.1, [], ())) r.2.1 r.2.2.1))) none) none) := X.f30_eq n b at_
theorem f30 (n : Nat) (b : List UInt8) (at_ : Nat) (hl : b.length ≤ 1048576) (hn : 70 ≤ n) :
    (∀ o nx, opS b at_ = some (o, nx) → X.f30 n b (at_ : Int) = some (o, (nx : Int), true, ())) ∧ (opS b at_ = none → ∃ o nx, X.f30 n b (at_ : Int) = some (o, nx, false, ())) := by
  obtain ⟨n, rfl⟩ : ∃ k, n = k + 2 := ⟨n - 2, by omega⟩
  rw [c30, sel_dec]
  unfold opS
  by_cases h1 : b.length ≤ at_
  · rw [if_pos h1, if_pos (show (at_ : Int) ≥ (b.length : Int) by omega)]
    exact ⟨fun o nx h => (by cases h), fun _ => ⟨_, _, rfl⟩⟩
  have hbt := bt_lt b at_
  have hk : IntKind.i64.wrap (↑(UInt8.toNat (b.getD at_ 0)) : Int) = (bt b at_ : Int) := wrap64 (x := (bt b at_ : Int)) (by omega) (by omega)
  rw [if_neg h1, if_neg (show ¬ (at_ : Int) ≥ (b.length : Int) by omega), sel_dec, if_pos (show (0 : Int) ≤ (at_ : Int) by omega), sel_dec, if_pos (show (at_ : Int) < (b.length : Int) by omega), wrap64 (x := (at_ : Int) + 1) (by omega) (by omega), show (at_ : Int) + 1 = ((at_ + 1 : Nat) : Int) by omega, Int.toNat_natCast, hk]
  obtain ⟨t1, t2⟩ := f39 X (n + 1) b (at_ + 1) hl (by omega) (by omega)
  cases ht : txt b (at_ + 1) with
  | none =>
    obtain ⟨s, nx, e, he, hne⟩ := t2 ht
    rw [he, ob_some]
    refine ⟨fun o nx h => (by cases h), fun _ => ⟨(0, [], [], ()), 0, ?_⟩⟩
    show sel (e != 0) _ _ = _
    rw [bne_iff_ne.2 hne, sel_t]
  | some r =>
    obtain ⟨key, nx⟩ := r
    obtain ⟨g1, g2, g3, _⟩ := txt_bd ht
    rw [t1 key nx ht, ob_some]
    show (∀ o nx', _ → sel ((0 : Int) != 0) _ (sel ((bt b at_ : Int) != 0) (obind (X.f39 (n + 1) b (nx : Int)) fun r2 => X.p30_10 (n + 1) (n + 1) (some (0, [], [], ())) (some ((bt b at_ : Int), key, r2.1, ())) r2.2.1 r2.2.2.1) (X.p30_10 (n + 1) (n + 1) (some (0, [], [], ())) (some ((bt b at_ : Int), key, [], ())) (nx : Int) 0)) = _) ∧
      (_ → ∃ o nx', sel ((0 : Int) != 0) _ (sel ((bt b at_ : Int) != 0) (obind (X.f39 (n + 1) b (nx : Int)) fun r2 => X.p30_10 (n + 1) (n + 1) (some (0, [], [], ())) (some ((bt b at_ : Int), key, r2.1, ())) r2.2.1 r2.2.2.1) (X.p30_10 (n + 1) (n + 1) (some (0, [], [], ())) (some ((bt b at_ : Int), key, [], ())) (nx : Int) 0)) = _)
    rw [show ((0 : Int) != 0) = false from rfl, sel_f]
    simp only
    unfold opK
    by_cases h0 : bt b at_ = 0
    · rw [if_pos h0, h0, show (((0 : Nat) : Int) != 0) = false from rfl, sel_f, c30_10, show ((0 : Int) == 0) = true from rfl, sel_t, f33 X n (by omega), ob_some]
      cases hm : mayS (0, key, [], ()) with
      | true =>
        refine ⟨fun o nx' h => ?_, fun h => (by cases h)⟩
        cases h
        rfl
      | false => exact ⟨fun o nx' h => (by cases h), fun _ => ⟨_, _, rfl⟩⟩
    · rw [if_neg h0, bne_iff_ne.2 (show (bt b at_ : Int) ≠ 0 by omega), sel_t]
      obtain ⟨u1, u2⟩ := f39 X (n + 1) b nx hl (by omega) (by omega)
      cases ht2 : txt b nx with
      | none =>
        obtain ⟨s, nx2, e, he, hne⟩ := u2 ht2
        rw [he, ob_some]
        refine ⟨fun o nx h => (by cases h), fun _ => ⟨((bt b at_ : Int), key, s, ()), nx2, ?_⟩⟩
        show X.p30_10 (n + 1) _ _ _ _ e = _
        rw [c30_10, beq_eq_false_iff_ne.2 hne, sel_f]
      | some r2 =>
        obtain ⟨val, nx2⟩ := r2
        rw [u1 val nx2 ht2, ob_some]
        show (∀ o nx', _ → X.p30_10 (n + 1) (n + 1) (some (0, [], [], ())) (some ((bt b at_ : Int), key, val, ())) (nx2 : Int) 0 = _) ∧ (_ → ∃ o nx', X.p30_10 (n + 1) (n + 1) (some (0, [], [], ())) (some ((bt b at_ : Int), key, val, ())) (nx2 : Int) 0 = _)
        rw [c30_10, show ((0 : Int) == 0) = true from rfl, sel_t, f33 X n (by omega), ob_some]
        simp only
        cases hm : mayS ((bt b at_ : Int), key, val, ()) with
        | true =>
          refine ⟨fun o nx' h => ?_, fun h => (by cases h)⟩
          cases h
          rfl
        | false =>
          exact ⟨fun o nx' h => (by cases h), fun _ => ⟨_, _, rfl⟩⟩
end
end Rs
end
section
/-! An operation that may be: the document's. Plain. -/
namespace Rs
open Go Lk
section
variable (Y : Rc.FnsC)
theorem c43 (n : Nat) (k : Int) (key val : List UInt8) : Y.f43 (n + 1) (k, key, val, ()) = sel (decide ((key.length : Int) < 1)) (Y.p43_2050 n n (some (k, key, val, ())) true) (Y.p43_2050 n n (some (k, key, val, ())) (decide ((key.length : Int) > 1024))) := Y.f43_eq n (k, key, val, ())
theorem c43_3 (n n0 : Nat) (k : Int) (key val : List UInt8) : Y.p43_3 (n + 1) n0 (some (k, key, val, ())) = sel (k == 0) (some (val == [], ())) (sel (k == 1) (some (decide ((val.length : Int) ≤ 65536), ())) (sel (k == 2) (sel (decide ((val.length : Int) ≥ 1)) (sel (decide ((val.length : Int) ≤ 1024)) (some (Op.bytesLess key val, ())) (some (false, ()))) (some (false, ()))) (some (false, ())))) := Y.p43_3_eq n n0 (some (k, key, val, ()))
theorem f43 (n : Nat) (hn : 4 ≤ n) (o : OpV) : Y.f43 n o = some (mayS o, ()) := by
  obtain ⟨n, rfl⟩ : ∃ k, n = k + 3 := ⟨n - 3, by omega⟩
  obtain ⟨k, key, val, ⟨⟩⟩ := o
  unfold mayS
  simp only
  rw [c43, sel_dec]
  by_cases h1 : 1 ≤ key.length
  · rw [if_neg (by omega), decide_eq_true h1, Bool.true_and]
    by_cases h2 : key.length ≤ 1024
    · rw [show decide ((key.length : Int) > 1024) = false from decide_eq_false (by omega), Y.p43_2050_eq, sel_f, c43_3, decide_eq_true h2, Bool.true_and]
      by_cases k0 : k = 0
      · rw [if_pos k0, beq_iff_eq.2 k0, sel_t]
      rw [if_neg k0, beq_eq_false_iff_ne.2 k0, sel_f]
      by_cases k1 : k = 1
      · rw [if_pos k1, beq_iff_eq.2 k1, sel_t]
        congr 2
        exact decide_eq_decide.2 (by omega)
      rw [if_neg k1, beq_eq_false_iff_ne.2 k1, sel_f]
      by_cases k2 : k = 2
      · rw [if_pos k2, beq_iff_eq.2 k2, sel_t, sel_dec]
        by_cases h4 : 1 ≤ val.length
        · rw [if_pos (by omega), sel_dec]
          by_cases h3 : val.length ≤ 1024
          · rw [if_pos (by omega), decide_eq_true h3, Bool.true_and]
          · rw [if_neg (by omega), decide_eq_false h3, Bool.false_and]
        · rw [if_neg (by omega)]
          have : val = [] := List.length_eq_zero_iff.1 (by omega)
          rw [this, less_nil key h1, Bool.and_false]
      · rw [if_neg k2, beq_eq_false_iff_ne.2 k2, sel_f]
    · rw [show decide ((key.length : Int) > 1024) = true from decide_eq_true (by omega), Y.p43_2050_eq, sel_t, decide_eq_false h2, Bool.false_and]
  · rw [if_pos (by omega), Y.p43_2050_eq, sel_t, decide_eq_false h1, Bool.false_and]
theorem c36 (n : Nat) (b : List UInt8) (at_ : Int) : Y.f36 (n + 1) b at_ =
    sel (decide (at_ ≥ (b.length : Int))) (some ((0, [], [], ()), -1, ())) (sel (decide (0 ≤ at_)) (sel (decide (at_ < (b.length : Int))) (obind (Y.f42 n b (IntKind.i64.wrap (at_ + 1)) 1024) fun r =>
      sel (decide (r.2.1 ≥ 0)) (Y.p36_2054 n n b r.2.1 (some (0, [], [], ())) (some (IntKind.i64.wrap (↑(UInt8.toNat (b.getD at_.toNat 0)) : Int), r.1, [], ())) (IntKind.i64.wrap (↑(UInt8.toNat (b.getD at_.toNat 0)) : Int) != 0))
        (Y.p36_2054 n n b r.2.1 (some (0, [], [], ())) (some (IntKind.i64.wrap (↑(UInt8.toNat (b.getD at_.toNat 0)) : Int), r.1, [], ())) false)) none) none) := Y.f36_eq n b at_
theorem c36_2054 (n n0 : Nat) (b : List UInt8) (nx : Int) (z : OpV) (k : Int) (key val : List UInt8) (c : Bool) : Y.p36_2054 (n + 1) n0 b nx (some z) (some (k, key, val, ())) c =
    sel c (obind (Y.f42 n b nx 65536) fun r => Y.p36_7 n0 n0 r.2.1 (some z) (some (k, key, r.1, ()))) (Y.p36_7 n0 n0 nx (some z) (some (k, key, val, ()))) := Y.p36_2054_eq n n0 b nx (some z) (some (k, key, val, ())) c
theorem c36_7 (n n0 : Nat) (nx : Int) (z o : OpV) : Y.p36_7 (n + 1) n0 nx (some z) (some o) = sel (decide (nx < 0)) (Y.p36_2056 n n0 n nx (some z) (some o) true) (obind (Y.f43 n o) fun r => Y.p36_2056 n n0 n nx (some z) (some o) (!r.1)) := Y.p36_7_eq n n0 nx (some z) (some o)
theorem c36_2056 (n n0 n1 : Nat) (nx : Int) (z o : OpV) (c : Bool) : Y.p36_2056 (n + 1) n0 n1 nx (some z) (some o) c = sel c (some ((0, [], [], ()), -1, ())) (Y.p36_9 n1 n0 n1 nx (some z) (some o)) := Y.p36_2056_eq n n0 n1 nx (some z) (some o) c
theorem c36_9 (n n0 n1 : Nat) (nx : Int) (z o : OpV) : Y.p36_9 (n + 1) n0 n1 nx (some z) (some o) = some (o, nx, ()) := Y.p36_9_eq n n0 n1 nx (some z) (some o)
theorem p36_7 (n n0 : Nat) (nx : Int) (z o : OpV) (hn : 10 ≤ n) : Y.p36_7 n n0 nx (some z) (some o) = if nx < 0 ∨ mayS o = false then some ((0, [], [], ()), -1, ()) else some (o, nx, ()) := by
  obtain ⟨n, rfl⟩ : ∃ k, n = k + 3 := ⟨n - 3, by omega⟩
  rw [c36_7, sel_dec]
  by_cases h : nx < 0
  · rw [if_pos h, if_pos (.inl h), c36_2056, sel_t]
  · rw [if_neg h, f43 Y _ (by omega), ob_some, c36_2056]
    cases hm : mayS o with
    | true => rw [if_neg (by simp [h])]; show sel (!true) _ _ = _; rw [Bool.not_true, sel_f, c36_9]
    | false => rw [if_pos (.inr rfl)]; rfl
theorem f36 (n : Nat) (b : List UInt8) (at_ : Nat) (hl : b.length ≤ 1048576) (hn : 70 ≤ n) :
    (∀ o nx, opS b at_ = some (o, nx) → Y.f36 n b (at_ : Int) = some (o, (nx : Int), ())) ∧ (opS b at_ = none → ∃ o, Y.f36 n b (at_ : Int) = some (o, -1, ())) := by
  obtain ⟨n, rfl⟩ : ∃ k, n = k + 2 := ⟨n - 2, by omega⟩
  rw [c36, sel_dec]
  unfold opS
  by_cases h1 : b.length ≤ at_
  · rw [if_pos h1, if_pos (show (at_ : Int) ≥ (b.length : Int) by omega)]
    exact ⟨fun o nx h => (by cases h), fun _ => ⟨_, rfl⟩⟩
  have hbt := bt_lt b at_
  have hk : IntKind.i64.wrap (↑(UInt8.toNat (b.getD at_ 0)) : Int) = (bt b at_ : Int) := wrap64 (x := (bt b at_ : Int)) (by omega) (by omega)
  rw [if_neg h1, if_neg (show ¬ (at_ : Int) ≥ (b.length : Int) by omega), sel_dec, if_pos (show (0 : Int) ≤ (at_ : Int) by omega), sel_dec, if_pos (show (at_ : Int) < (b.length : Int) by omega), wrap64 (x := (at_ : Int) + 1) (by omega) (by omega), show (at_ : Int) + 1 = ((at_ + 1 : Nat) : Int) by omega, Int.toNat_natCast, hk, show (1024 : Int) = ((1024 : Nat) : Int) from rfl, f42 Y (n + 1) b (at_ + 1) 1024 (by omega) hl (by omega) (by omega)]
  have bad : ∀ o : OpV, sel (decide ((-1 : Int) ≥ 0)) (Y.p36_2054 (n + 1) (n + 1) b (-1) (some (0, [], [], ())) (some o) ((bt b at_ : Int) != 0)) (Y.p36_2054 (n + 1) (n + 1) b (-1) (some (0, [], [], ())) (some o) false) = some ((0, [], [], ()), -1, ()) := fun o => by
    obtain ⟨k, key, val, ⟨⟩⟩ := o
    rw [sel_dec, if_neg (by omega), c36_2054, sel_f, p36_7 Y _ _ _ _ _ (by omega), if_pos (.inl (by omega))]
  cases ht : txt b (at_ + 1) with
  | none =>
    refine ⟨fun o nx h => (by cases h), fun _ => ⟨(0, [], [], ()), ?_⟩⟩
    simp only
    rw [ob_some]
    exact bad ((bt b at_ : Int), [], [], ())
  | some r =>
    obtain ⟨key, nx⟩ := r
    obtain ⟨g1, g2, g3, _⟩ := txt_bd ht
    simp only
    by_cases hkl : 1024 < key.length
    · rw [if_pos hkl, ob_some]
      have hm : ∀ k val, mayS (k, key, val, ()) = false := fun k val => by
        unfold mayS
        simp only
        rw [decide_eq_false (show ¬ key.length ≤ 1024 by omega), Bool.false_and, Bool.and_false]
      have hno : opK b (bt b at_) key nx = none := by
        unfold opK
        split
        · rw [if_neg (by rw [hm]; simp)]
        · split
          · rfl
          · rw [if_neg (by rw [hm]; simp)]
      rw [hno]
      refine ⟨fun o nx h => (by cases h), fun _ => ⟨(0, [], [], ()), ?_⟩⟩
      exact bad ((bt b at_ : Int), [], [], ())
    rw [if_neg hkl, ob_some]
    show (∀ o nx', _ → sel (decide ((nx : Int) ≥ 0)) (Y.p36_2054 (n + 1) (n + 1) b (nx : Int) (some (0, [], [], ())) (some ((bt b at_ : Int), key, [], ())) ((bt b at_ : Int) != 0)) (Y.p36_2054 (n + 1) (n + 1) b (nx : Int) (some (0, [], [], ())) (some ((bt b at_ : Int), key, [], ())) false) = _) ∧
      (_ → ∃ o, sel (decide ((nx : Int) ≥ 0)) (Y.p36_2054 (n + 1) (n + 1) b (nx : Int) (some (0, [], [], ())) (some ((bt b at_ : Int), key, [], ())) ((bt b at_ : Int) != 0)) (Y.p36_2054 (n + 1) (n + 1) b (nx : Int) (some (0, [], [], ())) (some ((bt b at_ : Int), key, [], ())) false) = _)
    rw [sel_dec, if_pos (show (nx : Int) ≥ 0 by omega), c36_2054]
    unfold opK
    by_cases h0 : bt b at_ = 0
    · rw [if_pos h0, h0, show (((0 : Nat) : Int) != 0) = false from rfl, sel_f, p36_7 Y _ _ _ _ _ (by omega)]
      cases hm : mayS (0, key, [], ()) with
      | true =>
        refine ⟨fun o nx' h => ?_, fun h => (by cases h)⟩
        cases h
        rw [if_neg]
        · rfl
        · rintro (h | h)
          · omega
          · cases h
      | false =>
        refine ⟨fun o nx' h => (by cases h), fun _ => ⟨_, if_pos (.inr rfl)⟩⟩
    · rw [if_neg h0, bne_iff_ne.2 (show (bt b at_ : Int) ≠ 0 by omega), sel_t, show (65536 : Int) = ((65536 : Nat) : Int) from rfl, f42 Y n b nx 65536 (by omega) hl (by omega) (by omega)]
      cases ht2 : txt b nx with
      | none =>
        refine ⟨fun o nx h => (by cases h), fun _ => ⟨(0, [], [], ()), ?_⟩⟩
        simp only
        rw [ob_some, p36_7 Y _ _ _ _ _ (by omega), if_pos (.inl (by show (-1 : Int) < 0; omega))]
      | some r2 =>
        obtain ⟨val, nx2⟩ := r2
        simp only
        by_cases hvl : 65536 < val.length
        · rw [if_pos hvl, ob_some]
          have hm : mayS ((bt b at_ : Int), key, val, ()) = false := by
            unfold mayS
            simp only
            rw [if_neg (by omega), decide_eq_false (show ¬ val.length ≤ 65536 by omega), decide_eq_false (show ¬ val.length ≤ 1024 by omega), Bool.false_and]
            have : (if (bt b at_ : Int) = 1 then false else if (bt b at_ : Int) = 2 then false else false) = false := by
              by_cases q1 : (bt b at_ : Int) = 1
              · rw [if_pos q1]
              · rw [if_neg q1]; by_cases q2 : (bt b at_ : Int) = 2
                · rw [if_pos q2]
                · rw [if_neg q2]
            rw [this, Bool.and_false, Bool.and_false]
          rw [if_neg (by rw [hm]; simp)]
          refine ⟨fun o nx h => (by cases h), fun _ => ⟨(0, [], [], ()), ?_⟩⟩
          rw [p36_7 Y _ _ _ _ _ (by omega), if_pos (.inl (by show (-1 : Int) < 0; omega))]
        rw [if_neg hvl, ob_some, p36_7 Y _ _ _ _ _ (by omega)]
        cases hm : mayS ((bt b at_ : Int), key, val, ()) with
        | true =>
          refine ⟨fun o nx' h => ?_, fun h => (by cases h)⟩
          cases h
          rw [if_neg]
          rintro (h | h)
          · have h : (nx2 : Int) < 0 := h
            omega
          · cases h
        | false =>
          refine ⟨fun o nx' h => (by cases h), fun _ => ⟨_, if_pos (.inr rfl)⟩⟩
end
end Rs
end
section
/-! A batch, walked. Plain. -/
namespace Rs
open Go Lk
def walk (b : List UInt8) : Nat → Nat → Nat → List (OpV × Nat)
  | 0, _, _ => []
  | m + 1, at_, cnt => if cnt = 0 then [] else match opS b at_ with
    | none => []
    | some (o, nx) => (o, nx) :: walk b m nx (cnt - 1)
def endOf (at_ : Nat) : List (OpV × Nat) → Nat
  | [] => at_
  | (_, nx) :: l => endOf nx l
def tsz (s : List UInt8) (d : Nat) : Prop := ∃ k, 1 ≤ k ∧ s.length < 128 ^ k ∧ k + s.length ≤ d ∧ k ≤ 1048577
def Chain (b : List UInt8) : Nat → List (OpV × Nat) → Prop
  | _, [] => True
  | at_, (o, nx) :: l => at_ < nx ∧ nx ≤ b.length ∧ mayS o = true ∧ (∃ d1 d2, tsz o.2.1 d1 ∧ (o.1 = 0 ∨ tsz o.2.2.1 d2) ∧ at_ + 1 + d1 + (if o.1 = 0 then 0 else d2) ≤ nx) ∧ Chain b nx l
theorem opS_bd {b : List UInt8} (hl : b.length ≤ 1048576) {at_ : Nat} {o : OpV} {nx : Nat} (h : opS b at_ = some (o, nx)) : at_ < nx ∧ nx ≤ b.length ∧ mayS o = true ∧ (∃ d1 d2, tsz o.2.1 d1 ∧ (o.1 = 0 ∨ tsz o.2.2.1 d2) ∧ at_ + 1 + d1 + (if o.1 = 0 then 0 else d2) ≤ nx) := by
  unfold opS at h
  split at h
  · cases h
  cases ht : txt b (at_ + 1) with
  | none => rw [ht] at h; cases h
  | some r =>
    obtain ⟨key, n1⟩ := r
    obtain ⟨g1, g2, g3, k1, g4, g5, g6⟩ := txt_bd ht
    rw [ht] at h
    simp only at h
    unfold opK at h
    by_cases h0 : bt b at_ = 0
    · rw [if_pos h0] at h
      split at h
      · rename_i hm
        cases h
        refine ⟨by omega, g2, hm, k1 + key.length, 0, ⟨k1, g4, g5, Nat.le_refl _, by omega⟩, .inl rfl, ?_⟩
        rw [if_pos rfl]; omega
      · cases h
    · rw [if_neg h0] at h
      cases ht2 : txt b n1 with
      | none => rw [ht2] at h; cases h
      | some r2 =>
        obtain ⟨val, n2⟩ := r2
        obtain ⟨f1, f2, f3, k2, f4, f5, f6⟩ := txt_bd ht2
        rw [ht2] at h
        simp only at h
        split at h
        · rename_i hm
          cases h
          refine ⟨by omega, f2, hm, k1 + key.length, k2 + val.length, ⟨k1, g4, g5, Nat.le_refl _, by omega⟩, .inr ⟨k2, f4, f5, Nat.le_refl _, by omega⟩, ?_⟩
          rw [if_neg (by show ¬ (bt b at_ : Int) = 0; omega)]; omega
        · cases h
theorem walk_chain {b : List UInt8} (hl : b.length ≤ 1048576) : ∀ (m at_ cnt : Nat), Chain b at_ (walk b m at_ cnt)
  | 0, _, _ => trivial
  | m + 1, at_, cnt => by
    unfold walk
    split
    · trivial
    · cases h : opS b at_ with
      | none => trivial
      | some r =>
        obtain ⟨o, nx⟩ := r
        obtain ⟨g1, g2, g3, g4⟩ := opS_bd hl h
        exact ⟨g1, g2, g3, g4, walk_chain hl m nx (cnt - 1)⟩
theorem chain_end {b : List UInt8} : ∀ {l : List (OpV × Nat)} {at_ : Nat}, at_ ≤ b.length → Chain b at_ l → at_ + l.length ≤ endOf at_ l ∧ endOf at_ l ≤ b.length
  | [], _, ha, _ => ⟨Nat.le_refl _, ha⟩
  | (o, nx) :: l, at_, ha, ⟨g1, g2, _, _, g5⟩ => by
    obtain ⟨h1, h2⟩ := chain_end (l := l) g2 g5
    simp only [endOf, List.length_cons]
    exact ⟨by omega, h2⟩
section
variable (X : Rb.FnsB)
theorem p51 : ∀ (k j n0 v : Nat) (c : Int), 1 ≤ k → v < 128 ^ k → v < 18446744073709551616 → k + 1 ≤ j → 0 ≤ c → c + k < 4611686018427387904 → ∃ r : Nat, X.p51_2 j n0 (v : Int) c = some (c + (r : Int), ()) ∧ r + 1 ≤ k := by
  intro k
  induction k with
  | zero => intro j n0 v c h; omega
  | succ k ih =>
    intro j n0 v c _ hv hv2 hj hc hc2
    obtain ⟨j, rfl⟩ : ∃ k, j = k + 1 := ⟨j - 1, by omega⟩
    rw [X.p51_2_eq, sel_dec]
    by_cases h : v < 128
    · rw [if_neg (by omega)]
      exact ⟨0, by simp, by omega⟩
    · have hk : 1 ≤ k := by
        rcases Nat.eq_zero_or_pos k with h0 | h0
        · subst h0; simp at hv; omega
        · exact h0
      rw [if_pos (by omega), sel_dec, if_pos (by omega), wrap64 (by omega) (by omega)]
      have hd : (v : Int).fdiv ((2 : Int) ^ min (Int.toNat 7) IntKind.u64.bits) = ((v / 128 : Nat) : Int) := by
        show (v : Int).fdiv 128 = _
        rw [Int.fdiv_eq_ediv_of_nonneg _ (by omega)]; omega
      rw [hd]
      have hv3 : v / 128 < 128 ^ k := by
        rw [Nat.pow_succ] at hv
        exact Nat.div_lt_of_lt_mul (by rw [Nat.mul_comm]; exact hv)
      obtain ⟨r, e, hr⟩ := ih j n0 (v / 128) (c + 1) hk hv3 (by omega) (by omega) (by omega) (by omega)
      exact ⟨r + 1, by rw [e]; congr 2; omega, by omega⟩
theorem f48 (n : Nat) (s : List UInt8) (d : Nat) (h : tsz s d) (hs : s.length ≤ 1048576) (hn : 1048600 ≤ n) : ∃ r : Nat, X.f48 n s = some ((r : Int), ()) ∧ r ≤ d := by
  obtain ⟨k, h1, h2, h3, h4⟩ := h
  obtain ⟨n, rfl⟩ : ∃ k, n = k + 2 := ⟨n - 2, by omega⟩
  rw [X.f48_eq, X.f51_eq, wrap_u64 (by omega)]
  obtain ⟨r, e, hr⟩ := p51 X k n n s.length 1 h1 h2 (by omega) (by omega) (by omega) (by omega)
  rw [e, ob_some]
  show ∃ r' : Nat, some (IntKind.i64.wrap (1 + (r : Int) + (s.length : Int)), ()) = _ ∧ _
  rw [wrap64 (by omega) (by omega)]
  exact ⟨1 + r + s.length, by congr 2, by omega⟩
theorem c40 (n : Nat) (k : Int) (key val : List UInt8) : X.f40 (n + 1) (k, key, val, ()) = obind (X.f48 n key) fun r => sel (k != 0) (obind (X.f48 n val) fun r2 => X.p40_4 n n (IntKind.i64.wrap (IntKind.i64.wrap (1 + r.1) + r2.1))) (X.p40_4 n n (IntKind.i64.wrap (1 + r.1))) := X.f40_eq n (k, key, val, ())
theorem f40 (n : Nat) (o : OpV) (at_ nx : Nat) (hnx : nx ≤ 1048576) (h : ∃ d1 d2, tsz o.2.1 d1 ∧ (o.1 = 0 ∨ tsz o.2.2.1 d2) ∧ at_ + 1 + d1 + (if o.1 = 0 then 0 else d2) ≤ nx) (hn : 1048610 ≤ n) : ∃ r : Nat, X.f40 n o = some ((r : Int), ()) ∧ at_ + r ≤ nx := by
  obtain ⟨n, rfl⟩ : ∃ k, n = k + 2 := ⟨n - 2, by omega⟩
  obtain ⟨k, key, val, ⟨⟩⟩ := o
  obtain ⟨d1, d2, h1, h2, h3⟩ := h
  simp only at h1 h2 h3
  have hkl : key.length ≤ d1 := by obtain ⟨_, _, _, q, _⟩ := h1; omega
  obtain ⟨r1, e1, hr1⟩ := f48 X (n + 1) key d1 h1 (by split at h3 <;> omega) (by omega)
  rw [c40, e1, ob_some]
  by_cases h0 : k = 0
  · subst h0
    rw [if_pos rfl] at h3
    show ∃ r : Nat, X.p40_4 (n + 1) (n + 1) (IntKind.i64.wrap (1 + (r1 : Int))) = _ ∧ _
    rw [X.p40_4_eq, wrap64 (by omega) (by omega)]
    exact ⟨1 + r1, by congr 2, by omega⟩
  · rw [if_neg h0] at h3
    rw [bne_iff_ne.2 h0, sel_t]
    have h2 : tsz val d2 := by
      rcases h2 with h2 | h2
      · exact absurd h2 h0
      · exact h2
    have hvl : val.length ≤ d2 := by obtain ⟨_, _, _, q, _⟩ := h2; omega
    obtain ⟨r2, e2, hr2⟩ := f48 X (n + 1) val d2 h2 (by omega) (by omega)
    rw [e2, ob_some, X.p40_4_eq]
    show ∃ r : Nat, some (IntKind.i64.wrap (IntKind.i64.wrap (1 + (r1 : Int)) + (r2 : Int)), ()) = _ ∧ _
    rw [wrap64 (x := 1 + (r1 : Int)) (by omega) (by omega), wrap64 (by omega) (by omega)]
    exact ⟨1 + r1 + r2, by congr 2, by omega⟩
theorem c34_3 (j n0 : Nat) (v3 : Int) (l : List OpV) (n i : Int) : X.p34_3 (j + 1) n0 v3 l n i = sel (decide (i < n)) (sel (decide (0 ≤ i)) (sel (decide (i < (l.length : Int))) (obind (X.f40 j (l.getD i.toNat (0, [], [], ()))) fun r => X.p34_3 j n0 (IntKind.i64.wrap (v3 + r.1)) l n (IntKind.i64.wrap (i + 1))) none) none) (some (v3, ())) := X.p34_3_eq j n0 v3 l n i
theorem getD_mid {α : Type} (pre rest : List α) (a d : α) : (pre ++ a :: rest).getD pre.length d = a := by
  rw [List.getD_eq_getElem?_getD, List.getElem?_append_right (Nat.le_refl _), Nat.sub_self]; rfl
theorem p34 (b : List UInt8) (hl : b.length ≤ 1048576) : ∀ (rest : List (OpV × Nat)) (pre : List OpV) (at_ v j n0 : Nat), at_ ≤ b.length → Chain b at_ rest → v ≤ at_ → rest.length + 1048620 ≤ j → pre.length + rest.length ≤ 1048576 →
    ∃ r : Nat, X.p34_3 j n0 (v : Int) (pre ++ rest.map (·.1)) ((pre ++ rest.map (·.1)).length : Int) (pre.length : Int) = some ((r : Int), ()) ∧ r ≤ endOf at_ rest := by
  intro rest
  induction rest with
  | nil =>
    intro pre at_ v j n0 ha _ hv hj _
    obtain ⟨j, rfl⟩ : ∃ k, j = k + 1 := ⟨j - 1, by omega⟩
    rw [c34_3, sel_dec, if_neg (by simp)]
    exact ⟨v, rfl, hv⟩
  | cons x rest ih =>
    intro pre at_ v j n0 ha hc hv hj hpl
    obtain ⟨o, nx⟩ := x
    obtain ⟨g1, g2, g3, g4, g5⟩ := hc
    obtain ⟨j, rfl⟩ : ∃ k, j = k + 1 := ⟨j - 1, by omega⟩
    simp only [List.length_cons] at hj hpl
    obtain ⟨r, e, hr⟩ := f40 X j o at_ nx (by omega) g4 (by omega)
    have hll : (pre ++ o :: rest.map (·.1)).length = pre.length + rest.length + 1 := by simp; omega
    have e1 : pre ++ [o] ++ rest.map (·.1) = pre ++ o :: rest.map (·.1) := by simp
    rw [List.map_cons]
    show ∃ r : Nat, X.p34_3 (j + 1) n0 (v : Int) (pre ++ o :: rest.map (·.1)) ((pre ++ o :: rest.map (·.1)).length : Int) (pre.length : Int) = some ((r : Int), ()) ∧ r ≤ endOf nx rest
    rw [c34_3, sel_dec, if_pos (by rw [hll]; omega), sel_dec, if_pos (by omega), sel_dec, if_pos (by rw [hll]; omega), Int.toNat_natCast, getD_mid, e, ob_some]
    show ∃ r' : Nat, X.p34_3 j n0 (IntKind.i64.wrap ((v : Int) + (r : Int))) _ _ (IntKind.i64.wrap ((pre.length : Int) + 1)) = _ ∧ _
    rw [wrap64 (by omega) (by omega), wrap64 (by omega) (by omega), show (v : Int) + (r : Int) = ((v + r : Nat) : Int) by omega, show (pre.length : Int) + 1 = ((pre.length + 1 : Nat) : Int) by omega]
    have := ih (pre ++ [o]) nx (v + r) j n0 g2 g5 (by omega) (by omega) (by rw [List.length_append]; simp; omega)
    rw [e1, show (pre ++ [o]).length = pre.length + 1 by simp] at this
    exact this
theorem c31_2 (j n0 : Nat) (l : List OpV) (u : Unit) (n i : Int) : X.p31_2 (j + 1) n0 l u n i = sel (decide (i < n)) (sel (decide (0 ≤ i)) (sel (decide (i < (l.length : Int))) (obind (X.f32 j (l.getD i.toNat (0, [], [], ()))) fun r => sel r.1 (some (i, ())) (X.p31_2 j n0 l u n (IntKind.i64.wrap (i + 1)))) none) none) (some (-1, ())) := X.p31_2_eq j n0 l u n i
theorem c32 (n : Nat) (o : OpV) : X.f32 (n + 1) o = obind (X.f33 n o) fun r => some (!r.1, ()) := X.f32_eq n o
theorem p31 : ∀ (rest pre : List OpV) (j n0 : Nat) (u : Unit), (∀ o ∈ rest, mayS o = true) → rest.length + 20 ≤ j → pre.length + rest.length ≤ 1048576 →
    X.p31_2 j n0 (pre ++ rest) u ((pre ++ rest).length : Int) (pre.length : Int) = some (-1, ()) := by
  intro rest
  induction rest with
  | nil =>
    intro pre j n0 u _ hj _
    obtain ⟨j, rfl⟩ : ∃ k, j = k + 1 := ⟨j - 1, by omega⟩
    rw [c31_2, sel_dec, if_neg (by simp)]
  | cons o rest ih =>
    intro pre j n0 u hm hj hpl
    obtain ⟨j, rfl⟩ : ∃ k, j = k + 2 := ⟨j - 2, by omega⟩
    simp only [List.length_cons] at hj hpl
    have hll : (pre ++ o :: rest).length = pre.length + rest.length + 1 := by simp; omega
    have e1 : pre ++ [o] ++ rest = pre ++ o :: rest := by simp
    rw [c31_2, sel_dec, if_pos (by rw [hll]; omega), sel_dec, if_pos (by omega), sel_dec, if_pos (by rw [hll]; omega), Int.toNat_natCast, getD_mid, c32, f33 X j (by omega), ob_some, ob_some]
    show sel (!mayS o) _ _ = _
    rw [hm o (by simp), Bool.not_true, sel_f, wrap64 (by omega) (by omega), show (pre.length : Int) + 1 = ((pre.length + 1 : Nat) : Int) by omega]
    have := ih (pre ++ [o]) (j + 1) n0 u (fun o' h => hm o' (by simp [h])) (by omega) (by rw [List.length_append]; simp; omega)
    rw [e1, show (pre ++ [o]).length = pre.length + 1 by simp] at this
    exact this
end
end Rs
end
section
/-! A batch is one, or none: both say the same. Plain. -/
namespace Rs
open Go Lk
def fitS (seq n : Nat) : Bool := decide (seq ≤ 72057594037927935) && decide (n = 0 ∨ n - 1 ≤ 72057594037927935 - seq)
def opsB (b : List UInt8) : List (OpV × Nat) := walk b (b.length + 1) 12 (leN b 8 4)
def decB (b : List UInt8) : Bool := decide (12 ≤ b.length) && (decide (endOf 12 (opsB b) = b.length) && (decide ((opsB b).length = leN b 8 4) && (decide ((opsB b).length ≤ 4096) && fitS (leN b 0 8) (leN b 8 4))))
theorem yB_ok (l : List BItem) (g : BItem) (h : l.length ≤ 1073741823) : RrG.yB (some l) g = some (true, some (List.append (α := BItem) l [g]), ()) := by
  unfold RrG.yB
  simp only
  rw [show Nat.ble l.length 1073741823 = true from Nat.ble_eq_true_of_le h]
  rfl
theorem lastOf_end (at_ : Nat) : ∀ (l : List (OpV × Nat)), Rr.lastOf (at_ : Int) (l.map fun x => ((x.2 : Nat) : Int)) = ((endOf at_ l : Nat) : Int) := by
  intro l
  induction l generalizing at_ with
  | nil => rfl
  | cons x l ih =>
    obtain ⟨o, nx⟩ := x
    simp only [endOf]
    rw [← ih nx]
    cases l with
    | nil => rfl
    | cons y l => rfl
section
variable (X : Rb.FnsB)
theorem f17 (b : List UInt8) (hl : b.length ≤ 1048576) (l : List (OpV × Nat)) (hc : Chain b 12 l) (h12 : 12 ≤ b.length) (n : Nat) (hn : 2200000 ≤ n) : ∃ k : Int, X.f17 n (l.map (·.1)) = some (k, (if 4096 < l.length then 3 else 0), ()) := by
  obtain ⟨n, rfl⟩ : ∃ k, n = k + 2 := ⟨n - 2, by omega⟩
  obtain ⟨e1, e2⟩ := chain_end h12 hc
  have hll : (l.map (·.1)).length = l.length := List.length_map ..
  rw [X.f17_eq, hll, sel_dec]
  by_cases h : 4096 < l.length
  · rw [if_pos (by omega), if_pos h]; exact ⟨_, rfl⟩
  rw [if_neg (by omega), if_neg h]
  have hm : ∀ o ∈ l.map (·.1), mayS o = true := by
    intro o ho
    have : ∀ (l : List (OpV × Nat)) (a : Nat), Chain b a l → ∀ o ∈ l.map (·.1), mayS o = true := by
      intro l
      induction l with
      | nil => intro a _ o ho; simp at ho
      | cons x l ih =>
        intro a hc o ho
        obtain ⟨o', nx⟩ := x
        obtain ⟨_, _, g3, _, g5⟩ := hc
        rw [List.map_cons] at ho
        rcases List.mem_cons.1 ho with rfl | ho
        · exact g3
        · exact ih nx g5 o ho
    exact this l 12 hc o ho
  have h31 := p31 X (l.map (·.1)) [] n n () hm (by rw [hll]; omega) (by rw [hll]; simp; omega)
  rw [List.nil_append] at h31
  rw [X.f31_eq, show X.p31_2 n n (l.map (·.1)) () ((l.map (·.1)).length : Int) 0 = some (-1, ()) from h31, ob_some, sel_dec, if_neg (by omega)]
  obtain ⟨r, h34, hr⟩ := p34 X b hl l [] 12 12 n n h12 hc (Nat.le_refl _) (by omega) (by simp; omega)
  rw [List.nil_append] at h34
  rw [X.f34_eq, show X.p34_3 n n 12 (l.map (·.1)) ((l.map (·.1)).length : Int) 0 = some ((r : Int), ()) from h34, ob_some]
  show ∃ k, sel (decide ((r : Int) > 1048576)) _ _ = _
  rw [sel_dec, if_neg (by omega)]
  exact ⟨_, rfl⟩
theorem c29_4 (j n0 : Nat) (l : List BItem) (b : List UInt8) (seq at_ cnt i : Int) : X.p29_4 (j + 1) n0 (some l) (some b) seq at_ cnt i = sel (decide (i < cnt)) (obind (X.f30 j b at_) fun r => sel (!r.2.2.1) (some (some l, ())) (obind (RrG.yB (some l) (IntKind.u64.wrap (seq + IntKind.u64.wrap i), r.1, r.2.1, ())) fun r2 => sel (!r2.1) (some (r2.2.1, ())) (X.p29_8 j n0 j r2.2.1 (some b) seq r.2.1 cnt i))) (some (some l, ())) := X.p29_4_eq j n0 (some l) (some b) seq at_ cnt i
theorem p29 (b : List UInt8) (hl : b.length ≤ 1048576) (seq : Int) (cnt : Nat) (hcnt : cnt < 4294967296) : ∀ (m j n0 : Nat) (l : List BItem) (at_ i : Nat), b.length - at_ < m → at_ ≤ b.length → m + 100 ≤ j → i ≤ cnt → l.length ≤ at_ →
    ∃ l' : List BItem, X.p29_4 j n0 (some l) (some b) seq (at_ : Int) (cnt : Int) (i : Int) = some (some l', ()) ∧ l'.map (·.2.1) = l.map (·.2.1) ++ (walk b m at_ (cnt - i)).map (·.1) ∧ l'.map (·.2.2.1) = l.map (·.2.2.1) ++ (walk b m at_ (cnt - i)).map fun x => ((x.2 : Nat) : Int) := by
  intro m
  induction m with
  | zero => intro j n0 l at_ i h; omega
  | succ m ih =>
    intro j n0 l at_ i hm ha hj hi hll
    obtain ⟨j, rfl⟩ : ∃ k, j = k + 2 := ⟨j - 2, by omega⟩
    rw [c29_4, sel_dec]
    unfold walk
    by_cases h : cnt - i = 0
    · rw [if_neg (by omega), if_pos h]
      exact ⟨l, rfl, by simp, by simp⟩
    rw [if_pos (by omega), if_neg h]
    obtain ⟨t1, t2⟩ := f30 X (j + 1) b at_ hl (by omega)
    cases ho : opS b at_ with
    | none =>
      obtain ⟨o, nx, e⟩ := t2 ho
      rw [e, ob_some]
      exact ⟨l, rfl, by simp, by simp⟩
    | some r =>
      obtain ⟨o, nx⟩ := r
      obtain ⟨g1, g2, _⟩ := opS_bd hl ho
      rw [t1 o nx ho, ob_some]
      show ∃ l', sel (!true) _ (obind (RrG.yB (some l) (IntKind.u64.wrap (seq + IntKind.u64.wrap (i : Int)), o, (nx : Int), ())) fun r2 => sel (!r2.1) (some (r2.2.1, ())) (X.p29_8 (j + 1) n0 (j + 1) r2.2.1 (some b) seq (nx : Int) (cnt : Int) (i : Int))) = _ ∧ _
      rw [Bool.not_true, sel_f, yB_ok _ _ (by omega), ob_some]
      show ∃ l', sel (!true) _ (X.p29_8 (j + 1) n0 (j + 1) (some (List.append (α := BItem) l [(IntKind.u64.wrap (seq + IntKind.u64.wrap (i : Int)), o, (nx : Int), ())])) (some b) seq (nx : Int) (cnt : Int) (i : Int)) = _ ∧ _
      rw [Bool.not_true, sel_f, X.p29_8_eq, X.p29_9_eq, wrap64 (by omega) (by omega), show (i : Int) + 1 = ((i + 1 : Nat) : Int) by omega]
      obtain ⟨l', e1, e2, e3⟩ := ih (j + 1) n0 (List.append (α := BItem) l [(IntKind.u64.wrap (seq + IntKind.u64.wrap (i : Int)), o, (nx : Int), ())]) nx (i + 1) (by omega) g2 (by omega) (by omega) (by show (l ++ _).length ≤ _; rw [List.length_append]; simp; omega)
      refine ⟨l', e1, ?_, ?_⟩
      · rw [e2, show List.map (fun x : BItem => x.2.1) (List.append (α := BItem) l [(IntKind.u64.wrap (seq + IntKind.u64.wrap (i : Int)), o, (nx : Int), ())]) = l.map (·.2.1) ++ [o] from List.map_append, List.append_assoc, show cnt - (i + 1) = cnt - i - 1 by omega]
        rfl
      · rw [e3, show List.map (fun x : BItem => x.2.2.1) (List.append (α := BItem) l [(IntKind.u64.wrap (seq + IntKind.u64.wrap (i : Int)), o, (nx : Int), ())]) = l.map (·.2.2.1) ++ [(nx : Int)] from List.map_append, List.append_assoc, show cnt - (i + 1) = cnt - i - 1 by omega]
        rfl
theorem c29 (n : Nat) (l : List BItem) (b : List UInt8) : X.f29 (n + 1) (some l) (some b) = obind (X.f15 n b) fun r => sel (r.2.2.1 != 0) (some (some l, ())) (X.p29_4 n n (some l) (some b) r.1 12 r.2.1 0) := X.f29_eq n (some l) (some b)
theorem f29 (b : List UInt8) (hl : b.length ≤ 1048576) (h12 : 12 ≤ b.length) (n : Nat) (hn : 1100000 ≤ n) : ∃ l : List BItem, X.f29 n (some []) (some b) = some (some l, ()) ∧ l.map (·.2.1) = (opsB b).map (·.1) ∧ l.map (·.2.2.1) = (opsB b).map fun x => ((x.2 : Nat) : Int) := by
  obtain ⟨n, rfl⟩ : ∃ k, n = k + 1 := ⟨n - 1, by omega⟩
  have h4 := leN_lt b 8 4
  have hp4 : (256 : Nat) ^ 4 = 4294967296 := by decide
  rw [c29, f15 X b n (by omega) (by omega), if_neg (by omega), ob_some]
  show ∃ l, sel ((0 : Int) != 0) _ (X.p29_4 n n (some []) (some b) (leN b 0 8 : Int) 12 (leN b 8 4 : Int) 0) = _ ∧ _
  rw [show ((0 : Int) != 0) = false from rfl, sel_f]
  have h29 := p29 X b hl (leN b 0 8 : Int) (leN b 8 4) (by omega) (b.length + 1) n n [] 12 0 (by omega) h12 (by omega) (Nat.zero_le _) (Nat.zero_le _)
  rw [Nat.sub_zero, List.map_nil, List.map_nil, List.nil_append, List.nil_append] at h29
  have ho : walk b (b.length + 1) 12 (leN b 8 4) = opsB b := by unfold opsB; rfl
  rw [ho] at h29
  exact h29
theorem fit_u (seq n : Nat) (hs : seq < 18446744073709551616) (hn : n < 4294967296) (h : seq ≤ 72057594037927935) (h1 : n ≠ 0) : decide (IntKind.u64.wrap (IntKind.i64.wrap ((n : Int) - 1)) ≤ IntKind.u64.wrap ((72057594037927935 : Int) - (seq : Int))) = fitS seq n := by
  unfold fitS
  rw [wrap64 (by omega) (by omega), show (n : Int) - 1 = ((n - 1 : Nat) : Int) by omega, show (72057594037927935 : Int) - (seq : Int) = ((72057594037927935 - seq : Nat) : Int) by omega, wrap_u64 (by omega), wrap_u64 (by omega), decide_eq_true h, Bool.true_and]
  exact decide_eq_decide.2 (by omega)
theorem f18 (n seq cnt : Nat) (hn : 1 ≤ n) (hs : seq < 18446744073709551616) (hc : cnt < 4294967296) : X.f18 n (seq : Int) (cnt : Int) = some (fitS seq cnt, ()) := by
  obtain ⟨n, rfl⟩ : ∃ k, n = k + 1 := ⟨n - 1, by omega⟩
  rw [X.f18_eq, sel_dec]
  by_cases h : seq ≤ 72057594037927935
  · rw [if_pos (by omega), sel_dec]
    by_cases h0 : cnt = 0
    · rw [if_pos (by omega)]
      unfold fitS
      rw [decide_eq_true h, decide_eq_true (.inl h0)]; rfl
    · rw [if_neg (by omega), fit_u seq cnt hs hc h h0]
  · rw [if_neg (by omega)]
    unfold fitS
    rw [decide_eq_false h, Bool.false_and]
end
section
variable (Y : Rc.FnsC)
theorem f25 (n seq cnt : Nat) (hn : 1 ≤ n) (hs : seq < 18446744073709551616) (hc : cnt < 4294967296) : Y.f25 n (seq : Int) (cnt : Int) = some (fitS seq cnt, ()) := by
  obtain ⟨n, rfl⟩ : ∃ k, n = k + 1 := ⟨n - 1, by omega⟩
  rw [Y.f25_eq, sel_dec]
  by_cases h : seq ≤ 72057594037927935
  · rw [if_pos (by omega)]
    by_cases h0 : cnt = 0
    · rw [show ((cnt : Int) == 0) = true by rw [h0]; rfl, sel_t]
      unfold fitS
      rw [decide_eq_true h, decide_eq_true (.inl h0)]; rfl
    · rw [show ((cnt : Int) == 0) = false from beq_eq_false_iff_ne.2 (by omega), sel_f, fit_u seq cnt hs hc h h0]
  · rw [if_neg (by omega)]
    unfold fitS
    rw [decide_eq_false h, Bool.false_and]
theorem c23_5 (j n0 : Nat) (b : List UInt8) (seq cnt at_ : Int) (ops : List OpV) : Y.p23_5 (j + 1) n0 b seq cnt at_ ops = sel (decide ((ops.length : Int) < cnt)) (obind (Y.f36 j b at_) fun r => sel (decide (r.2.1 < 0)) (some (seq, ops, at_, ())) (sel (decide (ops.length + 1 ≤ 1073741824)) (Y.p23_5 j n0 b seq cnt r.2.1 (ops ++ [r.1])) none)) (some (seq, ops, at_, ())) := Y.p23_5_eq j n0 b seq cnt at_ ops
theorem p23 (b : List UInt8) (hl : b.length ≤ 1048576) (seq : Int) (cnt : Nat) : ∀ (m j n0 at_ : Nat) (ops : List OpV), b.length - at_ < m → at_ ≤ b.length → m + 100 ≤ j → ops.length ≤ cnt → ops.length ≤ at_ →
    Y.p23_5 j n0 b seq (cnt : Int) (at_ : Int) ops = some (seq, ops ++ (walk b m at_ (cnt - ops.length)).map (·.1), ((endOf at_ (walk b m at_ (cnt - ops.length)) : Nat) : Int), ()) := by
  intro m
  induction m with
  | zero => intro j n0 at_ ops h; omega
  | succ m ih =>
    intro j n0 at_ ops hm ha hj hi hll
    obtain ⟨j, rfl⟩ : ∃ k, j = k + 1 := ⟨j - 1, by omega⟩
    rw [c23_5, sel_dec]
    unfold walk
    by_cases h : cnt - ops.length = 0
    · rw [if_neg (by omega), if_pos h]
      simp [endOf]
    rw [if_pos (by omega), if_neg h]
    obtain ⟨t1, t2⟩ := f36 Y j b at_ hl (by omega)
    cases ho : opS b at_ with
    | none =>
      obtain ⟨o, e⟩ := t2 ho
      rw [e, ob_some]
      show sel (decide ((-1 : Int) < 0)) _ _ = _
      rw [sel_dec, if_pos (by omega)]
      simp [endOf]
    | some r =>
      obtain ⟨o, nx⟩ := r
      obtain ⟨g1, g2, _⟩ := opS_bd hl ho
      rw [t1 o nx ho, ob_some]
      show sel (decide ((nx : Int) < 0)) _ (sel (decide (ops.length + 1 ≤ 1073741824)) (Y.p23_5 j n0 b seq (cnt : Int) (nx : Int) (ops ++ [o])) none) = _
      rw [sel_dec, if_neg (by omega), sel_dec, if_pos (by omega), ih j n0 nx (ops ++ [o]) (by omega) g2 (by omega) (by rw [List.length_append]; simp; omega) (by rw [List.length_append]; simp; omega)]
      rw [List.length_append, show cnt - (ops.length + [o].length) = cnt - ops.length - 1 by simp; omega, List.append_assoc]
      rfl
theorem f11 (b : List UInt8) (hl : b.length ≤ 1048576) (n : Nat) (hn : 1100000 ≤ n) : ∃ q ops e, Y.f11 n b = some (q, ops, e, ()) ∧ (e == 0) = decB b := by
  obtain ⟨n, rfl⟩ : ∃ k, n = k + 4 := ⟨n - 4, by omega⟩
  rw [Y.f11_eq, sel_dec, if_neg (by omega), Y.f23_eq, sel_dec]
  have bad : ∀ (q : Int) (ops : List OpV) c, c = true → Y.p11_2053 (n + 3) (n + 3) q ops c = some (0, [], 41, ()) := fun q ops c hc => by rw [Y.p11_2053_eq, hc, sel_t]
  unfold decB
  by_cases h12 : b.length < 12
  · rw [if_pos (by omega), ob_some]
    refine ⟨0, [], 41, ?_, ?_⟩
    · show sel (decide ((0 : Int) < 12)) _ _ = _
      rw [sel_dec, if_pos (by omega)]
      exact bad _ _ _ rfl
    · rw [decide_eq_false (show ¬ 12 ≤ b.length by omega)]; rfl
  have h4 := leN_lt b 8 4
  have hp4 : (256 : Nat) ^ 4 = 4294967296 := by decide
  have h8 := leN_lt b 0 8
  have hp8 : (256 : Nat) ^ 8 = 18446744073709551616 := by decide
  have e1 := f24 Y b 0 8 (n + 2) (by omega) (by omega) (by omega) (by omega)
  have e2 := f24 Y b 8 4 (n + 2) (by omega) (by omega) (by omega) (by omega)
  have e3 := f24 Y b 8 4 (n + 3) (by omega) (by omega) (by omega) (by omega)
  have hw := p23 Y b hl (leN b 0 8 : Int) (leN b 8 4) (b.length + 1) (n + 2) (n + 2) 12 [] (by omega) (by omega) (by omega) (by simp) (by simp)
  have hchain := walk_chain hl (b.length + 1) 12 (leN b 8 4)
  obtain ⟨hc1, hc2⟩ := chain_end (show 12 ≤ b.length by omega) hchain
  rw [List.nil_append, List.length_nil, Nat.sub_zero] at hw
  change Y.p23_5 _ _ _ _ _ _ _ = some ((leN b 0 8 : Int), (opsB b).map (·.1), ((endOf 12 (opsB b) : Nat) : Int), ()) at hw
  change 12 + (opsB b).length ≤ endOf 12 (opsB b) at hc1
  change endOf 12 (opsB b) ≤ b.length at hc2
  rw [if_neg (by omega), show Y.f24 (n + 2) b 0 8 = _ from e1, ob_some, show Y.f24 (n + 2) b 8 4 = _ from e2, ob_some]
  show ∃ q ops e, obind (Y.p23_5 (n + 2) (n + 2) b (leN b 0 8 : Int) (IntKind.i64.wrap (leN b 8 4 : Int)) 12 []) _ = _ ∧ _
  rw [wrap64 (by omega) (by omega), show Y.p23_5 (n + 2) (n + 2) b (leN b 0 8 : Int) (leN b 8 4 : Int) 12 [] = _ from hw, ob_some]
  have hll : ((opsB b).map (·.1)).length = (opsB b).length := List.length_map ..
  generalize opsB b = l at *
  show ∃ q ops e, sel (decide (((endOf 12 l : Nat) : Int) < 12)) (Y.p11_2053 (n + 3) (n + 3) (leN b 0 8 : Int) (l.map (·.1)) true) (sel (((endOf 12 l : Nat) : Int) != (b.length : Int)) (Y.p11_2053 (n + 3) (n + 3) (leN b 0 8 : Int) (l.map (·.1)) true) (obind (Y.f24 (n + 3) b 8 4) fun r => sel (IntKind.i64.wrap r.1 != ((l.map (·.1)).length : Int)) (Y.p11_2053 (n + 3) (n + 3) (leN b 0 8 : Int) (l.map (·.1)) true)
    (sel (decide (((l.map (·.1)).length : Int) > 4096)) (Y.p11_2053 (n + 3) (n + 3) (leN b 0 8 : Int) (l.map (·.1)) true) (obind (Y.f25 (n + 3) (leN b 0 8 : Int) ((l.map (·.1)).length : Int)) fun r2 => Y.p11_2053 (n + 3) (n + 3) (leN b 0 8 : Int) (l.map (·.1)) (!r2.1))))) = some (q, ops, e, ()) ∧ _
  rw [sel_dec, if_neg (by omega), decide_eq_true (show 12 ≤ b.length by omega), Bool.true_and, hll]
  by_cases hend : endOf 12 l = b.length
  case neg =>
    rw [bne_iff_ne.2 (show ((endOf 12 l : Nat) : Int) ≠ (b.length : Int) by omega), sel_t, bad _ _ _ rfl, decide_eq_false hend]
    exact ⟨_, _, _, rfl, rfl⟩
  rw [show (((endOf 12 l : Nat) : Int) != (b.length : Int)) = false by rw [hend]; simp, sel_f, show Y.f24 (n + 3) b 8 4 = _ from e3, ob_some, decide_eq_true hend, Bool.true_and]
  show ∃ q ops e, sel (IntKind.i64.wrap (leN b 8 4 : Int) != (l.length : Int)) _ _ = some (q, ops, e, ()) ∧ _
  rw [wrap64 (by omega) (by omega)]
  by_cases hcnt : l.length = leN b 8 4
  case neg =>
    rw [bne_iff_ne.2 (show ((leN b 8 4 : Nat) : Int) ≠ (l.length : Int) by omega), sel_t, bad _ _ _ rfl, decide_eq_false hcnt]
    exact ⟨_, _, _, rfl, rfl⟩
  rw [show (((leN b 8 4 : Nat) : Int) != (l.length : Int)) = false by rw [hcnt]; simp, sel_f, decide_eq_true hcnt, Bool.true_and, sel_dec]
  by_cases h4096 : l.length ≤ 4096
  case neg =>
    rw [if_pos (by omega), bad _ _ _ rfl, decide_eq_false h4096]
    exact ⟨_, _, _, rfl, rfl⟩
  rw [if_neg (by omega), decide_eq_true h4096, Bool.true_and, f25 Y (n + 3) (leN b 0 8) l.length (by omega) (by omega) (by omega), ob_some, hcnt]
  show ∃ q ops e, Y.p11_2053 _ _ _ _ (!fitS (leN b 0 8) (leN b 8 4)) = _ ∧ _
  cases hf : fitS (leN b 0 8) (leN b 8 4) with
  | false =>
    rw [Bool.not_false, bad _ _ _ rfl]
    exact ⟨_, _, _, rfl, rfl⟩
  | true =>
    rw [Bool.not_true, Y.p11_2053_eq, sel_f, Y.p11_6_eq]
    exact ⟨_, _, _, rfl, rfl⟩
end
end Rs
end
section
/-! The program reads what the document reads. Plain. -/
namespace Rs
open Go Lk
section
variable (X : Rj.FnsJ)
theorem read_prog (B : Nat) (file : List UInt8) (hB : 32 ≤ B ∧ B ≤ 32768) (hfl : file.length ≤ 1048576) : ∀ (m j n0 at_ : Nat) (data : List UInt8) (op : Bool) (l : List JItem), file.length - at_ < m → at_ ≤ file.length → m + file.length + 101 ≤ j → data.length ≤ 2097152 → (op = false → data = []) → l.length ≤ at_ →
    ∃ rd, X.p14_1 j n0 (Rd B file at_ data op) (some l) = some ((recs B file m at_ data op).2, rd, some (List.append (α := JItem) l ((recs B file m at_ data op).1.map fun x => (((x.2 : Nat) : Int), x.1))), ()) := by
  intro m
  induction m with
  | zero => intro j n0 at_ data op l h; omega
  | succ m ih =>
    intro j n0 at_ data op l hm ha hj hd hop hl
    obtain ⟨j, rfl⟩ : ∃ k, j = k + 1 := ⟨j - 1, by omega⟩
    obtain ⟨r1, r2⟩ := round_prog X j n0 B at_ file data op l hB (by omega) hfl hd hop (by omega)
    simp only [recs]
    cases h : rnd B file at_ data op with
    | ends how =>
      obtain ⟨rd, e⟩ := r1 how h
      refine ⟨rd, e.trans ?_⟩
      show _ = some (how, rd, some (l ++ []), ())
      rw [List.append_nil]
    | goes at1 data1 op1 r =>
      obtain ⟨g1, g2, g3, _⟩ := rnd_goes h hB.1 hd
      have hr : (r.toList.map fun x => ((at1 : Int), x)).length ≤ 1 := by
        rw [List.length_map]
        cases r <;> simp
      rw [r2 at1 data1 op1 r h]
      simp only
      have hrc : recs B file m at1 (if op1 = true then data1 else []) op1 = recs B file m at1 data1 op1 := by
        cases op1 with
        | true => rfl
        | false => exact recs_data B file m at1 _ _
      obtain ⟨rd, e⟩ := ih j n0 at1 (if op1 = true then data1 else []) op1 (List.append (α := JItem) l (r.toList.map fun x => ((at1 : Int), x))) (by omega) g2 (by omega) (by split <;> simp [g3]) (by
        intro h; rw [h]; rfl) (by
        show (l ++ _).length ≤ _
        rw [List.length_append]; omega)
      refine ⟨rd, e.trans ?_⟩
      rw [hrc]
      congr 5
      show (l ++ _) ++ _ = l ++ _
      rw [List.append_assoc, List.map_append, List.map_map]
      rfl
theorem f14 (n B : Nat) (file : List UInt8) (hB : 32 ≤ B ∧ B ≤ 32768) (hfl : file.length ≤ 1048576) (hn : 2 * file.length + 200 ≤ n) :
    ∃ rd, X.f14 n (some ((B : Int), file, 0, [], false, ())) (some []) = some ((recs B file (file.length + 1) 0 [] false).2, rd, some ((recs B file (file.length + 1) 0 [] false).1.map fun x => (((x.2 : Nat) : Int), x.1)), ()) := by
  obtain ⟨n, rfl⟩ : ∃ k, n = k + 1 := ⟨n - 1, by omega⟩
  obtain ⟨rd, e⟩ := read_prog X B file hB hfl (file.length + 1) n n 0 [] false [] (by omega) (by omega) (by omega) (by simp) (fun _ => rfl) (by simp)
  exact ⟨rd, (X.f14_eq n _ _).trans e⟩
end
end Rs
end
section
namespace Rl
open Go Lk
set_option linter.unusedVariables false
structure FnsL where
  f4 (n : Nat) (a0 : Int) (a1 : List (List UInt8)) : Option (List (List UInt8) × Bool × Unit)
  f9 (n : Nat) (a0 : Int) : Option (Bool × Unit)
  f10 (n : Nat) (a0 : Int) (a1 : List (UInt8)) : Option (List ((List (UInt8) × (Int × Unit))) × Int × Unit)
  f11 (n : Nat) (a0 : List (UInt8)) : Option (Int × List ((Int × (List (UInt8) × (List (UInt8) × Unit)))) × Int × Unit)
  f6 (n : Nat) : Option (Bool × Unit)
  f5 (n : Nat) (a0 : Int) (a1 : List (List UInt8)) : Option (List (List UInt8) × Bool × Unit)
  p5_5 (j : Nat) (n0 : Nat) (v0 : Int) (v1 : List (List UInt8)) (v6 : List (List UInt8)) (v7 : Int) : Option (List (List UInt8) × Bool × Unit)
  p5_9 (j : Nat) (n0 : Nat) (n1 : Nat) (v0 : Int) (v1 : List (List UInt8)) (v6 : List (List UInt8)) (v7 : Int) (v8 : List ((List (UInt8) × (Int × Unit)))) (v9 : Int) (v10 : Int) : Option (List (List UInt8) × Bool × Unit)
  p5_16 (j : Nat) (n0 : Nat) (v6 : List (List UInt8)) : Option (List (List UInt8) × Bool × Unit)
  f3 (n : Nat) (a0 : Int) (a1 : List (List UInt8)) : Option (Bool × Unit)
  p3_3 (j : Nat) (n0 : Nat) (v0 : Int) (v1 : List (List UInt8)) (v5 : List (List (UInt8))) (v6 : Int) : Option (Bool × Unit)
  p3_2057 (j : Nat) (n0 : Nat) (v1 : List (List UInt8)) (v5 : List (List (UInt8))) (v7 : List (List (UInt8))) (v9 : List (List UInt8)) (v55 : Bool) : Option (Bool × Unit)
  p3_10 (j : Nat) (n0 : Nat) (v1 : List (List UInt8)) (v5 : List (List (UInt8))) (v7 : List (List (UInt8))) (v9 : List (List UInt8)) : Option (Bool × Unit)
  p3_11 (j : Nat) (n0 : Nat) (n1 : Nat) (v1 : List (List UInt8)) (v5 : List (List (UInt8))) (v7 : List (List (UInt8))) (v9 : List (List UInt8)) (v11 : Int) : Option (Bool × Unit)
  p3_16 (j : Nat) (n0 : Nat) (n1 : Nat) (n2 : Nat) (v1 : List (List UInt8)) (v5 : List (List (UInt8))) (v7 : List (List (UInt8))) (v9 : List (List UInt8)) (v11 : Int) (v12 : Int) : Option (Bool × Unit)
  p3_20 (j : Nat) (n0 : Nat) (n1 : Nat) (v1 : List (List UInt8)) (v5 : List (List (UInt8))) (v13 : Int) : Option (Bool × Unit)
  f4_eq (n : Nat) (a0 : Int) (a1 : List (List UInt8)) : f4 n a0 a1 = f4 n a0 a1
  f9_eq (n : Nat) (a0 : Int) : f9 n a0 = f9 n a0
  f10_eq (n : Nat) (a0 : Int) (a1 : List (UInt8)) : f10 n a0 a1 = f10 n a0 a1
  f11_eq (n : Nat) (a0 : List (UInt8)) : f11 n a0 = f11 n a0
  f6_eq (n : Nat)  : f6 (n + 1)  =
  (some (Bool.true, ()))
  f5_eq (n : Nat) (a0 : Int) (a1 : List (List UInt8)) : f5 (n + 1) a0 a1 =
  (obind (f9 n (a0)) fun r54 =>
   (sel (!r54.fst)
    (some ([], Bool.false, ()))
    (p5_5 (n) (n) (a0) (a1) ([]) ((0 : Int)))))
  p5_5_eq (j : Nat) (n0 : Nat) (v0 : Int) (v1 : List (List UInt8)) (v6 : List (List UInt8)) (v7 : Int) : p5_5 (j + 1) n0 v0 v1 v6 v7 =
  (sel (Decidable.decide (v7 < (↑v1.length : Int)))
   (sel (Decidable.decide ((0 : Int) ≤ v7))
    (sel (Decidable.decide (v7 < (↑v1.length : Int)))
     (obind (f10 j (v0) (v1.getD v7.toNat [])) fun r266 =>
      (p5_9 (j) (n0) (j) (v0) (v1) (v6) (v7) (r266.fst) (r266.snd.fst) ((0 : Int))))
     none)
    none)
   (p5_16 (n0) (n0) (v6)))
  p5_9_eq (j : Nat) (n0 : Nat) (n1 : Nat) (v0 : Int) (v1 : List (List UInt8)) (v6 : List (List UInt8)) (v7 : Int) (v8 : List ((List (UInt8) × (Int × Unit)))) (v9 : Int) (v10 : Int) : p5_9 (j + 1) n0 n1 v0 v1 v6 v7 v8 v9 v10 =
  (sel (Decidable.decide (v10 < (↑v8.length : Int)))
   (sel (Decidable.decide ((0 : Int) ≤ v10))
    (sel (Decidable.decide (v10 < (↑v8.length : Int)))
     (obind (f11 j ((v8.getD v10.toNat ([], (0 : Int), ())).fst)) fun r445 =>
      (sel (r445.snd.snd.fst != (0 : Int))
       (some ([], Bool.false, ()))
       (sel (Decidable.decide ((0 : Int) ≤ v10))
        (sel (Decidable.decide (v10 < (↑v8.length : Int)))
         (sel (Decidable.decide (v6.length + (1 : Nat) ≤ (1073741824 : Nat)))
          (p5_9 (j) (n0) (n1) (v0) (v1) (v6 ++ [(v8.getD v10.toNat ([], (0 : Int), ())).fst]) (v7) (v8) (v9) (Go.IntKind.i64.wrap (v10 + (1 : Int))))
          none)
         none)
        none)))
     none)
    none)
   (sel (v9 != (0 : Int))
    (p5_16 (n0) (n0) (v6))
    (p5_5 (n1) (n0) (v0) (v1) (v6) (Go.IntKind.i64.wrap (v7 + (1 : Int))))))
  p5_16_eq (j : Nat) (n0 : Nat) (v6 : List (List UInt8)) : p5_16 (j + 1) n0 v6 =
  (some (v6, Bool.true, ()))
  f3_eq (n : Nat) (a0 : Int) (a1 : List (List UInt8)) : f3 (n + 1) a0 a1 =
  (p3_3 (n) (n) (a0) (a1) ([]) ((0 : Int)))
  p3_3_eq (j : Nat) (n0 : Nat) (v0 : Int) (v1 : List (List UInt8)) (v5 : List (List (UInt8))) (v6 : Int) : p3_3 (j + 1) n0 v0 v1 v5 v6 =
  (sel (Decidable.decide (v6 < (↑v1.length : Int)))
   (sel (Decidable.decide ((0 : Int) ≤ v6))
    (sel (Decidable.decide (v6 < (↑v1.length : Int)))
     (sel (Decidable.decide (v5.length + (1 : Nat) ≤ (1073741824 : Nat)))
      (p3_3 (j) (n0) (v0) (v1) (v5 ++ [v1.getD v6.toNat []]) (Go.IntKind.i64.wrap (v6 + (1 : Int))))
      none)
     none)
    none)
   (obind (f4 n0 (v0) (v5)) fun r264 =>
    (obind (f5 n0 (v0) (v1)) fun r334 =>
     (sel (r264.snd.fst != r334.snd.fst)
      (p3_2057 (n0) (n0) (v1) (v5) (r264.fst) (r334.fst) (Bool.true))
      (sel ((↑(List.length r264.fst) : Int) != (↑(List.length r334.fst) : Int))
       (p3_2057 (n0) (n0) (v1) (v5) (r264.fst) (r334.fst) (Bool.true))
       (obind (f6 n0 ) fun r614 =>
        (p3_2057 (n0) (n0) (v1) (v5) (r264.fst) (r334.fst) (!r614.fst))))))))
  p3_2057_eq (j : Nat) (n0 : Nat) (v1 : List (List UInt8)) (v5 : List (List (UInt8))) (v7 : List (List (UInt8))) (v9 : List (List UInt8)) (v55 : Bool) : p3_2057 (j + 1) n0 v1 v5 v7 v9 v55 =
  (sel (v55)
   (some (Bool.false, ()))
   (p3_10 (n0) (n0) (v1) (v5) (v7) (v9)))
  p3_10_eq (j : Nat) (n0 : Nat) (v1 : List (List UInt8)) (v5 : List (List (UInt8))) (v7 : List (List (UInt8))) (v9 : List (List UInt8)) : p3_10 (j + 1) n0 v1 v5 v7 v9 =
  (p3_11 (j) (n0) (j) (v1) (v5) (v7) (v9) ((0 : Int)))
  p3_11_eq (j : Nat) (n0 : Nat) (n1 : Nat) (v1 : List (List UInt8)) (v5 : List (List (UInt8))) (v7 : List (List (UInt8))) (v9 : List (List UInt8)) (v11 : Int) : p3_11 (j + 1) n0 n1 v1 v5 v7 v9 v11 =
  (sel (Decidable.decide (v11 < (↑v7.length : Int)))
   (sel (Decidable.decide ((0 : Int) ≤ v11))
    (sel (Decidable.decide (v11 < (↑v7.length : Int)))
     (sel (Decidable.decide ((0 : Int) ≤ v11))
      (sel (Decidable.decide (v11 < (↑v9.length : Int)))
       (sel (!v7.getD v11.toNat [] == v9.getD v11.toNat [])
        (some (Bool.false, ()))
        (p3_16 (j) (n0) (n1) (j) (v1) (v5) (v7) (v9) (v11) ((0 : Int))))
       none)
      none)
     none)
    none)
   (p3_20 (n1) (n0) (n1) (v1) (v5) ((0 : Int))))
  p3_16_eq (j : Nat) (n0 : Nat) (n1 : Nat) (n2 : Nat) (v1 : List (List UInt8)) (v5 : List (List (UInt8))) (v7 : List (List (UInt8))) (v9 : List (List UInt8)) (v11 : Int) (v12 : Int) : p3_16 (j + 1) n0 n1 n2 v1 v5 v7 v9 v11 v12 =
  (sel (Decidable.decide ((0 : Int) ≤ v11))
   (sel (Decidable.decide (v11 < (↑v7.length : Int)))
    (sel (Decidable.decide (v12 < (↑(List.length (v7.getD v11.toNat [])) : Int)))
     (sel (Decidable.decide ((0 : Int) ≤ v11))
      (sel (Decidable.decide (v11 < (↑v7.length : Int)))
       (sel (Decidable.decide ((0 : Int) ≤ v11))
        (sel (Decidable.decide (v11 < (↑v7.length : Int)))
         (sel (Decidable.decide ((0 : Int) ≤ v12))
          (sel (Decidable.decide (v12 < (↑(List.length (v7.getD v11.toNat [])) : Int)))
           (sel (Decidable.decide ((0 : Int) ≤ v12))
            (sel (Decidable.decide (v12 < (↑(List.length (v7.getD v11.toNat [])) : Int)))
             (p3_16 (j) (n0) (n1) (n2) (v1) (v5) (v7.set v11.toNat (List.set (v7.getD v11.toNat []) v12.toNat (UInt8.ofNat (Go.IntKind.u8.wrap ((↑(UInt8.toNat (List.getD (v7.getD v11.toNat []) v12.toNat (0 : UInt8))) : Int) + (↑(UInt8.toNat (1 : UInt8)) : Int))).toNat))) (v9) (v11) (Go.IntKind.i64.wrap (v12 + (1 : Int))))
             none)
            none)
           none)
          none)
         none)
        none)
       none)
      none)
     (p3_11 (n2) (n0) (n1) (v1) (v5) (v7) (v9) (Go.IntKind.i64.wrap (v11 + (1 : Int)))))
    none)
   none)
  p3_20_eq (j : Nat) (n0 : Nat) (n1 : Nat) (v1 : List (List UInt8)) (v5 : List (List (UInt8))) (v13 : Int) : p3_20 (j + 1) n0 n1 v1 v5 v13 =
  (sel (Decidable.decide (v13 < (↑v1.length : Int)))
   (sel (Decidable.decide ((0 : Int) ≤ v13))
    (sel (Decidable.decide (v13 < (↑v5.length : Int)))
     (sel (Decidable.decide ((0 : Int) ≤ v13))
      (sel (Decidable.decide (v13 < (↑v1.length : Int)))
       (sel (!v5.getD v13.toNat [] == v1.getD v13.toNat [])
        (some (Bool.false, ()))
        (p3_20 (j) (n0) (n1) (v1) (v5) (Go.IntKind.i64.wrap (v13 + (1 : Int)))))
       none)
      none)
     none)
    none)
   (obind (f4 n1 ((64 : Int)) ([])) fun r1454 =>
    (some (r1454.snd.fst, ()))))
end Rl
end
section
/-! ReopenReplays: the plain law. -/
namespace Rs
set_option linter.unusedSectionVars false
open Go Lk
def rc (B : Nat) (f : List UInt8) : List (List UInt8) := (recs B f (f.length + 1) 0 [] false).1.map (·.1)
def rh (B : Nat) (f : List UInt8) : Int := (recs B f (f.length + 1) 0 [] false).2
def outP (B : Nat) : List (List UInt8) → List (List UInt8) → List (List UInt8) × Bool
  | [], out => (out, true)
  | f :: fs, out => if (rc B f).all decB = true then (if rh B f = 0 then outP B fs (out ++ rc B f) else (out ++ rc B f, true)) else ([], false)
def tot : List (List UInt8) → Nat
  | [] => 0
  | f :: fs => f.length + 1 + tot fs
theorem rnd_small {B : Nat} {file : List UInt8} {at_ : Nat} {data : List UInt8} {op : Bool} {at1 : Nat} {data1 : List UInt8} {op1 : Bool} {r : Option (List UInt8)} (h : rnd B file at_ data op = .goes at1 data1 op1 r) (hd : op = true → data.length ≤ at_) :
    (op1 = true → data1.length ≤ at1) ∧ ∀ x ∈ r, x.length ≤ at1 := by
  unfold rnd at h
  split at h
  · cases h
  split at h
  · split at h
    · cases h
      refine ⟨fun ho => ?_, fun x hx => by cases hx⟩
      have := hd ho
      omega
    · cases h
  split at h
  · cases h
  split at h
  · cases h
  split at h
  · cases h
  split at h
  · cases h
  split at h
  · cases h
  rename_i q1 q2 q3 q4 q5 q6 q7
  have hp := part_len file (at_ + 7) (bt file (at_ + 4) + 256 * bt file (at_ + 5)) (by omega)
  have hD : ((if bt file (at_ + 6) = 1 ∨ bt file (at_ + 6) = 2 then [] else data) ++ part file (at_ + 7) (bt file (at_ + 4) + 256 * bt file (at_ + 5))).length ≤ at_ + 7 + (bt file (at_ + 4) + 256 * bt file (at_ + 5)) := by
    rw [List.length_append, hp]
    by_cases hk : bt file (at_ + 6) = 1 ∨ bt file (at_ + 6) = 2
    · rw [if_pos hk, List.length_nil]; omega
    · rw [if_neg hk]
      have : op = true := by
        cases op with
        | true => rfl
        | false => exact absurd (decide_eq_false hk) q7
      have := hd this
      omega
  generalize ((if bt file (at_ + 6) = 1 ∨ bt file (at_ + 6) = 2 then [] else data) ++ part file (at_ + 7) (bt file (at_ + 4) + 256 * bt file (at_ + 5))) = D at h hD
  by_cases q8 : 2097152 < D.length
  · rw [if_pos q8] at h; cases h
  · rw [if_neg q8] at h
    cases h
    refine ⟨fun _ => hD, fun x hx => ?_⟩
    split at hx
    · cases hx
    · cases hx; exact hD
theorem recs_bd (B : Nat) (hB : 32 ≤ B) (file : List UInt8) : ∀ (m at_ : Nat) (data : List UInt8) (op : Bool), at_ ≤ file.length → data.length ≤ 2097152 → (op = true → data.length ≤ at_) →
    (recs B file m at_ data op).1.length ≤ file.length - at_ ∧ ∀ x ∈ (recs B file m at_ data op).1, x.1.length ≤ file.length := by
  intro m
  induction m with
  | zero => intro at_ data op h1 h2 h3; simp [recs]
  | succ m ih =>
    intro at_ data op h1 h2 h3
    simp only [recs]
    cases h : rnd B file at_ data op with
    | ends how => simp
    | goes at1 data1 op1 r =>
      obtain ⟨g1, g2, g3, _⟩ := rnd_goes h hB h2
      obtain ⟨s1, s2⟩ := rnd_small h h3
      obtain ⟨i1, i2⟩ := ih at1 data1 op1 g2 g3 s1
      have hr : (r.toList.map fun x => (x, at1)).length ≤ 1 := by
        rw [List.length_map]
        cases r <;> simp
      simp only
      refine ⟨by rw [List.length_append]; omega, fun x hx => ?_⟩
      rcases List.mem_append.1 hx with hx | hx
      · obtain ⟨y, hy, rfl⟩ := List.mem_map.1 hx
        have := s2 y (Option.mem_toList.1 hy)
        show y.length ≤ _
        omega
      · exact i2 x hx
theorem rc_bd (B : Nat) (hB : 32 ≤ B) (f : List UInt8) : (rc B f).length ≤ f.length ∧ ∀ x ∈ rc B f, x.length ≤ f.length := by
  obtain ⟨h1, h2⟩ := recs_bd B hB f (f.length + 1) 0 [] false (by omega) (by simp) (fun h => by cases h)
  refine ⟨by unfold rc; rw [List.length_map]; omega, fun x hx => ?_⟩
  unfold rc at hx
  obtain ⟨y, hy, rfl⟩ := List.mem_map.1 hx
  exact h2 y hy
theorem tot_mem : ∀ (l : List (List UInt8)), (∀ x ∈ l, x.length ≤ tot l) ∧ l.length ≤ tot l
  | [] => ⟨by simp, Nat.le_refl _⟩
  | f :: fs => by
    obtain ⟨h1, h2⟩ := tot_mem fs
    refine ⟨fun x hx => ?_, by simp only [List.length_cons, tot]; omega⟩
    rcases List.mem_cons.1 hx with rfl | hx
    · simp only [tot]; omega
    · have := h1 x hx; simp only [tot]; omega
theorem outP_bd (B : Nat) (hB : 32 ≤ B) : ∀ (fs out : List (List UInt8)) (M : Nat), (∀ x ∈ out, x.length ≤ M) → tot fs ≤ M → (outP B fs out).1.length ≤ out.length + tot fs ∧ ∀ x ∈ (outP B fs out).1, x.length ≤ M
  | [], out, M, h, _ => ⟨by simp [outP, tot], by simpa [outP] using h⟩
  | f :: fs, out, M, h, hM => by
    obtain ⟨r1, r2⟩ := rc_bd B hB f
    simp only [tot] at hM
    have hap : ∀ x ∈ out ++ rc B f, x.length ≤ M := by
      intro x hx
      rcases List.mem_append.1 hx with hx | hx
      · exact h x hx
      · have := r2 x hx; omega
    simp only [outP, tot]
    split
    · split
      · obtain ⟨g1, g2⟩ := outP_bd B hB fs (out ++ rc B f) M hap (by omega)
        rw [List.length_append] at g1
        exact ⟨by omega, g2⟩
      · exact ⟨by rw [List.length_append]; omega, hap⟩
    · exact ⟨by simp, by simp⟩
def repP (block : Int) (l : List (List UInt8)) : List (List UInt8) × Bool := if decide (32 ≤ block) && decide (block ≤ 32768) then outP block.toNat l [] else ([], false)
theorem drop_getD {α : Type} (l : List α) (i : Nat) (d : α) (h : i < l.length) : l.drop i = l.getD i d :: l.drop (i + 1) := by
  rw [List.getD_eq_getElem?_getD, List.getElem?_eq_getElem h, Option.getD_some, List.drop_eq_getElem_cons h]
section
variable (Y : Rl.FnsL) (B : Nat) (hB : 32 ≤ B)
  (h10 : ∀ (n : Nat) (f : List UInt8), f.length ≤ 1048576 → 2300000 ≤ n → Y.f10 n (B : Int) f = some ((recs B f (f.length + 1) 0 [] false).1.map (fun x => (x.1, ((x.2 : Nat) : Int), ())), rh B f, ()))
  (h11 : ∀ (n : Nat) (b : List UInt8), b.length ≤ 1048576 → 1100000 ≤ n → ∃ q ops e, Y.f11 n b = some (q, ops, e, ()) ∧ (e == 0) = decB b)
include hB h10 h11
theorem p5_9 (v1 : List (List UInt8)) (n0 n1 i : Nat) (how : Int) (l : List (List UInt8 × Int × Unit)) (hl : l.length ≤ 1048576) (hs : ∀ x ∈ l, x.1.length ≤ 1048576) : ∀ (m j k : Nat) (out : List (List UInt8)), k + m = l.length → 1100000 + m + 1 ≤ j → out.length + m ≤ 1048576 →
    Y.p5_9 j n0 n1 (B : Int) v1 out (i : Int) l how (k : Int) = if ((l.drop k).all fun x => decB x.1) = true then sel (how != 0) (Y.p5_16 n0 n0 (out ++ (l.drop k).map (·.1))) (Y.p5_5 n1 n0 (B : Int) v1 (out ++ (l.drop k).map (·.1)) (IntKind.i64.wrap ((i : Int) + 1))) else some ([], false, ()) := by
  intro m
  induction m with
  | zero =>
    intro j k out hm hj ho
    obtain ⟨j, rfl⟩ : ∃ t, j = t + 1 := ⟨j - 1, by omega⟩
    rw [Y.p5_9_eq, sel_dec, if_neg (by omega), List.drop_eq_nil_of_le (by omega), List.all_nil, if_pos rfl, List.map_nil, List.append_nil]
  | succ m ih =>
    intro j k out hm hj ho
    obtain ⟨j, rfl⟩ : ∃ t, j = t + 1 := ⟨j - 1, by omega⟩
    have hd := drop_getD l k ([], (0 : Int), ()) (by omega)
    have hmem : l.getD k ([], (0 : Int), ()) ∈ l := by
      have : l.getD k ([], (0 : Int), ()) ∈ l.drop k := by rw [hd]; exact List.mem_cons_self ..
      exact List.mem_of_mem_drop this
    have hx := hs _ hmem
    rw [Y.p5_9_eq, sel_dec, if_pos (by omega), sel_dec, if_pos (by omega), sel_dec, if_pos (by omega), Int.toNat_natCast, hd]
    generalize l.getD k ([], (0 : Int), ()) = x at *
    obtain ⟨q, ops, e, e1, e2⟩ := h11 j x.1 hx (by omega)
    rw [e1, ob_some, List.all_cons, List.map_cons]
    show sel (e != 0) _ _ = _
    cases hdec : decB x.1 with
    | false =>
      rw [bne, e2, hdec, Bool.not_false, sel_t, Bool.false_and, if_neg (by decide)]
    | true =>
      rw [bne, e2, hdec, Bool.not_true, sel_f, sel_dec, if_pos (by omega), sel_dec, if_pos (by omega), sel_dec, if_pos (by omega), wrap64 (by omega) (by omega), show (k : Int) + 1 = ((k + 1 : Nat) : Int) by omega, ih j (k + 1) (out ++ [x.1]) (by omega) (by omega) (by rw [List.length_append]; simp; omega), Bool.true_and, List.append_assoc]
      rfl
theorem p5_5 (v1 : List (List UInt8)) (hv : tot v1 ≤ 1048576) (n0 : Nat) (hn0 : 1 ≤ n0) : ∀ (m j i : Nat) (out : List (List UInt8)), i + m = v1.length → 2400000 + m ≤ j → out.length + tot (v1.drop i) ≤ 1048576 →
    Y.p5_5 j n0 (B : Int) v1 out (i : Int) = some ((outP B (v1.drop i) out).1, (outP B (v1.drop i) out).2, ()) := by
  obtain ⟨tm, tl⟩ := tot_mem v1
  intro m
  induction m with
  | zero =>
    intro j i out hm hj ho
    obtain ⟨j, rfl⟩ : ∃ t, j = t + 1 := ⟨j - 1, by omega⟩
    obtain ⟨n0, rfl⟩ : ∃ t, n0 = t + 1 := ⟨n0 - 1, by omega⟩
    rw [Y.p5_5_eq, sel_dec, if_neg (by omega), List.drop_eq_nil_of_le (by omega), Y.p5_16_eq]
    rfl
  | succ m ih =>
    intro j i out hm hj ho
    obtain ⟨j, rfl⟩ : ∃ t, j = t + 1 := ⟨j - 1, by omega⟩
    have hd := drop_getD v1 i [] (by omega)
    have hmem : v1.getD i [] ∈ v1 := by
      have : v1.getD i [] ∈ v1.drop i := by rw [hd]; exact List.mem_cons_self ..
      exact List.mem_of_mem_drop this
    have hx := tm _ hmem
    rw [hd] at ho
    rw [Y.p5_5_eq, sel_dec, if_pos (by omega), sel_dec, if_pos (by omega), sel_dec, if_pos (by omega), Int.toNat_natCast, hd]
    generalize v1.getD i [] = f at *
    simp only [tot] at ho
    obtain ⟨r1, r2⟩ := rc_bd B hB f
    have hrc : ((recs B f (f.length + 1) 0 [] false).1.map (fun x => (x.1, ((x.2 : Nat) : Int), ()))).map (·.1) = rc B f := by
      unfold rc
      rw [List.map_map]; rfl
    have hlen : ((recs B f (f.length + 1) 0 [] false).1.map (fun x => (x.1, ((x.2 : Nat) : Int), ()))).length = (rc B f).length := by rw [← hrc]; simp only [List.length_map]
    have hall : (((recs B f (f.length + 1) 0 [] false).1.map (fun x => (x.1, ((x.2 : Nat) : Int), ()))).all fun x => decB x.1) = (rc B f).all decB := by rw [← hrc]; simp only [List.all_map]; rfl
    rw [h10 j f (by omega) (by omega), ob_some]
    simp only
    have hsm : ∀ x ∈ (recs B f (f.length + 1) 0 [] false).1.map (fun x => (x.1, ((x.2 : Nat) : Int), ())), List.length (α := UInt8) x.1 ≤ 1048576 := by
      intro x hx
      have : x.1 ∈ rc B f := by rw [← hrc]; exact List.mem_map_of_mem hx
      have := r2 _ this
      omega
    have h9 := p5_9 Y B hB h10 h11 v1 n0 j i (rh B f) _ (by rw [hlen]; omega) hsm (rc B f).length j 0 out (by rw [hlen]; omega) (by omega) (by omega)
    rw [List.drop_zero, hrc, hall] at h9
    rw [show Y.p5_9 j n0 j (B : Int) v1 out (i : Int) ((recs B f (f.length + 1) 0 [] false).1.map (fun x => (x.1, ((x.2 : Nat) : Int), ()))) (rh B f) 0 = _ from h9]
    simp only [outP]
    by_cases ha : (rc B f).all decB = true
    · rw [if_pos ha, if_pos ha]
      by_cases hh : rh B f = 0
      · rw [if_pos hh, hh, show ((0 : Int) != 0) = false from rfl, sel_f, wrap64 (by omega) (by omega), show (i : Int) + 1 = ((i + 1 : Nat) : Int) by omega, ih j (i + 1) _ (by omega) (by omega) (by rw [List.length_append]; omega)]
      · obtain ⟨n0, rfl⟩ : ∃ t, n0 = t + 1 := ⟨n0 - 1, by omega⟩
        rw [if_neg hh, bne_iff_ne.2 hh, sel_t, Y.p5_16_eq]
    · rw [if_neg ha, if_neg ha]
end
section
variable (Y : Rl.FnsL)
theorem names_ok (n : Nat) (h : 1 ≤ n) : Y.f6 n = some (true, ()) := by
  obtain ⟨n, rfl⟩ : ∃ t, n = t + 1 := ⟨n - 1, by omega⟩
  rw [Y.f6_eq]
theorem p3_3 (B : Int) (v1 : List (List UInt8)) (hv : v1.length ≤ 1048576) (n0 : Nat) : ∀ (m j i : Nat), i + m = v1.length → m + 1 ≤ j →
    Y.p3_3 j n0 B v1 (v1.take i) (i : Int) = obind (Y.f4 n0 B v1) fun r => obind (Y.f5 n0 B v1) fun r2 => sel (r.2.1 != r2.2.1) (Y.p3_2057 n0 n0 v1 v1 r.1 r2.1 true) (sel (((r.1.length : Nat) : Int) != ((r2.1.length : Nat) : Int)) (Y.p3_2057 n0 n0 v1 v1 r.1 r2.1 true) (obind (Y.f6 n0) fun r3 => Y.p3_2057 n0 n0 v1 v1 r.1 r2.1 (!r3.1))) := by
  intro m
  induction m with
  | zero =>
    intro j i hm hj
    obtain ⟨j, rfl⟩ : ∃ t, j = t + 1 := ⟨j - 1, by omega⟩
    rw [Y.p3_3_eq, sel_dec, if_neg (by omega), List.take_of_length_le (by omega)]
  | succ m ih =>
    intro j i hm hj
    obtain ⟨j, rfl⟩ : ∃ t, j = t + 1 := ⟨j - 1, by omega⟩
    rw [Y.p3_3_eq, sel_dec, if_pos (by omega), sel_dec, if_pos (by omega), sel_dec, if_pos (by omega), sel_dec, if_pos (by rw [List.length_take]; omega), Int.toNat_natCast, wrap64 (by omega) (by omega), show (i : Int) + 1 = ((i + 1 : Nat) : Int) by omega]
    have : v1.take i ++ [v1.getD i []] = v1.take (i + 1) := by
      rw [List.take_succ_eq_append_getElem (by omega), List.getD_eq_getElem?_getD, List.getElem?_eq_getElem (by omega), Option.getD_some]
    rw [this, ih j (i + 1) (by omega) (by omega)]
theorem at_len {α : Type} (x : List α) (y : α) (r : List α) (d : α) : (x ++ y :: r).getD x.length d = y := by
  rw [List.getD_eq_getElem?_getD, List.getElem?_append_right (Nat.le_refl _), Nat.sub_self]; rfl
theorem set_len {α : Type} (x : List α) (y z : α) (r : List α) : (x ++ y :: r).set x.length z = x ++ z :: r := by
  rw [List.set_append_right _ _ (Nat.le_refl _), Nat.sub_self]; rfl
theorem p3_16 (v1 v5 v9 x r : List (List UInt8)) (n0 n1 n2 : Nat) : ∀ (m j k : Nat) (y : List UInt8), k + m = y.length → m + 1 ≤ j → y.length ≤ 1048576 →
    ∃ y' : List UInt8, Y.p3_16 j n0 n1 n2 v1 v5 (x ++ y :: r) v9 (x.length : Int) (k : Int) = Y.p3_11 n2 n0 n1 v1 v5 (x ++ y' :: r) v9 (IntKind.i64.wrap ((x.length : Int) + 1)) := by
  intro m
  induction m with
  | zero =>
    intro j k y hm hj hy
    obtain ⟨j, rfl⟩ : ∃ t, j = t + 1 := ⟨j - 1, by omega⟩
    have hl : (x ++ y :: r).length = x.length + r.length + 1 := by rw [List.length_append, List.length_cons]; omega
    rw [Y.p3_16_eq, sel_dec, if_pos (by omega), sel_dec, if_pos (by omega), Int.toNat_natCast, at_len, sel_dec, if_neg (by omega)]
    exact ⟨y, rfl⟩
  | succ m ih =>
    intro j k y hm hj hy
    obtain ⟨j, rfl⟩ : ∃ t, j = t + 1 := ⟨j - 1, by omega⟩
    have hl : (x ++ y :: r).length = x.length + r.length + 1 := by rw [List.length_append, List.length_cons]; omega
    have c1 : ∀ {α : Type} (a b : α), sel (decide ((0 : Int) ≤ (x.length : Int))) a b = a := fun a b => by rw [sel_dec, if_pos (by omega)]
    have c2 : ∀ {α : Type} (a b : α), sel (decide ((x.length : Int) < ((x ++ y :: r).length : Int))) a b = a := fun a b => by rw [sel_dec, if_pos (by omega)]
    have c3 : ∀ {α : Type} (a b : α), sel (decide ((0 : Int) ≤ (k : Int))) a b = a := fun a b => by rw [sel_dec, if_pos (by omega)]
    have c4 : ∀ {α : Type} (a b : α), sel (decide ((k : Int) < (y.length : Int))) a b = a := fun a b => by rw [sel_dec, if_pos (by omega)]
    rw [Y.p3_16_eq]
    simp only [Int.toNat_natCast, at_len, c1, c2, c3, c4, set_len]
    rw [wrap64 (by omega) (by omega), show (k : Int) + 1 = ((k + 1 : Nat) : Int) by omega]
    exact ih j (k + 1) _ (by rw [List.length_set]; omega) (by omega) (by rw [List.length_set]; omega)
theorem p3_20 (v1 : List (List UInt8)) (hv : v1.length ≤ 1048576) (n0 n1 : Nat) (h4 : ∃ l, Y.f4 n1 64 [] = some (l, true, ())) : ∀ (m j i : Nat), i + m = v1.length → m + 1 ≤ j → Y.p3_20 j n0 n1 v1 v1 (i : Int) = some (true, ()) := by
  intro m
  induction m with
  | zero =>
    intro j i hm hj
    obtain ⟨j, rfl⟩ : ∃ t, j = t + 1 := ⟨j - 1, by omega⟩
    obtain ⟨l, e⟩ := h4
    rw [Y.p3_20_eq, sel_dec, if_neg (by omega), e, ob_some]
  | succ m ih =>
    intro j i hm hj
    obtain ⟨j, rfl⟩ : ∃ t, j = t + 1 := ⟨j - 1, by omega⟩
    have c1 : ∀ {α : Type} (a b : α), sel (decide ((0 : Int) ≤ (i : Int))) a b = a := fun a b => by rw [sel_dec, if_pos (by omega)]
    have c2 : ∀ {α : Type} (a b : α), sel (decide ((i : Int) < (v1.length : Int))) a b = a := fun a b => by rw [sel_dec, if_pos (by omega)]
    rw [Y.p3_20_eq]
    simp only [c1, c2]
    rw [beq_self_eq_true, Bool.not_true, sel_f, wrap64 (by omega) (by omega), show (i : Int) + 1 = ((i + 1 : Nat) : Int) by omega]
    exact ih j (i + 1) (by omega) (by omega)
theorem p3_11 (v1 v9 : List (List UInt8)) (hv : v1.length ≤ 1048576) (h9 : v9.length ≤ 1048576) (hs : ∀ y ∈ v9, List.length (α := UInt8) y ≤ 1048576) (n0 n1 : Nat) (hn1 : 1048578 ≤ n1) (h4 : ∃ l, Y.f4 n1 64 [] = some (l, true, ())) : ∀ (m j : Nat) (x : List (List UInt8)), x.length + m = v9.length → m + 1048580 ≤ j →
    Y.p3_11 j n0 n1 v1 v1 (x ++ v9.drop x.length) v9 (x.length : Int) = some (true, ()) := by
  intro m
  induction m with
  | zero =>
    intro j x hm hj
    obtain ⟨j, rfl⟩ : ∃ t, j = t + 1 := ⟨j - 1, by omega⟩
    rw [Y.p3_11_eq, sel_dec, if_neg (by rw [List.length_append, List.length_drop]; omega)]
    exact p3_20 Y v1 hv n0 n1 h4 v1.length n1 0 (by omega) (by omega)
  | succ m ih =>
    intro j x hm hj
    obtain ⟨j, rfl⟩ : ∃ t, j = t + 1 := ⟨j - 1, by omega⟩
    have hd := drop_getD v9 x.length [] (by omega)
    have hmem : v9.getD x.length [] ∈ v9 := by
      have : v9.getD x.length [] ∈ v9.drop x.length := by rw [hd]; exact List.mem_cons_self ..
      exact List.mem_of_mem_drop this
    have hy := hs _ hmem
    have hl : (x ++ v9.drop x.length).length = v9.length := by rw [List.length_append, List.length_drop]; omega
    have c1 : ∀ {α : Type} (a b : α), sel (decide ((0 : Int) ≤ (x.length : Int))) a b = a := fun a b => by rw [sel_dec, if_pos (by omega)]
    have c2 : ∀ {α : Type} (a b : α), sel (decide ((x.length : Int) < (v9.length : Int))) a b = a := fun a b => by rw [sel_dec, if_pos (by omega)]
    rw [Y.p3_11_eq, hl]
    simp only [c1, c2, Int.toNat_natCast]
    rw [hd, at_len, beq_self_eq_true, Bool.not_true, sel_f]
    obtain ⟨y', e⟩ := p3_16 Y v1 v1 v9 x (v9.drop (x.length + 1)) n0 n1 j (v9.getD x.length []).length j 0 (v9.getD x.length []) (by omega) (by omega) hy
    rw [show Y.p3_16 j n0 n1 j v1 v1 (x ++ v9.getD x.length [] :: v9.drop (x.length + 1)) v9 (x.length : Int) 0 = _ from e, wrap64 (by omega) (by omega)]
    have hx : (x ++ [y']).length = x.length + 1 := by rw [List.length_append]; rfl
    have := ih j (x ++ [y']) (by omega) (by omega)
    rw [hx, List.append_assoc] at this
    rw [show (x.length : Int) + 1 = ((x.length + 1 : Nat) : Int) by omega]
    exact this
theorem law_ok (n : Nat) (hn : 6000000 ≤ n) (B : Int) (v1 : List (List UInt8)) (hv : tot v1 ≤ 1048576)
    (h4 : ∀ (m : Nat) (B : Int) (l : List (List UInt8)), 2400000 ≤ m → tot l ≤ 1048576 → Y.f4 m B l = some ((repP B l).1, (repP B l).2, ()))
    (h9 : ∀ (m : Nat) (B : Int), 1 ≤ m → Y.f9 m B = some (decide (32 ≤ B) && decide (B ≤ 32768), ()))
    (h10 : ∀ (m B : Nat) (f : List UInt8), 32 ≤ B ∧ B ≤ 32768 → f.length ≤ 1048576 → 2300000 ≤ m → Y.f10 m (B : Int) f = some ((recs B f (f.length + 1) 0 [] false).1.map (fun x => (x.1, ((x.2 : Nat) : Int), ())), rh B f, ()))
    (h11 : ∀ (m : Nat) (b : List UInt8), b.length ≤ 1048576 → 1100000 ≤ m → ∃ q ops e, Y.f11 m b = some (q, ops, e, ()) ∧ (e == 0) = decB b) :
    Y.f3 n B v1 = some (true, ()) := by
  obtain ⟨n, rfl⟩ : ∃ t, n = t + 1 := ⟨n - 1, by omega⟩
  obtain ⟨tm, tl⟩ := tot_mem v1
  have h5 : Y.f5 n B v1 = some ((repP B v1).1, (repP B v1).2, ()) := by
    obtain ⟨n, rfl⟩ : ∃ t, n = t + 1 := ⟨n - 1, by omega⟩
    rw [Y.f5_eq, h9 n B (by omega), ob_some]
    unfold repP
    cases hb : (decide (32 ≤ B) && decide (B ≤ 32768)) with
    | false => rfl
    | true =>
      obtain ⟨b1, b2⟩ : 32 ≤ B ∧ B ≤ 32768 := by simpa using hb
      obtain ⟨b, rfl⟩ : ∃ b : Nat, B = (b : Int) := ⟨B.toNat, by omega⟩
      rw [Bool.not_true, sel_f, if_pos rfl, Int.toNat_natCast]
      have := p5_5 Y b (by omega) (fun n f => h10 n b f (by omega)) h11 v1 hv n (by omega) v1.length n 0 [] (by omega) (by omega) (by rw [List.drop_zero]; simp; omega)
      rw [List.drop_zero] at this
      exact this
  have hb : (repP B v1).1.length ≤ 1048576 ∧ ∀ y ∈ (repP B v1).1, List.length (α := UInt8) y ≤ 1048576 := by
    unfold repP
    split
    · rename_i hb
      obtain ⟨b1, b2⟩ : 32 ≤ B ∧ B ≤ 32768 := by simpa using hb
      obtain ⟨g1, g2⟩ := outP_bd B.toNat (by omega) v1 [] 1048576 (by simp) hv
      exact ⟨by rw [List.length_nil] at g1; omega, g2⟩
    · exact ⟨by simp, by simp⟩
  rw [Y.f3_eq]
  have h3 := p3_3 Y B v1 (by omega) n v1.length n 0 (by omega) (by omega)
  rw [List.take_zero] at h3
  rw [show Y.p3_3 n n B v1 [] 0 = _ from h3, h4 n B v1 (by omega) hv, ob_some, h5, ob_some, names_ok Y n (by omega), ob_some]
  generalize repP B v1 = z at *
  obtain ⟨v9, ok⟩ := z
  simp only at hb ⊢
  rw [bne_self_eq_false, sel_f, bne_self_eq_false, sel_f, Bool.not_true]
  obtain ⟨n', rfl⟩ : ∃ t, n = t + 1 := ⟨n - 1, by omega⟩
  rw [Y.p3_2057_eq, sel_f, Y.p3_10_eq]
  have := p3_11 Y v1 v9 (by omega) hb.1 hb.2 (n' + 1) n' (by omega) ⟨_, h4 n' 64 [] (by omega) (by simp [tot])⟩ v9.length n' [] (by simp) (by omega)
  rw [List.nil_append, List.length_nil, List.drop_zero] at this
  exact this
end
end Rs
end
