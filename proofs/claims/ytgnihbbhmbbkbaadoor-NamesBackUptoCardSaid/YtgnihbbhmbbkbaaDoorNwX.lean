import Derived.Test.YtgnihbbhmbbkbaaDoorLmTwo
import Derived.Lib.AtoiAll
import Derived.Lib.ItoaNum
import Derived.Lib.Repeat
set_option linter.all false
/-! What the functions told from without say: plain. -/
namespace NqG
open Go Lk
/-- unicode/utf8.DecodeRuneInString -/
def e37 (s : List UInt8) : Int × Int := bif s.isEmpty then (65533, 0) else (((Utf8.decode ⟨s.toArray⟩ 0).1 : Int), ((Utf8.decode ⟨s.toArray⟩ 0).2 : Int))

def hx (n : Nat) : UInt8 := UInt8.ofNat (bif Nat.blt n 10 then 48 + n else 87 + n)
def esc (a : UInt8) : List UInt8 := [92, 120, hx (a.toNat / 16), hx (a.toNat % 16)]
def escs (b : List UInt8) : List UInt8 := (b.map esc).flatten
/-- Does a rune stand for itself? -/
def self (r : Nat) : Bool := (Nat.blt 32 r && Nat.blt r 127 && !(r == 34) && !(r == 92)) || Nat.blt 160 r
def rn (b : List UInt8) (i : Nat) : Nat := (Utf8.decode ⟨b.toArray⟩ i).1
/-- How the piece at a place is written. -/
def wri (b : List UInt8) (i : Nat) : List UInt8 :=
  bif rn b i == 65533 && sz b i == 1 then esc (b.getD i 0) else
  bif rn b i == 10 then [92, 110] else bif rn b i == 9 then [92, 116] else bif rn b i == 32 then [92, 115] else bif rn b i == 34 then [92, 34] else bif rn b i == 92 then [92, 92] else
  bif self (rn b i) then ext b (i : Int) ((i + sz b i : Nat) : Int) else escs (ext b (i : Int) ((i + sz b i : Nat) : Int))

/-- Pieces, from a place on. -/
def qFrom (b : List UInt8) : Nat → Nat → List UInt8
  | 0, _ => []
  | n + 1, i => bif Nat.blt i b.length then wri b i ++ qFrom b n (i + sz b i) else []
/-- A text, quoted. -/
def quote (b : List UInt8) : List UInt8 := 34 :: (qFrom b b.length 0 ++ [34])

/-- strings.IndexByte -/
def idx : List UInt8 → UInt8 → Int
  | [], _ => -1
  | b :: l, c => if b == c then 0 else if idx l c == -1 then -1 else idx l c + 1

theorem decode_drop (b : List UInt8) (i : Nat) : Utf8.decode ⟨(b.drop i).toArray⟩ 0 = Utf8.decode ⟨b.toArray⟩ i := by
  have hs : ∀ k, (decide (0 + k < (ByteArray.mk (b.drop i).toArray).size)) = decide (i + k < (ByteArray.mk b.toArray).size) := by
    intro k
    apply decide_eq_decide.2
    simp only [← ByteArray.size_data, List.size_toArray, List.length_drop]; omega
  have hb : ∀ k, byt (b.drop i) (0 + k) = byt b (i + k) := by
    intro k
    unfold byt
    simp only [List.getD_eq_getElem?_getD, List.getElem?_drop, Nat.zero_add]
  unfold Utf8.decode
  simp only [get_byt, hs, hb]

theorem decode_small (b : List UInt8) (i : Nat) (h : rn b i < 128) : sz b i = 1 ∧ rn b i = byt b i := by
  unfold rn sz at *
  revert h
  unfold Utf8.decode
  simp only [get_byt, Utf8.runeError, Nat.add_zero]
  split
  · intro _; exact ⟨rfl, rfl⟩
  · have := byt_lt b i
    have := byt_lt b (i + 1)
    have := byt_lt b (i + 2)
    have := byt_lt b (i + 3)
    split
    · split
      · intro h; simp only at h; omega
      · intro h; simp at h
    · split
      · split
        · rename_i h1 h2; intro h; simp only [ge_iff_le, Bool.and_eq_true, decide_eq_true_eq] at h2; simp only at h; omega
        · intro h; simp at h
      · split
        · split
          · rename_i h1 h2; intro h; simp only [ge_iff_le, Bool.and_eq_true, decide_eq_true_eq] at h2; simp only at h; omega
          · intro h; simp at h
        · intro h; simp at h

theorem decode_le (b : List UInt8) (i : Nat) (hi : i < b.length) : i + sz b i ≤ b.length := by
  have hs : (ByteArray.mk b.toArray).size = b.length := by simp [← ByteArray.size_data]
  unfold sz Utf8.decode
  simp only [hs]
  split
  · simp only; omega
  · split
    · rename_i h; simp only [Bool.and_eq_true, decide_eq_true_eq] at h
      split <;> simp only <;> omega
    · split
      · rename_i h; simp only [Bool.and_eq_true, decide_eq_true_eq] at h
        split <;> simp only <;> omega
      · split
        · rename_i h; simp only [Bool.and_eq_true, decide_eq_true_eq] at h
          split <;> simp only <;> omega
        · simp only; omega

theorem rn_lt (b : List UInt8) (i : Nat) : rn b i < 2097152 := by
  have := byt_lt b i
  have := byt_lt b (i + 1)
  have := byt_lt b (i + 2)
  have := byt_lt b (i + 3)
  unfold rn Utf8.decode
  simp only [get_byt, Nat.add_zero, Utf8.runeError]
  repeat' split
  all_goals simp only
  all_goals omega

theorem ext_drop (b : List UInt8) (i : Nat) : ext b (i : Int) (b.length : Int) = b.drop i := by
  unfold ext win
  simp only [Int.toNat_natCast]
  rw [List.take_of_length_le]
  simp

theorem ext_len (b : List UInt8) (i j : Nat) (h : j ≤ b.length) : (ext b (i : Int) (j : Int)).length = j - i := by
  unfold ext win
  simp only [Int.toNat_natCast, List.length_take, List.length_drop]
  omega

theorem ext_get (b : List UInt8) (i j k : Nat) (h : j ≤ b.length) (hk : k < j - i) : (ext b (i : Int) (j : Int)).getD k 0 = b.getD (i + k) 0 := by
  unfold ext
  simp only [Int.toNat_natCast, List.getD_eq_getElem?_getD, win_get, if_pos hk]

theorem esc_len (a : UInt8) : (esc a).length = 4 := rfl
theorem escs_len (b : List UInt8) : (escs b).length = 4 * b.length := by
  induction b with
  | nil => rfl
  | cons a b ih =>
    have : escs (a :: b) = esc a ++ escs b := rfl
    rw [this, List.length_append, ih, esc_len, List.length_cons]; omega

theorem wri_len (b : List UInt8) (i : Nat) (hi : i < b.length) : (wri b i).length ≤ 4 * sz b i := by
  have h1 := (sz_bd b i).1
  have h2 := decode_le b i hi
  have e1 := ext_len b i (i + sz b i) h2
  have e2 := escs_len (ext b (i : Int) ((i + sz b i : Nat) : Int))
  rw [e1] at e2
  have e3 := esc_len (b.getD i 0)
  unfold wri
  cases (rn b i == 65533 && sz b i == 1) <;> cases (rn b i == 10) <;> cases (rn b i == 9) <;> cases (rn b i == 32) <;> cases (rn b i == 34) <;> cases (rn b i == 92) <;> cases (self (rn b i)) <;>
    simp only [cond_true, cond_false, e1, e2, e3, List.length_cons, List.length_nil] <;> omega

theorem qFrom_len (b : List UInt8) : ∀ (n i : Nat), i ≤ b.length → (qFrom b n i).length + 4 * i ≤ 4 * b.length
  | 0, i, h => by simp only [qFrom, List.length_nil]; omega
  | n + 1, i, h => by
    simp only [qFrom]
    cases e : Nat.blt i b.length
    · simp only [cond_false, List.length_nil]; omega
    · have hi : i < b.length := by simpa [Nat.blt_eq] using e
      have h1 := wri_len b i hi
      have h2 := decode_le b i hi
      have h3 := qFrom_len b n (i + sz b i) h2
      simp only [cond_true, List.length_append]
      omega

theorem quote_len (b : List UInt8) : (quote b).length ≤ 4 * b.length + 2 := by
  have := qFrom_len b b.length 0 (by omega)
  simp only [quote, List.length_cons, List.length_append, List.length_nil]
  omega
end NqG

/-! Quotes and words: plain specifications. -/
namespace Nq
open Go Lk NqG

abbrev R3 := List UInt8 × Int × Int × Unit
def bad (k : Nat) : R3 := ([], (k : Int), 61, ())

def bareB (c : UInt8) : Bool := (Nat.ble 97 c.toNat && Nat.ble c.toNat 122) || (Nat.ble 48 c.toNat && Nat.ble c.toNat 57) || c == 46 || c == 95 || c == 45
/-- The first byte that may not stand in a bare word. -/
def oddF (b : List UInt8) : Nat → Nat → Int
  | 0, _ => -1
  | n + 1, i => bif Nat.blt i b.length then (bif bareB (b.getD i 0) then oddF b n (i + 1) else (i : Int)) else -1
def oddS (b : List UInt8) : Int := oddF b b.length 0

def dg (c : UInt8) : Nat := bif Nat.ble 48 c.toNat && Nat.ble c.toNat 57 then c.toNat - 48 else bif Nat.ble 97 c.toNat && Nat.ble c.toNat 102 then c.toNat - 87 else 16
def dgAt (b : List UInt8) (i : Nat) : Nat := bif Nat.blt i b.length then dg (b.getD i 0) else 16

/-- An escape: what it means, how long it is; 0: it is none. -/
def escS (b : List UInt8) (i : Nat) : UInt8 × Nat :=
  bif Nat.blt (i + 1) b.length then
    let c := b.getD (i + 1) 0
    bif c == 110 then (10, 2) else bif c == 116 then (9, 2) else bif c == 115 then (32, 2) else bif c == 34 || c == 92 then (c, 2) else
    bif c == 120 then (bif Nat.blt (dgAt b (i + 2)) 16 && Nat.blt (dgAt b (i + 3)) 16 then (UInt8.ofNat (16 * dgAt b (i + 2) + dgAt b (i + 3)), 4) else (0, 0)) else (0, 0)
  else (0, 0)

/-- A quoted text, read. -/
def unqR (b : List UInt8) : Nat → Nat → List UInt8 → R3
  | 0, i, _ => bad i
  | n + 1, i, acc =>
    bif Nat.blt i b.length then
      let c := b.getD i 0
      bif c == 34 then (bif Nat.blt (i + 1) b.length then bad (i + 1) else bif quote acc == b then (acc, 0, 0, ()) else bad 0)
      else bif c == 92 then (bif (escS b i).2 == 0 then bad i else unqR b n (i + (escS b i).2) (acc ++ [(escS b i).1]))
      else bif (rn b i == 65533 && sz b i == 1) || !self (rn b i) then bad i
      else unqR b n (i + sz b i) (acc ++ ext b (i : Int) ((i + sz b i : Nat) : Int))
    else bad i
def unquote (b : List UInt8) : R3 := bif Nat.blt 0 b.length && b.getD 0 0 == 34 then unqR b b.length 1 [] else bad 0

def word (b : List UInt8) : List UInt8 := bif !b.isEmpty && decide (oddS b < 0) then b else quote b
def unword (b : List UInt8) : R3 :=
  bif Nat.blt 0 b.length && b.getD 0 0 == 34 then unquote b
  else bif b.isEmpty || decide (oddS b ≥ 0) then ([], imax (oddS b) 0, 61, ()) else (b, 0, 0, ())

theorem blt_t {a b : Nat} (h : a < b) : Nat.blt a b = true := by simpa [Nat.blt_eq] using h
theorem blt_f {a b : Nat} (h : ¬ a < b) : Nat.blt a b = false := by
  cases e : Nat.blt a b
  · rfl
  · exact absurd (by simpa [Nat.blt_eq] using e) h

theorem forall_u8 {p : UInt8 → Prop} (h : ∀ k : Fin 256, p (UInt8.ofNat k.val)) (a : UInt8) : p a := by
  have := h ⟨a.toNat, a.toNat_lt⟩
  simpa using this

theorem escS_le (b : List UInt8) (i : Nat) : i + (escS b i).2 ≤ max i b.length := by
  unfold escS
  by_cases h : i + 1 < b.length
  · rw [blt_t h]
    simp only [cond_true]
    have hx : ∀ q : Bool, (Nat.blt (dgAt b (i + 2)) 16 && Nat.blt (dgAt b (i + 3)) 16) = q → q = true → i + 3 < b.length := by
      intro q h1 h2
      rw [h2, Bool.and_eq_true] at h1
      have := h1.2
      unfold dgAt at this
      by_cases h3 : i + 3 < b.length
      · exact h3
      · rw [blt_f h3] at this; simp [Nat.blt_eq] at this
    generalize (b.getD (i + 1) 0) = c
    cases (c == 110) <;> cases (c == 116) <;> cases (c == 115) <;> cases (c == 34 || c == 92) <;> cases (c == 120) <;> simp only [cond_true, cond_false] <;> try omega
    cases hq : (Nat.blt (dgAt b (i + 2)) 16 && Nat.blt (dgAt b (i + 3)) 16)
    · simp only [cond_false]; omega
    · have := hx _ hq rfl
      simp only [cond_true]; omega
  · rw [blt_f h]; simp only [cond_false]; omega
end Nq

namespace NqG
open Go
/-- strconv.Atoi: the number, and: is there an error? -/
noncomputable def atoi (l : List UInt8) : Int × Bool := match Lib.atoiAll l with | .ok v => (v, false) | Lib.NumEnd.syntax => (0, true) | .range => (Lib.atoiSat l, true)
end NqG

