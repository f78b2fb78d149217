import Derived.Test.YthfhbbhacaejoaaDoorLkThree
import Derived.Test.YthfhbbhacaejoaaDoorProg
import Derived.Shelf.Strings.Builder1
import Derived.Shelf.Small.Strs
import Derived.Shelf.Strings.BuilderF
import Derived.Shelf.Strings.BuilderK
import Derived.Shelf.Utf8.RuneCount
import Derived.Shelf.Strings.Search1
import Derived.Shelf.Strings.Search2
import Derived.Shelf.Strings.Search3
import Derived.Shelf.Strings.Count
import Derived.Shelf.LaysM
import Derived.Shelf.Strings.Shaped
import Derived.Shelf.Strings.Split
import Derived.Shelf.Strings.SplitShaped
import Derived.Shelf.Unicode.Decode
import Derived.Shelf.Strings.RuneCount
import Derived.Shelf.Strings.Explode
import Derived.Shelf.Unicode.DecodeSlow
import Derived.Shelf.Unicode.DecodeAny
import Derived.WalkKit
import Derived.BigCall
import Derived.ProofKit
set_option linter.all false
/-! What the functions told from without say: plain. -/
namespace NqG
open Go Lk
def e37 (s : List UInt8) : Int × Int := bif s.isEmpty then (65533, 0) else (((Utf8.decode ⟨s.toArray⟩ 0).1 : Int), ((Utf8.decode ⟨s.toArray⟩ 0).2 : Int))

def hx (n : Nat) : UInt8 := UInt8.ofNat (bif Nat.blt n 10 then 48 + n else 87 + n)
def esc (a : UInt8) : List UInt8 := [92, 120, hx (a.toNat / 16), hx (a.toNat % 16)]
def escs (b : List UInt8) : List UInt8 := (b.map esc).flatten
def self (r : Nat) : Bool := (Nat.blt 32 r && Nat.blt r 127 && !(r == 34) && !(r == 92)) || Nat.blt 160 r
def rn (b : List UInt8) (i : Nat) : Nat := (Utf8.decode ⟨b.toArray⟩ i).1
def wri (b : List UInt8) (i : Nat) : List UInt8 :=
  bif rn b i == 65533 && sz b i == 1 then esc (b.getD i 0) else
  bif rn b i == 10 then [92, 110] else bif rn b i == 9 then [92, 116] else bif rn b i == 32 then [92, 115] else bif rn b i == 34 then [92, 34] else bif rn b i == 92 then [92, 92] else
  bif self (rn b i) then ext b (i : Int) ((i + sz b i : Nat) : Int) else escs (ext b (i : Int) ((i + sz b i : Nat) : Int))

def qFrom (b : List UInt8) : Nat → Nat → List UInt8
  | 0, _ => []
  | n + 1, i => bif Nat.blt i b.length then wri b i ++ qFrom b n (i + sz b i) else []
def quote (b : List UInt8) : List UInt8 := 34 :: (qFrom b b.length 0 ++ [34])

def idx : List UInt8 → UInt8 → Int
  | [], _ => -1
  | b :: l, c => if b == c then 0 else if idx l c == -1 then -1 else idx l c + 1

theorem decode_drop (b : List UInt8) (i : Nat) : Utf8.decode ⟨(b.drop i).toArray⟩ 0 = Utf8.decode ⟨b.toArray⟩ i := by
  have hs : ∀ k, (decide (0 + k < (ByteArray.mk (b.drop i).toArray).size)) = decide (i + k < (ByteArray.mk b.toArray).size) := by
    intro k
    apply decide_eq_decide.2
    simp only [← ByteArray.size_data, List.size_toArray, List.length_drop]; omega
  have hb : ∀ k, byt (b.drop i) (0 + k) = byt b (i + k) := by
    intro k
    unfold byt
    simp only [List.getD_eq_getElem?_getD, List.getElem?_drop, Nat.zero_add]
  unfold Utf8.decode
  simp only [get_byt, hs, hb]

theorem decode_small (b : List UInt8) (i : Nat) (h : rn b i < 128) : sz b i = 1 ∧ rn b i = byt b i := by
  unfold rn sz at *
  revert h
  unfold Utf8.decode
  simp only [get_byt, Utf8.runeError, Nat.add_zero]
  split
  · intro _; exact ⟨rfl, rfl⟩
  · have := byt_lt b i
    have := byt_lt b (i + 1)
    have := byt_lt b (i + 2)
    have := byt_lt b (i + 3)
    split
    · split
      · intro h; simp only at h; omega
      · intro h; simp at h
    · split
      · split
        · rename_i h1 h2; intro h; simp only [ge_iff_le, Bool.and_eq_true, decide_eq_true_eq] at h2; simp only at h; omega
        · intro h; simp at h
      · split
        · split
          · rename_i h1 h2; intro h; simp only [ge_iff_le, Bool.and_eq_true, decide_eq_true_eq] at h2; simp only at h; omega
          · intro h; simp at h
        · intro h; simp at h

theorem decode_le (b : List UInt8) (i : Nat) (hi : i < b.length) : i + sz b i ≤ b.length := by
  have hs : (ByteArray.mk b.toArray).size = b.length := by simp [← ByteArray.size_data]
  unfold sz Utf8.decode
  simp only [hs]
  split
  · simp only; omega
  · split
    · rename_i h; simp only [Bool.and_eq_true, decide_eq_true_eq] at h
      split <;> simp only <;> omega
    · split
      · rename_i h; simp only [Bool.and_eq_true, decide_eq_true_eq] at h
        split <;> simp only <;> omega
      · split
        · rename_i h; simp only [Bool.and_eq_true, decide_eq_true_eq] at h
          split <;> simp only <;> omega
        · simp only; omega

theorem rn_lt (b : List UInt8) (i : Nat) : rn b i < 2097152 := by
  have := byt_lt b i
  have := byt_lt b (i + 1)
  have := byt_lt b (i + 2)
  have := byt_lt b (i + 3)
  unfold rn Utf8.decode
  simp only [get_byt, Nat.add_zero, Utf8.runeError]
  repeat' split
  all_goals simp only
  all_goals omega

theorem ext_drop (b : List UInt8) (i : Nat) : ext b (i : Int) (b.length : Int) = b.drop i := by
  unfold ext win
  simp only [Int.toNat_natCast]
  rw [List.take_of_length_le]
  simp

theorem ext_len (b : List UInt8) (i j : Nat) (h : j ≤ b.length) : (ext b (i : Int) (j : Int)).length = j - i := by
  unfold ext win
  simp only [Int.toNat_natCast, List.length_take, List.length_drop]
  omega

theorem ext_get (b : List UInt8) (i j k : Nat) (h : j ≤ b.length) (hk : k < j - i) : (ext b (i : Int) (j : Int)).getD k 0 = b.getD (i + k) 0 := by
  unfold ext
  simp only [Int.toNat_natCast, List.getD_eq_getElem?_getD, win_get, if_pos hk]

theorem esc_len (a : UInt8) : (esc a).length = 4 := rfl
theorem escs_len (b : List UInt8) : (escs b).length = 4 * b.length := by
  induction b with
  | nil => rfl
  | cons a b ih =>
    have : escs (a :: b) = esc a ++ escs b := rfl
    rw [this, List.length_append, ih, esc_len, List.length_cons]; omega

theorem wri_len (b : List UInt8) (i : Nat) (hi : i < b.length) : (wri b i).length ≤ 4 * sz b i := by
  have h1 := (sz_bd b i).1
  have h2 := decode_le b i hi
  have e1 := ext_len b i (i + sz b i) h2
  have e2 := escs_len (ext b (i : Int) ((i + sz b i : Nat) : Int))
  rw [e1] at e2
  have e3 := esc_len (b.getD i 0)
  unfold wri
  cases (rn b i == 65533 && sz b i == 1) <;> cases (rn b i == 10) <;> cases (rn b i == 9) <;> cases (rn b i == 32) <;> cases (rn b i == 34) <;> cases (rn b i == 92) <;> cases (self (rn b i)) <;>
    simp only [cond_true, cond_false, e1, e2, e3, List.length_cons, List.length_nil] <;> omega

theorem qFrom_len (b : List UInt8) : ∀ (n i : Nat), i ≤ b.length → (qFrom b n i).length + 4 * i ≤ 4 * b.length
  | 0, i, h => by simp only [qFrom, List.length_nil]; omega
  | n + 1, i, h => by
    simp only [qFrom]
    cases e : Nat.blt i b.length
    · simp only [cond_false, List.length_nil]; omega
    · have hi : i < b.length := by simpa [Nat.blt_eq] using e
      have h1 := wri_len b i hi
      have h2 := decode_le b i hi
      have h3 := qFrom_len b n (i + sz b i) h2
      simp only [cond_true, List.length_append]
      omega

theorem quote_len (b : List UInt8) : (quote b).length ≤ 4 * b.length + 2 := by
  have := qFrom_len b b.length 0 (by omega)
  simp only [quote, List.length_cons, List.length_append, List.length_nil]
  omega
end NqG

/-! Lines of scripts: what the functions of script that are told from without say. -/
namespace ScM

def digitB (c : UInt8) : Bool := decide (48 ≤ c.toNat) && decide (c.toNat ≤ 57)
def numGo : List UInt8 → Nat → Bool → Option Nat
  | [], a, _ => some a
  | c :: l, a, first => bif digitB c && (first || !(a == 0)) then (bif Nat.blt 268435456 (a * 10 + (c.toNat - 48)) then none else numGo l (a * 10 + (c.toNat - 48)) false) else none
def numOf (w : List UInt8) : Option Nat := bif w.isEmpty then none else numGo w 0 true
def isNum (w : List UInt8) : Bool := (numOf w).isSome

def fields : List (List UInt8) := [
  [98, 108, 111, 99, 107], [109, 101, 109], [102, 114, 111, 122, 101, 110], [112, 97, 103, 101], [114, 101, 115, 116, 97, 114, 116], [98, 105, 116, 115], [99, 117, 116],
  [102, 105, 108, 101, 115, 48], [115, 116, 111, 112, 48], [98, 97, 115, 101], [114, 97, 116, 105, 111], [108, 101, 118, 101, 108, 115], [99, 104, 117, 110, 107], [114, 111, 108, 108], [99, 108, 105, 101, 110, 116, 115]]
def heights : List UInt8 := [104, 101, 105, 103, 104, 116, 115]
def isSet (ws : List (List UInt8)) : Bool :=
  bif Nat.blt ws.length 2 || !((ws.drop 1).all isNum) then false
  else bif ws.getD 0 [] == heights then Nat.ble ws.length 65
  else ws.length == 2 && fields.contains (ws.getD 0 [])

def spl : List UInt8 → List UInt8 → List (List UInt8)
  | acc, [] => [acc]
  | acc, c :: l => bif c == 10 then acc :: spl [] l else spl (acc ++ [c]) l
def splitL (s : List UInt8) : List (List UInt8) := spl [] s

def asHook (st : Lk.St) : Option Lk.St := match Lk.look st 10, st.getD 11 .dead with
  | some ⟨.e, _, x⟩, .av ⟨.p (.c (.i .i64) .u), .o _, some _⟩ => bif Nat.blt 31 st.length then
      (Lk.setD (Lk.drop st 11) (some 29) .dead).bind fun s1 => (Lk.setD s1 (some 30) .dead).bind fun s2 => Lk.setD s2 (some 31) (.av (Lk.mkB x))
    else none
  | _, _ => none

end ScM

namespace ScG
open Go Lk
noncomputable def tys : BT (Ty × Md) := (.node (.node (.node (.node (.node (.node (.node (.node .leaf 1 (.z .fn, .r) .leaf) 2 (.i .i64, .r) .leaf) 3 (.i .i64, .r) (.node .leaf 4 (.b, .r) .leaf)) 5 (.by, .r) (.node (.node (.node .leaf 6 (.by, .r) .leaf) 7 (.c (.i .i64) (.c (.i .i64) (.c (.b) (.c (.by) (.u)))), (.q .r (.q .r (.q .r (.q .r .r))))) .leaf) 8 (.c (.i .i64) (.c (.i .i64) (.c (.b) (.c (.by) (.u)))), (.q .r (.q .r (.q .r (.q .r .r))))) (.node .leaf 9 (.s, .r) .leaf))) 10 (.s, .r) (.node (.node (.node (.node .leaf 11 (.s, .r) .leaf) 12 (.i .u64, .r) .leaf) 13 (.c (.s) (.c (.i .u64) (.u)), (.q .r (.q .r .r))) (.node .leaf 14 (.c (.s) (.c (.i .u64) (.u)), (.q .r (.q .r .r))) .leaf)) 15 (.p (.c (.p (.c (.i .u64) (.c (.i .u64) (.c (.i .u32) (.c (.by) (.c (.by) (.c (.by) (.c (.by) (.c (.z .fn) (.c (.p (.by)) (.c (.i .i32) (.c (.i .i32) (.u))))))))))))) (.c (.p (.c (.i .u64) (.c (.i .u64) (.c (.i .u32) (.c (.by) (.c (.by) (.c (.by) (.c (.by) (.c (.z .fn) (.c (.p (.by)) (.c (.i .i32) (.c (.i .i32) (.u))))))))))))) (.c (.p (.c (.i .u64) (.c (.i .u64) (.c (.i .u32) (.c (.by) (.c (.by) (.c (.by) (.c (.by) (.c (.z .fn) (.c (.p (.by)) (.c (.i .i32) (.c (.i .i32) (.u))))))))))))) (.c (.s) (.u))))), (.o (.q (.o (.q .r (.q .r (.q .r (.q .r (.q .r (.q .r (.q .r (.q .r (.q (.o .r) (.q .r (.q .r .r)))))))))))) (.q (.o (.q .r (.q .r (.q .r (.q .r (.q .r (.q .r (.q .r (.q .r (.q (.o .r) (.q .r (.q .r .r)))))))))))) (.q (.o (.q .r (.q .r (.q .r (.q .r (.q .r (.q .r (.q .r (.q .r (.q (.o .r) (.q .r (.q .r .r)))))))))))) (.q .r .r)))))) (.node (.node .leaf 16 (.z .pt, .r) .leaf) 17 (.p (.c (.i .u64) (.c (.i .u64) (.c (.i .u32) (.c (.by) (.c (.by) (.c (.by) (.c (.by) (.c (.z .fn) (.c (.p (.by)) (.c (.i .i32) (.c (.i .i32) (.u)))))))))))), (.o (.q .r (.q .r (.q .r (.q .r (.q .r (.q .r (.q .r (.q .r (.q (.o .r) (.q .r (.q .r .r))))))))))))) (.node .leaf 18 (.c (.p (.c (.i .u64) (.c (.i .u64) (.c (.i .u32) (.c (.by) (.c (.by) (.c (.by) (.c (.by) (.c (.z .fn) (.c (.p (.by)) (.c (.i .i32) (.c (.i .i32) (.u))))))))))))) (.u), (.q (.o (.q .r (.q .r (.q .r (.q .r (.q .r (.q .r (.q .r (.q .r (.q (.o .r) (.q .r (.q .r .r)))))))))))) .r)) .leaf)))) 19 (.c (.p (.c (.i .u64) (.c (.i .u64) (.c (.i .u32) (.c (.by) (.c (.by) (.c (.by) (.c (.by) (.c (.z .fn) (.c (.p (.by)) (.c (.i .i32) (.c (.i .i32) (.u))))))))))))) (.u), (.q (.o (.q .r (.q .r (.q .r (.q .r (.q .r (.q .r (.q .r (.q .r (.q (.o .r) (.q .r (.q .r .r)))))))))))) .r)) (.node (.node (.node (.node (.node .leaf 20 (.e, .r) .leaf) 21 (.i .i32, .r) .leaf) 22 (.l (.c (.s) (.c (.l (.s)) (.u))), (.o (.q .r (.q (.o .r) .r)))) (.node .leaf 23 (.i .i64, .r) .leaf)) 25 (.z .fn, .r) (.node (.node (.node .leaf 26 (.l (.c (.i .i64) (.c (.s) (.c (.l (.s)) (.u)))), (.o (.q .r (.q .r (.q (.o .r) .r))))) .leaf) 28 (.z .fn, .r) .leaf) 29 (.l (.s), (.o .r)) (.node .leaf 30 (.c (.s) (.c (.l (.s)) (.u)), (.q .r (.q (.o .r) .r))) .leaf))) 31 (.c (.s) (.c (.l (.s)) (.u)), (.q .r (.q (.o .r) .r))) (.node (.node (.node (.node .leaf 32 (.c (.i .i64) (.c (.s) (.c (.l (.s)) (.u))), (.q .r (.q .r (.q (.o .r) .r)))) .leaf) 33 (.c (.i .i64) (.c (.s) (.c (.l (.s)) (.u))), (.q .r (.q .r (.q (.o .r) .r)))) .leaf) 34 (.z .fn, .r) (.node .leaf 35 (.z .fn, .r) .leaf)) 36 (.z .fn, .r) (.node (.node .leaf 37 (.z .fn, .r) .leaf) 38 (.l (.c (.c (.s) (.c (.l (.s)) (.u))) (.c (.i .i64) (.u))), (.o (.q (.q .r (.q (.o .r) .r)) (.q .r .r)))) (.node .leaf 40 (.z .fn, .r) .leaf))))) 41 (.c (.c (.s) (.c (.l (.s)) (.u))) (.c (.i .i64) (.u)), (.q (.q .r (.q (.o .r) .r)) (.q .r .r))) (.node (.node (.node (.node (.node (.node .leaf 42 (.c (.c (.s) (.c (.l (.s)) (.u))) (.c (.i .i64) (.u)), (.q (.q .r (.q (.o .r) .r)) (.q .r .r))) .leaf) 43 (.z .fn, .r) .leaf) 45 (.z .fn, .r) (.node .leaf 47 (.z .fn, .r) .leaf)) 48 (.z .fn, .r) (.node (.node (.node .leaf 49 (.z .fn, .r) .leaf) 50 (.p (.c (.p (.c (.p (.c (.p (.c (.p (.c (.z .pt) (.c (.l (.by)) (.u)))) (.c (.l (.by)) (.u)))) (.c (.l (.by)) (.u)))) (.c (.l (.by)) (.u)))) (.c (.l (.by)) (.u))), (.o (.q (.o (.q (.o (.q (.o (.q (.o (.q .r (.q (.o .r) .r))) (.q (.o .r) .r))) (.q (.o .r) .r))) (.q (.o .r) .r))) (.q (.o .r) .r)))) .leaf) 51 (.l (.by), (.o .r)) (.node .leaf 52 (.c (.p (.c (.p (.c (.p (.c (.p (.c (.p (.c (.z .pt) (.c (.z .sl) (.u)))) (.c (.l (.by)) (.u)))) (.c (.l (.by)) (.u)))) (.c (.l (.by)) (.u)))) (.c (.l (.by)) (.u)))) (.c (.l (.by)) (.u)), (.q (.o (.q (.o (.q (.o (.q (.o (.q (.o (.q .r (.q .r .r))) (.q (.o .r) .r))) (.q (.o .r) .r))) (.q (.o .r) .r))) (.q (.o .r) .r))) (.q (.o .r) .r))) .leaf))) 53 (.c (.p (.c (.p (.c (.p (.c (.p (.c (.p (.c (.z .pt) (.c (.z .sl) (.u)))) (.c (.l (.by)) (.u)))) (.c (.l (.by)) (.u)))) (.c (.l (.by)) (.u)))) (.c (.l (.by)) (.u)))) (.c (.l (.by)) (.u)), (.q (.o (.q (.o (.q (.o (.q (.o (.q (.o (.q .r (.q .r .r))) (.q (.o .r) .r))) (.q (.o .r) .r))) (.q (.o .r) .r))) (.q (.o .r) .r))) (.q (.o .r) .r))) (.node (.node (.node (.node .leaf 54 (.e, .r) .leaf) 55 (.e, .r) .leaf) 56 (.z .fn, .r) (.node .leaf 58 (.z .fn, .r) .leaf)) 60 (.z .fn, .r) (.node (.node .leaf 61 (.z .fn, .r) .leaf) 62 (.z .fn, .r) (.node .leaf 64 (.z .fn, .r) .leaf)))) 65 (.c (.i .i64) (.u), (.q .r .r)) (.node (.node (.node (.node (.node .leaf 66 (.c (.i .i64) (.u), (.q .r .r)) .leaf) 67 (.z .fn, .r) .leaf) 68 (.p (.c (.i .i64) (.u)), (.o (.q .r .r))) (.node .leaf 69 (.z .fn, .r) .leaf)) 70 (.l (.c (.i .i64) (.c (.s) (.c (.s) (.u)))), (.o (.q .r (.q .r (.q .r .r))))) (.node (.node .leaf 72 (.z .fn, .r) .leaf) 74 (.z .fn, .r) (.node .leaf 75 (.z .fn, .r) .leaf))) 77 (.z .fn, .r) (.node (.node (.node (.node .leaf 78 (.z .fn, .r) .leaf) 79 (.z .fn, .r) .leaf) 80 (.p (.by), (.o .r)) (.node .leaf 81 (.z .fn, .r) .leaf)) 83 (.z .fn, .r) (.node (.node .leaf 85 (.z .fn, .r) .leaf) 87 (.i .u64, .r) (.node .leaf 90 (.z .fn, .r) .leaf)))))) 91 (.e, .r) (.node (.node (.node (.node (.node (.node (.node .leaf 92 (.e, .r) .leaf) 93 (.z .fn, .r) .leaf) 94 (.by, .r) (.node .leaf 95 (.z .fn, .r) .leaf)) 96 (.z .fn, .r) (.node (.node (.node .leaf 97 (.z .fn, .r) .leaf) 99 (.z .fn, .r) .leaf) 100 (.i .u32, .r) (.node .leaf 102 (.z .fn, .r) .leaf))) 103 (.z .fn, .r) (.node (.node (.node (.node .leaf 104 (.c (.i .i64) (.c (.s) (.c (.s) (.u))), (.q .r (.q .r (.q .r .r)))) .leaf) 105 (.c (.i .i64) (.c (.s) (.c (.s) (.u))), (.q .r (.q .r (.q .r .r)))) .leaf) 106 (.z .fn, .r) (.node .leaf 107 (.i .u64, .r) .leaf)) 108 (.z .fn, .r) (.node (.node .leaf 109 (.z .fn, .r) .leaf) 110 (.z .fn, .r) (.node .leaf 111 (.z .fn, .r) .leaf)))) 112 (.c (.p (.c (.i .u64) (.c (.i .u64) (.c (.i .u32) (.c (.by) (.c (.by) (.c (.by) (.c (.by) (.c (.z .fn) (.c (.p (.by)) (.c (.i .i32) (.c (.i .i32) (.u))))))))))))) (.u), (.q (.o (.q .r (.q .r (.q .r (.q .r (.q .r (.q .r (.q .r (.q .r (.q (.o .r) (.q .r (.q .r .r)))))))))))) .r)) (.node (.node (.node (.node (.node .leaf 113 (.c (.p (.c (.i .u64) (.c (.i .u64) (.c (.i .u32) (.c (.by) (.c (.by) (.c (.by) (.c (.by) (.c (.z .fn) (.c (.p (.by)) (.c (.i .i32) (.c (.i .i32) (.u))))))))))))) (.u), (.q (.o (.q .r (.q .r (.q .r (.q .r (.q .r (.q .r (.q .r (.q .r (.q (.o .r) (.q .r (.q .r .r)))))))))))) .r)) .leaf) 114 (.p (.c (.s) (.c (.by) (.u))), (.o (.q .r (.q .r .r)))) .leaf) 115 (.z .fn, .r) (.node .leaf 116 (.z .fn, .r) .leaf)) 117 (.z .fn, .r) (.node (.node .leaf 118 (.e, .r) .leaf) 120 (.z .fn, .r) (.node .leaf 121 (.e, .r) .leaf))) 122 (.z .fn, .r) (.node (.node (.node (.node .leaf 123 (.e, .r) .leaf) 124 (.l (.e), (.o .r)) .leaf) 125 (.z .fn, .r) (.node .leaf 126 (.z .fn, .r) .leaf)) 127 (.z .fn, .r) (.node (.node .leaf 129 (.c (.by) (.c (.by) (.u)), (.q .r (.q .r .r))) .leaf) 130 (.c (.by) (.c (.by) (.u)), (.q .r (.q .r .r))) (.node .leaf 132 (.z .fn, .r) .leaf))))) 133 (.c (.i .i64) (.c (.i .i64) (.c (.i .i64) (.u))), (.q .r (.q .r (.q .r .r)))) (.node (.node (.node (.node (.node (.node .leaf 134 (.c (.i .i64) (.c (.i .i64) (.c (.i .i64) (.u))), (.q .r (.q .r (.q .r .r)))) .leaf) 135 (.l (.i .i64), (.o .r)) .leaf) 136 (.c (.i .i64) (.c (.i .i64) (.c (.i .i64) (.c (.c (.i .i64) (.c (.i .i64) (.c (.i .i64) (.u)))) (.c (.i .i64) (.c (.i .i64) (.c (.i .i64) (.c (.i .i64) (.c (.i .i64) (.c (.i .i64) (.c (.i .i64) (.c (.i .i64) (.c (.i .i64) (.c (.l (.i .i64)) (.u)))))))))))))), (.q .r (.q .r (.q .r (.q (.q .r (.q .r (.q .r .r))) (.q .r (.q .r (.q .r (.q .r (.q .r (.q .r (.q .r (.q .r (.q .r (.q (.o .r) .r))))))))))))))) (.node .leaf 137 (.c (.i .i64) (.c (.i .i64) (.c (.i .i64) (.c (.c (.i .i64) (.c (.i .i64) (.c (.i .i64) (.u)))) (.c (.i .i64) (.c (.i .i64) (.c (.i .i64) (.c (.i .i64) (.c (.i .i64) (.c (.i .i64) (.c (.i .i64) (.c (.i .i64) (.c (.i .i64) (.c (.l (.i .i64)) (.u)))))))))))))), (.q .r (.q .r (.q .r (.q (.q .r (.q .r (.q .r .r))) (.q .r (.q .r (.q .r (.q .r (.q .r (.q .r (.q .r (.q .r (.q .r (.q (.o .r) .r))))))))))))))) .leaf)) 138 (.c (.c (.i .i64) (.c (.i .i64) (.c (.i .i64) (.c (.c (.i .i64) (.c (.i .i64) (.c (.i .i64) (.u)))) (.c (.i .i64) (.c (.i .i64) (.c (.i .i64) (.c (.i .i64) (.c (.i .i64) (.c (.i .i64) (.c (.i .i64) (.c (.i .i64) (.c (.i .i64) (.c (.l (.i .i64)) (.u))))))))))))))) (.u), (.q (.q .r (.q .r (.q .r (.q (.q .r (.q .r (.q .r .r))) (.q .r (.q .r (.q .r (.q .r (.q .r (.q .r (.q .r (.q .r (.q .r (.q (.o .r) .r)))))))))))))) .r)) (.node (.node (.node .leaf 139 (.c (.c (.i .i64) (.c (.i .i64) (.c (.i .i64) (.c (.c (.i .i64) (.c (.i .i64) (.c (.i .i64) (.u)))) (.c (.i .i64) (.c (.i .i64) (.c (.i .i64) (.c (.i .i64) (.c (.i .i64) (.c (.i .i64) (.c (.i .i64) (.c (.i .i64) (.c (.i .i64) (.c (.l (.i .i64)) (.u))))))))))))))) (.u), (.q (.q .r (.q .r (.q .r (.q (.q .r (.q .r (.q .r .r))) (.q .r (.q .r (.q .r (.q .r (.q .r (.q .r (.q .r (.q .r (.q .r (.q (.o .r) .r)))))))))))))) .r)) .leaf) 140 (.p (.i .i64), (.o .r)) .leaf) 141 (.z .fn, .r) (.node .leaf 142 (.z .fn, .r) .leaf))) 143 (.z .fn, .r) (.node (.node (.node (.node .leaf 144 (.p (.c (.c (.i .i64) (.c (.i .i64) (.c (.i .i64) (.c (.c (.i .i64) (.c (.i .i64) (.c (.i .i64) (.u)))) (.c (.i .i64) (.c (.i .i64) (.c (.i .i64) (.c (.i .i64) (.c (.i .i64) (.c (.i .i64) (.c (.i .i64) (.c (.i .i64) (.c (.i .i64) (.c (.l (.i .i64)) (.u))))))))))))))) (.u)), (.o (.q (.q .r (.q .r (.q .r (.q (.q .r (.q .r (.q .r .r))) (.q .r (.q .r (.q .r (.q .r (.q .r (.q .r (.q .r (.q .r (.q .r (.q (.o .r) .r)))))))))))))) .r))) .leaf) 146 (.z .fn, .r) .leaf) 147 (.c (.p (.c (.i .u64) (.c (.i .u64) (.c (.i .u32) (.c (.by) (.c (.by) (.c (.by) (.c (.by) (.c (.z .fn) (.c (.p (.by)) (.c (.i .i32) (.c (.i .i32) (.u))))))))))))) (.c (.p (.c (.i .u64) (.c (.i .u64) (.c (.i .u32) (.c (.by) (.c (.by) (.c (.by) (.c (.by) (.c (.z .fn) (.c (.p (.by)) (.c (.i .i32) (.c (.i .i32) (.u))))))))))))) (.c (.p (.c (.i .u64) (.c (.i .u64) (.c (.i .u32) (.c (.by) (.c (.by) (.c (.by) (.c (.by) (.c (.z .fn) (.c (.p (.by)) (.c (.i .i32) (.c (.i .i32) (.u))))))))))))) (.c (.s) (.u)))), (.q (.o (.q .r (.q .r (.q .r (.q .r (.q .r (.q .r (.q .r (.q .r (.q (.o .r) (.q .r (.q .r .r)))))))))))) (.q (.o (.q .r (.q .r (.q .r (.q .r (.q .r (.q .r (.q .r (.q .r (.q (.o .r) (.q .r (.q .r .r)))))))))))) (.q (.o (.q .r (.q .r (.q .r (.q .r (.q .r (.q .r (.q .r (.q .r (.q (.o .r) (.q .r (.q .r .r)))))))))))) (.q .r .r))))) (.node .leaf 148 (.c (.p (.c (.i .u64) (.c (.i .u64) (.c (.i .u32) (.c (.by) (.c (.by) (.c (.by) (.c (.by) (.c (.z .fn) (.c (.p (.by)) (.c (.i .i32) (.c (.i .i32) (.u))))))))))))) (.c (.p (.c (.i .u64) (.c (.i .u64) (.c (.i .u32) (.c (.by) (.c (.by) (.c (.by) (.c (.by) (.c (.z .fn) (.c (.p (.by)) (.c (.i .i32) (.c (.i .i32) (.u))))))))))))) (.c (.p (.c (.i .u64) (.c (.i .u64) (.c (.i .u32) (.c (.by) (.c (.by) (.c (.by) (.c (.by) (.c (.z .fn) (.c (.p (.by)) (.c (.i .i32) (.c (.i .i32) (.u))))))))))))) (.c (.s) (.u)))), (.q (.o (.q .r (.q .r (.q .r (.q .r (.q .r (.q .r (.q .r (.q .r (.q (.o .r) (.q .r (.q .r .r)))))))))))) (.q (.o (.q .r (.q .r (.q .r (.q .r (.q .r (.q .r (.q .r (.q .r (.q (.o .r) (.q .r (.q .r .r)))))))))))) (.q (.o (.q .r (.q .r (.q .r (.q .r (.q .r (.q .r (.q .r (.q .r (.q (.o .r) (.q .r (.q .r .r)))))))))))) (.q .r .r))))) .leaf)) 152 (.z .fn, .r) (.node (.node .leaf 153 (.z .fn, .r) .leaf) 154 (.by, .r) (.node .leaf 155 (.z .fn, .r) .leaf)))) 156 (.i .i32, .r) (.node (.node (.node (.node (.node .leaf 157 (.i .i32, .r) .leaf) 158 (.c (.i .u64) (.c (.i .u64) (.c (.i .u32) (.c (.by) (.c (.by) (.c (.by) (.c (.by) (.c (.z .fn) (.c (.p (.by)) (.c (.i .i32) (.c (.i .i32) (.u))))))))))), (.q .r (.q .r (.q .r (.q .r (.q .r (.q .r (.q .r (.q .r (.q (.o .r) (.q .r (.q .r .r)))))))))))) .leaf) 159 (.c (.i .u64) (.c (.i .u64) (.c (.i .u32) (.c (.by) (.c (.by) (.c (.by) (.c (.by) (.c (.z .fn) (.c (.p (.by)) (.c (.i .i32) (.c (.i .i32) (.u))))))))))), (.q .r (.q .r (.q .r (.q .r (.q .r (.q .r (.q .r (.q .r (.q (.o .r) (.q .r (.q .r .r)))))))))))) (.node .leaf 160 (.z .fn, .r) .leaf)) 161 (.z .fn, .r) (.node (.node .leaf 162 (.c (.s) (.c (.by) (.u)), (.q .r (.q .r .r))) .leaf) 163 (.c (.s) (.c (.by) (.u)), (.q .r (.q .r .r))) (.node .leaf 164 (.p (.c (.i .i32) (.c (.i .u16) (.c (.i .u16) (.c (.i .u32) (.c (.i .u32) (.u)))))), (.o (.q .r (.q .r (.q .r (.q .r (.q .r .r))))))) .leaf))) 165 (.z .fn, .r) (.node (.node (.node (.node .leaf 166 (.i .u16, .r) .leaf) 167 (.c (.i .i32) (.c (.i .u16) (.c (.i .u16) (.c (.i .u32) (.c (.i .u32) (.u))))), (.q .r (.q .r (.q .r (.q .r (.q .r .r)))))) .leaf) 168 (.c (.i .i32) (.c (.i .u16) (.c (.i .u16) (.c (.i .u32) (.c (.i .u32) (.u))))), (.q .r (.q .r (.q .r (.q .r (.q .r .r)))))) (.node .leaf 169 (.l (.c (.i .i32) (.c (.i .i32) (.c (.i .i32) (.c (.i .i32) (.u))))), (.o (.q .r (.q .r (.q .r (.q .r .r)))))) .leaf)) 170 (.i .i32, .r) (.node (.node .leaf 171 (.c (.i .i32) (.c (.i .i32) (.c (.i .i32) (.c (.i .i32) (.u)))), (.q .r (.q .r (.q .r (.q .r .r))))) .leaf) 172 (.c (.i .i32) (.c (.i .i32) (.c (.i .i32) (.c (.i .i32) (.u)))), (.q .r (.q .r (.q .r (.q .r .r))))) (.node .leaf 173 (.p (.e), (.o .r)) .leaf)))))))
noncomputable def sigs : BT Sig := (.node (.node (.node (.node (.node (.node .leaf 4 ⟨[(.s, .r), (.s, .r)], [(.b, .r)], 1⟩ .leaf) 5 ⟨[(.s, .r)], [(.l (.c (.s) (.c (.l (.s)) (.u))), (.o (.q .r (.q (.o .r) .r)))), (.i .i64, .r), (.i .i64, .r)], 3⟩ (.node .leaf 6 ⟨[(.s, .r)], [(.l (.c (.i .i64) (.c (.s) (.c (.l (.s)) (.u)))), (.o (.q .r (.q .r (.q (.o .r) .r))))), (.i .i64, .r), (.i .i64, .r)], 3⟩ .leaf)) 7 ⟨[], [(.b, .r)], 1⟩ (.node (.node .leaf 8 ⟨[(.s, .r)], [(.s, .r)], 1⟩ .leaf) 9 ⟨[(.s, .r)], [(.s, .r)], 1⟩ .leaf)) 10 ⟨[(.s, .r)], [(.l (.c (.c (.s) (.c (.l (.s)) (.u))) (.c (.i .i64) (.u))), (.o (.q (.q .r (.q (.o .r) .r)) (.q .r .r)))), (.i .i64, .r), (.i .i64, .r)], 3⟩ (.node (.node (.node .leaf 11 ⟨[(.s, .r)], [(.l (.s), (.o .r))], 1⟩ .leaf) 12 ⟨[(.s, .r)], [(.l (.s), (.o .r)), (.i .i64, .r), (.i .i64, .r)], 3⟩ (.node .leaf 13 ⟨[(.s, .r)], [(.s, .r), (.i .i64, .r), (.i .i64, .r)], 3⟩ .leaf)) 14 ⟨[(.s, .r), (.l (.s), .b)], [(.b, .r)], 1⟩ (.node (.node .leaf 15 ⟨[(.s, .r)], [(.i .i64, .r)], 1⟩ .leaf) 20 ⟨[(.s, .r), (.s, .r)], [(.l (.s), (.o .r))], 1⟩ .leaf))) 21 ⟨[(.s, .r)], [(.c (.s) (.c (.l (.s)) (.u)), (.q .r (.q (.o .r) .r))), (.b, .r), (.e, .r)], 3⟩ (.node (.node (.node (.node .leaf 23 ⟨[(.s, .r)], [(.s, .r), (.i .i64, .r), (.i .i64, .r)], 3⟩ .leaf) 24 ⟨[(.s, .r)], [(.i .i64, .r)], 1⟩ (.node .leaf 25 ⟨[(.l (.s), .b)], [(.b, .r)], 1⟩ .leaf)) 26 ⟨[(.s, .r)], [(.b, .r)], 1⟩ (.node (.node .leaf 27 ⟨[(.l (.s), .b)], [(.l (.c (.i .i64) (.c (.s) (.c (.s) (.u)))), (.o (.q .r (.q .r (.q .r .r))))), (.b, .r)], 2⟩ .leaf) 28 ⟨[(.s, .r)], [(.b, .r)], 1⟩ .leaf)) 29 ⟨[(.s, .r)], [(.i .i64, .r), (.b, .r)], 2⟩ (.node (.node (.node .leaf 30 ⟨[(.by, .r)], [(.b, .r)], 1⟩ .leaf) 32 ⟨[(.s, .r)], [(.i .i32, .r), (.i .i64, .r)], 2⟩ .leaf) 34 ⟨[(.i .i32, .r)], [(.b, .r)], 1⟩ (.node (.node .leaf 36 ⟨[(.s, .r)], [(.l (.s), (.o .r)), (.i .i64, .r), (.i .i64, .r)], 3⟩ .leaf) 37 ⟨[(.s, .r)], [(.s, .r), (.i .i64, .r), (.i .i64, .r)], 3⟩ .leaf)))) 38 ⟨[(.s, .r), (.l (.s), .b)], [(.b, .r)], 1⟩ (.node (.node (.node (.node (.node .leaf 43 ⟨[(.s, .r)], [(.s, .r)], 1⟩ .leaf) 44 ⟨[(.s, .r), (.i .i64, .r)], [(.by, .r), (.i .i64, .r)], 2⟩ (.node .leaf 45 ⟨[(.l (.by), .b), (.i .i64, .r)], [(.i .u32, .r), (.i .i64, .r)], 2⟩ .leaf)) 46 ⟨[(.i .u32, .r)], [(.b, .r)], 1⟩ (.node (.node .leaf 47 ⟨[(.s, .r)], [(.i .i64, .r), (.b, .r)], 2⟩ .leaf) 53 ⟨[(.s, .r), (.i .i64, .r)], [(.i .i64, .r), (.b, .r)], 2⟩ .leaf)) 54 ⟨[(.s, .r), (.s, .r)], [(.b, .r)], 1⟩ (.node (.node (.node .leaf 55 ⟨[(.s, .r)], [(.s, .r), (.i .i64, .r), (.i .i64, .r)], 3⟩ .leaf) 56 ⟨[(.l (.s), .b)], [(.b, .r)], 1⟩ .leaf) 57 ⟨[(.s, .r)], [(.b, .r)], 1⟩ (.node (.node .leaf 58 ⟨[(.l (.s), .b)], [(.b, .r)], 1⟩ .leaf) 59 ⟨[(.l (.s), .b)], [(.b, .r)], 1⟩ .leaf))) 60 ⟨[(.s, .r)], [(.l (.s), (.o .r))], 1⟩ (.node (.node (.node (.node .leaf 61 ⟨[(.l (.s), .b), (.s, .r)], [(.b, .r)], 1⟩ .leaf) 65 ⟨[(.l (.by), .b), (.i .i64, .r)], [(.s, .r), (.i .i64, .r)], 2⟩ (.node .leaf 66 ⟨[(.by, .r)], [(.i .i64, .r)], 1⟩ .leaf)) 70 ⟨[(.s, .r), (.s, .r)], [(.b, .r)], 1⟩ (.node (.node .leaf 71 ⟨[(.s, .r), (.i .i64, .r)], [(.by, .r), (.i .i64, .r)], 2⟩ .leaf) 73 ⟨[(.s, .r)], [(.i .i64, .r), (.b, .r)], 2⟩ .leaf)) 74 ⟨[(.l (.s), .b)], [(.l (.c (.i .i64) (.c (.s) (.c (.s) (.u)))), (.o (.q .r (.q .r (.q .r .r))))), (.b, .r)], 2⟩ (.node (.node (.node .leaf 75 ⟨[(.s, .r)], [(.b, .r)], 1⟩ .leaf) 76 ⟨[(.s, .r)], [(.i .i64, .r), (.b, .r)], 2⟩ .leaf) 77 ⟨[(.by, .r)], [(.s, .r)], 1⟩ (.node (.node .leaf 82 ⟨[(.s, .r), (.i .i64, .r)], [(.i .i64, .r)], 1⟩ .leaf) 85 ⟨[(.s, .r), (.by, .r)], [(.i .i64, .r)], 1⟩ .leaf)))))
noncomputable def bodies : BT Func := (.node (.node (.node (.node (.node (.node .leaf 4 Go.Proofs.Tryd.f4 .leaf) 5 Go.Proofs.Tryd.f5 .leaf) 6 Go.Proofs.Tryd.f6 (.node (.node .leaf 7 Go.Proofs.Tryd.f7 .leaf) 8 Go.Proofs.Tryd.f8 .leaf)) 10 Go.Proofs.Tryd.f10 (.node (.node (.node .leaf 11 Go.Proofs.Tryd.f11 .leaf) 12 Go.Proofs.Tryd.f12 .leaf) 13 Go.Proofs.Tryd.f13 (.node (.node .leaf 14 Go.Proofs.Tryd.f14 .leaf) 15 Go.Proofs.Tryd.f15 .leaf))) 21 Go.Proofs.Tryd.f21 (.node (.node (.node (.node .leaf 23 Go.Proofs.Tryd.f23 .leaf) 24 Go.Proofs.Tryd.f24 .leaf) 25 Go.Proofs.Tryd.f25 (.node (.node .leaf 26 Go.Proofs.Tryd.f26 .leaf) 27 Go.Proofs.Tryd.f27 .leaf)) 28 Go.Proofs.Tryd.f28 (.node (.node (.node .leaf 29 Go.Proofs.Tryd.f29 .leaf) 30 Go.Proofs.Tryd.f30 .leaf) 34 Go.Proofs.Tryd.f34 (.node (.node .leaf 36 Go.Proofs.Tryd.f36 .leaf) 37 Go.Proofs.Tryd.f37 .leaf)))) 38 Go.Proofs.Tryd.f38 (.node (.node (.node (.node (.node .leaf 43 Go.Proofs.Tryd.f43 .leaf) 44 Go.Proofs.Tryd.f44 .leaf) 45 Go.Proofs.Tryd.f45 (.node (.node .leaf 46 Go.Proofs.Tryd.f46 .leaf) 47 Go.Proofs.Tryd.f47 .leaf)) 53 Go.Proofs.Tryd.f53 (.node (.node (.node .leaf 54 Go.Proofs.Tryd.f54 .leaf) 55 Go.Proofs.Tryd.f55 .leaf) 57 Go.Proofs.Tryd.f57 (.node (.node .leaf 58 Go.Proofs.Tryd.f58 .leaf) 59 Go.Proofs.Tryd.f59 .leaf))) 60 Go.Proofs.Tryd.f60 (.node (.node (.node (.node .leaf 61 Go.Proofs.Tryd.f61 .leaf) 65 Go.Proofs.Tryd.f65 .leaf) 66 Go.Proofs.Tryd.f66 (.node (.node .leaf 70 Go.Proofs.Tryd.f70 .leaf) 71 Go.Proofs.Tryd.f71 .leaf)) 73 Go.Proofs.Tryd.f73 (.node (.node (.node .leaf 74 Go.Proofs.Tryd.f74 .leaf) 75 Go.Proofs.Tryd.f75 .leaf) 76 Go.Proofs.Tryd.f76 (.node (.node .leaf 77 Go.Proofs.Tryd.f77 .leaf) 82 Go.Proofs.Tryd.f82 .leaf)))))
noncomputable def exts : BT Func := (.node (.node (.node .leaf 9 Go.Proofs.Tryd.f9 .leaf) 20 Go.Proofs.Tryd.f20 .leaf) 32 Go.Proofs.Tryd.f32 (.node (.node .leaf 56 Go.Proofs.Tryd.f56 .leaf) 85 Go.Proofs.Tryd.f85 .leaf))
noncomputable def lives : BT (List Nat) := (.node (.node (.node (.node (.node (.node (.node .leaf 16391 [0, 1, 6] .leaf) 18438 [0, 1, 6, 58] (.node .leaf 20484 [6, 7, 8, 17, 18, 19] .leaf)) 24582 [5, 6, 7] (.node (.node .leaf 24583 [5, 6, 7] .leaf) 24588 [5, 6, 7, 8] (.node .leaf 24590 [5, 6, 7, 8, 11, 12] .leaf))) 32771 [0] (.node (.node (.node .leaf 34818 [0, 9] .leaf) 40965 [5, 16, 17, 18] (.node .leaf 40973 [5, 16, 17, 18] .leaf)) 45060 [0, 3, 4, 5] (.node (.node .leaf 45061 [0, 3, 4, 5] .leaf) 49158 [0, 5, 6, 7, 8, 9] (.node .leaf 49159 [0, 5, 6, 7, 8, 9] .leaf)))) 49166 [0, 5, 7, 9] (.node (.node (.node (.node .leaf 49182 [5] .leaf) 51210 [0, 5, 6, 7, 8, 9, 10, 20] (.node .leaf 51212 [0, 5, 6, 7, 8, 9, 10, 35] .leaf)) 51220 [0, 5, 6, 7, 8, 9, 10, 57] (.node (.node .leaf 51222 [0, 5, 6, 7, 8, 9, 80] .leaf) 51224 [0, 5, 6, 7, 8, 9, 82] (.node .leaf 53251 [0] .leaf))) 55298 [0, 12] (.node (.node (.node .leaf 57353 [1, 5] .leaf) 57361 [1] (.node .leaf 57383 [1] .leaf)) 57389 [] (.node (.node .leaf 59397 [1, 5, 12, 13] .leaf) 59400 [1, 5, 31] .leaf)))) 59405 [1, 5, 12, 52] (.node (.node (.node (.node (.node .leaf 59408 [1, 79] .leaf) 59415 [1, 5, 12, 105] (.node .leaf 59423 [1, 5, 12, 114] .leaf)) 59430 [1, 164] (.node (.node .leaf 61442 [0, 5, 6] .leaf) 86022 [2, 5, 31] (.node .leaf 86023 [2, 5, 31, 33, 34, 35] .leaf))) 88069 [2, 5, 31] (.node (.node (.node .leaf 94211 [0] .leaf) 94213 [0, 5, 6] (.node .leaf 94229 [0, 5, 6, 10] .leaf)) 96258 [0, 17] (.node (.node .leaf 96276 [0, 5, 6, 10, 79] .leaf) 98306 [0, 3] .leaf))) 98307 [0, 3] (.node (.node (.node (.node .leaf 100358 [0, 3, 39] .leaf) 102402 [0, 3] (.node .leaf 106514 [] .leaf)) 108561 [4] (.node (.node .leaf 110594 [0, 4] .leaf) 110606 [0, 4, 5, 6] (.node .leaf 110611 [0, 4, 5, 7] .leaf))) 122888 [] (.node (.node (.node .leaf 124930 [0, 3] .leaf) 124931 [0, 3] (.node .leaf 124935 [16] .leaf)) 147460 [0, 2, 5, 6, 15, 16] (.node (.node .leaf 147464 [0, 2, 5, 6, 15, 16] .leaf) 147465 [0, 2, 5, 6] .leaf))))) 147466 [0, 2, 5, 6, 8] (.node (.node (.node (.node (.node (.node .leaf 147476 [0, 2, 5, 6, 8, 10] .leaf) 147477 [0, 2, 5, 6, 8, 9] (.node .leaf 147478 [0, 2, 5, 6, 8, 9] .leaf)) 147479 [0, 2, 5, 6, 8, 9] (.node (.node .leaf 147481 [0, 2, 5, 6] .leaf) 149511 [0, 2, 5, 6, 7, 15, 16, 28] (.node .leaf 149523 [0, 2, 5, 6, 8, 10, 64] .leaf))) 151558 [0] (.node (.node (.node .leaf 153605 [0, 5, 20] .leaf) 155657 [1, 45, 46, 47] (.node .leaf 176132 [3, 4, 5] .leaf)) 180240 [] (.node (.node .leaf 182284 [0, 1, 14, 21] .leaf) 182287 [0, 1, 50] .leaf))) 184331 [0, 1, 7, 8, 9] (.node (.node (.node (.node .leaf 184333 [0, 1, 7, 8, 9] .leaf) 184334 [0, 1, 7, 8, 9, 10] (.node .leaf 184341 [7, 8] .leaf)) 186374 [0, 1, 6, 7, 8, 9, 20] (.node (.node .leaf 186376 [0, 1, 6, 7, 8, 9, 29] .leaf) 186378 [0, 1, 6, 7, 8, 9, 38] (.node .leaf 186380 [0, 1, 7, 8, 9, 56] .leaf))) 186388 [7, 8, 95] (.node (.node (.node .leaf 192515 [0] .leaf) 192517 [0, 4, 5] (.node .leaf 192518 [0, 4, 5] .leaf)) 192521 [0, 4, 5] (.node (.node .leaf 194562 [0, 23] .leaf) 194568 [0, 4, 5, 39] .leaf)))) 217090 [0, 6] (.node (.node (.node (.node (.node .leaf 217091 [0, 6] .leaf) 225285 [0, 3, 5] (.node .leaf 225286 [0, 3, 5] .leaf)) 225295 [0, 3, 5, 9] (.node (.node .leaf 225297 [0, 3, 5] .leaf) 227342 [0, 3, 5, 9, 60] (.node .leaf 241666 [5, 6, 7] .leaf))) 245789 [] (.node (.node (.node .leaf 247814 [3, 4] .leaf) 247818 [3, 10] (.node .leaf 247828 [3, 18] .leaf)) 249860 [1, 13, 14, 15] (.node (.node .leaf 249870 [1, 7, 13, 14, 15] .leaf) 249872 [1, 13, 14, 15] .leaf))) 266254 [0, 1, 7] (.node (.node (.node (.node .leaf 266256 [0, 1, 7, 8, 9] .leaf) 268301 [0, 1, 7, 44] (.node .leaf 270341 [] .leaf)) 272386 [0, 3] (.node (.node .leaf 272388 [0, 13] .leaf) 290833 [] (.node .leaf 292876 [0, 1, 16, 23] .leaf))) 292880 [6, 7, 45] (.node (.node (.node .leaf 299011 [0, 4, 8] .leaf) 299015 [0, 4, 6, 8] (.node .leaf 301062 [0, 4, 6, 8, 26] .leaf)) 303106 [0, 4] (.node (.node .leaf 303116 [0, 4, 5, 6] .leaf) 303121 [0, 4, 5, 6] .leaf))))))
open NqG ScM
noncomputable def ext9 : Nat → Tup [(.s, .r)] → Option (Tup [(.s, .r)]) := fun _ x => bif Nat.ble x.1.length 1073741824 then some (quote x.1, ()) else none
noncomputable def ext20 : Nat → Tup [(.s, .r), (.s, .r)] → Option (Tup [(.l (.s), (.o .r))]) := fun _ x => bif (x.2.1 == [10]) && Nat.ble x.1.length 1048576 then some (splitL x.1, ()) else none
noncomputable def ext32 : Nat → Tup [(.s, .r)] → Option (Tup [(.i .i32, .r), (.i .i64, .r)]) := fun _ x => some ((e37 x.1).1, (e37 x.1).2, ())
noncomputable def ext56 : Nat → Tup [(.l (.s), .b)] → Option (Tup [(.b, .r)]) := fun _ x => bif Nat.ble (List.length x.1) 1073741824 && List.all x.1 (fun w => Nat.ble (List.length w) 1073741824) then some (isSet x.1, ()) else none
noncomputable def ext85 : Nat → Tup [(.s, .r), (.by, .r)] → Option (Tup [(.i .i64, .r)]) := fun _ x => some (idx x.1 x.2.1, ())
noncomputable def ext : (g : FuncId) → Option (Nat → Tup ((sigs.get g).getD ⟨[], [], 0⟩).ps → Option (Tup ((sigs.get g).getD ⟨[], [], 0⟩).rs))
  | 9 => some ext9
  | 20 => some ext20
  | 32 => some ext32
  | 56 => some ext56
  | 85 => some ext85
  | _ => none
noncomputable def lims : BT Nat := (.node (.node (.node .leaf 22 1073741824 .leaf) 26 1073741824 .leaf) 29 1073741824 (.node (.node .leaf 38 1073741824 .leaf) 51 1073741824 (.node .leaf 70 1073741824 .leaf)))
noncomputable def G : Prg where
  ty T := tys.get T
  lim T := (lims.get T).getD 0
  cmp T := memb [] T
  hook f r := bif Nat.beq f 10 && Nat.beq r 9 then some ScM.asHook else none
  er T := memb [66] T
  sig g := (sigs.get g).getD ⟨[], [], 0⟩
  body g := bodies.get g
  ext g := ext g
  live g r := lives.get (Nat.add (Nat.mul g 4096) r)
end ScG

/-! What script.parse comes to, by L. -/
namespace Go.Proofs.YthfhbbhacaejoaaDoor
abbrev lineT : Lk.Ty := .c .s (.c (.l .s) .u)
abbrev lineM : Lk.Md := .q .r (.q (.o .r) .r)
abbrev placedT : Lk.Ty := .c lineT (.c (.i .i64) .u)
abbrev placedM : Lk.Md := .q lineM (.q .r .r)
noncomputable def parseF (n : Nat) (s : List UInt8) : Option (Lk.Tup [(.l placedT, .o placedM), (.i .i64, .r), (.i .i64, .r)]) := Lk.F ScG.G n 10 (s, ())
noncomputable def parse5 (n : Nat) (s : List UInt8) : Option (Lk.Tup [(.l lineT, .o lineM), (.i .i64, .r), (.i .i64, .r)]) :=
  (parseF n s).bind fun r => bif Nat.blt (List.length r.1) 1073741824 then some (List.map (fun y => y.1) r.1, r.2.1, r.2.2.1, ()) else none
end Go.Proofs.YthfhbbhacaejoaaDoor

namespace ScQ
open Go Lk
noncomputable def tys : BT (Ty × Md) := (.node (.node (.node (.node (.node (.node (.node (.node .leaf 1 (.z .fn, .r) .leaf) 2 (.i .i64, .r) .leaf) 3 (.i .i64, .r) (.node .leaf 4 (.b, .r) .leaf)) 5 (.by, .r) (.node (.node (.node .leaf 6 (.by, .r) .leaf) 7 (.c (.i .i64) (.c (.i .i64) (.c (.b) (.c (.by) (.u)))), (.q .r (.q .r (.q .r (.q .r .r))))) .leaf) 8 (.c (.i .i64) (.c (.i .i64) (.c (.b) (.c (.by) (.u)))), (.q .r (.q .r (.q .r (.q .r .r))))) (.node .leaf 9 (.s, .r) .leaf))) 10 (.s, .r) (.node (.node (.node (.node .leaf 11 (.s, .r) .leaf) 12 (.i .u64, .r) .leaf) 13 (.c (.s) (.c (.i .u64) (.u)), (.q .r (.q .r .r))) (.node .leaf 14 (.c (.s) (.c (.i .u64) (.u)), (.q .r (.q .r .r))) .leaf)) 15 (.p (.c (.p (.c (.i .u64) (.c (.i .u64) (.c (.i .u32) (.c (.by) (.c (.by) (.c (.by) (.c (.by) (.c (.z .fn) (.c (.p (.by)) (.c (.i .i32) (.c (.i .i32) (.u))))))))))))) (.c (.p (.c (.i .u64) (.c (.i .u64) (.c (.i .u32) (.c (.by) (.c (.by) (.c (.by) (.c (.by) (.c (.z .fn) (.c (.p (.by)) (.c (.i .i32) (.c (.i .i32) (.u))))))))))))) (.c (.p (.c (.i .u64) (.c (.i .u64) (.c (.i .u32) (.c (.by) (.c (.by) (.c (.by) (.c (.by) (.c (.z .fn) (.c (.p (.by)) (.c (.i .i32) (.c (.i .i32) (.u))))))))))))) (.c (.s) (.u))))), (.o (.q (.o (.q .r (.q .r (.q .r (.q .r (.q .r (.q .r (.q .r (.q .r (.q (.o .r) (.q .r (.q .r .r)))))))))))) (.q (.o (.q .r (.q .r (.q .r (.q .r (.q .r (.q .r (.q .r (.q .r (.q (.o .r) (.q .r (.q .r .r)))))))))))) (.q (.o (.q .r (.q .r (.q .r (.q .r (.q .r (.q .r (.q .r (.q .r (.q (.o .r) (.q .r (.q .r .r)))))))))))) (.q .r .r)))))) (.node (.node .leaf 16 (.z .pt, .r) .leaf) 17 (.p (.c (.i .u64) (.c (.i .u64) (.c (.i .u32) (.c (.by) (.c (.by) (.c (.by) (.c (.by) (.c (.z .fn) (.c (.p (.by)) (.c (.i .i32) (.c (.i .i32) (.u)))))))))))), (.o (.q .r (.q .r (.q .r (.q .r (.q .r (.q .r (.q .r (.q .r (.q (.o .r) (.q .r (.q .r .r))))))))))))) (.node .leaf 18 (.c (.p (.c (.i .u64) (.c (.i .u64) (.c (.i .u32) (.c (.by) (.c (.by) (.c (.by) (.c (.by) (.c (.z .fn) (.c (.p (.by)) (.c (.i .i32) (.c (.i .i32) (.u))))))))))))) (.u), (.q (.o (.q .r (.q .r (.q .r (.q .r (.q .r (.q .r (.q .r (.q .r (.q (.o .r) (.q .r (.q .r .r)))))))))))) .r)) .leaf)))) 19 (.c (.p (.c (.i .u64) (.c (.i .u64) (.c (.i .u32) (.c (.by) (.c (.by) (.c (.by) (.c (.by) (.c (.z .fn) (.c (.p (.by)) (.c (.i .i32) (.c (.i .i32) (.u))))))))))))) (.u), (.q (.o (.q .r (.q .r (.q .r (.q .r (.q .r (.q .r (.q .r (.q .r (.q (.o .r) (.q .r (.q .r .r)))))))))))) .r)) (.node (.node (.node (.node (.node .leaf 20 (.e, .r) .leaf) 21 (.i .i32, .r) .leaf) 22 (.l (.c (.s) (.c (.l (.s)) (.u))), (.o (.q .r (.q (.o .r) .r)))) (.node .leaf 23 (.i .i64, .r) .leaf)) 25 (.z .fn, .r) (.node (.node (.node .leaf 26 (.l (.c (.i .i64) (.c (.s) (.c (.l (.s)) (.u)))), (.o (.q .r (.q .r (.q (.o .r) .r))))) .leaf) 28 (.z .fn, .r) .leaf) 29 (.l (.s), (.o .r)) (.node .leaf 30 (.c (.s) (.c (.l (.s)) (.u)), (.q .r (.q (.o .r) .r))) .leaf))) 31 (.c (.s) (.c (.l (.s)) (.u)), (.q .r (.q (.o .r) .r))) (.node (.node (.node (.node .leaf 32 (.c (.i .i64) (.c (.s) (.c (.l (.s)) (.u))), (.q .r (.q .r (.q (.o .r) .r)))) .leaf) 33 (.c (.i .i64) (.c (.s) (.c (.l (.s)) (.u))), (.q .r (.q .r (.q (.o .r) .r)))) .leaf) 34 (.z .fn, .r) (.node .leaf 35 (.z .fn, .r) .leaf)) 36 (.z .fn, .r) (.node (.node .leaf 37 (.z .fn, .r) .leaf) 38 (.l (.c (.c (.s) (.c (.l (.s)) (.u))) (.c (.i .i64) (.u))), (.o (.q (.q .r (.q (.o .r) .r)) (.q .r .r)))) (.node .leaf 40 (.z .fn, .r) .leaf))))) 41 (.c (.c (.s) (.c (.l (.s)) (.u))) (.c (.i .i64) (.u)), (.q (.q .r (.q (.o .r) .r)) (.q .r .r))) (.node (.node (.node (.node (.node (.node .leaf 42 (.c (.c (.s) (.c (.l (.s)) (.u))) (.c (.i .i64) (.u)), (.q (.q .r (.q (.o .r) .r)) (.q .r .r))) .leaf) 43 (.z .fn, .r) .leaf) 45 (.z .fn, .r) (.node .leaf 47 (.z .fn, .r) .leaf)) 48 (.z .fn, .r) (.node (.node (.node .leaf 49 (.z .fn, .r) .leaf) 50 (.p (.c (.p (.c (.p (.c (.p (.c (.p (.c (.z .pt) (.c (.l (.by)) (.u)))) (.c (.l (.by)) (.u)))) (.c (.l (.by)) (.u)))) (.c (.l (.by)) (.u)))) (.c (.l (.by)) (.u))), (.o (.q (.o (.q (.o (.q (.o (.q (.o (.q .r (.q (.o .r) .r))) (.q (.o .r) .r))) (.q (.o .r) .r))) (.q (.o .r) .r))) (.q (.o .r) .r)))) .leaf) 51 (.l (.by), (.o .r)) (.node .leaf 52 (.c (.p (.c (.p (.c (.p (.c (.p (.c (.p (.c (.z .pt) (.c (.z .sl) (.u)))) (.c (.l (.by)) (.u)))) (.c (.l (.by)) (.u)))) (.c (.l (.by)) (.u)))) (.c (.l (.by)) (.u)))) (.c (.l (.by)) (.u)), (.q (.o (.q (.o (.q (.o (.q (.o (.q (.o (.q .r (.q .r .r))) (.q (.o .r) .r))) (.q (.o .r) .r))) (.q (.o .r) .r))) (.q (.o .r) .r))) (.q (.o .r) .r))) .leaf))) 53 (.c (.p (.c (.p (.c (.p (.c (.p (.c (.p (.c (.z .pt) (.c (.z .sl) (.u)))) (.c (.l (.by)) (.u)))) (.c (.l (.by)) (.u)))) (.c (.l (.by)) (.u)))) (.c (.l (.by)) (.u)))) (.c (.l (.by)) (.u)), (.q (.o (.q (.o (.q (.o (.q (.o (.q (.o (.q .r (.q .r .r))) (.q (.o .r) .r))) (.q (.o .r) .r))) (.q (.o .r) .r))) (.q (.o .r) .r))) (.q (.o .r) .r))) (.node (.node (.node (.node .leaf 54 (.e, .r) .leaf) 55 (.e, .r) .leaf) 56 (.z .fn, .r) (.node .leaf 58 (.z .fn, .r) .leaf)) 60 (.z .fn, .r) (.node (.node .leaf 61 (.z .fn, .r) .leaf) 62 (.z .fn, .r) (.node .leaf 64 (.z .fn, .r) .leaf)))) 65 (.c (.i .i64) (.u), (.q .r .r)) (.node (.node (.node (.node (.node .leaf 66 (.c (.i .i64) (.u), (.q .r .r)) .leaf) 67 (.z .fn, .r) .leaf) 68 (.p (.c (.i .i64) (.u)), (.o (.q .r .r))) (.node .leaf 69 (.z .fn, .r) .leaf)) 70 (.l (.c (.i .i64) (.c (.s) (.c (.s) (.u)))), (.o (.q .r (.q .r (.q .r .r))))) (.node (.node .leaf 72 (.z .fn, .r) .leaf) 74 (.z .fn, .r) (.node .leaf 75 (.z .fn, .r) .leaf))) 77 (.z .fn, .r) (.node (.node (.node (.node .leaf 78 (.z .fn, .r) .leaf) 79 (.z .fn, .r) .leaf) 80 (.p (.by), (.o .r)) (.node .leaf 81 (.z .fn, .r) .leaf)) 83 (.z .fn, .r) (.node (.node .leaf 85 (.z .fn, .r) .leaf) 87 (.i .u64, .r) (.node .leaf 90 (.z .fn, .r) .leaf)))))) 91 (.e, .r) (.node (.node (.node (.node (.node (.node (.node .leaf 92 (.e, .r) .leaf) 93 (.z .fn, .r) .leaf) 94 (.by, .r) (.node .leaf 95 (.z .fn, .r) .leaf)) 96 (.z .fn, .r) (.node (.node (.node .leaf 97 (.z .fn, .r) .leaf) 99 (.z .fn, .r) .leaf) 100 (.i .u32, .r) (.node .leaf 102 (.z .fn, .r) .leaf))) 103 (.z .fn, .r) (.node (.node (.node (.node .leaf 104 (.c (.i .i64) (.c (.s) (.c (.s) (.u))), (.q .r (.q .r (.q .r .r)))) .leaf) 105 (.c (.i .i64) (.c (.s) (.c (.s) (.u))), (.q .r (.q .r (.q .r .r)))) .leaf) 106 (.z .fn, .r) (.node .leaf 107 (.i .u64, .r) .leaf)) 108 (.z .fn, .r) (.node (.node .leaf 109 (.z .fn, .r) .leaf) 110 (.z .fn, .r) (.node .leaf 111 (.z .fn, .r) .leaf)))) 112 (.c (.p (.c (.i .u64) (.c (.i .u64) (.c (.i .u32) (.c (.by) (.c (.by) (.c (.by) (.c (.by) (.c (.z .fn) (.c (.p (.by)) (.c (.i .i32) (.c (.i .i32) (.u))))))))))))) (.u), (.q (.o (.q .r (.q .r (.q .r (.q .r (.q .r (.q .r (.q .r (.q .r (.q (.o .r) (.q .r (.q .r .r)))))))))))) .r)) (.node (.node (.node (.node (.node .leaf 113 (.c (.p (.c (.i .u64) (.c (.i .u64) (.c (.i .u32) (.c (.by) (.c (.by) (.c (.by) (.c (.by) (.c (.z .fn) (.c (.p (.by)) (.c (.i .i32) (.c (.i .i32) (.u))))))))))))) (.u), (.q (.o (.q .r (.q .r (.q .r (.q .r (.q .r (.q .r (.q .r (.q .r (.q (.o .r) (.q .r (.q .r .r)))))))))))) .r)) .leaf) 114 (.p (.c (.s) (.c (.by) (.u))), (.o (.q .r (.q .r .r)))) .leaf) 115 (.z .fn, .r) (.node .leaf 116 (.z .fn, .r) .leaf)) 117 (.z .fn, .r) (.node (.node .leaf 118 (.e, .r) .leaf) 120 (.z .fn, .r) (.node .leaf 121 (.e, .r) .leaf))) 122 (.z .fn, .r) (.node (.node (.node (.node .leaf 123 (.e, .r) .leaf) 124 (.l (.e), (.o .r)) .leaf) 125 (.z .fn, .r) (.node .leaf 126 (.z .fn, .r) .leaf)) 127 (.z .fn, .r) (.node (.node .leaf 129 (.c (.by) (.c (.by) (.u)), (.q .r (.q .r .r))) .leaf) 130 (.c (.by) (.c (.by) (.u)), (.q .r (.q .r .r))) (.node .leaf 132 (.z .fn, .r) .leaf))))) 133 (.c (.i .i64) (.c (.i .i64) (.c (.i .i64) (.u))), (.q .r (.q .r (.q .r .r)))) (.node (.node (.node (.node (.node (.node .leaf 134 (.c (.i .i64) (.c (.i .i64) (.c (.i .i64) (.u))), (.q .r (.q .r (.q .r .r)))) .leaf) 135 (.l (.i .i64), (.o .r)) .leaf) 136 (.c (.i .i64) (.c (.i .i64) (.c (.i .i64) (.c (.c (.i .i64) (.c (.i .i64) (.c (.i .i64) (.u)))) (.c (.i .i64) (.c (.i .i64) (.c (.i .i64) (.c (.i .i64) (.c (.i .i64) (.c (.i .i64) (.c (.i .i64) (.c (.i .i64) (.c (.i .i64) (.c (.l (.i .i64)) (.u)))))))))))))), (.q .r (.q .r (.q .r (.q (.q .r (.q .r (.q .r .r))) (.q .r (.q .r (.q .r (.q .r (.q .r (.q .r (.q .r (.q .r (.q .r (.q (.o .r) .r))))))))))))))) (.node .leaf 137 (.c (.i .i64) (.c (.i .i64) (.c (.i .i64) (.c (.c (.i .i64) (.c (.i .i64) (.c (.i .i64) (.u)))) (.c (.i .i64) (.c (.i .i64) (.c (.i .i64) (.c (.i .i64) (.c (.i .i64) (.c (.i .i64) (.c (.i .i64) (.c (.i .i64) (.c (.i .i64) (.c (.l (.i .i64)) (.u)))))))))))))), (.q .r (.q .r (.q .r (.q (.q .r (.q .r (.q .r .r))) (.q .r (.q .r (.q .r (.q .r (.q .r (.q .r (.q .r (.q .r (.q .r (.q (.o .r) .r))))))))))))))) .leaf)) 138 (.c (.c (.i .i64) (.c (.i .i64) (.c (.i .i64) (.c (.c (.i .i64) (.c (.i .i64) (.c (.i .i64) (.u)))) (.c (.i .i64) (.c (.i .i64) (.c (.i .i64) (.c (.i .i64) (.c (.i .i64) (.c (.i .i64) (.c (.i .i64) (.c (.i .i64) (.c (.i .i64) (.c (.l (.i .i64)) (.u))))))))))))))) (.u), (.q (.q .r (.q .r (.q .r (.q (.q .r (.q .r (.q .r .r))) (.q .r (.q .r (.q .r (.q .r (.q .r (.q .r (.q .r (.q .r (.q .r (.q (.o .r) .r)))))))))))))) .r)) (.node (.node (.node .leaf 139 (.c (.c (.i .i64) (.c (.i .i64) (.c (.i .i64) (.c (.c (.i .i64) (.c (.i .i64) (.c (.i .i64) (.u)))) (.c (.i .i64) (.c (.i .i64) (.c (.i .i64) (.c (.i .i64) (.c (.i .i64) (.c (.i .i64) (.c (.i .i64) (.c (.i .i64) (.c (.i .i64) (.c (.l (.i .i64)) (.u))))))))))))))) (.u), (.q (.q .r (.q .r (.q .r (.q (.q .r (.q .r (.q .r .r))) (.q .r (.q .r (.q .r (.q .r (.q .r (.q .r (.q .r (.q .r (.q .r (.q (.o .r) .r)))))))))))))) .r)) .leaf) 140 (.p (.i .i64), (.o .r)) .leaf) 141 (.z .fn, .r) (.node .leaf 142 (.z .fn, .r) .leaf))) 143 (.z .fn, .r) (.node (.node (.node (.node .leaf 144 (.p (.c (.c (.i .i64) (.c (.i .i64) (.c (.i .i64) (.c (.c (.i .i64) (.c (.i .i64) (.c (.i .i64) (.u)))) (.c (.i .i64) (.c (.i .i64) (.c (.i .i64) (.c (.i .i64) (.c (.i .i64) (.c (.i .i64) (.c (.i .i64) (.c (.i .i64) (.c (.i .i64) (.c (.l (.i .i64)) (.u))))))))))))))) (.u)), (.o (.q (.q .r (.q .r (.q .r (.q (.q .r (.q .r (.q .r .r))) (.q .r (.q .r (.q .r (.q .r (.q .r (.q .r (.q .r (.q .r (.q .r (.q (.o .r) .r)))))))))))))) .r))) .leaf) 146 (.z .fn, .r) .leaf) 147 (.c (.p (.c (.i .u64) (.c (.i .u64) (.c (.i .u32) (.c (.by) (.c (.by) (.c (.by) (.c (.by) (.c (.z .fn) (.c (.p (.by)) (.c (.i .i32) (.c (.i .i32) (.u))))))))))))) (.c (.p (.c (.i .u64) (.c (.i .u64) (.c (.i .u32) (.c (.by) (.c (.by) (.c (.by) (.c (.by) (.c (.z .fn) (.c (.p (.by)) (.c (.i .i32) (.c (.i .i32) (.u))))))))))))) (.c (.p (.c (.i .u64) (.c (.i .u64) (.c (.i .u32) (.c (.by) (.c (.by) (.c (.by) (.c (.by) (.c (.z .fn) (.c (.p (.by)) (.c (.i .i32) (.c (.i .i32) (.u))))))))))))) (.c (.s) (.u)))), (.q (.o (.q .r (.q .r (.q .r (.q .r (.q .r (.q .r (.q .r (.q .r (.q (.o .r) (.q .r (.q .r .r)))))))))))) (.q (.o (.q .r (.q .r (.q .r (.q .r (.q .r (.q .r (.q .r (.q .r (.q (.o .r) (.q .r (.q .r .r)))))))))))) (.q (.o (.q .r (.q .r (.q .r (.q .r (.q .r (.q .r (.q .r (.q .r (.q (.o .r) (.q .r (.q .r .r)))))))))))) (.q .r .r))))) (.node .leaf 148 (.c (.p (.c (.i .u64) (.c (.i .u64) (.c (.i .u32) (.c (.by) (.c (.by) (.c (.by) (.c (.by) (.c (.z .fn) (.c (.p (.by)) (.c (.i .i32) (.c (.i .i32) (.u))))))))))))) (.c (.p (.c (.i .u64) (.c (.i .u64) (.c (.i .u32) (.c (.by) (.c (.by) (.c (.by) (.c (.by) (.c (.z .fn) (.c (.p (.by)) (.c (.i .i32) (.c (.i .i32) (.u))))))))))))) (.c (.p (.c (.i .u64) (.c (.i .u64) (.c (.i .u32) (.c (.by) (.c (.by) (.c (.by) (.c (.by) (.c (.z .fn) (.c (.p (.by)) (.c (.i .i32) (.c (.i .i32) (.u))))))))))))) (.c (.s) (.u)))), (.q (.o (.q .r (.q .r (.q .r (.q .r (.q .r (.q .r (.q .r (.q .r (.q (.o .r) (.q .r (.q .r .r)))))))))))) (.q (.o (.q .r (.q .r (.q .r (.q .r (.q .r (.q .r (.q .r (.q .r (.q (.o .r) (.q .r (.q .r .r)))))))))))) (.q (.o (.q .r (.q .r (.q .r (.q .r (.q .r (.q .r (.q .r (.q .r (.q (.o .r) (.q .r (.q .r .r)))))))))))) (.q .r .r))))) .leaf)) 152 (.z .fn, .r) (.node (.node .leaf 153 (.z .fn, .r) .leaf) 154 (.by, .r) (.node .leaf 155 (.z .fn, .r) .leaf)))) 156 (.i .i32, .r) (.node (.node (.node (.node (.node .leaf 157 (.i .i32, .r) .leaf) 158 (.c (.i .u64) (.c (.i .u64) (.c (.i .u32) (.c (.by) (.c (.by) (.c (.by) (.c (.by) (.c (.z .fn) (.c (.p (.by)) (.c (.i .i32) (.c (.i .i32) (.u))))))))))), (.q .r (.q .r (.q .r (.q .r (.q .r (.q .r (.q .r (.q .r (.q (.o .r) (.q .r (.q .r .r)))))))))))) .leaf) 159 (.c (.i .u64) (.c (.i .u64) (.c (.i .u32) (.c (.by) (.c (.by) (.c (.by) (.c (.by) (.c (.z .fn) (.c (.p (.by)) (.c (.i .i32) (.c (.i .i32) (.u))))))))))), (.q .r (.q .r (.q .r (.q .r (.q .r (.q .r (.q .r (.q .r (.q (.o .r) (.q .r (.q .r .r)))))))))))) (.node .leaf 160 (.z .fn, .r) .leaf)) 161 (.z .fn, .r) (.node (.node .leaf 162 (.c (.s) (.c (.by) (.u)), (.q .r (.q .r .r))) .leaf) 163 (.c (.s) (.c (.by) (.u)), (.q .r (.q .r .r))) (.node .leaf 164 (.p (.c (.i .i32) (.c (.i .u16) (.c (.i .u16) (.c (.i .u32) (.c (.i .u32) (.u)))))), (.o (.q .r (.q .r (.q .r (.q .r (.q .r .r))))))) .leaf))) 165 (.z .fn, .r) (.node (.node (.node (.node .leaf 166 (.i .u16, .r) .leaf) 167 (.c (.i .i32) (.c (.i .u16) (.c (.i .u16) (.c (.i .u32) (.c (.i .u32) (.u))))), (.q .r (.q .r (.q .r (.q .r (.q .r .r)))))) .leaf) 168 (.c (.i .i32) (.c (.i .u16) (.c (.i .u16) (.c (.i .u32) (.c (.i .u32) (.u))))), (.q .r (.q .r (.q .r (.q .r (.q .r .r)))))) (.node .leaf 169 (.l (.c (.i .i32) (.c (.i .i32) (.c (.i .i32) (.c (.i .i32) (.u))))), (.o (.q .r (.q .r (.q .r (.q .r .r)))))) .leaf)) 170 (.i .i32, .r) (.node (.node .leaf 171 (.c (.i .i32) (.c (.i .i32) (.c (.i .i32) (.c (.i .i32) (.u)))), (.q .r (.q .r (.q .r (.q .r .r))))) .leaf) 172 (.c (.i .i32) (.c (.i .i32) (.c (.i .i32) (.c (.i .i32) (.u)))), (.q .r (.q .r (.q .r (.q .r .r))))) (.node .leaf 173 (.p (.e), (.o .r)) .leaf)))))))
noncomputable def sigs : BT Sig := (.node (.node (.node .leaf 17 ⟨[(.s, .r), (.i .i64, .r)], [(.s, .r), (.i .i64, .r)], 2⟩ .leaf) 32 ⟨[(.s, .r)], [(.i .i32, .r), (.i .i64, .r)], 2⟩ .leaf) 33 ⟨[(.by, .r)], [(.s, .r)], 1⟩ (.node .leaf 34 ⟨[(.i .i32, .r)], [(.b, .r)], 1⟩ .leaf))
noncomputable def bodies : BT Func := (.node (.node .leaf 17 Go.Proofs.Tryd.f17 .leaf) 33 Go.Proofs.Tryd.f33 (.node .leaf 34 Go.Proofs.Tryd.f34 .leaf))
noncomputable def exts : BT Func := (.node .leaf 32 Go.Proofs.Tryd.f32 .leaf)
noncomputable def lives : BT (List Nat) := (.node (.node .leaf 69636 [0, 1, 6, 7] .leaf) 69651 [0, 1, 7, 8, 47, 48] (.node .leaf 71683 [0, 1, 6, 7, 22] .leaf))
open NqG
noncomputable def ext32 : Nat → Tup [(.s, .r)] → Option (Tup [(.i .i32, .r), (.i .i64, .r)]) := fun _ x => some ((e37 x.1).1, (e37 x.1).2, ())
noncomputable def ext : (g : FuncId) → Option (Nat → Tup ((sigs.get g).getD ⟨[], [], 0⟩).ps → Option (Tup ((sigs.get g).getD ⟨[], [], 0⟩).rs))
  | 32 => some ext32
  | _ => none
noncomputable def lims : BT Nat := .leaf
noncomputable def G : Prg where
  ty T := tys.get T
  lim T := (lims.get T).getD 0
  cmp T := memb [] T

  sig g := (sigs.get g).getD ⟨[], [], 0⟩
  body g := bodies.get g
  ext g := ext g
  live g r := lives.get (Nat.add (Nat.mul g 4096) r)
end ScQ

/-
  DERIVED: THE SHELF's CONTRACTS AT THIS DUMP, IN PLAIN WORDS (tools/lay-plain.mjs out of 'TrydShelf.lean', which tools/lay-shelf.mjs wrote): THE SAME DECLARATIONS UNDER THE SAME NAMES: 'import', 'namespace', 'open', 'def', 'theorem' AND NOTHING ELSE: no command of the shelf's: FOR A HAND-IN. Each laying: the table of numbers ('.._ren') and one theorem, a field a fact of the dump's own or the kernel's comparison; each contract: ONE APPLICATION.
-/
namespace Go.Proofs
open Go.Shelf
def Tryd.lays169_ren : Go.Shelf.Ren := ⟨fun | 169 => 19 | n => n, fun | 70 => 50 | 9 => 9 | 0 => 0 | 72 => 53 | 37 => 51 | 127 => 80 | 3 => 3 | 5 => 5 | n => n, fun | n => n⟩
theorem Tryd.lays169 : Go.Proofs.Lays.n169 Tryd.prog Tryd.lays169_ren := {
  mixed := by kernel_rfl
  f169 := Tryd.func19.trans (congrArg some (by kernel_rfl))
  t0 := Tryd.underlying0
  a0 := Tryd.isAgg0
  z0 := Tryd.sizeOf0
  v0 := Tryd.zeroValue0
  t3 := Tryd.underlying3
  a3 := Tryd.isAgg3
  z3 := Tryd.sizeOf3
  v3 := Tryd.zeroValue3
  t9 := Tryd.underlying9
  a9 := Tryd.isAgg9
  z9 := Tryd.sizeOf9
  v9 := Tryd.zeroValue9
  t37 := Tryd.underlying51
  a37 := Tryd.isAgg51
  z37 := Tryd.sizeOf51
  v37 := Tryd.zeroValue51
  t70 := Tryd.underlying50
  a70 := Tryd.isAgg50
  z70 := Tryd.sizeOf50
  v70 := Tryd.zeroValue50
  t72 := Tryd.underlying53
  a72 := Tryd.isAgg53
  z72 := Tryd.sizeOf53
  v72 := Tryd.zeroValue53
  t127 := Tryd.underlying80
  a127 := Tryd.isAgg80
  z127 := Tryd.sizeOf80
  v127 := Tryd.zeroValue80 }
theorem Tryd.Builder_Extra_169 : Builder.Extra Tryd.prog Tryd.lays169_ren := {
  sizeBuilder := by kernel_rfl
  liesBuilder := by kernel_rfl
  t5 := Tryd.underlying5
  a5 := Tryd.isAgg5
  z5 := Tryd.sizeOf5
  v5 := Tryd.zeroValue5
  infoByte := by kernel_rfl
  cellsByte := by kernel_rfl
  sizeByte := by kernel_rfl
  neB5 := by decide }
open Go.RowKit in
theorem Tryd.Builder_String (B b : Nat) (l : List UInt8) (w : World) (h : Lib.IsBuilder 53 5 B b (Lib.byteCells l) w) (h0 : l ≠ []) :
    Calls Tryd.prog 19 #[.pointer (some ⟨b, 0, none⟩)] w fun e w' => e = .returned (.string ⟨l.toArray⟩) ∧ Below B w w' := Any.Builder_String Tryd.lays169 Tryd.Builder_Extra_169 B b l w h h0
open Go.RowKit in
theorem Tryd.Builder_String_empty (B b : Nat) (w : World) (h : Lib.IsBuilder 53 5 B b [] w) (hBw : B ≤ w.heap.size) :
    Calls Tryd.prog 19 #[.pointer (some ⟨b, 0, none⟩)] w fun e w' => e = .returned (.string ⟨#[]⟩) ∧ Below B w w' := Any.Builder_String_empty Tryd.lays169 Tryd.Builder_Extra_169 B b w h hBw
open Go.RowKit in
theorem Tryd.Builder_String_any (B b : Nat) (l : List UInt8) (w : World) (h : Lib.IsBuilder 53 5 B b (Lib.byteCells l) w) (hBw : B ≤ w.heap.size) :
    Calls Tryd.prog 19 #[.pointer (some ⟨b, 0, none⟩)] w fun e w' => e = .returned (.string ⟨l.toArray⟩) ∧ Below B w w' := Any.Builder_String_any Tryd.lays169 Tryd.Builder_Extra_169 B b l w h hBw
def Tryd.lays137_ren : Go.Shelf.Ren := ⟨fun | 137 => 85 | 217 => 78 | 266 => 83 | n => n, fun | 9 => 9 | 5 => 5 | 3 => 3 | n => n, fun | n => n⟩
theorem Tryd.lays137 : Go.Proofs.Lays.n137 Tryd.prog Tryd.lays137_ren := {
  mixed := by kernel_rfl
  f137 := Tryd.func85.trans (congrArg some (by kernel_rfl))
  f217 := Tryd.func78.trans (congrArg some (by kernel_rfl))
  f266 := Tryd.func83.trans (congrArg some (by kernel_rfl))
  t3 := Tryd.underlying3
  a3 := Tryd.isAgg3
  z3 := Tryd.sizeOf3
  v3 := Tryd.zeroValue3
  t5 := Tryd.underlying5
  a5 := Tryd.isAgg5
  z5 := Tryd.sizeOf5
  v5 := Tryd.zeroValue5
  t9 := Tryd.underlying9
  a9 := Tryd.isAgg9
  z9 := Tryd.sizeOf9
  v9 := Tryd.zeroValue9 }
open Go.RowKit in
/-- strings.IndexByte: "IndexByte returns the index of the first instance of c in s, or -1 if c is not present in s.": IT RETURNS 'Lib.indexByte s c'; the world is as it was. (LAID: no walk: one application.) -/
theorem Tryd.strings_IndexByte (s : ByteArray) (c : Int) (w : World) :
    Calls Tryd.prog 85 #[.string s, .int .u8 c] w fun e w' => e = .returned (.int .i64 (Lib.indexByte s.data.toList c.toNat.toUInt8)) ∧ w' = w := Any.strings_IndexByte Tryd.lays137 s c w
open Go.RowKit in
theorem Tryd.Builder_String_f (B b : Nat) (l : List UInt8) (w : World) (h : Lib.IsBuilderF 53 5 B b (Lib.byteCells l) w) (h0 : l ≠ []) :
    Calls Tryd.prog 19 #[.pointer (some ⟨b, 0, none⟩)] w fun e w' => e = .returned (.string ⟨l.toArray⟩) ∧ (Lib.IsBuilderF 53 5 B b (Lib.byteCells l) w' ∧ Below B w w') := Any.Builder_String_f Tryd.lays169 Tryd.Builder_Extra_169 B b l w h h0
open Go.RowKit in
theorem Tryd.Builder_String_empty_f (B b : Nat) (w : World) (h : Lib.IsBuilderF 53 5 B b [] w) (hBw : B ≤ w.heap.size) :
    Calls Tryd.prog 19 #[.pointer (some ⟨b, 0, none⟩)] w fun e w' => e = .returned (.string ⟨#[]⟩) ∧ (Lib.IsBuilderF 53 5 B b [] w' ∧ Below B w w') := Any.Builder_String_empty_f Tryd.lays169 Tryd.Builder_Extra_169 B b w h hBw
open Go.RowKit in
theorem Tryd.Builder_String_any_f (B b : Nat) (l : List UInt8) (w : World) (h : Lib.IsBuilderF 53 5 B b (Lib.byteCells l) w) (hBw : B ≤ w.heap.size) :
    Calls Tryd.prog 19 #[.pointer (some ⟨b, 0, none⟩)] w fun e w' => e = .returned (.string ⟨l.toArray⟩) ∧ (Lib.IsBuilderF 53 5 B b (Lib.byteCells l) w' ∧ Below B w w') := Any.Builder_String_any_f Tryd.lays169 Tryd.Builder_Extra_169 B b l w h hBw
open Go.RowKit in
theorem Tryd.Builder_String_k (B b : Nat) (l : List UInt8) (w : World) (h : Lib.IsBuilderF 53 5 B b (Lib.byteCells l) w) (h0 : l ≠ []) :
    Calls Tryd.prog 19 #[.pointer (some ⟨b, 0, none⟩)] w fun e w' => e = .returned (.string ⟨l.toArray⟩) ∧ (Lib.IsBuilderF 53 5 B b (Lib.byteCells l) w' ∧ Below B w w' ∧ Lib.OthersKept 5 (some b) w w') := Any.Builder_String_k Tryd.lays169 Tryd.Builder_Extra_169 B b l w h h0
open Go.RowKit in
theorem Tryd.Builder_String_empty_k (B b : Nat) (w : World) (h : Lib.IsBuilderF 53 5 B b [] w) (hBw : B ≤ w.heap.size) :
    Calls Tryd.prog 19 #[.pointer (some ⟨b, 0, none⟩)] w fun e w' => e = .returned (.string ⟨#[]⟩) ∧ (Lib.IsBuilderF 53 5 B b [] w' ∧ Below B w w' ∧ Lib.OthersKept 5 (some b) w w') := Any.Builder_String_empty_k Tryd.lays169 Tryd.Builder_Extra_169 B b w h hBw
open Go.RowKit in
theorem Tryd.Builder_String_any_k (B b : Nat) (l : List UInt8) (w : World) (h : Lib.IsBuilderF 53 5 B b (Lib.byteCells l) w) (hBw : B ≤ w.heap.size) :
    Calls Tryd.prog 19 #[.pointer (some ⟨b, 0, none⟩)] w fun e w' => e = .returned (.string ⟨l.toArray⟩) ∧ (Lib.IsBuilderF 53 5 B b (Lib.byteCells l) w' ∧ Below B w w' ∧ Lib.OthersKept 5 (some b) w w') := Any.Builder_String_any_k Tryd.lays169 Tryd.Builder_Extra_169 B b l w h hBw
def Tryd.lays195_ren : Go.Shelf.Ren := ⟨fun | 195 => 67 | n => n, fun | 9 => 9 | 3 => 3 | 0 => 0 | 4 => 4 | n => n, fun | n => n⟩
theorem Tryd.lays195 : Go.Proofs.Lays.n195 Tryd.prog Tryd.lays195_ren := {
  mixed := by kernel_rfl
  f195 := Tryd.func67.trans (congrArg some (by kernel_rfl))
  t0 := Tryd.underlying0
  a0 := Tryd.isAgg0
  z0 := Tryd.sizeOf0
  v0 := Tryd.zeroValue0
  t3 := Tryd.underlying3
  a3 := Tryd.isAgg3
  z3 := Tryd.sizeOf3
  v3 := Tryd.zeroValue3
  t4 := Tryd.underlying4
  a4 := Tryd.isAgg4
  z4 := Tryd.sizeOf4
  v4 := Tryd.zeroValue4
  t9 := Tryd.underlying9
  a9 := Tryd.isAgg9
  z9 := Tryd.sizeOf9
  v9 := Tryd.zeroValue9 }
open Go.RowKit in
/-- unicode/utf8.RuneCountInString: "RuneCountInString is like RuneCount but its input is a string." ("RuneCount returns the number of runes in p. Erroneous and short encodings are treated as single runes of width 1 byte."): EVERY STRING, valid UTF-8 or not: 'Lib.runeCount s' (plain Lean over the model's own 'Utf8.decode'; 'Lib.runeCount_le': at most len(s); 'Lib.runeCount_ascii': on ASCII: len(s)). THE ONE CONDITION: len(s) below 2^63 - 1 (the counter does not wrap): the form's reach pays it. THE WORLD BEHIND THE CALL: ONE BLOCK MORE: the model's iterator over s, at its end: all else as it was. (LAID: no walk: one application.) -/
theorem Tryd.utf8_RuneCountInString (s : ByteArray) (w : World) (hs : s.size < 9223372036854775807) :
    Calls Tryd.prog 67 #[.string s] w fun e w' => e = .returned (.int .i64 (Lib.runeCount s)) ∧ ∃ pos, w' = w.iter s pos := Any.utf8_RuneCountInString Tryd.lays195 s w hs
def Tryd.lays217_ren : Go.Shelf.Ren := ⟨fun | 217 => 78 | 266 => 83 | n => n, fun | 9 => 9 | 5 => 5 | 3 => 3 | n => n, fun | n => n⟩
theorem Tryd.lays217 : Go.Proofs.Lays.n217 Tryd.prog Tryd.lays217_ren := {
  mixed := by kernel_rfl
  f217 := Tryd.func78.trans (congrArg some (by kernel_rfl))
  f266 := Tryd.func83.trans (congrArg some (by kernel_rfl))
  t3 := Tryd.underlying3
  a3 := Tryd.isAgg3
  z3 := Tryd.sizeOf3
  v3 := Tryd.zeroValue3
  t5 := Tryd.underlying5
  a5 := Tryd.isAgg5
  z5 := Tryd.sizeOf5
  v5 := Tryd.zeroValue5
  t9 := Tryd.underlying9
  a9 := Tryd.isAgg9
  z9 := Tryd.sizeOf9
  v9 := Tryd.zeroValue9 }
open Go.RowKit Go.Lib in
theorem Tryd.stringslite_IndexByte (s : ByteArray) (c : Int) (w : World) :
    Calls Tryd.prog 78 #[.string s, .int .u8 c] w fun e w' => e = .returned (.int .i64 (Lib.indexByte s.data.toList c.toNat.toUInt8)) ∧ w' = w := Any.stringslite_IndexByte Tryd.lays217 s c w
def Tryd.lays224_ren : Go.Shelf.Ren := ⟨fun | 224 => 80 | n => n, fun | 3 => 3 | n => n, fun | n => n⟩
theorem Tryd.lays224 : Go.Proofs.Lays.n224 Tryd.prog Tryd.lays224_ren := {
  mixed := by kernel_rfl
  f224 := Tryd.func80.trans (congrArg some (by kernel_rfl))
  t3 := Tryd.underlying3
  a3 := Tryd.isAgg3
  z3 := Tryd.sizeOf3
  v3 := Tryd.zeroValue3 }
open Go.RowKit Go.Lib in
theorem Tryd.bytealg_Cutover (n : Int) (h0 : 0 ≤ n) (h1 : n < 4611686018427387904) (w : World) :
    Calls Tryd.prog 80 #[.int .i64 n] w fun e w' => e = .returned (.int .i64 ((n + 16) / 8)) ∧ w' = w := Any.bytealg_Cutover Tryd.lays224 n h0 h1 w
def Tryd.lays314_ren : Go.Shelf.Ren := ⟨fun | 314 => 84 | n => n, fun | 9 => 9 | 51 => 100 | 3 => 3 | 4 => 4 | 5 => 5 | 46 => 107 | n => n, fun | n => n⟩
theorem Tryd.lays314 : Go.Proofs.Lays.n314 Tryd.prog Tryd.lays314_ren := {
  mixed := by kernel_rfl
  f314 := Tryd.func84.trans (congrArg some (by kernel_rfl))
  t3 := Tryd.underlying3
  a3 := Tryd.isAgg3
  z3 := Tryd.sizeOf3
  v3 := Tryd.zeroValue3
  t4 := Tryd.underlying4
  a4 := Tryd.isAgg4
  z4 := Tryd.sizeOf4
  v4 := Tryd.zeroValue4
  t5 := Tryd.underlying5
  a5 := Tryd.isAgg5
  z5 := Tryd.sizeOf5
  v5 := Tryd.zeroValue5
  t9 := Tryd.underlying9
  a9 := Tryd.isAgg9
  z9 := Tryd.sizeOf9
  v9 := Tryd.zeroValue9
  t46 := Tryd.underlying107
  a46 := Tryd.isAgg107
  z46 := Tryd.sizeOf107
  v46 := Tryd.zeroValue107
  t51 := Tryd.underlying100
  a51 := Tryd.isAgg100
  z51 := Tryd.sizeOf100
  v51 := Tryd.zeroValue100 }
open Go.RowKit Go.Lib in
/-- hashStr: "returns the hash and the appropriate multiplicative factor for use in Rabin-Karp algorithm": THE HASH OF ALL OF sep, AND 16777619 ^ len(sep), both in uint32. (LAID: no walk: one application.) -/
theorem Tryd.bytealg_hashStr (sep : ByteArray) (hs : sep.size < 4294967281) (w : World) :
    Calls Tryd.prog 84 #[.string sep] w fun e w' => e = .returned (.tuple #[.int .u32 (RK.H sep.data.toList % 4294967296), .int .u32 (16777619 ^ sep.size % 4294967296)]) ∧ w' = w := Any.bytealg_hashStr Tryd.lays314 sep hs w
def Tryd.lays267_ren : Go.Shelf.Ren := ⟨fun | 267 => 81 | 314 => 84 | n => n, fun | 9 => 9 | 3 => 3 | 146 => 145 | 51 => 100 | 4 => 4 | 5 => 5 | 46 => 107 | n => n, fun | n => n⟩
theorem Tryd.lays267 : Go.Proofs.Lays.n267 Tryd.prog Tryd.lays267_ren := {
  mixed := by kernel_rfl
  f267 := Tryd.func81.trans (congrArg some (by kernel_rfl))
  f314 := Tryd.func84.trans (congrArg some (by kernel_rfl))
  t3 := Tryd.underlying3
  a3 := Tryd.isAgg3
  z3 := Tryd.sizeOf3
  v3 := Tryd.zeroValue3
  t4 := Tryd.underlying4
  a4 := Tryd.isAgg4
  z4 := Tryd.sizeOf4
  v4 := Tryd.zeroValue4
  t5 := Tryd.underlying5
  a5 := Tryd.isAgg5
  z5 := Tryd.sizeOf5
  v5 := Tryd.zeroValue5
  t9 := Tryd.underlying9
  a9 := Tryd.isAgg9
  z9 := Tryd.sizeOf9
  v9 := Tryd.zeroValue9
  t46 := Tryd.underlying107
  a46 := Tryd.isAgg107
  z46 := Tryd.sizeOf107
  v46 := Tryd.zeroValue107
  t51 := Tryd.underlying100
  a51 := Tryd.isAgg100
  z51 := Tryd.sizeOf100
  v51 := Tryd.zeroValue100
  t146 := Tryd.underlying145
  a146 := Tryd.isAgg145
  z146 := Tryd.sizeOf145
  v146 := Tryd.zeroValue145 }
open Go.RowKit Go.Lib in
theorem Tryd.bytealg_IndexRabinKarp (s sep : ByteArray) (h1 : 1 ≤ sep.size) (h2 : sep.size ≤ s.size) (hs : s.size < 4294967281) (w : World) :
    Calls Tryd.prog 81 #[.string s, .string sep] w fun e w' => e = .returned (.int .i64 (Lib.index s.data.toList sep.data.toList)) ∧ w' = w := Any.bytealg_IndexRabinKarp Tryd.lays267 s sep h1 h2 hs w
def Tryd.lays219_ren : Go.Shelf.Ren := ⟨fun | 219 => 69 | 217 => 78 | 225 => 79 | 224 => 80 | 267 => 81 | 266 => 83 | 314 => 84 | n => n, fun | 9 => 9 | 3 => 3 | 4 => 4 | 5 => 5 | 46 => 107 | 146 => 145 | 51 => 100 | n => n, fun | 1 => 3 | n => n⟩
theorem Tryd.lays219 : Go.Proofs.Lays.n219 Tryd.prog Tryd.lays219_ren := {
  mixed := by kernel_rfl
  f217 := Tryd.func78.trans (congrArg some (by kernel_rfl))
  f219 := Tryd.func69.trans (congrArg some (by kernel_rfl))
  f224 := Tryd.func80.trans (congrArg some (by kernel_rfl))
  f225 := Tryd.func79.trans (congrArg some (by kernel_rfl))
  f266 := Tryd.func83.trans (congrArg some (by kernel_rfl))
  f267 := Tryd.func81.trans (congrArg some (by kernel_rfl))
  f314 := Tryd.func84.trans (congrArg some (by kernel_rfl))
  t3 := Tryd.underlying3
  a3 := Tryd.isAgg3
  z3 := Tryd.sizeOf3
  v3 := Tryd.zeroValue3
  t4 := Tryd.underlying4
  a4 := Tryd.isAgg4
  z4 := Tryd.sizeOf4
  v4 := Tryd.zeroValue4
  t5 := Tryd.underlying5
  a5 := Tryd.isAgg5
  z5 := Tryd.sizeOf5
  v5 := Tryd.zeroValue5
  t9 := Tryd.underlying9
  a9 := Tryd.isAgg9
  z9 := Tryd.sizeOf9
  v9 := Tryd.zeroValue9
  t46 := Tryd.underlying107
  a46 := Tryd.isAgg107
  z46 := Tryd.sizeOf107
  v46 := Tryd.zeroValue107
  t51 := Tryd.underlying100
  a51 := Tryd.isAgg100
  z51 := Tryd.sizeOf100
  v51 := Tryd.zeroValue100
  t146 := Tryd.underlying145
  a146 := Tryd.isAgg145
  z146 := Tryd.sizeOf145
  v146 := Tryd.zeroValue145
  g1 := by kernel_rfl }
open Go.RowKit Go.Lib in
theorem Tryd.stringslite_Index_one (s : ByteArray) (c : UInt8) (w : World) :
    Calls Tryd.prog 69 #[.string s, .string ⟨#[c]⟩] w fun e w' => e = .returned (.int .i64 (Lib.indexByte s.data.toList c)) ∧ w' = w := Any.stringslite_Index_one Tryd.lays219 s c w
open Go.RowKit Go.Lib in
theorem Tryd.stringslite_Index (s sub : ByteArray) (m : Int) (w : World) (hs : s.size < 4294967281) (hm : w.cell? ⟨3, 0, none⟩ = some (.int .i64 m)) :
    Calls Tryd.prog 69 #[.string s, .string sub] w fun e w' => e = .returned (.int .i64 (Lib.index s.data.toList sub.data.toList)) ∧ w' = w := Any.stringslite_Index Tryd.lays219 s sub m w hs hm
def Tryd.lays143_ren : Go.Shelf.Ren := ⟨fun | 143 => 52 | 219 => 69 | 217 => 78 | 225 => 79 | 224 => 80 | 267 => 81 | 266 => 83 | 314 => 84 | n => n, fun | 9 => 9 | 3 => 3 | 4 => 4 | 5 => 5 | 46 => 107 | 146 => 145 | 51 => 100 | n => n, fun | 1 => 3 | n => n⟩
theorem Tryd.lays143 : Go.Proofs.Lays.n143 Tryd.prog Tryd.lays143_ren := {
  mixed := by kernel_rfl
  f143 := Tryd.func52.trans (congrArg some (by kernel_rfl))
  f217 := Tryd.func78.trans (congrArg some (by kernel_rfl))
  f219 := Tryd.func69.trans (congrArg some (by kernel_rfl))
  f224 := Tryd.func80.trans (congrArg some (by kernel_rfl))
  f225 := Tryd.func79.trans (congrArg some (by kernel_rfl))
  f266 := Tryd.func83.trans (congrArg some (by kernel_rfl))
  f267 := Tryd.func81.trans (congrArg some (by kernel_rfl))
  f314 := Tryd.func84.trans (congrArg some (by kernel_rfl))
  t3 := Tryd.underlying3
  a3 := Tryd.isAgg3
  z3 := Tryd.sizeOf3
  v3 := Tryd.zeroValue3
  t4 := Tryd.underlying4
  a4 := Tryd.isAgg4
  z4 := Tryd.sizeOf4
  v4 := Tryd.zeroValue4
  t5 := Tryd.underlying5
  a5 := Tryd.isAgg5
  z5 := Tryd.sizeOf5
  v5 := Tryd.zeroValue5
  t9 := Tryd.underlying9
  a9 := Tryd.isAgg9
  z9 := Tryd.sizeOf9
  v9 := Tryd.zeroValue9
  t46 := Tryd.underlying107
  a46 := Tryd.isAgg107
  z46 := Tryd.sizeOf107
  v46 := Tryd.zeroValue107
  t51 := Tryd.underlying100
  a51 := Tryd.isAgg100
  z51 := Tryd.sizeOf100
  v51 := Tryd.zeroValue100
  t146 := Tryd.underlying145
  a146 := Tryd.isAgg145
  z146 := Tryd.sizeOf145
  v146 := Tryd.zeroValue145
  g1 := by kernel_rfl }
open Go.RowKit Go.Lib in
/-- strings.Index: "Index returns the index of the first instance of substr in s, or -1 if substr is not present in s.": AT A substr OF ONE BYTE c: IT RETURNS 'Lib.indexByte s c'; the world is as it was. (LAID: no walk: one application.) -/
theorem Tryd.strings_Index_one (s : ByteArray) (c : UInt8) (w : World) :
    Calls Tryd.prog 52 #[.string s, .string ⟨#[c]⟩] w fun e w' => e = .returned (.int .i64 (Lib.indexByte s.data.toList c)) ∧ w' = w := Any.strings_Index_one Tryd.lays143 s c w
open Go.RowKit Go.Lib in
/-- strings.Index: "Index returns the index of the first instance of substr in s, or -1 if substr is not present in s.": IT RETURNS 'Lib.index s substr'; the world is as it was. (LAID: no walk: one application.) -/
theorem Tryd.strings_Index (s sub : ByteArray) (m : Int) (w : World) (hs : s.size < 4294967281) (hm : w.cell? ⟨3, 0, none⟩ = some (.int .i64 m)) :
    Calls Tryd.prog 52 #[.string s, .string sub] w fun e w' => e = .returned (.int .i64 (Lib.index s.data.toList sub.data.toList)) ∧ w' = w := Any.strings_Index Tryd.lays143 s sub m w hs hm
def Tryd.lays138_ren : Go.Shelf.Ren := ⟨fun | 138 => 51 | 195 => 67 | 218 => 68 | 143 => 52 | 219 => 69 | 217 => 78 | 225 => 79 | 224 => 80 | 267 => 81 | 266 => 83 | 314 => 84 | n => n, fun | 9 => 9 | 3 => 3 | 4 => 4 | 5 => 5 | 0 => 0 | 46 => 107 | 146 => 145 | 51 => 100 | n => n, fun | 1 => 3 | n => n⟩
theorem Tryd.lays138 : Go.Proofs.Lays.n138 Tryd.prog Tryd.lays138_ren := {
  mixed := by kernel_rfl
  f138 := Tryd.func51.trans (congrArg some (by kernel_rfl))
  f143 := Tryd.func52.trans (congrArg some (by kernel_rfl))
  f195 := Tryd.func67.trans (congrArg some (by kernel_rfl))
  f217 := Tryd.func78.trans (congrArg some (by kernel_rfl))
  f218 := Tryd.func68.trans (congrArg some (by kernel_rfl))
  f219 := Tryd.func69.trans (congrArg some (by kernel_rfl))
  f224 := Tryd.func80.trans (congrArg some (by kernel_rfl))
  f225 := Tryd.func79.trans (congrArg some (by kernel_rfl))
  f266 := Tryd.func83.trans (congrArg some (by kernel_rfl))
  f267 := Tryd.func81.trans (congrArg some (by kernel_rfl))
  f314 := Tryd.func84.trans (congrArg some (by kernel_rfl))
  t0 := Tryd.underlying0
  a0 := Tryd.isAgg0
  z0 := Tryd.sizeOf0
  v0 := Tryd.zeroValue0
  t3 := Tryd.underlying3
  a3 := Tryd.isAgg3
  z3 := Tryd.sizeOf3
  v3 := Tryd.zeroValue3
  t4 := Tryd.underlying4
  a4 := Tryd.isAgg4
  z4 := Tryd.sizeOf4
  v4 := Tryd.zeroValue4
  t5 := Tryd.underlying5
  a5 := Tryd.isAgg5
  z5 := Tryd.sizeOf5
  v5 := Tryd.zeroValue5
  t9 := Tryd.underlying9
  a9 := Tryd.isAgg9
  z9 := Tryd.sizeOf9
  v9 := Tryd.zeroValue9
  t46 := Tryd.underlying107
  a46 := Tryd.isAgg107
  z46 := Tryd.sizeOf107
  v46 := Tryd.zeroValue107
  t51 := Tryd.underlying100
  a51 := Tryd.isAgg100
  z51 := Tryd.sizeOf100
  v51 := Tryd.zeroValue100
  t146 := Tryd.underlying145
  a146 := Tryd.isAgg145
  z146 := Tryd.sizeOf145
  v146 := Tryd.zeroValue145
  g1 := by kernel_rfl }
open Go.RowKit Go.Lib in
/-- strings.Count AT A substr OF ONE BYTE ('hp'): "Count counts the number of non-overlapping instances of substr in s.": IT RETURNS 'Lib.countByte s (that byte)'; the world is as it was. ✋ NO CONTRACT HERE YET at an empty substr (utf8.RuneCountInString) or at a longer one (a loop over strings.Index). (LAID: no walk: one application.) -/
theorem Tryd.strings_Count_one (s : ByteArray) (c : UInt8) (w : World) :
    Calls Tryd.prog 51 #[.string s, .string ⟨#[c]⟩] w fun e w' => e = .returned (.int .i64 (Lib.countByte s.data.toList c)) ∧ w' = w := Any.strings_Count_one Tryd.lays138 s c w
open Go.RowKit Go.Lib in
/-- strings.Count AT A substr OF TWO BYTES OR MORE: "Count counts the number of non-overlapping instances of substr in s.": IT RETURNS 'Lib.count s substr'; the world is as it was. (LAID: no walk: one application.) -/
theorem Tryd.strings_Count (s sub : ByteArray) (m : Int) (w : World) (hs : s.size < 4294967281) (hm : w.cell? ⟨3, 0, none⟩ = some (.int .i64 m)) (h2 : 2 ≤ sub.size) :
    Calls Tryd.prog 51 #[.string s, .string sub] w fun e w' => e = .returned (.int .i64 (Lib.countB s sub)) ∧ w' = w := Any.strings_Count Tryd.lays138 s sub m w hs hm h2
def Tryd.laysM219_ren : Go.Shelf.Ren := ⟨fun | 219 => 69 | 217 => 78 | 225 => 79 | 224 => 80 | 267 => 81 | 266 => 83 | 314 => 84 | n => n, fun | 9 => 9 | 3 => 3 | 4 => 4 | 5 => 5 | 46 => 107 | 146 => 145 | 51 => 100 | n => n, fun | 1 => 3 | n => n⟩
theorem Tryd.laysM219 : Go.Proofs.LaysM.n219 Tryd.prog Tryd.laysM219_ren := {
  mixed := by kernel_rfl
  f217 := Tryd.func78.trans (congrArg some (by kernel_rfl))
  f219 := Tryd.func69.trans (congrArg some (by kernel_rfl))
  f224 := Tryd.func80.trans (congrArg some (by kernel_rfl))
  f225 := Tryd.func79.trans (congrArg some (by kernel_rfl))
  f266 := Tryd.func83.trans (congrArg some (by kernel_rfl))
  f267 := Tryd.func81.trans (congrArg some (by kernel_rfl))
  f314 := Tryd.func84.trans (congrArg some (by kernel_rfl))
  t3 := Tryd.underlying3
  a3 := Tryd.isAgg3
  z3 := Tryd.sizeOf3
  v3 := Tryd.zeroValue3
  t4 := Tryd.underlying4
  a4 := Tryd.isAgg4
  z4 := Tryd.sizeOf4
  v4 := Tryd.zeroValue4
  t5 := Tryd.underlying5
  a5 := Tryd.isAgg5
  z5 := Tryd.sizeOf5
  v5 := Tryd.zeroValue5
  t9 := Tryd.underlying9
  a9 := Tryd.isAgg9
  z9 := Tryd.sizeOf9
  v9 := Tryd.zeroValue9
  t46 := Tryd.underlying107
  a46 := Tryd.isAgg107
  z46 := Tryd.sizeOf107
  v46 := Tryd.zeroValue107
  t51 := Tryd.underlying100
  a51 := Tryd.isAgg100
  z51 := Tryd.sizeOf100
  v51 := Tryd.zeroValue100
  t146 := Tryd.underlying145
  a146 := Tryd.isAgg145
  z146 := Tryd.sizeOf145
  v146 := Tryd.zeroValue145
  g1 := by kernel_rfl
  i3 := by kernel_rfl
  i4 := by kernel_rfl
  i5 := by kernel_rfl
  i9 := by kernel_rfl
  i46 := by kernel_rfl
  i51 := by kernel_rfl
  i146 := by kernel_rfl
  m1 := by kernel_rfl
  s1_3 := fun w h => Go.Proofs.cell_of_shapedOpen_int (zero := #[.int .i64 0]) (t := 3) h (of_decide_eq_true (by kernel_rfl)) (by kernel_rfl) rfl (by kernel_rfl) (by kernel_rfl) Tryd.underlying3 }
open Go.RowKit Go.Lib in
theorem Tryd.stringslite_Index_shaped (s sub : ByteArray) (w : World) (h : w.ShapedOpen Tryd.prog) (hs : s.size < 4294967281) :
    Calls Tryd.prog 69 #[.string s, .string sub] w fun e w' => e = .returned (.int .i64 (Lib.index s.data.toList sub.data.toList)) ∧ w' = w := Any.stringslite_Index_shaped Tryd.laysM219 s sub w h hs
def Tryd.laysM143_ren : Go.Shelf.Ren := ⟨fun | 143 => 52 | 219 => 69 | 217 => 78 | 225 => 79 | 224 => 80 | 267 => 81 | 266 => 83 | 314 => 84 | n => n, fun | 9 => 9 | 3 => 3 | 4 => 4 | 5 => 5 | 46 => 107 | 146 => 145 | 51 => 100 | n => n, fun | 1 => 3 | n => n⟩
theorem Tryd.laysM143 : Go.Proofs.LaysM.n143 Tryd.prog Tryd.laysM143_ren := {
  mixed := by kernel_rfl
  f143 := Tryd.func52.trans (congrArg some (by kernel_rfl))
  f217 := Tryd.func78.trans (congrArg some (by kernel_rfl))
  f219 := Tryd.func69.trans (congrArg some (by kernel_rfl))
  f224 := Tryd.func80.trans (congrArg some (by kernel_rfl))
  f225 := Tryd.func79.trans (congrArg some (by kernel_rfl))
  f266 := Tryd.func83.trans (congrArg some (by kernel_rfl))
  f267 := Tryd.func81.trans (congrArg some (by kernel_rfl))
  f314 := Tryd.func84.trans (congrArg some (by kernel_rfl))
  t3 := Tryd.underlying3
  a3 := Tryd.isAgg3
  z3 := Tryd.sizeOf3
  v3 := Tryd.zeroValue3
  t4 := Tryd.underlying4
  a4 := Tryd.isAgg4
  z4 := Tryd.sizeOf4
  v4 := Tryd.zeroValue4
  t5 := Tryd.underlying5
  a5 := Tryd.isAgg5
  z5 := Tryd.sizeOf5
  v5 := Tryd.zeroValue5
  t9 := Tryd.underlying9
  a9 := Tryd.isAgg9
  z9 := Tryd.sizeOf9
  v9 := Tryd.zeroValue9
  t46 := Tryd.underlying107
  a46 := Tryd.isAgg107
  z46 := Tryd.sizeOf107
  v46 := Tryd.zeroValue107
  t51 := Tryd.underlying100
  a51 := Tryd.isAgg100
  z51 := Tryd.sizeOf100
  v51 := Tryd.zeroValue100
  t146 := Tryd.underlying145
  a146 := Tryd.isAgg145
  z146 := Tryd.sizeOf145
  v146 := Tryd.zeroValue145
  g1 := by kernel_rfl
  i3 := by kernel_rfl
  i4 := by kernel_rfl
  i5 := by kernel_rfl
  i9 := by kernel_rfl
  i46 := by kernel_rfl
  i51 := by kernel_rfl
  i146 := by kernel_rfl
  m1 := by kernel_rfl
  s1_3 := fun w h => Go.Proofs.cell_of_shapedOpen_int (zero := #[.int .i64 0]) (t := 3) h (of_decide_eq_true (by kernel_rfl)) (by kernel_rfl) rfl (by kernel_rfl) (by kernel_rfl) Tryd.underlying3 }
open Go.RowKit Go.Lib in
theorem Tryd.strings_Index_shaped (s sub : ByteArray) (w : World) (h : w.ShapedOpen Tryd.prog) (hs : s.size < 4294967281) :
    Calls Tryd.prog 52 #[.string s, .string sub] w fun e w' => e = .returned (.int .i64 (Lib.index s.data.toList sub.data.toList)) ∧ w' = w := Any.strings_Index_shaped Tryd.laysM143 s sub w h hs
def Tryd.laysM138_ren : Go.Shelf.Ren := ⟨fun | 138 => 51 | 195 => 67 | 218 => 68 | 143 => 52 | 219 => 69 | 217 => 78 | 225 => 79 | 224 => 80 | 267 => 81 | 266 => 83 | 314 => 84 | n => n, fun | 9 => 9 | 3 => 3 | 4 => 4 | 5 => 5 | 0 => 0 | 46 => 107 | 146 => 145 | 51 => 100 | n => n, fun | 1 => 3 | n => n⟩
theorem Tryd.laysM138 : Go.Proofs.LaysM.n138 Tryd.prog Tryd.laysM138_ren := {
  mixed := by kernel_rfl
  f138 := Tryd.func51.trans (congrArg some (by kernel_rfl))
  f143 := Tryd.func52.trans (congrArg some (by kernel_rfl))
  f195 := Tryd.func67.trans (congrArg some (by kernel_rfl))
  f217 := Tryd.func78.trans (congrArg some (by kernel_rfl))
  f218 := Tryd.func68.trans (congrArg some (by kernel_rfl))
  f219 := Tryd.func69.trans (congrArg some (by kernel_rfl))
  f224 := Tryd.func80.trans (congrArg some (by kernel_rfl))
  f225 := Tryd.func79.trans (congrArg some (by kernel_rfl))
  f266 := Tryd.func83.trans (congrArg some (by kernel_rfl))
  f267 := Tryd.func81.trans (congrArg some (by kernel_rfl))
  f314 := Tryd.func84.trans (congrArg some (by kernel_rfl))
  t0 := Tryd.underlying0
  a0 := Tryd.isAgg0
  z0 := Tryd.sizeOf0
  v0 := Tryd.zeroValue0
  t3 := Tryd.underlying3
  a3 := Tryd.isAgg3
  z3 := Tryd.sizeOf3
  v3 := Tryd.zeroValue3
  t4 := Tryd.underlying4
  a4 := Tryd.isAgg4
  z4 := Tryd.sizeOf4
  v4 := Tryd.zeroValue4
  t5 := Tryd.underlying5
  a5 := Tryd.isAgg5
  z5 := Tryd.sizeOf5
  v5 := Tryd.zeroValue5
  t9 := Tryd.underlying9
  a9 := Tryd.isAgg9
  z9 := Tryd.sizeOf9
  v9 := Tryd.zeroValue9
  t46 := Tryd.underlying107
  a46 := Tryd.isAgg107
  z46 := Tryd.sizeOf107
  v46 := Tryd.zeroValue107
  t51 := Tryd.underlying100
  a51 := Tryd.isAgg100
  z51 := Tryd.sizeOf100
  v51 := Tryd.zeroValue100
  t146 := Tryd.underlying145
  a146 := Tryd.isAgg145
  z146 := Tryd.sizeOf145
  v146 := Tryd.zeroValue145
  g1 := by kernel_rfl
  i0 := by kernel_rfl
  i3 := by kernel_rfl
  i4 := by kernel_rfl
  i5 := by kernel_rfl
  i9 := by kernel_rfl
  i46 := by kernel_rfl
  i51 := by kernel_rfl
  i146 := by kernel_rfl
  m1 := by kernel_rfl
  s1_3 := fun w h => Go.Proofs.cell_of_shapedOpen_int (zero := #[.int .i64 0]) (t := 3) h (of_decide_eq_true (by kernel_rfl)) (by kernel_rfl) rfl (by kernel_rfl) (by kernel_rfl) Tryd.underlying3 }
open Go.RowKit Go.Lib in
theorem Tryd.strings_Count_shaped (s sub : ByteArray) (w : World) (h : w.ShapedOpen Tryd.prog) (hs : s.size < 4294967281) (h2 : 2 ≤ sub.size) :
    Calls Tryd.prog 51 #[.string s, .string sub] w fun e w' => e = .returned (.int .i64 (Lib.countB s sub)) ∧ w' = w := Any.strings_Count_shaped Tryd.laysM138 s sub w h hs h2
open Go.RowKit Go.Lib in
theorem Tryd.strings_Count_any (s sep : ByteArray) (m : Int) (w : World) (hs : s.size < 4294967281) (hm : w.cell? ⟨3, 0, none⟩ = some (.int .i64 m)) (h1 : 1 ≤ sep.size) :
    Calls Tryd.prog 51 #[.string s, .string sep] w fun e w' => e = .returned (.int .i64 (Lib.countB s sep)) ∧ w' = w := Any.strings_Count_any Tryd.lays138 s sep m w hs hm h1
def Tryd.lays221_ren : Go.Shelf.Ren := ⟨fun | 221 => 35 | 268 => 50 | 138 => 51 | 143 => 52 | 195 => 67 | 197 => 32 | 218 => 68 | 219 => 69 | 260 => 49 | 217 => 78 | 225 => 79 | 224 => 80 | 267 => 81 | 266 => 83 | 314 => 84 | n => n, fun | 9 => 9 | 3 => 3 | 31 => 29 | 4 => 4 | 0 => 0 | 105 => 76 | 21 => 21 | 5 => 5 | 46 => 107 | 119 => 128 | 139 => 131 | 138 => 130 | 146 => 145 | 51 => 100 | n => n, fun | 1 => 3 | 3 => 1 | 4 => 2 | n => n⟩
theorem Tryd.lays221 : Go.Proofs.Lays.n221 Tryd.prog Tryd.lays221_ren := {
  mixed := by kernel_rfl
  f138 := Tryd.func51.trans (congrArg some (by kernel_rfl))
  f143 := Tryd.func52.trans (congrArg some (by kernel_rfl))
  f195 := Tryd.func67.trans (congrArg some (by kernel_rfl))
  f197 := Tryd.func32.trans (congrArg some (by kernel_rfl))
  f217 := Tryd.func78.trans (congrArg some (by kernel_rfl))
  f218 := Tryd.func68.trans (congrArg some (by kernel_rfl))
  f219 := Tryd.func69.trans (congrArg some (by kernel_rfl))
  f221 := Tryd.func35.trans (congrArg some (by kernel_rfl))
  f224 := Tryd.func80.trans (congrArg some (by kernel_rfl))
  f225 := Tryd.func79.trans (congrArg some (by kernel_rfl))
  f260 := Tryd.func49.trans (congrArg some (by kernel_rfl))
  f266 := Tryd.func83.trans (congrArg some (by kernel_rfl))
  f267 := Tryd.func81.trans (congrArg some (by kernel_rfl))
  f268 := Tryd.func50.trans (congrArg some (by kernel_rfl))
  f314 := Tryd.func84.trans (congrArg some (by kernel_rfl))
  t0 := Tryd.underlying0
  a0 := Tryd.isAgg0
  z0 := Tryd.sizeOf0
  v0 := Tryd.zeroValue0
  t3 := Tryd.underlying3
  a3 := Tryd.isAgg3
  z3 := Tryd.sizeOf3
  v3 := Tryd.zeroValue3
  t4 := Tryd.underlying4
  a4 := Tryd.isAgg4
  z4 := Tryd.sizeOf4
  v4 := Tryd.zeroValue4
  t5 := Tryd.underlying5
  a5 := Tryd.isAgg5
  z5 := Tryd.sizeOf5
  v5 := Tryd.zeroValue5
  t9 := Tryd.underlying9
  a9 := Tryd.isAgg9
  z9 := Tryd.sizeOf9
  v9 := Tryd.zeroValue9
  t21 := Tryd.underlying21
  a21 := Tryd.isAgg21
  z21 := Tryd.sizeOf21
  v21 := Tryd.zeroValue21
  t31 := Tryd.underlying29
  a31 := Tryd.isAgg29
  z31 := Tryd.sizeOf29
  v31 := Tryd.zeroValue29
  t46 := Tryd.underlying107
  a46 := Tryd.isAgg107
  z46 := Tryd.sizeOf107
  v46 := Tryd.zeroValue107
  t51 := Tryd.underlying100
  a51 := Tryd.isAgg100
  z51 := Tryd.sizeOf100
  v51 := Tryd.zeroValue100
  t105 := Tryd.underlying76
  a105 := Tryd.isAgg76
  z105 := Tryd.sizeOf76
  v105 := Tryd.zeroValue76
  t119 := Tryd.underlying128
  a119 := Tryd.isAgg128
  z119 := Tryd.sizeOf128
  t138 := Tryd.underlying130
  a138 := Tryd.isAgg130
  z138 := Tryd.sizeOf130
  v138 := Tryd.zeroValue130
  t139 := Tryd.underlying131
  a139 := Tryd.isAgg131
  z139 := Tryd.sizeOf131
  v139 := Tryd.zeroValue131
  t146 := Tryd.underlying145
  a146 := Tryd.isAgg145
  z146 := Tryd.sizeOf145
  v146 := Tryd.zeroValue145
  g1 := by kernel_rfl
  g3 := by kernel_rfl
  g4 := by kernel_rfl }
open Go.RowKit Go.Lib in
theorem Tryd.strings_genSplit (s sep : ByteArray) (sv : Nat) (n : Int) (N : Nat) (m : Int) (w : World) (hs : s.size < 4294967281) (hm : w.cell? ⟨3, 0, none⟩ = some (.int .i64 m)) (h1 : 1 ≤ sep.size) (hsv : sv ≤ sep.size) (hn0 : n ≠ 0) (hn63 : n ≤ 9223372036854775807) (hN : (N : Int) = min (if n < 0 then (Lib.countB s sep : Int) + 1 else n) ((s.size : Int) + 1)) :
    Calls Tryd.prog 35 #[.string s, .string sep, .int .i64 sv, .int .i64 n] w fun e w' =>
      e = .returned (.slice (some ⟨w.heap.size, 0, none⟩) (Lib.splitB sep sv (N - 1) s).length N) ∧ w' = w.alloc (.cells (Lib.cellsOf (Lib.splitB sep sv (N - 1) s) N) 9) := Any.strings_genSplit Tryd.lays221 (by kernel_rfl) s sep sv n N m w hs hm h1 hsv hn0 hn63 hN
def Tryd.lays146_ren : Go.Shelf.Ren := ⟨fun | 146 => 20 | 221 => 35 | 268 => 50 | 138 => 51 | 143 => 52 | 195 => 67 | 197 => 32 | 218 => 68 | 219 => 69 | 260 => 49 | 217 => 78 | 225 => 79 | 224 => 80 | 267 => 81 | 266 => 83 | 314 => 84 | n => n, fun | 9 => 9 | 31 => 29 | 3 => 3 | 4 => 4 | 0 => 0 | 105 => 76 | 21 => 21 | 5 => 5 | 46 => 107 | 119 => 128 | 139 => 131 | 138 => 130 | 146 => 145 | 51 => 100 | n => n, fun | 1 => 3 | 3 => 1 | 4 => 2 | n => n⟩
theorem Tryd.lays146 : Go.Proofs.Lays.n146 Tryd.prog Tryd.lays146_ren := {
  mixed := by kernel_rfl
  f138 := Tryd.func51.trans (congrArg some (by kernel_rfl))
  f143 := Tryd.func52.trans (congrArg some (by kernel_rfl))
  f146 := Tryd.func20.trans (congrArg some (by kernel_rfl))
  f195 := Tryd.func67.trans (congrArg some (by kernel_rfl))
  f197 := Tryd.func32.trans (congrArg some (by kernel_rfl))
  f217 := Tryd.func78.trans (congrArg some (by kernel_rfl))
  f218 := Tryd.func68.trans (congrArg some (by kernel_rfl))
  f219 := Tryd.func69.trans (congrArg some (by kernel_rfl))
  f221 := Tryd.func35.trans (congrArg some (by kernel_rfl))
  f224 := Tryd.func80.trans (congrArg some (by kernel_rfl))
  f225 := Tryd.func79.trans (congrArg some (by kernel_rfl))
  f260 := Tryd.func49.trans (congrArg some (by kernel_rfl))
  f266 := Tryd.func83.trans (congrArg some (by kernel_rfl))
  f267 := Tryd.func81.trans (congrArg some (by kernel_rfl))
  f268 := Tryd.func50.trans (congrArg some (by kernel_rfl))
  f314 := Tryd.func84.trans (congrArg some (by kernel_rfl))
  t0 := Tryd.underlying0
  a0 := Tryd.isAgg0
  z0 := Tryd.sizeOf0
  v0 := Tryd.zeroValue0
  t3 := Tryd.underlying3
  a3 := Tryd.isAgg3
  z3 := Tryd.sizeOf3
  v3 := Tryd.zeroValue3
  t4 := Tryd.underlying4
  a4 := Tryd.isAgg4
  z4 := Tryd.sizeOf4
  v4 := Tryd.zeroValue4
  t5 := Tryd.underlying5
  a5 := Tryd.isAgg5
  z5 := Tryd.sizeOf5
  v5 := Tryd.zeroValue5
  t9 := Tryd.underlying9
  a9 := Tryd.isAgg9
  z9 := Tryd.sizeOf9
  v9 := Tryd.zeroValue9
  t21 := Tryd.underlying21
  a21 := Tryd.isAgg21
  z21 := Tryd.sizeOf21
  v21 := Tryd.zeroValue21
  t31 := Tryd.underlying29
  a31 := Tryd.isAgg29
  z31 := Tryd.sizeOf29
  v31 := Tryd.zeroValue29
  t46 := Tryd.underlying107
  a46 := Tryd.isAgg107
  z46 := Tryd.sizeOf107
  v46 := Tryd.zeroValue107
  t51 := Tryd.underlying100
  a51 := Tryd.isAgg100
  z51 := Tryd.sizeOf100
  v51 := Tryd.zeroValue100
  t105 := Tryd.underlying76
  a105 := Tryd.isAgg76
  z105 := Tryd.sizeOf76
  v105 := Tryd.zeroValue76
  t119 := Tryd.underlying128
  a119 := Tryd.isAgg128
  z119 := Tryd.sizeOf128
  t138 := Tryd.underlying130
  a138 := Tryd.isAgg130
  z138 := Tryd.sizeOf130
  v138 := Tryd.zeroValue130
  t139 := Tryd.underlying131
  a139 := Tryd.isAgg131
  z139 := Tryd.sizeOf131
  v139 := Tryd.zeroValue131
  t146 := Tryd.underlying145
  a146 := Tryd.isAgg145
  z146 := Tryd.sizeOf145
  v146 := Tryd.zeroValue145
  g1 := by kernel_rfl
  g3 := by kernel_rfl
  g4 := by kernel_rfl }
open Go.RowKit Go.Lib in
theorem Tryd.strings_Split (s sep : ByteArray) (m : Int) (w : World) (hs : s.size < 4294967281) (hm : w.cell? ⟨3, 0, none⟩ = some (.int .i64 m)) (h1 : 1 ≤ sep.size) :
    Calls Tryd.prog 20 #[.string s, .string sep] w fun e w' =>
      e = .returned (.slice (some ⟨w.heap.size, 0, none⟩) (Lib.countB s sep + 1) (Lib.countB s sep + 1)) ∧ w' = w.alloc (.cells ((Lib.splitB sep 0 (Lib.countB s sep) s).map Value.string).toArray 9) := Any.strings_Split Tryd.lays146 (by kernel_rfl) s sep m w hs hm h1
def Tryd.laysM146_ren : Go.Shelf.Ren := ⟨fun | 146 => 20 | 221 => 35 | 268 => 50 | 138 => 51 | 143 => 52 | 195 => 67 | 197 => 32 | 218 => 68 | 219 => 69 | 260 => 49 | 217 => 78 | 225 => 79 | 224 => 80 | 267 => 81 | 266 => 83 | 314 => 84 | n => n, fun | 9 => 9 | 31 => 29 | 3 => 3 | 4 => 4 | 0 => 0 | 105 => 76 | 21 => 21 | 5 => 5 | 46 => 107 | 119 => 128 | 139 => 131 | 138 => 130 | 146 => 145 | 51 => 100 | n => n, fun | 1 => 3 | 3 => 1 | 4 => 2 | n => n⟩
theorem Tryd.laysM146 : Go.Proofs.LaysM.n146 Tryd.prog Tryd.laysM146_ren := {
  mixed := by kernel_rfl
  f138 := Tryd.func51.trans (congrArg some (by kernel_rfl))
  f143 := Tryd.func52.trans (congrArg some (by kernel_rfl))
  f146 := Tryd.func20.trans (congrArg some (by kernel_rfl))
  f195 := Tryd.func67.trans (congrArg some (by kernel_rfl))
  f197 := Tryd.func32.trans (congrArg some (by kernel_rfl))
  f217 := Tryd.func78.trans (congrArg some (by kernel_rfl))
  f218 := Tryd.func68.trans (congrArg some (by kernel_rfl))
  f219 := Tryd.func69.trans (congrArg some (by kernel_rfl))
  f221 := Tryd.func35.trans (congrArg some (by kernel_rfl))
  f224 := Tryd.func80.trans (congrArg some (by kernel_rfl))
  f225 := Tryd.func79.trans (congrArg some (by kernel_rfl))
  f260 := Tryd.func49.trans (congrArg some (by kernel_rfl))
  f266 := Tryd.func83.trans (congrArg some (by kernel_rfl))
  f267 := Tryd.func81.trans (congrArg some (by kernel_rfl))
  f268 := Tryd.func50.trans (congrArg some (by kernel_rfl))
  f314 := Tryd.func84.trans (congrArg some (by kernel_rfl))
  t0 := Tryd.underlying0
  a0 := Tryd.isAgg0
  z0 := Tryd.sizeOf0
  v0 := Tryd.zeroValue0
  t3 := Tryd.underlying3
  a3 := Tryd.isAgg3
  z3 := Tryd.sizeOf3
  v3 := Tryd.zeroValue3
  t4 := Tryd.underlying4
  a4 := Tryd.isAgg4
  z4 := Tryd.sizeOf4
  v4 := Tryd.zeroValue4
  t5 := Tryd.underlying5
  a5 := Tryd.isAgg5
  z5 := Tryd.sizeOf5
  v5 := Tryd.zeroValue5
  t9 := Tryd.underlying9
  a9 := Tryd.isAgg9
  z9 := Tryd.sizeOf9
  v9 := Tryd.zeroValue9
  t21 := Tryd.underlying21
  a21 := Tryd.isAgg21
  z21 := Tryd.sizeOf21
  v21 := Tryd.zeroValue21
  t31 := Tryd.underlying29
  a31 := Tryd.isAgg29
  z31 := Tryd.sizeOf29
  v31 := Tryd.zeroValue29
  t46 := Tryd.underlying107
  a46 := Tryd.isAgg107
  z46 := Tryd.sizeOf107
  v46 := Tryd.zeroValue107
  t51 := Tryd.underlying100
  a51 := Tryd.isAgg100
  z51 := Tryd.sizeOf100
  v51 := Tryd.zeroValue100
  t105 := Tryd.underlying76
  a105 := Tryd.isAgg76
  z105 := Tryd.sizeOf76
  v105 := Tryd.zeroValue76
  t119 := Tryd.underlying128
  a119 := Tryd.isAgg128
  z119 := Tryd.sizeOf128
  t138 := Tryd.underlying130
  a138 := Tryd.isAgg130
  z138 := Tryd.sizeOf130
  v138 := Tryd.zeroValue130
  t139 := Tryd.underlying131
  a139 := Tryd.isAgg131
  z139 := Tryd.sizeOf131
  v139 := Tryd.zeroValue131
  t146 := Tryd.underlying145
  a146 := Tryd.isAgg145
  z146 := Tryd.sizeOf145
  v146 := Tryd.zeroValue145
  g1 := by kernel_rfl
  g3 := by kernel_rfl
  g4 := by kernel_rfl
  i0 := by kernel_rfl
  i3 := by kernel_rfl
  i4 := by kernel_rfl
  i5 := by kernel_rfl
  i9 := by kernel_rfl
  i21 := by kernel_rfl
  i31 := by kernel_rfl
  i46 := by kernel_rfl
  i51 := by kernel_rfl
  i105 := by kernel_rfl
  i138 := by kernel_rfl
  i139 := by kernel_rfl
  i146 := by kernel_rfl
  m1 := by kernel_rfl
  s1_3 := fun w h => Go.Proofs.cell_of_shapedOpen_int (zero := #[.int .i64 0]) (t := 3) h (of_decide_eq_true (by kernel_rfl)) (by kernel_rfl) rfl (by kernel_rfl) (by kernel_rfl) Tryd.underlying3
  m3 := by kernel_rfl
  m4 := by kernel_rfl }
open Go.RowKit Go.Lib in
theorem Tryd.strings_Split_shaped (s sep : ByteArray) (w : World) (h : w.ShapedOpen Tryd.prog) (hs : s.size < 4294967281) (h1 : 1 ≤ sep.size) :
    Calls Tryd.prog 20 #[.string s, .string sep] w fun e w' =>
      e = .returned (.slice (some ⟨w.heap.size, 0, none⟩) (Lib.countB s sep + 1) (Lib.countB s sep + 1)) ∧ w' = w.alloc (.cells ((Lib.splitB sep 0 (Lib.countB s sep) s).map Value.string).toArray 9) := Any.strings_Split_shaped Tryd.laysM146 s sep w h hs h1
def Tryd.lays197_ren : Go.Shelf.Ren := ⟨fun | 197 => 32 | 260 => 49 | n => n, fun | 9 => 9 | 21 => 21 | 3 => 3 | 4 => 4 | 5 => 5 | 105 => 76 | 119 => 128 | 0 => 0 | 46 => 107 | 139 => 131 | 138 => 130 | n => n, fun | 3 => 1 | 4 => 2 | n => n⟩
theorem Tryd.lays197 : Go.Proofs.Lays.n197 Tryd.prog Tryd.lays197_ren := {
  mixed := by kernel_rfl
  f197 := Tryd.func32.trans (congrArg some (by kernel_rfl))
  f260 := Tryd.func49.trans (congrArg some (by kernel_rfl))
  t0 := Tryd.underlying0
  a0 := Tryd.isAgg0
  z0 := Tryd.sizeOf0
  v0 := Tryd.zeroValue0
  t3 := Tryd.underlying3
  a3 := Tryd.isAgg3
  z3 := Tryd.sizeOf3
  v3 := Tryd.zeroValue3
  t4 := Tryd.underlying4
  a4 := Tryd.isAgg4
  z4 := Tryd.sizeOf4
  v4 := Tryd.zeroValue4
  t5 := Tryd.underlying5
  a5 := Tryd.isAgg5
  z5 := Tryd.sizeOf5
  v5 := Tryd.zeroValue5
  t9 := Tryd.underlying9
  a9 := Tryd.isAgg9
  z9 := Tryd.sizeOf9
  v9 := Tryd.zeroValue9
  t21 := Tryd.underlying21
  a21 := Tryd.isAgg21
  z21 := Tryd.sizeOf21
  v21 := Tryd.zeroValue21
  t46 := Tryd.underlying107
  a46 := Tryd.isAgg107
  z46 := Tryd.sizeOf107
  v46 := Tryd.zeroValue107
  t105 := Tryd.underlying76
  a105 := Tryd.isAgg76
  z105 := Tryd.sizeOf76
  v105 := Tryd.zeroValue76
  t119 := Tryd.underlying128
  a119 := Tryd.isAgg128
  z119 := Tryd.sizeOf128
  t138 := Tryd.underlying130
  a138 := Tryd.isAgg130
  z138 := Tryd.sizeOf130
  v138 := Tryd.zeroValue130
  t139 := Tryd.underlying131
  a139 := Tryd.isAgg131
  z139 := Tryd.sizeOf131
  v139 := Tryd.zeroValue131
  g3 := by kernel_rfl
  g4 := by kernel_rfl }
open Go.RowKit Go.Lib in
/-- unicode/utf8.DecodeRuneInString: "DecodeRuneInString is like DecodeRune but its input is a string.": ("DecodeRune unpacks the first UTF-8 encoding in p and returns the rune and its width in bytes."): WHERE s BEGINS WITH AN ASCII BYTE x: (x, 1). (LAID: no walk: one application.) -/
theorem Tryd.utf8_DecodeRuneInString_ascii (s : ByteArray) (x : UInt8) (w : World) (h0 : s.data.toList[0]? = some x) (hx : x.toNat < 128) :
    Calls Tryd.prog 32 #[.string s] w fun e w' => e = .returned (.tuple #[.int .i32 x.toNat, .int .i64 1]) ∧ w' = w := Any.utf8_DecodeRuneInString_ascii Tryd.lays197 s x w h0 hx
open Go.RowKit Go.Lib in
theorem Tryd.utf8_RuneCountInString_ascii (s : ByteArray) (w : World) (hs : s.size < 4294967281) (hascii : ∀ (j : Nat) b, s.data.toList[j]? = some b → b.toNat < 128) :
    Calls Tryd.prog 67 #[.string s] w fun e w' => e = .returned (.int .i64 s.size) ∧ w' = w.iter s s.size := Any.utf8_RuneCountInString_ascii Tryd.lays195 s w hs hascii
def Tryd.lays268_ren : Go.Shelf.Ren := ⟨fun | 268 => 50 | 195 => 67 | 197 => 32 | 260 => 49 | n => n, fun | 9 => 9 | 3 => 3 | 31 => 29 | 4 => 4 | 105 => 76 | 21 => 21 | 0 => 0 | 5 => 5 | 119 => 128 | 46 => 107 | 139 => 131 | 138 => 130 | n => n, fun | 3 => 1 | 4 => 2 | n => n⟩
theorem Tryd.lays268 : Go.Proofs.Lays.n268 Tryd.prog Tryd.lays268_ren := {
  mixed := by kernel_rfl
  f195 := Tryd.func67.trans (congrArg some (by kernel_rfl))
  f197 := Tryd.func32.trans (congrArg some (by kernel_rfl))
  f260 := Tryd.func49.trans (congrArg some (by kernel_rfl))
  f268 := Tryd.func50.trans (congrArg some (by kernel_rfl))
  t0 := Tryd.underlying0
  a0 := Tryd.isAgg0
  z0 := Tryd.sizeOf0
  v0 := Tryd.zeroValue0
  t3 := Tryd.underlying3
  a3 := Tryd.isAgg3
  z3 := Tryd.sizeOf3
  v3 := Tryd.zeroValue3
  t4 := Tryd.underlying4
  a4 := Tryd.isAgg4
  z4 := Tryd.sizeOf4
  v4 := Tryd.zeroValue4
  t5 := Tryd.underlying5
  a5 := Tryd.isAgg5
  z5 := Tryd.sizeOf5
  v5 := Tryd.zeroValue5
  t9 := Tryd.underlying9
  a9 := Tryd.isAgg9
  z9 := Tryd.sizeOf9
  v9 := Tryd.zeroValue9
  t21 := Tryd.underlying21
  a21 := Tryd.isAgg21
  z21 := Tryd.sizeOf21
  v21 := Tryd.zeroValue21
  t31 := Tryd.underlying29
  a31 := Tryd.isAgg29
  z31 := Tryd.sizeOf29
  v31 := Tryd.zeroValue29
  t46 := Tryd.underlying107
  a46 := Tryd.isAgg107
  z46 := Tryd.sizeOf107
  v46 := Tryd.zeroValue107
  t105 := Tryd.underlying76
  a105 := Tryd.isAgg76
  z105 := Tryd.sizeOf76
  v105 := Tryd.zeroValue76
  t119 := Tryd.underlying128
  a119 := Tryd.isAgg128
  z119 := Tryd.sizeOf128
  t138 := Tryd.underlying130
  a138 := Tryd.isAgg130
  z138 := Tryd.sizeOf130
  v138 := Tryd.zeroValue130
  t139 := Tryd.underlying131
  a139 := Tryd.isAgg131
  z139 := Tryd.sizeOf131
  v139 := Tryd.zeroValue131
  g3 := by kernel_rfl
  g4 := by kernel_rfl }
open Go.RowKit Go.Lib in
theorem Tryd.strings_explode_all (s : ByteArray) (n : Int) (w : World) (hn : n < 0) (hs : s.size < 4294967281) (hascii : ∀ (j : Nat) b, s.data.toList[j]? = some b → b.toNat < 128) :
    Calls Tryd.prog 50 #[.string s, .int .i64 n] w fun e w' =>
      e = .returned (.slice (some ⟨(w.iter s s.size).heap.size, 0, none⟩) s.size s.size) ∧ w' = (w.iter s s.size).alloc (.cells ((Lib.charsB s).map Value.string).toArray 9) := Any.strings_explode_all Tryd.lays268 (by kernel_rfl) s n w hn hs hascii
open Go.RowKit Go.Lib in
theorem Tryd.strings_genSplit_chars (s sep : ByteArray) (sv n : Int) (w : World) (h0 : sep.size = 0) (hn : n < 0) (hs : s.size < 4294967281) (hascii : ∀ (j : Nat) b, s.data.toList[j]? = some b → b.toNat < 128) :
    Calls Tryd.prog 35 #[.string s, .string sep, .int .i64 sv, .int .i64 n] w fun e w' =>
      e = .returned (.slice (some ⟨(w.iter s s.size).heap.size, 0, none⟩) s.size s.size) ∧ w' = (w.iter s s.size).alloc (.cells ((Lib.charsB s).map Value.string).toArray 9) := Any.strings_genSplit_chars Tryd.lays221 (by kernel_rfl) s sep sv n w h0 hn hs hascii
open Go.RowKit Go.Lib in
theorem Tryd.strings_Split_chars (s sep : ByteArray) (w : World) (h0 : sep.size = 0) (hs : s.size < 4294967281) (hascii : ∀ (j : Nat) b, s.data.toList[j]? = some b → b.toNat < 128) :
    Calls Tryd.prog 20 #[.string s, .string sep] w fun e w' =>
      e = .returned (.slice (some ⟨(w.iter s s.size).heap.size, 0, none⟩) s.size s.size) ∧ w' = (w.iter s s.size).alloc (.cells ((Lib.charsB s).map Value.string).toArray 9) := Any.strings_Split_chars Tryd.lays146 (by kernel_rfl) s sep w h0 hs hascii
def Tryd.lays260_ren : Go.Shelf.Ren := ⟨fun | 260 => 49 | n => n, fun | 9 => 9 | 21 => 21 | 3 => 3 | 4 => 4 | 5 => 5 | 119 => 128 | 0 => 0 | 46 => 107 | 139 => 131 | 138 => 130 | n => n, fun | 3 => 1 | 4 => 2 | n => n⟩
theorem Tryd.lays260 : Go.Proofs.Lays.n260 Tryd.prog Tryd.lays260_ren := {
  mixed := by kernel_rfl
  f260 := Tryd.func49.trans (congrArg some (by kernel_rfl))
  t0 := Tryd.underlying0
  a0 := Tryd.isAgg0
  z0 := Tryd.sizeOf0
  v0 := Tryd.zeroValue0
  t3 := Tryd.underlying3
  a3 := Tryd.isAgg3
  z3 := Tryd.sizeOf3
  v3 := Tryd.zeroValue3
  t4 := Tryd.underlying4
  a4 := Tryd.isAgg4
  z4 := Tryd.sizeOf4
  v4 := Tryd.zeroValue4
  t5 := Tryd.underlying5
  a5 := Tryd.isAgg5
  z5 := Tryd.sizeOf5
  v5 := Tryd.zeroValue5
  t9 := Tryd.underlying9
  a9 := Tryd.isAgg9
  z9 := Tryd.sizeOf9
  v9 := Tryd.zeroValue9
  t21 := Tryd.underlying21
  a21 := Tryd.isAgg21
  z21 := Tryd.sizeOf21
  v21 := Tryd.zeroValue21
  t46 := Tryd.underlying107
  a46 := Tryd.isAgg107
  z46 := Tryd.sizeOf107
  v46 := Tryd.zeroValue107
  t119 := Tryd.underlying128
  a119 := Tryd.isAgg128
  z119 := Tryd.sizeOf128
  t138 := Tryd.underlying130
  a138 := Tryd.isAgg130
  z138 := Tryd.sizeOf130
  v138 := Tryd.zeroValue130
  t139 := Tryd.underlying131
  a139 := Tryd.isAgg131
  z139 := Tryd.sizeOf131
  v139 := Tryd.zeroValue131
  g3 := by kernel_rfl
  g4 := by kernel_rfl }
open Go.RowKit Go.Lib in
theorem Tryd.utf8_decodeRuneInStringSlow (s : ByteArray) (w : World) (hT : Lib.Utf8Tabs 1 2 w) :
    Calls Tryd.prog 49 #[.string s] w fun e w' => e = .returned (.tuple #[.int .i32 (Lib.decodeGo s).1, .int .i64 (Lib.decodeGo s).2]) ∧ Below w.heap.size w w' := Any.utf8_decodeRuneInStringSlow Tryd.lays260 s w hT
open Go.RowKit Go.Lib in
theorem Tryd.utf8_DecodeRuneInString (s : ByteArray) (w : World) (hT : Lib.Utf8Tabs 1 2 w) :
    Calls Tryd.prog 32 #[.string s] w fun e w' => e = .returned (.tuple #[.int .i32 (Lib.decodeGo s).1, .int .i64 (Lib.decodeGo s).2]) ∧ Below w.heap.size w w' := Any.utf8_DecodeRuneInString Tryd.lays197 s w hT
end Go.Proofs

/-! (*strings.Builder) at this program. -/
namespace Go.Proofs
open Go.RowKit Go.Shelf

def Tryd.wb_ren : Go.Shelf.Ren := ⟨fun | 167 => 16 | 166 => 18 | 169 => 19 | 240 => 31 | 276 => 48 | n => n, fun | 37 => 51 | 70 => 50 | 72 => 53 | 75 => 55 | 164 => 86 | 80 => 61 | 76 => 59 | 46 => 107 | 127 => 80 | n => n, fun | n => n⟩
theorem Tryd.wlays167 : Go.Proofs.Lays.n167 Tryd.prog Tryd.wb_ren := {
  mixed := by kernel_rfl
  f167 := Tryd.func16.trans (congrArg some (by kernel_rfl))
  f240 := Tryd.func31.trans (congrArg some (by kernel_rfl))
  f276 := Tryd.func48.trans (congrArg some (by kernel_rfl))
  t0 := Tryd.underlying0
  a0 := Tryd.isAgg0
  z0 := Tryd.sizeOf0
  v0 := Tryd.zeroValue0
  t4 := Tryd.underlying4
  a4 := Tryd.isAgg4
  z4 := Tryd.sizeOf4
  v4 := Tryd.zeroValue4
  t5 := Tryd.underlying5
  a5 := Tryd.isAgg5
  z5 := Tryd.sizeOf5
  v5 := Tryd.zeroValue5
  t9 := Tryd.underlying9
  a9 := Tryd.isAgg9
  z9 := Tryd.sizeOf9
  v9 := Tryd.zeroValue9
  t20 := Tryd.underlying20
  a20 := Tryd.isAgg20
  z20 := Tryd.sizeOf20
  v20 := Tryd.zeroValue20
  t37 := Tryd.underlying51
  a37 := Tryd.isAgg51
  z37 := Tryd.sizeOf51
  v37 := Tryd.zeroValue51
  t70 := Tryd.underlying50
  a70 := Tryd.isAgg50
  z70 := Tryd.sizeOf50
  v70 := Tryd.zeroValue50
  t72 := Tryd.underlying53
  a72 := Tryd.isAgg53
  z72 := Tryd.sizeOf53
  v72 := Tryd.zeroValue53
  t75 := Tryd.underlying55
  a75 := Tryd.isAgg55
  z75 := Tryd.sizeOf55
  v75 := Tryd.zeroValue55
  t164 := Tryd.underlying86
  a164 := Tryd.isAgg86
  z164 := Tryd.sizeOf86
  v164 := Tryd.zeroValue86 }
theorem Tryd.wlays166 : Go.Proofs.Lays.n166 Tryd.prog Tryd.wb_ren := {
  mixed := by kernel_rfl
  f166 := Tryd.func18.trans (congrArg some (by kernel_rfl))
  f240 := Tryd.func31.trans (congrArg some (by kernel_rfl))
  f276 := Tryd.func48.trans (congrArg some (by kernel_rfl))
  t0 := Tryd.underlying0
  a0 := Tryd.isAgg0
  z0 := Tryd.sizeOf0
  v0 := Tryd.zeroValue0
  t3 := Tryd.underlying3
  a3 := Tryd.isAgg3
  z3 := Tryd.sizeOf3
  v3 := Tryd.zeroValue3
  t4 := Tryd.underlying4
  a4 := Tryd.isAgg4
  z4 := Tryd.sizeOf4
  v4 := Tryd.zeroValue4
  t9 := Tryd.underlying9
  a9 := Tryd.isAgg9
  z9 := Tryd.sizeOf9
  v9 := Tryd.zeroValue9
  t20 := Tryd.underlying20
  a20 := Tryd.isAgg20
  z20 := Tryd.sizeOf20
  v20 := Tryd.zeroValue20
  t37 := Tryd.underlying51
  a37 := Tryd.isAgg51
  z37 := Tryd.sizeOf51
  v37 := Tryd.zeroValue51
  t70 := Tryd.underlying50
  a70 := Tryd.isAgg50
  z70 := Tryd.sizeOf50
  v70 := Tryd.zeroValue50
  t72 := Tryd.underlying53
  a72 := Tryd.isAgg53
  z72 := Tryd.sizeOf53
  v72 := Tryd.zeroValue53
  t75 := Tryd.underlying55
  a75 := Tryd.isAgg55
  z75 := Tryd.sizeOf55
  v75 := Tryd.zeroValue55
  t164 := Tryd.underlying86
  a164 := Tryd.isAgg86
  z164 := Tryd.sizeOf86
  v164 := Tryd.zeroValue86 }
theorem Tryd.wb_extra : Builder.Extra Tryd.prog Tryd.wb_ren := {
  sizeBuilder := by kernel_rfl
  liesBuilder := by kernel_rfl
  t5 := Tryd.underlying5
  a5 := Tryd.isAgg5
  z5 := Tryd.sizeOf5
  v5 := Tryd.zeroValue5
  infoByte := by kernel_rfl
  cellsByte := by kernel_rfl
  sizeByte := by kernel_rfl
  neB5 := by decide }

theorem Tryd.wbyte (B b : Nat) (bs : List Value) (c : Int) (w : World) (h : Lib.IsBuilderF 53 5 B b bs w) (hlen : bs.length + 1 ≤ 140737488355328) (hBw : B ≤ w.heap.size) :
    Calls Tryd.prog 16 #[.pointer (some ⟨b, 0, none⟩), .int .u8 c] w fun e w' => e = .returned .nilIface ∧ (Lib.BuilderAtF 53 5 B b (.pointer (some ⟨b, 0, none⟩)) (bs ++ [.int .u8 c]) w' ∧ Below B w w' ∧ Lib.OthersKept 5 (some b) w w') :=
  Any.Builder_WriteByte_k Tryd.wlays167 Tryd.wb_extra B b bs c w h hlen hBw
theorem Tryd.wstring (B b : Nat) (bs : List Value) (s : ByteArray) (w : World) (h : Lib.IsBuilderF 53 5 B b bs w) (hlen : bs.length + s.size ≤ 140737488355328) (hBw : B ≤ w.heap.size) :
    Calls Tryd.prog 18 #[.pointer (some ⟨b, 0, none⟩), .string s] w fun e w' => e = .returned (.tuple #[.int .i64 s.size, .nilIface]) ∧ (Lib.BuilderAtF 53 5 B b (.pointer (some ⟨b, 0, none⟩)) (bs ++ Lib.strCells s) w' ∧ Below B w w' ∧ Lib.OthersKept 5 (some b) w w') :=
  Any.Builder_WriteString_k Tryd.wlays166 Tryd.wb_extra B b bs s w h hlen hBw
end Go.Proofs

/-! What stays in the world; the library's functions as L has them. -/
namespace Go.Proofs.YthfhbbhacaejoaaDoor
open Go.RowKit

def errorT : Value := .iface 113 (.agg #[.pointer (some ⟨4, 55, none⟩)])
def Tabs (w : World) : Prop := Lib.Utf8Tabs 1 2 w ∧ (∃ m, w.cell? ⟨3, 0, none⟩ = some (.int .i64 m)) ∧ w.cell? ⟨0, 0, none⟩ = some errorT

def kw : Lk.KW := ⟨Tabs, 4⟩

def ax : Lk.Ax where
  own _ _ _ _ _ := False
  keep h _ := h.elim
  lt h := h.elim
  ptr h := h.elim
  err T u := T = 66 ∧ ∃ n, u = .agg #[.int .i64 n]

theorem cell_keep {w w' : World} {B : List Nat} (hx : Lk.Ext B w w') {a : Addr} {v : Value} (hB : a.block ∉ B) (h : w.cell? a = some v) : w'.cell? a = some v := by
  have hlt : a.block < w.heap.size := by
    unfold World.cell? at h
    rcases Nat.lt_or_ge a.block w.heap.size with h' | h'
    · exact h'
    · rw [Array.getElem?_eq_none h'] at h; cases h
  unfold World.cell? at h ⊢
  rw [hx.block a.block hlt hB]
  exact h

theorem tabs_keep (w w' : World) (B : List Nat) (h : Tabs w) (hB : ∀ b ∈ B, 4 ≤ b) (hx : Lk.Ext B w w') : Tabs w' := by
  have hn : ∀ k, k < 4 → k ∉ B := fun k hk hkB => by have := hB k hkB; omega
  obtain ⟨⟨h1, h2⟩, ⟨m, h3⟩, h4⟩ := h
  exact ⟨⟨fun c hc => cell_keep hx (hn 1 (by omega)) (h1 c hc), fun i hi => ⟨cell_keep hx (hn 2 (by omega)) (h2 i hi).1, cell_keep hx (hn 2 (by omega)) (h2 i hi).2⟩⟩, ⟨m, cell_keep hx (hn 3 (by omega)) h3⟩, cell_keep hx (hn 0 (by omega)) h4⟩

theorem ads_cons {ads : List Lk.DV} {t : Lk.Ty} {m : Lk.Md} {x : Lk.E t} {rest : List Lk.AV} (h : ads.map Lk.DV.av = ⟨t, m, x⟩ :: rest) : ∃ sh ads', ads = ⟨t, m, x, sh⟩ :: ads' ∧ ads'.map Lk.DV.av = rest := by
  cases ads with
  | nil => cases h
  | cons d r =>
    obtain ⟨t', m', x', sh⟩ := d
    simp only [List.map_cons, Lk.DV.av, List.cons.injEq, Lk.AV.mk.injEq] at h
    obtain ⟨⟨rfl, rfl, hx⟩, hr⟩ := h
    obtain rfl := eq_of_heq hx
    exact ⟨sh, r, rfl, hr⟩
theorem ads_nil {ads : List Lk.DV} (h : ads.map Lk.DV.av = []) : ads = [] := List.map_eq_nil_iff.1 h

theorem ext_of_below {w w' : World} (h : Below w.heap.size w w') : Lk.Ext [] w w' := ⟨h.os, h.tape, h.output, h.size, fun b hb _ => h.block b hb⟩
theorem below_of_ext {w w' : World} (h : Lk.Ext [] w w') : Below w.heap.size w w' := ⟨h.os, h.tape, h.output, h.size, fun b hb => h.block b hb (by simp)⟩

theorem res_flat {w w' : World} {S : Nat → Prop} {B : List Nat} {us : List Lk.AV} {nr : Nat} {ads : List Lk.DV} {v : Value} (rds : List Lk.DV) (h1 : rds.map Lk.DV.av = us) (hS : ∀ b, S b → b < w.heap.size) (hsz : w.heap.size ≤ w'.heap.size)
    (hh : ∀ d ∈ rds, d.hold ax S S w') (hn : Lk.blsOf rds = []) (hv : v = Lk.resV (τ := ax) (rds.take nr)) (hd : rds.drop nr = []) (ha : (ads.filter fun d => Lk.isO d.m) = []) :
    Lk.ResAre (τ := ax) w w' S B us nr ads v :=
  ⟨⟨rds, S, h1, fun _ h => h, fun _ h => .inl h, fun b hb => Nat.lt_of_lt_of_le (hS b hb) hsz, hh, by rw [hn]; simp, by rw [hn]; simp, hv, by rw [hd, ha]⟩⟩

theorem inR64 {n : Int} (h0 : -9223372036854775808 ≤ n) (h1 : n ≤ 9223372036854775807) : Lk.inR .i64 n := ⟨h0, h1⟩

theorem ok_rune : Lk.FnOk (τ := ax) (Kw := kw) Tryd.prog 32 ⟨[(.s, .r)], [(.i .i32, .r), (.i .i64, .r)], 2⟩ (fun x => some ((NqG.e37 x.1).1, (NqG.e37 x.1).2, ())) := by
  rintro ⟨s, _⟩ res hx w S Sb ads hK hs ha hargs
  cases hx
  obtain ⟨sh, ads', rfl, ha1⟩ := ads_cons ha
  obtain rfl := ads_nil ha1
  refine (show Calls Tryd.prog 32 #[.string ⟨(s : List UInt8).toArray⟩] w _ from ?_)
  refine (Tryd.utf8_DecodeRuneInString ⟨(s : List UInt8).toArray⟩ w hK.1).mono fun e w' ⟨he, hb⟩ => ⟨_, he, ext_of_below hb, ?_⟩
  have hd : ((Lib.decodeGo ⟨(s : List UInt8).toArray⟩).1 : Int) = (NqG.e37 s).1 ∧ ((Lib.decodeGo ⟨(s : List UInt8).toArray⟩).2 : Int) = (NqG.e37 s).2 := by
    unfold NqG.e37 Lib.decodeGo
    cases hx : (s : List UInt8) with
    | nil => simp [← ByteArray.size_data]
    | cons a l =>
      have : (ByteArray.mk (a :: l).toArray).size ≠ 0 := by simp [← ByteArray.size_data]
      simp [this]
  rw [hd.1, hd.2]
  refine res_flat [⟨.i .i32, .r, (NqG.e37 s).1, ()⟩, ⟨.i .i64, .r, (NqG.e37 s).2, ()⟩] rfl (fun b hb => hs b (.inl hb)) hb.size ?_ (by simp [Lk.blsOf, Lk.DV.bl, Lk.bl]) rfl rfl rfl
  intro d hd
  have r1 : Lk.inR .i32 (NqG.e37 s).1 := by
    unfold NqG.e37
    cases (s : List UInt8).isEmpty
    · have := NqG.rn_lt s 0
      unfold NqG.rn at this
      simp only [cond_false, Lk.inR, Lk.kmin, Lk.kmax]; omega
    · simp [Lk.inR, Lk.kmin, Lk.kmax]
  have r2 : Lk.inR .i64 (NqG.e37 s).2 := by
    unfold NqG.e37
    cases (s : List UInt8).isEmpty
    · have := Lk.sz_bd s 0
      unfold Lk.sz at this
      simp only [cond_false, Lk.inR, Lk.kmin, Lk.kmax]; omega
    · simp [Lk.inR, Lk.kmin, Lk.kmax]
  simp only [List.mem_cons, List.not_mem_nil, or_false] at hd
  rcases hd with rfl | rfl
  · exact ⟨rfl, r1⟩
  · exact ⟨rfl, r2⟩

theorem idx_eq : ∀ (l : List UInt8) (c : UInt8), Lib.indexByte l c = NqG.idx l c
  | [], _ => rfl
  | b :: l, c => by simp only [Lib.indexByte, NqG.idx, idx_eq l c]

theorem idx_bd : ∀ (l : List UInt8) (c : UInt8), -1 ≤ NqG.idx l c ∧ NqG.idx l c < l.length + 1
  | [], _ => by simp [NqG.idx]
  | b :: l, c => by
    have := idx_bd l c
    simp only [NqG.idx, List.length_cons]
    split
    · omega
    · split <;> omega

theorem ok_index : Lk.FnOk (τ := ax) (Kw := kw) Tryd.prog 85 ⟨[(.s, .r), (.by, .r)], [(.i .i64, .r)], 1⟩ (fun x => some (NqG.idx x.1 x.2.1, ())) := by
  rintro ⟨s, c, _⟩ res hx w S Sb ads hK hs ha hargs
  cases hx
  obtain ⟨sh, ads', rfl, ha1⟩ := ads_cons ha
  obtain ⟨sh2, ads2, rfl, ha2⟩ := ads_cons ha1
  obtain rfl := ads_nil ha2
  have hlen : (s : List UInt8).length ≤ Lk.big := (hargs.hold _ (List.mem_cons_self ..)).2
  refine (show Calls Tryd.prog 85 #[.string ⟨(s : List UInt8).toArray⟩, .int .u8 ((c : UInt8).toNat : Nat)] w _ from ?_)
  refine (Tryd.strings_IndexByte ⟨(s : List UInt8).toArray⟩ ((c : UInt8).toNat : Int) w).mono fun e w' ⟨he, hb⟩ => ⟨_, he, hb ▸ Lk.Ext.refl w, ?_⟩
  have hc : (((c : UInt8).toNat : Int)).toNat.toUInt8 = c := by simp
  have hd : Lib.indexByte (ByteArray.mk (s : List UInt8).toArray).data.toList (((c : UInt8).toNat : Int)).toNat.toUInt8 = NqG.idx s c := by
    rw [hc, idx_eq]
  rw [hd]
  have hbd := idx_bd s c
  refine res_flat [⟨.i .i64, .r, NqG.idx s c, ()⟩] rfl (fun b hb => hs b (.inl hb)) (by rw [hb]; exact Nat.le_refl _) ?_ (by simp [Lk.blsOf, Lk.DV.bl, Lk.bl]) rfl rfl rfl
  intro d hd
  simp only [List.mem_cons, List.not_mem_nil, or_false] at hd
  subst hd
  simp only [Lk.big] at hlen
  exact ⟨rfl, inR64 (show -9223372036854775808 ≤ NqG.idx s c by omega) (show NqG.idx s c ≤ 9223372036854775807 by omega)⟩
end Go.Proofs.YthfhbbhacaejoaaDoor

namespace Go.Proofs.YthfhbbhacaejoaaDoor.ScQP
open Go.ChangeShapes Go.WideShapes Go.ChangeAt Go.RowKit
theorem env : Lk.EnvOk ax Tryd.prog ScQ.G.toEnv := Lk.env_ok (tys := ScQ.tys) (lims := ScQ.lims) (cmps := []) (fun _ => rfl) (fun _ => rfl) (fun _ => rfl) (by kernel_rfl) (by kernel_rfl)
theorem names : (ScQ.bodies.toList ++ ScQ.exts.toList).all (fun p => Lk.nameB p.2) = true := by kernel_rfl
theorem nrs : ScQ.bodies.toList.all (Lk.nrB ScQ.sigs) = true := by kernel_rfl
theorem funcs : ∀ p ∈ ScQ.bodies.toList ++ ScQ.exts.toList, Tryd.prog.funcs[p.1]? = some p.2 := by
  intro p hp
  have e : ScQ.bodies.toList ++ ScQ.exts.toList = [(17, Tryd.f17), (33, Tryd.f33), (34, Tryd.f34), (32, Tryd.f32)] := by kernel_rfl
  rw [e] at hp
  simp only [List.mem_cons, List.not_mem_nil, or_false] at hp
  rcases hp with rfl | rfl | rfl | rfl
  · exact Tryd.func17
  · exact Tryd.func33
  · exact Tryd.func34
  · exact Tryd.func32
theorem exts : ∀ g F n, ScQ.G.ext g = some F → Lk.FnOk (τ := ax) (Kw := kw) Tryd.prog g (ScQ.G.sig g) (F n) := by
  intro g F n h
  show Lk.FnOk (τ := ax) (Kw := kw) Tryd.prog g ((ScQ.sigs.get g).getD ⟨[], [], 0⟩) (F n)
  change ScQ.ext g = some F at h
  unfold ScQ.ext at h
  split at h
  · cases h; exact ok_rune
  · cases h
theorem extb : ∀ g F, ScQ.G.ext g = some F → (ScQ.exts.get g).isSome = true := by
  intro g F h
  change ScQ.ext g = some F at h
  unfold ScQ.ext at h
  split at h
  · rfl
  · cases h
theorem prg : Lk.PrgOk kw ax Tryd.prog ScQ.G :=
  Lk.prg_ok (bodies := ScQ.bodies) (exts := ScQ.exts) env (by kernel_rfl) (fun w w' B h hB _ hx => tabs_keep w w' B h hB hx) (fun _ => rfl) extb exts funcs names (by kernel_rfl)
theorem res : ∀ g fn, ScQ.G.body g = some fn → fn.results.size ≤ 5 ∧ (ScQ.G.sig g).nr = fn.results.size := Lk.res_le (bodies := ScQ.bodies) (exts := ScQ.exts) (sigs := ScQ.sigs) (fun _ => rfl) (fun _ => rfl) names nrs
end Go.Proofs.YthfhbbhacaejoaaDoor.ScQP

namespace NqG
open Go Lk
set_option linter.unusedVariables false

structure Fns0 where
  f37 (n : Nat) (a0 : List UInt8) : Option (Int × Int × Unit)
  f38 (n : Nat) (a0 : Int) : Option (Bool × Unit)
  f69 (n : Nat) (a0 : UInt8) : Option (List UInt8 × Unit)
  f43 (n : Nat) (a0 : List UInt8) (a1 : Int) : Option (List UInt8 × Int × Unit)
  p43_2051 (j : Nat) (n0 : Nat) (v0 : List UInt8) (v1 : Int) (v6 : Int) (v7 : Int) (v22 : Bool) : Option (List UInt8 × Int × Unit)
  p43_4 (j : Nat) (n0 : Nat) (v0 : List UInt8) (v1 : Int) (v6 : Int) (v7 : Int) : Option (List UInt8 × Int × Unit)
  p43_19 (j : Nat) (n0 : Nat) (n1 : Nat) (v0 : List UInt8) (v1 : Int) (v7 : Int) (v8 : List UInt8) (v47 : Int) (v48 : Int) : Option (List UInt8 × Int × Unit)
  f37_eq (n : Nat) (a0 : List UInt8) : f37 n a0 = some ((e37 a0).1, (e37 a0).2, ())
  f38_eq (n : Nat) (a0 : Int) : f38 (n + 1) a0 =
  (sel (Decidable.decide (a0 > (32 : Int)))
   (sel (Decidable.decide (a0 < (127 : Int)))
    (sel (a0 != (34 : Int))
     (sel (a0 != (92 : Int))
      (some (Bool.true, ()))
      (some (Decidable.decide (a0 > (160 : Int)), ())))
     (some (Decidable.decide (a0 > (160 : Int)), ())))
    (some (Decidable.decide (a0 > (160 : Int)), ())))
   (some (Decidable.decide (a0 > (160 : Int)), ())))
  f69_eq (n : Nat) (a0 : UInt8) : f69 (n + 1) a0 =
  (sel (Decidable.decide ((0 : Int) ≤ (4 : Int)))
   (sel (Decidable.decide ((0 : Int) ≤ (4 : Int)))
    (sel (Decidable.decide ((0 : Int) ≤ (↑(UInt8.ofNat (Go.IntKind.u8.wrap ((↑(UInt8.ofNat ((↑a0.toNat : Int).fdiv ((2 : Int) ^ Min.min (Int.toNat (4 : Int)) Go.IntKind.u8.bits)).toNat).toNat : Int) + (↑(UInt8.toNat (1 : UInt8)) : Int))).toNat).toNat : Int)))
     (sel (Decidable.decide ((↑(UInt8.ofNat (Go.IntKind.u8.wrap ((↑(UInt8.ofNat ((↑a0.toNat : Int).fdiv ((2 : Int) ^ Min.min (Int.toNat (4 : Int)) Go.IntKind.u8.bits)).toNat).toNat : Int) + (↑(UInt8.toNat (1 : UInt8)) : Int))).toNat).toNat : Int) ≤ (↑[(48 : UInt8), (49 : UInt8), (50 : UInt8), (51 : UInt8), (52 : UInt8), (53 : UInt8), (54 : UInt8), (55 : UInt8), (56 : UInt8), (57 : UInt8), (97 : UInt8), (98 : UInt8), (99 : UInt8), (100 : UInt8), (101 : UInt8), (102 : UInt8)].length : Int)))
      (sel (Decidable.decide ((0 : Int) ≤ (↑(UInt8.ofNat ((↑a0.toNat : Int).fdiv ((2 : Int) ^ Min.min (Int.toNat (4 : Int)) Go.IntKind.u8.bits)).toNat).toNat : Int)))
       (sel (Decidable.decide ((↑(UInt8.ofNat ((↑a0.toNat : Int).fdiv ((2 : Int) ^ Min.min (Int.toNat (4 : Int)) Go.IntKind.u8.bits)).toNat).toNat : Int) ≤ (↑(UInt8.ofNat (Go.IntKind.u8.wrap ((↑(UInt8.ofNat ((↑a0.toNat : Int).fdiv ((2 : Int) ^ Min.min (Int.toNat (4 : Int)) Go.IntKind.u8.bits)).toNat).toNat : Int) + (↑(UInt8.toNat (1 : UInt8)) : Int))).toNat).toNat : Int)))
        (sel (Decidable.decide ([(92 : UInt8), (120 : UInt8)].length + (Lk.ext [(48 : UInt8), (49 : UInt8), (50 : UInt8), (51 : UInt8), (52 : UInt8), (53 : UInt8), (54 : UInt8), (55 : UInt8), (56 : UInt8), (57 : UInt8), (97 : UInt8), (98 : UInt8), (99 : UInt8), (100 : UInt8), (101 : UInt8), (102 : UInt8)] (↑(UInt8.ofNat ((↑a0.toNat : Int).fdiv ((2 : Int) ^ Min.min (Int.toNat (4 : Int)) Go.IntKind.u8.bits)).toNat).toNat : Int) (↑(UInt8.ofNat (Go.IntKind.u8.wrap ((↑(UInt8.ofNat ((↑a0.toNat : Int).fdiv ((2 : Int) ^ Min.min (Int.toNat (4 : Int)) Go.IntKind.u8.bits)).toNat).toNat : Int) + (↑(UInt8.toNat (1 : UInt8)) : Int))).toNat).toNat : Int)).length ≤ Lk.big))
         (sel (Decidable.decide ((0 : Int) ≤ (↑(UInt8.ofNat (Go.IntKind.u8.wrap ((↑(UInt8.ofNat (Lk.ibits Go.BinOp.and Go.IntKind.u8 (↑a0.toNat : Int) (↑(UInt8.toNat (15 : UInt8)) : Int)).toNat).toNat : Int) + (↑(UInt8.toNat (1 : UInt8)) : Int))).toNat).toNat : Int)))
          (sel (Decidable.decide ((↑(UInt8.ofNat (Go.IntKind.u8.wrap ((↑(UInt8.ofNat (Lk.ibits Go.BinOp.and Go.IntKind.u8 (↑a0.toNat : Int) (↑(UInt8.toNat (15 : UInt8)) : Int)).toNat).toNat : Int) + (↑(UInt8.toNat (1 : UInt8)) : Int))).toNat).toNat : Int) ≤ (↑[(48 : UInt8), (49 : UInt8), (50 : UInt8), (51 : UInt8), (52 : UInt8), (53 : UInt8), (54 : UInt8), (55 : UInt8), (56 : UInt8), (57 : UInt8), (97 : UInt8), (98 : UInt8), (99 : UInt8), (100 : UInt8), (101 : UInt8), (102 : UInt8)].length : Int)))
           (sel (Decidable.decide ((0 : Int) ≤ (↑(UInt8.ofNat (Lk.ibits Go.BinOp.and Go.IntKind.u8 (↑a0.toNat : Int) (↑(UInt8.toNat (15 : UInt8)) : Int)).toNat).toNat : Int)))
            (sel (Decidable.decide ((↑(UInt8.ofNat (Lk.ibits Go.BinOp.and Go.IntKind.u8 (↑a0.toNat : Int) (↑(UInt8.toNat (15 : UInt8)) : Int)).toNat).toNat : Int) ≤ (↑(UInt8.ofNat (Go.IntKind.u8.wrap ((↑(UInt8.ofNat (Lk.ibits Go.BinOp.and Go.IntKind.u8 (↑a0.toNat : Int) (↑(UInt8.toNat (15 : UInt8)) : Int)).toNat).toNat : Int) + (↑(UInt8.toNat (1 : UInt8)) : Int))).toNat).toNat : Int)))
             (sel (Decidable.decide (([(92 : UInt8), (120 : UInt8)] ++ Lk.ext [(48 : UInt8), (49 : UInt8), (50 : UInt8), (51 : UInt8), (52 : UInt8), (53 : UInt8), (54 : UInt8), (55 : UInt8), (56 : UInt8), (57 : UInt8), (97 : UInt8), (98 : UInt8), (99 : UInt8), (100 : UInt8), (101 : UInt8), (102 : UInt8)] (↑(UInt8.ofNat ((↑a0.toNat : Int).fdiv ((2 : Int) ^ Min.min (Int.toNat (4 : Int)) Go.IntKind.u8.bits)).toNat).toNat : Int) (↑(UInt8.ofNat (Go.IntKind.u8.wrap ((↑(UInt8.ofNat ((↑a0.toNat : Int).fdiv ((2 : Int) ^ Min.min (Int.toNat (4 : Int)) Go.IntKind.u8.bits)).toNat).toNat : Int) + (↑(UInt8.toNat (1 : UInt8)) : Int))).toNat).toNat : Int)).length + (Lk.ext [(48 : UInt8), (49 : UInt8), (50 : UInt8), (51 : UInt8), (52 : UInt8), (53 : UInt8), (54 : UInt8), (55 : UInt8), (56 : UInt8), (57 : UInt8), (97 : UInt8), (98 : UInt8), (99 : UInt8), (100 : UInt8), (101 : UInt8), (102 : UInt8)] (↑(UInt8.ofNat (Lk.ibits Go.BinOp.and Go.IntKind.u8 (↑a0.toNat : Int) (↑(UInt8.toNat (15 : UInt8)) : Int)).toNat).toNat : Int) (↑(UInt8.ofNat (Go.IntKind.u8.wrap ((↑(UInt8.ofNat (Lk.ibits Go.BinOp.and Go.IntKind.u8 (↑a0.toNat : Int) (↑(UInt8.toNat (15 : UInt8)) : Int)).toNat).toNat : Int) + (↑(UInt8.toNat (1 : UInt8)) : Int))).toNat).toNat : Int)).length ≤ Lk.big))
              (some ([(92 : UInt8), (120 : UInt8)] ++ Lk.ext [(48 : UInt8), (49 : UInt8), (50 : UInt8), (51 : UInt8), (52 : UInt8), (53 : UInt8), (54 : UInt8), (55 : UInt8), (56 : UInt8), (57 : UInt8), (97 : UInt8), (98 : UInt8), (99 : UInt8), (100 : UInt8), (101 : UInt8), (102 : UInt8)] (↑(UInt8.ofNat ((↑a0.toNat : Int).fdiv ((2 : Int) ^ Min.min (Int.toNat (4 : Int)) Go.IntKind.u8.bits)).toNat).toNat : Int) (↑(UInt8.ofNat (Go.IntKind.u8.wrap ((↑(UInt8.ofNat ((↑a0.toNat : Int).fdiv ((2 : Int) ^ Min.min (Int.toNat (4 : Int)) Go.IntKind.u8.bits)).toNat).toNat : Int) + (↑(UInt8.toNat (1 : UInt8)) : Int))).toNat).toNat : Int) ++ Lk.ext [(48 : UInt8), (49 : UInt8), (50 : UInt8), (51 : UInt8), (52 : UInt8), (53 : UInt8), (54 : UInt8), (55 : UInt8), (56 : UInt8), (57 : UInt8), (97 : UInt8), (98 : UInt8), (99 : UInt8), (100 : UInt8), (101 : UInt8), (102 : UInt8)] (↑(UInt8.ofNat (Lk.ibits Go.BinOp.and Go.IntKind.u8 (↑a0.toNat : Int) (↑(UInt8.toNat (15 : UInt8)) : Int)).toNat).toNat : Int) (↑(UInt8.ofNat (Go.IntKind.u8.wrap ((↑(UInt8.ofNat (Lk.ibits Go.BinOp.and Go.IntKind.u8 (↑a0.toNat : Int) (↑(UInt8.toNat (15 : UInt8)) : Int)).toNat).toNat : Int) + (↑(UInt8.toNat (1 : UInt8)) : Int))).toNat).toNat : Int), ()))
              none)
             none)
            none)
           none)
          none)
         none)
        none)
       none)
      none)
     none)
    none)
   none)
  f43_eq (n : Nat) (a0 : List UInt8) (a1 : Int) : f43 (n + 1) a0 a1 =
  (sel (Decidable.decide ((0 : Int) ≤ a1))
   (sel (Decidable.decide (a1 ≤ (↑a0.length : Int)))
    (obind (f37 n (Lk.ext a0 a1 (↑a0.length : Int))) fun r58 =>
     (sel (r58.fst == (65533 : Int))
      (p43_2051 (n) (n) (a0) (a1) (r58.fst) (r58.snd.fst) (r58.snd.fst == (1 : Int)))
      (p43_2051 (n) (n) (a0) (a1) (r58.fst) (r58.snd.fst) (Bool.false))))
    none)
   none)
  p43_2051_eq (j : Nat) (n0 : Nat) (v0 : List UInt8) (v1 : Int) (v6 : Int) (v7 : Int) (v22 : Bool) : p43_2051 (j + 1) n0 v0 v1 v6 v7 v22 =
  (sel (v22)
   (sel (Decidable.decide ((0 : Int) ≤ v1))
    (sel (Decidable.decide (v1 < (↑v0.length : Int)))
     (obind (f69 j (v0.getD v1.toNat (0 : UInt8))) fun r221 =>
      (some (r221.fst, (1 : Int), ())))
     none)
    none)
   (p43_4 (n0) (n0) (v0) (v1) (v6) (v7)))
  p43_4_eq (j : Nat) (n0 : Nat) (v0 : List UInt8) (v1 : Int) (v6 : Int) (v7 : Int) : p43_4 (j + 1) n0 v0 v1 v6 v7 =
  (sel (v6 == (10 : Int))
   (some ([(92 : UInt8), (110 : UInt8)], (1 : Int), ()))
   (sel (v6 == (9 : Int))
    (some ([(92 : UInt8), (116 : UInt8)], (1 : Int), ()))
    (sel (v6 == (32 : Int))
     (some ([(92 : UInt8), (115 : UInt8)], (1 : Int), ()))
     (sel (v6 == (34 : Int))
      (some ([(92 : UInt8), (34 : UInt8)], (1 : Int), ()))
      (sel (v6 == (92 : Int))
       (some ([(92 : UInt8), (92 : UInt8)], (1 : Int), ()))
       (obind (f38 j (v6)) fun r605 =>
        (sel (r605.fst)
         (sel (Decidable.decide ((0 : Int) ≤ Go.IntKind.i64.wrap (v1 + v7)))
          (sel (Decidable.decide (Go.IntKind.i64.wrap (v1 + v7) ≤ (↑v0.length : Int)))
           (sel (Decidable.decide ((0 : Int) ≤ v1))
            (sel (Decidable.decide (v1 ≤ Go.IntKind.i64.wrap (v1 + v7)))
             (some (Lk.ext v0 v1 (Go.IntKind.i64.wrap (v1 + v7)), v7, ()))
             none)
            none)
           none)
          none)
         (p43_19 (j) (n0) (j) (v0) (v1) (v7) ([]) (v7) ((0 : Int))))))))))
  p43_19_eq (j : Nat) (n0 : Nat) (n1 : Nat) (v0 : List UInt8) (v1 : Int) (v7 : Int) (v8 : List UInt8) (v47 : Int) (v48 : Int) : p43_19 (j + 1) n0 n1 v0 v1 v7 v8 v47 v48 =
  (sel (Decidable.decide (v48 < v47))
   (sel (Decidable.decide ((0 : Int) ≤ Go.IntKind.i64.wrap (v1 + v48)))
    (sel (Decidable.decide (Go.IntKind.i64.wrap (v1 + v48) < (↑v0.length : Int)))
     (obind (f69 j (v0.getD (Go.IntKind.i64.wrap (v1 + v48)).toNat (0 : UInt8))) fun r840 =>
      (sel (Decidable.decide (v8.length + List.length r840.fst ≤ Lk.big))
       (p43_19 (j) (n0) (n1) (v0) (v1) (v7) (v8 ++ r840.fst) (v47) (Go.IntKind.i64.wrap (v48 + (1 : Int))))
       none))
     none)
    none)
   (some (v8, v7, ())))
end NqG

namespace ScQ
open Go Lk NqG
set_option linter.unusedVariables false
@[irreducible] noncomputable def f32 (n : Nat) (a0 : List UInt8) : Option (Int × Int × Unit) := F G n 32 (a0, ())
theorem f32_eq (n : Nat) (a0 : List UInt8) : f32 n a0 = some ((e37 a0).1, (e37 a0).2, ()) := by kernel_rfl
@[irreducible] noncomputable def f34 (n : Nat) (a0 : Int) : Option (Bool × Unit) := F G n 34 (a0, ())
@[irreducible] noncomputable def f17 (n : Nat) (a0 : List UInt8) (a1 : Int) : Option (List UInt8 × Int × Unit) := F G n 17 (a0, a1, ())
@[irreducible] noncomputable def p17_2051 (j : Nat) (n0 : Nat) (v0 : List UInt8) (v1 : Int) (v6 : Int) (v7 : Int) (v22 : Bool) : Option (List UInt8 × Int × Unit) := piece G 17 [.r, .r, .l, .r] j [n0] (skel 62 0 [(0, .av ⟨.s, .r, v0⟩), (1, .av ⟨(.i .i64), .r, v1⟩), (6, .av ⟨(.i .i32), .r, v6⟩), (7, .av ⟨(.i .i64), .r, v7⟩), (22, .av ⟨.b, .r, v22⟩)])
@[irreducible] noncomputable def p17_4 (j : Nat) (n0 : Nat) (v0 : List UInt8) (v1 : Int) (v6 : Int) (v7 : Int) : Option (List UInt8 × Int × Unit) := piece G 17 [.r, .r, .r] j [n0] (skel 62 0 [(0, .av ⟨.s, .r, v0⟩), (1, .av ⟨(.i .i64), .r, v1⟩), (6, .av ⟨(.i .i32), .r, v6⟩), (7, .av ⟨(.i .i64), .r, v7⟩)])
@[irreducible] noncomputable def p17_19 (j : Nat) (n0 : Nat) (n1 : Nat) (v0 : List UInt8) (v1 : Int) (v7 : Int) (v8 : List UInt8) (v47 : Int) (v48 : Int) : Option (List UInt8 × Int × Unit) := piece G 17 [.r, .r, .r, .r, .r, .r, .l, .r, .b] j [n0, n1] (skel 62 0 [(0, .av ⟨.s, .r, v0⟩), (1, .av ⟨(.i .i64), .r, v1⟩), (7, .av ⟨(.i .i64), .r, v7⟩), (8, .av ⟨.s, .r, v8⟩), (47, .av ⟨(.i .i64), .r, v47⟩), (48, .av ⟨(.i .i64), .r, v48⟩)])
@[irreducible] noncomputable def f33 (n : Nat) (a0 : UInt8) : Option (List UInt8 × Unit) := F G n 33 (a0, ())
theorem f34_eq (n : Nat) (a0 : Int) : f34 (n + 1) a0 =
  (sel (Decidable.decide (a0 > (32 : Int)))
   (sel (Decidable.decide (a0 < (127 : Int)))
    (sel (a0 != (34 : Int))
     (sel (a0 != (92 : Int))
      (some (Bool.true, ()))
      (some (Decidable.decide (a0 > (160 : Int)), ())))
     (some (Decidable.decide (a0 > (160 : Int)), ())))
    (some (Decidable.decide (a0 > (160 : Int)), ())))
   (some (Decidable.decide (a0 > (160 : Int)), ()))) := by kernel_rfl
theorem f17_eq (n : Nat) (a0 : List UInt8) (a1 : Int) : f17 (n + 1) a0 a1 =
  (sel (Decidable.decide ((0 : Int) ≤ a1))
   (sel (Decidable.decide (a1 ≤ (↑a0.length : Int)))
    (obind (f32 n (Lk.ext a0 a1 (↑a0.length : Int))) fun r61 =>
     (sel (r61.fst == (65533 : Int))
      (p17_2051 (n) (n) (a0) (a1) (r61.fst) (r61.snd.fst) (r61.snd.fst == (1 : Int)))
      (p17_2051 (n) (n) (a0) (a1) (r61.fst) (r61.snd.fst) (Bool.false))))
    none)
   none) := by kernel_rfl
theorem p17_2051_eq (j : Nat) (n0 : Nat) (v0 : List UInt8) (v1 : Int) (v6 : Int) (v7 : Int) (v22 : Bool) : p17_2051 (j + 1) n0 v0 v1 v6 v7 v22 =
  (sel (v22)
   (sel (Decidable.decide ((0 : Int) ≤ v1))
    (sel (Decidable.decide (v1 < (↑v0.length : Int)))
     (obind (f33 j (v0.getD v1.toNat (0 : UInt8))) fun r228 =>
      (some (r228.fst, (1 : Int), ())))
     none)
    none)
   (p17_4 (n0) (n0) (v0) (v1) (v6) (v7))) := by kernel_rfl
theorem p17_4_eq (j : Nat) (n0 : Nat) (v0 : List UInt8) (v1 : Int) (v6 : Int) (v7 : Int) : p17_4 (j + 1) n0 v0 v1 v6 v7 =
  (sel (v6 == (10 : Int))
   (some ([(92 : UInt8), (110 : UInt8)], (1 : Int), ()))
   (sel (v6 == (9 : Int))
    (some ([(92 : UInt8), (116 : UInt8)], (1 : Int), ()))
    (sel (v6 == (32 : Int))
     (some ([(92 : UInt8), (115 : UInt8)], (1 : Int), ()))
     (sel (v6 == (34 : Int))
      (some ([(92 : UInt8), (34 : UInt8)], (1 : Int), ()))
      (sel (v6 == (92 : Int))
       (some ([(92 : UInt8), (92 : UInt8)], (1 : Int), ()))
       (obind (f34 j (v6)) fun r626 =>
        (sel (r626.fst)
         (sel (Decidable.decide ((0 : Int) ≤ Go.IntKind.i64.wrap (v1 + v7)))
          (sel (Decidable.decide (Go.IntKind.i64.wrap (v1 + v7) ≤ (↑v0.length : Int)))
           (sel (Decidable.decide ((0 : Int) ≤ v1))
            (sel (Decidable.decide (v1 ≤ Go.IntKind.i64.wrap (v1 + v7)))
             (some (Lk.ext v0 v1 (Go.IntKind.i64.wrap (v1 + v7)), v7, ()))
             none)
            none)
           none)
          none)
         (p17_19 (j) (n0) (j) (v0) (v1) (v7) ([]) (v7) ((0 : Int)))))))))) := by kernel_rfl
theorem p17_19_eq (j : Nat) (n0 : Nat) (n1 : Nat) (v0 : List UInt8) (v1 : Int) (v7 : Int) (v8 : List UInt8) (v47 : Int) (v48 : Int) : p17_19 (j + 1) n0 n1 v0 v1 v7 v8 v47 v48 =
  (sel (Decidable.decide (v48 < v47))
   (sel (Decidable.decide ((0 : Int) ≤ Go.IntKind.i64.wrap (v1 + v48)))
    (sel (Decidable.decide (Go.IntKind.i64.wrap (v1 + v48) < (↑v0.length : Int)))
     (obind (f33 j (v0.getD (Go.IntKind.i64.wrap (v1 + v48)).toNat (0 : UInt8))) fun r869 =>
      (sel (Decidable.decide (v8.length + List.length r869.fst ≤ Lk.big))
       (p17_19 (j) (n0) (n1) (v0) (v1) (v7) (v8 ++ r869.fst) (v47) (Go.IntKind.i64.wrap (v48 + (1 : Int))))
       none))
     none)
    none)
   (some (v8, v7, ()))) := by kernel_rfl
theorem f33_eq (n : Nat) (a0 : UInt8) : f33 (n + 1) a0 =
  (sel (Decidable.decide ((0 : Int) ≤ (4 : Int)))
   (sel (Decidable.decide ((0 : Int) ≤ (4 : Int)))
    (sel (Decidable.decide ((0 : Int) ≤ (↑(UInt8.ofNat (Go.IntKind.u8.wrap ((↑(UInt8.ofNat ((↑a0.toNat : Int).fdiv ((2 : Int) ^ Min.min (Int.toNat (4 : Int)) Go.IntKind.u8.bits)).toNat).toNat : Int) + (↑(UInt8.toNat (1 : UInt8)) : Int))).toNat).toNat : Int)))
     (sel (Decidable.decide ((↑(UInt8.ofNat (Go.IntKind.u8.wrap ((↑(UInt8.ofNat ((↑a0.toNat : Int).fdiv ((2 : Int) ^ Min.min (Int.toNat (4 : Int)) Go.IntKind.u8.bits)).toNat).toNat : Int) + (↑(UInt8.toNat (1 : UInt8)) : Int))).toNat).toNat : Int) ≤ (↑(16 : Nat) : Int)))
      (sel (Decidable.decide ((0 : Int) ≤ (↑(UInt8.ofNat ((↑a0.toNat : Int).fdiv ((2 : Int) ^ Min.min (Int.toNat (4 : Int)) Go.IntKind.u8.bits)).toNat).toNat : Int)))
       (sel (Decidable.decide ((↑(UInt8.ofNat ((↑a0.toNat : Int).fdiv ((2 : Int) ^ Min.min (Int.toNat (4 : Int)) Go.IntKind.u8.bits)).toNat).toNat : Int) ≤ (↑(UInt8.ofNat (Go.IntKind.u8.wrap ((↑(UInt8.ofNat ((↑a0.toNat : Int).fdiv ((2 : Int) ^ Min.min (Int.toNat (4 : Int)) Go.IntKind.u8.bits)).toNat).toNat : Int) + (↑(UInt8.toNat (1 : UInt8)) : Int))).toNat).toNat : Int)))
        (sel (Decidable.decide ((2 : Nat) + (Lk.ext [(48 : UInt8), (49 : UInt8), (50 : UInt8), (51 : UInt8), (52 : UInt8), (53 : UInt8), (54 : UInt8), (55 : UInt8), (56 : UInt8), (57 : UInt8), (97 : UInt8), (98 : UInt8), (99 : UInt8), (100 : UInt8), (101 : UInt8), (102 : UInt8)] (↑(UInt8.ofNat ((↑a0.toNat : Int).fdiv ((2 : Int) ^ Min.min (Int.toNat (4 : Int)) Go.IntKind.u8.bits)).toNat).toNat : Int) (↑(UInt8.ofNat (Go.IntKind.u8.wrap ((↑(UInt8.ofNat ((↑a0.toNat : Int).fdiv ((2 : Int) ^ Min.min (Int.toNat (4 : Int)) Go.IntKind.u8.bits)).toNat).toNat : Int) + (↑(UInt8.toNat (1 : UInt8)) : Int))).toNat).toNat : Int)).length ≤ Lk.big))
         (sel (Decidable.decide ((0 : Int) ≤ (↑(UInt8.ofNat (Go.IntKind.u8.wrap ((↑(UInt8.ofNat (Lk.ibits Go.BinOp.and Go.IntKind.u8 (↑a0.toNat : Int) (↑(UInt8.toNat (15 : UInt8)) : Int)).toNat).toNat : Int) + (↑(UInt8.toNat (1 : UInt8)) : Int))).toNat).toNat : Int)))
          (sel (Decidable.decide ((↑(UInt8.ofNat (Go.IntKind.u8.wrap ((↑(UInt8.ofNat (Lk.ibits Go.BinOp.and Go.IntKind.u8 (↑a0.toNat : Int) (↑(UInt8.toNat (15 : UInt8)) : Int)).toNat).toNat : Int) + (↑(UInt8.toNat (1 : UInt8)) : Int))).toNat).toNat : Int) ≤ (↑(16 : Nat) : Int)))
           (sel (Decidable.decide ((0 : Int) ≤ (↑(UInt8.ofNat (Lk.ibits Go.BinOp.and Go.IntKind.u8 (↑a0.toNat : Int) (↑(UInt8.toNat (15 : UInt8)) : Int)).toNat).toNat : Int)))
            (sel (Decidable.decide ((↑(UInt8.ofNat (Lk.ibits Go.BinOp.and Go.IntKind.u8 (↑a0.toNat : Int) (↑(UInt8.toNat (15 : UInt8)) : Int)).toNat).toNat : Int) ≤ (↑(UInt8.ofNat (Go.IntKind.u8.wrap ((↑(UInt8.ofNat (Lk.ibits Go.BinOp.and Go.IntKind.u8 (↑a0.toNat : Int) (↑(UInt8.toNat (15 : UInt8)) : Int)).toNat).toNat : Int) + (↑(UInt8.toNat (1 : UInt8)) : Int))).toNat).toNat : Int)))
             (sel (Decidable.decide (([(92 : UInt8), (120 : UInt8)] ++ Lk.ext [(48 : UInt8), (49 : UInt8), (50 : UInt8), (51 : UInt8), (52 : UInt8), (53 : UInt8), (54 : UInt8), (55 : UInt8), (56 : UInt8), (57 : UInt8), (97 : UInt8), (98 : UInt8), (99 : UInt8), (100 : UInt8), (101 : UInt8), (102 : UInt8)] (↑(UInt8.ofNat ((↑a0.toNat : Int).fdiv ((2 : Int) ^ Min.min (Int.toNat (4 : Int)) Go.IntKind.u8.bits)).toNat).toNat : Int) (↑(UInt8.ofNat (Go.IntKind.u8.wrap ((↑(UInt8.ofNat ((↑a0.toNat : Int).fdiv ((2 : Int) ^ Min.min (Int.toNat (4 : Int)) Go.IntKind.u8.bits)).toNat).toNat : Int) + (↑(UInt8.toNat (1 : UInt8)) : Int))).toNat).toNat : Int)).length + (Lk.ext [(48 : UInt8), (49 : UInt8), (50 : UInt8), (51 : UInt8), (52 : UInt8), (53 : UInt8), (54 : UInt8), (55 : UInt8), (56 : UInt8), (57 : UInt8), (97 : UInt8), (98 : UInt8), (99 : UInt8), (100 : UInt8), (101 : UInt8), (102 : UInt8)] (↑(UInt8.ofNat (Lk.ibits Go.BinOp.and Go.IntKind.u8 (↑a0.toNat : Int) (↑(UInt8.toNat (15 : UInt8)) : Int)).toNat).toNat : Int) (↑(UInt8.ofNat (Go.IntKind.u8.wrap ((↑(UInt8.ofNat (Lk.ibits Go.BinOp.and Go.IntKind.u8 (↑a0.toNat : Int) (↑(UInt8.toNat (15 : UInt8)) : Int)).toNat).toNat : Int) + (↑(UInt8.toNat (1 : UInt8)) : Int))).toNat).toNat : Int)).length ≤ Lk.big))
              (some ([(92 : UInt8), (120 : UInt8)] ++ Lk.ext [(48 : UInt8), (49 : UInt8), (50 : UInt8), (51 : UInt8), (52 : UInt8), (53 : UInt8), (54 : UInt8), (55 : UInt8), (56 : UInt8), (57 : UInt8), (97 : UInt8), (98 : UInt8), (99 : UInt8), (100 : UInt8), (101 : UInt8), (102 : UInt8)] (↑(UInt8.ofNat ((↑a0.toNat : Int).fdiv ((2 : Int) ^ Min.min (Int.toNat (4 : Int)) Go.IntKind.u8.bits)).toNat).toNat : Int) (↑(UInt8.ofNat (Go.IntKind.u8.wrap ((↑(UInt8.ofNat ((↑a0.toNat : Int).fdiv ((2 : Int) ^ Min.min (Int.toNat (4 : Int)) Go.IntKind.u8.bits)).toNat).toNat : Int) + (↑(UInt8.toNat (1 : UInt8)) : Int))).toNat).toNat : Int) ++ Lk.ext [(48 : UInt8), (49 : UInt8), (50 : UInt8), (51 : UInt8), (52 : UInt8), (53 : UInt8), (54 : UInt8), (55 : UInt8), (56 : UInt8), (57 : UInt8), (97 : UInt8), (98 : UInt8), (99 : UInt8), (100 : UInt8), (101 : UInt8), (102 : UInt8)] (↑(UInt8.ofNat (Lk.ibits Go.BinOp.and Go.IntKind.u8 (↑a0.toNat : Int) (↑(UInt8.toNat (15 : UInt8)) : Int)).toNat).toNat : Int) (↑(UInt8.ofNat (Go.IntKind.u8.wrap ((↑(UInt8.ofNat (Lk.ibits Go.BinOp.and Go.IntKind.u8 (↑a0.toNat : Int) (↑(UInt8.toNat (15 : UInt8)) : Int)).toNat).toNat : Int) + (↑(UInt8.toNat (1 : UInt8)) : Int))).toNat).toNat : Int), ()))
              none)
             none)
            none)
           none)
          none)
         none)
        none)
       none)
      none)
     none)
    none)
   none) := by kernel_rfl
end ScQ

namespace Sc
set_option maxRecDepth 100000
noncomputable def theFns0 : NqG.Fns0 := {
  f37 := ScQ.f32,
  f38 := ScQ.f34,
  f69 := ScQ.f33,
  f43 := ScQ.f17,
  p43_2051 := ScQ.p17_2051,
  p43_4 := ScQ.p17_4,
  p43_19 := ScQ.p17_19,
  f37_eq := ScQ.f32_eq,
  f38_eq := ScQ.f34_eq,
  f69_eq := ScQ.f33_eq,
  f43_eq := ScQ.f17_eq,
  p43_2051_eq := ScQ.p17_2051_eq,
  p43_4_eq := ScQ.p17_4_eq,
  p43_19_eq := ScQ.p17_19_eq }
end Sc

/-! names.written, as it is. -/
namespace NqG
open Go Lk
variable (X : Fns0)

theorem blt_dec (a b : Nat) : Nat.blt a b = decide (a < b) := by
  rw [Bool.eq_iff_iff]; simp [Nat.blt_eq]

theorem self_eq (r : Nat) : self r = decide (((32 : Int) < (r : Int) ∧ (r : Int) < 127 ∧ (r : Int) ≠ 34 ∧ (r : Int) ≠ 92) ∨ (160 : Int) < (r : Int)) := by
  unfold self
  rw [Bool.eq_iff_iff]
  simp only [blt_dec, Bool.or_eq_true, Bool.and_eq_true, decide_eq_true_eq, Bool.not_eq_true', beq_eq_false_iff_ne]
  omega

theorem f38_ok (n r : Nat) : X.f38 (n + 1) (r : Int) = some (self r, ()) := by
  rw [X.f38_eq, self_eq]
  have en34 : ((r : Int) != 34) = decide ((r : Int) ≠ 34) := by rw [Bool.eq_iff_iff]; simp
  have en92 : ((r : Int) != 92) = decide ((r : Int) ≠ 92) := by rw [Bool.eq_iff_iff]; simp
  rw [en34, en92]
  simp only [sel_dec]
  by_cases h1 : (r : Int) > 32
  · rw [if_pos h1]
    by_cases h2 : (r : Int) < 127
    · rw [if_pos h2]
      by_cases h3 : (r : Int) ≠ 34
      · rw [if_pos h3]
        by_cases h4 : (r : Int) ≠ 92
        · rw [if_pos h4, decide_eq_true (Or.inl ⟨h1, h2, h3, h4⟩)]
        · rw [if_neg h4, decide_eq_false (by omega), decide_eq_false (by omega)]
      · rw [if_neg h3, decide_eq_false (by omega), decide_eq_false (by omega)]
    · rw [if_neg h2]
      congr 2
      apply decide_eq_decide.2; omega
  · rw [if_neg h1]
    congr 2
    apply decide_eq_decide.2; omega

theorem forall_u8 {p : UInt8 → Prop} (h : ∀ k : Fin 256, p (UInt8.ofNat k.val)) (a : UInt8) : p a := by
  have := h ⟨a.toNat, a.toNat_lt⟩
  simpa using this

theorem f69_ok (n : Nat) (a : UInt8) : X.f69 (n + 1) a = some (esc a, ()) := by
  rw [X.f69_eq]
  revert a
  apply forall_u8
  decide +kernel

theorem e37_at (b : List UInt8) (i : Nat) (hi : i < b.length) : e37 (ext b (i : Int) (b.length : Int)) = ((rn b i : Int), (sz b i : Int)) := by
  rw [ext_drop]
  unfold e37
  have : (b.drop i).isEmpty = false := by
    cases h : b.drop i with
    | nil => have := congrArg List.length h; simp at this; omega
    | cons _ _ => rfl
  rw [this, decode_drop]
  rfl

theorem p43_19_ok (b : List UInt8) (hlen : b.length ≤ 1073741824) (i m : Nat) (hi : i + m ≤ b.length) (hm : m ≤ 4) : ∀ (N k j n0 n1 : Nat) (acc : List UInt8), k + N = m → N + 2 ≤ j → acc.length ≤ 4 * k →
    X.p43_19 j n0 n1 b (i : Int) (m : Int) acc (m : Int) (k : Int) = some (acc ++ escs (ext b ((i + k : Nat) : Int) ((i + m : Nat) : Int)), (m : Int), ()) := by
  intro N
  induction N with
  | zero =>
    intro k j n0 n1 acc hk hj hacc
    obtain ⟨j, rfl⟩ : ∃ q, j = q + 1 := ⟨j - 1, by omega⟩
    have e : k = m := by omega
    subst e
    rw [X.p43_19_eq]
    simp only [sel_dec]
    rw [if_neg (by omega)]
    have : ext b ((i + k : Nat) : Int) ((i + k : Nat) : Int) = [] := by
      apply List.eq_nil_of_length_eq_zero; rw [ext_len b _ _ hi]; omega
    rw [this]
    simp [escs]
  | succ N ih =>
    intro k j n0 n1 acc hk hj hacc
    obtain ⟨j, rfl⟩ : ∃ q, j = q + 2 := ⟨j - 2, by omega⟩
    have w1 : IntKind.i64.wrap ((i : Int) + (k : Int)) = ((i + k : Nat) : Int) := by rw [wrap64 (by omega) (by omega)]; omega
    have w2 : IntKind.i64.wrap ((k : Int) + 1) = ((k + 1 : Nat) : Int) := by rw [wrap64 (by omega) (by omega)]; omega
    rw [X.p43_19_eq]
    simp only [sel_dec, w1, w2]
    rw [if_pos (by omega), if_pos (by omega), if_pos (by omega), f69_ok X]
    simp only [ob_some, sel_dec, Int.toNat_natCast]
    have hbg : acc.length + (esc (b.getD (i + k) 0)).length ≤ big := by rw [esc_len]; show _ ≤ 9223372036854775807; omega
    rw [if_pos hbg, ih (k + 1) (j + 1) n0 n1 _ (by omega) (by omega) (by simp [esc_len]; omega)]
    have e : ext b ((i + k : Nat) : Int) ((i + m : Nat) : Int) = b.getD (i + k) 0 :: ext b ((i + (k + 1) : Nat) : Int) ((i + m : Nat) : Int) := by
      have hlt : i + k < b.length := by omega
      unfold ext win
      simp only [Int.toNat_natCast]
      rw [List.drop_eq_getElem_cons hlt, show i + m - (i + k) = (i + m - (i + (k + 1))) + 1 by omega, List.take_succ_cons, List.getD_eq_getElem?_getD, List.getElem?_eq_getElem hlt]
      rfl
    rw [e]
    have e2 : escs (b.getD (i + k) 0 :: ext b ((i + (k + 1) : Nat) : Int) ((i + m : Nat) : Int)) = esc (b.getD (i + k) 0) ++ escs (ext b ((i + (k + 1) : Nat) : Int) ((i + m : Nat) : Int)) := rfl
    rw [e2, List.append_assoc]

theorem f43_ok (b : List UInt8) (hlen : b.length ≤ 1073741824) (i : Nat) (hi : i < b.length) (j : Nat) (hj : 12 ≤ j) :
    X.f43 j b (i : Int) = some (wri b i, (sz b i : Int), ()) := by
  obtain ⟨j, rfl⟩ : ∃ q, j = q + 12 := ⟨j - 12, by omega⟩
  have hs := sz_bd b i
  have hle := decode_le b i hi
  have w1 : IntKind.i64.wrap ((i : Int) + (sz b i : Int)) = ((i + sz b i : Nat) : Int) := by rw [wrap64 (by omega) (by omega)]; omega
  rw [X.f43_eq]
  simp only [sel_dec]
  rw [if_pos (by omega), if_pos (by omega), X.f37_eq]
  simp only [ob_some, e37_at b i hi]
  have hbq : ∀ k : Nat, (((rn b i : Nat) : Int) == (k : Int)) = (rn b i == k) := by
    intro k; rw [Bool.eq_iff_iff]; simp only [beq_iff_eq]; omega
  have hb1 : (((sz b i : Nat) : Int) == (1 : Int)) = (sz b i == 1) := by
    rw [Bool.eq_iff_iff]; simp only [beq_iff_eq]; omega
  have h4 : X.p43_4 (j + 11) (j + 11) b (i : Int) (rn b i : Int) (sz b i : Int) = some (bif rn b i == 10 then [92, 110] else bif rn b i == 9 then [92, 116] else bif rn b i == 32 then [92, 115] else bif rn b i == 34 then [92, 34] else bif rn b i == 92 then [92, 92] else
      bif self (rn b i) then ext b (i : Int) ((i + sz b i : Nat) : Int) else escs (ext b (i : Int) ((i + sz b i : Nat) : Int)), (sz b i : Int), ()) := by
    have hsm : ∀ k : Nat, k < 128 → (rn b i == k) = true → sz b i = 1 := by
      intro k hk h; exact (decode_small b i (by have := beq_iff_eq.1 h; omega)).1
    rw [X.p43_4_eq]
    have q10 := hbq 10
    have q9 := hbq 9
    have q32 := hbq 32
    have q34 := hbq 34
    have q92 := hbq 92
    simp only [Int.cast_ofNat_Int] at q10 q9 q32 q34 q92
    rw [q10, q9, q32, q34, q92]
    cases e10 : (rn b i == 10)
    · cases e9 : (rn b i == 9)
      · cases e32 : (rn b i == 32)
        · cases e34 : (rn b i == 34)
          · cases e92 : (rn b i == 92)
            · simp only [sel_f, cond_false, f38_ok X, ob_some]
              cases es : self (rn b i)
              · simp only [sel_f, cond_false]
                have := p43_19_ok X b hlen i (sz b i) hle hs.2 (sz b i) 0 (j + 10) (j + 11) (j + 10) [] (by omega) (by omega) (by simp)
                simpa using this
              · simp only [sel_t, cond_true, sel_dec, w1]
                rw [if_pos (by omega), if_pos (by omega), if_pos (by omega), if_pos (by omega)]
            · rw [hsm 92 (by omega) e92]; rfl
          · rw [hsm 34 (by omega) e34]; rfl
        · rw [hsm 32 (by omega) e32]; rfl
      · rw [hsm 9 (by omega) e9]; rfl
    · rw [hsm 10 (by omega) e10]; rfl
  have q := hbq 65533
  simp only [Int.cast_ofNat_Int] at q
  rw [q, hb1]
  unfold wri
  cases e1 : (rn b i == 65533)
  · simp only [sel_f, X.p43_2051_eq, Bool.false_and, cond_false]
    exact h4
  · cases e2 : (sz b i == 1)
    · simp only [sel_t, X.p43_2051_eq, sel_f, Bool.and_false, cond_false]
      exact h4
    · simp only [sel_t, X.p43_2051_eq, Bool.and_true, cond_true, sel_dec]
      rw [if_pos (by omega), if_pos (by omega), f69_ok X, beq_iff_eq.1 e2]
      rfl
end NqG

/-! names.Quote, by hand. -/
namespace Go.Proofs.YthfhbbhacaejoaaDoor
open Go.RowKit Go.Shelf

theorem written_any (s : ByteArray) (i : Nat) (w : World) (hT : Tabs w) (h4 : 4 ≤ w.heap.size) (hs : s.size ≤ 1073741824) (hi : i < s.size) :
    Calls Tryd.prog 17 #[.string s, .int .i64 i] w fun e w' => e = .returned (.tuple #[.string ⟨(NqG.wri s.data.toList i).toArray⟩, .int .i64 (Lk.sz s.data.toList i : Nat)]) ∧ Below w.heap.size w w' := by
  have hok : Lk.FnOk (τ := ax) (Kw := kw) Tryd.prog 17 ⟨[(.s, .r), (.i .i64, .r)], [(.s, .r), (.i .i64, .r)], 2⟩ (Lk.F ScQ.G 20 17) := Lk.F_ok ScQP.prg ScQP.res 20 17
  have hl : s.data.toList.length = s.size := by rw [Array.length_toList]; rfl
  have hF : Lk.F ScQ.G 20 17 (s.data.toList, (i : Int), ()) = some (NqG.wri s.data.toList i, (Lk.sz s.data.toList i : Int), ()) := by
    have := NqG.f43_ok Sc.theFns0 s.data.toList (by omega) i (by omega) 20 (by omega)
    have e : Sc.theFns0.f43 20 s.data.toList (i : Int) = ScQ.f17 20 s.data.toList (i : Int) := rfl
    rw [e] at this
    unfold ScQ.f17 at this
    exact this
  refine (hok _ _ hF w (fun b => b < w.heap.size) (fun _ => False) [⟨.s, .r, s.data.toList, ()⟩, ⟨.i .i64, .r, (i : Int), ()⟩] hT (fun b h => h.elim id False.elim) rfl ⟨?_, by simp [Lk.blsOf, Lk.DV.bl, Lk.bl], by simp [Lk.blsOf, Lk.DV.bl, Lk.bl], by simp [Lk.blsOf, Lk.DV.bl, Lk.bl], h4⟩).mono ?_
  · intro d hd
    simp only [List.mem_cons, List.not_mem_nil, or_false] at hd
    rcases hd with rfl | rfl
    · exact ⟨rfl, show s.data.toList.length ≤ 9223372036854775807 by omega⟩
    · exact ⟨rfl, inR64 (show (-9223372036854775808 : Int) ≤ (i : Int) by omega) (show (i : Int) ≤ 9223372036854775807 by omega)⟩
  · rintro e w' ⟨v, he, hx, hr⟩
    obtain ⟨rds, S', h1, _, _, _, _, _, _, h5, _⟩ := hr.ex
    refine ⟨?_, below_of_ext hx⟩
    rw [he, h5]
    obtain ⟨sh1, r1, rfl, h2⟩ := ads_cons h1
    obtain ⟨sh2, r2, rfl, h3⟩ := ads_cons h2
    obtain rfl := ads_nil h3
    rfl

theorem isb_below {T e : TypeId} {B b : Nat} {bs : List Value} {w w' : World} (h : Lib.IsBuilderF T e B b bs w) (hb : Below w.heap.size w w') : Lib.IsBuilderF T e B b bs w' := by
  have one : ∀ p, Lib.BuilderAtF T e B b p bs w → Lib.BuilderAtF T e B b p bs w' := by
    rintro p ⟨hB, v, h1, h2, h3⟩
    have hlt : b < w.heap.size := (Array.getElem?_eq_some_iff.1 h1).1
    exact ⟨hB, v, by rw [hb.block b hlt]; exact h1, h2.kept (row := none) ⟨hb.os, hb.tape, hb.output, hb.size, fun k hk _ => hb.block k hk⟩ (by
      cases e : v.ownBlock with
      | none => exact .inl rfl
      | some k => exact .inr (by simp)), h3⟩
  exact h.elim (fun x => .inl (one _ x)) (fun x => .inr (one _ x))

theorem size_list (s : ByteArray) : s.data.toList.length = s.size := by rw [Array.length_toList]; rfl

def qLoop (s : ByteArray) (w : World) (it : Nat) (wr : World) (pos fuel : Nat) (acc : List UInt8) : Prop :=
  Lib.IsBuilderF 53 5 w.heap.size w.heap.size (Lib.byteCells acc) wr ∧ wr.heap[it]? = some (.stringIter s pos) ∧ Below w.heap.size w wr ∧ acc ++ NqG.qFrom s.data.toList fuel pos = 34 :: NqG.qFrom s.data.toList s.size 0 ∧ s.size ≤ pos + fuel ∧ acc.length ≤ 4 * pos + 1 ∧ pos ≤ s.size

set_option maxHeartbeats 4000000 in
set_option maxRecDepth 1000000 in
theorem quote_any (s : ByteArray) (w : World) (hT : Tabs w) (h4 : 4 ≤ w.heap.size) (hs : s.size ≤ 1073741824) :
    Calls Tryd.prog 9 #[.string s] w fun e w' => e = .returned (.string ⟨(NqG.quote s.data.toList).toArray⟩) ∧ Below w.heap.size w w' := by
  go_enter Tryd.func9, Tryd.ntmps9
  have hI0 := Lib.IsBuilderF.of (Lib.fresh_isBuilder 53 5 w)
  go_wp2_with (go_at_call 16; refine (Tryd.wbyte w.heap.size w.heap.size _ 34 _ hI0 (by simp) (by simp)).mono ?_)
  rintro e W1 ⟨rfl, h1, b1, k1⟩
  go_wp2
  have hsz1 : w.heap.size < W1.heap.size := by have := b1.size; simp at this; omega
  go_loopw [] (fun wr => ∃ (pos fuel : Nat) (acc : List UInt8), qLoop s w W1.heap.size wr pos fuel acc) (fun wr => s.size - wr.iterPos W1.heap.size)
  case atStart =>
    refine ⟨0, s.size, [34], ?_, ?_, ?_, rfl, by omega, by simp, by omega⟩
    · exact Lib.IsBuilderF.alloc (Or.inr h1) _
    · have := World.iter_heap W1 s 0
      simpa using this
    · exact (((Below.refl _ w).alloc (Nat.le_refl _) _).trans b1).alloc (by omega) _
  case round =>
    obtain ⟨pos, fuel, acc, hI, hit, hbw, hacc, hfu, hal, hps⟩ := hrel
    have hszr : W1.heap.size < wr.heap.size := (Array.getElem?_eq_some_iff.1 hit).1
    by_cases hp : pos < s.size
    · have hnx : ∀ ty, (Instr.next (.pointer (some ⟨W1.heap.size, 0, none⟩)) true ty).run Tryd.prog wr = _ := fun ty => Lib.run_next_any_at wr W1.heap.size s pos ty hit hp
      have hI2 := hI.iterAt hit (pos + (Utf8.decode s pos).2)
      have hit2 := Lib.iterAt_heap wr W1.heap.size s pos (pos + (Utf8.decode s pos).2) hit
      have hbw2 := Lib.below_iterAt hbw (k := W1.heap.size) (by omega) s (pos + (Utf8.decode s pos).2)
      have hsz2 : (wr.iterAt W1.heap.size s (pos + (Utf8.decode s pos).2)).heap.size = wr.heap.size := Lib.iterAt_size _ _ _ _
      have hT2 : Tabs (wr.iterAt W1.heap.size s (pos + (Utf8.decode s pos).2)) := tabs_keep _ _ [] hT (by simp) (ext_of_below hbw2)
      go_wp2_with (go_at_call 17; refine (written_any s pos _ hT2 (by omega) hs hp).mono ?_)
      rintro e W2 ⟨rfl, b2⟩
      have hI3 := isb_below hI2 b2
      have hit3 : W2.heap[W1.heap.size]? = some (.stringIter s (pos + (Utf8.decode s pos).2)) := by rw [b2.block _ (by omega)]; exact hit2
      have hbw3 : Below w.heap.size w W2 := hbw2.trans (b2.mono hbw2.size)
      have hsz3 : w.heap.size ≤ W2.heap.size := hbw3.size
      have hsl := size_list s
      have hwl := NqG.wri_len s.data.toList pos (by omega)
      have hdl := NqG.decode_le s.data.toList pos (by omega)
      have hsd : Lk.sz s.data.toList pos = (Utf8.decode s pos).2 := rfl
      have hp1 := (Lk.sz_bd s.data.toList pos).1
      rw [hsd] at hwl hdl hp1
      have hws : (ByteArray.mk (NqG.wri s.data.toList pos).toArray).size = (NqG.wri s.data.toList pos).length := by simp [← ByteArray.size_data]
      obtain ⟨f, rfl⟩ : ∃ f, fuel = f + 1 := ⟨fuel - 1, by omega⟩
      go_wp2_with (go_at_call 18; refine (Tryd.wstring w.heap.size w.heap.size _ _ _ hI3 (by rw [Lib.byteCells_length, hws]; omega) hsz3).mono ?_)
      rintro e W3 ⟨rfl, h3, b3, k3⟩
      go_wp2
      go_roundw
      case rel =>
        refine ⟨pos + (Utf8.decode s pos).2, f, acc ++ NqG.wri s.data.toList pos, ?_, k3.iter hit3 (by omega), hbw3.trans b3, ?_, by omega, by simp; omega, by omega⟩
        · rw [Lib.byteCells_append]; exact Or.inr h3
        · rw [← hacc]
          have hlt : Nat.blt pos s.data.toList.length = true := by rw [Nat.blt_eq]; omega
          simp only [NqG.qFrom, hlt, cond_true, List.append_assoc]
          rfl
      case measure =>
        simp only [World.iterPos, k3.iter hit3 (by omega), hit]
        omega
    · have hnx : ∀ ty, (Instr.next (.pointer (some ⟨W1.heap.size, 0, none⟩)) true ty).run Tryd.prog wr = _ := fun ty => Lib.run_next_end_at wr W1.heap.size s pos ty hit hp
      go_wp2_with (go_at_call 16; refine (Tryd.wbyte w.heap.size w.heap.size _ 34 _ hI (by rw [Lib.byteCells_length]; omega) (by omega)).mono ?_)
      rintro e W2 ⟨rfl, h2, b2, k2⟩
      have hsl := size_list s
      have hend : NqG.qFrom s.data.toList fuel pos = [] := by
        cases fuel with
        | zero => rfl
        | succ f =>
          have hlt : Nat.blt pos s.data.toList.length = false := by
            cases e : Nat.blt pos s.data.toList.length
            · rfl
            · rw [Nat.blt_eq] at e; omega
          simp only [NqG.qFrom, hlt, cond_false]
      rw [hend, List.append_nil] at hacc
      have hq : acc ++ [34] = NqG.quote s.data.toList := by
        rw [hacc]; unfold NqG.quote; rw [hsl]; rfl
      have h2' : Lib.IsBuilderF 53 5 w.heap.size w.heap.size (Lib.byteCells (acc ++ [34])) W2 := by
        rw [Lib.byteCells_append]; exact Or.inr h2
      have hsz2 : w.heap.size ≤ W2.heap.size := (hbw.trans b2).size
      go_wp2_with (go_at_call 19; refine (Tryd.Builder_String_any_k w.heap.size w.heap.size (acc ++ [34]) _ h2' hsz2).mono ?_)
      rintro e W3 ⟨rfl, _, b3, _⟩
      go_wp2
      go_ret
      exact ⟨by unfold NqG.quote; rw [hsl]; rfl, (hbw.trans b2).trans b3⟩

theorem ok_quote : Lk.FnOk (τ := ax) (Kw := kw) Tryd.prog 9 ⟨[(.s, .r)], [(.s, .r)], 1⟩ (fun x => bif Nat.ble x.1.length 1073741824 then some (NqG.quote x.1, ()) else none) := by
  rintro ⟨s, _⟩ res hx w S Sb ads hK hs ha hargs
  obtain ⟨sh, ads', rfl, ha1⟩ := ads_cons ha
  obtain rfl := ads_nil ha1
  simp only at hx
  cases hb : Nat.ble (s : List UInt8).length 1073741824 with
  | false => rw [hb] at hx; cases hx
  | true =>
    rw [hb] at hx
    cases hx
    have hle : (s : List UInt8).length ≤ 1073741824 := Nat.le_of_ble_eq_true hb
    refine (show Calls Tryd.prog 9 #[.string ⟨(s : List UInt8).toArray⟩] w _ from ?_)
    have hsz : (ByteArray.mk (s : List UInt8).toArray).size = (s : List UInt8).length := by simp [← ByteArray.size_data]
    refine (quote_any ⟨(s : List UInt8).toArray⟩ w hK hargs.sz (by omega)).mono fun e w' ⟨he, hb⟩ => ⟨_, he, ext_of_below hb, ?_⟩
    have hd : (ByteArray.mk (s : List UInt8).toArray).data.toList = s := rfl
    rw [hd]
    have hq := NqG.quote_len s
    refine res_flat [⟨.s, .r, NqG.quote s, ()⟩] rfl (fun b hb => hs b (.inl hb)) hb.size ?_ (by simp [Lk.blsOf, Lk.DV.bl, Lk.bl]) rfl rfl rfl
    intro d hd
    simp only [List.mem_cons, List.not_mem_nil, or_false] at hd
    subst hd
    exact ⟨rfl, show (NqG.quote s).length ≤ 9223372036854775807 by omega⟩
end Go.Proofs.YthfhbbhacaejoaaDoor

