import Derived.Test.YthfhbbhacaejoaaDoorLkThree
import Derived.Test.YthfhbbhacaejoaaDoorScFour
import Derived.Test.YthfhbbhacaejoaaDoorProg
import Derived.ProofKit
import Derived.WalkKit
import Derived.LaidEql
import Derived.Stop.Asserts
import Derived.RowKitTokens
import Derived.Test.YthfhbbhacaejoaaDoorLkTwo
set_option linter.all false
namespace Sc
open Go Lk
set_option linter.unusedVariables false

structure FnsN where
  f73 (n : Nat) (a0 : List UInt8) : Option (Int × Bool × Unit)
  p73_3 (j : Nat) (n0 : Nat) (v0 : List UInt8) (v4 : Int) (v8 : List UInt8) (p8 : Nat) : Option (Int × Bool × Unit)
  p73_2054 (j : Nat) (n0 : Nat) (n1 : Nat) (v0 : List UInt8) (v4 : Int) (v6 : Int) (v8 : List UInt8) (p8 : Nat) (v26 : Bool) : Option (Int × Bool × Unit)
  p73_7 (j : Nat) (n0 : Nat) (n1 : Nat) (v0 : List UInt8) (v4 : Int) (v6 : Int) (v8 : List UInt8) (p8 : Nat) : Option (Int × Bool × Unit)
  f57 (n : Nat) (a0 : List UInt8) : Option (Bool × Unit)
  f59 (n : Nat) (a0 : List (List UInt8)) : Option (Bool × Unit)
  p59_2 (j : Nat) (n0 : Nat) (v5 : List (List UInt8)) (v6 : Int) (v7 : Int) : Option (Bool × Unit)
  f73_eq (n : Nat) (a0 : List UInt8) : f73 (n + 1) a0 =
  (p73_3 (n) (n) (a0) ((0 : Int)) (a0) ((0 : Nat)))
  p73_3_eq (j : Nat) (n0 : Nat) (v0 : List UInt8) (v4 : Int) (v8 : List UInt8) (p8 : Nat) : p73_3 (j + 1) n0 v0 v4 v8 p8 =
  (sel (Decidable.decide (p8 < v8.length))
   (sel (Decidable.decide ((↑(Go.Utf8.decode { data := v8.toArray } p8).fst : Int) < (48 : Int)))
    (p73_2054 (j) (n0) (j) (v0) (v4) ((↑(Go.Utf8.decode { data := v8.toArray } p8).fst : Int)) (v8) (p8 + (Go.Utf8.decode { data := v8.toArray } p8).snd) (Bool.true))
    (sel (Decidable.decide ((↑(Go.Utf8.decode { data := v8.toArray } p8).fst : Int) > (57 : Int)))
     (p73_2054 (j) (n0) (j) (v0) (v4) ((↑(Go.Utf8.decode { data := v8.toArray } p8).fst : Int)) (v8) (p8 + (Go.Utf8.decode { data := v8.toArray } p8).snd) (Bool.true))
     (sel (Decidable.decide ((↑p8 : Int) > (0 : Int)))
      (p73_2054 (j) (n0) (j) (v0) (v4) ((↑(Go.Utf8.decode { data := v8.toArray } p8).fst : Int)) (v8) (p8 + (Go.Utf8.decode { data := v8.toArray } p8).snd) (v4 == (0 : Int)))
      (p73_2054 (j) (n0) (j) (v0) (v4) ((↑(Go.Utf8.decode { data := v8.toArray } p8).fst : Int)) (v8) (p8 + (Go.Utf8.decode { data := v8.toArray } p8).snd) (Bool.false)))))
   (some (v4, !v0 == [], ())))
  p73_2054_eq (j : Nat) (n0 : Nat) (n1 : Nat) (v0 : List UInt8) (v4 : Int) (v6 : Int) (v8 : List UInt8) (p8 : Nat) (v26 : Bool) : p73_2054 (j + 1) n0 n1 v0 v4 v6 v8 p8 v26 =
  (sel (v26)
   (some ((0 : Int), Bool.false, ()))
   (p73_7 (n1) (n0) (n1) (v0) (v4) (v6) (v8) (p8)))
  p73_7_eq (j : Nat) (n0 : Nat) (n1 : Nat) (v0 : List UInt8) (v4 : Int) (v6 : Int) (v8 : List UInt8) (p8 : Nat) : p73_7 (j + 1) n0 n1 v0 v4 v6 v8 p8 =
  (sel (Decidable.decide (Go.IntKind.i64.wrap (Go.IntKind.i64.wrap (v4 * (10 : Int)) + Go.IntKind.i64.wrap (Go.IntKind.i32.wrap (v6 - (48 : Int)))) > (268435456 : Int)))
   (some ((0 : Int), Bool.false, ()))
   (p73_3 (n1) (n0) (v0) (Go.IntKind.i64.wrap (Go.IntKind.i64.wrap (v4 * (10 : Int)) + Go.IntKind.i64.wrap (Go.IntKind.i32.wrap (v6 - (48 : Int))))) (v8) (p8)))
  f57_eq (n : Nat) (a0 : List UInt8) : f57 (n + 1) a0 =
  (obind (f73 n (a0)) fun r40 =>
   (some (r40.snd.fst, ())))
  f59_eq (n : Nat) (a0 : List (List UInt8)) : f59 (n + 1) a0 =
  (p59_2 (n) (n) (a0) ((↑a0.length : Int)) ((0 : Int)))
  p59_2_eq (j : Nat) (n0 : Nat) (v5 : List (List UInt8)) (v6 : Int) (v7 : Int) : p59_2 (j + 1) n0 v5 v6 v7 =
  (sel (Decidable.decide (v7 < v6))
   (sel (Decidable.decide ((0 : Int) ≤ v7))
    (sel (Decidable.decide (v7 < (↑v5.length : Int)))
     (obind (f57 j (v5.getD v7.toNat [])) fun r131 =>
      (sel (!r131.fst)
       (some (Bool.false, ()))
       (p59_2 (j) (n0) (v5) (v6) (Go.IntKind.i64.wrap (v7 + (1 : Int))))))
     none)
    none)
   (some (Bool.true, ())))
end Sc

/-! Numbers of scripts: plain. -/
namespace Sc
open Go Lk ScM NqG

theorem sel_ite {α : Type} (c : Bool) (x y : α) : sel c x y = if c = true then x else y := by cases c <;> rfl

theorem rn_ascii (b : List UInt8) (i : Nat) (h : byt b i < 128) : rn b i = byt b i ∧ sz b i = 1 := by
  unfold rn sz Utf8.decode
  simp only [get_byt, Nat.add_zero, if_pos h, and_self]

theorem rn_big (b : List UInt8) (i : Nat) (h : 128 ≤ byt b i) : 57 < rn b i := by
  rcases Nat.lt_or_ge (rn b i) 128 with h1 | h1
  · have := (decode_small b i h1).2; omega
  · omega

theorem digitB_iff (c : UInt8) : digitB c = true ↔ 48 ≤ c.toNat ∧ c.toNat ≤ 57 := by simp [digitB]

def numS (w : List UInt8) : Int × Bool × Unit := match numOf w with | some n => ((n : Int), true, ()) | none => (0, false, ())

theorem numGo_le : ∀ (l : List UInt8) (a : Nat) (f : Bool) (n : Nat), a ≤ 268435456 → numGo l a f = some n → n ≤ 268435456
  | [], a, f, n, ha, h => by cases h; exact ha
  | c :: l, a, f, n, ha, h => by
    simp only [numGo] at h
    cases h1 : (digitB c && (f || !(a == 0))) with
    | false => rw [h1] at h; cases h
    | true =>
      rw [h1] at h
      simp only [cond_true] at h
      cases h2 : Nat.blt 268435456 (a * 10 + (c.toNat - 48)) with
      | true => rw [h2] at h; cases h
      | false =>
        rw [h2] at h
        refine numGo_le l _ _ n ?_ h
        rcases Nat.lt_or_ge 268435456 (a * 10 + (c.toNat - 48)) with h3 | h3
        · rw [← Nat.blt_eq, h2] at h3; cases h3
        · exact h3

section
variable (X : FnsN)

theorem p73_ok (w : List UInt8) (hw : w.length ≤ 1073741824) : ∀ (N p a j n0 : Nat), w.length = p + N → N + 2 ≤ j → a ≤ 268435456 →
    X.p73_3 j n0 w (a : Int) w p = some (match numGo (w.drop p) a (p == 0) with | some n => ((n : Int), !w == [], ()) | none => (0, false, ())) := by
  intro N
  induction N with
  | zero =>
    intro p a j n0 hp hj ha
    obtain ⟨j, rfl⟩ : ∃ i, j = i + 1 := ⟨j - 1, by omega⟩
    rw [X.p73_3_eq, sel_ite, if_neg (by simp; omega)]
    rw [List.drop_eq_nil_of_le (by omega)]
    rfl
  | succ N ih =>
    intro p a j n0 hp hj ha
    obtain ⟨j, rfl⟩ : ∃ i, j = i + 3 := ⟨j - 3, by omega⟩
    have hlt : p < w.length := by omega
    obtain ⟨c, r, hd⟩ : ∃ c r, w.drop p = c :: r := by
      cases h : w.drop p with
      | nil => have := congrArg List.length h; simp at this; omega
      | cons c r => exact ⟨c, r, rfl⟩
    obtain ⟨hc, _, hr⟩ := drop_cons hd
    have hb : byt w p = c.toNat := by unfold byt; rw [hc]
    have hcl := UInt8.toNat_lt c
    rw [X.p73_3_eq, sel_ite, if_pos (by simpa using hlt)]
    have e1 : (Utf8.decode { data := w.toArray } p).fst = rn w p := rfl
    have e2 : (Utf8.decode { data := w.toArray } p).snd = sz w p := rfl
    rw [e1, e2, hd]
    simp only [numGo]
    have stop : ∀ (v : Int) (r : Int) (s : Nat), X.p73_2054 (j + 2) n0 (j + 2) w v r w s true = some (0, false, ()) := by
      intro v r s
      rw [X.p73_2054_eq, sel_t]
    by_cases h1 : 48 ≤ c.toNat ∧ c.toNat ≤ 57
    · obtain ⟨h3, h4⟩ := rn_ascii w p (by omega)
      rw [h3, h4, hb, (digitB_iff c).2 h1]
      simp only [Bool.true_and]
      rw [sel_ite, if_neg (by simp; omega), sel_ite, if_neg (by simp; omega), sel_ite]
      have go : X.p73_2054 (j + 2) n0 (j + 2) w (a : Int) ((c.toNat : Nat) : Int) w (p + 1) false =
          some (match (bif Nat.blt 268435456 (a * 10 + (c.toNat - 48)) then none else numGo r (a * 10 + (c.toNat - 48)) false) with | some n => ((n : Int), !w == [], ()) | none => (0, false, ())) := by
        rw [X.p73_2054_eq, sel_f, X.p73_7_eq]
        have w1 : IntKind.i32.wrap (((c.toNat : Nat) : Int) - 48) = ((c.toNat - 48 : Nat) : Int) := by rw [IntWalk.i32_in _ (by omega)]; omega
        have w2 : IntKind.i64.wrap ((a : Int) * 10) = ((a * 10 : Nat) : Int) := by rw [wrap64 (by omega) (by omega)]; omega
        have w3 : IntKind.i64.wrap (((a * 10 : Nat) : Int) + IntKind.i64.wrap ((c.toNat - 48 : Nat) : Int)) = ((a * 10 + (c.toNat - 48) : Nat) : Int) := by
          rw [wrap64 (x := ((c.toNat - 48 : Nat) : Int)) (by omega) (by omega), wrap64 (by omega) (by omega)]; omega
        rw [w1, w2, w3, sel_ite]
        by_cases h5 : 268435456 < a * 10 + (c.toNat - 48)
        · rw [if_pos (by simp; omega)]
          have : Nat.blt 268435456 (a * 10 + (c.toNat - 48)) = true := by rw [Nat.blt_eq]; exact h5
          rw [this]; rfl
        · rw [if_neg (by simp; omega)]
          have : Nat.blt 268435456 (a * 10 + (c.toNat - 48)) = false := by
            cases h6 : Nat.blt 268435456 (a * 10 + (c.toNat - 48)) with
            | false => rfl
            | true => rw [Nat.blt_eq] at h6; exact absurd h6 h5
          rw [this, ih (p + 1) (a * 10 + (c.toNat - 48)) (j + 2) n0 (by omega) (by omega) (by omega), hr]
          rfl
      by_cases h6 : p = 0
      · subst h6
        rw [if_neg (by simp)]
        simpa using go
      · rw [if_pos (by simp; omega)]
        have hp0 : (p == 0) = false := by simpa using h6
        rw [hp0]
        simp only [Bool.false_or]
        by_cases h7 : a = 0
        · subst h7
          simp only [beq_self_eq_true, Bool.not_true, cond_false]
          exact stop _ _ _
        · have e0 : ((a : Int) == 0) = false := by simpa using h7
          have e1 : (a == 0) = false := by simpa using h7
          rw [e0, e1]
          simpa using go
    · have hdg : digitB c = false := by
        cases h : digitB c with
        | false => rfl
        | true => exact absurd ((digitB_iff c).1 h) h1
      rw [hdg]
      simp only [Bool.false_and, cond_false]
      rcases Nat.lt_or_ge c.toNat 128 with h2 | h2
      · obtain ⟨h3, h4⟩ := rn_ascii w p (by omega)
        rw [h3, hb, sel_ite]
        by_cases h5 : c.toNat < 48
        · rw [if_pos (by simp; omega)]; exact stop _ _ _
        · rw [if_neg (by simp; omega), sel_ite, if_pos (by simp; omega)]; exact stop _ _ _
      · have := rn_big w p (by omega)
        rw [sel_ite, if_neg (by simp; omega), sel_ite, if_pos (by simp; omega)]; exact stop _ _ _

theorem f73_ok (w : List UInt8) (hw : w.length ≤ 1073741824) (j : Nat) (hj : w.length + 3 ≤ j) : X.f73 j w = some (numS w) := by
  obtain ⟨j, rfl⟩ : ∃ i, j = i + 1 := ⟨j - 1, by omega⟩
  rw [X.f73_eq]
  have := p73_ok X w hw w.length 0 0 j j (by omega) (by omega) (by omega)
  rw [show ((0 : Nat) : Int) = 0 from rfl] at this
  rw [this]
  unfold numS numOf
  cases w with
  | nil => rfl
  | cons c r => rfl

theorem f57_ok (w : List UInt8) (hw : w.length ≤ 1073741824) (j : Nat) (hj : w.length + 4 ≤ j) : X.f57 j w = some (isNum w, ()) := by
  obtain ⟨j, rfl⟩ : ∃ i, j = i + 1 := ⟨j - 1, by omega⟩
  rw [X.f57_eq, f73_ok X w hw j (by omega), ob_some]
  unfold numS isNum
  cases numOf w <;> rfl

theorem p59_ok (ws : List (List UInt8)) (hl : ws.length ≤ 1073741824) (hw : ∀ w ∈ ws, w.length ≤ 1073741824) (m : Nat) (hm : ∀ w ∈ ws, w.length ≤ m) : ∀ (N k j n0 : Nat), ws.length = k + N → N + m + 6 ≤ j →
    X.p59_2 j n0 ws (ws.length : Int) (k : Int) = some ((ws.drop k).all isNum, ()) := by
  intro N
  induction N with
  | zero =>
    intro k j n0 hk hj
    obtain ⟨j, rfl⟩ : ∃ i, j = i + 1 := ⟨j - 1, by omega⟩
    rw [X.p59_2_eq, sel_ite, if_neg (by simp; omega), List.drop_eq_nil_of_le (by omega)]
    rfl
  | succ N ih =>
    intro k j n0 hk hj
    obtain ⟨j, rfl⟩ : ∃ i, j = i + 1 := ⟨j - 1, by omega⟩
    have hlt : k < ws.length := by omega
    have hg : ws.getD ((k : Int).toNat) [] = ws[k] := by
      rw [Int.toNat_natCast, List.getD_eq_getElem?_getD, List.getElem?_eq_getElem hlt]; rfl
    have hmem := List.getElem_mem hlt
    rw [X.p59_2_eq, sel_ite, if_pos (by simp; omega), sel_ite, if_pos (by simp), sel_ite, if_pos (by simp; omega), hg, f57_ok X _ (hw _ hmem) j (by have := hm _ hmem; omega), ob_some]
    rw [List.drop_eq_getElem_cons hlt, List.all_cons]
    cases h : isNum ws[k] with
    | false => rfl
    | true =>
      simp only [Bool.not_true, sel_f, Bool.true_and]
      have w1 : IntKind.i64.wrap ((k : Int) + 1) = ((k + 1 : Nat) : Int) := by rw [wrap64 (by omega) (by omega)]; omega
      rw [w1]
      exact ih (k + 1) j n0 (by omega) (by omega)

theorem f59_ok (ws : List (List UInt8)) (hl : ws.length ≤ 1073741824) (m : Nat) (hm : ∀ w ∈ ws, w.length ≤ m) (hb : m ≤ 1073741824) (j : Nat) (hj : ws.length + m + 8 ≤ j) : X.f59 j ws = some (ws.all isNum, ()) := by
  obtain ⟨j, rfl⟩ : ∃ i, j = i + 1 := ⟨j - 1, by omega⟩
  rw [X.f59_eq]
  have := p59_ok X ws hl (fun w h => Nat.le_trans (hm w h) hb) m hm ws.length 0 j j (by omega) (by omega)
  simpa using this
end
end Sc

namespace Sc0
open Go Lk
noncomputable def tys : BT (Ty × Md) := (.node (.node (.node (.node (.node (.node (.node (.node .leaf 1 (.z .fn, .r) .leaf) 2 (.i .i64, .r) .leaf) 3 (.i .i64, .r) (.node .leaf 4 (.b, .r) .leaf)) 5 (.by, .r) (.node (.node (.node .leaf 6 (.by, .r) .leaf) 7 (.c (.i .i64) (.c (.i .i64) (.c (.b) (.c (.by) (.u)))), (.q .r (.q .r (.q .r (.q .r .r))))) .leaf) 8 (.c (.i .i64) (.c (.i .i64) (.c (.b) (.c (.by) (.u)))), (.q .r (.q .r (.q .r (.q .r .r))))) (.node .leaf 9 (.s, .r) .leaf))) 10 (.s, .r) (.node (.node (.node (.node .leaf 11 (.s, .r) .leaf) 12 (.i .u64, .r) .leaf) 13 (.c (.s) (.c (.i .u64) (.u)), (.q .r (.q .r .r))) (.node .leaf 14 (.c (.s) (.c (.i .u64) (.u)), (.q .r (.q .r .r))) .leaf)) 15 (.p (.c (.p (.c (.i .u64) (.c (.i .u64) (.c (.i .u32) (.c (.by) (.c (.by) (.c (.by) (.c (.by) (.c (.z .fn) (.c (.p (.by)) (.c (.i .i32) (.c (.i .i32) (.u))))))))))))) (.c (.p (.c (.i .u64) (.c (.i .u64) (.c (.i .u32) (.c (.by) (.c (.by) (.c (.by) (.c (.by) (.c (.z .fn) (.c (.p (.by)) (.c (.i .i32) (.c (.i .i32) (.u))))))))))))) (.c (.p (.c (.i .u64) (.c (.i .u64) (.c (.i .u32) (.c (.by) (.c (.by) (.c (.by) (.c (.by) (.c (.z .fn) (.c (.p (.by)) (.c (.i .i32) (.c (.i .i32) (.u))))))))))))) (.c (.s) (.u))))), (.o (.q (.o (.q .r (.q .r (.q .r (.q .r (.q .r (.q .r (.q .r (.q .r (.q (.o .r) (.q .r (.q .r .r)))))))))))) (.q (.o (.q .r (.q .r (.q .r (.q .r (.q .r (.q .r (.q .r (.q .r (.q (.o .r) (.q .r (.q .r .r)))))))))))) (.q (.o (.q .r (.q .r (.q .r (.q .r (.q .r (.q .r (.q .r (.q .r (.q (.o .r) (.q .r (.q .r .r)))))))))))) (.q .r .r)))))) (.node (.node .leaf 16 (.z .pt, .r) .leaf) 17 (.p (.c (.i .u64) (.c (.i .u64) (.c (.i .u32) (.c (.by) (.c (.by) (.c (.by) (.c (.by) (.c (.z .fn) (.c (.p (.by)) (.c (.i .i32) (.c (.i .i32) (.u)))))))))))), (.o (.q .r (.q .r (.q .r (.q .r (.q .r (.q .r (.q .r (.q .r (.q (.o .r) (.q .r (.q .r .r))))))))))))) (.node .leaf 18 (.c (.p (.c (.i .u64) (.c (.i .u64) (.c (.i .u32) (.c (.by) (.c (.by) (.c (.by) (.c (.by) (.c (.z .fn) (.c (.p (.by)) (.c (.i .i32) (.c (.i .i32) (.u))))))))))))) (.u), (.q (.o (.q .r (.q .r (.q .r (.q .r (.q .r (.q .r (.q .r (.q .r (.q (.o .r) (.q .r (.q .r .r)))))))))))) .r)) .leaf)))) 19 (.c (.p (.c (.i .u64) (.c (.i .u64) (.c (.i .u32) (.c (.by) (.c (.by) (.c (.by) (.c (.by) (.c (.z .fn) (.c (.p (.by)) (.c (.i .i32) (.c (.i .i32) (.u))))))))))))) (.u), (.q (.o (.q .r (.q .r (.q .r (.q .r (.q .r (.q .r (.q .r (.q .r (.q (.o .r) (.q .r (.q .r .r)))))))))))) .r)) (.node (.node (.node (.node (.node .leaf 20 (.e, .r) .leaf) 21 (.i .i32, .r) .leaf) 22 (.l (.c (.s) (.c (.l (.s)) (.u))), (.o (.q .r (.q (.o .r) .r)))) (.node .leaf 23 (.i .i64, .r) .leaf)) 25 (.z .fn, .r) (.node (.node (.node .leaf 26 (.l (.c (.i .i64) (.c (.s) (.c (.l (.s)) (.u)))), (.o (.q .r (.q .r (.q (.o .r) .r))))) .leaf) 28 (.z .fn, .r) .leaf) 29 (.l (.s), (.o .r)) (.node .leaf 30 (.c (.s) (.c (.l (.s)) (.u)), (.q .r (.q (.o .r) .r))) .leaf))) 31 (.c (.s) (.c (.l (.s)) (.u)), (.q .r (.q (.o .r) .r))) (.node (.node (.node (.node .leaf 32 (.c (.i .i64) (.c (.s) (.c (.l (.s)) (.u))), (.q .r (.q .r (.q (.o .r) .r)))) .leaf) 33 (.c (.i .i64) (.c (.s) (.c (.l (.s)) (.u))), (.q .r (.q .r (.q (.o .r) .r)))) .leaf) 34 (.z .fn, .r) (.node .leaf 35 (.z .fn, .r) .leaf)) 36 (.z .fn, .r) (.node (.node .leaf 37 (.z .fn, .r) .leaf) 38 (.l (.c (.c (.s) (.c (.l (.s)) (.u))) (.c (.i .i64) (.u))), (.o (.q (.q .r (.q (.o .r) .r)) (.q .r .r)))) (.node .leaf 40 (.z .fn, .r) .leaf))))) 41 (.c (.c (.s) (.c (.l (.s)) (.u))) (.c (.i .i64) (.u)), (.q (.q .r (.q (.o .r) .r)) (.q .r .r))) (.node (.node (.node (.node (.node (.node .leaf 42 (.c (.c (.s) (.c (.l (.s)) (.u))) (.c (.i .i64) (.u)), (.q (.q .r (.q (.o .r) .r)) (.q .r .r))) .leaf) 43 (.z .fn, .r) .leaf) 45 (.z .fn, .r) (.node .leaf 47 (.z .fn, .r) .leaf)) 48 (.z .fn, .r) (.node (.node (.node .leaf 49 (.z .fn, .r) .leaf) 50 (.p (.c (.p (.c (.p (.c (.p (.c (.p (.c (.z .pt) (.c (.l (.by)) (.u)))) (.c (.l (.by)) (.u)))) (.c (.l (.by)) (.u)))) (.c (.l (.by)) (.u)))) (.c (.l (.by)) (.u))), (.o (.q (.o (.q (.o (.q (.o (.q (.o (.q .r (.q (.o .r) .r))) (.q (.o .r) .r))) (.q (.o .r) .r))) (.q (.o .r) .r))) (.q (.o .r) .r)))) .leaf) 51 (.l (.by), (.o .r)) (.node .leaf 52 (.c (.p (.c (.p (.c (.p (.c (.p (.c (.p (.c (.z .pt) (.c (.z .sl) (.u)))) (.c (.l (.by)) (.u)))) (.c (.l (.by)) (.u)))) (.c (.l (.by)) (.u)))) (.c (.l (.by)) (.u)))) (.c (.l (.by)) (.u)), (.q (.o (.q (.o (.q (.o (.q (.o (.q (.o (.q .r (.q .r .r))) (.q (.o .r) .r))) (.q (.o .r) .r))) (.q (.o .r) .r))) (.q (.o .r) .r))) (.q (.o .r) .r))) .leaf))) 53 (.c (.p (.c (.p (.c (.p (.c (.p (.c (.p (.c (.z .pt) (.c (.z .sl) (.u)))) (.c (.l (.by)) (.u)))) (.c (.l (.by)) (.u)))) (.c (.l (.by)) (.u)))) (.c (.l (.by)) (.u)))) (.c (.l (.by)) (.u)), (.q (.o (.q (.o (.q (.o (.q (.o (.q (.o (.q .r (.q .r .r))) (.q (.o .r) .r))) (.q (.o .r) .r))) (.q (.o .r) .r))) (.q (.o .r) .r))) (.q (.o .r) .r))) (.node (.node (.node (.node .leaf 54 (.e, .r) .leaf) 55 (.e, .r) .leaf) 56 (.z .fn, .r) (.node .leaf 58 (.z .fn, .r) .leaf)) 60 (.z .fn, .r) (.node (.node .leaf 61 (.z .fn, .r) .leaf) 62 (.z .fn, .r) (.node .leaf 64 (.z .fn, .r) .leaf)))) 65 (.c (.i .i64) (.u), (.q .r .r)) (.node (.node (.node (.node (.node .leaf 66 (.c (.i .i64) (.u), (.q .r .r)) .leaf) 67 (.z .fn, .r) .leaf) 68 (.p (.c (.i .i64) (.u)), (.o (.q .r .r))) (.node .leaf 69 (.z .fn, .r) .leaf)) 70 (.l (.c (.i .i64) (.c (.s) (.c (.s) (.u)))), (.o (.q .r (.q .r (.q .r .r))))) (.node (.node .leaf 72 (.z .fn, .r) .leaf) 74 (.z .fn, .r) (.node .leaf 75 (.z .fn, .r) .leaf))) 77 (.z .fn, .r) (.node (.node (.node (.node .leaf 78 (.z .fn, .r) .leaf) 79 (.z .fn, .r) .leaf) 80 (.p (.by), (.o .r)) (.node .leaf 81 (.z .fn, .r) .leaf)) 83 (.z .fn, .r) (.node (.node .leaf 85 (.z .fn, .r) .leaf) 87 (.i .u64, .r) (.node .leaf 90 (.z .fn, .r) .leaf)))))) 91 (.e, .r) (.node (.node (.node (.node (.node (.node (.node .leaf 92 (.e, .r) .leaf) 93 (.z .fn, .r) .leaf) 94 (.by, .r) (.node .leaf 95 (.z .fn, .r) .leaf)) 96 (.z .fn, .r) (.node (.node (.node .leaf 97 (.z .fn, .r) .leaf) 99 (.z .fn, .r) .leaf) 100 (.i .u32, .r) (.node .leaf 102 (.z .fn, .r) .leaf))) 103 (.z .fn, .r) (.node (.node (.node (.node .leaf 104 (.c (.i .i64) (.c (.s) (.c (.s) (.u))), (.q .r (.q .r (.q .r .r)))) .leaf) 105 (.c (.i .i64) (.c (.s) (.c (.s) (.u))), (.q .r (.q .r (.q .r .r)))) .leaf) 106 (.z .fn, .r) (.node .leaf 107 (.i .u64, .r) .leaf)) 108 (.z .fn, .r) (.node (.node .leaf 109 (.z .fn, .r) .leaf) 110 (.z .fn, .r) (.node .leaf 111 (.z .fn, .r) .leaf)))) 112 (.c (.p (.c (.i .u64) (.c (.i .u64) (.c (.i .u32) (.c (.by) (.c (.by) (.c (.by) (.c (.by) (.c (.z .fn) (.c (.p (.by)) (.c (.i .i32) (.c (.i .i32) (.u))))))))))))) (.u), (.q (.o (.q .r (.q .r (.q .r (.q .r (.q .r (.q .r (.q .r (.q .r (.q (.o .r) (.q .r (.q .r .r)))))))))))) .r)) (.node (.node (.node (.node (.node .leaf 113 (.c (.p (.c (.i .u64) (.c (.i .u64) (.c (.i .u32) (.c (.by) (.c (.by) (.c (.by) (.c (.by) (.c (.z .fn) (.c (.p (.by)) (.c (.i .i32) (.c (.i .i32) (.u))))))))))))) (.u), (.q (.o (.q .r (.q .r (.q .r (.q .r (.q .r (.q .r (.q .r (.q .r (.q (.o .r) (.q .r (.q .r .r)))))))))))) .r)) .leaf) 114 (.p (.c (.s) (.c (.by) (.u))), (.o (.q .r (.q .r .r)))) .leaf) 115 (.z .fn, .r) (.node .leaf 116 (.z .fn, .r) .leaf)) 117 (.z .fn, .r) (.node (.node .leaf 118 (.e, .r) .leaf) 120 (.z .fn, .r) (.node .leaf 121 (.e, .r) .leaf))) 122 (.z .fn, .r) (.node (.node (.node (.node .leaf 123 (.e, .r) .leaf) 124 (.l (.e), (.o .r)) .leaf) 125 (.z .fn, .r) (.node .leaf 126 (.z .fn, .r) .leaf)) 127 (.z .fn, .r) (.node (.node .leaf 129 (.c (.by) (.c (.by) (.u)), (.q .r (.q .r .r))) .leaf) 130 (.c (.by) (.c (.by) (.u)), (.q .r (.q .r .r))) (.node .leaf 132 (.z .fn, .r) .leaf))))) 133 (.c (.i .i64) (.c (.i .i64) (.c (.i .i64) (.u))), (.q .r (.q .r (.q .r .r)))) (.node (.node (.node (.node (.node (.node .leaf 134 (.c (.i .i64) (.c (.i .i64) (.c (.i .i64) (.u))), (.q .r (.q .r (.q .r .r)))) .leaf) 135 (.l (.i .i64), (.o .r)) .leaf) 136 (.c (.i .i64) (.c (.i .i64) (.c (.i .i64) (.c (.c (.i .i64) (.c (.i .i64) (.c (.i .i64) (.u)))) (.c (.i .i64) (.c (.i .i64) (.c (.i .i64) (.c (.i .i64) (.c (.i .i64) (.c (.i .i64) (.c (.i .i64) (.c (.i .i64) (.c (.i .i64) (.c (.l (.i .i64)) (.u)))))))))))))), (.q .r (.q .r (.q .r (.q (.q .r (.q .r (.q .r .r))) (.q .r (.q .r (.q .r (.q .r (.q .r (.q .r (.q .r (.q .r (.q .r (.q (.o .r) .r))))))))))))))) (.node .leaf 137 (.c (.i .i64) (.c (.i .i64) (.c (.i .i64) (.c (.c (.i .i64) (.c (.i .i64) (.c (.i .i64) (.u)))) (.c (.i .i64) (.c (.i .i64) (.c (.i .i64) (.c (.i .i64) (.c (.i .i64) (.c (.i .i64) (.c (.i .i64) (.c (.i .i64) (.c (.i .i64) (.c (.l (.i .i64)) (.u)))))))))))))), (.q .r (.q .r (.q .r (.q (.q .r (.q .r (.q .r .r))) (.q .r (.q .r (.q .r (.q .r (.q .r (.q .r (.q .r (.q .r (.q .r (.q (.o .r) .r))))))))))))))) .leaf)) 138 (.c (.c (.i .i64) (.c (.i .i64) (.c (.i .i64) (.c (.c (.i .i64) (.c (.i .i64) (.c (.i .i64) (.u)))) (.c (.i .i64) (.c (.i .i64) (.c (.i .i64) (.c (.i .i64) (.c (.i .i64) (.c (.i .i64) (.c (.i .i64) (.c (.i .i64) (.c (.i .i64) (.c (.l (.i .i64)) (.u))))))))))))))) (.u), (.q (.q .r (.q .r (.q .r (.q (.q .r (.q .r (.q .r .r))) (.q .r (.q .r (.q .r (.q .r (.q .r (.q .r (.q .r (.q .r (.q .r (.q (.o .r) .r)))))))))))))) .r)) (.node (.node (.node .leaf 139 (.c (.c (.i .i64) (.c (.i .i64) (.c (.i .i64) (.c (.c (.i .i64) (.c (.i .i64) (.c (.i .i64) (.u)))) (.c (.i .i64) (.c (.i .i64) (.c (.i .i64) (.c (.i .i64) (.c (.i .i64) (.c (.i .i64) (.c (.i .i64) (.c (.i .i64) (.c (.i .i64) (.c (.l (.i .i64)) (.u))))))))))))))) (.u), (.q (.q .r (.q .r (.q .r (.q (.q .r (.q .r (.q .r .r))) (.q .r (.q .r (.q .r (.q .r (.q .r (.q .r (.q .r (.q .r (.q .r (.q (.o .r) .r)))))))))))))) .r)) .leaf) 140 (.p (.i .i64), (.o .r)) .leaf) 141 (.z .fn, .r) (.node .leaf 142 (.z .fn, .r) .leaf))) 143 (.z .fn, .r) (.node (.node (.node (.node .leaf 144 (.p (.c (.c (.i .i64) (.c (.i .i64) (.c (.i .i64) (.c (.c (.i .i64) (.c (.i .i64) (.c (.i .i64) (.u)))) (.c (.i .i64) (.c (.i .i64) (.c (.i .i64) (.c (.i .i64) (.c (.i .i64) (.c (.i .i64) (.c (.i .i64) (.c (.i .i64) (.c (.i .i64) (.c (.l (.i .i64)) (.u))))))))))))))) (.u)), (.o (.q (.q .r (.q .r (.q .r (.q (.q .r (.q .r (.q .r .r))) (.q .r (.q .r (.q .r (.q .r (.q .r (.q .r (.q .r (.q .r (.q .r (.q (.o .r) .r)))))))))))))) .r))) .leaf) 146 (.z .fn, .r) .leaf) 147 (.c (.p (.c (.i .u64) (.c (.i .u64) (.c (.i .u32) (.c (.by) (.c (.by) (.c (.by) (.c (.by) (.c (.z .fn) (.c (.p (.by)) (.c (.i .i32) (.c (.i .i32) (.u))))))))))))) (.c (.p (.c (.i .u64) (.c (.i .u64) (.c (.i .u32) (.c (.by) (.c (.by) (.c (.by) (.c (.by) (.c (.z .fn) (.c (.p (.by)) (.c (.i .i32) (.c (.i .i32) (.u))))))))))))) (.c (.p (.c (.i .u64) (.c (.i .u64) (.c (.i .u32) (.c (.by) (.c (.by) (.c (.by) (.c (.by) (.c (.z .fn) (.c (.p (.by)) (.c (.i .i32) (.c (.i .i32) (.u))))))))))))) (.c (.s) (.u)))), (.q (.o (.q .r (.q .r (.q .r (.q .r (.q .r (.q .r (.q .r (.q .r (.q (.o .r) (.q .r (.q .r .r)))))))))))) (.q (.o (.q .r (.q .r (.q .r (.q .r (.q .r (.q .r (.q .r (.q .r (.q (.o .r) (.q .r (.q .r .r)))))))))))) (.q (.o (.q .r (.q .r (.q .r (.q .r (.q .r (.q .r (.q .r (.q .r (.q (.o .r) (.q .r (.q .r .r)))))))))))) (.q .r .r))))) (.node .leaf 148 (.c (.p (.c (.i .u64) (.c (.i .u64) (.c (.i .u32) (.c (.by) (.c (.by) (.c (.by) (.c (.by) (.c (.z .fn) (.c (.p (.by)) (.c (.i .i32) (.c (.i .i32) (.u))))))))))))) (.c (.p (.c (.i .u64) (.c (.i .u64) (.c (.i .u32) (.c (.by) (.c (.by) (.c (.by) (.c (.by) (.c (.z .fn) (.c (.p (.by)) (.c (.i .i32) (.c (.i .i32) (.u))))))))))))) (.c (.p (.c (.i .u64) (.c (.i .u64) (.c (.i .u32) (.c (.by) (.c (.by) (.c (.by) (.c (.by) (.c (.z .fn) (.c (.p (.by)) (.c (.i .i32) (.c (.i .i32) (.u))))))))))))) (.c (.s) (.u)))), (.q (.o (.q .r (.q .r (.q .r (.q .r (.q .r (.q .r (.q .r (.q .r (.q (.o .r) (.q .r (.q .r .r)))))))))))) (.q (.o (.q .r (.q .r (.q .r (.q .r (.q .r (.q .r (.q .r (.q .r (.q (.o .r) (.q .r (.q .r .r)))))))))))) (.q (.o (.q .r (.q .r (.q .r (.q .r (.q .r (.q .r (.q .r (.q .r (.q (.o .r) (.q .r (.q .r .r)))))))))))) (.q .r .r))))) .leaf)) 152 (.z .fn, .r) (.node (.node .leaf 153 (.z .fn, .r) .leaf) 154 (.by, .r) (.node .leaf 155 (.z .fn, .r) .leaf)))) 156 (.i .i32, .r) (.node (.node (.node (.node (.node .leaf 157 (.i .i32, .r) .leaf) 158 (.c (.i .u64) (.c (.i .u64) (.c (.i .u32) (.c (.by) (.c (.by) (.c (.by) (.c (.by) (.c (.z .fn) (.c (.p (.by)) (.c (.i .i32) (.c (.i .i32) (.u))))))))))), (.q .r (.q .r (.q .r (.q .r (.q .r (.q .r (.q .r (.q .r (.q (.o .r) (.q .r (.q .r .r)))))))))))) .leaf) 159 (.c (.i .u64) (.c (.i .u64) (.c (.i .u32) (.c (.by) (.c (.by) (.c (.by) (.c (.by) (.c (.z .fn) (.c (.p (.by)) (.c (.i .i32) (.c (.i .i32) (.u))))))))))), (.q .r (.q .r (.q .r (.q .r (.q .r (.q .r (.q .r (.q .r (.q (.o .r) (.q .r (.q .r .r)))))))))))) (.node .leaf 160 (.z .fn, .r) .leaf)) 161 (.z .fn, .r) (.node (.node .leaf 162 (.c (.s) (.c (.by) (.u)), (.q .r (.q .r .r))) .leaf) 163 (.c (.s) (.c (.by) (.u)), (.q .r (.q .r .r))) (.node .leaf 164 (.p (.c (.i .i32) (.c (.i .u16) (.c (.i .u16) (.c (.i .u32) (.c (.i .u32) (.u)))))), (.o (.q .r (.q .r (.q .r (.q .r (.q .r .r))))))) .leaf))) 165 (.z .fn, .r) (.node (.node (.node (.node .leaf 166 (.i .u16, .r) .leaf) 167 (.c (.i .i32) (.c (.i .u16) (.c (.i .u16) (.c (.i .u32) (.c (.i .u32) (.u))))), (.q .r (.q .r (.q .r (.q .r (.q .r .r)))))) .leaf) 168 (.c (.i .i32) (.c (.i .u16) (.c (.i .u16) (.c (.i .u32) (.c (.i .u32) (.u))))), (.q .r (.q .r (.q .r (.q .r (.q .r .r)))))) (.node .leaf 169 (.l (.c (.i .i32) (.c (.i .i32) (.c (.i .i32) (.c (.i .i32) (.u))))), (.o (.q .r (.q .r (.q .r (.q .r .r)))))) .leaf)) 170 (.i .i32, .r) (.node (.node .leaf 171 (.c (.i .i32) (.c (.i .i32) (.c (.i .i32) (.c (.i .i32) (.u)))), (.q .r (.q .r (.q .r (.q .r .r))))) .leaf) 172 (.c (.i .i32) (.c (.i .i32) (.c (.i .i32) (.c (.i .i32) (.u)))), (.q .r (.q .r (.q .r (.q .r .r))))) (.node .leaf 173 (.p (.e), (.o .r)) .leaf)))))))
noncomputable def sigs : BT Sig := (.node (.node .leaf 57 ⟨[(.s, .r)], [(.b, .r)], 1⟩ .leaf) 59 ⟨[(.l (.s), .b)], [(.b, .r)], 1⟩ (.node .leaf 73 ⟨[(.s, .r)], [(.i .i64, .r), (.b, .r)], 2⟩ .leaf))
noncomputable def bodies : BT Func := (.node (.node .leaf 57 Go.Proofs.Tryd.f57 .leaf) 59 Go.Proofs.Tryd.f59 (.node .leaf 73 Go.Proofs.Tryd.f73 .leaf))
noncomputable def exts : BT Func := .leaf
noncomputable def lives : BT (List Nat) := (.node (.node (.node .leaf 241666 [5, 6, 7] .leaf) 299011 [0, 4, 8] .leaf) 299015 [0, 4, 6, 8] (.node .leaf 301062 [0, 4, 6, 8, 26] .leaf))
noncomputable def lims : BT Nat := (.node (.node .leaf 22 1073741824 .leaf) 26 1073741824 (.node (.node .leaf 29 1073741824 .leaf) 51 1073741824 (.node .leaf 70 1073741824 .leaf)))
noncomputable def G : Prg where
  ty T := tys.get T
  lim T := (lims.get T).getD 0
  cmp T := memb [] T

  sig g := (sigs.get g).getD ⟨[], [], 0⟩
  body g := bodies.get g
  ext g := none
  live g r := lives.get (Nat.add (Nat.mul g 4096) r)
end Sc0

namespace Go.Proofs.YthfhbbhacaejoaaDoor.Sc0P
open Go.ChangeShapes Go.WideShapes Go.ChangeAt Go.RowKit
theorem env : Lk.EnvOk ax Tryd.prog Sc0.G.toEnv := Lk.env_ok (tys := Sc0.tys) (lims := Sc0.lims) (cmps := []) (fun _ => rfl) (fun _ => rfl) (fun _ => rfl) (by kernel_rfl) (by kernel_rfl)
theorem names : (Sc0.bodies.toList ++ Sc0.exts.toList).all (fun p => Lk.nameB p.2) = true := by kernel_rfl
theorem nrs : Sc0.bodies.toList.all (Lk.nrB Sc0.sigs) = true := by kernel_rfl
theorem funcs : ∀ p ∈ Sc0.bodies.toList ++ Sc0.exts.toList, Tryd.prog.funcs[p.1]? = some p.2 := by
  intro p hp
  have e : Sc0.bodies.toList ++ Sc0.exts.toList = [(57, Tryd.f57), (59, Tryd.f59), (73, Tryd.f73)] := by kernel_rfl
  rw [e] at hp
  simp only [List.mem_cons, List.not_mem_nil, or_false] at hp
  rcases hp with rfl | rfl | rfl
  · exact Tryd.func57
  · exact Tryd.func59
  · exact Tryd.func73
theorem exts : ∀ g F n, Sc0.G.ext g = some F → Lk.FnOk (τ := ax) (Kw := kw) Tryd.prog g (Sc0.G.sig g) (F n) := by
  intro g F n h
  cases h
theorem extb : ∀ g F, Sc0.G.ext g = some F → (Sc0.exts.get g).isSome = true := by
  intro g F h
  cases h
theorem prg : Lk.PrgOk kw ax Tryd.prog Sc0.G :=
  Lk.prg_ok (bodies := Sc0.bodies) (exts := Sc0.exts) env (by kernel_rfl) (fun w w' B h hB _ hx => tabs_keep w w' B h hB hx) (fun _ => rfl) extb exts funcs names (by kernel_rfl)
theorem res : ∀ g fn, Sc0.G.body g = some fn → fn.results.size ≤ 5 ∧ (Sc0.G.sig g).nr = fn.results.size := Lk.res_le (bodies := Sc0.bodies) (exts := Sc0.exts) (sigs := Sc0.sigs) (fun _ => rfl) (fun _ => rfl) names nrs
end Go.Proofs.YthfhbbhacaejoaaDoor.Sc0P

namespace Sc0
open Go Lk
set_option linter.unusedVariables false
@[irreducible] noncomputable def f73 (n : Nat) (a0 : List UInt8) : Option (Int × Bool × Unit) := F G n 73 (a0, ())
@[irreducible] noncomputable def p73_3 (j : Nat) (n0 : Nat) (v0 : List UInt8) (v4 : Int) (v8 : List UInt8) (p8 : Nat) : Option (Int × Bool × Unit) := piece G 73 [.r, .r, .l, .r, .b] j [n0] (skel 38 0 [(0, .av ⟨.s, .r, v0⟩), (4, .av ⟨(.i .i64), .r, v4⟩), (8, .it v8 p8 ())])
@[irreducible] noncomputable def p73_2054 (j : Nat) (n0 : Nat) (n1 : Nat) (v0 : List UInt8) (v4 : Int) (v6 : Int) (v8 : List UInt8) (p8 : Nat) (v26 : Bool) : Option (Int × Bool × Unit) := piece G 73 [.r, .r, .l, .r, .b, .o, .r, .r, .b, .r, .l, .r] j [n0, n1] (skel 38 0 [(0, .av ⟨.s, .r, v0⟩), (4, .av ⟨(.i .i64), .r, v4⟩), (6, .av ⟨(.i .i32), .r, v6⟩), (8, .it v8 p8 ()), (26, .av ⟨.b, .r, v26⟩)])
@[irreducible] noncomputable def p73_7 (j : Nat) (n0 : Nat) (n1 : Nat) (v0 : List UInt8) (v4 : Int) (v6 : Int) (v8 : List UInt8) (p8 : Nat) : Option (Int × Bool × Unit) := piece G 73 [.r, .r, .l, .r, .b, .o, .r, .r, .b, .r, .r] j [n0, n1] (skel 38 0 [(0, .av ⟨.s, .r, v0⟩), (4, .av ⟨(.i .i64), .r, v4⟩), (6, .av ⟨(.i .i32), .r, v6⟩), (8, .it v8 p8 ())])
@[irreducible] noncomputable def f57 (n : Nat) (a0 : List UInt8) : Option (Bool × Unit) := F G n 57 (a0, ())
@[irreducible] noncomputable def f59 (n : Nat) (a0 : List (List UInt8)) : Option (Bool × Unit) := F G n 59 (a0, ())
@[irreducible] noncomputable def p59_2 (j : Nat) (n0 : Nat) (v5 : List (List UInt8)) (v6 : Int) (v7 : Int) : Option (Bool × Unit) := piece G 59 [.r, .l, .r, .b] j [n0] (skel 15 0 [(5, .av ⟨(.l .s), .b, v5⟩), (6, .av ⟨(.i .i64), .r, v6⟩), (7, .av ⟨(.i .i64), .r, v7⟩)])
theorem f73_eq (n : Nat) (a0 : List UInt8) : f73 (n + 1) a0 =
  (p73_3 (n) (n) (a0) ((0 : Int)) (a0) ((0 : Nat))) := by kernel_rfl
theorem p73_3_eq (j : Nat) (n0 : Nat) (v0 : List UInt8) (v4 : Int) (v8 : List UInt8) (p8 : Nat) : p73_3 (j + 1) n0 v0 v4 v8 p8 =
  (sel (Decidable.decide (p8 < v8.length))
   (sel (Decidable.decide ((↑(Go.Utf8.decode { data := v8.toArray } p8).fst : Int) < (48 : Int)))
    (p73_2054 (j) (n0) (j) (v0) (v4) ((↑(Go.Utf8.decode { data := v8.toArray } p8).fst : Int)) (v8) (p8 + (Go.Utf8.decode { data := v8.toArray } p8).snd) (Bool.true))
    (sel (Decidable.decide ((↑(Go.Utf8.decode { data := v8.toArray } p8).fst : Int) > (57 : Int)))
     (p73_2054 (j) (n0) (j) (v0) (v4) ((↑(Go.Utf8.decode { data := v8.toArray } p8).fst : Int)) (v8) (p8 + (Go.Utf8.decode { data := v8.toArray } p8).snd) (Bool.true))
     (sel (Decidable.decide ((↑p8 : Int) > (0 : Int)))
      (p73_2054 (j) (n0) (j) (v0) (v4) ((↑(Go.Utf8.decode { data := v8.toArray } p8).fst : Int)) (v8) (p8 + (Go.Utf8.decode { data := v8.toArray } p8).snd) (v4 == (0 : Int)))
      (p73_2054 (j) (n0) (j) (v0) (v4) ((↑(Go.Utf8.decode { data := v8.toArray } p8).fst : Int)) (v8) (p8 + (Go.Utf8.decode { data := v8.toArray } p8).snd) (Bool.false)))))
   (some (v4, !v0 == [], ()))) := by kernel_rfl
theorem p73_2054_eq (j : Nat) (n0 : Nat) (n1 : Nat) (v0 : List UInt8) (v4 : Int) (v6 : Int) (v8 : List UInt8) (p8 : Nat) (v26 : Bool) : p73_2054 (j + 1) n0 n1 v0 v4 v6 v8 p8 v26 =
  (sel (v26)
   (some ((0 : Int), Bool.false, ()))
   (p73_7 (n1) (n0) (n1) (v0) (v4) (v6) (v8) (p8))) := by kernel_rfl
theorem p73_7_eq (j : Nat) (n0 : Nat) (n1 : Nat) (v0 : List UInt8) (v4 : Int) (v6 : Int) (v8 : List UInt8) (p8 : Nat) : p73_7 (j + 1) n0 n1 v0 v4 v6 v8 p8 =
  (sel (Decidable.decide (Go.IntKind.i64.wrap (Go.IntKind.i64.wrap (v4 * (10 : Int)) + Go.IntKind.i64.wrap (Go.IntKind.i32.wrap (v6 - (48 : Int)))) > (268435456 : Int)))
   (some ((0 : Int), Bool.false, ()))
   (p73_3 (n1) (n0) (v0) (Go.IntKind.i64.wrap (Go.IntKind.i64.wrap (v4 * (10 : Int)) + Go.IntKind.i64.wrap (Go.IntKind.i32.wrap (v6 - (48 : Int))))) (v8) (p8))) := by kernel_rfl
theorem f57_eq (n : Nat) (a0 : List UInt8) : f57 (n + 1) a0 =
  (obind (f73 n (a0)) fun r40 =>
   (some (r40.snd.fst, ()))) := by kernel_rfl
theorem f59_eq (n : Nat) (a0 : List (List UInt8)) : f59 (n + 1) a0 =
  (p59_2 (n) (n) (a0) ((↑a0.length : Int)) ((0 : Int))) := by kernel_rfl
theorem p59_2_eq (j : Nat) (n0 : Nat) (v5 : List (List UInt8)) (v6 : Int) (v7 : Int) : p59_2 (j + 1) n0 v5 v6 v7 =
  (sel (Decidable.decide (v7 < v6))
   (sel (Decidable.decide ((0 : Int) ≤ v7))
    (sel (Decidable.decide (v7 < (↑v5.length : Int)))
     (obind (f57 j (v5.getD v7.toNat [])) fun r131 =>
      (sel (!r131.fst)
       (some (Bool.false, ()))
       (p59_2 (j) (n0) (v5) (v6) (Go.IntKind.i64.wrap (v7 + (1 : Int))))))
     none)
    none)
   (some (Bool.true, ()))) := by kernel_rfl
end Sc0

namespace Sc0
open Go Lk
noncomputable def theFnsN : Sc.FnsN where
  f73 := f73
  p73_3 := p73_3
  p73_2054 := p73_2054
  p73_7 := p73_7
  f57 := f57
  f59 := f59
  p59_2 := p59_2
  f73_eq := f73_eq
  p73_3_eq := p73_3_eq
  p73_2054_eq := p73_2054_eq
  p73_7_eq := p73_7_eq
  f57_eq := f57_eq
  f59_eq := f59_eq
  p59_2_eq := p59_2_eq
end Sc0

namespace Go.Proofs.YthfhbbhacaejoaaDoor
open Go.RowKit

theorem toList_eq (s : ByteArray) : s.toList = s.data.toList := Lk.ba_toList' s

set_option maxHeartbeats 4000000 in
set_option maxRecDepth 100000 in
theorem field_any (w : World) (b o : Nat) (s : ByteArray) :
    Calls Tryd.prog 72 #[.pointer (some ⟨b, o, none⟩), .string s] w fun e w' => (∃ a, e = .returned (.pointer a) ∧ a.isSome = ScM.fields.contains s.data.toList) ∧ w' = w := by
  rw [← toList_eq]
  go_enter Tryd.func72, Tryd.ntmps72
  go_wp2
  all_goals go_ret
  all_goals refine ⟨⟨_, rfl, ?_⟩, rfl⟩
  all_goals simp only [ScM.fields, List.contains, List.elem, *]
  all_goals rfl

end Go.Proofs.YthfhbbhacaejoaaDoor

namespace Go.Proofs.YthfhbbhacaejoaaDoor
open Go.RowKit

set_option maxHeartbeats 4000000 in
set_option maxRecDepth 100000 in
theorem setting_short (w : World) (a : Option Addr) (n cap : Nat) (hn : n < 2) :
    Calls Tryd.prog 56 #[.slice a n cap] w fun e w' => e = .returned (.bool false) ∧ w' = w := by
  have h2 : (n : Int) < 2 := by omega
  go_enter Tryd.func56, Tryd.ntmps56
  go_wp2
  go_ret
  exact ⟨rfl, rfl⟩

set_option maxHeartbeats 4000000 in
set_option maxRecDepth 100000 in
theorem setting_long (w : World) (b off n cap : Nat) (s0 : ByteArray) (num : Bool) (hn : ¬ ((n : Int) < 2)) (hc : n ≤ cap) (h0 : w.cell? ⟨b, off, none⟩ = some (.string s0))
    (hnum : Calls Tryd.prog 59 #[.slice (some ⟨b, off + 1, none⟩) (n - 1) (cap - 1)] w fun e w' => e = .returned (.bool num) ∧ Below w.heap.size w w') :
    Calls Tryd.prog 56 #[.slice (some ⟨b, off, none⟩) n cap] w fun e w' => e = .returned (.bool (bif !num then false else bif s0.toList == ScM.heights then decide ((n : Int) ≤ 65) else decide ((n : Int) = 2) && ScM.fields.contains s0.data.toList)) ∧ Below w.heap.size w w' := by
  have hpos : 0 < n := by omega
  go_enter Tryd.func56, Tryd.ntmps56
  go_wp2_with (first | (go_at_call 59; refine hnum.mono ?_; rintro e w2 ⟨rfl, hb2⟩; have h02 : w2.cell? ⟨b, off, none⟩ = some (.string s0) := cell_keep (ext_of_below hb2) (by simp) h0; have h03 : ∀ o, (w2.alloc o).cell? ⟨b, off, none⟩ = some (.string s0) := fun o => cell_keep (ext_of_below ((Below.refl w2.heap.size w2).alloc (Nat.le_refl _) o)) (by simp) h02) | (go_at_call 72; refine (field_any _ _ _ _).mono ?_; rintro e w3 ⟨⟨a, rfl, ha⟩, rfl⟩))
  · go_ret
    refine ⟨?_, hb2⟩
    simp_all [ScM.heights]
  · go_ret
    refine ⟨?_, hb2⟩
    simp_all [ScM.heights]
  · go_ret
    refine ⟨?_, hb2.alloc hb2.size _⟩
    simp_all [ScM.heights]
  · go_ret
    refine ⟨?_, hb2.alloc hb2.size _⟩
    simp_all [ScM.heights]
end Go.Proofs.YthfhbbhacaejoaaDoor

namespace Go.Proofs.YthfhbbhacaejoaaDoor
open Go.RowKit

theorem numbers_any (ws : List (List UInt8)) (hl : ws.length ≤ 1073741824) (hm : ∀ w ∈ ws, w.length ≤ 1073741824) (v : Value) (S : Nat → Prop) (w : World) (hT : Tabs w) (h4 : 4 ≤ w.heap.size) (hS : ∀ b, S b → b < w.heap.size) (hh : Lk.Rd ax S w (.l .s) ws [v]) :
    Calls Tryd.prog 59 #[v] w fun e w' => e = .returned (.bool (ws.all ScM.isNum)) ∧ Below w.heap.size w w' := by
  have hok : Lk.FnOk (τ := ax) (Kw := kw) Tryd.prog 59 ⟨[(.l .s, .b)], [(.b, .r)], 1⟩ (Lk.F Sc0.G 3000000000 59) := Lk.F_ok Sc0P.prg Sc0P.res 3000000000 59
  have hF : Lk.F Sc0.G 3000000000 59 (ws, ()) = some (ws.all ScM.isNum, ()) := by
    have := Sc.f59_ok Sc0.theFnsN ws hl 1073741824 hm (by omega) 3000000000 (by omega)
    have e : Sc0.theFnsN.f59 3000000000 ws = Sc0.f59 3000000000 ws := rfl
    rw [e] at this
    unfold Sc0.f59 at this
    exact this
  refine (hok _ _ hF w S (fun _ => False) [⟨.l .s, .b, ws, ⟨v, 0, 0, [], 0, (0, 0), []⟩⟩] hT (fun b h => h.elim (hS b) False.elim) rfl ⟨?_, by simp [Lk.blsOf, Lk.DV.bl, Lk.bl], by simp [Lk.blsOf, Lk.DV.bl, Lk.bl], by simp [Lk.blsOf, Lk.DV.bl, Lk.bl], h4⟩).mono ?_
  · intro d hd
    obtain rfl := List.mem_singleton.1 hd
    have : (fun b => S b ∨ False) = S := by funext b; simp
    show Lk.Rd ax (fun b => S b ∨ False) w (.l .s) ws [v]
    rw [this]; exact hh
  · rintro e w' ⟨v, he, hx, hr⟩
    obtain ⟨rds, S', h1, _, _, _, _, _, _, h5, _⟩ := hr.ex
    refine ⟨?_, below_of_ext hx⟩
    rw [he, h5]
    obtain ⟨sh1, r1, rfl, h2⟩ := ads_cons h1
    obtain rfl := ads_nil h2
    rfl

theorem cell_of {w : World} {b o : Nat} {C : Array Value} {e : TypeId} {f : Nat × Nat} (h : w.heap[b]? = some (.cells C e f)) : w.cell? ⟨b, o, none⟩ = C[o]? := by
  simp [World.cell?, h]

theorem ok_set : Lk.FnOk (τ := ax) (Kw := kw) Tryd.prog 56 ⟨[(.l .s, .b)], [(.b, .r)], 1⟩ (fun x => bif Nat.ble (List.length x.1) 1073741824 && List.all x.1 (fun w => Nat.ble (List.length w) 1073741824) then some (ScM.isSet x.1, ()) else none) := by
  rintro ⟨ws, _⟩ res hx w S Sb ads hK hs ha hargs
  obtain ⟨sh, ads', rfl, ha1⟩ := ads_cons ha
  obtain rfl := ads_nil ha1
  have hx : (bif Nat.ble (List.length (ws : List (List UInt8))) 1073741824 && List.all (ws : List (List UInt8)) (fun w => Nat.ble (List.length w) 1073741824) then some (ScM.isSet ws, ()) else none) = some res := hx
  cases hg : (Nat.ble (List.length (ws : List (List UInt8))) 1073741824 && List.all (ws : List (List UInt8)) (fun w => Nat.ble (List.length w) 1073741824)) with
  | false => rw [hg] at hx; cases hx
  | true =>
    rw [hg] at hx
    cases hx
    rw [Bool.and_eq_true, List.all_eq_true] at hg
    have hl := Nat.le_of_ble_eq_true hg.1
    have hm : ∀ w ∈ (ws : List (List UInt8)), w.length ≤ 1073741824 := fun w hw => Nat.le_of_ble_eq_true (hg.2 w hw)
    have hh : Lk.Rd ax (fun b => S b ∨ Sb b) w (.l .s) ws [sh.hd] := hargs.hold _ (List.mem_cons_self ..)
    have fin : ∀ (e : Ending) (w' : World), e = .returned (.bool (ScM.isSet ws)) ∧ Below w.heap.size w w' → ∃ v, e = .returned v ∧ Lk.Ext (Lk.blsOf [(⟨.l .s, .b, ws, sh⟩ : Lk.DV)]) w w' ∧ Lk.ResAre (τ := ax) w w' S (Lk.blsOf [(⟨.l .s, .b, ws, sh⟩ : Lk.DV)]) (Lk.avs [(.b, .r)] (ScM.isSet ws, ())) 1 [(⟨.l .s, .b, ws, sh⟩ : Lk.DV)] v := by
      rintro e w' ⟨rfl, hb⟩
      refine ⟨_, rfl, ?_, res_flat [⟨.b, .r, ScM.isSet ws, ()⟩] rfl (fun b hb => hs b (.inl hb)) hb.size ?_ (by simp [Lk.blsOf, Lk.DV.bl, Lk.bl]) rfl rfl rfl⟩
      · have : Lk.blsOf [(⟨.l .s, .b, ws, sh⟩ : Lk.DV)] = [] := by simp [Lk.blsOf, Lk.DV.bl, Lk.bl]
        rw [this]; exact ext_of_below hb
      · intro d hd
        obtain rfl := List.mem_singleton.1 hd
        exact rfl
    refine (show Calls Tryd.prog 56 #[sh.hd] w _ from ?_)
    obtain ⟨a, cap, e1, hc, hcb, hn, hrow⟩ := hh
    simp only [List.cons.injEq, and_true] at e1
    rw [e1]
    by_cases h2 : (ws : List (List UInt8)).length < 2
    · refine (setting_short w a _ cap h2).mono fun e w' h => fin e w' ⟨?_, by rw [h.2]; exact Below.refl _ _⟩
      have : ScM.isSet ws = false := by
        unfold ScM.isSet
        have : Nat.blt (ws : List (List UInt8)).length 2 = true := by rw [Nat.blt_eq]; exact h2
        rw [this]; rfl
      rw [this]; exact h.1
    · rcases hrow with rfl | ⟨b, off, C, ty, f, rfl, hSb, hb, hC⟩
      · exact absurd (show ([] : List (List UInt8)).length < 2 by simp) h2
      · have hcell : ∀ (i : Nat) (y : List UInt8), (ws : List (List UInt8))[i]? = some y → C[off + i]? = some (.string ⟨y.toArray⟩) ∧ y.length ≤ Lk.big := by
          intro i y hy
          obtain ⟨h3, h4⟩ := hC i y hy
          refine ⟨?_, h4⟩
          have : (Lk.win C.toList (off + i * Lk.csz .s) (Lk.csz .s))[0]? = some (Lk.strV y) := by rw [h3]; rfl
          rw [Lk.win_get] at this
          simpa [Lk.csz, Lk.strV] using this
        obtain ⟨y0, hy0⟩ : ∃ y, (ws : List (List UInt8))[0]? = some y := ⟨_, List.getElem?_eq_getElem (by omega)⟩
        have hrd : Lk.Rd ax (fun b => S b ∨ Sb b) w (.l .s) ((ws : List (List UInt8)).drop 1) [.slice (some ⟨b, off + 1, none⟩) ((ws : List (List UInt8)).length - 1) (cap - 1)] := by
          refine ⟨_, _, by rw [List.length_drop], by rw [List.length_drop]; omega, Nat.le_trans (Nat.sub_le _ _) hcb, by simp, .inr ⟨b, off + 1, C, ty, f, rfl, hSb, hb, fun i y hy => ?_⟩⟩
          rw [List.getElem?_drop] at hy
          have := hC (1 + i) y hy
          simp only [Lk.csz, Nat.mul_one] at this ⊢
          rwa [show off + 1 + i = off + (1 + i) by omega]
        refine (setting_long w b off _ cap ⟨y0.toArray⟩ _ (by omega) hc (by rw [cell_of hb]; exact (hcell 0 y0 hy0).1) (numbers_any _ (by rw [List.length_drop]; omega) (fun w hw => hm w (List.mem_of_mem_drop hw)) _ _ w hK hargs.sz (fun b hb => hs b hb) hrd)).mono fun e w' h => fin e w' ⟨?_, h.2⟩
        rw [h.1]
        congr 2
        unfold ScM.isSet
        have h5 : Nat.blt (ws : List (List UInt8)).length 2 = false := by
          cases h : Nat.blt (ws : List (List UInt8)).length 2 with
          | false => rfl
          | true => rw [Nat.blt_eq] at h; exact absurd h h2
        have h6 : (ws : List (List UInt8)).getD 0 [] = y0 := by rw [List.getD_eq_getElem?_getD, hy0]; rfl
        have e2 : (ByteArray.mk y0.toArray).toList = y0 := Lk.ba_toList y0
        have e3 : (ByteArray.mk y0.toArray).data.toList = y0 := rfl
        have e4 : decide (((ws : List (List UInt8)).length : Int) ≤ 65) = Nat.ble (ws : List (List UInt8)).length 65 := by rw [Bool.eq_iff_iff]; simp [Nat.ble_eq]; omega
        have e5 : decide (((ws : List (List UInt8)).length : Int) = 2) = ((ws : List (List UInt8)).length == 2) := by rw [Bool.eq_iff_iff]; simp; omega
        rw [h5, h6, e2, e3, e4, e5, Bool.false_or]
end Go.Proofs.YthfhbbhacaejoaaDoor

/-! strings.Split at ends of lines. -/
namespace Go.Proofs.YthfhbbhacaejoaaDoor
open Go.RowKit ScM

theorem index_nl : ∀ s : List UInt8, (Lib.index s [10] = -1 ∧ ∀ acc, spl acc s = [acc ++ s]) ∨
    ∃ i : Nat, Lib.index s [10] = i ∧ i + 1 ≤ s.length ∧ ∀ acc, spl acc s = (acc ++ s.take i) :: spl [] (s.drop (i + 1))
  | [] => .inl ⟨rfl, fun acc => by simp [spl]⟩
  | c :: l => by
    unfold Lib.index
    have hp : ([10] : List UInt8).isPrefixOf (c :: l) = (10 == c) := by simp [List.isPrefixOf]
    rw [hp]
    by_cases hc : c = 10
    · subst hc
      refine .inr ⟨0, by simp, by simp, fun acc => by simp [spl]⟩
    · have h1 : ((10 : UInt8) == c) = false := by simpa using fun h => hc h.symm
      have h2 : (c == 10) = false := by simpa using hc
      simp only [h1, Bool.false_eq_true, if_false]
      rcases index_nl l with ⟨h3, h4⟩ | ⟨i, h3, h5, h4⟩
      · refine .inl ⟨by rw [h3]; rfl, fun acc => ?_⟩
        simp only [spl, h2, cond_false]
        rw [h4]; simp
      · refine .inr ⟨i + 1, ?_, by simp; omega, fun acc => ?_⟩
        · rw [h3, if_neg (by simp)]; rfl
        · simp only [spl, h2, cond_false]
          rw [h4]; simp

theorem splitB_nl (nl : ByteArray) (hnl : nl.data.toList = [10]) (hn1 : nl.size = 1) : ∀ (n : Nat) (s : ByteArray), s.size ≤ n → (Lib.splitB nl 0 (Lib.countB s nl) s).map (fun b => b.data.toList) = splitL s.data.toList ∧ (Lib.splitB nl 0 (Lib.countB s nl) s).length = Lib.countB s nl + 1 := by
  intro n
  induction n with
  | zero =>
    intro s hs
    have he : s.data.toList = [] := by
      apply List.eq_nil_of_length_eq_zero
      rw [Array.length_toList]
      have : s.data.size = s.size := rfl
      omega
    have h1 : Lib.indexB s nl = -1 := by unfold Lib.indexB; rw [he, hnl]; rfl
    rw [Lib.countB_miss s nl h1, Lib.splitB_zero]
    simp [he, splitL, spl]
  | succ n ih =>
    intro s hs
    rcases index_nl s.data.toList with ⟨h1, h2⟩ | ⟨i, h1, h3, h2⟩
    · have h1 : Lib.indexB s nl = -1 := by unfold Lib.indexB; rw [hnl]; exact h1
      rw [Lib.countB_miss s nl h1, Lib.splitB_zero]
      simp [splitL, h2]
    · have h1 : Lib.indexB s nl = i := by unfold Lib.indexB; rw [hnl]; exact h1
      have hsz : s.data.toList.length = s.size := by rw [Array.length_toList]; rfl
      have hex : (s.extract (i + nl.size) s.size).data.toList = s.data.toList.drop (i + 1) := by
        rw [ByteArray.data_extract, Array.toList_extract, hn1]
        rw [List.extract_eq_take_drop, List.take_of_length_le]
        rw [List.length_drop, hsz]
        omega
      have hex0 : (s.extract 0 (i + 0)).data.toList = s.data.toList.take i := by
        rw [ByteArray.data_extract, Array.toList_extract, List.extract_eq_take_drop]; simp
      have hsz2 : (s.extract (i + nl.size) s.size).size ≤ n := by
        have : (s.extract (i + nl.size) s.size).data.toList.length = (s.extract (i + nl.size) s.size).size := by rw [Array.length_toList]; rfl
        rw [hex, List.length_drop, hsz] at this
        omega
      have hc := Lib.countB_hit s nl i (by omega) h1
      obtain ⟨k1, k2⟩ := ih _ hsz2
      rw [hc, Nat.add_comm 1, Lib.splitB_hit nl 0 _ s i h1]
      refine ⟨?_, by rw [List.length_cons, k2]⟩
      rw [List.map_cons, k1, hex, hex0]
      unfold splitL
      rw [h2]; simp

theorem spl_len : ∀ (s acc : List UInt8), (spl acc s).length ≤ s.length + 1 ∧ ∀ l ∈ spl acc s, l.length ≤ acc.length + s.length
  | [], acc => by simp [spl]
  | c :: s, acc => by
    simp only [spl]
    cases c == 10 with
    | true =>
      obtain ⟨h1, h2⟩ := spl_len s []
      refine ⟨by simp only [cond_true, List.length_cons]; omega, fun l hl => ?_⟩
      simp only [cond_true, List.mem_cons] at hl
      rcases hl with rfl | hl
      · simp
      · have := h2 l hl; simp at this ⊢; omega
    | false =>
      obtain ⟨h1, h2⟩ := spl_len s (acc ++ [c])
      refine ⟨by simp only [cond_false, List.length_cons]; omega, fun l hl => ?_⟩
      simp only [cond_false] at hl
      have := h2 l hl; simp at this ⊢; omega

theorem ok_split : Lk.FnOk (τ := ax) (Kw := kw) Tryd.prog 20 ⟨[(.s, .r), (.s, .r)], [(.l .s, .o .r)], 1⟩ (fun x => bif (x.2.1 == [10]) && Nat.ble x.1.length 1048576 then some (splitL x.1, ()) else none) := by
  rintro ⟨s, p, _⟩ res hx w S Sb ads hK hs ha hargs
  obtain ⟨sh, ads', rfl, ha1⟩ := ads_cons ha
  obtain ⟨sh2, ads2, rfl, ha2⟩ := ads_cons ha1
  obtain rfl := ads_nil ha2
  have hx : (bif ((p : List UInt8) == [10]) && Nat.ble (s : List UInt8).length 1048576 then some (splitL s, ()) else none) = some res := hx
  cases hg : (((p : List UInt8) == [10]) && Nat.ble (s : List UInt8).length 1048576) with
  | false => rw [hg] at hx; cases hx
  | true =>
    rw [hg] at hx
    cases hx
    rw [Bool.and_eq_true, beq_iff_eq] at hg
    obtain ⟨rfl, hl⟩ := hg
    have hl := Nat.le_of_ble_eq_true hl
    obtain ⟨m, hm⟩ := hK.2.1
    have hsz : (ByteArray.mk (s : List UInt8).toArray).size = (s : List UInt8).length := by simp [← ByteArray.size_data]
    refine (show Calls Tryd.prog 20 #[.string ⟨(s : List UInt8).toArray⟩, .string ⟨([10] : List UInt8).toArray⟩] w _ from ?_)
    obtain ⟨k1, k2⟩ := splitB_nl ⟨([10] : List UInt8).toArray⟩ rfl rfl _ ⟨(s : List UInt8).toArray⟩ (Nat.le_refl _)
    refine (Tryd.strings_Split ⟨(s : List UInt8).toArray⟩ ⟨([10] : List UInt8).toArray⟩ m w (by omega) hm (by decide)).mono fun e w' ⟨he, hw⟩ => ⟨_, he, ?_, ?_⟩
    · subst hw
      have : Lk.blsOf [(⟨.s, .r, s, sh⟩ : Lk.DV), ⟨.s, .r, [10], sh2⟩] = [] := by simp [Lk.blsOf, Lk.DV.bl, Lk.bl]
      rw [this]
      exact ext_of_below ((Below.refl _ _).alloc (Nat.le_refl _) _)
    · have k1 : (Lib.splitB ⟨([10] : List UInt8).toArray⟩ 0 (Lib.countB ⟨(s : List UInt8).toArray⟩ ⟨([10] : List UInt8).toArray⟩) ⟨(s : List UInt8).toArray⟩).map (fun b => b.data.toList) = splitL s := k1
      generalize hL : Lib.splitB ⟨([10] : List UInt8).toArray⟩ 0 (Lib.countB ⟨(s : List UInt8).toArray⟩ ⟨([10] : List UInt8).toArray⟩) ⟨(s : List UInt8).toArray⟩ = L at k1 k2 hw
      have hlen : (splitL s).length = Lib.countB ⟨(s : List UInt8).toArray⟩ ⟨([10] : List UInt8).toArray⟩ + 1 := by rw [← k1, List.length_map, k2]
      obtain ⟨b1, b2⟩ := spl_len (s : List UInt8) []
      have hcells : (L.map Value.string).toArray = ((splitL s).map Lk.strV).toArray := by
        rw [← k1, List.map_map]
        congr 1
      subst hw
      rw [hcells]
      let d : Lk.DV := ⟨.l .s, .o .r, splitL s, ⟨.slice (some ⟨w.heap.size, 0, none⟩) (splitL s).length (splitL s).length, w.heap.size, 0, (splitL s).map Lk.strV, 9, (0, 0), (splitL s).map fun _ => ()⟩⟩
      have hbl : Lk.blsOf [d] = [w.heap.size] := by
        rw [Lk.blsOf_cons]
        show (w.heap.size :: (List.zipWith (fun y z => Lk.bl .s .r y z) (splitL s) ((splitL s).map fun _ => ())).flatten) ++ [] = _
        rw [List.append_nil]
        congr 1
        rw [List.flatten_eq_nil_iff]
        intro l hl
        obtain ⟨i, hi⟩ := List.getElem?_of_mem hl
        rw [List.getElem?_zipWith] at hi
        split at hi <;> cases hi
        rfl
      refine ⟨[d], S, rfl, fun _ h => h, fun _ h => .inl h, fun b hb => ?_, ?_, by rw [hbl]; simp, ?_, ?_, rfl⟩
      · have := hs b (.inl hb); simp; omega
      · intro x hx
        obtain rfl := List.mem_singleton.1 hx
        refine .inr ⟨(splitL s).length, rfl, by simp [d], Nat.le_refl _, ?_, ?_, ?_, fun k _ => by simp [d], fun i y z hy hz => ?_⟩
        · simp only [Lk.big]; unfold splitL; omega
        · simp [d, Lk.csz]
        · show (w.heap.push (Obj.cells ((splitL s).map Lk.strV).toArray 9))[w.heap.size]? = _
          simp [d]
        · refine ⟨?_, rfl, ?_⟩
          · show Lk.win ((splitL s).map Lk.strV) (0 + i * 1) 1 = [Lk.strV y]
            obtain ⟨hi, rfl⟩ := List.getElem?_eq_some_iff.1 hy
            unfold Lk.win
            rw [Nat.zero_add, Nat.mul_one, List.drop_eq_getElem_cons (by rw [List.length_map]; exact hi)]
            simp
            rfl
          · have := b2 y (List.mem_of_getElem? hy)
            simp only [Lk.big]
            simp at this; omega
      · intro b hb
        rw [hbl, List.mem_singleton] at hb
        subst hb
        refine ⟨.inr (Nat.le_refl _), by simp, fun h => ?_⟩
        have := hs _ (.inl h); omega
      · show _ = Value.slice (some ⟨w.heap.size, 0, none⟩) (splitL s).length (splitL s).length
        rw [hlen]
end Go.Proofs.YthfhbbhacaejoaaDoor

/-! errors.As, where the target is a badLine. -/
namespace Go.Proofs.YthfhbbhacaejoaaDoor
open Go.RowKit Go.Extern.Stop Go.Stop Go.Extern

theorem as_nil (t : Value) (w : World) :
    Calls Tryd.prog 22 #[.nilIface, t] w fun e w' => e = .returned (.bool false) ∧ w' = w := by
  go_enter Tryd.func22, Tryd.ntmps22
  go_wp2
  go_ret
  exact ⟨rfl, rfl⟩

theorem as_valueOf68 (t : Addr) (w : World) : (ReflectliteValue.unpack (.iface 68 (.pointer (some t)))).run Tryd.prog w
    = .ok (.agg #[.pointer (some ⟨4, 68, none⟩), .pointer (some ⟨w.heap.size, 0, none⟩), .int .u64 150]) (w.alloc (.cells #[.pointer (some t)] 68)) := by kernel_rfl
theorem as_type68 (a : Addr) (w : World) : (ReflectliteValue.methodAny (ReflectliteValue.valueError "reflectlite.Value.Type" 0) (fun t _ _ _ => ReflectliteType.toType t) #[.agg #[.pointer (some ⟨4, 68, none⟩), .pointer (some a), .int .u64 150]]).run Tryd.prog w
    = .ok (.iface 113 (.agg #[.pointer (some ⟨4, 68, none⟩)])) w := by kernel_rfl
theorem as_methodKind (h : Value) (w : World) : (Go.method 274 113 (.agg #[h]) "Kind").run Tryd.prog w = .ok (100, h) w := by kernel_rfl
theorem as_kind68 (w : World) : ((ReflectliteType.abiMethod fun t => (fun a : Nat => Value.int IntKind.u8 (a : Int)) <$> Rtype.kind t) #[.pointer (some ⟨4, 68, none⟩)]).run Tryd.prog w = .ok (.int .u8 22) w := by kernel_rfl
theorem as_kind66 (w : World) : ((ReflectliteType.abiMethod fun t => (fun a : Nat => Value.int IntKind.u8 (a : Int)) <$> Rtype.kind t) #[.pointer (some ⟨4, 66, none⟩)]).run Tryd.prog w = .ok (.int .u8 25) w := by kernel_rfl
theorem as_rlm (z : Sem Value) (f : TypeId → Addr → Nat → Nat → Sem Value) (v : Value) :
    ReflectliteValue.method z f #[v] = (do match ← ReflectliteValue.parts v with | none => z | some (t, a, fl) => f t a fl (fl % 32)) := rfl
theorem as_parts68 (a : Addr) (w : World) : (ReflectliteValue.parts (.agg #[.pointer (some ⟨4, 68, none⟩), .pointer (some a), .int .u64 150])).run Tryd.prog w = .ok (some (68, a, 150)) w := by kernel_rfl
theorem as_isNil68 (a p : Addr) (W : World) (ha : W.cell? a = some (.pointer (some p))) :
    (ReflectliteValue.method (ReflectliteValue.valueError "reflectlite.Value.IsNil" 0) ReflectliteValue.isNil #[.agg #[.pointer (some ⟨4, 68, none⟩), .pointer (some a), .int .u64 150]]).run Tryd.prog W = .ok (.bool false) W := by
  rw [as_rlm]
  simp only [Sem.run_bind, as_parts68, Result.andThen]
  simp [ReflectliteValue.isNil, loadVar, isAgg, underlying, Tryd.underlying68, ha, Result.andThen]

theorem as_methodElem (h : Value) (w : World) : (Go.method 274 113 (.agg #[h]) "Elem").run Tryd.prog w = .ok (112, .agg #[h]) w := by kernel_rfl
theorem as_methodImplements (h : Value) (w : World) : (Go.method 274 113 (.agg #[h]) "Implements").run Tryd.prog w = .ok (113, .agg #[h]) w := by kernel_rfl
theorem as_methodAssignableTo (h : Value) (w : World) : (Go.method 274 113 (.agg #[h]) "AssignableTo").run Tryd.prog w = .ok (110, .agg #[h]) w := by kernel_rfl
theorem as_elem68 (w : World) : (ReflectliteType.method ReflectliteType.elem #[.agg #[.pointer (some ⟨4, 68, none⟩)]]).run Tryd.prog w = .ok (.iface 113 (.agg #[.pointer (some ⟨4, 66, none⟩)])) w := by kernel_rfl
theorem as_implements66 (w : World) : (ReflectliteType.relation "Implements" ReflectliteType.implements_ #[.agg #[.pointer (some ⟨4, 66, none⟩)], .iface 113 (.agg #[.pointer (some ⟨4, 55, none⟩)])]).run Tryd.prog w = .ok (.bool true) w := by kernel_rfl
theorem as_typeOf66 (v : Value) (w : World) : (ReflectliteType.typeOf #[.iface 66 v]).run Tryd.prog w = .ok (.iface 113 (.agg #[.pointer (some ⟨4, 66, none⟩)])) w := by kernel_rfl
theorem as_assignable66 (w : World) : (ReflectliteType.relation "AssignableTo" ReflectliteType.assignableTo #[.agg #[.pointer (some ⟨4, 66, none⟩)], .iface 113 (.agg #[.pointer (some ⟨4, 66, none⟩)])]).run Tryd.prog w = .ok (.bool true) w := by kernel_rfl
theorem as_valueOf66 (n : Int) (w : World) : (ReflectliteValue.unpack (.iface 66 (.agg #[.int .i64 n]))).run Tryd.prog w
    = .ok (.agg #[.pointer (some ⟨4, 66, none⟩), .pointer (some ⟨w.heap.size, 0, none⟩), .int .u64 153]) (w.alloc (.cells #[.int .i64 n] 66)) := by kernel_rfl
theorem as_elemOf68 (w : World) : (Rtype.elem? 68).run Tryd.prog w = .ok (some 66) w := by kernel_rfl
theorem as_mk66 (p : Addr) (w : World) : (ReflectliteValue.mk 66 p ReflectliteValue.flagAddr).run Tryd.prog w = .ok (.agg #[.pointer (some ⟨4, 66, none⟩), .pointer (some p), .int .u64 409]) w := by kernel_rfl
theorem as_elemV68 (a p : Addr) (W : World) (ha : W.cell? a = some (.pointer (some p))) :
    (ReflectliteValue.method (ReflectliteValue.valueError "reflectlite.Value.Elem" 0) ReflectliteValue.elem #[.agg #[.pointer (some ⟨4, 68, none⟩), .pointer (some a), .int .u64 150]]).run Tryd.prog W
      = .ok (.agg #[.pointer (some ⟨4, 66, none⟩), .pointer (some p), .int .u64 409]) W := by
  rw [as_rlm]
  simp only [Sem.run_bind, as_parts68, Result.andThen]
  simp [ReflectliteValue.elem, loadVar, isAgg, underlying, Tryd.underlying68, ha, Result.andThen, as_elemOf68, as_mk66]
theorem as_rls (v x : Value) : ReflectliteValue.set #[v, x] = (do
    let (some (dst, a, fl), some (src, b, _)) := (← ReflectliteValue.parts v, ← ReflectliteValue.parts x)
      | unsupported (.noEntry "extern/(internal/reflectlite.Value).Set.zeroValue")
    if fl / ReflectliteValue.flagAddr % 2 == 0 then unsupported (.noEntry "extern/(internal/reflectlite.Value).Set.unaddressable")
    let val ← loadVar src b
    if ← Rtype.directlyAssignable dst src then storeVar dst a val
    else if ← Rtype.implements dst src then
      if (← Rtype.kind src) == 20 then
        match val with
        | .nilIface => unsupported (.noEntry "extern/reflectlite: a nil value of one interface type handed on as a value of another")
        | _ => storeVar dst a val
      else storeVar dst a (.iface src val)
    else panicString ("reflectlite.Set: value of type " ++ (← Rtype.spelt src) ++ " is not assignable to type " ++ (← Rtype.spelt dst))
    pure (.tuple #[])) := rfl
theorem as_parts66a (a : Addr) (w : World) : (ReflectliteValue.parts (.agg #[.pointer (some ⟨4, 66, none⟩), .pointer (some a), .int .u64 409])).run Tryd.prog w = .ok (some (66, a, 409)) w := by kernel_rfl
theorem as_parts66 (a : Addr) (w : World) : (ReflectliteValue.parts (.agg #[.pointer (some ⟨4, 66, none⟩), .pointer (some a), .int .u64 153])).run Tryd.prog w = .ok (some (66, a, 153)) w := by kernel_rfl
theorem as_direct66 (w : World) : (Rtype.directlyAssignable 66 66).run Tryd.prog w = .ok true w := by kernel_rfl
theorem as_size66 (w : World) : (sizeOf 66).run Tryd.prog w = .ok 1 w := by kernel_rfl
end Go.Proofs.YthfhbbhacaejoaaDoor

namespace Go.Proofs.YthfhbbhacaejoaaDoor
open Go.RowKit Go.Extern.Stop Go.Stop Go.Extern

theorem as_load66 (b : Addr) (n : Int) (W : World) (hb : W.cell? b = some (.int .i64 n)) : (loadVar 66 b).run Tryd.prog W = .ok (.agg #[.int .i64 n]) W := by
  unfold loadVar
  have h1 : (isAgg 66).run Tryd.prog W = .ok true W := by kernel_rfl
  have h2 : (loadCells b 1).run Tryd.prog W = .ok #[.int .i64 n] W := by
    simp [loadCells, loadCellsFrom, Addr.add, hb, Result.andThen]
  simp [Sem.run_bind, h1, as_size66, h2, Result.andThen]

theorem as_set66 (ta b : Addr) (n : Int) (old : Value) (W : World) (hb : W.cell? b = some (.int .i64 n)) (ht : W.cell? ta = some old) (hf : W.frozen? ta = false) :
    (ReflectliteValue.set #[.agg #[.pointer (some ⟨4, 66, none⟩), .pointer (some ta), .int .u64 409], .agg #[.pointer (some ⟨4, 66, none⟩), .pointer (some b), .int .u64 153]]).run Tryd.prog W
      = .ok (.tuple #[]) (W.setCell ta (.int .i64 n)) := by
  rw [as_rls]
  simp only [Sem.run_bind, as_parts66a, as_parts66, Result.andThen]
  simp [ReflectliteValue.flagAddr, as_load66 b n W hb, Result.andThen, as_direct66, storeVar, Value.cells, storeCells, Addr.add, as_size66]
  rw [run_store Tryd.prog W ta _ _ (by rfl)]
  simp [ht, hf]

def asWorld (w : World) (t : Addr) (n : Int) : World :=
  ((((w.alloc (.cells #[.pointer (some t)] 68)).alloc (.cells #[.pointer (some ⟨4, 68, none⟩), .pointer (some ⟨w.heap.size, 0, none⟩), .int .u64 150] 89)).alloc (.cells #[.pointer (some ⟨4, 68, none⟩), .pointer (some ⟨w.heap.size, 0, none⟩), .int .u64 150] 89)).alloc (.cells #[.int .i64 n] 66)).setCell t (.int .i64 n)

set_option maxHeartbeats 4000000 in
set_option maxRecDepth 100000 in
theorem as_hit (n : Int) (t : Addr) (old : Value) (w : World) (hg : w.cell? ⟨0, 0, none⟩ = some errorT) (ht0 : w.cell? t = some old) (hf0 : w.frozen? t = false) :
    Calls Tryd.prog 22 #[.iface 66 (.agg #[.int .i64 n]), .iface 68 (.pointer (some t))] w fun ev w' => ev = .returned (.bool true) ∧ w' = asWorld w t n := by
  unfold errorT at hg
  have h6 := @run_callFunc_extern Tryd.prog 39 _ (fun args => ReflectliteValue.unpack (args.getD 0 (.tuple #[]))) Tryd.func39 (by kernel_rfl) (by kernel_rfl) (by kernel_rfl) (by kernel_rfl)
  have h7 := @run_callFunc_extern Tryd.prog 40 _ (ReflectliteValue.methodAny (ReflectliteValue.valueError "reflectlite.Value.Type" 0) (fun t _ _ _ => ReflectliteType.toType t)) Tryd.func40 (by kernel_rfl) (by kernel_rfl) (by kernel_rfl) (by kernel_rfl)
  have h8 := @run_callFunc_extern Tryd.prog 41 _ (ReflectliteValue.method (ReflectliteValue.valueError "reflectlite.Value.IsNil" 0) ReflectliteValue.isNil) Tryd.func41 (by kernel_rfl) (by kernel_rfl) (by kernel_rfl) (by kernel_rfl)
  have h27 := @run_callFunc_extern Tryd.prog 100 _ (ReflectliteType.abiMethod fun t => do pure (.int .u8 (← Rtype.kind t))) Tryd.func100 (by kernel_rfl) (by kernel_rfl) (by kernel_rfl) (by kernel_rfl)
  have h37 := @run_callFunc_extern Tryd.prog 112 _ (ReflectliteType.method ReflectliteType.elem) Tryd.func112 (by kernel_rfl) (by kernel_rfl) (by kernel_rfl) (by kernel_rfl)
  have h38 := @run_callFunc_extern Tryd.prog 113 _ (ReflectliteType.relation "Implements" ReflectliteType.implements_) Tryd.func113 (by kernel_rfl) (by kernel_rfl) (by kernel_rfl) (by kernel_rfl)
  have h10 := @run_callFunc_extern Tryd.prog 62 _ ReflectliteType.typeOf Tryd.func62 (by kernel_rfl) (by kernel_rfl) (by kernel_rfl) (by kernel_rfl)
  have h35 := @run_callFunc_extern Tryd.prog 110 _ (ReflectliteType.relation "AssignableTo" ReflectliteType.assignableTo) Tryd.func110 (by kernel_rfl) (by kernel_rfl) (by kernel_rfl) (by kernel_rfl)
  have h11 := @run_callFunc_extern Tryd.prog 63 _ (ReflectliteValue.method (ReflectliteValue.valueError "reflectlite.Value.Elem" 0) ReflectliteValue.elem) Tryd.func63 (by kernel_rfl) (by kernel_rfl) (by kernel_rfl) (by kernel_rfl)
  have h12 := @run_callFunc_extern Tryd.prog 64 _ ReflectliteValue.set Tryd.func64 (by kernel_rfl) (by kernel_rfl) (by kernel_rfl) (by kernel_rfl)
  have tO := as_typeOf66
  have mA := as_methodAssignableTo
  have a25 := as_assignable66
  have v25 := as_valueOf66
  have f6 := as_valueOf68
  have f7 := as_type68
  have mK := as_methodKind
  have mE := as_methodElem
  have mI := as_methodImplements
  have k27 := as_kind68
  have k25 := as_kind66
  have e27 := as_elem68
  have i25 := as_implements66
  have n8 := as_isNil68 ⟨w.heap.size, 0, none⟩ t ((w.alloc (.cells #[.pointer (some t)] 68)).alloc (.cells #[.pointer (some ⟨4, 68, none⟩), .pointer (some ⟨w.heap.size, 0, none⟩), .int .u64 150] 89)) (by simp)
  have hlt : 0 < w.heap.size := by
    rcases Nat.eq_zero_or_pos w.heap.size with h0 | h
    · simp [World.cell?, h0] at hg
    · exact h
  have hg2 : ((w.alloc (.cells #[.pointer (some t)] 68)).alloc (.cells #[.pointer (some ⟨4, 68, none⟩), .pointer (some ⟨w.heap.size, 0, none⟩), .int .u64 150] 89)).cell? ⟨0, 0, none⟩ = some (.iface 113 (.agg #[.pointer (some ⟨4, 55, none⟩)])) := by
    rw [World.cell?_alloc_lt _ _ ⟨0, 0, none⟩ (by simp), World.cell?_alloc_lt _ _ ⟨0, 0, none⟩ hlt]; exact hg
  have htl : t.block < w.heap.size := by
    rcases Nat.lt_or_ge t.block w.heap.size with h | h
    · exact h
    · simp [World.cell?, Array.getElem?_eq_none h] at ht0
  have el := as_elemV68 ⟨w.heap.size, 0, none⟩ t (((w.alloc (.cells #[.pointer (some t)] 68)).alloc (.cells #[.pointer (some ⟨4, 68, none⟩), .pointer (some ⟨w.heap.size, 0, none⟩), .int .u64 150] 89)).alloc (.cells #[.pointer (some ⟨4, 68, none⟩), .pointer (some ⟨w.heap.size, 0, none⟩), .int .u64 150] 89)) (by rw [World.cell?_alloc_lt _ _ ⟨w.heap.size, 0, none⟩ (by simp; omega)]; simp)
  have st := as_set66 t ⟨w.heap.size + 1 + 1 + 1, 0, none⟩ n old ((((w.alloc (.cells #[.pointer (some t)] 68)).alloc (.cells #[.pointer (some ⟨4, 68, none⟩), .pointer (some ⟨w.heap.size, 0, none⟩), .int .u64 150] 89)).alloc (.cells #[.pointer (some ⟨4, 68, none⟩), .pointer (some ⟨w.heap.size, 0, none⟩), .int .u64 150] 89)).alloc (.cells #[.int .i64 n] 66))
    (by rw [World.cell?_alloc_at _ _ _ _ (by simp)]; rfl)
    (by rw [World.cell?_alloc_lt _ _ t (by simp; omega), World.cell?_alloc_lt _ _ t (by simp; omega), World.cell?_alloc_lt _ _ t (by simp; omega), World.cell?_alloc_lt _ _ t htl]; exact ht0)
    (by rw [World.frozen?_alloc_old _ _ t (by simp; omega), World.frozen?_alloc_old _ _ t (by simp; omega), World.frozen?_alloc_old _ _ t (by simp; omega), World.frozen?_alloc_old _ _ t (Nat.ne_of_lt htl)]; exact hf0)
  go_enter Tryd.func22, Tryd.ntmps22
  go_wp2
  refine wp_loop_rounds 1 ?_
  rw [rounds_succ]
  go_wp2
  go_ret
  exact ⟨rfl, rfl⟩
end Go.Proofs.YthfhbbhacaejoaaDoor

/-! The region of script.parse that calls errors.As: told from without. -/
namespace Go.Proofs.YthfhbbhacaejoaaDoor
open Go.RowKit ScM

theorem asWorld_ext (w : World) (t : Addr) (n : Int) : Lk.Ext [t.block] w (asWorld w t n) := by
  unfold asWorld
  have hb : ∀ o1 o2 o3 o4 : Obj, Below w.heap.size w ((((w.alloc o1).alloc o2).alloc o3).alloc o4) := fun o1 o2 o3 o4 => by
    have h1 := (Below.refl w.heap.size w).alloc (Nat.le_refl _) o1
    have h2 := h1.alloc h1.size o2
    have h3 := h2.alloc h2.size o3
    exact h3.alloc h3.size o4
  generalize hW : (((w.alloc _).alloc _).alloc _).alloc _ = W
  have hB : Below w.heap.size w W := by rw [← hW]; exact hb _ _ _ _
  refine ⟨hB.os, hB.tape, hB.output, by rw [show (W.setCell t (.int .i64 n)).heap.size = W.heap.size by simp [World.setCell]]; exact hB.size, fun i hi hn => ?_⟩
  rw [Below.heap_setCell W t _ i (fun e => hn (by simp [e]))]
  exact hB.block i hi

theorem upon_value' {P : Program} {o : Oper} {a : Act} {w w' : World} {next : Act → World → Prop} {Q : Exit → Act → World → Prop} {v : Value} (h : (execOp a.eval o).run P w = .ok (.value v) w') (hn : next (a.put o.dst v) w') : o.wp P a w next Q := by
  unfold Oper.wp
  rw [h]; exact hn

theorem as_hook (id : Nat) (o1 o2 o3 : Oper) (d1 : o1.dst = some 29) (p1 : o1.op = .move (.tmp 10)) (g1 : o1.guard = none) (d2 : o2.dst = some 30) (p2 : o2.op = .makeInterface 68 (.tmp 11)) (g2 : o2.guard = none)
    (d3 : o3.dst = some 31) (A : Array TypeId) (p3 : o3.op = .call { callee := .value (.func 22), args := #[.tmp 29, .tmp 30], argTypes := A }) (g3 : o3.guard = none) :
    Lk.HookOk kw ax Tryd.prog [] (.region id #[o1, o2, o3] false) asHook := by
  intro cx S ds a w st' hK h hst Q hQ
  unfold asHook at hst
  split at hst
  case h_2 => cases hst
  rename_i m x m2 y h10 h11
  cases hl : Nat.blt 31 (ds.map Lk.er).length with
  | false => rw [hl] at hst; cases hst
  | true =>
  rw [hl] at hst
  rw [Nat.blt_eq, List.length_map] at hl
  simp only [cond_true, Option.bind_eq_some_iff] at hst
  obtain ⟨s1, e1, s2, e2, e3⟩ := hst
  have hI := (h.look h10).errv
  obtain ⟨dd, hd, hda⟩ := Lk.getD_er h11
  have hok := h.ok 11 _ hd
  have hfr := h.dropFree hd
  obtain ⟨t', m', x', sh⟩ := dd
  simp only [Lk.DV.av, Lk.AV.mk.injEq] at hda
  obtain ⟨rfl, rfl, hx⟩ := hda
  cases hx
  obtain ⟨hh, hval⟩ := hok
  cases sh with
  | none => exact hh.elim
  | some s =>
  obtain ⟨hb, hthaw, _⟩ := (show w.heap[s.blk]? = some (.cells (Lk.cells ax (.c (.i .i64) .u) y s.d).toArray s.ety s.frz) ∧ Lk.thaw (Lk.csz (.c (.i .i64) .u)) s.frz ∧ Lk.hold ax S (fun b => S b ∨ cx.Sb b) w (.c (.i .i64) .u) m2 y s.d from hh)
  have hval : a.tmps.getD 11 undef = .pointer (some ⟨s.blk, 0, none⟩) := by rw [hval]; rfl
  have hblk : s.blk ∈ Lk.DV.bl ⟨.p (.c (.i .i64) .u), .o m2, some y, some s⟩ := by simp [Lk.DV.bl, Lk.bl]
  have hfree := hfr.free s.blk hblk
  have hsz : a.tmps.size = ds.length := h.size
  have hsz29 : 29 < a.tmps.size := by omega
  have hsz30 : 30 < a.tmps.size := by omega
  refine wp_region ?_
  have hrange : List.range (#[o1, o2, o3] : Array Oper).size = [0, 1, 2] := rfl
  rw [hrange]
  have w1 : ∀ ys, Region.wanted o1 ys = true := fun _ => by simp [Region.wanted, g1]
  have w2 : ∀ ys, Region.wanted o2 ys = true := fun _ => by simp [Region.wanted, g2]
  have w3 : ∀ ys, Region.wanted o3 ys = true := fun _ => by simp [Region.wanted, g3]
  simp only [wpOps, List.getElem?_toArray, List.getElem?_cons_zero, List.getElem?_cons_succ, w1, w2, w3, if_true]
  refine .inl (upon_value' (v := a.tmps.getD 10 undef) (w' := w) ?_ ?_)
  · simp only [execOp, p1]; rfl
  refine .inl (upon_value' (v := .iface 68 (.pointer (some ⟨s.blk, 0, none⟩))) (w' := w) ?_ ?_)
  · simp only [execOp, p2, d1, Act.eval, Act.put]
    refine Lk.run_value ?_
    rw [Lk.put_ne _ _ _ _ (by decide), hval]
    unfold Instr.makeInterface
    simp only [Sem.run_bind, run_underlying Tryd.underlying68, Result.andThen_ok, Sem.run_pure]
  let a2 : Act := (a.put o1.dst (a.tmps.getD 10 undef)).put o2.dst (.iface 68 (.pointer (some ⟨s.blk, 0, none⟩)))
  have ev29 : a2.tmps.getD 29 undef = a.tmps.getD 10 undef := by
    simp only [a2, d1, d2, Act.put]
    rw [Lk.put_ne _ _ _ _ (by decide), Lk.put_eq _ _ _ hsz29]
  have ev30 : a2.tmps.getD 30 undef = .iface 68 (.pointer (some ⟨s.blk, 0, none⟩)) := by
    simp only [a2, d1, d2, Act.put]
    rw [Lk.put_eq _ _ _ (by simpa using hsz30)]
  have hrun : (execOp a2.eval o3).run Tryd.prog w = .ok (.enter 22 #[a.tmps.getD 10 undef, .iface 68 (.pointer (some ⟨s.blk, 0, none⟩))]) w := by
    simp only [execOp, p3]
    unfold resolve
    simp only [Act.eval, Deferred.ofValue, Sem.run_bind, Sem.run_pure, Result.andThen_ok]
    have := Lk.run_enter (P := Tryd.prog) (fn := Tryd.f22) Tryd.func22 (by kernel_rfl) rfl #[a.tmps.getD 10 undef, .iface 68 (.pointer (some ⟨s.blk, 0, none⟩))] w
    simp only [invoke, Array.empty_append, Array.append_empty]
    have e : (#[Operand.tmp 29, Operand.tmp 30] : Array Operand).map a2.eval = #[a.tmps.getD 10 undef, .iface 68 (.pointer (some ⟨s.blk, 0, none⟩))] := by
      rw [← ev29, ← ev30]; simp [Act.eval]
    simpa [Array.empty_append, e] using this
  refine .inl ?_
  show o3.wp Tryd.prog a2 w _ Q
  unfold Oper.wp
  rw [hrun]
  show Calls Tryd.prog 22 #[a.tmps.getD 10 undef, .iface 68 (.pointer (some ⟨s.blk, 0, none⟩))] w _
  have fin : ∀ w', Lk.Ext [s.blk] w w' → Q .normal (a2.put o3.dst (.bool x)) w' := by
    intro w' hext
    have r0 := (h.drop 11).chg hext (fun b hb => by
      obtain rfl := List.mem_singleton.1 hb
      exact ⟨hfree.1, hfree.2.1, hfree.2.2.2⟩)
    rw [Lk.drop_er] at e1
    obtain ⟨ds1, q1, r1⟩ := r0.setD (a := a) (e := .dead) (v := a.tmps.getD 10 undef) e1 trivial (by simp [Lk.Ent.bl]) (by simp [Lk.Ent.bl])
    subst q1
    obtain ⟨ds2, q2, r2⟩ := r1.setD (a := a.put (some 29) (a.tmps.getD 10 undef)) (e := .dead) (v := .iface 68 (.pointer (some ⟨s.blk, 0, none⟩))) e2 trivial (by simp [Lk.Ent.bl]) (by simp [Lk.Ent.bl])
    subst q2
    obtain ⟨ds3, q3, r3⟩ := r2.setD (a := (a.put (some 29) (a.tmps.getD 10 undef)).put (some 30) (.iface 68 (.pointer (some ⟨s.blk, 0, none⟩)))) (e := .av ⟨.b, .r, x, ()⟩) (v := .bool x) e3 ⟨rfl, rfl⟩ (by simp [Lk.Ent.bl, Lk.DV.bl, Lk.bl]) (by simp [Lk.Ent.bl, Lk.DV.bl, Lk.bl])
    refine hQ S ds3 _ w' q3 ?_ ⟨?_, by simp⟩
    · simp only [a2, d1, d2, d3]; exact r3
    · simp only [a2, Lk.put_defers]
  rcases hI with ⟨rfl, hv⟩ | ⟨rfl, t, u, hv, rfl, n, rfl⟩
  · rw [hv]
    refine (as_nil _ w).mono ?_
    rintro e w' ⟨rfl, rfl⟩
    exact fin _ ⟨rfl, rfl, rfl, Nat.le_refl _, fun _ _ _ => rfl⟩
  · rw [hv]
    refine (as_hit n ⟨s.blk, 0, none⟩ (.int .i64 y.1) w hK.2.2 (by simp [World.cell?, hb, Lk.cells]) ?_).mono ?_
    · unfold World.frozen?
      rw [hb]
      have := hthaw 0 (by simp [Lk.csz])
      simp only [Bool.and_eq_false_imp, decide_eq_true_eq, decide_eq_false_iff_not]
      exact fun h1 h2 => this ⟨h1, h2⟩
    · rintro e w' ⟨rfl, rfl⟩
      exact fin _ (asWorld_ext w ⟨s.blk, 0, none⟩ n)
end Go.Proofs.YthfhbbhacaejoaaDoor

namespace Go.Proofs.YthfhbbhacaejoaaDoor.ScGP
open Go.ChangeShapes Go.WideShapes Go.ChangeAt Go.RowKit
theorem env : Lk.EnvOk ax Tryd.prog ScG.G.toEnv := Lk.env_ok (tys := ScG.tys) (lims := ScG.lims) (cmps := []) (fun _ => rfl) (fun _ => rfl) (fun _ => rfl) (by kernel_rfl) (by kernel_rfl) (by
  intro T t m h ht
  have hT : T = 66 := by
    have h : Lk.memb [66] T = true := h
    rw [Lk.memb_iff] at h
    exact List.mem_singleton.1 h
  subst hT
  have e : ScG.G.toEnv.ty 66 = some (.c (.i .i64) .u, .q .r .r) := by kernel_rfl
  rw [e] at ht
  cases ht
  exact ⟨rfl, fun x sh => ⟨rfl, _, rfl⟩⟩)
theorem names : (ScG.bodies.toList ++ ScG.exts.toList).all (fun p => Lk.nameB p.2) = true := by kernel_rfl
theorem nrs : ScG.bodies.toList.all (Lk.nrB ScG.sigs) = true := by kernel_rfl
theorem funcs : ∀ p ∈ ScG.bodies.toList ++ ScG.exts.toList, Tryd.prog.funcs[p.1]? = some p.2 := by
  intro p hp
  have e : ScG.bodies.toList ++ ScG.exts.toList = [(4, Tryd.f4), (5, Tryd.f5), (6, Tryd.f6), (7, Tryd.f7), (8, Tryd.f8), (10, Tryd.f10), (11, Tryd.f11), (12, Tryd.f12), (13, Tryd.f13), (14, Tryd.f14), (15, Tryd.f15), (21, Tryd.f21), (23, Tryd.f23), (24, Tryd.f24), (25, Tryd.f25), (26, Tryd.f26), (27, Tryd.f27), (28, Tryd.f28), (29, Tryd.f29), (30, Tryd.f30), (34, Tryd.f34), (36, Tryd.f36), (37, Tryd.f37), (38, Tryd.f38), (43, Tryd.f43), (44, Tryd.f44), (45, Tryd.f45), (46, Tryd.f46), (47, Tryd.f47), (53, Tryd.f53), (54, Tryd.f54), (55, Tryd.f55), (57, Tryd.f57), (58, Tryd.f58), (59, Tryd.f59), (60, Tryd.f60), (61, Tryd.f61), (65, Tryd.f65), (66, Tryd.f66), (70, Tryd.f70), (71, Tryd.f71), (73, Tryd.f73), (74, Tryd.f74), (75, Tryd.f75), (76, Tryd.f76), (77, Tryd.f77), (82, Tryd.f82), (9, Tryd.f9), (20, Tryd.f20), (32, Tryd.f32), (56, Tryd.f56), (85, Tryd.f85)] := by kernel_rfl
  rw [e] at hp
  simp only [List.mem_cons, List.not_mem_nil, or_false] at hp
  rcases hp with rfl | rfl | rfl | rfl | rfl | rfl | rfl | rfl | rfl | rfl | rfl | rfl | rfl | rfl | rfl | rfl | rfl | rfl | rfl | rfl | rfl | rfl | rfl | rfl | rfl | rfl | rfl | rfl | rfl | rfl | rfl | rfl | rfl | rfl | rfl | rfl | rfl | rfl | rfl | rfl | rfl | rfl | rfl | rfl | rfl | rfl | rfl | rfl | rfl | rfl | rfl | rfl
  · exact Tryd.func4
  · exact Tryd.func5
  · exact Tryd.func6
  · exact Tryd.func7
  · exact Tryd.func8
  · exact Tryd.func10
  · exact Tryd.func11
  · exact Tryd.func12
  · exact Tryd.func13
  · exact Tryd.func14
  · exact Tryd.func15
  · exact Tryd.func21
  · exact Tryd.func23
  · exact Tryd.func24
  · exact Tryd.func25
  · exact Tryd.func26
  · exact Tryd.func27
  · exact Tryd.func28
  · exact Tryd.func29
  · exact Tryd.func30
  · exact Tryd.func34
  · exact Tryd.func36
  · exact Tryd.func37
  · exact Tryd.func38
  · exact Tryd.func43
  · exact Tryd.func44
  · exact Tryd.func45
  · exact Tryd.func46
  · exact Tryd.func47
  · exact Tryd.func53
  · exact Tryd.func54
  · exact Tryd.func55
  · exact Tryd.func57
  · exact Tryd.func58
  · exact Tryd.func59
  · exact Tryd.func60
  · exact Tryd.func61
  · exact Tryd.func65
  · exact Tryd.func66
  · exact Tryd.func70
  · exact Tryd.func71
  · exact Tryd.func73
  · exact Tryd.func74
  · exact Tryd.func75
  · exact Tryd.func76
  · exact Tryd.func77
  · exact Tryd.func82
  · exact Tryd.func9
  · exact Tryd.func20
  · exact Tryd.func32
  · exact Tryd.func56
  · exact Tryd.func85
theorem exts : ∀ g F n, ScG.G.ext g = some F → Lk.FnOk (τ := ax) (Kw := kw) Tryd.prog g (ScG.G.sig g) (F n) := by
  intro g F n h
  show Lk.FnOk (τ := ax) (Kw := kw) Tryd.prog g ((ScG.sigs.get g).getD ⟨[], [], 0⟩) (F n)
  change ScG.ext g = some F at h
  unfold ScG.ext at h
  split at h
  · cases h; exact ok_quote
  · cases h; exact ok_split
  · cases h; exact ok_rune
  · cases h; exact ok_set
  · cases h; exact ok_index
  · cases h
theorem extb : ∀ g F, ScG.G.ext g = some F → (ScG.exts.get g).isSome = true := by
  intro g F h
  change ScG.ext g = some F at h
  unfold ScG.ext at h
  split at h
  · rfl
  · rfl
  · rfl
  · rfl
  · rfl
  · cases h
theorem prg : Lk.PrgOk kw ax Tryd.prog ScG.G :=
  Lk.prg_ok (bodies := ScG.bodies) (exts := ScG.exts) env (by kernel_rfl) (fun w w' B h hB _ hx => tabs_keep w w' B h hB hx) (fun _ => rfl) extb exts funcs names (by kernel_rfl)
theorem res : ∀ g fn, ScG.G.body g = some fn → fn.results.size ≤ 5 ∧ (ScG.G.sig g).nr = fn.results.size := Lk.res_le (bodies := ScG.bodies) (exts := ScG.exts) (sigs := ScG.sigs) (fun _ => rfl) (fun _ => rfl) names nrs
end Go.Proofs.YthfhbbhacaejoaaDoor.ScGP

/-! The hook of ScG. -/
namespace Go.Proofs.YthfhbbhacaejoaaDoor.ScGP
open Go.RowKit ScM

def is1 (o : Oper) : Bool := match o.dst, o.op, o.guard with
  | some 29, .move (.tmp 10), none => true
  | _, _, _ => false
def is2 (o : Oper) : Bool := match o.dst, o.op, o.guard with
  | some 30, .makeInterface 68 (.tmp 11), none => true
  | _, _, _ => false
def is3 (o : Oper) : Bool := match o.dst, o.op, o.guard with
  | some 31, .call { callee := .value (.func 22), args := ⟨[.tmp 29, .tmp 30]⟩, argTypes := _ }, none => true
  | _, _, _ => false
theorem is1_ok {o : Oper} (h : is1 o = true) : o.dst = some 29 ∧ o.op = .move (.tmp 10) ∧ o.guard = none := by
  unfold is1 at h; split at h
  · exact ⟨by assumption, by assumption, by assumption⟩
  · cases h
theorem is2_ok {o : Oper} (h : is2 o = true) : o.dst = some 30 ∧ o.op = .makeInterface 68 (.tmp 11) ∧ o.guard = none := by
  unfold is2 at h; split at h
  · exact ⟨by assumption, by assumption, by assumption⟩
  · cases h
theorem is3_ok {o : Oper} (h : is3 o = true) : o.dst = some 31 ∧ (∃ A, o.op = .call { callee := .value (.func 22), args := #[.tmp 29, .tmp 30], argTypes := A }) ∧ o.guard = none := by
  unfold is3 at h; split at h
  · exact ⟨by assumption, ⟨_, by assumption⟩, by assumption⟩
  · cases h

def regs : Code → Bool
  | .region id ops draw => !(Nat.beq id 9) || (!draw && match ops with | ⟨[o1, o2, o3]⟩ => is1 o1 && is2 o2 && is3 o3 | _ => false)
  | .seq a b => regs a && regs b
  | .cond _ a b => regs a && regs b
  | .block _ c => regs c
  | .loop c => regs c
  | _ => true

theorem regs_ok : ∀ c, regs c = true → Lk.HooksIn kw ax Tryd.prog ScG.G 10 c := by
  intro c
  induction c with
  | region id ops draw =>
    intro h hk hh
    have hh : (bif Nat.beq 10 10 && Nat.beq id 9 then some asHook else none) = some hk := hh
    cases h9 : Nat.beq id 9 with
    | false => rw [h9] at hh; simp at hh
    | true =>
      rw [h9] at hh
      simp only [Nat.beq_refl, Bool.and_self, cond_true, Option.some.injEq] at hh
      subst hh
      simp only [regs, h9, Bool.not_true, Bool.false_or, Bool.and_eq_true, Bool.not_eq_true'] at h
      obtain ⟨rfl, h⟩ := h
      split at h
      case h_2 => cases h
      rename_i o1 o2 o3
      simp only [Bool.and_eq_true] at h
      obtain ⟨a1, a2, a3⟩ := is1_ok h.1.1
      obtain ⟨b1, b2, b3⟩ := is2_ok h.1.2
      obtain ⟨c1, ⟨A, c2⟩, c3⟩ := is3_ok h.2
      have e : Lk.outIx (ScG.G.sig 10).ps 0 = [] := by kernel_rfl
      rw [e]
      exact as_hook id o1 o2 o3 a1 a2 a3 b1 b2 b3 c1 A c2 c3
  | seq a b iha ihb => intro h; rw [regs, Bool.and_eq_true] at h; exact ⟨iha h.1, ihb h.2⟩
  | cond _ a b iha ihb => intro h; rw [regs, Bool.and_eq_true] at h; exact ⟨iha h.1, ihb h.2⟩
  | block _ c ih => intro h; exact ih h
  | loop c ih => intro h; exact ih h
  | _ => intro _; trivial

theorem hooks : ∀ g fn c, ScG.G.body g = some fn → fn.body = some c → Lk.HooksIn kw ax Tryd.prog ScG.G g c := by
  intro g fn c hg hc
  by_cases h : g = 10
  · subst h
    refine regs_ok c ?_
    have e : (ScG.G.body 10).bind Func.body = some c := by rw [hg]; exact hc
    have e2 : ((ScG.G.body 10).bind Func.body).map regs = some true := by kernel_rfl
    rw [e] at e2
    simpa using e2
  · refine Lk.hooksIn_none (fun id => ?_) c
    show (bif Nat.beq g 10 && Nat.beq id 9 then some asHook else none) = none
    have : Nat.beq g 10 = false := by
      cases hb : Nat.beq g 10 with
      | false => rfl
      | true => exact absurd (Nat.eq_of_beq_eq_true hb) h
    rw [this]; rfl

theorem ok (n : Nat) (g : FuncId) : Lk.FnOk (τ := ax) (Kw := kw) Tryd.prog g (ScG.G.sig g) (Lk.F ScG.G n g) := Lk.F_ok prg res n g hooks
end Go.Proofs.YthfhbbhacaejoaaDoor.ScGP

/-! script.Parse, by hand: the lines are taken out of what parse tells. -/
namespace Go.Proofs.YthfhbbhacaejoaaDoor
open Go.RowKit

theorem append_ex {P : Program} {ops : Array Oper} {rest : List Oper} {o : Oper} {a : Act} {Q : Exit → Act → World → Prop} {w : World} (hg : o.guard = none) (p q : Operand) (t t2 : TypeId) (hop : o.op = Op.call { callee := Callee.builtin Builtin.append, args := #[p, q], argTypes := #[t, t2] })
    {v1 v2 : Value} (h1 : a.eval p = v1) (h2 : a.eval q = v2) (oT : TypeId) (hT : o.type = oT)
    (h : ∃ v' w', (Builtin.append_ #[t, t2] oT #[v1, v2]).run P w = .ok v' w' ∧ wpList P ops Q rest (a.put o.dst v') w') : wpList P ops Q (o :: rest) a w := by
  obtain ⟨v', w', hrun, hK⟩ := h
  refine wpList_plain hg fun K' hK' => ?_
  subst hT
  unfold Oper.wp
  simp [execOp, hop, resolve, invoke, builtin, h1, h2, hrun, Result.andThen]
  exact hK' _ _ hK

def OutAt (w1 wr : World) (xs : List (Lk.E placedT)) (es : List (Lk.Sh placedT)) (o : Value) (k : Nat) : Prop :=
  (o = .slice none 0 0 ∧ k = 0) ∨ ∃ blk off cap C ety frz, Lk.RowAt 2 o k blk off cap C ety frz wr ∧ w1.heap.size ≤ blk ∧
    ∀ j x z, j < k → xs[j]? = some x → es[j]? = some z → Lk.win C (off + j * 2) 2 = Lk.cells ax lineT x.1 z.1

def Parsing (w1 wr : World) (xs : List (Lk.E placedT)) (es : List (Lk.Sh placedT)) (o : Value) (k : Nat) : Prop :=
  Below w1.heap.size w1 wr ∧ OutAt w1 wr xs es o k

theorem desc22 : Lk.Desc Tryd.prog 22 (.l lineT) := ScGP.env.ty 22 (.l lineT) (.o lineM) (by kernel_rfl)

theorem parse_round {w1 wr : World} {xs : List (Lk.E placedT)} {es : List (Lk.Sh placedT)} {o : Value} {k : Nat} (h : Parsing w1 wr xs es o k) {x : Lk.E placedT} {z : Lk.Sh placedT} (hx : xs[k]? = some x) (hz : es[k]? = some z) (hk : k < 1073741824) (c0 c1 : Value) (hc : Lk.cells ax lineT x.1 z.1 = [c0, c1]) (hp : ∀ v ∈ [c0, c1], Lk.plainV v = true)
    (W : World) (hW : Below wr.heap.size wr W) (B : Nat) (hB : wr.heap.size ≤ B) (ety : TypeId) (hb : W.heap[B]? = some (.cells #[c0, c1] ety (0, 0))) (Goal : Value → World → Prop) (hG : ∀ o' W', Parsing w1 W' xs es o' (k + 1) → Goal o' W') :
    ∃ v' w', (Builtin.append_ #[22, 22] 22 #[o, .slice (some ⟨B, 0, none⟩) 1 1]).run Tryd.prog W = .ok v' w' ∧ Goal v' w' := by
  obtain ⟨hbel, hout⟩ := h
  have hd := desc22
  simp only [Lk.Desc, Lk.DG] at hd
  obtain ⟨e, i, zz, f1, f2, f3, f4, f5, _⟩ := hd
  obtain ⟨m1, m2⟩ := ScGP.env.lim 22 e i f1 f2
  have hlim : ScG.G.toEnv.lim 22 = 1073741824 := by kernel_rfl
  rw [hlim] at m1 m2
  have hsrc : Lk.RowAt 2 (.slice (some ⟨B, 0, none⟩) 1 1) 1 B 0 1 [c0, c1] ety (0, 0) W := ⟨rfl, Nat.le_refl _, by simp [Lk.big], by simp, hb, Lk.thaw_zero _⟩
  obtain ⟨s1, s2, s3⟩ := Lk.row_cells (P := Tryd.prog) hsrc 1 (Nat.le_refl _)
  have hwin : Lk.win [c0, c1] 0 (1 * 2) = [c0, c1] := rfl
  rw [hwin] at s1
  have hbw : Below w1.heap.size w1 W := hbel.trans (hW.mono hbel.size)
  -- the row in W
  have hout' : (o = .slice none 0 0 ∧ k = 0) ∨ ∃ blk off cap C ety frz, Lk.RowAt 2 o k blk off cap C ety frz W ∧ w1.heap.size ≤ blk ∧ ∀ j x z, j < k → xs[j]? = some x → es[j]? = some z → Lk.win C (off + j * 2) 2 = Lk.cells ax lineT x.1 z.1 := by
    rcases hout with h | ⟨blk, off, cap, C, ety, frz, hR, h1, h2⟩
    · exact .inl h
    · refine .inr ⟨blk, off, cap, C, ety, frz, ⟨hR.hd, hR.len, hR.big, hR.room, ?_, hR.thaw⟩, h1, h2⟩
      rw [hW.block blk (by
        have := hR.cell
        rcases Nat.lt_or_ge blk wr.heap.size with h | h
        · exact h
        · rw [Array.getElem?_eq_none h] at this; cases this)]
      exact hR.cell
  have hbase : ∃ blk off cap C ety' frz, ((o = .slice none 0 0 ∧ k = 0) ∨ Lk.RowAt 2 o k blk off cap C ety' frz W) ∧ (o ≠ .slice none 0 0 → w1.heap.size ≤ blk ∧ ∀ j x z, j < k → xs[j]? = some x → es[j]? = some z → Lk.win C (off + j * 2) 2 = Lk.cells ax lineT x.1 z.1) := by
    rcases hout' with ⟨h1, h2⟩ | ⟨blk, off, cap, C, ety, frz, hR, h1, h2⟩
    · exact ⟨0, 0, 0, [], 0, (0, 0), .inl ⟨h1, h2⟩, fun h => absurd h1 h⟩
    · exact ⟨blk, off, cap, C, ety, frz, .inr hR, fun _ => ⟨h1, h2⟩⟩
  obtain ⟨blk, off, cap, C, ety', frz, hbs, hrest⟩ := hbase
  have hi2 : i.size = 2 := f3
  obtain ⟨w', hd', hrun, hres⟩ := Lk.raw_append (oT := 22) (T2 := 22) (d2 := .slice e) hbs f1 f2 hi2 f4 f5 f1 (by simp) s3 s1 (by simp) hp
    (Nat.le_trans (Nat.mul_le_mul_right _ (show k + 1 ≤ 1073741824 by omega)) m1) (by omega)
  refine ⟨hd', w', hrun, hG _ _ ?_⟩
  have last : ∀ (C' : List Value) (off' : Nat), (∀ j x z, j < k → xs[j]? = some x → es[j]? = some z → Lk.win C' (off' + j * 2) 2 = Lk.cells ax lineT x.1 z.1) → Lk.win C' (off' + k * 2) 2 = [c0, c1] →
      ∀ j x z, j < k + 1 → xs[j]? = some x → es[j]? = some z → Lk.win C' (off' + j * 2) 2 = Lk.cells ax lineT x.1 z.1 := by
    intro C' off' h1 h2 j x' z' hj hx' hz'
    rcases Nat.lt_or_ge j k with h | h
    · exact h1 j x' z' h hx' hz'
    · obtain rfl : j = k := by omega
      rw [hx] at hx'; rw [hz] at hz'
      cases hx'; cases hz'
      rw [h2, hc]
  rcases hres with ⟨_, _, h3, _⟩ | ⟨hR, hR', hWr⟩ | ⟨N, C', hR', hE, hC1, hsz, hold⟩
  · cases h3
  · have hne : o ≠ .slice none 0 0 := by rw [hR.hd]; simp
    obtain ⟨g1, g2⟩ := hrest hne
    have hroom := hR'.room
    have hlen := hR'.len
    have hlc := Lk.splice_length C (off + k * 2) [c0, c1] (by
      have := hR.room
      simp
      omega)
    refine ⟨⟨hWr.os.trans hbw.os, hWr.tape.trans hbw.tape, hWr.output.trans hbw.output, by rw [hWr.size]; exact hbw.size, fun b hb => ?_⟩, .inr ⟨blk, off, cap, _, ety', frz, hR', g1, last _ _ (fun j x z hj h1 h2 => ?_) ?_⟩⟩
    · rw [hWr.block b (by omega)]; exact hbw.block b hb
    · rw [Lk.win_splice_other _ _ _ _ _ (by simp; omega) (by omega)]
      exact g2 j x z hj h1 h2
    · exact Lk.win_splice_same C (off + k * 2) [c0, c1] (by simp; omega)
  · refine ⟨hbw.trans ⟨hE.os, hE.tape, hE.output, hE.size, fun b hb => hE.block b (Nat.lt_of_lt_of_le hb hbw.size) (by simp)⟩, .inr ⟨_, 0, N, C', e, (0, 0), hR', hbw.size, last _ _ (fun j x z hj h1 h2 => ?_) (by simpa using hC1)⟩⟩
    rcases hold with ⟨_, h4⟩ | ⟨hR, h4⟩
    · omega
    · have hne : o ≠ .slice none 0 0 := by rw [hR.hd]; simp
      obtain ⟨g1, g2⟩ := hrest hne
      rw [Lk.win_of_win h4 (show j * 2 + 2 ≤ k * 2 by omega)]
      exact g2 j x z hj h1 h2
end Go.Proofs.YthfhbbhacaejoaaDoor

namespace Go.Proofs.YthfhbbhacaejoaaDoor
open Go.RowKit

theorem alloc_at (w : World) (o : Obj) (n : Nat) (h : n = w.heap.size) : (w.alloc o).heap[n]? = some o := by
  subst h
  show (w.heap.push o)[w.heap.size]? = _
  simp

def intOf : Value → Int
  | .int _ n => n
  | _ => 0

set_option maxHeartbeats 4000000 in
set_option maxRecDepth 100000 in
theorem parse_walk (w : World) (s : ByteArray) (xs : List (Lk.E placedT)) (a b : Int) (hxs : xs.length < 1073741824) (P : World → List (Lk.Sh placedT) → Prop)
    (hcall : Calls Tryd.prog 10 #[.string s] w fun e w1 => ∃ (ad : Option Addr) (cap : Nat) (es : List (Lk.Sh placedT)), e = .returned (.tuple #[.slice ad xs.length cap, .int .i64 a, .int .i64 b]) ∧ P w1 es ∧ es.length = xs.length ∧
      (xs.length = 0 ∨ ∃ blk off, ad = some ⟨blk, off, none⟩ ∧ blk < w1.heap.size ∧ ∀ k x z, xs[k]? = some x → es[k]? = some z → ∃ (c0 : ByteArray) (ca : Option Addr) (cn cc : Nat) (c2 : Int), Lk.cells ax lineT x.1 z.1 = [.string c0, .slice ca cn cc] ∧
        w1.cell? ⟨blk, off + k * 3, none⟩ = some (.string c0) ∧ w1.cell? ⟨blk, off + k * 3 + 1, none⟩ = some (.slice ca cn cc) ∧ w1.cell? ⟨blk, off + k * 3 + 2, none⟩ = some (.int .i64 c2))) :
    Calls Tryd.prog 5 #[.string s] w fun e w' => ∃ w1 es o, e = .returned (.tuple #[o, .int .i64 a, .int .i64 b]) ∧ P w1 es ∧ es.length = xs.length ∧ Parsing w1 w' xs es o xs.length := by
  go_enter Tryd.func5, Tryd.ntmps5
  go_wp2_with (go_at_call 10; refine hcall.mono ?_; clear hcall; rintro e w1 ⟨ad, cap, es, rfl, hP1, hes, hrow⟩)
  go_loopw [8, 19] (fun o i wr => ∃ k : Nat, i = .int .i64 k ∧ k ≤ xs.length ∧ Parsing w1 wr xs es o k) (fun _ i _ => xs.length - (intOf i).toNat)
  case atStart => exact ⟨0, rfl, Nat.zero_le _, Below.refl _ _, .inl ⟨rfl, rfl⟩⟩
  case round =>
    obtain ⟨k, rfl, hk, hPa⟩ := hrel
    by_cases hlt : k < xs.length
    · obtain ⟨x, hx⟩ : ∃ x, xs[k]? = some x := ⟨_, List.getElem?_eq_getElem hlt⟩
      obtain ⟨z, hz⟩ : ∃ z, es[k]? = some z := ⟨es[k]'(by omega), List.getElem?_eq_getElem _⟩
      rcases hrow with hrow | ⟨blk, off, rfl, hbk, hrow⟩
      · omega
      obtain ⟨c0, ca, cn, cc, c2, g1, g4, g5, g6⟩ := hrow k x z hx hz
      have below_cell : ∀ {ad : Addr} {v : Value}, w1.cell? ad = some v → wr.cell? ad = some v := fun {ad v} h => by
        have hb : ad.block < w1.heap.size := by
          unfold World.cell? at h
          rcases Nat.lt_or_ge ad.block w1.heap.size with h' | h'
          · exact h'
          · rw [Array.getElem?_eq_none h'] at h; cases h
        unfold World.cell? at h ⊢
        rw [hPa.1.block _ hb]; exact h
      have e0 := below_cell g4
      have e1 := below_cell g5
      have e2 := below_cell g6
      have hk1 : (k : Int) < xs.length := by omega
      clear hrow below_cell g4 g5 g6
      go_wp2_with (at_builtin; refine append_ex rfl _ _ _ _ rfl rfl rfl 22 rfl (parse_round hPa hx hz (by omega) _ _ g1 (by simp [Lk.plainV]) _ (((Below.refl _ wr).alloc (Nat.le_refl _) _).alloc (by simp) _) (wr.heap.size + 1) (by omega) 31 (alloc_at _ _ _ (by simp)) _ ?_); intro o' W' hP')
      go_roundw
      case rel => exact ⟨k + 1, by simp, by omega, hP'⟩
      case measure => simp [intOf]; omega
    · obtain rfl : k = xs.length := by omega
      have hk1 : ¬ ((xs.length : Int) < xs.length) := by omega
      go_wp2
      go_ret3
      exact ⟨w1, es, u8, rfl, hP1, hes, hPa⟩
end Go.Proofs.YthfhbbhacaejoaaDoor

namespace Go.Proofs.YthfhbbhacaejoaaDoor
open Go.RowKit

theorem ok10 (n : Nat) : Lk.FnOk (τ := ax) (Kw := kw) Tryd.prog 10 ⟨[(.s, .r)], [(.l placedT, .o placedM), (.i .i64, .r), (.i .i64, .r)], 3⟩ (fun x => parseF n x.1) := ScGP.ok n 10

theorem ebl_fst : ∀ (xs : List (Lk.E placedT)) (es : List (Lk.Sh placedT)), Lk.ebl lineT lineM (xs.map (·.1)) (es.map (·.1)) = Lk.ebl placedT placedM xs es := by
  intro xs
  induction xs with
  | nil => intro es; rfl
  | cons x xs ih =>
    intro es
    cases es with
    | nil => rfl
    | cons z es =>
      have := ih es
      simp only [Lk.ebl, List.map_cons, List.zipWith_cons_cons, List.flatten_cons] at this ⊢
      rw [this]
      congr 1
      simp [Lk.bl]

def Parsed (S : Nat → Prop) (w : World) (xs : List (Lk.E placedT)) (w1 : World) (es : List (Lk.Sh placedT)) : Prop :=
  Below w.heap.size w w1 ∧ ∃ S' : Nat → Prop, (∀ b, S b → S' b) ∧ (∀ b, S' b → S b ∨ w.heap.size ≤ b) ∧ (∀ b, S' b → b < w1.heap.size) ∧
    (∀ (k : Nat) (x : Lk.E placedT) (z : Lk.Sh placedT), xs[k]? = some x → es[k]? = some z → Lk.hold ax S' S' w1 placedT placedM x z) ∧ (Lk.ebl placedT placedM xs es).Nodup ∧ ∀ b ∈ Lk.ebl placedT placedM xs es, w.heap.size ≤ b ∧ b < w1.heap.size ∧ ¬ S' b

theorem ok_parse (n : Nat) : Lk.FnOk (τ := ax) (Kw := kw) Tryd.prog 5 ⟨[(.s, .r)], [(.l lineT, .o lineM), (.i .i64, .r), (.i .i64, .r)], 3⟩
    (fun x => parse5 n x.1) := by
  rintro ⟨s, u⟩ res hx w S Sb ads hK hs ha hargs
  have hx : ((parseF n s).bind fun r => bif Nat.blt (List.length r.1) 1073741824 then some (List.map (fun y => y.1) r.1, r.2.1, r.2.2.1, ()) else none) = some res := hx
  rw [Option.bind_eq_some_iff] at hx
  obtain ⟨⟨xs, a, b, _⟩, hr, hx⟩ := hx
  simp only at hx
  cases hl : Nat.blt (List.length xs) 1073741824 with
  | false => rw [hl] at hx; cases hx
  | true =>
  rw [hl] at hx
  cases hx
  rw [Nat.blt_eq] at hl
  have hok := ok10 n (s, u) (xs, a, b, ()) hr w S Sb ads hK hs ha hargs
  have hbls : Lk.blsOf ads = [] := by
    obtain ⟨sh, ads', rfl, ha1⟩ := ads_cons ha
    obtain rfl := ads_nil ha1
    simp [Lk.blsOf, Lk.DV.bl, Lk.bl]
  have hfil : (ads.filter fun d => Lk.isO d.m) = [] := by
    obtain ⟨sh, ads', rfl, ha1⟩ := ads_cons ha
    obtain rfl := ads_nil ha1
    rfl
  have hargsv : (ads.map (Lk.DV.val ax)).toArray = #[.string ⟨(s : List UInt8).toArray⟩] := by
    obtain ⟨sh, ads', rfl, ha1⟩ := ads_cons ha
    obtain rfl := ads_nil ha1
    rfl
  rw [hargsv] at hok ⊢
  rw [hbls] at hok ⊢
  have ab : ∃ P : Prop, P ∧ (P → Lk.inR .i64 a ∧ Lk.inR .i64 b) → True := ⟨True, fun _ => trivial⟩
  clear ab
  refine (parse_walk w ⟨(s : List UInt8).toArray⟩ xs a b hl (fun w1 es => Parsed S w xs w1 es ∧ Lk.inR .i64 a ∧ Lk.inR .i64 b) (hok.mono ?_)).mono ?_
  · rintro e w1 ⟨v, rfl, hext, ⟨rds, S', h1, h2, h3, h4, h5, h6, h7, h8, _⟩⟩
    obtain ⟨sh, r1, rfl, k1⟩ := ads_cons h1
    obtain ⟨sha, r2, rfl, k2⟩ := ads_cons k1
    obtain ⟨shb, r3, rfl, k3⟩ := ads_cons k2
    obtain rfl := ads_nil k3
    have hh := h5 _ (List.mem_cons_self ..)
    have ha' : Lk.inR .i64 a := (h5 _ (List.mem_cons_of_mem _ (List.mem_cons_self ..))).2
    have hb' : Lk.inR .i64 b := (h5 _ (List.mem_cons_of_mem _ (List.mem_cons_of_mem _ (List.mem_cons_self ..)))).2
    have hv : v = .tuple #[sh.hd, .int .i64 a, .int .i64 b] := h8
    have hbl : Lk.blsOf [(⟨.l placedT, .o placedM, xs, sh⟩ : Lk.DV), ⟨.i .i64, .r, a, sha⟩, ⟨.i .i64, .r, b, shb⟩] = Lk.bl (.l placedT) (.o placedM) xs sh := by
      simp [Lk.blsOf, Lk.DV.bl, Lk.bl]
    rw [hbl] at h6 h7
    rcases Lk.own_row hh with ⟨g1, rfl, g2⟩ | ⟨cap, g1, g2, g3⟩
    · refine ⟨none, 0, [], by rw [hv, g1]; rfl, ⟨⟨below_of_ext hext, S', h2, fun b hb => (h3 b hb).imp id (fun h => h.elim (by simp) id), h4, fun k x z hx _ => by simp at hx, by simp [Lk.ebl], by simp [Lk.ebl]⟩, ha', hb'⟩, rfl, .inl rfl⟩
    · rw [g3] at h6 h7
      obtain ⟨n1, n2⟩ := List.nodup_cons.1 h6
      refine ⟨some ⟨sh.blk, sh.off, none⟩, cap, sh.es, by rw [hv, g1.hd], ⟨⟨below_of_ext hext, S', h2, fun b hb => (h3 b hb).imp id (fun h => h.elim (by simp) id), h4, fun k x z hx hz => (g2.at_ k x z hx hz).2, n2, fun b hb => ?_⟩, ha', hb'⟩, g2.len, .inr ⟨sh.blk, sh.off, rfl, ?_, fun k x z hx hz => ?_⟩⟩
      · obtain ⟨q1, q2, q3⟩ := h7 b (List.mem_cons_of_mem _ hb)
        exact ⟨q1.elim (by simp) id, q2, q3⟩
      · exact (h7 _ (List.mem_cons_self ..)).2.1
      · obtain ⟨q1, q2⟩ := g2.at_ k x z hx hz
        obtain ⟨⟨x0, x1, _⟩, x2, _⟩ := x
        obtain ⟨⟨z0, z1, _⟩, z2, _⟩ := z
        have q1 : Lk.win sh.C (sh.off + k * 3) 3 = [Lk.strV x0, z1.hd, .int .i64 x2] := by simpa [Lk.cells, Lk.csz] using q1
        have cells : ∀ j v, j < 3 → ([Lk.strV x0, z1.hd, .int .i64 x2] : List Value)[j]? = some v → w1.cell? ⟨sh.blk, sh.off + k * 3 + j, none⟩ = some v := by
          intro j v hj hv
          rw [← q1, Lk.win_get, if_pos hj] at hv
          rw [cell_of g1.cell]
          simpa using hv
        have hz1 : ∃ (ca : Option Addr) (cn cc : Nat), z1.hd = .slice ca cn cc := by
          have hw : Lk.hold ax S' S' w1 (.l .s) (.o .r) x1 z1 := q2.1.2.1
          rcases Lk.own_row hw with ⟨y1, _⟩ | ⟨cp, y1, _⟩
          · exact ⟨_, _, _, y1⟩
          · exact ⟨_, _, _, y1.hd⟩
        obtain ⟨ca, cn, cc, hz1⟩ := hz1
        refine ⟨⟨(x0 : List UInt8).toArray⟩, ca, cn, cc, x2, ?_, cells 0 _ (by omega) rfl, cells 1 _ (by omega) (by rw [← hz1]; rfl), cells 2 _ (by omega) rfl⟩
        simp [Lk.cells, Lk.strV, hz1]
  · rintro e w' ⟨w1, es, o, rfl, ⟨⟨hbel, S', h2, h3, h4, h5, h6, h7⟩, ha', hb'⟩, hes, hbw, hout⟩
    have hext : Lk.Ext [] w w' := ext_of_below (hbel.trans (hbw.mono hbel.size))
    have hkeep : ∀ b, b < w1.heap.size → w'.heap[b]? = w1.heap[b]? := hbw.block
    have helem : ∀ (k : Nat) (x : Lk.E placedT) (z : Lk.Sh placedT), xs[k]? = some x → es[k]? = some z → Lk.hold ax S' S' w' lineT lineM x.1 z.1 := fun k x z hx hz =>
      Lk.hold_keep ax (fun b hb => ⟨hb, hkeep b (h4 b hb)⟩) (fun b hb => ⟨hb, hkeep b (h4 b hb)⟩) _ _ _ _ (fun b hb => hkeep b (h7 b (Lk.ebl_mem hx hz (by
        simp only [Lk.bl]
        exact List.mem_append_left _ hb))).2.1) (h5 k x z hx hz).1
    refine ⟨_, rfl, hext, ?_⟩
    have fin : ∀ (d : Lk.DV), d.av = ⟨.l lineT, .o lineM, List.map (fun y => y.1) xs⟩ → Lk.DV.val ax d = o → d.hold ax S' S' w' → d.bl.Nodup → (∀ b ∈ d.bl, w.heap.size ≤ b ∧ b < w'.heap.size ∧ ¬ S' b) →
        Lk.ResAre (τ := ax) w w' S [] (Lk.avs [(.l lineT, .o lineM), (.i .i64, .r), (.i .i64, .r)] (List.map (fun y => y.1) xs, a, b, ())) 3 ads (.tuple #[o, .int .i64 a, .int .i64 b]) := by
      intro d q1 q2 q3 q4 q5
      have hbl : Lk.blsOf [d, ⟨.i .i64, .r, a, ()⟩, ⟨.i .i64, .r, b, ()⟩] = d.bl := by simp [Lk.blsOf, Lk.DV.bl, Lk.bl]
      refine ⟨[d, ⟨.i .i64, .r, a, ()⟩, ⟨.i .i64, .r, b, ()⟩], S', ?_, h2, fun b hb => (h3 b hb).imp id .inr, fun b hb => Nat.lt_of_lt_of_le (h4 b hb) hbw.size, ?_, by rw [hbl]; exact q4, fun b hb => ?_, ?_, by rw [hfil]; rfl⟩
      · simp only [List.map_cons, List.map_nil, q1]; rfl
      · intro x hx
        simp only [List.mem_cons, List.not_mem_nil, or_false] at hx
        rcases hx with rfl | rfl | rfl
        · exact q3
        · exact ⟨rfl, ha'⟩
        · exact ⟨rfl, hb'⟩
      · rw [hbl] at hb
        obtain ⟨y1, y2, y3⟩ := q5 b hb
        exact ⟨.inr y1, y2, y3⟩
      · show _ = Value.tuple #[Lk.DV.val ax d, .int .i64 a, .int .i64 b]
        rw [q2]
    rcases hout with ⟨rfl, h0⟩ | ⟨blk, off, cap, C, ety, frz, hR, hb, hC⟩
    · have hx0 : xs = [] := List.length_eq_zero_iff.1 h0
      subst hx0
      refine fin ⟨.l lineT, .o lineM, [], ⟨.slice none 0 0, 0, 0, [], 0, (0, 0), []⟩⟩ rfl rfl (.inl ⟨rfl, rfl⟩) ?_ ?_
      · simp [Lk.DV.bl, Lk.bl]
      · simp [Lk.DV.bl, Lk.bl]
    · have hdbl : Lk.DV.bl ⟨.l lineT, .o lineM, List.map (fun y => y.1) xs, ⟨o, blk, off, C, ety, frz, es.map (·.1)⟩⟩ = blk :: Lk.ebl placedT placedM xs es := by
        rw [← ebl_fst]
        simp only [Lk.DV.bl, Lk.bl, hR.hd]; rfl
      have hblk : blk < w'.heap.size := by
        have := hR.cell
        rcases Nat.lt_or_ge blk w'.heap.size with h | h
        · exact h
        · rw [Array.getElem?_eq_none h] at this; cases this
      refine fin ⟨.l lineT, .o lineM, List.map (fun y => y.1) xs, ⟨o, blk, off, C, ety, frz, es.map (·.1)⟩⟩ rfl (by simp [Lk.DV.val, Lk.DV.cells, Lk.cells, Lk.valOf, Lk.isAggT]) ?_ ?_ ?_
      · refine .inr ⟨cap, by rw [List.length_map]; exact hR.hd, by simp [hes], by rw [List.length_map]; exact hR.len, hR.big, hR.room, hR.cell, hR.thaw, fun i y z hy hz => ?_⟩
        rw [List.getElem?_map, Option.map_eq_some_iff] at hy hz
        obtain ⟨x, hx, rfl⟩ := hy
        obtain ⟨z, hz, rfl⟩ := hz
        exact ⟨hC i x z (Lk.lt_of_get hx) hx hz, helem i x z hx hz⟩
      · rw [hdbl, List.nodup_cons]
        exact ⟨fun hm => by have := (h7 blk hm).2.1; omega, h6⟩
      · intro b hbb
        rw [hdbl] at hbb
        rcases List.mem_cons.1 hbb with rfl | hbb
        · exact ⟨Nat.le_trans hbel.size hb, hblk, fun h => by have := h4 b h; omega⟩
        · obtain ⟨y1, y2, y3⟩ := h7 b hbb
          exact ⟨y1, Nat.lt_of_lt_of_le y2 hbw.size, y3⟩
end Go.Proofs.YthfhbbhacaejoaaDoor

/-! ScriptParses, by hand: what its loops keep. -/
namespace Go.Proofs.YthfhbbhacaejoaaDoor
open Go.RowKit

structure Lay where
  ad : Option Addr
  cap : Nat
  lb : Nat
  lo : Nat
  ha : Nat → Option Addr
  hc : Nat → Nat
  wb : Nat → Nat
  wo : Nat → Nat

structure Laid (w : World) (y : Lay) (N C o : Nat) (word : Nat → ByteArray) (len : Nat → Nat) (text : Nat → Nat → ByteArray) : Prop where
  ad : 0 < N → y.ad = some ⟨y.lb, y.lo, none⟩
  word : ∀ i, i < N → w.cell? ⟨y.lb, y.lo + i * C + o, none⟩ = some (.string (word i))
  words : ∀ i, i < N → w.cell? ⟨y.lb, y.lo + i * C + (o + 1), none⟩ = some (.slice (y.ha i) (len i) (y.hc i))
  wad : ∀ i, i < N → 0 < len i → y.ha i = some ⟨y.wb i, y.wo i, none⟩
  text : ∀ i k, i < N → k < len i → w.cell? ⟨y.wb i, y.wo i + k, none⟩ = some (.string (text i k))
  thaw : ∀ i k, i < N → k < len i → w.frozen? ⟨y.wb i, y.wo i + k, none⟩ = false

structure Apart (w0 : World) (l a x : Lay) (N : Nat) (len : Nat → Nat) : Prop where
  l0 : ∀ i, i < N → 0 < len i → w0.heap.size ≤ l.wb i ∧ l.wb i ≠ l.lb ∧ l.wb i ≠ a.lb ∧ l.wb i ≠ x.lb
  a0 : ∀ i, i < N → 0 < len i → w0.heap.size ≤ a.wb i ∧ a.wb i ≠ l.lb ∧ a.wb i ≠ a.lb ∧ a.wb i ≠ x.lb
  ll : ∀ i j, i < N → j < N → 0 < len i → 0 < len j → l.wb i = l.wb j → i = j
  aa : ∀ i j, i < N → j < N → 0 < len i → 0 < len j → a.wb i = a.wb j → i = j
  la : ∀ i j, i < N → j < N → 0 < len i → 0 < len j → l.wb i ≠ a.wb j
  lx : ∀ i j, i < N → j < N → 0 < len i → 0 < len j → l.wb i ≠ x.wb j
  ax : ∀ i j, i < N → j < N → 0 < len i → 0 < len j → a.wb i ≠ x.wb j

structure Kept (w0 w3 wr : World) (B : Nat → Prop) : Prop where
  below : Below w0.heap.size w0 wr
  le : w0.heap.size ≤ w3.heap.size
  size : w3.heap.size ≤ wr.heap.size
  keep : ∀ b, b < w3.heap.size → ¬ B b → wr.heap[b]? = w3.heap[b]?

theorem cell_lt {w : World} {b j : Nat} {v : Value} (h : w.cell? ⟨b, j, none⟩ = some v) : b < w.heap.size := by
  unfold World.cell? at h
  rcases Nat.lt_or_ge b w.heap.size with h' | h'
  · exact h'
  · rw [Array.getElem?_eq_none h'] at h; cases h

namespace Kept
variable {w0 w3 wr : World} {B : Nat → Prop}
theorem cell (h : Kept w0 w3 wr B) {b j : Nat} {v : Value} (hc : w3.cell? ⟨b, j, none⟩ = some v) (hb : ¬ B b) : wr.cell? ⟨b, j, none⟩ = some v := by
  have := h.keep b (cell_lt hc) hb
  unfold World.cell? at hc ⊢
  simp only at hc ⊢
  rw [this]; exact hc
theorem frozen (h : Kept w0 w3 wr B) {b j : Nat} (hl : b < w3.heap.size) (hb : ¬ B b) : wr.frozen? ⟨b, j, none⟩ = w3.frozen? ⟨b, j, none⟩ := by
  have := h.keep b hl hb
  unfold World.frozen?
  simp only
  rw [this]
theorem alloc (h : Kept w0 w3 wr B) (o : Obj) : Kept w0 w3 (wr.alloc o) B :=
  ⟨h.below.alloc h.below.size o, h.le, Nat.le_trans h.size (by simp), fun b hl hb => by
    rw [← h.keep b hl hb]
    have : b < wr.heap.size := Nat.lt_of_lt_of_le hl h.size
    show (wr.heap.push o)[b]? = _
    rw [Array.getElem?_push_lt this, Array.getElem?_eq_getElem this]⟩
theorem setNew (h : Kept w0 w3 wr B) {p : Addr} (hp : w3.heap.size ≤ p.block) (v : Value) : Kept w0 w3 (wr.setCell p v) B :=
  ⟨h.below.setCell (Nat.le_trans h.le hp) v, h.le, by rw [show (wr.setCell p v).heap.size = wr.heap.size by simp [World.setCell]]; exact h.size, fun b hl hb => by
    rw [Below.heap_setCell wr p v b (by omega)]; exact h.keep b hl hb⟩
theorem setB (h : Kept w0 w3 wr B) {p : Addr} (hp : B p.block) (h0 : w0.heap.size ≤ p.block) (v : Value) : Kept w0 w3 (wr.setCell p v) B :=
  ⟨h.below.setCell h0 v, h.le, by rw [show (wr.setCell p v).heap.size = wr.heap.size by simp [World.setCell]]; exact h.size, fun b hl hb => by
    rw [Below.heap_setCell wr p v b (fun e => hb (e ▸ hp))]; exact h.keep b hl hb⟩
theorem drew (h : Kept w0 w3 wr B) : Kept w0 w3 wr.drew B := ⟨h.below.drew, h.le, h.size, h.keep⟩
theorem mono (h : Kept w0 w3 wr B) {B' : Nat → Prop} (hb : ∀ b, B b → B' b) : Kept w0 w3 wr B' := ⟨h.below, h.le, h.size, fun b hl hn => h.keep b hl fun hB => hn (hb b hB)⟩
end Kept

/-- Within a line: its words from the k-th on are as they were; x is at X. -/
structure Within (w0 w3 wr : World) (B : Nat → Prop) (cur off len k X : Nat) (c1 : Value) : Prop where
  kept : Kept w0 w3 wr (fun b => B b ∨ (0 < len ∧ b = cur))
  new : w3.heap.size ≤ X
  x1 : wr.cell? ⟨X, 1, none⟩ = some c1
  rest : ∀ j, k ≤ j → j < len → wr.cell? ⟨cur, off + j, none⟩ = w3.cell? ⟨cur, off + j, none⟩ ∧ wr.frozen? ⟨cur, off + j, none⟩ = false

theorem Within.step {w0 w3 wr : World} {B : Nat → Prop} {cur off len k X : Nat} {c1 : Value} (h : Within w0 w3 wr B cur off len k X c1) (hk : k < len) (h0 : w0.heap.size ≤ cur) (hX : cur < w3.heap.size) (v : Value) :
    Within w0 w3 (wr.setCell ⟨cur, off + k, none⟩ v) B cur off len (k + 1) X c1 := by
  refine ⟨h.kept.setB (.inr ⟨by omega, rfl⟩) h0 v, h.new, ?_, fun j hj hl => ?_⟩
  · have := h.new
    rw [World.cell?_setCell_other _ _ _ _ (by intro e; simp only [Addr.mk.injEq] at e; omega)]
    exact h.x1
  · obtain ⟨a, b⟩ := h.rest j (by omega) hl
    rw [World.cell?_setCell_other _ _ _ _ (by intro e; simp only [Addr.mk.injEq] at e; omega)]
    refine ⟨a, ?_⟩
    rw [World.frozen?_setCell]; exact b
theorem Within.drew {w0 w3 wr : World} {B : Nat → Prop} {cur off len k X : Nat} {c1 : Value} (h : Within w0 w3 wr B cur off len k X c1) : Within w0 w3 wr.drew B cur off len k X c1 := ⟨h.kept.drew, h.new, h.x1, h.rest⟩

def Bad0 (l : Lay) (len : Nat → Nat) (i : Nat) (b : Nat) : Prop := ∃ j, j < i ∧ 0 < len j ∧ b = l.wb j
def Bad1 (l a : Lay) (len : Nat → Nat) (N i : Nat) (b : Nat) : Prop := Bad0 l len N b ∨ Bad0 a len i b

def Good (w0 w3 : World) (lv av wv : Value) (N : Nat) : Prop :=
  ∃ (l a x : Lay) (word : Nat → ByteArray) (len : Nat → Nat) (text : Nat → Nat → ByteArray), lv = .slice l.ad N l.cap ∧ av = .slice a.ad N a.cap ∧ wv = .slice x.ad N x.cap ∧
    Laid w3 l N 2 0 word len text ∧ Laid w3 a N 2 0 word len text ∧ Laid w3 x N 3 1 word len text ∧ Apart w0 l a x N len ∧ (∀ i, i < N → len i ≤ 9223372036854775807) ∧ Below w0.heap.size w0 w3

theorem within_start {w0 w3 wr : World} {B : Nat → Prop} {cur off len : Nat} {c0 c1 : Value} (h : Kept w0 w3 wr B) (hc : 0 < len → ¬ B cur) (ht : ∀ j, j < len → ∃ v, w3.cell? ⟨cur, off + j, none⟩ = some v ∧ w3.frozen? ⟨cur, off + j, none⟩ = false) :
    (wr.alloc (.cells #[c0, c1] 31)).cell? ⟨wr.heap.size, 0, none⟩ = some c0 ∧ Within w0 w3 (wr.alloc (.cells #[c0, c1] 31)) B cur off len 0 wr.heap.size c1 := by
  have hA := h.alloc (.cells #[c0, c1] 31)
  have hcell : ∀ j, (wr.alloc (.cells #[c0, c1] 31)).cell? ⟨wr.heap.size, j, none⟩ = (#[c0, c1] : Array Value)[j]? := fun j => by simp
  refine ⟨by rw [hcell]; rfl, hA.mono fun b hb => .inl hb, h.size, by rw [hcell]; rfl, fun j _ hl => ?_⟩
  obtain ⟨v, t1, t2⟩ := ht j hl
  have hb := hc (by omega)
  exact ⟨by rw [hA.cell t1 hb, t1], by rw [hA.frozen (cell_lt t1) hb]; exact t2⟩
theorem Within.cell {w0 w3 wr : World} {B : Nat → Prop} {cur off len k X : Nat} {c1 : Value} (h : Within w0 w3 wr B cur off len k X c1) {b j : Nat} {v : Value} (hc : w3.cell? ⟨b, j, none⟩ = some v) (hb : ¬ B b) (hcur : 0 < len → b ≠ cur) : wr.cell? ⟨b, j, none⟩ = some v :=
  h.kept.cell hc fun h => h.elim hb fun h => hcur h.1 h.2
end Go.Proofs.YthfhbbhacaejoaaDoor

/-! ScriptParses: from what L tells of the results to how they lie. -/
namespace Go.Proofs.YthfhbbhacaejoaaDoor
open Go.RowKit

def hdAd : Value → Option Addr
  | .slice a _ _ => a
  | _ => none
def hdCap : Value → Nat
  | .slice _ _ c => c
  | _ => 0

noncomputable def layOf (blk off cap : Nat) (zs : List (Lk.Sh (.l .s))) : Lay where
  ad := some ⟨blk, off, none⟩
  cap := cap
  lb := blk
  lo := off
  ha i := (zs[i]?).elim none fun z => hdAd z.hd
  hc i := (zs[i]?).elim 0 fun z => hdCap z.hd
  wb i := (zs[i]?).elim 0 fun z => z.blk
  wo i := (zs[i]?).elim 0 fun z => z.off

def layNil : Lay := ⟨none, 0, 0, 0, fun _ => none, fun _ => 0, fun _ => 0, fun _ => 0⟩

def wordAt (names : List (List UInt8)) (i : Nat) : ByteArray := ⟨(names.getD i []).toArray⟩
def lenAt (vs : List (List (List UInt8))) (i : Nat) : Nat := (vs.getD i []).length
def textAt (vs : List (List (List UInt8))) (i k : Nat) : ByteArray := ⟨((vs.getD i []).getD k []).toArray⟩

theorem frozen_thaw {w : World} {b : Nat} {C : List Value} {ety : TypeId} {frz : Nat × Nat} (h : w.heap[b]? = some (.cells C.toArray ety frz)) (ht : Lk.thaw C.length frz) (j : Nat) (hj : j < C.length) : w.frozen? ⟨b, j, none⟩ = false := by
  unfold World.frozen?
  rw [h]
  have := ht j hj
  simp only [Bool.and_eq_false_imp, decide_eq_true_eq, decide_eq_false_iff_not]
  exact fun h1 h2 => this ⟨h1, h2⟩

theorem laid_of {w : World} {S : Nat → Prop} {blk off cap K o : Nat} {C : List Value} {ety : TypeId} {frz : Nat × Nat} (hb : w.heap[blk]? = some (.cells C.toArray ety frz)) (names : List (List UInt8)) (vs : List (List (List UInt8))) (zs : List (Lk.Sh (.l .s))) (N : Nat) (h1 : names.length = N) (h2 : vs.length = N) (h3 : zs.length = N)
    (hcell : ∀ (i : Nat) (n : List UInt8) (v : List (List UInt8)) (z : Lk.Sh (.l .s)), names[i]? = some n → vs[i]? = some v → zs[i]? = some z → C[off + i * K + o]? = some (Lk.strV n) ∧ C[off + i * K + (o + 1)]? = some z.hd ∧ Lk.hold ax S S w (.l .s) (.o .r) v z) :
    Laid w (layOf blk off cap zs) N K o (wordAt names) (lenAt vs) (textAt vs) := by
  have get : ∀ i, i < N → ∃ n v z, names[i]? = some n ∧ vs[i]? = some v ∧ zs[i]? = some z ∧ names.getD i [] = n ∧ vs.getD i [] = v := fun i hi => by
    have g1 : names[i]? = some (names[i]'(by omega)) := List.getElem?_eq_getElem _
    have g2 : vs[i]? = some (vs[i]'(by omega)) := List.getElem?_eq_getElem _
    have g3 : zs[i]? = some (zs[i]'(by omega)) := List.getElem?_eq_getElem _
    exact ⟨_, _, _, g1, g2, g3, by rw [List.getD_eq_getElem?_getD, g1]; rfl, by rw [List.getD_eq_getElem?_getD, g2]; rfl⟩
  have row : ∀ i k v z, vs[i]? = some v → zs[i]? = some z → i < N → k < v.length → Lk.hold ax S S w (.l .s) (.o .r) v z → ∃ u, v[k]? = some u ∧ z.hd = .slice (some ⟨z.blk, z.off, none⟩) v.length (hdCap z.hd) ∧ w.cell? ⟨z.blk, z.off + k, none⟩ = some (Lk.strV u) ∧ w.frozen? ⟨z.blk, z.off + k, none⟩ = false := by
    intro i k v z hv hz hi hk hh
    rcases Lk.own_row hh with ⟨_, rfl, _⟩ | ⟨cap, hR, hE, _⟩
    · simp at hk
    · have hu : v[k]? = some v[k] := List.getElem?_eq_getElem hk
      have hze : z.es[k]? = some (z.es[k]'(by rw [hE.len]; exact hk)) := List.getElem?_eq_getElem _
      obtain ⟨q1, _⟩ := hE.at_ k _ _ hu hze
      have hroom := hR.room
      have hlen : k < cap := Nat.lt_of_lt_of_le hk hR.len
      have hk2 : z.off + k < z.C.length := by
        have : Lk.csz .s = 1 := rfl
        rw [this] at hroom; omega
      refine ⟨_, hu, by rw [hR.hd]; rfl, ?_, frozen_thaw hR.cell hR.thaw _ hk2⟩
      have q1 : Lk.win z.C (z.off + k * 1) 1 = [Lk.strV v[k]] := q1
      have q2 : z.C[z.off + k * 1 + 0]? = some (Lk.strV v[k]) := by
        have := congrArg (·[0]?) q1
        simp only [Lk.win_get] at this
        simpa using this
      rw [cell_of hR.cell]
      simpa using q2
  refine ⟨fun _ => rfl, fun i hi => ?_, fun i hi => ?_, fun i hi h0 => ?_, fun i k hi hk => ?_, fun i k hi hk => ?_⟩
  · obtain ⟨n, v, z, g1, g2, g3, g4, g5⟩ := get i hi
    obtain ⟨c1, c2, c3⟩ := hcell i n v z g1 g2 g3
    show w.cell? ⟨blk, off + i * K + o, none⟩ = _
    rw [cell_of hb, wordAt, g4]
    simpa [Lk.strV] using c1
  · obtain ⟨n, v, z, g1, g2, g3, g4, g5⟩ := get i hi
    obtain ⟨c1, c2, c3⟩ := hcell i n v z g1 g2 g3
    show w.cell? ⟨blk, off + i * K + (o + 1), none⟩ = some (.slice ((zs[i]?).elim none fun z => hdAd z.hd) (vs.getD i []).length ((zs[i]?).elim 0 fun z => hdCap z.hd))
    rw [cell_of hb, g5, g3]
    have : z.hd = .slice (hdAd z.hd) v.length (hdCap z.hd) := by
      rcases Lk.own_row c3 with ⟨y1, rfl, _⟩ | ⟨cp, y1, _⟩
      · rw [y1]; rfl
      · rw [y1.hd]; rfl
    simp only [Option.elim_some]
    rw [← this]
    simpa using c2
  · obtain ⟨n, v, z, g1, g2, g3, g4, g5⟩ := get i hi
    obtain ⟨c1, c2, c3⟩ := hcell i n v z g1 g2 g3
    have h0 : 0 < (vs.getD i []).length := h0
    rw [g5] at h0
    obtain ⟨u, r1, r2, _⟩ := row i 0 v z g2 g3 hi h0 c3
    show ((zs[i]?).elim none fun z => hdAd z.hd) = some ⟨(zs[i]?).elim 0 fun z => z.blk, (zs[i]?).elim 0 fun z => z.off, none⟩
    rw [g3]
    simp only [Option.elim_some]
    rw [r2]; rfl
  · obtain ⟨n, v, z, g1, g2, g3, g4, g5⟩ := get i hi
    obtain ⟨c1, c2, c3⟩ := hcell i n v z g1 g2 g3
    have hk : k < (vs.getD i []).length := hk
    rw [g5] at hk
    obtain ⟨u, r1, r2, r3, r4⟩ := row i k v z g2 g3 hi hk c3
    show w.cell? ⟨(zs[i]?).elim 0 fun z => z.blk, ((zs[i]?).elim 0 fun z => z.off) + k, none⟩ = some (.string ⟨((vs.getD i []).getD k []).toArray⟩)
    rw [g5, g3, List.getD_eq_getElem?_getD, r1]
    exact r3
  · obtain ⟨n, v, z, g1, g2, g3, g4, g5⟩ := get i hi
    obtain ⟨c1, c2, c3⟩ := hcell i n v z g1 g2 g3
    have hk : k < (vs.getD i []).length := hk
    rw [g5] at hk
    obtain ⟨u, r1, r2, r3, r4⟩ := row i k v z g2 g3 hi hk c3
    show w.frozen? ⟨(zs[i]?).elim 0 fun z => z.blk, ((zs[i]?).elim 0 fun z => z.off) + k, none⟩ = false
    rw [g3]
    exact r4
end Go.Proofs.YthfhbbhacaejoaaDoor

/-! ScriptParses: lines lie where L says. -/
namespace Go.Proofs.YthfhbbhacaejoaaDoor
open Go.RowKit

theorem ebl_inj {t : Lk.Ty} {m : Lk.Md} : ∀ (xs : List (Lk.E t)) (es : List (Lk.Sh t)), (Lk.ebl t m xs es).Nodup → ∀ (i j : Nat) (x x' : Lk.E t) (z z' : Lk.Sh t) (b : Nat), xs[i]? = some x → es[i]? = some z → xs[j]? = some x' → es[j]? = some z' → b ∈ Lk.bl t m x z → b ∈ Lk.bl t m x' z' → i = j
  | [], _, _, _, _, _, _, _, _, _, h, _, _, _, _, _ => by simp at h
  | _ :: _, [], _, _, _, _, _, _, _, _, _, h, _, _, _, _ => by simp at h
  | u :: xs, v :: es, hn, i, j, x, x', z, z', b, h1, h2, h3, h4, h5, h6 => by
    have e : Lk.ebl t m (u :: xs) (v :: es) = Lk.bl t m u v ++ Lk.ebl t m xs es := by simp [Lk.ebl]
    rw [e, List.nodup_append] at hn
    obtain ⟨_, n2, n3⟩ := hn
    cases i with
    | zero =>
      cases j with
      | zero => rfl
      | succ j =>
        simp only [List.getElem?_cons_zero, List.getElem?_cons_succ, Option.some.injEq] at h1 h2 h3 h4
        subst h1; subst h2
        exact absurd rfl (n3 b h5 b (Lk.ebl_mem h3 h4 h6))
    | succ i =>
      cases j with
      | zero =>
        simp only [List.getElem?_cons_zero, List.getElem?_cons_succ, Option.some.injEq] at h1 h2 h3 h4
        subst h3; subst h4
        exact absurd rfl (n3 b h6 b (Lk.ebl_mem h1 h2 h5))
      | succ j =>
        simp only [List.getElem?_cons_succ] at h1 h2 h3 h4
        rw [ebl_inj xs es n2 i j x x' z z' b h1 h2 h3 h4 h5 h6]

structure Lines (w w1 : World) (v : Value) (names : List (List UInt8)) (vs : List (List (List UInt8))) (y : Lay) (N C o : Nat) : Prop where
  laid : Laid w1 y N C o (wordAt names) (lenAt vs) (textAt vs)
  val : v = .slice y.ad N y.cap
  head : 0 < N → w.heap.size ≤ y.lb ∧ y.lb < w1.heap.size
  rows : ∀ i, i < N → 0 < lenAt vs i → w.heap.size ≤ y.wb i ∧ y.wb i < w1.heap.size ∧ y.wb i ≠ y.lb
  inj : ∀ i j, i < N → j < N → 0 < lenAt vs i → 0 < lenAt vs j → y.wb i = y.wb j → i = j

theorem lines_of {t : Lk.Ty} {m : Lk.Md} {K o : Nat} (nm : Lk.E t → List UInt8) (wd : Lk.E t → List (List UInt8)) (sw : Lk.Sh t → Lk.Sh (.l .s)) (hK : Lk.csz t = K) {w w1 : World} {S : Nat → Prop}
    (hcells : ∀ x z, Lk.hold ax S S w1 t m x z → (Lk.cells ax t x z)[o]? = some (Lk.strV (nm x)) ∧ (Lk.cells ax t x z)[o + 1]? = some (sw z).hd ∧ o + 1 < K ∧ Lk.hold ax S S w1 (.l .s) (.o .r) (wd x) (sw z) ∧ ∀ b ∈ Lk.bl (.l .s) (.o .r) (wd x) (sw z), b ∈ Lk.bl t m x z)
    {xs : List (Lk.E t)} {sh : Lk.Sh (.l t)} (hh : Lk.hold ax S S w1 (.l t) (.o m) xs sh) (hn : (Lk.bl (.l t) (.o m) xs sh).Nodup) (hb : ∀ b ∈ Lk.bl (.l t) (.o m) xs sh, w.heap.size ≤ b ∧ b < w1.heap.size) :
    ∃ y, Lines w w1 sh.hd (xs.map nm) (xs.map wd) y xs.length K o := by
  rcases Lk.own_row hh with ⟨g1, rfl, g2⟩ | ⟨cap, g1, g2, g3⟩
  · exact ⟨layNil, ⟨⟨fun h => absurd h (Nat.lt_irrefl 0), fun i h => absurd h (Nat.not_lt_zero i), fun i h => absurd h (Nat.not_lt_zero i), fun i h => absurd h (Nat.not_lt_zero i), fun i _ h => absurd h (Nat.not_lt_zero i), fun i _ h => absurd h (Nat.not_lt_zero i)⟩, g1, fun h => absurd h (Nat.lt_irrefl 0), fun i h => absurd h (Nat.not_lt_zero i), fun i _ h => absurd h (Nat.not_lt_zero i)⟩⟩
  · rw [g3] at hn hb
    obtain ⟨n1, n2⟩ := List.nodup_cons.1 hn
    have at_ : ∀ i, i < xs.length → ∃ x z, xs[i]? = some x ∧ sh.es[i]? = some z := fun i hi => ⟨_, _, List.getElem?_eq_getElem hi, List.getElem?_eq_getElem (by rw [g2.len]; exact hi)⟩
    have wbe : ∀ i z, sh.es[i]? = some z → (layOf sh.blk sh.off cap (sh.es.map sw)).wb i = (sw z).blk := fun i z hz => by
      show (((sh.es.map sw)[i]?).elim 0 fun z => z.blk) = _
      rw [List.getElem?_map, hz]; rfl
    have lene : ∀ i x, xs[i]? = some x → lenAt (xs.map wd) i = (wd x).length := fun i x hx => by
      show ((xs.map wd).getD i []).length = _
      rw [List.getD_eq_getElem?_getD, List.getElem?_map, hx]; rfl
    have mem : ∀ i x z, xs[i]? = some x → sh.es[i]? = some z → 0 < (wd x).length → (sw z).blk ∈ Lk.bl t m x z := fun i x z hx hz h0 => by
      obtain ⟨_, _, _, c3, c4⟩ := hcells x z (g2.at_ i x z hx hz).2
      refine c4 _ ?_
      rcases Lk.own_row c3 with ⟨_, e, _⟩ | ⟨_, _, _, e⟩
      · rw [e] at h0; simp at h0
      · rw [e]; exact List.mem_cons_self ..
    refine ⟨layOf sh.blk sh.off cap (sh.es.map sw), ⟨?_, g1.hd, fun _ => hb _ (List.mem_cons_self ..), fun i hi h0 => ?_, fun i j hi hj h0 h1 e => ?_⟩⟩
    · refine laid_of (S := S) g1.cell (xs.map nm) (xs.map wd) (sh.es.map sw) xs.length (by simp) (by simp) (by simp [g2.len]) fun i n v z hn hv hz => ?_
      rw [List.getElem?_map, Option.map_eq_some_iff] at hn hv hz
      obtain ⟨x, hx, rfl⟩ := hn
      obtain ⟨x', hx', rfl⟩ := hv
      obtain rfl := Option.some.inj (hx.symm.trans hx')
      obtain ⟨z, hz, rfl⟩ := hz
      obtain ⟨q1, q2⟩ := g2.at_ i x z hx hz
      obtain ⟨c1, c2, co, c3, _⟩ := hcells x z q2
      rw [hK] at q1
      rw [← q1, Lk.win_get, if_pos (by omega)] at c1 c2
      exact ⟨c1, c2, c3⟩
    · obtain ⟨x, z, hx, hz⟩ := at_ i hi
      rw [lene i x hx] at h0
      have hm := Lk.ebl_mem hx hz (mem i x z hx hz h0)
      rw [wbe i z hz]
      obtain ⟨b1, b2⟩ := hb _ (List.mem_cons_of_mem _ hm)
      exact ⟨b1, b2, fun e => n1 (by show sh.blk ∈ _; rw [show sh.blk = (sw z).blk from e.symm]; exact hm)⟩
    · obtain ⟨x, z, hx, hz⟩ := at_ i hi
      obtain ⟨x', z', hx', hz'⟩ := at_ j hj
      rw [lene i x hx] at h0
      rw [lene j x' hx'] at h1
      rw [wbe i z hz, wbe j z' hz'] at e
      exact ebl_inj xs sh.es n2 i j x x' z z' _ hx hz hx' hz' (mem i x z hx hz h0) (by rw [e]; exact mem j x' z' hx' hz' h1)
end Go.Proofs.YthfhbbhacaejoaaDoor

/-! ScriptParses, by hand: the walk. -/
namespace Go.Proofs.YthfhbbhacaejoaaDoor
open Go.RowKit

set_option maxHeartbeats 4000000 in
set_option maxRecDepth 100000 in
theorem parses_walk (w0 : World) (s : ByteArray) (N : Nat) (hN : N < 1073741824) (p q : Int)
    (hc : Calls Tryd.prog 5 #[.string s] w0 fun e w1 => ∃ lv, e = .returned (.tuple #[lv, .int .i64 p, .int .i64 q]) ∧
      Calls Tryd.prog 5 #[.string s] w1 fun e w2 => ∃ av p2 q2, e = .returned (.tuple #[av, .int .i64 p2, .int .i64 q2]) ∧
        Calls Tryd.prog 6 #[.string s] w2 fun e w3 => ∃ wv, e = .returned (.tuple #[wv, .int .i64 p, .int .i64 q]) ∧ Good w0 w3 lv av wv N)
    (h7 : ∀ w, Below w0.heap.size w0 w → Calls Tryd.prog 7 #[] w fun e w' => e = .returned (.bool true) ∧ Below w.heap.size w w') :
    Calls Tryd.prog 3 #[.string s] w0 fun e w' => e = .returned (.bool true) ∧ Below w0.heap.size w0 w' := by
  go_enter Tryd.func3, Tryd.ntmps3
  go_wp2_with (first | (go_at_call 5; first | (refine hc.mono ?_; clear hc; rintro e w1 ⟨lv, rfl, hc⟩) | (refine hc.mono ?_; clear hc; rintro e w2 ⟨av, p2, q2, rfl, hc⟩)) | (go_at_call 6; refine hc.mono ?_; clear hc; rintro e w3 ⟨wv, rfl, ⟨l, a, x, word, len, text, rfl, rfl, rfl, hl, ha, hx, hap, hlen, hb3⟩⟩))
  have hK0 : Kept w0 w3 w3 (Bad0 l len 0) := ⟨hb3, hb3.size, Nat.le_refl _, fun _ _ _ => rfl⟩
  go_loopw [12] (fun r wr => (r = .int .i64 0 ∧ Kept w0 w3 wr (Bad0 l len 0)) ∨ (r = .int .i64 1 ∧ Kept w0 w3 wr (Bad1 l a len N 0)) ∨ (r = .int .i64 2 ∧ Kept w0 w3 wr (Bad1 l a len N N))) (fun r _ => 2 - (intOf r).toNat)
  case atStart => exact .inl ⟨rfl, hK0⟩
  case round =>
    rcases hrel with ⟨rfl, hK⟩ | ⟨rfl, hK⟩ | ⟨rfl, hK⟩
    · go_wp2
      go_loopw [13] (fun i wr => ∃ k : Nat, i = .int .i64 k ∧ k ≤ N ∧ Kept w0 w3 wr (Bad0 l len k)) (fun i _ => N - (intOf i).toNat)
      case atStart => exact ⟨0, rfl, Nat.zero_le _, hK⟩
      case round =>
        obtain ⟨i, rfl, hi, hKi⟩ := hrel
        by_cases hlt : i < N
        · have hi1 : (i : Int) < N := by omega
          have e0 := hKi.cell (hl.word i hlt) (by rintro ⟨j, hj, h0, e⟩; exact (hap.l0 j (by omega) h0).2.1 e.symm)
          have e1 := hKi.cell (hl.words i hlt) (by rintro ⟨j, hj, h0, e⟩; exact (hap.l0 j (by omega) h0).2.1 e.symm)
          have ead := hl.ad (by omega)
          simp only [Nat.add_zero, Nat.zero_add] at e0 e1
          go_wp2
          have hcur : 0 < len i → ¬ Bad0 l len i (l.wb i) := fun h0 => by
            rintro ⟨j, hj, h1, e⟩
            have := hap.ll _ _ (by omega) (by omega) h0 h1 e
            omega
          obtain ⟨x0, hW⟩ := within_start (c0 := .string (word i)) (c1 := .slice (l.ha i) (len i) (l.hc i)) hKi hcur (fun j hj => ⟨_, hl.text i j hlt hj, hl.thaw i j hlt hj⟩)
          have nl : ¬ Bad0 l len i x.lb := by rintro ⟨j, hj, h1, e⟩; exact (hap.l0 j (by omega) h1).2.2.2 e.symm
          have nw : 0 < len i → ¬ Bad0 l len i (x.wb i) := fun h0 => by rintro ⟨j, hj, h1, e⟩; exact hap.lx j i (by omega) hlt h1 h0 e.symm
          have nlc : 0 < len i → x.lb ≠ l.wb i := fun h0 e => (hap.l0 i hlt h0).2.2.2 e.symm
          have nwc : 0 < len i → x.wb i ≠ l.wb i := fun h0 e => hap.lx i i hlt hlt h0 h0 e.symm
          have x1 := hW.x1
          have y1 := hW.cell (hx.word i hlt) nl nlc
          have y2 := hW.cell (hx.words i hlt) nl nlc
          have exd := hx.ad (by omega)
          clear hKi e0 e1 hK hK0
          generalize wr.heap.size = X at *
          generalize wr.alloc _ = W at *
          go_still (by kernel_rfl)
          have hW : Within w0 w3 ({ W with drawn := W.drawn + 1 } : World) (Bad0 l len i) (l.wb i) (l.wo i) (len i) 0 X (.slice (l.ha i) (len i) (l.hc i)) := hW.drew
          generalize ({ W with drawn := W.drawn + 1 } : World) = W2 at *
          clear x0 x1 y1 y2
          go_wp2
          go_loopw [15] (fun j wr => ∃ k : Nat, j = .int .i64 k ∧ k ≤ len i ∧ Within w0 w3 wr (Bad0 l len i) (l.wb i) (l.wo i) (len i) k X (.slice (l.ha i) (len i) (l.hc i))) (fun j _ => len i - (intOf j).toNat)
          case atStart => exact ⟨0, rfl, Nat.zero_le _, hW⟩
          case round =>
            obtain ⟨k, rfl, hk, hWk⟩ := hrel
            have x1 := hWk.x1
            by_cases hkl : k < len i
            · have hk1 : (k : Int) < len i := by omega
              have h0 : 0 < len i := by omega
              have y2 := hWk.cell (hx.words i hlt) nl nlc
              have y3 := hWk.cell (hx.text i k hlt hkl) (nw h0) nwc
              obtain ⟨t1, t2⟩ := hWk.rest k (Nat.le_refl _) hkl
              rw [hl.text i k hlt hkl] at t1
              rw [hl.wad i hlt h0] at x1
              rw [hx.wad i hlt h0] at y2
              have hlen' := hlen i hlt
              go_wp2
              go_still (by kernel_rfl)
              have hWd : Within w0 w3 ({ wr with drawn := wr.drawn + 1 } : World) (Bad0 l len i) (l.wb i) (l.wo i) (len i) k X (.slice (l.ha i) (len i) (l.hc i)) := hWk.drew
              generalize ({ wr with drawn := wr.drawn + 1 } : World) = W3 at *
              clear x1 y2 y3 t1 t2
              have x1 := hWd.x1
              obtain ⟨t1, t2⟩ := hWd.rest k (Nat.le_refl _) hkl
              rw [hl.text i k hlt hkl] at t1
              rw [hl.wad i hlt h0] at x1
              have hstep := hWd.step hkl (hap.l0 i hlt h0).1 (cell_lt (hl.text i k hlt hkl)) (.string ⟨#[115, 112, 111, 105, 108, 116]⟩)
              go_wp2
              go_roundw
              case rel => exact ⟨k + 1, by simp, by omega, hstep⟩
              case measure => simp [intOf]; omega
            · obtain rfl : k = len i := by omega
              have hk1 : ¬ ((len i : Int) < len i) := by omega
              go_wp2
              exact ⟨⟨i + 1, by simp, by omega, hWk.kept.mono (fun b hb => hb.elim (fun ⟨j, hj, h1, e⟩ => ⟨j, by omega, h1, e⟩) (fun ⟨h0, e⟩ => ⟨i, by omega, h0, e⟩))⟩, by simp [intOf]; omega⟩
        · obtain rfl : i = N := by omega
          have hi1 : ¬ ((i : Int) < i) := by omega
          go_wp2
          exact ⟨.inr (.inl ⟨rfl, hKi.mono fun b h => .inl h⟩), by simp [intOf]⟩
    · go_wp2
      go_loopw [13] (fun i wr => ∃ k : Nat, i = .int .i64 k ∧ k ≤ N ∧ Kept w0 w3 wr (Bad1 l a len N k)) (fun i _ => N - (intOf i).toNat)
      case atStart => exact ⟨0, rfl, Nat.zero_le _, hK⟩
      case round =>
        obtain ⟨i, rfl, hi, hKi⟩ := hrel
        by_cases hlt : i < N
        · have hi1 : (i : Int) < N := by omega
          have nll : ¬ Bad1 l a len N i l.lb := by
            rintro (⟨j, hj, h0, e⟩ | ⟨j, hj, h0, e⟩)
            · exact (hap.l0 j (by omega) h0).2.1 e.symm
            · exact (hap.a0 j (by omega) h0).2.1 e.symm
          have nla : ¬ Bad1 l a len N i a.lb := by
            rintro (⟨j, hj, h0, e⟩ | ⟨j, hj, h0, e⟩)
            · exact (hap.l0 j (by omega) h0).2.2.1 e.symm
            · exact (hap.a0 j (by omega) h0).2.2.1 e.symm
          have f0 : ∀ o, (wr.alloc o).cell? ⟨a.lb, a.lo + i * 2, none⟩ = some (.string (word i)) := fun o => (hKi.alloc o).cell (by simpa using ha.word i hlt) nla
          have f1 : ∀ o, (wr.alloc o).cell? ⟨a.lb, a.lo + i * 2 + 1, none⟩ = some (.slice (a.ha i) (len i) (a.hc i)) := fun o => (hKi.alloc o).cell (by simpa using ha.words i hlt) nla
          have aad := ha.ad (by omega)
          have e0 := hKi.cell (hl.word i hlt) nll
          have e1 := hKi.cell (hl.words i hlt) nll
          have ead := hl.ad (by omega)
          simp only [Nat.add_zero, Nat.zero_add] at e0 e1
          go_wp2
          have hcur : 0 < len i → ¬ Bad1 l a len N i (a.wb i) := fun h0 => by
            rintro (⟨j, hj, h1, e⟩ | ⟨j, hj, h1, e⟩)
            · exact hap.la j i (by omega) hlt h1 h0 e.symm
            · have := hap.aa _ _ (by omega) (by omega) h0 h1 e
              omega
          obtain ⟨x0, hW⟩ := within_start (c0 := .string (word i)) (c1 := .slice (a.ha i) (len i) (a.hc i)) hKi hcur (fun j hj => ⟨_, ha.text i j hlt hj, ha.thaw i j hlt hj⟩)
          have nl : ¬ Bad1 l a len N i x.lb := by
            rintro (⟨j, hj, h1, e⟩ | ⟨j, hj, h1, e⟩)
            · exact (hap.l0 j (by omega) h1).2.2.2 e.symm
            · exact (hap.a0 j (by omega) h1).2.2.2 e.symm
          have nw : 0 < len i → ¬ Bad1 l a len N i (x.wb i) := fun h0 => by
            rintro (⟨j, hj, h1, e⟩ | ⟨j, hj, h1, e⟩)
            · exact hap.lx j i (by omega) hlt h1 h0 e.symm
            · exact hap.ax j i (by omega) hlt h1 h0 e.symm
          have nlc : 0 < len i → x.lb ≠ a.wb i := fun h0 e => (hap.a0 i hlt h0).2.2.2 e.symm
          have nwc : 0 < len i → x.wb i ≠ a.wb i := fun h0 e => hap.ax i i hlt hlt h0 h0 e.symm
          have x1 := hW.x1
          have y1 := hW.cell (hx.word i hlt) nl nlc
          have y2 := hW.cell (hx.words i hlt) nl nlc
          have exd := hx.ad (by omega)
          clear hKi e0 e1 f0 f1 hK hK0
          generalize wr.heap.size = X at *
          generalize wr.alloc _ = W at *
          go_still (by kernel_rfl)
          have hW : Within w0 w3 ({ W with drawn := W.drawn + 1 } : World) (Bad1 l a len N i) (a.wb i) (a.wo i) (len i) 0 X (.slice (a.ha i) (len i) (a.hc i)) := hW.drew
          generalize ({ W with drawn := W.drawn + 1 } : World) = W2 at *
          clear x0 x1 y1 y2
          go_wp2
          go_loopw [15] (fun j wr => ∃ k : Nat, j = .int .i64 k ∧ k ≤ len i ∧ Within w0 w3 wr (Bad1 l a len N i) (a.wb i) (a.wo i) (len i) k X (.slice (a.ha i) (len i) (a.hc i))) (fun j _ => len i - (intOf j).toNat)
          case atStart => exact ⟨0, rfl, Nat.zero_le _, hW⟩
          case round =>
            obtain ⟨k, rfl, hk, hWk⟩ := hrel
            have x1 := hWk.x1
            by_cases hkl : k < len i
            · have hk1 : (k : Int) < len i := by omega
              have h0 : 0 < len i := by omega
              have y2 := hWk.cell (hx.words i hlt) nl nlc
              have y3 := hWk.cell (hx.text i k hlt hkl) (nw h0) nwc
              obtain ⟨t1, t2⟩ := hWk.rest k (Nat.le_refl _) hkl
              rw [ha.text i k hlt hkl] at t1
              rw [ha.wad i hlt h0] at x1
              rw [hx.wad i hlt h0] at y2
              have hlen' := hlen i hlt
              go_wp2
              go_still (by kernel_rfl)
              have hWd : Within w0 w3 ({ wr with drawn := wr.drawn + 1 } : World) (Bad1 l a len N i) (a.wb i) (a.wo i) (len i) k X (.slice (a.ha i) (len i) (a.hc i)) := hWk.drew
              generalize ({ wr with drawn := wr.drawn + 1 } : World) = W3 at *
              clear x1 y2 y3 t1 t2
              have x1 := hWd.x1
              obtain ⟨t1, t2⟩ := hWd.rest k (Nat.le_refl _) hkl
              rw [ha.text i k hlt hkl] at t1
              rw [ha.wad i hlt h0] at x1
              have hstep := hWd.step hkl (hap.a0 i hlt h0).1 (cell_lt (ha.text i k hlt hkl)) (.string ⟨#[115, 112, 111, 105, 108, 116]⟩)
              go_wp2
              go_roundw
              case rel => exact ⟨k + 1, by simp, by omega, hstep⟩
              case measure => simp [intOf]; omega
            · obtain rfl : k = len i := by omega
              have hk1 : ¬ ((len i : Int) < len i) := by omega
              go_wp2
              exact ⟨⟨i + 1, by simp, by omega, hWk.kept.mono (fun b hb => hb.elim (fun h => h.elim .inl fun ⟨j, hj, h1, e⟩ => .inr ⟨j, by omega, h1, e⟩) (fun ⟨h0, e⟩ => .inr ⟨i, by omega, h0, e⟩))⟩, by simp [intOf]; omega⟩
        · obtain rfl : i = N := by omega
          have hi1 : ¬ ((i : Int) < i) := by omega
          go_wp2
          exact ⟨.inr (.inr ⟨rfl, hKi⟩), by simp [intOf]⟩
    · go_wp2_with (go_at_call 7; refine (h7 _ hK.below).mono ?_; rintro e w4 ⟨rfl, hb4⟩)
      go_ret
      exact ⟨rfl, hK.below.trans (hb4.mono hK.below.size)⟩
end Go.Proofs.YthfhbbhacaejoaaDoor

/-! ScriptParses: the three calls and the law. -/
namespace Go.Proofs.YthfhbbhacaejoaaDoor
open Go.RowKit

abbrev refT : Lk.Ty := .c (.i .i64) lineT
abbrev refM : Lk.Md := .q .r lineM

theorem Lines.keep {w w1 w2 : World} {v : Value} {names : List (List UInt8)} {vs : List (List (List UInt8))} {y : Lay} {N C o : Nat} (h : Lines w w1 v names vs y N C o) (hb : Below w1.heap.size w1 w2) : Laid w2 y N C o (wordAt names) (lenAt vs) (textAt vs) := by
  have cell : ∀ {b j : Nat} {u : Value}, w1.cell? ⟨b, j, none⟩ = some u → w2.cell? ⟨b, j, none⟩ = some u := fun {b j u} hc => by
    have := hb.block b (cell_lt hc)
    unfold World.cell? at hc ⊢
    simp only at hc ⊢
    rw [this]; exact hc
  have fr : ∀ {b j : Nat}, b < w1.heap.size → w2.frozen? ⟨b, j, none⟩ = w1.frozen? ⟨b, j, none⟩ := fun {b j} hl => by
    have := hb.block b hl
    unfold World.frozen?
    simp only
    rw [this]
  exact ⟨h.laid.ad, fun i hi => cell (h.laid.word i hi), fun i hi => cell (h.laid.words i hi), h.laid.wad, fun i k hi hk => cell (h.laid.text i k hi hk), fun i k hi hk => by
    rw [fr (cell_lt (h.laid.text i k hi hk))]; exact h.laid.thaw i k hi hk⟩

theorem line_cells {S : Nat → Prop} {w1 : World} (x : Lk.E lineT) (z : Lk.Sh lineT) (h : Lk.hold ax S S w1 lineT lineM x z) : (Lk.cells ax lineT x z)[0]? = some (Lk.strV x.1) ∧ (Lk.cells ax lineT x z)[0 + 1]? = some (z.2.1).hd ∧ 0 + 1 < 2 ∧ Lk.hold ax S S w1 (.l .s) (.o .r) x.2.1 z.2.1 ∧ ∀ b ∈ Lk.bl (.l .s) (.o .r) x.2.1 z.2.1, b ∈ Lk.bl lineT lineM x z := by
  obtain ⟨x0, x1, _⟩ := x
  obtain ⟨z0, z1, _⟩ := z
  refine ⟨by simp [Lk.cells], by simp [Lk.cells], by omega, h.2.1, fun b hb => ?_⟩
  have e : Lk.bl lineT lineM (x0, x1, ()) (z0, z1, ()) = Lk.bl .s .r x0 z0 ++ (Lk.bl (.l .s) (.o .r) x1 z1 ++ Lk.bl .u .r () ()) := rfl
  rw [e]
  exact List.mem_append_right _ (List.mem_append_left _ hb)

theorem ref_cells {S : Nat → Prop} {w1 : World} (x : Lk.E refT) (z : Lk.Sh refT) (h : Lk.hold ax S S w1 refT refM x z) : (Lk.cells ax refT x z)[1]? = some (Lk.strV x.2.1) ∧ (Lk.cells ax refT x z)[1 + 1]? = some (z.2.2.1).hd ∧ 1 + 1 < 3 ∧ Lk.hold ax S S w1 (.l .s) (.o .r) x.2.2.1 z.2.2.1 ∧ ∀ b ∈ Lk.bl (.l .s) (.o .r) x.2.2.1 z.2.2.1, b ∈ Lk.bl refT refM x z := by
  obtain ⟨xi, x0, x1, _⟩ := x
  obtain ⟨zi, z0, z1, _⟩ := z
  refine ⟨by simp [Lk.cells], by simp [Lk.cells], by omega, h.2.2.1, fun b hb => ?_⟩
  have e : Lk.bl refT refM (xi, x0, x1, ()) (zi, z0, z1, ()) = Lk.bl (.i .i64) .r xi zi ++ (Lk.bl .s .r x0 z0 ++ (Lk.bl (.l .s) (.o .r) x1 z1 ++ Lk.bl .u .r () ())) := rfl
  rw [e]
  exact List.mem_append_right _ (List.mem_append_right _ (List.mem_append_left _ hb))

theorem call_lines {t : Lk.Ty} {m : Lk.Md} {K o : Nat} {g : FuncId} {F : Lk.Tup [(.s, .r)] → Option (Lk.Tup [(.l t, .o m), (.i .i64, .r), (.i .i64, .r)])} (hok : Lk.FnOk (τ := ax) (Kw := kw) Tryd.prog g ⟨[(.s, .r)], [(.l t, .o m), (.i .i64, .r), (.i .i64, .r)], 3⟩ F)
    (nm : Lk.E t → List UInt8) (wd : Lk.E t → List (List UInt8)) (sw : Lk.Sh t → Lk.Sh (.l .s)) (hK : Lk.csz t = K)
    (hcells : ∀ (S : Nat → Prop) w1 x z, Lk.hold ax S S w1 t m x z → (Lk.cells ax t x z)[o]? = some (Lk.strV (nm x)) ∧ (Lk.cells ax t x z)[o + 1]? = some (sw z).hd ∧ o + 1 < K ∧ Lk.hold ax S S w1 (.l .s) (.o .r) (wd x) (sw z) ∧ ∀ b ∈ Lk.bl (.l .s) (.o .r) (wd x) (sw z), b ∈ Lk.bl t m x z)
    (s : ByteArray) (hs : s.size ≤ Lk.big) (w : World) (hK2 : Tabs w) (hn : 4 ≤ w.heap.size) {xs : List (Lk.E t)} {p q : Int} (hF : F (s.data.toList, ()) = some (xs, p, q, ())) :
    Calls Tryd.prog g #[.string s] w fun e w1 => ∃ v y, e = .returned (.tuple #[v, .int .i64 p, .int .i64 q]) ∧ Below w.heap.size w w1 ∧ Lines w w1 v (xs.map nm) (xs.map wd) y xs.length K o := by
  have hlen : s.data.toList.length = s.size := by rw [Array.length_toList]; rfl
  obtain ⟨ads, a1, a2, a3, a4⟩ := Lk.ArgsAre.handed (τ := ax) (Kw := kw) (S := fun b => b < w.heap.size) (Sb := fun _ => False) (ps := [(.s, .r)]) (x := (s.data.toList, ())) (vals := [.string s]) hn (by
    have := (show Lk.ArgsAre (τ := ax) (fun b => b < w.heap.size) (fun b => b < w.heap.size) w [(.s, .r)] (s.data.toList, ()) [.string s] from ⟨_, _, (), rfl, ⟨rfl, by show s.data.toList.length ≤ Lk.big; omega⟩, rfl, rfl, rfl⟩)
    simpa using this)
  have := hok (s.data.toList, ()) (xs, p, q, ()) hF w (fun b => b < w.heap.size) (fun _ => False) ads hK2 (fun b h => h.elim id False.elim) a1 a3
  rw [a2, a4] at this
  refine this.mono ?_
  rintro e w1 ⟨v, rfl, hext, ⟨rds, S', h1, h2, h3, h4, h5, h6, h7, h8, _⟩⟩
  obtain ⟨sh, r1, rfl, k1⟩ := ads_cons h1
  obtain ⟨sha, r2, rfl, k2⟩ := ads_cons k1
  obtain ⟨shb, r3, rfl, k3⟩ := ads_cons k2
  obtain rfl := ads_nil k3
  have hh : Lk.hold ax S' S' w1 (.l t) (.o m) xs sh := h5 _ (List.mem_cons_self ..)
  have hbl : Lk.blsOf [(⟨.l t, .o m, xs, sh⟩ : Lk.DV), ⟨.i .i64, .r, p, sha⟩, ⟨.i .i64, .r, q, shb⟩] = Lk.bl (.l t) (.o m) xs sh := by
    simp [Lk.blsOf, Lk.DV.bl, Lk.bl]
  rw [hbl] at h6 h7
  obtain ⟨y, hy⟩ := lines_of (w := w) nm wd sw hK (hcells S' w1) hh h6 fun b hb => by
    obtain ⟨q1, q2, _⟩ := h7 b hb
    exact ⟨q1.elim (by simp) id, q2⟩
  refine ⟨sh.hd, y, ?_, below_of_ext hext, hy⟩
  have hv : v = .tuple #[Lk.DV.val ax ⟨.l t, .o m, xs, sh⟩, .int .i64 p, .int .i64 q] := h8
  rw [hv]; rfl

theorem law_walk (n5 n6 n7 : Nat) (s : ByteArray) (hs : s.size ≤ Lk.big) (w : World) (hT : Tabs w) (hn : 4 ≤ w.heap.size) (xs : List (Lk.E lineT)) (rs : List (Lk.E refT)) (p q : Int)
    (h5 : parse5 n5 s.data.toList = some (xs, p, q, ())) (h6 : Lk.F ScG.G n6 6 (s.data.toList, ()) = some (rs, p, q, ())) (h7 : Lk.F ScG.G n7 7 () = some (true, ()))
    (hw : rs.map (fun r => r.2.1) = xs.map (fun x => x.1)) (hws : rs.map (fun r => r.2.2.1) = xs.map (fun x => x.2.1)) (hN : xs.length < 1073741824) (hlen : ∀ x ∈ xs, List.length x.2.1 ≤ 9223372036854775807) :
    Calls Tryd.prog 3 #[.string s] w fun e w' => e = .returned (.bool true) ∧ Below w.heap.size w w' := by
  have ok6 : Lk.FnOk (τ := ax) (Kw := kw) Tryd.prog 6 ⟨[(.s, .r)], [(.l refT, .o refM), (.i .i64, .r), (.i .i64, .r)], 3⟩ (Lk.F ScG.G n6 6) := ScGP.ok n6 6
  have ok7 : Lk.FnOk (τ := ax) (Kw := kw) Tryd.prog 7 ⟨[], [(.b, .r)], 1⟩ (Lk.F ScG.G n7 7) := ScGP.ok n7 7
  have hrl : rs.length = xs.length := by have := congrArg List.length hw; simpa using this
  have keepT : ∀ {w1 : World}, Below w.heap.size w w1 → Tabs w1 ∧ 4 ≤ w1.heap.size := fun hb => ⟨tabs_keep w _ [] hT (by simp) (ext_of_below hb), Nat.le_trans hn hb.size⟩
  have c5 : ∀ w1, Below w.heap.size w w1 → Calls Tryd.prog 5 #[.string s] w1 fun e w2 => ∃ v y, e = .returned (.tuple #[v, .int .i64 p, .int .i64 q]) ∧ Below w1.heap.size w1 w2 ∧ Lines w1 w2 v (xs.map fun x => x.1) (xs.map fun x => x.2.1) y xs.length 2 0 := fun w1 hb =>
    call_lines (ok_parse n5) (fun x => x.1) (fun x => x.2.1) (fun z => z.2.1) rfl (fun S w1 x z h => line_cells x z h) s hs w1 (keepT hb).1 (keepT hb).2 h5
  have c6 : ∀ w1, Below w.heap.size w w1 → Calls Tryd.prog 6 #[.string s] w1 fun e w2 => ∃ v y, e = .returned (.tuple #[v, .int .i64 p, .int .i64 q]) ∧ Below w1.heap.size w1 w2 ∧ Lines w1 w2 v (rs.map fun x => x.2.1) (rs.map fun x => x.2.2.1) y rs.length 3 1 := fun w1 hb =>
    call_lines ok6 (fun x => x.2.1) (fun x => x.2.2.1) (fun z => z.2.2.1) rfl (fun S w1 x z h => ref_cells x z h) s hs w1 (keepT hb).1 (keepT hb).2 h6
  refine parses_walk w s xs.length hN p q ?_ fun w1 hb => ?_
  · refine (c5 w (Below.refl _ _)).mono ?_
    rintro e w1 ⟨v, l, rfl, hb1, hl⟩
    refine ⟨v, rfl, (c5 w1 hb1).mono ?_⟩
    rintro e w2 ⟨v2, a, rfl, hb2, ha⟩
    have hb2' := hb1.trans (hb2.mono hb1.size)
    refine ⟨v2, p, q, rfl, (c6 w2 hb2').mono ?_⟩
    rintro e w3 ⟨v3, x, rfl, hb3, hx⟩
    rw [hw, hws, hrl] at hx
    have s1 := hb1.size
    have s2 := hb2.size
    have s3 := hb3.size
    refine ⟨v3, rfl, l, a, x, _, _, _, hl.val, ha.val, hx.val, hl.keep (hb2.trans (hb3.mono hb2.size)), ha.keep hb3, hx.laid, ⟨fun i hi h0 => ?_, fun i hi h0 => ?_, hl.inj, ha.inj, fun i j hi hj h0 h1 e => ?_, fun i j hi hj h0 h1 e => ?_, fun i j hi hj h0 h1 e => ?_⟩, fun i hi => ?_, hb2'.trans (hb3.mono hb2'.size)⟩
    · obtain ⟨b1, b2, b3⟩ := hl.rows i hi h0
      have a1 := ha.head (by omega)
      have x1 := hx.head (by omega)
      exact ⟨b1, b3, by omega, by omega⟩
    · obtain ⟨b1, b2, b3⟩ := ha.rows i hi h0
      have l1 := hl.head (by omega)
      have x1 := hx.head (by omega)
      exact ⟨by omega, by omega, b3, by omega⟩
    · have := hl.rows i hi h0
      have := ha.rows j hj h1
      omega
    · have := hl.rows i hi h0
      have := hx.rows j hj h1
      omega
    · have := ha.rows i hi h0
      have := hx.rows j hj h1
      omega
    · have hg : (xs.map fun x => x.2.1)[i]? = some (xs[i].2.1) := by rw [List.getElem?_map, List.getElem?_eq_getElem hi]; rfl
      show (List.getD (xs.map fun x => x.2.1) i []).length ≤ _
      rw [List.getD_eq_getElem?_getD, hg]
      exact hlen _ (List.getElem_mem hi)
  · obtain ⟨k1, k2⟩ := keepT hb
    have := Lk.calls_bool ok7 h7 (show kw.p w1 from k1) k2 (vals := []) rfl
    simpa using this
end Go.Proofs.YthfhbbhacaejoaaDoor

