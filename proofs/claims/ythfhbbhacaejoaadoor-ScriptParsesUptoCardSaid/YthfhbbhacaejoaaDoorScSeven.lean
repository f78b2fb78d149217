import Derived.Test.YthfhbbhacaejoaaDoorScSix
import Derived.IntWalk
import Derived.Test.YthfhbbhacaejoaaDoorScFive
set_option linter.all false
namespace NsG
open Go Lk

theorem sel_t {α : Type} (x y : α) : sel true x y = x := rfl
theorem sel_f {α : Type} (x y : α) : sel false x y = y := rfl
theorem sel_dec {α : Type} (p : Prop) [Decidable p] (x y : α) : sel (decide p) x y = if p then x else y := by
  by_cases h : p <;> simp [sel, h]
theorem ob_some {α β : Type} (a : α) (f : α → Option β) : obind (some a) f = f a := rfl

theorem b_lt (a b : UInt8) : decide ((a.toNat : Int) < (b.toNat : Int)) = decide (a < b) := by
  apply decide_eq_decide.2
  rw [UInt8.lt_iff_toNat_lt]
  exact Int.ofNat_lt
theorem b_ltP (a b : UInt8) : ((a.toNat : Int) < (b.toNat : Int)) = (a < b) := by
  rw [UInt8.lt_iff_toNat_lt]
  exact propext Int.ofNat_lt
theorem b_eq (a b : UInt8) : ((a.toNat : Int) == (b.toNat : Int)) = (a == b) := by
  rw [Bool.eq_iff_iff]
  simp only [beq_iff_eq, Int.ofNat_inj, UInt8.toNat_inj]
theorem b_ne (a b : UInt8) : ((a.toNat : Int) != (b.toNat : Int)) = (a != b) := by
  simp only [bne, b_eq]

theorem wrap64 {x : Int} (h1 : -9223372036854775808 ≤ x) (h2 : x ≤ 9223372036854775807) : IntKind.i64.wrap x = x := IntWalk.i64_in x ⟨h1, h2⟩

inductive Wh
  | out | bare (s : Nat) | quo (s : Nat) | clo (s : Nat)

abbrev Res := List (List UInt8) × Int × Int × Unit
def bad (k : Nat) : Res := ([], (k : Int), 61, ())
def ctl (c : UInt8) : Bool := decide (c < 32) || c == 127
def cut (line : List UInt8) (s i : Nat) : List UInt8 := ext line (s : Int) (i : Int)

def run (line : List UInt8) : Wh → Nat → List UInt8 → List (List UInt8) → Res
  | .out, _, [], ws => (ws, 0, 0, ())
  | .bare s, i, [], ws => (ws ++ [cut line s i], 0, 0, ())
  | .quo s, _, [], _ => bad s
  | .clo s, i, [], ws => (ws ++ [cut line s i], 0, 0, ())
  | .out, i, c :: r, ws => bif ctl c then bad i else bif c == 32 then run line .out (i + 1) r ws else bif c == 34 then run line (.quo i) (i + 1) r ws else run line (.bare i) (i + 1) r ws
  | .bare s, i, c :: r, ws => bif ctl c then bad i else bif c == 32 then run line .out (i + 1) r (ws ++ [cut line s i]) else run line (.bare s) (i + 1) r ws
  | .quo s, i, [c], ws => bif ctl c then bad i else bif c == 92 then bad s else bif c == 34 then run line (.clo s) (i + 1) [] ws else run line (.quo s) (i + 1) [] ws
  | .quo s, i, c :: d :: r, ws => bif ctl c then bad i else bif c == 92 then (bif ctl d then bad (i + 1) else run line (.quo s) (i + 2) r ws) else bif c == 34 then run line (.clo s) (i + 1) (d :: r) ws else run line (.quo s) (i + 1) (d :: r) ws
  | .clo s, i, c :: r, ws => bif ctl c then bad i else bif c == 32 then run line .out (i + 1) r (ws ++ [cut line s i]) else bad i

def Wh.open : Wh → Int
  | .out => -1 | .bare s => s | .quo s => s | .clo s => s
def Wh.isQ : Wh → Bool | .quo _ => true | _ => false
def Wh.isC : Wh → Bool | .clo _ => true | _ => false
end NsG

namespace NsG
open Go Lk

def Wh.le (i : Nat) : Wh → Prop
  | .out => True | .bare s => s ≤ i | .quo s => s ≤ i | .clo s => s ≤ i

theorem drop_cons {line : List UInt8} {i : Nat} {c : UInt8} {r : List UInt8} (h : line.drop i = c :: r) : line.getD i 0 = c ∧ i < line.length ∧ line.drop (i + 1) = r := by
  have hl : i < line.length := by
    have := congrArg List.length h
    simp at this; omega
  refine ⟨?_, hl, ?_⟩
  · have := congrArg (·[0]?) h
    simp only [List.getElem?_drop, List.getElem?_cons_zero, Nat.add_zero] at this
    simp [List.getD_eq_getElem?_getD, this]
  · have := congrArg List.tail h
    simpa [List.tail_drop] using this

theorem run_ctl {line : List UInt8} {wh : Wh} {i : Nat} {c : UInt8} {r : List UInt8} {ws : List (List UInt8)} (h : ctl c = true) : run line wh i (c :: r) ws = bad i := by
  cases wh with
  | quo s => cases r <;> simp [run, h]
  | _ => simp [run, h]

theorem p5_ok (X : Fns) (line : List UInt8) (hlen : line.length ≤ 1073741824) : ∀ (N : Nat) (rest : List UInt8) (i : Nat) (ws : List (List UInt8)) (wh : Wh) (j n0 : Nat), rest.length ≤ N →
    line.drop i = rest → i ≤ line.length → wh.le i → ws.length + rest.length + (match wh with | .out => 0 | _ => 1) ≤ 1073741824 → 2 * rest.length + 10 ≤ j → 1 ≤ n0 →
    X.p5_6 j n0 line ws wh.open wh.isQ wh.isC (i : Int) = some (run line wh i rest ws) := by
  intro N
  induction N with
  | zero =>
    intro rest i ws wh j n0 hN hd hi hle hws hj hn
    obtain ⟨j, rfl⟩ : ∃ k, j = k + 1 := ⟨j - 1, by omega⟩
    obtain ⟨n0, rfl⟩ : ∃ k, n0 = k + 1 := ⟨n0 - 1, by omega⟩
    have hr : rest = [] := List.eq_nil_of_length_eq_zero (by omega)
    subst hr
    have hil : i = line.length := by
      have := congrArg List.length hd
      simp at this; omega
    subst hil
    rw [X.p5_6_eq]
    cases wh with
    | out => simp [Wh.open, Wh.isQ, Wh.isC, sel_dec, sel_t, sel_f, X.p5_30_eq, run]
    | bare s =>
      simp only [Wh.le] at hle
      simp [Wh.open, Wh.isQ, Wh.isC, sel_dec, sel_t, sel_f, X.p5_30_eq, run, cut, hle]
      simp at hws; omega
    | quo s => simp [Wh.open, Wh.isQ, Wh.isC, sel_dec, sel_t, sel_f, X.p5_30_eq, run, bad]
    | clo s =>
      simp only [Wh.le] at hle
      simp [Wh.open, Wh.isQ, Wh.isC, sel_dec, sel_t, sel_f, X.p5_30_eq, run, cut, hle]
      simp at hws; omega
  | succ N ih =>
    intro rest i ws wh j n0 hN hd hi hle hws hj hn
    cases rest with
    | nil =>
      exact ih [] i ws wh j n0 (by simp) hd hi hle hws hj hn
    | cons c r =>
    obtain ⟨j, rfl⟩ : ∃ k, j = k + 10 := ⟨j - 10, by omega⟩
    obtain ⟨hc, hil, hr⟩ := drop_cons hd
    simp only [List.length_cons] at hj hN hws
    have w1 : IntKind.i64.wrap ((i : Int) + 1) = ((i + 1 : Nat) : Int) := by rw [wrap64 (by omega) (by omega)]; omega
    have h0 : (0 : Int) ≤ (i : Int) := by omega
    have hlt : (i : Int) < (line.length : Int) := by omega
    have next : ∀ (ws' : List (List UInt8)) (wh' : Wh), wh'.le (i + 1) → ws'.length + r.length + (match wh' with | .out => 0 | _ => 1) ≤ 1073741824 →
        X.p5_6 (j + 9) n0 line ws' wh'.open wh'.isQ wh'.isC ((i + 1 : Nat) : Int) = some (run line wh' (i + 1) r ws') :=
      fun ws' wh' q1 q2 => ih r (i + 1) ws' wh' (j + 9) n0 (by omega) hr (by omega) q1 q2 (by omega) hn
    rw [X.p5_6_eq]
    simp only [sel_dec, hlt, h0, if_true, b_lt, b_eq, b_ne, hc, Int.toNat_natCast]
    by_cases h32 : c < 32
    · rw [run_ctl (by simp [ctl, h32])]
      simp only [h32, if_true, X.p5_2058_eq, sel_t]; rfl
    by_cases h127 : c = 127
    · rw [run_ctl (by simp [ctl, h127])]
      subst h127
      simp only [h32, if_false, X.p5_2058_eq, sel_t, beq_self_eq_true]; rfl
    have hctl : ctl c = false := by simp [ctl, h32, h127]
    have h127' : (c == 127) = false := by simp [h127]
    simp only [h32, if_false, h127', sel_f]
    cases wh with
    | out =>
      simp only [Wh.isC, Wh.isQ, Wh.open, sel_f, X.p5_2058_eq, b_eq]
      by_cases hsp : c = 32
      · subst hsp
        simp only [beq_self_eq_true, sel_t, Bool.not_false, X.p5_2060_eq, sel_dec, X.p5_14_eq, X.p5_7_eq, w1]
        rw [if_neg (by omega)]
        have := next ws .out trivial (by simp only; omega)
        simp only [Wh.isC, Wh.isQ, Wh.open] at this
        rw [this]
        simp [run, hctl]
      · have hsp' : (c == 32) = false := by simp [hsp]
        simp only [hsp', sel_f, X.p5_2060_eq, sel_dec, X.p5_7_eq, w1, b_eq]
        rw [if_pos (by omega)]
        by_cases hq : c = 34
        · subst hq
          have := next ws (.quo i) (by simp [Wh.le]) (by simp only; simp only at hws; omega)
          simp only [Wh.isC, Wh.isQ, Wh.open] at this
          simp only [beq_self_eq_true]
          rw [this]
          simp [run, hctl]
        · have hq' : (c == 34) = false := by simp [hq]
          have := next ws (.bare i) (by simp [Wh.le]) (by simp only; simp only at hws; omega)
          simp only [Wh.isC, Wh.isQ, Wh.open] at this
          simp only [hq']
          rw [this]
          simp [run, hctl, hsp', hq']
    | bare s =>
      simp only [Wh.le] at hle
      simp only at hws
      simp only [Wh.isC, Wh.isQ, Wh.open, sel_f, X.p5_2058_eq, b_eq]
      by_cases hsp : c = 32
      · subst hsp
        simp only [beq_self_eq_true, sel_t, Bool.not_false, X.p5_2060_eq, sel_dec, X.p5_14_eq, X.p5_7_eq, w1]
        rw [if_pos (by omega), if_pos (by omega), if_pos (by omega), if_pos (by omega), if_pos (by omega), if_pos (by simp; omega)]
        have := next (ws ++ [cut line s i]) .out trivial (by simp; omega)
        simp only [Wh.isC, Wh.isQ, Wh.open, cut] at this
        rw [this]
        simp [run, hctl, cut]
      · have hsp' : (c == 32) = false := by simp [hsp]
        simp only [hsp', sel_f, X.p5_2060_eq, sel_dec, X.p5_7_eq, w1, b_eq, X.p5_2068_eq, X.p5_2072_eq]
        rw [if_neg (by omega)]
        have := next ws (.bare s) (by simp only [Wh.le]; omega) (by simp only; omega)
        simp only [Wh.isC, Wh.isQ, Wh.open] at this
        rw [this]
        simp [run, hctl, hsp']
    | clo s =>
      simp only [Wh.le] at hle
      simp only at hws
      simp only [Wh.isC, Wh.isQ, Wh.open, sel_t, X.p5_2058_eq, b_eq]
      by_cases hsp : c = 32
      · subst hsp
        simp only [bne_self_eq_false, beq_self_eq_true, sel_f, sel_t, Bool.not_false, X.p5_2060_eq, sel_dec, X.p5_14_eq, X.p5_7_eq, w1]
        rw [if_pos (by omega), if_pos (by omega), if_pos (by omega), if_pos (by omega), if_pos (by omega), if_pos (by simp; omega)]
        have := next (ws ++ [cut line s i]) .out trivial (by simp; omega)
        simp only [Wh.isC, Wh.isQ, Wh.open, cut] at this
        rw [this]
        simp [run, hctl, cut]
      · have hsp' : (c == 32) = false := by simp [hsp]
        have hsp2 : (c != 32) = true := by simp [hsp]
        simp [hsp2, sel_t, run, hctl, hsp', bad]
    | quo s =>
      simp only [Wh.le] at hle
      simp only at hws
      simp only [Wh.isC, Wh.isQ, Wh.open, sel_f, X.p5_2058_eq, b_eq]
      have hstep : sel (c == 32) (X.p5_2060 (j + 8) n0 (j + 9) (j + 8) line ws (↑s) true false (↑i) c (!true)) (X.p5_2060 (j + 8) n0 (j + 9) (j + 8) line ws (↑s) true false (↑i) c false) = X.p5_2060 (j + 8) n0 (j + 9) (j + 8) line ws (↑s) true false (↑i) c false := by
        cases (c == 32) <;> rfl
      rw [hstep]
      simp only [sel_f, sel_t, X.p5_2060_eq, sel_dec, b_eq, X.p5_2068_eq]
      rw [if_neg (by omega)]
      by_cases hbs : c = 92
      · subst hbs
        simp only [beq_self_eq_true, sel_t, w1]
        have w2 : IntKind.i64.wrap (((i + 1 : Nat) : Int) + 1) = ((i + 2 : Nat) : Int) := by rw [wrap64 (by omega) (by omega)]; omega
        cases r with
        | nil =>
          have hl : line.length = i + 1 := by
            have := congrArg List.length hr
            simp at this; omega
          rw [if_neg (by omega)]
          simp only [X.p5_2070_eq, sel_f, X.p5_7_eq, w2]
          rw [X.p5_6_eq]
          simp only [sel_dec]
          rw [if_neg (by omega)]
          simp [sel_t, run, hctl, bad]
        | cons d r =>
          obtain ⟨hd1, hil1, hr1⟩ := drop_cons hr
          have h01 : (0 : Int) ≤ ((i + 1 : Nat) : Int) := by omega
          have hlt1 : ((i + 1 : Nat) : Int) < (line.length : Int) := by omega
          simp only [if_pos h01, if_pos hlt1, Int.toNat_natCast, hd1, b_lt, b_ltP, b_eq, X.p5_2070_eq, sel_t, X.p5_7_eq, w2]
          by_cases hd32 : d < 32
          · rw [if_pos hd32]
            simp [run, hctl, ctl, hd32, bad]
          · rw [if_neg hd32]
            by_cases hd127 : d = 127
            · subst hd127
              simp [run, hctl, ctl, bad, sel_t]
            · have hd127' : (d == 127) = false := by simp [hd127]
              have hctl' : ctl d = false := by simp [ctl, hd32, hd127]
              simp only [hd127', sel_f]
              simp only [List.length_cons] at hj hN hws
              have := ih r (i + 2) ws (.quo s) (j + 9) n0 (by omega) hr1 (by omega) (by simp only [Wh.le]; omega) (by simp only; omega) (by omega) hn
              simp only [Wh.isC, Wh.isQ, Wh.open] at this
              rw [this]
              simp [run, hctl, hctl']
      · have hbs' : (c == 92) = false := by simp [hbs]
        simp only [hbs', sel_f, X.p5_2072_eq, X.p5_7_eq, w1]
        by_cases hq : c = 34
        · subst hq
          have := next ws (.clo s) (by simp only [Wh.le]; omega) (by simp only; omega)
          simp only [Wh.isC, Wh.isQ, Wh.open] at this
          simp only [beq_self_eq_true, sel_t]
          rw [this]
          cases r <;> simp [run, hctl]
        · have hq' : (c == 34) = false := by simp [hq]
          have := next ws (.quo s) (by simp only [Wh.le]; omega) (by simp only; omega)
          simp only [Wh.isC, Wh.isQ, Wh.open] at this
          simp only [hq', sel_f]
          rw [this]
          cases r <;> simp [run, hctl, hbs', hq']
end NsG

namespace NsG
open Go Lk

def lt (a b : Nat) : Bool := Nat.blt a b
theorem lt_t {a b : Nat} (h : a < b) : lt a b = true := by simpa [lt, Nat.blt_eq] using h
theorem lt_f {a b : Nat} (h : ¬ a < b) : lt a b = false := by
  cases e : lt a b
  · rfl
  · exact absurd (by simpa [lt, Nat.blt_eq] using e) h

def lowR : List UInt8 → Nat → Nat
  | [], i => i
  | c :: r, i => bif ctl c then i else lowR r (i + 1)

theorem lowR_ge : ∀ (r : List UInt8) (i : Nat), i ≤ lowR r i
  | [], i => Nat.le_refl i
  | c :: r, i => by
    have := lowR_ge r (i + 1)
    simp only [lowR]
    cases ctl c <;> simp <;> omega
theorem lowR_le : ∀ (r : List UInt8) (i : Nat), lowR r i ≤ i + r.length
  | [], i => Nat.le_refl i
  | c :: r, i => by
    have := lowR_le r (i + 1)
    simp only [lowR, List.length_cons]
    cases ctl c <;> simp <;> omega

def endsR : List UInt8 → Nat → Nat × Bool
  | [], _ => (0, false)
  | [c], i => bif c == 92 then (0, false) else bif c == 34 then (i + 1, true) else (0, false)
  | c :: d :: r, i => bif c == 92 then endsR r (i + 2) else bif c == 34 then (i + 1, true) else endsR (d :: r) (i + 1)

theorem endsR_gt : ∀ (N : Nat) (r : List UInt8) (i : Nat), r.length ≤ N → (endsR r i).2 = true → i < (endsR r i).1 ∧ (endsR r i).1 ≤ i + r.length := by
  intro N
  induction N with
  | zero => intro r i h h2; rw [List.eq_nil_of_length_eq_zero (Nat.le_zero.1 h)] at h2; simp [endsR] at h2
  | succ N ih =>
    intro r i h h2
    match r with
    | [] => simp [endsR] at h2
    | [c] =>
      simp only [endsR] at h2 ⊢
      cases h92 : (c == 92) <;> cases h34 : (c == 34) <;> simp_all
    | c :: d :: r =>
      simp only [endsR, List.length_cons] at h h2 ⊢
      cases h92 : (c == 92)
      · cases h34 : (c == 34)
        · simp only [h92, h34, cond_false] at h2 ⊢
          have := ih (d :: r) (i + 1) (by simp; omega) h2
          simp only [List.length_cons] at this
          omega
        · simp only [cond_false, cond_true]; omega
      · simp only [h92, cond_true] at h2 ⊢
        have := ih r (i + 2) (by omega) h2
        omega

theorem run_quo (line : List UInt8) (s : Nat) (ws : List (List UInt8)) : ∀ (N : Nat) (r : List UInt8) (i : Nat), r.length ≤ N → line.drop i = r → i ≤ line.length →
    run line (.quo s) i r ws = bif (endsR r i).2 then (bif lt (lowR r i) (endsR r i).1 then bad (lowR r i) else run line (.clo s) (endsR r i).1 (line.drop (endsR r i).1) ws)
      else (bif lt (lowR r i) line.length then bad (lowR r i) else bad s) := by
  intro N
  induction N with
  | zero =>
    intro r i h hd hi
    rw [List.eq_nil_of_length_eq_zero (Nat.le_zero.1 h)] at hd ⊢
    have := congrArg List.length hd
    simp at this
    simp only [run, endsR, cond_false]
    rw [show lowR [] i = i from rfl, lt_f (by omega)]; rfl
  | succ N ih =>
    intro r i h hd hi
    match r with
    | [] =>
      have := congrArg List.length hd
      simp at this
      simp only [run, endsR, cond_false]
      rw [show lowR [] i = i from rfl, lt_f (by omega)]; rfl
    | [c] =>
      obtain ⟨hc, hil, hr⟩ := drop_cons hd
      have hl := congrArg List.length hd
      simp at hl
      simp only [run, endsR]
      cases hct : ctl c
      · have el : lowR [c] i = i + 1 := by simp only [lowR, hct, cond_false]
        rw [el]
        cases h92 : (c == 92)
        · cases h34 : (c == 34)
          · simp only [cond_false]
            rw [lt_f (by omega)]
            simp
          · simp only [cond_false, cond_true]
            rw [lt_f (by omega), hr]; rfl
        · simp only [cond_false, cond_true]
          rw [lt_f (by omega)]; rfl
      · have h92 : (c == 92) = false := by
          simp only [ctl, Bool.or_eq_true, decide_eq_true_eq, beq_iff_eq] at hct
          rw [beq_eq_false_iff_ne]; intro e; subst e; rcases hct with h | h <;> exact absurd h (by decide)
        have h34 : (c == 34) = false := by
          simp only [ctl, Bool.or_eq_true, decide_eq_true_eq, beq_iff_eq] at hct
          rw [beq_eq_false_iff_ne]; intro e; subst e; rcases hct with h | h <;> exact absurd h (by decide)
        have el : lowR [c] i = i := by simp only [lowR, hct, cond_true]
        rw [el]
        simp only [h92, h34, cond_false, cond_true]
        rw [lt_t (by omega)]; rfl
    | c :: d :: r =>
      obtain ⟨hc, hil, hr⟩ := drop_cons hd
      obtain ⟨hc2, hil2, hr2⟩ := drop_cons hr
      simp only [List.length_cons] at h
      cases hct : ctl c
      · cases h92 : (c == 92)
        · cases h34 : (c == 34)
          · have := ih (d :: r) (i + 1) (by simp only [List.length_cons]; omega) hr (by omega)
            simp only [run, endsR, hct, h92, h34, cond_false] at this ⊢
            have el : lowR (c :: d :: r) i = lowR (d :: r) (i + 1) := by simp only [lowR, hct, cond_false]
            rw [this, el]
          · simp only [run, endsR, hct, h92, h34, cond_false, cond_true]
            have e : lowR (c :: d :: r) i = lowR (d :: r) (i + 1) := by simp only [lowR, hct, cond_false]
            have := lowR_ge (d :: r) (i + 1)
            rw [e, lt_f (by omega), hr]; rfl
        · have := ih r (i + 2) (by omega) hr2 (by omega)
          simp only [run, endsR, hct, h92, cond_false, cond_true]
          cases hctd : ctl d
          · have el : lowR (c :: d :: r) i = lowR r (i + 2) := by simp only [lowR, hct, hctd, cond_false]
            rw [el]; simp only [cond_false]; exact this
          · have el : lowR (c :: d :: r) i = i + 1 := by simp only [lowR, hct, hctd, cond_false, cond_true]
            rw [el]; simp only [cond_true]
            cases he : (endsR r (i + 2)).2
            · simp only [cond_false]; rw [lt_t (by omega)]; rfl
            · have := (endsR_gt _ r (i + 2) (Nat.le_refl _) he).1
              simp only [cond_true]; rw [lt_t (by omega)]; rfl
      · have h92 : (c == 92) = false := by
          simp only [ctl, Bool.or_eq_true, decide_eq_true_eq, beq_iff_eq] at hct
          rw [beq_eq_false_iff_ne]; intro e; subst e; rcases hct with h | h <;> exact absurd h (by decide)
        have h34 : (c == 34) = false := by
          simp only [ctl, Bool.or_eq_true, decide_eq_true_eq, beq_iff_eq] at hct
          rw [beq_eq_false_iff_ne]; intro e; subst e; rcases hct with h | h <;> exact absurd h (by decide)
        have el : lowR (c :: d :: r) i = i := by simp only [lowR, hct, cond_true]
        rw [el]
        simp only [run, endsR, hct, h92, h34, cond_false, cond_true]
        cases he : (endsR (d :: r) (i + 1)).2
        · simp only [cond_false]; rw [lt_t (by omega)]; rfl
        · have := (endsR_gt _ (d :: r) (i + 1) (Nat.le_refl _) he).1
          simp only [cond_true]; rw [lt_t (by omega)]; rfl

theorem f10_ok (X : Fns) (line : List UInt8) (hlen : line.length ≤ 1073741824) : ∀ (N : Nat) (r : List UInt8) (i j n0 : Nat), r.length ≤ N → line.drop i = r → i ≤ line.length + 1 → r.length + 2 ≤ j → 1 ≤ n0 →
    X.p10_2 j n0 line (i : Int) = some (((endsR r i).1 : Int), (endsR r i).2, ()) := by
  intro N
  induction N with
  | zero =>
    intro r i j n0 h hd hi hj hn
    obtain ⟨j, rfl⟩ : ∃ k, j = k + 1 := ⟨j - 1, by omega⟩
    rw [List.eq_nil_of_length_eq_zero (Nat.le_zero.1 h)] at hd ⊢
    have := congrArg List.length hd
    simp at this
    rw [X.p10_2_eq, sel_dec, if_neg (by omega)]
    rfl
  | succ N ih =>
    intro r i j n0 h hd hi hj hn
    match r with
    | [] => exact ih [] i j n0 (by simp) hd hi hj hn
    | c :: r =>
      obtain ⟨hc, hil, hr⟩ := drop_cons hd
      simp only [List.length_cons] at h hj
      obtain ⟨j, rfl⟩ : ∃ k, j = k + 2 := ⟨j - 2, by omega⟩
      obtain ⟨n0, rfl⟩ : ∃ k, n0 = k + 1 := ⟨n0 - 1, by omega⟩
      have w1 : IntKind.i64.wrap ((i : Int) + 1) = ((i + 1 : Nat) : Int) := by rw [wrap64 (by omega) (by omega)]; omega
      have w2 : IntKind.i64.wrap (((i + 1 : Nat) : Int) + 1) = ((i + 2 : Nat) : Int) := by rw [wrap64 (by omega) (by omega)]; omega
      rw [X.p10_2_eq]
      simp only [sel_dec]
      rw [if_pos (by omega), if_pos (by omega), if_pos (by omega)]
      simp only [Int.toNat_natCast, hc, b_eq, X.p10_3_eq, w1, w2]
      cases h92 : (c == 92)
      · simp only [sel_f]
        cases h34 : (c == 34)
        · simp only [sel_f]
          rw [ih r (i + 1) (j + 1) (n0 + 1) (by omega) hr (by omega) (by omega) (by omega)]
          cases r <;> simp only [endsR, h92, h34, cond_false]
        · simp only [sel_t]
          cases r <;> simp only [endsR, h92, h34, cond_false, cond_true]
      · simp only [sel_t]
        match r with
        | [] =>
          have hl := congrArg List.length hr
          simp at hl
          rw [ih [] (i + 2) (j + 1) (n0 + 1) (by simp) (by rw [List.drop_eq_nil_iff]; omega) (by omega) (by simp at hj ⊢; omega) (by omega)]
          simp only [endsR, h92, cond_true]
        | d :: r =>
          obtain ⟨hc2, hil2, hr2⟩ := drop_cons hr
          simp only [List.length_cons] at h hj
          rw [ih r (i + 2) (j + 1) (n0 + 1) (by omega) hr2 (by omega) (by omega) (by omega)]
          simp only [endsR, h92, cond_true]
end NsG

namespace NsG
open Go Lk
variable (X : Fns) (line : List UInt8) (hlen : line.length ≤ 1073741824)
include hlen

omit hlen in
theorem p4_23_ok (j n0 n1 n2 : Nat) (ws : List (List UInt8)) (v5 v6 : Int) (s e : Nat) (h1 : s ≤ e) (h2 : e ≤ line.length) (h3 : ws.length + 1 ≤ 1073741824) (hj : 1 ≤ j) :
    X.p4_23 j n0 n1 n2 line ws v5 v6 (s : Int) (e : Int) = X.p4_10 n2 n0 n1 line (ws ++ [cut line s e]) v5 v6 (e : Int) := by
  obtain ⟨j, rfl⟩ : ∃ k, j = k + 1 := ⟨j - 1, by omega⟩
  rw [X.p4_23_eq]
  simp only [sel_dec]
  rw [if_pos (by omega), if_pos (by omega), if_pos (by omega), if_pos (by omega), if_pos (by simpa using h3)]
  rfl

theorem f10_at (i j : Nat) (c : UInt8) (r : List UInt8) (hd : line.drop i = c :: r) (hj : r.length + 3 ≤ j) :
    X.f10 j line (i : Int) = some (((endsR r (i + 1)).1 : Int), (endsR r (i + 1)).2, ()) := by
  obtain ⟨j, rfl⟩ : ∃ k, j = k + 1 := ⟨j - 1, by omega⟩
  obtain ⟨_, hil, hr⟩ := drop_cons hd
  have w1 : IntKind.i64.wrap ((i : Int) + 1) = ((i + 1 : Nat) : Int) := by rw [wrap64 (by omega) (by omega)]; omega
  rw [X.f10_eq, w1, f10_ok X line hlen _ r (i + 1) j j (Nat.le_refl _) hr (by omega) (by omega) (by omega)]

theorem behind (L : Nat) (hL : L < line.length) : ∀ (N : Nat),
    (∀ (rest : List UInt8) (i : Nat) (ws : List (List UInt8)) (j n0 n1 : Nat) (v5 : Int), rest.length ≤ N → line.drop i = rest → i ≤ line.length → L < i → ws.length + rest.length ≤ 1073741824 → rest.length + 7 ≤ j → 2 ≤ n1 →
      X.p4_10 j n0 n1 line ws v5 (L : Int) (i : Int) = some (bad L)) ∧
    (∀ (rest : List UInt8) (s e : Nat) (ws : List (List UInt8)) (j n0 n1 n2 : Nat) (v5 : Int), rest.length ≤ N → line.drop e = rest → e ≤ line.length → s ≤ e → L < e → ws.length + 1 + rest.length ≤ 1073741824 → rest.length + 6 ≤ j → rest.length + 7 ≤ n2 → 2 ≤ n1 →
      X.p4_21 j n0 n1 n2 line ws v5 (L : Int) (s : Int) (e : Int) = some (bad L)) := by
  intro N
  induction N with
  | zero =>
    have one : ∀ (rest : List UInt8) (i : Nat) (ws : List (List UInt8)) (j n0 n1 : Nat) (v5 : Int), rest.length ≤ 0 → line.drop i = rest → i ≤ line.length → L < i → ws.length + rest.length ≤ 1073741824 → rest.length + 7 ≤ j → 2 ≤ n1 →
      X.p4_10 j n0 n1 line ws v5 (L : Int) (i : Int) = some (bad L) := by
      intro rest i ws j n0 n1 v5 h hd hi hLi hws hj hn
      obtain ⟨j, rfl⟩ : ∃ k, j = k + 1 := ⟨j - 1, by omega⟩
      obtain ⟨n1, rfl⟩ : ∃ k, n1 = k + 1 := ⟨n1 - 1, by omega⟩
      have := congrArg List.length hd
      simp at this
      rw [X.p4_10_eq, sel_dec, if_neg (by omega), X.p4_25_eq, sel_dec, if_pos (by omega)]
      rfl
    refine ⟨one, ?_⟩
    intro rest s e ws j n0 n1 n2 v5 h hd he hs hLe hws hj hn2 hn1
    obtain ⟨j, rfl⟩ : ∃ k, j = k + 1 := ⟨j - 1, by omega⟩
    have := congrArg List.length hd
    simp at this
    rw [X.p4_21_eq, sel_dec, if_neg (by omega), p4_23_ok X line _ _ _ _ _ _ _ _ _ hs he (by omega) (by omega)]
    exact one rest e _ n2 n0 n1 v5 h hd he hLe (by simp; omega) hn2 hn1
  | succ N ih =>
    obtain ⟨ih1, ih2⟩ := ih
    have one : ∀ (rest : List UInt8) (i : Nat) (ws : List (List UInt8)) (j n0 n1 : Nat) (v5 : Int), rest.length ≤ N + 1 → line.drop i = rest → i ≤ line.length → L < i → ws.length + rest.length ≤ 1073741824 → rest.length + 7 ≤ j → 2 ≤ n1 →
      X.p4_10 j n0 n1 line ws v5 (L : Int) (i : Int) = some (bad L) := by
      intro rest i ws j n0 n1 v5 h hd hi hLi hws hj hn
      match rest with
      | [] => exact ih1 [] i ws j n0 n1 v5 (by simp) hd hi hLi hws hj hn
      | c :: r =>
        obtain ⟨hc, hil, hr⟩ := drop_cons hd
        simp only [List.length_cons] at h hj hws
        obtain ⟨j, rfl⟩ : ∃ k, j = k + 3 := ⟨j - 3, by omega⟩
        have w1 : IntKind.i64.wrap ((i : Int) + 1) = ((i + 1 : Nat) : Int) := by rw [wrap64 (by omega) (by omega)]; omega
        rw [X.p4_10_eq]
        simp only [sel_dec]
        rw [if_pos (by omega), if_pos (by omega), if_pos (by omega), if_pos (by omega), if_pos (by omega)]
        simp only [Int.toNat_natCast, hc, b_eq, w1]
        cases h32 : (c == 32)
        · simp only [sel_f]
          cases h34 : (c == 34)
          · simp only [sel_f]
            rw [X.p4_21_eq]
            simp only [sel_dec]
            rw [if_pos (by omega), if_pos (by omega), if_pos (by omega)]
            have n32 : (c != 32) = true := by simp only [bne, h32, Bool.not_false]
            simp only [Int.toNat_natCast, hc, b_ne, n32, sel_t, X.p4_22_eq, w1]
            exact ih2 r i (i + 1) ws (j + 1) n0 n1 (j + 2) v5 (by omega) hr (by omega) (by omega) (by omega) (by omega) (by omega) (by omega) hn
          · simp only [sel_t]
            rw [f10_at X line hlen i (j + 2) c r hd (by omega)]
            simp only [ob_some]
            cases he : (endsR r (i + 1)).2
            · simp only [Bool.not_false, sel_t]
              obtain ⟨n1, rfl⟩ : ∃ k, n1 = k + 1 := ⟨n1 - 1, by omega⟩
              rw [X.p4_25_eq, sel_dec, if_pos (by omega)]
              rfl
            · simp only [Bool.not_true, sel_f]
              obtain ⟨g1, g2⟩ := endsR_gt _ r (i + 1) (Nat.le_refl _) he
              have hl := congrArg List.length hr
              simp at hl
              generalize (endsR r (i + 1)).1 = k at g1 g2
              have next : X.p4_10 (j + 2) n0 n1 line (ws ++ [cut line i k]) v5 (L : Int) (k : Int) = some (bad L) := by
                exact ih1 (line.drop k) k _ (j + 2) n0 n1 v5 (by simp; omega) rfl (by omega) (by omega) (by simp; omega) (by simp; omega) hn
              by_cases hk : k < line.length
              · rw [if_pos (by omega), if_pos (by omega), if_pos (by omega)]
                simp only [Int.toNat_natCast, b_ne, X.p4_2067_eq]
                cases (line.getD k 0 != 32)
                · simp only [sel_f, X.p4_20_eq]
                  rw [p4_23_ok X line _ _ _ _ _ _ _ _ _ (by omega) (by omega) (by omega) (by omega)]
                  exact next
                · simp only [sel_t, imin]
                  rw [if_pos (by omega)]
                  rfl
              · rw [if_neg (by omega)]
                simp only [X.p4_2067_eq, sel_f, X.p4_20_eq]
                rw [p4_23_ok X line _ _ _ _ _ _ _ _ _ (by omega) (by omega) (by omega) (by omega)]
                exact next
        · simp only [sel_t]
          exact ih1 r (i + 1) ws (j + 2) n0 n1 v5 (by omega) hr (by omega) (by omega) (by omega) (by omega) hn
    refine ⟨one, ?_⟩
    intro rest s e ws j n0 n1 n2 v5 h hd he hs hLe hws hj hn2 hn1
    match rest with
    | [] => exact ih2 [] s e ws j n0 n1 n2 v5 (by simp) hd he hs hLe hws hj hn2 hn1
    | c :: r =>
      obtain ⟨hc, hil, hr⟩ := drop_cons hd
      obtain ⟨j, rfl⟩ : ∃ k, j = k + 2 := ⟨j - 2, by omega⟩
      have w1 : IntKind.i64.wrap ((e : Int) + 1) = ((e + 1 : Nat) : Int) := by rw [wrap64 (by omega) (by omega)]; omega
      rw [X.p4_21_eq]
      simp only [sel_dec]
      rw [if_pos (by omega), if_pos (by omega), if_pos (by omega)]
      simp only [Int.toNat_natCast, hc, b_ne]
      cases h32 : (c != 32)
      · simp only [sel_f]
        rw [p4_23_ok X line _ _ _ _ _ _ _ _ _ hs he (by omega) (by omega)]
        exact one (c :: r) e _ n2 n0 n1 v5 h hd he hLe (by simp at hws ⊢; omega) hn2 hn1
      · simp only [sel_t, X.p4_22_eq, w1]
        simp only [List.length_cons] at h hj hws hn2
        exact ih2 r s (e + 1) ws (j + 1) n0 n1 n2 v5 (by omega) hr (by omega) (by omega) (by omega) (by omega) (by omega) (by omega) hn1
omit hlen in
theorem lowR_skip : ∀ (n : Nat) (r : List UInt8) (i : Nat), ¬ lowR r i < i + n → lowR (r.drop n) (i + n) = lowR r i := by
  intro n
  induction n with
  | zero => intro r i h; rfl
  | succ n ih =>
    intro r i h
    match r with
    | [] => simp [lowR] at h
    | c :: r =>
      have hc : ctl c = false := by
        cases hc : ctl c
        · rfl
        · simp only [lowR, hc, cond_true] at h; omega
      have el : lowR (c :: r) i = lowR r (i + 1) := by simp only [lowR, hc, cond_false]
      rw [el] at h ⊢
      have := ih r (i + 1) (by omega)
      rw [List.drop_succ_cons, show i + (n + 1) = i + 1 + n by omega]
      exact this
omit hlen in
theorem ctl_not {c : UInt8} (h : ctl c = true) : (c == 32) = false ∧ (c == 34) = false := by
  simp only [ctl, Bool.or_eq_true, decide_eq_true_eq, beq_iff_eq] at h
  constructor <;> (rw [beq_eq_false_iff_ne]; intro e; subst e; rcases h with h | h <;> exact absurd h (by decide))

theorem front : ∀ (N : Nat),
    (∀ (rest : List UInt8) (i L : Nat) (ws : List (List UInt8)) (j n0 n1 : Nat), rest.length ≤ N → line.drop i = rest → i ≤ line.length → lowR rest i = L → ws.length + rest.length ≤ 1073741824 → rest.length + 7 ≤ j → 2 ≤ n1 →
      X.p4_10 j n0 n1 line ws (-1) (L : Int) (i : Int) = some (run line .out i rest ws)) ∧
    (∀ (rest : List UInt8) (s e L : Nat) (ws : List (List UInt8)) (j n0 n1 n2 : Nat), rest.length ≤ N → line.drop e = rest → e ≤ line.length → s ≤ e → lowR rest e = L → ws.length + 1 + rest.length ≤ 1073741824 → rest.length + 6 ≤ j → rest.length + 7 ≤ n2 → 2 ≤ n1 →
      X.p4_21 j n0 n1 n2 line ws (-1) (L : Int) (s : Int) (e : Int) = some (run line (.bare s) e rest ws)) := by
  intro N
  induction N with
  | zero =>
    have one : ∀ (rest : List UInt8) (i L : Nat) (ws : List (List UInt8)) (j n0 n1 : Nat), rest.length ≤ 0 → line.drop i = rest → i ≤ line.length → lowR rest i = L → ws.length + rest.length ≤ 1073741824 → rest.length + 7 ≤ j → 2 ≤ n1 →
      X.p4_10 j n0 n1 line ws (-1) (L : Int) (i : Int) = some (run line .out i rest ws) := by
      intro rest i L ws j n0 n1 h hd hi hL hws hj hn
      obtain ⟨j, rfl⟩ : ∃ k, j = k + 1 := ⟨j - 1, by omega⟩
      obtain ⟨n1, rfl⟩ : ∃ k, n1 = k + 1 := ⟨n1 - 1, by omega⟩
      rw [List.eq_nil_of_length_eq_zero (Nat.le_zero.1 h)] at hd hL ⊢
      have := congrArg List.length hd
      simp at this
      simp only [lowR] at hL
      rw [X.p4_10_eq, sel_dec, if_neg (by omega), X.p4_25_eq, sel_dec, if_neg (by omega), sel_dec, if_neg (by omega)]
      rfl
    refine ⟨one, ?_⟩
    intro rest s e L ws j n0 n1 n2 h hd he hs hL hws hj hn2 hn1
    obtain ⟨j, rfl⟩ : ∃ k, j = k + 1 := ⟨j - 1, by omega⟩
    rw [List.eq_nil_of_length_eq_zero (Nat.le_zero.1 h)] at hd hL hws hn2 ⊢
    have := congrArg List.length hd
    simp at this
    rw [X.p4_21_eq, sel_dec, if_neg (by omega), p4_23_ok X line _ _ _ _ _ _ _ _ _ hs he (by omega) (by omega)]
    rw [one [] e L _ n2 n0 n1 (by simp) hd he hL (by simp at hws ⊢; omega) hn2 hn1]
    rfl
  | succ N ih =>
    obtain ⟨ih1, ih2⟩ := ih
    have one : ∀ (rest : List UInt8) (i L : Nat) (ws : List (List UInt8)) (j n0 n1 : Nat), rest.length ≤ N + 1 → line.drop i = rest → i ≤ line.length → lowR rest i = L → ws.length + rest.length ≤ 1073741824 → rest.length + 7 ≤ j → 2 ≤ n1 →
      X.p4_10 j n0 n1 line ws (-1) (L : Int) (i : Int) = some (run line .out i rest ws) := by
      intro rest i L ws j n0 n1 h hd hi hL hws hj hn
      match rest with
      | [] => exact ih1 [] i L ws j n0 n1 (by simp) hd hi hL hws hj hn
      | c :: r =>
        obtain ⟨hc, hil, hr⟩ := drop_cons hd
        simp only [List.length_cons] at h hj hws
        obtain ⟨j, rfl⟩ : ∃ k, j = k + 3 := ⟨j - 3, by omega⟩
        have w1 : IntKind.i64.wrap ((i : Int) + 1) = ((i + 1 : Nat) : Int) := by rw [wrap64 (by omega) (by omega)]; omega
        rw [X.p4_10_eq]
        simp only [sel_dec]
        rw [if_pos (by omega), if_pos (by omega), if_pos (by omega), if_pos (by omega), if_pos (by omega)]
        simp only [Int.toNat_natCast, hc, b_eq, w1]
        cases hct : ctl c
        · have hL' : lowR r (i + 1) = L := by rw [← hL]; simp only [lowR, hct, cond_false]
          cases h32 : (c == 32)
          · simp only [sel_f]
            cases h34 : (c == 34)
            · simp only [sel_f]
              rw [X.p4_21_eq]
              simp only [sel_dec]
              rw [if_pos (by omega), if_pos (by omega), if_pos (by omega)]
              have n32 : (c != 32) = true := by simp only [bne, h32, Bool.not_false]
              simp only [Int.toNat_natCast, hc, b_ne, n32, sel_t, X.p4_22_eq, w1]
              rw [ih2 r i (i + 1) L ws (j + 1) n0 n1 (j + 2) (by omega) hr (by omega) (by omega) hL' (by omega) (by omega) (by omega) hn]
              simp only [run, hct, h32, h34, cond_false]
            · simp only [sel_t]
              rw [f10_at X line hlen i (j + 2) c r hd (by omega)]
              simp only [ob_some, run, hct, h32, h34, cond_false, cond_true]
              rw [run_quo line i ws _ r (i + 1) (Nat.le_refl _) hr (by omega), hL']
              cases he : (endsR r (i + 1)).2
              · simp only [Bool.not_false, sel_t, cond_false]
                obtain ⟨n1, rfl⟩ : ∃ k, n1 = k + 1 := ⟨n1 - 1, by omega⟩
                rw [X.p4_25_eq, sel_dec]
                by_cases hLl : L < line.length
                · rw [if_pos (by omega), lt_t hLl]; rfl
                · rw [if_neg (by omega), lt_f hLl, sel_dec, if_pos (by omega)]; rfl
              · simp only [Bool.not_true, sel_f, cond_true]
                obtain ⟨g1, g2⟩ := endsR_gt _ r (i + 1) (Nat.le_refl _) he
                have hl := congrArg List.length hr
                simp at hl
                have hsk := lowR_skip ((endsR r (i + 1)).1 - (i + 1)) r (i + 1)
                generalize (endsR r (i + 1)).1 = k at g1 g2 hsk
                rw [show i + 1 + (k - (i + 1)) = k by omega, hL', ← hr, List.drop_drop, show i + 1 + (k - (i + 1)) = k by omega] at hsk
                have hLle := lowR_le r (i + 1)
                rw [hL'] at hLle
                by_cases hLk : L < k
                · rw [lt_t hLk]
                  simp only [cond_true]
                  have next : X.p4_10 (j + 2) n0 n1 line (ws ++ [cut line i k]) (-1) (L : Int) (k : Int) = some (bad L) := by
                    exact (behind X line hlen L (by omega) _).1 (line.drop k) k _ (j + 2) n0 n1 (-1) (Nat.le_refl _) rfl (by omega) (by omega) (by simp; omega) (by simp; omega) hn
                  by_cases hk : k < line.length
                  · rw [if_pos (by omega), if_pos (by omega), if_pos (by omega)]
                    simp only [Int.toNat_natCast, b_ne, X.p4_2067_eq]
                    cases (line.getD k 0 != 32)
                    · simp only [sel_f, X.p4_20_eq]
                      rw [p4_23_ok X line _ _ _ _ _ _ _ _ _ (by omega) (by omega) (by omega) (by omega)]
                      exact next
                    · simp only [sel_t, imin]
                      rw [if_pos (by omega)]
                      rfl
                  · rw [if_neg (by omega)]
                    simp only [X.p4_2067_eq, sel_f, X.p4_20_eq]
                    rw [p4_23_ok X line _ _ _ _ _ _ _ _ _ (by omega) (by omega) (by omega) (by omega)]
                    exact next
                · rw [lt_f hLk]
                  simp only [cond_false]
                  have hsk' := hsk hLk
                  have next : X.p4_10 (j + 2) n0 n1 line (ws ++ [cut line i k]) (-1) (L : Int) (k : Int) = some (run line .out k (line.drop k) (ws ++ [cut line i k])) := by
                    exact ih1 (line.drop k) k L _ (j + 2) n0 n1 (by simp; omega) rfl (by omega) hsk' (by simp; omega) (by simp; omega) hn
                  by_cases hk : k < line.length
                  · rw [if_pos (by omega), if_pos (by omega), if_pos (by omega)]
                    obtain ⟨c', r', hd'⟩ : ∃ c' r', line.drop k = c' :: r' := by
                      cases hx : line.drop k with
                      | nil => have := congrArg List.length hx; simp at this; omega
                      | cons a b => exact ⟨a, b, rfl⟩
                    obtain ⟨hc', _, _⟩ := drop_cons hd'
                    rw [hd'] at next hsk' ⊢
                    simp only [Int.toNat_natCast, hc', b_ne, X.p4_2067_eq]
                    cases h32' : (c' == 32)
                    · simp only [bne, h32', Bool.not_false, sel_t, imin]
                      rw [if_neg (by omega)]
                      simp only [run, h32', cond_false]
                      cases ctl c' <;> rfl
                    · simp only [bne, h32', Bool.not_true, sel_f, X.p4_20_eq]
                      rw [p4_23_ok X line _ _ _ _ _ _ _ _ _ (by omega) (by omega) (by omega) (by omega), next]
                      simp only [run, h32', cond_true]
                  · rw [if_neg (by omega)]
                    simp only [X.p4_2067_eq, sel_f, X.p4_20_eq]
                    rw [p4_23_ok X line _ _ _ _ _ _ _ _ _ (by omega) (by omega) (by omega) (by omega), next]
                    have e0 : line.drop k = [] := by rw [List.drop_eq_nil_iff]; omega
                    rw [e0]
                    simp only [run]
          · simp only [sel_t]
            rw [ih1 r (i + 1) L ws (j + 2) n0 n1 (by omega) hr (by omega) hL' (by omega) (by omega) hn]
            simp only [run, hct, h32, cond_false, cond_true]
        · have hL' : i = L := by rw [← hL]; simp only [lowR, hct, cond_true]
          subst hL'
          obtain ⟨h32, h34⟩ := ctl_not hct
          rw [run_ctl hct]
          simp only [h32, h34, sel_f]
          rw [X.p4_21_eq]
          simp only [sel_dec]
          rw [if_pos (by omega), if_pos (by omega), if_pos (by omega)]
          have n32 : (c != 32) = true := by simp only [bne, h32, Bool.not_false]
          simp only [Int.toNat_natCast, hc, b_ne, n32, sel_t, X.p4_22_eq, w1]
          exact (behind X line hlen i (by omega) _).2 r i (i + 1) ws (j + 1) n0 n1 (j + 2) (-1) (Nat.le_refl _) hr (by omega) (by omega) (by omega) (by omega) (by omega) (by omega) hn
    refine ⟨one, ?_⟩
    intro rest s e L ws j n0 n1 n2 h hd he hs hL hws hj hn2 hn1
    match rest with
    | [] => exact ih2 [] s e L ws j n0 n1 n2 (by simp) hd he hs hL hws hj hn2 hn1
    | c :: r =>
      obtain ⟨hc, hil, hr⟩ := drop_cons hd
      obtain ⟨j, rfl⟩ : ∃ k, j = k + 2 := ⟨j - 2, by omega⟩
      have w1 : IntKind.i64.wrap ((e : Int) + 1) = ((e + 1 : Nat) : Int) := by rw [wrap64 (by omega) (by omega)]; omega
      rw [X.p4_21_eq]
      simp only [sel_dec]
      rw [if_pos (by omega), if_pos (by omega), if_pos (by omega)]
      simp only [Int.toNat_natCast, hc, b_ne]
      cases hct : ctl c
      · have hL' : lowR r (e + 1) = L := by rw [← hL]; simp only [lowR, hct, cond_false]
        cases h32 : (c == 32)
        · have n32 : (c != 32) = true := by simp only [bne, h32, Bool.not_false]
          simp only [n32, sel_t, X.p4_22_eq, w1]
          simp only [List.length_cons] at h hj hws hn2
          rw [ih2 r s (e + 1) L ws (j + 1) n0 n1 n2 (by omega) hr (by omega) (by omega) hL' (by omega) (by omega) (by omega) hn1]
          simp only [run, hct, h32, cond_false]
        · have n32 : (c != 32) = false := by simp only [bne, h32, Bool.not_true]
          simp only [n32, sel_f]
          rw [p4_23_ok X line _ _ _ _ _ _ _ _ _ hs he (by omega) (by omega)]
          rw [one (c :: r) e L _ n2 n0 n1 h hd he hL (by simp at hws ⊢; omega) hn2 hn1]
          simp only [run, hct, h32, cond_false, cond_true]
      · have hL' : e = L := by rw [← hL]; simp only [lowR, hct, cond_true]
        subst hL'
        obtain ⟨h32, h34⟩ := ctl_not hct
        rw [run_ctl hct]
        have n32 : (c != 32) = true := by simp only [bne, h32, Bool.not_false]
        simp only [n32, sel_t, X.p4_22_eq, w1]
        simp only [List.length_cons] at h hj hws hn2
        exact (behind X line hlen e (by omega) _).2 r s (e + 1) ws (j + 1) n0 n1 n2 (-1) (Nat.le_refl _) hr (by omega) (by omega) (by omega) (by omega) (by omega) (by omega) hn1
end NsG

namespace NsG
open Go Lk
theorem run_len (line : List UInt8) : ∀ (N : Nat) (wh : Wh) (i : Nat) (r : List UInt8) (ws : List (List UInt8)), r.length ≤ N → (run line wh i r ws).1.length ≤ ws.length + r.length + 1 := by
  intro N
  induction N with
  | zero =>
    intro wh i r ws h
    rw [List.eq_nil_of_length_eq_zero (Nat.le_zero.1 h)]
    cases wh <;> simp [run, bad]
  | succ N ih =>
    intro wh i r ws h
    match r with
    | [] => cases wh <;> simp [run, bad]
    | c :: r =>
      simp only [List.length_cons] at h ⊢
      cases hct : ctl c
      · have hb : ∀ k, (bad k).1.length ≤ ws.length + (r.length + 1) + 1 := by intro k; simp [bad]
        have h1 : ∀ wh' i', (run line wh' i' r ws).1.length ≤ ws.length + (r.length + 1) + 1 := fun wh' i' => by
          have := ih wh' i' r ws (by omega); omega
        have h2 : ∀ wh' i' x, (run line wh' i' r (ws ++ [x])).1.length ≤ ws.length + (r.length + 1) + 1 := fun wh' i' x => by
          have := ih wh' i' r (ws ++ [x]) (by omega); simp at this; omega
        cases wh with
        | out => simp only [run, hct, cond_false]; cases (c == 32) <;> cases (c == 34) <;> simp only [cond_false, cond_true] <;> apply h1
        | bare s => simp only [run, hct, cond_false]; cases (c == 32) <;> simp only [cond_false, cond_true] <;> first | apply h1 | apply h2
        | clo s => simp only [run, hct, cond_false]; cases (c == 32) <;> simp only [cond_false, cond_true] <;> first | apply hb | apply h2
        | quo s =>
          match r with
          | [] => simp only [run, hct, cond_false]; cases (c == 92) <;> cases (c == 34) <;> simp [bad]
          | d :: r =>
            simp only [List.length_cons] at h hb h1
            have h3 : ∀ wh' i', (run line wh' i' r ws).1.length ≤ ws.length + (r.length + 1 + 1) + 1 := fun wh' i' => by
              have := ih wh' i' r ws (by omega); omega
            rw [show run line (.quo s) i (c :: d :: r) ws = (bif ctl c then bad i else bif c == 92 then (bif ctl d then bad (i + 1) else run line (.quo s) (i + 2) r ws) else bif c == 34 then run line (.clo s) (i + 1) (d :: r) ws else run line (.quo s) (i + 1) (d :: r) ws) by rw [run]]
            simp only [hct, cond_false, List.length_cons]
            cases (c == 92) <;> cases (c == 34) <;> cases (ctl d) <;> simp only [cond_false, cond_true] <;> first | apply hb | apply h1 | apply h3
      · rw [run_ctl hct]; simp [bad]

theorem f4_ok (X : Fns) (line : List UInt8) (hlen : line.length + 1 ≤ 1073741824) (j : Nat) (hj : line.length + 20 ≤ j) : X.f4 j line = some (run line .out 0 line []) := by
  obtain ⟨j, rfl⟩ : ∃ k, j = k + 3 := ⟨j - 3, by omega⟩
  rw [X.f4_eq]
  have go : ∀ (N i jj : Nat) (r : List UInt8), r.length ≤ N → line.drop i = r → i ≤ line.length → r.length + 2 < jj → (∀ k, k < i → ctl (line.getD k 0) = false) →
      X.p4_4 jj (j + 2) line [] (-1) ((line.length : Nat) : Int) ((line.length : Nat) : Int) (i : Int) = X.p4_9 (j + 2) (j + 2) line [] (-1) ((lowR r i : Nat) : Int) := by
    intro N
    induction N with
    | zero =>
      intro i jj r h hd hi hjj hk
      obtain ⟨jj, rfl⟩ : ∃ k, jj = k + 1 := ⟨jj - 1, by omega⟩
      rw [List.eq_nil_of_length_eq_zero (Nat.le_zero.1 h)] at hd ⊢
      have := congrArg List.length hd
      simp at this
      rw [X.p4_4_eq, sel_dec, if_neg (by omega)]
      simp only [lowR]
      rw [show i = line.length by omega]
    | succ N ih =>
      intro i jj r h hd hi hjj hk
      match r with
      | [] => exact ih i jj [] (by simp) hd hi hjj hk
      | c :: r =>
        obtain ⟨hc, hil, hr⟩ := drop_cons hd
        simp only [List.length_cons] at h hjj
        obtain ⟨jj, rfl⟩ : ∃ k, jj = k + 3 := ⟨jj - 3, by omega⟩
        have w1 : IntKind.i64.wrap ((i : Int) + 1) = ((i + 1 : Nat) : Int) := by rw [wrap64 (by omega) (by omega)]; omega
        have h0 : (0 : Int) ≤ (i : Int) := by omega
        have hlt : (i : Int) < (line.length : Int) := by omega
        rw [X.p4_4_eq]
        simp only [sel_dec, if_pos h0, if_pos hlt, Int.toNat_natCast, hc, b_eq, X.p4_2055_eq, X.p4_8_eq, w1, sel_t]
        by_cases h32 : c < 32
        · rw [if_pos (by rw [b_ltP]; exact h32)]
          have : ctl c = true := by simp [ctl, h32]
          simp only [lowR, this, cond_true]
        · rw [if_neg (by rw [b_ltP]; exact h32)]
          cases h127 : (c == 127)
          · have hct : ctl c = false := by simp only [ctl, h127, Bool.or_false]; simp [h32]
            simp only [sel_f, lowR, hct, cond_false]
            exact ih (i + 1) (jj + 2) r (by omega) hr (by omega) (by omega) (by
              intro k hk'
              by_cases e : k = i
              · rw [e, hc]; exact hct
              · exact hk k (by omega))
          · have hct : ctl c = true := by simp only [ctl, h127, Bool.or_true]
            simp only [sel_t, lowR, hct, cond_true]
  rw [show (0 : Int) = ((0 : Nat) : Int) from rfl, go _ 0 (j + 2) line (Nat.le_refl _) rfl (by omega) (by omega) (fun k hk => absurd hk (by omega))]
  rw [X.p4_9_eq]
  exact (front X line (by omega) _).1 line 0 _ [] (j + 1) (j + 2) (j + 1) (Nat.le_refl _) rfl (by omega) rfl (by simp; omega) (by omega) (by omega)

theorem f5_ok (X : Fns) (line : List UInt8) (hlen : line.length + 1 ≤ 1073741824) (j : Nat) (hj : 2 * line.length + 20 ≤ j) : X.f5 j line = some (run line .out 0 line []) := by
  obtain ⟨j, rfl⟩ : ∃ k, j = k + 1 := ⟨j - 1, by omega⟩
  rw [X.f5_eq]
  exact p5_ok X line (by omega) _ line 0 [] .out j j (Nat.le_refl _) rfl (by omega) trivial (by simp; omega) (by omega) (by omega)

end NsG

/-! ScriptParses: the document's Split and Unword are the program's. -/
namespace Sc
open Go Lk NqG ScM

def splitW (line : List UInt8) : List (List UInt8) × Int × Int × Unit := NsG.run line .out 0 line []
theorem r_split (line : List UInt8) (hl : line.length ≤ 1048576) (j : Nat) (hj : line.length + 20 ≤ j) : ScG.f36 j line = some (splitW line) := NsG.f4_ok theFnsNs line (by omega) j hj
theorem r_split2 (line : List UInt8) (hl : line.length ≤ 1048576) (j : Nat) (hj : 2 * line.length + 20 ≤ j) : ScG.f12 j line = some (splitW line) := NsG.f5_ok theFnsNs line (by omega) j hj
theorem r_unword (w : List UInt8) (hl : w.length ≤ 1048576) (j : Nat) (hj : w.length + 30 ≤ j) : ScG.f37 j w = some (Nq.unword w) := Nq.f16_ok theFnsU w (by omega) j hj
theorem r_unword2 (w : List UInt8) (hl : w.length ≤ 1048576) (j : Nat) (hj : 2 * w.length + 90 ≤ j) : ScG.f13 j w = some (Nq.unword w) := NqR.f17_ok theFnsR w (by omega) j hj
end Sc

/-! ScriptParses: the document's Lines; the words of a line. -/
namespace Sc
open Go Lk NqG ScM

theorem ext_snoc (s : List UInt8) (a i : Nat) (ha : a ≤ i) (hi : i < s.length) : Lk.ext s (a : Int) ((i + 1 : Nat) : Int) = Lk.ext s (a : Int) (i : Int) ++ [s.getD i 0] := by
  unfold Lk.ext win
  simp only [Int.toNat_natCast]
  rw [show i + 1 - a = (i - a) + 1 by omega, List.take_add_one]
  congr 1
  rw [List.getElem?_drop, show a + (i - a) = i by omega, List.getElem?_eq_getElem hi, List.getD_eq_getElem?_getD, List.getElem?_eq_getElem hi]
  rfl

theorem lines_loop (s : List UInt8) (hs : s.length ≤ 1048576) : ∀ (N i a j n0 : Nat) (ws : List (List UInt8)), s.length = i + N → a ≤ i → ws.length ≤ i → N + 3 ≤ j →
    ScG.p11_4 j n0 s ws (a : Int) (i : Int) = some (ws ++ spl (Lk.ext s (a : Int) (i : Int)) (s.drop i), ()) := by
  intro N
  induction N with
  | zero =>
    intro i a j n0 ws h1 h2 h3 h4
    obtain ⟨j, rfl⟩ : ∃ k, j = k + 1 := ⟨j - 1, by omega⟩
    obtain rfl : i = s.length := by omega
    rw [ScG.p11_4_eq, sel_ite, if_neg (by simp), sel_ite, if_pos (by simp), sel_ite, if_pos (by simp; omega), sel_ite, if_pos (by simp; omega), List.drop_length]
    rfl
  | succ N ih =>
    intro i a j n0 ws h1 h2 h3 h4
    obtain ⟨j, rfl⟩ : ∃ k, j = k + 2 := ⟨j - 2, by omega⟩
    have hi : i < s.length := by omega
    have w1 : IntKind.i64.wrap ((i : Int) + 1) = ((i + 1 : Nat) : Int) := by rw [wrap64 (by omega) (by omega)]; omega
    have hd : s.drop i = s.getD i 0 :: s.drop (i + 1) := by
      rw [List.drop_eq_getElem_cons hi, List.getD_eq_getElem?_getD, List.getElem?_eq_getElem hi]; rfl
    rw [ScG.p11_4_eq, sel_ite, if_pos (by simp; omega), sel_ite, if_pos (by simp), sel_ite, if_pos (by simp; omega), Int.toNat_natCast, b_eq, hd]
    simp only [spl]
    cases hc : s.getD i 0 == 10 with
    | true =>
      rw [sel_ite, if_pos rfl, sel_ite, if_pos (by simp), sel_ite, if_pos (by simp; omega), sel_ite, if_pos (by simp), sel_ite, if_pos (by simp; omega), sel_ite, if_pos (by simp; omega), ScG.p11_5_eq, w1, ih (i + 1) (i + 1) _ n0 _ (by omega) (by omega) (by simp; omega) (by omega)]
      have e0 : Lk.ext s ((i + 1 : Nat) : Int) ((i + 1 : Nat) : Int) = [] := by unfold Lk.ext win; simp
      rw [e0, cond_true, List.append_assoc]; rfl
    | false =>
      rw [sel_ite, if_neg (by simp), ScG.p11_5_eq, w1, ih (i + 1) a _ n0 _ (by omega) (by omega) (by omega) (by omega), ext_snoc s a i h2 hi, cond_false]

theorem lines_ok (s : List UInt8) (hs : s.length ≤ 1048576) (j : Nat) (hj : s.length + 4 ≤ j) : ScG.f11 j s = some (splitL s, ()) := by
  obtain ⟨j, rfl⟩ : ∃ k, j = k + 1 := ⟨j - 1, by omega⟩
  rw [ScG.f11_eq]
  have h := lines_loop s hs s.length 0 0 j j [] (by omega) (Nat.le_refl _) (Nat.le_refl _) (by omega)
  rw [show ((0 : Nat) : Int) = 0 from rfl] at h
  rw [h]
  unfold splitL
  have e0 : Lk.ext s 0 0 = [] := by unfold Lk.ext win; simp
  rw [e0]; rfl

theorem cut_len (line : List UInt8) (s i : Nat) : (NsG.cut line s i).length ≤ line.length := by
  unfold NsG.cut Lk.ext win
  simp
  omega

theorem cut_ne (line : List UInt8) (s i : Nat) (h : s < i) (h2 : i ≤ line.length) : NsG.cut line s i ≠ [] := by
  intro e
  have := congrArg List.length e
  unfold NsG.cut Lk.ext win at this
  simp at this
  omega

def WhIn : NsG.Wh → Nat → Prop
  | .out, _ => True
  | .bare s, i => s < i
  | .quo s, i => s < i
  | .clo s, i => s < i

def Fine (line : List UInt8) (ws : List (List UInt8)) : Prop := ∀ w ∈ ws, w.length ≤ line.length ∧ w ≠ []

theorem fine_snoc {line : List UInt8} {ws : List (List UInt8)} (h : Fine line ws) {s i : Nat} (h1 : s < i) (h2 : i ≤ line.length) : Fine line (ws ++ [NsG.cut line s i]) := by
  intro w hw
  rcases List.mem_append.1 hw with hw | hw
  · exact h w hw
  · obtain rfl := List.mem_singleton.1 hw
    exact ⟨cut_len line s i, cut_ne line s i h1 h2⟩

theorem run_fine (line : List UInt8) : ∀ (N : Nat) (wh : NsG.Wh) (i : Nat) (r : List UInt8) (ws : List (List UInt8)), r.length ≤ N → i + r.length ≤ line.length → WhIn wh i → Fine line ws → Fine line (NsG.run line wh i r ws).1 := by
  intro N
  induction N with
  | zero =>
    intro wh i r ws hr hi hw hf
    obtain rfl : r = [] := List.length_eq_zero_iff.1 (by omega)
    cases wh with
    | out => simpa [NsG.run] using hf
    | bare s => simp only [NsG.run]; exact fine_snoc hf hw (by simpa using hi)
    | quo s => simp [NsG.run, NsG.bad, Fine]
    | clo s => simp only [NsG.run]; exact fine_snoc hf hw (by simpa using hi)
  | succ N ih =>
    intro wh i r ws hr hi hw hf
    have nil : Fine line [] := fun w hw => by simp at hw
    cases r with
    | nil =>
      cases wh with
      | out => simpa [NsG.run] using hf
      | bare s => simp only [NsG.run]; exact fine_snoc hf hw (by simpa using hi)
      | quo s => simp [NsG.run, NsG.bad, Fine]
      | clo s => simp only [NsG.run]; exact fine_snoc hf hw (by simpa using hi)
    | cons c r =>
      simp only [List.length_cons] at hr hi
      cases wh with
      | out =>
        simp only [NsG.run]
        cases NsG.ctl c
        · cases c == 32
          · cases c == 34
            · exact ih _ _ _ _ (by omega) (by omega) (Nat.lt_succ_self i) hf
            · exact ih _ _ _ _ (by omega) (by omega) (Nat.lt_succ_self i) hf
          · exact ih _ _ _ _ (by omega) (by omega) trivial hf
        · exact nil
      | bare s =>
        have hw : s < i := hw
        simp only [NsG.run]
        cases NsG.ctl c
        · cases c == 32
          · exact ih _ _ _ _ (by omega) (by omega) (show s < i + 1 by omega) hf
          · exact ih _ _ _ _ (by omega) (by omega) trivial (fine_snoc hf hw (by omega))
        · exact nil
      | clo s =>
        have hw : s < i := hw
        simp only [NsG.run]
        cases NsG.ctl c
        · cases c == 32
          · exact nil
          · exact ih _ _ _ _ (by omega) (by omega) trivial (fine_snoc hf hw (by omega))
        · exact nil
      | quo s =>
        have hw : s < i := hw
        cases r with
        | nil =>
          simp only [NsG.run]
          cases NsG.ctl c
          · cases c == 92
            · cases c == 34
              · exact nil
              · simp only [cond_true, cond_false, NsG.run]
                exact fine_snoc hf (by omega) (by simpa using hi)
            · exact nil
          · exact nil
        | cons d r =>
          simp only [List.length_cons] at hr hi
          simp only [NsG.run]
          cases NsG.ctl c
          · cases c == 92
            · cases c == 34
              · exact ih (.quo s) (i + 1) (d :: r) ws (by simp; omega) (by simp; omega) (show s < i + 1 by omega) hf
              · exact ih (.clo s) (i + 1) (d :: r) ws (by simp; omega) (by simp; omega) (show s < i + 1 by omega) hf
            · cases NsG.ctl d
              · exact ih _ _ _ _ (by omega) (by omega) (show s < i + 2 by omega) hf
              · exact nil
          · exact nil

theorem split_fine (line : List UInt8) : Fine line (splitW line).1 := run_fine line line.length .out 0 line [] (Nat.le_refl _) (by omega) trivial (fun w hw => by simp at hw)
theorem split_len (line : List UInt8) : (splitW line).1.length ≤ line.length + 1 := by
  have := NsG.run_len line line.length .out 0 line [] (Nat.le_refl _)
  unfold splitW
  simpa using this
end Sc

/-! ScriptParses: the document's numbers. -/
namespace Sc
open Go Lk NqG ScM

def docGo : List UInt8 → Nat → Option Nat
  | [], a => some a
  | c :: l, a => bif digitB c then docGo l (a * 10 + (c.toNat - 48)) else none

theorem docGo_ge : ∀ (l : List UInt8) (a n : Nat), docGo l a = some n → a * 10 ^ l.length ≤ n
  | [], a, n, h => by cases h; simp
  | c :: l, a, n, h => by
    simp only [docGo] at h
    cases hd : digitB c with
    | false => rw [hd] at h; cases h
    | true =>
      rw [hd, cond_true] at h
      have := docGo_ge l _ n h
      refine Nat.le_trans ?_ this
      rw [List.length_cons, Nat.pow_succ, Nat.mul_comm (10 ^ l.length) 10, ← Nat.mul_assoc]
      exact Nat.mul_le_mul_right _ (by omega)

theorem docGo_le : ∀ (l : List UInt8) (a n : Nat), docGo l a = some n → n < (a + 1) * 10 ^ l.length
  | [], a, n, h => by cases h; simp
  | c :: l, a, n, h => by
    simp only [docGo] at h
    cases hd : digitB c with
    | false => rw [hd] at h; cases h
    | true =>
      rw [hd, cond_true] at h
      have hc := (digitB_iff c).1 hd
      have := docGo_le l _ n h
      refine Nat.lt_of_lt_of_le this ?_
      rw [List.length_cons, Nat.pow_succ, Nat.mul_comm (10 ^ l.length) 10, ← Nat.mul_assoc]
      exact Nat.mul_le_mul_right _ (by omega)

def lim (o : Option Nat) : Option Nat := o.bind fun n => bif Nat.ble n 268435456 then some n else none

theorem numGo_doc : ∀ (l : List UInt8) (a : Nat), 1 ≤ a → a ≤ 268435456 → numGo l a false = lim (docGo l a)
  | [], a, _, h2 => by
    have : Nat.ble a 268435456 = true := Nat.ble_eq_true_of_le h2
    simp [numGo, docGo, lim, this]
  | c :: l, a, h1, h2 => by
    have e1 : (a == 0) = false := by simp; omega
    simp only [numGo, docGo, e1, Bool.not_false, Bool.or_true, Bool.and_true]
    cases hd : digitB c with
    | false => rfl
    | true =>
      simp only [cond_true]
      cases hb : Nat.blt 268435456 (a * 10 + (c.toNat - 48)) with
      | false =>
        have : ¬ 268435456 < a * 10 + (c.toNat - 48) := by
          intro h; rw [← Nat.blt_eq, hb] at h; cases h
        simp only [cond_false]
        exact numGo_doc l _ (by omega) (by omega)
      | true =>
        rw [Nat.blt_eq] at hb
        simp only [cond_true]
        unfold lim
        cases hg : docGo l (a * 10 + (c.toNat - 48)) with
        | none => rfl
        | some n =>
          have h3 := docGo_ge l _ n hg
          have h4 : 1 ≤ 10 ^ l.length := Nat.one_le_pow _ _ (by omega)
          have h5 : a * 10 + (c.toNat - 48) ≤ n := Nat.le_trans (by have := Nat.mul_le_mul_left (a * 10 + (c.toNat - 48)) h4; omega) h3
          have : Nat.ble n 268435456 = false := by
            cases e : Nat.ble n 268435456 with
            | false => rfl
            | true => have := Nat.le_of_ble_eq_true e; omega
          simp [this]

def docB (w : List UInt8) : Bool := bif Nat.blt w.length 1 || Nat.blt 9 w.length || (Nat.blt 1 w.length && w.getD 0 0 == 48) then false else (lim (docGo w 0)).isSome

theorem docB_num (w : List UInt8) : docB w = (numOf w).isSome ∧ (docB w = true → lim (docGo w 0) = numOf w) := by
  cases w with
  | nil => exact ⟨rfl, fun h => by cases h⟩
  | cons c l =>
    have hnum : numOf (c :: l) = numGo (c :: l) 0 true := rfl
    have e0 : Nat.blt (c :: l).length 1 = false := by
      cases e : Nat.blt (c :: l).length 1 with
      | false => rfl
      | true => rw [Nat.blt_eq] at e; simp at e
    have step : numGo (c :: l) 0 true = bif digitB c then numGo l (c.toNat - 48) false else none := by
      simp only [numGo, Bool.true_or, Bool.and_true, Nat.zero_mul, Nat.zero_add]
      cases hd : digitB c with
      | false => rfl
      | true =>
        have hc := (digitB_iff c).1 hd
        have : Nat.blt 268435456 (c.toNat - 48) = false := by
          cases e : Nat.blt 268435456 (c.toNat - 48) with
          | false => rfl
          | true => rw [Nat.blt_eq] at e; omega
        simp [this]
    have dstep : docGo (c :: l) 0 = bif digitB c then docGo l (c.toNat - 48) else none := by
      simp only [docGo, Nat.zero_mul, Nat.zero_add]
    unfold docB
    rw [hnum, step, dstep, e0, Bool.false_or]
    cases hd : digitB c with
    | false =>
      simp only [cond_false]
      refine ⟨?_, fun _ => rfl⟩
      cases (Nat.blt 9 (c :: l).length || (Nat.blt 1 (c :: l).length && (c :: l).getD 0 0 == 48)) <;> rfl
    | true =>
      have hc := (digitB_iff c).1 hd
      simp only [cond_true]
      have hg0 : (c :: l).getD 0 0 = c := rfl
      rw [hg0]
      by_cases hz : c = 48
      · subst hz
        cases l with
        | nil => decide
        | cons d l =>
          have e1 : Nat.blt 1 (48 :: d :: l : List UInt8).length = true := by rw [Nat.blt_eq]; simp
          rw [e1]
          have : numGo (d :: l) ((48 : UInt8).toNat - 48) false = none := by
            have : (48 : UInt8).toNat - 48 = 0 := rfl
            rw [this]
            simp [numGo]
          rw [this]
          refine ⟨by cases Nat.blt 9 (48 :: d :: l : List UInt8).length <;> rfl, fun h => ?_⟩
          revert h
          cases Nat.blt 9 (48 :: d :: l : List UInt8).length <;> intro h <;> simp at h
      · have hcz : (c == 48) = false := by simpa using hz
        have hc1 : 1 ≤ c.toNat - 48 := by
          have : c.toNat ≠ 48 := fun e => hz (by apply UInt8.toNat_inj.1; rw [e]; rfl)
          omega
        rw [hcz, Bool.and_false, Bool.or_false, numGo_doc l _ hc1 (by omega)]
        cases h9 : Nat.blt 9 (c :: l).length with
        | false => exact ⟨rfl, fun _ => rfl⟩
        | true =>
          rw [Nat.blt_eq, List.length_cons] at h9
          have : lim (docGo l (c.toNat - 48)) = none := by
            unfold lim
            cases hg : docGo l (c.toNat - 48) with
            | none => rfl
            | some n =>
              have h3 := docGo_ge l _ n hg
              have h4 : 10 ^ 9 ≤ 10 ^ l.length := Nat.pow_le_pow_right (by omega) (by omega)
              have h5 : 1 * 10 ^ l.length ≤ (c.toNat - 48) * 10 ^ l.length := Nat.mul_le_mul_right _ hc1
              have : Nat.ble n 268435456 = false := by
                cases e : Nat.ble n 268435456 with
                | false => rfl
                | true => have := Nat.le_of_ble_eq_true e; omega
              simp [this]
          rw [this]
          exact ⟨rfl, fun h => by cases h⟩

theorem lim_some (a : Nat) : (lim (some a)).isSome = decide ((a : Int) ≤ 268435456) := by
  unfold lim
  by_cases h : a ≤ 268435456
  · have : Nat.ble a 268435456 = true := Nat.ble_eq_true_of_le h
    simp [this]; omega
  · have : Nat.ble a 268435456 = false := by
      cases e : Nat.ble a 268435456 with
      | false => rfl
      | true => exact absurd (Nat.le_of_ble_eq_true e) h
    simp [this]; omega
theorem lim_eq {a n : Nat} (h : lim (some a) = some n) : a = n := by
  unfold lim at h
  cases e : Nat.ble a 268435456 with
  | false => simp [e] at h
  | true => simpa [e] using h

theorem p47_ok (w : List UInt8) (hw : w.length ≤ 9) : ∀ (N i a j n0 n1 : Nat), w.length = i + N → a < 10 ^ i → N + 4 ≤ j →
    ∃ v, ScG.p47_5 j n0 n1 w (a : Int) (i : Int) = some (v, (lim (docGo (w.drop i) a)).isSome, ()) ∧ ∀ n, lim (docGo (w.drop i) a) = some n → v = (n : Int) := by
  intro N
  induction N with
  | zero =>
    intro i a j n0 n1 h1 h2 h3
    obtain ⟨j, rfl⟩ : ∃ k, j = k + 1 := ⟨j - 1, by omega⟩
    obtain rfl : i = w.length := by omega
    rw [ScG.p47_5_eq, sel_ite, if_neg (by simp), List.drop_length]
    have e : docGo [] a = some a := rfl
    rw [e, lim_some]
    exact ⟨_, rfl, fun n hn => by rw [lim_eq hn]⟩
  | succ N ih =>
    intro i a j n0 n1 h1 h2 h3
    obtain ⟨j, rfl⟩ : ∃ k, j = k + 3 := ⟨j - 3, by omega⟩
    have hi : i < w.length := by omega
    have hd : w.drop i = w.getD i 0 :: w.drop (i + 1) := by
      rw [List.drop_eq_getElem_cons hi, List.getD_eq_getElem?_getD, List.getElem?_eq_getElem hi]; rfl
    have w1 : IntKind.i64.wrap ((i : Int) + 1) = ((i + 1 : Nat) : Int) := by rw [wrap64 (by omega) (by omega)]; omega
    have h10 : (10 : Nat) ^ i ≤ 10 ^ 9 := Nat.pow_le_pow_right (by omega) (by omega)
    obtain ⟨c, hc⟩ : ∃ c, w.getD i 0 = c := ⟨_, rfl⟩
    have hcl := UInt8.toNat_lt c
    rw [ScG.p47_5_eq, sel_ite, if_pos (by simp; omega), sel_ite, if_pos (by simp), sel_ite, if_pos (by simp; omega), Int.toNat_natCast, hd, hc]
    have e48 : (((48 : UInt8).toNat : Nat) : Int) = 48 := rfl
    have e57 : (((57 : UInt8).toNat : Nat) : Int) = 57 := rfl
    rw [e48, e57]
    have no : ¬ (48 ≤ c.toNat ∧ c.toNat ≤ 57) → docGo (c :: w.drop (i + 1)) a = none := fun h => by
      have : digitB c = false := by
        cases e : digitB c with
        | false => rfl
        | true => exact absurd ((digitB_iff c).1 e) h
      simp [docGo, this]
    by_cases hlo : c.toNat < 48
    · rw [sel_ite, if_pos (by simp; omega), ScG.p47_2056_eq, sel_t, no (by omega)]
      exact ⟨_, rfl, fun n hn => by cases hn⟩
    · rw [sel_ite, if_neg (by simp; omega), sel_ite, if_pos (by simp), sel_ite, if_pos (by simp; omega), ScG.p47_2056_eq]
      by_cases hhi : 57 < c.toNat
      · rw [sel_ite, if_pos (by simp; omega), no (by omega)]
        exact ⟨_, rfl, fun n hn => by cases hn⟩
      · have hdg : digitB c = true := (digitB_iff c).2 ⟨by omega, by omega⟩
        have hst : docGo (c :: w.drop (i + 1)) a = docGo (w.drop (i + 1)) (a * 10 + (c.toNat - 48)) := by simp [docGo, hdg]
        have u1 : IntKind.u8.wrap ((c.toNat : Int) - 48) = ((c.toNat - 48 : Nat) : Int) := by
          unfold IntKind.wrap
          simp [IntKind.bits, IntKind.signed]
          omega
        have u2 : (UInt8.ofNat (c.toNat - 48)).toNat = c.toNat - 48 := by rw [UInt8.toNat_ofNat']; omega
        rw [sel_ite, if_neg (by simp; omega), ScG.p47_9_eq, sel_ite, if_pos (by simp), sel_ite, if_pos (by simp; omega), ScG.p47_6_eq, hst, w1, Int.toNat_natCast, hc, e48, u1, Int.toNat_natCast, u2]
        have w2 : IntKind.i64.wrap ((a : Int) * 10) = ((a * 10 : Nat) : Int) := by rw [wrap64 (by omega) (by omega)]; omega
        have w3 : IntKind.i64.wrap (((a * 10 : Nat) : Int) + IntKind.i64.wrap ((c.toNat - 48 : Nat) : Int)) = ((a * 10 + (c.toNat - 48) : Nat) : Int) := by
          rw [wrap64 (x := ((c.toNat - 48 : Nat) : Int)) (by omega) (by omega), wrap64 (by omega) (by omega)]; omega
        rw [w2, w3]
        refine ih (i + 1) (a * 10 + (c.toNat - 48)) (j + 2) n0 n1 (by omega) ?_ (by omega)
        rw [Nat.pow_succ]
        omega

theorem r_num (w : List UInt8) (j : Nat) (hj : 20 ≤ j) : ∃ v, ScG.f47 j w = some (v, isNum w, ()) ∧ (isNum w = true → v = (numS w).1) := by
  obtain ⟨j, rfl⟩ : ∃ k, j = k + 3 := ⟨j - 3, by omega⟩
  obtain ⟨d1, d2⟩ := docB_num w
  have hn : isNum w = docB w := by rw [d1]; rfl
  have bad : docB w = false → ∃ v, some ((0 : Int), false, ()) = some (v, isNum w, ()) ∧ (isNum w = true → v = (numS w).1) := fun h => ⟨0, by rw [hn, h], fun h2 => by rw [hn, h] at h2; cases h2⟩
  have nb : ∀ {a b : Nat}, ¬ a < b → Nat.blt a b = false := fun {a b} h => by
    cases e : Nat.blt a b with
    | false => rfl
    | true => rw [Nat.blt_eq] at e; exact absurd e h
  have tb : ∀ {a b : Nat}, a < b → Nat.blt a b = true := fun {a b} h => by rw [Nat.blt_eq]; exact h
  have go : ∀ (x : Bool), 1 ≤ w.length → w.length ≤ 9 → x = (Nat.blt 1 w.length && w.getD 0 0 == 48) → ∃ v, ScG.p47_2050 (j + 2) (j + 2) w x = some (v, isNum w, ()) ∧ (isNum w = true → v = (numS w).1) := by
    intro x h1 h9 hx
    rw [ScG.p47_2050_eq]
    cases x with
    | true =>
      rw [sel_t]
      exact bad (by unfold docB; rw [← hx]; simp)
    | false =>
      rw [sel_f, ScG.p47_3_eq]
      obtain ⟨v, e1, e2⟩ := p47_ok w h9 w.length 0 0 (j + 1) (j + 2) (j + 1) (by omega) (by simp) (by omega)
      rw [show ((0 : Nat) : Int) = 0 from rfl, List.drop_zero] at e1
      rw [List.drop_zero] at e2
      have hb : docB w = (lim (docGo w 0)).isSome := by unfold docB; rw [← hx, nb (by omega), nb (by omega)]; rfl
      rw [e1, hn, hb]
      refine ⟨v, rfl, fun h => ?_⟩
      have h3 := d2 (by rw [hb]; exact h)
      cases hl : lim (docGo w 0) with
      | none => rw [hl] at h; cases h
      | some n =>
        rw [e2 n hl]
        rw [hl] at h3
        unfold numS
        rw [← h3]
  rw [ScG.f47_eq, sel_ite]
  by_cases h1 : w.length < 1
  · rw [if_pos (by simp; omega), ScG.p47_2050_eq, sel_t]
    exact bad (by unfold docB; rw [tb h1]; rfl)
  · rw [if_neg (by simp; omega), sel_ite]
    by_cases h9 : 9 < w.length
    · rw [if_pos (by simp; omega), ScG.p47_2050_eq, sel_t]
      exact bad (by unfold docB; rw [tb h9]; simp)
    · rw [if_neg (by simp; omega), sel_ite]
      by_cases h2 : 1 < w.length
      · rw [if_pos (by simp; omega), sel_ite, if_pos (by simp), sel_ite, if_pos (by simp; omega)]
        refine go _ (by omega) (by omega) ?_
        rw [tb h2, b_eq]; rfl
      · rw [if_neg (by simp; omega)]
        exact go _ (by omega) (by omega) (by rw [nb h2]; rfl)
end Sc

/-! ScriptParses: the document's words for a line, and the program's. -/
namespace Sc
open Go Lk NqG ScM

theorem r_nums (ws : List (List UInt8)) (hl : ws.length ≤ 1073741824) : ∀ (N k j n0 : Nat), ws.length = k + N → N + 25 ≤ j → ScG.p25_2 j n0 ws (k : Int) = some ((ws.drop k).all isNum, ()) := by
  intro N
  induction N with
  | zero =>
    intro k j n0 h1 h2
    obtain ⟨j, rfl⟩ : ∃ i, j = i + 1 := ⟨j - 1, by omega⟩
    obtain rfl : k = ws.length := by omega
    rw [ScG.p25_2_eq, sel_ite, if_neg (by simp), List.drop_length]; rfl
  | succ N ih =>
    intro k j n0 h1 h2
    obtain ⟨j, rfl⟩ : ∃ i, j = i + 1 := ⟨j - 1, by omega⟩
    have hk : k < ws.length := by omega
    have w1 : IntKind.i64.wrap ((k : Int) + 1) = ((k + 1 : Nat) : Int) := by rw [wrap64 (by omega) (by omega)]; omega
    have hd : ws.drop k = ws.getD k [] :: ws.drop (k + 1) := by
      rw [List.drop_eq_getElem_cons hk, List.getD_eq_getElem?_getD, List.getElem?_eq_getElem hk]; rfl
    obtain ⟨v, e1, _⟩ := r_num (ws.getD k []) j (by omega)
    rw [ScG.p25_2_eq, sel_ite, if_pos (by simp; omega), sel_ite, if_pos (by simp), sel_ite, if_pos (by simp; omega), Int.toNat_natCast, e1, ob_some, hd, List.all_cons]
    cases isNum (ws.getD k []) with
    | false => rfl
    | true =>
      simp only [Bool.not_true, sel_f, Bool.true_and]
      rw [w1]
      exact ih (k + 1) j n0 (by omega) (by omega)

theorem r_numbers (ws : List (List UInt8)) (hl : ws.length ≤ 1073741824) (j : Nat) (hj : ws.length + 26 ≤ j) : ScG.f25 j ws = some (ws.all isNum, ()) := by
  obtain ⟨j, rfl⟩ : ∃ i, j = i + 1 := ⟨j - 1, by omega⟩
  rw [ScG.f25_eq]
  have := r_nums ws hl ws.length 0 j j (by omega) (by omega)
  rwa [List.drop_zero] at this

def stepB (w : List UInt8) : Bool := isNum w && decide ((numS w).1 ≥ 1) && decide ((numS w).1 ≤ 65536)
def taskB (w : List UInt8) : Bool := w == [111, 112, 101, 110] || w == [102, 108, 117, 115, 104] || w == [99, 111, 109, 112, 97, 99, 116] || w == [115, 119, 101, 101, 112] || w == [114, 111, 108, 108] || isNum w

theorem numS_eq (w : List UInt8) : numS w = ((numS w).1, isNum w, ()) := by
  unfold numS isNum
  cases numOf w <;> rfl

theorem r_steps (w : List UInt8) (j : Nat) (hj : 21 ≤ j) : ScG.f28 j w = some (stepB w, ()) := by
  obtain ⟨j, rfl⟩ : ∃ i, j = i + 1 := ⟨j - 1, by omega⟩
  obtain ⟨v, e1, e2⟩ := r_num w j (by omega)
  rw [ScG.f28_eq, e1, ob_some]
  unfold stepB
  cases h : isNum w with
  | false => rfl
  | true =>
    rw [e2 h]
    simp only [sel_t, Bool.true_and]
    cases decide ((numS w).1 ≥ 1) <;> rfl
theorem r_count (w : List UInt8) (hw : w.length ≤ 1073741824) (j : Nat) (hj : w.length + 4 ≤ j) : ScG.f75 j w = some (stepB w, ()) := by
  obtain ⟨j, rfl⟩ : ∃ i, j = i + 1 := ⟨j - 1, by omega⟩
  have h73 : ScG.f73 j w = some (numS w) := f73_ok theFnsN2 w hw j (by omega)
  rw [ScG.f75_eq, h73, ob_some, numS_eq]
  unfold stepB
  cases isNum w with
  | false => rfl
  | true =>
    simp only [sel_t, Bool.true_and]
    cases decide ((numS w).1 ≥ 1) <;> rfl

theorem r_task (w : List UInt8) (j : Nat) (hj : 21 ≤ j) : ∃ v, ScG.f29 j w = some (v, taskB w, ()) := by
  obtain ⟨j, rfl⟩ : ∃ i, j = i + 1 := ⟨j - 1, by omega⟩
  obtain ⟨v, e1, _⟩ := r_num w j (by omega)
  rw [ScG.f29_eq, e1]
  unfold taskB
  cases w == [111, 112, 101, 110] <;> cases w == [102, 108, 117, 115, 104] <;> cases w == [99, 111, 109, 112, 97, 99, 116] <;> cases w == [115, 119, 101, 101, 112] <;> cases w == [114, 111, 108, 108] <;> exact ⟨_, rfl⟩
theorem r_taskOf (w : List UInt8) (hw : w.length ≤ 1073741824) (j : Nat) (hj : w.length + 4 ≤ j) : ∃ v, ScG.f76 j w = some (v, taskB w, ()) := by
  obtain ⟨j, rfl⟩ : ∃ i, j = i + 1 := ⟨j - 1, by omega⟩
  have h73 : ScG.f73 j w = some (numS w) := f73_ok theFnsN2 w hw j (by omega)
  rw [ScG.f76_eq, h73, numS_eq]
  unfold taskB
  cases w == [111, 112, 101, 110] <;> cases w == [102, 108, 117, 115, 104] <;> cases w == [99, 111, 109, 112, 97, 99, 116] <;> cases w == [115, 119, 101, 101, 112] <;> cases w == [114, 111, 108, 108] <;> exact ⟨_, rfl⟩
theorem r_isNum (w : List UInt8) (hw : w.length ≤ 1073741824) (j : Nat) (hj : w.length + 4 ≤ j) : ScG.f57 j w = some (isNum w, ()) := f57_ok theFnsN2 w hw j hj
end Sc

/-! ScriptParses: forms. -/
namespace Sc
open Go Lk NqG ScM

def fitC (c : UInt8) (w : List UInt8) : Bool := bif c == 110 then isNum w else bif c == 99 then stepB w else bif c == 116 then taskB w else true
def fitB (form : List UInt8) (ws : List (List UInt8)) : Bool := ws.length == form.length && (form.zip ws).all fun p => fitC p.1 p.2

theorem r_fit (form : List UInt8) (ws : List (List UInt8)) (hl : ws.length = form.length) (hb : ws.length ≤ 1048576) (m : Nat) (hm : ∀ w ∈ ws, w.length ≤ m) (hmb : m ≤ 1048576) : ∀ (N k j n0 : Nat), ws.length = k + N → N + m + 30 ≤ j →
    ScG.p61_4 j n0 form ws (ws.length : Int) (k : Int) = some (((form.zip ws).drop k).all (fun p => fitC p.1 p.2), ()) := by
  intro N
  induction N with
  | zero =>
    intro k j n0 h1 h2
    obtain ⟨j, rfl⟩ : ∃ i, j = i + 1 := ⟨j - 1, by omega⟩
    obtain rfl : k = ws.length := by omega
    have e : (form.zip ws).drop ws.length = [] := by rw [List.drop_eq_nil_iff]; simp; omega
    rw [ScG.p61_4_eq, sel_ite, if_neg (by simp), e]; rfl
  | succ N ih =>
    intro k j n0 h1 h2
    obtain ⟨j, rfl⟩ : ∃ i, j = i + 3 := ⟨j - 3, by omega⟩
    have hk : k < ws.length := by omega
    have hk2 : k < form.length := by omega
    have w1 : IntKind.i64.wrap ((k : Int) + 1) = ((k + 1 : Nat) : Int) := by rw [wrap64 (by omega) (by omega)]; omega
    have hkz : k < (form.zip ws).length := by simp; omega
    have hd : (form.zip ws).drop k = (form.getD k 0, ws.getD k []) :: (form.zip ws).drop (k + 1) := by
      rw [List.drop_eq_getElem_cons hkz, List.getElem_zip, List.getD_eq_getElem?_getD, List.getD_eq_getElem?_getD, List.getElem?_eq_getElem hk, List.getElem?_eq_getElem hk2]; rfl
    have hwl : (ws.getD k []).length ≤ m := by
      rw [List.getD_eq_getElem?_getD, List.getElem?_eq_getElem hk]
      exact hm _ (List.getElem_mem hk)
    have next : ∀ b : Bool, ScG.p61_14 (j + 2) n0 (j + 2) form b ws (ws.length : Int) (k : Int) = some (b && ((form.zip ws).drop (k + 1)).all (fun p => fitC p.1 p.2), ()) := by
      intro b
      rw [ScG.p61_14_eq]
      cases b with
      | false => rfl
      | true =>
        simp only [Bool.not_true, sel_f, Bool.true_and]
        rw [ScG.p61_16_eq, w1]
        exact ih (k + 1) (j + 2) n0 (by omega) (by omega)
    rw [ScG.p61_4_eq, sel_ite, if_pos (by simp; omega), sel_ite, if_pos (by simp), sel_ite, if_pos (by simp; omega), sel_ite, if_pos (by simp), sel_ite, if_pos (by simp; omega), Int.toNat_natCast, b_eq, b_eq, b_eq, hd, List.all_cons]
    obtain ⟨v, e3⟩ := r_taskOf (ws.getD k []) (by omega) (j + 2) (by omega)
    rw [r_isNum _ (by omega) (j + 2) (by omega), r_count _ (by omega) (j + 2) (by omega), e3]
    simp only [ob_some, next, fitC]
    cases form.getD k 0 == 110 <;> cases form.getD k 0 == 99 <;> cases form.getD k 0 == 116 <;> rfl

theorem r_fits (form : List UInt8) (ws : List (List UInt8)) (hb : ws.length ≤ 1048576) (m : Nat) (hm : ∀ w ∈ ws, w.length ≤ m) (hmb : m ≤ 1048576) (j : Nat) (hj : ws.length + m + 31 ≤ j) : ScG.f61 j ws form = some (fitB form ws, ()) := by
  obtain ⟨j, rfl⟩ : ∃ i, j = i + 1 := ⟨j - 1, by omega⟩
  rw [ScG.f61_eq]
  unfold fitB
  by_cases h : ws.length = form.length
  · rw [sel_ite, if_neg (by simp; omega)]
    have := r_fit form ws h hb m hm hmb ws.length 0 j j (by omega) (by omega)
    rw [List.drop_zero, show ((0 : Nat) : Int) = 0 from rfl] at this
    rw [this]
    simp [h]
  · rw [sel_ite, if_pos (by simp; omega)]
    have : (ws.length == form.length) = false := by simpa using h
    rw [this]; rfl

theorem r_forms (fs : List (List UInt8)) (hf : fs.length ≤ 1000) (ws : List (List UInt8)) (hb : ws.length ≤ 1048576) (m : Nat) (hm : ∀ w ∈ ws, w.length ≤ m) (hmb : m ≤ 1048576) : ∀ (N k j n0 : Nat), fs.length = k + N → N + ws.length + m + 40 ≤ j →
    ScG.p38_9 j n0 ws fs (fs.length : Int) (k : Int) = some ((fs.drop k).any (fun f => fitB f ws), ()) := by
  intro N
  induction N with
  | zero =>
    intro k j n0 h1 h2
    obtain ⟨j, rfl⟩ : ∃ i, j = i + 1 := ⟨j - 1, by omega⟩
    obtain rfl : k = fs.length := by omega
    rw [ScG.p38_9_eq, sel_ite, if_neg (by simp), List.drop_length]; rfl
  | succ N ih =>
    intro k j n0 h1 h2
    obtain ⟨j, rfl⟩ : ∃ i, j = i + 1 := ⟨j - 1, by omega⟩
    have hk : k < fs.length := by omega
    have w1 : IntKind.i64.wrap ((k : Int) + 1) = ((k + 1 : Nat) : Int) := by rw [wrap64 (by omega) (by omega)]; omega
    have hd : fs.drop k = fs.getD k [] :: fs.drop (k + 1) := by
      rw [List.drop_eq_getElem_cons hk, List.getD_eq_getElem?_getD, List.getElem?_eq_getElem hk]; rfl
    rw [ScG.p38_9_eq, sel_ite, if_pos (by simp; omega), sel_ite, if_pos (by simp), sel_ite, if_pos (by simp; omega), Int.toNat_natCast, r_fits _ ws hb m hm hmb j (by omega), ob_some, hd, List.any_cons]
    cases fitB (fs.getD k []) ws with
    | true => rfl
    | false =>
      simp only [sel_f, Bool.false_or]
      rw [w1]
      exact ih (k + 1) j n0 (by omega) (by omega)
end Sc

/-! ScriptParses: operations. -/
namespace Sc
open Go Lk NqG ScM

def kPut : List UInt8 := [112, 117, 116]
def kDel : List UInt8 := [100, 101, 108]
def kRange : List UInt8 := [114, 97, 110, 103, 101]
def opsB : List (List UInt8) → Bool
  | [] => true
  | [_] => false
  | [k, _] => k == kDel
  | k :: _ :: b :: r => bif k == kPut || k == kRange then opsB r else bif k == kDel then opsB (b :: r) else false

def opsB3 : List (List UInt8) → Bool
  | _ :: _ :: r => opsB r
  | _ => false
def opsB2 : List (List UInt8) → Bool
  | _ :: r => opsB r
  | _ => false
theorem dec00 : decide ((0 : Int) ≤ 0) = true := by decide
theorem dec01 : decide ((0 : Int) ≤ 1) = true := by decide
theorem dec02 : decide ((0 : Int) ≤ 2) = true := by decide
theorem dec03 : decide ((0 : Int) ≤ 3) = true := by decide
theorem beq33 : ((3 : Int) == 3) = true := by decide
theorem beq23 : ((2 : Int) == 3) = false := by decide
theorem dlt {a : Int} {n : Nat} (h : a < (n : Int)) : decide (a < (n : Int)) = true := decide_eq_true h
theorem dle {a : Int} {n : Nat} (h : a ≤ (n : Int)) : decide (a ≤ (n : Int)) = true := decide_eq_true h
theorem ndlt {a : Int} {n : Nat} (h : ¬ (n : Int) < a) : decide ((n : Int) < a) = false := decide_eq_false h
theorem ylt {a : Int} {n : Nat} (h : (n : Int) < a) : decide ((n : Int) < a) = true := decide_eq_true h
theorem dgt {a : Int} {n : Nat} (h : (n : Int) > a) : decide ((n : Int) > a) = true := decide_eq_true h
theorem ndgt {a : Int} {n : Nat} (h : ¬ (n : Int) > a) : decide ((n : Int) > a) = false := decide_eq_false h

theorem ext3 (k a b : List UInt8) (r : List (List UInt8)) : Lk.ext (k :: a :: b :: r) 3 (((k :: a :: b :: r).length : Nat) : Int) = r := by
  unfold Lk.ext win
  rw [Int.toNat_natCast]
  show List.take (r.length + 3 - 3) r = r
  rw [Nat.add_sub_cancel, List.take_length]
theorem ext2 (k a : List UInt8) (r : List (List UInt8)) : Lk.ext (k :: a :: r) 2 (((k :: a :: r).length : Nat) : Int) = r := by
  unfold Lk.ext win
  rw [Int.toNat_natCast]
  show List.take (r.length + 2 - 2) r = r
  rw [Nat.add_sub_cancel, List.take_length]

theorem put_ne_del {k : List UInt8} (h : (k == kDel) = true) : (k == kPut) = false ∧ (k == kRange) = false := by
  rw [beq_iff_eq] at h
  subst h
  decide

theorem opsB_none {k : List UInt8} {t : List (List UInt8)} (h1 : (k == kPut) = false) (h2 : (k == kRange) = false) (h3 : (k == kDel) = false) : opsB (k :: t) = false := by
  match t with
  | [] => rfl
  | [_] => exact h3
  | _ :: b :: r => simp only [opsB, h1, h2, h3]; rfl

theorem opsB_three {k : List UInt8} {t : List (List UInt8)} (h1 : (k == kPut || k == kRange) = true) : opsB (k :: t) = opsB3 t := by
  have hd : (k == kDel) = false := by
    cases h : k == kDel with
    | false => rfl
    | true => rw [(put_ne_del h).1, (put_ne_del h).2] at h1; cases h1
  match t with
  | [] => rfl
  | [_] => exact hd
  | _ :: b :: r => simp only [opsB, opsB3, h1, cond_true]
theorem opsB_two {k : List UInt8} {t : List (List UInt8)} (h1 : (k == kDel) = true) : opsB (k :: t) = opsB2 t := by
  obtain ⟨p1, p2⟩ := put_ne_del h1
  match t with
  | [] => rfl
  | [_] => exact h1
  | _ :: b :: r => simp only [opsB, opsB2, h1, p1, p2, Bool.or_false, cond_true, cond_false]

theorem r_ops : ∀ (N : Nat) (ws : List (List UInt8)) (acc : List (Int × (List UInt8 × (List UInt8 × Unit)))) (j n0 : Nat), ws.length ≤ N → acc.length + N ≤ 1048580 → N + 4 ≤ j → ∃ o, ScG.p27_2 j n0 ws acc = some (o, opsB ws, ()) := by
  intro N
  induction N with
  | zero =>
    intro ws acc j n0 h1 h2 h3
    obtain ⟨j, rfl⟩ : ∃ i, j = i + 1 := ⟨j - 1, by omega⟩
    obtain rfl : ws = [] := List.length_eq_zero_iff.1 (by omega)
    rw [ScG.p27_2_eq, ndgt (by simp), sel_f]
    exact ⟨_, rfl⟩
  | succ N ih =>
    intro ws acc j n0 h1 h2 h3
    obtain ⟨j, rfl⟩ : ∃ i, j = i + 3 := ⟨j - 3, by omega⟩
    cases ws with
    | nil => rw [ScG.p27_2_eq, ndgt (by simp), sel_f]; exact ⟨_, rfl⟩
    | cons k t =>
      rw [List.length_cons] at h1
      have hacc : ∀ x : Int × (List UInt8 × (List UInt8 × Unit)), (acc ++ [x]).length + N ≤ 1048580 := fun x => by rw [List.length_append, List.length_singleton]; omega
      have hd : decide (acc.length + 1 ≤ 1073741824) = true := decide_eq_true (by omega)
      have three : ∀ v : Int, ∃ o, ScG.p27_14 (j + 2) n0 (j + 2) (k :: t) acc 3 v = some (o, opsB3 t, ()) := fun v => by
        cases t with
        | nil => rw [ScG.p27_14_eq, ylt (by simp), sel_t]; exact ⟨_, rfl⟩
        | cons a t =>
          cases t with
          | nil => rw [ScG.p27_14_eq, ylt (by simp), sel_t]; exact ⟨_, rfl⟩
          | cons b r =>
            have hl : (k :: a :: b :: r).length = r.length + 3 := rfl
            rw [List.length_cons, List.length_cons] at h1
            rw [ScG.p27_14_eq, ndlt (by rw [hl]; omega), sel_f, dec01, sel_t, dlt (by rw [hl]; omega), sel_t, sel_t, beq33, sel_t, dec02, sel_t, dlt (by rw [hl]; omega), sel_t, sel_t, ScG.p27_19_eq, Option.isSome_some, sel_t, hd, sel_t, dec03, sel_t, dle (by rw [hl]; omega), sel_t, ext3]
            exact ih r _ (j + 2) n0 (by omega) (hacc _) (by omega)
      have two : ∀ v : Int, ∃ o, ScG.p27_14 (j + 2) n0 (j + 2) (k :: t) acc 2 v = some (o, opsB2 t, ()) := fun v => by
        cases t with
        | nil => rw [ScG.p27_14_eq, ylt (by simp), sel_t]; exact ⟨_, rfl⟩
        | cons a r =>
          have hl : (k :: a :: r).length = r.length + 2 := rfl
          rw [List.length_cons] at h1
          rw [ScG.p27_14_eq, ndlt (by rw [hl]; omega), sel_f, dec01, sel_t, dlt (by rw [hl]; omega), sel_t, sel_t, beq23, sel_f, ScG.p27_19_eq, Option.isSome_some, sel_t, hd, sel_t, dec02, sel_t, dle (by rw [hl]; omega), sel_t, ext2]
          exact ih r _ (j + 2) n0 (by omega) (hacc _) (by omega)
      have hlk : (k :: t).length = t.length + 1 := rfl
      rw [ScG.p27_2_eq, dgt (by rw [hlk]; omega), sel_t, dec00, sel_t, sel_t]
      show ∃ o, sel (k == kPut) (ScG.p27_14 (j + 2) n0 (j + 2) (k :: t) acc 3 1) (sel (k == kDel) (ScG.p27_14 (j + 2) n0 (j + 2) (k :: t) acc 2 0) (sel (k == kRange) (ScG.p27_14 (j + 2) n0 (j + 2) (k :: t) acc 3 2) (some ([], false, ())))) = some (o, opsB (k :: t), ())
      by_cases c1 : k = kPut
      · subst c1
        have e : opsB (kPut :: t) = opsB3 t := opsB_three (by decide)
        have b1 : (kPut == kPut) = true := by decide
        rw [e, b1, sel_t]
        try rw [sel_t]
        exact three 1
      · by_cases c2 : k = kRange
        · subst c2
          have e : opsB (kRange :: t) = opsB3 t := opsB_three (by decide)
          have b1 : (kRange == kPut) = false := by decide
          have b2 : (kRange == kDel) = false := by decide
          have b3 : (kRange == kRange) = true := by decide
          rw [e, b1, b2, b3, sel_f, sel_f, sel_t]
          exact three 2
        · by_cases c3 : k = kDel
          · subst c3
            have e : opsB (kDel :: t) = opsB2 t := opsB_two (by decide)
            have b1 : (kDel == kPut) = false := by decide
            have b2 : (kDel == kDel) = true := by decide
            rw [e, b1, b2, sel_f, sel_t]
            exact two 0
          · have b1 : (k == kPut) = false := by simpa using c1
            have b2 : (k == kRange) = false := by simpa using c2
            have b3 : (k == kDel) = false := by simpa using c3
            rw [b1, b2, b3, opsB_none b1 b2 b3, sel_f, sel_f, sel_f]
            exact ⟨_, rfl⟩

theorem r_opsOf : ∀ (N : Nat) (ws : List (List UInt8)) (acc : List (Int × (List UInt8 × (List UInt8 × Unit)))) (j n0 : Nat), ws.length ≤ N → acc.length + N ≤ 1048580 → N + 4 ≤ j → ∃ o, ScG.p74_2 j n0 ws acc = some (o, opsB ws, ()) := by
  intro N
  induction N with
  | zero =>
    intro ws acc j n0 h1 h2 h3
    obtain ⟨j, rfl⟩ : ∃ i, j = i + 1 := ⟨j - 1, by omega⟩
    obtain rfl : ws = [] := List.length_eq_zero_iff.1 (by omega)
    rw [ScG.p74_2_eq, ndgt (by simp), sel_f]
    exact ⟨_, rfl⟩
  | succ N ih =>
    intro ws acc j n0 h1 h2 h3
    obtain ⟨j, rfl⟩ : ∃ i, j = i + 3 := ⟨j - 3, by omega⟩
    cases ws with
    | nil => rw [ScG.p74_2_eq, ndgt (by simp), sel_f]; exact ⟨_, rfl⟩
    | cons k t =>
      rw [List.length_cons] at h1
      have hacc : ∀ x : Int × (List UInt8 × (List UInt8 × Unit)), (acc ++ [x]).length + N ≤ 1048580 := fun x => by rw [List.length_append, List.length_singleton]; omega
      have hd : decide (acc.length + 1 ≤ 1073741824) = true := decide_eq_true (by omega)
      have three : ∀ v : Int, ∃ o, ScG.p74_12 (j + 2) n0 (j + 2) (k :: t) acc (some (v, [], [], ())) 3 = some (o, opsB3 t, ()) := fun v => by
        cases t with
        | nil => rw [ScG.p74_12_eq, ylt (by simp), sel_t]; exact ⟨_, rfl⟩
        | cons a t =>
          cases t with
          | nil => rw [ScG.p74_12_eq, ylt (by simp), sel_t]; exact ⟨_, rfl⟩
          | cons b r =>
            have hl : (k :: a :: b :: r).length = r.length + 3 := rfl
            rw [List.length_cons, List.length_cons] at h1
            rw [ScG.p74_12_eq, ndlt (by rw [hl]; omega), sel_f, dec01, sel_t, dlt (by rw [hl]; omega), sel_t, Option.isSome_some, sel_t, beq33, sel_t, dec02, sel_t, dlt (by rw [hl]; omega), sel_t, sel_t, ScG.p74_17_eq, Option.isSome_some, sel_t, dec03, sel_t, dle (by rw [hl]; omega), sel_t, hd, sel_t, ext3]
            exact ih r _ (j + 2) n0 (by omega) (hacc _) (by omega)
      have two : ∀ v : Int, ∃ o, ScG.p74_12 (j + 2) n0 (j + 2) (k :: t) acc (some (v, [], [], ())) 2 = some (o, opsB2 t, ()) := fun v => by
        cases t with
        | nil => rw [ScG.p74_12_eq, ylt (by simp), sel_t]; exact ⟨_, rfl⟩
        | cons a r =>
          have hl : (k :: a :: r).length = r.length + 2 := rfl
          rw [List.length_cons] at h1
          rw [ScG.p74_12_eq, ndlt (by rw [hl]; omega), sel_f, dec01, sel_t, dlt (by rw [hl]; omega), sel_t, Option.isSome_some, sel_t, beq23, sel_f, ScG.p74_17_eq, Option.isSome_some, sel_t, dec02, sel_t, dle (by rw [hl]; omega), sel_t, hd, sel_t, ext2]
          exact ih r _ (j + 2) n0 (by omega) (hacc _) (by omega)
      have hlk : (k :: t).length = t.length + 1 := rfl
      rw [ScG.p74_2_eq, dgt (by rw [hlk]; omega), sel_t, sel_t, dec00, sel_t, sel_t]
      show ∃ o, sel (k == kPut) (sel true (ScG.p74_12 (j + 2) n0 (j + 2) (k :: t) acc (some (1, [], [], ())) 3) none) (sel (k == kRange) (sel true (ScG.p74_12 (j + 2) n0 (j + 2) (k :: t) acc (some (2, [], [], ())) 3) none) (sel (k == kDel) (sel true (ScG.p74_12 (j + 2) n0 (j + 2) (k :: t) acc (some (0, [], [], ())) 2) none) (some ([], false, ())))) = some (o, opsB (k :: t), ())
      by_cases c1 : k = kPut
      · subst c1
        have e : opsB (kPut :: t) = opsB3 t := opsB_three (by decide)
        have b1 : (kPut == kPut) = true := by decide
        rw [e, b1, sel_t]
        try rw [sel_t]
        exact three 1
      · by_cases c2 : k = kRange
        · subst c2
          have e : opsB (kRange :: t) = opsB3 t := opsB_three (by decide)
          have b1 : (kRange == kPut) = false := by decide
          have b3 : (kRange == kRange) = true := by decide
          rw [e, b1, b3, sel_f, sel_t, sel_t]
          exact three 2
        · by_cases c3 : k = kDel
          · subst c3
            have e : opsB (kDel :: t) = opsB2 t := opsB_two (by decide)
            have b1 : (kDel == kPut) = false := by decide
            have b2 : (kDel == kRange) = false := by decide
            have b3 : (kDel == kDel) = true := by decide
            rw [e, b1, b2, b3, sel_f, sel_f, sel_t, sel_t]
            exact two 0
          · have b1 : (k == kPut) = false := by simpa using c1
            have b2 : (k == kRange) = false := by simpa using c2
            have b3 : (k == kDel) = false := by simpa using c3
            rw [b1, b2, b3, opsB_none b1 b2 b3, sel_f, sel_f, sel_f]
            exact ⟨_, rfl⟩

end Sc

/-! ScriptParses: a line's words, told by the program. -/
namespace Sc
open Go Lk NqG ScM

theorem unqR_len (b : List UInt8) : ∀ (n i : Nat) (acc : List UInt8), acc.length ≤ i → (Nq.unqR b n i acc).1.length ≤ b.length := by
  intro n
  induction n with
  | zero => intro i acc h; exact Nat.zero_le _
  | succ n ih =>
    intro i acc h
    have hbad : ∀ k, (Nq.bad k).1.length ≤ b.length := fun k => Nat.zero_le _
    simp only [Nq.unqR]
    cases h1 : Nat.blt i b.length with
    | false => exact hbad _
    | true =>
      rw [Nat.blt_eq] at h1
      simp only [cond_true]
      cases b.getD i 0 == 34 with
      | true =>
        simp only [cond_true]
        cases Nat.blt (i + 1) b.length with
        | true => exact hbad _
        | false =>
          simp only [cond_false]
          cases quote acc == b with
          | true => show acc.length ≤ _; omega
          | false => exact hbad _
      | false =>
        simp only [cond_false]
        cases b.getD i 0 == 92 with
        | true =>
          simp only [cond_true]
          cases h2 : (Nq.escS b i).2 == 0 with
          | true => exact hbad _
          | false =>
            simp only [cond_false]
            have : (Nq.escS b i).2 ≠ 0 := by simpa using h2
            exact ih _ _ (by simp only [List.length_append, List.length_singleton]; omega)
        | false =>
          simp only [cond_false]
          cases ((rn b i == 65533 && sz b i == 1) || !self (rn b i)) with
          | true => exact hbad _
          | false =>
            simp only [cond_false]
            have h2 := decode_le b i h1
            exact ih _ _ (by rw [List.length_append, ext_len b i _ h2]; omega)

theorem unword_len (w : List UInt8) : (Nq.unword w).1.length ≤ w.length := by
  unfold Nq.unword
  cases (Nat.blt 0 w.length && w.getD 0 0 == 34) with
  | true =>
    simp only [cond_true]
    unfold Nq.unquote
    cases (Nat.blt 0 w.length && w.getD 0 0 == 34) with
    | true => exact unqR_len w _ 1 [] (by simp)
    | false => exact Nat.zero_le _
  | false =>
    simp only [cond_false]
    cases (w.isEmpty || decide (Nq.oddS w ≥ 0)) with
    | true => exact Nat.zero_le _
    | false => exact Nat.le_refl _

theorem r_setting (w : List UInt8) (j : Nat) (hj : 3 ≤ j) : ScG.f26 j w = some (fields.contains w, ()) := by
  obtain ⟨j, rfl⟩ : ∃ i, j = i + 3 := ⟨j - 3, by omega⟩
  have last : ∀ b, ScG.p26_2065 (j + 2) (j + 2) b = some (b, ()) := fun b => by
    rw [ScG.p26_2065_eq]
    cases b
    · rw [ScG.p26_18_eq]; rfl
    · rfl
  rw [ScG.f26_eq]
  simp only [last]
  have orS : ∀ b x : Bool, sel b (some (b, ())) (some (x, ())) = some (b || x, ()) := fun b x => by cases b <;> rfl
  simp only [orS]
  simp only [fields, List.contains_cons, List.contains_nil, Bool.or_false]

def kSet : List UInt8 := [115, 101, 116]
def kBatch : List UInt8 := [98, 97, 116, 99, 104]
def kCrash : List UInt8 := [99, 114, 97, 115, 104]
def kSync : List UInt8 := [115, 121, 110, 99]
def kFast : List UInt8 := [102, 97, 115, 116]
def kDisk : List UInt8 := [100, 105, 115, 107]
def kQuota : List UInt8 := [113, 117, 111, 116, 97]
def kSnap : List UInt8 := [115, 110, 97, 112]
def kTake : List UInt8 := [116, 97, 107, 101]
def kOpen : List UInt8 := [111, 112, 101, 110]
def kLook : List UInt8 := [108, 111, 111, 107]
def kList : List UInt8 := [108, 105, 115, 116]
def kGet : List UInt8 := [103, 101, 116]
def kFree : List UInt8 := [102, 114, 101, 101]
def kFirst : List UInt8 := [102, 105, 114, 115, 116]
def kLast : List UInt8 := [108, 97, 115, 116]
def kNext : List UInt8 := [110, 101, 120, 116]
def kPrev : List UInt8 := [112, 114, 101, 118]
def kClose : List UInt8 := [99, 108, 111, 115, 101]
def kRefuse : List UInt8 := [114, 101, 102, 117, 115, 101]
def kCursor : List UInt8 := [99, 117, 114, 115, 111, 114]
def kSeek : List UInt8 := [115, 101, 101, 107]
def kStep : List UInt8 := [115, 116, 101, 112]
def kRun : List UInt8 := [114, 117, 110]

def formsOf (w : List UInt8) : List (List UInt8) :=
  bif w == kDisk || (w == kSnap || (w == kTake || w == kQuota)) then [[110]]
  else bif w == kOpen || (w == kLook || w == kList) then [[]]
  else bif w == kGet then [[110, 119], [110, 119, 110]]
  else bif w == kFree || (w == kFirst || (w == kLast || (w == kNext || (w == kPrev || (w == kClose || w == kRefuse))))) then [[110, 110]]
  else bif w == kCursor then [[110, 110, 119, 119]]
  else bif w == kSeek then [[110, 110, 119]]
  else bif w == kStep then [[116], [116, 99]]
  else bif w == kRun then [[99]]
  else []
def batchB (l : List (List UInt8)) : Bool := Nat.ble 2 l.length && (isNum (l.getD 0 []) && ((l.getD 1 [] == kSync || l.getD 1 [] == kFast) && opsB (l.drop 2)))
def lineB (w : List UInt8) (l : List (List UInt8)) : Bool :=
  bif w == kSet then isSet l else bif w == kBatch then batchB l else bif w == kCrash then l.all isNum else (formsOf w).any fun f => fitB f l

theorem formsOf_len (w : List UInt8) : (formsOf w).length ≤ 2 := by
  unfold formsOf
  generalize (w == kDisk || (w == kSnap || (w == kTake || w == kQuota))) = b1
  generalize (w == kOpen || (w == kLook || w == kList)) = b2
  generalize (w == kGet) = b3
  generalize (w == kFree || (w == kFirst || (w == kLast || (w == kNext || (w == kPrev || (w == kClose || w == kRefuse)))))) = b4
  generalize (w == kCursor) = b5
  generalize (w == kSeek) = b6
  generalize (w == kStep) = b7
  generalize (w == kRun) = b8
  revert b1 b2 b3 b4 b5 b6 b7 b8
  decide

theorem selP {α : Type} (P : Bool → α) (b c : Bool) : sel b (P b) (P c) = P (b || c) := by cases b <;> rfl
theorem q60a (j n0 : Nat) (v : List UInt8) (b c : Bool) : sel b (ScG.p60_2054 j n0 v b) (ScG.p60_2054 j n0 v c) = ScG.p60_2054 j n0 v (b || c) := selP (fun x => ScG.p60_2054 j n0 v x) b c
theorem q60b (j n0 n1 : Nat) (v : List UInt8) (b c : Bool) : sel b (ScG.p60_2058 j n0 n1 v b) (ScG.p60_2058 j n0 n1 v c) = ScG.p60_2058 j n0 n1 v (b || c) := selP (fun x => ScG.p60_2058 j n0 n1 v x) b c
theorem q60c (j n0 n1 n2 : Nat) (v : List UInt8) (b c : Bool) : sel b (ScG.p60_2068 j n0 n1 n2 v b) (ScG.p60_2068 j n0 n1 n2 v c) = ScG.p60_2068 j n0 n1 n2 v (b || c) := selP (fun x => ScG.p60_2068 j n0 n1 n2 v x) b c
theorem sel_some {α β : Type} (b : Bool) (x y : α) (u : β) : sel b (some (x, u)) (some (y, u)) = some (bif b then x else y, u) := by cases b <;> rfl

theorem r_formsOf (w : List UInt8) (j : Nat) (hj : 6 ≤ j) : ScG.f60 j w = some (formsOf w, ()) := by
  obtain ⟨j, rfl⟩ : ∃ i, j = i + 6 := ⟨j - 6, by omega⟩
  rw [ScG.f60_eq]
  simp only [q60a]
  rw [ScG.p60_2054_eq]
  simp only [q60b]
  rw [ScG.p60_2058_eq]
  simp only [q60c]
  rw [ScG.p60_2068_eq, ScG.p60_29_eq]
  simp only [sel_some]
  rfl

theorem ext_all {α : Type} (l : List α) (k : Nat) : Lk.ext l (k : Int) (l.length : Int) = l.drop k := by
  unfold Lk.ext win
  simp only [Int.toNat_natCast]
  rw [List.take_of_length_le]
  simp
theorem ext_take {α : Type} (l : List α) (k : Nat) : Lk.ext l 0 (k : Int) = l.take k := by
  unfold Lk.ext win
  simp
theorem ext_d1 {α : Type} (l : List α) : Lk.ext l 1 (l.length : Int) = l.drop 1 := ext_all l 1
theorem ext_d2 {α : Type} (l : List α) : Lk.ext l 2 (l.length : Int) = l.drop 2 := ext_all l 2
theorem ext_t1 {α : Type} (l : List α) : Lk.ext l 0 1 = l.take 1 := ext_take l 1
theorem ext_t2 {α : Type} (l : List α) : Lk.ext l 0 2 = l.take 2 := ext_take l 2

theorem r_isOps (l : List (List UInt8)) (hb : l.length ≤ 1048576) (j : Nat) (hj : l.length + 10 ≤ j) : ScG.f58 j l = some (opsB l, ()) := by
  obtain ⟨j, rfl⟩ : ∃ i, j = i + 2 := ⟨j - 2, by omega⟩
  obtain ⟨o, h⟩ := r_opsOf l.length l [] j j (Nat.le_refl _) (by simp; omega) (by omega)
  rw [ScG.f58_eq, ScG.f74_eq, h]; rfl

theorem r_line (w : List UInt8) (l : List (List UInt8)) (hb : l.length ≤ 1048576) (m : Nat) (hm : ∀ x ∈ l, x.length ≤ m) (hmb : m ≤ 1048576) (j : Nat) (hj : 5000000 ≤ j) : ScG.f38 j w l = some (lineB w l, ()) := by
  obtain ⟨j, rfl⟩ : ∃ i, j = i + 1 := ⟨j - 1, by omega⟩
  have h56 : ScG.f56 j l = some (isSet l, ()) := by
    rw [ScG.f56_eq]
    have h1 : Nat.ble l.length 1073741824 = true := Nat.ble_eq_true_of_le (by omega)
    have h2 : l.all (fun w => Nat.ble w.length 1073741824) = true := by
      rw [List.all_eq_true]
      exact fun x hx => Nat.ble_eq_true_of_le (by have := hm x hx; omega)
    rw [h1, h2]; rfl
  have h59 : ScG.f59 j l = some (l.all isNum, ()) := f59_ok theFnsN2 l (by omega) m hm (by omega) j (by omega)
  have hfl := formsOf_len w
  have hforms := r_forms (formsOf w) (by omega) l hb m hm hmb (formsOf w).length 0 j j (by omega) (by omega)
  rw [List.drop_zero, show ((0 : Nat) : Int) = 0 from rfl] at hforms
  rw [ScG.f38_eq, h56, ob_some, h59, ob_some, r_formsOf w j (by omega), ob_some, hforms]
  have hbatch : (sel (Decidable.decide ((↑l.length : Int) ≥ (2 : Int)))
     (sel (Decidable.decide ((0 : Int) ≤ (0 : Int)))
      (sel (Decidable.decide ((0 : Int) < (↑l.length : Int)))
       (obind (ScG.f57 j (l.getD (Int.toNat (0 : Int)) [])) fun r228 =>
        (sel (r228.fst)
         (sel (Decidable.decide ((0 : Int) ≤ (1 : Int)))
          (sel (Decidable.decide ((1 : Int) < (↑l.length : Int)))
           (sel (l.getD (Int.toNat (1 : Int)) [] == [(115 : UInt8), (121 : UInt8), (110 : UInt8), (99 : UInt8)])
            (sel (Decidable.decide ((0 : Int) ≤ (2 : Int)))
             (sel (Decidable.decide ((2 : Int) ≤ (↑l.length : Int)))
              (obind (ScG.f58 j (Lk.ext l (2 : Int) (↑l.length : Int))) fun r416 =>
               (some (r416.fst, ())))
              none)
             none)
            (sel (Decidable.decide ((0 : Int) ≤ (1 : Int)))
             (sel (Decidable.decide ((1 : Int) < (↑l.length : Int)))
              (sel (l.getD (Int.toNat (1 : Int)) [] == [(102 : UInt8), (97 : UInt8), (115 : UInt8), (116 : UInt8)])
               (sel (Decidable.decide ((0 : Int) ≤ (2 : Int)))
                (sel (Decidable.decide ((2 : Int) ≤ (↑l.length : Int)))
                 (obind (ScG.f58 j (Lk.ext l (2 : Int) (↑l.length : Int))) fun r561 =>
                  (some (r561.fst, ())))
                 none)
                none)
               (some (Bool.false, ())))
              none)
             none))
           none)
          none)
         (some (Bool.false, ()))))
       none)
      none)
     (some (Bool.false, ()))) = some (batchB l, ()) := by
    unfold batchB
    by_cases h2 : 2 ≤ l.length
    · have h0 : (l.getD 0 []).length ≤ m := by
        rw [List.getD_eq_getElem?_getD, List.getElem?_eq_getElem (by omega)]
        exact hm _ (List.getElem_mem (by omega))
      rw [sel_ite, if_pos (by simp; omega), sel_ite, if_pos (by simp), sel_ite, if_pos (by simp; omega), Int.toNat_zero, r_isNum _ (by omega) j (by omega), ob_some, ext_d2, r_isOps _ (by simp; omega) j (by simp; omega)]
      have d0 : decide ((0 : Int) ≤ 1) = true := by decide
      have d1 : decide ((1 : Int) < (l.length : Int)) = true := decide_eq_true (by omega)
      have d2 : decide ((0 : Int) ≤ 2) = true := by decide
      have d3 : decide ((2 : Int) ≤ (l.length : Int)) = true := decide_eq_true (by omega)
      rw [d0, d1, d2, d3, Nat.ble_eq_true_of_le h2]
      simp only [sel_t, ob_some, Bool.true_and]
      show sel (isNum (l.getD 0 [])) (sel (l.getD 1 [] == kSync) _ (sel (l.getD 1 [] == kFast) _ _)) _ = _
      cases isNum (l.getD 0 []) <;> cases l.getD 1 [] == kSync <;> cases l.getD 1 [] == kFast <;> rfl
    · rw [sel_ite, if_neg (by simp; omega)]
      have : Nat.ble 2 l.length = false := by
        cases h : Nat.ble 2 l.length with
        | false => rfl
        | true => exact absurd (Nat.le_of_ble_eq_true h) h2
      rw [this]; rfl
  rw [hbatch]
  simp only [sel_some]
  rfl
end Sc

/-! ScriptParses: a line's words, told by the document. -/
namespace Sc
open Go Lk NqG ScM

def setB (l : List (List UInt8)) : Bool :=
  bif Nat.ble 2 l.length && l.getD 0 [] == heights then Nat.ble l.length 65 && (l.drop 1).all isNum
  else l.length == 2 && (fields.contains (l.getD 0 []) && (l.drop 1).all isNum)
def batchR (l : List (List UInt8)) : Bool := Nat.ble 2 l.length && ((l.take 1).all isNum && ((l.getD 1 [] == kSync || l.getD 1 [] == kFast) && opsB (l.drop 2)))
def stepR (l : List (List UInt8)) : Bool := Nat.ble 1 l.length && (Nat.ble l.length 2 && ((bif l.length == 2 then stepB (l.getD 1 []) else true) && taskB (l.getD 0 [])))
def rightB (w : List UInt8) (l : List (List UInt8)) : Bool :=
  bif w == kDisk || w == kQuota then l.length == 1 && l.all isNum
  else bif w == kSet then setB l
  else bif w == kOpen || (w == kLook || w == kList) then l.length == 0
  else bif w == kBatch then batchR l
  else bif w == kGet then (l.length == 2 || l.length == 3) && ((l.take 1).all isNum && (l.drop 2).all isNum)
  else bif w == kSnap || w == kTake then l.length == 1 && l.all isNum
  else bif w == kFree || (w == kFirst || (w == kLast || (w == kNext || (w == kPrev || (w == kClose || w == kRefuse))))) then l.length == 2 && l.all isNum
  else bif w == kSeek then l.length == 3 && (l.take 2).all isNum
  else bif w == kCursor then l.length == 4 && (l.take 2).all isNum
  else bif w == kStep then stepR l
  else bif w == kRun then l.length == 1 && stepB (l.getD 0 [])
  else bif w == kCrash then l.all isNum
  else false

theorem q14a (j n0 : Nat) (v1 : List (List UInt8)) (v5 : Int) (v12 : List UInt8) (b c : Bool) : sel b (ScG.p14_2053 j n0 v1 v5 v12 b) (ScG.p14_2053 j n0 v1 v5 v12 c) = ScG.p14_2053 j n0 v1 v5 v12 (b || c) := selP (fun x => ScG.p14_2053 j n0 v1 v5 v12 x) b c
theorem q14b (j n0 n1 : Nat) (v1 : List (List UInt8)) (v5 : Int) (v12 : List UInt8) (b c : Bool) : sel b (ScG.p14_2061 j n0 n1 v1 v5 v12 b) (ScG.p14_2061 j n0 n1 v1 v5 v12 c) = ScG.p14_2061 j n0 n1 v1 v5 v12 (b || c) := selP (fun x => ScG.p14_2061 j n0 n1 v1 v5 v12 x) b c
theorem q14c (j n0 n1 n2 : Nat) (v1 : List (List UInt8)) (v5 : Int) (v12 : List UInt8) (b c : Bool) : sel b (ScG.p14_2071 j n0 n1 n2 v1 v5 v12 b) (ScG.p14_2071 j n0 n1 n2 v1 v5 v12 c) = ScG.p14_2071 j n0 n1 n2 v1 v5 v12 (b || c) := selP (fun x => ScG.p14_2071 j n0 n1 n2 v1 v5 v12 x) b c
theorem q14d (j n0 n1 n2 n3 : Nat) (v1 : List (List UInt8)) (v5 : Int) (v12 : List UInt8) (b c : Bool) : sel b (ScG.p14_2079 j n0 n1 n2 n3 v1 v5 v12 b) (ScG.p14_2079 j n0 n1 n2 n3 v1 v5 v12 c) = ScG.p14_2079 j n0 n1 n2 n3 v1 v5 v12 (b || c) := selP (fun x => ScG.p14_2079 j n0 n1 n2 n3 v1 v5 v12 x) b c

theorem g25 (l : List (List UInt8)) (hb : l.length ≤ 1048576) (j : Nat) (hj : 2000000 ≤ j) : ScG.f25 j l = some (l.all isNum, ()) := r_numbers l (by omega) j (by omega)
theorem int_beq (n k : Nat) : ((n : Int) == (k : Int)) = (n == k) := by
  by_cases h : n = k
  · subst h; simp
  · have h1 : (n == k) = false := by simpa using h
    have h2 : ((n : Int) == (k : Int)) = false := by simp only [beq_eq_false_iff_ne, ne_eq]; omega
    rw [h1, h2]
theorem ble_f {a b : Nat} (h : ¬ a ≤ b) : Nat.ble a b = false := by
  cases e : Nat.ble a b with
  | false => rfl
  | true => exact absurd (Nat.le_of_ble_eq_true e) h
section
variable (l : List (List UInt8)) (hb : l.length ≤ 1048576) (j : Nat) (hj : 3000000 ≤ j)
include hb hj

theorem b_all (k : Nat) (v : Int) (hv : v = (k : Int)) : sel ((l.length : Int) == v) (obind (ScG.f25 j l) fun r => some (r.1, ())) (some (false, ())) = some (l.length == k && l.all isNum, ()) := by
  rw [hv, int_beq, g25 l hb j (by omega), ob_some]
  cases l.length == k <;> rfl

theorem b_two (k : Nat) (hk : 2 ≤ k) (v : Int) (hv : v = (k : Int)) : sel ((l.length : Int) == v) (sel (decide ((0 : Int) ≤ 2)) (sel (decide ((2 : Int) ≤ (l.length : Int))) (obind (ScG.f25 j (Lk.ext l 0 2)) fun r => some (r.1, ())) none) none) (some (false, ())) = some (l.length == k && (l.take 2).all isNum, ()) := by
  rw [hv, int_beq]
  by_cases h : l.length = k
  · rw [dec02, dle (by omega), ext_t2, g25 _ (by simp; omega) j (by omega), ob_some, show (l.length == k) = true by simpa using h]; rfl
  · rw [show (l.length == k) = false by simpa using h]; rfl

theorem b_get (k : Nat) (hk : 2 ≤ k) (v : Int) (hv : v = (k : Int)) (x : Option (Bool × Unit)) : sel ((l.length : Int) == v) (sel (decide ((0 : Int) ≤ 1)) (sel (decide ((1 : Int) ≤ (l.length : Int))) (obind (ScG.f25 j (Lk.ext l 0 1)) fun r => sel r.1 (sel (decide ((0 : Int) ≤ 2)) (sel (decide ((2 : Int) ≤ (l.length : Int))) (obind (ScG.f25 j (Lk.ext l 2 (l.length : Int))) fun r => some (r.1, ())) none) none) (some (false, ()))) none) none) x
    = sel (l.length == k) (some ((l.take 1).all isNum && (l.drop 2).all isNum, ())) x := by
  rw [hv, int_beq]
  by_cases h : l.length = k
  · rw [dec01, dec02, dle (by omega), dle (by omega), ext_t1, ext_d2, g25 _ (by simp; omega) j (by omega), ob_some, g25 _ (by simp; omega) j (by omega), ob_some, show (l.length == k) = true by simpa using h]
    simp only [sel_t]
    cases (l.take 1).all isNum <;> rfl
  · rw [show (l.length == k) = false by simpa using h]; rfl

theorem b_run : sel ((l.length : Int) == 1) (sel (decide ((0 : Int) ≤ 0)) (sel (decide ((0 : Int) < (l.length : Int))) (obind (ScG.f28 j (l.getD (Int.toNat 0) [])) fun r => some (r.1, ())) none) none) (some (false, ())) = some (l.length == 1 && stepB (l.getD 0 []), ()) := by
  rw [show ((l.length : Int) == 1) = (l.length == 1) from int_beq l.length 1]
  by_cases h : l.length = 1
  · rw [dec00, dlt (by omega), r_steps _ j (by omega), ob_some, show (l.length == 1) = true by simpa using h]; rfl
  · rw [show (l.length == 1) = false by simpa using h]; rfl

theorem b_zero : (some (((l.length : Int) == 0), ()) : Option (Bool × Unit)) = some (l.length == 0, ()) := by
  rw [show ((l.length : Int) == 0) = (l.length == 0) from int_beq l.length 0]

theorem b_step (n0 n1 n2 n3 : Nat) : sel (decide ((l.length : Int) < 1)) (ScG.p14_2086 j n0 n1 n2 n3 j l true) (sel (decide ((l.length : Int) > 2)) (ScG.p14_2086 j n0 n1 n2 n3 j l true) (sel ((l.length : Int) == 2) (sel (decide ((0 : Int) ≤ 1)) (sel (decide ((1 : Int) < (l.length : Int))) (obind (ScG.f28 j (l.getD (Int.toNat 1) [])) fun r => ScG.p14_2086 j n0 n1 n2 n3 j l (!r.1)) none) none) (ScG.p14_2086 j n0 n1 n2 n3 j l false)))
    = some (stepR l, ()) := by
  obtain ⟨j, rfl⟩ : ∃ i, j = i + 2 := ⟨j - 2, by omega⟩
  have yes : ScG.p14_2086 (j + 2) n0 n1 n2 n3 (j + 2) l true = some (false, ()) := by rw [ScG.p14_2086_eq]; rfl
  have no : 1 ≤ l.length → ScG.p14_2086 (j + 2) n0 n1 n2 n3 (j + 2) l false = some (taskB (l.getD 0 []), ()) := fun h => by
    obtain ⟨v, e⟩ := r_task (l.getD 0 []) (j + 1) (by omega)
    rw [ScG.p14_2086_eq, sel_f, ScG.p14_39_eq, dec00, dlt (by omega), sel_t, sel_t, Int.toNat_zero, e]; rfl
  rw [show ((l.length : Int) == 2) = (l.length == 2) from int_beq l.length 2, yes]
  unfold stepR
  by_cases h1 : 1 ≤ l.length
  · rw [show decide ((l.length : Int) < 1) = false from decide_eq_false (by omega), sel_f, Nat.ble_eq_true_of_le h1]
    by_cases h2 : l.length ≤ 2
    · rw [show decide ((l.length : Int) > 2) = false from decide_eq_false (by omega), sel_f, Nat.ble_eq_true_of_le h2, no h1]
      by_cases h3 : l.length = 2
      · rw [show (l.length == 2) = true by simpa using h3, dec01, dlt (by omega), sel_t, sel_t, sel_t, r_steps _ (j + 2) (by omega), ob_some]
        simp only [show Int.toNat 1 = 1 from rfl, cond_true, Bool.true_and]
        cases stepB (l.getD 1 []) with
        | true => simp only [Bool.not_true, Bool.true_and]; exact no h1
        | false => simp only [Bool.not_false, Bool.false_and]; exact yes
      · rw [show (l.length == 2) = false by simpa using h3]; rfl
    · rw [show decide ((l.length : Int) > 2) = true from decide_eq_true (by omega), sel_t, ble_f h2]; rfl
  · rw [show decide ((l.length : Int) < 1) = true from decide_eq_true (by omega), sel_t, ble_f h1]; rfl

theorem b_batch (n0 n1 : Nat) : sel (decide ((l.length : Int) < 2)) (ScG.p14_2064 j n0 n1 j l true) (sel (decide ((0 : Int) ≤ 1)) (sel (decide ((1 : Int) ≤ (l.length : Int))) (obind (ScG.f25 j (Lk.ext l 0 1)) fun r => sel (!r.1) (ScG.p14_2064 j n0 n1 j l true) (sel (decide ((0 : Int) ≤ 1)) (sel (decide ((1 : Int) < (l.length : Int))) (sel (!l.getD (Int.toNat 1) [] == [115, 121, 110, 99]) (sel (decide ((0 : Int) ≤ 1)) (sel (decide ((1 : Int) < (l.length : Int))) (ScG.p14_2064 j n0 n1 j l (!l.getD (Int.toNat 1) [] == [102, 97, 115, 116])) none) none) (ScG.p14_2064 j n0 n1 j l false)) none) none)) none) none)
    = some (batchR l, ()) := by
  obtain ⟨j, rfl⟩ : ∃ i, j = i + 3 := ⟨j - 3, by omega⟩
  have yes : ScG.p14_2064 (j + 3) n0 n1 (j + 3) l true = some (false, ()) := by rw [ScG.p14_2064_eq]; rfl
  have no : 2 ≤ l.length → ScG.p14_2064 (j + 3) n0 n1 (j + 3) l false = some (opsB (l.drop 2), ()) := fun h => by
    obtain ⟨o, e⟩ := r_ops (l.drop 2).length (l.drop 2) [] (j + 1) (j + 1) (Nat.le_refl _) (by simp; omega) (by simp; omega)
    rw [ScG.p14_2064_eq, sel_f, ScG.p14_17_eq, dec02, dle (by omega), sel_t, sel_t, ext_d2, ScG.f27_eq, e]; rfl
  rw [yes]
  unfold batchR
  by_cases h2 : 2 ≤ l.length
  · rw [show decide ((l.length : Int) < 2) = false from decide_eq_false (by omega), sel_f, dec01, dle (by omega), dlt (by omega), ext_t1, g25 _ (by simp; omega) (j + 3) (by omega), ob_some, no h2, Nat.ble_eq_true_of_le h2]
    simp only [sel_t, Bool.true_and]
    show sel (!(l.take 1).all isNum) _ (sel (!(l.getD 1 [] == kSync)) (ScG.p14_2064 (j + 3) n0 n1 (j + 3) l (!(l.getD 1 [] == kFast))) _) = _
    cases (l.take 1).all isNum with
    | false => rfl
    | true =>
      simp only [Bool.not_true, sel_f, Bool.true_and]
      cases l.getD 1 [] == kSync with
      | true => rfl
      | false =>
        simp only [Bool.not_false, sel_t, Bool.false_or]
        cases l.getD 1 [] == kFast with
        | true => simp only [Bool.not_true, Bool.true_and]; exact no h2
        | false => simp only [Bool.not_false, Bool.false_and]; exact yes
  · rw [show decide ((l.length : Int) < 2) = true from decide_eq_true (by omega), sel_t, ble_f h2]; rfl

theorem b_set (n0 : Nat) : sel (decide ((l.length : Int) ≥ 2)) (sel (decide ((0 : Int) ≤ 0)) (sel (decide ((0 : Int) < (l.length : Int))) (ScG.p14_2056 j n0 j l (l.length : Int) (l.getD (Int.toNat 0) [] == [104, 101, 105, 103, 104, 116, 115])) none) none) (ScG.p14_2056 j n0 j l (l.length : Int) false)
    = some (setB l, ()) := by
  obtain ⟨j, rfl⟩ : ∃ i, j = i + 3 := ⟨j - 3, by omega⟩
  have yes : 2 ≤ l.length → ScG.p14_2056 (j + 3) n0 (j + 3) l (l.length : Int) true = some (Nat.ble l.length 65 && (l.drop 1).all isNum, ()) := fun h => by
    rw [ScG.p14_2056_eq, sel_t, dec01, dle (by omega), ext_d1, g25 _ (by simp; omega) (j + 2) (by omega), ob_some]
    by_cases h2 : l.length ≤ 65
    · rw [decide_eq_true (by omega), Nat.ble_eq_true_of_le h2]; rfl
    · rw [decide_eq_false (by omega), ble_f h2]; rfl
  have no : ScG.p14_2056 (j + 3) n0 (j + 3) l (l.length : Int) false = some (l.length == 2 && (fields.contains (l.getD 0 []) && (l.drop 1).all isNum), ()) := by
    rw [ScG.p14_2056_eq, sel_f, ScG.p14_9_eq, show ((l.length : Int) == 2) = (l.length == 2) from int_beq l.length 2]
    by_cases h : l.length = 2
    · rw [dec00, dec01, dlt (by omega), dle (by omega), ext_d1, r_setting _ (j + 2) (by omega), ob_some, g25 _ (by simp; omega) (j + 2) (by omega), ob_some, show (l.length == 2) = true by simpa using h]
      simp only [sel_t, Bool.true_and, Int.toNat_zero]
      cases fields.contains (l.getD 0 []) <;> rfl
    · rw [show (l.length == 2) = false by simpa using h]; rfl
  unfold setB
  by_cases h2 : 2 ≤ l.length
  · rw [show decide ((l.length : Int) ≥ 2) = true from decide_eq_true (by omega), dec00, dlt (by omega), sel_t, sel_t, sel_t, Nat.ble_eq_true_of_le h2, Bool.true_and, Int.toNat_zero]
    show ScG.p14_2056 _ _ _ _ _ (l.getD 0 [] == heights) = _
    cases l.getD 0 [] == heights with
    | true => exact yes h2
    | false => exact no
  · rw [show decide ((l.length : Int) ≥ 2) = false from decide_eq_false (by omega), sel_f, ble_f h2]
    exact no
end

theorem r_right (w : List UInt8) (l : List (List UInt8)) (hb : l.length ≤ 1048576) (j : Nat) (hj : 5000000 ≤ j) : ScG.f14 j w l = some (rightB w l, ()) := by
  obtain ⟨j, rfl⟩ : ∃ i, j = i + 6 := ⟨j - 6, by omega⟩
  rw [ScG.f14_eq, q14a, ScG.p14_2053_eq]
  simp only [q14b]
  rw [b_all l hb (j + 4) (by omega) 1 1 rfl, b_set l hb (j + 4) (by omega), ScG.p14_2061_eq]
  simp only [q14c]
  rw [b_zero l hb (j + 3) (by omega), b_batch l hb (j + 3) (by omega), b_get l hb (j + 3) (by omega) 2 (by omega) 2 rfl, b_get l hb (j + 3) (by omega) 3 (by omega) 3 rfl, ScG.p14_2071_eq]
  simp only [q14d]
  rw [b_all l hb (j + 2) (by omega) 1 1 rfl, ScG.p14_2079_eq]
  rw [b_all l hb (j + 1) (by omega) 2 2 rfl, b_two l hb (j + 1) (by omega) 3 (by omega) 3 rfl, b_two l hb (j + 1) (by omega) 4 (by omega) 4 rfl, b_step l hb (j + 1) (by omega), b_run l hb (j + 1) (by omega), g25 l hb (j + 1) (by omega), ob_some, ScG.p14_45_eq]
  have hget : sel (l.length == 2) (some ((l.take 1).all isNum && (l.drop 2).all isNum, ())) (sel (l.length == 3) (some ((l.take 1).all isNum && (l.drop 2).all isNum, ())) (some (false, ()))) = some ((l.length == 2 || l.length == 3) && ((l.take 1).all isNum && (l.drop 2).all isNum), ()) := by
    cases l.length == 2 <;> cases l.length == 3 <;> rfl
  rw [hget]
  simp only [sel_some]
  rfl

/-! Both tell the same. -/
def allW : List (List UInt8) := [kSet, kBatch, kCrash, kDisk, kQuota, kSnap, kTake, kOpen, kLook, kList, kGet, kFree, kFirst, kLast, kNext, kPrev, kClose, kRefuse, kCursor, kSeek, kStep, kRun]

theorem set_same (l : List (List UInt8)) : setB l = isSet l := by
  unfold setB isSet
  match l with
  | [] => rfl
  | [a] => rfl
  | [a, b] =>
    show (bif Nat.ble 2 2 && a == heights then Nat.ble 2 65 && (isNum b && true) else (2 == 2 && (fields.contains a && (isNum b && true)))) = (bif Nat.blt 2 2 || !(isNum b && true) then false else bif a == heights then Nat.ble 2 65 else (2 == 2 && fields.contains a))
    cases isNum b <;> cases a == heights <;> cases fields.contains a <;> rfl
  | a :: b :: c :: r =>
    have h1 : Nat.ble 2 (a :: b :: c :: r).length = true := Nat.ble_eq_true_of_le (by simp)
    have h2 : Nat.blt (a :: b :: c :: r).length 2 = false := Nq.blt_f (by simp)
    have h3 : ((a :: b :: c :: r).length == 2) = false := by simp
    rw [h1, h2, h3]
    cases ((a :: b :: c :: r).drop 1).all isNum <;> cases (a :: b :: c :: r).getD 0 [] == heights <;> simp

theorem batch_same (l : List (List UInt8)) : batchR l = batchB l := by
  unfold batchR batchB
  match l with
  | [] => rfl
  | a :: r => simp

theorem fit_step (l : List (List UInt8)) : [[116], [116, 99]].any (fun f => fitB f l) = stepR l := by
  have e11 : Nat.ble 1 1 = true := rfl
  have e12 : Nat.ble 1 2 = true := rfl
  have e22 : Nat.ble 2 2 = true := rfl
  match l with
  | [] => rfl
  | [a] => simp [fitB, fitC, stepR, e11, e12]
  | [a, b] => simp [fitB, fitC, stepR, Bool.and_comm, e12, e22]
  | a :: b :: c :: r => simp [fitB, stepR]

theorem same (w : List UInt8) (l : List (List UInt8)) : rightB w l = lineB w l := by
  by_cases h : w ∈ allW
  · simp only [allW, List.mem_cons, List.not_mem_nil, or_false] at h
    have f1 : [[110]].any (fun f => fitB f l) = (l.length == 1 && l.all isNum) := by
      match l with
      | [] => rfl
      | [a] => simp [fitB, fitC]
      | a :: b :: r => simp [fitB]
    have f0 : [[]].any (fun f => fitB f l) = (l.length == 0) := by
      match l with
      | [] => rfl
      | a :: r => simp [fitB]
    have fg : [[110, 119], [110, 119, 110]].any (fun f => fitB f l) = ((l.length == 2 || l.length == 3) && ((l.take 1).all isNum && (l.drop 2).all isNum)) := by
      match l with
      | [] => rfl
      | [a] => simp [fitB]
      | [a, b] => simp [fitB, fitC]
      | [a, b, c] => simp [fitB, fitC]
      | a :: b :: c :: d :: r => simp [fitB]
    have f2 : [[110, 110]].any (fun f => fitB f l) = (l.length == 2 && l.all isNum) := by
      match l with
      | [] => rfl
      | [a] => simp [fitB]
      | [a, b] => simp [fitB, fitC]
      | a :: b :: c :: r => simp [fitB]
    have f3 : [[110, 110, 119]].any (fun f => fitB f l) = (l.length == 3 && (l.take 2).all isNum) := by
      match l with
      | [] => rfl
      | [a] => simp [fitB]
      | [a, b] => simp [fitB]
      | [a, b, c] => simp [fitB, fitC]
      | a :: b :: c :: d :: r => simp [fitB]
    have f4 : [[110, 110, 119, 119]].any (fun f => fitB f l) = (l.length == 4 && (l.take 2).all isNum) := by
      match l with
      | [] => rfl
      | [a] => simp [fitB]
      | [a, b] => simp [fitB]
      | [a, b, c] => simp [fitB]
      | [a, b, c, d] => simp [fitB, fitC]
      | a :: b :: c :: d :: e :: r => simp [fitB]
    have fr : [[99]].any (fun f => fitB f l) = (l.length == 1 && stepB (l.getD 0 [])) := by
      match l with
      | [] => rfl
      | [a] => simp [fitB, fitC]
      | a :: b :: r => simp [fitB]
    rcases h with rfl | rfl | rfl | rfl | rfl | rfl | rfl | rfl | rfl | rfl | rfl | rfl | rfl | rfl | rfl | rfl | rfl | rfl | rfl | rfl | rfl | rfl
    · exact set_same l
    · exact batch_same l
    · rfl
    · exact f1.symm
    · exact f1.symm
    · exact f1.symm
    · exact f1.symm
    · exact f0.symm
    · exact f0.symm
    · exact f0.symm
    · exact fg.symm
    · exact f2.symm
    · exact f2.symm
    · exact f2.symm
    · exact f2.symm
    · exact f2.symm
    · exact f2.symm
    · exact f2.symm
    · exact f4.symm
    · exact f3.symm
    · exact (fit_step l).symm
    · exact fr.symm
  · have hb : ∀ k ∈ allW, (w == k) = false := fun k hk => by
      simp only [beq_eq_false_iff_ne, ne_eq]
      exact fun e => h (e ▸ hk)
    unfold rightB lineB formsOf
    rw [hb kSet (by decide), hb kBatch (by decide), hb kCrash (by decide), hb kDisk (by decide), hb kQuota (by decide), hb kSnap (by decide), hb kTake (by decide), hb kOpen (by decide), hb kLook (by decide), hb kList (by decide), hb kGet (by decide), hb kFree (by decide), hb kFirst (by decide), hb kLast (by decide), hb kNext (by decide), hb kPrev (by decide), hb kClose (by decide), hb kRefuse (by decide), hb kCursor (by decide), hb kSeek (by decide), hb kStep (by decide), hb kRun (by decide)]
    rfl
end Sc

/-! ScriptParses: lines, read by the program and by the document. -/
namespace Sc
open Go Lk NqG ScM

def meanL : List (List UInt8) → Option (List (List UInt8))
  | [] => some []
  | w :: ws => bif (Nq.unword w).2.2.1 != 0 then none else (meanL ws).map fun ms => (Nq.unword w).1 :: ms

theorem meanL_len : ∀ (ws ms : List (List UInt8)), meanL ws = some ms → ms.length = ws.length
  | [], ms, h => by cases h; rfl
  | w :: ws, ms, h => by
    simp only [meanL] at h
    cases hc : (Nq.unword w).2.2.1 != 0 with
    | true => rw [hc] at h; cases h
    | false =>
      rw [hc, cond_false, Option.map_eq_some_iff] at h
      obtain ⟨q, h1, rfl⟩ := h
      simp [meanL_len ws q h1]

theorem meanL_short (m : Nat) : ∀ (ws ms : List (List UInt8)), meanL ws = some ms → (∀ w ∈ ws, w.length ≤ m) → ∀ x ∈ ms, x.length ≤ m
  | [], ms, h, _ => by cases h; simp
  | w :: ws, ms, h, hw => by
    simp only [meanL] at h
    cases hc : (Nq.unword w).2.2.1 != 0 with
    | true => rw [hc] at h; cases h
    | false =>
      rw [hc, cond_false, Option.map_eq_some_iff] at h
      obtain ⟨q, h1, rfl⟩ := h
      intro x hx
      rcases List.mem_cons.1 hx with rfl | hx
      · exact Nat.le_trans (unword_len w) (hw w (List.mem_cons_self ..))
      · exact meanL_short m ws q h1 (fun w hw2 => hw w (List.mem_cons_of_mem _ hw2)) x hx

def readB (s : List UInt8) : Option (Option (List UInt8 × List (List UInt8))) :=
  bif (splitW s).2.2.1 != 0 then none else
  match (splitW s).1 with
  | [] => some none
  | w :: ws => bif w.getD 0 0 == 35 then some none else
    match meanL (w :: ws) with
    | some (v :: vs) => bif lineB v vs then some (some (v, vs)) else none
    | _ => none

theorem getD_mid {α : Type} (pre : List α) (w : α) (r : List α) (d : α) : (pre ++ w :: r).getD (Int.toNat (pre.length : Int)) d = w := by
  rw [Int.toNat_natCast, List.getD_eq_getElem?_getD, List.getElem?_append_right (Nat.le_refl _)]
  simp
theorem set_mid {α : Type} (pre : List α) (w x : α) (r : List α) : (pre ++ w :: r).set (Int.toNat (pre.length : Int)) x = (pre ++ [x]) ++ r := by
  rw [Int.toNat_natCast, List.set_append_right _ _ (Nat.le_refl _)]
  simp

abbrev LineT := List UInt8 × List (List UInt8) × Unit
abbrev ReadT := LineT × Bool × Bool × Unit
abbrev noL : LineT := ([], [], ())

theorem r_read_loop (m : Nat) (hm : m ≤ 1048576) (n0 n1 : Nat) (b : Bool) (n : Nat) (hn : n ≤ 1073741824) : ∀ (ws pre : List (List UInt8)) (i : Nat), (pre ++ ws).length = n → (∀ w ∈ ws, w.length ≤ m) → m + 31 ≤ i →
    ScG.p21_7 (i + ws.length) n0 n1 (some noL) (pre ++ ws) b (n : Int) (pre.length : Int) = (match meanL ws with | none => some (noL, false, true, ()) | some ms => ScG.p21_7 i n0 n1 (some noL) (pre ++ ms) b (n : Int) (n : Int))
  | [], pre, i, h, _, _ => by
    rw [List.append_nil] at h
    simp only [meanL, List.append_nil, List.length_nil, Nat.add_zero, h]
  | w :: ws, pre, i, h, hw, hi => by
    have hlen : (pre ++ w :: ws).length = n := h
    have h' : n = pre.length + (ws.length + 1) := by rw [← h]; simp
    have hw0 := hw w (List.mem_cons_self ..)
    have w1 : IntKind.i64.wrap ((pre.length : Int) + 1) = (((pre ++ [(Nq.unword w).1]).length : Nat) : Int) := by rw [wrap64 (by omega) (by omega)]; simp
    rw [List.length_cons, ← Nat.add_assoc, ScG.p21_7_eq, sel_ite, if_pos (by simp; omega), sel_ite, if_pos (by simp), sel_ite, if_pos (by simp; omega), getD_mid, r_unword w (by omega) (i + ws.length) (by omega), ob_some, sel_ite, if_pos (by simp), sel_ite, if_pos (by simp; omega), set_mid, w1]
    simp only [meanL]
    cases hc : (Nq.unword w).2.2.1 != 0 with
    | true => rfl
    | false =>
      simp only [sel_f, cond_false]
      rw [r_read_loop m hm n0 n1 b n hn ws (pre ++ [(Nq.unword w).1]) i (by simp; omega) (fun x hx => hw x (List.mem_cons_of_mem _ hx)) hi]
      cases meanL ws with
      | none => rfl
      | some ms => simp only [Option.map_some, List.append_assoc, List.cons_append, List.nil_append]

def readR : Option (Option (List UInt8 × List (List UInt8))) → ReadT
  | none => (noL, false, true, ())
  | some none => (noL, true, false, ())
  | some (some (v, vs)) => ((v, vs, ()), false, false, ())

theorem fine_words (s : List UInt8) (w : List UInt8) (ws : List (List UInt8)) (h : (splitW s).1 = w :: ws) : (∀ x ∈ w :: ws, x.length ≤ s.length) ∧ w ≠ [] ∧ ws.length ≤ s.length := by
  have h1 := split_fine s
  have h2 := split_len s
  rw [h] at h1 h2
  exact ⟨fun x hx => (h1 x hx).1, (h1 w (List.mem_cons_self ..)).2, by simpa using h2⟩

theorem r_read (s : List UInt8) (hs : s.length ≤ 1048576) (n : Nat) (hn : 20000000 ≤ n) : ScG.f21 n s = some (readR (readB s)) := by
  obtain ⟨n, rfl⟩ : ∃ i, n = i + 3 := ⟨n - 3, by omega⟩
  rw [ScG.f21_eq, r_split s hs (n + 2) (by omega), ob_some]
  unfold readB
  cases hc : (splitW s).2.2.1 != 0 with
  | true => rfl
  | false =>
    simp only [sel_f, cond_false]
    cases hw : (splitW s).1 with
    | nil => rw [sel_ite, if_pos (by simp), ScG.p21_2053_eq]; rfl
    | cons w ws =>
      obtain ⟨g1, g2, g3⟩ := fine_words s w ws hw
      obtain ⟨c, w', rfl⟩ : ∃ c w', w = c :: w' := by
        cases w with
        | nil => exact absurd rfl g2
        | cons c l => exact ⟨c, l, rfl⟩
      rw [sel_ite, if_neg (by simp; omega), sel_ite, if_pos (by simp), sel_ite, if_pos (by simp), sel_ite, if_pos (by simp), sel_ite, if_pos (by simp), b_eq]
      show ScG.p21_2053 (n + 2) (n + 2) (some noL) ((c :: w') :: ws) ((c :: w').getD 0 0 == 35) = _
      simp only
      cases h35 : (c :: w').getD 0 0 == 35 with
      | true => rw [ScG.p21_2053_eq]; rfl
      | false =>
        rw [ScG.p21_2053_eq, sel_f, ScG.p21_6_eq]
        have hl := r_read_loop s.length hs (n + 2) (n + 1) false (ws.length + 1) (by omega) ((c :: w') :: ws) [] (n + 1 - (ws.length + 1)) (by simp) g1 (by omega)
        rw [show n + 1 - (ws.length + 1) + ((c :: w') :: ws).length = n + 1 by simp only [List.length_cons]; omega] at hl
        rw [List.nil_append, List.length_nil, show ((0 : Nat) : Int) = 0 from rfl] at hl
        rw [List.length_cons, hl]
        cases hml : meanL ((c :: w') :: ws) with
        | none => rfl
        | some ms =>
          have hmlen := meanL_len _ _ hml
          have hms := meanL_short s.length _ _ hml g1
          cases ms with
          | nil => simp at hmlen
          | cons v vs =>
            have hvl : vs.length = ws.length := by simpa using hmlen
            obtain ⟨k, hk⟩ : ∃ k, n + 1 - (ws.length + 1) = k + 1 := ⟨n + 1 - (ws.length + 1) - 1, by omega⟩
            simp only [List.nil_append]
            rw [hk, ScG.p21_7_eq, sel_ite, if_neg (by simp), sel_ite, if_pos (by simp), sel_ite, if_pos (by simp), sel_ite, if_pos (by simp), sel_ite, if_pos (by simp; omega), ext_d1]
            show obind (ScG.f38 (n + 1) v vs) _ = _
            rw [r_line v vs (by omega) s.length (fun x hx => hms x (List.mem_cons_of_mem _ hx)) hs (n + 1) (by omega), ob_some]
            cases hlb : lineB v vs with
            | false => rfl
            | true =>
              simp only [Bool.not_true, sel_f, cond_true]
              rw [sel_ite, if_pos (by simp), sel_ite, if_pos (by simp), sel_ite, if_pos (by simp), sel_ite, if_pos (by simp; omega)]
              rfl

theorem readB_len (s v : List UInt8) (vs : List (List UInt8)) (h : readB s = some (some (v, vs))) : vs.length ≤ s.length := by
  unfold readB at h
  cases hc : (splitW s).2.2.1 != 0 with
  | true => rw [hc] at h; cases h
  | false =>
    rw [hc, cond_false] at h
    cases hw : (splitW s).1 with
    | nil => rw [hw] at h; cases h
    | cons w ws =>
      rw [hw] at h
      obtain ⟨g1, g2, g3⟩ := fine_words s w ws hw
      simp only at h
      cases h35 : w.getD 0 0 == 35 with
      | true => rw [h35] at h; cases h
      | false =>
        rw [h35, cond_false] at h
        cases hml : meanL (w :: ws) with
        | none => rw [hml] at h; cases h
        | some ms =>
          have hmlen := meanL_len _ _ hml
          rw [hml] at h
          cases ms with
          | nil => cases h
          | cons a tl =>
            simp only at h
            cases hl : lineB a tl with
            | false => rw [hl] at h; cases h
            | true =>
              rw [hl] at h
              cases h
              simp at hmlen
              omega

abbrev PlT := LineT × Int × Unit
abbrev RefT := Int × List UInt8 × List (List UInt8) × Unit
abbrev ItT := Nat × List UInt8 × List (List UInt8)
def toP (x : ItT) : PlT := ((x.2.1, x.2.2, ()), (x.1 : Int), ())
def toR (x : ItT) : RefT := ((x.1 : Int), x.2.1, x.2.2, ())
def goB : List (List UInt8) → Nat → List ItT → List ItT × Int × Int
  | [], _, acc => (acc, 0, 0)
  | s :: L, i, acc => match readB s with
    | none => ([], (i : Int), 270)
    | some none => goB L (i + 1) acc
    | some (some x) => goB L (i + 1) (acc ++ [(i, x)])

theorem goB_len : ∀ (L : List (List UInt8)) (i : Nat) (acc : List ItT), (goB L i acc).1.length ≤ acc.length + L.length
  | [], i, acc => by simp [goB]
  | s :: L, i, acc => by
    simp only [goB]
    cases readB s with
    | none => simp
    | some o =>
      cases o with
      | none => have := goB_len L (i + 1) acc; simp only [List.length_cons]; omega
      | some x => have := goB_len L (i + 1) (acc ++ [(i, x)]); simp only [List.length_cons, List.length_append, List.length_nil] at this ⊢; omega

theorem goB_rows (m : Nat) : ∀ (L : List (List UInt8)) (i : Nat) (acc : List ItT), (∀ s ∈ L, s.length ≤ m) → (∀ x ∈ acc, x.2.2.length ≤ m) → ∀ x ∈ (goB L i acc).1, x.2.2.length ≤ m
  | [], i, acc, _, h => by simpa [goB] using h
  | s :: L, i, acc, hL, h => by
    have hL2 : ∀ s ∈ L, s.length ≤ m := fun x hx => hL x (List.mem_cons_of_mem _ hx)
    simp only [goB]
    cases hr : readB s with
    | none => intro x hx; simp at hx
    | some o =>
      cases o with
      | none => exact goB_rows m L (i + 1) acc hL2 h
      | some y =>
        refine goB_rows m L (i + 1) _ hL2 fun x hx => ?_
        rcases List.mem_append.1 hx with hx | hx
        · exact h x hx
        · obtain rfl := List.mem_singleton.1 hx
          exact Nat.le_trans (readB_len s y.1 y.2 hr) (hL s (List.mem_cons_self ..))

theorem p_loop (n0 : Nat) (n : Nat) (hn : n ≤ 1048600) (K : Nat) (hK : 20000001 ≤ K) : ∀ (L pre : List (List UInt8)) (acc : List ItT), (pre ++ L).length = n → (∀ s ∈ L, s.length ≤ 1048576) → acc.length ≤ pre.length →
    ScG.p10_5 (K + L.length) n0 (acc.map toP) (pre ++ L) (n : Int) (pre.length : Int) = some ((goB L pre.length acc).1.map toP, (goB L pre.length acc).2.1, (goB L pre.length acc).2.2, ())
  | [], pre, acc, h, _, _ => by
    obtain ⟨K, rfl⟩ : ∃ k, K = k + 1 := ⟨K - 1, by omega⟩
    rw [List.append_nil] at h
    rw [List.length_nil, Nat.add_zero, ScG.p10_5_eq, sel_ite, if_neg (by simp; omega)]
    rfl
  | s :: L, pre, acc, h, hL, hacc => by
    have h' : n = pre.length + (L.length + 1) := by rw [← h]; simp
    have w1 : IntKind.i64.wrap ((pre.length : Int) + 1) = (((pre ++ [s]).length : Nat) : Int) := by rw [wrap64 (by omega) (by omega)]; simp
    have next : ∀ acc' : List ItT, acc'.length ≤ pre.length + 1 → ScG.p10_13 (K + L.length) n0 (K + L.length) (acc'.map toP) (pre ++ s :: L) (n : Int) (pre.length : Int) = some ((goB L (pre.length + 1) acc').1.map toP, (goB L (pre.length + 1) acc').2.1, (goB L (pre.length + 1) acc').2.2, ()) := fun acc' h2 => by
      obtain ⟨K', hK'⟩ : ∃ k, K + L.length = k + 1 := ⟨K + L.length - 1, by omega⟩
      have e := p_loop n0 n hn K hK L (pre ++ [s]) acc' (by simp; omega) (fun x hx => hL x (List.mem_cons_of_mem _ hx)) (by simp; omega)
      rw [List.append_assoc, List.cons_append, List.nil_append] at e
      have e2 : (pre ++ [s]).length = pre.length + 1 := by simp
      rw [e2] at e
      rw [hK'] at e ⊢
      rw [ScG.p10_13_eq, w1, e2, e]
    rw [List.length_cons, ← Nat.add_assoc, ScG.p10_5_eq, sel_ite, if_pos (by simp; omega), sel_ite, if_pos (by simp), sel_ite, if_pos (by simp; omega), getD_mid, r_read s (hL s (List.mem_cons_self ..)) (K + L.length) (by omega), ob_some, sel_t]
    simp only [goB]
    cases readB s with
    | none => rfl
    | some o =>
      cases o with
      | none => simp only [readR, Bool.not_true, sel_f]; exact next acc (by omega)
      | some x =>
        obtain ⟨v, vs⟩ := x
        simp only [readR, Bool.not_false, sel_f, sel_t, Option.isSome_some, Option.getD_some]
        rw [sel_ite, if_pos (by simp; omega), show acc.map toP ++ [((v, vs, ()), (pre.length : Int), ())] = (acc ++ [(pre.length, v, vs)]).map toP by simp [toP]]
        exact next _ (by simp; omega)

theorem d_words (m : Nat) (hm : m ≤ 1048576) (n0 n1 n2 : Nat) (a : List RefT) (L : List (List UInt8)) (at_ : Int) (n : Nat) (hn : n ≤ 1048600) : ∀ (ws pre acc : List (List UInt8)) (i : Nat), (pre ++ ws).length = n → (∀ w ∈ ws, w.length ≤ m) → acc.length = pre.length → 2 * m + 91 ≤ i →
    ScG.p6_14 (i + ws.length) n0 n1 n2 a L at_ (pre ++ ws) acc (pre.length : Int) = (match meanL ws with | none => some ([], at_, 270, ()) | some ms => ScG.p6_14 i n0 n1 n2 a L at_ (pre ++ ws) (acc ++ ms) (n : Int))
  | [], pre, acc, i, h, _, _, _ => by
    rw [List.append_nil] at h
    simp only [meanL, List.append_nil, List.length_nil, Nat.add_zero, h]
  | w :: ws, pre, acc, i, h, hw, ha, hi => by
    have h' : n = pre.length + (ws.length + 1) := by rw [← h]; simp
    have hw0 := hw w (List.mem_cons_self ..)
    have w1 : IntKind.i64.wrap ((pre.length : Int) + 1) = (((pre ++ [w]).length : Nat) : Int) := by rw [wrap64 (by omega) (by omega)]; simp
    rw [List.length_cons, ← Nat.add_assoc, ScG.p6_14_eq, sel_ite, if_pos (by simp; omega), sel_ite, if_pos (by simp), sel_ite, if_pos (by simp; omega), getD_mid, r_unword2 w (by omega) (i + ws.length) (by omega), ob_some, w1]
    simp only [meanL]
    cases hc : (Nq.unword w).2.2.1 != 0 with
    | true => rfl
    | false =>
      simp only [sel_f, cond_false]
      have e := d_words m hm n0 n1 n2 a L at_ n hn ws (pre ++ [w]) (acc ++ [(Nq.unword w).1]) i (by simp; omega) (fun x hx => hw x (List.mem_cons_of_mem _ hx)) (by simp; omega) hi
      rw [List.append_assoc, List.cons_append, List.nil_append] at e
      rw [sel_ite, if_pos (decide_eq_true (by omega)), e]
      cases meanL ws with
      | none => rfl
      | some ms => simp only [Option.map_some, List.append_assoc, List.cons_append, List.nil_append]

theorem d_loop (n0 : Nat) (n : Nat) (hn : n ≤ 1048600) (K : Nat) (hK : 20000001 ≤ K) : ∀ (L pre : List (List UInt8)) (acc : List ItT), (pre ++ L).length = n → (∀ s ∈ L, s.length ≤ 1048576) → acc.length ≤ pre.length →
    ScG.p6_6 (K + L.length) n0 (acc.map toR) (pre ++ L) (pre.length : Int) = some ((goB L pre.length acc).1.map toR, (goB L pre.length acc).2.1, (goB L pre.length acc).2.2, ())
  | [], pre, acc, h, _, _ => by
    obtain ⟨K, rfl⟩ : ∃ k, K = k + 1 := ⟨K - 1, by omega⟩
    rw [List.length_nil, Nat.add_zero, ScG.p6_6_eq, sel_ite, if_neg (by simp)]
    rfl
  | s :: L, pre, acc, h, hL, hacc => by
    have h' : n = pre.length + (L.length + 1) := by rw [← h]; simp
    have hs := hL s (List.mem_cons_self ..)
    have w1 : IntKind.i64.wrap ((pre.length : Int) + 1) = (((pre ++ [s]).length : Nat) : Int) := by rw [wrap64 (by omega) (by omega)]; simp
    have next : ∀ (acc' : List ItT) (q : Nat), acc'.length ≤ pre.length + 1 → ScG.p6_7 (q + 1) n0 (K + L.length) (acc'.map toR) (pre ++ s :: L) (pre.length : Int) = some ((goB L (pre.length + 1) acc').1.map toR, (goB L (pre.length + 1) acc').2.1, (goB L (pre.length + 1) acc').2.2, ()) := fun acc' q h2 => by
      have e := d_loop n0 n hn K hK L (pre ++ [s]) acc' (by simp; omega) (fun x hx => hL x (List.mem_cons_of_mem _ hx)) (by simp; omega)
      rw [List.append_assoc, List.cons_append, List.nil_append] at e
      have e2 : (pre ++ [s]).length = pre.length + 1 := by simp
      rw [e2] at e
      rw [ScG.p6_7_eq, w1, e2, e]
    obtain ⟨J, hJ⟩ : ∃ k, K + L.length = k + 1 := ⟨K + L.length - 1, by omega⟩
    rw [List.length_cons, ← Nat.add_assoc, ScG.p6_6_eq, sel_ite, if_pos (by simp; omega), sel_ite, if_pos (by simp), sel_ite, if_pos (by simp; omega), getD_mid, r_split2 s hs (K + L.length) (by omega), ob_some]
    simp only [goB]
    unfold readB
    cases hc : (splitW s).2.2.1 != 0 with
    | true => rfl
    | false =>
      simp only [sel_f, cond_false]
      cases hw : (splitW s).1 with
      | nil =>
        rw [sel_ite, if_pos (by simp)]
        simp only
        have := next acc J (by omega)
        rw [← hJ] at this
        exact this
      | cons w ws =>
        obtain ⟨g1, g2, g3⟩ := fine_words s w ws hw
        obtain ⟨c, w', rfl⟩ : ∃ c w', w = c :: w' := by
          cases w with
          | nil => exact absurd rfl g2
          | cons c l => exact ⟨c, l, rfl⟩
        rw [sel_ite, if_neg (by simp; omega), sel_ite, if_pos (by simp), sel_ite, if_pos (by simp), sel_ite, if_pos (by simp), sel_ite, if_pos (by simp), b_eq]
        show sel ((c :: w').getD 0 0 == 35) _ _ = _
        simp only
        cases h35 : (c :: w').getD 0 0 == 35 with
        | true =>
          simp only [sel_t, cond_true]
          have := next acc J (by omega)
          rw [← hJ] at this
          exact this
        | false =>
          rw [sel_f, cond_false, hJ, ScG.p6_12_eq, ← hJ]
          have hl := d_words s.length hs n0 (K + L.length) J (acc.map toR) (pre ++ s :: L) (pre.length : Int) (ws.length + 1) (by omega) ((c :: w') :: ws) [] [] (J - (ws.length + 1)) (by simp) g1 rfl (by omega)
          rw [show J - (ws.length + 1) + ((c :: w') :: ws).length = J by simp only [List.length_cons]; omega] at hl
          rw [List.nil_append, List.length_nil, show ((0 : Nat) : Int) = 0 from rfl] at hl
          rw [hl]
          cases hml : meanL ((c :: w') :: ws) with
          | none => rfl
          | some ms =>
            have hmlen := meanL_len _ _ hml
            cases ms with
            | nil => simp at hmlen
            | cons v vs =>
              have hvl : vs.length = ws.length := by simpa using hmlen
              obtain ⟨k, hk⟩ : ∃ k, J - (ws.length + 1) = k + 1 := ⟨J - (ws.length + 1) - 1, by omega⟩
              simp only [List.nil_append]
              rw [hk, ScG.p6_14_eq, sel_ite, if_neg (by simp), sel_ite, if_pos (by simp), sel_ite, if_pos (by simp), sel_ite, if_pos (by simp), sel_ite, if_pos (by simp; omega), ext_d1]
              show obind (ScG.f14 J v vs) _ = _
              rw [r_right v vs (by omega) J (by omega), ob_some, same]
              cases hlb : lineB v vs with
              | false => rfl
              | true =>
                simp only [Bool.not_true, sel_f, cond_true]
                rw [sel_ite, if_pos (by simp), sel_ite, if_pos (by simp), sel_ite, if_pos (by simp), sel_ite, if_pos (by simp; omega), sel_ite, if_pos (by simp; omega)]
                show ScG.p6_7 (K + L.length) n0 (K + L.length) (acc.map toR ++ [((pre.length : Int), v, vs, ())]) (pre ++ s :: L) (pre.length : Int) = _
                rw [show acc.map toR ++ [((pre.length : Int), v, vs, ())] = (acc ++ [(pre.length, v, vs)]).map toR by simp [toR]]
                have := next (acc ++ [(pre.length, v, vs)]) J (by simp; omega)
                rw [← hJ] at this
                exact this

theorem spl_short : ∀ (l acc : List UInt8), ∀ x ∈ spl acc l, x.length ≤ acc.length + l.length
  | [], acc, x, h => by simp [spl] at h; simp [h]
  | c :: l, acc, x, h => by
    simp only [spl] at h
    cases hc : c == 10 with
    | true =>
      rw [hc, cond_true] at h
      rcases List.mem_cons.1 h with rfl | h
      · omega
      · have := spl_short l [] x h; simp at this ⊢; omega
    | false =>
      rw [hc, cond_false] at h
      have := spl_short l _ x h
      simp at this ⊢; omega
theorem spl_len : ∀ (l acc : List UInt8), (spl acc l).length ≤ l.length + 1
  | [], acc => by simp [spl]
  | c :: l, acc => by
    simp only [spl]
    cases c == 10 with
    | true => have := spl_len l []; simp; omega
    | false => have := spl_len l (acc ++ [c]); simp at this ⊢; omega

theorem parse_same (t : List UInt8) : ∃ (xs : List ItT) (p q : Int), ScG.f10 30000000 t = some (xs.map toP, p, q, ()) ∧ ScG.f6 30000000 t = some (xs.map toR, p, q, ()) ∧ xs.length ≤ 1048577 ∧ ∀ x ∈ xs, x.2.2.length ≤ 1048576 := by
  by_cases hb : t.length ≤ 1048576
  · have h1 : ∀ s ∈ splitL t, s.length ≤ 1048576 := fun s hs => by have := spl_short t [] s hs; simp at this; omega
    have h2 : (splitL t).length ≤ t.length + 1 := spl_len t []
    have hb' : Nat.ble t.length 1048576 = true := Nat.ble_eq_true_of_le hb
    have h20 : ScG.f20 29999999 t [10] = some (splitL t, ()) := by rw [ScG.f20_eq, hb']; rfl
    have e1 := p_loop 29999999 (splitL t).length (by omega) (29999999 - (splitL t).length) (by omega) (splitL t) [] [] rfl h1 (Nat.le_refl _)
    have e2 := d_loop 29999999 (splitL t).length (by omega) (29999999 - (splitL t).length) (by omega) (splitL t) [] [] rfl h1 (Nat.le_refl _)
    rw [Nat.sub_add_cancel (by omega), List.nil_append, List.length_nil, show ((0 : Nat) : Int) = 0 from rfl, List.map_nil] at e1 e2
    have hl := goB_len (splitL t) 0 []
    refine ⟨(goB (splitL t) 0 []).1, (goB (splitL t) 0 []).2.1, (goB (splitL t) 0 []).2.2, ?_, ?_, by simp at hl; omega, goB_rows 1048576 _ _ _ h1 (by simp)⟩
    · rw [ScG.f10_eq 29999999, sel_ite, if_neg (by simp; omega), h20, ob_some]
      exact e1
    · rw [ScG.f6_eq 29999999, sel_ite, if_neg (by simp; omega), lines_ok t hb 29999999 (by omega), ob_some]
      exact e2
  · refine ⟨[], 0, 3, ?_, ?_, by simp, by simp⟩
    · rw [ScG.f10_eq 29999999, sel_ite, if_pos (by simp; omega)]; rfl
    · rw [ScG.f6_eq 29999999, sel_ite, if_pos (by simp; omega)]; rfl
end Sc

