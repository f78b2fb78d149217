import Derived.Test.YtligonpmifolfaaGreatDoorLvEa
import Derived.Test.YtligonpmifolfaaGreatDoorLvEb
import Derived.Test.YtligonpmifolfaaGreatDoorLvEc
import Derived.Test.YtligonpmifolfaaGreatDoorLvSeven
import Derived.Test.YtligonpmifolfaaGreatDoorLvSix
set_option linter.all false
section
/-! The document's set by its functions: rows of numbers; what is there. Plain. -/
namespace Lw
open Go Lk Lv
open LvS1 (nums numsM sortI)
variable {A : List Levels} {H W : List Int}
theorem gd {α : Type} (l : List α) (d : α) (k : Int) (n : Nat) (h : k = (n : Int)) : l.getD k.toNat d = l.getD n d := by rw [h, Int.toNat_natCast]
end Lw
end
section
/-! The document's version: sorted numbers, what makes one valid. Plain. -/
namespace Lw
open Go Lk Lv
open LvS1 (nums numsM sortI)
open LvS0 (mayB sel_and)
structure Sm (x : Levels) (B : Nat) : Prop where
 len : x.length ≤ B
 lev : ∀ y ∈ x, y.length ≤ B
 num : (nums x).length ≤ B
 b : B ≤ 4194304
end Lw
end
section
/-! The document's version: what makes one valid, its numbers. Plain. -/
namespace Lw
open Go Lk Lv
open LvS1 (nums numsM sortI)
open LvS0 (mayB sel_and)
theorem fl_at (y : List Lk.LFile) (c : Nat) (h : c < y.length) : List.getD y c ((0 : Int), (0 : Int), [], [], (0 : Int), (0 : Int), ()) = y[c] := by rw [List.getD_eq_getElem?_getD, List.getElem?_eq_getElem h]; rfl
end Lw
end
section
/-! The document's set: its tables; its calls. Plain. -/
namespace Lw
open Go Lk Lv
open LvS1 (nums numsM sortI)
open LvS0 (mayB sel_and)
variable {A : List Levels} {H W : List Int}
def vn (vs : List (Int × (Levels × Int))) : List Int := (vs.map fun p => numsM p.2.1).flatten
theorem held_ok (hl : A.length = H.length) (hA : A.length ≤ 1073741824) (v b : Int) (hv : 1 ≤ v ∧ v ≤ H.length) (hb : -9223372036854775808 ≤ refM H v + b) (hb2 : refM H v + b ≤ 9223372036854775807) (j : Nat) (hj : 1 ≤ j) :
  LvG.f67 j (A, H, W, ()) v b = some ((A, H.set (v - 1).toNat (refM H v + b), W, ()), ()) := by
 obtain ⟨j, rfl⟩ : ∃ j', j = j' + 1 := ⟨j - 1, by omega⟩
 rw [LvG.f67_eq]
 simp only [Option.isSome_some, sel_t', Option.getD_some, List.nil_append]
 have e : IntKind.i64.wrap (v - 1) = v - 1 := wrap64 (by omega) (by omega)
 have er : H.getD (v - 1).toNat 0 = refM H v := by unfold refM; rw [if_pos hv]
 rw [e, er, sel_dec, if_pos (by omega), sel_dec, if_pos (by omega), sel_dec, if_pos (by omega), wrap64 hb hb2, sel_dec, if_pos (by omega), sel_dec, if_pos (by omega)]
end Lw
end
section
/-! The law's own functions: copies, sameness, what is written over. Plain. -/
namespace Lw
open Go Lk Lv
open LvS1 (nums numsM sortI)
theorem ints_loop (l : List Int) (n0 : Nat) (hl : l.length ≤ 1073741824) : ∀ (k i j : Nat), i + k = l.length → k + 1 ≤ j → LvG.p21_4 j n0 l l (i : Int) = some (true, ())
 | 0, i, j, hi, hj => by
  obtain ⟨j, rfl⟩ : ∃ j', j = j' + 1 := ⟨j - 1, by omega⟩
  rw [LvG.p21_4_eq, sel_dec, if_neg (by omega)]
 | k + 1, i, j, hi, hj => by
  obtain ⟨j, rfl⟩ : ∃ j', j = j' + 1 := ⟨j - 1, by omega⟩
  have e2 : IntKind.i64.wrap ((i : Int) + 1) = ((i + 1 : Nat) : Int) := by rw [wrap64 (by omega) (by omega)]; omega
  rw [LvG.p21_4_eq, sel_dec, if_pos (by omega), sel_dec, if_pos (by omega), sel_dec, if_pos (by omega), sel_dec, if_pos (by omega), sel_dec, if_pos (by omega), bne_self_eq_false, sel_f, e2]
  exact ints_loop l n0 hl k (i + 1) j (by omega) (by omega)
theorem ints_ok (l : List Int) (hl : l.length ≤ 1073741824) (j : Nat) (hj : l.length + 2 ≤ j) : LvG.f21 j l l = some (true, ()) := by
 obtain ⟨j, rfl⟩ : ∃ j', j = j' + 1 := ⟨j - 1, by omega⟩
 rw [LvG.f21_eq, bne_self_eq_false, sel_f]
 exact ints_loop l j hl l.length 0 j (by omega) (by omega)
section
end
theorem copied_loop (x : Levels) (hx : x.length ≤ 1073741823) (hy : ∀ y ∈ x, y.length ≤ 1073741824) (n0 : Nat) : ∀ (k i j : Nat) (out : Levels), i + k = x.length → out = x.take i → k + 1 ≤ j → LvG.p6_3 j n0 x out (i : Int) = some (x, ())
 | 0, i, j, out, hi, ho, hj => by
  obtain ⟨j, rfl⟩ : ∃ j', j = j' + 1 := ⟨j - 1, by omega⟩
  rw [LvG.p6_3_eq, sel_dec, if_neg (by omega), ho, List.take_of_length_le (by omega)]
 | k + 1, i, j, out, hi, ho, hj => by
  obtain ⟨j, rfl⟩ : ∃ j', j = j' + 1 := ⟨j - 1, by omega⟩
  have hil : i < x.length := by omega
  have e0 : x.getD i [] = x[i] := by rw [List.getD_eq_getElem?_getD, List.getElem?_eq_getElem hil]; rfl
  have hyl : (x.getD i []).length ≤ 1073741824 := by rw [e0]; exact hy _ (List.getElem_mem hil)
  have e2 : IntKind.i64.wrap ((i : Int) + 1) = ((i + 1 : Nat) : Int) := by rw [wrap64 (by omega) (by omega)]; omega
  have hol : out.length = i := by rw [ho, List.length_take]; omega
  rw [LvG.p6_3_eq, sel_dec, if_pos (by omega), sel_dec, if_pos (by omega), sel_dec, if_pos (by omega), Int.toNat_natCast, sel_dec, if_pos (by omega), sel_dec, if_pos (by omega), e2]
  refine copied_loop x hx hy n0 k (i + 1) j _ (by omega) ?_ (by omega)
  rw [ho, List.nil_append, e0, List.take_succ_eq_append_getElem hil]
def amongM (x n : Int) : Int := (IntKind.i64.wrap (x.tmod n + n)).tmod n
theorem among_ok (x n : Int) (hn : 1 ≤ n ∧ n ≤ 8) (j : Nat) (hj : 1 ≤ j) : LvG.f28 j x n = some (amongM x n, ()) := by
 obtain ⟨j, rfl⟩ : ∃ j', j = j' + 1 := ⟨j - 1, by omega⟩
 have e : (n != 0) = true := by rw [bne_iff_ne]; omega
 rw [LvG.f28_eq, e, sel_t, sel_t]
 rfl
end Lw
end
section
/-! What is obsolete: by the program, by the document. Plain. -/
namespace Lw
open Go Lk Lv
open LvS1 (nums numsM sortI)
abbrev T := List UInt8
noncomputable def goneM (tb : List Int) (lg mn : Int) (s : T) : Bool :=
 (Nq.parseA s).2.2.1 == 0 && (if (Nq.parseA s).1 = 1 then decide ((Nq.parseA s).2.1 < lg) else if (Nq.parseA s).1 = 2 then !tb.contains (Nq.parseA s).2.1 else if (Nq.parseA s).1 = 3 then (Nq.parseA s).2.1 != mn else (Nq.parseA s).1 == 5)
structure Told1 : Prop where
 h24 : ∀ j s, 30 ≤ j → List.length (α := UInt8) s ≤ 1048576 → LvG.f24 j s = some (Nq.parseA s)
 h71 : ∀ j s, 1048700 ≤ j → List.length (α := UInt8) s ≤ 1048576 → LvG.f71 j s = some (Nq.parseA s)
 h58 : ∀ j (L : List T), 6000000 ≤ j → L.length ≤ 1048576 → So.Sh 1048576 L → LvG.f58 j L = some (So.srt So.leN L, ())
 h70 : ∀ j (L : List T), 5000000 ≤ j → L.length ≤ 1048576 → So.Sh 1048576 L → LvG.f70 j L = some (So.srt So.leN L, ())
variable (hT : Told1)
include hT
theorem obs_loop (tb : List Int) (htb : tb.Pairwise (· ≤ ·)) (htl : tb.length ≤ 1073741824) (lg mn : Int) (L : List T) (hL : L.length ≤ 1048576) (hsh : So.Sh 1048576 L) (n0 : Nat) : ∀ (k i j : Nat) (out : List T), i + k = L.length → out.length ≤ i → k + 40 ≤ j →
  LvG.p26_6 j n0 lg mn tb out L (L.length : Int) (i : Int) = some (out ++ (L.drop i).filter (goneM tb lg mn), ())
 | 0, i, j, out, hi, ho, hj => by
  obtain ⟨j, rfl⟩ : ∃ j', j = j' + 1 := ⟨j - 1, by omega⟩
  rw [LvG.p26_6_eq, sel_dec, if_neg (by omega), List.drop_of_length_le (by omega), List.filter_nil, List.append_nil]
 | k + 1, i, j, out, hi, ho, hj => by
  obtain ⟨j, rfl⟩ : ∃ j', j = j' + 4 := ⟨j - 4, by omega⟩
  have hil : i < L.length := by omega
  have e0 : L.getD (i : Int).toNat [] = L[i] := by rw [Int.toNat_natCast, List.getD_eq_getElem?_getD, List.getElem?_eq_getElem hil]; rfl
  have e2 : IntKind.i64.wrap ((i : Int) + 1) = ((i + 1 : Nat) : Int) := by rw [wrap64 (by omega) (by omega)]; omega
  have fin : ∀ fl : Bool, ((Nq.parseA L[i]).2.2.1 == 0 && fl) = goneM tb lg mn L[i] → LvG.p26_20 (j + 3) n0 (j + 3) lg mn tb out L[i] (Nq.parseA L[i]).2.2.1 fl L (L.length : Int) (i : Int) = some (out ++ (L.drop i).filter (goneM tb lg mn), ()) := by
   intro fl hfl
   have h20 : LvG.p26_20 (j + 3) n0 (j + 3) lg mn tb out L[i] (Nq.parseA L[i]).2.2.1 fl L (L.length : Int) (i : Int) = LvG.p26_2069 (j + 2) n0 (j + 3) (j + 2) lg mn tb out L[i] L (L.length : Int) (i : Int) (goneM tb lg mn L[i]) := by
    rw [LvG.p26_20_eq, ← hfl]
    cases (Nq.parseA L[i]).2.2.1 == 0 <;> rfl
   rw [h20, LvG.p26_2069_eq, List.drop_eq_getElem_cons hil, List.filter_cons]
   cases goneM tb lg mn L[i] with
   | true =>
    rw [sel_t, sel_dec, if_pos (by omega), LvG.p26_22_eq, e2, obs_loop tb htb htl lg mn L hL hsh n0 k (i + 1) (j + 3) (out ++ [L[i]]) (by omega) (by simp; omega) (by omega)]
    simp [List.append_assoc]
   | false =>
    rw [sel_f, LvG.p26_22_eq, e2, obs_loop tb htb htl lg mn L hL hsh n0 k (i + 1) (j + 3) out (by omega) (by omega) (by omega)]
    simp
  rw [LvG.p26_6_eq, sel_dec, if_pos (by omega), sel_dec, if_pos (by omega), sel_dec, if_pos (by omega), e0, hT.h24 (j + 3) L[i] (by omega) (hsh _ (List.getElem_mem hil))]
  simp only [ob_some']
  by_cases h1 : (Nq.parseA L[i]).1 = 1
  ·rw [show ((Nq.parseA L[i]).1 == 1) = true by simpa using h1, sel_t]
   exact fin _ (by unfold goneM; rw [if_pos h1])
  ·rw [show ((Nq.parseA L[i]).1 == 1) = false by simpa using h1, sel_f]
   by_cases h2 : (Nq.parseA L[i]).1 = 2
   ·rw [show ((Nq.parseA L[i]).1 == 2) = true by simpa using h2, sel_t, LvG.f59_eq, show (Nat.ble (List.length tb) 1073741824 && decide (tb.Pairwise (· ≤ ·))) = true by rw [Nat.ble_eq_true_of_le htl, decide_eq_true htb]; rfl, cond_true]
    simp only [ob_some']
    exact fin _ (by unfold goneM; rw [if_neg h1, if_pos h2])
   ·rw [show ((Nq.parseA L[i]).1 == 2) = false by simpa using h2, sel_f]
    by_cases h3 : (Nq.parseA L[i]).1 = 3
    ·rw [show ((Nq.parseA L[i]).1 == 3) = true by simpa using h3, sel_t]
     exact fin _ (by unfold goneM; rw [if_neg h1, if_neg h2, if_pos h3])
    ·rw [show ((Nq.parseA L[i]).1 == 3) = false by simpa using h3, sel_f]
     have hg : ((Nq.parseA L[i]).2.2.1 == 0 && ((Nq.parseA L[i]).1 == 5)) = goneM tb lg mn L[i] := by unfold goneM; rw [if_neg h1, if_neg h2, if_neg h3]
     cases h5 : (Nq.parseA L[i]).1 == 5 with
     | true => rw [sel_t]; exact fin _ (by rw [← hg, h5])
     | false => rw [sel_f]; exact fin _ (by rw [← hg, h5])
theorem obs_ok (s : Lk.LiveS) (hs : s.vs.all (fun p => smallN p.2.1) = true) (hn : (neededS s).length ≤ 1073741824) (hl : (tablesS s).length ≤ 1073741824) (L : List T) (hL : L.length ≤ 1048576) (hsh : So.Sh 1048576 L) (lg mn : Int) (j : Nat) (hj : 10000000 ≤ j) :
  LvG.f26 j (some s) L lg mn = some ((So.srt So.leN L).filter (goneM (tablesS s) lg mn), ()) := by
 obtain ⟨j, rfl⟩ : ∃ j', j = j' + 1 := ⟨j - 1, by omega⟩
 have hx : xTables (some s) = some (tablesS s, ()) := by
  show (bif (s.vs.all fun p => smallN p.2.1) && Nat.ble (neededS s).length 1073741824 then some (tablesS s, ()) else none) = _
  rw [hs, Nat.ble_eq_true_of_le hn]; rfl
 have hxn : xNone (some s) = some (false, ()) := rfl
 rw [LvG.f26_eq, LvG.f49_eq, LvG.f22_eq, hx, hT.h58 j L (by omega) hL hsh, hxn]
 simp only [ob_some']
 rw [sel_f]
 have h := obs_loop hT (tablesS s) (strict_le (tables_spec s).1) hl lg mn (So.srt So.leN L) (by rw [So.srt_len]; exact hL) (fun x hx => hsh x (So.mem_srt.1 hx)) j (So.srt So.leN L).length 0 j [] (by omega) (by simp) (by rw [So.srt_len]; omega)
 rw [show ((0 : Nat) : Int) = 0 from rfl, List.drop_zero, List.nil_append] at h
 exact h
end Lw
end
section
/-! The program's set, at the document's: what each call does. Plain. -/
namespace Lw
open Go Lk Lv
open LvS1 (nums numsM sortI)
variable {A : List Levels} {H W : List Int} {B : Nat}
theorem le_sum : ∀ {l : List Nat} {n : Nat}, n ∈ l → n ≤ l.sum
 | a :: l, n, h => by
  rw [List.sum_cons]
  rcases List.mem_cons.1 h with rfl | h
  ·omega
  ·have := le_sum h; omega
theorem lev_nums {a : Levels} {y : List Lk.LFile} (h : y ∈ a) : y.length ≤ (nums a).length := by
 unfold nums
 rw [List.length_flatten]
 have : (y.map fun f => f.1).length ∈ (a.map fun y => y.map fun f => f.1).map List.length := List.mem_map.2 ⟨_, List.mem_map.2 ⟨y, h, rfl⟩, rfl⟩
 rw [List.length_map] at this
 exact le_sum this
theorem nums_sum {a : Levels} (h : a ∈ A) : (nums a).length ≤ (A.map fun a => (nums a).length).sum := le_sum (List.mem_map.2 ⟨a, h, rfl⟩)
theorem inv_sm (h : Inv A H W B) (hB : B + 7 ≤ 4194304) {a : Levels} (ha : a ∈ A) : Sm a (B + 7) := by
 have hv := (valid_iff a).1 (h.ok a ha)
 have h1 := nums_sum ha
 have h2 := h.room
 exact ⟨by have := hv.1.2; omega, fun y hy => by have := lev_nums hy; omega, by omega, hB⟩
theorem sm_smallL {a : Levels} (h : Sm a B) : smallL a = true := by
 have h1 := h.len
 have h3 := h.b
 unfold smallL
 rw [Bool.and_eq_true, Nat.ble_eq, List.all_eq_true]
 exact ⟨by omega, fun y hy => by rw [Nat.ble_eq]; have := h.lev y hy; omega⟩
theorem sm_smallN {a : Levels} (h : Sm a B) : smallN a = true := by
 have h1 := h.len
 have h2 := h.num
 have h3 := h.b
 unfold smallN
 rw [Bool.and_eq_true, Nat.ble_eq, Nat.ble_eq]
 exact ⟨by omega, by omega⟩
theorem in64_of {n : Int} (h1 : -9223372036854775808 ≤ n) (h2 : n ≤ 9223372036854775807) : in64 n = true := by
 unfold in64; rw [decide_eq_true h1, decide_eq_true h2]; rfl
theorem has_iff (h : A.length = H.length) (k : Int) : has (absS A H W).vs k = thereK A H k := by
 rw [has_get, get_abs h]
 cases thereK A H k <;> rfl
theorem there_last (hne : A ≠ []) : thereK A H A.length = true := by
 have hp : 1 ≤ A.length := by cases A with | nil => exact (hne rfl).elim | cons _ _ => simp
 unfold thereK thereM
 rw [decide_eq_true (by omega), show Nat.beq (((A.length : Int) - 1).toNat + 1) A.length = true by rw [Nat.beq_eq]; omega]; rfl
theorem there_refs (h : A.length = H.length) (h0 : ∀ x ∈ H, 0 ≤ x) {k : Int} (hr : refM H k ≠ 0) : thereK A H k = true ∧ 0 < refM H k ∧ 1 ≤ k ∧ k ≤ H.length := by
 have hk : 1 ≤ k ∧ k ≤ H.length := by
  apply Classical.byContradiction
  intro hc; exact hr (by unfold refM; rw [if_neg hc])
 have hi : (k - 1).toNat < H.length := by omega
 have hp : 0 ≤ refM H k := by
  unfold refM
  rw [if_pos hk, List.getD_eq_getElem?_getD, List.getElem?_eq_getElem hi]
  exact h0 _ (List.getElem_mem hi)
 have e : H.getD (k - 1).toNat 0 = refM H k := by unfold refM; rw [if_pos hk]
 refine ⟨?_, by omega, hk⟩
 unfold thereK thereM
 rw [decide_eq_true (by omega), e, decide_eq_true (by omega), Bool.or_true]; rfl
theorem ref_top (h : Inv A H W B) (k : Int) : 0 ≤ refM H k ∧ refM H k ≤ B := by
 unfold refM
 split
 ·rename_i hk
  have hi : (k - 1).toNat < H.length := by omega
  rw [List.getD_eq_getElem?_getD, List.getElem?_eq_getElem hi]
  exact ⟨h.pos _ (List.getElem_mem hi), h.top _ (List.getElem_mem hi)⟩
 ·omega
theorem install_step (h : Inv A H W B) (hB : B ≤ 4194304) (lv : Levels) {C : Nat} (hs : Sm lv C) :
  xInstall (some (absS A H W)) lv = if validM lv = true then some ((A.length : Int) + 1, some (absS (A ++ [lv]) (H ++ [0]) W), ()) else some (0, some (absS A H W), ()) := by
 obtain ⟨h1, h2⟩ := install_abs (W := W) h.len h.ne h.pos lv
 have hc := h.cnt
 show (bif validM lv then (bif smallL lv && !has (absS A H W).vs ((A.length : Int) + 1) && in64 ((A.length : Int) + 1) then some ((installS (absS A H W) lv).cur, some (installS (absS A H W) lv), ()) else none) else some (0, some (absS A H W), ())) = _
 cases validM lv with
 | false => rfl
 | true =>
  rw [h1, h2, sm_smallL hs, in64_of (by omega) (by omega), if_pos rfl]
  show some (((A ++ [lv]).length : Int), _, _) = _
  rw [List.length_append, List.length_singleton]
  rfl
theorem hold_step (h : Inv A H W B) (hB : B ≤ 4194304) : xHold (some (absS A H W)) = some ((A.length : Int), some (absS A (H.set (A.length - 1) (refM H A.length + 1)) W), ()) := by
 obtain ⟨r1, r2⟩ := ref_top h A.length
 have ht := there_last (H := H) h.ne
 have e := turn_abs (W := W) h.len h.pos A.length 1 ht (by omega)
 show (bif has (absS A H W).vs (A.length : Int) && in64 (refsOf (absS A H W) (A.length : Int) + 1) then some ((turnS (absS A H W) (A.length : Int) 1).cur, some (turnS (absS A H W) (A.length : Int) 1), ()) else none) = _
 rw [has_iff h.len, ht, refs_abs h.len h.pos, in64_of (by omega) (by omega), e]
 rw [show ((A.length : Int) - 1).toNat = A.length - 1 by omega]
 rfl
theorem drop_step (h : Inv A H W B) (hB : B ≤ 4194304) (k : Int) : xDrop (some (absS A H W)) k = if refM H k = 0 then some (180, some (absS A H W), ()) else some (0, some (absS A (H.set (k - 1).toNat (refM H k + -1)) W), ()) := by
 obtain ⟨r1, r2⟩ := ref_top h k
 show (bif refsOf (absS A H W) k == 0 then some (180, some (absS A H W), ()) else bif has (absS A H W).vs k && in64 (refsOf (absS A H W) k + -1) then some (0, some (turnS (absS A H W) k (-1)), ()) else none) = _
 rw [refs_abs h.len h.pos]
 by_cases hr : refM H k = 0
 ·rw [show (refM H k == 0) = true by simpa using hr, if_pos hr]; rfl
 ·obtain ⟨ht, hp, _, _⟩ := there_refs h.len h.pos hr
  rw [show (refM H k == 0) = false by simpa using hr, if_neg hr, has_iff h.len, ht, in64_of (by omega) (by omega), turn_abs (W := W) h.len h.pos k (-1) ht (by omega)]
  rfl
theorem begin_step (k : Int) : xBegin (some (absS A H W)) k = if k < 1 ∨ 2147483647 < k then some (2, some (absS A H W), ()) else if k ∈ W then some (81, some (absS A H W), ()) else some (0, some (absS A H (W ++ [k])), ()) := by
 show (bif decide (k < 1) || decide (2147483647 < k) then some (2, some (absS A H W), ()) else bif decide (0 < wrOf (absS A H W) k) then some (81, some (absS A H W), ()) else some (0, some ({ absS A H W with wr := put (absS A H W).wr k 1 } : Lk.LiveS), ())) = _
 rw [wr_abs]
 by_cases h : k < 1 ∨ 2147483647 < k
 ·rw [if_pos h, ← Bool.decide_or, decide_eq_true h]; rfl
 ·rw [if_neg h, ← Bool.decide_or, decide_eq_false h, cond_false]
  by_cases hk : k ∈ W
  ·rw [if_pos hk, if_pos hk]; rfl
  ·rw [if_neg hk, if_neg hk, begin_abs k hk]; rfl
theorem end_step (k : Int) : xEnd (some (absS A H W)) k = if k ∈ W then some (0, some (absS A H (W.filter fun n => !(n == k))), ()) else some (51, some (absS A H W), ()) := by
 show (bif wrOf (absS A H W) k == 0 then some (51, some (absS A H W), ()) else some (0, some ({ absS A H W with wr := del (absS A H W).wr k } : Lk.LiveS), ())) = _
 rw [wr_abs]
 by_cases hk : k ∈ W
 ·rw [if_pos hk, if_pos hk, end_abs]; rfl
 ·rw [if_neg hk, if_neg hk]; rfl
theorem hold_inv (h : Inv A H W B) : Inv A (H.set (A.length - 1) (refM H A.length + 1)) W (B + 1) := by
 obtain ⟨r1, r2⟩ := ref_top h A.length
 exact h.turn _ _ (by omega) (by omega)
theorem drop_inv (h : Inv A H W B) {k : Int} (hr : refM H k ≠ 0) : Inv A (H.set (k - 1).toNat (refM H k + -1)) W (B + 1) := by
 obtain ⟨_, hp, _, _⟩ := there_refs h.len h.pos hr
 obtain ⟨r1, r2⟩ := ref_top h k
 exact h.turn _ _ (by omega) (by omega)
theorem vs_len : ∀ (A : List Levels) (H : List Int) (k : Int), (vsFrom k A H).length ≤ A.length
 | [], _, _ => by simp [vsFrom]
 | a :: A, [], _ => by simp [vsFrom]
 | a :: A, h :: H, k => by
  have := vs_len A H (k + 1)
  unfold vsFrom
  cases A.isEmpty || decide (0 < h) with
  | true => rw [cond_true]; simp only [List.length_cons]; omega
  | false => rw [cond_false]; simp only [List.length_cons]; omega
theorem vs_mem : ∀ (A : List Levels) (H : List Int) (k : Int), ∀ p ∈ vsFrom k A H, p.2.1 ∈ A
 | [], _, _, p, h => by simp [vsFrom] at h
 | a :: A, [], _, p, h => by simp [vsFrom] at h
 | a :: A, h :: H, k, p, hp => by
  unfold vsFrom at hp
  cases hc : A.isEmpty || decide (0 < h) with
  | true =>
   rw [hc, cond_true] at hp
   rcases List.mem_cons.1 hp with rfl | hp
   ·exact List.mem_cons_self ..
   ·exact List.mem_cons_of_mem _ (vs_mem A H (k + 1) p hp)
  | false =>
   rw [hc, cond_false] at hp
   exact List.mem_cons_of_mem _ (vs_mem A H (k + 1) p hp)
theorem numsM_len (a : Levels) : (numsM a).length ≤ (nums a).length := by
 unfold numsM
 cases validM a with
 | true => exact Nat.le_of_eq (sortI_perm _).length_eq
 | false => exact Nat.zero_le _
theorem vn_len : ∀ (A : List Levels) (H : List Int) (k : Int), (vn (vsFrom k A H)).length ≤ (A.map fun a => (nums a).length).sum
 | [], _, _ => by simp [vsFrom, vn]
 | a :: A, [], _ => by simp [vsFrom, vn]
 | a :: A, h :: H, k => by
  have := vn_len A H (k + 1)
  have h2 := numsM_len a
  unfold vsFrom
  rw [List.map_cons, List.sum_cons]
  cases A.isEmpty || decide (0 < h) with
  | true =>
   rw [cond_true]
   show (numsM a ++ vn (vsFrom (k + 1) A H)).length ≤ _
   rw [List.length_append]; omega
  | false => rw [cond_false]; omega
theorem needed_len (h : Inv A H W B) : (neededS (absS A H W)).length ≤ B ∧ (vn (vsFrom 1 A H)).length + W.length ≤ B ∧ (tablesS (absS A H W)).length ≤ B := by
 have h1 := vn_len A H 1
 have h2 := h.room
 have e : (neededS (absS A H W)).length = W.length + (vn (vsFrom 1 A H)).length := by
  show ((W.map fun n => (n, (1 : Int))).map (·.1) ++ vn (vsFrom 1 A H)).length = _
  simp
 refine ⟨by omega, by omega, ?_⟩
 have h3 := compact_length (sortI (neededS (absS A H W)))
 have h4 := (sortI_perm (neededS (absS A H W))).length_eq
 show (Lib.compact (sortI (neededS (absS A H W)))).length ≤ B
 omega
where compact_length (l : List Int) : (Lib.compact l).length ≤ l.length := Lib.compact_length_le l
theorem smallN_all (h : Inv A H W B) (hB : B + 7 ≤ 4194304) : (absS A H W).vs.all (fun p => smallN p.2.1) = true := by
 rw [List.all_eq_true]
 intro p hp
 exact sm_smallN (inv_sm h hB (vs_mem A H 1 p hp))
theorem tables_step (h : Inv A H W B) (hB : B + 7 ≤ 4194304) : xTables (some (absS A H W)) = some (tablesS (absS A H W), ()) := by
 obtain ⟨h1, _, _⟩ := needed_len h
 show (bif (absS A H W).vs.all (fun p => smallN p.2.1) && Nat.ble (neededS (absS A H W)).length 1073741824 then some (tablesS (absS A H W), ()) else none) = _
 rw [smallN_all h hB, Nat.ble_eq_true_of_le (by omega)]; rfl
theorem len_step (h : Inv A H W B) (hB : B ≤ 4194304) : xLen (some (absS A H W)) = some (((vsFrom 1 A H).length : Int), ()) := by
 have h1 := vs_len A H 1
 have h2 := h.cnt
 show (bif Nat.ble (vsFrom 1 A H).length 1073741824 then some (((vsFrom 1 A H).length : Int), ()) else none) = _
 rw [Nat.ble_eq_true_of_le (by omega)]; rfl
theorem lev_at (h : A.length = H.length) {k : Int} (ht : thereK A H k = true) : levelsOf (absS A H W) k = A.getD (k - 1).toNat [] ∧ A.getD (k - 1).toNat [] ∈ A := by
 have hk : 1 ≤ k ∧ k ≤ (A.length : Int) := by
  unfold thereK at ht
  rw [Bool.and_eq_true, decide_eq_true_eq] at ht
  exact ht.1
 have hi : (k - 1).toNat < A.length := by omega
 refine ⟨?_, by rw [List.getD_eq_getElem?_getD, List.getElem?_eq_getElem hi]; exact List.getElem_mem hi⟩
 unfold levelsOf
 rw [get_abs h, ht]; rfl
theorem current_step (h : Inv A H W B) (hB : B + 7 ≤ 4194304) : xCurrent (some (absS A H W)) = some ((A.length : Int), A.getD (A.length - 1) [], ()) ∧ A.getD (A.length - 1) [] ∈ A := by
 obtain ⟨e, hm⟩ := lev_at (W := W) h.len (there_last (H := H) h.ne)
 rw [show ((A.length : Int) - 1).toNat = A.length - 1 by omega] at e hm
 refine ⟨?_, hm⟩
 show (bif smallL (levelsOf (absS A H W) (A.length : Int)) then some ((A.length : Int), levelsOf (absS A H W) (A.length : Int), ()) else none) = _
 rw [e, sm_smallL (inv_sm h hB hm)]; rfl
theorem new_step (lv : Levels) {C : Nat} (hs : Sm lv C) : xNew lv = if validM lv = true then some (some (absS [lv] [0] []), ()) else some (none, ()) := by
 unfold xNew
 cases validM lv with
 | false => rfl
 | true => rw [sm_smallL hs]; rfl
theorem refs_step (h : Inv A H W B) (k : Int) : xRefs (some (absS A H W)) k = some (refM H k, ()) := by
 show some (refsOf (absS A H W) k, ()) = _
 rw [refs_abs h.len h.pos]
abbrev Act := Int × Int × Int × Levels × List T × Unit
structure ActOk (a : Act) : Prop where
 lev : Sm a.2.2.2.1 1048576
 nl : List.length a.2.2.2.2.1 ≤ 1048576
 ns : So.Sh 1048576 a.2.2.2.2.1
def wt (a : Act) : Nat := 1 + (nums a.2.2.2.1).length
end Lw
end
section
/-! version.Same: the same is the same. Plain. -/
namespace Lw
open Go Lk Lv
open LvS1 (nums numsM sortI)
end Lw
end
section
/-! Finding a file; a call of the set alone; the chapter's first example. Plain. -/
namespace Lw
open Go Lk Lv
open LvS1 (nums numsM sortI)
variable {A : List Levels} {H W : List Int} {B : Nat}
theorem find_end (j n0 : Nat) (lv : Int) (f : Lk.LFile) (b : Bool) : ∃ a c, LvG.p25_13 (j + 1) n0 lv (some f) b = some (a, c, b, ()) := by
 rw [LvG.p25_13_eq]
 simp only [Option.isSome_some, sel_t', Option.getD_some]
 exact ⟨_, _, rfl⟩
theorem find_inner (n0 n1 : Nat) (hn : 1 ≤ n0) (x : Levels) (n lv i : Int) (f0 : Lk.LFile) (xl : Int) (y : List Lk.LFile) (hy : y.length ≤ 1073741824) : ∀ (k c j : Nat), c + k = y.length → k + 1 ≤ j →
  (n ∈ (y.drop c).map (fun f => f.1) ∧ ∃ a g, LvG.p25_7 j n0 n1 n lv (some f0) false i x xl i y (y.length : Int) (c : Int) = some (a, g, true, ())) ∨
  (n ∉ (y.drop c).map (fun f => f.1) ∧ LvG.p25_7 j n0 n1 n lv (some f0) false i x xl i y (y.length : Int) (c : Int) = LvG.p25_4 n1 n0 n lv (some f0) false x xl (IntKind.i64.wrap (i + 1)))
 | 0, c, j, hc, hj => by
  obtain ⟨j, rfl⟩ : ∃ j', j = j' + 1 := ⟨j - 1, by omega⟩
  right
  rw [List.drop_of_length_le (by omega), LvG.p25_7_eq, sel_dec, if_neg (by omega)]
  exact ⟨by simp, rfl⟩
 | k + 1, c, j, hc, hj => by
  obtain ⟨j, rfl⟩ : ∃ j', j = j' + 1 := ⟨j - 1, by omega⟩
  obtain ⟨n0, rfl⟩ : ∃ n', n0 = n' + 1 := ⟨n0 - 1, by omega⟩
  have hcl : c < y.length := by omega
  have e2 : IntKind.i64.wrap ((c : Int) + 1) = ((c + 1 : Nat) : Int) := by rw [wrap64 (by omega) (by omega)]; omega
  have e : LvG.p25_7 (j + 1) (n0 + 1) n1 n lv (some f0) false i x xl i y (y.length : Int) (c : Int) = sel (y[c].1 == n) (LvG.p25_13 (n0 + 1) (n0 + 1) i (some y[c]) true) (LvG.p25_7 j (n0 + 1) n1 n lv (some f0) false i x xl i y (y.length : Int) ((c + 1 : Nat) : Int)) := by
   rw [LvG.p25_7_eq, sel_dec, if_pos (by omega), sel_dec, if_pos (by omega), sel_dec, if_pos (by omega), Int.toNat_natCast, fl_at _ _ hcl, e2]
   simp only [Option.isSome_some, sel_t', Option.getD_some]
  rw [e, List.drop_eq_getElem_cons hcl, List.map_cons, List.mem_cons]
  by_cases h : y[c].1 = n
  ·left
   rw [show (y[c].1 == n) = true by simpa using h, sel_t]
   obtain ⟨a, g, e⟩ := find_end n0 (n0 + 1) i y[c] true
   exact ⟨.inl h.symm, a, g, e⟩
  ·rw [show (y[c].1 == n) = false by simpa using h, sel_f]
   rcases find_inner (n0 + 1) n1 (by omega) x n lv i f0 xl y hy k (c + 1) j (by omega) (by omega) with ⟨h1, h2⟩ | ⟨h1, h2⟩
   ·exact .inl ⟨.inr h1, h2⟩
   ·exact .inr ⟨fun hc => hc.elim (fun e => h e.symm) h1, h2⟩
theorem find_loop (x : Levels) {C : Nat} (hx : x.length ≤ 1073741824) (hL : ∀ y ∈ x, y.length ≤ C) (hC : C ≤ 1073741824) (n lv : Int) (f0 : Lk.LFile) (n0 : Nat) (hn : 1 ≤ n0) : ∀ (k i j : Nat), i + k = x.length → C + k + 2 ≤ j →
  ∃ a g b, LvG.p25_4 j n0 n lv (some f0) false x (x.length : Int) (i : Int) = some (a, g, b, ()) ∧ (b = true ↔ n ∈ nums (x.drop i))
 | 0, i, j, hi, hj => by
  obtain ⟨j, rfl⟩ : ∃ j', j = j' + 1 := ⟨j - 1, by omega⟩
  obtain ⟨n0, rfl⟩ : ∃ n', n0 = n' + 1 := ⟨n0 - 1, by omega⟩
  obtain ⟨a, g, e⟩ := find_end n0 (n0 + 1) lv f0 false
  rw [LvG.p25_4_eq, sel_dec, if_neg (by omega), e, List.drop_of_length_le (by omega)]
  exact ⟨_, _, _, rfl, by simp [nums]⟩
 | k + 1, i, j, hi, hj => by
  obtain ⟨j, rfl⟩ : ∃ j', j = j' + 1 := ⟨j - 1, by omega⟩
  have hil : i < x.length := by omega
  have e0 : x.getD i [] = x[i] := by rw [List.getD_eq_getElem?_getD, List.getElem?_eq_getElem hil]; rfl
  have hyl := hL _ (List.getElem_mem hil)
  have e2 : IntKind.i64.wrap ((i : Int) + 1) = ((i + 1 : Nat) : Int) := by rw [wrap64 (by omega) (by omega)]; omega
  have hn1 : nums (x.drop i) = x[i].map (fun f => f.1) ++ nums (x.drop (i + 1)) := by
   unfold nums
   rw [List.drop_eq_getElem_cons hil, List.map_cons, List.flatten_cons]
  rw [LvG.p25_4_eq, sel_dec, if_pos (by omega), sel_dec, if_pos (by omega), sel_dec, if_pos (by omega), Int.toNat_natCast, e0, hn1, List.mem_append]
  have h := find_inner n0 j hn x n lv (i : Int) f0 (x.length : Int) x[i] (by omega) x[i].length 0 j (by omega) (by omega)
  rw [List.drop_zero, show ((0 : Nat) : Int) = 0 from rfl] at h
  rcases h with ⟨h1, a, g, h2⟩ | ⟨h1, h2⟩
  ·exact ⟨a, g, true, h2, by simp [h1]⟩
  ·rw [h2, e2]
   obtain ⟨a, g, b, k1, k2⟩ := find_loop x hx hL hC n lv f0 n0 hn k (i + 1) j (by omega) (by omega)
   exact ⟨a, g, b, k1, k2.trans ⟨.inr, fun h => h.resolve_left h1⟩⟩
theorem find_ok (x : Levels) {C : Nat} (h : Sm x C) (hv : validM x = true) (n : Int) (j : Nat) (hj : 10000000 ≤ j) : ∃ a g b, LvG.f25 j x n = some (a, g, b, ()) ∧ (b = true ↔ n ∈ nums x) := by
 obtain ⟨j, rfl⟩ : ∃ j', j = j' + 1 := ⟨j - 1, by omega⟩
 have h1 := h.len
 have h3 := h.b
 obtain ⟨a, g, b, k1, k2⟩ := find_loop x (by omega) h.lev (by omega) n 0 ((0 : Int), (0 : Int), [], [], (0 : Int), (0 : Int), ()) j (by omega) x.length 0 j (by omega) (by omega)
 rw [show ((0 : Nat) : Int) = 0 from rfl] at k1
 rw [LvG.f25_eq, LvG.f14_eq, hv]
 simp only [ob_some', Bool.not_true, sel_f']
 exact ⟨a, g, b, k1, by rw [List.drop_zero] at k2; exact k2⟩
def step (s : List Levels × List Int × List Int) (a : Act) (q : Int) : List Levels × List Int × List Int :=
 if q = 0 then (if validM a.2.2.2.1 = true then (s.1 ++ [a.2.2.2.1], s.2.1 ++ [0], s.2.2) else s)
 else if q = 1 then (s.1, s.2.1.set (s.1.length - 1) (refM s.2.1 s.1.length + 1), s.2.2)
 else if q = 2 then (if refM s.2.1 a.2.1 = 0 then s else (s.1, s.2.1.set (a.2.1 - 1).toNat (refM s.2.1 a.2.1 + -1), s.2.2))
 else if q = 3 then (if a.2.1 < 1 ∨ 2147483647 < a.2.1 then s else if a.2.1 ∈ s.2.2 then s else (s.1, s.2.1, s.2.2 ++ [a.2.1]))
 else if q = 4 then (if a.2.1 ∈ s.2.2 then (s.1, s.2.1, s.2.2.filter fun n => !(n == a.2.1)) else s)
 else s
abbrev absT (s : List Levels × List Int × List Int) : Lk.LiveS := absS s.1 s.2.1 s.2.2
theorem plain_ok (s : List Levels × List Int × List Int) (h : Inv s.1 s.2.1 s.2.2 B) (a : Act) (hB : B ≤ 4194304) {C : Nat} (ha : Sm a.2.2.2.1 C) (j : Nat) (hj : 2 ≤ j) :
  LvG.f15 j (some (absT s)) a = some (some (absT (step s a (amongM a.1 5))), ()) ∧ Inv (step s a (amongM a.1 5)).1 (step s a (amongM a.1 5)).2.1 (step s a (amongM a.1 5)).2.2 (B + wt a) := by
 obtain ⟨j, rfl⟩ : ∃ j', j = j' + 1 := ⟨j - 1, by omega⟩
 have hw : 1 ≤ wt a := by unfold wt; omega
 rw [LvG.f15_eq]
 simp only [Option.isSome_some, sel_t', Option.getD_some]
 rw [among_ok _ _ (by omega) _ (by omega)]
 simp only [ob_some']
 generalize amongM a.1 5 = q
 unfold step
 by_cases q0 : q = 0
 ·rw [show (q == 0) = true by simpa using q0, sel_t, if_pos q0, LvG.f33_eq, install_step h hB _ ha]
  by_cases hv : validM a.2.2.2.1 = true
  ·rw [if_pos hv, if_pos hv]
   exact ⟨rfl, (h.install _ hv (sm_smallL ha)).mono (by unfold wt; omega)⟩
  ·rw [if_neg hv, if_neg hv]
   exact ⟨rfl, h.mono (by omega)⟩
 ·rw [show (q == 0) = false by simpa using q0, sel_f, if_neg q0]
  by_cases q1 : q = 1
  ·rw [show (q == 1) = true by simpa using q1, sel_t, if_pos q1, LvG.f27_eq, hold_step h hB]
   exact ⟨rfl, (hold_inv h).mono (by omega)⟩
  ·rw [show (q == 1) = false by simpa using q1, sel_f, if_neg q1]
   by_cases q2 : q = 2
   ·rw [show (q == 2) = true by simpa using q2, sel_t, if_pos q2, LvG.f18_eq, drop_step h hB]
    by_cases hr : refM s.2.1 a.2.1 = 0
    ·rw [if_pos hr, if_pos hr]
     exact ⟨rfl, h.mono (by omega)⟩
    ·rw [if_neg hr, if_neg hr]
     exact ⟨rfl, (drop_inv h hr).mono (by omega)⟩
   ·rw [show (q == 2) = false by simpa using q2, sel_f, if_neg q2]
    by_cases q3 : q = 3
    ·rw [show (q == 3) = true by simpa using q3, sel_t, if_pos q3, LvG.f38_eq, begin_step]
     by_cases hk : a.2.1 < 1 ∨ 2147483647 < a.2.1
     ·rw [if_pos hk, if_pos hk]
      exact ⟨rfl, h.mono (by omega)⟩
     ·rw [if_neg hk, if_neg hk]
      by_cases hm : a.2.1 ∈ s.2.2
      ·rw [if_pos hm, if_pos hm]
       exact ⟨rfl, h.mono (by omega)⟩
      ·rw [if_neg hm, if_neg hm]
       exact ⟨rfl, (h.begin _ (by omega) (by omega) hm).mono (by omega)⟩
    ·rw [show (q == 3) = false by simpa using q3, sel_f, if_neg q3]
     by_cases q4 : q = 4
     ·rw [show (q == 4) = true by simpa using q4, sel_t, if_pos q4, LvG.f19_eq, end_step]
      by_cases hm : a.2.1 ∈ s.2.2
      ·rw [if_pos hm, if_pos hm]
       exact ⟨rfl, (h.fin a.2.1).mono (by omega)⟩
      ·rw [if_neg hm, if_neg hm]
       exact ⟨rfl, h.mono (by omega)⟩
     ·rw [show (q == 4) = false by simpa using q4, sel_f, if_neg q4]
      exact ⟨rfl, h.mono (by omega)⟩
theorem mem_numsM {a : Levels} {x : Int} (hv : validM a = true) : x ∈ numsM a ↔ x ∈ nums a := by
 unfold numsM
 rw [hv, cond_true]
 exact (sortI_perm _).mem_iff
theorem mem_needed {x : Int} : x ∈ neededS (absS A H W) ↔ x ∈ W ∨ x ∈ vn (vsFrom 1 A H) := by
 show x ∈ (W.map fun n => (n, (1 : Int))).map (·.1) ++ vn (vsFrom 1 A H) ↔ _
 have e2 : (W.map fun n => (n, (1 : Int))).map (·.1) = W := by rw [List.map_map]; exact List.map_id _
 rw [e2, List.mem_append]
def fA (n : Int) : Lk.LFile := (n, 1, [97], [97, 0], 1, 1, ())
theorem fA_valid2 : validM [[fA 2]] = true := by decide +kernel
theorem fA_valid3 : validM [[fA 3]] = true := by decide +kernel
theorem sm_one (n : Int) : Sm [[fA n]] 10 := ⟨by simp, by simp, by simp [nums], by omega⟩
theorem file_ok (n : Int) (j : Nat) (hj : 1 ≤ j) : LvG.f47 j n [97] = some (fA n, ()) := by
 obtain ⟨j, rfl⟩ : ∃ j', j = j' + 1 := ⟨j - 1, by omega⟩
 rw [LvG.f47_eq, sel_dec, if_pos (by simp [big])]
 simp only [Option.isSome_some, sel_t', Option.getD_some]
 rfl
theorem works_ok (j : Nat) (hj : 20 ≤ j) : LvG.f13 j = some (true, ()) := by
 obtain ⟨j, rfl⟩ : ∃ j', j = j' + 3 := ⟨j - 3, by omega⟩
 have i0 := Inv.first [[fA 2]] fA_valid2 (sm_smallL (sm_one 2))
 have i0 : Inv [[[fA 2]]] [0] [] 2 := i0
 have s1 := hold_step i0 (by omega)
 have i1 := hold_inv i0
 have i1 : Inv [[[fA 2]]] [1] [] 3 := i1
 have s1 : xHold (some (absS [[[fA 2]]] [0] [])) = some (1, some (absS [[[fA 2]]] [1] []), ()) := s1
 have s2 := install_step i1 (by omega) [[fA 3]] (sm_one 3)
 rw [if_pos fA_valid3] at s2
 have s2 : xInstall (some (absS [[[fA 2]]] [1] [])) [[fA 3]] = some (2, some (absS [[[fA 2]], [[fA 3]]] [1, 0] []), ()) := s2
 have i2 := i1.install [[fA 3]] fA_valid3 (sm_smallL (sm_one 3))
 have i2 : Inv [[[fA 2]], [[fA 3]]] [1, 0] [] 5 := i2
 have t2 : tablesS (absS [[[fA 2]], [[fA 3]]] [1, 0] []) = [2, 3] := by
  have h : dd [2, 3] [] = tablesS (absS [[[fA 2]], [[fA 3]]] [1, 0] []) := dd_tables fun x => by
   rw [mem_needed]
   show x ∈ [2, 3] ↔ x ∈ [] ∨ x ∈ numsM [[fA 2]] ++ (numsM [[fA 3]] ++ [])
   rw [List.append_nil, List.mem_append, mem_numsM fA_valid2, mem_numsM fA_valid3]
   simp [nums, fA]
  rw [← h]; decide
 have s3 := tables_step i2 (by omega)
 rw [t2] at s3
 have s4 := len_step i2 (by omega)
 have s4 : xLen (some (absS [[[fA 2]], [[fA 3]]] [1, 0] [])) = some (2, ()) := s4
 have s5 := drop_step i2 (by omega) 1
 have s5 : xDrop (some (absS [[[fA 2]], [[fA 3]]] [1, 0] [])) 1 = some (0, some (absS [[[fA 2]], [[fA 3]]] [0, 0] []), ()) := s5
 have i3 := drop_inv i2 (k := 1) (by decide)
 have i3 : Inv [[[fA 2]], [[fA 3]]] [0, 0] [] 6 := i3
 have t3 : tablesS (absS [[[fA 2]], [[fA 3]]] [0, 0] []) = [3] := by
  have h : dd [3] [] = tablesS (absS [[[fA 2]], [[fA 3]]] [0, 0] []) := dd_tables fun x => by
   rw [mem_needed]
   show x ∈ [3] ↔ x ∈ [] ∨ x ∈ numsM [[fA 3]] ++ []
   rw [List.append_nil, mem_numsM fA_valid3]
   simp [nums, fA]
  rw [← h]; decide
 have s6 := tables_step i3 (by omega)
 rw [t3] at s6
 have s7 := drop_step i3 (by omega) 1
 have s7 : xDrop (some (absS [[[fA 2]], [[fA 3]]] [0, 0] [])) 1 = some (180, some (absS [[[fA 2]], [[fA 3]]] [0, 0] []), ()) := s7
 have s8 := drop_step i3 (by omega) 2
 have s8 : xDrop (some (absS [[[fA 2]], [[fA 3]]] [0, 0] [])) 2 = some (180, some (absS [[[fA 2]], [[fA 3]]] [0, 0] []), ()) := s8
 have s0 := new_step [[fA 2]] (sm_one 2)
 rw [if_pos fA_valid2] at s0
 rw [LvG.f13_eq, file_ok 2 _ (by omega)]
 simp only [ob_some']
 rw [LvG.f7_eq, s0]
 simp only [ob_some', Option.isNone_some, sel_f']
 rw [LvG.f27_eq, s1]
 simp only [ob_some', bne_self_eq_false, sel_f']
 rw [file_ok 3 _ (by omega)]
 simp only [ob_some']
 rw [LvG.f33_eq, s2]
 simp only [ob_some', bne_self_eq_false, sel_f']
 rw [LvG.f22_eq, s3]
 simp only [ob_some']
 rw [ints_ok [2, 3] (by simp) _ (by simp; omega)]
 simp only [ob_some', Bool.not_true, sel_f']
 rw [LvG.f20_eq, s4]
 simp only [ob_some', bne_self_eq_false]
 rw [LvG.p13_2051_eq, sel_f, LvG.p13_4_eq, LvG.f18_eq, s5]
 simp only [ob_some', beq_self_eq_true, sel_t']
 rw [LvG.f22_eq, s6]
 simp only [ob_some']
 rw [ints_ok [3] (by simp) _ (by simp; omega)]
 simp only [ob_some', sel_t']
 rw [LvG.f18_eq, s7]
 simp only [ob_some', beq_self_eq_true, sel_t']
 rw [LvG.f18_eq, s8]
 simp only [ob_some', beq_self_eq_true]
end Lw
end
section
/-! LiveCalm: nothing stays for good. Plain. -/
namespace Lw
open Go Lk Lv
open LvS1 (nums numsM sortI)
variable {A : List Levels} {H W : List Int} {B : Nat}
theorem inv_lower (h : Inv A H W B) (i : Nat) (x : Int) (h0 : 0 ≤ x) (hx : x ≤ B) : Inv A (H.set i x) W B where
 ne := h.ne
 len := by simp [h.len]
 pos := fun y hy => (mem_set' hy).elim (fun hy => h.pos y hy) (fun e => by omega)
 top := fun y hy => (mem_set' hy).elim (fun hy => h.top y hy) (fun e => by omega)
 cnt := h.cnt
 ok := h.ok
 sml := h.sml
 nod := h.nod
 wpos := h.wpos
 room := h.room
theorem step_w (s : List Levels × List Int × List Int) (a : Act) (q : Int) : ∀ x ∈ (step s a q).2.2, x ∈ s.2.2 ∨ x = a.2.1 := by
 intro x hx
 unfold step at hx
 by_cases q0 : q = 0
 ·rw [if_pos q0] at hx
  split at hx <;> exact .inl hx
 ·rw [if_neg q0] at hx
  by_cases q1 : q = 1
  ·rw [if_pos q1] at hx; exact .inl hx
  ·rw [if_neg q1] at hx
   by_cases q2 : q = 2
   ·rw [if_pos q2] at hx
    split at hx <;> exact .inl hx
   ·rw [if_neg q2] at hx
    by_cases q3 : q = 3
    ·rw [if_pos q3] at hx
     split at hx
     ·exact .inl hx
     ·split at hx
      ·exact .inl hx
      ·have hx : x ∈ s.2.2 ++ [a.2.1] := hx
       rcases List.mem_append.1 hx with h | h
       ·exact .inl h
       ·exact .inr (by simpa using h)
    ·rw [if_neg q3] at hx
     split at hx
     ·split at hx
      ·exact .inl (List.mem_filter.1 hx).1
      ·exact .inl hx
     ·exact .inl hx
theorem vs_zero : ∀ (A : List Levels) (H : List Int) (k : Int), A.length = H.length → A ≠ [] → (∀ x ∈ H, x = 0) → vsFrom k A H = [(k + A.length - 1, (A.getD (A.length - 1) [], 0))]
 | [], _, _, _, h, _ => (h rfl).elim
 | a :: A, [], _, h, _, _ => by simp at h
 | [a], h :: H, k, hl, _, h0 => by
  have : H = [] := by cases H with | nil => rfl | cons _ _ => simp at hl
  subst this
  have hz : h = 0 := h0 h (by simp)
  subst hz
  show [(k, (a, (0 : Int)))] = [(k + 1 - 1, (a, 0))]
  rw [show k + 1 - 1 = k by omega]
 | a :: a' :: A, h :: H, k, hl, _, h0 => by
  have hz : h = 0 := h0 h (by simp)
  subst hz
  have ih := vs_zero (a' :: A) H (k + 1) (by simpa using hl) (by simp) (fun x hx => h0 x (by simp [hx]))
  rw [vsFrom]
  show (bif false || decide ((0 : Int) < 0) then _ else vsFrom (k + 1) (a' :: A) H) = _
  rw [ih]
  show [_] = [_]
  have e : k + 1 + ((a' :: A).length : Int) - 1 = k + ((a :: a' :: A).length : Int) - 1 := by simp only [List.length_cons]; omega
  rw [e]; rfl
noncomputable def leftB (cur : Levels) (s : T) : Bool := (Nq.parseA s).2.2.1 != 0 || ((Nq.parseA s).1 == 4 || ((Nq.parseA s).1 == 2 && decide ((Nq.parseA s).2.1 ∈ nums cur)))
theorem gone_left {cur : Levels} (hv : validM cur = true) (s : T) : goneM (numsM cur) 2147483652 0 s = !leftB cur s := by
 unfold goneM leftB
 rcases Nq.parseA_sound s with h | ⟨k, n, h, hg⟩
 ·rw [h]; rfl
 ·rw [h]
  rw [Nq.good_iff] at hg
  show ((0 : Int) == 0 && _) = !(((0 : Int) != 0) || _)
  rw [beq_self_eq_true, Bool.true_and, bne_self_eq_false, Bool.false_or]
  rcases hg with ⟨rfl, rfl, _⟩ | ⟨hk, h1, h2, _⟩
  ·rfl
  ·rcases hk with rfl | rfl | rfl | rfl
   ·show decide (n < 2147483652) = _
    rw [decide_eq_true (by omega)]; rfl
   ·show (!(numsM cur).contains n) = !(false || (true && decide (n ∈ nums cur)))
    rw [Bool.false_or, Bool.true_and]
    congr 1
    rw [Bool.eq_iff_iff, decide_eq_true_eq, List.contains_iff_mem, mem_numsM hv]
   ·show (n != 0) = _
    rw [show (n != 0) = true by rw [bne_iff_ne]; omega]; rfl
   ·rfl
theorem count_left {cur : Levels} (hv : validM cur = true) (L : List T) : ((So.srt So.leN L).filter (goneM (numsM cur) 2147483652 0)).length + L.countP (leftB cur) = L.length := by
 have h1 : ((So.srt So.leN L).filter (goneM (numsM cur) 2147483652 0)).length = (L.filter (goneM (numsM cur) 2147483652 0)).length := ((So.srt_perm (le := So.leN) L).filter _).length_eq
 rw [h1]
 have h2 : ∀ L : List T, (L.filter (goneM (numsM cur) 2147483652 0)).length + L.countP (leftB cur) = L.length := by
  intro L
  induction L with
  | nil => rfl
  | cons a L ih =>
   rw [List.filter_cons, List.countP_cons, gone_left hv, List.length_cons]
   cases leftB cur a <;> simp <;> omega
 exact h2 L
section
noncomputable def fin4 (n0 : Nat) (list : List T) (s : Option Lk.LiveS) (cur : Levels) : Option (Bool × Unit) :=
 obind (LvG.f20 n0 s) fun r => sel (r.fst != 1) (LvG.p4_2072 n0 n0 list s cur true) (obind (LvG.f22 n0 s) fun r1 => obind (LvG.f23 n0 cur) fun r2 => obind (LvG.f21 n0 r1.fst r2.fst) fun r3 => LvG.p4_2072 n0 n0 list s cur (!r3.fst))
theorem ends_loop (acts : List Act) (hal : acts.length ≤ 1048576) (list : List T) (cur : Levels) (n0 : Nat) : ∀ (k i j : Nat) (W : List Int), Inv A H W B → i + k = acts.length → k + 2 ≤ j →
  ∃ W', Inv A H W' B ∧ (∀ x ∈ W', x ∈ W ∧ ∀ a ∈ acts.drop i, a.2.1 ≠ x) ∧ LvG.p4_20 j n0 acts list (some (absS A H W)) cur (i : Int) = fin4 n0 list (some (absS A H W')) cur
 | 0, i, j, W, h, hi, hj => by
  obtain ⟨j, rfl⟩ : ∃ j', j = j' + 1 := ⟨j - 1, by omega⟩
  refine ⟨W, h, fun x hx => ⟨hx, ?_⟩, ?_⟩
  ·rw [List.drop_of_length_le (by omega)]; simp
  ·rw [LvG.p4_20_eq, sel_dec, if_neg (by omega)]; rfl
 | k + 1, i, j, W, h, hi, hj => by
  obtain ⟨j, rfl⟩ : ∃ j', j = j' + 1 := ⟨j - 1, by omega⟩
  have hil : i < acts.length := by omega
  have e0 : acts.getD (i : Int).toNat ((0 : Int), (0 : Int), (0 : Int), [], [], ()) = acts[i] := by rw [Int.toNat_natCast, List.getD_eq_getElem?_getD, List.getElem?_eq_getElem hil]; rfl
  have e2 : IntKind.i64.wrap ((i : Int) + 1) = ((i + 1 : Nat) : Int) := by rw [wrap64 (by omega) (by omega)]; omega
  have he : ∃ c : Int, xEnd (some (absS A H W)) acts[i].2.1 = some (c, some (absS A H (W.filter fun n => !(n == acts[i].2.1))), ()) := by
   rw [end_step]
   by_cases hm : acts[i].2.1 ∈ W
   ·rw [if_pos hm]; exact ⟨_, rfl⟩
   ·rw [if_neg hm]
    have : (W.filter fun n => !(n == acts[i].2.1)) = W := by
     rw [List.filter_eq_self]
     intro n hn
     simp only [Bool.not_eq_true', beq_eq_false_iff_ne]
     exact fun e => hm (e ▸ hn)
    rw [this]; exact ⟨_, rfl⟩
  obtain ⟨c, he⟩ := he
  obtain ⟨W', h', hw, e⟩ := ends_loop acts hal list cur n0 k (i + 1) j _ (h.fin acts[i].2.1) (by omega) (by omega)
  refine ⟨W', h', fun x hx => ?_, ?_⟩
  ·obtain ⟨g1, g2⟩ := hw x hx
   obtain ⟨g3, g4⟩ := List.mem_filter.1 g1
   refine ⟨g3, fun a ha => ?_⟩
   rw [List.drop_eq_getElem_cons hil, List.mem_cons] at ha
   rcases ha with rfl | ha
   ·simp at g4; exact fun e => g4 e.symm
   ·exact g2 a ha
  ·rw [LvG.p4_20_eq, sel_dec, if_pos (by omega), sel_dec, if_pos (by omega), sel_dec, if_pos (by omega), e0, LvG.f19_eq, he]
   simp only [ob_some']
   rw [e2, e]
theorem drops_loop (acts : List Act) (list : List T) (cur : Levels) (last : Int) (n0 n1 : Nat) (v : Nat) (hv : 1 ≤ v) (hvl : v ≤ A.length) (hB : B ≤ 4194304) : ∀ (k j : Nat) (H : List Int), Inv A H W B → refM H v = k → k + 2 ≤ j →
  Inv A (H.set (v - 1) 0) W B ∧ LvG.p4_15 j n0 n1 acts list (some (absS A H W)) last cur (v : Int) (k : Int) = LvG.p4_12 n1 n0 acts list (some (absS A (H.set (v - 1) 0) W)) last cur ((v + 1 : Nat) : Int)
 | 0, j, H, h, hr, hj => by
  obtain ⟨j, rfl⟩ : ∃ j', j = j' + 1 := ⟨j - 1, by omega⟩
  have hcnt := h.cnt
  have hlen := h.len
  refine ⟨inv_lower h _ _ (by omega) (by omega), ?_⟩
  have hi : v - 1 < H.length := by omega
  have hz : H.set (v - 1) 0 = H := by
   unfold refM at hr
   rw [if_pos (by omega), show ((v : Int) - 1).toNat = v - 1 by omega, List.getD_eq_getElem?_getD, List.getElem?_eq_getElem hi] at hr
   have hr : H[v - 1] = 0 := hr
   rw [← hr]
   exact List.set_getElem_self hi
  rw [hz, LvG.p4_15_eq, sel_dec, if_neg (by omega), wrap64 (by omega) (by omega)]
  rfl
 | k + 1, j, H, h, hr, hj => by
  obtain ⟨j, rfl⟩ : ∃ j', j = j' + 1 := ⟨j - 1, by omega⟩
  have hlen := h.len
  have htop := (ref_top h v).2
  have hi : v - 1 < H.length := by omega
  have e1 : refM H v + -1 = k := by omega
  have e2 : ((v : Int) - 1).toNat = v - 1 := by omega
  have h' := inv_lower h (v - 1) (k : Int) (by omega) (by omega)
  have hr' : refM (H.set (v - 1) (k : Int)) v = k := by
   unfold refM
   rw [List.length_set, if_pos (by omega), e2, List.getD_eq_getElem?_getD, List.getElem?_set_self hi]; rfl
  obtain ⟨g1, g2⟩ := drops_loop acts list cur last n0 n1 v hv hvl hB k j _ h' hr' (by omega)
  rw [List.set_set] at g1 g2
  refine ⟨g1, ?_⟩
  have e3 : IntKind.i64.wrap (((k + 1 : Nat) : Int) - 1) = (k : Int) := by rw [wrap64 (by omega) (by omega)]; omega
  rw [LvG.p4_15_eq, sel_dec, if_pos (by omega), LvG.f18_eq, drop_step h hB, if_neg (by omega), e1, e2]
  simp only [ob_some', bne_self_eq_false, sel_f']
  rw [e3, g2]
theorem all_loop (acts : List Act) (list : List T) (cur : Levels) (n0 : Nat) (hB : B ≤ 4194304) : ∀ (k v j : Nat) (H : List Int), Inv A H W B → v + k = A.length → k + 4194310 ≤ j → (∀ i, i < v → H.getD i 0 = 0) →
  ∃ H', Inv A H' W B ∧ (∀ x ∈ H', x = 0) ∧ LvG.p4_12 j n0 acts list (some (absS A H W)) (A.length : Int) cur ((v + 1 : Nat) : Int) = LvG.p4_20 n0 n0 acts list (some (absS A H' W)) cur 0
 | 0, v, j, H, h, hv, hj, hz => by
  obtain ⟨j, rfl⟩ : ∃ j', j = j' + 1 := ⟨j - 1, by omega⟩
  refine ⟨H, h, fun x hx => ?_, ?_⟩
  ·obtain ⟨i, hi, rfl⟩ := List.mem_iff_getElem.1 hx
   have := hz i (by have := h.len; omega)
   rw [List.getD_eq_getElem?_getD, List.getElem?_eq_getElem hi] at this
   exact this
  ·rw [LvG.p4_12_eq, sel_dec, if_neg (by omega)]
 | k + 1, v, j, H, h, hv, hj, hz => by
  obtain ⟨j, rfl⟩ : ∃ j', j = j' + 1 := ⟨j - 1, by omega⟩
  obtain ⟨r1, r2⟩ := ref_top h ((v + 1 : Nat) : Int)
  obtain ⟨m, hm⟩ : ∃ m : Nat, refM H ((v + 1 : Nat) : Int) = m := ⟨(refM H ((v + 1 : Nat) : Int)).toNat, by omega⟩
  obtain ⟨g1, g2⟩ := drops_loop acts list cur (A.length : Int) n0 j (v + 1) (by omega) (by omega) hB m j H h hm (by omega)
  rw [Nat.add_sub_cancel] at g1 g2
  obtain ⟨H', k1, k2, k3⟩ := all_loop acts list cur n0 hB k (v + 1) j _ g1 (by omega) (by omega) (fun i hi => by
   have hlen := h.len
   rcases Nat.lt_or_ge i v with hlt | hge
   ·rw [List.getD_eq_getElem?_getD, List.getElem?_set_ne (by omega), ← List.getD_eq_getElem?_getD]
    exact hz i hlt
   ·have : i = v := by omega
    subst this
    rw [List.getD_eq_getElem?_getD, List.getElem?_set_self (by omega)]; rfl)
  refine ⟨H', k1, k2, ?_⟩
  rw [LvG.p4_12_eq, sel_dec, if_pos (by omega), LvG.f17_eq, refs_step h, hm]
  simp only [ob_some']
  rw [g2, k3]
theorem plain_loop (acts : List Act) (hok : ∀ a ∈ acts, ActOk a) (hal : acts.length ≤ 1048576) (list : List T) (n0 : Nat) : ∀ (k i j : Nat) (s : List Levels × List Int × List Int) (B : Nat), Inv s.1 s.2.1 s.2.2 B → (∀ x ∈ s.2.2, ∃ a ∈ acts, a.2.1 = x) → i + k = acts.length → B + ((acts.drop i).map wt).sum + 7 ≤ 4194304 → k + 3 ≤ j →
  ∃ (s' : List Levels × List Int × List Int) (B' : Nat), Inv s'.1 s'.2.1 s'.2.2 B' ∧ (∀ x ∈ s'.2.2, ∃ a ∈ acts, a.2.1 = x) ∧ B' + 7 ≤ 4194304 ∧
   LvG.p4_7 j n0 acts list (some (absT s)) (i : Int) = obind (LvG.f16 n0 (some (absT s'))) fun r => LvG.p4_12 n0 n0 acts list (some (absT s')) r.fst r.snd.fst 1
 | 0, i, j, s, B, h, hw, hi, hB, hj => by
  obtain ⟨j, rfl⟩ : ∃ j', j = j' + 1 := ⟨j - 1, by omega⟩
  refine ⟨s, B, h, hw, by omega, ?_⟩
  rw [LvG.p4_7_eq, sel_dec, if_neg (by omega)]
 | k + 1, i, j, s, B, h, hw, hi, hB, hj => by
  obtain ⟨j, rfl⟩ : ∃ j', j = j' + 1 := ⟨j - 1, by omega⟩
  have hil : i < acts.length := by omega
  have e0 : acts.getD (i : Int).toNat ((0 : Int), (0 : Int), (0 : Int), [], [], ()) = acts[i] := by rw [Int.toNat_natCast, List.getD_eq_getElem?_getD, List.getElem?_eq_getElem hil]; rfl
  have e2 : IntKind.i64.wrap ((i : Int) + 1) = ((i + 1 : Nat) : Int) := by rw [wrap64 (by omega) (by omega)]; omega
  rw [List.drop_eq_getElem_cons hil, List.map_cons, List.sum_cons] at hB
  obtain ⟨p1, p2⟩ := plain_ok s h acts[i] (by omega) (hok _ (List.getElem_mem hil)).lev j (by omega)
  obtain ⟨s', B', g1, g2, g3, g4⟩ := plain_loop acts hok hal list n0 k (i + 1) j _ _ p2 (fun x hx => (step_w s acts[i] _ x hx).elim (hw x) (fun e => ⟨acts[i], List.getElem_mem hil, e.symm⟩)) (by omega) (by omega) (by omega)
  refine ⟨s', B', g1, g2, g3, ?_⟩
  rw [LvG.p4_7_eq, sel_dec, if_pos (by omega), sel_dec, if_pos (by omega), sel_dec, if_pos (by omega), e0, p1]
  simp only [ob_some']
  rw [e2, g4]
end
variable (hT : Told1)
include hT
theorem left_loop {cur : Levels} {C : Nat} (hc : Sm cur C) (hv : validM cur = true) (s : Lk.LiveS) (list : List T) (hls : list.length ≤ 1048576) (hsh : So.Sh 1048576 list) (n0 n1 : Nat) (G : List T) (hG : LvG.f26 n1 (some s) list 2147483652 0 = some (G, ())) (hGl : G.length + list.countP (leftB cur) = list.length) :
  ∀ (k i j : Nat) (c : Nat), i + k = list.length → k + 10000010 ≤ j → c + (list.drop i).countP (leftB cur) = list.countP (leftB cur) → LvG.p4_27 j n0 n1 list (some s) cur (c : Int) (i : Int) = some (true, ())
 | 0, i, j, c, hi, hj, hcn => by
  obtain ⟨j, rfl⟩ : ∃ j', j = j' + 1 := ⟨j - 1, by omega⟩
  rw [List.drop_of_length_le (by omega), List.countP_nil] at hcn
  rw [LvG.p4_27_eq, sel_dec, if_neg (by omega), hG]
  simp only [ob_some']
  rw [wrap64 (by omega) (by omega), show ((G.length : Int) == (list.length : Int) - (c : Int)) = true by rw [beq_iff_eq]; omega]
 | k + 1, i, j, c, hi, hj, hcn => by
  obtain ⟨j, rfl⟩ : ∃ j', j = j' + 2 := ⟨j - 2, by omega⟩
  have hil : i < list.length := by omega
  have e0 : list.getD (i : Int).toNat [] = list[i] := by rw [Int.toNat_natCast, List.getD_eq_getElem?_getD, List.getElem?_eq_getElem hil]; rfl
  have e2 : IntKind.i64.wrap ((i : Int) + 1) = ((i + 1 : Nat) : Int) := by rw [wrap64 (by omega) (by omega)]; omega
  have hle : c ≤ list.countP (leftB cur) := by omega
  have hle2 := List.countP_le_length (p := leftB cur) (l := list)
  have e3 : IntKind.i64.wrap ((c : Int) + 1) = ((c + 1 : Nat) : Int) := by rw [wrap64 (by omega) (by omega)]; omega
  rw [List.drop_eq_getElem_cons hil, List.countP_cons] at hcn
  obtain ⟨a, g, b, f1, f2⟩ := find_ok cur hc hv (Nq.parseA list[i]).2.1 (j + 1) (by omega)
  have next : ∀ b : Bool, b = leftB cur list[i] → LvG.p4_2080 (j + 1) n0 n1 (j + 1) list (some s) cur (c : Int) (i : Int) b = some (true, ()) := by
   intro b hb
   rw [← hb] at hcn
   rw [LvG.p4_2080_eq]
   cases b with
   | true =>
    rw [sel_t, LvG.p4_28_eq, e2, e3]
    exact left_loop hc hv s list hls hsh n0 n1 G hG hGl k (i + 1) (j + 1) (c + 1) (by omega) (by omega) (by simp at hcn; omega)
   | false =>
    rw [sel_f, LvG.p4_28_eq, e2]
    exact left_loop hc hv s list hls hsh n0 n1 G hG hGl k (i + 1) (j + 1) c (by omega) (by omega) (by simp at hcn; omega)
  rw [LvG.p4_27_eq, sel_dec, if_pos (by omega), sel_dec, if_pos (by omega), sel_dec, if_pos (by omega), e0, hT.h24 (j + 1) list[i] (by omega) (hsh _ (List.getElem_mem hil))]
  simp only [ob_some']
  rw [f1]
  simp only [ob_some', Option.isSome_some, sel_t']
  cases h1 : (Nq.parseA list[i]).2.2.1 != 0 with
  | true => rw [sel_t]; exact next true (by unfold leftB; rw [h1]; rfl)
  | false =>
   rw [sel_f]
   cases h2 : (Nq.parseA list[i]).1 == 4 with
   | true => rw [sel_t]; exact next true (by unfold leftB; rw [h1, h2]; rfl)
   | false =>
    rw [sel_f]
    cases h3 : (Nq.parseA list[i]).1 == 2 with
    | true =>
     rw [sel_t]
     refine next b ?_
     unfold leftB
     rw [h1, h2, h3, Bool.false_or, Bool.false_or, Bool.true_and, Bool.eq_iff_iff, decide_eq_true_eq]
     exact f2
    | false => rw [sel_f]; exact next false (by unfold leftB; rw [h1, h2, h3]; rfl)
theorem fin_ok (h : Inv A H [] B) (hB : B + 7 ≤ 4194304) (hz : ∀ x ∈ H, x = 0) (list : List T) (hls : list.length ≤ 1048576) (hsh : So.Sh 1048576 list) (n0 : Nat) (hn : 30000000 ≤ n0) : fin4 n0 list (some (absS A H [])) (A.getD (A.length - 1) []) = some (true, ()) := by
 obtain ⟨n0, rfl⟩ : ∃ n', n0 = n' + 2 := ⟨n0 - 2, by omega⟩
 obtain ⟨_, hm⟩ := current_step h hB
 obtain ⟨m1, m2, m3⟩ := needed_len h
 have hv := h.ok _ hm
 have hsm := inv_sm h hB hm
 have hvs := vs_zero A H 1 h.len h.ne hz
 have htab : tablesS (absS A H []) = numsM (A.getD (A.length - 1) []) := by
  have hnd := ((valid_iff _).1 hv).2.2
  refine strict_ext (tables_spec _).1 ?_ fun x => ?_
  ·unfold numsM
   rw [hv, cond_true]
   exact sorted_strict (sortI_sorted _) ((sortI_perm _).nodup_iff.2 hnd)
  ·rw [(tables_spec _).2, mem_needed, hvs]
   show x ∈ [] ∨ x ∈ numsM _ ++ [] ↔ _
   rw [List.append_nil]
   simp
 unfold fin4
 have hlen1 : (vsFrom 1 A H).length = 1 := by rw [hvs]; rfl
 rw [LvG.f20_eq, len_step h (by omega), hlen1]
 simp only [ob_some']
 show sel ((((1 : Nat) : Int)) != 1) _ _ = _
 rw [show ((((1 : Nat) : Int)) != 1) = false from rfl, sel_f, LvG.f22_eq, tables_step h hB, LvG.f23_eq, sm_smallN hsm, cond_true, htab]
 simp only [ob_some']
 have hnl : (numsM (A.getD (A.length - 1) [])).length ≤ B := by rw [← htab]; exact m3
 rw [ints_ok _ (by omega) _ (by omega)]
 simp only [ob_some', Bool.not_true]
 rw [LvG.p4_2072_eq, sel_f, LvG.p4_25_eq]
 have hob := obs_ok hT (absS A H []) (smallN_all h hB) (by omega) (by omega) list hls hsh 2147483652 0 (n0 + 1) (by omega)
 rw [htab] at hob
 have := left_loop hT hsm hv (absS A H []) list hls hsh (n0 + 2) (n0 + 1) _ hob (count_left hv list) list.length 0 (n0 + 1) 0 (by omega) (by omega) (by rw [List.drop_zero]; omega)
 exact this
theorem law4_gen (l : Levels) (acts : List Act) (list : List T) (hl : Sm l 1048576) (hok : ∀ a ∈ acts, ActOk a) (hn : acts.length ≤ 1048576) (hs : (acts.map wt).sum ≤ 3000000) (hls : list.length ≤ 1048576) (hsh : So.Sh 1048576 list) (n : Nat) (hn0 : 99999996 ≤ n) : LvG.f4 (n + 4) l acts list = some (true, ()) := by
 rw [LvG.f4_eq, works_ok _ (by omega)]
 simp only [ob_some', Bool.not_true, sel_f']
 rw [LvG.f7_eq, new_step l hl]
 by_cases hv : validM l = true
 ·have h1 := hl.num
  have i0 := Inv.first l hv (sm_smallL hl)
  rw [if_pos hv]
  simp only [ob_some', Option.isNone_some, sel_f']
  obtain ⟨s', B', g1, g2, g3, g4⟩ := plain_loop acts hok hn list (n + 3) acts.length 0 (n + 3) ([l], [0], []) _ i0 (by simp) (by omega) (by rw [List.drop_zero]; omega) (by omega)
  obtain ⟨ec, hm⟩ := current_step g1 g3
  obtain ⟨H', k1, k2, k3⟩ := all_loop acts list (s'.1.getD (s'.1.length - 1) []) (n + 3) (by omega) s'.1.length 0 (n + 3) s'.2.1 g1 (by omega) (by have := g1.cnt; omega) (by simp)
  obtain ⟨W', w1, w2, w3⟩ := ends_loop acts hn list (s'.1.getD (s'.1.length - 1) []) (n + 3) acts.length 0 (n + 3) s'.2.2 k1 (by omega) (by omega)
  have hW : W' = [] := by
   cases W' with
   | nil => rfl
   | cons x W'' =>
    obtain ⟨a1, a2⟩ := w2 x (by simp)
    obtain ⟨a, ha, e⟩ := g2 x a1
    exact (a2 a (by rw [List.drop_zero]; exact ha) e).elim
  subst hW
  refine Eq.trans g4 ?_
  rw [LvG.f16_eq, ec]
  simp only [ob_some']
  refine Eq.trans k3 ?_
  refine Eq.trans w3 ?_
  exact fin_ok hT w1 g3 k2 list hls hsh _ (by omega)
 ·rw [if_neg hv]
  simp only [ob_some', Option.isNone_none, sel_t']
  rw [LvG.f14_eq]
  simp only [ob_some']
  rw [show validM l = false by simpa using hv]
  rfl
theorem law4_ok (l : Levels) (acts : List Act) (list : List T) (hl : Sm l 1048576) (hok : ∀ a ∈ acts, ActOk a) (hn : acts.length ≤ 1048576) (hs : (acts.map wt).sum ≤ 3000000) (hls : list.length ≤ 1048576) (hsh : So.Sh 1048576 list) : LvG.f4 100000000 l acts list = some (true, ()) := law4_gen hT l acts list hl hok hn hs hls hsh 99999996 (Nat.le_refl _)
end Lw
end
