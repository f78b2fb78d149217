import Derived.Shelf.Small.Bits
import Derived.Shelf.Strconv.Itoa0
import Derived.Shelf.Sort.Plain
import Derived.Shelf.Slices.In.SortNone
import Derived.Shelf.Bytes.SlEqualAll
import Derived.Shelf.Bytes.Small
import Derived.Test.YtcfagjkijhjaoaaProg
import Derived.Test.YtcfagjkijhjaoaaDkFour
import Derived.LoopTactic
import Derived.Deep.RegionWith
import Derived.Deep.RegionHeld3
import Derived.BigQuiet
import Derived.Deep.QuietTactic
set_option linter.all false
/-
  DERIVED: THE SHELF's CONTRACTS AT THIS DUMP, IN PLAIN WORDS (tools/lay-plain.mjs out of 'TryShelf.lean', which tools/lay-shelf.mjs wrote): THE SAME DECLARATIONS UNDER THE SAME NAMES: 'import', 'namespace', 'open', 'def', 'theorem' AND NOTHING ELSE: no command of the shelf's: FOR A HAND-IN. Each laying: the table of numbers ('.._ren') and one theorem, a field a fact of the dump's own or the kernel's comparison; each contract: ONE APPLICATION.
-/
namespace Go.Proofs
open Go.Shelf
def Try.lays128_ren : Go.Shelf.Ren := ⟨fun | 128 => 71 | n => n, fun | 51 => 112 | 3 => 3 | 4 => 4 | 46 => 97 | 5 => 5 | 9 => 9 | n => n, fun | n => n⟩
theorem Try.lays128 : Go.Proofs.Lays.n128 Try.prog Try.lays128_ren := {
  mixed := by kernel_rfl
  f128 := Try.func71.trans (congrArg some (by kernel_rfl))
  t3 := Try.underlying3
  a3 := Try.isAgg3
  z3 := Try.sizeOf3
  v3 := Try.zeroValue3
  t4 := Try.underlying4
  a4 := Try.isAgg4
  z4 := Try.sizeOf4
  v4 := Try.zeroValue4
  t5 := Try.underlying5
  a5 := Try.isAgg5
  z5 := Try.sizeOf5
  v5 := Try.zeroValue5
  t9 := Try.underlying9
  a9 := Try.isAgg9
  z9 := Try.sizeOf9
  v9 := Try.zeroValue9
  t46 := Try.underlying97
  a46 := Try.isAgg97
  z46 := Try.sizeOf97
  v46 := Try.zeroValue97
  t51 := Try.underlying112
  a51 := Try.isAgg112
  z51 := Try.sizeOf112
  v51 := Try.zeroValue112 }
theorem Try.bits_Len32 (x : Int) (w : World) (h0 : 0 ≤ x) (h1 : x ≤ 4294967295) :
    Calls Try.prog 71 #[.int .u32 x] w fun e w' => e = .returned (.int .i64 (Lib.bitLen x.toNat)) ∧ w' = w := Any.bits_Len32 Try.lays128 x w h0 h1
def Try.lays125_ren : Go.Shelf.Ren := ⟨fun | 125 => 57 | 128 => 71 | 129 => 72 | n => n, fun | 46 => 97 | 3 => 3 | 51 => 112 | 53 => 114 | 4 => 4 | 5 => 5 | 9 => 9 | n => n, fun | n => n⟩
theorem Try.lays125 : Go.Proofs.Lays.n125 Try.prog Try.lays125_ren := {
  mixed := by kernel_rfl
  f125 := Try.func57.trans (congrArg some (by kernel_rfl))
  f128 := Try.func71.trans (congrArg some (by kernel_rfl))
  f129 := Try.func72.trans (congrArg some (by kernel_rfl))
  t3 := Try.underlying3
  a3 := Try.isAgg3
  z3 := Try.sizeOf3
  v3 := Try.zeroValue3
  t4 := Try.underlying4
  a4 := Try.isAgg4
  z4 := Try.sizeOf4
  v4 := Try.zeroValue4
  t5 := Try.underlying5
  a5 := Try.isAgg5
  z5 := Try.sizeOf5
  v5 := Try.zeroValue5
  t9 := Try.underlying9
  a9 := Try.isAgg9
  z9 := Try.sizeOf9
  v9 := Try.zeroValue9
  t46 := Try.underlying97
  a46 := Try.isAgg97
  z46 := Try.sizeOf97
  v46 := Try.zeroValue97
  t51 := Try.underlying112
  a51 := Try.isAgg112
  z51 := Try.sizeOf112
  v51 := Try.zeroValue112
  t53 := Try.underlying114
  a53 := Try.isAgg114
  z53 := Try.sizeOf114
  v53 := Try.zeroValue114 }
theorem Try.bits_Len (x : Int) (w : World) (h0 : 0 ≤ x) (h1 : x ≤ 18446744073709551615) :
    Calls Try.prog 57 #[.int .u64 x] w fun e w' => e = .returned (.int .i64 (Lib.bitLen x.toNat)) ∧ w' = w := Any.bits_Len Try.lays125 x w h0 h1
def Try.lays129_ren : Go.Shelf.Ren := ⟨fun | 129 => 72 | n => n, fun | 53 => 114 | 3 => 3 | 4 => 4 | 46 => 97 | 5 => 5 | 9 => 9 | n => n, fun | n => n⟩
theorem Try.lays129 : Go.Proofs.Lays.n129 Try.prog Try.lays129_ren := {
  mixed := by kernel_rfl
  f129 := Try.func72.trans (congrArg some (by kernel_rfl))
  t3 := Try.underlying3
  a3 := Try.isAgg3
  z3 := Try.sizeOf3
  v3 := Try.zeroValue3
  t4 := Try.underlying4
  a4 := Try.isAgg4
  z4 := Try.sizeOf4
  v4 := Try.zeroValue4
  t5 := Try.underlying5
  a5 := Try.isAgg5
  z5 := Try.sizeOf5
  v5 := Try.zeroValue5
  t9 := Try.underlying9
  a9 := Try.isAgg9
  z9 := Try.sizeOf9
  v9 := Try.zeroValue9
  t46 := Try.underlying97
  a46 := Try.isAgg97
  z46 := Try.sizeOf97
  v46 := Try.zeroValue97
  t53 := Try.underlying114
  a53 := Try.isAgg114
  z53 := Try.sizeOf114
  v53 := Try.zeroValue114 }
theorem Try.bits_Len64 (x : Int) (w : World) (h0 : 0 ≤ x) (h1 : x ≤ 18446744073709551615) :
    Calls Try.prog 72 #[.int .u64 x] w fun e w' => e = .returned (.int .i64 (Lib.bitLen x.toNat)) ∧ w' = w := Any.bits_Len64 Try.lays129 x w h0 h1
def Try.lays190_ren : Go.Shelf.Ren := ⟨fun | 190 => 37 | 125 => 57 | 258 => 56 | 128 => 71 | 129 => 72 | 302 => 62 | 303 => 63 | 304 => 64 | 305 => 65 | 306 => 66 | 307 => 67 | 308 => 68 | 309 => 69 | 310 => 70 | 333 => 73 | 329 => 74 | 330 => 75 | 334 => 76 | 335 => 77 | 336 => 78 | 344 => 79 | n => n, fun | 31 => 34 | 9 => 9 | 3 => 3 | 46 => 97 | 0 => 0 | 51 => 112 | 53 => 114 | 4 => 4 | 183 => 105 | 182 => 104 | 131 => 99 | 5 => 5 | 218 => 115 | 222 => 119 | 228 => 121 | 229 => 122 | n => n, fun | n => n⟩
theorem Try.lays190 : Go.Proofs.Lays.n190 Try.prog Try.lays190_ren := {
  mixed := by kernel_rfl
  f125 := Try.func57.trans (congrArg some (by kernel_rfl))
  f128 := Try.func71.trans (congrArg some (by kernel_rfl))
  f129 := Try.func72.trans (congrArg some (by kernel_rfl))
  f190 := Try.func37.trans (congrArg some (by kernel_rfl))
  f258 := Try.func56.trans (congrArg some (by kernel_rfl))
  f302 := Try.func62.trans (congrArg some (by kernel_rfl))
  f303 := Try.func63.trans (congrArg some (by kernel_rfl))
  f304 := Try.func64.trans (congrArg some (by kernel_rfl))
  f305 := Try.func65.trans (congrArg some (by kernel_rfl))
  f306 := Try.func66.trans (congrArg some (by kernel_rfl))
  f307 := Try.func67.trans (congrArg some (by kernel_rfl))
  f308 := Try.func68.trans (congrArg some (by kernel_rfl))
  f309 := Try.func69.trans (congrArg some (by kernel_rfl))
  f310 := Try.func70.trans (congrArg some (by kernel_rfl))
  f329 := Try.func74.trans (congrArg some (by kernel_rfl))
  f330 := Try.func75.trans (congrArg some (by kernel_rfl))
  f333 := Try.func73.trans (congrArg some (by kernel_rfl))
  f334 := Try.func76.trans (congrArg some (by kernel_rfl))
  f335 := Try.func77.trans (congrArg some (by kernel_rfl))
  f336 := Try.func78.trans (congrArg some (by kernel_rfl))
  f344 := Try.func79.trans (congrArg some (by kernel_rfl))
  t0 := Try.underlying0
  a0 := Try.isAgg0
  z0 := Try.sizeOf0
  v0 := Try.zeroValue0
  t3 := Try.underlying3
  a3 := Try.isAgg3
  z3 := Try.sizeOf3
  v3 := Try.zeroValue3
  t4 := Try.underlying4
  a4 := Try.isAgg4
  z4 := Try.sizeOf4
  v4 := Try.zeroValue4
  t5 := Try.underlying5
  a5 := Try.isAgg5
  z5 := Try.sizeOf5
  v5 := Try.zeroValue5
  t9 := Try.underlying9
  a9 := Try.isAgg9
  z9 := Try.sizeOf9
  v9 := Try.zeroValue9
  t31 := Try.underlying34
  a31 := Try.isAgg34
  z31 := Try.sizeOf34
  v31 := Try.zeroValue34
  t46 := Try.underlying97
  a46 := Try.isAgg97
  z46 := Try.sizeOf97
  v46 := Try.zeroValue97
  t51 := Try.underlying112
  a51 := Try.isAgg112
  z51 := Try.sizeOf112
  v51 := Try.zeroValue112
  t53 := Try.underlying114
  a53 := Try.isAgg114
  z53 := Try.sizeOf114
  v53 := Try.zeroValue114
  t131 := Try.underlying99
  a131 := Try.isAgg99
  z131 := Try.sizeOf99
  v131 := Try.zeroValue99
  t182 := Try.underlying104
  a182 := Try.isAgg104
  z182 := Try.sizeOf104
  v182 := Try.zeroValue104
  t183 := Try.underlying105
  a183 := Try.isAgg105
  z183 := Try.sizeOf105
  v183 := Try.zeroValue105
  t218 := Try.underlying115
  a218 := Try.isAgg115
  z218 := Try.sizeOf115
  v218 := Try.zeroValue115
  t222 := Try.underlying119
  a222 := Try.isAgg119
  z222 := Try.sizeOf119
  v222 := Try.zeroValue119
  t228 := Try.underlying121
  a228 := Try.isAgg121
  z228 := Try.sizeOf121
  v228 := Try.zeroValue121
  t229 := Try.underlying122
  a229 := Try.isAgg122
  z229 := Try.sizeOf122
  v229 := Try.zeroValue122 }
open Go.Sort Go.RowKit in
theorem Try.slices_Sort_string (blk off cap : Nat) (ss : List (List UInt8)) (w : World) (hH : Holds encStr w blk off ss.toArray) (hblk : blk < w.heap.size) (hsz : ss.length < 4611686018427387904) :
    Calls Try.prog 37 #[.slice (some ⟨blk, off, none⟩) ss.length cap] w fun e w' =>
      e = .returned (.tuple #[]) ∧ ∃ n os, w' = grow (putRow encStr (Sort.ahead w n) blk off (ss.mergeSort fun x y => decide (x ≤ y)).toArray) os := Any.slices_Sort_string Try.lays190 blk off cap ss w hH hblk hsz
open Go.RowKit Go.Sort in
theorem Try.slices_Sort_string_none (p : Option Addr) (cap : Nat) (w : World) :
    Calls Try.prog 37 #[.slice p 0 cap] w fun e w' => e = .returned (.tuple #[]) ∧ w' = w := Any.slices_Sort_string_none Try.lays190 p cap w
def Try.laysnb115_ren : Go.Shelf.Ren := ⟨fun | 115 => 53 | n => n, fun | 37 => 29 | 4 => 4 | 9 => 9 | 5 => 5 | n => n, fun | n => n⟩
theorem Try.laysnb115 : Go.Proofs.Lays.nb115 Try.prog Try.laysnb115_ren := {
  mixed := by kernel_rfl
  f115 := Try.func53.trans (congrArg some (by kernel_rfl))
  t4 := Try.underlying4
  a4 := Try.isAgg4
  z4 := Try.sizeOf4
  v4 := Try.zeroValue4
  t9 := Try.underlying9
  a9 := Try.isAgg9
  z9 := Try.sizeOf9
  v9 := Try.zeroValue9
  t37 := Try.underlying29
  a37 := Try.isAgg29
  z37 := Try.sizeOf29
  v37 := Try.zeroValue29
  t5 := Try.underlying5
  a5 := Try.isAgg5
  z5 := Try.sizeOf5
  v5 := Try.zeroValue5 }
theorem Try.bytes_Equal_all (p1 p2 : Option Addr) (n c m d : Nat) (xs ys : List Int) (w : World) (hx : xs.length = n) (hy : ys.length = m) (h1 : Lib.BytesIn w p1 n xs) (h2 : Lib.BytesIn w p2 m ys) :
    Calls Try.prog 53 #[.slice p1 n c, .slice p2 m d] w fun e w' => e = .returned (.bool (Lib.bytesOf xs == Lib.bytesOf ys)) ∧ w' = w := Any.bytes_Equal_all Try.laysnb115 p1 p2 n c m d xs ys w hx hy h1 h2
def Try.lays115_ren : Go.Shelf.Ren := ⟨fun | 115 => 53 | n => n, fun | 37 => 29 | 4 => 4 | 9 => 9 | 5 => 5 | n => n, fun | n => n⟩
theorem Try.lays115 : Go.Proofs.Lays.n115 Try.prog Try.lays115_ren := {
  mixed := by kernel_rfl
  f115 := Try.func53.trans (congrArg some (by kernel_rfl))
  t4 := Try.underlying4
  a4 := Try.isAgg4
  z4 := Try.sizeOf4
  v4 := Try.zeroValue4
  t9 := Try.underlying9
  a9 := Try.isAgg9
  z9 := Try.sizeOf9
  v9 := Try.zeroValue9
  t37 := Try.underlying29
  a37 := Try.isAgg29
  z37 := Try.sizeOf29
  v37 := Try.zeroValue29 }
theorem Try.bytes_Equal (v1 v2 : Value) (xs ys : List Int) (w : World) (h1 : (convert 29 9 v1).run Try.prog w = .ok (.string (strOfNums xs)) w) (h2 : (convert 29 9 v2).run Try.prog w = .ok (.string (strOfNums ys)) w) :
    Calls Try.prog 53 #[v1, v2] w fun e w' => e = .returned (.bool (Lib.bytesOf xs == Lib.bytesOf ys)) ∧ w' = w := Any.bytes_Equal Try.lays115 v1 v2 xs ys w h1 h2
end Go.Proofs

namespace Go.Proofs.Ytcfagjkijhjaoaa
open Go.RowKit

def StrsAt (w : World) (l : List (List UInt8)) (v : Value) (bb : Option Nat) : Prop := match bb with
  | none => v = .slice none 0 0 ∧ l = []
  | some b => ∃ (off cap : Nat) (C : Array Value) (e : TypeId) (f : Nat × Nat), v = .slice (some ⟨b, off, none⟩) l.length cap ∧ l.length ≤ cap ∧ off + cap ≤ C.size ∧ cap ≤ 9223372036854775807 ∧ w.heap[b]? = some (.cells C e f) ∧ Lk.thaw C.size f ∧
      ∀ (i : Nat) (y : List UInt8), l[i]? = some y → C[off + i]? = some (Value.string ⟨y.toArray⟩)

section
variable {τ : Lk.Ax} {S Sb : Nat → Prop} {w : World}

theorem StrsAt.keep {w w' : World} {l : List (List UInt8)} {v : Value} {bb : Option Nat} (h : StrsAt w l v bb) (hk : ∀ k ∈ bb.toList, w'.heap[k]? = w.heap[k]?) : StrsAt w' l v bb := by
  cases bb with
  | none => exact h
  | some b =>
    obtain ⟨off, cap, C, e, f, h1, h2, h3, h4, h5, h6, h7⟩ := h
    exact ⟨off, cap, C, e, f, h1, h2, h3, h4, by rw [hk b (by simp)]; exact h5, h6, h7⟩

theorem StrsAt.slice {l : List (List UInt8)} {v : Value} {bb : Option Nat} (h : StrsAt w l v bb) : ∃ a c, v = .slice a l.length c := by
  cases bb with
  | none => obtain ⟨rfl, rfl⟩ := h; exact ⟨_, _, rfl⟩
  | some b => obtain ⟨off, cap, C, e, f, h1, _⟩ := h; exact ⟨_, _, h1⟩

theorem StrsAt.hold {l : List (List UInt8)} {v : Value} {bb : Option Nat} (h : StrsAt w l v bb) (hl : ∀ s ∈ l, s.length ≤ Lk.big) : ∃ sh : Lk.Sh (.l .s), v = sh.hd ∧ Lk.hold τ S Sb w (.l .s) (.o .r) l sh ∧ Lk.bl (.l .s) (.o .r) l sh = bb.toList := by
  cases bb with
  | none =>
    obtain ⟨rfl, rfl⟩ := h
    exact ⟨⟨.slice none 0 0, 0, 0, [], 0, (0, 0), []⟩, rfl, .inl ⟨rfl, rfl⟩, rfl⟩
  | some b =>
    obtain ⟨off, cap, C, e, f, rfl, h2, h3, h4, h5, h6, h7⟩ := h
    obtain ⟨sh, g1, g2, g3⟩ := Lk.flat_row (τ := τ) (S := S) (Sb := Sb) (w := w) (t := .s) (m := .r) (x := l) (b := b) (off := off) (cap := cap) (C := C.toList) (e := e) (f := f) rfl
      (by simpa using h5) (by simpa using h6) h2 h4 (by simp [Lk.csz]; omega) (fun i y hy => by
        refine ⟨?_, hl y (List.mem_of_getElem? hy)⟩
        show Lk.win C.toList (off + i * 1) 1 = [Value.string ⟨y.toArray⟩]
        rw [Nat.mul_one]
        exact win_one (by simpa using h7 i y hy))
    exact ⟨sh, g3.symm, g1, by rw [g2]; rfl⟩

theorem strs_bl {l : List (List UInt8)} {sh : Lk.Sh (.l .s)} (h : ∃ a n c, sh.hd = .slice (some a) n c) : Lk.bl (.l .s) (.o .r) l sh = [sh.blk] := by
  obtain ⟨a, n, c, h⟩ := h
  simp only [Lk.bl, h]
  congr 1
  rw [List.flatten_eq_nil_iff]
  intro k hk
  obtain ⟨i, hi⟩ := List.mem_iff_getElem?.1 hk
  rw [List.getElem?_zipWith] at hi
  split at hi
  · cases hi; rfl
  · cases hi

theorem strs_of {l : List (List UInt8)} {sh : Lk.Sh (.l .s)} (h : Lk.hold τ S Sb w (.l .s) (.o .r) l sh) : ∃ bb, StrsAt w l sh.hd bb ∧ Lk.bl (.l .s) (.o .r) l sh = bb.toList := by
  simp only [Lk.hold] at h
  rcases h with ⟨h1, rfl⟩ | ⟨cap, h1, h2, h3, h4, h5, h6, h7, h8⟩
  · exact ⟨none, ⟨h1, rfl⟩, by simp [Lk.bl, h1]⟩
  · refine ⟨some sh.blk, ⟨sh.off, cap, sh.C.toArray, sh.ety, sh.frz, h1, h3, by simp [Lk.csz] at h5; simpa using h5, h4, h6, by simpa using h7, fun i y hy => ?_⟩, by rw [strs_bl ⟨_, _, _, h1⟩]; rfl⟩
    have hi : i < sh.es.length := by
      rw [h2]
      exact (List.getElem?_eq_some_iff.1 hy).1
    have := (h8 i y _ hy (List.getElem?_eq_getElem hi)).1
    have := win_one_inv (v := .string ⟨y.toArray⟩) (by simpa [Lk.csz, Lk.cells, Lk.strV] using this)
    simpa using this

theorem info_9 : ∃ i, Try.prog.info? 9 = some i ∧ i.size = 1 ∧ i.bytes = 16 ∧ i.zero = some (.string .empty) := by
  have h : (Try.prog.info? 9).isSome = true := by kernel_rfl
  obtain ⟨i, hi⟩ := Option.isSome_iff_exists.1 h
  have h1 : (Try.prog.info? 9).map (·.size) = some 1 := by kernel_rfl
  have h2 : (Try.prog.info? 9).map (·.bytes) = some 16 := by kernel_rfl
  have h3 : (Try.prog.info? 9).bind (·.zero) = some (.string .empty) := by kernel_rfl
  rw [hi] at h1 h2 h3
  exact ⟨i, hi, by simpa using h1, by simpa using h2, by simpa using h3⟩

theorem append_str (τ : Lk.Ax) {l : List (List UInt8)} {v : Value} {bb : Option Nat} (h : StrsAt w l v bb) (hl : ∀ s ∈ l, s.length ≤ Lk.big) {y : List UInt8} (hy : y.length ≤ Lk.big) {k : Nat} {e : TypeId} (hk : w.heap[k]? = some (.cells #[.string ⟨y.toArray⟩] e (0, 0))) (hb : l.length ≤ 1073741824) (oT : TypeId) :
    ∃ w' v' bb', (Builtin.append_ #[34, 34] oT #[v, .slice (some ⟨k, 0, none⟩) 1 1]).run Try.prog w = .ok v' w' ∧ StrsAt w' (l ++ [y]) v' bb' ∧
      (bb' = bb ∧ Lk.Ext bb.toList w w' ∨ Lk.Ext [] w w' ∧ ∃ n, bb' = some n ∧ w.heap.size ≤ n ∧ n < w'.heap.size) := by
  obtain ⟨sh, rfl, h1, h2⟩ := h.hold (τ := τ) (S := fun _ => True) (Sb := fun _ => True) hl
  have hsrc : Lk.Rd τ (fun _ => True) w (.l .s) [y] [.slice (some ⟨k, 0, none⟩) 1 1] := by
    refine ⟨some ⟨k, 0, none⟩, 1, rfl, Nat.le_refl _, by simp [Lk.big], by simp, .inr ⟨k, 0, _, e, (0, 0), rfl, trivial, hk, fun i z hz => ?_⟩⟩
    cases i with
    | zero =>
      obtain rfl : y = z := by simpa using hz
      exact ⟨rfl, hy⟩
    | succ i => simp at hz
  obtain ⟨vs, f1, f2, f3, f4⟩ := Lk.src_cells (P := Try.prog) hsrc 1 (Nat.le_refl _)
  obtain ⟨i9, i1, i2, i3, i4⟩ := info_9
  obtain ⟨w', d', k1, k2, k3, k4⟩ := Lk.run_append (P := Try.prog) (τ := τ) (w := w) (t := .s) (m := .r) (x := l) (sh := sh) (T := 34) (T2 := 34) (e := 9) (i := i9) (z := .string .empty) (d2 := .slice 9) (vs := vs) (y := [y]) (vb := sh.hd) (vsrc := .slice (some ⟨k, 0, none⟩) 1 1) (S := fun _ => True) (Sb := fun _ => True)
    rfl rfl h1 rfl Try.underlying34 i1 i2 i4 rfl Try.underlying34 (fun k => by simp) f4 f1 f2 (fun i u hu => f3 i u (List.getElem?_eq_some_iff.1 hu).1 hu) (by rw [i3]; simp; omega) (by simp; omega) oT
  obtain ⟨t, m, x, sh'⟩ := d'
  simp only [Lk.DV.av, Lk.AV.mk.injEq] at k2
  obtain ⟨rfl, rfl, k2⟩ := k2
  obtain rfl := eq_of_heq k2
  obtain ⟨bb', g1, g2⟩ := strs_of (show Lk.hold τ _ _ w' (.l .s) (.o .r) (l ++ [y]) sh' from k3)
  refine ⟨w', sh'.hd, bb', k1, g1, ?_⟩
  have e1 : Lk.DV.bl ⟨.l .s, .o .r, l ++ [y], sh'⟩ = bb'.toList := g2
  rw [e1, h2] at k4
  rcases k4 with ⟨k, kx⟩ | ⟨kx, n, k, k5, k6⟩
  · refine .inl ⟨?_, kx⟩
    cases bb <;> cases bb' <;> simp_all
  · refine .inr ⟨kx, n, ?_, k5, k6⟩
    cases bb' <;> simp_all
end

theorem sort_strs {w : World} {l : List (List UInt8)} {v : Value} {bb : Option Nat} (h : StrsAt w l v bb) (hl : l.length ≤ 1073741824) :
    Calls Try.prog 37 #[v] w fun e w' => e = .returned (.tuple #[]) ∧ StrsAt w' (l.mergeSort fun x y => decide (x ≤ y)) v bb ∧ Lk.Ext bb.toList w w' := by
  cases bb with
  | none =>
    obtain ⟨rfl, rfl⟩ := h
    refine (Try.slices_Sort_string_none none 0 w).mono ?_
    rintro e w' ⟨rfl, rfl⟩
    exact ⟨rfl, ⟨rfl, by simp⟩, ext_refl _ _⟩
  | some b =>
    obtain ⟨off, cap, C, e, f, rfl, h2, h3, h4, h5, h6, h7⟩ := h
    have hb := Lk.lt_of_some h5
    have hH : Go.Sort.Holds encStr w b off l.toArray := by
      intro j hj
      have hj' : j < l.length := by simpa using hj
      have hc := h7 j _ (List.getElem?_eq_getElem hj')
      refine ⟨?_, ?_⟩
      · unfold World.cell?
        simp only [h5]
        rw [show (l.toArray)[j]! = l[j] by simp [hj']]
        simpa [encStr] using hc
      · unfold World.frozen?
        simp only [h5]
        have := h6 (off + j) (by omega)
        simp
        intro h1
        exact Nat.le_of_not_lt fun h2 => this ⟨h1, h2⟩
    refine (Try.slices_Sort_string b off cap l w hH hb (by omega)).mono ?_
    rintro e' w' ⟨rfl, n, os, rfl⟩
    have hs : (l.mergeSort fun x y => decide (x ≤ y)).length = l.length := List.length_mergeSort _
    have hheap : (Go.Sort.putRow encStr (Go.Sort.ahead w n) b off (l.mergeSort fun x y => decide (x ≤ y)).toArray).heap[b]? = some (.cells (Go.Sort.putCells encStr off (l.mergeSort fun x y => decide (x ≤ y)).toArray C) e f) := by
      simp [Go.Sort.putRow, Go.Sort.mapBlock, Go.Sort.ahead, Array.getElem?_modify, h5, Go.Sort.onCells]
    have hsz : (Go.Sort.putRow encStr (Go.Sort.ahead w n) b off (l.mergeSort fun x y => decide (x ≤ y)).toArray).heap.size = w.heap.size := by
      simp [Go.Sort.putRow, Go.Sort.mapBlock, Go.Sort.ahead]
    have hpc : (Go.Sort.putCells encStr off (l.mergeSort fun x y => decide (x ≤ y)).toArray C).size = C.size := by simp [Go.Sort.putCells]
    refine ⟨rfl, ⟨off, cap, Go.Sort.putCells encStr off (l.mergeSort fun x y => decide (x ≤ y)).toArray C, e, f, by rw [hs], by rw [hs]; exact h2, by rw [hpc]; exact h3, h4, ?_, by rw [hpc]; exact h6, ?_⟩, ?_⟩
    · rw [Go.Sort.heap_grow_old _ _ (by rw [hsz]; exact hb)]
      exact hheap
    · intro i y hy
      have hi : i < (l.mergeSort fun x y => decide (x ≤ y)).length := (List.getElem?_eq_some_iff.1 hy).1
      have hi2 : off + i < C.size := by omega
      simp only [Go.Sort.putCells, Array.getElem?_mapIdx, Array.getElem?_eq_getElem hi2, Option.map_some]
      rw [if_pos ⟨by omega, by simp; omega⟩, show off + i - off = i by omega]
      have : ((l.mergeSort fun x y => decide (x ≤ y)).toArray)[i]! = y := by
        simp [hy]
      rw [this]
    · refine ⟨rfl, rfl, rfl, by rw [Go.Sort.size_grow, hsz]; omega, fun k hk hn => ?_⟩
      have hne : b ≠ k := fun e => hn (by simp [e])
      rw [Go.Sort.heap_grow_old _ _ (by rw [hsz]; exact hk)]
      simp [Go.Sort.putRow, Go.Sort.mapBlock, Go.Sort.ahead, Array.getElem?_modify, hne]
end Go.Proofs.Ytcfagjkijhjaoaa

namespace Go.Proofs.Ytcfagjkijhjaoaa
open Go.RowKit

def keyName (e : MapEntry) : List UInt8 := match e.key with | .string s => s.data.toList | _ => []

theorem keys_names {w : World} {x : Lk.DiskS} {b m : Nat} {es : Array MapEntry} {clock : Nat} {fl : List Ent} (h : DiskAt w x b m es clock fl) : es.toList.map keyName = fl.map (·.1.name) ∧ ∀ e ∈ es.toList, e.key = nameV (keyName e) ∧ ∃ f ∈ fl, f.1.name = keyName e ∧ e.val = .pointer (some ⟨f.2.1, 0, none⟩) := by
  have hE := h.ents
  constructor
  · have : ∀ (p : List MapEntry) (q : List Ent), p.map (fun e => (e.key, e.val)) = q.map pairF → p.map keyName = q.map (·.1.name) := by
      intro p
      induction p with
      | nil => intro q hq; cases q <;> simp_all
      | cons e p ih =>
        intro q hq
        cases q with
        | nil => simp at hq
        | cons f q =>
          simp only [List.map_cons, List.cons.injEq, Prod.mk.injEq] at hq ⊢
          refine ⟨?_, ih q hq.2⟩
          unfold keyName
          rw [hq.1.1]
          simp [nameV]
    exact this _ _ hE
  · intro e he
    have h1 : (e.key, e.val) ∈ fl.map pairF := by rw [← hE]; exact List.mem_map.2 ⟨e, he, rfl⟩
    obtain ⟨f, hf, h2⟩ := List.mem_map.1 h1
    have h3 : nameV f.1.name = e.key := congrArg Prod.fst h2
    have h4 : keyName e = f.1.name := by unfold keyName; rw [← h3]; simp [nameV]
    exact ⟨by rw [h4, h3], f, hf, h4.symm, (congrArg Prod.snd h2).symm⟩

theorem left_perm {es : Array MapEntry} {seen : Array Nat} {e : MapEntry} (hn : (es.toList.map (·.born)).Nodup) (he : e ∈ (leftOf es seen).toList) : (leftOf es seen).toList.Perm (e :: (leftOf es (seen.push e.born)).toList) := by
  obtain ⟨hm, hs⟩ := mem_left he
  have e1 : (leftOf es (seen.push e.born)).toList = (leftOf es seen).toList.filter fun x => !(x.born == e.born) := by
    unfold leftOf
    simp only [Array.toList_filter, List.filter_filter]
    refine List.filter_congr fun x _ => ?_
    rw [contains_push, Bool.not_or, Bool.and_comm]
  have hsub : (leftOf es seen).toList.Sublist es.toList := by unfold leftOf; rw [Array.toList_filter]; exact List.filter_sublist
  have hnd : ((leftOf es seen).toList.map (·.born)).Nodup := hn.sublist (hsub.map _)
  rw [e1]
  generalize (leftOf es seen).toList = l at he hnd
  clear hsub e1
  induction l with
  | nil => cases he
  | cons a l ih =>
    have hnd' : a.born ∉ l.map (·.born) ∧ (l.map (·.born)).Nodup := List.nodup_cons.1 hnd
    by_cases hab : a.born = e.born
    · have : a = e := by
        rcases List.mem_cons.1 he with rfl | h
        · rfl
        · exact absurd (by rw [hab]; exact List.mem_map.2 ⟨e, h, rfl⟩) hnd'.1
      subst this
      rw [List.filter_cons]
      simp only [beq_self_eq_true, Bool.not_true, Bool.false_eq_true, if_false]
      rw [List.filter_eq_self.2]
      intro c hc
      have : ¬ c.born = a.born := fun h => hnd'.1 (by rw [← h]; exact List.mem_map.2 ⟨c, hc, rfl⟩)
      simpa using this
    · have he' : e ∈ l := by
        rcases List.mem_cons.1 he with rfl | h
        · exact absurd rfl hab
        · exact h
      rw [List.filter_cons]
      have : (!(a.born == e.born)) = true := by simpa using hab
      rw [if_pos this]
      exact ((ih he' hnd'.2).cons a).trans (List.Perm.swap e a _)

theorem left_none (es : Array MapEntry) : (leftOf es #[]).toList = es.toList := by
  unfold leftOf; simp

theorem left_zero {es : Array MapEntry} {seen : Array Nat} (h : (leftOf es seen).size = 0) : (leftOf es seen).toList = [] := by
  have := Array.eq_empty_of_size_eq_zero h
  rw [this]

def Listing (w wr : World) (m : Nat) (es : Array MapEntry) (clock : Nat) (v : Value) : Prop :=
  ∃ (seen : Array Nat) (l : List (List UInt8)) (bb : Option Nat), wr.heap[w.heap.size]? = some (.mapIter (some m) clock seen clock) ∧ StrsAt wr l v bb ∧ (∀ k ∈ bb.toList, w.heap.size < k ∧ k < wr.heap.size) ∧ Lk.Ext [] w wr ∧ w.heap.size < wr.heap.size ∧ (l ++ (leftOf es seen).toList.map keyName).Perm (es.toList.map keyName)

theorem Listing.start (w : World) (m : Nat) (es : Array MapEntry) (clock : Nat) : Listing w (w.alloc (.mapIter (some m) clock #[] clock)) m es clock (.slice none 0 0) :=
  ⟨#[], [], none, alloc_new w _, ⟨rfl, rfl⟩, by simp, ext_alloc (ext_refl _ _) _, by rw [alloc_size]; omega, by rw [left_none]; exact List.Perm.refl _⟩

theorem heap_set_same {h : Array Obj} {k : Nat} (o : Obj) (hk : k < h.size) : (h.setIfInBounds k o)[k]? = some o := by simp [hk]
theorem heap_set_other {h : Array Obj} {k i : Nat} (o : Obj) (hk : i ≠ k) : (h.setIfInBounds k o)[i]? = h[i]? := by simp [Ne.symm hk]

def stepW (w : World) (it m since : Nat) (seen : Array Nat) (clock n : Nat) : World := { w with heap := w.heap.setIfInBounds it (.mapIter (some m) since seen clock), drawn := n }

theorem stepW_size (w : World) (it m since : Nat) (seen : Array Nat) (clock n : Nat) : (stepW w it m since seen clock n).heap.size = w.heap.size := by simp [stepW]

theorem Listing.round {w wr : World} {x : Lk.DiskS} {b m : Nat} {es : Array MapEntry} {clock : Nat} {fl : List Ent} (h : DiskAt w x b m es clock fl) (hg : Dk.Good x) {v : Value} (hl : Listing w wr m es clock v) :
    (∃ l bb, (∀ ty, (Instr.next (.pointer (some ⟨w.heap.size, 0, none⟩)) false ty).run Try.prog wr = .ok (.tuple #[.bool false]) wr) ∧ StrsAt wr l v bb ∧ (∀ k ∈ bb.toList, w.heap.size < k ∧ k < wr.heap.size) ∧ Lk.Ext [] w wr ∧ l.Perm (Dk.list x)) ∨
    ∃ (s : List UInt8) (val : Value) (w1 w2 : World) (v' : Value), (∀ ty, (Instr.next (.pointer (some ⟨w.heap.size, 0, none⟩)) false ty).run Try.prog wr = .ok (.tuple #[.bool true, .string ⟨s.toArray⟩, val]) w1) ∧
      (Instr.entry (.pointer (some ⟨w.heap.size, 0, none⟩))).run Try.prog w1 = .ok (.tuple #[.string ⟨s.toArray⟩, val]) w1 ∧
      (Builtin.append_ #[34, 34] 34 #[v, .slice (some ⟨w1.heap.size, 0, none⟩) 1 1]).run Try.prog (w1.alloc (.cells #[.string ⟨s.toArray⟩] 9)) = .ok v' w2 ∧
      Listing w w2 m es clock v' ∧ (leftOf es (w2.iterSeen w.heap.size)).size < (leftOf es (wr.iterSeen w.heap.size)).size := by
  obtain ⟨seen, l, bb, h1, h2, h3, h4, h5, h6⟩ := hl
  have hml := h.lt m (by simp)
  have hm : wr.heap[m]? = some (.map es clock) := (h4.block m hml (by simp)).trans h.map
  obtain ⟨hk1, hk2⟩ := keys_names h
  have hnm : es.toList.map keyName ≠ [] ∨ True := .inr trivial
  have hfiles : (es.toList.map keyName).Perm (Dk.list x) := by
    rw [hk1]
    have := h.perm.symm.map Lk.DFile.name
    rwa [List.map_map] at this
  have hlen64 : ∀ s ∈ es.toList.map keyName, s.length ≤ 64 := by
    intro s hs
    obtain ⟨f, hf, rfl⟩ := List.mem_map.1 (hfiles.mem_iff.1 hs)
    exact (hg.name f hf).2
  have hiter : wr.iterSeen w.heap.size = seen := by unfold World.iterSeen; rw [h1]
  rcases run_next_any (P := Try.prog) wr 0 w.heap.size m clock clock seen es clock h1 hm h.st.1 (Nat.le_refl _) with ⟨h0, hrun⟩ | ⟨e, he, n, hrun⟩
  · refine .inl ⟨l, bb, fun _ => hrun, h2, h3, h4, ?_⟩
    rw [left_zero h0] at h6
    simp only [List.map_nil, List.append_nil] at h6
    exact h6.trans hfiles
  · obtain ⟨hem, _⟩ := mem_left he
    obtain ⟨hkey, f, hf, hfn, hval⟩ := hk2 e hem
    have hsz1 : (stepW wr w.heap.size m clock (seen.push e.born) clock n).heap.size = wr.heap.size := stepW_size ..
    have hit1 : (stepW wr w.heap.size m clock (seen.push e.born) clock n).heap[w.heap.size]? = some (.mapIter (some m) clock (seen.push e.born) clock) := heap_set_same _ h5
    have hot1 : ∀ k, k ≠ w.heap.size → (stepW wr w.heap.size m clock (seen.push e.born) clock n).heap[k]? = wr.heap[k]? := fun k hk => heap_set_other _ hk
    have hm1 : (stepW wr w.heap.size m clock (seen.push e.born) clock n).heap[m]? = some (.map es clock) := (hot1 m (by omega)).trans hm
    have hen := run_entry_any (P := Try.prog) (stepW wr w.heap.size m clock (seen.push e.born) clock n) w.heap.size m clock seen es clock e hit1 hm1 hem h.st.2.1
    have hS1 : StrsAt ((stepW wr w.heap.size m clock (seen.push e.born) clock n).alloc (.cells #[.string ⟨(keyName e).toArray⟩] 9)) l v bb := h2.keep fun k hk => by
      rw [alloc_lt _ _ (by rw [hsz1]; exact (h3 k hk).2), hot1 k (by have := (h3 k hk).1; omega)]
    have hlb : ∀ s ∈ l, s.length ≤ Lk.big := by
      intro s hs
      have := hlen64 s (h6.mem_iff.1 (List.mem_append_left _ hs))
      unfold Lk.big; omega
    have hkb : (keyName e).length ≤ Lk.big := by
      have := hlen64 (keyName e) (List.mem_map.2 ⟨e, hem, rfl⟩)
      unfold Lk.big; omega
    have hll : l.length ≤ 1073741824 := by
      have h7 := h6.length_eq
      have h8 := hfiles.length_eq
      have h9 := hg.many
      simp [Dk.list] at h7 h8
      omega
    obtain ⟨w2, v', bb', hap, hS2, hE2⟩ := append_str ax0 hS1 hlb hkb (alloc_new _ _) hll 34
    have hXs : Lk.Ext [w.heap.size] wr (stepW wr w.heap.size m clock (seen.push e.born) clock n) :=
      ⟨rfl, rfl, rfl, by rw [hsz1]; omega, fun k _ hk => hot1 k (fun e => hk (by simp [e]))⟩
    have hX1 : Lk.Ext [] w ((stepW wr w.heap.size m clock (seen.push e.born) clock n).alloc (.cells #[.string ⟨(keyName e).toArray⟩] 9)) :=
      ext_alloc (ext_tr h4 hXs (fun k hk => .inr (by have := List.mem_singleton.1 hk; omega))) _
    have hX2 : Lk.Ext [] w w2 := by
      rcases hE2 with ⟨_, hE⟩ | ⟨hE, _⟩
      · exact ext_tr hX1 hE fun k hk => .inr (by have := (h3 k hk).1; omega)
      · exact ext_tr hX1 hE (by simp)
    have hsz2 : wr.heap.size < w2.heap.size := by
      have : (wr.heap.size + 1) ≤ w2.heap.size := by
        rw [← hsz1, ← alloc_size]
        rcases hE2 with ⟨_, hE⟩ | ⟨hE, _⟩ <;> exact hE.size
      omega
    have hit2 : w2.heap[w.heap.size]? = some (.mapIter (some m) clock (seen.push e.born) clock) := by
      have : w2.heap[w.heap.size]? = ((stepW wr w.heap.size m clock (seen.push e.born) clock n).alloc (.cells #[.string ⟨(keyName e).toArray⟩] 9)).heap[w.heap.size]? := by
        rcases hE2 with ⟨_, hE⟩ | ⟨hE, _⟩
        · exact hE.block _ (by rw [alloc_size, hsz1]; omega) fun hk => by have := (h3 _ hk).1; omega
        · exact hE.block _ (by rw [alloc_size, hsz1]; omega) (by simp)
      rw [this, alloc_lt _ _ (by rw [hsz1]; exact h5)]
      exact hit1
    refine .inr ⟨keyName e, e.val, stepW wr w.heap.size m clock (seen.push e.born) clock n, w2, v', ?_, ?_, hap, ⟨seen.push e.born, l ++ [keyName e], bb', hit2, hS2, ?_, hX2, by omega, ?_⟩, ?_⟩
    · intro ty
      have : (Value.string ⟨(keyName e).toArray⟩) = e.key := hkey.symm
      rw [this]
      exact hrun
    · rw [hen, hkey]; rfl
    · intro k hk
      rcases hE2 with ⟨rfl, _⟩ | ⟨_, n', rfl, hn1, hn2⟩
      · have := h3 k hk; omega
      · obtain rfl : k = n' := by simpa using hk
        rw [alloc_size, hsz1] at hn1
        omega
    · rw [List.append_assoc]
      refine List.Perm.trans ?_ h6
      refine List.Perm.append_left _ ?_
      exact ((left_perm h.st.2.1 he).map keyName).symm
    · rw [hiter]
      have : w2.iterSeen w.heap.size = seen.push e.born := by unfold World.iterSeen; rw [hit2]
      rw [this]
      exact left_shrinks es seen e he

theorem sorted_list {x : Lk.DiskS} (hg : Dk.Good x) {l : List (List UInt8)} (h : l.Perm (Dk.list x)) : (l.mergeSort fun x y => decide (x ≤ y)) = Dk.list x := by
  have hs : (Dk.list x).Pairwise fun a b => a < b := List.pairwise_map.2 hg.sorted
  have h1 : (l.mergeSort fun x y => decide (x ≤ y)).Pairwise fun a b => decide (a ≤ b) = true := List.pairwise_mergeSort (fun a b c h1 h2 => by
      have h1 := of_decide_eq_true h1
      have h2 := of_decide_eq_true h2
      exact decide_eq_true (List.le_trans h1 h2)) (fun a b => by
      rcases List.le_total a b with h | h
      · simp [h]
      · simp [h]) l
  have h2 : (Dk.list x).Pairwise fun a b => decide (a ≤ b) = true := hs.imp fun {a b} h => decide_eq_true (List.le_of_lt h)
  refine List.Perm.eq_of_pairwise ?_ h1 h2 ((List.mergeSort_perm _ _).trans h)
  intro a b _ _ h1 h2
  exact List.le_antisymm (of_decide_eq_true h1) (of_decide_eq_true h2)

set_option maxRecDepth 100000 in
set_option maxHeartbeats 1000000 in
theorem list_any (w : World) (x : Lk.DiskS) (b m : Nat) (es : Array MapEntry) (clock : Nat) (fl : List Ent) (h : DiskAt w x b m es clock fl) (hg : Dk.Good x) :
    Calls Try.prog 12 #[.pointer (some ⟨b, 0, none⟩)] w fun e w' => ∃ v bb, e = .returned v ∧ StrsAt w' (Dk.list x) v bb ∧ Lk.Ext [] w w' ∧ ∀ k ∈ bb.toList, w.heap.size ≤ k ∧ k < w'.heap.size := by
  have hr := run_range_map (P := Try.prog) w 52 _ _ m es clock Try.underlying52 h.map
  have hstart := Listing.start w m es clock
  have hround := fun wr v => Listing.round (w := w) (wr := wr) h hg (v := v)
  obtain ⟨h0, _⟩ := h.cell
  go_enter Try.func12, Try.ntmps12
  go_wp2_with (go_at_call 35; refine (none_any _ b m h0).mono ?_; rintro e w2 ⟨rfl, hw⟩; replace hw := hw.symm; subst hw)
  go_loopw [3] (fun v wr => Listing w wr m es clock v) (fun _ wr => (leftOf es (wr.iterSeen w.heap.size)).size)
  case atStart => exact hstart
  case round =>
    rcases hround _ _ hrel with ⟨l, bb, hnx, hS, hB, hX, hP⟩ | ⟨s, val, w1, w2, v', hnx, hen, hap, hL, hlt⟩
    · clear hrel hround hr hstart
      have hlen : l.length ≤ 1073741824 := by
        have h1 := hP.length_eq
        have h2 := hg.many
        simp [Dk.list] at h1
        omega
      have hsort := sort_strs hS hlen
      rw [sorted_list hg hP] at hsort
      clear hS hP hlen
      go_wp2_with (go_at_call 37; refine hsort.mono ?_; rintro e w3 ⟨rfl, hS3, hX3⟩)
      go_ret
      exact ⟨_, bb, rfl, hS3, ext_tr hX hX3 (fun k hk => .inr (by have := (hB k hk).1; omega)), fun k hk => ⟨by have := (hB k hk).1; omega, by have := (hB k hk).2; have := hX3.size; omega⟩⟩
    · clear hrel hround hr hstart
      go_wp2_with (at_builtin; refine wpList_append_run rfl _ _ _ _ rfl rfl rfl 34 rfl hap ?_)
      go_roundw
      case rel => exact hL
      case measure => exact hlt
end Go.Proofs.Ytcfagjkijhjaoaa

namespace Go.Proofs.Ytcfagjkijhjaoaa
open Go.RowKit

/-- What a crash has made of the files, where it has come to the k-th. -/
def crashTo (keep : List Int) (k : Nat) (l : List Lk.DFile) : List Lk.DFile := Dk.crashGo keep 0 (l.take k) ++ l.drop k
def crashK (x : Lk.DiskS) (keep : List Int) (k : Nat) : Lk.DiskS := { x with files := crashTo keep k x.files, used := Dk.total (crashTo keep k x.files) }

theorem crashGo_length (keep : List Int) : ∀ (l : List Lk.DFile) (i : Nat), (Dk.crashGo keep i l).length = l.length
  | [], _ => rfl
  | f :: l, i => by simp [Dk.crashGo, crashGo_length keep l (i + 1)]

theorem crashGo_names (keep : List Int) : ∀ (l : List Lk.DFile) (i : Nat), (Dk.crashGo keep i l).map (·.name) = l.map (·.name)
  | [], _ => rfl
  | f :: l, i => by simp [Dk.crashGo, crashGo_names keep l (i + 1), Dk.left]

theorem crashGo_append (keep : List Int) : ∀ (l r : List Lk.DFile) (i : Nat), Dk.crashGo keep i (l ++ r) = Dk.crashGo keep i l ++ Dk.crashGo keep (i + l.length) r
  | [], r, i => by simp [Dk.crashGo]
  | f :: l, r, i => by simp [Dk.crashGo, crashGo_append keep l r (i + 1)]; congr 1; omega

theorem crashTo_names (keep : List Int) (k : Nat) (l : List Lk.DFile) : (crashTo keep k l).map (·.name) = l.map (·.name) := by
  unfold crashTo
  rw [List.map_append, crashGo_names, ← List.map_append, List.take_append_drop]

theorem crashTo_step (keep : List Int) (l : List Lk.DFile) (hs : l.Pairwise fun f g => f.name < g.name) (k : Nat) (f : Lk.DFile) (hk : l[k]? = some f) :
    crashTo keep (k + 1) l = Dk.upd f.name (fun g => Dk.left g (Dk.keepAt keep k)) (crashTo keep k l) ∧ (crashTo keep k l)[k]? = some f := by
  obtain ⟨hkl, rfl⟩ := List.getElem?_eq_some_iff.1 hk
  have hd : l.drop k = l[k] :: l.drop (k + 1) := List.drop_eq_getElem_cons hkl
  have htk : l.take (k + 1) = l.take k ++ [l[k]] := by rw [List.take_succ, hk]; rfl
  have hun : ∀ (i : Nat) (g : Lk.DFile), l[i]? = some g → g.name = l[k].name → i = k := by
    intro i g hi e
    obtain ⟨hi', rfl⟩ := List.getElem?_eq_some_iff.1 hi
    rcases Nat.lt_trichotomy i k with h | h | h
    · have := List.pairwise_iff_getElem.1 hs i k hi' hkl h
      rw [e] at this
      exact absurd this (Dk.lt_irr _)
    · exact h
    · have := List.pairwise_iff_getElem.1 hs k i hkl hi' h
      rw [e] at this
      exact absurd this (Dk.lt_irr _)
  have hnm := crashTo_names keep k l
  have hlen : (Dk.crashGo keep 0 (l.take k)).length = k := by rw [crashGo_length]; simp; omega
  have hat : (crashTo keep k l)[k]? = some l[k] := by
    unfold crashTo
    rw [List.getElem?_append_right (by omega), hlen, Nat.sub_self, hd]
    rfl
  refine ⟨?_, hat⟩
  have h1 : crashTo keep (k + 1) l = Dk.crashGo keep 0 (l.take k) ++ Dk.left l[k] (Dk.keepAt keep k) :: l.drop (k + 1) := by
    unfold crashTo
    rw [htk, crashGo_append]
    have : (l.take k).length = k := by simp; omega
    rw [this, Nat.zero_add, List.append_assoc]
    rfl
  rw [h1]
  unfold crashTo
  rw [hd]
  unfold Dk.upd
  rw [List.map_append, List.map_cons, if_pos rfl]
  have hnot : ∀ (q : List Lk.DFile), (∀ g ∈ q, g.name ≠ l[k].name) → q.map (fun g => if g.name = l[k].name then Dk.left g (Dk.keepAt keep k) else g) = q := by
    intro q hq
    rw [List.map_congr_left (g := id) fun g hg => by rw [if_neg (hq g hg)]; rfl, List.map_id]
  rw [hnot, hnot]
  · intro g hg e
    obtain ⟨i, hi⟩ := List.getElem?_of_mem hg
    rw [List.getElem?_drop] at hi
    have := hun _ _ hi e
    omega
  · intro g hg e
    obtain ⟨i, hi⟩ := List.getElem?_of_mem hg
    have hik : i < k := by
      have := (List.getElem?_eq_some_iff.1 hi).1
      omega
    have h2 : ((Dk.crashGo keep 0 (l.take k)).map (·.name))[i]? = some g.name := by rw [List.getElem?_map, hi]; rfl
    rw [crashGo_names, List.getElem?_map, List.getElem?_take] at h2
    rw [if_pos hik] at h2
    cases h3 : l[i]? with
    | none => rw [h3] at h2; cases h2
    | some g2 =>
      rw [h3] at h2
      have := hun i g2 h3 (by rw [← e]; exact Option.some.inj h2)
      omega

theorem crashTo_all (keep : List Int) (l : List Lk.DFile) : crashTo keep l.length l = Dk.crashGo keep 0 l := by
  unfold crashTo; simp
theorem crashTo_none (keep : List Int) (l : List Lk.DFile) : crashTo keep 0 l = l := by
  unfold crashTo; simp [Dk.crashGo]

def leftN (f : Lk.DFile) (n : Int) : Int := f.synced + min (max n 0) (f.bytes.length - f.synced)

theorem leftN_bound {f : Lk.DFile} (h : 0 ≤ f.synced ∧ f.synced ≤ f.bytes.length) (n : Int) : f.synced ≤ leftN f n ∧ leftN f n ≤ f.bytes.length := by
  unfold leftN; omega

theorem total_upd (s : Dk.Nm) (u : Lk.DFile → Lk.DFile) : ∀ (l : List Lk.DFile) (f : Lk.DFile), l.Pairwise (fun f g => f.name ≠ g.name) → f ∈ l → f.name = s → Dk.total (Dk.upd s u l) = Dk.total l - f.bytes.length + (u f).bytes.length
  | [], f, _, h, _ => by cases h
  | g :: l, f, hp, h, hs => by
    have hp' := List.pairwise_cons.1 hp
    simp only [Dk.total, Dk.upd, List.map_cons, List.sum_cons]
    rcases List.mem_cons.1 h with rfl | h
    · rw [if_pos hs]
      have : (l.map fun g => if g.name = s then u g else g) = l := by
        rw [List.map_congr_left (g := id) fun g hg => by rw [if_neg (fun e => hp'.1 g hg (by rw [hs, e]))]; rfl, List.map_id]
      rw [this]
      omega
    · have hg : ¬ g.name = s := fun e => hp'.1 f h (by rw [hs, e])
      rw [if_neg hg]
      have ih := total_upd s u l f hp'.2 h hs
      simp only [Dk.total, Dk.upd] at ih
      omega

theorem left_len {f : Lk.DFile} (h : 0 ≤ f.synced ∧ f.synced ≤ f.bytes.length) (n : Int) : ((Dk.left f n).bytes.length : Int) = leftN f n := by
  have := leftN_bound h n
  unfold leftN at *
  unfold Dk.left
  simp only [List.length_take]
  omega

theorem BytesAt.take {w : World} {l : List UInt8} {a : Option Addr} {n c : Nat} {bb : Option Nat} (h : BytesAt w l (.slice a n c) bb) (k : Nat) (hk : k ≤ l.length) : BytesAt w (l.take k) (.slice a k c) bb := by
  cases bb with
  | none =>
    obtain ⟨h1, rfl⟩ := h
    cases h1
    have : k = 0 := by simpa using hk
    subst this
    exact ⟨rfl, rfl⟩
  | some b =>
    obtain ⟨off, cap, C, e, f, h1, h2, h3, h4, h5, h6, h7⟩ := h
    cases h1
    have hl : (l.take k).length = k := by simp; omega
    refine ⟨off, c, C, e, f, by rw [hl], by omega, h3, h4, h5, h6, fun i y hy => h7 i y ?_⟩
    rw [List.getElem?_take] at hy
    split at hy
    · exact hy
    · cases hy
end Go.Proofs.Ytcfagjkijhjaoaa

namespace Go.Proofs.Ytcfagjkijhjaoaa
open Go.RowKit

theorem DiskAt.sync {w : World} {x : Lk.DiskS} {b m : Nat} {es : Array MapEntry} {clock : Nat} {fl : List Ent} (h : DiskAt w x b m es clock fl) {s : List UInt8} {f : Ent} {aa bs : List Ent} (he : fl = aa ++ f :: bs) (hs : f.1.name = s) (ho : ∀ g ∈ aa ++ bs, g.1.name ≠ s) (n : Int) :
    DiskAt (w.setCell ⟨f.2.1, 1, none⟩ (.int .i64 (leftN f.1 n))) { x with files := Dk.upd s (fun g => { g with synced := leftN g n }) x.files } b m es clock (aa ++ ({ f.1 with synced := leftN f.1 n }, f.2.1, f.2.2) :: bs) := by
  obtain ⟨hfin, hbf, hmf, hfbb, hfb, hfm, hbm⟩ := h.blocks he
  obtain ⟨v, g1, g2⟩ := h.file f (by rw [he]; simp)
  refine h.modFile he hs ho (fun g => { g with synced := leftN g n }) rfl f.2.2 rfl ?_ ?_ ⟨v, ?_, ?_⟩ (.inl rfl) (by simp [World.setCell])
  · rw [Below.heap_setCell _ ⟨f.2.1, 1, none⟩ _ b (Ne.symm hfb)]; exact h.head
  · intro k hk hkn
    exact Below.heap_setCell _ ⟨f.2.1, 1, none⟩ _ k fun e => hkn (by simp [e, blks])
  · exact setCell_same _ g1
  · exact g2.keep fun k hk => Below.heap_setCell _ ⟨f.2.1, 1, none⟩ _ k fun e => hfbb (by have e : k = f.2.1 := e; rw [← e]; exact hk)

theorem DiskAt.trim {w : World} {x : Lk.DiskS} {b m : Nat} {es : Array MapEntry} {clock : Nat} {fl : List Ent} (h : DiskAt w x b m es clock fl) {s : List UInt8} {f : Ent} {aa bs : List Ent} (he : fl = aa ++ f :: bs) (hs : f.1.name = s) (ho : ∀ g ∈ aa ++ bs, g.1.name ≠ s) {a : Option Addr} {n c : Nat}
    (hc : w.heap[f.2.1]? = some (.cells #[.slice a n c, .int .i64 f.1.synced] 72 (0, 0))) (hz : 0 ≤ f.1.synced ∧ f.1.synced ≤ f.1.bytes.length) (k : Nat) (hk : (k : Int) = f.1.synced) :
    DiskAt (w.setCell ⟨f.2.1, 0, none⟩ (.slice a k c)) { x with files := Dk.upd s (fun g => { g with bytes := g.bytes.take g.synced.toNat }) x.files } b m es clock (aa ++ ({ f.1 with bytes := f.1.bytes.take f.1.synced.toNat }, f.2.1, f.2.2) :: bs) := by
  obtain ⟨hfin, hbf, hmf, hfbb, hfb, hfm, hbm⟩ := h.blocks he
  obtain ⟨v, g1, g2⟩ := h.file f (by rw [he]; simp)
  rw [hc] at g1
  injection g1 with g1
  injection g1 with g1
  have g3 : v = .slice a n c := by
    have := congrArg (fun q : Array Value => q[0]?) g1
    simpa using this.symm
  subst g3
  have hk2 : f.1.synced.toNat = k := by omega
  refine h.modFile he hs ho (fun g => { g with bytes := g.bytes.take g.synced.toNat }) rfl f.2.2 rfl ?_ ?_ ⟨.slice a k c, ?_, ?_⟩ (.inl rfl) (by simp [World.setCell])
  · rw [Below.heap_setCell _ ⟨f.2.1, 0, none⟩ _ b (Ne.symm hfb)]; exact h.head
  · intro k hk hkn
    exact Below.heap_setCell _ ⟨f.2.1, 0, none⟩ _ k fun e => hkn (by simp [e, blks])
  · exact setCell_same _ hc
  · have g4 := g2.take k (by omega)
    show BytesAt _ (f.1.bytes.take f.1.synced.toNat) _ _
    rw [hk2]
    exact g4.keep fun k hk => Below.heap_setCell _ ⟨f.2.1, 0, none⟩ _ k fun e => hfbb (by have e : k = f.2.1 := e; rw [← e]; exact hk)

theorem upd_upd (s : Dk.Nm) (u v : Lk.DFile → Lk.DFile) (hu : ∀ g, (u g).name = g.name) (l : List Lk.DFile) : Dk.upd s v (Dk.upd s u l) = Dk.upd s (fun g => v (u g)) l := by
  unfold Dk.upd
  rw [List.map_map]
  refine List.map_congr_left fun g _ => ?_
  show (if (if g.name = s then u g else g).name = s then v (if g.name = s then u g else g) else (if g.name = s then u g else g)) = _
  by_cases h : g.name = s
  · simp [h, hu]
  · simp [h]

structure Crashing (w wr : World) (x : Lk.DiskS) (b m : Nat) (es : Array MapEntry) (clock : Nat) (fl : List Ent) (keep : List Int) (v : Value) (k : Nat) : Prop where
  le : k ≤ x.files.length
  ext : Lk.Ext (b :: m :: (fl.map blks).flatten) w wr
  names : ∃ nb, StrsAt wr (Dk.list x) v nb ∧ ∀ j ∈ nb.toList, w.heap.size ≤ j ∧ j < wr.heap.size
  disk : ∃ fk, DiskAt wr (crashK x keep k) b m es clock fk ∧ (fk.map blks).flatten = (fl.map blks).flatten

def CrashAt (w wr : World) (x : Lk.DiskS) (b m : Nat) (es : Array MapEntry) (clock : Nat) (fl : List Ent) (keep : List Int) (v : Value) (i : Value) : Prop := ∃ k : Nat, i = .int .i64 k ∧ Crashing w wr x b m es clock fl keep v k

theorem crashK_good_file {x : Lk.DiskS} (hg : Dk.Good x) {k : Nat} {f : Lk.DFile} (hk : x.files[k]? = some f) : Dk.okN f.name ∧ 0 ≤ f.synced ∧ f.synced ≤ f.bytes.length ∧ (f.bytes.length : Int) ≤ 268435456 := by
  have hm := List.mem_of_getElem? hk
  have h1 := hg.synced f hm
  have h2 := len_total hm
  have h3 := hg.most
  rw [← hg.used] at h2
  exact ⟨hg.name f hm, h1.1, h1.2, by omega⟩

theorem left_le (f : Lk.DFile) (n : Int) : (Dk.left f n).bytes.length ≤ f.bytes.length := by
  unfold Dk.left
  simp only [List.length_take]
  exact Nat.min_le_right _ _

theorem total_crashGo (keep : List Int) : ∀ (l : List Lk.DFile) (i : Nat), Dk.total (Dk.crashGo keep i l) ≤ Dk.total l
  | [], _ => by simp [Dk.crashGo]
  | f :: l, i => by
    have h1 := total_crashGo keep l (i + 1)
    have h2 := left_le f (Dk.keepAt keep i)
    unfold Dk.total at *
    simp only [Dk.crashGo, List.map_cons, List.sum_cons]
    omega

theorem total_append (a b : List Lk.DFile) : Dk.total (a ++ b) = Dk.total a + Dk.total b := by
  unfold Dk.total; simp

theorem total_crashTo (keep : List Int) (k : Nat) (l : List Lk.DFile) : Dk.total (crashTo keep k l) ≤ Dk.total l := by
  have h := total_crashGo keep (l.take k) 0
  unfold crashTo
  rw [total_append]
  have : Dk.total l = Dk.total (l.take k) + Dk.total (l.drop k) := by rw [← total_append, List.take_append_drop]
  omega

theorem crash_start {w w1 : World} {x : Lk.DiskS} {b m : Nat} {es : Array MapEntry} {clock : Nat} {fl : List Ent} (hg : Dk.Good x) (h : DiskAt w x b m es clock fl) (keep : List Int) (hE : Lk.Ext [] w w1) {v : Value} {bb : Option Nat} (hS : StrsAt w1 (Dk.list x) v bb) (hN : ∀ k ∈ bb.toList, w.heap.size ≤ k ∧ k < w1.heap.size) : Crashing w w1 x b m es clock fl keep v 0 := by
  refine ⟨Nat.zero_le _, ext_more hE (by simp), ⟨bb, hS, hN⟩, fl, ?_, rfl⟩
  have e : crashK x keep 0 = x := by
    unfold crashK
    rw [crashTo_none, ← hg.used]
  rw [e]
  exact h.turn rfl (by rw [hE.block b (h.lt b (by simp)) (by simp)]; exact h.head) (fun k hk => hE.block k (h.lt k (List.mem_cons_of_mem _ hk)) (by simp)) hE.size

theorem StrsAt.cell {w : World} {l : List (List UInt8)} {a : Option Addr} {n c : Nat} {bb : Option Nat} (h : StrsAt w l (.slice a n c) bb) {k : Nat} {s : List UInt8} (hk : l[k]? = some s) : ∃ q off, a = some ⟨q, off, none⟩ ∧ w.cell? ⟨q, off + k, none⟩ = some (.string ⟨s.toArray⟩) := by
  cases bb with
  | none => obtain ⟨_, rfl⟩ := h; simp at hk
  | some b =>
    obtain ⟨off, cap, C, e, f, h1, h2, h3, h4, h5, h6, h7⟩ := h
    cases h1
    refine ⟨b, off, rfl, ?_⟩
    unfold World.cell?
    simp only [h5]
    exact h7 k s hk

theorem Crashing.facts {w wr : World} {x : Lk.DiskS} {b m : Nat} {es : Array MapEntry} {clock : Nat} {fl : List Ent} {keep : List Int} {va : Option Addr} {n vc k : Nat} (hg : Dk.Good x) (h : Crashing w wr x b m es clock fl keep (.slice va n vc) k) (hk : k < (Dk.list x).length) :
    ∃ q off g f fk aa bs a cc, va = some ⟨q, off, none⟩ ∧ x.files[k]? = some g ∧ wr.cell? ⟨q, off + k, none⟩ = some (.string ⟨g.name.toArray⟩) ∧ DiskAt wr (crashK x keep k) b m es clock fk ∧ (fk.map blks).flatten = (fl.map blks).flatten ∧ f.1 = g ∧
      (Instr.lookup 52 (.map (some m)) (.string ⟨g.name.toArray⟩) false).run Try.prog wr = .ok (.pointer (some ⟨f.2.1, 0, none⟩)) wr ∧ fk = aa ++ f :: bs ∧ (∀ e ∈ aa ++ bs, e.1.name ≠ g.name) ∧ wr.heap[f.2.1]? = some (.cells #[.slice a g.bytes.length cc, .int .i64 g.synced] 72 (0, 0)) ∧ g.bytes.length ≤ cc := by
  obtain ⟨nb, hS, _⟩ := h.names
  obtain ⟨fk, hd, hfk⟩ := h.disk
  have hkf : k < x.files.length := by simpa [Dk.list] using hk
  have hgk := List.getElem?_eq_getElem hkf
  have hnk : (Dk.list x)[k]? = some x.files[k].name := by unfold Dk.list; rw [List.getElem?_map, hgk]; rfl
  obtain ⟨q, off, hva, hcell⟩ := hS.cell hnk
  obtain ⟨hstep, hat⟩ := crashTo_step keep x.files hg.sorted k _ hgk
  have hl1 := at?_look hd.perm hd.unlike x.files[k].name
  have hfound : Dk.look (crashK x keep k).files x.files[k].name = some x.files[k] := by
    have hmem : x.files[k] ∈ (crashK x keep k).files := List.mem_of_getElem? hat
    unfold Dk.look
    cases hfi : (crashK x keep k).files.find? fun f => f.name == x.files[k].name with
    | none => exact absurd (List.find?_eq_none.1 hfi _ hmem) (by simp)
    | some g2 =>
      have hg2 := List.mem_of_find?_eq_some hfi
      have hn2 : g2.name = x.files[k].name := by simpa using List.find?_some hfi
      obtain ⟨i, hi⟩ := List.getElem?_of_mem hg2
      have hnn := crashTo_names keep k x.files
      have h1 : ((crashTo keep k x.files).map (·.name))[i]? = some g2.name := by rw [List.getElem?_map]; rw [show (crashTo keep k x.files)[i]? = some g2 from hi]; rfl
      rw [hnn, List.getElem?_map] at h1
      cases h3 : x.files[i]? with
      | none => rw [h3] at h1; cases h1
      | some g3 =>
        rw [h3] at h1
        have h4 : g3.name = x.files[k].name := by rw [← hn2]; exact Option.some.inj h1
        have hik : i = k := by
          obtain ⟨hi', rfl⟩ := List.getElem?_eq_some_iff.1 h3
          rcases Nat.lt_trichotomy i k with h | h | h
          · have := List.pairwise_iff_getElem.1 hg.sorted i k hi' hkf h
            rw [h4] at this
            exact absurd this (Dk.lt_irr _)
          · exact h
          · have := List.pairwise_iff_getElem.1 hg.sorted k i hkf hi' h
            rw [h4] at this
            exact absurd this (Dk.lt_irr _)
        subst hik
        have : (crashTo keep i x.files)[i]? = some g2 := hi
        rw [hat] at this
        exact this.symm
  rw [hfound] at hl1
  cases hf : at? fk x.files[k].name with
  | none => rw [hf] at hl1; cases hl1
  | some f =>
    rw [hf] at hl1
    have hfe : f.1 = x.files[k] := (Option.some.inj hl1).symm
    obtain ⟨hn, aa, bs, he, ho⟩ := at?_split hd.unlike hf
    have hlk := hd.lookup x.files[k].name
    rw [hf] at hlk
    obtain ⟨a, cc, g1, g2⟩ := hd.found hf
    rw [hfe] at g1 g2
    exact ⟨q, off, x.files[k], f, fk, aa, bs, a, cc, hva, hgk, hcell, hd, hfk, hfe, hlk, he, ho, g1, g2.cap.2.1⟩

theorem Crashing.next {w W : World} {x : Lk.DiskS} {b m : Nat} {es : Array MapEntry} {clock : Nat} {fl aa bs : List Ent} {keep : List Int} {k : Nat} {g : Lk.DFile} {p : Nat} {r : Option Nat} {fa : Option Addr} {fc q off vc : Nat} {nb : Option Nat} {N L U : Int} (hg : Dk.Good x) (hgk : x.files[k]? = some g) (hN : Dk.keepAt keep k = N) (hL : leftN g N = L) (hU : Dk.total (crashTo keep k x.files) = U)
    (hD : DiskAt W { x with files := Dk.upd g.name (fun g => { g with synced := leftN g N }) (crashTo keep k x.files), used := U - (g.bytes.length - L) } b m es clock (aa ++ ({ g with synced := L }, p, r) :: bs))
    (ho : ∀ e ∈ aa ++ bs, e.1.name ≠ g.name) (hfk : ((aa ++ ((g, p, r) : Ent) :: bs).map blks).flatten = (fl.map blks).flatten) (hc : W.heap[p]? = some (.cells #[.slice fa g.bytes.length fc, .int .i64 L] 72 (0, 0)))
    (hE : Lk.Ext (b :: m :: (fl.map blks).flatten) w W) (hS : StrsAt W (Dk.list x) (.slice (some ⟨q, off, none⟩) (Dk.list x).length vc) nb) (hNb : ∀ j ∈ nb.toList, w.heap.size ≤ j ∧ j < W.heap.size) (hNn : ∀ j ∈ nb.toList, j ∉ b :: m :: (fl.map blks).flatten) :
    Crashing w ((W.setCell ⟨p, 0, none⟩ (.slice fa L.toNat fc)).drew) x b m es clock fl keep (.slice (some ⟨q, off, none⟩) (Dk.list x).length vc) (k + 1) := by
  have hkf : k < x.files.length := (List.getElem?_eq_some_iff.1 hgk).1
  obtain ⟨_, g0, g1, _⟩ := crashK_good_file hg hgk
  have hb := leftN_bound (f := g) ⟨g0, g1⟩ N
  have hlen := left_len (f := g) ⟨g0, g1⟩ N
  rw [hL] at hb hlen
  obtain ⟨hstep, hat⟩ := crashTo_step keep x.files hg.sorted k g hgk
  rw [hN] at hstep
  have hpin : p ∈ b :: m :: (fl.map blks).flatten := by rw [← hfk, flat_split]; simp [blks]
  have hun : (crashTo keep k x.files).Pairwise fun f g => f.name ≠ g.name := by
    have h1 : ((crashTo keep k x.files).map (·.name)).Pairwise fun a b => a < b := by rw [crashTo_names]; exact List.pairwise_map.2 hg.sorted
    refine (List.pairwise_map.1 h1).imp ?_
    intro a b h e
    rw [e] at h
    exact Dk.lt_irr _ h
  have htot := total_upd g.name (fun h => Dk.left h N) (crashTo keep k x.files) g hun (List.mem_of_getElem? hat) rfl
  rw [hlen, hU] at htot
  have hD3 := (hD.trim (s := g.name) (f := ({ g with synced := L }, p, r)) rfl rfl ho hc ⟨by show 0 ≤ L; omega, hb.2⟩ L.toNat (by show ((L.toNat : Nat) : Int) = L; omega)).drawn ((W.setCell ⟨p, 0, none⟩ (.slice fa L.toNat fc)).drawn + 1)
  refine ⟨by omega, ext_drew (ext_setCell (a := ⟨p, 0, none⟩) (.inl hpin) hE (.slice fa L.toNat fc)) ((W.setCell ⟨p, 0, none⟩ (.slice fa L.toNat fc)).drawn + 1), ⟨nb, ?_, ?_⟩, aa ++ ((⟨g.name, g.bytes.take L.toNat, L⟩ : Lk.DFile), p, r) :: bs, ?_, ?_⟩
  · exact hS.keep fun j hj => Below.heap_setCell W ⟨p, 0, none⟩ _ j fun e => hNn j hj (by have e : j = p := e; rw [e]; exact hpin)
  · intro j hj
    have := hNb j hj
    refine ⟨this.1, ?_⟩
    show j < (W.setCell ⟨p, 0, none⟩ (.slice fa L.toNat fc)).heap.size
    simp [World.setCell]
    exact this.2
  · have e : ({ x with files := Dk.upd g.name (fun g => { g with bytes := g.bytes.take g.synced.toNat }) (Dk.upd g.name (fun g => { g with synced := leftN g N }) (crashTo keep k x.files)), used := U - (g.bytes.length - L) } : Lk.DiskS) = crashK x keep (k + 1) := by
      unfold crashK
      rw [upd_upd g.name (fun g => { g with synced := leftN g N }) (fun g => { g with bytes := g.bytes.take g.synced.toNat }) (fun _ => rfl), hstep]
      have e1 : (fun h : Lk.DFile => ({ h with synced := leftN h N, bytes := h.bytes.take (leftN h N).toNat } : Lk.DFile)) = fun h => Dk.left h N := rfl
      have e2 : U - (g.bytes.length - L) = Dk.total (Dk.upd g.name (fun h => Dk.left h N) (crashTo keep k x.files)) := by rw [htot]; omega
      rw [e2]
      rfl
    rw [← e]
    exact hD3
  · rw [← hfk, flat_split, flat_split]
    rfl

set_option maxRecDepth 100000 in
set_option maxHeartbeats 1000000 in
theorem crash_any (w : World) (x : Lk.DiskS) (b m : Nat) (es : Array MapEntry) (clock : Nat) (fl : List Ent) (h : DiskAt w x b m es clock fl) (hg : Dk.Good x) (keep : List Int) (a : Option Addr) (c kl : Nat) (hkl : keep.length = kl)
    (hkp : keep ≠ [] → ∃ kb koff, a = some ⟨kb, koff, none⟩ ∧ kb < w.heap.size ∧ kb ∉ b :: m :: (fl.map blks).flatten ∧ ∀ (i : Nat) (v : Int), keep[i]? = some v → w.cell? ⟨kb, koff + i, none⟩ = some (.int .i64 v)) :
    Calls Try.prog 11 #[.pointer (some ⟨b, 0, none⟩), .slice a kl c] w fun e w' => e = .returned (.int .i64 0) ∧ Did w w' b m fl (Dk.crash x keep).2 := by
  have hlist := list_any w x b m es clock fl h hg
  have hstart := fun w1 v bb => crash_start (w1 := w1) hg h keep (v := v) (bb := bb)
  obtain ⟨h0, _⟩ := h.cell
  have hlt0 := h.lt
  have hmany := hg.many
  have hllen : (Dk.list x).length ≤ 4096 := by simp [Dk.list]; exact hmany
  clear hmany
  go_enter Try.func11, Try.ntmps11
  go_wp2_with (first | (go_at_call 35; refine (none_any _ b m h0).mono ?_; rintro e w2 ⟨rfl, hw⟩; replace hw := hw.symm; subst hw) | (go_at_call 12; refine hlist.mono ?_; rintro e w2 ⟨v, bb, rfl, hS, hX, hN⟩; replace hstart := hstart _ _ _ hX hS hN; obtain ⟨va, vc, hv⟩ := hS.slice; subst hv))
  go_loopw [14] (fun i wr => CrashAt w wr x b m es clock fl keep (.slice va (Dk.list x).length vc) i) (fun i _ => (Dk.list x).length - (intOf i).toNat)
  case atStart => exact ⟨0, rfl, hstart⟩
  case round =>
    obtain ⟨k, rfl, hC⟩ := hrel
    rcases Nat.lt_or_ge k (Dk.list x).length with hk | hk
    · clear hstart hS hX hN hlist h0 h
      obtain ⟨q, off, g, f, fk, aa, bs, fa, fc, rfl, hgk, hcell, hd, hfk, hfe, hlk, he, ho, hc1, hcc⟩ := hC.facts hg hk
      obtain ⟨k0, k1, z0, z1⟩ := two_cells hc1
      obtain ⟨d0, d1, d2, d3, d4, d5⟩ := hd.cell
      have y2 := hd.frozen 2
      obtain ⟨_, g0, g1, g2⟩ := crashK_good_file hg hgk
      obtain ⟨nb, hSn, hNb⟩ := hC.names
      have hfbin : f.2.1 ∈ b :: m :: (fl.map blks).flatten := by
        rw [← hfk, he, flat_split]; simp [blks]
      have hNnb : ∀ j ∈ nb.toList, j ∉ b :: m :: (fl.map blks).flatten := fun j hj hm => Nat.lt_irrefl _ (Nat.lt_of_lt_of_le (hlt0 j hm) (hNb j hj).1)
      have hfb : f.2.1 ≠ b := (hd.blocks he).2.2.2.2.1
      obtain ⟨U, hU⟩ : ∃ U, Dk.total (crashTo keep k x.files) = U := ⟨_, rfl⟩
      have hU0 : 0 ≤ U := by rw [← hU]; exact total_nonneg _
      have hU1 : U ≤ 268435456 := by
        rw [← hU]
        have h1 := total_crashTo keep k x.files
        have h2 := hg.most
        rw [hg.used] at h2
        omega
      by_cases hkeep : keep = []
      · have hkl0 : ¬ (0 : Int) < kl := by rw [← hkl, hkeep]; simp
        have hKN : Dk.keepAt keep k = 0 := by rw [hkeep]; simp [Dk.keepAt]
        clear hkl hkeep
        go_wp2
        go_region
        have eN : g.synced + min 0 (↑g.bytes.length - g.synced) = leftN f.1 0 := by rw [hfe]; simp [leftN]

        rw [eN]
        have hD1 : DiskAt ((wr.setCell ⟨f.2.1, 1, none⟩ (.int .i64 (leftN f.1 0))).drew) _ b m es clock _ := (hd.sync he (by rw [hfe]) ho 0).drawn ((wr.setCell ⟨f.2.1, 1, none⟩ (.int .i64 (leftN f.1 0))).drawn + 1)
        have hsz1 : ((wr.setCell ⟨f.2.1, 1, none⟩ (.int .i64 (leftN f.1 0))).drew).heap.size = wr.heap.size := by show (wr.setCell ⟨f.2.1, 1, none⟩ (.int .i64 (leftN f.1 0))).heap.size = _; simp [World.setCell]
        have hE1 : Lk.Ext (b :: m :: (fl.map blks).flatten) w ((wr.setCell ⟨f.2.1, 1, none⟩ (.int .i64 (leftN f.1 0))).drew) := ext_drew (ext_setCell (a := ⟨f.2.1, 1, none⟩) (.inl hfbin) hC.ext (.int .i64 (leftN f.1 0))) ((wr.setCell ⟨f.2.1, 1, none⟩ (.int .i64 (leftN f.1 0))).drawn + 1)
        have hc2 : ((wr.setCell ⟨f.2.1, 1, none⟩ (.int .i64 (leftN f.1 0))).drew).heap[f.2.1]? = some (.cells #[.slice fa g.bytes.length fc, .int .i64 (leftN f.1 0)] 72 (0, 0)) := setCell_same wr hc1
        have hS1 : StrsAt ((wr.setCell ⟨f.2.1, 1, none⟩ (.int .i64 (leftN f.1 0))).drew) (Dk.list x) (.slice (some ⟨q, off, none⟩) (Dk.list x).length vc) nb := hSn.keep fun j hj => Below.heap_setCell wr ⟨f.2.1, 1, none⟩ _ j fun e => hNnb j hj (e ▸ hfbin)
        generalize hW1 : World.drew _ = W1
        rw [show ((wr.setCell ⟨f.2.1, 1, none⟩ (.int .i64 (leftN f.1 0))).drew) = W1 from hW1] at hc2 hS1 hD1 hE1 hsz1
        clear hW1 hd hc1 k0 k1 z0 z1 d0 d1 d2 d3 d4 d5 y2 hlk hcell hC hSn
        have hL := leftN_bound (f := f.1) (by rw [hfe]; exact ⟨g0, g1⟩) 0
        rw [hfe] at hL hc2 hD1 ⊢
        generalize hLL : leftN g 0 = L at *
        obtain ⟨d0, d1, d2, d3, d4, d5⟩ := hD1.cell
        have y2 := hD1.frozen 2
        obtain ⟨k0, k1, z0, z1⟩ := two_cells hc2
        replace d2 : W1.cell? ⟨b, 2, none⟩ = some (.int .i64 U) := by rw [← hU]; exact d2
        clear d0 d1 d3 d4 d5
        go_wp2
        go_region
        have hD2 : DiskAt ((W1.setCell ⟨b, 2, none⟩ (.int .i64 (U - (g.bytes.length - L)))).drew) _ b m es clock _ := (hD1.set 2 (.int .i64 (U - (g.bytes.length - L))) (x' := { x with files := Dk.upd g.name (fun g => { g with synced := leftN g 0 }) (crashTo keep k x.files), used := U - (g.bytes.length - L) }) rfl rfl).drawn ((W1.setCell ⟨b, 2, none⟩ (.int .i64 (U - (g.bytes.length - L)))).drawn + 1)
        have hsz2 : ((W1.setCell ⟨b, 2, none⟩ (.int .i64 (U - (g.bytes.length - L)))).drew).heap.size = wr.heap.size := by show (W1.setCell ⟨b, 2, none⟩ (.int .i64 (U - (g.bytes.length - L)))).heap.size = _; simp [World.setCell]; exact hsz1
        have hE2 : Lk.Ext (b :: m :: (fl.map blks).flatten) w ((W1.setCell ⟨b, 2, none⟩ (.int .i64 (U - (g.bytes.length - L)))).drew) := ext_drew (ext_setCell (a := ⟨b, 2, none⟩) (.inl (by simp)) hE1 (.int .i64 (U - (g.bytes.length - L)))) ((W1.setCell ⟨b, 2, none⟩ (.int .i64 (U - (g.bytes.length - L)))).drawn + 1)
        have hc3 : ((W1.setCell ⟨b, 2, none⟩ (.int .i64 (U - (g.bytes.length - L)))).drew).heap[f.2.1]? = some (.cells #[.slice fa g.bytes.length fc, .int .i64 L] 72 (0, 0)) := (Below.heap_setCell W1 ⟨b, 2, none⟩ _ f.2.1 hfb).trans hc2
        have hS2 : StrsAt ((W1.setCell ⟨b, 2, none⟩ (.int .i64 (U - (g.bytes.length - L)))).drew) (Dk.list x) (.slice (some ⟨q, off, none⟩) (Dk.list x).length vc) nb := hS1.keep fun j hj => Below.heap_setCell W1 ⟨b, 2, none⟩ _ j fun e => hNnb j hj (by have e : j = b := e; rw [e]; simp)
        generalize hW2 : World.drew _ = W2
        rw [show ((W1.setCell ⟨b, 2, none⟩ (.int .i64 (U - (g.bytes.length - L)))).drew) = W2 from hW2] at hc3 hS2 hD2 hE2 hsz2
        clear hW2 hD1 hE1 hc2 hS1 d2 y2 k0 k1 z0 z1
        obtain ⟨k0, k1, z0, z1⟩ := two_cells hc3
        go_wp2
        go_region
        have hfin : Crashing w ((W2.setCell ⟨f.2.1, 0, none⟩ (.slice fa L.toNat fc)).drew) x b m es clock fl keep (.slice (some ⟨q, off, none⟩) (Dk.list x).length vc) (k + 1) :=
          Crashing.next hg hgk hKN hLL hU hD2 ho (by rw [← hfk, he, flat_split, flat_split]; rfl) hc3 hE2 hS2 (fun j hj => ⟨(hNb j hj).1, by have := (hNb j hj).2; rw [hsz2]; exact this⟩) hNnb
        generalize World.drew _ = W3 at hfin ⊢
        clear hD2 hE2 hS2 hc3 k0 k1 z0 z1 hLL hU hU0 hU1
        go_wp2
        go_roundw
        case rel =>
          have hw : ((k : Int) + 1) = ((k + 1 : Nat) : Int) := by omega
          rw [hw]
          exact ⟨k + 1, rfl, hfin⟩
        case measure =>
          have hw : ((k : Int) + 1) = ((k + 1 : Nat) : Int) := by omega
          rw [hw]
          simp only [intOf]
          omega
      · have hkl0 : (0 : Int) < kl := by
          rw [← hkl]
          have := List.length_pos_iff.2 hkeep
          omega
        obtain ⟨kb, koff, rfl, hkb1, hkb2, hkc⟩ := hkp hkeep
        have hmod : k % kl < keep.length := by rw [hkl]; exact Nat.mod_lt _ (by omega)
        obtain ⟨N, hKN⟩ : ∃ N, Dk.keepAt keep k = N := ⟨_, rfl⟩
        have hkN : keep[k % kl]? = some N := by
          rw [← hKN, Dk.keepAt, if_neg hkeep, hkl, List.getD_eq_getElem?_getD, List.getElem?_eq_getElem hmod]
          rfl
        have hkcell : wr.cell? ⟨kb, koff + k % kl, none⟩ = some (.int .i64 N) := by
          rw [← hkc _ _ hkN]
          unfold World.cell?
          rw [hC.ext.block kb hkb1 hkb2]
        have hmod2 : k % kl < kl := by rw [← hkl]; rw [hkl]; omega
        clear hkc hkN hmod hkl hkeep hkp
        go_wp2
        go_region
        have eN : g.synced + min (max N 0) (↑g.bytes.length - g.synced) = leftN f.1 N := by rw [hfe]; rfl
        rw [eN]
        have hD1 : DiskAt ((wr.setCell ⟨f.2.1, 1, none⟩ (.int .i64 (leftN f.1 N))).drew) _ b m es clock _ := (hd.sync he (by rw [hfe]) ho N).drawn ((wr.setCell ⟨f.2.1, 1, none⟩ (.int .i64 (leftN f.1 N))).drawn + 1)
        have hsz1 : ((wr.setCell ⟨f.2.1, 1, none⟩ (.int .i64 (leftN f.1 N))).drew).heap.size = wr.heap.size := by show (wr.setCell ⟨f.2.1, 1, none⟩ (.int .i64 (leftN f.1 N))).heap.size = _; simp [World.setCell]
        have hE1 : Lk.Ext (b :: m :: (fl.map blks).flatten) w ((wr.setCell ⟨f.2.1, 1, none⟩ (.int .i64 (leftN f.1 N))).drew) := ext_drew (ext_setCell (a := ⟨f.2.1, 1, none⟩) (.inl hfbin) hC.ext (.int .i64 (leftN f.1 N))) ((wr.setCell ⟨f.2.1, 1, none⟩ (.int .i64 (leftN f.1 N))).drawn + 1)
        have hc2 : ((wr.setCell ⟨f.2.1, 1, none⟩ (.int .i64 (leftN f.1 N))).drew).heap[f.2.1]? = some (.cells #[.slice fa g.bytes.length fc, .int .i64 (leftN f.1 N)] 72 (0, 0)) := setCell_same wr hc1
        have hS1 : StrsAt ((wr.setCell ⟨f.2.1, 1, none⟩ (.int .i64 (leftN f.1 N))).drew) (Dk.list x) (.slice (some ⟨q, off, none⟩) (Dk.list x).length vc) nb := hSn.keep fun j hj => Below.heap_setCell wr ⟨f.2.1, 1, none⟩ _ j fun e => hNnb j hj (e ▸ hfbin)
        generalize hW1 : World.drew _ = W1
        rw [show ((wr.setCell ⟨f.2.1, 1, none⟩ (.int .i64 (leftN f.1 N))).drew) = W1 from hW1] at hc2 hS1 hD1 hE1 hsz1
        clear hW1 hd hc1 k0 k1 z0 z1 d0 d1 d2 d3 d4 d5 y2 hlk hcell hC hSn
        have hL := leftN_bound (f := f.1) (by rw [hfe]; exact ⟨g0, g1⟩) N
        rw [hfe] at hL hc2 hD1 ⊢
        generalize hLL : leftN g N = L at *
        obtain ⟨d0, d1, d2, d3, d4, d5⟩ := hD1.cell
        have y2 := hD1.frozen 2
        obtain ⟨k0, k1, z0, z1⟩ := two_cells hc2
        replace d2 : W1.cell? ⟨b, 2, none⟩ = some (.int .i64 U) := by rw [← hU]; exact d2
        clear d0 d1 d3 d4 d5
        go_wp2
        go_region
        have hD2 : DiskAt ((W1.setCell ⟨b, 2, none⟩ (.int .i64 (U - (g.bytes.length - L)))).drew) _ b m es clock _ := (hD1.set 2 (.int .i64 (U - (g.bytes.length - L))) (x' := { x with files := Dk.upd g.name (fun g => { g with synced := leftN g N }) (crashTo keep k x.files), used := U - (g.bytes.length - L) }) rfl rfl).drawn ((W1.setCell ⟨b, 2, none⟩ (.int .i64 (U - (g.bytes.length - L)))).drawn + 1)
        have hsz2 : ((W1.setCell ⟨b, 2, none⟩ (.int .i64 (U - (g.bytes.length - L)))).drew).heap.size = wr.heap.size := by show (W1.setCell ⟨b, 2, none⟩ (.int .i64 (U - (g.bytes.length - L)))).heap.size = _; simp [World.setCell]; exact hsz1
        have hE2 : Lk.Ext (b :: m :: (fl.map blks).flatten) w ((W1.setCell ⟨b, 2, none⟩ (.int .i64 (U - (g.bytes.length - L)))).drew) := ext_drew (ext_setCell (a := ⟨b, 2, none⟩) (.inl (by simp)) hE1 (.int .i64 (U - (g.bytes.length - L)))) ((W1.setCell ⟨b, 2, none⟩ (.int .i64 (U - (g.bytes.length - L)))).drawn + 1)
        have hc3 : ((W1.setCell ⟨b, 2, none⟩ (.int .i64 (U - (g.bytes.length - L)))).drew).heap[f.2.1]? = some (.cells #[.slice fa g.bytes.length fc, .int .i64 L] 72 (0, 0)) := (Below.heap_setCell W1 ⟨b, 2, none⟩ _ f.2.1 hfb).trans hc2
        have hS2 : StrsAt ((W1.setCell ⟨b, 2, none⟩ (.int .i64 (U - (g.bytes.length - L)))).drew) (Dk.list x) (.slice (some ⟨q, off, none⟩) (Dk.list x).length vc) nb := hS1.keep fun j hj => Below.heap_setCell W1 ⟨b, 2, none⟩ _ j fun e => hNnb j hj (by have e : j = b := e; rw [e]; simp)
        generalize hW2 : World.drew _ = W2
        rw [show ((W1.setCell ⟨b, 2, none⟩ (.int .i64 (U - (g.bytes.length - L)))).drew) = W2 from hW2] at hc3 hS2 hD2 hE2 hsz2
        clear hW2 hD1 hE1 hc2 hS1 d2 y2 k0 k1 z0 z1
        obtain ⟨k0, k1, z0, z1⟩ := two_cells hc3
        go_wp2
        go_region
        have hfin : Crashing w ((W2.setCell ⟨f.2.1, 0, none⟩ (.slice fa L.toNat fc)).drew) x b m es clock fl keep (.slice (some ⟨q, off, none⟩) (Dk.list x).length vc) (k + 1) :=
          Crashing.next hg hgk hKN hLL hU hD2 ho (by rw [← hfk, he, flat_split, flat_split]; rfl) hc3 hE2 hS2 (fun j hj => ⟨(hNb j hj).1, by have := (hNb j hj).2; rw [hsz2]; exact this⟩) hNnb
        generalize World.drew _ = W3 at hfin ⊢
        clear hD2 hE2 hS2 hc3 k0 k1 z0 z1 hLL hU hU0 hU1
        go_wp2
        go_roundw
        case rel =>
          have hw : ((k : Int) + 1) = ((k + 1 : Nat) : Int) := by omega
          rw [hw]
          exact ⟨k + 1, rfl, hfin⟩
        case measure =>
          have hw : ((k : Int) + 1) = ((k + 1 : Nat) : Int) := by omega
          rw [hw]
          simp only [intOf]
          omega
    · clear hstart hS hX hN hlist h0
      have hk2 : k = (Dk.list x).length := by have := hC.le; simp [Dk.list] at hk ⊢; omega
      subst hk2
      obtain ⟨fk, hd, hfk⟩ := hC.disk
      obtain ⟨d0, d1, d2, d3, d4, d5⟩ := hd.cell
      have y4 := hd.frozen 4
      have y5 := hd.frozen 5
      have hD : DiskAt ((wr.setCell ⟨b, 4, none⟩ (.int .i64 0)).setCell ⟨b, 5, none⟩ (.int .i64 0)) (Dk.crash x keep).2 b m es clock fk := by
        have e : (Dk.crash x keep).2 = { (crashK x keep (Dk.list x).length) with after := 0, count := 0 } := by
          unfold Dk.crash crashK
          have : (Dk.list x).length = x.files.length := by simp [Dk.list]
          rw [this, crashTo_all]
        rw [e]
        exact (hd.set 4 (.int .i64 0) (x' := { (crashK x keep (Dk.list x).length) with after := 0 }) rfl rfl).set 5 (.int .i64 0) rfl rfl
      have hfin : Did w ((wr.setCell ⟨b, 4, none⟩ (.int .i64 0)).setCell ⟨b, 5, none⟩ (.int .i64 0)) b m fl (Dk.crash x keep).2 :=
        ⟨es, clock, fk, hD, ext_setCell (.inl (by simp)) (ext_setCell (.inl (by simp)) hC.ext _) _, fun j hj => .inl (by rw [← hfk]; exact hj)⟩
      clear hC hd hD d1 d2 d3 hkp
      go_wp2
      go_ret
      exact ⟨rfl, hfin⟩
end Go.Proofs.Ytcfagjkijhjaoaa

namespace Go.Proofs.Ytcfagjkijhjaoaa
open Go.RowKit

theorem DiskAt.pushF {w : World} {x : Lk.DiskS} {b m : Nat} {es : Array MapEntry} {clock : Nat} {fl : List Ent} (h : DiskAt w x b m es clock fl) (f : Lk.DFile) (hs : at? fl f.name = none) {v : Value} {bb : Option Nat} (hB : BytesAt w f.bytes v bb) (hbb : ∀ k ∈ bb.toList, k ∉ b :: m :: (fl.map blks).flatten ∧ k < w.heap.size) :
    (Instr.mapUpdate 52 (.map (some m)) (nameV f.name) (.pointer (some ⟨w.heap.size, 0, none⟩))).run Try.prog (w.alloc (.cells #[v, .int .i64 f.synced] 72)) = .ok () (setMap (w.alloc (.cells #[v, .int .i64 f.synced] 72)) m (es.push { key := nameV f.name, val := .pointer (some ⟨w.heap.size, 0, none⟩), born := clock }) (clock + 1)) ∧
    DiskAt (setMap (w.alloc (.cells #[v, .int .i64 f.synced] 72)) m (es.push { key := nameV f.name, val := .pointer (some ⟨w.heap.size, 0, none⟩), born := clock }) (clock + 1))
      { x with files := x.files ++ [f] } b m (es.push { key := nameV f.name, val := .pointer (some ⟨w.heap.size, 0, none⟩), born := clock }) (clock + 1) (fl ++ [(f, w.heap.size, bb)]) := by
  have hA := h.alloc (.cells #[v, .int .i64 f.synced] 72)
  have hlt := h.lt
  have hfr : w.heap.size ∉ b :: m :: (fl.map blks).flatten := fun hm => Nat.lt_irrefl _ (hlt _ hm)
  refine ⟨hA.put hs _, hA.remap ?_ (MapKept.stamped_push h.st ?_) ?_ rfl rfl rfl rfl rfl ?_ ?_ ?_⟩
  · rw [Array.toList_push, List.map_append, List.map_append, show es.toList.map pairE = fl.map pairF from h.ents]
    rfl
  · rcases h.find f.name with ⟨_, _, h3⟩ | ⟨f, j, e, h1, _⟩
    · exact h3
    · rw [hs] at h1; cases h1
  · rw [List.map_append]
    exact h.perm.append_right _
  · intro g hg
    rcases List.mem_append.1 hg with hg | hg
    · exact hA.file g hg
    · obtain rfl := List.mem_singleton.1 hg
      exact ⟨_, alloc_new w _, hB.keep fun k hk => alloc_lt w _ (hbb k hk).2⟩
  · rw [flat_append]
    have := h.nodup
    rw [← List.cons_append, ← List.cons_append]
    refine List.nodup_append.2 ⟨this, ?_, ?_⟩
    · show ((w.heap.size :: bb.toList) ++ []).Nodup
      rw [List.append_nil]
      refine List.nodup_cons.2 ⟨fun hm => Nat.lt_irrefl _ (hbb _ hm).2, ?_⟩
      cases bb <;> simp
    · intro a ha c hc
      have hc : c ∈ (w.heap.size :: bb.toList) ++ [] := hc
      rw [List.append_nil] at hc
      rintro rfl
      rcases List.mem_cons.1 hc with rfl | hc
      · exact hfr ha
      · exact (hbb _ hc).1 ha
  · intro k hk
    rw [alloc_size]
    rw [flat_append, List.mem_append] at hk
    rcases hk with hk | hk
    · have := hlt k (by simp [hk]); omega
    · have hk : k ∈ (w.heap.size :: bb.toList) ++ [] := hk
      rw [List.append_nil] at hk
      rcases List.mem_cons.1 hk with rfl | hk
      · omega
      · have := (hbb k hk).2; omega

def fileOf (fl : List Ent) (e : MapEntry) : Lk.DFile := ((at? fl (keyName e)).map (·.1)).getD ⟨[], [], 0⟩

theorem files_of {w : World} {x : Lk.DiskS} {b m : Nat} {es : Array MapEntry} {clock : Nat} {fl : List Ent} (h : DiskAt w x b m es clock fl) : es.toList.map (fileOf fl) = fl.map (·.1) := by
  obtain ⟨h1, _⟩ := keys_names h
  have h2 : es.toList.map (fileOf fl) = (es.toList.map keyName).map fun s => ((at? fl s).map (·.1)).getD ⟨[], [], 0⟩ := by rw [List.map_map]; rfl
  rw [h2, h1, List.map_map]
  refine List.map_congr_left fun f hf => ?_
  show ((at? fl f.1.name).map (·.1)).getD ⟨[], [], 0⟩ = f.1
  unfold at?
  cases hg : fl.find? fun g => g.1.name == f.1.name with
  | none => exact absurd (List.find?_eq_none.1 hg f hf) (by simp)
  | some g =>
    have hgm := List.mem_of_find?_eq_some hg
    have hgn : g.1.name = f.1.name := by simpa using List.find?_some hg
    obtain ⟨i, hi⟩ := List.getElem?_of_mem hgm
    obtain ⟨j, hj⟩ := List.getElem?_of_mem hf
    have := unlike_at h.unlike hi hj hgn
    subst this
    rw [hi] at hj
    cases hj
    rfl

def Cloning (w wr : World) (x : Lk.DiskS) (m : Nat) (es : Array MapEntry) (clock : Nat) (fl : List Ent) : Prop :=
  ∃ (seen : Array Nat) (es' : Array MapEntry) (clock' : Nat) (fl' : List Ent), wr.heap[w.heap.size + 2]? = some (.mapIter (some m) clock seen clock) ∧
    DiskAt wr { x with files := fl'.map (·.1) } w.heap.size (w.heap.size + 1) es' clock' fl' ∧ (∀ k ∈ (fl'.map blks).flatten, w.heap.size + 2 < k) ∧ Lk.Ext [] w wr ∧ w.heap.size + 2 < wr.heap.size ∧ (fl'.map (·.1) ++ (leftOf es seen).toList.map (fileOf fl)).Perm x.files

theorem Cloning.round {w wr : World} {x : Lk.DiskS} {b m : Nat} {es : Array MapEntry} {clock : Nat} {fl : List Ent} (h : DiskAt w x b m es clock fl) (hg : Dk.Good x) (hl : Cloning w wr x m es clock fl) :
    (∃ w', w' = wr ∧ (∀ ty, (Instr.next (.pointer (some ⟨w.heap.size + 2, 0, none⟩)) false ty).run Try.prog wr = .ok (.tuple #[.bool false]) wr) ∧ ∃ es' clock' fl', DiskAt wr x w.heap.size (w.heap.size + 1) es' clock' fl' ∧ (∀ k ∈ (fl'.map blks).flatten, w.heap.size ≤ k) ∧ Lk.Ext [] w wr) ∨
    ∃ (s : List UInt8) (p : Nat) (a : Option Addr) (n c : Nat) (z : Int) (W1 : World), (∀ ty, (Instr.next (.pointer (some ⟨w.heap.size + 2, 0, none⟩)) false ty).run Try.prog wr = .ok (.tuple #[.bool true, .string ⟨s.toArray⟩, .pointer (some ⟨p, 0, none⟩)]) W1) ∧
      (Instr.entry (.pointer (some ⟨w.heap.size + 2, 0, none⟩))).run Try.prog W1 = .ok (.tuple #[.string ⟨s.toArray⟩, .pointer (some ⟨p, 0, none⟩)]) W1 ∧
      W1.cell? ⟨p, 0, none⟩ = some (.slice a n c) ∧ W1.cell? ⟨p, 1, none⟩ = some (.int .i64 z) ∧ W1.cell? ⟨w.heap.size, 0, none⟩ = some (.map (some (w.heap.size + 1))) ∧
      (∀ d, Calls Try.prog 36 #[.slice a n c] { W1 with drawn := d } fun e w' => ∃ a' n' c', e = .returned (.slice a' n' c') ∧ ∀ d', ({ w' with drawn := d' } : World).cell? ⟨p, 0, none⟩ = some (.slice a n c) ∧ ({ w' with drawn := d' } : World).cell? ⟨p, 1, none⟩ = some (.int .i64 z) ∧ ({ w' with drawn := d' } : World).cell? ⟨w.heap.size, 0, none⟩ = some (.map (some (w.heap.size + 1))) ∧
        ∃ w3, (Instr.mapUpdate 52 (.map (some (w.heap.size + 1))) (.string ⟨s.toArray⟩) (.pointer (some ⟨w'.heap.size, 0, none⟩))).run Try.prog (({ w' with drawn := d' } : World).alloc (.cells #[.slice a' n' c', .int .i64 z] 72)) = .ok () w3 ∧ w3.cell? ⟨p, 0, none⟩ = some (.slice a n c) ∧ w3.cell? ⟨p, 1, none⟩ = some (.int .i64 z) ∧ w3.cell? ⟨w.heap.size, 0, none⟩ = some (.map (some (w.heap.size + 1))) ∧ Cloning w w3 x m es clock fl ∧ (leftOf es (w3.iterSeen (w.heap.size + 2))).size < (leftOf es (wr.iterSeen (w.heap.size + 2))).size) := by
  obtain ⟨seen, es', clock', fl', h1, h2, h3, h4, h5, h6⟩ := hl
  have hml := h.lt m (by simp)
  have hm : wr.heap[m]? = some (.map es clock) := (h4.block m hml (by simp)).trans h.map
  obtain ⟨hk1, hk2⟩ := keys_names h
  have hiter : wr.iterSeen (w.heap.size + 2) = seen := by unfold World.iterSeen; rw [h1]
  rcases run_next_any (P := Try.prog) wr 0 (w.heap.size + 2) m clock clock seen es clock h1 hm h.st.1 (Nat.le_refl _) with ⟨h0, hrun⟩ | ⟨e, he, n, hrun⟩
  · refine .inl ⟨wr, rfl, fun _ => hrun, es', clock', fl', ?_, fun k hk => by have := h3 k hk; omega, h4⟩
    rw [left_zero h0] at h6
    simp only [List.map_nil, List.append_nil] at h6
    exact ⟨h2.head, h2.map, h2.ents, h2.st, h6.symm, h2.file, h2.nodup, h2.lt⟩
  · obtain ⟨hem, _⟩ := mem_left he
    obtain ⟨hkey, f, hf, hfn, hval⟩ := hk2 e hem
    have hfe : fileOf fl e = f.1 := by
      have h7 := files_of h
      unfold fileOf at *
      unfold at?
      rw [← hfn]
      cases hg2 : fl.find? fun g => g.1.name == f.1.name with
      | none => exact absurd (List.find?_eq_none.1 hg2 f hf) (by simp)
      | some g =>
        have hgm := List.mem_of_find?_eq_some hg2
        have hgn : g.1.name = f.1.name := by simpa using List.find?_some hg2
        obtain ⟨i, hi⟩ := List.getElem?_of_mem hgm
        obtain ⟨j, hj⟩ := List.getElem?_of_mem hf
        have := unlike_at h.unlike hi hj hgn
        subst this
        rw [hi] at hj
        cases hj
        rfl
    let W1 := stepW wr (w.heap.size + 2) m clock (seen.push e.born) clock n
    have hsz1 : W1.heap.size = wr.heap.size := stepW_size ..
    have hit1 : W1.heap[w.heap.size + 2]? = some (.mapIter (some m) clock (seen.push e.born) clock) := heap_set_same _ h5
    have hot1 : ∀ k, k ≠ w.heap.size + 2 → W1.heap[k]? = wr.heap[k]? := fun k hk => heap_set_other _ hk
    have hm1 : W1.heap[m]? = some (.map es clock) := (hot1 m (by omega)).trans hm
    have hen := run_entry_any (P := Try.prog) W1 (w.heap.size + 2) m clock seen es clock e hit1 hm1 hem h.st.2.1
    have hXs : Lk.Ext [w.heap.size + 2] wr W1 := ⟨rfl, rfl, rfl, by rw [hsz1]; omega, fun k _ hk => hot1 k (fun e => hk (by simp [e]))⟩
    have hX1 : Lk.Ext [] w W1 := ext_tr h4 hXs (fun k hk => .inr (by have := List.mem_singleton.1 hk; omega))
    have hD1 : DiskAt W1 { x with files := fl'.map (·.1) } w.heap.size (w.heap.size + 1) es' clock' fl' :=
      h2.turn rfl (by rw [hot1 _ (by omega)]; exact h2.head) (fun k hk => hot1 k (by
        rcases List.mem_cons.1 hk with rfl | hk
        · omega
        · have := h3 k hk; omega)) (by rw [hsz1]; omega)
    have hfile : FileAt w f.1 f.2.1 f.2.2 := h.file f hf
    have hfl : ∀ k ∈ f.2.1 :: f.2.2.toList, k < w.heap.size := fun k hk => h.lt k (List.mem_cons_of_mem _ (List.mem_cons_of_mem _ (List.mem_flatten.2 ⟨blks f, List.mem_map.2 ⟨f, hf, rfl⟩, hk⟩)))
    have hfile1 : FileAt W1 f.1 f.2.1 f.2.2 := hfile.keep fun k hk => hX1.block k (hfl k hk) (by simp)
    obtain ⟨v, g1, g2⟩ := hfile1
    obtain ⟨a, c, rfl⟩ := g2.slice
    obtain ⟨k0, k1, _, _⟩ := two_cells g1
    obtain ⟨d0, _⟩ := hD1.cell
    have hnew : at? fl' f.1.name = none := by
      have hnd : ((fl'.map (·.1) ++ (leftOf es seen).toList.map (fileOf fl)).map (·.name)).Nodup := by
        have : (x.files.map (·.name)).Nodup := by
          refine List.Pairwise.imp ?_ (List.pairwise_map.2 hg.sorted)
          intro a b h e
          rw [e] at h
          exact Dk.lt_irr _ h
        exact (h6.map _).nodup_iff.2 this
      rw [List.map_append] at hnd
      obtain ⟨_, _, hd⟩ := List.nodup_append.1 hnd
      unfold at?
      rw [List.find?_eq_none]
      intro g hgm hgn
      refine hd g.1.name (List.mem_map.2 ⟨g.1, List.mem_map.2 ⟨g, hgm, rfl⟩, rfl⟩) f.1.name (List.mem_map.2 ⟨f.1, List.mem_map.2 ⟨e, he, hfe⟩, rfl⟩) (by simpa using hgn)
    have hlen : f.1.bytes.length ≤ 1099511627776 := by
      have h8 := len_total (h.perm.mem_iff.2 (List.mem_map.2 ⟨f, hf, rfl⟩))
      have h9 := hg.most
      rw [← hg.used] at h8
      omega
    refine .inr ⟨f.1.name, f.2.1, a, f.1.bytes.length, c, f.1.synced, W1, ?_, ?_, k0, k1, d0, ?_⟩
    · intro ty
      rw [show (Value.string ⟨f.1.name.toArray⟩) = e.key by rw [hkey, hfn]; rfl, ← hval]
      exact hrun
    · rw [hen, hval, hkey, hfn]; rfl
    · intro d
      have hrd : Lk.Rd ax0 (fun k => k < ({ W1 with drawn := d } : World).heap.size) { W1 with drawn := d } (.l .by) f.1.bytes [.slice a f.1.bytes.length c] :=
        BytesAt.rd (w := { W1 with drawn := d }) g2 (fun k hk => by have := hfl k (List.mem_cons_of_mem _ hk); show k < W1.heap.size; omega)
      refine (clone_bytes { W1 with drawn := d } _ _ hrd hlen).mono ?_
      rintro e' w' ⟨v', bb', rfl, hB, hE, hN⟩
      obtain ⟨a', c', rfl⟩ := hB.slice
      refine ⟨a', f.1.bytes.length, c', rfl, fun d' => ?_⟩
      have hE2 : Lk.Ext [] W1 { w' with drawn := d' } := ⟨hE.os, hE.tape, hE.output, hE.size, hE.block⟩
      have hD2 : DiskAt { w' with drawn := d' } { x with files := fl'.map (·.1) } w.heap.size (w.heap.size + 1) es' clock' fl' :=
        hD1.turn rfl (by rw [hE2.block _ (hD1.lt _ (by simp)) (by simp)]; exact hD1.head) (fun k hk => hE2.block k (hD1.lt k (List.mem_cons_of_mem _ hk)) (by simp)) hE2.size
      have hN' : ∀ k ∈ bb'.toList, wr.heap.size ≤ k ∧ k < w'.heap.size := fun k hk => by
        have h1 := hN k hk
        have h2 : W1.heap.size ≤ k := h1.1
        omega
      have hbb : ∀ k ∈ bb'.toList, k ∉ w.heap.size :: (w.heap.size + 1) :: (fl'.map blks).flatten ∧ k < ({ w' with drawn := d' } : World).heap.size := fun k hk => by
        refine ⟨fun hm => ?_, (hN' k hk).2⟩
        have h8 := hD1.lt k hm
        have h9 := (hN' k hk).1
        omega
      obtain ⟨hput, hD3⟩ := hD2.pushF f.1 hnew (v := .slice a' f.1.bytes.length c') hB hbb
      have ef : fl'.map (·.1) ++ [f.1] = (fl' ++ [(f.1, w'.heap.size, bb')]).map (·.1) := by rw [List.map_append]; rfl
      change DiskAt _ { x with files := fl'.map (·.1) ++ [f.1] } _ _ _ _ (fl' ++ [(f.1, w'.heap.size, bb')]) at hD3
      rw [ef] at hD3
      have hp2 : ({ w' with drawn := d' } : World).heap[f.2.1]? = some (.cells #[.slice a f.1.bytes.length c, .int .i64 f.1.synced] 72 (0, 0)) := (hE2.block _ (by have := hfl f.2.1 (by simp); omega) (by simp)).trans g1
      have hp3 := two_cells ((setMap_other (w := ({ w' with drawn := d' } : World).alloc (.cells #[.slice a' f.1.bytes.length c', .int .i64 f.1.synced] 72)) (m := w.heap.size + 1) (es := es'.push { key := nameV f.1.name, val := .pointer (some ⟨({ w' with drawn := d' } : World).heap.size, 0, none⟩), born := clock' }) (clock := clock' + 1) (by have := hfl f.2.1 (by simp); omega)).trans ((alloc_lt _ _ (by have := hfl f.2.1 (by simp); have := hE2.size; omega)).trans hp2))
      refine ⟨(two_cells hp2).1, ?_, ?_, _, hput, hp3.1, hp3.2.1, hD3.cell.1, ⟨seen.push e.born, _, _, _, ?_, hD3, ?_, ?_, ?_, ?_⟩, ?_⟩
      · exact (two_cells hp2).2.1
      · exact hD2.cell.1
      · rw [setMap_other (by omega), alloc_lt _ _ (by have := hE2.size; omega), hE2.block _ (by omega) (by simp)]
        exact hit1
      · intro k hk
        rw [flat_append, List.mem_append] at hk
        rcases hk with hk | hk
        · exact h3 k hk
        · have hk : k ∈ (({ w' with drawn := d' } : World).heap.size :: bb'.toList) ++ [] := hk
          rw [List.append_nil] at hk
          rcases List.mem_cons.1 hk with rfl | hk
          · have := hE2.size; omega
          · have := (hN' k hk).1; omega
      · exact ext_setMap (.inr (by omega)) (ext_alloc (ext_tr hX1 hE2 (by simp)) _) _ _
      · rw [setMap_size, alloc_size]; have := hE2.size; omega
      · rw [List.map_append, List.append_assoc]
        refine List.Perm.trans ?_ h6
        refine List.Perm.append_left _ ?_
        have := ((left_perm h.st.2.1 he).map (fileOf fl)).symm
        rw [List.map_cons, hfe] at this
        exact this
      · rw [hiter]
        have : (setMap (({ w' with drawn := d' } : World).alloc (.cells #[.slice a' f.1.bytes.length c', .int .i64 f.1.synced] 72)) (w.heap.size + 1) (es'.push { key := nameV f.1.name, val := .pointer (some ⟨({ w' with drawn := d' } : World).heap.size, 0, none⟩), born := clock' }) (clock' + 1)).iterSeen (w.heap.size + 2) = seen.push e.born := by
          unfold World.iterSeen
          rw [setMap_other (by omega), alloc_lt _ _ (by have := hE2.size; omega), hE2.block _ (by omega) (by simp), hit1]
        rw [this]
        exact left_shrinks es seen e he
end Go.Proofs.Ytcfagjkijhjaoaa

namespace Go.Proofs.Ytcfagjkijhjaoaa
open Go.RowKit

theorem Cloning.start {w : World} {x : Lk.DiskS} {b m : Nat} {es : Array MapEntry} {clock : Nat} {fl : List Ent} (h : DiskAt w x b m es clock fl) :
    Cloning w (((w.alloc (.cells #[.map (some (w.heap.size + 1)), .int .i64 x.quota, .int .i64 x.used, .int .i64 x.refused, .int .i64 x.after, .int .i64 x.count] 56)).alloc (.map #[] 0)).alloc (.mapIter (some m) clock #[] clock)) x m es clock fl := by
  let o1 : Obj := .cells #[.map (some (w.heap.size + 1)), .int .i64 x.quota, .int .i64 x.used, .int .i64 x.refused, .int .i64 x.after, .int .i64 x.count] 56
  have s1 : (w.alloc o1).heap.size = w.heap.size + 1 := alloc_size _ _
  have s2 : ((w.alloc o1).alloc (.map #[] 0)).heap.size = w.heap.size + 2 := by rw [alloc_size, s1]
  have s3 : (((w.alloc o1).alloc (.map #[] 0)).alloc (.mapIter (some m) clock #[] clock)).heap.size = w.heap.size + 3 := by rw [alloc_size, s2]
  refine ⟨#[], #[], 0, [], ?_, ⟨?_, ?_, rfl, MapKept.stamped_empty 0, List.Perm.refl _, (fun f hf => by cases hf), (by simp), fun k hk => ?_⟩, (by simp), ?_, ?_, ?_⟩
  · have := alloc_new ((w.alloc o1).alloc (.map #[] 0)) (.mapIter (some m) clock #[] clock)
    rwa [s2] at this
  · rw [alloc_lt _ _ (by rw [s2]; omega), alloc_lt _ _ (by rw [s1]; omega)]
    exact alloc_new w o1
  · rw [alloc_lt _ _ (by rw [s2]; omega)]
    have := alloc_new (w.alloc o1) (.map #[] 0)
    rwa [s1] at this
  · rw [s3]
    simp at hk
    omega
  · exact ext_alloc (ext_alloc (ext_alloc (ext_refl _ _) _) _) _
  · rw [s3]; omega
  · rw [left_none, files_of h]
    simpa using h.perm.symm

set_option maxRecDepth 100000 in
set_option maxHeartbeats 1000000 in
theorem clone_any (w : World) (x : Lk.DiskS) (b m : Nat) (es : Array MapEntry) (clock : Nat) (fl : List Ent) (h : DiskAt w x b m es clock fl) (hg : Dk.Good x) :
    Calls Try.prog 10 #[.pointer (some ⟨b, 0, none⟩)] w fun e w' => e = .returned (.pointer (some ⟨w.heap.size, 0, none⟩)) ∧ ∃ es' clock' fl', DiskAt w' x w.heap.size (w.heap.size + 1) es' clock' fl' ∧ (∀ k ∈ (fl'.map blks).flatten, w.heap.size ≤ k) ∧ Lk.Ext [] w w' := by
  have hmm := @run_makeMap Try.prog
  have hstart := Cloning.start h
  have hround := fun wr => Cloning.round (w := w) (wr := wr) h hg
  obtain ⟨h0, h1, h2, h3, h4, h5⟩ := h.cell
  have hB := (h.alloc (.cells #[.map (some (w.heap.size + 1)), .int .i64 x.quota, .int .i64 x.used, .int .i64 x.refused, .int .i64 x.after, .int .i64 x.count] 56)).alloc (.map #[] 0)
  obtain ⟨d0, _⟩ := hB.cell
  have hr := run_range_map (P := Try.prog) _ 52 _ _ m es clock Try.underlying52 hB.map
  go_enter Try.func10, Try.ntmps10
  go_wp2_with (go_at_call 35; refine (none_any _ b m h0).mono ?_; rintro e w2 ⟨rfl, hw⟩; replace hw := hw.symm; subst hw)
  clear hr hB d0 h0 h1 h2 h3 h4 h5 hmm
  go_loopw [] (fun wr => Cloning w wr x m es clock fl) (fun wr => (leftOf es (wr.iterSeen (w.heap.size + 2))).size)
  case atStart => exact hstart
  case round =>
    rcases hround _ hrel with ⟨_, _, hnx, es', clock', fl', hD, hN, hX⟩ | ⟨s, p, a, n, c, z, W1, hnx, hen, c0, c1, c2, hcl⟩
    · clear hrel hround hstart
      go_wp2
      go_ret
      exact ⟨rfl, es', clock', fl', hD, hN, hX⟩
    · clear hrel hround hstart
      go_wp2
      go_region_held3 (fun W : World => W.cell? ⟨p, 0, none⟩ = some (.slice a n c) ∧ W.cell? ⟨p, 1, none⟩ = some (.int .i64 z) ∧ W.cell? ⟨w.heap.size, 0, none⟩ = some (.map (some (w.heap.size + 1)))) (first | exact ⟨c0, c1, c2⟩ | go_keep) (first | (go_at_call 36; refine (hcl _).mono ?_; rintro e w2 ⟨a', n', c', rfl, hcont⟩; obtain ⟨q0, q1, q2, w3, q3, q6, q7, q8, q4, q5⟩ := hcont w2.drawn; have r0 : w2.cell? ⟨p, 0, none⟩ = some (.slice a n c) := q0; have r1 : w2.cell? ⟨p, 1, none⟩ = some (.int .i64 z) := q1; have r2 : w2.cell? ⟨w.heap.size, 0, none⟩ = some (.map (some (w.heap.size + 1))) := q2; have r3 : (Instr.mapUpdate 52 (.map (some (w.heap.size + 1))) (.string ⟨s.toArray⟩) (.pointer (some ⟨w2.heap.size, 0, none⟩))).run Try.prog (w2.alloc (.cells #[.slice a' n' c', .int .i64 z] 72)) = .ok () w3 := q3; clear q0 q1 q2 q3 hcont))
      all_goals go_wp2
      all_goals go_roundw
      case rel => exact q4
      case measure => exact q5
end Go.Proofs.Ytcfagjkijhjaoaa

namespace Go.Proofs.Ytcfagjkijhjaoaa
open Go.RowKit

theorem conv_bytes {τ : Lk.Ax} {w : World} {y : List UInt8} {v : Value} (h : Lk.Rd τ (fun _ => True) w (.l .by) y [v]) : (convert 29 9 v).run Try.prog w = .ok (.string ⟨y.toArray⟩) w := by
  obtain ⟨a0, cap, e1, r1, r2, r3, _⟩ := id h
  obtain rfl : v = .slice a0 y.length cap := by simpa using e1
  obtain ⟨vs, g1, g2, g3, g4⟩ := Lk.src_cells (P := Try.prog) h y.length (Nat.le_refl _)
  have hvs := Lk.by_cells (by simpa [Lk.csz] using g2) (fun i b hb => g3 i b (Lk.lt_of_get hb) hb)
  unfold convert
  rw [Sem.run_bind, run_underlying Try.underlying29, Result.andThen_ok, Sem.run_bind, run_underlying Try.underlying9, Result.andThen_ok]
  show Sem.run Try.prog (do match ← underlying 5 with | .int .u8 => Conv.bytesToString (.slice a0 y.length cap) | .int .i32 => _ | _ => _) w = _
  rw [Sem.run_bind, run_underlying Try.underlying5, Result.andThen_ok]
  show Sem.run Try.prog (Conv.bytesToString (.slice a0 y.length cap)) w = _
  cases a0 with
  | none => rw [r3 rfl]; rfl
  | some ad =>
    have hld := g1 w rfl
    simp only [Builtin.firstCells, Lk.csz, Nat.mul_one] at hld
    rw [hvs] at hld
    rw [run_bytesToString w ad y.length cap _ hld]
    have := Lk.fold_push y []
    simp only [List.nil_append] at this
    show Result.ok (Value.string _) w = _
    rw [show ByteArray.empty = ByteArray.mk ([] : List UInt8).toArray from rfl, this]

set_option maxHeartbeats 400000 in
theorem equal_bytes (w : World) (a a' : Option Addr) (n c n' c' : Nat) (x y : List UInt8) (hx : Lk.Rd ax0 (fun _ => True) w (.l .by) x [.slice a n c]) (hy : Lk.Rd ax0 (fun _ => True) w (.l .by) y [.slice a' n' c']) :
    Calls Try.prog 53 #[.slice a n c, .slice a' n' c'] w fun e w' => e = .returned (.bool (x == y)) ∧ w' = w := by
  have h1 := conv_bytes hx
  have h2 := conv_bytes hy
  go_enter Try.func53, Try.ntmps53
  go_wp2
  go_ret
  exact ⟨rfl, rfl⟩

set_option maxRecDepth 100000 in
set_option maxHeartbeats 1000000 in
theorem alike_ne (w : World) (p p' : Nat) (z z' : Int) (h1 : w.cell? ⟨p, 1, none⟩ = some (.int .i64 z)) (h2 : w.cell? ⟨p', 1, none⟩ = some (.int .i64 z')) (hz : (z == z') = false) :
    Calls Try.prog 52 #[.pointer (some ⟨p, 0, none⟩), .pointer (some ⟨p', 0, none⟩)] w fun e w' => e = .returned (.bool false) ∧ ∃ d, w' = { w with drawn := d } := by
  go_enter Try.func52, Try.ntmps52
  go_wp2
  go_quiet (fail)
  go_wp2
  go_ret
  exact ⟨rfl, _, rfl⟩

theorem rd_drew {τ : Lk.Ax} {w W : World} (h : W.heap = w.heap) {y : List UInt8} {v : Value} (hy : Lk.Rd τ (fun _ => True) w (.l .by) y [v]) : Lk.Rd τ (fun _ => True) W (.l .by) y [v] :=
  Lk.Rd_keep τ (fun _ _ => ⟨trivial, by rw [h]⟩) _ _ _ hy

set_option maxRecDepth 100000 in
set_option maxHeartbeats 1000000 in
theorem alike_eq (w : World) (p p' : Nat) (z z' : Int) (h1 : w.cell? ⟨p, 1, none⟩ = some (.int .i64 z)) (h2 : w.cell? ⟨p', 1, none⟩ = some (.int .i64 z')) (hz : (z == z') = true) (a a' : Option Addr) (n c n' c' : Nat) (x y : List UInt8)
    (g1 : w.cell? ⟨p, 0, none⟩ = some (.slice a n c)) (g2 : w.cell? ⟨p', 0, none⟩ = some (.slice a' n' c')) (hx : Lk.Rd ax0 (fun _ => True) w (.l .by) x [.slice a n c]) (hy : Lk.Rd ax0 (fun _ => True) w (.l .by) y [.slice a' n' c']) :
    Calls Try.prog 52 #[.pointer (some ⟨p, 0, none⟩), .pointer (some ⟨p', 0, none⟩)] w fun e w' => e = .returned (.bool (x == y)) ∧ ∃ d, w' = { w with drawn := d } := by
  have heq := fun (W : World) (hW : W.heap = w.heap) => equal_bytes W a a' n c n' c' x y (rd_drew hW hx) (rd_drew hW hy)
  clear hx hy
  go_enter Try.func52, Try.ntmps52
  go_wp2
  go_quiet ((go_at_call 53; exact Calls.quiet_of_same (heq _ rfl)))
  go_wp2
  go_ret
  exact ⟨rfl, _, rfl⟩

theorem DiskAt.lookup_ok {w : World} {x : Lk.DiskS} {b m : Nat} {es : Array MapEntry} {clock : Nat} {fl : List Ent} (h : DiskAt w x b m es clock fl) (s : List UInt8) :
    (Instr.lookup 52 (.map (some m)) (nameV s) true).run Try.prog w = .ok (match at? fl s with | some f => .tuple #[.pointer (some ⟨f.2.1, 0, none⟩), .bool true] | none => .tuple #[.pointer none, .bool false]) w := by
  obtain ⟨j, hj⟩ := find_spec s es.toList fl 0 h.ents
  have hk : MapKept.IsKey .string (nameV s) := trivial
  cases hf : at? fl s with
  | none =>
    rw [hf] at hj
    simp [Instr.lookup, run_underlying Try.underlying52, MapKept.run_getObj_map h.map, MapKept.run_checkKey Try.underlying9 hk, MapKept.run_findKey Try.underlying9 hj, zero_file, Result.andThen]
  | some f =>
    rw [hf] at hj
    simp [Instr.lookup, run_underlying Try.underlying52, MapKept.run_getObj_map h.map, MapKept.run_checkKey Try.underlying9 hk, MapKept.run_findKey Try.underlying9 hj, Result.andThen]

def alike (f : Lk.DFile) (y : Lk.DiskS) : Bool := match Dk.look y.files f.name with
  | some g => f.synced == g.synced && f.bytes == g.bytes
  | none => false

theorem subset_len {α : Type} [DecidableEq α] : ∀ (l r : List α), l.Nodup → (∀ a ∈ l, a ∈ r) → l.length ≤ r.length
  | [], _, _, _ => Nat.zero_le _
  | a :: l, r, hn, hs => by
    have hn' := List.nodup_cons.1 hn
    have ha : a ∈ r := hs a (by simp)
    have h1 := subset_len l (r.erase a) hn'.2 fun b hb => by
      have hne : b ≠ a := fun e => hn'.1 (e ▸ hb)
      exact (List.mem_erase_of_ne hne).2 (hs b (by simp [hb]))
    rw [List.length_erase_of_mem ha] at h1
    have : 0 < r.length := List.length_pos_of_mem ha
    simp only [List.length_cons]
    omega

theorem subset_perm {α : Type} [DecidableEq α] : ∀ (l r : List α), l.Nodup → (∀ a ∈ l, a ∈ r) → l.length = r.length → l.Perm r
  | [], r, _, _, hl => by
    have : r = [] := List.length_eq_zero_iff.1 hl.symm
    subst this; exact List.Perm.refl _
  | a :: l, r, hn, hs, hl => by
    have hn' := List.nodup_cons.1 hn
    have ha : a ∈ r := hs a (by simp)
    have h1 := subset_perm l (r.erase a) hn'.2 (fun b hb => by
      have hne : b ≠ a := fun e => hn'.1 (e ▸ hb)
      exact (List.mem_erase_of_ne hne).2 (hs b (by simp [hb]))) (by
      rw [List.length_erase_of_mem ha, ← hl]; simp)
    exact (h1.cons a).trans (List.perm_cons_erase ha).symm

theorem look_mem {l : List Lk.DFile} {s : Dk.Nm} {g : Lk.DFile} (h : Dk.look l s = some g) : g ∈ l ∧ g.name = s :=
  ⟨List.mem_of_find?_eq_some h, by simpa using List.find?_some h⟩

theorem files_nodup {x : Lk.DiskS} (hg : Dk.Good x) : x.files.Nodup := by
  refine List.Pairwise.imp ?_ hg.sorted
  intro a b h e
  rw [e] at h
  exact Dk.lt_irr _ h

theorem look_self {x : Lk.DiskS} (hg : Dk.Good x) {f : Lk.DFile} (hf : f ∈ x.files) : Dk.look x.files f.name = some f := by
  unfold Dk.look
  cases h : x.files.find? fun g => g.name == f.name with
  | none => exact absurd (List.find?_eq_none.1 h f hf) (by simp)
  | some g =>
    have hgm := List.mem_of_find?_eq_some h
    have hgn : g.name = f.name := by simpa using List.find?_some h
    obtain ⟨i, hi⟩ := List.getElem?_of_mem hgm
    obtain ⟨j, hj⟩ := List.getElem?_of_mem hf
    obtain ⟨hi', rfl⟩ := List.getElem?_eq_some_iff.1 hi
    obtain ⟨hj', rfl⟩ := List.getElem?_eq_some_iff.1 hj
    rcases Nat.lt_trichotomy i j with h | rfl | h
    · have := List.pairwise_iff_getElem.1 hg.sorted i j hi' hj' h
      rw [hgn] at this
      exact absurd this (Dk.lt_irr _)
    · rfl
    · have := List.pairwise_iff_getElem.1 hg.sorted j i hj' hi' h
      rw [hgn] at this
      exact absurd this (Dk.lt_irr _)

theorem same_alike {x y : Lk.DiskS} (hx : Dk.Good x) (hy : Dk.Good y) : Dk.same x y = (decide (x.files.length = y.files.length) && x.files.all fun f => alike f y) := by
  unfold Dk.same
  by_cases h : x.files = y.files
  · rw [h]
    simp only [beq_self_eq_true, decide_true, Bool.true_and]
    symm
    rw [List.all_eq_true]
    intro f hf
    unfold alike
    rw [look_self hy hf]
    simp
  · have h1 : (x.files == y.files) = false := by simpa using h
    rw [h1]
    symm
    rw [Bool.and_eq_false_iff]
    by_cases hl : x.files.length = y.files.length
    · right
      rw [Bool.eq_false_iff]
      intro ha
      rw [List.all_eq_true] at ha
      apply h
      have hsub : ∀ f ∈ x.files, f ∈ y.files := by
        intro f hf
        have := ha f hf
        unfold alike at this
        split at this
        · rename_i g hg
          obtain ⟨g1, g2⟩ := look_mem hg
          simp only [Bool.and_eq_true, beq_iff_eq] at this
          have : f = g := by
            cases f; cases g
            simp_all
          rw [this]; exact g1
        · cases this
      have hp := subset_perm x.files y.files (files_nodup hx) hsub hl
      refine List.Perm.eq_of_pairwise ?_ hx.sorted hy.sorted hp
      intro a b _ _ h1 h2
      exact absurd (Dk.lt_tr h1 h2) (Dk.lt_irr _)
    · left
      simpa using hl
end Go.Proofs.Ytcfagjkijhjaoaa

namespace Go.Proofs.Ytcfagjkijhjaoaa
open Go.RowKit

def Comparing (w wr : World) (y : Lk.DiskS) (m : Nat) (es : Array MapEntry) (clock : Nat) (fl : List Ent) : Prop :=
  ∃ seen : Array Nat, wr.heap[w.heap.size]? = some (.mapIter (some m) clock seen clock) ∧ Lk.Ext [] w wr ∧ w.heap.size < wr.heap.size ∧ ∀ e ∈ es.toList, seen.contains e.born = true → alike (fileOf fl e) y = true

theorem Comparing.start (w : World) (y : Lk.DiskS) (m : Nat) (es : Array MapEntry) (clock : Nat) (fl : List Ent) : Comparing w (w.alloc (.mapIter (some m) clock #[] clock)) y m es clock fl :=
  ⟨#[], alloc_new w _, ext_alloc (ext_refl _ _) _, by rw [alloc_size]; omega, fun e _ h => by simp at h⟩

theorem file_of {w : World} {x : Lk.DiskS} {b m : Nat} {es : Array MapEntry} {clock : Nat} {fl : List Ent} (h : DiskAt w x b m es clock fl) {e : MapEntry} {f : Ent} (hf : f ∈ fl) (hn : f.1.name = keyName e) : fileOf fl e = f.1 := by
  unfold fileOf at?
  rw [← hn]
  cases hg2 : fl.find? fun g => g.1.name == f.1.name with
  | none => exact absurd (List.find?_eq_none.1 hg2 f hf) (by simp)
  | some g =>
    have hgm := List.mem_of_find?_eq_some hg2
    have hgn : g.1.name = f.1.name := by simpa using List.find?_some hg2
    obtain ⟨i, hi⟩ := List.getElem?_of_mem hgm
    obtain ⟨j, hj⟩ := List.getElem?_of_mem hf
    have := unlike_at h.unlike hi hj hgn
    subst this
    rw [hi] at hj
    cases hj
    rfl

theorem Comparing.round {w wr : World} {x y : Lk.DiskS} {b m b' m' : Nat} {es es' : Array MapEntry} {clock clock' : Nat} {fl fl' : List Ent} (h : DiskAt w x b m es clock fl) (h' : DiskAt w y b' m' es' clock' fl') (hl : Comparing w wr y m es clock fl) :
    ((∀ ty, (Instr.next (.pointer (some ⟨w.heap.size, 0, none⟩)) false ty).run Try.prog wr = .ok (.tuple #[.bool false]) wr) ∧ Lk.Ext [] w wr ∧ (x.files.all fun f => alike f y) = true) ∨
    ∃ (s : List UInt8) (p : Nat) (W1 : World), (∀ ty, (Instr.next (.pointer (some ⟨w.heap.size, 0, none⟩)) false ty).run Try.prog wr = .ok (.tuple #[.bool true, .string ⟨s.toArray⟩, .pointer (some ⟨p, 0, none⟩)]) W1) ∧
      (Instr.entry (.pointer (some ⟨w.heap.size, 0, none⟩))).run Try.prog W1 = .ok (.tuple #[.string ⟨s.toArray⟩, .pointer (some ⟨p, 0, none⟩)]) W1 ∧ Lk.Ext [] w W1 ∧
      (((Instr.lookup 52 (.map (some m')) (.string ⟨s.toArray⟩) true).run Try.prog W1 = .ok (.tuple #[.pointer none, .bool false]) W1 ∧ (x.files.all fun f => alike f y) = false) ∨
       ∃ q r, (Instr.lookup 52 (.map (some m')) (.string ⟨s.toArray⟩) true).run Try.prog W1 = .ok (.tuple #[.pointer (some ⟨q, 0, none⟩), .bool true]) W1 ∧
        (Calls Try.prog 52 #[.pointer (some ⟨p, 0, none⟩), .pointer (some ⟨q, 0, none⟩)] W1 fun e w' => e = .returned (.bool r) ∧ ∃ d, w' = { W1 with drawn := d }) ∧
        ((r = false ∧ (x.files.all fun f => alike f y) = false) ∨ (r = true ∧ ∀ d, Comparing w { W1 with drawn := d } y m es clock fl ∧ (leftOf es (({ W1 with drawn := d } : World).iterSeen w.heap.size)).size < (leftOf es (wr.iterSeen w.heap.size)).size))) := by
  obtain ⟨seen, h1, h2, h3, h4⟩ := hl
  have hml := h.lt m (by simp)
  have hm : wr.heap[m]? = some (.map es clock) := (h2.block m hml (by simp)).trans h.map
  obtain ⟨hk1, hk2⟩ := keys_names h
  have hiter : wr.iterSeen w.heap.size = seen := by unfold World.iterSeen; rw [h1]
  have hfo := files_of h
  rcases run_next_any (P := Try.prog) wr 0 w.heap.size m clock clock seen es clock h1 hm h.st.1 (Nat.le_refl _) with ⟨h0, hrun⟩ | ⟨e, he, n, hrun⟩
  · refine .inl ⟨fun _ => hrun, h2, ?_⟩
    have hall := all_seen es seen h0
    rw [List.all_eq_true]
    intro f hf
    have : f ∈ es.toList.map (fileOf fl) := by rw [hfo]; exact h.perm.mem_iff.1 hf
    obtain ⟨e, he, rfl⟩ := List.mem_map.1 this
    exact h4 e he (hall e he)
  · obtain ⟨hem, _⟩ := mem_left he
    obtain ⟨hkey, f, hf, hfn, hval⟩ := hk2 e hem
    have hfe := file_of h hf hfn
    let W1 := stepW wr w.heap.size m clock (seen.push e.born) clock n
    have hsz1 : W1.heap.size = wr.heap.size := stepW_size ..
    have hit1 : W1.heap[w.heap.size]? = some (.mapIter (some m) clock (seen.push e.born) clock) := heap_set_same _ h3
    have hot1 : ∀ k, k ≠ w.heap.size → W1.heap[k]? = wr.heap[k]? := fun k hk => heap_set_other _ hk
    have hm1 : W1.heap[m]? = some (.map es clock) := (hot1 m (by omega)).trans hm
    have hen := run_entry_any (P := Try.prog) W1 w.heap.size m clock seen es clock e hit1 hm1 hem h.st.2.1
    have hXs : Lk.Ext [w.heap.size] wr W1 := ⟨rfl, rfl, rfl, by rw [hsz1]; omega, fun k _ hk => hot1 k (fun e => hk (by simp [e]))⟩
    have hX1 : Lk.Ext [] w W1 := ext_tr h2 hXs (fun k hk => .inr (by have := List.mem_singleton.1 hk; omega))
    have hD' : DiskAt W1 y b' m' es' clock' fl' := h'.turn rfl (by rw [hX1.block _ (h'.lt _ (by simp)) (by simp)]; exact h'.head) (fun k hk => hX1.block k (h'.lt k (List.mem_cons_of_mem _ hk)) (by simp)) hX1.size
    have hD : DiskAt W1 x b m es clock fl := h.turn rfl (by rw [hX1.block _ (h.lt _ (by simp)) (by simp)]; exact h.head) (fun k hk => hX1.block k (h.lt k (List.mem_cons_of_mem _ hk)) (by simp)) hX1.size
    have hlk := hD'.lookup_ok f.1.name
    have hlook := at?_look h'.perm h'.unlike f.1.name
    have hmem : f.1 ∈ x.files := h.perm.mem_iff.2 (List.mem_map.2 ⟨f, hf, rfl⟩)
    refine .inr ⟨f.1.name, f.2.1, W1, ?_, ?_, hX1, ?_⟩
    · intro ty
      rw [show (Value.string ⟨f.1.name.toArray⟩) = e.key by rw [hkey, hfn]; rfl, ← hval]
      exact hrun
    · rw [hen, hval, hkey, hfn]; rfl
    · cases hg : at? fl' f.1.name with
      | none =>
        rw [hg] at hlk hlook
        refine .inl ⟨hlk, ?_⟩
        rw [Bool.eq_false_iff]
        intro ha
        have := List.all_eq_true.1 ha f.1 hmem
        unfold alike at this
        rw [hlook] at this
        cases this
      | some g =>
        rw [hg] at hlk hlook
        obtain ⟨va, g1, g2⟩ := hD.file f hf
        obtain ⟨vb, k1, k2⟩ := hD'.file g (at?_mem hg).1
        obtain ⟨a1, c1, rfl⟩ := g2.slice
        obtain ⟨a2, c2, rfl⟩ := k2.slice
        obtain ⟨u0, u1, _, _⟩ := two_cells g1
        obtain ⟨v0, v1, _, _⟩ := two_cells k1
        have hal : alike f.1 y = (f.1.synced == g.1.synced && f.1.bytes == g.1.bytes) := by
          unfold alike
          rw [hlook]
          rfl
        refine .inr ⟨g.2.1, alike f.1 y, hlk, ?_, ?_⟩
        · rw [hal]
          cases hz : f.1.synced == g.1.synced with
          | false => exact alike_ne W1 _ _ _ _ u1 v1 hz
          | true =>
            rw [Bool.true_and]
            exact alike_eq W1 _ _ _ _ u1 v1 hz _ _ _ _ _ _ _ _ u0 v0 (g2.rd fun _ _ => trivial) (k2.rd fun _ _ => trivial)
        · cases hr : alike f.1 y with
          | false =>
            refine .inl ⟨rfl, ?_⟩
            rw [Bool.eq_false_iff]
            intro ha
            have := List.all_eq_true.1 ha f.1 hmem
            rw [hr] at this
            cases this
          | true =>
            refine .inr ⟨rfl, fun d => ⟨⟨seen.push e.born, hit1, ⟨hX1.os, hX1.tape, hX1.output, hX1.size, hX1.block⟩, by show w.heap.size < W1.heap.size; omega, ?_⟩, ?_⟩⟩
            · intro e2 he2 hs2
              rw [contains_push] at hs2
              rcases Bool.or_eq_true_iff.1 hs2 with hs2 | hs2
              · exact h4 e2 he2 hs2
              · have : e2 = e := born_inj h.st.2.1 he2 hem (by simpa using hs2)
                rw [this, hfe]; exact hr
            · rw [hiter]
              have : ({ W1 with drawn := d } : World).iterSeen w.heap.size = seen.push e.born := by
                unfold World.iterSeen
                rw [show ({ W1 with drawn := d } : World).heap[w.heap.size]? = some (.mapIter (some m) clock (seen.push e.born) clock) from hit1]
              rw [this]
              exact left_shrinks es seen e he

set_option maxRecDepth 100000 in
set_option maxHeartbeats 1000000 in
theorem equalFunc_any (w : World) (x y : Lk.DiskS) (b m b' m' : Nat) (es es' : Array MapEntry) (clock clock' : Nat) (fl fl' : List Ent) (h : DiskAt w x b m es clock fl) (h' : DiskAt w y b' m' es' clock' fl') :
    Calls Try.prog 51 #[.map (some m), .map (some m'), .func (.func 52) #[] #[]] w fun e w' => e = .returned (.bool (decide (x.files.length = y.files.length) && x.files.all fun f => alike f y)) ∧ Lk.Ext [] w w' := by
  have hn1 := fun ty => h.len ty
  have hn2 := fun ty => h'.len ty
  have hr := run_range_map (P := Try.prog) w 52 _ _ m es clock Try.underlying52 h.map
  have hstart := Comparing.start w y m es clock fl
  have hround := fun wr => Comparing.round (wr := wr) h h'
  by_cases hlen : x.files.length = y.files.length
  · rw [decide_eq_true hlen, Bool.true_and]
    have hle : ¬ ((x.files.length : Int) ≠ y.files.length) := by omega
    generalize hall : (x.files.all fun f => alike f y) = r at hround ⊢
    go_enter Try.func51, Try.ntmps51
    go_wp2
    clear hn1 hn2 hr
    go_loopw [] (fun wr => Comparing w wr y m es clock fl) (fun wr => (leftOf es (wr.iterSeen w.heap.size)).size)
    case atStart => exact hstart
    case round =>
      rcases hround _ hrel with ⟨hnx, hX, rfl⟩ | ⟨s, p, W1, hnx, hen, hX, ⟨hlk, rfl⟩ | ⟨q, r1, hlk, hcl, ⟨rfl, rfl⟩ | ⟨rfl, hnext⟩⟩⟩
      · clear hrel hround hstart
        go_wp2
        go_ret
        exact ⟨rfl, hX⟩
      · clear hrel hround hstart
        go_wp2
        go_ret
        exact ⟨rfl, hX⟩
      · clear hrel hround hstart
        go_wp2_with (go_at_call 52; refine hcl.mono ?_; rintro e w3 ⟨rfl, d, rfl⟩)
        go_ret
        exact ⟨rfl, ext_drew hX d⟩
      · clear hrel hround hstart
        go_wp2_with (go_at_call 52; refine hcl.mono ?_; rintro e w3 ⟨rfl, d, rfl⟩)
        go_roundw
        case rel => exact (hnext d).1
        case measure => exact (hnext d).2
  · have hne : ((x.files.length : Int) == y.files.length) = false := by
      rw [Bool.eq_false_iff]
      intro h
      have := of_decide_eq_true h
      omega
    rw [decide_eq_false hlen, Bool.false_and]
    clear hround hstart hr
    go_enter Try.func51, Try.ntmps51
    go_wp2
    go_ret
    exact ⟨rfl, ext_refl _ _⟩

set_option maxRecDepth 100000 in
set_option maxHeartbeats 1000000 in
theorem same_any (w : World) (x y : Lk.DiskS) (b m b' m' : Nat) (es es' : Array MapEntry) (clock clock' : Nat) (fl fl' : List Ent) (h : DiskAt w x b m es clock fl) (h' : DiskAt w y b' m' es' clock' fl') (hg : Dk.Good x) (hg' : Dk.Good y) :
    Calls Try.prog 20 #[.pointer (some ⟨b, 0, none⟩), .pointer (some ⟨b', 0, none⟩)] w fun e w' => e = .returned (.bool (Dk.same x y)) ∧ Lk.Ext [] w w' := by
  obtain ⟨h0, _⟩ := h.cell
  obtain ⟨h1, _⟩ := h'.cell
  have hcl := equalFunc_any _ x y b m b' m' es es' clock clock' fl fl' (h.drawn (w.drawn + 1)) (h'.drawn (w.drawn + 1))
  rw [← same_alike hg hg'] at hcl
  have hnone := fun k (hk : ∃ mm, w.cell? ⟨k, 0, none⟩ = some (.map (some mm))) => none_any w k hk.choose hk.choose_spec
  go_enter Try.func20, Try.ntmps20
  go_wp2_with (go_at_call 35; refine (hnone _ (by first | exact ⟨_, h0⟩ | exact ⟨_, h1⟩)).mono ?_; rintro e w2 ⟨rfl, hw⟩; replace hw := hw.symm; subst hw)
  go_still_tail 8, (by kernel_rfl)
  go_wp2_with (go_at_call 51; refine hcl.mono ?_; rintro e w3 ⟨rfl, hX⟩)
  go_ret
  exact ⟨rfl, ⟨hX.os, hX.tape, hX.output, hX.size, hX.block⟩⟩
end Go.Proofs.Ytcfagjkijhjaoaa

/-! Disks, as L has them. -/
namespace Go.Proofs.Ytcfagjkijhjaoaa
open Go.RowKit

def kw : Lk.KW := ⟨fun _ => True, 0⟩

def ownD (w : World) (x : Lk.DiskS) (v : Value) (bs : List Nat) : Prop :=
  Dk.Good x ∧ ∃ b m es clock fl, v = .pointer (some ⟨b, 0, none⟩) ∧ bs = b :: m :: (fl.map blks).flatten ∧ DiskAt w x b m es clock fl

theorem DiskAt.keep {w w' : World} {x : Lk.DiskS} {b m : Nat} {es : Array MapEntry} {clock : Nat} {fl : List Ent} (h : DiskAt w x b m es clock fl) (hk : ∀ k ∈ b :: m :: (fl.map blks).flatten, w'.heap[k]? = w.heap[k]?) : DiskAt w' x b m es clock fl where
  head := by rw [hk b (by simp)]; exact h.head
  map := by rw [hk m (by simp)]; exact h.map
  ents := h.ents
  st := h.st
  perm := h.perm
  file f hf := (h.file f hf).keep fun k hk' => hk k (List.mem_cons_of_mem _ (List.mem_cons_of_mem _ (List.mem_flatten.2 ⟨blks f, List.mem_map.2 ⟨f, hf, rfl⟩, hk'⟩)))
  nodup := h.nodup
  lt k hk' := by
    have h1 := h.lt k hk'
    have h2 := hk k hk'
    rcases Nat.lt_or_ge k w'.heap.size with h3 | h3
    · exact h3
    · rw [Array.getElem?_eq_none h3, Array.getElem?_eq_getElem h1] at h2
      cases h2

def ax : Lk.Ax where
  own n w x v bs := match n, x with
    | 0, x => ownD w x v bs
    | _, _ => False
  keep {n w w' x v bs} h hb := by
    cases n with
    | zero =>
      obtain ⟨hg, b, m, es, clock, fl, h2, rfl, h4⟩ := h
      exact ⟨hg, b, m, es, clock, fl, h2, rfl, h4.keep hb⟩
    | succ n => exact h.elim
  lt {n w x v bs} h := by
    cases n with
    | zero =>
      obtain ⟨_, b, m, es, clock, fl, _, rfl, h4⟩ := h
      exact h4.lt
    | succ n => exact h.elim
  ptr {n w x v bs} h := by
    cases n with
    | zero => obtain ⟨_, b, m, es, clock, fl, h2, _⟩ := h; exact ⟨_, h2⟩
    | succ n => exact h.elim

theorem ads_cons {ads : List Lk.DV} {t : Lk.Ty} {m : Lk.Md} {x : Lk.E t} {rest : List Lk.AV} (h : ads.map Lk.DV.av = ⟨t, m, x⟩ :: rest) : ∃ sh ads', ads = ⟨t, m, x, sh⟩ :: ads' ∧ ads'.map Lk.DV.av = rest := by
  cases ads with
  | nil => cases h
  | cons d r =>
    obtain ⟨t', m', x', sh⟩ := d
    simp only [List.map_cons, Lk.DV.av, List.cons.injEq, Lk.AV.mk.injEq] at h
    obtain ⟨⟨rfl, rfl, hx⟩, hr⟩ := h
    obtain rfl := eq_of_heq hx
    exact ⟨sh, r, rfl, hr⟩
theorem ads_nil {ads : List Lk.DV} (h : ads.map Lk.DV.av = []) : ads = [] := List.map_eq_nil_iff.1 h

def plainP (qs : List (Lk.Ty × Lk.Md)) : Prop := ∀ p ∈ qs, Lk.isO p.2 = false

theorem not_owned {d : Lk.DV} (h : Lk.isO d.m = false) (hq : ∀ x y, d.m ≠ .q x y) : d.bl = [] := by
  obtain ⟨t, m, x, sh⟩ := d
  cases m with
  | o m => cases h
  | q m n => exact absurd rfl (hq m n)
  | _ => cases t <;> rfl

theorem mut_ok {g : FuncId} {qs : List (Lk.Ty × Lk.Md)} (hq : ∀ p ∈ qs, p.2 = .r ∨ p.2 = .b) {F : Lk.Tup ((.a 0, .o .r) :: qs) → Option (Lk.Tup [(.i .i64, .r), (.a 0, .o .r)])}
    (Hn : ∀ y, F (none, y) = none)
    (H : ∀ (d : Lk.DiskS) (y : Lk.Tup qs) (res : Lk.Tup [(.i .i64, .r), (.a 0, .o .r)]), F (some d, y) = some res → Dk.Good d → ∃ (r : Int) (d' : Lk.DiskS), res = (r, some d', ()) ∧ Lk.inR .i64 r ∧
      ∀ (w : World) (S : Nat → Prop) (ads : List Lk.DV) (b m : Nat) (es : Array MapEntry) (clock : Nat) (fl : List Ent), DiskAt w d b m es clock fl → ads.map Lk.DV.av = Lk.avs qs y → (∀ a ∈ ads, a.hold ax S S w) → (∀ k, S k → k < w.heap.size ∧ k ∉ b :: m :: (fl.map blks).flatten) →
        Dk.Good d' ∧ Calls Try.prog g (.pointer (some ⟨b, 0, none⟩) :: ads.map (Lk.DV.val ax)).toArray w fun e w' => e = .returned (.int .i64 r) ∧ Did w w' b m fl d') :
    Lk.FnOk (τ := ax) (Kw := kw) Try.prog g ⟨(.a 0, .o .r) :: qs, [(.i .i64, .r), (.a 0, .o .r)], 1⟩ F := by
  intro x res hx w S Sb ads hK hs ha hargs
  obtain ⟨od, y⟩ := x
  cases od with
  | none => exact absurd hx (by rw [Hn y]; simp)
  | some d =>
    obtain ⟨sh, ads2, rfl, ha2⟩ := ads_cons (show ads.map Lk.DV.av = ⟨.a 0, .o .r, some d⟩ :: Lk.avs qs y from ha)
    have hm2 : ∀ a ∈ ads2, (a.m = .r ∨ a.m = .b) := by
      intro a haa
      have h1 : a.av ∈ Lk.avs qs y := by rw [← ha2]; exact List.mem_map.2 ⟨a, haa, rfl⟩
      have : ∀ (qs : List (Lk.Ty × Lk.Md)) (y : Lk.Tup qs) (u : Lk.AV), u ∈ Lk.avs qs y → ∃ p ∈ qs, u.m = p.2 := by
        intro qs
        induction qs with
        | nil => intro y u hu; cases hu
        | cons p qs ih =>
          intro y u hu
          rcases List.mem_cons.1 hu with rfl | hu
          · exact ⟨p, by simp, rfl⟩
          · obtain ⟨q, hq, e⟩ := ih _ _ hu
            exact ⟨q, by simp [hq], e⟩
      obtain ⟨p, hp, e⟩ := this qs y _ h1
      rcases hq p hp with h | h
      · exact .inl (by rw [← h, ← e]; rfl)
      · exact .inr (by rw [← h, ← e]; rfl)
    have hbl2 : ∀ a ∈ ads2, a.bl = [] := fun a haa => not_owned (by rcases hm2 a haa with h | h <;> rw [h] <;> rfl) (fun p q e => by rcases hm2 a haa with h | h <;> rw [h] at e <;> cases e)
    have hbls : Lk.blsOf (⟨.a 0, .o .r, some d, sh⟩ :: ads2) = sh.2 := by
      have : Lk.blsOf ads2 = [] := by
        unfold Lk.blsOf
        rw [List.flatten_eq_nil_iff]
        intro l hl
        obtain ⟨a, haa, rfl⟩ := List.mem_map.1 hl
        exact hbl2 a haa
      rw [Lk.blsOf_cons, this, List.append_nil]
      rfl
    have hown : ownD w d sh.1 sh.2 := hargs.hold _ (List.mem_cons_self ..)
    obtain ⟨hg, b, m, es, clock, fl, h2, h3, hD⟩ := hown
    have hown2 := hargs.own
    rw [hbls, h3] at hown2
    obtain ⟨r, d', rfl, hr, hcall⟩ := H d y res hx hg
    have hh : ∀ a ∈ ads2, a.hold ax (fun b => S b ∨ Sb b) (fun b => S b ∨ Sb b) w := fun a haa => Lk.hold_keep ax (fun b hb => ⟨.inl hb, rfl⟩) (fun b hb => ⟨hb, rfl⟩) _ _ _ _ (fun _ _ => rfl) (hargs.hold a (List.mem_cons_of_mem _ haa))
    obtain ⟨hg', hcl⟩ := hcall w (fun b => S b ∨ Sb b) ads2 b m es clock fl hD ha2 hh (fun k hk => ⟨hs k hk, fun hm => (hown2 k hm).2 hk⟩)
    have hval : (List.map (Lk.DV.val ax) (⟨.a 0, .o .r, some d, sh⟩ :: ads2)).toArray = (.pointer (some ⟨b, 0, none⟩) :: ads2.map (Lk.DV.val ax)).toArray := by
      rw [← h2]; rfl
    rw [hval]
    refine hcl.mono ?_
    rintro e w' ⟨rfl, es', clock', fl', hD', hE, hN⟩
    have hbs' : ∀ k ∈ b :: m :: (fl'.map blks).flatten, (k ∈ b :: m :: (fl.map blks).flatten ∨ w.heap.size ≤ k) := by
      intro k hk
      simp only [List.mem_cons] at hk
      rcases hk with rfl | rfl | hk
      · exact .inl (by simp)
      · exact .inl (by simp)
      · rcases hN k hk with h | h
        · exact .inl (by simp [h])
        · exact .inr h
    refine ⟨_, rfl, by rw [hbls, h3]; exact hE, ⟨[⟨.i .i64, .r, r, ()⟩, ⟨.a 0, .o .r, some d', (.pointer (some ⟨b, 0, none⟩), b :: m :: (fl'.map blks).flatten)⟩], S, rfl, fun _ h => h, fun _ h => .inl h, fun k hk => Nat.lt_of_lt_of_le (hs k (.inl hk)) hE.size, ?_, ?_, ?_, rfl, ?_⟩⟩
    · intro a haa
      simp only [List.mem_cons, List.not_mem_nil, or_false] at haa
      rcases haa with rfl | rfl
      · exact ⟨rfl, hr⟩
      · exact ⟨hg', b, m, es', clock', fl', rfl, rfl, hD'⟩
    · show (b :: m :: (fl'.map blks).flatten ++ []).Nodup
      rw [List.append_nil]
      exact hD'.nodup
    · intro k hk
      have hk : k ∈ b :: m :: (fl'.map blks).flatten ++ [] := hk
      rw [List.append_nil] at hk
      refine ⟨?_, hD'.lt k hk, fun hS => ?_⟩
      · rw [hbls, h3]; exact hbs' k hk
      · rcases hbs' k hk with h | h
        · exact (hown2 k h).2 (.inl hS)
        · have := hs k (.inl hS); omega
    · have : (ads2.filter fun d => Lk.isO d.m) = [] := List.filter_eq_nil_iff.2 fun a haa => by rcases hm2 a haa with h | h <;> rw [h] <;> simp [Lk.isO]
      show [Value.pointer (some ⟨b, 0, none⟩)] = List.map (Lk.DV.val ax) ((⟨.a 0, .o .r, some d, sh⟩ : Lk.DV) :: (ads2.filter fun d => Lk.isO d.m))
      rw [this, ← h2]
      rfl
end Go.Proofs.Ytcfagjkijhjaoaa

/-! The disk's calls are what L is told. -/
namespace Go.Proofs.Ytcfagjkijhjaoaa
open Go.RowKit

theorem inR_code {r : Int} (h : 0 ≤ r ∧ r ≤ 52) : Lk.inR .i64 r := by
  constructor
  · show -9223372036854775808 ≤ r; omega
  · show r ≤ 9223372036854775807; omega

theorem ok_create (n : Nat) : Lk.FnOk (τ := ax) (Kw := kw) Try.prog 24 ⟨[(.a 0, .o .r), (.s, .r)], [(.i .i64, .r), (.a 0, .o .r)], 1⟩ (fun x => Dk.xCreate x.1 x.2.1) := by
  refine mut_ok (by simp) (fun _ => rfl) ?_
  rintro d ⟨s, _⟩ res hF hg
  refine ⟨_, _, (Option.some.inj hF).symm, inR_code (Dk.code_create d s), ?_⟩
  intro w S ads b m es clock fl hD ha hh hS
  obtain ⟨sh, ads', rfl, ha1⟩ := ads_cons ha
  obtain rfl := ads_nil ha1
  exact ⟨hg.create s, create_any w d b m es clock fl hD hg s⟩

theorem ok_sync (n : Nat) : Lk.FnOk (τ := ax) (Kw := kw) Try.prog 31 ⟨[(.a 0, .o .r), (.s, .r)], [(.i .i64, .r), (.a 0, .o .r)], 1⟩ (fun x => Dk.xSync x.1 x.2.1) := by
  refine mut_ok (by simp) (fun _ => rfl) ?_
  rintro d ⟨s, _⟩ res hF hg
  refine ⟨_, _, (Option.some.inj hF).symm, inR_code (Dk.code_sync d s), ?_⟩
  intro w S ads b m es clock fl hD ha hh hS
  obtain ⟨sh, ads', rfl, ha1⟩ := ads_cons ha
  obtain rfl := ads_nil ha1
  exact ⟨hg.sync s, sync_any w d b m es clock fl hD s⟩

theorem ok_remove (n : Nat) : Lk.FnOk (τ := ax) (Kw := kw) Try.prog 33 ⟨[(.a 0, .o .r), (.s, .r)], [(.i .i64, .r), (.a 0, .o .r)], 1⟩ (fun x => Dk.xRemove x.1 x.2.1) := by
  refine mut_ok (by simp) (fun _ => rfl) ?_
  rintro d ⟨s, _⟩ res hF hg
  refine ⟨_, _, (Option.some.inj hF).symm, inR_code (Dk.code_remove d s), ?_⟩
  intro w S ads b m es clock fl hD ha hh hS
  obtain ⟨sh, ads', rfl, ha1⟩ := ads_cons ha
  obtain rfl := ads_nil ha1
  exact ⟨hg.remove s, remove_any w d b m es clock fl hD hg s⟩

theorem ok_rename (n : Nat) : Lk.FnOk (τ := ax) (Kw := kw) Try.prog 32 ⟨[(.a 0, .o .r), (.s, .r), (.s, .r)], [(.i .i64, .r), (.a 0, .o .r)], 1⟩ (fun x => Dk.xRename x.1 x.2.1 x.2.2.1) := by
  refine mut_ok (by simp) (fun _ => rfl) ?_
  rintro d ⟨s, t, _⟩ res hF hg
  refine ⟨_, _, (Option.some.inj hF).symm, inR_code (Dk.code_rename d s t), ?_⟩
  intro w S ads b m es clock fl hD ha hh hS
  obtain ⟨sh, ads', rfl, ha1⟩ := ads_cons ha
  obtain ⟨sh2, ads2, rfl, ha2⟩ := ads_cons ha1
  obtain rfl := ads_nil ha2
  exact ⟨hg.rename s t, rename_any w d b m es clock fl hD hg s t⟩

theorem ok_setQuota (n : Nat) : Lk.FnOk (τ := ax) (Kw := kw) Try.prog 34 ⟨[(.a 0, .o .r), (.i .i64, .r)], [(.i .i64, .r), (.a 0, .o .r)], 1⟩ (fun x => Dk.xSetQuota x.1 x.2.1) := by
  refine mut_ok (by simp) (fun _ => rfl) ?_
  rintro d ⟨q, _⟩ res hF hg
  refine ⟨_, _, (Option.some.inj hF).symm, inR_code (Dk.code_setQuota d q), ?_⟩
  intro w S ads b m es clock fl hD ha hh hS
  obtain ⟨sh, ads', rfl, ha1⟩ := ads_cons ha
  obtain rfl := ads_nil ha1
  exact ⟨hg.setQuota q, setQuota_any w d b m es clock fl hD q⟩

theorem ok_refuse (n : Nat) : Lk.FnOk (τ := ax) (Kw := kw) Try.prog 23 ⟨[(.a 0, .o .r), (.i .i64, .r), (.i .i64, .r)], [(.i .i64, .r), (.a 0, .o .r)], 1⟩ (fun x => Dk.xRefuse x.1 x.2.1 x.2.2.1) := by
  refine mut_ok (by simp) (fun _ => rfl) ?_
  rintro d ⟨p, q, _⟩ res hF hg
  refine ⟨_, _, (Option.some.inj hF).symm, inR_code (Dk.code_refuse d p q), ?_⟩
  intro w S ads b m es clock fl hD ha hh hS
  obtain ⟨sh, ads', rfl, ha1⟩ := ads_cons ha
  obtain ⟨sh2, ads2, rfl, ha2⟩ := ads_cons ha1
  obtain rfl := ads_nil ha2
  have h1 : Lk.inR .i64 p := (hh _ (List.mem_cons_self ..)).2
  have h2 : Lk.inR .i64 q := (hh _ (List.mem_cons_of_mem _ (List.mem_cons_self ..))).2
  exact ⟨hg.refuse p q h1.2 h2.2, refuse_plan w d b m es clock fl hD p q⟩

theorem ok_append (n : Nat) : Lk.FnOk (τ := ax) (Kw := kw) Try.prog 25 ⟨[(.a 0, .o .r), (.s, .r), (.l .by, .b)], [(.i .i64, .r), (.a 0, .o .r)], 1⟩ (fun x => Dk.xAppend x.1 x.2.1 x.2.2.1) := by
  refine mut_ok (by simp) (fun _ => rfl) ?_
  rintro d ⟨s, y, _⟩ res hF hg
  refine ⟨_, _, (Option.some.inj hF).symm, inR_code (Dk.code_append d s y), ?_⟩
  intro w S ads b m es clock fl hD ha hh hS
  obtain ⟨sh, ads', rfl, ha1⟩ := ads_cons ha
  obtain ⟨sh2, ads2, rfl, ha2⟩ := ads_cons ha1
  obtain rfl := ads_nil ha2
  have hy : Lk.Rd ax S w (.l .by) y [sh2.hd] := hh _ (List.mem_cons_of_mem _ (List.mem_cons_self ..))
  obtain ⟨a, c, e1, _⟩ := id hy
  have e2 : sh2.hd = .slice a y.length c := by simpa using e1
  refine ⟨hg.append s y, ?_⟩
  have := append_any w d b m es clock fl hD hg s a y c (by rw [← e2]; exact hy) hS
  rw [← e2] at this
  exact this

theorem ok_crash (n : Nat) : Lk.FnOk (τ := ax) (Kw := kw) Try.prog 11 ⟨[(.a 0, .o .r), (.l (.i .i64), .b)], [(.i .i64, .r), (.a 0, .o .r)], 1⟩ (fun x => Dk.xCrash x.1 x.2.1) := by
  refine mut_ok (by simp) (fun _ => rfl) ?_
  rintro d ⟨k, _⟩ res hF hg
  refine ⟨_, _, (Option.some.inj hF).symm, inR_code (by simp [Dk.crash]), ?_⟩
  intro w S ads b m es clock fl hD ha hh hS
  obtain ⟨sh, ads', rfl, ha1⟩ := ads_cons ha
  obtain rfl := ads_nil ha1
  have hy : Lk.Rd ax S w (.l (.i .i64)) k [sh.hd] := hh _ (List.mem_cons_self ..)
  obtain ⟨a, c, e1, _, _, _, hr⟩ := id hy
  have e2 : sh.hd = .slice a (List.length (α := Int) k) c := by simpa using e1
  refine ⟨hg.crash k, ?_⟩
  have := crash_any w d b m es clock fl hD hg k a c _ rfl (by
    intro hk
    rcases hr with rfl | ⟨kb, off, C, e, f, rfl, hSb, hC, hc⟩
    · exact absurd rfl hk
    · refine ⟨kb, off, rfl, (hS kb hSb).1, (hS kb hSb).2, fun i v hi => ?_⟩
      have h1 := (hc i v hi).1
      have h1 : Lk.win C.toList (off + i * 1) 1 = [.int .i64 v] := h1
      rw [Nat.mul_one] at h1
      have h2 := win_one_inv h1
      unfold World.cell?
      simp only [hC]
      simpa using h2)
  rw [← e2] at this
  exact this
end Go.Proofs.Ytcfagjkijhjaoaa

/-! The disk's questions are what L is told. -/
namespace Go.Proofs.Ytcfagjkijhjaoaa
open Go.RowKit

theorem disk_b {S Sb : Nat → Prop} {w : World} {d : Lk.DiskS} {sh : Lk.Sh (.a 0)} (h : Lk.DV.hold ax S Sb w ⟨.a 0, .b, some d, sh⟩) :
    Dk.Good d ∧ ∃ b m es clock fl, sh.1 = .pointer (some ⟨b, 0, none⟩) ∧ DiskAt w d b m es clock fl := by
  obtain ⟨v, bs, e1, _, ho⟩ := h
  obtain ⟨hg, b, m, es, clock, fl, h2, h3, h4⟩ := (ho : ownD w d v bs)
  refine ⟨hg, b, m, es, clock, fl, ?_, h4⟩
  have : sh.1 = v := by simpa [Lk.cells] using e1
  rw [this, h2]

theorem res_ok {w w' : World} {S : Nat → Prop} {B : List Nat} {us : List Lk.AV} {nr : Nat} {ads : List Lk.DV} {v : Value} (rds : List Lk.DV) (h1 : rds.map Lk.DV.av = us) (hS : ∀ b, S b → b < w.heap.size) (hsz : w.heap.size ≤ w'.heap.size)
    (hh : ∀ d ∈ rds, d.hold ax S S w') (hn : (Lk.blsOf rds).Nodup) (hb : ∀ b ∈ Lk.blsOf rds, w.heap.size ≤ b ∧ b < w'.heap.size) (hv : v = Lk.resV (τ := ax) (rds.take nr)) (hd : rds.drop nr = []) (ha : (ads.filter fun d => Lk.isO d.m) = []) :
    Lk.ResAre (τ := ax) w w' S B us nr ads v :=
  ⟨⟨rds, S, h1, fun _ h => h, fun _ h => .inl h, fun b hb => Nat.lt_of_lt_of_le (hS b hb) hsz, hh, hn, fun b hk => ⟨.inr (hb b hk).1, (hb b hk).2, fun hs => by have := hS b hs; have := (hb b hk).1; omega⟩, hv, by rw [hd, ha]⟩⟩

theorem ok_used (n : Nat) : Lk.FnOk (τ := ax) (Kw := kw) Try.prog 15 ⟨[(.a 0, .b)], [(.i .i64, .r)], 1⟩ (fun x => Dk.xUsed x.1) := by
  rintro ⟨od, _⟩ res hx w S Sb ads hK hs ha hargs
  cases od with
  | none => cases hx
  | some d =>
    cases hx
    obtain ⟨sh, ads', rfl, ha1⟩ := ads_cons ha
    obtain rfl := ads_nil ha1
    obtain ⟨hg, b, m, es, clock, fl, e, hD⟩ := disk_b (hargs.hold _ (List.mem_cons_self ..))
    refine (show Calls Try.prog 15 #[sh.1] w _ from ?_)
    rw [e]
    refine (used_any w d b m es clock fl hD).mono ?_
    rintro e w' ⟨rfl, rfl⟩
    refine ⟨_, rfl, ext_refl _ _, res_ok [⟨.i .i64, .r, d.used, ()⟩] rfl (fun b hb => hs b (.inl hb)) (Nat.le_refl _) ?_ (by simp [Lk.blsOf, Lk.DV.bl, Lk.bl]) (by simp [Lk.blsOf, Lk.DV.bl, Lk.bl]) rfl rfl rfl⟩
    intro a haa
    obtain rfl := List.mem_singleton.1 haa
    have h1 := hg.used ▸ Dk.total_nonneg d.files
    have h2 := hg.most
    exact ⟨rfl, by show -9223372036854775808 ≤ d.used; omega, by show d.used ≤ 9223372036854775807; omega⟩

theorem ok_quota (n : Nat) : Lk.FnOk (τ := ax) (Kw := kw) Try.prog 22 ⟨[(.a 0, .b)], [(.i .i64, .r)], 1⟩ (fun x => Dk.xQuota x.1) := by
  rintro ⟨od, _⟩ res hx w S Sb ads hK hs ha hargs
  cases od with
  | none => cases hx
  | some d =>
    cases hx
    obtain ⟨sh, ads', rfl, ha1⟩ := ads_cons ha
    obtain rfl := ads_nil ha1
    obtain ⟨hg, b, m, es, clock, fl, e, hD⟩ := disk_b (hargs.hold _ (List.mem_cons_self ..))
    refine (show Calls Try.prog 22 #[sh.1] w _ from ?_)
    rw [e]
    refine (quota_any w d b m es clock fl hD).mono ?_
    rintro e w' ⟨rfl, rfl⟩
    refine ⟨_, rfl, ext_refl _ _, res_ok [⟨.i .i64, .r, d.quota, ()⟩] rfl (fun b hb => hs b (.inl hb)) (Nat.le_refl _) ?_ (by simp [Lk.blsOf, Lk.DV.bl, Lk.bl]) (by simp [Lk.blsOf, Lk.DV.bl, Lk.bl]) rfl rfl rfl⟩
    intro a haa
    obtain rfl := List.mem_singleton.1 haa
    have h1 := hg.quota
    exact ⟨rfl, by show -9223372036854775808 ≤ d.quota; omega, by show d.quota ≤ 9223372036854775807; omega⟩

theorem ok_refused (n : Nat) : Lk.FnOk (τ := ax) (Kw := kw) Try.prog 21 ⟨[(.a 0, .b)], [(.i .i64, .r)], 1⟩ (fun x => Dk.xRefused x.1) := by
  rintro ⟨od, _⟩ res hx w S Sb ads hK hs ha hargs
  cases od with
  | none => cases hx
  | some d =>
    cases hx
    obtain ⟨sh, ads', rfl, ha1⟩ := ads_cons ha
    obtain rfl := ads_nil ha1
    obtain ⟨hg, b, m, es, clock, fl, e, hD⟩ := disk_b (hargs.hold _ (List.mem_cons_self ..))
    refine (show Calls Try.prog 21 #[sh.1] w _ from ?_)
    rw [e]
    refine (refused_any w d b m es clock fl hD).mono ?_
    rintro e w' ⟨rfl, rfl⟩
    refine ⟨_, rfl, ext_refl _ _, res_ok [⟨.i .i64, .r, d.refused, ()⟩] rfl (fun b hb => hs b (.inl hb)) (Nat.le_refl _) ?_ (by simp [Lk.blsOf, Lk.DV.bl, Lk.bl]) (by simp [Lk.blsOf, Lk.DV.bl, Lk.bl]) rfl rfl rfl⟩
    intro a haa
    obtain rfl := List.mem_singleton.1 haa
    have h1 := hg.refused
    exact ⟨rfl, h1.1, h1.2⟩

theorem ok_size (n : Nat) : Lk.FnOk (τ := ax) (Kw := kw) Try.prog 14 ⟨[(.a 0, .b), (.s, .r)], [(.i .i64, .r), (.i .i64, .r), (.i .i64, .r)], 3⟩ (fun x => Dk.xSize x.1 x.2.1) := by
  rintro ⟨od, s, _⟩ res hx w S Sb ads hK hs ha hargs
  cases od with
  | none => cases hx
  | some d =>
    cases hx
    obtain ⟨sh, ads', rfl, ha1⟩ := ads_cons ha
    obtain ⟨sh2, ads2, rfl, ha2⟩ := ads_cons ha1
    obtain rfl := ads_nil ha2
    obtain ⟨hg, b, m, es, clock, fl, e, hD⟩ := disk_b (hargs.hold _ (List.mem_cons_self ..))
    refine (show Calls Try.prog 14 #[sh.1, .string ⟨(s : List UInt8).toArray⟩] w _ from ?_)
    rw [e]
    refine (size_any w d b m es clock fl hD s).mono ?_
    rintro e w' ⟨rfl, hE⟩
    refine ⟨_, rfl, hE, res_ok [⟨.i .i64, .r, (Dk.size d s).1, ()⟩, ⟨.i .i64, .r, (Dk.size d s).2.1, ()⟩, ⟨.i .i64, .r, (Dk.size d s).2.2, ()⟩] rfl (fun b hb => hs b (.inl hb)) hE.size ?_ (by simp [Lk.blsOf, Lk.DV.bl, Lk.bl]) (by simp [Lk.blsOf, Lk.DV.bl, Lk.bl]) rfl rfl rfl⟩
    have h1 : (0 ≤ (Dk.size d s).1 ∧ (Dk.size d s).1 ≤ 9223372036854775807) ∧ (0 ≤ (Dk.size d s).2.1 ∧ (Dk.size d s).2.1 ≤ 9223372036854775807) ∧ (0 ≤ (Dk.size d s).2.2 ∧ (Dk.size d s).2.2 ≤ 52) := by
      unfold Dk.size
      split
      · split
        · simp
        · rename_i f hf
          obtain ⟨hm, _⟩ := Dk.look_some hf
          have h2 := hg.synced f hm
          have h3 := len_total hm
          have h4 := hg.most
          rw [← hg.used] at h3
          simp only []
          omega
      · simp
    intro a haa
    simp only [List.mem_cons, List.not_mem_nil, or_false] at haa
    rcases haa with rfl | rfl | rfl
    · exact ⟨rfl, by show -9223372036854775808 ≤ (Dk.size d s).1; omega, h1.1.2⟩
    · exact ⟨rfl, by show -9223372036854775808 ≤ (Dk.size d s).2.1; omega, h1.2.1.2⟩
    · exact ⟨rfl, inR_code h1.2.2⟩

theorem ok_list (n : Nat) : Lk.FnOk (τ := ax) (Kw := kw) Try.prog 12 ⟨[(.a 0, .b)], [(.l .s, .o .r)], 1⟩ (fun x => Dk.xList x.1) := by
  rintro ⟨od, _⟩ res hx w S Sb ads hK hs ha hargs
  cases od with
  | none => cases hx
  | some d =>
    cases hx
    obtain ⟨sh, ads', rfl, ha1⟩ := ads_cons ha
    obtain rfl := ads_nil ha1
    obtain ⟨hg, b, m, es, clock, fl, e, hD⟩ := disk_b (hargs.hold _ (List.mem_cons_self ..))
    refine (show Calls Try.prog 12 #[sh.1] w _ from ?_)
    rw [e]
    refine (list_any w d b m es clock fl hD hg).mono ?_
    rintro e w' ⟨v, bb, rfl, hS, hE, hN⟩
    obtain ⟨shv, rfl, hh, hbl⟩ := hS.hold (τ := ax) (S := S) (Sb := S) (by
      intro s hs2
      obtain ⟨f, hf, rfl⟩ := List.mem_map.1 hs2
      have := (hg.name f hf).2
      unfold Lk.big; omega)
    have hbls : Lk.blsOf [(⟨.l .s, .o .r, Dk.list d, shv⟩ : Lk.DV)] = bb.toList := by
      rw [Lk.blsOf_cons]
      show Lk.bl (.l .s) (.o .r) (Dk.list d) shv ++ [] = _
      rw [List.append_nil, hbl]
    refine ⟨_, rfl, hE, res_ok [⟨.l .s, .o .r, Dk.list d, shv⟩] rfl (fun b hb => hs b (.inl hb)) hE.size ?_ (by rw [hbls]; cases bb <;> simp) (by rw [hbls]; exact hN) rfl rfl rfl⟩
    intro a haa
    obtain rfl := List.mem_singleton.1 haa
    exact hh

theorem ok_read (n : Nat) : Lk.FnOk (τ := ax) (Kw := kw) Try.prog 26 ⟨[(.a 0, .b), (.s, .r), (.i .i64, .r), (.i .i64, .r)], [(.l .by, .o .r), (.i .i64, .r)], 2⟩ (fun x => Dk.xRead x.1 x.2.1 x.2.2.1 x.2.2.2.1) := by
  rintro ⟨od, s, p, q, _⟩ res hx w S Sb ads hK hs ha hargs
  cases od with
  | none => cases hx
  | some d =>
    cases hx
    obtain ⟨sh, ads', rfl, ha1⟩ := ads_cons ha
    obtain ⟨sh2, ads2, rfl, ha2⟩ := ads_cons ha1
    obtain ⟨sh3, ads3, rfl, ha3⟩ := ads_cons ha2
    obtain ⟨sh4, ads4, rfl, ha4⟩ := ads_cons ha3
    obtain rfl := ads_nil ha4
    obtain ⟨hg, b, m, es, clock, fl, e, hD⟩ := disk_b (hargs.hold _ (List.mem_cons_self ..))
    have hq : Lk.inR .i64 q := (hargs.hold _ (List.mem_cons_of_mem _ (List.mem_cons_of_mem _ (List.mem_cons_of_mem _ (List.mem_cons_self ..))))).2
    refine (show Calls Try.prog 26 #[sh.1, .string ⟨(s : List UInt8).toArray⟩, .int .i64 p, .int .i64 q] w _ from ?_)
    rw [e]
    refine (read_any w d b m es clock fl hD hg s p q hq.2).mono ?_
    rintro e w' ⟨v, bb, rfl, hS, hE, hN⟩
    obtain ⟨shv, rfl, hh, hbl⟩ := hS.hold (τ := ax) (S := S) (Sb := S)
    have hbls : Lk.blsOf [(⟨.l .by, .o .r, (Dk.read d s p q).1, shv⟩ : Lk.DV), ⟨.i .i64, .r, (Dk.read d s p q).2, ()⟩] = bb.toList := by
      rw [Lk.blsOf_cons]
      show Lk.bl (.l .by) (.o .r) (Dk.read d s p q).1 shv ++ [] = _
      rw [List.append_nil, hbl]
    refine ⟨_, rfl, hE, res_ok [⟨.l .by, .o .r, (Dk.read d s p q).1, shv⟩, ⟨.i .i64, .r, (Dk.read d s p q).2, ()⟩] rfl (fun b hb => hs b (.inl hb)) hE.size ?_ (by rw [hbls]; cases bb <;> simp) (by rw [hbls]; exact hN) rfl rfl rfl⟩
    intro a haa
    simp only [List.mem_cons, List.not_mem_nil, or_false] at haa
    rcases haa with rfl | rfl
    · exact hh
    · exact ⟨rfl, inR_code (Dk.code_read d s p q)⟩

theorem disk_fresh {w' : World} {x : Lk.DiskS} {b m : Nat} {es : Array MapEntry} {clock : Nat} {fl : List Ent} {S : Nat → Prop} (h : DiskAt w' x b m es clock fl) (hg : Dk.Good x) :
    Lk.DV.hold ax S S w' ⟨.a 0, .o .r, some x, (.pointer (some ⟨b, 0, none⟩), b :: m :: (fl.map blks).flatten)⟩ := ⟨hg, b, m, es, clock, fl, rfl, rfl, h⟩

theorem ok_clone (n : Nat) : Lk.FnOk (τ := ax) (Kw := kw) Try.prog 10 ⟨[(.a 0, .b)], [(.a 0, .o .r)], 1⟩ (fun x => Dk.xClone x.1) := by
  rintro ⟨od, _⟩ res hx w S Sb ads hK hs ha hargs
  cases od with
  | none => cases hx
  | some d =>
    cases hx
    obtain ⟨sh, ads', rfl, ha1⟩ := ads_cons ha
    obtain rfl := ads_nil ha1
    obtain ⟨hg, b, m, es, clock, fl, e, hD⟩ := disk_b (hargs.hold _ (List.mem_cons_self ..))
    refine (show Calls Try.prog 10 #[sh.1] w _ from ?_)
    rw [e]
    refine (clone_any w d b m es clock fl hD hg).mono ?_
    rintro e w' ⟨rfl, es', clock', fl', hD', hN, hE⟩
    refine ⟨_, rfl, hE, res_ok [⟨.a 0, .o .r, some d, (.pointer (some ⟨w.heap.size, 0, none⟩), w.heap.size :: (w.heap.size + 1) :: (fl'.map blks).flatten)⟩] rfl (fun b hb => hs b (.inl hb)) hE.size ?_ ?_ ?_ rfl rfl rfl⟩
    · intro a haa
      obtain rfl := List.mem_singleton.1 haa
      exact disk_fresh hD' hg
    · show (w.heap.size :: (w.heap.size + 1) :: (fl'.map blks).flatten ++ []).Nodup
      rw [List.append_nil]
      exact hD'.nodup
    · intro k hk
      have hk : k ∈ w.heap.size :: (w.heap.size + 1) :: (fl'.map blks).flatten ++ [] := hk
      rw [List.append_nil] at hk
      refine ⟨?_, hD'.lt k hk⟩
      simp only [List.mem_cons] at hk
      rcases hk with rfl | rfl | hk
      · exact Nat.le_refl _
      · omega
      · exact hN k hk

theorem ok_new (n : Nat) : Lk.FnOk (τ := ax) (Kw := kw) Try.prog 8 ⟨[(.i .i64, .r)], [(.a 0, .o .r), (.i .i64, .r)], 2⟩ (fun x => Dk.xNew x.1) := by
  rintro ⟨q, _⟩ res hx w S Sb ads hK hs ha hargs
  cases hx
  obtain ⟨sh, ads', rfl, ha1⟩ := ads_cons ha
  obtain rfl := ads_nil ha1
  refine (show Calls Try.prog 8 #[.int .i64 q] w _ from ?_)
  by_cases hq : (0 : Int) ≤ q ∧ (q : Int) ≤ 268435456
  · rw [if_pos hq, if_pos hq]
    refine (new_ok w q hq).mono ?_
    rintro e w' ⟨rfl, rfl⟩
    have hD := new_at w q
    refine ⟨_, rfl, ext_alloc (ext_alloc (ext_refl _ _) _) _, res_ok [⟨.a 0, .o .r, some ⟨[], q, 0, 0, 0, 0⟩, (.pointer (some ⟨w.heap.size + 1, 0, none⟩), [w.heap.size + 1, w.heap.size])⟩, ⟨.i .i64, .r, (0 : Int), ()⟩] rfl (fun b hb => hs b (.inl hb)) (by rw [alloc_size, alloc_size]; omega) ?_ ?_ ?_ rfl rfl rfl⟩
    · intro a haa
      simp only [List.mem_cons, List.not_mem_nil, or_false] at haa
      rcases haa with rfl | rfl
      · exact disk_fresh hD (Dk.Good.new hq)
      · exact ⟨rfl, inR_code (by simp)⟩
    · show [w.heap.size + 1, w.heap.size].Nodup
      simp
    · intro k hk
      have hk : k ∈ [w.heap.size + 1, w.heap.size] := hk
      simp only [List.mem_cons, List.not_mem_nil, or_false] at hk
      rw [alloc_size, alloc_size]
      omega
  · rw [if_neg hq, if_neg hq]
    refine (new_bad w q hq).mono ?_
    rintro e w' ⟨rfl, rfl⟩
    refine ⟨_, rfl, ext_refl _ _, res_ok [⟨.a 0, .o .r, none, (.pointer none, [])⟩, ⟨.i .i64, .r, (2 : Int), ()⟩] rfl (fun b hb => hs b (.inl hb)) (Nat.le_refl _) ?_ ?_ ?_ rfl rfl rfl⟩
    · intro a haa
      simp only [List.mem_cons, List.not_mem_nil, or_false] at haa
      rcases haa with rfl | rfl
      · exact ⟨rfl, rfl⟩
      · exact ⟨rfl, inR_code (by simp)⟩
    · exact List.nodup_nil
    · intro k hk; cases hk

set_option maxHeartbeats 400000 in
theorem none_nil (w : World) : Calls Try.prog 35 #[.pointer none] w fun e w' => e = .returned (.bool true) ∧ w' = w := by
  go_enter Try.func35, Try.ntmps35
  go_wp2
  go_ret
  exact ⟨rfl, rfl⟩

set_option maxHeartbeats 400000 in
theorem same_nil (w : World) (x : Lk.DiskS) (b m : Nat) (es : Array MapEntry) (clock : Nat) (fl : List Ent) (h : DiskAt w x b m es clock fl) :
    Calls Try.prog 20 #[.pointer (some ⟨b, 0, none⟩), .pointer none] w fun e w' => e = .returned (.bool false) ∧ w' = w := by
  obtain ⟨h0, _⟩ := h.cell
  have hb : ∀ a : Option Addr, a = none ∨ a = some ⟨b, 0, none⟩ → Calls Try.prog 35 #[.pointer a] w fun e w' => e = .returned (.bool a.isNone) ∧ w' = w := by
    rintro a (rfl | rfl)
    · exact none_nil w
    · exact none_any w b m h0
  clear h h0
  go_enter Try.func20, Try.ntmps20
  go_wp2_with (go_at_call 35; refine (hb _ (by first | exact .inl rfl | exact .inr rfl)).mono ?_; rintro e w2 ⟨rfl, hw⟩; replace hw := hw.symm; subst hw)
  go_ret
  exact ⟨rfl, rfl⟩

theorem ok_same (n : Nat) : Lk.FnOk (τ := ax) (Kw := kw) Try.prog 20 ⟨[(.a 0, .b), (.a 0, .b)], [(.b, .r)], 1⟩ (fun x => Dk.xSame x.1 x.2.1) := by
  rintro ⟨od, oe, _⟩ res hx w S Sb ads hK hs ha hargs
  cases od with
  | none => cases hx
  | some d =>
    cases hx
    obtain ⟨sh, ads', rfl, ha1⟩ := ads_cons ha
    obtain ⟨sh2, ads2, rfl, ha2⟩ := ads_cons ha1
    obtain rfl := ads_nil ha2
    obtain ⟨hg, b, m, es, clock, fl, e, hD⟩ := disk_b (hargs.hold _ (List.mem_cons_self ..))
    refine (show Calls Try.prog 20 #[sh.1, sh2.1] w _ from ?_)
    rw [e]
    cases oe with
    | none =>
      have h2 := hargs.hold _ (List.mem_cons_of_mem _ (List.mem_cons_self ..))
      obtain ⟨v, bs, e1, _, e2, _⟩ := h2
      have e3 : sh2.1 = .pointer none := by
        have : sh2.1 = v := by simpa [Lk.cells] using e1
        rw [this, e2]
      rw [e3]
      refine (same_nil w d b m es clock fl hD).mono ?_
      rintro e w' ⟨rfl, rfl⟩
      refine ⟨_, rfl, ext_refl _ _, res_ok [⟨.b, .r, false, ()⟩] rfl (fun b hb => hs b (.inl hb)) (Nat.le_refl _) ?_ (by simp [Lk.blsOf, Lk.DV.bl, Lk.bl]) (by simp [Lk.blsOf, Lk.DV.bl, Lk.bl]) rfl rfl rfl⟩
      intro a haa
      obtain rfl := List.mem_singleton.1 haa
      rfl
    | some d2 =>
      obtain ⟨hg2, b2, m2, es2, clock2, fl2, e3, hD2⟩ := disk_b (hargs.hold _ (List.mem_cons_of_mem _ (List.mem_cons_self ..)))
      rw [e3]
      refine (same_any w d d2 b m b2 m2 es es2 clock clock2 fl fl2 hD hD2 hg hg2).mono ?_
      rintro e w' ⟨rfl, hE⟩
      refine ⟨_, rfl, hE, res_ok [⟨.b, .r, Dk.same d d2, ()⟩] rfl (fun b hb => hs b (.inl hb)) hE.size ?_ (by simp [Lk.blsOf, Lk.DV.bl, Lk.bl]) (by simp [Lk.blsOf, Lk.DV.bl, Lk.bl]) rfl rfl rfl⟩
      intro a haa
      obtain rfl := List.mem_singleton.1 haa
      rfl
end Go.Proofs.Ytcfagjkijhjaoaa

/-! disk.New at a bad quota, where the disk's type is told with its parts. -/
namespace Go.Proofs.Ytcfagjkijhjaoaa
open Go.RowKit

theorem ok_newBad {T : Lk.Ty} {m : Lk.Md} (n : Nat) : Lk.FnOk (τ := ax) (Kw := kw) Try.prog 8 ⟨[(.i .i64, .r)], [(.p T, .o m), (.i .i64, .r)], 2⟩ (fun x => if 0 ≤ x.1 ∧ x.1 ≤ 268435456 then none else some (none, 2, ())) := by
  rintro ⟨q, _⟩ res hx w S Sb ads hK hs ha hargs
  obtain ⟨sh, ads', rfl, ha1⟩ := ads_cons ha
  obtain rfl := ads_nil ha1
  refine (show Calls Try.prog 8 #[.int .i64 q] w _ from ?_)
  by_cases hq : (0 : Int) ≤ q ∧ (q : Int) ≤ 268435456
  · simp only [if_pos hq] at hx
    cases hx
  · simp only [if_neg hq] at hx
    cases hx
    refine (new_bad w q hq).mono ?_
    rintro e w' ⟨rfl, rfl⟩
    refine ⟨_, rfl, ext_refl _ _, res_ok [⟨.p T, .o m, none, none⟩, ⟨.i .i64, .r, (2 : Int), ()⟩] rfl (fun b hb => hs b (.inl hb)) (Nat.le_refl _) ?_ ?_ ?_ rfl rfl rfl⟩
    · intro a haa
      simp only [List.mem_cons, List.not_mem_nil, or_false] at haa
      rcases haa with rfl | rfl
      · exact trivial
      · exact ⟨rfl, inR_code (by simp)⟩
    · exact List.nodup_nil
    · intro k hk; cases hk
end Go.Proofs.Ytcfagjkijhjaoaa

