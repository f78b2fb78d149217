/- A nil set and an empty struct: every call of them answers as the document says, whatever comes in; a set begun with one empty level has one version. Conditions: the given card's own. -/
import Derived.Test.YtdpmeeflhnijkacGreatDoorRows
import Derived.WalkKit
import Derived.WalkSpells
import Derived.WalkLawsBesides
import Derived.Test.YtdpmeeflhnijkacGreatDoorCards
import Derived.Test.YtdpmeeflhnijkacGreatDoorTie
import Derived.ProofKit
import Derived.OpenShut
import Derived.JoinedCond
import Derived.Deep.DeepHandedRow
import Derived.Lib.LaidTab
set_option linter.all false
namespace Go.Proofs.YtdpmeeflhnijkacGreatDoor
open Go.RowKit

/-- A set that no call gave: nil, or an empty struct. -/
def Nn (w : World) (v : Value) : Prop := v = .pointer none ∨ ∃ b, v = .pointer (some ⟨b, 0, none⟩) ∧ w.cell? ⟨b, 0, none⟩ = some (.map none)

set_option maxHeartbeats 400000 in
theorem none_nil (w : World) (v : Value) (h : Nn w v) : Calls Tryz.prog 16 #[v] w fun e w' => e = .returned (.bool true) ∧ w' = w := by
  have q26 : ∀ (w : World) (r : Option Nat), (binOp .eql 26 (.map r) (.map none)).run Tryz.prog w = .ok (.bool r.isNone) w := fun w r => run_eql_map_nil w _ _ _ r Tryz.underlying26
  rcases h with rfl | ⟨b, rfl, h⟩
  · go_enter Tryz.func16, Tryz.ntmps16
    go_wp2
    go_ret
    exact ⟨rfl, rfl⟩
  · go_enter Tryz.func16, Tryz.ntmps16
    go_wp2
    go_ret
    exact ⟨rfl, rfl⟩

set_option maxHeartbeats 400000 in
theorem c4 (w : World) (v : Value) (h : Nn w v)  : Calls Tryz.prog 4 #[v] w fun e w' => e = .returned (.tuple #[.int .i64 0, .slice none 0 0]) ∧ w' = w := by
  go_enter Tryz.func4, Tryz.ntmps4
  go_wp2_with (go_at_call 16; refine (none_nil _ _ h).mono ?_; rintro e w2 ⟨rfl, rfl⟩)
  go_ret2
  exact ⟨rfl, rfl⟩

set_option maxHeartbeats 400000 in
theorem c5 (w : World) (v : Value) (h : Nn w v) (k : Int) : Calls Tryz.prog 5 #[v, .int .i64 k] w fun e w' => e = .returned (.tuple #[.slice none 0 0, .int .i64 1]) ∧ w' = w := by
  go_enter Tryz.func5, Tryz.ntmps5
  go_wp2_with (go_at_call 16; refine (none_nil _ _ h).mono ?_; rintro e w2 ⟨rfl, rfl⟩)
  go_ret2
  exact ⟨rfl, rfl⟩

set_option maxHeartbeats 400000 in
theorem c6 (w : World) (v : Value) (h : Nn w v) (x : Option Addr) (n c : Nat) : Calls Tryz.prog 6 #[v, .slice x n c] w fun e w' => e = .returned (.int .i64 0) ∧ w' = w := by
  go_enter Tryz.func6, Tryz.ntmps6
  go_wp2_with (go_at_call 16; refine (none_nil _ _ h).mono ?_; rintro e w2 ⟨rfl, rfl⟩)
  go_ret
  exact ⟨rfl, rfl⟩

set_option maxHeartbeats 400000 in
theorem c7 (w : World) (v : Value) (h : Nn w v)  : Calls Tryz.prog 7 #[v] w fun e w' => e = .returned (.int .i64 0) ∧ w' = w := by
  go_enter Tryz.func7, Tryz.ntmps7
  go_wp2_with (go_at_call 16; refine (none_nil _ _ h).mono ?_; rintro e w2 ⟨rfl, rfl⟩)
  go_ret
  exact ⟨rfl, rfl⟩

set_option maxHeartbeats 400000 in
theorem c8 (w : World) (v : Value) (h : Nn w v) (k : Int) : Calls Tryz.prog 8 #[v, .int .i64 k] w fun e w' => e = .returned (.int .i64 1) ∧ w' = w := by
  go_enter Tryz.func8, Tryz.ntmps8
  go_wp2_with (go_at_call 16; refine (none_nil _ _ h).mono ?_; rintro e w2 ⟨rfl, rfl⟩)
  go_ret
  exact ⟨rfl, rfl⟩

set_option maxHeartbeats 400000 in
theorem c9 (w : World) (v : Value) (h : Nn w v) (k : Int) : Calls Tryz.prog 9 #[v, .int .i64 k] w fun e w' => e = .returned (.int .i64 0) ∧ w' = w := by
  go_enter Tryz.func9, Tryz.ntmps9
  go_wp2_with (go_at_call 16; refine (none_nil _ _ h).mono ?_; rintro e w2 ⟨rfl, rfl⟩)
  go_ret
  exact ⟨rfl, rfl⟩

set_option maxHeartbeats 400000 in
theorem c10 (w : World) (v : Value) (h : Nn w v)  : Calls Tryz.prog 10 #[v] w fun e w' => e = .returned (.int .i64 0) ∧ w' = w := by
  go_enter Tryz.func10, Tryz.ntmps10
  go_wp2_with (go_at_call 16; refine (none_nil _ _ h).mono ?_; rintro e w2 ⟨rfl, rfl⟩)
  go_ret
  exact ⟨rfl, rfl⟩

set_option maxHeartbeats 400000 in
theorem c11 (w : World) (v : Value) (h : Nn w v) (k : Int) : Calls Tryz.prog 11 #[v, .int .i64 k] w fun e w' => e = .returned (.int .i64 1) ∧ w' = w := by
  go_enter Tryz.func11, Tryz.ntmps11
  go_wp2_with (go_at_call 16; refine (none_nil _ _ h).mono ?_; rintro e w2 ⟨rfl, rfl⟩)
  go_ret
  exact ⟨rfl, rfl⟩

set_option maxHeartbeats 400000 in
theorem c12 (w : World) (v : Value) (h : Nn w v) (k : Int) : Calls Tryz.prog 12 #[v, .int .i64 k] w fun e w' => e = .returned (.int .i64 1) ∧ w' = w := by
  go_enter Tryz.func12, Tryz.ntmps12
  go_wp2_with (go_at_call 16; refine (none_nil _ _ h).mono ?_; rintro e w2 ⟨rfl, rfl⟩)
  go_ret
  exact ⟨rfl, rfl⟩

set_option maxHeartbeats 400000 in
theorem c13 (w : World) (v : Value) (h : Nn w v)  : Calls Tryz.prog 13 #[v] w fun e w' => e = .returned (.slice none 0 0) ∧ w' = w := by
  go_enter Tryz.func13, Tryz.ntmps13
  go_wp2_with (go_at_call 16; refine (none_nil _ _ h).mono ?_; rintro e w2 ⟨rfl, rfl⟩)
  go_ret
  exact ⟨rfl, rfl⟩

set_option maxHeartbeats 400000 in
theorem c14 (w : World) (v : Value) (h : Nn w v) (x : Option Addr) (n c : Nat) (i j : Int) : Calls Tryz.prog 14 #[v, .slice x n c, .int .i64 i, .int .i64 j] w fun e w' => e = .returned (.slice none 0 0) ∧ w' = w := by
  go_enter Tryz.func14, Tryz.ntmps14
  go_wp2_with (go_at_call 16; refine (none_nil _ _ h).mono ?_; rintro e w2 ⟨rfl, rfl⟩)
  go_ret
  exact ⟨rfl, rfl⟩

set_option maxHeartbeats 400000 in
theorem clone_nil (w : World) : Calls Tryz.prog 27 #[.slice none 0 0] w fun e w' => e = .returned (.slice none 0 0) ∧ w' = w := by
  have q61 : ∀ (w : World) (a : Option Addr) (n c n' c' : Nat), (binOp .eql 61 (.slice a n c) (.slice none n' c')).run Tryz.prog w = .ok (.bool a.isNone) w := fun w a n c n' c' => Lib.run_eql_slice_nil w _ _ a n c n' c' Tryz.underlying61
  go_enter Tryz.func27, Tryz.ntmps27
  go_wp2
  go_ret
  exact ⟨rfl, rfl⟩

theorem alloc_lt (w : World) (o : Obj) {b : Nat} (h : b < w.heap.size) : (w.alloc o).heap[b]? = w.heap[b]? := by
  show (w.heap.push o)[b]? = _
  rw [Array.getElem?_push_lt h, Array.getElem?_eq_getElem h]
theorem alloc_new (w : World) (o : Obj) : (w.alloc o).heap[w.heap.size]? = some o := by
  show (w.heap.push o)[w.heap.size]? = _
  simp
theorem alloc_size (w : World) (o : Obj) : (w.alloc o).heap.size = w.heap.size + 1 := by
  show (w.heap.push o).size = _
  simp
theorem cell_lt {w : World} {a : Addr} {v : Value} (h : w.cell? a = some v) : a.block < w.heap.size := by
  unfold World.cell? at h
  rcases Nat.lt_or_ge a.block w.heap.size with h' | h'
  · exact h'
  · rw [Array.getElem?_eq_none h'] at h; cases h
theorem cell_alloc {w : World} (o : Obj) {b k : Nat} {v : Value} (h : w.cell? ⟨b, k, none⟩ = some v) : (w.alloc o).cell? ⟨b, k, none⟩ = some v := by
  have := cell_lt h
  unfold World.cell? at h ⊢
  rw [alloc_lt w o this]
  exact h

set_option maxHeartbeats 400000 in
theorem valid_one (w : World) (b : Nat) (h : w.cell? ⟨b, 0, none⟩ = some (.slice none 0 0)) : Calls Tryz.prog 18 #[.slice (some ⟨b, 0, none⟩) 1 1] w fun e w' => e = .returned (.bool true) ∧ w' = w.alloc (.map #[] 0) := by
  have hmm := @run_makeMap Tryz.prog
  have h' : (w.alloc (.map #[] 0)).cell? ⟨b, 0, none⟩ = some (.slice none 0 0) := cell_alloc _ h
  go_enter Tryz.func18, Tryz.ntmps18
  go_wp2
  refine wp_loop_rounds 2 ?_
  rw [rounds_succ]
  go_wp2
  refine wp_loop_rounds 1 ?_
  rw [rounds_succ]
  go_wp2
  rw [rounds_succ]
  go_wp2
  go_ret
  exact ⟨rfl, rfl⟩

set_option maxHeartbeats 400000 in
set_option maxRecDepth 100000 in
theorem copied_one (w : World) (b : Nat) (h : w.cell? ⟨b, 0, none⟩ = some (.slice none 0 0)) : Calls Tryz.prog 17 #[.slice (some ⟨b, 0, none⟩) 1 1] w fun e w' => e = .returned (.slice (some ⟨w.heap.size, 0, none⟩) 1 1) ∧ w' = w.alloc (.cells #[.slice none 0 0] 61) := by
  have hms : ∀ w, (Instr.makeSlice 23 (.int .i64 1) (.int .i64 1)).run Tryz.prog w = .ok (.slice (some ⟨w.heap.size, 0, none⟩) 1 1) (w.alloc (.cells #[.slice none 0 0] 61)) := fun w => by kernel_rfl
  have h' : (w.alloc (.cells #[.slice none 0 0] 61)).cell? ⟨b, 0, none⟩ = some (.slice none 0 0) := cell_alloc _ h
  go_enter Tryz.func17, Tryz.ntmps17
  go_wp2
  refine wp_loop_rounds 2 ?_
  rw [rounds_succ]
  go_wp2_with (go_at_call 27; refine (clone_nil _).mono ?_; rintro e w2 ⟨rfl, rfl⟩)
  rw [rounds_succ]
  go_wp2
  go_ret
  exact ⟨rfl, rfl⟩

theorem upd (w : World) (m : Nat) (hb : w.heap[m]? = some (.map #[] 0)) (v : Value) :
    (Instr.mapUpdate 26 (.map (some m)) (.int .i64 1) v).run Tryz.prog w = .ok () { w with heap := w.heap.setIfInBounds m (.map #[{ key := .int .i64 1, val := v, born := 0 }] 1) } := by
  have hf : Instr.findNow (.int .i64) (.int .i64 1) ([] : List MapEntry) 0 = some none := rfl
  simp [Instr.mapUpdate, run_underlying Tryz.underlying26, MapKept.run_getObj_map hb, MapKept.run_checkKey Tryz.underlying3 (show MapKept.IsKey (.int .i64) (.int .i64 1) from rfl), MapKept.run_findKey Tryz.underlying3 hf, MapKept.run_setObj_map _ hb, Result.andThen]

theorem run_len_map {w : World} {b : Nat} {es : Array MapEntry} {clock : Nat} (hb : w.heap[b]? = some (.map es clock)) (ty : TypeId) :
    (Builtin.len_ #[26] ty #[.map (some b)]).run Tryz.prog w = .ok (.int .i64 es.size) w := by
  simp [Builtin.len_, run_underlying Tryz.underlying26, MapKept.run_getObj_map hb, goInt]

theorem ends (w w3 : World) (hs : w3.heap.size = w.heap.size + 3) (hB : Below w.heap.size w w3) (hb : w3.heap[w.heap.size + 1]? = some (.map #[] 0)) (x : MapEntry) (u v : Value) (w4 : World) (h4 : w4 = { w3 with heap := w3.heap.setIfInBounds (w.heap.size + 1) (.map #[x] 1) }) :
    ((w4.alloc (.map #[] 0)).alloc (.cells #[.map (some (w.heap.size + 1)), u, v] 29)).cell? ⟨w.heap.size + 1 + 1 + 1 + 1, 0, none⟩ = some (.map (some (w.heap.size + 1))) ∧
    ((w4.alloc (.map #[] 0)).alloc (.cells #[.map (some (w.heap.size + 1)), u, v] 29)).heap[w.heap.size + 1]? = some (.map #[x] 1) ∧
    Below w.heap.size w ((w4.alloc (.map #[] 0)).alloc (.cells #[.map (some (w.heap.size + 1)), u, v] 29)) := by
  subst h4
  let w4 : World := { w3 with heap := w3.heap.setIfInBounds (w.heap.size + 1) (.map #[x] 1) }
  have s4 : w4.heap.size = w.heap.size + 3 := by simp [w4, hs]
  have s5 : (w4.alloc (.map #[] 0)).heap.size = w.heap.size + 4 := by rw [alloc_size, s4]
  refine ⟨?_, ?_, ?_⟩
  · have := alloc_new (w4.alloc (.map #[] 0)) (.cells #[.map (some (w.heap.size + 1)), u, v] 29)
    rw [s5] at this
    unfold World.cell?
    show (match ((w4.alloc (.map #[] 0)).alloc (.cells #[.map (some (w.heap.size + 1)), u, v] 29)).heap[w.heap.size + 4]? with | some (.cells c _ _) => c[0]? | _ => none) = _
    rw [this]
    rfl
  · rw [alloc_lt _ _ (by show _ < (w4.alloc (.map #[] 0)).heap.size; rw [s5]; omega), alloc_lt _ _ (by show _ < w4.heap.size; rw [s4]; omega)]
    exact (MapKept.heap_set hb).1
  · have b4 : Below w.heap.size w w4 := hB.trans ⟨rfl, rfl, rfl, by rw [s4, hs]; exact Nat.le_refl _, fun k hk => (MapKept.heap_set hb).2 k (by omega)⟩
    exact (b4.alloc (by rw [s4]; omega) _).alloc (by rw [s5]; omega) _

set_option maxHeartbeats 400000 in
set_option maxRecDepth 100000 in
theorem new_one (w : World) (b : Nat) (h : w.cell? ⟨b, 0, none⟩ = some (.slice none 0 0)) : Calls Tryz.prog 15 #[.slice (some ⟨b, 0, none⟩) 1 1] w fun e w' =>
    ∃ p m x, e = .returned (.pointer (some ⟨p, 0, none⟩)) ∧ w'.cell? ⟨p, 0, none⟩ = some (.map (some m)) ∧ w'.heap[m]? = some (.map #[x] 1) ∧ Below w.heap.size w w' := by
  have hmm := @run_makeMap Tryz.prog
  have h2 : ((w.alloc (.map #[] 0)).alloc (.map #[] 0)).cell? ⟨b, 0, none⟩ = some (.slice none 0 0) := cell_alloc _ (cell_alloc _ h)
  have hb : (((w.alloc (.map #[] 0)).alloc (.map #[] 0)).alloc (.cells #[.slice none 0 0] 61)).heap[w.heap.size + 1]? = some (.map #[] 0) := by
    rw [alloc_lt _ _ (by rw [alloc_size, alloc_size]; omega)]
    have := alloc_new (w.alloc (.map #[] 0)) (.map #[] 0)
    rwa [alloc_size] at this
  have hu := fun v => upd _ _ hb v
  go_enter Tryz.func15, Tryz.ntmps15
  go_wp2_with (first | (go_at_call 18; refine (valid_one _ b h).mono ?_; rintro e w2 ⟨rfl, rfl⟩) | (go_at_call 17; refine (copied_one _ b h2).mono ?_; rintro e w3 ⟨rfl, rfl⟩))
  go_ret
  refine ⟨_, w.heap.size + 1, _, rfl, ends w _ ?_ ?_ hb _ _ _ _ rfl⟩
  · rw [alloc_size, alloc_size, alloc_size]
  · exact (((Below.refl w.heap.size w).alloc (Nat.le_refl _) _).alloc (by rw [alloc_size]; omega) _).alloc (by rw [alloc_size, alloc_size]; omega) _

set_option maxHeartbeats 400000 in
theorem none_real (w : World) (p m : Nat) (h : w.cell? ⟨p, 0, none⟩ = some (.map (some m))) : Calls Tryz.prog 16 #[.pointer (some ⟨p, 0, none⟩)] w fun e w' => e = .returned (.bool false) ∧ w' = w := by
  have q26 : ∀ (w : World) (r : Option Nat), (binOp .eql 26 (.map r) (.map none)).run Tryz.prog w = .ok (.bool r.isNone) w := fun w r => run_eql_map_nil w _ _ _ r Tryz.underlying26
  go_enter Tryz.func16, Tryz.ntmps16
  go_wp2
  go_ret
  exact ⟨rfl, rfl⟩

set_option maxHeartbeats 400000 in
theorem len_one (w : World) (p m : Nat) (x : MapEntry) (c : Nat) (h : w.cell? ⟨p, 0, none⟩ = some (.map (some m))) (hm : w.heap[m]? = some (.map #[x] c)) : Calls Tryz.prog 10 #[.pointer (some ⟨p, 0, none⟩)] w fun e w' => e = .returned (.int .i64 1) ∧ w' = w := by
  have hl := run_len_map hm
  go_enter Tryz.func10, Tryz.ntmps10
  go_wp2_with (go_at_call 16; refine (none_real _ p m h).mono ?_; rintro e w2 ⟨rfl, rfl⟩)
  go_ret
  exact ⟨rfl, rfl⟩

end Go.Proofs.YtdpmeeflhnijkacGreatDoor

namespace Go.Proofs.YtdpmeeflhnijkacGreatDoor
open Go.RowKit
set_option maxHeartbeats 4000000 in
set_option maxRecDepth 100000 in
theorem law_walk (w : World) (a1 a2 : Option Addr) (n1 m1 n2 m2 : Nat) (k : Int) : Calls Tryz.prog 3 #[.slice a1 n1 m1, .int .i64 k, .slice a2 n2 m2] w fun e w' => e = .returned (.bool true) ∧ Below w.heap.size w w' := by
  have hN0 : Nn ((w.alloc (.cells #[.map none, .int .i64 0, .map none] 29)).alloc (.cells #[.pointer none, .pointer (some ⟨w.heap.size, 0, none⟩)] 25)) (.pointer none) := .inl rfl
  have hz : (w.alloc (.cells #[.map none, .int .i64 0, .map none] 29)).cell? ⟨w.heap.size, 0, none⟩ = some (.map none) := by
    unfold World.cell?
    rw [show (w.alloc (.cells #[.map none, .int .i64 0, .map none] 29)).heap[(⟨w.heap.size, 0, none⟩ : Addr).block]? = _ from alloc_new _ _]
    rfl
  have hN1 : Nn ((w.alloc (.cells #[.map none, .int .i64 0, .map none] 29)).alloc (.cells #[.pointer none, .pointer (some ⟨w.heap.size, 0, none⟩)] 25)) (.pointer (some ⟨w.heap.size, 0, none⟩)) := .inr ⟨_, rfl, cell_alloc _ hz⟩
  have hc : (((w.alloc (.cells #[.map none, .int .i64 0, .map none] 29)).alloc (.cells #[.pointer none, .pointer (some ⟨w.heap.size, 0, none⟩)] 25)).alloc (.cells #[.slice none 0 0] 61)).cell? ⟨w.heap.size + 1 + 1, 0, none⟩ = some (.slice none 0 0) := by
    have h := alloc_new ((w.alloc (.cells #[.map none, .int .i64 0, .map none] 29)).alloc (.cells #[.pointer none, .pointer (some ⟨w.heap.size, 0, none⟩)] 25)) (.cells #[.slice none 0 0] 61)
    rw [alloc_size, alloc_size] at h
    unfold World.cell?
    rw [show (_ : World).heap[(⟨w.heap.size + 1 + 1, 0, none⟩ : Addr).block]? = _ from h]
    rfl
  go_enter Tryz.func3, Tryz.ntmps3
  go_wp2
  refine wp_loop_rounds 3 ?_
  rw [rounds_succ]
  go_wp2_with (first | (go_at_call 4; refine (c4 _ _ hN0).mono ?_; rintro e w2 ⟨rfl, rfl⟩) | (go_at_call 5; refine (c5 _ _ hN0 _).mono ?_; rintro e w2 ⟨rfl, rfl⟩) | (go_at_call 6; refine (c6 _ _ hN0 _ _ _).mono ?_; rintro e w2 ⟨rfl, rfl⟩) | (go_at_call 7; refine (c7 _ _ hN0).mono ?_; rintro e w2 ⟨rfl, rfl⟩) | (go_at_call 8; refine (c8 _ _ hN0 _).mono ?_; rintro e w2 ⟨rfl, rfl⟩) | (go_at_call 9; refine (c9 _ _ hN0 _).mono ?_; rintro e w2 ⟨rfl, rfl⟩) | (go_at_call 10; refine (c10 _ _ hN0).mono ?_; rintro e w2 ⟨rfl, rfl⟩) | (go_at_call 11; refine (c11 _ _ hN0 _).mono ?_; rintro e w2 ⟨rfl, rfl⟩) | (go_at_call 12; refine (c12 _ _ hN0 _).mono ?_; rintro e w2 ⟨rfl, rfl⟩) | (go_at_call 13; refine (c13 _ _ hN0).mono ?_; rintro e w2 ⟨rfl, rfl⟩) | (go_at_call 14; refine (c14 _ _ hN0 _ _ _ _ _).mono ?_; rintro e w2 ⟨rfl, rfl⟩))
  rw [rounds_succ]
  go_wp2_with (first | (go_at_call 4; refine (c4 _ _ hN1).mono ?_; rintro e w2 ⟨rfl, rfl⟩) | (go_at_call 5; refine (c5 _ _ hN1 _).mono ?_; rintro e w2 ⟨rfl, rfl⟩) | (go_at_call 6; refine (c6 _ _ hN1 _ _ _).mono ?_; rintro e w2 ⟨rfl, rfl⟩) | (go_at_call 7; refine (c7 _ _ hN1).mono ?_; rintro e w2 ⟨rfl, rfl⟩) | (go_at_call 8; refine (c8 _ _ hN1 _).mono ?_; rintro e w2 ⟨rfl, rfl⟩) | (go_at_call 9; refine (c9 _ _ hN1 _).mono ?_; rintro e w2 ⟨rfl, rfl⟩) | (go_at_call 10; refine (c10 _ _ hN1).mono ?_; rintro e w2 ⟨rfl, rfl⟩) | (go_at_call 11; refine (c11 _ _ hN1 _).mono ?_; rintro e w2 ⟨rfl, rfl⟩) | (go_at_call 12; refine (c12 _ _ hN1 _).mono ?_; rintro e w2 ⟨rfl, rfl⟩) | (go_at_call 13; refine (c13 _ _ hN1).mono ?_; rintro e w2 ⟨rfl, rfl⟩) | (go_at_call 14; refine (c14 _ _ hN1 _ _ _ _ _).mono ?_; rintro e w2 ⟨rfl, rfl⟩))
  rw [rounds_succ]
  go_wp2_with (first | (go_at_call 15; refine (new_one _ _ hc).mono ?_; rintro e w3 ⟨p, m, x, rfl, hp, hm, hB⟩) | (go_at_call 10; refine (len_one _ _ _ _ _ hp hm).mono ?_; rintro e w4 ⟨rfl, rfl⟩))
  go_ret
  refine ⟨rfl, ?_⟩
  refine Below.trans ?_ (hB.mono ?_)
  · exact (((Below.refl w.heap.size w).alloc (Nat.le_refl _) _).alloc (by rw [alloc_size]; omega) _).alloc (by rw [alloc_size, alloc_size]; omega) _
  · rw [alloc_size, alloc_size, alloc_size]; omega
end Go.Proofs.YtdpmeeflhnijkacGreatDoor

namespace Go.Proofs.YtdpmeeflhnijkacGreatDoor.liveNil
open Go Go.RowKit Go.WideShapes Go.ChangeShapes Go.ChangeAt
section
variable {H : Type} {enc : TypeId × Value → H} {P : Program} {W W' : World}

theorem trodAll_stays (hl : laidOutB P = true) (hb : Below W.heap.size W W') : ∀ {ts : List TypeId} {vs : List Value} {ds : List (DataW H)} {ps : List MemPlace}, (∀ t ∈ ts, P.readableRec t = true ∧ t < P.types.size) →
    DataW.TrodAll enc P W 0 (fun _ => true) true ts vs ds ps → (∀ x ∈ ps, x.block < W.heap.size) → ∀ sp : Nat → Bool, (∀ x ∈ ps, sp x.block = true) → DataW.TrodAll enc P W' 0 sp true ts vs ds ps
  | [], [], [], ps, _, h, _, _, _ => h
  | t :: ts, v :: vs, d :: ds, ps, hr, h, hlt, sp, hsp => by
    obtain ⟨p, q, h1, h2, rfl⟩ := h
    have hh := hr t (by simp)
    exact ⟨p, q, WideElems.Trod_stays hl hh.1 hh.2 h1 (fun x hx => hb.same (hlt x (by simp [hx]))) (fun x hx => hsp x (by simp [hx])),
      trodAll_stays hl hb (fun t ht => hr t (by simp [ht])) h2 (fun x hx => hlt x (by simp [hx])) sp (fun x hx => hsp x (by simp [hx])), rfl⟩
  | [], _ :: _, _, _, _, h, _, _, _ => h.elim
  | [], [], _ :: _, _, _, h, _, _, _ => h.elim
  | _ :: _, [], _, _, _, h, _, _, _ => h.elim
  | _ :: _, _ :: _, [], _, _, h, _, _, _ => h.elim

/-- The end of a law's row: it answers true, and nothing that was there has turned. -/
theorem post_law {f : Func} {s : ChangeSpec} {apart fresh handsOn again : Bool} {args : Array Value} {ds gs : List (DataW H)} {before : List MemPlace} {R : TypeId}
    (hW : DataW.Whole enc P f.params.toList s.vars apart W args.toList ds gs before) (hl : laidOutB P = true) (hr : ∀ t ∈ f.params.toList, P.readableRec t = true ∧ t < P.types.size) (hv : s.vars = [])
    (hs : s.fn H (ds ++ gs) = { results := [.lit (.bool true)], args := ds }) (hres : f.resultTypes = #[R]) (hR : P.underlying R = some .bool) (hb : Below W.heap.size W W') :
    s.post enc P f apart fresh handsOn again W args (.bool true) W' := by
  have hW' := hW
  obtain ⟨p, q, hA, hV, hpq, hz, hn⟩ := hW
  rw [hv] at hV
  obtain ⟨rfl, rfl⟩ := trodVars_none hV
  rw [List.append_nil] at hpq
  subst hpq
  have hlt : ∀ x ∈ before, x.block < W.heap.size := fun x hx => hW'.lt x hx
  have ha := trodAll_stays hl hb hr hA hlt
  have hrv : (Value.bool true).resultList f.resultTypes.size = [.bool true] := by rw [hres]; rfl
  have hrt : ∀ (b : Nat) (sp : Nat → Bool) (hd : Bool), DataW.TrodAll enc P W' b sp hd f.resultTypes.toList ((Value.bool true).resultList f.resultTypes.size) (s.fn H (ds ++ [])).results [] := by
    intro b sp hd
    rw [hrv, hs, hres]
    exact trodAll_mk1 (shut_bool hR true)
  refine ⟨ds, [], before, [], before, [], hW', hrt _ _ _, by rw [hs]; exact ha _ (fun x hx => by simpa using hlt x hx), by rw [hv, hs]; rfl, World.keptBut_mono (fun x hx => ⟨hx, .inr (.inl hx)⟩) (hb.frame (· ∈ before)), fun _ => ?_⟩
  refine ⟨ok_one hres rfl (okWide_bool_mk hR true), .lit (.bool true) :: ds, [], before, ⟨before, [], ?_, by rw [hv]; rfl, by simp, ?_, hn⟩, fun x hx _ => hx⟩
  · have h1 := hrt 0 (fun _ => true) true
    rw [hrv, hs] at h1
    have := trodAll_append (ha (fun _ => true) (fun _ _ => rfl)) h1
    rw [hrv]
    simpa using this
  · intro b off hp
    rw [hb.frozen (hlt _ hp)]
    exact hz b off hp
end

theorem own : ownKnob Tryz.prog.godebug = none := by kernel_rfl

set_option maxRecDepth 100000 in
theorem contract (H : Type) (enc : TypeId × Value → H) (W : World) (base : Nat) (args : Array Value) (ds gs : List (DataW H)) (before : List MemPlace)
    (hval : ∀ (j : Nat) t v, Tryz.f3.params[j]? = some t → args[j]? = some v → Value.okWide Tryz.prog W .any base t v)
    (hW : DataW.Whole enc Tryz.prog Tryz.f3.params.toList Rows.liveNilSpec.vars false W args.toList ds gs before) :
    Calls Tryz.prog 3 args W fun e W' => ∃ v, e = .returned v ∧ Rows.liveNilSpec.post enc Tryz.prog Tryz.f3 false true false false W args v W' := by
  have hds : ∃ (v0 v1 v2 : Value) (d1 d2 d3 : DataW H), args = #[v0, v1, v2] ∧ ds = [d1, d2, d3] ∧ gs = [] := by
    obtain ⟨p, q, hA, hV, _, _, _⟩ := hW
    obtain ⟨rfl, rfl⟩ := trodVars_none hV
    rw [Tryz.params3] at hA
    obtain ⟨v0, vs0, d0, ds0, p0, q0, hargs, rfl, _, _, r0⟩ := trodAll_cons hA
    obtain ⟨v1, vs1, d1, ds1, p1, q1, rfl, rfl, _, _, r1⟩ := trodAll_cons r0
    obtain ⟨v2, vs2, d2, ds2, p2, q2, rfl, rfl, _, _, r2⟩ := trodAll_cons r1
    obtain ⟨rfl, rfl, _⟩ := trodAll_nil r2
    refine ⟨v0, v1, v2, d0, d1, d2, ?_, rfl, rfl⟩
    have := congrArg List.toArray hargs
    simpa using this
  obtain ⟨v0, v1, v2, d1, d2, d3, rfl, rfl, rfl⟩ := hds
  rw [Tryz.params3] at hval
  obtain ⟨a1, n1, m1, rfl⟩ := okWide_slice Tryz.underlying23 (hval 0 23 v0 rfl rfl)
  obtain ⟨k, rfl⟩ := okWide_int Tryz.underlying3 (hval 1 3 v1 rfl rfl)
  obtain ⟨a2, n2, m2, rfl⟩ := okWide_slice Tryz.underlying24 (hval 2 24 v2 rfl rfl)
  refine (law_walk W a1 a2 n1 m1 n2 m2 k).mono fun e W' ⟨he, hb⟩ => ⟨_, he, ?_⟩
  refine post_law hW (by kernel_rfl) ?_ rfl rfl (R := 4) rfl Tryz.underlying4 hb
  intro t ht
  rw [Tryz.params3] at ht
  simp only [List.mem_cons, List.not_mem_nil, or_false] at ht
  rcases ht with rfl | rfl | rfl <;> exact ⟨by kernel_rfl, by decide +kernel⟩

/-- A world for the witness: the tables and the errors in it. -/
def laidCells (cs : List Value) : Obj → Obj
  | .cells _ t frozen => .cells cs.toArray t frozen
  | o => o
noncomputable def tabWorld (os : Os) : World :=
  { World.holding Tryz.prog os ⟨#[], #[], []⟩ with heap := (((World.holding Tryz.prog os ⟨#[], #[], []⟩).heap.modify 2 (laidCells ([1, 10, 100, 1000, 10000, 100000, 1000000, 10000000, 100000000, 1000000000, 10000000000, 100000000000, 1000000000000, 10000000000000, 100000000000000, 1000000000000000, 10000000000000000, 100000000000000000, 1000000000000000000, 10000000000000000000].map fun z : Nat => Value.int .u64 (z : Int)))).modify 4 (laidCells ([0, 1, 28, 2, 29, 14, 24, 3, 30, 22, 20, 15, 25, 17, 4, 8, 31, 27, 13, 23, 21, 19, 16, 7, 26, 12, 18, 6, 11, 5, 10, 9].map fun z : Nat => Value.int .u8 (z : Int)))).modify 5 (laidCells ([0, 1, 56, 2, 57, 49, 28, 3, 61, 58, 42, 50, 38, 29, 17, 4, 62, 47, 59, 36, 45, 43, 51, 22, 53, 39, 33, 30, 24, 18, 12, 5, 63, 55, 48, 27, 60, 41, 37, 16, 46, 35, 44, 21, 52, 32, 23, 11, 54, 26, 40, 15, 34, 20, 31, 10, 25, 14, 19, 9, 13, 8, 7, 6].map fun z : Nat => Value.int .u8 (z : Int))) }
noncomputable def errWorld (os : Os) : World :=
  { tabWorld os with heap := ((((tabWorld os).heap.push (.cells #[.string ⟨#[118, 97, 108, 117, 101, 32, 111, 117, 116, 32, 111, 102, 32, 114, 97, 110, 103, 101]⟩] 136 (0, 0))).push (.cells #[.string ⟨#[105, 110, 118, 97, 108, 105, 100, 32, 115, 121, 110, 116, 97, 120]⟩] 136 (0, 0))).modify 1 (laidCells [.iface 134 (.pointer (some ⟨(tabWorld os).heap.size, 0, none⟩))])).modify 0 (laidCells [.iface 134 (.pointer (some ⟨(tabWorld os).heap.size + 1, 0, none⟩))]) }
def wArgs : Array Value := #[.slice none 0 0, .int .i64 0, .slice none 0 0]
theorem laid_met (os : Os) : laidMet Tryz.prog Rows.liveNilRow.laid ((errWorld os).forCall (fun _ _ => 0) ⟨#[], wArgs, []⟩).memory :=
  laidMet_of_run' 8 (by kernel_rfl) (by kernel_rfl)
theorem reads (os : Os) {H : Type} (enc : TypeId × Value → H) : ∃ places, DataW.whole enc Tryz.prog ((errWorld os).forCall (fun _ _ => 0) ⟨#[], wArgs, []⟩).memory Tryz.f3.params.toList Rows.liveNilSpec.vars false wArgs.toList 8 = some ([.nil, .lit (.int .i64 0), .nil], [], places) :=
  ⟨[], by kernel_rfl⟩

set_option maxRecDepth 100000 in
theorem lifted (os : Os) (started : os.Started) (H : Type) (enc : TypeId × Value → H) (F : Stop.Interp) :
    ReturnsInHanded {} Tryz.checked os 3 .any ((OpenSpec.ofChange Rows.liveNilSpec).preRow enc Tryz.prog Tryz.f3 Rows.liveNilRow.domain false Rows.liveNilRow.laid) (((OpenSpec.ofChange Rows.liveNilSpec).at F).post enc Tryz.prog Tryz.f3 false true false false) := by
  obtain ⟨places, hx⟩ := reads os enc
  refine returnsInHanded_of_row (C := Tryz.checked) (s := OpenSpec.ofChange Rows.liveNilSpec) own started (by kernel_rfl) Tryz.func3
    (witness_row_at (enc := enc) (C := Tryz.checked) false (errWorld os) wArgs rfl (by kernel_rfl) (by kernel_rfl) (by kernel_rfl)
      (OpenSpec.preRow_of_cond 8 hx (by kernel_rfl) (fun k hk => by cases hk) (by kernel_rfl) (laid_met os))) ?_
  intro W base args ds gs before hval hW _ _ _ _ _ _
  exact contract H enc W base args ds gs before hval hW

theorem said : Rows.LiveNilSaid :=
  OpenClaim.holds_of_cond 3 Tryz.f3 rfl rfl rfl rfl rfl rfl rfl ⟨rfl, rfl, rfl, rfl, rfl⟩ rfl rfl rfl rfl rfl (by kernel_rfl) Tryz.func3 (by kernel_rfl)
    (of_decide_eq_true (by kernel_rfl)) (by unfold Func.isWrapper; first | (rw [if_pos (by decide +kernel)]; kernel_rfl) | (rw [if_neg (by decide +kernel)]; exact ⟨rfl, rfl⟩))
    (fun os started H enc _ F => by rw [OpenClaim.pre_eq_preRow]; exact lifted os started H enc F)

theorem plainN (name : String) (g : FuncId) (fg : Func) (ts : Array TypeId) (hn : Tryz.prog.funcNamed name = some g) (hg : Tryz.prog.funcs[g]? = some fg) (hp : fg.params = ts) (hs : ts.all (fun t => !Tryz.prog.wantsStandIn t) = true) (f : FuncId) (fn : Func) (hf : Tryz.pinned.checked.prog.funcNamed name = some f) (hfn : Tryz.pinned.checked.prog.funcs[f]? = some fn) :
    true = Tryz.pinned.checked.prog.looks [] ∧ ∀ (j : Nat) t, fn.params[j]? = some t → Tryz.pinned.checked.prog.wantsStandIn t = false := by
  obtain rfl : f = g := (Option.some.inj (hn.symm.trans hf)).symm
  obtain rfl : fn = fg := (Option.some.inj (hg.symm.trans hfn)).symm
  refine ⟨by kernel_rfl, fun j t ht => ?_⟩
  rw [hp] at ht
  have hm := Array.mem_of_getElem? ht
  rw [Array.all_eq_true_iff_forall_mem] at hs
  have h1 := hs t hm
  have h2 : (!Tryz.prog.wantsStandIn t) = true := h1
  exact (by simpa using h2 : Tryz.prog.wantsStandIn t = false)

theorem card : Rows.LiveNilCardSaid :=
  Claim7.holds_tied_plain_at .later [] _ _ _ _ said (fun _ h => by cases h) (by kernel_rfl) (fun _ h => by cases h) liveNil_row_tie rfl ⟨rfl, rfl⟩ (by kernel_rfl) rfl (plainN "moraine/morainelaw18.LiveNil" 3 Tryz.f3 _ (by kernel_rfl) Tryz.func3 Tryz.params3 (by kernel_rfl)) (by kernel_rfl)
end Go.Proofs.YtdpmeeflhnijkacGreatDoor.liveNil

