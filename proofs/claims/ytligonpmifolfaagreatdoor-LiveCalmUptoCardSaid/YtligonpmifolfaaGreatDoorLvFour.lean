import Derived.Test.YtligonpmifolfaaGreatDoorLkThree
import Derived.WalkKit
import Derived.WalkSpells
import Derived.WalkLawsBesides
import Derived.MapKept
import Derived.Test.YtligonpmifolfaaGreatDoorLkTwo
import Derived.Maps.OwnSet
import Derived.OwnWalk
import Derived.Laws.IdiomRangeMap
import Derived.Test.YtligonpmifolfaaGreatDoorProg
import Derived.ProofKit
import Derived.LoopTactic
set_option linter.all false
section
/-! Maps keyed by whole numbers: how one lies in memory, and what its operations come to. -/
namespace Lv
open Go Go.RowKit
def setMap (w : World) (m : Nat) (es : Array MapEntry) (clock : Nat) : World := { w with heap := w.heap.setIfInBounds m (.map es clock) }
theorem setMap_same {w : World} {m : Nat} {es : Array MapEntry} {clock : Nat} (h : m < w.heap.size) : (setMap w m es clock).heap[m]? = some (.map es clock) := by
 simp [setMap, h]
theorem setMap_other {w : World} {m : Nat} {es : Array MapEntry} {clock : Nat} {k : Nat} (h : k ≠ m) : (setMap w m es clock).heap[k]? = w.heap[k]? := by
 simp [setMap, Ne.symm h]
theorem setMap_size {w : World} {m : Nat} {es : Array MapEntry} {clock : Nat} : (setMap w m es clock).heap.size = w.heap.size := by
 simp [setMap]
abbrev pairE (e : MapEntry) : Value × Value := (e.key, e.val)
abbrev pairV (p : Int × Value) : Value × Value := (.int .i64 p.1, p.2)
structure MapAt (w : World) (m : Nat) (es : Array MapEntry) (clock : Nat) (kv : List (Int × Value)) : Prop where
 cell : w.heap[m]? = some (.map es clock)
 ents : es.toList.map pairE = kv.map pairV
 st : MapKept.Stamped es clock
def get {α : Type} (kv : List (Int × α)) (k : Int) : Option α := (kv.find? fun p => p.1 == k).map (·.2)
def has {α : Type} (kv : List (Int × α)) (k : Int) : Bool := kv.any fun p => p.1 == k
def put {α : Type} (kv : List (Int × α)) (k : Int) (v : α) : List (Int × α) := bif has kv k then kv.map fun p => if p.1 == k then (k, v) else p else kv ++ [(k, v)]
def del {α : Type} (kv : List (Int × α)) (k : Int) : List (Int × α) := kv.filter fun p => !(p.1 == k)
theorem eraseIdx_filter {α : Type} (p : α → Bool) : ∀ (l : List α) (j : Nat), (∀ i a, l[i]? = some a → (p a = true ↔ i = j)) → l.eraseIdx j = l.filter fun a => !p a
 | [], _, _ => rfl
 | a :: l, 0, h => by
  have h0 : p a = true := (h 0 a rfl).2 rfl
  rw [List.eraseIdx_cons_zero, List.filter_cons, h0]
  simp only [Bool.not_true, Bool.false_eq_true, if_false]
  refine (List.filter_eq_self.2 fun b hb => ?_).symm
  obtain ⟨i, hi⟩ := List.getElem?_of_mem hb
  have := h (i + 1) b (by simpa using hi)
  cases hp : p b with
  | false => rfl
  | true => exact absurd (this.1 hp) (by omega)
 | a :: l, j + 1, h => by
  have h0 : p a = false := by
   cases hp : p a with
   | false => rfl
   | true => exact absurd ((h 0 a rfl).1 hp) (by omega)
  rw [List.eraseIdx_cons_succ, List.filter_cons, h0]
  simp only [Bool.not_false, if_true]
  rw [eraseIdx_filter p l j fun i b hb => by
   have := h (i + 1) b (by simpa using hb)
   simpa using this]
theorem erase_map {α β : Type} (f : α → β) : ∀ (l : List α) (j : Nat), (l.eraseIdx j).map f = (l.map f).eraseIdx j
 | [], _ => rfl
 | _ :: _, 0 => rfl
 | a :: l, j + 1 => by simp only [List.eraseIdx_cons_succ, List.map_cons, erase_map f l j]
section
variable {w : World} {m : Nat} {es : Array MapEntry} {clock : Nat} {kv : List (Int × Value)}
theorem MapAt.keys (h : MapAt w m es clock kv) : ∀ e ∈ es.toList, MapKept.IsKey (.int .i64) e.key := by
 intro e he
 have : pairE e ∈ kv.map pairV := by rw [← h.ents]; exact List.mem_map.2 ⟨e, he, rfl⟩
 obtain ⟨p, _, hp⟩ := List.mem_map.1 this
 have : e.key = .int .i64 p.1 := (congrArg Prod.fst hp).symm
 rw [this]; rfl
theorem MapAt.pos (h : MapAt w m es clock kv) {i : Nat} {e : MapEntry} (he : es.toList[i]? = some e) : ∃ p, kv[i]? = some p ∧ e.key = .int .i64 p.1 ∧ e.val = p.2 := by
 have h1 : (es.toList.map pairE)[i]? = some (pairE e) := by rw [List.getElem?_map, he]; rfl
 rw [h.ents, List.getElem?_map] at h1
 cases hg : kv[i]? with
 | none => rw [hg] at h1; cases h1
 | some p =>
  rw [hg] at h1
  have h2 : pairV p = pairE e := Option.some.inj h1
  exact ⟨p, rfl, (congrArg Prod.fst h2).symm, (congrArg Prod.snd h2).symm⟩
theorem MapAt.unlike (h : MapAt w m es clock kv) : kv.Pairwise fun p q => p.1 ≠ q.1 := by
 have h1 := ((MapKept.stamped_iff es clock).1 h.st).2.2
 have h2 : (es.toList.map pairE).Pairwise fun x y => x.1 ≠ y.1 := List.pairwise_map.2 h1
 rw [h.ents] at h2
 refine (List.pairwise_map.1 h2).imp fun {p q} hpq e => hpq ?_
 show Value.int .i64 p.1 = Value.int .i64 q.1
 rw [e]
theorem unlike_at (h : kv.Pairwise fun p q => p.1 ≠ q.1) {i j : Nat} {p q : Int × Value} (hi : kv[i]? = some p) (hj : kv[j]? = some q) (e : p.1 = q.1) : i = j := by
 rcases Nat.lt_trichotomy i j with hl | rfl | hl
 ·obtain ⟨hi', rfl⟩ := List.getElem?_eq_some_iff.1 hi
  obtain ⟨hj', rfl⟩ := List.getElem?_eq_some_iff.1 hj
  exact absurd e (List.pairwise_iff_getElem.1 h i j hi' hj' hl)
 ·rfl
 ·obtain ⟨hi', rfl⟩ := List.getElem?_eq_some_iff.1 hi
  obtain ⟨hj', rfl⟩ := List.getElem?_eq_some_iff.1 hj
  exact absurd e.symm (List.pairwise_iff_getElem.1 h j i hj' hi' hl)
theorem MapAt.find (h : MapAt w m es clock kv) (k : Int) :
  (get kv k = none ∧ has kv k = false ∧ Instr.findNow (.int .i64) (.int .i64 k) es.toList 0 = some none ∧ ∀ e ∈ es.toList, e.key ≠ .int .i64 k) ∨
  ∃ v j e, get kv k = some v ∧ has kv k = true ∧ kv[j]? = some (k, v) ∧ es[j]? = some e ∧ e.key = .int .i64 k ∧ e.val = v ∧ Instr.findNow (.int .i64) (.int .i64 k) es.toList 0 = some (some (j, v)) ∧
   ∀ i q, kv[i]? = some q → ((q.1 == k) = true ↔ i = j) := by
 have hun := h.unlike
 rcases MapKept.findNow_spec (d := .int .i64) (k := .int .i64 k) rfl es.toList 0 h.keys with ⟨h1, h2⟩ | ⟨j, e, h1, h2, h3⟩
 ·have hno : ∀ p ∈ kv, (p.1 == k) = false := fun p hp => by
   cases hpk : p.1 == k with
   | false => rfl
   | true =>
    exfalso
    obtain ⟨i, hi⟩ := List.getElem?_of_mem hp
    have h4 : (kv.map pairV)[i]? = some (pairV p) := by rw [List.getElem?_map, hi]; rfl
    rw [← h.ents, List.getElem?_map] at h4
    cases he : es.toList[i]? with
    | none => rw [he] at h4; cases h4
    | some e =>
     rw [he] at h4
     have h5 : pairE e = pairV p := Option.some.inj h4
     refine h2 e (List.mem_of_getElem? he) ?_
     rw [show e.key = .int .i64 p.1 from congrArg Prod.fst h5, show p.1 = k by simpa using hpk]
  refine .inl ⟨?_, ?_, h1, h2⟩
  ·unfold get
   rw [List.find?_eq_none.2 (fun p hp => by rw [hno p hp]; simp)]; rfl
  ·unfold has
   rw [List.any_eq_false]
   exact fun p hp => by rw [hno p hp]; simp
 ·rw [Nat.zero_add] at h1
  obtain ⟨p, hg, hk, hv⟩ := h.pos h2
  have hs : p.1 = k := by
   have := hk.symm.trans h3
   simpa using this
  have hu : ∀ i q, kv[i]? = some q → ((q.1 == k) = true ↔ i = j) := by
   intro i q hi
   constructor
   ·intro hn
    exact unlike_at hun hi hg (by rw [hs]; simpa using hn)
   ·rintro rfl
    rw [hi] at hg
    cases hg
    simpa using hs
  have hm : p ∈ kv := List.mem_of_getElem? hg
  refine .inr ⟨p.2, j, e, ?_, ?_, by rw [hg, ← hs], by simpa using h2, h3, hv, by rw [h1, hv], hu⟩
  ·unfold get
   cases hf : kv.find? fun p => p.1 == k with
   | none => exact absurd (List.find?_eq_none.1 hf p hm) (by simp [hs])
   | some q =>
    have hq : q ∈ kv := List.mem_of_find?_eq_some hf
    obtain ⟨i, hi⟩ := List.getElem?_of_mem hq
    have := (hu i q hi).1 (List.find?_some (p := fun p : Int × Value => p.1 == k) hf)
    subst this
    rw [hi] at hg
    cases hg
    rfl
  ·unfold has
   rw [List.any_eq_true]
   exact ⟨p, hm, by simpa using hs⟩
theorem MapAt.size (h : MapAt w m es clock kv) : es.size = kv.length := by
 have h1 := congrArg List.length h.ents
 simpa using h1
theorem MapAt.lt (h : MapAt w m es clock kv) : m < w.heap.size := (Array.getElem?_eq_some_iff.1 h.cell).1
variable {P : Program} {mt kt et : TypeId} (hm : P.underlying mt = some (.map kt et)) (hk : P.underlying kt = some (.int .i64))
include hm in
theorem MapAt.len (h : MapAt w m es clock kv) (ty : TypeId) : (Builtin.len_ #[mt] ty #[.map (some m)]).run P w = .ok (.int .i64 kv.length) w := by
 have := h.size
 simp [Builtin.len_, run_underlying hm, MapKept.run_getObj_map h.cell, Result.andThen, this, goInt]
include hm hk
theorem MapAt.lookup (h : MapAt w m es clock kv) {z : Value} (hz : (zeroValue et).run P w = .ok z w) (k : Int) :
  (Instr.lookup mt (.map (some m)) (.int .i64 k) false).run P w = .ok ((get kv k).getD z) w := by
 have hkey : MapKept.IsKey (.int .i64) (Value.int .i64 k) := rfl
 rcases h.find k with ⟨h0, _, h1, _⟩ | ⟨v, j, e, h0, _, _, _, _, _, h1, _⟩
 ·rw [h0]
  simp [Instr.lookup, run_underlying hm, MapKept.run_getObj_map h.cell, MapKept.run_checkKey hk hkey, MapKept.run_findKey hk h1, hz, Result.andThen]
 ·rw [h0]
  simp [Instr.lookup, run_underlying hm, MapKept.run_getObj_map h.cell, MapKept.run_checkKey hk hkey, MapKept.run_findKey hk h1, Result.andThen]
theorem MapAt.lookup2 (h : MapAt w m es clock kv) {z : Value} (hz : (zeroValue et).run P w = .ok z w) (k : Int) :
  (Instr.lookup mt (.map (some m)) (.int .i64 k) true).run P w = .ok (.tuple #[(get kv k).getD z, .bool (has kv k)]) w := by
 have hkey : MapKept.IsKey (.int .i64) (Value.int .i64 k) := rfl
 rcases h.find k with ⟨h0, h2, h1, _⟩ | ⟨v, j, e, h0, h2, _, _, _, _, h1, _⟩
 ·rw [h0, h2]
  simp [Instr.lookup, run_underlying hm, MapKept.run_getObj_map h.cell, MapKept.run_checkKey hk hkey, MapKept.run_findKey hk h1, hz, Result.andThen]
 ·rw [h0, h2]
  simp [Instr.lookup, run_underlying hm, MapKept.run_getObj_map h.cell, MapKept.run_checkKey hk hkey, MapKept.run_findKey hk h1, Result.andThen]
omit hm hk in
theorem MapAt.push (h : MapAt w m es clock kv) {k : Int} (hn : has kv k = false) (hne : ∀ e ∈ es.toList, e.key ≠ .int .i64 k) (v : Value) : MapAt (setMap w m (es.push { key := .int .i64 k, val := v, born := clock }) (clock + 1)) m (es.push { key := .int .i64 k, val := v, born := clock }) (clock + 1) (put kv k v) := by
 refine ⟨setMap_same h.lt, ?_, MapKept.stamped_push h.st hne⟩
 unfold put
 rw [hn, cond_false, Array.toList_push, List.map_append, List.map_append, h.ents]; rfl
omit hm hk in
theorem ents_modify {kv : List (Int × Value)} {l : List MapEntry} (h : l.map pairE = kv.map pairV) {k : Int} {j : Nat} (hu : ∀ i q, kv[i]? = some q → ((q.1 == k) = true ↔ i = j)) (v : Value) (f : MapEntry → MapEntry) (hf : ∀ e, pairE (f e) = (.int .i64 k, v)) :
  (l.modify j f).map pairE = (kv.map fun p => if p.1 == k then (k, v) else p).map pairV := by
 apply List.ext_getElem?
 intro i
 have hi : (l.map pairE)[i]? = (kv.map pairV)[i]? := by rw [h]
 simp only [List.getElem?_map, List.getElem?_modify] at hi ⊢
 cases hq : kv[i]? with
 | none =>
  rw [hq] at hi
  cases hl : l[i]? with
  | none => rfl
  | some e => rw [hl] at hi; cases hi
 | some q =>
  rw [hq] at hi
  cases hl : l[i]? with
  | none => rw [hl] at hi; cases hi
  | some e =>
   rw [hl] at hi
   have hi : pairE e = pairV q := by simpa using hi
   have := hu i q hq
   by_cases hij : i = j
   ·have hqk := this.2 hij
    subst hij
    have hqk' : q.1 = k := by simpa using hqk
    simp [hqk', hf]
   ·have hqk : (q.1 == k) = false := by
     cases hb : q.1 == k with
     | false => rfl
     | true => exact absurd (this.1 hb) hij
    have hji : ¬ j = i := fun h => hij h.symm
    have hqk' : ¬ q.1 = k := by simpa using hqk
    simp [hji, hqk', hi]
theorem MapAt.update (h : MapAt w m es clock kv) (k : Int) (v : Value) :
  ∃ es' clock', (Instr.mapUpdate mt (.map (some m)) (.int .i64 k) v).run P w = .ok () (setMap w m es' clock') ∧ MapAt (setMap w m es' clock') m es' clock' (put kv k v) := by
 have hkey : MapKept.IsKey (.int .i64) (Value.int .i64 k) := rfl
 rcases h.find k with ⟨_, h2, h1, h3⟩ | ⟨v0, j, e, h0, h2, h3, h4, h5, h6, h1, h7⟩
 ·refine ⟨_, _, ?_, h.push h2 h3 v⟩
  simp [Instr.mapUpdate, run_underlying hm, MapKept.run_getObj_map h.cell, MapKept.run_checkKey hk hkey, MapKept.run_findKey hk h1, MapKept.run_setObj_map _ h.cell, Result.andThen, setMap]
 ·refine ⟨es.modify j fun e => { e with key := .int .i64 k, val := v }, clock, ?_, setMap_same h.lt, ?_, ?_⟩
  ·simp [Instr.mapUpdate, run_underlying hm, MapKept.run_getObj_map h.cell, MapKept.run_checkKey hk hkey, MapKept.run_findKey hk h1, h4, h5, MapKept.run_keyThatStays hkey, MapKept.run_setObj_map _ h.cell, Result.andThen, setMap]
  ·unfold put
   rw [h2, cond_true, Array.toList_modify]
   exact ents_modify h.ents h7 v _ fun _ => rfl
  ·exact MapKept.stamped_modify h.st j _ (fun _ _ => rfl) (fun e' he' hj => by rw [h4] at hj; cases hj; exact h5.symm)
theorem MapAt.delete (h : MapAt w m es clock kv) (k : Int) :
  ∃ es' clock', (∀ ty, (Builtin.delete_ #[mt, kt] ty #[.map (some m), .int .i64 k]).run P w = .ok (.tuple #[]) (setMap w m es' clock')) ∧ MapAt (setMap w m es' clock') m es' clock' (del kv k) := by
 have hkey : MapKept.IsKey (.int .i64) (Value.int .i64 k) := rfl
 rcases h.find k with ⟨_, h2, h1, h3⟩ | ⟨v0, j, e, h0, h2, h3, h4, h5, h6, h1, h7⟩
 ·refine ⟨es, clock, fun ty => ?_, setMap_same h.lt, ?_, h.st⟩
  ·simp [Builtin.delete_, run_underlying hm, MapKept.run_getObj_map h.cell, MapKept.run_checkKey hk hkey, MapKept.run_findKey hk h1, MapKept.run_setObj_map _ h.cell, Result.andThen, setMap]
  ·unfold del
   rw [h.ents, List.filter_eq_self.2]
   intro p hp
   unfold has at h2
   rw [List.any_eq_false] at h2
   have := h2 p hp
   simpa using this
 ·refine ⟨es.eraseIdxIfInBounds j, clock, fun ty => ?_, setMap_same h.lt, ?_, MapKept.stamped_erase h.st j⟩
  ·simp [Builtin.delete_, run_underlying hm, MapKept.run_getObj_map h.cell, MapKept.run_checkKey hk hkey, MapKept.run_findKey hk h1, MapKept.run_setObj_map _ h.cell, Result.andThen, setMap]
  ·unfold del
   have hj : j < es.size := (Array.getElem?_eq_some_iff.1 h4).1
   rw [show (es.eraseIdxIfInBounds j).toList = es.toList.eraseIdx j by
    unfold Array.eraseIdxIfInBounds
    rw [dif_pos hj, Array.toList_eraseIdx]]
   rw [erase_map, h.ents, ← erase_map, eraseIdx_filter (fun p : Int × Value => p.1 == k) kv j h7]
end
end Lv
end
section
/-! Maps keyed by whole numbers: an element that is turned where it is. -/
namespace Lv
open Go Go.RowKit
theorem findIdx_born {es : Array MapEntry} {clock : Nat} (hs : MapKept.Stamped es clock) {j : Nat} {e : MapEntry} (he : es[j]? = some e) : es.findIdx? (fun x => (x.born : Int) == (e.born : Int)) = some j := by
 obtain ⟨hj, rfl⟩ := Array.getElem?_eq_some_iff.1 he
 rw [Array.findIdx?_eq_some_iff_getElem]
 refine ⟨hj, by simp, fun i hi => ?_⟩
 simp only [Bool.not_eq_true, beq_eq_false_iff_ne, ne_eq, Int.natCast_inj]
 intro h
 have hn := hs.2.1
 have h1 : (es.toList.map (·.born))[i]? = some (es[i]'(by omega)).born := by
  rw [List.getElem?_map, Array.getElem?_toList, Array.getElem?_eq_getElem (by omega)]; rfl
 have h2 : (es.toList.map (·.born))[j]? = some (es[j]).born := by
  rw [List.getElem?_map, Array.getElem?_toList, Array.getElem?_eq_getElem hj]; rfl
 rw [h] at h1
 have := (List.getElem?_inj (by simp; omega) hn).1 (h1.trans h2.symm)
 omega
section
variable {w : World} {m : Nat} {es : Array MapEntry} {clock : Nat} {kv : List (Int × Value)}
variable {P : Program} {mt kt et : TypeId} (hm : P.underlying mt = some (.map kt et)) (hk : P.underlying kt = some (.int .i64))
theorem put_put {α : Type} {kv : List (Int × α)} {k : Int} {u v : α} : put (put kv k u) k v = put kv k v := by
 unfold put
 cases h : has kv k with
 | true =>
  simp only [cond_true]
  have h2 : has (kv.map fun p => if p.1 == k then (k, u) else p) k = true := by
   unfold has at h ⊢
   rw [List.any_eq_true] at h ⊢
   obtain ⟨p, hp, hpk⟩ := h
   exact ⟨(k, u), List.mem_map.2 ⟨p, hp, by rw [if_pos hpk]⟩, by simp⟩
  rw [h2, cond_true, List.map_map]
  refine List.map_congr_left fun p _ => ?_
  simp only [Function.comp]
  by_cases hp : (p.1 == k) = true
  ·rw [if_pos hp, if_pos (by simp), if_pos hp]
  ·rw [if_neg hp, if_neg hp]
 | false =>
  simp only [cond_false]
  have h2 : has (kv ++ [(k, u)]) k = true := by
   unfold has; simp
  rw [h2, cond_true, List.map_append]
  unfold has at h
  rw [List.any_eq_false] at h
  have e1 : (kv.map fun p => if p.1 == k then (k, v) else p) = kv := by
   conv => rhs; rw [← List.map_id kv]
   refine List.map_congr_left fun p hp => ?_
   rw [if_neg (by simpa using h p hp)]; rfl
  rw [e1]; simp
include hm hk
theorem MapAt.entry (h : MapAt w m es clock kv) {z : Value} (hz : (zeroValue et).run P w = .ok z w) (k : Int) :
  ∃ es1 clock1 stamp, (Instr.mapEntry mt (.map (some m)) (.int .i64 k)).run P w = .ok (.tuple #[(get kv k).getD z, goInt stamp]) (setMap w m es1 clock1) ∧ MapAt (setMap w m es1 clock1) m es1 clock1 (put kv k ((get kv k).getD z)) ∧
   ∀ (w1 : World) (v : Value), w1.heap[m]? = some (.map es1 clock1) → ∃ es2, (Instr.entryStore mt (.map (some m)) (goInt stamp) v).run P w1 = .ok () (setMap w1 m es2 clock1) ∧ MapAt (setMap w1 m es2 clock1) m es2 clock1 (put kv k v) := by
 have hkey : MapKept.IsKey (.int .i64) (Value.int .i64 k) := rfl
 have store : ∀ (es1 : Array MapEntry) (clock1 : Nat) (u : Value) (j : Nat) (e : MapEntry), es1.toList.map pairE = (put kv k u).map pairV → MapKept.Stamped es1 clock1 → es1[j]? = some e → e.key = .int .i64 k →
   (∀ i q, (put kv k u)[i]? = some q → ((q.1 == k) = true ↔ i = j)) → ∀ (w1 : World) (v : Value), w1.heap[m]? = some (.map es1 clock1) →
   ∃ es2, (Instr.entryStore mt (.map (some m)) (goInt e.born) v).run P w1 = .ok () (setMap w1 m es2 clock1) ∧ MapAt (setMap w1 m es2 clock1) m es2 clock1 (put kv k v) := by
  intro es1 clock1 u j e h1 h2 h3 h4 h5 w1 v hc
  refine ⟨es1.modify j fun e => { e with val := v }, ?_, setMap_same ((Array.getElem?_eq_some_iff.1 hc).1), ?_, ?_⟩
  ·have hf := findIdx_born h2 h3
   simp [Instr.entryStore, MapKept.run_getObj_map hc, Result.andThen, goInt, asInt, asIntOf, hf, MapKept.run_setObj_map _ hc, setMap]
  ·rw [← put_put (u := u), Array.toList_modify]
   have hh : has (put kv k u) k = true := by
    have hp := h5
    have hl : j < (put kv k u).length := by
     have := congrArg List.length h1
     simp at this
     have hj := (Array.getElem?_eq_some_iff.1 h3).1
     omega
    have hq := (h5 j _ (List.getElem?_eq_getElem hl)).2 rfl
    unfold has
    rw [List.any_eq_true]
    exact ⟨_, List.getElem_mem hl, hq⟩
   have e1 : put (put kv k u) k v = (put kv k u).map fun p => if p.1 == k then (k, v) else p := by
    conv => lhs; unfold put
    rw [show has (bif has kv k then kv.map fun p => if p.1 == k then (k, u) else p else kv ++ [(k, u)]) k = true from hh, cond_true]
    rfl
   rw [e1]
   apply List.ext_getElem?
   intro i
   have hi : (es1.toList.map pairE)[i]? = ((put kv k u).map pairV)[i]? := by rw [h1]
   simp only [List.getElem?_map, List.getElem?_modify] at hi ⊢
   cases hq : (put kv k u)[i]? with
   | none =>
    rw [hq] at hi
    cases hl : es1.toList[i]? with
    | none => rfl
    | some e => rw [hl] at hi; cases hi
   | some q =>
    rw [hq] at hi
    cases hl : es1.toList[i]? with
    | none => rw [hl] at hi; cases hi
    | some e' =>
     rw [hl] at hi
     have hi : pairE e' = pairV q := by simpa using hi
     have hu := h5 i q hq
     by_cases hij : i = j
     ·have hqk := hu.2 hij
      subst hij
      have hqk' : q.1 = k := by simpa using hqk
      have : e' = e := by
       rw [Array.getElem?_toList] at hl
       rw [hl] at h3; exact Option.some.inj h3
      subst this
      simp [hqk', h4]
     ·have hqk : ¬ q.1 = k := fun hb => hij (hu.1 (by simpa using hb))
      have hji : ¬ j = i := fun h => hij h.symm
      simp [hji, hqk, hi]
  ·exact MapKept.stamped_modify h2 j _ (fun _ _ => rfl) (fun _ _ _ => rfl)
 rcases h.find k with ⟨h0, h2, h1, h3⟩ | ⟨v0, j, e, h0, h2, h3, h4, h5, h6, h1, h7⟩
 ·rw [h0]
  have hp := h.push h2 h3 z
  refine ⟨es.push { key := .int .i64 k, val := z, born := clock }, clock + 1, clock, ?_, hp, ?_⟩
  ·simp [Instr.mapEntry, run_underlying hm, MapKept.run_getObj_map h.cell, MapKept.run_checkKey hk hkey, MapKept.run_findKey hk h1, hz, MapKept.run_setObj_map _ h.cell, Result.andThen, setMap]
  ·have hj : (es.push { key := .int .i64 k, val := z, born := clock })[es.size]? = some { key := .int .i64 k, val := z, born := clock } := by simp
   refine store _ _ z es.size _ hp.ents hp.st hj rfl fun i q hq => ?_
   have hpe : put kv k z = kv ++ [(k, z)] := by unfold put; rw [h2]; rfl
   rw [hpe] at hq
   have hsz := h.size
   by_cases hi : i < kv.length
   ·rw [List.getElem?_append_left hi] at hq
    have hne : ¬ (q.1 == k) = true := by
     unfold has at h2
     rw [List.any_eq_false] at h2
     exact h2 q (List.mem_of_getElem? hq)
    exact ⟨fun hh => absurd hh hne, fun hh => by omega⟩
   ·rw [List.getElem?_append_right (by omega)] at hq
    have : i - kv.length = 0 := by
     rcases Nat.eq_zero_or_pos (i - kv.length) with h' | h'
     ·exact h'
     ·rw [List.getElem?_eq_none (by simp; omega)] at hq; cases hq
    rw [this] at hq
    cases hq
    exact ⟨fun _ => by omega, fun _ => by simp⟩
 ·rw [h0]
  have hpe : put kv k v0 = kv := by
   unfold put
   rw [h2, cond_true]
   conv => rhs; rw [← List.map_id kv]
   refine List.map_congr_left fun p hp => ?_
   by_cases hpk : (p.1 == k) = true
   ·obtain ⟨i, hi⟩ := List.getElem?_of_mem hp
    have := (h7 i p hi).1 hpk
    subst this
    rw [hi] at h3
    cases h3
    simp
   ·rw [if_neg hpk]; rfl
  have hmod : (es.modify j fun e => { e with key := .int .i64 k }) = es := by
   apply Array.ext_getElem?
   intro i
   rw [Array.getElem?_modify]
   split
   ·rename_i hij
    subst hij
    rw [h4]
    simp [← h5]
   ·simp
  refine ⟨es, clock, e.born, ?_, ⟨setMap_same h.lt, by rw [Option.getD_some, hpe]; exact h.ents, h.st⟩, ?_⟩
  ·simp [Instr.mapEntry, run_underlying hm, MapKept.run_getObj_map h.cell, MapKept.run_checkKey hk hkey, MapKept.run_findKey hk h1, h4, h5, MapKept.run_keyThatStays hkey, MapKept.run_setObj_map _ h.cell, Result.andThen, setMap, hmod]
  ·refine store es clock v0 j e (by rw [hpe]; exact h.ents) h.st h4 h5 (by rw [hpe]; exact h7)
end
end Lv
end
section
/-! A set of versions: how one lies in memory. -/
namespace Lv
open Go Go.RowKit
section
variable {α β : Type}
theorem get_map (f : α → β) (l : List (Int × α)) (k : Int) : get (l.map fun p => (p.1, f p.2)) k = (get l k).map f := by
 unfold get
 induction l with
 | nil => rfl
 | cons p l ih =>
  simp only [List.map_cons, List.find?_cons]
  cases p.1 == k with
  | true => rfl
  | false => simpa using ih
theorem has_map (f : α → β) (l : List (Int × α)) (k : Int) : has (l.map fun p => (p.1, f p.2)) k = has l k := by
 unfold has
 rw [List.any_map]; rfl
theorem put_map (f : α → β) (l : List (Int × α)) (k : Int) (v : α) : put (l.map fun p => (p.1, f p.2)) k (f v) = (put l k v).map fun p => (p.1, f p.2) := by
 unfold put
 rw [has_map]
 cases has l k with
 | true =>
  simp only [cond_true, List.map_map]
  refine List.map_congr_left fun p _ => ?_
  simp only [Function.comp]
  split <;> rfl
 | false => simp
theorem del_map (f : α → β) (l : List (Int × α)) (k : Int) : del (l.map fun p => (p.1, f p.2)) k = (del l k).map fun p => (p.1, f p.2) := by
 unfold del
 rw [List.filter_map]; rfl
theorem has_get (l : List (Int × α)) (k : Int) : has l k = (get l k).isSome := by
 unfold has get
 induction l with
 | nil => rfl
 | cons p l ih =>
  simp only [List.any_cons, List.find?_cons]
  cases p.1 == k with
  | true => rfl
  | false => simpa using ih
theorem get_mem {l : List (Int × α)} {k : Int} {v : α} (h : get l k = some v) : (k, v) ∈ l := by
 unfold get at h
 cases hf : l.find? (fun p => p.1 == k) with
 | none => rw [hf] at h; cases h
 | some p =>
  rw [hf] at h
  have h1 : p.2 = v := Option.some.inj h
  have h2 : p.1 = k := by simpa using List.find?_some hf
  rw [← h1, ← h2]
  exact List.mem_of_find?_eq_some hf
theorem mem_put {l : List (Int × α)} {k : Int} {v : α} {p : Int × α} (h : p ∈ put l k v) : p ∈ l ∨ p = (k, v) := by
 unfold put at h
 cases hh : has l k with
 | true =>
  rw [hh, cond_true] at h
  obtain ⟨q, hq, e⟩ := List.mem_map.1 h
  split at e
  ·exact .inr e.symm
  ·exact .inl (e ▸ hq)
 | false =>
  rw [hh, cond_false] at h
  simp only [List.mem_append, List.mem_cons, List.not_mem_nil, or_false] at h
  exact h
theorem mem_del {l : List (Int × α)} {k : Int} {p : Int × α} (h : p ∈ del l k) : p ∈ l ∧ p.1 ≠ k := by
 unfold del at h
 rw [List.mem_filter] at h
 exact ⟨h.1, by simpa using h.2⟩
end
abbrev FT : Lk.Ty := .c (.i .i64) (.c (.i .i64) (.c .s (.c .s (.c (.i .u64) (.c (.i .u64) .u)))))
abbrev LvT : Lk.Ty := .l (.l FT)
abbrev Levels := List (List Lk.LFile)
def ax0 : Lk.Ax := ⟨fun _ _ _ _ _ => False, fun h => h.elim, fun h => h.elim, fun h => h.elim, fun _ _ => True⟩
def pureT : Lk.Ty → Bool
 | .e => false | .a _ => false | .c a r => pureT a && pureT r | .l t => pureT t | .p t => pureT t | _ => true
theorem rd_tau {τ τ' : Lk.Ax} {S : Nat → Prop} {w : World} : ∀ (t : Lk.Ty) (x : Lk.E t) (cs : List Value), pureT t = true → Lk.Rd τ S w t x cs → Lk.Rd τ' S w t x cs := by
 intro t
 induction t with
 | e => intro x cs h; cases h
 | a n => intro x cs h; cases h
 | c a r iha ihr =>
  intro x cs hp h
  simp only [pureT, Bool.and_eq_true] at hp
  obtain ⟨c1, c2, rfl, h1, h2⟩ := h
  exact ⟨c1, c2, rfl, iha _ _ hp.1 h1, ihr _ _ hp.2 h2⟩
 | l t ih =>
  intro x cs hp h
  obtain ⟨a, cap, h1, h2, h3, h4, h5⟩ := h
  refine ⟨a, cap, h1, h2, h3, h4, h5.imp id ?_⟩
  rintro ⟨b, off, C, e, f, g1, g2, g3, g4⟩
  exact ⟨b, off, C, e, f, g1, g2, g3, fun i y hy => ih _ _ hp (g4 i y hy)⟩
 | p t ih =>
  intro x cs hp h
  cases x with
  | none => exact h
  | some y =>
   obtain ⟨b, C, e, f, g1, g2, g3, g4⟩ := h
   exact ⟨b, C, e, f, g1, g2, g3, ih _ _ hp g4⟩
 | i k => intro x cs _ h; exact h
 | «by» => intro x cs _ h; exact h
 | b => intro x cs _ h; exact h
 | s => intro x cs _ h; exact h
 | u => intro x cs _ h; exact h
 | z k => intro x cs _ h; exact h
theorem cells_tau {τ τ' : Lk.Ax} : ∀ (t : Lk.Ty) (x : Lk.E t) (sh : Lk.Sh t), Lk.cells τ t x sh = Lk.cells τ' t x sh := by
 intro t
 induction t with
 | c a r iha ihr => intro x sh; simp only [Lk.cells, iha x.1 sh.1, ihr x.2 sh.2]
 | _ => intro x sh; rfl
theorem row_rd {τ τ' : Lk.Ax} {S Sb : Nat → Prop} {w : World} {t : Lk.Ty} {m : Lk.Md} {x : List (Lk.E t)} {sh : Lk.LS (Lk.Sh t)} (h : Lk.hold τ S Sb w (.l t) (.o m) x sh)
  (hE : ∀ (i : Nat) (y : Lk.E t) (z : Lk.Sh t), x[i]? = some y → sh.es[i]? = some z → Lk.hold τ S Sb w t m y z → Lk.Rd τ' (fun k => k ∈ Lk.bl t m y z) w t y (Lk.cells τ' t y z)) :
  Lk.Rd τ' (fun k => k ∈ Lk.bl (.l t) (.o m) x sh) w (.l t) x [sh.hd] := by
 rcases h with ⟨h1, rfl⟩ | ⟨cap, h1, h2, h3, h4, h5, h6, h7, h8⟩
 ·exact ⟨none, 0, by rw [h1]; rfl, Nat.le_refl _, by simp [Lk.big], fun _ => rfl, .inl rfl⟩
 ·have hbl : Lk.bl (.l t) (.o m) x sh = sh.blk :: (List.zipWith (fun y z => Lk.bl t m y z) x sh.es).flatten := by
   simp only [Lk.bl]; rw [h1]
  rw [hbl]
  refine ⟨some ⟨sh.blk, sh.off, none⟩, cap, by rw [h1], h3, h4, nofun, .inr ⟨sh.blk, sh.off, sh.C.toArray, sh.ety, sh.frz, rfl, List.mem_cons_self .., h6, fun i y hy => ?_⟩⟩
  have hi : i < sh.es.length := by rw [h2]; exact (List.getElem?_eq_some_iff.1 hy).1
  have hz : sh.es[i]? = some sh.es[i] := List.getElem?_eq_getElem hi
  obtain ⟨g1, g2⟩ := h8 i y _ hy hz
  show Lk.Rd τ' _ w t y (Lk.win sh.C (sh.off + i * Lk.csz t) (Lk.csz t))
  rw [g1, cells_tau (τ := τ) (τ' := τ')]
  refine Lk.Rd_keep τ' (fun b hb => ⟨List.mem_cons_of_mem _ (Lk.zip_flatten_mem hy hz hb), rfl⟩) _ _ _ (hE i y _ hy hz g2)
abbrev Ver := (Levels × Int) × (Value × List Nat)
def heldV (v : Ver) : Value := .agg #[v.2.1, .int .i64 v.1.2]
def vblks (ds : List (Int × Ver)) : List Nat := (ds.map fun p => p.2.2.2).flatten
structure LiveAt (w : World) (x : Lk.LiveS) (b m1 m2 : Nat) (ds : List (Int × Ver)) : Prop where
 head : ∃ ty, w.heap[b]? = some (.cells #[.map (some m1), .int .i64 x.cur, .map (some m2)] ty (0, 0))
 vers : ∃ es c, MapAt w m1 es c (ds.map fun p => (p.1, heldV p.2))
 wri : ∃ es c, MapAt w m2 es c (x.wr.map fun p => (p.1, .int .i64 p.2))
 vs : x.vs = ds.map fun p => (p.1, p.2.1)
 rows : ∀ p ∈ ds, Lk.Rd ax0 (fun k => k ∈ p.2.2.2) w LvT p.2.1.1 [p.2.2.1]
 refs : ∀ p ∈ ds, Lk.inR .i64 p.2.1.2
 cur : Lk.inR .i64 x.cur
 wrs : ∀ p ∈ x.wr, Lk.inR .i64 p.1 ∧ Lk.inR .i64 p.2
 nodup : (b :: m1 :: m2 :: vblks ds).Nodup
 lt : ∀ k ∈ b :: m1 :: m2 :: vblks ds, k < w.heap.size
theorem MapAt.keep {w w' : World} {m : Nat} {es : Array MapEntry} {c : Nat} {kv : List (Int × Value)} (h : MapAt w m es c kv) (hm : w'.heap[m]? = w.heap[m]?) : MapAt w' m es c kv := ⟨by rw [hm]; exact h.cell, h.ents, h.st⟩
theorem mem_vblks {ds : List (Int × Ver)} {p : Int × Ver} (hp : p ∈ ds) {k : Nat} (hk : k ∈ p.2.2.2) : k ∈ vblks ds :=
 List.mem_flatten.2 ⟨_, List.mem_map.2 ⟨p, hp, rfl⟩, hk⟩
theorem lt_keep {w w' : World} {k : Nat} (h : k < w.heap.size) (hk : w'.heap[k]? = w.heap[k]?) : k < w'.heap.size := by
 rcases Nat.lt_or_ge k w'.heap.size with h3 | h3
 ·exact h3
 ·rw [Array.getElem?_eq_none h3, Array.getElem?_eq_getElem h] at hk
  cases hk
theorem LiveAt.keep {w w' : World} {x : Lk.LiveS} {b m1 m2 : Nat} {ds : List (Int × Ver)} (h : LiveAt w x b m1 m2 ds) (hk : ∀ k ∈ b :: m1 :: m2 :: vblks ds, w'.heap[k]? = w.heap[k]?) : LiveAt w' x b m1 m2 ds where
 head := by rw [hk b (by simp)]; exact h.head
 vers := by obtain ⟨es, c, h1⟩ := h.vers; exact ⟨es, c, h1.keep (hk m1 (by simp))⟩
 wri := by obtain ⟨es, c, h1⟩ := h.wri; exact ⟨es, c, h1.keep (hk m2 (by simp))⟩
 vs := h.vs
 rows p hp := Lk.Rd_keep ax0 (fun k hk' => ⟨hk', hk k (by simp [mem_vblks hp hk'])⟩) _ _ _ (h.rows p hp)
 refs := h.refs
 cur := h.cur
 wrs := h.wrs
 nodup := h.nodup
 lt k hk' := lt_keep (h.lt k hk') (hk k hk')
def ownS (w : World) (x : Lk.LiveS) (v : Value) (bs : List Nat) : Prop :=
 ∃ b m1 m2 ds, v = .pointer (some ⟨b, 0, none⟩) ∧ bs = b :: m1 :: m2 :: vblks ds ∧ LiveAt w x b m1 m2 ds
def ax : Lk.Ax where
 own n w x v bs := match n, x with
  | 1, x => ownS w x v bs
  | _, _ => False
 keep {n w w' x v bs} h hb := by
  cases n with
  | zero => exact h.elim
  | succ n =>
   cases n with
   | zero =>
    obtain ⟨b, m1, m2, ds, h2, rfl, h4⟩ := h
    exact ⟨b, m1, m2, ds, h2, rfl, h4.keep hb⟩
   | succ n => exact h.elim
 lt {n w x v bs} h := by
  cases n with
  | zero => exact h.elim
  | succ n =>
   cases n with
   | zero =>
    obtain ⟨b, m1, m2, ds, h2, rfl, h4⟩ := h
    exact h4.lt
   | succ n => exact h.elim
 ptr {n w x v bs} h := by
  cases n with
  | zero => exact h.elim
  | succ n =>
   cases n with
   | zero => obtain ⟨b, m1, m2, ds, h2, _⟩ := h; exact ⟨_, h2⟩
   | succ n => exact h.elim
end Lv
end
section
/-! What stays in a world; maps in loops. -/
namespace Lv
open Go Go.RowKit
theorem alloc_lt (w : World) (o : Obj) {b : Nat} (h : b < w.heap.size) : (w.alloc o).heap[b]? = w.heap[b]? := by
 show (w.heap.push o)[b]? = _
 rw [Array.getElem?_push_lt h, Array.getElem?_eq_getElem h]
theorem alloc_new (w : World) (o : Obj) : (w.alloc o).heap[w.heap.size]? = some o := by
 show (w.heap.push o)[w.heap.size]? = _
 simp
theorem alloc_size (w : World) (o : Obj) : (w.alloc o).heap.size = w.heap.size + 1 := by
 show (w.heap.push o).size = _
 simp
theorem ext_setMap {w w1 : World} {bs : List Nat} {m : Nat} (hm : m ∈ bs ∨ w.heap.size ≤ m) (h : Lk.Ext bs w w1) (es : Array MapEntry) (clock : Nat) : Lk.Ext bs w (setMap w1 m es clock) :=
 ⟨h.os, h.tape, h.output, by rw [setMap_size]; exact h.size, fun i hi hn => by
  rw [setMap_other (fun e => by rcases hm with hm | hm
                                ·exact hn (e ▸ hm)
                                ·omega)]; exact h.block i hi hn⟩
theorem ext_setCell {w w1 : World} {bs : List Nat} {a : Addr} (hm : a.block ∈ bs ∨ w.heap.size ≤ a.block) (h : Lk.Ext bs w w1) (v : Value) : Lk.Ext bs w (w1.setCell a v) :=
 ⟨h.os, h.tape, h.output, by rw [show (w1.setCell a v).heap.size = w1.heap.size by simp [World.setCell]]; exact h.size, fun i hi hn => by
  rw [Below.heap_setCell w1 a v i (fun e => by
   rcases hm with hm | hm
   ·exact hn (e ▸ hm)
   ·omega)]; exact h.block i hi hn⟩
theorem ext_alloc {w w1 : World} {bs : List Nat} (h : Lk.Ext bs w w1) (o : Obj) : Lk.Ext bs w (w1.alloc o) :=
 ⟨h.os, h.tape, h.output, by rw [alloc_size]; have := h.size; omega, fun i hi hn => (alloc_lt w1 o (Nat.lt_of_lt_of_le hi h.size)).trans (h.block i hi hn)⟩
theorem ext_refl (w : World) (bs : List Nat) : Lk.Ext bs w w := ⟨rfl, rfl, rfl, Nat.le_refl _, fun _ _ _ => rfl⟩
theorem ext_drew {w w1 : World} {bs : List Nat} (h : Lk.Ext bs w w1) (n : Nat) : Lk.Ext bs w { w1 with drawn := n } := ⟨h.os, h.tape, h.output, h.size, h.block⟩
theorem ext_more {w w1 : World} {bs cs : List Nat} (h : Lk.Ext bs w w1) (hs : ∀ k ∈ bs, k ∈ cs ∨ w.heap.size ≤ k) : Lk.Ext cs w w1 :=
 ⟨h.os, h.tape, h.output, h.size, fun i hi hn => h.block i hi fun hb => by
  rcases hs i hb with h | h
  ·exact hn h
  ·omega⟩
theorem ext_tr {w w1 w2 : World} {bs cs : List Nat} (h : Lk.Ext bs w w1) (g : Lk.Ext cs w1 w2) (hs : ∀ k ∈ cs, k ∈ bs ∨ w.heap.size ≤ k) : Lk.Ext bs w w2 :=
 ⟨g.os.trans h.os, g.tape.trans h.tape, g.output.trans h.output, Nat.le_trans h.size g.size, fun i hi hn => (g.block i (Nat.lt_of_lt_of_le hi h.size) fun hb => by
  rcases hs i hb with h | h
  ·exact hn h
  ·omega).trans (h.block i hi hn)⟩
theorem wpList_append_run {P : Program} {ops : Array Oper} {rest : List Oper} {o : Oper} {a : Act} {Q : Exit → Act → World → Prop} {w : World} (hg : o.guard = none) (p q : Operand) (t t2 : TypeId) (hop : o.op = Op.call { callee := Callee.builtin Builtin.append, args := #[p, q], argTypes := #[t, t2] })
  {v1 v2 v' : Value} {w' : World} (h1 : a.eval p = v1) (h2 : a.eval q = v2) (oT : TypeId) (hT : o.type = oT) (hrun : (Builtin.append_ #[t, t2] oT #[v1, v2]).run P w = .ok v' w') (hK : wpList P ops Q rest (a.put o.dst v') w') :
  wpList P ops Q (o :: rest) a w := by
 refine wpList_plain hg fun K' hK' => ?_
 subst hT
 unfold Oper.wp
 simp [execOp, hop, resolve, invoke, builtin, h1, h2, hrun, Result.andThen]
 exact hK' _ _ hK
theorem run_next_any {P : Program} (w : World) (ty : TypeId) (it bm since c0 : Nat) (seen : Array Nat) (es : Array MapEntry) (clock : Nat) (hi : w.heap[it]? = some (.mapIter (some bm) since seen c0)) (hb : w.heap[bm]? = some (.map es clock)) (hold : ∀ x ∈ es.toList, x.born < since) (hsc : since ≤ c0) :
  ((leftOf es seen).size = 0 ∧ (Instr.next (.pointer (some ⟨it, 0, none⟩)) false ty).run P w = .ok (.tuple #[.bool false]) w) ∨
  ∃ e ∈ (leftOf es seen).toList, ∃ n, (Instr.next (.pointer (some ⟨it, 0, none⟩)) false ty).run P w = .ok (.tuple #[.bool true, e.key, e.val]) { w with heap := w.heap.setIfInBounds it (.mapIter (some bm) since (seen.push e.born) clock), drawn := n } := by
 simp only [Instr.next, getObj, Sem.run_bind, Sem.run, hi, hb, Result.andThen, next_test_false seen es since c0 hold hsc, Bool.false_eq_true, if_false]
 unfold leftOf
 have hmem : ∀ x ∈ (Array.filter (fun e => !seen.contains e.born) es).toList, x.born < since := fun x hx => hold x (by simp at hx ⊢; exact hx.1)
 generalize Array.filter (fun e => !seen.contains e.born) es = L at hmem ⊢
 have e1 : L.filter (fun x => decide (x.born < since)) = L := Array.filter_eq_self.2 (fun x hx => by simpa using hmem x (by simpa using hx))
 have e2 : L.filter (fun x => decide (x.born ≥ since)) = #[] := by
  rw [Array.filter_eq_empty_iff]
  intro x hx
  have := hmem x (by simpa using hx)
  simp
  omega
 simp only [e1, e2, Array.append_empty]
 by_cases h0 : L.size = 0
 ·left
  have : L = #[] := Array.eq_empty_of_size_eq_zero h0
  subst this
  refine ⟨rfl, ?_⟩
  simp [choose, Sem.run, Question.forced]
 ·right
  have hne : L.isEmpty = false := by simp [Array.isEmpty, h0]
  simp only [hne, Bool.false_eq_true, if_false, Array.empty_append, Array.size_map]
  have hch : ∃ (j : Nat) (n : Nat), j < L.size ∧ (choose (Question.mapNext L.size)).run P w = .ok j { w with drawn := n } := by
   by_cases hf : L.size ≤ 1
   ·exact ⟨0, w.drawn, by omega, by simp [choose, Sem.run, Question.forced, hf]⟩
   ·exact ⟨_, w.drawn + 1, Nat.mod_lt _ (by omega), by
     simp only [choose, Sem.run, Question.forced, decide_eq_true_eq, hf, if_false, Question.cut]
     rfl⟩
  obtain ⟨j, n, hj, hrun⟩ := hch
  refine ⟨L[j], by simp, n, ?_⟩
  have hset : ∀ o' : Obj, (setObj it o').run P { w with drawn := n } = .ok () { w with heap := w.heap.setIfInBounds it o', drawn := n } := fun o' => by
   simp only [setObj, Sem.run]
   rw [hi]
  simp only [hrun, Array.getElem?_map, Array.getElem?_eq_getElem hj, Option.map_some, Sem.run_bind, hset, Result.andThen]
  rfl
theorem run_entry_any {P : Program} (w : World) (it bm since : Nat) (seen : Array Nat) (es : Array MapEntry) (clock : Nat) (e : MapEntry) (hi : w.heap[it]? = some (.mapIter (some bm) since (seen.push e.born) clock)) (hb : w.heap[bm]? = some (.map es clock)) (he : e ∈ es.toList) (hn : (es.toList.map (·.born)).Nodup) :
  (Instr.entry (.pointer (some ⟨it, 0, none⟩))).run P w = .ok (.tuple #[e.key, e.val]) w := by
 have hf : es.find? (·.born == e.born) = some e := by rw [← Array.find?_toList]; exact find_born e es.toList hn he
 simp only [Instr.entry, getObj, Sem.run_bind, Sem.run, hi, hb, Result.andThen, Array.back?_push, bne_self_eq_false, Bool.false_eq_true, if_false, hf]
 rfl
theorem left_perm {es : Array MapEntry} {seen : Array Nat} {e : MapEntry} (hn : (es.toList.map (·.born)).Nodup) (he : e ∈ (leftOf es seen).toList) : (leftOf es seen).toList.Perm (e :: (leftOf es (seen.push e.born)).toList) := by
 obtain ⟨hm, hs⟩ := mem_left he
 have e1 : (leftOf es (seen.push e.born)).toList = (leftOf es seen).toList.filter fun x => !(x.born == e.born) := by
  unfold leftOf
  simp only [Array.toList_filter, List.filter_filter]
  refine List.filter_congr fun x _ => ?_
  rw [contains_push, Bool.not_or, Bool.and_comm]
 have hsub : (leftOf es seen).toList.Sublist es.toList := by unfold leftOf; rw [Array.toList_filter]; exact List.filter_sublist
 have hnd : ((leftOf es seen).toList.map (·.born)).Nodup := hn.sublist (hsub.map _)
 rw [e1]
 generalize (leftOf es seen).toList = l at he hnd
 clear hsub e1
 induction l with
 | nil => cases he
 | cons a l ih =>
  have hnd' : a.born ∉ l.map (·.born) ∧ (l.map (·.born)).Nodup := List.nodup_cons.1 hnd
  by_cases hab : a.born = e.born
  ·have : a = e := by
    rcases List.mem_cons.1 he with rfl | h
    ·rfl
    ·exact absurd (by rw [hab]; exact List.mem_map.2 ⟨e, h, rfl⟩) hnd'.1
   subst this
   rw [List.filter_cons]
   simp only [beq_self_eq_true, Bool.not_true, Bool.false_eq_true, if_false]
   rw [List.filter_eq_self.2]
   intro c hc
   have : ¬ c.born = a.born := fun h => hnd'.1 (by rw [← h]; exact List.mem_map.2 ⟨c, hc, rfl⟩)
   simpa using this
  ·have he' : e ∈ l := by
    rcases List.mem_cons.1 he with rfl | h
    ·exact absurd rfl hab
    ·exact h
   rw [List.filter_cons]
   have : (!(a.born == e.born)) = true := by simpa using hab
   rw [if_pos this]
   exact ((ih he' hnd'.2).cons a).trans (List.Perm.swap e a _)
theorem left_none (es : Array MapEntry) : (leftOf es #[]).toList = es.toList := by
 unfold leftOf; simp
theorem heap_set_same {h : Array Obj} {k : Nat} (o : Obj) (hk : k < h.size) : (h.setIfInBounds k o)[k]? = some o := by simp [hk]
theorem heap_set_other {h : Array Obj} {k i : Nat} (o : Obj) (hk : i ≠ k) : (h.setIfInBounds k o)[i]? = h[i]? := by simp [Ne.symm hk]
def stepW (w : World) (it m since : Nat) (seen : Array Nat) (clock n : Nat) : World := { w with heap := w.heap.setIfInBounds it (.mapIter (some m) since seen clock), drawn := n }
theorem stepW_size (w : World) (it m since : Nat) (seen : Array Nat) (clock n : Nat) : (stepW w it m since seen clock n).heap.size = w.heap.size := by simp [stepW]
end Lv
end
section
/-! A row of files, cloned. -/
namespace Lv
open Go Go.RowKit Go.Proofs
abbrev FQ : Lk.Md := .q .r (.q .r (.q .r (.q .r (.q .r (.q .r .r)))))
theorem info57 : ∃ (i : TypeInfo) (z : Value), Tryz.prog.info? 57 = some i ∧ i.size = 6 ∧ i.bytes = 64 ∧ i.zero = some z ∧ z.cells.size = 6 := by
 have h : (match Tryz.prog.info? 57 with | some i => (match i.zero with | some z => Nat.beq i.size 6 && Nat.beq i.bytes 64 && Nat.beq z.cells.size 6 | none => false) | none => false) = true := by kernel_rfl
 split at h
 ·rename_i i hi
  split at h
  ·rename_i z hz
   simp only [Bool.and_eq_true, Nat.beq_eq] at h
   exact ⟨i, z, hi, h.1.1, h.1.2, hz, h.2⟩
  ·cases h
 ·cases h
theorem clone_nil (w : World) (n c : Nat) : Calls Tryz.prog 63 #[.slice none n c] w fun e w' => e = .returned (.slice none 0 0) ∧ w' = w := by
 have q66 : ∀ (w : World) (a : Option Addr) (n c : Nat), (binOp .eql 66 (.slice a n c) (.slice none 0 0)).run Tryz.prog w = .ok (.bool a.isNone) w := fun w a n c => Lib.run_eql_slice_nil w _ _ a n c 0 0 Tryz.underlying66
 go_enter Tryz.func63, Tryz.ntmps63
 go_wp2
 go_ret
 exact ⟨rfl, rfl⟩
def NewRow (w w' : World) (t : Lk.Ty) (m : Lk.Md) (x : List (Lk.E t)) (v : Value) : Prop :=
 ∃ sh : Lk.LS (Lk.Sh t), v = sh.hd ∧ (∀ (τ : Lk.Ax) (S Sb : Nat → Prop), Lk.hold τ S Sb w' (.l t) (.o m) x sh) ∧ Lk.Ext [] w w' ∧ (Lk.bl (.l t) (.o m) x sh).Nodup ∧ ∀ k ∈ Lk.bl (.l t) (.o m) x sh, w.heap.size ≤ k ∧ k < w'.heap.size
theorem row_any {τ τ' : Lk.Ax} {S Sb S' Sb' : Nat → Prop} {w : World} {t : Lk.Ty} {m : Lk.Md} {x : List (Lk.E t)} {sh : Lk.LS (Lk.Sh t)} (hf : Lk.flat t = true) (hp : pureT t = true) (hn : Lk.nh t m = true)
  (h : Lk.hold τ S Sb w (.l t) (.o m) x sh) : Lk.hold τ' S' Sb' w (.l t) (.o m) x sh := by
 rcases h with h | ⟨cap, h1, h2, h3, h4, h5, h6, h7, h8⟩
 ·exact .inl h
 ·refine .inr ⟨cap, h1, h2, h3, h4, h5, h6, h7, fun i y z hy hz => ?_⟩
  obtain ⟨g1, g2⟩ := h8 i y z hy hz
  refine ⟨by rw [g1]; exact cells_tau _ _ _, Lk.flat_hold (S' := S) _ _ _ _ hf ?_⟩
  have := Lk.flat_rd (S' := S) (w' := w) t m y z hf hn g2
  rw [cells_tau (τ := τ) (τ' := τ')] at this
  exact rd_tau _ _ _ hp this
theorem app_files {τ : Lk.Ax} (w : World) (y : List Lk.LFile) (v : Value) (hy : Lk.Rd τ (fun _ => True) w (.l FT) y [v]) (hl : y.length ≤ 1073741824) :
  ∃ w' v', (Builtin.append_ #[66, 66] 66 #[.slice (some ⟨w.heap.size, 0, none⟩) 0 0, v]).run Tryz.prog (w.alloc (.cells #[] 57)) = .ok v' w' ∧ NewRow w w' FT FQ y v' := by
 obtain ⟨i, z, h1, h2, h3, h4, h5⟩ := info57
 let sh : Lk.LS (Lk.Sh FT) := ⟨.slice (some ⟨w.heap.size, 0, none⟩) 0 0, w.heap.size, 0, [], 57, (0, 0), []⟩
 have hb : Lk.hold τ (fun _ => False) (fun _ => False) (w.alloc (.cells #[] 57)) (.l FT) (.o FQ) [] sh :=
  .inr ⟨0, rfl, rfl, Nat.le_refl _, by simp [Lk.big], by simp [sh], by simpa [sh] using alloc_new w (.cells #[] 57), fun k hk => absurd hk (by simp [sh]), fun i y z hy => by simp at hy⟩
 have hy' : Lk.Rd τ (fun _ => True) (w.alloc (.cells #[] 57)) (.l FT) y [v] := by
  obtain ⟨a, cap, g1, g2, g3, g4, g5⟩ := hy
  refine ⟨a, cap, g1, g2, g3, g4, g5.imp id ?_⟩
  rintro ⟨b, off, C, e, f, k1, k2, k3, k4⟩
  refine ⟨b, off, C, e, f, k1, k2, by rw [alloc_lt _ _ (Array.getElem?_eq_some_iff.1 k3).1]; exact k3, fun i u hu => ?_⟩
  have := k4 i u hu
  obtain ⟨sh, hsh⟩ := Lk.Rd_sh FT u _ this
  rw [← hsh] at this ⊢
  exact Lk.flat_rd (S := fun _ => True) (Sb := fun _ => True) FT .r u sh rfl rfl (by rw [Lk.hold_r]; exact this)
 obtain ⟨vs, f1, f2, f3, f4⟩ := Lk.src_cells (P := Tryz.prog) hy' y.length (Nat.le_refl _)
 obtain ⟨w', d', r1, r2, r3, r4⟩ := Lk.run_append (P := Tryz.prog) (T := 66) (T2 := 66) (e := 57) (Sb := fun _ => False) rfl rfl hb rfl Tryz.underlying66 h1 h2 h4 h5 Tryz.underlying66 (by intro k h; cases h) f4 f1 f2 (fun i u hu => f3 i u (List.getElem?_eq_some_iff.1 hu).1 hu)
  (by rw [h3]; simp only [List.length_nil]; omega) (by simp only [List.length_nil]; omega) 66
 refine ⟨w', _, r1, ?_⟩
 obtain ⟨t, m, x, sh'⟩ := d'
 simp only [Lk.DV.av, Lk.AV.mk.injEq] at r2
 obtain ⟨e1, e2, hx⟩ := r2
 subst e1
 subst e2
 obtain rfl : x = y := eq_of_heq hx
 have hbl : Lk.bl (.l FT) (.o FQ) [] sh = [w.heap.size] := rfl
 have hbd : Lk.DV.bl ⟨.l FT, .o FQ, x, sh'⟩ = Lk.bl (.l FT) (.o FQ) x sh' := rfl
 rw [hbl, hbd] at r4
 have hE0 := ext_alloc (ext_refl w []) (.cells #[] 57)
 refine ⟨sh', rfl, fun τ' S Sb => row_any rfl rfl rfl r3, ?_, ?_, ?_⟩
 ·rcases r4 with ⟨_, hE⟩ | ⟨hE, _⟩
  ·exact ext_tr hE0 hE (by simp)
  ·exact ext_tr hE0 hE (by simp)
 ·rcases r4 with ⟨e, _⟩ | ⟨_, n, e, _⟩
  ·rw [e]; simp
  ·rw [e]; simp
 ·intro k hk
  rcases r4 with ⟨e, hE⟩ | ⟨_, n, e, h6, h7⟩
  ·rw [e, List.mem_singleton] at hk
   have := hE.size
   rw [alloc_size] at this
   omega
  ·rw [e, List.mem_singleton] at hk
   rw [alloc_size] at h6
   omega
theorem nil_row (w : World) (t : Lk.Ty) (m : Lk.Md) : NewRow w w t m [] (.slice none 0 0) :=
 ⟨⟨.slice none 0 0, 0, 0, [], 0, (0, 0), []⟩, rfl, fun _ _ _ => .inl ⟨rfl, rfl⟩, ext_refl _ _, by simp [Lk.bl], by simp [Lk.bl]⟩
set_option maxRecDepth 10000 in
set_option maxHeartbeats 400000 in
theorem clone_any {τ : Lk.Ax} (w : World) (y : List Lk.LFile) (v : Value) (hy : Lk.Rd τ (fun _ => True) w (.l FT) y [v]) (hl : y.length ≤ 1073741824) :
  Calls Tryz.prog 63 #[v] w fun e w' => ∃ v', e = .returned v' ∧ NewRow w w' FT FQ y v' := by
 obtain ⟨w', v', hrun, hN⟩ := app_files w y v hy hl
 obtain ⟨a, cap, g1, _, _, g4, _⟩ := hy
 obtain rfl : v = .slice a y.length cap := by simpa using g1
 cases a with
 | none =>
  refine (clone_nil w _ _).mono ?_
  rintro e w2 ⟨rfl, rfl⟩
  obtain rfl := g4 rfl
  exact ⟨_, rfl, nil_row _ _ _⟩
 | some a =>
  clear g1 g4
  have q66 : ∀ (w : World) (a : Option Addr) (n c : Nat), (binOp .eql 66 (.slice a n c) (.slice none 0 0)).run Tryz.prog w = .ok (.bool a.isNone) w := fun w a n c => Lib.run_eql_slice_nil w _ _ a n c 0 0 Tryz.underlying66
  go_enter Tryz.func63, Tryz.ntmps63
  go_wp2_with (at_builtin; refine wpList_append_run rfl _ _ _ _ rfl rfl rfl 66 rfl hrun ?_)
  go_ret
  exact ⟨v', rfl, hN⟩
end Lv
end
section
/-! New rows as results. -/
namespace Lv
open Go Go.RowKit Go.Proofs
theorem ads_cons {ads : List Lk.DV} {t : Lk.Ty} {m : Lk.Md} {x : Lk.E t} {rest : List Lk.AV} (h : ads.map Lk.DV.av = ⟨t, m, x⟩ :: rest) : ∃ sh ads', ads = ⟨t, m, x, sh⟩ :: ads' ∧ ads'.map Lk.DV.av = rest := by
 cases ads with
 | nil => cases h
 | cons d r =>
  obtain ⟨t', m', x', sh⟩ := d
  simp only [List.map_cons, Lk.DV.av, List.cons.injEq, Lk.AV.mk.injEq] at h
  obtain ⟨⟨rfl, rfl, hx⟩, hr⟩ := h
  obtain rfl := eq_of_heq hx
  exact ⟨sh, r, rfl, hr⟩
theorem ads_nil {ads : List Lk.DV} (h : ads.map Lk.DV.av = []) : ads = [] := List.map_eq_nil_iff.1 h
section
variable {τ : Lk.Ax} {Kw : Lk.KW}
theorem res_new {w w' : World} {S Sb : Nat → Prop} {t : Lk.Ty} {m : Lk.Md} {x : List (Lk.E t)} {v : Value} {B : List Nat} {ads : List Lk.DV} (h : NewRow w w' t m x v) (hS : ∀ b, S b ∨ Sb b → b < w.heap.size) (ha : (ads.filter fun d => Lk.isO d.m) = []) :
  Lk.ResAre (τ := τ) w w' S B [⟨.l t, .o m, x⟩] 1 ads v := by
 obtain ⟨sh, rfl, h1, h2, h3, h4⟩ := h
 have hbl : Lk.blsOf [(⟨.l t, .o m, x, sh⟩ : Lk.DV)] = Lk.bl (.l t) (.o m) x sh := by
  rw [Lk.blsOf_cons]
  exact List.append_nil _
 refine ⟨⟨[⟨.l t, .o m, x, sh⟩], S, rfl, fun _ h => h, fun _ h => .inl h, fun b hb => Nat.lt_of_lt_of_le (hS b (.inl hb)) h2.size, ?_, by rw [hbl]; exact h3, ?_, rfl, by rw [ha]; rfl⟩⟩
 ·intro d hd
  obtain rfl := List.mem_singleton.1 hd
  exact h1 τ S S
 ·intro b hb
  rw [hbl] at hb
  have := h4 b hb
  exact ⟨.inr this.1, this.2, fun h => by have := hS b (.inl h); omega⟩
theorem ok_clone63 : Lk.FnOk (τ := τ) (Kw := Kw) Tryz.prog 63 ⟨[(.l FT, .b)], [(.l FT, .o FQ)], 1⟩ (fun x => bif Nat.ble (List.length x.1) 1073741824 then some (x.1, ()) else none) := by
 rintro ⟨x, _⟩ res hx w S Sb ads hK hs ha hargs
 obtain ⟨sh, ads', rfl, ha1⟩ := ads_cons ha
 obtain rfl := ads_nil ha1
 have hx : (bif Nat.ble (List.length x) 1073741824 then some (x, ()) else none) = some res := hx
 cases hb : Nat.ble (List.length x) 1073741824 with
 | false => rw [hb] at hx; cases hx
 | true =>
  rw [hb] at hx
  cases hx
  rw [Nat.ble_eq] at hb
  have hh : Lk.Rd τ (fun b => S b ∨ Sb b) w (.l FT) x [sh.hd] := hargs.hold _ (List.mem_cons_self ..)
  refine (show Calls Tryz.prog 63 #[sh.hd] w _ from ?_)
  refine (clone_any w x sh.hd (Lk.Rd_keep τ (fun _ _ => ⟨trivial, rfl⟩) _ _ _ hh) hb).mono ?_
  rintro e w' ⟨v', rfl, hN⟩
  refine ⟨v', rfl, ?_, ?_⟩
  ·obtain ⟨_, _, _, hE, _⟩ := hN
   exact ext_more hE (by simp)
  ·exact res_new hN hs rfl
end
end Lv
end
section
namespace LvG0
open Go Lk
noncomputable def tys : BT (Ty × Md) := (.node (.node (.node (.node (.node (.node (.node .leaf 1 (.z .fn, .r) .leaf) 2 (.i .i64, .r) .leaf) 3 (.i .i64, .r) (.node .leaf 4 (.b, .r) .leaf)) 5 (.by, .r) (.node (.node .leaf 6 (.by, .r) .leaf) 7 (.c (.i .i64) (.c (.i .i64) (.c (.b) (.c (.by) (.u)))), (.q .r (.q .r (.q .r (.q .r .r))))) (.node .leaf 8 (.c (.i .i64) (.c (.i .i64) (.c (.b) (.c (.by) (.u)))), (.q .r (.q .r (.q .r (.q .r .r))))) .leaf))) 9 (.s, .r) (.node (.node (.node .leaf 10 (.s, .r) .leaf) 11 (.s, .r) (.node .leaf 12 (.i .u64, .r) .leaf)) 13 (.c (.s) (.c (.i .u64) (.u)), (.q .r (.q .r .r))) (.node (.node .leaf 14 (.c (.s) (.c (.i .u64) (.u)), (.q .r (.q .r .r))) .leaf) 15 (.p (.c (.p (.c (.i .u64) (.c (.i .u64) (.c (.i .u32) (.c (.by) (.c (.by) (.c (.by) (.c (.by) (.c (.z .fn) (.c (.p (.by)) (.c (.i .i32) (.c (.i .i32) (.u))))))))))))) (.c (.p (.c (.i .u64) (.c (.i .u64) (.c (.i .u32) (.c (.by) (.c (.by) (.c (.by) (.c (.by) (.c (.z .fn) (.c (.p (.by)) (.c (.i .i32) (.c (.i .i32) (.u))))))))))))) (.c (.p (.c (.i .u64) (.c (.i .u64) (.c (.i .u32) (.c (.by) (.c (.by) (.c (.by) (.c (.by) (.c (.z .fn) (.c (.p (.by)) (.c (.i .i32) (.c (.i .i32) (.u))))))))))))) (.c (.s) (.u))))), (.o (.q (.o (.q .r (.q .r (.q .r (.q .r (.q .r (.q .r (.q .r (.q .r (.q (.o .r) (.q .r (.q .r .r)))))))))))) (.q (.o (.q .r (.q .r (.q .r (.q .r (.q .r (.q .r (.q .r (.q .r (.q (.o .r) (.q .r (.q .r .r)))))))))))) (.q (.o (.q .r (.q .r (.q .r (.q .r (.q .r (.q .r (.q .r (.q .r (.q (.o .r) (.q .r (.q .r .r)))))))))))) (.q .r .r)))))) (.node .leaf 16 (.z .pt, .r) .leaf)))) 17 (.p (.c (.i .u64) (.c (.i .u64) (.c (.i .u32) (.c (.by) (.c (.by) (.c (.by) (.c (.by) (.c (.z .fn) (.c (.p (.by)) (.c (.i .i32) (.c (.i .i32) (.u)))))))))))), (.o (.q .r (.q .r (.q .r (.q .r (.q .r (.q .r (.q .r (.q .r (.q (.o .r) (.q .r (.q .r .r))))))))))))) (.node (.node (.node (.node (.node .leaf 18 (.c (.p (.c (.i .u64) (.c (.i .u64) (.c (.i .u32) (.c (.by) (.c (.by) (.c (.by) (.c (.by) (.c (.z .fn) (.c (.p (.by)) (.c (.i .i32) (.c (.i .i32) (.u))))))))))))) (.u), (.q (.o (.q .r (.q .r (.q .r (.q .r (.q .r (.q .r (.q .r (.q .r (.q (.o .r) (.q .r (.q .r .r)))))))))))) .r)) .leaf) 19 (.c (.p (.c (.i .u64) (.c (.i .u64) (.c (.i .u32) (.c (.by) (.c (.by) (.c (.by) (.c (.by) (.c (.z .fn) (.c (.p (.by)) (.c (.i .i32) (.c (.i .i32) (.u))))))))))))) (.u), (.q (.o (.q .r (.q .r (.q .r (.q .r (.q .r (.q .r (.q .r (.q .r (.q (.o .r) (.q .r (.q .r .r)))))))))))) .r)) .leaf) 20 (.e, .r) (.node .leaf 21 (.i .i32, .r) .leaf)) 22 (.l (.l TyF), (.o (.o MdF))) (.node (.node .leaf 23 (.l (.l TyF), (.o (.o MdF))) .leaf) 24 (.l TyA, (.o (.q .r (.q .r (.q .r (.q (.o (.o MdF)) (.q (.o .r) .r))))))) (.node .leaf 25 (.z .fn, .r) .leaf))) 26 (.p (.c (.z .mp) (.c (.i .i64) (.c (.z .mp) (.u)))), (.o (.q .r (.q .r (.q .r .r))))) (.node (.node (.node .leaf 27 (.z .fn, .r) .leaf) 28 (.l TyL, (.o (.o (.o MdF)))) (.node .leaf 29 (.l (.i .i64), (.o .r)) .leaf)) 30 (.c (.l TyL) (.c (.l (.i .i64)) (.c (.l (.i .i64)) (.u))), (.q (.o (.o (.o MdF))) (.q (.o .r) (.q (.o .r) .r)))) (.node (.node .leaf 31 (.c (.l TyL) (.c (.l (.i .i64)) (.c (.l (.i .i64)) (.u))), (.q (.o (.o (.o MdF))) (.q (.o .r) (.q (.o .r) .r)))) .leaf) 33 (.z .fn, .r) (.node .leaf 34 (.z .fn, .r) .leaf))))) 35 (.z .fn, .r) (.node (.node (.node (.node (.node (.node .leaf 36 (.z .fn, .r) .leaf) 37 (.l (.s), (.o .r)) .leaf) 38 (.c (.i .i64) (.c (.i .i64) (.c (.i .i64) (.c TyL (.c (.l (.s)) (.u))))), (.q .r (.q .r (.q .r (.q (.o (.o MdF)) (.q (.o .r) .r)))))) (.node .leaf 39 (.c (.i .i64) (.c (.i .i64) (.c (.i .i64) (.c TyL (.c (.l (.s)) (.u))))), (.q .r (.q .r (.q .r (.q (.o (.o MdF)) (.q (.o .r) .r)))))) .leaf)) 40 (.z .fn, .r) (.node (.node .leaf 41 (.z .fn, .r) .leaf) 42 (.z .fn, .r) (.node .leaf 43 (.z .fn, .r) .leaf))) 45 (.z .fn, .r) (.node (.node (.node .leaf 46 (.z .fn, .r) .leaf) 47 (.i .i64, .r) (.node .leaf 48 (.z .fn, .r) .leaf)) 49 (.z .fn, .r) (.node (.node .leaf 50 (.z .fn, .r) .leaf) 51 (.z .fn, .r) (.node .leaf 52 (.z .fn, .r) .leaf)))) 54 (.z .fn, .r) (.node (.node (.node (.node (.node .leaf 55 (.i .u64, .r) .leaf) 56 (.c (.i .i64) (.c (.i .i64) (.c (.s) (.c (.s) (.c (.i .u64) (.c (.i .u64) (.u)))))), MdF) .leaf) 57 (.c (.i .i64) (.c (.i .i64) (.c (.s) (.c (.s) (.c (.i .u64) (.c (.i .u64) (.u)))))), MdF) (.node .leaf 59 (.z .fn, .r) .leaf)) 60 (.z .fn, .r) (.node (.node .leaf 61 (.z .fn, .r) .leaf) 62 (.z .fn, .r) (.node .leaf 64 (.z .fn, .r) .leaf))) 65 (.z .fn, .r) (.node (.node (.node .leaf 66 (.l TyF, (.o MdF)) .leaf) 67 (.c TyL (.c (.i .i64) (.u)), (.q (.o (.o MdF)) (.q .r .r))) (.node .leaf 68 (.c TyL (.c (.i .i64) (.u)), (.q (.o (.o MdF)) (.q .r .r))) .leaf)) 69 (.z .mp, .r) (.node (.node .leaf 70 (.z .mp, .r) .leaf) 71 (.c (.z .mp) (.c (.i .i64) (.c (.z .mp) (.u))), (.q .r (.q .r (.q .r .r)))) (.node .leaf 72 (.c (.z .mp) (.c (.i .i64) (.c (.z .mp) (.u))), (.q .r (.q .r (.q .r .r)))) .leaf))))))
noncomputable def sigs : BT Sig := (.node (.node .leaf 31 ⟨[(.l (.l TyF), .b)], [(.l (.l TyF), (.o (.o MdF)))], 1⟩ .leaf) 48 ⟨[(.c (.i .i64) (.c (.i .i64) (.c (.s) (.c (.s) (.c (.i .u64) (.c (.i .u64) (.u)))))), .r)], [(.b, .r)], 1⟩ (.node .leaf 63 ⟨[(.l TyF, .b)], [(.l TyF, (.o MdF))], 1⟩ .leaf))
noncomputable def bodies : BT Func := (.node (.node .leaf 31 Go.Proofs.Tryz.f31 .leaf) 48 Go.Proofs.Tryz.f48 .leaf)
noncomputable def exts : BT Func := (.node .leaf 63 Go.Proofs.Tryz.f63 .leaf)
noncomputable def lives : BT (List Nat) := (.node .leaf 126979 [0, 3, 9, 10] .leaf)
noncomputable def ext63 : Nat → Tup [(.l Lv.FT, .b)] → Option (Tup [(.l Lv.FT, .o Lv.FQ)]) := fun _ x => bif Nat.ble (List.length x.1) 1073741824 then some (x.1, ()) else none
noncomputable def ext : (g : FuncId) → Option (Nat → Tup ((sigs.get g).getD ⟨[], [], 0⟩).ps → Option (Tup ((sigs.get g).getD ⟨[], [], 0⟩).rs))
 | 63 => some ext63
 | _ => none
noncomputable def lims : BT Nat := (.node (.node .leaf 22 1073741824 .leaf) 23 1073741824 (.node .leaf 66 1073741824 .leaf))
noncomputable def G : Prg where
 ty T := tys.get T
 lim T := (lims.get T).getD 0
 cmp T := memb [] T
 sig g := (sigs.get g).getD ⟨[], [], 0⟩
 body g := bodies.get g
 ext g := ext g
 live g r := lives.get (Nat.add (Nat.mul g 4096) r)
end LvG0
end
section
namespace LvS0
open Go Lk
set_option linter.unusedVariables false
structure V where
 f63 (n : Nat) (a0 : List Lk.LFile) : Option (List Lk.LFile × Unit)
 f31 (n : Nat) (a0 : AbL) : Option (AbL × Unit)
 p31_3 (j n0 : Nat) (v0 : AbL) (v3 : AbL) (v9 : Int) (v10 : Int) : Option (AbL × Unit)
 f48 (n : Nat) (a0 : AbF) : Option (Bool × Unit)
 f63_eq (n : Nat) (a0 : List Lk.LFile) : f63 n a0 = bif Nat.ble (List.length a0) 1073741824 then some (a0, ()) else none
 f31_eq (n : Nat) (a0 : AbL) : f31 (n + 1) a0 = (sel (decide ((↑a0.length : Int) = (↑a0.length : Int))) (sel (decide (0 ≤ (↑a0.length : Int))) (sel (decide ((↑a0.length : Int) ≤ (↑(1073741824 : Nat) : Int))) (p31_3 n n a0 (List.replicate (↑a0.length : Int).toNat []) ((↑a0.length : Int)) ((0 : Int))) none) none) none)
 p31_3_eq (j n0 : Nat) (v0 : AbL) (v3 : AbL) (v9 : Int) (v10 : Int) : p31_3 (j + 1) n0 v0 v3 v9 v10 = (sel (decide (v10 < v9)) (sel (decide (0 ≤ v10)) (sel (decide (v10 < (↑v0.length : Int))) (obind (f63 j (v0.getD v10.toNat [])) fun r200 => (sel (decide (0 ≤ v10)) (sel (decide (v10 < (↑v3.length : Int))) (p31_3 j n0 v0 (v3.set v10.toNat r200.fst) v9 (IntKind.i64.wrap (v10 + 1))) none) none)) none) none) (some (v3, ())))
 f48_eq (n : Nat) (a0 : AbF) : f48 (n + 1) a0 = (sel ((some a0).isSome) (sel (decide (((some a0).getD ((0 : Int), (0 : Int), [], [], (0 : Int), (0 : Int), ())).fst ≥ 1)) (sel ((some a0).isSome) (sel (decide (((some a0).getD ((0 : Int), (0 : Int), [], [], (0 : Int), (0 : Int), ())).fst ≤ 2147483647)) (sel ((some a0).isSome) (sel (decide (((some a0).getD ((0 : Int), (0 : Int), [], [], (0 : Int), (0 : Int), ())).snd.fst ≥ 1)) (sel ((some a0).isSome) (sel (decide (((some a0).getD ((0 : Int), (0 : Int), [], [], (0 : Int), (0 : Int), ())).snd.fst ≤ 268435456)) (sel ((some a0).isSome) (sel (decide ((↑(List.length ((some a0).getD ((0 : Int), (0 : Int), [], [], (0 : Int), (0 : Int), ())).snd.snd.fst) : Int) ≥ 1)) (sel ((some a0).isSome) (sel (decide ((↑(List.length ((some a0).getD ((0 : Int), (0 : Int), [], [], (0 : Int), (0 : Int), ())).snd.snd.fst) : Int) ≤ 1024)) (sel ((some a0).isSome) (sel ((some a0).isSome) (sel (Go.Op.bytesLess ((some a0).getD ((0 : Int), (0 : Int), [], [], (0 : Int), (0 : Int), ())).snd.snd.fst ((some a0).getD ((0 : Int), (0 : Int), [], [], (0 : Int), (0 : Int), ())).snd.snd.snd.fst) (sel ((some a0).isSome) (sel (decide ((↑(List.length ((some a0).getD ((0 : Int), (0 : Int), [], [], (0 : Int), (0 : Int), ())).snd.snd.snd.fst) : Int) ≤ 1025)) (sel ((some a0).isSome) (sel (decide (((some a0).getD ((0 : Int), (0 : Int), [], [], (0 : Int), (0 : Int), ())).snd.snd.snd.snd.fst ≥ 1)) (sel ((some a0).isSome) (sel ((some a0).isSome) (sel (decide (((some a0).getD ((0 : Int), (0 : Int), [], [], (0 : Int), (0 : Int), ())).snd.snd.snd.snd.fst ≤ ((some a0).getD ((0 : Int), (0 : Int), [], [], (0 : Int), (0 : Int), ())).snd.snd.snd.snd.snd.fst)) (sel ((some a0).isSome) (some (decide (((some a0).getD ((0 : Int), (0 : Int), [], [], (0 : Int), (0 : Int), ())).snd.snd.snd.snd.snd.fst ≤ 72057594037927935), ())) none) (some (false, ()))) none) none) (some (false, ()))) none) (some (false, ()))) none) (some (false, ()))) none) none) (some (false, ()))) none) (some (false, ()))) none) (some (false, ()))) none) (some (false, ()))) none) (some (false, ()))) none) (some (false, ()))) none)
end LvS0
end
section
namespace LvG0
open Go Lk
set_option linter.unusedVariables false
@[irreducible] noncomputable def f63 (n : Nat) (a0 : List Lk.LFile) : Option (List Lk.LFile × Unit) := F G n 63 (a0, ())
theorem f63_eq (n : Nat) (a0 : List Lk.LFile) : f63 n a0 = bif Nat.ble (List.length a0) 1073741824 then some (a0, ()) else none := by kernel_rfl
@[irreducible] noncomputable def f31 (n : Nat) (a0 : AbL) : Option (AbL × Unit) := F G n 31 (a0, ())
@[irreducible] noncomputable def p31_3 (j n0 : Nat) (v0 : AbL) (v3 : AbL) (v9 : Int) (v10 : Int) : Option (AbL × Unit) := piece G 31 [.r, .r, .l, .r, .b] j [n0] (skel 23 0 [(0, .av ⟨TyL, .b, v0⟩), (3, .av ⟨TyL, (.o (.o MdF)), v3⟩), (9, aI v9), (10, aI v10)])
@[irreducible] noncomputable def f48 (n : Nat) (a0 : AbF) : Option (Bool × Unit) := F G n 48 (a0, ())
theorem f31_eq (n : Nat) (a0 : AbL) : f31 (n + 1) a0 = (sel (decide ((↑a0.length : Int) = (↑a0.length : Int))) (sel (decide (0 ≤ (↑a0.length : Int))) (sel (decide ((↑a0.length : Int) ≤ (↑(1073741824 : Nat) : Int))) (p31_3 n n a0 (List.replicate (↑a0.length : Int).toNat []) ((↑a0.length : Int)) ((0 : Int))) none) none) none) := by kernel_rfl
theorem p31_3_eq (j n0 : Nat) (v0 : AbL) (v3 : AbL) (v9 : Int) (v10 : Int) : p31_3 (j + 1) n0 v0 v3 v9 v10 = (sel (decide (v10 < v9)) (sel (decide (0 ≤ v10)) (sel (decide (v10 < (↑v0.length : Int))) (obind (f63 j (v0.getD v10.toNat [])) fun r200 => (sel (decide (0 ≤ v10)) (sel (decide (v10 < (↑v3.length : Int))) (p31_3 j n0 v0 (v3.set v10.toNat r200.fst) v9 (IntKind.i64.wrap (v10 + 1))) none) none)) none) none) (some (v3, ()))) := by kernel_rfl
theorem f48_eq (n : Nat) (a0 : AbF) : f48 (n + 1) a0 = (sel ((some a0).isSome) (sel (decide (((some a0).getD ((0 : Int), (0 : Int), [], [], (0 : Int), (0 : Int), ())).fst ≥ 1)) (sel ((some a0).isSome) (sel (decide (((some a0).getD ((0 : Int), (0 : Int), [], [], (0 : Int), (0 : Int), ())).fst ≤ 2147483647)) (sel ((some a0).isSome) (sel (decide (((some a0).getD ((0 : Int), (0 : Int), [], [], (0 : Int), (0 : Int), ())).snd.fst ≥ 1)) (sel ((some a0).isSome) (sel (decide (((some a0).getD ((0 : Int), (0 : Int), [], [], (0 : Int), (0 : Int), ())).snd.fst ≤ 268435456)) (sel ((some a0).isSome) (sel (decide ((↑(List.length ((some a0).getD ((0 : Int), (0 : Int), [], [], (0 : Int), (0 : Int), ())).snd.snd.fst) : Int) ≥ 1)) (sel ((some a0).isSome) (sel (decide ((↑(List.length ((some a0).getD ((0 : Int), (0 : Int), [], [], (0 : Int), (0 : Int), ())).snd.snd.fst) : Int) ≤ 1024)) (sel ((some a0).isSome) (sel ((some a0).isSome) (sel (Go.Op.bytesLess ((some a0).getD ((0 : Int), (0 : Int), [], [], (0 : Int), (0 : Int), ())).snd.snd.fst ((some a0).getD ((0 : Int), (0 : Int), [], [], (0 : Int), (0 : Int), ())).snd.snd.snd.fst) (sel ((some a0).isSome) (sel (decide ((↑(List.length ((some a0).getD ((0 : Int), (0 : Int), [], [], (0 : Int), (0 : Int), ())).snd.snd.snd.fst) : Int) ≤ 1025)) (sel ((some a0).isSome) (sel (decide (((some a0).getD ((0 : Int), (0 : Int), [], [], (0 : Int), (0 : Int), ())).snd.snd.snd.snd.fst ≥ 1)) (sel ((some a0).isSome) (sel ((some a0).isSome) (sel (decide (((some a0).getD ((0 : Int), (0 : Int), [], [], (0 : Int), (0 : Int), ())).snd.snd.snd.snd.fst ≤ ((some a0).getD ((0 : Int), (0 : Int), [], [], (0 : Int), (0 : Int), ())).snd.snd.snd.snd.snd.fst)) (sel ((some a0).isSome) (some (decide (((some a0).getD ((0 : Int), (0 : Int), [], [], (0 : Int), (0 : Int), ())).snd.snd.snd.snd.snd.fst ≤ 72057594037927935), ())) none) (some (false, ()))) none) none) (some (false, ()))) none) (some (false, ()))) none) (some (false, ()))) none) none) (some (false, ()))) none) (some (false, ()))) none) (some (false, ()))) none) (some (false, ()))) none) (some (false, ()))) none) (some (false, ()))) none) := by kernel_rfl
end LvG0
end
section
namespace LvG0
open Go Lk
noncomputable def theV : LvS0.V where
 f63 := f63
 f31 := f31
 p31_3 := p31_3
 f48 := f48
 f63_eq := f63_eq
 f31_eq := f31_eq
 p31_3_eq := p31_3_eq
 f48_eq := f48_eq
end LvG0
end
section
/-! Plain: a version's copy is the version; what may be a file. -/
namespace LvS0
open Go Lk
theorem sel_and (c b : Bool) : sel c (some (b, ())) (some (false, ())) = some (c && b, ()) := by cases c <;> rfl
def mayB (f : LFile) : Bool := decide (f.1 ≥ 1) && (decide (f.1 ≤ 2147483647) && (decide (f.2.1 ≥ 1) && (decide (f.2.1 ≤ 268435456) && (decide ((f.2.2.1.length : Int) ≥ 1) && (decide ((f.2.2.1.length : Int) ≤ 1024) &&
 (Go.Op.bytesLess f.2.2.1 f.2.2.2.1 && (decide ((f.2.2.2.1.length : Int) ≤ 1025) && (decide (f.2.2.2.2.1 ≥ 1) && (decide (f.2.2.2.2.1 ≤ f.2.2.2.2.2.1) && decide (f.2.2.2.2.2.1 ≤ 72057594037927935))))))))))
theorem V.may (h : V) (n : Nat) (f : LFile) : h.f48 (n + 1) f = some (mayB f, ()) := by
 rw [h.f48_eq]
 simp only [Option.isSome_some, Option.getD_some, sel_t, sel_and]
 rfl
theorem V.copied_loop (h : V) (n0 : Nat) (x : List (List LFile)) (hx : x.length ≤ 1073741824) (hy : ∀ y ∈ x, y.length ≤ 1073741824) : ∀ (k i j : Nat), i + k = x.length → k < j → h.p31_3 j n0 x (x.take i ++ List.replicate k []) (x.length : Int) (i : Int) = some (x, ())
 | 0, i, j, hi, hj => by
  obtain ⟨j, rfl⟩ : ∃ j', j = j' + 1 := ⟨j - 1, by omega⟩
  rw [h.p31_3_eq, sel_dec, if_neg (by omega)]
  rw [List.take_of_length_le (by omega)]
  simp
 | k + 1, i, j, hi, hj => by
  obtain ⟨j, rfl⟩ : ∃ j', j = j' + 1 := ⟨j - 1, by omega⟩
  have hil : i < x.length := by omega
  have hl : (x.take i ++ List.replicate (k + 1) ([] : List LFile)).length = x.length := by simp; omega
  rw [h.p31_3_eq, sel_dec, if_pos (by omega), sel_dec, if_pos (by omega), sel_dec, if_pos (by omega), h.f63_eq]
  have e1 : x.getD (i : Int).toNat [] = x[i] := by
   rw [Int.toNat_natCast, List.getD_eq_getElem?_getD, List.getElem?_eq_getElem hil]; rfl
  rw [e1]
  have hb : Nat.ble (x[i]).length 1073741824 = true := by rw [Nat.ble_eq]; exact hy _ (List.getElem_mem hil)
  rw [hb, cond_true, ob_some]
  show sel _ (sel _ (h.p31_3 j n0 x ((x.take i ++ List.replicate (k + 1) []).set (i : Int).toNat x[i]) (x.length : Int) (Go.IntKind.i64.wrap ((i : Int) + 1))) none) none = _
  rw [sel_dec, if_pos (by omega), sel_dec, if_pos (by rw [hl]; omega), wrap64 (by omega) (by omega)]
  have e2 : (x.take i ++ List.replicate (k + 1) ([] : List LFile)).set (i : Int).toNat x[i] = x.take (i + 1) ++ List.replicate k [] := by
   rw [Int.toNat_natCast, List.set_append_right _ _ (by rw [List.length_take]; omega), List.replicate_succ]
   have : i - (x.take i).length = 0 := by rw [List.length_take]; omega
   rw [this, List.set_cons_zero, List.take_succ_eq_append_getElem hil, List.append_assoc]; rfl
  rw [e2]
  have := V.copied_loop h n0 x hx hy k (i + 1) j (by omega) (by omega)
  rw [show ((i + 1 : Nat) : Int) = (i : Int) + 1 by omega] at this
  exact this
theorem V.copied (h : V) (x : List (List LFile)) (hx : x.length ≤ 1073741824) (hy : ∀ y ∈ x, y.length ≤ 1073741824) : h.f31 (x.length + 2) x = some (x, ()) := by
 rw [h.f31_eq, sel_dec, if_pos rfl, sel_dec, if_pos (by omega), sel_dec, if_pos (by omega)]
 have := h.copied_loop (x.length + 1) x hx hy x.length 0 (x.length + 1) (by omega) (by omega)
 simpa using this
end LvS0
end
section
namespace Go.Proofs.YtligonpmifolfaaGreatDoor.LvG0P
open Go.ChangeShapes Go.WideShapes Go.ChangeAt Go.RowKit
variable {ax : Lk.Ax}
abbrev kw : Lk.KW := ⟨fun _ => True, 0⟩
theorem env : Lk.EnvOk ax Tryz.prog LvG0.G.toEnv := Lk.env_ok (tys := LvG0.tys) (lims := LvG0.lims) (cmps := []) (fun _ => rfl) (fun _ => rfl) (fun _ => rfl) (by kernel_rfl) (by kernel_rfl)
theorem names : (LvG0.bodies.toList ++ LvG0.exts.toList).all (fun p => Lk.nameB p.2) = true := by kernel_rfl
theorem nrs : LvG0.bodies.toList.all (Lk.nrB LvG0.sigs) = true := by kernel_rfl
theorem funcs : ∀ p ∈ LvG0.bodies.toList ++ LvG0.exts.toList, Tryz.prog.funcs[p.1]? = some p.2 := by
 intro p hp
 have e : LvG0.bodies.toList ++ LvG0.exts.toList = [(31, Tryz.f31), (48, Tryz.f48), (63, Tryz.f63)] := by kernel_rfl
 rw [e] at hp
 simp only [List.mem_cons, List.not_mem_nil, or_false] at hp
 rcases hp with rfl | rfl | rfl
 ·exact Tryz.func31
 ·exact Tryz.func48
 ·exact Tryz.func63
theorem exts : ∀ g F n, LvG0.G.ext g = some F → Lk.FnOk (τ := ax) (Kw := kw) Tryz.prog g (LvG0.G.sig g) (F n) := by
 intro g F n h
 show Lk.FnOk (τ := ax) (Kw := kw) Tryz.prog g ((LvG0.sigs.get g).getD ⟨[], [], 0⟩) (F n)
 change LvG0.ext g = some F at h
 unfold LvG0.ext at h
 split at h
 ·cases h; exact Lv.ok_clone63
 ·cases h
theorem extb : ∀ g F, LvG0.G.ext g = some F → (LvG0.exts.get g).isSome = true := by
 intro g F h
 change LvG0.ext g = some F at h
 unfold LvG0.ext at h
 split at h
 ·rfl
 ·cases h
theorem prg : Lk.PrgOk kw ax Tryz.prog LvG0.G :=
 Lk.prg_ok (bodies := LvG0.bodies) (exts := LvG0.exts) env (by kernel_rfl) (fun _ _ _ _ _ _ _ => trivial) (fun _ => rfl) extb exts funcs names (by kernel_rfl)
theorem res : ∀ g fn, LvG0.G.body g = some fn → fn.results.size ≤ 5 ∧ (LvG0.G.sig g).nr = fn.results.size := Lk.res_le (bodies := LvG0.bodies) (exts := LvG0.exts) (sigs := LvG0.sigs) (fun _ => rfl) (fun _ => rfl) names nrs
end Go.Proofs.YtligonpmifolfaaGreatDoor.LvG0P
end
section
/-! What a version's copy comes to. -/
namespace Lv
open Go Go.RowKit Go.Proofs
theorem row2_any {τ τ' : Lk.Ax} {S Sb S' Sb' : Nat → Prop} {w : World} {t : Lk.Ty} {m : Lk.Md} {x : List (Lk.E (.l t))} {sh : Lk.LS (Lk.LS (Lk.Sh t))} (hf : Lk.flat t = true) (hp : pureT t = true) (hn : Lk.nh t m = true)
  (h : Lk.hold τ S Sb w (.l (.l t)) (.o (.o m)) x sh) : Lk.hold τ' S' Sb' w (.l (.l t)) (.o (.o m)) x sh := by
 rcases h with h | ⟨cap, h1, h2, h3, h4, h5, h6, h7, h8⟩
 ·exact .inl h
 ·exact .inr ⟨cap, h1, h2, h3, h4, h5, h6, h7, fun i y z hy hz => ⟨(h8 i y z hy hz).1, row_any hf hp hn (h8 i y z hy hz).2⟩⟩
theorem new_of_ok {g : FuncId} {ps : List (Lk.Ty × Lk.Md)} {F : Lk.Tup ps → Option (Lk.Tup [(LvT, .o (.o FQ))])} {τ : Lk.Ax} (hok : Lk.FnOk (τ := τ) (Kw := ⟨fun _ => True, 0⟩) Tryz.prog g ⟨ps, [(LvT, .o (.o FQ))], 1⟩ F)
  {x : Lk.Tup ps} {y : Levels} (hF : F x = some (y, ())) {w : World} {S : Nat → Prop} (hS : ∀ k, S k → k < w.heap.size) {ads : List Lk.DV} (ha : ads.map Lk.DV.av = Lk.avs ps x) (hh : ∀ d ∈ ads, d.hold τ (fun _ => False) (fun b => False ∨ S b) w) (hb : Lk.blsOf ads = []) :
  Calls Tryz.prog g (ads.map (Lk.DV.val τ)).toArray w fun e w' => ∃ v', e = .returned v' ∧ NewRow w w' (.l FT) (.o FQ) y v' := by
 refine (hok x _ hF w (fun _ => False) S ads trivial (fun b h => h.elim (fun h => h.elim) (hS b)) ha ⟨hh, by rw [hb]; simp, by rw [hb]; simp, by rw [hb]; simp, Nat.zero_le _⟩).mono ?_
 rintro e w' ⟨v, rfl, hE, ⟨rds, S', q1, q2, q3, q4, q5, q6, q7, q8, q9⟩⟩
 obtain ⟨sh, rds', rfl, q1'⟩ := ads_cons q1
 obtain rfl := ads_nil q1'
 rw [hb] at hE q7
 have hbl : Lk.blsOf [(⟨LvT, .o (.o FQ), y, sh⟩ : Lk.DV)] = Lk.bl LvT (.o (.o FQ)) y sh := by
  rw [Lk.blsOf_cons]
  exact List.append_nil _
 rw [hbl] at q6 q7
 refine ⟨v, rfl, sh, q8, fun τ' T Tb => row2_any rfl rfl rfl (q5 _ (List.mem_cons_self ..)), hE, q6, fun k hk => ?_⟩
 obtain ⟨h1, h2, _⟩ := q7 k hk
 exact ⟨h1.resolve_left (by simp), h2⟩
def smallL (x : Levels) : Bool := Nat.ble x.length 1073741824 && x.all fun y => Nat.ble (List.length y) 1073741824
theorem copied_any {τ : Lk.Ax} (w : World) (x : Levels) (v : Value) {S : Nat → Prop} (hr : Lk.Rd τ S w LvT x [v]) (hS : ∀ k, S k → k < w.heap.size) (hx : smallL x = true) :
  Calls Tryz.prog 31 #[v] w fun e w' => ∃ v', e = .returned v' ∧ NewRow w w' (.l FT) (.o FQ) x v' := by
 obtain ⟨sh, hsh⟩ := Lk.Rd_sh LvT x _ hr
 unfold smallL at hx
 simp only [Bool.and_eq_true, Nat.ble_eq, List.all_eq_true] at hx
 have hF := LvG0.theV.copied x hx.1 hx.2
 have hok : Lk.FnOk (τ := τ) (Kw := ⟨fun _ => True, 0⟩) Tryz.prog 31 ⟨[(LvT, .b)], [(LvT, .o (.o FQ))], 1⟩ (Lk.F LvG0.G (x.length + 2) 31) := Lk.F_ok Go.Proofs.YtligonpmifolfaaGreatDoor.LvG0P.prg Go.Proofs.YtligonpmifolfaaGreatDoor.LvG0P.res (x.length + 2) 31
 have hv : v = sh.hd := by
  have : [sh.hd] = [v] := hsh
  simpa using this.symm
 have := new_of_ok hok (x := (x, ())) (y := x) (hF := by
  have e := hF
  change LvG0.f31 (x.length + 2) x = _ at e
  unfold LvG0.f31 at e
  exact e) hS (ads := [⟨LvT, .b, x, sh⟩]) rfl (by
   intro d hd
   obtain rfl := List.mem_singleton.1 hd
   show Lk.Rd τ _ w LvT x _
   rw [hsh]
   exact Lk.Rd_keep τ (fun b hb => ⟨.inr hb, rfl⟩) _ _ _ hr) rfl
 rw [hv]
 exact this
end Lv
end
section
/-! What makes levels a version's; how they are read. -/
namespace Lv
open Go Go.RowKit Go.Proofs
open LvS0 (mayB)
def inner (i : Nat) : Option Lk.LFile → List Lk.LFile → List (Int × Int) → Option (List (Int × Int))
 | _, [], seen => some seen
 | prev, f :: rest, seen =>
  let c := (get seen f.1).getD 0 + 1
  if mayB f = false ∨ 1 < c then none else
  match prev with
  | none => inner i (some f) rest (put seen f.1 c)
  | some p => bif (bif Nat.beq i 0 then decide (p.1 ≥ f.1) else (!Go.Op.bytesLess p.2.2.2.1 f.2.2.1 && !p.2.2.2.1 == f.2.2.1)) then none else inner i (some f) rest (put seen f.1 c)
def outer (i : Nat) : Levels → List (Int × Int) → Bool
 | [], _ => true
 | y :: rest, seen => match inner i none y seen with
  | none => false
  | some s => outer (i + 1) rest s
def validM (x : Levels) : Bool := decide (1 ≤ x.length) && decide (x.length ≤ 7) && outer 0 x []
def fcells (f : Lk.LFile) : List Value := [.int .i64 f.1, .int .i64 f.2.1, .string ⟨List.toArray f.2.2.1⟩, .string ⟨List.toArray f.2.2.2.1⟩, .int .u64 f.2.2.2.2.1, .int .u64 f.2.2.2.2.2.1]
def okF (f : Lk.LFile) : Prop := f.2.2.1.length ≤ Lk.big ∧ f.2.2.2.1.length ≤ Lk.big ∧ Lk.inR .i64 f.1 ∧ Lk.inR .i64 f.2.1 ∧ Lk.inR .u64 f.2.2.2.2.1 ∧ Lk.inR .u64 f.2.2.2.2.2.1
variable {τ : Lk.Ax} {S : Nat → Prop} {w : World}
theorem rd_file {f : Lk.LFile} {cs : List Value} (h : Lk.Rd τ S w FT f cs) : cs = fcells f ∧ okF f := by
 obtain ⟨_, _, rfl, ⟨rfl, h1⟩, _, _, rfl, ⟨rfl, h4⟩, _, _, rfl, ⟨rfl, h2⟩, _, _, rfl, ⟨rfl, h3⟩, _, _, rfl, ⟨rfl, h5⟩, _, _, rfl, ⟨rfl, h6⟩, rfl⟩ := h
 exact ⟨rfl, h2, h3, h1, h4, h5, h6⟩
theorem cell_of_win {C : Array Value} {o k j : Nat} {vs : List Value} {b : Nat} {e : TypeId} {fz : Nat × Nat} (hc : w.heap[b]? = some (.cells C e fz)) (hw : Lk.win C.toList o k = vs) (hj : j < vs.length) : w.cell? ⟨b, o + j, none⟩ = some vs[j] := by
 unfold World.cell?
 simp only [hc]
 have h1 : vs[j]? = some vs[j] := List.getElem?_eq_getElem hj
 generalize vs[j] = u at h1 ⊢
 rw [← hw] at h1
 unfold Lk.win at h1
 rw [List.getElem?_take] at h1
 split at h1
 ·rw [List.getElem?_drop, Array.getElem?_toList] at h1
  simpa using h1
 ·cases h1
theorem rd_level {y : List Lk.LFile} {u : Value} (h : Lk.Rd τ S w (.l FT) y [u]) : y.length ≤ Lk.big ∧ ∃ a c, u = .slice a y.length c ∧ ∀ i f, y[i]? = some f → okF f ∧ ∃ b o, a = some ⟨b, o, none⟩ ∧ S b ∧
  w.cell? ⟨b, o + i * 6, none⟩ = some (.int .i64 f.1) ∧ w.cell? ⟨b, o + i * 6 + 1, none⟩ = some (.int .i64 f.2.1) ∧ w.cell? ⟨b, o + i * 6 + 2, none⟩ = some (.string ⟨List.toArray f.2.2.1⟩) ∧ w.cell? ⟨b, o + i * 6 + 3, none⟩ = some (.string ⟨List.toArray f.2.2.2.1⟩) ∧
  w.cell? ⟨b, o + i * 6 + 4, none⟩ = some (.int .u64 f.2.2.2.2.1) ∧ w.cell? ⟨b, o + i * 6 + 5, none⟩ = some (.int .u64 f.2.2.2.2.2.1) := by
 obtain ⟨a, c, h1, g2, g3, _, h5⟩ := h
 refine ⟨Nat.le_trans g2 g3, a, c, by simpa using h1, fun i f hf => ?_⟩
 rcases h5 with rfl | ⟨b, o, C, e, fz, rfl, hS, hc, hx⟩
 ·cases hf
 ·obtain ⟨g, hok⟩ := rd_file (hx i f hf)
  have g : Lk.win C.toList (o + i * 6) 6 = fcells f := g
  have k := fun j (hj : j < 6) => cell_of_win (j := j) hc g hj
  exact ⟨hok, b, o, rfl, hS, k 0 (by omega), k 1 (by omega), k 2 (by omega), k 3 (by omega), k 4 (by omega), k 5 (by omega)⟩
theorem rd_levels {x : Levels} {v : Value} (h : Lk.Rd τ S w LvT x [v]) : ∃ a c, v = .slice a x.length c ∧ ∀ i y, x[i]? = some y → ∃ b o u, a = some ⟨b, o, none⟩ ∧ S b ∧ w.cell? ⟨b, o + i, none⟩ = some u ∧ Lk.Rd τ S w (.l FT) y [u] := by
 obtain ⟨a, c, h1, _, _, _, h5⟩ := h
 refine ⟨a, c, by simpa using h1, fun i y hy => ?_⟩
 rcases h5 with rfl | ⟨b, o, C, e, fz, rfl, hS, hc, hx⟩
 ·cases hy
 ·have hr := hx i y hy
  have hr' := hr
  obtain ⟨a', c', g1, _⟩ := hr
  have g : Lk.win C.toList (o + i * 1) 1 = [.slice a' y.length c'] := g1
  rw [Nat.mul_one] at g
  refine ⟨b, o, _, rfl, hS, cell_of_win (j := 0) hc g (by simp), ?_⟩
  have hr' : Lk.Rd τ S w (.l FT) y (Lk.win C.toList (o + i * 1) 1) := hr'
  rw [Nat.mul_one, g] at hr'
  exact hr'
theorem may_any (w : World) (f : Lk.LFile) (h : okF f) :
  Calls Tryz.prog 48 #[.agg #[.int .i64 f.1, .int .i64 f.2.1, .string ⟨List.toArray f.2.2.1⟩, .string ⟨List.toArray f.2.2.2.1⟩, .int .u64 f.2.2.2.2.1, .int .u64 f.2.2.2.2.2.1]] w fun e w' => e = .returned (.bool (mayB f)) ∧ Lk.Ext [] w w' := by
 obtain ⟨h1, h2, hr⟩ := h
 have hF := LvG0.theV.may 0 f
 have hok : Lk.FnOk (τ := ax0) (Kw := ⟨fun _ => True, 0⟩) Tryz.prog 48 ⟨[(FT, .r)], [(.b, .r)], 1⟩ (Lk.F LvG0.G 1 48) := Lk.F_ok Go.Proofs.YtligonpmifolfaaGreatDoor.LvG0P.prg Go.Proofs.YtligonpmifolfaaGreatDoor.LvG0P.res 1 48
 change LvG0.f48 1 f = _ at hF
 unfold LvG0.f48 at hF
 let d : Lk.DV := ⟨FT, .r, f, ((), (), (), (), (), (), ())⟩
 have hbl : Lk.blsOf [d] = [] := rfl
 have hc := hok (f, ()) _ hF w (fun _ => False) (fun _ => False) [d] trivial (fun b h => by simp at h) rfl ⟨by
  intro e he
  obtain rfl := List.mem_singleton.1 he
  exact ⟨_, _, rfl, ⟨rfl, hr.1⟩, _, _, rfl, ⟨rfl, hr.2.1⟩, _, _, rfl, ⟨rfl, h1⟩, _, _, rfl, ⟨rfl, h2⟩, _, _, rfl, ⟨rfl, hr.2.2.1⟩, _, _, rfl, ⟨rfl, hr.2.2.2⟩, rfl⟩, by rw [hbl]; simp, by rw [hbl]; simp, by rw [hbl]; simp, Nat.zero_le _⟩
 refine Calls.mono hc ?_
 rintro e w' ⟨v, rfl, hE, ⟨rds, S', q1, _, _, _, q5, _, _, q8, _⟩⟩
 obtain ⟨sh, rds', rfl, q1'⟩ := ads_cons q1
 obtain rfl := ads_nil q1'
 exact ⟨by rw [q8]; rfl, hE⟩
end Lv
end
section
/-! What makes levels a version's: the walk's steps. -/
namespace Lv
open Go Go.RowKit Go.Proofs
open LvS0 (mayB)
def intV (l : List (Int × Int)) : List (Int × Value) := l.map fun p => (p.1, .int .i64 p.2)
theorem cell_ext {w w1 : World} {k j : Nat} {z : Value} (hE : Lk.Ext [] w w1) (hk : k < w.heap.size) (hz : w.cell? ⟨k, j, none⟩ = some z) : w1.cell? ⟨k, j, none⟩ = some z := by
 unfold World.cell? at hz ⊢
 rw [hE.block k hk (by simp)]
 exact hz
def FileVar (w : World) (B : Nat) (f : Lk.LFile) : Prop :=
 w.cell? ⟨B, 0, none⟩ = some (.int .i64 f.1) ∧ w.cell? ⟨B, 1, none⟩ = some (.int .i64 f.2.1) ∧ w.cell? ⟨B, 2, none⟩ = some (.string ⟨List.toArray f.2.2.1⟩) ∧ w.cell? ⟨B, 3, none⟩ = some (.string ⟨List.toArray f.2.2.2.1⟩) ∧
  w.cell? ⟨B, 4, none⟩ = some (.int .u64 f.2.2.2.2.1) ∧ w.cell? ⟨B, 5, none⟩ = some (.int .u64 f.2.2.2.2.2.1)
def fileO (f : Lk.LFile) : Obj := .cells #[.int .i64 f.1, .int .i64 f.2.1, .string ⟨List.toArray f.2.2.1⟩, .string ⟨List.toArray f.2.2.2.1⟩, .int .u64 f.2.2.2.2.1, .int .u64 f.2.2.2.2.2.1] 57
theorem FileVar.new (w : World) (f : Lk.LFile) : FileVar (w.alloc (fileO f)) w.heap.size f := by
 have h : (w.alloc (fileO f)).heap[w.heap.size]? = some (fileO f) := alloc_new w (fileO f)
 unfold FileVar World.cell?
 rw [h]
 exact ⟨rfl, rfl, rfl, rfl, rfl, rfl⟩
theorem FileVar.keep {w w' : World} {B : Nat} {f : Lk.LFile} (h : FileVar w B f) (hb : w'.heap[B]? = w.heap[B]?) : FileVar w' B f := by
 unfold FileVar World.cell? at *
 simp only [hb]
 exact h
structure Out (w : World) (x : Levels) (i : Nat) (seen : List (Int × Int)) (wr : World) : Prop where
 le : i ≤ x.length
 map : ∃ es c, MapAt wr w.heap.size es c (intV seen)
 ext : Lk.Ext [] w wr
 one : ∀ p ∈ seen, p.2 = 1
 eq : outer 0 x [] = outer i (x.drop i) seen
structure Inn (w : World) (x : Levels) (i : Nat) (y : List Lk.LFile) (k : Nat) (seen : List (Int × Int)) (wr : World) : Prop where
 le : k ≤ y.length
 map : ∃ es c, MapAt wr w.heap.size es c (intV seen)
 ext : Lk.Ext [] w wr
 one : ∀ p ∈ seen, p.2 = 1
 eq : outer 0 x [] = (match inner i (if k = 0 then none else y[k - 1]?) (y.drop k) seen with | none => false | some s => outer (i + 1) (x.drop (i + 1)) s)
def OutR (w : World) (x : Levels) (v : Value) (wr : World) : Prop := ∃ (i : Nat) (seen : List (Int × Int)), v = .int .i64 i ∧ Out w x i seen wr
def InnR (w : World) (x : Levels) (i : Nat) (y : List Lk.LFile) (v : Value) (wr : World) : Prop := ∃ (k : Nat) (seen : List (Int × Int)), v = .int .i64 k ∧ Inn w x i y k seen wr
theorem OutR.start (w : World) (x : Levels) : OutR w x (.int .i64 0) (w.alloc (.map #[] 0)) :=
 ⟨0, [], rfl, Nat.zero_le _, ⟨#[], 0, alloc_new _ _, rfl, MapKept.stamped_empty 0⟩, ext_alloc (ext_refl _ _) _, by simp, rfl⟩
theorem Out.inn {w wr : World} {x : Levels} {i : Nat} {seen : List (Int × Int)} (h : Out w x i seen wr) {y : List Lk.LFile} (hy : x[i]? = some y) : InnR w x i y (.int .i64 0) wr :=
 ⟨0, seen, rfl, Nat.zero_le _, h.map, h.ext, h.one, by
  obtain ⟨hi, rfl⟩ := List.getElem?_eq_some_iff.1 hy
  rw [h.eq, List.drop_eq_getElem_cons hi]
  rfl⟩
theorem Inn.out {w wr : World} {x : Levels} {i : Nat} {y : List Lk.LFile} {seen : List (Int × Int)} (h : Inn w x i y y.length seen wr) (hi : i < x.length) : Out w x (i + 1) seen wr :=
 ⟨hi, h.map, h.ext, h.one, by rw [h.eq, List.drop_length]; simp [inner]⟩
theorem Out.done {w wr : World} {x : Levels} {seen : List (Int × Int)} (h : Out w x x.length seen wr) : outer 0 x [] = true := by
 rw [h.eq, List.drop_length]; rfl
theorem seen_c {seen : List (Int × Int)} (h : ∀ p ∈ seen, p.2 = 1) (k : Int) : (get seen k).getD 0 = 0 ∨ (get seen k).getD 0 = 1 := by
 cases hg : get seen k with
 | none => exact .inl rfl
 | some v => exact .inr (h _ (get_mem hg))
theorem get_put {α : Type} (l : List (Int × α)) (k : Int) (v : α) : get (put l k v) k = some v := by
 unfold put
 cases hh : has l k with
 | true =>
  rw [cond_true]
  unfold get
  rw [List.find?_map]
  have e : ((fun p : Int × α => p.1 == k) ∘ fun p => if p.1 == k then (k, v) else p) = fun p => p.1 == k := by
   funext p
   simp only [Function.comp]
   split
   ·rename_i h; rw [h]; simp
   ·rfl
  rw [e]
  unfold has at hh
  cases hf : l.find? (fun p => p.1 == k) with
  | none =>
   rw [List.any_eq_true] at hh
   obtain ⟨p, hp, hpk⟩ := hh
   exact absurd hpk (List.find?_eq_none.1 hf p hp)
  | some q =>
   have := List.find?_some hf
   simp only [Option.map_some]
   rw [if_pos this]
 | false =>
  rw [cond_false]
  unfold get
  rw [List.find?_append]
  have : l.find? (fun p => p.1 == k) = none := by
   unfold has at hh
   rw [List.any_eq_false] at hh
   rw [List.find?_eq_none]
   exact hh
  rw [this]
  simp
theorem zero3 (w : World) : (zeroValue 3).run Tryz.prog w = .ok (.int .i64 0) w := by
 have h : ∃ i, Tryz.prog.info? 3 = some i ∧ i.zero = some (.int .i64 0) := by
  have h : (match Tryz.prog.info? 3 with | some i => (match i.zero with | some (.int .i64 0) => true | _ => false) | none => false) = true := by kernel_rfl
  split at h
  ·rename_i i hi
   split at h
   ·exact ⟨i, hi, by assumption⟩
   ·cases h
  ·cases h
 obtain ⟨i, h1, h2⟩ := h
 exact Lk.run_zero h1 h2
theorem Inn.count {w wr : World} {x : Levels} {i : Nat} {y : List Lk.LFile} {k : Nat} {seen : List (Int × Int)} (h : Inn w x i y k seen wr) (f : Lk.LFile) :
  let W := wr.alloc (fileO f)
  let c := (get seen f.1).getD 0
  ∃ w2, (Instr.lookup 70 (.map (some w.heap.size)) (.int .i64 f.1) false).run Tryz.prog W = .ok (.int .i64 c) W ∧ IntKind.i64.wrap (c + 1) = c + 1 ∧
   (Instr.mapUpdate 70 (.map (some w.heap.size)) (.int .i64 f.1) (.int .i64 (c + 1))).run Tryz.prog W = .ok () w2 ∧ FileVar W wr.heap.size f ∧ FileVar w2 wr.heap.size f ∧ Lk.Ext [] w w2 ∧ wr.heap.size < w2.heap.size ∧ w.heap.size < wr.heap.size ∧
   (∃ es c', MapAt w2 w.heap.size es c' (intV (put seen f.1 (c + 1)))) ∧
   ∀ w3, Lk.Ext [] w2 w3 → (Instr.lookup 70 (.map (some w.heap.size)) (.int .i64 f.1) false).run Tryz.prog w3 = .ok (.int .i64 (c + 1)) w3 ∧ FileVar w3 wr.heap.size f ∧ Lk.Ext [] w w3 ∧ ∃ es c', MapAt w3 w.heap.size es c' (intV (put seen f.1 (c + 1))) := by
 intro W c
 obtain ⟨es, cl, hM⟩ := h.map
 have hlt : w.heap.size < wr.heap.size := hM.lt
 have hMW : MapAt W w.heap.size es cl (intV seen) := hM.keep (alloc_lt wr _ hlt)
 have hget : ∀ l : List (Int × Int), (get (intV l) f.1).getD (.int .i64 0) = .int .i64 ((get l f.1).getD 0) := fun l => by
  unfold intV
  rw [get_map (fun v => Value.int .i64 v)]
  cases get l f.1 <;> rfl
 have hL := hMW.lookup Tryz.underlying70 Tryz.underlying3 (zero3 W) f.1
 rw [hget] at hL
 have hc := seen_c h.one f.1
 obtain ⟨es2, c2, hU, hM2⟩ := hMW.update Tryz.underlying70 Tryz.underlying3 f.1 (.int .i64 (c + 1))
 have hput : put (intV seen) f.1 (.int .i64 (c + 1)) = intV (put seen f.1 (c + 1)) := put_map (fun v => Value.int .i64 v) seen f.1 (c + 1)
 rw [hput] at hM2
 have hW : FileVar W wr.heap.size f := FileVar.new wr f
 have hW2 : FileVar (setMap W w.heap.size es2 c2) wr.heap.size f := hW.keep (setMap_other (by omega))
 have hX : Lk.Ext [] w (setMap W w.heap.size es2 c2) := ext_setMap (.inr (Nat.le_refl _)) (ext_alloc h.ext _) _ _
 have hsz : wr.heap.size < (setMap W w.heap.size es2 c2).heap.size := by rw [setMap_size]; show _ < (wr.alloc _).heap.size; rw [alloc_size]; omega
 refine ⟨_, hL, Lk.wrap64 (by rcases hc with h | h <;> show _ ≤ (get seen f.1).getD 0 + 1 <;> omega) (by rcases hc with h | h <;> show (get seen f.1).getD 0 + 1 ≤ _ <;> omega), hU, hW, hW2, hX, hsz, hlt, ⟨_, _, hM2⟩, fun w3 h3 => ?_⟩
 have hM3 : MapAt w3 w.heap.size es2 c2 (intV (put seen f.1 (c + 1))) := hM2.keep (h3.block _ (by omega) (by simp))
 have hL3 := hM3.lookup Tryz.underlying70 Tryz.underlying3 (zero3 w3) f.1
 rw [hget, get_put] at hL3
 exact ⟨hL3, hW2.keep (h3.block _ hsz (by simp)), ext_tr hX h3 (by simp), _, _, hM3⟩
def bad (i : Nat) (p f : Lk.LFile) : Bool := bif Nat.beq i 0 then decide (p.1 ≥ f.1) else (!Go.Op.bytesLess p.2.2.2.1 f.2.2.1 && !p.2.2.2.1 == f.2.2.1)
theorem inner_cons (i : Nat) (prev : Option Lk.LFile) (f : Lk.LFile) (rest : List Lk.LFile) (seen : List (Int × Int)) :
  inner i prev (f :: rest) seen = if mayB f = false ∨ 1 < (get seen f.1).getD 0 + 1 then none else match prev with
   | none => inner i (some f) rest (put seen f.1 ((get seen f.1).getD 0 + 1))
   | some p => bif bad i p f then none else inner i (some f) rest (put seen f.1 ((get seen f.1).getD 0 + 1)) := by
 cases prev <;> rfl
theorem Inn.step {w wr w3 : World} {x : Levels} {i : Nat} {y : List Lk.LFile} {k : Nat} {seen : List (Int × Int)} {f : Lk.LFile} (h : Inn w x i y k seen wr) (hf : y[k]? = some f) (hm : mayB f = true) (hc : (get seen f.1).getD 0 + 1 ≤ 1)
  (hp : ∀ p, k ≠ 0 → y[k - 1]? = some p → bad i p f = false) (hM : ∃ es c', MapAt w3 w.heap.size es c' (intV (put seen f.1 ((get seen f.1).getD 0 + 1)))) (hX : Lk.Ext [] w w3) : Inn w x i y (k + 1) (put seen f.1 ((get seen f.1).getD 0 + 1)) w3 := by
 obtain ⟨hk, hfk⟩ := List.getElem?_eq_some_iff.1 hf
 refine ⟨hk, hM, hX, fun p hp' => ?_, ?_⟩
 ·rcases mem_put hp' with h1 | h1
  ·exact h.one p h1
  ·rcases seen_c h.one f.1 with h2 | h2
   ·rw [h1]; show (get seen f.1).getD 0 + 1 = 1; omega
   ·omega
 ·rw [h.eq, List.drop_eq_getElem_cons hk, hfk, inner_cons, if_neg (by rw [hm]; simp; omega)]
  have e : (if k + 1 = 0 then none else y[k + 1 - 1]?) = some f := by rw [if_neg (by omega)]; exact hf
  rw [e]
  by_cases h0 : k = 0
  ·rw [if_pos h0]
  ·rw [if_neg h0]
   have hk1 : k - 1 < y.length := by omega
   rw [List.getElem?_eq_getElem hk1]
   simp only
   rw [hp _ h0 (List.getElem?_eq_getElem hk1), cond_false]
theorem Inn.fail {w wr : World} {x : Levels} {i : Nat} {y : List Lk.LFile} {k : Nat} {seen : List (Int × Int)} {f : Lk.LFile} (h : Inn w x i y k seen wr) (hf : y[k]? = some f)
  (hb : mayB f = false ∨ 1 < (get seen f.1).getD 0 + 1 ∨ ∃ p, k ≠ 0 ∧ y[k - 1]? = some p ∧ bad i p f = true) : outer 0 x [] = false := by
 obtain ⟨hk, hfk⟩ := List.getElem?_eq_some_iff.1 hf
 rw [h.eq, List.drop_eq_getElem_cons hk, hfk, inner_cons]
 by_cases hc : mayB f = false ∨ 1 < (get seen f.1).getD 0 + 1
 ·rw [if_pos hc]
 ·rw [if_neg hc]
  rcases hb with hb | hb | ⟨p, h1, h2, h3⟩
  ·exact absurd (.inl hb) hc
  ·exact absurd (.inr hb) hc
  ·rw [if_neg h1, h2]
   simp only [h3, cond_true]
end Lv
end
section
/-! What makes levels a version's: the walk. -/
namespace Lv
open Go Go.RowKit Go.Proofs
open LvS0 (mayB)
theorem map_drew {w3 : World} {m : Nat} {kv : List (Int × Value)} (n : Nat) (h : ∃ es c', MapAt w3 m es c' kv) : ∃ es c', MapAt ({ w3 with drawn := n } : World) m es c' kv := by
 obtain ⟨es, c', h⟩ := h
 exact ⟨es, c', h.keep rfl⟩
theorem bad_zero {i : Nat} {p f : Lk.LFile} (h : ((i : Int) == 0) = true) : bad i p f = decide (p.1 ≥ f.1) := by
 have : i = 0 := by simpa using h
 subst this
 rfl
theorem bad_more {i : Nat} {p f : Lk.LFile} (h : ((i : Int) == 0) = false) : bad i p f = (!Go.Op.bytesLess p.2.2.2.1 f.2.2.1 && !p.2.2.2.1 == f.2.2.1) := by
 have h0 : ¬ i = 0 := by simpa using h
 unfold bad
 have : Nat.beq i 0 = false := by cases i <;> first | exact absurd rfl h0 | rfl
 rw [this]
 rfl
theorem wrap_step {k n : Nat} (h : k < n) (hn : n ≤ Lk.big) : wrap64 ((k : Int) + 1) = ((k + 1 : Nat) : Int) := by
 unfold wrap64
 simp only [Lk.big] at hn
 omega
set_option maxHeartbeats 4000000 in
set_option maxRecDepth 100000 in
theorem valid_any {τ : Lk.Ax} (w : World) (x : Levels) (v : Value) {S : Nat → Prop} (hr : Lk.Rd τ S w LvT x [v]) (hS : ∀ k, S k → k < w.heap.size) :
  Calls Tryz.prog 14 #[v] w fun e w' => e = .returned (.bool (validM x)) ∧ Lk.Ext [] w w' := by
 obtain ⟨a, c, rfl, hx⟩ := rd_levels hr
 clear hr
 have hmm := @run_makeMap Tryz.prog
 by_cases h1 : x.length < 1
 ·have hv : validM x = false := by unfold validM; rw [decide_eq_false (by omega)]; rfl
  have h1' : (x.length : Int) < 1 := by omega
  rw [hv]
  go_enter Tryz.func14, Tryz.ntmps14
  go_wp2
  go_ret
  exact ⟨rfl, ext_refl _ _⟩
 by_cases h2 : 7 < x.length
 ·have hv : validM x = false := by unfold validM; rw [decide_eq_false (show ¬ x.length ≤ 7 by omega)]; simp
  have h1' : ¬ (x.length : Int) < 1 := by omega
  have h2' : (7 : Int) < x.length := by omega
  rw [hv]
  go_enter Tryz.func14, Tryz.ntmps14
  go_wp2
  go_ret
  exact ⟨rfl, ext_refl _ _⟩
 have h1' : ¬ (x.length : Int) < 1 := by omega
 have h2' : ¬ (7 : Int) < x.length := by omega
 have hv : validM x = outer 0 x [] := by unfold validM; rw [decide_eq_true (show 1 ≤ x.length by omega), decide_eq_true (show x.length ≤ 7 by omega)]; rfl
 rw [hv]
 have hst := OutR.start w x
 go_enter Tryz.func14, Tryz.ntmps14
 go_wp2
 go_loopw [19] (fun v wr => OutR w x v wr) (fun v _ => x.length - (intOf v).toNat)
 case atStart => exact hst
 case round =>
  obtain ⟨i, seen, rfl, hO⟩ := hrel
  have hi := hO.le
  by_cases hlt : i < x.length
  ·have hi1 : (i : Int) < x.length := by omega
   obtain ⟨b, o, u, rfl, hSb, hcell, hru⟩ := hx i _ (List.getElem?_eq_getElem hlt)
   have e0 := cell_ext hO.ext (hS b hSb) hcell
   obtain ⟨hyb, a', c', rfl, hfiles⟩ := rd_level hru
   clear hru hx
   have hst2 := hO.inn (List.getElem?_eq_getElem hlt)
   generalize hy : x[i] = y at *
   go_wp2
   go_loopw [26] (fun v wr => InnR w x i y v wr) (fun v _ => y.length - (intOf v).toNat)
   case atStart => exact hst2
   case round =>
    obtain ⟨k, seen2, rfl, hI⟩ := hrel
    have hk := hI.le
    by_cases hkl : k < y.length
    ·have hk1 : (k : Int) < y.length := by omega
     obtain ⟨hokf, b2, o2, rfl, hSb2, f0, f1, f2, f3, f4, f5⟩ := hfiles k _ (List.getElem?_eq_getElem hkl)
     have hfk : y[k]? = some y[k] := List.getElem?_eq_getElem hkl
     generalize y[k] = f at *
     have g0 := cell_ext hI.ext (hS b2 hSb2) f0
     have g1 := cell_ext hI.ext (hS b2 hSb2) f1
     have g2 := cell_ext hI.ext (hS b2 hSb2) f2
     have g3 := cell_ext hI.ext (hS b2 hSb2) f3
     have g4 := cell_ext hI.ext (hS b2 hSb2) f4
     have g5 := cell_ext hI.ext (hS b2 hSb2) f5
     obtain ⟨w2, hL, hwr, hU, hFW, hF2, hX2, hsz2, hszr, hM2, h3⟩ := hI.count f
     have hmay := may_any w2 f hokf
     obtain ⟨k0, k1, k2, k3, k4, k5⟩ := hF2
     unfold fileO at hL hU hFW
     obtain ⟨m0, _⟩ := hFW
     clear f0 f1 f2 f3 f4 f5
     by_cases hm : mayB f = true
     ·by_cases hc : (get seen2 f.1).getD 0 + 1 ≤ 1
      ·by_cases hk0 : k = 0
       ·have hk0' : ((k : Int) == 0) = true := by simpa using hk0
        clear hk0
        go_wp2_with (go_at_call 48; refine hmay.mono ?_; rintro e w3 ⟨rfl, hE3⟩; obtain ⟨hL3, ⟨n0, n1, n2, n3, n4, n5⟩, hX3, hM3⟩ := h3 _ hE3)
        exact ⟨⟨k + 1, _, by rw [wrap_step hkl hyb], hI.step hfk hm hc (fun p h => absurd (by simpa using hk0') h) hM3 hX3⟩, by rw [wrap_step hkl hyb]; simp [intOf]; omega⟩
       ·obtain ⟨j, hkj⟩ : ∃ j, j + 1 = k := ⟨k - 1, by omega⟩
        have hsub : IntKind.i64.wrap ((k : Int) - 1) = (j : Int) := by
         have := hyb
         simp only [Lk.big] at this
         rw [Lk.wrap64 (by omega) (by omega)]
         omega
        have hjl2 : (j : Int) < y.length := by omega
        have hjl : j < y.length := by omega
        obtain ⟨hokp, b3, o3, hab, hSb3, q0, q1, q2, q3, q4, q5⟩ := hfiles j _ (List.getElem?_eq_getElem hjl)
        obtain ⟨rfl, rfl⟩ : b2 = b3 ∧ o2 = o3 := by simpa using hab
        have hpj : y[j]? = some y[j] := List.getElem?_eq_getElem hjl
        generalize y[j] = p at *
        have hpk : y[k - 1]? = some p := by rw [← hkj]; exact hpj
        by_cases hi0 : i = 0
        ·have hi0' : ((i : Int) == 0) = true := by simpa using hi0
         clear hi0
         have hk0' : ((k : Int) == 0) = false := by simpa using hk0
         go_wp2_with (go_at_call 48; refine hmay.mono ?_; rintro e w3 ⟨rfl, hE3⟩; obtain ⟨hL3, ⟨n0, n1, n2, n3, n4, n5⟩, hX3, hM3⟩ := h3 _ hE3)
         have p0 := cell_ext hX3 (hS b2 hSb2) q0
         go_still (by kernel_rfl)
         have hX4 : Lk.Ext [] w ({ w3 with drawn := w3.drawn + 1 } : World) := ext_drew hX3 _
         have hM4 := map_drew (w3.drawn + 1) hM3
         generalize ({ w3 with drawn := w3.drawn + 1 } : World) = w4 at *
         by_cases hb : f.1 ≤ p.1
         ·have hfail := hI.fail hfk (.inr (.inr ⟨p, hk0, hpk, by rw [bad_zero hi0']; simpa using hb⟩))
          go_wp2
          go_ret
          exact ⟨by rw [hfail]; rfl, hX4⟩
         ·have hst := hI.step hfk hm hc (fun q _ hq => by rw [hpk] at hq; cases hq; rw [bad_zero hi0']; simpa using hb) hM4 hX4
          go_wp2
          exact ⟨⟨k + 1, _, by rw [wrap_step hkl hyb], hst⟩, by rw [wrap_step hkl hyb]; simp [intOf]; omega⟩
        ·have hk0' : ((k : Int) == 0) = false := by simpa using hk0
         have hi0' : ((i : Int) == 0) = false := by simpa using hi0
         go_wp2_with (go_at_call 48; refine hmay.mono ?_; rintro e w3 ⟨rfl, hE3⟩; obtain ⟨hL3, ⟨n0, n1, n2, n3, n4, n5⟩, hX3, hM3⟩ := h3 _ hE3)
         have p3 := cell_ext hX3 (hS b2 hSb2) q3
         go_still (by kernel_rfl)
         have hX4 : Lk.Ext [] w ({ w3 with drawn := w3.drawn + 1 } : World) := ext_drew hX3 _
         have hM4 := map_drew (w3.drawn + 1) hM3
         generalize ({ w3 with drawn := w3.drawn + 1 } : World) = w4 at *
         cases hb : (!Op.bytesLess p.2.2.2.1 f.2.2.1 && !p.2.2.2.1 == f.2.2.1) with
         | true =>
          have hfail := hI.fail hfk (.inr (.inr ⟨p, hk0, hpk, by rw [bad_more hi0']; exact hb⟩))
          go_wp2
          go_ret
          exact ⟨by rw [hfail]; rfl, hX4⟩
         | false =>
          have hst := hI.step hfk hm hc (fun q _ hq => by rw [hpk] at hq; cases hq; rw [bad_more hi0']; exact hb) hM4 hX4
          go_wp2
          exact ⟨⟨k + 1, _, by rw [wrap_step hkl hyb], hst⟩, by rw [wrap_step hkl hyb]; simp [intOf]; omega⟩
      ·have hfail := hI.fail hfk (.inr (.inl (by omega)))
       go_wp2_with (go_at_call 48; refine hmay.mono ?_; rintro e w3 ⟨rfl, hE3⟩; obtain ⟨hL3, ⟨n0, n1, n2, n3, n4, n5⟩, hX3, hM3⟩ := h3 _ hE3)
       go_ret
       exact ⟨by rw [hfail]; rfl, hX3⟩
     ·have hm' : mayB f = false := by simpa using hm
      have hfail := hI.fail hfk (.inl hm')
      go_wp2_with (go_at_call 48; refine hmay.mono ?_; rintro e w3 ⟨rfl, hE3⟩; obtain ⟨hL3, ⟨n0, n1, n2, n3, n4, n5⟩, hX3, hM3⟩ := h3 _ hE3)
      go_ret
      exact ⟨by rw [hfail]; rfl, hX3⟩
    ·obtain rfl : k = y.length := by omega
     have hk1 : ¬ ((y.length : Int) < y.length) := by omega
     have hO2 := hI.out hlt
     go_wp2
     exact ⟨⟨i + 1, _, rfl, hO2⟩, by simp [intOf]; omega⟩
  ·obtain rfl : i = x.length := by omega
   have hi1 : ¬ ((x.length : Int) < x.length) := by omega
   have hd := hO.done
   have hE := hO.ext
   go_wp2
   go_ret
   exact ⟨rfl, hE⟩
end Lv
end
