import Derived.Test.YtcfagjkijhjaoaaLkOne
import Derived.Test.YtcfagjkijhjaoaaLkThree
import Derived.Test.YtcfagjkijhjaoaaRows
import Derived.WalkKit
import Derived.WalkSpells
import Derived.WalkLawsBesides
import Derived.MapKept
import Derived.StillTailTactics
import Derived.Maps.OwnSet
import Derived.OwnWalk
import Derived.Laws.IdiomRangeMap
set_option linter.all false
/-! Disks: what each call makes of one, in plain Lean. -/
namespace Dk
open Lk

abbrev Nm := List UInt8

theorem lt_irr (a : Nm) : ¬ a < a := List.lt_irrefl a
theorem lt_tr {a b c : Nm} (h : a < b) (g : b < c) : a < c := List.lt_trans h g
theorem lt_tri (a b : Nm) : a < b ∨ a = b ∨ b < a := by
  rcases Classical.em (a < b) with h | h
  · exact .inl h
  · rcases Classical.em (b < a) with g | g
    · exact .inr (.inr g)
    · exact .inr (.inl (List.le_antisymm g h))

def okN (s : Nm) : Prop := 1 ≤ s.length ∧ s.length ≤ 64
instance (s : Nm) : Decidable (okN s) := inferInstanceAs (Decidable (_ ∧ _))

instance : DecidableEq DFile := fun a b => decidable_of_iff (a.name = b.name ∧ a.bytes = b.bytes ∧ a.synced = b.synced) (by cases a; cases b; simp)

def ins (f : DFile) : List DFile → List DFile
  | [] => [f]
  | g :: l => if g.name < f.name then g :: ins f l else f :: g :: l

def look (l : List DFile) (s : Nm) : Option DFile := l.find? fun f => f.name == s
def upd (s : Nm) (u : DFile → DFile) (l : List DFile) : List DFile := l.map fun f => if f.name = s then u f else f
def del (s : Nm) (l : List DFile) : List DFile := l.filter fun f => !(f.name == s)
def total (l : List DFile) : Int := (l.map fun f => (f.bytes.length : Int)).sum

structure Good (x : DiskS) : Prop where
  sorted : x.files.Pairwise fun f g => f.name < g.name
  name : ∀ f ∈ x.files, okN f.name
  synced : ∀ f ∈ x.files, 0 ≤ f.synced ∧ f.synced ≤ f.bytes.length
  used : x.used = total x.files
  most : x.used ≤ 268435456
  quota : 0 ≤ x.quota ∧ x.quota ≤ 268435456
  after : 0 ≤ x.after ∧ x.after ≤ 9223372036854775807
  count : 0 ≤ x.count ∧ x.count ≤ 9223372036854775807
  refused : -9223372036854775808 ≤ x.refused ∧ x.refused ≤ 9223372036854775807
  many : x.files.length ≤ 4096

def more (x : DiskS) : DiskS := { x with refused := Go.IntKind.i64.wrap (x.refused + 1) }

def try_ (x : DiskS) (full : Bool) : Bool × DiskS :=
  if 0 < x.after then (full, if full then more { x with after := x.after - 1 } else { x with after := x.after - 1 })
  else if 0 < x.count then (true, more { x with count := x.count - 1 })
  else (full, if full then more x else x)

def create (x : DiskS) (s : Nm) : Int × DiskS :=
  if okN s then match look x.files s with
    | some _ => (50, x)
    | none => let y := try_ x (decide (4096 ≤ x.files.length))
      if y.1 then (52, y.2) else (0, { y.2 with files := ins ⟨s, [], 0⟩ y.2.files })
  else (2, x)

def append (x : DiskS) (s b : Nm) : Int × DiskS :=
  if okN s then match look x.files s with
    | none => (51, x)
    | some _ => let y := try_ x (decide ((b.length : Int) > x.quota - x.used))
      if y.1 then (52, y.2) else (0, { y.2 with files := upd s (fun f => { f with bytes := f.bytes ++ b }) y.2.files, used := y.2.used + b.length })
  else (2, x)

def sync (x : DiskS) (s : Nm) : Int × DiskS :=
  if okN s then match look x.files s with
    | none => (51, x)
    | some _ => (0, { x with files := upd s (fun f => { f with synced := f.bytes.length }) x.files })
  else (2, x)

def remove (x : DiskS) (s : Nm) : Int × DiskS :=
  if okN s then match look x.files s with
    | none => (51, x)
    | some f => (0, { x with files := del s x.files, used := x.used - f.bytes.length })
  else (2, x)

def lenOf : Option DFile → Int
  | none => 0
  | some f => f.bytes.length

def rename (x : DiskS) (s t : Nm) : Int × DiskS :=
  if okN s ∧ okN t then match look x.files s with
    | none => (51, x)
    | some f => if s = t then (0, x) else
      (0, { x with files := ins { f with name := t } (del t (del s x.files)), used := x.used - lenOf (look x.files t) })
  else (2, x)

def setQuota (x : DiskS) (n : Int) : Int × DiskS :=
  if 0 ≤ n ∧ n ≤ 268435456 then (0, { x with quota := n }) else (2, x)

def refuse (x : DiskS) (p q : Int) : Int × DiskS :=
  if 0 ≤ p ∧ 0 ≤ q then (0, { x with after := p, count := q }) else (2, x)

def left (f : DFile) (n : Int) : DFile :=
  { f with bytes := f.bytes.take (f.synced + min (max n 0) (f.bytes.length - f.synced)).toNat, synced := f.synced + min (max n 0) (f.bytes.length - f.synced) }

def keepAt (keep : List Int) (i : Nat) : Int := if keep = [] then 0 else keep.getD (i % keep.length) 0

def crashGo (keep : List Int) : Nat → List DFile → List DFile
  | _, [] => []
  | i, f :: l => left f (keepAt keep i) :: crashGo keep (i + 1) l

def crash (x : DiskS) (keep : List Int) : Int × DiskS :=
  (0, { x with files := crashGo keep 0 x.files, used := total (crashGo keep 0 x.files), after := 0, count := 0 })

def read (x : DiskS) (s : Nm) (at_ n : Int) : List UInt8 × Int :=
  if okN s then match look x.files s with
    | none => ([], 51)
    | some f => if at_ < 0 ∨ at_ > f.bytes.length ∨ n < 0 then ([], 2) else ((f.bytes.drop at_.toNat).take n.toNat, 0)
  else ([], 2)

def size (x : DiskS) (s : Nm) : Int × Int × Int :=
  if okN s then match look x.files s with
    | none => (0, 0, 51)
    | some f => (f.bytes.length, f.synced, 0)
  else (0, 0, 2)

def list (x : DiskS) : List Nm := x.files.map (·.name)
def same (x y : DiskS) : Bool := x.files == y.files
end Dk

/-! Disks: what every call keeps. -/
namespace Dk
open Lk

theorem total_append (a b : List DFile) : total (a ++ b) = total a + total b := by
  unfold total; simp
theorem total_cons (f : DFile) (l : List DFile) : total (f :: l) = f.bytes.length + total l := by
  unfold total; simp
theorem total_nonneg (l : List DFile) : 0 ≤ total l := by
  induction l with
  | nil => simp [total]
  | cons f l ih => rw [total_cons]; omega
theorem total_perm {a b : List DFile} (h : a.Perm b) : total a = total b := by
  induction h with
  | nil => rfl
  | cons x _ ih => rw [total_cons, total_cons, ih]
  | swap x y l => simp only [total_cons]; omega
  | trans _ _ h1 h2 => exact h1.trans h2

theorem ins_perm (f : DFile) : ∀ l : List DFile, (ins f l).Perm (f :: l)
  | [] => List.Perm.refl _
  | g :: l => by
    unfold ins
    split
    · exact ((ins_perm f l).cons g).trans (List.Perm.swap f g l)
    · exact List.Perm.refl _

abbrev Sorted (l : List DFile) : Prop := l.Pairwise fun f g => f.name < g.name

theorem Sorted.unlike {l : List DFile} (h : Sorted l) : l.Pairwise fun f g => f.name ≠ g.name := by
  refine List.Pairwise.imp ?_ h
  intro a b h e
  rw [e] at h
  exact lt_irr _ h

theorem ins_sorted (f : DFile) : ∀ l : List DFile, Sorted l → (∀ g ∈ l, g.name ≠ f.name) → Sorted (ins f l)
  | [], _, _ => by simp [ins, Sorted]
  | g :: l, h, hn => by
    obtain ⟨h1, h2⟩ := List.pairwise_cons.1 h
    unfold ins
    split
    · rename_i hlt
      refine List.pairwise_cons.2 ⟨fun k hk => ?_, ins_sorted f l h2 fun k hk => hn k (by simp [hk])⟩
      rcases List.mem_cons.1 ((ins_perm f l).mem_iff.1 hk) with rfl | hk
      · exact hlt
      · exact h1 k hk
    · rename_i hlt
      have hfg : f.name < g.name := by
        rcases lt_tri g.name f.name with h | h | h
        · exact absurd h hlt
        · exact absurd h (hn g (by simp))
        · exact h
      refine List.pairwise_cons.2 ⟨fun k hk => ?_, h⟩
      rcases List.mem_cons.1 hk with rfl | hk
      · exact hfg
      · exact lt_tr hfg (h1 k hk)

theorem look_some {l : List DFile} {s : Nm} {f : DFile} (h : look l s = some f) : f ∈ l ∧ f.name = s :=
  ⟨List.mem_of_find?_eq_some h, by simpa using List.find?_some h⟩
theorem look_none {l : List DFile} {s : Nm} (h : look l s = none) : ∀ f ∈ l, f.name ≠ s := fun f hf e => List.find?_eq_none.1 h f hf (by simpa using e)

theorem mem_del {l : List DFile} {s : Nm} {f : DFile} : f ∈ del s l ↔ f ∈ l ∧ f.name ≠ s := by
  unfold del
  rw [List.mem_filter]
  simp

theorem del_none {l : List DFile} {s : Nm} (h : ∀ f ∈ l, f.name ≠ s) : del s l = l := by
  unfold del
  rw [List.filter_eq_self]
  intro f hf
  simpa using h f hf

theorem look_cons (g : DFile) (l : List DFile) (s : Nm) : look (g :: l) s = if g.name = s then some g else look l s := by
  unfold look
  rw [List.find?_cons]
  by_cases h : g.name = s
  · simp [h]
  · have h2 : (g.name == s) = false := by simpa using h
    rw [h2, if_neg h]

theorem total_del : ∀ (l : List DFile) (s : Nm), Sorted l → total (del s l) = total l - lenOf (look l s)
  | [], _, _ => by simp [del, total, look, lenOf]
  | g :: l, s, h => by
    obtain ⟨h1, h2⟩ := List.pairwise_cons.1 h
    rw [look_cons]
    by_cases hs : g.name = s
    · have : del s l = l := del_none fun f hf e => by
        have := h1 f hf
        rw [hs, e] at this
        exact lt_irr _ this
      have e : del s (g :: l) = l := by
        unfold del at this ⊢
        rw [List.filter_cons]
        simp only [hs, beq_self_eq_true, Bool.not_true, Bool.false_eq_true, if_false]
        exact this
      rw [e, if_pos hs, total_cons]
      simp only [lenOf]
      omega
    · have e : del s (g :: l) = g :: del s l := by
        unfold del
        rw [List.filter_cons]
        simp [hs]
      rw [e, if_neg hs, total_cons, total_cons, total_del l s h2]
      omega

theorem upd_names (s : Nm) (u : DFile → DFile) (hu : ∀ f, (u f).name = f.name) (l : List DFile) : (upd s u l).map (·.name) = l.map (·.name) := by
  unfold upd
  rw [List.map_map]
  refine List.map_congr_left fun f _ => ?_
  show (if f.name = s then u f else f).name = f.name
  split
  · exact hu f
  · rfl

theorem sorted_names {l r : List DFile} (h : l.map (·.name) = r.map (·.name)) (hs : Sorted r) : Sorted l := by
  have h1 : (r.map (·.name)).Pairwise fun a b => a < b := List.pairwise_map.2 hs
  rw [← h] at h1
  exact List.pairwise_map.1 h1

theorem mem_upd {s : Nm} {u : DFile → DFile} {l : List DFile} {f : DFile} (h : f ∈ upd s u l) : ∃ g ∈ l, f = if g.name = s then u g else g := by
  unfold upd at h
  obtain ⟨g, hg, e⟩ := List.mem_map.1 h
  exact ⟨g, hg, e.symm⟩

theorem total_upd (s : Nm) (u : DFile → DFile) : ∀ (l : List DFile) (f : DFile), Sorted l → look l s = some f → total (upd s u l) = total l - f.bytes.length + (u f).bytes.length
  | [], f, _, h => by simp [look] at h
  | g :: l, f, hp, h => by
    obtain ⟨h1, h2⟩ := List.pairwise_cons.1 hp
    rw [look_cons] at h
    have e : upd s u (g :: l) = (if g.name = s then u g else g) :: upd s u l := rfl
    rw [e, total_cons, total_cons]
    by_cases hs : g.name = s
    · rw [if_pos hs] at h
      cases h
      have : upd s u l = l := by
        unfold upd
        rw [List.map_congr_left (g := id) fun k hk => by
          rw [if_neg]
          · rfl
          · intro e
            have := h1 k hk
            rw [hs, e] at this
            exact lt_irr _ this]
        exact List.map_id _
      rw [if_pos hs, this]
      omega
    · rw [if_neg hs] at h
      rw [if_neg hs, total_upd s u l f h2 h]
      omega

theorem Good.try_ {x : DiskS} (h : Good x) (t : Bool) : Good (try_ x t).2 := by
  have hw : ∀ z : Int, -9223372036854775808 ≤ Go.IntKind.i64.wrap z ∧ Go.IntKind.i64.wrap z ≤ 9223372036854775807 := by
    intro z
    simp only [Go.IntKind.wrap, Go.IntKind.bits, Go.IntKind.signed, Bool.true_and]
    split
    · rename_i h; have h := of_decide_eq_true h; omega
    · rename_i h; have h := mt decide_eq_true h; omega
  have hm : ∀ y : DiskS, Good y → Good (more y) := fun y hy => ⟨hy.sorted, hy.name, hy.synced, hy.used, hy.most, hy.quota, hy.after, hy.count, hw _, hy.many⟩
  have ha := h.after
  have hc := h.count
  unfold Dk.try_
  split
  · have h1 : Good { x with after := x.after - 1 } := ⟨h.sorted, h.name, h.synced, h.used, h.most, h.quota, by show 0 ≤ x.after - 1 ∧ x.after - 1 ≤ _; omega, h.count, h.refused, h.many⟩
    cases t
    · exact h1
    · exact hm _ h1
  · split
    · exact hm _ ⟨h.sorted, h.name, h.synced, h.used, h.most, h.quota, h.after, by show 0 ≤ x.count - 1 ∧ x.count - 1 ≤ _; omega, h.refused, h.many⟩
    · cases t
      · exact h
      · exact hm _ h

theorem try_keeps (x : DiskS) (t : Bool) : (try_ x t).2.files = x.files ∧ (try_ x t).2.used = x.used ∧ (try_ x t).2.quota = x.quota := by
  unfold Dk.try_ more
  split
  · cases t <;> exact ⟨rfl, rfl, rfl⟩
  · split
    · exact ⟨rfl, rfl, rfl⟩
    · cases t <;> exact ⟨rfl, rfl, rfl⟩

theorem try_false {x : DiskS} {t : Bool} (h : (try_ x t).1 = false) : t = false := by
  unfold Dk.try_ at h
  split at h
  · exact h
  · split at h
    · cases h
    · exact h

theorem Good.create {x : DiskS} (h : Good x) (s : Nm) : Good (create x s).2 := by
  unfold Dk.create
  split
  case isFalse => exact h
  rename_i hs
  split
  · exact h
  · rename_i hl
    have ht := h.try_ (decide (4096 ≤ x.files.length))
    obtain ⟨k1, k2, k3⟩ := try_keeps x (decide (4096 ≤ x.files.length))
    by_cases hf : (Dk.try_ x (decide (4096 ≤ x.files.length))).1 = true
    · show Good (if (Dk.try_ x (decide (4096 ≤ x.files.length))).1 = true then (_ : Int × DiskS) else _).2
      rw [if_pos hf]
      exact ht
    · have hlen := of_decide_eq_false (try_false (Bool.eq_false_iff.2 hf))
      show Good (if (Dk.try_ x (decide (4096 ≤ x.files.length))).1 = true then (_ : Int × DiskS) else _).2
      rw [if_neg hf]
      have hp := ins_perm ⟨s, [], 0⟩ x.files
      refine ⟨?_, ?_, ?_, ?_, ht.most, ht.quota, ht.after, ht.count, ht.refused, ?_⟩
      · show Sorted (ins _ _)
        rw [k1]
        exact ins_sorted _ _ h.sorted (look_none hl)
      · intro f hf
        have hf : f ∈ ins ⟨s, [], 0⟩ (Dk.try_ x (decide (4096 ≤ x.files.length))).2.files := hf
        rw [k1] at hf
        rcases List.mem_cons.1 (hp.mem_iff.1 hf) with rfl | hf
        · exact hs
        · exact h.name f hf
      · intro f hf
        have hf : f ∈ ins ⟨s, [], 0⟩ (Dk.try_ x (decide (4096 ≤ x.files.length))).2.files := hf
        rw [k1] at hf
        rcases List.mem_cons.1 (hp.mem_iff.1 hf) with rfl | hf
        · simp
        · exact h.synced f hf
      · show (Dk.try_ x _).2.used = total (ins _ _)
        rw [k1, k2, total_perm hp, total_cons, h.used]
        simp
      · show (ins _ _).length ≤ 4096
        rw [k1, hp.length_eq]
        simp only [List.length_cons]
        omega

theorem Good.append {x : DiskS} (h : Good x) (s b : Nm) : Good (append x s b).2 := by
  unfold Dk.append
  split
  case isFalse => exact h
  rename_i hs
  split
  · exact h
  · rename_i f hl
    have ht := h.try_ (decide ((b.length : Int) > x.quota - x.used))
    obtain ⟨k1, k2, k3⟩ := try_keeps x (decide ((b.length : Int) > x.quota - x.used))
    by_cases hf : (Dk.try_ x (decide ((b.length : Int) > x.quota - x.used))).1 = true
    · show Good (if (Dk.try_ x (decide ((b.length : Int) > x.quota - x.used))).1 = true then (_ : Int × DiskS) else _).2
      rw [if_pos hf]
      exact ht
    · have hlen := of_decide_eq_false (try_false (Bool.eq_false_iff.2 hf))
      have hq := h.quota
      show Good (if (Dk.try_ x (decide ((b.length : Int) > x.quota - x.used))).1 = true then (_ : Int × DiskS) else _).2
      rw [if_neg hf]
      refine ⟨?_, ?_, ?_, ?_, ?_, ht.quota, ht.after, ht.count, ht.refused, ?_⟩
      · show Sorted (upd _ _ _)
        rw [k1]
        exact sorted_names (upd_names s (fun f : DFile => { f with bytes := f.bytes ++ b }) (fun _ => rfl) x.files) h.sorted
      · intro g hg
        have hg : g ∈ upd s (fun f : DFile => { f with bytes := f.bytes ++ b }) (Dk.try_ x (decide ((b.length : Int) > x.quota - x.used))).2.files := hg
        rw [k1] at hg
        obtain ⟨k, hk, rfl⟩ := mem_upd hg
        split
        · exact h.name k hk
        · exact h.name k hk
      · intro g hg
        have hg : g ∈ upd s (fun f : DFile => { f with bytes := f.bytes ++ b }) (Dk.try_ x (decide ((b.length : Int) > x.quota - x.used))).2.files := hg
        rw [k1] at hg
        obtain ⟨k, hk, rfl⟩ := mem_upd hg
        have := h.synced k hk
        split
        · simp only [List.length_append]; omega
        · exact this
      · show (Dk.try_ x _).2.used + _ = total (upd _ _ _)
        rw [k1, k2, total_upd s _ x.files f h.sorted hl, h.used]
        simp only [List.length_append]
        omega
      · show (Dk.try_ x _).2.used + _ ≤ _
        rw [k2]; omega
      · show (upd _ _ _).length ≤ _
        rw [k1]
        unfold upd
        rw [List.length_map]
        exact h.many

theorem Good.sync {x : DiskS} (h : Good x) (s : Nm) : Good (sync x s).2 := by
  unfold Dk.sync
  split
  case isFalse => exact h
  split
  · exact h
  · rename_i f hl
    refine ⟨sorted_names (upd_names s (fun f : DFile => { f with synced := f.bytes.length }) (fun _ => rfl) x.files) h.sorted, ?_, ?_, ?_, h.most, h.quota, h.after, h.count, h.refused, ?_⟩
    · intro g hg
      obtain ⟨k, hk, rfl⟩ := mem_upd hg
      split
      · exact h.name k hk
      · exact h.name k hk
    · intro g hg
      obtain ⟨k, hk, rfl⟩ := mem_upd hg
      split
      · simp
      · exact h.synced k hk
    · show x.used = total (upd _ _ _)
      rw [total_upd s _ x.files f h.sorted hl, h.used]
      simp only []
      omega
    · show (upd _ _ _).length ≤ _
      unfold upd
      rw [List.length_map]
      exact h.many

theorem del_sorted {l : List DFile} (h : Sorted l) (s : Nm) : Sorted (del s l) := h.filter _

theorem Good.remove {x : DiskS} (h : Good x) (s : Nm) : Good (remove x s).2 := by
  unfold Dk.remove
  split
  case isFalse => exact h
  split
  · exact h
  · rename_i f hl
    refine ⟨del_sorted h.sorted s, fun g hg => h.name g (mem_del.1 hg).1, fun g hg => h.synced g (mem_del.1 hg).1, ?_, ?_, h.quota, h.after, h.count, h.refused, ?_⟩
    · show x.used - _ = total (del s x.files)
      rw [total_del _ _ h.sorted, hl, h.used]
      rfl
    · show x.used - _ ≤ _
      have := h.most
      omega
    · show (del s x.files).length ≤ _
      exact Nat.le_trans (List.length_filter_le _ _) h.many

theorem look_del {l : List DFile} {s t : Nm} (h : s ≠ t) : look (del s l) t = look l t := by
  unfold look del
  rw [List.find?_filter]
  congr 1
  funext g
  by_cases hg : g.name = t
  · simp [hg, Ne.symm h]
  · simp [hg]

theorem Good.rename {x : DiskS} (h : Good x) (s t : Nm) : Good (rename x s t).2 := by
  unfold Dk.rename
  split
  case isFalse => exact h
  rename_i hst
  split
  · exact h
  · rename_i f hl
    split
    · exact h
    · rename_i hne
      have hp := ins_perm { f with name := t } (del t (del s x.files))
      have hno : ∀ g ∈ del t (del s x.files), g.name ≠ t := fun g hg => (mem_del.1 hg).2
      obtain ⟨hfm, hfn⟩ := look_some hl
      have hlen : (0 : Int) ≤ lenOf (look x.files t) := by
        unfold lenOf
        split <;> omega
      refine ⟨ins_sorted _ _ (del_sorted (del_sorted h.sorted s) t) hno, ?_, ?_, ?_, ?_, h.quota, h.after, h.count, h.refused, ?_⟩
      · intro g hg
        rcases List.mem_cons.1 (hp.mem_iff.1 hg) with rfl | hg
        · exact hst.2
        · exact h.name g (mem_del.1 (mem_del.1 hg).1).1
      · intro g hg
        rcases List.mem_cons.1 (hp.mem_iff.1 hg) with rfl | hg
        · exact h.synced f hfm
        · exact h.synced g (mem_del.1 (mem_del.1 hg).1).1
      · show x.used - _ = total (ins _ _)
        rw [total_perm hp, total_cons, total_del _ _ (del_sorted h.sorted s), look_del hne, total_del _ _ h.sorted, hl, h.used]
        simp only [lenOf]
        omega
      · show x.used - _ ≤ _
        have := h.most
        omega
      · show (ins _ _).length ≤ _
        rw [hp.length_eq, List.length_cons]
        have h1 : (del t (del s x.files)).length ≤ (del s x.files).length := List.length_filter_le _ _
        have h2 : (del s x.files).length < x.files.length := by
          unfold del
          refine List.length_filter_lt_length_iff_exists.2 ⟨f, hfm, ?_⟩
          simp [hfn]
        have := h.many
        omega

theorem Good.setQuota {x : DiskS} (h : Good x) (n : Int) : Good (setQuota x n).2 := by
  unfold Dk.setQuota
  split
  case isFalse => exact h
  rename_i hn
  exact ⟨h.sorted, h.name, h.synced, h.used, h.most, hn, h.after, h.count, h.refused, h.many⟩

theorem Good.refuse {x : DiskS} (h : Good x) (p q : Int) (hp : p ≤ 9223372036854775807) (hq : q ≤ 9223372036854775807) : Good (refuse x p q).2 := by
  unfold Dk.refuse
  split
  case isFalse => exact h
  rename_i hn
  exact ⟨h.sorted, h.name, h.synced, h.used, h.most, h.quota, ⟨hn.1, hp⟩, ⟨hn.2, hq⟩, h.refused, h.many⟩

theorem crashGo_names (keep : List Int) : ∀ (l : List DFile) (i : Nat), (crashGo keep i l).map (·.name) = l.map (·.name)
  | [], _ => rfl
  | f :: l, i => by simp [crashGo, crashGo_names keep l (i + 1), left]

theorem mem_crashGo {keep : List Int} {f : DFile} : ∀ {l : List DFile} {i : Nat}, f ∈ crashGo keep i l → ∃ g ∈ l, ∃ n, f = left g n
  | [], _, h => by cases h
  | g :: l, i, h => by
    rcases List.mem_cons.1 h with rfl | h
    · exact ⟨g, by simp, _, rfl⟩
    · obtain ⟨k, hk, n, e⟩ := mem_crashGo h
      exact ⟨k, by simp [hk], n, e⟩

theorem total_crashGo (keep : List Int) : ∀ (l : List DFile) (i : Nat), total (crashGo keep i l) ≤ total l
  | [], _ => by simp [crashGo]
  | f :: l, i => by
    have h1 := total_crashGo keep l (i + 1)
    have h2 : (left f (keepAt keep i)).bytes.length ≤ f.bytes.length := by
      unfold left
      simp only [List.length_take]
      exact Nat.min_le_right _ _
    simp only [crashGo, total_cons]
    omega

theorem Good.crash {x : DiskS} (h : Good x) (keep : List Int) : Good (crash x keep).2 := by
  refine ⟨sorted_names (crashGo_names keep x.files 0) h.sorted, ?_, ?_, rfl, ?_, h.quota, by simp [Dk.crash], by simp [Dk.crash], h.refused, ?_⟩
  · intro f hf
    obtain ⟨g, hg, n, rfl⟩ := mem_crashGo hf
    exact h.name g hg
  · intro f hf
    obtain ⟨g, hg, n, rfl⟩ := mem_crashGo hf
    have := h.synced g hg
    unfold left
    simp only [List.length_take]
    omega
  · show total (crashGo keep 0 x.files) ≤ _
    have h1 := total_crashGo keep x.files 0
    have h2 := h.most
    rw [h.used] at h2
    omega
  · show (crashGo keep 0 x.files).length ≤ _
    have := congrArg List.length (crashGo_names keep x.files 0)
    simp only [List.length_map] at this
    rw [this]
    exact h.many

theorem Good.new {n : Int} (h : 0 ≤ n ∧ n ≤ 268435456) : Good ⟨[], n, 0, 0, 0, 0⟩ :=
  ⟨List.Pairwise.nil, by simp, by simp, rfl, by simp, h, by simp, by simp, by simp, by simp⟩

/-! The calls as L asks for them: nothing is told of a nil disk. -/
def turned (r : Int × DiskS) : Option (Int × Option DiskS × Unit) := some (r.1, some r.2, ())
def xNew (q : Int) : Option (Option DiskS × Int × Unit) := some (if 0 ≤ q ∧ q ≤ 268435456 then some ⟨[], q, 0, 0, 0, 0⟩ else none, if 0 ≤ q ∧ q ≤ 268435456 then 0 else 2, ())
def xClone (a : Option DiskS) : Option (Option DiskS × Unit) := a.bind fun d => some (some d, ())
def xCrash (a : Option DiskS) (k : List Int) : Option (Int × Option DiskS × Unit) := a.bind fun d => turned (crash d k)
def xList (a : Option DiskS) : Option (List Nm × Unit) := a.bind fun d => some (list d, ())
def xSize (a : Option DiskS) (s : Nm) : Option (Int × Int × Int × Unit) := a.bind fun d => some ((size d s).1, (size d s).2.1, (size d s).2.2, ())
def xUsed (a : Option DiskS) : Option (Int × Unit) := a.bind fun d => some (d.used, ())
def xRefused (a : Option DiskS) : Option (Int × Unit) := a.bind fun d => some (d.refused, ())
def xQuota (a : Option DiskS) : Option (Int × Unit) := a.bind fun d => some (d.quota, ())
def xSame (a b : Option DiskS) : Option (Bool × Unit) := a.bind fun d => some ((match b with | some e => same d e | none => false), ())
def xRefuse (a : Option DiskS) (p q : Int) : Option (Int × Option DiskS × Unit) := a.bind fun d => turned (refuse d p q)
def xCreate (a : Option DiskS) (s : Nm) : Option (Int × Option DiskS × Unit) := a.bind fun d => turned (create d s)
def xAppend (a : Option DiskS) (s b : Nm) : Option (Int × Option DiskS × Unit) := a.bind fun d => turned (append d s b)
def xRead (a : Option DiskS) (s : Nm) (p n : Int) : Option (List UInt8 × Int × Unit) := a.bind fun d => some ((read d s p n).1, (read d s p n).2, ())
def xSync (a : Option DiskS) (s : Nm) : Option (Int × Option DiskS × Unit) := a.bind fun d => turned (sync d s)
def xRename (a : Option DiskS) (s t : Nm) : Option (Int × Option DiskS × Unit) := a.bind fun d => turned (rename d s t)
def xRemove (a : Option DiskS) (s : Nm) : Option (Int × Option DiskS × Unit) := a.bind fun d => turned (remove d s)
def xSetQuota (a : Option DiskS) (n : Int) : Option (Int × Option DiskS × Unit) := a.bind fun d => turned (setQuota d n)

theorem code_create (x : DiskS) (s : Nm) : 0 ≤ (create x s).1 ∧ (create x s).1 ≤ 52 := by
  unfold create; split
  · split
    · simp
    · dsimp only; split <;> simp
  · simp
theorem code_append (x : DiskS) (s b : Nm) : 0 ≤ (append x s b).1 ∧ (append x s b).1 ≤ 52 := by
  unfold append; split
  · split
    · simp
    · dsimp only; split <;> simp
  · simp
theorem code_sync (x : DiskS) (s : Nm) : 0 ≤ (sync x s).1 ∧ (sync x s).1 ≤ 52 := by
  unfold sync; split
  · split <;> simp
  · simp
theorem code_remove (x : DiskS) (s : Nm) : 0 ≤ (remove x s).1 ∧ (remove x s).1 ≤ 52 := by
  unfold remove; split
  · split <;> simp
  · simp
theorem code_rename (x : DiskS) (s t : Nm) : 0 ≤ (rename x s t).1 ∧ (rename x s t).1 ≤ 52 := by
  unfold rename; split
  · split
    · simp
    · split <;> simp
  · simp
theorem code_setQuota (x : DiskS) (n : Int) : 0 ≤ (setQuota x n).1 ∧ (setQuota x n).1 ≤ 52 := by
  unfold setQuota; split <;> simp
theorem code_refuse (x : DiskS) (p q : Int) : 0 ≤ (refuse x p q).1 ∧ (refuse x p q).1 ≤ 52 := by
  unfold refuse; split <;> simp
theorem code_read (x : DiskS) (s : Nm) (p n : Int) : 0 ≤ (read x s p n).2 ∧ (read x s p n).2 ≤ 52 := by
  unfold read; split
  · split
    · simp
    · split <;> simp
  · simp
end Dk

/-! Disks in memory: how one lies there, and what its map answers. -/
namespace Go.Proofs.Ytcfagjkijhjaoaa
open Go.RowKit

def BytesAt (w : World) (l : List UInt8) (v : Value) (bb : Option Nat) : Prop := match bb with
  | none => v = .slice none 0 0 ∧ l = []
  | some b => ∃ (off cap : Nat) (C : Array Value) (e : TypeId) (f : Nat × Nat), v = .slice (some ⟨b, off, none⟩) l.length cap ∧ l.length ≤ cap ∧ off + cap ≤ C.size ∧ cap ≤ 9223372036854775807 ∧ w.heap[b]? = some (.cells C e f) ∧ Lk.thaw C.size f ∧
      ∀ (i : Nat) (y : UInt8), l[i]? = some y → C[off + i]? = some (Value.int .u8 y.toNat)

def FileAt (w : World) (f : Lk.DFile) (fb : Nat) (bb : Option Nat) : Prop :=
  ∃ v, w.heap[fb]? = some (.cells #[v, .int .i64 f.synced] 72 (0, 0)) ∧ BytesAt w f.bytes v bb

abbrev Ent := Lk.DFile × Nat × Option Nat
def nameV (l : List UInt8) : Value := .string ⟨l.toArray⟩
def blks (f : Ent) : List Nat := f.2.1 :: f.2.2.toList

structure DiskAt (w : World) (x : Lk.DiskS) (b m : Nat) (es : Array MapEntry) (clock : Nat) (fl : List Ent) : Prop where
  head : w.heap[b]? = some (.cells #[.map (some m), .int .i64 x.quota, .int .i64 x.used, .int .i64 x.refused, .int .i64 x.after, .int .i64 x.count] 56 (0, 0))
  map : w.heap[m]? = some (.map es clock)
  ents : es.toList.map (fun e => (e.key, e.val)) = fl.map fun f => (nameV f.1.name, .pointer (some ⟨f.2.1, 0, none⟩))
  st : MapKept.Stamped es clock
  perm : x.files.Perm (fl.map (·.1))
  file : ∀ f ∈ fl, FileAt w f.1 f.2.1 f.2.2
  nodup : (b :: m :: (fl.map blks).flatten).Nodup
  lt : ∀ k ∈ b :: m :: (fl.map blks).flatten, k < w.heap.size

theorem nameV_inj {a b : List UInt8} (h : nameV a = nameV b) : a = b := by
  have h1 : (⟨a.toArray⟩ : ByteArray) = ⟨b.toArray⟩ := by
    unfold nameV at h
    exact Value.string.inj h
  have h2 : a.toArray = b.toArray := by cases h1; rfl
  simpa using congrArg Array.toList h2

theorem DiskAt.keys {w : World} {x : Lk.DiskS} {b m : Nat} {es : Array MapEntry} {clock : Nat} {fl : List Ent} (h : DiskAt w x b m es clock fl) : ∀ e ∈ es.toList, MapKept.IsKey .string e.key := by
  intro e he
  have : (e.key, e.val) ∈ fl.map fun f => (nameV f.1.name, Value.pointer (some ⟨f.2.1, 0, none⟩)) := by
    rw [← h.ents]; exact List.mem_map.2 ⟨e, he, rfl⟩
  obtain ⟨f, _, hf⟩ := List.mem_map.1 this
  have : e.key = nameV f.1.name := (congrArg Prod.fst hf).symm
  rw [this]; trivial

def at? (fl : List Ent) (s : List UInt8) : Option Ent := fl.find? fun f => f.1.name == s

theorem find_spec (s : List UInt8) : ∀ (l : List MapEntry) (fl : List Ent) (i : Nat), l.map (fun e => (e.key, e.val)) = fl.map (fun f => (nameV f.1.name, Value.pointer (some ⟨f.2.1, 0, none⟩))) →
    ∃ j, Instr.findNow .string (nameV s) l i = some ((at? fl s).map fun f => (i + j, Value.pointer (some ⟨f.2.1, 0, none⟩)))
  | [], [], i, _ => ⟨0, rfl⟩
  | [], _ :: _, i, h => by simp at h
  | _ :: _, [], i, h => by simp at h
  | e :: l, f :: fl, i, h => by
    simp only [List.map_cons, List.cons.injEq, Prod.mk.injEq] at h
    obtain ⟨⟨h1, h2⟩, h3⟩ := h
    obtain ⟨j, hj⟩ := find_spec s l fl (i + 1) h3
    have hk : MapKept.IsKey .string e.key := by rw [h1]; trivial
    obtain ⟨r, hr, hiff⟩ := MapKept.sameNow_of_keys (d := .string) (a := nameV s) (b := e.key) trivial hk
    cases r with
    | true =>
      have : nameV s = nameV f.1.name := by rw [← h1]; exact hiff.1 rfl
      have e1 := nameV_inj this
      refine ⟨0, ?_⟩
      have e3 : at? (f :: fl) s = some f := by simp [at?, e1]
      rw [e3]
      simp only [Instr.findNow, hr, h2]
      rfl
    | false =>
      have hne : ¬ f.1.name = s := fun e1 => by
        have := hiff.2 (by rw [h1, e1])
        cases this
      refine ⟨j + 1, ?_⟩
      have e2 : at? (f :: fl) s = at? fl s := by simp [at?, hne]
      rw [e2]
      simp only [Instr.findNow, hr]
      rw [hj]
      cases at? fl s <;> simp
      omega

theorem zero_file (w : World) : (zeroValue 70).run Try.prog w = .ok (.pointer none) w := by kernel_rfl

theorem DiskAt.lookup {w : World} {x : Lk.DiskS} {b m : Nat} {es : Array MapEntry} {clock : Nat} {fl : List Ent} (h : DiskAt w x b m es clock fl) (s : List UInt8) :
    (Instr.lookup 52 (.map (some m)) (nameV s) false).run Try.prog w = .ok (match at? fl s with | some f => .pointer (some ⟨f.2.1, 0, none⟩) | none => .pointer none) w := by
  obtain ⟨j, hj⟩ := find_spec s es.toList fl 0 h.ents
  have hk : MapKept.IsKey .string (nameV s) := trivial
  cases hf : at? fl s with
  | none =>
    rw [hf] at hj
    simp [Instr.lookup, run_underlying Try.underlying52, MapKept.run_getObj_map h.map, MapKept.run_checkKey Try.underlying9 hk, MapKept.run_findKey Try.underlying9 hj, zero_file, Result.andThen]
  | some f =>
    rw [hf] at hj
    simp [Instr.lookup, run_underlying Try.underlying52, MapKept.run_getObj_map h.map, MapKept.run_checkKey Try.underlying9 hk, MapKept.run_findKey Try.underlying9 hj, Result.andThen]

theorem DiskAt.cell {w : World} {x : Lk.DiskS} {b m : Nat} {es : Array MapEntry} {clock : Nat} {fl : List Ent} (h : DiskAt w x b m es clock fl) :
    w.cell? ⟨b, 0, none⟩ = some (.map (some m)) ∧ w.cell? ⟨b, 1, none⟩ = some (.int .i64 x.quota) ∧ w.cell? ⟨b, 2, none⟩ = some (.int .i64 x.used) ∧ w.cell? ⟨b, 3, none⟩ = some (.int .i64 x.refused) ∧
    w.cell? ⟨b, 4, none⟩ = some (.int .i64 x.after) ∧ w.cell? ⟨b, 5, none⟩ = some (.int .i64 x.count) := by
  unfold World.cell?
  simp [h.head]

theorem DiskAt.frozen {w : World} {x : Lk.DiskS} {b m : Nat} {es : Array MapEntry} {clock : Nat} {fl : List Ent} (h : DiskAt w x b m es clock fl) (k : Nat) : w.frozen? ⟨b, k, none⟩ = false := by
  unfold World.frozen?
  simp [h.head]

set_option maxHeartbeats 400000 in
theorem none_any (w : World) (b m : Nat) (h : w.cell? ⟨b, 0, none⟩ = some (.map (some m))) : Calls Try.prog 35 #[.pointer (some ⟨b, 0, none⟩)] w fun e w' => e = .returned (.bool false) ∧ w' = w := by
  have q52 : ∀ (w : World) (r : Option Nat), (binOp .eql 52 (.map r) (.map none)).run Try.prog w = .ok (.bool r.isNone) w := fun w r => run_eql_map_nil w _ _ _ r Try.underlying52
  go_enter Try.func35, Try.ntmps35
  go_wp2
  go_ret
  exact ⟨rfl, rfl⟩

set_option maxHeartbeats 400000 in
theorem used_any (w : World) (x : Lk.DiskS) (b m : Nat) (es : Array MapEntry) (clock : Nat) (fl : List Ent) (h : DiskAt w x b m es clock fl) : Calls Try.prog 15 #[.pointer (some ⟨b, 0, none⟩)] w fun e w' => e = .returned (.int .i64 x.used) ∧ w' = w := by
  obtain ⟨h0, h1, h2, h3, h4, h5⟩ := h.cell
  go_enter Try.func15, Try.ntmps15
  go_wp2_with (go_at_call 35; refine (none_any _ b m h0).mono ?_; rintro e w2 ⟨rfl, rfl⟩)
  go_ret
  exact ⟨rfl, rfl⟩

set_option maxHeartbeats 400000 in
theorem quota_any (w : World) (x : Lk.DiskS) (b m : Nat) (es : Array MapEntry) (clock : Nat) (fl : List Ent) (h : DiskAt w x b m es clock fl) : Calls Try.prog 22 #[.pointer (some ⟨b, 0, none⟩)] w fun e w' => e = .returned (.int .i64 x.quota) ∧ w' = w := by
  obtain ⟨h0, h1, h2, h3, h4, h5⟩ := h.cell
  go_enter Try.func22, Try.ntmps22
  go_wp2_with (go_at_call 35; refine (none_any _ b m h0).mono ?_; rintro e w2 ⟨rfl, rfl⟩)
  go_ret
  exact ⟨rfl, rfl⟩

set_option maxHeartbeats 400000 in
theorem refused_any (w : World) (x : Lk.DiskS) (b m : Nat) (es : Array MapEntry) (clock : Nat) (fl : List Ent) (h : DiskAt w x b m es clock fl) : Calls Try.prog 21 #[.pointer (some ⟨b, 0, none⟩)] w fun e w' => e = .returned (.int .i64 x.refused) ∧ w' = w := by
  obtain ⟨h0, h1, h2, h3, h4, h5⟩ := h.cell
  go_enter Try.func21, Try.ntmps21
  go_wp2_with (go_at_call 35; refine (none_any _ b m h0).mono ?_; rintro e w2 ⟨rfl, rfl⟩)
  go_ret
  exact ⟨rfl, rfl⟩

def okName (s : ByteArray) : Prop := ¬ (s = ByteArray.mk #[]) ∧ s.size ≤ 64

set_option maxHeartbeats 400000 in
theorem check_ok (w : World) (b m k : Nat) (s : ByteArray) (h : w.cell? ⟨b, 0, none⟩ = some (.map (some m))) (hs : w.cell? ⟨k, 0, none⟩ = some (.string s)) (h1 : s.toList.isEmpty = false) (h2 : s.size ≤ 64) :
    Calls Try.prog 54 #[.pointer (some ⟨b, 0, none⟩), .slice (some ⟨k, 0, none⟩) 1 1] w fun e w' => e = .returned (.int .i64 0) ∧ w' = w := by
  have h3 : ¬ ((64 : Int) < (s.size : Int)) := by omega
  go_enter Try.func54, Try.ntmps54
  go_wp2_with (go_at_call 35; refine (none_any _ b m h).mono ?_; rintro e w2 ⟨rfl, rfl⟩)
  refine wp_loop_rounds 2 ?_
  rw [rounds_succ]
  go_wp2
  rw [rounds_succ]
  go_wp2
  go_ret
  exact ⟨rfl, rfl⟩

set_option maxHeartbeats 400000 in
theorem check_bad (w : World) (b m k : Nat) (s : ByteArray) (h : w.cell? ⟨b, 0, none⟩ = some (.map (some m))) (hs : w.cell? ⟨k, 0, none⟩ = some (.string s)) (h1 : ¬ (s.toList.isEmpty = false ∧ s.size ≤ 64)) :
    Calls Try.prog 54 #[.pointer (some ⟨b, 0, none⟩), .slice (some ⟨k, 0, none⟩) 1 1] w fun e w' => e = .returned (.int .i64 2) ∧ w' = w := by
  go_enter Try.func54, Try.ntmps54
  go_wp2_with (go_at_call 35; refine (none_any _ b m h).mono ?_; rintro e w2 ⟨rfl, rfl⟩)
  refine wp_loop_rounds 2 ?_
  rw [rounds_succ]
  go_wp2
  all_goals first
    | (go_ret; exact ⟨rfl, rfl⟩)
    | (rename_i hh; exact absurd ⟨hh.1, by have := hh.2; omega⟩ h1)

theorem alloc_lt (w : World) (o : Obj) {b : Nat} (h : b < w.heap.size) : (w.alloc o).heap[b]? = w.heap[b]? := by
  show (w.heap.push o)[b]? = _
  rw [Array.getElem?_push_lt h, Array.getElem?_eq_getElem h]
theorem alloc_new (w : World) (o : Obj) : (w.alloc o).heap[w.heap.size]? = some o := by
  show (w.heap.push o)[w.heap.size]? = _
  simp
theorem alloc_size (w : World) (o : Obj) : (w.alloc o).heap.size = w.heap.size + 1 := by
  show (w.heap.push o).size = _
  simp

theorem BytesAt.keep {w w' : World} {l : List UInt8} {v : Value} {bb : Option Nat} (h : BytesAt w l v bb) (hk : ∀ k ∈ bb.toList, w'.heap[k]? = w.heap[k]?) : BytesAt w' l v bb := by
  cases bb with
  | none => exact h
  | some b =>
    obtain ⟨off, cap, C, e, f, h1, h2, h3, h4, h5, h6, h7⟩ := h
    exact ⟨off, cap, C, e, f, h1, h2, h3, h4, by rw [hk b (by simp)]; exact h5, h6, h7⟩

theorem FileAt.keep {w w' : World} {f : Lk.DFile} {fb : Nat} {bb : Option Nat} (h : FileAt w f fb bb) (hk : ∀ k ∈ fb :: bb.toList, w'.heap[k]? = w.heap[k]?) : FileAt w' f fb bb := by
  obtain ⟨v, h1, h2⟩ := h
  exact ⟨v, by rw [hk fb (by simp)]; exact h1, h2.keep fun k hk' => hk k (by simp only [List.mem_cons]; exact .inr hk')⟩

theorem DiskAt.turn {w w' : World} {x x' : Lk.DiskS} {b m : Nat} {es : Array MapEntry} {clock : Nat} {fl : List Ent} (h : DiskAt w x b m es clock fl) (hf : x'.files = x.files)
    (hh : w'.heap[b]? = some (.cells #[.map (some m), .int .i64 x'.quota, .int .i64 x'.used, .int .i64 x'.refused, .int .i64 x'.after, .int .i64 x'.count] 56 (0, 0)))
    (hk : ∀ k ∈ m :: (fl.map blks).flatten, w'.heap[k]? = w.heap[k]?) (hs : w.heap.size ≤ w'.heap.size) : DiskAt w' x' b m es clock fl where
  head := hh
  map := by rw [hk m (by simp)]; exact h.map
  ents := h.ents
  st := h.st
  perm := by rw [hf]; exact h.perm
  file f hfl := (h.file f hfl).keep fun k hk' => hk k (List.mem_cons_of_mem _ (List.mem_flatten.2 ⟨blks f, List.mem_map.2 ⟨f, hfl, rfl⟩, hk'⟩))
  nodup := h.nodup
  lt k hk' := Nat.lt_of_lt_of_le (h.lt k hk') hs

theorem DiskAt.alloc {w : World} {x : Lk.DiskS} {b m : Nat} {es : Array MapEntry} {clock : Nat} {fl : List Ent} (h : DiskAt w x b m es clock fl) (o : Obj) : DiskAt (w.alloc o) x b m es clock fl :=
  h.turn rfl (by rw [alloc_lt w o (h.lt b (by simp))]; exact h.head) (fun k hk => alloc_lt w o (h.lt k (List.mem_cons_of_mem _ hk))) (by rw [alloc_size]; omega)

set_option maxHeartbeats 400000 in
theorem find_ok (w : World) (x : Lk.DiskS) (b m : Nat) (es : Array MapEntry) (clock : Nat) (fl : List Ent) (h : DiskAt w x b m es clock fl) (s : List UInt8) (h1 : (ByteArray.mk s.toArray).toList.isEmpty = false) (h2 : (ByteArray.mk s.toArray).size ≤ 64) :
    Calls Try.prog 38 #[.pointer (some ⟨b, 0, none⟩), .string ⟨s.toArray⟩] w fun e w' => e = .returned (match at? fl s with | some f => .tuple #[.pointer (some ⟨f.2.1, 0, none⟩), .int .i64 0] | none => .tuple #[.pointer none, .int .i64 51]) ∧ w' = w.alloc (.cells #[.string ⟨s.toArray⟩] 9) := by
  have hA := h.alloc (.cells #[.string ⟨s.toArray⟩] 9)
  obtain ⟨h0, _⟩ := hA.cell
  have hl := hA.lookup s
  have hc : (w.alloc (.cells #[.string ⟨s.toArray⟩] 9)).cell? ⟨w.heap.size, 0, none⟩ = some (.string ⟨s.toArray⟩) := by
    unfold World.cell?
    rw [show (w.alloc (.cells #[.string ⟨s.toArray⟩] 9)).heap[(⟨w.heap.size, 0, none⟩ : Addr).block]? = _ from alloc_new _ _]
    rfl
  unfold nameV at hl
  cases hf : at? fl s with
  | none =>
    rw [hf] at hl
    go_enter Try.func38, Try.ntmps38
    go_wp2_with (go_at_call 54; refine (check_ok _ b m _ _ h0 hc h1 h2).mono ?_; rintro e w2 ⟨rfl, rfl⟩)
    go_ret2
    exact ⟨rfl, rfl⟩
  | some f =>
    rw [hf] at hl
    go_enter Try.func38, Try.ntmps38
    go_wp2_with (go_at_call 54; refine (check_ok _ b m _ _ h0 hc h1 h2).mono ?_; rintro e w2 ⟨rfl, rfl⟩)
    go_ret2
    exact ⟨rfl, rfl⟩
end Go.Proofs.Ytcfagjkijhjaoaa

namespace Go.Proofs.Ytcfagjkijhjaoaa
open Go.RowKit

abbrev nameO (s : List UInt8) : Obj := .cells #[.string ⟨s.toArray⟩] 9

theorem name_cell (w : World) (s : List UInt8) : (w.alloc (.cells #[.string ⟨s.toArray⟩] 9)).cell? ⟨w.heap.size, 0, none⟩ = some (.string ⟨s.toArray⟩) := by
  unfold World.cell?
  rw [show (w.alloc (.cells #[.string ⟨s.toArray⟩] 9)).heap[(⟨w.heap.size, 0, none⟩ : Addr).block]? = _ from alloc_new _ _]
  rfl

set_option maxHeartbeats 400000 in
theorem find_bad (w : World) (x : Lk.DiskS) (b m : Nat) (es : Array MapEntry) (clock : Nat) (fl : List Ent) (h : DiskAt w x b m es clock fl) (s : List UInt8) (h1 : ¬ ((ByteArray.mk s.toArray).toList.isEmpty = false ∧ (ByteArray.mk s.toArray).size ≤ 64)) :
    Calls Try.prog 38 #[.pointer (some ⟨b, 0, none⟩), .string ⟨s.toArray⟩] w fun e w' => e = .returned (.tuple #[.pointer none, .int .i64 2]) ∧ w' = w.alloc (.cells #[.string ⟨s.toArray⟩] 9) := by
  have hA := h.alloc (.cells #[.string ⟨s.toArray⟩] 9)
  obtain ⟨h0, _⟩ := hA.cell
  have hc := name_cell w s
  go_enter Try.func38, Try.ntmps38
  go_wp2_with (go_at_call 54; refine (check_bad _ b m _ _ h0 hc h1).mono ?_; rintro e w2 ⟨rfl, rfl⟩)
  go_ret2
  exact ⟨rfl, rfl⟩

theorem BytesAt.slice {w : World} {l : List UInt8} {v : Value} {bb : Option Nat} (h : BytesAt w l v bb) : ∃ a c, v = .slice a l.length c := by
  cases bb with
  | none => obtain ⟨rfl, rfl⟩ := h; exact ⟨_, _, rfl⟩
  | some b => obtain ⟨off, cap, C, e, f, h1, _⟩ := h; exact ⟨_, _, h1⟩

theorem at?_mem {fl : List Ent} {s : List UInt8} {f : Ent} (h : at? fl s = some f) : f ∈ fl ∧ f.1.name = s := by
  unfold at? at h
  exact ⟨List.mem_of_find?_eq_some h, by simpa using List.find?_some h⟩

theorem DiskAt.found {w : World} {x : Lk.DiskS} {b m : Nat} {es : Array MapEntry} {clock : Nat} {fl : List Ent} (h : DiskAt w x b m es clock fl) {s : List UInt8} {f : Ent} (hf : at? fl s = some f) :
    ∃ a c, w.heap[f.2.1]? = some (.cells #[.slice a f.1.bytes.length c, .int .i64 f.1.synced] 72 (0, 0)) ∧ BytesAt w f.1.bytes (.slice a f.1.bytes.length c) f.2.2 := by
  obtain ⟨v, h1, h2⟩ := h.file f (at?_mem hf).1
  obtain ⟨a, c, rfl⟩ := h2.slice
  exact ⟨a, c, h1, h2⟩

theorem two_cells {w : World} {k : Nat} {u v : Value} {t : TypeId} (h : w.heap[k]? = some (.cells #[u, v] t (0, 0))) : w.cell? ⟨k, 0, none⟩ = some u ∧ w.cell? ⟨k, 1, none⟩ = some v ∧ w.frozen? ⟨k, 0, none⟩ = false ∧ w.frozen? ⟨k, 1, none⟩ = false := by
  unfold World.cell? World.frozen?
  simp [h]

set_option maxHeartbeats 400000 in
theorem size_found (w : World) (x : Lk.DiskS) (b m : Nat) (es : Array MapEntry) (clock : Nat) (fl : List Ent) (h : DiskAt w x b m es clock fl) (s : List UInt8) (h1 : (ByteArray.mk s.toArray).toList.isEmpty = false) (h2 : (ByteArray.mk s.toArray).size ≤ 64) (f : Ent) (hf : at? fl s = some f) :
    Calls Try.prog 14 #[.pointer (some ⟨b, 0, none⟩), .string ⟨s.toArray⟩] w fun e w' => e = .returned (.tuple #[.int .i64 f.1.bytes.length, .int .i64 f.1.synced, .int .i64 0]) ∧ ∃ n, w' = { w.alloc (.cells #[.string ⟨s.toArray⟩] 9) with drawn := n } := by
  obtain ⟨a, c, g1, g2⟩ := (h.alloc (.cells #[.string ⟨s.toArray⟩] 9)).found hf
  obtain ⟨k0, k1, _, _⟩ := two_cells g1
  have hfind := find_ok w x b m es clock fl h s h1 h2
  rw [hf] at hfind
  go_enter Try.func14, Try.ntmps14
  go_wp2_with (go_at_call 38; refine hfind.mono ?_; rintro e w2 ⟨rfl, rfl⟩)
  go_region
  all_goals (try go_wp2)
  all_goals go_ret3
  all_goals exact ⟨rfl, _, rfl⟩

set_option maxHeartbeats 400000 in
theorem size_missing (w : World) (x : Lk.DiskS) (b m : Nat) (es : Array MapEntry) (clock : Nat) (fl : List Ent) (h : DiskAt w x b m es clock fl) (s : List UInt8) (h1 : (ByteArray.mk s.toArray).toList.isEmpty = false) (h2 : (ByteArray.mk s.toArray).size ≤ 64) (hf : at? fl s = none) :
    Calls Try.prog 14 #[.pointer (some ⟨b, 0, none⟩), .string ⟨s.toArray⟩] w fun e w' => e = .returned (.tuple #[.int .i64 0, .int .i64 0, .int .i64 51]) ∧ w' = w.alloc (.cells #[.string ⟨s.toArray⟩] 9) := by
  have hfind := find_ok w x b m es clock fl h s h1 h2
  rw [hf] at hfind
  go_enter Try.func14, Try.ntmps14
  go_wp2_with (go_at_call 38; refine hfind.mono ?_; rintro e w2 ⟨rfl, rfl⟩)
  go_ret3
  exact ⟨rfl, rfl⟩

set_option maxHeartbeats 400000 in
theorem size_bad (w : World) (x : Lk.DiskS) (b m : Nat) (es : Array MapEntry) (clock : Nat) (fl : List Ent) (h : DiskAt w x b m es clock fl) (s : List UInt8) (h1 : ¬ ((ByteArray.mk s.toArray).toList.isEmpty = false ∧ (ByteArray.mk s.toArray).size ≤ 64)) :
    Calls Try.prog 14 #[.pointer (some ⟨b, 0, none⟩), .string ⟨s.toArray⟩] w fun e w' => e = .returned (.tuple #[.int .i64 0, .int .i64 0, .int .i64 2]) ∧ w' = w.alloc (.cells #[.string ⟨s.toArray⟩] 9) := by
  have hfind := find_bad w x b m es clock fl h s h1
  go_enter Try.func14, Try.ntmps14
  go_wp2_with (go_at_call 38; refine hfind.mono ?_; rintro e w2 ⟨rfl, rfl⟩)
  go_ret3
  exact ⟨rfl, rfl⟩

set_option maxHeartbeats 400000 in
theorem sync_found (w : World) (x : Lk.DiskS) (b m : Nat) (es : Array MapEntry) (clock : Nat) (fl : List Ent) (h : DiskAt w x b m es clock fl) (s : List UInt8) (h1 : (ByteArray.mk s.toArray).toList.isEmpty = false) (h2 : (ByteArray.mk s.toArray).size ≤ 64) (f : Ent) (hf : at? fl s = some f) :
    Calls Try.prog 31 #[.pointer (some ⟨b, 0, none⟩), .string ⟨s.toArray⟩] w fun e w' => e = .returned (.int .i64 0) ∧ w' = (w.alloc (.cells #[.string ⟨s.toArray⟩] 9)).setCell ⟨f.2.1, 1, none⟩ (.int .i64 f.1.bytes.length) := by
  obtain ⟨a, c, g1, g2⟩ := (h.alloc (.cells #[.string ⟨s.toArray⟩] 9)).found hf
  obtain ⟨k0, k1, z0, z1⟩ := two_cells g1
  have hfind := find_ok w x b m es clock fl h s h1 h2
  rw [hf] at hfind
  go_enter Try.func31, Try.ntmps31
  go_wp2_with (go_at_call 38; refine hfind.mono ?_; rintro e w2 ⟨rfl, rfl⟩)
  go_ret
  exact ⟨rfl, rfl⟩

set_option maxHeartbeats 400000 in
theorem setQuota_ok (w : World) (x : Lk.DiskS) (b m : Nat) (es : Array MapEntry) (clock : Nat) (fl : List Ent) (h : DiskAt w x b m es clock fl) (n : Int) (hn : 0 ≤ n) (hn2 : n ≤ 268435456) :
    Calls Try.prog 34 #[.pointer (some ⟨b, 0, none⟩), .int .i64 n] w fun e w' => e = .returned (.int .i64 0) ∧ w' = w.setCell ⟨b, 1, none⟩ (.int .i64 n) := by
  obtain ⟨h0, h1, h2, h3, h4, h5⟩ := h.cell
  have z1 := h.frozen 1
  have hq : ∀ w, Calls Try.prog 29 #[.int .i64 n] w fun e w' => e = .returned (.bool true) ∧ w' = w := by
    intro w
    go_enter Try.func29, Try.ntmps29
    go_wp2
    go_ret
    exact ⟨rfl, rfl⟩
  go_enter Try.func34, Try.ntmps34
  go_wp2_with (first | (go_at_call 35; refine (none_any _ b m h0).mono ?_; rintro e w2 ⟨rfl, rfl⟩) | (go_at_call 29; refine (hq _).mono ?_; rintro e w2 ⟨rfl, rfl⟩))
  go_ret
  exact ⟨rfl, rfl⟩

set_option maxHeartbeats 400000 in
theorem refuse_ok (w : World) (x : Lk.DiskS) (b m : Nat) (es : Array MapEntry) (clock : Nat) (fl : List Ent) (h : DiskAt w x b m es clock fl) (p q : Int) (hp : 0 ≤ p) (hq : 0 ≤ q) :
    Calls Try.prog 23 #[.pointer (some ⟨b, 0, none⟩), .int .i64 p, .int .i64 q] w fun e w' => e = .returned (.int .i64 0) ∧ w' = (w.setCell ⟨b, 4, none⟩ (.int .i64 p)).setCell ⟨b, 5, none⟩ (.int .i64 q) := by
  obtain ⟨h0, h1, h2, h3, h4, h5⟩ := h.cell
  have z4 := h.frozen 4
  have z5 := h.frozen 5
  go_enter Try.func23, Try.ntmps23
  go_wp2_with (go_at_call 35; refine (none_any _ b m h0).mono ?_; rintro e w2 ⟨rfl, rfl⟩)
  go_ret
  exact ⟨rfl, rfl⟩
end Go.Proofs.Ytcfagjkijhjaoaa

namespace Go.Proofs.Ytcfagjkijhjaoaa
open Go.RowKit

def ax0 : Lk.Ax := ⟨fun _ _ _ _ _ => False, fun h => h.elim, fun h => h.elim, fun h => h.elim⟩

theorem neq_plan (w : World) (a c a' c' : Int) : (binOp .neq 54 (.agg #[.int .i64 a, .int .i64 c]) (.agg #[.int .i64 a', .int .i64 c'])).run Try.prog w = .ok (.bool (!(a == a' && c == c'))) w := by
  have hd : Lk.Desc Try.prog 54 (.c (.i .i64) (.c (.i .i64) .u)) := Lk.descB_ok _ _ (by kernel_rfl)
  have hg : Lk.EG Try.prog (.c (.i .i64) (.c (.i .i64) .u)) (.inl 54) := Lk.egB_ok _ _ (by kernel_rfl)
  have hrun : (Op.equalIn 10000 54 (.agg #[.int .i64 a, .int .i64 c]) (.agg #[.int .i64 a', .int .i64 c'])).run Try.prog w = .ok (Lk.eqE (.c (.i .i64) (.c (.i .i64) .u)) (a, c, ()) (a', c', ())) w :=
    (Lk.run_eqT (τ := ax0) (w := w) (P := Try.prog) (.c (.i .i64) (.c (.i .i64) .u)) rfl).1 54 (a, c, ()) (a', c', ()) ((), (), ()) ((), (), ()) 10000 hd hg (by decide)
  rw [run_neq_struct, hrun]
  simp [Lk.eqE, Result.andThen]

theorem DiskAt.set {w : World} {x x' : Lk.DiskS} {b m : Nat} {es : Array MapEntry} {clock : Nat} {fl : List Ent} (h : DiskAt w x b m es clock fl) (k : Nat) (v : Value) (hf : x'.files = x.files)
    (hc : (#[Value.map (some m), .int .i64 x.quota, .int .i64 x.used, .int .i64 x.refused, .int .i64 x.after, .int .i64 x.count] : Array Value).setIfInBounds k v = #[.map (some m), .int .i64 x'.quota, .int .i64 x'.used, .int .i64 x'.refused, .int .i64 x'.after, .int .i64 x'.count]) :
    DiskAt (w.setCell ⟨b, k, none⟩ v) x' b m es clock fl := by
  refine h.turn hf ?_ (fun i hi => ?_) (by simp [World.setCell])
  · rw [← hc]
    simp [World.setCell, Array.getElem?_modify, h.head]
  · have hne : i ≠ b := fun e => (List.nodup_cons.1 h.nodup).1 (e ▸ hi)
    exact Below.heap_setCell w ⟨b, k, none⟩ v i hne

theorem DiskAt.drawn {w : World} {x : Lk.DiskS} {b m : Nat} {es : Array MapEntry} {clock : Nat} {fl : List Ent} (h : DiskAt w x b m es clock fl) (n : Nat) : DiskAt { w with drawn := n } x b m es clock fl :=
  ⟨h.head, h.map, h.ents, h.st, h.perm, h.file, h.nodup, h.lt⟩

theorem ext_own {w w1 : World} {b : Nat} (hb : b < w.heap.size) (h : Lk.Ext [b] w w1) (k : Nat) (v : Value) : Lk.Ext [b] w (w1.setCell ⟨b, k, none⟩ v) :=
  ⟨h.os, h.tape, h.output, by rw [show (w1.setCell ⟨b, k, none⟩ v).heap.size = w1.heap.size by simp [World.setCell]]; exact h.size, fun i hi hn => by
    rw [Below.heap_setCell w1 ⟨b, k, none⟩ v i (fun e => hn (by simp [e]))]; exact h.block i hi hn⟩
theorem ext_al (w : World) (o : Obj) (b : Nat) : Lk.Ext [b] w (w.alloc o) :=
  ⟨rfl, rfl, rfl, by rw [alloc_size]; omega, fun i hi _ => alloc_lt w o hi⟩
theorem ext_drawn {w w1 : World} {b : Nat} (h : Lk.Ext [b] w w1) (n : Nat) : Lk.Ext [b] w { w1 with drawn := n } := ⟨h.os, h.tape, h.output, h.size, h.block⟩

set_option maxHeartbeats 1000000 in
theorem try_after_f (w : World) (x : Lk.DiskS) (b m : Nat) (es : Array MapEntry) (clock : Nat) (fl : List Ent) (h : DiskAt w x b m es clock fl) (ha : 0 < x.after) (ha2 : x.after ≤ 9223372036854775807) :
    Calls Try.prog 55 #[.pointer (some ⟨b, 0, none⟩), .bool false] w fun e w' => e = .returned (.bool false) ∧ DiskAt w' { x with after := x.after - 1 } b m es clock fl ∧ Lk.Ext [b] w w' := by
  have hA := h.alloc (.cells #[.int .i64 (x.after - 1), .int .i64 x.count] 54)
  obtain ⟨h0, h1, h2, h3, h4, h5⟩ := h.cell
  obtain ⟨a0, a1, a2, a3, a4, a5⟩ := hA.cell
  have z4 := hA.frozen 4
  have z5 := hA.frozen 5
  have z3 := hA.frozen 3
  have hn := neq_plan
  have hx : (x.after - 1 == x.after) = false := by simp; omega
  go_enter Try.func55, Try.ntmps55
  go_wp2
  go_region
  go_wp2
  go_ret
  have hb := h.lt b (by simp)
  exact ⟨rfl, ((hA.set 4 (.int .i64 (x.after - 1)) (x' := { x with after := x.after - 1 }) rfl rfl).set 5 (.int .i64 x.count) (x' := { x with after := x.after - 1 }) rfl rfl).drawn _, ext_drawn (ext_own hb (ext_own hb (ext_al w _ b) _ _) _ _) _⟩

set_option maxHeartbeats 1000000 in
theorem try_after_t (w : World) (x : Lk.DiskS) (b m : Nat) (es : Array MapEntry) (clock : Nat) (fl : List Ent) (h : DiskAt w x b m es clock fl) (ha : 0 < x.after) (ha2 : x.after ≤ 9223372036854775807) :
    Calls Try.prog 55 #[.pointer (some ⟨b, 0, none⟩), .bool true] w fun e w' => e = .returned (.bool true) ∧ DiskAt w' { x with after := x.after - 1, refused := wrap64 (x.refused + 1) } b m es clock fl ∧ Lk.Ext [b] w w' := by
  have hA := h.alloc (.cells #[.int .i64 (x.after - 1), .int .i64 x.count] 54)
  obtain ⟨h0, h1, h2, h3, h4, h5⟩ := h.cell
  obtain ⟨a0, a1, a2, a3, a4, a5⟩ := hA.cell
  have z4 := hA.frozen 4
  have z5 := hA.frozen 5
  have z3 := hA.frozen 3
  have hn := neq_plan
  have hx : (x.after - 1 == x.after) = false := by simp; omega
  go_enter Try.func55, Try.ntmps55
  go_wp2
  go_region
  go_wp2
  go_ret
  have hb := h.lt b (by simp)
  exact ⟨rfl, (((hA.set 4 (.int .i64 (x.after - 1)) (x' := { x with after := x.after - 1 }) rfl rfl).set 5 (.int .i64 x.count) (x' := { x with after := x.after - 1 }) rfl rfl).set 3 (.int .i64 (wrap64 (x.refused + 1))) (x' := { x with after := x.after - 1, refused := wrap64 (x.refused + 1) }) rfl rfl).drawn _, ext_drawn (ext_own hb (ext_own hb (ext_own hb (ext_al w _ b) _ _) _ _) _ _) _⟩

set_option maxHeartbeats 1000000 in
theorem try_none_f (w : World) (x : Lk.DiskS) (b m : Nat) (es : Array MapEntry) (clock : Nat) (fl : List Ent) (h : DiskAt w x b m es clock fl) (ha : ¬ 0 < x.after) (hc : ¬ 0 < x.count) :
    Calls Try.prog 55 #[.pointer (some ⟨b, 0, none⟩), .bool false] w fun e w' => e = .returned (.bool false) ∧ DiskAt w' x b m es clock fl ∧ Lk.Ext [b] w w' := by
  have hA := h.alloc (.cells #[.int .i64 x.after, .int .i64 x.count] 54)
  obtain ⟨h0, h1, h2, h3, h4, h5⟩ := h.cell
  obtain ⟨a0, a1, a2, a3, a4, a5⟩ := hA.cell
  have z4 := hA.frozen 4
  have z5 := hA.frozen 5
  have z3 := hA.frozen 3
  have hn := neq_plan
  go_enter Try.func55, Try.ntmps55
  go_wp2
  go_region
  go_wp2
  go_ret
  have hb := h.lt b (by simp)
  exact ⟨rfl, hA.drawn _, ext_drawn (ext_al w _ b) _⟩

set_option maxHeartbeats 1000000 in
theorem try_none_t (w : World) (x : Lk.DiskS) (b m : Nat) (es : Array MapEntry) (clock : Nat) (fl : List Ent) (h : DiskAt w x b m es clock fl) (ha : ¬ 0 < x.after) (hc : ¬ 0 < x.count) :
    Calls Try.prog 55 #[.pointer (some ⟨b, 0, none⟩), .bool true] w fun e w' => e = .returned (.bool true) ∧ DiskAt w' { x with refused := wrap64 (x.refused + 1) } b m es clock fl ∧ Lk.Ext [b] w w' := by
  have hA := h.alloc (.cells #[.int .i64 x.after, .int .i64 x.count] 54)
  obtain ⟨h0, h1, h2, h3, h4, h5⟩ := h.cell
  obtain ⟨a0, a1, a2, a3, a4, a5⟩ := hA.cell
  have z4 := hA.frozen 4
  have z5 := hA.frozen 5
  have z3 := hA.frozen 3
  have hn := neq_plan
  go_enter Try.func55, Try.ntmps55
  go_wp2
  go_region
  go_wp2
  go_ret
  have hb := h.lt b (by simp)
  exact ⟨rfl, (hA.set 3 (.int .i64 (wrap64 (x.refused + 1))) (x' := { x with refused := wrap64 (x.refused + 1) }) rfl rfl).drawn _, ext_drawn (ext_own hb (ext_al w _ b) _ _) _⟩
end Go.Proofs.Ytcfagjkijhjaoaa

/-! Disks in memory: the map's laws. -/
namespace Go.Proofs.Ytcfagjkijhjaoaa
open Go.RowKit

def setMap (w : World) (m : Nat) (es : Array MapEntry) (clock : Nat) : World := { w with heap := w.heap.setIfInBounds m (.map es clock) }

theorem setMap_same {w : World} {m : Nat} {es : Array MapEntry} {clock : Nat} (h : m < w.heap.size) : (setMap w m es clock).heap[m]? = some (.map es clock) := by
  simp [setMap, h]
theorem setMap_other {w : World} {m : Nat} {es : Array MapEntry} {clock : Nat} {k : Nat} (h : k ≠ m) : (setMap w m es clock).heap[k]? = w.heap[k]? := by
  simp [setMap, Ne.symm h]
theorem setMap_size {w : World} {m : Nat} {es : Array MapEntry} {clock : Nat} : (setMap w m es clock).heap.size = w.heap.size := by
  simp [setMap]

abbrev pairE (e : MapEntry) : Value × Value := (e.key, e.val)
abbrev pairF (f : Ent) : Value × Value := (nameV f.1.name, .pointer (some ⟨f.2.1, 0, none⟩))

theorem eraseIdx_filter {α : Type} (p : α → Bool) : ∀ (l : List α) (j : Nat), (∀ i a, l[i]? = some a → (p a = true ↔ i = j)) → l.eraseIdx j = l.filter fun a => !p a
  | [], _, _ => rfl
  | a :: l, 0, h => by
    have h0 : p a = true := (h 0 a rfl).2 rfl
    rw [List.eraseIdx_cons_zero, List.filter_cons, h0]
    simp only [Bool.not_true, Bool.false_eq_true, if_false]
    refine (List.filter_eq_self.2 fun b hb => ?_).symm
    obtain ⟨i, hi⟩ := List.getElem?_of_mem hb
    have := h (i + 1) b (by simpa using hi)
    cases hp : p b with
    | false => rfl
    | true => exact absurd (this.1 hp) (by omega)
  | a :: l, j + 1, h => by
    have h0 : p a = false := by
      cases hp : p a with
      | false => rfl
      | true => exact absurd ((h 0 a rfl).1 hp) (by omega)
    rw [List.eraseIdx_cons_succ, List.filter_cons, h0]
    simp only [Bool.not_false, if_true]
    rw [eraseIdx_filter p l j fun i b hb => by
      have := h (i + 1) b (by simpa using hb)
      simpa using this]

theorem modify_map {α : Type} (p : α → Bool) (f : α → α) : ∀ (l : List α) (j : Nat), (∀ i a, l[i]? = some a → (p a = true ↔ i = j)) → l.modify j f = l.map fun a => if p a = true then f a else a
  | [], _, _ => by simp
  | a :: l, 0, h => by
    have h0 : p a = true := (h 0 a rfl).2 rfl
    rw [List.modify_zero_cons, List.map_cons, if_pos h0]
    congr 1
    have : ∀ b ∈ l, (if p b = true then f b else b) = b := fun b hb => by
      obtain ⟨i, hi⟩ := List.getElem?_of_mem hb
      have := h (i + 1) b (by simpa using hi)
      rw [if_neg]
      intro hp
      exact absurd (this.1 hp) (by omega)
    rw [List.map_congr_left this, List.map_id']
  | a :: l, j + 1, h => by
    have h0 : ¬ p a = true := fun hp => absurd ((h 0 a rfl).1 hp) (by omega)
    rw [List.modify_succ_cons, List.map_cons, if_neg h0, modify_map p f l j fun i b hb => by
      have := h (i + 1) b (by simpa using hb)
      simpa using this]

theorem DiskAt.unlike {w : World} {x : Lk.DiskS} {b m : Nat} {es : Array MapEntry} {clock : Nat} {fl : List Ent} (h : DiskAt w x b m es clock fl) : fl.Pairwise fun f g => f.1.name ≠ g.1.name := by
  have h1 := ((MapKept.stamped_iff es clock).1 h.st).2.2
  have h2 : (es.toList.map pairE).Pairwise fun x y => x.1 ≠ y.1 := List.pairwise_map.2 h1
  rw [show es.toList.map pairE = fl.map pairF from h.ents] at h2
  refine (List.pairwise_map.1 h2).imp fun {f g} hfg e => hfg ?_
  show nameV f.1.name = nameV g.1.name
  rw [e]

theorem unlike_at {fl : List Ent} (h : fl.Pairwise fun f g => f.1.name ≠ g.1.name) {i j : Nat} {f g : Ent} (hi : fl[i]? = some f) (hj : fl[j]? = some g) (e : f.1.name = g.1.name) : i = j := by
  rcases Nat.lt_trichotomy i j with hl | rfl | hl
  · obtain ⟨hi', rfl⟩ := List.getElem?_eq_some_iff.1 hi
    obtain ⟨hj', rfl⟩ := List.getElem?_eq_some_iff.1 hj
    exact absurd e (List.pairwise_iff_getElem.1 h i j hi' hj' hl)
  · rfl
  · obtain ⟨hi', rfl⟩ := List.getElem?_eq_some_iff.1 hi
    obtain ⟨hj', rfl⟩ := List.getElem?_eq_some_iff.1 hj
    exact absurd e.symm (List.pairwise_iff_getElem.1 h j i hj' hi' hl)

theorem DiskAt.find {w : World} {x : Lk.DiskS} {b m : Nat} {es : Array MapEntry} {clock : Nat} {fl : List Ent} (h : DiskAt w x b m es clock fl) (s : List UInt8) :
    (at? fl s = none ∧ Instr.findNow .string (nameV s) es.toList 0 = some none ∧ ∀ e ∈ es.toList, e.key ≠ nameV s) ∨
    ∃ f j e, at? fl s = some f ∧ fl[j]? = some f ∧ es[j]? = some e ∧ e.key = nameV s ∧ f.1.name = s ∧ Instr.findNow .string (nameV s) es.toList 0 = some (some (j, .pointer (some ⟨f.2.1, 0, none⟩))) ∧
      ∀ i g, fl[i]? = some g → ((g.1.name == s) = true ↔ i = j) := by
  have hpos : ∀ (i : Nat) (e : MapEntry), es.toList[i]? = some e → ∃ g, fl[i]? = some g ∧ e.key = nameV g.1.name ∧ e.val = .pointer (some ⟨g.2.1, 0, none⟩) := by
    intro i e he
    have h1 : (es.toList.map pairE)[i]? = some (pairE e) := by rw [List.getElem?_map, he]; rfl
    rw [show es.toList.map pairE = fl.map pairF from h.ents, List.getElem?_map] at h1
    cases hg : fl[i]? with
    | none => rw [hg] at h1; cases h1
    | some g =>
      rw [hg] at h1
      have h2 : pairF g = pairE e := Option.some.inj h1
      exact ⟨g, rfl, (congrArg Prod.fst h2).symm, (congrArg Prod.snd h2).symm⟩
  have hun := h.unlike
  rcases MapKept.findNow_spec (d := .string) (k := nameV s) trivial es.toList 0 h.keys with ⟨h1, h2⟩ | ⟨j, e, h1, h2, h3⟩
  · refine .inl ⟨?_, h1, h2⟩
    unfold at?
    rw [List.find?_eq_none]
    intro f hf hn
    obtain ⟨i, hi⟩ := List.getElem?_of_mem hf
    have h4 : (fl.map pairF)[i]? = some (pairF f) := by rw [List.getElem?_map, hi]; rfl
    rw [← show es.toList.map pairE = fl.map pairF from h.ents, List.getElem?_map] at h4
    cases he : es.toList[i]? with
    | none => rw [he] at h4; cases h4
    | some e =>
      rw [he] at h4
      have h5 : pairE e = pairF f := Option.some.inj h4
      refine h2 e (List.mem_of_getElem? he) ?_
      rw [show e.key = nameV f.1.name from congrArg Prod.fst h5, show f.1.name = s by simpa using hn]
  · rw [Nat.zero_add] at h1
    obtain ⟨g, hg, hk, hv⟩ := hpos j e h2
    have hs : g.1.name = s := nameV_inj (by rw [← hk, h3])
    have hu : ∀ i g', fl[i]? = some g' → ((g'.1.name == s) = true ↔ i = j) := by
      intro i g' hi
      constructor
      · intro hn
        exact unlike_at hun hi hg (by rw [hs]; simpa using hn)
      · rintro rfl
        rw [hi] at hg
        cases hg
        simpa using hs
    refine .inr ⟨g, j, e, ?_, hg, by simpa using h2, h3, hs, by rw [h1, hv], hu⟩
    unfold at?
    have hm : g ∈ fl := List.mem_of_getElem? hg
    cases hf : fl.find? fun f => f.1.name == s with
    | none => exact absurd (List.find?_eq_none.1 hf g hm) (by simp [hs])
    | some g' =>
      have hg' : g' ∈ fl := List.mem_of_find?_eq_some hf
      obtain ⟨i, hi⟩ := List.getElem?_of_mem hg'
      have := (hu i g' hi).1 (List.find?_some (p := fun f : Ent => f.1.name == s) hf)
      subst this
      rw [hi] at hg
      exact hg

theorem DiskAt.size {w : World} {x : Lk.DiskS} {b m : Nat} {es : Array MapEntry} {clock : Nat} {fl : List Ent} (h : DiskAt w x b m es clock fl) : es.size = x.files.length := by
  have h1 := congrArg List.length h.ents
  have h2 := h.perm.length_eq
  simp at h1 h2
  omega

theorem DiskAt.len {w : World} {x : Lk.DiskS} {b m : Nat} {es : Array MapEntry} {clock : Nat} {fl : List Ent} (h : DiskAt w x b m es clock fl) (ty : TypeId) :
    (Builtin.len_ #[52] ty #[.map (some m)]).run Try.prog w = .ok (.int .i64 x.files.length) w := by
  have := h.size
  simp [Builtin.len_, run_underlying Try.underlying52, MapKept.run_getObj_map h.map, Result.andThen, this, goInt]

theorem DiskAt.put {w : World} {x : Lk.DiskS} {b m : Nat} {es : Array MapEntry} {clock : Nat} {fl : List Ent} (h : DiskAt w x b m es clock fl) {s : List UInt8} (hs : at? fl s = none) (v : Value) :
    (Instr.mapUpdate 52 (.map (some m)) (nameV s) v).run Try.prog w = .ok () (setMap w m (es.push { key := nameV s, val := v, born := clock }) (clock + 1)) := by
  have hk : MapKept.IsKey .string (nameV s) := trivial
  rcases h.find s with ⟨_, h1, _⟩ | ⟨f, j, e, h1, _⟩
  · simp [Instr.mapUpdate, run_underlying Try.underlying52, MapKept.run_getObj_map h.map, MapKept.run_checkKey Try.underlying9 hk, MapKept.run_findKey Try.underlying9 h1, MapKept.run_setObj_map _ h.map, Result.andThen, setMap]
  · rw [hs] at h1; cases h1

theorem DiskAt.over {w : World} {x : Lk.DiskS} {b m : Nat} {es : Array MapEntry} {clock : Nat} {fl : List Ent} (h : DiskAt w x b m es clock fl) {s : List UInt8} {f : Ent} (hs : at? fl s = some f) (v : Value) :
    ∃ j, (∀ i g, fl[i]? = some g → ((g.1.name == s) = true ↔ i = j)) ∧ (Instr.mapUpdate 52 (.map (some m)) (nameV s) v).run Try.prog w = .ok () (setMap w m (es.modify j fun e => { e with key := nameV s, val := v }) clock) := by
  have hk : MapKept.IsKey .string (nameV s) := trivial
  rcases h.find s with ⟨h1, _⟩ | ⟨g, j, e, _, _, h2, h3, _, h5, h6⟩
  · rw [hs] at h1; cases h1
  · refine ⟨j, h6, ?_⟩
    simp [Instr.mapUpdate, run_underlying Try.underlying52, MapKept.run_getObj_map h.map, MapKept.run_checkKey Try.underlying9 hk, MapKept.run_findKey Try.underlying9 h5, h2, h3, MapKept.run_keyThatStays hk, MapKept.run_setObj_map _ h.map, Result.andThen, setMap]

theorem DiskAt.drop {w : World} {x : Lk.DiskS} {b m : Nat} {es : Array MapEntry} {clock : Nat} {fl : List Ent} (h : DiskAt w x b m es clock fl) {s : List UInt8} {f : Ent} (hs : at? fl s = some f) :
    ∃ j, (∀ i g, fl[i]? = some g → ((g.1.name == s) = true ↔ i = j)) ∧ ∀ ty, (Builtin.delete_ #[52, 9] ty #[.map (some m), nameV s]).run Try.prog w = .ok (.tuple #[]) (setMap w m (es.eraseIdxIfInBounds j) clock) := by
  have hk : MapKept.IsKey .string (nameV s) := trivial
  rcases h.find s with ⟨h1, _⟩ | ⟨g, j, e, _, _, h2, h3, _, h5, h6⟩
  · rw [hs] at h1; cases h1
  · refine ⟨j, h6, fun ty => ?_⟩
    simp [Builtin.delete_, run_underlying Try.underlying52, MapKept.run_getObj_map h.map, MapKept.run_checkKey Try.underlying9 hk, MapKept.run_findKey Try.underlying9 h5, MapKept.run_setObj_map _ h.map, Result.andThen, setMap]

theorem DiskAt.remap {w : World} {x x' : Lk.DiskS} {b m : Nat} {es es' : Array MapEntry} {clock clock' : Nat} {fl fl' : List Ent} (h : DiskAt w x b m es clock fl)
    (he : es'.toList.map pairE = fl'.map pairF) (hs : MapKept.Stamped es' clock') (hp : x'.files.Perm (fl'.map (·.1))) (hq : x'.quota = x.quota) (hu : x'.used = x.used) (hr : x'.refused = x.refused) (ha : x'.after = x.after) (hc : x'.count = x.count)
    (hf : ∀ f ∈ fl', FileAt w f.1 f.2.1 f.2.2) (hn : (b :: m :: (fl'.map blks).flatten).Nodup) (hl : ∀ k ∈ (fl'.map blks).flatten, k < w.heap.size) : DiskAt (setMap w m es' clock') x' b m es' clock' fl' where
  head := by
    have hbm : b ≠ m := fun e => (List.nodup_cons.1 hn).1 (by rw [e]; simp)
    rw [setMap_other hbm, hq, hu, hr, ha, hc]; exact h.head
  map := setMap_same (h.lt m (by simp))
  ents := he
  st := hs
  perm := hp
  file f hfl := (hf f hfl).keep fun k hk => by
    refine setMap_other fun e => ?_
    have := (List.nodup_cons.1 (List.nodup_cons.1 hn).2).1
    rw [e] at hk
    exact this (List.mem_flatten.2 ⟨blks f, List.mem_map.2 ⟨f, hfl, rfl⟩, hk⟩)
  nodup := hn
  lt k hk := by
    rw [setMap_size]
    simp only [List.mem_cons] at hk
    rcases hk with rfl | rfl | hk
    · exact h.lt _ (by simp)
    · exact h.lt _ (by simp)
    · exact hl k hk

theorem ext_setMap {w w1 : World} {bs : List Nat} {m : Nat} (hm : m ∈ bs ∨ w.heap.size ≤ m) (h : Lk.Ext bs w w1) (es : Array MapEntry) (clock : Nat) : Lk.Ext bs w (setMap w1 m es clock) :=
  ⟨h.os, h.tape, h.output, by rw [setMap_size]; exact h.size, fun i hi hn => by
    rw [setMap_other (fun e => by rcases hm with hm | hm
                                  · exact hn (e ▸ hm)
                                  · omega)]; exact h.block i hi hn⟩
theorem ext_setCell {w w1 : World} {bs : List Nat} {a : Addr} (hm : a.block ∈ bs ∨ w.heap.size ≤ a.block) (h : Lk.Ext bs w w1) (v : Value) : Lk.Ext bs w (w1.setCell a v) :=
  ⟨h.os, h.tape, h.output, by rw [show (w1.setCell a v).heap.size = w1.heap.size by simp [World.setCell]]; exact h.size, fun i hi hn => by
    rw [Below.heap_setCell w1 a v i (fun e => by
      rcases hm with hm | hm
      · exact hn (e ▸ hm)
      · omega)]; exact h.block i hi hn⟩
theorem ext_alloc {w w1 : World} {bs : List Nat} (h : Lk.Ext bs w w1) (o : Obj) : Lk.Ext bs w (w1.alloc o) :=
  ⟨h.os, h.tape, h.output, by rw [alloc_size]; have := h.size; omega, fun i hi hn => (alloc_lt w1 o (Nat.lt_of_lt_of_le hi h.size)).trans (h.block i hi hn)⟩
theorem ext_refl (w : World) (bs : List Nat) : Lk.Ext bs w w := ⟨rfl, rfl, rfl, Nat.le_refl _, fun _ _ _ => rfl⟩
theorem ext_drew {w w1 : World} {bs : List Nat} (h : Lk.Ext bs w w1) (n : Nat) : Lk.Ext bs w { w1 with drawn := n } := ⟨h.os, h.tape, h.output, h.size, h.block⟩
theorem ext_more {w w1 : World} {bs cs : List Nat} (h : Lk.Ext bs w w1) (hs : ∀ k ∈ bs, k ∈ cs ∨ w.heap.size ≤ k) : Lk.Ext cs w w1 :=
  ⟨h.os, h.tape, h.output, h.size, fun i hi hn => h.block i hi fun hb => by
    rcases hs i hb with h | h
    · exact hn h
    · omega⟩
theorem ext_tr {w w1 w2 : World} {bs cs : List Nat} (h : Lk.Ext bs w w1) (g : Lk.Ext cs w1 w2) (hs : ∀ k ∈ cs, k ∈ bs ∨ w.heap.size ≤ k) : Lk.Ext bs w w2 :=
  ⟨g.os.trans h.os, g.tape.trans h.tape, g.output.trans h.output, Nat.le_trans h.size g.size, fun i hi hn => (g.block i (Nat.lt_of_lt_of_le hi h.size) fun hb => by
    rcases hs i hb with h | h
    · exact hn h
    · omega).trans (h.block i hi hn)⟩
end Go.Proofs.Ytcfagjkijhjaoaa

namespace Go.Proofs.Ytcfagjkijhjaoaa
open Go.RowKit

theorem wrap64_wrap (z : Int) : wrap64 z = IntKind.i64.wrap z := by
  unfold wrap64
  simp only [IntKind.wrap, IntKind.bits, IntKind.signed, Bool.true_and]
  split
  · rename_i h
    have h := of_decide_eq_true h
    omega
  · rename_i h
    have h := mt decide_eq_true h
    omega

theorem DiskAt.more {w : World} {x : Lk.DiskS} {b m : Nat} {es : Array MapEntry} {clock : Nat} {fl : List Ent} (h : DiskAt w x b m es clock fl) : DiskAt (w.setCell ⟨b, 3, none⟩ (.int .i64 (wrap64 (x.refused + 1)))) (Dk.more x) b m es clock fl := by
  refine h.set 3 _ rfl ?_
  unfold Dk.more
  rw [wrap64_wrap]
  rfl

set_option maxHeartbeats 1000000 in
theorem try_count (w : World) (x : Lk.DiskS) (b m : Nat) (es : Array MapEntry) (clock : Nat) (fl : List Ent) (h : DiskAt w x b m es clock fl) (ha : ¬ 0 < x.after) (hc : 0 < x.count) (hc2 : x.count ≤ 9223372036854775807) (t : Bool) :
    Calls Try.prog 55 #[.pointer (some ⟨b, 0, none⟩), .bool t] w fun e w' => e = .returned (.bool true) ∧ DiskAt w' (Dk.more { x with count := x.count - 1 }) b m es clock fl ∧ Lk.Ext [b] w w' := by
  have hA := h.alloc (.cells #[.int .i64 x.after, .int .i64 (x.count - 1)] 54)
  obtain ⟨h0, h1, h2, h3, h4, h5⟩ := h.cell
  obtain ⟨a0, a1, a2, a3, a4, a5⟩ := hA.cell
  have z4 := hA.frozen 4
  have z5 := hA.frozen 5
  have z3 := hA.frozen 3
  have hn := neq_plan
  have hx : (x.count - 1 == x.count) = false := by simp; omega
  go_enter Try.func55, Try.ntmps55
  go_wp2
  go_region
  go_step
  go_step
  go_step
  go_step
  go_step
  go_step
  go_step
  go_step
  go_step
  go_step
  go_step
  go_step
  go_step
  go_step
  go_step
  go_step
  go_step
  go_step
  go_step
  go_step
  go_step
  go_step
  have hB := ((hA.set 4 (.int .i64 x.after) (x' := x) rfl rfl).set 5 (.int .i64 (x.count - 1)) (x' := { x with count := x.count - 1 }) rfl rfl)
  have hb := h.lt b (by simp)
  have hE := ext_drawn (ext_own hb (ext_own hb (ext_al w (.cells #[.int .i64 x.after, .int .i64 (x.count - 1)] 54) b) 4 (.int .i64 x.after)) 5 (.int .i64 (x.count - 1))) (w.drawn + 1)
  have hB2 := hB.drawn (w.drawn + 1)
  generalize hW : World.drew _ = W
  replace hB2 : DiskAt W { x with count := x.count - 1 } b m es clock fl := by rw [← hW]; exact hB2
  replace hE : Lk.Ext [b] w W := by rw [← hW]; exact hE
  clear hW hB hA h h0 h1 h2 h3 h4 h5 a0 a1 a2 a3 a4 a5 z3 z4 z5 hb
  obtain ⟨_, _, _, c3, _, _⟩ := hB2.cell
  have z3 := hB2.frozen 3
  go_wp2
  go_ret
  exact ⟨rfl, hB2.more, ext_setCell (.inl (by simp)) hE _⟩

theorem try_any (w : World) (x : Lk.DiskS) (b m : Nat) (es : Array MapEntry) (clock : Nat) (fl : List Ent) (h : DiskAt w x b m es clock fl) (hg : Dk.Good x) (t : Bool) :
    Calls Try.prog 55 #[.pointer (some ⟨b, 0, none⟩), .bool t] w fun e w' => e = .returned (.bool (Dk.try_ x t).1) ∧ DiskAt w' (Dk.try_ x t).2 b m es clock fl ∧ Lk.Ext [b] w w' := by
  unfold Dk.try_
  by_cases ha : 0 < x.after
  · rw [if_pos ha]
    cases t with
    | false => exact try_after_f w x b m es clock fl h ha hg.after.2
    | true =>
      refine (try_after_t w x b m es clock fl h ha hg.after.2).mono ?_
      rintro e w' ⟨rfl, h1, h2⟩
      rw [wrap64_wrap] at h1
      exact ⟨rfl, h1, h2⟩
  · rw [if_neg ha]
    by_cases hc : 0 < x.count
    · rw [if_pos hc]
      exact try_count w x b m es clock fl h ha hc hg.count.2 t
    · rw [if_neg hc]
      cases t with
      | false => exact try_none_f w x b m es clock fl h ha hc
      | true =>
        refine (try_none_t w x b m es clock fl h ha hc).mono ?_
        rintro e w' ⟨rfl, h1, h2⟩
        rw [wrap64_wrap] at h1
        exact ⟨rfl, h1, h2⟩
end Go.Proofs.Ytcfagjkijhjaoaa

namespace Go.Proofs.Ytcfagjkijhjaoaa
open Go.RowKit

def Did (w w' : World) (b m : Nat) (fl : List Ent) (x' : Lk.DiskS) : Prop :=
  ∃ es' clock' fl', DiskAt w' x' b m es' clock' fl' ∧ Lk.Ext (b :: m :: (fl.map blks).flatten) w w' ∧ ∀ k ∈ (fl'.map blks).flatten, k ∈ (fl.map blks).flatten ∨ w.heap.size ≤ k

theorem Did.same {w w' : World} {b m : Nat} {fl : List Ent} {x' : Lk.DiskS} {es : Array MapEntry} {clock : Nat} (h : DiskAt w' x' b m es clock fl) (he : Lk.Ext (b :: m :: (fl.map blks).flatten) w w') : Did w w' b m fl x' :=
  ⟨es, clock, fl, h, he, fun _ hk => .inl hk⟩

theorem okB {s : List UInt8} (h : Dk.okN s) : (ByteArray.mk s.toArray).toList.isEmpty = false ∧ (ByteArray.mk s.toArray).size ≤ 64 := by
  constructor
  · cases s with
    | nil => exact absurd h.1 (by simp)
    | cons a l => simp [ByteArray.toList_eq]
  · exact h.2

theorem badB {s : List UInt8} (h : ¬ Dk.okN s) : ¬ ((ByteArray.mk s.toArray).toList.isEmpty = false ∧ (ByteArray.mk s.toArray).size ≤ 64) := by
  rintro ⟨h1, h2⟩
  refine h ⟨?_, h2⟩
  cases s with
  | nil => simp [ByteArray.toList_eq] at h1
  | cons a l => simp

theorem at?_look {fl : List Ent} {x : List Lk.DFile} (hp : x.Perm (fl.map (·.1))) (hu : fl.Pairwise fun f g => f.1.name ≠ g.1.name) (s : List UInt8) : Dk.look x s = (at? fl s).map (·.1) := by
  unfold Dk.look at?
  cases h : fl.find? fun f => f.1.name == s with
  | none =>
    simp only [Option.map_none]
    rw [List.find?_eq_none]
    intro f hf
    obtain ⟨g, hg, rfl⟩ := List.mem_map.1 (hp.mem_iff.1 hf)
    exact List.find?_eq_none.1 h g hg
  | some g =>
    have hg := List.mem_of_find?_eq_some h
    have hs : g.1.name = s := by simpa using List.find?_some h
    simp only [Option.map_some]
    cases h2 : x.find? fun f => f.name == s with
    | none => exact absurd (List.find?_eq_none.1 h2 g.1 (hp.mem_iff.2 (List.mem_map.2 ⟨g, hg, rfl⟩))) (by simp [hs])
    | some f =>
      have hf := List.mem_of_find?_eq_some h2
      have hs2 : f.name = s := by simpa using List.find?_some h2
      obtain ⟨g', hg', rfl⟩ := List.mem_map.1 (hp.mem_iff.1 hf)
      obtain ⟨i, hi⟩ := List.getElem?_of_mem hg
      obtain ⟨j, hj⟩ := List.getElem?_of_mem hg'
      have := unlike_at hu hi hj (by rw [hs, hs2])
      subst this
      rw [hi] at hj
      cases hj
      rfl

set_option maxHeartbeats 400000 in
theorem create_bad (w : World) (x : Lk.DiskS) (b m : Nat) (es : Array MapEntry) (clock : Nat) (fl : List Ent) (h : DiskAt w x b m es clock fl) (s : List UInt8) (hs : ¬ Dk.okN s) :
    Calls Try.prog 24 #[.pointer (some ⟨b, 0, none⟩), .string ⟨s.toArray⟩] w fun e w' => e = .returned (.int .i64 2) ∧ w' = w.alloc (.cells #[.string ⟨s.toArray⟩] 9) := by
  have hA := h.alloc (.cells #[.string ⟨s.toArray⟩] 9)
  obtain ⟨h0, _⟩ := hA.cell
  have hc := name_cell w s
  go_enter Try.func24, Try.ntmps24
  go_wp2_with (go_at_call 54; refine (check_bad _ b m _ _ h0 hc (badB hs)).mono ?_; rintro e w2 ⟨rfl, rfl⟩)
  go_ret
  exact ⟨rfl, rfl⟩

set_option maxHeartbeats 400000 in
theorem create_there (w : World) (x : Lk.DiskS) (b m : Nat) (es : Array MapEntry) (clock : Nat) (fl : List Ent) (h : DiskAt w x b m es clock fl) (s : List UInt8) (hs : Dk.okN s) (f : Ent) (hf : at? fl s = some f) :
    Calls Try.prog 24 #[.pointer (some ⟨b, 0, none⟩), .string ⟨s.toArray⟩] w fun e w' => e = .returned (.int .i64 50) ∧ w' = w.alloc (.cells #[.string ⟨s.toArray⟩] 9) := by
  have hA := h.alloc (.cells #[.string ⟨s.toArray⟩] 9)
  obtain ⟨h0, _⟩ := hA.cell
  have hc := name_cell w s
  obtain ⟨h1, h2⟩ := okB hs
  have hl := hA.lookup s
  rw [hf] at hl
  unfold nameV at hl
  go_enter Try.func24, Try.ntmps24
  go_wp2_with (go_at_call 54; refine (check_ok _ b m _ _ h0 hc h1 h2).mono ?_; rintro e w2 ⟨rfl, rfl⟩)
  go_ret
  exact ⟨rfl, rfl⟩

theorem ext_b {w w1 : World} {b m : Nat} {fl : List Ent} (h : Lk.Ext [b] w w1) : Lk.Ext (b :: m :: (fl.map blks).flatten) w w1 :=
  ext_more h (by simp)

set_option maxHeartbeats 400000 in
theorem create_no (w : World) (x : Lk.DiskS) (b m : Nat) (es : Array MapEntry) (clock : Nat) (fl : List Ent) (h : DiskAt w x b m es clock fl) (hg : Dk.Good x) (s : List UInt8) (hs : Dk.okN s) (hf : at? fl s = none) (ht : (Dk.try_ x (decide (4096 ≤ x.files.length))).1 = true) :
    Calls Try.prog 24 #[.pointer (some ⟨b, 0, none⟩), .string ⟨s.toArray⟩] w fun e w' => e = .returned (.int .i64 52) ∧ Did w w' b m fl (Dk.try_ x (decide (4096 ≤ x.files.length))).2 := by
  have hA := h.alloc (.cells #[.string ⟨s.toArray⟩] 9)
  obtain ⟨h0, _⟩ := hA.cell
  have hc := name_cell w s
  obtain ⟨h1, h2⟩ := okB hs
  have hl := hA.lookup s
  rw [hf] at hl
  unfold nameV at hl
  have hn := fun ty => hA.len ty
  have htry := try_any _ x b m es clock fl hA hg (decide (4096 ≤ x.files.length))
  rw [ht] at htry
  have hd : decide ((4096 : Int) ≤ (x.files.length : Int)) = decide (4096 ≤ x.files.length) := by
    by_cases h : 4096 ≤ x.files.length
    · rw [decide_eq_true h, decide_eq_true (by omega)]
    · rw [decide_eq_false h, decide_eq_false (by omega)]
  have hE := ext_al w (.cells #[.string ⟨s.toArray⟩] 9) b
  go_enter Try.func24, Try.ntmps24
  go_wp2_with (first | (go_at_call 54; refine (check_ok _ b m _ _ h0 hc h1 h2).mono ?_; rintro e w2 ⟨rfl, rfl⟩) | (go_at_call 55; first | (rw [hd]; refine htry.mono ?_) | (refine htry.mono ?_); rintro e w2 ⟨rfl, hD, hX⟩))
  go_ret
  exact ⟨rfl, .same hD (ext_b (ext_tr hE hX (by simp)))⟩
end Go.Proofs.Ytcfagjkijhjaoaa

namespace Go.Proofs.Ytcfagjkijhjaoaa
open Go.RowKit

theorem at?_none {fl : List Ent} {s : List UInt8} (h : at? fl s = none) : ∀ f ∈ fl, f.1.name ≠ s := by
  intro f hf e
  exact List.find?_eq_none.1 h f hf (by simpa using e)

theorem flat_append (a b : List Ent) : ((a ++ b).map blks).flatten = (a.map blks).flatten ++ (b.map blks).flatten := by simp

theorem ins_perm (f : Lk.DFile) : ∀ l : List Lk.DFile, (Dk.ins f l).Perm (f :: l)
  | [] => List.Perm.refl _
  | g :: l => by
    unfold Dk.ins
    split
    · exact ((ins_perm f l).cons g).trans (List.Perm.swap f g l)
    · exact List.Perm.refl _

theorem DiskAt.push {w : World} {x : Lk.DiskS} {b m : Nat} {es : Array MapEntry} {clock : Nat} {fl : List Ent} (h : DiskAt w x b m es clock fl) {s : List UInt8} (hs : at? fl s = none) :
    DiskAt (setMap (w.alloc (.cells #[.slice none 0 0, .int .i64 0] 72)) m (es.push { key := nameV s, val := .pointer (some ⟨w.heap.size, 0, none⟩), born := clock }) (clock + 1))
      { x with files := Dk.ins ⟨s, [], 0⟩ x.files } b m (es.push { key := nameV s, val := .pointer (some ⟨w.heap.size, 0, none⟩), born := clock }) (clock + 1) (fl ++ [(⟨s, [], 0⟩, w.heap.size, none)]) := by
  have hA := h.alloc (.cells #[.slice none 0 0, .int .i64 0] 72)
  have hlt := h.lt
  have hfr : w.heap.size ∉ b :: m :: (fl.map blks).flatten := fun hm => Nat.lt_irrefl _ (hlt _ hm)
  refine hA.remap ?_ (MapKept.stamped_push h.st ?_) ?_ rfl rfl rfl rfl rfl ?_ ?_ ?_
  · rw [Array.toList_push, List.map_append, List.map_append, show es.toList.map pairE = fl.map pairF from h.ents]
    rfl
  · rcases h.find s with ⟨_, _, h3⟩ | ⟨f, j, e, h1, _⟩
    · exact h3
    · rw [hs] at h1; cases h1
  · rw [List.map_append]
    exact (ins_perm _ _).trans ((List.Perm.cons _ h.perm).trans (List.perm_append_comm (l₁ := [_])))
  · intro f hf
    rcases List.mem_append.1 hf with hf | hf
    · exact hA.file f hf
    · obtain rfl := List.mem_singleton.1 hf
      exact ⟨_, alloc_new w _, rfl, rfl⟩
  · rw [flat_append]
    have := h.nodup
    rw [← List.cons_append, ← List.cons_append]
    refine List.nodup_append.2 ⟨this, by simp [blks], ?_⟩
    intro a ha c hc
    simp [blks] at hc
    subst hc
    rintro rfl
    exact hfr ha
  · intro k hk
    rw [alloc_size]
    rw [flat_append, List.mem_append] at hk
    rcases hk with hk | hk
    · have := hlt k (by simp [hk]); omega
    · simp [blks] at hk; omega

theorem Did.push {w w2 : World} {x : Lk.DiskS} {b m : Nat} {es : Array MapEntry} {clock : Nat} {fl : List Ent} (h : DiskAt w2 x b m es clock fl) (he : Lk.Ext (b :: m :: (fl.map blks).flatten) w w2) {s : List UInt8} (hs : at? fl s = none) :
    Did w (setMap (w2.alloc (.cells #[.slice none 0 0, .int .i64 0] 72)) m (es.push { key := nameV s, val := .pointer (some ⟨w2.heap.size, 0, none⟩), born := clock }) (clock + 1)) b m fl { x with files := Dk.ins ⟨s, [], 0⟩ x.files } := by
  refine ⟨_, _, _, h.push hs, ext_setMap (.inl (by simp)) (ext_alloc he _) _ _, fun k hk => ?_⟩
  rw [flat_append, List.mem_append] at hk
  rcases hk with hk | hk
  · exact .inl hk
  · simp [blks] at hk
    have := he.size
    exact .inr (by omega)

set_option maxHeartbeats 400000 in
theorem create_ok (w : World) (x : Lk.DiskS) (b m : Nat) (es : Array MapEntry) (clock : Nat) (fl : List Ent) (h : DiskAt w x b m es clock fl) (hg : Dk.Good x) (s : List UInt8) (hs : Dk.okN s) (hf : at? fl s = none) (ht : (Dk.try_ x (decide (4096 ≤ x.files.length))).1 = false) :
    Calls Try.prog 24 #[.pointer (some ⟨b, 0, none⟩), .string ⟨s.toArray⟩] w fun e w' => e = .returned (.int .i64 0) ∧
      Did w w' b m fl { (Dk.try_ x (decide (4096 ≤ x.files.length))).2 with files := Dk.ins ⟨s, [], 0⟩ (Dk.try_ x (decide (4096 ≤ x.files.length))).2.files } := by
  have hA := h.alloc (.cells #[.string ⟨s.toArray⟩] 9)
  obtain ⟨h0, _⟩ := hA.cell
  have hc := name_cell w s
  obtain ⟨h1, h2⟩ := okB hs
  have hl := hA.lookup s
  rw [hf] at hl
  unfold nameV at hl
  have hn := fun ty => hA.len ty
  have htry := try_any _ x b m es clock fl hA hg (decide (4096 ≤ x.files.length))
  rw [ht] at htry
  have hd : decide ((4096 : Int) ≤ (x.files.length : Int)) = decide (4096 ≤ x.files.length) := by
    by_cases h : 4096 ≤ x.files.length
    · rw [decide_eq_true h, decide_eq_true (by omega)]
    · rw [decide_eq_false h, decide_eq_false (by omega)]
  have hE := ext_al w (.cells #[.string ⟨s.toArray⟩] 9) b
  generalize (Dk.try_ x (decide (4096 ≤ x.files.length))).2 = y at htry ⊢
  go_enter Try.func24, Try.ntmps24
  go_wp2_with (first | (go_at_call 54; refine (check_ok _ b m _ _ h0 hc h1 h2).mono ?_; rintro e w2 ⟨rfl, rfl⟩) | (go_at_call 55; first | (rw [hd]; refine htry.mono ?_) | (refine htry.mono ?_); rintro e w2 ⟨rfl, hD, hX⟩; have hcc := hD.cell; obtain ⟨c0, _⟩ := hcc; have hput := (hD.alloc (.cells #[.slice none 0 0, .int .i64 0] 72)).put hf (.pointer (some ⟨w2.heap.size, 0, none⟩)); unfold nameV at hput))
  go_ret
  exact ⟨rfl, .push hD (ext_b (ext_tr hE hX (by simp))) hf⟩

theorem create_any (w : World) (x : Lk.DiskS) (b m : Nat) (es : Array MapEntry) (clock : Nat) (fl : List Ent) (h : DiskAt w x b m es clock fl) (hg : Dk.Good x) (s : List UInt8) :
    Calls Try.prog 24 #[.pointer (some ⟨b, 0, none⟩), .string ⟨s.toArray⟩] w fun e w' => e = .returned (.int .i64 (Dk.create x s).1) ∧ Did w w' b m fl (Dk.create x s).2 := by
  have hA := h.alloc (.cells #[.string ⟨s.toArray⟩] 9)
  have hE := ext_al w (.cells #[.string ⟨s.toArray⟩] 9) b
  unfold Dk.create
  by_cases hs : Dk.okN s
  · rw [if_pos hs, at?_look h.perm h.unlike s]
    cases hf : at? fl s with
    | some f =>
      refine (create_there w x b m es clock fl h s hs f hf).mono ?_
      rintro e w' ⟨rfl, rfl⟩
      exact ⟨rfl, .same hA (ext_b hE)⟩
    | none =>
      simp only [Option.map_none]
      cases ht : (Dk.try_ x (decide (4096 ≤ x.files.length))).1 with
      | true => simpa only [if_true] using create_no w x b m es clock fl h hg s hs hf ht
      | false => simpa only [Bool.false_eq_true, if_false] using create_ok w x b m es clock fl h hg s hs hf ht
  · rw [if_neg hs]
    refine (create_bad w x b m es clock fl h s hs).mono ?_
    rintro e w' ⟨rfl, rfl⟩
    exact ⟨rfl, .same hA (ext_b hE)⟩
end Go.Proofs.Ytcfagjkijhjaoaa

/-! Rows of bytes: as L has them. -/
namespace Go.Proofs.Ytcfagjkijhjaoaa
open Go.RowKit

section
variable {τ : Lk.Ax} {S Sb : Nat → Prop} {w : World}

theorem win_one {C : List Value} {k : Nat} {v : Value} (h : C[k]? = some v) : Lk.win C k 1 = [v] := by
  unfold Lk.win
  rw [List.getElem?_eq_some_iff] at h
  obtain ⟨hk, rfl⟩ := h
  rw [List.drop_eq_getElem_cons hk]
  rfl

theorem win_one_inv {C : List Value} {k : Nat} {v : Value} (h : Lk.win C k 1 = [v]) : C[k]? = some v := by
  unfold Lk.win at h
  rcases Nat.lt_or_ge k C.length with hk | hk
  · rw [List.drop_eq_getElem_cons hk] at h
    rw [List.getElem?_eq_getElem hk]
    have h' : C[k] :: ((C.drop (k + 1)).take 0) = [v] := h
    simpa using h'
  · rw [List.drop_eq_nil_of_le hk] at h
    simp at h

theorem BytesAt.rd {l : List UInt8} {v : Value} {bb : Option Nat} (h : BytesAt w l v bb) (hS : ∀ b ∈ bb.toList, S b) : Lk.Rd τ S w (.l .by) l [v] := by
  cases bb with
  | none =>
    obtain ⟨rfl, rfl⟩ := h
    exact ⟨none, 0, rfl, Nat.le_refl _, Nat.zero_le _, fun _ => rfl, .inl rfl⟩
  | some b =>
    obtain ⟨off, cap, C, e, f, rfl, h2, h3, h4, h5, h6, h7⟩ := h
    refine ⟨some ⟨b, off, none⟩, cap, rfl, h2, h4, (by simp), .inr ⟨b, off, C, e, f, rfl, hS b (by simp), h5, fun i y hy => ?_⟩⟩
    show Lk.win C.toList (off + i * 1) 1 = [Value.int .u8 y.toNat]
    rw [Nat.mul_one]
    exact win_one (by simpa using h7 i y hy)

theorem BytesAt.hold {l : List UInt8} {v : Value} {bb : Option Nat} (h : BytesAt w l v bb) : ∃ sh : Lk.Sh (.l .by), v = sh.hd ∧ Lk.hold τ S Sb w (.l .by) (.o .r) l sh ∧ Lk.bl (.l .by) (.o .r) l sh = bb.toList := by
  cases bb with
  | none =>
    obtain ⟨rfl, rfl⟩ := h
    exact ⟨⟨.slice none 0 0, 0, 0, [], 0, (0, 0), []⟩, rfl, .inl ⟨rfl, rfl⟩, rfl⟩
  | some b =>
    obtain ⟨off, cap, C, e, f, rfl, h2, h3, h4, h5, h6, h7⟩ := h
    obtain ⟨sh, g1, g2, g3⟩ := Lk.flat_row (τ := τ) (S := S) (Sb := Sb) (w := w) (t := .by) (m := .r) (x := l) (b := b) (off := off) (cap := cap) (C := C.toList) (e := e) (f := f) rfl
      (by simpa using h5) (by simpa using h6) h2 h4 (by simp [Lk.csz]; omega) (fun i y hy => by
        show Lk.win C.toList (off + i * 1) 1 = [Value.int .u8 y.toNat]
        rw [Nat.mul_one]
        exact win_one (by simpa using h7 i y hy))
    exact ⟨sh, g3.symm, g1, by rw [g2]; rfl⟩

theorem bytes_bl {l : List UInt8} {sh : Lk.Sh (.l .by)} (h : ∃ a n c, sh.hd = .slice (some a) n c) : Lk.bl (.l .by) (.o .r) l sh = [sh.blk] := by
  obtain ⟨a, n, c, h⟩ := h
  simp only [Lk.bl, h]
  congr 1
  rw [List.flatten_eq_nil_iff]
  intro k hk
  obtain ⟨i, hi⟩ := List.mem_iff_getElem?.1 hk
  rw [List.getElem?_zipWith] at hi
  split at hi
  · cases hi; rfl
  · cases hi

theorem bytes_of {l : List UInt8} {sh : Lk.Sh (.l .by)} (h : Lk.hold τ S Sb w (.l .by) (.o .r) l sh) : ∃ bb, BytesAt w l sh.hd bb ∧ Lk.bl (.l .by) (.o .r) l sh = bb.toList := by
  simp only [Lk.hold] at h
  rcases h with ⟨h1, rfl⟩ | ⟨cap, h1, h2, h3, h4, h5, h6, h7, h8⟩
  · exact ⟨none, ⟨h1, rfl⟩, by simp [Lk.bl, h1]⟩
  · refine ⟨some sh.blk, ⟨sh.off, cap, sh.C.toArray, sh.ety, sh.frz, h1, h3, by simp [Lk.csz] at h5; simpa using h5, h4, h6, by simpa using h7, fun i y hy => ?_⟩, by rw [bytes_bl ⟨_, _, _, h1⟩]; rfl⟩
    have hi : i < sh.es.length := by
      rw [h2]
      exact (List.getElem?_eq_some_iff.1 hy).1
    have := (h8 i y _ hy (List.getElem?_eq_getElem hi)).1
    have := win_one_inv (v := .int .u8 y.toNat) (by simpa [Lk.csz, Lk.cells] using this)
    simpa using this

theorem info_5 : ∃ i, Try.prog.info? 5 = some i ∧ i.size = 1 ∧ i.bytes = 1 ∧ i.zero = some (.int .u8 0) := by
  have h : (Try.prog.info? 5).isSome = true := by kernel_rfl
  obtain ⟨i, hi⟩ := Option.isSome_iff_exists.1 h
  have h1 : (Try.prog.info? 5).map (·.size) = some 1 := by kernel_rfl
  have h2 : (Try.prog.info? 5).map (·.bytes) = some 1 := by kernel_rfl
  have h3 : (Try.prog.info? 5).bind (·.zero) = some (.int .u8 0) := by kernel_rfl
  rw [hi] at h1 h2 h3
  exact ⟨i, hi, by simpa using h1, by simpa using h2, by simpa using h3⟩

theorem append_bytes {l : List UInt8} {v : Value} {bb : Option Nat} (h : BytesAt w l v bb) {y : List UInt8} {u : Value} (hy : Lk.Rd τ (fun _ => True) w (.l .by) y [u]) (hb : l.length + y.length ≤ 140737488355328) (oT : TypeId) :
    ∃ w' v' bb', (Builtin.append_ #[29, 29] oT #[v, u]).run Try.prog w = .ok v' w' ∧ BytesAt w' (l ++ y) v' bb' ∧
      (bb' = bb ∧ Lk.Ext bb.toList w w' ∨ Lk.Ext [] w w' ∧ ∃ n, bb' = some n ∧ w.heap.size ≤ n ∧ n < w'.heap.size) := by
  obtain ⟨sh, rfl, h1, h2⟩ := h.hold (τ := τ) (S := fun _ => True) (Sb := fun _ => True)
  obtain ⟨vs, f1, f2, f3, f4⟩ := Lk.src_cells (P := Try.prog) hy y.length (Nat.le_refl _)
  obtain ⟨i5, i1, i2, i3, i4⟩ := info_5
  obtain ⟨w', d', k1, k2, k3, k4⟩ := Lk.run_append (P := Try.prog) (τ := τ) (w := w) (t := .by) (m := .r) (x := l) (sh := sh) (T := 29) (T2 := 29) (e := 5) (i := i5) (z := .int .u8 0) (d2 := .slice 5) (vs := vs) (y := y) (vb := sh.hd) (vsrc := u) (S := fun _ => True) (Sb := fun _ => True)
    rfl rfl h1 rfl Try.underlying29 i1 i2 i4 rfl Try.underlying29 (fun k => by simp) f4 f1 f2 (fun i u hu => f3 i u (List.getElem?_eq_some_iff.1 hu).1 hu) (by rw [i3, Nat.mul_one]; exact hb) hb oT
  obtain ⟨t, m, x, sh'⟩ := d'
  simp only [Lk.DV.av, Lk.AV.mk.injEq] at k2
  obtain ⟨rfl, rfl, k2⟩ := k2
  obtain rfl := eq_of_heq k2
  obtain ⟨bb', g1, g2⟩ := bytes_of (show Lk.hold τ _ _ w' (.l .by) (.o .r) (l ++ y) sh' from k3)
  refine ⟨w', sh'.hd, bb', k1, g1, ?_⟩
  have e1 : Lk.DV.bl ⟨.l .by, .o .r, l ++ y, sh'⟩ = bb'.toList := g2
  rw [e1, h2] at k4
  rcases k4 with ⟨k, kx⟩ | ⟨kx, n, k, k5, k6⟩
  · refine .inl ⟨?_, kx⟩
    cases bb <;> cases bb' <;> simp_all
  · refine .inr ⟨kx, n, ?_, k5, k6⟩
    cases bb' <;> simp_all
end
end Go.Proofs.Ytcfagjkijhjaoaa

/-! A file of a disk is turned; files are found. -/
namespace Go.Proofs.Ytcfagjkijhjaoaa
open Go.RowKit

theorem at?_split {fl : List Ent} (hu : fl.Pairwise fun f g => f.1.name ≠ g.1.name) {s : List UInt8} {f : Ent} (h : at? fl s = some f) :
    f.1.name = s ∧ ∃ aa bs, fl = aa ++ f :: bs ∧ ∀ g ∈ aa ++ bs, g.1.name ≠ s := by
  unfold at? at h
  obtain ⟨h1, aa, bs, rfl, h2⟩ := List.find?_eq_some_iff_append.1 h
  have hs : f.1.name = s := by simpa using h1
  refine ⟨hs, aa, bs, rfl, fun g hg => ?_⟩
  rcases List.mem_append.1 hg with hg | hg
  · have := h2 g hg
    simpa using this
  · have := (List.pairwise_append.1 hu).2.1
    have := (List.pairwise_cons.1 this).1 g hg
    rw [hs] at this
    exact fun e => this e.symm

theorem upd_perm {fl : List Ent} {l : List Lk.DFile} (hp : l.Perm (fl.map (·.1))) {s : List UInt8} {f : Ent} {aa bs : List Ent} (he : fl = aa ++ f :: bs) (hs : f.1.name = s) (ho : ∀ g ∈ aa ++ bs, g.1.name ≠ s) (u : Lk.DFile → Lk.DFile) (p : Nat × Option Nat) :
    (Dk.upd s u l).Perm ((aa ++ (u f.1, p) :: bs).map (·.1)) := by
  refine (hp.map _).trans (List.Perm.of_eq ?_)
  subst he
  rw [List.map_map, List.map_append, List.map_append, List.map_cons, List.map_cons]
  have h1 : ∀ k : List Ent, (∀ g ∈ k, g.1.name ≠ s) → k.map ((fun f => if f.name = s then u f else f) ∘ fun x : Ent => x.1) = k.map (·.1) := by
    intro k hk
    refine List.map_congr_left fun g hg => ?_
    show (if g.1.name = s then u g.1 else g.1) = g.1
    rw [if_neg (hk g hg)]
  rw [h1 aa fun g hg => ho g (List.mem_append_left _ hg), h1 bs fun g hg => ho g (List.mem_append_right _ hg)]
  show _ ++ (if f.1.name = s then u f.1 else f.1) :: _ = _
  rw [if_pos hs]

theorem flat_split (aa bs : List Ent) (f : Ent) : ((aa ++ f :: bs).map blks).flatten = (aa.map blks).flatten ++ (blks f ++ (bs.map blks).flatten) := by simp

theorem DiskAt.modFile {w w' : World} {x x' : Lk.DiskS} {b m : Nat} {es : Array MapEntry} {clock : Nat} {fl : List Ent} (h : DiskAt w x b m es clock fl) {s : List UInt8} {f : Ent} {aa bs : List Ent} (he : fl = aa ++ f :: bs) (hs : f.1.name = s) (ho : ∀ g ∈ aa ++ bs, g.1.name ≠ s)
    (u : Lk.DFile → Lk.DFile) (hu : (u f.1).name = f.1.name) (bb' : Option Nat) (hx : x'.files = Dk.upd s u x.files)
    (hhead : w'.heap[b]? = some (.cells #[.map (some m), .int .i64 x'.quota, .int .i64 x'.used, .int .i64 x'.refused, .int .i64 x'.after, .int .i64 x'.count] 56 (0, 0)))
    (hkeep : ∀ k ∈ m :: (fl.map blks).flatten, k ∉ blks f → w'.heap[k]? = w.heap[k]?) (hfile : FileAt w' (u f.1) f.2.1 bb')
    (hbb : bb' = f.2.2 ∨ ∃ n, bb' = some n ∧ n ∉ b :: m :: (fl.map blks).flatten ∧ n < w'.heap.size) (hsz : w.heap.size ≤ w'.heap.size) :
    DiskAt w' x' b m es clock (aa ++ (u f.1, f.2.1, bb') :: bs) := by
  have hnd := h.nodup
  have hperm := upd_perm h.perm he hs ho u (f.2.1, bb')
  have hoth : ∀ g ∈ aa ++ bs, ∀ k ∈ blks g, k ∉ blks f ∧ k ∈ (fl.map blks).flatten := by
    intro g hg k hk
    subst he
    have hm : k ∈ ((aa ++ f :: bs).map blks).flatten := by
      refine List.mem_flatten.2 ⟨blks g, List.mem_map.2 ⟨g, ?_, rfl⟩, hk⟩
      rcases List.mem_append.1 hg with h | h
      · exact List.mem_append_left _ h
      · exact List.mem_append_right _ (List.mem_cons_of_mem _ h)
    refine ⟨fun hkf => ?_, hm⟩
    have h1 := (List.nodup_cons.1 (List.nodup_cons.1 hnd).2).2
    rw [flat_split] at h1
    obtain ⟨_, h2, h3⟩ := List.nodup_append.1 h1
    obtain ⟨_, _, h4⟩ := List.nodup_append.1 h2
    rcases List.mem_append.1 hg with h | h
    · exact h3 k (List.mem_flatten.2 ⟨blks g, List.mem_map.2 ⟨g, h, rfl⟩, hk⟩) k (List.mem_append_left _ hkf) rfl
    · exact h4 k hkf k (List.mem_flatten.2 ⟨blks g, List.mem_map.2 ⟨g, h, rfl⟩, hk⟩) rfl
  have hmf : m ∉ blks f := fun hm => (List.nodup_cons.1 (List.nodup_cons.1 hnd).2).1 (by rw [he, flat_split]; simp [hm])
  refine ⟨hhead, ?_, ?_, h.st, by rw [hx]; exact hperm, ?_, ?_, ?_⟩
  · rw [hkeep m (by simp) hmf]; exact h.map
  · rw [h.ents, he]
    simp [hu]
  · intro g hg
    rcases List.mem_append.1 hg with hg | hg
    · exact (h.file g (by rw [he]; exact List.mem_append_left _ hg)).keep fun k hk => by
        obtain ⟨h1, h2⟩ := hoth g (List.mem_append_left _ hg) k hk
        exact hkeep k (List.mem_cons_of_mem _ h2) h1
    · rcases List.mem_cons.1 hg with rfl | hg
      · exact hfile
      · exact (h.file g (by rw [he]; exact List.mem_append_right _ (List.mem_cons_of_mem _ hg))).keep fun k hk => by
          obtain ⟨h1, h2⟩ := hoth g (List.mem_append_right _ hg) k hk
          exact hkeep k (List.mem_cons_of_mem _ h2) h1
  · rcases hbb with rfl | ⟨n, rfl, hn, _⟩
    · have e : ((aa ++ (u f.1, f.2.1, f.2.2) :: bs).map blks).flatten = (fl.map blks).flatten := by rw [he, flat_split, flat_split]; rfl
      rw [e]; exact hnd
    · have hsub : ((aa ++ (u f.1, f.2.1, some n) :: bs).map blks).flatten.Perm (n :: ((aa.map blks).flatten ++ (f.2.1 :: (bs.map blks).flatten))) := by
        rw [flat_split]
        show ((aa.map blks).flatten ++ ([f.2.1, n] ++ (bs.map blks).flatten)).Perm _
        refine List.Perm.trans ?_ (List.perm_middle (a := n) (l₁ := (aa.map blks).flatten ++ [f.2.1]) (l₂ := (bs.map blks).flatten) |>.trans (by simp))
        simp
      have h2 : (b :: m :: ((aa.map blks).flatten ++ (f.2.1 :: (bs.map blks).flatten))).Nodup := by
        refine hnd.sublist ?_
        rw [he, flat_split]
        refine ((List.Sublist.refl _).append ?_).cons_cons _ |>.cons_cons _
        show (f.2.1 :: _).Sublist ((f.2.1 :: f.2.2.toList) ++ _)
        exact (List.sublist_append_right _ _).cons_cons _
      have h3 : (n :: b :: m :: ((aa.map blks).flatten ++ (f.2.1 :: (bs.map blks).flatten))).Nodup := by
        refine List.nodup_cons.2 ⟨fun hm => hn ?_, h2⟩
        refine List.Sublist.subset ?_ hm
        rw [he, flat_split]
        refine ((List.Sublist.refl _).append ?_).cons_cons _ |>.cons_cons _
        show (f.2.1 :: _).Sublist ((f.2.1 :: f.2.2.toList) ++ _)
        exact (List.sublist_append_right _ _).cons_cons _
      refine (List.Perm.nodup_iff ?_).1 h3
      refine List.Perm.trans ?_ ((hsub.symm.cons m).cons b)
      exact (List.Perm.swap b n _).trans ((List.Perm.swap m n _).cons b)
  · intro k hk
    have hold : k ∈ b :: m :: (fl.map blks).flatten → k < w'.heap.size := fun hk => Nat.lt_of_lt_of_le (h.lt k hk) hsz
    rcases hbb with rfl | ⟨n, rfl, _, hn⟩
    · have e : ((aa ++ (u f.1, f.2.1, f.2.2) :: bs).map blks).flatten = (fl.map blks).flatten := by rw [he, flat_split, flat_split]; rfl
      rw [e] at hk
      exact hold hk
    · simp only [List.mem_cons] at hk
      rcases hk with rfl | rfl | hk
      · exact hold (by simp)
      · exact hold (by simp)
      · rw [flat_split] at hk
        rcases List.mem_append.1 hk with hk | hk
        · exact hold (by rw [he, flat_split]; simp [hk])
        · rcases List.mem_append.1 hk with hk | hk
          · have hk : k ∈ [f.2.1, n] := hk
            simp only [List.mem_cons, List.not_mem_nil, or_false] at hk
            rcases hk with rfl | rfl
            · exact hold (by rw [he, flat_split]; simp [blks])
            · exact hn
          · exact hold (by rw [he, flat_split]; simp [hk])

def foundV (fl : List Ent) (s : List UInt8) : Value := if Dk.okN s then match at? fl s with
  | some f => .tuple #[.pointer (some ⟨f.2.1, 0, none⟩), .int .i64 0]
  | none => .tuple #[.pointer none, .int .i64 51]
  else .tuple #[.pointer none, .int .i64 2]

theorem find_any (w : World) (x : Lk.DiskS) (b m : Nat) (es : Array MapEntry) (clock : Nat) (fl : List Ent) (h : DiskAt w x b m es clock fl) (s : List UInt8) :
    Calls Try.prog 38 #[.pointer (some ⟨b, 0, none⟩), .string ⟨s.toArray⟩] w fun e w' => e = .returned (foundV fl s) ∧ w' = w.alloc (.cells #[.string ⟨s.toArray⟩] 9) := by
  unfold foundV
  by_cases hs : Dk.okN s
  · rw [if_pos hs]
    obtain ⟨h1, h2⟩ := okB hs
    refine (find_ok w x b m es clock fl h s h1 h2).mono ?_
    rintro e w' ⟨rfl, rfl⟩
    refine ⟨?_, rfl⟩
    cases at? fl s <;> rfl
  · rw [if_neg hs]
    exact find_bad w x b m es clock fl h s (badB hs)
end Go.Proofs.Ytcfagjkijhjaoaa

namespace Go.Proofs.Ytcfagjkijhjaoaa
open Go.RowKit

theorem found_bad {fl : List Ent} {s : List UInt8} (hs : ¬ Dk.okN s) : foundV fl s = .tuple #[.pointer none, .int .i64 2] := by unfold foundV; rw [if_neg hs]
theorem found_no {fl : List Ent} {s : List UInt8} (hs : Dk.okN s) (hf : at? fl s = none) : foundV fl s = .tuple #[.pointer none, .int .i64 51] := by unfold foundV; rw [if_pos hs, hf]
theorem found_yes {fl : List Ent} {s : List UInt8} (hs : Dk.okN s) {f : Ent} (hf : at? fl s = some f) : foundV fl s = .tuple #[.pointer (some ⟨f.2.1, 0, none⟩), .int .i64 0] := by unfold foundV; rw [if_pos hs, hf]

set_option maxHeartbeats 400000 in
theorem append_err (w : World) (x : Lk.DiskS) (b m : Nat) (es : Array MapEntry) (clock : Nat) (fl : List Ent) (h : DiskAt w x b m es clock fl) (s : List UInt8) (a : Option Addr) (n c : Nat) (k : Int) (hk : k ≠ 0) (hs : foundV fl s = .tuple #[.pointer none, .int .i64 k]) :
    Calls Try.prog 25 #[.pointer (some ⟨b, 0, none⟩), .string ⟨s.toArray⟩, .slice a n c] w fun e w' => e = .returned (.int .i64 k) ∧ w' = w.alloc (.cells #[.string ⟨s.toArray⟩] 9) := by
  have hfind := find_any w x b m es clock fl h s
  rw [hs] at hfind
  go_enter Try.func25, Try.ntmps25
  go_wp2_with (go_at_call 38; refine hfind.mono ?_; rintro e w2 ⟨rfl, rfl⟩)
  go_ret
  exact ⟨rfl, rfl⟩

theorem total_nonneg (l : List Lk.DFile) : 0 ≤ Dk.total l := by
  unfold Dk.total
  induction l with
  | nil => simp
  | cons f l ih => simp only [List.map_cons, List.sum_cons]; omega

theorem Good.room {x : Lk.DiskS} (h : Dk.Good x) : IntKind.i64.wrap (x.quota - x.used) = x.quota - x.used := by
  have h1 := h.quota
  have h2 := h.most
  have h3 := total_nonneg x.files
  rw [← h.used] at h3
  exact IntWalk.i64_in _ ⟨by omega, by omega⟩

set_option maxHeartbeats 400000 in
set_option maxRecDepth 100000 in
theorem append_no (w : World) (x : Lk.DiskS) (b m : Nat) (es : Array MapEntry) (clock : Nat) (fl : List Ent) (h : DiskAt w x b m es clock fl) (hg : Dk.Good x) (s : List UInt8) (hs : Dk.okN s) (f : Ent) (hf : at? fl s = some f) (a : Option Addr) (n c : Nat) (ht : (Dk.try_ x (decide ((n : Int) > x.quota - x.used))).1 = true) :
    Calls Try.prog 25 #[.pointer (some ⟨b, 0, none⟩), .string ⟨s.toArray⟩, .slice a n c] w fun e w' => e = .returned (.int .i64 52) ∧ Did w w' b m fl (Dk.try_ x (decide ((n : Int) > x.quota - x.used))).2 := by
  have hfind := find_any w x b m es clock fl h s
  rw [found_yes hs hf] at hfind
  have hA := h.alloc (.cells #[.string ⟨s.toArray⟩] 9)
  have hE := ext_al w (.cells #[.string ⟨s.toArray⟩] 9) b
  go_enter Try.func25, Try.ntmps25
  go_wp2_with (go_at_call 38; refine hfind.mono ?_; rintro e w2 ⟨rfl, rfl⟩)
  generalize w.alloc (.cells #[.string ⟨s.toArray⟩] 9) = W at *
  have hB := hA.drawn (W.drawn + 1)
  obtain ⟨a0, a1, a2, a3, a4, a5⟩ := hA.cell
  go_still_tail 13, (by kernel_rfl)
  have htry := try_any _ x b m es clock fl hB hg (decide ((n : Int) > x.quota - x.used))
  replace hE := ext_drawn hE (W.drawn + 1)
  rw [Good.room hg]
  rw [ht] at htry
  generalize ({ W with drawn := W.drawn + 1 } : World) = W2 at *
  go_wp2_with (go_at_call 55; refine htry.mono ?_; rintro e w3 ⟨rfl, hD, hX⟩)
  go_ret
  exact ⟨rfl, .same hD (ext_b (ext_tr hE hX (by simp)))⟩

theorem try_keeps (x : Lk.DiskS) (t : Bool) : (Dk.try_ x t).2.files = x.files ∧ (Dk.try_ x t).2.used = x.used ∧ (Dk.try_ x t).2.quota = x.quota := by
  unfold Dk.try_ Dk.more
  split
  · cases t <;> exact ⟨rfl, rfl, rfl⟩
  · split
    · exact ⟨rfl, rfl, rfl⟩
    · cases t <;> exact ⟨rfl, rfl, rfl⟩

theorem try_false {x : Lk.DiskS} {t : Bool} (h : (Dk.try_ x t).1 = false) : t = false := by
  unfold Dk.try_ at h
  split at h
  · exact h
  · split at h
    · cases h
    · exact h

theorem len_total {l : List Lk.DFile} {f : Lk.DFile} (h : f ∈ l) : (f.bytes.length : Int) ≤ Dk.total l := by
  unfold Dk.total
  induction l with
  | nil => cases h
  | cons g l ih =>
    have h2 := total_nonneg l
    unfold Dk.total at h2
    simp only [List.map_cons, List.sum_cons]
    rcases List.mem_cons.1 h with rfl | h
    · omega
    · have := ih h; omega

theorem setCell_same (w : World) {k o : Nat} {v : Value} {C : Array Value} {e : TypeId} {f : Nat × Nat} (h : w.heap[k]? = some (.cells C e f)) : (w.setCell ⟨k, o, none⟩ v).heap[k]? = some (.cells (C.setIfInBounds o v) e f) := by
  simp [World.setCell, Array.getElem?_modify, h]

theorem DiskAt.grow {w : World} {x : Lk.DiskS} {b m : Nat} {es : Array MapEntry} {clock : Nat} {fl : List Ent} (h : DiskAt w x b m es clock fl) {s : List UInt8} {f : Ent} (hf : at? fl s = some f) {τ : Lk.Ax} {y : List UInt8} {u : Value} (hy : Lk.Rd τ (fun _ => True) w (.l .by) y [u]) (hb : f.1.bytes.length + y.length ≤ 140737488355328) :
    ∃ a c w4 a4 c4, w.cell? ⟨f.2.1, 0, none⟩ = some (.slice a f.1.bytes.length c) ∧ (Builtin.append_ #[29, 29] 29 #[.slice a f.1.bytes.length c, u]).run Try.prog w = .ok (.slice a4 (f.1.bytes.length + y.length) c4) w4 ∧ w4.cell? ⟨f.2.1, 0, none⟩ = some (.slice a f.1.bytes.length c) ∧ w4.frozen? ⟨f.2.1, 0, none⟩ = false ∧ w4.cell? ⟨b, 2, none⟩ = some (.int .i64 x.used) ∧ w4.frozen? ⟨b, 2, none⟩ = false ∧
      Did w ((w4.setCell ⟨f.2.1, 0, none⟩ (.slice a4 (f.1.bytes.length + y.length) c4)).setCell ⟨b, 2, none⟩ (.int .i64 (x.used + y.length))) b m fl { x with files := Dk.upd s (fun f => { f with bytes := f.bytes ++ y }) x.files, used := x.used + y.length } := by
  obtain ⟨hs, aa, bs, he, ho⟩ := at?_split h.unlike hf
  obtain ⟨a, c, g1, g2⟩ := h.found hf
  obtain ⟨w4, v', bb', hrun, hB, hE⟩ := append_bytes g2 hy hb 29
  obtain ⟨a4, c4, hv4⟩ := hB.slice
  rw [List.length_append] at hv4
  subst hv4
  have hnd := h.nodup
  have hfin : ∀ k ∈ blks f, k ∈ (fl.map blks).flatten := fun k hk => by rw [he, flat_split]; simp [hk]
  have hbf : b ∉ blks f := fun hm => (List.nodup_cons.1 hnd).1 (List.mem_cons_of_mem _ (hfin _ hm))
  have hfb : f.2.1 ≠ b := fun e => hbf (by rw [← e]; simp [blks])
  have hfbb : f.2.1 ∉ f.2.2.toList := by
    have h1 := (List.nodup_cons.1 (List.nodup_cons.1 hnd).2).2
    rw [he, flat_split] at h1
    have h2 := (List.nodup_append.1 (List.nodup_append.1 h1).2.1).1
    exact (List.nodup_cons.1 h2).1
  have hsz : w.heap.size ≤ w4.heap.size := by rcases hE with ⟨_, hE⟩ | ⟨hE, _⟩ <;> exact hE.size
  have hkeep : ∀ k, k < w.heap.size → k ∉ f.2.2.toList → w4.heap[k]? = w.heap[k]? := by
    intro k hk hn
    rcases hE with ⟨_, hE⟩ | ⟨hE, _⟩
    · exact hE.block k hk hn
    · exact hE.block k hk (by simp)
  have hb4 : w4.heap[b]? = w.heap[b]? := hkeep b (h.lt b (by simp)) (fun hm => hbf (by simp [blks, hm]))
  have hf4 : w4.heap[f.2.1]? = w.heap[f.2.1]? := hkeep _ (h.lt _ (List.mem_cons_of_mem _ (List.mem_cons_of_mem _ (hfin _ (by simp [blks]))))) hfbb
  let w5 := w4.setCell ⟨f.2.1, 0, none⟩ (.slice a4 (f.1.bytes.length + y.length) c4)
  have hb5 : w5.heap[b]? = w.heap[b]? := (Below.heap_setCell w4 ⟨f.2.1, 0, none⟩ (.slice a4 (f.1.bytes.length + y.length) c4) b (Ne.symm hfb)).trans hb4
  have hf5 : w5.heap[f.2.1]? = some (.cells #[(.slice a4 (f.1.bytes.length + y.length) c4), .int .i64 f.1.synced] 72 (0, 0)) := by
    exact setCell_same w4 (hf4.trans g1)
  let w6 := w5.setCell ⟨b, 2, none⟩ (.int .i64 (x.used + y.length))
  have hb6 : w6.heap[b]? = some (.cells #[.map (some m), .int .i64 x.quota, .int .i64 (x.used + y.length), .int .i64 x.refused, .int .i64 x.after, .int .i64 x.count] 56 (0, 0)) := by
    exact setCell_same w5 (hb5.trans h.head)
  have hk6 : ∀ k, k ≠ b → w6.heap[k]? = w5.heap[k]? := fun k hk => Below.heap_setCell w5 ⟨b, 2, none⟩ _ k hk
  have hk5 : ∀ k, k ≠ f.2.1 → w5.heap[k]? = w4.heap[k]? := fun k hk => Below.heap_setCell w4 ⟨f.2.1, 0, none⟩ _ k hk
  have hsz6 : w6.heap.size = w4.heap.size := by simp [w6, w5, World.setCell]
  have hnew : bb' = f.2.2 ∨ ∃ n, bb' = some n ∧ n ∉ b :: m :: (fl.map blks).flatten ∧ n < w4.heap.size ∧ w.heap.size ≤ n := by
    rcases hE with ⟨e, _⟩ | ⟨_, n, e, h1, h2⟩
    · exact .inl e
    · exact .inr ⟨n, e, fun hm => Nat.lt_irrefl _ (Nat.lt_of_lt_of_le (h.lt n hm) h1), h2, h1⟩
  have hbb : ∀ k ∈ bb'.toList, k ≠ b ∧ k ≠ f.2.1 := by
    intro k hk
    rcases hnew with rfl | ⟨n, rfl, hn, _⟩
    · exact ⟨fun e => hbf (by simp [blks, ← e, hk]), fun e => hfbb (e ▸ hk)⟩
    · obtain rfl : k = n := by simpa using hk
      exact ⟨fun e => hn (by simp [e]), fun e => hn (by rw [e]; exact List.mem_cons_of_mem _ (List.mem_cons_of_mem _ (hfin _ (by simp [blks]))))⟩
  refine ⟨a, c, w4, a4, c4, (two_cells g1).1, hrun, ?_, ?_, ?_, ?_, es, clock, aa ++ ({ f.1 with bytes := f.1.bytes ++ y }, f.2.1, bb') :: bs, ?_, ?_, ?_⟩
  · unfold World.cell?; simp only [hf4, g1]; rfl
  · unfold World.frozen?; simp only [hf4, g1]; rfl
  · unfold World.cell?; simp only [hb4, h.head]; rfl
  · unfold World.frozen?; simp only [hb4, h.head]; rfl
  · refine h.modFile (w' := w6) he hs ho (fun f => { f with bytes := f.bytes ++ y }) rfl bb' rfl hb6 ?_ ⟨.slice a4 (f.1.bytes.length + y.length) c4, ?_, ?_⟩ ?_ (by rw [hsz6]; exact hsz)
    · intro k hk hn
      have hkb : k ≠ b := fun e => by rw [e] at hk; exact (List.nodup_cons.1 hnd).1 hk
      have hkf : k ≠ f.2.1 := fun e => hn (by rw [e]; simp [blks])
      rw [hk6 k hkb, hk5 k hkf]
      exact hkeep k (h.lt k (List.mem_cons_of_mem _ hk)) fun hm => hn (by simp [blks, hm])
    · rw [hk6 _ hfb]; exact hf5
    · refine hB.keep fun k hk => ?_
      rw [hk6 k (hbb k hk).1, hk5 k (hbb k hk).2]
    · rcases hnew with e | ⟨n, e, h1, h2, _⟩
      · exact .inl e
      · exact .inr ⟨n, e, h1, by rw [hsz6]; exact h2⟩
  · refine ext_setCell (.inl (by simp)) (ext_setCell (.inl (by simp only [List.mem_cons]; exact .inr (.inr (hfin _ (by simp [blks]))))) ?_ _) _
    rcases hE with ⟨_, hE⟩ | ⟨hE, _⟩
    · exact ext_more hE fun k hk => .inl (List.mem_cons_of_mem _ (List.mem_cons_of_mem _ (hfin _ (by simp [blks, hk]))))
    · exact ext_more hE (by simp)
  · intro k hk
    rw [flat_split] at hk
    rw [he, flat_split]
    simp only [List.mem_append] at hk ⊢
    rcases hk with hk | hk | hk
    · exact .inl (.inl hk)
    · have hk : k ∈ f.2.1 :: bb'.toList := hk
      rcases List.mem_cons.1 hk with rfl | hk
      · exact .inl (.inr (.inl (by simp [blks])))
      · rcases hnew with rfl | ⟨n, rfl, _, _, h4⟩
        · exact .inl (.inr (.inl (by simp [blks, hk])))
        · obtain rfl : k = n := by simpa using hk
          exact .inr h4
    · exact .inl (.inr (.inr hk))
end Go.Proofs.Ytcfagjkijhjaoaa

namespace Go.Proofs.Ytcfagjkijhjaoaa
open Go.RowKit

theorem Did.after {w w1 w2 : World} {b m : Nat} {fl : List Ent} {x' : Lk.DiskS} (h : Lk.Ext (b :: m :: (fl.map blks).flatten) w w1) (d : Did w1 w2 b m fl x') : Did w w2 b m fl x' := by
  obtain ⟨es, clock, fl', h1, h2, h3⟩ := d
  refine ⟨es, clock, fl', h1, ext_tr h h2 fun k hk => .inl hk, fun k hk => ?_⟩
  have := h.size
  rcases h3 k hk with h | h
  · exact .inl h
  · exact .inr (by omega)

theorem wpList_append_run {P : Program} {ops : Array Oper} {rest : List Oper} {o : Oper} {a : Act} {Q : Exit → Act → World → Prop} {w : World} (hg : o.guard = none) (p q : Operand) (t t2 : TypeId) (hop : o.op = Op.call { callee := Callee.builtin Builtin.append, args := #[p, q], argTypes := #[t, t2] })
    {v1 v2 v' : Value} {w' : World} (h1 : a.eval p = v1) (h2 : a.eval q = v2) (oT : TypeId) (hT : o.type = oT) (hrun : (Builtin.append_ #[t, t2] oT #[v1, v2]).run P w = .ok v' w') (hK : wpList P ops Q rest (a.put o.dst v') w') :
    wpList P ops Q (o :: rest) a w := by
  refine wpList_plain hg fun K' hK' => ?_
  subst hT
  unfold Oper.wp
  simp [execOp, hop, resolve, invoke, builtin, h1, h2, hrun, Result.andThen]
  exact hK' _ _ hK

set_option maxHeartbeats 400000 in
set_option maxRecDepth 100000 in
theorem append_ok {τ : Lk.Ax} {S : Nat → Prop} (w : World) (x : Lk.DiskS) (b m : Nat) (es : Array MapEntry) (clock : Nat) (fl : List Ent) (h : DiskAt w x b m es clock fl) (hg : Dk.Good x) (s : List UInt8) (hs : Dk.okN s) (f : Ent) (hf : at? fl s = some f) (a : Option Addr) (y : List UInt8) (c : Nat)
    (hy : Lk.Rd τ S w (.l .by) y [.slice a y.length c]) (hS : ∀ k, S k → k < w.heap.size ∧ k ∉ b :: m :: (fl.map blks).flatten) (ht : (Dk.try_ x (decide ((y.length : Int) > x.quota - x.used))).1 = false) :
    Calls Try.prog 25 #[.pointer (some ⟨b, 0, none⟩), .string ⟨s.toArray⟩, .slice a y.length c] w fun e w' => e = .returned (.int .i64 0) ∧
      Did w w' b m fl { (Dk.try_ x (decide ((y.length : Int) > x.quota - x.used))).2 with files := Dk.upd s (fun f => { f with bytes := f.bytes ++ y }) (Dk.try_ x (decide ((y.length : Int) > x.quota - x.used))).2.files, used := (Dk.try_ x (decide ((y.length : Int) > x.quota - x.used))).2.used + y.length } := by
  have hfull := of_decide_eq_false (try_false ht)
  obtain ⟨r1, r2, r3⟩ := try_keeps x (decide ((y.length : Int) > x.quota - x.used))
  obtain ⟨z, hz⟩ : ∃ z, z = (Dk.try_ x (decide ((y.length : Int) > x.quota - x.used))).2 := ⟨_, rfl⟩
  rw [← hz] at r1 r2 r3 ⊢
  have hu0 : 0 ≤ x.used := by rw [hg.used]; exact total_nonneg _
  have hq := hg.quota
  have hlen : f.1.bytes.length ≤ x.used := by
    rw [hg.used]
    exact len_total (h.perm.mem_iff.2 (List.mem_map.2 ⟨f, (at?_mem hf).1, rfl⟩))
  have hfind := find_any w x b m es clock fl h s
  rw [found_yes hs hf] at hfind
  have hA := h.alloc (.cells #[.string ⟨s.toArray⟩] 9)
  have hE := ext_al w (.cells #[.string ⟨s.toArray⟩] 9) b
  go_enter Try.func25, Try.ntmps25
  go_wp2_with (go_at_call 38; refine hfind.mono ?_; rintro e w2 ⟨rfl, rfl⟩)
  generalize w.alloc (.cells #[.string ⟨s.toArray⟩] 9) = W at *
  have hB := hA.drawn (W.drawn + 1)
  obtain ⟨a0, a1, a2, a3, a4, a5⟩ := hA.cell
  go_still_tail 13, (by kernel_rfl)
  have htry := try_any _ x b m es clock fl hB hg (decide ((y.length : Int) > x.quota - x.used))
  replace hE := ext_drawn hE (W.drawn + 1)
  rw [Good.room hg]
  rw [ht, ← hz] at htry
  generalize ({ W with drawn := W.drawn + 1 } : World) = W2 at *
  clear hA hB a0 a1 a2 a3 a4 a5 hfind ht
  have hwu : 0 ≤ z.used ∧ z.used + y.length ≤ 268435456 := by rw [r2]; omega
  clear r1 r2 r3 hz
  go_wp2_with (first | (at_builtin; refine wpList_append_run rfl _ _ _ _ rfl rfl rfl 29 rfl q2 ?_) | (go_at_call 55; refine htry.mono ?_; rintro e w3 ⟨rfl, hD, hX⟩; have hX2 := ext_tr hE hX (by simp); obtain ⟨a', c', w4, a4, c4, q1, q2, q7, q3, q4, q5, q6⟩ := hD.grow hf (τ := τ) (y := y) (u := .slice a y.length c) (Lk.Rd_keep τ (fun k hk => ⟨trivial, hX2.block k (hS k hk).1 (fun hm => (hS k hk).2 (by obtain rfl := List.mem_singleton.1 hm; simp))⟩) _ _ _ hy) (by omega)))
  go_ret
  exact ⟨rfl, q6.after (ext_b hX2)⟩

theorem append_any {τ : Lk.Ax} {S : Nat → Prop} (w : World) (x : Lk.DiskS) (b m : Nat) (es : Array MapEntry) (clock : Nat) (fl : List Ent) (h : DiskAt w x b m es clock fl) (hg : Dk.Good x) (s : List UInt8) (a : Option Addr) (y : List UInt8) (c : Nat)
    (hy : Lk.Rd τ S w (.l .by) y [.slice a y.length c]) (hS : ∀ k, S k → k < w.heap.size ∧ k ∉ b :: m :: (fl.map blks).flatten) :
    Calls Try.prog 25 #[.pointer (some ⟨b, 0, none⟩), .string ⟨s.toArray⟩, .slice a y.length c] w fun e w' => e = .returned (.int .i64 (Dk.append x s y).1) ∧ Did w w' b m fl (Dk.append x s y).2 := by
  have hA := h.alloc (.cells #[.string ⟨s.toArray⟩] 9)
  have hE := ext_al w (.cells #[.string ⟨s.toArray⟩] 9) b
  unfold Dk.append
  by_cases hs : Dk.okN s
  · rw [if_pos hs, at?_look h.perm h.unlike s]
    cases hf : at? fl s with
    | none =>
      refine (append_err w x b m es clock fl h s a y.length c 51 (by decide) (found_no hs hf)).mono ?_
      rintro e w' ⟨rfl, rfl⟩
      exact ⟨rfl, .same hA (ext_b hE)⟩
    | some f =>
      simp only [Option.map_some]
      cases ht : (Dk.try_ x (decide ((y.length : Int) > x.quota - x.used))).1 with
      | true => simpa only [if_true] using append_no w x b m es clock fl h hg s hs f hf a y.length c ht
      | false => simpa only [Bool.false_eq_true, if_false] using append_ok w x b m es clock fl h hg s hs f hf a y c hy hS ht
  · rw [if_neg hs]
    refine (append_err w x b m es clock fl h s a y.length c 2 (by decide) (found_bad hs)).mono ?_
    rintro e w' ⟨rfl, rfl⟩
    exact ⟨rfl, .same hA (ext_b hE)⟩

set_option maxHeartbeats 400000 in
theorem sync_err (w : World) (x : Lk.DiskS) (b m : Nat) (es : Array MapEntry) (clock : Nat) (fl : List Ent) (h : DiskAt w x b m es clock fl) (s : List UInt8) (k : Int) (hk : k ≠ 0) (hs : foundV fl s = .tuple #[.pointer none, .int .i64 k]) :
    Calls Try.prog 31 #[.pointer (some ⟨b, 0, none⟩), .string ⟨s.toArray⟩] w fun e w' => e = .returned (.int .i64 k) ∧ w' = w.alloc (.cells #[.string ⟨s.toArray⟩] 9) := by
  have hfind := find_any w x b m es clock fl h s
  rw [hs] at hfind
  go_enter Try.func31, Try.ntmps31
  go_wp2_with (go_at_call 38; refine hfind.mono ?_; rintro e w2 ⟨rfl, rfl⟩)
  go_ret
  exact ⟨rfl, rfl⟩

theorem DiskAt.blocks {w : World} {x : Lk.DiskS} {b m : Nat} {es : Array MapEntry} {clock : Nat} {fl : List Ent} (h : DiskAt w x b m es clock fl) {f : Ent} {aa bs : List Ent} (he : fl = aa ++ f :: bs) :
    (∀ k ∈ blks f, k ∈ (fl.map blks).flatten) ∧ b ∉ blks f ∧ m ∉ blks f ∧ f.2.1 ∉ f.2.2.toList ∧ f.2.1 ≠ b ∧ f.2.1 ≠ m ∧ b ≠ m := by
  have hnd := h.nodup
  have hfin : ∀ k ∈ blks f, k ∈ (fl.map blks).flatten := fun k hk => by rw [he, flat_split]; simp [hk]
  have hbf : b ∉ blks f := fun hm => (List.nodup_cons.1 hnd).1 (List.mem_cons_of_mem _ (hfin _ hm))
  have hmf : m ∉ blks f := fun hm => (List.nodup_cons.1 (List.nodup_cons.1 hnd).2).1 (hfin _ hm)
  refine ⟨hfin, hbf, hmf, ?_, fun e => hbf (by rw [← e]; simp [blks]), fun e => hmf (by rw [← e]; simp [blks]), fun e => (List.nodup_cons.1 hnd).1 (by rw [e]; simp)⟩
  have h1 := (List.nodup_cons.1 (List.nodup_cons.1 hnd).2).2
  rw [he, flat_split] at h1
  have h2 := (List.nodup_append.1 (List.nodup_append.1 h1).2.1).1
  exact (List.nodup_cons.1 h2).1

theorem sync_any (w : World) (x : Lk.DiskS) (b m : Nat) (es : Array MapEntry) (clock : Nat) (fl : List Ent) (h : DiskAt w x b m es clock fl) (s : List UInt8) :
    Calls Try.prog 31 #[.pointer (some ⟨b, 0, none⟩), .string ⟨s.toArray⟩] w fun e w' => e = .returned (.int .i64 (Dk.sync x s).1) ∧ Did w w' b m fl (Dk.sync x s).2 := by
  have hA := h.alloc (.cells #[.string ⟨s.toArray⟩] 9)
  have hE := ext_al w (.cells #[.string ⟨s.toArray⟩] 9) b
  unfold Dk.sync
  by_cases hs : Dk.okN s
  · rw [if_pos hs, at?_look h.perm h.unlike s]
    cases hf : at? fl s with
    | none =>
      refine (sync_err w x b m es clock fl h s 51 (by decide) (found_no hs hf)).mono ?_
      rintro e w' ⟨rfl, rfl⟩
      exact ⟨rfl, .same hA (ext_b hE)⟩
    | some f =>
      refine (sync_found w x b m es clock fl h s (okB hs).1 (okB hs).2 f hf).mono ?_
      rintro e w' ⟨rfl, rfl⟩
      obtain ⟨hn, aa, bs, he, ho⟩ := at?_split h.unlike hf
      obtain ⟨hfin, hbf, hmf, hfbb, hfb, hfm, hbm⟩ := h.blocks he
      obtain ⟨a, c, g1, g2⟩ := hA.found hf
      refine ⟨rfl, es, clock, aa ++ ({ f.1 with synced := f.1.bytes.length }, f.2.1, f.2.2) :: bs, ?_, ?_, ?_⟩
      · refine hA.modFile he hn ho (fun f => { f with synced := f.bytes.length }) rfl f.2.2 rfl ?_ ?_ ⟨.slice a f.1.bytes.length c, ?_, ?_⟩ (.inl rfl) (by simp [World.setCell])
        · rw [Below.heap_setCell _ ⟨f.2.1, 1, none⟩ _ b (Ne.symm hfb)]; exact hA.head
        · intro k hk hkn
          exact Below.heap_setCell _ ⟨f.2.1, 1, none⟩ _ k fun e => hkn (by simp [e, blks])
        · exact setCell_same _ g1
        · refine g2.keep fun k hk => Below.heap_setCell _ ⟨f.2.1, 1, none⟩ _ k fun e => hfbb (by have e : k = f.2.1 := e; rw [← e]; exact hk)
      · refine ext_setCell (.inl ?_) (ext_b hE) _
        exact List.mem_cons_of_mem _ (List.mem_cons_of_mem _ (hfin _ (by simp [blks])))
      · intro k hk
        refine .inl ?_
        rw [he, flat_split]
        rw [flat_split] at hk
        exact hk
  · rw [if_neg hs]
    refine (sync_err w x b m es clock fl h s 2 (by decide) (found_bad hs)).mono ?_
    rintro e w' ⟨rfl, rfl⟩
    exact ⟨rfl, .same hA (ext_b hE)⟩
end Go.Proofs.Ytcfagjkijhjaoaa

namespace Go.Proofs.Ytcfagjkijhjaoaa
open Go.RowKit

theorem wpList_delete_run {P : Program} {ops : Array Oper} {rest : List Oper} {o : Oper} {a : Act} {Q : Exit → Act → World → Prop} {w : World} (hg : o.guard = none) (p q : Operand) (t t2 : TypeId) (hop : o.op = Op.call { callee := Callee.builtin Builtin.delete, args := #[p, q], argTypes := #[t, t2] })
    {v1 v2 v' : Value} {w' : World} (h1 : a.eval p = v1) (h2 : a.eval q = v2) (oT : TypeId) (hT : o.type = oT) (hrun : (Builtin.delete_ #[t, t2] oT #[v1, v2]).run P w = .ok v' w') (hK : wpList P ops Q rest (a.put o.dst v') w') :
    wpList P ops Q (o :: rest) a w := by
  refine wpList_plain hg fun K' hK' => ?_
  subst hT
  unfold Oper.wp
  simp [execOp, hop, resolve, invoke, builtin, h1, h2, hrun, Result.andThen]
  exact hK' _ _ hK

set_option maxHeartbeats 400000 in
theorem remove_err (w : World) (x : Lk.DiskS) (b m : Nat) (es : Array MapEntry) (clock : Nat) (fl : List Ent) (h : DiskAt w x b m es clock fl) (s : List UInt8) (k : Int) (hk : k ≠ 0) (hs : foundV fl s = .tuple #[.pointer none, .int .i64 k]) :
    Calls Try.prog 33 #[.pointer (some ⟨b, 0, none⟩), .string ⟨s.toArray⟩] w fun e w' => e = .returned (.int .i64 k) ∧ w' = w.alloc (.cells #[.string ⟨s.toArray⟩] 9) := by
  have hfind := find_any w x b m es clock fl h s
  rw [hs] at hfind
  go_enter Try.func33, Try.ntmps33
  go_wp2_with (go_at_call 38; refine hfind.mono ?_; rintro e w2 ⟨rfl, rfl⟩)
  go_ret
  exact ⟨rfl, rfl⟩

set_option maxHeartbeats 400000 in
theorem remove_found (w : World) (x : Lk.DiskS) (b m : Nat) (es : Array MapEntry) (clock : Nat) (fl : List Ent) (h : DiskAt w x b m es clock fl) (hg : Dk.Good x) (s : List UInt8) (hs : Dk.okN s) (f : Ent) (hf : at? fl s = some f) :
    Calls Try.prog 33 #[.pointer (some ⟨b, 0, none⟩), .string ⟨s.toArray⟩] w fun e w' => e = .returned (.int .i64 0) ∧ ∃ W j, DiskAt W { x with used := x.used - f.1.bytes.length } b m es clock fl ∧ Lk.Ext [b] w W ∧ (∀ i g, fl[i]? = some g → ((g.1.name == s) = true ↔ i = j)) ∧ w' = setMap W m (es.eraseIdxIfInBounds j) clock := by
  have hu0 : 0 ≤ x.used := by rw [hg.used]; exact total_nonneg _
  have hum := hg.most
  have hlen : f.1.bytes.length ≤ x.used := by
    rw [hg.used]
    exact len_total (h.perm.mem_iff.2 (List.mem_map.2 ⟨f, (at?_mem hf).1, rfl⟩))
  have hfind := find_any w x b m es clock fl h s
  rw [found_yes hs hf] at hfind
  have hA := h.alloc (.cells #[.string ⟨s.toArray⟩] 9)
  have hE := ext_al w (.cells #[.string ⟨s.toArray⟩] 9) b
  have hb := h.lt b (by simp)
  have hE2 := ext_own hb hE 2 (.int .i64 (x.used - f.1.bytes.length))
  clear hb
  obtain ⟨a0, a1, a2, a3, a4, a5⟩ := hA.cell
  have z2 := hA.frozen 2
  obtain ⟨a, c, g1, g2⟩ := hA.found hf
  obtain ⟨k0, k1, y0, y1⟩ := two_cells g1
  have hC := hA.set 2 (.int .i64 (x.used - f.1.bytes.length)) (x' := { x with used := x.used - f.1.bytes.length }) rfl rfl
  go_enter Try.func33, Try.ntmps33
  go_wp2_with (go_at_call 38; refine hfind.mono ?_; rintro e w2 ⟨rfl, rfl⟩)
  go_region
  replace hC := hC.drawn (((w.alloc (.cells #[.string ⟨s.toArray⟩] 9)).setCell ⟨b, 2, none⟩ (.int .i64 (x.used - f.1.bytes.length))).drawn + 1)
  replace hE2 := ext_drawn hE2 (((w.alloc (.cells #[.string ⟨s.toArray⟩] 9)).setCell ⟨b, 2, none⟩ (.int .i64 (x.used - f.1.bytes.length))).drawn + 1)
  generalize hW : World.drew _ = W
  replace hC : DiskAt W { x with used := x.used - f.1.bytes.length } b m es clock fl := by rw [← hW]; exact hC
  replace hE2 : Lk.Ext [b] w W := by rw [← hW]; exact hE2
  clear hW hA hE a0 a1 a2 a3 a4 a5 z2 g1 g2 k0 k1 y0 y1 hfind h hu0 hum hlen
  obtain ⟨j, hj, hdel⟩ := hC.drop hf
  unfold nameV at hdel
  obtain ⟨c0, _⟩ := hC.cell
  go_wp2_with (at_delete; refine wpList_delete_run rfl _ _ _ _ rfl rfl rfl _ rfl (hdel _) ?_)
  go_ret
  exact ⟨rfl, W, hC, hE2, j, (fun i a p q hi => by have := hj i (a, p, q) hi; simpa using this), rfl⟩

theorem del_perm {fl : List Ent} {l : List Lk.DFile} (hp : l.Perm (fl.map (·.1))) (s : List UInt8) : (Dk.del s l).Perm ((fl.filter fun g => !(g.1.name == s)).map (·.1)) := by
  unfold Dk.del
  refine (hp.filter _).trans (List.Perm.of_eq ?_)
  rw [List.filter_map]
  rfl

theorem map_erase {α β : Type} (f : α → β) : ∀ (l : List α) (j : Nat), (l.eraseIdx j).map f = (l.map f).eraseIdx j
  | [], _ => rfl
  | _ :: _, 0 => rfl
  | a :: l, j + 1 => by simp only [List.eraseIdx_cons_succ, List.map_cons, map_erase f l j]

theorem erase_ents {es : Array MapEntry} {fl : List Ent} (he : es.toList.map pairE = fl.map pairF) {s : List UInt8} {j : Nat} (hj : ∀ i g, fl[i]? = some g → ((g.1.name == s) = true ↔ i = j)) :
    (es.eraseIdxIfInBounds j).toList.map pairE = (fl.filter fun g => !(g.1.name == s)).map pairF := by
  have h1 : (es.eraseIdxIfInBounds j).toList = es.toList.eraseIdx j := by
    unfold Array.eraseIdxIfInBounds
    split
    · rw [Array.toList_eraseIdx]
    · rename_i h
      rw [List.eraseIdx_of_length_le]
      simpa using h
  rw [h1, map_erase, he, ← map_erase, eraseIdx_filter (fun g : Ent => g.1.name == s) fl j hj]

theorem filter_blks {fl : List Ent} (p : Ent → Bool) : ((fl.filter p).map blks).flatten.Sublist (fl.map blks).flatten := by
  induction fl with
  | nil => simp
  | cons f fl ih =>
    rw [List.filter_cons]
    split
    · simp only [List.map_cons, List.flatten_cons]
      exact (List.Sublist.refl _).append ih
    · simp only [List.map_cons, List.flatten_cons]
      exact ih.trans (List.sublist_append_right _ _)

theorem DiskAt.del {w : World} {x : Lk.DiskS} {b m : Nat} {es : Array MapEntry} {clock : Nat} {fl : List Ent} (h : DiskAt w x b m es clock fl) {s : List UInt8} {j : Nat} (hj : ∀ i g, fl[i]? = some g → ((g.1.name == s) = true ↔ i = j)) :
    DiskAt (setMap w m (es.eraseIdxIfInBounds j) clock) { x with files := Dk.del s x.files } b m (es.eraseIdxIfInBounds j) clock (fl.filter fun g => !(g.1.name == s)) := by
  have hsub := filter_blks (fl := fl) (fun g => !(g.1.name == s))
  refine h.remap (erase_ents h.ents hj) (MapKept.stamped_erase h.st j) (del_perm h.perm s) rfl rfl rfl rfl rfl (fun f hf => h.file f (List.mem_filter.1 hf).1) ?_ ?_
  · exact h.nodup.sublist ((hsub.cons_cons m).cons_cons b)
  · exact fun k hk => h.lt k (List.mem_cons_of_mem _ (List.mem_cons_of_mem _ (hsub.subset hk)))

theorem remove_any (w : World) (x : Lk.DiskS) (b m : Nat) (es : Array MapEntry) (clock : Nat) (fl : List Ent) (h : DiskAt w x b m es clock fl) (hg : Dk.Good x) (s : List UInt8) :
    Calls Try.prog 33 #[.pointer (some ⟨b, 0, none⟩), .string ⟨s.toArray⟩] w fun e w' => e = .returned (.int .i64 (Dk.remove x s).1) ∧ Did w w' b m fl (Dk.remove x s).2 := by
  have hA := h.alloc (.cells #[.string ⟨s.toArray⟩] 9)
  have hE := ext_al w (.cells #[.string ⟨s.toArray⟩] 9) b
  unfold Dk.remove
  by_cases hs : Dk.okN s
  · rw [if_pos hs, at?_look h.perm h.unlike s]
    cases hf : at? fl s with
    | none =>
      refine (remove_err w x b m es clock fl h s 51 (by decide) (found_no hs hf)).mono ?_
      rintro e w' ⟨rfl, rfl⟩
      exact ⟨rfl, .same hA (ext_b hE)⟩
    | some f =>
      refine (remove_found w x b m es clock fl h hg s hs f hf).mono ?_
      rintro e w' ⟨rfl, W, j, hD, hX, hj, rfl⟩
      refine ⟨rfl, _, _, _, hD.del hj, ext_setMap (.inl (by simp)) (ext_b hX) _ _, fun k hk => .inl ((filter_blks _).subset hk)⟩
  · rw [if_neg hs]
    refine (remove_err w x b m es clock fl h s 2 (by decide) (found_bad hs)).mono ?_
    rintro e w' ⟨rfl, rfl⟩
    exact ⟨rfl, .same hA (ext_b hE)⟩
end Go.Proofs.Ytcfagjkijhjaoaa

namespace Go.Proofs.Ytcfagjkijhjaoaa
open Go.RowKit

theorem setMap_setMap (w : World) (m : Nat) (e1 e2 : Array MapEntry) (c1 c2 : Nat) : setMap (setMap w m e1 c1) m e2 c2 = setMap w m e2 c2 := by
  unfold setMap
  simp

theorem map_modify {α β : Type} (f : α → β) (F : α → α) (G : β → β) (h : ∀ a, f (F a) = G (f a)) : ∀ (l : List α) (j : Nat), (l.modify j F).map f = (l.map f).modify j G
  | [], _ => by simp
  | a :: l, 0 => by simp [h]
  | a :: l, j + 1 => by simp [map_modify f F G h l j]

theorem modify_ents {es : Array MapEntry} {fl : List Ent} (he : es.toList.map pairE = fl.map pairF) {t : List UInt8} {j : Nat} (hj : ∀ i g, fl[i]? = some g → ((g.1.name == t) = true ↔ i = j)) (e : Ent) (hn : e.1.name = t) :
    (es.modify j fun x => { x with key := nameV t, val := .pointer (some ⟨e.2.1, 0, none⟩) }).toList.map pairE = (fl.map fun g => if (g.1.name == t) = true then e else g).map pairF := by
  rw [← modify_map (fun g : Ent => g.1.name == t) (fun _ => e) fl j hj, map_modify pairF (fun _ => e) (fun _ => pairF e) (fun _ => rfl), ← he]
  rw [Array.toList_modify, map_modify pairE _ (fun _ => pairF e) (fun a => ?_)]
  show (nameV t, _) = _
  rw [← hn]

theorem perm_blks {a b : List Ent} (h : a.Perm b) : ((a.map blks).flatten).Perm ((b.map blks).flatten) := by
  induction h with
  | nil => exact List.Perm.refl _
  | cons x _ ih => simp only [List.map_cons, List.flatten_cons]; exact ih.append_left _
  | swap x y l =>
    simp only [List.map_cons, List.flatten_cons, ← List.append_assoc]
    exact List.Perm.append_right _ List.perm_append_comm
  | trans _ _ ih1 ih2 => exact ih1.trans ih2

theorem filter_perm {fl : List Ent} {s : List UInt8} {f : Ent} {aa bs : List Ent} (he : fl = aa ++ f :: bs) (hs : f.1.name = s) (ho : ∀ g ∈ aa ++ bs, g.1.name ≠ s) : (fl.filter fun g => !(g.1.name == s)) = aa ++ bs := by
  subst he
  rw [List.filter_append, List.filter_cons]
  have h0 : (!(f.1.name == s)) = false := by simp [hs]
  rw [h0]
  simp only [Bool.false_eq_true, if_false]
  rw [← List.filter_append, List.filter_eq_self]
  intro g hg
  simpa using ho g hg

theorem map_split {fl : List Ent} {s : List UInt8} {f : Ent} {aa bs : List Ent} (he : fl = aa ++ f :: bs) (hs : f.1.name = s) (ho : ∀ g ∈ aa ++ bs, g.1.name ≠ s) (e : Ent) : (fl.map fun g => if (g.1.name == s) = true then e else g) = aa ++ e :: bs := by
  subst he
  rw [List.map_append, List.map_cons]
  have h : ∀ k : List Ent, (∀ g ∈ k, g.1.name ≠ s) → (k.map fun g => if (g.1.name == s) = true then e else g) = k := by
    intro k hk
    rw [List.map_congr_left (g := id) (fun g hg => by rw [if_neg (by simpa using hk g hg)]; rfl), List.map_id]
  rw [h aa fun g hg => ho g (List.mem_append_left _ hg), h bs fun g hg => ho g (List.mem_append_right _ hg), if_pos (by simpa using hs)]

theorem DiskAt.moved {w : World} {x : Lk.DiskS} {b m : Nat} {es es' : Array MapEntry} {clock clock' : Nat} {fl : List Ent} (h : DiskAt w x b m es clock fl) {s t : List UInt8} {f : Ent} {aa bs fl' : List Ent} (he : fl = aa ++ f :: bs) (hs : f.1.name = s) (ho : ∀ g ∈ aa ++ bs, g.1.name ≠ s)
    (hents : es'.toList.map pairE = fl'.map pairF) (hst : MapKept.Stamped es' clock') (hp : fl'.Perm (({ f.1 with name := t }, f.2) :: (aa ++ bs).filter fun g => !(g.1.name == t))) :
    DiskAt (setMap w m es' clock') { x with files := Dk.ins { f.1 with name := t } (Dk.del t (Dk.del s x.files)) } b m es' clock' fl' ∧ ∀ k ∈ (fl'.map blks).flatten, k ∈ (fl.map blks).flatten := by
  have hfl := filter_perm he hs ho
  have hsub : ∀ k ∈ (fl'.map blks).flatten, k ∈ (fl.map blks).flatten := by
    intro k hk
    have h1 := (perm_blks hp).mem_iff.1 hk
    simp only [List.map_cons, List.flatten_cons, List.mem_append] at h1
    rw [he, flat_split]
    rcases h1 with h1 | h1
    · exact List.mem_append_right _ (List.mem_append_left _ h1)
    · have h2 := (filter_blks (fl := aa ++ bs) _).subset h1
      rw [flat_append] at h2
      rcases List.mem_append.1 h2 with h2 | h2
      · exact List.mem_append_left _ h2
      · exact List.mem_append_right _ (List.mem_append_right _ h2)
  refine ⟨h.remap hents hst ?_ rfl rfl rfl rfl rfl ?_ ?_ fun k hk => h.lt k (List.mem_cons_of_mem _ (List.mem_cons_of_mem _ (hsub k hk))), hsub⟩
  · refine (ins_perm _ _).trans ?_
    refine List.Perm.trans ?_ (hp.map (·.1)).symm
    rw [List.map_cons]
    refine List.Perm.cons _ ?_
    refine del_perm (fl := aa ++ bs) ?_ t
    rw [← hfl]
    exact del_perm h.perm s
  · intro g hg
    rcases List.mem_cons.1 (hp.mem_iff.1 hg) with rfl | hg
    · obtain ⟨v, h1, h2⟩ := h.file f (by rw [he]; simp)
      exact ⟨v, h1, h2⟩
    · refine h.file g ?_
      rw [he]
      rcases List.mem_append.1 (List.mem_filter.1 hg).1 with h1 | h1
      · exact List.mem_append_left _ h1
      · exact List.mem_append_right _ (List.mem_cons_of_mem _ h1)
  · have h1 : (b :: m :: (blks f ++ ((aa ++ bs).map blks).flatten)).Nodup := by
      refine (List.Perm.nodup_iff ?_).1 h.nodup
      refine List.Perm.cons _ (List.Perm.cons _ ?_)
      rw [he, flat_split, flat_append, ← List.append_assoc, ← List.append_assoc]
      exact List.Perm.append_right _ List.perm_append_comm
    have h2 : (b :: m :: (blks f ++ (((aa ++ bs).filter fun g => !(g.1.name == t)).map blks).flatten)).Nodup :=
      h1.sublist ((((List.Sublist.refl _).append (filter_blks _)).cons_cons m).cons_cons b)
    refine (List.Perm.nodup_iff ?_).2 h2
    refine List.Perm.cons _ (List.Perm.cons _ ?_)
    exact perm_blks hp

set_option maxHeartbeats 400000 in
theorem check2_ok (w : World) (b m k : Nat) (s t : ByteArray) (h : w.cell? ⟨b, 0, none⟩ = some (.map (some m))) (hs : w.cell? ⟨k, 0, none⟩ = some (.string s)) (ht : w.cell? ⟨k, 1, none⟩ = some (.string t)) (h1 : s.toList.isEmpty = false) (h2 : s.size ≤ 64) (h3 : t.toList.isEmpty = false) (h4 : t.size ≤ 64) :
    Calls Try.prog 54 #[.pointer (some ⟨b, 0, none⟩), .slice (some ⟨k, 0, none⟩) 2 2] w fun e w' => e = .returned (.int .i64 0) ∧ w' = w := by
  have h5 : ¬ ((64 : Int) < (s.size : Int)) := by omega
  have h6 : ¬ ((64 : Int) < (t.size : Int)) := by omega
  go_enter Try.func54, Try.ntmps54
  go_wp2_with (go_at_call 35; refine (none_any _ b m h).mono ?_; rintro e w2 ⟨rfl, rfl⟩)
  refine wp_loop_rounds 3 ?_
  rw [rounds_succ]
  go_wp2
  rw [rounds_succ]
  go_wp2
  rw [rounds_succ]
  go_wp2
  go_ret
  exact ⟨rfl, rfl⟩

set_option maxHeartbeats 400000 in
theorem check2_bad (w : World) (b m k : Nat) (s t : ByteArray) (h : w.cell? ⟨b, 0, none⟩ = some (.map (some m))) (hs : w.cell? ⟨k, 0, none⟩ = some (.string s)) (ht : w.cell? ⟨k, 1, none⟩ = some (.string t)) (h1 : ¬ ((s.toList.isEmpty = false ∧ s.size ≤ 64) ∧ (t.toList.isEmpty = false ∧ t.size ≤ 64))) :
    Calls Try.prog 54 #[.pointer (some ⟨b, 0, none⟩), .slice (some ⟨k, 0, none⟩) 2 2] w fun e w' => e = .returned (.int .i64 2) ∧ w' = w := by
  by_cases h2 : s.toList.isEmpty = false ∧ s.size ≤ 64
  · obtain ⟨h3, h4⟩ := h2
    have h5 : ¬ ((64 : Int) < (s.size : Int)) := by omega
    have h6 : ¬ (t.toList.isEmpty = false ∧ t.size ≤ 64) := fun h => h1 ⟨⟨h3, h4⟩, h⟩
    go_enter Try.func54, Try.ntmps54
    go_wp2_with (go_at_call 35; refine (none_any _ b m h).mono ?_; rintro e w2 ⟨rfl, rfl⟩)
    refine wp_loop_rounds 3 ?_
    rw [rounds_succ]
    go_wp2
    rw [rounds_succ]
    go_wp2
    all_goals first
      | (go_ret; exact ⟨rfl, rfl⟩)
      | (rename_i hh; exact absurd ⟨hh.1, by have := hh.2; omega⟩ h6)
  · go_enter Try.func54, Try.ntmps54
    go_wp2_with (go_at_call 35; refine (none_any _ b m h).mono ?_; rintro e w2 ⟨rfl, rfl⟩)
    refine wp_loop_rounds 2 ?_
    rw [rounds_succ]
    go_wp2
    all_goals first
      | (go_ret; exact ⟨rfl, rfl⟩)
      | (rename_i hh; exact absurd ⟨hh.1, by have := hh.2; omega⟩ h2)
end Go.Proofs.Ytcfagjkijhjaoaa

namespace Go.Proofs.Ytcfagjkijhjaoaa
open Go.RowKit

abbrev two (s t : List UInt8) : Obj := .cells #[.string ⟨s.toArray⟩, .string ⟨t.toArray⟩] 9

theorem two_names (w : World) (s t : List UInt8) : (w.alloc (.cells #[.string ⟨s.toArray⟩, .string ⟨t.toArray⟩] 9)).cell? ⟨w.heap.size, 0, none⟩ = some (.string ⟨s.toArray⟩) ∧ (w.alloc (.cells #[.string ⟨s.toArray⟩, .string ⟨t.toArray⟩] 9)).cell? ⟨w.heap.size, 1, none⟩ = some (.string ⟨t.toArray⟩) := by
  unfold World.cell?
  rw [show (w.alloc (.cells #[.string ⟨s.toArray⟩, .string ⟨t.toArray⟩] 9)).heap[(⟨w.heap.size, 0, none⟩ : Addr).block]? = _ from alloc_new _ _]
  exact ⟨rfl, rfl⟩

set_option maxHeartbeats 400000 in
theorem rename_bad (w : World) (x : Lk.DiskS) (b m : Nat) (es : Array MapEntry) (clock : Nat) (fl : List Ent) (h : DiskAt w x b m es clock fl) (s t : List UInt8) (hs : ¬ (Dk.okN s ∧ Dk.okN t)) :
    Calls Try.prog 32 #[.pointer (some ⟨b, 0, none⟩), .string ⟨s.toArray⟩, .string ⟨t.toArray⟩] w fun e w' => e = .returned (.int .i64 2) ∧ w' = w.alloc (.cells #[.string ⟨s.toArray⟩, .string ⟨t.toArray⟩] 9) := by
  have hA := h.alloc (.cells #[.string ⟨s.toArray⟩, .string ⟨t.toArray⟩] 9)
  obtain ⟨h0, _⟩ := hA.cell
  obtain ⟨hc, hc2⟩ := two_names w s t
  have hbad : ¬ (((ByteArray.mk s.toArray).toList.isEmpty = false ∧ (ByteArray.mk s.toArray).size ≤ 64) ∧ ((ByteArray.mk t.toArray).toList.isEmpty = false ∧ (ByteArray.mk t.toArray).size ≤ 64)) := by
    rintro ⟨h1, h2⟩
    exact hs ⟨Classical.byContradiction fun h => badB h h1, Classical.byContradiction fun h => badB h h2⟩
  go_enter Try.func32, Try.ntmps32
  go_wp2_with (go_at_call 54; refine (check2_bad _ b m _ _ _ h0 hc hc2 hbad).mono ?_; rintro e w2 ⟨rfl, rfl⟩)
  go_ret
  exact ⟨rfl, rfl⟩

set_option maxHeartbeats 400000 in
theorem rename_no (w : World) (x : Lk.DiskS) (b m : Nat) (es : Array MapEntry) (clock : Nat) (fl : List Ent) (h : DiskAt w x b m es clock fl) (s t : List UInt8) (hs : Dk.okN s) (ht : Dk.okN t) (hf : at? fl s = none) :
    Calls Try.prog 32 #[.pointer (some ⟨b, 0, none⟩), .string ⟨s.toArray⟩, .string ⟨t.toArray⟩] w fun e w' => e = .returned (.int .i64 51) ∧ w' = (w.alloc (.cells #[.string ⟨s.toArray⟩, .string ⟨t.toArray⟩] 9)).alloc (.cells #[.string ⟨s.toArray⟩] 9) := by
  have hA := h.alloc (.cells #[.string ⟨s.toArray⟩, .string ⟨t.toArray⟩] 9)
  obtain ⟨h0, _⟩ := hA.cell
  obtain ⟨hc, hc2⟩ := two_names w s t
  obtain ⟨q1, q2⟩ := okB hs
  obtain ⟨q3, q4⟩ := okB ht
  have hfind := find_any _ x b m es clock fl hA s
  rw [found_no hs hf] at hfind
  go_enter Try.func32, Try.ntmps32
  go_wp2_with (first | (go_at_call 54; refine (check2_ok _ b m _ _ _ h0 hc hc2 q1 q2 q3 q4).mono ?_; rintro e w2 ⟨rfl, rfl⟩) | (go_at_call 38; refine hfind.mono ?_; rintro e w2 ⟨rfl, rfl⟩))
  go_ret
  exact ⟨rfl, rfl⟩

set_option maxHeartbeats 400000 in
theorem rename_self (w : World) (x : Lk.DiskS) (b m : Nat) (es : Array MapEntry) (clock : Nat) (fl : List Ent) (h : DiskAt w x b m es clock fl) (s : List UInt8) (hs : Dk.okN s) (f : Ent) (hf : at? fl s = some f) :
    Calls Try.prog 32 #[.pointer (some ⟨b, 0, none⟩), .string ⟨s.toArray⟩, .string ⟨s.toArray⟩] w fun e w' => e = .returned (.int .i64 0) ∧ w' = (w.alloc (.cells #[.string ⟨s.toArray⟩, .string ⟨s.toArray⟩] 9)).alloc (.cells #[.string ⟨s.toArray⟩] 9) := by
  have hA := h.alloc (.cells #[.string ⟨s.toArray⟩, .string ⟨s.toArray⟩] 9)
  obtain ⟨h0, _⟩ := hA.cell
  obtain ⟨hc, hc2⟩ := two_names w s s
  obtain ⟨q1, q2⟩ := okB hs
  have hfind := find_any _ x b m es clock fl hA s
  rw [found_yes hs hf] at hfind
  go_enter Try.func32, Try.ntmps32
  go_wp2_with (first | (go_at_call 54; refine (check2_ok _ b m _ _ _ h0 hc hc2 q1 q2 q1 q2).mono ?_; rintro e w2 ⟨rfl, rfl⟩) | (go_at_call 38; refine hfind.mono ?_; rintro e w2 ⟨rfl, rfl⟩))
  go_ret
  exact ⟨rfl, rfl⟩

theorem at?_filter {fl : List Ent} {s t : List UInt8} (hst : s ≠ t) : at? (fl.filter fun g => !(g.1.name == s)) t = at? fl t := by
  unfold at?
  rw [List.find?_filter]
  congr 1
  funext g
  by_cases h : g.1.name = t
  · have : ¬ g.1.name = s := fun e => hst (by rw [← e, h])
    simp [h, Ne.symm hst]
  · simp [h]

theorem str_ne {s t : List UInt8} (h : s ≠ t) : ((ByteArray.mk s.toArray) == (ByteArray.mk t.toArray)) = false := by
  cases hb : (ByteArray.mk s.toArray) == (ByteArray.mk t.toArray) with
  | false => rfl
  | true =>
    have := (MapKept.bytes_beq _ _).1 hb
    exact absurd (nameV_inj (a := s) (b := t) (by unfold nameV; rw [this])) h

set_option maxRecDepth 100000 in
set_option maxHeartbeats 400000 in
theorem rename_new (w : World) (x : Lk.DiskS) (b m : Nat) (es : Array MapEntry) (clock : Nat) (fl : List Ent) (h : DiskAt w x b m es clock fl) (s t : List UInt8) (hs : Dk.okN s) (ht : Dk.okN t) (hne : s ≠ t) (f : Ent) (hf : at? fl s = some f) (hg : at? fl t = none) :
    Calls Try.prog 32 #[.pointer (some ⟨b, 0, none⟩), .string ⟨s.toArray⟩, .string ⟨t.toArray⟩] w fun e w' => e = .returned (.int .i64 0) ∧ ∃ j, (∀ i g, fl[i]? = some g → ((g.1.name == s) = true ↔ i = j)) ∧
      w' = setMap (setMap ((w.alloc (.cells #[.string ⟨s.toArray⟩, .string ⟨t.toArray⟩] 9)).alloc (.cells #[.string ⟨s.toArray⟩] 9)) m (es.eraseIdxIfInBounds j) clock) m ((es.eraseIdxIfInBounds j).push { key := nameV t, val := .pointer (some ⟨f.2.1, 0, none⟩), born := clock }) (clock + 1) := by
  have hA := h.alloc (.cells #[.string ⟨s.toArray⟩, .string ⟨t.toArray⟩] 9)
  have hB := hA.alloc (.cells #[.string ⟨s.toArray⟩] 9)
  obtain ⟨h0, _⟩ := hA.cell
  obtain ⟨c0, _⟩ := hB.cell
  obtain ⟨hc, hc2⟩ := two_names w s t
  obtain ⟨q1, q2⟩ := okB hs
  obtain ⟨q3, q4⟩ := okB ht
  have hfind := find_any _ x b m es clock fl hA s
  rw [found_yes hs hf] at hfind
  have hl := hB.lookup t
  rw [hg] at hl
  obtain ⟨j, hj, hdel⟩ := hB.drop hf
  have hC := hB.del hj
  obtain ⟨d0, _⟩ := hC.cell
  have hput := hC.put (s := t) (by rw [at?_filter hne]; exact hg) (.pointer (some ⟨f.2.1, 0, none⟩))
  unfold nameV at hl hdel hput
  have hse : (s == t) = false := by simp [hne]
  go_enter Try.func32, Try.ntmps32
  go_wp2_with (first | (at_delete; refine wpList_delete_run rfl _ _ _ _ rfl rfl rfl _ rfl (hdel _) ?_) | (go_at_call 54; refine (check2_ok _ b m _ _ _ h0 hc hc2 q1 q2 q3 q4).mono ?_; rintro e w2 ⟨rfl, rfl⟩) | (go_at_call 38; refine hfind.mono ?_; rintro e w2 ⟨rfl, rfl⟩))
  go_ret
  exact ⟨rfl, j, hj, rfl⟩

def Ren (w w' : World) (x : Lk.DiskS) (b m : Nat) (es : Array MapEntry) (clock : Nat) (fl : List Ent) (s t : List UInt8) (f g : Ent) : Prop :=
  ∃ W j k, DiskAt W { x with used := x.used - g.1.bytes.length } b m es clock fl ∧ Lk.Ext [b] w W ∧ (∀ i g, fl[i]? = some g → ((g.1.name == s) = true ↔ i = j)) ∧
      (∀ i g, (fl.filter fun g => !(g.1.name == s))[i]? = some g → ((g.1.name == t) = true ↔ i = k)) ∧
      w' = setMap (setMap W m (es.eraseIdxIfInBounds j) clock) m ((es.eraseIdxIfInBounds j).modify k fun e => { e with key := nameV t, val := .pointer (some ⟨f.2.1, 0, none⟩) }) clock

set_option maxRecDepth 100000 in
set_option maxHeartbeats 400000 in
theorem rename_old (w : World) (x : Lk.DiskS) (b m : Nat) (es : Array MapEntry) (clock : Nat) (fl : List Ent) (h : DiskAt w x b m es clock fl) (hgo : Dk.Good x) (s t : List UInt8) (hs : Dk.okN s) (ht : Dk.okN t) (hne : s ≠ t) (f : Ent) (hf : at? fl s = some f) (g : Ent) (hg : at? fl t = some g) :
    Calls Try.prog 32 #[.pointer (some ⟨b, 0, none⟩), .string ⟨s.toArray⟩, .string ⟨t.toArray⟩] w fun e w' => e = .returned (.int .i64 0) ∧ Ren w w' x b m es clock fl s t f g := by
  have hu0 : 0 ≤ x.used := by rw [hgo.used]; exact total_nonneg _
  have hum := hgo.most
  have hlen : g.1.bytes.length ≤ x.used := by
    rw [hgo.used]
    exact len_total (h.perm.mem_iff.2 (List.mem_map.2 ⟨g, (at?_mem hg).1, rfl⟩))
  have hA := h.alloc (.cells #[.string ⟨s.toArray⟩, .string ⟨t.toArray⟩] 9)
  have hB := hA.alloc (.cells #[.string ⟨s.toArray⟩] 9)
  have hE := ext_alloc (ext_al w (.cells #[.string ⟨s.toArray⟩, .string ⟨t.toArray⟩] 9) b) (.cells #[.string ⟨s.toArray⟩] 9)
  obtain ⟨h0, _⟩ := hA.cell
  obtain ⟨c0, c1, c2, c3, c4, c5⟩ := hB.cell
  have z2 := hB.frozen 2
  obtain ⟨hc, hc2⟩ := two_names w s t
  obtain ⟨q1, q2⟩ := okB hs
  obtain ⟨q3, q4⟩ := okB ht
  have hfind := find_any _ x b m es clock fl hA s
  rw [found_yes hs hf] at hfind
  have hl := hB.lookup t
  rw [hg] at hl
  unfold nameV at hl
  obtain ⟨a, c, g1, g2⟩ := hB.found hg
  obtain ⟨k0, k1, y0, y1⟩ := two_cells g1
  have hse : (s == t) = false := by simp [hne]
  go_enter Try.func32, Try.ntmps32
  go_wp2_with (first | (go_at_call 54; refine (check2_ok _ b m _ _ _ h0 hc hc2 q1 q2 q3 q4).mono ?_; rintro e w2 ⟨rfl, rfl⟩) | (go_at_call 38; refine hfind.mono ?_; rintro e w2 ⟨rfl, rfl⟩))
  clear hfind hl hA h0 hc hc2
  generalize (w.alloc (.cells #[.string ⟨s.toArray⟩, .string ⟨t.toArray⟩] 9)).alloc (.cells #[.string ⟨s.toArray⟩] 9) = W0 at *
  have hC := hB.set 2 (.int .i64 (x.used - g.1.bytes.length)) (x' := { x with used := x.used - g.1.bytes.length }) rfl rfl
  go_region
  replace hC := hC.drawn ((W0.setCell ⟨b, 2, none⟩ (.int .i64 (x.used - g.1.bytes.length))).drawn + 1)
  have hE2 := ext_drawn (ext_setCell (a := ⟨b, 2, none⟩) (.inl (by simp)) hE (.int .i64 (x.used - g.1.bytes.length))) ((W0.setCell ⟨b, 2, none⟩ (.int .i64 (x.used - g.1.bytes.length))).drawn + 1)
  generalize hW : World.drew _ = W
  replace hC : DiskAt W { x with used := x.used - g.1.bytes.length } b m es clock fl := by rw [← hW]; exact hC
  replace hE2 : Lk.Ext [b] w W := by rw [← hW]; exact hE2
  clear hW hE c0 c1 c2 c3 c4 c5 z2 g1 g2 k0 k1 y0 y1 hB h hu0 hum hlen
  obtain ⟨j, hj, hdel⟩ := hC.drop hf
  have hD := hC.del hj
  obtain ⟨d0, _⟩ := hD.cell
  obtain ⟨e0, _⟩ := hC.cell
  obtain ⟨k, hk, hput⟩ := hD.over (s := t) (f := g) (by rw [at?_filter hne]; exact hg) (.pointer (some ⟨f.2.1, 0, none⟩))
  unfold nameV at hdel hput
  go_wp2_with (at_delete; refine wpList_delete_run rfl _ _ _ _ rfl rfl rfl _ rfl (hdel _) ?_)
  go_ret
  exact ⟨rfl, W, j, k, hC, hE2, hj, hk, rfl⟩

theorem ext_two {w : World} {b m : Nat} {fl : List Ent} (s t : List UInt8) : Lk.Ext (b :: m :: (fl.map blks).flatten) w ((w.alloc (.cells #[.string ⟨s.toArray⟩, .string ⟨t.toArray⟩] 9)).alloc (.cells #[.string ⟨s.toArray⟩] 9)) :=
  ext_b (ext_alloc (ext_al w _ b) _)

theorem rename_any (w : World) (x : Lk.DiskS) (b m : Nat) (es : Array MapEntry) (clock : Nat) (fl : List Ent) (h : DiskAt w x b m es clock fl) (hg : Dk.Good x) (s t : List UInt8) :
    Calls Try.prog 32 #[.pointer (some ⟨b, 0, none⟩), .string ⟨s.toArray⟩, .string ⟨t.toArray⟩] w fun e w' => e = .returned (.int .i64 (Dk.rename x s t).1) ∧ Did w w' b m fl (Dk.rename x s t).2 := by
  have hA := h.alloc (.cells #[.string ⟨s.toArray⟩, .string ⟨t.toArray⟩] 9)
  have hB := hA.alloc (.cells #[.string ⟨s.toArray⟩] 9)
  unfold Dk.rename
  by_cases hst : Dk.okN s ∧ Dk.okN t
  · rw [if_pos hst, at?_look h.perm h.unlike s, at?_look h.perm h.unlike t]
    obtain ⟨hs, ht⟩ := hst
    cases hf : at? fl s with
    | none =>
      refine (rename_no w x b m es clock fl h s t hs ht hf).mono ?_
      rintro e w' ⟨rfl, rfl⟩
      exact ⟨rfl, .same hB (ext_two s t)⟩
    | some f =>
      simp only [Option.map_some]
      by_cases hne : s = t
      · subst hne
        rw [if_pos rfl]
        refine (rename_self w x b m es clock fl h s hs f hf).mono ?_
        rintro e w' ⟨rfl, rfl⟩
        exact ⟨rfl, .same hB (ext_two s s)⟩
      · rw [if_neg hne]
        obtain ⟨hn, aa, bs, he, ho⟩ := at?_split h.unlike hf
        have hfil := filter_perm he hn ho
        cases hgt : at? fl t with
        | none =>
          refine (rename_new w x b m es clock fl h s t hs ht hne f hf hgt).mono ?_
          rintro e w' ⟨rfl, j, hj, rfl⟩
          rw [setMap_setMap]
          have hno : ∀ g ∈ aa ++ bs, g.1.name ≠ t := by
            intro g hg
            refine at?_none hgt g ?_
            rw [he]
            rcases List.mem_append.1 hg with h1 | h1
            · exact List.mem_append_left _ h1
            · exact List.mem_append_right _ (List.mem_cons_of_mem _ h1)
          have hself : ((aa ++ bs).filter fun g => !(g.1.name == t)) = aa ++ bs := List.filter_eq_self.2 fun g hg => by simpa using hno g hg
          obtain ⟨hD, hsub⟩ := hB.moved (t := t) (es' := (es.eraseIdxIfInBounds j).push { key := nameV t, val := .pointer (some ⟨f.2.1, 0, none⟩), born := clock }) (clock' := clock + 1) (fl' := (aa ++ bs) ++ [({ f.1 with name := t }, f.2)]) he hn ho (by
              rw [Array.toList_push, List.map_append, List.map_append, erase_ents h.ents hj, hfil]
              rfl) (MapKept.stamped_push (MapKept.stamped_erase h.st j) (by
              intro e hem
              have h1 : pairE e ∈ (es.eraseIdxIfInBounds j).toList.map pairE := List.mem_map.2 ⟨e, hem, rfl⟩
              rw [erase_ents h.ents hj, hfil] at h1
              obtain ⟨g, hg, hge⟩ := List.mem_map.1 h1
              intro hk
              have : nameV g.1.name = e.key := congrArg Prod.fst hge
              exact hno g hg (nameV_inj (by rw [this, hk])))) (by rw [hself]; exact List.perm_append_comm)
          have h0 : ({ x with files := Dk.ins { f.1 with name := t } (Dk.del t (Dk.del s x.files)), used := x.used - Dk.lenOf (Option.map (fun f : Ent => f.1) none) } : Lk.DiskS) = { x with files := Dk.ins { f.1 with name := t } (Dk.del t (Dk.del s x.files)) } := by simp [Dk.lenOf]
          have h1 : Did w (setMap ((w.alloc (.cells #[.string ⟨s.toArray⟩, .string ⟨t.toArray⟩] 9)).alloc (.cells #[.string ⟨s.toArray⟩] 9)) m ((es.eraseIdxIfInBounds j).push { key := nameV t, val := .pointer (some ⟨f.2.1, 0, none⟩), born := clock }) (clock + 1)) b m fl { x with files := Dk.ins { f.1 with name := t } (Dk.del t (Dk.del s x.files)) } :=
            ⟨_, _, _, hD, ext_setMap (.inl (by simp)) (ext_two s t) _ _, fun k hk => .inl (hsub k hk)⟩
          rw [← h0] at h1
          exact ⟨rfl, h1⟩
        | some g =>
          refine (rename_old w x b m es clock fl h hg s t hs ht hne f hf g hgt).mono ?_
          rintro e w' ⟨rfl, W, j, k, hC, hE, hj, hk, rfl⟩
          rw [setMap_setMap]
          have hgt1 : at? (aa ++ bs) t = some g := by rw [← hfil, at?_filter hne]; exact hgt
          have hun : (aa ++ bs).Pairwise fun f g => f.1.name ≠ g.1.name := by
            rw [← hfil]; exact h.unlike.filter _
          obtain ⟨hn1, a1, b1, he1, ho1⟩ := at?_split hun hgt1
          rw [hfil] at hk
          have he2 : ((es.eraseIdxIfInBounds j).toList).map pairE = (aa ++ bs).map pairF := by rw [erase_ents h.ents hj, hfil]
          obtain ⟨hD, hsub⟩ := hC.moved (t := t) (es' := (es.eraseIdxIfInBounds j).modify k fun e => { e with key := nameV t, val := .pointer (some ⟨f.2.1, 0, none⟩) }) (clock' := clock) (fl' := a1 ++ ({ f.1 with name := t }, f.2) :: b1) he hn ho (by
              rw [modify_ents he2 hk ({ f.1 with name := t }, f.2) rfl, map_split he1 hn1 ho1]) (MapKept.stamped_modify (MapKept.stamped_erase h.st j) _ _ (fun _ _ => rfl) (by
              intro e hem hke
              have h1 : ((es.eraseIdxIfInBounds j).toList.map pairE)[k]? = some (pairE e) := by rw [List.getElem?_map, Array.getElem?_toList, hke]; rfl
              rw [he2, List.getElem?_map] at h1
              cases hg2 : (aa ++ bs)[k]? with
              | none => rw [hg2] at h1; cases h1
              | some g2 =>
                rw [hg2] at h1
                have h2 : nameV g2.1.name = e.key := congrArg Prod.fst (Option.some.inj h1)
                have h3 : g2.1.name = t := by simpa using (hk k g2 hg2).2 rfl
                show nameV t = e.key
                rw [← h2, h3])) (by
              rw [filter_perm he1 hn1 ho1]
              exact List.perm_middle)
          refine ⟨rfl, _, _, _, hD, ext_setMap (.inl (by simp)) (ext_b hE) _ _, fun k hk => .inl (hsub k hk)⟩
  · rw [if_neg hst]
    refine (rename_bad w x b m es clock fl h s t hst).mono ?_
    rintro e w' ⟨rfl, rfl⟩
    exact ⟨rfl, .same hA (ext_b (ext_al w _ b))⟩
end Go.Proofs.Ytcfagjkijhjaoaa

namespace Go.Proofs.Ytcfagjkijhjaoaa
open Go.RowKit

set_option maxRecDepth 10000 in
set_option maxHeartbeats 400000 in
theorem clone_none (w : World) (n c : Nat) : Calls Try.prog 36 #[.slice none n c] w fun e w' => e = .returned (.slice none 0 0) ∧ w' = w := by
  have q29 : ∀ (w : World) (a : Option Addr) (n c : Nat), (binOp .eql 29 (.slice a n c) (.slice none 0 0)).run Try.prog w = .ok (.bool a.isNone) w := fun w a n c => Lib.run_eql_slice_nil w _ _ a n c 0 0 Try.underlying29
  go_enter Try.func36, Try.ntmps36
  go_wp2
  go_ret
  exact ⟨rfl, rfl⟩

theorem empty_bytes (w : World) (e : TypeId) : BytesAt (w.alloc (.cells #[] e)) [] (.slice (some ⟨w.heap.size, 0, none⟩) 0 0) (some w.heap.size) :=
  ⟨0, 0, #[], e, (0, 0), rfl, Nat.le_refl _, Nat.le_refl _, by omega, alloc_new w _, fun k h => absurd h (by simp), fun i y h => by simp at h⟩

set_option maxRecDepth 10000 in
set_option maxHeartbeats 400000 in
theorem clone_some {τ : Lk.Ax} (w : World) (a : Addr) (y : List UInt8) (c : Nat) (hy : Lk.Rd τ (fun k => k < w.heap.size) w (.l .by) y [.slice (some a) y.length c]) (hl : y.length ≤ 1099511627776) :
    Calls Try.prog 36 #[.slice (some a) y.length c] w fun e w' => ∃ v' bb', e = .returned v' ∧ BytesAt w' y v' bb' ∧ Lk.Ext [] w w' ∧ ∀ k ∈ bb'.toList, w.heap.size ≤ k ∧ k < w'.heap.size := by
  have hy' := Lk.Rd_keep τ (S' := fun _ => True) (w' := w.alloc (.cells #[] 5)) (fun k hk => ⟨trivial, alloc_lt w _ hk⟩) _ _ _ hy
  obtain ⟨w4, v', bb', hrun, hB, hE⟩ := append_bytes (empty_bytes w 5) hy' (by simp only [List.length_nil]; omega) 29
  have q29 : ∀ (w : World) (a : Option Addr) (n c : Nat), (binOp .eql 29 (.slice a n c) (.slice none 0 0)).run Try.prog w = .ok (.bool a.isNone) w := fun w a n c => Lib.run_eql_slice_nil w _ _ a n c 0 0 Try.underlying29
  go_enter Try.func36, Try.ntmps36
  go_wp2_with (at_builtin; refine wpList_append_run rfl _ _ _ _ rfl rfl rfl 29 rfl hrun ?_)
  go_ret
  refine ⟨v', bb', rfl, hB, ?_, ?_⟩
  · rcases hE with ⟨rfl, hE⟩ | ⟨hE, _⟩
    · exact ext_tr (ext_alloc (ext_refl w []) (.cells #[] 5)) hE (by simp)
    · exact ext_tr (ext_alloc (ext_refl w []) (.cells #[] 5)) hE (by simp)
  · intro k hk
    rcases hE with ⟨rfl, hE⟩ | ⟨_, n, rfl, h1, h2⟩
    · obtain rfl : k = w.heap.size := by simpa using hk
      have := hE.size
      rw [alloc_size] at this
      exact ⟨Nat.le_refl _, by omega⟩
    · obtain rfl : k = n := by simpa using hk
      rw [alloc_size] at h1
      exact ⟨by omega, h2⟩

theorem clone_bytes {τ : Lk.Ax} (w : World) (v : Value) (y : List UInt8) (hy : Lk.Rd τ (fun k => k < w.heap.size) w (.l .by) y [v]) (hl : y.length ≤ 1099511627776) :
    Calls Try.prog 36 #[v] w fun e w' => ∃ v' bb', e = .returned v' ∧ BytesAt w' y v' bb' ∧ Lk.Ext [] w w' ∧ ∀ k ∈ bb'.toList, w.heap.size ≤ k ∧ k < w'.heap.size := by
  obtain ⟨a, cap, h1, h2, h3, h4, h5⟩ := id hy
  obtain rfl : v = .slice a y.length cap := by simpa using h1
  cases a with
  | none =>
    have hy0 : y = [] := h4 rfl
    refine (clone_none w y.length cap).mono ?_
    rintro e w' ⟨rfl, rfl⟩
    exact ⟨_, none, rfl, ⟨rfl, hy0⟩, ext_refl _ _, by simp⟩
  | some a => exact clone_some w a y cap hy hl

theorem BytesAt.part {w : World} {l : List UInt8} {a : Option Addr} {n c : Nat} {bb : Option Nat} (h : BytesAt w l (.slice a n c) bb) {S : Nat → Prop} (hS : ∀ b ∈ bb.toList, S b) {τ : Lk.Ax} (i k : Nat) (hi : i ≤ l.length) (hk : i + k ≤ l.length) :
    Lk.Rd τ S w (.l .by) ((l.drop i).take k) [.slice (a.map fun a => ⟨a.block, a.off + i, none⟩) k (c - i)] := by
  cases bb with
  | none =>
    obtain ⟨h1, rfl⟩ := h
    cases h1
    have hi0 : i = 0 := by simpa using hi
    subst hi0
    have hk0 : k = 0 := by simpa using hk
    subst hk0
    exact ⟨none, 0, rfl, by simp, by simp [Lk.big], fun _ => rfl, .inl rfl⟩
  | some b =>
    obtain ⟨off, cap, C, e, f, h1, h2, h3, h4, h5, h6, h7⟩ := h
    injection h1 with h1a h1b h1c
    subst h1a h1c
    have hlen : ((l.drop i).take k).length = k := by simp; omega
    refine ⟨some ⟨b, off + i, none⟩, c - i, by rw [hlen]; rfl, by rw [hlen]; omega, by simp only [Lk.big]; omega, by simp, .inr ⟨b, off + i, C, e, f, rfl, hS b (by simp), h5, fun j y hy => ?_⟩⟩
    show Lk.win C.toList (off + i + j * 1) 1 = [Value.int .u8 y.toNat]
    rw [Nat.mul_one]
    rw [List.getElem?_take] at hy
    split at hy
    · rw [List.getElem?_drop] at hy
      refine win_one ?_
      have := h7 (i + j) y hy
      rw [← Nat.add_assoc] at this
      simpa using this
    · cases hy

set_option maxHeartbeats 400000 in
theorem size_err (w : World) (x : Lk.DiskS) (b m : Nat) (es : Array MapEntry) (clock : Nat) (fl : List Ent) (h : DiskAt w x b m es clock fl) (s : List UInt8) (k : Int) (hk : k ≠ 0) (hs : foundV fl s = .tuple #[.pointer none, .int .i64 k]) :
    Calls Try.prog 14 #[.pointer (some ⟨b, 0, none⟩), .string ⟨s.toArray⟩] w fun e w' => e = .returned (.tuple #[.int .i64 0, .int .i64 0, .int .i64 k]) ∧ w' = w.alloc (.cells #[.string ⟨s.toArray⟩] 9) := by
  have hfind := find_any w x b m es clock fl h s
  rw [hs] at hfind
  go_enter Try.func14, Try.ntmps14
  go_wp2_with (go_at_call 38; refine hfind.mono ?_; rintro e w2 ⟨rfl, rfl⟩)
  go_ret3
  exact ⟨rfl, rfl⟩

theorem size_any (w : World) (x : Lk.DiskS) (b m : Nat) (es : Array MapEntry) (clock : Nat) (fl : List Ent) (h : DiskAt w x b m es clock fl) (s : List UInt8) :
    Calls Try.prog 14 #[.pointer (some ⟨b, 0, none⟩), .string ⟨s.toArray⟩] w fun e w' => e = .returned (.tuple #[.int .i64 (Dk.size x s).1, .int .i64 (Dk.size x s).2.1, .int .i64 (Dk.size x s).2.2]) ∧ Lk.Ext [] w w' := by
  unfold Dk.size
  by_cases hs : Dk.okN s
  · rw [if_pos hs, at?_look h.perm h.unlike s]
    cases hf : at? fl s with
    | none =>
      refine (size_err w x b m es clock fl h s 51 (by decide) (found_no hs hf)).mono ?_
      rintro e w' ⟨rfl, rfl⟩
      exact ⟨rfl, ext_alloc (ext_refl _ _) _⟩
    | some f =>
      refine (size_found w x b m es clock fl h s (okB hs).1 (okB hs).2 f hf).mono ?_
      rintro e w' ⟨rfl, n, rfl⟩
      exact ⟨rfl, ext_drew (ext_alloc (ext_refl _ _) _) n⟩
  · rw [if_neg hs]
    refine (size_err w x b m es clock fl h s 2 (by decide) (found_bad hs)).mono ?_
    rintro e w' ⟨rfl, rfl⟩
    exact ⟨rfl, ext_alloc (ext_refl _ _) _⟩

set_option maxHeartbeats 400000 in
theorem read_err (w : World) (x : Lk.DiskS) (b m : Nat) (es : Array MapEntry) (clock : Nat) (fl : List Ent) (h : DiskAt w x b m es clock fl) (s : List UInt8) (p n : Int) (k : Int) (hk : k ≠ 0) (hs : foundV fl s = .tuple #[.pointer none, .int .i64 k]) :
    Calls Try.prog 26 #[.pointer (some ⟨b, 0, none⟩), .string ⟨s.toArray⟩, .int .i64 p, .int .i64 n] w fun e w' => e = .returned (.tuple #[.slice none 0 0, .int .i64 k]) ∧ w' = w.alloc (.cells #[.string ⟨s.toArray⟩] 9) := by
  have hfind := find_any w x b m es clock fl h s
  rw [hs] at hfind
  go_enter Try.func26, Try.ntmps26
  go_wp2_with (go_at_call 38; refine hfind.mono ?_; rintro e w2 ⟨rfl, rfl⟩)
  go_ret2
  exact ⟨rfl, rfl⟩

set_option maxHeartbeats 400000 in
theorem read_bad (w : World) (x : Lk.DiskS) (b m : Nat) (es : Array MapEntry) (clock : Nat) (fl : List Ent) (h : DiskAt w x b m es clock fl) (s : List UInt8) (hs : Dk.okN s) (f : Ent) (hf : at? fl s = some f) (p n : Int) (hp : p < 0 ∨ p > f.1.bytes.length ∨ n < 0) :
    Calls Try.prog 26 #[.pointer (some ⟨b, 0, none⟩), .string ⟨s.toArray⟩, .int .i64 p, .int .i64 n] w fun e w' => e = .returned (.tuple #[.slice none 0 0, .int .i64 2]) ∧ Lk.Ext [] w w' := by
  have hfind := find_any w x b m es clock fl h s
  rw [found_yes hs hf] at hfind
  have hA := h.alloc (.cells #[.string ⟨s.toArray⟩] 9)
  obtain ⟨a, c, g1, g2⟩ := hA.found hf
  obtain ⟨k0, k1, y0, y1⟩ := two_cells g1
  have hE := ext_alloc (ext_refl w []) (.cells #[.string ⟨s.toArray⟩] 9)
  rcases Classical.em (p < 0) with h1 | h1
  · clear hp
    go_enter Try.func26, Try.ntmps26
    go_wp2_with (go_at_call 38; refine hfind.mono ?_; rintro e w2 ⟨rfl, rfl⟩)
    go_ret2
    exact ⟨rfl, hE⟩
  · rcases Classical.em (p > f.1.bytes.length) with h2 | h2
    · clear hp
      go_enter Try.func26, Try.ntmps26
      go_wp2_with (go_at_call 38; refine hfind.mono ?_; rintro e w2 ⟨rfl, rfl⟩)
      go_ret2
      exact ⟨rfl, hE⟩
    · have h3 : n < 0 := by omega
      clear hp
      go_enter Try.func26, Try.ntmps26
      go_wp2_with (go_at_call 38; refine hfind.mono ?_; rintro e w2 ⟨rfl, rfl⟩)
      go_ret2
      exact ⟨rfl, hE⟩

theorem BytesAt.cap {w : World} {l : List UInt8} {a : Option Addr} {n c : Nat} {bb : Option Nat} (h : BytesAt w l (.slice a n c) bb) : n = l.length ∧ l.length ≤ c ∧ c ≤ 9223372036854775807 := by
  cases bb with
  | none => obtain ⟨h1, rfl⟩ := h; cases h1; exact ⟨rfl, Nat.le_refl _, by omega⟩
  | some b => obtain ⟨off, cap, C, e, f, h1, h2, h3, h4, _⟩ := h; cases h1; exact ⟨rfl, h2, h4⟩

def Cloned (w w' : World) (e : Ending) (y : List UInt8) : Prop := ∃ v' bb', e = .returned v' ∧ BytesAt w' y v' bb' ∧ Lk.Ext [] w w' ∧ ∀ k ∈ bb'.toList, w.heap.size ≤ k ∧ k < w'.heap.size

theorem part_clone {w : World} {l : List UInt8} {a : Option Addr} {n c : Nat} {bb : Option Nat} (h : BytesAt w l (.slice a n c) bb) (hb : ∀ k ∈ bb.toList, k < w.heap.size) (p k : Nat) (hp : p ≤ l.length) (hk : p + k ≤ l.length) (hl : l.length ≤ 1099511627776) :
    Calls Try.prog 36 #[.slice (Option.map (fun x => x.add p) a) k (c - p)] w fun e w' => Cloned w w' e ((l.drop p).take k) := by
  have h1 := h.part (τ := ax0) (S := fun k => k < w.heap.size) hb p k hp hk
  have e : Option.map (fun x => Addr.add x p) a = a.map fun a => ⟨a.block, a.off + p, none⟩ := by
    cases bb with
    | none => obtain ⟨h2, _⟩ := h; cases h2; rfl
    | some b => obtain ⟨off, cap, C, e, f, h2, _⟩ := h; cases h2; simp [Addr.add]
  rw [e]
  exact clone_bytes w _ _ h1 (by simp; omega)

theorem none_clone (w : World) (a : Option Addr) :
    Calls Try.prog 36 #[.slice a 0 0] w fun e w' => Cloned w w' e [] := by
  refine clone_bytes (τ := ax0) w _ _ ⟨a, 0, rfl, Nat.le_refl _, by simp [Lk.big], fun _ => rfl, .inl rfl⟩ (by simp)

set_option maxRecDepth 10000 in
set_option maxHeartbeats 400000 in
theorem read_ok (w : World) (x : Lk.DiskS) (b m : Nat) (es : Array MapEntry) (clock : Nat) (fl : List Ent) (h : DiskAt w x b m es clock fl) (hg : Dk.Good x) (s : List UInt8) (hs : Dk.okN s) (f : Ent) (hf : at? fl s = some f) (p n : Nat) (hp : p ≤ f.1.bytes.length) (hn : n ≤ 9223372036854775807) :
    Calls Try.prog 26 #[.pointer (some ⟨b, 0, none⟩), .string ⟨s.toArray⟩, .int .i64 p, .int .i64 n] w fun e w' => ∃ v' bb', e = .returned (.tuple #[v', .int .i64 0]) ∧ BytesAt w' ((f.1.bytes.drop p).take n) v' bb' ∧ Lk.Ext [] w w' ∧ ∀ k ∈ bb'.toList, w.heap.size ≤ k ∧ k < w'.heap.size := by
  have hlen : f.1.bytes.length ≤ x.used := by
    rw [hg.used]
    exact len_total (h.perm.mem_iff.2 (List.mem_map.2 ⟨f, (at?_mem hf).1, rfl⟩))
  have hmost := hg.most
  have hfind := find_any w x b m es clock fl h s
  rw [found_yes hs hf] at hfind
  have hA := h.alloc (.cells #[.string ⟨s.toArray⟩] 9)
  have hAl := hA.lt
  obtain ⟨a, c, g1, g2⟩ := hA.found hf
  obtain ⟨k0, k1, y0, y1⟩ := two_cells g1
  have hE := ext_alloc (ext_refl w []) (.cells #[.string ⟨s.toArray⟩] 9)
  obtain ⟨hcn, hcap, hcap2⟩ := g2.cap
  have h1 : ¬ ((p : Int) < 0) := by omega
  have h2 : ¬ ((p : Int) > f.1.bytes.length) := by omega
  have h3 : ¬ ((n : Int) < 0) := by omega
  have hbl : ∀ k ∈ f.2.2.toList, k < (w.alloc (.cells #[.string ⟨s.toArray⟩] 9)).heap.size := by
    obtain ⟨hn, aa, bs, he, ho⟩ := at?_split h.unlike hf
    intro k hk
    exact hA.lt k (List.mem_cons_of_mem _ (List.mem_cons_of_mem _ ((hA.blocks he).1 k (by simp [blks, hk]))))
  rcases Nat.lt_or_ge p c with h5 | h5
  · by_cases h4 : f.1.bytes.length - p < n
    · have hcl := part_clone g2 hbl p (f.1.bytes.length - p) hp (by omega) (by omega)
      have et : (f.1.bytes.drop p).take n = (f.1.bytes.drop p).take (f.1.bytes.length - p) := by
        rw [List.take_of_length_le (by simp; omega), List.take_of_length_le (by simp)]
      rw [et]
      clear et
      go_enter Try.func26, Try.ntmps26
      go_wp2_with (first | (go_at_call 36; refine hcl.mono ?_; rintro e w3 ⟨v', bb', rfl, hB, hX, hN⟩) | (go_at_call 38; refine hfind.mono ?_; rintro e w2 ⟨rfl, rfl⟩))
      go_ret2
      exact ⟨v', bb', rfl, hB, ext_tr hE hX (by simp), fun k hk => ⟨by have := (hN k hk).1; rw [alloc_size] at this; omega, (hN k hk).2⟩⟩
    · have hcl := part_clone g2 hbl p n hp (by omega) (by omega)
      go_enter Try.func26, Try.ntmps26
      go_wp2_with (first | (go_at_call 36; refine hcl.mono ?_; rintro e w3 ⟨v', bb', rfl, hB, hX, hN⟩) | (go_at_call 38; refine hfind.mono ?_; rintro e w2 ⟨rfl, rfl⟩))
      go_ret2
      exact ⟨v', bb', rfl, hB, ext_tr hE hX (by simp), fun k hk => ⟨by have := (hN k hk).1; rw [alloc_size] at this; omega, (hN k hk).2⟩⟩
  · have hpl : c = p := by omega
    have hpn : f.1.bytes.length = p := by omega
    have hcl := none_clone (w.alloc (.cells #[.string ⟨s.toArray⟩] 9)) a
    have et : (f.1.bytes.drop p).take n = [] := by rw [List.drop_of_length_le (by omega)]; simp
    rw [et]
    subst hpl
    rw [hpn] at k0
    clear et hp hcap hcap2 g1 g2 h5 h2
    by_cases h4 : n = 0
    · subst h4
      go_enter Try.func26, Try.ntmps26
      go_wp2_with (first | (go_at_call 36; refine hcl.mono ?_; rintro e w3 ⟨v', bb', rfl, hB, hX, hN⟩) | (go_at_call 38; refine hfind.mono ?_; rintro e w2 ⟨rfl, rfl⟩))
      go_ret2
      exact ⟨v', bb', rfl, hB, ext_tr hE hX (by simp), fun k hk => ⟨by have := (hN k hk).1; rw [alloc_size] at this; omega, (hN k hk).2⟩⟩
    · have h6 : 0 < n := by omega
      go_enter Try.func26, Try.ntmps26
      go_wp2_with (first | (go_at_call 36; refine hcl.mono ?_; rintro e w3 ⟨v', bb', rfl, hB, hX, hN⟩) | (go_at_call 38; refine hfind.mono ?_; rintro e w2 ⟨rfl, rfl⟩))
      go_ret2
      exact ⟨v', bb', rfl, hB, ext_tr hE hX (by simp), fun k hk => ⟨by have := (hN k hk).1; rw [alloc_size] at this; omega, (hN k hk).2⟩⟩

theorem read_any (w : World) (x : Lk.DiskS) (b m : Nat) (es : Array MapEntry) (clock : Nat) (fl : List Ent) (h : DiskAt w x b m es clock fl) (hg : Dk.Good x) (s : List UInt8) (p n : Int) (hn : n ≤ 9223372036854775807) :
    Calls Try.prog 26 #[.pointer (some ⟨b, 0, none⟩), .string ⟨s.toArray⟩, .int .i64 p, .int .i64 n] w fun e w' => ∃ v' bb', e = .returned (.tuple #[v', .int .i64 (Dk.read x s p n).2]) ∧ BytesAt w' (Dk.read x s p n).1 v' bb' ∧ Lk.Ext [] w w' ∧ ∀ k ∈ bb'.toList, w.heap.size ≤ k ∧ k < w'.heap.size := by
  unfold Dk.read
  by_cases hs : Dk.okN s
  · rw [if_pos hs, at?_look h.perm h.unlike s]
    cases hf : at? fl s with
    | none =>
      refine (read_err w x b m es clock fl h s p n 51 (by decide) (found_no hs hf)).mono ?_
      rintro e w' ⟨rfl, rfl⟩
      exact ⟨_, none, rfl, ⟨rfl, rfl⟩, ext_alloc (ext_refl _ _) _, by simp⟩
    | some f =>
      simp only [Option.map_some]
      by_cases hp : p < 0 ∨ p > f.1.bytes.length ∨ n < 0
      · rw [if_pos hp]
        refine (read_bad w x b m es clock fl h s hs f hf p n hp).mono ?_
        rintro e w' ⟨rfl, hE⟩
        exact ⟨_, none, rfl, ⟨rfl, rfl⟩, hE, by simp⟩
      · rw [if_neg hp]
        obtain ⟨p', rfl⟩ : ∃ k : Nat, p = k := ⟨p.toNat, by omega⟩
        obtain ⟨n', rfl⟩ : ∃ k : Nat, n = k := ⟨n.toNat, by omega⟩
        exact read_ok w x b m es clock fl h hg s hs f hf p' n' (by omega) (by omega)
  · rw [if_neg hs]
    refine (read_err w x b m es clock fl h s p n 2 (by decide) (found_bad hs)).mono ?_
    rintro e w' ⟨rfl, rfl⟩
    exact ⟨_, none, rfl, ⟨rfl, rfl⟩, ext_alloc (ext_refl _ _) _, by simp⟩

theorem isQuota_any (w : World) (n : Int) : Calls Try.prog 29 #[.int .i64 n] w fun e w' => e = .returned (.bool (decide (0 ≤ n ∧ n ≤ 268435456))) ∧ w' = w := by
  by_cases h1 : 0 ≤ n
  · by_cases h2 : n ≤ 268435456
    · rw [decide_eq_true ⟨h1, h2⟩]
      go_enter Try.func29, Try.ntmps29
      go_wp2
      go_ret
      exact ⟨rfl, rfl⟩
    · rw [decide_eq_false (fun h => h2 h.2)]
      go_enter Try.func29, Try.ntmps29
      go_wp2
      go_ret
      exact ⟨rfl, rfl⟩
  · rw [decide_eq_false (fun h => h1 h.1)]
    go_enter Try.func29, Try.ntmps29
    go_wp2
    go_ret
    exact ⟨rfl, rfl⟩

set_option maxHeartbeats 400000 in
theorem setQuota_bad (w : World) (x : Lk.DiskS) (b m : Nat) (es : Array MapEntry) (clock : Nat) (fl : List Ent) (h : DiskAt w x b m es clock fl) (n : Int) (hn : ¬ (0 ≤ n ∧ n ≤ 268435456)) :
    Calls Try.prog 34 #[.pointer (some ⟨b, 0, none⟩), .int .i64 n] w fun e w' => e = .returned (.int .i64 2) ∧ w' = w := by
  obtain ⟨h0, h1, h2, h3, h4, h5⟩ := h.cell
  have hq := fun w => isQuota_any w n
  rw [decide_eq_false hn] at hq
  clear hn
  go_enter Try.func34, Try.ntmps34
  go_wp2_with (first | (go_at_call 35; refine (none_any _ b m h0).mono ?_; rintro e w2 ⟨rfl, rfl⟩) | (go_at_call 29; refine (hq _).mono ?_; rintro e w2 ⟨rfl, rfl⟩))
  go_ret
  exact ⟨rfl, rfl⟩

theorem setQuota_any (w : World) (x : Lk.DiskS) (b m : Nat) (es : Array MapEntry) (clock : Nat) (fl : List Ent) (h : DiskAt w x b m es clock fl) (n : Int) :
    Calls Try.prog 34 #[.pointer (some ⟨b, 0, none⟩), .int .i64 n] w fun e w' => e = .returned (.int .i64 (Dk.setQuota x n).1) ∧ Did w w' b m fl (Dk.setQuota x n).2 := by
  unfold Dk.setQuota
  by_cases hn : 0 ≤ n ∧ n ≤ 268435456
  · rw [if_pos hn]
    refine (setQuota_ok w x b m es clock fl h n hn.1 hn.2).mono ?_
    rintro e w' ⟨rfl, rfl⟩
    exact ⟨rfl, .same (h.set 1 (.int .i64 n) (x' := { x with quota := n }) rfl rfl) (ext_setCell (.inl (by simp)) (ext_refl _ _) _)⟩
  · rw [if_neg hn]
    refine (setQuota_bad w x b m es clock fl h n hn).mono ?_
    rintro e w' ⟨rfl, rfl⟩
    exact ⟨rfl, .same h (ext_refl _ _)⟩

set_option maxHeartbeats 400000 in
theorem refuse_bad (w : World) (x : Lk.DiskS) (b m : Nat) (es : Array MapEntry) (clock : Nat) (fl : List Ent) (h : DiskAt w x b m es clock fl) (p q : Int) (hn : ¬ (0 ≤ p ∧ 0 ≤ q)) :
    Calls Try.prog 23 #[.pointer (some ⟨b, 0, none⟩), .int .i64 p, .int .i64 q] w fun e w' => e = .returned (.int .i64 2) ∧ w' = w := by
  obtain ⟨h0, h1, h2, h3, h4, h5⟩ := h.cell
  by_cases hp : 0 ≤ p
  · have hq : ¬ 0 ≤ q := fun h => hn ⟨hp, h⟩
    clear hn
    go_enter Try.func23, Try.ntmps23
    go_wp2_with (go_at_call 35; refine (none_any _ b m h0).mono ?_; rintro e w2 ⟨rfl, rfl⟩)
    go_ret
    exact ⟨rfl, rfl⟩
  · clear hn
    go_enter Try.func23, Try.ntmps23
    go_wp2_with (go_at_call 35; refine (none_any _ b m h0).mono ?_; rintro e w2 ⟨rfl, rfl⟩)
    go_ret
    exact ⟨rfl, rfl⟩

theorem refuse_plan (w : World) (x : Lk.DiskS) (b m : Nat) (es : Array MapEntry) (clock : Nat) (fl : List Ent) (h : DiskAt w x b m es clock fl) (p q : Int) :
    Calls Try.prog 23 #[.pointer (some ⟨b, 0, none⟩), .int .i64 p, .int .i64 q] w fun e w' => e = .returned (.int .i64 (Dk.refuse x p q).1) ∧ Did w w' b m fl (Dk.refuse x p q).2 := by
  unfold Dk.refuse
  by_cases hn : 0 ≤ p ∧ 0 ≤ q
  · rw [if_pos hn]
    refine (refuse_ok w x b m es clock fl h p q hn.1 hn.2).mono ?_
    rintro e w' ⟨rfl, rfl⟩
    exact ⟨rfl, .same ((h.set 4 (.int .i64 p) (x' := { x with after := p }) rfl rfl).set 5 (.int .i64 q) (x' := { x with after := p, count := q }) rfl rfl) (ext_setCell (.inl (by simp)) (ext_setCell (.inl (by simp)) (ext_refl _ _) _) _)⟩
  · rw [if_neg hn]
    refine (refuse_bad w x b m es clock fl h p q hn).mono ?_
    rintro e w' ⟨rfl, rfl⟩
    exact ⟨rfl, .same h (ext_refl _ _)⟩
end Go.Proofs.Ytcfagjkijhjaoaa

namespace Go.Proofs.Ytcfagjkijhjaoaa
open Go.RowKit

set_option maxHeartbeats 400000 in
theorem new_bad (w : World) (n : Int) (hn : ¬ (0 ≤ n ∧ n ≤ 268435456)) :
    Calls Try.prog 8 #[.int .i64 n] w fun e w' => e = .returned (.tuple #[.pointer none, .int .i64 2]) ∧ w' = w := by
  have hq := fun w => isQuota_any w n
  rw [decide_eq_false hn] at hq
  clear hn
  go_enter Try.func8, Try.ntmps8
  go_wp2_with (go_at_call 29; refine (hq _).mono ?_; rintro e w2 ⟨rfl, rfl⟩)
  go_ret2
  exact ⟨rfl, rfl⟩

set_option maxHeartbeats 400000 in
theorem new_ok (w : World) (n : Int) (hn : 0 ≤ n ∧ n ≤ 268435456) :
    Calls Try.prog 8 #[.int .i64 n] w fun e w' => e = .returned (.tuple #[.pointer (some ⟨w.heap.size + 1, 0, none⟩), .int .i64 0]) ∧
      w' = (w.alloc (.map #[] 0)).alloc (.cells #[.map (some w.heap.size), .int .i64 n, .int .i64 0, .int .i64 0, .int .i64 0, .int .i64 0] 56) := by
  have hmm := @run_makeMap Try.prog
  have hq := fun w => isQuota_any w n
  rw [decide_eq_true hn] at hq
  clear hn
  go_enter Try.func8, Try.ntmps8
  go_wp2_with (go_at_call 29; refine (hq _).mono ?_; rintro e w2 ⟨rfl, rfl⟩)
  go_ret2
  exact ⟨rfl, rfl⟩

theorem new_at (w : World) (n : Int) : DiskAt ((w.alloc (.map #[] 0)).alloc (.cells #[.map (some w.heap.size), .int .i64 n, .int .i64 0, .int .i64 0, .int .i64 0, .int .i64 0] 56)) ⟨[], n, 0, 0, 0, 0⟩ (w.heap.size + 1) w.heap.size #[] 0 [] where
  head := by
    have := alloc_new (w.alloc (.map #[] 0)) (.cells #[.map (some w.heap.size), .int .i64 n, .int .i64 0, .int .i64 0, .int .i64 0, .int .i64 0] 56)
    rwa [alloc_size] at this
  map := by
    rw [alloc_lt _ _ (by rw [alloc_size]; omega)]
    exact alloc_new w _
  ents := rfl
  st := MapKept.stamped_empty 0
  perm := List.Perm.refl _
  file f hf := by cases hf
  nodup := by simp
  lt k hk := by
    rw [alloc_size, alloc_size]
    simp at hk
    omega

theorem run_next_any {P : Program} (w : World) (ty : TypeId) (it bm since c0 : Nat) (seen : Array Nat) (es : Array MapEntry) (clock : Nat) (hi : w.heap[it]? = some (.mapIter (some bm) since seen c0)) (hb : w.heap[bm]? = some (.map es clock)) (hold : ∀ x ∈ es.toList, x.born < since) (hsc : since ≤ c0) :
    ((leftOf es seen).size = 0 ∧ (Instr.next (.pointer (some ⟨it, 0, none⟩)) false ty).run P w = .ok (.tuple #[.bool false]) w) ∨
    ∃ e ∈ (leftOf es seen).toList, ∃ n, (Instr.next (.pointer (some ⟨it, 0, none⟩)) false ty).run P w = .ok (.tuple #[.bool true, e.key, e.val]) { w with heap := w.heap.setIfInBounds it (.mapIter (some bm) since (seen.push e.born) clock), drawn := n } := by
  simp only [Instr.next, getObj, Sem.run_bind, Sem.run, hi, hb, Result.andThen, next_test_false seen es since c0 hold hsc, Bool.false_eq_true, if_false]
  unfold leftOf
  have hmem : ∀ x ∈ (Array.filter (fun e => !seen.contains e.born) es).toList, x.born < since := fun x hx => hold x (by simp at hx ⊢; exact hx.1)
  generalize Array.filter (fun e => !seen.contains e.born) es = L at hmem ⊢
  have e1 : L.filter (fun x => decide (x.born < since)) = L := Array.filter_eq_self.2 (fun x hx => by simpa using hmem x (by simpa using hx))
  have e2 : L.filter (fun x => decide (x.born ≥ since)) = #[] := by
    rw [Array.filter_eq_empty_iff]
    intro x hx
    have := hmem x (by simpa using hx)
    simp
    omega
  simp only [e1, e2, Array.append_empty]
  by_cases h0 : L.size = 0
  · left
    have : L = #[] := Array.eq_empty_of_size_eq_zero h0
    subst this
    refine ⟨rfl, ?_⟩
    simp [choose, Sem.run, Question.forced]
  · right
    have hne : L.isEmpty = false := by simp [Array.isEmpty, h0]
    simp only [hne, Bool.false_eq_true, if_false, Array.empty_append, Array.size_map]
    have hch : ∃ (j : Nat) (n : Nat), j < L.size ∧ (choose (Question.mapNext L.size)).run P w = .ok j { w with drawn := n } := by
      by_cases hf : L.size ≤ 1
      · exact ⟨0, w.drawn, by omega, by simp [choose, Sem.run, Question.forced, hf]⟩
      · exact ⟨_, w.drawn + 1, Nat.mod_lt _ (by omega), by
          simp only [choose, Sem.run, Question.forced, decide_eq_true_eq, hf, if_false, Question.cut]
          rfl⟩
    obtain ⟨j, n, hj, hrun⟩ := hch
    refine ⟨L[j], by simp, n, ?_⟩
    have hset : ∀ o' : Obj, (setObj it o').run P { w with drawn := n } = .ok () { w with heap := w.heap.setIfInBounds it o', drawn := n } := fun o' => by
      simp only [setObj, Sem.run]
      rw [hi]
    simp only [hrun, Array.getElem?_map, Array.getElem?_eq_getElem hj, Option.map_some, Sem.run_bind, hset, Result.andThen]
    rfl

theorem run_entry_any {P : Program} (w : World) (it bm since : Nat) (seen : Array Nat) (es : Array MapEntry) (clock : Nat) (e : MapEntry) (hi : w.heap[it]? = some (.mapIter (some bm) since (seen.push e.born) clock)) (hb : w.heap[bm]? = some (.map es clock)) (he : e ∈ es.toList) (hn : (es.toList.map (·.born)).Nodup) :
    (Instr.entry (.pointer (some ⟨it, 0, none⟩))).run P w = .ok (.tuple #[e.key, e.val]) w := by
  have hf : es.find? (·.born == e.born) = some e := by rw [← Array.find?_toList]; exact find_born e es.toList hn he
  simp only [Instr.entry, getObj, Sem.run_bind, Sem.run, hi, hb, Result.andThen, Array.back?_push, bne_self_eq_false, Bool.false_eq_true, if_false, hf]
  rfl
end Go.Proofs.Ytcfagjkijhjaoaa

