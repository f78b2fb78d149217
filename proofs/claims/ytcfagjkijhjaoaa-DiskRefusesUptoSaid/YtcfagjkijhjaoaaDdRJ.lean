/- Disks: what is refused has changed nothing but the count of refusals; what is taken never leaves the quota behind; once the plan is through, what has room is taken; where what comes in is of bulk at most 1048576. Conditions: the given row's own. -/
import Derived.Test.YtcfagjkijhjaoaaDdSix
import Derived.Test.YtcfagjkijhjaoaaDdSeven
set_option linter.all false
/-! DiskRefuses: the plain law. -/
namespace Dk
open Go Lk

theorem try_refused (x : DiskS) (t : Bool) : (try_ x t).2.refused = if (try_ x t).1 = true then IntKind.i64.wrap (x.refused + 1) else x.refused := by
  unfold try_ more
  split
  · cases t <;> simp
  · split
    · simp
    · cases t <;> simp

/-- What an act's answer says: of the files, of the count of what was refused, of the room. -/
def Says (d : DiskS) (r : Int × DiskS) : Prop := (r.1 ≠ 0 → r.2.files = d.files) ∧ (r.1 = 52 → r.2.refused = IntKind.i64.wrap (d.refused + 1)) ∧ (r.1 ≠ 52 → r.2.refused = d.refused)

theorem Says.same (d : DiskS) {e : Int} (h : e ≠ 52) : Says d (e, d) := ⟨fun _ => rfl, fun h' => absurd h' h, fun _ => rfl⟩

theorem says_create (d : DiskS) (s : Nm) : Says d (create d s) := by
  unfold create
  split
  · split
    · exact .same d (by omega)
    · simp only
      have h1 := try_refused d (decide (4096 ≤ d.files.length))
      have h2 := try_keeps d (decide (4096 ≤ d.files.length))
      split
      · rename_i h; rw [if_pos h] at h1; exact ⟨fun _ => h2.1, fun _ => h1, fun h => absurd rfl h⟩
      · rename_i h; rw [if_neg h] at h1; exact ⟨fun h => absurd rfl h, fun h => by simp at h, fun _ => h1⟩
  · exact .same d (by omega)

theorem says_append (d : DiskS) (s b : Nm) : Says d (append d s b) := by
  unfold append
  split
  · split
    · exact .same d (by omega)
    · simp only
      have h1 := try_refused d (decide ((b.length : Int) > d.quota - d.used))
      have h2 := try_keeps d (decide ((b.length : Int) > d.quota - d.used))
      split
      · rename_i h; rw [if_pos h] at h1; exact ⟨fun _ => h2.1, fun _ => h1, fun h => absurd rfl h⟩
      · rename_i h; rw [if_neg h] at h1; exact ⟨fun h => absurd rfl h, fun h => by simp at h, fun _ => h1⟩
  · exact .same d (by omega)

theorem Says.took {d r : DiskS} (h : r.refused = d.refused) : Says d (0, r) := ⟨fun h => absurd rfl h, fun h => by simp at h, fun _ => h⟩

theorem says (d : DiskS) (a : A) : Says d (act d a) := by
  unfold act
  split; · exact says_create _ _
  split; · exact says_append _ _ _
  split
  · unfold sync
    split
    · split
      · exact .same d (by omega)
      · exact .took rfl
    · exact .same d (by omega)
  split
  · unfold rename
    split
    · split
      · exact .same d (by omega)
      · split
        · exact .same d (by omega)
        · exact .took rfl
    · exact .same d (by omega)
  split
  · unfold remove
    split
    · split
      · exact .same d (by omega)
      · exact .took rfl
    · exact .same d (by omega)
  split
  · unfold setQuota
    split
    · exact .took rfl
    · exact .same d (by omega)
  split
  · unfold refuse
    split
    · exact .took rfl
    · exact .same d (by omega)
  split
  · exact .took rfl
  · exact .same d (by omega)

theorem room {d : DiskS} (h : Good d) {a : A} (ha : a.1 = 1) (h0 : (act d a).1 = 0) : (act d a).2.used ≤ (act d a).2.quota := by
  unfold act at h0 ⊢
  rw [if_neg (by omega), if_pos ha] at h0 ⊢
  unfold append at h0 ⊢
  split at h0
  · rename_i hn
    rw [if_pos hn]
    split at h0
    · cases h0
    · rename_i f hf
      simp only [hf] at h0 ⊢
      split at h0
      · cases h0
      · rename_i ht
        rw [if_neg ht]
        have h1 := try_false (by simpa using ht)
        have h2 := try_keeps d (decide ((a.2.2.2.1.length : Int) > d.quota - d.used))
        simp only [decide_eq_false_iff_not] at h1
        simp only [h2.2.1, h2.2.2]
        omega
  · cases h0

theorem look_ins {f : DFile} : ∀ {l : List DFile}, look l f.name = none → look (ins f l) f.name = some f
  | [], _ => by simp [ins, look]
  | g :: l, h => by
    rw [look_cons] at h
    split at h
    · cases h
    · rename_i hg
      unfold ins
      split
      · rw [look_cons, if_neg hg]; exact look_ins h
      · rw [look_cons, if_pos rfl]

section
variable (X : FnsD)

def theName : Nm := [97, 32, 102, 105, 108, 101, 32, 116, 104, 97, 116, 32, 110, 111, 98, 111, 100, 121, 32, 110, 97, 109, 101, 100]

theorem p5_17 (n0 j : Nat) (d : DiskS) (h : d.after = 0) (h' : d.count = 0) (hl : d.files.length < 4096) : X.p5_17 (j + 3) n0 (some d) = some (true, ()) := by
  have hn : okN theName := by decide
  have h1 : ((create d theName).1 = 0 ∨ (create d theName).1 = 50) ∧ ∃ f, look (create d theName).2.files theName = some f := by
    unfold create
    rw [if_pos hn]
    cases hk : look d.files theName with
    | some f => exact ⟨.inr rfl, f, hk⟩
    | none =>
      have : try_ d (decide (4096 ≤ d.files.length)) = (false, d) := by
        unfold try_
        rw [if_neg (by omega), if_neg (by omega)]
        simp; omega
      simp only [this, Bool.false_eq_true, if_false]
      exact ⟨by simp, ⟨theName, [], 0⟩, look_ins (f := ⟨theName, [], 0⟩) hk⟩
  obtain ⟨h1, f, hf⟩ := h1
  have fin : X.p5_2067 (j + 2) n0 (j + 2) (some (refuse (create d theName).2 0 1).2) false = some (true, ()) := by
    rw [X.p5_2067_eq, sel_f, X.p5_20_eq, X.f25_eq]
    simp only [xAppend, Option.bind_some, turned, ob_some]
    have : (append (refuse (create d theName).2 0 1).2 theName []).1 = 52 := by
      unfold append
      rw [if_pos hn]
      have e : (refuse (create d theName).2 0 1).2 = { (create d theName).2 with after := 0, count := 1 } := by unfold refuse; rw [if_pos (by omega)]
      rw [e]
      simp only [hf]
      have : ∀ t, (try_ { (create d theName).2 with after := 0, count := 1 } t).1 = true := by intro t; unfold try_; simp
      simp only [this, if_true]
    show some ((append (refuse (create d theName).2 0 1).2 theName []).1 == 52, ()) = _
    rw [this]; rfl
  have r0 : (refuse (create d theName).2 0 1).1 = 0 := by unfold refuse; rw [if_pos (by omega)]
  rw [X.p5_17_eq]
  show obind (X.f24 (j + 2) (some d) theName) _ = _
  rw [X.f24_eq]
  simp only [xCreate, Option.bind_some, turned, ob_some, X.f23_eq, xRefuse, r0, bne_self_eq_false, fin]
  rcases h1 with h1 | h1
  · rw [h1]; rfl
  · rw [h1]; rfl

theorem p5_5 (acts : List A) (ha : ∀ a ∈ acts, Fine a) (hb : acts.length ≤ 1048576) : ∀ (m k j n0 : Nat) (d : DiskS), Good d → k + m = acts.length → m + 1048700 ≤ j → 20 ≤ n0 →
    X.p5_5 j n0 acts (some d) (k : Int) = some (true, ()) := by
  intro m
  induction m with
  | zero =>
    intro k j n0 d hd hkm hj hn
    obtain ⟨j, rfl⟩ : ∃ i, j = i + 1 := ⟨j - 1, by omega⟩
    obtain ⟨n, rfl⟩ : ∃ i, n0 = i + 4 := ⟨n0 - 4, by omega⟩
    rw [X.p5_5_eq, sel_ite, if_neg (by simp; omega), X.f23_eq]
    simp only [xRefuse, Option.bind_some, turned, ob_some]
    have e : refuse d 0 0 = (0, { d with after := 0, count := 0 }) := by unfold refuse; rw [if_pos (by omega)]
    rw [e]
    simp only [bne_self_eq_false, sel_f]
    rw [X.f12_eq]
    simp only [xList, Option.bind_some, ob_some]
    rw [show n + 4 = (n + 3) + 1 from rfl, X.p5_2064_eq, sel_ite]
    have hl : (list { d with after := 0, count := 0 }).length = d.files.length := by simp [list]
    have hm := hd.many
    split
    · rw [X.f12_eq]
      simp only [xList, Option.bind_some, ob_some, hl]
      simp; omega
    · rename_i h
      simp only [decide_eq_true_eq, hl] at h
      exact p5_17 X _ (n + 1) _ rfl rfl (by show d.files.length < 4096; omega)
  | succ m ih =>
    intro k j n0 d hd hkm hj hn
    obtain ⟨j, rfl⟩ : ∃ i, j = i + 5 := ⟨j - 5, by omega⟩
    have hlt : k < acts.length := by omega
    have hf : acts[k]? = some acts[k] := List.getElem?_eq_getElem hlt
    have hfine := ha _ (List.getElem_mem hlt)
    generalize acts[k] = a at hf hfine
    have a1 : acts.getD ((k : Int).toNat) (0, [], [], [], 0, 0, [], ()) = a := by
      simp [List.getD_eq_getElem?_getD, hf]
    obtain ⟨s1, s2, s3⟩ := says d a
    have s4 := fun h h' => room hd (a := a) h h'
    have hg := hd.act hfine
    generalize hr : act d a = r at s1 s2 s3 s4 hg
    obtain ⟨e, d'⟩ := r
    simp only at s1 s2 s3 s4 hg
    have again : X.p5_6 (j + 4) n0 (j + 4) acts (some d') k = some (true, ()) := by
      rw [X.p5_6_eq, wrap64 (by omega) (by omega)]
      have := ih (k + 1) (j + 4) n0 d' hg (by omega) (by omega) hn
      simpa using this
    have s2062 : X.p5_2062 (j + 2) n0 (j + 4) (j + 3) (j + 2) acts (some d') k false = some (true, ()) := by
      rw [X.p5_2062_eq, sel_f]; exact again
    have s13 : X.p5_13 (j + 3) n0 (j + 4) (j + 3) acts (some d') k e = some (true, ()) := by
      rw [X.p5_13_eq]
      simp only [sel_ite, decide_eq_true_eq]
      rw [if_pos (by omega), if_pos (by omega), a1]
      split
      · rename_i hk
        split
        · rename_i h0
          rw [X.f15_eq, X.f22_eq]
          simp only [xUsed, xQuota, Option.bind_some, ob_some]
          have := s4 (by simpa using hk) (by simpa using h0)
          rw [show decide (d'.used > d'.quota) = false by simp; omega]
          exact s2062
        · exact s2062
      · exact s2062
    have s2060 : X.p5_2060 (j + 3) n0 (j + 4) (j + 3) acts (some d') k e false = some (true, ()) := by
      rw [X.p5_2060_eq, sel_f]; exact s13
    have sm : e ≠ 0 → X.f20 (j + 3) (some d') (some d) = some (true, ()) := by
      intro h
      rw [X.f20_eq]
      simp [xSame, same, s1 h]
    have s11 : X.p5_11 (j + 4) n0 (j + 4) acts (some d') k (some d) e = some (true, ()) := by
      rw [X.p5_11_eq]
      simp only [sel_ite, bne_iff_ne]
      by_cases h52 : e = 52
      · rw [if_neg (by simp [h52]), if_pos (by omega), sm (by omega), ob_some]
        exact s2060
      · rw [if_pos h52, X.f21_eq, X.f21_eq]
        simp only [xRefused, Option.bind_some, ob_some]
        rw [if_neg (by simp [s3 h52])]
        split
        · rename_i h0
          rw [sm h0, ob_some]
          exact s2060
        · exact s2060
    have s2058 : X.p5_2058 (j + 4) n0 (j + 4) acts (some d') k (some d) e false = some (true, ()) := by
      rw [X.p5_2058_eq, sel_f]; exact s11
    rw [X.p5_5_eq]
    simp only [sel_ite, decide_eq_true_eq, beq_iff_eq]
    rw [if_pos (by omega), X.f10_eq]
    simp only [xClone, Option.bind_some, ob_some]
    rw [if_pos (by omega), if_pos (by omega), a1, e9 X (j + 4) d a hfine (by omega), hr, ob_some]
    simp only
    split
    · rename_i h52
      rw [X.f20_eq]
      simp only [xSame, same, s1 (by omega), Option.bind_some, ob_some, X.f21_eq, xRefused, s2 h52]
      simpa using s2058
    · exact s2058

theorem e5 (q : Int) (acts : List A) (ha : ∀ a ∈ acts, Fine a) (hb : acts.length ≤ 1048576) : X.f5 3000000 q acts = some (true, ()) := by
  rw [show (3000000 : Nat) = 2999999 + 1 from rfl, X.f5_eq, X.f8_eq]
  simp only [xNew, ob_some, sel_ite]
  by_cases h : 0 ≤ q ∧ q ≤ 268435456
  · rw [if_pos h, if_neg (by simp)]
    have := p5_5 X acts ha hb acts.length 0 2999999 2999999 ⟨[], q, 0, 0, 0, 0⟩ (Good.new h) (by omega) (by omega) (by omega)
    simpa using this
  · rw [if_neg h, if_pos (by simp)]
    split
    · rfl
    · rename_i h1
      simp only [decide_eq_true_eq] at h1
      have : q > 268435456 := by omega
      simp [this]
end
end Dk

namespace Go.Proofs.Ytcfagjkijhjaoaa.diskRefuses
open Go.ChangeShapes Go.WideShapes Go.ChangeAt Go.RowKit

set_option maxRecDepth 100000 in
theorem contract (H : Type) (enc : TypeId × Value → H) (W : World) (base : Nat) (args : Array Value) (ds gs : List (DataW H)) (before : List MemPlace)
    (hval : ∀ (j : Nat) t v, Try.f5.params[j]? = some t → args[j]? = some v → Value.okWide Try.prog W .any base t v)
    (hW : DataW.Whole enc Try.prog Try.f5.params.toList Rows.diskRefusesSpec.vars false W args.toList ds gs before) (hk : Rows.uptoSmall H (ds ++ gs) = true) :
    Calls Try.prog 5 args W fun e W' => ∃ v, e = .returned v ∧ Rows.diskRefusesSpec.post enc Try.prog Try.f5 false true false false W args v W' := by
  have d3 : Lk.Desc Try.prog 3 (.i .i64) := Lk.descB_ok _ _ (by kernel_rfl)
  have d22 : Lk.Desc Try.prog 22 (.l actT) := Lk.descB_ok _ _ (by kernel_rfl)
  have hfit : Lk.Fits Try.prog [(.i .i64, .r), (.l actT, .b)] Try.f5.params.toList := by
    rw [Try.params5]
    exact ⟨d3, by kernel_rfl, rfl, .inr rfl, rfl, d22, by kernel_rfl, rfl, .inl rfl, rfl, trivial⟩
  have hds : ∃ d1 d2 : DataW H, ds = [d1, d2] ∧ gs = [] := by
    obtain ⟨p, q, hA, hV, _, _, _⟩ := hW
    obtain ⟨rfl, rfl⟩ := trodVars_none hV
    rw [Try.params5] at hA
    obtain ⟨v0, vs0, d0, ds0, p0, q0, _, rfl, _, _, r0⟩ := trodAll_cons hA
    obtain ⟨v1, vs1, d1, ds1, p1, q1, _, rfl, _, _, r1⟩ := trodAll_cons r0
    obtain ⟨_, rfl, _⟩ := trodAll_nil r1
    exact ⟨d0, d1, rfl, rfl⟩
  obtain ⟨d1, d2, rfl, rfl⟩ := hds
  have hsz : Rows.uptoBulkAll [d1, d2] ≤ 1048576 := of_decide_eq_true hk
  simp only [Rows.uptoBulkAll] at hsz
  refine (Lk.law_calls_rng (τ := ax) (fn := Try.f5) (Kw := kw) trivial (Nat.zero_le _) hW hval hfit (fun x hr hx _ => ?_)).mono fun e W' ⟨he, hb⟩ => ⟨_, he, ?_⟩
  · obtain ⟨_, _, e1, _, _, _, e2, t2, _⟩ := hx
    cases e1; cases e2
    obtain ⟨_, r2, _⟩ := hr
    have b2 := row_bulk t2
    refine ⟨Lk.F DkGG.G 3000000 5, Lk.F_ok DkGGP.prg DkGGP.res _ 5, ?_⟩
    have := Dk.e5 DkGG.theFnsD x.1 x.2.1 (acts_fine t2 r2 (by omega)) (Nat.le_trans b2 (by omega))
    have e : DkGG.theFnsD.f5 3000000 x.1 x.2.1 = DkGG.f5 3000000 x.1 x.2.1 := rfl
    rw [e] at this
    unfold DkGG.f5 at this
    exact this
  · refine Lk.post_law hW (by kernel_rfl) ?_ rfl rfl (R := 4) rfl Try.underlying4 hb
    intro t ht
    rw [Try.params5] at ht
    simp only [List.mem_cons, List.not_mem_nil, or_false] at ht
    rcases ht with rfl | rfl <;> exact ⟨by kernel_rfl, by decide +kernel⟩

set_option maxRecDepth 100000 in
theorem lifted (os : Os) (started : os.Started) (H : Type) (enc : TypeId × Value → H) (F : Stop.Interp) :
    ReturnsInHanded {} Try.checked os 5 .any ((Rows.OpenSpec.upto Rows.diskRefusesSpec).pre6 enc Try.prog Try.f5 Rows.diskRefusesUptoRow.domain false) (((Rows.OpenSpec.upto Rows.diskRefusesSpec).at F).post enc Try.prog Try.f5 false true false false) := by
  refine returnsInHanded_of_cond (C := Try.checked) (s := Rows.OpenSpec.upto Rows.diskRefusesSpec) (k := Rows.uptoSmall) rfl own started (by kernel_rfl) Try.func5
    (OpenSpec.witness (enc := enc) (C := Try.checked) (s := Rows.OpenSpec.upto Rows.diskRefusesSpec) (k := Rows.uptoSmall) rfl false ⟨#[], #[.int .i64 0, .slice none 0 0], []⟩ 8 (by kernel_rfl) (by kernel_rfl) (by kernel_rfl)
      (x := ([.lit (.int .i64 0), .nil], [], [])) (by kernel_rfl) rfl (by kernel_rfl)) ?_
  intro W base args ds gs before hval hW _ hk _
  exact contract H enc W base args ds gs before hval hW hk

theorem proved : Rows.DiskRefusesUptoSaid :=
  OpenClaim.holds_of_cond 5 Try.f5 rfl rfl rfl rfl rfl rfl rfl ⟨rfl, rfl, rfl, rfl, rfl⟩ rfl rfl rfl rfl rfl (by kernel_rfl) Try.func5 (by kernel_rfl)
    (of_decide_eq_true (by kernel_rfl)) (by unfold Func.isWrapper; first | (rw [if_pos (by decide +kernel)]; kernel_rfl) | (rw [if_neg (by decide +kernel)]; exact ⟨rfl, rfl⟩))
    (fun os started H enc _ F => lifted os started H enc F)
end Go.Proofs.Ytcfagjkijhjaoaa.diskRefuses

