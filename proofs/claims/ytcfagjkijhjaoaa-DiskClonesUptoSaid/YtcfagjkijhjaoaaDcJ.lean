/- A disk and a clone of it go on apart, each as the document says; Same tells them apart, where what comes in is of bulk at most 1048576. Conditions: the given row's own. -/
import Derived.Test.YtcfagjkijhjaoaaDcSeven
import Derived.Test.YtcfagjkijhjaoaaDcSix
import Derived.Test.YtcfagjkijhjaoaaDcEight
set_option linter.all false
namespace Go.Proofs.Ytcfagjkijhjaoaa.diskClones
open Go.ChangeShapes Go.WideShapes Go.ChangeAt Go.RowKit

abbrev twoT : Lk.Ty := .c (.l actT) (.c (.l actT) .u)

set_option maxRecDepth 100000 in
theorem contract (H : Type) (enc : TypeId × Value → H) (W : World) (base : Nat) (args : Array Value) (ds gs : List (DataW H)) (before : List MemPlace)
    (hval : ∀ (j : Nat) t v, Try.f7.params[j]? = some t → args[j]? = some v → Value.okWide Try.prog W .any base t v)
    (hW : DataW.Whole enc Try.prog Try.f7.params.toList Rows.diskClonesSpec.vars false W args.toList ds gs before) (hk : Rows.uptoSmall H (ds ++ gs) = true) :
    Calls Try.prog 7 args W fun e W' => ∃ v, e = .returned v ∧ Rows.diskClonesSpec.post enc Try.prog Try.f7 false true false false W args v W' := by
  have d3 : Lk.Desc Try.prog 3 (.i .i64) := Lk.descB_ok _ _ (by kernel_rfl)
  have d22 : Lk.Desc Try.prog 22 (.l actT) := Lk.descB_ok _ _ (by kernel_rfl)
  have d62 : Lk.Desc Try.prog 62 twoT := Lk.descB_ok _ _ (by kernel_rfl)
  have hfit : Lk.Fits Try.prog [(.i .i64, .r), (.l actT, .b), (twoT, .b)] Try.f7.params.toList := by
    rw [Try.params7]
    exact ⟨d3, by kernel_rfl, rfl, .inr rfl, rfl, d22, by kernel_rfl, rfl, .inl rfl, rfl, d62, by kernel_rfl, rfl, .inl rfl, rfl, trivial⟩
  have hds : ∃ d1 d2 d3 : DataW H, ds = [d1, d2, d3] ∧ gs = [] := by
    obtain ⟨p, q, hA, hV, _, _, _⟩ := hW
    obtain ⟨rfl, rfl⟩ := trodVars_none hV
    rw [Try.params7] at hA
    obtain ⟨v0, vs0, d0, ds0, p0, q0, _, rfl, _, _, r0⟩ := trodAll_cons hA
    obtain ⟨v1, vs1, d1, ds1, p1, q1, _, rfl, _, _, r1⟩ := trodAll_cons r0
    obtain ⟨v2, vs2, d2, ds2, p2, q2, _, rfl, _, _, r2⟩ := trodAll_cons r1
    obtain ⟨_, rfl, _⟩ := trodAll_nil r2
    exact ⟨d0, d1, d2, rfl, rfl⟩
  obtain ⟨d1, d2, d3', rfl, rfl⟩ := hds
  have hsz : Rows.uptoBulkAll [d1, d2, d3'] ≤ 1048576 := of_decide_eq_true hk
  simp only [Rows.uptoBulkAll] at hsz
  refine (Lk.law_calls_rng (τ := ax) (fn := Try.f7) (Kw := kw) trivial (Nat.zero_le _) hW hval hfit (fun x hr hx _ => ?_)).mono fun e W' ⟨he, hb⟩ => ⟨_, he, ?_⟩
  · obtain ⟨_, _, e1, _, _, _, e2, t2, _, _, e3, t3, _⟩ := hx
    cases e1; cases e2; cases e3
    obtain ⟨_, r2, r3, _⟩ := hr
    obtain ⟨m1, l1, rfl, t4, m2, l2, rfl, t5, _⟩ := t3
    obtain ⟨r4, r5, _⟩ := r3
    simp only [Rows.uptoBulk, Rows.uptoBulkAll] at hsz
    have b2 := row_bulk t2
    have b4 := row_bulk t4
    have b5 := row_bulk t5
    by_cases hq : 0 ≤ x.1 ∧ x.1 ≤ 268435456
    · refine ⟨Lk.F DkGG.G 304000000 7, Lk.F_ok DkGGP.prg DkGGP.res _ 7, ?_⟩
      have := Dk.e7 DkGG.theFnsC x.1 hq x.2.1 x.2.2.1 (acts_fine t2 r2 (by omega)) (Nat.le_trans b2 (by omega)) (acts_fine t4 r4 (by omega)) (acts_fine t5 r5 (by omega)) (Nat.le_trans b4 (by omega)) (Nat.le_trans b5 (by omega))
      have e : DkGG.theFnsC.f7 304000000 x.1 x.2.1 x.2.2.1 = DkGG.f7 304000000 x.1 x.2.1 x.2.2.1 := rfl
      rw [e] at this
      unfold DkGG.f7 at this
      exact this
    · refine ⟨Lk.F DcN.G 304000000 7, Lk.F_ok DcNP.prg DcNP.res _ 7, ?_⟩
      have := DcNp.e7 DcN.theFnsN x.1 hq x.2.1 x.2.2.1 (acts_fine t2 r2 (by omega)) (Nat.le_trans b2 (by omega)) (acts_fine t4 r4 (by omega)) (acts_fine t5 r5 (by omega)) (Nat.le_trans b4 (by omega)) (Nat.le_trans b5 (by omega))
      have e : DcN.theFnsN.f7 304000000 x.1 x.2.1 x.2.2.1 = DcN.f7 304000000 x.1 x.2.1 x.2.2.1 := rfl
      rw [e] at this
      unfold DcN.f7 at this
      exact this
  · refine Lk.post_law hW (by kernel_rfl) ?_ rfl rfl (R := 4) rfl Try.underlying4 hb
    intro t ht
    rw [Try.params7] at ht
    simp only [List.mem_cons, List.not_mem_nil, or_false] at ht
    rcases ht with rfl | rfl | rfl <;> exact ⟨by kernel_rfl, by decide +kernel⟩

set_option maxRecDepth 100000 in
theorem lifted (os : Os) (started : os.Started) (H : Type) (enc : TypeId × Value → H) (F : Stop.Interp) :
    ReturnsInHanded {} Try.checked os 7 .any ((Rows.OpenSpec.upto Rows.diskClonesSpec).pre6 enc Try.prog Try.f7 Rows.diskClonesUptoRow.domain false) (((Rows.OpenSpec.upto Rows.diskClonesSpec).at F).post enc Try.prog Try.f7 false true false false) := by
  refine returnsInHanded_of_cond (C := Try.checked) (s := Rows.OpenSpec.upto Rows.diskClonesSpec) (k := Rows.uptoSmall) rfl own started (by kernel_rfl) Try.func7
    (OpenSpec.witness (enc := enc) (C := Try.checked) (s := Rows.OpenSpec.upto Rows.diskClonesSpec) (k := Rows.uptoSmall) rfl false ⟨#[], #[.int .i64 0, .slice none 0 0, .agg #[.slice none 0 0, .slice none 0 0]], []⟩ 8 (by kernel_rfl) (by kernel_rfl) (by kernel_rfl)
      (x := ([.lit (.int .i64 0), .nil, .agg [.nil, .nil]], [], [])) (by kernel_rfl) rfl (by kernel_rfl)) ?_
  intro W base args ds gs before hval hW _ hk _
  exact contract H enc W base args ds gs before hval hW hk

theorem proved : Rows.DiskClonesUptoSaid :=
  OpenClaim.holds_of_cond 7 Try.f7 rfl rfl rfl rfl rfl rfl rfl ⟨rfl, rfl, rfl, rfl, rfl⟩ rfl rfl rfl rfl rfl (by kernel_rfl) Try.func7 (by kernel_rfl)
    (of_decide_eq_true (by kernel_rfl)) (by unfold Func.isWrapper; first | (rw [if_pos (by decide +kernel)]; kernel_rfl) | (rw [if_neg (by decide +kernel)]; exact ⟨rfl, rfl⟩))
    (fun os started H enc _ F => lifted os started H enc F)
end Go.Proofs.Ytcfagjkijhjaoaa.diskClones

