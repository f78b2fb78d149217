/- A disk under any calls: every answer, and all that can be seen behind each of them, is as the document says, where what comes in is of bulk at most 1048576. Conditions: the given row's own. -/
import Derived.Test.YtcfagjkijhjaoaaDdSeven
import Derived.Test.YtcfagjkijhjaoaaDdSix
set_option linter.all false
namespace Go.Proofs.Ytcfagjkijhjaoaa.diskPlays
open Go.ChangeShapes Go.WideShapes Go.ChangeAt Go.RowKit

set_option maxRecDepth 100000 in
theorem contract (H : Type) (enc : TypeId × Value → H) (W : World) (base : Nat) (args : Array Value) (ds gs : List (DataW H)) (before : List MemPlace)
    (hval : ∀ (j : Nat) t v, Try.f4.params[j]? = some t → args[j]? = some v → Value.okWide Try.prog W .any base t v)
    (hW : DataW.Whole enc Try.prog Try.f4.params.toList Rows.diskPlaysSpec.vars false W args.toList ds gs before) (hk : Rows.uptoSmall H (ds ++ gs) = true) :
    Calls Try.prog 4 args W fun e W' => ∃ v, e = .returned v ∧ Rows.diskPlaysSpec.post enc Try.prog Try.f4 false true false false W args v W' := by
  have d3 : Lk.Desc Try.prog 3 (.i .i64) := Lk.descB_ok _ _ (by kernel_rfl)
  have d22 : Lk.Desc Try.prog 22 (.l actT) := Lk.descB_ok _ _ (by kernel_rfl)
  have hfit : Lk.Fits Try.prog [(.i .i64, .r), (.l actT, .b)] Try.f4.params.toList := by
    rw [Try.params4]
    exact ⟨d3, by kernel_rfl, rfl, .inr rfl, rfl, d22, by kernel_rfl, rfl, .inl rfl, rfl, trivial⟩
  have hds : ∃ d1 d2 : DataW H, ds = [d1, d2] ∧ gs = [] := by
    obtain ⟨p, q, hA, hV, _, _, _⟩ := hW
    obtain ⟨rfl, rfl⟩ := trodVars_none hV
    rw [Try.params4] at hA
    obtain ⟨v0, vs0, d0, ds0, p0, q0, _, rfl, _, _, r0⟩ := trodAll_cons hA
    obtain ⟨v1, vs1, d1, ds1, p1, q1, _, rfl, _, _, r1⟩ := trodAll_cons r0
    obtain ⟨_, rfl, _⟩ := trodAll_nil r1
    exact ⟨d0, d1, rfl, rfl⟩
  obtain ⟨d1, d2, rfl, rfl⟩ := hds
  have hsz : Rows.uptoBulkAll [d1, d2] ≤ 1048576 := of_decide_eq_true hk
  simp only [Rows.uptoBulkAll] at hsz
  refine (Lk.law_calls_rng (τ := ax) (fn := Try.f4) (Kw := kw) trivial (Nat.zero_le _) hW hval hfit (fun x hr hx _ => ?_)).mono fun e W' ⟨he, hb⟩ => ⟨_, he, ?_⟩
  · obtain ⟨_, _, e1, _, _, _, e2, t2, _⟩ := hx
    cases e1; cases e2
    obtain ⟨_, r2, _⟩ := hr
    have b2 := row_bulk t2
    refine ⟨Lk.F DkGG.G 302000000 4, Lk.F_ok DkGGP.prg DkGGP.res _ 4, ?_⟩
    have := Dk.e4 DkGG.theFnsP x.1 x.2.1 (acts_fine t2 r2 (by omega)) (Nat.le_trans b2 (by omega))
    have e : DkGG.theFnsP.f4 302000000 x.1 x.2.1 = DkGG.f4 302000000 x.1 x.2.1 := rfl
    rw [e] at this
    unfold DkGG.f4 at this
    exact this
  · refine Lk.post_law hW (by kernel_rfl) ?_ rfl rfl (R := 4) rfl Try.underlying4 hb
    intro t ht
    rw [Try.params4] at ht
    simp only [List.mem_cons, List.not_mem_nil, or_false] at ht
    rcases ht with rfl | rfl <;> exact ⟨by kernel_rfl, by decide +kernel⟩

set_option maxRecDepth 100000 in
theorem lifted (os : Os) (started : os.Started) (H : Type) (enc : TypeId × Value → H) (F : Stop.Interp) :
    ReturnsInHanded {} Try.checked os 4 .any ((Rows.OpenSpec.upto Rows.diskPlaysSpec).pre6 enc Try.prog Try.f4 Rows.diskPlaysUptoRow.domain false) (((Rows.OpenSpec.upto Rows.diskPlaysSpec).at F).post enc Try.prog Try.f4 false true false false) := by
  refine returnsInHanded_of_cond (C := Try.checked) (s := Rows.OpenSpec.upto Rows.diskPlaysSpec) (k := Rows.uptoSmall) rfl own started (by kernel_rfl) Try.func4
    (OpenSpec.witness (enc := enc) (C := Try.checked) (s := Rows.OpenSpec.upto Rows.diskPlaysSpec) (k := Rows.uptoSmall) rfl false ⟨#[], #[.int .i64 0, .slice none 0 0], []⟩ 8 (by kernel_rfl) (by kernel_rfl) (by kernel_rfl)
      (x := ([.lit (.int .i64 0), .nil], [], [])) (by kernel_rfl) rfl (by kernel_rfl)) ?_
  intro W base args ds gs before hval hW _ hk _
  exact contract H enc W base args ds gs before hval hW hk

theorem proved : Rows.DiskPlaysUptoSaid :=
  OpenClaim.holds_of_cond 4 Try.f4 rfl rfl rfl rfl rfl rfl rfl ⟨rfl, rfl, rfl, rfl, rfl⟩ rfl rfl rfl rfl rfl (by kernel_rfl) Try.func4 (by kernel_rfl)
    (of_decide_eq_true (by kernel_rfl)) (by unfold Func.isWrapper; first | (rw [if_pos (by decide +kernel)]; kernel_rfl) | (rw [if_neg (by decide +kernel)]; exact ⟨rfl, rfl⟩))
    (fun os started H enc _ F => lifted os started H enc F)
end Go.Proofs.Ytcfagjkijhjaoaa.diskPlays

