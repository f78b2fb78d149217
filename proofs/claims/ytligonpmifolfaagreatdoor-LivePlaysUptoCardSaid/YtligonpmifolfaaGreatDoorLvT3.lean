/- LivePlays is true at every version and list of calls whose bulk is together at most 1048576 (the row's own bound): a set answers every call as the document says, and what it hands out is memory of its own. No other condition. -/
import Derived.Test.YtligonpmifolfaaGreatDoorLvEight
set_option linter.all false
section
namespace Go.Proofs.YtligonpmifolfaaGreatDoor.livePlays
open Go.ChangeShapes Go.WideShapes Go.ChangeAt Go.RowKit
set_option maxRecDepth 100000 in
theorem contract (H : Type) (enc : TypeId × Value → H) (W : World) (base : Nat) (args : Array Value) (ds gs : List (DataW H)) (before : List MemPlace)
  (hval : ∀ (j : Nat) t v, Tryz.f3.params[j]? = some t → args[j]? = some v → Value.okWide Tryz.prog W .any base t v)
  (hW : DataW.Whole enc Tryz.prog Tryz.f3.params.toList Rows.livePlaysSpec.vars false W args.toList ds gs before) (hL : laidMetH Tryz.prog Rows.livePlaysUptoRow.laid W) (hk : Rows.uptoSmall H (ds ++ gs) = true) :
  Calls Tryz.prog 3 args W fun e W' => ∃ v, e = .returned v ∧ Rows.livePlaysSpec.post enc Tryz.prog Tryz.f3 false true false false W args v W' := by
 have hT : Tabs W := tabs hL
 have d23 : Lk.Desc Tryz.prog 23 Lv.LvT := Lk.descB_ok _ _ (by kernel_rfl)
 have d24 : Lk.Desc Tryz.prog 24 (.l ActT) := Lk.descB_ok _ _ (by kernel_rfl)
 have hfit : Lk.Fits Tryz.prog [(Lv.LvT, .r), (.l ActT, .r)] Tryz.f3.params.toList := by
  rw [Tryz.params3]
  exact ⟨d23, by kernel_rfl, rfl, .inr rfl, rfl, d24, by kernel_rfl, rfl, .inr rfl, rfl, trivial⟩
 have hds : ∃ d1 d2 : DataW H, ds = [d1, d2] ∧ gs = [] := by
  obtain ⟨p, q, hA, hV, _, _, _⟩ := hW
  obtain ⟨rfl, rfl⟩ := trodVars_none hV
  rw [Tryz.params3] at hA
  obtain ⟨v0, vs0, d0, ds0, p0, q0, _, rfl, _, _, r0⟩ := trodAll_cons hA
  obtain ⟨v1, vs1, d1, ds1, p1, q1, _, rfl, _, _, r1⟩ := trodAll_cons r0
  obtain ⟨_, rfl, _⟩ := trodAll_nil r1
  exact ⟨d0, d1, rfl, rfl⟩
 obtain ⟨d1, d2, rfl, rfl⟩ := hds
 have hsz : Rows.uptoBulkAll [d1, d2] ≤ 1048576 := of_decide_eq_true hk
 simp only [Rows.uptoBulkAll] at hsz
 refine (Lk.law_calls_rng (τ := ax) (fn := Tryz.f3) (Kw := kw) hT (kwn hT) hW hval hfit (fun x hr hx _ => ?_)).mono fun e W' ⟨he, hb⟩ => ⟨_, he, ?_⟩
 ·obtain ⟨_, _, e1, t1, _, _, e2, t2, _⟩ := hx
  cases e1
  cases e2
  have b1 : Lw.Sm x.1 1048576 := lev_sm t1 (by omega)
  obtain ⟨b2, b3, b4⟩ := acts_bulk t2 (by omega)
  refine ⟨Lk.F LvG.G 100000000 3, Lk.F_ok LvGP.prg LvGP.res _ 3, ?_⟩
  have := Lw.law3_ok Lw.told3 x.1 x.2.1 b1 b2 b3 b4
  unfold LvG.f3 at this
  exact this
 ·refine Lk.post_law hW (by kernel_rfl) ?_ rfl rfl (R := 4) rfl Tryz.underlying4 hb
  intro t ht
  rw [Tryz.params3] at ht
  simp only [List.mem_cons, List.not_mem_nil, or_false] at ht
  rcases ht with rfl | rfl
  ·exact ⟨by kernel_rfl, by decide +kernel⟩
  ·exact ⟨by kernel_rfl, by decide +kernel⟩
theorem laid_met (os : Os) : laidMet Tryz.prog Rows.livePlaysUptoRow.laid ((laidWorld os).forCall (fun _ _ => 0) ⟨#[], #[.slice none 0 0, .slice none 0 0], []⟩).memory :=
 laidMet_of_run' 8 (by kernel_rfl) (by kernel_rfl)
theorem reads (os : Os) {H : Type} (enc : TypeId × Value → H) : ∃ places, DataW.whole enc Tryz.prog ((laidWorld os).forCall (fun _ _ => 0) ⟨#[], #[.slice none 0 0, .slice none 0 0], []⟩).memory Tryz.f3.params.toList Rows.livePlaysSpec.vars false #[Value.slice none 0 0, .slice none 0 0].toList 8 = some ([.nil, .nil], [], places) :=
 ⟨[], by kernel_rfl⟩
set_option maxRecDepth 100000 in
theorem lifted (os : Os) (started : os.Started) (H : Type) (enc : TypeId × Value → H) (F : Stop.Interp) :
  ReturnsInHanded {} Tryz.checked os 3 .any ((Rows.OpenSpec.upto Rows.livePlaysSpec).preRow enc Tryz.prog Tryz.f3 Rows.livePlaysUptoRow.domain false Rows.livePlaysUptoRow.laid) (((Rows.OpenSpec.upto Rows.livePlaysSpec).at F).post enc Tryz.prog Tryz.f3 false true false false) := by
 obtain ⟨places, hx⟩ := reads os enc
 refine returnsInHanded_of_row (C := Tryz.checked) (s := Rows.OpenSpec.upto Rows.livePlaysSpec) own started (by kernel_rfl) Tryz.func3
  (witness_row_at (enc := enc) (C := Tryz.checked) false (laidWorld os) #[.slice none 0 0, .slice none 0 0] rfl (by kernel_rfl) (by kernel_rfl) (by kernel_rfl)
   (OpenSpec.preRow_of_cond 8 hx (by kernel_rfl) (fun k hk => by cases hk; kernel_rfl) (by kernel_rfl) (laid_met os))) ?_
 intro W base args ds gs before hval hW _ hcond _ hL _ _
 exact contract H enc W base args ds gs before hval hW hL (hcond _ rfl)
theorem said : Rows.LivePlaysUptoSaid :=
 OpenClaim.holds_of_cond 3 Tryz.f3 rfl rfl rfl rfl rfl rfl rfl ⟨rfl, rfl, rfl, rfl, rfl⟩ rfl rfl rfl rfl rfl (by kernel_rfl) Tryz.func3 (by kernel_rfl)
  (of_decide_eq_true (by kernel_rfl)) (by unfold Func.isWrapper; first | (rw [if_pos (by decide +kernel)]; kernel_rfl) | (rw [if_neg (by decide +kernel)]; exact ⟨rfl, rfl⟩))
  (fun os started H enc _ F => by rw [OpenClaim.pre_eq_preRow]; exact lifted os started H enc F)
theorem card : Rows.LivePlaysUptoCardSaid :=
 Claim7.holds_tied_plain_at .later [] _ _ _ _ said (fun _ h => by cases h) (by kernel_rfl) (fun _ h => by cases h) livePlaysUpto_row_tie rfl ⟨rfl, rfl⟩ (by kernel_rfl) rfl (plain "moraine/morainelaw18.LivePlays" 3 Tryz.f3 _ (by kernel_rfl) Tryz.func3 Tryz.params3 (by kernel_rfl)) (by kernel_rfl)
end Go.Proofs.YtligonpmifolfaaGreatDoor.livePlays
end
