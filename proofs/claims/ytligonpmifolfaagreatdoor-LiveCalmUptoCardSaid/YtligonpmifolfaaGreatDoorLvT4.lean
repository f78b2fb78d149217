/- LiveCalm is true at every version, list of calls and list of names whose bulk is together at most 1048576 (the row's own bound): when nobody holds a version and nothing is being written, one version is there, and its files alone are needed. No other condition. -/
import Derived.Test.YtligonpmifolfaaGreatDoorLvEight
import Derived.Test.YtligonpmifolfaaGreatDoorLvNine
set_option linter.all false
section
namespace Go.Proofs.YtligonpmifolfaaGreatDoor.liveCalm
open Go.ChangeShapes Go.WideShapes Go.ChangeAt Go.RowKit
set_option maxRecDepth 100000 in
theorem contract (H : Type) (enc : TypeId × Value → H) (W : World) (base : Nat) (args : Array Value) (ds gs : List (DataW H)) (before : List MemPlace)
  (hval : ∀ (j : Nat) t v, Tryz.f4.params[j]? = some t → args[j]? = some v → Value.okWide Tryz.prog W .any base t v)
  (hW : DataW.Whole enc Tryz.prog Tryz.f4.params.toList Rows.liveCalmSpec.vars false W args.toList ds gs before) (hL : laidMetH Tryz.prog Rows.liveCalmUptoRow.laid W) (hk : Rows.uptoSmall H (ds ++ gs) = true) :
  Calls Tryz.prog 4 args W fun e W' => ∃ v, e = .returned v ∧ Rows.liveCalmSpec.post enc Tryz.prog Tryz.f4 false true false false W args v W' := by
 have hT : Tabs W := tabs hL
 have d23 : Lk.Desc Tryz.prog 23 Lv.LvT := Lk.descB_ok _ _ (by kernel_rfl)
 have d24 : Lk.Desc Tryz.prog 24 (.l ActT) := Lk.descB_ok _ _ (by kernel_rfl)
 have d37 : Lk.Desc Tryz.prog 37 (.l .s) := Lk.descB_ok _ _ (by kernel_rfl)
 have hfit : Lk.Fits Tryz.prog [(Lv.LvT, .b), (.l ActT, .b), (.l .s, .b)] Tryz.f4.params.toList := by
  rw [Tryz.params4]
  exact ⟨d23, by kernel_rfl, rfl, .inl rfl, rfl, d24, by kernel_rfl, rfl, .inl rfl, rfl, d37, by kernel_rfl, rfl, .inl rfl, rfl, trivial⟩
 have hds : ∃ d1 d2 d3 : DataW H, ds = [d1, d2, d3] ∧ gs = [] := by
  obtain ⟨p, q, hA, hV, _, _, _⟩ := hW
  obtain ⟨rfl, rfl⟩ := trodVars_none hV
  rw [Tryz.params4] at hA
  obtain ⟨v0, vs0, d0, ds0, p0, q0, _, rfl, _, _, r0⟩ := trodAll_cons hA
  obtain ⟨v1, vs1, d1, ds1, p1, q1, _, rfl, _, _, r1⟩ := trodAll_cons r0
  obtain ⟨v2, vs2, d2, ds2, p2, q2, _, rfl, _, _, r2⟩ := trodAll_cons r1
  obtain ⟨_, rfl, _⟩ := trodAll_nil r2
  exact ⟨d0, d1, d2, rfl, rfl⟩
 obtain ⟨d1, d2, d3, rfl, rfl⟩ := hds
 have hsz : Rows.uptoBulkAll [d1, d2, d3] ≤ 1048576 := of_decide_eq_true hk
 simp only [Rows.uptoBulkAll] at hsz
 refine (Lk.law_calls_rng (τ := ax) (fn := Tryz.f4) (Kw := kw) hT (kwn hT) hW hval hfit (fun x hr hx _ => ?_)).mono fun e W' ⟨he, hb⟩ => ⟨_, he, ?_⟩
 ·obtain ⟨_, _, e1, t1, _, _, e2, t2, _, _, e3, t3, _⟩ := hx
  cases e1
  cases e2
  cases e3
  have b1 : Lw.Sm x.1 1048576 := lev_sm t1 (by omega)
  obtain ⟨b2, b3, b4⟩ := acts_bulk t2 (by omega)
  obtain ⟨b5, b6⟩ := txt_bulk t3
  refine ⟨Lk.F LvG.G 100000000 4, Lk.F_ok LvGP.prg LvGP.res _ 4, ?_⟩
  have := Lw.law4_ok Lw.told4 x.1 x.2.1 x.2.2.1 b1 b2 b3 b4 (by have b5' : List.length x.2.2.1 ≤ Rows.uptoBulk d3 := b5; omega) (fun y hy => by have := b6 y hy; omega)
  unfold LvG.f4 at this
  exact this
 ·refine Lk.post_law hW (by kernel_rfl) ?_ rfl rfl (R := 4) rfl Tryz.underlying4 hb
  intro t ht
  rw [Tryz.params4] at ht
  simp only [List.mem_cons, List.not_mem_nil, or_false] at ht
  rcases ht with rfl | rfl | rfl
  ·exact ⟨by kernel_rfl, by decide +kernel⟩
  ·exact ⟨by kernel_rfl, by decide +kernel⟩
  ·exact ⟨by kernel_rfl, by decide +kernel⟩
theorem laid_met (os : Os) : laidMet Tryz.prog Rows.liveCalmUptoRow.laid ((laidWorld os).forCall (fun _ _ => 0) ⟨#[], #[.slice none 0 0, .slice none 0 0, .slice none 0 0], []⟩).memory :=
 laidMet_of_run' 8 (by kernel_rfl) (by kernel_rfl)
theorem reads (os : Os) {H : Type} (enc : TypeId × Value → H) : ∃ places, DataW.whole enc Tryz.prog ((laidWorld os).forCall (fun _ _ => 0) ⟨#[], #[.slice none 0 0, .slice none 0 0, .slice none 0 0], []⟩).memory Tryz.f4.params.toList Rows.liveCalmSpec.vars false #[Value.slice none 0 0, .slice none 0 0, .slice none 0 0].toList 8 = some ([.nil, .nil, .nil], [], places) :=
 ⟨[], by kernel_rfl⟩
set_option maxRecDepth 100000 in
theorem lifted (os : Os) (started : os.Started) (H : Type) (enc : TypeId × Value → H) (F : Stop.Interp) :
  ReturnsInHanded {} Tryz.checked os 4 .any ((Rows.OpenSpec.upto Rows.liveCalmSpec).preRow enc Tryz.prog Tryz.f4 Rows.liveCalmUptoRow.domain false Rows.liveCalmUptoRow.laid) (((Rows.OpenSpec.upto Rows.liveCalmSpec).at F).post enc Tryz.prog Tryz.f4 false true false false) := by
 obtain ⟨places, hx⟩ := reads os enc
 refine returnsInHanded_of_row (C := Tryz.checked) (s := Rows.OpenSpec.upto Rows.liveCalmSpec) own started (by kernel_rfl) Tryz.func4
  (witness_row_at (enc := enc) (C := Tryz.checked) false (laidWorld os) #[.slice none 0 0, .slice none 0 0, .slice none 0 0] rfl (by kernel_rfl) (by kernel_rfl) (by kernel_rfl)
   (OpenSpec.preRow_of_cond 8 hx (by kernel_rfl) (fun k hk => by cases hk; kernel_rfl) (by kernel_rfl) (laid_met os))) ?_
 intro W base args ds gs before hval hW _ hcond _ hL _ _
 exact contract H enc W base args ds gs before hval hW hL (hcond _ rfl)
theorem said : Rows.LiveCalmUptoSaid :=
 OpenClaim.holds_of_cond 4 Tryz.f4 rfl rfl rfl rfl rfl rfl rfl ⟨rfl, rfl, rfl, rfl, rfl⟩ rfl rfl rfl rfl rfl (by kernel_rfl) Tryz.func4 (by kernel_rfl)
  (of_decide_eq_true (by kernel_rfl)) (by unfold Func.isWrapper; first | (rw [if_pos (by decide +kernel)]; kernel_rfl) | (rw [if_neg (by decide +kernel)]; exact ⟨rfl, rfl⟩))
  (fun os started H enc _ F => by rw [OpenClaim.pre_eq_preRow]; exact lifted os started H enc F)
theorem card : Rows.LiveCalmUptoCardSaid :=
 Claim7.holds_tied_plain_at .later [] _ _ _ _ said (fun _ h => by cases h) (by kernel_rfl) (fun _ h => by cases h) liveCalmUpto_row_tie rfl ⟨rfl, rfl⟩ (by kernel_rfl) rfl (plain "moraine/morainelaw18.LiveCalm" 4 Tryz.f4 _ (by kernel_rfl) Tryz.func4 Tryz.params4 (by kernel_rfl)) (by kernel_rfl)
end Go.Proofs.YtligonpmifolfaaGreatDoor.liveCalm
end
