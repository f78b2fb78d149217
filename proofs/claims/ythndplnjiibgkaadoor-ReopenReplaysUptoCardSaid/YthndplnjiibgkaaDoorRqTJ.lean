/- ReopenReplays is true at every block size and every list of logs whose bulk is at most 1048576 (the row's own bound): reopen.Replay tells what the document's Replay tells, its answer is new memory, and the logs that came in stay as they are. No other condition. -/
import Derived.Test.YthndplnjiibgkaaDoorRtNine
import Derived.Test.YthndplnjiibgkaaDoorLkThree
import Derived.Test.YthndplnjiibgkaaDoorCards
import Derived.Test.YthndplnjiibgkaaDoorTie
import Derived.WalkKit
import Derived.ProofKit
import Derived.OpenShut
import Derived.LaidHandle
import Derived.Deep.DeepHandedRow
import Derived.Lib.LaidTab
import Derived.Lib.LaidU8T
set_option linter.all false
section
namespace Go.Proofs.YthndplnjiibgkaaDoor.reopenReplays
open Go.ChangeShapes Go.WideShapes Go.ChangeAt Go.RowKit
theorem own : ownKnob Tryd.prog.godebug = none := by kernel_rfl
theorem tab_eq : (Rows.laid_moraine_check_short : DataW Unit) = Lib.tabData .u32 Rr.shortI := by kernel_rfl
theorem tabs {W : World} (h : laidMet Tryd.prog Rows.reopenReplaysUptoRow.laid W) : Rr.Tab W := by
  have r1 := Lib.laidMet.reads h (.head _)
  rw [tab_eq] at r1
  obtain ⟨g', t', cs, fuel, p, hg', ht', hvar, hd⟩ := r1
  have hty : (Tryd.prog.globals[0]?).map (·.type) = some 96 := by kernel_rfl
  obtain rfl := Option.some.inj (Rr.tab_at.symm.trans hg')
  obtain rfl := Option.some.inj (hty.symm.trans ht')
  unfold Rr.Tab Lib.TabIs
  rw [hvar, ← Lib.cells_of_tab (n := 16) (e := 67) (by kernel_rfl) (by kernel_rfl) (by kernel_rfl) (by kernel_rfl) hd]
theorem kwn {W : World} (h : Rr.Tab W) : Rr.kw.n ≤ W.heap.size := Rr.tab_lt h
def laidCells (cs : List Value) : Obj → Obj
  | .cells _ t frozen => .cells cs.toArray t frozen
  | o => o
noncomputable def laidWorld (os : Os) : World :=
  let w := World.holding Tryd.prog os ⟨#[], #[], []⟩
  { w with heap := w.heap.modify 0 (laidCells (Rr.shortI.map fun z => Value.int .u32 z)) }
theorem plain (name : String) (g : FuncId) (fg : Func) (ts : Array TypeId) (hn : Tryd.prog.funcNamed name = some g) (hg : Tryd.prog.funcs[g]? = some fg) (hp : fg.params = ts) (hs : ts.all (fun t => !Tryd.prog.wantsStandIn t) = true) (f : FuncId) (fn : Func) (hf : Tryd.pinned.checked.prog.funcNamed name = some f) (hfn : Tryd.pinned.checked.prog.funcs[f]? = some fn) :
    false = Tryd.pinned.checked.prog.looks [] ∧ ∀ (j : Nat) t, fn.params[j]? = some t → Tryd.pinned.checked.prog.wantsStandIn t = false := by
  obtain rfl : f = g := (Option.some.inj (hn.symm.trans hf)).symm
  obtain rfl : fn = fg := (Option.some.inj (hg.symm.trans hfn)).symm
  refine ⟨by kernel_rfl, fun j t ht => ?_⟩
  rw [hp] at ht
  have hm := Array.mem_of_getElem? ht
  rw [Array.all_eq_true_iff_forall_mem] at hs
  have h1 := hs t hm
  have h2 : (!Tryd.prog.wantsStandIn t) = true := h1
  exact (by simpa using h2 : Tryd.prog.wantsStandIn t = false)
theorem bulk_texts {H : Type} : ∀ (x : List (List UInt8)) (es : List (DataW H)), Lk.All2 (Lk.Told .s) x es → Rs.tot x ≤ Rows.uptoBulkAll es
  | [], [], _ => Nat.le_refl _
  | a :: x, e :: es, h => by
    obtain ⟨h1, h2⟩ := h
    have h1' : e = .lit (.string a) := h1
    subst h1'
    have g1 := bulk_texts x es h2
    simp only [Rs.tot, Rows.uptoBulkAll, Rows.uptoBulk]
    omega
  | [], _ :: _, h => h.elim
  | _ :: _, [], h => h.elim
theorem bulk_texts_of {H : Type} {x : List (List UInt8)} {d : DataW H} (h : Lk.Told (.l .s) x d) : Rs.tot x ≤ Rows.uptoBulk d := by
  rcases h with ⟨h, rfl⟩ | ⟨es, rest, rfl, h⟩
  · rw [h]; exact Nat.zero_le _
  · have g1 := bulk_texts x es h
    simp only [Rows.uptoBulk]
    omega
theorem f9_any (m : Nat) (B : Int) (h : 1 ≤ m) : RqG.theFnsL.f9 m B = some (decide (32 ≤ B) && decide (B ≤ 32768), ()) := by
  show RqG.theFnsK.f9 m B = _
  obtain ⟨m, rfl⟩ : ∃ t, m = t + 1 := ⟨m - 1, by omega⟩
  rw [RqG.theFnsK.f9_eq, Lk.sel_dec]
  by_cases h : 32 ≤ B
  · rw [if_pos (by omega), decide_eq_true h, Bool.true_and]
  · rw [if_neg (by omega), decide_eq_false h, Bool.false_and]
theorem f4_any (m : Nat) (B : Int) (l : List (List UInt8)) (hm : 2400000 ≤ m) (hl : Rs.tot l ≤ 1048576) : RqG.theFnsL.f4 m B l = some ((Rs.repP B l).1, (Rs.repP B l).2, ()) := by
  show RqG.f4 m B l = _
  unfold RqG.f4
  show (bif Rr.isBlk B then (Rr.outer m B l []).map (fun r => (r.1, r.2, ())) else some ([], false, ())) = _
  unfold Rs.repP Rr.isBlk
  cases hb : (decide (32 ≤ B) && decide (B ≤ 32768)) with
  | false => rfl
  | true =>
    obtain ⟨b1, b2⟩ : 32 ≤ B ∧ B ≤ 32768 := by simpa using hb
    obtain ⟨b, rfl⟩ : ∃ b : Nat, B = (b : Int) := ⟨B.toNat, by omega⟩
    rw [cond_true, if_pos rfl, Int.toNat_natCast, Rs.outer_ok m b (by omega) (by omega) l [] (by rw [List.length_nil]; omega)]
    rfl
theorem law (B : Int) (l : List (List UInt8)) (hl : Rs.tot l ≤ 1048576) : RqG.theFnsL.f3 10000000 B l = some (true, ()) :=
  Rs.law_ok RqG.theFnsL 10000000 (by omega) B l hl f4_any f9_any
    (fun m B f hB hf hm => Rs.f10 RqG.theFnsK m B f hB hf (by omega))
    (fun m b hb hm => Rs.f11 RqG.theFnsC b hb m hm)
set_option maxRecDepth 100000 in
theorem contract (H : Type) (enc : TypeId × Value → H) (W : World) (base : Nat) (args : Array Value) (ds gs : List (DataW H)) (before : List MemPlace)
    (hval : ∀ (j : Nat) t v, Tryd.f3.params[j]? = some t → args[j]? = some v → Value.okWide Tryd.prog W .any base t v)
    (hW : DataW.Whole enc Tryd.prog Tryd.f3.params.toList Rows.reopenReplaysSpec.vars false W args.toList ds gs before) (hL : laidMetH Tryd.prog Rows.reopenReplaysUptoRow.laid W) (hk : Rows.uptoSmall H (ds ++ gs) = true) :
    Calls Tryd.prog 3 args W fun e W' => ∃ v, e = .returned v ∧ Rows.reopenReplaysSpec.post enc Tryd.prog Tryd.f3 false true false false W args v W' := by
  have hT : Rr.Tab W := tabs hL
  have d3 : Lk.Desc Tryd.prog 3 (.i .i64) := Lk.descB_ok _ _ (by kernel_rfl)
  have d22 : Lk.Desc Tryd.prog 22 (.l .s) := Lk.descB_ok _ _ (by kernel_rfl)
  have hfit : Lk.Fits Tryd.prog [(.i .i64, .r), (.l .s, .b)] Tryd.f3.params.toList := by
    rw [Tryd.params3]
    exact ⟨d3, by kernel_rfl, rfl, .inr rfl, rfl, d22, by kernel_rfl, rfl, .inl rfl, rfl, trivial⟩
  have hds : ∃ d1 d2 : DataW H, ds = [d1, d2] ∧ gs = [] := by
    obtain ⟨p, q, hA, hV, _, _, _⟩ := hW
    obtain ⟨rfl, rfl⟩ := trodVars_none hV
    rw [Tryd.params3] at hA
    obtain ⟨v0, vs0, d0, ds0, p0, q0, _, rfl, _, _, r0⟩ := trodAll_cons hA
    obtain ⟨v1, vs1, d1, ds1, p1, q1, _, rfl, _, _, r1⟩ := trodAll_cons r0
    obtain ⟨_, rfl, _⟩ := trodAll_nil r1
    exact ⟨d0, d1, rfl, rfl⟩
  obtain ⟨d1, d2, rfl, rfl⟩ := hds
  have hsz : Rows.uptoBulkAll [d1, d2] ≤ 1048576 := of_decide_eq_true hk
  simp only [Rows.uptoBulkAll] at hsz
  refine (Lk.law_calls_rng (τ := Rr.t0) (fn := Tryd.f3) (Kw := Rr.kw) hT (kwn hT) hW hval hfit (fun x hr hx _ => ?_)).mono fun e W' ⟨he, hb⟩ => ⟨_, he, ?_⟩
  · obtain ⟨_, _, e1, t1, _, _, e2, t2, _⟩ := hx
    cases e1
    cases e2
    have b1 := bulk_texts_of t2
    refine ⟨Lk.F RqG.G 10000000 3, Lk.F_ok Rq.GP.prg Rq.GP.res _ 3, ?_⟩
    have := law x.1 x.2.1 (by have b1' : Rs.tot x.2.1 ≤ Rows.uptoBulk d2 := b1; omega)
    have e : RqG.theFnsL.f3 10000000 x.1 x.2.1 = RqG.f3 10000000 x.1 x.2.1 := rfl
    rw [e] at this
    unfold RqG.f3 at this
    exact this
  · refine Lk.post_law hW (by kernel_rfl) ?_ rfl rfl (R := 4) rfl Tryd.underlying4 hb
    intro t ht
    rw [Tryd.params3] at ht
    simp only [List.mem_cons, List.not_mem_nil, or_false] at ht
    rcases ht with rfl | rfl
    · exact ⟨by kernel_rfl, by decide +kernel⟩
    · exact ⟨by kernel_rfl, by decide +kernel⟩
theorem laid_met (os : Os) : laidMet Tryd.prog Rows.reopenReplaysUptoRow.laid ((laidWorld os).forCall (fun _ _ => 0) ⟨#[], #[.int .i64 0, .slice none 0 0], []⟩).memory :=
  laidMet_of_run' 8 (by kernel_rfl) (by kernel_rfl)
theorem reads (os : Os) {H : Type} (enc : TypeId × Value → H) : ∃ places, DataW.whole enc Tryd.prog ((laidWorld os).forCall (fun _ _ => 0) ⟨#[], #[.int .i64 0, .slice none 0 0], []⟩).memory Tryd.f3.params.toList Rows.reopenReplaysSpec.vars false #[Value.int .i64 0, Value.slice none 0 0].toList 8 = some ([.lit (.int .i64 0), .nil], [], places) :=
  ⟨[], by kernel_rfl⟩
set_option maxRecDepth 100000 in
theorem lifted (os : Os) (started : os.Started) (H : Type) (enc : TypeId × Value → H) (F : Stop.Interp) :
    ReturnsInHanded {} Tryd.checked os 3 .any ((Rows.OpenSpec.upto Rows.reopenReplaysSpec).preRow enc Tryd.prog Tryd.f3 Rows.reopenReplaysUptoRow.domain false Rows.reopenReplaysUptoRow.laid) (((Rows.OpenSpec.upto Rows.reopenReplaysSpec).at F).post enc Tryd.prog Tryd.f3 false true false false) := by
  obtain ⟨places, hx⟩ := reads os enc
  refine returnsInHanded_of_row (C := Tryd.checked) (s := Rows.OpenSpec.upto Rows.reopenReplaysSpec) own started (by kernel_rfl) Tryd.func3
    (witness_row_at (enc := enc) (C := Tryd.checked) false (laidWorld os) #[.int .i64 0, .slice none 0 0] rfl (by kernel_rfl) (by kernel_rfl) (by kernel_rfl)
      (OpenSpec.preRow_of_cond 8 hx (by kernel_rfl) (fun k hk => by cases hk; kernel_rfl) (by kernel_rfl) (laid_met os))) ?_
  intro W base args ds gs before hval hW _ hcond _ hL _ _
  exact contract H enc W base args ds gs before hval hW hL (hcond _ rfl)
theorem said : Rows.ReopenReplaysUptoSaid :=
  OpenClaim.holds_of_cond 3 Tryd.f3 rfl rfl rfl rfl rfl rfl rfl ⟨rfl, rfl, rfl, rfl, rfl⟩ rfl rfl rfl rfl rfl (by kernel_rfl) Tryd.func3 (by kernel_rfl)
    (of_decide_eq_true (by kernel_rfl)) (by unfold Func.isWrapper; first | (rw [if_pos (by decide +kernel)]; kernel_rfl) | (rw [if_neg (by decide +kernel)]; exact ⟨rfl, rfl⟩))
    (fun os started H enc _ F => by rw [OpenClaim.pre_eq_preRow]; exact lifted os started H enc F)
theorem card : Rows.ReopenReplaysUptoCardSaid :=
  Claim7.holds_tied_plain_at .later [] _ _ _ _ said (fun _ h => by cases h) (by kernel_rfl) (fun _ h => by cases h) reopenReplaysUpto_row_tie rfl ⟨rfl, rfl⟩ (by kernel_rfl) rfl (plain "moraine/morainelaw24.ReopenReplays" 3 Tryd.f3 _ (by kernel_rfl) Tryd.func3 Tryd.params3 (by kernel_rfl)) (by kernel_rfl)
end Go.Proofs.YthndplnjiibgkaaDoor.reopenReplays
end
