/- NamesSorts is true at every list of texts whose bulk is at most 1048576 (the row's own bound): names.Sort tells what the document's Sort tells, the list that came in stays as it is, and the answer is new memory. No other condition. -/
import Derived.Test.YtegmdaooinffpacDoorSoFour
import Derived.Test.YtegmdaooinffpacDoorSoSix
import Derived.Test.YtegmdaooinffpacDoorSoFive
import Derived.Test.YtegmdaooinffpacDoorLkThree
import Derived.Test.YtegmdaooinffpacDoorCards
import Derived.Test.YtegmdaooinffpacDoorTie
import Derived.WalkKit
import Derived.ProofKit
import Derived.OpenShut
import Derived.LaidHandle
import Derived.Deep.DeepHandedRow
import Derived.Lib.LaidTab
import Derived.Lib.LaidU8T
set_option linter.all false
namespace Go.Proofs.YtegmdaooinffpacDoor.namesSorts
open Go.ChangeShapes Go.WideShapes Go.ChangeAt Go.RowKit

theorem own : ownKnob Tryd.prog.godebug = none := by kernel_rfl

theorem trod_iface {P : Program} {W : World} {sp : Nat → Bool} {fuel : Nat} {t : TypeId} {ms : Array (String × TypeId)} {l : List Value} {x : DataW Unit × List MemPlace} (hu : P.underlying t = some (.interface ms)) (hl : DataW.trod (H := Unit) (fun _ => ()) P W 0 sp false fuel t l = some x) : ∃ e, l = [e] ∧ isErr e := by
  cases fuel with
  | zero => simp [DataW.trod] at hl
  | succ n =>
    unfold DataW.trod at hl
    rw [hu] at hl
    match l with
    | [.nilIface] => exact ⟨_, rfl, .inl rfl⟩
    | [.iface u v] => exact ⟨_, rfl, .inr ⟨u, v, rfl⟩⟩
    | [] => simp at hl
    | a :: b :: r => simp at hl
    | [a] => cases a <;> first | exact ⟨_, rfl, .inl rfl⟩ | exact ⟨_, rfl, .inr ⟨_, _, rfl⟩⟩ | simp at hl

theorem err_at {W : World} {n : String} {d : DataW Unit} {g : Nat} (hg : Tryd.prog.globalNamed n = some g) (hty : (Tryd.prog.globals[g]?).map (·.type) = some 42) (h : Lib.VarReads Tryd.prog W n d) : ∃ e, W.cell? ⟨g, 0, none⟩ = some e ∧ isErr e := by
  obtain ⟨g', t', cs, fuel, p, hg', ht', hvar, hd⟩ := h
  obtain rfl := Option.some.inj (hg.symm.trans hg')
  obtain rfl := Option.some.inj (hty.symm.trans ht')
  obtain ⟨ms, hu⟩ : ∃ ms, Tryd.prog.underlying 42 = some (.interface ms) := SoGP.env.ty 42 .e .r (by kernel_rfl)
  have hc := World.var?_cell hg hvar 0
  obtain ⟨e, he, hi⟩ := trod_iface hu hd
  refine ⟨e, ?_, hi⟩
  rw [hc, ← Array.getElem?_toList, he]
  rfl

theorem pow_eq : (Rows.laid_internal_strconv_uint64pow10 : DataW Unit) = Lib.tabData .u64 Lib.pow10Tab := by kernel_rfl

theorem tabs {W : World} (h : laidMet Tryd.prog Rows.namesSortsUptoRow.laid W) : Tabs W := by
  have r1 := Lib.laidMet.reads h (.tail _ (.tail _ (.tail _ (.tail _ (.head _)))))
  have r2 := Lib.laidMet.reads h (.tail _ (.tail _ (.tail _ (.head _))))
  have r3 := Lib.laidMet.reads h (.tail _ (.tail _ (.head _)))
  rw [pow_eq] at r3
  refine ⟨err_at (by kernel_rfl) (by kernel_rfl) r1, err_at (by kernel_rfl) (by kernel_rfl) r2, ?_⟩
  obtain ⟨g', t', cs, fuel, p, hg', ht', hvar, hd⟩ := r3
  have hty : (Tryd.prog.globals[2]?).map (·.type) = some 102 := by kernel_rfl
  obtain rfl := Option.some.inj (pow_at.symm.trans hg')
  obtain rfl := Option.some.inj (hty.symm.trans ht')
  unfold Lib.TabIs
  rw [hvar, ← Lib.cells_of_tab (n := 20) (e := 66) (by kernel_rfl) (by kernel_rfl) (by kernel_rfl) (by kernel_rfl) hd]

theorem kwn {W : World} (h : Tabs W) : kw.n ≤ W.heap.size := pow_lt h.2.2

def laidCells (cs : List Value) : Obj → Obj
  | .cells _ t frozen => .cells cs.toArray t frozen
  | o => o
noncomputable def u8s (zs : List Nat) : List Value := zs.map fun z : Nat => Value.int .u8 (z : Int)
noncomputable def laidWorld (os : Os) : World :=
  let w := World.holding Tryd.prog os ⟨#[], #[], []⟩
  { w with heap := ((((((w.heap.push (.cells #[.string ⟨#[118, 97, 108, 117, 101, 32, 111, 117, 116, 32, 111, 102, 32, 114, 97, 110, 103, 101]⟩] 85 (0, 0))).push (.cells #[.string ⟨#[105, 110, 118, 97, 108, 105, 100, 32, 115, 121, 110, 116, 97, 120]⟩] 85 (0, 0))).modify 1 (laidCells [.iface 83 (.pointer (some ⟨w.heap.size, 0, none⟩))])).modify 0 (laidCells [.iface 83 (.pointer (some ⟨w.heap.size + 1, 0, none⟩))])).modify 2 (laidCells (Lib.pow10Tab.map fun z => Value.int .u64 z))).modify 4 (laidCells (u8s [0, 1, 28, 2, 29, 14, 24, 3, 30, 22, 20, 15, 25, 17, 4, 8, 31, 27, 13, 23, 21, 19, 16, 7, 26, 12, 18, 6, 11, 5, 10, 9]))).modify 5 (laidCells (u8s [0, 1, 56, 2, 57, 49, 28, 3, 61, 58, 42, 50, 38, 29, 17, 4, 62, 47, 59, 36, 45, 43, 51, 22, 53, 39, 33, 30, 24, 18, 12, 5, 63, 55, 48, 27, 60, 41, 37, 16, 46, 35, 44, 21, 52, 32, 23, 11, 54, 26, 40, 15, 34, 20, 31, 10, 25, 14, 19, 9, 13, 8, 7, 6])) }

theorem plain (name : String) (g : FuncId) (fg : Func) (ts : Array TypeId) (hn : Tryd.prog.funcNamed name = some g) (hg : Tryd.prog.funcs[g]? = some fg) (hp : fg.params = ts) (hs : ts.all (fun t => !Tryd.prog.wantsStandIn t) = true) (f : FuncId) (fn : Func) (hf : Tryd.pinned.checked.prog.funcNamed name = some f) (hfn : Tryd.pinned.checked.prog.funcs[f]? = some fn) :
    true = Tryd.pinned.checked.prog.looks [] ∧ ∀ (j : Nat) t, fn.params[j]? = some t → Tryd.pinned.checked.prog.wantsStandIn t = false := by
  obtain rfl : f = g := (Option.some.inj (hn.symm.trans hf)).symm
  obtain rfl : fn = fg := (Option.some.inj (hg.symm.trans hfn)).symm
  refine ⟨by kernel_rfl, fun j t ht => ?_⟩
  rw [hp] at ht
  have hm := Array.mem_of_getElem? ht
  rw [Array.all_eq_true_iff_forall_mem] at hs
  have h1 := hs t hm
  have h2 : (!Tryd.prog.wantsStandIn t) = true := h1
  exact (by simpa using h2 : Tryd.prog.wantsStandIn t = false)

theorem bulk_texts {H : Type} : ∀ (x : List (List UInt8)) (es : List (DataW H)), Lk.All2 (Lk.Told .s) x es → x.length ≤ Rows.uptoBulkAll es ∧ ∀ y ∈ x, List.length (α := UInt8) y ≤ Rows.uptoBulkAll es
  | [], [], _ => ⟨Nat.le_refl _, by simp⟩
  | a :: x, e :: es, h => by
    obtain ⟨h1, h2⟩ := h
    have h1' : e = .lit (.string a) := h1
    subst h1'
    obtain ⟨g1, g2⟩ := bulk_texts x es h2
    simp only [List.length_cons, Rows.uptoBulkAll, Rows.uptoBulk]
    refine ⟨by omega, fun y hy => ?_⟩
    rcases List.mem_cons.1 hy with rfl | hy
    · omega
    · have := g2 y hy; omega
  | [], _ :: _, h => h.elim
  | _ :: _, [], h => h.elim

theorem bulk_texts_of {H : Type} {x : List (List UInt8)} {d : DataW H} (h : Lk.Told (.l .s) x d) : x.length ≤ Rows.uptoBulk d ∧ ∀ y ∈ x, List.length (α := UInt8) y ≤ Rows.uptoBulk d := by
  rcases h with ⟨h, rfl⟩ | ⟨es, rest, rfl, h⟩
  · rw [h]; exact ⟨Nat.zero_le _, by simp⟩
  · obtain ⟨g1, g2⟩ := bulk_texts x es h
    simp only [Rows.uptoBulk]
    exact ⟨by omega, fun y hy => by have := g2 y hy; omega⟩

set_option maxRecDepth 100000 in
theorem contract (H : Type) (enc : TypeId × Value → H) (W : World) (base : Nat) (args : Array Value) (ds gs : List (DataW H)) (before : List MemPlace)
    (hval : ∀ (j : Nat) t v, Tryd.f3.params[j]? = some t → args[j]? = some v → Value.okWide Tryd.prog W .any base t v)
    (hW : DataW.Whole enc Tryd.prog Tryd.f3.params.toList Rows.namesSortsSpec.vars false W args.toList ds gs before) (hL : laidMetH Tryd.prog Rows.namesSortsUptoRow.laid W) (hk : Rows.uptoSmall H (ds ++ gs) = true) :
    Calls Tryd.prog 3 args W fun e W' => ∃ v, e = .returned v ∧ Rows.namesSortsSpec.post enc Tryd.prog Tryd.f3 false true false false W args v W' := by
  have hT : Tabs W := tabs hL
  have d22 : Lk.Desc Tryd.prog 22 (.l .s) := Lk.descB_ok _ _ (by kernel_rfl)
  have hfit : Lk.Fits Tryd.prog [(.l .s, .b)] Tryd.f3.params.toList := by
    rw [Tryd.params3]
    exact ⟨d22, by kernel_rfl, rfl, .inl rfl, rfl, trivial⟩
  have hds : ∃ d1 : DataW H, ds = [d1] ∧ gs = [] := by
    obtain ⟨p, q, hA, hV, _, _, _⟩ := hW
    obtain ⟨rfl, rfl⟩ := trodVars_none hV
    rw [Tryd.params3] at hA
    obtain ⟨v0, vs0, d0, ds0, p0, q0, _, rfl, _, _, r0⟩ := trodAll_cons hA
    obtain ⟨_, rfl, _⟩ := trodAll_nil r0
    exact ⟨d0, rfl, rfl⟩
  obtain ⟨d1, rfl, rfl⟩ := hds
  have hsz : Rows.uptoBulkAll [d1] ≤ 1048576 := of_decide_eq_true hk
  simp only [Rows.uptoBulkAll] at hsz
  refine (Lk.law_calls_rng (τ := ax) (fn := Tryd.f3) (Kw := kw) hT (kwn hT) hW hval hfit (fun x hr hx _ => ?_)).mono fun e W' ⟨he, hb⟩ => ⟨_, he, ?_⟩
  · obtain ⟨_, _, e1, t1, _⟩ := hx
    cases e1
    obtain ⟨b1, b2⟩ := bulk_texts_of t1
    refine ⟨Lk.F SoG.G 10000000 3, Lk.F_ok SoGP.prg SoGP.res _ 3, ?_⟩
    have h11 : ∀ j s, 30 ≤ j → s.length ≤ 1048576 → SoG.theFnsO.f11 j s = some (Nq.parseA s) := fun j s hj hs => Nq.f27_ok So.theFnsP s (by omega) j hj
    have h26 : ∀ j s, 1048700 ≤ j → s.length ≤ 1048576 → SoG.theFnsO.f26 j s = some (Nq.parseA s) := fun j s hj hs => by
      rw [Nq.parse_same]
      exact Nq.f28_ok So.theFnsN s (by omega) j (by omega)
    have := So.law_ok SoG.theFnsO h11 h26 x.1 (by have b1' : List.length x.1 ≤ Rows.uptoBulk d1 := b1; omega) (fun y hy => by have := b2 y hy; omega)
    have e : SoG.theFnsO.f3 10000000 x.1 = SoG.f3 10000000 x.1 := rfl
    rw [e] at this
    unfold SoG.f3 at this
    exact this
  · refine Lk.post_law hW (by kernel_rfl) ?_ rfl rfl (R := 4) rfl Tryd.underlying4 hb
    intro t ht
    rw [Tryd.params3] at ht
    simp only [List.mem_cons, List.not_mem_nil, or_false] at ht
    rcases ht with rfl
    exact ⟨by kernel_rfl, by decide +kernel⟩

theorem laid_met (os : Os) : laidMet Tryd.prog Rows.namesSortsUptoRow.laid ((laidWorld os).forCall (fun _ _ => 0) ⟨#[], #[.slice none 0 0], []⟩).memory :=
  laidMet_of_run' 8 (by kernel_rfl) (by kernel_rfl)
theorem reads (os : Os) {H : Type} (enc : TypeId × Value → H) : ∃ places, DataW.whole enc Tryd.prog ((laidWorld os).forCall (fun _ _ => 0) ⟨#[], #[.slice none 0 0], []⟩).memory Tryd.f3.params.toList Rows.namesSortsSpec.vars false #[Value.slice none 0 0].toList 8 = some ([.nil], [], places) :=
  ⟨[], by kernel_rfl⟩

set_option maxRecDepth 100000 in
theorem lifted (os : Os) (started : os.Started) (H : Type) (enc : TypeId × Value → H) (F : Stop.Interp) :
    ReturnsInHanded {} Tryd.checked os 3 .any ((Rows.OpenSpec.upto Rows.namesSortsSpec).preRow enc Tryd.prog Tryd.f3 Rows.namesSortsUptoRow.domain false Rows.namesSortsUptoRow.laid) (((Rows.OpenSpec.upto Rows.namesSortsSpec).at F).post enc Tryd.prog Tryd.f3 false true false false) := by
  obtain ⟨places, hx⟩ := reads os enc
  refine returnsInHanded_of_row (C := Tryd.checked) (s := Rows.OpenSpec.upto Rows.namesSortsSpec) own started (by kernel_rfl) Tryd.func3
    (witness_row_at (enc := enc) (C := Tryd.checked) false (laidWorld os) #[.slice none 0 0] rfl (by kernel_rfl) (by kernel_rfl) (by kernel_rfl)
      (OpenSpec.preRow_of_cond 8 hx (by kernel_rfl) (fun k hk => by cases hk; kernel_rfl) (by kernel_rfl) (laid_met os))) ?_
  intro W base args ds gs before hval hW _ hcond _ hL _ _
  exact contract H enc W base args ds gs before hval hW hL (hcond _ rfl)

theorem said : Rows.NamesSortsUptoSaid :=
  OpenClaim.holds_of_cond 3 Tryd.f3 rfl rfl rfl rfl rfl rfl rfl ⟨rfl, rfl, rfl, rfl, rfl⟩ rfl rfl rfl rfl rfl (by kernel_rfl) Tryd.func3 (by kernel_rfl)
    (of_decide_eq_true (by kernel_rfl)) (by unfold Func.isWrapper; first | (rw [if_pos (by decide +kernel)]; kernel_rfl) | (rw [if_neg (by decide +kernel)]; exact ⟨rfl, rfl⟩))
    (fun os started H enc _ F => by rw [OpenClaim.pre_eq_preRow]; exact lifted os started H enc F)

theorem card : Rows.NamesSortsUptoCardSaid :=
  Claim7.holds_tied_plain_at .later [] _ _ _ _ said (fun _ h => by cases h) (by kernel_rfl) (fun _ h => by cases h) namesSortsUpto_row_tie rfl ⟨rfl, rfl⟩ (by kernel_rfl) rfl (plain "moraine/morainelaw06.NamesSorts" 3 Tryd.f3 _ (by kernel_rfl) Tryd.func3 Tryd.params3 (by kernel_rfl)) (by kernel_rfl)
end Go.Proofs.YtegmdaooinffpacDoor.namesSorts

