import Derived.Test.YthfhbbhacaejoaaDoorScFive
import Derived.Test.YthfhbbhacaejoaaDoorScSix
import Derived.Test.YthfhbbhacaejoaaDoorLkThree
import Derived.Test.YthfhbbhacaejoaaDoorCards
import Derived.Test.YthfhbbhacaejoaaDoorTie
import Derived.WalkKit
import Derived.ProofKit
import Derived.OpenShut
import Derived.LaidHandle
import Derived.Deep.DeepHandedRow
import Derived.Lib.LaidTab
import Derived.Lib.LaidU8T
set_option linter.all false
namespace Go.Proofs.YthfhbbhacaejoaaDoor.scriptWords
open Go.ChangeShapes Go.WideShapes Go.ChangeAt Go.RowKit
open Go.ChangeMaps (open_string shut_string)

theorem own : ownKnob Tryd.prog.godebug = none := by kernel_rfl

theorem u8types : U8Types Tryd.prog Tryd.lays197_ren := U8Types.of260 { Tryd.lays197 with }
theorem u8extra : U8Extra Tryd.prog Tryd.lays197_ren := ⟨by kernel_rfl, by kernel_rfl, by kernel_rfl, by kernel_rfl, by kernel_rfl, by kernel_rfl, by kernel_rfl⟩
theorem first_eq : Rows.laid_unicode_utf8_first = Lib.firstData := by kernel_rfl
theorem accept_eq : (Rows.laid_unicode_utf8_acceptRanges : DataW Unit) = Lib.acceptData := by kernel_rfl

theorem et : Tryd.prog.globalNamed "errors.errorType" = some 0 := by kernel_rfl
theorem rt : (Tryd.prog.cutTypes.find? (·.1 == "internal/reflectlite.rtype")).map (·.2) = some 113 := by kernel_rfl
theorem oneRow : ((List.range 174).filter fun t => Tryd.prog.rowNamed t [101, 114, 114, 111, 114]) = [55] := by kernel_rfl
theorem size : Tryd.prog.types.size = 174 := by kernel_rfl

theorem tabs {W : World} (h : laidMetH Tryd.prog Rows.scriptWordsUptoRow.laid W) (hsh : W.ShapedOpen Tryd.prog) : Tabs W := by
  have h' : laidMet Tryd.prog [("unicode/utf8.acceptRanges", Rows.laid_unicode_utf8_acceptRanges), ("unicode/utf8.first", Rows.laid_unicode_utf8_first)] W ∧ handlesMet Tryd.prog [("errors.errorType", Rows.laid_errors_errorType)] W := h
  have r1 := Lib.laidMet.reads h'.1 (.tail _ (.head _))
  have r2 := Lib.laidMet.reads h'.1 (.head _)
  rw [first_eq] at r1
  rw [accept_eq] at r2
  refine ⟨utf8Tabs_of_readsT u8types u8extra r1 r2, Tryd.laysM219.s1_3 W hsh, ?_⟩
  obtain ⟨name, u, ty, e1, e2, e3, e4, e5⟩ := h'.2 _ (List.mem_singleton.2 rfl)
  have en : name = [101, 114, 114, 111, 114] := (Option.some.inj e1).symm
  subst en
  obtain rfl := Option.some.inj (rt.symm.trans e2)
  have hm : ty ∈ (List.range 174).filter fun t => Tryd.prog.rowNamed t [101, 114, 114, 111, 114] := List.mem_filter.2 ⟨List.mem_range.2 (by rw [← size]; exact e3), e4⟩
  rw [oneRow] at hm
  obtain rfl := List.mem_singleton.1 hm
  have hh : typeHandle Tryd.prog 55 = .pointer (some ⟨4, 55, none⟩) := by kernel_rfl
  rw [hh] at e5
  simpa [errorT] using World.var?_cell et e5 0

theorem kwn {W : World} (h : Tabs W) : kw.n ≤ W.heap.size := by
  obtain ⟨_, ⟨m, h⟩, _⟩ := h
  unfold World.cell? at h
  rcases Nat.lt_or_ge 3 W.heap.size with h' | h'
  · exact h'
  · rw [Array.getElem?_eq_none h'] at h; cases h

theorem short {H : Type} {a b : ByteArray} (hk : Rows.uptoSmall H [.lit (.string a.data.toList), .lit (.string b.data.toList)] = true) : a.size ≤ 1048576 ∧ b.size ≤ 1048576 := by
  have h : Rows.uptoBulkAll [DataW.lit (H := H) (.string a.data.toList), .lit (.string b.data.toList)] ≤ 1048576 := of_decide_eq_true hk
  simp only [Rows.uptoBulkAll, Rows.uptoBulk] at h
  have e1 : a.data.toList.length = a.size := by rw [Array.length_toList]; rfl
  have e2 : b.data.toList.length = b.size := by rw [Array.length_toList]; rfl
  omega

set_option maxRecDepth 100000 in
theorem two {H : Type} {enc : TypeId × Value → H} {W : World} {base : Nat} {f : Func} (hf : f.params = #[9, 9]) {args : Array Value} {ds gs : List (DataW H)} {before : List MemPlace}
    (hval : ∀ (j : Nat) t v, f.params[j]? = some t → args[j]? = some v → Value.okWide Tryd.prog W .any base t v)
    (hW : DataW.Whole enc Tryd.prog f.params.toList [] false W args.toList ds gs before) :
    ∃ a b : ByteArray, args = #[.string a, .string b] ∧ ds = [.lit (.string a.data.toList), .lit (.string b.data.toList)] ∧ gs = [] := by
  obtain ⟨p, q, hA0, hV, rfl, hfz, hnd⟩ := hW
  have hA : DataW.TrodAll enc Tryd.prog W 0 (fun _ => true) true f.params.toList args.toList ds p := hA0
  rw [hf] at hA hval
  obtain ⟨v0, vs0, d0, ds0, p0, q0, hargs, rfl, rfl, h0, r0⟩ := trodAll_cons hA
  obtain ⟨v1, vs1, d1, ds1, p1, q1, rfl, rfl, rfl, h1, r1⟩ := trodAll_cons r0
  obtain ⟨rfl, rfl, rfl⟩ := trodAll_nil r1
  obtain rfl : args = #[v0, v1] := by
    have := congrArg List.toArray hargs
    simpa using this
  obtain ⟨rfl, rfl⟩ := trodVars_none hV
  obtain ⟨a, rfl, rfl, rfl, _⟩ := open_string Tryd.underlying9 (hval 0 9 v0 rfl rfl) h0
  obtain ⟨b, rfl, rfl, rfl, _⟩ := open_string Tryd.underlying9 (hval 1 9 v1 rfl rfl) h1
  exact ⟨a, b, rfl, rfl, rfl⟩

def laidCells (cs : List Value) : Obj → Obj
  | .cells _ t frozen => .cells cs.toArray t frozen
  | o => o
noncomputable def laidWorld (os : Os) : World :=
  { World.holding Tryd.prog os ⟨#[], #[], []⟩ with heap := (((World.holding Tryd.prog os ⟨#[], #[], []⟩).heap.modify 1 (laidCells ((List.range 256).map fun c => Value.int .u8 (Lib.firstT c : Nat)))).modify 2 (laidCells ((List.range 16).flatMap fun i => [Value.int .u8 (Lib.accLo i : Nat), Value.int .u8 (Lib.accHi i : Nat)]))).modify 0 (laidCells [errorT]) }

theorem plain (name : String) (g : FuncId) (fg : Func) (hn : Tryd.prog.funcNamed name = some g) (hg : Tryd.prog.funcs[g]? = some fg) (hp : fg.params = #[9, 9]) (f : FuncId) (fn : Func) (hf : Tryd.pinned.checked.prog.funcNamed name = some f) (hfn : Tryd.pinned.checked.prog.funcs[f]? = some fn) :
    true = Tryd.pinned.checked.prog.looks [] ∧ ∀ (j : Nat) t, fn.params[j]? = some t → Tryd.pinned.checked.prog.wantsStandIn t = false := by
  obtain rfl : f = g := (Option.some.inj (hn.symm.trans hf)).symm
  obtain rfl : fn = fg := (Option.some.inj (hg.symm.trans hfn)).symm
  refine ⟨by kernel_rfl, fun j t ht => ?_⟩
  rw [hp] at ht
  obtain rfl : t = 9 := by
    have := Array.mem_of_getElem? ht
    simpa using this
  exact (show Tryd.prog.wantsStandIn 9 = false by kernel_rfl)

set_option maxRecDepth 100000 in
theorem contract (H : Type) (enc : TypeId × Value → H) (W : World) (base : Nat) (args : Array Value) (ds gs : List (DataW H)) (before : List MemPlace)
    (hval : ∀ (j : Nat) t v, Tryd.f4.params[j]? = some t → args[j]? = some v → Value.okWide Tryd.prog W .any base t v)
    (hW : DataW.Whole enc Tryd.prog Tryd.f4.params.toList Rows.scriptWordsSpec.vars false W args.toList ds gs before) (hL : laidMetH Tryd.prog Rows.scriptWordsUptoRow.laid W) (hsh : W.ShapedOpen Tryd.prog) (hk : Rows.uptoSmall H (ds ++ gs) = true) :
    Calls Tryd.prog 4 args W fun e W' => ∃ v, e = .returned v ∧ Rows.scriptWordsSpec.post enc Tryd.prog Tryd.f4 false true false false W args v W' := by
  obtain ⟨a, b, rfl, rfl, rfl⟩ := two (f := Tryd.f4) Tryd.params4 hval hW
  obtain ⟨ha, hb⟩ := short hk
  have e1 : a.data.toList.length = a.size := by rw [Array.length_toList]; rfl
  have e2 : b.data.toList.length = b.size := by rw [Array.length_toList]; rfl
  have hT : Tabs W := tabs hL hsh
  have hF : Lk.F ScH.G 400000000 4 (a.data.toList, b.data.toList, ()) = some (true, ()) := by
    have h := Sc.lawWords ScH.theFnsH a.data.toList b.data.toList (by omega) (by omega)
    have e : ScH.theFnsH.f4 400000000 a.data.toList b.data.toList = ScH.f4 400000000 a.data.toList b.data.toList := rfl
    rw [e] at h
    unfold ScH.f4 at h
    exact h
  have hc : Calls Tryd.prog 4 #[.string a, .string b] W fun e w' => e = .returned (.bool true) ∧ Below W.heap.size W w' := by
    refine Lk.calls_bool (Fg := Lk.F ScH.G 400000000 4) (Lk.F_ok ScHP.prg ScHP.res 400000000 4) hF (show kw.p W from hT) (kwn hT) (vals := [.string a, .string b]) ⟨_, _, (), rfl, ⟨rfl, ?_⟩, rfl, rfl, _, _, (), rfl, ⟨rfl, ?_⟩, rfl, rfl, rfl⟩
    · show a.data.toList.length ≤ 9223372036854775807; omega
    · show b.data.toList.length ≤ 9223372036854775807; omega
  refine hc.mono fun e W' ⟨he, hb⟩ => ⟨_, he, ?_⟩
  refine Lk.post_law hW (by kernel_rfl) ?_ rfl rfl (R := 4) rfl Tryd.underlying4 hb
  intro t ht
  rw [Tryd.params4] at ht
  simp only [List.mem_cons, List.not_mem_nil, or_false] at ht
  rcases ht with rfl | rfl <;> exact ⟨by kernel_rfl, by decide +kernel⟩

theorem laid_met (os : Os) : laidMetH Tryd.prog Rows.scriptWordsUptoRow.laid ((laidWorld os).forCall (fun _ _ => 0) ⟨#[], #[.string .empty, .string .empty], []⟩).memory :=
  laidMetH_of_parts (laidMet_of_run' 8 (by kernel_rfl) (by kernel_rfl)) (by kernel_rfl)
theorem reads (os : Os) {H : Type} (enc : TypeId × Value → H) : ∃ places, DataW.whole enc Tryd.prog ((laidWorld os).forCall (fun _ _ => 0) ⟨#[], #[.string .empty, .string .empty], []⟩).memory Tryd.f4.params.toList Rows.scriptWordsSpec.vars false #[Value.string .empty, Value.string .empty].toList 8 = some ([.lit (.string []), .lit (.string [])], [], places) :=
  ⟨[], by kernel_rfl⟩

set_option maxRecDepth 100000 in
theorem lifted (os : Os) (started : os.Started) (H : Type) (enc : TypeId × Value → H) (F : Stop.Interp) :
    ReturnsInHanded {} Tryd.checked os 4 .any ((Rows.OpenSpec.upto Rows.scriptWordsSpec).preRow enc Tryd.prog Tryd.f4 Rows.scriptWordsUptoRow.domain false Rows.scriptWordsUptoRow.laid) (((Rows.OpenSpec.upto Rows.scriptWordsSpec).at F).post enc Tryd.prog Tryd.f4 false true false false) := by
  obtain ⟨places, hx⟩ := reads os enc
  refine returnsInHanded_of_row (C := Tryd.checked) (s := Rows.OpenSpec.upto Rows.scriptWordsSpec) own started (by kernel_rfl) Tryd.func4
    (witness_row_at (enc := enc) (C := Tryd.checked) false (laidWorld os) #[.string .empty, .string .empty] rfl (by kernel_rfl) (by kernel_rfl) (by kernel_rfl)
      (OpenSpec.preRow_of_cond 8 hx (by kernel_rfl) (fun k hk => by cases hk; kernel_rfl) (by kernel_rfl) (laid_met os))) ?_
  intro W base args ds gs before hval hW _ hcond _ hL hsh _
  exact contract H enc W base args ds gs before hval hW hL hsh (hcond _ rfl)

theorem said : Rows.ScriptWordsUptoSaid :=
  OpenClaim.holds_of_cond 4 Tryd.f4 rfl rfl rfl rfl rfl rfl rfl ⟨rfl, rfl, rfl, rfl, rfl⟩ rfl rfl rfl rfl rfl (by kernel_rfl) Tryd.func4 (by kernel_rfl)
    (of_decide_eq_true (by kernel_rfl)) (by unfold Func.isWrapper; first | (rw [if_pos (by decide +kernel)]; kernel_rfl) | (rw [if_neg (by decide +kernel)]; exact ⟨rfl, rfl⟩))
    (fun os started H enc _ F => by rw [OpenClaim.pre_eq_preRow]; exact lifted os started H enc F)

theorem card : Rows.ScriptWordsUptoCardSaid :=
  Claim7.holds_tied_plain_at .later [] _ _ _ _ said (fun _ h => by cases h) (by kernel_rfl) (fun _ h => by cases h) scriptWordsUpto_row_tie rfl ⟨rfl, rfl⟩ (by kernel_rfl) rfl (plain "moraine/morainelaw27.ScriptWords" 4 Tryd.f4 (by kernel_rfl) Tryd.func4 Tryd.params4) (by kernel_rfl)
end Go.Proofs.YthfhbbhacaejoaaDoor.scriptWords

