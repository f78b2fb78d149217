/- ScriptParses is true at every text whose bytes are at most 1048576 (the row's own bound): script.Parse and the document's Parse give the same lines, or the same first line that is none, and each answer is new memory. No other condition. -/
import Derived.Test.YthfhbbhacaejoaaDoorScFive
import Derived.Test.YthfhbbhacaejoaaDoorScSeven
import Derived.Test.YthfhbbhacaejoaaDoorLkThree
import Derived.Test.YthfhbbhacaejoaaDoorCards
import Derived.Test.YthfhbbhacaejoaaDoorTie
import Derived.WalkKit
import Derived.ProofKit
import Derived.OpenShut
import Derived.LaidHandle
import Derived.Deep.DeepHandedRow
import Derived.Lib.LaidTab
import Derived.Lib.LaidU8T
set_option linter.all false
namespace Go.Proofs.YthfhbbhacaejoaaDoor.scriptParses
open Go.ChangeShapes Go.WideShapes Go.ChangeAt Go.RowKit
open Go.ChangeMaps (open_string shut_string)

theorem own : ownKnob Tryd.prog.godebug = none := by kernel_rfl

theorem u8types : U8Types Tryd.prog Tryd.lays197_ren := U8Types.of260 { Tryd.lays197 with }
theorem u8extra : U8Extra Tryd.prog Tryd.lays197_ren := ⟨by kernel_rfl, by kernel_rfl, by kernel_rfl, by kernel_rfl, by kernel_rfl, by kernel_rfl, by kernel_rfl⟩
theorem first_eq : Rows.laid_unicode_utf8_first = Lib.firstData := by kernel_rfl
theorem accept_eq : (Rows.laid_unicode_utf8_acceptRanges : DataW Unit) = Lib.acceptData := by kernel_rfl

theorem et : Tryd.prog.globalNamed "errors.errorType" = some 0 := by kernel_rfl
theorem rt : (Tryd.prog.cutTypes.find? (·.1 == "internal/reflectlite.rtype")).map (·.2) = some 113 := by kernel_rfl
theorem oneRow : ((List.range 174).filter fun t => Tryd.prog.rowNamed t [101, 114, 114, 111, 114]) = [55] := by kernel_rfl
theorem size : Tryd.prog.types.size = 174 := by kernel_rfl

theorem tabs {W : World} (h : laidMetH Tryd.prog Rows.scriptParsesUptoRow.laid W) (hsh : W.ShapedOpen Tryd.prog) : Tabs W := by
  have h' : laidMet Tryd.prog [("unicode/utf8.acceptRanges", Rows.laid_unicode_utf8_acceptRanges), ("unicode/utf8.first", Rows.laid_unicode_utf8_first)] W ∧ handlesMet Tryd.prog [("errors.errorType", Rows.laid_errors_errorType)] W := h
  have r1 := Lib.laidMet.reads h'.1 (.tail _ (.head _))
  have r2 := Lib.laidMet.reads h'.1 (.head _)
  rw [first_eq] at r1
  rw [accept_eq] at r2
  refine ⟨utf8Tabs_of_readsT u8types u8extra r1 r2, Tryd.laysM219.s1_3 W hsh, ?_⟩
  obtain ⟨name, u, ty, e1, e2, e3, e4, e5⟩ := h'.2 _ (List.mem_singleton.2 rfl)
  have en : name = [101, 114, 114, 111, 114] := (Option.some.inj e1).symm
  subst en
  obtain rfl := Option.some.inj (rt.symm.trans e2)
  have hm : ty ∈ (List.range 174).filter fun t => Tryd.prog.rowNamed t [101, 114, 114, 111, 114] := List.mem_filter.2 ⟨List.mem_range.2 (by rw [← size]; exact e3), e4⟩
  rw [oneRow] at hm
  obtain rfl := List.mem_singleton.1 hm
  have hh : typeHandle Tryd.prog 55 = .pointer (some ⟨4, 55, none⟩) := by kernel_rfl
  rw [hh] at e5
  simpa [errorT] using World.var?_cell et e5 0

theorem kwn {W : World} (h : Tabs W) : kw.n ≤ W.heap.size := by
  obtain ⟨_, ⟨m, h⟩, _⟩ := h
  unfold World.cell? at h
  rcases Nat.lt_or_ge 3 W.heap.size with h' | h'
  · exact h'
  · rw [Array.getElem?_eq_none h'] at h; cases h

theorem short {H : Type} {a : ByteArray} (hk : Rows.uptoSmall H [.lit (.string a.data.toList)] = true) : a.size ≤ 1048576 := by
  have h : Rows.uptoBulkAll [DataW.lit (H := H) (.string a.data.toList)] ≤ 1048576 := of_decide_eq_true hk
  simp only [Rows.uptoBulkAll, Rows.uptoBulk] at h
  have e1 : a.data.toList.length = a.size := by rw [Array.length_toList]; rfl
  omega

set_option maxRecDepth 100000 in
theorem one {H : Type} {enc : TypeId × Value → H} {W : World} {base : Nat} {f : Func} (hf : f.params = #[9]) {args : Array Value} {ds gs : List (DataW H)} {before : List MemPlace}
    (hval : ∀ (j : Nat) t v, f.params[j]? = some t → args[j]? = some v → Value.okWide Tryd.prog W .any base t v)
    (hW : DataW.Whole enc Tryd.prog f.params.toList [] false W args.toList ds gs before) :
    ∃ a : ByteArray, args = #[.string a] ∧ ds = [.lit (.string a.data.toList)] ∧ gs = [] := by
  obtain ⟨p, q, hA0, hV, rfl, hfz, hnd⟩ := hW
  have hA : DataW.TrodAll enc Tryd.prog W 0 (fun _ => true) true f.params.toList args.toList ds p := hA0
  rw [hf] at hA hval
  obtain ⟨v0, vs0, d0, ds0, p0, q0, hargs, rfl, rfl, h0, r0⟩ := trodAll_cons hA
  obtain ⟨rfl, rfl, rfl⟩ := trodAll_nil r0
  obtain rfl : args = #[v0] := by
    have := congrArg List.toArray hargs
    simpa using this
  obtain ⟨rfl, rfl⟩ := trodVars_none hV
  obtain ⟨a, rfl, rfl, rfl, _⟩ := open_string Tryd.underlying9 (hval 0 9 v0 rfl rfl) h0
  exact ⟨a, rfl, rfl, rfl⟩

def laidCells (cs : List Value) : Obj → Obj
  | .cells _ t frozen => .cells cs.toArray t frozen
  | o => o
noncomputable def laidWorld (os : Os) : World :=
  { World.holding Tryd.prog os ⟨#[], #[], []⟩ with heap := (((World.holding Tryd.prog os ⟨#[], #[], []⟩).heap.modify 1 (laidCells ((List.range 256).map fun c => Value.int .u8 (Lib.firstT c : Nat)))).modify 2 (laidCells ((List.range 16).flatMap fun i => [Value.int .u8 (Lib.accLo i : Nat), Value.int .u8 (Lib.accHi i : Nat)]))).modify 0 (laidCells [errorT]) }

theorem plain (name : String) (g : FuncId) (fg : Func) (hn : Tryd.prog.funcNamed name = some g) (hg : Tryd.prog.funcs[g]? = some fg) (hp : fg.params = #[9]) (f : FuncId) (fn : Func) (hf : Tryd.pinned.checked.prog.funcNamed name = some f) (hfn : Tryd.pinned.checked.prog.funcs[f]? = some fn) :
    true = Tryd.pinned.checked.prog.looks [] ∧ ∀ (j : Nat) t, fn.params[j]? = some t → Tryd.pinned.checked.prog.wantsStandIn t = false := by
  obtain rfl : f = g := (Option.some.inj (hn.symm.trans hf)).symm
  obtain rfl : fn = fg := (Option.some.inj (hg.symm.trans hfn)).symm
  refine ⟨by kernel_rfl, fun j t ht => ?_⟩
  rw [hp] at ht
  obtain rfl : t = 9 := by
    have := Array.mem_of_getElem? ht
    simpa using this
  exact (show Tryd.prog.wantsStandIn 9 = false by kernel_rfl)

theorem parse5_of {n : Nat} {t : List UInt8} {xs : List Sc.ItT} {p q : Int} (h : ScG.f10 n t = some (xs.map Sc.toP, p, q, ())) (hl : xs.length ≤ 1048577) : parse5 n t = some ((xs.map Sc.toP).map (fun y => y.1), p, q, ()) := by
  have e : parseF n t = some (xs.map Sc.toP, p, q, ()) := by
    unfold ScG.f10 at h
    exact h
  unfold parse5
  rw [e]
  have hb : Nat.blt (List.length (xs.map Sc.toP)) 1073741824 = true := by rw [Nat.blt_eq, List.length_map]; omega
  show (bif Nat.blt (List.length (xs.map Sc.toP)) 1073741824 then some (List.map (fun y => y.1) (xs.map Sc.toP), p, q, ()) else none) = _
  rw [hb]; rfl

set_option maxRecDepth 100000 in
theorem contract (H : Type) (enc : TypeId × Value → H) (W : World) (base : Nat) (args : Array Value) (ds gs : List (DataW H)) (before : List MemPlace)
    (hval : ∀ (j : Nat) t v, Tryd.f3.params[j]? = some t → args[j]? = some v → Value.okWide Tryd.prog W .any base t v)
    (hW : DataW.Whole enc Tryd.prog Tryd.f3.params.toList Rows.scriptParsesSpec.vars false W args.toList ds gs before) (hL : laidMetH Tryd.prog Rows.scriptParsesUptoRow.laid W) (hsh : W.ShapedOpen Tryd.prog) (hk : Rows.uptoSmall H (ds ++ gs) = true) :
    Calls Tryd.prog 3 args W fun e W' => ∃ v, e = .returned v ∧ Rows.scriptParsesSpec.post enc Tryd.prog Tryd.f3 false true false false W args v W' := by
  obtain ⟨a, rfl, rfl, rfl⟩ := one (f := Tryd.f3) Tryd.params3 hval hW
  have ha := short hk
  have hT : Tabs W := tabs hL hsh
  obtain ⟨xs, p, q, h10, h6, hlen, hrows⟩ := Sc.parse_same a.data.toList
  have hF6 : Lk.F ScG.G 30000000 6 (a.data.toList, ()) = some (xs.map Sc.toR, p, q, ()) := by
    unfold ScG.f6 at h6
    exact h6
  have hF7 : Lk.F ScG.G 1 7 () = some (true, ()) := by
    have h := ScG.f7_eq 0
    unfold ScG.f7 at h
    exact h
  have hc : Calls Tryd.prog 3 #[.string a] W fun e w' => e = .returned (.bool true) ∧ Below W.heap.size W w' :=
    law_walk 30000000 30000000 1 a (by show a.size ≤ 9223372036854775807; omega) W hT (kwn hT) ((xs.map Sc.toP).map (fun y => y.1)) (xs.map Sc.toR) p q (parse5_of h10 hlen) hF6 hF7
      (by simp only [List.map_map]; rfl) (by simp only [List.map_map]; rfl) (by rw [List.length_map, List.length_map]; omega) (fun x hx => by
        simp only [List.map_map, List.mem_map] at hx
        obtain ⟨y, hy, rfl⟩ := hx
        have := hrows y hy
        show y.2.2.length ≤ _
        omega)
  refine hc.mono fun e W' ⟨he, hb⟩ => ⟨_, he, ?_⟩
  refine Lk.post_law hW (by kernel_rfl) ?_ rfl rfl (R := 4) rfl Tryd.underlying4 hb
  intro t ht
  rw [Tryd.params3] at ht
  simp only [List.mem_cons, List.not_mem_nil, or_false] at ht
  rcases ht with rfl
  exact ⟨by kernel_rfl, by decide +kernel⟩

theorem laid_met (os : Os) : laidMetH Tryd.prog Rows.scriptParsesUptoRow.laid ((laidWorld os).forCall (fun _ _ => 0) ⟨#[], #[.string .empty], []⟩).memory :=
  laidMetH_of_parts (laidMet_of_run' 8 (by kernel_rfl) (by kernel_rfl)) (by kernel_rfl)
theorem reads (os : Os) {H : Type} (enc : TypeId × Value → H) : ∃ places, DataW.whole enc Tryd.prog ((laidWorld os).forCall (fun _ _ => 0) ⟨#[], #[.string .empty], []⟩).memory Tryd.f3.params.toList Rows.scriptParsesSpec.vars false #[Value.string .empty].toList 8 = some ([.lit (.string [])], [], places) :=
  ⟨[], by kernel_rfl⟩

set_option maxRecDepth 100000 in
theorem lifted (os : Os) (started : os.Started) (H : Type) (enc : TypeId × Value → H) (F : Stop.Interp) :
    ReturnsInHanded {} Tryd.checked os 3 .any ((Rows.OpenSpec.upto Rows.scriptParsesSpec).preRow enc Tryd.prog Tryd.f3 Rows.scriptParsesUptoRow.domain false Rows.scriptParsesUptoRow.laid) (((Rows.OpenSpec.upto Rows.scriptParsesSpec).at F).post enc Tryd.prog Tryd.f3 false true false false) := by
  obtain ⟨places, hx⟩ := reads os enc
  refine returnsInHanded_of_row (C := Tryd.checked) (s := Rows.OpenSpec.upto Rows.scriptParsesSpec) own started (by kernel_rfl) Tryd.func3
    (witness_row_at (enc := enc) (C := Tryd.checked) false (laidWorld os) #[.string .empty] rfl (by kernel_rfl) (by kernel_rfl) (by kernel_rfl)
      (OpenSpec.preRow_of_cond 8 hx (by kernel_rfl) (fun k hk => by cases hk; kernel_rfl) (by kernel_rfl) (laid_met os))) ?_
  intro W base args ds gs before hval hW _ hcond _ hL hsh _
  exact contract H enc W base args ds gs before hval hW hL hsh (hcond _ rfl)

theorem said : Rows.ScriptParsesUptoSaid :=
  OpenClaim.holds_of_cond 3 Tryd.f3 rfl rfl rfl rfl rfl rfl rfl ⟨rfl, rfl, rfl, rfl, rfl⟩ rfl rfl rfl rfl rfl (by kernel_rfl) Tryd.func3 (by kernel_rfl)
    (of_decide_eq_true (by kernel_rfl)) (by unfold Func.isWrapper; first | (rw [if_pos (by decide +kernel)]; kernel_rfl) | (rw [if_neg (by decide +kernel)]; exact ⟨rfl, rfl⟩))
    (fun os started H enc _ F => by rw [OpenClaim.pre_eq_preRow]; exact lifted os started H enc F)

theorem card : Rows.ScriptParsesUptoCardSaid :=
  Claim7.holds_tied_plain_at .later [] _ _ _ _ said (fun _ h => by cases h) (by kernel_rfl) (fun _ h => by cases h) scriptParsesUpto_row_tie rfl ⟨rfl, rfl⟩ (by kernel_rfl) rfl (plain "moraine/morainelaw27.ScriptParses" 3 Tryd.f3 (by kernel_rfl) Tryd.func3 Tryd.params3) (by kernel_rfl)
end Go.Proofs.YthfhbbhacaejoaaDoor.scriptParses

