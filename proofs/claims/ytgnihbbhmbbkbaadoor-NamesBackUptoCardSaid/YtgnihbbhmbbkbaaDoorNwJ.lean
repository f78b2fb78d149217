/- A text's width is at most its length, and of two joined at most the sum of both; any text is read of its quotes and of its word as it was, unlike texts have unlike ones, and none of them has a blank: where what comes in, the library's tables with it, is of bulk at most 1048576. Conditions: the given rows' own, the tables of utf8, math/bits and strconv as the program's text lays them among them. -/
import Derived.Test.YtgnihbbhmbbkbaaDoorNwQ
import Derived.Test.YtgnihbbhmbbkbaaDoorNwE
import Derived.Test.YtgnihbbhmbbkbaaDoorNwP
import Derived.Test.YtgnihbbhmbbkbaaDoorLmTwo
import Derived.Test.YtgnihbbhmbbkbaaDoorCards
import Derived.Test.YtgnihbbhmbbkbaaDoorTie
import Derived.WalkKit
import Derived.ProofKit
import Derived.OpenShut
import Derived.Deep.DeepHandedRow
import Derived.Lib.LaidTab
import Derived.Lib.LaidU8T
set_option linter.all false
namespace Go.Proofs
open Go.RowKit Go.Shelf
def Tryd.KwW (w : World) : Prop := Tryd.Tabs w ∧ Tryd.Pow w
theorem Tryd.keepW : ∀ w w', Tryd.KwW w → Lk.Ext [] w w' → Tryd.KwW w' := fun w w' h hx => ⟨Tryd.tabs_keep w w' h.1 hx, Tryd.pow_keep w w' h.2 hx⟩
theorem Tryd.envW : Lk.EnvOk Tryd.prog NqGW.G.toEnv := Lk.env_ok (tys := NqGW.tys) (lims := NqGW.lims) (fun _ => rfl) (fun _ => rfl) (by kernel_rfl)
theorem Tryd.namesW : (NqGW.bodies.toList ++ NqGW.exts.toList).all (fun p => Lk.nameB p.2) = true := by kernel_rfl
theorem Tryd.funcsW : ∀ p ∈ NqGW.bodies.toList ++ NqGW.exts.toList, Tryd.prog.funcs[p.1]? = some p.2 := by
  intro p hp
  have e : NqGW.bodies.toList ++ NqGW.exts.toList = [(5, Tryd.f5), (6, Tryd.f6), (7, Tryd.f7), (11, Tryd.f11), (16, Tryd.f16), (18, Tryd.f18), (20, Tryd.f20), (21, Tryd.f21), (22, Tryd.f22), (23, Tryd.f23), (24, Tryd.f24), (25, Tryd.f25), (35, Tryd.f35), (36, Tryd.f36), (38, Tryd.f38), (47, Tryd.f47), (49, Tryd.f49), (50, Tryd.f50), (51, Tryd.f51), (64, Tryd.f64), (65, Tryd.f65), (71, Tryd.f71), (13, Tryd.f13), (37, Tryd.f37), (72, Tryd.f72), (73, Tryd.f73), (83, Tryd.f83)] := by kernel_rfl
  rw [e] at hp
  simp only [List.mem_cons, List.not_mem_nil, or_false] at hp
  rcases hp with rfl | rfl | rfl | rfl | rfl | rfl | rfl | rfl | rfl | rfl | rfl | rfl | rfl | rfl | rfl | rfl | rfl | rfl | rfl | rfl | rfl | rfl | rfl | rfl | rfl | rfl | rfl
  · exact Tryd.func5
  · exact Tryd.func6
  · exact Tryd.func7
  · exact Tryd.func11
  · exact Tryd.func16
  · exact Tryd.func18
  · exact Tryd.func20
  · exact Tryd.func21
  · exact Tryd.func22
  · exact Tryd.func23
  · exact Tryd.func24
  · exact Tryd.func25
  · exact Tryd.func35
  · exact Tryd.func36
  · exact Tryd.func38
  · exact Tryd.func47
  · exact Tryd.func49
  · exact Tryd.func50
  · exact Tryd.func51
  · exact Tryd.func64
  · exact Tryd.func65
  · exact Tryd.func71
  · exact Tryd.func13
  · exact Tryd.func37
  · exact Tryd.func72
  · exact Tryd.func73
  · exact Tryd.func83
theorem Tryd.extW : ∀ g F n, NqGW.G.ext g = some F → Lk.FnOk (τ := 3) (Kw := Tryd.KwW) Tryd.prog g (NqGW.G.sig g) (F n) := by
  intro g F n h
  show Lk.FnOk (τ := 3) (Kw := Tryd.KwW) Tryd.prog g ((NqGW.sigs.get g).getD ⟨[], []⟩) (F n)
  change NqGW.ext g = some F at h
  unfold NqGW.ext at h
  split at h
  · cases h; exact Tryd.weak (fun _ h => h.1) (Tryd.ext37 n)
  · cases h; exact Tryd.ext83
  · cases h; exact Tryd.weak (fun _ h => h.1) Tryd.ext13
  · cases h; exact Tryd.ext72 (fun _ h => h.2)
  · cases h; exact Tryd.ext73
  · cases h
theorem Tryd.extbW : ∀ g F, NqGW.G.ext g = some F → (NqGW.exts.get g).isSome = true := by
  intro g F h
  change NqGW.ext g = some F at h
  unfold NqGW.ext at h
  split at h
  · rfl
  · rfl
  · rfl
  · rfl
  · rfl
  · cases h
theorem Tryd.prgW : Lk.PrgOk Tryd.KwW 3 Tryd.prog NqGW.G :=
  Lk.prg_ok (bodies := NqGW.bodies) (exts := NqGW.exts) Tryd.envW (by kernel_rfl) Tryd.keepW (fun _ => rfl) Tryd.extbW Tryd.extW Tryd.funcsW Tryd.namesW (by kernel_rfl)
end Go.Proofs

namespace Go.Proofs.YtgnihbbhmbbkbaaDoor.quotes
open Go.ChangeShapes Go.WideShapes Go.ChangeAt Go.RowKit
open Go.ChangeMaps (open_string shut_string)

theorem own : ownKnob Tryd.prog.godebug = none := by kernel_rfl

theorem u8types : U8Types Tryd.prog Tryd.lays197_ren := U8Types.of260 { Tryd.lays197 with }
theorem u8extra : U8Extra Tryd.prog Tryd.lays197_ren := ⟨by kernel_rfl, by kernel_rfl, by kernel_rfl, by kernel_rfl, by kernel_rfl, by kernel_rfl, by kernel_rfl⟩
theorem first_eq : Rows.laid_unicode_utf8_first = Lib.firstData := by kernel_rfl
theorem accept_eq : (Rows.laid_unicode_utf8_acceptRanges : DataW Unit) = Lib.acceptData := by kernel_rfl

/-- What the row's list gives. -/
theorem tabs {W : World} {l : List (String × DataW Unit)} (h : laidMet Tryd.prog l W) (h1 : ("unicode/utf8.first", Rows.laid_unicode_utf8_first) ∈ l) (h2 : ("unicode/utf8.acceptRanges", Rows.laid_unicode_utf8_acceptRanges) ∈ l) : Tryd.Tabs W := by
  have r1 := Lib.laidMet.reads h h1
  have r2 := Lib.laidMet.reads h h2
  rw [first_eq] at r1
  rw [accept_eq] at r2
  exact utf8Tabs_of_readsT u8types u8extra r1 r2

theorem short {H : Type} {a b : ByteArray} (hk : Rows.uptoSmall H [.lit (.string a.data.toList), .lit (.string b.data.toList)] = true) : a.size ≤ 1048576 ∧ b.size ≤ 1048576 := by
  have h : Rows.uptoBulkAll [DataW.lit (H := H) (.string a.data.toList), .lit (.string b.data.toList)] ≤ 1048576 := of_decide_eq_true hk
  simp only [Rows.uptoBulkAll, Rows.uptoBulk] at h
  have e1 : a.data.toList.length = a.size := by rw [Array.length_toList]; rfl
  have e2 : b.data.toList.length = b.size := by rw [Array.length_toList]; rfl
  omega

/-- The walk of a law of two texts. -/
theorem walk (g : FuncId) (a b : ByteArray) (w : World) (hT : Tryd.Tabs w) (ha : a.size ≤ 1048576) (hb : b.size ≤ 1048576) (Fg : Lk.Tup [(.s, .r), (.s, .r)] → Option (Lk.Tup [(.b, .r)]))
    (hok : Lk.FnOk (τ := 3) (Kw := Tryd.Tabs) Tryd.prog g ⟨[(.s, .r), (.s, .r)], [(.b, .r)]⟩ Fg) (hF : Fg (a.data.toList, b.data.toList, ()) = some (true, ())) :
    Calls Tryd.prog g #[.string a, .string b] w fun e w' => e = .returned (.bool true) ∧ Below w.heap.size w w' := by
  have e1 : a.data.toList.length = a.size := by rw [Array.length_toList]; rfl
  have e2 : b.data.toList.length = b.size := by rw [Array.length_toList]; rfl
  refine Lk.calls_bool hok hF hT (vals := [.string a, .string b]) ⟨_, _, (), rfl, ⟨rfl, ?_⟩, rfl, rfl, _, _, (), rfl, ⟨rfl, ?_⟩, rfl, rfl, rfl⟩
  · show a.data.toList.length ≤ 9223372036854775807; omega
  · show b.data.toList.length ≤ 9223372036854775807; omega

set_option maxRecDepth 100000 in
/-- What two arguments, both texts, are. -/
theorem two {H : Type} {enc : TypeId × Value → H} {W : World} {base : Nat} {f : Func} (hf : f.params = #[9, 9]) {args : Array Value} {ds gs : List (DataW H)} {before : List MemPlace}
    (hval : ∀ (j : Nat) t v, f.params[j]? = some t → args[j]? = some v → Value.okWide Tryd.prog W .any base t v)
    (hW : DataW.Whole enc Tryd.prog f.params.toList [] false W args.toList ds gs before) :
    ∃ a b : ByteArray, args = #[.string a, .string b] ∧ ds = [.lit (.string a.data.toList), .lit (.string b.data.toList)] ∧ gs = [] := by
  obtain ⟨p, q, hA0, hV, rfl, hfz, hnd⟩ := hW
  have hA : DataW.TrodAll enc Tryd.prog W 0 (fun _ => true) true f.params.toList args.toList ds p := hA0
  rw [hf] at hA hval
  obtain ⟨v0, vs0, d0, ds0, p0, q0, hargs, rfl, rfl, h0, r0⟩ := trodAll_cons hA
  obtain ⟨v1, vs1, d1, ds1, p1, q1, rfl, rfl, rfl, h1, r1⟩ := trodAll_cons r0
  obtain ⟨rfl, rfl, rfl⟩ := trodAll_nil r1
  obtain rfl : args = #[v0, v1] := by
    have := congrArg List.toArray hargs
    simpa using this
  obtain ⟨rfl, rfl⟩ := trodVars_none hV
  obtain ⟨a, rfl, rfl, rfl, _⟩ := open_string Tryd.underlying9 (hval 0 9 v0 rfl rfl) h0
  obtain ⟨b, rfl, rfl, rfl, _⟩ := open_string Tryd.underlying9 (hval 1 9 v1 rfl rfl) h1
  exact ⟨a, b, rfl, rfl, rfl⟩

/-- A world for the witness: utf8's tables in it. -/
def laidCells (cs : List Value) : Obj → Obj
  | .cells _ t frozen => .cells cs.toArray t frozen
  | o => o
noncomputable def laidWorld (os : Os) : World :=
  { World.holding Tryd.prog os ⟨#[], #[], []⟩ with heap := ((World.holding Tryd.prog os ⟨#[], #[], []⟩).heap.modify 0 (laidCells ((List.range 256).map fun c => Value.int .u8 (Lib.firstT c : Nat)))).modify 1 (laidCells ((List.range 16).flatMap fun i => [Value.int .u8 (Lib.accLo i : Nat), Value.int .u8 (Lib.accHi i : Nat)])) }

theorem plain (name : String) (g : FuncId) (fg : Func) (hn : Tryd.prog.funcNamed name = some g) (hg : Tryd.prog.funcs[g]? = some fg) (hp : fg.params = #[9, 9]) (f : FuncId) (fn : Func) (hf : Tryd.pinned.checked.prog.funcNamed name = some f) (hfn : Tryd.pinned.checked.prog.funcs[f]? = some fn) :
    true = Tryd.pinned.checked.prog.looks [] ∧ ∀ (j : Nat) t, fn.params[j]? = some t → Tryd.pinned.checked.prog.wantsStandIn t = false := by
  obtain rfl : f = g := (Option.some.inj (hn.symm.trans hf)).symm
  obtain rfl : fn = fg := (Option.some.inj (hg.symm.trans hfn)).symm
  refine ⟨by kernel_rfl, fun j t ht => ?_⟩
  rw [hp] at ht
  obtain rfl : t = 9 := by
    have := Array.mem_of_getElem? ht
    simpa using this
  exact (show Tryd.prog.wantsStandIn 9 = false by kernel_rfl)
end Go.Proofs.YtgnihbbhmbbkbaaDoor.quotes

namespace Go.Proofs.YtgnihbbhmbbkbaaDoor.quotes
open Go.ChangeShapes Go.WideShapes Go.ChangeAt Go.RowKit

theorem pow_eq : (Rows.laid_internal_strconv_uint64pow10 : DataW Unit) = Lib.tabData .u64 Lib.pow10Tab := by kernel_rfl
theorem pow {W : World} {l : List (String × DataW Unit)} (h : laidMet Tryd.prog l W) (h1 : ("internal/strconv.uint64pow10", Rows.laid_internal_strconv_uint64pow10) ∈ l) : Tryd.Pow W := by
  rw [pow_eq] at h1
  obtain ⟨g', t', cs, fuel, p, hg', ht', hvar, hd⟩ := Lib.laidMet.reads h h1
  have hg : Tryd.prog.globalNamed "internal/strconv.uint64pow10" = some 5 := by kernel_rfl
  have hty : (Tryd.prog.globals[5]?).map (·.type) = some 139 := by kernel_rfl
  obtain rfl := Option.some.inj (hg.symm.trans hg')
  obtain rfl := Option.some.inj (hty.symm.trans ht')
  unfold Tryd.Pow Lib.TabIs
  rw [hvar, ← Lib.cells_of_tab (n := 20) (e := 119) (by kernel_rfl) (by kernel_rfl) (by kernel_rfl) (by kernel_rfl) hd]

/-- A world for the witness: all tables in it. -/
noncomputable def u8s (zs : List Nat) : List Value := zs.map fun z : Nat => Value.int .u8 (z : Int)
noncomputable def tabWorld (os : Os) : World :=
  { laidWorld os with heap := (((laidWorld os).heap.modify 5 (laidCells (Lib.pow10Tab.map fun z => Value.int .u64 z))).modify 6 (laidCells (u8s [0, 1, 28, 2, 29, 14, 24, 3, 30, 22, 20, 15, 25, 17, 4, 8, 31, 27, 13, 23, 21, 19, 16, 7, 26, 12, 18, 6, 11, 5, 10, 9]))).modify 7 (laidCells (u8s [0, 1, 56, 2, 57, 49, 28, 3, 61, 58, 42, 50, 38, 29, 17, 4, 62, 47, 59, 36, 45, 43, 51, 22, 53, 39, 33, 30, 24, 18, 12, 5, 63, 55, 48, 27, 60, 41, 37, 16, 46, 35, 44, 21, 52, 32, 23, 11, 54, 26, 40, 15, 34, 20, 31, 10, 25, 14, 19, 9, 13, 8, 7, 6])) }

/-- The walk of a law of two texts. -/
theorem walkW (Kw : World → Prop) (g : FuncId) (a b : ByteArray) (w : World) (hT : Kw w) (ha : a.size ≤ 1048576) (hb : b.size ≤ 1048576) (Fg : Lk.Tup [(.s, .r), (.s, .r)] → Option (Lk.Tup [(.b, .r)]))
    (hok : Lk.FnOk (τ := 3) (Kw := Kw) Tryd.prog g ⟨[(.s, .r), (.s, .r)], [(.b, .r)]⟩ Fg) (hF : Fg (a.data.toList, b.data.toList, ()) = some (true, ())) :
    Calls Tryd.prog g #[.string a, .string b] w fun e w' => e = .returned (.bool true) ∧ Below w.heap.size w w' := by
  have e1 : a.data.toList.length = a.size := by rw [Array.length_toList]; rfl
  have e2 : b.data.toList.length = b.size := by rw [Array.length_toList]; rfl
  refine Lk.calls_bool hok hF hT (vals := [.string a, .string b]) ⟨_, _, (), rfl, ⟨rfl, ?_⟩, rfl, rfl, _, _, (), rfl, ⟨rfl, ?_⟩, rfl, rfl, rfl⟩
  · show a.data.toList.length ≤ 9223372036854775807; omega
  · show b.data.toList.length ≤ 9223372036854775807; omega
end Go.Proofs.YtgnihbbhmbbkbaaDoor.quotes
namespace Go.Proofs.YtgnihbbhmbbkbaaDoor.namesWide
open Go.ChangeShapes Go.WideShapes Go.ChangeAt Go.RowKit quotes

set_option maxRecDepth 100000 in
theorem contract (H : Type) (enc : TypeId × Value → H) (W : World) (base : Nat) (args : Array Value) (ds gs : List (DataW H)) (before : List MemPlace)
    (hval : ∀ (j : Nat) t v, Tryd.f5.params[j]? = some t → args[j]? = some v → Value.okWide Tryd.prog W .any base t v)
    (hW : DataW.Whole enc Tryd.prog Tryd.f5.params.toList Rows.namesWideSpec.vars false W args.toList ds gs before) (hL : laidMetH Tryd.prog Rows.namesWideUptoRow.laid W) (hk : Rows.uptoSmall H (ds ++ gs) = true) :
    Calls Tryd.prog 5 args W fun e W' => ∃ v, e = .returned v ∧ Rows.namesWideSpec.post enc Tryd.prog Tryd.f5 false true false false W args v W' := by
  obtain ⟨a, b, rfl, rfl, rfl⟩ := two (f := Tryd.f5) Tryd.params5 hval hW
  obtain ⟨ha, hb⟩ := short hk
  have e1 : a.data.toList.length = a.size := by rw [Array.length_toList]; rfl
  have e2 : b.data.toList.length = b.size := by rw [Array.length_toList]; rfl
  have hT : Tryd.KwW W := ⟨tabs (l := Rows.namesWideUptoRow.laid) hL (.tail _ (.tail _ (.tail _ (.tail _ (.head _))))) (.tail _ (.tail _ (.tail _ (.head _)))), pow (l := Rows.namesWideUptoRow.laid) hL (.tail _ (.tail _ (.head _)))⟩
  have hF : Lk.F NqGW.G (a.data.toList.length + b.data.toList.length + 100) 5 (a.data.toList, b.data.toList, ()) = some (true, ()) := by
    have := Nq.lawWide NqGW.theFnsW a.data.toList b.data.toList (by omega) (by omega)
    have e : NqGW.theFnsW.f5 (a.data.toList.length + b.data.toList.length + 100) a.data.toList b.data.toList = NqGW.f5 (a.data.toList.length + b.data.toList.length + 100) a.data.toList b.data.toList := rfl
    rw [e] at this
    unfold NqGW.f5 at this
    exact this
  refine (walkW Tryd.KwW 5 a b W hT ha hb _ (Lk.F_ok Tryd.prgW (Lk.res_le (bodies := NqGW.bodies) (exts := NqGW.exts) (fun _ => rfl) Tryd.namesW) _ 5) hF).mono fun e W' ⟨he, hb⟩ => ⟨_, he, ?_⟩
  refine Lk.post_law hW (by kernel_rfl) ?_ rfl rfl (R := 4) rfl Tryd.underlying4 hb
  intro t ht
  rw [Tryd.params5] at ht
  simp only [List.mem_cons, List.not_mem_nil, or_false] at ht
  rcases ht with rfl | rfl <;> exact ⟨by kernel_rfl, by decide +kernel⟩

theorem laid_met (os : Os) : laidMet Tryd.prog Rows.namesWideUptoRow.laid ((tabWorld os).forCall (fun _ _ => 0) ⟨#[], #[.string .empty, .string .empty], []⟩).memory :=
  laidMet_of_run' 8 (by kernel_rfl) (by kernel_rfl)
theorem reads (os : Os) {H : Type} (enc : TypeId × Value → H) : ∃ places, DataW.whole enc Tryd.prog ((tabWorld os).forCall (fun _ _ => 0) ⟨#[], #[.string .empty, .string .empty], []⟩).memory Tryd.f5.params.toList Rows.namesWideSpec.vars false #[Value.string .empty, Value.string .empty].toList 8 = some ([.lit (.string []), .lit (.string [])], [], places) :=
  ⟨[], by kernel_rfl⟩

set_option maxRecDepth 100000 in
theorem lifted (os : Os) (started : os.Started) (H : Type) (enc : TypeId × Value → H) (F : Stop.Interp) :
    ReturnsInHanded {} Tryd.checked os 5 .any ((Rows.OpenSpec.upto Rows.namesWideSpec).preRow enc Tryd.prog Tryd.f5 Rows.namesWideUptoRow.domain false Rows.namesWideUptoRow.laid) (((Rows.OpenSpec.upto Rows.namesWideSpec).at F).post enc Tryd.prog Tryd.f5 false true false false) := by
  obtain ⟨places, hx⟩ := reads os enc
  refine returnsInHanded_of_row (C := Tryd.checked) (s := Rows.OpenSpec.upto Rows.namesWideSpec) own started (by kernel_rfl) Tryd.func5
    (witness_row_at (enc := enc) (C := Tryd.checked) false (tabWorld os) #[.string .empty, .string .empty] rfl (by kernel_rfl) (by kernel_rfl) (by kernel_rfl)
      (OpenSpec.preRow_of_cond 8 hx (by kernel_rfl) (fun k hk => by cases hk; kernel_rfl) (by kernel_rfl) (laid_met os))) ?_
  intro W base args ds gs before hval hW _ hcond _ hL _ _
  exact contract H enc W base args ds gs before hval hW hL (hcond _ rfl)

theorem said : Rows.NamesWideUptoSaid :=
  OpenClaim.holds_of_cond 5 Tryd.f5 rfl rfl rfl rfl rfl rfl rfl ⟨rfl, rfl, rfl, rfl, rfl⟩ rfl rfl rfl rfl rfl (by kernel_rfl) Tryd.func5 (by kernel_rfl)
    (of_decide_eq_true (by kernel_rfl)) (by unfold Func.isWrapper; first | (rw [if_pos (by decide +kernel)]; kernel_rfl) | (rw [if_neg (by decide +kernel)]; exact ⟨rfl, rfl⟩))
    (fun os started H enc _ F => by rw [OpenClaim.pre_eq_preRow]; exact lifted os started H enc F)

theorem card : Rows.NamesWideUptoCardSaid :=
  Claim7.holds_tied_plain_at .later [] _ _ _ _ said (fun _ h => by cases h) (by kernel_rfl) (fun _ h => by cases h) namesWideUpto_row_tie rfl ⟨rfl, rfl⟩ (by kernel_rfl) rfl (plain "moraine/morainelaw06.NamesWide" 5 Tryd.f5 (by kernel_rfl) Tryd.func5 Tryd.params5) (by kernel_rfl)
end Go.Proofs.YtgnihbbhmbbkbaaDoor.namesWide

namespace Go.Proofs.YtgnihbbhmbbkbaaDoor.namesUnlike
open Go.ChangeShapes Go.WideShapes Go.ChangeAt Go.RowKit quotes

set_option maxRecDepth 100000 in
theorem contract (H : Type) (enc : TypeId × Value → H) (W : World) (base : Nat) (args : Array Value) (ds gs : List (DataW H)) (before : List MemPlace)
    (hval : ∀ (j : Nat) t v, Tryd.f6.params[j]? = some t → args[j]? = some v → Value.okWide Tryd.prog W .any base t v)
    (hW : DataW.Whole enc Tryd.prog Tryd.f6.params.toList Rows.namesUnlikeSpec.vars false W args.toList ds gs before) (hL : laidMetH Tryd.prog Rows.namesUnlikeUptoRow.laid W) (hk : Rows.uptoSmall H (ds ++ gs) = true) :
    Calls Tryd.prog 6 args W fun e W' => ∃ v, e = .returned v ∧ Rows.namesUnlikeSpec.post enc Tryd.prog Tryd.f6 false true false false W args v W' := by
  obtain ⟨a, b, rfl, rfl, rfl⟩ := two (f := Tryd.f6) Tryd.params6 hval hW
  obtain ⟨ha, hb⟩ := short hk
  have e1 : a.data.toList.length = a.size := by rw [Array.length_toList]; rfl
  have e2 : b.data.toList.length = b.size := by rw [Array.length_toList]; rfl
  have hT : Tryd.KwW W := ⟨tabs (l := Rows.namesUnlikeUptoRow.laid) hL (.tail _ (.tail _ (.tail _ (.tail _ (.head _))))) (.tail _ (.tail _ (.tail _ (.head _)))), pow (l := Rows.namesUnlikeUptoRow.laid) hL (.tail _ (.tail _ (.head _)))⟩
  have hF : Lk.F NqGW.G (4 * a.data.toList.length + 4 * b.data.toList.length + 200) 6 (a.data.toList, b.data.toList, ()) = some (true, ()) := by
    have := Nq.lawUnlike NqGW.theFnsW a.data.toList b.data.toList (by omega) (by omega)
    have e : NqGW.theFnsW.f6 (4 * a.data.toList.length + 4 * b.data.toList.length + 200) a.data.toList b.data.toList = NqGW.f6 (4 * a.data.toList.length + 4 * b.data.toList.length + 200) a.data.toList b.data.toList := rfl
    rw [e] at this
    unfold NqGW.f6 at this
    exact this
  refine (walkW Tryd.KwW 6 a b W hT ha hb _ (Lk.F_ok Tryd.prgW (Lk.res_le (bodies := NqGW.bodies) (exts := NqGW.exts) (fun _ => rfl) Tryd.namesW) _ 6) hF).mono fun e W' ⟨he, hb⟩ => ⟨_, he, ?_⟩
  refine Lk.post_law hW (by kernel_rfl) ?_ rfl rfl (R := 4) rfl Tryd.underlying4 hb
  intro t ht
  rw [Tryd.params6] at ht
  simp only [List.mem_cons, List.not_mem_nil, or_false] at ht
  rcases ht with rfl | rfl <;> exact ⟨by kernel_rfl, by decide +kernel⟩

theorem laid_met (os : Os) : laidMet Tryd.prog Rows.namesUnlikeUptoRow.laid ((tabWorld os).forCall (fun _ _ => 0) ⟨#[], #[.string .empty, .string .empty], []⟩).memory :=
  laidMet_of_run' 8 (by kernel_rfl) (by kernel_rfl)
theorem reads (os : Os) {H : Type} (enc : TypeId × Value → H) : ∃ places, DataW.whole enc Tryd.prog ((tabWorld os).forCall (fun _ _ => 0) ⟨#[], #[.string .empty, .string .empty], []⟩).memory Tryd.f6.params.toList Rows.namesUnlikeSpec.vars false #[Value.string .empty, Value.string .empty].toList 8 = some ([.lit (.string []), .lit (.string [])], [], places) :=
  ⟨[], by kernel_rfl⟩

set_option maxRecDepth 100000 in
theorem lifted (os : Os) (started : os.Started) (H : Type) (enc : TypeId × Value → H) (F : Stop.Interp) :
    ReturnsInHanded {} Tryd.checked os 6 .any ((Rows.OpenSpec.upto Rows.namesUnlikeSpec).preRow enc Tryd.prog Tryd.f6 Rows.namesUnlikeUptoRow.domain false Rows.namesUnlikeUptoRow.laid) (((Rows.OpenSpec.upto Rows.namesUnlikeSpec).at F).post enc Tryd.prog Tryd.f6 false true false false) := by
  obtain ⟨places, hx⟩ := reads os enc
  refine returnsInHanded_of_row (C := Tryd.checked) (s := Rows.OpenSpec.upto Rows.namesUnlikeSpec) own started (by kernel_rfl) Tryd.func6
    (witness_row_at (enc := enc) (C := Tryd.checked) false (tabWorld os) #[.string .empty, .string .empty] rfl (by kernel_rfl) (by kernel_rfl) (by kernel_rfl)
      (OpenSpec.preRow_of_cond 8 hx (by kernel_rfl) (fun k hk => by cases hk; kernel_rfl) (by kernel_rfl) (laid_met os))) ?_
  intro W base args ds gs before hval hW _ hcond _ hL _ _
  exact contract H enc W base args ds gs before hval hW hL (hcond _ rfl)

theorem said : Rows.NamesUnlikeUptoSaid :=
  OpenClaim.holds_of_cond 6 Tryd.f6 rfl rfl rfl rfl rfl rfl rfl ⟨rfl, rfl, rfl, rfl, rfl⟩ rfl rfl rfl rfl rfl (by kernel_rfl) Tryd.func6 (by kernel_rfl)
    (of_decide_eq_true (by kernel_rfl)) (by unfold Func.isWrapper; first | (rw [if_pos (by decide +kernel)]; kernel_rfl) | (rw [if_neg (by decide +kernel)]; exact ⟨rfl, rfl⟩))
    (fun os started H enc _ F => by rw [OpenClaim.pre_eq_preRow]; exact lifted os started H enc F)

theorem card : Rows.NamesUnlikeUptoCardSaid :=
  Claim7.holds_tied_plain_at .later [] _ _ _ _ said (fun _ h => by cases h) (by kernel_rfl) (fun _ h => by cases h) namesUnlikeUpto_row_tie rfl ⟨rfl, rfl⟩ (by kernel_rfl) rfl (plain "moraine/morainelaw06.NamesUnlike" 6 Tryd.f6 (by kernel_rfl) Tryd.func6 Tryd.params6) (by kernel_rfl)
end Go.Proofs.YtgnihbbhmbbkbaaDoor.namesUnlike

