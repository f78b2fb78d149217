/- Any text quoted, and any text unquoted, by names.Quote and names.Unquote, are the reference's; so are any text as a word and any word's text: where what comes in, utf8's tables with it, is of bulk at most 1048576. Conditions: the given rows' own, utf8's two tables as the program's text lays them among them. -/
import Derived.Test.YtgnihbbhmbbkbaaDoorQwQ
import Derived.Test.YtgnihbbhmbbkbaaDoorQwE
import Derived.Test.YtgnihbbhmbbkbaaDoorQwP
import Derived.Lib.LaidU8T
import Derived.Test.YtgnihbbhmbbkbaaDoorLkTwo
import Derived.Test.YtgnihbbhmbbkbaaDoorCards
import Derived.Test.YtgnihbbhmbbkbaaDoorTie
import Derived.WalkKit
import Derived.ProofKit
import Derived.OpenShut
import Derived.Deep.DeepHandedRow
import Derived.Lib.LaidTab
set_option linter.all false
/-! The program of NamesQuotes and NamesWords does as L says. -/
namespace Go.Proofs
open Go.RowKit Go.Shelf

theorem Tryd.idx_eq : ∀ (l : List UInt8) (c : UInt8), Lib.indexByte l c = NqG.idx l c
  | [], _ => rfl
  | b :: l, c => by simp only [Lib.indexByte, NqG.idx, Tryd.idx_eq l c]

theorem Tryd.idx_bd : ∀ (l : List UInt8) (c : UInt8), -1 ≤ NqG.idx l c ∧ NqG.idx l c < l.length + 1
  | [], _ => by simp [NqG.idx]
  | b :: l, c => by
    have := Tryd.idx_bd l c
    simp only [NqG.idx, List.length_cons]
    split
    · omega
    · split <;> omega

theorem Tryd.ext83 {Kw : World → Prop} : Lk.FnOk (τ := 3) (Kw := Kw) Tryd.prog 83 ⟨[(.s, .r), (.by, .r)], [(.i .i64, .r)]⟩ (fun x => some (NqG.idx x.1 x.2.1, ())) := by
  intro x res hx w S Sb vals _ _ hargs
  obtain ⟨v, vs, sh, rfl, hh, _, rfl, v2, vs2, sh2, rfl, hh2, _, rfl, rfl⟩ := hargs
  have hlen : x.1.length ≤ Lk.big := hh.2
  have hc := Tryd.strings_IndexByte ⟨x.1.toArray⟩ (x.2.1.toNat : Int) w
  refine hc.mono fun e w' ⟨he, hb⟩ => ⟨_, he, hb ▸ Lk.Ext.refl w, ?_⟩
  cases hx
  have hc : ((x.2.1.toNat : Int)).toNat.toUInt8 = x.2.1 := by simp
  have hd : Lib.indexByte (ByteArray.mk x.1.toArray).data.toList ((x.2.1.toNat : Int)).toNat.toUInt8 = NqG.idx x.1 x.2.1 := by
    rw [hc, Tryd.idx_eq]
  rw [hd]
  have hbd := Tryd.idx_bd x.1 x.2.1
  exact ⟨[⟨.i .i64, .r, NqG.idx x.1 x.2.1, ()⟩], rfl, by
    intro d hd
    simp only [List.mem_cons, List.not_mem_nil, or_false] at hd
    subst hd
    refine ⟨rfl, ?_⟩
    show Lk.inR .i64 _
    have : x.1.length ≤ 9223372036854775807 := hlen
    simp only [Lk.inR, Lk.kmin, Lk.kmax]; omega, by simp [Lk.DV.bl, Lk.bl], by simp [Lk.DV.bl, Lk.bl], rfl⟩

theorem Tryd.ext13 : Lk.FnOk (τ := 3) (Kw := Tryd.Tabs) Tryd.prog 13 ⟨[(.s, .r)], [(.s, .r)]⟩ (fun x => bif Nat.ble x.1.length 1073741824 then some (NqG.quote x.1, ()) else none) := by
  intro x res hx w S Sb vals hK _ hargs
  simp only at hx
  obtain ⟨v, vs, sh, rfl, hh, _, rfl, rfl⟩ := hargs
  cases hb : Nat.ble x.1.length 1073741824 with
  | false => rw [hb] at hx; cases hx
  | true =>
    rw [hb] at hx
    cases hx
    rw [Nat.ble_eq] at hb
    have hs : (ByteArray.mk x.1.toArray).size = x.1.length := by simp [← ByteArray.size_data]
    have hc := Tryd.quote ⟨x.1.toArray⟩ w hK (by omega)
    refine hc.mono fun e w' ⟨he, hb⟩ => ⟨_, he, ⟨hb.os, hb.tape, hb.output, hb.size, fun b h _ => hb.block b h⟩, ?_⟩
    have hq := NqG.quote_len x.1
    exact ⟨[⟨.s, .r, NqG.quote x.1, ()⟩], rfl, by
      intro d hd
      simp only [List.mem_cons, List.not_mem_nil, or_false] at hd
      subst hd
      refine ⟨rfl, ?_⟩
      show (NqG.quote x.1).length ≤ 9223372036854775807; omega, by simp [Lk.DV.bl, Lk.bl], by simp [Lk.DV.bl, Lk.bl], rfl⟩

theorem Tryd.envQ : Lk.EnvOk Tryd.prog NqGQ.G.toEnv := Lk.env_ok (tys := NqGQ.tys) (lims := NqGQ.lims) (fun _ => rfl) (fun _ => rfl) (by kernel_rfl)
theorem Tryd.namesQ : (NqGQ.bodies.toList ++ NqGQ.exts.toList).all (fun p => Lk.nameB p.2) = true := by kernel_rfl
theorem Tryd.funcsQ : ∀ p ∈ NqGQ.bodies.toList ++ NqGQ.exts.toList, Tryd.prog.funcs[p.1]? = some p.2 := by
  intro p hp
  have e : NqGQ.bodies.toList ++ NqGQ.exts.toList = [(3, Tryd.f3), (4, Tryd.f4), (11, Tryd.f11), (12, Tryd.f12), (14, Tryd.f14), (15, Tryd.f15), (16, Tryd.f16), (17, Tryd.f17), (18, Tryd.f18), (19, Tryd.f19), (35, Tryd.f35), (36, Tryd.f36), (38, Tryd.f38), (39, Tryd.f39), (40, Tryd.f40), (41, Tryd.f41), (46, Tryd.f46), (47, Tryd.f47), (48, Tryd.f48), (64, Tryd.f64), (65, Tryd.f65), (67, Tryd.f67), (70, Tryd.f70), (71, Tryd.f71), (13, Tryd.f13), (37, Tryd.f37), (83, Tryd.f83)] := by kernel_rfl
  rw [e] at hp
  simp only [List.mem_cons, List.not_mem_nil, or_false] at hp
  rcases hp with rfl | rfl | rfl | rfl | rfl | rfl | rfl | rfl | rfl | rfl | rfl | rfl | rfl | rfl | rfl | rfl | rfl | rfl | rfl | rfl | rfl | rfl | rfl | rfl | rfl | rfl | rfl
  · exact Tryd.func3
  · exact Tryd.func4
  · exact Tryd.func11
  · exact Tryd.func12
  · exact Tryd.func14
  · exact Tryd.func15
  · exact Tryd.func16
  · exact Tryd.func17
  · exact Tryd.func18
  · exact Tryd.func19
  · exact Tryd.func35
  · exact Tryd.func36
  · exact Tryd.func38
  · exact Tryd.func39
  · exact Tryd.func40
  · exact Tryd.func41
  · exact Tryd.func46
  · exact Tryd.func47
  · exact Tryd.func48
  · exact Tryd.func64
  · exact Tryd.func65
  · exact Tryd.func67
  · exact Tryd.func70
  · exact Tryd.func71
  · exact Tryd.func13
  · exact Tryd.func37
  · exact Tryd.func83

theorem Tryd.extQ : ∀ g F n, NqGQ.G.ext g = some F → Lk.FnOk (τ := 3) (Kw := Tryd.Tabs) Tryd.prog g (NqGQ.G.sig g) (F n) := by
  intro g F n h
  show Lk.FnOk (τ := 3) (Kw := Tryd.Tabs) Tryd.prog g ((NqGQ.sigs.get g).getD ⟨[], []⟩) (F n)
  change NqGQ.ext g = some F at h
  unfold NqGQ.ext at h
  split at h
  · cases h; exact Tryd.ext37 n
  · cases h; exact Tryd.ext83
  · cases h; exact Tryd.ext13
  · cases h

theorem Tryd.extbQ : ∀ g F, NqGQ.G.ext g = some F → (NqGQ.exts.get g).isSome = true := by
  intro g F h
  change NqGQ.ext g = some F at h
  unfold NqGQ.ext at h
  split at h
  · rfl
  · rfl
  · rfl
  · cases h

theorem Tryd.prgQ : Lk.PrgOk Tryd.Tabs 3 Tryd.prog NqGQ.G :=
  Lk.prg_ok (bodies := NqGQ.bodies) (exts := NqGQ.exts) Tryd.envQ (by kernel_rfl) Tryd.tabs_keep (fun _ => rfl) Tryd.extbQ Tryd.extQ Tryd.funcsQ Tryd.namesQ (by kernel_rfl)
end Go.Proofs

namespace Go.Proofs.YtgnihbbhmbbkbaaDoor.quotes
open Go.ChangeShapes Go.WideShapes Go.ChangeAt Go.RowKit
open Go.ChangeMaps (open_string shut_string)

theorem own : ownKnob Tryd.prog.godebug = none := by kernel_rfl

theorem u8types : U8Types Tryd.prog Tryd.lays197_ren := U8Types.of260 { Tryd.lays197 with }
theorem u8extra : U8Extra Tryd.prog Tryd.lays197_ren := ⟨by kernel_rfl, by kernel_rfl, by kernel_rfl, by kernel_rfl, by kernel_rfl, by kernel_rfl, by kernel_rfl⟩
theorem first_eq : Rows.laid_unicode_utf8_first = Lib.firstData := by kernel_rfl
theorem accept_eq : (Rows.laid_unicode_utf8_acceptRanges : DataW Unit) = Lib.acceptData := by kernel_rfl

/-- What the row's list gives. -/
theorem tabs {W : World} {l : List (String × DataW Unit)} (h : laidMet Tryd.prog l W) (h1 : ("unicode/utf8.first", Rows.laid_unicode_utf8_first) ∈ l) (h2 : ("unicode/utf8.acceptRanges", Rows.laid_unicode_utf8_acceptRanges) ∈ l) : Tryd.Tabs W := by
  have r1 := Lib.laidMet.reads h h1
  have r2 := Lib.laidMet.reads h h2
  rw [first_eq] at r1
  rw [accept_eq] at r2
  exact utf8Tabs_of_readsT u8types u8extra r1 r2

theorem short {H : Type} {a b : ByteArray} (hk : Rows.uptoSmall H [.lit (.string a.data.toList), .lit (.string b.data.toList)] = true) : a.size ≤ 1048576 ∧ b.size ≤ 1048576 := by
  have h : Rows.uptoBulkAll [DataW.lit (H := H) (.string a.data.toList), .lit (.string b.data.toList)] ≤ 1048576 := of_decide_eq_true hk
  simp only [Rows.uptoBulkAll, Rows.uptoBulk] at h
  have e1 : a.data.toList.length = a.size := by rw [Array.length_toList]; rfl
  have e2 : b.data.toList.length = b.size := by rw [Array.length_toList]; rfl
  omega

/-- The walk of a law of two texts. -/
theorem walk (g : FuncId) (a b : ByteArray) (w : World) (hT : Tryd.Tabs w) (ha : a.size ≤ 1048576) (hb : b.size ≤ 1048576) (Fg : Lk.Tup [(.s, .r), (.s, .r)] → Option (Lk.Tup [(.b, .r)]))
    (hok : Lk.FnOk (τ := 3) (Kw := Tryd.Tabs) Tryd.prog g ⟨[(.s, .r), (.s, .r)], [(.b, .r)]⟩ Fg) (hF : Fg (a.data.toList, b.data.toList, ()) = some (true, ())) :
    Calls Tryd.prog g #[.string a, .string b] w fun e w' => e = .returned (.bool true) ∧ Below w.heap.size w w' := by
  have e1 : a.data.toList.length = a.size := by rw [Array.length_toList]; rfl
  have e2 : b.data.toList.length = b.size := by rw [Array.length_toList]; rfl
  refine Lk.calls_bool hok hF hT (vals := [.string a, .string b]) ⟨_, _, (), rfl, ⟨rfl, ?_⟩, rfl, rfl, _, _, (), rfl, ⟨rfl, ?_⟩, rfl, rfl, rfl⟩
  · show a.data.toList.length ≤ 9223372036854775807; omega
  · show b.data.toList.length ≤ 9223372036854775807; omega

set_option maxRecDepth 100000 in
/-- What two arguments, both texts, are. -/
theorem two {H : Type} {enc : TypeId × Value → H} {W : World} {base : Nat} {f : Func} (hf : f.params = #[9, 9]) {args : Array Value} {ds gs : List (DataW H)} {before : List MemPlace}
    (hval : ∀ (j : Nat) t v, f.params[j]? = some t → args[j]? = some v → Value.okWide Tryd.prog W .any base t v)
    (hW : DataW.Whole enc Tryd.prog f.params.toList [] false W args.toList ds gs before) :
    ∃ a b : ByteArray, args = #[.string a, .string b] ∧ ds = [.lit (.string a.data.toList), .lit (.string b.data.toList)] ∧ gs = [] := by
  obtain ⟨p, q, hA0, hV, rfl, hfz, hnd⟩ := hW
  have hA : DataW.TrodAll enc Tryd.prog W 0 (fun _ => true) true f.params.toList args.toList ds p := hA0
  rw [hf] at hA hval
  obtain ⟨v0, vs0, d0, ds0, p0, q0, hargs, rfl, rfl, h0, r0⟩ := trodAll_cons hA
  obtain ⟨v1, vs1, d1, ds1, p1, q1, rfl, rfl, rfl, h1, r1⟩ := trodAll_cons r0
  obtain ⟨rfl, rfl, rfl⟩ := trodAll_nil r1
  obtain rfl : args = #[v0, v1] := by
    have := congrArg List.toArray hargs
    simpa using this
  obtain ⟨rfl, rfl⟩ := trodVars_none hV
  obtain ⟨a, rfl, rfl, rfl, _⟩ := open_string Tryd.underlying9 (hval 0 9 v0 rfl rfl) h0
  obtain ⟨b, rfl, rfl, rfl, _⟩ := open_string Tryd.underlying9 (hval 1 9 v1 rfl rfl) h1
  exact ⟨a, b, rfl, rfl, rfl⟩

/-- A world for the witness: utf8's tables in it. -/
def laidCells (cs : List Value) : Obj → Obj
  | .cells _ t frozen => .cells cs.toArray t frozen
  | o => o
noncomputable def laidWorld (os : Os) : World :=
  { World.holding Tryd.prog os ⟨#[], #[], []⟩ with heap := ((World.holding Tryd.prog os ⟨#[], #[], []⟩).heap.modify 0 (laidCells ((List.range 256).map fun c => Value.int .u8 (Lib.firstT c : Nat)))).modify 1 (laidCells ((List.range 16).flatMap fun i => [Value.int .u8 (Lib.accLo i : Nat), Value.int .u8 (Lib.accHi i : Nat)])) }

theorem plain (name : String) (g : FuncId) (fg : Func) (hn : Tryd.prog.funcNamed name = some g) (hg : Tryd.prog.funcs[g]? = some fg) (hp : fg.params = #[9, 9]) (f : FuncId) (fn : Func) (hf : Tryd.pinned.checked.prog.funcNamed name = some f) (hfn : Tryd.pinned.checked.prog.funcs[f]? = some fn) :
    true = Tryd.pinned.checked.prog.looks [] ∧ ∀ (j : Nat) t, fn.params[j]? = some t → Tryd.pinned.checked.prog.wantsStandIn t = false := by
  obtain rfl : f = g := (Option.some.inj (hn.symm.trans hf)).symm
  obtain rfl : fn = fg := (Option.some.inj (hg.symm.trans hfn)).symm
  refine ⟨by kernel_rfl, fun j t ht => ?_⟩
  rw [hp] at ht
  obtain rfl : t = 9 := by
    have := Array.mem_of_getElem? ht
    simpa using this
  exact (show Tryd.prog.wantsStandIn 9 = false by kernel_rfl)
end Go.Proofs.YtgnihbbhmbbkbaaDoor.quotes

namespace Go.Proofs.YtgnihbbhmbbkbaaDoor.namesQuotes
open Go.ChangeShapes Go.WideShapes Go.ChangeAt Go.RowKit quotes

set_option maxRecDepth 100000 in
theorem contract (H : Type) (enc : TypeId × Value → H) (W : World) (base : Nat) (args : Array Value) (ds gs : List (DataW H)) (before : List MemPlace)
    (hval : ∀ (j : Nat) t v, Tryd.f3.params[j]? = some t → args[j]? = some v → Value.okWide Tryd.prog W .any base t v)
    (hW : DataW.Whole enc Tryd.prog Tryd.f3.params.toList Rows.namesQuotesSpec.vars false W args.toList ds gs before) (hL : laidMetH Tryd.prog Rows.namesQuotesUptoRow.laid W) (hk : Rows.uptoSmall H (ds ++ gs) = true) :
    Calls Tryd.prog 3 args W fun e W' => ∃ v, e = .returned v ∧ Rows.namesQuotesSpec.post enc Tryd.prog Tryd.f3 false true false false W args v W' := by
  obtain ⟨a, b, rfl, rfl, rfl⟩ := two (f := Tryd.f3) Tryd.params3 hval hW
  obtain ⟨ha, hb⟩ := short hk
  have e1 : a.data.toList.length = a.size := by rw [Array.length_toList]; rfl
  have e2 : b.data.toList.length = b.size := by rw [Array.length_toList]; rfl
  have hT : Tryd.Tabs W := tabs (l := [("unicode/utf8.acceptRanges", Rows.laid_unicode_utf8_acceptRanges), ("unicode/utf8.first", Rows.laid_unicode_utf8_first)]) hL (.tail _ (.head _)) (.head _)
  have hF : Lk.F NqGQ.G (2 * b.data.toList.length + a.data.toList.length + 200) 3 (a.data.toList, b.data.toList, ()) = some (true, ()) := by
    have := Nq.lawQuotes NqGQ.theFnsR a.data.toList b.data.toList (by omega) (by omega)
    have e : NqGQ.theFnsR.f3 (2 * b.data.toList.length + a.data.toList.length + 200) a.data.toList b.data.toList = NqGQ.f3 (2 * b.data.toList.length + a.data.toList.length + 200) a.data.toList b.data.toList := rfl
    rw [e] at this
    unfold NqGQ.f3 at this
    exact this
  refine (walk 3 a b W hT ha hb _ (Lk.F_ok Tryd.prgQ (Lk.res_le (bodies := NqGQ.bodies) (exts := NqGQ.exts) (fun _ => rfl) Tryd.namesQ) _ 3) hF).mono fun e W' ⟨he, hb⟩ => ⟨_, he, ?_⟩
  refine Lk.post_law hW (by kernel_rfl) ?_ rfl rfl (R := 4) rfl Tryd.underlying4 hb
  intro t ht
  rw [Tryd.params3] at ht
  simp only [List.mem_cons, List.not_mem_nil, or_false] at ht
  rcases ht with rfl | rfl <;> exact ⟨by kernel_rfl, by decide +kernel⟩

theorem laid_met (os : Os) : laidMet Tryd.prog Rows.namesQuotesUptoRow.laid ((laidWorld os).forCall (fun _ _ => 0) ⟨#[], #[.string .empty, .string .empty], []⟩).memory :=
  laidMet_of_run' 8 (by kernel_rfl) (by kernel_rfl)
theorem reads (os : Os) {H : Type} (enc : TypeId × Value → H) : ∃ places, DataW.whole enc Tryd.prog ((laidWorld os).forCall (fun _ _ => 0) ⟨#[], #[.string .empty, .string .empty], []⟩).memory Tryd.f3.params.toList Rows.namesQuotesSpec.vars false #[Value.string .empty, Value.string .empty].toList 8 = some ([.lit (.string []), .lit (.string [])], [], places) :=
  ⟨[], by kernel_rfl⟩

set_option maxRecDepth 100000 in
theorem lifted (os : Os) (started : os.Started) (H : Type) (enc : TypeId × Value → H) (F : Stop.Interp) :
    ReturnsInHanded {} Tryd.checked os 3 .any ((Rows.OpenSpec.upto Rows.namesQuotesSpec).preRow enc Tryd.prog Tryd.f3 Rows.namesQuotesUptoRow.domain false Rows.namesQuotesUptoRow.laid) (((Rows.OpenSpec.upto Rows.namesQuotesSpec).at F).post enc Tryd.prog Tryd.f3 false true false false) := by
  obtain ⟨places, hx⟩ := reads os enc
  refine returnsInHanded_of_row (C := Tryd.checked) (s := Rows.OpenSpec.upto Rows.namesQuotesSpec) own started (by kernel_rfl) Tryd.func3
    (witness_row_at (enc := enc) (C := Tryd.checked) false (laidWorld os) #[.string .empty, .string .empty] rfl (by kernel_rfl) (by kernel_rfl) (by kernel_rfl)
      (OpenSpec.preRow_of_cond 8 hx (by kernel_rfl) (fun k hk => by cases hk; kernel_rfl) (by kernel_rfl) (laid_met os))) ?_
  intro W base args ds gs before hval hW _ hcond _ hL _ _
  exact contract H enc W base args ds gs before hval hW hL (hcond _ rfl)

theorem said : Rows.NamesQuotesUptoSaid :=
  OpenClaim.holds_of_cond 3 Tryd.f3 rfl rfl rfl rfl rfl rfl rfl ⟨rfl, rfl, rfl, rfl, rfl⟩ rfl rfl rfl rfl rfl (by kernel_rfl) Tryd.func3 (by kernel_rfl)
    (of_decide_eq_true (by kernel_rfl)) (by unfold Func.isWrapper; first | (rw [if_pos (by decide +kernel)]; kernel_rfl) | (rw [if_neg (by decide +kernel)]; exact ⟨rfl, rfl⟩))
    (fun os started H enc _ F => by rw [OpenClaim.pre_eq_preRow]; exact lifted os started H enc F)

theorem card : Rows.NamesQuotesUptoCardSaid :=
  Claim7.holds_tied_plain_at .later [] _ _ _ _ said (fun _ h => by cases h) (by kernel_rfl) (fun _ h => by cases h) namesQuotesUpto_row_tie rfl ⟨rfl, rfl⟩ (by kernel_rfl) rfl (plain "moraine/morainelaw06.NamesQuotes" 3 Tryd.f3 (by kernel_rfl) Tryd.func3 Tryd.params3) (by kernel_rfl)
end Go.Proofs.YtgnihbbhmbbkbaaDoor.namesQuotes

namespace Go.Proofs.YtgnihbbhmbbkbaaDoor.namesWords
open Go.ChangeShapes Go.WideShapes Go.ChangeAt Go.RowKit quotes

set_option maxRecDepth 100000 in
theorem contract (H : Type) (enc : TypeId × Value → H) (W : World) (base : Nat) (args : Array Value) (ds gs : List (DataW H)) (before : List MemPlace)
    (hval : ∀ (j : Nat) t v, Tryd.f4.params[j]? = some t → args[j]? = some v → Value.okWide Tryd.prog W .any base t v)
    (hW : DataW.Whole enc Tryd.prog Tryd.f4.params.toList Rows.namesWordsSpec.vars false W args.toList ds gs before) (hL : laidMetH Tryd.prog Rows.namesWordsUptoRow.laid W) (hk : Rows.uptoSmall H (ds ++ gs) = true) :
    Calls Tryd.prog 4 args W fun e W' => ∃ v, e = .returned v ∧ Rows.namesWordsSpec.post enc Tryd.prog Tryd.f4 false true false false W args v W' := by
  obtain ⟨a, b, rfl, rfl, rfl⟩ := two (f := Tryd.f4) Tryd.params4 hval hW
  obtain ⟨ha, hb⟩ := short hk
  have e1 : a.data.toList.length = a.size := by rw [Array.length_toList]; rfl
  have e2 : b.data.toList.length = b.size := by rw [Array.length_toList]; rfl
  have hT : Tryd.Tabs W := tabs (l := [("unicode/utf8.acceptRanges", Rows.laid_unicode_utf8_acceptRanges), ("unicode/utf8.first", Rows.laid_unicode_utf8_first)]) hL (.tail _ (.head _)) (.head _)
  have hF : Lk.F NqGQ.G (2 * b.data.toList.length + a.data.toList.length + 200) 4 (a.data.toList, b.data.toList, ()) = some (true, ()) := by
    have := Nq.lawWords NqGQ.theFnsR a.data.toList b.data.toList (by omega) (by omega)
    have e : NqGQ.theFnsR.f4 (2 * b.data.toList.length + a.data.toList.length + 200) a.data.toList b.data.toList = NqGQ.f4 (2 * b.data.toList.length + a.data.toList.length + 200) a.data.toList b.data.toList := rfl
    rw [e] at this
    unfold NqGQ.f4 at this
    exact this
  refine (walk 4 a b W hT ha hb _ (Lk.F_ok Tryd.prgQ (Lk.res_le (bodies := NqGQ.bodies) (exts := NqGQ.exts) (fun _ => rfl) Tryd.namesQ) _ 4) hF).mono fun e W' ⟨he, hb⟩ => ⟨_, he, ?_⟩
  refine Lk.post_law hW (by kernel_rfl) ?_ rfl rfl (R := 4) rfl Tryd.underlying4 hb
  intro t ht
  rw [Tryd.params4] at ht
  simp only [List.mem_cons, List.not_mem_nil, or_false] at ht
  rcases ht with rfl | rfl <;> exact ⟨by kernel_rfl, by decide +kernel⟩

theorem laid_met (os : Os) : laidMet Tryd.prog Rows.namesWordsUptoRow.laid ((laidWorld os).forCall (fun _ _ => 0) ⟨#[], #[.string .empty, .string .empty], []⟩).memory :=
  laidMet_of_run' 8 (by kernel_rfl) (by kernel_rfl)
theorem reads (os : Os) {H : Type} (enc : TypeId × Value → H) : ∃ places, DataW.whole enc Tryd.prog ((laidWorld os).forCall (fun _ _ => 0) ⟨#[], #[.string .empty, .string .empty], []⟩).memory Tryd.f4.params.toList Rows.namesWordsSpec.vars false #[Value.string .empty, Value.string .empty].toList 8 = some ([.lit (.string []), .lit (.string [])], [], places) :=
  ⟨[], by kernel_rfl⟩

set_option maxRecDepth 100000 in
theorem lifted (os : Os) (started : os.Started) (H : Type) (enc : TypeId × Value → H) (F : Stop.Interp) :
    ReturnsInHanded {} Tryd.checked os 4 .any ((Rows.OpenSpec.upto Rows.namesWordsSpec).preRow enc Tryd.prog Tryd.f4 Rows.namesWordsUptoRow.domain false Rows.namesWordsUptoRow.laid) (((Rows.OpenSpec.upto Rows.namesWordsSpec).at F).post enc Tryd.prog Tryd.f4 false true false false) := by
  obtain ⟨places, hx⟩ := reads os enc
  refine returnsInHanded_of_row (C := Tryd.checked) (s := Rows.OpenSpec.upto Rows.namesWordsSpec) own started (by kernel_rfl) Tryd.func4
    (witness_row_at (enc := enc) (C := Tryd.checked) false (laidWorld os) #[.string .empty, .string .empty] rfl (by kernel_rfl) (by kernel_rfl) (by kernel_rfl)
      (OpenSpec.preRow_of_cond 8 hx (by kernel_rfl) (fun k hk => by cases hk; kernel_rfl) (by kernel_rfl) (laid_met os))) ?_
  intro W base args ds gs before hval hW _ hcond _ hL _ _
  exact contract H enc W base args ds gs before hval hW hL (hcond _ rfl)

theorem said : Rows.NamesWordsUptoSaid :=
  OpenClaim.holds_of_cond 4 Tryd.f4 rfl rfl rfl rfl rfl rfl rfl ⟨rfl, rfl, rfl, rfl, rfl⟩ rfl rfl rfl rfl rfl (by kernel_rfl) Tryd.func4 (by kernel_rfl)
    (of_decide_eq_true (by kernel_rfl)) (by unfold Func.isWrapper; first | (rw [if_pos (by decide +kernel)]; kernel_rfl) | (rw [if_neg (by decide +kernel)]; exact ⟨rfl, rfl⟩))
    (fun os started H enc _ F => by rw [OpenClaim.pre_eq_preRow]; exact lifted os started H enc F)

theorem card : Rows.NamesWordsUptoCardSaid :=
  Claim7.holds_tied_plain_at .later [] _ _ _ _ said (fun _ h => by cases h) (by kernel_rfl) (fun _ h => by cases h) namesWordsUpto_row_tie rfl ⟨rfl, rfl⟩ (by kernel_rfl) rfl (plain "moraine/morainelaw06.NamesWords" 4 Tryd.f4 (by kernel_rfl) Tryd.func4 Tryd.params4) (by kernel_rfl)
end Go.Proofs.YtgnihbbhmbbkbaaDoor.namesWords

