/- The names of any kind and number, any text read as a name, and CURRENT's text are the reference's; what is named is read as it was, what is read is named so, and so is CURRENT's text: where what comes in, the library's tables with it, is of bulk at most 1048576. Conditions: the given rows' own, the tables of utf8, math/bits and strconv and strconv's two errors as the program's text lays them among them. -/
import Derived.Test.YtgnihbbhmbbkbaaDoorNwQ
import Derived.Test.YtgnihbbhmbbkbaaDoorNwN
import Derived.Test.YtgnihbbhmbbkbaaDoorNwM
import Derived.Test.YtgnihbbhmbbkbaaDoorNwO
import Derived.Test.YtgnihbbhmbbkbaaDoorNwK
set_option linter.all false
/-! strconv.Atoi, as L has it. -/
namespace Go.Proofs
open Go.RowKit Go.Shelf

def Tryd.isErr (v : Value) : Prop := v = .nilIface ∨ ∃ te pe, v = .iface te pe
/-- What strconv's two errors are, is said nowhere: they are errors. -/
def Tryd.Errs (w : World) : Prop := (∃ e, w.cell? ⟨2, 0, none⟩ = some e ∧ Tryd.isErr e) ∧ ∃ e, w.cell? ⟨3, 0, none⟩ = some e ∧ Tryd.isErr e
theorem Tryd.errs_keep : ∀ w w', Tryd.Errs w → Lk.Ext [] w w' → Tryd.Errs w' := by
  rintro w w' ⟨⟨e, h1, h2⟩, ⟨f, h3, h4⟩⟩ hx
  exact ⟨⟨e, Tryd.cell_keep hx h1, h2⟩, ⟨f, Tryd.cell_keep hx h3, h4⟩⟩

theorem Tryd.parseUint_lt (l : List UInt8) (v : Int) (h : Lib.atoiAll l = .ok v) : -9223372036854775808 ≤ v ∧ v ≤ 9223372036854775807 := by
  unfold Lib.atoiAll at h
  split at h
  · cases h
  · simp only at h
    split at h
    · cases h
    · cases h
    · split at h
      · cases h
      · split at h
        · cases h
        · injection h with h
          subst h
          split <;> omega

theorem Tryd.atoi_call (s : List UInt8) (hs : s.length ≤ 2147483648) (w : World) (hE : Tryd.Errs w) :
    Calls Tryd.prog 55 #[.string ⟨s.toArray⟩] w (fun e w' => (∃ ev, e = .returned (.tuple #[.int .i64 (NqG.atoi s).1, ev]) ∧ (((NqG.atoi s).2 = false ∧ ev = .nilIface) ∨ ((NqG.atoi s).2 = true ∧ ∃ t u, ev = .iface t u))) ∧ Below w.heap.size w w') ∧
      -9223372036854775808 ≤ (NqG.atoi s).1 ∧ (NqG.atoi s).1 ≤ 9223372036854775807 := by
  have hsz : (ByteArray.mk s.toArray).size = s.length := by simp [← ByteArray.size_data]
  obtain ⟨⟨e2, h2, i2⟩, ⟨e3, h3, i3⟩⟩ := hE
  have hl : (ByteArray.mk s.toArray).data.toList = s := rfl
  unfold NqG.atoi
  match ha : Lib.atoiAll s with
  | Lib.NumEnd.ok v =>
    refine ⟨(Tryd.strconv_Atoi_ok ⟨s.toArray⟩ (by omega) v ha w).mono fun e w' ⟨he, hw⟩ => ⟨⟨_, he, .inl ⟨rfl, rfl⟩⟩, ?_⟩, Tryd.parseUint_lt s v ha⟩
    rcases hw with rfl | ⟨t, rfl⟩
    · exact Below.refl _ _
    · exact Joins.below_bytesWorld _ _ _ _ (Nat.le_refl _)
  | Lib.NumEnd.syntax =>
    refine ⟨(Tryd.strconv_Atoi_syntax ⟨s.toArray⟩ (by omega) ha e2 w h2 i2).mono fun e w' ⟨N, he, _, _, hb⟩ => ⟨⟨_, he, .inr ⟨rfl, _, _, rfl⟩⟩, hb⟩, (show (-9223372036854775808 : Int) ≤ 0 by decide), (show (0 : Int) ≤ 9223372036854775807 by decide)⟩
  | Lib.NumEnd.range =>
    refine ⟨(Tryd.strconv_Atoi_range ⟨s.toArray⟩ (by omega) ha e3 w h3 i3).mono fun e w' ⟨N, he, _, _, hb⟩ => ⟨⟨_, he, .inr ⟨rfl, _, _, rfl⟩⟩, hb⟩, ?_⟩
    simp only
    unfold Lib.atoiSat
    split <;> omega

theorem Tryd.ext55 {Kw : World → Prop} (hk : ∀ w, Kw w → Tryd.Errs w) : Lk.FnOk (τ := 3) (Kw := Kw) Tryd.prog 55 ⟨[(.s, .r)], [(.i .i64, .r), (.e, .r)]⟩ (fun x => bif Nat.ble x.1.length 2147483648 then some ((NqG.atoi x.1).1, (NqG.atoi x.1).2, ()) else none) := by
  intro x res hx w S Sb vals hK _ hargs
  simp only at hx
  obtain ⟨v, vs, sh, rfl, hh, _, rfl, rfl⟩ := hargs
  cases hb : Nat.ble x.1.length 2147483648 with
  | false => rw [hb] at hx; cases hx
  | true =>
    rw [hb] at hx
    cases hx
    rw [Nat.ble_eq] at hb
    obtain ⟨hc, hr1, hr2⟩ := Tryd.atoi_call x.1 hb w (hk w hK)
    refine hc.mono fun e w' ⟨⟨ev, he, hev⟩, hw⟩ => ⟨_, he, Tryd.below_ext hw, ?_⟩
    exact ⟨[⟨.i .i64, .r, (NqG.atoi x.1).1, ()⟩, ⟨.e, .r, (NqG.atoi x.1).2, ev⟩], rfl, by
      intro d hd
      simp only [List.mem_cons, List.not_mem_nil, or_false] at hd
      rcases hd with rfl | rfl
      · exact ⟨rfl, hr1, hr2⟩
      · exact ⟨ev, rfl, hev⟩, by simp [Lk.DV.bl, Lk.bl], by simp [Lk.DV.bl, Lk.bl], rfl⟩
end Go.Proofs

namespace Go.Proofs
open Go.RowKit Go.Shelf
def Tryd.KwN (w : World) : Prop := Tryd.Errs w ∧ Tryd.Pow w
theorem Tryd.keepN : ∀ w w', Tryd.KwN w → Lk.Ext [] w w' → Tryd.KwN w' := fun w w' h hx => ⟨Tryd.errs_keep w w' h.1 hx, Tryd.pow_keep w w' h.2 hx⟩
theorem Tryd.envN : Lk.EnvOk Tryd.prog NqGN.G.toEnv := Lk.env_ok (tys := NqGN.tys) (lims := NqGN.lims) (fun _ => rfl) (fun _ => rfl) (by kernel_rfl)
theorem Tryd.namesN : (NqGN.bodies.toList ++ NqGN.exts.toList).all (fun p => Lk.nameB p.2) = true := by kernel_rfl
theorem Tryd.funcsN : ∀ p ∈ NqGN.bodies.toList ++ NqGN.exts.toList, Tryd.prog.funcs[p.1]? = some p.2 := by
  intro p hp
  have e : NqGN.bodies.toList ++ NqGN.exts.toList = [(8, Tryd.f8), (15, Tryd.f15), (25, Tryd.f25), (26, Tryd.f26), (27, Tryd.f27), (28, Tryd.f28), (29, Tryd.f29), (30, Tryd.f30), (31, Tryd.f31), (32, Tryd.f32), (50, Tryd.f50), (51, Tryd.f51), (52, Tryd.f52), (53, Tryd.f53), (54, Tryd.f54), (64, Tryd.f64), (74, Tryd.f74), (75, Tryd.f75), (76, Tryd.f76), (89, Tryd.f89), (55, Tryd.f55), (72, Tryd.f72), (73, Tryd.f73)] := by kernel_rfl
  rw [e] at hp
  simp only [List.mem_cons, List.not_mem_nil, or_false] at hp
  rcases hp with rfl | rfl | rfl | rfl | rfl | rfl | rfl | rfl | rfl | rfl | rfl | rfl | rfl | rfl | rfl | rfl | rfl | rfl | rfl | rfl | rfl | rfl | rfl
  · exact Tryd.func8
  · exact Tryd.func15
  · exact Tryd.func25
  · exact Tryd.func26
  · exact Tryd.func27
  · exact Tryd.func28
  · exact Tryd.func29
  · exact Tryd.func30
  · exact Tryd.func31
  · exact Tryd.func32
  · exact Tryd.func50
  · exact Tryd.func51
  · exact Tryd.func52
  · exact Tryd.func53
  · exact Tryd.func54
  · exact Tryd.func64
  · exact Tryd.func74
  · exact Tryd.func75
  · exact Tryd.func76
  · exact Tryd.func89
  · exact Tryd.func55
  · exact Tryd.func72
  · exact Tryd.func73
theorem Tryd.extN : ∀ g F n, NqGN.G.ext g = some F → Lk.FnOk (τ := 3) (Kw := Tryd.KwN) Tryd.prog g (NqGN.G.sig g) (F n) := by
  intro g F n h
  show Lk.FnOk (τ := 3) (Kw := Tryd.KwN) Tryd.prog g ((NqGN.sigs.get g).getD ⟨[], []⟩) (F n)
  change NqGN.ext g = some F at h
  unfold NqGN.ext at h
  split at h
  · cases h; exact Tryd.ext72 (fun _ h => h.2)
  · cases h; exact Tryd.ext73
  · cases h; exact Tryd.ext55 (fun _ h => h.1)
  · cases h
theorem Tryd.extbN : ∀ g F, NqGN.G.ext g = some F → (NqGN.exts.get g).isSome = true := by
  intro g F h
  change NqGN.ext g = some F at h
  unfold NqGN.ext at h
  split at h
  · rfl
  · rfl
  · rfl
  · cases h
theorem Tryd.prgN : Lk.PrgOk Tryd.KwN 3 Tryd.prog NqGN.G :=
  Lk.prg_ok (bodies := NqGN.bodies) (exts := NqGN.exts) Tryd.envN (by kernel_rfl) Tryd.keepN (fun _ => rfl) Tryd.extbN Tryd.extN Tryd.funcsN Tryd.namesN (by kernel_rfl)
end Go.Proofs

namespace Go.Proofs
open Go.RowKit Go.Shelf
def Tryd.KwB (w : World) : Prop := Tryd.Tabs w ∧ Tryd.Pow w ∧ Tryd.Errs w
theorem Tryd.keepB : ∀ w w', Tryd.KwB w → Lk.Ext [] w w' → Tryd.KwB w' := fun w w' h hx => ⟨Tryd.tabs_keep w w' h.1 hx, Tryd.pow_keep w w' h.2.1 hx, Tryd.errs_keep w w' h.2.2 hx⟩
theorem Tryd.envB : Lk.EnvOk Tryd.prog NqGB.G.toEnv := Lk.env_ok (tys := NqGB.tys) (lims := NqGB.lims) (fun _ => rfl) (fun _ => rfl) (by kernel_rfl)
theorem Tryd.namesB : (NqGB.bodies.toList ++ NqGB.exts.toList).all (fun p => Lk.nameB p.2) = true := by kernel_rfl
theorem Tryd.funcsB : ∀ p ∈ NqGB.bodies.toList ++ NqGB.exts.toList, Tryd.prog.funcs[p.1]? = some p.2 := by
  intro p hp
  have e : NqGB.bodies.toList ++ NqGB.exts.toList = [(9, Tryd.f9), (11, Tryd.f11), (16, Tryd.f16), (18, Tryd.f18), (20, Tryd.f20), (25, Tryd.f25), (27, Tryd.f27), (29, Tryd.f29), (31, Tryd.f31), (35, Tryd.f35), (36, Tryd.f36), (38, Tryd.f38), (47, Tryd.f47), (50, Tryd.f50), (51, Tryd.f51), (53, Tryd.f53), (54, Tryd.f54), (64, Tryd.f64), (65, Tryd.f65), (71, Tryd.f71), (75, Tryd.f75), (76, Tryd.f76), (89, Tryd.f89), (13, Tryd.f13), (37, Tryd.f37), (55, Tryd.f55), (72, Tryd.f72), (73, Tryd.f73), (83, Tryd.f83)] := by kernel_rfl
  rw [e] at hp
  simp only [List.mem_cons, List.not_mem_nil, or_false] at hp
  rcases hp with rfl | rfl | rfl | rfl | rfl | rfl | rfl | rfl | rfl | rfl | rfl | rfl | rfl | rfl | rfl | rfl | rfl | rfl | rfl | rfl | rfl | rfl | rfl | rfl | rfl | rfl | rfl | rfl | rfl
  · exact Tryd.func9
  · exact Tryd.func11
  · exact Tryd.func16
  · exact Tryd.func18
  · exact Tryd.func20
  · exact Tryd.func25
  · exact Tryd.func27
  · exact Tryd.func29
  · exact Tryd.func31
  · exact Tryd.func35
  · exact Tryd.func36
  · exact Tryd.func38
  · exact Tryd.func47
  · exact Tryd.func50
  · exact Tryd.func51
  · exact Tryd.func53
  · exact Tryd.func54
  · exact Tryd.func64
  · exact Tryd.func65
  · exact Tryd.func71
  · exact Tryd.func75
  · exact Tryd.func76
  · exact Tryd.func89
  · exact Tryd.func13
  · exact Tryd.func37
  · exact Tryd.func55
  · exact Tryd.func72
  · exact Tryd.func73
  · exact Tryd.func83
theorem Tryd.extB : ∀ g F n, NqGB.G.ext g = some F → Lk.FnOk (τ := 3) (Kw := Tryd.KwB) Tryd.prog g (NqGB.G.sig g) (F n) := by
  intro g F n h
  show Lk.FnOk (τ := 3) (Kw := Tryd.KwB) Tryd.prog g ((NqGB.sigs.get g).getD ⟨[], []⟩) (F n)
  change NqGB.ext g = some F at h
  unfold NqGB.ext at h
  split at h
  · cases h; exact Tryd.weak (fun _ h => h.1) (Tryd.ext37 n)
  · cases h; exact Tryd.ext83
  · cases h; exact Tryd.weak (fun _ h => h.1) Tryd.ext13
  · cases h; exact Tryd.ext72 (fun _ h => h.2.1)
  · cases h; exact Tryd.ext73
  · cases h; exact Tryd.ext55 (fun _ h => h.2.2)
  · cases h
theorem Tryd.extbB : ∀ g F, NqGB.G.ext g = some F → (NqGB.exts.get g).isSome = true := by
  intro g F h
  change NqGB.ext g = some F at h
  unfold NqGB.ext at h
  split at h
  · rfl
  · rfl
  · rfl
  · rfl
  · rfl
  · rfl
  · cases h
theorem Tryd.prgB : Lk.PrgOk Tryd.KwB 3 Tryd.prog NqGB.G :=
  Lk.prg_ok (bodies := NqGB.bodies) (exts := NqGB.exts) Tryd.envB (by kernel_rfl) Tryd.keepB (fun _ => rfl) Tryd.extbB Tryd.extB Tryd.funcsB Tryd.namesB (by kernel_rfl)
end Go.Proofs

namespace Go.Proofs.YtgnihbbhmbbkbaaDoor.quotes
open Go.ChangeShapes Go.WideShapes Go.ChangeAt Go.RowKit

theorem trod_iface {P : Program} {W : World} {sp : Nat → Bool} {fuel : Nat} {t : TypeId} {ms : Array (String × TypeId)} {l : List Value} {x : DataW Unit × List MemPlace} (hu : P.underlying t = some (.interface ms)) (hl : DataW.trod (H := Unit) (fun _ => ()) P W 0 sp false fuel t l = some x) : ∃ e, l = [e] ∧ Tryd.isErr e := by
  cases fuel with
  | zero => simp [DataW.trod] at hl
  | succ n =>
    unfold DataW.trod at hl
    rw [hu] at hl
    match l with
    | [.nilIface] => exact ⟨_, rfl, .inl rfl⟩
    | [.iface u v] => exact ⟨_, rfl, .inr ⟨u, v, rfl⟩⟩
    | [] => simp at hl
    | a :: b :: r => simp at hl
    | [a] => cases a <;> first | exact ⟨_, rfl, .inl rfl⟩ | exact ⟨_, rfl, .inr ⟨_, _, rfl⟩⟩ | simp at hl

theorem err_at {W : World} {n : String} {d : DataW Unit} {g : Nat} (hg : Tryd.prog.globalNamed n = some g) (hty : (Tryd.prog.globals[g]?).map (·.type) = some 69) (h : Lib.VarReads Tryd.prog W n d) : ∃ e, W.cell? ⟨g, 0, none⟩ = some e ∧ Tryd.isErr e := by
  obtain ⟨g', t', cs, fuel, p, hg', ht', hvar, hd⟩ := h
  obtain rfl := Option.some.inj (hg.symm.trans hg')
  obtain rfl := Option.some.inj (hty.symm.trans ht')
  obtain ⟨ms, hu⟩ : ∃ ms, Tryd.prog.underlying 69 = some (.interface ms) := Tryd.envN.ty 69 .e .r (by kernel_rfl)
  have hc := World.var?_cell hg hvar 0
  obtain ⟨e, he, hi⟩ := trod_iface hu hd
  refine ⟨e, ?_, hi⟩
  rw [hc, ← Array.getElem?_toList, he]
  rfl

theorem errs {W : World} {l : List (String × DataW Unit)} (h : laidMet Tryd.prog l W) {a b : DataW Unit} (h1 : ("strconv.ErrSyntax", a) ∈ l) (h2 : ("strconv.ErrRange", b) ∈ l) : Tryd.Errs W :=
  ⟨err_at (g := 2) (by kernel_rfl) (by kernel_rfl) (Lib.laidMet.reads h h1), err_at (g := 3) (by kernel_rfl) (by kernel_rfl) (Lib.laidMet.reads h h2)⟩

/-- The witness's world with strconv's errors in it. -/
noncomputable def errWorld (os : Os) : World :=
  { tabWorld os with heap := ((((tabWorld os).heap.push (.cells #[.string ⟨#[118, 97, 108, 117, 101, 32, 111, 117, 116, 32, 111, 102, 32, 114, 97, 110, 103, 101]⟩] 136 (0, 0))).push (.cells #[.string ⟨#[105, 110, 118, 97, 108, 105, 100, 32, 115, 121, 110, 116, 97, 120]⟩] 136 (0, 0))).modify 3 (laidCells [.iface 134 (.pointer (some ⟨(tabWorld os).heap.size, 0, none⟩))])).modify 2 (laidCells [.iface 134 (.pointer (some ⟨(tabWorld os).heap.size + 1, 0, none⟩))]) }
end Go.Proofs.YtgnihbbhmbbkbaaDoor.quotes
namespace Go.Proofs.YtgnihbbhmbbkbaaDoor.namesNames
open Go.ChangeShapes Go.WideShapes Go.ChangeAt Go.RowKit quotes

set_option maxRecDepth 100000 in
theorem contract (H : Type) (enc : TypeId × Value → H) (W : World) (base : Nat) (args : Array Value) (ds gs : List (DataW H)) (before : List MemPlace)
    (hval : ∀ (j : Nat) t v, Tryd.f8.params[j]? = some t → args[j]? = some v → Value.okWide Tryd.prog W .any base t v)
    (hW : DataW.Whole enc Tryd.prog Tryd.f8.params.toList Rows.namesNamesSpec.vars false W args.toList ds gs before) (hL : laidMetH Tryd.prog Rows.namesNamesUptoRow.laid W) (hk : Rows.uptoSmall H (ds ++ gs) = true) :
    Calls Tryd.prog 8 args W fun e W' => ∃ v, e = .returned v ∧ Rows.namesNamesSpec.post enc Tryd.prog Tryd.f8 false true false false W args v W' := by
  have hT : Tryd.KwN W := ⟨errs (l := Rows.namesNamesUptoRow.laid) hL (.tail _ (.tail _ (.tail _ (.tail _ (.head _))))) (.tail _ (.tail _ (.tail _ (.head _)))), pow (l := Rows.namesNamesUptoRow.laid) hL (.tail _ (.tail _ (.head _)))⟩
  have d3 : Lk.Desc Tryd.prog 3 (.i .i64) := Tryd.envN.ty 3 (.i .i64) .r (by kernel_rfl)
  have d9 : Lk.Desc Tryd.prog 9 .s := Tryd.envN.ty 9 .s .r (by kernel_rfl)
  have hfit : Lk.Fits Tryd.prog [(.i .i64, .r), (.i .i64, .r), (.s, .r)] Tryd.f8.params.toList := by
    rw [Tryd.params8]
    exact ⟨d3, rfl, .inr rfl, rfl, d3, rfl, .inr rfl, rfl, d9, rfl, .inr rfl, rfl, trivial⟩
  have hds : ∃ d1 d2 d3 : DataW H, ds = [d1, d2, d3] ∧ gs = [] := by
    obtain ⟨p, q, hA, hV, _, _, _⟩ := hW
    obtain ⟨rfl, rfl⟩ := trodVars_none hV
    rw [Tryd.params8] at hA
    obtain ⟨v0, vs0, d0, ds0, p0, q0, _, rfl, _, _, r0⟩ := trodAll_cons hA
    obtain ⟨v1, vs1, d1, ds1, p1, q1, _, rfl, _, _, r1⟩ := trodAll_cons r0
    obtain ⟨v2, vs2, d2, ds2, p2, q2, _, rfl, _, _, r2⟩ := trodAll_cons r1
    obtain ⟨_, rfl, _⟩ := trodAll_nil r2
    exact ⟨d0, d1, d2, rfl, rfl⟩
  obtain ⟨d1, d2, d3, rfl, rfl⟩ := hds
  have hsz : Rows.uptoBulkAll [d1, d2, d3] ≤ 1048576 := of_decide_eq_true hk
  simp only [Rows.uptoBulkAll] at hsz
  refine (Lk.law_calls (τ := 3) (fn := Tryd.f8) (Kw := Tryd.KwN) hT hW hval hfit (fun x hx _ => ?_)).mono fun e W' ⟨he, hb⟩ => ⟨_, he, ?_⟩
  · obtain ⟨_, _, e1, h1, _, _, e2, h2, _, _, e3, h3, _⟩ := hx
    cases e1; cases e2; cases e3
    have b3 : x.2.2.1.length + 1 ≤ 1048576 := by
      have h3' : d3 = .lit (.string x.2.2.1) := h3
      rw [h3'] at hsz
      simp only [Rows.uptoBulk] at hsz
      have h4 : List.length (α := UInt8) x.2.2.1 + 1 ≤ 1048576 := by omega
      exact h4
    have b4 : List.length (α := UInt8) x.2.2.1 ≤ 2147483648 := by
      have b5 : List.length (α := UInt8) x.2.2.1 + 1 ≤ 1048576 := b3
      omega
    refine ⟨Lk.F NqGN.G (List.length (α := UInt8) x.2.2.1 + 300) 8, Lk.F_ok Tryd.prgN (Lk.res_le (bodies := NqGN.bodies) (exts := NqGN.exts) (fun _ => rfl) Tryd.namesN) _ 8, ?_⟩
    have := Nq.lawNames NqGN.theFnsN x.1 x.2.1 x.2.2.1 b4
    have e : NqGN.theFnsN.f8 (List.length (α := UInt8) x.2.2.1 + 300) x.1 x.2.1 x.2.2.1 = NqGN.f8 (List.length (α := UInt8) x.2.2.1 + 300) x.1 x.2.1 x.2.2.1 := rfl
    rw [e] at this
    unfold NqGN.f8 at this
    exact this
  · refine Lk.post_law hW (by kernel_rfl) ?_ rfl rfl (R := 4) rfl Tryd.underlying4 hb
    intro t ht
    rw [Tryd.params8] at ht
    simp only [List.mem_cons, List.not_mem_nil, or_false] at ht
    rcases ht with rfl | rfl | rfl <;> exact ⟨by kernel_rfl, by decide +kernel⟩

theorem laid_met (os : Os) : laidMet Tryd.prog Rows.namesNamesUptoRow.laid ((errWorld os).forCall (fun _ _ => 0) ⟨#[], #[.int .i64 0, .int .i64 0, .string .empty], []⟩).memory :=
  laidMet_of_run' 8 (by kernel_rfl) (by kernel_rfl)
theorem reads (os : Os) {H : Type} (enc : TypeId × Value → H) : ∃ places, DataW.whole enc Tryd.prog ((errWorld os).forCall (fun _ _ => 0) ⟨#[], #[.int .i64 0, .int .i64 0, .string .empty], []⟩).memory Tryd.f8.params.toList Rows.namesNamesSpec.vars false #[Value.int .i64 0, Value.int .i64 0, Value.string .empty].toList 8 = some ([.lit (.int .i64 0), .lit (.int .i64 0), .lit (.string [])], [], places) :=
  ⟨[], by kernel_rfl⟩

set_option maxRecDepth 100000 in
theorem lifted (os : Os) (started : os.Started) (H : Type) (enc : TypeId × Value → H) (F : Stop.Interp) :
    ReturnsInHanded {} Tryd.checked os 8 .any ((Rows.OpenSpec.upto Rows.namesNamesSpec).preRow enc Tryd.prog Tryd.f8 Rows.namesNamesUptoRow.domain false Rows.namesNamesUptoRow.laid) (((Rows.OpenSpec.upto Rows.namesNamesSpec).at F).post enc Tryd.prog Tryd.f8 false true false false) := by
  obtain ⟨places, hx⟩ := reads os enc
  refine returnsInHanded_of_row (C := Tryd.checked) (s := Rows.OpenSpec.upto Rows.namesNamesSpec) own started (by kernel_rfl) Tryd.func8
    (witness_row_at (enc := enc) (C := Tryd.checked) false (errWorld os) #[.int .i64 0, .int .i64 0, .string .empty] rfl (by kernel_rfl) (by kernel_rfl) (by kernel_rfl)
      (OpenSpec.preRow_of_cond 8 hx (by kernel_rfl) (fun k hk => by cases hk; kernel_rfl) (by kernel_rfl) (laid_met os))) ?_
  intro W base args ds gs before hval hW _ hcond _ hL _ _
  exact contract H enc W base args ds gs before hval hW hL (hcond _ rfl)

theorem said : Rows.NamesNamesUptoSaid :=
  OpenClaim.holds_of_cond 8 Tryd.f8 rfl rfl rfl rfl rfl rfl rfl ⟨rfl, rfl, rfl, rfl, rfl⟩ rfl rfl rfl rfl rfl (by kernel_rfl) Tryd.func8 (by kernel_rfl)
    (of_decide_eq_true (by kernel_rfl)) (by unfold Func.isWrapper; first | (rw [if_pos (by decide +kernel)]; kernel_rfl) | (rw [if_neg (by decide +kernel)]; exact ⟨rfl, rfl⟩))
    (fun os started H enc _ F => by rw [OpenClaim.pre_eq_preRow]; exact lifted os started H enc F)

theorem card : Rows.NamesNamesUptoCardSaid :=
  Claim7.holds_tied_plain_at .later [] _ _ _ _ said (fun _ h => by cases h) (by kernel_rfl) (fun _ h => by cases h) namesNamesUpto_row_tie rfl ⟨rfl, rfl⟩ (by kernel_rfl) rfl (plainN "moraine/morainelaw06.NamesNames" 8 Tryd.f8 _ (by kernel_rfl) Tryd.func8 Tryd.params8 (by kernel_rfl)) (by kernel_rfl)
end Go.Proofs.YtgnihbbhmbbkbaaDoor.namesNames
namespace Go.Proofs.YtgnihbbhmbbkbaaDoor.namesBack
open Go.ChangeShapes Go.WideShapes Go.ChangeAt Go.RowKit quotes

set_option maxRecDepth 100000 in
theorem contract (H : Type) (enc : TypeId × Value → H) (W : World) (base : Nat) (args : Array Value) (ds gs : List (DataW H)) (before : List MemPlace)
    (hval : ∀ (j : Nat) t v, Tryd.f9.params[j]? = some t → args[j]? = some v → Value.okWide Tryd.prog W .any base t v)
    (hW : DataW.Whole enc Tryd.prog Tryd.f9.params.toList Rows.namesBackSpec.vars false W args.toList ds gs before) (hL : laidMetH Tryd.prog Rows.namesBackUptoRow.laid W) (hk : Rows.uptoSmall H (ds ++ gs) = true) :
    Calls Tryd.prog 9 args W fun e W' => ∃ v, e = .returned v ∧ Rows.namesBackSpec.post enc Tryd.prog Tryd.f9 false true false false W args v W' := by
  have hT : Tryd.KwB W := ⟨tabs (l := Rows.namesBackUptoRow.laid) hL (.tail _ (.tail _ (.tail _ (.tail _ (.tail _ (.tail _ (.head _))))))) (.tail _ (.tail _ (.tail _ (.head _)))), pow (l := Rows.namesBackUptoRow.laid) hL (.tail _ (.tail _ (.head _))), errs (l := Rows.namesBackUptoRow.laid) hL (.tail _ (.tail _ (.tail _ (.tail _ (.tail _ (.head _)))))) (.tail _ (.tail _ (.tail _ (.tail _ (.head _)))))⟩
  have d3 : Lk.Desc Tryd.prog 3 (.i .i64) := Tryd.envB.ty 3 (.i .i64) .r (by kernel_rfl)
  have d9 : Lk.Desc Tryd.prog 9 .s := Tryd.envB.ty 9 .s .r (by kernel_rfl)
  have hfit : Lk.Fits Tryd.prog [(.i .i64, .r), (.i .i64, .r), (.s, .r)] Tryd.f9.params.toList := by
    rw [Tryd.params9]
    exact ⟨d3, rfl, .inr rfl, rfl, d3, rfl, .inr rfl, rfl, d9, rfl, .inr rfl, rfl, trivial⟩
  have hds : ∃ d1 d2 d3 : DataW H, ds = [d1, d2, d3] ∧ gs = [] := by
    obtain ⟨p, q, hA, hV, _, _, _⟩ := hW
    obtain ⟨rfl, rfl⟩ := trodVars_none hV
    rw [Tryd.params9] at hA
    obtain ⟨v0, vs0, d0, ds0, p0, q0, _, rfl, _, _, r0⟩ := trodAll_cons hA
    obtain ⟨v1, vs1, d1, ds1, p1, q1, _, rfl, _, _, r1⟩ := trodAll_cons r0
    obtain ⟨v2, vs2, d2, ds2, p2, q2, _, rfl, _, _, r2⟩ := trodAll_cons r1
    obtain ⟨_, rfl, _⟩ := trodAll_nil r2
    exact ⟨d0, d1, d2, rfl, rfl⟩
  obtain ⟨d1, d2, d3, rfl, rfl⟩ := hds
  have hsz : Rows.uptoBulkAll [d1, d2, d3] ≤ 1048576 := of_decide_eq_true hk
  simp only [Rows.uptoBulkAll] at hsz
  refine (Lk.law_calls (τ := 3) (fn := Tryd.f9) (Kw := Tryd.KwB) hT hW hval hfit (fun x hx _ => ?_)).mono fun e W' ⟨he, hb⟩ => ⟨_, he, ?_⟩
  · obtain ⟨_, _, e1, h1, _, _, e2, h2, _, _, e3, h3, _⟩ := hx
    cases e1; cases e2; cases e3
    have b3 : x.2.2.1.length + 1 ≤ 1048576 := by
      have h3' : d3 = .lit (.string x.2.2.1) := h3
      rw [h3'] at hsz
      simp only [Rows.uptoBulk] at hsz
      have h4 : List.length (α := UInt8) x.2.2.1 + 1 ≤ 1048576 := by omega
      exact h4
    have b4 : List.length (α := UInt8) x.2.2.1 ≤ 2147483648 := by
      have b5 : List.length (α := UInt8) x.2.2.1 + 1 ≤ 1048576 := b3
      omega
    refine ⟨Lk.F NqGB.G (List.length (α := UInt8) x.2.2.1 + 300) 9, Lk.F_ok Tryd.prgB (Lk.res_le (bodies := NqGB.bodies) (exts := NqGB.exts) (fun _ => rfl) Tryd.namesB) _ 9, ?_⟩
    have := Nq.lawBack NqGB.theFnsB x.1 x.2.1 x.2.2.1 b4
    have e : NqGB.theFnsB.f9 (List.length (α := UInt8) x.2.2.1 + 300) x.1 x.2.1 x.2.2.1 = NqGB.f9 (List.length (α := UInt8) x.2.2.1 + 300) x.1 x.2.1 x.2.2.1 := rfl
    rw [e] at this
    unfold NqGB.f9 at this
    exact this
  · refine Lk.post_law hW (by kernel_rfl) ?_ rfl rfl (R := 4) rfl Tryd.underlying4 hb
    intro t ht
    rw [Tryd.params9] at ht
    simp only [List.mem_cons, List.not_mem_nil, or_false] at ht
    rcases ht with rfl | rfl | rfl <;> exact ⟨by kernel_rfl, by decide +kernel⟩

theorem laid_met (os : Os) : laidMet Tryd.prog Rows.namesBackUptoRow.laid ((errWorld os).forCall (fun _ _ => 0) ⟨#[], #[.int .i64 0, .int .i64 0, .string .empty], []⟩).memory :=
  laidMet_of_run' 8 (by kernel_rfl) (by kernel_rfl)
theorem reads (os : Os) {H : Type} (enc : TypeId × Value → H) : ∃ places, DataW.whole enc Tryd.prog ((errWorld os).forCall (fun _ _ => 0) ⟨#[], #[.int .i64 0, .int .i64 0, .string .empty], []⟩).memory Tryd.f9.params.toList Rows.namesBackSpec.vars false #[Value.int .i64 0, Value.int .i64 0, Value.string .empty].toList 8 = some ([.lit (.int .i64 0), .lit (.int .i64 0), .lit (.string [])], [], places) :=
  ⟨[], by kernel_rfl⟩

set_option maxRecDepth 100000 in
theorem lifted (os : Os) (started : os.Started) (H : Type) (enc : TypeId × Value → H) (F : Stop.Interp) :
    ReturnsInHanded {} Tryd.checked os 9 .any ((Rows.OpenSpec.upto Rows.namesBackSpec).preRow enc Tryd.prog Tryd.f9 Rows.namesBackUptoRow.domain false Rows.namesBackUptoRow.laid) (((Rows.OpenSpec.upto Rows.namesBackSpec).at F).post enc Tryd.prog Tryd.f9 false true false false) := by
  obtain ⟨places, hx⟩ := reads os enc
  refine returnsInHanded_of_row (C := Tryd.checked) (s := Rows.OpenSpec.upto Rows.namesBackSpec) own started (by kernel_rfl) Tryd.func9
    (witness_row_at (enc := enc) (C := Tryd.checked) false (errWorld os) #[.int .i64 0, .int .i64 0, .string .empty] rfl (by kernel_rfl) (by kernel_rfl) (by kernel_rfl)
      (OpenSpec.preRow_of_cond 8 hx (by kernel_rfl) (fun k hk => by cases hk; kernel_rfl) (by kernel_rfl) (laid_met os))) ?_
  intro W base args ds gs before hval hW _ hcond _ hL _ _
  exact contract H enc W base args ds gs before hval hW hL (hcond _ rfl)

theorem said : Rows.NamesBackUptoSaid :=
  OpenClaim.holds_of_cond 9 Tryd.f9 rfl rfl rfl rfl rfl rfl rfl ⟨rfl, rfl, rfl, rfl, rfl⟩ rfl rfl rfl rfl rfl (by kernel_rfl) Tryd.func9 (by kernel_rfl)
    (of_decide_eq_true (by kernel_rfl)) (by unfold Func.isWrapper; first | (rw [if_pos (by decide +kernel)]; kernel_rfl) | (rw [if_neg (by decide +kernel)]; exact ⟨rfl, rfl⟩))
    (fun os started H enc _ F => by rw [OpenClaim.pre_eq_preRow]; exact lifted os started H enc F)

theorem card : Rows.NamesBackUptoCardSaid :=
  Claim7.holds_tied_plain_at .later [] _ _ _ _ said (fun _ h => by cases h) (by kernel_rfl) (fun _ h => by cases h) namesBackUpto_row_tie rfl ⟨rfl, rfl⟩ (by kernel_rfl) rfl (plainN "moraine/morainelaw06.NamesBack" 9 Tryd.f9 _ (by kernel_rfl) Tryd.func9 Tryd.params9 (by kernel_rfl)) (by kernel_rfl)
end Go.Proofs.YtgnihbbhmbbkbaaDoor.namesBack

