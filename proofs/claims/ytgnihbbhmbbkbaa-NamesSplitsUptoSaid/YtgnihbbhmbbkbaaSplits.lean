/- Any line's words, as names.Split tells them, are the reference's, and so is the place and the error; any text's width is the reference's; the words are new memory: where what comes in is of bulk at most 1048576. Condition: the given row's own bound, and nothing else. -/
import Derived.Test.YtgnihbbhmbbkbaaSplitsLaw
import Derived.Test.YtgnihbbhmbbkbaaSplitsEq
import Derived.Test.YtgnihbbhmbbkbaaLkTwo
import Derived.Test.YtgnihbbhmbbkbaaRows
import Derived.WalkKit
import Derived.ProofKit
set_option linter.all false
namespace NsG
open Go Lk
noncomputable def theFns : Fns where
  f7 := f7
  p7_3 := p7_3
  f8 := f8
  p8_3 := p8_3
  f9 := f9
  f10 := f10
  p10_2 := p10_2
  p10_3 := p10_3
  f6 := f6
  p6_4 := p6_4
  f11 := f11
  p11_2054 := p11_2054
  p11_11 := p11_11
  p11_2056 := p11_2056
  p11_2060 := p11_2060
  p11_2058 := p11_2058
  p11_13 := p11_13
  p11_14 := p11_14
  p11_2068 := p11_2068
  p11_21 := p11_21
  f4 := f4
  p4_4 := p4_4
  p4_2055 := p4_2055
  p4_9 := p4_9
  p4_8 := p4_8
  p4_10 := p4_10
  p4_25 := p4_25
  p4_2067 := p4_2067
  p4_21 := p4_21
  p4_20 := p4_20
  p4_22 := p4_22
  p4_23 := p4_23
  f5 := f5
  p5_6 := p5_6
  p5_2058 := p5_2058
  p5_30 := p5_30
  p5_2060 := p5_2060
  p5_14 := p5_14
  p5_7 := p5_7
  p5_2068 := p5_2068
  p5_2070 := p5_2070
  p5_2072 := p5_2072
  f3 := f3
  p3_2054 := p3_2054
  p3_7 := p3_7
  p3_8 := p3_8
  f7_eq := f7_eq
  p7_3_eq := p7_3_eq
  f8_eq := f8_eq
  p8_3_eq := p8_3_eq
  f9_eq := f9_eq
  f10_eq := f10_eq
  p10_2_eq := p10_2_eq
  p10_3_eq := p10_3_eq
  f6_eq := f6_eq
  p6_4_eq := p6_4_eq
  f11_eq := f11_eq
  p11_2054_eq := p11_2054_eq
  p11_11_eq := p11_11_eq
  p11_2056_eq := p11_2056_eq
  p11_2060_eq := p11_2060_eq
  p11_2058_eq := p11_2058_eq
  p11_13_eq := p11_13_eq
  p11_14_eq := p11_14_eq
  p11_2068_eq := p11_2068_eq
  p11_21_eq := p11_21_eq
  f4_eq := f4_eq
  p4_4_eq := p4_4_eq
  p4_2055_eq := p4_2055_eq
  p4_9_eq := p4_9_eq
  p4_8_eq := p4_8_eq
  p4_10_eq := p4_10_eq
  p4_25_eq := p4_25_eq
  p4_2067_eq := p4_2067_eq
  p4_21_eq := p4_21_eq
  p4_20_eq := p4_20_eq
  p4_22_eq := p4_22_eq
  p4_23_eq := p4_23_eq
  f5_eq := f5_eq
  p5_6_eq := p5_6_eq
  p5_2058_eq := p5_2058_eq
  p5_30_eq := p5_30_eq
  p5_2060_eq := p5_2060_eq
  p5_14_eq := p5_14_eq
  p5_7_eq := p5_7_eq
  p5_2068_eq := p5_2068_eq
  p5_2070_eq := p5_2070_eq
  p5_2072_eq := p5_2072_eq
  f3_eq := f3_eq
  p3_2054_eq := p3_2054_eq
  p3_7_eq := p3_7_eq
  p3_8_eq := p3_8_eq
end NsG

namespace Go.Proofs.Ytgnihbbhmbbkbaa.namesSplits
open Go.ChangeShapes Go.WideShapes Go.ChangeAt Go.RowKit
open Go.ChangeMaps (open_string shut_string)

theorem env : Lk.EnvOk Try.prog NsG.G.toEnv := Lk.env_ok (tys := NsG.tys) (lims := NsG.lims) (fun _ => rfl) (fun _ => rfl) (by kernel_rfl)
theorem names : NsG.bodies.toList.all (fun p => Lk.nameB p.2) = true := by kernel_rfl
theorem funcs : ∀ p ∈ NsG.bodies.toList, Try.prog.funcs[p.1]? = some p.2 := by
  intro p hp
  have e : NsG.bodies.toList = [(3, Try.f3), (4, Try.f4), (5, Try.f5), (6, Try.f6), (7, Try.f7), (8, Try.f8), (9, Try.f9), (10, Try.f10), (11, Try.f11)] := by kernel_rfl
  rw [e] at hp
  simp only [List.mem_cons, List.not_mem_nil, or_false] at hp
  rcases hp with rfl | rfl | rfl | rfl | rfl | rfl | rfl | rfl | rfl
  · exact Try.func3
  · exact Try.func4
  · exact Try.func5
  · exact Try.func6
  · exact Try.func7
  · exact Try.func8
  · exact Try.func9
  · exact Try.func10
  · exact Try.func11
theorem prg : Lk.PrgOk 3 Try.prog NsG.G := Lk.prg_ok (bodies := NsG.bodies) env (by kernel_rfl) (fun _ => rfl) (fun _ => rfl) funcs names
theorem own : ownKnob Try.prog.godebug = none := by kernel_rfl

theorem walk (s : ByteArray) (w : World) (hs : s.size + 1 ≤ 1048576) :
    Calls Try.prog 3 #[.string s] w fun e w' => e = .returned (.bool true) ∧ Below w.heap.size w w' := by
  have hok : Lk.FnOk (τ := 3) Try.prog 3 ⟨[(.s, .r)], [(.b, .r)]⟩ (Lk.F NsG.G (2 * s.data.toList.length + 100) 3) := Lk.F_ok prg (Lk.res_le (bodies := NsG.bodies) (fun _ => rfl) names) _ 3
  have hl : s.data.toList.length = s.size := by rw [Array.length_toList]; rfl
  have hF : Lk.F NsG.G (2 * s.data.toList.length + 100) 3 (s.data.toList, ()) = some (true, ()) := by
    have := NsG.law NsG.theFns s.data.toList (by omega)
    have e : NsG.theFns.f3 (2 * s.data.toList.length + 100) s.data.toList = NsG.f3 (2 * s.data.toList.length + 100) s.data.toList := rfl
    rw [e] at this
    unfold NsG.f3 at this
    exact this
  refine Lk.calls_bool hok hF (vals := [.string s]) ⟨_, _, (), rfl, ?_, rfl, ?_, rfl⟩
  · exact ⟨rfl, by show s.data.toList.length ≤ 9223372036854775807; omega⟩
  · rfl

theorem short {H : Type} {s : ByteArray} (hk : Rows.uptoSmall H [.lit (.string s.data.toList)] = true) : s.size + 1 ≤ 1048576 := by
  have h : Rows.uptoBulkAll [DataW.lit (H := H) (.string s.data.toList)] ≤ 1048576 := of_decide_eq_true hk
  simp only [Rows.uptoBulkAll, Rows.uptoBulk] at h
  have e : s.data.toList.length = s.size := by rw [Array.length_toList]; rfl
  omega

theorem shut {H : Type} {enc : TypeId × Value → H} {W W' : World} {args : Array Value} {ds gs : List (DataW H)} {before : List MemPlace}
  (hW : DataW.Whole enc Try.prog Try.f3.params.toList Rows.namesSplitsSpec.vars false W args.toList ds gs before) (hb : Below W.heap.size W W') :
  Rows.namesSplitsSpec.post enc Try.prog Try.f3 false true false false W args (.bool true) W' := by
  refine Lk.post_law hW (by kernel_rfl) ?_ rfl ?_ (R := 4) rfl Try.underlying4 hb
  · intro t ht
    rw [Try.params3] at ht
    simp only [List.mem_cons, List.not_mem_nil, or_false] at ht
    subst ht
    exact ⟨by kernel_rfl, by decide +kernel⟩
  · obtain ⟨p, q, hA, hV, _⟩ := hW
    rw [Try.params3] at hA
    obtain ⟨v0, vs0, d0, ds0, p0, q0, _, rfl, rfl, h0, r0⟩ := trodAll_cons hA
    obtain ⟨rfl, rfl, rfl⟩ := trodAll_nil r0
    obtain ⟨rfl, rfl⟩ := trodVars_none hV
    rfl

theorem contract (H : Type) (enc : TypeId × Value → H) (W : World) (base : Nat) (args : Array Value) (ds gs : List (DataW H)) (before : List MemPlace)
    (hval : ∀ (j : Nat) t v, Try.f3.params[j]? = some t → args[j]? = some v → Value.okWide Try.prog W .any base t v)
    (hW : DataW.Whole enc Try.prog Try.f3.params.toList Rows.namesSplitsSpec.vars false W args.toList ds gs before) (hk : Rows.uptoSmall H (ds ++ gs) = true) :
    Calls Try.prog 3 args W fun e W' => ∃ v, e = .returned v ∧ Rows.namesSplitsSpec.post enc Try.prog Try.f3 false true false false W args v W' := by
  have hW' := hW
  obtain ⟨p, q, hA0, hV, rfl, hfz, hnd⟩ := hW
  have hA : DataW.TrodAll enc Try.prog W 0 (fun _ => true) true Try.f3.params.toList args.toList ds p := hA0
  rw [Try.params3] at hA hval
  obtain ⟨v0, vs0, d0, ds0, p0, q0, hargs, rfl, rfl, h0, r0⟩ := trodAll_cons hA
  obtain ⟨rfl, rfl, rfl⟩ := trodAll_nil r0
  obtain rfl : args = #[v0] := by cases args; simp_all
  obtain ⟨rfl, rfl⟩ := trodVars_none hV
  obtain ⟨s, rfl, rfl, rfl, hmax⟩ := open_string Try.underlying9 (hval 0 9 v0 rfl rfl) h0
  have hbd : s.size + 1 ≤ 1048576 := short hk
  refine (walk s W hbd).mono fun e W' ⟨he, hb⟩ => ⟨_, he, ?_⟩
  exact shut hW' hb

set_option maxRecDepth 100000 in
theorem lifted (os : Os) (started : os.Started) (H : Type) (enc : TypeId × Value → H) (F : Stop.Interp) :
    ReturnsInHanded {} Try.checked os 3 .any ((Rows.OpenSpec.upto Rows.namesSplitsSpec).pre6 enc Try.prog Try.f3 Rows.namesSplitsUptoRow.domain false) (((Rows.OpenSpec.upto Rows.namesSplitsSpec).at F).post enc Try.prog Try.f3 false true false false) := by
  refine returnsInHanded_of_cond (C := Try.checked) (s := Rows.OpenSpec.upto Rows.namesSplitsSpec) (k := Rows.uptoSmall) rfl own started (by kernel_rfl) Try.func3
    (OpenSpec.witness (enc := enc) (C := Try.checked) (s := Rows.OpenSpec.upto Rows.namesSplitsSpec) (k := Rows.uptoSmall) rfl false ⟨#[], #[.string .empty], []⟩ 8 (by kernel_rfl) (by kernel_rfl) (by kernel_rfl)
      (x := ([.lit (.string [])], [], [])) (by kernel_rfl) rfl (by kernel_rfl)) ?_
  intro W base args ds gs before hval hW _ hk _
  exact contract H enc W base args ds gs before hval hW hk

theorem proved : Rows.NamesSplitsUptoSaid :=
  OpenClaim.holds_of_cond 3 Try.f3 rfl rfl rfl rfl rfl rfl rfl ⟨rfl, rfl, rfl, rfl, rfl⟩ rfl rfl rfl rfl rfl (by kernel_rfl) Try.func3 (by kernel_rfl)
    (of_decide_eq_true (by kernel_rfl)) (by unfold Func.isWrapper; first | (rw [if_pos (by decide +kernel)]; kernel_rfl) | (rw [if_neg (by decide +kernel)]; exact ⟨rfl, rfl⟩))
    (fun os started H enc _ F => lifted os started H enc F)
end Go.Proofs.Ytgnihbbhmbbkbaa.namesSplits

