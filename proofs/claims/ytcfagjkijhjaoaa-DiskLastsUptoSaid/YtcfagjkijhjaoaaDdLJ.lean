/- A disk behind a crash: of each file a beginning is left, which has all that lasted, and behind a crash all that is left lasts; where what comes in is of bulk at most 1048576. Conditions: the given row's own. -/
import Derived.Test.YtcfagjkijhjaoaaDdSix
import Derived.Test.YtcfagjkijhjaoaaDdSeven
set_option linter.all false
/-! DiskLasts: the plain law. -/
namespace Dk
open Go Lk

theorem look_at : ∀ {l : List DFile} (_ : Sorted l) {i : Nat} {f : DFile}, l[i]? = some f → look l f.name = some f
  | [], _, i, f, h => by simp at h
  | g :: l, hs, 0, f, h => by
    simp only [List.getElem?_cons_zero, Option.some.injEq] at h
    subst h
    rw [look_cons, if_pos rfl]
  | g :: l, hs, i + 1, f, h => by
    simp only [List.getElem?_cons_succ] at h
    rw [look_cons, if_neg, look_at hs.of_cons h]
    exact (List.pairwise_cons.1 hs.unlike).1 f (List.mem_of_getElem? h)

theorem size_at {d : DiskS} (h : Good d) {i : Nat} {f : DFile} (hf : d.files[i]? = some f) : size d f.name = ((f.bytes.length : Int), f.synced, 0) := by
  unfold size
  rw [if_pos (h.name f (List.mem_of_getElem? hf)), look_at h.sorted hf]

theorem read_at {d : DiskS} (h : Good d) {i : Nat} {f : DFile} (hf : d.files[i]? = some f) : read d f.name 0 f.bytes.length = (f.bytes, 0) := by
  unfold read
  rw [if_pos (h.name f (List.mem_of_getElem? hf)), look_at h.sorted hf]
  simp only
  rw [if_neg (by omega)]
  simp

theorem crashGo_at (keep : List Int) : ∀ (l : List DFile) (i k : Nat), (crashGo keep i l)[k]? = (l[k]?).map fun f => left f (keepAt keep (i + k))
  | [], _, _ => rfl
  | f :: l, i, 0 => rfl
  | f :: l, i, k + 1 => by
    simp only [crashGo, List.getElem?_cons_succ, crashGo_at keep l (i + 1) k]
    rw [show i + 1 + k = i + (k + 1) by omega]

section
variable (X : FnsD)

theorem e13 (n : Nat) {d : DiskS} (h : Good d) {i : Nat} {f : DFile} (hf : d.files[i]? = some f) (hn : 1 ≤ n) : X.f13 n (some d) f.name = some (f.bytes, ()) := by
  obtain ⟨m, rfl⟩ : ∃ m, n = m + 1 := ⟨n - 1, by omega⟩
  rw [X.f13_eq, X.f14_eq]
  simp only [xSize, Option.bind_some, ob_some, size_at h hf]
  rw [X.f26_eq]
  simp only [xRead, Option.bind_some, ob_some, read_at h hf]

theorem e14 (n : Nat) {d : DiskS} (h : Good d) {i : Nat} {f : DFile} (hf : d.files[i]? = some f) : X.f14 n (some d) f.name = some ((f.bytes.length : Int), f.synced, 0, ()) := by
  rw [X.f14_eq]
  simp only [xSize, Option.bind_some, size_at h hf]

theorem names_at {d : DiskS} {i : Nat} {f : DFile} (hf : d.files[i]? = some f) : (list d).getD ((i : Int).toNat) [] = f.name := by
  unfold list
  simp [List.getD_eq_getElem?_getD, hf]

theorem p3_15 (keep : List Int) (d : DiskS) (h : Good d) (n0 n1 : Nat) : ∀ (m k j : Nat), k + m = d.files.length → m + 10 ≤ j →
    X.p3_15 j n0 n1 keep (some (crash d keep).2) (some d) (list d) (list (crash d keep).2) (k : Int) = some (true, ()) := by
  have hc := h.crash keep
  have hcf : (crash d keep).2.files = crashGo keep 0 d.files := rfl
  have hl : (list d).length = d.files.length := by simp [list]
  have hl2 : (list (crash d keep).2).length = d.files.length := by
    have := congrArg List.length (crashGo_names keep d.files 0)
    simpa [list, hcf] using this
  have hmany := h.many
  intro m
  induction m with
  | zero =>
    intro k j hk hj
    obtain ⟨j, rfl⟩ : ∃ i, j = i + 1 := ⟨j - 1, by omega⟩
    rw [X.p3_15_eq, sel_ite, if_neg (by simp; omega), X.f11_eq]
    simp only [xCrash, Option.bind_some, turned, ob_some]
    rw [sel_ite, if_pos (by simp [crash]), X.f15_eq, X.f15_eq]
    simp only [xUsed, Option.bind_some, ob_some]
    have h1 := total_crashGo [] (crashGo keep 0 d.files) 0
    have h2 := total_crashGo keep d.files 0
    have h3 := h.used
    have : (crash (crash d keep).2 []).2.used ≤ d.used := by
      show total (crashGo [] 0 (crashGo keep 0 d.files)) ≤ _
      omega
    simp [this]
  | succ m ih =>
    intro k j hk hj
    obtain ⟨j, rfl⟩ : ∃ i, j = i + 3 := ⟨j - 3, by omega⟩
    have hlt : k < d.files.length := by omega
    have hf : d.files[k]? = some d.files[k] := List.getElem?_eq_getElem hlt
    generalize hfe : d.files[k] = f at hf
    have hg : (crash d keep).2.files[k]? = some (left f (keepAt keep k)) := by
      rw [hcf, crashGo_at, hf]; simp
    generalize hge : left f (keepAt keep k) = g at hg
    have hgn : g.name = f.name := by rw [← hge]; rfl
    have hs := h.synced f (List.mem_of_getElem? hf)
    have hgs : (g.bytes.length : Int) = g.synced := by
      rw [← hge]; unfold left; simp only [List.length_take]; omega
    have hgl : f.synced ≤ g.bytes.length ∧ g.bytes.length ≤ f.bytes.length := by
      rw [← hge]; unfold left; simp only [List.length_take]; omega
    have hgb : Lk.ext f.bytes 0 (g.bytes.length : Int) = g.bytes := by
      rw [← hge]
      unfold left Lk.ext win
      simp only [List.length_take]
      simp
    have hg0 : keep = [] → (g.bytes.length : Int) = f.synced := by
      intro e
      rw [← hge, e]; unfold left keepAt; simp only [List.length_take, if_true]; omega
    have a1 := names_at hf
    have a2 := names_at hg
    rw [hgn] at a2
    have b1 := e13 X (j + 2) h hf (by omega)
    have b2 := e13 X (j + 2) hc hg (by omega)
    have b3 := e14 X (j + 2) h hf
    have b4 := e14 X (j + 2) hc hg
    rw [hgn] at b2 b4
    have step : X.p3_16 (j + 2) n0 n1 (j + 2) keep (some (crash d keep).2) (some d) (list d) (list (crash d keep).2) k = some (true, ()) := by
      rw [X.p3_16_eq, wrap64 (by omega) (by omega)]
      have := ih (k + 1) (j + 2) (by omega) (by omega)
      simpa using this
    have s2071 : X.p3_2071 (j + 1) n0 n1 (j + 2) (j + 1) keep (some (crash d keep).2) (some d) (list d) (list (crash d keep).2) k false = some (true, ()) := by
      rw [X.p3_2071_eq, sel_f]; exact step
    have s22 : X.p3_22 (j + 2) n0 n1 (j + 2) keep (some (crash d keep).2) (some d) (list d) (list (crash d keep).2) k g.bytes f.synced = some (true, ()) := by
      rw [X.p3_22_eq, sel_ite]
      split
      · rename_i h0
        have hk0 : keep = [] := by simpa using h0
        rw [show ((g.bytes.length : Int) != f.synced) = false by simp [hg0 hk0]]
        exact s2071
      · exact s2071
    rw [X.p3_15_eq]
    simp only [sel_ite, decide_eq_true_eq]
    rw [if_pos (by rw [hl]; omega), if_pos (by omega), if_pos (by rw [hl]; omega), a1, b1, ob_some, if_pos (by omega), if_pos (by rw [hl]; omega), b2, ob_some, if_pos (by omega), if_pos (by rw [hl]; omega), b3, ob_some,
      if_pos (by omega), if_pos (by rw [hl]; omega), b4, ob_some, if_pos (by omega), if_pos (by rw [hl]; omega), if_pos (by omega), if_pos (by rw [hl2]; omega), a2]
    rw [if_neg (by simp), if_neg (by simp only; omega), if_neg (by simp only; omega), if_pos (by simp only; omega), if_pos (by simp only; omega), if_neg (by simp [hgb])]
    simp only [hgs, bne_self_eq_false]
    rw [X.p3_2069_eq, sel_f]
    exact s22

theorem p3_5 (keep : List Int) (hk : keep.length ≤ 1048576) (acts : List A) (ha : ∀ a ∈ acts, Fine a) (hb : acts.length ≤ 1048576) : ∀ (m k j n0 : Nat) (d : DiskS), Good d → k + m = acts.length → m + 1048700 ≤ j → 8000 ≤ n0 →
    X.p3_5 j n0 acts keep (some d) (k : Int) = some (true, ()) := by
  intro m
  induction m with
  | zero =>
    intro k j n0 d hd hkm hj hn
    obtain ⟨j, rfl⟩ : ∃ i, j = i + 1 := ⟨j - 1, by omega⟩
    obtain ⟨n, rfl⟩ : ∃ i, n0 = i + 1 := ⟨n0 - 1, by omega⟩
    rw [X.p3_5_eq, sel_ite, if_neg (by simp; omega), X.f10_eq]
    simp only [xClone, Option.bind_some, ob_some, Option.isNone_some, sel_f]
    rw [sel_ite, if_pos (by simp; omega), X.f11_eq]
    simp only [xCrash, Option.bind_some, turned, ob_some, List.nil_append]
    have e0 : ((crash d keep).1 != 0) = false := by simp [crash]
    rw [e0, X.p3_2058_eq, sel_f]
    rw [X.p3_11_eq, X.f12_eq, X.f12_eq]
    simp only [xList, Option.bind_some, ob_some]
    have hl : (list d).length = (list (crash d keep).2).length := by
      have := congrArg List.length (crashGo_names keep d.files 0)
      simpa [list, crash] using this.symm
    have hm := hd.many
    rw [sel_ite, if_neg (by simp [hl])]
    have := p3_15 X keep d hd (n + 1) n d.files.length 0 n (by omega) (by omega)
    simpa using this
  | succ m ih =>
    intro k j n0 d hd hkm hj hn
    obtain ⟨j, rfl⟩ : ∃ i, j = i + 1 := ⟨j - 1, by omega⟩
    have hlt : k < acts.length := by omega
    have hf : acts[k]? = some acts[k] := List.getElem?_eq_getElem hlt
    have hfine := ha _ (List.getElem_mem hlt)
    generalize acts[k] = a at hf hfine
    have a1 : acts.getD ((k : Int).toNat) (0, [], [], [], 0, 0, [], ()) = a := by
      simp [List.getD_eq_getElem?_getD, hf]
    rw [X.p3_5_eq]
    simp only [sel_ite, decide_eq_true_eq]
    rw [if_pos (by omega), if_pos (by omega), if_pos (by omega), a1, e9 X j d a hfine (by omega), ob_some, wrap64 (by omega) (by omega)]
    have := ih (k + 1) j n0 (act d a).2 (hd.act hfine) (by omega) (by omega) hn
    simpa using this

theorem e3 (q : Int) (acts : List A) (keep : List Int) (ha : ∀ a ∈ acts, Fine a) (hb : acts.length ≤ 1048576) (hk : keep.length ≤ 1048576) : X.f3 3000000 q acts keep = some (true, ()) := by
  rw [show (3000000 : Nat) = 2999999 + 1 from rfl, X.f3_eq, X.f8_eq]
  simp only [xNew, ob_some, sel_ite]
  by_cases h : 0 ≤ q ∧ q ≤ 268435456
  · rw [if_pos h, if_neg (by simp)]
    have := p3_5 X keep hk acts ha hb acts.length 0 2999999 2999999 ⟨[], q, 0, 0, 0, 0⟩ (Good.new h) (by omega) (by omega) (by omega)
    simpa using this
  · rw [if_neg h, if_neg h, if_pos (by simp), if_pos (by simp)]
    split
    · rfl
    · rename_i h1
      simp only [decide_eq_true_eq] at h1
      have : q > 268435456 := by omega
      simp [this]
end
end Dk

namespace Go.Proofs.Ytcfagjkijhjaoaa.diskLasts
open Go.ChangeShapes Go.WideShapes Go.ChangeAt Go.RowKit

set_option maxRecDepth 100000 in
theorem contract (H : Type) (enc : TypeId × Value → H) (W : World) (base : Nat) (args : Array Value) (ds gs : List (DataW H)) (before : List MemPlace)
    (hval : ∀ (j : Nat) t v, Try.f3.params[j]? = some t → args[j]? = some v → Value.okWide Try.prog W .any base t v)
    (hW : DataW.Whole enc Try.prog Try.f3.params.toList Rows.diskLastsSpec.vars false W args.toList ds gs before) (hk : Rows.uptoSmall H (ds ++ gs) = true) :
    Calls Try.prog 3 args W fun e W' => ∃ v, e = .returned v ∧ Rows.diskLastsSpec.post enc Try.prog Try.f3 false true false false W args v W' := by
  have d3 : Lk.Desc Try.prog 3 (.i .i64) := Lk.descB_ok _ _ (by kernel_rfl)
  have d22 : Lk.Desc Try.prog 22 (.l actT) := Lk.descB_ok _ _ (by kernel_rfl)
  have d23 : Lk.Desc Try.prog 23 (.l (.i .i64)) := Lk.descB_ok _ _ (by kernel_rfl)
  have hfit : Lk.Fits Try.prog [(.i .i64, .r), (.l actT, .b), (.l (.i .i64), .b)] Try.f3.params.toList := by
    rw [Try.params3]
    exact ⟨d3, by kernel_rfl, rfl, .inr rfl, rfl, d22, by kernel_rfl, rfl, .inl rfl, rfl, d23, by kernel_rfl, rfl, .inl rfl, rfl, trivial⟩
  have hds : ∃ d1 d2 d3 : DataW H, ds = [d1, d2, d3] ∧ gs = [] := by
    obtain ⟨p, q, hA, hV, _, _, _⟩ := hW
    obtain ⟨rfl, rfl⟩ := trodVars_none hV
    rw [Try.params3] at hA
    obtain ⟨v0, vs0, d0, ds0, p0, q0, _, rfl, _, _, r0⟩ := trodAll_cons hA
    obtain ⟨v1, vs1, d1, ds1, p1, q1, _, rfl, _, _, r1⟩ := trodAll_cons r0
    obtain ⟨v2, vs2, d2, ds2, p2, q2, _, rfl, _, _, r2⟩ := trodAll_cons r1
    obtain ⟨_, rfl, _⟩ := trodAll_nil r2
    exact ⟨d0, d1, d2, rfl, rfl⟩
  obtain ⟨d1, d2, d3', rfl, rfl⟩ := hds
  have hsz : Rows.uptoBulkAll [d1, d2, d3'] ≤ 1048576 := of_decide_eq_true hk
  simp only [Rows.uptoBulkAll] at hsz
  refine (Lk.law_calls_rng (τ := ax) (fn := Try.f3) (Kw := kw) trivial (Nat.zero_le _) hW hval hfit (fun x hr hx _ => ?_)).mono fun e W' ⟨he, hb⟩ => ⟨_, he, ?_⟩
  · obtain ⟨_, _, e1, _, _, _, e2, t2, _, _, e3, t3, _⟩ := hx
    cases e1; cases e2; cases e3
    obtain ⟨_, r2, _⟩ := hr
    have b2 := row_bulk t2
    have b3 := row_bulk t3
    refine ⟨Lk.F DkGG.G 3000000 3, Lk.F_ok DkGGP.prg DkGGP.res _ 3, ?_⟩
    have := Dk.e3 DkGG.theFnsD x.1 x.2.1 x.2.2.1 (acts_fine t2 r2 (by omega)) (Nat.le_trans b2 (by omega)) (Nat.le_trans b3 (by omega))
    have e : DkGG.theFnsD.f3 3000000 x.1 x.2.1 x.2.2.1 = DkGG.f3 3000000 x.1 x.2.1 x.2.2.1 := rfl
    rw [e] at this
    unfold DkGG.f3 at this
    exact this
  · refine Lk.post_law hW (by kernel_rfl) ?_ rfl rfl (R := 4) rfl Try.underlying4 hb
    intro t ht
    rw [Try.params3] at ht
    simp only [List.mem_cons, List.not_mem_nil, or_false] at ht
    rcases ht with rfl | rfl | rfl <;> exact ⟨by kernel_rfl, by decide +kernel⟩

set_option maxRecDepth 100000 in
theorem lifted (os : Os) (started : os.Started) (H : Type) (enc : TypeId × Value → H) (F : Stop.Interp) :
    ReturnsInHanded {} Try.checked os 3 .any ((Rows.OpenSpec.upto Rows.diskLastsSpec).pre6 enc Try.prog Try.f3 Rows.diskLastsUptoRow.domain false) (((Rows.OpenSpec.upto Rows.diskLastsSpec).at F).post enc Try.prog Try.f3 false true false false) := by
  refine returnsInHanded_of_cond (C := Try.checked) (s := Rows.OpenSpec.upto Rows.diskLastsSpec) (k := Rows.uptoSmall) rfl own started (by kernel_rfl) Try.func3
    (OpenSpec.witness (enc := enc) (C := Try.checked) (s := Rows.OpenSpec.upto Rows.diskLastsSpec) (k := Rows.uptoSmall) rfl false ⟨#[], #[.int .i64 0, .slice none 0 0, .slice none 0 0], []⟩ 8 (by kernel_rfl) (by kernel_rfl) (by kernel_rfl)
      (x := ([.lit (.int .i64 0), .nil, .nil], [], [])) (by kernel_rfl) rfl (by kernel_rfl)) ?_
  intro W base args ds gs before hval hW _ hk _
  exact contract H enc W base args ds gs before hval hW hk

theorem proved : Rows.DiskLastsUptoSaid :=
  OpenClaim.holds_of_cond 3 Try.f3 rfl rfl rfl rfl rfl rfl rfl ⟨rfl, rfl, rfl, rfl, rfl⟩ rfl rfl rfl rfl rfl (by kernel_rfl) Try.func3 (by kernel_rfl)
    (of_decide_eq_true (by kernel_rfl)) (by unfold Func.isWrapper; first | (rw [if_pos (by decide +kernel)]; kernel_rfl) | (rw [if_neg (by decide +kernel)]; exact ⟨rfl, rfl⟩))
    (fun os started H enc _ F => lifted os started H enc F)
end Go.Proofs.Ytcfagjkijhjaoaa.diskLasts

