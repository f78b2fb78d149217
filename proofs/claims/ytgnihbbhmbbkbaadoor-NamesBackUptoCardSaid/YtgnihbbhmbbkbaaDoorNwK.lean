/- Words, each quoted where it has to be, put together with blanks between them are told again by names.Split: where what comes in, the library's tables with it, is of bulk at most 1048576. Conditions: the given row's own, the tables of utf8, math/bits and strconv as the program's text lays them among them. -/
import Derived.Test.YtgnihbbhmbbkbaaDoorLmTwo
import Derived.Deep.Slices
import Derived.DataReads
import Derived.ChangeSlices
import Derived.Test.YtgnihbbhmbbkbaaDoorNwP
import Derived.Test.YtgnihbbhmbbkbaaDoorNwJ
set_option linter.all false
/-! From a row's reading to what L has: scalars and rows of them. -/
namespace Lk
open Go

def All2 {α β : Type} (R : α → β → Prop) : List α → List β → Prop
  | [], [] => True
  | a :: l, b :: r => R a b ∧ All2 R l r
  | _, _ => False

theorem All2.length {α β : Type} {R : α → β → Prop} : ∀ {l : List α} {r : List β}, All2 R l r → l.length = r.length
  | [], [], _ => rfl
  | _ :: _, _ :: _, h => by simp only [List.length_cons, All2.length h.2]
  | [], _ :: _, h => h.elim
  | _ :: _, [], h => h.elim

theorem all2_of {α β : Type} {R : α → β → Prop} {Q : Nat → α → Prop} : ∀ (n k : Nat) (f : Nat → β), (∀ i, k ≤ i → i < k + n → ∃ a, R a (f i) ∧ Q i a) →
    ∃ l : List α, All2 R l ((List.range n).map fun i => f (k + i)) ∧ l.length = n ∧ ∀ i a, l[i]? = some a → Q (k + i) a
  | 0, _, _, _ => ⟨[], trivial, rfl, fun i a h => by simp at h⟩
  | n + 1, k, f, h => by
    obtain ⟨a, ha, hq⟩ := h k (by omega) (by omega)
    obtain ⟨l, hl, hn, hQ⟩ := all2_of n (k + 1) f (fun i h1 h2 => h i (by omega) (by omega))
    refine ⟨a :: l, ?_, by simp [hn], fun i b hb => ?_⟩
    · rw [List.range_succ_eq_map, List.map_cons, List.map_map]
      refine ⟨by rw [Nat.add_zero]; exact ha, ?_⟩
      have : ((fun i => f (k + i)) ∘ Nat.succ) = fun i => f (k + 1 + i) := by funext i; simp only [Function.comp]; congr 1; omega
      rw [this]; exact hl
    · cases i with
      | zero => simp only [List.getElem?_cons_zero, Option.some.injEq] at hb; subst hb; exact hq
      | succ i => have := hQ i b (by simpa using hb); rw [show k + (i + 1) = k + 1 + i by omega]; exact this

section
variable {H : Type} {enc : TypeId × Value → H} {P : Program} {W : World} {τ : TypeId}

/-- The datum of a value. -/
def Told : (t : Ty) → E t → DataW H → Prop
  | .i k, x, d => d = .lit (.int k x)
  | .by, x, d => d = .lit (.int .u8 x.toNat)
  | .b, x, d => d = .lit (.bool x)
  | .s, x, d => d = .lit (.string x)
  | .l t, x, d => (x = [] ∧ d = .nil) ∨ ∃ es rest, d = .slice es rest ∧ All2 (Told t) x es
  | _, _, _ => False

/-- Types of which that is said. -/
def told : Ty → Bool
  | .i _ | .by | .b | .s => true | .l t => told t | _ => false

theorem csz_told : ∀ {t : Ty}, told t = true → csz t = 1 := by
  intro t h
  cases t <;> simp_all [told, csz]

theorem cell_at {a : Addr} {v : Value} (h : W.cell? a = some v) : ∃ C e f, W.heap[a.block]? = some (.cells C e f) ∧ a.spot = none ∧ C[a.off]? = some v := by
  unfold World.cell? at h
  split at h
  · rename_i C e f hC
    split at h
    · cases h
    · rename_i hs
      exact ⟨C, e, f, hC, by simpa using hs, h⟩
  · cases h

theorem wf_inR {k : IntKind} {n : Int} (h : (Lit.int k n).wf = true) : inR k n := by
  simp only [Lit.wf, Bool.and_eq_true, decide_eq_true_eq] at h
  cases k <;> simpa [inR, kmin, kmax, IntKind.min, IntKind.max, IntKind.bits, IntKind.signed] using h

theorem win_one {C : Array Value} {o : Nat} {v : Value} (h : C[o]? = some v) : win C.toList o 1 = [v] := by
  unfold win
  have ho : o < C.toList.length := by simpa using (Array.getElem?_eq_some_iff.1 h).1
  rw [List.drop_eq_getElem_cons ho]
  have : C.toList[o] = v := by
    have := (Array.getElem?_eq_some_iff.1 h).2
    simpa using this
  rw [this]; rfl

theorem rd_of_trod {sp : Nat → Bool} {held : Bool} : ∀ (t : Ty) (T : TypeId) (fuel : Nat) (cs : List Value) (d : DataW H) (p : List MemPlace), told t = true → Desc P T t → DataW.trod enc P W 0 sp held fuel T cs = some (d, p) →
    ∃ x : E t, Rd τ (· < W.heap.size) W t x cs ∧ Told t x d := by
  intro t
  induction t with
  | i k =>
    intro T fuel cs d p _ hd h
    obtain ⟨n, rfl, hx, hw⟩ := DataW.trod_int hd h
    simp only [Prod.mk.injEq] at hx
    exact ⟨n, ⟨rfl, wf_inR hw⟩, hx.1⟩
  | «by» =>
    intro T fuel cs d p _ hd h
    obtain ⟨n, rfl, hx, hw⟩ := DataW.trod_int hd h
    simp only [Prod.mk.injEq] at hx
    have hr := wf_inR hw
    simp only [inR, kmin, kmax] at hr
    have e : ((UInt8.ofNat n.toNat).toNat : Int) = n := by
      rw [UInt8.toNat_ofNat']; omega
    refine ⟨UInt8.ofNat n.toNat, ?_, ?_⟩
    · show [Value.int .u8 n] = [Value.int .u8 ((UInt8.ofNat n.toNat).toNat : Int)]
      rw [e]
    · show d = .lit (.int .u8 ((UInt8.ofNat n.toNat).toNat : Int))
      rw [e]; exact hx.1
  | b =>
    intro T fuel cs d p _ hd h
    obtain ⟨n, rfl, hx⟩ := DataW.trod_bool hd h
    simp only [Prod.mk.injEq] at hx
    exact ⟨n, rfl, hx.1⟩
  | s =>
    intro T fuel cs d p _ hd h
    obtain ⟨n, rfl, hx, hw⟩ := DataW.trod_string hd h
    simp only [Prod.mk.injEq] at hx
    refine ⟨n.data.toList, ⟨by simp [strV], ?_⟩, hx.1⟩
    have : n.data.toList.length = n.size := by rw [Array.length_toList]; rfl
    rw [this]; simp only [maxLen] at hw; simp only [big]; omega
  | l t ih =>
    intro T fuel cs d p ht hd h
    obtain ⟨e, i, z, hT, hi, hs, hz, hzs, hde⟩ := hd
    have hct : P.cellsOf e = 1 := by unfold Program.cellsOf; rw [hi]; simp [hs, csz_told (t := t) ht]
    rcases Go.Deep.open_slice1 hT hct h with ⟨rfl, hx⟩ | ⟨a, len, cap, m, n, V, D, Pl, rfl, _, hl, hm, hmm, hx, hV⟩
    · simp only [Prod.mk.injEq] at hx
      exact ⟨[], ⟨none, 0, rfl, Nat.le_refl _, Nat.zero_le _, fun _ => rfl, .inl rfl⟩, .inl ⟨rfl, hx.1⟩⟩
    · simp only [Prod.mk.injEq] at hx
      have hlm : len ≤ m := by rw [hmm]; split <;> omega
      obtain ⟨x, h2, hxl, hq⟩ := all2_of (R := Told t) (Q := fun i y => Rd τ (· < W.heap.size) W t y [V i]) len 0 D (fun i _ hi => by
        obtain ⟨h1, h2⟩ := hV i (by omega)
        obtain ⟨y, hy1, hy2⟩ := ih e n [V i] (D i) (Pl i) ht hde h2
        exact ⟨y, hy2, hy1⟩)
      simp only [Nat.zero_add] at h2 hq
      refine ⟨x, ⟨some a, cap, by rw [hxl], by rw [hxl]; exact hl, by simp only [maxLen] at hm; simp only [big]; omega, by simp, ?_⟩, .inr ⟨_, _, hx.1, h2⟩⟩
      rcases Nat.eq_zero_or_pos len with h0 | h0
      · left; exact List.eq_nil_of_length_eq_zero (by omega)
      · right
        obtain ⟨C, e', f, hC, hsp, _⟩ := cell_at (hV 0 (by omega)).1
        have hb : ∀ k, (a.add k).block = a.block ∧ (a.add k).off = a.off + k := by
          intro k; unfold Addr.add; split
          · rename_i hk; subst hk; exact ⟨rfl, rfl⟩
          · exact ⟨rfl, rfl⟩
        have hs0 : a.spot = none := by simpa [Addr.add] using hsp
        have hC0 : W.heap[a.block]? = some (.cells C e' f) := by rw [← (hb 0).1]; exact hC
        refine ⟨a.block, a.off, C, e', f, ?_, (Array.getElem?_eq_some_iff.1 hC0).1, hC0, fun i y hy => ?_⟩
        · obtain ⟨b, o, s⟩ := a
          simp only at hs0 ⊢
          rw [hs0]
        · have hil : i < len := by rw [← hxl]; exact (List.getElem?_eq_some_iff.1 hy).1
          obtain ⟨C', e2, f2, hC', _, hv⟩ := cell_at (hV i (by omega)).1
          have hC1 : W.heap[a.block]? = some (.cells C' e2 f2) := by rw [← (hb i).1]; exact hC'
          rw [(hb i).2] at hv
          rw [hC0] at hC1
          cases hC1
          rw [csz_told (t := t) ht, Nat.mul_one, win_one (v := V i) hv]
          exact hq i y hy
  | _ => intro T fuel cs d p ht; simp [told] at ht

/-- Arguments' types, as L has them. -/
def Fits (P : Program) : List (Ty × Md) → List TypeId → Prop
  | [], [] => True
  | p :: ps, T :: ts => Desc P T p.1 ∧ told p.1 = true ∧ (p.2 = .b ∨ p.2 = .r) ∧ Lk.cp p.1 p.2 = true ∧ Fits P ps ts
  | _, _ => False

def ToldAll : (ps : List (Ty × Md)) → Tup ps → List (DataW H) → Prop
  | [], _, ds => ds = []
  | p :: ps, x, ds => ∃ d r, ds = d :: r ∧ Told p.1 x.1 d ∧ ToldAll ps x.2 r

theorem one_cell {t : Ty} {T : TypeId} {v : Value} {r : Reach} {base : Nat} (ht : told t = true) (hd : Desc P T t) (h : Value.okWide P W r base T v) : v.cells.toList = [v] := by
  cases t with
  | i k => obtain ⟨n, rfl⟩ := WideShapes.okWide_int hd h; rfl
  | «by» => obtain ⟨n, rfl⟩ := WideShapes.okWide_int hd h; rfl
  | b => obtain ⟨n, rfl⟩ := WideShapes.okWide_bool hd h; rfl
  | s => obtain ⟨n, rfl⟩ := WideShapes.okWide_string hd h; rfl
  | l t => obtain ⟨e, i, z, hT, _⟩ := hd; obtain ⟨a, l, c, rfl⟩ := WideShapes.okWide_slice hT h; rfl
  | _ => simp [told] at ht

theorem told_val {t : Ty} {v : Value} (ht : told t = true) : valOf t [v] = v := by
  cases t <;> first | rfl | simp [told] at ht

theorem args_of {sp : Nat → Bool} {held : Bool} {r : Reach} {base : Nat} : ∀ (ps : List (Ty × Md)) (ts : List TypeId) (vals : List Value) (ds : List (DataW H)) (p : List MemPlace), Fits P ps ts →
    (∀ (j : Nat) (t : TypeId) (v : Value), ts[j]? = some t → vals[j]? = some v → Value.okWide P W r base t v) → DataW.TrodAll enc P W 0 sp held ts vals ds p →
    ∃ x : Tup ps, ArgsAre (τ := τ) (· < W.heap.size) (· < W.heap.size) W ps x vals ∧ ToldAll ps x ds
  | [], [], [], [], _, _, _, _ => ⟨(), rfl, rfl⟩
  | q :: ps, T :: ts, v :: vals, d :: ds, p, hf, hv, h => by
    obtain ⟨p1, p2, ⟨fuel, h1⟩, h2, _⟩ := h
    obtain ⟨f1, f2, f3, f4, f5⟩ := hf
    have hok := hv 0 T v rfl rfl
    rw [one_cell f2 f1 hok] at h1
    obtain ⟨y, hy, ht⟩ := rd_of_trod (τ := τ) q.1 T fuel [v] d p1 f2 f1 h1
    obtain ⟨xs, hxs, hts⟩ := args_of ps ts vals ds p2 f5 (fun j t v h1 h2 => hv (j + 1) t v h1 h2) h2
    obtain ⟨sh, hsh⟩ := Rd_sh q.1 y [v] hy
    refine ⟨(y, xs), ⟨v, vals, sh, rfl, ?_, cp_bl _ _ _ _ f4, ?_, hxs⟩, d, ds, rfl, ht, hts⟩
    · rcases f3 with e | e
      · rw [e, hold_b, hsh]; exact hy
      · rw [e, hold_r, hsh]; exact hy
    · rw [hsh, told_val f2]
  | [], [], _ :: _, _, _, _, _, h => h.elim
  | [], [], [], _ :: _, _, _, _, h => h.elim
  | [], _ :: _, _, _, _, hf, _, _ => hf.elim
  | _ :: _, [], _, _, _, hf, _, _ => hf.elim
  | _ :: _, _ :: _, [], _, _, _, _, h => h.elim
  | _ :: _, _ :: _, _ :: _, [], _, _, _, h => h.elim

/-- The walk of a law: all that it takes are scalars and rows of them. -/
theorem law_calls {Kw : World → Prop} {g : FuncId} {fn : Func} {ps : List (Ty × Md)} {args : Array Value} {ds gs : List (DataW H)} {before : List MemPlace} {base : Nat}
    (hK : Kw W) (hW : DataW.Whole enc P fn.params.toList [] false W args.toList ds gs before)
    (hval : ∀ (j : Nat) t v, fn.params[j]? = some t → args[j]? = some v → Value.okWide P W .any base t v) (hfit : Fits P ps fn.params.toList)
    (hF : ∀ x : Tup ps, ToldAll ps x ds → gs = [] → ∃ Fg : Tup ps → Option (Tup [(Ty.b, Md.r)]), FnOk (τ := τ) (Kw := Kw) P g ⟨ps, [(.b, .r)]⟩ Fg ∧ Fg x = some (true, ())) :
    Calls P g args W fun e w' => e = .returned (.bool true) ∧ RowKit.Below W.heap.size W w' := by
  obtain ⟨p, q, hA, hV, _, _, _⟩ := hW
  obtain ⟨rfl, rfl⟩ := ChangeShapes.trodVars_none hV
  obtain ⟨x, hx, ht⟩ := args_of (τ := τ) ps fn.params.toList args.toList ds p hfit (fun j t v h1 h2 => hval j t v (by simpa using h1) (by simpa using h2)) hA
  obtain ⟨Fg, hok, hF⟩ := hF x ht rfl
  have := calls_bool hok hF hK hx
  simpa using this
end
end Lk

/-! Put together and parted: plain. -/
namespace Nq
open Go Lk NqG
variable (X : FnsW)

theorem f24_ok (a b : List (List UInt8)) (ha : a.length ≤ 1073741824) (j : Nat) (hj : a.length + 2 ≤ j) : X.f24 j a b = some (a == b, ()) := by
  obtain ⟨j, rfl⟩ : ∃ k, j = k + 1 := ⟨j - 1, by omega⟩
  rw [X.f24_eq]
  by_cases hl : a.length = b.length
  · have e : (((a.length : Nat) : Int) != ((b.length : Nat) : Int)) = false := by rw [hl]; simp
    rw [e]
    simp only [sel_f]
    have go : ∀ (N i jj n0 : Nat), a.length = i + N → N < jj → X.p24_4 jj n0 a b (i : Int) = some (a.drop i == b.drop i, ()) := by
      intro N
      induction N with
      | zero =>
        intro i jj n0 h hjj
        obtain ⟨jj, rfl⟩ : ∃ k, jj = k + 1 := ⟨jj - 1, by omega⟩
        rw [X.p24_4_eq, sel_dec, if_neg (by omega), List.drop_eq_nil_of_le (by omega), List.drop_eq_nil_of_le (by omega)]
        rfl
      | succ N ih =>
        intro i jj n0 h hjj
        obtain ⟨jj, rfl⟩ : ∃ k, jj = k + 1 := ⟨jj - 1, by omega⟩
        have w1 : IntKind.i64.wrap ((i : Int) + 1) = ((i + 1 : Nat) : Int) := by rw [wrap64 (by omega) (by omega)]; omega
        rw [X.p24_4_eq]
        simp only [sel_dec]
        rw [if_pos (by omega), if_pos (by omega), if_pos (by omega), if_pos (by omega), if_pos (by omega), w1, ih (i + 1) jj n0 (by omega) (by omega)]
        have ea : a.drop i = a.getD i [] :: a.drop (i + 1) := by
          rw [List.drop_eq_getElem_cons (by omega), List.getD_eq_getElem?_getD, List.getElem?_eq_getElem (by omega)]; rfl
        have eb : b.drop i = b.getD i [] :: b.drop (i + 1) := by
          rw [List.drop_eq_getElem_cons (by omega), List.getD_eq_getElem?_getD, List.getElem?_eq_getElem (by omega)]; rfl
        rw [ea, eb, Int.toNat_natCast, List.cons_beq_cons]
        cases (a.getD i [] == b.getD i [])
        · simp [sel]
        · simp [sel]
    have := go a.length 0 j j (by omega) (by omega)
    simpa using this
  · have e : (((a.length : Nat) : Int) != ((b.length : Nat) : Int)) = true := by rw [bne_iff_ne]; omega
    rw [e]
    simp only [sel_t]
    have : (a == b) = false := by rw [beq_eq_false_iff_ne]; intro h; exact hl (by rw [h])
    rw [this]

section
variable (line : List UInt8) (hlen : line.length ≤ 16777216)
include hlen

/-- From a place a quote's end is found. -/
def Ends (p e : Nat) : Prop := ∀ j n0, line.length + 4 ≤ p + j → X.p49_2 j n0 line (p : Int) = some ((e : Int), true, ())

theorem ends_quo {p : Nat} {r : List UInt8} (h : line.drop p = 34 :: r) : Ends X line p (p + 1) := by
  intro j n0 hj
  obtain ⟨h1, h2, _⟩ := get_drop h
  obtain ⟨j, rfl⟩ : ∃ k, j = k + 1 := ⟨j - 1, by omega⟩
  have w1 : IntKind.i64.wrap ((p : Int) + 1) = ((p + 1 : Nat) : Int) := by rw [wrap64 (by omega) (by omega)]; omega
  rw [X.p49_2_eq]
  simp only [sel_dec, Int.toNat_natCast, b_eq, h1, w1]
  rw [if_pos (by omega), if_pos (by omega), if_pos (by omega)]
  rfl

theorem ends_esc {p e : Nat} {c : UInt8} {r : List UInt8} (h : line.drop p = 92 :: c :: r) (k : Ends X line (p + 2) e) : Ends X line p e := by
  intro j n0 hj
  obtain ⟨h1, h2, h3⟩ := get_drop h
  obtain ⟨_, h4, _⟩ := get_drop h3
  obtain ⟨j, rfl⟩ : ∃ k, j = k + 2 := ⟨j - 2, by omega⟩
  have w1 : IntKind.i64.wrap ((p : Int) + 1) = ((p + 1 : Nat) : Int) := by rw [wrap64 (by omega) (by omega)]; omega
  have w2 : IntKind.i64.wrap (((p + 1 : Nat) : Int) + 1) = ((p + 2 : Nat) : Int) := by rw [wrap64 (by omega) (by omega)]; omega
  rw [X.p49_2_eq]
  simp only [sel_dec, Int.toNat_natCast, b_eq, h1, w1, X.p49_3_eq, w2]
  rw [if_pos (by omega), if_pos (by omega), if_pos (by omega)]
  exact k (j + 1) n0 (by omega)

theorem ends_one {p e : Nat} {c : UInt8} {r : List UInt8} (h : line.drop p = c :: r) (hc : c ≠ 92 ∧ c ≠ 34) (k : Ends X line (p + 1) e) : Ends X line p e := by
  intro j n0 hj
  obtain ⟨h1, h2, h3⟩ := get_drop h
  obtain ⟨j, rfl⟩ : ∃ k, j = k + 2 := ⟨j - 2, by omega⟩
  have w1 : IntKind.i64.wrap ((p : Int) + 1) = ((p + 1 : Nat) : Int) := by rw [wrap64 (by omega) (by omega)]; omega
  rw [X.p49_2_eq]
  simp only [sel_dec, Int.toNat_natCast, b_eq, h1, X.p49_3_eq, w1]
  rw [if_pos (by omega), if_pos (by omega), if_pos (by omega), show (c == 92) = false by simpa using hc.1, show (c == 34) = false by simpa using hc.2]
  exact k (j + 1) n0 (by omega)

theorem ends_many {e : Nat} : ∀ (l : List UInt8) (p : Nat) (r : List UInt8), line.drop p = l ++ r → (∀ c ∈ l, c ≠ 92 ∧ c ≠ 34) → Ends X line (p + l.length) e → Ends X line p e
  | [], p, r, _, _, k => by simpa using k
  | c :: l, p, r, h, hc, k => by
    have h' : line.drop p = c :: (l ++ r) := h
    refine ends_one X line hlen h' (hc c (List.mem_cons_self ..)) (ends_many l (p + 1) r (get_drop h').2.2 (fun c hc' => hc c (List.mem_cons_of_mem _ hc')) ?_)
    rw [List.length_cons, show p + (l.length + 1) = p + 1 + l.length by omega] at k
    exact k

omit hlen in
theorem hx_not : ∀ k : Fin 16, hx k.val ≠ 92 ∧ hx k.val ≠ 34 := by decide +kernel

theorem ends_escd {p e : Nat} {a : UInt8} {r : List UInt8} (h : line.drop p = esc a ++ r) (k : Ends X line (p + 4) e) : Ends X line p e := by
  have h' : line.drop p = 92 :: 120 :: ([hx (a.toNat / 16), hx (a.toNat % 16)] ++ r) := h
  have := a.toNat_lt
  refine ends_esc X line hlen h' (ends_many X line hlen _ (p + 2) r (get_drop (get_drop h').2.2).2.2 (fun c hc => ?_) k)
  simp only [List.mem_cons, List.not_mem_nil, or_false] at hc
  rcases hc with rfl | rfl
  · exact hx_not ⟨a.toNat / 16, by omega⟩
  · exact hx_not ⟨a.toNat % 16, by omega⟩

theorem ends_escs {e : Nat} : ∀ (l : List UInt8) (p : Nat) (r : List UInt8), line.drop p = escs l ++ r → Ends X line (p + 4 * l.length) e → Ends X line p e
  | [], p, r, _, k => by simpa using k
  | a :: l, p, r, h, k => by
    have e' : escs (a :: l) = esc a ++ escs l := by simp [escs]
    rw [e', List.append_assoc] at h
    refine ends_escd X line hlen h (ends_escs l (p + 4) r (drop_more h) ?_)
    rw [List.length_cons, show p + 4 * (l.length + 1) = p + 4 + 4 * l.length by omega] at k
    exact k

omit hlen in
theorem raw_not (b : List UInt8) (i : Nat) (hi : i < b.length) (he : (rn b i == 65533 && sz b i == 1) = false) (hse : self (rn b i) = true) : ∀ c ∈ ext b (i : Int) ((i + sz b i : Nat) : Int), c ≠ 92 ∧ c ≠ 34 := by
  intro c hc
  have hle := decode_le b i hi
  obtain ⟨k, hk, rfl⟩ := List.getElem_of_mem hc
  have hel := ext_len b i (i + sz b i) hle
  have hg := ext_get b i (i + sz b i) k hle (by omega)
  rw [List.getD_eq_getElem?_getD, List.getElem?_eq_getElem hk] at hg
  simp only [Option.getD_some] at hg
  rw [hg]
  have hs := self_byte he hse
  by_cases h0 : k = 0
  · rw [h0, Nat.add_zero]; exact ⟨hs.2, hs.1⟩
  · have hbig : 128 ≤ byt b i := by
      rcases Nat.lt_or_ge (byt b i) 128 with h | h
      · have hr := runeR_ok b i he
        rw [rune_eq] at hr
        unfold runeB at hr
        rw [if_pos h] at hr
        simp only [Prod.mk.injEq] at hr
        omega
      · exact h
    have := piece_big b i he hbig k (by omega)
    unfold byt at this
    constructor <;> intro h <;> rw [h] at this <;> exact absurd this (by decide)

theorem ends_from (b : List UInt8) : ∀ (n i p : Nat) (r : List UInt8), line.drop p = qFrom b n i ++ (34 :: r) → b.length ≤ i + n → i ≤ b.length → Ends X line p (p + (qFrom b n i).length + 1)
  | 0, i, p, r, h, _, _ => ends_quo X line hlen h
  | n + 1, i, p, r, h, hn, hi => by
    by_cases hlt : i < b.length
    · have hle := decode_le b i hlt
      have hs := sz_bd b i
      have eq : qFrom b (n + 1) i = wri b i ++ qFrom b n (i + sz b i) := by simp only [qFrom]; rw [blt_t hlt]; rfl
      rw [eq, List.append_assoc] at h
      have ih := ends_from b n (i + sz b i) (p + (wri b i).length) r (drop_more h) (by omega) (by omega)
      have el : p + (qFrom b (n + 1) i).length + 1 = p + (wri b i).length + (qFrom b n (i + sz b i)).length + 1 := by rw [eq, List.length_append]; omega
      rw [el]
      revert h ih
      generalize p + (wri b i).length + (qFrom b n (i + sz b i)).length + 1 = e
      unfold wri
      have esc2 : ∀ c : UInt8, line.drop p = [92, c] ++ (qFrom b n (i + sz b i) ++ 34 :: r) → Ends X line (p + ([92, c] : List UInt8).length) e → Ends X line p e := fun c h ih => ends_esc X line hlen (show line.drop p = 92 :: c :: _ from h) ih
      cases he : (rn b i == 65533 && sz b i == 1)
      · cases (rn b i == 10)
        · cases (rn b i == 9)
          · cases (rn b i == 32)
            · cases (rn b i == 34)
              · cases (rn b i == 92)
                · cases hse : self (rn b i)
                  · intro h ih
                    simp only [cond_false] at h ih
                    rw [escs_len] at ih
                    exact ends_escs X line hlen _ _ _ h ih
                  · intro h ih
                    simp only [cond_false, cond_true] at h ih
                    exact ends_many X line hlen _ _ _ h (raw_not b i hlt he hse) ih
                · exact fun h ih => esc2 92 h ih
              · exact fun h ih => esc2 34 h ih
            · exact fun h ih => esc2 115 h ih
          · exact fun h ih => esc2 116 h ih
        · exact fun h ih => esc2 110 h ih
      · exact fun h ih => ends_escd X line hlen h ih
    · have eq : qFrom b (n + 1) i = [] := by simp only [qFrom]; rw [blt_f hlt]; rfl
      rw [eq] at h ⊢
      exact ends_quo X line hlen h

theorem f49_ok (b : List UInt8) (i : Nat) (r : List UInt8) (h : line.drop i = quote b ++ r) (j : Nat) (hj : line.length + 4 ≤ i + j) : X.f49 j line (i : Int) = some (((i + (quote b).length : Nat) : Int), true, ()) := by
  have h' : line.drop i = 34 :: (qFrom b b.length 0 ++ (34 :: r)) := by rw [h]; simp [quote]
  obtain ⟨_, hl, h2⟩ := get_drop h'
  obtain ⟨j, rfl⟩ : ∃ k, j = k + 1 := ⟨j - 1, by omega⟩
  have w1 : IntKind.i64.wrap ((i : Int) + 1) = ((i + 1 : Nat) : Int) := by rw [wrap64 (by omega) (by omega)]; omega
  rw [X.f49_eq, w1, ends_from X line hlen b b.length 0 (i + 1) r h2 (by omega) (by omega) j j (by omega)]
  have : i + 1 + (qFrom b b.length 0).length + 1 = i + (quote b).length := by simp [quote]; omega
  rw [this]

/-- A word's bytes: no blank among them. -/
theorem bare_run (w : List UInt8) (v2 : List (List UInt8)) (v5 v6 v8 : Int) (n0 n1 n2 : Nat) : ∀ (l : List UInt8) (p : Nat) (r : List UInt8) (j : Nat), line.drop p = l ++ r → (∀ c ∈ l, c ≠ 32) → (r = [] ∨ ∃ s, r = 32 :: s) → l.length + 3 ≤ j →
    X.p23_21 j n0 n1 n2 line v2 v5 v6 v8 (p : Int) = X.p23_23 n2 n0 n1 n2 line v2 v5 v6 v8 ((p + l.length : Nat) : Int)
  | [], p, r, j, h, _, hr, hj => by
    obtain ⟨j, rfl⟩ : ∃ k, j = k + 1 := ⟨j - 1, by omega⟩
    rw [X.p23_21_eq]
    simp only [sel_dec, Int.toNat_natCast, b_ne]
    rcases hr with rfl | ⟨s, rfl⟩
    · have := congrArg List.length h
      simp at this
      rw [if_neg (by omega)]
      rfl
    · obtain ⟨h1, h2, _⟩ := get_drop (show line.drop p = 32 :: s from h)
      rw [if_pos (by omega), if_pos (by omega), if_pos (by omega), h1]
      rfl
  | c :: l, p, r, j, h, hc, hr, hj => by
    simp only [List.length_cons] at hj
    obtain ⟨j, rfl⟩ : ∃ k, j = k + 2 := ⟨j - 2, by omega⟩
    obtain ⟨h1, h2, h3⟩ := get_drop (show line.drop p = c :: (l ++ r) from h)
    have w1 : IntKind.i64.wrap ((p : Int) + 1) = ((p + 1 : Nat) : Int) := by rw [wrap64 (by omega) (by omega)]; omega
    have hne : (c != 32) = true := by simpa using hc c (List.mem_cons_self ..)
    rw [X.p23_21_eq]
    simp only [sel_dec, Int.toNat_natCast, b_ne, h1, hne, sel_t, X.p23_22_eq, w1]
    rw [if_pos (by omega), if_pos (by omega), if_pos (by omega), bare_run w v2 v5 v6 v8 n0 n1 n2 l (p + 1) r (j + 1) h3 (fun c hc' => hc c (List.mem_cons_of_mem _ hc')) hr (by omega), List.length_cons, show p + 1 + l.length = p + (l.length + 1) by omega]
end

/-- Blanks and words. -/
def joined : List (Nat × List UInt8) → List UInt8
  | [] => []
  | p :: ps => (List.replicate (p.1 + 1) 32 ++ p.2) ++ joined ps

theorem joined_app (a b : List (Nat × List UInt8)) : joined (a ++ b) = joined a ++ joined b := by
  induction a with
  | nil => rfl
  | cons p a ih => simp [joined, ih]

theorem joined_head (ps : List (Nat × List UInt8)) : joined ps = [] ∨ ∃ s, joined ps = 32 :: s := by
  cases ps with
  | nil => left; rfl
  | cons p ps => right; exact ⟨_, by simp [joined, List.replicate_succ]; rfl⟩

theorem okB_not {c : UInt8} (h : okB c = true) : c ≠ 32 ∧ ¬ c < 32 ∧ c ≠ 127 := by
  revert h; revert c
  apply forall_u8
  decide +kernel

/-- The parting of what was put together, from a place on. -/
theorem part_run (line : List UInt8) (hlen : line.length ≤ 16777216) : ∀ (ps : List (Nat × List UInt8)) (i : Nat) (ws : List (List UInt8)) (j n0 n1 : Nat), line.drop i = joined ps → i ≤ line.length → (∀ p ∈ ps, ∃ x, p.2 = word x) → ws.length + ps.length ≤ 1073741824 → line.length + 40 ≤ i + j → 1 ≤ n1 →
    X.p23_10 j n0 n1 line ws (-1) (line.length : Int) (i : Int) = some (ws ++ ps.map (·.2), 0, 0, ())
  | [], i, ws, j, n0, n1, h, hi, hp, hw, hj, h1 => by
    have := congrArg List.length h
    simp [joined] at this
    obtain ⟨j, rfl⟩ : ∃ k, j = k + 1 := ⟨j - 1, by omega⟩
    obtain ⟨n1, rfl⟩ : ∃ k, n1 = k + 1 := ⟨n1 - 1, by omega⟩
    rw [X.p23_10_eq]
    simp only [sel_dec, X.p23_25_eq]
    rw [if_neg (by omega), if_neg (by omega), if_neg (by omega)]
    simp
  | (k, w) :: ps, i, ws, j, n0, n1, h, hi, hp, hw, hj, h1 => by
    obtain ⟨x, hx⟩ := hp _ (List.mem_cons_self ..)
    simp only at hx
    have hcl := word_clean x
    rw [← hx] at hcl
    unfold cleanB at hcl
    rw [Bool.and_eq_true, List.all_eq_true] at hcl
    have hwne : w ≠ [] := by intro e; rw [e] at hcl; simp at hcl
    have hj' := joined_head ps
    have hwl : 1 ≤ w.length := by
      cases w with
      | nil => exact absurd rfl hwne
      | cons c l => simp
    -- the blanks
    have blanks : ∀ (m p jj : Nat), line.drop p = List.replicate m 32 ++ (w ++ joined ps) → line.length + 40 ≤ p + jj → X.p23_10 jj n0 n1 line ws (-1) (line.length : Int) (p : Int) = X.p23_10 (jj - m) n0 n1 line ws (-1) (line.length : Int) ((p + m : Nat) : Int) := by
      intro m
      induction m with
      | zero => intro p jj _ _; rfl
      | succ m ih =>
        intro p jj hd hjj
        obtain ⟨g1, g2, g3⟩ := get_drop (show line.drop p = 32 :: (List.replicate m 32 ++ (w ++ joined ps)) by rw [hd]; rfl)
        obtain ⟨jj, rfl⟩ : ∃ k, jj = k + 1 := ⟨jj - 1, by omega⟩
        have w1 : IntKind.i64.wrap ((p : Int) + 1) = ((p + 1 : Nat) : Int) := by rw [wrap64 (by omega) (by omega)]; omega
        rw [X.p23_10_eq]
        simp only [sel_dec, Int.toNat_natCast, b_eq, g1, w1]
        rw [if_pos (by omega), if_pos (by omega), if_pos (by omega)]
        simp only [beq_self_eq_true, sel_t]
        rw [ih (p + 1) jj g3 (by omega), show p + 1 + m = p + (m + 1) by omega, show jj + 1 - (m + 1) = jj - m by omega]
    have hd : line.drop i = List.replicate (k + 1) 32 ++ (w ++ joined ps) := by rw [h]; simp [joined]
    have hll := congrArg List.length hd
    simp only [List.length_drop, List.length_append, List.length_replicate] at hll
    rw [blanks (k + 1) i j hd hj]
    have hd2 : line.drop (i + (k + 1)) = w ++ joined ps := by have := drop_more hd; rwa [List.length_replicate] at this
    have hd3 : line.drop (i + (k + 1) + w.length) = joined ps := drop_more hd2
    generalize hi' : i + (k + 1) = i' at hd2 hd3 ⊢
    obtain ⟨jj, hjj⟩ : ∃ q, j - (k + 1) = q + 2 := ⟨j - (k + 1) - 2, by omega⟩
    rw [hjj]
    obtain ⟨c, w', hcw⟩ : ∃ c w', w = c :: w' := by
      cases w with
      | nil => exact absurd rfl hwne
      | cons c l => exact ⟨c, l, rfl⟩
    obtain ⟨g1, g2, g3⟩ := get_drop (show line.drop i' = c :: (w' ++ joined ps) by rw [hd2, hcw]; rfl)
    have hc32 : (c == 32) = false := by
      have := okB_not (hcl.1 c (by rw [hcw]; exact List.mem_cons_self ..))
      simpa using this.1
    -- the word's end
    have hfin : ∀ (n2 : Nat), jj ≤ n2 → X.p23_23 (n2 + 1) n0 n1 (n2 + 1) line ws (-1) (line.length : Int) (i' : Int) ((i' + w.length : Nat) : Int) = some (ws ++ ((k, w) :: ps).map (·.2), 0, 0, ()) := by
      intro n2 hn2
      have he : Lk.ext line (i' : Int) ((i' + w.length : Nat) : Int) = w := by
        unfold Lk.ext win
        simp only [Int.toNat_natCast]
        rw [hd2, show i' + w.length - i' = w.length by omega, List.take_left]
      rw [X.p23_23_eq]
      simp only [sel_dec, he, List.length_singleton]
      simp only [List.length_cons] at hw
      rw [if_pos (by omega), if_pos (by omega), if_pos (by omega), if_pos (by omega), if_pos (by omega)]
      rw [part_run line hlen ps (i' + w.length) (ws ++ [w]) (n2 + 1) n0 n1 hd3 (by omega) (fun p hp' => hp p (List.mem_cons_of_mem _ hp')) (by simp; omega) (by omega) h1]
      simp
    rw [X.p23_10_eq]
    simp only [sel_dec, Int.toNat_natCast, b_eq, g1, hc32, sel_f]
    rw [if_pos (by omega), if_pos (by omega), if_pos (by omega), if_pos (by omega), if_pos (by omega)]
    cases h34 : (c == 34)
    · simp only [sel_f]
      rw [bare_run X line hlen w ws (-1) (line.length : Int) (i' : Int) n0 n1 (jj + 1) w i' (joined ps) (jj + 1) hd2 (fun c hc => (okB_not (hcl.1 c hc)).1) hj' (by omega)]
      exact hfin jj (by omega)
    · simp only [sel_t]
      have hq : w = quote x := by
        rcases word_cases x with ⟨e, _, _, hb⟩ | e
        · exfalso
          rw [e] at hx
          subst hx
          have hb := hb 0 (by rw [hcw]; simp)
          rw [hcw] at hb
          have : c = 34 := eq_of_beq h34
          rw [this] at hb
          have hb' : bareB 34 = true := hb
          exact absurd hb' (by decide)
        · rw [hx, e]
      have hd2' : line.drop i' = quote x ++ joined ps := by rw [hd2, hq]
      rw [f49_ok X line hlen x i' (joined ps) hd2' (jj + 1) (by omega)]
      simp only [ob_some, Bool.not_true, sel_f, Int.toNat_natCast, ← hq]
      have hrest : ∀ v : Bool, v = false → X.p23_2067 (jj + 1) n0 n1 (jj + 1) line ws (-1) (line.length : Int) (i' : Int) ((i' + w.length : Nat) : Int) v = some (ws ++ ((k, w) :: ps).map (·.2), 0, 0, ()) := by
        rintro v rfl
        rw [X.p23_2067_eq, sel_f, X.p23_20_eq]
        exact hfin jj (by omega)
      rcases hj' with e | ⟨s, e⟩
      · have : line.length ≤ i' + w.length := by
          rw [e] at hd3
          have := congrArg List.length hd3
          simp at this; omega
        rw [if_neg (by omega)]
        exact hrest _ rfl
      · rw [e] at hd3
        obtain ⟨e1, e2, _⟩ := get_drop hd3
        rw [if_pos (by omega), if_pos (by omega), if_pos (by omega), e1]
        exact hrest _ rfl

theorem joined_ok (ps : List (Nat × List UInt8)) (hp : ∀ p ∈ ps, ∃ x, p.2 = word x) : ∀ c ∈ joined ps, ¬ c < 32 ∧ c ≠ 127 := by
  induction ps with
  | nil => intro c hc; simp [joined] at hc
  | cons p ps ih =>
    intro c hc
    simp only [joined, List.mem_append, List.mem_replicate] at hc
    rcases hc with (⟨_, rfl⟩ | hc) | hc
    · decide
    · obtain ⟨x, hx⟩ := hp p (List.mem_cons_self ..)
      have hcl := word_clean x
      unfold cleanB at hcl
      rw [Bool.and_eq_true, List.all_eq_true] at hcl
      exact (okB_not (hcl.1 c (hx ▸ hc))).2
    · exact ih (fun p hp' => hp p (List.mem_cons_of_mem _ hp')) c hc

theorem f23_ok (ps : List (Nat × List UInt8)) (hlen : (joined ps).length ≤ 16777216) (hn : ps.length ≤ 1073741824) (hp : ∀ p ∈ ps, ∃ x, p.2 = word x) (j : Nat) (hj : (joined ps).length + 50 ≤ j) :
    X.f23 j (joined ps) = some (ps.map (·.2), 0, 0, ()) := by
  have hok := joined_ok ps hp
  generalize hl : joined ps = line at *
  obtain ⟨j, rfl⟩ : ∃ k, j = k + 3 := ⟨j - 3, by omega⟩
  rw [X.f23_eq]
  have go : ∀ (N i jj : Nat), line.length = i + N → N + 4 ≤ jj →
      X.p23_4 jj (j + 2) line [] (-1) ((line.length : Nat) : Int) ((line.length : Nat) : Int) (i : Int) = X.p23_9 (j + 2) (j + 2) line [] (-1) ((line.length : Nat) : Int) := by
    intro N
    induction N with
    | zero =>
      intro i jj h hjj
      obtain ⟨jj, rfl⟩ : ∃ k, jj = k + 1 := ⟨jj - 1, by omega⟩
      rw [X.p23_4_eq, sel_dec, if_neg (by omega)]
    | succ N ih =>
      intro i jj h hjj
      obtain ⟨jj, rfl⟩ : ∃ k, jj = k + 3 := ⟨jj - 3, by omega⟩
      have w1 : IntKind.i64.wrap ((i : Int) + 1) = ((i + 1 : Nat) : Int) := by rw [wrap64 (by omega) (by omega)]; omega
      have h0 : (0 : Int) ≤ (i : Int) := by omega
      have hlt : (i : Int) < (line.length : Int) := by omega
      have hc := hok (line.getD i 0) (by
        rw [List.getD_eq_getElem?_getD, List.getElem?_eq_getElem (by omega)]
        exact List.getElem_mem (by omega))
      rw [X.p23_4_eq]
      simp only [sel_dec, if_pos h0, if_pos hlt, Int.toNat_natCast, b_eq, b_ltP, X.p23_2055_eq, X.p23_8_eq, w1]
      rw [if_neg hc.1, show (line.getD i 0 == 127) = false by simpa using hc.2]
      simp only [sel_f]
      exact ih (i + 1) (jj + 2) (by omega) (by omega)
  rw [show (0 : Int) = ((0 : Nat) : Int) from rfl, go line.length 0 (j + 2) (by omega) (by omega), X.p23_9_eq]
  have := part_run X line hlen ps 0 [] (j + 1) (j + 2) (j + 1) (by rw [List.drop_zero]; exact hl.symm) (by omega) hp (by simpa using hn) (by omega) (by omega)
  rw [List.nil_append] at this
  exact this

/-- How much a list of texts holds. -/
def bulk : List (List UInt8) → Nat
  | [] => 0
  | x :: l => x.length + 1 + bulk l

theorem bulk_get (l : List (List UInt8)) : ∀ i, i < l.length → (l.getD i []).length + 1 ≤ bulk l := by
  induction l with
  | nil => intro i h; simp at h
  | cons x l ih =>
    intro i h
    cases i with
    | zero => simp [bulk]
    | succ i =>
      have := ih i (by simpa using h)
      simp only [List.getD_cons_succ, bulk]; omega

theorem bulk_len (l : List (List UInt8)) : l.length ≤ bulk l := by
  induction l with
  | nil => simp [bulk]
  | cons x l ih => simp only [List.length_cons, bulk]; omega

theorem joined_len (l : List (List UInt8)) (ps : List (Nat × List UInt8)) (h : ps.map (·.2) = l.map word) (hk : ∀ p ∈ ps, p.1 ≤ 2) : (joined ps).length ≤ 5 * bulk l := by
  induction ps generalizing l with
  | nil =>
    simp [joined]
  | cons p ps ih =>
    cases l with
    | nil => simp at h
    | cons x l =>
      simp only [List.map_cons, List.cons.injEq] at h
      have := ih l h.2 (fun p hp => hk p (List.mem_cons_of_mem _ hp))
      have hw := word_len x
      have h1 := hk p (List.mem_cons_self ..)
      simp only [joined, bulk, List.length_append, List.length_replicate, h.1]
      omega

theorem bulk_take (l : List (List UInt8)) (i : Nat) : bulk (l.take i) ≤ bulk l := by
  induction l generalizing i with
  | nil => simp [bulk]
  | cons x l ih =>
    cases i with
    | zero => simp [bulk]
    | succ i => have := ih i; simp only [List.take_succ_cons, bulk]; omega

/-- THE PLAIN LAW. -/
theorem lawParted (l : List (List UInt8)) (b : List Int) (hl : bulk l ≤ 1048576) (hb : b.length ≤ 1048576) : X.f7 (6 * bulk l + 200) l b = some (true, ()) := by
  have hll := bulk_len l
  rw [X.f7_eq, f20_ok X.toFnsK]
  simp only [ob_some, Bool.not_true, sel_f]
  have go : ∀ (N i j n0 : Nat) (ps : List (Nat × List UInt8)), l.length = i + N → N + bulk l + 100 ≤ j → 6 * bulk l + 100 ≤ n0 → ps.map (·.2) = (l.take i).map word → (∀ p ∈ ps, p.1 ≤ 2) →
      X.p7_6 j n0 l b (joined ps) (ps.map (·.2)) (i : Int) = some (true, ()) := by
    intro N
    induction N with
    | zero =>
      intro i j n0 ps h hj hn0 hps hk
      obtain ⟨j, rfl⟩ : ∃ k, j = k + 1 := ⟨j - 1, by omega⟩
      rw [List.take_of_length_le (by omega)] at hps
      have hjl := joined_len l ps hps hk
      have hpl : ps.length = l.length := by have := congrArg List.length hps; simpa using this
      rw [X.p7_6_eq, sel_dec, if_neg (by omega), f23_ok X ps (by omega) (by omega) (fun p hp => by
        have : p.2 ∈ ps.map (·.2) := List.mem_map_of_mem hp
        rw [hps] at this
        obtain ⟨x, _, hx⟩ := List.mem_map.1 this
        exact ⟨x, hx.symm⟩) n0 (by omega)]
      simp only [ob_some, beq_self_eq_true, sel_t]
      rw [f24_ok X _ _ (by simp; omega) n0 (by simp; omega)]
      simp only [ob_some, beq_self_eq_true]
    | succ N ih =>
      intro i j n0 ps h hj hn0 hps hk
      obtain ⟨j, rfl⟩ : ∃ k, j = k + 20 := ⟨j - 20, by omega⟩
      have hi : i < l.length := by omega
      have hg := bulk_get l i hi
      have hwl := word_len (l.getD i [])
      have hpl : ps.length = i := by have := congrArg List.length hps; simp at this; omega
      have hjl := joined_len (l.take i) ps hps hk
      have hbt := bulk_take l i
      have w1 : IntKind.i64.wrap ((i : Int) + 1) = ((i + 1 : Nat) : Int) := by rw [wrap64 (by omega) (by omega)]; omega
      -- one more
      have fin : ∀ m, m ≤ 2 → X.p7_7 (j + 19) n0 (j + 19) l b (joined ps ++ List.replicate (m + 1) 32 ++ word (l.getD i [])) (ps.map (·.2) ++ [word (l.getD i [])]) (i : Int) = some (true, ()) := by
        intro m hm
        rw [X.p7_7_eq, w1]
        have := ih (i + 1) (j + 19) n0 (ps ++ [(m, word (l.getD i []))]) (by omega) (by omega) hn0 (by
          rw [List.map_append, hps, List.take_add_one, List.map_append]
          have : l[i]? = some (l.getD i []) := by rw [List.getD_eq_getElem?_getD, List.getElem?_eq_getElem hi]; rfl
          rw [this]; rfl) (by
          intro p hp
          rcases List.mem_append.1 hp with hp | hp
          · exact hk p hp
          · simp only [List.mem_singleton] at hp; subst hp; exact hm)
        rw [joined_app, List.map_append] at this
        simp only [joined, List.append_nil, List.map_cons, List.map_nil] at this
        rw [← List.append_assoc] at this
        exact this
      have blk : ∀ (q s m jj : Nat), q + s = m + 1 → m ≤ 2 → q + 1 ≤ jj → X.p7_13 jj n0 (j + 19) (j + 18) l b (joined ps ++ List.replicate s 32) (ps.map (·.2)) (i : Int) (word (l.getD i [])) ((m + 1 : Nat) : Int) (s : Int) = some (true, ()) := by
        intro q
        induction q with
        | zero =>
          intro s m jj hq hm hjj
          obtain ⟨jj, rfl⟩ : ∃ k, jj = k + 1 := ⟨jj - 1, by omega⟩
          rw [X.p7_13_eq]
          simp only [sel_dec]
          rw [if_neg (by omega), if_pos (by simp only [List.length_append, List.length_replicate]; omega), if_pos (by simp; omega)]
          have : s = m + 1 := by omega
          rw [this]
          exact fin m hm
        | succ q ihq =>
          intro s m jj hq hm hjj
          obtain ⟨jj, rfl⟩ : ∃ k, jj = k + 1 := ⟨jj - 1, by omega⟩
          have w2 : IntKind.i64.wrap ((s : Int) + 1) = ((s + 1 : Nat) : Int) := by rw [wrap64 (by omega) (by omega)]; omega
          rw [X.p7_13_eq]
          simp only [sel_dec]
          rw [if_pos (by omega), if_pos (by simp only [List.length_append, List.length_replicate, List.length_singleton]; omega), w2]
          have := ihq (s + 1) m jj (by omega) hm (by omega)
          rw [List.replicate_succ', ← List.append_assoc] at this
          exact this
      have start : ∀ v : Int, (∃ m : Nat, m ≤ 2 ∧ v = ((m + 1 : Nat) : Int)) → X.p7_12 (j + 19) n0 (j + 19) l b (joined ps) (ps.map (·.2)) (i : Int) (word (l.getD i [])) v = some (true, ()) := by
        rintro v ⟨m, hm, rfl⟩
        rw [X.p7_12_eq]
        have := blk (m + 1) 0 m (j + 18) (by omega) hm (by omega)
        rw [List.replicate_zero, List.append_nil] at this
        exact this
      rw [X.p7_6_eq]
      simp only [sel_dec, Int.toNat_natCast]
      rw [if_pos (by omega), if_pos (by omega), if_pos (by omega), f18_ok X.toFnsU (l.getD i []) (by omega) (j + 19) (by omega)]
      simp only [ob_some]
      by_cases hbl : (b.length : Int) > 0
      · have ht0 : (0 : Int) ≤ (i : Int).tmod (b.length : Int) := Int.tmod_nonneg _ (by omega)
        have ht1 : (i : Int).tmod (b.length : Int) < (b.length : Int) := Int.tmod_lt_of_pos _ hbl
        have hne : ((b.length : Int) != 0) = true := by rw [bne_iff_ne]; omega
        rw [if_pos hbl, hne, if_pos ht0, if_pos ht1]
        simp only [sel_t, show ((3 : Int) != 0) = true from rfl]
        apply start
        generalize b.getD ((i : Int).tmod (b.length : Int)).toNat 0 = z
        have hz1 := Int.tmod_lt_of_pos z (show (0 : Int) < 3 by decide)
        have hz2 : -3 < z.tmod 3 := by
          have := Int.lt_tmod_of_pos z (show (0 : Int) < 3 by decide)
          exact this
        rw [wrap64 (x := z.tmod 3 + 3) (by omega) (by omega)]
        have hy0 : (0 : Int) ≤ (z.tmod 3 + 3).tmod 3 := Int.tmod_nonneg _ (by omega)
        have hy1 : (z.tmod 3 + 3).tmod 3 < 3 := Int.tmod_lt_of_pos _ (by decide)
        rw [wrap64 (by omega) (by omega)]
        exact ⟨((z.tmod 3 + 3).tmod 3).toNat, by omega, by omega⟩
      · rw [if_neg hbl]
        exact start 1 ⟨0, by omega, rfl⟩
  have := go l.length 0 (6 * bulk l + 199) (6 * bulk l + 199) [] (by omega) (by omega) (by omega) rfl (by simp)
  exact this
end Nq

namespace Go.Proofs.YtgnihbbhmbbkbaaDoor.quotes
open Go.ChangeShapes Go.WideShapes Go.ChangeAt Go.RowKit

theorem bulk_texts {H : Type} : ∀ (x : List (List UInt8)) (es : List (DataW H)), Lk.All2 (Lk.Told .s) x es → Nq.bulk x ≤ Rows.uptoBulkAll es
  | [], [], _ => Nat.le_refl _
  | a :: x, e :: es, h => by
    obtain ⟨h1, h2⟩ := h
    have h1' : e = .lit (.string a) := h1
    subst h1'
    have := bulk_texts x es h2
    simp only [Nq.bulk, Rows.uptoBulkAll, Rows.uptoBulk]; omega
  | [], _ :: _, h => h.elim
  | _ :: _, [], h => h.elim

theorem bulk_ints {H : Type} {k : IntKind} : ∀ (x : List Int) (es : List (DataW H)), Lk.All2 (Lk.Told (.i k)) x es → x.length ≤ Rows.uptoBulkAll es
  | [], [], _ => Nat.le_refl _
  | a :: x, e :: es, h => by
    obtain ⟨h1, h2⟩ := h
    have h1' : e = .lit (.int k a) := h1
    subst h1'
    have := bulk_ints x es h2
    simp only [List.length_cons, Rows.uptoBulkAll, Rows.uptoBulk]; omega
  | [], _ :: _, h => h.elim
  | _ :: _, [], h => h.elim

theorem bulk_texts_of {H : Type} {x : List (List UInt8)} {d : DataW H} (h : Lk.Told (.l .s) x d) : Nq.bulk x ≤ Rows.uptoBulk d := by
  rcases h with ⟨h, rfl⟩ | ⟨es, rest, rfl, h⟩
  · rw [h]; exact Nat.zero_le _
  · have := bulk_texts x es h
    simp only [Rows.uptoBulk]; omega
theorem bulk_ints_of {H : Type} {k : IntKind} {x : List Int} {d : DataW H} (h : Lk.Told (.l (.i k)) x d) : x.length ≤ Rows.uptoBulk d := by
  rcases h with ⟨h, rfl⟩ | ⟨es, rest, rfl, h⟩
  · rw [h]; exact Nat.zero_le _
  · have := bulk_ints x es h
    simp only [Rows.uptoBulk]; omega

theorem plainN (name : String) (g : FuncId) (fg : Func) (ts : Array TypeId) (hn : Tryd.prog.funcNamed name = some g) (hg : Tryd.prog.funcs[g]? = some fg) (hp : fg.params = ts) (hs : ts.all (fun t => !Tryd.prog.wantsStandIn t) = true) (f : FuncId) (fn : Func) (hf : Tryd.pinned.checked.prog.funcNamed name = some f) (hfn : Tryd.pinned.checked.prog.funcs[f]? = some fn) :
    true = Tryd.pinned.checked.prog.looks [] ∧ ∀ (j : Nat) t, fn.params[j]? = some t → Tryd.pinned.checked.prog.wantsStandIn t = false := by
  obtain rfl : f = g := (Option.some.inj (hn.symm.trans hf)).symm
  obtain rfl : fn = fg := (Option.some.inj (hg.symm.trans hfn)).symm
  refine ⟨by kernel_rfl, fun j t ht => ?_⟩
  rw [hp] at ht
  have hm := Array.mem_of_getElem? ht
  rw [Array.all_eq_true_iff_forall_mem] at hs
  have h1 := hs t hm
  have h2 : (!Tryd.prog.wantsStandIn t) = true := h1
  exact (by simpa using h2 : Tryd.prog.wantsStandIn t = false)
end Go.Proofs.YtgnihbbhmbbkbaaDoor.quotes

namespace Go.Proofs.YtgnihbbhmbbkbaaDoor.namesParted
open Go.ChangeShapes Go.WideShapes Go.ChangeAt Go.RowKit quotes

set_option maxRecDepth 100000 in
theorem contract (H : Type) (enc : TypeId × Value → H) (W : World) (base : Nat) (args : Array Value) (ds gs : List (DataW H)) (before : List MemPlace)
    (hval : ∀ (j : Nat) t v, Tryd.f7.params[j]? = some t → args[j]? = some v → Value.okWide Tryd.prog W .any base t v)
    (hW : DataW.Whole enc Tryd.prog Tryd.f7.params.toList Rows.namesPartedSpec.vars false W args.toList ds gs before) (hL : laidMetH Tryd.prog Rows.namesPartedUptoRow.laid W) (hk : Rows.uptoSmall H (ds ++ gs) = true) :
    Calls Tryd.prog 7 args W fun e W' => ∃ v, e = .returned v ∧ Rows.namesPartedSpec.post enc Tryd.prog Tryd.f7 false true false false W args v W' := by
  have hT : Tryd.KwW W := ⟨tabs (l := Rows.namesPartedUptoRow.laid) hL (.tail _ (.tail _ (.tail _ (.tail _ (.head _))))) (.tail _ (.tail _ (.tail _ (.head _)))), pow (l := Rows.namesPartedUptoRow.laid) hL (.tail _ (.tail _ (.head _)))⟩
  have d32 : Lk.Desc Tryd.prog 32 (.l .s) := Tryd.envW.ty 32 (.l .s) (.o .r) (by kernel_rfl)
  have d33 : Lk.Desc Tryd.prog 33 (.l (.i .i64)) := Tryd.envW.ty 33 (.l (.i .i64)) (.o .r) (by kernel_rfl)
  have hfit : Lk.Fits Tryd.prog [(.l .s, .b), (.l (.i .i64), .b)] Tryd.f7.params.toList := by
    rw [Tryd.params7]
    exact ⟨d32, rfl, .inl rfl, rfl, d33, rfl, .inl rfl, rfl, trivial⟩
  have hds : ∃ d1 d2 : DataW H, ds = [d1, d2] ∧ gs = [] := by
    obtain ⟨p, q, hA, hV, _, _, _⟩ := hW
    obtain ⟨rfl, rfl⟩ := trodVars_none hV
    rw [Tryd.params7] at hA
    obtain ⟨v0, vs0, d0, ds0, p0, q0, _, rfl, _, _, r0⟩ := trodAll_cons hA
    obtain ⟨v1, vs1, d1, ds1, p1, q1, _, rfl, _, _, r1⟩ := trodAll_cons r0
    obtain ⟨_, rfl, _⟩ := trodAll_nil r1
    exact ⟨d0, d1, rfl, rfl⟩
  obtain ⟨d1, d2, rfl, rfl⟩ := hds
  have hsz : Rows.uptoBulkAll [d1, d2] ≤ 1048576 := of_decide_eq_true hk
  simp only [Rows.uptoBulkAll] at hsz
  refine (Lk.law_calls (τ := 3) (fn := Tryd.f7) (Kw := Tryd.KwW) hT hW hval hfit (fun x hx _ => ?_)).mono fun e W' ⟨he, hb⟩ => ⟨_, he, ?_⟩
  · obtain ⟨_, _, e1, h1, _, _, e2, h2, _⟩ := hx
    cases e1; cases e2
    have b1 := bulk_texts_of h1
    have b2 := bulk_ints_of h2
    refine ⟨Lk.F NqGW.G (6 * Nq.bulk x.1 + 200) 7, Lk.F_ok Tryd.prgW (Lk.res_le (bodies := NqGW.bodies) (exts := NqGW.exts) (fun _ => rfl) Tryd.namesW) _ 7, ?_⟩
    have := Nq.lawParted NqGW.theFnsW x.1 x.2.1 (by omega) (by omega)
    have e : NqGW.theFnsW.f7 (6 * Nq.bulk x.1 + 200) x.1 x.2.1 = NqGW.f7 (6 * Nq.bulk x.1 + 200) x.1 x.2.1 := rfl
    rw [e] at this
    unfold NqGW.f7 at this
    exact this
  · refine Lk.post_law hW (by kernel_rfl) ?_ rfl rfl (R := 4) rfl Tryd.underlying4 hb
    intro t ht
    rw [Tryd.params7] at ht
    simp only [List.mem_cons, List.not_mem_nil, or_false] at ht
    rcases ht with rfl | rfl <;> exact ⟨by kernel_rfl, by decide +kernel⟩

theorem laid_met (os : Os) : laidMet Tryd.prog Rows.namesPartedUptoRow.laid ((tabWorld os).forCall (fun _ _ => 0) ⟨#[], #[.slice none 0 0, .slice none 0 0], []⟩).memory :=
  laidMet_of_run' 8 (by kernel_rfl) (by kernel_rfl)
theorem reads (os : Os) {H : Type} (enc : TypeId × Value → H) : ∃ places, DataW.whole enc Tryd.prog ((tabWorld os).forCall (fun _ _ => 0) ⟨#[], #[.slice none 0 0, .slice none 0 0], []⟩).memory Tryd.f7.params.toList Rows.namesPartedSpec.vars false #[Value.slice none 0 0, Value.slice none 0 0].toList 8 = some ([.nil, .nil], [], places) :=
  ⟨[], by kernel_rfl⟩

set_option maxRecDepth 100000 in
theorem lifted (os : Os) (started : os.Started) (H : Type) (enc : TypeId × Value → H) (F : Stop.Interp) :
    ReturnsInHanded {} Tryd.checked os 7 .any ((Rows.OpenSpec.upto Rows.namesPartedSpec).preRow enc Tryd.prog Tryd.f7 Rows.namesPartedUptoRow.domain false Rows.namesPartedUptoRow.laid) (((Rows.OpenSpec.upto Rows.namesPartedSpec).at F).post enc Tryd.prog Tryd.f7 false true false false) := by
  obtain ⟨places, hx⟩ := reads os enc
  refine returnsInHanded_of_row (C := Tryd.checked) (s := Rows.OpenSpec.upto Rows.namesPartedSpec) own started (by kernel_rfl) Tryd.func7
    (witness_row_at (enc := enc) (C := Tryd.checked) false (tabWorld os) #[.slice none 0 0, .slice none 0 0] rfl (by kernel_rfl) (by kernel_rfl) (by kernel_rfl)
      (OpenSpec.preRow_of_cond 8 hx (by kernel_rfl) (fun k hk => by cases hk; kernel_rfl) (by kernel_rfl) (laid_met os))) ?_
  intro W base args ds gs before hval hW _ hcond _ hL _ _
  exact contract H enc W base args ds gs before hval hW hL (hcond _ rfl)

theorem said : Rows.NamesPartedUptoSaid :=
  OpenClaim.holds_of_cond 7 Tryd.f7 rfl rfl rfl rfl rfl rfl rfl ⟨rfl, rfl, rfl, rfl, rfl⟩ rfl rfl rfl rfl rfl (by kernel_rfl) Tryd.func7 (by kernel_rfl)
    (of_decide_eq_true (by kernel_rfl)) (by unfold Func.isWrapper; first | (rw [if_pos (by decide +kernel)]; kernel_rfl) | (rw [if_neg (by decide +kernel)]; exact ⟨rfl, rfl⟩))
    (fun os started H enc _ F => by rw [OpenClaim.pre_eq_preRow]; exact lifted os started H enc F)

theorem card : Rows.NamesPartedUptoCardSaid :=
  Claim7.holds_tied_plain_at .later [] _ _ _ _ said (fun _ h => by cases h) (by kernel_rfl) (fun _ h => by cases h) namesPartedUpto_row_tie rfl ⟨rfl, rfl⟩ (by kernel_rfl) rfl (plainN "moraine/morainelaw06.NamesParted" 7 Tryd.f7 _ (by kernel_rfl) Tryd.func7 Tryd.params7 (by kernel_rfl)) (by kernel_rfl)
end Go.Proofs.YtgnihbbhmbbkbaaDoor.namesParted

