import Derived.Test.YthndplnjiibgkaaDoorRrFour
import Derived.WalkKit
import Derived.TacticsIn
import Derived.RegionIn
import Derived.TacticsInMore
import Derived.RangeFuncOwn
import Derived.Shelf.Abstract
import Derived.Deep.RegionHeld3
import Derived.OwnWalk
import Derived.Deep.CutBlock
set_option linter.all false
section
/-! goOn, as the walk of journal.Read takes it. -/
namespace Rr
open Go Go.RowKit Go.Proofs
def pure_ : Lk.Ty → Bool
  | .a _ | .e => false
  | .c a r => pure_ a && pure_ r
  | .l t => pure_ t
  | .p t => pure_ t
  | _ => true
theorem Rd_tau {τ τ' : Lk.Ax} {S : Nat → Prop} {w : World} : ∀ (t : Lk.Ty) (x : Lk.E t) (cs : List Value), pure_ t = true → Lk.Rd τ S w t x cs → Lk.Rd τ' S w t x cs := by
  intro t
  induction t with
  | c a r iha ihr =>
    intro x cs hb h
    simp only [pure_, Bool.and_eq_true] at hb
    simp only [Lk.Rd] at h ⊢
    obtain ⟨c1, c2, rfl, h1, h2⟩ := h
    exact ⟨c1, c2, rfl, iha _ _ hb.1 h1, ihr _ _ hb.2 h2⟩
  | a n => intro x cs hb; cases hb
  | e => intro x cs hb; cases hb
  | l t ih =>
    intro x cs hb h
    simp only [Lk.Rd] at h ⊢
    obtain ⟨a, cap, rfl, h1, h2, h3, h⟩ := h
    refine ⟨a, cap, rfl, h1, h2, h3, ?_⟩
    rcases h with h | ⟨b, off, C, e, f, rfl, hs, hc, hr⟩
    · exact .inl h
    · exact .inr ⟨b, off, C, e, f, rfl, hs, hc, fun i y hy => ih _ _ hb (hr i y hy)⟩
  | p t ih =>
    intro x cs hb h
    cases x with
    | none => simpa only [Lk.Rd] using h
    | some y =>
      simp only [Lk.Rd] at h ⊢
      obtain ⟨b, C, e, f, rfl, hs, hc, hr⟩ := h
      exact ⟨b, C, e, f, rfl, hs, hc, ih _ _ hb hr⟩
  | _ => intro x cs hb h; simpa only [Lk.Rd] using h
abbrev RT : Lk.Ty := .c (.i .i64) (.c (.l .by) (.c (.i .i64) (.c (.l .by) (.c .b .u))))
abbrev RM : Lk.Md := .q .r (.q .r (.q .r (.q (.o .r) (.q .r .r))))
theorem goOn_any (J B : Lp) (n : Nat) (W : World) (hK : Tab W) (block : Int) (file : List UInt8) (how : Int) (rd : Option (Lk.E RT)) (y : Option (List Lk.JItem)) (hF : Lk.F RrG.G n 14 (some (block, file, 0, [], false, ()), some [], ()) = some (how, rd, y, ()))
    (rb : Nat) (fhd : Value) (T : TypeId) (S : Nat → Prop) (hrb : W.heap[rb]? = some (.cells #[.int .i64 block, fhd, .int .i64 0, .slice none 0 0, .bool false] T (0, 0))) (hblk : Lk.inR .i64 block) (hfile : Lk.Rd t0 S W (.l .by) file [fhd])
    (v : Value) (bs : List Nat) (hJ : JAt J W [] v bs) (hnd : (rb :: bs).Nodup) (hS : ∀ b, S b → b < W.heap.size ∧ b ∉ rb :: bs) (h1 : ∀ b ∈ rb :: bs, 1 ≤ b) :
    Calls Tryd.prog 14 #[.pointer (some ⟨rb, 0, none⟩), v] W fun e w' => e = .returned (.int .i64 how) ∧ Lk.inR .i64 how ∧ Lk.Ext (rb :: bs) W w' ∧ ∃ l bs', y = some l ∧ JAt J w' l v bs' ∧ bs'.Nodup ∧ (∀ b ∈ bs', b ∈ rb :: bs ∨ W.heap.size ≤ b) := by
  have hok := Lk.F_ok (GP.prg J B) GP.res n 14
  have hlt : ∀ b ∈ rb :: bs, b < W.heap.size := fun b hb => by
    rcases List.mem_cons.1 hb with rfl | hb
    · exact hlt' hrb
    · exact (LpAt.lt hJ) b hb
  have hbl : Lk.blsOf [⟨.p RT, .o RM, some (block, file, 0, [], false, ()), some ⟨rb, T, (0, 0), ((), ⟨fhd, 0, 0, [], 0, (0, 0), []⟩, (), ⟨.slice none 0 0, 0, 0, [], 0, (0, 0), []⟩, (), ())⟩⟩, ⟨.a 2, .o .r, some [], (v, bs)⟩] = rb :: bs := by
    show (rb :: ([] ++ ([] ++ ([] ++ ([] ++ ([] ++ [])))))) ++ (bs ++ []) = _
    simp
  have := hok (some (block, file, 0, [], false, ()), some [], ()) (how, rd, y, ()) hF W S (fun _ => False)
    [⟨.p RT, .o RM, some (block, file, 0, [], false, ()), some ⟨rb, T, (0, 0), ((), ⟨fhd, 0, 0, [], 0, (0, 0), []⟩, (), ⟨.slice none 0 0, 0, 0, [], 0, (0, 0), []⟩, (), ())⟩⟩, ⟨.a 2, .o .r, some [], (v, bs)⟩] hK (fun b hb => by
      rcases hb with hb | hb
      · exact (hS b hb).1
      · exact hb.elim) rfl ⟨?_, ?_, ?_, ?_, ?_⟩
  · refine this.mono ?_
    rintro e w' ⟨u, rfl, hE, ⟨rds, S', e1, e2, e3, e4, e5, e6, e7, e8, e9⟩⟩
    rw [hbl] at hE e7
    obtain ⟨s0, rds1, rfl, q1⟩ := ads_cons e1
    obtain ⟨s1, rds2, rfl, q2⟩ := ads_cons q1
    obtain ⟨⟨v', bs'⟩, rds3, rfl, q3⟩ := ads_cons q2
    obtain rfl := ads_nil q3
    have g0 : Lk.Rd (ax J B) S' w' (.i .i64) how [.int .i64 how] := e5 _ (List.mem_cons_self ..)
    have g2 : Lk.Own (ax J B) 2 w' y v' bs' := e5 _ (List.mem_cons_of_mem _ (List.mem_cons_of_mem _ (List.mem_cons_self ..)))
    have hv' : v' = v := by
      have h : [Lk.DV.val (ax J B) ⟨.p RT, .o RM, rd, s1⟩, v'] = [_, v] := e9
      simp only [List.cons.injEq, and_true] at h
      exact h.2
    subst hv'
    refine ⟨by rw [e8]; rfl, g0.2, hE, ?_⟩
    cases y with
    | none =>
      obtain ⟨sh, hv, _⟩ := hJ
      rw [hv] at g2
      cases g2.1
    | some l =>
      have hsub : ∀ b ∈ bs', b ∈ Lk.blsOf ([⟨.i .i64, .r, how, s0⟩, ⟨.p RT, .o RM, rd, s1⟩, ⟨.a 2, .o .r, some l, (v', bs')⟩] : List Lk.DV) := fun b hb => by
        refine List.mem_flatten.2 ⟨bs', ?_, hb⟩
        exact List.mem_cons_of_mem _ (List.mem_cons_of_mem _ (List.mem_cons_self ..))
      have hnd' : bs'.Nodup := List.Nodup.sublist (List.sublist_flatten_of_mem (by exact List.mem_cons_of_mem _ (List.mem_cons_of_mem _ (List.mem_cons_self ..)))) e6
      exact ⟨l, bs', rfl, g2, hnd', fun b hb => (e7 b (hsub b hb)).1⟩
  · intro d hd
    simp only [List.mem_cons, List.not_mem_nil, or_false] at hd
    rcases hd with rfl | rfl
    · refine ⟨hrb, Lk.thaw_zero _, ⟨rfl, hblk⟩, ?_, ⟨rfl, by show (-9223372036854775808 : Int) ≤ 0; decide, by show (0 : Int) ≤ 9223372036854775807; decide⟩, .inl ⟨rfl, rfl⟩, rfl, rfl⟩
      exact Rd_tau _ _ _ rfl hfile
    · exact hJ
  · rw [hbl]; exact hnd
  · rw [hbl]
    intro b hb
    exact ⟨hlt b hb, fun h => by
      rcases h with h | h
      · exact (hS b h).2 hb
      · exact h.elim⟩
  · rw [hbl]; exact h1
  · exact Nat.lt_of_lt_of_le (by decide) (Nat.lt_of_lt_of_le (tab_lt hK) (Nat.le_refl _))
end Rr
end
section
/-! journal.Read: the walk. -/
namespace Rr
open Go Go.RowKit Go.Proofs
attribute [local go_sem] Oper.semAt_some
def isBlk (n : Int) : Bool := decide (32 ≤ n) && decide (n ≤ 32768)
theorem isBlock_any (w : World) (n : Int) : Calls Tryd.prog 12 #[.int .i64 n] w fun e w' => e = .returned (.bool (isBlk n)) ∧ w' = w := by
  go_enter Tryd.func12, Tryd.ntmps12
  go_wp2
  · go_ret
    exact ⟨by simp [isBlk]; omega, rfl⟩
  · go_ret
    exact ⟨by simp [isBlk]; omega, rfl⟩
theorem pieces_any (w : World) (lp c8 cH rb : Nat) (R : Int → World → Prop) (hc8 : w.cell? ⟨c8, 0, none⟩ = some (.pointer (some ⟨rb, 0, none⟩)))
    (h14 : Calls Tryd.prog 14 #[.pointer (some ⟨rb, 0, none⟩), .func (.yield lp) #[] #[]] w fun e w' => ∃ how, e = .returned (.int .i64 how) ∧ (∃ v, w'.cell? ⟨cH, 0, none⟩ = some v) ∧ w'.frozen? ⟨cH, 0, none⟩ = false ∧ R how w') :
    Calls Tryd.prog 13 #[.func (.yield lp) #[] #[], .pointer (some ⟨c8, 0, none⟩), .pointer (some ⟨cH, 0, none⟩)] w fun e w' => e = .returned (.tuple #[]) ∧ ∃ how w1, R how w1 ∧ w' = w1.setCell ⟨cH, 0, none⟩ (.int .i64 how) := by
  go_enter Tryd.func13, Tryd.ntmps13
  go_wp2_with (go_at_call 14; refine h14.mono ?_; rintro e w1 ⟨how, rfl, ⟨v, hc⟩, hf, hR⟩)
  go_end0
  exact ⟨rfl, how, w1, hR, rfl⟩
theorem set_same {w : World} {b : Nat} {v : Value} {T : TypeId} (h : w.heap[b]? = some (.cells #[v] T (0, 0))) : w.setCell ⟨b, 0, none⟩ v = w := by
  obtain ⟨hl, h'⟩ := Array.getElem?_eq_some_iff.1 h
  have : (w.setCell ⟨b, 0, none⟩ v).heap = w.heap := by
    apply Array.ext
    · exact set_size w _ _
    · intro i h1 h2
      by_cases e : i = b
      · subst e
        have := set_heap (u := v) h
        rw [← h] at this
        rw [Array.getElem?_eq_getElem h1, Array.getElem?_eq_getElem h2] at this
        exact Option.some.inj this
      · have := Below.heap_setCell w ⟨b, 0, none⟩ v i e
        rw [Array.getElem?_eq_getElem h1, Array.getElem?_eq_getElem h2] at this
        exact Option.some.inj this
  show { w with heap := (w.setCell ⟨b, 0, none⟩ v).heap } = w
  rw [this]
noncomputable def tail7 : Code := match Tryd.f7.body with
  | some (.seq _ (.seq _ (.seq _ (.seq _ (.seq _ c))))) => c
  | _ => .skip
set_option maxRecDepth 100000 in
set_option maxHeartbeats 4000000 in
theorem tail7_any (W : World) (q0 q1 q2 D : Nat) (sa : Option Addr) (sn sc : Nat) (x y : Int) (h0 : W.heap[q0]? = some (.cells #[.slice sa sn sc] 23 (0, 0))) (h1 : W.heap[q1]? = some (.cells #[.int .i64 x] 3 (0, 0))) (h2 : W.heap[q2]? = some (.cells #[.int .i64 y] 3 (0, 0))) (h3 : W.heap[D]? = some (.deferred (some []))) (hd : q0 ≠ q1 ∧ q0 ≠ q2 ∧ q1 ≠ q2)
    (a : Nat → Value) (R : Ending → World → Prop) (hR : ∀ n, R (.returned (.tuple #[.slice sa sn sc, .int .i64 x, .int .i64 y, .int .i64 0])) (({ W with drawn := n } : World).putObj D (.deferred none))) :
    tail7.wpIn Fence.wide 3 Tryd.prog (bodyPostM Fence.wide 3 Tryd.prog Tryd.f7 R) { tmps := #[a 0, a 1, a 2, a 3, .pointer (some ⟨q0, 0, none⟩), .pointer (some ⟨q1, 0, none⟩), .pointer (some ⟨q2, 0, none⟩), a 7, a 8, a 9, a 10, a 11, a 12, a 13, a 14, a 15, a 16, a 17, a 18, a 19, a 20, a 21, a 22, a 23, a 24, a 25, a 26, a 27, a 28, a 29, a 30], defers := [{ target := .collected D, args := #[] }] } W := by
  obtain ⟨d1, d2, d3⟩ := hd
  have c0 := (cell0 h0).1
  have c1 := (cell0 h1).1
  have c2 := (cell0 h2).1
  have f0 := (cell0 h0).2
  have f1 := (cell0 h1).2
  have f2 := (cell0 h2).2
  have s0 : ∀ n, ({ W with drawn := n } : World).setCell ⟨q0, 0, none⟩ (.slice sa sn sc) = { W with drawn := n } := fun n => set_same (w := { W with drawn := n }) h0
  have s1 : ∀ n, ({ W with drawn := n } : World).setCell ⟨q1, 0, none⟩ (.int .i64 x) = { W with drawn := n } := fun n => set_same (w := { W with drawn := n }) h1
  have s2 : ∀ n, ({ W with drawn := n } : World).setCell ⟨q2, 0, none⟩ (.int .i64 y) = { W with drawn := n } := fun n => set_same (w := { W with drawn := n }) h2
  refine wpIn_wide.2 ?_
  obtain ⟨F7, hF7⟩ : ∃ F, F = Tryd.f7 := ⟨_, rfl⟩
  rw [← hF7]
  simp only [tail7, Tryd.f7]
  go_wp2
  go_region_held3 (fun w' : World => w'.cell? ⟨q0, 0, none⟩ = some (.slice sa sn sc) ∧ w'.cell? ⟨q1, 0, none⟩ = some (.int .i64 x) ∧ w'.cell? ⟨q2, 0, none⟩ = some (.int .i64 y) ∧ w'.frozen? ⟨q0, 0, none⟩ = false ∧ w'.frozen? ⟨q1, 0, none⟩ = false ∧ w'.frozen? ⟨q2, 0, none⟩ = false) (first | exact ⟨c0, c1, c2, f0, f1, f2⟩ | go_keep) (fail)
  go_wp2
  have hD : ∀ q, q0 = q ∨ q1 = q ∨ q2 = q → q ≠ D := by
    rintro q hq rfl
    rcases hq with rfl | rfl | rfl
    · rw [h0] at h3; cases h3
    · rw [h1] at h3; cases h3
    · rw [h2] at h3; cases h3
  obtain ⟨W', hW'⟩ : ∃ W', W' = (({ W with drawn := W.drawn + 1 } : World).putObj D (.deferred none)) := ⟨_, rfl⟩
  have k0 : W'.cell? ⟨q0, 0, none⟩ = some (.slice sa sn sc) := by
    have : W'.heap[q0]? = some (.cells #[.slice sa sn sc] 23 (0, 0)) := by rw [hW', World.putObj_heap_other (hD q0 (.inl rfl))]; exact h0
    exact (cell0 this).1
  have k1 : W'.cell? ⟨q1, 0, none⟩ = some (.int .i64 x) := by
    have : W'.heap[q1]? = some (.cells #[.int .i64 x] 3 (0, 0)) := by rw [hW', World.putObj_heap_other (hD q1 (.inr (.inl rfl)))]; exact h1
    exact (cell0 this).1
  have k2 : W'.cell? ⟨q2, 0, none⟩ = some (.int .i64 y) := by
    have : W'.heap[q2]? = some (.cells #[.int .i64 y] 3 (0, 0)) := by rw [hW', World.putObj_heap_other (hD q2 (.inr (.inr rfl)))]; exact h2
    exact (cell0 this).1
  have hr := hR (W.drawn + 1)
  rw [← hW'] at hr
  refine ⟨by simp, .inl ⟨_, W', rfl, ?_, ?_⟩⟩
  · rw [hW']; exact run_takeDeferred h3
  · refine ⟨_, ?_, hr⟩
    rw [hF7]
    simp [results, Tryd.f7, go_sem, k0, k1, k2]
theorem range_wide {P : Program} {g : Operand} {ps : Array Tmp} {assign body : Code} {Q : Exit → Act → World → Prop} {a : Act} {w : World} {gf : FuncId} {lb : Array Value} (n : Nat) (hg : a.eval g = .func (.func gf) #[] lb) (eg : ∀ args w, (callFunc gf args).run P w = .ok (.enter gf args) w)
    (h : ∀ fn W1, W1 = (w.alloc (.deferred (some []))).alloc (.loop { state := .ready, pending := none, fn, tmps := a.tmps, params := ps, assign, body, defers := w.heap.size }) →
      Calls P gf (#[.func (.yield (w.heap.size + 1)) #[] #[]] ++ lb) W1 fun e w3 => ∃ v, e = .returned v ∧ ∃ r : Loop, w3.heap[w.heap.size + 1]? = some (.loop r) ∧ r.state ≠ .busy ∧ r.pending = none ∧
        Q .normal { a with defers := { target := .collected w.heap.size, args := #[] } :: a.defers } (w3.putObj (w.heap.size + 1) (.loop { r with state := .exhausted }))) :
    (Code.rangeFunc g ps assign body).wpIn Fence.wide (n + 1) P Q a w := by
  refine wpIn_rangeFunc ?_
  intro fn hfn
  obtain ⟨W1, hW1⟩ : ∃ W1, W1 = (w.alloc (.deferred (some []))).alloc (.loop { state := .ready, pending := none, fn, tmps := a.tmps, params := ps, assign, body, defers := w.heap.size }) := ⟨_, rfl⟩
  refine ⟨w.heap.size + 1, [{ target := .collected w.heap.size, args := #[] }], W1, { target := .fn (.func gf) lb, args := #[.func (.yield (w.heap.size + 1)) #[] #[]] }, W1, gf,
    #[.func (.yield (w.heap.size + 1)) #[] #[]] ++ lb, W1, ?_, ?_, ?_, ?_, (fun h => (by cases h)), ?_⟩
  · rw [hW1]; exact run_enterLoop_outer _ _ _ _ _
  · simp only [resolve, hg]
    simp [go_sem]
  · intro f' hf'; trivial
  · simp [invoke, go_sem, eg]
  · refine callsIn_wide.2 ((h fn W1 hW1).mono ?_)
    rintro e w3 ⟨v, rfl, r, h1, h2, h3, h4⟩
    refine ⟨none, _, ?_, h4⟩
    rw [← h3]
    exact run_endLoop h1 h2
theorem alloc7 (w : World) (o0 o1 o2 o3 o4 o5 o6 : Obj) : ∃ W : World, W = ((((((w.alloc o0).alloc o1).alloc o2).alloc o3).alloc o4).alloc o5).alloc o6 ∧ W.heap.size = w.heap.size + 7 ∧ (∀ b, b < w.heap.size → W.heap[b]? = w.heap[b]?) ∧
    W.heap[w.heap.size]? = some o0 ∧ W.heap[w.heap.size + 1]? = some o1 ∧ W.heap[w.heap.size + 2]? = some o2 ∧ W.heap[w.heap.size + 3]? = some o3 ∧ W.heap[w.heap.size + 4]? = some o4 ∧ W.heap[w.heap.size + 5]? = some o5 ∧ W.heap[w.heap.size + 6]? = some o6 ∧ Lk.Ext [] w W := by
  have at1 : ∀ (W : World) (k : Nat) (o : Obj), W.heap.size = k → (W.alloc o).heap[k]? = some o := fun W k o h => by rw [← h]; exact alloc_at W o
  refine ⟨_, rfl, by simp only [alloc_size], fun b hb => ?_, ?_, ?_, ?_, ?_, ?_, ?_, ?_, ?_⟩
  · iterate 6 rw [alloc_lt _ _ (by simp only [alloc_size]; omega)]
    exact alloc_lt _ _ hb
  · iterate 6 rw [alloc_lt _ _ (by simp only [alloc_size]; omega)]
    exact at1 _ _ _ (by simp only [alloc_size])
  · iterate 5 rw [alloc_lt _ _ (by simp only [alloc_size]; omega)]
    exact at1 _ _ _ (by simp only [alloc_size])
  · iterate 4 rw [alloc_lt _ _ (by simp only [alloc_size]; omega)]
    exact at1 _ _ _ (by simp only [alloc_size])
  · iterate 3 rw [alloc_lt _ _ (by simp only [alloc_size]; omega)]
    exact at1 _ _ _ (by simp only [alloc_size])
  · iterate 2 rw [alloc_lt _ _ (by simp only [alloc_size]; omega)]
    exact at1 _ _ _ (by simp only [alloc_size])
  · iterate 1 rw [alloc_lt _ _ (by simp only [alloc_size]; omega)]
    exact at1 _ _ _ (by simp only [alloc_size])
  · exact at1 _ _ _ (by simp only [alloc_size])
  · exact ext_alloc (ext_alloc (ext_alloc (ext_alloc (ext_alloc (ext_alloc (ext_alloc (ext_refl _ _) _) _) _) _) _) _) _
set_option maxRecDepth 100000 in
set_option maxHeartbeats 4000000 in
theorem read_any (n : Nat) (w : World) (hK : Tab w) (block : Int) (file : List UInt8) (fa : Option Addr) (fn fc : Nat) (hb : isBlk block = true) (how : Int) (rd : Option (Lk.E RT)) (y : Option (List Lk.JItem)) (hF : Lk.F RrG.G n 14 (some (block, file, 0, [], false, ()), some [], ()) = some (how, rd, y, ()))
    (S : Nat → Prop) (hfile : Lk.Rd t0 S w (.l .by) file [.slice fa fn fc]) (hS : ∀ b, S b → b < w.heap.size) :
    Calls Tryd.prog 7 #[.int .i64 block, .slice fa fn fc] w fun e w' => ∃ (l : List Lk.JItem) (sh : Lk.Sh (.l (.l .by))), y = some l ∧ e = .returned (.tuple #[sh.hd, .int .i64 (lastOf 0 (l.map (·.1))), .int .i64 how, .int .i64 0]) ∧
      Lk.hold t0 F0 F0 w' (.l (.l .by)) (.o (.o .r)) (l.map (·.2)) sh ∧ (Lk.bl (.l (.l .by)) (.o (.o .r)) (l.map (·.2)) sh).Nodup ∧ (∀ b ∈ Lk.bl (.l (.l .by)) (.o (.o .r)) (l.map (·.2)) sh, w.heap.size ≤ b) ∧ Lk.inR .i64 (lastOf 0 (l.map (·.1))) ∧ Lk.inR .i64 how ∧ Lk.Ext [] w w' := by
  have hb' := hb
  unfold isBlk at hb'
  rw [Bool.and_eq_true, decide_eq_true_eq, decide_eq_true_eq] at hb'
  refine (callsIn_wide (n := 3)).1 ?_
  refine callsIn_of_wp_marks Tryd.func7 rfl trivial ?_ rfl
  simp only [Tryd.ntmps7, List.size_toArray, List.length_cons, List.length_nil, Nat.reduceAdd, Nat.reduceSub, Array.replicate_succ, Array.replicate_zero, List.push_toArray, List.append_toArray, List.nil_append, List.cons_append]
  have hcall := fun W => isBlock_any W block
  rw [hb] at hcall
  gi_wp2_with (refine ⟨trivial, ?_⟩; gi_at_call 12; refine (callsIn_wide.2 (hcall _)).mono ?_; rintro e w' ⟨rfl, rfl⟩)
  clear hcall
  refine range_wide 2 rfl (enters_of Tryd.func13 (by kernel_rfl) rfl) ?_
  intro f W1 hW1
  let J : Lp := ⟨f, w.heap.size + 6, w.heap.size + 5, w.heap.size, w.heap.size + 1, fun i => (#[.int .i64 block, .slice fa fn fc, undef, undef, .pointer (some ⟨w.heap.size, 0, none⟩), .pointer (some ⟨w.heap.size + 1, 0, none⟩), .pointer (some ⟨w.heap.size + 2, 0, none⟩), .int .i64 0, .pointer (some ⟨w.heap.size + 4, 0, none⟩), .func (.func 13) #[] #[.pointer (some ⟨w.heap.size + 4, 0, none⟩), .pointer (some ⟨w.heap.size + 2, 0, none⟩)], undef, undef, .int .i64 block, .bool true, .bool false, .int .i64 block, .slice fa fn fc, .agg #[.int .i64 block, .slice fa fn fc, .int .i64 0, .slice none 0 0, .bool false], .pointer (some ⟨w.heap.size + 3, 0, none⟩), .func (.func 13) #[] #[.pointer (some ⟨w.heap.size + 4, 0, none⟩), .pointer (some ⟨w.heap.size + 2, 0, none⟩)], .func (.func 13) #[] #[.pointer (some ⟨w.heap.size + 4, 0, none⟩), .pointer (some ⟨w.heap.size + 2, 0, none⟩)], undef, undef, undef, undef, undef, undef, undef, undef, undef, undef] : Array Value).getD i undef⟩
  obtain ⟨W, hW, s1, s2, c0, c1, c2, c3, c4, c5, c6, hE⟩ := alloc7 w (.cells #[.slice none 0 0] 23) (.cells #[.int .i64 0] 3) (.cells #[.int .i64 0] 3) (.cells #[.int .i64 block, .slice fa fn fc, .int .i64 0, .slice none 0 0, .bool false] 48) (.cells #[.pointer (some ⟨w.heap.size + 3, 0, none⟩)] 46) (.deferred (some [])) (J.obj J.TJ f Tryd.f7 #[21, 22])
  simp only [alloc_size] at hW1
  obtain rfl : W1 = W := by rw [hW1, hW]; rfl
  clear hW1 hW
  simp only [alloc_size]
  have hlp := tab_lt hK
  have hJ : JAt J W1 [] (.func (.yield (w.heap.size + 6)) #[] #[]) [w.heap.size + 6, w.heap.size + 5, w.heap.size, w.heap.size + 1] :=
    ⟨⟨.slice none 0 0, 0, 0, [], 0, (0, 0), []⟩, rfl, c6, c5, c0, c1, .inl ⟨rfl, rfl⟩, ⟨by show (-9223372036854775808 : Int) ≤ 0; decide, by show (0 : Int) ≤ 9223372036854775807; decide⟩, rfl⟩
  have hgo := goOn_any J J n W1 (tab_keep _ _ _ hK (by simp) hE) block file how rd y hF (w.heap.size + 3) (.slice fa fn fc) 48 S c3 ⟨by show (-9223372036854775808 : Int) ≤ block; omega, by show block ≤ 9223372036854775807; omega⟩
    (Lk.Rd_keep t0 (fun b hb => ⟨hb, s2 b (hS b hb)⟩) _ _ _ hfile) _ _ hJ (by simp) (fun b hb => ⟨by have := hS b hb; omega, by have := hS b hb; simp only [List.mem_cons, List.not_mem_nil, or_false]; omega⟩) (by simp only [List.mem_cons, List.not_mem_nil, or_false]; omega)
  refine (pieces_any W1 (w.heap.size + 6) (w.heap.size + 4) (w.heap.size + 2) (w.heap.size + 3) (fun how' w2 => how' = how ∧ Lk.inR .i64 how ∧ Lk.Ext [w.heap.size + 3, w.heap.size + 6, w.heap.size + 5, w.heap.size, w.heap.size + 1] W1 w2 ∧ ∃ l bs', y = some l ∧ JAt J w2 l (.func (.yield (w.heap.size + 6)) #[] #[]) bs' ∧ bs'.Nodup ∧ (∀ b ∈ bs', b ∈ [w.heap.size + 3, w.heap.size + 6, w.heap.size + 5, w.heap.size, w.heap.size + 1] ∨ W1.heap.size ≤ b)) (cell0 c4).1 (hgo.mono ?_)).mono ?_
  · rintro e w' ⟨rfl, h1, h2, h3⟩
    have h5 := cell0 ((h2.block (w.heap.size + 2) (by omega) (by simp)).trans c2)
    exact ⟨how, rfl, ⟨_, h5.1⟩, h5.2, rfl, h1, h2, h3⟩
  rintro e w3 ⟨rfl, how', w2, ⟨rfl, hr, hx, l, bs', rfl, hJ2, hnd, hsub⟩, rfl⟩
  obtain ⟨sh, e1, g1, g2, g3, g4, g5, g6, rfl⟩ := hJ2
  have hnd0 := hnd
  simp only [List.nodup_cons, List.mem_cons, not_or] at hnd
  obtain ⟨⟨d1, d2, d3, d4⟩, ⟨d5, d6, d7⟩, ⟨d8, d9⟩, d10, d11⟩ := hnd
  have hblk : ∀ b ∈ Lk.bl (.l (.l .by)) (.o (.o .r)) (l.map (·.2)) sh, w.heap.size ≤ b ∧ b ≠ w.heap.size + 2 := fun b hb => by
    rcases hsub b (by simp [hb]) with h | h
    · simp only [List.mem_cons, List.not_mem_nil, or_false] at h; omega
    · omega
  have hcH := (hx.block (w.heap.size + 2) (by omega) (by simp)).trans c2
  have k : ∀ b, b ≠ w.heap.size + 2 → b ≠ w.heap.size + 6 → ∀ v o, ((w2.setCell ⟨w.heap.size + 2, 0, none⟩ v).putObj (w.heap.size + 6) o).heap[b]? = w2.heap[b]? := fun b h1 h2 v o => by
    rw [World.putObj_heap_other h2, Below.heap_setCell _ _ _ _ h1]
  refine ⟨_, rfl, _, (Below.heap_setCell w2 _ _ (w.heap.size + 6) (by show w.heap.size + 6 ≠ w.heap.size + 2; omega)).trans g1, (by simp), rfl, ?_⟩
  generalize hW4 : (w2.setCell ⟨w.heap.size + 2, 0, none⟩ (.int .i64 how')).putObj _ _ = W4
  have f0 : W4.heap[w.heap.size]? = some (.cells #[sh.hd] 23 (0, 0)) := by rw [← hW4, k _ (by omega) (by omega)]; exact g3
  have f1 : W4.heap[w.heap.size + 1]? = some (.cells #[.int .i64 (lastOf 0 (l.map (·.1)))] 3 (0, 0)) := by rw [← hW4, k _ (by omega) (by omega)]; exact g4
  have f2 : W4.heap[w.heap.size + 2]? = some (.cells #[.int .i64 how'] 3 (0, 0)) := by rw [← hW4, World.putObj_heap_other (by omega)]; exact set_heap hcH
  have f5 : W4.heap[w.heap.size + 5]? = some (.deferred (some [])) := by rw [← hW4, k _ (by omega) (by omega)]; exact g2
  have f9 : Lk.hold t0 F0 F0 W4 (.l (.l .by)) (.o (.o .r)) (l.map (·.2)) sh := Lk.hold_keep t0 (fun _ h => h.elim) (fun _ h => h.elim) _ _ _ _ (fun b hb => by rw [← hW4]; exact k _ (hblk b hb).2 (fun e => d4 (by subst e; exact hb)) _ _) g5
  have hext : Lk.Ext [] w W4 := by
    rw [← hW4]
    refine ext_put (.inr (by omega)) (ext_setCell (.inr (by show w.heap.size ≤ w.heap.size + 2; omega)) (ext_tr hE hx (fun k hk => ?_)) _) _
    simp only [List.mem_cons, List.not_mem_nil, or_false] at hk
    right; omega
  have hd0 : ∀ b ∈ Lk.bl (.l (.l .by)) (.o (.o .r)) (l.map (·.2)) sh, b ≠ w.heap.size + 5 := fun b hb e => d7 (by subst e; exact hb)
  have hdR : ∀ b ∈ Lk.bl (.l (.l .by)) (.o (.o .r)) (l.map (·.2)) sh, b ≠ w.heap.size ∧ b ≠ w.heap.size + 1 ∧ b ≠ w.heap.size + 2 := fun b hb => ⟨fun e => d9 (by subst e; exact hb), fun e => d10 (by subst e; exact hb), (hblk b hb).2⟩
  clear hgo hJ hF hx hcH k hsub hW4 g1 g2 g3 g4 g5 c0 c1 c2 c3 c4 c5 c6
  obtain ⟨sa, sn, sc, he⟩ : ∃ sa sn sc, sh.hd = .slice sa sn sc := by
    rcases Lk.own_row f9 with ⟨q, _⟩ | ⟨cap, q, _⟩
    · exact ⟨_, _, _, q⟩
    · exact ⟨_, _, _, q.hd⟩
  rw [he] at f0
  rename_i K hK0
  simp only [Exit.inBlock, Exit.then]
  refine hK0 _ _ ?_
  exact tail7_any W4 w.heap.size (w.heap.size + 1) (w.heap.size + 2) (w.heap.size + 5) sa sn sc _ _ f0 f1 f2 f5 (by omega) J.a _ (fun m => by
    have hk : ∀ b, b ≠ w.heap.size + 5 → (({ W4 with drawn := m } : World).putObj (w.heap.size + 5) (.deferred none)).heap[b]? = W4.heap[b]? := fun b hb => World.putObj_heap_other hb
    refine ⟨l, sh, rfl, by rw [he], Lk.hold_keep t0 (fun _ h => h.elim) (fun _ h => h.elim) _ _ _ _ (fun b hb => hk b (hd0 b hb)) f9, d11, fun b hb => (hblk b hb).1, g6, hr, ext_put (.inr (by omega)) (ext_drew hext m) _⟩)
end Rr
end
section
/-! Calls of functions of L's, from a walk. -/
namespace Rr
open Go Go.RowKit Go.Proofs
theorem call_flat {P : Program} {τ : Lk.Ax} {Kw : Lk.KW} {g : FuncId} {sg : Lk.Sig} {F : Lk.Tup sg.ps → Option (Lk.Tup sg.rs)} (hok : Lk.FnOk (τ := τ) (Kw := Kw) P g sg F) {x : Lk.Tup sg.ps} {res : Lk.Tup sg.rs} (hF : F x = some res)
    {w : World} (hK : Kw.p w) (hn : Kw.n ≤ w.heap.size) (ads : List Lk.DV) (ha : ads.map Lk.DV.av = Lk.avs sg.ps x) (S : Nat → Prop) (hS : ∀ b, S b → b < w.heap.size) (hh : ∀ d ∈ ads, d.hold τ S S w) (hbl : Lk.blsOf ads = []) :
    Calls P g (ads.map (Lk.DV.val τ)).toArray w fun e w' => ∃ rds : List Lk.DV, rds.map Lk.DV.av = Lk.avs sg.rs res ∧ e = .returned (Lk.resV (τ := τ) (rds.take sg.nr)) ∧ Lk.Ext [] w w' ∧ ∃ S' : Nat → Prop, ∀ d ∈ rds, d.hold τ S' S' w' := by
  have := hok x res hF w S S ads hK (fun b hb => hb.elim (hS b) (hS b)) ha ⟨fun d hd => Lk.hold_keep τ (fun b hb => ⟨hb, rfl⟩) (fun b hb => ⟨.inl hb, rfl⟩) _ _ _ _ (fun _ _ => rfl) (hh d hd), by rw [hbl]; simp, by rw [hbl]; simp, by rw [hbl]; simp, hn⟩
  refine this.mono ?_
  rintro e w' ⟨v, rfl, hE, ⟨rds, S', e1, _, _, _, e5, _, _, e8, _⟩⟩
  rw [hbl] at hE
  exact ⟨rds, e1, by rw [e8], hE, S', e5⟩
theorem lend {τ : Lk.Ax} {w : World} {t : Lk.Ty} {m : Lk.Md} {x : Lk.E t} {sh : Lk.Sh t} (hm : m.solid = true) (h : Lk.hold τ F0 F0 w t m x sh) : Lk.Rd τ (fun b => b ∈ Lk.bl t m x sh) w t x (Lk.cells τ t x sh) :=
  Lk.hold_rd τ (fun _ h => h.elim) t m x sh hm (.inr fun _ h => h.elim) (fun _ h => h) h
theorem all_any (w : World) (a : Option Addr) (n c : Nat) : Calls Tryd.prog 16 #[.slice a n c] w fun e w' => e = .returned (.func (.func 29) #[] #[.pointer (some ⟨w.heap.size, 0, none⟩)]) ∧ w' = w.alloc (.cells #[.slice a n c] 24) := by
  go_enter Tryd.func16, Tryd.ntmps16
  go_wp2
  go_ret
  exact ⟨rfl, rfl⟩
theorem gone_any (J B : Lp) (n : Nat) (W : World) (hK : Tab W) (b : List UInt8) (y : Option (List Lk.BItem)) (hF : Lk.F RrG.G n 29 (some [], some b, ()) = some (y, ()))
    (bx : Nat) (bhd : Value) (T : TypeId) (S : Nat → Prop) (hbx : W.heap[bx]? = some (.cells #[bhd] T (0, 0))) (hb : Lk.Rd t0 S W (.l .by) b [bhd]) (v : Value) (bs : List Nat) (hB : BAt B W [] v bs) (hnd : bs.Nodup) (hS : ∀ k, S k ∨ k = bx → k < W.heap.size ∧ k ∉ bs) (h1 : ∀ k ∈ bs, 1 ≤ k) :
    Calls Tryd.prog 29 #[v, .pointer (some ⟨bx, 0, none⟩)] W fun e w' => e = .returned (.tuple #[]) ∧ Lk.Ext bs W w' ∧ ∃ l bs', y = some l ∧ BAt B w' l v bs' ∧ bs'.Nodup ∧ (∀ k ∈ bs', k ∈ bs ∨ W.heap.size ≤ k) := by
  have hok := Lk.F_ok (GP.prg J B) GP.res n 29
  have hlt : ∀ k ∈ bs, k < W.heap.size := fun k hk => (LpAt.lt hB) k hk
  have hbl : Lk.blsOf [⟨.a 3, .o .r, some [], (v, bs)⟩, ⟨.p (.l .by), .b, some b, some ⟨bx, T, (0, 0), ⟨bhd, 0, 0, [], 0, (0, 0), []⟩⟩⟩] = bs := by
    show bs ++ ([] ++ []) = _
    simp
  have := hok (some [], some b, ()) (y, ()) hF W (fun _ => False) (fun k => S k ∨ k = bx)
    [⟨.a 3, .o .r, some [], (v, bs)⟩, ⟨.p (.l .by), .b, some b, some ⟨bx, T, (0, 0), ⟨bhd, 0, 0, [], 0, (0, 0), []⟩⟩⟩] hK (fun k hk => by
      rcases hk with hk | hk
      · exact hk.elim
      · exact (hS k hk).1) rfl ⟨?_, ?_, ?_, ?_, ?_⟩
  · refine this.mono ?_
    rintro e w' ⟨u, rfl, hE, ⟨rds, S', e1, e2, e3, e4, e5, e6, e7, e8, e9⟩⟩
    rw [hbl] at hE e7
    obtain ⟨⟨v', bs'⟩, rds1, rfl, q1⟩ := ads_cons e1
    obtain rfl := ads_nil q1
    have g2 : Lk.Own (ax J B) 3 w' y v' bs' := e5 _ (List.mem_cons_self ..)
    have hv' : v' = v := by
      have h : [v'] = [v] := e9
      simpa using h
    subst hv'
    refine ⟨by rw [e8]; rfl, hE, ?_⟩
    cases y with
    | none =>
      obtain ⟨sh, hv, _⟩ := hB
      rw [hv] at g2
      cases g2.1
    | some l =>
      have hsub : ∀ k ∈ bs', k ∈ Lk.blsOf ([⟨.a 3, .o .r, some l, (v', bs')⟩] : List Lk.DV) := fun k hk => List.mem_flatten.2 ⟨bs', List.mem_cons_self .., hk⟩
      have hnd' : bs'.Nodup := List.Nodup.sublist (List.sublist_flatten_of_mem (by exact List.mem_cons_self ..)) e6
      exact ⟨l, bs', rfl, g2, hnd', fun k hk => (e7 k (hsub k hk)).1⟩
  · intro d hd
    simp only [List.mem_cons, List.not_mem_nil, or_false] at hd
    rcases hd with rfl | rfl
    · exact hB
    · refine ⟨bx, #[bhd], T, (0, 0), rfl, .inr (.inr rfl), hbx, ?_⟩
      exact Rd_tau _ _ _ rfl (Lk.Rd_keep t0 (fun k hk => ⟨.inr (.inl hk), rfl⟩) _ _ _ hb)
  · rw [hbl]; exact hnd
  · rw [hbl]
    intro k hk
    exact ⟨hlt k hk, fun h => by
      rcases h with h | h
      · exact h.elim
      · exact (hS k h).2 hk⟩
  · rw [hbl]; exact h1
  · exact tab_lt hK
end Rr
end
section
/-! batch.Decode: the walk. -/
namespace Rr
open Go Go.RowKit Go.Proofs
attribute [local go_sem] Oper.semAt_some
theorem head_call {J B : Lp} (n : Nat) (W : World) (hK : Tab W) (b : List UInt8) (q cnt bad : Int) (hF : Lk.F RrG.G n 15 (b, ()) = some (q, cnt, bad, ())) (a : Option Addr) (k c : Nat) (S : Nat → Prop) (hb : Lk.Rd t0 S W (.l .by) b [.slice a k c]) (hS : ∀ k, S k → k < W.heap.size) :
    Calls Tryd.prog 15 #[.slice a k c] W fun e w' => e = .returned (.tuple #[.int .u64 q, .int .i64 cnt, .int .i64 bad]) ∧ Lk.inR .u64 q ∧ Lk.inR .i64 cnt ∧ Lk.inR .i64 bad ∧ Lk.Ext [] W w' := by
  have := call_flat (Lk.F_ok (GP.prg J B) GP.res n 15) hF hK (tab_lt hK) [⟨.l .by, .b, b, ⟨.slice a k c, 0, 0, [], 0, (0, 0), []⟩⟩] rfl S hS (fun d hd => by
    obtain rfl := List.mem_singleton.1 hd
    exact Rd_tau _ _ _ rfl hb) rfl
  refine this.mono ?_
  rintro e w' ⟨rds, e1, rfl, hE, S', hd⟩
  obtain ⟨s0, r1, rfl, q1⟩ := ads_cons e1
  obtain ⟨s1, r2, rfl, q2⟩ := ads_cons q1
  obtain ⟨s2, r3, rfl, q3⟩ := ads_cons q2
  obtain rfl := ads_nil q3
  have g0 : Lk.Rd (ax J B) S' w' (.i .u64) q [.int .u64 q] := hd _ (List.mem_cons_self ..)
  have g1 : Lk.Rd (ax J B) S' w' (.i .i64) cnt [.int .i64 cnt] := hd _ (List.mem_cons_of_mem _ (List.mem_cons_self ..))
  have g2 : Lk.Rd (ax J B) S' w' (.i .i64) bad [.int .i64 bad] := hd _ (List.mem_cons_of_mem _ (List.mem_cons_of_mem _ (List.mem_cons_self ..)))
  exact ⟨rfl, g0.2, g1.2, g2.2, hE⟩
set_option maxRecDepth 100000 in
set_option maxHeartbeats 4000000 in
theorem decode_bad (w : World) (ba : Option Addr) (bn bc : Nat) (q cnt bad : Int) (hbad : bad ≠ 0)
    (h15 : Calls Tryd.prog 15 #[.slice ba bn bc] (w.alloc (.cells #[.slice none 0 0] 35)) fun e w' => e = .returned (.tuple #[.int .u64 q, .int .i64 cnt, .int .i64 bad]) ∧ Lk.inR .u64 q ∧ Lk.inR .i64 cnt ∧ Lk.inR .i64 bad ∧ Lk.Ext [] (w.alloc (.cells #[.slice none 0 0] 35)) w') :
    Calls Tryd.prog 8 #[.slice ba bn bc] w fun e w' => (∃ u v, e = .returned (.tuple #[u, v, .int .i64 bad])) ∧ Lk.Ext [] w w' := by
  refine (callsIn_wide (n := 3)).1 ?_
  refine callsIn_of_wp_marks Tryd.func8 rfl trivial ?_ rfl
  obtain ⟨F8, hF8⟩ : ∃ F, F = Tryd.f8 := ⟨_, rfl⟩
  rw [← hF8]
  simp only [hF8, Tryd.ntmps8, List.size_toArray, List.length_cons, List.length_nil, Nat.reduceAdd, Nat.reduceSub, Array.replicate_succ, Array.replicate_zero, List.push_toArray, List.append_toArray, List.nil_append, List.cons_append]
  gi_wp2_with (refine ⟨trivial, ?_⟩; gi_at_call 15; refine (callsIn_wide.2 h15).mono ?_; rintro e w1 ⟨rfl, _, _, _, hE1⟩; have hcR := cell0 ((hE1.block w.heap.size (by rw [alloc_size]; omega) (by simp)).trans (alloc_at w _)); have hcR1 := hcR.1; have hcR2 := hcR.2)
  rw [set_same ((hE1.block w.heap.size (by rw [alloc_size]; omega) (by simp)).trans (alloc_at w _))]
  refine ⟨.tuple #[.int .u64 0, .slice none 0 0, .int .i64 bad], ?_, ⟨_, _, rfl⟩, ext_tr (ext_alloc (ext_refl _ _) _) hE1 (by simp)⟩
  simp [results, Tryd.f8, go_sem, hcR1]
noncomputable def tail8 : Code := match Tryd.f8.body with
  | some (.seq _ (.seq _ (.seq _ (.seq _ (.seq _ c))))) => c
  | _ => .skip
theorem b41 {p q r s : Bool} (h : p = true ∨ q = true ∨ r = true ∨ s = true) : (bif p || q || r || s then (41 : Int) else 0) = 41 := by
  rcases h with rfl | rfl | rfl | rfl <;> simp
theorem fin8 {F8 : Func} (hF8 : F8 = Tryd.f8) {R : Ending → World → Prop} {w2 : World} {q0 D : Nat} {tm : Array Value} {sa : Option Addr} {sn sc : Nat} (h0 : w2.heap[q0]? = some (.cells #[.slice sa sn sc] 35 (0, 0))) (h3 : w2.heap[D]? = some (.deferred (some []))) (e3 : tm.getD 3 undef = .pointer (some ⟨q0, 0, none⟩))
    (hR : R (.returned (.tuple #[tm.getD 2 undef, .slice sa sn sc, tm.getD 4 undef])) (w2.putObj D (.deferred none))) : bodyPostM Fence.wide 3 Tryd.prog F8 R .ret { tmps := tm, defers := [{ target := .collected D, args := #[] }] } w2 := by
  have hne : q0 ≠ D := fun e => by rw [e, h3] at h0; cases h0
  have k0 := (cell0 ((World.putObj_heap_other (o := .deferred none) hne).trans h0)).1
  refine ⟨by simp, .inl ⟨_, _, rfl, run_takeDeferred h3, ?_⟩⟩
  refine ⟨_, ?_, hR⟩
  rw [hF8]
  rw [Array.getD_eq_getD_getElem?] at e3
  simp [results, Tryd.f8, go_sem, e3, k0]
set_option maxRecDepth 100000 in
set_option maxHeartbeats 8000000 in
theorem tail8_any (W : World) (q0 q1 D : Nat) (ba : Option Addr) (bn bc : Nat) (sa : Option Addr) (sn sc : Nat) (q cnt x : Int) (hcnt : Lk.inR .i64 cnt) (hx : Lk.inR .i64 x) (h0 : W.heap[q0]? = some (.cells #[.slice sa sn sc] 35 (0, 0))) (h1 : W.heap[q1]? = some (.cells #[.int .i64 x] 3 (0, 0))) (h3 : W.heap[D]? = some (.deferred (some []))) (hd : q0 ≠ q1)
    (k bad : Int) (f : Bool) (h17 : Calls Tryd.prog 17 #[.slice sa sn sc] W fun e w' => e = .returned (.tuple #[.int .i64 k, .int .i64 bad]) ∧ Lk.Ext [] W w') (h18 : ∀ w', Lk.Ext [] W w' → Calls Tryd.prog 18 #[.int .u64 q, .int .i64 cnt] w' fun e w2 => e = .returned (.bool f) ∧ Lk.Ext [] w' w2)
    (a : Nat → Value) (R : Ending → World → Prop) (hR : ∀ u v w', (∃ W2, Lk.Ext [q0] W W2 ∧ w' = W2.putObj D (.deferred none)) → R (.returned (.tuple #[u, v, .int .i64 (bif !(bad == 0) || !((sn : Int) == cnt) || !(x == (bn : Int)) || !f then 41 else 0)])) w') :
    tail8.wp Tryd.prog (bodyPostM Fence.wide 3 Tryd.prog Tryd.f8 R) { tmps := #[.slice ba bn bc, a 1, .int .u64 q, .pointer (some ⟨q0, 0, none⟩), a 4, .int .i64 cnt, a 6, .pointer (some ⟨q1, 0, none⟩), a 8, a 9, a 10, a 11, a 12, a 13, a 14, a 15, a 16, a 17, a 18, a 19, a 20, a 21, a 22, a 23, a 24, a 25, a 26, a 27, a 28, a 29, a 30, a 31, a 32, a 33, a 34, a 35, a 36, a 37, a 38, a 39, a 40, a 41, a 42, a 43, a 44, a 45, a 46, a 47, a 48, a 49, a 50, a 51, a 52, a 53, a 54, a 55, a 56], defers := [{ target := .collected D, args := #[] }] } W := by
  obtain ⟨F8, hF8⟩ : ∃ F, F = Tryd.f8 := ⟨_, rfl⟩
  rw [← hF8]
  simp only [tail8, Tryd.f8]
  have c0 := (cell0 h0).1
  have hH : ∀ w', Lk.Ext [] W w' → w'.cell? ⟨q0, 0, none⟩ = some (.slice sa sn sc) ∧ w'.frozen? ⟨q0, 0, none⟩ = false ∧ w'.cell? ⟨q1, 0, none⟩ = some (.int .i64 x) := fun w' hE => by
    have k0 := cell0 ((hE.block q0 (hlt' h0) (by simp)).trans h0)
    have k1 := cell0 ((hE.block q1 (hlt' h1) (by simp)).trans h1)
    exact ⟨k0.1, k0.2, k1.1⟩
  have fin : ∀ (w' : World) (tm : Array Value), Lk.Ext [] W w' → tm.getD 3 undef = .pointer (some ⟨q0, 0, none⟩) → tm.getD 4 undef = .int .i64 41 → (bif !(bad == 0) || !((sn : Int) == cnt) || !(x == (bn : Int)) || !f then (41 : Int) else 0) = 41 →
      bodyPostM Fence.wide 3 Tryd.prog F8 R .ret { tmps := tm, defers := [{ target := .collected D, args := #[] }] } (w'.setCell ⟨q0, 0, none⟩ (.slice none 0 0)) := fun w' tm hE e3 e4 hb => by
    have g0 := (hE.block q0 (hlt' h0) (by simp)).trans h0
    have g3 := (hE.block D (hlt' h3) (by simp)).trans h3
    have hne : D ≠ q0 := fun e => by rw [e, h0] at h3; cases h3
    refine fin8 hF8 (set_heap g0) ((Below.heap_setCell _ _ _ _ hne).trans g3) e3 ?_
    have := hR (tm.getD 2 undef) (.slice none 0 0) _ ⟨w'.setCell ⟨q0, 0, none⟩ (.slice none 0 0), ext_setCell (.inl (by simp)) (ext_more hE (by simp)) _, rfl⟩
    rw [hb] at this
    rw [e4]
    exact this
  go_wp2_with (first | (go_at_call 17; refine h17.mono ?_; rintro e w1 ⟨rfl, hE1⟩; obtain ⟨c10, c11, c12⟩ := hH _ hE1) | (go_at_call 18; refine (h18 _ hE1).mono ?_; rintro e w2 ⟨rfl, hE2⟩; have hE2' := ext_tr hE1 hE2 (by simp); obtain ⟨c20, c21, c22⟩ := hH _ hE2'))
  · rename_i hf
    exact fin w2 _ hE2' rfl rfl (by simp at hf; simp [hf])
  · rename_i hf K hK0
    have s2 : ∀ n, ({ w2 with drawn := n } : World).setCell ⟨q0, 0, none⟩ (.slice sa sn sc) = { w2 with drawn := n } := fun n => set_same (w := { w2 with drawn := n }) ((hE2'.block q0 (hlt' h0) (by simp)).trans h0)
    clear fin hE1 hE2 c10 c11 c12 hH h17 h18
    go_region_held3 (fun w' : World => w'.cell? ⟨q0, 0, none⟩ = some (.slice sa sn sc) ∧ w'.frozen? ⟨q0, 0, none⟩ = false) (first | exact ⟨c20, c21⟩ | go_keep) (fail)
    go_wp2
    have g0 := (hE2'.block q0 (hlt' h0) (by simp)).trans h0
    have g3 := (hE2'.block D (hlt' h3) (by simp)).trans h3
    refine fin8 (w2 := { w2 with drawn := w2.drawn + 1 }) hF8 g0 g3 rfl ?_
    have := hR (.int .u64 q) (.slice sa sn sc) _ ⟨{ w2 with drawn := w2.drawn + 1 }, ext_more (ext_drew hE2' _) (by simp), rfl⟩
    have hb : (bif !(bad == 0) || !((sn : Int) == cnt) || !(x == (bn : Int)) || !f then (41 : Int) else 0) = 0 := by
      simp_all
    rw [hb] at this
    exact this
  · rename_i hf
    exact fin w1 _ hE1 rfl rfl (b41 (.inr (.inr (.inl (by simpa using hf)))))
  · rename_i hf
    exact fin w1 _ hE1 rfl rfl (b41 (.inr (.inl (by simpa using hf))))
  · rename_i hf
    exact fin w1 _ hE1 rfl rfl (b41 (.inl (by simpa using hf)))
end Rr
end
section
/-! batch.Decode: the walk (2). -/
namespace Rr
open Go Go.RowKit Go.Proofs
attribute [local go_sem] Oper.semAt_some
theorem alloc4 (w : World) (o0 o1 o2 o3 : Obj) : ∃ W : World, W = (((w.alloc o0).alloc o1).alloc o2).alloc o3 ∧ W.heap.size = w.heap.size + 4 ∧ (∀ b, b < w.heap.size → W.heap[b]? = w.heap[b]?) ∧
    W.heap[w.heap.size]? = some o0 ∧ W.heap[w.heap.size + 1]? = some o1 ∧ W.heap[w.heap.size + 2]? = some o2 ∧ W.heap[w.heap.size + 3]? = some o3 ∧ Lk.Ext [] w W := by
  have at1 : ∀ (W : World) (k : Nat) (o : Obj), W.heap.size = k → (W.alloc o).heap[k]? = some o := fun W k o h => by rw [← h]; exact alloc_at W o
  refine ⟨_, rfl, by simp only [alloc_size], fun b hb => ?_, ?_, ?_, ?_, ?_, ?_⟩
  · iterate 3 rw [alloc_lt _ _ (by simp only [alloc_size]; omega)]
    exact alloc_lt _ _ hb
  · iterate 3 rw [alloc_lt _ _ (by simp only [alloc_size]; omega)]
    exact at1 _ _ _ rfl
  · iterate 2 rw [alloc_lt _ _ (by simp only [alloc_size]; omega)]
    exact at1 _ _ _ (by simp only [alloc_size])
  · iterate 1 rw [alloc_lt _ _ (by simp only [alloc_size]; omega)]
    exact at1 _ _ _ (by simp only [alloc_size])
  · exact at1 _ _ _ (by simp only [alloc_size])
  · exact ext_alloc (ext_alloc (ext_alloc (ext_alloc (ext_refl _ _) _) _) _) _
set_option maxRecDepth 100000 in
set_option maxHeartbeats 4000000 in
theorem decode_ok (n : Nat) (w : World) (hK : Tab w) (b : List UInt8) (ba : Option Addr) (bn bc : Nat) (q cnt : Int)
    (h15 : Calls Tryd.prog 15 #[.slice ba bn bc] (w.alloc (.cells #[.slice none 0 0] 35)) fun e w' => e = .returned (.tuple #[.int .u64 q, .int .i64 cnt, .int .i64 0]) ∧ Lk.inR .u64 q ∧ Lk.inR .i64 cnt ∧ Lk.inR .i64 0 ∧ Lk.Ext [] (w.alloc (.cells #[.slice none 0 0] 35)) w')
    (S : Nat → Prop) (hb : Lk.Rd t0 S w (.l .by) b [.slice ba bn bc]) (hS : ∀ k, S k → k < w.heap.size) (y : Option (List Lk.BItem)) (hF : Lk.F RrG.G n 29 (some [], some b, ()) = some (y, ()))
    (k bad : Int) (f : Bool) (h17 : ∀ l : List Lk.BItem, y = some l → Lk.F RrG.G n 17 ((l.map (·.2.1) : List (Lk.E OpT)), ()) = some (k, bad, ())) (h18 : Lk.F RrG.G n 18 (q, cnt, ()) = some (f, ())) :
    Calls Tryd.prog 8 #[.slice ba bn bc] w fun e w' => (∃ l u v, y = some l ∧ e = .returned (.tuple #[u, v, .int .i64 (bif !(bad == 0) || !((l.length : Int) == cnt) || !(lastOf 12 (l.map (·.2.2.1)) == (bn : Int)) || !f then 41 else 0)])) ∧ Lk.Ext [] w w' := by
  refine (callsIn_wide (n := 3)).1 ?_
  refine callsIn_of_wp_marks Tryd.func8 rfl trivial ?_ rfl
  simp only [Tryd.ntmps8, List.size_toArray, List.length_cons, List.length_nil, Nat.reduceAdd, Nat.reduceSub, Array.replicate_succ, Array.replicate_zero, List.push_toArray, List.append_toArray, List.nil_append, List.cons_append]
  gi_wp2_with (first | (refine ⟨trivial, ?_⟩; gi_at_call 15; refine (callsIn_wide.2 h15).mono ?_; rintro e w1 ⟨rfl, hq, hcnt, _, hE1⟩) | (refine ⟨trivial, ?_⟩; gi_at_call 16; refine (callsIn_wide.2 (all_any _ _ _ _)).mono ?_; rintro e w2 ⟨rfl, rfl⟩))
  refine range_wide 2 rfl (enters_of Tryd.func29 (by kernel_rfl) rfl) ?_
  intro f0 W1 hW1
  simp only [alloc_size] at hW1 ⊢
  have hs1 := hE1.size
  rw [alloc_size] at hs1
  let J : Lp := ⟨f0, w1.heap.size + 3, w1.heap.size + 2, w.heap.size, w1.heap.size, fun i => (#[.slice ba bn bc, undef, .int .u64 q, .pointer (some ⟨w.heap.size, 0, none⟩), .int .i64 0, .int .i64 cnt, .int .i64 0, .pointer (some ⟨w1.heap.size, 0, none⟩), undef, undef, undef, .tuple #[.int .u64 q, .int .i64 cnt, .int .i64 0], .slice ba bn bc, .tuple #[.int .u64 q, .int .i64 cnt, .int .i64 0], .int .u64 q, .int .i64 cnt, .int .i64 0, .int .i64 0, .bool false, undef, .slice ba bn bc, .func (.func 29) #[] #[.pointer (some ⟨w1.heap.size + 1, 0, none⟩)], undef, undef, undef, undef, undef, undef, undef, undef, undef, undef, undef, undef, undef, undef, undef, undef, undef, undef, undef, undef, undef, undef, undef, undef, undef, undef, undef, undef, undef, undef, undef, undef, undef, undef, undef] : Array Value).getD i undef⟩
  have c0w : w1.heap[w.heap.size]? = some (.cells #[.slice none 0 0] 35 (0, 0)) := (hE1.block w.heap.size (by rw [alloc_size]; omega) (by simp)).trans (alloc_at w _)
  obtain ⟨W, hW, s1, s2, c1, c2, c5, c6, hE⟩ := alloc4 w1 (.cells #[.int .i64 12] 3) (.cells #[.slice ba bn bc] 24) (.deferred (some [])) (J.obj J.TB f0 Tryd.f8 #[22])
  obtain rfl : W1 = W := by rw [hW1, hW]; rfl
  clear hW1 hW
  have c0 := (s2 w.heap.size (by omega)).trans c0w
  have hlp := tab_lt hK
  have hEw : Lk.Ext [] w w1 := ext_tr (ext_alloc (ext_refl _ _) _) hE1 (by simp)
  have hEW : Lk.Ext [] w W1 := ext_tr hEw hE (by simp)
  have hK1 := tab_keep _ _ _ hK (by simp) hEW
  have hJ : BAt J W1 [] (.func (.yield (w1.heap.size + 3)) #[] #[]) [w1.heap.size + 3, w1.heap.size + 2, w.heap.size, w1.heap.size] :=
    ⟨⟨.slice none 0 0, 0, 0, [], 0, (0, 0), []⟩, rfl, c6, c5, c0, c1, .inl ⟨rfl, rfl⟩, ⟨by show (-9223372036854775808 : Int) ≤ 12; decide, by show (12 : Int) ≤ 9223372036854775807; decide⟩, rfl⟩
  have hgo := gone_any J J n W1 hK1 b y hF (w1.heap.size + 1) (.slice ba bn bc) 24 S c2
    (Lk.Rd_keep t0 (fun b hb => ⟨hb, hEW.block b (hS b hb) (by simp)⟩) _ _ _ hb) _ _ hJ (by simp; omega) (fun b hb => by
      have : S b → b < w.heap.size := hS b
      simp only [List.mem_cons, List.not_mem_nil, or_false]
      rcases hb with hb | hb
      · have := this hb; omega
      · omega) (by simp only [List.mem_cons, List.not_mem_nil, or_false]; omega)
  refine hgo.mono ?_
  rintro e w3 ⟨rfl, hx, l, bs', rfl, hJ2, hnd, hsub⟩
  obtain ⟨sh, e1, g1, g2, g3, g4, g5, g6, rfl⟩ := hJ2
  simp only [List.nodup_cons, List.mem_cons, not_or] at hnd
  obtain ⟨⟨d1, d2, d3, d4⟩, ⟨d5, d6, d7⟩, ⟨d8, d9⟩, d10, d11⟩ := hnd
  have k : ∀ b, b ≠ w1.heap.size + 3 → ∀ o, (w3.putObj (w1.heap.size + 3) o).heap[b]? = w3.heap[b]? := fun b h2 o => by
    rw [World.putObj_heap_other h2]
  refine ⟨_, rfl, _, g1, (by simp), rfl, ?_⟩
  generalize hW4 : w3.putObj _ _ = W4
  have f0 : W4.heap[w.heap.size]? = some (.cells #[sh.hd] 35 (0, 0)) := by rw [← hW4, k _ (by omega)]; exact g3
  have f1 : W4.heap[w1.heap.size]? = some (.cells #[.int .i64 (lastOf 12 (l.map (·.2.2.1)))] 3 (0, 0)) := by rw [← hW4, k _ (by omega)]; exact g4
  have f5 : W4.heap[w1.heap.size + 2]? = some (.deferred (some [])) := by rw [← hW4, k _ (by omega)]; exact g2
  have f9 : Lk.hold t0 F0 F0 W4 (.l OpT) (.o OpM) (l.map (·.2.1)) sh := Lk.hold_keep t0 (fun _ h => h.elim) (fun _ h => h.elim) _ _ _ _ (fun b hb => by rw [← hW4]; exact k _ (fun e => d4 (by subst e; exact hb)) _) g5
  have hext : Lk.Ext [] w W4 := by
    rw [← hW4]
    refine ext_put (.inr (by omega)) (ext_tr hEW hx (fun k hk => ?_)) _
    simp only [List.mem_cons, List.not_mem_nil, or_false] at hk
    right; omega
  have hK4 := tab_keep _ _ _ hK (by simp) hext
  clear hgo hJ hF hx k hsub hW4 g1 g2 g3 g4 g5 c0 c1 c2 c5 c6
  obtain ⟨sa, sc, he⟩ : ∃ sa sc, sh.hd = .slice sa l.length sc := by
    rcases Lk.own_row f9 with ⟨q, hq, _⟩ | ⟨cap, q, _⟩
    · have : l = [] := List.map_eq_nil_iff.1 hq
      subst this
      exact ⟨_, _, q⟩
    · have := q.hd
      rw [List.length_map] at this
      exact ⟨_, _, this⟩
  rw [he] at f0
  have hrd := lend (m := .o OpM) rfl f9
  rw [show Lk.cells t0 (.l OpT) (l.map (·.2.1)) sh = [.slice sa l.length sc] by rw [← he]; rfl] at hrd
  have hlt := Lk.hold_lt t0 _ _ _ _ f9
  have h17' := call_flat (Lk.F_ok (GP.prg J J) GP.res n 17) (h17 l rfl) hK4 (tab_lt hK4) [⟨.l OpT, .b, l.map (·.2.1), ⟨.slice sa l.length sc, 0, 0, [], 0, (0, 0), []⟩⟩] rfl _ hlt (fun d hd => by
    obtain rfl := List.mem_singleton.1 hd
    exact Rd_tau _ _ _ rfl hrd) rfl
  have h18' : ∀ w', Lk.Ext [] W4 w' → Calls Tryd.prog 18 #[.int .u64 q, .int .i64 cnt] w' fun e w2 => e = .returned (.bool f) ∧ Lk.Ext [] w' w2 := fun w' hE => by
    have hK5 := tab_keep _ _ _ hK4 (by simp) hE
    refine (call_flat (Lk.F_ok (GP.prg J J) GP.res n 18) h18 hK5 (tab_lt hK5) [⟨.i .u64, .r, q, ()⟩, ⟨.i .i64, .r, cnt, ()⟩] rfl (fun _ => False) (fun _ h => h.elim) (fun d hd => by
      simp only [List.mem_cons, List.not_mem_nil, or_false] at hd
      rcases hd with rfl | rfl
      · exact ⟨rfl, hq⟩
      · exact ⟨rfl, hcnt⟩) rfl).mono ?_
    rintro e w2 ⟨rds, e1, rfl, hE2, S', hd⟩
    obtain ⟨s0, r1, rfl, q1⟩ := ads_cons e1
    obtain rfl := ads_nil q1
    exact ⟨rfl, hE2⟩
  rename_i K hK0
  simp only [Exit.inBlock, Exit.then]
  refine hK0 _ _ ?_
  refine wpIn_wide.2 ?_
  exact tail8_any W4 w.heap.size w1.heap.size (w1.heap.size + 2) ba bn bc sa l.length sc q cnt _ hcnt g6 f0 f1 f5 (by omega) k bad f (h17'.mono (by
    rintro e w2 ⟨rds, e1, rfl, hE2, S', hd⟩
    obtain ⟨s0, r1, rfl, q1⟩ := ads_cons e1
    obtain ⟨s1, r2, rfl, q2⟩ := ads_cons q1
    obtain rfl := ads_nil q2
    exact ⟨rfl, hE2⟩)) h18' J.a _ (fun u v w' ⟨W2, hE2, hw'⟩ => by
    refine ⟨⟨l, u, v, rfl, rfl⟩, ?_⟩
    rw [hw']
    exact ext_put (.inr (by omega)) (ext_tr hext hE2 (by simp)) _)
end Rr
end
section
/-! reopen.Replay: the walk. -/
namespace Rr
open Go Go.RowKit Go.Proofs
theorem wpList_append_run {P : Program} {ops : Array Oper} {rest : List Oper} {o : Oper} {a : Act} {Q : Exit → Act → World → Prop} {w : World} (hg : o.guard = none) (p q : Operand) (t t2 : TypeId) (hop : o.op = Op.call { callee := Callee.builtin Builtin.append, args := #[p, q], argTypes := #[t, t2] })
    {v1 v2 v' : Value} {w' : World} (h1 : a.eval p = v1) (h2 : a.eval q = v2) (oT : TypeId) (hT : o.type = oT) (hrun : (Builtin.append_ #[t, t2] oT #[v1, v2]).run P w = .ok v' w') (hK : wpList P ops Q rest (a.put o.dst v') w') :
    wpList P ops Q (o :: rest) a w := by
  refine wpList_plain hg fun K' hK' => ?_
  subst hT
  unfold Oper.wp
  simp [execOp, hop, resolve, invoke, builtin, h1, h2, hrun, Result.andThen]
  exact hK' _ _ hK
noncomputable def xDec (n : Nat) (b : List UInt8) : Option Int :=
  (Lk.F RrG.G n 15 (b, ()) : Option (Int × Int × Int × Unit)).bind fun h =>
    bif h.2.2.1 == 0 then (Lk.F RrG.G n 29 (some [], some b, ()) : Option (Option (List Lk.BItem) × Unit)).bind fun y => match y.1 with
      | none => none
      | some l => (Lk.F RrG.G n 17 ((l.map (·.2.1) : List (Lk.E OpT)), ()) : Option (Int × Int × Unit)).bind fun c =>
        (Lk.F RrG.G n 18 (h.1, h.2.1, ()) : Option (Bool × Unit)).bind fun f => some (bif !(c.2.1 == 0) || !((l.length : Int) == h.2.1) || !(lastOf 12 (l.map (·.2.2.1)) == (b.length : Int)) || !f.1 then 41 else 0)
    else some h.2.2.1
theorem decode_any (n : Nat) (w : World) (hK : Tab w) (b : List UInt8) (err : Int) (hx : xDec n b = some err) (ba : Option Addr) (bn bc : Nat) (S : Nat → Prop) (hb : Lk.Rd t0 S w (.l .by) b [.slice ba bn bc]) (hS : ∀ k, S k → k < w.heap.size) :
    Calls Tryd.prog 8 #[.slice ba bn bc] w fun e w' => (∃ u v, e = .returned (.tuple #[u, v, .int .i64 err])) ∧ Lk.Ext [] w w' := by
  have hbn : bn = b.length := by
    simp only [Lk.Rd] at hb
    obtain ⟨a, cap, e, _⟩ := hb
    simp only [List.cons.injEq, Value.slice.injEq, and_true] at e
    exact e.2.1
  unfold xDec at hx
  rw [Option.bind_eq_some_iff] at hx
  obtain ⟨⟨q, cnt, bad, ⟨⟩⟩, h15, hx⟩ := hx
  simp only at hx
  have J : Lp := ⟨0, 0, 0, 0, 0, fun _ => undef⟩
  have hE : Lk.Ext [] w (w.alloc (.cells #[.slice none 0 0] 35)) := ext_alloc (ext_refl _ _) _
  have c15 := head_call (J := J) (B := J) n (w.alloc (.cells #[.slice none 0 0] 35)) (tab_keep _ _ _ hK (by simp) hE) b q cnt bad h15 ba bn bc S (Lk.Rd_keep t0 (fun k hk => ⟨hk, hE.block k (hS k hk) (by simp)⟩) _ _ _ hb) (fun k hk => by have := hS k hk; rw [alloc_size]; omega)
  cases hbad : (bad == 0) with
  | false =>
    rw [hbad] at hx
    cases hx
    exact decode_bad w ba bn bc q cnt err (by simpa using hbad) c15
  | true =>
    rw [hbad, cond_true, Option.bind_eq_some_iff] at hx
    obtain rfl : bad = 0 := by simpa using hbad
    obtain ⟨⟨y, ⟨⟩⟩, h29, hx⟩ := hx
    cases y with
    | none => cases hx
    | some l =>
      simp only [Option.bind_eq_some_iff] at hx
      obtain ⟨⟨k, bad2, ⟨⟩⟩, h17, ⟨f, ⟨⟩⟩, h18, hx⟩ := hx
      cases hx
      refine (decode_ok n w hK b ba bn bc q cnt c15 S hb hS (some l) h29 k bad2 f (fun l' e => by cases e; exact h17) h18).mono ?_
      rintro e w' ⟨⟨l', u, v, e1, rfl⟩, hE⟩
      cases e1
      exact ⟨⟨u, v, by rw [hbn]⟩, hE⟩
noncomputable def xRead (n : Nat) (block : Int) (b : List UInt8) : Option (List (List UInt8) × Int) :=
  (Lk.F RrG.G n 14 (some (block, b, 0, [], false, ()), some [], ()) : Option (Int × Option (Lk.E RT) × Option (List Lk.JItem) × Unit)).bind fun r => r.2.2.1.map fun l => (l.map (·.2), r.1)
theorem read_any' (n : Nat) (w : World) (hK : Tab w) (block : Int) (hb : isBlk block = true) (file : List UInt8) (recs : List (List UInt8)) (how : Int) (hx : xRead n block file = some (recs, how)) (fa : Option Addr) (fn fc : Nat) (S : Nat → Prop) (hfile : Lk.Rd t0 S w (.l .by) file [.slice fa fn fc]) (hS : ∀ b, S b → b < w.heap.size) :
    Calls Tryd.prog 7 #[.int .i64 block, .slice fa fn fc] w fun e w' => ∃ (sh : Lk.Sh (.l (.l .by))) (z : Int), e = .returned (.tuple #[sh.hd, .int .i64 z, .int .i64 how, .int .i64 0]) ∧
      Lk.hold t0 F0 F0 w' (.l (.l .by)) (.o (.o .r)) recs sh ∧ (Lk.bl (.l (.l .by)) (.o (.o .r)) recs sh).Nodup ∧ (∀ b ∈ Lk.bl (.l (.l .by)) (.o (.o .r)) recs sh, w.heap.size ≤ b) ∧ Lk.inR .i64 how ∧ Lk.Ext [] w w' := by
  unfold xRead at hx
  rw [Option.bind_eq_some_iff] at hx
  obtain ⟨⟨how', rd, y, ⟨⟩⟩, h14, hx⟩ := hx
  simp only [Option.map_eq_some_iff, Prod.mk.injEq] at hx
  obtain ⟨l, rfl, rfl, rfl⟩ := hx
  refine (read_any n w hK block file fa fn fc hb how' rd (some l) h14 S hfile hS).mono ?_
  rintro e w' ⟨l', sh, e1, rfl, g1, g2, g3, g4, g5, g6⟩
  cases e1
  exact ⟨sh, _, rfl, g1, g2, g3, g5, g6⟩
noncomputable def inner (n : Nat) : List (List UInt8) → Option Bool
  | [] => some true
  | r :: rs => (xDec n r).bind fun e => bif e == 0 then inner n rs else some false
noncomputable def outer (n : Nat) (block : Int) : List (List UInt8) → List (List UInt8) → Option (List (List UInt8) × Bool)
  | [], out => some (out, true)
  | b :: bs, out => (xRead n block b).bind fun r => (inner n r.1).bind fun ok => bif Nat.ble (out.length + r.1.length) 1073741823 then (bif ok then (bif r.2 == 0 then outer n block bs (out ++ r.1) else some (out ++ r.1, true)) else some ([], false)) else none
end Rr
end
section
/-! reopen.Replay: the walk (2). -/
namespace Rr
open Go Go.RowKit Go.Proofs
def intOf : Value → Int
  | .int _ n => n
  | _ => 0
abbrev RowT : Lk.Ty := .l (.l .by)
abbrev RowM : Lk.Md := .o (.o .r)
def OutAt (w0 wr : World) (out : List (List UInt8)) (v : Value) : Prop :=
  ∃ sh : Lk.Sh RowT, v = sh.hd ∧ Lk.hold t0 F0 F0 wr RowT RowM out sh ∧ (Lk.bl RowT RowM out sh).Nodup ∧ (∀ b ∈ Lk.bl RowT RowM out sh, w0.heap.size ≤ b) ∧ Lk.Ext [] w0 wr
theorem OutAt.slice {w0 wr : World} {out : List (List UInt8)} {v : Value} (h : OutAt w0 wr out v) : ∃ a n c, v = .slice a n c := by
  obtain ⟨sh, rfl, h, _⟩ := h
  rcases Lk.own_row h with ⟨q, _⟩ | ⟨cap, q, _⟩
  · exact ⟨_, _, _, q⟩
  · exact ⟨_, _, _, q.hd⟩
theorem OutAt.nil (w : World) : OutAt w w [] (.slice none 0 0) := ⟨⟨.slice none 0 0, 0, 0, [], 0, (0, 0), []⟩, rfl, .inl ⟨rfl, rfl⟩, by simp [Lk.bl], by simp [Lk.bl], ext_refl _ _⟩
theorem OutAt.ext {w0 w w' : World} {out : List (List UInt8)} {v : Value} (h : OutAt w0 w out v) (hE : Lk.Ext [] w w') : OutAt w0 w' out v := by
  obtain ⟨sh, h1, h2, h3, h4, h5⟩ := h
  exact ⟨sh, h1, Lk.hold_keep t0 (fun _ h => h.elim) (fun _ h => h.elim) _ _ _ _ (fun b hb => hE.block b (Lk.hold_lt t0 _ _ _ _ h2 b hb) (by simp)) h2, h3, h4, ext_tr h5 hE (by simp)⟩
def InAt (w0 wr : World) (out recs : List (List UInt8)) (rb ro : Nat) (C : List Value) (T : TypeId) (frz : Nat × Nat) (es : List (Lk.Sh (.l .by))) (j : Nat) (v : Value) : Prop :=
  ∃ sh : Lk.Sh RowT, v = sh.hd ∧ Lk.hold t0 F0 F0 wr RowT RowM (out ++ recs.take j) sh ∧
    (Lk.bl RowT RowM (out ++ recs.take j) sh ++ rb :: Lk.ebl (.l .by) (.o .r) (recs.drop j) (es.drop j)).Nodup ∧
    (∀ b ∈ Lk.bl RowT RowM (out ++ recs.take j) sh ++ rb :: Lk.ebl (.l .by) (.o .r) (recs.drop j) (es.drop j), w0.heap.size ≤ b ∧ b < wr.heap.size) ∧ Lk.Ext [] w0 wr ∧
    wr.heap[rb]? = some (.cells C.toArray T frz) ∧ (∀ i u z, recs[i]? = some u → es[i]? = some z → Lk.win C (ro + i) 1 = [z.hd]) ∧ es.length = recs.length ∧
    (∀ i u z, j ≤ i → recs[i]? = some u → es[i]? = some z → Lk.hold t0 F0 F0 wr (.l .by) (.o .r) u z)
theorem win_one {C : List Value} {i : Nat} {v : Value} (h : Lk.win C i 1 = [v]) : C[i]? = some v := by
  have := congrArg (fun l => l[0]?) h
  simp only [Lk.win_get] at this
  simpa using this
theorem ebl_drop {j : Nat} {recs : List (List UInt8)} {es : List (Lk.Sh (.l .by))} {u : List UInt8} {z : Lk.Sh (.l .by)} (hu : recs[j]? = some u) (hz : es[j]? = some z) : Lk.ebl (.l .by) (.o .r) (recs.drop j) (es.drop j) = Lk.bl (.l .by) (.o .r) u z ++ Lk.ebl (.l .by) (.o .r) (recs.drop (j + 1)) (es.drop (j + 1)) := by
  obtain ⟨h1, rfl⟩ := List.getElem?_eq_some_iff.1 hu
  obtain ⟨h2, rfl⟩ := List.getElem?_eq_some_iff.1 hz
  rw [List.drop_eq_getElem_cons h1, List.drop_eq_getElem_cons h2]
  rfl
theorem InAt.step {w0 wr : World} {out recs : List (List UInt8)} {rb ro : Nat} {C : List Value} {T : TypeId} {frz : Nat × Nat} {es : List (Lk.Sh (.l .by))} {j : Nat} {v : Value} (h : InAt w0 wr out recs rb ro C T frz es j v) {u : List UInt8} {z : Lk.Sh (.l .by)} (hu : recs[j]? = some u) (hz : es[j]? = some z)
    {w1 : World} (hE : Lk.Ext [] wr w1) (hlen : out.length + recs.length ≤ 1073741823) :
    ∃ w2 sa sn sc, (Builtin.append_ #[23, 23] 23 #[v, .slice (some ⟨w1.heap.size, 0, none⟩) 1 1]).run Tryd.prog (w1.alloc (.cells #[z.hd] 24)) = .ok (.slice sa sn sc) w2 ∧ InAt w0 w2 out recs rb ro C T frz es (j + 1) (.slice sa sn sc) := by
  obtain ⟨sh, rfl, h1, h2, h3, h4, h5, h6, h7, h8⟩ := h
  have hjl : j < recs.length := (List.getElem?_eq_some_iff.1 hu).1
  rw [ebl_drop hu hz] at h2 h3
  have k1 : ∀ b, b < wr.heap.size → w1.heap[b]? = wr.heap[b]? := fun b hb => hE.block b hb (by simp)
  have hx := Lk.hold_keep t0 (S' := F0) (Sb' := F0) (fun _ h => h.elim) (fun _ h => h.elim) _ _ _ _ (fun b hb => k1 b (h3 b (List.mem_append_left _ hb)).2) h1
  have hy := Lk.hold_keep t0 (S' := F0) (Sb' := F0) (fun _ h => h.elim) (fun _ h => h.elim) _ _ _ _ (fun b hb => k1 b (h3 b (List.mem_append_right _ (List.mem_cons_of_mem _ (List.mem_append_left _ hb)))).2) (h8 j u z (Nat.le_refl _) hu hz)
  obtain ⟨i, hi, hz0, hsz, hby⟩ : ∃ i, Tryd.prog.info? 24 = some i ∧ i.zero = some (.slice none 0 0) ∧ i.size = 1 ∧ i.bytes = 24 := by
    have := info24
    rw [Option.map_eq_some_iff] at this
    obtain ⟨i, h, e⟩ := this
    simp only [Prod.mk.injEq] at e
    exact ⟨i, h, e.1, e.2.1, e.2.2⟩
  have hlx : (out ++ recs.take j).length ≤ 1073741822 := by rw [List.length_append, List.length_take]; omega
  obtain ⟨n1, n2, n3⟩ := List.nodup_append.1 h2
  obtain ⟨n4, n5⟩ := List.nodup_cons.1 n2
  obtain ⟨n6, n7, n8⟩ := List.nodup_append.1 n5
  have hnd : (Lk.bl RowT RowM (out ++ recs.take j) sh ++ Lk.bl (.l .by) (.o .r) u z).Nodup := List.nodup_append.2 ⟨n1, n6, fun a ha b hb => n3 a ha b (List.mem_cons_of_mem _ (List.mem_append_left _ hb))⟩
  obtain ⟨w2, sa, sn, sc, sh', hap, he', hx2, hn2, hb2, hext2⟩ := gather (t := .l .by) (m := .o .r) (P := Tryd.prog) (T := 23) rfl und23 hi hsz hz0 rfl hx hy hnd (by rw [hby]; omega) (by omega) 24
  rw [show (Lk.cells t0 (.l .by) u z).toArray = #[z.hd] from rfl] at hap
  have htk : out ++ recs.take j ++ [u] = out ++ recs.take (j + 1) := by
    rw [List.append_assoc, List.take_succ, hu]; rfl
  rw [htk] at hx2 hn2 hb2
  have hs1 := hE.size
  have hs2 := hext2.size
  have hs0 := h4.size
  have k2 : ∀ b, b < wr.heap.size → b ∉ Lk.bl RowT RowM (out ++ recs.take j) sh → w2.heap[b]? = wr.heap[b]? := fun b hb hn => (hext2.block b (Nat.lt_of_lt_of_le hb hs1) hn).trans (k1 b hb)
  -- what is left is apart from what is gathered
  have ap : ∀ b ∈ rb :: Lk.ebl (.l .by) (.o .r) (recs.drop (j + 1)) (es.drop (j + 1)), b < wr.heap.size ∧ b ∉ Lk.bl RowT RowM (out ++ recs.take j) sh ∧ b ∉ Lk.bl RowT RowM (out ++ recs.take (j + 1)) sh' := by
    intro b hb
    have hin : b ∈ rb :: (Lk.bl (.l .by) (.o .r) u z ++ Lk.ebl (.l .by) (.o .r) (recs.drop (j + 1)) (es.drop (j + 1))) := by
      rcases List.mem_cons.1 hb with rfl | hb
      · exact List.mem_cons_self ..
      · exact List.mem_cons_of_mem _ (List.mem_append_right _ hb)
    have hlt := (h3 b (List.mem_append_right _ hin)).2
    have hno : b ∉ Lk.bl RowT RowM (out ++ recs.take j) sh := fun h => n3 b h b hin rfl
    refine ⟨hlt, hno, fun h => ?_⟩
    rcases hb2 b h with h | h | h
    · exact hno h
    · rcases List.mem_cons.1 hb with rfl | hb
      · exact n4 (List.mem_append_left _ h)
      · exact n8 b h b hb rfl
    · omega
  refine ⟨w2, sa, sn, sc, hap, sh', he'.symm, hx2, ?_, ?_, ?_, ?_, h6, h7, ?_⟩
  · refine List.nodup_append.2 ⟨hn2, List.nodup_cons.2 ⟨fun h => n4 (List.mem_append_right _ h), n7⟩, fun a ha b hb e => ?_⟩
    subst e
    exact (ap a hb).2.2 ha
  · intro b hb
    rcases List.mem_append.1 hb with hb | hb
    · have hl := Lk.hold_lt t0 _ _ _ _ hx2 b hb
      rcases hb2 b hb with h | h | h
      · exact ⟨(h3 b (List.mem_append_left _ h)).1, hl⟩
      · exact ⟨(h3 b (List.mem_append_right _ (List.mem_cons_of_mem _ (List.mem_append_left _ h)))).1, hl⟩
      · exact ⟨by omega, hl⟩
    · have := ap b hb
      refine ⟨?_, by omega⟩
      rcases List.mem_cons.1 hb with rfl | hb
      · exact (h3 b (List.mem_append_right _ (List.mem_cons_self ..))).1
      · exact (h3 b (List.mem_append_right _ (List.mem_cons_of_mem _ (List.mem_append_right _ hb)))).1
  · exact ext_tr (ext_tr h4 hE (by simp)) hext2 (fun k hk => .inr (h3 k (List.mem_append_left _ hk)).1)
  · rw [k2 rb (ap rb (List.mem_cons_self ..)).1 (ap rb (List.mem_cons_self ..)).2.1]
    exact h5
  · intro i2 u2 z2 hle hu2 hz2
    refine Lk.hold_keep t0 (fun _ h => h.elim) (fun _ h => h.elim) _ _ _ _ (fun b hb => ?_) (h8 i2 u2 z2 (by omega) hu2 hz2)
    have hin : b ∈ Lk.ebl (.l .by) (.o .r) (recs.drop (j + 1)) (es.drop (j + 1)) := Lk.ebl_mem (i := i2 - (j + 1)) (u := u2) (z := z2) (by rw [List.getElem?_drop]; rw [show j + 1 + (i2 - (j + 1)) = i2 by omega]; exact hu2) (by rw [List.getElem?_drop]; rw [show j + 1 + (i2 - (j + 1)) = i2 by omega]; exact hz2) hb
    have := ap b (List.mem_cons_of_mem _ hin)
    exact k2 b this.1 this.2.1
end Rr
end
section
/-! reopen.Replay: the walk (3). -/
namespace Rr
open Go Go.RowKit Go.Proofs
theorem InAt.start {w0 w1 w2 : World} {out recs : List (List UInt8)} {v : Value} (h : OutAt w0 w1 out v) {sh : Lk.Sh RowT} (h1 : Lk.hold t0 F0 F0 w2 RowT RowM recs sh) (h2 : (Lk.bl RowT RowM recs sh).Nodup) (h3 : ∀ b ∈ Lk.bl RowT RowM recs sh, w1.heap.size ≤ b) (hE : Lk.Ext [] w1 w2) (hne : recs ≠ []) :
    ∃ rb ro C T frz cap, sh.hd = .slice (some ⟨rb, ro, none⟩) recs.length cap ∧ InAt w0 w2 out recs rb ro C T frz sh.es 0 v := by
  rcases Lk.own_row h1 with ⟨_, q, _⟩ | ⟨cap, q, hel, hbl⟩
  · exact absurd q hne
  refine ⟨sh.blk, sh.off, sh.C, sh.ety, sh.frz, cap, q.hd, ?_⟩
  obtain ⟨so, rfl, g0, g2, g3, g40⟩ := h
  have hso := Lk.hold_lt t0 _ _ _ _ g0
  have g1 := Lk.hold_keep t0 (S' := F0) (Sb' := F0) (fun _ h => h.elim) (fun _ h => h.elim) _ _ _ _ (fun b hb => hE.block b (hso b hb) (by simp)) g0
  have g4 := ext_tr g40 hE (by simp)
  have hlt1 := Lk.hold_lt t0 _ _ _ _ g1
  have hlt2 := Lk.hold_lt t0 _ _ _ _ h1
  rw [hbl] at h2 h3 hlt2
  have hs := hE.size
  refine ⟨so, rfl, by simpa using g1, ?_, ?_, g4, q.cell, ?_, hel.len, ?_⟩
  · simp only [List.take_zero, List.append_nil, List.drop_zero]
    exact List.nodup_append.2 ⟨g2, h2, fun a ha b hb e => by subst e; have := hso a ha; have := h3 a hb; omega⟩
  · simp only [List.take_zero, List.append_nil, List.drop_zero]
    intro b hb
    rcases List.mem_append.1 hb with hb | hb
    · exact ⟨g3 b hb, hlt1 b hb⟩
    · have := h3 b hb
      have := g40.size
      exact ⟨by omega, hlt2 b hb⟩
  · intro i u z hu hz
    have := (hel.at_ i u z hu hz).1
    simpa [Lk.csz, Lk.cells] using this
  · intro i u z _ hu hz
    exact (hel.at_ i u z hu hz).2
theorem InAt.done {w0 wr : World} {out recs : List (List UInt8)} {rb ro : Nat} {C : List Value} {T : TypeId} {frz : Nat × Nat} {es : List (Lk.Sh (.l .by))} {v : Value} (h : InAt w0 wr out recs rb ro C T frz es recs.length v) : OutAt w0 wr (out ++ recs) v := by
  obtain ⟨sh, rfl, h1, h2, h3, h4, _⟩ := h
  rw [List.take_length] at h1 h2 h3
  exact ⟨sh, rfl, h1, (List.nodup_append.1 h2).1, fun b hb => (h3 b (List.mem_append_left _ hb)).1, h4⟩
theorem logs_at {w : World} {S : Nat → Prop} {logs : List (List UInt8)} {la : Option Addr} {ln lc : Nat} (h : Lk.Rd t0 S w (.l (.l .by)) logs [.slice la ln lc]) :
    ln = logs.length ∧ (logs ≠ [] → ∃ lb lo, la = some ⟨lb, lo, none⟩ ∧ S lb ∧ ∀ k b, logs[k]? = some b → ∃ a c, w.cell? ⟨lb, lo + k, none⟩ = some (.slice a b.length c) ∧ Lk.Rd t0 S w (.l .by) b [.slice a b.length c]) := by
  simp only [Lk.Rd] at h
  obtain ⟨a, cap, e, h1, h2, h3, h4⟩ := h
  simp only [List.cons.injEq, Value.slice.injEq, and_true] at e
  obtain ⟨rfl, rfl, rfl⟩ := e
  refine ⟨rfl, fun hne => ?_⟩
  rcases h4 with h4 | ⟨b, off, C, e, f, rfl, hS, hC, hel⟩
  · exact absurd h4 hne
  refine ⟨b, off, rfl, hS, fun k y hy => ?_⟩
  obtain ⟨a, c, hw, g1, g2, g3, g4⟩ := hel k y hy
  refine ⟨a, c, ?_, ?_⟩
  · rw [Lk.cell_of hC]
    have := win_one (C := C.toList) (i := off + k) (v := .slice a y.length c) (by simpa [Lk.csz] using hw)
    simpa using this
  · exact ⟨a, c, rfl, g1, g2, g3, g4⟩
def InR (w0 wr : World) (out recs : List (List UInt8)) (ra : Option Addr) (j : Nat) (v : Value) : Prop :=
  (recs = [] ∧ OutAt w0 wr out v) ∨ ∃ rb ro C T frz es, ra = some ⟨rb, ro, none⟩ ∧ InAt w0 wr out recs rb ro C T frz es j v
theorem InR.done {w0 wr : World} {out recs : List (List UInt8)} {ra : Option Addr} {v : Value} (h : InR w0 wr out recs ra recs.length v) : OutAt w0 wr (out ++ recs) v := by
  rcases h with ⟨rfl, h⟩ | ⟨rb, ro, C, T, frz, es, rfl, h⟩
  · rw [List.append_nil]; exact h
  · exact h.done
theorem InR.ext0 {w0 wr : World} {out recs : List (List UInt8)} {ra : Option Addr} {j : Nat} {v : Value} (h : InR w0 wr out recs ra j v) : Lk.Ext [] w0 wr := by
  rcases h with ⟨_, h⟩ | ⟨rb, ro, C, T, frz, es, _, h⟩
  · obtain ⟨_, _, _, _, _, h⟩ := h; exact h
  · obtain ⟨_, _, _, _, _, h, _⟩ := h; exact h
theorem InR.slice {w0 wr : World} {out recs : List (List UInt8)} {ra : Option Addr} {j : Nat} {v : Value} (h : InR w0 wr out recs ra j v) : ∃ a n c, v = .slice a n c := by
  rcases h with ⟨_, h⟩ | ⟨rb, ro, C, T, frz, es, _, h⟩
  · exact h.slice
  · obtain ⟨sh, rfl, h, _⟩ := h
    rcases Lk.own_row h with ⟨q, _⟩ | ⟨cap, q, _⟩
    · exact ⟨_, _, _, q⟩
    · exact ⟨_, _, _, q.hd⟩
theorem InR.look {w0 wr : World} {out recs : List (List UInt8)} {ra : Option Addr} {j : Nat} {v : Value} (h : InR w0 wr out recs ra j v) (hj : j < recs.length) (hlen : out.length + recs.length ≤ 1073741823) :
    ∃ rb ro u za zn zc S, ra = some ⟨rb, ro, none⟩ ∧ recs[j]? = some u ∧ wr.cell? ⟨rb, ro + j, none⟩ = some (.slice za zn zc) ∧ Lk.Rd t0 S wr (.l .by) u [.slice za zn zc] ∧ (∀ b, S b → b < wr.heap.size) ∧
      ∀ w1, Lk.Ext [] wr w1 → ∃ w2 sa sn sc, (Builtin.append_ #[23, 23] 23 #[v, .slice (some ⟨w1.heap.size, 0, none⟩) 1 1]).run Tryd.prog (w1.alloc (.cells #[.slice za zn zc] 24)) = .ok (.slice sa sn sc) w2 ∧ InR w0 w2 out recs ra (j + 1) (.slice sa sn sc) := by
  rcases h with ⟨rfl, _⟩ | ⟨rb, ro, C, T, frz, es, rfl, h⟩
  · simp at hj
  obtain ⟨u, hu⟩ : ∃ u, recs[j]? = some u := ⟨_, List.getElem?_eq_getElem hj⟩
  have h0 := h
  obtain ⟨sh, e1, h1, h2, h3, h4, h5, h6, h7, h8⟩ := h0
  obtain ⟨z, hz⟩ : ∃ z, es[j]? = some z := ⟨_, List.getElem?_eq_getElem (by rw [h7]; exact hj)⟩
  have hh := h8 j u z (Nat.le_refl _) hu hz
  obtain ⟨za, zn, zc, he⟩ : ∃ a n c, z.hd = .slice a n c := by
    rcases Lk.own_row hh with ⟨q, _⟩ | ⟨cap, q, _⟩
    · exact ⟨_, _, _, q⟩
    · exact ⟨_, _, _, q.hd⟩
  refine ⟨rb, ro, u, za, zn, zc, fun b => b ∈ Lk.bl (.l .by) (.o .r) u z, rfl, hu, ?_, ?_, fun b hb => Lk.hold_lt t0 _ _ _ _ hh b hb, fun w1 hE => ?_⟩
  · rw [Lk.cell_of h5, ← he]
    simpa using win_one (h6 j u z hu hz)
  · rw [← he]
    exact lend (m := .o .r) rfl hh
  · obtain ⟨w2, sa, sn, sc, g1, g2⟩ := h.step hu hz hE hlen
    rw [he] at g1
    exact ⟨w2, sa, sn, sc, g1, .inr ⟨rb, ro, C, T, frz, es, rfl, g2⟩⟩
noncomputable def loop4 : Code := match Tryd.f4.body with
  | some (.seq _ (.seq _ (.seq _ (.seq (.seq _ (.block _ (.loop (.seq _ (.seq _ (.seq (.block _ (.seq _ (.seq _ (.seq (.seq _ c) _)))) _)))))) _)))) => c
  | _ => .skip
set_option maxRecDepth 100000 in
set_option maxHeartbeats 8000000 in
theorem loop4_any (n : Nat) (w : World) (hK : Tab w) (block : Int) (out recs : List (List UInt8)) (ra : Option Addr) (rc : Nat) (how : Int) (okv : Bool) (hlen : out.length + recs.length ≤ 1073741823) (hin : inner n recs = some okv) (wr : World) (v : Value) (hI : InR w wr out recs ra 0 v) (lv ll iv : Value) {a1 a2 a3 a4 a5 a7 a8 a10 a12 a13 a14 a15 a16 a17 a18 a19 a20 a21 a22 a23 a27 a28 a29 a30 a31 a32 a33 a34 a35 a36 a37 a41 a42 a43 a44 a45 a46 a47 a48 a49 a50 a51 a52 a53 a54 a55 a56 a57 a58 a59 a60 : Value}
    (Q : Exit → Act → World → Prop) (hret : okv = false → ∀ tm w', tm.getD 4 undef = .slice none 0 0 → tm.getD 5 undef = .bool false → Lk.Ext [] w w' → Q .ret { tmps := tm, defers := [] } w')
    (hnorm : okv = true → ∀ (b4 b5 b14 b15 b16 b17 b42 b43 b44 b45 b46 b47 b48 b49 b50 b51 b52 b53 b54 b55 b56 v' : Value) (w' : World), OutAt w w' (out ++ recs) v' → Q .normal { tmps := #[.int .i64 block, a1, a2, a3, b4, b5, v', a7, a8, .slice ra recs.length rc, a10, .int .i64 how, a12, a13, b14, b15, b16, b17, a18, a19, a20, a21, a22, a23, lv, ll, iv, a27, a28, a29, a30, a31, a32, a33, a34, a35, a36, a37, .slice ra recs.length rc, .int .i64 recs.length, .int .i64 recs.length, .bool false, b42, b43, b44, b45, b46, b47, b48, b49, b50, b51, b52, b53, b54, b55, b56, a57, a58, a59, a60], defers := [] } w') :
    loop4.wp Tryd.prog Q { tmps := #[.int .i64 block, a1, a2, a3, a4, a5, v, a7, a8, .slice ra recs.length rc, a10, .int .i64 how, a12, a13, a14, a15, a16, a17, a18, a19, a20, a21, a22, a23, lv, ll, iv, a27, a28, a29, a30, a31, a32, a33, a34, a35, a36, a37, .slice ra recs.length rc, .int .i64 recs.length, .int .i64 0, a41, a42, a43, a44, a45, a46, a47, a48, a49, a50, a51, a52, a53, a54, a55, a56, a57, a58, a59, a60], defers := [] } wr := by
  obtain ⟨oa, on, oc, ho⟩ := hI.slice
  subst ho
  have hl0 : (recs.length : Int) ≤ 1073741823 := by omega
  simp only [loop4, Tryd.f4]
  go_wp2
  go_loopw [6, 40] (fun v j wr => ∃ i : Nat, j = .int .i64 i ∧ i ≤ recs.length ∧ inner n (recs.drop i) = some okv ∧ InR w wr out recs ra i v) (fun _ j _ => recs.length - (intOf j).toNat)
  case atStart => exact ⟨0, rfl, Nat.zero_le _, hin, hI⟩
  case round =>
    obtain ⟨i, rfl, hi, hin, hI⟩ := hrel
    obtain ⟨oa2, on2, oc2, ho2⟩ := hI.slice
    subst ho2
    by_cases hil : i < recs.length
    · have hi1 : (i : Int) < recs.length := by omega
      have hE0 := hI.ext0
      obtain ⟨rb, ro, u, za, zn, zc, Su, rfl, hu, hcell, hrdu, hSu, hstep⟩ := hI.look hil hlen
      have hdr : recs.drop i = u :: recs.drop (i + 1) := by
        obtain ⟨h1, rfl⟩ := List.getElem?_eq_some_iff.1 hu
        exact List.drop_eq_getElem_cons h1
      rw [hdr] at hin
      simp only [inner, Option.bind_eq_some_iff] at hin
      obtain ⟨err, hdec, hin⟩ := hin
      have hK2 := tab_keep _ _ _ hK (by simp) hE0
      have h8 := decode_any n wr hK2 u err hdec za zn zc Su hrdu hSu
      by_cases he : err = 0
      · subst he
        have hin : inner n (recs.drop (i + 1)) = some okv := hin
        go_wp2_with (first | (go_at_call 8; refine h8.mono ?_; rintro e w4 ⟨⟨u1, v1, rfl⟩, hE4⟩; obtain ⟨w5, sa, sn, sc, hap, hI5⟩ := hstep w4 hE4) | (at_builtin; refine wpList_append_run rfl _ _ _ _ rfl rfl rfl 23 rfl hap ?_))
        go_roundw
        case rel => exact ⟨i + 1, by simp, by omega, hin, hI5⟩
        case measure => simp [intOf]; omega
      · have heq : (err == 0) = false := by simpa using he
        rw [heq] at hin
        cases hin
        go_wp2_with (go_at_call 8; refine h8.mono ?_; rintro e w4 ⟨⟨u1, v1, rfl⟩, hE4⟩)
        exact hret trivial _ _ rfl rfl (ext_tr hE0 hE4 (by simp))
    · obtain rfl : i = recs.length := by omega
      have hi1 : ¬ ((recs.length : Int) < recs.length) := by omega
      rw [List.drop_length] at hin
      cases hin
      go_wp2
      exact hnorm trivial _ _ _ _ _ _ _ _ _ _ _ _ _ _ _ _ _ _ _ _ _ _ _ hI.done
theorem logs_len {w : World} {S : Nat → Prop} {logs : List (List UInt8)} {v : Value} (h : Lk.Rd t0 S w (.l (.l .by)) logs [v]) : logs.length ≤ 9223372036854775807 := by
  simp only [Lk.Rd] at h
  obtain ⟨a, cap, _, h1, h2, _⟩ := h
  exact Nat.le_trans h1 h2
set_option maxRecDepth 100000 in
set_option maxHeartbeats 8000000 in
theorem replay_any (n : Nat) (w : World) (hK : Tab w) (block : Int) (hb : isBlk block = true) (logs : List (List UInt8)) (res : List (List UInt8) × Bool) (hx : outer n block logs [] = some res) (la : Option Addr) (ln lc : Nat) (S : Nat → Prop) (hlogs : Lk.Rd t0 S w (.l (.l .by)) logs [.slice la ln lc]) (hS : ∀ b, S b → b < w.heap.size) :
    Calls Tryd.prog 4 #[.int .i64 block, .slice la ln lc] w fun e w' => ∃ v, e = .returned (.tuple #[v, .bool res.2]) ∧ OutAt w w' res.1 v := by
  have hb' := hb
  unfold isBlk at hb'
  rw [Bool.and_eq_true, decide_eq_true_eq, decide_eq_true_eq] at hb'
  have hll := logs_len hlogs
  obtain ⟨rfl, hat⟩ := logs_at hlogs
  go_enter Tryd.func4, Tryd.ntmps4
  go_wp2
  go_loopw [6, 26] (fun v i wr => ∃ (k : Nat) (out : List (List UInt8)), i = .int .i64 k ∧ k ≤ logs.length ∧ OutAt w wr out v ∧ outer n block (logs.drop k) out = some res) (fun _ i _ => logs.length - (intOf i).toNat)
  case atStart => exact ⟨0, [], rfl, Nat.zero_le _, .nil w, hx⟩
  case round =>
    obtain ⟨k, out, rfl, hk, hO, hx⟩ := hrel
    obtain ⟨oa, on, oc, ho⟩ := hO.slice
    by_cases hlt : k < logs.length
    · have hk1 : (k : Int) < logs.length := by omega
      obtain ⟨lb, lo, rfl, hSl, hel⟩ := hat (by intro h; rw [h] at hlt; simp at hlt)
      have hg := List.getElem?_eq_getElem hlt
      generalize logs[k] = b at hg
      obtain ⟨ea, ec, hc, hrd⟩ := hel k b hg
      obtain ⟨sh0, hsh0⟩ := hO
      have hwr : Lk.Ext [] w wr := hsh0.2.2.2.2
      have hO : OutAt w wr out u6 := ⟨sh0, hsh0⟩
      clear hsh0
      have hc' : wr.cell? ⟨lb, lo + k, none⟩ = some (.slice ea b.length ec) := (World.cell?_of_block (hwr.block lb (hS lb hSl) (by simp))).trans hc
      have hrd' := Lk.Rd_keep t0 (S' := S) (fun q hq => ⟨hq, hwr.block q (hS q hq) (by simp)⟩) _ _ _ hrd
      have hS' : ∀ q, S q → q < wr.heap.size := fun q hq => Nat.lt_of_lt_of_le (hS q hq) hwr.size
      have hK' := tab_keep _ _ _ hK (by simp) hwr
      have hdrop : logs.drop k = b :: logs.drop (k + 1) := by
        obtain ⟨h1, rfl⟩ := List.getElem?_eq_some_iff.1 hg
        exact List.drop_eq_getElem_cons h1
      rw [hdrop] at hx
      simp only [outer, Option.bind_eq_some_iff] at hx
      obtain ⟨⟨recs, how⟩, hr, okv, hin, hx⟩ := hx
      simp only at hin hx
      cases hle : Nat.ble (out.length + recs.length) 1073741823 with
      | false => rw [hle] at hx; cases hx
      | true =>
      rw [hle, cond_true] at hx
      have hlen := Nat.le_of_ble_eq_true hle
      have h7 : Calls Tryd.prog 7 #[.int .i64 block, .slice ea b.length ec] wr fun e w1 => ∃ ra rc z, e = .returned (.tuple #[.slice ra recs.length rc, .int .i64 z, .int .i64 how, .int .i64 0]) ∧ Lk.inR .i64 how ∧ InR w w1 out recs ra 0 u6 := by
        refine (read_any' n wr hK' block hb b recs how hr ea b.length ec S hrd' hS').mono ?_
        rintro e w1 ⟨sh, z, rfl, r1, r2, r3, r4, hE1⟩
        by_cases hne : recs = []
        · subst hne
          rcases Lk.own_row r1 with ⟨q, _⟩ | ⟨cap, q, _⟩
          · exact ⟨none, 0, z, by rw [q]; rfl, r4, .inl ⟨rfl, hO.ext hE1⟩⟩
          · exact ⟨_, _, z, by rw [q.hd], r4, .inl ⟨rfl, hO.ext hE1⟩⟩
        · obtain ⟨rb, ro, C, T, frz, cap, e1, e2⟩ := InAt.start hO r1 r2 r3 hE1 hne
          exact ⟨_, cap, z, by rw [e1], r4, .inr ⟨rb, ro, C, T, frz, _, rfl, e2⟩⟩
      clear hat hel hc hrd
      subst ho
      go_upto_block 2 with (go_at_call 7; refine h7.mono ?_; rintro e w1 ⟨ra, rc, z, rfl, hhow, hI⟩)
      refine loop4_any n w hK block out recs ra rc how okv hlen hin w1 (.slice oa on oc) hI _ _ _ _ ?_ ?_
      · rintro rfl tm w4 t4 t5 hE4
        have hx := Option.some.inj hx
        simp only [Exit.inBlock, Exit.then]
        simp (config := { zetaDelta := true }) only [Exit.inBlock, Exit.then]
        refine bodyPost_ret (a := { tmps := tm, defers := [] }) (v := .tuple #[.slice none 0 0, .bool false]) ?_ rfl ?_
        · rw [Array.getD_eq_getD_getElem?] at t4 t5
          simp [results, Tryd.f4, go_sem, t4, t5]
        · rw [← hx]; exact ⟨_, rfl, OutAt.ext (.nil w) hE4⟩
      · rintro rfl b4 b5 b14 b15 b16 b17 b42 b43 b44 b45 b46 b47 b48 b49 b50 b51 b52 b53 b54 b55 b56 v' w4 hO2
        rw [cond_true] at hx
        obtain ⟨oa2, on2, oc2, ho2⟩ := hO2.slice
        subst ho2
        by_cases hh : how = 0
        · subst hh
          have hx : outer n block (logs.drop (k + 1)) (out ++ recs) = some res := hx
          go_wp2
          go_roundw
          case rel => exact ⟨k + 1, out ++ recs, by simp, by omega, hO2, hx⟩
          case measure => simp [intOf]; omega
        · have heq : (how == 0) = false := by simpa using hh
          rw [heq] at hx
          have hx := Option.some.inj hx
          go_wp2
          go_ret2
          rw [← hx]
          exact ⟨_, rfl, hO2⟩
    · obtain rfl : k = logs.length := by omega
      have hk1 : ¬ ((logs.length : Int) < logs.length) := by omega
      subst ho
      rw [List.drop_length] at hx
      have hx := Option.some.inj hx
      go_wp2
      go_ret2
      rw [← hx]
      exact ⟨_, rfl, hO⟩
end Rr
end
