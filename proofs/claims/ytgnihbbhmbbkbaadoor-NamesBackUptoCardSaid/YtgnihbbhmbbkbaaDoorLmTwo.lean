import Derived.Test.YtgnihbbhmbbkbaaDoorLmOne
import Derived.Lib.ConvBytes
import Derived.Laws.BytesString
import Derived.Deep.Quiet
import Derived.KernelRfl
import Derived.Below
import Derived.ChangeSame
import Derived.Carry
import Derived.OpenShut
import Derived.JoinedCond
import Derived.IntWalk
set_option linter.all false
namespace Lk
open Go
variable {Kw : World → Prop}
variable {τ : TypeId} {cx : Cx Kw} {S : Nat → Prop} {ds : DSt} {w : World} {P : Program} {env : Env} {a : Act} {o : Oper} {cs : List Bool} {st' : St}

theorem run_indexAt {T e : TypeId} {i : TypeInfo} {k : IntKind} {n : Int} {b off len cap : Nat} (hT : P.underlying T = some (.slice e)) (hi : P.info? e = some i) (h0 : 0 ≤ n) (h1 : n < len) :
    (Instr.indexAt T (.slice (some ⟨b, off, none⟩) len cap) (.int k n)).run P w = .ok (.pointer (some ⟨b, off + n.toNat * i.size, none⟩)) w := by
  unfold Instr.indexAt asIntOf
  simp only [Sem.run_bind, Sem.run_pure, Result.andThen_ok, run_underlying hT]
  rw [if_pos ⟨h0, h1⟩]
  simp only [Sem.run_bind, run_sizeOf hi, Result.andThen_ok, Sem.run_pure, add_eq]

theorem RelS.place (h : RelS τ cx S ds a.tmps w) {j s : Nat} {p : Path} {u : AV} (hp : Lk.place (ds.map er) j = some (s, p)) (hu : Lk.look (ds.map er) j = some u) :
    ∃ d d' l, ds[s]? = some (.av d) ∧ d.at? p = some (d', l) ∧ d'.av = u ∧ a.tmps.getD j undef = d'.val τ ∧ d'.hold τ S (fun b => S b ∨ cx.Sb b) w := by
  unfold Lk.place at hp
  unfold Lk.look at hu
  split at hp
  · rename_i v hv
    cases hp
    rw [hv] at hu
    obtain ⟨d, hd, rfl⟩ := getD_er hv
    obtain ⟨rfl, hm⟩ := seen_some hu
    have := h.ok j _ hd
    exact ⟨d, d, none, hd, at_nil _ _ _ _ _, rfl, this.2, this.1⟩
  · rename_i s0 p0 hv
    cases hp
    rw [hv] at hu
    have hi := getD_er_al hv
    obtain ⟨d, d', l, h1, h2, h3, h4, h5⟩ := h.al_hold hi
    simp only at hu
    split at hu
    · rename_i v0 hs
      obtain ⟨d0, hd0, rfl⟩ := getD_er hs
      rw [h1] at hd0; cases hd0
      simp only [DV.av] at hu
      rw [h5] at hu
      simp only [Option.bind_some] at hu
      obtain ⟨rfl, hm⟩ := seen_some hu
      exact ⟨d, d', l, h1, h2, rfl, h3, h4⟩
    · cases hu
  · cases hp

theorem indexAddr_did {T : TypeId} {j : Nat} {i : Operand} (hE : EnvOk P env) (ho : o.op = .indexAddr T (.tmp j) i)
    (h : RelS τ cx S ds a.tmps w) (hl : opL env o (ds.map er) = some (cs, st')) (hc : ∀ c ∈ cs, c = true) : Did (τ := τ) P cx a o w st' := by
  simp only [opL, ho, Option.bind_eq_some_iff] at hl
  obtain ⟨tm, htm, k, hk, u, hu, hl⟩ := hl
  have hd := hE.ty _ _ _ htm
  obtain ⟨e1, r1⟩ := h.rdI (a := a) rfl hk
  split at hl
  · rename_i ht
    rw [Option.bind_eq_some_iff] at hl
    obtain ⟨n, hn, hl⟩ := hl
    rw [ht] at hd
    split at hl
    · rename_i mo hmo
      rw [Option.bind_eq_some_iff] at hl
      obtain ⟨sp, hsp, hl⟩ := hl
      obtain ⟨hs, rfl⟩ := ret_some hl
      obtain ⟨s, p⟩ := sp
      obtain ⟨d, d', l, g1, g2, g3, g4, g5⟩ := h.place hsp hu
      obtain ⟨t', m', x, sh⟩ := d'
      subst g3
      simp only [DV.av] at hmo hn hd ht
      cases t' with
      | l t =>
        simp only [rowLen, Option.some.injEq] at hn
        subst hn
        subst hmo
        obtain ⟨c1, c2⟩ : 0 ≤ k.2 ∧ k.2 < x.length := by simpa using hc
        simp only [Desc] at hd
        obtain ⟨e, i0, z, d1, d2, d3, _⟩ := hd
        simp only [DV.hold, hold] at g5
        rcases g5 with ⟨_, rfl⟩ | ⟨cap, h1, h2, h3, h4, h5, h6, h7, h8⟩
        · simp at c2; omega
        · have hlt : k.2.toNat < x.length := by omega
          have hy : x[k.2.toNat]? = some x[k.2.toNat] := List.getElem?_eq_getElem hlt
          have hz : sh.es[k.2.toNat]? = some sh.es[k.2.toNat] := List.getElem?_eq_getElem (by omega)
          have hat : d.at? (p ++ [.x k.2]) = some (⟨t, mo, x[k.2.toNat], sh.es[k.2.toNat]⟩, some (sh.blk, sh.off + k.2.toNat * csz t)) := by
            have := at_append _ _ _ _ _ p [.x k.2] _ _ g2
            unfold DV.at?
            rw [this]
            simp only [at?, h1, hy, hz, if_pos c1, at_nil]
          obtain ⟨ds', q1, q2⟩ := h.setD (e := .ad s (p ++ [.x k.2])) (v := .pointer (some ⟨sh.blk, sh.off + k.2.toNat * csz t, none⟩)) hs ⟨d, _, _, _, g1, hat, rfl⟩ (by simp [Ent.bl]) (by simp [Ent.bl])
          refine ⟨_, _, w, ds', S, ?_, ⟨.inl rfl, fun _ => rfl⟩, q1, q2⟩
          simp only [execOp, ho]
          refine run_value ?_
          rw [e1]
          have : a.eval (.tmp j) = .slice (some ⟨sh.blk, sh.off, none⟩) x.length cap := by
            simp only [Act.eval, g4, DV.val, DV.cells, cells, valOf, isAggT, Bool.false_eq_true, if_false, List.headD_cons, h1]
          rw [this, run_indexAt d1 d2 c1 c2, d3]
      | _ => simp [rowLen] at hn
    · rename_i hno
      rw [Option.bind_eq_some_iff] at hl
      obtain ⟨v, hv, hl⟩ := hl
      obtain ⟨hs, rfl⟩ := ret_some hl
      obtain ⟨hm, d, rfl, hh, hv0⟩ := h.look hu
      obtain ⟨t', m', x, sh⟩ := d
      simp only [DV.av] at hn hd ht hv hm hno
      cases t' with
      | l t =>
        simp only [rowLen, Option.some.injEq] at hn
        subst hn
        obtain ⟨c1, c2⟩ : 0 ≤ k.2 ∧ k.2 < x.length := by simpa using hc
        simp only [Desc] at hd
        obtain ⟨e, i0, z, d1, d2, d3, _⟩ := hd
        obtain ⟨hmm, hve⟩ : (m' = .r ∨ m' = .b) ∧ v = ⟨t, m', x.getD k.2.toNat (dflt t)⟩ := by
          cases m' <;> simp [elem] at hv <;> simp [hv]
        subst hve
        have hrd : Rd τ (if m' = .b then (fun b => S b ∨ cx.Sb b) else S) w (.l t) x [sh.hd] := by
          rcases hmm with rfl | rfl
          · simpa [DV.hold, hold_r, cells] using hh
          · simpa [DV.hold, hold_b, cells] using hh
        simp only [Rd] at hrd
        obtain ⟨a0, cap, f1, f2, f3, f4, f5⟩ := hrd
        simp only [List.cons.injEq, and_true] at f1
        rcases f5 with rfl | ⟨b, off, C, e', f', rfl, f6, f7, f8⟩
        · simp at c2; omega
        · have hy := getD_some (x := x) (i := k.2.toNat) (d := dflt t) (by omega)
          have hr := f8 _ _ hy
          have hSb : S b ∨ cx.Sb b := by
            rcases hmm with rfl | rfl
            · exact .inl (by simpa using f6)
            · simpa using f6
          obtain ⟨ds', q1, q2⟩ := h.setD (e := .ar ⟨t, m', x.getD k.2.toNat (dflt t)⟩) (v := .pointer (some ⟨b, off + k.2.toNat * csz t, none⟩)) hs
            ⟨b, off + k.2.toNat * csz t, C, e', f', rfl, hSb, (fun hne => by
              rcases hmm with rfl | rfl
              · simpa using f6
              · exact absurd rfl hne), f7, hmm, hr⟩ (by simp [Ent.bl]) (by simp [Ent.bl])
          refine ⟨_, _, w, ds', S, ?_, ⟨.inl rfl, fun _ => rfl⟩, q1, q2⟩
          simp only [execOp, ho]
          refine run_value ?_
          rw [e1]
          have : a.eval (.tmp j) = .slice (some ⟨b, off, none⟩) x.length cap := by
            simp only [Act.eval, hv0, DV.val, DV.cells, cells, valOf, isAggT, Bool.false_eq_true, if_false, List.headD_cons, f1]
          rw [this, run_indexAt d1 d2 c1 c2, d3]
      | _ => simp [rowLen] at hn
  · cases hl

end Lk

namespace Lk
open Go
variable {Kw : World → Prop}
variable {τ : TypeId} {cx : Cx Kw} {S : Nat → Prop} {ds : DSt} {w : World} {P : Program} {env : Env} {a : Act} {o : Oper} {cs : List Bool} {st' : St}

theorem flat_rd {S Sb S' : Nat → Prop} {w' : World} : ∀ (t : Ty) (m : Md) (x : E t) (sh : Sh t), flat t = true → nh t m = true → hold τ S Sb w t m x sh → Rd τ S' w' t x (cells τ t x sh) := by
  have key : ∀ (t : Ty) (x : E t) (vs : List Value) (S : Nat → Prop), flat t = true → Rd τ S w t x vs → Rd τ S' w' t x vs := by
    intro t
    induction t with
    | c a r iha ihr =>
      intro x vs S hf h
      simp only [flat, Bool.and_eq_true] at hf
      simp only [Rd] at h ⊢
      obtain ⟨c1, c2, rfl, h1, h2⟩ := h
      exact ⟨c1, c2, rfl, iha _ _ _ hf.1 h1, ihr _ _ _ hf.2 h2⟩
    | l t ih => intro x vs S hf; simp [flat] at hf
    | p t ih => intro x vs S hf; simp [flat] at hf
    | _ => intro x vs S hf h; exact h
  intro t
  induction t with
  | c a r iha ihr =>
    intro m x sh hf hm h
    cases m with
    | q m n =>
      simp only [flat, nh, Bool.and_eq_true] at hf hm
      simp only [hold] at h
      exact ⟨_, _, rfl, iha _ _ _ hf.1 hm.1 h.1, ihr _ _ _ hf.2 hm.2 h.2⟩
    | h => simp [nh] at hm
    | r => exact key _ _ _ _ hf h
    | b => exact key _ _ _ _ hf h
    | o _ => exact key _ _ _ _ hf h
  | l t ih => intro m x sh hf; simp [flat] at hf
  | p t ih => intro m x sh hf; simp [flat] at hf
  | _ =>
    intro m x sh hf hm h
    cases m with
    | h => simp [nh] at hm
    | _ => exact h

theorem Rd_c {S : Nat → Prop} {a r : Ty} {x : E a × E r} {sh : Sh a × Sh r} (h : Rd τ S w (.c a r) x (cells τ (.c a r) x sh)) : Rd τ S w a x.1 (cells τ a x.1 sh.1) ∧ Rd τ S w r x.2 (cells τ r x.2 sh.2) := by
  simp only [Rd, cells] at h
  obtain ⟨c1, c2, e, h1, h2⟩ := h
  have l1 := Rd_length τ _ _ _ _ _ h1
  have := List.append_inj e (by rw [cells_length, l1])
  rw [this.1, this.2]
  exact ⟨h1, h2⟩

theorem flat_hold {S Sb S' : Nat → Prop} : ∀ (t : Ty) (m : Md) (x : E t) (sh : Sh t), flat t = true → Rd τ S' w t x (cells τ t x sh) → hold τ S Sb w t m x sh := by
  have key : ∀ (t : Ty) (x : E t) (vs : List Value) (S S' : Nat → Prop), flat t = true → Rd τ S w t x vs → Rd τ S' w t x vs := by
    intro t
    induction t with
    | c a r iha ihr =>
      intro x vs S S' hf h
      simp only [flat, Bool.and_eq_true] at hf
      simp only [Rd] at h ⊢
      obtain ⟨c1, c2, rfl, h1, h2⟩ := h
      exact ⟨c1, c2, rfl, iha _ _ _ _ hf.1 h1, ihr _ _ _ _ hf.2 h2⟩
    | l t ih => intro x vs S S' hf; simp [flat] at hf
    | p t ih => intro x vs S S' hf; simp [flat] at hf
    | _ => intro x vs S S' hf h; exact h
  intro t
  induction t with
  | c a r iha ihr =>
    intro m x sh hf h
    cases m with
    | q m n =>
      simp only [flat, Bool.and_eq_true] at hf
      obtain ⟨h1, h2⟩ := Rd_c h
      simp only [hold]
      exact ⟨iha _ _ _ hf.1 h1, ihr _ _ _ hf.2 h2⟩
    | h => simp [hold]
    | r => exact key _ _ _ _ _ hf h
    | b => exact key _ _ _ _ _ hf h
    | o _ => exact key _ _ _ _ _ hf h
  | l t ih => intro m x sh hf; simp [flat] at hf
  | p t ih => intro m x sh hf; simp [flat] at hf
  | _ =>
    intro m x sh hf h
    cases m with
    | h => simp [hold]
    | _ => exact h

theorem cp_nh : ∀ (t : Ty) (m : Md), cp t m = true → nh t m = true := by
  intro t
  induction t with
  | c a r iha ihr => intro m h; cases m <;> simp_all [cp, nh]
  | _ => intro m h; cases m <;> simp_all [cp, nh]

theorem flat_bl : ∀ (t : Ty) (m : Md) (x : E t) (sh : Sh t), flat t = true → bl t m x sh = [] := by
  intro t
  induction t with
  | c a r iha ihr => intro m x sh h; cases m <;> simp_all [flat, bl]
  | l t ih => intro m x sh hf; simp [flat] at hf
  | p t ih => intro m x sh hf; simp [flat] at hf
  | _ => intro m x sh h; cases m <;> simp [bl]

/-- A new block, that a slot owns. -/
theorem RelS.fresh {w' : World} {dst : Option Nat} {u : AV} {d : DV} {n : Nat} (h : RelS τ cx S ds a.tmps w) (g : Grows w w') (hs : Lk.setD (ds.map er) dst (.av u) = some st') (hu : d.av = u)
    (hd : d.hold τ S (fun b => S b ∨ cx.Sb b) w') (hb : d.bl = [n] ∨ d.bl = []) (hn : w.heap.size ≤ n ∧ n < w'.heap.size) : ∃ ds', st' = ds'.map er ∧ RelS τ cx S ds' (a.put dst (d.val τ)).tmps w' := by
  have h' := h.grows g
  subst hu
  refine h'.setD (e := .av d) hs ⟨hd, rfl⟩ ?_ ?_
  · simp only [Ent.bl]; rcases hb with hb | hb <;> rw [hb] <;> simp
  · intro b hbm
    have : b = n := by
      simp only [Ent.bl] at hbm
      rcases hb with hb | hb <;> rw [hb] at hbm <;> simp at hbm
      exact hbm
    subst this
    refine ⟨hn.2, .inr (Nat.le_trans h.inv.ext.size hn.1), fun hS => ?_, fun hB => ?_⟩
    · have := (h.inv.sw b hS).1; omega
    · have := (h.inv.own b hB).1; omega

/-- A row that is told by its parts: flat ones. -/
theorem flat_row {t : Ty} {m : Md} {x : E (.l t)} {b off cap : Nat} {C : List Value} {e : TypeId} {f : Nat × Nat} {S Sb : Nat → Prop} (hf : flat t = true) (hC : w.heap[b]? = some (.cells C.toArray e f)) (hth : thaw C.length f)
    (hcap : x.length ≤ cap) (hbig : cap ≤ big) (hlen : off + cap * csz t ≤ C.length)
    (hx : ∀ i y, x[i]? = some y → Rd τ S w t y (win C (off + i * csz t) (csz t))) :
    ∃ sh : Sh (.l t), hold τ S Sb w (.l t) (.o m) x sh ∧ bl (.l t) (.o m) x sh = [b] ∧ sh.hd = .slice (some ⟨b, off, none⟩) x.length cap := by
  have : ∃ es : List (Sh t), es.length = x.length ∧ ∀ i y z, x[i]? = some y → es[i]? = some z → cells τ t y z = win C (off + i * csz t) (csz t) := by
    clear hcap
    have : ∀ (k : Nat) (x : List (E t)), (∀ (i : Nat) (y : E t), x[i]? = some y → Rd τ S w t y (win C (off + (k + i) * csz t) (csz t))) →
        ∃ es : List (Sh t), es.length = x.length ∧ ∀ (i : Nat) (y : E t) (z : Sh t), x[i]? = some y → es[i]? = some z → cells τ t y z = win C (off + (k + i) * csz t) (csz t) := by
      intro k x
      induction x generalizing k with
      | nil => intro _; exact ⟨[], rfl, by simp⟩
      | cons y x ih =>
        intro h
        obtain ⟨z, hz⟩ := Rd_sh t y _ (h 0 y rfl)
        obtain ⟨es, h1, h2⟩ := ih (k + 1) (fun i y' hy' => by
          have := h (i + 1) y' (by simpa using hy')
          rwa [show k + (i + 1) = k + 1 + i by omega] at this)
        refine ⟨z :: es, by simp [h1], fun i y' z' hy' hz' => ?_⟩
        cases i with
        | zero => simp at hy' hz'; subst hy'; subst hz'; exact hz
        | succ i =>
          have := h2 i y' z' (by simpa using hy') (by simpa using hz')
          rwa [show k + (i + 1) = k + 1 + i by omega]
    simpa using this 0 x (by simpa using hx)
  obtain ⟨es, h1, h2⟩ := this
  refine ⟨⟨.slice (some ⟨b, off, none⟩) x.length cap, b, off, C, e, f, es⟩, ?_, ?_, rfl⟩
  · simp only [hold]
    refine .inr ⟨cap, rfl, h1, hcap, hbig, hlen, hC, hth, fun i y z hy hz => ?_⟩
    refine ⟨by rw [h2 i y z hy hz], flat_hold (S' := S) _ _ _ _ hf ?_⟩
    rw [h2 i y z hy hz]; exact hx i y hy
  · simp only [bl]
    congr 1
    rw [List.flatten_eq_nil_iff]
    intro l hl
    obtain ⟨i, hi⟩ := List.mem_iff_getElem?.1 hl
    rw [List.getElem?_zipWith] at hi
    split at hi
    · cases hi; exact flat_bl _ _ _ _ hf
    · cases hi

end Lk

namespace Lk
open Go
variable {Kw : World → Prop}
variable {τ : TypeId} {cx : Cx Kw} {S : Nat → Prop} {ds : DSt} {w : World} {P : Program} {env : Env} {a : Act} {o : Oper} {cs : List Bool} {st' : St}

/-- A row of flat elements can be read, whoever has it. -/
theorem row_rd {t : Ty} {m : Md} {x : E (.l t)} {sh : Sh (.l t)} {S Sb : Nat → Prop} (hf : flat t = true) (hm : m ≠ .h) (hnh : ∀ m', m = .o m' → nh t m' = true)
    (h : hold τ S Sb w (.l t) m x sh) : Rd τ (fun _ => True) w (.l t) x [sh.hd] := by
  cases m with
  | h => exact absurd rfl hm
  | o m' =>
    simp only [hold] at h
    simp only [Rd]
    rcases h with ⟨h, rfl⟩ | ⟨cap, h1, h2, h3, h4, h5, h6, h7, h8⟩
    · exact ⟨none, 0, by rw [h]; rfl, by simp, by simp [big], fun _ => rfl, .inl rfl⟩
    · refine ⟨_, cap, by rw [h1], h3, h4, by simp, .inr ⟨sh.blk, sh.off, sh.C.toArray, sh.ety, sh.frz, rfl, trivial, h6, fun i y hy => ?_⟩⟩
      have hi : i < sh.es.length := by rw [h2]; exact lt_of_get hy
      have hh := h8 i y _ hy (List.getElem?_eq_getElem hi)
      rw [hh.1]
      exact flat_rd _ _ _ _ hf (hnh _ rfl) hh.2
  | b => rw [hold_b] at h; exact Rd_keep τ (fun b _ => ⟨trivial, rfl⟩) _ _ _ h
  | r => rw [hold_r] at h; exact Rd_keep τ (fun b _ => ⟨trivial, rfl⟩) _ _ _ h
  | q _ _ => exact Rd_keep τ (fun b _ => ⟨trivial, rfl⟩) _ _ _ h

/-- The cells of a row of flat elements, as an append or a copy takes them. -/
theorem src_cells {t : Ty} {x : E (.l t)} {v : Value} (h : Rd τ (fun _ => True) w (.l t) x [v]) (n : Nat) (hn : n ≤ x.length) :
    ∃ vs : List Value, (∀ w1 : World, w1.heap = w.heap → (Builtin.firstCells (csz t) n v).run P w1 = .ok vs.toArray w1) ∧ vs.length = n * csz t ∧
      (∀ (i : Nat) (y : E t), i < n → x[i]? = some y → Rd τ (fun _ => True) w t y (win vs (i * csz t) (csz t))) ∧ (Builtin.lenOf v).run P w = .ok x.length w := by
  simp only [Rd] at h
  obtain ⟨a, cap, h1, h2, h3, h4, h5⟩ := h
  simp only [List.cons.injEq, and_true] at h1
  subst h1
  cases a with
  | none =>
    have hx := h4 rfl
    subst hx
    simp only [List.length_nil, Nat.le_zero] at hn
    subst hn
    exact ⟨[], fun _ _ => rfl, by simp, by simp, rfl⟩
  | some ad =>
    rcases h5 with rfl | ⟨b, off, C, e, f, e1, _, hC, hx⟩
    · simp only [List.length_nil, Nat.le_zero] at hn
      subst hn
      exact ⟨[], fun _ _ => by simp [Builtin.firstCells, loadCells, loadCellsFrom], by simp, by simp, rfl⟩
    · simp only [Option.some.injEq] at e1
      subst e1
      have hb : off + n * csz t ≤ C.size ∨ n * csz t = 0 := by
        rcases Nat.eq_zero_or_pos n with rfl | hpos
        · right; simp
        · rcases Nat.eq_zero_or_pos (csz t) with hz | hz
          · right; rw [hz]; simp
          · left
            have hy : x[n - 1]? = some x[n - 1] := List.getElem?_eq_getElem (by omega)
            have := Rd_length τ _ _ _ _ _ (hx _ _ hy)
            unfold win at this
            simp only [List.length_take, List.length_drop, Array.length_toList] at this
            have e2 : (n - 1) * csz t + csz t = n * csz t := by rw [← Nat.succ_mul]; congr 1; omega
            omega
      refine ⟨win C.toList off (n * csz t), fun w1 hw1 => ?_, ?_, fun i y hi hy => ?_, rfl⟩
      · simp only [Builtin.firstCells]
        rw [← hw1] at hC
        rcases hb with hb | hb
        · exact run_loadCells hC hb
        · rw [hb]; simp [loadCells, loadCellsFrom, win]
      · rcases hb with hb | hb
        · exact win_length _ _ _ (by simpa using hb)
        · rw [hb]; simp [win]
      · rw [win_win]
        · exact hx i y hy
        · have : i * csz t + csz t ≤ n * csz t := by rw [← Nat.succ_mul]; exact Nat.mul_le_mul_right _ (by omega)
          omega

theorem str_cells {x : List UInt8} : ∃ vs : List Value, (∀ w1 : World, (Builtin.firstCells 1 x.length (strV x)).run P w1 = .ok vs.toArray w1) ∧ vs.length = x.length ∧
    (∀ (i : Nat) (y : UInt8), x[i]? = some y → Rd τ (fun _ => True) w .by y (win vs i 1)) ∧ (Builtin.lenOf (strV x)).run P w = .ok x.length w := by
  refine ⟨x.map fun b => .int .u8 b.toNat, fun w1 => ?_, by simp, fun i y hy => ?_, by simp [Builtin.lenOf, strV, size_mk]⟩
  · simp only [Builtin.firstCells, strV]
    have : (ByteArray.mk x.toArray).extract 0 x.length = ByteArray.mk x.toArray := by
      rw [mk_extract]; simp [win]
    rw [this]
    simp
  · simp only [Rd]
    unfold win
    have hi := lt_of_get hy
    rw [List.getElem?_eq_getElem hi] at hy
    cases hy
    rw [List.drop_eq_getElem_cons (by simpa using hi)]
    simp

end Lk

namespace Lk
open Go
variable {Kw : World → Prop}
variable {τ : TypeId} {cx : Cx Kw} {S : Nat → Prop} {ds : DSt} {w : World} {P : Program} {env : Env} {a : Act} {o : Oper} {cs : List Bool} {st' : St}

theorem RelS.chg {tmps : Array Value} {w' : World} {L : List Nat} (h : RelS τ cx S ds tmps w) (g : Ext L w w') (hL : ∀ b ∈ L, b ∉ blocks ds ∧ ¬ (S b ∨ cx.Sb b) ∧ (b ∈ cx.B0 ∨ cx.w0.heap.size ≤ b)) : RelS τ cx S ds tmps w' := by
  have e := h.inv.ext
  have hS : ∀ b, (S b ∨ cx.Sb b) → w'.heap[b]? = w.heap[b]? := fun b hb => g.block b (h.inv.sw b hb).1 (fun hl => (hL b hl).2.1 hb)
  refine ⟨h.size, ⟨⟨g.os.trans e.os, g.tape.trans e.tape, g.output.trans e.output, Nat.le_trans e.size g.size, fun b hb hn => ?_⟩,
    h.inv.s0, h.inv.s1, fun b hb => ⟨Nat.lt_of_lt_of_le (h.inv.sw b hb).1 g.size, (h.inv.sw b hb).2⟩, fun b hb => ⟨Nat.lt_of_lt_of_le (h.inv.own b hb).1 g.size, (h.inv.own b hb).2⟩, h.inv.nodup⟩, fun i e he => ?_⟩
  · rw [g.block b (Nat.lt_of_lt_of_le hb e.size) (fun hl => ?_)]
    · exact e.block b hb hn
    · rcases (hL b hl).2.2 with h1 | h1
      · exact hn h1
      · omega
  · exact Ent.ok_keep (fun b hb => hS b (.inl hb)) hS (fun b hb => g.block b (h.inv.own b (mem_blocks he b hb)).1 (fun hl => (hL b hl).1 (mem_blocks he b hb))) (h.ok i e he)

theorem drop_map {V B V' B' : Type} (f : V → V') (g : B → B') (s : Nat) (st : List (Ent V B)) : ((st.map fun e => if e.root = some s then Ent.dead else e).set s .dead).map (Ent.map f g) = ((st.map (Ent.map f g)).map fun e => if e.root = some s then Ent.dead else e).set s .dead := by
  simp only [List.map_set, List.map_map, Ent.map]
  congr 1
  apply List.map_congr_left
  intro e _
  simp only [Function.comp, root_map]
  split <;> rfl

def dropD (ds : DSt) (s : Nat) : DSt := (ds.map fun e => if e.root = some s then .dead else e).set s .dead

theorem RelS.drop {tmps : Array Value} (h : RelS τ cx S ds tmps w) (s : Nat) : RelS τ cx S (dropD ds s) tmps w := by
  have hsub := blocks_sub (ds := ds) (ds' := dropD ds s) (by simp [dropD]) (by
    intro k e e' he he'
    unfold dropD at he'
    by_cases hk : k = s
    · subst hk
      rw [List.getElem?_set_self (by rw [List.length_map]; exact lt_of_get he)] at he'
      cases he'; exact .inr rfl
    · rw [List.getElem?_set_ne (fun e => hk e.symm), List.getElem?_map, he] at he'
      simp only [Option.map_some, Option.some.injEq] at he'
      subst he'
      split
      · exact .inr rfl
      · exact .inl rfl)
  refine ⟨by simp [dropD, h.size], h.inv.fewer (fun b hb => hsub.subset hb) (h.inv.nodup.sublist hsub), fun k e he => ?_⟩
  unfold dropD at he
  by_cases hk : k = s
  · subst hk
    have := lt_of_get he
    rw [List.getElem?_set_self (by simpa using this)] at he
    cases he; trivial
  · rw [List.getElem?_set_ne (fun e => hk e.symm), List.getElem?_map, Option.map_eq_some_iff] at he
    obtain ⟨e0, he0, rfl⟩ := he
    split
    · trivial
    · rename_i hr
      refine ok_other (h.ok k _ he0) hr (fun s' d hs hd => ?_)
      unfold dropD
      rw [List.getElem?_set_ne (fun e => hs e.symm), List.getElem?_map, hd]
      simp [Ent.root]

theorem dropD_blocks {s : Nat} {d : DV} (h : ds[s]? = some (.av d)) (hn : (blocks ds).Nodup) : ∀ b ∈ d.bl, b ∉ blocks (dropD ds s) := by
  intro b hb hb'
  obtain ⟨R, p1, p2⟩ := set_perm ds s _ h
  have hR : b ∈ R := by
    have hsub : (blocks (dropD ds s)).Sublist (blocks (ds.set s .dead)) := blocks_sub (by simp [dropD]) (by
      intro k e e' he he'
      unfold dropD at he'
      by_cases hk : k = s
      · subst hk
        rw [List.getElem?_set_self (lt_of_get h)] at he
        rw [List.getElem?_set_self (by rw [List.length_map]; exact lt_of_get h)] at he'
        cases he'; exact .inr rfl
      · rw [List.getElem?_set_ne (fun e => hk e.symm)] at he
        rw [List.getElem?_set_ne (fun e => hk e.symm), List.getElem?_map, he] at he'
        simp only [Option.map_some, Option.some.injEq] at he'
        subst he'
        split
        · exact .inr rfl
        · exact .inl rfl)
    have := (p2 .dead).subset (hsub.subset hb')
    simpa [Ent.bl] using this
  have := p1.nodup_iff.1 hn
  exact (List.nodup_append.1 this).2.2 b hb b hR rfl

theorem growBy_le (need : Nat) : ∀ (r c : Nat), 256 ≤ need → c ≤ 2 * need → Builtin.growBy need r c ≤ 2 * need
  | 0, c, _, h => h
  | r + 1, c, h, hc => by
    unfold Builtin.growBy
    split
    · exact hc
    · exact growBy_le need r _ h (by omega)

theorem nextcap_le {need cap : Nat} (h : cap < need) : Builtin.nextslicecap need cap ≤ 2 * need := by
  unfold Builtin.nextslicecap
  split
  · omega
  · split
    · omega
    · exact growBy_le _ _ _ (by omega) (by omega)

theorem run_askRoom {n : Nat} : (askRoom n).run P w = .ok () w := by unfold askRoom; split <;> rfl

theorem run_choose {q : Question} (h : q.forced = false) : (choose q).run P w = .ok (q.cut (w.tape w.drawn q)) { w with drawn := w.drawn + 1 } := by
  simp [choose, Sem.run, h]

theorem run_zero {T : TypeId} {i : TypeInfo} {z : Value} (h : P.info? T = some i) (hz : i.zero = some z) : (zeroValue T).run P w = .ok z w := by
  unfold zeroValue
  rw [Sem.run_bind, run_info h, Result.andThen_ok, hz]; rfl

theorem zeroCells_size (z : Array Value) (n : Nat) : (Builtin.zeroCells z n).size = n * z.size := by simp [Builtin.zeroCells]

theorem thaw_zero (n : Nat) : thaw n (0, 0) := by intro k _ h; omega

theorem Ext.refl (w : World) : Ext [] w w := ⟨rfl, rfl, rfl, Nat.le_refl _, fun _ _ _ => rfl⟩

/-- What an append comes to, at rows of flat elements. -/
theorem run_append {t : Ty} {m : Md} {x : E (.l t)} {sh : Sh (.l t)} {T T2 e : TypeId} {i : TypeInfo} {z : Value} {d2 : TypeDesc} {vs : List Value} {y : List (E t)} {vb vsrc : Value} {Sb : Nat → Prop}
    (hf : flat t = true) (hnh : nh t m = true) (hb : hold τ S Sb w (.l t) (.o m) x sh) (hvb : vb = sh.hd)
    (hT : P.underlying T = some (.slice e)) (hi : P.info? e = some i) (hsz : i.size = csz t) (hz : i.zero = some z) (hzs : z.cells.size = csz t)
    (hT2 : P.underlying T2 = some d2) (hd2 : ∀ k, d2 ≠ .int k)
    (hlen : (Builtin.lenOf vsrc).run P w = .ok y.length w) (hfc : ∀ w1 : World, w1.heap = w.heap → (Builtin.firstCells (csz t) y.length vsrc).run P w1 = .ok vs.toArray w1) (hvl : vs.length = y.length * csz t)
    (hy : ∀ (i : Nat) (u : E t), y[i]? = some u → Rd τ (fun _ => True) w t u (win vs (i * csz t) (csz t)))
    (hbig : (x.length + y.length) * i.bytes ≤ 140737488355328) (hbig2 : x.length + y.length ≤ 140737488355328) (oT : TypeId) :
    ∃ w' d', (Builtin.append_ #[T, T2] oT #[vb, vsrc]).run P w = .ok (DV.val τ d') w' ∧ d'.av = ⟨.l t, .o m, x ++ y⟩ ∧ d'.hold τ S Sb w' ∧
      (d'.bl = bl (.l t) (.o m) x sh ∧ Ext (bl (.l t) (.o m) x sh) w w' ∨ Ext [] w w' ∧ ∃ n, d'.bl = [n] ∧ w.heap.size ≤ n ∧ n < w'.heap.size) := by
  subst hvb
  obtain ⟨base, cap, hhd, hxc, hcb, hbn⟩ : ∃ a cap, sh.hd = .slice a x.length cap ∧ x.length ≤ cap ∧ cap ≤ big ∧ (a = none → x = [] ∧ cap = 0) := by
    simp only [hold] at hb
    rcases hb with ⟨h1, rfl⟩ | ⟨cap, h1, h2, h3, h4, _⟩
    · exact ⟨none, 0, h1, by simp, by simp [big], fun _ => ⟨rfl, rfl⟩⟩
    · exact ⟨_, cap, h1, h3, h4, by simp⟩
  have hrd := row_rd hf (by simp) (fun m' e => by cases e; exact hnh) hb
  have hT2' : (match d2 with | .int _ => true | _ => false) = false := by
    cases d2 <;> first | rfl | exact absurd rfl (hd2 _)
  have hlx : (x ++ y).length = x.length + y.length := by simp
  by_cases hle : x.length + y.length ≤ cap
  · -- in place
    have hrun0 : ∀ w', ((match base with
            | some a => do
              storeCells (a.add (x.length * csz t)) vs
              pure (Value.slice base (x.length + y.length) cap)
            | _ => pure (Value.slice base (x.length + y.length) cap) : Sem Value).run P w = .ok (.slice base (x.length + y.length) cap) w') →
        (Builtin.append_ #[T, T2] oT #[sh.hd, vsrc]).run P w = .ok (.slice base (x.length + y.length) cap) w' := by
      intro w' hw'
      rw [hhd]
      unfold Builtin.append_
      simp only [List.getElem?_toArray, List.getElem?_cons_zero, List.getElem?_cons_succ, Sem.run_bind, run_underlying hT, Result.andThen_ok, run_sizeOf hi, run_underlying hT2, Sem.run_pure, hlen,
        Bool.false_eq_true, if_false, if_pos hle, Bool.not_false, if_true, hsz, hfc w rfl]
      exact hw'
    simp only [hold] at hb
    rcases hb with ⟨h1, rfl⟩ | ⟨cap', h1, h2, h3, h4, h5, h6, h7, h8⟩
    · rw [h1] at hhd
      cases hhd
      have hy0 : y = [] := by simpa using hle
      subst hy0
      refine ⟨w, ⟨.l t, .o m, [], sh⟩, ?_, rfl, .inl ⟨h1, rfl⟩, .inl ⟨rfl, ?_⟩⟩
      · have := hrun0 w rfl
        rw [this]
        simp [DV.val, DV.cells, cells, valOf, isAggT, h1]
      · simp only [bl, h1]; exact Ext.refl w
    · rw [h1] at hhd
      cases hhd
      have hmul : x.length * csz t + y.length * csz t ≤ cap * csz t := by rw [← Nat.add_mul]; exact Nat.mul_le_mul_right _ hle
      have hpl : ∀ v ∈ vs, plainV v = true := by
        intro v hv
        obtain ⟨k, hk⟩ := List.mem_iff_getElem?.1 hv
        have hk1 := lt_of_get hk
        rw [hvl] at hk1
        have hcp : 0 < csz t := by
          rcases Nat.eq_zero_or_pos (csz t) with h | h
          · rw [h] at hk1; omega
          · exact h
        have hq : k / csz t < y.length := by rw [Nat.div_lt_iff_lt_mul hcp]; exact hk1
        have hr := hy _ _ (List.getElem?_eq_getElem hq)
        refine Rd_plain _ _ _ hr v ?_
        refine List.mem_of_getElem? (i := k % csz t) ?_
        rw [win_get, if_pos (Nat.mod_lt _ hcp)]
        rw [Nat.mul_comm, Nat.div_add_mod]
        exact hk
      obtain ⟨w', k1, k2⟩ := run_storeCells (P := P) (b := sh.blk) (o := sh.off + x.length * csz t) vs 0 w sh.C.toArray h6 (by simp only [List.size_toArray]; omega) (by simpa using h7) hpl
      have hC' : (splice sh.C (sh.off + x.length * csz t) vs).length = sh.C.length := splice_length _ _ _ (by omega)
      obtain ⟨sh', g1, g2, g3⟩ := flat_row (τ := τ) (S := S) (Sb := Sb) (w := w') (t := t) (m := m) (x := x ++ y) (b := sh.blk) (off := sh.off) (cap := cap) (C := splice sh.C (sh.off + x.length * csz t) vs) (e := sh.ety) (f := sh.frz) hf
        (by simpa using k2.here) (by rw [hC']; exact h7) (by rw [hlx]; exact hle) h4 (by rw [hC']; exact h5) (fun i u hu => by
          by_cases hix : i < x.length
          · rw [List.getElem?_append_left hix] at hu
            have hz := List.getElem?_eq_getElem (show i < sh.es.length by omega)
            have hh := h8 i u _ hu hz
            have hi1 : i * csz t + csz t ≤ x.length * csz t := by rw [← Nat.succ_mul]; exact Nat.mul_le_mul_right _ hix
            rw [win_splice_other _ _ _ _ _ (by omega) (by omega), hh.1]
            exact flat_rd _ _ _ _ hf hnh hh.2
          · rw [List.getElem?_append_right (by omega)] at hu
            have hr := hy _ _ hu
            have hlt := lt_of_get hu
            have hi2 : (i - x.length) * csz t + csz t ≤ y.length * csz t := by rw [← Nat.succ_mul]; exact Nat.mul_le_mul_right _ hlt
            have e1 : sh.off + i * csz t = sh.off + x.length * csz t + (i - x.length) * csz t := by
              have : i * csz t = x.length * csz t + (i - x.length) * csz t := by rw [← Nat.add_mul]; congr 1; omega
              omega
            have e2 := win_splice_same sh.C (sh.off + x.length * csz t) vs (by omega)
            rw [e1, ← win_win _ _ (vs.length) _ _ (by omega), e2]
            have := flat_rd (τ := τ) (S := fun _ => True) (Sb := fun _ => True) (S' := S) (w' := w') t .r u (Classical.choose (Rd_sh _ _ _ hr)) hf (by cases t <;> rfl) (by rw [hold_r, Classical.choose_spec (Rd_sh _ _ _ hr)]; exact hr)
            rw [Classical.choose_spec (Rd_sh _ _ _ hr)] at this
            exact this)
      refine ⟨w', ⟨.l t, .o m, x ++ y, sh'⟩, ?_, rfl, g1, .inl ⟨?_, ?_⟩⟩
      · rw [hrun0 w' (by
          simp only [Sem.run_bind, add_eq]
          rw [k1]; rfl)]
        simp only [DV.val, DV.cells, cells, valOf, isAggT, g3, Bool.false_eq_true, if_false, List.headD_cons, hlx]
      · show bl (.l t) (.o m) (x ++ y) sh' = _
        rw [g2]
        simp only [bl, h1]
        congr 1
        symm
        rw [List.flatten_eq_nil_iff]
        intro l hl
        obtain ⟨i, hi⟩ := List.mem_iff_getElem?.1 hl
        rw [List.getElem?_zipWith] at hi
        split at hi
        · cases hi; exact flat_bl _ _ _ _ hf
        · cases hi
      · refine ⟨k2.os, k2.tape, k2.output, by rw [k2.size]; exact Nat.le_refl _, fun b hb hnb => k2.block b (fun e => hnb ?_)⟩
        subst e
        simp only [bl, h1]
        simp
  · -- a new row
    have hcn : cap < x.length + y.length := by omega
    have hnc := nextcap_le hcn
    have hb2 : ¬ Builtin.nextslicecap (x.length + y.length) cap * i.bytes > 2 ^ 48 := by
      have := Nat.mul_le_mul_right i.bytes hnc
      have e : 2 * (x.length + y.length) * i.bytes = 2 * ((x.length + y.length) * i.bytes) := by rw [Nat.mul_assoc]
      omega
    have hb3 : ¬ ((x.length + y.length : Nat) > IntKind.i64.max ∧ (False ∨ i.bytes = 0)) := by
      intro h
      have := h.1
      simp only [IntKind.max, IntKind.signed, IntKind.bits, if_true] at this
      omega
    obtain ⟨os, o1, o2, o3, _⟩ := src_cells (P := P) hrd x.length (Nat.le_refl _)
    generalize hN : Question.cut (.appendCap (x.length + y.length) cap e) (w.tape w.drawn (.appendCap (x.length + y.length) cap e)) = N
    have hN1 : x.length + y.length ≤ N ∧ N ≤ big := by
      rw [← hN]
      simp only [Question.cut, big]
      have : 0 < 2 ^ 63 - (x.length + y.length) := by omega
      have := Nat.mod_lt (w.tape w.drawn (.appendCap (x.length + y.length) cap e)) this
      omega
    let C' : List Value := os ++ vs ++ (Builtin.zeroCells z.cells (N - (x.length + y.length))).toList
    have hC'l : C'.length = N * csz t := by
      simp only [C', List.length_append, Array.length_toList, zeroCells_size, hzs, o2, hvl]
      rw [← Nat.add_mul, ← Nat.add_mul]; congr 1; omega
    let w1 : World := { w with drawn := w.drawn + 1 }
    let w' : World := { w1 with heap := w1.heap.push (.cells C'.toArray e) }
    have hrun : (Builtin.append_ #[T, T2] oT #[sh.hd, vsrc]).run P w = .ok (.slice (some ⟨w.heap.size, 0, none⟩) (x.length + y.length) N) w' := by
      have ho1 := o1 w1 rfl
      have hf1 := hfc w1 rfl
      have hz1 := run_zero (w := w1) hi hz
      rw [hhd] at ho1 ⊢
      unfold Builtin.append_
      simp only [List.getElem?_toArray, List.getElem?_cons_zero, List.getElem?_cons_succ, Sem.run_bind, run_underlying hT, Result.andThen_ok, run_sizeOf hi, run_underlying hT2, Sem.run_pure, hlen,
        Bool.false_eq_true, if_false, if_neg hle, Bool.not_false, if_true, hsz, false_or]
      have hb4 : ¬ (((x.length + y.length : Nat) : Int) > IntKind.i64.max ∧ i.bytes = 0) := fun h => hb3 ⟨h.1, .inr h.2⟩
      have hch := run_choose (P := P) (w := w) (q := .appendCap (x.length + y.length) cap e) rfl
      rw [hN] at hch
      rw [run_info hi, Result.andThen_ok, if_neg hb4]
      simp only [Sem.run_bind, run_info hi, Result.andThen_ok]
      rw [if_neg hb2]
      simp only [Sem.run_bind, hch, run_info hi, Result.andThen_ok, run_askRoom]
      rw [show ({ w with drawn := w.drawn + 1 } : World) = w1 from rfl, ho1]
      simp only [Result.andThen_ok, hf1, hz1, Sem.run_pure]
      simp only [newRow, newObj, Sem.run_bind, Sem.run_pure]
      have : os.toArray ++ vs.toArray ++ Builtin.zeroCells z.cells (N - (x.length + y.length)) = C'.toArray := by
        simp [C']
      rw [this]
      rfl
    obtain ⟨sh', g1, g2, g3⟩ := flat_row (τ := τ) (S := S) (Sb := Sb) (w := w') (t := t) (m := m) (x := x ++ y) (b := w.heap.size) (off := 0) (cap := N) (C := C') (e := e) (f := (0, 0)) hf
      (by simp [w', w1]) (thaw_zero _) (by rw [hlx]; exact hN1.1) hN1.2 (by rw [hC'l]; omega) (fun k u hu => by
        rw [Nat.zero_add]
        have key : ∀ vs', Rd τ (fun _ => True) w t u vs' → Rd τ S w' t u vs' := fun vs' hr => by
          have := flat_rd (τ := τ) (S := fun _ => True) (Sb := fun _ => True) (S' := S) (w' := w') t .r u (Classical.choose (Rd_sh _ _ _ hr)) hf (by cases t <;> rfl) (by rw [hold_r, Classical.choose_spec (Rd_sh _ _ _ hr)]; exact hr)
          rw [Classical.choose_spec (Rd_sh _ _ _ hr)] at this
          exact this
        have hwin : ∀ (A B D : List Value) (p n : Nat), A.length ≤ p → p + n ≤ A.length + B.length → win (A ++ B ++ D) p n = win B (p - A.length) n := by
          intro A B D p n h1 h2
          unfold win
          rw [List.append_assoc, List.drop_append, List.drop_eq_nil_of_le h1, List.nil_append, List.drop_append_of_le_length (by omega), List.take_append_of_le_length (by simp; omega)]
        by_cases hkx : k < x.length
        · rw [List.getElem?_append_left hkx] at hu
          have hr := o3 k u hkx hu
          have hi1 : k * csz t + csz t ≤ x.length * csz t := by rw [← Nat.succ_mul]; exact Nat.mul_le_mul_right _ hkx
          have := hwin [] os (vs ++ (Builtin.zeroCells z.cells (N - (x.length + y.length))).toList) (k * csz t) (csz t) (by simp) (by simp [o2]; omega)
          simp only [List.nil_append, List.length_nil, Nat.sub_zero] at this
          simp only [C', List.append_assoc]
          rw [this]
          exact key _ hr
        · rw [List.getElem?_append_right (by omega)] at hu
          have hr := hy _ _ hu
          have hlt := lt_of_get hu
          have hi2 : (k - x.length) * csz t + csz t ≤ y.length * csz t := by rw [← Nat.succ_mul]; exact Nat.mul_le_mul_right _ hlt
          have e1 : k * csz t = x.length * csz t + (k - x.length) * csz t := by rw [← Nat.add_mul]; congr 1; omega
          have := hwin os vs (Builtin.zeroCells z.cells (N - (x.length + y.length))).toList (k * csz t) (csz t) (by omega) (by omega)
          simp only [C']
          rw [this, show k * csz t - os.length = (k - x.length) * csz t by omega]
          exact key _ hr)
    refine ⟨w', ⟨.l t, .o m, x ++ y, sh'⟩, ?_, rfl, g1, .inr ⟨⟨rfl, rfl, rfl, by simp [w', w1], fun b hb _ => ?_⟩, w.heap.size, g2, Nat.le_refl _, by simp [w', w1]⟩⟩
    · rw [hrun]
      simp only [DV.val, DV.cells, cells, valOf, isAggT, g3, Bool.false_eq_true, if_false, List.headD_cons, hlx]
    · simp only [w', w1, Array.getElem?_push]
      rw [if_neg (by omega)]

end Lk

namespace Lk
open Go
variable {Kw : World → Prop}
variable {τ : TypeId} {cx : Cx Kw} {S : Nat → Prop} {ds : DSt} {w : World} {P : Program} {env : Env} {a : Act} {o : Oper} {cs : List Bool} {st' : St}

theorem grown_le {w : World} {n : Nat} {e : TypeId} (hn : n ≤ big) : n ≤ grownCap w n 0 e ∧ grownCap w n 0 e ≤ big := by
  unfold grownCap
  simp only [Question.cut, big] at *
  have : 0 < 2 ^ 63 - n := by omega
  have := Nat.mod_lt (w.tape w.drawn (.appendCap n 0 e)) this
  omega

theorem convB_did {T T' : TypeId} {x : Operand} {m : Md} (hE : EnvOk P env) (ho : o.op = .convert T T' x) (hT' : env.ty T' = some (.l .by, .o m))
    (h : RelS τ cx S ds a.tmps w) (hl : opL env o (ds.map er) = some (cs, st')) : Did (τ := τ) P cx a o w st' := by
  simp only [opL, ho, Option.bind_eq_some_iff] at hl
  obtain ⟨tm, htm, u, hu, hl⟩ := hl
  split at hl
  case isFalse => cases hl
  rw [Option.bind_eq_some_iff] at hl
  obtain ⟨r, hr, hl⟩ := hl
  obtain ⟨hs, rfl⟩ := ret_some hl
  have hi := h.rdOp (a := a) rfl hu
  obtain ⟨d0, hd0⟩ := (hE.ty T tm.1 tm.2 htm).some
  have hd := hE.ty _ _ _ hT'
  simp only [Desc] at hd
  obtain ⟨e, i, z, h1, h2, h3, h4, h5, h6⟩ := hd
  simp only [conv, hT'] at hr
  split at hr
  · rename_i m0 y _
    cases hr
    obtain ⟨e1, r1⟩ := hi.str
    have hrun : (execOp a.eval o).run P w = .ok (.value (.slice (some ⟨w.heap.size, 0, none⟩) y.length (grownCap w y.length 0 e))) (Lib.bytesWorld w e ⟨y.toArray⟩) := by
      simp only [execOp, ho]
      refine run_value ?_
      rw [e1]
      have := Lib.run_convert_string_bytes (P := P) w T T' e ⟨y.toArray⟩ hd0 h1 h6
      simpa [size_mk, strV] using this
    obtain ⟨g1, g2⟩ := grown_le (w := w) (e := e) r1
    have hnew := Lib.bytesWorld_at_new w e ⟨y.toArray⟩
    have hsz : (Lib.bytesCells w e ⟨y.toArray⟩).size = grownCap w y.length 0 e := by
      simp [Lib.bytesCells, size_mk]; omega
    obtain ⟨sh, k1, k2, k3⟩ := flat_row (τ := τ) (S := S) (Sb := fun b => S b ∨ cx.Sb b) (w := Lib.bytesWorld w e ⟨y.toArray⟩) (t := .by) (m := m) (x := y) (b := w.heap.size) (off := 0) (cap := grownCap w y.length 0 e)
      (C := (Lib.bytesCells w e ⟨y.toArray⟩).toList) (e := e) (f := ((Lib.bytesCells w e ⟨y.toArray⟩).size, (Lib.bytesCells w e ⟨y.toArray⟩).size + 1)) rfl
      (by simpa using hnew) (by intro k hk hk'; simp at hk hk'; omega) g1 g2 (by simp [csz, hsz]) (fun k u hu' => by
        have hk := lt_of_get hu'
        rw [List.getElem?_eq_getElem hk] at hu'
        cases hu'
        simp only [Rd, csz, Nat.mul_one, Nat.zero_add]
        unfold win
        rw [List.drop_eq_getElem_cons (by simp [hsz]; omega)]
        simp [Lib.bytesCells, hk])
    have hg : Grows w (Lib.bytesWorld w e ⟨y.toArray⟩) := ⟨rfl, rfl, rfl, by rw [Lib.bytesWorld_size]; omega, fun b hb => Lib.bytesWorld_at_old w e _ b hb⟩
    obtain ⟨ds', q1, q2⟩ := h.fresh (d := ⟨.l .by, .o m, y, sh⟩) (n := w.heap.size) hg hs rfl k1 (.inl k2) ⟨Nat.le_refl _, by rw [Lib.bytesWorld_size]; omega⟩
    have hv : DV.val τ ⟨.l .by, .o m, y, sh⟩ = .slice (some ⟨w.heap.size, 0, none⟩) y.length (grownCap w y.length 0 e) := by
      simp [DV.val, DV.cells, cells, valOf, isAggT, k3]
    exact ⟨_, _, _, ds', S, hrun, ⟨.inl rfl, fun hst => by simp [still, *] at hst⟩, q1, by rw [hv] at q2; exact q2⟩
  · cases hr

end Lk

namespace Lk
open Go
variable {Kw : World → Prop}
variable {τ : TypeId} {cx : Cx Kw} {S : Nat → Prop} {ds : DSt} {w : World} {P : Program} {env : Env} {a : Act} {o : Oper} {cs : List Bool} {st' : St}

theorem two_args {c : Call} (h1 : c.args.size = 2) (h2 : c.argTypes.size = 2) : c.args.map a.eval = #[a.eval (arg c 0), a.eval (arg c 1)] ∧ c.argTypes = #[argT c 0, argT c 1] := by
  constructor
  · apply Array.ext'
    rw [minmax h1]
  · obtain ⟨xs, hxs⟩ : ∃ xs, c.argTypes = xs := ⟨_, rfl⟩
    unfold argT
    rw [hxs] at h2 ⊢
    obtain ⟨l⟩ := xs
    match l, h2 with
    | [x, y], _ => simp

theorem desc_notInt {T : TypeId} {t : Ty} (h : Desc P T t) (hr : (∃ t', t = .l t') ∨ t = .s) : ∃ d, P.underlying T = some d ∧ ∀ k, d ≠ TypeDesc.int k := by
  rcases hr with ⟨t', rfl⟩ | rfl
  · simp only [Desc] at h; obtain ⟨e, i, z, h, _⟩ := h; exact ⟨_, h, fun k e => by cases e⟩
  · simp only [Desc] at h; exact ⟨_, h, fun k e => by cases e⟩

/-- What is appended: how many, and their cells. -/
theorem app_src {t : Ty} {lim : Nat} {x : E (.l t)} {m : Md} {y : AV} {vy : Value} {r : List Bool × AV} (hy : Is (τ := τ) cx S w y vy) (ha : app lim ⟨.l t, .o m, x⟩ y = some r) :
    ∃ (ys : List (E t)) (vs : List Value), r = ([decide (x.length + ys.length ≤ lim)], ⟨.l t, .o m, x ++ ys⟩) ∧ flat t = true ∧ nh t m = true ∧
      (Builtin.lenOf vy).run P w = .ok ys.length w ∧ (∀ w1 : World, w1.heap = w.heap → (Builtin.firstCells (csz t) ys.length vy).run P w1 = .ok vs.toArray w1) ∧ vs.length = ys.length * csz t ∧
      (∀ (i : Nat) (v : E t), ys[i]? = some v → Rd τ (fun _ => True) w t v (win vs (i * csz t) (csz t))) ∧ ((∃ t', y.t = .l t') ∨ y.t = .s) := by
  unfold app at ha
  split at ha
  · rename_i t1 m1 x1 t' m' y' e1
    cases e1
    split at ha
    · rename_i ht
      subst ht
      split at ha
      · rename_i hc
        simp only [Bool.and_eq_true] at hc
        obtain ⟨⟨hf, hn⟩, hn2⟩ := hc
        cases ha
        obtain ⟨hm, d, hd, hh, rfl⟩ := hy
        obtain ⟨t0, m0, x0, sh⟩ := d
        simp only [DV.av, AV.mk.injEq] at hd
        obtain ⟨rfl, rfl, hx⟩ := hd
        cases hx
        have hrd := row_rd hf hm (fun m' e => by subst e; exact hn2) hh
        obtain ⟨vs, h1, h2, h3, h4⟩ := src_cells (P := P) hrd y'.length (Nat.le_refl _)
        refine ⟨y', vs, rfl, hf, hn, ?_, ?_, h2, fun i v hv => h3 i v (lt_of_get hv) hv, .inl ⟨_, rfl⟩⟩
        · simpa [DV.val, DV.cells, cells, valOf, isAggT] using h4
        · simpa [DV.val, DV.cells, cells, valOf, isAggT] using h1
      · cases ha
    · cases ha
  · rename_i m1 x1 m' y' e1
    cases e1
    split at ha
    · rename_i hn
      cases ha
      obtain ⟨e1, r1⟩ := hy.str
      subst e1
      obtain ⟨vs, h1, h2, h3, h4⟩ := str_cells (τ := τ) (w := w) (P := P) (x := y')
      exact ⟨y', vs, rfl, rfl, hn, h4, fun w1 _ => h1 w1, by simp [h2, csz], fun i v hv => by simpa [csz] using h3 i v hv, .inr rfl⟩
    · cases ha
  · cases ha

theorem append_did {c : Call} (hE : EnvOk P env) (ho : o.op = .call c) (hb : c.callee = .builtin .append)
    (h : RelS τ cx S ds a.tmps w) (hl : opL env o (ds.map er) = some (cs, st')) (hc : ∀ c ∈ cs, c = true) : Did (τ := τ) P cx a o w st' := by
  simp only [opL, ho, hb] at hl
  split at hl
  · rename_i hsz
    simp only [Option.bind_eq_some_iff] at hl
    obtain ⟨t0, ht0, t1, ht1, y, hy, b, hbase, hl⟩ := hl
    split at hl
    · rename_i htt
      rw [Option.bind_eq_some_iff] at hl
      obtain ⟨r, hr, hl⟩ := hl
      obtain ⟨hs, rfl⟩ := ret_some hl
      obtain ⟨ea, et⟩ := two_args (a := a) hsz.1 hsz.2
      have iy := h.rdOp (a := a) rfl hy
      obtain ⟨bv, bst⟩ := b
      simp only at hr hs htt
      -- the base
      obtain ⟨t, m, x, rfl⟩ : ∃ t m x, bv = ⟨.l t, .o m, x⟩ := by
        unfold app at hr
        split at hr
        · exact ⟨_, _, _, rfl⟩
        · exact ⟨_, _, _, rfl⟩
        · cases hr
      obtain ⟨ys, vs, rfl, hf, hn, l1, l2, l3, l4, l5⟩ := app_src (P := P) iy hr
      have hd0 := hE.ty _ _ _ ht0
      rw [htt.1] at hd0
      simp only [Desc] at hd0
      obtain ⟨e, i, z, f1, f2, f3, f4, f5, _⟩ := hd0
      have hd1 := hE.ty _ _ _ ht1
      rw [htt.2] at hd1
      obtain ⟨d2, g1, g2⟩ := desc_notInt hd1 l5
      have hlim : x.length + ys.length ≤ env.lim (argT c 0) := by simpa using hc
      obtain ⟨m1, m2⟩ := hE.lim _ _ _ f1 f2
      have hbig : (x.length + ys.length) * i.bytes ≤ 140737488355328 := Nat.le_trans (Nat.mul_le_mul_right _ hlim) m1
      have hbig2 : x.length + ys.length ≤ 140737488355328 := Nat.le_trans hlim m2
      -- the row that is given away, in what is left
      suffices ∃ (ds1 : DSt) (sh : Sh (.l t)), bst = ds1.map er ∧ RelS τ cx S ds1 a.tmps w ∧ hold τ S (fun b => S b ∨ cx.Sb b) w (.l t) (.o m) x sh ∧ a.eval (arg c 0) = sh.hd ∧
          (∀ b ∈ bl (.l t) (.o m) x sh, b ∉ blocks ds1 ∧ ¬ (S b ∨ cx.Sb b) ∧ (b ∈ cx.B0 ∨ cx.w0.heap.size ≤ b) ∧ b < w.heap.size) ∧ (bl (.l t) (.o m) x sh).Nodup by
        obtain ⟨ds1, sh, rfl, hR, hh, hev, hbl, hnd⟩ := this
        obtain ⟨w', d', k1, k2, k3, k4⟩ := run_append hf hn hh hev f1 f2 f3 f4 f5 g1 g2 l1 l2 l3 l4 hbig hbig2 o.type
        have hrun : (execOp a.eval o).run P w = .ok (.value (d'.val τ)) w' := by
          rw [run_builtin hb ho, ea, et]
          exact run_value k1
        have hR' : RelS τ cx S ds1 a.tmps w' := by
          rcases k4 with ⟨_, g⟩ | ⟨g, _⟩
          · exact hR.chg g (fun b hb => ⟨(hbl b hb).1, (hbl b hb).2.1, (hbl b hb).2.2.1⟩)
          · exact hR.chg g (by simp)
        have hsize : w.heap.size ≤ w'.heap.size := by rcases k4 with ⟨_, g⟩ | ⟨g, _⟩ <;> exact g.size
        obtain ⟨ds', q1, q2⟩ := hR'.setD (e := .av d') (v := d'.val τ) (by
            show Lk.setD (ds1.map er) o.dst (.av d'.av) = some st'
            rw [k2]; exact hs) ⟨k3, rfl⟩ (by
            simp only [Ent.bl]
            rcases k4 with ⟨e4, _⟩ | ⟨_, n, e4, _⟩
            · rw [e4]; exact hnd
            · rw [e4]; simp) (fun b hb => by
            simp only [Ent.bl] at hb
            rcases k4 with ⟨e4, _⟩ | ⟨_, n, e4, n1, n2⟩
            · rw [e4] at hb
              have := hbl b hb
              exact ⟨Nat.lt_of_lt_of_le this.2.2.2 hsize, this.2.2.1, this.2.1, this.1⟩
            · rw [e4] at hb
              simp only [List.mem_singleton] at hb
              subst hb
              refine ⟨n2, .inr (Nat.le_trans h.inv.ext.size n1), fun hS => ?_, fun hB => ?_⟩
              · have := (h.inv.sw b hS).1; omega
              · have := (hR.inv.own b hB).1; omega)
        exact ⟨_, _, w', ds', S, hrun, ⟨.inl rfl, fun hst => by simp [still, *] at hst⟩, q1, q2⟩
      unfold Lk.base at hbase
      split at hbase
      · rename_i cv hcv
        rw [Option.map_eq_some_iff] at hbase
        obtain ⟨v, hv, e⟩ := hbase
        cases e
        rw [hcv] at hv
        simp only [Lk.rdOp, Option.bind_eq_some_iff] at hv
        obtain ⟨tm, _, hv⟩ := hv
        obtain ⟨_, d, hd, p1, p2, p3⟩ := const_dv (τ := τ) (cx := cx) (S := S) (w := w) hv
        obtain ⟨t9, m9, x9, sh⟩ := d
        simp only [DV.av, AV.mk.injEq] at hd
        obtain ⟨rfl, rfl, hx⟩ := hd
        cases hx
        refine ⟨ds, sh, rfl, h, p1, ?_, ?_, ?_⟩
        · rw [hcv]; simp only [Act.eval]; rw [p2]; simp [DV.val, DV.cells, cells, valOf, isAggT]
        · intro b hb
          have : b ∈ DV.bl ⟨.l t, .o m, x, sh⟩ := hb
          rw [p3] at this; simp at this
        · show (DV.bl ⟨.l t, .o m, x, sh⟩).Nodup
          rw [p3]; simp
      · rename_i j hj
        split at hbase
        · rename_i s hpl
          rw [Option.map_eq_some_iff] at hbase
          obtain ⟨v, hv, e⟩ := hbase
          cases e
          obtain ⟨d, d', l, p1, p2, p3, p4, p5⟩ := h.place hpl hv
          simp only [DV.at?, at_nil, Option.some.injEq, Prod.mk.injEq] at p2
          obtain ⟨rfl, rfl⟩ := p2
          obtain ⟨t9, m9, x9, sh⟩ := d
          simp only [DV.av, AV.mk.injEq] at p3
          obtain ⟨rfl, rfl, hx⟩ := p3
          cases hx
          refine ⟨dropD ds s, sh, ?_, h.drop s, p5, ?_, ?_, ?_⟩
          · unfold Lk.drop dropD er
            rw [drop_map]
          · rw [hj]; simp only [Act.eval]; rw [p4]; simp [DV.val, DV.cells, cells, valOf, isAggT]
          · intro b hb
            have hbd : b ∈ blocks ds := mem_blocks p1 b hb
            exact ⟨dropD_blocks p1 h.inv.nodup b hb, fun hS => (h.inv.sw b hS).2 hbd, (h.inv.own b hbd).2, (h.inv.own b hbd).1⟩
          · obtain ⟨R, q1, _⟩ := set_perm ds s _ p1
            have := q1.nodup_iff.1 h.inv.nodup
            exact (List.nodup_append.1 this).1
        · cases hbase
      · cases hbase
    · cases hl
  · cases hl

end Lk

namespace Lk
open Go
variable {Kw : World → Prop}
variable {τ : TypeId} {cx : Cx Kw} {S : Nat → Prop} {ds : DSt} {w : World} {P : Program} {env : Env} {a : Act} {o : Oper} {cs : List Bool} {st' : St}

theorem fold_push (x : List UInt8) : ∀ (acc : List UInt8), (x.map fun b => (b.toNat : Int)).foldl (fun r n => r.push (UInt8.ofNat n.toNat)) (ByteArray.mk acc.toArray) = ByteArray.mk (acc ++ x).toArray := by
  induction x with
  | nil => intro acc; simp
  | cons b x ih =>
    intro acc
    simp only [List.map_cons, List.foldl_cons, Int.toNat_natCast]
    have : (ByteArray.mk acc.toArray).push (UInt8.ofNat b.toNat) = ByteArray.mk (acc ++ [b]).toArray := by
      apply ByteArray.ext
      simp [ByteArray.push]
    rw [this, ih]
    simp

theorem by_cells {x : List UInt8} {vs : List Value} (hl : vs.length = x.length) (h : ∀ (i : Nat) (b : UInt8), x[i]? = some b → Rd τ (fun _ => True) w .by b (win vs (i * 1) 1)) : vs = (x.map fun b => (b.toNat : Int)).map (Value.int .u8) := by
  apply List.ext_getElem?
  intro i
  by_cases hi : i < x.length
  · have hx := List.getElem?_eq_getElem hi
    have hr := h i _ hx
    simp only [Rd, Nat.mul_one] at hr
    have : (win vs i 1)[0]? = some (.int .u8 (x[i].toNat : Int)) := by rw [hr]; rfl
    rw [win_get, if_pos (by omega)] at this
    simp only [Nat.add_zero] at this
    rw [this]
    simp [hx]
  · rw [List.getElem?_eq_none (by omega), List.getElem?_eq_none (by simp; omega)]

theorem convS_did {T T' : TypeId} {x : Operand} (hE : EnvOk P env) (ho : o.op = .convert T T' x) (m : Md) (hT' : env.ty T' = some (.s, m))
    (u : AV) (hu : Lk.rdOp env (ds.map er) x T = some u) (hut : u.t = .l .by)
    (h : RelS τ cx S ds a.tmps w) (hl : opL env o (ds.map er) = some (cs, st')) : Did (τ := τ) P cx a o w st' := by
  simp only [opL, ho, Option.bind_eq_some_iff] at hl
  obtain ⟨tm, htm, u', hu', hl⟩ := hl
  rw [hu] at hu'
  cases hu'
  split at hl
  case isFalse => cases hl
  rename_i htt
  rw [Option.bind_eq_some_iff] at hl
  obtain ⟨r, hr, hl⟩ := hl
  obtain ⟨hs, rfl⟩ := ret_some hl
  have hi := h.rdOp (a := a) rfl hu
  have hd0 := hE.ty _ _ _ htm
  have hd := hE.ty _ _ _ hT'
  rw [htt, hut] at hd0
  simp only [Desc] at hd hd0
  obtain ⟨e, i, z, f1, f2, f3, f4, f5, f6⟩ := hd0
  obtain ⟨t, m0, y⟩ := u
  simp only at hut
  subst hut
  simp only [conv, hT'] at hr
  split at hr
  case isFalse => cases hr
  rename_i hnh
  cases hr
  obtain ⟨a0, cap, e1, r1, r2, r3⟩ := hi.row
  obtain ⟨hm, d, hdv, hh, hv⟩ := hi
  obtain ⟨t0, m1, x1, sh⟩ := d
  simp only [DV.av, AV.mk.injEq] at hdv
  obtain ⟨rfl, rfl, hx⟩ := hdv
  cases hx
  have hrd := row_rd (t := .by) rfl hm (fun m' e => by subst e; exact hnh) hh
  obtain ⟨vs, g1, g2, g3, g4⟩ := src_cells (P := P) hrd y.length (Nat.le_refl _)
  have hhd : sh.hd = .slice a0 y.length cap := by
    rw [e1] at hv
    simpa [DV.val, DV.cells, cells, valOf, isAggT] using hv.symm
  have hvs := by_cells (by simpa [csz] using g2) (fun i b hb => g3 i b (lt_of_get hb) hb)
  obtain ⟨ds', q1, q2⟩ := h.setAV (v := strV y) hs (Is.mkS (Nat.le_trans r1 r2)) rfl
  refine ⟨_, _, w, ds', S, ?_, ⟨.inl rfl, fun _ => rfl⟩, q1, q2⟩
  simp only [execOp, ho]
  refine run_value ?_
  rw [e1]
  unfold convert
  rw [Sem.run_bind, run_underlying f1, Result.andThen_ok, Sem.run_bind, run_underlying hd, Result.andThen_ok]
  show Sem.run P (do match ← underlying e with | .int .u8 => Conv.bytesToString (.slice a0 y.length cap) | .int .i32 => _ | _ => _) w = _
  rw [Sem.run_bind, run_underlying f6, Result.andThen_ok]
  show Sem.run P (Conv.bytesToString (.slice a0 y.length cap)) w = _
  cases a0 with
  | none => rw [r3 rfl]; rfl
  | some ad =>
    have hld := g1 w rfl
    rw [hhd] at hld
    simp only [Builtin.firstCells, csz, Nat.mul_one] at hld
    rw [hvs] at hld
    rw [run_bytesToString w ad y.length cap _ hld]
    have := fold_push y []
    simp only [List.nil_append] at this
    show Result.ok (Value.string _) w = _
    rw [show ByteArray.empty = ByteArray.mk ([] : List UInt8).toArray from rfl, this]
    rfl

theorem range_did {T : TypeId} {x : Operand} (hE : EnvOk P env) (ho : o.op = .range T x)
    (h : RelS τ cx S ds a.tmps w) (hl : opL env o (ds.map er) = some (cs, st')) : Did (τ := τ) P cx a o w st' := by
  simp only [opL, ho, Option.bind_eq_some_iff] at hl
  obtain ⟨v, hv, hl⟩ := hl
  split at hl
  · rename_i m m0 x0 hT
    obtain ⟨hs, rfl⟩ := ret_some hl
    obtain ⟨e1, r1⟩ := (h.rdOp (a := a) rfl hv).str
    have hd := hE.ty _ _ _ hT
    simp only [Desc] at hd
    let w' : World := { w with heap := w.heap.push (.stringIter ⟨x0.toArray⟩ 0) }
    have hg : Grows w w' := Grows.push w _
    obtain ⟨ds', q1, q2⟩ := (h.grows hg).setD (e := .it x0 0 w.heap.size) (v := .pointer (some ⟨w.heap.size, 0, none⟩)) hs ⟨rfl, by simp [w'], r1⟩ (by simp [Ent.bl]) (fun b hb => by
      simp only [Ent.bl, List.mem_singleton] at hb
      subst hb
      refine ⟨by simp [w'], .inr h.inv.ext.size, fun hS => ?_, fun hB => ?_⟩
      · have := (h.inv.sw _ hS).1; omega
      · have := (h.inv.own _ hB).1; omega)
    refine ⟨_, _, w', ds', S, ?_, ⟨.inl rfl, fun hst => by simp [still, *] at hst⟩, q1, q2⟩
    simp only [execOp, ho]
    refine run_value ?_
    rw [e1]
    unfold Instr.range
    simp only [Sem.run_bind, run_underlying hd, Result.andThen_ok, strV, Sem.run_pure, newObj]
    rfl
  · cases hl

end Lk

namespace Lk
open Go
variable {Kw : World → Prop}
variable {τ : TypeId} {cx : Cx Kw} {S : Nat → Prop} {ds : DSt} {w : World} {P : Program} {env : Env} {a : Act} {o : Oper} {cs : List Bool} {st' : St}

def compBl (o : Option DV) : List Nat := match o with | some d => d.bl | none => []

theorem tup_bl (vs : List (Option DV)) : (Ent.tup vs : Ent DV Nat).bl = (vs.map compBl).flatten := rfl

theorem tup_part {vs : List (Option DV)} {j : Nat} {d : DV} (h : vs[j]? = some (some d)) :
    ∃ R, (Ent.tup vs : Ent DV Nat).bl.Perm (d.bl ++ R) ∧ (Ent.tup (vs.set j none) : Ent DV Nat).bl.Perm R := by
  have hk := lt_of_get h
  have e1 : vs = vs.take j ++ some d :: vs.drop (j + 1) := by
    rw [List.getElem?_eq_getElem hk, Option.some.injEq] at h
    rw [← h, ← List.drop_eq_getElem_cons hk, List.take_append_drop]
  refine ⟨((vs.take j).map compBl).flatten ++ ((vs.drop (j + 1)).map compBl).flatten, ?_, ?_⟩
  · rw [tup_bl]
    conv => lhs; rw [e1]
    simp only [List.map_append, List.map_cons, List.flatten_append, List.flatten_cons, compBl]
    exact List.perm_append_comm_assoc ..
  · rw [tup_bl, List.set_eq_take_append_cons_drop, if_pos hk]
    simp only [List.map_append, List.map_cons, List.flatten_append, List.flatten_cons, compBl, List.nil_append]
    exact List.Perm.refl _

theorem extract_did {i j : Nat} (ho : o.op = .extract (.tmp i) j)
    (h : RelS τ cx S ds a.tmps w) (hl : opL env o (ds.map er) = some (cs, st')) : Did (τ := τ) P cx a o w st' := by
  simp only [opL, ho] at hl
  split at hl
  · rename_i vs hg
    obtain ⟨vs0, h0, rfl⟩ := er_tup hg
    split at hl
    · rename_i v hv
      rw [List.getElem?_map, Option.map_eq_some_iff] at hv
      obtain ⟨o0, hv0, hv1⟩ := hv
      cases o0 with
      | none => cases hv1
      | some d =>
        simp only [Option.map_some, Option.some.injEq] at hv1
        subst hv1
        obtain ⟨ws, q1, q2, q3⟩ := h.ok i _ h0
        obtain ⟨r1, r2⟩ := q3 j d hv0
        have hrun : (execOp a.eval o).run P w = .ok (.value (d.val τ)) w := by
          simp only [execOp, ho]
          refine run_value ?_
          simp only [Act.eval, q1, Instr.extract, r2]
          rfl
        split at hl
        · cases hl
        · rename_i hdi
          split at hl
          · rename_i hcp
            obtain ⟨hs, rfl⟩ := ret_some hl
            obtain ⟨ds', k1, k2⟩ := h.setD (e := .av d) (v := d.val τ) hs ⟨r1, rfl⟩ (by rw [show (Ent.av d : Ent DV Nat).bl = d.bl from rfl, show d.bl = [] from cp_bl _ _ _ _ hcp]; simp) (by rw [show (Ent.av d : Ent DV Nat).bl = d.bl from rfl, show d.bl = [] from cp_bl _ _ _ _ hcp]; simp)
            exact ⟨_, _, w, ds', S, hrun, ⟨.inl rfl, fun _ => rfl⟩, k1, k2⟩
          · obtain ⟨hs, rfl⟩ := ret_some hl
            obtain ⟨R, p1, p2⟩ := tup_part hv0
            obtain ⟨R2, s1, s2⟩ := set_perm ds _ _ h0
            let e2 : Ent DV Nat := .tup (vs0.set j none)
            have hbs : (blocks (ds.set i e2)).Perm (R ++ R2) := (s2 e2).trans (p2.append_right _)
            have hb0 : (blocks ds).Perm (d.bl ++ (R ++ R2)) := by
              refine s1.trans ?_
              rw [← List.append_assoc]
              exact p1.append_right _
            have hnd := hb0.nodup_iff.1 h.inv.nodup
            have hsub : ∀ b ∈ blocks (ds.set i e2), b ∈ blocks ds := fun b hb => hb0.symm.subset (by have := hbs.subset hb; simp only [List.mem_append] at this ⊢; exact .inr this)
            have h1 : RelS τ cx S (ds.set i e2) a.tmps w := by
              refine ⟨by simp [h.size], h.inv.fewer hsub (by rw [hbs.nodup_iff]; exact (List.nodup_append.1 hnd).2.1), fun k e' he => ?_⟩
              have hkeep : ∀ (s : Nat) (dd : DV), ds[s]? = some (Ent.av dd) → (ds.set i e2)[s]? = some (Ent.av dd) := fun s dd hd => by
                rw [List.getElem?_set]
                split
                · rename_i e1; subst e1; rw [h0] at hd; cases hd
                · exact hd
              rw [List.getElem?_set] at he
              split at he
              · split at he
                · rename_i e1 _; subst e1; cases he
                  refine ⟨ws, q1, by simpa using q2, fun j' d' hj' => ?_⟩
                  rw [List.getElem?_set] at hj'
                  split at hj'
                  · split at hj' <;> cases hj'
                  · exact q3 j' d' hj'
                · cases he
              · exact ok_roots (h.ok k _ he) (fun s dd _ hd => hkeep s dd hd)
            have hes : (ds.map er).set i (.tup ((vs0.map (Option.map DV.av)).set j none)) = (ds.set i e2).map er := by
              rw [List.map_set]
              congr 1
              simp only [e2, er, Ent.map, List.map_set]
              rfl
            rw [hes] at hs
            obtain ⟨ds', k1, k2⟩ := h1.setD (e := .av d) (v := d.val τ) hs ⟨r1, rfl⟩ (List.nodup_append.1 hnd).1 (fun b hb => by
              have hbB : b ∈ blocks ds := hb0.symm.subset (by simp [show b ∈ d.bl from hb])
              refine ⟨(h.inv.own b hbB).1, (h.inv.own b hbB).2, fun hS => (h.inv.sw b hS).2 hbB, fun hB => ?_⟩
              exact (List.nodup_append.1 hnd).2.2 b hb b (hbs.subset hB) rfl)
            exact ⟨_, _, w, ds', S, hrun, ⟨.inl rfl, fun _ => rfl⟩, k1, k2⟩
    · cases hl
  · cases hl

end Lk

namespace Lk
open Go
variable {Kw : World → Prop}
variable {τ : TypeId} {cx : Cx Kw} {S : Nat → Prop} {ds : DSt} {w : World} {P : Program} {env : Env} {a : Act} {o : Oper} {cs : List Bool} {st' : St}

theorem decode_lt (s : ByteArray) (i : Nat) : (Utf8.decode s i).1 < 2097152 := by
  unfold Utf8.decode
  simp only []
  split
  · rename_i h; simp only [Nat.add_zero] at *; omega
  · split
    · split
      · simp; omega
      · simp [Utf8.runeError]
    · split
      · split
        · simp; omega
        · simp [Utf8.runeError]
      · split
        · split
          · simp; omega
          · simp [Utf8.runeError]
        · simp [Utf8.runeError]

theorem hold_int {S Sb : Nat → Prop} {k : IntKind} {n : Int} (h : inR k n) : DV.hold τ S Sb w ⟨.i k, .r, n, ()⟩ := ⟨rfl, h⟩

theorem er_it {i : Nat} {x : List UInt8} {pos : Nat} (h : (ds.map er).getD i .dead = .it x pos ()) : ∃ b, ds[i]? = some (.it x pos b) := by
  rw [List.getD_eq_getElem?_getD, List.getElem?_map] at h
  cases h0 : ds[i]? with
  | none => rw [h0] at h; cases h
  | some e0 =>
    rw [h0] at h
    cases e0 <;> simp [er, Ent.map] at h
    obtain ⟨rfl, rfl⟩ := h
    exact ⟨_, rfl⟩

theorem next_did {t : Bool} {s1 s2 : Option St} (hl : nextL o (ds.map er) = some (t, s1, s2)) (h : RelS τ cx S ds a.tmps w) (hs : (if t then s1 else s2) = some st') : Did (τ := τ) P cx a o w st' := by
  unfold nextL at hl
  split at hl
  · rename_i i ho
    split at hl
    · rename_i x pos hg
      split at hl
      · cases hl
      · rename_i hdi
        simp only [Option.some.injEq, Prod.mk.injEq] at hl
        obtain ⟨rfl, rfl, rfl⟩ := hl
        obtain ⟨b, h0⟩ := er_it hg
        obtain ⟨q1, q2, q3⟩ := h.ok i _ h0
        have hbB : b ∈ blocks ds := mem_blocks h0 b (by simp [Ent.bl])
        have hbl := (h.inv.own b hbB).1
        have hev : a.eval (.tmp i) = .pointer (some ⟨b, 0, none⟩) := q1
        have hgo : ∀ (w : World), w.heap[b]? = some (.stringIter ⟨x.toArray⟩ pos) → (getObj b).run P w = .ok (.stringIter ⟨x.toArray⟩ pos) w := by
          intro w hw; simp [getObj, Sem.run, hw]
        by_cases hp : pos < x.length
        · simp only [hp, decide_true, if_true] at hs
          let w' : World := { w with heap := w.heap.setIfInBounds b (.stringIter ⟨x.toArray⟩ (pos + (Utf8.decode ⟨x.toArray⟩ pos).2)) }
          have hw'b : w'.heap[b]? = some (.stringIter ⟨x.toArray⟩ (pos + (Utf8.decode ⟨x.toArray⟩ pos).2)) := by
            simp only [w', Array.getElem?_setIfInBounds, if_true]
            rw [if_pos hbl]
          have hw'o : ∀ b', b' ≠ b → w'.heap[b']? = w.heap[b']? := by
            intro b' hb'
            simp only [w', Array.getElem?_setIfInBounds]
            rw [if_neg (fun e => hb' e.symm)]
          have h1 := h.away h0 (by intro d e; cases e)
          obtain ⟨R, p1, p2⟩ := set_perm ds _ _ h0
          have hnd := p1.nodup_iff.1 h.inv.nodup
          have hnb : b ∉ blocks (ds.set i .dead) := fun hb => by
            have := (p2 .dead).subset hb
            simp only [Ent.bl, List.nil_append] at this
            exact (List.nodup_append.1 hnd).2.2 b (by simp [Ent.bl]) b this rfl
          have hext : Ext [b] w w' := ⟨rfl, rfl, rfl, by simp [w'], fun b' _ hn => hw'o b' (by simpa using hn)⟩
          have h2 := h1.chg hext (fun b' hb' => by
            simp only [List.mem_singleton] at hb'
            subst hb'
            exact ⟨hnb, fun hS => (h.inv.sw _ hS).2 hbB, (h.inv.own _ hbB).2⟩)
          -- the iterator comes back
          let e2 : Ent DV Nat := .it x (pos + (Utf8.decode ⟨x.toArray⟩ pos).2) b
          have hbs : (blocks (ds.set i e2)).Perm (blocks ds) := (p2 e2).trans p1.symm
          have h3 : RelS τ cx S (ds.set i e2) a.tmps w' := by
            refine ⟨by simp [h.size], ⟨h2.inv.ext, h2.inv.s0, h2.inv.s1, fun b' hb' => ⟨(h2.inv.sw b' hb').1, fun hc => (h.inv.sw b' hb').2 (hbs.subset hc)⟩, fun b' hb' => ⟨by simp only [w', Array.size_setIfInBounds]; exact (h.inv.own b' (hbs.subset hb')).1, (h.inv.own b' (hbs.subset hb')).2⟩, by rw [hbs.nodup_iff]; exact h.inv.nodup⟩, fun k e' he => ?_⟩
            rw [List.getElem?_set] at he
            split at he
            · split at he
              · rename_i e1 _; subst e1; cases he
                exact ⟨q1, hw'b, q3⟩
              · cases he
            · rename_i hne
              refine ok_roots (h2.ok k e' (by rw [List.getElem?_set_ne hne]; exact he)) (fun s dd _ hd => ?_)
              rw [List.getElem?_set] at hd ⊢
              split at hd
              · split at hd <;> cases hd
              · rename_i hne2; rw [if_neg hne2]; exact hd
          have hes : (ds.map er).set i (.it x (pos + (Utf8.decode ⟨x.toArray⟩ pos).2) ()) = (ds.set i e2).map er := by
            rw [List.map_set]; rfl
          rw [hes] at hs
          have hd := decode_lt ⟨x.toArray⟩ pos
          obtain ⟨ds', k1, k2⟩ := h3.setD (e := .tup [some ⟨.b, .r, true, ()⟩, some ⟨.i .i64, .r, (pos : Int), ()⟩, some ⟨.i .i32, .r, ((Utf8.decode ⟨x.toArray⟩ pos).1 : Int), ()⟩])
            (v := .tuple #[.bool true, .int .i64 pos, .int .i32 (Utf8.decode ⟨x.toArray⟩ pos).1]) hs
            ⟨_, rfl, rfl, fun j d hj => by
              match j, hj with
              | 0, hj => simp at hj; subst hj; exact ⟨by simp [DV.hold, hold, Rd, cells], rfl⟩
              | 1, hj => simp at hj; subst hj; exact ⟨hold_int (by simp only [inR, kmin, kmax, big] at *; omega), rfl⟩
              | 2, hj => simp at hj; subst hj; exact ⟨hold_int (by simp only [inR, kmin, kmax]; omega), rfl⟩⟩
            (by simp [Ent.bl, DV.bl, bl]) (by simp [Ent.bl, DV.bl, bl])
          refine ⟨_, _, w', ds', S, ?_, ⟨.inl rfl, fun hst => by simp [still, *] at hst⟩, k1, k2⟩
          simp only [execOp, ho]
          refine run_value ?_
          rw [hev]
          unfold Instr.next
          simp only [Sem.run_bind, hgo w q2, Result.andThen_ok]
          rw [if_pos (by rw [size_mk]; exact hp)]
          have hset : (setObj b (.stringIter ⟨x.toArray⟩ (pos + (Utf8.decode ⟨x.toArray⟩ pos).2))).run P w = .ok () w' := by
            simp [setObj, Sem.run, q2, w']
          simp only [Sem.run_bind, hset, Result.andThen_ok]
          rfl
        · simp only [hp, decide_false, Bool.false_eq_true, if_false] at hs
          obtain ⟨ds', k1, k2⟩ := h.setD (e := .tup [some ⟨.b, .r, false, ()⟩]) (v := .tuple #[.bool false]) hs
            ⟨_, rfl, rfl, fun j d hj => by
              match j, hj with
              | 0, hj => simp at hj; subst hj; exact ⟨by simp [DV.hold, hold, Rd, cells], rfl⟩⟩
            (by simp [Ent.bl, DV.bl, bl]) (by simp [Ent.bl, DV.bl, bl])
          refine ⟨_, _, w, ds', S, ?_, ⟨.inl rfl, fun _ => rfl⟩, k1, k2⟩
          simp only [execOp, ho]
          refine run_value ?_
          rw [hev]
          unfold Instr.next
          simp only [Sem.run_bind, hgo w q2, Result.andThen_ok]
          rw [if_neg (by rw [size_mk]; exact hp)]
          rfl
    · cases hl
  · cases hl

end Lk

namespace Lk
open Go
variable {Kw : World → Prop}
variable {τ : TypeId} {cx : Cx Kw} {S : Nat → Prop} {ds : DSt} {w : World} {P : Program} {env : Env} {a : Act} {o : Oper} {cs : List Bool} {st' : St}

theorem foldl_set (vs : List Value) : ∀ (k : Nat) (off : Nat) (cs : Array Value), off + k + vs.length ≤ cs.size →
    ((vs.zipIdx k).foldl (fun cs (cj : Value × Nat) => cs.setIfInBounds (off + cj.2) cj.1) cs).toList = splice cs.toList (off + k) vs := by
  induction vs with
  | nil => intro k off cs h; simp [splice]
  | cons v vs ih =>
    intro k off cs h
    simp only [List.length_cons] at h
    simp only [List.zipIdx_cons, List.foldl_cons]
    rw [ih (k + 1) off _ (by simp; omega)]
    simp only [Array.toList_setIfInBounds]
    apply List.ext_getElem?
    intro j
    have l1 : (cs.toList.set (off + k) v).length = cs.size := by simp
    have e1 := splice_get (cs.toList.set (off + k) v) (off + (k + 1)) vs j (by rw [l1]; omega)
    have e2 := splice_get cs.toList (off + k) (v :: vs) j (by simp; omega)
    rw [e1, e2, List.getElem?_set]
    simp only [List.length_cons, Array.length_toList]
    by_cases c1 : j < off + k
    · rw [if_pos (show j < off + (k + 1) by omega), if_pos c1, if_neg (show ¬ (off + k = j) by omega)]
    · rw [if_neg c1]
      by_cases c2 : j = off + k
      · subst c2
        rw [if_pos (show off + k < off + (k + 1) by omega), if_pos (rfl : off + k = off + k), if_pos (show off + k < cs.size by omega), if_pos (show off + k < off + k + (vs.length + 1) by omega)]
        simp
      · rw [if_neg (show ¬ j < off + (k + 1) by omega)]
        by_cases c3 : j < off + k + (vs.length + 1)
        · rw [if_pos (show j < off + (k + 1) + vs.length by omega), if_pos c3]
          have : j - (off + k) = (j - (off + (k + 1))) + 1 := by omega
          rw [this]; simp
        · rw [if_neg (show ¬ j < off + (k + 1) + vs.length by omega), if_neg c3, if_neg (show ¬ (off + k = j) by omega)]

theorem fill_ok (n size : Nat) : ∀ (vals : List Value) (k : Nat) (cs : Array Value), cs.size = n * size → k + vals.length ≤ n → (∀ v ∈ vals, v.cells.size = size) →
    ∃ cs', Instr.fill (fun i => some (i * size, size)) cs ((vals.zipIdx k).map fun vi => (vi.2, vi.1)) = some cs' ∧ cs'.size = n * size ∧
      (∀ j, j < k → win cs'.toList (j * size) size = win cs.toList (j * size) size) ∧ ∀ (j : Nat) (v : Value), vals[j]? = some v → win cs'.toList ((k + j) * size) size = v.cells.toList
  | [], k, cs, hs, _, _ => ⟨cs, rfl, hs, fun _ _ => rfl, by simp⟩
  | v :: vals, k, cs, hs, hk, hv => by
    simp only [List.length_cons] at hk
    have hvs := hv v (by simp)
    have hk1 : k * size + size ≤ n * size := by rw [← Nat.succ_mul]; exact Nat.mul_le_mul_right _ (by omega)
    let cs1 := v.cells.zipIdx.foldl (fun cs (cj : Value × Nat) => cs.setIfInBounds (k * size + cj.2) cj.1) cs
    have hcs1 : cs1.toList = splice cs.toList (k * size) v.cells.toList := by
      have := foldl_set v.cells.toList 0 (k * size) cs (by simp; omega)
      simp only [cs1]
      rw [← Array.foldl_toList, Array.toList_zipIdx]
      simpa using this
    have hl1 : cs1.size = n * size := by
      have := splice_length cs.toList (k * size) v.cells.toList (by simp; omega)
      rw [← hcs1] at this
      simpa [hs] using this
    obtain ⟨cs', g1, g2, g3, g4⟩ := fill_ok n size vals (k + 1) cs1 hl1 (by omega) (fun u hu => hv u (by simp [hu]))
    refine ⟨cs', ?_, g2, fun j hj => ?_, fun j u hu => ?_⟩
    · simp only [List.zipIdx_cons, List.map_cons, Instr.fill]
      rw [if_neg (by simp only [hvs, hs, ne_eq, not_true, decide_false, Bool.false_or, decide_eq_true_eq]; omega)]
      exact g1
    · rw [g3 j (by omega), hcs1]
      refine win_splice_other _ _ _ _ _ (by simp; omega) (.inl ?_)
      rw [← Nat.succ_mul]; exact Nat.mul_le_mul_right _ hj
    · cases j with
      | zero =>
        simp only [List.getElem?_cons_zero, Option.some.injEq] at hu
        subst hu
        rw [Nat.add_zero, g3 k (by omega), hcs1]
        have := win_splice_same cs.toList (k * size) v.cells.toList (by simp; omega)
        simpa [hvs] using this
      | succ j =>
        have := g4 j u (by simpa using hu)
        rwa [show k + 1 + j = k + (j + 1) by omega] at this

theorem parts_ok {T : TypeId} {t : Ty} (h : RelS τ cx S ds a.tmps w) (hf : flat t = true) : ∀ (ps : List (Nat × Operand)) (n : Nat) (r : List (E t)), parts env (ds.map er) T t ps n = some r →
    ∃ vals : List Value, ps.map (fun p => (p.1, a.eval p.2)) = (vals.zipIdx n).map (fun vi => (vi.2, vi.1)) ∧ vals.length = r.length ∧ (∀ v ∈ vals, v.cells.size = csz t) ∧
      ∀ (j : Nat) (v : Value) (x : E t), vals[j]? = some v → r[j]? = some x → Rd τ S w t x v.cells.toList
  | [], n, r, hp => by cases hp; exact ⟨[], rfl, rfl, by simp, by simp⟩
  | (i, x) :: ps, n, r, hp => by
    simp only [parts] at hp
    split at hp
    · rename_i hin
      subst hin
      rw [Option.bind_eq_some_iff] at hp
      obtain ⟨v, hv, hp⟩ := hp
      split at hp
      · rename_i ht
        split at hp
        · rename_i hcp
          rw [Option.map_eq_some_iff] at hp
          obtain ⟨r', hr', rfl⟩ := hp
          obtain ⟨vals, g1, g2, g3, g4⟩ := parts_ok h hf ps (i + 1) r' hr'
          have hIs : Is (τ := τ) cx S w v (a.eval x) := by
            split at hv
            · exact h.look hv
            · exact is_const hv
            · cases hv
          obtain ⟨_, d, rfl, hd, hval⟩ := hIs
          obtain ⟨t0, m0, x0, sh⟩ := d
          have ht' : t0 = t := ht
          subst ht'
          have hrd := flat_rd (S' := S) (w' := w) _ _ _ _ hf (cp_nh _ _ hcp) hd
          have hlen := cells_length τ t0 x0 sh
          have hpl := Rd_plain _ _ _ hrd
          have hcl : (a.eval x).cells.toList = cells τ t0 x0 sh := by rw [hval]; exact val_cells hlen hpl
          show ∃ vals : List Value, _ ∧ vals.length = (x0 :: r').length ∧ _ ∧ ∀ (j : Nat) (v : Value) (x : E t0), vals[j]? = some v → (x0 :: r')[j]? = some x → _
          refine ⟨a.eval x :: vals, ?_, by simp [g2], ?_, fun j u y hu hy => ?_⟩
          · simp only [List.map_cons, List.zipIdx_cons, g1]
          · intro u hu
            rcases List.mem_cons.1 hu with rfl | hu
            · rw [← Array.length_toList, hcl, hlen]
            · exact g3 u hu
          · cases j with
            | zero =>
              simp only [List.getElem?_cons_zero, Option.some.injEq] at hu hy
              subst hu; subst hy
              rw [hcl]; exact hrd
            | succ j => exact g4 j u y (by simpa using hu) (by simpa using hy)
        · cases hp
      · cases hp
    · cases hp

theorem buildSlice_did {T : TypeId} {n : Nat} {ps : Array (Nat × Operand)} (hE : EnvOk P env) (ho : o.op = .buildSlice T n ps)
    (h : RelS τ cx S ds a.tmps w) (hl : opL env o (ds.map er) = some (cs, st')) : Did (τ := τ) P cx a o w st' := by
  simp only [opL, ho] at hl
  split at hl
  · rename_i t m hT
    rw [Option.bind_eq_some_iff] at hl
    obtain ⟨r, hr, hl⟩ := hl
    split at hl
    · rename_i hcond
      obtain ⟨hrn, hmn, hmax, hf⟩ := hcond
      obtain ⟨hs, rfl⟩ := ret_some hl
      have hd := hE.ty _ _ _ hT
      simp only [Desc] at hd
      obtain ⟨e, i, z, f1, f2, f3, f4, f5, f6⟩ := hd
      obtain ⟨vals, g1, g2, g3, g4⟩ := parts_ok h hf ps.toList 0 r hr
      let zero : Array Value := if n * csz t = 0 then #[] else z.cells
      let base : Array Value := (Array.range (n * csz t)).map (zero[· % zero.size]!)
      have hbase : base.size = n * csz t := by simp [base]
      obtain ⟨cs', q1, q2, _, q4⟩ := fill_ok n (csz t) vals 0 base hbase (by omega) g3
      let w' : World := { w with heap := w.heap.push (.cells cs' e) }
      have hg : Grows w w' := Grows.push w _
      obtain ⟨sh, k1, k2, k3⟩ := flat_row (τ := τ) (S := S) (Sb := fun b => S b ∨ cx.Sb b) (w := w') (t := t) (m := m) (x := r) (b := w.heap.size) (off := 0) (cap := n)
        (C := cs'.toList) (e := e) (f := (0, 0)) hf (by simp [w']) (thaw_zero _) (by omega) (by simp only [big]; omega) (by simp [q2]) (fun j y hy => by
          have hj := lt_of_get hy
          have hv : vals[j]? = some vals[j] := List.getElem?_eq_getElem (by omega)
          have := q4 j _ hv
          rw [Nat.zero_add] at this ⊢
          rw [this]
          exact Rd_keep τ (fun b hb => ⟨hb, hg.block b (h.inv.sw b (.inl hb)).1⟩) _ _ _ (g4 j _ y hv hy))
      obtain ⟨ds', u1, u2⟩ := h.fresh (d := ⟨.l t, .o m, r, sh⟩) (n := w.heap.size) hg hs rfl k1 (.inl k2) ⟨Nat.le_refl _, by simp [w']⟩
      have hv : DV.val τ ⟨.l t, .o m, r, sh⟩ = .slice (some ⟨w.heap.size, 0, none⟩) n n := by
        simp [DV.val, DV.cells, cells, valOf, isAggT, k3, hrn]
      refine ⟨_, _, w', ds', S, ?_, ⟨.inl rfl, fun hst => by simp [still, *] at hst⟩, u1, by rw [hv] at u2; exact u2⟩
      simp only [execOp, ho]
      refine run_value ?_
      unfold Instr.buildSlice
      have hps : (ps.map fun p => (p.1, a.eval p.2)).toList = (vals.zipIdx 0).map (fun vi => (vi.2, vi.1)) := by
        rw [Array.toList_map]; exact g1
      simp only [Sem.run_bind, run_underlying f1, Result.andThen_ok, run_sizeOf f2, f3]
      rw [if_neg (by omega)]
      by_cases h0 : n * csz t = 0
      · have hz0 : zero = #[] := if_pos h0
        have hb : base = (Array.range (n * csz t)).map (fun x => (#[] : Array Value)[x % (#[] : Array Value).size]!) := by simp only [base, hz0]
        rw [if_pos h0]
        simp only [Sem.run_bind, Sem.run_pure, Result.andThen_ok]
        rw [← hb, hps, q1]
        rfl
      · have hz0 : zero = z.cells := if_neg h0
        have hb : base = (Array.range (n * csz t)).map (fun x => z.cells[x % z.cells.size]!) := by simp only [base, hz0]
        rw [if_neg h0]
        simp only [Sem.run_bind, Sem.run_pure, Result.andThen_ok, run_zero f2 f4]
        rw [← hb, hps, q1]
        rfl
    · cases hl
  · cases hl

end Lk

namespace Lk
open Go
variable {Kw : World → Prop}
variable {τ : TypeId} {cx : Cx Kw} {S : Nat → Prop} {ds : DSt} {w : World} {P : Program} {env : Env} {a : Act} {o : Oper} {cs : List Bool} {st' : St}

/-- WHAT L SAYS OF AN OPERATION, THE MACHINE DOES. -/
theorem opL_ok (hE : EnvOk P env) (h : RelS τ cx S ds a.tmps w) (hl : opL env o (ds.map er) = some (cs, st')) (hc : ∀ c ∈ cs, c = true) : Did (τ := τ) P cx a o w st' := by
  cases ho : o.op with
  | move x => exact mv_did (.inl ho) h hl
  | assign x => exact mv_did (.inr ho) h hl
  | pick c x y => exact pick_did ho h hl hc
  | binOp op T x y T' => exact bin_did hE ho h hl hc
  | unOp op T x => exact un_did ho h hl
  | convert T T' x =>
    cases hT' : env.ty T' with
    | none =>
      simp only [opL, ho, Option.bind_eq_some_iff] at hl
      obtain ⟨tm, _, u, _, hl⟩ := hl
      split at hl
      · simp [conv, hT'] at hl
      · cases hl
    | some tm =>
      obtain ⟨t', m'⟩ := tm
      by_cases hl' : ∃ t0, t' = .l t0
      · obtain ⟨t0, rfl⟩ := hl'
        by_cases hu : t0 = .by
        · subst hu
          cases m' with
          | o m => exact convB_did hE ho hT' h hl
          | _ =>
            simp only [opL, ho, Option.bind_eq_some_iff] at hl
            obtain ⟨tm, _, u, _, hl⟩ := hl
            split at hl
            · simp [conv, hT'] at hl
            · cases hl
        · simp only [opL, ho, Option.bind_eq_some_iff] at hl
          obtain ⟨tm, _, v, _, hl⟩ := hl
          split at hl
          · exfalso
            rw [Option.bind_eq_some_iff] at hl
            obtain ⟨r, hr, _⟩ := hl
            unfold conv at hr
            rw [hT'] at hr
            cases t0 <;> first | exact hu rfl | cases hr
          · cases hl
      · have hby : ∀ t m, env.ty T' ≠ some (.l t, m) := fun t m e => hl' ⟨t, by rw [hT'] at e; cases e; rfl⟩
        by_cases hs : ∃ u t, rdOp env (ds.map er) x T = some u ∧ u.t = .l t
        · obtain ⟨u, t, hu, hut⟩ := hs
          by_cases htb : t = .by ∧ t' = .s
          · obtain ⟨rfl, rfl⟩ := htb
            exact convS_did hE ho m' hT' u hu hut h hl
          · exfalso
            simp only [opL, ho, Option.bind_eq_some_iff] at hl
            obtain ⟨tm, _, u', hu', hl⟩ := hl
            rw [hu] at hu'; cases hu'
            split at hl
            · rw [Option.bind_eq_some_iff] at hl
              obtain ⟨r, hr, _⟩ := hl
              obtain ⟨tt, mm, xx⟩ := u
              simp only at hut
              subst hut
              unfold conv at hr
              rw [hT'] at hr
              cases t' <;> simp [asI] at hr
              · cases t <;> simp at hr htb
              · exact hl' ⟨_, rfl⟩
            · cases hl
        · exact conv_did hE ho hby (fun u t hu hut => hs ⟨u, t, hu, hut⟩) h hl
  | index T x i => exact index_did hE ho h hl hc
  | slice T x lo hi mx =>
    cases mx with
    | none => exact slice_did hE ho h hl hc
    | some _ => simp [opL, ho] at hl
  | extract x j =>
    cases x with
    | tmp i => exact extract_did ho h hl
    | _ => simp [opL, ho] at hl
  | indexAddr T x i =>
    cases x with
    | tmp j => exact indexAddr_did hE ho h hl hc
    | _ => simp [opL, ho] at hl
  | load T x =>
    cases x with
    | tmp j => exact load_did hE ho h hl
    | _ => simp [opL, ho] at hl
  | store T x y =>
    cases x with
    | tmp j => exact store_did hE ho h hl
    | _ => simp [opL, ho] at hl
  | buildSlice T n ps => exact buildSlice_did hE ho h hl
  | range T x => exact range_did hE ho h hl
  | call c =>
    cases hb : c.callee with
    | builtin b =>
      cases b with
      | len => exact len_did hE ho hb h hl
      | min => exact min_did ho hb h hl
      | max => exact max_did ho hb h hl
      | append => exact append_did hE ho hb h hl hc
      | _ => simp [opL, ho, hb] at hl
    | _ => simp [opL, ho, hb] at hl
  | _ => simp [opL, ho] at hl

end Lk

/-! L: regions, code, functions. -/
namespace Lk
open Go

@[reducible] def Tup : List (Ty × Md) → Type
  | [] => Unit
  | p :: ps => E p.1 × Tup ps

/-- What is looked up by a number. -/
inductive BT (α : Type)
  | leaf
  | node (l : BT α) (k : Nat) (v : α) (r : BT α)

def BT.get {α : Type} : BT α → Nat → Option α
  | .leaf, _ => none
  | .node l k v r, i => bif Nat.beq i k then some v else bif Nat.ble i k then l.get i else r.get i

def BT.toList {α : Type} : BT α → List (Nat × α)
  | .leaf => []
  | .node l k v r => l.toList ++ (k, v) :: r.toList

theorem BT.get_mem {α : Type} {i : Nat} {v : α} : ∀ {t : BT α}, t.get i = some v → (i, v) ∈ t.toList
  | .leaf, h => by simp [BT.get] at h
  | .node l k v' r, h => by
    simp only [BT.get] at h
    simp only [BT.toList, List.mem_append, List.mem_cons]
    cases h1 : Nat.beq i k with
    | true =>
      rw [h1] at h
      simp only [cond_true, Option.some.injEq] at h
      have := Nat.eq_of_beq_eq_true h1
      subst this; subst h
      exact .inr (.inl rfl)
    | false =>
      rw [h1] at h
      simp only [cond_false] at h
      cases h2 : Nat.ble i k with
      | true => rw [h2] at h; exact .inl (BT.get_mem h)
      | false => rw [h2] at h; exact .inr (.inr (BT.get_mem h))

def avs : (ps : List (Ty × Md)) → Tup ps → List AV
  | [], _ => []
  | p :: ps, x => ⟨p.1, p.2, x.1⟩ :: avs ps x.2

structure Sig where
  ps : List (Ty × Md)
  rs : List (Ty × Md)

structure Prg extends Env where
  sig : FuncId → Sig
  body : FuncId → Option Func
  /-- a function that is told from without, with the rounds that it may take -/
  ext : (f : FuncId) → Option (Nat → Tup (sig f).ps → Option (Tup (sig f).rs))
  /-- the slots that live at a loop's head, or where ways meet: by function and the first region there -/
  live : FuncId → Nat → Option (List Nat)

/-- A test: yes, no. -/
def sel {α : Type} (c : Bool) (x y : α) : α := bif c then x else y

def guardAll {α : Type} : List Bool → Option α → Option α
  | [], k => k
  | c :: cs, k => sel c (guardAll cs k) none

def obind {α β : Type} (x : Option α) (f : α → Option β) : Option β := x.bind f

inductive Xit
  | normal | exit (id : Nat) | ret

def arg1 (st : St) (p : Ty × Md) (x : Operand) : Option (E p.1) :=
  (match x with | .tmp i => look st i | .const c => constAV p.1 (.o .r) c | _ => none).bind fun v => if h : v.t = p.1 then
    match p.2 with
    | .b => if v.m.solid then some (h ▸ v.x) else none
    | .r => if flat v.t && nh v.t v.m then some (h ▸ v.x) else none
    | _ => none
  else none

def argsL (st : St) : (ps : List (Ty × Md)) → List Operand → Option (Tup ps)
  | [], [] => some ()
  | p :: ps, x :: xs => (arg1 st p x).bind fun v => (argsL st ps xs).map fun r => (v, r)
  | _, _ => none

/-- What a call's results are, in a slot. -/
def resE (vs : List AV) : Ent AV Unit := match vs with
  | [v] => .av v
  | vs => .tup (vs.map some)

def memb (l : List Nat) (i : Nat) : Bool := l.any (Nat.beq i)

/-- What leads to a slot that dies is turned to one that lives. -/
def turn {V B : Type} (live : List Nat) (st : List (Ent V B)) : List (Ent V B) :=
  live.foldl (fun st i => match (st.getD i .dead).root with | some s => bif memb live s then st else kill s st | none => st) st

def keeps {V B : Type} (live : List Nat) (i : Nat) (e : Ent V B) : Bool :=
  bif memb live i then (match e.root with | none => true | some s => memb live s) else false

def maskGo {V B : Type} (live : List Nat) : Nat → List (Ent V B) → List (Ent V B)
  | _, [] => []
  | i, e :: l => (bif keeps live i e then e else .dead) :: maskGo live (i + 1) l

/-- The slots that live; all others are dead. -/
def mask (live : List Nat) (st : St) : St := maskGo live 0 (turn live st)

def firstReg : Code → Nat
  | .region id _ _ => id
  | .seq a _ => firstReg a
  | .block _ c => firstReg c
  | .loop c => firstReg c
  | .cond _ a b => 2048 + (bif Nat.beq (firstReg a) 0 then firstReg b else firstReg a)
  | _ => 0

/-- Does it leave the world as it is, by what the environment knows? -/
def stillL (env : Env) : Op → Bool
  | .move _ | .assign _ | .pick _ _ _ | .binOp _ _ _ _ _ | .unOp _ _ _ | .index _ _ _ | .slice _ _ _ _ _ | .extract _ _ | .indexAddr _ _ _ | .load _ _ | .field _ _ _ | .fieldAddr _ _ _ => true
  | .convert _ T _ => match env.ty T with | some (.l _, _) | none => false | _ => true
  | .call c => match c.callee with | .builtin .len | .builtin .min | .builtin .max => true | _ => false
  | _ => false

/-- How many of the first operations leave the world as it is. -/
def headLen (env : Env) : List Oper → Nat
  | [] => 0
  | o :: l => bif stillL env o.op then headLen env l + 1 else 0

/-- Is the order of a region that draws it of no matter? -/
def drawOk (env : Env) (ops : Array Oper) : Bool :=
  bif headLen env ops.toList == ops.size then Region.lexB .any ops else Region.lexTailB .any ops (headLen env ops.toList)

section
variable (G : Prg) (call : (f : FuncId) → Tup (G.sig f).ps → Option (Tup (G.sig f).rs)) {R : Type}

def opK (o : Oper) (st : St) (k : St → Option R) : Option R :=
  match o.op with
  | .call { callee := .value (.func g), args, .. } => (argsL st (G.sig g).ps args.toList).bind fun xs => obind (call g xs) fun r => (setD st o.dst (resE (avs (G.sig g).rs r))).bind k
  | .next _ _ => (nextL o st).bind fun r => sel r.1 (r.2.1.bind k) (r.2.2.bind k)
  | _ => (opL G.toEnv o st).bind fun r => guardAll r.1 (k r.2)

def opsL (ops : Array Oper) : List Nat → St → (St → Option R) → Option R
  | [], st, k => k st
  | i :: rest, st, k => match ops[i]? with
    | none => none
    | some o => match o.guard with
      | none => opK G call o st fun st => opsL ops rest st k
      | some (j, want) => match (ops[j]?).bind (·.dst) with
        | none => none
        | some s => match st.getD s .dead with
          | .av ⟨.b, _, x⟩ =>
            let yes (y : Bool) : Option R := opK G call o (st.set s (.av (mkB y))) fun st => opsL ops rest st k
            let no (y : Bool) : Option R := (setD (st.set s (.av (mkB y))) o.dst .no).bind fun st => opsL ops rest st k
            if want then sel x (yes true) (no false) else sel x (no true) (yes false)
          | .no => (setD st o.dst .no).bind fun st => opsL ops rest st k
          | _ => none

/-- Results that lead to no memory. -/
def noE : Ty → Bool
  | .e => false | .c a r => noE a && noE r | _ => true
def scal (rs : List (Ty × Md)) : Bool := rs.all fun p => (flat p.1 && noE p.1) && nh p.1 p.2

/-- Has a slot a value that leads to no memory? -/
def flatAt (st : St) (d : Option Nat) : Bool := match d with
  | some d => match st.getD d .dead with | .av u => flat u.t && noE u.t | _ => false
  | none => false

/-- One operation of a region whose order is of no matter: it only reads, or calls what answers without memory. -/
def opKq (o : Oper) (st : St) (k : St → Option R) : Option R :=
  match o.op with
  | .call { callee := .value (.func g), args, .. } => bif scal (G.sig g).rs then (argsL st (G.sig g).ps args.toList).bind fun xs => obind (call g xs) fun r => (setD st o.dst (resE (avs (G.sig g).rs r))).bind k else none
  | .move _ | .assign _ | .extract _ _ => (opL G.toEnv o st).bind fun r => guardAll r.1 (k r.2)
  | op => bif stillL G.toEnv op then (opL G.toEnv o st).bind fun r => bif flatAt r.2 o.dst then guardAll r.1 (k r.2) else none else none

def opsLq (ops : Array Oper) : List Nat → St → (St → Option R) → Option R
  | [], st, k => k st
  | i :: rest, st, k => match ops[i]? with
    | none => none
    | some o => match o.guard with
      | none => opKq G call o st fun st => opsLq ops rest st k
      | some (j, want) => match (ops[j]?).bind (·.dst) with
        | none => none
        | some s => match st.getD s .dead with
          | .av ⟨.b, _, x⟩ =>
            let yes (y : Bool) : Option R := opKq G call o (st.set s (.av (mkB y))) fun st => opsLq ops rest st k
            let no (y : Bool) : Option R := (setD (st.set s (.av (mkB y))) o.dst .no).bind fun st => opsLq ops rest st k
            if want then sel x (yes true) (no false) else sel x (no true) (yes false)
          | .no => (setD st o.dst .no).bind fun st => opsLq ops rest st k
          | _ => none

def isLoop : Code → Bool
  | .loop _ => true
  | .seq a _ => isLoop a
  | .block _ c => isLoop c
  | _ => false

/-- The way on behind the first of two: 'go': the second at once; 'cut': the second with the slots that live there. -/
def Kseq (live : Option (List Nat)) (go cut : St → (Xit → St → Option R) → Option R) (K : Xit → St → Option R) : Xit → St → Option R := fun e st => match e with
  | .normal => match live with
    | some l => cut (mask l st) K
    | none => go st K
  | e => K e st

def Kblk (id : Nat) (K : Xit → St → Option R) : Xit → St → Option R := fun e st => match e with
  | .exit j => if j = id then K .normal st else K (.exit j) st
  | e => K e st

/-- The way on behind a round. -/
def Klp (live : Option (List Nat)) (again : St → (Xit → St → Option R) → Option R) (K : Xit → St → Option R) : Xit → St → Option R := fun e st => match e with
  | .normal => match live with
    | some l => again (mask l st) K
    | none => none
  | e => K e st

/-- The cut ahead of a piece, if there is one; a loop cuts for itself. -/
def cutAt (f : FuncId) (b : Code) : Option (List Nat) := if isLoop b then none else G.live f (firstReg b)

def stepC (f : FuncId) (loopK : Code → St → (Xit → St → Option R) → Option R) : Code → St → (Xit → St → Option R) → Option R
  | .skip, st, K => K .normal st
  | .region _ ops draw, st, K => bif !draw || drawOk G.toEnv ops then opsL G call ops (List.range ops.size) st (K .normal) else bif Region.lexB .any ops then opsLq G call ops (List.range ops.size) st (K .normal) else none
  | .seq a b, st, K => stepC f loopK a st (Kseq (cutAt G f b) (stepC f loopK b) (loopK b) K)
  | .cond c a b, st, K => match c with
    | .tmp i => match look st i with
      | some ⟨.b, _, x⟩ => sel x (stepC f loopK a st K) (stepC f loopK b st K)
      | _ => none
    | .const (.bool x) => if x then stepC f loopK a st K else stepC f loopK b st K
    | _ => none
  | .block id c, st, K => stepC f loopK c st (Kblk id K)
  | .loop c, st, K => match G.live f (firstReg c) with
    | some l => loopK (.loop c) (mask l st) K
    | none => none
  | .exit id, st, K => K (.exit id) st
  | .ret, st, K => K .ret st
  | _, _, _ => none
end

def rowFlat : Ty → Md → Bool
  | .l t, .o m => flat t && nh t m
  | _, _ => false

def resL (st : St) : (rs : List (Ty × Md)) → List ResultVar → Option (Tup rs)
  | [], [] => some ()
  | p :: ps, .tmp i :: xs => match place st i with
    | some (s, []) => (look st i).bind fun v => if h : v.t = p.1 then if (v.m = p.2 ∧ rowFlat v.t v.m) ∨ (flat v.t ∧ nh v.t v.m) then (resL (drop st s) ps xs).map fun r => (h ▸ v.x, r) else none else none
    | _ => none
  | _, _ => none

def initL (ps : List (Ty × Md)) (x : Tup ps) (n : Nat) : St := (avs ps x).map .av ++ List.replicate (n - ps.length) .dead

/-- How a function ends. -/
def Kend (G : Prg) (g : FuncId) (fn : Func) : Xit → St → Option (Tup (G.sig g).rs) := fun e st => match e with
  | .exit _ => none
  | _ => resL st (G.sig g).rs fn.results.toList

/-- A function, its code's pieces being run so. -/
def runF (G : Prg) (n : Nat) (LL : (f : FuncId) → Code → St → (Xit → St → Option (Tup (G.sig f).rs)) → Option (Tup (G.sig f).rs)) (g : FuncId) (x : Tup (G.sig g).ps) : Option (Tup (G.sig g).rs) :=
  match G.ext g with
  | some F => F n x
  | none => match G.body g with
    | none => none
    | some fn => match fn.body with
      | none => none
      | some c => LL g c (initL (G.sig g).ps x fn.ntmps) (Kend G g fn)

/-- L: a piece of a function's code, with so many rounds of loops and calls. -/
def L (G : Prg) : Nat → (f : FuncId) → Code → St → (Xit → St → Option (Tup (G.sig f).rs)) → Option (Tup (G.sig f).rs)
  | 0, _, _, _, _ => none
  | n + 1, f, c, st, K => match c with
    | .loop b => stepC G (runF G n (L G n)) f (L G n f) b st (Klp (G.live f (firstReg b)) (L G n f (.loop b)) K)
    | c => stepC G (runF G n (L G n)) f (L G n f) c st K

/-- A function, by L. -/
def F (G : Prg) (n : Nat) (g : FuncId) (x : Tup (G.sig g).ps) : Option (Tup (G.sig g).rs) := runF G n (L G n) g x

/-- A step down into a code. -/
inductive Stp
  | l | r | b | o | t | f

/-- The piece of a code at the end of a path, and the way on from there: 'n': the rounds left at the top; 'ns': those left where the path comes into a loop, or past a cut. -/
def pieceAt (G : Prg) (f : FuncId) : List Stp → Nat → List Nat → Code → (Xit → St → Option (Tup (G.sig f).rs)) → Option (Code × (Xit → St → Option (Tup (G.sig f).rs)))
  | [], _, _, c, K => some (c, K)
  | .l :: p, n, ns, .seq a b, K => pieceAt G f p n ns a (Kseq (cutAt G f b) (stepC G (runF G n (L G n)) f (L G n f) b) (L G n f b) K)
  | .r :: p, n, ns, .seq _ b, K => match p, cutAt G f b, ns with
    | [], _, _ => some (b, K)
    | p, none, ns => pieceAt G f p n ns b K
    | p, some _, m :: ns => pieceAt G f p m ns b K
    | _, _, _ => none
  | .b :: p, n, ns, .block id c, K => pieceAt G f p n ns c (Kblk id K)
  | .o :: p, _, m :: ns, .loop b, K => pieceAt G f p m ns b (Klp (G.live f (firstReg b)) (L G m f (.loop b)) K)
  | .t :: p, n, ns, .cond _ a _, K => pieceAt G f p n ns a K
  | .f :: p, n, ns, .cond _ _ b, K => pieceAt G f p n ns b K
  | _, _, _, _, _ => none

/-- A piece of a function, by its path: 'j': its rounds; 'ns': the rounds left at the top, and where the path comes into loops and past cuts. -/
def piece (G : Prg) (f : FuncId) (p : List Stp) (j : Nat) (ns : List Nat) (st : St) : Option (Tup (G.sig f).rs) :=
  match G.body f with
  | none => none
  | some fn => match fn.body with
    | none => none
    | some c => match pieceAt G f p (ns.headD 0) ns.tail c (Kend G f fn) with
      | none => none
      | some r => L G j f r.1 st r.2

/-- Slots: so many, dead but for these. -/
def skel : Nat → Nat → List (Nat × Ent AV Unit) → St
  | 0, _, _ => []
  | n + 1, i, [] => .dead :: skel n (i + 1) []
  | n + 1, i, (j, e) :: l => if i == j then e :: skel n (i + 1) l else .dead :: skel n (i + 1) ((j, e) :: l)

end Lk

namespace Lk
open Go
variable {Kw : World → Prop}
variable {τ : TypeId} {cx : Cx Kw} {S : Nat → Prop} {ds : DSt} {w : World} {P : Program} {a : Act} {o : Oper} {cs : List Bool} {st' : St}

/-- What arguments come to. -/
def ArgsAre (S Sb : Nat → Prop) (w : World) : (ps : List (Ty × Md)) → Tup ps → List Value → Prop
  | [], _, vals => vals = []
  | p :: ps, x, vals => ∃ v vs sh, vals = v :: vs ∧ hold τ S Sb w p.1 p.2 x.1 sh ∧ bl p.1 p.2 x.1 sh = [] ∧ v = valOf p.1 (cells τ p.1 x.1 sh) ∧ ArgsAre S Sb w ps x.2 vs

/-- The value of a call's results. -/
def resV (rds : List DV) : Value := match rds with
  | [d] => d.val τ
  | rds => .tuple (rds.map (DV.val τ)).toArray

/-- What results come to. -/
structure ResAre (w w' : World) (us : List AV) (v : Value) : Prop where
  ex : ∃ rds : List DV, rds.map DV.av = us ∧ (∀ d ∈ rds, d.hold τ (fun _ => False) (fun _ => False) w') ∧ ((rds.map DV.bl).flatten).Nodup ∧
    (∀ b ∈ (rds.map DV.bl).flatten, w.heap.size ≤ b ∧ b < w'.heap.size) ∧ v = resV (τ := τ) rds

/-- WHAT IT IS THAT A FUNCTION DOES AS L SAYS. -/
def FnOk (P : Program) (g : FuncId) (sg : Sig) (F : Tup sg.ps → Option (Tup sg.rs)) : Prop :=
  ∀ x res, F x = some res → ∀ (w : World) (S Sb : Nat → Prop) (vals : List Value), Kw w → (∀ b, S b ∨ Sb b → b < w.heap.size) → ArgsAre (τ := τ) S (fun b => S b ∨ Sb b) w sg.ps x vals →
    Calls P g vals.toArray w fun e w' => ∃ v, e = .returned v ∧ Ext [] w w' ∧ ResAre (τ := τ) w w' (avs sg.rs res) v

structure PrgOk (Kw : World → Prop) (τ : TypeId) (P : Program) (G : Prg) : Prop where
  keep : ∀ w w', Kw w → Ext [] w w' → Kw w'
  env : EnvOk P G.toEnv
  mix : P.follows .mixedOrders = true
  body : ∀ g fn, G.body g = some fn → P.funcs[g]? = some fn
  ext : ∀ g F n, G.ext g = some F → FnOk (τ := τ) (Kw := Kw) P g (G.sig g) (F n)
  enter : ∀ g, (∃ n x r, F G n g x = some r) → ∀ args w, (callFunc g args).run P w = .ok (.enter g args) w

theorem hold_false {S Sb : Nat → Prop} {d : DV} (h : d.hold τ (fun _ => False) (fun _ => False) w) : d.hold τ S Sb w :=
  hold_keep τ (fun _ hb => hb.elim) (fun _ hb => hb.elim) _ _ _ _ (fun _ _ => rfl) h

theorem arg1_ok {p : Ty × Md} {x : Operand} {v : E p.1} (h : RelS τ cx S ds a.tmps w) (hv : arg1 (ds.map er) p x = some v) :
    ∃ sh, hold τ S (fun b => S b ∨ (cx.Sb b ∨ b ∈ blocks ds)) w p.1 p.2 v sh ∧ bl p.1 p.2 v sh = [] ∧ a.eval x = valOf p.1 (cells τ p.1 v sh) := by
  unfold arg1 at hv
  rw [Option.bind_eq_some_iff] at hv
  obtain ⟨u, hu, hv⟩ := hv
  have hIs : Is (τ := τ) cx S w u (a.eval x) := by
    split at hu
    · exact h.look hu
    · exact is_const hu
    · cases hu
  have hdsub : ∃ d : DV, d.av = u ∧ d.hold τ S (fun b => S b ∨ cx.Sb b) w ∧ a.eval x = d.val τ ∧ ∀ b ∈ d.bl, b ∈ blocks ds := by
    split at hu
    · rename_i i
      unfold look at hu
      split at hu
      · rename_i v0 he
        obtain ⟨rfl, hm⟩ := seen_some hu
        obtain ⟨d, hd, rfl⟩ := getD_er he
        have := h.ok i _ hd
        exact ⟨d, rfl, this.1, this.2, mem_blocks hd⟩
      · rename_i s q he
        have hi := getD_er_al he
        obtain ⟨d, d', l, h1, h2, h3, h4, h5⟩ := h.al_hold hi
        split at hu
        · rename_i v0 hs
          obtain ⟨d0, hd0, rfl⟩ := getD_er hs
          rw [h1] at hd0; cases hd0
          simp only [DV.av] at hu
          rw [h5] at hu
          simp only [Option.bind_some] at hu
          obtain ⟨rfl, hm⟩ := seen_some hu
          obtain ⟨_, _, k3⟩ := at_hold τ _ _ _ _ _ _ _ _ h2 (h.ok s _ h1).1 lies_none
          exact ⟨d', rfl, h4, h3, fun b hb => mem_blocks h1 b (k3 b hb)⟩
        · cases hu
      · cases hu
    · rename_i c
      obtain ⟨_, d, h1, h2, h3, h4⟩ := const_dv (τ := τ) (cx := cx) (S := S) (w := w) hu
      exact ⟨d, h1, h2, h3, by rw [h4]; simp⟩
    · cases hu
  obtain ⟨d, rfl, hh, hval, hbl⟩ := hdsub
  split at hv
  · rename_i ht
    obtain ⟨t, m, y, sh⟩ := d
    obtain ⟨t', m'⟩ := p
    simp only [DV.av] at ht hv
    subst ht
    simp only at hv ⊢
    split at hv
    · have hv' : (if m.solid = true then some y else none) = (some v : Option (E t)) := hv
      clear hv
      split at hv'
      · rename_i hsol
        cases hv'
        refine ⟨sh, ?_, by cases t <;> simp [bl], hval⟩
        rw [hold_b]
        exact hold_rd τ (T := fun b => S b ∨ (cx.Sb b ∨ b ∈ blocks ds)) (fun b hb => .inl hb) t m y sh hsol (.inr fun b hb => by rcases hb with hb | hb; exact .inl hb; exact .inr (.inl hb)) (fun b hb => .inr (.inr (hbl b hb))) hh
      · cases hv'
    · have hv' : (if (flat t && nh t m) = true then some y else none) = (some v : Option (E t)) := hv
      clear hv
      split at hv'
      · rename_i hf
        simp only [Bool.and_eq_true] at hf
        cases hv'
        refine ⟨sh, ?_, by cases t <;> simp [bl], hval⟩
        rw [hold_r]
        exact flat_rd _ _ _ _ hf.1 hf.2 hh
      · cases hv'
    · cases hv
  · cases hv

theorem argsL_ok (h : RelS τ cx S ds a.tmps w) : ∀ (ps : List (Ty × Md)) (xs : List Operand) (r : Tup ps), argsL (ds.map er) ps xs = some r →
    ArgsAre (τ := τ) S (fun b => S b ∨ (cx.Sb b ∨ b ∈ blocks ds)) w ps r (xs.map a.eval)
  | [], [], r, _ => rfl
  | [], _ :: _, r, hr => by simp [argsL] at hr
  | _ :: _, [], r, hr => by simp [argsL] at hr
  | p :: ps, x :: xs, r, hr => by
    simp only [argsL, Option.bind_eq_some_iff, Option.map_eq_some_iff] at hr
    obtain ⟨v, hv, r', hr', rfl⟩ := hr
    obtain ⟨sh, h1, h2, h3⟩ := arg1_ok h hv
    exact ⟨_, _, sh, rfl, h1, h2, h3, argsL_ok h ps xs r' hr'⟩

end Lk

namespace Lk
open Go
variable {Kw : World → Prop}
variable {τ : TypeId} {cx : Cx Kw} {S : Nat → Prop} {ds : DSt} {w : World} {P : Program} {a : Act} {o : Oper} {cs : List Bool} {st' : St} {R : Type} {G : Prg}
  {call : (f : FuncId) → Tup (G.sig f).ps → Option (Tup (G.sig f).rs)}

theorem guardAll_some {α : Type} : ∀ {cs : List Bool} {k : Option α} {r : α}, guardAll cs k = some r → (∀ c ∈ cs, c = true) ∧ k = some r
  | [], _, _, h => ⟨by simp, h⟩
  | c :: cs, k, r, h => by
    cases c with
    | false => simp [guardAll, sel] at h
    | true =>
      simp only [guardAll, sel, cond_true] at h
      obtain ⟨h1, h2⟩ := guardAll_some h
      exact ⟨by simpa using h1, h2⟩

structure CallsOk (Kw : World → Prop) (τ : TypeId) (P : Program) (G : Prg) (call : (f : FuncId) → Tup (G.sig f).ps → Option (Tup (G.sig f).rs)) : Prop where
  fn : ∀ g, FnOk (τ := τ) (Kw := Kw) P g (G.sig g) (call g)
  enter : ∀ g x r, call g x = some r → ∀ args w, (callFunc g args).run P w = .ok (.enter g args) w

theorem resE_of (us : List AV) (rds : List DV) (h : rds.map DV.av = us) : ∃ e : Ent DV Nat, er e = resE us ∧ e.bl = (rds.map DV.bl).flatten ∧
    ∀ S Sb w ds, (∀ d ∈ rds, d.hold τ S Sb w) → e.ok τ S Sb w ds (resV (τ := τ) rds) := by
  subst h
  match rds with
  | [] => exact ⟨.tup [], rfl, rfl, fun S Sb w ds _ => ⟨#[], rfl, rfl, fun i d hd => by simp at hd⟩⟩
  | [d] => exact ⟨.av d, rfl, by simp [Ent.bl], fun S Sb w ds hh => ⟨hh d (by simp), rfl⟩⟩
  | d1 :: d2 :: r =>
    refine ⟨.tup ((d1 :: d2 :: r).map some), by simp [er, Ent.map, resE], ?_, fun S Sb w ds hh => ?_⟩
    · simp only [Ent.bl, List.map_map]; rfl
    · refine ⟨_, rfl, by simp, fun i d hd => ?_⟩
      rw [List.getElem?_map, Option.map_eq_some_iff] at hd
      obtain ⟨d', hd', e⟩ := hd
      cases e
      refine ⟨hh _ (List.mem_of_getElem? hd'), ?_⟩
      simp only [List.getElem?_toArray, List.getElem?_map, hd', Option.map_some]

theorem opK_ok {k : St → Option R} {r : R} {next : Act → World → Prop} {Q : Exit → Act → World → Prop} (hE : EnvOk P G.toEnv) (hcall : CallsOk Kw τ P G call)
    (h : RelS τ cx S ds a.tmps w) (hl : opK G call o (ds.map er) k = some r)
    (hk : ∀ st', k st' = some r → ∀ ds' S' v w', st' = ds'.map er → RelS τ cx S' ds' (a.put o.dst v).tmps w' → next (a.put o.dst v) w') : o.wp P a w next Q := by
  have fin : ∀ st', k st' = some r → Did (τ := τ) P cx a o w st' → o.wp P a w next Q := by
    rintro st' hkr ⟨n, v, w', ds', S', h1, h2, h3, h4⟩
    have := hk st' hkr ds' S' v w' h3 h4
    unfold Oper.wp
    rw [h1]
    rcases h2 with rfl | ⟨rfl, rfl⟩
    · exact this
    · exact this
  unfold opK at hl
  split at hl
  · rename_i op g args aT ho
    rw [Option.bind_eq_some_iff] at hl
    obtain ⟨xs, hxs, hl⟩ := hl
    unfold obind at hl
    rw [Option.bind_eq_some_iff] at hl
    obtain ⟨res, hres, hl⟩ := hl
    rw [Option.bind_eq_some_iff] at hl
    obtain ⟨st1, hs, hl⟩ := hl
    have hargs := argsL_ok h _ _ _ hxs
    have hsets : ∀ b, S b ∨ (cx.Sb b ∨ b ∈ blocks ds) → b < w.heap.size := by
      intro b hb
      rcases hb with hb | hb | hb
      · exact (h.inv.sw b (.inl hb)).1
      · exact (h.inv.sw b (.inr hb)).1
      · exact (h.inv.own b hb).1
    have hC := hcall.fn g xs res hres w S (fun b => cx.Sb b ∨ b ∈ blocks ds) _ (cx.kk w h.inv.ext) hsets hargs
    have hrun : (execOp a.eval o).run P w = .ok (.enter g (args.map a.eval)) w := by
      simp only [execOp, ho]
      unfold resolve
      simp only [Act.eval, Deferred.ofValue, Sem.run_bind, Sem.run_pure, Result.andThen_ok]
      have := hcall.enter g xs res hres (args.map a.eval) w
      simp only [invoke, Array.empty_append, Array.append_empty]
      simpa [Array.empty_append] using this
    unfold Oper.wp
    rw [hrun]
    show Calls P g (args.map a.eval) w _
    have hva : (args.toList.map a.eval).toArray = args.map a.eval := by
      rw [← Array.toList_map, Array.toArray_toList]
    rw [hva] at hC
    refine hC.mono ?_
    rintro e w' ⟨v, rfl, hext, ⟨rds, q1, q2, q3, q4, q5⟩⟩
    show next (a.put o.dst v) w'
    have hR := h.chg hext (by simp)
    obtain ⟨ee, e1, e2, e3⟩ := resE_of (τ := τ) _ rds q1
    rw [← e1] at hs
    obtain ⟨ds', k1, k2⟩ := hR.setD (e := ee) (v := v) hs (by rw [q5]; exact e3 _ _ _ _ (fun d hd => hold_false (q2 d hd))) (by rw [e2]; exact q3) (fun b hb => by
      rw [e2] at hb
      obtain ⟨b1, b2⟩ := q4 b hb
      refine ⟨b2, .inr (Nat.le_trans h.inv.ext.size b1), fun hS => ?_, fun hB => ?_⟩
      · have := (h.inv.sw b hS).1; omega
      · have := (h.inv.own b hB).1; omega)
    exact hk st1 hl ds' S v w' k1 k2
  · rename_i op x s ho
    rw [Option.bind_eq_some_iff] at hl
    obtain ⟨⟨t, s1, s2⟩, hn, hl⟩ := hl
    cases t with
    | true =>
      simp only [sel, cond_true, Option.bind_eq_some_iff] at hl
      obtain ⟨st1, hs, hl⟩ := hl
      exact fin st1 hl (next_did hn h (by simpa using hs))
    | false =>
      simp only [sel, cond_false, Option.bind_eq_some_iff] at hl
      obtain ⟨st1, hs, hl⟩ := hl
      exact fin st1 hl (next_did hn h (by simpa using hs))
  · rw [Option.bind_eq_some_iff] at hl
    obtain ⟨⟨cs, st1⟩, h1, hl⟩ := hl
    obtain ⟨hc, hl⟩ := guardAll_some hl
    exact fin st1 hl (opL_ok hE h h1 hc)

end Lk

namespace Lk
open Go
variable {Kw : World → Prop}
variable {τ : TypeId} {cx : Cx Kw} {S : Nat → Prop} {ds : DSt} {w : World} {P : Program} {a : Act} {o : Oper} {cs : List Bool} {st' : St} {R : Type} {G : Prg}
  {call : (f : FuncId) → Tup (G.sig f).ps → Option (Tup (G.sig f).rs)}

theorem RelS.litB {tmps : Array Value} {s : Nat} {m : Md} {x : Bool} (h : RelS τ cx S ds tmps w) (hs : ds[s]? = some (.av ⟨.b, m, x, ()⟩)) : RelS τ cx S (ds.set s (.av ⟨.b, .r, x, ()⟩)) tmps w := by
  have hbl : ∀ m : Md, DV.bl ⟨.b, m, x, ()⟩ = [] := by intro m; cases m <;> rfl
  have hsub := blocks_sub (ds := ds) (ds' := ds.set s (.av ⟨.b, .r, x, ()⟩)) (by simp) (by
    intro k e e' he he'
    rw [List.getElem?_set] at he'
    split at he'
    · split at he' <;> cases he'; exact .inr (hbl .r)
    · rw [he] at he'; cases he'; exact .inl rfl)
  refine ⟨by simp [h.size], h.inv.fewer (fun b hb => hsub.subset hb) (h.inv.nodup.sublist hsub), fun k e' he => ?_⟩
  have hself : (ds.set s (.av ⟨.b, .r, x, ()⟩) : DSt)[s]? = some (.av ⟨.b, .r, x, ()⟩) := List.getElem?_set_self (lt_of_get hs)
  by_cases hk : k = s
  · subst hk
    rw [hself] at he; cases he
    exact ⟨by simp [DV.hold, hold, Rd, cells], (h.ok k _ hs).2⟩
  · rw [List.getElem?_set_ne (fun e => hk e.symm)] at he
    have hok := h.ok k _ he
    have keep : ∀ s' d, s' ≠ s → ds[s']? = some (.av d) → (ds.set s (.av ⟨.b, .r, x, ()⟩))[s']? = some (.av d) := fun s' d hs' hd => by
      rw [List.getElem?_set_ne (fun e => hs' e.symm)]; exact hd
    cases e' with
    | al s1 p1 =>
      obtain ⟨d, d', l, h1, h2, h3⟩ := hok
      by_cases e1 : s1 = s
      · subst e1
        rw [hs] at h1; cases h1
        cases p1 with
        | nil =>
          simp only [DV.at?, Lk.at?, Option.some.injEq, Prod.mk.injEq] at h2
          obtain ⟨rfl, rfl⟩ := h2
          exact ⟨⟨.b, .r, x, ()⟩, ⟨.b, .r, x, ()⟩, none, hself, at_nil _ _ _ _ _, h3⟩
        | cons _ _ => simp [DV.at?, Lk.at?] at h2
      · exact ⟨d, d', l, keep s1 d e1 h1, h2, h3⟩
    | ad s1 p1 =>
      obtain ⟨d, d', b, o, h1, h2, h3⟩ := hok
      by_cases e1 : s1 = s
      · subst e1
        rw [hs] at h1; cases h1
        cases p1 <;> simp [DV.at?, Lk.at?] at h2
      · exact ⟨d, d', b, o, keep s1 d e1 h1, h2, h3⟩
    | vw s1 p1 lo hi =>
      obtain ⟨d, d', l, t, m', y, sh, b, o, cap, h1, h2, h3, h4⟩ := hok
      by_cases e1 : s1 = s
      · subst e1
        rw [hs] at h1; cases h1
        cases p1 with
        | nil =>
          simp only [DV.at?, Lk.at?, Option.some.injEq, Prod.mk.injEq] at h2
          obtain ⟨rfl, rfl⟩ := h2
          cases h3
        | cons _ _ => simp [DV.at?, Lk.at?] at h2
      · exact ⟨d, d', l, t, m', y, sh, b, o, cap, keep s1 d e1 h1, h2, h3, h4⟩
    | _ => exact hok

theorem getD_er_no {s : Nat} (h : (ds.map er).getD s .dead = .no) : ds[s]? = some .no := by
  rw [List.getD_eq_getElem?_getD, List.getElem?_map] at h
  cases hd : ds[s]? with
  | none => rw [hd] at h; cases h
  | some e =>
    rw [hd] at h
    cases e <;> simp [er, Ent.map] at h
    rfl

theorem put_defers (a : Act) (d : Option Nat) (v : Value) : (a.put d v).defers = a.defers := by cases d <;> rfl

theorem opsL_ok {k : St → Option R} {r : R} {Q : Exit → Act → World → Prop} {ops : Array Oper} (hE : EnvOk P G.toEnv) (hcall : CallsOk Kw τ P G call) :
    ∀ (l : List Nat) (a : Act) (S : Nat → Prop) (ds : DSt) (w : World), RelS τ cx S ds a.tmps w → opsL G call ops l (ds.map er) k = some r →
    (∀ st', k st' = some r → ∀ ds' S' a' w', st' = ds'.map er → RelS τ cx S' ds' a'.tmps w' → a'.defers = a.defers → Q .normal a' w') → wpOps P ops Q l a w := by
  intro l
  induction l with
  | nil =>
    intro a S ds w h hl hk
    exact hk _ hl ds S a w rfl h rfl
  | cons i rest ih =>
    intro a S ds w h hl hk
    simp only [opsL] at hl
    simp only [wpOps]
    cases hop : ops[i]? with
    | none => rw [hop] at hl; cases hl
    | some o =>
      rw [hop] at hl
      simp only at hl ⊢
      have perform : ∀ (ds : DSt), RelS τ cx S ds a.tmps w → opK G call o (ds.map er) (fun st => opsL G call ops rest st k) = some r → o.wp P a w (wpOps P ops Q rest) Q := by
        intro ds h hl
        refine opK_ok hE hcall h hl (fun st1 h1 ds1 S1 v w1 e1 h2 => ?_)
        subst e1
        exact ih _ S1 ds1 w1 h2 h1 (fun st2 hk2 ds2 S2 a2 w2 e2 h3 hd2 => hk st2 hk2 ds2 S2 a2 w2 e2 h3 (by rw [hd2, put_defers]))
      have skip : ∀ (ds : DSt), RelS τ cx S ds a.tmps w → (setD (ds.map er) o.dst .no).bind (fun st => opsL G call ops rest st k) = some r → wpOps P ops Q rest (a.put o.dst undef) w := by
        intro ds h hl
        rw [Option.bind_eq_some_iff] at hl
        obtain ⟨st1, hs, hl⟩ := hl
        obtain ⟨ds', e1, h2⟩ := h.setD (e := .no) (v := undef) hs rfl (by simp [Ent.bl]) (by simp [Ent.bl])
        subst e1
        exact ih _ S ds' w h2 hl (fun st2 hk2 ds2 S2 a2 w2 e2 h3 hd2 => hk st2 hk2 ds2 S2 a2 w2 e2 h3 (by rw [hd2, put_defers]))
      cases hg : o.guard with
      | none =>
        rw [hg] at hl
        simp only at hl
        have : Region.wanted o (yielded ops a.tmps) = true := by simp [Region.wanted, hg]
        rw [if_pos this]
        exact .inl (perform ds h hl)
      | some jw =>
        obtain ⟨j, want⟩ := jw
        rw [hg] at hl
        simp only at hl
        cases hj : (ops[j]?).bind (·.dst) with
        | none => rw [hj] at hl; cases hl
        | some s =>
          rw [hj] at hl
          simp only at hl
          split at hl
          · rename_i m x hst
            obtain ⟨d, hd, hdv⟩ := getD_er hst
            obtain ⟨t0, m0, x0, sh⟩ := d
            simp only [DV.av, AV.mk.injEq] at hdv
            obtain ⟨rfl, rfl, hx⟩ := hdv
            cases hx
            have hval := (h.ok s _ hd).2
            have hsl : s < a.tmps.size := by rw [h.size]; exact lt_of_get hd
            have hy : yielded ops a.tmps j = some x := by
              unfold yielded
              rw [hj]
              have : a.tmps[s]? = some (.bool x) := by
                rw [Array.getD_eq_getD_getElem?, Array.getElem?_eq_getElem hsl] at hval
                rw [Array.getElem?_eq_getElem hsl]
                simpa [DV.val, DV.cells, cells, valOf, isAggT] using hval
              simp [this]
            have hR := h.litB hd
            have hset : ∀ y, y = x → (ds.map er).set s (.av (mkB y)) = (ds.set s (.av ⟨.b, .r, x, ()⟩)).map er := by
              intro y e; subst e; rw [List.map_set]; rfl
            have hw : Region.wanted o (yielded ops a.tmps) = (x == want) := by
              simp only [Region.wanted, hg, hy]
              cases x <;> cases want <;> rfl
            rw [hw]
            cases want <;> cases x <;> simp only [sel, cond_true, cond_false, if_true, if_false, Bool.false_eq_true] at hl
            · rw [hset _ rfl] at hl; exact .inl (perform _ hR hl)
            · rw [hset _ rfl] at hl; exact skip _ hR hl
            · rw [hset _ rfl] at hl; exact skip _ hR hl
            · rw [hset _ rfl] at hl; exact .inl (perform _ hR hl)
          · rename_i hst
            have hd := getD_er_no hst
            have hval : a.tmps.getD s undef = undef := h.ok s _ hd
            have hsl : s < a.tmps.size := by rw [h.size]; exact lt_of_get hd
            have hy : yielded ops a.tmps j = none := by
              unfold yielded
              rw [hj]
              have : a.tmps[s]? = some undef := by
                rw [Array.getD_eq_getD_getElem?, Array.getElem?_eq_getElem hsl] at hval
                rw [Array.getElem?_eq_getElem hsl]
                simpa using hval
              simp only [Option.bind_some, this]
              rfl
            have hw : Region.wanted o (yielded ops a.tmps) = false := by
              simp [Region.wanted, hg, hy]
            rw [hw]
            exact skip _ h hl
          · cases hl

end Lk

namespace Lk
open Go
variable {Kw : World → Prop}
variable {τ : TypeId} {cx : Cx Kw} {S : Nat → Prop} {ds : DSt} {w : World} {P : Program} {a : Act} {o : Oper} {cs : List Bool} {st' : St} {R : Type} {G : Prg}
  {call : (f : FuncId) → Tup (G.sig f).ps → Option (Tup (G.sig f).rs)}

theorem stillL_ok (hE : EnvOk P G.toEnv) {op : Op} (h : stillL G.toEnv op = true) : still P op = true := by
  cases op <;> simp only [stillL] at h <;> simp only [still] <;> try (first | exact h | cases h)
  rename_i T' T x
  split at h
  · cases h
  · cases h
  · rename_i tm h1 h2
    cases ht : G.ty T with
    | none => exact absurd ht h2
    | some tm =>
      obtain ⟨t, m⟩ := tm
      have hd := hE.ty T t m ht
      cases t with
      | l t => exact absurd ht (h1 t m)
      | i k => simp only [Desc] at hd; rw [hd]
      | «by» => simp only [Desc] at hd; rw [hd]
      | b => simp only [Desc] at hd; rw [hd]
      | s => simp only [Desc] at hd; rw [hd]
      | u => simp only [Desc] at hd; obtain ⟨_, hd⟩ := hd; rw [hd]
      | e => simp only [Desc] at hd; obtain ⟨_, hd⟩ := hd; rw [hd]
      | c _ _ => simp only [Desc] at hd; obtain ⟨_, hd⟩ := hd; rw [hd]
      | p _ => simp only [Desc] at hd; obtain ⟨_, _, hd, _⟩ := hd; rw [hd]

/-- One step of L's way through a region. -/
theorem opsL_step {k : St → Option R} {r : R} {ops : Array Oper} {i : Nat} {rest : List Nat} (h : RelS τ cx S ds a.tmps w) (hop : ops[i]? = some o)
    (hl : opsL G call ops (i :: rest) (ds.map er) k = some r) :
    (Region.wanted o (yielded ops a.tmps) = true ∧ ∃ ds1, RelS τ cx S ds1 a.tmps w ∧ opK G call o (ds1.map er) (fun st => opsL G call ops rest st k) = some r) ∨
    (Region.wanted o (yielded ops a.tmps) = false ∧ ∃ ds1, RelS τ cx S ds1 (a.put o.dst undef).tmps w ∧ opsL G call ops rest (ds1.map er) k = some r) := by
  simp only [opsL, hop] at hl
  have skip : ∀ (ds : DSt), RelS τ cx S ds a.tmps w → (setD (ds.map er) o.dst .no).bind (fun st => opsL G call ops rest st k) = some r →
      ∃ ds1, RelS τ cx S ds1 (a.put o.dst undef).tmps w ∧ opsL G call ops rest (ds1.map er) k = some r := by
    intro ds h hl
    rw [Option.bind_eq_some_iff] at hl
    obtain ⟨st1, hs, hl⟩ := hl
    obtain ⟨ds', e1, h2⟩ := h.setD (e := .no) (v := undef) hs rfl (by simp [Ent.bl]) (by simp [Ent.bl])
    subst e1
    exact ⟨ds', h2, hl⟩
  cases hg : o.guard with
  | none =>
    rw [hg] at hl
    simp only at hl
    exact .inl ⟨by simp [Region.wanted, hg], ds, h, hl⟩
  | some jw =>
    obtain ⟨j, want⟩ := jw
    rw [hg] at hl
    simp only at hl
    cases hj : (ops[j]?).bind (·.dst) with
    | none => rw [hj] at hl; cases hl
    | some s =>
      rw [hj] at hl
      simp only at hl
      split at hl
      · rename_i m x hst
        obtain ⟨d, hd, hdv⟩ := getD_er hst
        obtain ⟨t0, m0, x0, sh⟩ := d
        simp only [DV.av, AV.mk.injEq] at hdv
        obtain ⟨rfl, rfl, hx⟩ := hdv
        cases hx
        have hval := (h.ok s _ hd).2
        have hsl : s < a.tmps.size := by rw [h.size]; exact lt_of_get hd
        have hy : yielded ops a.tmps j = some x := by
          unfold yielded
          rw [hj]
          have : a.tmps[s]? = some (.bool x) := by
            rw [Array.getD_eq_getD_getElem?, Array.getElem?_eq_getElem hsl] at hval
            rw [Array.getElem?_eq_getElem hsl]
            simpa [DV.val, DV.cells, cells, valOf, isAggT] using hval
          simp [this]
        have hR := h.litB hd
        have hset : ∀ y, y = x → (ds.map er).set s (.av (mkB y)) = (ds.set s (.av ⟨.b, .r, x, ()⟩)).map er := by
          intro y e; subst e; rw [List.map_set]; rfl
        have hw : Region.wanted o (yielded ops a.tmps) = (x == want) := by
          simp only [Region.wanted, hg, hy]
          cases x <;> cases want <;> rfl
        rw [hw]
        cases want <;> cases x <;> simp only [sel, cond_true, cond_false, if_true, if_false, Bool.false_eq_true] at hl
        · rw [hset _ rfl] at hl; exact .inl ⟨rfl, _, hR, hl⟩
        · rw [hset _ rfl] at hl; exact .inr ⟨rfl, skip _ hR hl⟩
        · rw [hset _ rfl] at hl; exact .inr ⟨rfl, skip _ hR hl⟩
        · rw [hset _ rfl] at hl; exact .inl ⟨rfl, _, hR, hl⟩
      · rename_i hst
        have hd := getD_er_no hst
        have hval : a.tmps.getD s undef = undef := h.ok s _ hd
        have hsl : s < a.tmps.size := by rw [h.size]; exact lt_of_get hd
        have hy : yielded ops a.tmps j = none := by
          unfold yielded
          rw [hj]
          have : a.tmps[s]? = some undef := by
            rw [Array.getD_eq_getD_getElem?, Array.getElem?_eq_getElem hsl] at hval
            rw [Array.getElem?_eq_getElem hsl]
            simpa using hval
          simp only [Option.bind_some, this]
          rfl
        exact .inr ⟨by simp [Region.wanted, hg, hy], skip _ h hl⟩
      · cases hl

theorem opK_still {k : St → Option R} {r : R} {next : Act → Prop} (hE : EnvOk P G.toEnv) (hs : still P o.op = true)
    (h : RelS τ cx S ds a.tmps w) (hl : opK G call o (ds.map er) k = some r)
    (hk : ∀ st', k st' = some r → ∀ ds' S' v, st' = ds'.map er → RelS τ cx S' ds' (a.put o.dst v).tmps w → next (a.put o.dst v)) : o.still P a w next := by
  unfold opK at hl
  split at hl
  · rename_i op g args aT ho
    rw [ho] at hs
    simp [still] at hs
  · rename_i op x y ho
    rw [ho] at hs
    simp [still] at hs
  · rw [Option.bind_eq_some_iff] at hl
    obtain ⟨⟨cs, st1⟩, hop, hl⟩ := hl
    obtain ⟨hcs, hl⟩ := guardAll_some hl
    obtain ⟨n, v, w', ds', S', h1, ⟨h2, h2'⟩, h3, h4⟩ := opL_ok hE h hop hcs
    have hw := h2' hs
    subst hw
    have := hk _ hl ds' S' v h3 h4
    unfold Oper.still
    rw [h1]
    rcases h2 with rfl | ⟨rfl, rfl⟩
    · exact ⟨rfl, this⟩
    · exact ⟨rfl, this⟩

theorem opsL_still {k : St → Option R} {r : R} {ops : Array Oper} (hE : EnvOk P G.toEnv) (tl : List Nat) (Q : Act → Prop) :
    ∀ (ol : List Oper) (i : Nat) (a : Act) (S : Nat → Prop) (ds : DSt), (∀ j, j < ol.length → ol[j]? = ops[i + j]?) → (∀ o ∈ ol, still P o.op = true) → RelS τ cx S ds a.tmps w →
    opsL G call ops (List.range' i ol.length ++ tl) (ds.map er) k = some r →
    (∀ ds' S' a', opsL G call ops tl (ds'.map er) k = some r → RelS τ cx S' ds' a'.tmps w → a'.defers = a.defers → Q a') → wpStill P ops w Q ol a := by
  intro ol
  induction ol with
  | nil =>
    intro i a S ds _ _ h hl hk
    exact hk ds S a (by simpa using hl) h rfl
  | cons o ol ih =>
    intro i a S ds hol hst h hl hk
    have h0 : ops[i]? = some o := by simpa using (hol 0 (by simp)).symm
    rw [List.length_cons, List.range'_succ, List.cons_append] at hl
    have hol' : ∀ j, j < ol.length → ol[j]? = ops[i + 1 + j]? := fun j hj => by
      have := hol (j + 1) (by simpa using hj)
      simpa [Nat.add_assoc, Nat.add_comm 1 j] using this
    have next : ∀ st', opsL G call ops (List.range' (i + 1) ol.length ++ tl) st' k = some r → ∀ ds' S' v, st' = ds'.map er → RelS τ cx S' ds' (a.put o.dst v).tmps w → wpStill P ops w Q ol (a.put o.dst v) := by
      intro st' hl' ds' S' v e h'
      subst e
      refine ih (i + 1) _ S' ds' hol' (fun o ho => hst o (by simp [ho])) h' hl' (fun ds2 S2 a2 g1 g2 g3 => hk ds2 S2 a2 g1 g2 (by rw [g3, put_defers]))
    simp only [wpStill]
    rcases opsL_step h h0 hl with ⟨hw, ds1, h1, hl1⟩ | ⟨hw, ds1, h1, hl1⟩
    · rw [if_pos hw]
      exact opK_still hE (hst o (by simp)) h1 hl1 next
    · rw [if_neg (by simp [hw])]
      exact next _ hl1 ds1 S undef rfl h1

theorem headLen_le (env : Env) : ∀ l : List Oper, headLen env l ≤ l.length
  | [] => Nat.le_refl _
  | o :: l => by
    simp only [headLen]
    cases stillL env o.op with
    | true => simp only [cond_true, List.length_cons]; have := headLen_le env l; omega
    | false => simp

theorem headLen_still (env : Env) : ∀ l : List Oper, ∀ o : Oper, o ∈ l.take (headLen env l) → stillL env o.op = true
  | [], o, h => by simp at h
  | o' :: l, o, h => by
    simp only [headLen] at h
    cases hs : stillL env o'.op with
    | true =>
      rw [hs] at h
      simp only [cond_true, List.take_succ_cons, List.mem_cons] at h
      rcases h with rfl | h
      · exact hs
      · exact headLen_still env l o h
    | false => rw [hs] at h; simp at h

theorem draw_ok {id : Nat} {k : St → Option R} {r : R} {Q : Exit → Act → World → Prop} {ops : Array Oper} (hE : EnvOk P G.toEnv) (hm : P.follows .mixedOrders = true) (hcall : CallsOk Kw τ P G call)
    (hd : drawOk G.toEnv ops = true) (h : RelS τ cx S ds a.tmps w) (hl : opsL G call ops (List.range ops.size) (ds.map er) k = some r)
    (hk : ∀ st', k st' = some r → ∀ ds' S' a' w', st' = ds'.map er → RelS τ cx S' ds' a'.tmps w' → a'.defers = a.defers → Q .normal a' w') : (Code.region id ops true).wp P Q a w := by
  have hw1 : RelS τ cx S ds a.tmps { w with drawn := w.drawn + 1 } := h.grows ⟨rfl, rfl, rfl, Nat.le_refl _, fun _ _ => rfl⟩
  unfold drawOk at hd
  have hle := headLen_le G.toEnv ops.toList
  have hst := headLen_still G.toEnv ops.toList
  cases hn : (headLen G.toEnv ops.toList == ops.size) with
  | true =>
    rw [hn] at hd
    simp only [cond_true] at hd
    simp only [beq_iff_eq] at hn
    have htake : ops.toList.take (headLen G.toEnv ops.toList) = ops.toList := List.take_of_length_le (by simp [hn])
    rw [htake] at hst
    refine wp_region_still hm hd ?_
    refine opsL_still (call := call) (k := k) (r := r) hE [] _ ops.toList 0 a S ds (by simp) (fun o ho => stillL_ok hE (hst o ho)) hw1 ?_ ?_
    · rw [List.append_nil, ← List.range_eq_range', Array.length_toList]
      exact hl
    · intro ds' S' a' g1 g2 g3
      exact hk _ g1 ds' S' a' _ rfl g2 g3
  | false =>
    rw [hn] at hd
    simp only [cond_false] at hd
    obtain ⟨l⟩ := ops
    simp only at *
    refine wp_region_still_tail (headLen G.toEnv l) hm hd ?_
    have hlen : (l.take (headLen G.toEnv l)).length = headLen G.toEnv l := by rw [List.length_take]; omega
    refine opsL_still (call := call) (k := k) (r := r) hE (List.range' (headLen G.toEnv l) (l.length - headLen G.toEnv l)) _ (l.take (headLen G.toEnv l)) 0 a S ds ?_ (fun o ho => stillL_ok hE (hst o ho)) hw1 ?_ ?_
    · intro j hj
      rw [hlen] at hj
      simp [List.getElem?_take, hj]
    · rw [hlen]
      have : List.range' 0 (headLen G.toEnv l) ++ List.range' (headLen G.toEnv l) (l.length - headLen G.toEnv l) = List.range l.length := by
        rw [List.range_eq_range']
        have := List.range'_append (s := 0) (m := headLen G.toEnv l) (n := l.length - headLen G.toEnv l) (step := 1)
        simp only [Nat.one_mul, Nat.zero_add] at this
        rw [this]
        congr 1
        omega
      rw [this]
      exact hl
    · intro ds' S' a' g1 g2 g3
      have hdl : (l.drop (headLen G.toEnv l)).length = l.length - headLen G.toEnv l := List.length_drop
      rw [← wpOps_eq_wpList (l.drop (headLen G.toEnv l)) (headLen G.toEnv l) (fun j => by simp [List.getElem?_drop]), hdl]
      exact opsL_ok hE hcall _ a' S' ds' _ g2 g1 (fun st2 q1 ds2 S2 a2 w2 q2 q3 q4 => hk st2 q1 ds2 S2 a2 w2 q2 q3 (by rw [q4, g3]))

end Lk

namespace Lk
open Go
variable {Kw : World → Prop}
variable {τ : TypeId} {cx : Cx Kw} {S : Nat → Prop} {ds : DSt} {w : World} {P : Program} {a : Act} {o : Oper} {cs : List Bool} {st' : St} {R : Type} {G : Prg}
  {call : (f : FuncId) → Tup (G.sig f).ps → Option (Tup (G.sig f).rs)}

/-- One step of L's way through a region. -/
theorem opsLq_step {k : St → Option R} {r : R} {ops : Array Oper} {i : Nat} {rest : List Nat} (h : RelS τ cx S ds a.tmps w) (hop : ops[i]? = some o)
    (hl : opsLq G call ops (i :: rest) (ds.map er) k = some r) :
    (Region.wanted o (yielded ops a.tmps) = true ∧ ∃ ds1, RelS τ cx S ds1 a.tmps w ∧ opKq G call o (ds1.map er) (fun st => opsLq G call ops rest st k) = some r) ∨
    (Region.wanted o (yielded ops a.tmps) = false ∧ ∃ ds1, RelS τ cx S ds1 (a.put o.dst undef).tmps w ∧ opsLq G call ops rest (ds1.map er) k = some r) := by
  simp only [opsLq, hop] at hl
  have skip : ∀ (ds : DSt), RelS τ cx S ds a.tmps w → (setD (ds.map er) o.dst .no).bind (fun st => opsLq G call ops rest st k) = some r →
      ∃ ds1, RelS τ cx S ds1 (a.put o.dst undef).tmps w ∧ opsLq G call ops rest (ds1.map er) k = some r := by
    intro ds h hl
    rw [Option.bind_eq_some_iff] at hl
    obtain ⟨st1, hs, hl⟩ := hl
    obtain ⟨ds', e1, h2⟩ := h.setD (e := .no) (v := undef) hs rfl (by simp [Ent.bl]) (by simp [Ent.bl])
    subst e1
    exact ⟨ds', h2, hl⟩
  cases hg : o.guard with
  | none =>
    rw [hg] at hl
    simp only at hl
    exact .inl ⟨by simp [Region.wanted, hg], ds, h, hl⟩
  | some jw =>
    obtain ⟨j, want⟩ := jw
    rw [hg] at hl
    simp only at hl
    cases hj : (ops[j]?).bind (·.dst) with
    | none => rw [hj] at hl; cases hl
    | some s =>
      rw [hj] at hl
      simp only at hl
      split at hl
      · rename_i m x hst
        obtain ⟨d, hd, hdv⟩ := getD_er hst
        obtain ⟨t0, m0, x0, sh⟩ := d
        simp only [DV.av, AV.mk.injEq] at hdv
        obtain ⟨rfl, rfl, hx⟩ := hdv
        cases hx
        have hval := (h.ok s _ hd).2
        have hsl : s < a.tmps.size := by rw [h.size]; exact lt_of_get hd
        have hy : yielded ops a.tmps j = some x := by
          unfold yielded
          rw [hj]
          have : a.tmps[s]? = some (.bool x) := by
            rw [Array.getD_eq_getD_getElem?, Array.getElem?_eq_getElem hsl] at hval
            rw [Array.getElem?_eq_getElem hsl]
            simpa [DV.val, DV.cells, cells, valOf, isAggT] using hval
          simp [this]
        have hR := h.litB hd
        have hset : ∀ y, y = x → (ds.map er).set s (.av (mkB y)) = (ds.set s (.av ⟨.b, .r, x, ()⟩)).map er := by
          intro y e; subst e; rw [List.map_set]; rfl
        have hw : Region.wanted o (yielded ops a.tmps) = (x == want) := by
          simp only [Region.wanted, hg, hy]
          cases x <;> cases want <;> rfl
        rw [hw]
        cases want <;> cases x <;> simp only [sel, cond_true, cond_false, if_true, if_false, Bool.false_eq_true] at hl
        · rw [hset _ rfl] at hl; exact .inl ⟨rfl, _, hR, hl⟩
        · rw [hset _ rfl] at hl; exact .inr ⟨rfl, skip _ hR hl⟩
        · rw [hset _ rfl] at hl; exact .inr ⟨rfl, skip _ hR hl⟩
        · rw [hset _ rfl] at hl; exact .inl ⟨rfl, _, hR, hl⟩
      · rename_i hst
        have hd := getD_er_no hst
        have hval : a.tmps.getD s undef = undef := h.ok s _ hd
        have hsl : s < a.tmps.size := by rw [h.size]; exact lt_of_get hd
        have hy : yielded ops a.tmps j = none := by
          unfold yielded
          rw [hj]
          have : a.tmps[s]? = some undef := by
            rw [Array.getD_eq_getD_getElem?, Array.getElem?_eq_getElem hsl] at hval
            rw [Array.getElem?_eq_getElem hsl]
            simpa using hval
          simp only [Option.bind_some, this]
          rfl
        exact .inr ⟨by simp [Region.wanted, hg, hy], skip _ h hl⟩
      · cases hl

theorem cells_flat : ∀ (t : Ty) (x : E t) (sh sh' : Sh t), flat t = true → noE t = true → cells τ t x sh = cells τ t x sh' := by
  intro t
  induction t with
  | c a r iha ihr =>
    intro x sh sh' h h'
    simp only [flat, noE, Bool.and_eq_true] at h h'
    simp only [cells]
    rw [iha _ _ _ h.1 h'.1, ihr _ _ _ h.2 h'.2]
  | l t _ => intro x sh sh' h; simp [flat] at h
  | p t _ => intro x sh sh' h; simp [flat] at h
  | e => intro x sh sh' _ h; simp [noE] at h
  | _ => intro x sh sh' h _; simp only [cells]

def canon : (rs : List (Ty × Md)) → Tup rs → List DV
  | [], _ => []
  | p :: rs, r => ⟨p.1, p.2, r.1, shd p.1⟩ :: canon rs r.2

theorem canon_av : ∀ (rs : List (Ty × Md)) (r : Tup rs), (canon rs r).map DV.av = avs rs r
  | [], _ => rfl
  | p :: rs, r => by simp only [canon, avs, List.map_cons, DV.av, canon_av rs r.2]

theorem canon_vals : ∀ (rs : List (Ty × Md)) (r : Tup rs) (rds : List DV), scal rs = true → rds.map DV.av = avs rs r → rds.map (DV.val τ) = (canon rs r).map (DV.val τ)
  | [], _, rds, _, h => by simp only [avs, List.map_eq_nil_iff] at h; subst h; rfl
  | p :: rs, r, rds, hs, h => by
    cases rds with
    | nil => simp [avs] at h
    | cons d rds =>
      simp only [scal, List.all_cons, Bool.and_eq_true] at hs
      simp only [avs, List.map_cons, List.cons.injEq] at h
      obtain ⟨h1, h2⟩ := h
      obtain ⟨t, m, x, sh⟩ := d
      simp only [DV.av, AV.mk.injEq] at h1
      obtain ⟨rfl, rfl, h1⟩ := h1
      have h1 := eq_of_heq h1
      subst h1
      simp only [canon, List.map_cons]
      rw [canon_vals rs r.2 rds (by simpa [scal] using hs.2) h2]
      congr 1
      simp only [DV.val, DV.cells, cells_flat _ _ sh (shd p.1) hs.1.1.1 hs.1.1.2]

theorem canon_hold {w1 w2 : World} {S1 S2 : Nat → Prop} : ∀ (rs : List (Ty × Md)) (r : Tup rs) (rds : List DV), scal rs = true → rds.map DV.av = avs rs r → (∀ d ∈ rds, d.hold τ S1 S2 w1) →
    ∀ d ∈ canon rs r, d.hold τ (fun _ => False) (fun _ => False) w2 ∧ d.bl = []
  | [], _, _, _, _, _ => by intro d hd; simp [canon] at hd
  | p :: rs, r, rds, hs, h, hh => by
    cases rds with
    | nil => simp [avs] at h
    | cons d rds =>
      simp only [scal, List.all_cons, Bool.and_eq_true] at hs
      simp only [avs, List.map_cons, List.cons.injEq] at h
      obtain ⟨h1, h2⟩ := h
      have ih := canon_hold (w1 := w1) (w2 := w2) (S1 := S1) (S2 := S2) rs r.2 rds (by simpa [scal] using hs.2) h2 (fun d hd => hh d (List.mem_cons_of_mem _ hd))
      intro d' hd'
      simp only [canon, List.mem_cons] at hd'
      rcases hd' with rfl | hd'
      · have h0 := hh d (List.mem_cons_self ..)
        obtain ⟨t, m, x, sh⟩ := d
        simp only [DV.av, AV.mk.injEq] at h1
        obtain ⟨rfl, rfl, h1⟩ := h1
        have h1 := eq_of_heq h1
        subst h1
        have hr := flat_rd (τ := τ) (S' := fun _ => False) (w' := w2) _ _ _ _ hs.1.1.1 hs.1.2 h0
        rw [cells_flat _ _ sh (shd p.1) hs.1.1.1 hs.1.1.2] at hr
        exact ⟨flat_hold _ _ _ _ hs.1.1.1 hr, flat_bl _ _ _ _ hs.1.1.1⟩
      · exact ih d' hd'

theorem resV_eq {l l' : List DV} (h : l.map (DV.val τ) = l'.map (DV.val τ)) : resV (τ := τ) l = resV (τ := τ) l' := by
  have hl : l.length = l'.length := by have := congrArg List.length h; simpa using this
  match l, l', hl, h with
  | [], [], _, _ => rfl
  | [a], [b], _, h => simpa [resV] using h
  | a :: b :: l, c :: d :: l', _, h => simp only [resV]; rw [h]

theorem Ext.grows {w w' : World} (h : Ext [] w w') : Grows w w' := ⟨h.os, h.tape, h.output, h.size, fun b hb => h.block b hb (by simp)⟩

/-- What only hands values on. -/
theorem pass {k : St → Option R} {r : R} {next : Act → Prop} (hE : EnvOk P G.toEnv) (hst : still P o.op = true)
    (h : RelS τ cx S ds a.tmps w) (hl : ((opL G.toEnv o (ds.map er)).bind fun r => guardAll r.1 (k r.2)) = some r)
    (hk : ∀ st', k st' = some r → ∀ ds' S' v, st' = ds'.map er → RelS τ cx S' ds' (a.put o.dst v).tmps w → next (a.put o.dst v))
    (hind : ∀ n w1 w2, (execOp a.eval o).run P w1 = .ok n w1 → (execOp a.eval o).run P w2 = .ok n w2) : o.quiet P a (fun w' => Ext [] w w') next := by
  rw [Option.bind_eq_some_iff] at hl
  obtain ⟨⟨cs, st1⟩, hop, hl⟩ := hl
  obtain ⟨hcs, hl⟩ := guardAll_some hl
  obtain ⟨n, v, w', ds', S', h1, ⟨h2, h2'⟩, h3, h4⟩ := opL_ok hE h hop hcs
  have hw := h2' hst
  subst hw
  refine ⟨v, fun w' _ => ?_, hk _ hl ds' S' v h3 h4⟩
  unfold Oper.quietAt
  rw [hind n _ w' h1]
  rcases h2 with rfl | ⟨rfl, rfl⟩
  · exact ⟨rfl, rfl⟩
  · exact ⟨rfl, rfl⟩

theorem flat_value {d : Nat} {v : Value} {ds' : DSt} {S' : Nat → Prop} {u : AV} (h : RelS τ cx S' ds' (a.put (some d) v).tmps w) (hu : (ds'.map er).getD d .dead = .av u) (hf : flat u.t = true) (hn : noE u.t = true) : v = valOf u.t (cells τ u.t u.x (shd u.t)) := by
  obtain ⟨dv, hd, rfl⟩ := getD_er hu
  have hok := (h.ok d _ hd).2
  have hlt := lt_of_get hd
  rw [← h.size] at hlt
  have hv : (a.put (some d) v).tmps.getD d undef = v := by
    simp only [Act.put] at hlt ⊢
    rw [getD_set, if_pos ⟨rfl, by simpa using hlt⟩]
  rw [hv] at hok
  rw [hok]
  obtain ⟨t, m, x, sh⟩ := dv
  simp only [DV.val, DV.cells, DV.av] at hf ⊢
  rw [cells_flat t x sh (shd t) hf hn]

/-- What reads, and answers without memory. -/
theorem flatpass {k : St → Option R} {r : R} {next : Act → Prop} (hE : EnvOk P G.toEnv) (hst : still P o.op = true)
    (h : RelS τ cx S ds a.tmps w) (hl : ((opL G.toEnv o (ds.map er)).bind fun r => bif flatAt r.2 o.dst then guardAll r.1 (k r.2) else none) = some r)
    (hk : ∀ st', k st' = some r → ∀ ds' S' v, st' = ds'.map er → RelS τ cx S' ds' (a.put o.dst v).tmps w → next (a.put o.dst v)) : o.quiet P a (fun w' => Ext [] w w') next := by
  rw [Option.bind_eq_some_iff] at hl
  obtain ⟨⟨cs, st1⟩, hop, hl⟩ := hl
  simp only at hl
  cases hfl : flatAt st1 o.dst with
  | false => rw [hfl] at hl; cases hl
  | true =>
  rw [hfl] at hl
  simp only [cond_true] at hl
  obtain ⟨hcs, hl⟩ := guardAll_some hl
  obtain ⟨d, u, hd, hu, hf⟩ : ∃ d u, o.dst = some d ∧ st1.getD d .dead = .av u ∧ (flat u.t = true ∧ noE u.t = true) := by
    unfold flatAt at hfl
    split at hfl
    · rename_i d hd
      split at hfl
      · rename_i u hu; exact ⟨d, u, hd, hu, by simpa using hfl⟩
      · cases hfl
    · cases hfl
  have key : ∀ w', Ext [] w w' → ∃ n, (execOp a.eval o).run P w' = .ok n w' ∧ (n = .value (valOf u.t (cells τ u.t u.x (shd u.t))) ∨ (n = .skip ∧ valOf u.t (cells τ u.t u.x (shd u.t)) = undef)) ∧
      ∃ ds' S', st1 = ds'.map er ∧ RelS τ cx S' ds' (a.put o.dst (valOf u.t (cells τ u.t u.x (shd u.t)))).tmps w' := by
    intro w' hx
    obtain ⟨n, v, w2, ds', S', h1, ⟨h2, h2'⟩, h3, h4⟩ := opL_ok hE (h.grows hx.grows) hop hcs
    have hw := h2' hst
    subst hw
    have hv : v = valOf u.t (cells τ u.t u.x (shd u.t)) := by
      rw [hd] at h4
      exact flat_value h4 (by rw [← h3]; exact hu) hf.1 hf.2
    subst hv
    exact ⟨n, h1, h2, ds', S', h3, h4⟩
  refine ⟨valOf u.t (cells τ u.t u.x (shd u.t)), fun w' hx => ?_, ?_⟩
  · obtain ⟨n, h1, h2, _⟩ := key w' hx
    unfold Oper.quietAt
    rw [h1]
    rcases h2 with rfl | ⟨rfl, h2⟩
    · exact ⟨rfl, rfl⟩
    · exact ⟨rfl, h2⟩
  · obtain ⟨_, _, _, ds', S', h3, h4⟩ := key w (Ext.refl w)
    exact hk _ hl ds' S' _ h3 h4

theorem opKq_ok {k : St → Option R} {r : R} {next : Act → Prop} (hE : EnvOk P G.toEnv) (hcall : CallsOk Kw τ P G call)
    (h : RelS τ cx S ds a.tmps w) (hl : opKq G call o (ds.map er) k = some r)
    (hk : ∀ st', k st' = some r → ∀ ds' S' v, st' = ds'.map er → RelS τ cx S' ds' (a.put o.dst v).tmps w → next (a.put o.dst v)) : o.quiet P a (fun w' => Ext [] w w') next := by
  unfold opKq at hl
  split at hl
  · rename_i op g args aT ho
    cases hsc : scal (G.sig g).rs with
    | false => rw [hsc] at hl; cases hl
    | true =>
    rw [hsc] at hl
    simp only [cond_true] at hl
    rw [Option.bind_eq_some_iff] at hl
    obtain ⟨xs, hxs, hl⟩ := hl
    unfold obind at hl
    rw [Option.bind_eq_some_iff] at hl
    obtain ⟨res, hres, hl⟩ := hl
    rw [Option.bind_eq_some_iff] at hl
    obtain ⟨st1, hs, hl⟩ := hl
    have one : ∀ w', Ext [] w w' → Calls P g (args.map a.eval) w' fun e w'' => e = .returned (resV (τ := τ) (canon (G.sig g).rs res)) ∧ Ext [] w w'' ∧ (∀ d ∈ canon (G.sig g).rs res, d.hold τ (fun _ => False) (fun _ => False) w ∧ d.bl = []) := by
      intro w' hx
      have h' := h.grows hx.grows
      have hargs := argsL_ok h' _ _ _ hxs
      have hsets : ∀ b, S b ∨ (cx.Sb b ∨ b ∈ blocks ds) → b < w'.heap.size := by
        intro b hb
        rcases hb with hb | hb | hb
        · exact (h'.inv.sw b (.inl hb)).1
        · exact (h'.inv.sw b (.inr hb)).1
        · exact (h'.inv.own b hb).1
      have hC := hcall.fn g xs res hres w' S (fun b => cx.Sb b ∨ b ∈ blocks ds) _ (cx.kk w' h'.inv.ext) hsets hargs
      have hva : (args.toList.map a.eval).toArray = args.map a.eval := by
        rw [← Array.toList_map, Array.toArray_toList]
      rw [hva] at hC
      refine hC.mono ?_
      rintro e w'' ⟨v, rfl, hext, ⟨rds, q1, q2, q3, q4, q5⟩⟩
      refine ⟨?_, ⟨hext.os.trans hx.os, hext.tape.trans hx.tape, hext.output.trans hx.output, Nat.le_trans hx.size hext.size, fun b hb hn => ?_⟩, canon_hold _ _ rds hsc q1 q2⟩
      · rw [q5, resV_eq (canon_vals _ _ rds hsc q1)]
      · rw [hext.block b (Nat.lt_of_lt_of_le hb hx.size) (by simp), hx.block b hb hn]
    have hrun : ∀ w', (execOp a.eval o).run P w' = .ok (.enter g (args.map a.eval)) w' := by
      intro w'
      simp only [execOp, ho]
      unfold resolve
      simp only [Act.eval, Deferred.ofValue, Sem.run_bind, Sem.run_pure, Result.andThen_ok]
      have := hcall.enter g xs res hres (args.map a.eval) w'
      simp only [invoke, Array.empty_append, Array.append_empty]
      simpa [Array.empty_append] using this
    have hcan : ∀ d ∈ canon (G.sig g).rs res, d.hold τ (fun _ => False) (fun _ => False) w ∧ d.bl = [] := by
      obtain ⟨e, w1, fr, hR, _⟩ := one w (Ext.refl w) []
      exact hR.2.2
    refine ⟨resV (τ := τ) (canon (G.sig g).rs res), fun w' hx => ?_, ?_⟩
    · unfold Oper.quietAt
      rw [hrun w']
      exact ⟨rfl, (one w' hx).mono fun e w'' h => ⟨h.1, h.2.1⟩⟩
    · obtain ⟨ee, e1, e2, e3⟩ := resE_of (τ := τ) _ (canon (G.sig g).rs res) (canon_av _ _)
      rw [← e1] at hs
      have hbl : ((canon (G.sig g).rs res).map DV.bl).flatten = [] := by
        rw [List.flatten_eq_nil_iff]
        intro l hl'
        obtain ⟨d, hd, rfl⟩ := List.mem_map.1 hl'
        exact (hcan d hd).2
      obtain ⟨ds', k1, k2⟩ := h.setD (e := ee) (v := resV (τ := τ) (canon (G.sig g).rs res)) hs (e3 _ _ _ _ (fun d hd => hold_false (hcan d hd).1)) (by rw [e2, hbl]; simp) (fun b hb => by rw [e2, hbl] at hb; simp at hb)
      exact hk st1 hl ds' S _ k1 k2
  · rename_i x ho
    exact pass hE (by rw [ho]; rfl) h hl hk (fun n w1 w2 hr => by simp only [execOp, ho, Sem.run_pure, Result.ok.injEq, and_true] at hr ⊢; exact hr)
  · rename_i x ho
    exact pass hE (by rw [ho]; rfl) h hl hk (fun n w1 w2 hr => by simp only [execOp, ho, Sem.run_pure, Result.ok.injEq, and_true] at hr ⊢; exact hr)
  · rename_i x j ho
    refine pass hE (by rw [ho]; rfl) h hl hk (fun n w1 w2 hr => ?_)
    simp only [execOp, ho, Instr.extract] at hr ⊢
    revert hr
    cases a.eval x <;> simp [stuck, go_sem] <;> intro hr <;> revert hr
    rename_i vs
    cases vs[j]? <;> simp [stuck, go_sem]
  · cases hst : stillL G.toEnv o.op with
    | false => rw [hst] at hl; cases hl
    | true =>
      rw [hst] at hl
      exact flatpass hE (stillL_ok hE hst) h hl hk

theorem opsLq_quiet {k : St → Option R} {r : R} {ops : Array Oper} (hE : EnvOk P G.toEnv) (hcall : CallsOk Kw τ P G call) (Q : Act → Prop) :
    ∀ (ol : List Oper) (i : Nat) (a : Act) (S : Nat → Prop) (ds : DSt), (∀ j, j < ol.length → ol[j]? = ops[i + j]?) → RelS τ cx S ds a.tmps w →
    opsLq G call ops (List.range' i ol.length) (ds.map er) k = some r →
    (∀ ds' S' a', k (ds'.map er) = some r → RelS τ cx S' ds' a'.tmps w → a'.defers = a.defers → Q a') → wpQuiet P ops (fun w' => Ext [] w w') Q ol a := by
  intro ol
  induction ol with
  | nil =>
    intro i a S ds _ h hl hk
    exact hk ds S a (by simpa [opsLq] using hl) h rfl
  | cons o ol ih =>
    intro i a S ds hol h hl hk
    have h0 : ops[i]? = some o := by simpa using (hol 0 (by simp)).symm
    rw [List.length_cons, List.range'_succ] at hl
    have hol' : ∀ j, j < ol.length → ol[j]? = ops[i + 1 + j]? := fun j hj => by
      have := hol (j + 1) (by simpa using hj)
      simpa [Nat.add_assoc, Nat.add_comm 1 j] using this
    have next : ∀ st', opsLq G call ops (List.range' (i + 1) ol.length) st' k = some r → ∀ ds' S' v, st' = ds'.map er → RelS τ cx S' ds' (a.put o.dst v).tmps w → wpQuiet P ops (fun w' => Ext [] w w') Q ol (a.put o.dst v) := by
      intro st' hl' ds' S' v e h'
      subst e
      refine ih (i + 1) _ S' ds' hol' h' hl' (fun ds2 S2 a2 g1 g2 g3 => hk ds2 S2 a2 g1 g2 (by rw [g3, put_defers]))
    simp only [wpQuiet]
    rcases opsLq_step h h0 hl with ⟨hw, ds1, h1, hl1⟩ | ⟨hw, ds1, h1, hl1⟩
    · rw [if_pos hw]
      exact opKq_ok hE hcall h1 hl1 next
    · rw [if_neg (by simp [hw])]
      exact next _ hl1 ds1 S undef rfl h1

theorem draw_okq {id : Nat} {k : St → Option R} {r : R} {Q : Exit → Act → World → Prop} {ops : Array Oper} (hE : EnvOk P G.toEnv) (hm : P.follows .mixedOrders = true) (hcall : CallsOk Kw τ P G call)
    (hd : Region.lexB .any ops = true) (h : RelS τ cx S ds a.tmps w) (hl : opsLq G call ops (List.range ops.size) (ds.map er) k = some r)
    (hk : ∀ st', k st' = some r → ∀ ds' S' a' w', st' = ds'.map er → RelS τ cx S' ds' a'.tmps w' → a'.defers = a.defers → Q .normal a' w') : (Code.region id ops true).wp P Q a w := by
  have hw1 : RelS τ cx S ds a.tmps { w with drawn := w.drawn + 1 } := h.grows ⟨rfl, rfl, rfl, Nat.le_refl _, fun _ _ => rfl⟩
  refine wp_region_quiet (C := fun w' => Ext [] { w with drawn := w.drawn + 1 } w') hm hd (Ext.refl _) ?_
  refine opsLq_quiet (k := k) (r := r) hE hcall _ ops.toList 0 a S ds (by simp) hw1 ?_ ?_
  · rw [← List.range_eq_range', Array.length_toList]
    exact hl
  · intro ds' S' a' g1 g2 g3 w' hx
    exact hk _ g1 ds' S' a' w' rfl (g2.grows hx.grows) g3
end Lk

namespace Lk
open Go
variable {Kw : World → Prop}
variable {τ : TypeId} {cx : Cx Kw} {S : Nat → Prop} {ds : DSt} {w : World} {P : Program} {a : Act} {o : Oper} {cs : List Bool} {st' : St} {R : Type} {G : Prg}
  {call : (f : FuncId) → Tup (G.sig f).ps → Option (Tup (G.sig f).rs)}

def Xit.to : Xit → Exit
  | .normal => .normal | .exit i => .exit i | .ret => .ret

theorem turn_map {V B V' B' : Type} (f : V → V') (g : B → B') (live : List Nat) (st : List (Ent V B)) : (turn live st).map (Ent.map f g) = turn live (st.map (Ent.map f g)) := by
  unfold turn
  suffices ∀ (l : List Nat) (st : List (Ent V B)),
      (l.foldl (fun st i => match (st.getD i .dead).root with | some s => bif memb live s then st else kill s st | none => st) st).map (Ent.map f g) =
        l.foldl (fun st i => match (st.getD i .dead).root with | some s => bif memb live s then st else kill s st | none => st) (st.map (Ent.map f g)) from this live st
  intro l
  induction l with
  | nil => intro st; rfl
  | cons i l ih =>
    intro st
    simp only [List.foldl_cons]
    rw [ih]
    congr 1
    have : ((st.map (Ent.map f g)).getD i .dead).root = (st.getD i .dead).root := by
      rw [List.getD_eq_getElem?_getD, List.getD_eq_getElem?_getD, List.getElem?_map]
      cases st[i]? with
      | none => rfl
      | some e => exact root_map f g e
    rw [this]
    cases (st.getD i .dead).root with
    | none => rfl
    | some s =>
      simp only
      cases memb live s with
      | true => rfl
      | false => exact kill_map f g s st

theorem maskGo_map {V B V' B' : Type} (f : V → V') (g : B → B') (live : List Nat) : ∀ (st : List (Ent V B)) (i : Nat), (maskGo live i st).map (Ent.map f g) = maskGo live i (st.map (Ent.map f g))
  | [], _ => rfl
  | e :: st, i => by
    simp only [maskGo, List.map_cons, maskGo_map f g live st (i + 1)]
    congr 1
    have : keeps live i (e.map f g) = keeps live i e := by unfold keeps; rw [root_map]
    rw [this]
    cases keeps live i e <;> rfl

theorem maskGo_get {V B : Type} (live : List Nat) : ∀ (st : List (Ent V B)) (i k : Nat), (maskGo live i st)[k]? = (st[k]?).map fun e => bif keeps live (i + k) e then e else .dead
  | [], _, _ => rfl
  | e :: st, i, 0 => by simp [maskGo]
  | e :: st, i, k + 1 => by
    simp only [maskGo, List.getElem?_cons_succ, maskGo_get live st (i + 1) k]
    rw [Nat.add_assoc, Nat.add_comm 1 k]

theorem maskGo_length {V B : Type} (live : List Nat) : ∀ (st : List (Ent V B)) (i : Nat), (maskGo live i st).length = st.length
  | [], _ => rfl
  | e :: st, i => by simp [maskGo, maskGo_length live st (i + 1)]

theorem RelS.maskGo {tmps : Array Value} (h : RelS τ cx S ds tmps w) (live : List Nat) : RelS τ cx S (Lk.maskGo live 0 ds) tmps w := by
  have hget : ∀ k, (Lk.maskGo live 0 ds)[k]? = (ds[k]?).map fun e => bif keeps live k e then e else .dead := fun k => by
    rw [maskGo_get, Nat.zero_add]
  have hsub := blocks_sub (ds := ds) (ds' := Lk.maskGo live 0 ds) (maskGo_length live ds 0) (by
    intro k e e' he he'
    rw [hget, he] at he'
    simp only [Option.map_some, Option.some.injEq] at he'
    subst he'
    cases keeps live k e with
    | true => exact .inl rfl
    | false => exact .inr rfl)
  refine ⟨by rw [maskGo_length]; exact h.size, h.inv.fewer (fun b hb => hsub.subset hb) (h.inv.nodup.sublist hsub), fun k e' he => ?_⟩
  rw [hget, Option.map_eq_some_iff] at he
  obtain ⟨e, he, hk⟩ := he
  cases hkeep : keeps live k e with
  | false => rw [hkeep] at hk; subst hk; trivial
  | true =>
    rw [hkeep] at hk
    simp only [cond_true] at hk
    subst hk
    refine ok_roots (h.ok k _ he) (fun s d hr hd => ?_)
    rw [hget, hd]
    simp only [Option.map_some, Option.some.injEq]
    have hs : memb live s = true := by
      unfold keeps at hkeep
      rw [hr] at hkeep
      cases hm : memb live k with
      | false => rw [hm] at hkeep; cases hkeep
      | true => rw [hm] at hkeep; exact hkeep
    have : keeps live s (Ent.av d : Ent DV Nat) = true := by
      unfold keeps
      rw [hs]; rfl
    rw [this]; rfl

theorem RelS.mask {tmps : Array Value} (h : RelS τ cx S ds tmps w) (live : List Nat) : ∃ ds', Lk.mask live (ds.map er) = ds'.map er ∧ RelS τ cx S ds' tmps w := by
  have key : ∀ (l : List Nat) (ds : DSt), RelS τ cx S ds tmps w →
      RelS τ cx S (l.foldl (fun st i => match (st.getD i .dead).root with | some s => bif memb live s then st else Lk.kill s st | none => st) ds) tmps w := by
    intro l
    induction l with
    | nil => exact fun ds h => h
    | cons i l ih =>
      intro ds h
      simp only [List.foldl_cons]
      apply ih
      split
      · rename_i s hs
        cases memb live s with
        | true => exact h
        | false => exact h.kill s
      · exact h
  refine ⟨_, ?_, (key live ds h).maskGo live⟩
  unfold Lk.mask er
  rw [← turn_map, ← maskGo_map]
  rfl

/-- What is asked of the way on. -/
def KOk (τ : TypeId) (cx : Cx Kw) (dfs : List Deferred) (K : Xit → St → Option R) (r : R) (Q : Exit → Act → World → Prop) : Prop :=
  ∀ e st, K e st = some r → ∀ ds S a w, st = ds.map er → RelS τ cx S ds a.tmps w → a.defers = dfs → Q e.to a w

/-- A piece of code does what L says of it. -/
def COk (τ : TypeId) (P : Program) (cx : Cx Kw) (c : Code) (run : St → (Xit → St → Option R) → Option R) : Prop :=
  ∀ st K r, run st K = some r → ∀ (Q : Exit → Act → World → Prop) ds S a w, st = ds.map er → RelS τ cx S ds a.tmps w → KOk τ cx a.defers K r Q → c.wp P Q a w

theorem stepC_ok (hE : EnvOk P G.toEnv) (hm : P.follows .mixedOrders = true) (hcall : CallsOk Kw τ P G call) {f : FuncId} {loopK : Code → St → (Xit → St → Option R) → Option R} (hloop : ∀ c, COk τ P cx c (loopK c)) :
    ∀ c, COk τ P cx c (stepC G call f loopK c) := by
  intro c
  induction c with
  | skip =>
    intro st K r hl Q ds S a w e h hK
    exact wp_skip (hK .normal st hl ds S a w e h rfl)
  | region id ops draw =>
    intro st K r hl Q ds S a w e h hK
    subst e
    simp only [stepC] at hl
    cases hc : (!draw || drawOk G.toEnv ops) with
    | false =>
      rw [hc] at hl
      simp only [cond_false] at hl
      cases hb : Region.lexB .any ops with
      | false => rw [hb] at hl; cases hl
      | true =>
        rw [hb] at hl
        simp only [cond_true] at hl
        cases draw with
        | true => exact draw_okq hE hm hcall hb h hl (fun st1 h1 ds1 S1 a1 w1 e1 h2 hd => hK .normal st1 h1 ds1 S1 a1 w1 e1 h2 hd)
        | false => simp at hc
    | true =>
      rw [hc] at hl
      simp only [cond_true] at hl
      cases draw with
      | true =>
        exact draw_ok hE hm hcall (by simpa using hc) h hl (fun st1 h1 ds1 S1 a1 w1 e1 h2 hd => hK .normal st1 h1 ds1 S1 a1 w1 e1 h2 hd)
      | false =>
        exact wp_region (opsL_ok hE hcall _ a S ds w h hl (fun st1 h1 ds1 S1 a1 w1 e1 h2 hd => hK .normal st1 h1 ds1 S1 a1 w1 e1 h2 hd))
  | seq x y ihx ihy =>
    intro st K r hl Q ds S a w e h hK
    simp only [stepC] at hl
    refine wp_seq (ihx st _ r hl _ ds S a w e h ?_)
    intro e1 st1 hk ds1 S1 a1 w1 es h1 hd
    cases e1 with
    | normal =>
      show y.wp P Q a1 w1
      simp only [Kseq] at hk
      split at hk
      · rename_i l hl0
        subst es
        obtain ⟨ds2, e2, h2⟩ := h1.mask l
        exact hloop y _ K r hk Q ds2 S1 a1 w1 e2 h2 (by rw [hd]; exact hK)
      · exact ihy st1 K r hk Q ds1 S1 a1 w1 es h1 (by rw [hd]; exact hK)
    | exit i => exact hK (.exit i) st1 hk ds1 S1 a1 w1 es h1 hd
    | ret => exact hK .ret st1 hk ds1 S1 a1 w1 es h1 hd
  | cond c x y ihx ihy =>
    intro st K r hl Q ds S a w e h hK
    simp only [stepC] at hl
    split at hl
    · rename_i i
      split at hl
      · rename_i m b hlk
        subst e
        have hv := (h.look hlk).bool
        refine wp_cond (t := b) (by simpa only [Act.eval] using hv) ?_
        cases b with
        | true => exact ihx _ K r hl Q ds S a w rfl h hK
        | false => exact ihy _ K r hl Q ds S a w rfl h hK
      · cases hl
    · rename_i b
      refine wp_cond (t := b) rfl ?_
      cases b with
      | true => exact ihx st K r hl Q ds S a w e h hK
      | false => exact ihy st K r hl Q ds S a w e h hK
    · cases hl
  | block id c ih =>
    intro st K r hl Q ds S a w e h hK
    simp only [stepC] at hl
    refine wp_block (ih st _ r hl _ ds S a w e h ?_)
    intro e1 st1 hk ds1 S1 a1 w1 es h1 hd
    cases e1 with
    | normal => exact hK .normal st1 hk ds1 S1 a1 w1 es h1 hd
    | exit j =>
      simp only [Kblk] at hk
      show (if j = id then Q .normal a1 w1 else Q (.exit j) a1 w1)
      split at hk
      · rename_i hj; rw [if_pos hj]; exact hK .normal st1 hk ds1 S1 a1 w1 es h1 hd
      · rename_i hj; rw [if_neg hj]; exact hK (.exit j) st1 hk ds1 S1 a1 w1 es h1 hd
    | ret => exact hK .ret st1 hk ds1 S1 a1 w1 es h1 hd
  | loop c ih =>
    intro st K r hl Q ds S a w e h hK
    simp only [stepC] at hl
    split at hl
    · rename_i l hl0
      subst e
      obtain ⟨ds2, e2, h2⟩ := h.mask l
      exact hloop _ _ K r hl Q ds2 S a w e2 h2 hK
    · cases hl
  | exit id =>
    intro st K r hl Q ds S a w e h hK
    exact wp_exit (hK (.exit id) st hl ds S a w e h rfl)
  | ret =>
    intro st K r hl Q ds S a w e h hK
    exact wp_ret (hK .ret st hl ds S a w e h rfl)
  | _ =>
    intro st K r hl
    simp [stepC] at hl

end Lk

namespace Lk
open Go
variable {Kw : World → Prop}
variable {τ : TypeId} {cx : Cx Kw} {S : Nat → Prop} {ds : DSt} {w : World} {P : Program} {a : Act} {o : Oper} {cs : List Bool} {st' : St} {R : Type} {G : Prg}

theorem own_free {t : Ty} {m : Md} {S Sb S' Sb' : Nat → Prop} {x : E t} {sh : Sh t} (hr : rowFlat t m = true) (h : hold τ S Sb w t m x sh) : hold τ S' Sb' w t m x sh := by
  unfold rowFlat at hr
  split at hr
  · rename_i t m
    simp only [Bool.and_eq_true] at hr
    simp only [hold] at h ⊢
    rcases h with h | ⟨cap, h1, h2, h3, h4, h5, h6, h7, h8⟩
    · exact .inl h
    · exact .inr ⟨cap, h1, h2, h3, h4, h5, h6, h7, fun i y z hy hz => ⟨(h8 i y z hy hz).1, flat_hold (S' := S') _ _ _ _ hr.1 (flat_rd _ _ _ _ hr.1 hr.2 (h8 i y z hy hz).2)⟩⟩
  · cases hr

theorem resL_ok : ∀ (rs : List (Ty × Md)) (xs : List ResultVar) (ds : DSt) (r : Tup rs), RelS τ cx S ds a.tmps w → resL (ds.map er) rs xs = some r →
    ∃ (is : List Nat) (rds : List DV), xs = is.map .tmp ∧ rds.map DV.av = avs rs r ∧ (∀ d ∈ rds, d.hold τ (fun _ => False) (fun _ => False) w) ∧ ((rds.map DV.bl).flatten).Nodup ∧
      (∀ b ∈ (rds.map DV.bl).flatten, b ∈ blocks ds) ∧ is.map (fun i => a.tmps.getD i undef) = rds.map (DV.val τ)
  | [], [], ds, r, _, _ => ⟨[], [], rfl, rfl, by simp, by simp, by simp, rfl⟩
  | [], _ :: _, ds, r, _, hr => by simp [resL] at hr
  | _ :: _, [], ds, r, _, hr => by simp [resL] at hr
  | p :: ps, .cell _ _ :: xs, ds, r, _, hr => by simp [resL] at hr
  | p :: ps, .tmp i :: xs, ds, r, h, hr => by
    simp only [resL] at hr
    split at hr
    · rename_i s hpl
      rw [Option.bind_eq_some_iff] at hr
      obtain ⟨v, hv, hr⟩ := hr
      split at hr
      · rename_i ht
        split at hr
        · rename_i hcond
          rw [Option.map_eq_some_iff] at hr
          obtain ⟨r', hr', rfl⟩ := hr
          obtain ⟨d, d', l, p1, p2, p3, p4, p5⟩ := h.place hpl hv
          simp only [DV.at?, at_nil, Option.some.injEq, Prod.mk.injEq] at p2
          obtain ⟨rfl, rfl⟩ := p2
          subst p3
          obtain ⟨t, m, x, sh⟩ := d
          obtain ⟨pt, pm⟩ := p
          have ht' : t = pt := ht
          subst ht'
          have hdrop : Lk.drop (ds.map er) s = (dropD ds s).map er := by unfold Lk.drop dropD er; rw [drop_map]
          rw [hdrop] at hr'
          obtain ⟨is, rds, g1, g2, g3, g4, g5, g6⟩ := resL_ok ps xs (dropD ds s) r' (h.drop s) hr'
          have hnd := h.inv.nodup
          have hsubd : ∀ b ∈ blocks (dropD ds s), b ∈ blocks ds := by
            intro b hb
            rw [blocks_iff] at hb ⊢
            obtain ⟨k, e, hk, hb⟩ := hb
            unfold dropD at hk
            rw [List.getElem?_set] at hk
            split at hk
            · split at hk <;> cases hk; simp [Ent.bl] at hb
            · rw [List.getElem?_map, Option.map_eq_some_iff] at hk
              obtain ⟨e0, h0, rfl⟩ := hk
              split at hb
              · simp [Ent.bl] at hb
              · exact ⟨k, e0, h0, hb⟩
          obtain ⟨R, q1, _⟩ := set_perm ds s _ p1
          have hbn : (bl t m x sh).Nodup := (List.nodup_append.1 (q1.nodup_iff.1 hnd)).1
          -- the result, in its own mode
          suffices ∃ d2 : DV, d2.av = ⟨t, pm, x⟩ ∧ d2.hold τ (fun _ => False) (fun _ => False) w ∧ d2.bl.Nodup ∧ (∀ b ∈ d2.bl, b ∈ bl t m x sh) ∧ d2.val τ = DV.val τ ⟨t, m, x, sh⟩ by
            obtain ⟨d2, k1, k2, k3, k4, k5⟩ := this
            refine ⟨i :: is, d2 :: rds, by rw [g1]; rfl, ?_, ?_, ?_, ?_, ?_⟩
            · simp only [List.map_cons, g2, k1]; rfl
            · intro d hd
              rcases List.mem_cons.1 hd with rfl | hd
              · exact k2
              · exact g3 d hd
            · simp only [List.map_cons, List.flatten_cons, List.nodup_append]
              refine ⟨k3, g4, fun b hb c hc e => ?_⟩
              subst e
              exact dropD_blocks p1 hnd b (k4 b hb) (g5 b hc)
            · intro b hb
              simp only [List.map_cons, List.flatten_cons, List.mem_append] at hb
              rcases hb with hb | hb
              · exact mem_blocks p1 b (k4 b hb)
              · exact hsubd b (g5 b hb)
            · simp only [List.map_cons, g6, p4, k5]
          rcases hcond with ⟨hm, hrf⟩ | ⟨hf, hn⟩
          · have hm' : m = pm := hm
            subst hm'
            exact ⟨⟨t, m, x, sh⟩, rfl, own_free hrf p5, hbn, fun b hb => hb, rfl⟩
          · have hf' : flat t = true := hf
            have hrd := flat_rd (S' := fun _ => False) (w' := w) _ _ _ _ hf' hn p5
            refine ⟨⟨t, pm, x, sh⟩, rfl, flat_hold _ _ _ _ hf' hrd, ?_, ?_, rfl⟩
            · rw [show DV.bl ⟨t, pm, x, sh⟩ = [] from flat_bl _ _ _ _ hf']; simp
            · rw [show DV.bl ⟨t, pm, x, sh⟩ = [] from flat_bl _ _ _ _ hf']; simp
        · cases hr
      · cases hr
    · cases hr

theorem run_results {fn : Func} {is : List Nat} (h : fn.results.toList = is.map .tmp) (hl : is.length ≤ 5) (tmps : Array Value) :
    (results fn tmps).run P w = .ok (match is.map (fun i => tmps.getD i undef) with | [v] => v | vs => .tuple vs.toArray) w := by
  have h' : fn.results = (is.map ResultVar.tmp).toArray := by rw [← h]
  match is, hl with
  | [], _ => simp [results, h']
  | [a], _ => simp [results, h']
  | [a, b], _ => simp [results, h']
  | [a, b, c], _ => simp [results, h']
  | [a, b, c, d], _ => simp [results, h']
  | [a, b, c, d, e], _ => simp [results, h']

/-- The arguments, as a frame begins. -/
theorem init_ok (S Sb : Nat → Prop) (w : World) : ∀ (ps : List (Ty × Md)) (x : Tup ps) (vals : List Value), ArgsAre (τ := τ) S (fun b => S b ∨ Sb b) w ps x vals →
    ∃ rds : List DV, rds.map DV.av = avs ps x ∧ rds.map (DV.val τ) = vals ∧ (∀ d ∈ rds, d.hold τ S (fun b => S b ∨ Sb b) w ∧ d.bl = []) ∧ rds.length = ps.length
  | [], _, vals, h => ⟨[], rfl, by simp only [ArgsAre] at h; rw [h]; rfl, by simp, rfl⟩
  | p :: ps, x, vals, h => by
    simp only [ArgsAre] at h
    obtain ⟨v, vs, sh, rfl, h1, h2, h3, h4⟩ := h
    obtain ⟨rds, g1, g2, g3, g4⟩ := init_ok S Sb w ps x.2 vs h4
    refine ⟨⟨p.1, p.2, x.1, sh⟩ :: rds, by simp only [List.map_cons, g1]; rfl, by simp only [List.map_cons, g2, h3]; rfl, fun d hd => ?_, by simp [g4]⟩
    rcases List.mem_cons.1 hd with rfl | hd
    · exact ⟨h1, h2⟩
    · exact g3 d hd

theorem start_ok {S Sb : Nat → Prop} {ps : List (Ty × Md)} {x : Tup ps} {vals : List Value} {n : Nat} (hs : ∀ b, S b ∨ Sb b → b < w.heap.size) (h : ArgsAre (τ := τ) S (fun b => S b ∨ Sb b) w ps x vals) :
    ∀ kk : ∀ w', Ext [] w w' → Kw w', ∃ ds : DSt, initL ps x n = ds.map er ∧ RelS τ (⟨w, [], S, Sb, kk⟩ : Cx Kw) S ds (vals.toArray ++ Array.replicate (n - vals.toArray.size) undef) w := by
  intro kk
  obtain ⟨rds, g1, g2, g3, g4⟩ := init_ok S Sb w ps x vals h
  have hvl : vals.length = ps.length := by rw [← g2, List.length_map, g4]
  let ds : DSt := rds.map .av ++ List.replicate (n - ps.length) .dead
  have hbl : blocks ds = [] := by
    unfold blocks
    rw [List.flatten_eq_nil_iff]
    intro l hl
    obtain ⟨e, he, rfl⟩ := List.mem_map.1 hl
    rcases List.mem_append.1 he with he | he
    · obtain ⟨d, hd, rfl⟩ := List.mem_map.1 he
      exact (g3 d hd).2
    · rw [List.eq_of_mem_replicate he]; rfl
  refine ⟨ds, ?_, ⟨?_, ⟨⟨rfl, rfl, rfl, Nat.le_refl _, fun _ _ _ => rfl⟩, fun b hb => hb, fun b hb => .inl hb, fun b hb => ⟨hs b hb, by rw [hbl]; simp⟩, fun b hb => by rw [hbl] at hb; simp at hb, by rw [hbl]; simp⟩, fun i e he => ?_⟩⟩
  · unfold initL
    simp only [ds, List.map_append, List.map_map, List.map_replicate, ← g1]
    rfl
  · simp [ds, hvl, g4]
  · simp only [ds] at he
    by_cases hi : i < rds.length
    · rw [List.getElem?_append_left (by simpa using hi), List.getElem?_map, List.getElem?_eq_getElem hi] at he
      simp only [Option.map_some, Option.some.injEq] at he
      subst he
      refine ⟨(g3 _ (List.getElem_mem hi)).1, ?_⟩
      have hv : vals[i]? = some (DV.val τ rds[i]) := by rw [← g2, List.getElem?_map, List.getElem?_eq_getElem hi]; rfl
      have hlt := lt_of_get hv
      rw [Array.getD_eq_getD_getElem?, Array.getElem?_append_left (by simpa using hlt)]
      simp [hv]
    · rw [List.getElem?_append_right (by simp; omega)] at he
      rw [List.getElem?_replicate] at he
      split at he
      · cases he; trivial
      · cases he

/-- WHAT L SAYS OF A FUNCTION, THE MACHINE DOES: out of its pieces. -/
theorem runF_ok (hP : PrgOk Kw τ P G) {n : Nat} (hres : ∀ g fn, G.body g = some fn → fn.results.size ≤ 5) (hC : ∀ (cx : Cx Kw) f c, COk τ P cx c (L G n f c)) : CallsOk Kw τ P G (runF G n (L G n)) := by
  refine ⟨fun g => ?_, fun g x r hr args w => hP.enter g ⟨n, x, r, hr⟩ args w⟩
  intro x res hx w S Sb vals hK hs hargs
  unfold runF at hx
  split at hx
  · rename_i F hF
    exact hP.ext g F n hF x res hx w S Sb vals hK hs hargs
  · split at hx
    · cases hx
    · rename_i fn hfn
      split at hx
      · cases hx
      · rename_i c hc
        refine calls_of_wp (hP.body g fn hfn) hc ?_
        obtain ⟨ds, e1, h⟩ := start_ok (τ := τ) (n := fn.ntmps) hs hargs (fun w' hx => hP.keep w w' hK hx)
        refine hC ⟨w, [], S, Sb, fun w' hx => hP.keep w w' hK hx⟩ g c _ _ res hx _ ds S { tmps := vals.toArray ++ Array.replicate (fn.ntmps - vals.toArray.size) undef, defers := [] } w e1 h ?_
        intro e st hk ds1 S1 a1 w1 es h1 hd
        have fin : resL st (G.sig g).rs fn.results.toList = some res → a1.defers = [] ∧ ∃ v, (results fn a1.tmps).run P w1 = .ok v w1 ∧ ∃ v', Ending.returned v = .returned v' ∧ Ext [] w w1 ∧ ResAre (τ := τ) w w1 (avs (G.sig g).rs res) v' := by
          intro hr
          subst es
          obtain ⟨is, rds, q1, q2, q3, q4, q5, q6⟩ := resL_ok _ _ _ _ h1 hr
          have hlen : is.length ≤ 5 := by
            have := hres g fn hfn
            have h2 := congrArg List.length q1
            simp at h2
            omega
          refine ⟨hd, _, run_results q1 hlen a1.tmps, _, rfl, h1.inv.ext, ⟨rds, q2, q3, q4, fun b hb => ?_, ?_⟩⟩
          · have := h1.inv.own b (q5 b hb)
            refine ⟨?_, this.1⟩
            rcases this.2 with h2 | h2
            · simp at h2
            · exact h2
          · rw [q6]
            match rds with
            | [] => rfl
            | [d] => rfl
            | d1 :: d2 :: r => rfl
        cases e with
        | normal => exact fin hk
        | exit i => cases hk
        | ret => exact fin hk

end Lk

namespace Lk
open Go
variable {Kw : World → Prop}
variable {τ : TypeId} {P : Program} {G : Prg}

/-- Where a loop stands: so many rounds of L are enough. -/
def Stands (τ : TypeId) (cx : Cx Kw) (dfs : List Deferred) (G : Prg) (f : FuncId) (b : Code) (K : Xit → St → Option (Tup (G.sig f).rs)) (r : Tup (G.sig f).rs) (n m : Nat) (a : Act) (w : World) : Prop :=
  m ≤ n ∧ a.defers = dfs ∧ ∃ ds S, L G m f (.loop b) (ds.map er) K = some r ∧ RelS τ cx S ds a.tmps w

theorem ex_least {p : Nat → Prop} (h : ∃ m, p m) : ∃ m, p m ∧ ∀ k, p k → m ≤ k := by
  classical
  obtain ⟨m, hm⟩ := h
  induction m using Nat.strongRecOn with
  | _ m ih =>
    by_cases hk : ∃ k, k < m ∧ p k
    · obtain ⟨k, h1, h2⟩ := hk; exact ih k h1 h2
    · exact ⟨m, hm, fun k hp => Nat.le_of_not_lt fun hlt => hk ⟨k, hlt, hp⟩⟩

open Classical in
noncomputable def least (p : Nat → Prop) : Nat := if h : ∃ m, p m then (ex_least h).choose else 0

theorem least_le {p : Nat → Prop} {m : Nat} (h : p m) : least p ≤ m := by
  classical
  unfold least
  rw [dif_pos ⟨m, h⟩]
  exact (ex_least ⟨m, h⟩).choose_spec.2 m h

theorem least_spec {p : Nat → Prop} (h : ∃ m, p m) : p (least p) := by
  classical
  unfold least
  rw [dif_pos h]
  exact (ex_least h).choose_spec.1

theorem L_ok (hP : PrgOk Kw τ P G) (hres : ∀ g fn, G.body g = some fn → fn.results.size ≤ 5) : ∀ n (cx : Cx Kw) f c, COk τ P cx c (L G n f c) := by
  intro n
  induction n using Nat.strongRecOn with
  | _ n ih =>
  intro cx f c
  cases n with
  | zero => intro st K r hl; simp [L] at hl
  | succ n =>
    have hcall : ∀ m, m < n + 1 → CallsOk Kw τ P G (runF G m (L G m)) := fun m hm => runF_ok hP hres (ih m hm)
    by_cases hc : ∃ b, c = .loop b
    · obtain ⟨b, rfl⟩ := hc
      intro st K r hl Q ds S a w e h hK
      subst e
      let I : Act → World → Prop := fun a' w' => ∃ m, Stands τ cx a.defers G f b K r (n + 1) m a' w'
      refine wp_loop I (fun a' w' => least fun m => Stands τ cx a.defers G f b K r (n + 1) m a' w') ⟨n + 1, Nat.le_refl _, rfl, ds, S, hl, h⟩ ?_
      intro a' w' hI
      obtain ⟨hm, hd, ds', S', hl', h'⟩ := least_spec hI
      generalize hmm : (least fun m => Stands τ cx a.defers G f b K r (n + 1) m a' w') = m at hm hl' ⊢
      cases m with
      | zero => simp [L] at hl'
      | succ m =>
        simp only [L] at hl'
        refine stepC_ok hP.env hP.mix (hcall m (by omega)) (fun c => ih m (by omega) cx f c) b _ _ r hl' _ ds' S' a' w' rfl h' ?_
        intro e st1 hk ds1 S1 a1 w1 es h1 hd1
        subst es
        cases e with
        | normal =>
          simp only [Klp] at hk
          split at hk
          · rename_i l hl0
            obtain ⟨ds2, e2, h2⟩ := h1.mask l
            rw [e2] at hk
            have hs : Stands τ cx a.defers G f b K r (n + 1) m a1 w1 := ⟨by omega, by rw [hd1, hd], ds2, S1, hk, h2⟩
            refine ⟨⟨m, hs⟩, ?_⟩
            show least _ < _
            have hle := least_le (p := fun m => Stands τ cx a.defers G f b K r (n + 1) m a1 w1) hs
            omega
          · cases hk
        | exit i => exact hK (.exit i) _ hk ds1 S1 a1 w1 rfl h1 (by rw [hd1, hd])
        | ret => exact hK .ret _ hk ds1 S1 a1 w1 rfl h1 (by rw [hd1, hd])
    · have e : L G (n + 1) f c = stepC G (runF G n (L G n)) f (L G n f) c := by
        funext st K
        cases c with
        | loop b => exact absurd ⟨b, rfl⟩ hc
        | _ => rfl
      rw [e]
      exact stepC_ok hP.env hP.mix (hcall n (by omega)) (fun c => ih n (by omega) cx f c) c

theorem F_ok (hP : PrgOk Kw τ P G) (hres : ∀ g fn, G.body g = some fn → fn.results.size ≤ 5) (n : Nat) (g : FuncId) : FnOk (τ := τ) (Kw := Kw) P g (G.sig g) (F G n g) :=
  (runF_ok hP hres (L_ok hP hres n)).fn g

end Lk

/-! L: a seat's own facts, by closed tests; a law's row. -/
namespace Lk
open Go
variable {Kw : World → Prop}
variable {P : Program}

/-- Is a Go type told so? -/
def descB (P : Program) : TypeId → Ty → Bool
  | T, .i k => match P.underlying T with | some (.int k') => decide (k' = k) | _ => false
  | T, .by => match P.underlying T with | some (.int k') => decide (k' = .u8) | _ => false
  | T, .b => match P.underlying T with | some .bool => true | _ => false
  | T, .s => match P.underlying T with | some .string => true | _ => false
  | T, .e => match P.underlying T with | some (.interface _) => true | _ => false
  | T, .u => match P.underlying T with | some (.struct _) => true | _ => false
  | T, .c _ _ => match P.underlying T with | some (.struct _) => true | _ => false
  | T, .l t => match P.underlying T with
    | some (.slice e) => match P.info? e with
      | some i => match i.zero with
        | some z => i.size == csz t && z.cells.size == csz t && descB P e t
        | none => false
      | none => false
    | _ => false
  | T, .p t => match P.underlying T with
    | some (.pointer e) => match P.info? e with
      | some i => i.size == csz t && descB P e t
      | none => false
    | _ => false

theorem descB_ok : ∀ (t : Ty) (T : TypeId), descB P T t = true → Desc P T t := by
  intro t
  induction t with
  | l t ih =>
    intro T h
    unfold descB at h
    split at h
    · rename_i e he
      split at h
      · rename_i i hi
        split at h
        · rename_i z hz
          simp only [Bool.and_eq_true, beq_iff_eq] at h
          exact ⟨e, i, z, he, hi, h.1.1, hz, h.1.2, ih _ h.2⟩
        · cases h
      · cases h
    · cases h
  | p t ih =>
    intro T h
    unfold descB at h
    split at h
    · rename_i e he
      split at h
      · rename_i i hi
        simp only [Bool.and_eq_true, beq_iff_eq] at h
        exact ⟨e, i, he, hi, h.1, ih _ h.2⟩
      · cases h
    · cases h
  | _ =>
    intro T h
    unfold descB at h
    split at h
    · rename_i he
      simp only [Desc]
      first
      | exact ⟨_, he⟩
      | exact he
      | (have := of_decide_eq_true h; subst this; exact he)
    · cases h

def sizeB (P : Program) (T : TypeId) (t : Ty) : Bool := match P.info? T with | some i => i.size == csz t | none => false

def limB (P : Program) (T n : Nat) : Bool := match P.underlying T with
  | some (.slice e) => match P.info? e with
    | some i => Nat.ble (n * i.bytes) 140737488355328 && Nat.ble n 140737488355328
    | none => true
  | _ => true

def envB (P : Program) (tys : List (Nat × Ty × Md)) (lims : List (Nat × Nat)) : Bool :=
  (tys.all fun x => descB P x.1 x.2.1 && sizeB P x.1 x.2.1 && x.2.2.solid) && lims.all fun x => limB P x.1 x.2

theorem env_ok {tys : BT (Ty × Md)} {lims : BT Nat} {env : Env} (h1 : ∀ T, env.ty T = tys.get T) (h2 : ∀ T, env.lim T = (lims.get T).getD 0) (h : envB P tys.toList lims.toList = true) : EnvOk P env := by
  unfold envB at h
  simp only [Bool.and_eq_true, List.all_eq_true] at h
  obtain ⟨ha, hb⟩ := h
  refine ⟨fun T t m ht => ?_, fun T t m ht => ?_, fun T e i hT hi => ?_, fun T t m ht => ?_⟩
  · rw [h1] at ht; exact descB_ok _ _ (ha _ (BT.get_mem ht)).1.1
  · rw [h1] at ht
    have := (ha _ (BT.get_mem ht)).1.2
    unfold sizeB at this
    split at this
    · exact ⟨_, by assumption, by simpa using this⟩
    · cases this
  · rw [h2]
    cases hl : lims.get T with
    | none => simp
    | some n =>
      have := hb _ (BT.get_mem hl)
      unfold limB at this
      simp only [hT, hi, Bool.and_eq_true, Nat.ble_eq] at this
      exact this
  · rw [h1] at ht; exact (ha _ (BT.get_mem ht)).2

def nameB (fn : Func) : Bool := !(fn.name == "runtime.NumGoroutine") && Nat.ble fn.results.size 5

theorem run_enter {g : FuncId} {fn : Func} {c : Code} (hf : P.funcs[g]? = some fn) (hn : (fn.name == "runtime.NumGoroutine") = false) (hb : fn.body = some c) (args : Array Value) (w : World) :
    (callFunc g args).run P w = .ok (.enter g args) w := by
  have hn' : ¬ fn.name = "runtime.NumGoroutine" := by simpa using hn
  simp [callFunc, hf, hn', hb, go_sem]

/-- A program, some of whose functions are told from without: those have bodies, too. -/
theorem prg_ok {τ : TypeId} {G : Prg} {bodies exts : BT Func} (he : EnvOk P G.toEnv) (hm : P.follows .mixedOrders = true) (hkeep : ∀ w w', Kw w → Ext [] w w' → Kw w') (hb : ∀ g, G.body g = bodies.get g)
    (hx : ∀ g F, G.ext g = some F → (exts.get g).isSome = true) (hxo : ∀ g F n, G.ext g = some F → FnOk (τ := τ) (Kw := Kw) P g (G.sig g) (F n))
    (hf : ∀ p ∈ bodies.toList ++ exts.toList, P.funcs[p.1]? = some p.2) (hn : (bodies.toList ++ exts.toList).all (fun p => nameB p.2) = true) (hxb : exts.toList.all (fun p => p.2.body.isSome) = true) : PrgOk Kw τ P G where
  keep := hkeep
  env := he
  mix := hm
  body g fn h := by rw [hb] at h; exact hf (g, fn) (List.mem_append_left _ (BT.get_mem h))
  ext g F n h := hxo g F n h
  enter g h args w := by
    obtain ⟨n, x, r, h⟩ := h
    have key : ∀ fn c, (g, fn) ∈ bodies.toList ++ exts.toList → fn.body = some c → (callFunc g args).run P w = .ok (.enter g args) w := by
      intro fn c hm hc
      have h1 := List.all_eq_true.1 hn _ hm
      simp only [nameB, Bool.and_eq_true, Bool.not_eq_true'] at h1
      exact run_enter (hf _ hm) h1.1 hc args w
    unfold F runF at h
    split at h
    · rename_i F hF
      have h2 := hx g F hF
      rw [Option.isSome_iff_exists] at h2
      obtain ⟨fn, h2⟩ := h2
      have h3 := List.all_eq_true.1 hxb _ (BT.get_mem h2)
      simp only [Option.isSome_iff_exists] at h3
      obtain ⟨c, hc⟩ := h3
      exact key fn c (List.mem_append_right _ (BT.get_mem h2)) hc
    · split at h
      · cases h
      · rename_i fn hg
        rw [hb] at hg
        split at h
        · cases h
        · rename_i c hc
          exact key fn c (List.mem_append_left _ (BT.get_mem hg)) hc

theorem res_le {G : Prg} {bodies exts : BT Func} (hb : ∀ g, G.body g = bodies.get g) (hn : (bodies.toList ++ exts.toList).all (fun p => nameB p.2) = true) : ∀ g fn, G.body g = some fn → fn.results.size ≤ 5 := by
  intro g fn h
  rw [hb] at h
  have h1 := List.all_eq_true.1 hn _ (List.mem_append_left _ (BT.get_mem h))
  simp only [nameB, Bool.and_eq_true, Nat.ble_eq] at h1
  exact h1.2

/-- A function that answers one bool. -/
theorem calls_bool {τ : TypeId} {g : FuncId} {ps : List (Ty × Md)} {Fg : Tup ps → Option (Tup [(Ty.b, Md.r)])} (hok : FnOk (τ := τ) (Kw := Kw) P g ⟨ps, [(.b, .r)]⟩ Fg) {x : Tup ps} {b : Bool}
    (hF : Fg x = some (b, ())) {w : World} (hK : Kw w) {vals : List Value} (ha : ArgsAre (τ := τ) (fun b => b < w.heap.size) (fun b => b < w.heap.size) w ps x vals) :
    Calls P g vals.toArray w fun e w' => e = .returned (.bool b) ∧ RowKit.Below w.heap.size w w' := by
  refine (hok x (b, ()) hF w (fun b => b < w.heap.size) (fun _ => False) vals hK (fun b h => h.elim id False.elim) (by simpa using ha)).mono fun e w' ⟨v, he, hx, hr⟩ => ?_
  obtain ⟨rds, h1, h2, _, _, h5⟩ := hr.ex
  simp only [avs] at h1
  cases rds with
  | nil => simp at h1
  | cons d ds =>
    cases ds with
    | cons _ _ => simp at h1
    | nil =>
      simp only [List.map_cons, List.map_nil, List.cons.injEq, and_true] at h1
      obtain ⟨t, m, y, sh⟩ := d
      simp only [DV.av, AV.mk.injEq] at h1
      obtain ⟨rfl, rfl, h1⟩ := h1
      have h1 := eq_of_heq h1
      subst h1
      refine ⟨?_, hx.os, hx.tape, hx.output, hx.size, fun k hk => hx.block k hk (by simp)⟩
      rw [he, h5]
      rfl
end Lk

namespace Lk
open Go Go.RowKit Go.WideShapes Go.ChangeShapes
section
variable {H : Type} {enc : TypeId × Value → H} {P : Program} {W W' : World}

theorem trodAll_stays (hl : laidOutB P = true) (hb : Below W.heap.size W W') : ∀ {ts : List TypeId} {vs : List Value} {ds : List (DataW H)} {ps : List MemPlace}, (∀ t ∈ ts, P.readableRec t = true ∧ t < P.types.size) →
    DataW.TrodAll enc P W 0 (fun _ => true) true ts vs ds ps → (∀ x ∈ ps, x.block < W.heap.size) → ∀ sp : Nat → Bool, (∀ x ∈ ps, sp x.block = true) → DataW.TrodAll enc P W' 0 sp true ts vs ds ps
  | [], [], [], ps, _, h, _, _, _ => h
  | t :: ts, v :: vs, d :: ds, ps, hr, h, hlt, sp, hsp => by
    obtain ⟨p, q, h1, h2, rfl⟩ := h
    have hh := hr t (by simp)
    exact ⟨p, q, WideElems.Trod_stays hl hh.1 hh.2 h1 (fun x hx => hb.same (hlt x (by simp [hx]))) (fun x hx => hsp x (by simp [hx])),
      trodAll_stays hl hb (fun t ht => hr t (by simp [ht])) h2 (fun x hx => hlt x (by simp [hx])) sp (fun x hx => hsp x (by simp [hx])), rfl⟩
  | [], _ :: _, _, _, _, h, _, _, _ => h.elim
  | [], [], _ :: _, _, _, h, _, _, _ => h.elim
  | _ :: _, [], _, _, _, h, _, _, _ => h.elim
  | _ :: _, _ :: _, [], _, _, h, _, _, _ => h.elim

/-- The end of a law's row: it answers true, and nothing that was there has turned. -/
theorem post_law {f : Func} {s : ChangeSpec} {apart fresh handsOn again : Bool} {args : Array Value} {ds gs : List (DataW H)} {before : List MemPlace} {R : TypeId}
    (hW : DataW.Whole enc P f.params.toList s.vars apart W args.toList ds gs before) (hl : laidOutB P = true) (hr : ∀ t ∈ f.params.toList, P.readableRec t = true ∧ t < P.types.size) (hv : s.vars = [])
    (hs : s.fn H (ds ++ gs) = { results := [.lit (.bool true)], args := ds }) (hres : f.resultTypes = #[R]) (hR : P.underlying R = some .bool) (hb : Below W.heap.size W W') :
    s.post enc P f apart fresh handsOn again W args (.bool true) W' := by
  have hW' := hW
  obtain ⟨p, q, hA, hV, hpq, hz, hn⟩ := hW
  rw [hv] at hV
  obtain ⟨rfl, rfl⟩ := trodVars_none hV
  rw [List.append_nil] at hpq
  subst hpq
  have hlt : ∀ x ∈ before, x.block < W.heap.size := fun x hx => hW'.lt x hx
  have ha := trodAll_stays hl hb hr hA hlt
  have hrv : (Value.bool true).resultList f.resultTypes.size = [.bool true] := by rw [hres]; rfl
  have hrt : ∀ (b : Nat) (sp : Nat → Bool) (hd : Bool), DataW.TrodAll enc P W' b sp hd f.resultTypes.toList ((Value.bool true).resultList f.resultTypes.size) (s.fn H (ds ++ [])).results [] := by
    intro b sp hd
    rw [hrv, hs, hres]
    exact trodAll_mk1 (shut_bool hR true)
  refine ⟨ds, [], before, [], before, [], hW', hrt _ _ _, by rw [hs]; exact ha _ (fun x hx => by simpa using hlt x hx), by rw [hv, hs]; rfl, World.keptBut_mono (fun x hx => ⟨hx, .inr (.inl hx)⟩) (hb.frame (· ∈ before)), fun _ => ?_⟩
  refine ⟨ok_one hres rfl (okWide_bool_mk hR true), .lit (.bool true) :: ds, [], before, ⟨before, [], ?_, by rw [hv]; rfl, by simp, ?_, hn⟩, fun x hx _ => hx⟩
  · have h1 := hrt 0 (fun _ => true) true
    rw [hrv, hs] at h1
    have := trodAll_append (ha (fun _ => true) (fun _ _ => rfl)) h1
    rw [hrv]
    simpa using this
  · intro b off hp
    rw [hb.frozen (hlt _ hp)]
    exact hz b off hp
end
end Lk

/-! Plain words and laws for what L prints. -/
namespace Lk
open Go

theorem sel_t {α : Type} (x y : α) : sel true x y = x := rfl
theorem sel_f {α : Type} (x y : α) : sel false x y = y := rfl
theorem sel_dec {α : Type} (p : Prop) [Decidable p] (x y : α) : sel (decide p) x y = if p then x else y := by
  by_cases h : p <;> simp [sel, h]
theorem ob_some {α β : Type} (a : α) (f : α → Option β) : obind (some a) f = f a := rfl

theorem b_lt (a b : UInt8) : decide ((a.toNat : Int) < (b.toNat : Int)) = decide (a < b) := by
  apply decide_eq_decide.2
  rw [UInt8.lt_iff_toNat_lt]
  exact Int.ofNat_lt
theorem b_ltP (a b : UInt8) : ((a.toNat : Int) < (b.toNat : Int)) = (a < b) := by
  rw [UInt8.lt_iff_toNat_lt]
  exact propext Int.ofNat_lt
theorem b_eq (a b : UInt8) : ((a.toNat : Int) == (b.toNat : Int)) = (a == b) := by
  rw [Bool.eq_iff_iff]
  simp only [beq_iff_eq, Int.ofNat_inj, UInt8.toNat_inj]
theorem b_ne (a b : UInt8) : ((a.toNat : Int) != (b.toNat : Int)) = (a != b) := by
  simp only [bne, b_eq]

theorem wrap64 {x : Int} (h1 : -9223372036854775808 ≤ x) (h2 : x ≤ 9223372036854775807) : IntKind.i64.wrap x = x := IntWalk.i64_in x ⟨h1, h2⟩

theorem drop_cons {line : List UInt8} {i : Nat} {c : UInt8} {r : List UInt8} (h : line.drop i = c :: r) : line.getD i 0 = c ∧ i < line.length ∧ line.drop (i + 1) = r := by
  have hl : i < line.length := by
    have := congrArg List.length h
    simp at this; omega
  refine ⟨?_, hl, ?_⟩
  · have := congrArg (·[0]?) h
    simp only [List.getElem?_drop, List.getElem?_cons_zero, Nat.add_zero] at this
    simp [List.getD_eq_getElem?_getD, this]
  · have := congrArg List.tail h
    simpa [List.tail_drop] using this

theorem wrap_u32 {x : Nat} (h : x < 4294967296) : IntKind.u32.wrap (x : Int) = (x : Int) := by
  simp only [IntKind.wrap, IntKind.signed, IntKind.bits, Bool.false_and, Bool.false_eq_true, if_false]; omega
theorem wrap_u8 {x : Nat} (h : x < 256) : IntKind.u8.wrap (x : Int) = (x : Int) := by
  simp only [IntKind.wrap, IntKind.signed, IntKind.bits, Bool.false_and, Bool.false_eq_true, if_false]; omega

theorem ofInt_nat (w n : Nat) : BitVec.ofInt w (n : Int) = BitVec.ofNat w n := by
  apply BitVec.eq_of_toNat_eq; simp

theorem and_u32 {a b : Nat} (ha : a < 4294967296) (hb : b < 4294967296) : ibits .and .u32 (a : Int) (b : Int) = ((a &&& b : Nat) : Int) := by
  have h : a &&& b < 4294967296 := Nat.lt_of_le_of_lt Nat.and_le_left ha
  show IntKind.u32.wrap (((BitVec.ofInt 32 (a : Int) &&& BitVec.ofInt 32 (b : Int)).toNat : Nat) : Int) = _
  rw [BitVec.toNat_and, ofInt_nat, ofInt_nat, BitVec.toNat_ofNat, BitVec.toNat_ofNat, Nat.mod_eq_of_lt ha, Nat.mod_eq_of_lt hb, wrap_u32 h]
theorem or_u32 {a b : Nat} (ha : a < 4294967296) (hb : b < 4294967296) : ibits .or .u32 (a : Int) (b : Int) = ((a ||| b : Nat) : Int) := by
  have h : a ||| b < 2 ^ 32 := Nat.or_lt_two_pow ha hb
  show IntKind.u32.wrap (((BitVec.ofInt 32 (a : Int) ||| BitVec.ofInt 32 (b : Int)).toNat : Nat) : Int) = _
  rw [BitVec.toNat_or, ofInt_nat, ofInt_nat, BitVec.toNat_ofNat, BitVec.toNat_ofNat, Nat.mod_eq_of_lt ha, Nat.mod_eq_of_lt hb, wrap_u32 h]
theorem and_u8 {a b : Nat} (ha : a < 256) (hb : b < 256) : ibits .and .u8 (a : Int) (b : Int) = ((a &&& b : Nat) : Int) := by
  have h : a &&& b < 256 := Nat.lt_of_le_of_lt Nat.and_le_left ha
  show IntKind.u8.wrap (((BitVec.ofInt 8 (a : Int) &&& BitVec.ofInt 8 (b : Int)).toNat : Nat) : Int) = _
  rw [BitVec.toNat_and, ofInt_nat, ofInt_nat, BitVec.toNat_ofNat, BitVec.toNat_ofNat, Nat.mod_eq_of_lt ha, Nat.mod_eq_of_lt hb, wrap_u8 h]

theorem and_mask (n k : Nat) : n &&& (2 ^ k - 1) = n % 2 ^ k := Nat.and_two_pow_sub_one_eq_mod n k
theorem or_low {a b : Nat} (h : b < 64) : a * 64 ||| b = a * 64 + b := by
  have := Nat.shiftLeft_add_eq_or_of_lt (i := 6) h a
  rw [Nat.shiftLeft_eq] at this
  exact this.symm
set_option maxRecDepth 100000 in
theorem and192 : ∀ b : UInt8, (b.toNat &&& 192 = 128) ↔ b.toNat / 64 = 2 := by
  have : ∀ n : Fin 256, (n.val &&& 192 = 128) ↔ n.val / 64 = 2 := by decide
  intro b
  exact this ⟨b.toNat, b.toNat_lt⟩

def byt (b : List UInt8) (i : Nat) : Nat := (b.getD i 0).toNat
theorem byt_lt (b : List UInt8) (i : Nat) : byt b i < 256 := (b.getD i 0).toNat_lt

theorem get_byt (b : List UInt8) (i : Nat) : ((ByteArray.mk b.toArray).get! i).toNat = byt b i := by
  simp [ByteArray.get!, byt, List.getD_eq_getElem?_getD, getElem!_def]
  cases h : b[i]?
  · rfl
  · simp

/-- A rune, by the model's own reading: (0, 0) where there is none. -/
def runeR (b : List UInt8) (i : Nat) : Nat × Nat :=
  let d := Utf8.decode ⟨b.toArray⟩ i
  bif d.1 == 65533 && d.2 == 1 then (0, 0) else d

def cont (b : List UInt8) (i : Nat) : Bool := lt' i b.length && byt b i / 64 == 2
where lt' (a b : Nat) : Bool := decide (a < b)

def fin (r n least : Nat) : Nat × Nat := if r < least ∨ r > 1114111 ∨ 55296 ≤ r ∧ r ≤ 57343 then (0, 0) else (r, n)

/-- The same, by the bytes. -/
def runeB (b : List UInt8) (i : Nat) : Nat × Nat :=
  let c := byt b i
  if c < 128 then (c, 1)
  else if c < 192 then (0, 0)
  else if c < 224 then (if cont b (i + 1) then fin (c % 32 * 64 + byt b (i + 1) % 64) 2 128 else (0, 0))
  else if c < 240 then (if cont b (i + 1) && cont b (i + 2) then fin ((c % 16 * 64 + byt b (i + 1) % 64) * 64 + byt b (i + 2) % 64) 3 2048 else (0, 0))
  else if c < 248 then (if cont b (i + 1) && cont b (i + 2) && cont b (i + 3) then fin (((c % 8 * 64 + byt b (i + 1) % 64) * 64 + byt b (i + 2) % 64) * 64 + byt b (i + 3) % 64) 4 65536 else (0, 0))
  else (0, 0)

theorem rune_eq (b : List UInt8) (i : Nat) : runeR b i = runeB b i := by
  have hs : (ByteArray.mk b.toArray).size = b.length := by simp [← ByteArray.size_data]
  have hc : ∀ k, (decide (i + k < (ByteArray.mk b.toArray).size) && byt b (i + k) / 64 == 2) = cont b (i + k) := by
    intro k; rw [hs]; rfl
  have c0 := byt_lt b i
  have c1 := byt_lt b (i + 1)
  have c2 := byt_lt b (i + 2)
  have c3 := byt_lt b (i + 3)
  unfold runeR Utf8.decode
  simp only [get_byt, hc, Nat.add_zero, Utf8.runeError, Utf8.valid]
  unfold runeB
  simp only
  by_cases h1 : byt b i < 128
  · rw [if_pos h1, if_pos h1]
    have e : (byt b i == 65533) = false := by rw [beq_eq_false_iff_ne]; omega
    simp [e]
  rw [if_neg h1, if_neg h1]
  by_cases h2 : byt b i < 192
  · have q1 : (byt b i / 32 == 6) = false := by rw [beq_eq_false_iff_ne]; omega
    have q2 : (byt b i / 16 == 14) = false := by rw [beq_eq_false_iff_ne]; omega
    have q3 : (byt b i / 8 == 30) = false := by rw [beq_eq_false_iff_ne]; omega
    simp [q1, q2, q3, h2]
  rw [if_neg h2]
  by_cases h3 : byt b i < 224
  · have q1 : (byt b i / 32 == 6) = true := by rw [beq_iff_eq]; omega
    have q2 : (byt b i / 16 == 14) = false := by rw [beq_eq_false_iff_ne]; omega
    have q3 : (byt b i / 8 == 30) = false := by rw [beq_eq_false_iff_ne]; omega
    simp only [q1, q2, q3, Bool.true_and, Bool.false_and, Bool.false_eq_true, if_false, if_pos h3]
    cases hk : cont b (i + 1)
    · simp
    · simp only [if_true]
      unfold fin
      by_cases g : byt b i % 32 * 64 + byt b (i + 1) % 64 ≥ 128
      · rw [if_pos g, if_neg (by omega)]; simp
      · rw [if_neg g, if_pos (by omega)]; simp
  rw [if_neg h3]
  by_cases h4 : byt b i < 240
  · have q1 : (byt b i / 32 == 6) = false := by rw [beq_eq_false_iff_ne]; omega
    have q2 : (byt b i / 16 == 14) = true := by rw [beq_iff_eq]; omega
    have q3 : (byt b i / 8 == 30) = false := by rw [beq_eq_false_iff_ne]; omega
    simp only [q1, q2, q3, Bool.true_and, Bool.false_and, Bool.false_eq_true, if_false, if_pos h4]
    cases hk : cont b (i + 1) <;> cases hk2 : cont b (i + 2) <;> simp only [Bool.true_and, Bool.and_true, Bool.and_false, Bool.false_eq_true, if_false, if_true, cond_true, beq_self_eq_true]
    rw [show byt b i % 16 * 4096 + byt b (i + 1) % 64 * 64 + byt b (i + 2) % 64 = (byt b i % 16 * 64 + byt b (i + 1) % 64) * 64 + byt b (i + 2) % 64 by omega]
    have hle : (byt b i % 16 * 64 + byt b (i + 1) % 64) * 64 + byt b (i + 2) % 64 < 65536 := by omega
    generalize (byt b i % 16 * 64 + byt b (i + 1) % 64) * 64 + byt b (i + 2) % 64 = r at hle
    unfold fin
    by_cases g : r < 2048 ∨ r > 1114111 ∨ 55296 ≤ r ∧ r ≤ 57343
    · rw [if_pos g, if_neg (by simp; omega)]; simp
    · rw [if_neg g, if_pos (by simp; omega)]; simp
  rw [if_neg h4]
  by_cases h5 : byt b i < 248
  · have q1 : (byt b i / 32 == 6) = false := by rw [beq_eq_false_iff_ne]; omega
    have q2 : (byt b i / 16 == 14) = false := by rw [beq_eq_false_iff_ne]; omega
    have q3 : (byt b i / 8 == 30) = true := by rw [beq_iff_eq]; omega
    simp only [q1, q2, q3, Bool.true_and, Bool.false_and, Bool.false_eq_true, if_false, if_pos h5]
    cases hk : cont b (i + 1) <;> cases hk2 : cont b (i + 2) <;> cases hk3 : cont b (i + 3) <;> simp only [Bool.true_and, Bool.and_true, Bool.and_false, Bool.false_and, Bool.false_eq_true, if_false, if_true, cond_true, beq_self_eq_true]
    rw [show byt b i % 8 * 262144 + byt b (i + 1) % 64 * 4096 + byt b (i + 2) % 64 * 64 + byt b (i + 3) % 64 = ((byt b i % 8 * 64 + byt b (i + 1) % 64) * 64 + byt b (i + 2) % 64) * 64 + byt b (i + 3) % 64 by omega]
    generalize ((byt b i % 8 * 64 + byt b (i + 1) % 64) * 64 + byt b (i + 2) % 64) * 64 + byt b (i + 3) % 64 = r
    unfold fin
    by_cases g : r < 65536 ∨ r > 1114111 ∨ 55296 ≤ r ∧ r ≤ 57343
    · rw [if_pos g, if_neg (by simp; omega)]; simp
    · rw [if_neg g, if_pos (by simp; omega)]; simp
  · have q1 : (byt b i / 32 == 6) = false := by rw [beq_eq_false_iff_ne]; omega
    have q2 : (byt b i / 16 == 14) = false := by rw [beq_eq_false_iff_ne]; omega
    have q3 : (byt b i / 8 == 30) = false := by rw [beq_eq_false_iff_ne]; omega
    simp [q1, q2, q3, h5]

theorem ofNat_toNat {n : Nat} (h : n < 256) : (UInt8.ofNat n).toNat = n := by simp [UInt8.toNat_ofNat']; omega

theorem shl6 {r : Nat} (h : r < 67108864) : IntKind.u32.wrap ((r : Int) * (2 : Int) ^ Min.min (Int.toNat (6 : Int)) IntKind.u32.bits) = ((r * 64 : Nat) : Int) := by
  have e : (2 : Int) ^ Min.min (Int.toNat (6 : Int)) IntKind.u32.bits = 64 := by decide
  rw [e, show (r : Int) * 64 = ((r * 64 : Nat) : Int) by omega, wrap_u32 (by omega)]

/-- How many bytes the piece at a place has. -/
def sz (b : List UInt8) (i : Nat) : Nat := (Utf8.decode ⟨b.toArray⟩ i).2

theorem sz_bd (b : List UInt8) (i : Nat) : 1 ≤ sz b i ∧ sz b i ≤ 4 := by
  unfold sz Utf8.decode
  simp only
  repeat' split
  all_goals simp

theorem runeR_sz (b : List UInt8) (i : Nat) : max (runeR b i).2 1 = sz b i := by
  have h := (sz_bd b i).1
  unfold sz at h ⊢
  unfold runeR
  simp only
  cases e : (Utf8.decode ⟨b.toArray⟩ i).1 == 65533 && (Utf8.decode ⟨b.toArray⟩ i).2 == 1
  · simp only [cond_false]; omega
  · simp only [Bool.and_eq_true, beq_iff_eq] at e
    simp only [cond_true, e.2]; rfl

theorem byt_ext (b : List UInt8) (i h k : Nat) (hk : i + k < h ∨ b.length ≤ i + k) (hh : h ≤ b.length) : byt (ext b (i : Int) (h : Int)) k = byt b (i + k) := by
  unfold byt ext
  simp only [Int.toNat_natCast, List.getD_eq_getElem?_getD, win_get]
  by_cases hl : k < h - i
  · rw [if_pos hl]
  · rw [if_neg hl, List.getElem?_eq_none (by omega)]

theorem cont_ext (b : List UInt8) (i h k : Nat) (hk : i + k < h ∨ b.length ≤ i + k) (hh : h ≤ b.length) (hi : i ≤ h) : cont (ext b (i : Int) (h : Int)) k = cont b (i + k) := by
  unfold cont cont.lt'
  rw [byt_ext b i h k hk hh]
  have hl : (ext b (i : Int) (h : Int)).length = h - i := by
    unfold ext; simp only [Int.toNat_natCast]; rw [win_length _ _ _ (by omega)]
  rw [hl]
  congr 1
  apply decide_eq_decide.2
  omega

theorem runeR_ext (b : List UInt8) (i h : Nat) (hh : h ≤ b.length) (hi : i < h) (h4 : i + 4 ≤ h ∨ h = b.length) : runeR (ext b (i : Int) (h : Int)) 0 = runeR b i := by
  rw [rune_eq, rune_eq]
  unfold runeB
  rw [byt_ext b i h 0 (by omega) hh]
  simp only [Nat.zero_add, byt_ext b i h 1 (by omega) hh, byt_ext b i h 2 (by omega) hh, byt_ext b i h 3 (by omega) hh, cont_ext b i h 1 (by omega) hh (by omega), cont_ext b i h 2 (by omega) hh (by omega), cont_ext b i h 3 (by omega) hh (by omega), Nat.add_zero]

end Lk

