import Derived.Test.YthndplnjiibgkaaDoorLkOne
import Derived.Lib.ConvBytes
import Derived.Laws.BytesString
import Derived.Laws.Tables
import Derived.Laws.StructEq
set_option linter.all false
section
namespace Lk
open Go
variable {Kw : KW}
variable {τ : Ax} {cx : Cx Kw} {S : Nat → Prop} {ds : DSt} {w : World} {P : Program} {env : Env} {a : Act} {o : Oper} {cs : List Bool} {st' : St}
theorem Is.ro {t : Ty} {m : Md} {x : E t} {val : Value} (h : Is (τ := τ) cx S w ⟨t, m, x⟩ val) (hm : m = .r ∨ m = .b) : ∃ vs, val = valOf t vs ∧ Rd τ (if m = .b then (fun b => S b ∨ cx.Sb b) else S) w t x vs := by
  obtain ⟨_, d, hd, hh, rfl⟩ := h
  obtain ⟨t', m', x', sh⟩ := d
  simp only [DV.av, AV.mk.injEq] at hd
  obtain ⟨rfl, rfl, hx⟩ := hd
  cases hx
  simp only [DV.hold, DV.val, DV.cells] at *
  rcases hm with rfl | rfl
  · rw [hold_r] at hh; exact ⟨_, rfl, by simpa using hh⟩
  · rw [hold_b] at hh; exact ⟨_, rfl, by simpa using hh⟩
theorem add_eq' (b o n : Nat) : (⟨b, o, none⟩ : Addr).add n = ⟨b, o + n, none⟩ := by unfold Addr.add; split <;> simp_all
theorem VwIs.whole {hd : Value} {len k : Nat} (h : hd = .slice none 0 0 ∧ len = 0 ∨ ∃ b o cap, hd = .slice (some ⟨b, o, none⟩) len cap ∧ len ≤ cap) : VwIs hd len k 0 len hd := by
  refine ⟨by omega, by omega, by omega, ?_⟩
  rcases h with ⟨h, _⟩ | ⟨b, o, cap, h, hc⟩
  · exact .inl ⟨h, h⟩
  · exact .inr ⟨b, o, cap, o, h, by rw [h]; simp, hc, .inl (by simp)⟩
theorem RelS.ownRow (h : RelS τ cx S ds a.tmps w) {x : Operand} {T : TypeId} {s : Nat} {p : Path} {part : Option (Int × Int)} {u : AV} (ho : Lk.ownRow (ds.map er) x = some (s, p, part)) (hu : Lk.rdOp env (ds.map er) x T = some u) :
    ∃ (t : Ty) (m : Md) (y : E (.l t)) (sh : Sh (.l t)) (d : DV) (l : Loc) (lo hi : Int), ds[s]? = some (.av d) ∧ d.at? p = some (⟨.l t, .o m, y, sh⟩, l) ∧ VwIs sh.hd y.length (csz t) lo hi (a.eval x) ∧ hold τ S (fun b => S b ∨ cx.Sb b) w (.l t) (.o m) y sh ∧
      (part = none ∧ lo = 0 ∧ hi = y.length ∧ u = ⟨.l t, .o m, y⟩ ∨ part = some (lo, hi) ∧ u = ⟨.l t, .o m, Lk.ext y lo hi⟩) := by
  have row : ∀ {t : Ty} {m : Md} {y : E (.l t)} {sh : Sh (.l t)}, hold τ S (fun b => S b ∨ cx.Sb b) w (.l t) (.o m) y sh → VwIs sh.hd y.length (csz t) 0 y.length sh.hd := by
    intro t m y sh h
    simp only [hold] at h
    refine VwIs.whole ?_
    rcases h with ⟨h, rfl⟩ | ⟨cap, h, _, h2, _⟩
    · exact .inl ⟨h, rfl⟩
    · exact .inr ⟨_, _, cap, h, h2⟩
  unfold Lk.ownRow at ho
  split at ho
  · rename_i i
    simp only [Lk.rdOp] at hu
    simp only [Act.eval]
    split at ho
    · rename_i s' p' lo hi hg
      cases ho
      obtain ⟨t, m, y, sh, d, l, rfl, h1, h2, h3, h4⟩ := h.vw_look hg hu
      exact ⟨t, m, y, sh, d, l, lo, hi, h1, h2, h3, h4, .inr ⟨rfl, rfl⟩⟩
    · rename_i t m y hg
      cases ho
      obtain ⟨d, hd, hv⟩ := getD_er hg
      obtain ⟨t', m', y', sh⟩ := d
      simp only [DV.av, AV.mk.injEq] at hv
      obtain ⟨rfl, rfl, hv⟩ := hv
      cases hv
      have hok := h.ok _ _ hd
      unfold Lk.look at hu
      rw [hg] at hu
      obtain ⟨hu, _⟩ := seen_some hu
      refine ⟨t, m, _, sh, _, none, 0, _, hd, at_nil _ _ _ _ _, ?_, hok.1, .inl ⟨rfl, rfl, rfl, hu.symm⟩⟩
      rw [hok.2]
      exact row hok.1
    · rename_i s' p' hg
      split at ho
      · rename_i t m y hl
        cases ho
        rw [hl] at hu
        cases hu
        obtain ⟨d, d', l, h1, h2, h3, h4, h5⟩ := h.al_hold (getD_er_al hg)
        have hv : d'.av = ⟨.l t, .o m, y⟩ := by
          unfold Lk.look at hl
          rw [hg] at hl
          simp only at hl
          split at hl
          · rename_i v0 hs
            obtain ⟨d0, hd0, rfl⟩ := getD_er hs
            rw [h1] at hd0; cases hd0
            simp only [DV.av] at hl
            rw [h5] at hl
            simp only [Option.bind_some] at hl
            exact (seen_some hl).1
          · cases hl
        obtain ⟨t', m', y', sh⟩ := d'
        simp only [DV.av, AV.mk.injEq] at hv
        obtain ⟨rfl, rfl, hv⟩ := hv
        cases hv
        refine ⟨t, m, _, sh, d, l, 0, _, h1, h2, ?_, h4, .inl ⟨rfl, rfl, rfl, rfl⟩⟩
        rw [h3]
        exact row h4
      · cases ho
    · cases ho
  · cases ho
theorem sliceOwn_did {T : TypeId} {x : Operand} {lo hi : Option Operand} {s : Nat} {p : Path} {part : Option (Int × Int)} (hE : EnvOk τ P env) (ho : o.op = .slice T x lo hi none) (hw : Lk.ownRow (ds.map er) x = some (s, p, part))
    (h : RelS τ cx S ds a.tmps w) (hl : opL env o (ds.map er) = some (cs, st')) (hc : ∀ c ∈ cs, c = true) : Did (τ := τ) P cx a o w st' := by
  simp only [opL, ho, hw, Option.bind_eq_some_iff] at hl
  obtain ⟨tm, htm, u, hu, hl⟩ := hl
  split at hl
  case isFalse => cases hl
  rename_i htt
  simp only [Option.bind_eq_some_iff] at hl
  obtain ⟨n, hn, r, hr, hl⟩ := hl
  obtain ⟨t, m, y, sh, d, l, lo0, hi0, h1, h2, h3, h4, h5⟩ := h.ownRow hw hu
  have hd := hE.ty _ _ _ htm
  obtain ⟨u1, u2⟩ : u.t = .l t ∧ rowLen u = some (hi0 - lo0) := by
    obtain ⟨v1, v2, v3, _⟩ := h3
    rcases h5 with ⟨_, rfl, rfl, rfl⟩ | ⟨_, rfl⟩
    · exact ⟨rfl, by simp [rowLen]⟩
    · refine ⟨rfl, ?_⟩
      simp only [rowLen, Lk.ext]
      rw [win_length _ _ _ (by omega)]
      congr 1; omega
  rw [u2] at hn
  cases hn
  rw [htt, u1] at hd
  simp only [Desc, DG] at hd
  obtain ⟨e, i, z, hd, hie, hsz, _⟩ := hd
  have hset : ∃ st2, Lk.setD (ds.map er) o.dst (.vw s p (lo0 + r.1) (lo0 + r.2.1)) = some st2 ∧ st' = st2 ∧ cs = r.2.2 := by
    rcases h5 with ⟨rfl, rfl, rfl, _⟩ | ⟨rfl, _⟩
    · simp only at hl
      obtain ⟨hs, hcs⟩ := ret_some hl
      exact ⟨st', by simpa using hs, rfl, hcs⟩
    · simp only at hl
      obtain ⟨hs, hcs⟩ := ret_some hl
      exact ⟨st', hs, rfl, hcs⟩
  obtain ⟨st2, hs, rfl, rfl⟩ := hset
  obtain ⟨v1, v2, v3, v4⟩ := h3
  have hlen : ((hi0 - lo0).toNat : Int) = hi0 - lo0 := by omega
  suffices ∃ v', (Instr.sliceAt T (a.eval x) (lo.map a.eval) (hi.map a.eval) none).run P w = .ok v' w ∧ VwIs sh.hd y.length (csz t) (lo0 + r.1) (lo0 + r.2.1) v' by
    obtain ⟨v', g1, g2⟩ := this
    obtain ⟨ds', q1, q2⟩ := h.setD (e := .vw s p (lo0 + r.1) (lo0 + r.2.1)) (v := v') hs ⟨d, _, l, t, m, y, sh, h1, h2, rfl, g2⟩ (by simp [Ent.bl]) (by simp [Ent.bl])
    refine ⟨_, _, w, ds', S, ?_, ⟨.inl rfl, fun _ => rfl⟩, q1, q2⟩
    simp only [execOp, ho]
    exact run_value g1
  rcases v4 with ⟨g1, g2⟩ | ⟨b, o0, cap, o', g1, g2, g4, g3⟩
  · have hz : y = [] := by
      simp only [hold] at h4
      rcases h4 with ⟨_, h4⟩ | ⟨cap, h4, _⟩
      · exact h4
      · rw [g1] at h4; cases h4
    subst hz
    simp only [List.length_nil, Int.natCast_zero, Int.ofNat_zero] at v3
    have e0 : hi0 = 0 := by omega
    have e1 : lo0 = 0 := by omega
    subst e0; subst e1
    obtain ⟨hb, b1, b2, b3⟩ := bnds_ok (P := P) (len := 0) h (by simpa using hr) hc true 0 (Nat.le_refl _)
    refine ⟨.slice none 0 0, ?_, by omega, by omega, by simp; omega, .inl ⟨g1, rfl⟩⟩
    rw [g2]
    unfold Instr.sliceAt Instr.slice
    simp only [Sem.run_bind, Sem.run_pure, Result.andThen_ok, run_underlying hd, Option.map_none, hb, run_sizeOf hie, hsz]
    have : r.1.toNat = 0 := by omega
    have : r.2.1.toNat = 0 := by omega
    simp [*]
  · obtain ⟨hb, b1, b2, b3⟩ := bnds_ok (P := P) (len := (hi0 - lo0).toNat) h (by rw [hlen]; exact hr) hc true (cap - lo0.toNat) (by omega)
    refine ⟨.slice (some ⟨b, if cap - lo0.toNat = r.1.toNat then o' else o' + r.1.toNat * csz t, none⟩) (r.2.1.toNat - r.1.toNat) (cap - lo0.toNat - r.1.toNat), ?_, by omega, by omega, by omega, .inr ⟨b, o0, cap, (if cap - lo0.toNat = r.1.toNat then o' else o' + r.1.toNat * csz t), g1, ?_, g4, ?_⟩⟩
    · rw [g2]
      unfold Instr.sliceAt Instr.slice
      simp only [Sem.run_bind, Sem.run_pure, Result.andThen_ok, run_underlying hd, Option.map_none, hb, run_sizeOf hie, hsz]
      congr 2
      split
      · rfl
      · simp [add_eq']
    · have e1 : r.2.1.toNat - r.1.toNat = (lo0 + r.2.1 - (lo0 + r.1)).toNat := by omega
      have e2 : cap - lo0.toNat - r.1.toNat = cap - (lo0 + r.1).toNat := by omega
      rw [e1, e2]
    · have e3 : (lo0 + r.1).toNat = lo0.toNat + r.1.toNat := by omega
      rw [e3]
      by_cases hm : cap - lo0.toNat = r.1.toNat
      · rw [if_pos hm]
        refine .inr ⟨by omega, ?_⟩
        rcases g3 with rfl | ⟨_, g3⟩
        · exact Nat.add_le_add_left (Nat.mul_le_mul_right _ (by omega)) _
        · exact g3
      · rw [if_neg hm]
        rcases g3 with rfl | ⟨g3, _⟩
        · left; rw [Nat.add_mul]; omega
        · omega
theorem slice_did {T : TypeId} {x : Operand} {lo hi : Option Operand} (hE : EnvOk τ P env) (ho : o.op = .slice T x lo hi none)
    (h : RelS τ cx S ds a.tmps w) (hl : opL env o (ds.map er) = some (cs, st')) (hc : ∀ c ∈ cs, c = true) : Did (τ := τ) P cx a o w st' := by
  cases hw : Lk.ownRow (ds.map er) x with
  | some r => exact sliceOwn_did hE ho hw h hl hc
  | none =>
  simp only [opL, ho, hw, Option.bind_eq_some_iff] at hl
  obtain ⟨u, hu, hl⟩ := hl
  split at hl
  · rename_i m0 m x0 hT
    rw [Option.bind_eq_some_iff] at hl
    obtain ⟨r, hr, hl⟩ := hl
    obtain ⟨hs, rfl⟩ := ret_some hl
    have hi0 := h.rdOp (a := a) rfl hu
    obtain ⟨e2, r2⟩ := hi0.str
    have hd := hE.ty _ _ _ hT
    simp only [Desc, DG] at hd
    obtain ⟨hb, b1, b2, b3⟩ := bnds_ok (P := P) h hr hc false x0.length (Nat.le_refl _)
    obtain ⟨ds', g1, g2⟩ := h.setAV (v := strV (ext x0 r.1 r.2.1)) hs (Is.mkS (Nat.le_trans (ext_length_le _ _ _) r2)) rfl
    refine ⟨_, _, w, ds', S, ?_, ⟨.inl rfl, fun _ => rfl⟩, g1, g2⟩
    simp only [execOp, ho]
    refine run_value ?_
    rw [e2]
    unfold Instr.sliceAt Instr.slice
    simp only [Sem.run_bind, Sem.run_pure, Result.andThen_ok, run_underlying hd, strV, size_mk, Option.map_none, Option.isSome_none, Bool.false_eq_true, if_false, hb, mk_extract]
    rfl
  · rename_i t' m0 t m x0 hT
    split at hl
    · rename_i hcond
      obtain ⟨rfl, hm⟩ := hcond
      rw [Option.bind_eq_some_iff] at hl
      obtain ⟨r, hr, hl⟩ := hl
      obtain ⟨hs, rfl⟩ := ret_some hl
      have hi0 := h.rdOp (a := a) rfl hu
      have hd := hE.ty _ _ _ hT
      simp only [Desc, DG] at hd
      obtain ⟨e, i, z, hd, hie, hsz, _⟩ := hd
      obtain ⟨vs, hvs, hrd⟩ := hi0.ro hm
      simp only [Rd] at hrd
      obtain ⟨ad, cap, rfl, q1, q2, q3, q4⟩ := hrd
      obtain ⟨hb, b1, b2, b3⟩ := bnds_ok (P := P) h hr hc true cap q1
      have hel : (ext x0 r.1 r.2.1).length = r.2.1.toNat - r.1.toNat := by
        unfold ext; rw [win_length _ _ _ (by omega)]
      let ad' : Option Addr := if cap = r.1.toNat then ad else ad.map (·.add (r.1.toNat * csz t'))
      have hrow : Rd τ (if m = .b then (fun b => S b ∨ cx.Sb b) else S) w (.l t') (ext x0 r.1 r.2.1) [.slice ad' (r.2.1.toNat - r.1.toNat) (cap - r.1.toNat)] := by
        simp only [Rd]
        refine ⟨ad', cap - r.1.toNat, by rw [hel], by rw [hel]; omega, by omega, ?_, ?_⟩
        · intro hn
          have : ad = none := by
            simp only [ad'] at hn
            split at hn
            · exact hn
            · simpa using hn
          have hx := q3 this
          subst hx
          simp [ext, win]
        · rcases q4 with rfl | ⟨b, off, C, e', f, rfl, g1, g2, g3⟩
          · left; simp [ext, win]
          · by_cases hc0 : cap = r.1.toNat
            · left
              apply List.eq_nil_of_length_eq_zero
              rw [hel]; omega
            · right
              refine ⟨b, off + r.1.toNat * csz t', C, e', f, ?_, g1, g2, fun j y hy => ?_⟩
              · simp only [ad', if_neg hc0, Option.map_some, Addr.add]
                split
                · rename_i h0; rw [h0]; rfl
                · rfl
              · have hy' : x0[r.1.toNat + j]? = some y := by
                  unfold ext at hy
                  rw [win_get] at hy
                  split at hy
                  · exact hy
                  · cases hy
                have := g3 _ _ hy'
                rw [Nat.add_mul, ← Nat.add_assoc] at this
                exact this
      obtain ⟨ds', g1, g2⟩ := h.setAV (v := valOf (.l t') [.slice ad' (r.2.1.toNat - r.1.toNat) (cap - r.1.toNat)]) hs (Is.of_ro (v := ⟨.l t', m, ext x0 r.1 r.2.1⟩) hm hrow) (by rcases hm with rfl | rfl <;> rfl)
      refine ⟨_, _, w, ds', S, ?_, ⟨.inl rfl, fun _ => rfl⟩, g1, g2⟩
      simp only [execOp, ho]
      refine run_value ?_
      rw [hvs]
      have hv0 : valOf (.l t') [Value.slice ad x0.length cap] = .slice ad x0.length cap := rfl
      rw [hv0]
      unfold Instr.sliceAt Instr.slice
      simp only [Sem.run_bind, Sem.run_pure, Result.andThen_ok, run_underlying hd, Option.map_none, hb, run_sizeOf hie, hsz]
      rfl
    · cases hl
  · cases hl
end Lk
end
section
namespace Lk
open Go
variable {Kw : KW}
variable {τ : Ax} {cx : Cx Kw} {S : Nat → Prop} {ds : DSt} {w : World} {P : Program} {env : Env} {a : Act} {o : Oper} {cs : List Bool} {st' : St}
theorem Rd_plain {S : Nat → Prop} : ∀ (t : Ty) (x : E t) (cs : List Value), Rd τ S w t x cs → ∀ v ∈ cs, plainV v = true := by
  intro t
  induction t with
  | c a r iha ihr =>
    intro x cs h v hv
    simp only [Rd] at h
    obtain ⟨c1, c2, rfl, h1, h2⟩ := h
    rcases List.mem_append.1 hv with hv | hv
    · exact iha _ _ h1 v hv
    · exact ihr _ _ h2 v hv
  | l t ih =>
    intro x cs h v hv
    simp only [Rd] at h
    obtain ⟨a, cap, rfl, _⟩ := h
    simp only [List.mem_singleton] at hv; subst hv; rfl
  | p t ih =>
    intro x cs h v hv
    cases x with
    | none => simp only [Rd] at h; subst h; simp only [List.mem_singleton] at hv; subst hv; rfl
    | some y => simp only [Rd] at h; obtain ⟨b, C, e, f, rfl, _⟩ := h; simp only [List.mem_singleton] at hv; subst hv; rfl
  | e =>
    intro x cs h v hv
    simp only [Rd] at h
    obtain ⟨u, rfl, h⟩ := h
    simp only [List.mem_singleton] at hv; subst hv
    rcases h with ⟨_, rfl⟩ | ⟨_, t, u, rfl, _⟩ <;> rfl
  | u => intro x cs h v hv; simp only [Rd] at h; subst h; simp at hv
  | z k => intro x cs h v hv; simp only [Rd] at h; subst h; simp only [List.mem_singleton] at hv; subst hv; cases k <;> rfl
  | a n => intro x cs h v hv; simp only [Rd] at h; obtain ⟨u, bs, rfl, _, h⟩ := h; simp only [List.mem_singleton] at hv; subst hv; obtain ⟨a, rfl⟩ | ⟨a, rfl⟩ := h.ptr <;> rfl
  | i k => intro x cs h v hv; simp only [Rd] at h; obtain ⟨rfl, _⟩ := h; simp only [List.mem_singleton] at hv; subst hv; rfl
  | s => intro x cs h v hv; simp only [Rd] at h; obtain ⟨rfl, _⟩ := h; simp only [List.mem_singleton] at hv; subst hv; rfl
  | «by» => intro x cs h v hv; simp only [Rd] at h; subst h; simp only [List.mem_singleton] at hv; subst hv; rfl
  | b => intro x cs h v hv; simp only [Rd] at h; subst h; simp only [List.mem_singleton] at hv; subst hv; rfl
theorem hold_plain {S Sb : Nat → Prop} : ∀ (t : Ty) (m : Md) (x : E t) (sh : Sh t), m.solid = true → hold τ S Sb w t m x sh → ∀ v ∈ cells τ t x sh, plainV v = true := by
  intro t
  induction t with
  | c a r iha ihr =>
    intro m x sh hm h v hv
    cases m with
    | q m n =>
      simp only [hold, cells, List.mem_append, Md.solid, Bool.and_eq_true] at *
      rcases hv with hv | hv
      · exact iha _ _ _ hm.1 h.1 v hv
      · exact ihr _ _ _ hm.2 h.2 v hv
    | h => simp [Md.solid] at hm
    | r => exact Rd_plain _ _ _ h v hv
    | b => exact Rd_plain _ _ _ h v hv
    | o _ => exact Rd_plain _ _ _ h v hv
  | l t ih =>
    intro m x sh hm h v hv
    cases m with
    | o m =>
      simp only [hold, cells, List.mem_singleton] at *
      subst hv
      rcases h with ⟨h, _⟩ | ⟨_, h, _⟩ <;> rw [h] <;> rfl
    | h => simp [Md.solid] at hm
    | r => exact Rd_plain _ _ _ h v hv
    | b => exact Rd_plain _ _ _ h v hv
    | q _ _ => exact Rd_plain _ _ _ h v hv
  | p t ih =>
    intro m x sh hm h v hv
    simp only [cells, List.mem_singleton] at hv
    subst hv; rfl
  | e =>
    intro m x sh hm h v hv
    have key : ∀ {S : Nat → Prop}, Rd τ S w .e x (cells τ .e x sh) → plainV v = true := by
      intro S h
      simp only [Rd] at h
      obtain ⟨u, hu, h⟩ := h
      rw [hu] at hv
      simp only [List.mem_singleton] at hv; subst hv
      rcases h with ⟨_, rfl⟩ | ⟨_, t, u, rfl, _⟩ <;> rfl
    cases m with
    | h => simp [Md.solid] at hm
    | _ => exact key h
  | a n =>
    intro m x sh hm h v hv
    cases m with
    | o m =>
      simp only [hold, cells, List.mem_singleton] at *
      subst hv; obtain ⟨a, ha⟩ | ⟨a, ha⟩ := h.ptr <;> rw [ha] <;> rfl
    | h => simp [Md.solid] at hm
    | r => exact Rd_plain _ _ _ h v hv
    | b => exact Rd_plain _ _ _ h v hv
    | q _ _ => exact Rd_plain _ _ _ h v hv
  | u => intro m x sh hm h v hv; simp [cells] at hv
  | z k => intro m x sh hm h v hv; simp only [cells, List.mem_singleton] at hv; subst hv; cases k <;> rfl
  | _ => intro m x sh hm h v hv; simp only [cells, List.mem_singleton] at hv; subst hv; rfl
theorem val_cells {t : Ty} {vs : List Value} (hl : vs.length = csz t) (hp : ∀ v ∈ vs, plainV v = true) : (valOf t vs).cells.toList = vs := by
  unfold valOf
  cases hagg : isAggT t with
  | true => simp [Value.cells]
  | false =>
    have := csz_one hagg
    match vs, hl.trans this with
    | [v], _ =>
      simp only [Bool.false_eq_true, if_false, List.headD_cons]
      have hv := hp v (by simp)
      cases v <;> simp_all [Value.cells, plainV]
theorem run_storeVar {T : TypeId} {t : Ty} {b o : Nat} {C : Array Value} {e : TypeId} {f : Nat × Nat} {i : TypeInfo} {vs : List Value} (hi : P.info? T = some i) (hsz : i.size = csz t)
    (hC : w.heap[b]? = some (.cells C e f)) (hb : o + csz t ≤ C.size) (hf : thaw C.size f) (hl : vs.length = csz t) (hp : ∀ v ∈ vs, plainV v = true) :
    ∃ w', (storeVar T ⟨b, o, none⟩ (valOf t vs)).run P w = .ok () w' ∧ Wrote b (splice C.toList o vs).toArray e f w w' := by
  obtain ⟨w', h1, h2⟩ := run_storeCells (P := P) (b := b) (o := o) vs 0 w C hC (by omega) hf hp
  refine ⟨w', ?_, by simpa using h2⟩
  unfold storeVar
  have hvc := val_cells hl hp
  have hsize : (valOf t vs).cells.size = csz t := by rw [← Array.length_toList, hvc, hl]
  rw [Sem.run_bind, run_sizeOf hi, Result.andThen_ok, hsize, hsz]
  simp only [ne_eq, not_true, if_false]
  rw [hvc]
  exact h1
theorem solid_of_cp : ∀ (t : Ty) (m : Md), cp t m = true → m.solid = true ∨ isAggT t = false ∨ True := fun _ _ _ => .inr (.inr trivial)
theorem Is.dv {v : AV} {val : Value} (h : Is (τ := τ) cx S w v val) (hc : v.cp = true) : ∃ d : DV, d.av = v ∧ d.hold τ S (fun b => S b ∨ cx.Sb b) w ∧ val = d.val τ ∧ d.bl = [] := by
  obtain ⟨_, d, rfl, h1, h2⟩ := h
  exact ⟨d, rfl, h1, h2, cp_bl _ _ _ _ hc⟩
theorem cp_plain : ∀ (t : Ty) (m : Md) (x : E t) (sh : Sh t) {S Sb : Nat → Prop}, cp t m = true → hold τ S Sb w t m x sh → ∀ v ∈ cells τ t x sh, plainV v = true := by
  intro t
  induction t with
  | c a r iha ihr =>
    intro m x sh S Sb hc h v hv
    cases m with
    | q m n =>
      simp only [hold, cells, List.mem_append, cp, Bool.and_eq_true] at *
      rcases hv with hv | hv
      · exact iha _ _ _ hc.1 h.1 v hv
      · exact ihr _ _ _ hc.2 h.2 v hv
    | h => simp [cp] at hc
    | r => exact Rd_plain _ _ _ h v hv
    | b => exact Rd_plain _ _ _ h v hv
    | o _ => simp [cp] at hc
  | l t ih =>
    intro m x sh S Sb hc h v hv
    cases m with
    | r => exact Rd_plain _ _ _ h v hv
    | b => exact Rd_plain _ _ _ h v hv
    | _ => simp [cp] at hc
  | p t ih =>
    intro m x sh S Sb hc h v hv
    simp only [cells, List.mem_singleton] at hv
    subst hv; rfl
  | e =>
    intro m x sh S Sb hc h v hv
    have key : ∀ {S : Nat → Prop}, Rd τ S w .e x (cells τ .e x sh) → plainV v = true := by
      intro S h
      simp only [Rd] at h
      obtain ⟨u, hu, h⟩ := h
      rw [hu] at hv
      simp only [List.mem_singleton] at hv; subst hv
      rcases h with ⟨_, rfl⟩ | ⟨_, t, u, rfl, _⟩ <;> rfl
    cases m with
    | h => simp [cp] at hc
    | _ => exact key h
  | a n =>
    intro m x sh S Sb hc h v hv
    cases m with
    | r => exact Rd_plain _ _ _ h v hv
    | b => exact Rd_plain _ _ _ h v hv
    | _ => simp [cp] at hc
  | u => intro m x sh S Sb hc h v hv; simp [cells] at hv
  | z k => intro m x sh S Sb hc h v hv; simp only [cells, List.mem_singleton] at hv; subst hv; cases k <;> rfl
  | _ => intro m x sh S Sb hc h v hv; simp only [cells, List.mem_singleton] at hv; subst hv; rfl
theorem set_er {s : Nat} {e : Ent DV Nat} : (ds.set s e).map er = (ds.map er).set s (er e) := by rw [List.map_set]
end Lk
end
section
namespace Lk
open Go
variable {Kw : KW}
variable {τ : Ax} {cx : Cx Kw} {S : Nat → Prop} {ds : DSt} {w : World} {P : Program} {env : Env} {a : Act} {o : Oper} {cs : List Bool} {st' : St}
theorem run_indexAt {T e : TypeId} {i : TypeInfo} {k : IntKind} {n : Int} {b off len cap : Nat} (hT : P.underlying T = some (.slice e)) (hi : P.info? e = some i) (h0 : 0 ≤ n) (h1 : n < len) :
    (Instr.indexAt T (.slice (some ⟨b, off, none⟩) len cap) (.int k n)).run P w = .ok (.pointer (some ⟨b, off + n.toNat * i.size, none⟩)) w := by
  unfold Instr.indexAt asIntOf
  simp only [Sem.run_bind, Sem.run_pure, Result.andThen_ok, run_underlying hT]
  rw [if_pos ⟨h0, h1⟩]
  simp only [Sem.run_bind, run_sizeOf hi, Result.andThen_ok, Sem.run_pure, add_eq]
theorem RelS.place (h : RelS τ cx S ds a.tmps w) {j s : Nat} {p : Path} {u : AV} (hp : Lk.place (ds.map er) j = some (s, p)) (hu : Lk.look (ds.map er) j = some u) :
    ∃ d d' l, ds[s]? = some (.av d) ∧ d.at? p = some (d', l) ∧ d'.av = u ∧ a.tmps.getD j undef = d'.val τ ∧ d'.hold τ S (fun b => S b ∨ cx.Sb b) w := by
  unfold Lk.place at hp
  unfold Lk.look at hu
  split at hp
  · rename_i v hv
    cases hp
    rw [hv] at hu
    obtain ⟨d, hd, rfl⟩ := getD_er hv
    obtain ⟨rfl, hm⟩ := seen_some hu
    have := h.ok j _ hd
    exact ⟨d, d, none, hd, at_nil _ _ _ _ _, rfl, this.2, this.1⟩
  · rename_i s0 p0 hv
    cases hp
    rw [hv] at hu
    have hi := getD_er_al hv
    obtain ⟨d, d', l, h1, h2, h3, h4, h5⟩ := h.al_hold hi
    simp only at hu
    split at hu
    · rename_i v0 hs
      obtain ⟨d0, hd0, rfl⟩ := getD_er hs
      rw [h1] at hd0; cases hd0
      simp only [DV.av] at hu
      rw [h5] at hu
      simp only [Option.bind_some] at hu
      obtain ⟨rfl, hm⟩ := seen_some hu
      exact ⟨d, d', l, h1, h2, rfl, h3, h4⟩
    · cases hu
  · cases hp
theorem indexAddr_did {T : TypeId} {j : Nat} {i : Operand} (hE : EnvOk τ P env) (ho : o.op = .indexAddr T (.tmp j) i)
    (h : RelS τ cx S ds a.tmps w) (hl : opL env o (ds.map er) = some (cs, st')) (hc : ∀ c ∈ cs, c = true) : Did (τ := τ) P cx a o w st' := by
  simp only [opL, ho, Option.bind_eq_some_iff] at hl
  obtain ⟨tm, htm, k, hk, u, hu, hl⟩ := hl
  have hd := hE.ty _ _ _ htm
  obtain ⟨e1', r1⟩ := h.rdI (a := a) rfl hk
  split at hl
  · rename_i ht
    rw [Option.bind_eq_some_iff] at hl
    obtain ⟨n, hn, hl⟩ := hl
    rw [ht] at hd
    split at hl
    · rename_i mo hmo
      split at hl
      · rename_i s p lo hi hg
        obtain ⟨hs, rfl⟩ := ret_some hl
        obtain ⟨t, m, x, sh, d, l, rfl, h1, h2, h3, h4⟩ := h.vw_look hg hu
        simp only [rowLen, Option.some.injEq] at hn hd
        subst hn
        obtain ⟨c1, c2⟩ : 0 ≤ k.2 ∧ k.2 < (Lk.ext x lo hi).length := by simpa using hc
        simp only [Desc, DG] at hd
        obtain ⟨e, i0, z, d1, d2, d3, _⟩ := hd
        obtain ⟨v1, v2, v3, v4⟩ := h3
        have hel : (Lk.ext x lo hi).length = hi.toNat - lo.toNat := by unfold Lk.ext; rw [win_length _ _ _ (by omega)]
        rcases v4 with ⟨e1, e2⟩ | ⟨b, o0, cap, o', e1, e2, hlc, e3⟩
        · simp only [hold] at h4
          rcases h4 with ⟨_, rfl⟩ | ⟨cap, g1, _⟩
          · simp at v3; omega
          · rw [e1] at g1; cases g1
        · simp only [hold] at h4
          rcases h4 with ⟨g1, _⟩ | ⟨cap', g1, g2, g3, g4, g5, g6, g7, g8⟩
          · rw [e1] at g1; cases g1
          · rw [e1] at g1
            simp only [Value.slice.injEq, Option.some.injEq, Addr.mk.injEq, and_true, true_and] at g1
            obtain ⟨⟨rfl, rfl⟩, rfl⟩ := g1
            have ho' : o' = sh.off + lo.toNat * csz t := by
              rcases e3 with h | ⟨h, _⟩
              · exact h
              · omega
            have hlt : (lo + k.2).toNat < x.length := by omega
            have hy : x[(lo + k.2).toNat]? = some x[(lo + k.2).toNat] := List.getElem?_eq_getElem hlt
            have hz : sh.es[(lo + k.2).toNat]? = some sh.es[(lo + k.2).toNat] := List.getElem?_eq_getElem (by omega)
            have hat : d.at? (p ++ [.x (lo + k.2)]) = some (⟨t, m, x[(lo + k.2).toNat], sh.es[(lo + k.2).toNat]⟩, some (sh.blk, sh.off + (lo + k.2).toNat * csz t)) := by
              have := at_append _ _ _ _ _ p [.x (lo + k.2)] _ _ h2
              unfold DV.at?
              rw [this]
              simp only [at?, e1, hy, hz, if_pos (show 0 ≤ lo + k.2 by omega), at_nil]
            obtain ⟨ds', q1, q2⟩ := h.setD (e := .ad s (p ++ [.x (lo + k.2)])) (v := .pointer (some ⟨sh.blk, sh.off + (lo + k.2).toNat * csz t, none⟩)) hs ⟨d, _, _, _, h1, hat, rfl⟩ (by simp [Ent.bl]) (by simp [Ent.bl])
            refine ⟨_, _, w, ds', S, ?_, ⟨.inl rfl, fun _ => rfl⟩, q1, q2⟩
            simp only [execOp, ho]
            refine run_value ?_
            rw [e1']
            have : a.eval (.tmp j) = .slice (some ⟨sh.blk, o', none⟩) (hi - lo).toNat (cap - lo.toNat) := by simp only [Act.eval]; exact e2
            rw [this, run_indexAt d1 d2 c1 (by omega), d3, ho']
            have e4 : (lo + k.2).toNat = lo.toNat + k.2.toNat := by omega
            rw [e4, Nat.add_mul, Nat.add_assoc]
      · rename_i hnv
        rw [Option.bind_eq_some_iff] at hl
        obtain ⟨sp, hsp, hl⟩ := hl
        obtain ⟨hs, rfl⟩ := ret_some hl
        obtain ⟨s, p⟩ := sp
        obtain ⟨d, d', l, g1, g2, g3, g4, g5⟩ := h.place hsp hu
        obtain ⟨t', m', x, sh⟩ := d'
        subst g3
        simp only [DV.av] at hmo hn hd ht
        cases t' with
        | l t =>
          simp only [rowLen, Option.some.injEq] at hn
          subst hn
          subst hmo
          obtain ⟨c1, c2⟩ : 0 ≤ k.2 ∧ k.2 < x.length := by simpa using hc
          simp only [Desc, DG] at hd
          obtain ⟨e, i0, z, d1, d2, d3, _⟩ := hd
          simp only [DV.hold, hold] at g5
          rcases g5 with ⟨_, rfl⟩ | ⟨cap, h1, h2, h3, h4, h5, h6, h7, h8⟩
          · simp at c2; omega
          · have hlt : k.2.toNat < x.length := by omega
            have hy : x[k.2.toNat]? = some x[k.2.toNat] := List.getElem?_eq_getElem hlt
            have hz : sh.es[k.2.toNat]? = some sh.es[k.2.toNat] := List.getElem?_eq_getElem (by omega)
            have hat : d.at? (p ++ [.x k.2]) = some (⟨t, mo, x[k.2.toNat], sh.es[k.2.toNat]⟩, some (sh.blk, sh.off + k.2.toNat * csz t)) := by
              have := at_append _ _ _ _ _ p [.x k.2] _ _ g2
              unfold DV.at?
              rw [this]
              simp only [at?, h1, hy, hz, if_pos c1, at_nil]
            obtain ⟨ds', q1, q2⟩ := h.setD (e := .ad s (p ++ [.x k.2])) (v := .pointer (some ⟨sh.blk, sh.off + k.2.toNat * csz t, none⟩)) hs ⟨d, _, _, _, g1, hat, rfl⟩ (by simp [Ent.bl]) (by simp [Ent.bl])
            refine ⟨_, _, w, ds', S, ?_, ⟨.inl rfl, fun _ => rfl⟩, q1, q2⟩
            simp only [execOp, ho]
            refine run_value ?_
            rw [e1']
            have : a.eval (.tmp j) = .slice (some ⟨sh.blk, sh.off, none⟩) x.length cap := by
              simp only [Act.eval, g4, DV.val, DV.cells, cells, valOf, isAggT, Bool.false_eq_true, if_false, List.headD_cons, h1]
            rw [this, run_indexAt d1 d2 c1 c2, d3]
        | _ => simp [rowLen] at hn
    · rename_i hno
      rw [Option.bind_eq_some_iff] at hl
      obtain ⟨v, hv, hl⟩ := hl
      obtain ⟨hs, rfl⟩ := ret_some hl
      obtain ⟨hm, d, rfl, hh, hv0⟩ := h.look hu
      obtain ⟨t', m', x, sh⟩ := d
      simp only [DV.av] at hn hd ht hv hm hno
      cases t' with
      | l t =>
        simp only [rowLen, Option.some.injEq] at hn
        subst hn
        obtain ⟨c1, c2⟩ : 0 ≤ k.2 ∧ k.2 < x.length := by simpa using hc
        simp only [Desc, DG] at hd
        obtain ⟨e, i0, z, d1, d2, d3, _⟩ := hd
        obtain ⟨hmm, hve⟩ : (m' = .r ∨ m' = .b) ∧ v = ⟨t, m', x.getD k.2.toNat (dflt t)⟩ := by
          cases m' <;> simp [elem] at hv <;> simp [hv]
        subst hve
        have hrd : Rd τ (if m' = .b then (fun b => S b ∨ cx.Sb b) else S) w (.l t) x [sh.hd] := by
          rcases hmm with rfl | rfl
          · simpa [DV.hold, hold_r, cells] using hh
          · simpa [DV.hold, hold_b, cells] using hh
        simp only [Rd] at hrd
        obtain ⟨a0, cap, f1, f2, f3, f4, f5⟩ := hrd
        simp only [List.cons.injEq, and_true] at f1
        rcases f5 with rfl | ⟨b, off, C, e', f', rfl, f6, f7, f8⟩
        · simp at c2; omega
        · have hy := getD_some (x := x) (i := k.2.toNat) (d := dflt t) (by omega)
          have hr := f8 _ _ hy
          have hSb : S b ∨ cx.Sb b := by
            rcases hmm with rfl | rfl
            · exact .inl (by simpa using f6)
            · simpa using f6
          obtain ⟨ds', q1, q2⟩ := h.setD (e := .ar ⟨t, m', x.getD k.2.toNat (dflt t)⟩) (v := .pointer (some ⟨b, off + k.2.toNat * csz t, none⟩)) hs
            ⟨b, off + k.2.toNat * csz t, C, e', f', rfl, hSb, (fun hne => by
              rcases hmm with rfl | rfl
              · simpa using f6
              · exact absurd rfl hne), f7, hmm, hr⟩ (by simp [Ent.bl]) (by simp [Ent.bl])
          refine ⟨_, _, w, ds', S, ?_, ⟨.inl rfl, fun _ => rfl⟩, q1, q2⟩
          simp only [execOp, ho]
          refine run_value ?_
          rw [e1']
          have : a.eval (.tmp j) = .slice (some ⟨b, off, none⟩) x.length cap := by
            simp only [Act.eval, hv0, DV.val, DV.cells, cells, valOf, isAggT, Bool.false_eq_true, if_false, List.headD_cons, f1]
          rw [this, run_indexAt d1 d2 c1 c2, d3]
      | _ => simp [rowLen] at hn
  · cases hl
end Lk
end
section
namespace Lk
open Go
variable {Kw : KW}
variable {τ : Ax} {cx : Cx Kw} {S : Nat → Prop} {ds : DSt} {w : World} {P : Program} {env : Env} {a : Act} {o : Oper} {cs : List Bool} {st' : St}
theorem flat_rd {S Sb S' : Nat → Prop} {w' : World} : ∀ (t : Ty) (m : Md) (x : E t) (sh : Sh t), flat t = true → nh t m = true → hold τ S Sb w t m x sh → Rd τ S' w' t x (cells τ t x sh) := by
  have key : ∀ (t : Ty) (x : E t) (vs : List Value) (S : Nat → Prop), flat t = true → Rd τ S w t x vs → Rd τ S' w' t x vs := by
    intro t
    induction t with
    | c a r iha ihr =>
      intro x vs S hf h
      simp only [flat, Bool.and_eq_true] at hf
      simp only [Rd] at h ⊢
      obtain ⟨c1, c2, rfl, h1, h2⟩ := h
      exact ⟨c1, c2, rfl, iha _ _ _ hf.1 h1, ihr _ _ _ hf.2 h2⟩
    | l t ih => intro x vs S hf; simp [flat] at hf
    | p t ih => intro x vs S hf; simp [flat] at hf
    | a n => intro x vs S hf; simp [flat] at hf
    | _ => intro x vs S hf h; exact h
  intro t
  induction t with
  | c a r iha ihr =>
    intro m x sh hf hm h
    cases m with
    | q m n =>
      simp only [flat, nh, Bool.and_eq_true] at hf hm
      simp only [hold] at h
      exact ⟨_, _, rfl, iha _ _ _ hf.1 hm.1 h.1, ihr _ _ _ hf.2 hm.2 h.2⟩
    | h => simp [nh] at hm
    | r => exact key _ _ _ _ hf h
    | b => exact key _ _ _ _ hf h
    | o _ => exact key _ _ _ _ hf h
  | l t ih => intro m x sh hf; simp [flat] at hf
  | p t ih => intro m x sh hf; simp [flat] at hf
  | a n => intro m x sh hf; simp [flat] at hf
  | _ =>
    intro m x sh hf hm h
    cases m with
    | h => simp [nh] at hm
    | _ => exact h
theorem Rd_c {S : Nat → Prop} {a r : Ty} {x : E a × E r} {sh : Sh a × Sh r} (h : Rd τ S w (.c a r) x (cells τ (.c a r) x sh)) : Rd τ S w a x.1 (cells τ a x.1 sh.1) ∧ Rd τ S w r x.2 (cells τ r x.2 sh.2) := by
  simp only [Rd, cells] at h
  obtain ⟨c1, c2, e, h1, h2⟩ := h
  have l1 := Rd_length τ _ _ _ _ _ h1
  have := List.append_inj e (by rw [cells_length, l1])
  rw [this.1, this.2]
  exact ⟨h1, h2⟩
theorem flat_hold {S Sb S' : Nat → Prop} : ∀ (t : Ty) (m : Md) (x : E t) (sh : Sh t), flat t = true → Rd τ S' w t x (cells τ t x sh) → hold τ S Sb w t m x sh := by
  have key : ∀ (t : Ty) (x : E t) (vs : List Value) (S S' : Nat → Prop), flat t = true → Rd τ S w t x vs → Rd τ S' w t x vs := by
    intro t
    induction t with
    | c a r iha ihr =>
      intro x vs S S' hf h
      simp only [flat, Bool.and_eq_true] at hf
      simp only [Rd] at h ⊢
      obtain ⟨c1, c2, rfl, h1, h2⟩ := h
      exact ⟨c1, c2, rfl, iha _ _ _ _ hf.1 h1, ihr _ _ _ _ hf.2 h2⟩
    | l t ih => intro x vs S S' hf; simp [flat] at hf
    | p t ih => intro x vs S S' hf; simp [flat] at hf
    | a n => intro x vs S S' hf; simp [flat] at hf
    | _ => intro x vs S S' hf h; exact h
  intro t
  induction t with
  | c a r iha ihr =>
    intro m x sh hf h
    cases m with
    | q m n =>
      simp only [flat, Bool.and_eq_true] at hf
      obtain ⟨h1, h2⟩ := Rd_c h
      simp only [hold]
      exact ⟨iha _ _ _ hf.1 h1, ihr _ _ _ hf.2 h2⟩
    | h => simp [hold]
    | r => exact key _ _ _ _ _ hf h
    | b => exact key _ _ _ _ _ hf h
    | o _ => exact key _ _ _ _ _ hf h
  | l t ih => intro m x sh hf; simp [flat] at hf
  | p t ih => intro m x sh hf; simp [flat] at hf
  | a n => intro m x sh hf; simp [flat] at hf
  | _ =>
    intro m x sh hf h
    cases m with
    | h => simp [hold]
    | _ => exact h
theorem cp_nh : ∀ (t : Ty) (m : Md), cp t m = true → nh t m = true := by
  intro t
  induction t with
  | c a r iha ihr => intro m h; cases m <;> simp_all [cp, nh]
  | _ => intro m h; cases m <;> simp_all [cp, nh]
theorem flat_bl : ∀ (t : Ty) (m : Md) (x : E t) (sh : Sh t), flat t = true → bl t m x sh = [] := by
  intro t
  induction t with
  | c a r iha ihr => intro m x sh h; cases m <;> simp_all [flat, bl]
  | l t ih => intro m x sh hf; simp [flat] at hf
  | p t ih => intro m x sh hf; simp [flat] at hf
  | a n => intro m x sh hf; simp [flat] at hf
  | _ => intro m x sh h; cases m <;> simp [bl]
theorem RelS.fresh {w' : World} {dst : Option Nat} {u : AV} {d : DV} {n : Nat} (h : RelS τ cx S ds a.tmps w) (g : Grows w w') (hs : Lk.setD (ds.map er) dst (.av u) = some st') (hu : d.av = u)
    (hd : d.hold τ S (fun b => S b ∨ cx.Sb b) w') (hb : d.bl = [n] ∨ d.bl = []) (hn : w.heap.size ≤ n ∧ n < w'.heap.size) : ∃ ds', st' = ds'.map er ∧ RelS τ cx S ds' (a.put dst (d.val τ)).tmps w' := by
  have h' := h.grows g
  subst hu
  refine h'.setD (e := .av d) hs ⟨hd, rfl⟩ ?_ ?_
  · simp only [Ent.bl]; rcases hb with hb | hb <;> rw [hb] <;> simp
  · intro b hbm
    have : b = n := by
      simp only [Ent.bl] at hbm
      rcases hb with hb | hb <;> rw [hb] at hbm <;> simp at hbm
      exact hbm
    subst this
    refine ⟨hn.2, .inr (Nat.le_trans h.inv.ext.size hn.1), fun hS => ?_, fun hB => ?_⟩
    · have := (h.inv.sw b hS).1; omega
    · have := (h.inv.own b hB).1; omega
theorem flat_row {t : Ty} {m : Md} {x : E (.l t)} {b off cap : Nat} {C : List Value} {e : TypeId} {f : Nat × Nat} {S Sb : Nat → Prop} (hf : flat t = true) (hC : w.heap[b]? = some (.cells C.toArray e f)) (hth : thaw C.length f)
    (hcap : x.length ≤ cap) (hbig : cap ≤ big) (hlen : off + cap * csz t ≤ C.length)
    (hx : ∀ i y, x[i]? = some y → Rd τ S w t y (win C (off + i * csz t) (csz t))) :
    ∃ sh : Sh (.l t), hold τ S Sb w (.l t) (.o m) x sh ∧ bl (.l t) (.o m) x sh = [b] ∧ sh.hd = .slice (some ⟨b, off, none⟩) x.length cap := by
  have : ∃ es : List (Sh t), es.length = x.length ∧ ∀ i y z, x[i]? = some y → es[i]? = some z → cells τ t y z = win C (off + i * csz t) (csz t) := by
    clear hcap
    have : ∀ (k : Nat) (x : List (E t)), (∀ (i : Nat) (y : E t), x[i]? = some y → Rd τ S w t y (win C (off + (k + i) * csz t) (csz t))) →
        ∃ es : List (Sh t), es.length = x.length ∧ ∀ (i : Nat) (y : E t) (z : Sh t), x[i]? = some y → es[i]? = some z → cells τ t y z = win C (off + (k + i) * csz t) (csz t) := by
      intro k x
      induction x generalizing k with
      | nil => intro _; exact ⟨[], rfl, by simp⟩
      | cons y x ih =>
        intro h
        obtain ⟨z, hz⟩ := Rd_sh t y _ (h 0 y rfl)
        obtain ⟨es, h1, h2⟩ := ih (k + 1) (fun i y' hy' => by
          have := h (i + 1) y' (by simpa using hy')
          rwa [show k + (i + 1) = k + 1 + i by omega] at this)
        refine ⟨z :: es, by simp [h1], fun i y' z' hy' hz' => ?_⟩
        cases i with
        | zero => simp at hy' hz'; subst hy'; subst hz'; exact hz
        | succ i =>
          have := h2 i y' z' (by simpa using hy') (by simpa using hz')
          rwa [show k + (i + 1) = k + 1 + i by omega]
    simpa using this 0 x (by simpa using hx)
  obtain ⟨es, h1, h2⟩ := this
  refine ⟨⟨.slice (some ⟨b, off, none⟩) x.length cap, b, off, C, e, f, es⟩, ?_, ?_, rfl⟩
  · simp only [hold]
    refine .inr ⟨cap, rfl, h1, hcap, hbig, hlen, hC, hth, fun i y z hy hz => ?_⟩
    refine ⟨by rw [h2 i y z hy hz], flat_hold (S' := S) _ _ _ _ hf ?_⟩
    rw [h2 i y z hy hz]; exact hx i y hy
  · simp only [bl]
    congr 1
    rw [List.flatten_eq_nil_iff]
    intro l hl
    obtain ⟨i, hi⟩ := List.mem_iff_getElem?.1 hl
    rw [List.getElem?_zipWith] at hi
    split at hi
    · cases hi; exact flat_bl _ _ _ _ hf
    · cases hi
end Lk
end
section
namespace Lk
open Go
variable {Kw : KW}
variable {τ : Ax} {cx : Cx Kw} {S : Nat → Prop} {ds : DSt} {w : World} {P : Program} {env : Env} {a : Act} {o : Oper} {cs : List Bool} {st' : St}
theorem row_rd {t : Ty} {m : Md} {x : E (.l t)} {sh : Sh (.l t)} {S Sb : Nat → Prop} (hf : flat t = true) (hm : m ≠ .h) (hnh : ∀ m', m = .o m' → nh t m' = true)
    (h : hold τ S Sb w (.l t) m x sh) : Rd τ (fun _ => True) w (.l t) x [sh.hd] := by
  cases m with
  | h => exact absurd rfl hm
  | o m' =>
    simp only [hold] at h
    simp only [Rd]
    rcases h with ⟨h, rfl⟩ | ⟨cap, h1, h2, h3, h4, h5, h6, h7, h8⟩
    · exact ⟨none, 0, by rw [h]; rfl, by simp, by simp [big], fun _ => rfl, .inl rfl⟩
    · refine ⟨_, cap, by rw [h1], h3, h4, by simp, .inr ⟨sh.blk, sh.off, sh.C.toArray, sh.ety, sh.frz, rfl, trivial, h6, fun i y hy => ?_⟩⟩
      have hi : i < sh.es.length := by rw [h2]; exact lt_of_get hy
      have hh := h8 i y _ hy (List.getElem?_eq_getElem hi)
      rw [hh.1]
      exact flat_rd _ _ _ _ hf (hnh _ rfl) hh.2
  | b => rw [hold_b] at h; exact Rd_keep τ (fun b _ => ⟨trivial, rfl⟩) _ _ _ h
  | r => rw [hold_r] at h; exact Rd_keep τ (fun b _ => ⟨trivial, rfl⟩) _ _ _ h
  | q _ _ => exact Rd_keep τ (fun b _ => ⟨trivial, rfl⟩) _ _ _ h
theorem src_cells {t : Ty} {x : E (.l t)} {v : Value} (h : Rd τ (fun _ => True) w (.l t) x [v]) (n : Nat) (hn : n ≤ x.length) :
    ∃ vs : List Value, (∀ w1 : World, w1.heap = w.heap → (Builtin.firstCells (csz t) n v).run P w1 = .ok vs.toArray w1) ∧ vs.length = n * csz t ∧
      (∀ (i : Nat) (y : E t), i < n → x[i]? = some y → Rd τ (fun _ => True) w t y (win vs (i * csz t) (csz t))) ∧ (Builtin.lenOf v).run P w = .ok x.length w := by
  simp only [Rd] at h
  obtain ⟨a, cap, h1, h2, h3, h4, h5⟩ := h
  simp only [List.cons.injEq, and_true] at h1
  subst h1
  cases a with
  | none =>
    have hx := h4 rfl
    subst hx
    simp only [List.length_nil, Nat.le_zero] at hn
    subst hn
    exact ⟨[], fun _ _ => rfl, by simp, by simp, rfl⟩
  | some ad =>
    rcases h5 with rfl | ⟨b, off, C, e, f, e1, _, hC, hx⟩
    · simp only [List.length_nil, Nat.le_zero] at hn
      subst hn
      exact ⟨[], fun _ _ => by simp [Builtin.firstCells, loadCells, loadCellsFrom], by simp, by simp, rfl⟩
    · simp only [Option.some.injEq] at e1
      subst e1
      have hb : off + n * csz t ≤ C.size ∨ n * csz t = 0 := by
        rcases Nat.eq_zero_or_pos n with rfl | hpos
        · right; simp
        · rcases Nat.eq_zero_or_pos (csz t) with hz | hz
          · right; rw [hz]; simp
          · left
            have hy : x[n - 1]? = some x[n - 1] := List.getElem?_eq_getElem (by omega)
            have := Rd_length τ _ _ _ _ _ (hx _ _ hy)
            unfold win at this
            simp only [List.length_take, List.length_drop, Array.length_toList] at this
            have e2 : (n - 1) * csz t + csz t = n * csz t := by rw [← Nat.succ_mul]; congr 1; omega
            omega
      refine ⟨win C.toList off (n * csz t), fun w1 hw1 => ?_, ?_, fun i y hi hy => ?_, rfl⟩
      · simp only [Builtin.firstCells]
        rw [← hw1] at hC
        rcases hb with hb | hb
        · exact run_loadCells hC hb
        · rw [hb]; simp [loadCells, loadCellsFrom, win]
      · rcases hb with hb | hb
        · exact win_length _ _ _ (by simpa using hb)
        · rw [hb]; simp [win]
      · rw [win_win]
        · exact hx i y hy
        · have : i * csz t + csz t ≤ n * csz t := by rw [← Nat.succ_mul]; exact Nat.mul_le_mul_right _ (by omega)
          omega
theorem str_cells {x : List UInt8} : ∃ vs : List Value, (∀ w1 : World, (Builtin.firstCells 1 x.length (strV x)).run P w1 = .ok vs.toArray w1) ∧ vs.length = x.length ∧
    (∀ (i : Nat) (y : UInt8), x[i]? = some y → Rd τ (fun _ => True) w .by y (win vs i 1)) ∧ (Builtin.lenOf (strV x)).run P w = .ok x.length w := by
  refine ⟨x.map fun b => .int .u8 b.toNat, fun w1 => ?_, by simp, fun i y hy => ?_, by simp [Builtin.lenOf, strV, size_mk]⟩
  · simp only [Builtin.firstCells, strV]
    have : (ByteArray.mk x.toArray).extract 0 x.length = ByteArray.mk x.toArray := by
      rw [mk_extract]; simp [win]
    rw [this]
    simp
  · simp only [Rd]
    unfold win
    have hi := lt_of_get hy
    rw [List.getElem?_eq_getElem hi] at hy
    cases hy
    rw [List.drop_eq_getElem_cons (by simpa using hi)]
    simp
end Lk
end
section
namespace Lk
open Go
variable {Kw : KW}
variable {τ : Ax} {cx : Cx Kw} {S : Nat → Prop} {ds : DSt} {w : World} {P : Program} {env : Env} {a : Act} {o : Oper} {cs : List Bool} {st' : St}
theorem RelS.chg {tmps : Array Value} {w' : World} {L : List Nat} (h : RelS τ cx S ds tmps w) (g : Ext L w w') (hL : ∀ b ∈ L, b ∉ blocks ds ∧ ¬ (S b ∨ cx.Sb b) ∧ (b ∈ cx.B0 ∨ cx.w0.heap.size ≤ b)) : RelS τ cx S ds tmps w' := by
  have e := h.inv.ext
  have hS : ∀ b, (S b ∨ cx.Sb b) → w'.heap[b]? = w.heap[b]? := fun b hb => g.block b (h.inv.sw b hb).1 (fun hl => (hL b hl).2.1 hb)
  refine ⟨h.size, ⟨⟨g.os.trans e.os, g.tape.trans e.tape, g.output.trans e.output, Nat.le_trans e.size g.size, fun b hb hn => ?_⟩,
    h.inv.s0, h.inv.s1, fun b hb => ⟨Nat.lt_of_lt_of_le (h.inv.sw b hb).1 g.size, (h.inv.sw b hb).2⟩, fun b hb => ⟨Nat.lt_of_lt_of_le (h.inv.own b hb).1 g.size, (h.inv.own b hb).2⟩, h.inv.nodup⟩, fun i e he => ?_⟩
  · rw [g.block b (Nat.lt_of_lt_of_le hb e.size) (fun hl => ?_)]
    · exact e.block b hb hn
    · rcases (hL b hl).2.2 with h1 | h1
      · exact hn h1
      · omega
  · exact Ent.ok_keep (fun b hb => hS b (.inl hb)) hS (fun b hb => g.block b (h.inv.own b (mem_blocks he b hb)).1 (fun hl => (hL b hl).1 (mem_blocks he b hb))) (h.ok i e he)
theorem drop_map {V B V' B' : Type} (f : V → V') (g : B → B') (s : Nat) (st : List (Ent V B)) : ((st.map fun e => if e.root = some s then Ent.dead else e).set s .dead).map (Ent.map f g) = ((st.map (Ent.map f g)).map fun e => if e.root = some s then Ent.dead else e).set s .dead := by
  simp only [List.map_set, List.map_map, Ent.map]
  congr 1
  apply List.map_congr_left
  intro e _
  simp only [Function.comp, root_map]
  split <;> rfl
def dropD (ds : DSt) (s : Nat) : DSt := (ds.map fun e => if e.root = some s then .dead else e).set s .dead
theorem RelS.drop {tmps : Array Value} (h : RelS τ cx S ds tmps w) (s : Nat) : RelS τ cx S (dropD ds s) tmps w := by
  have hsub := blocks_sub (ds := ds) (ds' := dropD ds s) (by simp [dropD]) (by
    intro k e e' he he'
    unfold dropD at he'
    by_cases hk : k = s
    · subst hk
      rw [List.getElem?_set_self (by rw [List.length_map]; exact lt_of_get he)] at he'
      cases he'; exact .inr rfl
    · rw [List.getElem?_set_ne (fun e => hk e.symm), List.getElem?_map, he] at he'
      simp only [Option.map_some, Option.some.injEq] at he'
      subst he'
      split
      · exact .inr rfl
      · exact .inl rfl)
  refine ⟨by simp [dropD, h.size], h.inv.fewer (fun b hb => hsub.subset hb) (h.inv.nodup.sublist hsub), fun k e he => ?_⟩
  unfold dropD at he
  by_cases hk : k = s
  · subst hk
    have := lt_of_get he
    rw [List.getElem?_set_self (by simpa using this)] at he
    cases he; trivial
  · rw [List.getElem?_set_ne (fun e => hk e.symm), List.getElem?_map, Option.map_eq_some_iff] at he
    obtain ⟨e0, he0, rfl⟩ := he
    split
    · trivial
    · rename_i hr
      refine ok_other (h.ok k _ he0) hr (fun s' d hs hd => ?_)
      unfold dropD
      rw [List.getElem?_set_ne (fun e => hs e.symm), List.getElem?_map, hd]
      simp [Ent.root]
theorem dropD_blocks {s : Nat} {d : DV} (h : ds[s]? = some (.av d)) (hn : (blocks ds).Nodup) : ∀ b ∈ d.bl, b ∉ blocks (dropD ds s) := by
  intro b hb hb'
  obtain ⟨R, p1, p2⟩ := set_perm ds s _ h
  have hR : b ∈ R := by
    have hsub : (blocks (dropD ds s)).Sublist (blocks (ds.set s .dead)) := blocks_sub (by simp [dropD]) (by
      intro k e e' he he'
      unfold dropD at he'
      by_cases hk : k = s
      · subst hk
        rw [List.getElem?_set_self (lt_of_get h)] at he
        rw [List.getElem?_set_self (by rw [List.length_map]; exact lt_of_get h)] at he'
        cases he'; exact .inr rfl
      · rw [List.getElem?_set_ne (fun e => hk e.symm)] at he
        rw [List.getElem?_set_ne (fun e => hk e.symm), List.getElem?_map, he] at he'
        simp only [Option.map_some, Option.some.injEq] at he'
        subst he'
        split
        · exact .inr rfl
        · exact .inl rfl)
    have := (p2 .dead).subset (hsub.subset hb')
    simpa [Ent.bl] using this
  have := p1.nodup_iff.1 hn
  exact (List.nodup_append.1 this).2.2 b hb b hR rfl
theorem growBy_le (need : Nat) : ∀ (r c : Nat), 256 ≤ need → c ≤ 2 * need → Builtin.growBy need r c ≤ 2 * need
  | 0, c, _, h => h
  | r + 1, c, h, hc => by
    unfold Builtin.growBy
    split
    · exact hc
    · exact growBy_le need r _ h (by omega)
theorem nextcap_le {need cap : Nat} (h : cap < need) : Builtin.nextslicecap need cap ≤ 2 * need := by
  unfold Builtin.nextslicecap
  split
  · omega
  · split
    · omega
    · exact growBy_le _ _ _ (by omega) (by omega)
theorem run_askRoom {n : Nat} : (askRoom n).run P w = .ok () w := by unfold askRoom; split <;> rfl
theorem run_choose {q : Question} (h : q.forced = false) : (choose q).run P w = .ok (q.cut (w.tape w.drawn q)) { w with drawn := w.drawn + 1 } := by
  simp [choose, Sem.run, h]
theorem run_zero {T : TypeId} {i : TypeInfo} {z : Value} (h : P.info? T = some i) (hz : i.zero = some z) : (zeroValue T).run P w = .ok z w := by
  unfold zeroValue
  rw [Sem.run_bind, run_info h, Result.andThen_ok, hz]; rfl
theorem zeroCells_size (z : Array Value) (n : Nat) : (Builtin.zeroCells z n).size = n * z.size := by simp [Builtin.zeroCells]
theorem thaw_zero (n : Nat) : thaw n (0, 0) := by intro k _ h; omega
theorem Ext.refl (w : World) : Ext [] w w := ⟨rfl, rfl, rfl, Nat.le_refl _, fun _ _ _ => rfl⟩
theorem run_append {t : Ty} {m : Md} {x : E (.l t)} {sh : Sh (.l t)} {T T2 e : TypeId} {i : TypeInfo} {z : Value} {d2 : TypeDesc} {vs : List Value} {y : List (E t)} {vb vsrc : Value} {Sb : Nat → Prop}
    (hf : flat t = true) (hnh : nh t m = true) (hb : hold τ S Sb w (.l t) (.o m) x sh) (hvb : vb = sh.hd)
    (hT : P.underlying T = some (.slice e)) (hi : P.info? e = some i) (hsz : i.size = csz t) (hz : i.zero = some z) (hzs : z.cells.size = csz t)
    (hT2 : P.underlying T2 = some d2) (hd2 : ∀ k, d2 ≠ .int k)
    (hlen : (Builtin.lenOf vsrc).run P w = .ok y.length w) (hfc : ∀ w1 : World, w1.heap = w.heap → (Builtin.firstCells (csz t) y.length vsrc).run P w1 = .ok vs.toArray w1) (hvl : vs.length = y.length * csz t)
    (hy : ∀ (i : Nat) (u : E t), y[i]? = some u → Rd τ (fun _ => True) w t u (win vs (i * csz t) (csz t)))
    (hbig : (x.length + y.length) * i.bytes ≤ 140737488355328) (hbig2 : x.length + y.length ≤ 140737488355328) (oT : TypeId) :
    ∃ w' d', (Builtin.append_ #[T, T2] oT #[vb, vsrc]).run P w = .ok (DV.val τ d') w' ∧ d'.av = ⟨.l t, .o m, x ++ y⟩ ∧ d'.hold τ S Sb w' ∧
      (d'.bl = bl (.l t) (.o m) x sh ∧ Ext (bl (.l t) (.o m) x sh) w w' ∨ Ext [] w w' ∧ ∃ n, d'.bl = [n] ∧ w.heap.size ≤ n ∧ n < w'.heap.size) := by
  subst hvb
  obtain ⟨base, cap, hhd, hxc, hcb, hbn⟩ : ∃ a cap, sh.hd = .slice a x.length cap ∧ x.length ≤ cap ∧ cap ≤ big ∧ (a = none → x = [] ∧ cap = 0) := by
    simp only [hold] at hb
    rcases hb with ⟨h1, rfl⟩ | ⟨cap, h1, h2, h3, h4, _⟩
    · exact ⟨none, 0, h1, by simp, by simp [big], fun _ => ⟨rfl, rfl⟩⟩
    · exact ⟨_, cap, h1, h3, h4, by simp⟩
  have hrd := row_rd hf (by simp) (fun m' e => by cases e; exact hnh) hb
  have hT2' : (match d2 with | .int _ => true | _ => false) = false := by
    cases d2 <;> first | rfl | exact absurd rfl (hd2 _)
  have hlx : (x ++ y).length = x.length + y.length := by simp
  by_cases hle : x.length + y.length ≤ cap
  · -- in place
    have hrun0 : ∀ w', ((match base with
            | some a => do
              storeCells (a.add (x.length * csz t)) vs
              pure (Value.slice base (x.length + y.length) cap)
            | _ => pure (Value.slice base (x.length + y.length) cap) : Sem Value).run P w = .ok (.slice base (x.length + y.length) cap) w') →
        (Builtin.append_ #[T, T2] oT #[sh.hd, vsrc]).run P w = .ok (.slice base (x.length + y.length) cap) w' := by
      intro w' hw'
      rw [hhd]
      unfold Builtin.append_
      simp only [List.getElem?_toArray, List.getElem?_cons_zero, List.getElem?_cons_succ, Sem.run_bind, run_underlying hT, Result.andThen_ok, run_sizeOf hi, run_underlying hT2, Sem.run_pure, hlen,
        Bool.false_eq_true, if_false, if_pos hle, Bool.not_false, if_true, hsz, hfc w rfl]
      exact hw'
    simp only [hold] at hb
    rcases hb with ⟨h1, rfl⟩ | ⟨cap', h1, h2, h3, h4, h5, h6, h7, h8⟩
    · rw [h1] at hhd
      cases hhd
      have hy0 : y = [] := by simpa using hle
      subst hy0
      refine ⟨w, ⟨.l t, .o m, [], sh⟩, ?_, rfl, .inl ⟨h1, rfl⟩, .inl ⟨rfl, ?_⟩⟩
      · have := hrun0 w rfl
        rw [this]
        simp [DV.val, DV.cells, cells, valOf, isAggT, h1]
      · simp only [bl, h1]; exact Ext.refl w
    · rw [h1] at hhd
      cases hhd
      have hmul : x.length * csz t + y.length * csz t ≤ cap * csz t := by rw [← Nat.add_mul]; exact Nat.mul_le_mul_right _ hle
      have hpl : ∀ v ∈ vs, plainV v = true := by
        intro v hv
        obtain ⟨k, hk⟩ := List.mem_iff_getElem?.1 hv
        have hk1 := lt_of_get hk
        rw [hvl] at hk1
        have hcp : 0 < csz t := by
          rcases Nat.eq_zero_or_pos (csz t) with h | h
          · rw [h] at hk1; omega
          · exact h
        have hq : k / csz t < y.length := by rw [Nat.div_lt_iff_lt_mul hcp]; exact hk1
        have hr := hy _ _ (List.getElem?_eq_getElem hq)
        refine Rd_plain _ _ _ hr v ?_
        refine List.mem_of_getElem? (i := k % csz t) ?_
        rw [win_get, if_pos (Nat.mod_lt _ hcp)]
        rw [Nat.mul_comm, Nat.div_add_mod]
        exact hk
      obtain ⟨w', k1, k2⟩ := run_storeCells (P := P) (b := sh.blk) (o := sh.off + x.length * csz t) vs 0 w sh.C.toArray h6 (by simp only [List.size_toArray]; omega) (by simpa using h7) hpl
      have hC' : (splice sh.C (sh.off + x.length * csz t) vs).length = sh.C.length := splice_length _ _ _ (by omega)
      obtain ⟨sh', g1, g2, g3⟩ := flat_row (τ := τ) (S := S) (Sb := Sb) (w := w') (t := t) (m := m) (x := x ++ y) (b := sh.blk) (off := sh.off) (cap := cap) (C := splice sh.C (sh.off + x.length * csz t) vs) (e := sh.ety) (f := sh.frz) hf
        (by simpa using k2.here) (by rw [hC']; exact h7) (by rw [hlx]; exact hle) h4 (by rw [hC']; exact h5) (fun i u hu => by
          by_cases hix : i < x.length
          · rw [List.getElem?_append_left hix] at hu
            have hz := List.getElem?_eq_getElem (show i < sh.es.length by omega)
            have hh := h8 i u _ hu hz
            have hi1 : i * csz t + csz t ≤ x.length * csz t := by rw [← Nat.succ_mul]; exact Nat.mul_le_mul_right _ hix
            rw [win_splice_other _ _ _ _ _ (by omega) (by omega), hh.1]
            exact flat_rd _ _ _ _ hf hnh hh.2
          · rw [List.getElem?_append_right (by omega)] at hu
            have hr := hy _ _ hu
            have hlt := lt_of_get hu
            have hi2 : (i - x.length) * csz t + csz t ≤ y.length * csz t := by rw [← Nat.succ_mul]; exact Nat.mul_le_mul_right _ hlt
            have e1 : sh.off + i * csz t = sh.off + x.length * csz t + (i - x.length) * csz t := by
              have : i * csz t = x.length * csz t + (i - x.length) * csz t := by rw [← Nat.add_mul]; congr 1; omega
              omega
            have e2 := win_splice_same sh.C (sh.off + x.length * csz t) vs (by omega)
            rw [e1, ← win_win _ _ (vs.length) _ _ (by omega), e2]
            have := flat_rd (τ := τ) (S := fun _ => True) (Sb := fun _ => True) (S' := S) (w' := w') t .r u (Classical.choose (Rd_sh _ _ _ hr)) hf (by cases t <;> rfl) (by rw [hold_r, Classical.choose_spec (Rd_sh _ _ _ hr)]; exact hr)
            rw [Classical.choose_spec (Rd_sh _ _ _ hr)] at this
            exact this)
      refine ⟨w', ⟨.l t, .o m, x ++ y, sh'⟩, ?_, rfl, g1, .inl ⟨?_, ?_⟩⟩
      · rw [hrun0 w' (by
          simp only [Sem.run_bind, add_eq]
          rw [k1]; rfl)]
        simp only [DV.val, DV.cells, cells, valOf, isAggT, g3, Bool.false_eq_true, if_false, List.headD_cons, hlx]
      · show bl (.l t) (.o m) (x ++ y) sh' = _
        rw [g2]
        simp only [bl, h1]
        congr 1
        symm
        rw [List.flatten_eq_nil_iff]
        intro l hl
        obtain ⟨i, hi⟩ := List.mem_iff_getElem?.1 hl
        rw [List.getElem?_zipWith] at hi
        split at hi
        · cases hi; exact flat_bl _ _ _ _ hf
        · cases hi
      · refine ⟨k2.os, k2.tape, k2.output, by rw [k2.size]; exact Nat.le_refl _, fun b hb hnb => k2.block b (fun e => hnb ?_)⟩
        subst e
        simp only [bl, h1]
        simp
  · -- a new row
    have hcn : cap < x.length + y.length := by omega
    have hnc := nextcap_le hcn
    have hb2 : ¬ Builtin.nextslicecap (x.length + y.length) cap * i.bytes > 2 ^ 48 := by
      have := Nat.mul_le_mul_right i.bytes hnc
      have e : 2 * (x.length + y.length) * i.bytes = 2 * ((x.length + y.length) * i.bytes) := by rw [Nat.mul_assoc]
      omega
    have hb3 : ¬ ((x.length + y.length : Nat) > IntKind.i64.max ∧ (False ∨ i.bytes = 0)) := by
      intro h
      have := h.1
      simp only [IntKind.max, IntKind.signed, IntKind.bits, if_true] at this
      omega
    obtain ⟨os, o1, o2, o3, _⟩ := src_cells (P := P) hrd x.length (Nat.le_refl _)
    generalize hN : Question.cut (.appendCap (x.length + y.length) cap e) (w.tape w.drawn (.appendCap (x.length + y.length) cap e)) = N
    have hN1 : x.length + y.length ≤ N ∧ N ≤ big := by
      rw [← hN]
      simp only [Question.cut, big]
      have : 0 < 2 ^ 63 - (x.length + y.length) := by omega
      have := Nat.mod_lt (w.tape w.drawn (.appendCap (x.length + y.length) cap e)) this
      omega
    let C' : List Value := os ++ vs ++ (Builtin.zeroCells z.cells (N - (x.length + y.length))).toList
    have hC'l : C'.length = N * csz t := by
      simp only [C', List.length_append, Array.length_toList, zeroCells_size, hzs, o2, hvl]
      rw [← Nat.add_mul, ← Nat.add_mul]; congr 1; omega
    let w1 : World := { w with drawn := w.drawn + 1 }
    let w' : World := { w1 with heap := w1.heap.push (.cells C'.toArray e) }
    have hrun : (Builtin.append_ #[T, T2] oT #[sh.hd, vsrc]).run P w = .ok (.slice (some ⟨w.heap.size, 0, none⟩) (x.length + y.length) N) w' := by
      have ho1 := o1 w1 rfl
      have hf1 := hfc w1 rfl
      have hz1 := run_zero (w := w1) hi hz
      rw [hhd] at ho1 ⊢
      unfold Builtin.append_
      simp only [List.getElem?_toArray, List.getElem?_cons_zero, List.getElem?_cons_succ, Sem.run_bind, run_underlying hT, Result.andThen_ok, run_sizeOf hi, run_underlying hT2, Sem.run_pure, hlen,
        Bool.false_eq_true, if_false, if_neg hle, Bool.not_false, if_true, hsz, false_or]
      have hb4 : ¬ (((x.length + y.length : Nat) : Int) > IntKind.i64.max ∧ i.bytes = 0) := fun h => hb3 ⟨h.1, .inr h.2⟩
      have hch := run_choose (P := P) (w := w) (q := .appendCap (x.length + y.length) cap e) rfl
      rw [hN] at hch
      rw [run_info hi, Result.andThen_ok, if_neg hb4]
      simp only [Sem.run_bind, run_info hi, Result.andThen_ok]
      rw [if_neg hb2]
      simp only [Sem.run_bind, hch, run_info hi, Result.andThen_ok, run_askRoom]
      rw [show ({ w with drawn := w.drawn + 1 } : World) = w1 from rfl, ho1]
      simp only [Result.andThen_ok, hf1, hz1, Sem.run_pure]
      simp only [newRow, newObj, Sem.run_bind, Sem.run_pure]
      have : os.toArray ++ vs.toArray ++ Builtin.zeroCells z.cells (N - (x.length + y.length)) = C'.toArray := by
        simp [C']
      rw [this]
      rfl
    obtain ⟨sh', g1, g2, g3⟩ := flat_row (τ := τ) (S := S) (Sb := Sb) (w := w') (t := t) (m := m) (x := x ++ y) (b := w.heap.size) (off := 0) (cap := N) (C := C') (e := e) (f := (0, 0)) hf
      (by simp [w', w1]) (thaw_zero _) (by rw [hlx]; exact hN1.1) hN1.2 (by rw [hC'l]; omega) (fun k u hu => by
        rw [Nat.zero_add]
        have key : ∀ vs', Rd τ (fun _ => True) w t u vs' → Rd τ S w' t u vs' := fun vs' hr => by
          have := flat_rd (τ := τ) (S := fun _ => True) (Sb := fun _ => True) (S' := S) (w' := w') t .r u (Classical.choose (Rd_sh _ _ _ hr)) hf (by cases t <;> rfl) (by rw [hold_r, Classical.choose_spec (Rd_sh _ _ _ hr)]; exact hr)
          rw [Classical.choose_spec (Rd_sh _ _ _ hr)] at this
          exact this
        have hwin : ∀ (A B D : List Value) (p n : Nat), A.length ≤ p → p + n ≤ A.length + B.length → win (A ++ B ++ D) p n = win B (p - A.length) n := by
          intro A B D p n h1 h2
          unfold win
          rw [List.append_assoc, List.drop_append, List.drop_eq_nil_of_le h1, List.nil_append, List.drop_append_of_le_length (by omega), List.take_append_of_le_length (by simp; omega)]
        by_cases hkx : k < x.length
        · rw [List.getElem?_append_left hkx] at hu
          have hr := o3 k u hkx hu
          have hi1 : k * csz t + csz t ≤ x.length * csz t := by rw [← Nat.succ_mul]; exact Nat.mul_le_mul_right _ hkx
          have := hwin [] os (vs ++ (Builtin.zeroCells z.cells (N - (x.length + y.length))).toList) (k * csz t) (csz t) (by simp) (by simp [o2]; omega)
          simp only [List.nil_append, List.length_nil, Nat.sub_zero] at this
          simp only [C', List.append_assoc]
          rw [this]
          exact key _ hr
        · rw [List.getElem?_append_right (by omega)] at hu
          have hr := hy _ _ hu
          have hlt := lt_of_get hu
          have hi2 : (k - x.length) * csz t + csz t ≤ y.length * csz t := by rw [← Nat.succ_mul]; exact Nat.mul_le_mul_right _ hlt
          have e1 : k * csz t = x.length * csz t + (k - x.length) * csz t := by rw [← Nat.add_mul]; congr 1; omega
          have := hwin os vs (Builtin.zeroCells z.cells (N - (x.length + y.length))).toList (k * csz t) (csz t) (by omega) (by omega)
          simp only [C']
          rw [this, show k * csz t - os.length = (k - x.length) * csz t by omega]
          exact key _ hr)
    refine ⟨w', ⟨.l t, .o m, x ++ y, sh'⟩, ?_, rfl, g1, .inr ⟨⟨rfl, rfl, rfl, by simp [w', w1], fun b hb _ => ?_⟩, w.heap.size, g2, Nat.le_refl _, by simp [w', w1]⟩⟩
    · rw [hrun]
      simp only [DV.val, DV.cells, cells, valOf, isAggT, g3, Bool.false_eq_true, if_false, List.headD_cons, hlx]
    · simp only [w', w1, Array.getElem?_push]
      rw [if_neg (by omega)]
end Lk
end
section
/-! L: what is put into memory; what is taken away. -/
namespace Lk
open Go
variable {Kw : KW}
variable {τ : Ax} {cx : Cx Kw} {S : Nat → Prop} {ds : DSt} {w : World} {P : Program} {env : Env} {a : Act} {o : Oper} {cs : List Bool} {st' : St}
theorem bl_h (t : Ty) (x : E t) (sh : Sh t) : bl t .h x sh = [] := by cases t <;> rfl
theorem hold_h {S Sb : Nat → Prop} (t : Ty) (x : E t) (sh : Sh t) : hold τ S Sb w t .h x sh := by cases t <;> simp [hold]
theorem dropD_av {s k : Nat} {d : DV} (hk : k ≠ s) (h : ds[k]? = some (.av d)) : (dropD ds s)[k]? = some (.av d) := by
  unfold dropD
  rw [List.getElem?_set_ne (fun e => hk e.symm), List.getElem?_map, h]
  simp [Ent.root]
structure Free (cx : Cx Kw) (S : Nat → Prop) (ds : DSt) (w : World) (nv : DV) : Prop where
  nodup : nv.bl.Nodup
  free : ∀ b ∈ nv.bl, b ∉ blocks ds ∧ ¬ (S b ∨ cx.Sb b) ∧ b < w.heap.size ∧ (b ∈ cx.B0 ∨ cx.w0.heap.size ≤ b)
theorem Free.nil {nv : DV} (h : nv.bl = []) : Free cx S ds w nv := ⟨by rw [h]; simp, by rw [h]; simp⟩
theorem RelS.dropFree (h : RelS τ cx S ds a.tmps w) {s : Nat} {d : DV} (hs : ds[s]? = some (.av d)) : Free cx S (dropD ds s) w d := by
  obtain ⟨R, q1, _⟩ := set_perm ds s _ hs
  refine ⟨(List.nodup_append.1 (q1.nodup_iff.1 h.inv.nodup)).1, fun b hb => ?_⟩
  have hbd : b ∈ blocks ds := mem_blocks hs b hb
  exact ⟨dropD_blocks hs h.inv.nodup b hb, fun hS => (h.inv.sw b hS).2 hbd, (h.inv.own b hbd).1, (h.inv.own b hbd).2⟩
theorem drop_er {s : Nat} : Lk.drop (ds.map er) s = (dropD ds s).map er := by unfold Lk.drop dropD er; rw [drop_map]
theorem dropD_sub {s b : Nat} (hb : b ∈ blocks (dropD ds s)) : b ∈ blocks ds := by
  rw [blocks_iff] at hb ⊢
  obtain ⟨k, e, hk, hb⟩ := hb
  unfold dropD at hk
  rw [List.getElem?_set] at hk
  split at hk
  · split at hk <;> cases hk; simp [Ent.bl] at hb
  · rw [List.getElem?_map, Option.map_eq_some_iff] at hk
    obtain ⟨e0, h0, rfl⟩ := hk
    split at hb
    · simp [Ent.bl] at hb
    · exact ⟨k, e0, h0, hb⟩
theorem Wrote.same {b : Nat} {C : Array Value} {e : TypeId} {f : Nat × Nat} (h : w.heap[b]? = some (.cells C e f)) : Wrote b C e f w w := ⟨rfl, rfl, rfl, rfl, h, fun _ _ => rfl⟩
theorem RelS.takeP (h : RelS τ cx S ds a.tmps w) {s : Nat} {p : Path} {u : AV} {st1 : St} {d d' : DV} {l : Loc} (hd0 : ds[s]? = some (.av d)) (p2 : d.at? p = some (d', l)) (hg : Lk.takeP (ds.map er) s p = some (u, st1)) :
    ∃ ds1, st1 = ds1.map er ∧ RelS τ cx S ds1 a.tmps w ∧ d'.av = u ∧ d'.hold τ S (fun b => S b ∨ cx.Sb b) w ∧ Free cx S ds1 w d' ∧ (∀ b ∈ d'.bl, b ∈ blocks ds) ∧ (∀ b ∈ blocks ds1, b ∈ blocks ds) ∧ (∀ k d0, k ≠ s → ds[k]? = some (.av d0) → ds1[k]? = some (.av d0)) := by
  unfold Lk.takeP at hg
  split at hg
  · rename_i v0 hs0
    obtain ⟨d0, hd1, rfl⟩ := getD_er hs0
    rw [hd0] at hd1; cases hd1
    rw [Option.bind_eq_some_iff] at hg
    obtain ⟨v, hv, hg⟩ := hg
    have hdh := (h.ok s _ hd0).1
    obtain ⟨k1, k2, k3⟩ := at_hold τ _ _ _ _ _ _ _ _ p2 hdh lies_none
    have p3 : d'.av = v := by
      simp only [DV.av] at hv
      rw [at_getE _ _ _ _ _ _ _ _ p2] at hv
      exact (seen_some hv).1
    split at hg
    · cases hg
      simp only [DV.at?, at_nil, Option.some.injEq, Prod.mk.injEq] at p2
      obtain ⟨rfl, rfl⟩ := p2
      exact ⟨dropD ds s, drop_er, h.drop s, p3, k1, h.dropFree hd0, mem_blocks hd0, fun b hb => dropD_sub hb, fun k d0 hk h0 => dropD_av hk h0⟩
    · cases hdp : deep p with
      | false => rw [hdp] at hg; cases hg
      | true =>
        rw [hdp] at hg
        simp only [cond_true, Option.map_eq_some_iff] at hg
        obtain ⟨r, hr, e⟩ := hg
        cases e
        let nv : DV := ⟨d'.t, .h, d'.x, d'.sh⟩
        have hnvbl : nv.bl = [] := bl_h _ _ _
        have hnva : nv.av = ⟨u.t, .h, u.x⟩ := by rw [← p3]; rfl
        rw [← hnva] at hr
        obtain ⟨sh2, hput⟩ := putE_put (τ := τ) nv _ _ _ _ _ _ _ _ _ p2 hr
        have hlb : ∃ b o, l = some (b, o) := by
          obtain ⟨R, q1, q2, q3, _⟩ := put_bl τ _ _ _ _ _ _ _ _ _ _ p2 hput
          obtain ⟨lb, lo, e1, _⟩ := q3 hdp
          exact ⟨lb, lo, e1⟩
        obtain ⟨b, o', rfl⟩ := hlb
        obtain ⟨C, e, f, m1, m2, m3, m4⟩ := k2 b o' rfl
        have hce : nv.cells τ = d'.cells τ := rfl
        have hC : splice C.toList o' (nv.cells τ) = C.toList := by
          rw [hce, ← m4, splice_win]
          simpa using m3
        have hR := h.write (nv := nv) hd0 p2 hdp rfl (hold_h _ _ _) (by rw [hnvbl]; simp) (by rw [hnvbl]; simp) m1
          (by rw [hC]; simpa using Wrote.same m1) hput
        obtain ⟨R, q1, q2, _⟩ := put_bl τ _ _ _ _ _ _ _ _ _ _ p2 hput
        obtain ⟨R2, s1, s2⟩ := set_perm ds s _ hd0
        have hnd := s1.nodup_iff.1 h.inv.nodup
        have hdn : (R ++ d'.bl).Nodup := q1.nodup_iff.1 (List.nodup_append.1 hnd).1
        refine ⟨_, ?_, hR, p3, k1, ⟨(List.nodup_append.1 hdn).2.1, fun b hb => ?_⟩, fun b hb => mem_blocks hd0 b (k3 b hb), fun b hx => ?_, fun k e0 hk h0 => ?_⟩
        · unfold er
          rw [cutP_map]
          congr 1
          rw [List.map_set]
          rfl
        · have hbd : b ∈ d.bl := q1.symm.subset (by simp [hb])
          have hbB : b ∈ blocks ds := mem_blocks hd0 b hbd
          refine ⟨fun hx => ?_, fun hS => (h.inv.sw b hS).2 hbB, (h.inv.own b hbB).1, (h.inv.own b hbB).2⟩
          rw [blocks_iff] at hx
          obtain ⟨k, e0, hk, hx⟩ := hx
          simp only [cutP, List.getElem?_map, Option.map_eq_some_iff] at hk
          obtain ⟨e1, hk, rfl⟩ := hk
          have hx' : b ∈ e1.bl := by
            cases hh : e1.hale s p with
            | false => rw [hh] at hx; simp [Ent.bl] at hx
            | true => rw [hh] at hx; exact hx
          have := (s2 _).subset (mem_blocks hk b hx')
          rcases List.mem_append.1 this with h1 | h1
          · have h2 := q2.subset (show b ∈ bl d.t r.1 r.2 sh2 from h1)
            rw [hnvbl, List.append_nil] at h2
            exact (List.nodup_append.1 hdn).2.2 b h2 b hb rfl
          · exact (List.nodup_append.1 hnd).2.2 b hbd b h1 rfl
        · rw [blocks_iff] at hx
          obtain ⟨k, e0, hk, hx⟩ := hx
          simp only [cutP, List.getElem?_map, Option.map_eq_some_iff] at hk
          obtain ⟨e1, hk, rfl⟩ := hk
          have hx' : b ∈ e1.bl := by
            cases hh : e1.hale s p with
            | false => rw [hh] at hx; simp [Ent.bl] at hx
            | true => rw [hh] at hx; exact hx
          have := (s2 _).subset (mem_blocks hk b hx')
          rcases List.mem_append.1 this with h1 | h1
          · have h2 := q2.subset (show b ∈ bl d.t r.1 r.2 sh2 from h1)
            rw [hnvbl, List.append_nil] at h2
            exact mem_blocks hd0 b (q1.symm.subset (by simp [h2]))
          · exact s1.symm.subset (by simp [h1])
        · simp only [cutP, List.getElem?_map]
          rw [List.getElem?_set_ne (fun e => hk e.symm), h0]
          rfl
  · cases hg
theorem RelS.given (h : RelS τ cx S ds a.tmps w) {x : Operand} {cv : Value → Option AV} {s : Nat} {u : AV} {st1 : St} (hcv : ∀ c u, cv c = some u → ∃ t m, constAV t m c = some u) (hg : Lk.given (ds.map er) x cv s = some (u, st1)) :
    ∃ ds1 nv, st1 = ds1.map er ∧ RelS τ cx S ds1 a.tmps w ∧ nv.av = u ∧ nv.hold τ S (fun b => S b ∨ cx.Sb b) w ∧ a.eval x = nv.val τ ∧ Free cx S ds1 w nv ∧ (∀ d0, ds[s]? = some (.av d0) → ds1[s]? = some (.av d0)) ∧ (∀ v ∈ nv.cells τ, plainV v = true) ∧
      (∀ b ∈ blocks ds1, b ∈ blocks ds) ∧ (∀ b ∈ nv.bl, b ∈ blocks ds) := by
  unfold Lk.given at hg
  rw [Option.bind_eq_some_iff] at hg
  obtain ⟨u0, hu, hg⟩ := hg
  have hIs : Is (τ := τ) cx S w u0 (a.eval x) := by
    split at hu
    · simp only [Act.eval]; exact h.look hu
    · obtain ⟨t, m, hu⟩ := hcv _ _ hu; exact is_const hu
    · cases hu
  cases hc : (u0.cp || (flat u0.t && nh u0.t u0.m)) with
  | true =>
    rw [hc] at hg
    simp only [cond_true, Option.some.injEq, Prod.mk.injEq] at hg
    obtain ⟨rfl, rfl⟩ := hg
    obtain ⟨_, d, hd, hh, hv⟩ := hIs
    have hbl : d.bl = [] := by
      rcases Bool.or_eq_true _ _ ▸ hc with hc | hc
      · rw [← hd] at hc; exact cp_bl _ _ _ _ hc
      · rw [Bool.and_eq_true, ← hd] at hc; exact flat_bl _ _ _ _ hc.1
    refine ⟨ds, d, rfl, h, hd, hh, hv, Free.nil hbl, fun _ h => h, ?_, fun b h => h, by rw [hbl]; simp⟩
    · rcases Bool.or_eq_true _ _ ▸ hc with hc | hc
      · rw [← hd] at hc; exact cp_plain _ _ _ _ hc hh
      · rw [Bool.and_eq_true, ← hd] at hc; exact Rd_plain _ _ _ (flat_rd (S' := S) (w' := w) _ _ _ _ hc.1 hc.2 hh)
  | false =>
    rw [hc] at hg
    simp only [cond_false] at hg
    cases hsol : u0.m.solid with
    | false => rw [hsol] at hg; cases hg
    | true =>
      rw [hsol] at hg
      simp only [cond_true] at hg
      split at hg
      · rename_i c
        cases hg
        obtain ⟨t, m, hu⟩ := hcv _ _ hu
        obtain ⟨_, d, hd, p1, p2, p3⟩ := const_dv (τ := τ) (cx := cx) (S := S) (w := w) hu
        exact ⟨ds, d, rfl, h, hd, p1, p2, Free.nil p3, fun _ h => h, hold_plain _ _ _ _ (by rw [← hd] at hsol; exact hsol) p1, fun b h => h, by rw [p3]; simp⟩
      · rename_i i
        split at hg
        · rename_i s' hpl
          cases hb : Nat.beq s' s with
          | true => rw [hb] at hg; cases hg
          | false =>
            rw [hb] at hg
            simp only [cond_false, Option.some.injEq, Prod.mk.injEq] at hg
            obtain ⟨rfl, rfl⟩ := hg
            have hne : s ≠ s' := fun e => by subst e; rw [Nat.beq_refl] at hb; cases hb
            obtain ⟨d, d', l, p1, p2, p3, p4, p5⟩ := h.place hpl hu
            simp only [DV.at?, at_nil, Option.some.injEq, Prod.mk.injEq] at p2
            obtain ⟨rfl, rfl⟩ := p2
            exact ⟨dropD ds s', d, drop_er, h.drop s', p3, p5, by simp only [Act.eval]; exact p4, h.dropFree p1, fun _ hs => dropD_av hne hs, hold_plain _ _ _ _ (by rw [← p3] at hsol; exact hsol) p5, fun b hb => dropD_sub hb, fun b hb => mem_blocks p1 b hb⟩
        · rename_i s' p hpl0 hpl
          cases hb : Nat.beq s' s with
          | true => rw [hb] at hg; cases hg
          | false =>
            rw [hb] at hg
            simp only [cond_false] at hg
            have hne : s ≠ s' := fun e => by subst e; rw [Nat.beq_refl] at hb; cases hb
            obtain ⟨d, d', l, p1, p2, p3, p4, p5⟩ := h.place hpl hu
            obtain ⟨ds1, q1, q2, q3, q4, q5, q6, q7, q8⟩ := h.takeP p1 p2 hg
            have hmm : d'.m = u0.m := congrArg AV.m p3
            exact ⟨ds1, d', q1, q2, q3, q4, by simp only [Act.eval]; exact p4, q5, fun d0 hs => q8 s d0 hne hs, hold_plain _ _ _ _ (by rw [hmm]; exact hsol) q4, q7, q6⟩
        · split at hg
          · rename_i s' lo hi he
            cases hb : Nat.beq s' s with
            | true => rw [hb] at hg; cases hg
            | false =>
              rw [hb] at hg
              simp only [cond_false, Option.some.injEq, Prod.mk.injEq] at hg
              obtain ⟨rfl, rfl⟩ := hg
              have hne : s ≠ s' := fun e => by subst e; rw [Nat.beq_refl] at hb; cases hb
              obtain ⟨t, m, y, sh, d, l, rfl, h1, h2, h3, h4⟩ := h.vw_look he hu
              simp only [DV.at?, at_nil, Option.some.injEq, Prod.mk.injEq] at h2
              obtain ⟨hdd, rfl⟩ := h2
              obtain rfl : d = ⟨.l t, .o m, y, sh⟩ := hdd
              obtain ⟨sh', g1, g2, g3⟩ := vw_dv h4 h3
              have hfr := h.dropFree h1
              have hev : a.tmps.getD i undef = DV.val τ ⟨.l t, .o m, Lk.ext y lo hi, sh'⟩ := by
                simp only [DV.val, DV.cells, cells, valOf, isAggT, Bool.false_eq_true, if_false, List.headD_cons, g2]
              exact ⟨dropD ds s', ⟨.l t, .o m, Lk.ext y lo hi, sh'⟩, drop_er, h.drop s', rfl, g1, by simp only [Act.eval]; exact hev,
                ⟨List.Nodup.sublist g3 hfr.nodup, fun b hb => hfr.free b (g3.subset hb)⟩, fun _ hs => dropD_av hne hs, hold_plain _ _ _ _ hsol g1, fun b hb => dropD_sub hb, fun b hb => mem_blocks h1 b (g3.subset hb)⟩
          · cases hg
      · cases hg
theorem xmd_bl : ∀ (t : Ty) (m : Md) (x : E t) (sh : Sh t), bl t (xmd t m) x sh = bl t m x sh := by
  intro t
  induction t with
  | c a r iha ihr =>
    intro m x sh
    cases m with
    | b => simp only [xmd, bl, iha, ihr]; cases a <;> cases r <;> rfl
    | r => simp only [xmd, bl, iha, ihr]; cases a <;> cases r <;> rfl
    | q m n => simp only [xmd, bl, iha, ihr]
    | _ => rfl
  | _ => intro m x sh; cases m <;> rfl
theorem xmd_hold {S Sb : Nat → Prop} : ∀ (t : Ty) (m : Md) (x : E t) (sh : Sh t), hold τ S Sb w t m x sh → hold τ S Sb w t (xmd t m) x sh := by
  intro t
  induction t with
  | c a r iha ihr =>
    intro m x sh h
    cases m with
    | b =>
      rw [hold_b] at h
      obtain ⟨h1, h2⟩ := Rd_c h
      exact ⟨iha .b _ _ (by rw [hold_b]; exact h1), ihr .b _ _ (by rw [hold_b]; exact h2)⟩
    | r =>
      rw [hold_r] at h
      obtain ⟨h1, h2⟩ := Rd_c h
      exact ⟨iha .r _ _ (by rw [hold_r]; exact h1), ihr .r _ _ (by rw [hold_r]; exact h2)⟩
    | q m n => exact ⟨iha _ _ _ h.1, ihr _ _ _ h.2⟩
    | _ => exact h
  | _ => intro m x sh h; cases m <;> exact h
theorem fit_ok {nv : DV} {u : AV} {m : Md} (hu : nv.av = u) (hh : nv.hold τ S (fun b => S b ∨ cx.Sb b) w) (hf : Free cx S ds w nv) :
    ∃ nv' : DV, nv'.av = fitM u m ∧ nv'.hold τ S (fun b => S b ∨ cx.Sb b) w ∧ nv'.cells τ = nv.cells τ ∧ nv'.t = nv.t ∧ Free cx S ds w nv' ∧ ∀ b ∈ nv'.bl, b ∈ nv.bl := by
  subst hu
  unfold fitM
  cases hc : (flat nv.av.t && nh nv.av.t nv.av.m && nh nv.av.t m) with
  | false =>
    obtain ⟨t, m0, x, sh⟩ := nv
    have hb : DV.bl ⟨t, xmd t m0, x, sh⟩ = DV.bl ⟨t, m0, x, sh⟩ := xmd_bl _ _ _ _
    exact ⟨⟨t, xmd t m0, x, sh⟩, rfl, xmd_hold _ _ _ _ hh, rfl, rfl, ⟨by rw [hb]; exact hf.nodup, by rw [hb]; exact hf.free⟩, by rw [hb]; exact fun _ h => h⟩
  | true =>
    simp only [Bool.and_eq_true] at hc
    obtain ⟨t, m0, x, sh⟩ := nv
    have hb : DV.bl ⟨t, m, x, sh⟩ = [] := flat_bl _ _ _ _ hc.1.1
    exact ⟨⟨t, m, x, sh⟩, rfl, flat_hold _ _ _ _ hc.1.1 (flat_rd (S' := S) (w' := w) _ _ _ _ hc.1.1 hc.1.2 hh), rfl, rfl, Free.nil hb, by rw [hb]; simp⟩
theorem store_did {T : TypeId} {j : Nat} {x : Operand} (hE : EnvOk τ P env) (ho : o.op = .store T (.tmp j) x)
    (h : RelS τ cx S ds a.tmps w) (hl : opL env o (ds.map er) = some (cs, st')) (hc : ∀ c ∈ cs, c = true) : Did (τ := τ) P cx a o w st' := by
  simp only [opL, ho, Option.bind_eq_some_iff] at hl
  obtain ⟨tm, htm, hl⟩ := hl
  obtain ⟨i, hi, hsz⟩ := hE.sz _ _ _ htm
  split at hl
  · rename_i s p cs0 hg hdst
    split at hl
    · rename_i v0 hs0
      obtain ⟨d, hd0, rfl⟩ := getD_er hs0
      simp only [Option.bind_eq_some_iff] at hl
      obtain ⟨u0, hu0, ⟨u, st1⟩, hu, hl⟩ := hl
      split at hl
      · rename_i hcc
        simp only [Bool.and_eq_true, decide_eq_true_eq] at hcc
        obtain ⟨⟨hdp, ht⟩, ht0⟩ := hcc
        rw [Option.map_eq_some_iff] at hl
        obtain ⟨r, hr, hl⟩ := hl
        cases hl
        obtain ⟨d1, d', b, o', g1, g2, g3⟩ := h.addr hg hc
        rw [hd0] at g1; cases g1
        obtain ⟨ds1, nv0, rfl, hR1, n0, n1, n2, n3, n4, n5, _, _⟩ := h.given (fun c u hc => ⟨_, _, hc⟩) hu
        have n4 := n4 _ hd0
        have hdh := (hR1.ok s _ n4).1
        obtain ⟨k1, k2, k3⟩ := at_hold τ _ _ _ _ _ _ _ _ g2 hdh lies_none
        obtain ⟨C, e, f, m1, m2, m3, m4⟩ := k2 b o' rfl
        have e1 := at_getE _ _ _ _ _ _ _ _ g2
        simp only [DV.av] at hu0
        rw [e1] at hu0
        cases hu0
        obtain ⟨nv, q0, q1, q2, q3, q4, _⟩ := fit_ok (m := d'.m) n0 n1 n3
        rw [show d'.av.m = d'.m from rfl, ← q0] at hr
        obtain ⟨sh2, hput⟩ := putE_put (τ := τ) nv _ _ _ _ _ _ _ _ _ g2 hr
        have htu : nv.t = u.t := by rw [q3, ← n0]; rfl
        have htt : nv.t = d'.t := by rw [htu]; exact ht0
        have hcl : (nv.cells τ).length = csz nv.t := cells_length τ _ _ _
        have hcd : (d'.cells τ).length = csz d'.t := cells_length τ _ _ _
        have hsz' : i.size = csz nv.t := by rw [hsz, ht, htu]
        obtain ⟨w', r1, r2⟩ := run_storeVar (P := P) (T := T) (t := nv.t) (vs := nv.cells τ) hi hsz' m1 (by rw [htt, ← hcd]; exact m3) m2 hcl (by rw [q2]; exact n5)
        have hR := hR1.write n4 g2 hdp htt q1 q4.nodup q4.free m1 r2 hput
        refine ⟨.skip, undef, w', _, S, ?_, ⟨.inr ⟨rfl, rfl⟩, fun hst => by simp [still, *] at hst⟩, ?_, by rw [hdst]; exact hR⟩
        · simp only [execOp, ho]
          refine run_unit ?_
          simp only [Act.eval, g3]
          unfold Instr.storeAt Instr.sureAddr
          rw [Sem.run_bind, Sem.run_pure, Result.andThen_ok]
          have : a.eval x = valOf nv.t (nv.cells τ) := by rw [n2, q2, q3]; rfl
          simp only [Act.eval] at this
          rw [this]
          exact r1
        · unfold er
          rw [cutP_map]
          congr 1
          rw [List.map_set]
          rfl
      · cases hl
    · cases hl
  · cases hl
theorem isZero_eq {lo : Int} (h : isZero lo = true) : lo = 0 := by
  cases lo with
  | ofNat n =>
    have : n = 0 := Nat.eq_of_beq_eq_true h
    subst this; rfl
  | negSucc n => cases h
theorem place_at (h : RelS τ cx S ds a.tmps w) {i s : Nat} {p : Path} (hp : Lk.place (ds.map er) i = some (s, p)) : ∃ d d' l, ds[s]? = some (.av d) ∧ d.at? p = some (d', l) ∧ a.tmps.getD i undef = d'.val τ := by
  unfold Lk.place at hp
  split at hp
  · rename_i v hv
    cases hp
    obtain ⟨d, hd, rfl⟩ := getD_er hv
    exact ⟨d, d, none, hd, at_nil _ _ _ _ _, (h.ok i _ hd).2⟩
  · rename_i s0 p0 hv
    cases hp
    obtain ⟨d, d', l, h1, h2, h3, _⟩ := h.al_hold (getD_er_al hv)
    exact ⟨d, d', l, h1, h2, h3⟩
  · cases hp
theorem RelS.takeE (h : RelS τ cx S ds a.tmps w) {i : Nat} {u : AV} {st1 : St} (hg : Lk.takeE (ds.map er) i = some (u, st1)) :
    ∃ ds1 nv, st1 = ds1.map er ∧ RelS τ cx S ds1 a.tmps w ∧ nv.av = u ∧ nv.hold τ S (fun b => S b ∨ cx.Sb b) w ∧ a.tmps.getD i undef = nv.val τ ∧ Free cx S ds1 w nv ∧ (∀ b ∈ nv.bl, b ∈ blocks ds) ∧ (∀ b ∈ blocks ds1, b ∈ blocks ds) := by
  unfold Lk.takeE at hg
  split at hg
  · rename_i s p lo hi he
    · simp only [Option.bind_eq_some_iff] at hg
      obtain ⟨⟨v, st2⟩, hg, hv⟩ := hg
      obtain ⟨d, d', l, t, m, x, sh, h1, h2, h3, h4⟩ := h.ok i _ (getD_er_vw he)
      obtain ⟨ds1, q1, q2, q3, q4, q5, q6, q7, _⟩ := h.takeP h1 h2 hg
      subst h3
      simp only [DV.av] at q3
      subst q3
      simp only [Option.some.injEq, Prod.mk.injEq] at hv
      obtain ⟨rfl, rfl⟩ := hv
      obtain ⟨sh', g1, g2, g3⟩ := vw_dv q4 h4
      refine ⟨ds1, ⟨.l t, .o m, Lk.ext x lo hi, sh'⟩, q1, q2, rfl, g1, ?_, ⟨List.Nodup.sublist g3 q5.nodup, fun b hb => q5.free b (g3.subset hb)⟩, fun b hb => q6 b (g3.subset hb), q7⟩
      simp only [DV.val, DV.cells, cells, valOf, isAggT, Bool.false_eq_true, if_false, List.headD_cons, g2]
  · rw [Option.bind_eq_some_iff] at hg
    obtain ⟨⟨s, p⟩, hp, hg⟩ := hg
    obtain ⟨d, d', l, h1, h2, h3⟩ := place_at h hp
    obtain ⟨ds1, q1, q2, q3, q4, q5, q6, q7, _⟩ := h.takeP h1 h2 hg
    exact ⟨ds1, d', q1, q2, q3, q4, h3, q5, q6, q7⟩
end Lk
end
section
namespace Lk
open Go
variable {Kw : KW}
variable {τ : Ax} {cx : Cx Kw} {S : Nat → Prop} {ds : DSt} {w : World} {P : Program} {env : Env} {a : Act} {o : Oper} {cs : List Bool} {st' : St}
theorem grown_le {w : World} {n : Nat} {e : TypeId} (hn : n ≤ big) : n ≤ grownCap w n 0 e ∧ grownCap w n 0 e ≤ big := by
  unfold grownCap
  simp only [Question.cut, big] at *
  have : 0 < 2 ^ 63 - n := by omega
  have := Nat.mod_lt (w.tape w.drawn (.appendCap n 0 e)) this
  omega
theorem convB_did {T T' : TypeId} {x : Operand} {m : Md} (hE : EnvOk τ P env) (ho : o.op = .convert T T' x) (hT' : env.ty T' = some (.l .by, .o m))
    (h : RelS τ cx S ds a.tmps w) (hl : opL env o (ds.map er) = some (cs, st')) : Did (τ := τ) P cx a o w st' := by
  simp only [opL, ho, Option.bind_eq_some_iff] at hl
  obtain ⟨tm, htm, u, hu, hl⟩ := hl
  split at hl
  case isFalse => cases hl
  rw [Option.bind_eq_some_iff] at hl
  obtain ⟨r, hr, hl⟩ := hl
  obtain ⟨hs, rfl⟩ := ret_some hl
  have hi := h.rdOp (a := a) rfl hu
  obtain ⟨d0, hd0⟩ := (hE.ty T tm.1 tm.2 htm).some
  have hd := hE.ty _ _ _ hT'
  simp only [Desc, DG] at hd
  obtain ⟨e, i, z, h1, h2, h3, h4, h5, h6⟩ := hd
  simp only [conv, hT'] at hr
  split at hr
  · rename_i m0 y _
    cases hr
    obtain ⟨e1, r1⟩ := hi.str
    have hrun : (execOp a.eval o).run P w = .ok (.value (.slice (some ⟨w.heap.size, 0, none⟩) y.length (grownCap w y.length 0 e))) (Lib.bytesWorld w e ⟨y.toArray⟩) := by
      simp only [execOp, ho]
      refine run_value ?_
      rw [e1]
      have := Lib.run_convert_string_bytes (P := P) w T T' e ⟨y.toArray⟩ hd0 h1 h6
      simpa [size_mk, strV] using this
    obtain ⟨g1, g2⟩ := grown_le (w := w) (e := e) r1
    have hnew := Lib.bytesWorld_at_new w e ⟨y.toArray⟩
    have hsz : (Lib.bytesCells w e ⟨y.toArray⟩).size = grownCap w y.length 0 e := by
      simp [Lib.bytesCells, size_mk]; omega
    obtain ⟨sh, k1, k2, k3⟩ := flat_row (τ := τ) (S := S) (Sb := fun b => S b ∨ cx.Sb b) (w := Lib.bytesWorld w e ⟨y.toArray⟩) (t := .by) (m := m) (x := y) (b := w.heap.size) (off := 0) (cap := grownCap w y.length 0 e)
      (C := (Lib.bytesCells w e ⟨y.toArray⟩).toList) (e := e) (f := ((Lib.bytesCells w e ⟨y.toArray⟩).size, (Lib.bytesCells w e ⟨y.toArray⟩).size + 1)) rfl
      (by simpa using hnew) (by intro k hk hk'; simp at hk hk'; omega) g1 g2 (by simp [csz, hsz]) (fun k u hu' => by
        have hk := lt_of_get hu'
        rw [List.getElem?_eq_getElem hk] at hu'
        cases hu'
        simp only [Rd, csz, Nat.mul_one, Nat.zero_add]
        unfold win
        rw [List.drop_eq_getElem_cons (by simp [hsz]; omega)]
        simp [Lib.bytesCells, hk])
    have hg : Grows w (Lib.bytesWorld w e ⟨y.toArray⟩) := ⟨rfl, rfl, rfl, by rw [Lib.bytesWorld_size]; omega, fun b hb => Lib.bytesWorld_at_old w e _ b hb⟩
    obtain ⟨ds', q1, q2⟩ := h.fresh (d := ⟨.l .by, .o m, y, sh⟩) (n := w.heap.size) hg hs rfl k1 (.inl k2) ⟨Nat.le_refl _, by rw [Lib.bytesWorld_size]; omega⟩
    have hv : DV.val τ ⟨.l .by, .o m, y, sh⟩ = .slice (some ⟨w.heap.size, 0, none⟩) y.length (grownCap w y.length 0 e) := by
      simp [DV.val, DV.cells, cells, valOf, isAggT, k3]
    exact ⟨_, _, _, ds', S, hrun, ⟨.inl rfl, fun hst => by simp [still, *] at hst⟩, q1, by rw [hv] at q2; exact q2⟩
  · cases hr
end Lk
end
section
/-! L: appends to rows of what is owned. -/
namespace Lk
open Go
variable {Kw : KW}
variable {τ : Ax} {cx : Cx Kw} {S : Nat → Prop} {ds : DSt} {w : World} {P : Program} {env : Env} {a : Act} {o : Oper} {cs : List Bool} {st' : St}
structure RowAt (k : Nat) (hd : Value) (n blk off cap : Nat) (C : List Value) (ety : TypeId) (frz : Nat × Nat) (w : World) : Prop where
  hd : hd = .slice (some ⟨blk, off, none⟩) n cap
  len : n ≤ cap
  big : cap ≤ Lk.big
  room : off + cap * k ≤ C.length
  cell : w.heap[blk]? = some (.cells C.toArray ety frz)
  thaw : Lk.thaw C.length frz
theorem row_cells {k : Nat} {hd : Value} {n blk off cap : Nat} {C : List Value} {ety : TypeId} {frz : Nat × Nat} (h : RowAt k hd n blk off cap C ety frz w) (m : Nat) (hm : m ≤ n) :
    (∀ w1 : World, w1.heap = w.heap → (Builtin.firstCells k m hd).run P w1 = .ok (win C off (m * k)).toArray w1) ∧ (win C off (m * k)).length = m * k ∧ (Builtin.lenOf hd).run P w = .ok n w := by
  have h0 := h.room
  have h1 : m * k ≤ cap * k := Nat.mul_le_mul_right _ (Nat.le_trans hm h.len)
  refine ⟨fun w1 hw1 => ?_, win_length _ _ _ (by omega), ?_⟩
  · rw [h.hd]
    simp only [Builtin.firstCells]
    have hC := h.cell
    rw [← hw1] at hC
    have := run_loadCells (P := P) (w := w1) (o := off) (n := m * k) hC (by simp only [List.size_toArray]; omega)
    simpa using this
  · rw [h.hd]; rfl
theorem raw_append {k n0 n1 : Nat} {hd : Value} {blk off cap : Nat} {C : List Value} {ety : TypeId} {frz : Nat × Nat} {T T2 e : TypeId} {i : TypeInfo} {z : Value} {d2 : TypeDesc} {vs : List Value} {vsrc : Value}
    (hb : (hd = .slice none 0 0 ∧ n0 = 0) ∨ RowAt k hd n0 blk off cap C ety frz w)
    (hT : P.underlying T = some (.slice e)) (hi : P.info? e = some i) (hsz : i.size = k) (hz : i.zero = some z) (hzs : z.cells.size = k)
    (hT2 : P.underlying T2 = some d2) (hd2 : ∀ k, d2 ≠ .int k)
    (hlen : (Builtin.lenOf vsrc).run P w = .ok n1 w) (hfc : ∀ w1 : World, w1.heap = w.heap → (Builtin.firstCells k n1 vsrc).run P w1 = .ok vs.toArray w1) (hvl : vs.length = n1 * k) (hpl : ∀ v ∈ vs, plainV v = true)
    (hbig : (n0 + n1) * i.bytes ≤ 140737488355328) (hbig2 : n0 + n1 ≤ 140737488355328) (oT : TypeId) :
    ∃ w' hd', (Builtin.append_ #[T, T2] oT #[hd, vsrc]).run P w = .ok hd' w' ∧
      ((hd = .slice none 0 0 ∧ n0 = 0 ∧ n1 = 0 ∧ hd' = .slice none 0 0 ∧ w' = w) ∨
       (RowAt k hd n0 blk off cap C ety frz w ∧ RowAt k hd' (n0 + n1) blk off cap (splice C (off + n0 * k) vs) ety frz w' ∧ Wrote blk (splice C (off + n0 * k) vs).toArray ety frz w w') ∨
       (∃ N C', RowAt k hd' (n0 + n1) w.heap.size 0 N C' e (0, 0) w' ∧ Ext [] w w' ∧ win C' (n0 * k) (n1 * k) = vs ∧ w.heap.size < w'.heap.size ∧
          (hd = .slice none 0 0 ∧ n0 = 0 ∨ RowAt k hd n0 blk off cap C ety frz w ∧ win C' 0 (n0 * k) = win C off (n0 * k)))) := by
  have hT2' : (match d2 with | .int _ => true | _ => false) = false := by
    cases d2 <;> first | rfl | exact absurd rfl (hd2 _)
  obtain ⟨base, cp, hhd, hcpb, hbn, hcase⟩ : ∃ a cp, hd = .slice a n0 cp ∧ n0 ≤ cp ∧ (a = none → n0 = 0 ∧ cp = 0) ∧ (a = none ∨ (a = some ⟨blk, off, none⟩ ∧ cp = cap ∧ RowAt k hd n0 blk off cap C ety frz w)) := by
    rcases hb with ⟨rfl, rfl⟩ | h
    · exact ⟨none, 0, rfl, Nat.le_refl _, fun _ => ⟨rfl, rfl⟩, .inl rfl⟩
    · exact ⟨_, cap, h.hd, h.len, by simp, .inr ⟨rfl, rfl, h⟩⟩
  by_cases hle : n0 + n1 ≤ cp
  · have hrun0 : ∀ w', ((match base with
            | some a => do
              storeCells (a.add (n0 * k)) vs
              pure (Value.slice base (n0 + n1) cp)
            | _ => pure (Value.slice base (n0 + n1) cp) : Sem Value).run P w = .ok (.slice base (n0 + n1) cp) w') →
        (Builtin.append_ #[T, T2] oT #[hd, vsrc]).run P w = .ok (.slice base (n0 + n1) cp) w' := by
      intro w' hw'
      rw [hhd]
      unfold Builtin.append_
      simp only [List.getElem?_toArray, List.getElem?_cons_zero, List.getElem?_cons_succ, Sem.run_bind, run_underlying hT, Result.andThen_ok, run_sizeOf hi, run_underlying hT2, Sem.run_pure, hlen,
        Bool.false_eq_true, if_false, if_pos hle, Bool.not_false, if_true, hsz, hfc w rfl]
      exact hw'
    rcases hcase with rfl | ⟨rfl, rfl, hR⟩
    · obtain ⟨rfl, rfl⟩ := hbn rfl
      obtain rfl : n1 = 0 := by omega
      exact ⟨w, _, hrun0 w rfl, .inl ⟨hhd, rfl, rfl, rfl, rfl⟩⟩
    · have h0 := hR.room
      have hmul : n0 * k + n1 * k ≤ cp * k := by rw [← Nat.add_mul]; exact Nat.mul_le_mul_right _ hle
      obtain ⟨w', k1, k2⟩ := run_storeCells (P := P) (b := blk) (o := off + n0 * k) vs 0 w C.toArray hR.cell (by simp only [List.size_toArray]; omega) (by simpa using hR.thaw) hpl
      have hC' : (splice C (off + n0 * k) vs).length = C.length := splice_length _ _ _ (by omega)
      refine ⟨w', _, hrun0 w' (by
          simp only [Sem.run_bind, add_eq]
          rw [k1]; rfl), .inr (.inl ⟨hR, ⟨rfl, hle, hR.big, by rw [hC']; exact h0, by simpa using k2.here, by rw [hC']; exact hR.thaw⟩, by simpa using k2⟩)⟩
  · have hcn : cp < n0 + n1 := by omega
    have hnc := nextcap_le hcn
    have hb2 : ¬ Builtin.nextslicecap (n0 + n1) cp * i.bytes > 2 ^ 48 := by
      have := Nat.mul_le_mul_right i.bytes hnc
      have e : 2 * (n0 + n1) * i.bytes = 2 * ((n0 + n1) * i.bytes) := by rw [Nat.mul_assoc]
      omega
    have hb3 : ¬ ((n0 + n1 : Nat) > IntKind.i64.max ∧ (False ∨ i.bytes = 0)) := by
      intro h
      have := h.1
      simp only [IntKind.max, IntKind.signed, IntKind.bits, if_true] at this
      omega
    obtain ⟨os, o1, o2, o3⟩ : ∃ os : List Value, (∀ w1 : World, w1.heap = w.heap → (Builtin.firstCells k n0 hd).run P w1 = .ok os.toArray w1) ∧ os.length = n0 * k ∧ (hd = .slice none 0 0 ∧ n0 = 0 ∨ RowAt k hd n0 blk off cap C ety frz w ∧ os = win C off (n0 * k)) := by
      rcases hb with ⟨rfl, rfl⟩ | h
      · exact ⟨[], fun _ _ => rfl, by simp, .inl ⟨rfl, rfl⟩⟩
      · obtain ⟨q1, q2, _⟩ := row_cells (P := P) h n0 (Nat.le_refl _)
        exact ⟨_, q1, q2, .inr ⟨h, rfl⟩⟩
    generalize hN : Question.cut (.appendCap (n0 + n1) cp e) (w.tape w.drawn (.appendCap (n0 + n1) cp e)) = N
    have hN1 : n0 + n1 ≤ N ∧ N ≤ big := by
      rw [← hN]
      simp only [Question.cut, big]
      have : 0 < 2 ^ 63 - (n0 + n1) := by omega
      have := Nat.mod_lt (w.tape w.drawn (.appendCap (n0 + n1) cp e)) this
      omega
    let C' : List Value := os ++ vs ++ (Builtin.zeroCells z.cells (N - (n0 + n1))).toList
    have hC'l : C'.length = N * k := by
      simp only [C', List.length_append, Array.length_toList, zeroCells_size, hzs, o2, hvl]
      rw [← Nat.add_mul, ← Nat.add_mul]; congr 1; omega
    let w1 : World := { w with drawn := w.drawn + 1 }
    let w' : World := { w1 with heap := w1.heap.push (.cells C'.toArray e) }
    have hrun : (Builtin.append_ #[T, T2] oT #[hd, vsrc]).run P w = .ok (.slice (some ⟨w.heap.size, 0, none⟩) (n0 + n1) N) w' := by
      have ho1 := o1 w1 rfl
      have hf1 := hfc w1 rfl
      have hz1 := run_zero (w := w1) hi hz
      rw [hhd] at ho1 ⊢
      unfold Builtin.append_
      simp only [List.getElem?_toArray, List.getElem?_cons_zero, List.getElem?_cons_succ, Sem.run_bind, run_underlying hT, Result.andThen_ok, run_sizeOf hi, run_underlying hT2, Sem.run_pure, hlen,
        Bool.false_eq_true, if_false, if_neg hle, Bool.not_false, if_true, hsz, false_or]
      have hb4 : ¬ (((n0 + n1 : Nat) : Int) > IntKind.i64.max ∧ i.bytes = 0) := fun h => hb3 ⟨h.1, .inr h.2⟩
      have hch := run_choose (P := P) (w := w) (q := .appendCap (n0 + n1) cp e) rfl
      rw [hN] at hch
      rw [run_info hi, Result.andThen_ok, if_neg hb4]
      simp only [Sem.run_bind, run_info hi, Result.andThen_ok]
      rw [if_neg hb2]
      simp only [Sem.run_bind, hch, run_info hi, Result.andThen_ok, run_askRoom]
      rw [show ({ w with drawn := w.drawn + 1 } : World) = w1 from rfl, ho1]
      simp only [Result.andThen_ok, hf1, hz1, Sem.run_pure]
      simp only [newRow, newObj, Sem.run_bind, Sem.run_pure]
      have : os.toArray ++ vs.toArray ++ Builtin.zeroCells z.cells (N - (n0 + n1)) = C'.toArray := by
        simp [C']
      rw [this]
      rfl
    have w1' : win C' (n0 * k) (n1 * k) = vs := by
      unfold win
      simp only [C']
      rw [List.append_assoc, List.drop_append, List.drop_eq_nil_of_le (by omega), List.nil_append, o2, Nat.sub_self, List.drop_zero, List.take_append_of_le_length (by omega), List.take_of_length_le (by omega)]
    have w0' : win C' 0 (n0 * k) = os := by
      unfold win
      simp only [C']
      rw [List.drop_zero, List.append_assoc, List.take_append_of_le_length (by omega), List.take_of_length_le (by omega)]
    refine ⟨w', _, hrun, .inr (.inr ⟨N, C', ⟨rfl, hN1.1, hN1.2, by rw [hC'l]; omega, by simp [w', w1], thaw_zero _⟩, ⟨rfl, rfl, rfl, by simp [w', w1], fun b hb _ => ?_⟩, w1', by simp [w', w1], ?_⟩)⟩
    · simp only [w', w1, Array.getElem?_push]
      rw [if_neg (by omega)]
    · rcases o3 with h | ⟨h, rfl⟩
      · exact .inl h
      · exact .inr ⟨h, w0'⟩
structure Elems (τ : Ax) (S Sb : Nat → Prop) (w : World) (t : Ty) (m : Md) (x : List (E t)) (es : List (Sh t)) (C : List Value) (off : Nat) : Prop where
  len : es.length = x.length
  at_ : ∀ i u z, x[i]? = some u → es[i]? = some z → win C (off + i * csz t) (csz t) = cells τ t u z ∧ hold τ S Sb w t m u z
def ebl (t : Ty) (m : Md) (x : List (E t)) (es : List (Sh t)) : List Nat := (List.zipWith (fun y z => bl t m y z) x es).flatten
theorem ebl_append {t : Ty} {m : Md} {x y : List (E t)} {es fs : List (Sh t)} (h : es.length = x.length) : ebl t m (x ++ y) (es ++ fs) = ebl t m x es ++ ebl t m y fs := by
  unfold ebl
  rw [List.zipWith_append (by omega), List.flatten_append]
theorem ebl_mem {t : Ty} {m : Md} {x : List (E t)} {es : List (Sh t)} {i : Nat} {u : E t} {z : Sh t} (hu : x[i]? = some u) (hz : es[i]? = some z) {b : Nat} (hb : b ∈ bl t m u z) : b ∈ ebl t m x es := by
  unfold ebl
  refine List.mem_flatten.2 ⟨bl t m u z, ?_, hb⟩
  refine List.mem_of_getElem? (i := i) ?_
  rw [List.getElem?_zipWith, hu, hz]
theorem own_row {t : Ty} {m : Md} {x : E (.l t)} {sh : Sh (.l t)} {S Sb : Nat → Prop} (h : hold τ S Sb w (.l t) (.o m) x sh) :
    (sh.hd = .slice none 0 0 ∧ x = [] ∧ bl (.l t) (.o m) x sh = []) ∨
    ∃ cap, RowAt (csz t) sh.hd (List.length x) sh.blk sh.off cap sh.C sh.ety sh.frz w ∧ Elems τ S Sb w t m x sh.es sh.C sh.off ∧ bl (.l t) (.o m) x sh = sh.blk :: ebl t m x sh.es := by
  simp only [hold] at h
  rcases h with ⟨h1, rfl⟩ | ⟨cap, h1, h2, h3, h4, h5, h6, h7, h8⟩
  · exact .inl ⟨h1, rfl, by simp only [bl, h1]⟩
  · exact .inr ⟨cap, ⟨h1, h3, h4, h5, h6, h7⟩, ⟨h2, h8⟩, by simp only [bl, h1]; rfl⟩
theorem Elems.keep {t : Ty} {m : Md} {x : List (E t)} {es : List (Sh t)} {C C' : List Value} {off off' : Nat} {S Sb : Nat → Prop} {w' : World} (h : Elems τ S Sb w t m x es C off)
    (hS : ∀ b, S b ∨ Sb b → w'.heap[b]? = w.heap[b]?) (hb : ∀ b ∈ ebl t m x es, w'.heap[b]? = w.heap[b]?) (hC : ∀ i, i < x.length → win C' (off' + i * csz t) (csz t) = win C (off + i * csz t) (csz t)) : Elems τ S Sb w' t m x es C' off' := by
  refine ⟨h.len, fun i u z hu hz => ?_⟩
  obtain ⟨h1, h2⟩ := h.at_ i u z hu hz
  refine ⟨by rw [hC i (lt_of_get hu), h1], hold_keep τ (fun b hb => ⟨hb, hS b (.inl hb)⟩) (fun b hb => ⟨hb, hS b (.inr hb)⟩) _ _ _ _ (fun b hbb => hb b (ebl_mem hu hz hbb)) h2⟩
theorem Elems.append {t : Ty} {m : Md} {x y : List (E t)} {es fs : List (Sh t)} {C : List Value} {off : Nat} {S Sb : Nat → Prop} (h : Elems τ S Sb w t m x es C off) (h' : Elems τ S Sb w t m y fs C (off + x.length * csz t)) : Elems τ S Sb w t m (x ++ y) (es ++ fs) C off := by
  refine ⟨by simp [h.len, h'.len], fun i u z hu hz => ?_⟩
  by_cases hi : i < x.length
  · rw [List.getElem?_append_left hi] at hu
    rw [List.getElem?_append_left (by rw [h.len]; exact hi)] at hz
    exact h.at_ i u z hu hz
  · rw [List.getElem?_append_right (by omega)] at hu
    rw [List.getElem?_append_right (by rw [h.len]; omega), h.len] at hz
    have := h'.at_ (i - x.length) u z hu hz
    rw [show off + x.length * csz t + (i - x.length) * csz t = off + i * csz t by
      rw [Nat.add_assoc, ← Nat.add_mul]; congr 2; omega] at this
    exact this
theorem Elems.plain {t : Ty} {m : Md} {x : List (E t)} {es : List (Sh t)} {C : List Value} {off : Nat} {S Sb : Nat → Prop} (h : Elems τ S Sb w t m x es C off) (hs : m.solid = true) : ∀ v ∈ win C off (x.length * csz t), plainV v = true := by
  intro v hv
  obtain ⟨k, hk⟩ := List.mem_iff_getElem?.1 hv
  rw [win_get] at hk
  split at hk
  case isFalse => cases hk
  rename_i hlt
  have hcp : 0 < csz t := by
    rcases Nat.eq_zero_or_pos (csz t) with h | h
    · rw [h] at hlt; omega
    · exact h
  have hq : k / csz t < x.length := by rw [Nat.div_lt_iff_lt_mul hcp]; exact hlt
  have hu := List.getElem?_eq_getElem hq
  have hz := List.getElem?_eq_getElem (show k / csz t < es.length by rw [h.len]; exact hq)
  obtain ⟨h1, h2⟩ := h.at_ _ _ _ hu hz
  refine hold_plain _ _ _ _ hs h2 v ?_
  rw [← h1]
  refine List.mem_of_getElem? (i := k % csz t) ?_
  rw [win_get, if_pos (Nat.mod_lt _ hcp)]
  rw [show off + k / csz t * csz t + k % csz t = off + k by rw [Nat.mul_comm, Nat.add_assoc, Nat.div_add_mod]]
  exact hk
theorem win_of_win {α : Type} {C D : List α} {o p n : Nat} (h : win C o n = win D p n) {i k : Nat} (hik : i + k ≤ n) : win C (o + i) k = win D (p + i) k := by
  rw [← win_win C o n i k hik, h, win_win D p n i k hik]
def SrcAt (τ : Ax) (P : Program) (S Sb : Nat → Prop) (w : World) (t : Ty) (m : Md) (y : List (E t)) (v : Value) (By : List Nat) : Prop :=
  ∃ vs : List Value, (∀ w1 : World, w1.heap = w.heap → (Builtin.firstCells (csz t) (List.length y) v).run P w1 = .ok vs.toArray w1) ∧ vs.length = List.length y * csz t ∧ (Builtin.lenOf v).run P w = .ok (List.length y) w ∧ (∀ v ∈ vs, plainV v = true) ∧
    ∃ fs : List (Sh t), Elems τ S Sb w t m y fs vs 0 ∧ (∀ b ∈ ebl t m y fs, b ∈ By) ∧ (ebl t m y fs).Nodup
theorem src_own {t : Ty} {m : Md} {y : E (.l t)} {shy : Sh (.l t)} {Sb : Nat → Prop} (hm : m.solid = true) (hy : hold τ S Sb w (.l t) (.o m) y shy) (hnd : (bl (.l t) (.o m) y shy).Nodup) : SrcAt τ P S Sb w t m y shy.hd (bl (.l t) (.o m) y shy) := by
  rcases own_row hy with ⟨h1, rfl, _⟩ | ⟨cap, h1, h2, h3⟩
  · exact ⟨[], fun _ _ => by rw [h1]; rfl, by simp, by rw [h1]; rfl, by simp, [], ⟨rfl, fun i u z hu _ => by simp at hu⟩, by simp [ebl], by simp [ebl]⟩
  · obtain ⟨q1, q2, q3⟩ := row_cells (P := P) h1 (List.length y) (Nat.le_refl _)
    refine ⟨_, q1, q2, q3, h2.plain hm, shy.es, h2.keep (fun _ _ => rfl) (fun _ _ => rfl) (fun i hi => ?_), fun b hbb => by rw [h3]; exact List.mem_cons_of_mem _ hbb, ?_⟩
    · have : i * csz t + csz t ≤ List.length y * csz t := by rw [← Nat.succ_mul]; exact Nat.mul_le_mul_right _ hi
      rw [Nat.zero_add, win_win _ _ _ _ _ this]
    · rw [h3] at hnd
      exact (List.nodup_cons.1 hnd).2
theorem exists_es {t : Ty} {Q : Nat → E t → Sh t → Prop} : ∀ (y : List (E t)), (∀ i u, y[i]? = some u → ∃ z, Q i u z) → ∃ fs : List (Sh t), fs.length = y.length ∧ ∀ i u z, y[i]? = some u → fs[i]? = some z → Q i u z := by
  intro y
  induction y generalizing Q with
  | nil => intro _; exact ⟨[], rfl, fun i u z hu => by simp at hu⟩
  | cons a y ih =>
    intro h
    obtain ⟨z0, h0⟩ := h 0 a rfl
    obtain ⟨fs, h1, h2⟩ := ih (Q := fun i => Q (i + 1)) (fun i u hu => h (i + 1) u (by simpa using hu))
    refine ⟨z0 :: fs, by simp [h1], fun i u z hu hz => ?_⟩
    cases i with
    | zero => simp at hu hz; subst hu; subst hz; exact h0
    | succ i => exact h2 i u z (by simpa using hu) (by simpa using hz)
theorem src_ro {t : Ty} {y : List (E t)} {v : Value} {Sb : Nat → Prop} (h : Rd τ S w (.l t) y [v]) : SrcAt τ P S Sb w t .r y v [] := by
  obtain ⟨vs, h1, h2, h3, h4⟩ := src_cells (P := P) (Rd_keep τ (S' := fun _ => True) (fun b _ => ⟨trivial, rfl⟩) _ _ _ h) (List.length y) (Nat.le_refl _)
  have hel : ∀ i u, y[i]? = some u → Rd τ S w t u (win vs (i * csz t) (csz t)) := by
    intro i u hu
    simp only [Rd] at h
    obtain ⟨a, cap, e1, g2, g3, g4, g5⟩ := h
    simp only [List.cons.injEq, and_true] at e1
    subst e1
    rcases g5 with rfl | ⟨b, off, C, e, f, rfl, hS, hC, hx⟩
    · cases hu
    · have hr := hx i u hu
      have hl := h1 w rfl
      simp only [Builtin.firstCells] at hl
      have hb : off + List.length y * csz t ≤ C.size ∨ List.length y * csz t = 0 := by
        rcases Nat.eq_zero_or_pos (csz t) with hz | hz
        · right; rw [hz]; simp
        · left
          have hpos : 0 < List.length y := Nat.lt_of_le_of_lt (Nat.zero_le _) (lt_of_get hu)
          have hy : y[List.length y - 1]? = some y[List.length y - 1] := List.getElem?_eq_getElem (by omega)
          have := Rd_length τ _ _ _ _ _ (hx _ _ hy)
          unfold win at this
          simp only [List.length_take, List.length_drop, Array.length_toList] at this
          have e2 : (List.length y - 1) * csz t + csz t = List.length y * csz t := by rw [← Nat.succ_mul]; congr 1; omega
          omega
      have hvs : vs = win C.toList off (List.length y * csz t) := by
        rcases hb with hb | hb
        · have := run_loadCells (P := P) (w := w) hC hb
          rw [this] at hl
          cases hl; rfl
        · rw [hb] at h2 ⊢
          rw [List.length_eq_zero_iff.1 h2]; simp [win]
      have hi : i * csz t + csz t ≤ List.length y * csz t := by rw [← Nat.succ_mul]; exact Nat.mul_le_mul_right _ (lt_of_get hu)
      rw [hvs, win_win _ _ _ _ _ hi]
      exact hr
  obtain ⟨fs, f1, f2⟩ := exists_es (Q := fun i u z => win vs (0 + i * csz t) (csz t) = cells τ t u z ∧ hold τ S Sb w t .r u z) y (fun i u hu => by
    obtain ⟨z, hz⟩ := Rd_sh _ _ _ (hel i u hu)
    exact ⟨z, by rw [Nat.zero_add, hz], by rw [hold_r, hz]; exact hel i u hu⟩)
  have hE : Elems τ S Sb w t .r y fs vs 0 := ⟨f1, f2⟩
  have he : ebl t .r y fs = [] := by
    unfold ebl
    rw [List.flatten_eq_nil_iff]
    intro l hl
    obtain ⟨i, hi⟩ := List.mem_iff_getElem?.1 hl
    rw [List.getElem?_zipWith] at hi
    revert hi
    cases y[i]? with
    | none => intro hi; cases hi
    | some u =>
      cases fs[i]? with
      | none => intro hi; cases hi
      | some z => intro hi; cases hi; exact allR_bl _ _ _ _ rfl
  refine ⟨vs, h1, h2, h4, ?_, fs, hE, by rw [he]; simp, by rw [he]; simp⟩
  intro u hu
  have := hE.plain (τ := τ) rfl u
  apply this
  unfold win
  rw [List.drop_zero, List.take_of_length_le (by omega)]
  exact hu
theorem run_appendG {t : Ty} {m : Md} {x y : E (.l t)} {sh : Sh (.l t)} {sv : Value} {By : List Nat} {T T2 e : TypeId} {i : TypeInfo} {z : Value} {d2 : TypeDesc} {Sb : Nat → Prop}
    (hb : hold τ S Sb w (.l t) (.o m) x sh) (hy : SrcAt τ P S Sb w t m y sv By)
    (hnd : (bl (.l t) (.o m) x sh ++ By).Nodup) (hlt : ∀ b ∈ bl (.l t) (.o m) x sh ++ By, b < w.heap.size) (hS : ∀ b, S b ∨ Sb b → b < w.heap.size ∧ b ∉ bl (.l t) (.o m) x sh)
    (hT : P.underlying T = some (.slice e)) (hi : P.info? e = some i) (hsz : i.size = csz t) (hz : i.zero = some z) (hzs : z.cells.size = csz t)
    (hT2 : P.underlying T2 = some d2) (hd2 : ∀ k, d2 ≠ .int k)
    (hbig : (List.length x + List.length y) * i.bytes ≤ 140737488355328) (hbig2 : List.length x + List.length y ≤ 140737488355328) (oT : TypeId) :
    ∃ w' d', (Builtin.append_ #[T, T2] oT #[sh.hd, sv]).run P w = .ok (DV.val τ d') w' ∧ d'.av = ⟨.l t, .o m, x ++ y⟩ ∧ d'.hold τ S Sb w' ∧ d'.bl.Nodup ∧
      (∀ b ∈ d'.bl, b < w'.heap.size ∧ (b ∈ bl (.l t) (.o m) x sh ∨ b ∈ By ∨ w.heap.size ≤ b)) ∧ Ext (bl (.l t) (.o m) x sh) w w' := by
  -- the source
  obtain ⟨vs, s1, s2, s3, s4, s5⟩ := hy
  obtain ⟨fs, f1, f2, f3⟩ := s5
  have hbr : (sh.hd = .slice none 0 0 ∧ List.length x = 0) ∨ RowAt (csz t) sh.hd (List.length x) sh.blk sh.off (match sh.hd with | .slice _ _ c => c | _ => 0) sh.C sh.ety sh.frz w := by
    rcases own_row hb with ⟨h1, rfl, _⟩ | ⟨cap, h1, _⟩
    · exact .inl ⟨h1, rfl⟩
    · refine .inr ?_
      have : (match sh.hd with | .slice _ _ c => c | _ => 0) = cap := by rw [h1.hd]
      rw [this]; exact h1
  generalize (match sh.hd with | .slice _ _ c => c | _ => 0) = cap at hbr
  obtain ⟨w', hd', hrun, hres⟩ := raw_append (oT := oT) hbr hT hi hsz hz hzs hT2 hd2 s3 s1 s2 s4 hbig hbig2
  have hlx : (x ++ y : List (E t)).length = List.length x + List.length y := List.length_append
  -- the result, out of how its row lies
  have mk : ∀ (blk off cap : Nat) (C : List Value) (ety : TypeId) (frz : Nat × Nat) (es : List (Sh t)), RowAt (csz t) hd' (List.length x + List.length y) blk off cap C ety frz w' → Elems τ S Sb w' t m x es C off → Elems τ S Sb w' t m y fs C (off + List.length x * csz t) →
      (∀ b ∈ ebl t m x es, b ∈ bl (.l t) (.o m) x sh) → (ebl t m x es).Nodup → blk ∉ ebl t m x es ++ ebl t m y fs → blk < w'.heap.size → (blk ∈ bl (.l t) (.o m) x sh ∨ w.heap.size ≤ blk) → w.heap.size ≤ w'.heap.size →
      ∃ d' : DV, DV.val τ d' = hd' ∧ d'.av = ⟨.l t, .o m, x ++ y⟩ ∧ d'.hold τ S Sb w' ∧ d'.bl.Nodup ∧ (∀ b ∈ d'.bl, b < w'.heap.size ∧ (b ∈ bl (.l t) (.o m) x sh ∨ b ∈ By ∨ w.heap.size ≤ b)) := by
    intro blk off cap C ety frz es hR he1 he2 hsub hnx hnot hblk hor hsize
    have hall := he1.append he2
    have hbl : DV.bl ⟨.l t, .o m, x ++ y, ⟨hd', blk, off, C, ety, frz, es ++ fs⟩⟩ = blk :: (ebl t m x es ++ ebl t m y fs) := by
      rw [← ebl_append he1.len]
      show bl (.l t) (.o m) (x ++ y) _ = _
      simp only [bl, hR.hd]; rfl
    refine ⟨⟨.l t, .o m, x ++ y, ⟨hd', blk, off, C, ety, frz, es ++ fs⟩⟩, by simp [DV.val, DV.cells, cells, valOf, isAggT], rfl, ?_, ?_, fun b hbb => ?_⟩
    · exact .inr ⟨cap, by rw [hlx]; exact hR.hd, hall.len, by rw [hlx]; exact hR.len, hR.big, hR.room, hR.cell, hR.thaw, hall.at_⟩
    · rw [hbl, List.nodup_cons]
      refine ⟨hnot, List.nodup_append.2 ⟨hnx, f3, fun b h1 c h2 e => ?_⟩⟩
      subst e
      exact (List.nodup_append.1 hnd).2.2 b (hsub b h1) b (f2 b h2) rfl
    · rw [hbl] at hbb
      rcases List.mem_cons.1 hbb with rfl | hbb
      · exact ⟨hblk, hor.imp id .inr⟩
      · rcases List.mem_append.1 hbb with h1 | h1
        · exact ⟨Nat.lt_of_lt_of_le (hlt b (List.mem_append_left _ (hsub b h1))) hsize, .inl (hsub b h1)⟩
        · exact ⟨Nat.lt_of_lt_of_le (hlt b (List.mem_append_right _ (f2 b h1))) hsize, .inr (.inl (f2 b h1))⟩
  rcases hres with ⟨h1, h2, h3, rfl, rfl⟩ | ⟨hR, hR', hW⟩ | ⟨N, C', hR', hE, hC1, hsz', hold'⟩
  · have hx0 : x = [] := List.length_eq_zero_iff.1 h2
    have hy0 : y = [] := List.length_eq_zero_iff.1 h3
    subst hx0; subst hy0
    refine ⟨w', ⟨.l t, .o m, [], sh⟩, ?_, rfl, .inl ⟨h1, rfl⟩, ?_, ?_, ?_⟩
    · rw [hrun]; simp [DV.val, DV.cells, cells, valOf, isAggT, h1]
    · show (bl (.l t) (.o m) [] sh).Nodup
      simp only [bl, h1]; exact List.nodup_nil
    · intro b hbb
      have : b ∈ bl (.l t) (.o m) [] sh := hbb
      simp only [bl, h1] at this
      cases this
    · exact ⟨rfl, rfl, rfl, Nat.le_refl _, fun _ _ _ => rfl⟩
  · -- in place
    rcases own_row hb with ⟨h1, _, _⟩ | ⟨cap', h1, h2, h3⟩
    · rw [hR.hd] at h1; cases h1
    have hnbx := (List.nodup_append.1 hnd).1
    rw [h3] at hnbx
    obtain ⟨n1, n2⟩ := List.nodup_cons.1 hnbx
    have hoff : sh.off + List.length x * csz t + vs.length ≤ sh.C.length := by
      have := hR'.room
      have h4 := hR'.len
      have h5 : (List.length x + List.length y) * csz t ≤ cap * csz t := Nat.mul_le_mul_right _ h4
      have h6 := hR.room
      rw [Nat.add_mul] at h5
      omega
    have hsame : ∀ b, b ≠ sh.blk → w'.heap[b]? = w.heap[b]? := hW.block
    have hSs : ∀ b, S b ∨ Sb b → w'.heap[b]? = w.heap[b]? := fun b hb => hsame b (fun e => (hS b hb).2 (by rw [h3, e]; exact List.mem_cons_self ..))
    have hny : ∀ b ∈ ebl t m y fs, b ≠ sh.blk := fun b hb e => (List.nodup_append.1 hnd).2.2 sh.blk (by rw [h3]; exact List.mem_cons_self ..) b (f2 b hb) e.symm
    obtain ⟨d', e1, e2, e3, e4, e5⟩ := mk sh.blk sh.off cap _ sh.ety sh.frz sh.es hR'
      (h2.keep hSs (fun b hb => hsame b (fun e => n1 (e ▸ hb))) (fun i hi => by
        have hi1 : i * csz t + csz t ≤ List.length x * csz t := by rw [← Nat.succ_mul]; exact Nat.mul_le_mul_right _ hi
        exact win_splice_other _ _ _ _ _ hoff (by omega)))
      (f1.keep hSs (fun b hb => hsame b (hny b hb)) (fun i hi => by
        have hi1 : i * csz t + csz t ≤ List.length y * csz t := by rw [← Nat.succ_mul]; exact Nat.mul_le_mul_right _ hi
        rw [← win_win _ _ (vs.length) _ _ (by omega), win_splice_same _ _ _ hoff, Nat.zero_add]))
      (fun b hb => by rw [h3]; exact List.mem_cons_of_mem _ hb) n2 (fun hb => by
        rcases List.mem_append.1 hb with hb | hb
        · exact n1 hb
        · exact hny _ hb rfl) (by rw [hW.size]; exact hlt _ (List.mem_append_left _ (by rw [h3]; exact List.mem_cons_self ..))) (.inl (by rw [h3]; exact List.mem_cons_self ..)) (by rw [hW.size]; exact Nat.le_refl _)
    refine ⟨w', d', by rw [e1]; exact hrun, e2, e3, e4, e5, ⟨hW.os, hW.tape, hW.output, by rw [hW.size]; exact Nat.le_refl _, fun b hb hnb => hsame b (fun e => hnb (by rw [h3, e]; exact List.mem_cons_self ..))⟩⟩
  · -- a new row
    have hsame : ∀ b, b < w.heap.size → w'.heap[b]? = w.heap[b]? := fun b hb => hE.block b hb (by simp)
    have hSs : ∀ b, S b ∨ Sb b → w'.heap[b]? = w.heap[b]? := fun b hb => hsame b (hS b hb).1
    have hy' : Elems τ S Sb w' t m y fs C' (0 + List.length x * csz t) := f1.keep hSs (fun b hb => hsame b (hlt b (List.mem_append_right _ (f2 b hb)))) (fun i hi => by
      have hi1 : i * csz t + csz t ≤ List.length y * csz t := by rw [← Nat.succ_mul]; exact Nat.mul_le_mul_right _ hi
      rw [← hC1, Nat.zero_add, Nat.zero_add, win_win _ _ _ _ _ hi1])
    have hE' : Ext (bl (.l t) (.o m) x sh) w w' := ⟨hE.os, hE.tape, hE.output, hE.size, fun b hb _ => hE.block b hb (by simp)⟩
    have hnew : ∀ es : List (Sh t), (∀ b ∈ ebl t m x es, b ∈ bl (.l t) (.o m) x sh) → w.heap.size ∉ ebl t m x es ++ ebl t m y fs := by
      intro es hsub hb
      rcases List.mem_append.1 hb with hb | hb
      · exact Nat.lt_irrefl _ (hlt _ (List.mem_append_left _ (hsub _ hb)))
      · exact Nat.lt_irrefl _ (hlt _ (List.mem_append_right _ (f2 _ hb)))
    rcases hold' with ⟨h1, h2⟩ | ⟨hR, hC0⟩
    · have hx0 : x = [] := List.length_eq_zero_iff.1 h2
      have hex : Elems τ S Sb w' t m x [] C' 0 := by subst hx0; exact ⟨rfl, fun i u z hu _ => by simp at hu⟩
      have hee : ebl t m x [] = [] := by subst hx0; rfl
      obtain ⟨d', e1, e2, e3, e4, e5⟩ := mk w.heap.size 0 N C' e (0, 0) [] hR' hex hy' (by rw [hee]; simp) (by rw [hee]; simp) (hnew _ (by rw [hee]; simp)) hsz' (.inr (Nat.le_refl _)) hE.size
      exact ⟨w', d', by rw [e1]; exact hrun, e2, e3, e4, e5, hE'⟩
    · rcases own_row hb with ⟨h1, _, _⟩ | ⟨cap', h1, h2, h3⟩
      · rw [hR.hd] at h1; cases h1
      have hnbx := (List.nodup_append.1 hnd).1
      rw [h3] at hnbx
      obtain ⟨n1, n2⟩ := List.nodup_cons.1 hnbx
      have hsub : ∀ b ∈ ebl t m x sh.es, b ∈ bl (.l t) (.o m) x sh := fun b hb => by rw [h3]; exact List.mem_cons_of_mem _ hb
      obtain ⟨d', e1, e2, e3, e4, e5⟩ := mk w.heap.size 0 N C' e (0, 0) sh.es hR'
        (h2.keep hSs (fun b hb => hsame b (hlt b (List.mem_append_left _ (hsub b hb)))) (fun i hi => by
          have hi1 : i * csz t + csz t ≤ List.length x * csz t := by rw [← Nat.succ_mul]; exact Nat.mul_le_mul_right _ hi
          exact win_of_win hC0 hi1)) hy' hsub n2 (hnew _ hsub) hsz' (.inr (Nat.le_refl _)) hE.size
      exact ⟨w', d', by rw [e1]; exact hrun, e2, e3, e4, e5, hE'⟩
theorem run_appendO {t : Ty} {m : Md} {x y : E (.l t)} {sh shy : Sh (.l t)} {T T2 e : TypeId} {i : TypeInfo} {z : Value} {d2 : TypeDesc} {Sb : Nat → Prop}
    (hm : m.solid = true) (hb : hold τ S Sb w (.l t) (.o m) x sh) (hy : hold τ S Sb w (.l t) (.o m) y shy)
    (hnd : (bl (.l t) (.o m) x sh ++ bl (.l t) (.o m) y shy).Nodup) (hlt : ∀ b ∈ bl (.l t) (.o m) x sh ++ bl (.l t) (.o m) y shy, b < w.heap.size) (hS : ∀ b, S b ∨ Sb b → b < w.heap.size ∧ b ∉ bl (.l t) (.o m) x sh)
    (hT : P.underlying T = some (.slice e)) (hi : P.info? e = some i) (hsz : i.size = csz t) (hz : i.zero = some z) (hzs : z.cells.size = csz t)
    (hT2 : P.underlying T2 = some d2) (hd2 : ∀ k, d2 ≠ .int k)
    (hbig : (List.length x + List.length y) * i.bytes ≤ 140737488355328) (hbig2 : List.length x + List.length y ≤ 140737488355328) (oT : TypeId) :
    ∃ w' d', (Builtin.append_ #[T, T2] oT #[sh.hd, shy.hd]).run P w = .ok (DV.val τ d') w' ∧ d'.av = ⟨.l t, .o m, x ++ y⟩ ∧ d'.hold τ S Sb w' ∧ d'.bl.Nodup ∧
      (∀ b ∈ d'.bl, b < w'.heap.size ∧ (b ∈ bl (.l t) (.o m) x sh ∨ b ∈ bl (.l t) (.o m) y shy ∨ w.heap.size ≤ b)) ∧ Ext (bl (.l t) (.o m) x sh) w w' :=
  run_appendG hb (src_own hm hy (List.nodup_append.1 hnd).2.1) hnd hlt hS hT hi hsz hz hzs hT2 hd2 hbig hbig2 oT
end Lk
end
section
namespace Lk
open Go
variable {Kw : KW}
variable {τ : Ax} {cx : Cx Kw} {S : Nat → Prop} {ds : DSt} {w : World} {P : Program} {env : Env} {a : Act} {o : Oper} {cs : List Bool} {st' : St}
theorem two_args {c : Call} (h1 : c.args.size = 2) (h2 : c.argTypes.size = 2) : c.args.map a.eval = #[a.eval (arg c 0), a.eval (arg c 1)] ∧ c.argTypes = #[argT c 0, argT c 1] := by
  constructor
  · apply Array.ext'
    rw [minmax h1]
  · obtain ⟨xs, hxs⟩ : ∃ xs, c.argTypes = xs := ⟨_, rfl⟩
    unfold argT
    rw [hxs] at h2 ⊢
    obtain ⟨l⟩ := xs
    match l, h2 with
    | [x, y], _ => simp
theorem desc_notInt {T : TypeId} {t : Ty} (h : Desc P T t) (hr : (∃ t', t = .l t') ∨ t = .s) : ∃ d, P.underlying T = some d ∧ ∀ k, d ≠ TypeDesc.int k := by
  rcases hr with ⟨t', rfl⟩ | rfl
  · simp only [Desc, DG] at h; obtain ⟨e, i, z, h, _⟩ := h; exact ⟨_, h, fun k e => by cases e⟩
  · simp only [Desc, DG] at h; exact ⟨_, h, fun k e => by cases e⟩
theorem app_src {t : Ty} {lim : Nat} {x : E (.l t)} {m : Md} {y : AV} {vy : Value} {r : List Bool × AV} (hy : Is (τ := τ) cx S w y vy) (ha : app lim ⟨.l t, .o m, x⟩ y = some r) :
    ∃ (ys : List (E t)) (vs : List Value), r = ([decide (x.length + ys.length ≤ lim)], ⟨.l t, .o m, x ++ ys⟩) ∧ flat t = true ∧ nh t m = true ∧
      (Builtin.lenOf vy).run P w = .ok ys.length w ∧ (∀ w1 : World, w1.heap = w.heap → (Builtin.firstCells (csz t) ys.length vy).run P w1 = .ok vs.toArray w1) ∧ vs.length = ys.length * csz t ∧
      (∀ (i : Nat) (v : E t), ys[i]? = some v → Rd τ (fun _ => True) w t v (win vs (i * csz t) (csz t))) ∧ ((∃ t', y.t = .l t') ∨ y.t = .s) := by
  unfold app at ha
  split at ha
  · rename_i t1 m1 x1 t' m' y' e1
    cases e1
    split at ha
    · rename_i ht
      subst ht
      split at ha
      · rename_i hc
        simp only [Bool.and_eq_true] at hc
        obtain ⟨⟨hf, hn⟩, hn2⟩ := hc
        cases ha
        obtain ⟨hm, d, hd, hh, rfl⟩ := hy
        obtain ⟨t0, m0, x0, sh⟩ := d
        simp only [DV.av, AV.mk.injEq] at hd
        obtain ⟨rfl, rfl, hx⟩ := hd
        cases hx
        have hrd := row_rd hf hm (fun m' e => by subst e; exact hn2) hh
        obtain ⟨vs, h1, h2, h3, h4⟩ := src_cells (P := P) hrd y'.length (Nat.le_refl _)
        refine ⟨y', vs, rfl, hf, hn, ?_, ?_, h2, fun i v hv => h3 i v (lt_of_get hv) hv, .inl ⟨_, rfl⟩⟩
        · simpa [DV.val, DV.cells, cells, valOf, isAggT] using h4
        · simpa [DV.val, DV.cells, cells, valOf, isAggT] using h1
      · cases ha
    · cases ha
  · rename_i m1 x1 m' y' e1
    cases e1
    split at ha
    · rename_i hn
      cases ha
      obtain ⟨e1, r1⟩ := hy.str
      subst e1
      obtain ⟨vs, h1, h2, h3, h4⟩ := str_cells (τ := τ) (w := w) (P := P) (x := y')
      exact ⟨y', vs, rfl, rfl, hn, h4, fun w1 _ => h1 w1, by simp [h2, csz], fun i v hv => by simpa [csz] using h3 i v hv, .inr rfl⟩
    · cases ha
  · cases ha
theorem appendO_core {c : Call} {t0 t1 : Ty × Md} {y b : AV × St} {r : List Bool × AV} (hE : EnvOk τ P env) (ho : o.op = .call c) (hb : c.callee = .builtin .append)
    (h : RelS τ cx S ds a.tmps w) (ht0 : env.ty (argT c 0) = some t0) (ht1 : env.ty (argT c 1) = some t1) (hown : appOwn t0 = true) (hy : appY (ds.map er) (arg c 1) = some y) (hbase : Lk.base env y.2 (arg c 0) (argT c 0) = some b)
    (htt : t0.1 = b.1.t ∧ t1.1 = y.1.t) (hr : appO (env.lim (argT c 0)) b.1 y.1 = some r) (hs : Lk.setD b.2 o.dst (.av r.2) = some st') (hsz : c.args.size = 2 ∧ c.argTypes.size = 2) (hc : ∀ q ∈ r.1, q = true) :
    ∃ (v : Value) (w' : World) (ds' : DSt) (ds1 : DSt) (L : List Nat), (execOp a.eval o).run P w = .ok (.value v) w' ∧ st' = ds'.map er ∧ RelS τ cx S ds' (a.put o.dst v).tmps w' ∧
      Lk.appSt env (ds.map er) c = some (ds1.map er) ∧ RelS τ cx S ds1 a.tmps w ∧ (∀ b ∈ L, b ∉ blocks ds1) ∧ Ext L w w' := by
  obtain ⟨ea, et⟩ := two_args (a := a) hsz.1 hsz.2
  have hst : Lk.appSt env (ds.map er) c = some b.2 := by
    unfold appSt
    rw [ht0]
    simp only [Option.bind_some, hown, cond_true]
    rw [hy]
    simp only [Option.bind_some]
    rw [hbase]; rfl
  obtain ⟨bv, bst⟩ := b
  obtain ⟨yv, yst⟩ := y
  simp only at hbase htt hr hs hst
  -- what is appended, and its kinds
  obtain ⟨dsy, t, m, x, y', By, e0, hRy, hbv, htyv, hm, hr1, hr2, hsrcY, hfryN, hyfree, hsyb⟩ : ∃ (dsy : DSt) (t : Ty) (m : Md) (x y' : E (.l t)) (By : List Nat), yst = dsy.map er ∧ RelS τ cx S dsy a.tmps w ∧ bv = ⟨.l t, .o m, x⟩ ∧ yv.t = .l t ∧ m.solid = true ∧
      r.1 = [decide (List.length x + List.length y' ≤ env.lim (argT c 0))] ∧ r.2 = ⟨.l t, .o m, x ++ y'⟩ ∧ SrcAt τ P S (fun b => S b ∨ cx.Sb b) w t m y' (a.eval (arg c 1)) By ∧ By.Nodup ∧
      (∀ b ∈ By, b ∉ blocks dsy ∧ ¬ (S b ∨ cx.Sb b) ∧ b < w.heap.size ∧ (b ∈ cx.B0 ∨ cx.w0.heap.size ≤ b)) ∧ True := by
    unfold appY at hy
    split at hy
    case h_2 => cases hy
    rename_i jy hjy
    split at hy
    · rename_i t' y' hl
      cases hy
      unfold appO at hr
      split at hr
      · rename_i t m x t2 m2 y2 e2
        simp only [AV.mk.injEq] at e2
        obtain ⟨e3, rfl, e4⟩ := e2
        cases e3
        cases e4
        split at hr
        · rename_i ht
          subst ht
          split at hr
          · rename_i hmm
            obtain ⟨hmm, hm⟩ := hmm
            obtain ⟨_, rfl⟩ := hmm.resolve_left (by intro e; cases e)
            cases hr
            obtain ⟨_, d, hd, hh, hv⟩ := h.look hl
            obtain ⟨t9, m9, x9, sh9⟩ := d
            simp only [DV.av, AV.mk.injEq] at hd
            obtain ⟨rfl, rfl, hx⟩ := hd
            cases hx
            have hh : Rd τ S w _ y' [sh9.hd] := by
              have : hold τ S (fun b => S b ∨ cx.Sb b) w _ .r y' sh9 := hh
              rw [hold_r] at this; exact this
            refine ⟨ds, _, .r, x, y', [], rfl, h, rfl, rfl, rfl, rfl, rfl, ?_, List.nodup_nil, by simp, trivial⟩
            have e5 : a.eval (arg c 1) = sh9.hd := by
              rw [hjy]; simp only [Act.eval]; rw [hv]; simp [DV.val, DV.cells, cells, valOf, isAggT]
            rw [e5]
            exact src_ro hh
          · cases hr
        · cases hr
      · cases hr
    · obtain ⟨dsy, nvy, ey1, hRy, ey0, py5, py4, hfry, hsy1, hsy2⟩ := h.takeE hy
      subst ey1
      unfold appO at hr
      split at hr
      · rename_i t m x t2 m2 y2
        split at hr
        · rename_i ht
          subst ht
          split at hr
          · rename_i hmm
            obtain ⟨hmm, hm⟩ := hmm
            obtain ⟨ty9, my9, xy9, shy⟩ := nvy
            simp only [DV.av, AV.mk.injEq] at ey0
            obtain ⟨rfl, rfl, hx⟩ := ey0
            cases hx
            cases hr
            have e5 : a.eval (arg c 1) = shy.hd := by
              rw [hjy]; simp only [Act.eval]; rw [py4]; simp [DV.val, DV.cells, cells, valOf, isAggT]
            rcases hmm with hmm | ⟨hmm, rfl⟩
            · subst hmm
              refine ⟨dsy, _, m, x, y2, bl (.l _) (.o m) y2 shy, rfl, hRy, rfl, rfl, hm, rfl, rfl, ?_, hfry.nodup, hfry.free, trivial⟩
              rw [e5]
              exact src_own hm py5 hfry.nodup
            · subst hmm
              have hh : Rd τ S w _ y2 [shy.hd] := by
                have : hold τ S (fun b => S b ∨ cx.Sb b) w _ .r y2 shy := py5
                rw [hold_r] at this; exact this
              refine ⟨dsy, _, .r, x, y2, [], rfl, hRy, rfl, rfl, rfl, rfl, rfl, ?_, List.nodup_nil, by simp, trivial⟩
              rw [e5]
              exact src_ro hh
          · cases hr
        · cases hr
      · cases hr
  subst e0
  subst hbv
  have hlim : List.length x + List.length y' ≤ env.lim (argT c 0) := by
    have := hc _ (by rw [hr1]; exact List.mem_singleton.2 rfl)
    simpa using this
  have hd0 := hE.ty _ _ _ ht0
  rw [htt.1] at hd0
  simp only [Desc, DG] at hd0
  obtain ⟨e, i, z, f1, f2, f3, f4, f5, _⟩ := hd0
  have hd1 := hE.ty _ _ _ ht1
  rw [htt.2, htyv] at hd1
  simp only [Desc, DG] at hd1
  obtain ⟨e', _, _, g1, _⟩ := hd1
  obtain ⟨m1, m2⟩ := hE.lim _ _ _ f1 f2
  have hbig : (List.length x + List.length y') * i.bytes ≤ 140737488355328 := Nat.le_trans (Nat.mul_le_mul_right _ hlim) m1
  have hbig2 : List.length x + List.length y' ≤ 140737488355328 := Nat.le_trans hlim m2
  -- the base
  obtain ⟨ds1, sh, rfl, hR, hh, hev, hfree, hnd, hsub, hback⟩ : ∃ (ds1 : DSt) (sh : Sh (.l t)), bst = ds1.map er ∧ RelS τ cx S ds1 a.tmps w ∧ hold τ S (fun b => S b ∨ cx.Sb b) w (.l t) (.o m) x sh ∧ a.eval (arg c 0) = sh.hd ∧
      (∀ b ∈ bl (.l t) (.o m) x sh, b ∉ blocks ds1 ∧ ¬ (S b ∨ cx.Sb b) ∧ b < w.heap.size ∧ (b ∈ cx.B0 ∨ cx.w0.heap.size ≤ b)) ∧ (bl (.l t) (.o m) x sh).Nodup ∧ (∀ b ∈ bl (.l t) (.o m) x sh, b ∈ blocks dsy) ∧ (∀ b ∈ blocks ds1, b ∈ blocks dsy) := by
    unfold Lk.base at hbase
    split at hbase
    · rename_i cv hcv
      rw [Option.map_eq_some_iff] at hbase
      obtain ⟨v, hv, e⟩ := hbase
      cases e
      rw [hcv] at hv
      simp only [Lk.rdOp, Option.bind_eq_some_iff] at hv
      obtain ⟨tm, _, hv⟩ := hv
      obtain ⟨_, d, hd, p1, p2, p3⟩ := const_dv (τ := τ) (cx := cx) (S := S) (w := w) hv
      obtain ⟨t9, m9, x9, sh⟩ := d
      simp only [DV.av, AV.mk.injEq] at hd
      obtain ⟨rfl, rfl, hx⟩ := hd
      cases hx
      have hbl : bl (.l t) (.o m) x sh = [] := p3
      refine ⟨dsy, sh, rfl, hRy, p1, ?_, by rw [hbl]; simp, by rw [hbl]; simp, by rw [hbl]; simp, fun b h => h⟩
      rw [hcv]; simp only [Act.eval]; rw [p2]; simp [DV.val, DV.cells, cells, valOf, isAggT]
    · rename_i j hj
      obtain ⟨ds1, nv, e1, hR, e0, p5, p4, hfr, hs1, hs2⟩ := hRy.takeE hbase
      obtain ⟨t9, m9, x9, sh⟩ := nv
      simp only [DV.av, AV.mk.injEq] at e0
      obtain ⟨rfl, rfl, hx⟩ := e0
      cases hx
      refine ⟨ds1, sh, e1, hR, p5, ?_, hfr.free, hfr.nodup, hs1, hs2⟩
      rw [hj]; simp only [Act.eval]; rw [p4]; simp [DV.val, DV.cells, cells, valOf, isAggT]
    · cases hbase
  obtain ⟨w', d', k1, k2, k3, k4, k5, k6⟩ := run_appendG (P := P) (Sb := fun b => S b ∨ cx.Sb b) (T2 := argT c 1) (d2 := .slice e') (oT := o.type) hh hsrcY
    (List.nodup_append.2 ⟨hnd, hfryN, fun b hb b2 hb2 e => by subst e; exact (hyfree b hb2).1 (hsub b hb)⟩)
    (fun b hb => by
      rcases List.mem_append.1 hb with hb | hb
      · exact (hfree b hb).2.2.1
      · exact (hyfree b hb).2.2.1)
    (fun b hb => by
      have hb' : S b ∨ cx.Sb b := hb.elim .inl id
      exact ⟨(h.inv.sw b hb').1, fun hx => (hfree b hx).2.1 hb'⟩)
    f1 f2 f3 f4 f5 g1 (by simp) hbig hbig2
  have hrun : (execOp a.eval o).run P w = .ok (.value (d'.val τ)) w' := by
    rw [run_builtin hb ho, ea, et, hev]
    exact run_value k1
  have hR' : RelS τ cx S ds1 a.tmps w' := hR.chg k6 (fun b hb => ⟨(hfree b hb).1, (hfree b hb).2.1, (hfree b hb).2.2.2⟩)
  obtain ⟨ds', q1, q2⟩ := hR'.setD (e := .av d') (v := d'.val τ) (by
      show Lk.setD (ds1.map er) o.dst (.av d'.av) = some st'
      rw [k2, ← hr2]; exact hs) ⟨k3, rfl⟩ k4 (fun b hb => by
      obtain ⟨h1, h2⟩ := k5 b hb
      refine ⟨h1, ?_⟩
      rcases h2 with h2 | h2 | h2
      · exact ⟨(hfree b h2).2.2.2, (hfree b h2).2.1, (hfree b h2).1⟩
      · exact ⟨(hyfree b h2).2.2.2, (hyfree b h2).2.1, fun hB => (hyfree b h2).1 (hback b hB)⟩
      · refine ⟨.inr (Nat.le_trans h.inv.ext.size h2), fun hS => ?_, fun hB => ?_⟩
        · have := (h.inv.sw b hS).1; omega
        · have := (hR.inv.own b hB).1; omega)
  exact ⟨_, w', ds', ds1, _, hrun, q1, q2, hst, hR, fun b hb => (hfree b hb).1, k6⟩
theorem append_core {c : Call} (hE : EnvOk τ P env) (ho : o.op = .call c) (hb : c.callee = .builtin .append)
    (h : RelS τ cx S ds a.tmps w) (hl : opL env o (ds.map er) = some (cs, st')) (hc : ∀ c ∈ cs, c = true) : ∃ (v : Value) (w' : World) (ds' : DSt) (ds1 : DSt) (L : List Nat), (execOp a.eval o).run P w = .ok (.value v) w' ∧ st' = ds'.map er ∧ RelS τ cx S ds' (a.put o.dst v).tmps w' ∧
      Lk.appSt env (ds.map er) c = some (ds1.map er) ∧ RelS τ cx S ds1 a.tmps w ∧ (∀ b ∈ L, b ∉ blocks ds1) ∧ Ext L w w' := by
  simp only [opL, ho, hb] at hl
  split at hl
  · rename_i hsz
    simp only [Option.bind_eq_some_iff] at hl
    obtain ⟨t0, ht0, t1, ht1, hl⟩ := hl
    cases hown : appOwn t0 with
    | true =>
      rw [hown] at hl
      simp only [cond_true, Option.bind_eq_some_iff] at hl
      obtain ⟨y, hy, b, hbase, hl⟩ := hl
      split at hl
      case isFalse => cases hl
      rename_i htt
      rw [Option.bind_eq_some_iff] at hl
      obtain ⟨r, hr, hl⟩ := hl
      obtain ⟨hs, rfl⟩ := ret_some hl
      exact appendO_core hE ho hb h ht0 ht1 hown hy hbase htt hr hs hsz hc
    | false =>
    rw [hown] at hl
    simp only [cond_false, Option.bind_eq_some_iff] at hl
    obtain ⟨y, hy, b, hbase, hl⟩ := hl
    split at hl
    · rename_i htt
      rw [Option.bind_eq_some_iff] at hl
      obtain ⟨r, hr, hl⟩ := hl
      obtain ⟨hs, rfl⟩ := ret_some hl
      obtain ⟨ea, et⟩ := two_args (a := a) hsz.1 hsz.2
      have iy := h.rdOp (a := a) rfl hy
      obtain ⟨bv, bst⟩ := b
      simp only at hr hs htt
      -- the base
      obtain ⟨t, m, x, rfl⟩ : ∃ t m x, bv = ⟨.l t, .o m, x⟩ := by
        unfold app at hr
        split at hr
        · exact ⟨_, _, _, rfl⟩
        · exact ⟨_, _, _, rfl⟩
        · cases hr
      obtain ⟨ys, vs, rfl, hf, hn, l1, l2, l3, l4, l5⟩ := app_src (P := P) iy hr
      have hd0 := hE.ty _ _ _ ht0
      rw [htt.1] at hd0
      simp only [Desc, DG] at hd0
      obtain ⟨e, i, z, f1, f2, f3, f4, f5, _⟩ := hd0
      have hd1 := hE.ty _ _ _ ht1
      rw [htt.2] at hd1
      obtain ⟨d2, g1, g2⟩ := desc_notInt hd1 l5
      have hlim : x.length + ys.length ≤ env.lim (argT c 0) := by simpa using hc
      obtain ⟨m1, m2⟩ := hE.lim _ _ _ f1 f2
      have hbig : (x.length + ys.length) * i.bytes ≤ 140737488355328 := Nat.le_trans (Nat.mul_le_mul_right _ hlim) m1
      have hbig2 : x.length + ys.length ≤ 140737488355328 := Nat.le_trans hlim m2
      -- the row that is given away, in what is left
      suffices ∃ (ds1 : DSt) (sh : Sh (.l t)), bst = ds1.map er ∧ RelS τ cx S ds1 a.tmps w ∧ hold τ S (fun b => S b ∨ cx.Sb b) w (.l t) (.o m) x sh ∧ a.eval (arg c 0) = sh.hd ∧
          (∀ b ∈ bl (.l t) (.o m) x sh, b ∉ blocks ds1 ∧ ¬ (S b ∨ cx.Sb b) ∧ (b ∈ cx.B0 ∨ cx.w0.heap.size ≤ b) ∧ b < w.heap.size) ∧ (bl (.l t) (.o m) x sh).Nodup by
        obtain ⟨ds1, sh, rfl, hR, hh, hev, hbl, hnd⟩ := this
        obtain ⟨w', d', k1, k2, k3, k4⟩ := run_append hf hn hh hev f1 f2 f3 f4 f5 g1 g2 l1 l2 l3 l4 hbig hbig2 o.type
        have hrun : (execOp a.eval o).run P w = .ok (.value (d'.val τ)) w' := by
          rw [run_builtin hb ho, ea, et]
          exact run_value k1
        have hR' : RelS τ cx S ds1 a.tmps w' := by
          rcases k4 with ⟨_, g⟩ | ⟨g, _⟩
          · exact hR.chg g (fun b hb => ⟨(hbl b hb).1, (hbl b hb).2.1, (hbl b hb).2.2.1⟩)
          · exact hR.chg g (by simp)
        have hsize : w.heap.size ≤ w'.heap.size := by rcases k4 with ⟨_, g⟩ | ⟨g, _⟩ <;> exact g.size
        obtain ⟨ds', q1, q2⟩ := hR'.setD (e := .av d') (v := d'.val τ) (by
            show Lk.setD (ds1.map er) o.dst (.av d'.av) = some st'
            rw [k2]; exact hs) ⟨k3, rfl⟩ (by
            simp only [Ent.bl]
            rcases k4 with ⟨e4, _⟩ | ⟨_, n, e4, _⟩
            · rw [e4]; exact hnd
            · rw [e4]; simp) (fun b hb => by
            simp only [Ent.bl] at hb
            rcases k4 with ⟨e4, _⟩ | ⟨_, n, e4, n1, n2⟩
            · rw [e4] at hb
              have := hbl b hb
              exact ⟨Nat.lt_of_lt_of_le this.2.2.2 hsize, this.2.2.1, this.2.1, this.1⟩
            · rw [e4] at hb
              simp only [List.mem_singleton] at hb
              subst hb
              refine ⟨n2, .inr (Nat.le_trans h.inv.ext.size n1), fun hS => ?_, fun hB => ?_⟩
              · have := (h.inv.sw b hS).1; omega
              · have := (hR.inv.own b hB).1; omega)
        have hL : ∃ L : List Nat, (∀ b ∈ L, b ∉ blocks ds1) ∧ Ext L w w' := by
          rcases k4 with ⟨_, g⟩ | ⟨g, _⟩
          · exact ⟨_, fun b hb => (hbl b hb).1, g⟩
          · exact ⟨[], by simp, g⟩
        obtain ⟨L, hL1, hL2⟩ := hL
        exact ⟨_, w', ds', ds1, L, hrun, q1, q2, by unfold appSt; rw [ht0]; simp only [Option.bind_some, hown, cond_false]; rw [hbase]; rfl, hR, hL1, hL2⟩
      unfold Lk.base at hbase
      split at hbase
      · rename_i cv hcv
        rw [Option.map_eq_some_iff] at hbase
        obtain ⟨v, hv, e⟩ := hbase
        cases e
        rw [hcv] at hv
        simp only [Lk.rdOp, Option.bind_eq_some_iff] at hv
        obtain ⟨tm, _, hv⟩ := hv
        obtain ⟨_, d, hd, p1, p2, p3⟩ := const_dv (τ := τ) (cx := cx) (S := S) (w := w) hv
        obtain ⟨t9, m9, x9, sh⟩ := d
        simp only [DV.av, AV.mk.injEq] at hd
        obtain ⟨rfl, rfl, hx⟩ := hd
        cases hx
        refine ⟨ds, sh, rfl, h, p1, ?_, ?_, ?_⟩
        · rw [hcv]; simp only [Act.eval]; rw [p2]; simp [DV.val, DV.cells, cells, valOf, isAggT]
        · intro b hb
          have : b ∈ DV.bl ⟨.l t, .o m, x, sh⟩ := hb
          rw [p3] at this; simp at this
        · show (DV.bl ⟨.l t, .o m, x, sh⟩).Nodup
          rw [p3]; simp
      · rename_i j hj
        obtain ⟨ds1, nv, e1, hR, e0, p5, p4, hfr, _⟩ := h.takeE hbase
        obtain ⟨t9, m9, x9, sh⟩ := nv
        simp only [DV.av, AV.mk.injEq] at e0
        obtain ⟨rfl, rfl, hx⟩ := e0
        cases hx
        refine ⟨ds1, sh, e1, hR, p5, ?_, fun b hb => ⟨(hfr.free b hb).1, (hfr.free b hb).2.1, (hfr.free b hb).2.2.2, (hfr.free b hb).2.2.1⟩, hfr.nodup⟩
        rw [hj]; simp only [Act.eval]; rw [p4]; simp [DV.val, DV.cells, cells, valOf, isAggT]
      · cases hbase
    · cases hl
  · cases hl
theorem append_did {c : Call} (hE : EnvOk τ P env) (ho : o.op = .call c) (hb : c.callee = .builtin .append)
    (h : RelS τ cx S ds a.tmps w) (hl : opL env o (ds.map er) = some (cs, st')) (hc : ∀ c ∈ cs, c = true) : Did (τ := τ) P cx a o w st' := by
  obtain ⟨v, w', ds', _, _, h1, h2, h3, _⟩ := append_core hE ho hb h hl hc
  exact ⟨_, v, w', ds', S, h1, ⟨.inl rfl, fun hst => by simp [still, *] at hst⟩, h2, h3⟩
end Lk
end
section
namespace Lk
open Go
variable {Kw : KW}
variable {τ : Ax} {cx : Cx Kw} {S : Nat → Prop} {ds : DSt} {w : World} {P : Program} {env : Env} {a : Act} {o : Oper} {cs : List Bool} {st' : St}
theorem fold_push (x : List UInt8) : ∀ (acc : List UInt8), (x.map fun b => (b.toNat : Int)).foldl (fun r n => r.push (UInt8.ofNat n.toNat)) (ByteArray.mk acc.toArray) = ByteArray.mk (acc ++ x).toArray := by
  induction x with
  | nil => intro acc; simp
  | cons b x ih =>
    intro acc
    simp only [List.map_cons, List.foldl_cons, Int.toNat_natCast]
    have : (ByteArray.mk acc.toArray).push (UInt8.ofNat b.toNat) = ByteArray.mk (acc ++ [b]).toArray := by
      apply ByteArray.ext
      simp [ByteArray.push]
    rw [this, ih]
    simp
theorem by_cells {x : List UInt8} {vs : List Value} (hl : vs.length = x.length) (h : ∀ (i : Nat) (b : UInt8), x[i]? = some b → Rd τ (fun _ => True) w .by b (win vs (i * 1) 1)) : vs = (x.map fun b => (b.toNat : Int)).map (Value.int .u8) := by
  apply List.ext_getElem?
  intro i
  by_cases hi : i < x.length
  · have hx := List.getElem?_eq_getElem hi
    have hr := h i _ hx
    simp only [Rd, Nat.mul_one] at hr
    have : (win vs i 1)[0]? = some (.int .u8 (x[i].toNat : Int)) := by rw [hr]; rfl
    rw [win_get, if_pos (by omega)] at this
    simp only [Nat.add_zero] at this
    rw [this]
    simp [hx]
  · rw [List.getElem?_eq_none (by omega), List.getElem?_eq_none (by simp; omega)]
theorem convS_did {T T' : TypeId} {x : Operand} (hE : EnvOk τ P env) (ho : o.op = .convert T T' x) (m : Md) (hT' : env.ty T' = some (.s, m))
    (u : AV) (hu : Lk.rdOp env (ds.map er) x T = some u) (hut : u.t = .l .by)
    (h : RelS τ cx S ds a.tmps w) (hl : opL env o (ds.map er) = some (cs, st')) : Did (τ := τ) P cx a o w st' := by
  simp only [opL, ho, Option.bind_eq_some_iff] at hl
  obtain ⟨tm, htm, u', hu', hl⟩ := hl
  rw [hu] at hu'
  cases hu'
  split at hl
  case isFalse => cases hl
  rename_i htt
  rw [Option.bind_eq_some_iff] at hl
  obtain ⟨r, hr, hl⟩ := hl
  obtain ⟨hs, rfl⟩ := ret_some hl
  have hi := h.rdOp (a := a) rfl hu
  have hd0 := hE.ty _ _ _ htm
  have hd := hE.ty _ _ _ hT'
  rw [htt, hut] at hd0
  simp only [Desc, DG] at hd hd0
  obtain ⟨e, i, z, f1, f2, f3, f4, f5, f6⟩ := hd0
  obtain ⟨t, m0, y⟩ := u
  simp only at hut
  subst hut
  simp only [conv, hT'] at hr
  split at hr
  case isFalse => cases hr
  rename_i hnh
  cases hr
  obtain ⟨a0, cap, e1, r1, r2, r3⟩ := hi.row
  obtain ⟨hm, d, hdv, hh, hv⟩ := hi
  obtain ⟨t0, m1, x1, sh⟩ := d
  simp only [DV.av, AV.mk.injEq] at hdv
  obtain ⟨rfl, rfl, hx⟩ := hdv
  cases hx
  have hrd := row_rd (t := .by) rfl hm (fun m' e => by subst e; exact hnh) hh
  obtain ⟨vs, g1, g2, g3, g4⟩ := src_cells (P := P) hrd y.length (Nat.le_refl _)
  have hhd : sh.hd = .slice a0 y.length cap := by
    rw [e1] at hv
    simpa [DV.val, DV.cells, cells, valOf, isAggT] using hv.symm
  have hvs := by_cells (by simpa [csz] using g2) (fun i b hb => g3 i b (lt_of_get hb) hb)
  obtain ⟨ds', q1, q2⟩ := h.setAV (v := strV y) hs (Is.mkS (Nat.le_trans r1 r2)) rfl
  refine ⟨_, _, w, ds', S, ?_, ⟨.inl rfl, fun _ => rfl⟩, q1, q2⟩
  simp only [execOp, ho]
  refine run_value ?_
  rw [e1]
  unfold convert
  rw [Sem.run_bind, run_underlying f1, Result.andThen_ok, Sem.run_bind, run_underlying hd, Result.andThen_ok]
  show Sem.run P (do match ← underlying e with | .int .u8 => Conv.bytesToString (.slice a0 y.length cap) | .int .i32 => _ | _ => _) w = _
  rw [Sem.run_bind, run_underlying f6, Result.andThen_ok]
  show Sem.run P (Conv.bytesToString (.slice a0 y.length cap)) w = _
  cases a0 with
  | none => rw [r3 rfl]; rfl
  | some ad =>
    have hld := g1 w rfl
    rw [hhd] at hld
    simp only [Builtin.firstCells, csz, Nat.mul_one] at hld
    rw [hvs] at hld
    rw [run_bytesToString w ad y.length cap _ hld]
    have := fold_push y []
    simp only [List.nil_append] at this
    show Result.ok (Value.string _) w = _
    rw [show ByteArray.empty = ByteArray.mk ([] : List UInt8).toArray from rfl, this]
    rfl
theorem range_did {T : TypeId} {x : Operand} (hE : EnvOk τ P env) (ho : o.op = .range T x)
    (h : RelS τ cx S ds a.tmps w) (hl : opL env o (ds.map er) = some (cs, st')) : Did (τ := τ) P cx a o w st' := by
  simp only [opL, ho, Option.bind_eq_some_iff] at hl
  obtain ⟨v, hv, hl⟩ := hl
  split at hl
  · rename_i m m0 x0 hT
    obtain ⟨hs, rfl⟩ := ret_some hl
    obtain ⟨e1, r1⟩ := (h.rdOp (a := a) rfl hv).str
    have hd := hE.ty _ _ _ hT
    simp only [Desc, DG] at hd
    let w' : World := { w with heap := w.heap.push (.stringIter ⟨x0.toArray⟩ 0) }
    have hg : Grows w w' := Grows.push w _
    obtain ⟨ds', q1, q2⟩ := (h.grows hg).setD (e := .it x0 0 w.heap.size) (v := .pointer (some ⟨w.heap.size, 0, none⟩)) hs ⟨rfl, by simp [w'], r1⟩ (by simp [Ent.bl]) (fun b hb => by
      simp only [Ent.bl, List.mem_singleton] at hb
      subst hb
      refine ⟨by simp [w'], .inr h.inv.ext.size, fun hS => ?_, fun hB => ?_⟩
      · have := (h.inv.sw _ hS).1; omega
      · have := (h.inv.own _ hB).1; omega)
    refine ⟨_, _, w', ds', S, ?_, ⟨.inl rfl, fun hst => by simp [still, *] at hst⟩, q1, q2⟩
    simp only [execOp, ho]
    refine run_value ?_
    rw [e1]
    unfold Instr.range
    simp only [Sem.run_bind, run_underlying hd, Result.andThen_ok, strV, Sem.run_pure, newObj]
    rfl
  · cases hl
theorem agg_struct {T : TypeId} {t : Ty} (ht : isAggT t = true) (h : Desc P T t) : ∃ fs, P.underlying T = some (.struct fs) := by
  cases t <;> simp only [isAggT, Bool.false_eq_true] at ht <;> simp only [Desc, DG] at h
  all_goals first | exact ⟨_, h⟩ | (obtain ⟨_, h⟩ := h; exact ⟨_, h⟩) | (obtain ⟨_, h, _⟩ := h; exact ⟨_, h⟩) | (obtain ⟨_, _, h, _⟩ := h; exact ⟨_, h⟩)
theorem makeI_did {T : TypeId} {x : Operand} (hE : EnvOk τ P env) (ho : o.op = .makeInterface T x)
    (h : RelS τ cx S ds a.tmps w) (hl : opL env o (ds.map er) = some (cs, st')) : Did (τ := τ) P cx a o w st' := by
  simp only [opL, ho, Option.bind_eq_some_iff] at hl
  obtain ⟨⟨t, m⟩, hT, v, hv, hl⟩ := hl
  split at hl
  · rename_i hc
    obtain ⟨c1, c3⟩ := hc
    obtain ⟨hs, rfl⟩ := ret_some hl
    obtain ⟨_, d, hd, hh, hval⟩ := h.rdOp (a := a) rfl hv
    obtain ⟨t', m', x', sh⟩ := d
    simp only [DV.av] at hd
    subst hd
    simp only at c1
    subst c1
    obtain ⟨hagg, her⟩ := hE.er T _ _ c3 hT
    have he := her x' sh
    have hv2 : a.eval x = .agg (cells τ t x' sh).toArray := by rw [hval]; simp only [DV.val, DV.cells, valOf, hagg, if_true]
    rw [← hv2] at he
    obtain ⟨ds', q1, q2⟩ := h.setD (e := .av ⟨.e, .r, true, .iface T (a.eval x)⟩) (v := .iface T (a.eval x)) hs ⟨⟨_, rfl, .inr ⟨rfl, _, _, rfl, he⟩⟩, rfl⟩ (by simp [Ent.bl, DV.bl, bl]) (fun b hb => by simp [Ent.bl, DV.bl, bl] at hb)
    refine ⟨_, _, w, ds', S, ?_, ⟨.inl rfl, fun _ => rfl⟩, q1, q2⟩
    simp only [execOp, ho]
    refine run_value ?_
    obtain ⟨fs, hu⟩ := agg_struct hagg (hE.ty _ _ _ hT)
    unfold Instr.makeInterface
    simp only [Sem.run_bind, run_underlying hu, Result.andThen_ok, Sem.run_pure]
  · cases hl
end Lk
end
section
namespace Lk
open Go
variable {Kw : KW}
variable {τ : Ax} {cx : Cx Kw} {S : Nat → Prop} {ds : DSt} {w : World} {P : Program} {env : Env} {a : Act} {o : Oper} {cs : List Bool} {st' : St}
def compBl (o : Option DV) : List Nat := match o with | some d => d.bl | none => []
theorem tup_bl (vs : List (Option DV)) : (Ent.tup vs : Ent DV Nat).bl = (vs.map compBl).flatten := rfl
theorem tup_part {vs : List (Option DV)} {j : Nat} {d : DV} (h : vs[j]? = some (some d)) :
    ∃ R, (Ent.tup vs : Ent DV Nat).bl.Perm (d.bl ++ R) ∧ (Ent.tup (vs.set j none) : Ent DV Nat).bl.Perm R := by
  have hk := lt_of_get h
  have e1 : vs = vs.take j ++ some d :: vs.drop (j + 1) := by
    rw [List.getElem?_eq_getElem hk, Option.some.injEq] at h
    rw [← h, ← List.drop_eq_getElem_cons hk, List.take_append_drop]
  refine ⟨((vs.take j).map compBl).flatten ++ ((vs.drop (j + 1)).map compBl).flatten, ?_, ?_⟩
  · rw [tup_bl]
    conv => lhs; rw [e1]
    simp only [List.map_append, List.map_cons, List.flatten_append, List.flatten_cons, compBl]
    exact List.perm_append_comm_assoc ..
  · rw [tup_bl, List.set_eq_take_append_cons_drop, if_pos hk]
    simp only [List.map_append, List.map_cons, List.flatten_append, List.flatten_cons, compBl, List.nil_append]
    exact List.Perm.refl _
theorem extract_did {i j : Nat} (ho : o.op = .extract (.tmp i) j)
    (h : RelS τ cx S ds a.tmps w) (hl : opL env o (ds.map er) = some (cs, st')) : Did (τ := τ) P cx a o w st' := by
  simp only [opL, ho] at hl
  split at hl
  · rename_i vs hg
    obtain ⟨vs0, h0, rfl⟩ := er_tup hg
    split at hl
    · rename_i v hv
      rw [List.getElem?_map, Option.map_eq_some_iff] at hv
      obtain ⟨o0, hv0, hv1⟩ := hv
      cases o0 with
      | none => cases hv1
      | some d =>
        simp only [Option.map_some, Option.some.injEq] at hv1
        subst hv1
        obtain ⟨ws, q1, q2, q3⟩ := h.ok i _ h0
        obtain ⟨r1, r2⟩ := q3 j d hv0
        have hrun : (execOp a.eval o).run P w = .ok (.value (d.val τ)) w := by
          simp only [execOp, ho]
          refine run_value ?_
          simp only [Act.eval, q1, Instr.extract, r2]
          rfl
        split at hl
        · cases hl
        · rename_i hdi
          split at hl
          · rename_i hcp
            obtain ⟨hs, rfl⟩ := ret_some hl
            obtain ⟨ds', k1, k2⟩ := h.setD (e := .av d) (v := d.val τ) hs ⟨r1, rfl⟩ (by rw [show (Ent.av d : Ent DV Nat).bl = d.bl from rfl, show d.bl = [] from cp_bl _ _ _ _ hcp]; simp) (by rw [show (Ent.av d : Ent DV Nat).bl = d.bl from rfl, show d.bl = [] from cp_bl _ _ _ _ hcp]; simp)
            exact ⟨_, _, w, ds', S, hrun, ⟨.inl rfl, fun _ => rfl⟩, k1, k2⟩
          · obtain ⟨hs, rfl⟩ := ret_some hl
            obtain ⟨R, p1, p2⟩ := tup_part hv0
            obtain ⟨R2, s1, s2⟩ := set_perm ds _ _ h0
            let e2 : Ent DV Nat := .tup (vs0.set j none)
            have hbs : (blocks (ds.set i e2)).Perm (R ++ R2) := (s2 e2).trans (p2.append_right _)
            have hb0 : (blocks ds).Perm (d.bl ++ (R ++ R2)) := by
              refine s1.trans ?_
              rw [← List.append_assoc]
              exact p1.append_right _
            have hnd := hb0.nodup_iff.1 h.inv.nodup
            have hsub : ∀ b ∈ blocks (ds.set i e2), b ∈ blocks ds := fun b hb => hb0.symm.subset (by have := hbs.subset hb; simp only [List.mem_append] at this ⊢; exact .inr this)
            have h1 : RelS τ cx S (ds.set i e2) a.tmps w := by
              refine ⟨by simp [h.size], h.inv.fewer hsub (by rw [hbs.nodup_iff]; exact (List.nodup_append.1 hnd).2.1), fun k e' he => ?_⟩
              have hkeep : ∀ (s : Nat) (dd : DV), ds[s]? = some (Ent.av dd) → (ds.set i e2)[s]? = some (Ent.av dd) := fun s dd hd => by
                rw [List.getElem?_set]
                split
                · rename_i e1; subst e1; rw [h0] at hd; cases hd
                · exact hd
              rw [List.getElem?_set] at he
              split at he
              · split at he
                · rename_i e1 _; subst e1; cases he
                  refine ⟨ws, q1, by simpa using q2, fun j' d' hj' => ?_⟩
                  rw [List.getElem?_set] at hj'
                  split at hj'
                  · split at hj' <;> cases hj'
                  · exact q3 j' d' hj'
                · cases he
              · exact ok_roots (h.ok k _ he) (fun s dd _ hd => hkeep s dd hd)
            have hes : (ds.map er).set i (.tup ((vs0.map (Option.map DV.av)).set j none)) = (ds.set i e2).map er := by
              rw [List.map_set]
              congr 1
              simp only [e2, er, Ent.map, List.map_set]
              rfl
            rw [hes] at hs
            obtain ⟨ds', k1, k2⟩ := h1.setD (e := .av d) (v := d.val τ) hs ⟨r1, rfl⟩ (List.nodup_append.1 hnd).1 (fun b hb => by
              have hbB : b ∈ blocks ds := hb0.symm.subset (by simp [show b ∈ d.bl from hb])
              refine ⟨(h.inv.own b hbB).1, (h.inv.own b hbB).2, fun hS => (h.inv.sw b hS).2 hbB, fun hB => ?_⟩
              exact (List.nodup_append.1 hnd).2.2 b hb b (hbs.subset hB) rfl)
            exact ⟨_, _, w, ds', S, hrun, ⟨.inl rfl, fun _ => rfl⟩, k1, k2⟩
    · cases hl
  · cases hl
end Lk
end
section
namespace Lk
open Go
variable {Kw : KW}
variable {τ : Ax} {cx : Cx Kw} {S : Nat → Prop} {ds : DSt} {w : World} {P : Program} {env : Env} {a : Act} {o : Oper} {cs : List Bool} {st' : St}
theorem decode_lt (s : ByteArray) (i : Nat) : (Utf8.decode s i).1 < 2097152 := by
  unfold Utf8.decode
  simp only []
  split
  · rename_i h; simp only [Nat.add_zero] at *; omega
  · split
    · split
      · simp; omega
      · simp [Utf8.runeError]
    · split
      · split
        · simp; omega
        · simp [Utf8.runeError]
      · split
        · split
          · simp; omega
          · simp [Utf8.runeError]
        · simp [Utf8.runeError]
theorem hold_int {S Sb : Nat → Prop} {k : IntKind} {n : Int} (h : inR k n) : DV.hold τ S Sb w ⟨.i k, .r, n, ()⟩ := ⟨rfl, h⟩
theorem er_it {i : Nat} {x : List UInt8} {pos : Nat} (h : (ds.map er).getD i .dead = .it x pos ()) : ∃ b, ds[i]? = some (.it x pos b) := by
  rw [List.getD_eq_getElem?_getD, List.getElem?_map] at h
  cases h0 : ds[i]? with
  | none => rw [h0] at h; cases h
  | some e0 =>
    rw [h0] at h
    cases e0 <;> simp [er, Ent.map] at h
    obtain ⟨rfl, rfl⟩ := h
    exact ⟨_, rfl⟩
theorem next_did {t : Bool} {s1 s2 : Option St} (hl : nextL o (ds.map er) = some (t, s1, s2)) (h : RelS τ cx S ds a.tmps w) (hs : (if t then s1 else s2) = some st') : Did (τ := τ) P cx a o w st' := by
  unfold nextL at hl
  split at hl
  · rename_i i ho
    split at hl
    · rename_i x pos hg
      split at hl
      · cases hl
      · rename_i hdi
        simp only [Option.some.injEq, Prod.mk.injEq] at hl
        obtain ⟨rfl, rfl, rfl⟩ := hl
        obtain ⟨b, h0⟩ := er_it hg
        obtain ⟨q1, q2, q3⟩ := h.ok i _ h0
        have hbB : b ∈ blocks ds := mem_blocks h0 b (by simp [Ent.bl])
        have hbl := (h.inv.own b hbB).1
        have hev : a.eval (.tmp i) = .pointer (some ⟨b, 0, none⟩) := q1
        have hgo : ∀ (w : World), w.heap[b]? = some (.stringIter ⟨x.toArray⟩ pos) → (getObj b).run P w = .ok (.stringIter ⟨x.toArray⟩ pos) w := by
          intro w hw; simp [getObj, Sem.run, hw]
        by_cases hp : pos < x.length
        · simp only [hp, decide_true, if_true] at hs
          let w' : World := { w with heap := w.heap.setIfInBounds b (.stringIter ⟨x.toArray⟩ (pos + (Utf8.decode ⟨x.toArray⟩ pos).2)) }
          have hw'b : w'.heap[b]? = some (.stringIter ⟨x.toArray⟩ (pos + (Utf8.decode ⟨x.toArray⟩ pos).2)) := by
            simp only [w', Array.getElem?_setIfInBounds, if_true]
            rw [if_pos hbl]
          have hw'o : ∀ b', b' ≠ b → w'.heap[b']? = w.heap[b']? := by
            intro b' hb'
            simp only [w', Array.getElem?_setIfInBounds]
            rw [if_neg (fun e => hb' e.symm)]
          have h1 := h.away h0 (by intro d e; cases e)
          obtain ⟨R, p1, p2⟩ := set_perm ds _ _ h0
          have hnd := p1.nodup_iff.1 h.inv.nodup
          have hnb : b ∉ blocks (ds.set i .dead) := fun hb => by
            have := (p2 .dead).subset hb
            simp only [Ent.bl, List.nil_append] at this
            exact (List.nodup_append.1 hnd).2.2 b (by simp [Ent.bl]) b this rfl
          have hext : Ext [b] w w' := ⟨rfl, rfl, rfl, by simp [w'], fun b' _ hn => hw'o b' (by simpa using hn)⟩
          have h2 := h1.chg hext (fun b' hb' => by
            simp only [List.mem_singleton] at hb'
            subst hb'
            exact ⟨hnb, fun hS => (h.inv.sw _ hS).2 hbB, (h.inv.own _ hbB).2⟩)
          -- the iterator comes back
          let e2 : Ent DV Nat := .it x (pos + (Utf8.decode ⟨x.toArray⟩ pos).2) b
          have hbs : (blocks (ds.set i e2)).Perm (blocks ds) := (p2 e2).trans p1.symm
          have h3 : RelS τ cx S (ds.set i e2) a.tmps w' := by
            refine ⟨by simp [h.size], ⟨h2.inv.ext, h2.inv.s0, h2.inv.s1, fun b' hb' => ⟨(h2.inv.sw b' hb').1, fun hc => (h.inv.sw b' hb').2 (hbs.subset hc)⟩, fun b' hb' => ⟨by simp only [w', Array.size_setIfInBounds]; exact (h.inv.own b' (hbs.subset hb')).1, (h.inv.own b' (hbs.subset hb')).2⟩, by rw [hbs.nodup_iff]; exact h.inv.nodup⟩, fun k e' he => ?_⟩
            rw [List.getElem?_set] at he
            split at he
            · split at he
              · rename_i e1 _; subst e1; cases he
                exact ⟨q1, hw'b, q3⟩
              · cases he
            · rename_i hne
              refine ok_roots (h2.ok k e' (by rw [List.getElem?_set_ne hne]; exact he)) (fun s dd _ hd => ?_)
              rw [List.getElem?_set] at hd ⊢
              split at hd
              · split at hd <;> cases hd
              · rename_i hne2; rw [if_neg hne2]; exact hd
          have hes : (ds.map er).set i (.it x (pos + (Utf8.decode ⟨x.toArray⟩ pos).2) ()) = (ds.set i e2).map er := by
            rw [List.map_set]; rfl
          rw [hes] at hs
          have hd := decode_lt ⟨x.toArray⟩ pos
          obtain ⟨ds', k1, k2⟩ := h3.setD (e := .tup [some ⟨.b, .r, true, ()⟩, some ⟨.i .i64, .r, (pos : Int), ()⟩, some ⟨.i .i32, .r, ((Utf8.decode ⟨x.toArray⟩ pos).1 : Int), ()⟩])
            (v := .tuple #[.bool true, .int .i64 pos, .int .i32 (Utf8.decode ⟨x.toArray⟩ pos).1]) hs
            ⟨_, rfl, rfl, fun j d hj => by
              match j, hj with
              | 0, hj => simp at hj; subst hj; exact ⟨by simp [DV.hold, hold, Rd, cells], rfl⟩
              | 1, hj => simp at hj; subst hj; exact ⟨hold_int (by simp only [inR, kmin, kmax, big] at *; omega), rfl⟩
              | 2, hj => simp at hj; subst hj; exact ⟨hold_int (by simp only [inR, kmin, kmax]; omega), rfl⟩⟩
            (by simp [Ent.bl, DV.bl, bl]) (by simp [Ent.bl, DV.bl, bl])
          refine ⟨_, _, w', ds', S, ?_, ⟨.inl rfl, fun hst => by simp [still, *] at hst⟩, k1, k2⟩
          simp only [execOp, ho]
          refine run_value ?_
          rw [hev]
          unfold Instr.next
          simp only [Sem.run_bind, hgo w q2, Result.andThen_ok]
          rw [if_pos (by rw [size_mk]; exact hp)]
          have hset : (setObj b (.stringIter ⟨x.toArray⟩ (pos + (Utf8.decode ⟨x.toArray⟩ pos).2))).run P w = .ok () w' := by
            simp [setObj, Sem.run, q2, w']
          simp only [Sem.run_bind, hset, Result.andThen_ok]
          rfl
        · simp only [hp, decide_false, Bool.false_eq_true, if_false] at hs
          obtain ⟨ds', k1, k2⟩ := h.setD (e := .tup [some ⟨.b, .r, false, ()⟩]) (v := .tuple #[.bool false]) hs
            ⟨_, rfl, rfl, fun j d hj => by
              match j, hj with
              | 0, hj => simp at hj; subst hj; exact ⟨by simp [DV.hold, hold, Rd, cells], rfl⟩⟩
            (by simp [Ent.bl, DV.bl, bl]) (by simp [Ent.bl, DV.bl, bl])
          refine ⟨_, _, w, ds', S, ?_, ⟨.inl rfl, fun _ => rfl⟩, k1, k2⟩
          simp only [execOp, ho]
          refine run_value ?_
          rw [hev]
          unfold Instr.next
          simp only [Sem.run_bind, hgo w q2, Result.andThen_ok]
          rw [if_neg (by rw [size_mk]; exact hp)]
          rfl
    · cases hl
  · cases hl
end Lk
end
section
namespace Lk
open Go
variable {Kw : KW}
variable {τ : Ax} {cx : Cx Kw} {S : Nat → Prop} {ds : DSt} {w : World} {P : Program} {env : Env} {a : Act} {o : Oper} {cs : List Bool} {st' : St}
theorem foldl_set (vs : List Value) : ∀ (k : Nat) (off : Nat) (cs : Array Value), off + k + vs.length ≤ cs.size →
    ((vs.zipIdx k).foldl (fun cs (cj : Value × Nat) => cs.setIfInBounds (off + cj.2) cj.1) cs).toList = splice cs.toList (off + k) vs := by
  induction vs with
  | nil => intro k off cs h; simp [splice]
  | cons v vs ih =>
    intro k off cs h
    simp only [List.length_cons] at h
    simp only [List.zipIdx_cons, List.foldl_cons]
    rw [ih (k + 1) off _ (by simp; omega)]
    simp only [Array.toList_setIfInBounds]
    apply List.ext_getElem?
    intro j
    have l1 : (cs.toList.set (off + k) v).length = cs.size := by simp
    have e1 := splice_get (cs.toList.set (off + k) v) (off + (k + 1)) vs j (by rw [l1]; omega)
    have e2 := splice_get cs.toList (off + k) (v :: vs) j (by simp; omega)
    rw [e1, e2, List.getElem?_set]
    simp only [List.length_cons, Array.length_toList]
    by_cases c1 : j < off + k
    · rw [if_pos (show j < off + (k + 1) by omega), if_pos c1, if_neg (show ¬ (off + k = j) by omega)]
    · rw [if_neg c1]
      by_cases c2 : j = off + k
      · subst c2
        rw [if_pos (show off + k < off + (k + 1) by omega), if_pos (rfl : off + k = off + k), if_pos (show off + k < cs.size by omega), if_pos (show off + k < off + k + (vs.length + 1) by omega)]
        simp
      · rw [if_neg (show ¬ j < off + (k + 1) by omega)]
        by_cases c3 : j < off + k + (vs.length + 1)
        · rw [if_pos (show j < off + (k + 1) + vs.length by omega), if_pos c3]
          have : j - (off + k) = (j - (off + (k + 1))) + 1 := by omega
          rw [this]; simp
        · rw [if_neg (show ¬ j < off + (k + 1) + vs.length by omega), if_neg c3, if_neg (show ¬ (off + k = j) by omega)]
theorem fill_ok (n size : Nat) : ∀ (vals : List Value) (k : Nat) (cs : Array Value), cs.size = n * size → k + vals.length ≤ n → (∀ v ∈ vals, v.cells.size = size) →
    ∃ cs', Instr.fill (fun i => some (i * size, size)) cs ((vals.zipIdx k).map fun vi => (vi.2, vi.1)) = some cs' ∧ cs'.size = n * size ∧
      (∀ j, j < k → win cs'.toList (j * size) size = win cs.toList (j * size) size) ∧ ∀ (j : Nat) (v : Value), vals[j]? = some v → win cs'.toList ((k + j) * size) size = v.cells.toList
  | [], k, cs, hs, _, _ => ⟨cs, rfl, hs, fun _ _ => rfl, by simp⟩
  | v :: vals, k, cs, hs, hk, hv => by
    simp only [List.length_cons] at hk
    have hvs := hv v (by simp)
    have hk1 : k * size + size ≤ n * size := by rw [← Nat.succ_mul]; exact Nat.mul_le_mul_right _ (by omega)
    let cs1 := v.cells.zipIdx.foldl (fun cs (cj : Value × Nat) => cs.setIfInBounds (k * size + cj.2) cj.1) cs
    have hcs1 : cs1.toList = splice cs.toList (k * size) v.cells.toList := by
      have := foldl_set v.cells.toList 0 (k * size) cs (by simp; omega)
      simp only [cs1]
      rw [← Array.foldl_toList, Array.toList_zipIdx]
      simpa using this
    have hl1 : cs1.size = n * size := by
      have := splice_length cs.toList (k * size) v.cells.toList (by simp; omega)
      rw [← hcs1] at this
      simpa [hs] using this
    obtain ⟨cs', g1, g2, g3, g4⟩ := fill_ok n size vals (k + 1) cs1 hl1 (by omega) (fun u hu => hv u (by simp [hu]))
    refine ⟨cs', ?_, g2, fun j hj => ?_, fun j u hu => ?_⟩
    · simp only [List.zipIdx_cons, List.map_cons, Instr.fill]
      rw [if_neg (by simp only [hvs, hs, ne_eq, not_true, decide_false, Bool.false_or, decide_eq_true_eq]; omega)]
      exact g1
    · rw [g3 j (by omega), hcs1]
      refine win_splice_other _ _ _ _ _ (by simp; omega) (.inl ?_)
      rw [← Nat.succ_mul]; exact Nat.mul_le_mul_right _ hj
    · cases j with
      | zero =>
        simp only [List.getElem?_cons_zero, Option.some.injEq] at hu
        subst hu
        rw [Nat.add_zero, g3 k (by omega), hcs1]
        have := win_splice_same cs.toList (k * size) v.cells.toList (by simp; omega)
        simpa [hvs] using this
      | succ j =>
        have := g4 j u (by simpa using hu)
        rwa [show k + 1 + j = k + (j + 1) by omega] at this
theorem parts_ok {T : TypeId} {t : Ty} (h : RelS τ cx S ds a.tmps w) (hf : flat t = true) : ∀ (ps : List (Nat × Operand)) (n : Nat) (r : List (E t)), parts env (ds.map er) T t ps n = some r →
    ∃ vals : List Value, ps.map (fun p => (p.1, a.eval p.2)) = (vals.zipIdx n).map (fun vi => (vi.2, vi.1)) ∧ vals.length = r.length ∧ (∀ v ∈ vals, v.cells.size = csz t) ∧
      ∀ (j : Nat) (v : Value) (x : E t), vals[j]? = some v → r[j]? = some x → Rd τ S w t x v.cells.toList
  | [], n, r, hp => by cases hp; exact ⟨[], rfl, rfl, by simp, by simp⟩
  | (i, x) :: ps, n, r, hp => by
    simp only [parts] at hp
    split at hp
    · rename_i hin
      subst hin
      rw [Option.bind_eq_some_iff] at hp
      obtain ⟨v, hv, hp⟩ := hp
      split at hp
      · rename_i ht
        split at hp
        · rename_i hcp
          rw [Option.map_eq_some_iff] at hp
          obtain ⟨r', hr', rfl⟩ := hp
          obtain ⟨vals, g1, g2, g3, g4⟩ := parts_ok h hf ps (i + 1) r' hr'
          have hIs : Is (τ := τ) cx S w v (a.eval x) := by
            split at hv
            · exact h.look hv
            · exact is_const hv
            · cases hv
          obtain ⟨_, d, rfl, hd, hval⟩ := hIs
          obtain ⟨t0, m0, x0, sh⟩ := d
          have ht' : t0 = t := ht
          subst ht'
          have hrd := flat_rd (S' := S) (w' := w) _ _ _ _ hf (cp_nh _ _ hcp) hd
          have hlen := cells_length τ t0 x0 sh
          have hpl := Rd_plain _ _ _ hrd
          have hcl : (a.eval x).cells.toList = cells τ t0 x0 sh := by rw [hval]; exact val_cells hlen hpl
          show ∃ vals : List Value, _ ∧ vals.length = (x0 :: r').length ∧ _ ∧ ∀ (j : Nat) (v : Value) (x : E t0), vals[j]? = some v → (x0 :: r')[j]? = some x → _
          refine ⟨a.eval x :: vals, ?_, by simp [g2], ?_, fun j u y hu hy => ?_⟩
          · simp only [List.map_cons, List.zipIdx_cons, g1]
          · intro u hu
            rcases List.mem_cons.1 hu with rfl | hu
            · rw [← Array.length_toList, hcl, hlen]
            · exact g3 u hu
          · cases j with
            | zero =>
              simp only [List.getElem?_cons_zero, Option.some.injEq] at hu hy
              subst hu; subst hy
              rw [hcl]; exact hrd
            | succ j => exact g4 j u y (by simpa using hu) (by simpa using hy)
        · cases hp
      · cases hp
    · cases hp
theorem partsO_ok {t : Ty} {m : Md} : ∀ (ps : List (Nat × Operand)) (n : Nat) (ds : DSt) (r : List (E t)) (st1 : St), RelS τ cx S ds a.tmps w → partsO (ds.map er) t m ps n = some (r, st1) →
    ∃ (ds1 : DSt) (zs : List (Sh t)) (vals : List Value), st1 = ds1.map er ∧ RelS τ cx S ds1 a.tmps w ∧ zs.length = r.length ∧ vals.length = r.length ∧ ps.map (fun p => (p.1, a.eval p.2)) = (vals.zipIdx n).map (fun vi => (vi.2, vi.1)) ∧
      (∀ (j : Nat) (v : Value) (y : E t) (z : Sh t), vals[j]? = some v → r[j]? = some y → zs[j]? = some z → v.cells.toList = cells τ t y z ∧ hold τ S (fun b => S b ∨ cx.Sb b) w t m y z) ∧
      ((List.zipWith (fun y z => bl t m y z) r zs).flatten).Nodup ∧ (∀ b ∈ (List.zipWith (fun y z => bl t m y z) r zs).flatten, b ∉ blocks ds1 ∧ ¬ (S b ∨ cx.Sb b) ∧ b < w.heap.size ∧ (b ∈ cx.B0 ∨ cx.w0.heap.size ≤ b)) ∧
      (∀ b ∈ (List.zipWith (fun y z => bl t m y z) r zs).flatten, b ∈ blocks ds) ∧ (∀ b ∈ blocks ds1, b ∈ blocks ds)
  | [], n, ds, r, st1, h, hp => by
    simp only [partsO, Option.some.injEq, Prod.mk.injEq] at hp
    obtain ⟨rfl, rfl⟩ := hp
    exact ⟨ds, [], [], rfl, h, rfl, rfl, rfl, by simp, by simp, by simp, by simp, fun _ h => h⟩
  | (i, x) :: ps, n, ds, r, st1, h, hp => by
    simp only [partsO] at hp
    split at hp
    case isFalse => cases hp
    rename_i hin
    subst hin
    rw [Option.bind_eq_some_iff] at hp
    obtain ⟨⟨u, st2⟩, hg, hp⟩ := hp
    simp only at hp
    split at hp
    case isFalse => cases hp
    rename_i ht
    split at hp
    case isFalse => cases hp
    rename_i hm
    rw [Option.map_eq_some_iff] at hp
    obtain ⟨⟨r', st3⟩, hp, e⟩ := hp
    cases e
    obtain ⟨ds0, nv0, rfl, hR1, n0, n1, n2, n3, _, n5, n6, n7⟩ := h.given (fun c u hc => ⟨_, _, hc⟩) hg
    obtain ⟨nv, q0, q1, q2, q3, q4, q5⟩ := fit_ok (m := m) n0 n1 n3
    obtain ⟨ds1, zs, vals, g1, g2, g3, g4, g5, g6, g7, g8, g9, g10⟩ := partsO_ok ps (i + 1) ds0 r' _ hR1 hp
    have hvc : (a.eval x).cells.toList = nv.cells τ := by
      have : a.eval x = valOf nv.t (nv.cells τ) := by rw [n2, q2, q3]; rfl
      rw [this]
      exact val_cells (cells_length τ _ _ _) (by rw [q2]; exact n5)
    have hbd : ∀ b ∈ nv.bl, b ∈ blocks ds := fun b hb => n7 b (q5 b hb)
    rw [← q0] at ht hm
    obtain ⟨t', m', y, sh⟩ := nv
    have ht' : t' = t := ht
    have hm' : m' = m := hm
    subst ht'; subst hm'
    have hy : ∀ (hh : (fitM u m').t = t'), (hh ▸ (fitM u m').x : E t') = y := by
      rw [← q0]; intro _; rfl
    refine ⟨ds1, sh :: zs, a.eval x :: vals, g1, g2, by simp [g3], by simp [g4], ?_, ?_, ?_, ?_, ?_, fun b hb => n6 b (g10 b hb)⟩
    · simp only [List.map_cons, List.zipIdx_cons, g5]
    · intro j v y' z hv hy' hz
      cases j with
      | zero =>
        simp only [List.getElem?_cons_zero, Option.some.injEq] at hv hy' hz
        subst hv; subst hz
        rw [hy] at hy'; subst hy'
        exact ⟨hvc, q1⟩
      | succ j => exact g6 j v y' z (by simpa using hv) (by simpa using hy') (by simpa using hz)
    · rw [hy, List.zipWith_cons_cons, List.flatten_cons, List.nodup_append]
      refine ⟨q4.nodup, g7, fun b hb c hc e => ?_⟩
      subst e
      exact (q4.free b hb).1 (g9 b hc)
    · rw [hy, List.zipWith_cons_cons, List.flatten_cons]
      intro b hb
      rcases List.mem_append.1 hb with hb | hb
      · have := q4.free b hb
        exact ⟨fun hx => this.1 (g10 b hx), this.2⟩
      · exact g8 b hb
    · rw [hy, List.zipWith_cons_cons, List.flatten_cons]
      intro b hb
      rcases List.mem_append.1 hb with hb | hb
      · exact hbd b hb
      · exact n6 b (g9 b hb)
theorem run_buildSlice' {T e : TypeId} {n : Nat} {i : TypeInfo} {z : Value} {t : Ty} {ps : Array (Nat × Operand)} {vals : List Value} {cs' : Array Value} (f1 : P.underlying T = some (.slice e)) (f2 : P.info? e = some i) (f3 : i.size = csz t) (f4 : i.zero = some z) (hmax : n * csz t ≤ 16777216)
    (g1 : ps.toList.map (fun p => (p.1, a.eval p.2)) = (vals.zipIdx 0).map (fun vi => (vi.2, vi.1)))
    (q1 : Instr.fill (fun i => some (i * csz t, csz t)) ((Array.range (n * csz t)).map ((if n * csz t = 0 then #[] else z.cells : Array Value)[· % (if n * csz t = 0 then #[] else z.cells : Array Value).size]!)) ((vals.zipIdx 0).map fun vi => (vi.2, vi.1)) = some cs') :
    (Instr.buildSlice T n (ps.map fun p => (p.1, a.eval p.2))).run P w = .ok (.slice (some ⟨w.heap.size, 0, none⟩) n n) { w with heap := w.heap.push (.cells cs' e) } := by
  unfold Instr.buildSlice
  have hps : (ps.map fun p => (p.1, a.eval p.2)).toList = (vals.zipIdx 0).map (fun vi => (vi.2, vi.1)) := by
    rw [Array.toList_map]; exact g1
  simp only [Sem.run_bind, run_underlying f1, Result.andThen_ok, run_sizeOf f2, f3]
  rw [if_neg (by omega)]
  by_cases h0 : n * csz t = 0
  · rw [if_pos h0]
    simp only [Sem.run_bind, Sem.run_pure, Result.andThen_ok]
    simp only [if_pos h0] at q1
    rw [hps, q1]
    rfl
  · rw [if_neg h0]
    simp only [Sem.run_bind, Sem.run_pure, Result.andThen_ok, run_zero f2 f4]
    simp only [if_neg h0] at q1
    rw [hps, q1]
    rfl
theorem buildSliceO_did {T : TypeId} {n : Nat} {ps : Array (Nat × Operand)} {t : Ty} {m : Md} (hE : EnvOk τ P env) (ho : o.op = .buildSlice T n ps) (hT : env.ty T = some (.l t, .o m)) (hfl : flat t = false)
    (h : RelS τ cx S ds a.tmps w) (hl : opL env o (ds.map er) = some (cs, st')) : Did (τ := τ) P cx a o w st' := by
  simp only [opL, ho, hT, hfl, cond_false, Option.bind_eq_some_iff] at hl
  obtain ⟨⟨r, st1⟩, hr, hl⟩ := hl
  split at hl
  case isFalse => cases hl
  rename_i hcond
  obtain ⟨hrn, hmn, hmax⟩ := hcond
  have hrn : r.length = n := hrn
  obtain ⟨hs, rfl⟩ := ret_some hl
  have hd := hE.ty _ _ _ hT
  simp only [Desc, DG] at hd
  obtain ⟨e, i, z, f1, f2, f3, f4, f5, f6⟩ := hd
  obtain ⟨ds1, zs, vals, rfl, g2, g3, g4, g5, g6, g7, g8, _, _⟩ := partsO_ok ps.toList 0 ds r st1 h hr
  let zero : Array Value := if n * csz t = 0 then #[] else z.cells
  let base : Array Value := (Array.range (n * csz t)).map (zero[· % zero.size]!)
  have hbase : base.size = n * csz t := by simp [base]
  have hvs : ∀ v ∈ vals, v.cells.size = csz t := by
    intro v hv
    obtain ⟨j, hj⟩ := List.mem_iff_getElem?.1 hv
    have hjl := lt_of_get hj
    have := (g6 j v _ _ hj (List.getElem?_eq_getElem (by omega)) (List.getElem?_eq_getElem (by omega))).1
    rw [← Array.length_toList, this]; exact cells_length τ _ _ _
  obtain ⟨cs', q1, q2, _, q4⟩ := fill_ok n (csz t) vals 0 base hbase (by omega) hvs
  let w' : World := { w with heap := w.heap.push (.cells cs' e) }
  have hg : Grows w w' := Grows.push w _
  have hrun := run_buildSlice' (w := w) (P := P) (a := a) f1 f2 f3 f4 hmax g5 q1
  have hR := g2.grows hg
  obtain ⟨ds', u1, u2⟩ := hR.setD (e := .av ⟨.l t, .o m, r, ⟨.slice (some ⟨w.heap.size, 0, none⟩) n n, w.heap.size, 0, cs'.toList, e, (0, 0), zs⟩⟩) (v := .slice (some ⟨w.heap.size, 0, none⟩) n n) hs
    (by
      refine ⟨.inr ⟨n, by rw [hrn], g3, (show r.length ≤ n by omega), by simp only [big]; omega, by simp [q2], by simp [w'], thaw_zero _, fun j y z' hy hz => ?_⟩, rfl⟩
      have hj : j < r.length := lt_of_get hy
      have hv : vals[j]? = some vals[j] := List.getElem?_eq_getElem (by omega)
      obtain ⟨k1, k2⟩ := g6 j _ y z' hv hy hz
      have := q4 j _ hv
      rw [Nat.zero_add] at this
      refine ⟨by rw [Nat.zero_add, this, k1], hold_keep τ (fun b hb => ⟨hb, hg.block b (g2.inv.sw b (.inl hb)).1⟩) (fun b hb => ⟨hb, hg.block b (g2.inv.sw b hb).1⟩) _ _ _ _ (fun b hb => hg.block b (g8 b (zip_flatten_mem hy hz hb)).2.2.1) k2⟩)
    (by
      show (w.heap.size :: (List.zipWith (fun y z => bl t m y z) r zs).flatten).Nodup
      refine List.nodup_cons.2 ⟨fun hb => ?_, g7⟩
      have := (g8 _ hb).2.2.1
      omega)
    (fun b hb => by
      have hb' : b ∈ w.heap.size :: (List.zipWith (fun y z => bl t m y z) r zs).flatten := hb
      rcases List.mem_cons.1 hb' with rfl | hb'
      · refine ⟨by simp [w'], .inr g2.inv.ext.size, fun hS => ?_, fun hB => ?_⟩
        · have := (g2.inv.sw _ hS).1; omega
        · have := (g2.inv.own _ hB).1; omega
      · have := g8 b hb'
        exact ⟨Nat.lt_of_lt_of_le this.2.2.1 hg.size, this.2.2.2, this.2.1, this.1⟩)
  refine ⟨_, _, w', ds', S, ?_, ⟨.inl rfl, fun hst => by simp [still, *] at hst⟩, u1, u2⟩
  simp only [execOp, ho]
  exact run_value hrun
theorem buildSlice_core {T : TypeId} {n : Nat} {ps : Array (Nat × Operand)} (hE : EnvOk τ P env) (ho : o.op = .buildSlice T n ps)
    {t : Ty} {m : Md} (hT : env.ty T = some (.l t, .o m)) (hfl : flat t = true)
    (h : RelS τ cx S ds a.tmps w) (hl : opL env o (ds.map er) = some (cs, st')) :
    ∃ (v : Value) (w' : World) (ds' : DSt), (execOp a.eval o).run P w = .ok (.value v) w' ∧ st' = ds'.map er ∧ RelS τ cx S ds' (a.put o.dst v).tmps w' ∧ Grows w w' := by
    simp only [opL, ho, hT] at hl
    rw [hfl] at hl
    simp only [cond_true] at hl
    rw [Option.bind_eq_some_iff] at hl
    obtain ⟨r, hr, hl⟩ := hl
    split at hl
    · rename_i hcond
      obtain ⟨hrn, hmn, hmax, hf⟩ := hcond
      obtain ⟨hs, rfl⟩ := ret_some hl
      have hd := hE.ty _ _ _ hT
      simp only [Desc, DG] at hd
      obtain ⟨e, i, z, f1, f2, f3, f4, f5, f6⟩ := hd
      obtain ⟨vals, g1, g2, g3, g4⟩ := parts_ok h hfl ps.toList 0 r hr
      let zero : Array Value := if n * csz t = 0 then #[] else z.cells
      let base : Array Value := (Array.range (n * csz t)).map (zero[· % zero.size]!)
      have hbase : base.size = n * csz t := by simp [base]
      obtain ⟨cs', q1, q2, _, q4⟩ := fill_ok n (csz t) vals 0 base hbase (by omega) g3
      let w' : World := { w with heap := w.heap.push (.cells cs' e) }
      have hg : Grows w w' := Grows.push w _
      obtain ⟨sh, k1, k2, k3⟩ := flat_row (τ := τ) (S := S) (Sb := fun b => S b ∨ cx.Sb b) (w := w') (t := t) (m := m) (x := r) (b := w.heap.size) (off := 0) (cap := n)
        (C := cs'.toList) (e := e) (f := (0, 0)) hfl (by simp [w']) (thaw_zero _) (by omega) (by simp only [big]; omega) (by simp [q2]) (fun j y hy => by
          have hj := lt_of_get hy
          have hv : vals[j]? = some vals[j] := List.getElem?_eq_getElem (by omega)
          have := q4 j _ hv
          rw [Nat.zero_add] at this ⊢
          rw [this]
          exact Rd_keep τ (fun b hb => ⟨hb, hg.block b (h.inv.sw b (.inl hb)).1⟩) _ _ _ (g4 j _ y hv hy))
      obtain ⟨ds', u1, u2⟩ := h.fresh (d := ⟨.l t, .o m, r, sh⟩) (n := w.heap.size) hg hs rfl k1 (.inl k2) ⟨Nat.le_refl _, by simp [w']⟩
      have hv : DV.val τ ⟨.l t, .o m, r, sh⟩ = .slice (some ⟨w.heap.size, 0, none⟩) n n := by
        simp [DV.val, DV.cells, cells, valOf, isAggT, k3, hrn]
      refine ⟨_, w', ds', ?_, u1, by rw [hv] at u2; exact u2, hg⟩
      simp only [execOp, ho]
      refine run_value ?_
      unfold Instr.buildSlice
      have hps : (ps.map fun p => (p.1, a.eval p.2)).toList = (vals.zipIdx 0).map (fun vi => (vi.2, vi.1)) := by
        rw [Array.toList_map]; exact g1
      simp only [Sem.run_bind, run_underlying f1, Result.andThen_ok, run_sizeOf f2, f3]
      rw [if_neg (by omega)]
      by_cases h0 : n * csz t = 0
      · have hz0 : zero = #[] := if_pos h0
        have hb : base = (Array.range (n * csz t)).map (fun x => (#[] : Array Value)[x % (#[] : Array Value).size]!) := by simp only [base, hz0]
        rw [if_pos h0]
        simp only [Sem.run_bind, Sem.run_pure, Result.andThen_ok]
        rw [← hb, hps, q1]
        rfl
      · have hz0 : zero = z.cells := if_neg h0
        have hb : base = (Array.range (n * csz t)).map (fun x => z.cells[x % z.cells.size]!) := by simp only [base, hz0]
        rw [if_neg h0]
        simp only [Sem.run_bind, Sem.run_pure, Result.andThen_ok, run_zero f2 f4]
        rw [← hb, hps, q1]
        rfl
    · cases hl
theorem buildSlice_did {T : TypeId} {n : Nat} {ps : Array (Nat × Operand)} (hE : EnvOk τ P env) (ho : o.op = .buildSlice T n ps)
    (h : RelS τ cx S ds a.tmps w) (hl : opL env o (ds.map er) = some (cs, st')) : Did (τ := τ) P cx a o w st' := by
  have hl' := hl
  simp only [opL, ho] at hl
  split at hl
  · rename_i t m hT
    cases hfl : flat t with
    | false => exact buildSliceO_did hE ho hT hfl h (by simp only [opL, ho, hT]; exact hl)
    | true =>
      obtain ⟨v, w', ds', h1, h2, h3, _⟩ := buildSlice_core hE ho hT hfl h hl'
      exact ⟨_, v, w', ds', S, h1, ⟨.inl rfl, fun hst => by simp [still, *] at hst⟩, h2, h3⟩
  · cases hl
end Lk
end
section
/-! L: structs and pointers. -/
namespace Lk
open Go
variable {Kw : KW}
variable {τ : Ax} {cx : Cx Kw} {S : Nat → Prop} {ds : DSt} {w : World} {P : Program} {env : Env} {a : Act} {o : Oper} {cs : List Bool} {st' : St}
def zsh : (t : Ty) → Sh t
  | .c a r => (zsh a, zsh r) | .l _ => ⟨.slice none 0 0, 0, 0, [], 0, (0, 0), []⟩ | .p _ => none
  | .i _ => () | .by => () | .b => () | .s => () | .u => () | .e => .nilIface | .a _ => (.pointer none, []) | .z _ => ()
theorem zc_cells : ∀ t : Ty, cells τ t (dflt t) (zsh t) = zc t := by
  intro t
  induction t with
  | c a r iha ihr => simp only [cells, dflt, zsh, zc, iha, ihr]
  | _ => rfl
theorem zero_rd {S : Nat → Prop} : ∀ t : Ty, Rd τ S w t (dflt t) (zc t) := by
  intro t
  induction t with
  | c a r iha ihr => exact ⟨_, _, rfl, iha, ihr⟩
  | i k => exact ⟨rfl, by cases k <;> exact ⟨by decide, by decide⟩⟩
  | e => exact ⟨.nilIface, rfl, .inl ⟨rfl, rfl⟩⟩
  | s => exact ⟨rfl, by simp [big]⟩
  | l t ih => exact ⟨none, 0, rfl, Nat.le_refl _, by simp [big], fun _ => rfl, .inl rfl⟩
  | a n => exact ⟨_, [], rfl, by simp, rfl, rfl⟩
  | _ => rfl
theorem zero_hold {S Sb : Nat → Prop} : ∀ (t : Ty) (m : Md), hold τ S Sb w t m (dflt t) (zsh t) := by
  intro t
  induction t with
  | c a r iha ihr =>
    intro m
    have h := fun S => zero_rd (τ := τ) (w := w) (S := S) (.c a r)
    rw [← zc_cells (τ := τ)] at h
    cases m with
    | q m n => exact ⟨iha m, ihr n⟩
    | h => trivial
    | _ => exact h _
  | l t ih =>
    intro m
    have h := fun S => zero_rd (τ := τ) (w := w) (S := S) (.l t)
    rw [← zc_cells (τ := τ)] at h
    cases m with
    | o m => exact .inl ⟨rfl, rfl⟩
    | h => trivial
    | _ => exact h _
  | p t ih =>
    intro m
    have h := fun S => zero_rd (τ := τ) (w := w) (S := S) (.p t)
    rw [← zc_cells (τ := τ)] at h
    cases m with
    | o m => trivial
    | h => trivial
    | _ => exact h _
  | a n =>
    intro m
    have h := fun S => zero_rd (τ := τ) (w := w) (S := S) (.a n)
    rw [← zc_cells (τ := τ)] at h
    cases m with
    | o m => exact ⟨rfl, rfl⟩
    | h => trivial
    | _ => exact h _
  | i k =>
    intro m
    have h := fun S => zero_rd (τ := τ) (w := w) (S := S) (.i k)
    cases m <;> first | trivial | exact h _
  | «by» => intro m; have h := fun S => zero_rd (τ := τ) (w := w) (S := S) .by; cases m <;> first | trivial | exact h _
  | b => intro m; have h := fun S => zero_rd (τ := τ) (w := w) (S := S) .b; cases m <;> first | trivial | exact h _
  | s => intro m; have h := fun S => zero_rd (τ := τ) (w := w) (S := S) .s; cases m <;> first | trivial | exact h _
  | u => intro m; have h := fun S => zero_rd (τ := τ) (w := w) (S := S) .u; cases m <;> first | trivial | exact h _
  | e => intro m; have h := fun S => zero_rd (τ := τ) (w := w) (S := S) .e; cases m <;> first | trivial | exact h _
  | z k => intro m; have h := fun S => zero_rd (τ := τ) (w := w) (S := S) (.z k); cases m <;> first | trivial | exact h _
theorem zero_bl : ∀ (t : Ty) (m : Md), bl t m (dflt t) (zsh t) = [] := by
  intro t
  induction t with
  | c a r iha ihr => intro m; cases m <;> simp [bl, dflt, zsh, iha, ihr]
  | _ => intro m; cases m <;> rfl
theorem run_newVar {T : TypeId} {v : Value} : (do pure (.pointer (some (← newVar T v))) : Sem Value).run P w = .ok (.pointer (some ⟨w.heap.size, 0, none⟩)) { w with heap := w.heap.push (.cells v.cells T) } := rfl
theorem alloc_did {T : TypeId} (hE : EnvOk τ P env) (ho : o.op = .alloc T)
    (h : RelS τ cx S ds a.tmps w) (hl : opL env o (ds.map er) = some (cs, st')) : Did (τ := τ) P cx a o w st' := by
  simp only [opL, ho, Option.bind_eq_some_iff] at hl
  obtain ⟨⟨t, m⟩, htm, hl⟩ := hl
  obtain ⟨hs, rfl⟩ := ret_some hl
  obtain ⟨i, z, hi, hz, hzc⟩ := hE.zero _ _ _ htm
  let w' : World := { w with heap := w.heap.push (.cells z.cells T) }
  have hrun : (execOp a.eval o).run P w = .ok (.value (.pointer (some ⟨w.heap.size, 0, none⟩))) w' := by
    simp only [execOp, ho]
    refine run_value ?_
    unfold Instr.alloc
    rw [Sem.run_bind, run_zero hi hz, Result.andThen_ok]
    exact run_newVar
  obtain ⟨ds', q1, q2⟩ := h.fresh (d := ⟨.p t, .o (qmd t), some (dflt t), some ⟨w.heap.size, T, (0, 0), zsh t⟩⟩) (n := w.heap.size) (w' := w') (Grows.push w _) hs rfl
    (by
      refine ⟨?_, thaw_zero _, zero_hold _ _⟩
      rw [zc_cells, ← hzc]
      simp [w']) (.inl (by show _ :: bl t (qmd t) (dflt t) (zsh t) = _; rw [zero_bl])) ⟨Nat.le_refl _, by simp [w']⟩
  exact ⟨_, _, w', ds', S, hrun, ⟨.inl rfl, fun hst => by simp [still, *] at hst⟩, q1, q2⟩
theorem fitM_eq (u : AV) (m : Md) : fitM u m = ⟨u.t, (fitM u m).m, u.x⟩ := by
  unfold fitM
  cases (flat u.t && nh u.t u.m && nh u.t m) <;> rfl
theorem box_did {T : TypeId} {x : Operand} (hE : EnvOk τ P env) (ho : o.op = .box T x)
    (h : RelS τ cx S ds a.tmps w) (hl : opL env o (ds.map er) = some (cs, st')) : Did (τ := τ) P cx a o w st' := by
  simp only [opL, ho, Option.bind_eq_some_iff] at hl
  obtain ⟨⟨t, m⟩, htm, ⟨u, st1⟩, hg, hl⟩ := hl
  split at hl
  case isFalse => cases hl
  obtain ⟨hs, rfl⟩ := ret_some hl
  obtain ⟨ds1, nv0, rfl, hR1, n0, n1, n2, n3, _, n5, _, _⟩ := h.given (fun c u hc => ⟨_, _, hc⟩) hg
  obtain ⟨nv, q0, q1, q2, q3, q4, _⟩ := fit_ok (m := qmd u.t) n0 n1 n3
  obtain ⟨t', m', y, sh⟩ := nv
  rw [fitM_eq] at q0
  simp only [DV.av, AV.mk.injEq] at q0
  obtain ⟨rfl, rfl, hx⟩ := q0
  cases hx
  let w' : World := { w with heap := w.heap.push (.cells (a.eval x).cells T) }
  have hvc : (a.eval x).cells.toList = cells τ u.t u.x sh := by
    have : a.eval x = valOf u.t (cells τ u.t u.x sh) := by rw [n2]; show valOf nv0.t (nv0.cells τ) = _; rw [← q2, ← q3]; rfl
    rw [this]
    exact val_cells (cells_length τ _ _ _) (by
      have : ∀ v ∈ nv0.cells τ, plainV v = true := n5
      rw [← q2] at this; exact this)
  have hrun : (execOp a.eval o).run P w = .ok (.value (.pointer (some ⟨w.heap.size, 0, none⟩))) w' := by
    simp only [execOp, ho]
    exact run_value run_newVar
  have hg' : Grows w w' := Grows.push w _
  have hR2 := hR1.grows hg'
  obtain ⟨ds', k1, k2⟩ := hR2.setD (e := .av ⟨.p u.t, .o (fitM u (qmd u.t)).m, some u.x, some ⟨w.heap.size, T, (0, 0), sh⟩⟩) (v := .pointer (some ⟨w.heap.size, 0, none⟩)) hs
    (by
      refine ⟨⟨?_, thaw_zero _, ?_⟩, rfl⟩
      · rw [← hvc]; simp [w']
      · refine hold_keep τ (fun b hb => ⟨hb, hg'.block b (hR1.inv.sw b (.inl hb)).1⟩) (fun b hb => ⟨hb, hg'.block b (hR1.inv.sw b hb).1⟩) _ _ _ _ (fun b hb => hg'.block b (q4.free b hb).2.2.1) q1)
    (by
      show (w.heap.size :: bl u.t (fitM u (qmd u.t)).m u.x sh).Nodup
      refine List.nodup_cons.2 ⟨fun hb => ?_, q4.nodup⟩
      have := (q4.free _ hb).2.2.1
      omega)
    (fun b hb => by
      have hb' : b ∈ w.heap.size :: bl u.t (fitM u (qmd u.t)).m u.x sh := hb
      rcases List.mem_cons.1 hb' with rfl | hb'
      · refine ⟨by simp [w'], .inr hR1.inv.ext.size, fun hS => ?_, fun hB => ?_⟩
        · have := (hR1.inv.sw _ hS).1; omega
        · have := (hR1.inv.own _ hB).1; omega
      · have := q4.free b hb'
        exact ⟨Nat.lt_of_lt_of_le this.2.2.1 hg'.size, this.2.2.2, this.2.1, this.1⟩)
  exact ⟨_, _, w', ds', S, hrun, ⟨.inl rfl, fun hst => by simp [still, *] at hst⟩, k1, k2⟩
def foff : Ty → Nat → Nat
  | .c _ _, 0 => 0
  | .c a r, k + 1 => csz a + foff r k
  | _, _ => 0
theorem dg_fields : ∀ (t : Ty) (fs : List Field) (off k : Nat) (m : Md) (x : E t) (v : AV), DG P t (.inr (fs, off)) → fieldAV t m x k = some v →
    ∃ f, fs[k]? = some f ∧ f.offset = off + foff t k ∧ Desc P f.type v.t ∧ csz v.t ≠ 0 ∧ ∃ i, P.info? f.type = some i ∧ i.size = csz v.t := by
  intro t
  induction t with
  | c a r _ ihr =>
    intro fs off k m x v h hv
    obtain ⟨f, fs', rfl, ⟨h1, h2, h3⟩, h4, h5⟩ := h
    cases k with
    | zero =>
      simp only [fieldAV, Option.some.injEq] at hv
      subst hv
      exact ⟨f, rfl, by simp [h1, foff], h4, h2, h3⟩
    | succ k =>
      simp only [fieldAV] at hv
      obtain ⟨f', g1, g2, g3⟩ := ihr _ _ _ _ _ _ h5 hv
      exact ⟨f', by simpa using g1, by rw [g2]; simp only [foff]; omega, g3⟩
  | _ => intro fs off k m x v h hv; simp [fieldAV] at hv
theorem dg_field {T : TypeId} {t : Ty} {k : Nat} {m : Md} {x : E t} {v : AV} (h : Desc P T t) (hv : fieldAV t m x k = some v) :
    ∃ fs f, P.underlying T = some (.struct fs) ∧ fs[k]? = some f ∧ f.offset = foff t k ∧ Desc P f.type v.t ∧ csz v.t ≠ 0 ∧ ∃ i, P.info? f.type = some i ∧ i.size = csz v.t := by
  cases t with
  | c a r =>
    simp only [Desc, DG] at h
    obtain ⟨f, fs, h0, hf, h1, h2⟩ := h
    obtain ⟨f', g1, g2, g3⟩ := dg_fields (P := P) (.c a r) (f :: fs) 0 k m x v ⟨f, fs, rfl, hf, h1, by simpa using h2⟩ hv
    exact ⟨_, f', h0, by simpa using g1, by simpa using g2, g3⟩
  | _ => simp [fieldAV] at hv
theorem win_app_right {α : Type} (a b : List α) (k n : Nat) : win (a ++ b) (a.length + k) n = win b k n := by
  unfold win
  rw [List.drop_append, List.drop_eq_nil_of_le (by omega), List.nil_append, Nat.add_sub_cancel_left]
theorem rd_field {S : Nat → Prop} : ∀ (t : Ty) (k : Nat) (m : Md) (x : E t) (v : AV) (vs : List Value), Rd τ S w t x vs → fieldAV t m x k = some v → Rd τ S w v.t v.x (win vs (foff t k) (csz v.t)) ∧ v.m = m ∧ foff t k + csz v.t ≤ csz t := by
  intro t
  induction t with
  | c a r _ ihr =>
    intro k m x v vs h hv
    simp only [Rd] at h
    obtain ⟨c1, c2, rfl, h1, h2⟩ := h
    have l1 := Rd_length τ _ _ _ _ _ h1
    cases k with
    | zero =>
      simp only [fieldAV, Option.some.injEq] at hv
      subst hv
      refine ⟨?_, rfl, by simp [foff, csz]⟩
      simp only [foff]
      rw [← l1, win_append_left]; exact h1
    | succ k =>
      simp only [fieldAV] at hv
      obtain ⟨g1, g2, g3⟩ := ihr _ _ _ _ _ h2 hv
      refine ⟨?_, g2, by simp only [foff, csz]; omega⟩
      simp only [foff]
      unfold win at g1 ⊢
      rw [← l1, List.drop_append, List.drop_eq_nil_of_le (by omega), List.nil_append, Nat.add_sub_cancel_left]
      exact g1
  | _ => intro k m x v vs h hv; simp [fieldAV] at hv
theorem getE_field : ∀ (t : Ty) (k : Nat) (m : Md) (x : E t) (v : AV), getE t m x [.f k] = some v → fieldAV t v.m x k = some v := by
  intro t
  induction t with
  | c a r _ ihr =>
    intro k m x v h
    match k, m with
    | 0, .q m n => simp only [getE, Option.some.injEq] at h; subst h; rfl
    | k + 1, .q m n => simp only [getE] at h; simp only [fieldAV]; exact ihr _ _ _ _ h
    | 0, .r | 0, .b | 0, .h | 0, .o _ => simp [getE] at h
    | _ + 1, .r | _ + 1, .b | _ + 1, .h | _ + 1, .o _ => simp [getE] at h
  | _ => intro k m x v h; simp [getE] at h
theorem at_field : ∀ (t : Ty) (k : Nat) (m : Md) (x : E t) (sh : Sh t) (loc : Loc) (v : AV), getE t m x [.f k] = some v →
    ∃ d, at? t m x sh loc [.f k] = some (d, loc.map fun l => (l.1, l.2 + foff t k)) ∧ d.av = v ∧ d.cells τ = win (cells τ t x sh) (foff t k) (csz d.t) := by
  intro t
  induction t with
  | c a r _ ihr =>
    intro k m x sh loc v h
    match k, m with
    | 0, .q m n =>
      simp only [getE, Option.some.injEq] at h; subst h
      refine ⟨⟨a, m, x.1, sh.1⟩, ?_, rfl, ?_⟩
      · simp only [at?, at_nil, foff]; cases loc <;> rfl
      · simp only [DV.cells, cells, foff]
        rw [← cells_length τ a x.1 sh.1, win_append_left]
    | k + 1, .q m n =>
      simp only [getE] at h
      obtain ⟨d, h1, h2, h3⟩ := ihr k n x.2 sh.2 (loc.map fun l => (l.1, l.2 + csz a)) v h
      refine ⟨d, ?_, h2, ?_⟩
      · simp only [at?, foff]
        rw [h1]
        cases loc <;> simp [Nat.add_assoc]
      · rw [h3]
        simp only [cells, foff]
        rw [← cells_length τ a x.1 sh.1, win_app_right]
    | 0, .r | 0, .b | 0, .h | 0, .o _ => simp [getE] at h
    | _ + 1, .r | _ + 1, .b | _ + 1, .h | _ + 1, .o _ => simp [getE] at h
  | _ => intro k m x sh loc v h; simp [getE] at h
theorem foff_le : ∀ (t : Ty) (k : Nat) (m : Md) (x : E t) (v : AV), fieldAV t m x k = some v → foff t k + csz v.t ≤ csz t := by
  intro t
  induction t with
  | c a r _ ihr =>
    intro k m x v hv
    cases k with
    | zero =>
      simp only [fieldAV, Option.some.injEq] at hv
      subst hv
      simp [foff, csz]
    | succ k =>
      simp only [fieldAV] at hv
      have := ihr _ _ _ _ hv
      simp only [foff, csz]; omega
  | _ => intro k m x v hv; simp [fieldAV] at hv
theorem run_fieldAt {T : TypeId} {t : Ty} {k : Nat} {m : Md} {x : E t} {v : AV} {b o' : Nat} (hd : Desc P T t) (hv : fieldAV t m x k = some v) :
    (Instr.fieldAt T (.pointer (some ⟨b, o', none⟩)) k).run P w = .ok (.pointer (some ⟨b, o' + foff t k, none⟩)) w := by
  obtain ⟨fs, f, h1, h2, h3, h4, h5, i, h6, h7⟩ := dg_field hd hv
  unfold Instr.fieldAt Instr.sureAddr
  rw [Sem.run_bind, run_underlying h1, Result.andThen_ok]
  simp only [h2]
  unfold fieldPlace
  simp only [Sem.run_bind, Sem.run_pure, Result.andThen_ok, run_sizeOf h6, h7, if_neg h5, add_eq, h3]
theorem fieldAddr_did {T : TypeId} {j k : Nat} (hE : EnvOk τ P env) (ho : o.op = .fieldAddr T (.tmp j) k)
    (h : RelS τ cx S ds a.tmps w) (hl : opL env o (ds.map er) = some (cs, st')) (hc : ∀ c ∈ cs, c = true) : Did (τ := τ) P cx a o w st' := by
  simp only [opL, ho, Option.bind_eq_some_iff] at hl
  obtain ⟨tm, htm, hl⟩ := hl
  have hd := hE.ty _ _ _ htm
  split at hl
  · rename_i s p cs0 hg
    split at hl
    · rename_i v0 hs0
      rw [Option.bind_eq_some_iff] at hl
      obtain ⟨u, hu, hl⟩ := hl
      split at hl
      · rename_i ht
        rw [Option.bind_eq_some_iff] at hl
        obtain ⟨u2, hu2, hl⟩ := hl
        obtain ⟨hs, rfl⟩ := ret_some hl
        obtain ⟨d, d', b, o', g1, g2, g3⟩ := h.addr hg hc
        obtain ⟨d0, hd0, rfl⟩ := getD_er hs0
        rw [g1] at hd0; cases hd0
        simp only [DV.av] at hu
        rw [at_getE _ _ _ _ _ _ _ _ g2] at hu
        cases hu
        obtain ⟨d2, k1, k2, _⟩ := at_field (τ := τ) _ _ _ _ d'.sh (some (b, o')) _ hu2
        have hat : d.at? (p ++ [.f k]) = some (d2, some (b, o' + foff d'.t k)) := by
          unfold DV.at?
          rw [at_append _ _ _ _ _ p [.f k] _ _ g2]
          exact k1
        obtain ⟨ds', q1, q2⟩ := h.setD (e := .ad s (p ++ [.f k])) (v := .pointer (some ⟨b, o' + foff d'.t k, none⟩)) hs ⟨d, d2, _, _, g1, hat, rfl⟩ (by simp [Ent.bl]) (by simp [Ent.bl])
        refine ⟨_, _, w, ds', S, ?_, ⟨.inl rfl, fun _ => rfl⟩, q1, q2⟩
        simp only [execOp, ho]
        refine run_value ?_
        simp only [Act.eval, g3]
        rw [ht] at hd
        exact run_fieldAt hd (getE_field _ _ _ _ _ hu2)
      · cases hl
    · cases hl
  · rw [Option.bind_eq_some_iff] at hl
    obtain ⟨v, hg, hl⟩ := hl
    split at hl
    · rename_i ht
      rw [Option.bind_eq_some_iff] at hl
      obtain ⟨u, hu, hl⟩ := hl
      obtain ⟨hs, rfl⟩ := ret_some hl
      obtain ⟨b, o', C, e, f, h1, h2, h3, h4, h0, h5⟩ := h.addrR hg hc
      obtain ⟨r1, r2, r3⟩ := rd_field _ _ _ _ _ _ h5 hu
      rw [win_win _ _ _ _ _ r3] at r1
      obtain ⟨ds', q1, q2⟩ := h.setD (e := .ar u) (v := .pointer (some ⟨b, o' + foff v.1.t k, none⟩)) hs ⟨b, _, C, e, f, rfl, h2, by rw [r2]; exact h3, h4, by rw [r2]; exact h0, by rw [r2]; exact r1⟩ (by simp [Ent.bl]) (by simp [Ent.bl])
      refine ⟨_, _, w, ds', S, ?_, ⟨.inl rfl, fun _ => rfl⟩, q1, q2⟩
      simp only [execOp, ho]
      refine run_value ?_
      simp only [Act.eval, h1]
      rw [ht] at hd
      exact run_fieldAt hd hu
    · cases hl
theorem run_part {T : TypeId} {t : Ty} {vs : List Value} {off : Nat} {i : TypeInfo} (hd : Desc P T t) (hi : P.info? T = some i) (hsz : i.size = csz t) (h : off + csz t ≤ vs.length) : (part T vs.toArray off).run P w = .ok (valOf t (win vs off (csz t))) w := by
  unfold part
  rw [Sem.run_bind, run_isAgg hd, Result.andThen_ok]
  unfold valOf
  cases hagg : isAggT t with
  | true =>
    simp only [if_true]
    rw [Sem.run_bind, run_sizeOf hi, Result.andThen_ok, hsz]
    show Result.ok _ w = _
    congr 2
    apply Array.ext'
    simp [win, List.extract_eq_take_drop]
  | false =>
    have h1 := csz_one hagg
    simp only [Bool.false_eq_true, if_false]
    have h2 : vs[off]? = some vs[off] := List.getElem?_eq_getElem (by omega)
    simp only [List.getElem?_toArray, h2]
    show Result.ok _ w = _
    rw [h1]
    congr 1
    unfold win
    rw [List.drop_eq_getElem_cons (by omega)]
    rfl
theorem field_did {T : TypeId} {x : Operand} {k : Nat} (hE : EnvOk τ P env) (ho : o.op = .field T x k)
    (h : RelS τ cx S ds a.tmps w) (hl : opL env o (ds.map er) = some (cs, st')) : Did (τ := τ) P cx a o w st' := by
  simp only [opL, ho, Option.bind_eq_some_iff] at hl
  obtain ⟨tm, htm, u, hu, hl⟩ := hl
  have hd := hE.ty _ _ _ htm
  split at hl
  case isFalse => cases hl
  rename_i ht
  rw [ht] at hd
  have hi := h.rdOp (a := a) rfl hu
  -- the machine's way
  have run : ∀ (m : Md) (v : AV) (vs : List Value), fieldAV u.t m u.x k = some v → a.eval x = valOf u.t vs → vs.length = csz u.t →
      (execOp a.eval o).run P w = .ok (.value (valOf v.t (win vs (foff u.t k) (csz v.t)))) w := by
    intro m v vs hv he hl
    obtain ⟨fs, f, h1, h2, h3, h4, h5, i, h6, h7⟩ := dg_field hd hv
    have hle := foff_le _ _ _ _ _ hv
    simp only [execOp, ho]
    refine run_value ?_
    unfold Instr.field
    rw [Sem.run_bind, run_underlying h1, Result.andThen_ok]
    simp only [h2]
    have hagg : isAggT u.t = true := by
      obtain ⟨ut, um, ux⟩ := u
      cases ut <;> first | rfl | simp [fieldAV] at hv
    rw [he]
    unfold valOf
    rw [if_pos hagg, Sem.run_bind]
    show ((pure vs.toArray : Sem (Array Value)).run P w).andThen _ = _
    rw [Sem.run_pure, Result.andThen_ok, h3]
    exact run_part h4 h6 h7 (by omega)
  split at hl
  · rename_i hm
    rw [Option.bind_eq_some_iff] at hl
    obtain ⟨v, hv, hl⟩ := hl
    obtain ⟨hs, rfl⟩ := ret_some hl
    obtain ⟨vs, e1, e2⟩ := Is.ro hi hm
    have hlen := Rd_length τ _ _ _ _ _ e2
    obtain ⟨r1, r2, r3⟩ := rd_field _ _ _ _ _ _ e2 hv
    have hvm : v.m = .r ∨ v.m = .b := by rw [r2]; exact hm
    have hcp : v.cp = true := by
      unfold AV.cp
      obtain ⟨t, m, y⟩ := v
      simp only at hvm
      rcases hvm with rfl | rfl <;> cases t <;> rfl
    obtain ⟨ds', q1, q2⟩ := h.setAV hs (Is.of_ro hvm (by rw [r2]; exact r1)) hcp
    exact ⟨_, _, w, ds', S, run _ _ _ hv e1 hlen, ⟨.inl rfl, fun _ => rfl⟩, q1, q2⟩
  · rw [Option.bind_eq_some_iff] at hl
    obtain ⟨v, hv, hl⟩ := hl
    split at hl
    · cases hl
    · rename_i hvm
      have hfv := getE_field _ _ _ _ _ hv
      split at hl
      · rename_i hcp
        obtain ⟨hs, rfl⟩ := ret_some hl
        obtain ⟨_, d, rfl, hh, he⟩ := hi
        obtain ⟨d2, k1, k2, k3⟩ := at_field (τ := τ) _ _ _ _ d.sh none _ hv
        have hh2 := (at_hold τ _ _ _ _ _ _ _ _ k1 hh lies_none).1
        have hval : valOf v.t (win (d.cells τ) (foff d.t k) (csz v.t)) = d2.val τ := by
          rw [← k2]; show _ = valOf d2.t (d2.cells τ); rw [k3]; rfl
        have hr := run _ _ _ hfv he (cells_length τ _ _ _)
        rw [show d.av.t = d.t from rfl] at hr
        rw [hval] at hr
        obtain ⟨ds', q1, q2⟩ := h.setAV hs ⟨hvm, d2, k2, hh2, rfl⟩ hcp
        exact ⟨_, _, w, ds', S, hr, ⟨.inl rfl, fun _ => rfl⟩, q1, q2⟩
      · split at hl
        · rename_i i
          rw [Option.bind_eq_some_iff] at hl
          obtain ⟨⟨s, p⟩, hp, hl⟩ := hl
          obtain ⟨hs, rfl⟩ := ret_some hl
          obtain ⟨d, d', l, p1, p2, rfl, p4, p5⟩ := h.place hp hu
          obtain ⟨d2, k1, k2, k3⟩ := at_field (τ := τ) _ _ _ _ d'.sh l _ hv
          have hat : d.at? (p ++ [.f k]) = some (d2, l.map fun l => (l.1, l.2 + foff d'.t k)) := by
            unfold DV.at?
            rw [at_append _ _ _ _ _ p [.f k] _ _ p2]
            exact k1
          have hval : valOf v.t (win (d'.cells τ) (foff d'.t k) (csz v.t)) = d2.val τ := by
            rw [← k2]; show _ = valOf d2.t (d2.cells τ); rw [k3]; rfl
          have hr := run _ _ _ hfv (show a.eval (.tmp i) = valOf d'.t (d'.cells τ) by simp only [Act.eval]; exact p4) (cells_length τ _ _ _)
          rw [show d'.av.t = d'.t from rfl] at hr
          rw [hval] at hr
          obtain ⟨ds', q1, q2⟩ := h.setD (e := .al s (p ++ [.f k])) (v := d2.val τ) hs ⟨d, d2, _, p1, hat, rfl⟩ (by simp [Ent.bl]) (by simp [Ent.bl])
          exact ⟨_, _, w, ds', S, hr, ⟨.inl rfl, fun _ => rfl⟩, q1, q2⟩
        · cases hl
theorem nilCheck_did {j : Nat} (ho : o.op = .nilCheck (.tmp j))
    (h : RelS τ cx S ds a.tmps w) (hl : opL env o (ds.map er) = some (cs, st')) (hc : ∀ c ∈ cs, c = true) : Did (τ := τ) P cx a o w st' := by
  simp only [opL, ho, Option.bind_eq_some_iff] at hl
  obtain ⟨cs0, hp, e, he, hl⟩ := hl
  have hcs : cs0 = cs := by
    split at hl
    · cases hl; rfl
    · exact (ret_some hl).2.symm
  subst hcs
  have hptr : ∃ ad, a.eval (.tmp j) = .pointer (some ad) := by
    simp only [Act.eval]
    unfold ptrCond at hp
    split at hp
    · rename_i s p hg
      obtain ⟨d, d', b, o', _, _, g3⟩ := h.ok j _ (getD_er_ad hg)
      exact ⟨_, g3⟩
    · rename_i v hg
      obtain ⟨b, o', C, e, f, h1, _⟩ := h.ok j _ (getD_er_ar hg)
      exact ⟨_, h1⟩
    · split at hp
      · rename_i t m x hlk
        cases hp
        obtain ⟨ad, h1, h2⟩ := (h.look hlk).ptr
        have hx : Option.isSome x = true := hc _ (by simp)
        rw [hx] at h2
        obtain ⟨b, rfl⟩ := Option.isSome_iff_exists.1 h2
        exact ⟨b, h1⟩
      · rename_i n m x hlk
        simp only [Option.ite_none_right_eq_some] at hp
        obtain ⟨hn, hp⟩ := hp
        cases hp
        obtain ⟨ad, h1, h2⟩ := Is.adt hn (h.look hlk)
        have hx : Option.isSome x = true := hc _ (by simp)
        rw [hx] at h2
        obtain ⟨b, rfl⟩ := Option.isSome_iff_exists.1 h2
        exact ⟨b, h1⟩
      · cases hp
  obtain ⟨ad, hptr⟩ := hptr
  refine keep_did (v := a.eval (.tmp j)) ?_ h (h.mv he) hl
  simp only [execOp, ho, hptr]
  rfl
theorem fill_size {place : Nat → Option (Nat × Nat)} {C : Array Value} {k off n : Nat} {v : Value} {rest : List (Nat × Value)} (hp : place k = some (off, n)) (hv : v.cells.size = n) (ho : off + n ≤ C.size) :
    Instr.fill place C ((k, v) :: rest) = Instr.fill place (splice C.toList off v.cells.toList).toArray rest := by
  have key : ∀ (vs : List Value) (j : Nat) (C : Array Value), off + j + vs.length ≤ C.size → ((vs.zipIdx j).foldl (fun cs (p : Value × Nat) => cs.setIfInBounds (off + p.2) p.1) C) = (splice C.toList (off + j) vs).toArray := by
    intro vs
    induction vs with
    | nil => intro j C _; simp [splice]
    | cons x vs ih =>
      intro j C hle
      simp only [List.length_cons] at hle
      simp only [List.zipIdx_cons, List.foldl_cons]
      rw [ih (j + 1) _ (by simp; omega)]
      congr 1
      apply List.ext_getElem?
      intro q
      have hs : (C.setIfInBounds (off + j) x).toList.length = C.toList.length := by simp
      rw [splice_get _ _ _ _ (by rw [hs]; simp; omega), splice_get _ _ _ _ (by simp; omega)]
      simp only [Array.toList_setIfInBounds, List.getElem?_set, List.length_cons]
      by_cases h1 : q < off + j
      · rw [if_pos (by omega), if_neg (by omega), if_pos h1]
      · rw [if_neg h1]
        by_cases h2 : q = off + j
        · subst h2
          rw [if_pos (by omega), if_pos rfl, if_pos (by simp; omega), if_pos (by omega)]
          simp
        · rw [if_neg (by omega)]
          by_cases h3 : q < off + (j + 1) + vs.length
          · rw [if_pos h3, if_pos (by omega)]
            rw [show q - (off + j) = (q - (off + (j + 1))) + 1 by omega, List.getElem?_cons_succ]
          · rw [if_neg h3, if_neg (by omega), if_neg (by omega)]
  simp only [Instr.fill, hp, hv]
  rw [if_neg (by simp; omega)]
  congr 1
  have := key v.cells.toList 0 C (by simp [hv]; omega)
  rw [Nat.add_zero] at this
  rw [← this, ← Array.foldl_toList]
  simp
end Lk
end
section
/-! L: structs that are built of their parts. -/
namespace Lk
open Go
variable {Kw : KW}
variable {τ : Ax} {cx : Cx Kw} {S : Nat → Prop} {ds : DSt} {w : World} {P : Program} {env : Env} {a : Act} {o : Oper} {cs : List Bool} {st' : St}
theorem put_part {cd nv : DV} {k : Nat} {u0 : AV} {r : Md × E cd.t} (hR : RelS τ cx S ds a.tmps w) (hh : cd.hold τ S (fun b => S b ∨ cx.Sb b) w) (hf : Free cx S ds w cd) (hg : getE cd.t cd.m cd.x [.f k] = some u0)
    (hn : nv.hold τ S (fun b => S b ∨ cx.Sb b) w) (hnf : Free cx S ds w nv) (hdis : ∀ b ∈ nv.bl, b ∉ cd.bl) (ht : nv.t = u0.t) (hp : putE cd.t cd.m cd.x [.f k] nv.av = some r) :
    ∃ sh2 : Sh cd.t, hold τ S (fun b => S b ∨ cx.Sb b) w cd.t r.1 r.2 sh2 ∧ Free cx S ds w ⟨cd.t, r.1, r.2, sh2⟩ ∧ cells τ cd.t r.2 sh2 = splice (cells τ cd.t cd.x cd.sh) (foff cd.t k) (nv.cells τ) := by
  obtain ⟨d0, k1, k2, k3⟩ := at_field (τ := τ) _ _ _ _ cd.sh (some (w.heap.size, 0)) _ hg
  obtain ⟨sh2, hput⟩ := putE_put (τ := τ) nv _ _ _ _ _ _ _ _ _ k1 hp
  have htt : nv.t = d0.t := by rw [ht, ← k2]; rfl
  have hlt : ∀ b ∈ cd.bl, b < w.heap.size := fun b hb => (hf.free b hb).2.2.1
  obtain ⟨g1, _, g3⟩ := put_hold τ (S := S) (Sb := fun b => S b ∨ cx.Sb b) (w := w) (w' := w) (fun _ _ => rfl) (fun _ _ => rfl) nv hn _ _ _ _ _ _ _ _ _ k1 hput htt hh hf.nodup
    (fun l0 e hb => by cases e; have := hlt _ hb; simp at this) (fun _ _ _ _ => rfl) (fun hd => by simp [deep, Step.isF] at hd)
  obtain ⟨k', e1, e2, e3⟩ := g3 (by simp [deep, Step.isF])
  simp only [Option.map_some, Option.some.injEq, Prod.mk.injEq, true_and, Nat.zero_add] at e1
  subst e1
  obtain ⟨R, q1, q2, _⟩ := put_bl τ _ _ _ _ _ _ _ _ _ _ k1 hput
  refine ⟨sh2, g1, ⟨?_, fun b hb => ?_⟩, e3⟩
  · show (bl cd.t r.1 r.2 sh2).Nodup
    rw [q2.nodup_iff, List.nodup_append]
    refine ⟨(List.nodup_append.1 (q1.nodup_iff.1 hf.nodup)).1, hnf.nodup, fun x hx y hy e => ?_⟩
    subst e
    exact hdis x hy (q1.symm.subset (by simp [hx]))
  · rcases List.mem_append.1 (q2.subset (show b ∈ bl cd.t r.1 r.2 sh2 from hb)) with hb | hb
    · exact hf.free b (q1.symm.subset (by simp [hb]))
    · exact hnf.free b hb
theorem Free.sub {ds1 : DSt} {nv : DV} (h : Free cx S ds w nv) (hs : ∀ b ∈ blocks ds1, b ∈ blocks ds) : Free cx S ds1 w nv := ⟨h.nodup, fun b hb => ⟨fun hx => (h.free b hb).1 (hs b hx), (h.free b hb).2⟩⟩
theorem fillL_ok {T : TypeId} {place : Nat → Option (Nat × Nat)} : ∀ (ps : List (Nat × Operand)) (ds : DSt) (cd : DV) (g : AV × St) (C : List Value), Desc P T cd.t → RelS τ cx S ds a.tmps w → cd.hold τ S (fun b => S b ∨ cx.Sb b) w → Free cx S ds w cd →
    cd.cells τ = C → fillL (ds.map er) cd.av ps = some g → (∀ fs, P.underlying T = some (.struct fs) → ∀ (k : Nat) (f : Field) (i : TypeInfo), fs[k]? = some f → P.info? f.type = some i → place k = some (f.offset, i.size)) →
    ∃ ds1 nd, g.2 = ds1.map er ∧ RelS τ cx S ds1 a.tmps w ∧ nd.av = g.1 ∧ nd.hold τ S (fun b => S b ∨ cx.Sb b) w ∧ Free cx S ds1 w nd ∧ nd.t = cd.t ∧
      Instr.fill place C.toArray (ps.map fun p => (p.1, a.eval p.2)) = some (nd.cells τ).toArray
  | [], ds, cd, g, C, hd, hR, hh, hf, hC, hl, _ => by
    simp only [fillL, Option.some.injEq] at hl
    subst hl
    exact ⟨ds, cd, rfl, hR, rfl, hh, hf, rfl, by rw [← hC]; rfl⟩
  | (k, x) :: ps, ds, cd, g, C, hd, hR, hh, hf, hC, hl, hpl => by
    simp only [fillL, Option.bind_eq_some_iff] at hl
    obtain ⟨u0, hu0, ⟨u, st1⟩, hg, hl⟩ := hl
    split at hl
    case isFalse => cases hl
    rename_i ht
    rw [Option.bind_eq_some_iff] at hl
    obtain ⟨r, hr, hl⟩ := hl
    obtain ⟨ds1, nv0, rfl, hR1, n0, n1, n2, n3, _, n5, n6, n7⟩ := hR.given (fun c u hc => ⟨_, _, hc⟩) hg
    obtain ⟨nv, q0, q1, q2, q3, q4, q5⟩ := fit_ok (m := u0.m) n0 n1 n3
    have hf1 := hf.sub n6
    rw [← q0] at hr
    have htu : nv.t = u.t := by rw [q3, ← n0]; rfl
    obtain ⟨sh2, r1, r2, r3⟩ := put_part hR1 hh hf1 hu0 q1 q4 (fun b hb hc => (hf.free b hc).1 (n7 b (q5 b hb))) (by rw [htu]; exact ht) hr
    obtain ⟨fs, f, e1, e2, e3, e4, e5, i, e6, e7⟩ := dg_field hd (getE_field _ _ _ _ _ hu0)
    have hle : foff cd.t k + csz u0.t ≤ csz cd.t := foff_le _ _ _ _ _ (getE_field _ _ _ _ _ hu0)
    obtain ⟨ds2, nd, g1, g2, g3, g4, g5, g6, g7⟩ := fillL_ok ps ds1 ⟨cd.t, r.1, r.2, sh2⟩ g (splice C (foff cd.t k) (nv.cells τ)) hd hR1 r1 r2 (by rw [← hC]; exact r3) hl hpl
    refine ⟨ds2, nd, g1, g2, g3, g4, g5, g6, ?_⟩
    have hvc : (a.eval x).cells.toList = nv.cells τ := by
      have : a.eval x = valOf nv.t (nv.cells τ) := by rw [n2, q2, q3]; rfl
      rw [this]
      exact val_cells (cells_length τ _ _ _) (by rw [q2]; exact n5)
    have hvs : (a.eval x).cells.size = csz u0.t := by
      rw [← Array.length_toList, hvc, ← ht, ← htu]; exact cells_length τ _ _ _
    have hCl : C.length = csz cd.t := by rw [← hC]; exact cells_length τ _ _ _
    rw [List.map_cons, fill_size (off := foff cd.t k) (n := csz u0.t) (by rw [hpl fs e1 k f i e2 e6, e3, e7]) hvs (by simp only [List.size_toArray]; omega), hvc]
    exact g7
theorem dg_places : ∀ (t : Ty) (fs : List Field) (off : Nat), DG P t (.inr (fs, off)) → ∃ pl, fs.mapM (fun f => (P.info? f.type).map fun i => (f.offset, i.size)) = some pl ∧
    ∀ (k : Nat) (f : Field) (i : TypeInfo), fs[k]? = some f → P.info? f.type = some i → pl[k]? = some (f.offset, i.size) := by
  intro t
  induction t with
  | c a r _ ihr =>
    intro fs off h
    obtain ⟨f, fs', rfl, ⟨h1, h2, i, h3, h4⟩, h5, h6⟩ := h
    obtain ⟨pl, g1, g2⟩ := ihr _ _ h6
    refine ⟨(f.offset, i.size) :: pl, by simp [List.mapM_cons, h3, g1], fun k f' i' hk hi => ?_⟩
    cases k with
    | zero => simp only [List.getElem?_cons_zero, Option.some.injEq] at hk; subst hk; rw [h3] at hi; cases hi; rfl
    | succ k => simp only [List.getElem?_cons_succ] at hk ⊢; exact g2 k f' i' hk hi
  | u =>
    intro fs off h
    have : fs = [] := h
    subst this
    exact ⟨[], rfl, fun k f i hk => by simp at hk⟩
  | z k => intro fs off h; cases k <;> exact h.elim
  | _ => intro fs off h; exact h.elim
theorem build_did {T : TypeId} {ps : Array (Nat × Operand)} (hE : EnvOk τ P env) (ho : o.op = .build T ps)
    (h : RelS τ cx S ds a.tmps w) (hl : opL env o (ds.map er) = some (cs, st')) : Did (τ := τ) P cx a o w st' := by
  simp only [opL, ho, Option.bind_eq_some_iff] at hl
  obtain ⟨⟨t, m⟩, htm, hl⟩ := hl
  have hd := hE.ty _ _ _ htm
  obtain ⟨i, z, hi, hz, hzc⟩ := hE.zero _ _ _ htm
  cases hag : isAggT t with
  | false => rw [hag] at hl; cases hl
  | true =>
  rw [hag] at hl
  simp only [Bool.not_true, cond_false, Option.bind_eq_some_iff] at hl
  obtain ⟨g, hg, hl⟩ := hl
  obtain ⟨hs, rfl⟩ := ret_some hl
  -- a struct
  have hst : (∃ fs, P.underlying T = some (.struct fs) ∧ ∃ pl, fs.toList.mapM (fun f => (P.info? f.type).map fun i => (f.offset, i.size)) = some pl ∧
      ∀ (k : Nat) (f : Field) (i : TypeInfo), fs[k]? = some f → P.info? f.type = some i → pl[k]? = some (f.offset, i.size)) := by
    cases t with
    | c a r =>
      simp only [Desc, DG] at hd
      obtain ⟨f, fs, h0, hf, h1, h2⟩ := hd
      obtain ⟨pl, g1, g2⟩ := dg_places (P := P) (.c a r) (f :: fs) 0 ⟨f, fs, rfl, hf, h1, by simpa using h2⟩
      exact ⟨_, h0, pl, by simpa using g1, fun k f i hk hi => g2 k f i (by simpa using hk) hi⟩
    | u =>
      simp only [Desc, DG] at hd
      exact ⟨_, hd, [], rfl, fun k f i hk => by simp at hk⟩
    | _ => simp [isAggT] at hag
  obtain ⟨fs, hu, pl, hp1, hp2⟩ := hst
  · obtain ⟨ds1, nd, g1, g2, g3, g4, g5, g6, g7⟩ := fillL_ok (T := T) (place := fun k => pl.toArray[k]?) ps.toList ds ⟨t, qmd t, dflt t, zsh t⟩ g _ hd h (zero_hold _ _) (Free.nil (zero_bl _ _)) rfl hg
      (fun fs' hu' k f i hk hi => by rw [hu] at hu'; cases hu'; simpa using hp2 k f i hk hi)
    have hcz : DV.cells τ ⟨t, qmd t, dflt t, zsh t⟩ = zc t := zc_cells t
    rw [hcz, ← hzc] at g7
    have hrun : (execOp a.eval o).run P w = .ok (.value (.agg (nd.cells τ).toArray)) w := by
      simp only [execOp, ho]
      refine run_value (run_build w T _ _ ?_)
      unfold Program.built
      rw [hi, hu]
      simp only [hz, hp1]
      simpa using g7
    have hagg : isAggT nd.t = true := by rw [g6]; exact hag
    have hv : nd.val τ = .agg (nd.cells τ).toArray := by show valOf nd.t (nd.cells τ) = _; unfold valOf; rw [if_pos hagg]
    rw [← g3, g1] at hs
    obtain ⟨ds', q1, q2⟩ := g2.setD (e := .av nd) (v := nd.val τ) hs ⟨g4, rfl⟩ g5.nodup (fun b hb => ⟨(g5.free b hb).2.2.1, (g5.free b hb).2.2.2, (g5.free b hb).2.1, (g5.free b hb).1⟩)
    rw [hv] at q2
    exact ⟨_, _, w, ds', S, hrun, ⟨.inl rfl, fun hst => by simp [still, *] at hst⟩, q1, q2⟩
end Lk
end
section
/-! L: structs held against each other. -/
namespace Lk
open Go
variable {Kw : KW}
variable {τ : Ax} {cx : Cx Kw} {S : Nat → Prop} {ds : DSt} {w : World} {P : Program} {env : Env} {a : Act} {o : Oper} {cs : List Bool} {st' : St}
theorem fdep_c (a r : Ty) : fdep (.c a r) = max (vdep a) (fdep r) := by
  cases a <;> rfl
theorem eq_by (x y : UInt8) : ((x.toNat : Int) == (y.toNat : Int)) = (x == y) := by
  rw [Bool.eq_iff_iff]
  simp only [beq_iff_eq, Int.ofNat_inj, UInt8.toNat_inj]
theorem fieldsOf_eq {T : TypeId} {fs : Array Field} (h : P.underlying T = some (.struct fs)) : P.fieldsOf T = fs := by
  unfold Program.fieldsOf; rw [h]
theorem run_eqFields_cons (d : Nat) (xs ys : Array Value) (f : Field) (fs : List Field) (va vb : Value) (r : Bool) (hn : f.name ≠ "_") (h1 : (part f.type xs f.offset).run P w = .ok va w) (h2 : (part f.type ys f.offset).run P w = .ok vb w)
    (h3 : (Op.equalIn d f.type va vb).run P w = .ok r w) : (Op.eqFields d xs ys (f :: fs)).run P w = if r then (Op.eqFields d xs ys fs).run P w else .ok false w := by
  simp only [Op.eqFields, if_pos hn, Sem.run_bind, h1, h2, h3, Result.andThen_ok]
  cases r <;> simp
theorem run_eqT : ∀ (t : Ty), eqT t = true →
    (∀ (T : TypeId) (x y : E t) (sx sy : Sh t) (n : Nat), DG P t (.inl T) → EG P t (.inl T) → vdep t ≤ n → (Op.equalIn n T (valOf t (cells τ t x sx)) (valOf t (cells τ t y sy))).run P w = .ok (eqE t x y) w) ∧
    (∀ (fs : List Field) (off : Nat) (x y : E t) (sx sy : Sh t) (xs ys : List Value) (n : Nat), DG P t (.inr (fs, off)) → EG P t (.inr fs) → fdep t ≤ n → off + csz t ≤ xs.length → off + csz t ≤ ys.length →
      win xs off (csz t) = cells τ t x sx → win ys off (csz t) = cells τ t y sy → (Op.eqFields n xs.toArray ys.toArray fs).run P w = .ok (eqE t x y) w) := by
  intro t
  induction t with
  | c a r iha ihr =>
    intro he
    simp only [eqT, Bool.and_eq_true] at he
    obtain ⟨va, _⟩ := iha he.1
    obtain ⟨_, fr⟩ := ihr he.2
    have fields : ∀ (fs : List Field) (off : Nat) (x y : E (.c a r)) (sx sy : Sh (.c a r)) (xs ys : List Value) (n : Nat), DG P (.c a r) (.inr (fs, off)) → EG P (.c a r) (.inr fs) → fdep (.c a r) ≤ n → off + csz (.c a r) ≤ xs.length → off + csz (.c a r) ≤ ys.length →
      win xs off (csz (.c a r)) = cells τ (.c a r) x sx → win ys off (csz (.c a r)) = cells τ (.c a r) y sy → (Op.eqFields n xs.toArray ys.toArray fs).run P w = .ok (eqE (.c a r) x y) w := by
      intro fs off x y sx sy xs ys n hd hg hn hx hy ex ey
      obtain ⟨f, fs', rfl, ⟨h1, h2, i, h3, h4⟩, h5, h6⟩ := hd
      obtain ⟨f2, fs2, e, g1, g2, g3⟩ := hg
      simp only [List.cons.injEq] at e
      obtain ⟨rfl, rfl⟩ := e
      simp only at h1
      rw [fdep_c] at hn
      simp only [csz] at hx hy ex ey
      have ca : ∀ (z : E a) (s : Sh a), (cells τ a z s).length = csz a := fun z s => cells_length τ _ _ _
      have split : ∀ (zs : List Value) (z : E (.c a r)) (s : Sh (.c a r)), off + (csz a + csz r) ≤ zs.length → win zs off (csz a + csz r) = cells τ (.c a r) z s → win zs off (csz a) = cells τ a z.1 s.1 ∧ win zs (off + csz a) (csz r) = cells τ r z.2 s.2 := by
        intro zs z s hl h
        have e1 := win_win zs off (csz a + csz r) 0 (csz a) (by omega)
        have e2 := win_win zs off (csz a + csz r) (csz a) (csz r) (by omega)
        rw [Nat.add_zero] at e1
        constructor
        · rw [← e1, h]; simp only [cells]; rw [← ca z.1 s.1]; exact win_append_left _ _
        · rw [← e2, h]; simp only [cells]
          have := win_append_right (cells τ a z.1 s.1) (cells τ r z.2 s.2)
          rw [ca, show (cells τ r z.2 s.2).length = csz r from cells_length τ _ _ _] at this
          exact this
      obtain ⟨x1, x2⟩ := split xs x sx hx ex
      obtain ⟨y1, y2⟩ := split ys y sy hy ey
      have p1 := run_part (w := w) h5 h3 h4 (show off + csz a ≤ xs.length by omega)
      have p2 := run_part (w := w) h5 h3 h4 (show off + csz a ≤ ys.length by omega)
      rw [x1] at p1; rw [y1] at p2
      rw [run_eqFields_cons n xs.toArray ys.toArray f fs' _ _ _ g1 (by rw [h1]; exact p1) (by rw [h1]; exact p2) (va f.type x.1 y.1 sx.1 sy.1 n h5 g2 (Nat.le_trans (Nat.le_max_left _ _) hn))]
      rw [fr fs' (off + csz a) x.2 y.2 sx.2 sy.2 xs ys n h6 g3 (Nat.le_trans (Nat.le_max_right _ _) hn) (by omega) (by omega) x2 y2]
      simp only [eqE]
      cases eqE a x.1 y.1 <;> simp
    refine ⟨fun T x y sx sy n hd hg hn => ?_, fields⟩
    obtain ⟨f, fs, h0, hf, h1, h2⟩ := hd
    obtain ⟨g0, f2, fs2, e, g1, g2, g3⟩ := hg
    rw [h0] at e
    simp only [Option.some.injEq, TypeDesc.struct.injEq] at e
    have e' : f :: fs = f2 :: fs2 := by have := congrArg Array.toList e; simpa using this
    simp only [List.cons.injEq] at e'
    obtain ⟨rfl, rfl⟩ := e'
    cases n with
    | zero => simp [vdep] at hn
    | succ n =>
      simp only [vdep] at hn
      have hfo := fieldsOf_eq h0
      have l1 : (cells τ (.c a r) x sx).length = csz (.c a r) := cells_length τ _ _ _
      have l2 : (cells τ (.c a r) y sy).length = csz (.c a r) := cells_length τ _ _ _
      show (Op.equalIn (n + 1) T (.agg (cells τ (.c a r) x sx).toArray) (.agg (cells τ (.c a r) y sy).toArray)).run P w = _
      rw [run_equalIn_struct w n T _ _ (by rw [hfo]; exact h0) g0, hfo]
      exact fields (f :: fs) 0 x y sx sy _ _ n ⟨f, fs, rfl, hf, h1, by simpa using h2⟩ ⟨f, fs, rfl, g1, g2, g3⟩ (by omega) (by omega) (by omega) (by rw [← l1]; simp [win]) (by rw [← l2]; simp [win])
  | i k =>
    intro _
    refine ⟨fun T x y sx sy n hd _ hn => ?_, fun fs off x y sx sy xs ys n hd => hd.elim⟩
    cases n with
    | zero => simp [vdep] at hn
    | succ n => exact run_equalIn_int w n T k k x y hd
  | «by» =>
    intro _
    refine ⟨fun T x y sx sy n hd _ hn => ?_, fun fs off x y sx sy xs ys n hd => hd.elim⟩
    cases n with
    | zero => simp [vdep] at hn
    | succ n =>
      have := run_equalIn_int w n T .u8 .u8 (x.toNat : Int) (y.toNat : Int) hd
      rw [eq_by] at this
      exact this
  | b =>
    intro _
    refine ⟨fun T x y sx sy n hd _ hn => ?_, fun fs off x y sx sy xs ys n hd => hd.elim⟩
    cases n with
    | zero => simp [vdep] at hn
    | succ n => exact run_equalIn_bool' w n T x y hd
  | s =>
    intro _
    refine ⟨fun T x y sx sy n hd _ hn => ?_, fun fs off x y sx sy xs ys n hd => hd.elim⟩
    cases n with
    | zero => simp [vdep] at hn
    | succ n =>
      have := run_equalIn_string w n T (ByteArray.mk x.toArray) (ByteArray.mk y.toArray) hd
      rw [ba_toList, ba_toList] at this
      exact this
  | u =>
    intro _
    refine ⟨fun T x y sx sy n hd hg hn => ?_, fun fs off x y sx sy xs ys n hd _ _ _ _ _ _ => ?_⟩
    · cases n with
      | zero => simp [vdep] at hn
      | succ n =>
        have h0 : P.underlying T = some (.struct #[]) := hd
        have hfo := fieldsOf_eq h0
        show (Op.equalIn (n + 1) T (.agg #[]) (.agg #[])).run P w = _
        rw [run_equalIn_struct w n T _ _ (by rw [hfo]; exact h0) hg, hfo]
        rfl
    · have : fs = [] := hd
      subst this
      rfl
  | _ => intro h; simp [eqT] at h
theorem Is.whole {v : AV} {val : Value} (h : Is (τ := τ) cx S w v val) : ∃ sh, val = valOf v.t (cells τ v.t v.x sh) := by
  obtain ⟨_, d, rfl, _, rfl⟩ := h
  exact ⟨d.sh, rfl⟩
theorem cmpS_ok {op : BinOp} {u v : AV} {va vb : Value} {r : AV} {T : TypeId} {x y : Operand} (hE : EnvOk τ P env) (h : cmpS env op T u v = some r) (ha : Is (τ := τ) cx S w u va) (hb : Is (τ := τ) cx S w v vb) :
    (∃ vr, (do eqGuard op T x y va vb; binOp op T va vb : Sem Value).run P w = .ok vr w ∧ Is (τ := τ) cx S w r vr) ∧ r.cp = true := by
  unfold cmpS at h
  split at h
  case h_2 => cases h
  rename_i ta tr tm tx
  cases hc : env.cmp T with
  | false => rw [hc] at h; cases h
  | true =>
    rw [hc] at h
    simp only [cond_true, Option.bind_eq_some_iff] at h
    obtain ⟨⟨t, m⟩, hT, h⟩ := h
    simp only at h
    cases he : eqT t with
    | false => rw [he] at h; cases h
    | true =>
      rw [he] at h
      simp only [cond_true] at h
      split at h
      case isFalse => cases h
      rename_i h1
      split at h
      case isFalse => cases h
      rename_i h2
      split at h
      case isFalse => cases h
      have h1 : Ty.c ta tr = t := h1
      subst h1
      obtain ⟨vt, vm, vx⟩ := v
      have h2 : vt = Ty.c ta tr := h2
      subst h2
      obtain ⟨sa, rfl⟩ := ha.whole
      obtain ⟨sb, rfl⟩ := hb.whole
      obtain ⟨hg, hq⟩ := hE.cmp T _ m hc hT
      have hd := hE.ty T _ m hT
      have hdep : fdepB (.c ta tr) = true := hE.dep T _ m hT
      have hrun := (run_eqT (τ := τ) (w := w) (P := P) _ he).1 T tx vx sa sb 10000 hd hg (of_decide_eq_true hdep)
      have hgd : ∀ op, (eqGuard op T x y (valOf (.c ta tr) (cells τ (.c ta tr) tx sa)) (valOf (.c ta tr) (cells τ (.c ta tr) vx sb))).run P w = .ok () w := fun op => run_eqGuard_agg w op T x y _ _ hq
      cases op <;> simp only [reduceCtorEq] at h
      · cases h
        refine ⟨⟨_, ?_, Is.mkB⟩, rfl⟩
        rw [Sem.run_bind, hgd, Result.andThen_ok]
        show (binOp .eql T (.agg _) (.agg _)).run P w = _
        rw [run_eql_struct]
        have hrun' : (Op.equalIn 10000 T (.agg (cells τ (.c ta tr) tx sa).toArray) (.agg (cells τ (.c ta tr) vx sb).toArray)).run P w = .ok (eqE (.c ta tr) tx vx) w := hrun
        rw [hrun', Result.andThen_ok]
      · cases h
        refine ⟨⟨_, ?_, Is.mkB⟩, rfl⟩
        rw [Sem.run_bind, hgd, Result.andThen_ok]
        show (binOp .neq T (.agg _) (.agg _)).run P w = _
        rw [run_neq_struct]
        have hrun' : (Op.equalIn 10000 T (.agg (cells τ (.c ta tr) tx sa).toArray) (.agg (cells τ (.c ta tr) vx sb).toArray)).run P w = .ok (eqE (.c ta tr) tx vx) w := hrun
        rw [hrun', Result.andThen_ok]
theorem bin_did {env : Env} (hE : EnvOk τ P env) {a : Act} {o : Oper} {op : BinOp} {T T' : TypeId} {x y : Operand} {cs : List Bool} {st' : St} (ho : o.op = .binOp op T x y T')
    (h : RelS τ cx S ds a.tmps w) (hl : opL env o (ds.map er) = some (cs, st')) (hc : ∀ c ∈ cs, c = true) : Did (τ := τ) P cx a o w st' := by
  simp only [opL, ho, Option.bind_eq_some_iff] at hl
  obtain ⟨u, hu, v, hv, r, hr, hl⟩ := hl
  obtain ⟨hs, rfl⟩ := ret_some hl
  have key : ∃ vr, (do eqGuard op T x y (a.eval x) (a.eval y); binOp op T (a.eval x) (a.eval y) : Sem Value).run P w = .ok vr w ∧ Is (τ := τ) cx S w r.2 vr ∧ r.2.cp = true := by
    split at hr
    · rename_i r' he
      cases hr
      obtain ⟨⟨vr, h1, h2⟩, h3⟩ := cmpS_ok (P := P) (x := x) (y := y) hE he (h.rdOp rfl hu) (h.rdOp rfl hv)
      exact ⟨vr, h1, h2, h3⟩
    split at hr
    · rename_i r' he
      cases hr
      obtain ⟨vr, h1, h2⟩ := cmpE_ok (P := P) (x := x) hE he (by rintro c rfl; rfl) (h.rdOp rfl hu) (h.rdOp rfl hv)
      exact ⟨vr, h1, h2, cmpE_cp he⟩
    · obtain ⟨vr, h1, h2⟩ := bin_ok (P := P) (T := T) (x := x) (y := y) hr hc (h.rdOp rfl hu) (h.rdOp rfl hv)
      exact ⟨vr, h1, h2, bin_cp hr⟩
  obtain ⟨vr, h1, h2, h3⟩ := key
  obtain ⟨ds', e1, e2⟩ := h.setAV hs h2 h3
  refine ⟨.value vr, vr, w, ds', S, ?_, ⟨.inl rfl, fun _ => rfl⟩, e1, e2⟩
  simp only [execOp, ho]
  exact run_value h1
end Lk
end
section
/-! L: rows made of nothings. -/
namespace Lk
open Go
variable {Kw : KW}
variable {τ : Ax} {cx : Cx Kw} {S : Nat → Prop} {ds : DSt} {w : World} {P : Program} {env : Env} {a : Act} {o : Oper} {cs : List Bool} {st' : St}
theorem wrap_in {n : Int} (h0 : 0 ≤ n) (h1 : n ≤ 140737488355328) : IntKind.i64.wrap n = n := by
  simp only [IntKind.wrap, IntKind.signed, IntKind.bits, Bool.true_and]
  split
  · rename_i h2
    have h2 := of_decide_eq_true h2
    omega
  · omega
def zrow (zero : Array Value) (n : Nat) : Array Value := (Array.range n).map fun x => zero[x % zero.size]!
theorem zrow_win {zero : Array Value} {k N j : Nat} (hk : zero.size = k) (hj : j < N) : win (zrow zero (N * k)).toList (j * k) k = zero.toList := by
  have hjk : j * k + k ≤ N * k := by
    have := Nat.mul_le_mul_right k (Nat.succ_le_of_lt hj)
    rw [Nat.succ_mul] at this
    exact this
  apply List.ext_getElem?
  intro r
  unfold win
  by_cases hr : r < k
  · rw [List.getElem?_take, if_pos hr, List.getElem?_drop]
    unfold zrow
    rw [Array.toList_map, List.getElem?_map]
    have h1 : (Array.range (N * k)).toList[j * k + r]? = some (j * k + r) := by
      rw [Array.getElem?_toList, Array.getElem?_eq_getElem (by simp; omega)]
      simp
    rw [h1]
    simp only [Option.map_some]
    rw [hk, Nat.add_comm, Nat.add_mul_mod_self_right, Nat.mod_eq_of_lt hr]
    rw [Array.getElem?_toList, Array.getElem?_eq_getElem (by omega)]
    rw [getElem!_pos zero r (by omega)]
  · rw [List.getElem?_take, if_neg hr, List.getElem?_eq_none (by simp; omega)]
theorem run_makeSlice {T e : TypeId} {i : TypeInfo} {z : Value} {n : Int} (f1 : P.underlying T = some (.slice e)) (f2 : P.info? e = some i) (f4 : i.zero = some z) (hz : z.cells.size = i.size) (h0 : 0 ≤ n) (hn : n * i.bytes ≤ 140737488355328) (hn2 : n ≤ 140737488355328) :
    (Instr.makeSlice T (.int .i64 n) (.int .i64 n)).run P w = .ok (.slice (some ⟨w.heap.size, 0, none⟩) n.toNat n.toNat) { w with heap := w.heap.push (.cells (zrow z.cells (n.toNat * i.size)) e) } := by
  unfold Instr.makeSlice
  have hw := wrap_in h0 hn2
  have ha : ∀ (u : Value) (m : Int), u = .int .i64 m → (asInt u).run P w = .ok m w := by
    intro u m e; subst e; rfl
  have hinfo : (typeInfo e).run P w = .ok i w := run_info f2
  have hb : (i.bytes : Int) * n = n * i.bytes := Int.mul_comm _ _
  have hlt : ¬ n < 0 := by omega
  have hno : ¬ (140737488355328 * 2 < n * (i.bytes : Int)) := by omega
  simp only [Sem.run_bind, run_underlying f1, Result.andThen_ok, ha _ n rfl, hinfo, hw, hb]
  have hc : (((decide (n < 0) || decide (n * (i.bytes : Int) > 2 ^ 48)) || decide (n < 0) || decide (n > n)) = true) = False := by
    simp only [Bool.or_eq_true, decide_eq_true_eq, eq_iff_iff, iff_false]
    omega
  simp only [hc, if_false, Sem.run_bind, run_askRoom, Result.andThen_ok, run_sizeOf f2]
  by_cases hs : n.toNat * i.size = 0
  · rw [if_pos hs]
    simp only [Sem.run_bind, Sem.run_pure, Result.andThen_ok, newRow, newObj]
    rw [hs]
    have e1 : zrow z.cells 0 = #[] := by simp [zrow]
    have e2 : (Array.map (fun x => (#[] : Array Value)[x % (#[] : Array Value).size]!) (Array.range 0)) = #[] := by simp
    rw [e1, e2]
    rfl
  · rw [if_neg hs]
    simp only [Sem.run_bind, Sem.run_pure, Result.andThen_ok, newRow, newObj, run_zero f2 f4]
    rfl
theorem makeSlice_did {T : TypeId} {x y : Operand} (hE : EnvOk τ P env) (ho : o.op = .makeSlice T x y)
    (h : RelS τ cx S ds a.tmps w) (hl : opL env o (ds.map er) = some (cs, st')) (hc : ∀ c ∈ cs, c = true) : Did (τ := τ) P cx a o w st' := by
  simp only [opL, ho] at hl
  split at hl
  case h_2 => cases hl
  rename_i t m hT
  simp only [Option.bind_eq_some_iff] at hl
  obtain ⟨⟨k1, n⟩, hx, ⟨k2, n2⟩, hy, hl⟩ := hl
  split at hl
  case isFalse => cases hl
  rename_i hcond
  obtain ⟨e1, e2, hcs⟩ := hcond
  simp only at e1 e2
  subst e1; subst e2
  obtain ⟨hs, rfl⟩ := ret_some hl
  have c1 : n = n2 := by simpa using hc (decide (n = n2)) (by simp)
  have c2 : 0 ≤ n := by simpa using hc (decide (0 ≤ n)) (by simp)
  have c3 : n ≤ (env.lim T : Int) := by simpa using hc (decide (n ≤ (env.lim T : Int))) (by simp)
  subst c1
  have hd := hE.ty _ _ _ hT
  simp only [Desc, DG] at hd
  obtain ⟨e, i, z, f1, f2, f3, f4, f5, f6⟩ := hd
  obtain ⟨m1, m2⟩ := hE.lim _ _ _ f1 f2
  have hzc := hE.elz _ _ _ _ _ _ hT f1 f2 f4
  have hm1 : n * (i.bytes : Int) ≤ 140737488355328 := by
    have h1 : n.toNat * i.bytes ≤ env.lim T * i.bytes := Nat.mul_le_mul_right _ (by omega)
    have h2 : ((n.toNat : Int)) * (i.bytes : Int) ≤ 140737488355328 := by
      rw [← Int.natCast_mul]; omega
    rwa [Int.toNat_of_nonneg c2] at h2
  have hbig : n ≤ 140737488355328 := by omega
  have hrun0 := run_makeSlice (w := w) f1 f2 f4 (by rw [f5, f3]) c2 hm1 hbig
  let w' : World := { w with heap := w.heap.push (.cells (zrow z.cells (n.toNat * i.size)) e) }
  have hrun : (execOp a.eval o).run P w = .ok (.value (.slice (some ⟨w.heap.size, 0, none⟩) n.toNat n.toNat)) w' := by
    simp only [execOp, ho]
    refine run_value ?_
    rw [(h.rdI rfl hx).1, (h.rdI rfl hy).1]
    exact hrun0
  let zs : List (Sh t) := List.replicate n.toNat (zsh t)
  have hCl : (zrow z.cells (n.toNat * i.size)).toList.length = n.toNat * csz t := by simp [zrow, f3]
  obtain ⟨ds', q1, q2⟩ := h.fresh (d := ⟨.l t, .o m, List.replicate n.toNat (dflt t), ⟨.slice (some ⟨w.heap.size, 0, none⟩) n.toNat n.toNat, w.heap.size, 0, (zrow z.cells (n.toNat * i.size)).toList, e, (0, 0), zs⟩⟩) (n := w.heap.size) (w' := w') (Grows.push w _) hs rfl
    (by
      refine .inr ⟨n.toNat, by simp, by simp [zs], by simp, by simp only [big]; omega, ?_, by simp [w'], thaw_zero _, fun j u s hu hsj => ?_⟩
      · show 0 + n.toNat * csz t ≤ (zrow z.cells (n.toNat * i.size)).toList.length
        rw [hCl]; omega
      · obtain ⟨hj, rfl⟩ := List.getElem?_eq_some_iff.1 hu
        obtain ⟨hj2, rfl⟩ := List.getElem?_eq_some_iff.1 hsj
        have hjn : j < n.toNat := by simpa using hj
        simp only [zs, List.getElem_replicate]
        refine ⟨?_, zero_hold _ _⟩
        rw [zc_cells, Nat.zero_add, ← hzc, f3]
        exact zrow_win f5 hjn)
    (.inl (by
      show w.heap.size :: (List.zipWith (fun y z => bl t m y z) (List.replicate n.toNat (dflt t)) zs).flatten = _
      have : (List.zipWith (fun y z => bl t m y z) (List.replicate n.toNat (dflt t)) zs).flatten = [] := by
        rw [List.flatten_eq_nil_iff]
        intro l hl
        obtain ⟨j, hj⟩ := List.getElem?_of_mem hl
        rw [List.getElem?_zipWith] at hj
        split at hj
        · rename_i u s hu hsj
          obtain ⟨_, rfl⟩ := List.getElem?_eq_some_iff.1 hu
          obtain ⟨_, rfl⟩ := List.getElem?_eq_some_iff.1 hsj
          cases hj
          simp only [zs, List.getElem_replicate]
          exact zero_bl _ _
        · cases hj
      rw [this])) ⟨Nat.le_refl _, by simp [w']⟩
  exact ⟨_, _, w', ds', S, hrun, ⟨.inl rfl, fun hst => by simp [still, *] at hst⟩, q1, q2⟩
end Lk
end
section
namespace Lk
open Go
variable {Kw : KW}
variable {τ : Ax} {cx : Cx Kw} {S : Nat → Prop} {ds : DSt} {w : World} {P : Program} {env : Env} {a : Act} {o : Oper} {cs : List Bool} {st' : St}
theorem opL_ok (hE : EnvOk τ P env) (h : RelS τ cx S ds a.tmps w) (hl : opL env o (ds.map er) = some (cs, st')) (hc : ∀ c ∈ cs, c = true) : Did (τ := τ) P cx a o w st' := by
  cases ho : o.op with
  | move x => exact mv_did (.inl ho) h hl
  | assign x => exact mv_did (.inr ho) h hl
  | pick c x y => exact pick_did ho h hl hc
  | binOp op T x y T' => exact bin_did hE ho h hl hc
  | unOp op T x => exact un_did ho h hl
  | convert T T' x =>
    cases hT' : env.ty T' with
    | none =>
      simp only [opL, ho, Option.bind_eq_some_iff] at hl
      obtain ⟨tm, _, u, _, hl⟩ := hl
      split at hl
      · simp [conv, hT'] at hl
      · cases hl
    | some tm =>
      obtain ⟨t', m'⟩ := tm
      by_cases hl' : ∃ t0, t' = .l t0
      · obtain ⟨t0, rfl⟩ := hl'
        by_cases hu : t0 = .by
        · subst hu
          cases m' with
          | o m => exact convB_did hE ho hT' h hl
          | _ =>
            simp only [opL, ho, Option.bind_eq_some_iff] at hl
            obtain ⟨tm, _, u, _, hl⟩ := hl
            split at hl
            · simp [conv, hT'] at hl
            · cases hl
        · simp only [opL, ho, Option.bind_eq_some_iff] at hl
          obtain ⟨tm, _, v, _, hl⟩ := hl
          split at hl
          · exfalso
            rw [Option.bind_eq_some_iff] at hl
            obtain ⟨r, hr, _⟩ := hl
            unfold conv at hr
            rw [hT'] at hr
            cases t0 <;> first | exact hu rfl | cases hr
          · cases hl
      · have hby : ∀ t m, env.ty T' ≠ some (.l t, m) := fun t m e => hl' ⟨t, by rw [hT'] at e; cases e; rfl⟩
        by_cases hs : ∃ u t, rdOp env (ds.map er) x T = some u ∧ u.t = .l t
        · obtain ⟨u, t, hu, hut⟩ := hs
          by_cases htb : t = .by ∧ t' = .s
          · obtain ⟨rfl, rfl⟩ := htb
            exact convS_did hE ho m' hT' u hu hut h hl
          · exfalso
            simp only [opL, ho, Option.bind_eq_some_iff] at hl
            obtain ⟨tm, _, u', hu', hl⟩ := hl
            rw [hu] at hu'; cases hu'
            split at hl
            · rw [Option.bind_eq_some_iff] at hl
              obtain ⟨r, hr, _⟩ := hl
              obtain ⟨tt, mm, xx⟩ := u
              simp only at hut
              subst hut
              unfold conv at hr
              rw [hT'] at hr
              cases t' <;> simp [asI] at hr
              · cases t <;> simp at hr htb
              · exact hl' ⟨_, rfl⟩
            · cases hl
        · exact conv_did hE ho hby (fun u t hu hut => hs ⟨u, t, hu, hut⟩) h hl
  | index T x i => exact index_did hE ho h hl hc
  | slice T x lo hi mx =>
    cases mx with
    | none => exact slice_did hE ho h hl hc
    | some _ => simp [opL, ho] at hl
  | extract x j =>
    cases x with
    | tmp i => exact extract_did ho h hl
    | _ => simp [opL, ho] at hl
  | indexAddr T x i =>
    cases x with
    | tmp j => exact indexAddr_did hE ho h hl hc
    | _ => simp [opL, ho] at hl
  | load T x =>
    cases x with
    | tmp j => exact load_did hE ho h hl hc
    | _ => simp [opL, ho] at hl
  | store T x y =>
    cases x with
    | tmp j => exact store_did hE ho h hl hc
    | _ => simp [opL, ho] at hl
  | buildSlice T n ps => exact buildSlice_did hE ho h hl
  | alloc T => exact alloc_did hE ho h hl
  | makeSlice T x y => exact makeSlice_did hE ho h hl hc
  | box T x => exact box_did hE ho h hl
  | build T ps => exact build_did hE ho h hl
  | field T x k => exact field_did hE ho h hl
  | fieldAddr T x k =>
    cases x with
    | tmp j => exact fieldAddr_did hE ho h hl hc
    | _ => simp [opL, ho] at hl
  | nilCheck x =>
    cases x with
    | tmp j => exact nilCheck_did ho h hl hc
    | _ => simp [opL, ho] at hl
  | range T x => exact range_did hE ho h hl
  | makeInterface T x => exact makeI_did hE ho h hl
  | call c =>
    cases hb : c.callee with
    | builtin b =>
      cases b with
      | len => exact len_did hE ho hb h hl
      | min => exact min_did ho hb h hl
      | max => exact max_did ho hb h hl
      | append => exact append_did hE ho hb h hl hc
      | _ => simp [opL, ho, hb] at hl
    | _ => simp [opL, ho, hb] at hl
  | _ => simp [opL, ho] at hl
end Lk
end
section
namespace Lk
open Go
variable {Kw : KW}
variable {τ : Ax} {cx : Cx Kw} {S : Nat → Prop} {ds : DSt} {w : World} {P : Program} {env : Env} {a : Act} {o : Oper} {cs : List Bool} {st' : St}
theorem nilCheck_ind {j : Nat} (ho : o.op = .nilCheck (.tmp j))
    (h : RelS τ cx S ds a.tmps w) (hl : opL env o (ds.map er) = some (cs, st')) (hc : ∀ c ∈ cs, c = true) : ∃ v, ∀ w', (execOp a.eval o).run P w' = .ok (.value v) w' := by
  simp only [opL, ho, Option.bind_eq_some_iff] at hl
  obtain ⟨cs0, hp, e, he, hl⟩ := hl
  have hcs : cs0 = cs := by
    split at hl
    · cases hl; rfl
    · exact (ret_some hl).2.symm
  subst hcs
  have hptr : ∃ ad, a.eval (.tmp j) = .pointer (some ad) := by
    simp only [Act.eval]
    unfold ptrCond at hp
    split at hp
    · rename_i s p hg
      obtain ⟨d, d', b, o', _, _, g3⟩ := h.ok j _ (getD_er_ad hg)
      exact ⟨_, g3⟩
    · rename_i v hg
      obtain ⟨b, o', C, e, f, h1, _⟩ := h.ok j _ (getD_er_ar hg)
      exact ⟨_, h1⟩
    · split at hp
      · rename_i t m x hlk
        cases hp
        obtain ⟨ad, h1, h2⟩ := (h.look hlk).ptr
        have hx : Option.isSome x = true := hc _ (by simp)
        rw [hx] at h2
        obtain ⟨b, rfl⟩ := Option.isSome_iff_exists.1 h2
        exact ⟨b, h1⟩
      · rename_i n m x hlk
        simp only [Option.ite_none_right_eq_some] at hp
        obtain ⟨hn, hp⟩ := hp
        cases hp
        obtain ⟨ad, h1, h2⟩ := Is.adt hn (h.look hlk)
        have hx : Option.isSome x = true := hc _ (by simp)
        rw [hx] at h2
        obtain ⟨b, rfl⟩ := Option.isSome_iff_exists.1 h2
        exact ⟨b, h1⟩
      · cases hp
  obtain ⟨ad, hptr⟩ := hptr
  refine ⟨a.eval (.tmp j), fun w' => ?_⟩
  simp only [execOp, ho, hptr]
  rfl
theorem fieldAddr_ind {T : TypeId} {j k : Nat} (hE : EnvOk τ P env) (ho : o.op = .fieldAddr T (.tmp j) k)
    (h : RelS τ cx S ds a.tmps w) (hl : opL env o (ds.map er) = some (cs, st')) (hc : ∀ c ∈ cs, c = true) : ∃ v, ∀ w', (execOp a.eval o).run P w' = .ok (.value v) w' := by
  simp only [opL, ho, Option.bind_eq_some_iff] at hl
  obtain ⟨tm, htm, hl⟩ := hl
  have hd := hE.ty _ _ _ htm
  split at hl
  · rename_i s p cs0 hg
    split at hl
    · rename_i v0 hs0
      rw [Option.bind_eq_some_iff] at hl
      obtain ⟨u, hu, hl⟩ := hl
      split at hl
      · rename_i ht
        rw [Option.bind_eq_some_iff] at hl
        obtain ⟨u2, hu2, hl⟩ := hl
        obtain ⟨hs, rfl⟩ := ret_some hl
        obtain ⟨d, d', b, o', g1, g2, g3⟩ := h.addr hg hc
        obtain ⟨d0, hd0, rfl⟩ := getD_er hs0
        rw [g1] at hd0; cases hd0
        simp only [DV.av] at hu
        rw [at_getE _ _ _ _ _ _ _ _ g2] at hu
        cases hu
        refine ⟨.pointer (some ⟨b, o' + foff d'.t k, none⟩), fun w' => ?_⟩
        simp only [execOp, ho]
        refine run_value ?_
        simp only [Act.eval, g3]
        rw [ht] at hd
        exact run_fieldAt hd (getE_field _ _ _ _ _ hu2)
      · cases hl
    · cases hl
  · rw [Option.bind_eq_some_iff] at hl
    obtain ⟨v, hg, hl⟩ := hl
    split at hl
    · rename_i ht
      rw [Option.bind_eq_some_iff] at hl
      obtain ⟨u, hu, hl⟩ := hl
      obtain ⟨hs, rfl⟩ := ret_some hl
      obtain ⟨b, o', C, e, f, h1, h2, h3, h4, h0, h5⟩ := h.addrR hg hc
      refine ⟨.pointer (some ⟨b, o' + foff v.1.t k, none⟩), fun w' => ?_⟩
      simp only [execOp, ho]
      refine run_value ?_
      simp only [Act.eval, h1]
      rw [ht] at hd
      exact run_fieldAt hd hu
    · cases hl
theorem andThen_some {α β : Type} {r : Result α} {f : α → World → Result β} {v : β} {w1 : World} (h : r.andThen f = .ok v w1) : ∃ x w2, r = .ok x w2 ∧ f x w2 = .ok v w1 := by
  cases r with
  | ok x w2 => exact ⟨x, w2, rfl, h⟩
  | _ => cases h
theorem rtb_not {α : Type} {x y : Int} {sg : Bool} {c : BoundsCode} {v : α} {w w1 : World} : (runtimePanic (.bounds x y sg c) : Sem α).run P w ≠ .ok v w1 := by
  intro h
  unfold runtimePanic at h
  rw [Sem.run_bind] at h
  obtain ⟨_, _, _, h⟩ := andThen_some h
  cases h
theorem bounds_not {α : Type} {k : IntKind} {x y : Int} {c : BoundsCode} {v : α} {w1 : World} : (boundsPanic k x y c : Sem α).run P w ≠ .ok v w1 := by
  intro h
  unfold boundsPanic at h
  simp only at h
  split at h
  · rw [Sem.run_bind] at h
    obtain ⟨_, _, _, h⟩ := andThen_some h
    exact rtb_not h
  · rw [Sem.run_bind] at h
    obtain ⟨_, _, _, h⟩ := andThen_some h
    exact rtb_not h
theorem underlying_ind {T : TypeId} {d : TypeDesc} {w1 : World} (h : (underlying T).run P w = .ok d w1) : P.underlying T = some d := by
  unfold underlying program at h
  rw [Sem.run_bind] at h
  have h : Sem.run P (match P.underlying T with | some d => pure d | none => stuck "no such type") w = _ := h
  cases hu : P.underlying T with
  | none => rw [hu] at h; cases h
  | some d' => rw [hu] at h; cases h; rfl
theorem sizeOf_ind {T : TypeId} {n : Nat} {w1 : World} (h : (Go.sizeOf T).run P w = .ok n w1) : ∃ i, P.info? T = some i ∧ i.size = n := by
  unfold Go.sizeOf typeInfo program at h
  rw [Sem.run_bind] at h
  obtain ⟨i, w2, h1, h2⟩ := andThen_some h
  rw [Sem.run_bind] at h1
  have h1 : Sem.run P (match P.info? T with | some d => pure d | none => stuck "no such type") w = _ := h1
  cases hu : P.info? T with
  | none => rw [hu] at h1; cases h1
  | some d' => rw [hu] at h1; cases h1; cases h2; exact ⟨_, rfl, rfl⟩
theorem indexAt_ind {T : TypeId} {x i v : Value} {w1 : World} (h : (Instr.indexAt T x i).run P w = .ok v w1) : ∀ w', (Instr.indexAt T x i).run P w' = .ok v w' := by
  intro w'
  unfold Instr.indexAt at h ⊢
  cases i with
  | int k n =>
    simp only [asIntOf, Sem.run_bind, Sem.run_pure, Result.andThen_ok] at h ⊢
    obtain ⟨d, w2, h0, h⟩ := andThen_some h
    have hd := underlying_ind h0
    rw [run_underlying hd, Result.andThen_ok]
    have fin : ∀ (ad : Addr) (len : Nat) (elem : TypeId) (t : Prop) [Decidable t] (u : Unsupported) (w2 : World),
        Sem.run P (if 0 ≤ n ∧ n < len then (do let s ← Go.sizeOf elem; pure (Value.pointer (some (ad.add (n.toNat * s)))) : Sem Value) else if t then unsupported u else boundsPanic k n len .index) w2 = .ok v w1 →
        Sem.run P (if 0 ≤ n ∧ n < len then (do let s ← Go.sizeOf elem; pure (Value.pointer (some (ad.add (n.toNat * s)))) : Sem Value) else if t then unsupported u else boundsPanic k n len .index) w' = .ok v w' := by
      intro ad len elem t _ u w2 h
      split at h
      · rename_i hc
        rw [if_pos hc]
        rw [Sem.run_bind] at h ⊢
        obtain ⟨sz, w5, h2, h⟩ := andThen_some h
        obtain ⟨i, hi, rfl⟩ := sizeOf_ind h2
        rw [run_sizeOf hi, Result.andThen_ok]
        cases h; rfl
      · split at h
        · cases h
        · exact absurd h bounds_not
    cases d with
    | slice e =>
      cases x with
      | slice b l c =>
        simp only [Sem.run_bind, Sem.run_pure, Result.andThen_ok, run_underlying hd] at h ⊢
        cases b with
        | none => exact absurd h bounds_not
        | some ad => exact fin _ _ _ _ _ _ h
      | _ =>
        simp only [Sem.run_bind] at h
        obtain ⟨_, _, h1, _⟩ := andThen_some h
        cases h1
    | array l e =>
      simp only [Sem.run_bind] at h ⊢
      obtain ⟨ad, w5, h2, h⟩ := andThen_some h
      cases x with
      | pointer p =>
        cases p with
        | none => cases h2
        | some p =>
          simp only [Instr.sureAddr, Sem.run_pure, Result.ok.injEq] at h2
          obtain ⟨rfl, rfl⟩ := h2
          simp only [Instr.sureAddr, Sem.run_bind, Sem.run_pure, Result.andThen_ok, run_underlying hd] at h ⊢
          exact fin _ _ _ _ _ _ h
      | _ => cases h2
    | _ =>
      simp only [Sem.run_bind] at h
      obtain ⟨_, _, h1, _⟩ := andThen_some h
      cases h1
  | pointer p =>
    rw [Sem.run_bind] at h
    obtain ⟨_, _, h1, _⟩ := andThen_some h
    cases p <;> cases h1
  | _ =>
    rw [Sem.run_bind] at h
    obtain ⟨_, _, h1, _⟩ := andThen_some h
    cases h1
theorem len_ind {c : Call} (hE : EnvOk τ P env) (ho : o.op = .call c) (hb : c.callee = .builtin .len)
    (h : RelS τ cx S ds a.tmps w) (hl : opL env o (ds.map er) = some (cs, st')) : ∃ v, ∀ w', (execOp a.eval o).run P w' = .ok (.value v) w' := by
  simp only [opL, ho, hb] at hl
  split at hl
  · rename_i hsz
    simp only [Option.bind_eq_some_iff] at hl
    obtain ⟨tm, htm, u, hu, hl⟩ := hl
    split at hl
    · rename_i ht
      rw [Option.bind_eq_some_iff] at hl
      obtain ⟨n, hn, hl⟩ := hl
      have hi := h.rdOp (a := a) rfl hu
      have hd := hE.ty _ _ _ htm
      rw [ht] at hd
      have e0 : (c.args.map a.eval)[0]? = some (a.eval (arg c 0)) := by
        have : 0 < c.args.size := by omega
        simp [arg, this]
      have e1 : c.argTypes[0]? = some (argT c 0) := by
        have : 0 < c.argTypes.size := by omega
        simp [argT, this]
      suffices ∀ w', (Builtin.len_ c.argTypes o.type (c.args.map a.eval)).run P w' = .ok (.int .i64 n) w' from
        ⟨.int .i64 n, fun w' => by rw [run_builtin hb ho]; exact run_value (this w')⟩
      intro w'
      unfold lenOf at hn
      split at hn
      · cases hn
        obtain ⟨e2, r2⟩ := hi.str
        simp only [Desc, DG] at hd
        unfold Builtin.len_
        simp only [e0, e1, Sem.run_bind, run_underlying hd, Result.andThen_ok, e2, strV, size_mk]
        rfl
      · cases hn
        obtain ⟨a0, cap, e2, r1, r2, _⟩ := hi.row
        simp only [Desc, DG] at hd
        obtain ⟨e, i, z, hd, _⟩ := hd
        unfold Builtin.len_
        simp only [e0, e1, Sem.run_bind, run_underlying hd, Result.andThen_ok, e2]
        rfl
      · cases hn
    · cases hl
  · cases hl
theorem load_ind {T : TypeId} {j : Nat} (hE : EnvOk τ P env) (ho : o.op = .load T (.tmp j))
    (h : RelS τ cx S ds a.tmps w) (hl : opL env o (ds.map er) = some (cs, st')) (hc : ∀ c ∈ cs, c = true) :
    ∃ v b B, w.heap[b]? = some B ∧ (∀ w', w'.heap[b]? = some B → (execOp a.eval o).run P w' = .ok (.value v) w') ∧
      ((S b ∨ cx.Sb b) ∨ ∃ s p cs0 d d' o', Lk.addr (ds.map er) j = some (s, p, cs0) ∧ ds[s]? = some (.av d) ∧ d.at? p = some (d', some (b, o'))) := by
  simp only [opL, ho, Option.bind_eq_some_iff] at hl
  obtain ⟨tm, htm, hl⟩ := hl
  have hd := hE.ty _ _ _ htm
  obtain ⟨i, hi, hsz⟩ := hE.sz _ _ _ htm
  split at hl
  · rename_i s p cs0 hg
    split at hl
    · rename_i v0 hs0
      rw [Option.bind_eq_some_iff] at hl
      obtain ⟨u, hu, hl⟩ := hl
      split at hl
      · rename_i ht
        obtain ⟨hs, rfl⟩ := ret_some hl
        obtain ⟨d, d', b, o', g1, g2, g3⟩ := h.addr hg hc
        have hdh := (h.ok s _ g1).1
        obtain ⟨k1, k2, k3⟩ := at_hold τ _ _ _ _ _ _ _ _ g2 hdh lies_none
        obtain ⟨C, e, f, m1, m2, m3, m4⟩ := k2 b o' rfl
        obtain ⟨d0, hd0, rfl⟩ := getD_er hs0
        rw [g1] at hd0; cases hd0
        have hu' := at_getE _ _ _ _ _ _ _ _ g2
        simp only [DV.av] at hu
        rw [hu'] at hu
        cases hu
        have hcl : (d'.cells τ).length = csz d'.t := cells_length τ _ _ _
        rw [ht.1] at hd hsz
        rw [hcl] at m3 m4
        refine ⟨d'.val τ, b, _, m1, fun w' hw' => ?_, .inr ⟨s, p, _, d, d', o', hg, g1, g2⟩⟩
        simp only [execOp, ho]
        refine run_value ?_
        simp only [Act.eval, g3]
        unfold Instr.loadAt Instr.sureAddr
        rw [Sem.run_bind, Sem.run_pure, Result.andThen_ok]
        exact run_loadVar hd hi hsz hw' m3 m4
      · cases hl
    · cases hl
  · rw [Option.bind_eq_some_iff] at hl
    obtain ⟨v, hg, hl⟩ := hl
    split at hl
    · rename_i ht
      obtain ⟨hs, rfl⟩ := ret_some hl
      obtain ⟨b, o', C, e, f, h1, h2, h3, h4, h0, h5⟩ := h.addrR hg hc
      rw [ht] at hd hsz
      have hlen := Rd_length τ _ _ _ _ _ h5
      have hbnd : o' + csz v.1.t ≤ C.size ∨ csz v.1.t = 0 := by
        unfold win at hlen
        simp only [List.length_take, List.length_drop, Array.length_toList] at hlen
        omega
      refine ⟨valOf v.1.t (win C.toList o' (csz v.1.t)), b, _, h4, fun w' hw' => ?_, .inl h2⟩
      simp only [execOp, ho]
      refine run_value ?_
      simp only [Act.eval, h1]
      unfold Instr.loadAt Instr.sureAddr
      rw [Sem.run_bind, Sem.run_pure, Result.andThen_ok]
      rcases hbnd with hbnd | hbnd
      · exact run_loadVar hd hi hsz hw' hbnd rfl
      · unfold loadVar
        have hagg : isAggT v.1.t = true := by
          cases hq : isAggT v.1.t with
          | true => rfl
          | false => rw [csz_one hq] at hbnd; cases hbnd
        rw [Sem.run_bind, run_isAgg hd, Result.andThen_ok, hagg]
        simp only [if_true]
        rw [Sem.run_bind, run_sizeOf hi, Result.andThen_ok, hsz, hbnd]
        simp [loadCells, loadCellsFrom, valOf, hagg, win]
    · cases hl
def Blind {α : Type} (s : Sem α) : Prop := ∀ (P : Program) (w w1 : World) (v : α), s.run P w = .ok v w1 → ∀ w', s.run P w' = .ok v w'
theorem Blind.pure {α : Type} (x : α) : Blind (Pure.pure x : Sem α) := fun P w w1 v h w' => by cases h; rfl
theorem Blind.bind {α β : Type} {x : Sem α} {f : α → Sem β} (hx : Blind x) (hf : ∀ a, Blind (f a)) : Blind (x >>= f) := fun P w w1 v h w' => by
  rw [Sem.run_bind] at h ⊢
  obtain ⟨u, w2, h1, h2⟩ := andThen_some h
  rw [hx P w w2 u h1 w', Result.andThen_ok]
  exact hf u P w2 w1 v h2 w'
theorem Blind.halt {α : Type} (h : Halt) : Blind (.halt h : Sem α) := fun P w w1 v h w' => by cases h
theorem Blind.bounds {α : Type} {k : IntKind} {x y : Int} {c : BoundsCode} : Blind (boundsPanic k x y c : Sem α) := fun P w w1 v h w' => absurd h bounds_not
theorem Blind.under (T : TypeId) : Blind (underlying T) := fun P w w1 v h w' => run_underlying (underlying_ind h)
theorem Blind.size (T : TypeId) : Blind (Go.sizeOf T) := fun P w w1 v h w' => by
  obtain ⟨i, hi, rfl⟩ := sizeOf_ind h
  exact run_sizeOf hi
theorem Blind.int (v : Value) : Blind (asIntOf v) := by
  unfold asIntOf
  split
  · exact .pure _
  · exact .halt _
  · exact .halt _
theorem Blind.addr (v : Value) : Blind (Instr.sureAddr v) := by
  unfold Instr.sureAddr
  split
  · exact .pure _
  · exact .halt _
theorem Blind.bound (x : Value) (y : Nat) (c : BoundsCode) : Blind (Instr.sliceBound x y c) := by
  unfold Instr.sliceBound
  refine .bind (.int x) fun u => ?_
  simp only
  split
  · exact .pure _
  · exact .bounds
theorem Blind.boundsOf (sl : Bool) (len cap : Nat) (lo hi : Option Value) : Blind (Instr.sliceBounds sl len cap lo hi none) := by
  unfold Instr.sliceBounds
  cases hi <;> cases lo <;> simp only
  · exact .bind (.pure _) fun _ => .bind (.pure _) fun _ => .bind (.pure _) fun _ => .pure _
  · exact .bind (.pure _) fun _ => .bind (.pure _) fun _ => .bind (.bound _ _ _) fun _ => .pure _
  · exact .bind (.pure _) fun _ => .bind (.bound _ _ _) fun _ => .bind (.pure _) fun _ => .pure _
  · exact .bind (.pure _) fun _ => .bind (.bound _ _ _) fun _ => .bind (.bound _ _ _) fun _ => .pure _
theorem Blind.asAddr (v : Value) : Blind (Go.asAddr v) := by
  unfold Go.asAddr
  split
  · exact .pure _
  · intro P w w1 v h w'
    unfold runtimePanic at h
    rw [Sem.run_bind] at h
    obtain ⟨_, _, _, h⟩ := andThen_some h
    cases h
  · exact .halt _
theorem Blind.slice (T : TypeId) (x : Value) (lo hi : Option Value) : Blind (Instr.sliceAt T x lo hi none) := by
  unfold Instr.sliceAt
  refine .bind (.under T) fun d => ?_
  split
  · exact .bind (.addr x) fun _ => .bind (.boundsOf _ _ _ _ _) fun _ => .bind (.size _) fun _ => .pure _
  · unfold Instr.slice
    refine .bind (.under T) fun d => ?_
    split
    · refine .bind (.boundsOf _ _ _ _ _) fun _ => .pure _
    · exact .bind (.boundsOf _ _ _ _ _) fun _ => .bind (.size _) fun _ => .pure _
    · refine .bind (.asAddr x) fun _ => .bind (.under _) fun d => ?_
      split
      · exact .bind (.boundsOf _ _ _ _ _) fun _ => .bind (.size _) fun _ => .pure _
      · exact .halt _
    · exact .halt _
end Lk
end
