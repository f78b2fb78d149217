import Derived.Test.YtligonpmifolfaaGreatDoorLvSix
import Derived.Test.YtligonpmifolfaaGreatDoorLvEa
import Derived.Test.YtligonpmifolfaaGreatDoorLvEb
import Derived.Test.YtligonpmifolfaaGreatDoorLvEc
import Derived.Test.YtligonpmifolfaaGreatDoorLvNine
import Derived.Test.YtligonpmifolfaaGreatDoorLvFive
import Derived.Test.YtligonpmifolfaaGreatDoorLkThree
import Derived.Test.YtligonpmifolfaaGreatDoorCards
import Derived.Test.YtligonpmifolfaaGreatDoorTie
import Derived.WalkKit
import Derived.ProofKit
import Derived.OpenShut
import Derived.LaidHandle
import Derived.Deep.DeepHandedRow
import Derived.Lib.LaidTab
import Derived.Lib.LaidU8T
set_option linter.all false
section
namespace So
set_option maxRecDepth 100000
noncomputable def theFnsM : Nq.FnsM := {
 f72 := LvG.f109,
 f73 := LvG.f110,
 f25 := LvG.f57,
 p25_2050 := LvG.p57_2050,
 p25_2052 := LvG.p57_2052,
 p25_7 := LvG.p57_7,
 f50 := LvG.f79,
 f51 := LvG.f55,
 f72_eq := LvG.f109_eq,
 f73_eq := LvG.f110_eq,
 f25_eq := LvG.f57_eq,
 p25_2050_eq := LvG.p57_2050_eq,
 p25_2052_eq := LvG.p57_2052_eq,
 p25_7_eq := LvG.p57_7_eq,
 f50_eq := LvG.f79_eq,
 f51_eq := LvG.f55_eq }
end So
end
section
namespace So
set_option maxRecDepth 100000
noncomputable def theFnsP : Nq.FnsP := { theFnsM with
 f55 := LvG.f56,
 f27 := LvG.f24,
 p27_7 := LvG.p24_7,
 p27_8 := LvG.p24_8,
 p27_2060 := LvG.p24_2060,
 p27_2067 := LvG.p24_2067,
 p27_13 := LvG.p24_13,
 p27_20 := LvG.p24_20,
 f53 := LvG.f53,
 f54 := LvG.f54,
 f75 := LvG.f75,
 f76 := LvG.f76,
 f89 := LvG.f103,
 f64 := LvG.f102,
 f55_eq := LvG.f56_eq,
 f27_eq := LvG.f24_eq,
 p27_7_eq := LvG.p24_7_eq,
 p27_8_eq := LvG.p24_8_eq,
 p27_2060_eq := LvG.p24_2060_eq,
 p27_2067_eq := LvG.p24_2067_eq,
 p27_13_eq := LvG.p24_13_eq,
 p27_20_eq := LvG.p24_20_eq,
 f53_eq := LvG.f53_eq,
 f54_eq := LvG.f54_eq,
 f75_eq := LvG.f75_eq,
 f76_eq := LvG.f76_eq,
 f89_eq := LvG.f103_eq,
 f64_eq := LvG.f102_eq }
end So
end
section
namespace So
set_option maxRecDepth 100000
noncomputable def theFnsN : Nq.FnsN := { theFnsP with
 f26 := LvG.f91,
 p26_2050 := LvG.p91_2050,
 p26_3 := LvG.p91_3,
 p26_2052 := LvG.p91_2052,
 p26_5 := LvG.p91_5,
 f28 := LvG.f71,
 p28_3 := LvG.p71_3,
 p28_2054 := LvG.p71_2054,
 p28_8 := LvG.p71_8,
 p28_4 := LvG.p71_4,
 p28_2060 := LvG.p71_2060,
 p28_9 := LvG.p71_9,
 f52 := LvG.f115,
 p52_2 := LvG.p115_2,
 f74 := LvG.f133,
 p74_2 := LvG.p133_2,
 f26_eq := LvG.f91_eq,
 p26_2050_eq := LvG.p91_2050_eq,
 p26_3_eq := LvG.p91_3_eq,
 p26_2052_eq := LvG.p91_2052_eq,
 p26_5_eq := LvG.p91_5_eq,
 f28_eq := LvG.f71_eq,
 p28_3_eq := LvG.p71_3_eq,
 p28_2054_eq := LvG.p71_2054_eq,
 p28_8_eq := LvG.p71_8_eq,
 p28_4_eq := LvG.p71_4_eq,
 p28_2060_eq := LvG.p71_2060_eq,
 p28_9_eq := LvG.p71_9_eq,
 f52_eq := LvG.f115_eq,
 p52_2_eq := LvG.p115_2_eq,
 f74_eq := LvG.f133_eq,
 p74_2_eq := LvG.p133_2_eq }
end So
end
section
namespace LvG
set_option maxRecDepth 100000
noncomputable def theFnsO : So.FnsO where
 f43 := LvG.f109
 f44 := LvG.f110
 f21 := LvG.f56
 f8 := LvG.f80
 f23 := LvG.f112
 f24 := LvG.f113
 f25 := LvG.f114
 f12 := LvG.f83
 f13 := LvG.f84
 f14 := LvG.f85
 p14_3 := LvG.p85_3
 f15 := LvG.f86
 f36 := LvG.f102
 f29 := LvG.f75
 f18 := LvG.f53
 f37 := LvG.f103
 f30 := LvG.f76
 f19 := LvG.f54
 f33 := LvG.f79
 f20 := LvG.f55
 f22 := LvG.f57
 p22_2050 := LvG.p57_2050
 p22_2052 := LvG.p57_2052
 p22_7 := LvG.p57_7
 f52 := LvG.f126
 f11 := LvG.f24
 p11_7 := LvG.p24_7
 p11_8 := LvG.p24_8
 p11_2060 := LvG.p24_2060
 p11_2067 := LvG.p24_2067
 p11_13 := LvG.p24_13
 p11_20 := LvG.p24_20
 f10 := LvG.f82
 f46 := LvG.f149
 p46_1 := LvG.p149_1
 f35 := LvG.f142
 p35_2 := LvG.p142_2
 f27 := LvG.f131
 p27_1 := LvG.p131_1
 p27_4 := LvG.p131_4
 p27_6 := LvG.p131_6
 p27_2 := LvG.p131_2
 f28 := LvG.f132
 p28_3 := LvG.p132_3
 p28_15 := LvG.p132_15
 p28_32 := LvG.p132_32
 p28_9 := LvG.p132_9
 p28_21 := LvG.p132_21
 p28_33 := LvG.p132_33
 p28_2088 := LvG.p132_2088
 p28_41 := LvG.p132_41
 p28_2090 := LvG.p132_2090
 p28_43 := LvG.p132_43
 p28_2092 := LvG.p132_2092
 f17 := LvG.f111
 p17_2 := LvG.p111_2
 p17_7 := LvG.p111_7
 p17_9 := LvG.p111_9
 p17_16 := LvG.p111_16
 f9 := LvG.f81
 f57 := LvG.f133
 p57_2 := LvG.p133_2
 f45 := LvG.f115
 p45_2 := LvG.p115_2
 f34 := LvG.f91
 p34_2050 := LvG.p91_2050
 p34_3 := LvG.p91_3
 p34_2052 := LvG.p91_2052
 p34_5 := LvG.p91_5
 f26 := LvG.f71
 p26_3 := LvG.p71_3
 p26_2054 := LvG.p71_2054
 p26_8 := LvG.p71_8
 p26_4 := LvG.p71_4
 p26_2060 := LvG.p71_2060
 p26_9 := LvG.p71_9
 f16 := LvG.f90
 f5 := LvG.f70
 p5_3 := LvG.p70_3
 p5_6 := LvG.p70_6
 p5_7 := LvG.p70_7
 f4 := LvG.f58
 f6 := LvG.f43
 p6_4 := LvG.p43_4
 f43_eq := LvG.f109_eq
 f44_eq := LvG.f110_eq
 f21_eq := LvG.f56_eq
 f8_eq := LvG.f80_eq
 f23_eq := LvG.f112_eq
 f24_eq := LvG.f113_eq
 f25_eq := LvG.f114_eq
 f12_eq := LvG.f83_eq
 f13_eq := LvG.f84_eq
 f14_eq := LvG.f85_eq
 p14_3_eq := LvG.p85_3_eq
 f15_eq := LvG.f86_eq
 f36_eq := LvG.f102_eq
 f29_eq := LvG.f75_eq
 f18_eq := LvG.f53_eq
 f37_eq := LvG.f103_eq
 f30_eq := LvG.f76_eq
 f19_eq := LvG.f54_eq
 f33_eq := LvG.f79_eq
 f20_eq := LvG.f55_eq
 f22_eq := LvG.f57_eq
 p22_2050_eq := LvG.p57_2050_eq
 p22_2052_eq := LvG.p57_2052_eq
 p22_7_eq := LvG.p57_7_eq
 f52_eq := LvG.f126_eq
 f11_eq := LvG.f24_eq
 p11_7_eq := LvG.p24_7_eq
 p11_8_eq := LvG.p24_8_eq
 p11_2060_eq := LvG.p24_2060_eq
 p11_2067_eq := LvG.p24_2067_eq
 p11_13_eq := LvG.p24_13_eq
 p11_20_eq := LvG.p24_20_eq
 f10_eq := LvG.f82_eq
 f46_eq := LvG.f149_eq
 p46_1_eq := LvG.p149_1_eq
 f35_eq := LvG.f142_eq
 p35_2_eq := LvG.p142_2_eq
 f27_eq := LvG.f131_eq
 p27_1_eq := LvG.p131_1_eq
 p27_4_eq := LvG.p131_4_eq
 p27_6_eq := LvG.p131_6_eq
 p27_2_eq := LvG.p131_2_eq
 f28_eq := LvG.f132_eq
 p28_3_eq := LvG.p132_3_eq
 p28_15_eq := LvG.p132_15_eq
 p28_32_eq := LvG.p132_32_eq
 p28_9_eq := LvG.p132_9_eq
 p28_21_eq := LvG.p132_21_eq
 p28_33_eq := LvG.p132_33_eq
 p28_2088_eq := LvG.p132_2088_eq
 p28_41_eq := LvG.p132_41_eq
 p28_2090_eq := LvG.p132_2090_eq
 p28_43_eq := LvG.p132_43_eq
 p28_2092_eq := LvG.p132_2092_eq
 f17_eq := LvG.f111_eq
 p17_2_eq := LvG.p111_2_eq
 p17_7_eq := LvG.p111_7_eq
 p17_9_eq := LvG.p111_9_eq
 p17_16_eq := LvG.p111_16_eq
 f9_eq := LvG.f81_eq
 f57_eq := LvG.f133_eq
 p57_2_eq := LvG.p133_2_eq
 f45_eq := LvG.f115_eq
 p45_2_eq := LvG.p115_2_eq
 f34_eq := LvG.f91_eq
 p34_2050_eq := LvG.p91_2050_eq
 p34_3_eq := LvG.p91_3_eq
 p34_2052_eq := LvG.p91_2052_eq
 p34_5_eq := LvG.p91_5_eq
 f26_eq := LvG.f71_eq
 p26_3_eq := LvG.p71_3_eq
 p26_2054_eq := LvG.p71_2054_eq
 p26_8_eq := LvG.p71_8_eq
 p26_4_eq := LvG.p71_4_eq
 p26_2060_eq := LvG.p71_2060_eq
 p26_9_eq := LvG.p71_9_eq
 f16_eq := LvG.f90_eq
 f5_eq := LvG.f70_eq
 p5_3_eq := LvG.p70_3_eq
 p5_6_eq := LvG.p70_6_eq
 p5_7_eq := LvG.p70_7_eq
 f4_eq := LvG.f58_eq
 f6_eq := LvG.f43_eq
 p6_4_eq := LvG.p43_4_eq
end LvG
end
section
/-! What is told of the names' functions holds of the seat's. Plain. -/
namespace Lw
open Go Lk Lv
theorem h24 : ∀ j s, 30 ≤ j → List.length (α := UInt8) s ≤ 1048576 → LvG.f24 j s = some (Nq.parseA s) := fun j s hj hs => Nq.f27_ok So.theFnsP s (by omega) j hj
theorem h71 : ∀ j s, 1048700 ≤ j → List.length (α := UInt8) s ≤ 1048576 → LvG.f71 j s = some (Nq.parseA s) := fun j s hj hs => by
 rw [Nq.parse_same]
 exact Nq.f28_ok So.theFnsN s (by omega) j (by omega)
theorem toldB : Told1 where
 h24 := h24
 h71 := h71
 h58 := fun j L hj hL hsh => So.f4_ok LvG.theFnsO h24 L hL hsh j hj
 h70 := fun j L hj hL hsh => So.f5_ok LvG.theFnsO h71 L hL hsh j hj
end Lw
end
section
/-! What the rows of this seat share: what is listed in the world; how much a reading holds. -/
namespace Go.Proofs.YtligonpmifolfaaGreatDoor
open Go.ChangeShapes Go.WideShapes Go.ChangeAt Go.RowKit
theorem own : ownKnob Tryz.prog.godebug = none := by kernel_rfl
theorem trod_iface {P : Program} {W : World} {sp : Nat → Bool} {fuel : Nat} {t : TypeId} {ms : Array (String × TypeId)} {l : List Value} {x : DataW Unit × List MemPlace} (hu : P.underlying t = some (.interface ms)) (hl : DataW.trod (H := Unit) (fun _ => ()) P W 0 sp false fuel t l = some x) : ∃ e, l = [e] ∧ isErr e := by
 cases fuel with
 | zero => simp [DataW.trod] at hl
 | succ n =>
  unfold DataW.trod at hl
  rw [hu] at hl
  match l with
  | [.nilIface] => exact ⟨_, rfl, .inl rfl⟩
  | [.iface u v] => exact ⟨_, rfl, .inr ⟨u, v, rfl⟩⟩
  | [] => simp at hl
  | a :: b :: r => simp at hl
  | [a] => cases a <;> first | exact ⟨_, rfl, .inl rfl⟩ | exact ⟨_, rfl, .inr ⟨_, _, rfl⟩⟩ | simp at hl
theorem err_at {W : World} {n : String} {d : DataW Unit} {g : Nat} (hg : Tryz.prog.globalNamed n = some g) (hty : (Tryz.prog.globals[g]?).map (·.type) = some 90) (h : Lib.VarReads Tryz.prog W n d) : ∃ e, W.cell? ⟨g, 0, none⟩ = some e ∧ isErr e := by
 obtain ⟨g', t', cs, fuel, p, hg', ht', hvar, hd⟩ := h
 obtain rfl := Option.some.inj (hg.symm.trans hg')
 obtain rfl := Option.some.inj (hty.symm.trans ht')
 obtain ⟨ms, hu⟩ : ∃ ms, Tryz.prog.underlying 90 = some (.interface ms) := LvGP.env.ty 90 .e .r (by kernel_rfl)
 have hc := World.var?_cell hg hvar 0
 obtain ⟨e, he, hi⟩ := trod_iface hu hd
 refine ⟨e, ?_, hi⟩
 rw [hc, ← Array.getElem?_toList, he]
 rfl
theorem pow_eq : (Rows.laid_internal_strconv_uint64pow10 : DataW Unit) = Lib.tabData .u64 Lib.pow10Tab := by kernel_rfl
theorem tabs {W : World} (h : laidMet Tryz.prog Rows.livePlaysUptoRow.laid W) : Tabs W := by
 have r1 := Lib.laidMet.reads h (.tail _ (.tail _ (.tail _ (.tail _ (.head _)))))
 have r2 := Lib.laidMet.reads h (.tail _ (.tail _ (.tail _ (.head _))))
 have r3 := Lib.laidMet.reads h (.tail _ (.tail _ (.head _)))
 rw [pow_eq] at r3
 refine ⟨err_at (by kernel_rfl) (by kernel_rfl) r1, err_at (by kernel_rfl) (by kernel_rfl) r2, ?_⟩
 obtain ⟨g', t', cs, fuel, p, hg', ht', hvar, hd⟩ := r3
 have hty : (Tryz.prog.globals[2]?).map (·.type) = some 182 := by kernel_rfl
 obtain rfl := Option.some.inj (pow_at.symm.trans hg')
 obtain rfl := Option.some.inj (hty.symm.trans ht')
 unfold Lib.TabIs
 rw [hvar, ← Lib.cells_of_tab (n := 20) (e := 55) (by kernel_rfl) (by kernel_rfl) (by kernel_rfl) (by kernel_rfl) hd]
theorem kwn {W : World} (h : Tabs W) : kw.n ≤ W.heap.size := pow_lt h.2.2
def laidCells (cs : List Value) : Obj → Obj
 | .cells _ t frozen => .cells cs.toArray t frozen
 | o => o
noncomputable def u8s (zs : List Nat) : List Value := zs.map fun z : Nat => Value.int .u8 (z : Int)
noncomputable def laidWorld (os : Os) : World :=
 let w := World.holding Tryz.prog os ⟨#[], #[], []⟩
 { w with heap := ((((((w.heap.push (.cells #[.string ⟨#[118, 97, 108, 117, 101, 32, 111, 117, 116, 32, 111, 102, 32, 114, 97, 110, 103, 101]⟩] 168 (0, 0))).push (.cells #[.string ⟨#[105, 110, 118, 97, 108, 105, 100, 32, 115, 121, 110, 116, 97, 120]⟩] 168 (0, 0))).modify 1 (laidCells [.iface 166 (.pointer (some ⟨w.heap.size, 0, none⟩))])).modify 0 (laidCells [.iface 166 (.pointer (some ⟨w.heap.size + 1, 0, none⟩))])).modify 2 (laidCells (Lib.pow10Tab.map fun z => Value.int .u64 z))).modify 4 (laidCells (u8s [0, 1, 28, 2, 29, 14, 24, 3, 30, 22, 20, 15, 25, 17, 4, 8, 31, 27, 13, 23, 21, 19, 16, 7, 26, 12, 18, 6, 11, 5, 10, 9]))).modify 5 (laidCells (u8s [0, 1, 56, 2, 57, 49, 28, 3, 61, 58, 42, 50, 38, 29, 17, 4, 62, 47, 59, 36, 45, 43, 51, 22, 53, 39, 33, 30, 24, 18, 12, 5, 63, 55, 48, 27, 60, 41, 37, 16, 46, 35, 44, 21, 52, 32, 23, 11, 54, 26, 40, 15, 34, 20, 31, 10, 25, 14, 19, 9, 13, 8, 7, 6])) }
theorem plain (name : String) (g : FuncId) (fg : Func) (ts : Array TypeId) (hn : Tryz.prog.funcNamed name = some g) (hg : Tryz.prog.funcs[g]? = some fg) (hp : fg.params = ts) (hs : ts.all (fun t => !Tryz.prog.wantsStandIn t) = true) (f : FuncId) (fn : Func) (hf : Tryz.pinned.checked.prog.funcNamed name = some f) (hfn : Tryz.pinned.checked.prog.funcs[f]? = some fn) :
  true = Tryz.pinned.checked.prog.looks [] ∧ ∀ (j : Nat) t, fn.params[j]? = some t → Tryz.pinned.checked.prog.wantsStandIn t = false := by
 obtain rfl : f = g := (Option.some.inj (hn.symm.trans hf)).symm
 obtain rfl : fn = fg := (Option.some.inj (hg.symm.trans hfn)).symm
 refine ⟨by kernel_rfl, fun j t ht => ?_⟩
 rw [hp] at ht
 have hm := Array.mem_of_getElem? ht
 rw [Array.all_eq_true_iff_forall_mem] at hs
 have h1 := hs t hm
 have h2 : (!Tryz.prog.wantsStandIn t) = true := h1
 exact (by simpa using h2 : Tryz.prog.wantsStandIn t = false)
section
variable {H : Type}
theorem bulk_pos : ∀ (d : DataW H), 1 ≤ Rows.uptoBulk d := by
 intro d
 cases d with
 | lit l => cases l <;> simp [Rows.uptoBulk]
 | _ => simp [Rows.uptoBulk]
theorem all2_bulk {α : Type} {R : α → DataW H → Prop} {f : α → Nat} (hf : ∀ y e, R y e → f y ≤ Rows.uptoBulk e) : ∀ (x : List α) (es : List (DataW H)), Lk.All2 R x es → (x.map f).sum ≤ Rows.uptoBulkAll es ∧ ∀ y ∈ x, ∃ e, R y e ∧ Rows.uptoBulk e ≤ Rows.uptoBulkAll es
 | [], [], _ => ⟨Nat.le_refl _, by simp⟩
 | a :: x, e :: es, h => by
  obtain ⟨h1, h2⟩ := h
  obtain ⟨g1, g2⟩ := all2_bulk hf x es h2
  have := hf a e h1
  simp only [List.map_cons, List.sum_cons, Rows.uptoBulkAll]
  refine ⟨by omega, fun y hy => ?_⟩
  rcases List.mem_cons.1 hy with rfl | hy
  ·exact ⟨e, h1, by omega⟩
  ·obtain ⟨e', k1, k2⟩ := g2 y hy
   exact ⟨e', k1, by omega⟩
 | [], _ :: _, h => h.elim
 | _ :: _, [], h => h.elim
theorem row_bulk {t : Lk.Ty} {f : Lk.E t → Nat} {x : List (Lk.E t)} {d : DataW H} (h : Lk.Told (.l t) x d) (hf : ∀ (y : Lk.E t) (e : DataW H), Lk.Told t y e → f y ≤ Rows.uptoBulk e) : (x.map f).sum ≤ Rows.uptoBulk d ∧ ∀ y ∈ x, ∃ e : DataW H, Lk.Told t y e ∧ Rows.uptoBulk e ≤ Rows.uptoBulk d := by
 rcases h with ⟨h, rfl⟩ | ⟨es, rest, rfl, h⟩
 ·rw [h]; exact ⟨Nat.zero_le _, by simp⟩
 ·obtain ⟨g1, g2⟩ := all2_bulk hf x es h
  simp only [Rows.uptoBulk]
  refine ⟨by omega, fun y hy => ?_⟩
  obtain ⟨e, k1, k2⟩ := g2 y hy
  exact ⟨e, k1, by omega⟩
theorem sum_one {α : Type} : ∀ (l : List α), (l.map fun _ => 1).sum = l.length
 | [] => rfl
 | a :: l => by rw [List.map_cons, List.sum_cons, sum_one l, List.length_cons]; omega
theorem row_len {t : Lk.Ty} {x : List (Lk.E t)} {d : DataW H} (h : Lk.Told (.l t) x d) : x.length ≤ Rows.uptoBulk d := by
 have := (row_bulk (f := fun _ => 1) h (fun y e _ => bulk_pos e)).1
 rw [sum_one] at this; exact this
abbrev ActT : Lk.Ty := .c (.i .i64) (.c (.i .i64) (.c (.i .i64) (.c Lv.LvT (.c (.l .s) .u))))
theorem lev_bulk {x : Lv.Levels} {d : DataW H} (h : Lk.Told Lv.LvT x d) : x.length ≤ Rows.uptoBulk d ∧ (∀ y ∈ x, y.length ≤ Rows.uptoBulk d) ∧ (LvS1.nums x).length ≤ Rows.uptoBulk d := by
 have h1 := row_len h
 obtain ⟨h2, h3⟩ := row_bulk (f := fun y : List Lk.LFile => y.length) h (fun y e he => row_len he)
 refine ⟨h1, fun y hy => ?_, ?_⟩
 ·obtain ⟨e, k1, k2⟩ := h3 y hy
  exact Nat.le_trans (row_len k1) k2
 ·have e : (LvS1.nums x).length = (x.map fun y => List.length y).sum := by
   unfold LvS1.nums
   rw [List.length_flatten, List.map_map]
   congr 1
   refine List.map_congr_left fun y _ => ?_
   simp
  rw [e]; exact h2
theorem lev_sm {x : Lv.Levels} {d : DataW H} (h : Lk.Told Lv.LvT x d) (hB : Rows.uptoBulk d ≤ 1048576) : Lw.Sm x 1048576 := by
 obtain ⟨h1, h2, h3⟩ := lev_bulk h
 exact ⟨by omega, fun y hy => by have := h2 y hy; omega, by omega, by omega⟩
theorem txt_bulk {x : List (List UInt8)} {d : DataW H} (h : Lk.Told (.l .s) x d) : x.length ≤ Rows.uptoBulk d ∧ ∀ y ∈ x, List.length (α := UInt8) y ≤ Rows.uptoBulk d := by
 have h1 := row_len h
 obtain ⟨_, h3⟩ := row_bulk (f := fun _ => 1) h (fun y e _ => bulk_pos e)
 refine ⟨h1, fun y hy => ?_⟩
 obtain ⟨e, k1, k2⟩ := h3 y hy
 have k1' : e = .lit (.string y) := k1
 subst k1'
 simp only [Rows.uptoBulk] at k2
 omega
theorem act_bulk {a : Lw.Act} {d : DataW H} (h : Lk.Told ActT a d) : Lw.wt a ≤ Rows.uptoBulk d ∧ (Rows.uptoBulk d ≤ 1048576 → Lw.ActOk a) := by
 obtain ⟨d1, _, rfl, _, d2, _, rfl, _, d3, _, rfl, _, d4, _, rfl, h4, d5, _, rfl, h5, _⟩ := h
 obtain ⟨g1, g2, g3⟩ := lev_bulk h4
 obtain ⟨k1, k2⟩ := txt_bulk h5
 simp only [Rows.uptoBulk, Rows.uptoBulkAll]
 refine ⟨by unfold Lw.wt; omega, fun hB => ⟨⟨by omega, fun y hy => by have := g2 y hy; omega, by omega, by omega⟩, by omega, fun y hy => by have := k2 y hy; omega⟩⟩
theorem acts_bulk {x : List Lw.Act} {d : DataW H} (h : Lk.Told (.l ActT) x d) (hB : Rows.uptoBulk d ≤ 1048576) : (∀ a ∈ x, Lw.ActOk a) ∧ x.length ≤ 1048576 ∧ (x.map Lw.wt).sum ≤ 3000000 := by
 obtain ⟨h1, h2⟩ := row_bulk (t := ActT) (f := Lw.wt) h (fun y e he => (act_bulk he).1)
 have h3 := row_len h
 refine ⟨fun a ha => ?_, by omega, by omega⟩
 obtain ⟨e, k1, k2⟩ := h2 a ha
 exact (act_bulk k1).2 (by omega)
end
end Go.Proofs.YtligonpmifolfaaGreatDoor
end
section
namespace Lw
theorem told4 : Told1 := toldB
end Lw
end
