import Derived.Test.YthndplnjiibgkaaDoorLkThree
import Derived.WalkKit
import Derived.ProofKit
import Derived.Lib.LaidTab
import Derived.Test.YthndplnjiibgkaaDoorProg
import Derived.RangeFuncOwn
import Derived.RangeFuncLeaves
import Derived.TacticsIn
import Derived.RegionIn
import Derived.TacticsInMore
import Derived.OwnWalkIn
set_option linter.all false
section
/-! The sum by half bytes is the sum bit by bit. Plain. -/
namespace Rr
def step (r : BitVec 32) : BitVec 32 := (r >>> 1) ^^^ (if r.getLsbD 0 then 0x82f63b78#32 else 0#32)
theorem step_xor (a b : BitVec 32) : step (a ^^^ b) = step a ^^^ step b := by
  unfold step
  rw [BitVec.getLsbD_xor, BitVec.ushiftRight_xor_distrib]
  cases a.getLsbD 0 <;> cases b.getLsbD 0 <;> simp only [Bool.xor_false, Bool.xor_true, Bool.not_true, Bool.not_false, Bool.false_eq_true, if_true, if_false, BitVec.xor_zero]
  · rw [BitVec.xor_assoc]
  · rw [BitVec.xor_assoc, BitVec.xor_assoc]; congr 1; rw [BitVec.xor_comm]
  · have : ∀ x y p : BitVec 32, x ^^^ y = x ^^^ p ^^^ (y ^^^ p) := fun x y p => by
      rw [BitVec.xor_assoc, ← BitVec.xor_assoc p y p, BitVec.xor_comm p y, BitVec.xor_assoc y p p, BitVec.xor_self, BitVec.xor_zero]
    exact this _ _ _
theorem step_even {r : BitVec 32} (h : r.getLsbD 0 = false) : step r = r >>> 1 := by
  unfold step
  rw [h]; simp
def short : List Nat := [0x00000000, 0x105ec76f, 0x20bd8ede, 0x30e349b1, 0x417b1dbc, 0x5125dad3, 0x61c69362, 0x7198540d, 0x82f63b78, 0x92a8fc17, 0xa24bb5a6, 0xb21572c9, 0xc38d26c4, 0xd3d3e1ab, 0xe330a81a, 0xf36e6f75]
def half (r : BitVec 32) : BitVec 32 := (r >>> 4) ^^^ BitVec.ofNat 32 (short.getD (r &&& 15#32).toNat 0)
theorem low_tab : ∀ v : BitVec 4, step (step (step (step (v.setWidth 32)))) = BitVec.ofNat 32 (short.getD v.toNat 0) := by decide +kernel
theorem half_eq (r : BitVec 32) : step (step (step (step r))) = half r := by
  have hr : r = ((r >>> 4) <<< 4) ^^^ (r.setWidth 4).setWidth 32 := by
    apply BitVec.eq_of_getLsbD_eq
    intro i hi
    rw [BitVec.getLsbD_xor, BitVec.getLsbD_shiftLeft, BitVec.getLsbD_ushiftRight, BitVec.getLsbD_setWidth, BitVec.getLsbD_setWidth]
    by_cases h : i < 4
    · simp [h, hi]
    · simp only [h, hi, decide_true, decide_false, Bool.not_false, Bool.true_and, Bool.false_and, Bool.xor_false]
      rw [show 4 + (i - 4) = i by omega]
  have hand : (r &&& 15#32).toNat = (r.setWidth 4).toNat := by
    rw [BitVec.toNat_and, BitVec.toNat_setWidth]
    exact Nat.and_two_pow_sub_one_eq_mod _ 4
  have h4 : ∀ q : BitVec 32, q.getLsbD 31 = false → q.getLsbD 30 = false → q.getLsbD 29 = false → q.getLsbD 28 = false → step (step (step (step (q <<< 4)))) = q := by
    intro q h1 h2 h3 h4
    have e : ∀ k, k < 4 → (q <<< (k + 1)).getLsbD 0 = false := fun k _ => by rw [BitVec.getLsbD_shiftLeft]; simp
    have s : ∀ k, k < 4 → step (q <<< (k + 1)) = q <<< k := by
      intro k hk
      rw [step_even (e k hk)]
      apply BitVec.eq_of_getLsbD_eq
      intro i hi
      rw [BitVec.getLsbD_ushiftRight, BitVec.getLsbD_shiftLeft, BitVec.getLsbD_shiftLeft]
      by_cases hik : i < k
      · rw [show decide (1 + i < k + 1) = true by simp; omega, show decide (i < k) = true by simpa using hik]; simp
      · rw [show decide (1 + i < k + 1) = false by simp; omega, show decide (i < k) = false by simpa using hik, show 1 + i - (k + 1) = i - k by omega]
        by_cases h31 : 1 + i < 32
        · simp [h31, hi]
        · have hi31 : i = 31 := by omega
          subst hi31
          simp only [show ¬ (1 + 31 < 32) by omega, decide_false, Bool.false_and]
          have : k = 0 ∨ k = 1 ∨ k = 2 ∨ k = 3 := by omega
          rw [BitVec.getLsbD_eq_getElem (by omega)] at h1 h2 h3 h4
          rcases this with rfl | rfl | rfl | rfl <;> simp [h1, h2, h3, h4]
    rw [s 3 (by omega), s 2 (by omega), s 1 (by omega), s 0 (by omega)]
    simp
  conv => lhs; rw [hr]
  rw [step_xor, step_xor, step_xor, step_xor, low_tab, h4 _ (by simp) (by simp) (by simp) (by simp)]
  unfold half
  rw [hand]
def bit (r b : BitVec 32) : BitVec 32 := (r >>> 1) ^^^ (if (r ^^^ b).getLsbD 0 then 0x82f63b78#32 else 0#32)
theorem bit_step (r b : BitVec 32) : step (r ^^^ b) = bit r b ^^^ (b >>> 1) := by
  unfold step bit
  rw [BitVec.ushiftRight_xor_distrib, BitVec.xor_assoc, BitVec.xor_assoc, BitVec.xor_comm (b >>> 1)]
def bits (b : BitVec 32) : Nat → Nat → BitVec 32 → BitVec 32
  | 0, _, r => r
  | n + 1, k, r => bits b n (k + 1) (bit r (b >>> k))
def steps : Nat → BitVec 32 → BitVec 32
  | 0, r => r
  | n + 1, r => steps n (step r)
theorem bits_steps (b : BitVec 32) : ∀ (n k : Nat) (r : BitVec 32), steps n (r ^^^ (b >>> k)) = bits b n k r ^^^ (b >>> (k + n))
  | 0, k, r => rfl
  | n + 1, k, r => by
    have e : b >>> k >>> 1 = b >>> (k + 1) := by rw [← BitVec.shiftRight_add]
    rw [steps, bit_step, e, bits_steps b n (k + 1) _, show k + 1 + n = k + (n + 1) by omega]; rfl
theorem byte_eq (r : BitVec 32) (c : Nat) (hc : c < 256) : half (half (r ^^^ BitVec.ofNat 32 c)) = bits (BitVec.ofNat 32 c) 8 0 r := by
  have h := bits_steps (BitVec.ofNat 32 c) 8 0 r
  have hz : BitVec.ofNat 32 c >>> (0 + 8) = 0#32 := by
    apply BitVec.eq_of_toNat_eq
    rw [BitVec.toNat_ushiftRight, BitVec.toNat_ofNat, Nat.shiftRight_eq_div_pow]
    have : c % 2 ^ 32 = c := Nat.mod_eq_of_lt (by omega)
    rw [this]
    show c / 256 = 0
    omega
  rw [hz, BitVec.xor_zero] at h
  have h0 : BitVec.ofNat 32 c >>> 0 = BitVec.ofNat 32 c := by simp
  rw [h0] at h
  rw [← h, ← half_eq, ← half_eq]
  rfl
end Rr
end
section
/-! check.take: a register takes a byte: the walk. -/
namespace Rr
open Go Go.RowKit Go.Proofs
def shortI : List Int := [0x00000000, 0x105ec76f, 0x20bd8ede, 0x30e349b1, 0x417b1dbc, 0x5125dad3, 0x61c69362, 0x7198540d, 0x82f63b78, 0x92a8fc17, 0xa24bb5a6, 0xb21572c9, 0xc38d26c4, 0xd3d3e1ab, 0xe330a81a, 0xf36e6f75]
def Tab (w : World) : Prop := Lib.TabIs Tryd.prog w "moraine/check.short" .u32 shortI
theorem tab_at : Tryd.prog.globalNamed "moraine/check.short" = some 0 := by kernel_rfl
theorem ibits_u32 (op : BinOp) (hop : op = .and ∨ op = .xor) (a b : Nat) (ha : a < 4294967296) (hb : b < 4294967296) : Lk.ibits op .u32 (a : Int) (b : Int) = ((if op = .and then a &&& b else a ^^^ b : Nat) : Int) := by
  rcases hop with rfl | rfl
  · exact Lk.and_u32 ha hb
  · unfold Lk.ibits
    simp only [Lk.ofInt_nat]
    show IntKind.u32.wrap (((BitVec.ofNat 32 a) ^^^ (BitVec.ofNat 32 b)).toNat : Int) = _
    rw [BitVec.toNat_xor, BitVec.toNat_ofNat, BitVec.toNat_ofNat, Nat.mod_eq_of_lt (by omega), Nat.mod_eq_of_lt (by omega)]
    have : a ^^^ b < 2 ^ 32 := Nat.xor_lt_two_pow (by omega) (by omega)
    exact Lk.wrap_u32 (by omega)
theorem gbits (op : BinOp) (k : IntKind) (a b : Int) (h : op = .and ∨ op = .xor) : Go.bits op k a b = Lk.ibits op k a b := by
  rcases h with rfl | rfl <;> rfl
def nibN (x : Nat) : Nat := (x / 16) ^^^ short.getD (x % 16) 0
def takeN (r : Nat) (b : UInt8) : Nat := nibN (nibN (r ^^^ b.toNat))
theorem short_lt : ∀ i, i < 16 → short.getD i 0 < 4294967296 ∧ shortI.getD i 0 = ((short.getD i 0 : Nat) : Int) := by decide +kernel
theorem nib_lt {x : Nat} (h : x < 4294967296) : nibN x < 4294967296 := by
  have := (short_lt (x % 16) (by omega)).1
  exact Nat.xor_lt_two_pow (n := 32) (by omega) this
theorem take_lt {r : Nat} (h : r < 4294967296) (b : UInt8) : takeN r b < 4294967296 := by
  have hb : b.toNat < 256 := UInt8.toNat_lt b
  exact nib_lt (nib_lt (Nat.xor_lt_two_pow (n := 32) h (by omega)))
set_option maxRecDepth 100000 in
set_option maxHeartbeats 1000000 in
theorem take_any (w : World) (hT : Tab w) (r : Nat) (hr : r < 4294967296) (b : UInt8) : Calls Tryd.prog 50 #[.int .u32 r, .int .u8 b.toNat] w fun e w' => e = .returned (.int .u32 (takeN r b)) ∧ w' = w := by
  have hb : b.toNat < 256 := UInt8.toNat_lt b
  have hcell : ∀ i : Nat, i < 16 → w.cell? ⟨0, i, none⟩ = some (.int .u32 (shortI.getD i 0)) := fun i hi => hT.cell tab_at i hi
  have e0 : Go.bits BinOp.xor IntKind.u32 (↑r) (↑b.toNat) = ((r ^^^ b.toNat : Nat) : Int) := by
    rw [gbits _ _ _ _ (.inr rfl), ibits_u32 _ (.inr rfl) _ _ hr (by omega)]; rfl
  unfold takeN
  generalize hx : r ^^^ b.toNat = x at e0
  have hxl : x < 4294967296 := by rw [← hx]; exact Nat.xor_lt_two_pow (n := 32) hr (by omega)
  have e1 : ∀ x : Nat, x < 4294967296 → Go.bits BinOp.and IntKind.u32 (x : Int) 15 = ((x % 16 : Nat) : Int) := by
    intro x hxl
    have := ibits_u32 .and (.inl rfl) x 15 hxl (by omega)
    rw [gbits _ _ _ _ (.inl rfl)]
    refine Eq.trans this ?_
    rw [if_pos rfl]
    exact congrArg _ (Nat.and_two_pow_sub_one_eq_mod x 4)
  have en : ∀ x : Nat, x < 4294967296 → Go.bits BinOp.xor IntKind.u32 (↑x / 16) (shortI[x % 16]?.getD 0) = ((nibN x : Nat) : Int) := by
    intro x hxl
    obtain ⟨s1, s2⟩ := short_lt (x % 16) (by omega)
    rw [← List.getD_eq_getElem?_getD, s2, gbits _ _ _ _ (.inr rfl), show ((x : Int) / 16) = ((x / 16 : Nat) : Int) by omega, ibits_u32 _ (.inr rfl) _ _ (by omega) s1]
    rfl
  have e2 := e1 x hxl
  have hm : x % 16 < 16 := by omega
  have hc1 := hcell (x % 16) hm
  have e3 := en x hxl
  have hyl := nib_lt hxl
  generalize nibN x = y at e3 hyl ⊢
  have e4 := e1 y hyl
  have hm2 : y % 16 < 16 := by omega
  have hc2 := hcell (y % 16) hm2
  have e5 := en y hyl
  clear e1 en hcell hT
  go_enter Tryd.func50, Tryd.ntmps50
  go_wp2
  refine wp_loop_rounds 3 ?_
  rw [rounds_succ]
  go_wp2
  rw [rounds_succ]
  go_wp2
  rw [rounds_succ]
  go_wp2
  go_ret
  exact ⟨rfl, rfl⟩
theorem nib_half (r : BitVec 32) : nibN r.toNat = (half r).toNat := by
  unfold nibN half
  have h1 : (r &&& 15#32).toNat = r.toNat % 16 := by
    rw [BitVec.toNat_and]
    exact Nat.and_two_pow_sub_one_eq_mod _ 4
  rw [BitVec.toNat_xor, BitVec.toNat_ushiftRight, Nat.shiftRight_eq_div_pow, h1, BitVec.toNat_ofNat, Nat.mod_eq_of_lt (short_lt (r.toNat % 16) (by omega)).1]
theorem take_bits (r : Nat) (hr : r < 4294967296) (b : UInt8) : takeN r b = (bits (BitVec.ofNat 32 b.toNat) 8 0 (BitVec.ofNat 32 r)).toNat := by
  have hb : b.toNat < 256 := UInt8.toNat_lt b
  rw [← byte_eq _ _ hb, ← nib_half, ← nib_half, BitVec.toNat_xor, BitVec.toNat_ofNat, BitVec.toNat_ofNat, Nat.mod_eq_of_lt (by omega), Nat.mod_eq_of_lt (by omega)]
  rfl
end Rr
end
section
namespace RrG
open Go Lk
noncomputable def tys : BT (Ty × Md) := (.node (.node (.node (.node (.node (.node (.node .leaf 1 (.z .fn, .r) .leaf) 2 (.i .i64, .r) .leaf) 3 (.i .i64, .r) (.node .leaf 4 (.b, .r) .leaf)) 5 (.by, .r) (.node (.node (.node .leaf 6 (.by, .r) .leaf) 7 (.c (.i .i64) (.c (.i .i64) (.c (.b) (.c (.by) (.u)))), (.q .r (.q .r (.q .r (.q .r .r))))) .leaf) 8 (.c (.i .i64) (.c (.i .i64) (.c (.b) (.c (.by) (.u)))), (.q .r (.q .r (.q .r (.q .r .r))))) (.node .leaf 9 (.s, .r) .leaf))) 10 (.s, .r) (.node (.node (.node (.node .leaf 11 (.s, .r) .leaf) 12 (.i .u64, .r) .leaf) 13 (.c (.s) (.c (.i .u64) (.u)), (.q .r (.q .r .r))) (.node .leaf 14 (.c (.s) (.c (.i .u64) (.u)), (.q .r (.q .r .r))) .leaf)) 15 (.z .pt, .r) (.node (.node (.node .leaf 16 (.z .pt, .r) .leaf) 17 (.z .pt, .r) .leaf) 18 (.c (.z .pt) (.u), (.q .r .r)) (.node .leaf 19 (.c (.z .pt) (.u), (.q .r .r)) .leaf)))) 20 (.e, .r) (.node (.node (.node (.node (.node .leaf 21 (.i .i32, .r) .leaf) 22 (.l (.s), (.o .r)) .leaf) 23 (.l (.l (.by)), (.o (.o .r))) (.node .leaf 24 (.l (.by), (.o .r)) .leaf)) 26 (.z .fn, .r) (.node (.node (.node .leaf 28 (.z .fn, .r) .leaf) 29 (.z .fn, .r) .leaf) 30 (.z .fn, .r) (.node .leaf 31 (.i .i64, .r) .leaf))) 33 (.z .fn, .r) (.node (.node (.node (.node .leaf 34 (.i .u64, .r) .leaf) 35 (.l (.c (.i .i64) (.c (.s) (.c (.s) (.u)))), (.o (.q .r (.q .r (.q .r .r))))) .leaf) 37 (.z .fn, .r) (.node .leaf 38 (.z .fn, .r) .leaf)) 39 (.l (.c (.l (.by)) (.c (.i .i64) (.u))), (.o (.q (.o .r) (.q .r .r)))) (.node (.node .leaf 41 (.z .fn, .r) .leaf) 43 (.z .fn, .r) (.node .leaf 44 (.c (.l (.by)) (.c (.i .i64) (.u)), (.q (.o .r) (.q .r .r))) .leaf))))) 45 (.c (.l (.by)) (.c (.i .i64) (.u)), (.q (.o .r) (.q .r .r))) (.node (.node (.node (.node (.node (.node .leaf 46 (.p (.c (.i .i64) (.c (.l (.by)) (.c (.i .i64) (.c (.l (.by)) (.c (.b) (.u)))))), (.o (.q .r (.q .r (.q .r (.q (.o .r) (.q .r .r))))))) .leaf) 47 (.c (.i .i64) (.c (.l (.by)) (.c (.i .i64) (.c (.l (.by)) (.c (.b) (.u))))), (.q .r (.q .r (.q .r (.q (.o .r) (.q .r .r)))))) .leaf) 48 (.c (.i .i64) (.c (.l (.by)) (.c (.i .i64) (.c (.l (.by)) (.c (.b) (.u))))), (.q .r (.q .r (.q .r (.q (.o .r) (.q .r .r)))))) (.node .leaf 49 (.z .fn, .r) .leaf)) 50 (.z .fn, .r) (.node (.node (.node .leaf 51 (.z .fn, .r) .leaf) 53 (.z .fn, .r) .leaf) 54 (.z .fn, .r) (.node .leaf 55 (.z .fn, .r) .leaf))) 56 (.z .fn, .r) (.node (.node (.node (.node .leaf 57 (.c (.i .i64) (.c (.s) (.c (.s) (.u))), (.q .r (.q .r (.q .r .r)))) .leaf) 58 (.c (.i .i64) (.c (.s) (.c (.s) (.u))), (.q .r (.q .r (.q .r .r)))) .leaf) 59 (.c (.i .u64) (.c (.c (.i .i64) (.c (.s) (.c (.s) (.u)))) (.c (.i .i64) (.u))), (.q .r (.q (.q .r (.q .r (.q .r .r))) (.q .r .r)))) (.node .leaf 60 (.c (.i .u64) (.c (.c (.i .i64) (.c (.s) (.c (.s) (.u)))) (.c (.i .i64) (.u))), (.q .r (.q (.q .r (.q .r (.q .r .r))) (.q .r .r)))) .leaf)) 62 (.z .fn, .r) (.node (.node .leaf 63 (.z .fn, .r) .leaf) 64 (.z .fn, .r) (.node .leaf 66 (.z .fn, .r) .leaf)))) 67 (.i .u32, .r) (.node (.node (.node (.node (.node .leaf 68 (.z .fn, .r) .leaf) 69 (.z .fn, .r) .leaf) 70 (.z .fn, .r) (.node .leaf 71 (.i .u64, .r) .leaf)) 72 (.z .fn, .r) (.node (.node (.node .leaf 73 (.z .fn, .r) .leaf) 75 (.z .fn, .r) .leaf) 76 (.z .fn, .r) (.node .leaf 78 (.z .fn, .r) .leaf))) 79 (.z .fn, .r) (.node (.node (.node (.node .leaf 80 (.z .fn, .r) .leaf) 81 (.z .fn, .r) .leaf) 82 (.z .fn, .r) (.node .leaf 84 (.z .fn, .r) .leaf)) 85 (.z .fn, .r) (.node (.node .leaf 86 (.z .fn, .r) .leaf) 88 (.z .fn, .r) (.node .leaf 89 (.z .fn, .r) .leaf))))))
noncomputable def sigs : BT Sig := (.node (.node (.node (.node (.node (.node .leaf 5 ⟨[(.i .i64, .r), (.l (.s), .b)], [(.l (.s), (.o .r)), (.b, .r)], 2⟩ .leaf) 6 ⟨[], [(.b, .r)], 1⟩ .leaf) 9 ⟨[(.i .i64, .r)], [(.b, .r)], 1⟩ (.node (.node .leaf 10 ⟨[(.i .i64, .r), (.l (.by), .b)], [(.l (.c (.l (.by)) (.c (.i .i64) (.u))), (.o (.q (.o .r) (.q .r .r)))), (.i .i64, .r)], 2⟩ .leaf) 11 ⟨[(.l (.by), .b)], [(.i .u64, .r), (.l (.c (.i .i64) (.c (.s) (.c (.s) (.u)))), (.o (.q .r (.q .r (.q .r .r))))), (.i .i64, .r)], 3⟩ .leaf)) 12 ⟨[(.i .i64, .r)], [(.b, .r)], 1⟩ (.node (.node (.node .leaf 14 ⟨[(.p (.c (.i .i64) (.c (.l (.by)) (.c (.i .i64) (.c (.l (.by)) (.c (.b) (.u)))))), (.o (.q .r (.q .r (.q .r (.q (.o .r) (.q .r .r))))))), (.a 2, (.o .r))], [(.i .i64, .r), (.p (.c (.i .i64) (.c (.l (.by)) (.c (.i .i64) (.c (.l (.by)) (.c (.b) (.u)))))), (.o (.q .r (.q .r (.q .r (.q (.o .r) (.q .r .r))))))), (.a 2, (.o .r))], 1⟩ .leaf) 15 ⟨[(.l (.by), .b)], [(.i .u64, .r), (.i .i64, .r), (.i .i64, .r)], 3⟩ .leaf) 17 ⟨[(.l (.c (.i .i64) (.c (.s) (.c (.s) (.u)))), .b)], [(.i .i64, .r), (.i .i64, .r)], 2⟩ (.node .leaf 18 ⟨[(.i .u64, .r), (.i .i64, .r)], [(.b, .r)], 1⟩ .leaf))) 19 ⟨[(.l (.by), .b)], [(.b, .r)], 1⟩ (.node (.node (.node (.node .leaf 20 ⟨[(.l (.by), .b), (.i .i64, .r), (.i .i64, .r)], [(.i .u64, .r), (.i .i64, .r), (.i .i64, .r)], 3⟩ .leaf) 21 ⟨[(.i .u32, .r)], [(.i .u32, .r)], 1⟩ .leaf) 22 ⟨[(.l (.by), .b)], [(.i .u32, .r)], 1⟩ (.node (.node .leaf 23 ⟨[(.l (.by), .b)], [(.i .u64, .r), (.l (.c (.i .i64) (.c (.s) (.c (.s) (.u)))), (.o (.q .r (.q .r (.q .r .r))))), (.i .i64, .r)], 3⟩ .leaf) 24 ⟨[(.l (.by), .b), (.i .i64, .r), (.i .i64, .r)], [(.i .u64, .r)], 1⟩ .leaf)) 25 ⟨[(.i .u64, .r), (.i .i64, .r)], [(.b, .r)], 1⟩ (.node (.node (.node .leaf 26 ⟨[(.p (.c (.i .i64) (.c (.l (.by)) (.c (.i .i64) (.c (.l (.by)) (.c (.b) (.u)))))), .b), (.by, .r), (.l (.by), .b)], [(.b, .r)], 1⟩ .leaf) 27 ⟨[(.l (.by), .b), (.i .i64, .r)], [(.i .u64, .r), (.i .i64, .r), (.i .i64, .r)], 3⟩ .leaf) 28 ⟨[(.l (.by), .b), (.i .i64, .r)], [(.i .u32, .r), (.i .i64, .r), (.i .i64, .r)], 3⟩ (.node .leaf 29 ⟨[(.a 3, (.o .r)), (.p (.l .by), .b)], [(.a 3, (.o .r))], 0⟩ .leaf)))) 30 ⟨[(.l (.by), .b), (.i .i64, .r)], [(.c (.i .i64) (.c (.s) (.c (.s) (.u))), (.q .r (.q .r (.q .r .r)))), (.i .i64, .r), (.b, .r)], 3⟩ (.node (.node (.node (.node (.node .leaf 31 ⟨[(.l (.c (.i .i64) (.c (.s) (.c (.s) (.u)))), .b), (.z (.g 32), .r)], [(.i .i64, .r)], 1⟩ .leaf) 32 ⟨[(.c (.i .i64) (.c (.s) (.c (.s) (.u))), .r)], [(.b, .r)], 1⟩ .leaf) 33 ⟨[(.c (.i .i64) (.c (.s) (.c (.s) (.u))), .r)], [(.b, .r)], 1⟩ (.node (.node .leaf 34 ⟨[(.l (.c (.i .i64) (.c (.s) (.c (.s) (.u)))), .b)], [(.i .i64, .r)], 1⟩ .leaf) 35 ⟨[(.i .u32, .r), (.l (.by), .b)], [(.i .u32, .r)], 1⟩ .leaf)) 36 ⟨[(.l (.by), .b), (.i .i64, .r)], [(.c (.i .i64) (.c (.s) (.c (.s) (.u))), (.q .r (.q .r (.q .r .r)))), (.i .i64, .r)], 2⟩ (.node (.node (.node .leaf 37 ⟨[(.by, .r), (.l (.by), .b)], [(.i .u32, .r)], 1⟩ .leaf) 38 ⟨[(.l (.by), .b), (.i .i64, .r), (.i .i64, .r)], [(.i .u64, .r), (.i .i64, .r), (.i .i64, .r)], 3⟩ .leaf) 39 ⟨[(.l (.by), .b), (.i .i64, .r)], [(.s, .r), (.i .i64, .r), (.i .i64, .r)], 3⟩ (.node .leaf 40 ⟨[(.c (.i .i64) (.c (.s) (.c (.s) (.u))), .r)], [(.i .i64, .r)], 1⟩ .leaf))) 41 ⟨[(.i .u32, .r), (.l (.by), .b)], [(.i .u32, .r)], 1⟩ (.node (.node (.node (.node .leaf 42 ⟨[(.l (.by), .b), (.i .i64, .r), (.i .i64, .r)], [(.s, .r), (.i .i64, .r)], 2⟩ .leaf) 43 ⟨[(.c (.i .i64) (.c (.s) (.c (.s) (.u))), .r)], [(.b, .r)], 1⟩ .leaf) 44 ⟨[(.i .u32, .r)], [(.i .u32, .r)], 1⟩ (.node (.node .leaf 45 ⟨[(.i .u32, .r), (.l (.by), .b)], [(.i .u32, .r)], 1⟩ .leaf) 46 ⟨[(.l (.by), .b)], [(.i .u32, .r)], 1⟩ .leaf)) 47 ⟨[(.l (.by), .b), (.i .i64, .r)], [(.i .u64, .r), (.i .i64, .r), (.i .i64, .r)], 3⟩ (.node (.node (.node .leaf 48 ⟨[(.s, .r)], [(.i .i64, .r)], 1⟩ .leaf) 49 ⟨[(.i .u32, .r), (.i .u32, .r)], [(.i .u32, .r)], 1⟩ .leaf) 50 ⟨[(.i .u32, .r), (.by, .r)], [(.i .u32, .r)], 1⟩ (.node .leaf 51 ⟨[(.i .u64, .r)], [(.i .i64, .r)], 1⟩ .leaf)))))
noncomputable def bodies : BT Func := (.node (.node (.node (.node (.node (.node .leaf 5 Go.Proofs.Tryd.f5 .leaf) 6 Go.Proofs.Tryd.f6 .leaf) 9 Go.Proofs.Tryd.f9 (.node (.node .leaf 10 Go.Proofs.Tryd.f10 .leaf) 11 Go.Proofs.Tryd.f11 .leaf)) 12 Go.Proofs.Tryd.f12 (.node (.node (.node .leaf 14 Go.Proofs.Tryd.f14 .leaf) 15 Go.Proofs.Tryd.f15 .leaf) 17 Go.Proofs.Tryd.f17 (.node .leaf 18 Go.Proofs.Tryd.f18 .leaf))) 19 Go.Proofs.Tryd.f19 (.node (.node (.node (.node .leaf 20 Go.Proofs.Tryd.f20 .leaf) 21 Go.Proofs.Tryd.f21 .leaf) 22 Go.Proofs.Tryd.f22 (.node (.node .leaf 23 Go.Proofs.Tryd.f23 .leaf) 24 Go.Proofs.Tryd.f24 .leaf)) 25 Go.Proofs.Tryd.f25 (.node (.node (.node .leaf 26 Go.Proofs.Tryd.f26 .leaf) 27 Go.Proofs.Tryd.f27 .leaf) 28 Go.Proofs.Tryd.f28 (.node .leaf 29 Go.Proofs.Tryd.f29 .leaf)))) 30 Go.Proofs.Tryd.f30 (.node (.node (.node (.node (.node .leaf 31 Go.Proofs.Tryd.f31 .leaf) 32 Go.Proofs.Tryd.f32 .leaf) 33 Go.Proofs.Tryd.f33 (.node (.node .leaf 34 Go.Proofs.Tryd.f34 .leaf) 35 Go.Proofs.Tryd.f35 .leaf)) 36 Go.Proofs.Tryd.f36 (.node (.node (.node .leaf 37 Go.Proofs.Tryd.f37 .leaf) 38 Go.Proofs.Tryd.f38 .leaf) 39 Go.Proofs.Tryd.f39 (.node .leaf 40 Go.Proofs.Tryd.f40 .leaf))) 41 Go.Proofs.Tryd.f41 (.node (.node (.node (.node .leaf 42 Go.Proofs.Tryd.f42 .leaf) 43 Go.Proofs.Tryd.f43 .leaf) 44 Go.Proofs.Tryd.f44 (.node .leaf 45 Go.Proofs.Tryd.f45 .leaf)) 46 Go.Proofs.Tryd.f46 (.node (.node (.node .leaf 47 Go.Proofs.Tryd.f47 .leaf) 48 Go.Proofs.Tryd.f48 .leaf) 49 Go.Proofs.Tryd.f49 (.node .leaf 51 Go.Proofs.Tryd.f51 .leaf)))))
noncomputable def exts : BT Func := (.node .leaf 50 Go.Proofs.Tryd.f50 .leaf)
noncomputable def lives : BT (List Nat) := (.node (.node (.node (.node (.node (.node (.node .leaf 20485 [0, 1, 6, 7] .leaf) 20489 [0, 1, 6, 7, 8, 9, 10] .leaf) 20496 [6] (.node .leaf 40965 [0, 1, 6, 7, 8, 9] .leaf)) 40974 [0, 1, 6, 7, 8, 9, 11] (.node (.node .leaf 40984 [0, 1, 6, 7, 8, 9, 12, 15, 16] .leaf) 40989 [0, 1, 6, 7, 9, 15, 16, 17] (.node .leaf 40991 [0, 1, 6, 7, 9, 15, 16, 17] .leaf))) 40996 [0, 1, 6, 7, 8, 9] (.node (.node (.node .leaf 43031 [0, 1, 6, 7, 8, 9, 12, 15, 16, 93] .leaf) 43036 [0, 1, 6, 7, 9, 15, 16, 17, 126] (.node .leaf 43038 [0, 1, 6, 7, 9, 15, 16, 17, 133] .leaf)) 45062 [5, 6] (.node (.node .leaf 47109 [5, 6, 44] .leaf) 57345 [0, 1] (.node .leaf 57347 [0, 1, 5] .leaf)))) 57349 [0, 1, 40, 41, 42, 59, 60, 61] (.node (.node (.node (.node .leaf 57361 [0, 1, 8, 9, 10] .leaf) 57369 [0, 1] (.node .leaf 59408 [0, 1, 8, 9, 10, 124] .leaf)) 77826 [0, 3] (.node (.node .leaf 81923 [0, 1, 2] .leaf) 81927 [0, 1, 2, 9, 10] (.node .leaf 83970 [0, 1, 2, 18] .leaf))) 94213 [0, 5, 6, 7, 8] (.node (.node (.node .leaf 98307 [0, 1, 7, 8] .leaf) 106500 [0, 1, 2, 8, 9] (.node .leaf 118788 [0, 1, 3, 6, 19, 20] .leaf)) 118792 [0, 1, 3, 9, 19, 20] (.node (.node .leaf 118793 [0, 1, 3, 6, 19, 20] .leaf) 122890 [4, 7, 9, 10] (.node .leaf 126978 [0, 1, 7, 8] .leaf))))) 135171 [1] (.node (.node (.node (.node (.node .leaf 137218 [1, 12] .leaf) 139267 [3, 6, 7, 8] (.node .leaf 147463 [1, 4, 6] .leaf)) 147465 [1, 4, 6] (.node (.node .leaf 149510 [0, 1, 4, 6, 32] .leaf) 149512 [1, 4, 6, 46] (.node .leaf 155653 [0, 1, 2, 6] .leaf))) 155654 [0, 1, 2, 6, 26, 27] (.node (.node (.node .leaf 157698 [0, 1, 2, 6, 10] .leaf) 163844 [3] (.node .leaf 167938 [0, 1, 5] .leaf)) 167941 [0, 1, 5, 6] (.node (.node .leaf 172034 [0, 1, 2, 8, 9] .leaf) 172036 [0, 1, 2, 8, 9] (.node .leaf 172043 [0, 1, 2, 8] .leaf)))) 172045 [0, 1, 8] (.node (.node (.node (.node .leaf 174083 [0, 1, 2, 8, 9, 18] .leaf) 174089 [0, 1, 2, 8, 39] (.node .leaf 174092 [0, 1, 8, 52] .leaf)) 176131 [1] (.node (.node .leaf 178178 [1, 12] .leaf) 184323 [5, 10, 11, 12] (.node .leaf 192515 [0, 1, 4] .leaf))) 192516 [1, 4, 17, 19, 20, 21] (.node (.node (.node .leaf 192523 [1, 4, 7, 8, 17, 19, 20, 21] .leaf) 192524 [1, 4, 17, 19, 20, 21] (.node .leaf 194562 [0, 1, 4, 16] .leaf)) 194567 [1, 4, 7, 8, 17, 19, 20, 21, 26] (.node (.node .leaf 194568 [1, 4, 7, 8, 17, 19, 20, 21, 26] .leaf) 200709 [0] (.node .leaf 208898 [0, 3] .leaf))))))
@[irreducible] noncomputable def yJ (y : Option (List Lk.JItem)) (at_ : Int) (r : List UInt8) : Option (Bool × Option (List Lk.JItem) × List UInt8 × Unit) := match y with
  | some l => bif Nat.ble l.length 1073741823 then some (true, some (l ++ [(at_, r)]), r, ()) else none
  | none => none
@[irreducible] noncomputable def yB (y : Option (List Lk.BItem)) (g : Int × ((Int × (List UInt8 × (List UInt8 × Unit))) × (Int × Unit))) : Option (Bool × Option (List Lk.BItem) × Unit) := match y with
  | some l => bif Nat.ble l.length 1073741823 then some (true, some (l ++ [g]), ()) else none
  | none => none
noncomputable def ysJ : YSpec := { sig := ⟨[(.a 2, .o .r), (.i .i64, .r), (.l .by, .o .r)], [(.b, .r), (.a 2, .o .r), (.l .by, .h)], 1⟩, f := fun x => yJ x.1 x.2.1 x.2.2.1 }
noncomputable def ysB : YSpec := { sig := ⟨[(.a 3, .o .r), (.c (.i .u64) (.c (.c (.i .i64) (.c .s (.c .s .u))) (.c (.i .i64) .u)), .r)], [(.b, .r), (.a 3, .o .r)], 1⟩, f := fun x => yB x.1 x.2.1 }
noncomputable def ext50 : Nat → Tup [(.i .u32, .r), (.by, .r)] → Option (Tup [(.i .u32, .r)]) := fun _ x => some (((Rr.takeN x.1.toNat x.2.1 : Nat) : Int), ())
noncomputable def ext : (g : FuncId) → Option (Nat → Tup ((sigs.get g).getD ⟨[], [], 0⟩).ps → Option (Tup ((sigs.get g).getD ⟨[], [], 0⟩).rs))
  | 50 => some ext50
  | _ => none
noncomputable def lims : BT Nat := (.node (.node (.node .leaf 22 1073741824 .leaf) 23 1073741824 (.node .leaf 24 1073741824 .leaf)) 35 1073741824 (.node .leaf 39 1073741824 .leaf))
noncomputable def G : Prg where
  ty T := tys.get T
  lim T := (lims.get T).getD 0
  cmp T := memb [58] T
  yl f r := bif Nat.beq f 14 && Nat.beq r 28 then some ysJ else bif Nat.beq f 29 && Nat.beq r 7 then some ysB else none
  out f r := bif Nat.beq f 14 && Nat.beq r 27 then some 12 else none
  sig g := (sigs.get g).getD ⟨[], [], 0⟩
  body g := bodies.get g
  ext g := ext g
  live g r := lives.get (Nat.add (Nat.mul g 4096) r)
end RrG
end
section
/-! What a loop over a function has been handed, as an object. -/
namespace Rr
open Go Go.RowKit Go.Proofs
def t0 : Lk.Ax where
  own _ _ _ _ _ := False
  keep h _ := h.elim
  lt h := h.elim
  ptr h := h.elim
  fnv h := h.elim
def bare : Lk.Ty → Bool
  | .a _ | .e | .l _ | .p _ => false
  | .c a r => bare a && bare r
  | _ => true
def still : Lk.Ty → Lk.Md → Bool
  | .c a r, .q m n => still a m && still r n
  | .l t, .o m => still t m
  | t, _ => bare t
theorem cells_any (τ τ' : Lk.Ax) : ∀ (t : Lk.Ty) (x : Lk.E t) (sh : Lk.Sh t), Lk.cells τ t x sh = Lk.cells τ' t x sh := by
  intro t
  induction t <;> intro x sh <;> simp_all [Lk.cells, Lk.errV]
theorem Rd_bare {τ τ' : Lk.Ax} {S S' : Nat → Prop} {w w' : World} : ∀ (t : Lk.Ty) (x : Lk.E t) (cs : List Value), bare t = true → Lk.Rd τ S w t x cs → Lk.Rd τ' S' w' t x cs := by
  intro t
  induction t with
  | c a r iha ihr =>
    intro x cs hb h
    simp only [bare, Bool.and_eq_true] at hb
    simp only [Lk.Rd] at h ⊢
    obtain ⟨c1, c2, rfl, h1, h2⟩ := h
    exact ⟨c1, c2, rfl, iha _ _ hb.1 h1, ihr _ _ hb.2 h2⟩
  | a n => intro x cs hb; cases hb
  | e => intro x cs hb; cases hb
  | l t => intro x cs hb; cases hb
  | p t => intro x cs hb; cases hb
  | _ => intro x cs hb h; simpa only [Lk.Rd] using h
theorem hold_still {τ τ' : Lk.Ax} {S S' Sb Sb' : Nat → Prop} {w : World} : ∀ (t : Lk.Ty) (m : Lk.Md) (x : Lk.E t) (sh : Lk.Sh t), still t m = true → Lk.hold τ S Sb w t m x sh → Lk.hold τ' S' Sb' w t m x sh := by
  intro t
  induction t with
  | c a r iha ihr =>
    intro m x sh hb h
    cases m with
    | q m n =>
      simp only [still, Bool.and_eq_true] at hb
      simp only [Lk.hold] at h ⊢
      exact ⟨iha _ _ _ hb.1 h.1, ihr _ _ _ hb.2 h.2⟩
    | h => trivial
    | r => simp only [Lk.hold] at h ⊢; rw [cells_any τ' τ]; exact Rd_bare _ _ _ hb h
    | b => simp only [Lk.hold] at h ⊢; rw [cells_any τ' τ]; exact Rd_bare _ _ _ hb h
    | o _ => simp only [Lk.hold] at h ⊢; rw [cells_any τ' τ]; exact Rd_bare _ _ _ hb h
  | l t ih =>
    intro m x sh hb h
    cases m with
    | o m =>
      simp only [Lk.hold] at h ⊢
      rcases h with h | ⟨cap, h1, h2, h3, h4, h5, h6, h7, h8⟩
      · exact .inl h
      · exact .inr ⟨cap, h1, h2, h3, h4, h5, h6, h7, fun i y z hy hz => ⟨by rw [cells_any τ' τ]; exact (h8 i y z hy hz).1, ih _ _ _ hb (h8 i y z hy hz).2⟩⟩
    | _ => cases hb
  | a n => intro m x sh hb; cases m <;> cases hb
  | e => intro m x sh hb; cases m <;> cases hb
  | p t => intro m x sh hb; cases m <;> cases hb
  | _ =>
    intro m x sh hb h
    cases m with
    | h => trivial
    | _ => simp only [Lk.hold] at h ⊢; exact Rd_bare _ _ _ hb h
def rangeOf : Code → Option (Code × Code)
  | .rangeFunc _ _ a b => some (a, b)
  | .seq a b => (rangeOf a).or (rangeOf b)
  | .block _ c | .scope c | .loop c => rangeOf c
  | .cond _ a b => (rangeOf a).or (rangeOf b)
  | _ => none
def loopOf (fn : Func) : Code × Code := ((fn.body.bind rangeOf).getD (.skip, .skip))
structure Lp where
  f : FuncId
  lp : Nat
  D : Nat
  cR : Nat
  cE : Nat
  a : Nat → Value
def lastOf (d : Int) (l : List Int) : Int := l.getLast?.getD d
theorem lastOf_snoc (d : Int) (l : List Int) (x : Int) : lastOf d (l ++ [x]) = x := by simp [lastOf]
def Lp.TJ (J : Lp) : Array Value := #[J.a 0, J.a 1, J.a 2, J.a 3, .pointer (some ⟨J.cR, 0, none⟩), .pointer (some ⟨J.cE, 0, none⟩), J.a 6, J.a 7, J.a 8, J.a 9, J.a 10, J.a 11, J.a 12, J.a 13, J.a 14, J.a 15, J.a 16, J.a 17, J.a 18, J.a 19, J.a 20, J.a 21, J.a 22, J.a 23, J.a 24, J.a 25, J.a 26, J.a 27, J.a 28, J.a 29, J.a 30]
def Lp.TB (J : Lp) : Array Value := #[J.a 0, J.a 1, J.a 2, .pointer (some ⟨J.cR, 0, none⟩), J.a 4, J.a 5, J.a 6, .pointer (some ⟨J.cE, 0, none⟩), J.a 8, J.a 9, J.a 10, J.a 11, J.a 12, J.a 13, J.a 14, J.a 15, J.a 16, J.a 17, J.a 18, J.a 19, J.a 20, J.a 21, J.a 22, J.a 23, J.a 24, J.a 25, J.a 26, J.a 27, J.a 28, J.a 29, J.a 30, J.a 31, J.a 32, J.a 33, J.a 34, J.a 35, J.a 36, J.a 37, J.a 38, J.a 39, J.a 40, J.a 41, J.a 42, J.a 43, J.a 44, J.a 45, J.a 46, J.a 47, J.a 48, J.a 49, J.a 50, J.a 51, J.a 52, J.a 53, J.a 54, J.a 55, J.a 56]
def Lp.obj (J : Lp) (T : Array Value) (f : FuncId) (fn : Func) (ps : Array Tmp) : Obj := .loop { state := .ready, pending := none, fn := f, tmps := T, params := ps, assign := (loopOf fn).1, body := (loopOf fn).2, defers := J.D }
def LpAt (J : Lp) (T : Array Value) (f : FuncId) (fn : Func) (ps : Array Tmp) (rT nT : TypeId) (t : Lk.Ty) (m : Lk.Md) (w : World) (x : List (Lk.E t)) (n : Int) (v : Value) (bs : List Nat) : Prop :=
  ∃ sh : Lk.Sh (.l t), v = .func (.yield J.lp) #[] #[] ∧ w.heap[J.lp]? = some (J.obj T f fn ps) ∧ w.heap[J.D]? = some (.deferred (some [])) ∧ w.heap[J.cR]? = some (.cells #[sh.hd] rT (0, 0)) ∧ w.heap[J.cE]? = some (.cells #[.int .i64 n] nT (0, 0)) ∧
    Lk.hold t0 (fun _ => False) (fun _ => False) w (.l t) (.o m) x sh ∧ Lk.inR .i64 n ∧ bs = J.lp :: J.D :: J.cR :: J.cE :: Lk.bl (.l t) (.o m) x sh
theorem LpAt.keep {J : Lp} {T : Array Value} {f : FuncId} {fn : Func} {ps : Array Tmp} {rT nT : TypeId} {t : Lk.Ty} {m : Lk.Md} {w w' : World} {x : List (Lk.E t)} {n : Int} {v : Value} {bs : List Nat} (h : LpAt J T f fn ps rT nT t m w x n v bs) (hb : ∀ b ∈ bs, w'.heap[b]? = w.heap[b]?) : LpAt J T f fn ps rT nT t m w' x n v bs := by
  obtain ⟨sh, h1, h2, h3, h4, h5, h6, h7, rfl⟩ := h
  refine ⟨sh, h1, (hb _ (by simp)).trans h2, (hb _ (by simp)).trans h3, (hb _ (by simp)).trans h4, (hb _ (by simp)).trans h5, ?_, h7, rfl⟩
  exact Lk.hold_keep t0 (fun _ h => h.elim) (fun _ h => h.elim) _ _ _ _ (fun b hbb => hb b (by simp [hbb])) h6
theorem LpAt.lt {J : Lp} {T : Array Value} {f : FuncId} {fn : Func} {ps : Array Tmp} {rT nT : TypeId} {t : Lk.Ty} {m : Lk.Md} {w : World} {x : List (Lk.E t)} {n : Int} {v : Value} {bs : List Nat} (h : LpAt J T f fn ps rT nT t m w x n v bs) : ∀ b ∈ bs, b < w.heap.size := by
  obtain ⟨sh, h1, h2, h3, h4, h5, h6, h7, rfl⟩ := h
  intro b hb
  simp only [List.mem_cons] at hb
  rcases hb with rfl | rfl | rfl | rfl | hb
  · exact Lk.lt_of_some h2
  · exact Lk.lt_of_some h3
  · exact Lk.lt_of_some h4
  · exact Lk.lt_of_some h5
  · exact Lk.hold_lt t0 _ _ _ _ h6 b hb
abbrev OpT : Lk.Ty := .c (.i .i64) (.c .s (.c .s .u))
abbrev OpM : Lk.Md := .q .r (.q .r (.q .r .r))
def JAt (J : Lp) (w : World) (l : List Lk.JItem) (v : Value) (bs : List Nat) : Prop :=
  LpAt J J.TJ J.f Tryd.f7 #[21, 22] 23 3 (.l .by) (.o .r) w (l.map (·.2)) (lastOf 0 (l.map (·.1))) v bs
def BAt (J : Lp) (w : World) (l : List Lk.BItem) (v : Value) (bs : List Nat) : Prop :=
  LpAt J J.TB J.f Tryd.f8 #[22] 35 3 OpT OpM w (l.map (·.2.1)) (lastOf 12 (l.map (·.2.2.1))) v bs
def ax (J B : Lp) : Lk.Ax where
  own n w x v bs := match n, x with
    | 2, x => JAt J w x v bs
    | 3, x => BAt B w x v bs
    | _, _ => False
  keep {n w w' x v bs} h hb := by
    match n, x, h with
    | 2, x, h => exact LpAt.keep h hb
    | 3, x, h => exact LpAt.keep h hb
  lt {n w x v bs} h := by
    match n, x, h with
    | 2, x, h => exact LpAt.lt h
    | 3, x, h => exact LpAt.lt h
  ptr {n w x v bs} h hn := by
    match n, x, h with
    | 2, x, h => cases hn
    | 3, x, h => cases hn
  fnv {n w x v bs} h hn := by
    match n, x, h with
    | 2, x, h => obtain ⟨sh, h1, _⟩ := h; exact ⟨_, h1⟩
    | 3, x, h => obtain ⟨sh, h1, _⟩ := h; exact ⟨_, h1⟩
end Rr
end
section
/-! The rounds of journal.Read's and batch.Decode's loops: the walks. -/
namespace Rr
open Go Go.RowKit Go.Proofs
attribute [local go_sem] Oper.semAt_some
theorem wpListIn_append_run {F : Fence} {n : Nat} {P : Program} {ops : Array Oper} {rest : List Oper} {o : Oper} {a : Act} {Q : Exit → Act → World → Prop} {w : World} (hg : o.guard = none) (p q : Operand) (t t2 : TypeId) (hop : o.op = Op.call { callee := Callee.builtin Builtin.append, args := #[p, q], argTypes := #[t, t2] })
    {v1 v2 v' : Value} {w' : World} (h1 : a.eval p = v1) (h2 : a.eval q = v2) (oT : TypeId) (hT : o.type = oT) (hrun : (Builtin.append_ #[t, t2] oT #[v1, v2]).run P w = .ok v' w') (hK : wpListIn F n P ops Q rest (a.put o.dst v') w') :
    wpListIn F n P ops Q (o :: rest) a w := by
  refine wpListIn_plain hg fun K hK' => ?_
  subst hT
  unfold Oper.wpIn
  refine ⟨?_, ?_⟩
  · simp [Oper.about, hop, resolve, Target.leads, Sem.run_pure]
  · rw [Oper.semAt_plain F _ _ (by rw [hop]; intro c hc'; cases hc')]
    simp [execOp, hop, resolve, invoke, builtin, h1, h2, hrun, Result.andThen]
    exact hK' _ _ hK
set_option maxRecDepth 100000 in
set_option maxHeartbeats 2000000 in
theorem walkJ (J : Lp) (w : World) (at_ : Int) (ra : Option Addr) (rn rc : Nat) (hd : Value) (sa : Option Addr) (sn sc : Nat) (w2 : World) (Q : Exit → Act → World → Prop) (hR : w.cell? ⟨J.cR, 0, none⟩ = some hd)
    (hap : (Builtin.append_ #[23, 23] 23 #[hd, .slice (some ⟨w.heap.size, 0, none⟩) 1 1]).run Tryd.prog (w.alloc (.cells #[.slice ra rn rc] 24)) = .ok (.slice sa sn sc) w2)
    (hR2 : ∃ v, w2.cell? ⟨J.cR, 0, none⟩ = some v) (hRf : w2.frozen? ⟨J.cR, 0, none⟩ = false) (hE : ∃ v, w2.cell? ⟨J.cE, 0, none⟩ = some v) (hEf : w2.frozen? ⟨J.cE, 0, none⟩ = false) (hne : J.cR ≠ J.cE) (hQ : ∀ a', Q .normal a' ((w2.setCell ⟨J.cR, 0, none⟩ (.slice sa sn sc)).setCell ⟨J.cE, 0, none⟩ (.int .i64 at_))) :
    (loopOf Tryd.f7).2.wpIn (Fence.wide.inRound J.lp) 0 Tryd.prog Q { tmps := ((J.TJ.setIfInBounds 21 (.int .i64 at_)).setIfInBounds 22 (.slice ra rn rc)).setIfInBounds 10 (.int .i64 at_) |>.setIfInBounds 11 (.slice ra rn rc), defers := [] } w := by
  obtain ⟨v1, hR2⟩ := hR2
  obtain ⟨v2, hE⟩ := hE
  simp only [loopOf, Tryd.f7, rangeOf, Option.bind_some, Option.or, Option.getD_some, Lp.TJ, List.setIfInBounds_toArray, List.set_cons_succ, List.set_cons_zero]
  gi_wp2_with (gi_at_builtin; refine wpListIn_append_run rfl _ _ _ _ rfl rfl rfl 23 rfl hap ?_)
  exact hQ _
set_option maxRecDepth 100000 in
set_option maxHeartbeats 2000000 in
theorem asgJ (J : Lp) (w : World) (at_ : Int) (v : Value) (K : Act → World → Prop)
    (hK : K { tmps := ((J.TJ.setIfInBounds 21 (.int .i64 at_)).setIfInBounds 22 v).setIfInBounds 10 (.int .i64 at_) |>.setIfInBounds 11 v, defers := [] } w) :
    (loopOf Tryd.f7).1.wpIn (Fence.wide.inRound J.lp) 0 Tryd.prog (Exit.then K (fun _ _ _ => False)) { tmps := (J.TJ.setIfInBounds 21 (.int .i64 at_)).setIfInBounds 22 v, defers := [] } w := by
  simp only [loopOf, Tryd.f7, rangeOf, Option.bind_some, Option.or, Option.getD_some, Lp.TJ, List.setIfInBounds_toArray, List.set_cons_succ, List.set_cons_zero] at hK ⊢
  gi_wp2
  exact hK
set_option maxRecDepth 100000 in
set_option maxHeartbeats 2000000 in
theorem asgB (J : Lp) (w : World) (s k e : Int) (x y : ByteArray) (K : Act → World → Prop)
    (hK : K { tmps := (J.TB.setIfInBounds 22 (.agg #[.int .u64 s, .int .i64 k, .string x, .string y, .int .i64 e])).setIfInBounds 8 (.pointer (some ⟨w.heap.size, 0, none⟩)), defers := [] } (w.alloc (.cells #[.int .u64 s, .int .i64 k, .string x, .string y, .int .i64 e] 60))) :
    (loopOf Tryd.f8).1.wpIn (Fence.wide.inRound J.lp) 0 Tryd.prog (Exit.then K (fun _ _ _ => False)) { tmps := J.TB.setIfInBounds 22 (.agg #[.int .u64 s, .int .i64 k, .string x, .string y, .int .i64 e]), defers := [] } w := by
  simp only [loopOf, Tryd.f8, rangeOf, Option.bind_some, Option.or, Option.getD_some, Lp.TB, List.setIfInBounds_toArray, List.set_cons_succ, List.set_cons_zero] at hK ⊢
  gi_wp2
  exact hK
set_option maxRecDepth 100000 in
set_option maxHeartbeats 2000000 in
theorem walkB (J : Lp) (w : World) (q : Nat) (s k e : Int) (x y : ByteArray) (u : Value) (hd : Value) (sa : Option Addr) (sn sc : Nat) (w2 : World) (Q : Exit → Act → World → Prop) (hR : w.cell? ⟨J.cR, 0, none⟩ = some hd)
    (h1 : w.cell? ⟨q, 1, none⟩ = some (.int .i64 k)) (h2 : w.cell? ⟨q, 2, none⟩ = some (.string x)) (h3 : w.cell? ⟨q, 3, none⟩ = some (.string y)) (h4 : w2.cell? ⟨q, 4, none⟩ = some (.int .i64 e))
    (hap : (Builtin.append_ #[35, 35] 35 #[hd, .slice (some ⟨w.heap.size, 0, none⟩) 1 1]).run Tryd.prog (w.alloc (.cells #[.int .i64 k, .string x, .string y] 58)) = .ok (.slice sa sn sc) w2)
    (hR2 : ∃ v, w2.cell? ⟨J.cR, 0, none⟩ = some v) (hRf : w2.frozen? ⟨J.cR, 0, none⟩ = false) (hE : ∃ v, w2.cell? ⟨J.cE, 0, none⟩ = some v) (hEf : w2.frozen? ⟨J.cE, 0, none⟩ = false) (hne : J.cR ≠ J.cE) (hqR : q ≠ J.cR) (hQ : ∀ a', Q .normal a' ((w2.setCell ⟨J.cR, 0, none⟩ (.slice sa sn sc)).setCell ⟨J.cE, 0, none⟩ (.int .i64 e))) :
    (loopOf Tryd.f8).2.wpIn (Fence.wide.inRound J.lp) 0 Tryd.prog Q { tmps := (J.TB.setIfInBounds 22 u).setIfInBounds 8 (.pointer (some ⟨q, 0, none⟩)), defers := [] } w := by
  obtain ⟨v1, hR2⟩ := hR2
  obtain ⟨v2, hE⟩ := hE
  simp only [loopOf, Tryd.f8, rangeOf, Option.bind_some, Option.or, Option.getD_some, Lp.TB, List.setIfInBounds_toArray, List.set_cons_succ, List.set_cons_zero]
  gi_wp2_with (gi_at_builtin; refine wpListIn_append_run rfl _ _ _ _ rfl rfl rfl 35 rfl hap ?_)
  exact hQ _
end Rr
end
section
/-! What a round leaves. -/
namespace Rr
open Go Go.RowKit Go.Proofs
theorem ads_cons {ads : List Lk.DV} {t : Lk.Ty} {m : Lk.Md} {x : Lk.E t} {rest : List Lk.AV} (h : ads.map Lk.DV.av = ⟨t, m, x⟩ :: rest) : ∃ sh ads', ads = ⟨t, m, x, sh⟩ :: ads' ∧ ads'.map Lk.DV.av = rest := by
  cases ads with
  | nil => cases h
  | cons d r =>
    obtain ⟨t', m', x', sh⟩ := d
    simp only [List.map_cons, Lk.DV.av, List.cons.injEq, Lk.AV.mk.injEq] at h
    obtain ⟨⟨rfl, rfl, hx⟩, hr⟩ := h
    cases hx
    exact ⟨sh, r, rfl, hr⟩
theorem ads_nil {ads : List Lk.DV} (h : ads.map Lk.DV.av = []) : ads = [] := List.map_eq_nil_iff.1 h
theorem alloc_size (w : World) (o : Obj) : (w.alloc o).heap.size = w.heap.size + 1 := by simp
theorem alloc_lt (w : World) (o : Obj) {k : Nat} (h : k < w.heap.size) : (w.alloc o).heap[k]? = w.heap[k]? := Below.heap_alloc w o k h
theorem alloc_at (w : World) (o : Obj) : (w.alloc o).heap[w.heap.size]? = some o := by
  show (w.heap.push o)[w.heap.size]? = some o
  simp
theorem set_size (w : World) (a : Addr) (v : Value) : (w.setCell a v).heap.size = w.heap.size := by simp [World.setCell]
theorem ext_setCell {w w1 : World} {bs : List Nat} {a : Addr} (hm : a.block ∈ bs ∨ w.heap.size ≤ a.block) (h : Lk.Ext bs w w1) (v : Value) : Lk.Ext bs w (w1.setCell a v) :=
  ⟨h.os, h.tape, h.output, by rw [set_size]; exact h.size, fun i hi hn => by
    rw [Below.heap_setCell w1 a v i (fun e => by
      rcases hm with hm | hm
      · exact hn (e ▸ hm)
      · omega)]; exact h.block i hi hn⟩
theorem ext_put {w w1 : World} {bs : List Nat} {r : Nat} (hm : r ∈ bs ∨ w.heap.size ≤ r) (h : Lk.Ext bs w w1) (o : Obj) : Lk.Ext bs w (w1.putObj r o) :=
  ⟨h.os, h.tape, h.output, by rw [World.putObj_size]; exact h.size, fun i hi hn => by
    rw [World.putObj_heap_other (fun e => by
      rcases hm with hm | hm
      · exact hn (e ▸ hm)
      · omega)]; exact h.block i hi hn⟩
theorem ext_alloc {w w1 : World} {bs : List Nat} (h : Lk.Ext bs w w1) (o : Obj) : Lk.Ext bs w (w1.alloc o) :=
  ⟨h.os, h.tape, h.output, by rw [alloc_size]; have := h.size; omega, fun i hi hn => (alloc_lt w1 o (Nat.lt_of_lt_of_le hi h.size)).trans (h.block i hi hn)⟩
theorem ext_refl (w : World) (bs : List Nat) : Lk.Ext bs w w := ⟨rfl, rfl, rfl, Nat.le_refl _, fun _ _ _ => rfl⟩
theorem ext_drew {w w1 : World} {bs : List Nat} (h : Lk.Ext bs w w1) (n : Nat) : Lk.Ext bs w { w1 with drawn := n } := ⟨h.os, h.tape, h.output, h.size, h.block⟩
theorem ext_more {w w1 : World} {bs cs : List Nat} (h : Lk.Ext bs w w1) (hs : ∀ k ∈ bs, k ∈ cs ∨ w.heap.size ≤ k) : Lk.Ext cs w w1 :=
  ⟨h.os, h.tape, h.output, h.size, fun i hi hn => h.block i hi fun hb => by
    rcases hs i hb with h | h
    · exact hn h
    · omega⟩
theorem ext_tr {w w1 w2 : World} {bs cs : List Nat} (h : Lk.Ext bs w w1) (g : Lk.Ext cs w1 w2) (hs : ∀ k ∈ cs, k ∈ bs ∨ w.heap.size ≤ k) : Lk.Ext bs w w2 :=
  ⟨g.os.trans h.os, g.tape.trans h.tape, g.output.trans h.output, Nat.le_trans h.size g.size, fun i hi hn => (g.block i (Nat.lt_of_lt_of_le hi h.size) fun hb => by
    rcases hs i hb with h | h
    · exact hn h
    · omega).trans (h.block i hi hn)⟩
abbrev F0 : Nat → Prop := fun _ => False
theorem gather {t : Lk.Ty} {m : Lk.Md} {T e : TypeId} {i : TypeInfo} {z : Value} {P : Program} (hm : m.solid = true) (hT : P.underlying T = some (.slice e)) (hi : P.info? e = some i) (hsz : i.size = Lk.csz t) (hz : i.zero = some z) (hzs : z.cells.size = Lk.csz t)
    {w1 : World} {x : List (Lk.E t)} {sh : Lk.Sh (.l t)} {y : Lk.E t} {shy : Lk.Sh t} (hx : Lk.hold t0 F0 F0 w1 (.l t) (.o m) x sh) (hy : Lk.hold t0 F0 F0 w1 t m y shy) (hnd : (Lk.bl (.l t) (.o m) x sh ++ Lk.bl t m y shy).Nodup)
    (hb1 : (x.length + 1) * i.bytes ≤ 140737488355328) (hb2 : x.length + 1 ≤ 140737488355328) (eT : TypeId) :
    ∃ w2 sa sn sc, ∃ sh' : Lk.Sh (.l t), (Builtin.append_ #[T, T] T #[sh.hd, .slice (some ⟨w1.heap.size, 0, none⟩) 1 1]).run P (w1.alloc (.cells (Lk.cells t0 t y shy).toArray eT)) = .ok (.slice sa sn sc) w2 ∧ sh'.hd = .slice sa sn sc ∧
      Lk.hold t0 F0 F0 w2 (.l t) (.o m) (x ++ [y]) sh' ∧ (Lk.bl (.l t) (.o m) (x ++ [y]) sh').Nodup ∧ (∀ b ∈ Lk.bl (.l t) (.o m) (x ++ [y]) sh', b ∈ Lk.bl (.l t) (.o m) x sh ∨ b ∈ Lk.bl t m y shy ∨ w1.heap.size ≤ b) ∧ Lk.Ext (Lk.bl (.l t) (.o m) x sh) w1 w2 := by
  have hkeep : ∀ b, b < w1.heap.size → (w1.alloc (.cells (Lk.cells t0 t y shy).toArray eT)).heap[b]? = w1.heap[b]? := fun b hb => alloc_lt _ _ hb
  have hltx := Lk.hold_lt t0 _ _ _ _ hx
  have hlty := Lk.hold_lt t0 _ _ _ _ hy
  have hx' := Lk.hold_keep t0 (S' := F0) (Sb' := F0) (fun _ h => h.elim) (fun _ h => h.elim) _ _ _ _ (fun b hb => hkeep b (hltx b hb)) hx
  have hy' := Lk.hold_keep t0 (S' := F0) (Sb' := F0) (fun _ h => h.elim) (fun _ h => h.elim) _ _ _ _ (fun b hb => hkeep b (hlty b hb)) hy
  have hcl := Lk.cells_length t0 t y shy
  let sy : Lk.Sh (.l t) := ⟨.slice (some ⟨w1.heap.size, 0, none⟩) 1 1, w1.heap.size, 0, Lk.cells t0 t y shy, eT, (0, 0), [shy]⟩
  have hrow : Lk.hold t0 F0 F0 (w1.alloc (.cells (Lk.cells t0 t y shy).toArray eT)) (.l t) (.o m) [y] sy := by
    simp only [Lk.hold]
    refine .inr ⟨1, rfl, rfl, Nat.le_refl _, by decide, ?_, alloc_at _ _, Lk.thaw_zero _, ?_⟩
    · show 0 + 1 * Lk.csz t ≤ (Lk.cells t0 t y shy).length
      rw [hcl]; omega
    · intro k u v hu hv
      cases k with
      | zero =>
        have hu := Option.some.inj hu
        have hv : shy = v := Option.some.inj hv
        subst hu; subst hv
        refine ⟨?_, hy'⟩
        show Lk.win (Lk.cells t0 t y shy) (0 + 0 * Lk.csz t) (Lk.csz t) = _
        unfold Lk.win
        rw [Nat.zero_mul, Nat.add_zero, List.drop_zero, List.take_of_length_le (by omega)]
      | succ k => simp at hu
  have hbl : Lk.bl (.l t) (.o m) [y] sy = w1.heap.size :: Lk.bl t m y shy := by
    simp only [Lk.bl, sy]; simp
  have hn1 := List.nodup_append.1 hnd
  obtain ⟨w2, d', h1, h2, h3, h4, h5, h6⟩ := Lk.run_appendO (τ := t0) (S := F0) (Sb := F0) (P := P) (T := T) (T2 := T) (oT := T) hm hx' hrow (by
      rw [hbl]
      refine List.nodup_append.2 ⟨hn1.1, List.nodup_cons.2 ⟨fun h => Nat.lt_irrefl _ (hlty _ h), hn1.2.1⟩, fun a ha b hb e => ?_⟩
      subst e
      rcases List.mem_cons.1 hb with rfl | hb
      · exact Nat.lt_irrefl _ (hltx _ ha)
      · exact hn1.2.2 a ha a hb rfl) (by
      intro b hb
      rw [alloc_size]
      rw [hbl, List.mem_append, List.mem_cons] at hb
      rcases hb with hb | rfl | hb
      · have := hltx b hb; omega
      · omega
      · have := hlty b hb; omega) (by intro b hb; rcases hb with hb | hb <;> exact hb.elim) hT hi hsz hz hzs hT (by intro k h; cases h) hb1 hb2
  obtain ⟨t', m', x', sh'⟩ := d'
  simp only [Lk.DV.av, Lk.AV.mk.injEq] at h2
  obtain ⟨rfl, rfl, h2⟩ := h2
  have h2 := eq_of_heq h2
  subst h2
  have hv : Lk.DV.val t0 ⟨.l t, .o m, x ++ [y], sh'⟩ = sh'.hd := by simp [Lk.DV.val, Lk.DV.cells, Lk.cells, Lk.valOf, Lk.isAggT]
  rw [hv] at h1
  have h3 : Lk.hold t0 F0 F0 w2 (.l t) (.o m) (x ++ [y]) sh' := h3
  obtain ⟨sa, sn, sc, he⟩ : ∃ sa sn sc, sh'.hd = .slice sa sn sc := by
    rcases Lk.own_row h3 with ⟨q, _⟩ | ⟨cap, q, _⟩
    · exact ⟨_, _, _, q⟩
    · exact ⟨_, _, _, q.hd⟩
  rw [he] at h1
  refine ⟨w2, sa, sn, sc, sh', h1, he, h3, h4, fun b hb => ?_, ?_⟩
  · rcases (h5 b hb).2 with h | h | h
    · exact .inl h
    · rw [hbl, List.mem_cons] at h
      rcases h with rfl | h
      · exact .inr (.inr (Nat.le_refl _))
      · exact .inr (.inl h)
    · rw [alloc_size] at h
      exact .inr (.inr (by omega))
  · exact ext_tr (ext_alloc (ext_refl _ _) _) h6 (fun k hk => .inl hk)
end Rr
end
section
/-! The rounds do what is told of them. -/
namespace Rr
open Go Go.RowKit Go.Proofs
theorem hlt {w : World} {b : Nat} {o : Obj} (h : w.heap[b]? = some o) : b < w.heap.size := Lk.lt_of_some h
theorem set_heap {w : World} {b : Nat} {v u : Value} {T : TypeId} (h : w.heap[b]? = some (.cells #[v] T (0, 0))) : (w.setCell ⟨b, 0, none⟩ u).heap[b]? = some (.cells #[u] T (0, 0)) := by
  obtain ⟨hl, h'⟩ := Array.getElem?_eq_some_iff.1 h
  show (w.heap.modify b _)[b]? = _
  rw [Array.getElem?_eq_getElem (by rw [Array.size_modify]; exact hl), Array.getElem_modify_self, h']
  rfl
theorem round_gen {J : Lp} {T : Array Value} {f : FuncId} {fn : Func} {ps : Array Tmp} {rT nT : TypeId} {t : Lk.Ty} {m : Lk.Md} {w w1 w2 : World} {x x' : List (Lk.E t)} {n n' : Int} {sh sh' : Lk.Sh (.l t)} {By : List Nat}
    (hx : LpAt J T f fn ps rT nT t m w x n (.func (.yield J.lp) #[] #[]) (J.lp :: J.D :: J.cR :: J.cE :: Lk.bl (.l t) (.o m) x sh)) (hnd : (J.lp :: J.D :: J.cR :: J.cE :: Lk.bl (.l t) (.o m) x sh).Nodup)
    (h1 : Lk.Ext [J.lp] w w1) (h2 : Lk.Ext (Lk.bl (.l t) (.o m) x sh) w1 w2) (hx' : Lk.hold t0 F0 F0 w2 (.l t) (.o m) x' sh') (hn : (Lk.bl (.l t) (.o m) x' sh').Nodup)
    (hb : ∀ b ∈ Lk.bl (.l t) (.o m) x' sh', b ∈ Lk.bl (.l t) (.o m) x sh ∨ b ∈ By ∨ w1.heap.size ≤ b) (hBy : ∀ b ∈ By, b < w.heap.size ∧ b ∉ J.lp :: J.D :: J.cR :: J.cE :: Lk.bl (.l t) (.o m) x sh) (hr : Lk.inR .i64 n') {w3 : World} (hw3 : w3 = ((w2.setCell ⟨J.cR, 0, none⟩ sh'.hd).setCell ⟨J.cE, 0, none⟩ (.int .i64 n')).putObj J.lp (J.obj T f fn ps)) :
    LpAt J T f fn ps rT nT t m w3 x' n' (.func (.yield J.lp) #[] #[]) (J.lp :: J.D :: J.cR :: J.cE :: Lk.bl (.l t) (.o m) x' sh') ∧ (J.lp :: J.D :: J.cR :: J.cE :: Lk.bl (.l t) (.o m) x' sh').Nodup ∧
      (∀ b ∈ J.lp :: J.D :: J.cR :: J.cE :: Lk.bl (.l t) (.o m) x' sh', b ∈ J.lp :: J.D :: J.cR :: J.cE :: Lk.bl (.l t) (.o m) x sh ∨ b ∈ By ∨ w.heap.size ≤ b) ∧ Lk.Ext (J.lp :: J.D :: J.cR :: J.cE :: Lk.bl (.l t) (.o m) x sh) w w3 := by
  obtain ⟨sh0, g1, g2, g3, g4, g5, g6, g7, g8⟩ := hx
  have hbl : Lk.bl (.l t) (.o m) x sh0 = Lk.bl (.l t) (.o m) x sh := by
    simp only [List.cons.injEq, true_and] at g8; exact g8.symm
  have k1 := hlt g2
  have k2 := hlt g3
  have k3 := hlt g4
  have k4 := hlt g5
  have hs1 := h1.size
  have hs2 := h2.size
  simp only [List.nodup_cons, List.mem_cons, not_or] at hnd
  obtain ⟨⟨d1, d2, d3, d4⟩, ⟨d5, d6, d7⟩, ⟨d8, d9⟩, d10, d11⟩ := hnd
  have hblx : ∀ b ∈ Lk.bl (.l t) (.o m) x sh, b < w.heap.size := by
    rw [← hbl]; exact Lk.hold_lt t0 _ _ _ _ g6
  -- what the new row has is apart from the loop's blocks
  have ap : ∀ b ∈ Lk.bl (.l t) (.o m) x' sh', b ≠ J.lp ∧ b ≠ J.D ∧ b ≠ J.cR ∧ b ≠ J.cE := by
    intro b hb'
    rcases hb b hb' with h | h | h
    · exact ⟨fun e => d4 (e ▸ h), fun e => d7 (e ▸ h), fun e => d9 (e ▸ h), fun e => d10 (e ▸ h)⟩
    · have := (hBy b h).2
      simp only [List.mem_cons, not_or] at this
      exact ⟨this.1, this.2.1, this.2.2.1, this.2.2.2.1⟩
    · refine ⟨?_, ?_, ?_, ?_⟩ <;> omega
  have keep2 : ∀ b, b < w.heap.size → b ≠ J.lp → b ∉ Lk.bl (.l t) (.o m) x sh → w2.heap[b]? = w.heap[b]? := fun b hb1 hb2 hb3 =>
    (h2.block b (by omega) hb3).trans (h1.block b hb1 (by simpa using hb2))
  have keep3 : ∀ b, b ≠ J.lp → b ≠ J.cR → b ≠ J.cE → w3.heap[b]? = w2.heap[b]? := fun b e1 e2 e3 => by
    rw [hw3, World.putObj_heap_other e1, Below.heap_setCell _ _ _ _ e3, Below.heap_setCell _ _ _ _ e2]
  have hsz3 : w3.heap.size = w2.heap.size := by rw [hw3, World.putObj_size, set_size, set_size]
  have hR2 : w2.heap[J.cR]? = some (.cells #[sh0.hd] rT (0, 0)) := (keep2 _ k3 (fun e => d2 e.symm) d9).trans g4
  have hE2 : w2.heap[J.cE]? = some (.cells #[.int .i64 n] nT (0, 0)) := (keep2 _ k4 (fun e => d3 e.symm) d10).trans g5
  refine ⟨⟨sh', rfl, ?_, ?_, ?_, ?_, ?_, hr, rfl⟩, ?_, ?_, ?_⟩
  · rw [hw3]; exact World.putObj_heap_same (by rw [set_size, set_size]; omega)
  · rw [keep3 _ (fun e => d1 e.symm) d5 d6, keep2 _ k2 (fun e => d1 e.symm) d7]; exact g3
  · rw [hw3, World.putObj_heap_other (fun e => d2 e.symm), Below.heap_setCell _ _ _ _ d8]
    exact set_heap hR2
  · rw [hw3, World.putObj_heap_other (fun e => d3 e.symm)]
    exact set_heap ((Below.heap_setCell _ _ _ _ (fun e => d8 e.symm)).trans hE2)
  · exact Lk.hold_keep t0 (fun _ h => h.elim) (fun _ h => h.elim) _ _ _ _ (fun b hb' => keep3 b (ap b hb').1 (ap b hb').2.2.1 (ap b hb').2.2.2) hx'
  · simp only [List.nodup_cons, List.mem_cons, not_or]
    exact ⟨⟨d1, d2, d3, fun h => (ap _ h).1 rfl⟩, ⟨d5, d6, fun h => (ap _ h).2.1 rfl⟩, ⟨d8, fun h => (ap _ h).2.2.1 rfl⟩, fun h => (ap _ h).2.2.2 rfl, hn⟩
  · intro b hb'
    simp only [List.mem_cons] at hb' ⊢
    rcases hb' with h | h | h | h | h
    · exact .inl (.inl h)
    · exact .inl (.inr (.inl h))
    · exact .inl (.inr (.inr (.inl h)))
    · exact .inl (.inr (.inr (.inr (.inl h))))
    · rcases hb b h with h | h | h
      · exact .inl (.inr (.inr (.inr (.inr h))))
      · exact .inr (.inl h)
      · exact .inr (.inr (by omega))
  · rw [hw3]
    exact ext_put (.inl (by simp)) (ext_setCell (.inl (by simp)) (ext_setCell (.inl (by simp)) (ext_tr (ext_more h1 (fun k hk => .inl (by simp at hk; simp [hk]))) h2 (fun k hk => .inl (by simp [hk]))) _) _) _
end Rr
end
section
/-! The rounds do what is told of them (2). -/
namespace Rr
open Go Go.RowKit Go.Proofs
def kw : Lk.KW := ⟨Tab, 1⟩
theorem info24 : (Tryd.prog.info? 24).map (fun i => (i.zero, i.size, i.bytes)) = some (some (.slice none 0 0), 1, 24) := by kernel_rfl
theorem info58 : (Tryd.prog.info? 58).map (fun i => (i.zero, i.size, i.bytes)) = some (some (.agg #[.int .i64 0, .string ⟨#[]⟩, .string ⟨#[]⟩]), 3, 40) := by kernel_rfl
theorem und23 : Tryd.prog.underlying 23 = some (.slice 24) := by kernel_rfl
theorem und35 : Tryd.prog.underlying 35 = some (.slice 58) := by kernel_rfl
theorem cell0 {w : World} {b : Nat} {v : Value} {T : TypeId} (h : w.heap[b]? = some (.cells #[v] T (0, 0))) : w.cell? ⟨b, 0, none⟩ = some v ∧ w.frozen? ⟨b, 0, none⟩ = false := by
  constructor <;> simp [World.cell?, World.frozen?, h]
theorem hlt' {w : World} {b : Nat} {o : Obj} (h : w.heap[b]? = some o) : b < w.heap.size := Lk.lt_of_some h
theorem mem_ads {d : Lk.DV} {ads : List Lk.DV} (h : d ∈ ads) {b : Nat} (hb : b ∈ d.bl) : b ∈ Lk.blsOf ads := List.mem_flatten.2 ⟨d.bl, List.mem_map.2 ⟨d, h, rfl⟩, hb⟩
theorem zip2 (T : Array Value) (i j : Nat) (a b : Value) : ((#[i, j].zip #[a, b]).foldl (fun tmps (t, a) => tmps.setIfInBounds t a) T) = (T.setIfInBounds i a).setIfInBounds j b := by
  simp [Array.zip]
theorem zip1 (T : Array Value) (i : Nat) (a : Value) : ((#[i].zip #[a]).foldl (fun tmps (t, a) => tmps.setIfInBounds t a) T) = T.setIfInBounds i a := by
  simp [Array.zip]
set_option maxRecDepth 100000 in
theorem yok_J (J B : Lp) : Lk.YOk kw (ax J B) Tryd.prog RrG.ysJ := by
  intro x res hx w S Sb ads hK hS ha hh
  obtain ⟨y, at_, r, ⟨⟩⟩ := x
  have hx : RrG.yJ y at_ r = some res := hx
  unfold RrG.yJ at hx
  cases y with
  | none => cases hx
  | some l =>
  simp only at hx
  cases hlen : Nat.ble l.length 1073741823 with
  | false => rw [hlen] at hx; cases hx
  | true =>
  rw [hlen, cond_true] at hx
  cases hx
  have hlen := Nat.le_of_ble_eq_true hlen
  obtain ⟨⟨v, bs⟩, ads1, rfl, ha1⟩ := ads_cons ha
  obtain ⟨s1, ads2, rfl, ha2⟩ := ads_cons ha1
  obtain ⟨s2, ads3, rfl, ha3⟩ := ads_cons ha2
  obtain rfl := ads_nil ha3
  have h0 : JAt J w l v bs := hh.hold _ (List.mem_cons_self ..)
  have h1 : Lk.Rd (ax J B) S w (.i .i64) at_ [.int .i64 at_] := hh.hold _ (List.mem_cons_of_mem _ (List.mem_cons_self ..))
  have hat : Lk.inR .i64 at_ := h1.2
  have h2 : Lk.hold t0 F0 F0 w (.l .by) (.o .r) r s2 := hold_still _ _ _ _ rfl (hh.hold _ (List.mem_cons_of_mem _ (List.mem_cons_of_mem _ (List.mem_cons_self ..))))
  have hbls : Lk.blsOf [⟨.a 2, .o .r, some l, (v, bs)⟩, ⟨.i .i64, .r, at_, s1⟩, ⟨.l .by, .o .r, r, s2⟩] = bs ++ Lk.bl (.l .by) (.o .r) r s2 := by
    show bs ++ ([] ++ (Lk.bl (.l .by) (.o .r) r s2 ++ [])) = _
    simp
  have hnd := hh.nodup
  have hown := hh.own
  rw [hbls] at hnd hown
  have hJ := h0
  obtain ⟨sh, rfl, hL, hD, hR, hE, hh2, hin, rfl⟩ := h0
  have hnb := (List.nodup_append.1 hnd).1
  have hnp : ∀ b ∈ Lk.bl (.l .by) (.o .r) r s2, b < w.heap.size ∧ b ∉ J.lp :: J.D :: J.cR :: J.cE :: Lk.bl (.l (.l .by)) (.o (.o .r)) (l.map (·.2)) sh := fun b hb =>
    ⟨(hown b (List.mem_append_right _ hb)).1, fun h => (List.nodup_append.1 hnd).2.2 b h b hb rfl⟩
  obtain ⟨ra, rn, rc, he⟩ : ∃ ra rn rc, s2.hd = .slice ra rn rc := by
    rcases Lk.own_row h2 with ⟨q, _⟩ | ⟨cap, q, _⟩
    · exact ⟨_, _, _, q⟩
    · exact ⟨_, _, _, q.hd⟩
  refine ⟨J.lp, [.int .i64 at_, s2.hd], by simp [Lk.DV.val, Lk.DV.cells, Lk.cells, Lk.valOf, Lk.isAggT], ?_⟩
  rw [he]
  have hd := hnb
  simp only [List.nodup_cons, List.mem_cons, not_or] at hd
  obtain ⟨⟨d1, d2, d3, d4⟩, ⟨d5, d6, d7⟩, ⟨d8, d9⟩, d10, d11⟩ := hd
  refine ⟨J.f, _, _, _, run_yield hL rfl, roundIn_of_wpIn trivial ?_⟩
  show Code.wpIn (Fence.wide.inRound J.lp) 0 Tryd.prog (loopOf Tryd.f7).1 _ { tmps := ((#[21, 22].zip #[.int .i64 at_, .slice ra rn rc]).foldl (fun tmps (t, a) => tmps.setIfInBounds t a) J.TJ), defers := [] } w
  rw [zip2]
  refine asgJ J w at_ (.slice ra rn rc) _ ?_
  refine ⟨_, run_beginRound hL rfl, ?_⟩
  generalize hw1 : w.putObj J.lp _ = w1
  have hext1 : Lk.Ext [J.lp] w w1 := by rw [← hw1]; exact ext_put (.inl (by simp)) (ext_refl _ _) _
  have hk1 : ∀ b, b ≠ J.lp → w1.heap[b]? = w.heap[b]? := fun b hb => by rw [← hw1]; exact World.putObj_heap_other hb
  have hx1 := Lk.hold_keep t0 (S' := F0) (Sb' := F0) (fun _ h => h.elim) (fun _ h => h.elim) _ _ _ _ (fun b hb => hk1 b (fun e => d4 (e ▸ hb))) hh2
  have hy1 := Lk.hold_keep t0 (S' := F0) (Sb' := F0) (fun _ h => h.elim) (fun _ h => h.elim) _ _ _ _ (fun b hb => hk1 b (fun e => (hnp b hb).2 (by rw [e]; simp))) h2
  obtain ⟨i, hi, hz, hsz, hby⟩ : ∃ i, Tryd.prog.info? 24 = some i ∧ i.zero = some (.slice none 0 0) ∧ i.size = 1 ∧ i.bytes = 24 := by
    have := info24
    rw [Option.map_eq_some_iff] at this
    obtain ⟨i, h, e⟩ := this
    simp only [Prod.mk.injEq] at e
    exact ⟨i, h, e.1, e.2.1, e.2.2⟩
  have hlx : (l.map (·.2)).length = l.length := List.length_map ..
  obtain ⟨w2, sa, sn, sc, sh', hap, he', hx2, hn2, hb2, hext2⟩ := gather (t := .l .by) (m := .o .r) (P := Tryd.prog) (T := 23) rfl und23 hi hsz hz rfl hx1 hy1 ((List.nodup_cons.1 (List.nodup_cons.1 (List.nodup_cons.1 (List.nodup_cons.1 hnd).2).2).2).2) (by rw [hby, hlx]; omega) (by rw [hlx]; omega) 24
  rw [show (Lk.cells t0 (.l .by) r s2).toArray = #[.slice ra rn rc] by rw [← he]; rfl] at hap
  have hlt : ∀ b ∈ J.lp :: J.D :: J.cR :: J.cE :: Lk.bl (.l (.l .by)) (.o (.o .r)) (l.map (·.2)) sh, b < w.heap.size := fun b hb => (hown b (List.mem_append_left _ hb)).1
  have hk2 : ∀ b, b < w.heap.size → b ∉ Lk.bl (.l (.l .by)) (.o (.o .r)) (l.map (·.2)) sh → w2.heap[b]? = w1.heap[b]? := fun b h1 h2 => hext2.block b (Nat.lt_of_lt_of_le h1 hext1.size) h2
  have hR1 := (hk1 J.cR (fun e => d2 e.symm)).trans hR
  have hE1 := (hk1 J.cE (fun e => d3 e.symm)).trans hE
  have hR2 := (hk2 J.cR (hlt _ (by simp)) d9).trans hR1
  have hE2 := (hk2 J.cE (hlt _ (by simp)) d10).trans hE1
  refine walkJ J w1 at_ ra rn rc sh.hd sa sn sc w2 _ (cell0 hR1).1 hap ⟨_, (cell0 hR2).1⟩ (cell0 hR2).2 ⟨_, (cell0 hE2).1⟩ (cell0 hE2).2 d8 (fun a' => ?_)
  have hlp : ((w2.setCell ⟨J.cR, 0, none⟩ (.slice sa sn sc)).setCell ⟨J.cE, 0, none⟩ (.int .i64 at_)).heap[J.lp]? = w1.heap[J.lp]? := by
    rw [Below.heap_setCell _ _ _ _ d3, Below.heap_setCell _ _ _ _ d2, hk2 _ (hlt _ (by simp)) d4]
  rw [← hw1, World.putObj_heap_same (hlt _ (by simp))] at hlp
  refine ⟨_, _, run_endRound none hlp, ?_⟩
  have hfin := round_gen (f := J.f) (fn := Tryd.f7) hJ hnb hext1 hext2 hx2 hn2 hb2 hnp hat (w3 := ((w2.setCell ⟨J.cR, 0, none⟩ (.slice sa sn sc)).setCell ⟨J.cE, 0, none⟩ (.int .i64 at_)).putObj J.lp (J.obj J.TJ J.f Tryd.f7 #[21, 22])) (by rw [he'])
  obtain ⟨f1, f2, f3, f4⟩ := hfin
  refine ⟨.bool true, rfl, ?_, ⟨[⟨.b, .r, true, ()⟩, ⟨.a 2, .o .r, some (List.append (α := Lk.JItem) l [(at_, r)]), (.func (.yield J.lp) #[] #[], J.lp :: J.D :: J.cR :: J.cE :: Lk.bl (.l (.l .by)) (.o (.o .r)) (l.map (·.2) ++ [r]) sh')⟩, ⟨.l .by, .h, r, s2⟩], S, rfl, fun _ h => h, fun _ h => .inl h, fun b hb => Nat.lt_of_lt_of_le (hS b (.inl hb)) f4.size, ?_, ?_, ?_, rfl, ?_⟩⟩
  · rw [hbls]; exact ext_more f4 (fun k hk => .inl (List.mem_append_left _ hk))
  · intro d hd
    simp only [List.mem_cons, List.not_mem_nil, or_false] at hd
    rcases hd with rfl | rfl | rfl
    · rfl
    · have : JAt J (((w2.setCell ⟨J.cR, 0, none⟩ (.slice sa sn sc)).setCell ⟨J.cE, 0, none⟩ (.int .i64 at_)).putObj J.lp (J.obj J.TJ J.f Tryd.f7 #[21, 22])) (List.append (α := Lk.JItem) l [(at_, r)]) (.func (.yield J.lp) #[] #[]) (J.lp :: J.D :: J.cR :: J.cE :: Lk.bl (.l (.l .by)) (.o (.o .r)) (l.map (·.2) ++ [r]) sh') := by
        unfold JAt
        rw [show (List.append (α := Lk.JItem) l [(at_, r)]).map (·.1) = l.map (·.1) ++ [at_] from List.map_append, show (List.append (α := Lk.JItem) l [(at_, r)]).map (·.2) = l.map (·.2) ++ [r] from List.map_append, lastOf_snoc]
        exact f1
      exact this
    · trivial
  · show ([] ++ ((J.lp :: J.D :: J.cR :: J.cE :: Lk.bl (.l (.l .by)) (.o (.o .r)) (((l : List Lk.JItem).map (fun g : Lk.JItem => g.2) ++ [r] : List (List UInt8))) sh') ++ ([] ++ []))).Nodup
    rw [List.nil_append, List.nil_append, List.append_nil]
    exact f2
  · intro b hb
    have hb : b ∈ J.lp :: J.D :: J.cR :: J.cE :: Lk.bl (.l (.l .by)) (.o (.o .r)) (l.map (·.2) ++ [r]) sh' := by
      have h : b ∈ [] ++ ((J.lp :: J.D :: J.cR :: J.cE :: Lk.bl (.l (.l .by)) (.o (.o .r)) (l.map (·.2) ++ [r]) sh') ++ ([] ++ [])) := hb
      rw [List.nil_append, List.nil_append, List.append_nil] at h
      exact h
    rw [hbls]
    refine ⟨?_, f1.lt b hb, ?_⟩
    · rcases f3 b hb with h | h | h
      · exact .inl (List.mem_append_left _ h)
      · exact .inl (List.mem_append_right _ h)
      · exact .inr h
    · intro hs
      rcases f3 b hb with h | h | h
      · exact (hown b (List.mem_append_left _ h)).2 (.inl hs)
      · exact (hown b (List.mem_append_right _ h)).2 (.inl hs)
      · have := hS b (.inl hs); omega
  · simp [Lk.DV.val, Lk.DV.cells, Lk.cells, Lk.valOf, Lk.isAggT, Lk.isO]; rfl
set_option maxRecDepth 100000 in
theorem yok_B (B J : Lp) : Lk.YOk kw (ax B J) Tryd.prog RrG.ysB := by
  intro x res hx w S Sb ads hK hS ha hh
  obtain ⟨y, g, ⟨⟩⟩ := x
  have hx : RrG.yB y g = some res := hx
  unfold RrG.yB at hx
  cases y with
  | none => cases hx
  | some l =>
  simp only at hx
  cases hlen : Nat.ble l.length 1073741823 with
  | false => rw [hlen] at hx; cases hx
  | true =>
  rw [hlen, cond_true] at hx
  cases hx
  have hlen := Nat.le_of_ble_eq_true hlen
  obtain ⟨⟨v, bs⟩, ads1, rfl, ha1⟩ := ads_cons ha
  obtain ⟨s2, ads3, rfl, ha2⟩ := ads_cons ha1
  obtain rfl := ads_nil ha2
  have h0 : BAt J w l v bs := hh.hold _ (List.mem_cons_self ..)
  obtain ⟨q, ⟨k, kx, ky, ⟨⟩⟩, e, ⟨⟩⟩ := g
  have h2 : Lk.Rd t0 F0 w (.c (.i .u64) (.c (.c (.i .i64) (.c .s (.c .s .u))) (.c (.i .i64) .u))) (q, (k, kx, ky, ()), e, ()) [.int .u64 q, .int .i64 k, Lk.strV kx, Lk.strV ky, .int .i64 e] := Rd_bare _ _ _ rfl (hh.hold _ (List.mem_cons_of_mem _ (List.mem_cons_self ..)))
  have hat : Lk.inR .i64 e ∧ Lk.inR .i64 k ∧ kx.length ≤ Lk.big ∧ ky.length ≤ Lk.big := by
    simp only [Lk.Rd] at h2
    obtain ⟨c1, c2, e1, ⟨rfl, _⟩, c3, c4, e2, ⟨c5, c6, rfl, ⟨rfl, r1⟩, c7, c8, rfl, ⟨rfl, r2⟩, c9, c10, rfl, ⟨rfl, r3⟩, rfl⟩, ⟨c11, c12, rfl, ⟨rfl, r4⟩, rfl⟩⟩ := h2
    exact ⟨r4, r1, r2, r3⟩
  obtain ⟨hat, hkr, hkl, hyl⟩ := hat
  have hy0 : ∀ w' : World, Lk.hold t0 F0 F0 w' OpT OpM (k, kx, ky, ()) ((), (), (), ()) := fun w' => by
    simp only [Lk.hold, Lk.Rd, Lk.cells]
    exact ⟨⟨trivial, hkr⟩, ⟨trivial, hkl⟩, ⟨trivial, hyl⟩, trivial⟩
  have hbls : Lk.blsOf [⟨.a 3, .o .r, some l, (v, bs)⟩, ⟨.c (.i .u64) (.c (.c (.i .i64) (.c .s (.c .s .u))) (.c (.i .i64) .u)), .r, (q, (k, kx, ky, ()), e, ()), s2⟩] = bs := by
    show bs ++ ([] ++ []) = _
    simp
  have hnd := hh.nodup
  have hown := hh.own
  rw [hbls] at hnd hown
  have hJ := h0
  obtain ⟨sh, rfl, hL, hD, hR, hE, hh2, hin, rfl⟩ := h0
  have hnb := hnd
  refine ⟨J.lp, [.agg #[.int .u64 q, .int .i64 k, Lk.strV kx, Lk.strV ky, .int .i64 e]], by simp [Lk.DV.val, Lk.DV.cells, Lk.cells, Lk.valOf, Lk.isAggT], ?_⟩
  have hd := hnb
  simp only [List.nodup_cons, List.mem_cons, not_or] at hd
  obtain ⟨⟨d1, d2, d3, d4⟩, ⟨d5, d6, d7⟩, ⟨d8, d9⟩, d10, d11⟩ := hd
  refine ⟨J.f, _, _, _, run_yield hL rfl, roundIn_of_wpIn trivial ?_⟩
  show Code.wpIn (Fence.wide.inRound J.lp) 0 Tryd.prog (loopOf Tryd.f8).1 _ { tmps := ((#[22].zip #[.agg #[.int .u64 q, .int .i64 k, Lk.strV kx, Lk.strV ky, .int .i64 e]]).foldl (fun tmps (t, a) => tmps.setIfInBounds t a) J.TB), defers := [] } w
  rw [zip1]
  refine asgB J w q k e ⟨kx.toArray⟩ ⟨ky.toArray⟩ _ ?_
  have hlt : ∀ b ∈ J.lp :: J.D :: J.cR :: J.cE :: Lk.bl (.l OpT) (.o OpM) (l.map (·.2.1)) sh, b < w.heap.size := fun b hb => (hown b hb).1
  generalize hw0 : w.alloc _ = w0
  have hk0 : ∀ b, b < w.heap.size → w0.heap[b]? = w.heap[b]? := fun b hb => by rw [← hw0]; exact alloc_lt _ _ hb
  have hq0 : w0.heap[w.heap.size]? = some (.cells #[.int .u64 q, .int .i64 k, Lk.strV kx, Lk.strV ky, .int .i64 e] 60) := by rw [← hw0]; exact alloc_at _ _
  have hext0 : Lk.Ext [] w w0 := by rw [← hw0]; exact ext_alloc (ext_refl _ _) _
  refine ⟨_, run_beginRound ((hk0 _ (hlt _ (by simp))).trans hL) rfl, ?_⟩
  generalize hw1 : w0.putObj J.lp _ = w1
  have hext1 : Lk.Ext [J.lp] w w1 := by rw [← hw1]; exact ext_put (.inl (by simp)) (ext_more hext0 (by simp)) _
  have hk1 : ∀ b, b < w.heap.size → b ≠ J.lp → w1.heap[b]? = w.heap[b]? := fun b hb hne => by rw [← hw1]; exact (World.putObj_heap_other hne).trans (hk0 b hb)
  have hq1 : w1.heap[w.heap.size]? = some (.cells #[.int .u64 q, .int .i64 k, Lk.strV kx, Lk.strV ky, .int .i64 e] 60) := by
    rw [← hw1, World.putObj_heap_other (by have := hlt J.lp (by simp); omega)]; exact hq0
  have hx1 := Lk.hold_keep t0 (S' := F0) (Sb' := F0) (fun _ h => h.elim) (fun _ h => h.elim) _ _ _ _ (fun b hb => hk1 b (hlt b (by simp [hb])) (fun e => d4 (e ▸ hb))) hh2
  obtain ⟨i, hi, hz, hsz, hby⟩ : ∃ i, Tryd.prog.info? 58 = some i ∧ i.zero = some (.agg #[.int .i64 0, .string ⟨#[]⟩, .string ⟨#[]⟩]) ∧ i.size = 3 ∧ i.bytes = 40 := by
    have := info58
    rw [Option.map_eq_some_iff] at this
    obtain ⟨i, h, e⟩ := this
    simp only [Prod.mk.injEq] at e
    exact ⟨i, h, e.1, e.2.1, e.2.2⟩
  have hlx : (l.map (·.2.1)).length = l.length := List.length_map ..
  obtain ⟨w2, sa, sn, sc, sh', hap, he', hx2, hn2, hb2, hext2⟩ := gather (t := OpT) (m := OpM) (P := Tryd.prog) (T := 35) rfl und35 hi hsz hz rfl hx1 (hy0 w1) (by
    rw [show Lk.bl OpT OpM (k, kx, ky, ()) ((), (), (), ()) = [] from rfl, List.append_nil]
    exact (List.nodup_cons.1 (List.nodup_cons.1 (List.nodup_cons.1 (List.nodup_cons.1 hnd).2).2).2).2) (by rw [hby, hlx]; omega) (by rw [hlx]; omega) 58
  have hk2 : ∀ b, b < w1.heap.size → b ∉ Lk.bl (.l OpT) (.o OpM) (l.map (·.2.1)) sh → w2.heap[b]? = w1.heap[b]? := fun b h1 h2 => hext2.block b h1 h2
  have hs01 := hext1.size
  have hR1 := (hk1 J.cR (hlt _ (by simp)) (fun e => d2 e.symm)).trans hR
  have hE1 := (hk1 J.cE (hlt _ (by simp)) (fun e => d3 e.symm)).trans hE
  have hR2 := (hk2 J.cR (hlt' hR1) d9).trans hR1
  have hE2 := (hk2 J.cE (hlt' hE1) d10).trans hE1
  have hq2 := (hk2 w.heap.size (hlt' hq1) (fun h => by have := hlt w.heap.size (by simp [h]); omega)).trans hq1
  have c1 := Lk.cell_of (o := 1) hq1
  have c2 := Lk.cell_of (o := 2) hq1
  have c3 := Lk.cell_of (o := 3) hq1
  have c4 := Lk.cell_of (o := 4) hq2
  refine walkB J w1 w.heap.size q k e ⟨kx.toArray⟩ ⟨ky.toArray⟩ _ sh.hd sa sn sc w2 _ (cell0 hR1).1 c1 c2 c3 c4 hap ⟨_, (cell0 hR2).1⟩ (cell0 hR2).2 ⟨_, (cell0 hE2).1⟩ (cell0 hE2).2 d8 (by have := hlt J.cR (by simp); omega) (fun a' => ?_)
  have hlp : ((w2.setCell ⟨J.cR, 0, none⟩ (.slice sa sn sc)).setCell ⟨J.cE, 0, none⟩ (.int .i64 e)).heap[J.lp]? = w1.heap[J.lp]? := by
    rw [Below.heap_setCell _ _ _ _ d3, Below.heap_setCell _ _ _ _ d2, hk2 _ (by have := hlt J.lp (by simp); omega) d4]
  rw [← hw1, World.putObj_heap_same (by have := hlt J.lp (by simp); have := hext0.size; omega)] at hlp
  refine ⟨_, _, run_endRound none hlp, ?_⟩
  have hfin := round_gen (f := J.f) (fn := Tryd.f8) (By := []) hJ hnb hext1 hext2 hx2 hn2 (fun b hb => by
    rcases hb2 b hb with h | h | h
    · exact .inl h
    · cases h
    · exact .inr (.inr h)) (by simp) hat (w3 := ((w2.setCell ⟨J.cR, 0, none⟩ (.slice sa sn sc)).setCell ⟨J.cE, 0, none⟩ (.int .i64 e)).putObj J.lp (J.obj J.TB J.f Tryd.f8 #[22])) (by rw [he'])
  obtain ⟨f1, f2, f3, f4⟩ := hfin
  refine ⟨.bool true, rfl, ?_, ⟨[⟨.b, .r, true, ()⟩, ⟨.a 3, .o .r, some (List.append (α := Lk.BItem) l [(q, (k, kx, ky, ()), e, ())]), (.func (.yield J.lp) #[] #[], J.lp :: J.D :: J.cR :: J.cE :: Lk.bl (.l OpT) (.o OpM) (l.map (·.2.1) ++ [(k, kx, ky, ())]) sh')⟩], S, rfl, fun _ h => h, fun _ h => .inl h, fun b hb => Nat.lt_of_lt_of_le (hS b (.inl hb)) f4.size, ?_, ?_, ?_, rfl, ?_⟩⟩
  · rw [hbls]; exact f4
  · intro d hd
    simp only [List.mem_cons, List.not_mem_nil, or_false] at hd
    rcases hd with rfl | rfl
    · rfl
    · have : BAt J (((w2.setCell ⟨J.cR, 0, none⟩ (.slice sa sn sc)).setCell ⟨J.cE, 0, none⟩ (.int .i64 e)).putObj J.lp (J.obj J.TB J.f Tryd.f8 #[22])) (List.append (α := Lk.BItem) l [(q, (k, kx, ky, ()), e, ())]) (.func (.yield J.lp) #[] #[]) (J.lp :: J.D :: J.cR :: J.cE :: Lk.bl (.l OpT) (.o OpM) (l.map (·.2.1) ++ [(k, kx, ky, ())]) sh') := by
        unfold BAt
        rw [show (List.append (α := Lk.BItem) l [(q, (k, kx, ky, ()), e, ())]).map (·.2.1) = l.map (·.2.1) ++ [(k, kx, ky, ())] from List.map_append, show (List.append (α := Lk.BItem) l [(q, (k, kx, ky, ()), e, ())]).map (·.2.2.1) = l.map (·.2.2.1) ++ [e] from List.map_append, lastOf_snoc]
        exact f1
      exact this
  · show ([] ++ ((J.lp :: J.D :: J.cR :: J.cE :: Lk.bl (.l OpT) (.o OpM) (((l : List Lk.BItem).map (fun g : Lk.BItem => g.2.1) ++ [(k, kx, ky, ())] : List (Lk.E OpT))) sh') ++ [])).Nodup
    rw [List.nil_append, List.append_nil]
    exact f2
  · intro b hb
    have hb : b ∈ J.lp :: J.D :: J.cR :: J.cE :: Lk.bl (.l OpT) (.o OpM) (l.map (·.2.1) ++ [(k, kx, ky, ())]) sh' := by
      have h : b ∈ [] ++ ((J.lp :: J.D :: J.cR :: J.cE :: Lk.bl (.l OpT) (.o OpM) (l.map (·.2.1) ++ [(k, kx, ky, ())]) sh') ++ []) := hb
      rw [List.nil_append, List.append_nil] at h
      exact h
    rw [hbls]
    refine ⟨?_, f1.lt b hb, ?_⟩
    · rcases f3 b hb with h | h | h
      · exact .inl h
      · cases h
      · exact .inr h
    · intro hs
      rcases f3 b hb with h | h | h
      · exact (hown b h).2 (.inl hs)
      · cases h
      · have := hS b (.inl hs); omega
  · rfl
end Rr
end
section
/-! check.take, as L has it. -/
namespace Rr
open Go Go.RowKit Go.Proofs
theorem tab_lt {w : World} (h : Tab w) : 0 < w.heap.size := by
  rcases Nat.lt_or_ge 0 w.heap.size with h' | h'
  · exact h'
  · unfold Tab Lib.TabIs World.var? at h
    rw [tab_at, Option.bind_some, Array.getElem?_eq_none h'] at h
    cases h
theorem tab_keep (w w' : World) (B : List Nat) (h : Tab w) (hB : ∀ b ∈ B, 1 ≤ b) (hx : Lk.Ext B w w') : Tab w' := by
  have hl := tab_lt h
  unfold Tab Lib.TabIs World.var? at h ⊢
  rw [tab_at, Option.bind_some] at h ⊢
  rw [hx.block 0 hl (fun h => by have := hB 0 h; omega)]
  exact h
theorem res_flat {τ : Lk.Ax} {w w' : World} {S : Nat → Prop} {B : List Nat} {us : List Lk.AV} {nr : Nat} {ads : List Lk.DV} {v : Value} (rds : List Lk.DV) (h1 : rds.map Lk.DV.av = us) (hS : ∀ b, S b → b < w.heap.size) (hsz : w.heap.size ≤ w'.heap.size)
    (hh : ∀ d ∈ rds, d.hold τ S S w') (hn : Lk.blsOf rds = []) (hv : v = Lk.resV (τ := τ) (rds.take nr)) (hd : rds.drop nr = []) (ha : (ads.filter fun d => Lk.isO d.m) = []) :
    Lk.ResAre (τ := τ) w w' S B us nr ads v :=
  ⟨⟨rds, S, h1, fun _ h => h, fun _ h => .inl h, fun b hb => Nat.lt_of_lt_of_le (hS b hb) hsz, hh, by rw [hn]; simp, by rw [hn]; simp, hv, by rw [hd, ha]⟩⟩
theorem ok_take {τ : Lk.Ax} (n : Nat) : Lk.FnOk (τ := τ) (Kw := kw) Tryd.prog 50 ⟨[(.i .u32, .r), (.by, .r)], [(.i .u32, .r)], 1⟩ (RrG.ext50 n) := by
  rintro ⟨r, b, _⟩ res hx w S Sb ads hK hs ha hargs
  obtain ⟨s1, ads1, rfl, ha1⟩ := ads_cons ha
  obtain ⟨s2, ads2, rfl, ha2⟩ := ads_cons ha1
  obtain rfl := ads_nil ha2
  have h1 : Lk.Rd τ S w (.i .u32) r [.int .u32 r] := hargs.hold _ (List.mem_cons_self ..)
  obtain ⟨_, hr0, hr1⟩ := h1
  have hr0 : (0 : Int) ≤ r := hr0
  have hr1 : r ≤ (4294967295 : Int) := hr1
  obtain ⟨r, rfl⟩ := Int.eq_ofNat_of_zero_le hr0
  have hr : r < 4294967296 := by
    have : (r : Int) ≤ (4294967295 : Int) := hr1
    clear hr1 hr0
    omega
  have hx : some (((takeN r b : Nat) : Int), ()) = some res := hx
  cases hx
  refine (show Calls Tryd.prog 50 #[.int .u32 r, .int .u8 b.toNat] w _ from ?_)
  refine (take_any w hK r hr b).mono fun e w' ⟨he, hw⟩ => ⟨_, he, by rw [hw]; exact ext_refl _ _, ?_⟩
  rw [hw]
  refine res_flat [⟨.i .u32, .r, ((takeN r b : Nat) : Int), ()⟩] rfl (fun b hb => hs b (.inl hb)) (Nat.le_refl _) ?_ (by simp [Lk.blsOf, Lk.DV.bl, Lk.bl]) rfl rfl rfl
  intro d hd
  obtain rfl := List.mem_singleton.1 hd
  have := take_lt hr b
  have h0 : (0 : Int) ≤ ((takeN r b : Nat) : Int) := by omega
  have h1 : ((takeN r b : Nat) : Int) ≤ 4294967295 := by omega
  exact ⟨rfl, h0, h1⟩
end Rr
end
section
namespace Rr.GP
open Go Go.RowKit Go.Proofs
variable (J B : Lp)
theorem env : Lk.EnvOk (ax J B) Tryd.prog RrG.G.toEnv := Lk.env_ok (tys := RrG.tys) (lims := RrG.lims) (cmps := [58]) (fun _ => rfl) (fun _ => rfl) (fun _ => rfl) (by kernel_rfl) (by kernel_rfl)
theorem names : (RrG.bodies.toList ++ RrG.exts.toList).all (fun p => Lk.nameB p.2) = true := by kernel_rfl
theorem nrs : RrG.bodies.toList.all (Lk.nrB RrG.sigs) = true := by kernel_rfl
theorem funcs : ∀ p ∈ RrG.bodies.toList ++ RrG.exts.toList, Tryd.prog.funcs[p.1]? = some p.2 := by
  intro p hp
  have e : RrG.bodies.toList ++ RrG.exts.toList = [(5, Tryd.f5), (6, Tryd.f6), (9, Tryd.f9), (10, Tryd.f10), (11, Tryd.f11), (12, Tryd.f12), (14, Tryd.f14), (15, Tryd.f15), (17, Tryd.f17), (18, Tryd.f18), (19, Tryd.f19), (20, Tryd.f20), (21, Tryd.f21), (22, Tryd.f22), (23, Tryd.f23), (24, Tryd.f24), (25, Tryd.f25), (26, Tryd.f26), (27, Tryd.f27), (28, Tryd.f28), (29, Tryd.f29), (30, Tryd.f30), (31, Tryd.f31), (32, Tryd.f32), (33, Tryd.f33), (34, Tryd.f34), (35, Tryd.f35), (36, Tryd.f36), (37, Tryd.f37), (38, Tryd.f38), (39, Tryd.f39), (40, Tryd.f40), (41, Tryd.f41), (42, Tryd.f42), (43, Tryd.f43), (44, Tryd.f44), (45, Tryd.f45), (46, Tryd.f46), (47, Tryd.f47), (48, Tryd.f48), (49, Tryd.f49), (51, Tryd.f51), (50, Tryd.f50)] := by kernel_rfl
  rw [e] at hp
  simp only [List.mem_cons, List.not_mem_nil, or_false] at hp
  rcases hp with rfl | rfl | rfl | rfl | rfl | rfl | rfl | rfl | rfl | rfl | rfl | rfl | rfl | rfl | rfl | rfl | rfl | rfl | rfl | rfl | rfl | rfl | rfl | rfl | rfl | rfl | rfl | rfl | rfl | rfl | rfl | rfl | rfl | rfl | rfl | rfl | rfl | rfl | rfl | rfl | rfl | rfl | rfl
  · exact Tryd.func5
  · exact Tryd.func6
  · exact Tryd.func9
  · exact Tryd.func10
  · exact Tryd.func11
  · exact Tryd.func12
  · exact Tryd.func14
  · exact Tryd.func15
  · exact Tryd.func17
  · exact Tryd.func18
  · exact Tryd.func19
  · exact Tryd.func20
  · exact Tryd.func21
  · exact Tryd.func22
  · exact Tryd.func23
  · exact Tryd.func24
  · exact Tryd.func25
  · exact Tryd.func26
  · exact Tryd.func27
  · exact Tryd.func28
  · exact Tryd.func29
  · exact Tryd.func30
  · exact Tryd.func31
  · exact Tryd.func32
  · exact Tryd.func33
  · exact Tryd.func34
  · exact Tryd.func35
  · exact Tryd.func36
  · exact Tryd.func37
  · exact Tryd.func38
  · exact Tryd.func39
  · exact Tryd.func40
  · exact Tryd.func41
  · exact Tryd.func42
  · exact Tryd.func43
  · exact Tryd.func44
  · exact Tryd.func45
  · exact Tryd.func46
  · exact Tryd.func47
  · exact Tryd.func48
  · exact Tryd.func49
  · exact Tryd.func51
  · exact Tryd.func50
theorem exts : ∀ g F n, RrG.G.ext g = some F → Lk.FnOk (τ := ax J B) (Kw := kw) Tryd.prog g (RrG.G.sig g) (F n) := by
  intro g F n h
  show Lk.FnOk (τ := ax J B) (Kw := kw) Tryd.prog g ((RrG.sigs.get g).getD ⟨[], [], 0⟩) (F n)
  change RrG.ext g = some F at h
  unfold RrG.ext at h
  split at h
  · cases h; exact ok_take n
  · cases h
theorem extb : ∀ g F, RrG.G.ext g = some F → (RrG.exts.get g).isSome = true := by
  intro g F h
  change RrG.ext g = some F at h
  unfold RrG.ext at h
  split at h
  · rfl
  · cases h
theorem yls : ∀ f id ys, RrG.G.yl f id = some ys → Lk.YOk kw (ax J B) Tryd.prog ys := by
  intro f id ys h
  change (bif Nat.beq f 14 && Nat.beq id 28 then some RrG.ysJ else bif Nat.beq f 29 && Nat.beq id 7 then some RrG.ysB else none) = some ys at h
  cases h1 : (Nat.beq f 14 && Nat.beq id 28) with
  | true => rw [h1] at h; cases h; exact yok_J J B
  | false =>
    rw [h1, cond_false] at h
    cases h2 : (Nat.beq f 29 && Nat.beq id 7) with
    | true => rw [h2] at h; cases h; exact yok_B J B
    | false => rw [h2] at h; cases h
theorem prg : Lk.PrgOk kw (ax J B) Tryd.prog RrG.G :=
  Lk.prg_ok (bodies := RrG.bodies) (exts := RrG.exts) (env J B) (by kernel_rfl) (fun w w' B h hB _ hx => tab_keep w w' B h hB hx) (fun _ => rfl) extb (exts J B) funcs names (by kernel_rfl) (yls J B)
theorem res : ∀ g fn, RrG.G.body g = some fn → fn.results.size ≤ 5 ∧ (RrG.G.sig g).nr = fn.results.size := Lk.res_le (bodies := RrG.bodies) (exts := RrG.exts) (sigs := RrG.sigs) (fun _ => rfl) (fun _ => rfl) names nrs
end Rr.GP
end
