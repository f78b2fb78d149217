import Derived.Test.YthndplnjiibgkaaDoorProg
import Derived.Test.YthndplnjiibgkaaDoorLkThree
import Derived.Test.YthndplnjiibgkaaDoorRrFive
import Derived.Test.YthndplnjiibgkaaDoorRtEight
import Derived.ProofKit
import Derived.Test.YthndplnjiibgkaaDoorRsSeven
import Derived.Test.YthndplnjiibgkaaDoorRsSix
set_option linter.all false
section
namespace RqG
open Go Lk
noncomputable def tys : BT (Ty × Md) := (.node (.node (.node (.node (.node (.node (.node .leaf 1 (.z .fn, .r) .leaf) 2 (.i .i64, .r) .leaf) 3 (.i .i64, .r) (.node .leaf 4 (.b, .r) .leaf)) 5 (.by, .r) (.node (.node (.node .leaf 6 (.by, .r) .leaf) 7 (.c (.i .i64) (.c (.i .i64) (.c (.b) (.c (.by) (.u)))), (.q .r (.q .r (.q .r (.q .r .r))))) .leaf) 8 (.c (.i .i64) (.c (.i .i64) (.c (.b) (.c (.by) (.u)))), (.q .r (.q .r (.q .r (.q .r .r))))) (.node .leaf 9 (.s, .r) .leaf))) 10 (.s, .r) (.node (.node (.node (.node .leaf 11 (.s, .r) .leaf) 12 (.i .u64, .r) .leaf) 13 (.c (.s) (.c (.i .u64) (.u)), (.q .r (.q .r .r))) (.node .leaf 14 (.c (.s) (.c (.i .u64) (.u)), (.q .r (.q .r .r))) .leaf)) 15 (.p (.c (.p (.c (.i .u64) (.c (.i .u64) (.c (.i .u32) (.c (.by) (.c (.by) (.c (.by) (.c (.by) (.c (.z .fn) (.c (.p (.by)) (.c (.i .i32) (.c (.i .i32) (.u))))))))))))) (.c (.p (.c (.i .u64) (.c (.i .u64) (.c (.i .u32) (.c (.by) (.c (.by) (.c (.by) (.c (.by) (.c (.z .fn) (.c (.p (.by)) (.c (.i .i32) (.c (.i .i32) (.u))))))))))))) (.c (.p (.c (.i .u64) (.c (.i .u64) (.c (.i .u32) (.c (.by) (.c (.by) (.c (.by) (.c (.by) (.c (.z .fn) (.c (.p (.by)) (.c (.i .i32) (.c (.i .i32) (.u))))))))))))) (.c (.s) (.u))))), (.o (.q (.o (.q .r (.q .r (.q .r (.q .r (.q .r (.q .r (.q .r (.q .r (.q (.o .r) (.q .r (.q .r .r)))))))))))) (.q (.o (.q .r (.q .r (.q .r (.q .r (.q .r (.q .r (.q .r (.q .r (.q (.o .r) (.q .r (.q .r .r)))))))))))) (.q (.o (.q .r (.q .r (.q .r (.q .r (.q .r (.q .r (.q .r (.q .r (.q (.o .r) (.q .r (.q .r .r)))))))))))) (.q .r .r)))))) (.node (.node (.node .leaf 16 (.z .pt, .r) .leaf) 17 (.p (.c (.i .u64) (.c (.i .u64) (.c (.i .u32) (.c (.by) (.c (.by) (.c (.by) (.c (.by) (.c (.z .fn) (.c (.p (.by)) (.c (.i .i32) (.c (.i .i32) (.u)))))))))))), (.o (.q .r (.q .r (.q .r (.q .r (.q .r (.q .r (.q .r (.q .r (.q (.o .r) (.q .r (.q .r .r))))))))))))) .leaf) 18 (.c (.p (.c (.i .u64) (.c (.i .u64) (.c (.i .u32) (.c (.by) (.c (.by) (.c (.by) (.c (.by) (.c (.z .fn) (.c (.p (.by)) (.c (.i .i32) (.c (.i .i32) (.u))))))))))))) (.u), (.q (.o (.q .r (.q .r (.q .r (.q .r (.q .r (.q .r (.q .r (.q .r (.q (.o .r) (.q .r (.q .r .r)))))))))))) .r)) (.node .leaf 19 (.c (.p (.c (.i .u64) (.c (.i .u64) (.c (.i .u32) (.c (.by) (.c (.by) (.c (.by) (.c (.by) (.c (.z .fn) (.c (.p (.by)) (.c (.i .i32) (.c (.i .i32) (.u))))))))))))) (.u), (.q (.o (.q .r (.q .r (.q .r (.q .r (.q .r (.q .r (.q .r (.q .r (.q (.o .r) (.q .r (.q .r .r)))))))))))) .r)) .leaf)))) 20 (.e, .r) (.node (.node (.node (.node (.node .leaf 21 (.i .i32, .r) .leaf) 22 (.l (.s), (.o .r)) .leaf) 23 (.l (.l (.by)), (.o (.o .r))) (.node .leaf 24 (.l (.by), (.o .r)) .leaf)) 26 (.z .fn, .r) (.node (.node (.node .leaf 28 (.z .fn, .r) .leaf) 29 (.z .fn, .r) .leaf) 30 (.z .fn, .r) (.node .leaf 31 (.i .i64, .r) .leaf))) 33 (.z .fn, .r) (.node (.node (.node (.node .leaf 34 (.i .u64, .r) .leaf) 35 (.l (.c (.i .i64) (.c (.s) (.c (.s) (.u)))), (.o (.q .r (.q .r (.q .r .r))))) .leaf) 37 (.z .fn, .r) (.node .leaf 38 (.z .fn, .r) .leaf)) 39 (.l (.c (.l (.by)) (.c (.i .i64) (.u))), (.o (.q (.o .r) (.q .r .r)))) (.node (.node .leaf 41 (.z .fn, .r) .leaf) 43 (.z .fn, .r) (.node .leaf 44 (.c (.l (.by)) (.c (.i .i64) (.u)), (.q (.o .r) (.q .r .r))) .leaf))))) 45 (.c (.l (.by)) (.c (.i .i64) (.u)), (.q (.o .r) (.q .r .r))) (.node (.node (.node (.node (.node (.node .leaf 46 (.p (.c (.i .i64) (.c (.l (.by)) (.c (.i .i64) (.c (.l (.by)) (.c (.b) (.u)))))), (.o (.q .r (.q (.o .r) (.q .r (.q (.o .r) (.q .r .r))))))) .leaf) 47 (.c (.i .i64) (.c (.l (.by)) (.c (.i .i64) (.c (.l (.by)) (.c (.b) (.u))))), (.q .r (.q (.o .r) (.q .r (.q (.o .r) (.q .r .r)))))) .leaf) 48 (.c (.i .i64) (.c (.l (.by)) (.c (.i .i64) (.c (.l (.by)) (.c (.b) (.u))))), (.q .r (.q (.o .r) (.q .r (.q (.o .r) (.q .r .r)))))) (.node .leaf 49 (.z .fn, .r) .leaf)) 50 (.z .fn, .r) (.node (.node (.node .leaf 51 (.z .fn, .r) .leaf) 53 (.z .fn, .r) .leaf) 54 (.z .fn, .r) (.node .leaf 55 (.z .fn, .r) .leaf))) 56 (.z .fn, .r) (.node (.node (.node (.node .leaf 57 (.c (.i .i64) (.c (.s) (.c (.s) (.u))), (.q .r (.q .r (.q .r .r)))) .leaf) 58 (.c (.i .i64) (.c (.s) (.c (.s) (.u))), (.q .r (.q .r (.q .r .r)))) .leaf) 59 (.c (.i .u64) (.c (.c (.i .i64) (.c (.s) (.c (.s) (.u)))) (.c (.i .i64) (.u))), (.q .r (.q (.q .r (.q .r (.q .r .r))) (.q .r .r)))) (.node .leaf 60 (.c (.i .u64) (.c (.c (.i .i64) (.c (.s) (.c (.s) (.u)))) (.c (.i .i64) (.u))), (.q .r (.q (.q .r (.q .r (.q .r .r))) (.q .r .r)))) .leaf)) 62 (.z .fn, .r) (.node (.node .leaf 63 (.z .fn, .r) .leaf) 64 (.z .fn, .r) (.node .leaf 66 (.z .fn, .r) .leaf)))) 67 (.i .u32, .r) (.node (.node (.node (.node (.node .leaf 68 (.z .fn, .r) .leaf) 69 (.z .fn, .r) .leaf) 70 (.z .fn, .r) (.node .leaf 71 (.i .u64, .r) .leaf)) 72 (.z .fn, .r) (.node (.node (.node .leaf 73 (.z .fn, .r) .leaf) 75 (.z .fn, .r) .leaf) 76 (.z .fn, .r) (.node .leaf 78 (.z .fn, .r) .leaf))) 79 (.z .fn, .r) (.node (.node (.node (.node .leaf 80 (.z .fn, .r) .leaf) 81 (.z .fn, .r) .leaf) 82 (.z .fn, .r) (.node .leaf 84 (.z .fn, .r) .leaf)) 85 (.z .fn, .r) (.node (.node .leaf 86 (.z .fn, .r) .leaf) 88 (.z .fn, .r) (.node .leaf 89 (.z .fn, .r) .leaf))))))
noncomputable def sigs : BT Sig := (.node (.node (.node (.node (.node .leaf 3 ⟨[(.i .i64, .r), (.l (.s), .b)], [(.b, .r)], 1⟩ .leaf) 4 ⟨[(.i .i64, .r), (.l (.l (.by)), .b)], [(.l (.l (.by)), (.o (.o .r))), (.b, .r)], 2⟩ .leaf) 5 ⟨[(.i .i64, .r), (.l (.s), .b)], [(.l (.s), (.o .r)), (.b, .r)], 2⟩ (.node (.node .leaf 6 ⟨[], [(.b, .r)], 1⟩ .leaf) 9 ⟨[(.i .i64, .r)], [(.b, .r)], 1⟩ .leaf)) 10 ⟨[(.i .i64, .r), (.l (.by), .b)], [(.l (.c (.l (.by)) (.c (.i .i64) (.u))), (.o (.q (.o .r) (.q .r .r)))), (.i .i64, .r)], 2⟩ (.node (.node (.node .leaf 11 ⟨[(.l (.by), .b)], [(.i .u64, .r), (.l (.c (.i .i64) (.c (.s) (.c (.s) (.u)))), (.o (.q .r (.q .r (.q .r .r))))), (.i .i64, .r)], 3⟩ .leaf) 19 ⟨[(.l (.by), .b)], [(.b, .r)], 1⟩ .leaf) 20 ⟨[(.l (.by), .b), (.i .i64, .r), (.i .i64, .r)], [(.i .u64, .r), (.i .i64, .r), (.i .i64, .r)], 3⟩ (.node .leaf 21 ⟨[(.i .u32, .r)], [(.i .u32, .r)], 1⟩ .leaf))) 22 ⟨[(.l (.by), .b)], [(.i .u32, .r)], 1⟩ (.node (.node (.node (.node .leaf 23 ⟨[(.l (.by), .b)], [(.i .u64, .r), (.l (.c (.i .i64) (.c (.s) (.c (.s) (.u)))), (.o (.q .r (.q .r (.q .r .r))))), (.i .i64, .r)], 3⟩ .leaf) 24 ⟨[(.l (.by), .b), (.i .i64, .r), (.i .i64, .r)], [(.i .u64, .r)], 1⟩ .leaf) 25 ⟨[(.i .u64, .r), (.i .i64, .r)], [(.b, .r)], 1⟩ (.node .leaf 35 ⟨[(.i .u32, .r), (.l (.by), .b)], [(.i .u32, .r)], 1⟩ .leaf)) 36 ⟨[(.l (.by), .b), (.i .i64, .r)], [(.c (.i .i64) (.c (.s) (.c (.s) (.u))), (.q .r (.q .r (.q .r .r)))), (.i .i64, .r)], 2⟩ (.node (.node (.node .leaf 41 ⟨[(.i .u32, .r), (.l (.by), .b)], [(.i .u32, .r)], 1⟩ .leaf) 42 ⟨[(.l (.by), .b), (.i .i64, .r), (.i .i64, .r)], [(.s, .r), (.i .i64, .r)], 2⟩ .leaf) 43 ⟨[(.c (.i .i64) (.c (.s) (.c (.s) (.u))), .r)], [(.b, .r)], 1⟩ (.node .leaf 49 ⟨[(.i .u32, .r), (.i .u32, .r)], [(.i .u32, .r)], 1⟩ .leaf))))
noncomputable def bodies : BT Func := (.node (.node (.node (.node (.node .leaf 3 Go.Proofs.Tryd.f3 .leaf) 5 Go.Proofs.Tryd.f5 .leaf) 6 Go.Proofs.Tryd.f6 (.node .leaf 9 Go.Proofs.Tryd.f9 .leaf)) 10 Go.Proofs.Tryd.f10 (.node (.node (.node .leaf 11 Go.Proofs.Tryd.f11 .leaf) 19 Go.Proofs.Tryd.f19 .leaf) 20 Go.Proofs.Tryd.f20 (.node .leaf 21 Go.Proofs.Tryd.f21 .leaf))) 22 Go.Proofs.Tryd.f22 (.node (.node (.node (.node .leaf 23 Go.Proofs.Tryd.f23 .leaf) 24 Go.Proofs.Tryd.f24 .leaf) 25 Go.Proofs.Tryd.f25 (.node .leaf 35 Go.Proofs.Tryd.f35 .leaf)) 36 Go.Proofs.Tryd.f36 (.node (.node (.node .leaf 41 Go.Proofs.Tryd.f41 .leaf) 42 Go.Proofs.Tryd.f42 .leaf) 43 Go.Proofs.Tryd.f43 (.node .leaf 49 Go.Proofs.Tryd.f49 .leaf))))
noncomputable def exts : BT Func := (.node .leaf 4 Go.Proofs.Tryd.f4 .leaf)
noncomputable def lives : BT (List Nat) := (.node (.node (.node (.node (.node (.node .leaf 12291 [0, 1, 5, 6] .leaf) 12298 [1, 5, 7, 9] .leaf) 12299 [1, 5, 7, 9, 11] (.node (.node .leaf 12304 [1, 5, 7, 9, 11, 12] .leaf) 12308 [1, 5, 13] .leaf)) 14345 [1, 5, 7, 9, 55] (.node (.node (.node .leaf 20485 [0, 1, 6, 7] .leaf) 20489 [0, 1, 6, 7, 8, 9, 10] .leaf) 20496 [6] (.node .leaf 40965 [0, 1, 6, 7, 8, 9] .leaf))) 40974 [0, 1, 6, 7, 8, 9, 11] (.node (.node (.node (.node .leaf 40984 [0, 1, 6, 7, 8, 9, 12, 15, 16] .leaf) 40989 [0, 1, 6, 7, 9, 15, 16, 17] .leaf) 40991 [0, 1, 6, 7, 9, 15, 16, 17] (.node (.node .leaf 40996 [0, 1, 6, 7, 8, 9] .leaf) 43031 [0, 1, 6, 7, 8, 9, 12, 15, 16, 93] .leaf)) 43036 [0, 1, 6, 7, 9, 15, 16, 17, 126] (.node (.node (.node .leaf 43038 [0, 1, 6, 7, 9, 15, 16, 17, 133] .leaf) 45062 [5, 6] .leaf) 47109 [5, 6, 44] (.node .leaf 77826 [0, 3] .leaf)))) 81923 [0, 1, 2] (.node (.node (.node (.node (.node .leaf 81927 [0, 1, 2, 9, 10] .leaf) 83970 [0, 1, 2, 18] .leaf) 94213 [0, 5, 6, 7, 8] (.node (.node .leaf 98307 [0, 1, 7, 8] .leaf) 147463 [1, 4, 6] .leaf)) 147465 [1, 4, 6] (.node (.node (.node .leaf 149510 [0, 1, 4, 6, 32] .leaf) 149512 [1, 4, 6, 46] .leaf) 167938 [0, 1, 5] (.node .leaf 167941 [0, 1, 5, 6] .leaf))) 172034 [0, 1, 2, 8, 9] (.node (.node (.node (.node .leaf 172036 [0, 1, 2, 8, 9] .leaf) 172043 [0, 1, 2, 8] .leaf) 172045 [0, 1, 8] (.node .leaf 174083 [0, 1, 2, 8, 9, 18] .leaf)) 174089 [0, 1, 2, 8, 39] (.node (.node (.node .leaf 174092 [0, 1, 8, 52] .leaf) 176131 [1] .leaf) 178178 [1, 12] (.node .leaf 200709 [0] .leaf)))))
noncomputable def ext4 : Nat → Tup [(.i .i64, .r), (.l (.l .by), .b)] → Option (Tup [(.l (.l .by), .o (.o .r)), (.b, .r)]) := fun n x => bif Rr.isBlk x.1 then (Rr.outer n x.1 x.2.1 []).map (fun r => (r.1, r.2, ())) else some ([], false, ())
noncomputable def ext : (g : FuncId) → Option (Nat → Tup ((sigs.get g).getD ⟨[], [], 0⟩).ps → Option (Tup ((sigs.get g).getD ⟨[], [], 0⟩).rs))
  | 4 => some ext4
  | _ => none
noncomputable def lims : BT Nat := (.node (.node (.node .leaf 22 1073741824 .leaf) 23 1073741824 (.node .leaf 24 1073741824 .leaf)) 35 1073741824 (.node .leaf 39 1073741824 .leaf))
noncomputable def G : Prg where
  ty T := tys.get T
  lim T := (lims.get T).getD 0
  cmp T := memb [58] T
  sig g := (sigs.get g).getD ⟨[], [], 0⟩
  body g := bodies.get g
  ext g := ext g
  live g r := lives.get (Nat.add (Nat.mul g 4096) r)
end RqG
end
section
namespace Rq.GP
open Go Go.RowKit Go.Proofs Rr
theorem env : Lk.EnvOk t0 Tryd.prog RqG.G.toEnv := Lk.env_ok (tys := RqG.tys) (lims := RqG.lims) (cmps := [58]) (fun _ => rfl) (fun _ => rfl) (fun _ => rfl) (by kernel_rfl) (by kernel_rfl)
theorem names : (RqG.bodies.toList ++ RqG.exts.toList).all (fun p => Lk.nameB p.2) = true := by kernel_rfl
theorem nrs : RqG.bodies.toList.all (Lk.nrB RqG.sigs) = true := by kernel_rfl
theorem funcs : ∀ p ∈ RqG.bodies.toList ++ RqG.exts.toList, Tryd.prog.funcs[p.1]? = some p.2 := by
  intro p hp
  have e : RqG.bodies.toList ++ RqG.exts.toList = [(3, Tryd.f3), (5, Tryd.f5), (6, Tryd.f6), (9, Tryd.f9), (10, Tryd.f10), (11, Tryd.f11), (19, Tryd.f19), (20, Tryd.f20), (21, Tryd.f21), (22, Tryd.f22), (23, Tryd.f23), (24, Tryd.f24), (25, Tryd.f25), (35, Tryd.f35), (36, Tryd.f36), (41, Tryd.f41), (42, Tryd.f42), (43, Tryd.f43), (49, Tryd.f49), (4, Tryd.f4)] := by kernel_rfl
  rw [e] at hp
  simp only [List.mem_cons, List.not_mem_nil, or_false] at hp
  rcases hp with rfl | rfl | rfl | rfl | rfl | rfl | rfl | rfl | rfl | rfl | rfl | rfl | rfl | rfl | rfl | rfl | rfl | rfl | rfl | rfl
  · exact Tryd.func3
  · exact Tryd.func5
  · exact Tryd.func6
  · exact Tryd.func9
  · exact Tryd.func10
  · exact Tryd.func11
  · exact Tryd.func19
  · exact Tryd.func20
  · exact Tryd.func21
  · exact Tryd.func22
  · exact Tryd.func23
  · exact Tryd.func24
  · exact Tryd.func25
  · exact Tryd.func35
  · exact Tryd.func36
  · exact Tryd.func41
  · exact Tryd.func42
  · exact Tryd.func43
  · exact Tryd.func49
  · exact Tryd.func4
theorem exts : ∀ g F n, RqG.G.ext g = some F → Lk.FnOk (τ := t0) (Kw := kw) Tryd.prog g (RqG.G.sig g) (F n) := by
  intro g F n h
  show Lk.FnOk (τ := t0) (Kw := kw) Tryd.prog g ((RqG.sigs.get g).getD ⟨[], [], 0⟩) (F n)
  change RqG.ext g = some F at h
  unfold RqG.ext at h
  split at h
  · cases h; exact ok_replay n
  · cases h
theorem extb : ∀ g F, RqG.G.ext g = some F → (RqG.exts.get g).isSome = true := by
  intro g F h
  change RqG.ext g = some F at h
  unfold RqG.ext at h
  split at h
  · rfl
  · cases h
theorem prg : Lk.PrgOk kw t0 Tryd.prog RqG.G :=
  Lk.prg_ok (bodies := RqG.bodies) (exts := RqG.exts) env (by kernel_rfl) (fun w w' B h hB _ hx => tab_keep w w' B h hB hx) (fun _ => rfl) extb exts funcs names (by kernel_rfl)
theorem res : ∀ g fn, RqG.G.body g = some fn → fn.results.size ≤ 5 ∧ (RqG.G.sig g).nr = fn.results.size := Lk.res_le (bodies := RqG.bodies) (exts := RqG.exts) (sigs := RqG.sigs) (fun _ => rfl) (fun _ => rfl) names nrs
end Rq.GP
end
section
namespace RqG
open Go Lk
set_option linter.unusedVariables false
@[irreducible] noncomputable def f9 (n : Nat) (a0 : Int) : Option (Bool × Unit) := F G n 9 (a0, ())
@[irreducible] noncomputable def f19 (n : Nat) (a0 : List (UInt8)) : Option (Bool × Unit) := F G n 19 (a0, ())
@[irreducible] noncomputable def p19_2 (j : Nat) (n0 : Nat) (v0 : List (UInt8)) (v3 : Int) : Option (Bool × Unit) := piece G 19 [.r, .l, .r, .b] j [n0] (skel 15 0 [(0, .av ⟨(.l .by), .b, v0⟩), (3, .av ⟨(.i .i64), .r, v3⟩)])
@[irreducible] noncomputable def f20 (n : Nat) (a0 : List (UInt8)) (a1 : Int) (a2 : Int) : Option (Int × Int × Int × Unit) := F G n 20 (a0, a1, a2, ())
@[irreducible] noncomputable def p20_2050 (j : Nat) (n0 : Nat) (v0 : List (UInt8)) (v1 : Int) (v2 : Int) (v18 : Bool) : Option (Int × Int × Int × Unit) := piece G 20 [.r, .l, .r] j [n0] (skel 45 0 [(0, .av ⟨(.l .by), .b, v0⟩), (1, .av ⟨(.i .i64), .r, v1⟩), (2, .av ⟨(.i .i64), .r, v2⟩), (18, .av ⟨.b, .r, v18⟩)])
@[irreducible] noncomputable def p20_3 (j : Nat) (n0 : Nat) (v0 : List (UInt8)) (v1 : Int) (v2 : Int) : Option (Int × Int × Int × Unit) := piece G 20 [.r, .r] j [n0] (skel 45 0 [(0, .av ⟨(.l .by), .b, v0⟩), (1, .av ⟨(.i .i64), .r, v1⟩), (2, .av ⟨(.i .i64), .r, v2⟩)])
@[irreducible] noncomputable def p20_7 (j : Nat) (n0 : Nat) (n1 : Nat) (v0 : List (UInt8)) (v1 : Int) (v2 : Int) (v9 : Int) (v10 : Int) : Option (Int × Int × Int × Unit) := piece G 20 [.r, .r, .r, .r, .l, .r, .b] j [n0, n1] (skel 45 0 [(0, .av ⟨(.l .by), .b, v0⟩), (1, .av ⟨(.i .i64), .r, v1⟩), (2, .av ⟨(.i .i64), .r, v2⟩), (9, .av ⟨(.i .u64), .r, v9⟩), (10, .av ⟨(.i .i64), .r, v10⟩)])
@[irreducible] noncomputable def f49 (n : Nat) (a0 : Int) (a1 : Int) : Option (Int × Unit) := F G n 49 (a0, a1, ())
@[irreducible] noncomputable def p49_5 (j : Nat) (n0 : Nat) (v0 : Int) : Option (Int × Unit) := piece G 49 [.r, .r, .r, .r] j [n0] (skel 17 0 [(0, .av ⟨(.i .u32), .r, v0⟩)])
@[irreducible] noncomputable def f41 (n : Nat) (a0 : Int) (a1 : List (UInt8)) : Option (Int × Unit) := F G n 41 (a0, a1, ())
@[irreducible] noncomputable def p41_2 (j : Nat) (n0 : Nat) (v0 : Int) (v1 : List (UInt8)) (v5 : Int) : Option (Int × Unit) := piece G 41 [.r, .l, .r, .b] j [n0] (skel 27 0 [(0, .av ⟨(.i .u32), .r, v0⟩), (1, .av ⟨(.l .by), .b, v1⟩), (5, .av ⟨(.i .i64), .r, v5⟩)])
@[irreducible] noncomputable def p41_5 (j : Nat) (n0 : Nat) (n1 : Nat) (v0 : Int) (v1 : List (UInt8)) (v5 : Int) (v6 : Int) : Option (Int × Unit) := piece G 41 [.r, .l, .r, .b, .o, .r, .l, .b, .r, .b] j [n0, n1] (skel 27 0 [(0, .av ⟨(.i .u32), .r, v0⟩), (1, .av ⟨(.l .by), .b, v1⟩), (5, .av ⟨(.i .i64), .r, v5⟩), (6, .av ⟨(.i .i64), .r, v6⟩)])
@[irreducible] noncomputable def f35 (n : Nat) (a0 : Int) (a1 : List (UInt8)) : Option (Int × Unit) := F G n 35 (a0, a1, ())
@[irreducible] noncomputable def f22 (n : Nat) (a0 : List (UInt8)) : Option (Int × Unit) := F G n 22 (a0, ())
@[irreducible] noncomputable def f21 (n : Nat) (a0 : Int) : Option (Int × Unit) := F G n 21 (a0, ())
@[irreducible] noncomputable def f10 (n : Nat) (a0 : Int) (a1 : List (UInt8)) : Option (List ((List (UInt8) × (Int × Unit))) × Int × Unit) := F G n 10 (a0, a1, ())
@[irreducible] noncomputable def p10_5 (j : Nat) (n0 : Nat) (v0 : Int) (v1 : List (UInt8)) (v6 : List ((List (UInt8) × (Int × Unit)))) (v7 : List (UInt8)) (v8 : Bool) (v9 : Int) : Option (List ((List (UInt8) × (Int × Unit))) × Int × Unit) := piece G 10 [.r, .r, .r, .r, .r, .b] j [n0] (skel 162 0 [(0, .av ⟨(.i .i64), .r, v0⟩), (1, .av ⟨(.l .by), .b, v1⟩), (6, .av ⟨(.l (.c (.l .by) (.c (.i .i64) .u))), (.o (.q (.o .r) (.q .r .r))), v6⟩), (7, .av ⟨(.l .by), (.o .r), v7⟩), (8, .av ⟨.b, .r, v8⟩), (9, .av ⟨(.i .i64), .r, v9⟩)])
@[irreducible] noncomputable def p10_14 (j : Nat) (n0 : Nat) (n1 : Nat) (v0 : Int) (v1 : List (UInt8)) (v6 : List ((List (UInt8) × (Int × Unit)))) (v7 : List (UInt8)) (v8 : Bool) (v9 : Int) (v11 : Int) : Option (List ((List (UInt8) × (Int × Unit))) × Int × Unit) := piece G 10 [.r, .r, .r, .r, .r, .b, .o, .b, .r, .r, .l, .r, .t, .r, .r] j [n0, n1] (skel 162 0 [(0, .av ⟨(.i .i64), .r, v0⟩), (1, .av ⟨(.l .by), .b, v1⟩), (6, .av ⟨(.l (.c (.l .by) (.c (.i .i64) .u))), (.o (.q (.o .r) (.q .r .r))), v6⟩), (7, .av ⟨(.l .by), (.o .r), v7⟩), (8, .av ⟨.b, .r, v8⟩), (9, .av ⟨(.i .i64), .r, v9⟩), (11, .av ⟨(.i .i64), .r, v11⟩)])
@[irreducible] noncomputable def p10_2071 (j : Nat) (n0 : Nat) (n1 : Nat) (v0 : Int) (v1 : List (UInt8)) (v6 : List ((List (UInt8) × (Int × Unit)))) (v7 : List (UInt8)) (v8 : Bool) (v9 : Int) (v12 : Int) (v15 : Int) (v16 : Int) (v93 : Bool) : Option (List ((List (UInt8) × (Int × Unit))) × Int × Unit) := piece G 10 [.r, .r, .r, .r, .r, .b, .o, .b, .r, .r, .r, .r, .r, .r, .r, .l, .r] j [n0, n1] (skel 162 0 [(0, .av ⟨(.i .i64), .r, v0⟩), (1, .av ⟨(.l .by), .b, v1⟩), (6, .av ⟨(.l (.c (.l .by) (.c (.i .i64) .u))), (.o (.q (.o .r) (.q .r .r))), v6⟩), (7, .av ⟨(.l .by), (.o .r), v7⟩), (8, .av ⟨.b, .r, v8⟩), (9, .av ⟨(.i .i64), .r, v9⟩), (12, .av ⟨(.i .u64), .r, v12⟩), (15, .av ⟨(.i .i64), .r, v15⟩), (16, .av ⟨(.i .i64), .r, v16⟩), (93, .av ⟨.b, .r, v93⟩)])
@[irreducible] noncomputable def p10_24 (j : Nat) (n0 : Nat) (n1 : Nat) (v0 : Int) (v1 : List (UInt8)) (v6 : List ((List (UInt8) × (Int × Unit)))) (v7 : List (UInt8)) (v8 : Bool) (v9 : Int) (v12 : Int) (v15 : Int) (v16 : Int) : Option (List ((List (UInt8) × (Int × Unit))) × Int × Unit) := piece G 10 [.r, .r, .r, .r, .r, .b, .o, .b, .r, .r, .r, .r, .r, .r, .r, .r] j [n0, n1] (skel 162 0 [(0, .av ⟨(.i .i64), .r, v0⟩), (1, .av ⟨(.l .by), .b, v1⟩), (6, .av ⟨(.l (.c (.l .by) (.c (.i .i64) .u))), (.o (.q (.o .r) (.q .r .r))), v6⟩), (7, .av ⟨(.l .by), (.o .r), v7⟩), (8, .av ⟨.b, .r, v8⟩), (9, .av ⟨(.i .i64), .r, v9⟩), (12, .av ⟨(.i .u64), .r, v12⟩), (15, .av ⟨(.i .i64), .r, v15⟩), (16, .av ⟨(.i .i64), .r, v16⟩)])
@[irreducible] noncomputable def p10_2076 (j : Nat) (n0 : Nat) (n1 : Nat) (n2 : Nat) (v0 : Int) (v1 : List (UInt8)) (v6 : List ((List (UInt8) × (Int × Unit)))) (v7 : List (UInt8)) (v9 : Int) (v15 : Int) (v16 : Int) (v17 : List (UInt8)) (v126 : Bool) : Option (List ((List (UInt8) × (Int × Unit))) × Int × Unit) := piece G 10 [.r, .r, .r, .r, .r, .b, .o, .b, .r, .r, .r, .r, .r, .r, .r, .r, .r, .r, .l, .r] j [n0, n1, n2] (skel 162 0 [(0, .av ⟨(.i .i64), .r, v0⟩), (1, .av ⟨(.l .by), .b, v1⟩), (6, .av ⟨(.l (.c (.l .by) (.c (.i .i64) .u))), (.o (.q (.o .r) (.q .r .r))), v6⟩), (7, .av ⟨(.l .by), (.o .r), v7⟩), (9, .av ⟨(.i .i64), .r, v9⟩), (15, .av ⟨(.i .i64), .r, v15⟩), (16, .av ⟨(.i .i64), .r, v16⟩), (17, .av ⟨(.l .by), .b, v17⟩), (126, .av ⟨.b, .r, v126⟩)])
@[irreducible] noncomputable def p10_29 (j : Nat) (n0 : Nat) (n1 : Nat) (n2 : Nat) (v0 : Int) (v1 : List (UInt8)) (v6 : List ((List (UInt8) × (Int × Unit)))) (v7 : List (UInt8)) (v9 : Int) (v15 : Int) (v16 : Int) (v17 : List (UInt8)) : Option (List ((List (UInt8) × (Int × Unit))) × Int × Unit) := piece G 10 [.r, .r, .r, .r, .r, .b, .o, .b, .r, .r, .r, .r, .r, .r, .r, .r, .r, .r, .r] j [n0, n1, n2] (skel 162 0 [(0, .av ⟨(.i .i64), .r, v0⟩), (1, .av ⟨(.l .by), .b, v1⟩), (6, .av ⟨(.l (.c (.l .by) (.c (.i .i64) .u))), (.o (.q (.o .r) (.q .r .r))), v6⟩), (7, .av ⟨(.l .by), (.o .r), v7⟩), (9, .av ⟨(.i .i64), .r, v9⟩), (15, .av ⟨(.i .i64), .r, v15⟩), (16, .av ⟨(.i .i64), .r, v16⟩), (17, .av ⟨(.l .by), .b, v17⟩)])
@[irreducible] noncomputable def p10_2078 (j : Nat) (n0 : Nat) (n1 : Nat) (n2 : Nat) (n3 : Nat) (v0 : Int) (v1 : List (UInt8)) (v6 : List ((List (UInt8) × (Int × Unit)))) (v7 : List (UInt8)) (v9 : Int) (v15 : Int) (v16 : Int) (v17 : List (UInt8)) (v133 : Bool) : Option (List ((List (UInt8) × (Int × Unit))) × Int × Unit) := piece G 10 [.r, .r, .r, .r, .r, .b, .o, .b, .r, .r, .r, .r, .r, .r, .r, .r, .r, .r, .r, .l, .r] j [n0, n1, n2, n3] (skel 162 0 [(0, .av ⟨(.i .i64), .r, v0⟩), (1, .av ⟨(.l .by), .b, v1⟩), (6, .av ⟨(.l (.c (.l .by) (.c (.i .i64) .u))), (.o (.q (.o .r) (.q .r .r))), v6⟩), (7, .av ⟨(.l .by), (.o .r), v7⟩), (9, .av ⟨(.i .i64), .r, v9⟩), (15, .av ⟨(.i .i64), .r, v15⟩), (16, .av ⟨(.i .i64), .r, v16⟩), (17, .av ⟨(.l .by), .b, v17⟩), (133, .av ⟨.b, .r, v133⟩)])
@[irreducible] noncomputable def p10_31 (j : Nat) (n0 : Nat) (n1 : Nat) (n2 : Nat) (n3 : Nat) (v0 : Int) (v1 : List (UInt8)) (v6 : List ((List (UInt8) × (Int × Unit)))) (v7 : List (UInt8)) (v9 : Int) (v15 : Int) (v16 : Int) (v17 : List (UInt8)) : Option (List ((List (UInt8) × (Int × Unit))) × Int × Unit) := piece G 10 [.r, .r, .r, .r, .r, .b, .o, .b, .r, .r, .r, .r, .r, .r, .r, .r, .r, .r, .r, .r] j [n0, n1, n2, n3] (skel 162 0 [(0, .av ⟨(.i .i64), .r, v0⟩), (1, .av ⟨(.l .by), .b, v1⟩), (6, .av ⟨(.l (.c (.l .by) (.c (.i .i64) .u))), (.o (.q (.o .r) (.q .r .r))), v6⟩), (7, .av ⟨(.l .by), (.o .r), v7⟩), (9, .av ⟨(.i .i64), .r, v9⟩), (15, .av ⟨(.i .i64), .r, v15⟩), (16, .av ⟨(.i .i64), .r, v16⟩), (17, .av ⟨(.l .by), .b, v17⟩)])
@[irreducible] noncomputable def p10_36 (j : Nat) (n0 : Nat) (n1 : Nat) (n2 : Nat) (n3 : Nat) (n4 : Nat) (v0 : Int) (v1 : List (UInt8)) (v6 : List ((List (UInt8) × (Int × Unit)))) (v7 : List (UInt8)) (v8 : Bool) (v9 : Int) : Option (List ((List (UInt8) × (Int × Unit))) × Int × Unit) := piece G 10 [.r, .r, .r, .r, .r, .b, .o, .b, .r, .r, .r, .r, .r, .r, .r, .r, .r, .r, .r, .r, .r, .r, .r, .r] j [n0, n1, n2, n3, n4] (skel 162 0 [(0, .av ⟨(.i .i64), .r, v0⟩), (1, .av ⟨(.l .by), .b, v1⟩), (6, .av ⟨(.l (.c (.l .by) (.c (.i .i64) .u))), (.o (.q (.o .r) (.q .r .r))), v6⟩), (7, .av ⟨(.l .by), (.o .r), v7⟩), (8, .av ⟨.b, .r, v8⟩), (9, .av ⟨(.i .i64), .r, v9⟩)])
theorem f9_eq (n : Nat) (a0 : Int) : f9 (n + 1) a0 =
  (sel (Decidable.decide (a0 ≥ (32 : Int)))
   (some (Decidable.decide (a0 ≤ (32768 : Int)), ()))
   (some (Bool.false, ()))) := by kernel_rfl
theorem f19_eq (n : Nat) (a0 : List (UInt8)) : f19 (n + 1) a0 =
  (p19_2 (n) (n) (a0) ((0 : Int))) := by kernel_rfl
theorem p19_2_eq (j : Nat) (n0 : Nat) (v0 : List (UInt8)) (v3 : Int) : p19_2 (j + 1) n0 v0 v3 =
  (sel (Decidable.decide (v3 < (↑v0.length : Int)))
   (sel (Decidable.decide ((0 : Int) ≤ v3))
    (sel (Decidable.decide (v3 < (↑v0.length : Int)))
     (sel ((↑(UInt8.toNat (v0.getD v3.toNat (0 : UInt8))) : Int) != (↑(UInt8.toNat (0 : UInt8)) : Int))
      (some (Bool.false, ()))
      (p19_2 (j) (n0) (v0) (Go.IntKind.i64.wrap (v3 + (1 : Int)))))
     none)
    none)
   (some (Bool.true, ()))) := by kernel_rfl
theorem f20_eq (n : Nat) (a0 : List (UInt8)) (a1 : Int) (a2 : Int) : f20 (n + 1) a0 a1 a2 =
  (sel (Decidable.decide (a1 < (0 : Int)))
   (p20_2050 (n) (n) (a0) (a1) (a2) (Bool.true))
   (p20_2050 (n) (n) (a0) (a1) (a2) (Decidable.decide (a1 > (↑a0.length : Int))))) := by kernel_rfl
theorem p20_2050_eq (j : Nat) (n0 : Nat) (v0 : List (UInt8)) (v1 : Int) (v2 : Int) (v18 : Bool) : p20_2050 (j + 1) n0 v0 v1 v2 v18 =
  (sel (v18)
   (some ((0 : Int), (0 : Int), (2 : Int), ()))
   (p20_3 (n0) (n0) (v0) (v1) (v2))) := by kernel_rfl
theorem p20_3_eq (j : Nat) (n0 : Nat) (v0 : List (UInt8)) (v1 : Int) (v2 : Int) : p20_3 (j + 1) n0 v0 v1 v2 =
  (sel (Decidable.decide (Go.IntKind.i64.wrap ((↑v0.length : Int) - v1) < v2))
   (some ((0 : Int), (0 : Int), (10 : Int), ()))
   (p20_7 (j) (n0) (j) (v0) (v1) (v2) ((0 : Int)) (Go.IntKind.i64.wrap (v2 - (1 : Int))))) := by kernel_rfl
theorem p20_7_eq (j : Nat) (n0 : Nat) (n1 : Nat) (v0 : List (UInt8)) (v1 : Int) (v2 : Int) (v9 : Int) (v10 : Int) : p20_7 (j + 1) n0 n1 v0 v1 v2 v9 v10 =
  (sel (Decidable.decide (v10 ≥ (0 : Int)))
   (sel (Decidable.decide ((0 : Int) ≤ Go.IntKind.i64.wrap (v1 + v10)))
    (sel (Decidable.decide (Go.IntKind.i64.wrap (v1 + v10) < (↑v0.length : Int)))
     (p20_7 (j) (n0) (n1) (v0) (v1) (v2) (Go.IntKind.u64.wrap (Go.IntKind.u64.wrap (v9 * (256 : Int)) + Go.IntKind.u64.wrap (↑(UInt8.toNat (v0.getD (Go.IntKind.i64.wrap (v1 + v10)).toNat (0 : UInt8))) : Int))) (Go.IntKind.i64.wrap (v10 - (1 : Int))))
     none)
    none)
   (some (v9, Go.IntKind.i64.wrap (v1 + v2), (0 : Int), ()))) := by kernel_rfl
theorem f49_eq (n : Nat) (a0 : Int) (a1 : Int) : f49 (n + 1) a0 a1 =
  (sel (Decidable.decide ((0 : Int) ≤ (1 : Int)))
   (sel (Lk.ibits Go.BinOp.and Go.IntKind.u32 (Lk.ibits Go.BinOp.xor Go.IntKind.u32 a0 a1) (1 : Int) == (1 : Int))
    (p49_5 (n) (n) (Lk.ibits Go.BinOp.xor Go.IntKind.u32 (a0.fdiv ((2 : Int) ^ Min.min (Int.toNat (1 : Int)) Go.IntKind.u32.bits)) (2197175160 : Int)))
    (p49_5 (n) (n) (a0.fdiv ((2 : Int) ^ Min.min (Int.toNat (1 : Int)) Go.IntKind.u32.bits))))
   none) := by kernel_rfl
theorem p49_5_eq (j : Nat) (n0 : Nat) (v0 : Int) : p49_5 (j + 1) n0 v0 =
  (some (v0, ())) := by kernel_rfl
theorem f41_eq (n : Nat) (a0 : Int) (a1 : List (UInt8)) : f41 (n + 1) a0 a1 =
  (p41_2 (n) (n) (a0) (a1) ((0 : Int))) := by kernel_rfl
theorem p41_2_eq (j : Nat) (n0 : Nat) (v0 : Int) (v1 : List (UInt8)) (v5 : Int) : p41_2 (j + 1) n0 v0 v1 v5 =
  (sel (Decidable.decide (v5 < (↑v1.length : Int)))
   (p41_5 (j) (n0) (j) (v0) (v1) (v5) ((0 : Int)))
   (some (v0, ()))) := by kernel_rfl
theorem p41_5_eq (j : Nat) (n0 : Nat) (n1 : Nat) (v0 : Int) (v1 : List (UInt8)) (v5 : Int) (v6 : Int) : p41_5 (j + 1) n0 n1 v0 v1 v5 v6 =
  (sel (Decidable.decide (v6 < (8 : Int)))
   (sel (Decidable.decide ((0 : Int) ≤ v5))
    (sel (Decidable.decide (v5 < (↑v1.length : Int)))
     (sel (Decidable.decide ((0 : Int) ≤ v6))
      (obind (f49 j (v0) ((Go.IntKind.u32.wrap (↑(UInt8.toNat (v1.getD v5.toNat (0 : UInt8))) : Int)).fdiv ((2 : Int) ^ Min.min v6.toNat Go.IntKind.u32.bits))) fun r276 =>
       (p41_5 (j) (n0) (n1) (r276.fst) (v1) (v5) (Go.IntKind.i64.wrap (v6 + (1 : Int)))))
      none)
     none)
    none)
   (p41_2 (n1) (n0) (v0) (v1) (Go.IntKind.i64.wrap (v5 + (1 : Int))))) := by kernel_rfl
theorem f35_eq (n : Nat) (a0 : Int) (a1 : List (UInt8)) : f35 (n + 1) a0 a1 =
  (obind (f41 n (Lk.ibits Go.BinOp.xor Go.IntKind.u32 (if Go.IntKind.u32.signed = Bool.true then (-1 : Int) else Go.IntKind.u32.max) a0) (a1)) fun r60 =>
   (some (Lk.ibits Go.BinOp.xor Go.IntKind.u32 (if Go.IntKind.u32.signed = Bool.true then (-1 : Int) else Go.IntKind.u32.max) r60.fst, ()))) := by kernel_rfl
theorem f22_eq (n : Nat) (a0 : List (UInt8)) : f22 (n + 1) a0 =
  (obind (f35 n ((0 : Int)) (a0)) fun r46 =>
   (some (r46.fst, ()))) := by kernel_rfl
theorem f21_eq (n : Nat) (a0 : Int) : f21 (n + 1) a0 =
  (sel (Decidable.decide ((0 : Int) ≤ (15 : Int)))
   (sel (Decidable.decide ((0 : Int) ≤ (17 : Int)))
    (some (Go.IntKind.u32.wrap (Lk.ibits Go.BinOp.or Go.IntKind.u32 (a0.fdiv ((2 : Int) ^ Min.min (Int.toNat (15 : Int)) Go.IntKind.u32.bits)) (Go.IntKind.u32.wrap (a0 * (2 : Int) ^ Min.min (Int.toNat (17 : Int)) Go.IntKind.u32.bits)) + (2726488792 : Int)), ()))
    none)
   none) := by kernel_rfl
theorem f10_eq (n : Nat) (a0 : Int) (a1 : List (UInt8)) : f10 (n + 1) a0 a1 =
  (p10_5 (n) (n) (a0) (a1) ([]) ([]) (Bool.false) ((0 : Int))) := by kernel_rfl
theorem p10_5_eq (j : Nat) (n0 : Nat) (v0 : Int) (v1 : List (UInt8)) (v6 : List ((List (UInt8) × (Int × Unit)))) (v7 : List (UInt8)) (v8 : Bool) (v9 : Int) : p10_5 (j + 1) n0 v0 v1 v6 v7 v8 v9 =
  (sel (Decidable.decide (v9 ≥ (↑v1.length : Int)))
   (sel (v8)
    (some (v6, (1 : Int), ()))
    (some (v6, (0 : Int), ())))
   (sel (v0 != (0 : Int))
    (sel (Decidable.decide (Go.IntKind.i64.wrap (v0 - v9.tmod v0) < (7 : Int)))
     (sel (Decidable.decide (Go.IntKind.i64.wrap (v9 + Go.IntKind.i64.wrap (v0 - v9.tmod v0)) > (↑v1.length : Int)))
      (p10_14 (j) (n0) (j) (v0) (v1) (v6) (v7) (v8) (v9) ((↑v1.length : Int)))
      (p10_14 (j) (n0) (j) (v0) (v1) (v6) (v7) (v8) (v9) (Go.IntKind.i64.wrap (v9 + Go.IntKind.i64.wrap (v0 - v9.tmod v0)))))
     (sel (Decidable.decide (Go.IntKind.i64.wrap ((↑v1.length : Int) - v9) < (7 : Int)))
      (some (v6, (1 : Int), ()))
      (obind (f20 j (v1) (v9) ((4 : Int))) fun r640 =>
       (sel (Decidable.decide ((0 : Int) ≤ Go.IntKind.i64.wrap (v9 + (4 : Int))))
        (sel (Decidable.decide (Go.IntKind.i64.wrap (v9 + (4 : Int)) < (↑v1.length : Int)))
         (sel (Decidable.decide ((0 : Int) ≤ Go.IntKind.i64.wrap (v9 + (5 : Int))))
          (sel (Decidable.decide (Go.IntKind.i64.wrap (v9 + (5 : Int)) < (↑v1.length : Int)))
           (sel (Decidable.decide ((0 : Int) ≤ Go.IntKind.i64.wrap (v9 + (6 : Int))))
            (sel (Decidable.decide (Go.IntKind.i64.wrap (v9 + (6 : Int)) < (↑v1.length : Int)))
             (sel (Decidable.decide (Go.IntKind.i64.wrap (↑(UInt8.toNat (v1.getD (Go.IntKind.i64.wrap (v9 + (6 : Int))).toNat (0 : UInt8))) : Int) < (1 : Int)))
              (p10_2071 (j) (n0) (j) (v0) (v1) (v6) (v7) (v8) (v9) (r640.fst) (Go.IntKind.i64.wrap (Go.IntKind.i64.wrap (↑(UInt8.toNat (v1.getD (Go.IntKind.i64.wrap (v9 + (4 : Int))).toNat (0 : UInt8))) : Int) + Go.IntKind.i64.wrap (Go.IntKind.i64.wrap (↑(UInt8.toNat (v1.getD (Go.IntKind.i64.wrap (v9 + (5 : Int))).toNat (0 : UInt8))) : Int) * (256 : Int)))) (Go.IntKind.i64.wrap (↑(UInt8.toNat (v1.getD (Go.IntKind.i64.wrap (v9 + (6 : Int))).toNat (0 : UInt8))) : Int)) (Bool.true))
              (sel (Decidable.decide (Go.IntKind.i64.wrap (↑(UInt8.toNat (v1.getD (Go.IntKind.i64.wrap (v9 + (6 : Int))).toNat (0 : UInt8))) : Int) > (4 : Int)))
               (p10_2071 (j) (n0) (j) (v0) (v1) (v6) (v7) (v8) (v9) (r640.fst) (Go.IntKind.i64.wrap (Go.IntKind.i64.wrap (↑(UInt8.toNat (v1.getD (Go.IntKind.i64.wrap (v9 + (4 : Int))).toNat (0 : UInt8))) : Int) + Go.IntKind.i64.wrap (Go.IntKind.i64.wrap (↑(UInt8.toNat (v1.getD (Go.IntKind.i64.wrap (v9 + (5 : Int))).toNat (0 : UInt8))) : Int) * (256 : Int)))) (Go.IntKind.i64.wrap (↑(UInt8.toNat (v1.getD (Go.IntKind.i64.wrap (v9 + (6 : Int))).toNat (0 : UInt8))) : Int)) (Bool.true))
               (p10_2071 (j) (n0) (j) (v0) (v1) (v6) (v7) (v8) (v9) (r640.fst) (Go.IntKind.i64.wrap (Go.IntKind.i64.wrap (↑(UInt8.toNat (v1.getD (Go.IntKind.i64.wrap (v9 + (4 : Int))).toNat (0 : UInt8))) : Int) + Go.IntKind.i64.wrap (Go.IntKind.i64.wrap (↑(UInt8.toNat (v1.getD (Go.IntKind.i64.wrap (v9 + (5 : Int))).toNat (0 : UInt8))) : Int) * (256 : Int)))) (Go.IntKind.i64.wrap (↑(UInt8.toNat (v1.getD (Go.IntKind.i64.wrap (v9 + (6 : Int))).toNat (0 : UInt8))) : Int)) (Decidable.decide (Go.IntKind.i64.wrap (Go.IntKind.i64.wrap (↑(UInt8.toNat (v1.getD (Go.IntKind.i64.wrap (v9 + (4 : Int))).toNat (0 : UInt8))) : Int) + Go.IntKind.i64.wrap (Go.IntKind.i64.wrap (↑(UInt8.toNat (v1.getD (Go.IntKind.i64.wrap (v9 + (5 : Int))).toNat (0 : UInt8))) : Int) * (256 : Int))) > Go.IntKind.i64.wrap (Go.IntKind.i64.wrap (v0 - v9.tmod v0) - (7 : Int)))))))
             none)
            none)
           none)
          none)
         none)
        none))))
    none)) := by kernel_rfl
theorem p10_14_eq (j : Nat) (n0 : Nat) (n1 : Nat) (v0 : Int) (v1 : List (UInt8)) (v6 : List ((List (UInt8) × (Int × Unit)))) (v7 : List (UInt8)) (v8 : Bool) (v9 : Int) (v11 : Int) : p10_14 (j + 1) n0 n1 v0 v1 v6 v7 v8 v9 v11 =
  (sel (Decidable.decide ((0 : Int) ≤ v11))
   (sel (Decidable.decide (v11 ≤ (↑v1.length : Int)))
    (sel (Decidable.decide ((0 : Int) ≤ v9))
     (sel (Decidable.decide (v9 ≤ v11))
      (obind (f19 j (Lk.ext v1 v9 v11)) fun r1170 =>
       (sel (!r1170.fst)
        (some (v6, (2 : Int), ()))
        (p10_5 (n1) (n0) (v0) (v1) (v6) (v7) (v8) (v11))))
      none)
     none)
    none)
   none) := by kernel_rfl
theorem p10_2071_eq (j : Nat) (n0 : Nat) (n1 : Nat) (v0 : Int) (v1 : List (UInt8)) (v6 : List ((List (UInt8) × (Int × Unit)))) (v7 : List (UInt8)) (v8 : Bool) (v9 : Int) (v12 : Int) (v15 : Int) (v16 : Int) (v93 : Bool) : p10_2071 (j + 1) n0 n1 v0 v1 v6 v7 v8 v9 v12 v15 v16 v93 =
  (sel (v93)
   (some (v6, (2 : Int), ()))
   (p10_24 (n1) (n0) (n1) (v0) (v1) (v6) (v7) (v8) (v9) (v12) (v15) (v16))) := by kernel_rfl
theorem p10_24_eq (j : Nat) (n0 : Nat) (n1 : Nat) (v0 : Int) (v1 : List (UInt8)) (v6 : List ((List (UInt8) × (Int × Unit)))) (v7 : List (UInt8)) (v8 : Bool) (v9 : Int) (v12 : Int) (v15 : Int) (v16 : Int) : p10_24 (j + 1) n0 n1 v0 v1 v6 v7 v8 v9 v12 v15 v16 =
  (sel (Decidable.decide (Go.IntKind.i64.wrap (Go.IntKind.i64.wrap ((↑v1.length : Int) - v9) - (7 : Int)) < v15))
   (some (v6, (1 : Int), ()))
   (sel (Decidable.decide ((0 : Int) ≤ Go.IntKind.i64.wrap (Go.IntKind.i64.wrap (v9 + (7 : Int)) + v15)))
    (sel (Decidable.decide (Go.IntKind.i64.wrap (Go.IntKind.i64.wrap (v9 + (7 : Int)) + v15) ≤ (↑v1.length : Int)))
     (sel (Decidable.decide ((0 : Int) ≤ Go.IntKind.i64.wrap (v9 + (6 : Int))))
      (sel (Decidable.decide (Go.IntKind.i64.wrap (v9 + (6 : Int)) ≤ Go.IntKind.i64.wrap (Go.IntKind.i64.wrap (v9 + (7 : Int)) + v15)))
       (obind (f22 j (Lk.ext v1 (Go.IntKind.i64.wrap (v9 + (6 : Int))) (Go.IntKind.i64.wrap (Go.IntKind.i64.wrap (v9 + (7 : Int)) + v15)))) fun r1583 =>
        (obind (f21 j (r1583.fst)) fun r1593 =>
         (sel (Go.IntKind.u32.wrap v12 != r1593.fst)
          (p10_2076 (j) (n0) (n1) (j) (v0) (v1) (v6) (v7) (v9) (v15) (v16) (Lk.ext v1 (Go.IntKind.i64.wrap (v9 + (6 : Int))) (Go.IntKind.i64.wrap (Go.IntKind.i64.wrap (v9 + (7 : Int)) + v15))) (Bool.true))
          (sel (v16 == (1 : Int))
           (p10_2076 (j) (n0) (n1) (j) (v0) (v1) (v6) (v7) (v9) (v15) (v16) (Lk.ext v1 (Go.IntKind.i64.wrap (v9 + (6 : Int))) (Go.IntKind.i64.wrap (Go.IntKind.i64.wrap (v9 + (7 : Int)) + v15))) (Bool.true == v8))
           (p10_2076 (j) (n0) (n1) (j) (v0) (v1) (v6) (v7) (v9) (v15) (v16) (Lk.ext v1 (Go.IntKind.i64.wrap (v9 + (6 : Int))) (Go.IntKind.i64.wrap (Go.IntKind.i64.wrap (v9 + (7 : Int)) + v15))) ((v16 == (2 : Int)) == v8))))))
       none)
      none)
     none)
    none)) := by kernel_rfl
theorem p10_2076_eq (j : Nat) (n0 : Nat) (n1 : Nat) (n2 : Nat) (v0 : Int) (v1 : List (UInt8)) (v6 : List ((List (UInt8) × (Int × Unit)))) (v7 : List (UInt8)) (v9 : Int) (v15 : Int) (v16 : Int) (v17 : List (UInt8)) (v126 : Bool) : p10_2076 (j + 1) n0 n1 n2 v0 v1 v6 v7 v9 v15 v16 v17 v126 =
  (sel (v126)
   (some (v6, (2 : Int), ()))
   (p10_29 (n2) (n0) (n1) (n2) (v0) (v1) (v6) (v7) (v9) (v15) (v16) (v17))) := by kernel_rfl
theorem p10_29_eq (j : Nat) (n0 : Nat) (n1 : Nat) (n2 : Nat) (v0 : Int) (v1 : List (UInt8)) (v6 : List ((List (UInt8) × (Int × Unit)))) (v7 : List (UInt8)) (v9 : Int) (v15 : Int) (v16 : Int) (v17 : List (UInt8)) : p10_29 (j + 1) n0 n1 n2 v0 v1 v6 v7 v9 v15 v16 v17 =
  (sel (v16 == (1 : Int))
   (p10_2078 (j) (n0) (n1) (n2) (j) (v0) (v1) (v6) (v7) (v9) (v15) (v16) (v17) (Bool.true))
   (p10_2078 (j) (n0) (n1) (n2) (j) (v0) (v1) (v6) (v7) (v9) (v15) (v16) (v17) (v16 == (2 : Int)))) := by kernel_rfl
theorem p10_2078_eq (j : Nat) (n0 : Nat) (n1 : Nat) (n2 : Nat) (n3 : Nat) (v0 : Int) (v1 : List (UInt8)) (v6 : List ((List (UInt8) × (Int × Unit)))) (v7 : List (UInt8)) (v9 : Int) (v15 : Int) (v16 : Int) (v17 : List (UInt8)) (v133 : Bool) : p10_2078 (j + 1) n0 n1 n2 n3 v0 v1 v6 v7 v9 v15 v16 v17 v133 =
  (sel (v133)
   (p10_31 (n3) (n0) (n1) (n2) (n3) (v0) (v1) (v6) ([]) (v9) (v15) (v16) (v17))
   (p10_31 (n3) (n0) (n1) (n2) (n3) (v0) (v1) (v6) (v7) (v9) (v15) (v16) (v17))) := by kernel_rfl
theorem p10_31_eq (j : Nat) (n0 : Nat) (n1 : Nat) (n2 : Nat) (n3 : Nat) (v0 : Int) (v1 : List (UInt8)) (v6 : List ((List (UInt8) × (Int × Unit)))) (v7 : List (UInt8)) (v9 : Int) (v15 : Int) (v16 : Int) (v17 : List (UInt8)) : p10_31 (j + 1) n0 n1 n2 n3 v0 v1 v6 v7 v9 v15 v16 v17 =
  (sel (Decidable.decide ((0 : Int) ≤ (1 : Int)))
   (sel (Decidable.decide ((1 : Int) ≤ (↑v17.length : Int)))
    (sel (Decidable.decide (v7.length + (Lk.ext v17 (1 : Int) (↑v17.length : Int)).length ≤ (1073741824 : Nat)))
     (sel (Decidable.decide ((↑(List.length (v7 ++ Lk.ext v17 (1 : Int) (↑v17.length : Int))) : Int) > (2097152 : Int)))
      (some (v6, (2 : Int), ()))
      (sel (v16 == (2 : Int))
       (p10_36 (j) (n0) (n1) (n2) (n3) (j) (v0) (v1) (v6) (v7 ++ Lk.ext v17 (1 : Int) (↑v17.length : Int)) (Bool.true) (Go.IntKind.i64.wrap (Go.IntKind.i64.wrap (v9 + (7 : Int)) + v15)))
       (p10_36 (j) (n0) (n1) (n2) (n3) (j) (v0) (v1) (v6) (v7 ++ Lk.ext v17 (1 : Int) (↑v17.length : Int)) (v16 == (3 : Int)) (Go.IntKind.i64.wrap (Go.IntKind.i64.wrap (v9 + (7 : Int)) + v15)))))
     none)
    none)
   none) := by kernel_rfl
theorem p10_36_eq (j : Nat) (n0 : Nat) (n1 : Nat) (n2 : Nat) (n3 : Nat) (n4 : Nat) (v0 : Int) (v1 : List (UInt8)) (v6 : List ((List (UInt8) × (Int × Unit)))) (v7 : List (UInt8)) (v8 : Bool) (v9 : Int) : p10_36 (j + 1) n0 n1 n2 n3 n4 v0 v1 v6 v7 v8 v9 =
  (sel (!v8)
   (sel (Decidable.decide ((0 : Nat) + v7.length ≤ (1073741824 : Nat)))
    (sel (Decidable.decide (v6.length + (1 : Nat) ≤ (1073741824 : Nat)))
     (p10_5 (n1) (n0) (v0) (v1) (v6 ++ [([] ++ v7, v9, ())]) (v7) (v8) (v9))
     none)
    none)
   (p10_5 (n1) (n0) (v0) (v1) (v6) (v7) (v8) (v9))) := by kernel_rfl
end RqG
end
section
namespace RqG
open Go Lk
set_option linter.unusedVariables false
@[irreducible] noncomputable def f24 (n : Nat) (a0 : List (UInt8)) (a1 : Int) (a2 : Int) : Option (Int × Unit) := F G n 24 (a0, a1, a2, ())
@[irreducible] noncomputable def p24_3 (j : Nat) (n0 : Nat) (v0 : List (UInt8)) (v1 : Int) (v7 : Int) (v8 : Int) : Option (Int × Unit) := piece G 24 [.r, .r, .l, .r, .b] j [n0] (skel 26 0 [(0, .av ⟨(.l .by), .b, v0⟩), (1, .av ⟨(.i .i64), .r, v1⟩), (7, .av ⟨(.i .u64), .r, v7⟩), (8, .av ⟨(.i .i64), .r, v8⟩)])
@[irreducible] noncomputable def f42 (n : Nat) (a0 : List (UInt8)) (a1 : Int) (a2 : Int) : Option (List UInt8 × Int × Unit) := F G n 42 (a0, a1, a2, ())
@[irreducible] noncomputable def p42_2 (j : Nat) (n0 : Nat) (v0 : List (UInt8)) (v1 : Int) (v2 : Int) (v8 : Int) (v9 : Int) : Option (List UInt8 × Int × Unit) := piece G 42 [.r, .r, .l, .b] j [n0] (skel 63 0 [(0, .av ⟨(.l .by), .b, v0⟩), (1, .av ⟨(.i .i64), .r, v1⟩), (2, .av ⟨(.i .i64), .r, v2⟩), (8, .av ⟨(.i .i64), .r, v8⟩), (9, .av ⟨(.i .i64), .r, v9⟩)])
@[irreducible] noncomputable def p42_2051 (j : Nat) (n0 : Nat) (n1 : Nat) (v0 : List (UInt8)) (v1 : Int) (v2 : Int) (v8 : Int) (v9 : Int) (v18 : Bool) : Option (List UInt8 × Int × Unit) := piece G 42 [.r, .r, .l, .b, .o, .b, .l, .r] j [n0, n1] (skel 63 0 [(0, .av ⟨(.l .by), .b, v0⟩), (1, .av ⟨(.i .i64), .r, v1⟩), (2, .av ⟨(.i .i64), .r, v2⟩), (8, .av ⟨(.i .i64), .r, v8⟩), (9, .av ⟨(.i .i64), .r, v9⟩), (18, .av ⟨.b, .r, v18⟩)])
@[irreducible] noncomputable def p42_4 (j : Nat) (n0 : Nat) (n1 : Nat) (v0 : List (UInt8)) (v1 : Int) (v2 : Int) (v8 : Int) (v9 : Int) : Option (List UInt8 × Int × Unit) := piece G 42 [.r, .r, .l, .b, .o, .b, .r] j [n0, n1] (skel 63 0 [(0, .av ⟨(.l .by), .b, v0⟩), (1, .av ⟨(.i .i64), .r, v1⟩), (2, .av ⟨(.i .i64), .r, v2⟩), (8, .av ⟨(.i .i64), .r, v8⟩), (9, .av ⟨(.i .i64), .r, v9⟩)])
@[irreducible] noncomputable def p42_2057 (j : Nat) (n0 : Nat) (n1 : Nat) (n2 : Nat) (v0 : List (UInt8)) (v1 : Int) (v2 : Int) (v8 : Int) (v39 : Bool) : Option (List UInt8 × Int × Unit) := piece G 42 [.r, .r, .l, .b, .o, .b, .r, .r, .r, .r, .l, .r, .t, .l, .r] j [n0, n1, n2] (skel 63 0 [(0, .av ⟨(.l .by), .b, v0⟩), (1, .av ⟨(.i .i64), .r, v1⟩), (2, .av ⟨(.i .i64), .r, v2⟩), (8, .av ⟨(.i .i64), .r, v8⟩), (39, .av ⟨.b, .r, v39⟩)])
@[irreducible] noncomputable def p42_11 (j : Nat) (n0 : Nat) (v0 : List (UInt8)) (v1 : Int) (v2 : Int) (v8 : Int) : Option (List UInt8 × Int × Unit) := piece G 42 [.r, .r, .r] j [n0] (skel 63 0 [(0, .av ⟨(.l .by), .b, v0⟩), (1, .av ⟨(.i .i64), .r, v1⟩), (2, .av ⟨(.i .i64), .r, v2⟩), (8, .av ⟨(.i .i64), .r, v8⟩)])
@[irreducible] noncomputable def p42_2060 (j : Nat) (n0 : Nat) (n1 : Nat) (v0 : List (UInt8)) (v1 : Int) (v8 : Int) (v52 : Bool) : Option (List UInt8 × Int × Unit) := piece G 42 [.r, .r, .r, .l, .r] j [n0, n1] (skel 63 0 [(0, .av ⟨(.l .by), .b, v0⟩), (1, .av ⟨(.i .i64), .r, v1⟩), (8, .av ⟨(.i .i64), .r, v8⟩), (52, .av ⟨.b, .r, v52⟩)])
@[irreducible] noncomputable def p42_13 (j : Nat) (n0 : Nat) (n1 : Nat) (v0 : List (UInt8)) (v1 : Int) (v8 : Int) : Option (List UInt8 × Int × Unit) := piece G 42 [.r, .r, .r, .r] j [n0, n1] (skel 63 0 [(0, .av ⟨(.l .by), .b, v0⟩), (1, .av ⟨(.i .i64), .r, v1⟩), (8, .av ⟨(.i .i64), .r, v8⟩)])
@[irreducible] noncomputable def f43 (n : Nat) (a0 : (Int × (List UInt8 × (List UInt8 × Unit)))) : Option (Bool × Unit) := F G n 43 (a0, ())
@[irreducible] noncomputable def p43_2050 (j : Nat) (n0 : Nat) (v1 : Option ((Int × (List UInt8 × (List UInt8 × Unit))))) (v12 : Bool) : Option (Bool × Unit) := piece G 43 [.r, .l, .r] j [n0] (skel 45 0 [(1, .av ⟨(.p (.c (.i .i64) (.c .s (.c .s .u)))), (.o (.q .r (.q .r (.q .r .r)))), v1⟩), (12, .av ⟨.b, .r, v12⟩)])
@[irreducible] noncomputable def p43_3 (j : Nat) (n0 : Nat) (v1 : Option ((Int × (List UInt8 × (List UInt8 × Unit))))) : Option (Bool × Unit) := piece G 43 [.r, .r] j [n0] (skel 45 0 [(1, .av ⟨(.p (.c (.i .i64) (.c .s (.c .s .u)))), (.o (.q .r (.q .r (.q .r .r)))), v1⟩)])
@[irreducible] noncomputable def f36 (n : Nat) (a0 : List (UInt8)) (a1 : Int) : Option ((Int × (List UInt8 × (List UInt8 × Unit))) × Int × Unit) := F G n 36 (a0, a1, ())
@[irreducible] noncomputable def p36_2054 (j : Nat) (n0 : Nat) (v0 : List (UInt8)) (v1 : Int) (v4 : Option ((Int × (List UInt8 × (List UInt8 × Unit))))) (v6 : Option ((Int × (List UInt8 × (List UInt8 × Unit))))) (v32 : Bool) : Option ((Int × (List UInt8 × (List UInt8 × Unit))) × Int × Unit) := piece G 36 [.r, .r, .r, .r, .l, .r] j [n0] (skel 50 0 [(0, .av ⟨(.l .by), .b, v0⟩), (1, .av ⟨(.i .i64), .r, v1⟩), (4, .av ⟨(.p (.c (.i .i64) (.c .s (.c .s .u)))), (.o (.q .r (.q .r (.q .r .r)))), v4⟩), (6, .av ⟨(.p (.c (.i .i64) (.c .s (.c .s .u)))), (.o (.q .r (.q .r (.q .r .r)))), v6⟩), (32, .av ⟨.b, .r, v32⟩)])
@[irreducible] noncomputable def p36_7 (j : Nat) (n0 : Nat) (v1 : Int) (v4 : Option ((Int × (List UInt8 × (List UInt8 × Unit))))) (v6 : Option ((Int × (List UInt8 × (List UInt8 × Unit))))) : Option ((Int × (List UInt8 × (List UInt8 × Unit))) × Int × Unit) := piece G 36 [.r, .r, .r, .r, .r] j [n0] (skel 50 0 [(1, .av ⟨(.i .i64), .r, v1⟩), (4, .av ⟨(.p (.c (.i .i64) (.c .s (.c .s .u)))), (.o (.q .r (.q .r (.q .r .r)))), v4⟩), (6, .av ⟨(.p (.c (.i .i64) (.c .s (.c .s .u)))), (.o (.q .r (.q .r (.q .r .r)))), v6⟩)])
@[irreducible] noncomputable def p36_2056 (j : Nat) (n0 : Nat) (n1 : Nat) (v1 : Int) (v4 : Option ((Int × (List UInt8 × (List UInt8 × Unit))))) (v6 : Option ((Int × (List UInt8 × (List UInt8 × Unit))))) (v46 : Bool) : Option ((Int × (List UInt8 × (List UInt8 × Unit))) × Int × Unit) := piece G 36 [.r, .r, .r, .r, .r, .l, .r] j [n0, n1] (skel 50 0 [(1, .av ⟨(.i .i64), .r, v1⟩), (4, .av ⟨(.p (.c (.i .i64) (.c .s (.c .s .u)))), (.o (.q .r (.q .r (.q .r .r)))), v4⟩), (6, .av ⟨(.p (.c (.i .i64) (.c .s (.c .s .u)))), (.o (.q .r (.q .r (.q .r .r)))), v6⟩), (46, .av ⟨.b, .r, v46⟩)])
@[irreducible] noncomputable def p36_9 (j : Nat) (n0 : Nat) (n1 : Nat) (v1 : Int) (v4 : Option ((Int × (List UInt8 × (List UInt8 × Unit))))) (v6 : Option ((Int × (List UInt8 × (List UInt8 × Unit))))) : Option ((Int × (List UInt8 × (List UInt8 × Unit))) × Int × Unit) := piece G 36 [.r, .r, .r, .r, .r, .r] j [n0, n1] (skel 50 0 [(1, .av ⟨(.i .i64), .r, v1⟩), (4, .av ⟨(.p (.c (.i .i64) (.c .s (.c .s .u)))), (.o (.q .r (.q .r (.q .r .r)))), v4⟩), (6, .av ⟨(.p (.c (.i .i64) (.c .s (.c .s .u)))), (.o (.q .r (.q .r (.q .r .r)))), v6⟩)])
@[irreducible] noncomputable def f23 (n : Nat) (a0 : List (UInt8)) : Option (Int × List ((Int × (List UInt8 × (List UInt8 × Unit)))) × Int × Unit) := F G n 23 (a0, ())
@[irreducible] noncomputable def p23_5 (j : Nat) (n0 : Nat) (v0 : List (UInt8)) (v5 : Int) (v6 : Int) (v7 : Int) (v8 : List ((Int × (List UInt8 × (List UInt8 × Unit))))) : Option (Int × List ((Int × (List UInt8 × (List UInt8 × Unit)))) × Int × Unit) := piece G 23 [.r, .r, .r, .r, .l, .b] j [n0] (skel 42 0 [(0, .av ⟨(.l .by), .b, v0⟩), (5, .av ⟨(.i .u64), .r, v5⟩), (6, .av ⟨(.i .i64), .r, v6⟩), (7, .av ⟨(.i .i64), .r, v7⟩), (8, .av ⟨(.l (.c (.i .i64) (.c .s (.c .s .u)))), (.o (.q .r (.q .r (.q .r .r)))), v8⟩)])
@[irreducible] noncomputable def f25 (n : Nat) (a0 : Int) (a1 : Int) : Option (Bool × Unit) := F G n 25 (a0, a1, ())
@[irreducible] noncomputable def f11 (n : Nat) (a0 : List (UInt8)) : Option (Int × List ((Int × (List UInt8 × (List UInt8 × Unit)))) × Int × Unit) := F G n 11 (a0, ())
@[irreducible] noncomputable def p11_2053 (j : Nat) (n0 : Nat) (v5 : Int) (v6 : List ((Int × (List UInt8 × (List UInt8 × Unit))))) (v44 : Bool) : Option (Int × List ((Int × (List UInt8 × (List UInt8 × Unit)))) × Int × Unit) := piece G 11 [.r, .r, .r, .l, .r] j [n0] (skel 47 0 [(5, .av ⟨(.i .u64), .r, v5⟩), (6, .av ⟨(.l (.c (.i .i64) (.c .s (.c .s .u)))), (.o (.q .r (.q .r (.q .r .r)))), v6⟩), (44, .av ⟨.b, .r, v44⟩)])
@[irreducible] noncomputable def p11_6 (j : Nat) (n0 : Nat) (v5 : Int) (v6 : List ((Int × (List UInt8 × (List UInt8 × Unit))))) : Option (Int × List ((Int × (List UInt8 × (List UInt8 × Unit)))) × Int × Unit) := piece G 11 [.r, .r, .r, .r] j [n0] (skel 47 0 [(5, .av ⟨(.i .u64), .r, v5⟩), (6, .av ⟨(.l (.c (.i .i64) (.c .s (.c .s .u)))), (.o (.q .r (.q .r (.q .r .r)))), v6⟩)])
theorem f24_eq (n : Nat) (a0 : List (UInt8)) (a1 : Int) (a2 : Int) : f24 (n + 1) a0 a1 a2 =
  (p24_3 (n) (n) (a0) (a1) ((0 : Int)) (Go.IntKind.i64.wrap (a2 - (1 : Int)))) := by kernel_rfl
theorem p24_3_eq (j : Nat) (n0 : Nat) (v0 : List (UInt8)) (v1 : Int) (v7 : Int) (v8 : Int) : p24_3 (j + 1) n0 v0 v1 v7 v8 =
  (sel (Decidable.decide (v8 ≥ (0 : Int)))
   (sel (Decidable.decide ((0 : Int) ≤ (8 : Int)))
    (sel (Decidable.decide ((0 : Int) ≤ Go.IntKind.i64.wrap (v1 + v8)))
     (sel (Decidable.decide (Go.IntKind.i64.wrap (v1 + v8) < (↑v0.length : Int)))
      (p24_3 (j) (n0) (v0) (v1) (Lk.ibits Go.BinOp.or Go.IntKind.u64 (Go.IntKind.u64.wrap (v7 * (2 : Int) ^ Min.min (Int.toNat (8 : Int)) Go.IntKind.u64.bits)) (Go.IntKind.u64.wrap (↑(UInt8.toNat (v0.getD (Go.IntKind.i64.wrap (v1 + v8)).toNat (0 : UInt8))) : Int))) (Go.IntKind.i64.wrap (v8 - (1 : Int))))
      none)
     none)
    none)
   (some (v7, ()))) := by kernel_rfl
theorem f42_eq (n : Nat) (a0 : List (UInt8)) (a1 : Int) (a2 : Int) : f42 (n + 1) a0 a1 a2 =
  (p42_2 (n) (n) (a0) (a1) (a2) ((0 : Int)) ((0 : Int))) := by kernel_rfl
theorem p42_2_eq (j : Nat) (n0 : Nat) (v0 : List (UInt8)) (v1 : Int) (v2 : Int) (v8 : Int) (v9 : Int) : p42_2 (j + 1) n0 v0 v1 v2 v8 v9 =
  (sel (Decidable.decide (v1 ≥ (↑v0.length : Int)))
   (p42_2051 (j) (n0) (j) (v0) (v1) (v2) (v8) (v9) (Bool.true))
   (p42_2051 (j) (n0) (j) (v0) (v1) (v2) (v8) (v9) (Decidable.decide (v9 > (21 : Int))))) := by kernel_rfl
theorem p42_2051_eq (j : Nat) (n0 : Nat) (n1 : Nat) (v0 : List (UInt8)) (v1 : Int) (v2 : Int) (v8 : Int) (v9 : Int) (v18 : Bool) : p42_2051 (j + 1) n0 n1 v0 v1 v2 v8 v9 v18 =
  (sel (v18)
   (some ([], (-1 : Int), ()))
   (p42_4 (n1) (n0) (n1) (v0) (v1) (v2) (v8) (v9))) := by kernel_rfl
theorem p42_4_eq (j : Nat) (n0 : Nat) (n1 : Nat) (v0 : List (UInt8)) (v1 : Int) (v2 : Int) (v8 : Int) (v9 : Int) : p42_4 (j + 1) n0 n1 v0 v1 v2 v8 v9 =
  (sel (Decidable.decide ((0 : Int) ≤ v1))
   (sel (Decidable.decide (v1 < (↑v0.length : Int)))
    (sel ((128 : Int) != (0 : Int))
     (sel (Decidable.decide ((0 : Int) ≤ v9))
      (sel (Decidable.decide (Go.IntKind.i64.wrap (↑(UInt8.toNat (v0.getD v1.toNat (0 : UInt8))) : Int) < (128 : Int)))
       (sel (Go.IntKind.i64.wrap (↑(UInt8.toNat (v0.getD v1.toNat (0 : UInt8))) : Int) == (0 : Int))
        (p42_2057 (j) (n0) (n1) (j) (v0) (Go.IntKind.i64.wrap (v1 + (1 : Int))) (v2) (Lk.ibits Go.BinOp.or Go.IntKind.i64 v8 (Go.IntKind.i64.wrap ((Go.IntKind.i64.wrap (↑(UInt8.toNat (v0.getD v1.toNat (0 : UInt8))) : Int)).tmod (128 : Int) * (2 : Int) ^ Min.min v9.toNat Go.IntKind.i64.bits))) (Decidable.decide (v9 > (0 : Int))))
        (p42_2057 (j) (n0) (n1) (j) (v0) (Go.IntKind.i64.wrap (v1 + (1 : Int))) (v2) (Lk.ibits Go.BinOp.or Go.IntKind.i64 v8 (Go.IntKind.i64.wrap ((Go.IntKind.i64.wrap (↑(UInt8.toNat (v0.getD v1.toNat (0 : UInt8))) : Int)).tmod (128 : Int) * (2 : Int) ^ Min.min v9.toNat Go.IntKind.i64.bits))) (Bool.false)))
       (p42_2 (n1) (n0) (v0) (Go.IntKind.i64.wrap (v1 + (1 : Int))) (v2) (Lk.ibits Go.BinOp.or Go.IntKind.i64 v8 (Go.IntKind.i64.wrap ((Go.IntKind.i64.wrap (↑(UInt8.toNat (v0.getD v1.toNat (0 : UInt8))) : Int)).tmod (128 : Int) * (2 : Int) ^ Min.min v9.toNat Go.IntKind.i64.bits))) (Go.IntKind.i64.wrap (v9 + (7 : Int)))))
      none)
     none)
    none)
   none) := by kernel_rfl
theorem p42_2057_eq (j : Nat) (n0 : Nat) (n1 : Nat) (n2 : Nat) (v0 : List (UInt8)) (v1 : Int) (v2 : Int) (v8 : Int) (v39 : Bool) : p42_2057 (j + 1) n0 n1 n2 v0 v1 v2 v8 v39 =
  (sel (v39)
   (some ([], (-1 : Int), ()))
   (p42_11 (n0) (n0) (v0) (v1) (v2) (v8))) := by kernel_rfl
theorem p42_11_eq (j : Nat) (n0 : Nat) (v0 : List (UInt8)) (v1 : Int) (v2 : Int) (v8 : Int) : p42_11 (j + 1) n0 v0 v1 v2 v8 =
  (sel (Decidable.decide (v8 > v2))
   (p42_2060 (j) (n0) (j) (v0) (v1) (v8) (Bool.true))
   (p42_2060 (j) (n0) (j) (v0) (v1) (v8) (Decidable.decide (v8 > Go.IntKind.i64.wrap ((↑v0.length : Int) - v1))))) := by kernel_rfl
theorem p42_2060_eq (j : Nat) (n0 : Nat) (n1 : Nat) (v0 : List (UInt8)) (v1 : Int) (v8 : Int) (v52 : Bool) : p42_2060 (j + 1) n0 n1 v0 v1 v8 v52 =
  (sel (v52)
   (some ([], (-1 : Int), ()))
   (p42_13 (n1) (n0) (n1) (v0) (v1) (v8))) := by kernel_rfl
theorem p42_13_eq (j : Nat) (n0 : Nat) (n1 : Nat) (v0 : List (UInt8)) (v1 : Int) (v8 : Int) : p42_13 (j + 1) n0 n1 v0 v1 v8 =
  (sel (Decidable.decide ((0 : Int) ≤ Go.IntKind.i64.wrap (v1 + v8)))
   (sel (Decidable.decide (Go.IntKind.i64.wrap (v1 + v8) ≤ (↑v0.length : Int)))
    (sel (Decidable.decide ((0 : Int) ≤ v1))
     (sel (Decidable.decide (v1 ≤ Go.IntKind.i64.wrap (v1 + v8)))
      (some (Lk.ext v0 v1 (Go.IntKind.i64.wrap (v1 + v8)), Go.IntKind.i64.wrap (v1 + v8), ()))
      none)
     none)
    none)
   none) := by kernel_rfl
theorem f43_eq (n : Nat) (a0 : (Int × (List UInt8 × (List UInt8 × Unit)))) : f43 (n + 1) a0 =
  (sel ((Option.some a0).isSome)
   (sel (Decidable.decide ((↑(List.length ((Option.some a0).getD ((0 : Int), [], [], ())).snd.fst) : Int) < (1 : Int)))
    (p43_2050 (n) (n) (Option.some a0) (Bool.true))
    (sel ((Option.some a0).isSome)
     (p43_2050 (n) (n) (Option.some a0) (Decidable.decide ((↑(List.length ((Option.some a0).getD ((0 : Int), [], [], ())).snd.fst) : Int) > (1024 : Int))))
     none))
   none) := by kernel_rfl
theorem p43_2050_eq (j : Nat) (n0 : Nat) (v1 : Option ((Int × (List UInt8 × (List UInt8 × Unit))))) (v12 : Bool) : p43_2050 (j + 1) n0 v1 v12 =
  (sel (v12)
   (some (Bool.false, ()))
   (p43_3 (n0) (n0) (v1))) := by kernel_rfl
theorem p43_3_eq (j : Nat) (n0 : Nat) (v1 : Option ((Int × (List UInt8 × (List UInt8 × Unit))))) : p43_3 (j + 1) n0 v1 =
  (sel (v1.isSome)
   (sel ((v1.getD ((0 : Int), [], [], ())).fst == (0 : Int))
    (sel (v1.isSome)
     (some ((v1.getD ((0 : Int), [], [], ())).snd.snd.fst == [], ()))
     none)
    (sel ((v1.getD ((0 : Int), [], [], ())).fst == (1 : Int))
     (sel (v1.isSome)
      (some (Decidable.decide ((↑(List.length (v1.getD ((0 : Int), [], [], ())).snd.snd.fst) : Int) ≤ (65536 : Int)), ()))
      none)
     (sel ((v1.getD ((0 : Int), [], [], ())).fst == (2 : Int))
      (sel (v1.isSome)
       (sel (Decidable.decide ((↑(List.length (v1.getD ((0 : Int), [], [], ())).snd.snd.fst) : Int) ≥ (1 : Int)))
        (sel (v1.isSome)
         (sel (Decidable.decide ((↑(List.length (v1.getD ((0 : Int), [], [], ())).snd.snd.fst) : Int) ≤ (1024 : Int)))
          (sel (v1.isSome)
           (sel (v1.isSome)
            (some (Go.Op.bytesLess (v1.getD ((0 : Int), [], [], ())).snd.fst (v1.getD ((0 : Int), [], [], ())).snd.snd.fst, ()))
            none)
           none)
          (some (Bool.false, ())))
         none)
        (some (Bool.false, ())))
       none)
      (some (Bool.false, ())))))
   none) := by kernel_rfl
theorem f36_eq (n : Nat) (a0 : List (UInt8)) (a1 : Int) : f36 (n + 1) a0 a1 =
  (sel (Decidable.decide (a1 ≥ (↑a0.length : Int)))
   (sel (Bool.true)
    (sel (Bool.true)
     (some ((Option.some ((0 : Int), [], [], ())).getD ((0 : Int), [], [], ()), (-1 : Int), ()))
     none)
    none)
   (sel (Decidable.decide ((0 : Int) ≤ a1))
    (sel (Decidable.decide (a1 < (↑a0.length : Int)))
     (sel (Bool.true)
      (obind (f42 n (a0) (Go.IntKind.i64.wrap (a1 + (1 : Int))) ((1024 : Int))) fun r230 =>
       (sel (Bool.true)
        (sel (Decidable.decide (r230.snd.fst ≥ (0 : Int)))
         (sel (Bool.true)
          (p36_2054 (n) (n) (a0) (r230.snd.fst) (Option.some ((0 : Int), [], [], ())) (Option.some (Go.IntKind.i64.wrap (↑(UInt8.toNat (a0.getD a1.toNat (0 : UInt8))) : Int), r230.fst, [], ())) (Go.IntKind.i64.wrap (↑(UInt8.toNat (a0.getD a1.toNat (0 : UInt8))) : Int) != (0 : Int)))
          none)
         (p36_2054 (n) (n) (a0) (r230.snd.fst) (Option.some ((0 : Int), [], [], ())) (Option.some (Go.IntKind.i64.wrap (↑(UInt8.toNat (a0.getD a1.toNat (0 : UInt8))) : Int), r230.fst, [], ())) (Bool.false)))
        none))
      none)
     none)
    none)) := by kernel_rfl
theorem p36_2054_eq (j : Nat) (n0 : Nat) (v0 : List (UInt8)) (v1 : Int) (v4 : Option ((Int × (List UInt8 × (List UInt8 × Unit))))) (v6 : Option ((Int × (List UInt8 × (List UInt8 × Unit))))) (v32 : Bool) : p36_2054 (j + 1) n0 v0 v1 v4 v6 v32 =
  (sel (v32)
   (obind (f42 j (v0) (v1) ((65536 : Int))) fun r425 =>
    (sel (v6.isSome)
     (p36_7 (n0) (n0) (r425.snd.fst) (v4) (Option.some ((v6.getD ((0 : Int), [], [], ())).fst, (v6.getD ((0 : Int), [], [], ())).snd.fst, r425.fst, (v6.getD ((0 : Int), [], [], ())).snd.snd.snd)))
     none))
   (p36_7 (n0) (n0) (v1) (v4) (v6))) := by kernel_rfl
theorem p36_7_eq (j : Nat) (n0 : Nat) (v1 : Int) (v4 : Option ((Int × (List UInt8 × (List UInt8 × Unit))))) (v6 : Option ((Int × (List UInt8 × (List UInt8 × Unit))))) : p36_7 (j + 1) n0 v1 v4 v6 =
  (sel (Decidable.decide (v1 < (0 : Int)))
   (p36_2056 (j) (n0) (j) (v1) (v4) (v6) (Bool.true))
   (sel (v6.isSome)
    (obind (f43 j (v6.getD ((0 : Int), [], [], ()))) fun r570 =>
     (p36_2056 (j) (n0) (j) (v1) (v4) (v6) (!r570.fst)))
    none)) := by kernel_rfl
theorem p36_2056_eq (j : Nat) (n0 : Nat) (n1 : Nat) (v1 : Int) (v4 : Option ((Int × (List UInt8 × (List UInt8 × Unit))))) (v6 : Option ((Int × (List UInt8 × (List UInt8 × Unit))))) (v46 : Bool) : p36_2056 (j + 1) n0 n1 v1 v4 v6 v46 =
  (sel (v46)
   (sel (v4.isSome)
    (sel (Bool.true)
     (some ((Option.some ((0 : Int), [], [], ())).getD ((0 : Int), [], [], ()), (-1 : Int), ()))
     none)
    none)
   (p36_9 (n1) (n0) (n1) (v1) (v4) (v6))) := by kernel_rfl
theorem p36_9_eq (j : Nat) (n0 : Nat) (n1 : Nat) (v1 : Int) (v4 : Option ((Int × (List UInt8 × (List UInt8 × Unit))))) (v6 : Option ((Int × (List UInt8 × (List UInt8 × Unit))))) : p36_9 (j + 1) n0 n1 v1 v4 v6 =
  (sel (v6.isSome)
   (sel (v4.isSome)
    (sel (Bool.true)
     (some ((Option.some (v6.getD ((0 : Int), [], [], ()))).getD ((0 : Int), [], [], ()), v1, ()))
     none)
    none)
   none) := by kernel_rfl
theorem f23_eq (n : Nat) (a0 : List (UInt8)) : f23 (n + 1) a0 =
  (sel (Decidable.decide ((↑a0.length : Int) < (12 : Int)))
   (some ((0 : Int), [], (0 : Int), ()))
   (obind (f24 n (a0) ((0 : Int)) ((8 : Int))) fun r146 =>
    (obind (f24 n (a0) ((8 : Int)) ((4 : Int))) fun r163 =>
     (p23_5 (n) (n) (a0) (r146.fst) (Go.IntKind.i64.wrap r163.fst) ((12 : Int)) ([]))))) := by kernel_rfl
theorem p23_5_eq (j : Nat) (n0 : Nat) (v0 : List (UInt8)) (v5 : Int) (v6 : Int) (v7 : Int) (v8 : List ((Int × (List UInt8 × (List UInt8 × Unit))))) : p23_5 (j + 1) n0 v0 v5 v6 v7 v8 =
  (sel (Decidable.decide ((↑v8.length : Int) < v6))
   (obind (f36 j (v0) (v7)) fun r300 =>
    (sel (Bool.true)
     (sel (Decidable.decide (r300.snd.fst < (0 : Int)))
      (some (v5, v8, v7, ()))
      (sel ((Option.some r300.fst).isSome)
       (sel (Decidable.decide (v8.length + (1 : Nat) ≤ (1073741824 : Nat)))
        (p23_5 (j) (n0) (v0) (v5) (v6) (r300.snd.fst) (v8 ++ [(Option.some r300.fst).getD ((0 : Int), [], [], ())]))
        none)
       none))
     none))
   (some (v5, v8, v7, ()))) := by kernel_rfl
theorem f25_eq (n : Nat) (a0 : Int) (a1 : Int) : f25 (n + 1) a0 a1 =
  (sel (Decidable.decide (a0 ≤ (72057594037927935 : Int)))
   (sel (a1 == (0 : Int))
    (some (Bool.true, ()))
    (some (Decidable.decide (Go.IntKind.u64.wrap (Go.IntKind.i64.wrap (a1 - (1 : Int))) ≤ Go.IntKind.u64.wrap ((72057594037927935 : Int) - a0)), ())))
   (some (Bool.false, ()))) := by kernel_rfl
theorem f11_eq (n : Nat) (a0 : List (UInt8)) : f11 (n + 1) a0 =
  (sel (Decidable.decide ((↑a0.length : Int) > (1048576 : Int)))
   (some ((0 : Int), [], (41 : Int), ()))
   (obind (f23 n (a0)) fun r146 =>
    (sel (Decidable.decide (r146.snd.snd.fst < (12 : Int)))
     (p11_2053 (n) (n) (r146.fst) (r146.snd.fst) (Bool.true))
     (sel (r146.snd.snd.fst != (↑a0.length : Int))
      (p11_2053 (n) (n) (r146.fst) (r146.snd.fst) (Bool.true))
      (obind (f24 n (a0) ((8 : Int)) ((4 : Int))) fun r719 =>
       (sel (Go.IntKind.i64.wrap r719.fst != (↑(List.length r146.snd.fst) : Int))
        (p11_2053 (n) (n) (r146.fst) (r146.snd.fst) (Bool.true))
        (sel (Decidable.decide ((↑(List.length r146.snd.fst) : Int) > (4096 : Int)))
         (p11_2053 (n) (n) (r146.fst) (r146.snd.fst) (Bool.true))
         (obind (f25 n (r146.fst) ((↑(List.length r146.snd.fst) : Int))) fun r1043 =>
          (p11_2053 (n) (n) (r146.fst) (r146.snd.fst) (!r1043.fst)))))))))) := by kernel_rfl
theorem p11_2053_eq (j : Nat) (n0 : Nat) (v5 : Int) (v6 : List ((Int × (List UInt8 × (List UInt8 × Unit))))) (v44 : Bool) : p11_2053 (j + 1) n0 v5 v6 v44 =
  (sel (v44)
   (some ((0 : Int), [], (41 : Int), ()))
   (p11_6 (n0) (n0) (v5) (v6))) := by kernel_rfl
theorem p11_6_eq (j : Nat) (n0 : Nat) (v5 : Int) (v6 : List ((Int × (List UInt8 × (List UInt8 × Unit))))) : p11_6 (j + 1) n0 v5 v6 =
  (some (v5, v6, (0 : Int), ())) := by kernel_rfl
end RqG
end
section
namespace RqG
open Go Lk
set_option linter.unusedVariables false
@[irreducible] noncomputable def f4 (n : Nat) (a0 : Int) (a1 : List (List UInt8)) : Option (List (List UInt8) × Bool × Unit) := F G n 4 (a0, a1, ())
theorem f4_eq (n : Nat) (a0 : Int) (a1 : List (List UInt8)) : f4 n a0 a1 = f4 n a0 a1 := by kernel_rfl
@[irreducible] noncomputable def f6 (n : Nat)  : Option (Bool × Unit) := F G n 6 (())
@[irreducible] noncomputable def f5 (n : Nat) (a0 : Int) (a1 : List (List UInt8)) : Option (List (List UInt8) × Bool × Unit) := F G n 5 (a0, a1, ())
@[irreducible] noncomputable def p5_5 (j : Nat) (n0 : Nat) (v0 : Int) (v1 : List (List UInt8)) (v6 : List (List UInt8)) (v7 : Int) : Option (List (List UInt8) × Bool × Unit) := piece G 5 [.r, .r, .r, .l, .r, .b] j [n0] (skel 63 0 [(0, .av ⟨(.i .i64), .r, v0⟩), (1, .av ⟨(.l .s), .b, v1⟩), (6, .av ⟨(.l .s), (.o .r), v6⟩), (7, .av ⟨(.i .i64), .r, v7⟩)])
@[irreducible] noncomputable def p5_9 (j : Nat) (n0 : Nat) (n1 : Nat) (v0 : Int) (v1 : List (List UInt8)) (v6 : List (List UInt8)) (v7 : Int) (v8 : List ((List (UInt8) × (Int × Unit)))) (v9 : Int) (v10 : Int) : Option (List (List UInt8) × Bool × Unit) := piece G 5 [.r, .r, .r, .l, .r, .b, .o, .r, .l, .b, .r, .l, .r, .b] j [n0, n1] (skel 63 0 [(0, .av ⟨(.i .i64), .r, v0⟩), (1, .av ⟨(.l .s), .b, v1⟩), (6, .av ⟨(.l .s), (.o .r), v6⟩), (7, .av ⟨(.i .i64), .r, v7⟩), (8, .av ⟨(.l (.c (.l .by) (.c (.i .i64) .u))), (.o (.q (.o .r) (.q .r .r))), v8⟩), (9, .av ⟨(.i .i64), .r, v9⟩), (10, .av ⟨(.i .i64), .r, v10⟩)])
@[irreducible] noncomputable def p5_16 (j : Nat) (n0 : Nat) (v6 : List (List UInt8)) : Option (List (List UInt8) × Bool × Unit) := piece G 5 [.r, .r, .r, .r] j [n0] (skel 63 0 [(6, .av ⟨(.l .s), (.o .r), v6⟩)])
@[irreducible] noncomputable def f3 (n : Nat) (a0 : Int) (a1 : List (List UInt8)) : Option (Bool × Unit) := F G n 3 (a0, a1, ())
@[irreducible] noncomputable def p3_3 (j : Nat) (n0 : Nat) (v0 : Int) (v1 : List (List UInt8)) (v5 : List (List (UInt8))) (v6 : Int) : Option (Bool × Unit) := piece G 3 [.r, .r, .l, .r, .b] j [n0] (skel 116 0 [(0, .av ⟨(.i .i64), .r, v0⟩), (1, .av ⟨(.l .s), .b, v1⟩), (5, .av ⟨(.l (.l .by)), (.o (.o .r)), v5⟩), (6, .av ⟨(.i .i64), .r, v6⟩)])
@[irreducible] noncomputable def p3_2057 (j : Nat) (n0 : Nat) (v1 : List (List UInt8)) (v5 : List (List (UInt8))) (v7 : List (List (UInt8))) (v9 : List (List UInt8)) (v55 : Bool) : Option (Bool × Unit) := piece G 3 [.r, .r, .r, .r, .r, .l, .r] j [n0] (skel 116 0 [(1, .av ⟨(.l .s), .b, v1⟩), (5, .av ⟨(.l (.l .by)), (.o (.o .r)), v5⟩), (7, .av ⟨(.l (.l .by)), (.o (.o .r)), v7⟩), (9, .av ⟨(.l .s), (.o .r), v9⟩), (55, .av ⟨.b, .r, v55⟩)])
@[irreducible] noncomputable def p3_10 (j : Nat) (n0 : Nat) (v1 : List (List UInt8)) (v5 : List (List (UInt8))) (v7 : List (List (UInt8))) (v9 : List (List UInt8)) : Option (Bool × Unit) := piece G 3 [.r, .r, .r, .r, .r, .r] j [n0] (skel 116 0 [(1, .av ⟨(.l .s), .b, v1⟩), (5, .av ⟨(.l (.l .by)), (.o (.o .r)), v5⟩), (7, .av ⟨(.l (.l .by)), (.o (.o .r)), v7⟩), (9, .av ⟨(.l .s), (.o .r), v9⟩)])
@[irreducible] noncomputable def p3_11 (j : Nat) (n0 : Nat) (n1 : Nat) (v1 : List (List UInt8)) (v5 : List (List (UInt8))) (v7 : List (List (UInt8))) (v9 : List (List UInt8)) (v11 : Int) : Option (Bool × Unit) := piece G 3 [.r, .r, .r, .r, .r, .r, .l, .r, .b] j [n0, n1] (skel 116 0 [(1, .av ⟨(.l .s), .b, v1⟩), (5, .av ⟨(.l (.l .by)), (.o (.o .r)), v5⟩), (7, .av ⟨(.l (.l .by)), (.o (.o .r)), v7⟩), (9, .av ⟨(.l .s), (.o .r), v9⟩), (11, .av ⟨(.i .i64), .r, v11⟩)])
@[irreducible] noncomputable def p3_16 (j : Nat) (n0 : Nat) (n1 : Nat) (n2 : Nat) (v1 : List (List UInt8)) (v5 : List (List (UInt8))) (v7 : List (List (UInt8))) (v9 : List (List UInt8)) (v11 : Int) (v12 : Int) : Option (Bool × Unit) := piece G 3 [.r, .r, .r, .r, .r, .r, .l, .r, .b, .o, .r, .l, .b, .r, .r, .b] j [n0, n1, n2] (skel 116 0 [(1, .av ⟨(.l .s), .b, v1⟩), (5, .av ⟨(.l (.l .by)), (.o (.o .r)), v5⟩), (7, .av ⟨(.l (.l .by)), (.o (.o .r)), v7⟩), (9, .av ⟨(.l .s), (.o .r), v9⟩), (11, .av ⟨(.i .i64), .r, v11⟩), (12, .av ⟨(.i .i64), .r, v12⟩)])
@[irreducible] noncomputable def p3_20 (j : Nat) (n0 : Nat) (n1 : Nat) (v1 : List (List UInt8)) (v5 : List (List (UInt8))) (v13 : Int) : Option (Bool × Unit) := piece G 3 [.r, .r, .r, .r, .r, .r, .r, .l, .r, .b] j [n0, n1] (skel 116 0 [(1, .av ⟨(.l .s), .b, v1⟩), (5, .av ⟨(.l (.l .by)), (.o (.o .r)), v5⟩), (13, .av ⟨(.i .i64), .r, v13⟩)])
theorem f6_eq (n : Nat)  : f6 (n + 1)  =
  (some (Bool.true, ())) := by kernel_rfl
theorem f5_eq (n : Nat) (a0 : Int) (a1 : List (List UInt8)) : f5 (n + 1) a0 a1 =
  (obind (f9 n (a0)) fun r54 =>
   (sel (!r54.fst)
    (some ([], Bool.false, ()))
    (p5_5 (n) (n) (a0) (a1) ([]) ((0 : Int))))) := by kernel_rfl
theorem p5_5_eq (j : Nat) (n0 : Nat) (v0 : Int) (v1 : List (List UInt8)) (v6 : List (List UInt8)) (v7 : Int) : p5_5 (j + 1) n0 v0 v1 v6 v7 =
  (sel (Decidable.decide (v7 < (↑v1.length : Int)))
   (sel (Decidable.decide ((0 : Int) ≤ v7))
    (sel (Decidable.decide (v7 < (↑v1.length : Int)))
     (obind (f10 j (v0) (v1.getD v7.toNat [])) fun r266 =>
      (p5_9 (j) (n0) (j) (v0) (v1) (v6) (v7) (r266.fst) (r266.snd.fst) ((0 : Int))))
     none)
    none)
   (p5_16 (n0) (n0) (v6))) := by kernel_rfl
theorem p5_9_eq (j : Nat) (n0 : Nat) (n1 : Nat) (v0 : Int) (v1 : List (List UInt8)) (v6 : List (List UInt8)) (v7 : Int) (v8 : List ((List (UInt8) × (Int × Unit)))) (v9 : Int) (v10 : Int) : p5_9 (j + 1) n0 n1 v0 v1 v6 v7 v8 v9 v10 =
  (sel (Decidable.decide (v10 < (↑v8.length : Int)))
   (sel (Decidable.decide ((0 : Int) ≤ v10))
    (sel (Decidable.decide (v10 < (↑v8.length : Int)))
     (obind (f11 j ((v8.getD v10.toNat ([], (0 : Int), ())).fst)) fun r445 =>
      (sel (r445.snd.snd.fst != (0 : Int))
       (some ([], Bool.false, ()))
       (sel (Decidable.decide ((0 : Int) ≤ v10))
        (sel (Decidable.decide (v10 < (↑v8.length : Int)))
         (sel (Decidable.decide (v6.length + (1 : Nat) ≤ (1073741824 : Nat)))
          (p5_9 (j) (n0) (n1) (v0) (v1) (v6 ++ [(v8.getD v10.toNat ([], (0 : Int), ())).fst]) (v7) (v8) (v9) (Go.IntKind.i64.wrap (v10 + (1 : Int))))
          none)
         none)
        none)))
     none)
    none)
   (sel (v9 != (0 : Int))
    (p5_16 (n0) (n0) (v6))
    (p5_5 (n1) (n0) (v0) (v1) (v6) (Go.IntKind.i64.wrap (v7 + (1 : Int)))))) := by kernel_rfl
theorem p5_16_eq (j : Nat) (n0 : Nat) (v6 : List (List UInt8)) : p5_16 (j + 1) n0 v6 =
  (some (v6, Bool.true, ())) := by kernel_rfl
theorem f3_eq (n : Nat) (a0 : Int) (a1 : List (List UInt8)) : f3 (n + 1) a0 a1 =
  (p3_3 (n) (n) (a0) (a1) ([]) ((0 : Int))) := by kernel_rfl
theorem p3_3_eq (j : Nat) (n0 : Nat) (v0 : Int) (v1 : List (List UInt8)) (v5 : List (List (UInt8))) (v6 : Int) : p3_3 (j + 1) n0 v0 v1 v5 v6 =
  (sel (Decidable.decide (v6 < (↑v1.length : Int)))
   (sel (Decidable.decide ((0 : Int) ≤ v6))
    (sel (Decidable.decide (v6 < (↑v1.length : Int)))
     (sel (Decidable.decide (v5.length + (1 : Nat) ≤ (1073741824 : Nat)))
      (p3_3 (j) (n0) (v0) (v1) (v5 ++ [v1.getD v6.toNat []]) (Go.IntKind.i64.wrap (v6 + (1 : Int))))
      none)
     none)
    none)
   (obind (f4 n0 (v0) (v5)) fun r264 =>
    (obind (f5 n0 (v0) (v1)) fun r334 =>
     (sel (r264.snd.fst != r334.snd.fst)
      (p3_2057 (n0) (n0) (v1) (v5) (r264.fst) (r334.fst) (Bool.true))
      (sel ((↑(List.length r264.fst) : Int) != (↑(List.length r334.fst) : Int))
       (p3_2057 (n0) (n0) (v1) (v5) (r264.fst) (r334.fst) (Bool.true))
       (obind (f6 n0 ) fun r614 =>
        (p3_2057 (n0) (n0) (v1) (v5) (r264.fst) (r334.fst) (!r614.fst)))))))) := by kernel_rfl
theorem p3_2057_eq (j : Nat) (n0 : Nat) (v1 : List (List UInt8)) (v5 : List (List (UInt8))) (v7 : List (List (UInt8))) (v9 : List (List UInt8)) (v55 : Bool) : p3_2057 (j + 1) n0 v1 v5 v7 v9 v55 =
  (sel (v55)
   (some (Bool.false, ()))
   (p3_10 (n0) (n0) (v1) (v5) (v7) (v9))) := by kernel_rfl
theorem p3_10_eq (j : Nat) (n0 : Nat) (v1 : List (List UInt8)) (v5 : List (List (UInt8))) (v7 : List (List (UInt8))) (v9 : List (List UInt8)) : p3_10 (j + 1) n0 v1 v5 v7 v9 =
  (p3_11 (j) (n0) (j) (v1) (v5) (v7) (v9) ((0 : Int))) := by kernel_rfl
theorem p3_11_eq (j : Nat) (n0 : Nat) (n1 : Nat) (v1 : List (List UInt8)) (v5 : List (List (UInt8))) (v7 : List (List (UInt8))) (v9 : List (List UInt8)) (v11 : Int) : p3_11 (j + 1) n0 n1 v1 v5 v7 v9 v11 =
  (sel (Decidable.decide (v11 < (↑v7.length : Int)))
   (sel (Decidable.decide ((0 : Int) ≤ v11))
    (sel (Decidable.decide (v11 < (↑v7.length : Int)))
     (sel (Decidable.decide ((0 : Int) ≤ v11))
      (sel (Decidable.decide (v11 < (↑v9.length : Int)))
       (sel (!v7.getD v11.toNat [] == v9.getD v11.toNat [])
        (some (Bool.false, ()))
        (p3_16 (j) (n0) (n1) (j) (v1) (v5) (v7) (v9) (v11) ((0 : Int))))
       none)
      none)
     none)
    none)
   (p3_20 (n1) (n0) (n1) (v1) (v5) ((0 : Int)))) := by kernel_rfl
theorem p3_16_eq (j : Nat) (n0 : Nat) (n1 : Nat) (n2 : Nat) (v1 : List (List UInt8)) (v5 : List (List (UInt8))) (v7 : List (List (UInt8))) (v9 : List (List UInt8)) (v11 : Int) (v12 : Int) : p3_16 (j + 1) n0 n1 n2 v1 v5 v7 v9 v11 v12 =
  (sel (Decidable.decide ((0 : Int) ≤ v11))
   (sel (Decidable.decide (v11 < (↑v7.length : Int)))
    (sel (Decidable.decide (v12 < (↑(List.length (v7.getD v11.toNat [])) : Int)))
     (sel (Decidable.decide ((0 : Int) ≤ v11))
      (sel (Decidable.decide (v11 < (↑v7.length : Int)))
       (sel (Decidable.decide ((0 : Int) ≤ v11))
        (sel (Decidable.decide (v11 < (↑v7.length : Int)))
         (sel (Decidable.decide ((0 : Int) ≤ v12))
          (sel (Decidable.decide (v12 < (↑(List.length (v7.getD v11.toNat [])) : Int)))
           (sel (Decidable.decide ((0 : Int) ≤ v12))
            (sel (Decidable.decide (v12 < (↑(List.length (v7.getD v11.toNat [])) : Int)))
             (p3_16 (j) (n0) (n1) (n2) (v1) (v5) (v7.set v11.toNat (List.set (v7.getD v11.toNat []) v12.toNat (UInt8.ofNat (Go.IntKind.u8.wrap ((↑(UInt8.toNat (List.getD (v7.getD v11.toNat []) v12.toNat (0 : UInt8))) : Int) + (↑(UInt8.toNat (1 : UInt8)) : Int))).toNat))) (v9) (v11) (Go.IntKind.i64.wrap (v12 + (1 : Int))))
             none)
            none)
           none)
          none)
         none)
        none)
       none)
      none)
     (p3_11 (n2) (n0) (n1) (v1) (v5) (v7) (v9) (Go.IntKind.i64.wrap (v11 + (1 : Int)))))
    none)
   none) := by kernel_rfl
theorem p3_20_eq (j : Nat) (n0 : Nat) (n1 : Nat) (v1 : List (List UInt8)) (v5 : List (List (UInt8))) (v13 : Int) : p3_20 (j + 1) n0 n1 v1 v5 v13 =
  (sel (Decidable.decide (v13 < (↑v1.length : Int)))
   (sel (Decidable.decide ((0 : Int) ≤ v13))
    (sel (Decidable.decide (v13 < (↑v5.length : Int)))
     (sel (Decidable.decide ((0 : Int) ≤ v13))
      (sel (Decidable.decide (v13 < (↑v1.length : Int)))
       (sel (!v5.getD v13.toNat [] == v1.getD v13.toNat [])
        (some (Bool.false, ()))
        (p3_20 (j) (n0) (n1) (v1) (v5) (Go.IntKind.i64.wrap (v13 + (1 : Int)))))
       none)
      none)
     none)
    none)
   (obind (f4 n1 ((64 : Int)) ([])) fun r1454 =>
    (some (r1454.snd.fst, ())))) := by kernel_rfl
end RqG
end
section
namespace RqG
open Go Lk
noncomputable def theFnsL : Rl.FnsL where
  f4 := f4
  f9 := f9
  f10 := f10
  f11 := f11
  f6 := f6
  f5 := f5
  p5_5 := p5_5
  p5_9 := p5_9
  p5_16 := p5_16
  f3 := f3
  p3_3 := p3_3
  p3_2057 := p3_2057
  p3_10 := p3_10
  p3_11 := p3_11
  p3_16 := p3_16
  p3_20 := p3_20
  f4_eq := f4_eq
  f9_eq := by intros; rfl
  f10_eq := by intros; rfl
  f11_eq := by intros; rfl
  f6_eq := f6_eq
  f5_eq := f5_eq
  p5_5_eq := p5_5_eq
  p5_9_eq := p5_9_eq
  p5_16_eq := p5_16_eq
  f3_eq := f3_eq
  p3_3_eq := p3_3_eq
  p3_2057_eq := p3_2057_eq
  p3_10_eq := p3_10_eq
  p3_11_eq := p3_11_eq
  p3_16_eq := p3_16_eq
  p3_20_eq := p3_20_eq
end RqG
end
section
namespace RqG
open Go Lk
noncomputable def theFnsC : Rc.FnsC where
  f24 := f24
  p24_3 := p24_3
  f42 := f42
  p42_2 := p42_2
  p42_2051 := p42_2051
  p42_4 := p42_4
  p42_2057 := p42_2057
  p42_11 := p42_11
  p42_2060 := p42_2060
  p42_13 := p42_13
  f43 := f43
  p43_2050 := p43_2050
  p43_3 := p43_3
  f36 := f36
  p36_2054 := p36_2054
  p36_7 := p36_7
  p36_2056 := p36_2056
  p36_9 := p36_9
  f23 := f23
  p23_5 := p23_5
  f25 := f25
  f11 := f11
  p11_2053 := p11_2053
  p11_6 := p11_6
  f24_eq := f24_eq
  p24_3_eq := p24_3_eq
  f42_eq := f42_eq
  p42_2_eq := p42_2_eq
  p42_2051_eq := p42_2051_eq
  p42_4_eq := p42_4_eq
  p42_2057_eq := p42_2057_eq
  p42_11_eq := p42_11_eq
  p42_2060_eq := p42_2060_eq
  p42_13_eq := p42_13_eq
  f43_eq := f43_eq
  p43_2050_eq := p43_2050_eq
  p43_3_eq := p43_3_eq
  f36_eq := f36_eq
  p36_2054_eq := p36_2054_eq
  p36_7_eq := p36_7_eq
  p36_2056_eq := p36_2056_eq
  p36_9_eq := p36_9_eq
  f23_eq := f23_eq
  p23_5_eq := p23_5_eq
  f25_eq := f25_eq
  f11_eq := f11_eq
  p11_2053_eq := p11_2053_eq
  p11_6_eq := p11_6_eq
end RqG
end
section
namespace RqG
open Go Lk
noncomputable def theFnsK : Rk.FnsK where
  f9 := f9
  f19 := f19
  p19_2 := p19_2
  f20 := f20
  p20_2050 := p20_2050
  p20_3 := p20_3
  p20_7 := p20_7
  f49 := f49
  p49_5 := p49_5
  f41 := f41
  p41_2 := p41_2
  p41_5 := p41_5
  f35 := f35
  f22 := f22
  f21 := f21
  f10 := f10
  p10_5 := p10_5
  p10_14 := p10_14
  p10_2071 := p10_2071
  p10_24 := p10_24
  p10_2076 := p10_2076
  p10_29 := p10_29
  p10_2078 := p10_2078
  p10_31 := p10_31
  p10_36 := p10_36
  f9_eq := f9_eq
  f19_eq := f19_eq
  p19_2_eq := p19_2_eq
  f20_eq := f20_eq
  p20_2050_eq := p20_2050_eq
  p20_3_eq := p20_3_eq
  p20_7_eq := p20_7_eq
  f49_eq := f49_eq
  p49_5_eq := p49_5_eq
  f41_eq := f41_eq
  p41_2_eq := p41_2_eq
  p41_5_eq := p41_5_eq
  f35_eq := f35_eq
  f22_eq := f22_eq
  f21_eq := f21_eq
  f10_eq := f10_eq
  p10_5_eq := p10_5_eq
  p10_14_eq := p10_14_eq
  p10_2071_eq := p10_2071_eq
  p10_24_eq := p10_24_eq
  p10_2076_eq := p10_2076_eq
  p10_29_eq := p10_29_eq
  p10_2078_eq := p10_2078_eq
  p10_31_eq := p10_31_eq
  p10_36_eq := p10_36_eq
end RqG
end
