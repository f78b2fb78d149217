/- Jobs that no call gave: every call of a nil job and of an empty struct answers as the document says, whatever number comes in, and the disk stays empty. Conditions: the given card's own. -/
import Derived.Test.YtdpmeeflhnijkaaDoorProg
import Derived.Test.YtdpmeeflhnijkaaDoorLkThree
import Derived.Test.YtdpmeeflhnijkaaDoorRows
import Derived.WalkKit
import Derived.WalkSpells
import Derived.WalkLawsBesides
import Derived.Laws.IdiomRangeMap
import Derived.Test.YtdpmeeflhnijkaaDoorCards
import Derived.Test.YtdpmeeflhnijkaaDoorTie
import Derived.ProofKit
import Derived.OpenShut
import Derived.Deep.DeepHandedRow
import Derived.Lib.LaidTab
set_option linter.all false
namespace WnG
open Go Lk
noncomputable def tys : BT (Ty × Md) := (.node (.node (.node (.node (.node (.node .leaf 1 (.z .fn, .r) .leaf) 2 (.i .i64, .r) (.node .leaf 3 (.i .i64, .r) .leaf)) 4 (.b, .r) (.node (.node .leaf 5 (.by, .r) .leaf) 6 (.by, .r) (.node .leaf 7 (.c (.i .i64) (.c (.i .i64) (.c (.b) (.c (.by) (.u)))), (.q .r (.q .r (.q .r (.q .r .r))))) .leaf))) 8 (.c (.i .i64) (.c (.i .i64) (.c (.b) (.c (.by) (.u)))), (.q .r (.q .r (.q .r (.q .r .r))))) (.node (.node (.node .leaf 9 (.s, .r) .leaf) 10 (.s, .r) (.node .leaf 11 (.s, .r) .leaf)) 12 (.i .u64, .r) (.node (.node .leaf 13 (.c (.s) (.c (.i .u64) (.u)), (.q .r (.q .r .r))) .leaf) 14 (.c (.s) (.c (.i .u64) (.u)), (.q .r (.q .r .r))) (.node .leaf 15 (.z .pt, .r) .leaf)))) 16 (.z .pt, .r) (.node (.node (.node (.node .leaf 17 (.z .pt, .r) .leaf) 18 (.c (.z .pt) (.u), (.q .r .r)) (.node .leaf 19 (.c (.z .pt) (.u), (.q .r .r)) .leaf)) 20 (.e, .r) (.node (.node .leaf 21 (.i .i32, .r) .leaf) 22 (.a 0, (.o .r)) (.node .leaf 23 (.i .i64, .r) .leaf))) 25 (.z .fn, .r) (.node (.node (.node .leaf 26 (.p (.c (.l (.c (.l (.by)) (.c (.c (.i .i64) (.c (.i .i64) (.c (.s) (.c (.s) (.c (.i .u64) (.c (.i .u64) (.u))))))) (.u)))) (.c (.i .i64) (.c (.i .i64) (.c (.e) (.c (.l (.c (.i .i64) (.c (.i .i64) (.c (.s) (.c (.s) (.c (.i .u64) (.c (.i .u64) (.u)))))))) (.u)))))), (.o (.q (.o (.q (.o .r) (.q (.q .r (.q .r (.q .r (.q .r (.q .r (.q .r .r)))))) .r))) (.q .r (.q .r (.q .r (.q (.o (.q .r (.q .r (.q .r (.q .r (.q .r (.q .r .r))))))) .r))))))) .leaf) 27 (.l (.c (.l (.by)) (.c (.c (.i .i64) (.c (.i .i64) (.c (.s) (.c (.s) (.c (.i .u64) (.c (.i .u64) (.u))))))) (.u))), (.o (.q (.o .r) (.q (.q .r (.q .r (.q .r (.q .r (.q .r (.q .r .r)))))) .r)))) (.node .leaf 28 (.e, .r) .leaf)) 29 (.e, .r) (.node (.node .leaf 30 (.l (.c (.i .i64) (.c (.i .i64) (.c (.s) (.c (.s) (.c (.i .u64) (.c (.i .u64) (.u))))))), (.o (.q .r (.q .r (.q .r (.q .r (.q .r (.q .r .r)))))))) .leaf) 31 (.c (.l (.c (.l (.by)) (.c (.c (.i .i64) (.c (.i .i64) (.c (.s) (.c (.s) (.c (.i .u64) (.c (.i .u64) (.u))))))) (.u)))) (.c (.i .i64) (.c (.i .i64) (.c (.e) (.c (.l (.c (.i .i64) (.c (.i .i64) (.c (.s) (.c (.s) (.c (.i .u64) (.c (.i .u64) (.u)))))))) (.u))))), (.q (.o (.q (.o .r) (.q (.q .r (.q .r (.q .r (.q .r (.q .r (.q .r .r)))))) .r))) (.q .r (.q .r (.q .r (.q (.o (.q .r (.q .r (.q .r (.q .r (.q .r (.q .r .r))))))) .r)))))) (.node .leaf 32 (.c (.l (.c (.l (.by)) (.c (.c (.i .i64) (.c (.i .i64) (.c (.s) (.c (.s) (.c (.i .u64) (.c (.i .u64) (.u))))))) (.u)))) (.c (.i .i64) (.c (.i .i64) (.c (.e) (.c (.l (.c (.i .i64) (.c (.i .i64) (.c (.s) (.c (.s) (.c (.i .u64) (.c (.i .u64) (.u)))))))) (.u))))), (.q (.o (.q (.o .r) (.q (.q .r (.q .r (.q .r (.q .r (.q .r (.q .r .r)))))) .r))) (.q .r (.q .r (.q .r (.q (.o (.q .r (.q .r (.q .r (.q .r (.q .r (.q .r .r))))))) .r)))))) .leaf))))) 33 (.l (.p (.c (.l (.c (.l (.by)) (.c (.c (.i .i64) (.c (.i .i64) (.c (.s) (.c (.s) (.c (.i .u64) (.c (.i .u64) (.u))))))) (.u)))) (.c (.i .i64) (.c (.i .i64) (.c (.e) (.c (.l (.c (.i .i64) (.c (.i .i64) (.c (.s) (.c (.s) (.c (.i .u64) (.c (.i .u64) (.u)))))))) (.u))))))), (.o (.o (.q (.o (.q (.o .r) (.q (.q .r (.q .r (.q .r (.q .r (.q .r (.q .r .r)))))) .r))) (.q .r (.q .r (.q .r (.q (.o (.q .r (.q .r (.q .r (.q .r (.q .r (.q .r .r))))))) .r)))))))) (.node (.node (.node (.node (.node .leaf 35 (.z .fn, .r) .leaf) 36 (.z .fn, .r) (.node .leaf 37 (.z .fn, .r) .leaf)) 38 (.z .fn, .r) (.node (.node .leaf 39 (.l (.s), (.o .r)) .leaf) 40 (.z .fn, .r) (.node .leaf 41 (.z .fn, .r) .leaf))) 42 (.z .mp, .r) (.node (.node (.node .leaf 43 (.c (.i .i64) (.c (.i .i64) (.u)), (.q .r (.q .r .r))) .leaf) 44 (.c (.i .i64) (.c (.i .i64) (.u)), (.q .r (.q .r .r))) (.node .leaf 45 (.c (.z .mp) (.c (.i .i64) (.c (.i .i64) (.c (.i .i64) (.c (.c (.i .i64) (.c (.i .i64) (.u))) (.u))))), (.q .r (.q .r (.q .r (.q .r (.q (.q .r (.q .r .r)) .r)))))) .leaf)) 46 (.c (.z .mp) (.c (.i .i64) (.c (.i .i64) (.c (.i .i64) (.c (.c (.i .i64) (.c (.i .i64) (.u))) (.u))))), (.q .r (.q .r (.q .r (.q .r (.q (.q .r (.q .r .r)) .r)))))) (.node (.node .leaf 47 (.z .fn, .r) .leaf) 48 (.u, .r) (.node .leaf 49 (.u, .r) .leaf)))) 50 (.c (.i .i64) (.c (.i .i64) (.u)), (.q .r (.q .r .r))) (.node (.node (.node (.node .leaf 51 (.c (.i .i64) (.c (.i .i64) (.u)), (.q .r (.q .r .r))) .leaf) 52 (.z .fn, .r) (.node .leaf 54 (.u, .r) .leaf)) 56 (.z .fn, .r) (.node (.node .leaf 57 (.z .fn, .r) .leaf) 58 (.i .u64, .r) (.node .leaf 59 (.c (.i .i64) (.c (.i .i64) (.c (.s) (.c (.s) (.c (.i .u64) (.c (.i .u64) (.u)))))), (.q .r (.q .r (.q .r (.q .r (.q .r (.q .r .r))))))) .leaf))) 60 (.c (.i .i64) (.c (.i .i64) (.c (.s) (.c (.s) (.c (.i .u64) (.c (.i .u64) (.u)))))), (.q .r (.q .r (.q .r (.q .r (.q .r (.q .r .r))))))) (.node (.node (.node .leaf 61 (.z .fn, .r) .leaf) 63 (.z .fn, .r) (.node .leaf 65 (.z .fn, .r) .leaf)) 66 (.z .fn, .r) (.node (.node .leaf 67 (.l (.by), (.o .r)) .leaf) 68 (.c (.l (.by)) (.c (.c (.i .i64) (.c (.i .i64) (.c (.s) (.c (.s) (.c (.i .u64) (.c (.i .u64) (.u))))))) (.u)), (.q (.o .r) (.q (.q .r (.q .r (.q .r (.q .r (.q .r (.q .r .r)))))) .r))) (.node .leaf 69 (.c (.l (.by)) (.c (.c (.i .i64) (.c (.i .i64) (.c (.s) (.c (.s) (.c (.i .u64) (.c (.i .u64) (.u))))))) (.u)), (.q (.o .r) (.q (.q .r (.q .r (.q .r (.q .r (.q .r (.q .r .r)))))) .r))) .leaf))))))
noncomputable def sigs : BT Sig := (.node (.node (.node (.node .leaf 3 ⟨[(.i .i64, .r)], [(.b, .r)], 1⟩ .leaf) 4 ⟨[(.i .i64, .r)], [(.a 0, (.o .r)), (.i .i64, .r)], 2⟩ .leaf) 5 ⟨[(.p (.c (.l (.c (.l (.by)) (.c (.c (.i .i64) (.c (.i .i64) (.c (.s) (.c (.s) (.c (.i .u64) (.c (.i .u64) (.u))))))) (.u)))) (.c (.i .i64) (.c (.i .i64) (.c (.e) (.c (.l (.c (.i .i64) (.c (.i .i64) (.c (.s) (.c (.s) (.c (.i .u64) (.c (.i .u64) (.u)))))))) (.u)))))), .b), (.a 0, .b), (.i .i64, .r)], [(.b, .r), (.i .i64, .r)], 2⟩ (.node (.node .leaf 6 ⟨[(.p (.c (.l (.c (.l (.by)) (.c (.c (.i .i64) (.c (.i .i64) (.c (.s) (.c (.s) (.c (.i .u64) (.c (.i .u64) (.u))))))) (.u)))) (.c (.i .i64) (.c (.i .i64) (.c (.e) (.c (.l (.c (.i .i64) (.c (.i .i64) (.c (.s) (.c (.s) (.c (.i .u64) (.c (.i .u64) (.u)))))))) (.u)))))), .b)], [(.b, .r)], 1⟩ .leaf) 7 ⟨[(.p (.c (.l (.c (.l (.by)) (.c (.c (.i .i64) (.c (.i .i64) (.c (.s) (.c (.s) (.c (.i .u64) (.c (.i .u64) (.u))))))) (.u)))) (.c (.i .i64) (.c (.i .i64) (.c (.e) (.c (.l (.c (.i .i64) (.c (.i .i64) (.c (.s) (.c (.s) (.c (.i .u64) (.c (.i .u64) (.u)))))))) (.u)))))), .b)], [(.b, .r)], 1⟩ .leaf)) 8 ⟨[(.p (.c (.l (.c (.l (.by)) (.c (.c (.i .i64) (.c (.i .i64) (.c (.s) (.c (.s) (.c (.i .u64) (.c (.i .u64) (.u))))))) (.u)))) (.c (.i .i64) (.c (.i .i64) (.c (.e) (.c (.l (.c (.i .i64) (.c (.i .i64) (.c (.s) (.c (.s) (.c (.i .u64) (.c (.i .u64) (.u)))))))) (.u)))))), .b)], [(.i .i64, .r)], 1⟩ (.node (.node (.node .leaf 9 ⟨[(.p (.c (.l (.c (.l (.by)) (.c (.c (.i .i64) (.c (.i .i64) (.c (.s) (.c (.s) (.c (.i .u64) (.c (.i .u64) (.u))))))) (.u)))) (.c (.i .i64) (.c (.i .i64) (.c (.e) (.c (.l (.c (.i .i64) (.c (.i .i64) (.c (.s) (.c (.s) (.c (.i .u64) (.c (.i .u64) (.u)))))))) (.u)))))), .b)], [(.l (.c (.i .i64) (.c (.i .i64) (.c (.s) (.c (.s) (.c (.i .u64) (.c (.i .u64) (.u))))))), (.o (.q .r (.q .r (.q .r (.q .r (.q .r (.q .r .r))))))))], 1⟩ .leaf) 10 ⟨[(.p (.c (.l (.c (.l (.by)) (.c (.c (.i .i64) (.c (.i .i64) (.c (.s) (.c (.s) (.c (.i .u64) (.c (.i .u64) (.u))))))) (.u)))) (.c (.i .i64) (.c (.i .i64) (.c (.e) (.c (.l (.c (.i .i64) (.c (.i .i64) (.c (.s) (.c (.s) (.c (.i .u64) (.c (.i .u64) (.u)))))))) (.u)))))), .b)], [(.i .i64, .r)], 1⟩ .leaf) 11 ⟨[(.a 0, .b)], [(.l (.s), (.o .r))], 1⟩ (.node .leaf 13 ⟨[(.p (.c (.l (.c (.l (.by)) (.c (.c (.i .i64) (.c (.i .i64) (.c (.s) (.c (.s) (.c (.i .u64) (.c (.i .u64) (.u))))))) (.u)))) (.c (.i .i64) (.c (.i .i64) (.c (.e) (.c (.l (.c (.i .i64) (.c (.i .i64) (.c (.s) (.c (.s) (.c (.i .u64) (.c (.i .u64) (.u)))))))) (.u)))))), .b)], [(.b, .r)], 1⟩ .leaf)))
noncomputable def bodies : BT Func := (.node (.node (.node (.node .leaf 3 Go.Proofs.Tryd.f3 .leaf) 5 Go.Proofs.Tryd.f5 .leaf) 6 Go.Proofs.Tryd.f6 (.node .leaf 7 Go.Proofs.Tryd.f7 .leaf)) 8 Go.Proofs.Tryd.f8 (.node (.node .leaf 9 Go.Proofs.Tryd.f9 .leaf) 10 Go.Proofs.Tryd.f10 (.node .leaf 13 Go.Proofs.Tryd.f13 .leaf)))
noncomputable def exts : BT Func := (.node (.node .leaf 4 Go.Proofs.Tryd.f4 .leaf) 11 Go.Proofs.Tryd.f11 .leaf)
noncomputable def lives : BT (List Nat) := (.node (.node (.node .leaf 12291 [0, 3, 15, 16, 17] .leaf) 12296 [0, 3, 15, 16, 17] (.node .leaf 14343 [0, 3, 15, 16, 17, 56] .leaf)) 20483 [0, 1, 2] (.node (.node .leaf 22530 [0, 1, 2, 15] .leaf) 40963 [0] (.node .leaf 43010 [0, 12] .leaf)))
noncomputable def ext4 : Nat → Tup [(.i .i64, .r)] → Option (Tup [(.a 0, .o .r), (.i .i64, .r)]) := fun _ x => bif decide (x.1 = 100) then some (some ⟨[], 100, 0, 0, 0, 0⟩, 0, ()) else none
noncomputable def ext11 : Nat → Tup [(.a 0, .b)] → Option (Tup [(.l .s, .o .r)]) := fun _ x => match x.1 with
  | some (d : DiskS) => match d.files with
    | [] => some ([], ())
    | _ => none
  | none => none
noncomputable def ext : (g : FuncId) → Option (Nat → Tup ((sigs.get g).getD ⟨[], [], 0⟩).ps → Option (Tup ((sigs.get g).getD ⟨[], [], 0⟩).rs))
  | 4 => some ext4
  | 11 => some ext11
  | _ => none
noncomputable def lims : BT Nat := .leaf
noncomputable def G : Prg where
  ty T := tys.get T
  lim T := (lims.get T).getD 0
  cmp T := memb [] T
  sig g := (sigs.get g).getD ⟨[], [], 0⟩
  body g := bodies.get g
  ext g := ext g
  live g r := lives.get (Nat.add (Nat.mul g 4096) r)
end WnG

namespace WsG
open Go Lk
noncomputable def tys : BT (Ty × Md) := (.node (.node (.node (.node (.node (.node (.node .leaf 1 (.z .fn, .r) .leaf) 2 (.i .i64, .r) (.node .leaf 3 (.i .i64, .r) .leaf)) 4 (.b, .r) (.node (.node .leaf 5 (.by, .r) .leaf) 6 (.by, .r) (.node .leaf 7 (.c (.i .i64) (.c (.i .i64) (.c (.b) (.c (.by) (.u)))), (.q .r (.q .r (.q .r (.q .r .r))))) .leaf))) 8 (.c (.i .i64) (.c (.i .i64) (.c (.b) (.c (.by) (.u)))), (.q .r (.q .r (.q .r (.q .r .r))))) (.node (.node (.node .leaf 9 (.s, .r) .leaf) 10 (.s, .r) (.node .leaf 11 (.s, .r) .leaf)) 12 (.i .u64, .r) (.node (.node .leaf 13 (.c (.s) (.c (.i .u64) (.u)), (.q .r (.q .r .r))) .leaf) 14 (.c (.s) (.c (.i .u64) (.u)), (.q .r (.q .r .r))) .leaf))) 15 (.p (.c (.p (.c (.i .u64) (.c (.i .u64) (.c (.i .u32) (.c (.by) (.c (.by) (.c (.by) (.c (.by) (.c (.z .fn) (.c (.p (.by)) (.c (.i .i32) (.c (.i .i32) (.u))))))))))))) (.c (.p (.c (.i .u64) (.c (.i .u64) (.c (.i .u32) (.c (.by) (.c (.by) (.c (.by) (.c (.by) (.c (.z .fn) (.c (.p (.by)) (.c (.i .i32) (.c (.i .i32) (.u))))))))))))) (.c (.p (.c (.i .u64) (.c (.i .u64) (.c (.i .u32) (.c (.by) (.c (.by) (.c (.by) (.c (.by) (.c (.z .fn) (.c (.p (.by)) (.c (.i .i32) (.c (.i .i32) (.u))))))))))))) (.c (.s) (.u))))), (.o (.q (.o (.q .r (.q .r (.q .r (.q .r (.q .r (.q .r (.q .r (.q .r (.q (.o .r) (.q .r (.q .r .r)))))))))))) (.q (.o (.q .r (.q .r (.q .r (.q .r (.q .r (.q .r (.q .r (.q .r (.q (.o .r) (.q .r (.q .r .r)))))))))))) (.q (.o (.q .r (.q .r (.q .r (.q .r (.q .r (.q .r (.q .r (.q .r (.q (.o .r) (.q .r (.q .r .r)))))))))))) (.q .r .r)))))) (.node (.node (.node (.node .leaf 16 (.z .pt, .r) .leaf) 17 (.p (.c (.i .u64) (.c (.i .u64) (.c (.i .u32) (.c (.by) (.c (.by) (.c (.by) (.c (.by) (.c (.z .fn) (.c (.p (.by)) (.c (.i .i32) (.c (.i .i32) (.u)))))))))))), (.o (.q .r (.q .r (.q .r (.q .r (.q .r (.q .r (.q .r (.q .r (.q (.o .r) (.q .r (.q .r .r))))))))))))) (.node .leaf 18 (.c (.p (.c (.i .u64) (.c (.i .u64) (.c (.i .u32) (.c (.by) (.c (.by) (.c (.by) (.c (.by) (.c (.z .fn) (.c (.p (.by)) (.c (.i .i32) (.c (.i .i32) (.u))))))))))))) (.u), (.q (.o (.q .r (.q .r (.q .r (.q .r (.q .r (.q .r (.q .r (.q .r (.q (.o .r) (.q .r (.q .r .r)))))))))))) .r)) .leaf)) 19 (.c (.p (.c (.i .u64) (.c (.i .u64) (.c (.i .u32) (.c (.by) (.c (.by) (.c (.by) (.c (.by) (.c (.z .fn) (.c (.p (.by)) (.c (.i .i32) (.c (.i .i32) (.u))))))))))))) (.u), (.q (.o (.q .r (.q .r (.q .r (.q .r (.q .r (.q .r (.q .r (.q .r (.q (.o .r) (.q .r (.q .r .r)))))))))))) .r)) (.node (.node .leaf 20 (.e, .r) .leaf) 21 (.i .i32, .r) .leaf)) 22 (.p (.c (.z .mp) (.c (.i .i64) (.c (.i .i64) (.c (.i .i64) (.c (.c (.i .i64) (.c (.i .i64) (.u))) (.u)))))), (.o (.q .r (.q .r (.q .r (.q .r (.q (.q .r (.q .r .r)) .r))))))) (.node (.node (.node .leaf 23 (.i .i64, .r) .leaf) 25 (.z .fn, .r) (.node .leaf 26 (.p (.c (.l (.c (.l (.by)) (.c (.c (.i .i64) (.c (.i .i64) (.c (.s) (.c (.s) (.c (.i .u64) (.c (.i .u64) (.u))))))) (.u)))) (.c (.i .i64) (.c (.i .i64) (.c (.e) (.c (.l (.c (.i .i64) (.c (.i .i64) (.c (.s) (.c (.s) (.c (.i .u64) (.c (.i .u64) (.u)))))))) (.u)))))), (.o (.q (.o (.q (.o .r) (.q (.q .r (.q .r (.q .r (.q .r (.q .r (.q .r .r)))))) .r))) (.q .r (.q .r (.q .r (.q (.o (.q .r (.q .r (.q .r (.q .r (.q .r (.q .r .r))))))) .r))))))) .leaf)) 27 (.l (.c (.l (.by)) (.c (.c (.i .i64) (.c (.i .i64) (.c (.s) (.c (.s) (.c (.i .u64) (.c (.i .u64) (.u))))))) (.u))), (.o (.q (.o .r) (.q (.q .r (.q .r (.q .r (.q .r (.q .r (.q .r .r)))))) .r)))) (.node (.node .leaf 28 (.e, .r) .leaf) 29 (.e, .r) .leaf)))) 30 (.l (.c (.i .i64) (.c (.i .i64) (.c (.s) (.c (.s) (.c (.i .u64) (.c (.i .u64) (.u))))))), (.o (.q .r (.q .r (.q .r (.q .r (.q .r (.q .r .r)))))))) (.node (.node (.node (.node (.node .leaf 31 (.c (.l (.c (.l (.by)) (.c (.c (.i .i64) (.c (.i .i64) (.c (.s) (.c (.s) (.c (.i .u64) (.c (.i .u64) (.u))))))) (.u)))) (.c (.i .i64) (.c (.i .i64) (.c (.e) (.c (.l (.c (.i .i64) (.c (.i .i64) (.c (.s) (.c (.s) (.c (.i .u64) (.c (.i .u64) (.u)))))))) (.u))))), (.q (.o (.q (.o .r) (.q (.q .r (.q .r (.q .r (.q .r (.q .r (.q .r .r)))))) .r))) (.q .r (.q .r (.q .r (.q (.o (.q .r (.q .r (.q .r (.q .r (.q .r (.q .r .r))))))) .r)))))) .leaf) 32 (.c (.l (.c (.l (.by)) (.c (.c (.i .i64) (.c (.i .i64) (.c (.s) (.c (.s) (.c (.i .u64) (.c (.i .u64) (.u))))))) (.u)))) (.c (.i .i64) (.c (.i .i64) (.c (.e) (.c (.l (.c (.i .i64) (.c (.i .i64) (.c (.s) (.c (.s) (.c (.i .u64) (.c (.i .u64) (.u)))))))) (.u))))), (.q (.o (.q (.o .r) (.q (.q .r (.q .r (.q .r (.q .r (.q .r (.q .r .r)))))) .r))) (.q .r (.q .r (.q .r (.q (.o (.q .r (.q .r (.q .r (.q .r (.q .r (.q .r .r))))))) .r)))))) (.node .leaf 33 (.l (.p (.c (.l (.c (.l (.by)) (.c (.c (.i .i64) (.c (.i .i64) (.c (.s) (.c (.s) (.c (.i .u64) (.c (.i .u64) (.u))))))) (.u)))) (.c (.i .i64) (.c (.i .i64) (.c (.e) (.c (.l (.c (.i .i64) (.c (.i .i64) (.c (.s) (.c (.s) (.c (.i .u64) (.c (.i .u64) (.u)))))))) (.u))))))), (.o (.o (.q (.o (.q (.o .r) (.q (.q .r (.q .r (.q .r (.q .r (.q .r (.q .r .r)))))) .r))) (.q .r (.q .r (.q .r (.q (.o (.q .r (.q .r (.q .r (.q .r (.q .r (.q .r .r))))))) .r)))))))) .leaf)) 35 (.z .fn, .r) (.node (.node .leaf 36 (.z .fn, .r) .leaf) 37 (.z .fn, .r) .leaf)) 38 (.z .fn, .r) (.node (.node (.node .leaf 39 (.l (.s), (.o .r)) .leaf) 40 (.z .fn, .r) (.node .leaf 41 (.z .fn, .r) .leaf)) 42 (.z .mp, .r) (.node (.node .leaf 43 (.c (.i .i64) (.c (.i .i64) (.u)), (.q .r (.q .r .r))) .leaf) 44 (.c (.i .i64) (.c (.i .i64) (.u)), (.q .r (.q .r .r))) .leaf))) 45 (.c (.z .mp) (.c (.i .i64) (.c (.i .i64) (.c (.i .i64) (.c (.c (.i .i64) (.c (.i .i64) (.u))) (.u))))), (.q .r (.q .r (.q .r (.q .r (.q (.q .r (.q .r .r)) .r)))))) (.node (.node (.node (.node .leaf 46 (.c (.z .mp) (.c (.i .i64) (.c (.i .i64) (.c (.i .i64) (.c (.c (.i .i64) (.c (.i .i64) (.u))) (.u))))), (.q .r (.q .r (.q .r (.q .r (.q (.q .r (.q .r .r)) .r)))))) .leaf) 47 (.z .fn, .r) (.node .leaf 48 (.u, .r) .leaf)) 49 (.u, .r) (.node (.node .leaf 50 (.c (.i .i64) (.c (.i .i64) (.u)), (.q .r (.q .r .r))) .leaf) 51 (.c (.i .i64) (.c (.i .i64) (.u)), (.q .r (.q .r .r))) .leaf)) 52 (.z .fn, .r) (.node (.node (.node .leaf 54 (.u, .r) .leaf) 56 (.z .fn, .r) (.node .leaf 57 (.z .fn, .r) .leaf)) 58 (.i .u64, .r) (.node (.node .leaf 59 (.c (.i .i64) (.c (.i .i64) (.c (.s) (.c (.s) (.c (.i .u64) (.c (.i .u64) (.u)))))), (.q .r (.q .r (.q .r (.q .r (.q .r (.q .r .r))))))) .leaf) 60 (.c (.i .i64) (.c (.i .i64) (.c (.s) (.c (.s) (.c (.i .u64) (.c (.i .u64) (.u)))))), (.q .r (.q .r (.q .r (.q .r (.q .r (.q .r .r))))))) .leaf))))) 61 (.z .fn, .r) (.node (.node (.node (.node (.node (.node .leaf 63 (.z .fn, .r) .leaf) 65 (.z .fn, .r) (.node .leaf 66 (.z .fn, .r) .leaf)) 67 (.l (.by), (.o .r)) (.node (.node .leaf 68 (.c (.l (.by)) (.c (.c (.i .i64) (.c (.i .i64) (.c (.s) (.c (.s) (.c (.i .u64) (.c (.i .u64) (.u))))))) (.u)), (.q (.o .r) (.q (.q .r (.q .r (.q .r (.q .r (.q .r (.q .r .r)))))) .r))) .leaf) 69 (.c (.l (.by)) (.c (.c (.i .i64) (.c (.i .i64) (.c (.s) (.c (.s) (.c (.i .u64) (.c (.i .u64) (.u))))))) (.u)), (.q (.o .r) (.q (.q .r (.q .r (.q .r (.q .r (.q .r (.q .r .r)))))) .r))) .leaf)) 70 (.z .fn, .r) (.node (.node (.node .leaf 71 (.z .fn, .r) .leaf) 72 (.z .fn, .r) (.node .leaf 73 (.i .u64, .r) .leaf)) 74 (.p (.c (.l (.by)) (.c (.i .i64) (.u))), (.o (.q (.o .r) (.q .r .r)))) (.node (.node .leaf 76 (.z .fn, .r) .leaf) 77 (.c (.l (.by)) (.c (.i .i64) (.u)), (.q (.o .r) (.q .r .r))) .leaf))) 78 (.c (.l (.by)) (.c (.i .i64) (.u)), (.q (.o .r) (.q .r .r))) (.node (.node (.node (.node .leaf 79 (.z .fn, .r) .leaf) 80 (.z .fn, .r) (.node .leaf 81 (.z .fn, .r) .leaf)) 82 (.z .fn, .r) (.node (.node .leaf 83 (.i .i64, .r) .leaf) 85 (.z .fn, .r) .leaf)) 86 (.z .fn, .r) (.node (.node (.node .leaf 87 (.z .fn, .r) .leaf) 88 (.z .fn, .r) (.node .leaf 90 (.z .fn, .r) .leaf)) 91 (.z .fn, .r) (.node (.node .leaf 92 (.i .u32, .r) .leaf) 93 (.z .fn, .r) .leaf)))) 94 (.z .fn, .r) (.node (.node (.node (.node (.node .leaf 95 (.i .u64, .r) .leaf) 96 (.z .fn, .r) (.node .leaf 97 (.z .fn, .r) .leaf)) 98 (.z .fn, .r) (.node (.node .leaf 99 (.p (.i .i64), (.o .r)) .leaf) 100 (.z .fn, .r) .leaf)) 101 (.z .fn, .r) (.node (.node (.node .leaf 103 (.z .fn, .r) .leaf) 104 (.p (.c (.p (.c (.p (.c (.p (.c (.p (.c (.z .pt) (.c (.l (.by)) (.u)))) (.c (.l (.by)) (.u)))) (.c (.l (.by)) (.u)))) (.c (.l (.by)) (.u)))) (.c (.l (.by)) (.u))), (.o (.q (.o (.q (.o (.q (.o (.q (.o (.q .r (.q (.o .r) .r))) (.q (.o .r) .r))) (.q (.o .r) .r))) (.q (.o .r) .r))) (.q (.o .r) .r)))) (.node .leaf 105 (.c (.p (.c (.p (.c (.p (.c (.p (.c (.p (.c (.z .pt) (.c (.z .sl) (.u)))) (.c (.l (.by)) (.u)))) (.c (.l (.by)) (.u)))) (.c (.l (.by)) (.u)))) (.c (.l (.by)) (.u)))) (.c (.l (.by)) (.u)), (.q (.o (.q (.o (.q (.o (.q (.o (.q (.o (.q .r (.q .r .r))) (.q (.o .r) .r))) (.q (.o .r) .r))) (.q (.o .r) .r))) (.q (.o .r) .r))) (.q (.o .r) .r))) .leaf)) 106 (.c (.p (.c (.p (.c (.p (.c (.p (.c (.p (.c (.z .pt) (.c (.z .sl) (.u)))) (.c (.l (.by)) (.u)))) (.c (.l (.by)) (.u)))) (.c (.l (.by)) (.u)))) (.c (.l (.by)) (.u)))) (.c (.l (.by)) (.u)), (.q (.o (.q (.o (.q (.o (.q (.o (.q (.o (.q .r (.q .r .r))) (.q (.o .r) .r))) (.q (.o .r) .r))) (.q (.o .r) .r))) (.q (.o .r) .r))) (.q (.o .r) .r))) (.node (.node .leaf 107 (.z .fn, .r) .leaf) 108 (.e, .r) .leaf))) 109 (.e, .r) (.node (.node (.node (.node .leaf 111 (.z .fn, .r) .leaf) 112 (.z .fn, .r) (.node .leaf 113 (.p (.i .u64), (.o .r)) .leaf)) 115 (.z .fn, .r) (.node (.node .leaf 116 (.z .fn, .r) .leaf) 118 (.z .fn, .r) .leaf)) 120 (.z .fn, .r) (.node (.node (.node .leaf 121 (.p (.by), (.o .r)) .leaf) 123 (.z .fn, .r) (.node .leaf 125 (.z .fn, .r) .leaf)) 127 (.z .fn, .r) (.node (.node .leaf 128 (.z .fn, .r) .leaf) 129 (.z .fn, .r) .leaf))))))
noncomputable def sigs : BT Sig := (.node (.node (.node .leaf 19 ⟨[(.l (.s), .b)], [], 0⟩ .leaf) 26 ⟨[(.l (.s), .b), (.i .i64, .r), (.i .i64, .r), (.i .i64, .r)], [], 0⟩ (.node .leaf 27 ⟨[(.i .u64, .r)], [(.i .i64, .r)], 1⟩ .leaf)) 33 ⟨[(.l (.s), .b), (.i .i64, .r), (.i .i64, .r)], [], 0⟩ (.node (.node .leaf 42 ⟨[(.i .u32, .r)], [(.i .i64, .r)], 1⟩ .leaf) 43 ⟨[(.i .u64, .r)], [(.i .i64, .r)], 1⟩ .leaf))
noncomputable def bodies : BT Func := (.node (.node (.node .leaf 19 Go.Proofs.Tryd.f19 .leaf) 26 Go.Proofs.Tryd.f26 (.node .leaf 27 Go.Proofs.Tryd.f27 .leaf)) 33 Go.Proofs.Tryd.f33 (.node (.node .leaf 42 Go.Proofs.Tryd.f42 .leaf) 43 Go.Proofs.Tryd.f43 .leaf))
noncomputable def exts : BT Func := .leaf
noncomputable def lives : BT (List Nat) := (.node (.node (.node (.node (.node .leaf 106498 [0, 1, 2, 3, 8, 9] .leaf) 106506 [0, 1, 2, 3, 8, 9, 10] .leaf) 106511 [0, 1, 2, 3, 8, 9, 10, 11, 12] (.node .leaf 106513 [0, 1, 2, 3, 8, 9, 10, 11] .leaf)) 106516 [0, 1, 2, 3, 10, 11] (.node (.node .leaf 108560 [0, 1, 2, 3, 8, 9, 10, 11, 68] .leaf) 108562 [0, 1, 2, 3, 8, 9, 10, 11, 87] (.node .leaf 135169 [0, 1, 2, 6] .leaf))) 135170 [0, 1, 2, 6] (.node (.node (.node .leaf 135172 [0, 1, 2, 6, 7] .leaf) 135174 [0, 1, 2, 6, 7] (.node .leaf 172036 [0, 2] .leaf)) 172039 [0, 2] (.node (.node .leaf 176132 [0, 2] .leaf) 176135 [0, 2] (.node .leaf 176138 [0, 2] .leaf))))
noncomputable def lims : BT Nat := .leaf
noncomputable def G : Prg where
  ty T := tys.get T
  lim T := (lims.get T).getD 0
  cmp T := memb [] T
  sig g := (sigs.get g).getD ⟨[], [], 0⟩
  body g := bodies.get g
  ext g := none
  live g r := lives.get (Nat.add (Nat.mul g 4096) r)
end WsG

namespace Go.Proofs.YtdpmeeflhnijkaaDoor
open Go.RowKit

set_option maxHeartbeats 400000 in
theorem isQuota_100 (w : World) :
    Calls Tryd.prog 12 #[.int .i64 100] w fun e w' => e = .returned (.bool true) ∧ w' = w := by
  go_enter Tryd.func12, Tryd.ntmps12
  go_wp2
  go_ret
  exact ⟨rfl, rfl⟩

set_option maxHeartbeats 400000 in
theorem new_100 (w : World) :
    Calls Tryd.prog 4 #[.int .i64 100] w fun e w' => e = .returned (.tuple #[.pointer (some ⟨w.heap.size + 1, 0, none⟩), .int .i64 0]) ∧
      w' = (w.alloc (.map #[] 0)).alloc (.cells #[.map (some w.heap.size), .int .i64 100, .int .i64 0, .int .i64 0, .int .i64 0, .int .i64 0] 46) := by
  have hmm := @run_makeMap Tryd.prog
  go_enter Tryd.func4, Tryd.ntmps4
  go_wp2_with (go_at_call 12; refine (isQuota_100 _).mono ?_; rintro e w2 ⟨rfl, rfl⟩)
  go_ret2
  exact ⟨rfl, rfl⟩

set_option maxHeartbeats 400000 in
theorem none_any (w : World) (b m : Nat) (h : w.cell? ⟨b, 0, none⟩ = some (.map (some m))) :
    Calls Tryd.prog 18 #[.pointer (some ⟨b, 0, none⟩)] w fun e w' => e = .returned (.bool false) ∧ w' = w := by
  have q42 : ∀ (w : World) (r : Option Nat), (binOp .eql 42 (.map r) (.map none)).run Tryd.prog w = .ok (.bool r.isNone) w := fun w r => run_eql_map_nil w _ _ _ r Tryd.underlying42
  go_enter Tryd.func18, Tryd.ntmps18
  go_wp2
  go_ret
  exact ⟨rfl, rfl⟩

def kw : Lk.KW := ⟨fun _ => True, 0⟩
/-- A disk that is empty, and has never refused. -/
def own (w : World) (x : Lk.DiskS) (v : Value) (bs : List Nat) : Prop :=
  x.files = [] ∧ ∃ b m c, v = .pointer (some ⟨b, 0, none⟩) ∧ bs = [b, m] ∧ b < w.heap.size ∧ m < w.heap.size ∧ b ≠ m ∧ w.cell? ⟨b, 0, none⟩ = some (.map (some m)) ∧ w.heap[m]? = some (.map #[] c)
theorem cell_keep {w w' : World} {b o : Nat} (h : w'.heap[b]? = w.heap[b]?) : w'.cell? ⟨b, o, none⟩ = w.cell? ⟨b, o, none⟩ := by
  unfold World.cell?; rw [h]
def ax : Lk.Ax where
  own n w x v bs := match n, x with
    | 0, x => own w x v bs
    | _, _ => False
  keep {n w w' x v bs} h hb := by
    cases n with
    | zero =>
      obtain ⟨h1, b, m, c, h2, rfl, h4, h5, h6, h7, h8⟩ := h
      refine ⟨h1, b, m, c, h2, rfl, ?_, ?_, h6, ?_, ?_⟩
      · have := hb b (by simp)
        rcases Nat.lt_or_ge b w'.heap.size with h | h
        · exact h
        · rw [Array.getElem?_eq_none h, Array.getElem?_eq_getElem h4] at this; cases this
      · have := hb m (by simp)
        rcases Nat.lt_or_ge m w'.heap.size with h | h
        · exact h
        · rw [Array.getElem?_eq_none h, Array.getElem?_eq_getElem h5] at this; cases this
      · rw [cell_keep (hb b (by simp))]; exact h7
      · rw [hb m (by simp)]; exact h8
    | succ n => exact h.elim
  lt {n w x v bs} h := by
    cases n with
    | zero =>
      obtain ⟨_, b, m, c, _, rfl, h4, h5, _⟩ := h
      intro k hk
      simp only [List.mem_cons, List.not_mem_nil, or_false] at hk
      rcases hk with rfl | rfl
      · exact h4
      · exact h5
    | succ n => exact h.elim
  ptr {n w x v bs} h := by
    cases n with
    | zero => obtain ⟨_, b, m, c, h2, _⟩ := h; exact ⟨_, h2⟩
    | succ n => exact h.elim

theorem envS : Lk.EnvOk Tryd.prog WsG.G.toEnv := Lk.env_ok (tys := WsG.tys) (lims := WsG.lims) (cmps := []) (fun _ => rfl) (fun _ => rfl) (fun _ => rfl) (by kernel_rfl) (by kernel_rfl)
theorem namesS : (WsG.bodies.toList ++ WsG.exts.toList).all (fun p => Lk.nameB p.2) = true := by kernel_rfl
theorem nrsS : WsG.bodies.toList.all (Lk.nrB WsG.sigs) = true := by kernel_rfl
theorem funcsS : ∀ p ∈ WsG.bodies.toList ++ WsG.exts.toList, Tryd.prog.funcs[p.1]? = some p.2 := by
  intro p hp
  have e : WsG.bodies.toList ++ WsG.exts.toList = [(19, Tryd.f19), (26, Tryd.f26), (27, Tryd.f27), (33, Tryd.f33), (42, Tryd.f42), (43, Tryd.f43)] := by kernel_rfl
  rw [e] at hp
  simp only [List.mem_cons, List.not_mem_nil, or_false] at hp
  rcases hp with rfl | rfl | rfl | rfl | rfl | rfl
  · exact Tryd.func19
  · exact Tryd.func26
  · exact Tryd.func27
  · exact Tryd.func33
  · exact Tryd.func42
  · exact Tryd.func43
theorem prgS : Lk.PrgOk kw ax Tryd.prog WsG.G :=
  Lk.prg_ok (bodies := WsG.bodies) (exts := WsG.exts) envS (by kernel_rfl) (fun _ _ _ h _ _ _ => h) (fun _ => rfl) (fun g F h => by cases h) (fun g F n h => by cases h) funcsS namesS (by kernel_rfl)

theorem sort_law : Lk.F WsG.G 100 19 ([], ()) = some () := by kernel_rfl

theorem ext_alloc (w : World) (o : Obj) : Lk.Ext [] w (w.alloc o) := by
  refine ⟨rfl, rfl, rfl, ?_, fun b hb _ => ?_⟩
  · show w.heap.size ≤ (w.heap.push o).size
    simp
  · show (w.heap.push o)[b]? = _
    rw [Array.getElem?_push_lt hb, Array.getElem?_eq_getElem hb]

theorem ext_trans {w w1 w2 : World} (h : Lk.Ext [] w w1) (g : Lk.Ext [] w1 w2) : Lk.Ext [] w w2 :=
  ⟨g.os.trans h.os, g.tape.trans h.tape, g.output.trans h.output, Nat.le_trans h.size g.size, fun b hb hn => (g.block b (Nat.lt_of_lt_of_le hb h.size) hn).trans (h.block b hb hn)⟩

theorem sort_nil (w : World) : Calls Tryd.prog 19 #[.slice none 0 0] w fun e w' => e = .returned (.tuple #[]) ∧ Lk.Ext [] w w' := by
  have hok : Lk.FnOk (τ := ax) (Kw := kw) Tryd.prog 19 (WsG.G.sig 19) (Lk.F WsG.G 100 19) := Lk.F_ok prgS (Lk.res_le (bodies := WsG.bodies) (exts := WsG.exts) (sigs := WsG.sigs) (fun _ => rfl) (fun _ => rfl) namesS nrsS) _ 19
  refine (hok ([], ()) () sort_law w (fun b => b < w.heap.size) (fun _ => False) [⟨.l .s, .b, [], ⟨.slice none 0 0, 0, 0, [], 0, (0, 0), []⟩⟩] trivial (fun b h => h.elim id False.elim) rfl ?_).mono ?_
  · refine ⟨?_, by simp [Lk.blsOf, Lk.DV.bl, Lk.bl], by simp [Lk.blsOf, Lk.DV.bl, Lk.bl], by simp [Lk.blsOf, Lk.DV.bl, Lk.bl], Nat.zero_le _⟩
    intro d hd
    obtain rfl : d = _ := List.mem_singleton.1 hd
    exact ⟨none, 0, rfl, Nat.le_refl _, Nat.zero_le _, fun _ => rfl, .inl rfl⟩
  · rintro e w' ⟨v, he, hx, hr⟩
    obtain ⟨rds, S', h1, _, _, _, _, _, _, h5, _⟩ := hr.ex
    obtain rfl : rds = [] := List.map_eq_nil_iff.1 h1
    refine ⟨?_, hx⟩
    rw [he, h5]
    rfl

set_option maxHeartbeats 400000 in
theorem list_any (w : World) (b m c : Nat) (h : w.cell? ⟨b, 0, none⟩ = some (.map (some m))) (hm : w.heap[m]? = some (.map #[] c)) :
    Calls Tryd.prog 11 #[.pointer (some ⟨b, 0, none⟩)] w fun e w' => e = .returned (.slice none 0 0) ∧ Lk.Ext [] w w' := by
  have hr := run_range_map (P := Tryd.prog) w 42 _ _ m #[] c Tryd.underlying42 hm
  have hn : ∀ ty, (Instr.next (.pointer (some ⟨w.heap.size, 0, none⟩)) false ty).run Tryd.prog (w.alloc (.mapIter (some m) c #[] c)) = .ok (.tuple #[.bool false]) (w.alloc (.mapIter (some m) c #[] c)) := by
    intro ty
    rcases run_next_map (P := Tryd.prog) w ty m c c #[] #[] c hm (by simp) (Nat.le_refl _) with h | ⟨e, he, _⟩
    · exact h.2
    · simp [leftOf] at he
  go_enter Tryd.func11, Tryd.ntmps11
  go_wp2_with (go_at_call 18; refine (none_any _ _ _ h).mono ?_; rintro e w2 ⟨rfl, rfl⟩)
  refine wp_loop_rounds 1 ?_
  rw [rounds_succ]
  go_wp2_with (go_at_call 19; refine (sort_nil _).mono ?_; rintro e w3 ⟨rfl, hx⟩)
  go_ret
  exact ⟨rfl, ext_trans (ext_alloc _ _) hx⟩

theorem alloc_lt (w : World) (o : Obj) {b : Nat} (h : b < w.heap.size) : (w.alloc o).heap[b]? = w.heap[b]? := by
  show (w.heap.push o)[b]? = _
  rw [Array.getElem?_push_lt h, Array.getElem?_eq_getElem h]
theorem alloc_new (w : World) (o : Obj) : (w.alloc o).heap[w.heap.size]? = some o := by
  show (w.heap.push o)[w.heap.size]? = _
  simp
theorem alloc_size (w : World) (o : Obj) : (w.alloc o).heap.size = w.heap.size + 1 := by
  show (w.heap.push o).size = _
  simp

theorem ok4 (n : Nat) : Lk.FnOk (τ := ax) (Kw := kw) Tryd.prog 4 ⟨[(.i .i64, .r)], [(.a 0, .o .r), (.i .i64, .r)], 2⟩ (WnG.ext4 n) := by
  intro x res hx w S Sb ads hK hs ha hargs
  obtain ⟨k, u⟩ := x
  unfold WnG.ext4 at hx
  by_cases h : k = 100
  case neg => simp [h] at hx
  subst h
  simp only [decide_true, cond_true, Option.some.injEq] at hx
  subst hx
  obtain ⟨d, rfl⟩ : ∃ d, ads = [d] := by
    cases ads with
    | nil => simp [Lk.avs] at ha
    | cons d r => cases r with
      | nil => exact ⟨d, rfl⟩
      | cons _ _ => simp [Lk.avs] at ha
  obtain ⟨t, m, x, sh⟩ := d
  simp only [List.map_cons, List.map_nil, Lk.avs, Lk.DV.av, List.cons.injEq, and_true, Lk.AV.mk.injEq] at ha
  obtain ⟨rfl, rfl, hx⟩ := ha
  obtain rfl := eq_of_heq hx
  refine (new_100 w).mono ?_
  rintro e w' ⟨rfl, rfl⟩
  let w1 := w.alloc (.map #[] 0)
  let o : Obj := .cells #[.map (some w.heap.size), .int .i64 100, .int .i64 0, .int .i64 0, .int .i64 0, .int .i64 0] 46
  have hsz : (w1.alloc o).heap.size = w.heap.size + 2 := by rw [alloc_size, alloc_size]
  refine ⟨_, rfl, ⟨rfl, rfl, rfl, by rw [hsz]; omega, fun b hb _ => ?_⟩, ⟨[⟨.a 0, .o .r, some ⟨[], 100, 0, 0, 0, 0⟩, (.pointer (some ⟨w.heap.size + 1, 0, none⟩), [w.heap.size + 1, w.heap.size])⟩, ⟨.i .i64, .r, (0 : Int), ()⟩], S, rfl, fun _ h => h, fun _ h => .inl h, fun b hb => ?_, ?_, ?_, ?_, rfl, rfl⟩⟩
  · rw [alloc_lt w1 o (by rw [alloc_size]; omega), alloc_lt w _ hb]
  · rw [hsz]; have := hs b (.inl hb); omega
  · intro d hd
    simp only [List.mem_cons, List.not_mem_nil, or_false] at hd
    rcases hd with rfl | rfl
    · refine ⟨rfl, w.heap.size + 1, w.heap.size, 0, rfl, rfl, by rw [hsz]; omega, by rw [hsz]; omega, by omega, ?_, ?_⟩
      · have : (w1.alloc o).heap[w.heap.size + 1]? = some o := by
          have := alloc_new w1 o
          rwa [show w1.heap.size = w.heap.size + 1 from alloc_size _ _] at this
        unfold World.cell?
        rw [this]
        rfl
      · rw [alloc_lt w1 o (by rw [alloc_size]; omega)]
        exact alloc_new w _
    · exact ⟨rfl, by simp [Lk.inR, Lk.kmin], by simp [Lk.inR, Lk.kmax]⟩
  · show [w.heap.size + 1, w.heap.size].Nodup
    simp
  · intro b hb
    have hb : b ∈ [w.heap.size + 1, w.heap.size] := hb
    simp only [List.mem_cons, List.not_mem_nil, or_false] at hb
    refine ⟨.inr (by omega), by rw [hsz]; omega, fun hS => ?_⟩
    have := hs b (.inl hS)
    omega

theorem ok11 (n : Nat) : Lk.FnOk (τ := ax) (Kw := kw) Tryd.prog 11 ⟨[(.a 0, .b)], [(.l .s, .o .r)], 1⟩ (WnG.ext11 n) := by
  intro x res hx w S Sb ads hK hs ha hargs
  obtain ⟨k, u⟩ := x
  unfold WnG.ext11 at hx
  split at hx
  case h_2 => cases hx
  rename_i d hd
  split at hx
  case h_2 => cases hx
  rename_i hf
  simp only [Option.some.injEq] at hx
  subst hx
  obtain ⟨d0, rfl⟩ : ∃ d, ads = [d] := by
    cases ads with
    | nil => simp [Lk.avs] at ha
    | cons d r => cases r with
      | nil => exact ⟨d, rfl⟩
      | cons _ _ => simp [Lk.avs] at ha
  obtain ⟨t, m, x, sh⟩ := d0
  simp only [List.map_cons, List.map_nil, Lk.avs, Lk.DV.av, List.cons.injEq, and_true, Lk.AV.mk.injEq] at ha
  obtain ⟨rfl, rfl, hx⟩ := ha
  obtain rfl := eq_of_heq hx
  have hh := hargs.hold _ (List.mem_singleton_self _)
  obtain ⟨v, bs, e1, _, ho⟩ := hh
  have hd' : x = some d := hd
  subst hd'
  obtain ⟨_, b, mm, c, h2, _, _, _, _, h7, h8⟩ := ho
  obtain rfl : sh.1 = v := by simpa [Lk.cells] using e1
  have hval : (List.map (Lk.DV.val ax) [(⟨.a 0, .b, some d, sh⟩ : Lk.DV)]).toArray = #[.pointer (some ⟨b, 0, none⟩)] := by
    rw [← h2]; rfl
  rw [hval]
  refine (list_any w b mm c h7 h8).mono ?_
  rintro e w' ⟨rfl, hx⟩
  refine ⟨_, rfl, hx, ⟨[⟨.l .s, .o .r, [], ⟨.slice none 0 0, 0, 0, [], 0, (0, 0), []⟩⟩], S, rfl, fun _ h => h, fun _ h => .inl h, fun b hb => ?_, ?_, ?_, ?_, rfl, rfl⟩⟩
  · have := hs b (.inl hb); have := hx.size; omega
  · intro d hd
    obtain rfl : d = _ := List.mem_singleton.1 hd
    exact .inl ⟨rfl, rfl⟩
  · exact List.nodup_nil
  · intro b hb; cases hb
end Go.Proofs.YtdpmeeflhnijkaaDoor

namespace Go.Proofs.YtdpmeeflhnijkaaDoor.writeNobody
open Go.ChangeShapes Go.WideShapes Go.ChangeAt Go.RowKit

theorem own : ownKnob Tryd.prog.godebug = none := by kernel_rfl
theorem env : Lk.EnvOk Tryd.prog WnG.G.toEnv := Lk.env_ok (tys := WnG.tys) (lims := WnG.lims) (cmps := []) (fun _ => rfl) (fun _ => rfl) (fun _ => rfl) (by kernel_rfl) (by kernel_rfl)
theorem names : (WnG.bodies.toList ++ WnG.exts.toList).all (fun p => Lk.nameB p.2) = true := by kernel_rfl
theorem nrs : WnG.bodies.toList.all (Lk.nrB WnG.sigs) = true := by kernel_rfl
theorem funcs : ∀ p ∈ WnG.bodies.toList ++ WnG.exts.toList, Tryd.prog.funcs[p.1]? = some p.2 := by
  intro p hp
  have e : WnG.bodies.toList ++ WnG.exts.toList = [(3, Tryd.f3), (5, Tryd.f5), (6, Tryd.f6), (7, Tryd.f7), (8, Tryd.f8), (9, Tryd.f9), (10, Tryd.f10), (13, Tryd.f13), (4, Tryd.f4), (11, Tryd.f11)] := by kernel_rfl
  rw [e] at hp
  simp only [List.mem_cons, List.not_mem_nil, or_false] at hp
  rcases hp with rfl | rfl | rfl | rfl | rfl | rfl | rfl | rfl | rfl | rfl
  · exact Tryd.func3
  · exact Tryd.func5
  · exact Tryd.func6
  · exact Tryd.func7
  · exact Tryd.func8
  · exact Tryd.func9
  · exact Tryd.func10
  · exact Tryd.func13
  · exact Tryd.func4
  · exact Tryd.func11
theorem exts : ∀ g F n, WnG.G.ext g = some F → Lk.FnOk (τ := ax) (Kw := kw) Tryd.prog g (WnG.G.sig g) (F n) := by
  intro g F n h
  show Lk.FnOk (τ := ax) (Kw := kw) Tryd.prog g ((WnG.sigs.get g).getD ⟨[], [], 0⟩) (F n)
  change WnG.ext g = some F at h
  unfold WnG.ext at h
  split at h
  · cases h; exact ok4 n
  · cases h; exact ok11 n
  · cases h
theorem extb : ∀ g F, WnG.G.ext g = some F → (WnG.exts.get g).isSome = true := by
  intro g F h
  change WnG.ext g = some F at h
  unfold WnG.ext at h
  split at h
  · rfl
  · rfl
  · cases h
theorem prg : Lk.PrgOk kw ax Tryd.prog WnG.G :=
  Lk.prg_ok (bodies := WnG.bodies) (exts := WnG.exts) env (by kernel_rfl) (fun _ _ _ h _ _ _ => h) (fun _ => rfl) extb exts funcs names (by kernel_rfl)

/-- THE PLAIN LAW: what the program's text computes is true, whatever comes in. -/
theorem law (a : Int) : Lk.F WnG.G 100 3 (a, ()) = some (true, ()) := by kernel_rfl

set_option maxRecDepth 100000 in
theorem contract (H : Type) (enc : TypeId × Value → H) (W : World) (base : Nat) (args : Array Value) (ds gs : List (DataW H)) (before : List MemPlace)
    (hval : ∀ (j : Nat) t v, Tryd.f3.params[j]? = some t → args[j]? = some v → Value.okWide Tryd.prog W .any base t v)
    (hW : DataW.Whole enc Tryd.prog Tryd.f3.params.toList Rows.writeNobodySpec.vars false W args.toList ds gs before) :
    Calls Tryd.prog 3 args W fun e W' => ∃ v, e = .returned v ∧ Rows.writeNobodySpec.post enc Tryd.prog Tryd.f3 false true false false W args v W' := by
  have d3 : Lk.Desc Tryd.prog 3 (.i .i64) := Lk.descB_ok _ _ (by kernel_rfl)
  have hfit : Lk.Fits Tryd.prog [(.i .i64, .r)] Tryd.f3.params.toList := by
    rw [Tryd.params3]
    exact ⟨d3, by kernel_rfl, rfl, .inr rfl, rfl, trivial⟩
  have hds : ∃ d1 : DataW H, ds = [d1] ∧ gs = [] := by
    obtain ⟨p, q, hA, hV, _, _, _⟩ := hW
    obtain ⟨rfl, rfl⟩ := trodVars_none hV
    rw [Tryd.params3] at hA
    obtain ⟨v0, vs0, d0, ds0, p0, q0, _, rfl, _, _, r0⟩ := trodAll_cons hA
    obtain ⟨_, rfl, _⟩ := trodAll_nil r0
    exact ⟨d0, rfl, rfl⟩
  obtain ⟨d1, rfl, rfl⟩ := hds
  refine (Lk.law_calls (τ := ax) (fn := Tryd.f3) (Kw := kw) trivial (Nat.zero_le _) hW hval hfit (fun x hx _ => ?_)).mono fun e W' ⟨he, hb⟩ => ⟨_, he, ?_⟩
  · exact ⟨Lk.F WnG.G 100 3, Lk.F_ok prg (Lk.res_le (bodies := WnG.bodies) (exts := WnG.exts) (sigs := WnG.sigs) (fun _ => rfl) (fun _ => rfl) names nrs) _ 3, law x.1⟩
  · refine Lk.post_law hW (by kernel_rfl) ?_ rfl rfl (R := 4) rfl Tryd.underlying4 hb
    intro t ht
    rw [Tryd.params3] at ht
    simp only [List.mem_cons, List.not_mem_nil, or_false] at ht
    rcases ht with rfl
    exact ⟨by kernel_rfl, by decide +kernel⟩

/-- A world for the witness: the tables in it. -/
def laidCells (cs : List Value) : Obj → Obj
  | .cells _ t frozen => .cells cs.toArray t frozen
  | o => o
noncomputable def tabWorld (os : Os) : World :=
  { World.holding Tryd.prog os ⟨#[], #[], []⟩ with heap := (((World.holding Tryd.prog os ⟨#[], #[], []⟩).heap.modify 0 (laidCells ([1, 10, 100, 1000, 10000, 100000, 1000000, 10000000, 100000000, 1000000000, 10000000000, 100000000000, 1000000000000, 10000000000000, 100000000000000, 1000000000000000, 10000000000000000, 100000000000000000, 1000000000000000000, 10000000000000000000].map fun z : Nat => Value.int .u64 (z : Int)))).modify 2 (laidCells ([0, 1, 28, 2, 29, 14, 24, 3, 30, 22, 20, 15, 25, 17, 4, 8, 31, 27, 13, 23, 21, 19, 16, 7, 26, 12, 18, 6, 11, 5, 10, 9].map fun z : Nat => Value.int .u8 (z : Int)))).modify 3 (laidCells ([0, 1, 56, 2, 57, 49, 28, 3, 61, 58, 42, 50, 38, 29, 17, 4, 62, 47, 59, 36, 45, 43, 51, 22, 53, 39, 33, 30, 24, 18, 12, 5, 63, 55, 48, 27, 60, 41, 37, 16, 46, 35, 44, 21, 52, 32, 23, 11, 54, 26, 40, 15, 34, 20, 31, 10, 25, 14, 19, 9, 13, 8, 7, 6].map fun z : Nat => Value.int .u8 (z : Int))) }
def wArgs : Array Value := #[.int .i64 0]
theorem laid_met (os : Os) : laidMet Tryd.prog Rows.writeNobodyRow.laid ((tabWorld os).forCall (fun _ _ => 0) ⟨#[], wArgs, []⟩).memory :=
  laidMet_of_run' 8 (by kernel_rfl) (by kernel_rfl)
theorem reads (os : Os) {H : Type} (enc : TypeId × Value → H) : ∃ places, DataW.whole enc Tryd.prog ((tabWorld os).forCall (fun _ _ => 0) ⟨#[], wArgs, []⟩).memory Tryd.f3.params.toList Rows.writeNobodySpec.vars false wArgs.toList 8 = some ([.lit (.int .i64 0)], [], places) :=
  ⟨[], by kernel_rfl⟩

set_option maxRecDepth 100000 in
theorem lifted (os : Os) (started : os.Started) (H : Type) (enc : TypeId × Value → H) (F : Stop.Interp) :
    ReturnsInHanded {} Tryd.checked os 3 .any ((OpenSpec.ofChange Rows.writeNobodySpec).preRow enc Tryd.prog Tryd.f3 Rows.writeNobodyRow.domain false Rows.writeNobodyRow.laid) (((OpenSpec.ofChange Rows.writeNobodySpec).at F).post enc Tryd.prog Tryd.f3 false true false false) := by
  obtain ⟨places, hx⟩ := reads os enc
  refine returnsInHanded_of_row (C := Tryd.checked) (s := OpenSpec.ofChange Rows.writeNobodySpec) own started (by kernel_rfl) Tryd.func3
    (witness_row_at (enc := enc) (C := Tryd.checked) false (tabWorld os) wArgs rfl (by kernel_rfl) (by kernel_rfl) (by kernel_rfl)
      (OpenSpec.preRow_of_cond 8 hx (by kernel_rfl) (fun k hk => by cases hk) (by kernel_rfl) (laid_met os))) ?_
  intro W base args ds gs before hval hW _ _ _ _ _ _
  exact contract H enc W base args ds gs before hval hW

theorem said : Rows.WriteNobodySaid :=
  OpenClaim.holds_of_cond 3 Tryd.f3 rfl rfl rfl rfl rfl rfl rfl ⟨rfl, rfl, rfl, rfl, rfl⟩ rfl rfl rfl rfl rfl (by kernel_rfl) Tryd.func3 (by kernel_rfl)
    (of_decide_eq_true (by kernel_rfl)) (by unfold Func.isWrapper; first | (rw [if_pos (by decide +kernel)]; kernel_rfl) | (rw [if_neg (by decide +kernel)]; exact ⟨rfl, rfl⟩))
    (fun os started H enc _ F => by rw [OpenClaim.pre_eq_preRow]; exact lifted os started H enc F)

theorem plainN (name : String) (g : FuncId) (fg : Func) (ts : Array TypeId) (hn : Tryd.prog.funcNamed name = some g) (hg : Tryd.prog.funcs[g]? = some fg) (hp : fg.params = ts) (hs : ts.all (fun t => !Tryd.prog.wantsStandIn t) = true) (f : FuncId) (fn : Func) (hf : Tryd.pinned.checked.prog.funcNamed name = some f) (hfn : Tryd.pinned.checked.prog.funcs[f]? = some fn) :
    true = Tryd.pinned.checked.prog.looks [] ∧ ∀ (j : Nat) t, fn.params[j]? = some t → Tryd.pinned.checked.prog.wantsStandIn t = false := by
  obtain rfl : f = g := (Option.some.inj (hn.symm.trans hf)).symm
  obtain rfl : fn = fg := (Option.some.inj (hg.symm.trans hfn)).symm
  refine ⟨by kernel_rfl, fun j t ht => ?_⟩
  rw [hp] at ht
  have hm := Array.mem_of_getElem? ht
  rw [Array.all_eq_true_iff_forall_mem] at hs
  have h1 := hs t hm
  have h2 : (!Tryd.prog.wantsStandIn t) = true := h1
  exact (by simpa using h2 : Tryd.prog.wantsStandIn t = false)

theorem card : Rows.WriteNobodyCardSaid :=
  Claim7.holds_tied_plain_at .later [] _ _ _ _ said (fun _ h => by cases h) (by kernel_rfl) (fun _ h => by cases h) writeNobody_row_tie rfl ⟨rfl, rfl⟩ (by kernel_rfl) rfl (plainN "moraine/morainelaw23.WriteNobody" 3 Tryd.f3 _ (by kernel_rfl) Tryd.func3 Tryd.params3 (by kernel_rfl)) (by kernel_rfl)
end Go.Proofs.YtdpmeeflhnijkaaDoor.writeNobody

