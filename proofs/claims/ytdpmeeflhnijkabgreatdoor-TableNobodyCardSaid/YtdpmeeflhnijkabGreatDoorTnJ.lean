/- Builders and tables that no call gave: every call of nil ones and of empty structs answers as the document says, whatever comes in. Conditions: the given card's own. -/
import Derived.Test.YtdpmeeflhnijkabGreatDoorProg
import Derived.Test.YtdpmeeflhnijkabGreatDoorLkThree
import Derived.Test.YtdpmeeflhnijkabGreatDoorCards
import Derived.Test.YtdpmeeflhnijkabGreatDoorTie
import Derived.WalkKit
import Derived.ProofKit
import Derived.OpenShut
import Derived.Deep.DeepHandedRow
import Derived.Lib.LaidTab
set_option linter.all false
namespace TnG
open Go Lk
noncomputable def tys : BT (Ty × Md) := (.node (.node (.node (.node (.node (.node (.node (.node .leaf 1 (.z .fn, .r) .leaf) 2 (.i .i64, .r) .leaf) 3 (.i .i64, .r) (.node .leaf 4 (.b, .r) .leaf)) 5 (.by, .r) (.node (.node .leaf 6 (.by, .r) .leaf) 7 (.c (.i .i64) (.c (.i .i64) (.c (.b) (.c (.by) (.u)))), (.q .r (.q .r (.q .r (.q .r .r))))) (.node .leaf 8 (.c (.i .i64) (.c (.i .i64) (.c (.b) (.c (.by) (.u)))), (.q .r (.q .r (.q .r (.q .r .r))))) .leaf))) 9 (.s, .r) (.node (.node (.node (.node .leaf 10 (.s, .r) .leaf) 11 (.s, .r) .leaf) 12 (.i .u64, .r) (.node .leaf 13 (.c (.s) (.c (.i .u64) (.u)), (.q .r (.q .r .r))) .leaf)) 14 (.c (.s) (.c (.i .u64) (.u)), (.q .r (.q .r .r))) (.node (.node .leaf 15 (.z .pt, .r) .leaf) 16 (.z .pt, .r) (.node .leaf 17 (.z .pt, .r) .leaf)))) 18 (.c (.z .pt) (.u), (.q .r .r)) (.node (.node (.node (.node (.node .leaf 19 (.c (.z .pt) (.u), (.q .r .r)) .leaf) 20 (.e, .r) .leaf) 21 (.i .i32, .r) (.node .leaf 22 (.i .u64, .r) .leaf)) 23 (.c (.s) (.c (.i .u64) (.c (.i .i64) (.c (.s) (.u)))), (.q .r (.q .r (.q .r (.q .r .r))))) (.node (.node .leaf 24 (.c (.s) (.c (.i .u64) (.c (.i .i64) (.c (.s) (.u)))), (.q .r (.q .r (.q .r (.q .r .r))))) .leaf) 25 (.c (.s) (.c (.s) (.c (.i .u64) (.u))), (.q .r (.q .r (.q .r .r)))) (.node .leaf 26 (.c (.s) (.c (.s) (.c (.i .u64) (.u))), (.q .r (.q .r (.q .r .r)))) .leaf))) 27 (.c (.b) (.c (.b) (.c (.c (.s) (.c (.i .u64) (.c (.i .i64) (.c (.s) (.u))))) (.c (.c (.s) (.c (.s) (.c (.i .u64) (.u)))) (.u)))), (.q .r (.q .r (.q (.q .r (.q .r (.q .r (.q .r .r)))) (.q (.q .r (.q .r (.q .r .r))) .r))))) (.node (.node (.node .leaf 28 (.c (.b) (.c (.b) (.c (.c (.s) (.c (.i .u64) (.c (.i .i64) (.c (.s) (.u))))) (.c (.c (.s) (.c (.s) (.c (.i .u64) (.u)))) (.u)))), (.q .r (.q .r (.q (.q .r (.q .r (.q .r (.q .r .r)))) (.q (.q .r (.q .r (.q .r .r))) .r))))) .leaf) 29 (.c (.s) (.c (.i .u64) (.c (.i .i64) (.u))), (.q .r (.q .r (.q .r .r)))) (.node .leaf 30 (.c (.s) (.c (.i .u64) (.c (.i .i64) (.u))), (.q .r (.q .r (.q .r .r)))) .leaf)) 31 (.p (.c (.c (.i .i64) (.c (.i .i64) (.c (.i .i64) (.u)))) (.c (.l (.c (.s) (.c (.i .u64) (.c (.i .i64) (.c (.s) (.u)))))) (.c (.l (.c (.s) (.c (.s) (.c (.i .u64) (.u))))) (.c (.z .mp) (.c (.l (.by)) (.c (.c (.i .i64) (.c (.i .i64) (.c (.s) (.c (.s) (.c (.i .u64) (.c (.i .u64) (.u))))))) (.c (.b) (.c (.b) (.u))))))))), (.o (.q (.q .r (.q .r (.q .r .r))) (.q (.o (.q .r (.q .r (.q .r (.q .r .r))))) (.q (.o (.q .r (.q .r (.q .r .r)))) (.q .r (.q (.o .r) (.q (.q .r (.q .r (.q .r (.q .r (.q .r (.q .r .r)))))) (.q .r (.q .r .r)))))))))) (.node (.node .leaf 32 (.c (.i .i64) (.c (.i .i64) (.c (.i .i64) (.u))), (.q .r (.q .r (.q .r .r)))) .leaf) 33 (.c (.i .i64) (.c (.i .i64) (.c (.i .i64) (.u))), (.q .r (.q .r (.q .r .r)))) (.node .leaf 34 (.l (.c (.s) (.c (.i .u64) (.c (.i .i64) (.c (.s) (.u))))), (.o (.q .r (.q .r (.q .r (.q .r .r)))))) .leaf))))) 35 (.l (.c (.s) (.c (.s) (.c (.i .u64) (.u)))), (.o (.q .r (.q .r (.q .r .r))))) (.node (.node (.node (.node (.node (.node .leaf 36 (.z .mp, .r) .leaf) 37 (.l (.by), (.o .r)) .leaf) 38 (.c (.i .i64) (.c (.i .i64) (.c (.s) (.c (.s) (.c (.i .u64) (.c (.i .u64) (.u)))))), (.q .r (.q .r (.q .r (.q .r (.q .r (.q .r .r))))))) (.node .leaf 39 (.c (.i .i64) (.c (.i .i64) (.c (.s) (.c (.s) (.c (.i .u64) (.c (.i .u64) (.u)))))), (.q .r (.q .r (.q .r (.q .r (.q .r (.q .r .r))))))) .leaf)) 40 (.c (.c (.i .i64) (.c (.i .i64) (.c (.i .i64) (.u)))) (.c (.l (.c (.s) (.c (.i .u64) (.c (.i .i64) (.c (.s) (.u)))))) (.c (.l (.c (.s) (.c (.s) (.c (.i .u64) (.u))))) (.c (.z .mp) (.c (.l (.by)) (.c (.c (.i .i64) (.c (.i .i64) (.c (.s) (.c (.s) (.c (.i .u64) (.c (.i .u64) (.u))))))) (.c (.b) (.c (.b) (.u)))))))), (.q (.q .r (.q .r (.q .r .r))) (.q (.o (.q .r (.q .r (.q .r (.q .r .r))))) (.q (.o (.q .r (.q .r (.q .r .r)))) (.q .r (.q (.o .r) (.q (.q .r (.q .r (.q .r (.q .r (.q .r (.q .r .r)))))) (.q .r (.q .r .r))))))))) (.node (.node .leaf 41 (.c (.c (.i .i64) (.c (.i .i64) (.c (.i .i64) (.u)))) (.c (.l (.c (.s) (.c (.i .u64) (.c (.i .i64) (.c (.s) (.u)))))) (.c (.l (.c (.s) (.c (.s) (.c (.i .u64) (.u))))) (.c (.z .mp) (.c (.l (.by)) (.c (.c (.i .i64) (.c (.i .i64) (.c (.s) (.c (.s) (.c (.i .u64) (.c (.i .u64) (.u))))))) (.c (.b) (.c (.b) (.u)))))))), (.q (.q .r (.q .r (.q .r .r))) (.q (.o (.q .r (.q .r (.q .r (.q .r .r))))) (.q (.o (.q .r (.q .r (.q .r .r)))) (.q .r (.q (.o .r) (.q (.q .r (.q .r (.q .r (.q .r (.q .r (.q .r .r)))))) (.q .r (.q .r .r))))))))) .leaf) 42 (.l (.p (.c (.c (.i .i64) (.c (.i .i64) (.c (.i .i64) (.u)))) (.c (.l (.c (.s) (.c (.i .u64) (.c (.i .i64) (.c (.s) (.u)))))) (.c (.l (.c (.s) (.c (.s) (.c (.i .u64) (.u))))) (.c (.z .mp) (.c (.l (.by)) (.c (.c (.i .i64) (.c (.i .i64) (.c (.s) (.c (.s) (.c (.i .u64) (.c (.i .u64) (.u))))))) (.c (.b) (.c (.b) (.u)))))))))), (.o (.o (.q (.q .r (.q .r (.q .r .r))) (.q (.o (.q .r (.q .r (.q .r (.q .r .r))))) (.q (.o (.q .r (.q .r (.q .r .r)))) (.q .r (.q (.o .r) (.q (.q .r (.q .r (.q .r (.q .r (.q .r (.q .r .r)))))) (.q .r (.q .r .r))))))))))) (.node .leaf 44 (.z .fn, .r) .leaf))) 45 (.i .i64, .r) (.node (.node (.node .leaf 47 (.z .fn, .r) .leaf) 48 (.z .fn, .r) (.node .leaf 49 (.z .fn, .r) .leaf)) 50 (.p (.c (.l (.by)) (.c (.l (.c (.s) (.c (.i .u64) (.c (.i .i64) (.u))))) (.c (.l (.c (.i .i64) (.c (.i .i64) (.u)))) (.c (.l (.by)) (.c (.l (.c (.s) (.c (.s) (.c (.i .u64) (.u))))) (.c (.b) (.u))))))), (.o (.q (.o .r) (.q (.o (.q .r (.q .r (.q .r .r)))) (.q (.o (.q .r (.q .r .r))) (.q (.o .r) (.q (.o (.q .r (.q .r (.q .r .r)))) (.q .r .r)))))))) (.node (.node .leaf 51 (.l (.c (.s) (.c (.i .u64) (.c (.i .i64) (.u)))), (.o (.q .r (.q .r (.q .r .r))))) .leaf) 52 (.l (.c (.i .i64) (.c (.i .i64) (.u))), (.o (.q .r (.q .r .r)))) (.node .leaf 53 (.c (.l (.by)) (.c (.l (.c (.s) (.c (.i .u64) (.c (.i .i64) (.u))))) (.c (.l (.c (.i .i64) (.c (.i .i64) (.u)))) (.c (.l (.by)) (.c (.l (.c (.s) (.c (.s) (.c (.i .u64) (.u))))) (.c (.b) (.u)))))), (.q (.o .r) (.q (.o (.q .r (.q .r (.q .r .r)))) (.q (.o (.q .r (.q .r .r))) (.q (.o .r) (.q (.o (.q .r (.q .r (.q .r .r)))) (.q .r .r))))))) .leaf)))) 54 (.c (.l (.by)) (.c (.l (.c (.s) (.c (.i .u64) (.c (.i .i64) (.u))))) (.c (.l (.c (.i .i64) (.c (.i .i64) (.u)))) (.c (.l (.by)) (.c (.l (.c (.s) (.c (.s) (.c (.i .u64) (.u))))) (.c (.b) (.u)))))), (.q (.o .r) (.q (.o (.q .r (.q .r (.q .r .r)))) (.q (.o (.q .r (.q .r .r))) (.q (.o .r) (.q (.o (.q .r (.q .r (.q .r .r)))) (.q .r .r))))))) (.node (.node (.node (.node (.node .leaf 55 (.l (.p (.c (.l (.by)) (.c (.l (.c (.s) (.c (.i .u64) (.c (.i .i64) (.u))))) (.c (.l (.c (.i .i64) (.c (.i .i64) (.u)))) (.c (.l (.by)) (.c (.l (.c (.s) (.c (.s) (.c (.i .u64) (.u))))) (.c (.b) (.u)))))))), (.o (.o (.q (.o .r) (.q (.o (.q .r (.q .r (.q .r .r)))) (.q (.o (.q .r (.q .r .r))) (.q (.o .r) (.q (.o (.q .r (.q .r (.q .r .r)))) (.q .r .r))))))))) .leaf) 57 (.z .fn, .r) .leaf) 59 (.z .fn, .r) (.node .leaf 60 (.z .fn, .r) .leaf)) 61 (.z .fn, .r) (.node (.node .leaf 62 (.c (.s) (.c (.i .u64) (.c (.i .i64) (.u))), (.q .r (.q .r (.q .r .r)))) .leaf) 63 (.c (.s) (.c (.i .u64) (.c (.i .i64) (.u))), (.q .r (.q .r (.q .r .r)))) (.node .leaf 64 (.z .fn, .r) .leaf))) 65 (.z .fn, .r) (.node (.node (.node .leaf 66 (.z .fn, .r) .leaf) 67 (.z .fn, .r) (.node .leaf 68 (.z .fn, .r) .leaf)) 69 (.z .fn, .r) (.node (.node .leaf 70 (.z .fn, .r) .leaf) 71 (.z .fn, .r) (.node .leaf 72 (.z .fn, .r) .leaf)))))) 73 (.z .fn, .r) (.node (.node (.node (.node (.node (.node (.node .leaf 74 (.z .fn, .r) .leaf) 75 (.c (.s) (.c (.i .u64) (.u)), (.q .r (.q .r .r))) .leaf) 76 (.c (.s) (.c (.i .u64) (.u)), (.q .r (.q .r .r))) (.node .leaf 78 (.z .fn, .r) .leaf)) 79 (.c (.i .i64) (.c (.i .i64) (.u)), (.q .r (.q .r .r))) (.node (.node .leaf 80 (.c (.i .i64) (.c (.i .i64) (.u)), (.q .r (.q .r .r))) .leaf) 81 (.z .fn, .r) (.node .leaf 82 (.z .pt, .r) .leaf))) 84 (.z .fn, .r) (.node (.node (.node .leaf 85 (.z .fn, .r) .leaf) 87 (.z .fn, .r) (.node .leaf 89 (.z .fn, .r) .leaf)) 90 (.z .fn, .r) (.node (.node .leaf 91 (.z .fn, .r) .leaf) 92 (.z .fn, .r) (.node .leaf 93 (.i .u32, .r) .leaf)))) 94 (.z .fn, .r) (.node (.node (.node (.node (.node .leaf 95 (.z .fn, .r) .leaf) 96 (.z .fn, .r) .leaf) 97 (.z .pt, .r) (.node .leaf 99 (.z .fn, .r) .leaf)) 100 (.z .fn, .r) (.node (.node .leaf 101 (.z .fn, .r) .leaf) 102 (.z .fn, .r) (.node .leaf 103 (.z .fn, .r) .leaf))) 105 (.z .fn, .r) (.node (.node (.node .leaf 106 (.z .fn, .r) .leaf) 107 (.z .fn, .r) (.node .leaf 108 (.z .fn, .r) .leaf)) 109 (.z .fn, .r) (.node (.node .leaf 110 (.z .fn, .r) .leaf) 112 (.z .fn, .r) (.node .leaf 113 (.z .fn, .r) .leaf))))) 114 (.z .pt, .r) (.node (.node (.node (.node (.node (.node .leaf 115 (.l (.c (.c (.s) (.c (.i .u64) (.c (.i .i64) (.u)))) (.c (.s) (.u))), (.o (.q (.q .r (.q .r (.q .r .r))) (.q .r .r)))) .leaf) 116 (.l (.i .i64), (.o .r)) .leaf) 117 (.c (.l (.by)) (.c (.i .i64) (.c (.l (.by)) (.c (.l (.c (.c (.s) (.c (.i .u64) (.c (.i .i64) (.u)))) (.c (.s) (.u)))) (.c (.l (.i .i64)) (.u))))), (.q (.o .r) (.q .r (.q (.o .r) (.q (.o (.q (.q .r (.q .r (.q .r .r))) (.q .r .r))) (.q (.o .r) .r)))))) (.node .leaf 118 (.c (.l (.by)) (.c (.i .i64) (.c (.l (.by)) (.c (.l (.c (.c (.s) (.c (.i .u64) (.c (.i .i64) (.u)))) (.c (.s) (.u)))) (.c (.l (.i .i64)) (.u))))), (.q (.o .r) (.q .r (.q (.o .r) (.q (.o (.q (.q .r (.q .r (.q .r .r))) (.q .r .r))) (.q (.o .r) .r)))))) .leaf)) 119 (.z .fn, .r) (.node (.node .leaf 120 (.c (.l (.c (.c (.s) (.c (.i .u64) (.c (.i .i64) (.u)))) (.c (.s) (.u)))) (.c (.i .i64) (.c (.b) (.u))), (.q (.o (.q (.q .r (.q .r (.q .r .r))) (.q .r .r))) (.q .r (.q .r .r)))) .leaf) 121 (.c (.l (.c (.c (.s) (.c (.i .u64) (.c (.i .i64) (.u)))) (.c (.s) (.u)))) (.c (.i .i64) (.c (.b) (.u))), (.q (.o (.q (.q .r (.q .r (.q .r .r))) (.q .r .r))) (.q .r (.q .r .r)))) (.node .leaf 122 (.z .fn, .r) .leaf))) 123 (.c (.c (.s) (.c (.i .u64) (.c (.i .i64) (.u)))) (.c (.s) (.u)), (.q (.q .r (.q .r (.q .r .r))) (.q .r .r))) (.node (.node (.node .leaf 124 (.c (.c (.s) (.c (.i .u64) (.c (.i .i64) (.u)))) (.c (.s) (.u)), (.q (.q .r (.q .r (.q .r .r))) (.q .r .r))) .leaf) 125 (.z .fn, .r) (.node .leaf 126 (.z .fn, .r) .leaf)) 127 (.i .u64, .r) (.node (.node .leaf 128 (.z .fn, .r) .leaf) 129 (.z .fn, .r) (.node .leaf 130 (.z .fn, .r) .leaf)))) 131 (.z .fn, .r) (.node (.node (.node (.node (.node .leaf 132 (.z .fn, .r) .leaf) 133 (.c (.i .i64) (.c (.i .i64) (.c (.i .i64) (.c (.c (.s) (.c (.i .u64) (.c (.i .i64) (.u)))) (.c (.l (.by)) (.c (.l (.by)) (.c (.l (.i .i64)) (.u))))))), (.q .r (.q .r (.q .r (.q (.q .r (.q .r (.q .r .r))) (.q (.o .r) (.q (.o .r) (.q (.o .r) .r)))))))) .leaf) 134 (.c (.i .i64) (.c (.i .i64) (.c (.i .i64) (.c (.c (.s) (.c (.i .u64) (.c (.i .i64) (.u)))) (.c (.l (.by)) (.c (.l (.by)) (.c (.l (.i .i64)) (.u))))))), (.q .r (.q .r (.q .r (.q (.q .r (.q .r (.q .r .r))) (.q (.o .r) (.q (.o .r) (.q (.o .r) .r)))))))) (.node .leaf 135 (.z .fn, .r) .leaf)) 136 (.z .fn, .r) (.node (.node .leaf 137 (.z .fn, .r) .leaf) 139 (.z .fn, .r) (.node .leaf 140 (.z .fn, .r) .leaf))) 141 (.l (.s), (.o .r)) (.node (.node (.node .leaf 142 (.z .fn, .r) .leaf) 143 (.z .fn, .r) (.node .leaf 144 (.z .fn, .r) .leaf)) 145 (.z .fn, .r) (.node (.node .leaf 147 (.z .fn, .r) .leaf) 148 (.u, .r) (.node .leaf 149 (.u, .r) .leaf)))))))
noncomputable def sigs : BT Sig := (.node (.node (.node (.node .leaf 3 ⟨[(.c (.b) (.c (.b) (.c (.c (.s) (.c (.i .u64) (.c (.i .i64) (.c (.s) (.u))))) (.c (.c (.s) (.c (.s) (.c (.i .u64) (.u)))) (.u)))), .r), (.c (.s) (.c (.i .u64) (.c (.i .i64) (.u))), .r)], [(.b, .r)], 1⟩ .leaf) 4 ⟨[(.p (.c (.c (.i .i64) (.c (.i .i64) (.c (.i .i64) (.u)))) (.c (.l (.c (.s) (.c (.i .u64) (.c (.i .i64) (.c (.s) (.u)))))) (.c (.l (.c (.s) (.c (.s) (.c (.i .u64) (.u))))) (.c (.z .mp) (.c (.l (.by)) (.c (.c (.i .i64) (.c (.i .i64) (.c (.s) (.c (.s) (.c (.i .u64) (.c (.i .u64) (.u))))))) (.c (.b) (.c (.b) (.u))))))))), .b)], [(.i .i64, .r), (.i .i64, .r)], 2⟩ (.node .leaf 5 ⟨[(.p (.c (.c (.i .i64) (.c (.i .i64) (.c (.i .i64) (.u)))) (.c (.l (.c (.s) (.c (.i .u64) (.c (.i .i64) (.c (.s) (.u)))))) (.c (.l (.c (.s) (.c (.s) (.c (.i .u64) (.u))))) (.c (.z .mp) (.c (.l (.by)) (.c (.c (.i .i64) (.c (.i .i64) (.c (.s) (.c (.s) (.c (.i .u64) (.c (.i .u64) (.u))))))) (.c (.b) (.c (.b) (.u))))))))), .b)], [(.l (.by), (.o .r)), (.c (.i .i64) (.c (.i .i64) (.c (.s) (.c (.s) (.c (.i .u64) (.c (.i .u64) (.u)))))), (.q .r (.q .r (.q .r (.q .r (.q .r (.q .r .r))))))), (.i .i64, .r)], 3⟩ .leaf)) 6 ⟨[(.p (.c (.c (.i .i64) (.c (.i .i64) (.c (.i .i64) (.u)))) (.c (.l (.c (.s) (.c (.i .u64) (.c (.i .i64) (.c (.s) (.u)))))) (.c (.l (.c (.s) (.c (.s) (.c (.i .u64) (.u))))) (.c (.z .mp) (.c (.l (.by)) (.c (.c (.i .i64) (.c (.i .i64) (.c (.s) (.c (.s) (.c (.i .u64) (.c (.i .u64) (.u))))))) (.c (.b) (.c (.b) (.u))))))))), .b), (.c (.s) (.c (.i .u64) (.c (.i .i64) (.c (.s) (.u)))), .r)], [(.i .i64, .r)], 1⟩ (.node (.node .leaf 7 ⟨[(.p (.c (.c (.i .i64) (.c (.i .i64) (.c (.i .i64) (.u)))) (.c (.l (.c (.s) (.c (.i .u64) (.c (.i .i64) (.c (.s) (.u)))))) (.c (.l (.c (.s) (.c (.s) (.c (.i .u64) (.u))))) (.c (.z .mp) (.c (.l (.by)) (.c (.c (.i .i64) (.c (.i .i64) (.c (.s) (.c (.s) (.c (.i .u64) (.c (.i .u64) (.u))))))) (.c (.b) (.c (.b) (.u))))))))), .b), (.c (.s) (.c (.s) (.c (.i .u64) (.u))), .r)], [(.i .i64, .r)], 1⟩ .leaf) 8 ⟨[(.p (.c (.l (.by)) (.c (.l (.c (.s) (.c (.i .u64) (.c (.i .i64) (.u))))) (.c (.l (.c (.i .i64) (.c (.i .i64) (.u)))) (.c (.l (.by)) (.c (.l (.c (.s) (.c (.s) (.c (.i .u64) (.u))))) (.c (.b) (.u))))))), .b), (.i .i64, .r)], [(.l (.by), (.o .r)), (.i .i64, .r)], 2⟩ .leaf)) 9 ⟨[(.p (.c (.l (.by)) (.c (.l (.c (.s) (.c (.i .u64) (.c (.i .i64) (.u))))) (.c (.l (.c (.i .i64) (.c (.i .i64) (.u)))) (.c (.l (.by)) (.c (.l (.c (.s) (.c (.s) (.c (.i .u64) (.u))))) (.c (.b) (.u))))))), .b), (.s, .r), (.i .u64, .r)], [(.c (.s) (.c (.i .u64) (.c (.i .i64) (.c (.s) (.u)))), (.q .r (.q .r (.q .r (.q .r .r))))), (.b, .r), (.i .i64, .r)], 3⟩ (.node (.node (.node .leaf 10 ⟨[(.p (.c (.l (.by)) (.c (.l (.c (.s) (.c (.i .u64) (.c (.i .i64) (.u))))) (.c (.l (.c (.i .i64) (.c (.i .i64) (.u)))) (.c (.l (.by)) (.c (.l (.c (.s) (.c (.s) (.c (.i .u64) (.u))))) (.c (.b) (.u))))))), .b)], [(.i .i64, .r)], 1⟩ .leaf) 11 ⟨[(.p (.c (.l (.by)) (.c (.l (.c (.s) (.c (.i .u64) (.c (.i .i64) (.u))))) (.c (.l (.c (.i .i64) (.c (.i .i64) (.u)))) (.c (.l (.by)) (.c (.l (.c (.s) (.c (.s) (.c (.i .u64) (.u))))) (.c (.b) (.u))))))), .b), (.c (.s) (.c (.i .u64) (.c (.i .i64) (.u))), .r)], [(.i .i64, .r)], 1⟩ (.node .leaf 12 ⟨[(.p (.c (.l (.by)) (.c (.l (.c (.s) (.c (.i .u64) (.c (.i .i64) (.u))))) (.c (.l (.c (.i .i64) (.c (.i .i64) (.u)))) (.c (.l (.by)) (.c (.l (.c (.s) (.c (.s) (.c (.i .u64) (.u))))) (.c (.b) (.u))))))), .b), (.s, .r)], [(.b, .r)], 1⟩ .leaf)) 13 ⟨[(.p (.c (.l (.by)) (.c (.l (.c (.s) (.c (.i .u64) (.c (.i .i64) (.u))))) (.c (.l (.c (.i .i64) (.c (.i .i64) (.u)))) (.c (.l (.by)) (.c (.l (.c (.s) (.c (.s) (.c (.i .u64) (.u))))) (.c (.b) (.u))))))), .b)], [(.l (.c (.s) (.c (.s) (.c (.i .u64) (.u)))), (.o (.q .r (.q .r (.q .r .r)))))], 1⟩ (.node (.node .leaf 14 ⟨[(.p (.c (.c (.i .i64) (.c (.i .i64) (.c (.i .i64) (.u)))) (.c (.l (.c (.s) (.c (.i .u64) (.c (.i .i64) (.c (.s) (.u)))))) (.c (.l (.c (.s) (.c (.s) (.c (.i .u64) (.u))))) (.c (.z .mp) (.c (.l (.by)) (.c (.c (.i .i64) (.c (.i .i64) (.c (.s) (.c (.s) (.c (.i .u64) (.c (.i .u64) (.u))))))) (.c (.b) (.c (.b) (.u))))))))), .b)], [(.b, .r)], 1⟩ .leaf) 22 ⟨[(.p (.c (.l (.by)) (.c (.l (.c (.s) (.c (.i .u64) (.c (.i .i64) (.u))))) (.c (.l (.c (.i .i64) (.c (.i .i64) (.u)))) (.c (.l (.by)) (.c (.l (.c (.s) (.c (.s) (.c (.i .u64) (.u))))) (.c (.b) (.u))))))), .b)], [(.b, .r)], 1⟩ .leaf)))
noncomputable def bodies : BT Func := (.node (.node (.node (.node .leaf 3 Go.Proofs.Tryz.f3 .leaf) 4 Go.Proofs.Tryz.f4 (.node .leaf 5 Go.Proofs.Tryz.f5 .leaf)) 6 Go.Proofs.Tryz.f6 (.node (.node .leaf 7 Go.Proofs.Tryz.f7 .leaf) 8 Go.Proofs.Tryz.f8 .leaf)) 9 Go.Proofs.Tryz.f9 (.node (.node (.node .leaf 10 Go.Proofs.Tryz.f10 .leaf) 11 Go.Proofs.Tryz.f11 (.node .leaf 12 Go.Proofs.Tryz.f12 .leaf)) 13 Go.Proofs.Tryz.f13 (.node (.node .leaf 14 Go.Proofs.Tryz.f14 .leaf) 22 Go.Proofs.Tryz.f22 .leaf)))
noncomputable def exts : BT Func := .leaf
noncomputable def lives : BT (List Nat) := (.node (.node (.node (.node .leaf 12290 [2, 3, 21, 22, 23] .leaf) 12296 [2, 3, 21, 22, 23] (.node .leaf 12298 [3, 75, 76, 77] .leaf)) 12304 [3, 75, 76, 77] (.node (.node .leaf 14343 [2, 3, 21, 22, 23, 71] .leaf) 14351 [3, 75, 76, 77, 141] (.node .leaf 20489 [0, 3, 39] .leaf))) 24586 [0, 3] (.node (.node (.node .leaf 26633 [0, 3, 39] .leaf) 32773 [0, 1] (.node .leaf 34820 [0, 1, 11] .leaf)) 36871 [0, 1, 6, 9, 10, 24] (.node (.node .leaf 36881 [1, 6, 14, 15, 24] .leaf) 38918 [0, 1, 6, 9, 10, 24, 38] (.node .leaf 38928 [1, 6, 14, 15, 24, 74] .leaf))))
noncomputable def lims : BT Nat := .leaf
noncomputable def G : Prg where
  ty T := tys.get T
  lim T := (lims.get T).getD 0
  cmp T := memb [24, 39] T
  sig g := (sigs.get g).getD ⟨[], [], 0⟩
  body g := bodies.get g
  ext g := none
  live g r := lives.get (Nat.add (Nat.mul g 4096) r)
end TnG

namespace Go.Proofs.YtdpmeeflhnijkabGreatDoor.tableNobody
open Go.ChangeShapes Go.WideShapes Go.ChangeAt Go.RowKit

theorem own : ownKnob Tryz.prog.godebug = none := by kernel_rfl
def kw : Lk.KW := ⟨fun _ => True, 0⟩
def ax : Lk.Ax := ⟨fun _ _ _ _ _ => False, fun h => h.elim, fun h => h.elim, fun h => h.elim⟩
theorem env : Lk.EnvOk Tryz.prog TnG.G.toEnv := Lk.env_ok (tys := TnG.tys) (lims := TnG.lims) (cmps := [24, 39]) (fun _ => rfl) (fun _ => rfl) (fun _ => rfl) (by kernel_rfl) (by kernel_rfl)
theorem names : (TnG.bodies.toList ++ TnG.exts.toList).all (fun p => Lk.nameB p.2) = true := by kernel_rfl
theorem nrs : TnG.bodies.toList.all (Lk.nrB TnG.sigs) = true := by kernel_rfl
theorem funcs : ∀ p ∈ TnG.bodies.toList ++ TnG.exts.toList, Tryz.prog.funcs[p.1]? = some p.2 := by
  intro p hp
  have e : TnG.bodies.toList ++ TnG.exts.toList = [(3, Tryz.f3), (4, Tryz.f4), (5, Tryz.f5), (6, Tryz.f6), (7, Tryz.f7), (8, Tryz.f8), (9, Tryz.f9), (10, Tryz.f10), (11, Tryz.f11), (12, Tryz.f12), (13, Tryz.f13), (14, Tryz.f14), (22, Tryz.f22)] := by kernel_rfl
  rw [e] at hp
  simp only [List.mem_cons, List.not_mem_nil, or_false] at hp
  rcases hp with rfl | rfl | rfl | rfl | rfl | rfl | rfl | rfl | rfl | rfl | rfl | rfl | rfl
  · exact Tryz.func3
  · exact Tryz.func4
  · exact Tryz.func5
  · exact Tryz.func6
  · exact Tryz.func7
  · exact Tryz.func8
  · exact Tryz.func9
  · exact Tryz.func10
  · exact Tryz.func11
  · exact Tryz.func12
  · exact Tryz.func13
  · exact Tryz.func14
  · exact Tryz.func22
theorem prg : Lk.PrgOk kw ax Tryz.prog TnG.G :=
  Lk.prg_ok (bodies := TnG.bodies) (exts := TnG.exts) env (by kernel_rfl) (fun _ _ _ h _ _ _ => h) (fun _ => rfl) (fun g F h => by cases h) (fun g F n h => by cases h) funcs names (by kernel_rfl)

/-- THE PLAIN LAW: what the program's text computes is true, whatever comes in. -/
theorem law (a : Lk.E (.c .b (.c .b (.c (.c .s (.c (.i .u64) (.c (.i .i64) (.c .s .u)))) (.c (.c .s (.c .s (.c (.i .u64) .u))) .u))))) (q : Lk.E (.c .s (.c (.i .u64) (.c (.i .i64) .u)))) :
    Lk.F TnG.G 100 3 (a, q, ()) = some (true, ()) := by kernel_rfl

set_option maxRecDepth 100000 in
theorem contract (H : Type) (enc : TypeId × Value → H) (W : World) (base : Nat) (args : Array Value) (ds gs : List (DataW H)) (before : List MemPlace)
    (hval : ∀ (j : Nat) t v, Tryz.f3.params[j]? = some t → args[j]? = some v → Value.okWide Tryz.prog W .any base t v)
    (hW : DataW.Whole enc Tryz.prog Tryz.f3.params.toList Rows.tableNobodySpec.vars false W args.toList ds gs before) :
    Calls Tryz.prog 3 args W fun e W' => ∃ v, e = .returned v ∧ Rows.tableNobodySpec.post enc Tryz.prog Tryz.f3 false true false false W args v W' := by
  have d28 : Lk.Desc Tryz.prog 28 (.c .b (.c .b (.c (.c .s (.c (.i .u64) (.c (.i .i64) (.c .s .u)))) (.c (.c .s (.c .s (.c (.i .u64) .u))) .u)))) := Lk.descB_ok _ _ (by kernel_rfl)
  have d30 : Lk.Desc Tryz.prog 30 (.c .s (.c (.i .u64) (.c (.i .i64) .u))) := Lk.descB_ok _ _ (by kernel_rfl)
  have hfit : Lk.Fits Tryz.prog [(.c .b (.c .b (.c (.c .s (.c (.i .u64) (.c (.i .i64) (.c .s .u)))) (.c (.c .s (.c .s (.c (.i .u64) .u))) .u))), .r), (.c .s (.c (.i .u64) (.c (.i .i64) .u)), .r)] Tryz.f3.params.toList := by
    rw [Tryz.params3]
    exact ⟨d28, by kernel_rfl, rfl, .inr rfl, rfl, d30, by kernel_rfl, rfl, .inr rfl, rfl, trivial⟩
  have hds : ∃ d1 d2 : DataW H, ds = [d1, d2] ∧ gs = [] := by
    obtain ⟨p, q, hA, hV, _, _, _⟩ := hW
    obtain ⟨rfl, rfl⟩ := trodVars_none hV
    rw [Tryz.params3] at hA
    obtain ⟨v0, vs0, d0, ds0, p0, q0, _, rfl, _, _, r0⟩ := trodAll_cons hA
    obtain ⟨v1, vs1, d1, ds1, p1, q1, _, rfl, _, _, r1⟩ := trodAll_cons r0
    obtain ⟨_, rfl, _⟩ := trodAll_nil r1
    exact ⟨d0, d1, rfl, rfl⟩
  obtain ⟨d1, d2, rfl, rfl⟩ := hds
  refine (Lk.law_calls (τ := ax) (fn := Tryz.f3) (Kw := kw) trivial (Nat.zero_le _) hW hval hfit (fun x hx _ => ?_)).mono fun e W' ⟨he, hb⟩ => ⟨_, he, ?_⟩
  · exact ⟨Lk.F TnG.G 100 3, Lk.F_ok prg (Lk.res_le (bodies := TnG.bodies) (exts := TnG.exts) (sigs := TnG.sigs) (fun _ => rfl) (fun _ => rfl) names nrs) _ 3, law x.1 x.2.1⟩
  · refine Lk.post_law hW (by kernel_rfl) ?_ rfl rfl (R := 4) rfl Tryz.underlying4 hb
    intro t ht
    rw [Tryz.params3] at ht
    simp only [List.mem_cons, List.not_mem_nil, or_false] at ht
    rcases ht with rfl | rfl <;> exact ⟨by kernel_rfl, by decide +kernel⟩

/-- A world for the witness: the table in it. -/
def laidCells (cs : List Value) : Obj → Obj
  | .cells _ t frozen => .cells cs.toArray t frozen
  | o => o
noncomputable def tabWorld (os : Os) : World :=
  { World.holding Tryz.prog os ⟨#[], #[], []⟩ with heap := (World.holding Tryz.prog os ⟨#[], #[], []⟩).heap.modify 1 (laidCells ([0, 274646895, 549293790, 820201905, 1098587580, 1361435347, 1640403810, 1905808397, 2197175160, 2460548119, 2722870694, 2987750089, 3280807620, 3553878443, 3811616794, 4084100981].map fun z : Nat => Value.int .u32 (z : Int))) }
def wArgs : Array Value := #[.agg #[.bool false, .bool false, .string .empty, .int .u64 0, .int .i64 0, .string .empty, .string .empty, .string .empty, .int .u64 0], .agg #[.string .empty, .int .u64 0, .int .i64 0]]
theorem laid_met (os : Os) : laidMet Tryz.prog Rows.tableNobodyRow.laid ((tabWorld os).forCall (fun _ _ => 0) ⟨#[], wArgs, []⟩).memory :=
  laidMet_of_run' 8 (by kernel_rfl) (by kernel_rfl)
theorem reads (os : Os) {H : Type} (enc : TypeId × Value → H) : ∃ places, DataW.whole enc Tryz.prog ((tabWorld os).forCall (fun _ _ => 0) ⟨#[], wArgs, []⟩).memory Tryz.f3.params.toList Rows.tableNobodySpec.vars false wArgs.toList 8 = some ([.agg [.lit (.bool false), .lit (.bool false), .agg [.lit (.string []), .lit (.int .u64 0), .lit (.int .i64 0), .lit (.string [])], .agg [.lit (.string []), .lit (.string []), .lit (.int .u64 0)]], .agg [.lit (.string []), .lit (.int .u64 0), .lit (.int .i64 0)]], [], places) :=
  ⟨[], by kernel_rfl⟩

set_option maxRecDepth 100000 in
theorem lifted (os : Os) (started : os.Started) (H : Type) (enc : TypeId × Value → H) (F : Stop.Interp) :
    ReturnsInHanded {} Tryz.checked os 3 .any ((OpenSpec.ofChange Rows.tableNobodySpec).preRow enc Tryz.prog Tryz.f3 Rows.tableNobodyRow.domain false Rows.tableNobodyRow.laid) (((OpenSpec.ofChange Rows.tableNobodySpec).at F).post enc Tryz.prog Tryz.f3 false true false false) := by
  obtain ⟨places, hx⟩ := reads os enc
  refine returnsInHanded_of_row (C := Tryz.checked) (s := OpenSpec.ofChange Rows.tableNobodySpec) own started (by kernel_rfl) Tryz.func3
    (witness_row_at (enc := enc) (C := Tryz.checked) false (tabWorld os) wArgs rfl (by kernel_rfl) (by kernel_rfl) (by kernel_rfl)
      (OpenSpec.preRow_of_cond 8 hx (by kernel_rfl) (fun k hk => by cases hk) (by kernel_rfl) (laid_met os))) ?_
  intro W base args ds gs before hval hW _ _ _ _ _ _
  exact contract H enc W base args ds gs before hval hW

theorem said : Rows.TableNobodySaid :=
  OpenClaim.holds_of_cond 3 Tryz.f3 rfl rfl rfl rfl rfl rfl rfl ⟨rfl, rfl, rfl, rfl, rfl⟩ rfl rfl rfl rfl rfl (by kernel_rfl) Tryz.func3 (by kernel_rfl)
    (of_decide_eq_true (by kernel_rfl)) (by unfold Func.isWrapper; first | (rw [if_pos (by decide +kernel)]; kernel_rfl) | (rw [if_neg (by decide +kernel)]; exact ⟨rfl, rfl⟩))
    (fun os started H enc _ F => by rw [OpenClaim.pre_eq_preRow]; exact lifted os started H enc F)

theorem plainN (name : String) (g : FuncId) (fg : Func) (ts : Array TypeId) (hn : Tryz.prog.funcNamed name = some g) (hg : Tryz.prog.funcs[g]? = some fg) (hp : fg.params = ts) (hs : ts.all (fun t => !Tryz.prog.wantsStandIn t) = true) (f : FuncId) (fn : Func) (hf : Tryz.pinned.checked.prog.funcNamed name = some f) (hfn : Tryz.pinned.checked.prog.funcs[f]? = some fn) :
    false = Tryz.pinned.checked.prog.looks [] ∧ ∀ (j : Nat) t, fn.params[j]? = some t → Tryz.pinned.checked.prog.wantsStandIn t = false := by
  obtain rfl : f = g := (Option.some.inj (hn.symm.trans hf)).symm
  obtain rfl : fn = fg := (Option.some.inj (hg.symm.trans hfn)).symm
  refine ⟨by kernel_rfl, fun j t ht => ?_⟩
  rw [hp] at ht
  have hm := Array.mem_of_getElem? ht
  rw [Array.all_eq_true_iff_forall_mem] at hs
  have h1 := hs t hm
  have h2 : (!Tryz.prog.wantsStandIn t) = true := h1
  exact (by simpa using h2 : Tryz.prog.wantsStandIn t = false)

theorem card : Rows.TableNobodyCardSaid :=
  Claim7.holds_tied_plain_at .later [] _ _ _ _ said (fun _ h => by cases h) (by kernel_rfl) (fun _ h => by cases h) tableNobody_row_tie rfl ⟨rfl, rfl⟩ (by kernel_rfl) rfl (plainN "moraine/morainelaw13.TableNobody" 3 Tryz.f3 _ (by kernel_rfl) Tryz.func3 Tryz.params3 (by kernel_rfl)) (by kernel_rfl)
end Go.Proofs.YtdpmeeflhnijkabGreatDoor.tableNobody

