import Derived.Test.YtcfagjkijhjaoaaProg
import Derived.Test.YtcfagjkijhjaoaaLkThree
import Derived.Test.YtcfagjkijhjaoaaDkFour
import Derived.Test.YtcfagjkijhjaoaaDkFive
import Derived.Test.YtcfagjkijhjaoaaRows
import Derived.WalkKit
import Derived.ProofKit
import Derived.Test.YtcfagjkijhjaoaaDdSix
set_option linter.all false
namespace DkGG
open Go Lk
noncomputable def tys : BT (Ty × Md) := (.node (.node (.node (.node (.node (.node (.node .leaf 1 (.z .fn, .r) .leaf) 2 (.i .i64, .r) (.node .leaf 3 (.i .i64, .r) .leaf)) 4 (.b, .r) (.node (.node .leaf 5 (.by, .r) .leaf) 6 (.by, .r) (.node .leaf 7 (.c (.i .i64) (.c (.i .i64) (.c (.b) (.c (.by) (.u)))), (.q .r (.q .r (.q .r (.q .r .r))))) .leaf))) 8 (.c (.i .i64) (.c (.i .i64) (.c (.b) (.c (.by) (.u)))), (.q .r (.q .r (.q .r (.q .r .r))))) (.node (.node (.node .leaf 9 (.s, .r) .leaf) 10 (.s, .r) (.node .leaf 11 (.s, .r) .leaf)) 12 (.i .u64, .r) (.node (.node .leaf 13 (.c (.s) (.c (.i .u64) (.u)), (.q .r (.q .r .r))) .leaf) 14 (.c (.s) (.c (.i .u64) (.u)), (.q .r (.q .r .r))) (.node .leaf 15 (.p (.c (.p (.c (.i .u64) (.c (.i .u64) (.c (.i .u32) (.c (.by) (.c (.by) (.c (.by) (.c (.by) (.c (.z .fn) (.c (.p (.by)) (.c (.i .i32) (.c (.i .i32) (.u))))))))))))) (.c (.p (.c (.i .u64) (.c (.i .u64) (.c (.i .u32) (.c (.by) (.c (.by) (.c (.by) (.c (.by) (.c (.z .fn) (.c (.p (.by)) (.c (.i .i32) (.c (.i .i32) (.u))))))))))))) (.c (.p (.c (.i .u64) (.c (.i .u64) (.c (.i .u32) (.c (.by) (.c (.by) (.c (.by) (.c (.by) (.c (.z .fn) (.c (.p (.by)) (.c (.i .i32) (.c (.i .i32) (.u))))))))))))) (.c (.s) (.u))))), (.o (.q (.o (.q .r (.q .r (.q .r (.q .r (.q .r (.q .r (.q .r (.q .r (.q (.o .r) (.q .r (.q .r .r)))))))))))) (.q (.o (.q .r (.q .r (.q .r (.q .r (.q .r (.q .r (.q .r (.q .r (.q (.o .r) (.q .r (.q .r .r)))))))))))) (.q (.o (.q .r (.q .r (.q .r (.q .r (.q .r (.q .r (.q .r (.q .r (.q (.o .r) (.q .r (.q .r .r)))))))))))) (.q .r .r)))))) .leaf)))) 16 (.z .pt, .r) (.node (.node (.node (.node .leaf 17 (.p (.c (.i .u64) (.c (.i .u64) (.c (.i .u32) (.c (.by) (.c (.by) (.c (.by) (.c (.by) (.c (.z .fn) (.c (.p (.by)) (.c (.i .i32) (.c (.i .i32) (.u)))))))))))), (.o (.q .r (.q .r (.q .r (.q .r (.q .r (.q .r (.q .r (.q .r (.q (.o .r) (.q .r (.q .r .r))))))))))))) .leaf) 18 (.c (.p (.c (.i .u64) (.c (.i .u64) (.c (.i .u32) (.c (.by) (.c (.by) (.c (.by) (.c (.by) (.c (.z .fn) (.c (.p (.by)) (.c (.i .i32) (.c (.i .i32) (.u))))))))))))) (.u), (.q (.o (.q .r (.q .r (.q .r (.q .r (.q .r (.q .r (.q .r (.q .r (.q (.o .r) (.q .r (.q .r .r)))))))))))) .r)) (.node .leaf 19 (.c (.p (.c (.i .u64) (.c (.i .u64) (.c (.i .u32) (.c (.by) (.c (.by) (.c (.by) (.c (.by) (.c (.z .fn) (.c (.p (.by)) (.c (.i .i32) (.c (.i .i32) (.u))))))))))))) (.u), (.q (.o (.q .r (.q .r (.q .r (.q .r (.q .r (.q .r (.q .r (.q .r (.q (.o .r) (.q .r (.q .r .r)))))))))))) .r)) .leaf)) 20 (.e, .r) (.node (.node .leaf 21 (.i .i32, .r) .leaf) 22 (.l (.c (.i .i64) (.c (.s) (.c (.s) (.c (.l (.by)) (.c (.i .i64) (.c (.i .i64) (.c (.l (.i .i64)) (.u)))))))), (.o (.q .r (.q .r (.q .r (.q (.o .r) (.q .r (.q .r (.q (.o .r) .r))))))))) (.node .leaf 23 (.l (.i .i64), (.o .r)) .leaf))) 24 (.a 0, (.o .r)) (.node (.node (.node .leaf 25 (.i .i64, .r) .leaf) 27 (.z .fn, .r) (.node .leaf 28 (.z .fn, .r) .leaf)) 29 (.l (.by), (.o .r)) (.node (.node .leaf 30 (.c (.i .i64) (.c (.s) (.c (.s) (.c (.l (.by)) (.c (.i .i64) (.c (.i .i64) (.c (.l (.i .i64)) (.u))))))), (.q .r (.q .r (.q .r (.q (.o .r) (.q .r (.q .r (.q (.o .r) .r)))))))) .leaf) 31 (.c (.i .i64) (.c (.s) (.c (.s) (.c (.l (.by)) (.c (.i .i64) (.c (.i .i64) (.c (.l (.i .i64)) (.u))))))), (.q .r (.q .r (.q .r (.q (.o .r) (.q .r (.q .r (.q (.o .r) .r)))))))) .leaf)))) 32 (.z .fn, .r) (.node (.node (.node (.node (.node .leaf 33 (.z .fn, .r) .leaf) 34 (.l (.s), (.o .r)) (.node .leaf 35 (.z .fn, .r) .leaf)) 36 (.z .fn, .r) (.node (.node .leaf 38 (.z .fn, .r) .leaf) 39 (.z .fn, .r) (.node .leaf 40 (.z .fn, .r) .leaf))) 41 (.p (.c (.l (.c (.s) (.c (.s) (.c (.i .i64) (.u))))) (.c (.i .i64) (.c (.i .i64) (.c (.i .i64) (.c (.i .i64) (.u)))))), (.o (.q (.o (.q .r (.q .r (.q .r .r)))) (.q .r (.q .r (.q .r (.q .r .r))))))) (.node (.node (.node .leaf 43 (.z .fn, .r) .leaf) 44 (.z .fn, .r) (.node .leaf 45 (.z .fn, .r) .leaf)) 46 (.z .fn, .r) (.node (.node .leaf 47 (.z .fn, .r) .leaf) 48 (.z .fn, .r) (.node .leaf 49 (.z .fn, .r) .leaf)))) 50 (.z .fn, .r) (.node (.node (.node (.node .leaf 51 (.z .fn, .r) .leaf) 52 (.z .mp, .r) (.node .leaf 53 (.c (.i .i64) (.c (.i .i64) (.u)), (.q .r (.q .r .r))) .leaf)) 54 (.c (.i .i64) (.c (.i .i64) (.u)), (.q .r (.q .r .r))) (.node (.node .leaf 55 (.c (.z .mp) (.c (.i .i64) (.c (.i .i64) (.c (.i .i64) (.c (.c (.i .i64) (.c (.i .i64) (.u))) (.u))))), (.q .r (.q .r (.q .r (.q .r (.q (.q .r (.q .r .r)) .r)))))) .leaf) 56 (.c (.z .mp) (.c (.i .i64) (.c (.i .i64) (.c (.i .i64) (.c (.c (.i .i64) (.c (.i .i64) (.u))) (.u))))), (.q .r (.q .r (.q .r (.q .r (.q (.q .r (.q .r .r)) .r)))))) (.node .leaf 57 (.l (.a 0), (.o (.o .r))) .leaf))) 59 (.z .fn, .r) (.node (.node (.node .leaf 60 (.z .fn, .r) .leaf) 61 (.c (.l (.c (.i .i64) (.c (.s) (.c (.s) (.c (.l (.by)) (.c (.i .i64) (.c (.i .i64) (.c (.l (.i .i64)) (.u))))))))) (.c (.l (.c (.i .i64) (.c (.s) (.c (.s) (.c (.l (.by)) (.c (.i .i64) (.c (.i .i64) (.c (.l (.i .i64)) (.u))))))))) (.u)), (.q (.o (.q .r (.q .r (.q .r (.q (.o .r) (.q .r (.q .r (.q (.o .r) .r)))))))) (.q (.o (.q .r (.q .r (.q .r (.q (.o .r) (.q .r (.q .r (.q (.o .r) .r)))))))) .r))) (.node .leaf 62 (.c (.l (.c (.i .i64) (.c (.s) (.c (.s) (.c (.l (.by)) (.c (.i .i64) (.c (.i .i64) (.c (.l (.i .i64)) (.u))))))))) (.c (.l (.c (.i .i64) (.c (.s) (.c (.s) (.c (.l (.by)) (.c (.i .i64) (.c (.i .i64) (.c (.l (.i .i64)) (.u))))))))) (.u)), (.q (.o (.q .r (.q .r (.q .r (.q (.o .r) (.q .r (.q .r (.q (.o .r) .r)))))))) (.q (.o (.q .r (.q .r (.q .r (.q (.o .r) (.q .r (.q .r (.q (.o .r) .r)))))))) .r))) .leaf)) 63 (.z .fn, .r) (.node (.node .leaf 64 (.z .fn, .r) .leaf) 65 (.z .fn, .r) .leaf))))) 66 (.z .fn, .r) (.node (.node (.node (.node (.node (.node .leaf 67 (.z .fn, .r) .leaf) 68 (.z .fn, .r) (.node .leaf 69 (.z .fn, .r) .leaf)) 70 (.p (.c (.l (.by)) (.c (.i .i64) (.u))), (.o (.q (.o .r) (.q .r .r)))) (.node (.node .leaf 71 (.c (.l (.by)) (.c (.i .i64) (.u)), (.q (.o .r) (.q .r .r))) .leaf) 72 (.c (.l (.by)) (.c (.i .i64) (.u)), (.q (.o .r) (.q .r .r))) (.node .leaf 73 (.z .fn, .r) .leaf))) 75 (.z .fn, .r) (.node (.node (.node .leaf 76 (.l (.c (.s) (.c (.s) (.c (.i .i64) (.u)))), (.o (.q .r (.q .r (.q .r .r))))) .leaf) 77 (.c (.l (.c (.s) (.c (.s) (.c (.i .i64) (.u))))) (.c (.i .i64) (.c (.i .i64) (.c (.i .i64) (.c (.i .i64) (.u))))), (.q (.o (.q .r (.q .r (.q .r .r)))) (.q .r (.q .r (.q .r (.q .r .r)))))) (.node .leaf 78 (.c (.l (.c (.s) (.c (.s) (.c (.i .i64) (.u))))) (.c (.i .i64) (.c (.i .i64) (.c (.i .i64) (.c (.i .i64) (.u))))), (.q (.o (.q .r (.q .r (.q .r .r)))) (.q .r (.q .r (.q .r (.q .r .r)))))) .leaf)) 79 (.z .fn, .r) (.node (.node .leaf 80 (.z .fn, .r) .leaf) 81 (.z .fn, .r) (.node .leaf 82 (.z .fn, .r) .leaf)))) 83 (.z .fn, .r) (.node (.node (.node (.node .leaf 85 (.z .fn, .r) .leaf) 87 (.z .fn, .r) (.node .leaf 88 (.z .fn, .r) .leaf)) 89 (.z .fn, .r) (.node (.node .leaf 90 (.z .fn, .r) .leaf) 91 (.z .fn, .r) (.node .leaf 92 (.z .fn, .r) .leaf))) 93 (.c (.s) (.c (.s) (.c (.i .i64) (.u))), (.q .r (.q .r (.q .r .r)))) (.node (.node (.node .leaf 94 (.c (.s) (.c (.s) (.c (.i .i64) (.u))), (.q .r (.q .r (.q .r .r)))) .leaf) 95 (.z .fn, .r) (.node .leaf 96 (.z .fn, .r) .leaf)) 97 (.i .u64, .r) (.node (.node .leaf 98 (.z .fn, .r) .leaf) 100 (.z .fn, .r) .leaf)))) 101 (.z .fn, .r) (.node (.node (.node (.node (.node .leaf 103 (.z .fn, .r) .leaf) 104 (.i .i64, .r) (.node .leaf 106 (.z .fn, .r) .leaf)) 107 (.z .fn, .r) (.node (.node .leaf 108 (.z .fn, .r) .leaf) 109 (.z .fn, .r) (.node .leaf 110 (.z .fn, .r) .leaf))) 111 (.z .fn, .r) (.node (.node (.node .leaf 112 (.i .u32, .r) .leaf) 113 (.z .fn, .r) (.node .leaf 114 (.i .u64, .r) .leaf)) 115 (.i .u64, .r) (.node (.node .leaf 116 (.z .fn, .r) .leaf) 117 (.z .fn, .r) (.node .leaf 118 (.z .fn, .r) .leaf)))) 119 (.p (.i .i64), (.o .r)) (.node (.node (.node (.node .leaf 120 (.z .fn, .r) .leaf) 121 (.p (.i .u64), (.o .r)) (.node .leaf 123 (.z .fn, .r) .leaf)) 124 (.z .fn, .r) (.node (.node .leaf 125 (.c (.p (.c (.i .u64) (.c (.i .u64) (.c (.i .u32) (.c (.by) (.c (.by) (.c (.by) (.c (.by) (.c (.z .fn) (.c (.p (.by)) (.c (.i .i32) (.c (.i .i32) (.u))))))))))))) (.c (.p (.c (.i .u64) (.c (.i .u64) (.c (.i .u32) (.c (.by) (.c (.by) (.c (.by) (.c (.by) (.c (.z .fn) (.c (.p (.by)) (.c (.i .i32) (.c (.i .i32) (.u))))))))))))) (.c (.p (.c (.i .u64) (.c (.i .u64) (.c (.i .u32) (.c (.by) (.c (.by) (.c (.by) (.c (.by) (.c (.z .fn) (.c (.p (.by)) (.c (.i .i32) (.c (.i .i32) (.u))))))))))))) (.c (.s) (.u)))), (.q (.o (.q .r (.q .r (.q .r (.q .r (.q .r (.q .r (.q .r (.q .r (.q (.o .r) (.q .r (.q .r .r)))))))))))) (.q (.o (.q .r (.q .r (.q .r (.q .r (.q .r (.q .r (.q .r (.q .r (.q (.o .r) (.q .r (.q .r .r)))))))))))) (.q (.o (.q .r (.q .r (.q .r (.q .r (.q .r (.q .r (.q .r (.q .r (.q (.o .r) (.q .r (.q .r .r)))))))))))) (.q .r .r))))) .leaf) 126 (.c (.p (.c (.i .u64) (.c (.i .u64) (.c (.i .u32) (.c (.by) (.c (.by) (.c (.by) (.c (.by) (.c (.z .fn) (.c (.p (.by)) (.c (.i .i32) (.c (.i .i32) (.u))))))))))))) (.c (.p (.c (.i .u64) (.c (.i .u64) (.c (.i .u32) (.c (.by) (.c (.by) (.c (.by) (.c (.by) (.c (.z .fn) (.c (.p (.by)) (.c (.i .i32) (.c (.i .i32) (.u))))))))))))) (.c (.p (.c (.i .u64) (.c (.i .u64) (.c (.i .u32) (.c (.by) (.c (.by) (.c (.by) (.c (.by) (.c (.z .fn) (.c (.p (.by)) (.c (.i .i32) (.c (.i .i32) (.u))))))))))))) (.c (.s) (.u)))), (.q (.o (.q .r (.q .r (.q .r (.q .r (.q .r (.q .r (.q .r (.q .r (.q (.o .r) (.q .r (.q .r .r)))))))))))) (.q (.o (.q .r (.q .r (.q .r (.q .r (.q .r (.q .r (.q .r (.q .r (.q (.o .r) (.q .r (.q .r .r)))))))))))) (.q (.o (.q .r (.q .r (.q .r (.q .r (.q .r (.q .r (.q .r (.q .r (.q (.o .r) (.q .r (.q .r .r)))))))))))) (.q .r .r))))) (.node .leaf 130 (.by, .r) .leaf))) 131 (.by, .r) (.node (.node (.node .leaf 132 (.z .fn, .r) .leaf) 133 (.p (.by), (.o .r)) (.node .leaf 134 (.i .i32, .r) .leaf)) 135 (.i .i32, .r) (.node (.node .leaf 136 (.c (.i .u64) (.c (.i .u64) (.c (.i .u32) (.c (.by) (.c (.by) (.c (.by) (.c (.by) (.c (.z .fn) (.c (.p (.by)) (.c (.i .i32) (.c (.i .i32) (.u))))))))))), (.q .r (.q .r (.q .r (.q .r (.q .r (.q .r (.q .r (.q .r (.q (.o .r) (.q .r (.q .r .r)))))))))))) .leaf) 137 (.c (.i .u64) (.c (.i .u64) (.c (.i .u32) (.c (.by) (.c (.by) (.c (.by) (.c (.by) (.c (.z .fn) (.c (.p (.by)) (.c (.i .i32) (.c (.i .i32) (.u))))))))))), (.q .r (.q .r (.q .r (.q .r (.q .r (.q .r (.q .r (.q .r (.q (.o .r) (.q .r (.q .r .r)))))))))))) .leaf))))))
noncomputable def sigs : BT Sig := (.node (.node (.node (.node (.node (.node .leaf 3 ⟨[(.i .i64, .r), (.l (.c (.i .i64) (.c (.s) (.c (.s) (.c (.l (.by)) (.c (.i .i64) (.c (.i .i64) (.c (.l (.i .i64)) (.u)))))))), .b), (.l (.i .i64), .b)], [(.b, .r)], 1⟩ .leaf) 4 ⟨[(.i .i64, .r), (.l (.c (.i .i64) (.c (.s) (.c (.s) (.c (.l (.by)) (.c (.i .i64) (.c (.i .i64) (.c (.l (.i .i64)) (.u)))))))), .b)], [(.b, .r)], 1⟩ .leaf) 5 ⟨[(.i .i64, .r), (.l (.c (.i .i64) (.c (.s) (.c (.s) (.c (.l (.by)) (.c (.i .i64) (.c (.i .i64) (.c (.l (.i .i64)) (.u)))))))), .b)], [(.b, .r)], 1⟩ (.node (.node .leaf 7 ⟨[(.i .i64, .r), (.l (.c (.i .i64) (.c (.s) (.c (.s) (.c (.l (.by)) (.c (.i .i64) (.c (.i .i64) (.c (.l (.i .i64)) (.u)))))))), .b), (.c (.l (.c (.i .i64) (.c (.s) (.c (.s) (.c (.l (.by)) (.c (.i .i64) (.c (.i .i64) (.c (.l (.i .i64)) (.u))))))))) (.c (.l (.c (.i .i64) (.c (.s) (.c (.s) (.c (.l (.by)) (.c (.i .i64) (.c (.i .i64) (.c (.l (.i .i64)) (.u))))))))) (.u)), .b)], [(.b, .r)], 1⟩ .leaf) 8 ⟨[(.i .i64, .r)], [(.a 0, (.o .r)), (.i .i64, .r)], 2⟩ .leaf)) 9 ⟨[(.a 0, (.o .r)), (.c (.i .i64) (.c (.s) (.c (.s) (.c (.l (.by)) (.c (.i .i64) (.c (.i .i64) (.c (.l (.i .i64)) (.u))))))), .b)], [(.i .i64, .r), (.a 0, (.o .r))], 1⟩ (.node (.node (.node .leaf 10 ⟨[(.a 0, .b)], [(.a 0, (.o .r))], 1⟩ .leaf) 11 ⟨[(.a 0, (.o .r)), (.l (.i .i64), .b)], [(.i .i64, .r), (.a 0, (.o .r))], 1⟩ .leaf) 12 ⟨[(.a 0, .b)], [(.l (.s), (.o .r))], 1⟩ (.node (.node .leaf 13 ⟨[(.a 0, .b), (.s, .r)], [(.s, .r)], 1⟩ .leaf) 14 ⟨[(.a 0, .b), (.s, .r)], [(.i .i64, .r), (.i .i64, .r), (.i .i64, .r)], 3⟩ .leaf))) 15 ⟨[(.a 0, .b)], [(.i .i64, .r)], 1⟩ (.node (.node (.node (.node .leaf 16 ⟨[(.i .i64, .r)], [(.p (.c (.l (.c (.s) (.c (.s) (.c (.i .i64) (.u))))) (.c (.i .i64) (.c (.i .i64) (.c (.i .i64) (.c (.i .i64) (.u)))))), (.o (.q (.o (.q .r (.q .r (.q .r .r)))) (.q .r (.q .r (.q .r (.q .r .r))))))), (.i .i64, .r)], 2⟩ .leaf) 17 ⟨[], [(.b, .r)], 1⟩ .leaf) 18 ⟨[(.p (.c (.l (.c (.s) (.c (.s) (.c (.i .i64) (.u))))) (.c (.i .i64) (.c (.i .i64) (.c (.i .i64) (.c (.i .i64) (.u)))))), (.o (.q (.o (.q .r (.q .r (.q .r .r)))) (.q .r (.q .r (.q .r (.q .r .r))))))), (.c (.i .i64) (.c (.s) (.c (.s) (.c (.l (.by)) (.c (.i .i64) (.c (.i .i64) (.c (.l (.i .i64)) (.u))))))), .b)], [(.i .i64, .r), (.p (.c (.l (.c (.s) (.c (.s) (.c (.i .i64) (.u))))) (.c (.i .i64) (.c (.i .i64) (.c (.i .i64) (.c (.i .i64) (.u)))))), (.o (.q (.o (.q .r (.q .r (.q .r .r)))) (.q .r (.q .r (.q .r (.q .r .r)))))))], 1⟩ (.node (.node .leaf 19 ⟨[(.a 0, .b), (.p (.c (.l (.c (.s) (.c (.s) (.c (.i .i64) (.u))))) (.c (.i .i64) (.c (.i .i64) (.c (.i .i64) (.c (.i .i64) (.u)))))), .b), (.c (.i .i64) (.c (.s) (.c (.s) (.c (.l (.by)) (.c (.i .i64) (.c (.i .i64) (.c (.l (.i .i64)) (.u))))))), .b)], [(.b, .r)], 1⟩ .leaf) 20 ⟨[(.a 0, .b), (.a 0, .b)], [(.b, .r)], 1⟩ .leaf)) 21 ⟨[(.a 0, .b)], [(.i .i64, .r)], 1⟩ (.node (.node (.node .leaf 22 ⟨[(.a 0, .b)], [(.i .i64, .r)], 1⟩ .leaf) 23 ⟨[(.a 0, (.o .r)), (.i .i64, .r), (.i .i64, .r)], [(.i .i64, .r), (.a 0, (.o .r))], 1⟩ .leaf) 24 ⟨[(.a 0, (.o .r)), (.s, .r)], [(.i .i64, .r), (.a 0, (.o .r))], 1⟩ (.node (.node .leaf 25 ⟨[(.a 0, (.o .r)), (.s, .r), (.l (.by), .b)], [(.i .i64, .r), (.a 0, (.o .r))], 1⟩ .leaf) 26 ⟨[(.a 0, .b), (.s, .r), (.i .i64, .r), (.i .i64, .r)], [(.l (.by), (.o .r)), (.i .i64, .r)], 2⟩ .leaf)))) 27 ⟨[(.p (.c (.l (.c (.s) (.c (.s) (.c (.i .i64) (.u))))) (.c (.i .i64) (.c (.i .i64) (.c (.i .i64) (.c (.i .i64) (.u)))))), .b)], [(.p (.c (.l (.c (.s) (.c (.s) (.c (.i .i64) (.u))))) (.c (.i .i64) (.c (.i .i64) (.c (.i .i64) (.c (.i .i64) (.u)))))), (.o (.q (.o (.q .r (.q .r (.q .r .r)))) (.q .r (.q .r (.q .r (.q .r .r)))))))], 1⟩ (.node (.node (.node (.node (.node .leaf 28 ⟨[(.p (.c (.l (.c (.s) (.c (.s) (.c (.i .i64) (.u))))) (.c (.i .i64) (.c (.i .i64) (.c (.i .i64) (.c (.i .i64) (.u)))))), .b), (.p (.c (.l (.c (.s) (.c (.s) (.c (.i .i64) (.u))))) (.c (.i .i64) (.c (.i .i64) (.c (.i .i64) (.c (.i .i64) (.u)))))), .b)], [(.b, .r)], 1⟩ .leaf) 30 ⟨[(.l (.by), .b)], [(.l (.by), (.o .r))], 1⟩ .leaf) 31 ⟨[(.a 0, (.o .r)), (.s, .r)], [(.i .i64, .r), (.a 0, (.o .r))], 1⟩ (.node (.node .leaf 32 ⟨[(.a 0, (.o .r)), (.s, .r), (.s, .r)], [(.i .i64, .r), (.a 0, (.o .r))], 1⟩ .leaf) 33 ⟨[(.a 0, (.o .r)), (.s, .r)], [(.i .i64, .r), (.a 0, (.o .r))], 1⟩ .leaf)) 34 ⟨[(.a 0, (.o .r)), (.i .i64, .r)], [(.i .i64, .r), (.a 0, (.o .r))], 1⟩ (.node (.node (.node .leaf 39 ⟨[(.p (.c (.l (.c (.s) (.c (.s) (.c (.i .i64) (.u))))) (.c (.i .i64) (.c (.i .i64) (.c (.i .i64) (.c (.i .i64) (.u)))))), (.o (.q (.o (.q .r (.q .r (.q .r .r)))) (.q .r (.q .r (.q .r (.q .r .r))))))), (.s, .r)], [(.i .i64, .r), (.p (.c (.l (.c (.s) (.c (.s) (.c (.i .i64) (.u))))) (.c (.i .i64) (.c (.i .i64) (.c (.i .i64) (.c (.i .i64) (.u)))))), (.o (.q (.o (.q .r (.q .r (.q .r .r)))) (.q .r (.q .r (.q .r (.q .r .r)))))))], 1⟩ .leaf) 40 ⟨[(.p (.c (.l (.c (.s) (.c (.s) (.c (.i .i64) (.u))))) (.c (.i .i64) (.c (.i .i64) (.c (.i .i64) (.c (.i .i64) (.u)))))), (.o (.q (.o (.q .r (.q .r (.q .r .r)))) (.q .r (.q .r (.q .r (.q .r .r))))))), (.s, .r), (.s, .r)], [(.i .i64, .r), (.p (.c (.l (.c (.s) (.c (.s) (.c (.i .i64) (.u))))) (.c (.i .i64) (.c (.i .i64) (.c (.i .i64) (.c (.i .i64) (.u)))))), (.o (.q (.o (.q .r (.q .r (.q .r .r)))) (.q .r (.q .r (.q .r (.q .r .r)))))))], 1⟩ .leaf) 41 ⟨[(.p (.c (.l (.c (.s) (.c (.s) (.c (.i .i64) (.u))))) (.c (.i .i64) (.c (.i .i64) (.c (.i .i64) (.c (.i .i64) (.u)))))), (.o (.q (.o (.q .r (.q .r (.q .r .r)))) (.q .r (.q .r (.q .r (.q .r .r))))))), (.s, .r)], [(.i .i64, .r), (.p (.c (.l (.c (.s) (.c (.s) (.c (.i .i64) (.u))))) (.c (.i .i64) (.c (.i .i64) (.c (.i .i64) (.c (.i .i64) (.u)))))), (.o (.q (.o (.q .r (.q .r (.q .r .r)))) (.q .r (.q .r (.q .r (.q .r .r)))))))], 1⟩ (.node (.node .leaf 42 ⟨[(.p (.c (.l (.c (.s) (.c (.s) (.c (.i .i64) (.u))))) (.c (.i .i64) (.c (.i .i64) (.c (.i .i64) (.c (.i .i64) (.u)))))), (.o (.q (.o (.q .r (.q .r (.q .r .r)))) (.q .r (.q .r (.q .r (.q .r .r))))))), (.s, .r), (.s, .r)], [(.i .i64, .r), (.p (.c (.l (.c (.s) (.c (.s) (.c (.i .i64) (.u))))) (.c (.i .i64) (.c (.i .i64) (.c (.i .i64) (.c (.i .i64) (.u)))))), (.o (.q (.o (.q .r (.q .r (.q .r .r)))) (.q .r (.q .r (.q .r (.q .r .r)))))))], 1⟩ .leaf) 43 ⟨[(.p (.c (.l (.c (.s) (.c (.s) (.c (.i .i64) (.u))))) (.c (.i .i64) (.c (.i .i64) (.c (.i .i64) (.c (.i .i64) (.u)))))), (.o (.q (.o (.q .r (.q .r (.q .r .r)))) (.q .r (.q .r (.q .r (.q .r .r))))))), (.s, .r)], [(.i .i64, .r), (.p (.c (.l (.c (.s) (.c (.s) (.c (.i .i64) (.u))))) (.c (.i .i64) (.c (.i .i64) (.c (.i .i64) (.c (.i .i64) (.u)))))), (.o (.q (.o (.q .r (.q .r (.q .r .r)))) (.q .r (.q .r (.q .r (.q .r .r)))))))], 1⟩ .leaf))) 44 ⟨[(.p (.c (.l (.c (.s) (.c (.s) (.c (.i .i64) (.u))))) (.c (.i .i64) (.c (.i .i64) (.c (.i .i64) (.c (.i .i64) (.u)))))), (.o (.q (.o (.q .r (.q .r (.q .r .r)))) (.q .r (.q .r (.q .r (.q .r .r))))))), (.i .i64, .r)], [(.i .i64, .r), (.p (.c (.l (.c (.s) (.c (.s) (.c (.i .i64) (.u))))) (.c (.i .i64) (.c (.i .i64) (.c (.i .i64) (.c (.i .i64) (.u)))))), (.o (.q (.o (.q .r (.q .r (.q .r .r)))) (.q .r (.q .r (.q .r (.q .r .r)))))))], 1⟩ (.node (.node (.node (.node .leaf 45 ⟨[(.p (.c (.l (.c (.s) (.c (.s) (.c (.i .i64) (.u))))) (.c (.i .i64) (.c (.i .i64) (.c (.i .i64) (.c (.i .i64) (.u)))))), (.o (.q (.o (.q .r (.q .r (.q .r .r)))) (.q .r (.q .r (.q .r (.q .r .r))))))), (.i .i64, .r), (.i .i64, .r)], [(.i .i64, .r), (.p (.c (.l (.c (.s) (.c (.s) (.c (.i .i64) (.u))))) (.c (.i .i64) (.c (.i .i64) (.c (.i .i64) (.c (.i .i64) (.u)))))), (.o (.q (.o (.q .r (.q .r (.q .r .r)))) (.q .r (.q .r (.q .r (.q .r .r)))))))], 1⟩ .leaf) 46 ⟨[(.p (.c (.l (.c (.s) (.c (.s) (.c (.i .i64) (.u))))) (.c (.i .i64) (.c (.i .i64) (.c (.i .i64) (.c (.i .i64) (.u)))))), (.o (.q (.o (.q .r (.q .r (.q .r .r)))) (.q .r (.q .r (.q .r (.q .r .r))))))), (.l (.i .i64), .b)], [(.i .i64, .r), (.p (.c (.l (.c (.s) (.c (.s) (.c (.i .i64) (.u))))) (.c (.i .i64) (.c (.i .i64) (.c (.i .i64) (.c (.i .i64) (.u)))))), (.o (.q (.o (.q .r (.q .r (.q .r .r)))) (.q .r (.q .r (.q .r (.q .r .r)))))))], 1⟩ .leaf) 47 ⟨[(.p (.c (.l (.c (.s) (.c (.s) (.c (.i .i64) (.u))))) (.c (.i .i64) (.c (.i .i64) (.c (.i .i64) (.c (.i .i64) (.u)))))), .b)], [(.l (.s), (.o .r))], 1⟩ (.node (.node .leaf 48 ⟨[(.p (.c (.l (.c (.s) (.c (.s) (.c (.i .i64) (.u))))) (.c (.i .i64) (.c (.i .i64) (.c (.i .i64) (.c (.i .i64) (.u)))))), .b)], [(.i .i64, .r)], 1⟩ .leaf) 49 ⟨[(.p (.c (.l (.c (.s) (.c (.s) (.c (.i .i64) (.u))))) (.c (.i .i64) (.c (.i .i64) (.c (.i .i64) (.c (.i .i64) (.u)))))), .b), (.s, .r)], [(.i .i64, .r), (.i .i64, .r), (.i .i64, .r)], 3⟩ .leaf)) 50 ⟨[(.p (.c (.l (.c (.s) (.c (.s) (.c (.i .i64) (.u))))) (.c (.i .i64) (.c (.i .i64) (.c (.i .i64) (.c (.i .i64) (.u)))))), .b), (.s, .r), (.i .i64, .r), (.i .i64, .r)], [(.s, .r), (.i .i64, .r)], 2⟩ (.node (.node (.node .leaf 58 ⟨[(.s, .r)], [(.b, .r)], 1⟩ .leaf) 59 ⟨[(.p (.c (.l (.c (.s) (.c (.s) (.c (.i .i64) (.u))))) (.c (.i .i64) (.c (.i .i64) (.c (.i .i64) (.c (.i .i64) (.u)))))), .b), (.s, .r)], [(.i .i64, .r), (.b, .r)], 2⟩ .leaf) 60 ⟨[(.p (.c (.l (.c (.s) (.c (.s) (.c (.i .i64) (.u))))) (.c (.i .i64) (.c (.i .i64) (.c (.i .i64) (.c (.i .i64) (.u)))))), (.o (.q (.o (.q .r (.q .r (.q .r .r)))) (.q .r (.q .r (.q .r (.q .r .r))))))), (.b, .r)], [(.b, .r), (.p (.c (.l (.c (.s) (.c (.s) (.c (.i .i64) (.u))))) (.c (.i .i64) (.c (.i .i64) (.c (.i .i64) (.c (.i .i64) (.u)))))), (.o (.q (.o (.q .r (.q .r (.q .r .r)))) (.q .r (.q .r (.q .r (.q .r .r)))))))], 1⟩ (.node .leaf 61 ⟨[(.p (.c (.l (.c (.s) (.c (.s) (.c (.i .i64) (.u))))) (.c (.i .i64) (.c (.i .i64) (.c (.i .i64) (.c (.i .i64) (.u)))))), (.o (.q (.o (.q .r (.q .r (.q .r .r)))) (.q .r (.q .r (.q .r (.q .r .r))))))), (.i .i64, .r)], [(.p (.c (.l (.c (.s) (.c (.s) (.c (.i .i64) (.u))))) (.c (.i .i64) (.c (.i .i64) (.c (.i .i64) (.c (.i .i64) (.u)))))), (.o (.q (.o (.q .r (.q .r (.q .r .r)))) (.q .r (.q .r (.q .r (.q .r .r)))))))], 0⟩ .leaf)))))
noncomputable def bodies : BT Func := (.node (.node (.node (.node (.node .leaf 3 Go.Proofs.Try.f3 .leaf) 4 Go.Proofs.Try.f4 (.node .leaf 5 Go.Proofs.Try.f5 .leaf)) 7 Go.Proofs.Try.f7 (.node (.node .leaf 9 Go.Proofs.Try.f9 .leaf) 13 Go.Proofs.Try.f13 (.node .leaf 16 Go.Proofs.Try.f16 .leaf))) 17 Go.Proofs.Try.f17 (.node (.node (.node .leaf 18 Go.Proofs.Try.f18 .leaf) 19 Go.Proofs.Try.f19 (.node .leaf 27 Go.Proofs.Try.f27 .leaf)) 28 Go.Proofs.Try.f28 (.node (.node .leaf 30 Go.Proofs.Try.f30 .leaf) 39 Go.Proofs.Try.f39 .leaf))) 40 Go.Proofs.Try.f40 (.node (.node (.node (.node .leaf 41 Go.Proofs.Try.f41 .leaf) 42 Go.Proofs.Try.f42 (.node .leaf 43 Go.Proofs.Try.f43 .leaf)) 44 Go.Proofs.Try.f44 (.node (.node .leaf 45 Go.Proofs.Try.f45 .leaf) 46 Go.Proofs.Try.f46 (.node .leaf 47 Go.Proofs.Try.f47 .leaf))) 48 Go.Proofs.Try.f48 (.node (.node (.node .leaf 49 Go.Proofs.Try.f49 .leaf) 50 Go.Proofs.Try.f50 (.node .leaf 58 Go.Proofs.Try.f58 .leaf)) 59 Go.Proofs.Try.f59 (.node (.node .leaf 60 Go.Proofs.Try.f60 .leaf) 61 Go.Proofs.Try.f61 .leaf))))
noncomputable def exts : BT Func := (.node (.node (.node (.node (.node .leaf 8 Go.Proofs.Try.f8 .leaf) 10 Go.Proofs.Try.f10 .leaf) 11 Go.Proofs.Try.f11 (.node .leaf 12 Go.Proofs.Try.f12 .leaf)) 14 Go.Proofs.Try.f14 (.node (.node .leaf 15 Go.Proofs.Try.f15 .leaf) 20 Go.Proofs.Try.f20 (.node .leaf 21 Go.Proofs.Try.f21 .leaf))) 22 Go.Proofs.Try.f22 (.node (.node (.node (.node .leaf 23 Go.Proofs.Try.f23 .leaf) 24 Go.Proofs.Try.f24 .leaf) 25 Go.Proofs.Try.f25 (.node .leaf 26 Go.Proofs.Try.f26 .leaf)) 31 Go.Proofs.Try.f31 (.node (.node .leaf 32 Go.Proofs.Try.f32 .leaf) 33 Go.Proofs.Try.f33 (.node .leaf 34 Go.Proofs.Try.f34 .leaf))))
noncomputable def lives : BT (List Nat) := (.node (.node (.node (.node (.node (.node (.node .leaf 12293 [1, 2, 7, 9] .leaf) 12299 [2, 7, 10] .leaf) 12303 [2, 7, 10, 11, 12, 13] (.node .leaf 12304 [2, 7, 10, 11, 12, 13] .leaf)) 12310 [2, 7, 10, 11, 12, 13, 15, 17] (.node (.node (.node .leaf 14346 [2, 7, 10, 62] .leaf) 14357 [2, 7, 10, 11, 12, 13, 15, 17, 144] .leaf) 14359 [2, 7, 10, 11, 12, 13, 153] (.node .leaf 16389 [1, 5, 7] .leaf))) 16392 [1, 5, 7, 9] (.node (.node (.node (.node .leaf 16393 [1, 5, 7, 9] .leaf) 18436 [1, 5, 7, 33] .leaf) 18443 [1, 5, 7, 9, 64] (.node .leaf 20485 [1, 5, 7] .leaf)) 20486 [1, 5, 7] (.node (.node .leaf 20491 [1, 5, 7, 8, 9] .leaf) 20493 [1, 5, 7, 9] (.node .leaf 20497 [5] .leaf)))) 20500 [5] (.node (.node (.node (.node (.node .leaf 22538 [1, 5, 7, 8, 9, 53] .leaf) 22540 [1, 5, 7, 9, 72] .leaf) 22542 [1, 5, 7, 89] (.node .leaf 22544 [5, 98] .leaf)) 22547 [5, 115] (.node (.node (.node .leaf 28679 [1, 7, 8, 9, 11, 13] .leaf) 28687 [7, 8, 9, 11, 14, 15] .leaf) 28688 [7, 8, 9, 11, 14, 15, 16] (.node .leaf 28689 [7, 8, 9, 11, 14, 15, 16] .leaf))) 28690 [7, 8, 9, 11, 14, 15, 16] (.node (.node (.node (.node .leaf 28692 [7, 8, 9, 11, 14, 15, 16] .leaf) 28694 [7, 8, 9, 11, 14, 15, 16] .leaf) 28696 [9, 11, 14, 15] (.node .leaf 30734 [7, 8, 9, 11, 14, 15, 74] .leaf)) 30739 [7, 8, 9, 11, 14, 15, 16, 105] (.node (.node .leaf 30741 [7, 8, 9, 11, 14, 15, 16, 124] .leaf) 30743 [7, 8, 9, 11, 14, 15, 16, 140] (.node .leaf 36872 [0, 5, 6, 7] .leaf))))) 65539 [0] (.node (.node (.node (.node (.node (.node .leaf 67586 [0, 9] .leaf) 77829 [0, 1, 5, 7, 8] .leaf) 77830 [0, 1, 5, 7, 8, 9] (.node .leaf 77831 [0, 1, 5, 7, 8, 9] .leaf)) 77836 [0, 1, 5, 7, 8, 9, 13] (.node (.node (.node .leaf 77840 [0, 1, 5, 7, 8, 9, 16] .leaf) 77841 [0, 1, 5, 7, 8, 9, 16, 19] .leaf) 79876 [0, 1, 5, 7, 8, 63] (.node .leaf 79883 [0, 1, 5, 7, 8, 9, 13, 112] .leaf))) 79887 [0, 1, 5, 7, 8, 9, 16, 140] (.node (.node (.node (.node .leaf 114691 [0, 1] .leaf) 114694 [0, 1, 5] .leaf) 116738 [0, 1, 11] (.node .leaf 172037 [0, 1, 2] .leaf)) 172047 [0, 2, 9, 10] (.node (.node .leaf 174084 [0, 1, 2, 22] .leaf) 180229 [0, 1] (.node .leaf 182276 [0, 1, 12] .leaf)))) 184325 [0, 1, 2] (.node (.node (.node (.node (.node .leaf 186372 [0, 1, 2, 14] .leaf) 188420 [0, 1, 5] .leaf) 188421 [0, 1, 5] (.node .leaf 188426 [0, 1, 5, 6, 7] .leaf)) 188428 [0, 1, 5, 6, 7] (.node (.node (.node .leaf 188430 [0, 1, 5, 6, 7] .leaf) 192515 [0, 3, 4] .leaf) 192517 [0, 3, 4] (.node .leaf 192518 [3] .leaf))) 196611 [0, 3, 4] (.node (.node (.node (.node .leaf 204811 [2, 3, 12] .leaf) 204813 [2, 3, 12] .leaf) 206858 [2, 3, 12, 45] (.node .leaf 241666 [0, 1, 6] .leaf)) 241667 [0, 1, 6] (.node (.node .leaf 241668 [0, 1, 6] .leaf) 245767 [0, 5] (.node .leaf 245769 [0, 5] .leaf))))))
noncomputable def ext8 : Nat → Tup [(.i .i64, .r)] → Option (Tup [(.a 0, .o .r), (.i .i64, .r)]) := fun _ x => Dk.xNew x.1
noncomputable def ext10 : Nat → Tup [(.a 0, .b)] → Option (Tup [(.a 0, .o .r)]) := fun _ x => Dk.xClone x.1
noncomputable def ext11 : Nat → Tup [(.a 0, .o .r), (.l (.i .i64), .b)] → Option (Tup [(.i .i64, .r), (.a 0, .o .r)]) := fun _ x => Dk.xCrash x.1 x.2.1
noncomputable def ext12 : Nat → Tup [(.a 0, .b)] → Option (Tup [(.l .s, .o .r)]) := fun _ x => Dk.xList x.1
noncomputable def ext14 : Nat → Tup [(.a 0, .b), (.s, .r)] → Option (Tup [(.i .i64, .r), (.i .i64, .r), (.i .i64, .r)]) := fun _ x => Dk.xSize x.1 x.2.1
noncomputable def ext15 : Nat → Tup [(.a 0, .b)] → Option (Tup [(.i .i64, .r)]) := fun _ x => Dk.xUsed x.1
noncomputable def ext20 : Nat → Tup [(.a 0, .b), (.a 0, .b)] → Option (Tup [(.b, .r)]) := fun _ x => Dk.xSame x.1 x.2.1
noncomputable def ext21 : Nat → Tup [(.a 0, .b)] → Option (Tup [(.i .i64, .r)]) := fun _ x => Dk.xRefused x.1
noncomputable def ext22 : Nat → Tup [(.a 0, .b)] → Option (Tup [(.i .i64, .r)]) := fun _ x => Dk.xQuota x.1
noncomputable def ext23 : Nat → Tup [(.a 0, .o .r), (.i .i64, .r), (.i .i64, .r)] → Option (Tup [(.i .i64, .r), (.a 0, .o .r)]) := fun _ x => Dk.xRefuse x.1 x.2.1 x.2.2.1
noncomputable def ext24 : Nat → Tup [(.a 0, .o .r), (.s, .r)] → Option (Tup [(.i .i64, .r), (.a 0, .o .r)]) := fun _ x => Dk.xCreate x.1 x.2.1
noncomputable def ext25 : Nat → Tup [(.a 0, .o .r), (.s, .r), (.l .by, .b)] → Option (Tup [(.i .i64, .r), (.a 0, .o .r)]) := fun _ x => Dk.xAppend x.1 x.2.1 x.2.2.1
noncomputable def ext26 : Nat → Tup [(.a 0, .b), (.s, .r), (.i .i64, .r), (.i .i64, .r)] → Option (Tup [(.l .by, .o .r), (.i .i64, .r)]) := fun _ x => Dk.xRead x.1 x.2.1 x.2.2.1 x.2.2.2.1
noncomputable def ext31 : Nat → Tup [(.a 0, .o .r), (.s, .r)] → Option (Tup [(.i .i64, .r), (.a 0, .o .r)]) := fun _ x => Dk.xSync x.1 x.2.1
noncomputable def ext32 : Nat → Tup [(.a 0, .o .r), (.s, .r), (.s, .r)] → Option (Tup [(.i .i64, .r), (.a 0, .o .r)]) := fun _ x => Dk.xRename x.1 x.2.1 x.2.2.1
noncomputable def ext33 : Nat → Tup [(.a 0, .o .r), (.s, .r)] → Option (Tup [(.i .i64, .r), (.a 0, .o .r)]) := fun _ x => Dk.xRemove x.1 x.2.1
noncomputable def ext34 : Nat → Tup [(.a 0, .o .r), (.i .i64, .r)] → Option (Tup [(.i .i64, .r), (.a 0, .o .r)]) := fun _ x => Dk.xSetQuota x.1 x.2.1
noncomputable def ext : (g : FuncId) → Option (Nat → Tup ((sigs.get g).getD ⟨[], [], 0⟩).ps → Option (Tup ((sigs.get g).getD ⟨[], [], 0⟩).rs))
  | 8 => some ext8
  | 10 => some ext10
  | 11 => some ext11
  | 12 => some ext12
  | 14 => some ext14
  | 15 => some ext15
  | 20 => some ext20
  | 21 => some ext21
  | 22 => some ext22
  | 23 => some ext23
  | 24 => some ext24
  | 25 => some ext25
  | 26 => some ext26
  | 31 => some ext31
  | 32 => some ext32
  | 33 => some ext33
  | 34 => some ext34
  | _ => none
noncomputable def lims : BT Nat := (.node (.node (.node .leaf 23 1073741824 .leaf) 29 1073741824 (.node .leaf 34 1073741824 .leaf)) 76 1073741824 .leaf)
noncomputable def G : Prg where
  ty T := tys.get T
  lim T := (lims.get T).getD 0
  cmp T := memb [94] T
  sig g := (sigs.get g).getD ⟨[], [], 0⟩
  body g := bodies.get g
  ext g := ext g
  live g r := lives.get (Nat.add (Nat.mul g 4096) r)
end DkGG

namespace Go.Proofs.Ytcfagjkijhjaoaa.DkGGP
open Go.ChangeShapes Go.WideShapes Go.ChangeAt Go.RowKit
theorem env : Lk.EnvOk Try.prog DkGG.G.toEnv := Lk.env_ok (tys := DkGG.tys) (lims := DkGG.lims) (cmps := [94]) (fun _ => rfl) (fun _ => rfl) (fun _ => rfl) (by kernel_rfl) (by kernel_rfl)
theorem names : (DkGG.bodies.toList ++ DkGG.exts.toList).all (fun p => Lk.nameB p.2) = true := by kernel_rfl
theorem nrs : DkGG.bodies.toList.all (Lk.nrB DkGG.sigs) = true := by kernel_rfl
theorem funcs : ∀ p ∈ DkGG.bodies.toList ++ DkGG.exts.toList, Try.prog.funcs[p.1]? = some p.2 := by
  intro p hp
  have e : DkGG.bodies.toList ++ DkGG.exts.toList = [(3, Try.f3), (4, Try.f4), (5, Try.f5), (7, Try.f7), (9, Try.f9), (13, Try.f13), (16, Try.f16), (17, Try.f17), (18, Try.f18), (19, Try.f19), (27, Try.f27), (28, Try.f28), (30, Try.f30), (39, Try.f39), (40, Try.f40), (41, Try.f41), (42, Try.f42), (43, Try.f43), (44, Try.f44), (45, Try.f45), (46, Try.f46), (47, Try.f47), (48, Try.f48), (49, Try.f49), (50, Try.f50), (58, Try.f58), (59, Try.f59), (60, Try.f60), (61, Try.f61), (8, Try.f8), (10, Try.f10), (11, Try.f11), (12, Try.f12), (14, Try.f14), (15, Try.f15), (20, Try.f20), (21, Try.f21), (22, Try.f22), (23, Try.f23), (24, Try.f24), (25, Try.f25), (26, Try.f26), (31, Try.f31), (32, Try.f32), (33, Try.f33), (34, Try.f34)] := by kernel_rfl
  rw [e] at hp
  simp only [List.mem_cons, List.not_mem_nil, or_false] at hp
  rcases hp with rfl | rfl | rfl | rfl | rfl | rfl | rfl | rfl | rfl | rfl | rfl | rfl | rfl | rfl | rfl | rfl | rfl | rfl | rfl | rfl | rfl | rfl | rfl | rfl | rfl | rfl | rfl | rfl | rfl | rfl | rfl | rfl | rfl | rfl | rfl | rfl | rfl | rfl | rfl | rfl | rfl | rfl | rfl | rfl | rfl | rfl
  · exact Try.func3
  · exact Try.func4
  · exact Try.func5
  · exact Try.func7
  · exact Try.func9
  · exact Try.func13
  · exact Try.func16
  · exact Try.func17
  · exact Try.func18
  · exact Try.func19
  · exact Try.func27
  · exact Try.func28
  · exact Try.func30
  · exact Try.func39
  · exact Try.func40
  · exact Try.func41
  · exact Try.func42
  · exact Try.func43
  · exact Try.func44
  · exact Try.func45
  · exact Try.func46
  · exact Try.func47
  · exact Try.func48
  · exact Try.func49
  · exact Try.func50
  · exact Try.func58
  · exact Try.func59
  · exact Try.func60
  · exact Try.func61
  · exact Try.func8
  · exact Try.func10
  · exact Try.func11
  · exact Try.func12
  · exact Try.func14
  · exact Try.func15
  · exact Try.func20
  · exact Try.func21
  · exact Try.func22
  · exact Try.func23
  · exact Try.func24
  · exact Try.func25
  · exact Try.func26
  · exact Try.func31
  · exact Try.func32
  · exact Try.func33
  · exact Try.func34
theorem exts : ∀ g F n, DkGG.G.ext g = some F → Lk.FnOk (τ := ax) (Kw := kw) Try.prog g (DkGG.G.sig g) (F n) := by
  intro g F n h
  show Lk.FnOk (τ := ax) (Kw := kw) Try.prog g ((DkGG.sigs.get g).getD ⟨[], [], 0⟩) (F n)
  change DkGG.ext g = some F at h
  unfold DkGG.ext at h
  split at h
  · cases h; exact ok_new n
  · cases h; exact ok_clone n
  · cases h; exact ok_crash n
  · cases h; exact ok_list n
  · cases h; exact ok_size n
  · cases h; exact ok_used n
  · cases h; exact ok_same n
  · cases h; exact ok_refused n
  · cases h; exact ok_quota n
  · cases h; exact ok_refuse n
  · cases h; exact ok_create n
  · cases h; exact ok_append n
  · cases h; exact ok_read n
  · cases h; exact ok_sync n
  · cases h; exact ok_rename n
  · cases h; exact ok_remove n
  · cases h; exact ok_setQuota n
  · cases h
theorem extb : ∀ g F, DkGG.G.ext g = some F → (DkGG.exts.get g).isSome = true := by
  intro g F h
  change DkGG.ext g = some F at h
  unfold DkGG.ext at h
  split at h
  · rfl
  · rfl
  · rfl
  · rfl
  · rfl
  · rfl
  · rfl
  · rfl
  · rfl
  · rfl
  · rfl
  · rfl
  · rfl
  · rfl
  · rfl
  · rfl
  · rfl
  · cases h
theorem prg : Lk.PrgOk kw ax Try.prog DkGG.G :=
  Lk.prg_ok (bodies := DkGG.bodies) (exts := DkGG.exts) env (by kernel_rfl) (fun _ _ _ h _ _ _ => h) (fun _ => rfl) extb exts funcs names (by kernel_rfl)
theorem res : ∀ g fn, DkGG.G.body g = some fn → fn.results.size ≤ 5 ∧ (DkGG.G.sig g).nr = fn.results.size := Lk.res_le (bodies := DkGG.bodies) (exts := DkGG.exts) (sigs := DkGG.sigs) (fun _ => rfl) (fun _ => rfl) names nrs
end Go.Proofs.Ytcfagjkijhjaoaa.DkGGP

/-! What the bulk of the input says of the acts. -/
namespace Go.Proofs.Ytcfagjkijhjaoaa
open Go.ChangeShapes Go.WideShapes Go.ChangeAt Go.RowKit

theorem bulk_pos {H : Type} (d : DataW H) : 1 ≤ Rows.uptoBulk d := by
  cases d with
  | lit l => cases l <;> simp [Rows.uptoBulk]
  | _ => simp [Rows.uptoBulk]

theorem bulk_len {H : Type} : ∀ es : List (DataW H), es.length ≤ Rows.uptoBulkAll es
  | [] => Nat.zero_le _
  | d :: es => by
    have h1 := bulk_len es
    have h2 := bulk_pos d
    simp only [List.length_cons, Rows.uptoBulkAll]; omega

theorem bulk_mem {H : Type} {e : DataW H} : ∀ {es : List (DataW H)}, e ∈ es → Rows.uptoBulk e ≤ Rows.uptoBulkAll es
  | [], h => by cases h
  | d :: es, h => by
    simp only [Rows.uptoBulkAll]
    rcases List.mem_cons.1 h with rfl | h
    · omega
    · have := bulk_mem h; omega

theorem row_bulk {H : Type} {t : Lk.Ty} {x : Lk.E (.l t)} {d : DataW H} (h : Lk.ToldG (.l t) x (.inl d)) : List.length x ≤ Rows.uptoBulk d := by
  rcases h with ⟨rfl, rfl⟩ | ⟨es, rest, rfl, h⟩
  · simp
  · have := Lk.All2.length h
    have h2 := bulk_len es
    simp only [Rows.uptoBulk]; omega

theorem row_mem {H : Type} {t : Lk.Ty} {x : Lk.E (.l t)} {d : DataW H} (h : Lk.ToldG (.l t) x (.inl d)) {y : Lk.E t} (hy : y ∈ x) : ∃ e : DataW H, Lk.ToldG t y (.inl e) ∧ Rows.uptoBulk e ≤ Rows.uptoBulk d := by
  rcases h with ⟨rfl, rfl⟩ | ⟨es, rest, rfl, h⟩
  · cases hy
  · have key : ∀ {x : List (Lk.E t)} {es : List (DataW H)}, Lk.All2 (fun y e => Lk.ToldG t y (.inl e)) x es → y ∈ x → ∃ e ∈ es, Lk.ToldG t y (.inl e) := by
      intro x
      induction x with
      | nil => intro es _ hy; cases hy
      | cons z x ih =>
        intro es h hy
        cases es with
        | nil => exact h.elim
        | cons e es =>
          obtain ⟨h1, h2⟩ := h
          rcases List.mem_cons.1 hy with rfl | hy
          · exact ⟨e, List.mem_cons_self .., h1⟩
          · obtain ⟨e', h3, h4⟩ := ih h2 hy
            exact ⟨e', List.mem_cons_of_mem _ h3, h4⟩
    obtain ⟨e, h1, h2⟩ := key h hy
    refine ⟨e, h2, ?_⟩
    have := bulk_mem h1
    simp only [Rows.uptoBulk]; omega

abbrev actT : Lk.Ty := .c (.i .i64) (.c .s (.c .s (.c (.l .by) (.c (.i .i64) (.c (.i .i64) (.c (.l (.i .i64)) .u))))))

theorem act_fine {H : Type} {a : Lk.E actT} {d : DataW H} (h : Lk.ToldG actT a (.inl d)) (hr : Lk.Rng actT a) (hb : Rows.uptoBulk d ≤ 1048576) : Dk.Fine a := by
  obtain ⟨a1, l1, rfl, _, a2, l2, rfl, _, a3, l3, rfl, _, a4, l4, rfl, t4, a5, l5, rfl, _, a6, l6, rfl, _, a7, l7, rfl, t7, _⟩ := h
  have b4 := row_bulk t4
  have b7 := row_bulk t7
  simp only [Rows.uptoBulk, Rows.uptoBulkAll] at hb
  obtain ⟨_, _, _, _, r5, r6, _⟩ := hr
  simp only [Lk.Rng, Lk.inR, Lk.kmin, Lk.kmax] at r5 r6
  exact ⟨Nat.le_trans b4 (by omega), Nat.le_trans b7 (by omega), r5.2, r6.2⟩

theorem acts_fine {H : Type} {x : Lk.E (.l actT)} {d : DataW H} (h : Lk.ToldG (.l actT) x (.inl d)) (hr : Lk.Rng (.l actT) x) (hb : Rows.uptoBulk d ≤ 1048576) : ∀ a ∈ (show List Dk.A from x), Dk.Fine a := by
  intro a ha
  obtain ⟨e, h1, h2⟩ := row_mem h ha
  exact act_fine h1 (hr a ha) (by omega)

theorem own : ownKnob Try.prog.godebug = none := by kernel_rfl
end Go.Proofs.Ytcfagjkijhjaoaa

namespace DkGG
open Go Lk 
set_option linter.unusedVariables false
/-- disk.New -/
@[irreducible] noncomputable def f8 (n : Nat) (a0 : Int) : Option (Option Lk.DiskS × Int × Unit) := F G n 8 (a0, ())
theorem f8_eq (n : Nat) (a0 : Int) : f8 n a0 = Dk.xNew a0 := by kernel_rfl
/-- Clone -/
@[irreducible] noncomputable def f10 (n : Nat) (a0 : Option Lk.DiskS) : Option (Option Lk.DiskS × Unit) := F G n 10 (a0, ())
theorem f10_eq (n : Nat) (a0 : Option Lk.DiskS) : f10 n a0 = Dk.xClone a0 := by kernel_rfl
/-- Crash -/
@[irreducible] noncomputable def f11 (n : Nat) (a0 : Option Lk.DiskS) (a1 : List Int) : Option (Int × Option Lk.DiskS × Unit) := F G n 11 (a0, a1, ())
theorem f11_eq (n : Nat) (a0 : Option Lk.DiskS) (a1 : List Int) : f11 n a0 a1 = Dk.xCrash a0 a1 := by kernel_rfl
/-- List -/
@[irreducible] noncomputable def f12 (n : Nat) (a0 : Option Lk.DiskS) : Option (List (List UInt8) × Unit) := F G n 12 (a0, ())
theorem f12_eq (n : Nat) (a0 : Option Lk.DiskS) : f12 n a0 = Dk.xList a0 := by kernel_rfl
/-- Size -/
@[irreducible] noncomputable def f14 (n : Nat) (a0 : Option Lk.DiskS) (a1 : List UInt8) : Option (Int × Int × Int × Unit) := F G n 14 (a0, a1, ())
theorem f14_eq (n : Nat) (a0 : Option Lk.DiskS) (a1 : List UInt8) : f14 n a0 a1 = Dk.xSize a0 a1 := by kernel_rfl
/-- Used -/
@[irreducible] noncomputable def f15 (n : Nat) (a0 : Option Lk.DiskS) : Option (Int × Unit) := F G n 15 (a0, ())
theorem f15_eq (n : Nat) (a0 : Option Lk.DiskS) : f15 n a0 = Dk.xUsed a0 := by kernel_rfl
/-- Same -/
@[irreducible] noncomputable def f20 (n : Nat) (a0 : Option Lk.DiskS) (a1 : Option Lk.DiskS) : Option (Bool × Unit) := F G n 20 (a0, a1, ())
theorem f20_eq (n : Nat) (a0 : Option Lk.DiskS) (a1 : Option Lk.DiskS) : f20 n a0 a1 = Dk.xSame a0 a1 := by kernel_rfl
/-- Refused -/
@[irreducible] noncomputable def f21 (n : Nat) (a0 : Option Lk.DiskS) : Option (Int × Unit) := F G n 21 (a0, ())
theorem f21_eq (n : Nat) (a0 : Option Lk.DiskS) : f21 n a0 = Dk.xRefused a0 := by kernel_rfl
/-- Quota -/
@[irreducible] noncomputable def f22 (n : Nat) (a0 : Option Lk.DiskS) : Option (Int × Unit) := F G n 22 (a0, ())
theorem f22_eq (n : Nat) (a0 : Option Lk.DiskS) : f22 n a0 = Dk.xQuota a0 := by kernel_rfl
/-- Refuse -/
@[irreducible] noncomputable def f23 (n : Nat) (a0 : Option Lk.DiskS) (a1 : Int) (a2 : Int) : Option (Int × Option Lk.DiskS × Unit) := F G n 23 (a0, a1, a2, ())
theorem f23_eq (n : Nat) (a0 : Option Lk.DiskS) (a1 : Int) (a2 : Int) : f23 n a0 a1 a2 = Dk.xRefuse a0 a1 a2 := by kernel_rfl
/-- Create -/
@[irreducible] noncomputable def f24 (n : Nat) (a0 : Option Lk.DiskS) (a1 : List UInt8) : Option (Int × Option Lk.DiskS × Unit) := F G n 24 (a0, a1, ())
theorem f24_eq (n : Nat) (a0 : Option Lk.DiskS) (a1 : List UInt8) : f24 n a0 a1 = Dk.xCreate a0 a1 := by kernel_rfl
/-- Append -/
@[irreducible] noncomputable def f25 (n : Nat) (a0 : Option Lk.DiskS) (a1 : List UInt8) (a2 : List UInt8) : Option (Int × Option Lk.DiskS × Unit) := F G n 25 (a0, a1, a2, ())
theorem f25_eq (n : Nat) (a0 : Option Lk.DiskS) (a1 : List UInt8) (a2 : List UInt8) : f25 n a0 a1 a2 = Dk.xAppend a0 a1 a2 := by kernel_rfl
/-- Read -/
@[irreducible] noncomputable def f26 (n : Nat) (a0 : Option Lk.DiskS) (a1 : List UInt8) (a2 : Int) (a3 : Int) : Option (List UInt8 × Int × Unit) := F G n 26 (a0, a1, a2, a3, ())
theorem f26_eq (n : Nat) (a0 : Option Lk.DiskS) (a1 : List UInt8) (a2 : Int) (a3 : Int) : f26 n a0 a1 a2 a3 = Dk.xRead a0 a1 a2 a3 := by kernel_rfl
/-- Sync -/
@[irreducible] noncomputable def f31 (n : Nat) (a0 : Option Lk.DiskS) (a1 : List UInt8) : Option (Int × Option Lk.DiskS × Unit) := F G n 31 (a0, a1, ())
theorem f31_eq (n : Nat) (a0 : Option Lk.DiskS) (a1 : List UInt8) : f31 n a0 a1 = Dk.xSync a0 a1 := by kernel_rfl
/-- Rename -/
@[irreducible] noncomputable def f32 (n : Nat) (a0 : Option Lk.DiskS) (a1 : List UInt8) (a2 : List UInt8) : Option (Int × Option Lk.DiskS × Unit) := F G n 32 (a0, a1, a2, ())
theorem f32_eq (n : Nat) (a0 : Option Lk.DiskS) (a1 : List UInt8) (a2 : List UInt8) : f32 n a0 a1 a2 = Dk.xRename a0 a1 a2 := by kernel_rfl
/-- Remove -/
@[irreducible] noncomputable def f33 (n : Nat) (a0 : Option Lk.DiskS) (a1 : List UInt8) : Option (Int × Option Lk.DiskS × Unit) := F G n 33 (a0, a1, ())
theorem f33_eq (n : Nat) (a0 : Option Lk.DiskS) (a1 : List UInt8) : f33 n a0 a1 = Dk.xRemove a0 a1 := by kernel_rfl
/-- SetQuota -/
@[irreducible] noncomputable def f34 (n : Nat) (a0 : Option Lk.DiskS) (a1 : Int) : Option (Int × Option Lk.DiskS × Unit) := F G n 34 (a0, a1, ())
theorem f34_eq (n : Nat) (a0 : Option Lk.DiskS) (a1 : Int) : f34 n a0 a1 = Dk.xSetQuota a0 a1 := by kernel_rfl
/-- moraine/morainelaw05.lent -/
@[irreducible] noncomputable def f30 (n : Nat) (a0 : List (UInt8)) : Option (List (UInt8) × Unit) := F G n 30 (a0, ())
/-- moraine/morainelaw05.does -/
@[irreducible] noncomputable def f9 (n : Nat) (a0 : Option Lk.DiskS) (a1 : (Int × (List UInt8 × (List UInt8 × (List (UInt8) × (Int × (Int × (List (Int) × Unit)))))))) : Option (Int × Option Lk.DiskS × Unit) := F G n 9 (a0, a1, ())
@[irreducible] noncomputable def p9_8 (j : Nat) (n0 : Nat) (v0 : Option Lk.DiskS) (v5 : List (UInt8)) (v6 : Int) (v7 : Int) : Option (Int × Option Lk.DiskS × Unit) := piece G 9 [.r, .l, .r, .b, .r, .f, .r, .t, .r, .r, .l, .r, .b] j [n0] (skel 83 0 [(0, .av ⟨(.a 0), (.o .r), v0⟩), (5, .av ⟨(.l .by), (.o .r), v5⟩), (6, .av ⟨(.i .i64), .r, v6⟩), (7, .av ⟨(.i .i64), .r, v7⟩)])
/-- moraine/morainelaw05.bytes -/
@[irreducible] noncomputable def f13 (n : Nat) (a0 : Option Lk.DiskS) (a1 : List UInt8) : Option (List UInt8 × Unit) := F G n 13 (a0, a1, ())
/-- moraine/morainelaw05.DiskLasts -/
@[irreducible] noncomputable def f3 (n : Nat) (a0 : Int) (a1 : List ((Int × (List UInt8 × (List UInt8 × (List (UInt8) × (Int × (Int × (List (Int) × Unit))))))))) (a2 : List (Int)) : Option (Bool × Unit) := F G n 3 (a0, a1, a2, ())
@[irreducible] noncomputable def p3_5 (j : Nat) (n0 : Nat) (v1 : List ((Int × (List UInt8 × (List UInt8 × (List (UInt8) × (Int × (Int × (List (Int) × Unit))))))))) (v2 : List (Int)) (v7 : Option Lk.DiskS) (v9 : Int) : Option (Bool × Unit) := piece G 3 [.r, .r, .r, .l, .r, .b] j [n0] (skel 164 0 [(1, .av ⟨(.l (.c (.i .i64) (.c .s (.c .s (.c (.l .by) (.c (.i .i64) (.c (.i .i64) (.c (.l (.i .i64)) .u)))))))), .b, v1⟩), (2, .av ⟨(.l (.i .i64)), .b, v2⟩), (7, .av ⟨(.a 0), (.o .r), v7⟩), (9, .av ⟨(.i .i64), .r, v9⟩)])
@[irreducible] noncomputable def p3_2058 (j : Nat) (n0 : Nat) (v2 : List (Int)) (v7 : Option Lk.DiskS) (v10 : Option Lk.DiskS) (v62 : Bool) : Option (Bool × Unit) := piece G 3 [.r, .r, .r, .r, .r, .l, .r] j [n0] (skel 164 0 [(2, .av ⟨(.l (.i .i64)), .b, v2⟩), (7, .av ⟨(.a 0), (.o .r), v7⟩), (10, .av ⟨(.a 0), (.o .r), v10⟩), (62, .av ⟨.b, .r, v62⟩)])
@[irreducible] noncomputable def p3_11 (j : Nat) (n0 : Nat) (v2 : List (Int)) (v7 : Option Lk.DiskS) (v10 : Option Lk.DiskS) : Option (Bool × Unit) := piece G 3 [.r, .r, .r, .r, .r, .r] j [n0] (skel 164 0 [(2, .av ⟨(.l (.i .i64)), .b, v2⟩), (7, .av ⟨(.a 0), (.o .r), v7⟩), (10, .av ⟨(.a 0), (.o .r), v10⟩)])
@[irreducible] noncomputable def p3_15 (j : Nat) (n0 : Nat) (n1 : Nat) (v2 : List (Int)) (v7 : Option Lk.DiskS) (v10 : Option Lk.DiskS) (v11 : List (List UInt8)) (v12 : List (List UInt8)) (v13 : Int) : Option (Bool × Unit) := piece G 3 [.r, .r, .r, .r, .r, .r, .r, .r, .l, .r, .b] j [n0, n1] (skel 164 0 [(2, .av ⟨(.l (.i .i64)), .b, v2⟩), (7, .av ⟨(.a 0), (.o .r), v7⟩), (10, .av ⟨(.a 0), (.o .r), v10⟩), (11, .av ⟨(.l .s), (.o .r), v11⟩), (12, .av ⟨(.l .s), (.o .r), v12⟩), (13, .av ⟨(.i .i64), .r, v13⟩)])
@[irreducible] noncomputable def p3_2069 (j : Nat) (n0 : Nat) (n1 : Nat) (n2 : Nat) (v2 : List (Int)) (v7 : Option Lk.DiskS) (v10 : Option Lk.DiskS) (v11 : List (List UInt8)) (v12 : List (List UInt8)) (v13 : Int) (v15 : List UInt8) (v17 : Int) (v144 : Bool) : Option (Bool × Unit) := piece G 3 [.r, .r, .r, .r, .r, .r, .r, .r, .l, .r, .b, .o, .r, .l, .b, .r, .r, .r, .l, .r] j [n0, n1, n2] (skel 164 0 [(2, .av ⟨(.l (.i .i64)), .b, v2⟩), (7, .av ⟨(.a 0), (.o .r), v7⟩), (10, .av ⟨(.a 0), (.o .r), v10⟩), (11, .av ⟨(.l .s), (.o .r), v11⟩), (12, .av ⟨(.l .s), (.o .r), v12⟩), (13, .av ⟨(.i .i64), .r, v13⟩), (15, .av ⟨.s, .r, v15⟩), (17, .av ⟨(.i .i64), .r, v17⟩), (144, .av ⟨.b, .r, v144⟩)])
@[irreducible] noncomputable def p3_22 (j : Nat) (n0 : Nat) (n1 : Nat) (n2 : Nat) (v2 : List (Int)) (v7 : Option Lk.DiskS) (v10 : Option Lk.DiskS) (v11 : List (List UInt8)) (v12 : List (List UInt8)) (v13 : Int) (v15 : List UInt8) (v17 : Int) : Option (Bool × Unit) := piece G 3 [.r, .r, .r, .r, .r, .r, .r, .r, .l, .r, .b, .o, .r, .l, .b, .r, .r, .r, .r] j [n0, n1, n2] (skel 164 0 [(2, .av ⟨(.l (.i .i64)), .b, v2⟩), (7, .av ⟨(.a 0), (.o .r), v7⟩), (10, .av ⟨(.a 0), (.o .r), v10⟩), (11, .av ⟨(.l .s), (.o .r), v11⟩), (12, .av ⟨(.l .s), (.o .r), v12⟩), (13, .av ⟨(.i .i64), .r, v13⟩), (15, .av ⟨.s, .r, v15⟩), (17, .av ⟨(.i .i64), .r, v17⟩)])
@[irreducible] noncomputable def p3_2071 (j : Nat) (n0 : Nat) (n1 : Nat) (n2 : Nat) (n3 : Nat) (v2 : List (Int)) (v7 : Option Lk.DiskS) (v10 : Option Lk.DiskS) (v11 : List (List UInt8)) (v12 : List (List UInt8)) (v13 : Int) (v153 : Bool) : Option (Bool × Unit) := piece G 3 [.r, .r, .r, .r, .r, .r, .r, .r, .l, .r, .b, .o, .r, .l, .b, .r, .r, .r, .r, .r] j [n0, n1, n2, n3] (skel 164 0 [(2, .av ⟨(.l (.i .i64)), .b, v2⟩), (7, .av ⟨(.a 0), (.o .r), v7⟩), (10, .av ⟨(.a 0), (.o .r), v10⟩), (11, .av ⟨(.l .s), (.o .r), v11⟩), (12, .av ⟨(.l .s), (.o .r), v12⟩), (13, .av ⟨(.i .i64), .r, v13⟩), (153, .av ⟨.b, .r, v153⟩)])
@[irreducible] noncomputable def p3_16 (j : Nat) (n0 : Nat) (n1 : Nat) (n2 : Nat) (v2 : List (Int)) (v7 : Option Lk.DiskS) (v10 : Option Lk.DiskS) (v11 : List (List UInt8)) (v12 : List (List UInt8)) (v13 : Int) : Option (Bool × Unit) := piece G 3 [.r, .r, .r, .r, .r, .r, .r, .r, .l, .r, .b, .o, .r, .r] j [n0, n1, n2] (skel 164 0 [(2, .av ⟨(.l (.i .i64)), .b, v2⟩), (7, .av ⟨(.a 0), (.o .r), v7⟩), (10, .av ⟨(.a 0), (.o .r), v10⟩), (11, .av ⟨(.l .s), (.o .r), v11⟩), (12, .av ⟨(.l .s), (.o .r), v12⟩), (13, .av ⟨(.i .i64), .r, v13⟩)])
/-- moraine/morainelaw05.DiskRefuses -/
@[irreducible] noncomputable def f5 (n : Nat) (a0 : Int) (a1 : List ((Int × (List UInt8 × (List UInt8 × (List (UInt8) × (Int × (Int × (List (Int) × Unit))))))))) : Option (Bool × Unit) := F G n 5 (a0, a1, ())
@[irreducible] noncomputable def p5_5 (j : Nat) (n0 : Nat) (v1 : List ((Int × (List UInt8 × (List UInt8 × (List (UInt8) × (Int × (Int × (List (Int) × Unit))))))))) (v5 : Option Lk.DiskS) (v7 : Int) : Option (Bool × Unit) := piece G 5 [.r, .r, .r, .l, .r, .b] j [n0] (skel 119 0 [(1, .av ⟨(.l (.c (.i .i64) (.c .s (.c .s (.c (.l .by) (.c (.i .i64) (.c (.i .i64) (.c (.l (.i .i64)) .u)))))))), .b, v1⟩), (5, .av ⟨(.a 0), (.o .r), v5⟩), (7, .av ⟨(.i .i64), .r, v7⟩)])
@[irreducible] noncomputable def p5_2058 (j : Nat) (n0 : Nat) (n1 : Nat) (v1 : List ((Int × (List UInt8 × (List UInt8 × (List (UInt8) × (Int × (Int × (List (Int) × Unit))))))))) (v5 : Option Lk.DiskS) (v7 : Int) (v8 : Option Lk.DiskS) (v9 : Int) (v53 : Bool) : Option (Bool × Unit) := piece G 5 [.r, .r, .r, .l, .r, .b, .o, .r, .l, .b, .r, .r, .l, .r] j [n0, n1] (skel 119 0 [(1, .av ⟨(.l (.c (.i .i64) (.c .s (.c .s (.c (.l .by) (.c (.i .i64) (.c (.i .i64) (.c (.l (.i .i64)) .u)))))))), .b, v1⟩), (5, .av ⟨(.a 0), (.o .r), v5⟩), (7, .av ⟨(.i .i64), .r, v7⟩), (8, .av ⟨(.a 0), (.o .r), v8⟩), (9, .av ⟨(.i .i64), .r, v9⟩), (53, .av ⟨.b, .r, v53⟩)])
@[irreducible] noncomputable def p5_2064 (j : Nat) (n0 : Nat) (v5 : Option Lk.DiskS) (v98 : Bool) : Option (Bool × Unit) := piece G 5 [.r, .r, .r, .r, .l, .r] j [n0] (skel 119 0 [(5, .av ⟨(.a 0), (.o .r), v5⟩), (98, .av ⟨.b, .r, v98⟩)])
@[irreducible] noncomputable def p5_11 (j : Nat) (n0 : Nat) (n1 : Nat) (v1 : List ((Int × (List UInt8 × (List UInt8 × (List (UInt8) × (Int × (Int × (List (Int) × Unit))))))))) (v5 : Option Lk.DiskS) (v7 : Int) (v8 : Option Lk.DiskS) (v9 : Int) : Option (Bool × Unit) := piece G 5 [.r, .r, .r, .l, .r, .b, .o, .r, .l, .b, .r, .r, .r] j [n0, n1] (skel 119 0 [(1, .av ⟨(.l (.c (.i .i64) (.c .s (.c .s (.c (.l .by) (.c (.i .i64) (.c (.i .i64) (.c (.l (.i .i64)) .u)))))))), .b, v1⟩), (5, .av ⟨(.a 0), (.o .r), v5⟩), (7, .av ⟨(.i .i64), .r, v7⟩), (8, .av ⟨(.a 0), (.o .r), v8⟩), (9, .av ⟨(.i .i64), .r, v9⟩)])
@[irreducible] noncomputable def p5_17 (j : Nat) (n0 : Nat) (v5 : Option Lk.DiskS) : Option (Bool × Unit) := piece G 5 [.r, .r, .r, .r, .r] j [n0] (skel 119 0 [(5, .av ⟨(.a 0), (.o .r), v5⟩)])
@[irreducible] noncomputable def p5_2060 (j : Nat) (n0 : Nat) (n1 : Nat) (n2 : Nat) (v1 : List ((Int × (List UInt8 × (List UInt8 × (List (UInt8) × (Int × (Int × (List (Int) × Unit))))))))) (v5 : Option Lk.DiskS) (v7 : Int) (v9 : Int) (v72 : Bool) : Option (Bool × Unit) := piece G 5 [.r, .r, .r, .l, .r, .b, .o, .r, .l, .b, .r, .r, .r, .l, .r] j [n0, n1, n2] (skel 119 0 [(1, .av ⟨(.l (.c (.i .i64) (.c .s (.c .s (.c (.l .by) (.c (.i .i64) (.c (.i .i64) (.c (.l (.i .i64)) .u)))))))), .b, v1⟩), (5, .av ⟨(.a 0), (.o .r), v5⟩), (7, .av ⟨(.i .i64), .r, v7⟩), (9, .av ⟨(.i .i64), .r, v9⟩), (72, .av ⟨.b, .r, v72⟩)])
@[irreducible] noncomputable def p5_2067 (j : Nat) (n0 : Nat) (n1 : Nat) (v5 : Option Lk.DiskS) (v115 : Bool) : Option (Bool × Unit) := piece G 5 [.r, .r, .r, .r, .r, .r, .l, .r] j [n0, n1] (skel 119 0 [(5, .av ⟨(.a 0), (.o .r), v5⟩), (115, .av ⟨.b, .r, v115⟩)])
@[irreducible] noncomputable def p5_13 (j : Nat) (n0 : Nat) (n1 : Nat) (n2 : Nat) (v1 : List ((Int × (List UInt8 × (List UInt8 × (List (UInt8) × (Int × (Int × (List (Int) × Unit))))))))) (v5 : Option Lk.DiskS) (v7 : Int) (v9 : Int) : Option (Bool × Unit) := piece G 5 [.r, .r, .r, .l, .r, .b, .o, .r, .l, .b, .r, .r, .r, .r] j [n0, n1, n2] (skel 119 0 [(1, .av ⟨(.l (.c (.i .i64) (.c .s (.c .s (.c (.l .by) (.c (.i .i64) (.c (.i .i64) (.c (.l (.i .i64)) .u)))))))), .b, v1⟩), (5, .av ⟨(.a 0), (.o .r), v5⟩), (7, .av ⟨(.i .i64), .r, v7⟩), (9, .av ⟨(.i .i64), .r, v9⟩)])
@[irreducible] noncomputable def p5_20 (j : Nat) (n0 : Nat) (n1 : Nat) (v5 : Option Lk.DiskS) : Option (Bool × Unit) := piece G 5 [.r, .r, .r, .r, .r, .r, .r] j [n0, n1] (skel 119 0 [(5, .av ⟨(.a 0), (.o .r), v5⟩)])
@[irreducible] noncomputable def p5_2062 (j : Nat) (n0 : Nat) (n1 : Nat) (n2 : Nat) (n3 : Nat) (v1 : List ((Int × (List UInt8 × (List UInt8 × (List (UInt8) × (Int × (Int × (List (Int) × Unit))))))))) (v5 : Option Lk.DiskS) (v7 : Int) (v89 : Bool) : Option (Bool × Unit) := piece G 5 [.r, .r, .r, .l, .r, .b, .o, .r, .l, .b, .r, .r, .r, .r, .r] j [n0, n1, n2, n3] (skel 119 0 [(1, .av ⟨(.l (.c (.i .i64) (.c .s (.c .s (.c (.l .by) (.c (.i .i64) (.c (.i .i64) (.c (.l (.i .i64)) .u)))))))), .b, v1⟩), (5, .av ⟨(.a 0), (.o .r), v5⟩), (7, .av ⟨(.i .i64), .r, v7⟩), (89, .av ⟨.b, .r, v89⟩)])
@[irreducible] noncomputable def p5_6 (j : Nat) (n0 : Nat) (n1 : Nat) (v1 : List ((Int × (List UInt8 × (List UInt8 × (List (UInt8) × (Int × (Int × (List (Int) × Unit))))))))) (v5 : Option Lk.DiskS) (v7 : Int) : Option (Bool × Unit) := piece G 5 [.r, .r, .r, .l, .r, .b, .o, .r, .r] j [n0, n1] (skel 119 0 [(1, .av ⟨(.l (.c (.i .i64) (.c .s (.c .s (.c (.l .by) (.c (.i .i64) (.c (.i .i64) (.c (.l (.i .i64)) .u)))))))), .b, v1⟩), (5, .av ⟨(.a 0), (.o .r), v5⟩), (7, .av ⟨(.i .i64), .r, v7⟩)])
theorem f30_eq (n : Nat) (a0 : List (UInt8)) : f30 (n + 1) a0 =
  (sel (Decidable.decide ((0 : Nat) + a0.length ≤ (1073741824 : Nat)))
   (sel (Decidable.decide (List.length ([] ++ a0) + (1 : Nat) ≤ (1073741824 : Nat)))
    (sel (Decidable.decide ((0 : Int) ≤ (↑a0.length : Int)))
     (sel (Decidable.decide ((↑a0.length : Int) ≤ (↑(List.length ([] ++ a0 ++ [(90 : UInt8)])) : Int)))
      (some (Lk.ext ([] ++ a0 ++ [(90 : UInt8)]) (0 : Int) (↑a0.length : Int), ()))
      none)
     none)
    none)
   none) := by kernel_rfl
theorem f9_eq (n : Nat) (a0 : Option Lk.DiskS) (a1 : (Int × (List UInt8 × (List UInt8 × (List (UInt8) × (Int × (Int × (List (Int) × Unit)))))))) : f9 (n + 1) a0 a1 =
  (sel ((Option.some a1).isSome)
   (sel (((Option.some a1).getD ((0 : Int), [], [], [], (0 : Int), (0 : Int), [], ())).fst == (0 : Int))
    (sel ((Option.some a1).isSome)
     (obind (f24 n (a0) (((Option.some a1).getD ((0 : Int), [], [], [], (0 : Int), (0 : Int), [], ())).snd.fst)) fun r111 =>
      (some (r111.fst, r111.snd.fst, ())))
     none)
    (sel (((Option.some a1).getD ((0 : Int), [], [], [], (0 : Int), (0 : Int), [], ())).fst == (1 : Int))
     (sel ((Option.some a1).isSome)
      (obind (f30 n (((Option.some a1).getD ((0 : Int), [], [], [], (0 : Int), (0 : Int), [], ())).snd.snd.snd.fst)) fun r191 =>
       (sel ((Option.some a1).isSome)
        (obind (f25 n (a0) (((Option.some a1).getD ((0 : Int), [], [], [], (0 : Int), (0 : Int), [], ())).snd.fst) (r191.fst)) fun r244 =>
         (p9_8 (n) (n) (r244.snd.fst) (r191.fst) (r244.fst) ((0 : Int))))
        none))
      none)
     (sel (((Option.some a1).getD ((0 : Int), [], [], [], (0 : Int), (0 : Int), [], ())).fst == (2 : Int))
      (sel ((Option.some a1).isSome)
       (obind (f31 n (a0) (((Option.some a1).getD ((0 : Int), [], [], [], (0 : Int), (0 : Int), [], ())).snd.fst)) fun r336 =>
        (some (r336.fst, r336.snd.fst, ())))
       none)
      (sel (((Option.some a1).getD ((0 : Int), [], [], [], (0 : Int), (0 : Int), [], ())).fst == (3 : Int))
       (sel ((Option.some a1).isSome)
        (sel ((Option.some a1).isSome)
         (obind (f32 n (a0) (((Option.some a1).getD ((0 : Int), [], [], [], (0 : Int), (0 : Int), [], ())).snd.fst) (((Option.some a1).getD ((0 : Int), [], [], [], (0 : Int), (0 : Int), [], ())).snd.snd.fst)) fun r437 =>
          (some (r437.fst, r437.snd.fst, ())))
         none)
        none)
       (sel (((Option.some a1).getD ((0 : Int), [], [], [], (0 : Int), (0 : Int), [], ())).fst == (4 : Int))
        (sel ((Option.some a1).isSome)
         (obind (f33 n (a0) (((Option.some a1).getD ((0 : Int), [], [], [], (0 : Int), (0 : Int), [], ())).snd.fst)) fun r524 =>
          (some (r524.fst, r524.snd.fst, ())))
         none)
        (sel (((Option.some a1).getD ((0 : Int), [], [], [], (0 : Int), (0 : Int), [], ())).fst == (5 : Int))
         (sel ((Option.some a1).isSome)
          (obind (f34 n (a0) (((Option.some a1).getD ((0 : Int), [], [], [], (0 : Int), (0 : Int), [], ())).snd.snd.snd.snd.snd.fst)) fun r611 =>
           (some (r611.fst, r611.snd.fst, ())))
          none)
         (sel (((Option.some a1).getD ((0 : Int), [], [], [], (0 : Int), (0 : Int), [], ())).fst == (6 : Int))
          (sel ((Option.some a1).isSome)
           (sel ((Option.some a1).isSome)
            (obind (f23 n (a0) (((Option.some a1).getD ((0 : Int), [], [], [], (0 : Int), (0 : Int), [], ())).snd.snd.snd.snd.fst) (((Option.some a1).getD ((0 : Int), [], [], [], (0 : Int), (0 : Int), [], ())).snd.snd.snd.snd.snd.fst)) fun r712 =>
             (some (r712.fst, r712.snd.fst, ())))
            none)
           none)
          (sel (((Option.some a1).getD ((0 : Int), [], [], [], (0 : Int), (0 : Int), [], ())).fst == (7 : Int))
           (sel ((Option.some a1).isSome)
            (sel (Decidable.decide ((0 : Nat) + List.length ((Option.some a1).getD ((0 : Int), [], [], [], (0 : Int), (0 : Int), [], ())).snd.snd.snd.snd.snd.snd.fst ≤ (1073741824 : Nat)))
             (obind (f11 n (a0) ([] ++ ((Option.some a1).getD ((0 : Int), [], [], [], (0 : Int), (0 : Int), [], ())).snd.snd.snd.snd.snd.snd.fst)) fun r813 =>
              (some (r813.fst, r813.snd.fst, ())))
             none)
            none)
           (some ((0 : Int), a0, ()))))))))))
   none) := by kernel_rfl
theorem p9_8_eq (j : Nat) (n0 : Nat) (v0 : Option Lk.DiskS) (v5 : List (UInt8)) (v6 : Int) (v7 : Int) : p9_8 (j + 1) n0 v0 v5 v6 v7 =
  (sel (Decidable.decide (v7 < (↑v5.length : Int)))
   (sel (Decidable.decide ((0 : Int) ≤ v7))
    (sel (Decidable.decide (v7 < (↑v5.length : Int)))
     (sel (Decidable.decide ((0 : Int) ≤ v7))
      (sel (Decidable.decide (v7 < (↑v5.length : Int)))
       (p9_8 (j) (n0) (v0) (v5.set v7.toNat (UInt8.ofNat (Go.IntKind.u8.wrap ((↑(UInt8.toNat (v5.getD v7.toNat (0 : UInt8))) : Int) + (↑(UInt8.toNat (1 : UInt8)) : Int))).toNat)) (v6) (Go.IntKind.i64.wrap (v7 + (1 : Int))))
       none)
      none)
     none)
    none)
   (some (v6, v0, ()))) := by kernel_rfl
theorem f13_eq (n : Nat) (a0 : Option Lk.DiskS) (a1 : List UInt8) : f13 (n + 1) a0 a1 =
  (obind (f14 n (a0) (a1)) fun r47 =>
   (obind (f26 n (a0) (a1) ((0 : Int)) (r47.fst)) fun r135 =>
    (some (r135.fst, ())))) := by kernel_rfl
theorem f3_eq (n : Nat) (a0 : Int) (a1 : List ((Int × (List UInt8 × (List UInt8 × (List (UInt8) × (Int × (Int × (List (Int) × Unit))))))))) (a2 : List (Int)) : f3 (n + 1) a0 a1 a2 =
  (obind (f8 n (a0)) fun r40 =>
   (sel (Option.isNone r40.fst)
    (sel (r40.snd.fst == (2 : Int))
     (sel (Decidable.decide (a0 < (0 : Int)))
      (some (Bool.true, ()))
      (some (Decidable.decide (a0 > (268435456 : Int)), ())))
     (some (Bool.false, ())))
    (p3_5 (n) (n) (a1) (a2) (r40.fst) ((0 : Int))))) := by kernel_rfl
theorem p3_5_eq (j : Nat) (n0 : Nat) (v1 : List ((Int × (List UInt8 × (List UInt8 × (List (UInt8) × (Int × (Int × (List (Int) × Unit))))))))) (v2 : List (Int)) (v7 : Option Lk.DiskS) (v9 : Int) : p3_5 (j + 1) n0 v1 v2 v7 v9 =
  (sel (Decidable.decide (v9 < (↑v1.length : Int)))
   (sel (Decidable.decide ((0 : Int) ≤ v9))
    (sel (Decidable.decide (v9 < (↑v1.length : Int)))
     (obind (f9 j (v7) (v1.getD v9.toNat ((0 : Int), [], [], [], (0 : Int), (0 : Int), [], ()))) fun r490 =>
      (p3_5 (j) (n0) (v1) (v2) (r490.snd.fst) (Go.IntKind.i64.wrap (v9 + (1 : Int)))))
     none)
    none)
   (obind (f10 n0 (v7)) fun r557 =>
    (sel (Option.isNone r557.fst)
     (p3_2058 (n0) (n0) (v2) (v7) (r557.fst) (Bool.true))
     (sel (Decidable.decide ((0 : Nat) + v2.length ≤ (1073741824 : Nat)))
      (obind (f11 n0 (v7) ([] ++ v2)) fun r725 =>
       (p3_2058 (n0) (n0) (v2) (r725.snd.fst) (r557.fst) (r725.fst != (0 : Int))))
      none)))) := by kernel_rfl
theorem p3_2058_eq (j : Nat) (n0 : Nat) (v2 : List (Int)) (v7 : Option Lk.DiskS) (v10 : Option Lk.DiskS) (v62 : Bool) : p3_2058 (j + 1) n0 v2 v7 v10 v62 =
  (sel (v62)
   (some (Bool.false, ()))
   (p3_11 (n0) (n0) (v2) (v7) (v10))) := by kernel_rfl
theorem p3_11_eq (j : Nat) (n0 : Nat) (v2 : List (Int)) (v7 : Option Lk.DiskS) (v10 : Option Lk.DiskS) : p3_11 (j + 1) n0 v2 v7 v10 =
  (obind (f12 j (v10)) fun r812 =>
   (obind (f12 j (v7)) fun r829 =>
    (sel ((↑(List.length r812.fst) : Int) != (↑(List.length r829.fst) : Int))
     (some (Bool.false, ()))
     (p3_15 (j) (n0) (j) (v2) (v7) (v10) (r812.fst) (r829.fst) ((0 : Int)))))) := by kernel_rfl
theorem p3_15_eq (j : Nat) (n0 : Nat) (n1 : Nat) (v2 : List (Int)) (v7 : Option Lk.DiskS) (v10 : Option Lk.DiskS) (v11 : List (List UInt8)) (v12 : List (List UInt8)) (v13 : Int) : p3_15 (j + 1) n0 n1 v2 v7 v10 v11 v12 v13 =
  (sel (Decidable.decide (v13 < (↑v11.length : Int)))
   (sel (Decidable.decide ((0 : Int) ≤ v13))
    (sel (Decidable.decide (v13 < (↑v11.length : Int)))
     (obind (f13 j (v10) (v11.getD v13.toNat [])) fun r1049 =>
      (sel (Decidable.decide ((0 : Int) ≤ v13))
       (sel (Decidable.decide (v13 < (↑v11.length : Int)))
        (obind (f13 j (v7) (v11.getD v13.toNat [])) fun r1095 =>
         (sel (Decidable.decide ((0 : Int) ≤ v13))
          (sel (Decidable.decide (v13 < (↑v11.length : Int)))
           (obind (f14 j (v10) (v11.getD v13.toNat [])) fun r1161 =>
            (sel (Decidable.decide ((0 : Int) ≤ v13))
             (sel (Decidable.decide (v13 < (↑v11.length : Int)))
              (obind (f14 j (v7) (v11.getD v13.toNat [])) fun r1263 =>
               (sel (Decidable.decide ((0 : Int) ≤ v13))
                (sel (Decidable.decide (v13 < (↑v11.length : Int)))
                 (sel (Decidable.decide ((0 : Int) ≤ v13))
                  (sel (Decidable.decide (v13 < (↑v12.length : Int)))
                   (sel (!v11.getD v13.toNat [] == v12.getD v13.toNat [])
                    (p3_2069 (j) (n0) (n1) (j) (v2) (v7) (v10) (v11) (v12) (v13) (r1095.fst) (r1161.snd.fst) (Bool.true))
                    (sel (Decidable.decide ((↑(List.length r1095.fst) : Int) < r1161.snd.fst))
                     (p3_2069 (j) (n0) (n1) (j) (v2) (v7) (v10) (v11) (v12) (v13) (r1095.fst) (r1161.snd.fst) (Bool.true))
                     (sel (Decidable.decide ((↑(List.length r1095.fst) : Int) > (↑(List.length r1049.fst) : Int)))
                      (p3_2069 (j) (n0) (n1) (j) (v2) (v7) (v10) (v11) (v12) (v13) (r1095.fst) (r1161.snd.fst) (Bool.true))
                      (sel (Decidable.decide ((0 : Int) ≤ (↑(List.length r1095.fst) : Int)))
                       (sel (Decidable.decide ((↑(List.length r1095.fst) : Int) ≤ (↑(List.length r1049.fst) : Int)))
                        (sel (!Lk.ext r1049.fst (0 : Int) (↑(List.length r1095.fst) : Int) == r1095.fst)
                         (p3_2069 (j) (n0) (n1) (j) (v2) (v7) (v10) (v11) (v12) (v13) (r1095.fst) (r1161.snd.fst) (Bool.true))
                         (p3_2069 (j) (n0) (n1) (j) (v2) (v7) (v10) (v11) (v12) (v13) (r1095.fst) (r1161.snd.fst) (r1263.fst != r1263.snd.fst)))
                        none)
                       none))))
                   none)
                  none)
                 none)
                none))
              none)
             none))
           none)
          none))
        none)
       none))
     none)
    none)
   (obind (f11 n1 (v7) ([])) fun r2247 =>
    (sel (r2247.fst == (0 : Int))
     (obind (f15 n1 (r2247.snd.fst)) fun r2290 =>
      (obind (f15 n1 (v10)) fun r2319 =>
       (some (Decidable.decide (r2290.fst ≤ r2319.fst), ()))))
     (some (Bool.false, ()))))) := by kernel_rfl
theorem p3_2069_eq (j : Nat) (n0 : Nat) (n1 : Nat) (n2 : Nat) (v2 : List (Int)) (v7 : Option Lk.DiskS) (v10 : Option Lk.DiskS) (v11 : List (List UInt8)) (v12 : List (List UInt8)) (v13 : Int) (v15 : List UInt8) (v17 : Int) (v144 : Bool) : p3_2069 (j + 1) n0 n1 n2 v2 v7 v10 v11 v12 v13 v15 v17 v144 =
  (sel (v144)
   (some (Bool.false, ()))
   (p3_22 (n2) (n0) (n1) (n2) (v2) (v7) (v10) (v11) (v12) (v13) (v15) (v17))) := by kernel_rfl
theorem p3_22_eq (j : Nat) (n0 : Nat) (n1 : Nat) (n2 : Nat) (v2 : List (Int)) (v7 : Option Lk.DiskS) (v10 : Option Lk.DiskS) (v11 : List (List UInt8)) (v12 : List (List UInt8)) (v13 : Int) (v15 : List UInt8) (v17 : Int) : p3_22 (j + 1) n0 n1 n2 v2 v7 v10 v11 v12 v13 v15 v17 =
  (sel ((↑v2.length : Int) == (0 : Int))
   (p3_2071 (j) (n0) (n1) (n2) (j) (v2) (v7) (v10) (v11) (v12) (v13) ((↑v15.length : Int) != v17))
   (p3_2071 (j) (n0) (n1) (n2) (j) (v2) (v7) (v10) (v11) (v12) (v13) (Bool.false))) := by kernel_rfl
theorem p3_2071_eq (j : Nat) (n0 : Nat) (n1 : Nat) (n2 : Nat) (n3 : Nat) (v2 : List (Int)) (v7 : Option Lk.DiskS) (v10 : Option Lk.DiskS) (v11 : List (List UInt8)) (v12 : List (List UInt8)) (v13 : Int) (v153 : Bool) : p3_2071 (j + 1) n0 n1 n2 n3 v2 v7 v10 v11 v12 v13 v153 =
  (sel (v153)
   (some (Bool.false, ()))
   (p3_16 (n2) (n0) (n1) (n2) (v2) (v7) (v10) (v11) (v12) (v13))) := by kernel_rfl
theorem p3_16_eq (j : Nat) (n0 : Nat) (n1 : Nat) (n2 : Nat) (v2 : List (Int)) (v7 : Option Lk.DiskS) (v10 : Option Lk.DiskS) (v11 : List (List UInt8)) (v12 : List (List UInt8)) (v13 : Int) : p3_16 (j + 1) n0 n1 n2 v2 v7 v10 v11 v12 v13 =
  (p3_15 (n2) (n0) (n1) (v2) (v7) (v10) (v11) (v12) (Go.IntKind.i64.wrap (v13 + (1 : Int)))) := by kernel_rfl
theorem f5_eq (n : Nat) (a0 : Int) (a1 : List ((Int × (List UInt8 × (List UInt8 × (List (UInt8) × (Int × (Int × (List (Int) × Unit))))))))) : f5 (n + 1) a0 a1 =
  (obind (f8 n (a0)) fun r40 =>
   (sel (Option.isNone r40.fst)
    (sel (Decidable.decide (a0 < (0 : Int)))
     (some (Bool.true, ()))
     (some (Decidable.decide (a0 > (268435456 : Int)), ())))
    (p5_5 (n) (n) (a1) (r40.fst) ((0 : Int))))) := by kernel_rfl
theorem p5_5_eq (j : Nat) (n0 : Nat) (v1 : List ((Int × (List UInt8 × (List UInt8 × (List (UInt8) × (Int × (Int × (List (Int) × Unit))))))))) (v5 : Option Lk.DiskS) (v7 : Int) : p5_5 (j + 1) n0 v1 v5 v7 =
  (sel (Decidable.decide (v7 < (↑v1.length : Int)))
   (obind (f10 j (v5)) fun r324 =>
    (sel (Decidable.decide ((0 : Int) ≤ v7))
     (sel (Decidable.decide (v7 < (↑v1.length : Int)))
      (obind (f9 j (v5) (v1.getD v7.toNat ((0 : Int), [], [], [], (0 : Int), (0 : Int), [], ()))) fun r384 =>
       (sel (r384.fst == (52 : Int))
        (obind (f20 j (r384.snd.fst) (r324.fst)) fun r463 =>
         (sel (!r463.fst)
          (p5_2058 (j) (n0) (j) (v1) (r384.snd.fst) (v7) (r324.fst) (r384.fst) (Bool.true))
          (obind (f21 j (r384.snd.fst)) fun r594 =>
           (obind (f21 j (r324.fst)) fun r623 =>
            (p5_2058 (j) (n0) (j) (v1) (r384.snd.fst) (v7) (r324.fst) (r384.fst) (r594.fst != Go.IntKind.i64.wrap (r623.fst + (1 : Int))))))))
        (p5_2058 (j) (n0) (j) (v1) (r384.snd.fst) (v7) (r324.fst) (r384.fst) (Bool.false))))
      none)
     none))
   (obind (f23 n0 (v5) ((0 : Int)) ((0 : Int))) fun r806 =>
    (sel (r806.fst != (0 : Int))
     (p5_2064 (n0) (n0) (r806.snd.fst) (Bool.true))
     (obind (f12 n0 (r806.snd.fst)) fun r892 =>
      (p5_2064 (n0) (n0) (r806.snd.fst) (Decidable.decide ((↑(List.length r892.fst) : Int) ≥ (4096 : Int)))))))) := by kernel_rfl
theorem p5_2058_eq (j : Nat) (n0 : Nat) (n1 : Nat) (v1 : List ((Int × (List UInt8 × (List UInt8 × (List (UInt8) × (Int × (Int × (List (Int) × Unit))))))))) (v5 : Option Lk.DiskS) (v7 : Int) (v8 : Option Lk.DiskS) (v9 : Int) (v53 : Bool) : p5_2058 (j + 1) n0 n1 v1 v5 v7 v8 v9 v53 =
  (sel (v53)
   (some (Bool.false, ()))
   (p5_11 (n1) (n0) (n1) (v1) (v5) (v7) (v8) (v9))) := by kernel_rfl
theorem p5_2064_eq (j : Nat) (n0 : Nat) (v5 : Option Lk.DiskS) (v98 : Bool) : p5_2064 (j + 1) n0 v5 v98 =
  (sel (v98)
   (obind (f12 j (v5)) fun r1006 =>
    (some (Decidable.decide ((↑(List.length r1006.fst) : Int) ≤ (4096 : Int)), ())))
   (p5_17 (n0) (n0) (v5))) := by kernel_rfl
theorem p5_11_eq (j : Nat) (n0 : Nat) (n1 : Nat) (v1 : List ((Int × (List UInt8 × (List UInt8 × (List (UInt8) × (Int × (Int × (List (Int) × Unit))))))))) (v5 : Option Lk.DiskS) (v7 : Int) (v8 : Option Lk.DiskS) (v9 : Int) : p5_11 (j + 1) n0 n1 v1 v5 v7 v8 v9 =
  (sel (v9 != (52 : Int))
   (obind (f21 j (v5)) fun r1106 =>
    (obind (f21 j (v8)) fun r1135 =>
     (sel (r1106.fst != r1135.fst)
      (p5_2060 (j) (n0) (n1) (j) (v1) (v5) (v7) (v9) (Bool.true))
      (sel (v9 != (0 : Int))
       (obind (f20 j (v5) (v8)) fun r1310 =>
        (p5_2060 (j) (n0) (n1) (j) (v1) (v5) (v7) (v9) (!r1310.fst)))
       (p5_2060 (j) (n0) (n1) (j) (v1) (v5) (v7) (v9) (Bool.false))))))
   (sel (v9 != (0 : Int))
    (obind (f20 j (v5) (v8)) fun r1540 =>
     (p5_2060 (j) (n0) (n1) (j) (v1) (v5) (v7) (v9) (!r1540.fst)))
    (p5_2060 (j) (n0) (n1) (j) (v1) (v5) (v7) (v9) (Bool.false)))) := by kernel_rfl
theorem p5_17_eq (j : Nat) (n0 : Nat) (v5 : Option Lk.DiskS) : p5_17 (j + 1) n0 v5 =
  (obind (f24 j (v5) ([(97 : UInt8), (32 : UInt8), (102 : UInt8), (105 : UInt8), (108 : UInt8), (101 : UInt8), (32 : UInt8), (116 : UInt8), (104 : UInt8), (97 : UInt8), (116 : UInt8), (32 : UInt8), (110 : UInt8), (111 : UInt8), (98 : UInt8), (111 : UInt8), (100 : UInt8), (121 : UInt8), (32 : UInt8), (110 : UInt8), (97 : UInt8), (109 : UInt8), (101 : UInt8), (100 : UInt8)])) fun r1657 =>
   (sel (r1657.fst != (0 : Int))
    (sel (r1657.fst != (50 : Int))
     (p5_2067 (j) (n0) (j) (r1657.snd.fst) (Bool.true))
     (obind (f23 j (r1657.snd.fst) ((0 : Int)) ((1 : Int))) fun r1796 =>
      (p5_2067 (j) (n0) (j) (r1796.snd.fst) (r1796.fst != (0 : Int)))))
    (obind (f23 j (r1657.snd.fst) ((0 : Int)) ((1 : Int))) fun r1875 =>
     (p5_2067 (j) (n0) (j) (r1875.snd.fst) (r1875.fst != (0 : Int)))))) := by kernel_rfl
theorem p5_2060_eq (j : Nat) (n0 : Nat) (n1 : Nat) (n2 : Nat) (v1 : List ((Int × (List UInt8 × (List UInt8 × (List (UInt8) × (Int × (Int × (List (Int) × Unit))))))))) (v5 : Option Lk.DiskS) (v7 : Int) (v9 : Int) (v72 : Bool) : p5_2060 (j + 1) n0 n1 n2 v1 v5 v7 v9 v72 =
  (sel (v72)
   (some (Bool.false, ()))
   (p5_13 (n2) (n0) (n1) (n2) (v1) (v5) (v7) (v9))) := by kernel_rfl
theorem p5_2067_eq (j : Nat) (n0 : Nat) (n1 : Nat) (v5 : Option Lk.DiskS) (v115 : Bool) : p5_2067 (j + 1) n0 n1 v5 v115 =
  (sel (v115)
   (some (Bool.false, ()))
   (p5_20 (n1) (n0) (n1) (v5))) := by kernel_rfl
theorem p5_13_eq (j : Nat) (n0 : Nat) (n1 : Nat) (n2 : Nat) (v1 : List ((Int × (List UInt8 × (List UInt8 × (List (UInt8) × (Int × (Int × (List (Int) × Unit))))))))) (v5 : Option Lk.DiskS) (v7 : Int) (v9 : Int) : p5_13 (j + 1) n0 n1 n2 v1 v5 v7 v9 =
  (sel (Decidable.decide ((0 : Int) ≤ v7))
   (sel (Decidable.decide (v7 < (↑v1.length : Int)))
    (sel ((v1.getD v7.toNat ((0 : Int), [], [], [], (0 : Int), (0 : Int), [], ())).fst == (1 : Int))
     (sel (v9 == (0 : Int))
      (obind (f15 j (v5)) fun r2112 =>
       (obind (f22 j (v5)) fun r2141 =>
        (p5_2062 (j) (n0) (n1) (n2) (j) (v1) (v5) (v7) (Decidable.decide (r2112.fst > r2141.fst)))))
      (p5_2062 (j) (n0) (n1) (n2) (j) (v1) (v5) (v7) (Bool.false)))
     (p5_2062 (j) (n0) (n1) (n2) (j) (v1) (v5) (v7) (Bool.false)))
    none)
   none) := by kernel_rfl
theorem p5_20_eq (j : Nat) (n0 : Nat) (n1 : Nat) (v5 : Option Lk.DiskS) : p5_20 (j + 1) n0 n1 v5 =
  (obind (f25 j (v5) ([(97 : UInt8), (32 : UInt8), (102 : UInt8), (105 : UInt8), (108 : UInt8), (101 : UInt8), (32 : UInt8), (116 : UInt8), (104 : UInt8), (97 : UInt8), (116 : UInt8), (32 : UInt8), (110 : UInt8), (111 : UInt8), (98 : UInt8), (111 : UInt8), (100 : UInt8), (121 : UInt8), (32 : UInt8), (110 : UInt8), (97 : UInt8), (109 : UInt8), (101 : UInt8), (100 : UInt8)]) ([])) fun r2329 =>
   (some (r2329.fst == (52 : Int), ()))) := by kernel_rfl
theorem p5_2062_eq (j : Nat) (n0 : Nat) (n1 : Nat) (n2 : Nat) (n3 : Nat) (v1 : List ((Int × (List UInt8 × (List UInt8 × (List (UInt8) × (Int × (Int × (List (Int) × Unit))))))))) (v5 : Option Lk.DiskS) (v7 : Int) (v89 : Bool) : p5_2062 (j + 1) n0 n1 n2 n3 v1 v5 v7 v89 =
  (sel (v89)
   (some (Bool.false, ()))
   (p5_6 (n1) (n0) (n1) (v1) (v5) (v7))) := by kernel_rfl
theorem p5_6_eq (j : Nat) (n0 : Nat) (n1 : Nat) (v1 : List ((Int × (List UInt8 × (List UInt8 × (List (UInt8) × (Int × (Int × (List (Int) × Unit))))))))) (v5 : Option Lk.DiskS) (v7 : Int) : p5_6 (j + 1) n0 n1 v1 v5 v7 =
  (p5_5 (n1) (n0) (v1) (v5) (Go.IntKind.i64.wrap (v7 + (1 : Int)))) := by kernel_rfl
end DkGG

namespace DkGG
open Go Lk 
noncomputable def theFnsD : Dk.FnsD where
  f8 := f8
  f10 := f10
  f11 := f11
  f12 := f12
  f14 := f14
  f15 := f15
  f20 := f20
  f21 := f21
  f22 := f22
  f23 := f23
  f24 := f24
  f25 := f25
  f26 := f26
  f31 := f31
  f32 := f32
  f33 := f33
  f34 := f34
  f30 := f30
  f9 := f9
  p9_8 := p9_8
  f13 := f13
  f3 := f3
  p3_5 := p3_5
  p3_2058 := p3_2058
  p3_11 := p3_11
  p3_15 := p3_15
  p3_2069 := p3_2069
  p3_22 := p3_22
  p3_2071 := p3_2071
  p3_16 := p3_16
  f5 := f5
  p5_5 := p5_5
  p5_2058 := p5_2058
  p5_2064 := p5_2064
  p5_11 := p5_11
  p5_17 := p5_17
  p5_2060 := p5_2060
  p5_2067 := p5_2067
  p5_13 := p5_13
  p5_20 := p5_20
  p5_2062 := p5_2062
  p5_6 := p5_6
  f8_eq := f8_eq
  f10_eq := f10_eq
  f11_eq := f11_eq
  f12_eq := f12_eq
  f14_eq := f14_eq
  f15_eq := f15_eq
  f20_eq := f20_eq
  f21_eq := f21_eq
  f22_eq := f22_eq
  f23_eq := f23_eq
  f24_eq := f24_eq
  f25_eq := f25_eq
  f26_eq := f26_eq
  f31_eq := f31_eq
  f32_eq := f32_eq
  f33_eq := f33_eq
  f34_eq := f34_eq
  f30_eq := f30_eq
  f9_eq := f9_eq
  p9_8_eq := p9_8_eq
  f13_eq := f13_eq
  f3_eq := f3_eq
  p3_5_eq := p3_5_eq
  p3_2058_eq := p3_2058_eq
  p3_11_eq := p3_11_eq
  p3_15_eq := p3_15_eq
  p3_2069_eq := p3_2069_eq
  p3_22_eq := p3_22_eq
  p3_2071_eq := p3_2071_eq
  p3_16_eq := p3_16_eq
  f5_eq := f5_eq
  p5_5_eq := p5_5_eq
  p5_2058_eq := p5_2058_eq
  p5_2064_eq := p5_2064_eq
  p5_11_eq := p5_11_eq
  p5_17_eq := p5_17_eq
  p5_2060_eq := p5_2060_eq
  p5_2067_eq := p5_2067_eq
  p5_13_eq := p5_13_eq
  p5_20_eq := p5_20_eq
  p5_2062_eq := p5_2062_eq
  p5_6_eq := p5_6_eq
end DkGG

