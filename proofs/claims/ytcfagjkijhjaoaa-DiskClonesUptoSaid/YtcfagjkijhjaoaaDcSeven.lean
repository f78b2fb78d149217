import Derived.Test.YtcfagjkijhjaoaaProg
import Derived.Test.YtcfagjkijhjaoaaLkThree
import Derived.Test.YtcfagjkijhjaoaaDkFour
import Derived.Test.YtcfagjkijhjaoaaDkFive
import Derived.Test.YtcfagjkijhjaoaaRows
import Derived.WalkKit
import Derived.ProofKit
import Derived.Test.YtcfagjkijhjaoaaDcSix
set_option linter.all false
namespace DkGG
open Go Lk
noncomputable def tys : BT (Ty × Md) := (.node (.node (.node (.node (.node (.node (.node .leaf 1 (.z .fn, .r) .leaf) 2 (.i .i64, .r) (.node .leaf 3 (.i .i64, .r) .leaf)) 4 (.b, .r) (.node (.node .leaf 5 (.by, .r) .leaf) 6 (.by, .r) (.node .leaf 7 (.c (.i .i64) (.c (.i .i64) (.c (.b) (.c (.by) (.u)))), (.q .r (.q .r (.q .r (.q .r .r))))) .leaf))) 8 (.c (.i .i64) (.c (.i .i64) (.c (.b) (.c (.by) (.u)))), (.q .r (.q .r (.q .r (.q .r .r))))) (.node (.node (.node .leaf 9 (.s, .r) .leaf) 10 (.s, .r) (.node .leaf 11 (.s, .r) .leaf)) 12 (.i .u64, .r) (.node (.node .leaf 13 (.c (.s) (.c (.i .u64) (.u)), (.q .r (.q .r .r))) .leaf) 14 (.c (.s) (.c (.i .u64) (.u)), (.q .r (.q .r .r))) (.node .leaf 15 (.p (.c (.p (.c (.i .u64) (.c (.i .u64) (.c (.i .u32) (.c (.by) (.c (.by) (.c (.by) (.c (.by) (.c (.z .fn) (.c (.p (.by)) (.c (.i .i32) (.c (.i .i32) (.u))))))))))))) (.c (.p (.c (.i .u64) (.c (.i .u64) (.c (.i .u32) (.c (.by) (.c (.by) (.c (.by) (.c (.by) (.c (.z .fn) (.c (.p (.by)) (.c (.i .i32) (.c (.i .i32) (.u))))))))))))) (.c (.p (.c (.i .u64) (.c (.i .u64) (.c (.i .u32) (.c (.by) (.c (.by) (.c (.by) (.c (.by) (.c (.z .fn) (.c (.p (.by)) (.c (.i .i32) (.c (.i .i32) (.u))))))))))))) (.c (.s) (.u))))), (.o (.q (.o (.q .r (.q .r (.q .r (.q .r (.q .r (.q .r (.q .r (.q .r (.q (.o .r) (.q .r (.q .r .r)))))))))))) (.q (.o (.q .r (.q .r (.q .r (.q .r (.q .r (.q .r (.q .r (.q .r (.q (.o .r) (.q .r (.q .r .r)))))))))))) (.q (.o (.q .r (.q .r (.q .r (.q .r (.q .r (.q .r (.q .r (.q .r (.q (.o .r) (.q .r (.q .r .r)))))))))))) (.q .r .r)))))) .leaf)))) 16 (.z .pt, .r) (.node (.node (.node (.node .leaf 17 (.p (.c (.i .u64) (.c (.i .u64) (.c (.i .u32) (.c (.by) (.c (.by) (.c (.by) (.c (.by) (.c (.z .fn) (.c (.p (.by)) (.c (.i .i32) (.c (.i .i32) (.u)))))))))))), (.o (.q .r (.q .r (.q .r (.q .r (.q .r (.q .r (.q .r (.q .r (.q (.o .r) (.q .r (.q .r .r))))))))))))) .leaf) 18 (.c (.p (.c (.i .u64) (.c (.i .u64) (.c (.i .u32) (.c (.by) (.c (.by) (.c (.by) (.c (.by) (.c (.z .fn) (.c (.p (.by)) (.c (.i .i32) (.c (.i .i32) (.u))))))))))))) (.u), (.q (.o (.q .r (.q .r (.q .r (.q .r (.q .r (.q .r (.q .r (.q .r (.q (.o .r) (.q .r (.q .r .r)))))))))))) .r)) (.node .leaf 19 (.c (.p (.c (.i .u64) (.c (.i .u64) (.c (.i .u32) (.c (.by) (.c (.by) (.c (.by) (.c (.by) (.c (.z .fn) (.c (.p (.by)) (.c (.i .i32) (.c (.i .i32) (.u))))))))))))) (.u), (.q (.o (.q .r (.q .r (.q .r (.q .r (.q .r (.q .r (.q .r (.q .r (.q (.o .r) (.q .r (.q .r .r)))))))))))) .r)) .leaf)) 20 (.e, .r) (.node (.node .leaf 21 (.i .i32, .r) .leaf) 22 (.l (.c (.i .i64) (.c (.s) (.c (.s) (.c (.l (.by)) (.c (.i .i64) (.c (.i .i64) (.c (.l (.i .i64)) (.u)))))))), (.o (.q .r (.q .r (.q .r (.q (.o .r) (.q .r (.q .r (.q (.o .r) .r))))))))) (.node .leaf 23 (.l (.i .i64), (.o .r)) .leaf))) 24 (.a 0, (.o .r)) (.node (.node (.node .leaf 25 (.i .i64, .r) .leaf) 27 (.z .fn, .r) (.node .leaf 28 (.z .fn, .r) .leaf)) 29 (.l (.by), (.o .r)) (.node (.node .leaf 30 (.c (.i .i64) (.c (.s) (.c (.s) (.c (.l (.by)) (.c (.i .i64) (.c (.i .i64) (.c (.l (.i .i64)) (.u))))))), (.q .r (.q .r (.q .r (.q (.o .r) (.q .r (.q .r (.q (.o .r) .r)))))))) .leaf) 31 (.c (.i .i64) (.c (.s) (.c (.s) (.c (.l (.by)) (.c (.i .i64) (.c (.i .i64) (.c (.l (.i .i64)) (.u))))))), (.q .r (.q .r (.q .r (.q (.o .r) (.q .r (.q .r (.q (.o .r) .r)))))))) .leaf)))) 32 (.z .fn, .r) (.node (.node (.node (.node (.node .leaf 33 (.z .fn, .r) .leaf) 34 (.l (.s), (.o .r)) (.node .leaf 35 (.z .fn, .r) .leaf)) 36 (.z .fn, .r) (.node (.node .leaf 38 (.z .fn, .r) .leaf) 39 (.z .fn, .r) (.node .leaf 40 (.z .fn, .r) .leaf))) 41 (.p (.c (.l (.c (.s) (.c (.s) (.c (.i .i64) (.u))))) (.c (.i .i64) (.c (.i .i64) (.c (.i .i64) (.c (.i .i64) (.u)))))), (.o (.q (.o (.q .r (.q .r (.q .r .r)))) (.q .r (.q .r (.q .r (.q .r .r))))))) (.node (.node (.node .leaf 43 (.z .fn, .r) .leaf) 44 (.z .fn, .r) (.node .leaf 45 (.z .fn, .r) .leaf)) 46 (.z .fn, .r) (.node (.node .leaf 47 (.z .fn, .r) .leaf) 48 (.z .fn, .r) (.node .leaf 49 (.z .fn, .r) .leaf)))) 50 (.z .fn, .r) (.node (.node (.node (.node .leaf 51 (.z .fn, .r) .leaf) 52 (.z .mp, .r) (.node .leaf 53 (.c (.i .i64) (.c (.i .i64) (.u)), (.q .r (.q .r .r))) .leaf)) 54 (.c (.i .i64) (.c (.i .i64) (.u)), (.q .r (.q .r .r))) (.node (.node .leaf 55 (.c (.z .mp) (.c (.i .i64) (.c (.i .i64) (.c (.i .i64) (.c (.c (.i .i64) (.c (.i .i64) (.u))) (.u))))), (.q .r (.q .r (.q .r (.q .r (.q (.q .r (.q .r .r)) .r)))))) .leaf) 56 (.c (.z .mp) (.c (.i .i64) (.c (.i .i64) (.c (.i .i64) (.c (.c (.i .i64) (.c (.i .i64) (.u))) (.u))))), (.q .r (.q .r (.q .r (.q .r (.q (.q .r (.q .r .r)) .r)))))) (.node .leaf 57 (.l (.a 0), (.o (.o .r))) .leaf))) 59 (.z .fn, .r) (.node (.node (.node .leaf 60 (.z .fn, .r) .leaf) 61 (.c (.l (.c (.i .i64) (.c (.s) (.c (.s) (.c (.l (.by)) (.c (.i .i64) (.c (.i .i64) (.c (.l (.i .i64)) (.u))))))))) (.c (.l (.c (.i .i64) (.c (.s) (.c (.s) (.c (.l (.by)) (.c (.i .i64) (.c (.i .i64) (.c (.l (.i .i64)) (.u))))))))) (.u)), (.q (.o (.q .r (.q .r (.q .r (.q (.o .r) (.q .r (.q .r (.q (.o .r) .r)))))))) (.q (.o (.q .r (.q .r (.q .r (.q (.o .r) (.q .r (.q .r (.q (.o .r) .r)))))))) .r))) (.node .leaf 62 (.c (.l (.c (.i .i64) (.c (.s) (.c (.s) (.c (.l (.by)) (.c (.i .i64) (.c (.i .i64) (.c (.l (.i .i64)) (.u))))))))) (.c (.l (.c (.i .i64) (.c (.s) (.c (.s) (.c (.l (.by)) (.c (.i .i64) (.c (.i .i64) (.c (.l (.i .i64)) (.u))))))))) (.u)), (.q (.o (.q .r (.q .r (.q .r (.q (.o .r) (.q .r (.q .r (.q (.o .r) .r)))))))) (.q (.o (.q .r (.q .r (.q .r (.q (.o .r) (.q .r (.q .r (.q (.o .r) .r)))))))) .r))) .leaf)) 63 (.z .fn, .r) (.node (.node .leaf 64 (.z .fn, .r) .leaf) 65 (.z .fn, .r) .leaf))))) 66 (.z .fn, .r) (.node (.node (.node (.node (.node (.node .leaf 67 (.z .fn, .r) .leaf) 68 (.z .fn, .r) (.node .leaf 69 (.z .fn, .r) .leaf)) 70 (.p (.c (.l (.by)) (.c (.i .i64) (.u))), (.o (.q (.o .r) (.q .r .r)))) (.node (.node .leaf 71 (.c (.l (.by)) (.c (.i .i64) (.u)), (.q (.o .r) (.q .r .r))) .leaf) 72 (.c (.l (.by)) (.c (.i .i64) (.u)), (.q (.o .r) (.q .r .r))) (.node .leaf 73 (.z .fn, .r) .leaf))) 75 (.z .fn, .r) (.node (.node (.node .leaf 76 (.l (.c (.s) (.c (.s) (.c (.i .i64) (.u)))), (.o (.q .r (.q .r (.q .r .r))))) .leaf) 77 (.c (.l (.c (.s) (.c (.s) (.c (.i .i64) (.u))))) (.c (.i .i64) (.c (.i .i64) (.c (.i .i64) (.c (.i .i64) (.u))))), (.q (.o (.q .r (.q .r (.q .r .r)))) (.q .r (.q .r (.q .r (.q .r .r)))))) (.node .leaf 78 (.c (.l (.c (.s) (.c (.s) (.c (.i .i64) (.u))))) (.c (.i .i64) (.c (.i .i64) (.c (.i .i64) (.c (.i .i64) (.u))))), (.q (.o (.q .r (.q .r (.q .r .r)))) (.q .r (.q .r (.q .r (.q .r .r)))))) .leaf)) 79 (.z .fn, .r) (.node (.node .leaf 80 (.z .fn, .r) .leaf) 81 (.z .fn, .r) (.node .leaf 82 (.z .fn, .r) .leaf)))) 83 (.z .fn, .r) (.node (.node (.node (.node .leaf 85 (.z .fn, .r) .leaf) 87 (.z .fn, .r) (.node .leaf 88 (.z .fn, .r) .leaf)) 89 (.z .fn, .r) (.node (.node .leaf 90 (.z .fn, .r) .leaf) 91 (.z .fn, .r) (.node .leaf 92 (.z .fn, .r) .leaf))) 93 (.c (.s) (.c (.s) (.c (.i .i64) (.u))), (.q .r (.q .r (.q .r .r)))) (.node (.node (.node .leaf 94 (.c (.s) (.c (.s) (.c (.i .i64) (.u))), (.q .r (.q .r (.q .r .r)))) .leaf) 95 (.z .fn, .r) (.node .leaf 96 (.z .fn, .r) .leaf)) 97 (.i .u64, .r) (.node (.node .leaf 98 (.z .fn, .r) .leaf) 100 (.z .fn, .r) .leaf)))) 101 (.z .fn, .r) (.node (.node (.node (.node (.node .leaf 103 (.z .fn, .r) .leaf) 104 (.i .i64, .r) (.node .leaf 106 (.z .fn, .r) .leaf)) 107 (.z .fn, .r) (.node (.node .leaf 108 (.z .fn, .r) .leaf) 109 (.z .fn, .r) (.node .leaf 110 (.z .fn, .r) .leaf))) 111 (.z .fn, .r) (.node (.node (.node .leaf 112 (.i .u32, .r) .leaf) 113 (.z .fn, .r) (.node .leaf 114 (.i .u64, .r) .leaf)) 115 (.i .u64, .r) (.node (.node .leaf 116 (.z .fn, .r) .leaf) 117 (.z .fn, .r) (.node .leaf 118 (.z .fn, .r) .leaf)))) 119 (.p (.i .i64), (.o .r)) (.node (.node (.node (.node .leaf 120 (.z .fn, .r) .leaf) 121 (.p (.i .u64), (.o .r)) (.node .leaf 123 (.z .fn, .r) .leaf)) 124 (.z .fn, .r) (.node (.node .leaf 125 (.c (.p (.c (.i .u64) (.c (.i .u64) (.c (.i .u32) (.c (.by) (.c (.by) (.c (.by) (.c (.by) (.c (.z .fn) (.c (.p (.by)) (.c (.i .i32) (.c (.i .i32) (.u))))))))))))) (.c (.p (.c (.i .u64) (.c (.i .u64) (.c (.i .u32) (.c (.by) (.c (.by) (.c (.by) (.c (.by) (.c (.z .fn) (.c (.p (.by)) (.c (.i .i32) (.c (.i .i32) (.u))))))))))))) (.c (.p (.c (.i .u64) (.c (.i .u64) (.c (.i .u32) (.c (.by) (.c (.by) (.c (.by) (.c (.by) (.c (.z .fn) (.c (.p (.by)) (.c (.i .i32) (.c (.i .i32) (.u))))))))))))) (.c (.s) (.u)))), (.q (.o (.q .r (.q .r (.q .r (.q .r (.q .r (.q .r (.q .r (.q .r (.q (.o .r) (.q .r (.q .r .r)))))))))))) (.q (.o (.q .r (.q .r (.q .r (.q .r (.q .r (.q .r (.q .r (.q .r (.q (.o .r) (.q .r (.q .r .r)))))))))))) (.q (.o (.q .r (.q .r (.q .r (.q .r (.q .r (.q .r (.q .r (.q .r (.q (.o .r) (.q .r (.q .r .r)))))))))))) (.q .r .r))))) .leaf) 126 (.c (.p (.c (.i .u64) (.c (.i .u64) (.c (.i .u32) (.c (.by) (.c (.by) (.c (.by) (.c (.by) (.c (.z .fn) (.c (.p (.by)) (.c (.i .i32) (.c (.i .i32) (.u))))))))))))) (.c (.p (.c (.i .u64) (.c (.i .u64) (.c (.i .u32) (.c (.by) (.c (.by) (.c (.by) (.c (.by) (.c (.z .fn) (.c (.p (.by)) (.c (.i .i32) (.c (.i .i32) (.u))))))))))))) (.c (.p (.c (.i .u64) (.c (.i .u64) (.c (.i .u32) (.c (.by) (.c (.by) (.c (.by) (.c (.by) (.c (.z .fn) (.c (.p (.by)) (.c (.i .i32) (.c (.i .i32) (.u))))))))))))) (.c (.s) (.u)))), (.q (.o (.q .r (.q .r (.q .r (.q .r (.q .r (.q .r (.q .r (.q .r (.q (.o .r) (.q .r (.q .r .r)))))))))))) (.q (.o (.q .r (.q .r (.q .r (.q .r (.q .r (.q .r (.q .r (.q .r (.q (.o .r) (.q .r (.q .r .r)))))))))))) (.q (.o (.q .r (.q .r (.q .r (.q .r (.q .r (.q .r (.q .r (.q .r (.q (.o .r) (.q .r (.q .r .r)))))))))))) (.q .r .r))))) (.node .leaf 130 (.by, .r) .leaf))) 131 (.by, .r) (.node (.node (.node .leaf 132 (.z .fn, .r) .leaf) 133 (.p (.by), (.o .r)) (.node .leaf 134 (.i .i32, .r) .leaf)) 135 (.i .i32, .r) (.node (.node .leaf 136 (.c (.i .u64) (.c (.i .u64) (.c (.i .u32) (.c (.by) (.c (.by) (.c (.by) (.c (.by) (.c (.z .fn) (.c (.p (.by)) (.c (.i .i32) (.c (.i .i32) (.u))))))))))), (.q .r (.q .r (.q .r (.q .r (.q .r (.q .r (.q .r (.q .r (.q (.o .r) (.q .r (.q .r .r)))))))))))) .leaf) 137 (.c (.i .u64) (.c (.i .u64) (.c (.i .u32) (.c (.by) (.c (.by) (.c (.by) (.c (.by) (.c (.z .fn) (.c (.p (.by)) (.c (.i .i32) (.c (.i .i32) (.u))))))))))), (.q .r (.q .r (.q .r (.q .r (.q .r (.q .r (.q .r (.q .r (.q (.o .r) (.q .r (.q .r .r)))))))))))) .leaf))))))
noncomputable def sigs : BT Sig := (.node (.node (.node (.node (.node (.node .leaf 3 ⟨[(.i .i64, .r), (.l (.c (.i .i64) (.c (.s) (.c (.s) (.c (.l (.by)) (.c (.i .i64) (.c (.i .i64) (.c (.l (.i .i64)) (.u)))))))), .b), (.l (.i .i64), .b)], [(.b, .r)], 1⟩ .leaf) 4 ⟨[(.i .i64, .r), (.l (.c (.i .i64) (.c (.s) (.c (.s) (.c (.l (.by)) (.c (.i .i64) (.c (.i .i64) (.c (.l (.i .i64)) (.u)))))))), .b)], [(.b, .r)], 1⟩ .leaf) 5 ⟨[(.i .i64, .r), (.l (.c (.i .i64) (.c (.s) (.c (.s) (.c (.l (.by)) (.c (.i .i64) (.c (.i .i64) (.c (.l (.i .i64)) (.u)))))))), .b)], [(.b, .r)], 1⟩ (.node (.node .leaf 7 ⟨[(.i .i64, .r), (.l (.c (.i .i64) (.c (.s) (.c (.s) (.c (.l (.by)) (.c (.i .i64) (.c (.i .i64) (.c (.l (.i .i64)) (.u)))))))), .b), (.c (.l (.c (.i .i64) (.c (.s) (.c (.s) (.c (.l (.by)) (.c (.i .i64) (.c (.i .i64) (.c (.l (.i .i64)) (.u))))))))) (.c (.l (.c (.i .i64) (.c (.s) (.c (.s) (.c (.l (.by)) (.c (.i .i64) (.c (.i .i64) (.c (.l (.i .i64)) (.u))))))))) (.u)), .b)], [(.b, .r)], 1⟩ .leaf) 8 ⟨[(.i .i64, .r)], [(.a 0, (.o .r)), (.i .i64, .r)], 2⟩ .leaf)) 9 ⟨[(.a 0, (.o .r)), (.c (.i .i64) (.c (.s) (.c (.s) (.c (.l (.by)) (.c (.i .i64) (.c (.i .i64) (.c (.l (.i .i64)) (.u))))))), .b)], [(.i .i64, .r), (.a 0, (.o .r))], 1⟩ (.node (.node (.node .leaf 10 ⟨[(.a 0, .b)], [(.a 0, (.o .r))], 1⟩ .leaf) 11 ⟨[(.a 0, (.o .r)), (.l (.i .i64), .b)], [(.i .i64, .r), (.a 0, (.o .r))], 1⟩ .leaf) 12 ⟨[(.a 0, .b)], [(.l (.s), (.o .r))], 1⟩ (.node (.node .leaf 13 ⟨[(.a 0, .b), (.s, .r)], [(.s, .r)], 1⟩ .leaf) 14 ⟨[(.a 0, .b), (.s, .r)], [(.i .i64, .r), (.i .i64, .r), (.i .i64, .r)], 3⟩ .leaf))) 15 ⟨[(.a 0, .b)], [(.i .i64, .r)], 1⟩ (.node (.node (.node (.node .leaf 16 ⟨[(.i .i64, .r)], [(.p (.c (.l (.c (.s) (.c (.s) (.c (.i .i64) (.u))))) (.c (.i .i64) (.c (.i .i64) (.c (.i .i64) (.c (.i .i64) (.u)))))), (.o (.q (.o (.q .r (.q .r (.q .r .r)))) (.q .r (.q .r (.q .r (.q .r .r))))))), (.i .i64, .r)], 2⟩ .leaf) 17 ⟨[], [(.b, .r)], 1⟩ .leaf) 18 ⟨[(.p (.c (.l (.c (.s) (.c (.s) (.c (.i .i64) (.u))))) (.c (.i .i64) (.c (.i .i64) (.c (.i .i64) (.c (.i .i64) (.u)))))), (.o (.q (.o (.q .r (.q .r (.q .r .r)))) (.q .r (.q .r (.q .r (.q .r .r))))))), (.c (.i .i64) (.c (.s) (.c (.s) (.c (.l (.by)) (.c (.i .i64) (.c (.i .i64) (.c (.l (.i .i64)) (.u))))))), .b)], [(.i .i64, .r), (.p (.c (.l (.c (.s) (.c (.s) (.c (.i .i64) (.u))))) (.c (.i .i64) (.c (.i .i64) (.c (.i .i64) (.c (.i .i64) (.u)))))), (.o (.q (.o (.q .r (.q .r (.q .r .r)))) (.q .r (.q .r (.q .r (.q .r .r)))))))], 1⟩ (.node (.node .leaf 19 ⟨[(.a 0, .b), (.p (.c (.l (.c (.s) (.c (.s) (.c (.i .i64) (.u))))) (.c (.i .i64) (.c (.i .i64) (.c (.i .i64) (.c (.i .i64) (.u)))))), .b), (.c (.i .i64) (.c (.s) (.c (.s) (.c (.l (.by)) (.c (.i .i64) (.c (.i .i64) (.c (.l (.i .i64)) (.u))))))), .b)], [(.b, .r)], 1⟩ .leaf) 20 ⟨[(.a 0, .b), (.a 0, .b)], [(.b, .r)], 1⟩ .leaf)) 21 ⟨[(.a 0, .b)], [(.i .i64, .r)], 1⟩ (.node (.node (.node .leaf 22 ⟨[(.a 0, .b)], [(.i .i64, .r)], 1⟩ .leaf) 23 ⟨[(.a 0, (.o .r)), (.i .i64, .r), (.i .i64, .r)], [(.i .i64, .r), (.a 0, (.o .r))], 1⟩ .leaf) 24 ⟨[(.a 0, (.o .r)), (.s, .r)], [(.i .i64, .r), (.a 0, (.o .r))], 1⟩ (.node (.node .leaf 25 ⟨[(.a 0, (.o .r)), (.s, .r), (.l (.by), .b)], [(.i .i64, .r), (.a 0, (.o .r))], 1⟩ .leaf) 26 ⟨[(.a 0, .b), (.s, .r), (.i .i64, .r), (.i .i64, .r)], [(.l (.by), (.o .r)), (.i .i64, .r)], 2⟩ .leaf)))) 27 ⟨[(.p (.c (.l (.c (.s) (.c (.s) (.c (.i .i64) (.u))))) (.c (.i .i64) (.c (.i .i64) (.c (.i .i64) (.c (.i .i64) (.u)))))), .b)], [(.p (.c (.l (.c (.s) (.c (.s) (.c (.i .i64) (.u))))) (.c (.i .i64) (.c (.i .i64) (.c (.i .i64) (.c (.i .i64) (.u)))))), (.o (.q (.o (.q .r (.q .r (.q .r .r)))) (.q .r (.q .r (.q .r (.q .r .r)))))))], 1⟩ (.node (.node (.node (.node (.node .leaf 28 ⟨[(.p (.c (.l (.c (.s) (.c (.s) (.c (.i .i64) (.u))))) (.c (.i .i64) (.c (.i .i64) (.c (.i .i64) (.c (.i .i64) (.u)))))), .b), (.p (.c (.l (.c (.s) (.c (.s) (.c (.i .i64) (.u))))) (.c (.i .i64) (.c (.i .i64) (.c (.i .i64) (.c (.i .i64) (.u)))))), .b)], [(.b, .r)], 1⟩ .leaf) 30 ⟨[(.l (.by), .b)], [(.l (.by), (.o .r))], 1⟩ .leaf) 31 ⟨[(.a 0, (.o .r)), (.s, .r)], [(.i .i64, .r), (.a 0, (.o .r))], 1⟩ (.node (.node .leaf 32 ⟨[(.a 0, (.o .r)), (.s, .r), (.s, .r)], [(.i .i64, .r), (.a 0, (.o .r))], 1⟩ .leaf) 33 ⟨[(.a 0, (.o .r)), (.s, .r)], [(.i .i64, .r), (.a 0, (.o .r))], 1⟩ .leaf)) 34 ⟨[(.a 0, (.o .r)), (.i .i64, .r)], [(.i .i64, .r), (.a 0, (.o .r))], 1⟩ (.node (.node (.node .leaf 39 ⟨[(.p (.c (.l (.c (.s) (.c (.s) (.c (.i .i64) (.u))))) (.c (.i .i64) (.c (.i .i64) (.c (.i .i64) (.c (.i .i64) (.u)))))), (.o (.q (.o (.q .r (.q .r (.q .r .r)))) (.q .r (.q .r (.q .r (.q .r .r))))))), (.s, .r)], [(.i .i64, .r), (.p (.c (.l (.c (.s) (.c (.s) (.c (.i .i64) (.u))))) (.c (.i .i64) (.c (.i .i64) (.c (.i .i64) (.c (.i .i64) (.u)))))), (.o (.q (.o (.q .r (.q .r (.q .r .r)))) (.q .r (.q .r (.q .r (.q .r .r)))))))], 1⟩ .leaf) 40 ⟨[(.p (.c (.l (.c (.s) (.c (.s) (.c (.i .i64) (.u))))) (.c (.i .i64) (.c (.i .i64) (.c (.i .i64) (.c (.i .i64) (.u)))))), (.o (.q (.o (.q .r (.q .r (.q .r .r)))) (.q .r (.q .r (.q .r (.q .r .r))))))), (.s, .r), (.s, .r)], [(.i .i64, .r), (.p (.c (.l (.c (.s) (.c (.s) (.c (.i .i64) (.u))))) (.c (.i .i64) (.c (.i .i64) (.c (.i .i64) (.c (.i .i64) (.u)))))), (.o (.q (.o (.q .r (.q .r (.q .r .r)))) (.q .r (.q .r (.q .r (.q .r .r)))))))], 1⟩ .leaf) 41 ⟨[(.p (.c (.l (.c (.s) (.c (.s) (.c (.i .i64) (.u))))) (.c (.i .i64) (.c (.i .i64) (.c (.i .i64) (.c (.i .i64) (.u)))))), (.o (.q (.o (.q .r (.q .r (.q .r .r)))) (.q .r (.q .r (.q .r (.q .r .r))))))), (.s, .r)], [(.i .i64, .r), (.p (.c (.l (.c (.s) (.c (.s) (.c (.i .i64) (.u))))) (.c (.i .i64) (.c (.i .i64) (.c (.i .i64) (.c (.i .i64) (.u)))))), (.o (.q (.o (.q .r (.q .r (.q .r .r)))) (.q .r (.q .r (.q .r (.q .r .r)))))))], 1⟩ (.node (.node .leaf 42 ⟨[(.p (.c (.l (.c (.s) (.c (.s) (.c (.i .i64) (.u))))) (.c (.i .i64) (.c (.i .i64) (.c (.i .i64) (.c (.i .i64) (.u)))))), (.o (.q (.o (.q .r (.q .r (.q .r .r)))) (.q .r (.q .r (.q .r (.q .r .r))))))), (.s, .r), (.s, .r)], [(.i .i64, .r), (.p (.c (.l (.c (.s) (.c (.s) (.c (.i .i64) (.u))))) (.c (.i .i64) (.c (.i .i64) (.c (.i .i64) (.c (.i .i64) (.u)))))), (.o (.q (.o (.q .r (.q .r (.q .r .r)))) (.q .r (.q .r (.q .r (.q .r .r)))))))], 1⟩ .leaf) 43 ⟨[(.p (.c (.l (.c (.s) (.c (.s) (.c (.i .i64) (.u))))) (.c (.i .i64) (.c (.i .i64) (.c (.i .i64) (.c (.i .i64) (.u)))))), (.o (.q (.o (.q .r (.q .r (.q .r .r)))) (.q .r (.q .r (.q .r (.q .r .r))))))), (.s, .r)], [(.i .i64, .r), (.p (.c (.l (.c (.s) (.c (.s) (.c (.i .i64) (.u))))) (.c (.i .i64) (.c (.i .i64) (.c (.i .i64) (.c (.i .i64) (.u)))))), (.o (.q (.o (.q .r (.q .r (.q .r .r)))) (.q .r (.q .r (.q .r (.q .r .r)))))))], 1⟩ .leaf))) 44 ⟨[(.p (.c (.l (.c (.s) (.c (.s) (.c (.i .i64) (.u))))) (.c (.i .i64) (.c (.i .i64) (.c (.i .i64) (.c (.i .i64) (.u)))))), (.o (.q (.o (.q .r (.q .r (.q .r .r)))) (.q .r (.q .r (.q .r (.q .r .r))))))), (.i .i64, .r)], [(.i .i64, .r), (.p (.c (.l (.c (.s) (.c (.s) (.c (.i .i64) (.u))))) (.c (.i .i64) (.c (.i .i64) (.c (.i .i64) (.c (.i .i64) (.u)))))), (.o (.q (.o (.q .r (.q .r (.q .r .r)))) (.q .r (.q .r (.q .r (.q .r .r)))))))], 1⟩ (.node (.node (.node (.node .leaf 45 ⟨[(.p (.c (.l (.c (.s) (.c (.s) (.c (.i .i64) (.u))))) (.c (.i .i64) (.c (.i .i64) (.c (.i .i64) (.c (.i .i64) (.u)))))), (.o (.q (.o (.q .r (.q .r (.q .r .r)))) (.q .r (.q .r (.q .r (.q .r .r))))))), (.i .i64, .r), (.i .i64, .r)], [(.i .i64, .r), (.p (.c (.l (.c (.s) (.c (.s) (.c (.i .i64) (.u))))) (.c (.i .i64) (.c (.i .i64) (.c (.i .i64) (.c (.i .i64) (.u)))))), (.o (.q (.o (.q .r (.q .r (.q .r .r)))) (.q .r (.q .r (.q .r (.q .r .r)))))))], 1⟩ .leaf) 46 ⟨[(.p (.c (.l (.c (.s) (.c (.s) (.c (.i .i64) (.u))))) (.c (.i .i64) (.c (.i .i64) (.c (.i .i64) (.c (.i .i64) (.u)))))), (.o (.q (.o (.q .r (.q .r (.q .r .r)))) (.q .r (.q .r (.q .r (.q .r .r))))))), (.l (.i .i64), .b)], [(.i .i64, .r), (.p (.c (.l (.c (.s) (.c (.s) (.c (.i .i64) (.u))))) (.c (.i .i64) (.c (.i .i64) (.c (.i .i64) (.c (.i .i64) (.u)))))), (.o (.q (.o (.q .r (.q .r (.q .r .r)))) (.q .r (.q .r (.q .r (.q .r .r)))))))], 1⟩ .leaf) 47 ⟨[(.p (.c (.l (.c (.s) (.c (.s) (.c (.i .i64) (.u))))) (.c (.i .i64) (.c (.i .i64) (.c (.i .i64) (.c (.i .i64) (.u)))))), .b)], [(.l (.s), (.o .r))], 1⟩ (.node (.node .leaf 48 ⟨[(.p (.c (.l (.c (.s) (.c (.s) (.c (.i .i64) (.u))))) (.c (.i .i64) (.c (.i .i64) (.c (.i .i64) (.c (.i .i64) (.u)))))), .b)], [(.i .i64, .r)], 1⟩ .leaf) 49 ⟨[(.p (.c (.l (.c (.s) (.c (.s) (.c (.i .i64) (.u))))) (.c (.i .i64) (.c (.i .i64) (.c (.i .i64) (.c (.i .i64) (.u)))))), .b), (.s, .r)], [(.i .i64, .r), (.i .i64, .r), (.i .i64, .r)], 3⟩ .leaf)) 50 ⟨[(.p (.c (.l (.c (.s) (.c (.s) (.c (.i .i64) (.u))))) (.c (.i .i64) (.c (.i .i64) (.c (.i .i64) (.c (.i .i64) (.u)))))), .b), (.s, .r), (.i .i64, .r), (.i .i64, .r)], [(.s, .r), (.i .i64, .r)], 2⟩ (.node (.node (.node .leaf 58 ⟨[(.s, .r)], [(.b, .r)], 1⟩ .leaf) 59 ⟨[(.p (.c (.l (.c (.s) (.c (.s) (.c (.i .i64) (.u))))) (.c (.i .i64) (.c (.i .i64) (.c (.i .i64) (.c (.i .i64) (.u)))))), .b), (.s, .r)], [(.i .i64, .r), (.b, .r)], 2⟩ .leaf) 60 ⟨[(.p (.c (.l (.c (.s) (.c (.s) (.c (.i .i64) (.u))))) (.c (.i .i64) (.c (.i .i64) (.c (.i .i64) (.c (.i .i64) (.u)))))), (.o (.q (.o (.q .r (.q .r (.q .r .r)))) (.q .r (.q .r (.q .r (.q .r .r))))))), (.b, .r)], [(.b, .r), (.p (.c (.l (.c (.s) (.c (.s) (.c (.i .i64) (.u))))) (.c (.i .i64) (.c (.i .i64) (.c (.i .i64) (.c (.i .i64) (.u)))))), (.o (.q (.o (.q .r (.q .r (.q .r .r)))) (.q .r (.q .r (.q .r (.q .r .r)))))))], 1⟩ (.node .leaf 61 ⟨[(.p (.c (.l (.c (.s) (.c (.s) (.c (.i .i64) (.u))))) (.c (.i .i64) (.c (.i .i64) (.c (.i .i64) (.c (.i .i64) (.u)))))), (.o (.q (.o (.q .r (.q .r (.q .r .r)))) (.q .r (.q .r (.q .r (.q .r .r))))))), (.i .i64, .r)], [(.p (.c (.l (.c (.s) (.c (.s) (.c (.i .i64) (.u))))) (.c (.i .i64) (.c (.i .i64) (.c (.i .i64) (.c (.i .i64) (.u)))))), (.o (.q (.o (.q .r (.q .r (.q .r .r)))) (.q .r (.q .r (.q .r (.q .r .r)))))))], 0⟩ .leaf)))))
noncomputable def bodies : BT Func := (.node (.node (.node (.node (.node .leaf 3 Go.Proofs.Try.f3 .leaf) 4 Go.Proofs.Try.f4 (.node .leaf 5 Go.Proofs.Try.f5 .leaf)) 7 Go.Proofs.Try.f7 (.node (.node .leaf 9 Go.Proofs.Try.f9 .leaf) 13 Go.Proofs.Try.f13 (.node .leaf 16 Go.Proofs.Try.f16 .leaf))) 17 Go.Proofs.Try.f17 (.node (.node (.node .leaf 18 Go.Proofs.Try.f18 .leaf) 19 Go.Proofs.Try.f19 (.node .leaf 27 Go.Proofs.Try.f27 .leaf)) 28 Go.Proofs.Try.f28 (.node (.node .leaf 30 Go.Proofs.Try.f30 .leaf) 39 Go.Proofs.Try.f39 .leaf))) 40 Go.Proofs.Try.f40 (.node (.node (.node (.node .leaf 41 Go.Proofs.Try.f41 .leaf) 42 Go.Proofs.Try.f42 (.node .leaf 43 Go.Proofs.Try.f43 .leaf)) 44 Go.Proofs.Try.f44 (.node (.node .leaf 45 Go.Proofs.Try.f45 .leaf) 46 Go.Proofs.Try.f46 (.node .leaf 47 Go.Proofs.Try.f47 .leaf))) 48 Go.Proofs.Try.f48 (.node (.node (.node .leaf 49 Go.Proofs.Try.f49 .leaf) 50 Go.Proofs.Try.f50 (.node .leaf 58 Go.Proofs.Try.f58 .leaf)) 59 Go.Proofs.Try.f59 (.node (.node .leaf 60 Go.Proofs.Try.f60 .leaf) 61 Go.Proofs.Try.f61 .leaf))))
noncomputable def exts : BT Func := (.node (.node (.node (.node (.node .leaf 8 Go.Proofs.Try.f8 .leaf) 10 Go.Proofs.Try.f10 .leaf) 11 Go.Proofs.Try.f11 (.node .leaf 12 Go.Proofs.Try.f12 .leaf)) 14 Go.Proofs.Try.f14 (.node (.node .leaf 15 Go.Proofs.Try.f15 .leaf) 20 Go.Proofs.Try.f20 (.node .leaf 21 Go.Proofs.Try.f21 .leaf))) 22 Go.Proofs.Try.f22 (.node (.node (.node (.node .leaf 23 Go.Proofs.Try.f23 .leaf) 24 Go.Proofs.Try.f24 .leaf) 25 Go.Proofs.Try.f25 (.node .leaf 26 Go.Proofs.Try.f26 .leaf)) 31 Go.Proofs.Try.f31 (.node (.node .leaf 32 Go.Proofs.Try.f32 .leaf) 33 Go.Proofs.Try.f33 (.node .leaf 34 Go.Proofs.Try.f34 .leaf))))
noncomputable def lives : BT (List Nat) := (.node (.node (.node (.node (.node (.node (.node .leaf 12293 [1, 2, 7, 9] .leaf) 12299 [2, 7, 10] .leaf) 12303 [2, 7, 10, 11, 12, 13] (.node .leaf 12304 [2, 7, 10, 11, 12, 13] .leaf)) 12310 [2, 7, 10, 11, 12, 13, 15, 17] (.node (.node (.node .leaf 14346 [2, 7, 10, 62] .leaf) 14357 [2, 7, 10, 11, 12, 13, 15, 17, 144] .leaf) 14359 [2, 7, 10, 11, 12, 13, 153] (.node .leaf 16389 [1, 5, 7] .leaf))) 16392 [1, 5, 7, 9] (.node (.node (.node (.node .leaf 16393 [1, 5, 7, 9] .leaf) 18436 [1, 5, 7, 33] .leaf) 18443 [1, 5, 7, 9, 64] (.node .leaf 20485 [1, 5, 7] .leaf)) 20486 [1, 5, 7] (.node (.node .leaf 20491 [1, 5, 7, 8, 9] .leaf) 20493 [1, 5, 7, 9] (.node .leaf 20497 [5] .leaf)))) 20500 [5] (.node (.node (.node (.node (.node .leaf 22538 [1, 5, 7, 8, 9, 53] .leaf) 22540 [1, 5, 7, 9, 72] .leaf) 22542 [1, 5, 7, 89] (.node .leaf 22544 [5, 98] .leaf)) 22547 [5, 115] (.node (.node (.node .leaf 28679 [1, 7, 8, 9, 11, 13] .leaf) 28687 [7, 8, 9, 11, 14, 15] .leaf) 28688 [7, 8, 9, 11, 14, 15, 16] (.node .leaf 28689 [7, 8, 9, 11, 14, 15, 16] .leaf))) 28690 [7, 8, 9, 11, 14, 15, 16] (.node (.node (.node (.node .leaf 28692 [7, 8, 9, 11, 14, 15, 16] .leaf) 28694 [7, 8, 9, 11, 14, 15, 16] .leaf) 28696 [9, 11, 14, 15] (.node .leaf 30734 [7, 8, 9, 11, 14, 15, 74] .leaf)) 30739 [7, 8, 9, 11, 14, 15, 16, 105] (.node (.node .leaf 30741 [7, 8, 9, 11, 14, 15, 16, 124] .leaf) 30743 [7, 8, 9, 11, 14, 15, 16, 140] (.node .leaf 36872 [0, 5, 6, 7] .leaf))))) 65539 [0] (.node (.node (.node (.node (.node (.node .leaf 67586 [0, 9] .leaf) 77829 [0, 1, 5, 7, 8] .leaf) 77830 [0, 1, 5, 7, 8, 9] (.node .leaf 77831 [0, 1, 5, 7, 8, 9] .leaf)) 77836 [0, 1, 5, 7, 8, 9, 13] (.node (.node (.node .leaf 77840 [0, 1, 5, 7, 8, 9, 16] .leaf) 77841 [0, 1, 5, 7, 8, 9, 16, 19] .leaf) 79876 [0, 1, 5, 7, 8, 63] (.node .leaf 79883 [0, 1, 5, 7, 8, 9, 13, 112] .leaf))) 79887 [0, 1, 5, 7, 8, 9, 16, 140] (.node (.node (.node (.node .leaf 114691 [0, 1] .leaf) 114694 [0, 1, 5] .leaf) 116738 [0, 1, 11] (.node .leaf 172037 [0, 1, 2] .leaf)) 172047 [0, 2, 9, 10] (.node (.node .leaf 174084 [0, 1, 2, 22] .leaf) 180229 [0, 1] (.node .leaf 182276 [0, 1, 12] .leaf)))) 184325 [0, 1, 2] (.node (.node (.node (.node (.node .leaf 186372 [0, 1, 2, 14] .leaf) 188420 [0, 1, 5] .leaf) 188421 [0, 1, 5] (.node .leaf 188426 [0, 1, 5, 6, 7] .leaf)) 188428 [0, 1, 5, 6, 7] (.node (.node (.node .leaf 188430 [0, 1, 5, 6, 7] .leaf) 192515 [0, 3, 4] .leaf) 192517 [0, 3, 4] (.node .leaf 192518 [3] .leaf))) 196611 [0, 3, 4] (.node (.node (.node (.node .leaf 204811 [2, 3, 12] .leaf) 204813 [2, 3, 12] .leaf) 206858 [2, 3, 12, 45] (.node .leaf 241666 [0, 1, 6] .leaf)) 241667 [0, 1, 6] (.node (.node .leaf 241668 [0, 1, 6] .leaf) 245767 [0, 5] (.node .leaf 245769 [0, 5] .leaf))))))
noncomputable def ext8 : Nat → Tup [(.i .i64, .r)] → Option (Tup [(.a 0, .o .r), (.i .i64, .r)]) := fun _ x => Dk.xNew x.1
noncomputable def ext10 : Nat → Tup [(.a 0, .b)] → Option (Tup [(.a 0, .o .r)]) := fun _ x => Dk.xClone x.1
noncomputable def ext11 : Nat → Tup [(.a 0, .o .r), (.l (.i .i64), .b)] → Option (Tup [(.i .i64, .r), (.a 0, .o .r)]) := fun _ x => Dk.xCrash x.1 x.2.1
noncomputable def ext12 : Nat → Tup [(.a 0, .b)] → Option (Tup [(.l .s, .o .r)]) := fun _ x => Dk.xList x.1
noncomputable def ext14 : Nat → Tup [(.a 0, .b), (.s, .r)] → Option (Tup [(.i .i64, .r), (.i .i64, .r), (.i .i64, .r)]) := fun _ x => Dk.xSize x.1 x.2.1
noncomputable def ext15 : Nat → Tup [(.a 0, .b)] → Option (Tup [(.i .i64, .r)]) := fun _ x => Dk.xUsed x.1
noncomputable def ext20 : Nat → Tup [(.a 0, .b), (.a 0, .b)] → Option (Tup [(.b, .r)]) := fun _ x => Dk.xSame x.1 x.2.1
noncomputable def ext21 : Nat → Tup [(.a 0, .b)] → Option (Tup [(.i .i64, .r)]) := fun _ x => Dk.xRefused x.1
noncomputable def ext22 : Nat → Tup [(.a 0, .b)] → Option (Tup [(.i .i64, .r)]) := fun _ x => Dk.xQuota x.1
noncomputable def ext23 : Nat → Tup [(.a 0, .o .r), (.i .i64, .r), (.i .i64, .r)] → Option (Tup [(.i .i64, .r), (.a 0, .o .r)]) := fun _ x => Dk.xRefuse x.1 x.2.1 x.2.2.1
noncomputable def ext24 : Nat → Tup [(.a 0, .o .r), (.s, .r)] → Option (Tup [(.i .i64, .r), (.a 0, .o .r)]) := fun _ x => Dk.xCreate x.1 x.2.1
noncomputable def ext25 : Nat → Tup [(.a 0, .o .r), (.s, .r), (.l .by, .b)] → Option (Tup [(.i .i64, .r), (.a 0, .o .r)]) := fun _ x => Dk.xAppend x.1 x.2.1 x.2.2.1
noncomputable def ext26 : Nat → Tup [(.a 0, .b), (.s, .r), (.i .i64, .r), (.i .i64, .r)] → Option (Tup [(.l .by, .o .r), (.i .i64, .r)]) := fun _ x => Dk.xRead x.1 x.2.1 x.2.2.1 x.2.2.2.1
noncomputable def ext31 : Nat → Tup [(.a 0, .o .r), (.s, .r)] → Option (Tup [(.i .i64, .r), (.a 0, .o .r)]) := fun _ x => Dk.xSync x.1 x.2.1
noncomputable def ext32 : Nat → Tup [(.a 0, .o .r), (.s, .r), (.s, .r)] → Option (Tup [(.i .i64, .r), (.a 0, .o .r)]) := fun _ x => Dk.xRename x.1 x.2.1 x.2.2.1
noncomputable def ext33 : Nat → Tup [(.a 0, .o .r), (.s, .r)] → Option (Tup [(.i .i64, .r), (.a 0, .o .r)]) := fun _ x => Dk.xRemove x.1 x.2.1
noncomputable def ext34 : Nat → Tup [(.a 0, .o .r), (.i .i64, .r)] → Option (Tup [(.i .i64, .r), (.a 0, .o .r)]) := fun _ x => Dk.xSetQuota x.1 x.2.1
noncomputable def ext : (g : FuncId) → Option (Nat → Tup ((sigs.get g).getD ⟨[], [], 0⟩).ps → Option (Tup ((sigs.get g).getD ⟨[], [], 0⟩).rs))
  | 8 => some ext8
  | 10 => some ext10
  | 11 => some ext11
  | 12 => some ext12
  | 14 => some ext14
  | 15 => some ext15
  | 20 => some ext20
  | 21 => some ext21
  | 22 => some ext22
  | 23 => some ext23
  | 24 => some ext24
  | 25 => some ext25
  | 26 => some ext26
  | 31 => some ext31
  | 32 => some ext32
  | 33 => some ext33
  | 34 => some ext34
  | _ => none
noncomputable def lims : BT Nat := (.node (.node (.node .leaf 23 1073741824 .leaf) 29 1073741824 (.node .leaf 34 1073741824 .leaf)) 76 1073741824 .leaf)
noncomputable def G : Prg where
  ty T := tys.get T
  lim T := (lims.get T).getD 0
  cmp T := memb [94] T
  sig g := (sigs.get g).getD ⟨[], [], 0⟩
  body g := bodies.get g
  ext g := ext g
  live g r := lives.get (Nat.add (Nat.mul g 4096) r)
end DkGG

namespace Go.Proofs.Ytcfagjkijhjaoaa.DkGGP
open Go.ChangeShapes Go.WideShapes Go.ChangeAt Go.RowKit
theorem env : Lk.EnvOk Try.prog DkGG.G.toEnv := Lk.env_ok (tys := DkGG.tys) (lims := DkGG.lims) (cmps := [94]) (fun _ => rfl) (fun _ => rfl) (fun _ => rfl) (by kernel_rfl) (by kernel_rfl)
theorem names : (DkGG.bodies.toList ++ DkGG.exts.toList).all (fun p => Lk.nameB p.2) = true := by kernel_rfl
theorem nrs : DkGG.bodies.toList.all (Lk.nrB DkGG.sigs) = true := by kernel_rfl
theorem funcs : ∀ p ∈ DkGG.bodies.toList ++ DkGG.exts.toList, Try.prog.funcs[p.1]? = some p.2 := by
  intro p hp
  have e : DkGG.bodies.toList ++ DkGG.exts.toList = [(3, Try.f3), (4, Try.f4), (5, Try.f5), (7, Try.f7), (9, Try.f9), (13, Try.f13), (16, Try.f16), (17, Try.f17), (18, Try.f18), (19, Try.f19), (27, Try.f27), (28, Try.f28), (30, Try.f30), (39, Try.f39), (40, Try.f40), (41, Try.f41), (42, Try.f42), (43, Try.f43), (44, Try.f44), (45, Try.f45), (46, Try.f46), (47, Try.f47), (48, Try.f48), (49, Try.f49), (50, Try.f50), (58, Try.f58), (59, Try.f59), (60, Try.f60), (61, Try.f61), (8, Try.f8), (10, Try.f10), (11, Try.f11), (12, Try.f12), (14, Try.f14), (15, Try.f15), (20, Try.f20), (21, Try.f21), (22, Try.f22), (23, Try.f23), (24, Try.f24), (25, Try.f25), (26, Try.f26), (31, Try.f31), (32, Try.f32), (33, Try.f33), (34, Try.f34)] := by kernel_rfl
  rw [e] at hp
  simp only [List.mem_cons, List.not_mem_nil, or_false] at hp
  rcases hp with rfl | rfl | rfl | rfl | rfl | rfl | rfl | rfl | rfl | rfl | rfl | rfl | rfl | rfl | rfl | rfl | rfl | rfl | rfl | rfl | rfl | rfl | rfl | rfl | rfl | rfl | rfl | rfl | rfl | rfl | rfl | rfl | rfl | rfl | rfl | rfl | rfl | rfl | rfl | rfl | rfl | rfl | rfl | rfl | rfl | rfl
  · exact Try.func3
  · exact Try.func4
  · exact Try.func5
  · exact Try.func7
  · exact Try.func9
  · exact Try.func13
  · exact Try.func16
  · exact Try.func17
  · exact Try.func18
  · exact Try.func19
  · exact Try.func27
  · exact Try.func28
  · exact Try.func30
  · exact Try.func39
  · exact Try.func40
  · exact Try.func41
  · exact Try.func42
  · exact Try.func43
  · exact Try.func44
  · exact Try.func45
  · exact Try.func46
  · exact Try.func47
  · exact Try.func48
  · exact Try.func49
  · exact Try.func50
  · exact Try.func58
  · exact Try.func59
  · exact Try.func60
  · exact Try.func61
  · exact Try.func8
  · exact Try.func10
  · exact Try.func11
  · exact Try.func12
  · exact Try.func14
  · exact Try.func15
  · exact Try.func20
  · exact Try.func21
  · exact Try.func22
  · exact Try.func23
  · exact Try.func24
  · exact Try.func25
  · exact Try.func26
  · exact Try.func31
  · exact Try.func32
  · exact Try.func33
  · exact Try.func34
theorem exts : ∀ g F n, DkGG.G.ext g = some F → Lk.FnOk (τ := ax) (Kw := kw) Try.prog g (DkGG.G.sig g) (F n) := by
  intro g F n h
  show Lk.FnOk (τ := ax) (Kw := kw) Try.prog g ((DkGG.sigs.get g).getD ⟨[], [], 0⟩) (F n)
  change DkGG.ext g = some F at h
  unfold DkGG.ext at h
  split at h
  · cases h; exact ok_new n
  · cases h; exact ok_clone n
  · cases h; exact ok_crash n
  · cases h; exact ok_list n
  · cases h; exact ok_size n
  · cases h; exact ok_used n
  · cases h; exact ok_same n
  · cases h; exact ok_refused n
  · cases h; exact ok_quota n
  · cases h; exact ok_refuse n
  · cases h; exact ok_create n
  · cases h; exact ok_append n
  · cases h; exact ok_read n
  · cases h; exact ok_sync n
  · cases h; exact ok_rename n
  · cases h; exact ok_remove n
  · cases h; exact ok_setQuota n
  · cases h
theorem extb : ∀ g F, DkGG.G.ext g = some F → (DkGG.exts.get g).isSome = true := by
  intro g F h
  change DkGG.ext g = some F at h
  unfold DkGG.ext at h
  split at h
  · rfl
  · rfl
  · rfl
  · rfl
  · rfl
  · rfl
  · rfl
  · rfl
  · rfl
  · rfl
  · rfl
  · rfl
  · rfl
  · rfl
  · rfl
  · rfl
  · rfl
  · cases h
theorem prg : Lk.PrgOk kw ax Try.prog DkGG.G :=
  Lk.prg_ok (bodies := DkGG.bodies) (exts := DkGG.exts) env (by kernel_rfl) (fun _ _ _ h _ _ _ => h) (fun _ => rfl) extb exts funcs names (by kernel_rfl)
theorem res : ∀ g fn, DkGG.G.body g = some fn → fn.results.size ≤ 5 ∧ (DkGG.G.sig g).nr = fn.results.size := Lk.res_le (bodies := DkGG.bodies) (exts := DkGG.exts) (sigs := DkGG.sigs) (fun _ => rfl) (fun _ => rfl) names nrs
end Go.Proofs.Ytcfagjkijhjaoaa.DkGGP

/-! What the bulk of the input says of the acts. -/
namespace Go.Proofs.Ytcfagjkijhjaoaa
open Go.ChangeShapes Go.WideShapes Go.ChangeAt Go.RowKit

theorem bulk_pos {H : Type} (d : DataW H) : 1 ≤ Rows.uptoBulk d := by
  cases d with
  | lit l => cases l <;> simp [Rows.uptoBulk]
  | _ => simp [Rows.uptoBulk]

theorem bulk_len {H : Type} : ∀ es : List (DataW H), es.length ≤ Rows.uptoBulkAll es
  | [] => Nat.zero_le _
  | d :: es => by
    have h1 := bulk_len es
    have h2 := bulk_pos d
    simp only [List.length_cons, Rows.uptoBulkAll]; omega

theorem bulk_mem {H : Type} {e : DataW H} : ∀ {es : List (DataW H)}, e ∈ es → Rows.uptoBulk e ≤ Rows.uptoBulkAll es
  | [], h => by cases h
  | d :: es, h => by
    simp only [Rows.uptoBulkAll]
    rcases List.mem_cons.1 h with rfl | h
    · omega
    · have := bulk_mem h; omega

theorem row_bulk {H : Type} {t : Lk.Ty} {x : Lk.E (.l t)} {d : DataW H} (h : Lk.ToldG (.l t) x (.inl d)) : List.length x ≤ Rows.uptoBulk d := by
  rcases h with ⟨rfl, rfl⟩ | ⟨es, rest, rfl, h⟩
  · simp
  · have := Lk.All2.length h
    have h2 := bulk_len es
    simp only [Rows.uptoBulk]; omega

theorem row_mem {H : Type} {t : Lk.Ty} {x : Lk.E (.l t)} {d : DataW H} (h : Lk.ToldG (.l t) x (.inl d)) {y : Lk.E t} (hy : y ∈ x) : ∃ e : DataW H, Lk.ToldG t y (.inl e) ∧ Rows.uptoBulk e ≤ Rows.uptoBulk d := by
  rcases h with ⟨rfl, rfl⟩ | ⟨es, rest, rfl, h⟩
  · cases hy
  · have key : ∀ {x : List (Lk.E t)} {es : List (DataW H)}, Lk.All2 (fun y e => Lk.ToldG t y (.inl e)) x es → y ∈ x → ∃ e ∈ es, Lk.ToldG t y (.inl e) := by
      intro x
      induction x with
      | nil => intro es _ hy; cases hy
      | cons z x ih =>
        intro es h hy
        cases es with
        | nil => exact h.elim
        | cons e es =>
          obtain ⟨h1, h2⟩ := h
          rcases List.mem_cons.1 hy with rfl | hy
          · exact ⟨e, List.mem_cons_self .., h1⟩
          · obtain ⟨e', h3, h4⟩ := ih h2 hy
            exact ⟨e', List.mem_cons_of_mem _ h3, h4⟩
    obtain ⟨e, h1, h2⟩ := key h hy
    refine ⟨e, h2, ?_⟩
    have := bulk_mem h1
    simp only [Rows.uptoBulk]; omega

abbrev actT : Lk.Ty := .c (.i .i64) (.c .s (.c .s (.c (.l .by) (.c (.i .i64) (.c (.i .i64) (.c (.l (.i .i64)) .u))))))

theorem act_fine {H : Type} {a : Lk.E actT} {d : DataW H} (h : Lk.ToldG actT a (.inl d)) (hr : Lk.Rng actT a) (hb : Rows.uptoBulk d ≤ 1048576) : Dk.Fine a := by
  obtain ⟨a1, l1, rfl, _, a2, l2, rfl, _, a3, l3, rfl, _, a4, l4, rfl, t4, a5, l5, rfl, _, a6, l6, rfl, _, a7, l7, rfl, t7, _⟩ := h
  have b4 := row_bulk t4
  have b7 := row_bulk t7
  simp only [Rows.uptoBulk, Rows.uptoBulkAll] at hb
  obtain ⟨_, _, _, _, r5, r6, _⟩ := hr
  simp only [Lk.Rng, Lk.inR, Lk.kmin, Lk.kmax] at r5 r6
  exact ⟨Nat.le_trans b4 (by omega), Nat.le_trans b7 (by omega), r5.2, r6.2⟩

theorem acts_fine {H : Type} {x : Lk.E (.l actT)} {d : DataW H} (h : Lk.ToldG (.l actT) x (.inl d)) (hr : Lk.Rng (.l actT) x) (hb : Rows.uptoBulk d ≤ 1048576) : ∀ a ∈ (show List Dk.A from x), Dk.Fine a := by
  intro a ha
  obtain ⟨e, h1, h2⟩ := row_mem h ha
  exact act_fine h1 (hr a ha) (by omega)

theorem own : ownKnob Try.prog.godebug = none := by kernel_rfl
end Go.Proofs.Ytcfagjkijhjaoaa

namespace DkGG
open Go Lk
set_option linter.unusedVariables false
@[irreducible] noncomputable def f8 (n : Nat) (a0 : Int) : Option (Option Lk.DiskS × Int × Unit) := F G n 8 (a0, ())
theorem f8_eq (n : Nat) (a0 : Int) : f8 n a0 = Dk.xNew a0 := by kernel_rfl
@[irreducible] noncomputable def f10 (n : Nat) (a0 : Option Lk.DiskS) : Option (Option Lk.DiskS × Unit) := F G n 10 (a0, ())
theorem f10_eq (n : Nat) (a0 : Option Lk.DiskS) : f10 n a0 = Dk.xClone a0 := by kernel_rfl
@[irreducible] noncomputable def f11 (n : Nat) (a0 : Option Lk.DiskS) (a1 : List Int) : Option (Int × Option Lk.DiskS × Unit) := F G n 11 (a0, a1, ())
theorem f11_eq (n : Nat) (a0 : Option Lk.DiskS) (a1 : List Int) : f11 n a0 a1 = Dk.xCrash a0 a1 := by kernel_rfl
@[irreducible] noncomputable def f12 (n : Nat) (a0 : Option Lk.DiskS) : Option (List (List UInt8) × Unit) := F G n 12 (a0, ())
theorem f12_eq (n : Nat) (a0 : Option Lk.DiskS) : f12 n a0 = Dk.xList a0 := by kernel_rfl
@[irreducible] noncomputable def f14 (n : Nat) (a0 : Option Lk.DiskS) (a1 : List UInt8) : Option (Int × Int × Int × Unit) := F G n 14 (a0, a1, ())
theorem f14_eq (n : Nat) (a0 : Option Lk.DiskS) (a1 : List UInt8) : f14 n a0 a1 = Dk.xSize a0 a1 := by kernel_rfl
@[irreducible] noncomputable def f15 (n : Nat) (a0 : Option Lk.DiskS) : Option (Int × Unit) := F G n 15 (a0, ())
theorem f15_eq (n : Nat) (a0 : Option Lk.DiskS) : f15 n a0 = Dk.xUsed a0 := by kernel_rfl
@[irreducible] noncomputable def f20 (n : Nat) (a0 : Option Lk.DiskS) (a1 : Option Lk.DiskS) : Option (Bool × Unit) := F G n 20 (a0, a1, ())
theorem f20_eq (n : Nat) (a0 : Option Lk.DiskS) (a1 : Option Lk.DiskS) : f20 n a0 a1 = Dk.xSame a0 a1 := by kernel_rfl
@[irreducible] noncomputable def f21 (n : Nat) (a0 : Option Lk.DiskS) : Option (Int × Unit) := F G n 21 (a0, ())
theorem f21_eq (n : Nat) (a0 : Option Lk.DiskS) : f21 n a0 = Dk.xRefused a0 := by kernel_rfl
@[irreducible] noncomputable def f22 (n : Nat) (a0 : Option Lk.DiskS) : Option (Int × Unit) := F G n 22 (a0, ())
theorem f22_eq (n : Nat) (a0 : Option Lk.DiskS) : f22 n a0 = Dk.xQuota a0 := by kernel_rfl
@[irreducible] noncomputable def f23 (n : Nat) (a0 : Option Lk.DiskS) (a1 : Int) (a2 : Int) : Option (Int × Option Lk.DiskS × Unit) := F G n 23 (a0, a1, a2, ())
theorem f23_eq (n : Nat) (a0 : Option Lk.DiskS) (a1 : Int) (a2 : Int) : f23 n a0 a1 a2 = Dk.xRefuse a0 a1 a2 := by kernel_rfl
@[irreducible] noncomputable def f24 (n : Nat) (a0 : Option Lk.DiskS) (a1 : List UInt8) : Option (Int × Option Lk.DiskS × Unit) := F G n 24 (a0, a1, ())
theorem f24_eq (n : Nat) (a0 : Option Lk.DiskS) (a1 : List UInt8) : f24 n a0 a1 = Dk.xCreate a0 a1 := by kernel_rfl
@[irreducible] noncomputable def f25 (n : Nat) (a0 : Option Lk.DiskS) (a1 : List UInt8) (a2 : List UInt8) : Option (Int × Option Lk.DiskS × Unit) := F G n 25 (a0, a1, a2, ())
theorem f25_eq (n : Nat) (a0 : Option Lk.DiskS) (a1 : List UInt8) (a2 : List UInt8) : f25 n a0 a1 a2 = Dk.xAppend a0 a1 a2 := by kernel_rfl
@[irreducible] noncomputable def f26 (n : Nat) (a0 : Option Lk.DiskS) (a1 : List UInt8) (a2 : Int) (a3 : Int) : Option (List UInt8 × Int × Unit) := F G n 26 (a0, a1, a2, a3, ())
theorem f26_eq (n : Nat) (a0 : Option Lk.DiskS) (a1 : List UInt8) (a2 : Int) (a3 : Int) : f26 n a0 a1 a2 a3 = Dk.xRead a0 a1 a2 a3 := by kernel_rfl
@[irreducible] noncomputable def f31 (n : Nat) (a0 : Option Lk.DiskS) (a1 : List UInt8) : Option (Int × Option Lk.DiskS × Unit) := F G n 31 (a0, a1, ())
theorem f31_eq (n : Nat) (a0 : Option Lk.DiskS) (a1 : List UInt8) : f31 n a0 a1 = Dk.xSync a0 a1 := by kernel_rfl
@[irreducible] noncomputable def f32 (n : Nat) (a0 : Option Lk.DiskS) (a1 : List UInt8) (a2 : List UInt8) : Option (Int × Option Lk.DiskS × Unit) := F G n 32 (a0, a1, a2, ())
theorem f32_eq (n : Nat) (a0 : Option Lk.DiskS) (a1 : List UInt8) (a2 : List UInt8) : f32 n a0 a1 a2 = Dk.xRename a0 a1 a2 := by kernel_rfl
@[irreducible] noncomputable def f33 (n : Nat) (a0 : Option Lk.DiskS) (a1 : List UInt8) : Option (Int × Option Lk.DiskS × Unit) := F G n 33 (a0, a1, ())
theorem f33_eq (n : Nat) (a0 : Option Lk.DiskS) (a1 : List UInt8) : f33 n a0 a1 = Dk.xRemove a0 a1 := by kernel_rfl
@[irreducible] noncomputable def f34 (n : Nat) (a0 : Option Lk.DiskS) (a1 : Int) : Option (Int × Option Lk.DiskS × Unit) := F G n 34 (a0, a1, ())
theorem f34_eq (n : Nat) (a0 : Option Lk.DiskS) (a1 : Int) : f34 n a0 a1 = Dk.xSetQuota a0 a1 := by kernel_rfl
@[irreducible] noncomputable def f30 (n : Nat) (a0 : List (UInt8)) : Option (List (UInt8) × Unit) := F G n 30 (a0, ())
@[irreducible] noncomputable def f9 (n : Nat) (a0 : Option Lk.DiskS) (a1 : AbA) : Option (Int × Option Lk.DiskS × Unit) := F G n 9 (a0, a1, ())
@[irreducible] noncomputable def p9_8 (j n0 : Nat) (v0 : Option Lk.DiskS) (v5 : List (UInt8)) (v6 : Int) (v7 : Int) : Option (Int × Option Lk.DiskS × Unit) := piece G 9 [.r, .l, .r, .b, .r, .f, .r, .t, .r, .r, .l, .r, .b] j [n0] (skel 83 0 [(0, .av ⟨(.a 0), (.o .r), v0⟩), (5, .av ⟨(.l .by), (.o .r), v5⟩), (6, .av ⟨(.i .i64), .r, v6⟩), (7, .av ⟨(.i .i64), .r, v7⟩)])
@[irreducible] noncomputable def f13 (n : Nat) (a0 : Option Lk.DiskS) (a1 : List UInt8) : Option (List UInt8 × Unit) := F G n 13 (a0, a1, ())
@[irreducible] noncomputable def f3 (n : Nat) (a0 : Int) (a1 : List AbA) (a2 : List (Int)) : Option (Bool × Unit) := F G n 3 (a0, a1, a2, ())
@[irreducible] noncomputable def p3_5 (j n0 : Nat) (v1 : List AbA) (v2 : List (Int)) (v7 : Option Lk.DiskS) (v9 : Int) : Option (Bool × Unit) := piece G 3 [.r, .r, .r, .l, .r, .b] j [n0] (skel 164 0 [(1, .av ⟨(.l TyA), .b, v1⟩), (2, .av ⟨(.l (.i .i64)), .b, v2⟩), (7, .av ⟨(.a 0), (.o .r), v7⟩), (9, .av ⟨(.i .i64), .r, v9⟩)])
@[irreducible] noncomputable def p3_2058 (j n0 : Nat) (v2 : List (Int)) (v7 : Option Lk.DiskS) (v10 : Option Lk.DiskS) (v62 : Bool) : Option (Bool × Unit) := piece G 3 [.r, .r, .r, .r, .r, .l, .r] j [n0] (skel 164 0 [(2, .av ⟨(.l (.i .i64)), .b, v2⟩), (7, .av ⟨(.a 0), (.o .r), v7⟩), (10, .av ⟨(.a 0), (.o .r), v10⟩), (62, .av ⟨.b, .r, v62⟩)])
@[irreducible] noncomputable def p3_11 (j n0 : Nat) (v2 : List (Int)) (v7 : Option Lk.DiskS) (v10 : Option Lk.DiskS) : Option (Bool × Unit) := piece G 3 [.r, .r, .r, .r, .r, .r] j [n0] (skel 164 0 [(2, .av ⟨(.l (.i .i64)), .b, v2⟩), (7, .av ⟨(.a 0), (.o .r), v7⟩), (10, .av ⟨(.a 0), (.o .r), v10⟩)])
@[irreducible] noncomputable def p3_15 (j n0 n1 : Nat) (v2 : List (Int)) (v7 : Option Lk.DiskS) (v10 : Option Lk.DiskS) (v11 : List (List UInt8)) (v12 : List (List UInt8)) (v13 : Int) : Option (Bool × Unit) := piece G 3 [.r, .r, .r, .r, .r, .r, .r, .r, .l, .r, .b] j [n0, n1] (skel 164 0 [(2, .av ⟨(.l (.i .i64)), .b, v2⟩), (7, .av ⟨(.a 0), (.o .r), v7⟩), (10, .av ⟨(.a 0), (.o .r), v10⟩), (11, .av ⟨(.l .s), (.o .r), v11⟩), (12, .av ⟨(.l .s), (.o .r), v12⟩), (13, .av ⟨(.i .i64), .r, v13⟩)])
@[irreducible] noncomputable def p3_2069 (j n0 n1 n2 : Nat) (v2 : List (Int)) (v7 : Option Lk.DiskS) (v10 : Option Lk.DiskS) (v11 : List (List UInt8)) (v12 : List (List UInt8)) (v13 : Int) (v15 : List UInt8) (v17 : Int) (v144 : Bool) : Option (Bool × Unit) := piece G 3 [.r, .r, .r, .r, .r, .r, .r, .r, .l, .r, .b, .o, .r, .l, .b, .r, .r, .r, .l, .r] j [n0, n1, n2] (skel 164 0 [(2, .av ⟨(.l (.i .i64)), .b, v2⟩), (7, .av ⟨(.a 0), (.o .r), v7⟩), (10, .av ⟨(.a 0), (.o .r), v10⟩), (11, .av ⟨(.l .s), (.o .r), v11⟩), (12, .av ⟨(.l .s), (.o .r), v12⟩), (13, .av ⟨(.i .i64), .r, v13⟩), (15, .av ⟨.s, .r, v15⟩), (17, .av ⟨(.i .i64), .r, v17⟩), (144, .av ⟨.b, .r, v144⟩)])
@[irreducible] noncomputable def p3_22 (j n0 n1 n2 : Nat) (v2 : List (Int)) (v7 : Option Lk.DiskS) (v10 : Option Lk.DiskS) (v11 : List (List UInt8)) (v12 : List (List UInt8)) (v13 : Int) (v15 : List UInt8) (v17 : Int) : Option (Bool × Unit) := piece G 3 [.r, .r, .r, .r, .r, .r, .r, .r, .l, .r, .b, .o, .r, .l, .b, .r, .r, .r, .r] j [n0, n1, n2] (skel 164 0 [(2, .av ⟨(.l (.i .i64)), .b, v2⟩), (7, .av ⟨(.a 0), (.o .r), v7⟩), (10, .av ⟨(.a 0), (.o .r), v10⟩), (11, .av ⟨(.l .s), (.o .r), v11⟩), (12, .av ⟨(.l .s), (.o .r), v12⟩), (13, .av ⟨(.i .i64), .r, v13⟩), (15, .av ⟨.s, .r, v15⟩), (17, .av ⟨(.i .i64), .r, v17⟩)])
@[irreducible] noncomputable def p3_2071 (j n0 n1 n2 n3 : Nat) (v2 : List (Int)) (v7 : Option Lk.DiskS) (v10 : Option Lk.DiskS) (v11 : List (List UInt8)) (v12 : List (List UInt8)) (v13 : Int) (v153 : Bool) : Option (Bool × Unit) := piece G 3 [.r, .r, .r, .r, .r, .r, .r, .r, .l, .r, .b, .o, .r, .l, .b, .r, .r, .r, .r, .r] j [n0, n1, n2, n3] (skel 164 0 [(2, .av ⟨(.l (.i .i64)), .b, v2⟩), (7, .av ⟨(.a 0), (.o .r), v7⟩), (10, .av ⟨(.a 0), (.o .r), v10⟩), (11, .av ⟨(.l .s), (.o .r), v11⟩), (12, .av ⟨(.l .s), (.o .r), v12⟩), (13, .av ⟨(.i .i64), .r, v13⟩), (153, .av ⟨.b, .r, v153⟩)])
@[irreducible] noncomputable def p3_16 (j n0 n1 n2 : Nat) (v2 : List (Int)) (v7 : Option Lk.DiskS) (v10 : Option Lk.DiskS) (v11 : List (List UInt8)) (v12 : List (List UInt8)) (v13 : Int) : Option (Bool × Unit) := piece G 3 [.r, .r, .r, .r, .r, .r, .r, .r, .l, .r, .b, .o, .r, .r] j [n0, n1, n2] (skel 164 0 [(2, .av ⟨(.l (.i .i64)), .b, v2⟩), (7, .av ⟨(.a 0), (.o .r), v7⟩), (10, .av ⟨(.a 0), (.o .r), v10⟩), (11, .av ⟨(.l .s), (.o .r), v11⟩), (12, .av ⟨(.l .s), (.o .r), v12⟩), (13, .av ⟨(.i .i64), .r, v13⟩)])
@[irreducible] noncomputable def f5 (n : Nat) (a0 : Int) (a1 : List AbA) : Option (Bool × Unit) := F G n 5 (a0, a1, ())
@[irreducible] noncomputable def p5_5 (j n0 : Nat) (v1 : List AbA) (v5 : Option Lk.DiskS) (v7 : Int) : Option (Bool × Unit) := piece G 5 [.r, .r, .r, .l, .r, .b] j [n0] (skel 119 0 [(1, .av ⟨(.l TyA), .b, v1⟩), (5, .av ⟨(.a 0), (.o .r), v5⟩), (7, .av ⟨(.i .i64), .r, v7⟩)])
@[irreducible] noncomputable def p5_2058 (j n0 n1 : Nat) (v1 : List AbA) (v5 : Option Lk.DiskS) (v7 : Int) (v8 : Option Lk.DiskS) (v9 : Int) (v53 : Bool) : Option (Bool × Unit) := piece G 5 [.r, .r, .r, .l, .r, .b, .o, .r, .l, .b, .r, .r, .l, .r] j [n0, n1] (skel 119 0 [(1, .av ⟨(.l TyA), .b, v1⟩), (5, .av ⟨(.a 0), (.o .r), v5⟩), (7, .av ⟨(.i .i64), .r, v7⟩), (8, .av ⟨(.a 0), (.o .r), v8⟩), (9, .av ⟨(.i .i64), .r, v9⟩), (53, .av ⟨.b, .r, v53⟩)])
@[irreducible] noncomputable def p5_2064 (j n0 : Nat) (v5 : Option Lk.DiskS) (v98 : Bool) : Option (Bool × Unit) := piece G 5 [.r, .r, .r, .r, .l, .r] j [n0] (skel 119 0 [(5, .av ⟨(.a 0), (.o .r), v5⟩), (98, .av ⟨.b, .r, v98⟩)])
@[irreducible] noncomputable def p5_11 (j n0 n1 : Nat) (v1 : List AbA) (v5 : Option Lk.DiskS) (v7 : Int) (v8 : Option Lk.DiskS) (v9 : Int) : Option (Bool × Unit) := piece G 5 [.r, .r, .r, .l, .r, .b, .o, .r, .l, .b, .r, .r, .r] j [n0, n1] (skel 119 0 [(1, .av ⟨(.l TyA), .b, v1⟩), (5, .av ⟨(.a 0), (.o .r), v5⟩), (7, .av ⟨(.i .i64), .r, v7⟩), (8, .av ⟨(.a 0), (.o .r), v8⟩), (9, .av ⟨(.i .i64), .r, v9⟩)])
@[irreducible] noncomputable def p5_17 (j n0 : Nat) (v5 : Option Lk.DiskS) : Option (Bool × Unit) := piece G 5 [.r, .r, .r, .r, .r] j [n0] (skel 119 0 [(5, .av ⟨(.a 0), (.o .r), v5⟩)])
@[irreducible] noncomputable def p5_2060 (j n0 n1 n2 : Nat) (v1 : List AbA) (v5 : Option Lk.DiskS) (v7 : Int) (v9 : Int) (v72 : Bool) : Option (Bool × Unit) := piece G 5 [.r, .r, .r, .l, .r, .b, .o, .r, .l, .b, .r, .r, .r, .l, .r] j [n0, n1, n2] (skel 119 0 [(1, .av ⟨(.l TyA), .b, v1⟩), (5, .av ⟨(.a 0), (.o .r), v5⟩), (7, .av ⟨(.i .i64), .r, v7⟩), (9, .av ⟨(.i .i64), .r, v9⟩), (72, .av ⟨.b, .r, v72⟩)])
@[irreducible] noncomputable def p5_2067 (j n0 n1 : Nat) (v5 : Option Lk.DiskS) (v115 : Bool) : Option (Bool × Unit) := piece G 5 [.r, .r, .r, .r, .r, .r, .l, .r] j [n0, n1] (skel 119 0 [(5, .av ⟨(.a 0), (.o .r), v5⟩), (115, .av ⟨.b, .r, v115⟩)])
@[irreducible] noncomputable def p5_13 (j n0 n1 n2 : Nat) (v1 : List AbA) (v5 : Option Lk.DiskS) (v7 : Int) (v9 : Int) : Option (Bool × Unit) := piece G 5 [.r, .r, .r, .l, .r, .b, .o, .r, .l, .b, .r, .r, .r, .r] j [n0, n1, n2] (skel 119 0 [(1, .av ⟨(.l TyA), .b, v1⟩), (5, .av ⟨(.a 0), (.o .r), v5⟩), (7, .av ⟨(.i .i64), .r, v7⟩), (9, .av ⟨(.i .i64), .r, v9⟩)])
@[irreducible] noncomputable def p5_20 (j n0 n1 : Nat) (v5 : Option Lk.DiskS) : Option (Bool × Unit) := piece G 5 [.r, .r, .r, .r, .r, .r, .r] j [n0, n1] (skel 119 0 [(5, .av ⟨(.a 0), (.o .r), v5⟩)])
@[irreducible] noncomputable def p5_2062 (j n0 n1 n2 n3 : Nat) (v1 : List AbA) (v5 : Option Lk.DiskS) (v7 : Int) (v89 : Bool) : Option (Bool × Unit) := piece G 5 [.r, .r, .r, .l, .r, .b, .o, .r, .l, .b, .r, .r, .r, .r, .r] j [n0, n1, n2, n3] (skel 119 0 [(1, .av ⟨(.l TyA), .b, v1⟩), (5, .av ⟨(.a 0), (.o .r), v5⟩), (7, .av ⟨(.i .i64), .r, v7⟩), (89, .av ⟨.b, .r, v89⟩)])
@[irreducible] noncomputable def p5_6 (j n0 n1 : Nat) (v1 : List AbA) (v5 : Option Lk.DiskS) (v7 : Int) : Option (Bool × Unit) := piece G 5 [.r, .r, .r, .l, .r, .b, .o, .r, .r] j [n0, n1] (skel 119 0 [(1, .av ⟨(.l TyA), .b, v1⟩), (5, .av ⟨(.a 0), (.o .r), v5⟩), (7, .av ⟨(.i .i64), .r, v7⟩)])
theorem f30_eq (n : Nat) (a0 : List (UInt8)) : f30 (n + 1) a0 = (sel (decide ((0 : Nat) + a0.length ≤ (1073741824 : Nat))) (sel (decide (List.length ([] ++ a0) + (1 : Nat) ≤ (1073741824 : Nat))) (sel (decide ((0 : Int) ≤ (↑a0.length : Int))) (sel (decide ((↑a0.length : Int) ≤ (↑(List.length ([] ++ a0 ++ [(90 : UInt8)])) : Int))) (some (Lk.ext ([] ++ a0 ++ [(90 : UInt8)]) (0 : Int) (↑a0.length : Int), ())) none) none) none) none) := by kernel_rfl
theorem f9_eq (n : Nat) (a0 : Option Lk.DiskS) (a1 : AbA) : f9 (n + 1) a0 a1 = (sel ((some a1).isSome) (sel (((some a1).getD ((0 : Int), [], [], [], (0 : Int), (0 : Int), [], ())).fst == (0 : Int)) (sel ((some a1).isSome) (obind (f24 n a0 (((some a1).getD ((0 : Int), [], [], [], (0 : Int), (0 : Int), [], ())).snd.fst)) fun r111 => (some (r111.fst, r111.snd.fst, ()))) none) (sel (((some a1).getD ((0 : Int), [], [], [], (0 : Int), (0 : Int), [], ())).fst == (1 : Int)) (sel ((some a1).isSome) (obind (f30 n (((some a1).getD ((0 : Int), [], [], [], (0 : Int), (0 : Int), [], ())).snd.snd.snd.fst)) fun r191 => (sel ((some a1).isSome) (obind (f25 n a0 (((some a1).getD ((0 : Int), [], [], [], (0 : Int), (0 : Int), [], ())).snd.fst) (r191.fst)) fun r244 => (p9_8 n n (r244.snd.fst) (r191.fst) (r244.fst) ((0 : Int)))) none)) none) (sel (((some a1).getD ((0 : Int), [], [], [], (0 : Int), (0 : Int), [], ())).fst == (2 : Int)) (sel ((some a1).isSome) (obind (f31 n a0 (((some a1).getD ((0 : Int), [], [], [], (0 : Int), (0 : Int), [], ())).snd.fst)) fun r336 => (some (r336.fst, r336.snd.fst, ()))) none) (sel (((some a1).getD ((0 : Int), [], [], [], (0 : Int), (0 : Int), [], ())).fst == (3 : Int)) (sel ((some a1).isSome) (sel ((some a1).isSome) (obind (f32 n a0 (((some a1).getD ((0 : Int), [], [], [], (0 : Int), (0 : Int), [], ())).snd.fst) (((some a1).getD ((0 : Int), [], [], [], (0 : Int), (0 : Int), [], ())).snd.snd.fst)) fun r437 => (some (r437.fst, r437.snd.fst, ()))) none) none) (sel (((some a1).getD ((0 : Int), [], [], [], (0 : Int), (0 : Int), [], ())).fst == (4 : Int)) (sel ((some a1).isSome) (obind (f33 n a0 (((some a1).getD ((0 : Int), [], [], [], (0 : Int), (0 : Int), [], ())).snd.fst)) fun r524 => (some (r524.fst, r524.snd.fst, ()))) none) (sel (((some a1).getD ((0 : Int), [], [], [], (0 : Int), (0 : Int), [], ())).fst == (5 : Int)) (sel ((some a1).isSome) (obind (f34 n a0 (((some a1).getD ((0 : Int), [], [], [], (0 : Int), (0 : Int), [], ())).snd.snd.snd.snd.snd.fst)) fun r611 => (some (r611.fst, r611.snd.fst, ()))) none) (sel (((some a1).getD ((0 : Int), [], [], [], (0 : Int), (0 : Int), [], ())).fst == (6 : Int)) (sel ((some a1).isSome) (sel ((some a1).isSome) (obind (f23 n a0 (((some a1).getD ((0 : Int), [], [], [], (0 : Int), (0 : Int), [], ())).snd.snd.snd.snd.fst) (((some a1).getD ((0 : Int), [], [], [], (0 : Int), (0 : Int), [], ())).snd.snd.snd.snd.snd.fst)) fun r712 => (some (r712.fst, r712.snd.fst, ()))) none) none) (sel (((some a1).getD ((0 : Int), [], [], [], (0 : Int), (0 : Int), [], ())).fst == (7 : Int)) (sel ((some a1).isSome) (sel (decide ((0 : Nat) + List.length ((some a1).getD ((0 : Int), [], [], [], (0 : Int), (0 : Int), [], ())).snd.snd.snd.snd.snd.snd.fst ≤ (1073741824 : Nat))) (obind (f11 n a0 ([] ++ ((some a1).getD ((0 : Int), [], [], [], (0 : Int), (0 : Int), [], ())).snd.snd.snd.snd.snd.snd.fst)) fun r813 => (some (r813.fst, r813.snd.fst, ()))) none) none) (some ((0 : Int), a0, ())))))))))) none) := by kernel_rfl
theorem p9_8_eq (j n0 : Nat) (v0 : Option Lk.DiskS) (v5 : List (UInt8)) (v6 : Int) (v7 : Int) : p9_8 (j + 1) n0 v0 v5 v6 v7 = (sel (decide (v7 < (↑v5.length : Int))) (sel (decide ((0 : Int) ≤ v7)) (sel (decide (v7 < (↑v5.length : Int))) (sel (decide ((0 : Int) ≤ v7)) (sel (decide (v7 < (↑v5.length : Int))) (p9_8 j n0 v0 (v5.set v7.toNat (UInt8.ofNat (Go.IntKind.u8.wrap ((↑(UInt8.toNat (v5.getD v7.toNat (0 : UInt8))) : Int) + (↑(UInt8.toNat (1 : UInt8)) : Int))).toNat)) v6 (Go.IntKind.i64.wrap (v7 + (1 : Int)))) none) none) none) none) (some (v6, v0, ()))) := by kernel_rfl
theorem f13_eq (n : Nat) (a0 : Option Lk.DiskS) (a1 : List UInt8) : f13 (n + 1) a0 a1 = (obind (f14 n a0 a1) fun r47 => (obind (f26 n a0 a1 ((0 : Int)) (r47.fst)) fun r135 => (some (r135.fst, ())))) := by kernel_rfl
theorem f3_eq (n : Nat) (a0 : Int) (a1 : List AbA) (a2 : List (Int)) : f3 (n + 1) a0 a1 a2 = (obind (f8 n a0) fun r40 => (sel (Option.isNone r40.fst) (sel (r40.snd.fst == (2 : Int)) (sel (decide (a0 < (0 : Int))) (some (true, ())) (some (decide (a0 > (268435456 : Int)), ()))) (some (false, ()))) (p3_5 n n a1 a2 (r40.fst) ((0 : Int))))) := by kernel_rfl
theorem p3_5_eq (j n0 : Nat) (v1 : List AbA) (v2 : List (Int)) (v7 : Option Lk.DiskS) (v9 : Int) : p3_5 (j + 1) n0 v1 v2 v7 v9 = (sel (decide (v9 < (↑v1.length : Int))) (sel (decide ((0 : Int) ≤ v9)) (sel (decide (v9 < (↑v1.length : Int))) (obind (f9 j v7 (v1.getD v9.toNat ((0 : Int), [], [], [], (0 : Int), (0 : Int), [], ()))) fun r490 => (p3_5 j n0 v1 v2 (r490.snd.fst) (Go.IntKind.i64.wrap (v9 + (1 : Int))))) none) none) (obind (f10 n0 v7) fun r557 => (sel (Option.isNone r557.fst) (p3_2058 n0 n0 v2 v7 (r557.fst) true) (sel (decide ((0 : Nat) + v2.length ≤ (1073741824 : Nat))) (obind (f11 n0 v7 ([] ++ v2)) fun r725 => (p3_2058 n0 n0 v2 (r725.snd.fst) (r557.fst) (r725.fst != (0 : Int)))) none)))) := by kernel_rfl
theorem p3_2058_eq (j n0 : Nat) (v2 : List (Int)) (v7 : Option Lk.DiskS) (v10 : Option Lk.DiskS) (v62 : Bool) : p3_2058 (j + 1) n0 v2 v7 v10 v62 = (sel v62 (some (false, ())) (p3_11 n0 n0 v2 v7 v10)) := by kernel_rfl
theorem p3_11_eq (j n0 : Nat) (v2 : List (Int)) (v7 : Option Lk.DiskS) (v10 : Option Lk.DiskS) : p3_11 (j + 1) n0 v2 v7 v10 = (obind (f12 j v10) fun r812 => (obind (f12 j v7) fun r829 => (sel ((↑(List.length r812.fst) : Int) != (↑(List.length r829.fst) : Int)) (some (false, ())) (p3_15 j n0 j v2 v7 v10 (r812.fst) (r829.fst) ((0 : Int)))))) := by kernel_rfl
theorem p3_15_eq (j n0 n1 : Nat) (v2 : List (Int)) (v7 : Option Lk.DiskS) (v10 : Option Lk.DiskS) (v11 : List (List UInt8)) (v12 : List (List UInt8)) (v13 : Int) : p3_15 (j + 1) n0 n1 v2 v7 v10 v11 v12 v13 = (sel (decide (v13 < (↑v11.length : Int))) (sel (decide ((0 : Int) ≤ v13)) (sel (decide (v13 < (↑v11.length : Int))) (obind (f13 j v10 (v11.getD v13.toNat [])) fun r1049 => (sel (decide ((0 : Int) ≤ v13)) (sel (decide (v13 < (↑v11.length : Int))) (obind (f13 j v7 (v11.getD v13.toNat [])) fun r1095 => (sel (decide ((0 : Int) ≤ v13)) (sel (decide (v13 < (↑v11.length : Int))) (obind (f14 j v10 (v11.getD v13.toNat [])) fun r1161 => (sel (decide ((0 : Int) ≤ v13)) (sel (decide (v13 < (↑v11.length : Int))) (obind (f14 j v7 (v11.getD v13.toNat [])) fun r1263 => (sel (decide ((0 : Int) ≤ v13)) (sel (decide (v13 < (↑v11.length : Int))) (sel (decide ((0 : Int) ≤ v13)) (sel (decide (v13 < (↑v12.length : Int))) (sel (!v11.getD v13.toNat [] == v12.getD v13.toNat []) (p3_2069 j n0 n1 j v2 v7 v10 v11 v12 v13 (r1095.fst) (r1161.snd.fst) true) (sel (decide ((↑(List.length r1095.fst) : Int) < r1161.snd.fst)) (p3_2069 j n0 n1 j v2 v7 v10 v11 v12 v13 (r1095.fst) (r1161.snd.fst) true) (sel (decide ((↑(List.length r1095.fst) : Int) > (↑(List.length r1049.fst) : Int))) (p3_2069 j n0 n1 j v2 v7 v10 v11 v12 v13 (r1095.fst) (r1161.snd.fst) true) (sel (decide ((0 : Int) ≤ (↑(List.length r1095.fst) : Int))) (sel (decide ((↑(List.length r1095.fst) : Int) ≤ (↑(List.length r1049.fst) : Int))) (sel (!Lk.ext r1049.fst (0 : Int) (↑(List.length r1095.fst) : Int) == r1095.fst) (p3_2069 j n0 n1 j v2 v7 v10 v11 v12 v13 (r1095.fst) (r1161.snd.fst) true) (p3_2069 j n0 n1 j v2 v7 v10 v11 v12 v13 (r1095.fst) (r1161.snd.fst) (r1263.fst != r1263.snd.fst))) none) none)))) none) none) none) none)) none) none)) none) none)) none) none)) none) none) (obind (f11 n1 v7 ([])) fun r2247 => (sel (r2247.fst == (0 : Int)) (obind (f15 n1 (r2247.snd.fst)) fun r2290 => (obind (f15 n1 v10) fun r2319 => (some (decide (r2290.fst ≤ r2319.fst), ())))) (some (false, ()))))) := by kernel_rfl
theorem p3_2069_eq (j n0 n1 n2 : Nat) (v2 : List (Int)) (v7 : Option Lk.DiskS) (v10 : Option Lk.DiskS) (v11 : List (List UInt8)) (v12 : List (List UInt8)) (v13 : Int) (v15 : List UInt8) (v17 : Int) (v144 : Bool) : p3_2069 (j + 1) n0 n1 n2 v2 v7 v10 v11 v12 v13 v15 v17 v144 = (sel v144 (some (false, ())) (p3_22 n2 n0 n1 n2 v2 v7 v10 v11 v12 v13 v15 v17)) := by kernel_rfl
theorem p3_22_eq (j n0 n1 n2 : Nat) (v2 : List (Int)) (v7 : Option Lk.DiskS) (v10 : Option Lk.DiskS) (v11 : List (List UInt8)) (v12 : List (List UInt8)) (v13 : Int) (v15 : List UInt8) (v17 : Int) : p3_22 (j + 1) n0 n1 n2 v2 v7 v10 v11 v12 v13 v15 v17 = (sel ((↑v2.length : Int) == (0 : Int)) (p3_2071 j n0 n1 n2 j v2 v7 v10 v11 v12 v13 ((↑v15.length : Int) != v17)) (p3_2071 j n0 n1 n2 j v2 v7 v10 v11 v12 v13 false)) := by kernel_rfl
theorem p3_2071_eq (j n0 n1 n2 n3 : Nat) (v2 : List (Int)) (v7 : Option Lk.DiskS) (v10 : Option Lk.DiskS) (v11 : List (List UInt8)) (v12 : List (List UInt8)) (v13 : Int) (v153 : Bool) : p3_2071 (j + 1) n0 n1 n2 n3 v2 v7 v10 v11 v12 v13 v153 = (sel v153 (some (false, ())) (p3_16 n2 n0 n1 n2 v2 v7 v10 v11 v12 v13)) := by kernel_rfl
theorem p3_16_eq (j n0 n1 n2 : Nat) (v2 : List (Int)) (v7 : Option Lk.DiskS) (v10 : Option Lk.DiskS) (v11 : List (List UInt8)) (v12 : List (List UInt8)) (v13 : Int) : p3_16 (j + 1) n0 n1 n2 v2 v7 v10 v11 v12 v13 = (p3_15 n2 n0 n1 v2 v7 v10 v11 v12 (Go.IntKind.i64.wrap (v13 + (1 : Int)))) := by kernel_rfl
theorem f5_eq (n : Nat) (a0 : Int) (a1 : List AbA) : f5 (n + 1) a0 a1 = (obind (f8 n a0) fun r40 => (sel (Option.isNone r40.fst) (sel (decide (a0 < (0 : Int))) (some (true, ())) (some (decide (a0 > (268435456 : Int)), ()))) (p5_5 n n a1 (r40.fst) ((0 : Int))))) := by kernel_rfl
theorem p5_5_eq (j n0 : Nat) (v1 : List AbA) (v5 : Option Lk.DiskS) (v7 : Int) : p5_5 (j + 1) n0 v1 v5 v7 = (sel (decide (v7 < (↑v1.length : Int))) (obind (f10 j v5) fun r324 => (sel (decide ((0 : Int) ≤ v7)) (sel (decide (v7 < (↑v1.length : Int))) (obind (f9 j v5 (v1.getD v7.toNat ((0 : Int), [], [], [], (0 : Int), (0 : Int), [], ()))) fun r384 => (sel (r384.fst == (52 : Int)) (obind (f20 j (r384.snd.fst) (r324.fst)) fun r463 => (sel (!r463.fst) (p5_2058 j n0 j v1 (r384.snd.fst) v7 (r324.fst) (r384.fst) true) (obind (f21 j (r384.snd.fst)) fun r594 => (obind (f21 j (r324.fst)) fun r623 => (p5_2058 j n0 j v1 (r384.snd.fst) v7 (r324.fst) (r384.fst) (r594.fst != Go.IntKind.i64.wrap (r623.fst + (1 : Int)))))))) (p5_2058 j n0 j v1 (r384.snd.fst) v7 (r324.fst) (r384.fst) false))) none) none)) (obind (f23 n0 v5 ((0 : Int)) ((0 : Int))) fun r806 => (sel (r806.fst != (0 : Int)) (p5_2064 n0 n0 (r806.snd.fst) true) (obind (f12 n0 (r806.snd.fst)) fun r892 => (p5_2064 n0 n0 (r806.snd.fst) (decide ((↑(List.length r892.fst) : Int) ≥ (4096 : Int)))))))) := by kernel_rfl
theorem p5_2058_eq (j n0 n1 : Nat) (v1 : List AbA) (v5 : Option Lk.DiskS) (v7 : Int) (v8 : Option Lk.DiskS) (v9 : Int) (v53 : Bool) : p5_2058 (j + 1) n0 n1 v1 v5 v7 v8 v9 v53 = (sel v53 (some (false, ())) (p5_11 n1 n0 n1 v1 v5 v7 v8 v9)) := by kernel_rfl
theorem p5_2064_eq (j n0 : Nat) (v5 : Option Lk.DiskS) (v98 : Bool) : p5_2064 (j + 1) n0 v5 v98 = (sel v98 (obind (f12 j v5) fun r1006 => (some (decide ((↑(List.length r1006.fst) : Int) ≤ (4096 : Int)), ()))) (p5_17 n0 n0 v5)) := by kernel_rfl
theorem p5_11_eq (j n0 n1 : Nat) (v1 : List AbA) (v5 : Option Lk.DiskS) (v7 : Int) (v8 : Option Lk.DiskS) (v9 : Int) : p5_11 (j + 1) n0 n1 v1 v5 v7 v8 v9 = (sel (v9 != (52 : Int)) (obind (f21 j v5) fun r1106 => (obind (f21 j v8) fun r1135 => (sel (r1106.fst != r1135.fst) (p5_2060 j n0 n1 j v1 v5 v7 v9 true) (sel (v9 != (0 : Int)) (obind (f20 j v5 v8) fun r1310 => (p5_2060 j n0 n1 j v1 v5 v7 v9 (!r1310.fst))) (p5_2060 j n0 n1 j v1 v5 v7 v9 false))))) (sel (v9 != (0 : Int)) (obind (f20 j v5 v8) fun r1540 => (p5_2060 j n0 n1 j v1 v5 v7 v9 (!r1540.fst))) (p5_2060 j n0 n1 j v1 v5 v7 v9 false))) := by kernel_rfl
theorem p5_17_eq (j n0 : Nat) (v5 : Option Lk.DiskS) : p5_17 (j + 1) n0 v5 = (obind (f24 j v5 ([(97 : UInt8), (32 : UInt8), (102 : UInt8), (105 : UInt8), (108 : UInt8), (101 : UInt8), (32 : UInt8), (116 : UInt8), (104 : UInt8), (97 : UInt8), (116 : UInt8), (32 : UInt8), (110 : UInt8), (111 : UInt8), (98 : UInt8), (111 : UInt8), (100 : UInt8), (121 : UInt8), (32 : UInt8), (110 : UInt8), (97 : UInt8), (109 : UInt8), (101 : UInt8), (100 : UInt8)])) fun r1657 => (sel (r1657.fst != (0 : Int)) (sel (r1657.fst != (50 : Int)) (p5_2067 j n0 j (r1657.snd.fst) true) (obind (f23 j (r1657.snd.fst) ((0 : Int)) ((1 : Int))) fun r1796 => (p5_2067 j n0 j (r1796.snd.fst) (r1796.fst != (0 : Int))))) (obind (f23 j (r1657.snd.fst) ((0 : Int)) ((1 : Int))) fun r1875 => (p5_2067 j n0 j (r1875.snd.fst) (r1875.fst != (0 : Int)))))) := by kernel_rfl
theorem p5_2060_eq (j n0 n1 n2 : Nat) (v1 : List AbA) (v5 : Option Lk.DiskS) (v7 : Int) (v9 : Int) (v72 : Bool) : p5_2060 (j + 1) n0 n1 n2 v1 v5 v7 v9 v72 = (sel v72 (some (false, ())) (p5_13 n2 n0 n1 n2 v1 v5 v7 v9)) := by kernel_rfl
theorem p5_2067_eq (j n0 n1 : Nat) (v5 : Option Lk.DiskS) (v115 : Bool) : p5_2067 (j + 1) n0 n1 v5 v115 = (sel v115 (some (false, ())) (p5_20 n1 n0 n1 v5)) := by kernel_rfl
theorem p5_13_eq (j n0 n1 n2 : Nat) (v1 : List AbA) (v5 : Option Lk.DiskS) (v7 : Int) (v9 : Int) : p5_13 (j + 1) n0 n1 n2 v1 v5 v7 v9 = (sel (decide ((0 : Int) ≤ v7)) (sel (decide (v7 < (↑v1.length : Int))) (sel ((v1.getD v7.toNat ((0 : Int), [], [], [], (0 : Int), (0 : Int), [], ())).fst == (1 : Int)) (sel (v9 == (0 : Int)) (obind (f15 j v5) fun r2112 => (obind (f22 j v5) fun r2141 => (p5_2062 j n0 n1 n2 j v1 v5 v7 (decide (r2112.fst > r2141.fst))))) (p5_2062 j n0 n1 n2 j v1 v5 v7 false)) (p5_2062 j n0 n1 n2 j v1 v5 v7 false)) none) none) := by kernel_rfl
theorem p5_20_eq (j n0 n1 : Nat) (v5 : Option Lk.DiskS) : p5_20 (j + 1) n0 n1 v5 = (obind (f25 j v5 ([(97 : UInt8), (32 : UInt8), (102 : UInt8), (105 : UInt8), (108 : UInt8), (101 : UInt8), (32 : UInt8), (116 : UInt8), (104 : UInt8), (97 : UInt8), (116 : UInt8), (32 : UInt8), (110 : UInt8), (111 : UInt8), (98 : UInt8), (111 : UInt8), (100 : UInt8), (121 : UInt8), (32 : UInt8), (110 : UInt8), (97 : UInt8), (109 : UInt8), (101 : UInt8), (100 : UInt8)]) ([])) fun r2329 => (some (r2329.fst == (52 : Int), ()))) := by kernel_rfl
theorem p5_2062_eq (j n0 n1 n2 n3 : Nat) (v1 : List AbA) (v5 : Option Lk.DiskS) (v7 : Int) (v89 : Bool) : p5_2062 (j + 1) n0 n1 n2 n3 v1 v5 v7 v89 = (sel v89 (some (false, ())) (p5_6 n1 n0 n1 v1 v5 v7)) := by kernel_rfl
theorem p5_6_eq (j n0 n1 : Nat) (v1 : List AbA) (v5 : Option Lk.DiskS) (v7 : Int) : p5_6 (j + 1) n0 n1 v1 v5 v7 = (p5_5 n1 n0 v1 v5 (Go.IntKind.i64.wrap (v7 + (1 : Int)))) := by kernel_rfl
end DkGG

namespace DkGG
open Go Lk
noncomputable def theFnsD : Dk.FnsD where
  f8 := f8
  f10 := f10
  f11 := f11
  f12 := f12
  f14 := f14
  f15 := f15
  f20 := f20
  f21 := f21
  f22 := f22
  f23 := f23
  f24 := f24
  f25 := f25
  f26 := f26
  f31 := f31
  f32 := f32
  f33 := f33
  f34 := f34
  f30 := f30
  f9 := f9
  p9_8 := p9_8
  f13 := f13
  f3 := f3
  p3_5 := p3_5
  p3_2058 := p3_2058
  p3_11 := p3_11
  p3_15 := p3_15
  p3_2069 := p3_2069
  p3_22 := p3_22
  p3_2071 := p3_2071
  p3_16 := p3_16
  f5 := f5
  p5_5 := p5_5
  p5_2058 := p5_2058
  p5_2064 := p5_2064
  p5_11 := p5_11
  p5_17 := p5_17
  p5_2060 := p5_2060
  p5_2067 := p5_2067
  p5_13 := p5_13
  p5_20 := p5_20
  p5_2062 := p5_2062
  p5_6 := p5_6
  f8_eq := f8_eq
  f10_eq := f10_eq
  f11_eq := f11_eq
  f12_eq := f12_eq
  f14_eq := f14_eq
  f15_eq := f15_eq
  f20_eq := f20_eq
  f21_eq := f21_eq
  f22_eq := f22_eq
  f23_eq := f23_eq
  f24_eq := f24_eq
  f25_eq := f25_eq
  f26_eq := f26_eq
  f31_eq := f31_eq
  f32_eq := f32_eq
  f33_eq := f33_eq
  f34_eq := f34_eq
  f30_eq := f30_eq
  f9_eq := f9_eq
  p9_8_eq := p9_8_eq
  f13_eq := f13_eq
  f3_eq := f3_eq
  p3_5_eq := p3_5_eq
  p3_2058_eq := p3_2058_eq
  p3_11_eq := p3_11_eq
  p3_15_eq := p3_15_eq
  p3_2069_eq := p3_2069_eq
  p3_22_eq := p3_22_eq
  p3_2071_eq := p3_2071_eq
  p3_16_eq := p3_16_eq
  f5_eq := f5_eq
  p5_5_eq := p5_5_eq
  p5_2058_eq := p5_2058_eq
  p5_2064_eq := p5_2064_eq
  p5_11_eq := p5_11_eq
  p5_17_eq := p5_17_eq
  p5_2060_eq := p5_2060_eq
  p5_2067_eq := p5_2067_eq
  p5_13_eq := p5_13_eq
  p5_20_eq := p5_20_eq
  p5_2062_eq := p5_2062_eq
  p5_6_eq := p5_6_eq
end DkGG

namespace DkGG
open Go Lk
set_option linter.unusedVariables false
@[irreducible] noncomputable def f16 (n : Nat) (a0 : Int) : Option (Option AbR × Int × Unit) := F G n 16 (a0, ())
@[irreducible] noncomputable def p16_2050 (j n0 : Nat) (v0 : Int) (v9 : Bool) : Option (Option AbR × Int × Unit) := piece G 16 [.r, .l, .r] j [n0] (skel 13 0 [(0, .av ⟨(.i .i64), .r, v0⟩), (9, .av ⟨.b, .r, v9⟩)])
@[irreducible] noncomputable def p16_3 (j n0 : Nat) (v0 : Int) : Option (Option AbR × Int × Unit) := piece G 16 [.r, .r] j [n0] (skel 13 0 [(0, .av ⟨(.i .i64), .r, v0⟩)])
@[irreducible] noncomputable def f17 (n : Nat)  : Option (Bool × Unit) := F G n 17 (())
@[irreducible] noncomputable def f58 (n : Nat) (a0 : List UInt8) : Option (Bool × Unit) := F G n 58 (a0, ())
@[irreducible] noncomputable def f59 (n : Nat) (a0 : Option AbR) (a1 : List UInt8) : Option (Int × Bool × Unit) := F G n 59 (a0, a1, ())
@[irreducible] noncomputable def p59_2 (j n0 : Nat) (v0 : Option AbR) (v1 : List UInt8) (v6 : Int) : Option (Int × Bool × Unit) := piece G 59 [.r, .r, .l, .b] j [n0] (skel 48 0 [(0, .av ⟨(.p TyR), .b, v0⟩), (1, .av ⟨.s, .r, v1⟩), (6, .av ⟨(.i .i64), .r, v6⟩)])
@[irreducible] noncomputable def p59_3 (j n0 n1 : Nat) (v0 : Option AbR) (v1 : List UInt8) (v6 : Int) : Option (Int × Bool × Unit) := piece G 59 [.r, .r, .l, .b, .o, .r] j [n0, n1] (skel 48 0 [(0, .av ⟨(.p TyR), .b, v0⟩), (1, .av ⟨.s, .r, v1⟩), (6, .av ⟨(.i .i64), .r, v6⟩)])
@[irreducible] noncomputable def p59_4 (j n0 : Nat) (v0 : Option AbR) (v1 : List UInt8) (v6 : Int) : Option (Int × Bool × Unit) := piece G 59 [.r, .r, .r] j [n0] (skel 48 0 [(0, .av ⟨(.p TyR), .b, v0⟩), (1, .av ⟨.s, .r, v1⟩), (6, .av ⟨(.i .i64), .r, v6⟩)])
@[irreducible] noncomputable def f60 (n : Nat) (a0 : Option AbR) (a1 : Bool) : Option (Bool × Option AbR × Unit) := F G n 60 (a0, a1, ())
@[irreducible] noncomputable def p60_7 (j n0 : Nat) (v0 : Option AbR) (v5 : Bool) : Option (Bool × Option AbR × Unit) := piece G 60 [.r, .r, .r] j [n0] (skel 40 0 [(0, .av ⟨(.p TyR), (.o (.q (.o (.q .r (.q .r (.q .r .r)))) (.q .r (.q .r (.q .r (.q .r .r)))))), v0⟩), (5, .av ⟨.b, .r, v5⟩)])
@[irreducible] noncomputable def p60_9 (j n0 n1 : Nat) (v0 : Option AbR) (v5 : Bool) : Option (Bool × Option AbR × Unit) := piece G 60 [.r, .r, .r, .r] j [n0, n1] (skel 40 0 [(0, .av ⟨(.p TyR), (.o (.q (.o (.q .r (.q .r (.q .r .r)))) (.q .r (.q .r (.q .r (.q .r .r)))))), v0⟩), (5, .av ⟨.b, .r, v5⟩)])
@[irreducible] noncomputable def f61 (n : Nat) (a0 : Option AbR) (a1 : Int) : Option (Option AbR × Unit) := F G n 61 (a0, a1, ())
@[irreducible] noncomputable def f48 (n : Nat) (a0 : Option AbR) : Option (Int × Unit) := F G n 48 (a0, ())
@[irreducible] noncomputable def p48_3 (j n0 : Nat) (v0 : Option AbR) (v3 : Int) (v4 : Int) : Option (Int × Unit) := piece G 48 [.r, .r, .l, .r, .b] j [n0] (skel 26 0 [(0, .av ⟨(.p TyR), .b, v0⟩), (3, .av ⟨(.i .i64), .r, v3⟩), (4, .av ⟨(.i .i64), .r, v4⟩)])
@[irreducible] noncomputable def f47 (n : Nat) (a0 : Option AbR) : Option (List (List UInt8) × Unit) := F G n 47 (a0, ())
@[irreducible] noncomputable def p47_3 (j n0 : Nat) (v0 : Option AbR) (v3 : List (List UInt8)) (v4 : Int) : Option (List (List UInt8) × Unit) := piece G 47 [.r, .r, .l, .r, .b] j [n0] (skel 30 0 [(0, .av ⟨(.p TyR), .b, v0⟩), (3, .av ⟨(.l .s), (.o .r), v3⟩), (4, .av ⟨(.i .i64), .r, v4⟩)])
@[irreducible] noncomputable def p47_5 (j n0 n1 : Nat) (v0 : Option AbR) (v3 : List (List UInt8)) (v4 : Int) : Option (List (List UInt8) × Unit) := piece G 47 [.r, .r, .l, .r, .b, .o, .r] j [n0, n1] (skel 30 0 [(0, .av ⟨(.p TyR), .b, v0⟩), (3, .av ⟨(.l .s), (.o .r), v3⟩), (4, .av ⟨(.i .i64), .r, v4⟩)])
@[irreducible] noncomputable def p47_6 (j n0 : Nat) (v3 : List (List UInt8)) : Option (List (List UInt8) × Unit) := piece G 47 [.r, .r, .r] j [n0] (skel 30 0 [(3, .av ⟨(.l .s), (.o .r), v3⟩)])
@[irreducible] noncomputable def f49 (n : Nat) (a0 : Option AbR) (a1 : List UInt8) : Option (Int × Int × Int × Unit) := F G n 49 (a0, a1, ())
@[irreducible] noncomputable def f50 (n : Nat) (a0 : Option AbR) (a1 : List UInt8) (a2 : Int) (a3 : Int) : Option (List UInt8 × Int × Unit) := F G n 50 (a0, a1, a2, a3, ())
@[irreducible] noncomputable def p50_2058 (j n0 : Nat) (v2 : Int) (v3 : Int) (v12 : List UInt8) (v45 : Bool) : Option (List UInt8 × Int × Unit) := piece G 50 [.r, .r, .r, .r, .r, .r, .l, .r] j [n0] (skel 62 0 [(2, .av ⟨(.i .i64), .r, v2⟩), (3, .av ⟨(.i .i64), .r, v3⟩), (12, .av ⟨.s, .b, v12⟩), (45, .av ⟨.b, .r, v45⟩)])
@[irreducible] noncomputable def p50_11 (j n0 : Nat) (v2 : Int) (v3 : Int) (v12 : List UInt8) : Option (List UInt8 × Int × Unit) := piece G 50 [.r, .r, .r, .r, .r, .r, .r] j [n0] (skel 62 0 [(2, .av ⟨(.i .i64), .r, v2⟩), (3, .av ⟨(.i .i64), .r, v3⟩), (12, .av ⟨.s, .b, v12⟩)])
@[irreducible] noncomputable def p50_13 (j n0 n1 : Nat) (v2 : Int) (v3 : Int) (v12 : List UInt8) : Option (List UInt8 × Int × Unit) := piece G 50 [.r, .r, .r, .r, .r, .r, .r, .r] j [n0, n1] (skel 62 0 [(2, .av ⟨(.i .i64), .r, v2⟩), (3, .av ⟨(.i .i64), .r, v3⟩), (12, .av ⟨.s, .b, v12⟩)])
@[irreducible] noncomputable def f39 (n : Nat) (a0 : Option AbR) (a1 : List UInt8) : Option (Int × Option AbR × Unit) := F G n 39 (a0, a1, ())
@[irreducible] noncomputable def f40 (n : Nat) (a0 : Option AbR) (a1 : List UInt8) (a2 : List UInt8) : Option (Int × Option AbR × Unit) := F G n 40 (a0, a1, a2, ())
@[irreducible] noncomputable def f41 (n : Nat) (a0 : Option AbR) (a1 : List UInt8) : Option (Int × Option AbR × Unit) := F G n 41 (a0, a1, ())
@[irreducible] noncomputable def f42 (n : Nat) (a0 : Option AbR) (a1 : List UInt8) (a2 : List UInt8) : Option (Int × Option AbR × Unit) := F G n 42 (a0, a1, a2, ())
@[irreducible] noncomputable def p42_2052 (j n0 : Nat) (v0 : Option AbR) (v1 : List UInt8) (v2 : List UInt8) (v22 : Bool) : Option (Int × Option AbR × Unit) := piece G 42 [.r, .r, .l, .r] j [n0] (skel 79 0 [(0, .av ⟨(.p TyR), (.o (.q (.o (.q .r (.q .r (.q .r .r)))) (.q .r (.q .r (.q .r (.q .r .r)))))), v0⟩), (1, .av ⟨.s, .r, v1⟩), (2, .av ⟨.s, .r, v2⟩), (22, .av ⟨.b, .r, v22⟩)])
@[irreducible] noncomputable def p42_5 (j n0 : Nat) (v0 : Option AbR) (v1 : List UInt8) (v2 : List UInt8) : Option (Int × Option AbR × Unit) := piece G 42 [.r, .r, .r] j [n0] (skel 79 0 [(0, .av ⟨(.p TyR), (.o (.q (.o (.q .r (.q .r (.q .r .r)))) (.q .r (.q .r (.q .r (.q .r .r)))))), v0⟩), (1, .av ⟨.s, .r, v1⟩), (2, .av ⟨.s, .r, v2⟩)])
@[irreducible] noncomputable def p42_15 (j n0 n1 : Nat) (v0 : Option AbR) (v2 : List UInt8) (v9 : Option ((List UInt8 × (List UInt8 × (Int × Unit))))) (v10 : Int) : Option (Int × Option AbR × Unit) := piece G 42 [.r, .r, .r, .r, .r, .r, .r, .r, .r, .r] j [n0, n1] (skel 79 0 [(0, .av ⟨(.p TyR), (.o (.q (.o (.q .r (.q .r (.q .r .r)))) (.q .r (.q .r (.q .r (.q .r .r)))))), v0⟩), (2, .av ⟨.s, .r, v2⟩), (9, .av ⟨(.p (.c .s (.c .s (.c (.i .i64) .u)))), (.o (.q .r (.q .r (.q .r .r)))), v9⟩), (10, .av ⟨(.i .i64), .r, v10⟩)])
@[irreducible] noncomputable def f43 (n : Nat) (a0 : Option AbR) (a1 : List UInt8) : Option (Int × Option AbR × Unit) := F G n 43 (a0, a1, ())
@[irreducible] noncomputable def f44 (n : Nat) (a0 : Option AbR) (a1 : Int) : Option (Int × Option AbR × Unit) := F G n 44 (a0, a1, ())
@[irreducible] noncomputable def p44_2052 (j n0 : Nat) (v0 : Option AbR) (v1 : Int) (v12 : Bool) : Option (Int × Option AbR × Unit) := piece G 44 [.r, .r, .l, .r] j [n0] (skel 17 0 [(0, .av ⟨(.p TyR), (.o (.q (.o (.q .r (.q .r (.q .r .r)))) (.q .r (.q .r (.q .r (.q .r .r)))))), v0⟩), (1, .av ⟨(.i .i64), .r, v1⟩), (12, .av ⟨.b, .r, v12⟩)])
@[irreducible] noncomputable def p44_5 (j n0 : Nat) (v0 : Option AbR) (v1 : Int) : Option (Int × Option AbR × Unit) := piece G 44 [.r, .r, .r] j [n0] (skel 17 0 [(0, .av ⟨(.p TyR), (.o (.q (.o (.q .r (.q .r (.q .r .r)))) (.q .r (.q .r (.q .r (.q .r .r)))))), v0⟩), (1, .av ⟨(.i .i64), .r, v1⟩)])
@[irreducible] noncomputable def f45 (n : Nat) (a0 : Option AbR) (a1 : Int) (a2 : Int) : Option (Int × Option AbR × Unit) := F G n 45 (a0, a1, a2, ())
@[irreducible] noncomputable def p45_2052 (j n0 : Nat) (v0 : Option AbR) (v1 : Int) (v2 : Int) (v14 : Bool) : Option (Int × Option AbR × Unit) := piece G 45 [.r, .r, .l, .r] j [n0] (skel 23 0 [(0, .av ⟨(.p TyR), (.o (.q (.o (.q .r (.q .r (.q .r .r)))) (.q .r (.q .r (.q .r (.q .r .r)))))), v0⟩), (1, .av ⟨(.i .i64), .r, v1⟩), (2, .av ⟨(.i .i64), .r, v2⟩), (14, .av ⟨.b, .r, v14⟩)])
@[irreducible] noncomputable def p45_5 (j n0 : Nat) (v0 : Option AbR) (v1 : Int) (v2 : Int) : Option (Int × Option AbR × Unit) := piece G 45 [.r, .r, .r] j [n0] (skel 23 0 [(0, .av ⟨(.p TyR), (.o (.q (.o (.q .r (.q .r (.q .r .r)))) (.q .r (.q .r (.q .r (.q .r .r)))))), v0⟩), (1, .av ⟨(.i .i64), .r, v1⟩), (2, .av ⟨(.i .i64), .r, v2⟩)])
@[irreducible] noncomputable def f46 (n : Nat) (a0 : Option AbR) (a1 : List (Int)) : Option (Int × Option AbR × Unit) := F G n 46 (a0, a1, ())
@[irreducible] noncomputable def p46_4 (j n0 : Nat) (v0 : Option AbR) (v1 : List (Int)) (v5 : Int) : Option (Int × Option AbR × Unit) := piece G 46 [.r, .r, .l, .r, .b] j [n0] (skel 77 0 [(0, .av ⟨(.p TyR), (.o (.q (.o (.q .r (.q .r (.q .r .r)))) (.q .r (.q .r (.q .r (.q .r .r)))))), v0⟩), (1, .av ⟨(.l (.i .i64)), .b, v1⟩), (5, .av ⟨(.i .i64), .r, v5⟩)])
@[irreducible] noncomputable def p46_10 (j n0 n1 : Nat) (v0 : Option AbR) (v1 : List (Int)) (v5 : Int) (v6 : Option ((List UInt8 × (List UInt8 × (Int × Unit))))) (v7 : Int) : Option (Int × Option AbR × Unit) := piece G 46 [.r, .r, .l, .r, .b, .o, .r, .l, .b, .r, .r, .r] j [n0, n1] (skel 77 0 [(0, .av ⟨(.p TyR), (.o (.q (.o (.q .r (.q .r (.q .r .r)))) (.q .r (.q .r (.q .r (.q .r .r)))))), v0⟩), (1, .av ⟨(.l (.i .i64)), .b, v1⟩), (5, .av ⟨(.i .i64), .r, v5⟩), (6, .av ⟨(.p (.c .s (.c .s (.c (.i .i64) .u)))), (.o (.q .r (.q .r (.q .r .r)))), v6⟩), (7, .av ⟨(.i .i64), .b, v7⟩)])
@[irreducible] noncomputable def p46_10_1 (j n0 n1 : Nat) (v0 : Option AbR) (v1 : List (Int)) (v5 : Int) (v6 : Option ((List UInt8 × (List UInt8 × (Int × Unit))))) (v7 : Int) : Option (Int × Option AbR × Unit) := piece G 46 [.r, .r, .l, .r, .b, .o, .r, .l, .b, .r, .r, .r] j [n0, n1] (skel 77 0 [(0, .av ⟨(.p TyR), (.o (.q (.o (.q .r (.q .r (.q .r .r)))) (.q .r (.q .r (.q .r (.q .r .r)))))), v0⟩), (1, .av ⟨(.l (.i .i64)), .b, v1⟩), (5, .av ⟨(.i .i64), .r, v5⟩), (6, .av ⟨(.p (.c .s (.c .s (.c (.i .i64) .u)))), (.o (.q .r (.q .r (.q .r .r)))), v6⟩), (7, .av ⟨(.i .i64), .r, v7⟩)])
@[irreducible] noncomputable def p46_12 (j n0 n1 n2 : Nat) (v0 : Option AbR) (v1 : List (Int)) (v5 : Int) (v6 : Option ((List UInt8 × (List UInt8 × (Int × Unit))))) (v7 : Int) : Option (Int × Option AbR × Unit) := piece G 46 [.r, .r, .l, .r, .b, .o, .r, .l, .b, .r, .r, .r, .r] j [n0, n1, n2] (skel 77 0 [(0, .av ⟨(.p TyR), (.o (.q (.o (.q .r (.q .r (.q .r .r)))) (.q .r (.q .r (.q .r (.q .r .r)))))), v0⟩), (1, .av ⟨(.l (.i .i64)), .b, v1⟩), (5, .av ⟨(.i .i64), .r, v5⟩), (6, .av ⟨(.p (.c .s (.c .s (.c (.i .i64) .u)))), (.o (.q .r (.q .r (.q .r .r)))), v6⟩), (7, .av ⟨(.i .i64), .r, v7⟩)])
@[irreducible] noncomputable def p46_12_1 (j n0 n1 n2 : Nat) (v0 : Option AbR) (v1 : List (Int)) (v5 : Int) (v6 : Option ((List UInt8 × (List UInt8 × (Int × Unit))))) (v7 : Int) : Option (Int × Option AbR × Unit) := piece G 46 [.r, .r, .l, .r, .b, .o, .r, .l, .b, .r, .r, .r, .r] j [n0, n1, n2] (skel 77 0 [(0, .av ⟨(.p TyR), (.o (.q (.o (.q .r (.q .r (.q .r .r)))) (.q .r (.q .r (.q .r (.q .r .r)))))), v0⟩), (1, .av ⟨(.l (.i .i64)), .b, v1⟩), (5, .av ⟨(.i .i64), .r, v5⟩), (6, .av ⟨(.p (.c .s (.c .s (.c (.i .i64) .u)))), (.o (.q .r (.q .r (.q .r .r)))), v6⟩), (7, .av ⟨(.i .i64), .b, v7⟩)])
@[irreducible] noncomputable def p46_14 (j n0 n1 n2 n3 : Nat) (v0 : Option AbR) (v1 : List (Int)) (v5 : Int) (v6 : Option ((List UInt8 × (List UInt8 × (Int × Unit))))) (v7 : Int) : Option (Int × Option AbR × Unit) := piece G 46 [.r, .r, .l, .r, .b, .o, .r, .l, .b, .r, .r, .r, .r, .r] j [n0, n1, n2, n3] (skel 77 0 [(0, .av ⟨(.p TyR), (.o (.q (.o (.q .r (.q .r (.q .r .r)))) (.q .r (.q .r (.q .r (.q .r .r)))))), v0⟩), (1, .av ⟨(.l (.i .i64)), .b, v1⟩), (5, .av ⟨(.i .i64), .r, v5⟩), (6, .av ⟨(.p (.c .s (.c .s (.c (.i .i64) .u)))), (.o (.q .r (.q .r (.q .r .r)))), v6⟩), (7, .av ⟨(.i .i64), .r, v7⟩)])
@[irreducible] noncomputable def p46_14_1 (j n0 n1 n2 n3 : Nat) (v0 : Option AbR) (v1 : List (Int)) (v5 : Int) (v6 : Option ((List UInt8 × (List UInt8 × (Int × Unit))))) (v7 : Int) : Option (Int × Option AbR × Unit) := piece G 46 [.r, .r, .l, .r, .b, .o, .r, .l, .b, .r, .r, .r, .r, .r] j [n0, n1, n2, n3] (skel 77 0 [(0, .av ⟨(.p TyR), (.o (.q (.o (.q .r (.q .r (.q .r .r)))) (.q .r (.q .r (.q .r (.q .r .r)))))), v0⟩), (1, .av ⟨(.l (.i .i64)), .b, v1⟩), (5, .av ⟨(.i .i64), .r, v5⟩), (6, .av ⟨(.p (.c .s (.c .s (.c (.i .i64) .u)))), (.o (.q .r (.q .r (.q .r .r)))), v6⟩), (7, .av ⟨(.i .i64), .b, v7⟩)])
@[irreducible] noncomputable def p46_5 (j n0 n1 : Nat) (v0 : Option AbR) (v1 : List (Int)) (v5 : Int) : Option (Int × Option AbR × Unit) := piece G 46 [.r, .r, .l, .r, .b, .o, .r, .r] j [n0, n1] (skel 77 0 [(0, .av ⟨(.p TyR), (.o (.q (.o (.q .r (.q .r (.q .r .r)))) (.q .r (.q .r (.q .r (.q .r .r)))))), v0⟩), (1, .av ⟨(.l (.i .i64)), .b, v1⟩), (5, .av ⟨(.i .i64), .r, v5⟩)])
@[irreducible] noncomputable def f18 (n : Nat) (a0 : Option AbR) (a1 : AbA) : Option (Int × Option AbR × Unit) := F G n 18 (a0, a1, ())
@[irreducible] noncomputable def f19 (n : Nat) (a0 : Option Lk.DiskS) (a1 : Option AbR) (a2 : AbA) : Option (Bool × Unit) := F G n 19 (a0, a1, a2, ())
@[irreducible] noncomputable def p19_2052 (j n0 : Nat) (v0 : Option Lk.DiskS) (v1 : Option AbR) (v5 : Option AbA) (v7 : List (List UInt8)) (v8 : List (List UInt8)) (v63 : Bool) : Option (Bool × Unit) := piece G 19 [.r, .r, .r, .l, .r] j [n0] (skel 220 0 [(0, .av ⟨(.a 0), .b, v0⟩), (1, .av ⟨(.p TyR), .b, v1⟩), (5, .av ⟨(.p TyA), (.o (.q .r (.q .r (.q .r (.q .b (.q .r (.q .r (.q .b .r)))))))), v5⟩), (7, .av ⟨(.l .s), (.o .r), v7⟩), (8, .av ⟨(.l .s), (.o .r), v8⟩), (63, .av ⟨.b, .r, v63⟩)])
@[irreducible] noncomputable def p19_5 (j n0 : Nat) (v0 : Option Lk.DiskS) (v1 : Option AbR) (v5 : Option AbA) (v7 : List (List UInt8)) (v8 : List (List UInt8)) : Option (Bool × Unit) := piece G 19 [.r, .r, .r, .r] j [n0] (skel 220 0 [(0, .av ⟨(.a 0), .b, v0⟩), (1, .av ⟨(.p TyR), .b, v1⟩), (5, .av ⟨(.p TyA), (.o (.q .r (.q .r (.q .r (.q .b (.q .r (.q .r (.q .b .r)))))))), v5⟩), (7, .av ⟨(.l .s), (.o .r), v7⟩), (8, .av ⟨(.l .s), (.o .r), v8⟩)])
@[irreducible] noncomputable def p19_6 (j n0 n1 : Nat) (v0 : Option Lk.DiskS) (v1 : Option AbR) (v5 : Option AbA) (v7 : List (List UInt8)) (v8 : List (List UInt8)) (v9 : Int) : Option (Bool × Unit) := piece G 19 [.r, .r, .r, .r, .l, .r, .b] j [n0, n1] (skel 220 0 [(0, .av ⟨(.a 0), .b, v0⟩), (1, .av ⟨(.p TyR), .b, v1⟩), (5, .av ⟨(.p TyA), (.o (.q .r (.q .r (.q .r (.q .b (.q .r (.q .r (.q .b .r)))))))), v5⟩), (7, .av ⟨(.l .s), (.o .r), v7⟩), (8, .av ⟨(.l .s), (.o .r), v8⟩), (9, .av ⟨(.i .i64), .r, v9⟩)])
@[irreducible] noncomputable def p19_2059 (j n0 n1 n2 : Nat) (v0 : Option Lk.DiskS) (v1 : Option AbR) (v5 : Option AbA) (v7 : List (List UInt8)) (v8 : List (List UInt8)) (v9 : Int) (v13 : Int) (v112 : Bool) : Option (Bool × Unit) := piece G 19 [.r, .r, .r, .r, .l, .r, .b, .o, .r, .l, .b, .r, .r, .l, .r] j [n0, n1, n2] (skel 220 0 [(0, .av ⟨(.a 0), .b, v0⟩), (1, .av ⟨(.p TyR), .b, v1⟩), (5, .av ⟨(.p TyA), (.o (.q .r (.q .r (.q .r (.q .b (.q .r (.q .r (.q .b .r)))))))), v5⟩), (7, .av ⟨(.l .s), (.o .r), v7⟩), (8, .av ⟨(.l .s), (.o .r), v8⟩), (9, .av ⟨(.i .i64), .r, v9⟩), (13, .av ⟨(.i .i64), .r, v13⟩), (112, .av ⟨.b, .r, v112⟩)])
@[irreducible] noncomputable def p19_12 (j n0 n1 n2 : Nat) (v0 : Option Lk.DiskS) (v1 : Option AbR) (v5 : Option AbA) (v7 : List (List UInt8)) (v8 : List (List UInt8)) (v9 : Int) (v13 : Int) : Option (Bool × Unit) := piece G 19 [.r, .r, .r, .r, .l, .r, .b, .o, .r, .l, .b, .r, .r, .r] j [n0, n1, n2] (skel 220 0 [(0, .av ⟨(.a 0), .b, v0⟩), (1, .av ⟨(.p TyR), .b, v1⟩), (5, .av ⟨(.p TyA), (.o (.q .r (.q .r (.q .r (.q .b (.q .r (.q .r (.q .b .r)))))))), v5⟩), (7, .av ⟨(.l .s), (.o .r), v7⟩), (8, .av ⟨(.l .s), (.o .r), v8⟩), (9, .av ⟨(.i .i64), .r, v9⟩), (13, .av ⟨(.i .i64), .r, v13⟩)])
@[irreducible] noncomputable def p19_2063 (j n0 n1 n2 n3 : Nat) (v0 : Option Lk.DiskS) (v1 : Option AbR) (v5 : Option AbA) (v7 : List (List UInt8)) (v8 : List (List UInt8)) (v9 : Int) (v16 : List (UInt8)) (v140 : Bool) : Option (Bool × Unit) := piece G 19 [.r, .r, .r, .r, .l, .r, .b, .o, .r, .l, .b, .r, .r, .r, .r, .r, .l, .r] j [n0, n1, n2, n3] (skel 220 0 [(0, .av ⟨(.a 0), .b, v0⟩), (1, .av ⟨(.p TyR), .b, v1⟩), (5, .av ⟨(.p TyA), (.o (.q .r (.q .r (.q .r (.q .b (.q .r (.q .r (.q .b .r)))))))), v5⟩), (7, .av ⟨(.l .s), (.o .r), v7⟩), (8, .av ⟨(.l .s), (.o .r), v8⟩), (9, .av ⟨(.i .i64), .r, v9⟩), (16, .av ⟨(.l .by), (.o .r), v16⟩), (140, .av ⟨.b, .r, v140⟩)])
@[irreducible] noncomputable def p19_16 (j n0 n1 n2 n3 : Nat) (v0 : Option Lk.DiskS) (v1 : Option AbR) (v5 : Option AbA) (v7 : List (List UInt8)) (v8 : List (List UInt8)) (v9 : Int) (v16 : List (UInt8)) : Option (Bool × Unit) := piece G 19 [.r, .r, .r, .r, .l, .r, .b, .o, .r, .l, .b, .r, .r, .r, .r, .r, .r] j [n0, n1, n2, n3] (skel 220 0 [(0, .av ⟨(.a 0), .b, v0⟩), (1, .av ⟨(.p TyR), .b, v1⟩), (5, .av ⟨(.p TyA), (.o (.q .r (.q .r (.q .r (.q .b (.q .r (.q .r (.q .b .r)))))))), v5⟩), (7, .av ⟨(.l .s), (.o .r), v7⟩), (8, .av ⟨(.l .s), (.o .r), v8⟩), (9, .av ⟨(.i .i64), .r, v9⟩), (16, .av ⟨(.l .by), (.o .r), v16⟩)])
@[irreducible] noncomputable def p19_17 (j n0 n1 n2 n3 n4 : Nat) (v0 : Option Lk.DiskS) (v1 : Option AbR) (v5 : Option AbA) (v7 : List (List UInt8)) (v8 : List (List UInt8)) (v9 : Int) (v16 : List (UInt8)) (v19 : Int) : Option (Bool × Unit) := piece G 19 [.r, .r, .r, .r, .l, .r, .b, .o, .r, .l, .b, .r, .r, .r, .r, .r, .r, .l, .r, .b] j [n0, n1, n2, n3, n4] (skel 220 0 [(0, .av ⟨(.a 0), .b, v0⟩), (1, .av ⟨(.p TyR), .b, v1⟩), (5, .av ⟨(.p TyA), (.o (.q .r (.q .r (.q .r (.q .b (.q .r (.q .r (.q .b .r)))))))), v5⟩), (7, .av ⟨(.l .s), (.o .r), v7⟩), (8, .av ⟨(.l .s), (.o .r), v8⟩), (9, .av ⟨(.i .i64), .r, v9⟩), (16, .av ⟨(.l .by), (.o .r), v16⟩), (19, .av ⟨(.i .i64), .r, v19⟩)])
@[irreducible] noncomputable def p19_7 (j n0 n1 n2 : Nat) (v0 : Option Lk.DiskS) (v1 : Option AbR) (v5 : Option AbA) (v7 : List (List UInt8)) (v8 : List (List UInt8)) (v9 : Int) : Option (Bool × Unit) := piece G 19 [.r, .r, .r, .r, .l, .r, .b, .o, .r, .r] j [n0, n1, n2] (skel 220 0 [(0, .av ⟨(.a 0), .b, v0⟩), (1, .av ⟨(.p TyR), .b, v1⟩), (5, .av ⟨(.p TyA), (.o (.q .r (.q .r (.q .r (.q .b (.q .r (.q .r (.q .b .r)))))))), v5⟩), (7, .av ⟨(.l .s), (.o .r), v7⟩), (8, .av ⟨(.l .s), (.o .r), v8⟩), (9, .av ⟨(.i .i64), .r, v9⟩)])
@[irreducible] noncomputable def f4 (n : Nat) (a0 : Int) (a1 : List AbA) : Option (Bool × Unit) := F G n 4 (a0, a1, ())
@[irreducible] noncomputable def p4_2052 (j n0 : Nat) (v1 : List AbA) (v5 : Option Lk.DiskS) (v7 : Option AbR) (v33 : Bool) : Option (Bool × Unit) := piece G 4 [.r, .r, .r, .l, .r] j [n0] (skel 69 0 [(1, .av ⟨(.l TyA), .b, v1⟩), (5, .av ⟨(.a 0), (.o .r), v5⟩), (7, .av ⟨(.p TyR), (.o (.q (.o (.q .r (.q .r (.q .r .r)))) (.q .r (.q .r (.q .r (.q .r .r)))))), v7⟩), (33, .av ⟨.b, .r, v33⟩)])
@[irreducible] noncomputable def p4_5 (j n0 : Nat) (v1 : List AbA) (v5 : Option Lk.DiskS) (v7 : Option AbR) : Option (Bool × Unit) := piece G 4 [.r, .r, .r, .r] j [n0] (skel 69 0 [(1, .av ⟨(.l TyA), .b, v1⟩), (5, .av ⟨(.a 0), (.o .r), v5⟩), (7, .av ⟨(.p TyR), (.o (.q (.o (.q .r (.q .r (.q .r .r)))) (.q .r (.q .r (.q .r (.q .r .r)))))), v7⟩)])
@[irreducible] noncomputable def p4_8 (j n0 n1 : Nat) (v1 : List AbA) (v5 : Option Lk.DiskS) (v7 : Option AbR) (v9 : Int) : Option (Bool × Unit) := piece G 4 [.r, .r, .r, .r, .r, .l, .r, .b] j [n0, n1] (skel 69 0 [(1, .av ⟨(.l TyA), .b, v1⟩), (5, .av ⟨(.a 0), (.o .r), v5⟩), (7, .av ⟨(.p TyR), (.o (.q (.o (.q .r (.q .r (.q .r .r)))) (.q .r (.q .r (.q .r (.q .r .r)))))), v7⟩), (9, .av ⟨(.i .i64), .r, v9⟩)])
@[irreducible] noncomputable def p4_2059 (j n0 n1 n2 : Nat) (v1 : List AbA) (v5 : Option Lk.DiskS) (v7 : Option AbR) (v9 : Int) (v64 : Bool) : Option (Bool × Unit) := piece G 4 [.r, .r, .r, .r, .r, .l, .r, .b, .o, .r, .l, .b, .r] j [n0, n1, n2] (skel 69 0 [(1, .av ⟨(.l TyA), .b, v1⟩), (5, .av ⟨(.a 0), (.o .r), v5⟩), (7, .av ⟨(.p TyR), (.o (.q (.o (.q .r (.q .r (.q .r .r)))) (.q .r (.q .r (.q .r (.q .r .r)))))), v7⟩), (9, .av ⟨(.i .i64), .r, v9⟩), (64, .av ⟨.b, .r, v64⟩)])
@[irreducible] noncomputable def p4_9 (j n0 n1 n2 : Nat) (v1 : List AbA) (v5 : Option Lk.DiskS) (v7 : Option AbR) (v9 : Int) : Option (Bool × Unit) := piece G 4 [.r, .r, .r, .r, .r, .l, .r, .b, .o, .r, .r] j [n0, n1, n2] (skel 69 0 [(1, .av ⟨(.l TyA), .b, v1⟩), (5, .av ⟨(.a 0), (.o .r), v5⟩), (7, .av ⟨(.p TyR), (.o (.q (.o (.q .r (.q .r (.q .r .r)))) (.q .r (.q .r (.q .r (.q .r .r)))))), v7⟩), (9, .av ⟨(.i .i64), .r, v9⟩)])
theorem f16_eq (n : Nat) (a0 : Int) : f16 (n + 1) a0 = (sel (decide (a0 < (0 : Int))) (p16_2050 n n a0 true) (p16_2050 n n a0 (decide (a0 > (268435456 : Int))))) := by kernel_rfl
theorem p16_2050_eq (j n0 : Nat) (v0 : Int) (v9 : Bool) : p16_2050 (j + 1) n0 v0 v9 = (sel v9 (some (none, (2 : Int), ())) (p16_3 n0 n0 v0)) := by kernel_rfl
theorem p16_3_eq (j n0 : Nat) (v0 : Int) : p16_3 (j + 1) n0 v0 = (some (some ([], v0, (0 : Int), (0 : Int), (0 : Int), ()), (0 : Int), ())) := by kernel_rfl
theorem f17_eq (n : Nat)  : f17 (n + 1)  = (some (true, ())) := by kernel_rfl
theorem f58_eq (n : Nat) (a0 : List UInt8) : f58 (n + 1) a0 = (sel (decide ((↑a0.length : Int) ≥ (1 : Int))) (some (decide ((↑a0.length : Int) ≤ (64 : Int)), ())) (some (false, ()))) := by kernel_rfl
theorem f59_eq (n : Nat) (a0 : Option AbR) (a1 : List UInt8) : f59 (n + 1) a0 a1 = (p59_2 n n a0 a1 ((0 : Int))) := by kernel_rfl
theorem p59_2_eq (j n0 : Nat) (v0 : Option AbR) (v1 : List UInt8) (v6 : Int) : p59_2 (j + 1) n0 v0 v1 v6 = (sel (v0.isSome) (sel (v0.isSome) (sel (decide (v6 < (↑(List.length (v0.getD ([], (0 : Int), (0 : Int), (0 : Int), (0 : Int), ())).fst) : Int))) (sel (v0.isSome) (sel (v0.isSome) (sel (decide ((0 : Int) ≤ v6)) (sel (decide (v6 < (↑(List.length (v0.getD ([], (0 : Int), (0 : Int), (0 : Int), (0 : Int), ())).fst) : Int))) (sel (Go.Op.bytesLess (List.getD (v0.getD ([], (0 : Int), (0 : Int), (0 : Int), (0 : Int), ())).fst v6.toNat ([], [], (0 : Int), ())).fst v1) (p59_3 j n0 j v0 v1 v6) (p59_4 n0 n0 v0 v1 v6)) none) none) none) none) (p59_4 n0 n0 v0 v1 v6)) none) none) := by kernel_rfl
theorem p59_3_eq (j n0 n1 : Nat) (v0 : Option AbR) (v1 : List UInt8) (v6 : Int) : p59_3 (j + 1) n0 n1 v0 v1 v6 = (p59_2 n1 n0 v0 v1 (Go.IntKind.i64.wrap (v6 + (1 : Int)))) := by kernel_rfl
theorem p59_4_eq (j n0 : Nat) (v0 : Option AbR) (v1 : List UInt8) (v6 : Int) : p59_4 (j + 1) n0 v0 v1 v6 = (sel (v0.isSome) (sel (v0.isSome) (sel (decide (v6 < (↑(List.length (v0.getD ([], (0 : Int), (0 : Int), (0 : Int), (0 : Int), ())).fst) : Int))) (sel (v0.isSome) (sel (v0.isSome) (sel (decide ((0 : Int) ≤ v6)) (sel (decide (v6 < (↑(List.length (v0.getD ([], (0 : Int), (0 : Int), (0 : Int), (0 : Int), ())).fst) : Int))) (some (v6, (List.getD (v0.getD ([], (0 : Int), (0 : Int), (0 : Int), (0 : Int), ())).fst v6.toNat ([], [], (0 : Int), ())).fst == v1, ())) none) none) none) none) (some (v6, false, ()))) none) none) := by kernel_rfl
theorem f60_eq (n : Nat) (a0 : Option AbR) (a1 : Bool) : f60 (n + 1) a0 a1 = (sel (a0.isSome) (sel (a0.isSome) (sel (decide ((a0.getD ([], (0 : Int), (0 : Int), (0 : Int), (0 : Int), ())).snd.snd.fst > (0 : Int))) (sel (a0.isSome) (sel (a0.isSome) (sel (a0.isSome) (sel (a0.isSome) (p60_7 n n (some ((a0.getD ([], (0 : Int), (0 : Int), (0 : Int), (0 : Int), ())).fst, (a0.getD ([], (0 : Int), (0 : Int), (0 : Int), (0 : Int), ())).snd.fst, Go.IntKind.i64.wrap ((a0.getD ([], (0 : Int), (0 : Int), (0 : Int), (0 : Int), ())).snd.snd.fst - (1 : Int)), (a0.getD ([], (0 : Int), (0 : Int), (0 : Int), (0 : Int), ())).snd.snd.snd)) a1) none) none) none) none) (sel (a0.isSome) (sel (a0.isSome) (sel (decide ((a0.getD ([], (0 : Int), (0 : Int), (0 : Int), (0 : Int), ())).snd.snd.snd.fst > (0 : Int))) (sel (a0.isSome) (sel (a0.isSome) (sel (a0.isSome) (sel (a0.isSome) (p60_7 n n (some ((a0.getD ([], (0 : Int), (0 : Int), (0 : Int), (0 : Int), ())).fst, (a0.getD ([], (0 : Int), (0 : Int), (0 : Int), (0 : Int), ())).snd.fst, (a0.getD ([], (0 : Int), (0 : Int), (0 : Int), (0 : Int), ())).snd.snd.fst, Go.IntKind.i64.wrap ((a0.getD ([], (0 : Int), (0 : Int), (0 : Int), (0 : Int), ())).snd.snd.snd.fst - (1 : Int)), (a0.getD ([], (0 : Int), (0 : Int), (0 : Int), (0 : Int), ())).snd.snd.snd.snd)) true) none) none) none) none) (p60_7 n n a0 a1)) none) none)) none) none) := by kernel_rfl
theorem p60_7_eq (j n0 : Nat) (v0 : Option AbR) (v5 : Bool) : p60_7 (j + 1) n0 v0 v5 = (sel v5 (sel (v0.isSome) (sel (v0.isSome) (sel (v0.isSome) (sel (v0.isSome) (p60_9 j n0 j (some ((v0.getD ([], (0 : Int), (0 : Int), (0 : Int), (0 : Int), ())).fst, (v0.getD ([], (0 : Int), (0 : Int), (0 : Int), (0 : Int), ())).snd.fst, (v0.getD ([], (0 : Int), (0 : Int), (0 : Int), (0 : Int), ())).snd.snd.fst, (v0.getD ([], (0 : Int), (0 : Int), (0 : Int), (0 : Int), ())).snd.snd.snd.fst, Go.IntKind.i64.wrap ((v0.getD ([], (0 : Int), (0 : Int), (0 : Int), (0 : Int), ())).snd.snd.snd.snd.fst + (1 : Int)), (v0.getD ([], (0 : Int), (0 : Int), (0 : Int), (0 : Int), ())).snd.snd.snd.snd.snd)) v5) none) none) none) none) (p60_9 j n0 j v0 v5)) := by kernel_rfl
theorem p60_9_eq (j n0 n1 : Nat) (v0 : Option AbR) (v5 : Bool) : p60_9 (j + 1) n0 n1 v0 v5 = (some (v5, v0, ())) := by kernel_rfl
theorem f61_eq (n : Nat) (a0 : Option AbR) (a1 : Int) : f61 (n + 1) a0 a1 = (sel (a0.isSome) (sel (a0.isSome) (sel (decide ((0 : Int) ≤ a1)) (sel (decide (a1 ≤ (↑(List.length (a0.getD ([], (0 : Int), (0 : Int), (0 : Int), (0 : Int), ())).fst) : Int))) (sel (a0.isSome) (sel (a0.isSome) (sel (decide ((0 : Int) ≤ Go.IntKind.i64.wrap (a1 + (1 : Int)))) (sel (decide (Go.IntKind.i64.wrap (a1 + (1 : Int)) ≤ (↑(List.length (a0.getD ([], (0 : Int), (0 : Int), (0 : Int), (0 : Int), ())).fst) : Int))) (sel (decide ((0 : Nat) + (Lk.ext (a0.getD ([], (0 : Int), (0 : Int), (0 : Int), (0 : Int), ())).fst (0 : Int) a1).length ≤ (1073741824 : Nat))) (sel (decide (List.length ([] ++ Lk.ext (a0.getD ([], (0 : Int), (0 : Int), (0 : Int), (0 : Int), ())).fst (0 : Int) a1) + (Lk.ext (a0.getD ([], (0 : Int), (0 : Int), (0 : Int), (0 : Int), ())).fst (Go.IntKind.i64.wrap (a1 + (1 : Int))) (↑(List.length (a0.getD ([], (0 : Int), (0 : Int), (0 : Int), (0 : Int), ())).fst) : Int)).length ≤ (1073741824 : Nat))) (sel (a0.isSome) (sel (a0.isSome) (some (some ([] ++ Lk.ext (a0.getD ([], (0 : Int), (0 : Int), (0 : Int), (0 : Int), ())).fst (0 : Int) a1 ++ Lk.ext (a0.getD ([], (0 : Int), (0 : Int), (0 : Int), (0 : Int), ())).fst (Go.IntKind.i64.wrap (a1 + (1 : Int))) (↑(List.length (a0.getD ([], (0 : Int), (0 : Int), (0 : Int), (0 : Int), ())).fst) : Int), (a0.getD ([], (0 : Int), (0 : Int), (0 : Int), (0 : Int), ())).snd), ())) none) none) none) none) none) none) none) none) none) none) none) none) := by kernel_rfl
theorem f48_eq (n : Nat) (a0 : Option AbR) : f48 (n + 1) a0 = (p48_3 n n a0 ((0 : Int)) ((0 : Int))) := by kernel_rfl
theorem p48_3_eq (j n0 : Nat) (v0 : Option AbR) (v3 : Int) (v4 : Int) : p48_3 (j + 1) n0 v0 v3 v4 = (sel (v0.isSome) (sel (v0.isSome) (sel (decide (v4 < (↑(List.length (v0.getD ([], (0 : Int), (0 : Int), (0 : Int), (0 : Int), ())).fst) : Int))) (sel (v0.isSome) (sel (v0.isSome) (sel (decide ((0 : Int) ≤ v4)) (sel (decide (v4 < (↑(List.length (v0.getD ([], (0 : Int), (0 : Int), (0 : Int), (0 : Int), ())).fst) : Int))) (p48_3 j n0 v0 (Go.IntKind.i64.wrap (v3 + (↑(List.length (List.getD (v0.getD ([], (0 : Int), (0 : Int), (0 : Int), (0 : Int), ())).fst v4.toNat ([], [], (0 : Int), ())).snd.fst) : Int))) (Go.IntKind.i64.wrap (v4 + (1 : Int)))) none) none) none) none) (some (v3, ()))) none) none) := by kernel_rfl
theorem f47_eq (n : Nat) (a0 : Option AbR) : f47 (n + 1) a0 = (p47_3 n n a0 ([]) ((0 : Int))) := by kernel_rfl
theorem p47_3_eq (j n0 : Nat) (v0 : Option AbR) (v3 : List (List UInt8)) (v4 : Int) : p47_3 (j + 1) n0 v0 v3 v4 = (sel (v0.isSome) (sel (v0.isSome) (sel (v0.isSome) (sel (decide (v4 < (↑(List.length (v0.getD ([], (0 : Int), (0 : Int), (0 : Int), (0 : Int), ())).fst) : Int))) (p47_5 j n0 j v0 v3 v4) (p47_6 n0 n0 v3)) none) none) (p47_6 n0 n0 v3)) := by kernel_rfl
theorem p47_5_eq (j n0 n1 : Nat) (v0 : Option AbR) (v3 : List (List UInt8)) (v4 : Int) : p47_5 (j + 1) n0 n1 v0 v3 v4 = (sel (v0.isSome) (sel (v0.isSome) (sel (decide ((0 : Int) ≤ v4)) (sel (decide (v4 < (↑(List.length (v0.getD ([], (0 : Int), (0 : Int), (0 : Int), (0 : Int), ())).fst) : Int))) (sel (decide (v3.length + (1 : Nat) ≤ (1073741824 : Nat))) (p47_3 n1 n0 v0 (v3 ++ [(List.getD (v0.getD ([], (0 : Int), (0 : Int), (0 : Int), (0 : Int), ())).fst v4.toNat ([], [], (0 : Int), ())).fst]) (Go.IntKind.i64.wrap (v4 + (1 : Int)))) none) none) none) none) none) := by kernel_rfl
theorem p47_6_eq (j n0 : Nat) (v3 : List (List UInt8)) : p47_6 (j + 1) n0 v3 = (some (v3, ())) := by kernel_rfl
theorem f49_eq (n : Nat) (a0 : Option AbR) (a1 : List UInt8) : f49 (n + 1) a0 a1 = (sel (a0.isNone) (some ((0 : Int), (0 : Int), (1 : Int), ())) (obind (f58 n a1) fun r128 => (sel (!r128.fst) (some ((0 : Int), (0 : Int), (2 : Int), ())) (obind (f59 n a0 a1) fun r217 => (sel (!r217.snd.fst) (some ((0 : Int), (0 : Int), (51 : Int), ())) (sel (a0.isSome) (sel (a0.isSome) (sel (decide ((0 : Int) ≤ r217.fst)) (sel (decide (r217.fst < (↑(List.length (a0.getD ([], (0 : Int), (0 : Int), (0 : Int), (0 : Int), ())).fst) : Int))) (sel (a0.isSome) (sel (a0.isSome) (sel (decide ((0 : Int) ≤ r217.fst)) (sel (decide (r217.fst < (↑(List.length (a0.getD ([], (0 : Int), (0 : Int), (0 : Int), (0 : Int), ())).fst) : Int))) (some ((↑(List.length (List.getD (a0.getD ([], (0 : Int), (0 : Int), (0 : Int), (0 : Int), ())).fst (Int.toNat r217.fst) ([], [], (0 : Int), ())).snd.fst) : Int), (List.getD (a0.getD ([], (0 : Int), (0 : Int), (0 : Int), (0 : Int), ())).fst (Int.toNat r217.fst) ([], [], (0 : Int), ())).snd.snd.fst, (0 : Int), ())) none) none) none) none) none) none) none) none)))))) := by kernel_rfl
theorem f50_eq (n : Nat) (a0 : Option AbR) (a1 : List UInt8) (a2 : Int) (a3 : Int) : f50 (n + 1) a0 a1 a2 a3 = (sel (a0.isNone) (some ([], (1 : Int), ())) (obind (f58 n a1) fun r114 => (sel (!r114.fst) (some ([], (2 : Int), ())) (obind (f59 n a0 a1) fun r196 => (sel (!r196.snd.fst) (some ([], (51 : Int), ())) (sel (a0.isSome) (sel (a0.isSome) (sel (decide ((0 : Int) ≤ r196.fst)) (sel (decide (r196.fst < (↑(List.length (a0.getD ([], (0 : Int), (0 : Int), (0 : Int), (0 : Int), ())).fst) : Int))) (sel (decide (a2 < (0 : Int))) (p50_2058 n n a2 a3 ((List.getD (a0.getD ([], (0 : Int), (0 : Int), (0 : Int), (0 : Int), ())).fst (Int.toNat r196.fst) ([], [], (0 : Int), ())).snd.fst) true) (sel (decide (a2 > (↑(List.length (List.getD (a0.getD ([], (0 : Int), (0 : Int), (0 : Int), (0 : Int), ())).fst (Int.toNat r196.fst) ([], [], (0 : Int), ())).snd.fst) : Int))) (p50_2058 n n a2 a3 ((List.getD (a0.getD ([], (0 : Int), (0 : Int), (0 : Int), (0 : Int), ())).fst (Int.toNat r196.fst) ([], [], (0 : Int), ())).snd.fst) true) (p50_2058 n n a2 a3 ((List.getD (a0.getD ([], (0 : Int), (0 : Int), (0 : Int), (0 : Int), ())).fst (Int.toNat r196.fst) ([], [], (0 : Int), ())).snd.fst) (decide (a3 < (0 : Int)))))) none) none) none) none)))))) := by kernel_rfl
theorem p50_2058_eq (j n0 : Nat) (v2 : Int) (v3 : Int) (v12 : List UInt8) (v45 : Bool) : p50_2058 (j + 1) n0 v2 v3 v12 v45 = (sel v45 (some ([], (2 : Int), ())) (p50_11 n0 n0 v2 v3 v12)) := by kernel_rfl
theorem p50_11_eq (j n0 : Nat) (v2 : Int) (v3 : Int) (v12 : List UInt8) : p50_11 (j + 1) n0 v2 v3 v12 = (sel (decide (v3 > Go.IntKind.i64.wrap ((↑v12.length : Int) - v2))) (p50_13 j n0 j v2 (Go.IntKind.i64.wrap ((↑v12.length : Int) - v2)) v12) (p50_13 j n0 j v2 v3 v12)) := by kernel_rfl
theorem p50_13_eq (j n0 n1 : Nat) (v2 : Int) (v3 : Int) (v12 : List UInt8) : p50_13 (j + 1) n0 n1 v2 v3 v12 = (sel (decide ((0 : Int) ≤ Go.IntKind.i64.wrap (v2 + v3))) (sel (decide (Go.IntKind.i64.wrap (v2 + v3) ≤ (↑v12.length : Int))) (sel (decide ((0 : Int) ≤ v2)) (sel (decide (v2 ≤ Go.IntKind.i64.wrap (v2 + v3))) (some (Lk.ext v12 v2 (Go.IntKind.i64.wrap (v2 + v3)), (0 : Int), ())) none) none) none) none) := by kernel_rfl
theorem f39_eq (n : Nat) (a0 : Option AbR) (a1 : List UInt8) : f39 (n + 1) a0 a1 = (sel (a0.isNone) (some ((1 : Int), a0, ())) (obind (f58 n a1) fun r100 => (sel (!r100.fst) (some ((2 : Int), a0, ())) (obind (f59 n a0 a1) fun r175 => (sel (r175.snd.fst) (some ((50 : Int), a0, ())) (sel (a0.isSome) (sel (a0.isSome) (obind (f60 n a0 (decide ((↑(List.length (a0.getD ([], (0 : Int), (0 : Int), (0 : Int), (0 : Int), ())).fst) : Int) ≥ (4096 : Int)))) fun r330 => (sel (r330.fst) (some ((52 : Int), r330.snd.fst, ())) (sel (Option.isSome r330.snd.fst) (sel (Option.isSome r330.snd.fst) (sel (decide ((0 : Int) ≤ r175.fst)) (sel (decide (r175.fst ≤ (↑(List.length (Option.getD r330.snd.fst ([], (0 : Int), (0 : Int), (0 : Int), (0 : Int), ())).fst) : Int))) (sel (decide ((0 : Nat) + (Lk.ext (Option.getD r330.snd.fst ([], (0 : Int), (0 : Int), (0 : Int), (0 : Int), ())).fst (0 : Int) r175.fst).length ≤ (1073741824 : Nat))) (sel (decide (List.length ([] ++ Lk.ext (Option.getD r330.snd.fst ([], (0 : Int), (0 : Int), (0 : Int), (0 : Int), ())).fst (0 : Int) r175.fst) + (1 : Nat) ≤ (1073741824 : Nat))) (sel (Option.isSome r330.snd.fst) (sel (Option.isSome r330.snd.fst) (sel (decide ((0 : Int) ≤ r175.fst)) (sel (decide (r175.fst ≤ (↑(List.length (Option.getD r330.snd.fst ([], (0 : Int), (0 : Int), (0 : Int), (0 : Int), ())).fst) : Int))) (sel (decide (List.length ([] ++ Lk.ext (Option.getD r330.snd.fst ([], (0 : Int), (0 : Int), (0 : Int), (0 : Int), ())).fst (0 : Int) r175.fst ++ [(a1, [], (0 : Int), ())]) + (Lk.ext (Option.getD r330.snd.fst ([], (0 : Int), (0 : Int), (0 : Int), (0 : Int), ())).fst r175.fst (↑(List.length (Option.getD r330.snd.fst ([], (0 : Int), (0 : Int), (0 : Int), (0 : Int), ())).fst) : Int)).length ≤ (1073741824 : Nat))) (sel (Option.isSome r330.snd.fst) (sel (Option.isSome r330.snd.fst) (some ((0 : Int), some ([] ++ Lk.ext (Option.getD r330.snd.fst ([], (0 : Int), (0 : Int), (0 : Int), (0 : Int), ())).fst (0 : Int) r175.fst ++ [(a1, [], (0 : Int), ())] ++ Lk.ext (Option.getD r330.snd.fst ([], (0 : Int), (0 : Int), (0 : Int), (0 : Int), ())).fst r175.fst (↑(List.length (Option.getD r330.snd.fst ([], (0 : Int), (0 : Int), (0 : Int), (0 : Int), ())).fst) : Int), (Option.getD r330.snd.fst ([], (0 : Int), (0 : Int), (0 : Int), (0 : Int), ())).snd), ())) none) none) none) none) none) none) none) none) none) none) none) none) none))) none) none)))))) := by kernel_rfl
theorem f40_eq (n : Nat) (a0 : Option AbR) (a1 : List UInt8) (a2 : List UInt8) : f40 (n + 1) a0 a1 a2 = (sel (a0.isNone) (some ((1 : Int), a0, ())) (obind (f58 n a1) fun r100 => (sel (!r100.fst) (some ((2 : Int), a0, ())) (obind (f59 n a0 a1) fun r175 => (sel (!r175.snd.fst) (some ((51 : Int), a0, ())) (sel (a0.isSome) (sel (a0.isSome) (obind (f48 n a0) fun r358 => (obind (f60 n a0 (decide (Go.IntKind.i64.wrap (r358.fst + (↑a2.length : Int)) > (a0.getD ([], (0 : Int), (0 : Int), (0 : Int), (0 : Int), ())).snd.fst))) fun r388 => (sel (r388.fst) (some ((52 : Int), r388.snd.fst, ())) (sel (Option.isSome r388.snd.fst) (sel (Option.isSome r388.snd.fst) (sel (Option.isSome r388.snd.fst) (sel (Option.isSome r388.snd.fst) (sel (decide ((0 : Int) ≤ r175.fst)) (sel (decide (r175.fst < (↑(List.length (Option.getD r388.snd.fst ([], (0 : Int), (0 : Int), (0 : Int), (0 : Int), ())).fst) : Int))) (sel (decide (List.length (List.getD (Option.getD r388.snd.fst ([], (0 : Int), (0 : Int), (0 : Int), (0 : Int), ())).fst (Int.toNat r175.fst) ([], [], (0 : Int), ())).snd.fst + a2.length ≤ Lk.big)) (sel (decide ((0 : Int) ≤ r175.fst)) (sel (decide (r175.fst < (↑(List.length (Option.getD r388.snd.fst ([], (0 : Int), (0 : Int), (0 : Int), (0 : Int), ())).fst) : Int))) (some ((0 : Int), some (List.set (Option.getD r388.snd.fst ([], (0 : Int), (0 : Int), (0 : Int), (0 : Int), ())).fst (Int.toNat r175.fst) ((List.getD (Option.getD r388.snd.fst ([], (0 : Int), (0 : Int), (0 : Int), (0 : Int), ())).fst (Int.toNat r175.fst) ([], [], (0 : Int), ())).fst, (List.getD (Option.getD r388.snd.fst ([], (0 : Int), (0 : Int), (0 : Int), (0 : Int), ())).fst (Int.toNat r175.fst) ([], [], (0 : Int), ())).snd.fst ++ a2, (List.getD (Option.getD r388.snd.fst ([], (0 : Int), (0 : Int), (0 : Int), (0 : Int), ())).fst (Int.toNat r175.fst) ([], [], (0 : Int), ())).snd.snd), (Option.getD r388.snd.fst ([], (0 : Int), (0 : Int), (0 : Int), (0 : Int), ())).snd), ())) none) none) none) none) none) none) none) none) none)))) none) none)))))) := by kernel_rfl
theorem f41_eq (n : Nat) (a0 : Option AbR) (a1 : List UInt8) : f41 (n + 1) a0 a1 = (sel (a0.isNone) (some ((1 : Int), a0, ())) (obind (f58 n a1) fun r100 => (sel (!r100.fst) (some ((2 : Int), a0, ())) (obind (f59 n a0 a1) fun r175 => (sel (!r175.snd.fst) (some ((51 : Int), a0, ())) (sel (a0.isSome) (sel (a0.isSome) (sel (a0.isSome) (sel (a0.isSome) (sel (decide ((0 : Int) ≤ r175.fst)) (sel (decide (r175.fst < (↑(List.length (a0.getD ([], (0 : Int), (0 : Int), (0 : Int), (0 : Int), ())).fst) : Int))) (sel (decide ((0 : Int) ≤ r175.fst)) (sel (decide (r175.fst < (↑(List.length (a0.getD ([], (0 : Int), (0 : Int), (0 : Int), (0 : Int), ())).fst) : Int))) (some ((0 : Int), some (List.set (a0.getD ([], (0 : Int), (0 : Int), (0 : Int), (0 : Int), ())).fst (Int.toNat r175.fst) ((List.getD (a0.getD ([], (0 : Int), (0 : Int), (0 : Int), (0 : Int), ())).fst (Int.toNat r175.fst) ([], [], (0 : Int), ())).fst, (List.getD (a0.getD ([], (0 : Int), (0 : Int), (0 : Int), (0 : Int), ())).fst (Int.toNat r175.fst) ([], [], (0 : Int), ())).snd.fst, (↑(List.length (List.getD (a0.getD ([], (0 : Int), (0 : Int), (0 : Int), (0 : Int), ())).fst (Int.toNat r175.fst) ([], [], (0 : Int), ())).snd.fst) : Int), (List.getD (a0.getD ([], (0 : Int), (0 : Int), (0 : Int), (0 : Int), ())).fst (Int.toNat r175.fst) ([], [], (0 : Int), ())).snd.snd.snd), (a0.getD ([], (0 : Int), (0 : Int), (0 : Int), (0 : Int), ())).snd), ())) none) none) none) none) none) none) none) none)))))) := by kernel_rfl
theorem f42_eq (n : Nat) (a0 : Option AbR) (a1 : List UInt8) (a2 : List UInt8) : f42 (n + 1) a0 a1 a2 = (sel (a0.isNone) (some ((1 : Int), a0, ())) (obind (f58 n a1) fun r100 => (sel (!r100.fst) (p42_2052 n n a0 a1 a2 true) (obind (f58 n a2) fun r176 => (p42_2052 n n a0 a1 a2 (!r176.fst)))))) := by kernel_rfl
theorem p42_2052_eq (j n0 : Nat) (v0 : Option AbR) (v1 : List UInt8) (v2 : List UInt8) (v22 : Bool) : p42_2052 (j + 1) n0 v0 v1 v2 v22 = (sel v22 (some ((2 : Int), v0, ())) (p42_5 n0 n0 v0 v1 v2)) := by kernel_rfl
theorem p42_5_eq (j n0 : Nat) (v0 : Option AbR) (v1 : List UInt8) (v2 : List UInt8) : p42_5 (j + 1) n0 v0 v1 v2 = (obind (f59 j v0 v1) fun r270 => (sel (!r270.snd.fst) (some ((51 : Int), v0, ())) (sel (v1 == v2) (some ((0 : Int), v0, ())) (sel (v0.isSome) (sel (v0.isSome) (sel (decide ((0 : Int) ≤ r270.fst)) (sel (decide (r270.fst < (↑(List.length (v0.getD ([], (0 : Int), (0 : Int), (0 : Int), (0 : Int), ())).fst) : Int))) (sel ((some (([] : List UInt8), ([] : List UInt8), (0 : Int), ())).isSome) (obind (f61 j v0 (r270.fst)) fun r533 => (obind (f59 j (r533.fst) v2) fun r565 => (sel (r565.snd.fst) (obind (f61 j (r533.fst) (r565.fst)) fun r651 => (p42_15 j n0 j (r651.fst) v2 (some (List.getD (v0.getD ([], (0 : Int), (0 : Int), (0 : Int), (0 : Int), ())).fst (Int.toNat r270.fst) ([], [], (0 : Int), ()))) (r565.fst))) (p42_15 j n0 j (r533.fst) v2 (some (List.getD (v0.getD ([], (0 : Int), (0 : Int), (0 : Int), (0 : Int), ())).fst (Int.toNat r270.fst) ([], [], (0 : Int), ()))) (r565.fst))))) none) none) none) none) none)))) := by kernel_rfl
theorem p42_15_eq (j n0 n1 : Nat) (v0 : Option AbR) (v2 : List UInt8) (v9 : Option ((List UInt8 × (List UInt8 × (Int × Unit))))) (v10 : Int) : p42_15 (j + 1) n0 n1 v0 v2 v9 v10 = (sel (v9.isSome) (sel (v0.isSome) (sel (v0.isSome) (sel (decide ((0 : Int) ≤ v10)) (sel (decide (v10 ≤ (↑(List.length (v0.getD ([], (0 : Int), (0 : Int), (0 : Int), (0 : Int), ())).fst) : Int))) (sel (decide ((0 : Nat) + (Lk.ext (v0.getD ([], (0 : Int), (0 : Int), (0 : Int), (0 : Int), ())).fst (0 : Int) v10).length ≤ (1073741824 : Nat))) (sel ((some (v2, (v9.getD ([], [], (0 : Int), ())).snd)).isSome) (sel (decide (List.length ([] ++ Lk.ext (v0.getD ([], (0 : Int), (0 : Int), (0 : Int), (0 : Int), ())).fst (0 : Int) v10) + (1 : Nat) ≤ (1073741824 : Nat))) (sel (v0.isSome) (sel (v0.isSome) (sel (decide ((0 : Int) ≤ v10)) (sel (decide (v10 ≤ (↑(List.length (v0.getD ([], (0 : Int), (0 : Int), (0 : Int), (0 : Int), ())).fst) : Int))) (sel (decide (List.length ([] ++ Lk.ext (v0.getD ([], (0 : Int), (0 : Int), (0 : Int), (0 : Int), ())).fst (0 : Int) v10 ++ [(some (v2, (v9.getD ([], [], (0 : Int), ())).snd)).getD ([], [], (0 : Int), ())]) + (Lk.ext (v0.getD ([], (0 : Int), (0 : Int), (0 : Int), (0 : Int), ())).fst v10 (↑(List.length (v0.getD ([], (0 : Int), (0 : Int), (0 : Int), (0 : Int), ())).fst) : Int)).length ≤ (1073741824 : Nat))) (sel (v0.isSome) (sel (v0.isSome) (some ((0 : Int), some ([] ++ Lk.ext (v0.getD ([], (0 : Int), (0 : Int), (0 : Int), (0 : Int), ())).fst (0 : Int) v10 ++ [(some (v2, (v9.getD ([], [], (0 : Int), ())).snd)).getD ([], [], (0 : Int), ())] ++ Lk.ext (v0.getD ([], (0 : Int), (0 : Int), (0 : Int), (0 : Int), ())).fst v10 (↑(List.length (v0.getD ([], (0 : Int), (0 : Int), (0 : Int), (0 : Int), ())).fst) : Int), (v0.getD ([], (0 : Int), (0 : Int), (0 : Int), (0 : Int), ())).snd), ())) none) none) none) none) none) none) none) none) none) none) none) none) none) none) none) := by kernel_rfl
theorem f43_eq (n : Nat) (a0 : Option AbR) (a1 : List UInt8) : f43 (n + 1) a0 a1 = (sel (a0.isNone) (some ((1 : Int), a0, ())) (obind (f58 n a1) fun r100 => (sel (!r100.fst) (some ((2 : Int), a0, ())) (obind (f59 n a0 a1) fun r175 => (sel (!r175.snd.fst) (some ((51 : Int), a0, ())) (obind (f61 n a0 (r175.fst)) fun r301 => (some ((0 : Int), r301.fst, ())))))))) := by kernel_rfl
theorem f44_eq (n : Nat) (a0 : Option AbR) (a1 : Int) : f44 (n + 1) a0 a1 = (sel (a0.isNone) (some ((1 : Int), a0, ())) (sel (decide (a1 < (0 : Int))) (p44_2052 n n a0 a1 true) (p44_2052 n n a0 a1 (decide (a1 > (268435456 : Int)))))) := by kernel_rfl
theorem p44_2052_eq (j n0 : Nat) (v0 : Option AbR) (v1 : Int) (v12 : Bool) : p44_2052 (j + 1) n0 v0 v1 v12 = (sel v12 (some ((2 : Int), v0, ())) (p44_5 n0 n0 v0 v1)) := by kernel_rfl
theorem p44_5_eq (j n0 : Nat) (v0 : Option AbR) (v1 : Int) : p44_5 (j + 1) n0 v0 v1 = (sel (v0.isSome) (sel (v0.isSome) (some ((0 : Int), some ((v0.getD ([], (0 : Int), (0 : Int), (0 : Int), (0 : Int), ())).fst, v1, (v0.getD ([], (0 : Int), (0 : Int), (0 : Int), (0 : Int), ())).snd.snd), ())) none) none) := by kernel_rfl
theorem f45_eq (n : Nat) (a0 : Option AbR) (a1 : Int) (a2 : Int) : f45 (n + 1) a0 a1 a2 = (sel (a0.isNone) (some ((1 : Int), a0, ())) (sel (decide (a1 < (0 : Int))) (p45_2052 n n a0 a1 a2 true) (p45_2052 n n a0 a1 a2 (decide (a2 < (0 : Int)))))) := by kernel_rfl
theorem p45_2052_eq (j n0 : Nat) (v0 : Option AbR) (v1 : Int) (v2 : Int) (v14 : Bool) : p45_2052 (j + 1) n0 v0 v1 v2 v14 = (sel v14 (some ((2 : Int), v0, ())) (p45_5 n0 n0 v0 v1 v2)) := by kernel_rfl
theorem p45_5_eq (j n0 : Nat) (v0 : Option AbR) (v1 : Int) (v2 : Int) : p45_5 (j + 1) n0 v0 v1 v2 = (sel (v0.isSome) (sel (v0.isSome) (sel ((some ((v0.getD ([], (0 : Int), (0 : Int), (0 : Int), (0 : Int), ())).fst, (v0.getD ([], (0 : Int), (0 : Int), (0 : Int), (0 : Int), ())).snd.fst, v1, (v0.getD ([], (0 : Int), (0 : Int), (0 : Int), (0 : Int), ())).snd.snd.snd)).isSome) (sel ((some ((v0.getD ([], (0 : Int), (0 : Int), (0 : Int), (0 : Int), ())).fst, (v0.getD ([], (0 : Int), (0 : Int), (0 : Int), (0 : Int), ())).snd.fst, v1, (v0.getD ([], (0 : Int), (0 : Int), (0 : Int), (0 : Int), ())).snd.snd.snd)).isSome) (some ((0 : Int), some ((v0.getD ([], (0 : Int), (0 : Int), (0 : Int), (0 : Int), ())).fst, (v0.getD ([], (0 : Int), (0 : Int), (0 : Int), (0 : Int), ())).snd.fst, v1, v2, (v0.getD ([], (0 : Int), (0 : Int), (0 : Int), (0 : Int), ())).snd.snd.snd.snd), ())) none) none) none) none) := by kernel_rfl
theorem f46_eq (n : Nat) (a0 : Option AbR) (a1 : List (Int)) : f46 (n + 1) a0 a1 = (sel (a0.isNone) (some ((1 : Int), a0, ())) (p46_4 n n a0 a1 ((0 : Int)))) := by kernel_rfl
theorem p46_4_eq (j n0 : Nat) (v0 : Option AbR) (v1 : List (Int)) (v5 : Int) : p46_4 (j + 1) n0 v0 v1 v5 = (sel (v0.isSome) (sel (v0.isSome) (sel (decide (v5 < (↑(List.length (v0.getD ([], (0 : Int), (0 : Int), (0 : Int), (0 : Int), ())).fst) : Int))) (sel (v0.isSome) (sel (v0.isSome) (sel (decide ((0 : Int) ≤ v5)) (sel (decide (v5 < (↑(List.length (v0.getD ([], (0 : Int), (0 : Int), (0 : Int), (0 : Int), ())).fst) : Int))) (sel ((some (([] : List UInt8), ([] : List UInt8), (0 : Int), ())).isSome) (sel (decide ((↑v1.length : Int) > (0 : Int))) (sel ((↑v1.length : Int) != (0 : Int)) (sel (decide ((0 : Int) ≤ v5.tmod (↑v1.length : Int))) (sel (decide (v5.tmod (↑v1.length : Int) < (↑v1.length : Int))) (p46_10 j n0 j v0 v1 v5 (some (List.getD (v0.getD ([], (0 : Int), (0 : Int), (0 : Int), (0 : Int), ())).fst v5.toNat ([], [], (0 : Int), ()))) (v1.getD (v5.tmod (↑v1.length : Int)).toNat (0 : Int))) none) none) none) (p46_10_1 j n0 j v0 v1 v5 (some (List.getD (v0.getD ([], (0 : Int), (0 : Int), (0 : Int), (0 : Int), ())).fst v5.toNat ([], [], (0 : Int), ()))) ((0 : Int)))) none) none) none) none) none) (sel (v0.isSome) (sel (v0.isSome) (sel ((some ((v0.getD ([], (0 : Int), (0 : Int), (0 : Int), (0 : Int), ())).fst, (v0.getD ([], (0 : Int), (0 : Int), (0 : Int), (0 : Int), ())).snd.fst, (0 : Int), (v0.getD ([], (0 : Int), (0 : Int), (0 : Int), (0 : Int), ())).snd.snd.snd)).isSome) (sel ((some ((v0.getD ([], (0 : Int), (0 : Int), (0 : Int), (0 : Int), ())).fst, (v0.getD ([], (0 : Int), (0 : Int), (0 : Int), (0 : Int), ())).snd.fst, (0 : Int), (v0.getD ([], (0 : Int), (0 : Int), (0 : Int), (0 : Int), ())).snd.snd.snd)).isSome) (some ((0 : Int), some ((v0.getD ([], (0 : Int), (0 : Int), (0 : Int), (0 : Int), ())).fst, (v0.getD ([], (0 : Int), (0 : Int), (0 : Int), (0 : Int), ())).snd.fst, (0 : Int), (0 : Int), (v0.getD ([], (0 : Int), (0 : Int), (0 : Int), (0 : Int), ())).snd.snd.snd.snd), ())) none) none) none) none)) none) none) := by kernel_rfl
theorem p46_10_eq (j n0 n1 : Nat) (v0 : Option AbR) (v1 : List (Int)) (v5 : Int) (v6 : Option ((List UInt8 × (List UInt8 × (Int × Unit))))) (v7 : Int) : p46_10 (j + 1) n0 n1 v0 v1 v5 v6 v7 = (sel (decide (v7 < (0 : Int))) (p46_12 j n0 n1 j v0 v1 v5 v6 ((0 : Int))) (p46_12_1 j n0 n1 j v0 v1 v5 v6 v7)) := by kernel_rfl
theorem p46_10_1_eq (j n0 n1 : Nat) (v0 : Option AbR) (v1 : List (Int)) (v5 : Int) (v6 : Option ((List UInt8 × (List UInt8 × (Int × Unit))))) (v7 : Int) : p46_10_1 (j + 1) n0 n1 v0 v1 v5 v6 v7 = (sel (decide (v7 < (0 : Int))) (p46_12 j n0 n1 j v0 v1 v5 v6 ((0 : Int))) (p46_12 j n0 n1 j v0 v1 v5 v6 v7)) := by kernel_rfl
theorem p46_12_eq (j n0 n1 n2 : Nat) (v0 : Option AbR) (v1 : List (Int)) (v5 : Int) (v6 : Option ((List UInt8 × (List UInt8 × (Int × Unit))))) (v7 : Int) : p46_12 (j + 1) n0 n1 n2 v0 v1 v5 v6 v7 = (sel (v6.isSome) (sel (v6.isSome) (sel (decide (v7 > Go.IntKind.i64.wrap ((↑(List.length (v6.getD ([], [], (0 : Int), ())).snd.fst) : Int) - (v6.getD ([], [], (0 : Int), ())).snd.snd.fst))) (sel (v6.isSome) (sel (v6.isSome) (p46_14 j n0 n1 n2 j v0 v1 v5 v6 (Go.IntKind.i64.wrap ((↑(List.length (v6.getD ([], [], (0 : Int), ())).snd.fst) : Int) - (v6.getD ([], [], (0 : Int), ())).snd.snd.fst))) none) none) (p46_14 j n0 n1 n2 j v0 v1 v5 v6 v7)) none) none) := by kernel_rfl
theorem p46_12_1_eq (j n0 n1 n2 : Nat) (v0 : Option AbR) (v1 : List (Int)) (v5 : Int) (v6 : Option ((List UInt8 × (List UInt8 × (Int × Unit))))) (v7 : Int) : p46_12_1 (j + 1) n0 n1 n2 v0 v1 v5 v6 v7 = (sel (v6.isSome) (sel (v6.isSome) (sel (decide (v7 > Go.IntKind.i64.wrap ((↑(List.length (v6.getD ([], [], (0 : Int), ())).snd.fst) : Int) - (v6.getD ([], [], (0 : Int), ())).snd.snd.fst))) (sel (v6.isSome) (sel (v6.isSome) (p46_14 j n0 n1 n2 j v0 v1 v5 v6 (Go.IntKind.i64.wrap ((↑(List.length (v6.getD ([], [], (0 : Int), ())).snd.fst) : Int) - (v6.getD ([], [], (0 : Int), ())).snd.snd.fst))) none) none) (p46_14_1 j n0 n1 n2 j v0 v1 v5 v6 v7)) none) none) := by kernel_rfl
theorem p46_14_eq (j n0 n1 n2 n3 : Nat) (v0 : Option AbR) (v1 : List (Int)) (v5 : Int) (v6 : Option ((List UInt8 × (List UInt8 × (Int × Unit))))) (v7 : Int) : p46_14 (j + 1) n0 n1 n2 n3 v0 v1 v5 v6 v7 = (sel (v6.isSome) (sel (v6.isSome) (sel (decide ((0 : Int) ≤ Go.IntKind.i64.wrap ((v6.getD ([], [], (0 : Int), ())).snd.snd.fst + v7))) (sel (decide (Go.IntKind.i64.wrap ((v6.getD ([], [], (0 : Int), ())).snd.snd.fst + v7) ≤ (↑(List.length (v6.getD ([], [], (0 : Int), ())).snd.fst) : Int))) (sel (v6.isSome) (sel ((some ((v6.getD ([], [], (0 : Int), ())).fst, Lk.ext (v6.getD ([], [], (0 : Int), ())).snd.fst (0 : Int) (Go.IntKind.i64.wrap ((v6.getD ([], [], (0 : Int), ())).snd.snd.fst + v7)), (v6.getD ([], [], (0 : Int), ())).snd.snd)).isSome) (sel ((some ((v6.getD ([], [], (0 : Int), ())).fst, Lk.ext (v6.getD ([], [], (0 : Int), ())).snd.fst (0 : Int) (Go.IntKind.i64.wrap ((v6.getD ([], [], (0 : Int), ())).snd.snd.fst + v7)), (v6.getD ([], [], (0 : Int), ())).snd.snd)).isSome) (sel (v0.isSome) (sel (v0.isSome) (sel ((some ((v6.getD ([], [], (0 : Int), ())).fst, Lk.ext (v6.getD ([], [], (0 : Int), ())).snd.fst (0 : Int) (Go.IntKind.i64.wrap ((v6.getD ([], [], (0 : Int), ())).snd.snd.fst + v7)), (↑(Lk.ext (v6.getD ([], [], (0 : Int), ())).snd.fst (0 : Int) (Go.IntKind.i64.wrap ((v6.getD ([], [], (0 : Int), ())).snd.snd.fst + v7))).length : Int), (v6.getD ([], [], (0 : Int), ())).snd.snd.snd)).isSome) (sel (decide ((0 : Int) ≤ v5)) (sel (decide (v5 < (↑(List.length (v0.getD ([], (0 : Int), (0 : Int), (0 : Int), (0 : Int), ())).fst) : Int))) (p46_5 n1 n0 n1 (some (List.set (v0.getD ([], (0 : Int), (0 : Int), (0 : Int), (0 : Int), ())).fst v5.toNat ((some ((v6.getD ([], [], (0 : Int), ())).fst, Lk.ext (v6.getD ([], [], (0 : Int), ())).snd.fst (0 : Int) (Go.IntKind.i64.wrap ((v6.getD ([], [], (0 : Int), ())).snd.snd.fst + v7)), (↑(Lk.ext (v6.getD ([], [], (0 : Int), ())).snd.fst (0 : Int) (Go.IntKind.i64.wrap ((v6.getD ([], [], (0 : Int), ())).snd.snd.fst + v7))).length : Int), (v6.getD ([], [], (0 : Int), ())).snd.snd.snd)).getD ([], [], (0 : Int), ())), (v0.getD ([], (0 : Int), (0 : Int), (0 : Int), (0 : Int), ())).snd)) v1 v5) none) none) none) none) none) none) none) none) none) none) none) none) := by kernel_rfl
theorem p46_14_1_eq (j n0 n1 n2 n3 : Nat) (v0 : Option AbR) (v1 : List (Int)) (v5 : Int) (v6 : Option ((List UInt8 × (List UInt8 × (Int × Unit))))) (v7 : Int) : p46_14_1 (j + 1) n0 n1 n2 n3 v0 v1 v5 v6 v7 = (sel (v6.isSome) (sel (v6.isSome) (sel (decide ((0 : Int) ≤ Go.IntKind.i64.wrap ((v6.getD ([], [], (0 : Int), ())).snd.snd.fst + v7))) (sel (decide (Go.IntKind.i64.wrap ((v6.getD ([], [], (0 : Int), ())).snd.snd.fst + v7) ≤ (↑(List.length (v6.getD ([], [], (0 : Int), ())).snd.fst) : Int))) (sel (v6.isSome) (sel ((some ((v6.getD ([], [], (0 : Int), ())).fst, Lk.ext (v6.getD ([], [], (0 : Int), ())).snd.fst (0 : Int) (Go.IntKind.i64.wrap ((v6.getD ([], [], (0 : Int), ())).snd.snd.fst + v7)), (v6.getD ([], [], (0 : Int), ())).snd.snd)).isSome) (sel ((some ((v6.getD ([], [], (0 : Int), ())).fst, Lk.ext (v6.getD ([], [], (0 : Int), ())).snd.fst (0 : Int) (Go.IntKind.i64.wrap ((v6.getD ([], [], (0 : Int), ())).snd.snd.fst + v7)), (v6.getD ([], [], (0 : Int), ())).snd.snd)).isSome) (sel (v0.isSome) (sel (v0.isSome) (sel ((some ((v6.getD ([], [], (0 : Int), ())).fst, Lk.ext (v6.getD ([], [], (0 : Int), ())).snd.fst (0 : Int) (Go.IntKind.i64.wrap ((v6.getD ([], [], (0 : Int), ())).snd.snd.fst + v7)), (↑(Lk.ext (v6.getD ([], [], (0 : Int), ())).snd.fst (0 : Int) (Go.IntKind.i64.wrap ((v6.getD ([], [], (0 : Int), ())).snd.snd.fst + v7))).length : Int), (v6.getD ([], [], (0 : Int), ())).snd.snd.snd)).isSome) (sel (decide ((0 : Int) ≤ v5)) (sel (decide (v5 < (↑(List.length (v0.getD ([], (0 : Int), (0 : Int), (0 : Int), (0 : Int), ())).fst) : Int))) (p46_5 n1 n0 n1 (some (List.set (v0.getD ([], (0 : Int), (0 : Int), (0 : Int), (0 : Int), ())).fst v5.toNat ((some ((v6.getD ([], [], (0 : Int), ())).fst, Lk.ext (v6.getD ([], [], (0 : Int), ())).snd.fst (0 : Int) (Go.IntKind.i64.wrap ((v6.getD ([], [], (0 : Int), ())).snd.snd.fst + v7)), (↑(Lk.ext (v6.getD ([], [], (0 : Int), ())).snd.fst (0 : Int) (Go.IntKind.i64.wrap ((v6.getD ([], [], (0 : Int), ())).snd.snd.fst + v7))).length : Int), (v6.getD ([], [], (0 : Int), ())).snd.snd.snd)).getD ([], [], (0 : Int), ())), (v0.getD ([], (0 : Int), (0 : Int), (0 : Int), (0 : Int), ())).snd)) v1 v5) none) none) none) none) none) none) none) none) none) none) none) none) := by kernel_rfl
theorem p46_5_eq (j n0 n1 : Nat) (v0 : Option AbR) (v1 : List (Int)) (v5 : Int) : p46_5 (j + 1) n0 n1 v0 v1 v5 = (p46_4 n1 n0 v0 v1 (Go.IntKind.i64.wrap (v5 + (1 : Int)))) := by kernel_rfl
theorem f18_eq (n : Nat) (a0 : Option AbR) (a1 : AbA) : f18 (n + 1) a0 a1 = (sel ((some a1).isSome) (sel (((some a1).getD ((0 : Int), [], [], [], (0 : Int), (0 : Int), [], ())).fst == (0 : Int)) (sel ((some a1).isSome) (obind (f39 n a0 (((some a1).getD ((0 : Int), [], [], [], (0 : Int), (0 : Int), [], ())).snd.fst)) fun r111 => (some (r111.fst, r111.snd.fst, ()))) none) (sel (((some a1).getD ((0 : Int), [], [], [], (0 : Int), (0 : Int), [], ())).fst == (1 : Int)) (sel ((some a1).isSome) (sel ((some a1).isSome) (obind (f40 n a0 (((some a1).getD ((0 : Int), [], [], [], (0 : Int), (0 : Int), [], ())).snd.fst) (((some a1).getD ((0 : Int), [], [], [], (0 : Int), (0 : Int), [], ())).snd.snd.snd.fst)) fun r219 => (some (r219.fst, r219.snd.fst, ()))) none) none) (sel (((some a1).getD ((0 : Int), [], [], [], (0 : Int), (0 : Int), [], ())).fst == (2 : Int)) (sel ((some a1).isSome) (obind (f41 n a0 (((some a1).getD ((0 : Int), [], [], [], (0 : Int), (0 : Int), [], ())).snd.fst)) fun r306 => (some (r306.fst, r306.snd.fst, ()))) none) (sel (((some a1).getD ((0 : Int), [], [], [], (0 : Int), (0 : Int), [], ())).fst == (3 : Int)) (sel ((some a1).isSome) (sel ((some a1).isSome) (obind (f42 n a0 (((some a1).getD ((0 : Int), [], [], [], (0 : Int), (0 : Int), [], ())).snd.fst) (((some a1).getD ((0 : Int), [], [], [], (0 : Int), (0 : Int), [], ())).snd.snd.fst)) fun r407 => (some (r407.fst, r407.snd.fst, ()))) none) none) (sel (((some a1).getD ((0 : Int), [], [], [], (0 : Int), (0 : Int), [], ())).fst == (4 : Int)) (sel ((some a1).isSome) (obind (f43 n a0 (((some a1).getD ((0 : Int), [], [], [], (0 : Int), (0 : Int), [], ())).snd.fst)) fun r494 => (some (r494.fst, r494.snd.fst, ()))) none) (sel (((some a1).getD ((0 : Int), [], [], [], (0 : Int), (0 : Int), [], ())).fst == (5 : Int)) (sel ((some a1).isSome) (obind (f44 n a0 (((some a1).getD ((0 : Int), [], [], [], (0 : Int), (0 : Int), [], ())).snd.snd.snd.snd.snd.fst)) fun r581 => (some (r581.fst, r581.snd.fst, ()))) none) (sel (((some a1).getD ((0 : Int), [], [], [], (0 : Int), (0 : Int), [], ())).fst == (6 : Int)) (sel ((some a1).isSome) (sel ((some a1).isSome) (obind (f45 n a0 (((some a1).getD ((0 : Int), [], [], [], (0 : Int), (0 : Int), [], ())).snd.snd.snd.snd.fst) (((some a1).getD ((0 : Int), [], [], [], (0 : Int), (0 : Int), [], ())).snd.snd.snd.snd.snd.fst)) fun r682 => (some (r682.fst, r682.snd.fst, ()))) none) none) (sel (((some a1).getD ((0 : Int), [], [], [], (0 : Int), (0 : Int), [], ())).fst == (7 : Int)) (sel ((some a1).isSome) (obind (f46 n a0 (((some a1).getD ((0 : Int), [], [], [], (0 : Int), (0 : Int), [], ())).snd.snd.snd.snd.snd.snd.fst)) fun r769 => (some (r769.fst, r769.snd.fst, ()))) none) (some ((0 : Int), a0, ())))))))))) none) := by kernel_rfl
theorem f19_eq (n : Nat) (a0 : Option Lk.DiskS) (a1 : Option AbR) (a2 : AbA) : f19 (n + 1) a0 a1 a2 = (obind (f12 n a0) fun r47 => (obind (f47 n a1) fun r79 => (sel ((↑(List.length r47.fst) : Int) != (↑(List.length r79.fst) : Int)) (p19_2052 n n a0 a1 (some a2) (r47.fst) (r79.fst) true) (obind (f15 n a0) fun r401 => (obind (f48 n a1) fun r429 => (sel (r401.fst != r429.fst) (p19_2052 n n a0 a1 (some a2) (r47.fst) (r79.fst) true) (obind (f22 n a0) fun r649 => (sel (a1.isSome) (sel (a1.isSome) (sel (r649.fst != (a1.getD ([], (0 : Int), (0 : Int), (0 : Int), (0 : Int), ())).snd.fst) (p19_2052 n n a0 a1 (some a2) (r47.fst) (r79.fst) true) (obind (f21 n a0) fun r837 => (sel (a1.isSome) (sel (a1.isSome) (p19_2052 n n a0 a1 (some a2) (r47.fst) (r79.fst) (r837.fst != (a1.getD ([], (0 : Int), (0 : Int), (0 : Int), (0 : Int), ())).snd.snd.snd.snd.fst)) none) none))) none) none)))))))) := by kernel_rfl
theorem p19_2052_eq (j n0 : Nat) (v0 : Option Lk.DiskS) (v1 : Option AbR) (v5 : Option AbA) (v7 : List (List UInt8)) (v8 : List (List UInt8)) (v63 : Bool) : p19_2052 (j + 1) n0 v0 v1 v5 v7 v8 v63 = (sel v63 (some (false, ())) (p19_5 n0 n0 v0 v1 v5 v7 v8)) := by kernel_rfl
theorem p19_5_eq (j n0 : Nat) (v0 : Option Lk.DiskS) (v1 : Option AbR) (v5 : Option AbA) (v7 : List (List UInt8)) (v8 : List (List UInt8)) : p19_5 (j + 1) n0 v0 v1 v5 v7 v8 = (p19_6 j n0 j v0 v1 v5 v7 v8 ((0 : Int))) := by kernel_rfl
theorem p19_6_eq (j n0 n1 : Nat) (v0 : Option Lk.DiskS) (v1 : Option AbR) (v5 : Option AbA) (v7 : List (List UInt8)) (v8 : List (List UInt8)) (v9 : Int) : p19_6 (j + 1) n0 n1 v0 v1 v5 v7 v8 v9 = (sel (decide (v9 < (↑v7.length : Int))) (sel (decide ((0 : Int) ≤ v9)) (sel (decide (v9 < (↑v8.length : Int))) (obind (f14 j v0 (v8.getD v9.toNat [])) fun r1078 => (sel (decide ((0 : Int) ≤ v9)) (sel (decide (v9 < (↑v8.length : Int))) (obind (f49 j v1 (v8.getD v9.toNat [])) fun r1180 => (sel (decide ((0 : Int) ≤ v9)) (sel (decide (v9 < (↑v7.length : Int))) (sel (decide ((0 : Int) ≤ v9)) (sel (decide (v9 < (↑v8.length : Int))) (sel (!v7.getD v9.toNat [] == v8.getD v9.toNat []) (p19_2059 j n0 n1 j v0 v1 v5 v7 v8 v9 (r1180.fst) true) (sel (r1078.fst != r1180.fst) (p19_2059 j n0 n1 j v0 v1 v5 v7 v8 v9 (r1180.fst) true) (sel (r1078.snd.fst != r1180.snd.fst) (p19_2059 j n0 n1 j v0 v1 v5 v7 v8 v9 (r1180.fst) true) (p19_2059 j n0 n1 j v0 v1 v5 v7 v8 v9 (r1180.fst) (r1078.snd.snd.fst != (0 : Int)))))) none) none) none) none)) none) none)) none) none) (sel (v5.isSome) (sel (v5.isSome) (sel (v5.isSome) (obind (f26 n1 v0 ((v5.getD ((0 : Int), [], [], [], (0 : Int), (0 : Int), [], ())).snd.fst) ((v5.getD ((0 : Int), [], [], [], (0 : Int), (0 : Int), [], ())).snd.snd.snd.snd.fst) ((v5.getD ((0 : Int), [], [], [], (0 : Int), (0 : Int), [], ())).snd.snd.snd.snd.snd.fst)) fun r1727 => (sel (v5.isSome) (sel (v5.isSome) (sel (v5.isSome) (obind (f50 n1 v1 ((v5.getD ((0 : Int), [], [], [], (0 : Int), (0 : Int), [], ())).snd.fst) ((v5.getD ((0 : Int), [], [], [], (0 : Int), (0 : Int), [], ())).snd.snd.snd.snd.fst) ((v5.getD ((0 : Int), [], [], [], (0 : Int), (0 : Int), [], ())).snd.snd.snd.snd.snd.fst)) fun r1829 => (sel (v5.isSome) (obind (f14 n1 v0 ((v5.getD ((0 : Int), [], [], [], (0 : Int), (0 : Int), [], ())).snd.fst)) fun r1903 => (sel (v5.isSome) (obind (f49 n1 v1 ((v5.getD ((0 : Int), [], [], [], (0 : Int), (0 : Int), [], ())).snd.fst)) fun r1991 => (sel (r1727.fst == r1829.fst) (sel (r1727.snd.fst == r1829.snd.fst) (sel (r1903.fst == r1991.fst) (sel (r1903.snd.fst == r1991.snd.fst) (some (r1903.snd.snd.fst == r1991.snd.snd.fst, ())) (some (false, ()))) (some (false, ()))) (some (false, ()))) (some (false, ())))) none)) none)) none) none) none)) none) none) none)) := by kernel_rfl
theorem p19_2059_eq (j n0 n1 n2 : Nat) (v0 : Option Lk.DiskS) (v1 : Option AbR) (v5 : Option AbA) (v7 : List (List UInt8)) (v8 : List (List UInt8)) (v9 : Int) (v13 : Int) (v112 : Bool) : p19_2059 (j + 1) n0 n1 n2 v0 v1 v5 v7 v8 v9 v13 v112 = (sel v112 (some (false, ())) (p19_12 n2 n0 n1 n2 v0 v1 v5 v7 v8 v9 v13)) := by kernel_rfl
theorem p19_12_eq (j n0 n1 n2 : Nat) (v0 : Option Lk.DiskS) (v1 : Option AbR) (v5 : Option AbA) (v7 : List (List UInt8)) (v8 : List (List UInt8)) (v9 : Int) (v13 : Int) : p19_12 (j + 1) n0 n1 n2 v0 v1 v5 v7 v8 v9 v13 = (sel (decide ((0 : Int) ≤ v9)) (sel (decide (v9 < (↑v7.length : Int))) (obind (f26 j v0 (v7.getD v9.toNat []) ((0 : Int)) v13) fun r2881 => (sel (decide ((0 : Int) ≤ v9)) (sel (decide (v9 < (↑v8.length : Int))) (obind (f50 j v1 (v8.getD v9.toNat []) ((0 : Int)) v13) fun r2976 => (sel (!r2881.fst == r2976.fst) (p19_2063 j n0 n1 n2 j v0 v1 v5 v7 v8 v9 (r2881.fst) true) (p19_2063 j n0 n1 n2 j v0 v1 v5 v7 v8 v9 (r2881.fst) (r2881.snd.fst != (0 : Int))))) none) none)) none) none) := by kernel_rfl
theorem p19_2063_eq (j n0 n1 n2 n3 : Nat) (v0 : Option Lk.DiskS) (v1 : Option AbR) (v5 : Option AbA) (v7 : List (List UInt8)) (v8 : List (List UInt8)) (v9 : Int) (v16 : List (UInt8)) (v140 : Bool) : p19_2063 (j + 1) n0 n1 n2 n3 v0 v1 v5 v7 v8 v9 v16 v140 = (sel v140 (some (false, ())) (p19_16 n3 n0 n1 n2 n3 v0 v1 v5 v7 v8 v9 v16)) := by kernel_rfl
theorem p19_16_eq (j n0 n1 n2 n3 : Nat) (v0 : Option Lk.DiskS) (v1 : Option AbR) (v5 : Option AbA) (v7 : List (List UInt8)) (v8 : List (List UInt8)) (v9 : Int) (v16 : List (UInt8)) : p19_16 (j + 1) n0 n1 n2 n3 v0 v1 v5 v7 v8 v9 v16 = (p19_17 j n0 n1 n2 n3 j v0 v1 v5 v7 v8 v9 v16 ((0 : Int))) := by kernel_rfl
theorem p19_17_eq (j n0 n1 n2 n3 n4 : Nat) (v0 : Option Lk.DiskS) (v1 : Option AbR) (v5 : Option AbA) (v7 : List (List UInt8)) (v8 : List (List UInt8)) (v9 : Int) (v16 : List (UInt8)) (v19 : Int) : p19_17 (j + 1) n0 n1 n2 n3 n4 v0 v1 v5 v7 v8 v9 v16 v19 = (sel (decide (v19 < (↑v16.length : Int))) (sel (decide ((0 : Int) ≤ v19)) (sel (decide (v19 < (↑v16.length : Int))) (sel (decide ((0 : Int) ≤ v19)) (sel (decide (v19 < (↑v16.length : Int))) (p19_17 j n0 n1 n2 n3 n4 v0 v1 v5 v7 v8 v9 (v16.set v19.toNat (UInt8.ofNat (Go.IntKind.u8.wrap ((↑(UInt8.toNat (v16.getD v19.toNat (0 : UInt8))) : Int) + (↑(UInt8.toNat (1 : UInt8)) : Int))).toNat)) (Go.IntKind.i64.wrap (v19 + (1 : Int)))) none) none) none) none) (sel (decide ((0 : Int) ≤ v9)) (sel (decide (v9 < (↑v7.length : Int))) (p19_7 n2 n0 n1 n2 v0 v1 v5 (v7.set v9.toNat [(115 : UInt8), (112 : UInt8), (111 : UInt8), (105 : UInt8), (108 : UInt8), (116 : UInt8)]) v8 v9) none) none)) := by kernel_rfl
theorem p19_7_eq (j n0 n1 n2 : Nat) (v0 : Option Lk.DiskS) (v1 : Option AbR) (v5 : Option AbA) (v7 : List (List UInt8)) (v8 : List (List UInt8)) (v9 : Int) : p19_7 (j + 1) n0 n1 n2 v0 v1 v5 v7 v8 v9 = (p19_6 n2 n0 n1 v0 v1 v5 v7 v8 (Go.IntKind.i64.wrap (v9 + (1 : Int)))) := by kernel_rfl
theorem f4_eq (n : Nat) (a0 : Int) (a1 : List AbA) : f4 (n + 1) a0 a1 = (obind (f8 n a0) fun r40 => (obind (f16 n a0) fun r100 => (sel (r40.snd.fst != r100.snd.fst) (p4_2052 n n a1 (r40.fst) (r100.fst) true) (sel (Option.isNone r40.fst != Option.isNone r100.fst) (p4_2052 n n a1 (r40.fst) (r100.fst) true) (obind (f17 n ) fun r377 => (p4_2052 n n a1 (r40.fst) (r100.fst) (!r377.fst))))))) := by kernel_rfl
theorem p4_2052_eq (j n0 : Nat) (v1 : List AbA) (v5 : Option Lk.DiskS) (v7 : Option AbR) (v33 : Bool) : p4_2052 (j + 1) n0 v1 v5 v7 v33 = (sel v33 (some (false, ())) (p4_5 n0 n0 v1 v5 v7)) := by kernel_rfl
theorem p4_5_eq (j n0 : Nat) (v1 : List AbA) (v5 : Option Lk.DiskS) (v7 : Option AbR) : p4_5 (j + 1) n0 v1 v5 v7 = (sel (v7.isNone) (some (true, ())) (p4_8 j n0 j v1 v5 v7 ((0 : Int)))) := by kernel_rfl
theorem p4_8_eq (j n0 n1 : Nat) (v1 : List AbA) (v5 : Option Lk.DiskS) (v7 : Option AbR) (v9 : Int) : p4_8 (j + 1) n0 n1 v1 v5 v7 v9 = (sel (decide (v9 < (↑v1.length : Int))) (sel (decide ((0 : Int) ≤ v9)) (sel (decide (v9 < (↑v1.length : Int))) (sel (decide ((0 : Int) ≤ v9)) (sel (decide (v9 < (↑v1.length : Int))) (obind (f9 j v5 (v1.getD v9.toNat ((0 : Int), [], [], [], (0 : Int), (0 : Int), [], ()))) fun r671 => (obind (f18 j v7 (v1.getD v9.toNat ((0 : Int), [], [], [], (0 : Int), (0 : Int), [], ()))) fun r685 => (sel (r671.fst != r685.fst) (p4_2059 j n0 n1 j v1 (r671.snd.fst) (r685.snd.fst) v9 true) (sel (decide ((0 : Int) ≤ v9)) (sel (decide (v9 < (↑v1.length : Int))) (obind (f19 j (r671.snd.fst) (r685.snd.fst) (v1.getD v9.toNat ((0 : Int), [], [], [], (0 : Int), (0 : Int), [], ()))) fun r875 => (p4_2059 j n0 n1 j v1 (r671.snd.fst) (r685.snd.fst) v9 (!r875.fst))) none) none)))) none) none) none) none) (obind (f19 n1 v5 v7 (((0 : Int), [], [], [], (0 : Int), (0 : Int), [], ()))) fun r946 => (some (r946.fst, ())))) := by kernel_rfl
theorem p4_2059_eq (j n0 n1 n2 : Nat) (v1 : List AbA) (v5 : Option Lk.DiskS) (v7 : Option AbR) (v9 : Int) (v64 : Bool) : p4_2059 (j + 1) n0 n1 n2 v1 v5 v7 v9 v64 = (sel v64 (some (false, ())) (p4_9 n2 n0 n1 n2 v1 v5 v7 v9)) := by kernel_rfl
theorem p4_9_eq (j n0 n1 n2 : Nat) (v1 : List AbA) (v5 : Option Lk.DiskS) (v7 : Option AbR) (v9 : Int) : p4_9 (j + 1) n0 n1 n2 v1 v5 v7 v9 = (p4_8 n2 n0 n1 v1 v5 v7 (Go.IntKind.i64.wrap (v9 + (1 : Int)))) := by kernel_rfl
end DkGG

namespace DkGG
open Go Lk
noncomputable def theFnsP : Dk.FnsP where
  toFnsD := theFnsD
  f16 := f16
  p16_2050 := p16_2050
  p16_3 := p16_3
  f17 := f17
  f58 := f58
  f59 := f59
  p59_2 := p59_2
  p59_3 := p59_3
  p59_4 := p59_4
  f60 := f60
  p60_7 := p60_7
  p60_9 := p60_9
  f61 := f61
  f48 := f48
  p48_3 := p48_3
  f47 := f47
  p47_3 := p47_3
  p47_5 := p47_5
  p47_6 := p47_6
  f49 := f49
  f50 := f50
  p50_2058 := p50_2058
  p50_11 := p50_11
  p50_13 := p50_13
  f39 := f39
  f40 := f40
  f41 := f41
  f42 := f42
  p42_2052 := p42_2052
  p42_5 := p42_5
  p42_15 := p42_15
  f43 := f43
  f44 := f44
  p44_2052 := p44_2052
  p44_5 := p44_5
  f45 := f45
  p45_2052 := p45_2052
  p45_5 := p45_5
  f46 := f46
  p46_4 := p46_4
  p46_10 := p46_10
  p46_10_1 := p46_10_1
  p46_12 := p46_12
  p46_12_1 := p46_12_1
  p46_14 := p46_14
  p46_14_1 := p46_14_1
  p46_5 := p46_5
  f18 := f18
  f19 := f19
  p19_2052 := p19_2052
  p19_5 := p19_5
  p19_6 := p19_6
  p19_2059 := p19_2059
  p19_12 := p19_12
  p19_2063 := p19_2063
  p19_16 := p19_16
  p19_17 := p19_17
  p19_7 := p19_7
  f4 := f4
  p4_2052 := p4_2052
  p4_5 := p4_5
  p4_8 := p4_8
  p4_2059 := p4_2059
  p4_9 := p4_9
  f16_eq := f16_eq
  p16_2050_eq := p16_2050_eq
  p16_3_eq := p16_3_eq
  f17_eq := f17_eq
  f58_eq := f58_eq
  f59_eq := f59_eq
  p59_2_eq := p59_2_eq
  p59_3_eq := p59_3_eq
  p59_4_eq := p59_4_eq
  f60_eq := f60_eq
  p60_7_eq := p60_7_eq
  p60_9_eq := p60_9_eq
  f61_eq := f61_eq
  f48_eq := f48_eq
  p48_3_eq := p48_3_eq
  f47_eq := f47_eq
  p47_3_eq := p47_3_eq
  p47_5_eq := p47_5_eq
  p47_6_eq := p47_6_eq
  f49_eq := f49_eq
  f50_eq := f50_eq
  p50_2058_eq := p50_2058_eq
  p50_11_eq := p50_11_eq
  p50_13_eq := p50_13_eq
  f39_eq := f39_eq
  f40_eq := f40_eq
  f41_eq := f41_eq
  f42_eq := f42_eq
  p42_2052_eq := p42_2052_eq
  p42_5_eq := p42_5_eq
  p42_15_eq := p42_15_eq
  f43_eq := f43_eq
  f44_eq := f44_eq
  p44_2052_eq := p44_2052_eq
  p44_5_eq := p44_5_eq
  f45_eq := f45_eq
  p45_2052_eq := p45_2052_eq
  p45_5_eq := p45_5_eq
  f46_eq := f46_eq
  p46_4_eq := p46_4_eq
  p46_10_eq := p46_10_eq
  p46_10_1_eq := p46_10_1_eq
  p46_12_eq := p46_12_eq
  p46_12_1_eq := p46_12_1_eq
  p46_14_eq := p46_14_eq
  p46_14_1_eq := p46_14_1_eq
  p46_5_eq := p46_5_eq
  f18_eq := f18_eq
  f19_eq := f19_eq
  p19_2052_eq := p19_2052_eq
  p19_5_eq := p19_5_eq
  p19_6_eq := p19_6_eq
  p19_2059_eq := p19_2059_eq
  p19_12_eq := p19_12_eq
  p19_2063_eq := p19_2063_eq
  p19_16_eq := p19_16_eq
  p19_17_eq := p19_17_eq
  p19_7_eq := p19_7_eq
  f4_eq := f4_eq
  p4_2052_eq := p4_2052_eq
  p4_5_eq := p4_5_eq
  p4_8_eq := p4_8_eq
  p4_2059_eq := p4_2059_eq
  p4_9_eq := p4_9_eq
end DkGG

namespace DkGG
open Go Lk
set_option linter.unusedVariables false
@[irreducible] noncomputable def f27 (n : Nat) (a0 : Option AbR) : Option (Option AbR × Unit) := F G n 27 (a0, ())
@[irreducible] noncomputable def f28 (n : Nat) (a0 : Option AbR) (a1 : Option AbR) : Option (Bool × Unit) := F G n 28 (a0, a1, ())
@[irreducible] noncomputable def p28_2050 (j n0 : Nat) (v0 : Option AbR) (v1 : Option AbR) (v11 : Bool) : Option (Bool × Unit) := piece G 28 [.r, .l, .r] j [n0] (skel 53 0 [(0, .av ⟨(.p TyR), .b, v0⟩), (1, .av ⟨(.p TyR), .b, v1⟩), (11, .av ⟨.b, .r, v11⟩)])
@[irreducible] noncomputable def p28_3 (j n0 : Nat) (v0 : Option AbR) (v1 : Option AbR) : Option (Bool × Unit) := piece G 28 [.r, .r] j [n0] (skel 53 0 [(0, .av ⟨(.p TyR), .b, v0⟩), (1, .av ⟨(.p TyR), .b, v1⟩)])
@[irreducible] noncomputable def p28_6 (j n0 n1 : Nat) (v0 : Option AbR) (v1 : Option AbR) (v5 : Int) : Option (Bool × Unit) := piece G 28 [.r, .r, .r, .l, .r, .b] j [n0, n1] (skel 53 0 [(0, .av ⟨(.p TyR), .b, v0⟩), (1, .av ⟨(.p TyR), .b, v1⟩), (5, .av ⟨(.i .i64), .r, v5⟩)])
@[irreducible] noncomputable def f7 (n : Nat) (a0 : Int) (a1 : List AbA) (a2 : (List AbA × (List AbA × Unit))) : Option (Bool × Unit) := F G n 7 (a0, a1, a2, ())
@[irreducible] noncomputable def p7_7 (j n0 : Nat) (v1 : List AbA) (v7 : List AbA) (v8 : List AbA) (v9 : Option Lk.DiskS) (v11 : Option AbR) (v13 : Int) : Option (Bool × Unit) := piece G 7 [.r, .r, .r, .r, .r, .l, .r, .b] j [n0] (skel 162 0 [(1, .av ⟨(.l TyA), .b, v1⟩), (7, .av ⟨(.l TyA), .b, v7⟩), (8, .av ⟨(.l TyA), .b, v8⟩), (9, .av ⟨(.a 0), (.o .r), v9⟩), (11, .av ⟨(.p TyR), (.o (.q (.o (.q .r (.q .r (.q .r .r)))) (.q .r (.q .r (.q .r (.q .r .r)))))), v11⟩), (13, .av ⟨(.i .i64), .r, v13⟩)])
@[irreducible] noncomputable def p7_2062 (j n0 : Nat) (v7 : List AbA) (v8 : List AbA) (v9 : Option Lk.DiskS) (v11 : Option AbR) (v14 : Option Lk.DiskS) (v15 : Option AbR) (v74 : Bool) : Option (Bool × Unit) := piece G 7 [.r, .r, .r, .r, .r, .r, .r, .r, .l, .r] j [n0] (skel 162 0 [(7, .av ⟨(.l TyA), .b, v7⟩), (8, .av ⟨(.l TyA), .b, v8⟩), (9, .av ⟨(.a 0), (.o .r), v9⟩), (11, .av ⟨(.p TyR), (.o (.q (.o (.q .r (.q .r (.q .r .r)))) (.q .r (.q .r (.q .r (.q .r .r)))))), v11⟩), (14, .av ⟨(.a 0), (.o .r), v14⟩), (15, .av ⟨(.p TyR), (.o (.q (.o (.q .r (.q .r (.q .r .r)))) (.q .r (.q .r (.q .r (.q .r .r)))))), v15⟩), (74, .av ⟨.b, .r, v74⟩)])
@[irreducible] noncomputable def p7_15 (j n0 : Nat) (v7 : List AbA) (v8 : List AbA) (v9 : Option Lk.DiskS) (v11 : Option AbR) (v14 : Option Lk.DiskS) (v15 : Option AbR) : Option (Bool × Unit) := piece G 7 [.r, .r, .r, .r, .r, .r, .r, .r, .r] j [n0] (skel 162 0 [(7, .av ⟨(.l TyA), .b, v7⟩), (8, .av ⟨(.l TyA), .b, v8⟩), (9, .av ⟨(.a 0), (.o .r), v9⟩), (11, .av ⟨(.p TyR), (.o (.q (.o (.q .r (.q .r (.q .r .r)))) (.q .r (.q .r (.q .r (.q .r .r)))))), v11⟩), (14, .av ⟨(.a 0), (.o .r), v14⟩), (15, .av ⟨(.p TyR), (.o (.q (.o (.q .r (.q .r (.q .r .r)))) (.q .r (.q .r (.q .r (.q .r .r)))))), v15⟩)])
@[irreducible] noncomputable def p7_16 (j n0 n1 : Nat) (v7 : List AbA) (v8 : List AbA) (v9 : Option Lk.DiskS) (v11 : Option AbR) (v14 : Option Lk.DiskS) (v15 : Option AbR) (v16 : Int) : Option (Bool × Unit) := piece G 7 [.r, .r, .r, .r, .r, .r, .r, .r, .r, .l, .r, .b] j [n0, n1] (skel 162 0 [(7, .av ⟨(.l TyA), .b, v7⟩), (8, .av ⟨(.l TyA), .b, v8⟩), (9, .av ⟨(.a 0), (.o .r), v9⟩), (11, .av ⟨(.p TyR), (.o (.q (.o (.q .r (.q .r (.q .r .r)))) (.q .r (.q .r (.q .r (.q .r .r)))))), v11⟩), (14, .av ⟨(.a 0), (.o .r), v14⟩), (15, .av ⟨(.p TyR), (.o (.q (.o (.q .r (.q .r (.q .r .r)))) (.q .r (.q .r (.q .r (.q .r .r)))))), v15⟩), (16, .av ⟨(.i .i64), .r, v16⟩)])
@[irreducible] noncomputable def p7_18 (j n0 n1 n2 : Nat) (v7 : List AbA) (v8 : List AbA) (v9 : Option Lk.DiskS) (v11 : Option AbR) (v14 : Option Lk.DiskS) (v15 : Option AbR) (v16 : Int) : Option (Bool × Unit) := piece G 7 [.r, .r, .r, .r, .r, .r, .r, .r, .r, .l, .r, .b, .o, .r] j [n0, n1, n2] (skel 162 0 [(7, .av ⟨(.l TyA), .b, v7⟩), (8, .av ⟨(.l TyA), .b, v8⟩), (9, .av ⟨(.a 0), (.o .r), v9⟩), (11, .av ⟨(.p TyR), (.o (.q (.o (.q .r (.q .r (.q .r .r)))) (.q .r (.q .r (.q .r (.q .r .r)))))), v11⟩), (14, .av ⟨(.a 0), (.o .r), v14⟩), (15, .av ⟨(.p TyR), (.o (.q (.o (.q .r (.q .r (.q .r .r)))) (.q .r (.q .r (.q .r (.q .r .r)))))), v15⟩), (16, .av ⟨(.i .i64), .r, v16⟩)])
@[irreducible] noncomputable def p7_24 (j n0 n1 : Nat) (v9 : Option Lk.DiskS) (v11 : Option AbR) (v14 : Option Lk.DiskS) (v15 : Option AbR) : Option (Bool × Unit) := piece G 7 [.r, .r, .r, .r, .r, .r, .r, .r, .r, .r] j [n0, n1] (skel 162 0 [(9, .av ⟨(.a 0), (.o .r), v9⟩), (11, .av ⟨(.p TyR), (.o (.q (.o (.q .r (.q .r (.q .r .r)))) (.q .r (.q .r (.q .r (.q .r .r)))))), v11⟩), (14, .av ⟨(.a 0), (.o .r), v14⟩), (15, .av ⟨(.p TyR), (.o (.q (.o (.q .r (.q .r (.q .r .r)))) (.q .r (.q .r (.q .r (.q .r .r)))))), v15⟩)])
@[irreducible] noncomputable def p7_2067 (j n0 n1 n2 n3 : Nat) (v7 : List AbA) (v8 : List AbA) (v9 : Option Lk.DiskS) (v11 : Option AbR) (v14 : Option Lk.DiskS) (v15 : Option AbR) (v16 : Int) (v105 : Bool) : Option (Bool × Unit) := piece G 7 [.r, .r, .r, .r, .r, .r, .r, .r, .r, .l, .r, .b, .o, .r, .l, .b, .l, .r] j [n0, n1, n2, n3] (skel 162 0 [(7, .av ⟨(.l TyA), .b, v7⟩), (8, .av ⟨(.l TyA), .b, v8⟩), (9, .av ⟨(.a 0), (.o .r), v9⟩), (11, .av ⟨(.p TyR), (.o (.q (.o (.q .r (.q .r (.q .r .r)))) (.q .r (.q .r (.q .r (.q .r .r)))))), v11⟩), (14, .av ⟨(.a 0), (.o .r), v14⟩), (15, .av ⟨(.p TyR), (.o (.q (.o (.q .r (.q .r (.q .r .r)))) (.q .r (.q .r (.q .r (.q .r .r)))))), v15⟩), (16, .av ⟨(.i .i64), .r, v16⟩), (105, .av ⟨.b, .r, v105⟩)])
@[irreducible] noncomputable def p7_20 (j n0 n1 n2 n3 : Nat) (v7 : List AbA) (v8 : List AbA) (v9 : Option Lk.DiskS) (v11 : Option AbR) (v14 : Option Lk.DiskS) (v15 : Option AbR) (v16 : Int) : Option (Bool × Unit) := piece G 7 [.r, .r, .r, .r, .r, .r, .r, .r, .r, .l, .r, .b, .o, .r, .l, .b, .r] j [n0, n1, n2, n3] (skel 162 0 [(7, .av ⟨(.l TyA), .b, v7⟩), (8, .av ⟨(.l TyA), .b, v8⟩), (9, .av ⟨(.a 0), (.o .r), v9⟩), (11, .av ⟨(.p TyR), (.o (.q (.o (.q .r (.q .r (.q .r .r)))) (.q .r (.q .r (.q .r (.q .r .r)))))), v11⟩), (14, .av ⟨(.a 0), (.o .r), v14⟩), (15, .av ⟨(.p TyR), (.o (.q (.o (.q .r (.q .r (.q .r .r)))) (.q .r (.q .r (.q .r (.q .r .r)))))), v15⟩), (16, .av ⟨(.i .i64), .r, v16⟩)])
@[irreducible] noncomputable def p7_2069 (j n0 n1 n2 n3 n4 : Nat) (v7 : List AbA) (v8 : List AbA) (v9 : Option Lk.DiskS) (v11 : Option AbR) (v14 : Option Lk.DiskS) (v15 : Option AbR) (v16 : Int) (v124 : Bool) : Option (Bool × Unit) := piece G 7 [.r, .r, .r, .r, .r, .r, .r, .r, .r, .l, .r, .b, .o, .r, .l, .b, .r, .l, .r] j [n0, n1, n2, n3, n4] (skel 162 0 [(7, .av ⟨(.l TyA), .b, v7⟩), (8, .av ⟨(.l TyA), .b, v8⟩), (9, .av ⟨(.a 0), (.o .r), v9⟩), (11, .av ⟨(.p TyR), (.o (.q (.o (.q .r (.q .r (.q .r .r)))) (.q .r (.q .r (.q .r (.q .r .r)))))), v11⟩), (14, .av ⟨(.a 0), (.o .r), v14⟩), (15, .av ⟨(.p TyR), (.o (.q (.o (.q .r (.q .r (.q .r .r)))) (.q .r (.q .r (.q .r (.q .r .r)))))), v15⟩), (16, .av ⟨(.i .i64), .r, v16⟩), (124, .av ⟨.b, .r, v124⟩)])
@[irreducible] noncomputable def p7_22 (j n0 n1 n2 n3 n4 : Nat) (v7 : List AbA) (v8 : List AbA) (v9 : Option Lk.DiskS) (v11 : Option AbR) (v14 : Option Lk.DiskS) (v15 : Option AbR) (v16 : Int) : Option (Bool × Unit) := piece G 7 [.r, .r, .r, .r, .r, .r, .r, .r, .r, .l, .r, .b, .o, .r, .l, .b, .r, .r] j [n0, n1, n2, n3, n4] (skel 162 0 [(7, .av ⟨(.l TyA), .b, v7⟩), (8, .av ⟨(.l TyA), .b, v8⟩), (9, .av ⟨(.a 0), (.o .r), v9⟩), (11, .av ⟨(.p TyR), (.o (.q (.o (.q .r (.q .r (.q .r .r)))) (.q .r (.q .r (.q .r (.q .r .r)))))), v11⟩), (14, .av ⟨(.a 0), (.o .r), v14⟩), (15, .av ⟨(.p TyR), (.o (.q (.o (.q .r (.q .r (.q .r .r)))) (.q .r (.q .r (.q .r (.q .r .r)))))), v15⟩), (16, .av ⟨(.i .i64), .r, v16⟩)])
@[irreducible] noncomputable def p7_2071 (j n0 n1 n2 n3 n4 n5 : Nat) (v7 : List AbA) (v8 : List AbA) (v9 : Option Lk.DiskS) (v11 : Option AbR) (v14 : Option Lk.DiskS) (v15 : Option AbR) (v16 : Int) (v140 : Bool) : Option (Bool × Unit) := piece G 7 [.r, .r, .r, .r, .r, .r, .r, .r, .r, .l, .r, .b, .o, .r, .l, .b, .r, .r, .r] j [n0, n1, n2, n3, n4, n5] (skel 162 0 [(7, .av ⟨(.l TyA), .b, v7⟩), (8, .av ⟨(.l TyA), .b, v8⟩), (9, .av ⟨(.a 0), (.o .r), v9⟩), (11, .av ⟨(.p TyR), (.o (.q (.o (.q .r (.q .r (.q .r .r)))) (.q .r (.q .r (.q .r (.q .r .r)))))), v11⟩), (14, .av ⟨(.a 0), (.o .r), v14⟩), (15, .av ⟨(.p TyR), (.o (.q (.o (.q .r (.q .r (.q .r .r)))) (.q .r (.q .r (.q .r (.q .r .r)))))), v15⟩), (16, .av ⟨(.i .i64), .r, v16⟩), (140, .av ⟨.b, .r, v140⟩)])
@[irreducible] noncomputable def p7_17 (j n0 n1 n2 n3 : Nat) (v7 : List AbA) (v8 : List AbA) (v9 : Option Lk.DiskS) (v11 : Option AbR) (v14 : Option Lk.DiskS) (v15 : Option AbR) (v16 : Int) : Option (Bool × Unit) := piece G 7 [.r, .r, .r, .r, .r, .r, .r, .r, .r, .l, .r, .b, .o, .r, .r] j [n0, n1, n2, n3] (skel 162 0 [(7, .av ⟨(.l TyA), .b, v7⟩), (8, .av ⟨(.l TyA), .b, v8⟩), (9, .av ⟨(.a 0), (.o .r), v9⟩), (11, .av ⟨(.p TyR), (.o (.q (.o (.q .r (.q .r (.q .r .r)))) (.q .r (.q .r (.q .r (.q .r .r)))))), v11⟩), (14, .av ⟨(.a 0), (.o .r), v14⟩), (15, .av ⟨(.p TyR), (.o (.q (.o (.q .r (.q .r (.q .r .r)))) (.q .r (.q .r (.q .r (.q .r .r)))))), v15⟩), (16, .av ⟨(.i .i64), .r, v16⟩)])
theorem f27_eq (n : Nat) (a0 : Option AbR) : f27 (n + 1) a0 = (sel (a0.isNone) (some (none, ())) (sel (a0.isSome) (sel (a0.isSome) (sel ((some (([] : List (List UInt8 × (List UInt8 × (Int × Unit)))), (0 : Int), (0 : Int), (0 : Int), (0 : Int), ())).isSome) (sel (a0.isSome) (sel (a0.isSome) (sel (decide ((0 : Nat) + List.length (a0.getD ([], (0 : Int), (0 : Int), (0 : Int), (0 : Int), ())).fst ≤ (1073741824 : Nat))) (sel ((some (a0.getD ([], (0 : Int), (0 : Int), (0 : Int), (0 : Int), ()))).isSome) (some (some ([] ++ (a0.getD ([], (0 : Int), (0 : Int), (0 : Int), (0 : Int), ())).fst, ((some (a0.getD ([], (0 : Int), (0 : Int), (0 : Int), (0 : Int), ()))).getD ([], (0 : Int), (0 : Int), (0 : Int), (0 : Int), ())).snd), ())) none) none) none) none) none) none) none)) := by kernel_rfl
theorem f28_eq (n : Nat) (a0 : Option AbR) (a1 : Option AbR) : f28 (n + 1) a0 a1 = (sel (a0.isNone) (p28_2050 n n a0 a1 true) (p28_2050 n n a0 a1 (a1.isNone))) := by kernel_rfl
theorem p28_2050_eq (j n0 : Nat) (v0 : Option AbR) (v1 : Option AbR) (v11 : Bool) : p28_2050 (j + 1) n0 v0 v1 v11 = (sel v11 (sel (v0.isNone) (some (v1.isNone, ())) (some (false, ()))) (p28_3 n0 n0 v0 v1)) := by kernel_rfl
theorem p28_3_eq (j n0 : Nat) (v0 : Option AbR) (v1 : Option AbR) : p28_3 (j + 1) n0 v0 v1 = (sel (v0.isSome) (sel (v0.isSome) (sel (v1.isSome) (sel (v1.isSome) (sel ((↑(List.length (v0.getD ([], (0 : Int), (0 : Int), (0 : Int), (0 : Int), ())).fst) : Int) != (↑(List.length (v1.getD ([], (0 : Int), (0 : Int), (0 : Int), (0 : Int), ())).fst) : Int)) (some (false, ())) (p28_6 j n0 j v0 v1 ((0 : Int)))) none) none) none) none) := by kernel_rfl
theorem p28_6_eq (j n0 n1 : Nat) (v0 : Option AbR) (v1 : Option AbR) (v5 : Int) : p28_6 (j + 1) n0 n1 v0 v1 v5 = (sel (v0.isSome) (sel (v0.isSome) (sel (decide (v5 < (↑(List.length (v0.getD ([], (0 : Int), (0 : Int), (0 : Int), (0 : Int), ())).fst) : Int))) (sel (v0.isSome) (sel (v0.isSome) (sel (decide ((0 : Int) ≤ v5)) (sel (decide (v5 < (↑(List.length (v0.getD ([], (0 : Int), (0 : Int), (0 : Int), (0 : Int), ())).fst) : Int))) (sel (v1.isSome) (sel (v1.isSome) (sel (decide ((0 : Int) ≤ v5)) (sel (decide (v5 < (↑(List.length (v1.getD ([], (0 : Int), (0 : Int), (0 : Int), (0 : Int), ())).fst) : Int))) (sel (!((List.getD (v0.getD ([], (0 : Int), (0 : Int), (0 : Int), (0 : Int), ())).fst v5.toNat ([], [], (0 : Int), ())).fst == (List.getD (v1.getD ([], (0 : Int), (0 : Int), (0 : Int), (0 : Int), ())).fst v5.toNat ([], [], (0 : Int), ())).fst && ((List.getD (v0.getD ([], (0 : Int), (0 : Int), (0 : Int), (0 : Int), ())).fst v5.toNat ([], [], (0 : Int), ())).snd.fst == (List.getD (v1.getD ([], (0 : Int), (0 : Int), (0 : Int), (0 : Int), ())).fst v5.toNat ([], [], (0 : Int), ())).snd.fst && ((List.getD (v0.getD ([], (0 : Int), (0 : Int), (0 : Int), (0 : Int), ())).fst v5.toNat ([], [], (0 : Int), ())).snd.snd.fst == (List.getD (v1.getD ([], (0 : Int), (0 : Int), (0 : Int), (0 : Int), ())).fst v5.toNat ([], [], (0 : Int), ())).snd.snd.fst && true)))) (some (false, ())) (p28_6 j n0 n1 v0 v1 (Go.IntKind.i64.wrap (v5 + (1 : Int))))) none) none) none) none) none) none) none) none) (some (true, ()))) none) none) := by kernel_rfl
theorem f7_eq (n : Nat) (a0 : Int) (a1 : List AbA) (a2 : (List AbA × (List AbA × Unit))) : f7 (n + 1) a0 a1 a2 = (sel ((some a2).isSome) (sel ((some a2).isSome) (obind (f8 n a0) fun r97 => (obind (f16 n a0) fun r157 => (sel (Option.isNone r97.fst != Option.isNone r157.fst) (some (false, ())) (p7_7 n n a1 (((some a2).getD ([], [], ())).fst) (((some a2).getD ([], [], ())).snd.fst) (r97.fst) (r157.fst) ((0 : Int)))))) none) none) := by kernel_rfl
theorem p7_7_eq (j n0 : Nat) (v1 : List AbA) (v7 : List AbA) (v8 : List AbA) (v9 : Option Lk.DiskS) (v11 : Option AbR) (v13 : Int) : p7_7 (j + 1) n0 v1 v7 v8 v9 v11 v13 = (sel (decide (v13 < (↑v1.length : Int))) (sel (decide ((0 : Int) ≤ v13)) (sel (decide (v13 < (↑v1.length : Int))) (obind (f9 j v9 (v1.getD v13.toNat ((0 : Int), [], [], [], (0 : Int), (0 : Int), [], ()))) fun r394 => (sel (decide ((0 : Int) ≤ v13)) (sel (decide (v13 < (↑v1.length : Int))) (obind (f18 j v11 (v1.getD v13.toNat ((0 : Int), [], [], [], (0 : Int), (0 : Int), [], ()))) fun r446 => (p7_7 j n0 v1 v7 v8 (r394.snd.fst) (r446.snd.fst) (Go.IntKind.i64.wrap (v13 + (1 : Int))))) none) none)) none) none) (obind (f10 n0 v9) fun r513 => (obind (f27 n0 v11) fun r545 => (sel (Option.isNone r513.fst != Option.isNone r545.fst) (p7_2062 n0 n0 v7 v8 v9 v11 (r513.fst) (r545.fst) true) (obind (f20 n0 v9 (r513.fst)) fun r742 => (sel (!r742.fst) (p7_2062 n0 n0 v7 v8 v9 v11 (r513.fst) (r545.fst) true) (obind (f20 n0 (r513.fst) v9) fun r854 => (p7_2062 n0 n0 v7 v8 v9 v11 (r513.fst) (r545.fst) (!r854.fst))))))))) := by kernel_rfl
theorem p7_2062_eq (j n0 : Nat) (v7 : List AbA) (v8 : List AbA) (v9 : Option Lk.DiskS) (v11 : Option AbR) (v14 : Option Lk.DiskS) (v15 : Option AbR) (v74 : Bool) : p7_2062 (j + 1) n0 v7 v8 v9 v11 v14 v15 v74 = (sel v74 (some (false, ())) (p7_15 n0 n0 v7 v8 v9 v11 v14 v15)) := by kernel_rfl
theorem p7_15_eq (j n0 : Nat) (v7 : List AbA) (v8 : List AbA) (v9 : Option Lk.DiskS) (v11 : Option AbR) (v14 : Option Lk.DiskS) (v15 : Option AbR) : p7_15 (j + 1) n0 v7 v8 v9 v11 v14 v15 = (p7_16 j n0 j v7 v8 v9 v11 v14 v15 ((0 : Int))) := by kernel_rfl
theorem p7_16_eq (j n0 n1 : Nat) (v7 : List AbA) (v8 : List AbA) (v9 : Option Lk.DiskS) (v11 : Option AbR) (v14 : Option Lk.DiskS) (v15 : Option AbR) (v16 : Int) : p7_16 (j + 1) n0 n1 v7 v8 v9 v11 v14 v15 v16 = (sel (decide (v16 < (↑v7.length : Int))) (p7_18 j n0 n1 j v7 v8 v9 v11 v14 v15 v16) (sel (decide (v16 < (↑v8.length : Int))) (p7_18 j n0 n1 j v7 v8 v9 v11 v14 v15 v16) (p7_24 n1 n0 n1 v9 v11 v14 v15))) := by kernel_rfl
theorem p7_18_eq (j n0 n1 n2 : Nat) (v7 : List AbA) (v8 : List AbA) (v9 : Option Lk.DiskS) (v11 : Option AbR) (v14 : Option Lk.DiskS) (v15 : Option AbR) (v16 : Int) : p7_18 (j + 1) n0 n1 n2 v7 v8 v9 v11 v14 v15 v16 = (sel (decide (v16 < (↑v7.length : Int))) (sel (decide ((0 : Int) ≤ v16)) (sel (decide (v16 < (↑v7.length : Int))) (sel (decide ((0 : Int) ≤ v16)) (sel (decide (v16 < (↑v7.length : Int))) (obind (f9 j v9 (v7.getD v16.toNat ((0 : Int), [], [], [], (0 : Int), (0 : Int), [], ()))) fun r1306 => (obind (f18 j v11 (v7.getD v16.toNat ((0 : Int), [], [], [], (0 : Int), (0 : Int), [], ()))) fun r1324 => (p7_2067 j n0 n1 n2 j v7 v8 (r1306.snd.fst) (r1324.snd.fst) v14 v15 v16 (r1306.fst != r1324.fst)))) none) none) none) none) (p7_2067 j n0 n1 n2 j v7 v8 v9 v11 v14 v15 v16 false)) := by kernel_rfl
theorem p7_24_eq (j n0 n1 : Nat) (v9 : Option Lk.DiskS) (v11 : Option AbR) (v14 : Option Lk.DiskS) (v15 : Option AbR) : p7_24 (j + 1) n0 n1 v9 v11 v14 v15 = (sel (v11.isNone) (obind (f17 j ) fun r1526 => (some (r1526.fst, ()))) (obind (f19 j v9 v11 (((0 : Int), [], [], [], (0 : Int), (0 : Int), [], ()))) fun r1589 => (sel (r1589.fst) (obind (f19 j v14 v15 (((0 : Int), [], [], [], (0 : Int), (0 : Int), [], ()))) fun r1651 => (sel (r1651.fst) (obind (f20 j v9 (none)) fun r1694 => (sel (r1694.fst == false) (obind (f17 j ) fun r1737 => (some (r1737.fst, ()))) (some (false, ())))) (some (false, ())))) (some (false, ()))))) := by kernel_rfl
theorem p7_2067_eq (j n0 n1 n2 n3 : Nat) (v7 : List AbA) (v8 : List AbA) (v9 : Option Lk.DiskS) (v11 : Option AbR) (v14 : Option Lk.DiskS) (v15 : Option AbR) (v16 : Int) (v105 : Bool) : p7_2067 (j + 1) n0 n1 n2 n3 v7 v8 v9 v11 v14 v15 v16 v105 = (sel v105 (some (false, ())) (p7_20 n3 n0 n1 n2 n3 v7 v8 v9 v11 v14 v15 v16)) := by kernel_rfl
theorem p7_20_eq (j n0 n1 n2 n3 : Nat) (v7 : List AbA) (v8 : List AbA) (v9 : Option Lk.DiskS) (v11 : Option AbR) (v14 : Option Lk.DiskS) (v15 : Option AbR) (v16 : Int) : p7_20 (j + 1) n0 n1 n2 n3 v7 v8 v9 v11 v14 v15 v16 = (sel (decide (v16 < (↑v8.length : Int))) (sel (decide ((0 : Int) ≤ v16)) (sel (decide (v16 < (↑v8.length : Int))) (sel (decide ((0 : Int) ≤ v16)) (sel (decide (v16 < (↑v8.length : Int))) (obind (f9 j v14 (v8.getD v16.toNat ((0 : Int), [], [], [], (0 : Int), (0 : Int), [], ()))) fun r2234 => (obind (f18 j v15 (v8.getD v16.toNat ((0 : Int), [], [], [], (0 : Int), (0 : Int), [], ()))) fun r2252 => (p7_2069 j n0 n1 n2 n3 j v7 v8 v9 v11 (r2234.snd.fst) (r2252.snd.fst) v16 (r2234.fst != r2252.fst)))) none) none) none) none) (p7_2069 j n0 n1 n2 n3 j v7 v8 v9 v11 v14 v15 v16 false)) := by kernel_rfl
theorem p7_2069_eq (j n0 n1 n2 n3 n4 : Nat) (v7 : List AbA) (v8 : List AbA) (v9 : Option Lk.DiskS) (v11 : Option AbR) (v14 : Option Lk.DiskS) (v15 : Option AbR) (v16 : Int) (v124 : Bool) : p7_2069 (j + 1) n0 n1 n2 n3 n4 v7 v8 v9 v11 v14 v15 v16 v124 = (sel v124 (some (false, ())) (p7_22 n4 n0 n1 n2 n3 n4 v7 v8 v9 v11 v14 v15 v16)) := by kernel_rfl
theorem p7_22_eq (j n0 n1 n2 n3 n4 : Nat) (v7 : List AbA) (v8 : List AbA) (v9 : Option Lk.DiskS) (v11 : Option AbR) (v14 : Option Lk.DiskS) (v15 : Option AbR) (v16 : Int) : p7_22 (j + 1) n0 n1 n2 n3 n4 v7 v8 v9 v11 v14 v15 v16 = (obind (f20 j v9 v14) fun r2490 => (obind (f28 j v11 v15) fun r2514 => (sel (r2490.fst != r2514.fst) (p7_2071 j n0 n1 n2 n3 n4 j v7 v8 v9 v11 v14 v15 v16 true) (obind (f20 j v14 v9) fun r2643 => (obind (f28 j v11 v15) fun r2685 => (p7_2071 j n0 n1 n2 n3 n4 j v7 v8 v9 v11 v14 v15 v16 (r2643.fst != r2685.fst))))))) := by kernel_rfl
theorem p7_2071_eq (j n0 n1 n2 n3 n4 n5 : Nat) (v7 : List AbA) (v8 : List AbA) (v9 : Option Lk.DiskS) (v11 : Option AbR) (v14 : Option Lk.DiskS) (v15 : Option AbR) (v16 : Int) (v140 : Bool) : p7_2071 (j + 1) n0 n1 n2 n3 n4 n5 v7 v8 v9 v11 v14 v15 v16 v140 = (sel v140 (some (false, ())) (p7_17 n3 n0 n1 n2 n3 v7 v8 v9 v11 v14 v15 v16)) := by kernel_rfl
theorem p7_17_eq (j n0 n1 n2 n3 : Nat) (v7 : List AbA) (v8 : List AbA) (v9 : Option Lk.DiskS) (v11 : Option AbR) (v14 : Option Lk.DiskS) (v15 : Option AbR) (v16 : Int) : p7_17 (j + 1) n0 n1 n2 n3 v7 v8 v9 v11 v14 v15 v16 = (p7_16 n2 n0 n1 v7 v8 v9 v11 v14 v15 (Go.IntKind.i64.wrap (v16 + (1 : Int)))) := by kernel_rfl
end DkGG

namespace DkGG
open Go Lk
noncomputable def theFnsC : Dk.FnsC where
  toFnsP := theFnsP
  f27 := f27
  f28 := f28
  p28_2050 := p28_2050
  p28_3 := p28_3
  p28_6 := p28_6
  f7 := f7
  p7_7 := p7_7
  p7_2062 := p7_2062
  p7_15 := p7_15
  p7_16 := p7_16
  p7_18 := p7_18
  p7_24 := p7_24
  p7_2067 := p7_2067
  p7_20 := p7_20
  p7_2069 := p7_2069
  p7_22 := p7_22
  p7_2071 := p7_2071
  p7_17 := p7_17
  f27_eq := f27_eq
  f28_eq := f28_eq
  p28_2050_eq := p28_2050_eq
  p28_3_eq := p28_3_eq
  p28_6_eq := p28_6_eq
  f7_eq := f7_eq
  p7_7_eq := p7_7_eq
  p7_2062_eq := p7_2062_eq
  p7_15_eq := p7_15_eq
  p7_16_eq := p7_16_eq
  p7_18_eq := p7_18_eq
  p7_24_eq := p7_24_eq
  p7_2067_eq := p7_2067_eq
  p7_20_eq := p7_20_eq
  p7_2069_eq := p7_2069_eq
  p7_22_eq := p7_22_eq
  p7_2071_eq := p7_2071_eq
  p7_17_eq := p7_17_eq
end DkGG

